/- Plain laws of the printed functions. No conditions but those in each statement. -/
import Derived.Test.YtbipmejjnalmiaaDoorEv7
import Derived.Test.YtbipmejjnalmiaaDoorG3
set_option linter.unusedVariables false
set_option linter.unusedSimpArgs false
namespace Go.Proofs.YtbipmejjnalmiaaDoor.Ev
open Go.RowKit
theorem zij {n:Int} (h1 : -9223372036854775808≤n) (h2:n≤9223372036854775807):zan n=some (Lib.itoa n):=by
 unfold zan znm
 rw [if_pos ⟨rfl,h1,h2⟩]; rfl
theorem zoq (c:UInt8):(z14 c).toNat.toUInt8=c:=by simp [z14]
theorem zb5:∀ x:List UInt8,Op.bytesLess x x=false
 | []=>rfl
 | a::x=>by simp [Op.bytesLess,zb5 x]
theorem zik:∀ x y z:List UInt8,Op.bytesLess x y=true→Op.bytesLess y z=true→Op.bytesLess x z=true
 | _,[],_,h,_=>by simp [Op.bytesLess] at h
 | _,_::_,[],_,h=>by simp [Op.bytesLess] at h
 | [],_::_,_::_,_,_=>rfl
 | a::x,b::y,c::z,h1,h2=>by
  simp only [Op.bytesLess,Bool.or_eq_true,Bool.and_eq_true,decide_eq_true_eq,beq_iff_eq] at h1 h2 ⊢
  rcases h1 with h1 | ⟨rfl,h1⟩
  ·rcases h2 with h2 | ⟨rfl,h2⟩
   ·exact .inl (UInt8.lt_trans h1 h2)
   ·exact .inl h1
  ·rcases h2 with h2 | ⟨rfl,h2⟩
   ·exact .inl h2
   ·exact .inr ⟨rfl,zik x y z h1 h2⟩
theorem zor:∀ x y:List UInt8,Op.bytesLess x y=false→x≠y→Op.bytesLess y x=true
 | [],[],_,h=>absurd rfl h
 | _::_,[],_,_=>rfl
 | [],_::_,h,_=>by simp [Op.bytesLess] at h
 | a::x,b::y,h1,h2=>by
  simp only [Op.bytesLess,Bool.or_eq_false_iff,decide_eq_false_iff_not,Bool.and_eq_false_iff,beq_eq_false_iff_ne] at h1
  simp only [Op.bytesLess,Bool.or_eq_true,Bool.and_eq_true,decide_eq_true_eq,beq_iff_eq]
  by_cases h:a=b
  ·subst h
   refine .inr ⟨rfl,zor x y (h1.2.resolve_left (fun h=>h rfl)) (fun e=>h2 (by rw [e]))⟩
  ·exact .inl (UInt8.lt_of_le_of_ne (UInt8.not_lt.1 h1.1) (Ne.symm h))
theorem zyn {x y:List UInt8} (h:Op.bytesLess x y=true):Op.bytesLess y x=false:=by
 cases h':Op.bytesLess y x
 ·rfl
 ·have:=zik x y x h h'
  rw [zb5] at this; cases this
def z1e (b:UInt8):List UInt8→List UInt8→List (List UInt8)
 | cur,[]=>[cur]
 | cur,x::l=>if x=b then cur::z1e b [] l else z1e b (cur++[x]) l
def z1h (b:UInt8) (s:List UInt8):List (List UInt8):=z1e b [] s
theorem zfx (b:UInt8):∀ (l cur:List UInt8),0<(z1e b cur l).length
 | [],cur=>by simp [z1e]
 | x::l,cur=>by
  unfold z1e
  split
  ·simp
  ·exact zfx b l _
theorem zcz (b:UInt8):∀ (l cur:List UInt8),(z1e b cur l).length=l.count b+1
 | [],cur=>by simp [z1e]
 | x::l,cur=>by
  unfold z1e
  by_cases h:x=b
  ·rw [if_pos h,List.length_cons,zcz b l,h,List.count_cons_self]
  ·rw [if_neg h,zcz b l,List.count_cons_of_ne h]
theorem zyo (b:UInt8):∀ (l cur:List UInt8),(z1e b cur l).length≤l.length+1:=fun l cur=>by
 rw [zcz]; have:=List.count_le_length (a:=b) (l:=l); omega
theorem zil (b:UInt8):∀ (l cur x:List UInt8),x∈z1e b cur l→x.length≤cur.length+l.length
 | [],cur,x,h=>by
  simp [z1e] at h
  subst h; simp
 | y::l,cur,x,h=>by
  unfold z1e at h
  split at h
  ·rcases List.mem_cons.1 h with rfl | h
   ·simp
   ·have:=zil b l [] x h; simp at this ⊢; omega
  ·have:=zil b l _ x h; simp at this ⊢; omega
theorem zim {b:UInt8}:∀ (l cur:List UInt8),b∉l→z1e b cur l=[cur++l]
 | [],cur,_=>by simp [z1e]
 | x::l,cur,h=>by
  have h1:¬ x=b:=fun e=>h (by simp [e])
  unfold z1e
  rw [if_neg h1,zim l _ (fun e=>h (by simp [e]))]
  simp
theorem zin {b:UInt8}:∀ (pre cur l:List UInt8),b∉pre→z1e b cur (pre++b::l)=(cur++pre)::z1e b [] l
 | [],cur,l,_=>by simp [z1e]
 | x::pre,cur,l,h=>by
  have h1:¬ x=b:=fun e=>h (by simp [e])
  show z1e b cur (x::(pre++b::l))=_
  rw [z1e,if_neg h1,zin pre _ l (fun e=>h (by simp [e]))]
  simp
theorem zio (x c:UInt8):decide (z14 x=z14 c)=decide (x=c):=by
 refine decide_eq_decide.2 ⟨fun e=>?_,fun e=>by rw [e]⟩
 have e:(x.toNat:Int)=(c.toNat:Int):=e
 apply UInt8.toNat.inj
 omega
theorem zos {k:Nat} (hk:KK≤k) {s:List UInt8} (hs:s.length≤1000000000) (c:UInt8):zcl k s (z14 c)=some (z1h c s):=by
 have hK:=z1n
 have hL:=z4x
 unfold zcl
 have:=z5r (α:=UInt8) (A:=Int×List (List UInt8)) (L:=fun n i z=>z8t k n s (z14 c) z.1 i z.2 (fun s_3 from_4 q_5=>(if 0≤from_4∧from_4≤(s_3.length:Int)∧(s_3.length:Int)≤s_3.length then (if (q_5.length+[((s_3.drop from_4.toNat).take (s_3.length-from_4.toNat))].length)*16≤LIM then some (q_5++[((s_3.drop from_4.toNat).take (s_3.length-from_4.toNat))]) else none) else none)))
  (I:=fun pre z=>∃ f:Nat,z.1=(f:Int)∧f≤pre.length∧z.2.length≤pre.length∧z.2++z1e c ((s.drop f).take (pre.length-f)) (s.drop pre.length)=z1h c s) (G:=fun _ _=>some (z1h c s)) s ?_ ?_ k (by omega) (0,[]) ⟨0,rfl,by simp,by simp,by simp [z1h]⟩
 ·exact this
 ·rintro n pre x post ⟨f0,q⟩ hx ⟨f,e1,e2,e3,e4⟩ ih hg hlt
  simp only at e1 e3 e4 ih
  subst e1
  have hw:=z1x (i:=pre.length) (by omega)
  have hpl:pre.length<s.length:=by rw [hx]; simp
  have hd:s.drop pre.length=x::s.drop (pre.length+1):=by rw [hx]; simp
  rw [hd] at e4
  unfold z1e at e4
  simp only [z8t,hlt,decide_true,if_true,Int.natCast_nonneg,Int.toNat_natCast,hg,Option.bind_some,zio,hw]
  by_cases h:x=c
  ·have b1:(f:Int)≤(pre.length:Int):=by omega
   have b2:(pre.length:Int)≤(s.length:Int):=by omega
   have hlim:(q.length+1)*16≤LIM:=by omega
   rw [if_pos h] at e4
   simp only [h,decide_true,if_true,b1,b2,and_self,List.length_singleton,hlim]
   refine ih (_,_) ⟨pre.length+1,rfl,by simp,by simp; omega,?_⟩
   simp only [List.length_append,List.length_singleton,Nat.sub_self,List.take_zero,List.append_assoc,List.singleton_append]
   exact e4
  ·rw [if_neg h] at e4
   simp only [h,decide_false,Bool.false_eq_true,if_false]
   refine ih (_,_) ⟨f,rfl,by simp; omega,by simp; omega,?_⟩
   simp only [List.length_append,List.length_singleton]
   rw [← e4]
   congr 1
   have e5:(s.drop f).take (pre.length+1-f)=(s.drop f).take (pre.length-f)++[x]:=by
    rw [show pre.length+1-f=(pre.length-f)+1 by omega,List.take_succ_eq_append_getElem (by rw [List.length_drop]; omega)]
    congr 1
    rw [List.getElem_drop]
    have:s[f+(pre.length-f)]?=some x:=by rw [show f+(pre.length-f)=pre.length by omega]; exact hg
    obtain ⟨_,e⟩:=List.getElem?_eq_some_iff.1 this
    simp [e]
   rw [e5]
 ·rintro n ⟨f0,q⟩ ⟨f,e1,e2,e3,e4⟩
  simp only at e1 e3 e4
  subst e1
  rw [List.drop_length] at e4
  unfold z1e at e4
  have b1:(f:Int)≤(s.length:Int):=by omega
  have hlim:(q.length+1)*16≤LIM:=by omega
  simp only [z8t,Int.lt_irrefl,decide_false,Bool.false_eq_true,if_false,Int.natCast_nonneg,b1,Int.le_refl,and_self,if_true,Int.toNat_natCast,List.length_singleton,hlim]
  rw [e4]
theorem zot {c:UInt8}:∀ {l:List UInt8},Lib.indexByte l c = -1→c∉l
 | [],_=>by simp
 | b::l,h=>by
  have hge:=Lib.indexByte_ge l c
  unfold Lib.indexByte at h
  by_cases h1:(b==c)=true
  ·rw [if_pos h1] at h; omega
  ·rw [if_neg h1] at h
   by_cases h2:(Lib.indexByte l c == -1)=true
   ·have:=zot (l:=l) (by simpa using h2)
    intro hm
    rcases List.mem_cons.1 hm with e | e
    ·subst e; simp at h1
    ·exact this e
   ·rw [if_neg h2] at h; omega
theorem zou {c:UInt8}:∀ {l:List UInt8},Lib.indexByte l c ≠ -1→∃ (pre post:List UInt8),l=pre++c::post∧c∉pre∧Lib.indexByte l c=(pre.length:Int)
 | [],h=>absurd rfl h
 | b::l,h=>by
  unfold Lib.indexByte at h ⊢
  by_cases h1:(b==c)=true
  ·rw [if_pos h1] at h ⊢
   have:b=c:=by simpa using h1
   exact ⟨[],l,by rw [this]; rfl,by simp,rfl⟩
  ·rw [if_neg h1] at h ⊢
   by_cases h2:(Lib.indexByte l c == -1)=true
   ·rw [if_pos h2] at h; exact absurd rfl h
   ·rw [if_neg h2] at h ⊢
    obtain ⟨pre,post,e1,e2,e3⟩:=zou (l:=l) (by simpa using h2)
    refine ⟨b::pre,post,by rw [e1]; rfl,?_,by rw [e3]; simp⟩
    intro hm
    rcases List.mem_cons.1 hm with e | e
    ·subst e; simp at h1
    ·exact e2 e
theorem zyp (s:List UInt8) (c:UInt8):zcq s [c]=some (Lib.indexByte s c):=by
 unfold zcq zi8 zi7 zng
 simp only [List.getElem?_cons_zero,Option.bind_some,zoq]
 by_cases h:[c]=s
 ·subst h; simp [Lib.indexByte]
 ·rw [decide_eq_false h]; simp
theorem zyq {k:Nat} (s:List UInt8) (c:UInt8):zfi k s [c]=some ((s.count c:Nat):Int):=by
 unfold zfi znf
 simp [zoq,Lib.countByte]
theorem zov {k:Nat} {c:UInt8} {s0:List UInt8} {N:Nat} (hN:N=s0.count c) (hs0:s0.length≤1000000000) {E:List UInt8→Int→List (List UInt8)→Option (List (List UInt8))} :
  ∀ (d n i:Nat) (s:List UInt8) (q:List (List UInt8)),d=s.count c→d<n→i+d=N→q.length=N+1→s.length≤s0.length→q.take i++z1e c [] s=z1h c s0 →
  ∃ s' q',c∉s'∧q'.length=N+1∧q'.take N++[s']=z1h c s0∧z8z k n s [c] 0 (N:Int) (i:Int) q E=E s' (N:Int) q'
 | d,0,i,s,q,_,h,_,_,_,_=>by omega
 | 0,n+1,i,s,q,hd,hn,hi,hq,hsl,hI=>by
  have hlt:¬ (i:Int)<(N:Int):=by omega
  have hc:c∉s:=by rw [← List.count_eq_zero]; exact hd.symm
  refine ⟨s,q,hc,hq,?_,?_⟩
  ·rw [zim s [] hc,List.nil_append] at hI
   rw [show N=i by omega]; exact hI
  ·simp only [z8z,hlt,decide_false,Bool.false_eq_true,if_false]
   rw [show i=N by omega]
 | d+1,n+1,i,s,q,hd,hn,hi,hq,hsl,hI=>by
  have hL:=z4x
  have hlt:(i:Int)<(N:Int):=by omega
  have hne:Lib.indexByte s c ≠ -1:=fun h=>by
   have:=List.count_eq_zero.2 (zot h)
   omega
  obtain ⟨pre,post,e1,e2,e3⟩:=zou hne
  have hw:=z1x (i:=i) (by have:=List.count_le_length (a:=c) (l:=s0); omega)
  have hpl:s.length=pre.length+(post.length+1):=by rw [e1]; simp
  have w1:za ((pre.length:Int)+0)=(pre.length:Int):=by rw [z2c (by omega) (by omega)]; omega
  have w2:za ((pre.length:Int)+(([c]:List UInt8).length:Int))=((pre.length+1:Nat):Int):=by rw [List.length_singleton,z2c (by omega) (by omega)]; rfl
  have hneg:¬ ((pre.length:Int)<0):=by omega
  have b1:(pre.length:Int)≤(s.length:Int):=by omega
  have b2:((pre.length+1:Nat):Int)≤(s.length:Int):=by omega
  have hiq:i<q.length:=by omega
  have hcnt:post.count c=d:=by
   rw [e1,List.count_append,List.count_cons_self,List.count_eq_zero.2 e2] at hd; omega
  have hdr:(s.drop (pre.length+1)).take (s.length-(pre.length+1))=post:=by
   rw [List.take_of_length_le (by rw [List.length_drop]; exact Nat.le_refl _),e1]; simp
  have htk:s.take pre.length=pre:=by rw [e1]; simp
  obtain ⟨s',q',g1,g2,g3,g4⟩:=zov (k:=k) (E:=E) hN hs0 d n (i+1) post (q.set i pre) hcnt.symm (by omega) (by omega) (by rw [List.length_set]; exact hq) (by omega) (by
   rw [List.take_succ_eq_append_getElem (by rw [List.length_set]; exact hiq),List.getElem_set_self,List.take_set_of_le (Nat.le_refl _),List.append_assoc]
   rw [e1,zin pre [] post e2] at hI
   exact hI)
  refine ⟨s',q',g1,g2,g3,?_⟩
  rw [← g4]
  simp only [z8z,hlt,decide_true,if_true,zyp,e3,Option.bind_some,hneg,decide_false,Bool.false_eq_true,if_false,w1,w2,Int.natCast_nonneg,Int.le_refl,b1,b2,and_self,hiq,Int.toNat_natCast,List.getElem?_eq_getElem hiq,hw,hdr,htk]
theorem zow {k:Nat} (hk:KK≤k) {s:List UInt8} (hs:s.length≤1000000000) (c:UInt8):zcr k s [c]=some (z1h c s):=by
 have hK:=z1n
 have hL:=z4x
 have hcl:=List.count_le_length (a:=c) (l:=s)
 have w1:za ((s.length:Int)+1)=((s.length+1:Nat):Int):=by rw [z2c (by omega) (by omega)]; rfl
 have w2:za (((s.count c:Nat):Int)+1)=((s.count c+1:Nat):Int):=by rw [z2c (by omega) (by omega)]; rfl
 have hmn:(if (((s.length+1:Nat):Int)<((s.count c+1:Nat):Int)) then ((s.length+1:Nat):Int) else ((s.count c+1:Nat):Int))=((s.count c+1:Nat):Int):=if_neg (by omega)
 have w3:za (((s.count c+1:Nat):Int)-1)=((s.count c:Nat):Int):=by rw [z2c (by omega) (by omega)]; omega
 have hb:((s.count c+1:Nat):Int)*16≤(LIM:Int):=by omega
 unfold zcr zia
 rw [decide_eq_false (show ¬ ((-1:Int)=0) by omega),if_neg (by simp),decide_eq_false (show ¬ ([c]=([]:List UInt8)) by simp),if_neg (by simp),decide_eq_true (show (-1:Int)<0 by omega),if_pos rfl,zyq]
 simp only [Option.bind_some,w1,w2,hmn,Int.natCast_nonneg,Int.le_refl,true_and,w3]
 rw [if_pos hb,Int.toNat_natCast]
 obtain ⟨s',q',g1,g2,g3,g4⟩:=zov (k:=k) (c:=c) (s0:=s) (N:=s.count c) rfl hs (E:=fun s_6 i_7 q_8=>(if 0≤i_7∧i_7.toNat<List.length q_8 then (q_8[i_7.toNat]?).bind fun y_9=>(q_8[i_7.toNat]?).bind fun y_10=>(if (0:Int)≤(za (i_7+1))∧(za (i_7+1))≤(q_8.set i_7.toNat s_6).length then some ((q_8.set i_7.toNat s_6).take ((za (i_7+1)).toNat)) else none) else none)) (s.count c) k 0 s (List.replicate (s.count c+1) []) rfl (by omega) (by omega) (by simp) (Nat.le_refl _) (by simp [z1h])
 have h0:((0:Nat):Int)=0:=rfl
 rw [h0] at g4
 rw [g4]
 have hlt:s.count c<q'.length:=by omega
 have b3:((s.count c+1:Nat):Int)≤((q'.set (s.count c) s').length:Int):=by rw [List.length_set]; omega
 simp only [Int.natCast_nonneg,Int.toNat_natCast,hlt,and_self,if_true,List.getElem?_eq_getElem hlt,Option.bind_some,w2,Int.le_refl,b3]
 rw [List.take_succ_eq_append_getElem (by rw [List.length_set]; exact hlt),List.getElem_set_self,List.take_set_of_le (Nat.le_refl _),g3]
def digC (c:UInt8):Bool:=decide (48≤c.toNat∧c.toNat≤57)
def z1t (l:List UInt8):Nat:=l.foldl (fun a c=>a*10+(c.toNat-48)) 0
def z1y (l:List UInt8):Bool:=l.all digC&&(decide (l.length=1)||(decide (1<l.length)&&decide (l.head?≠some 48)))
def z25 (s:List UInt8):Option Int:=match s with
 | []=>none
 | c::r=>if c=45 then (if z1y r=true∧r.length≤18∧r.head?≠some 48 then some (-(z1t r:Int)) else none) else if z1y (c::r)=true∧r.length<18 then some (z1t (c::r):Int) else none
theorem zfy (l:List UInt8) (c:UInt8):z1t (l++[c])=z1t l*10+(c.toNat-48):=by simp [z1t]
theorem zb6 {c:UInt8}:digC c=true↔48≤c.toNat∧c.toNat≤57:=by simp [digC]
theorem ziq {P:List UInt8→Prop} (h0:P []) (h1:∀ l c,P l→P (l++[c])) (l:List UInt8):P l:=by
 have:∀ n (l:List UInt8),l.length=n→P l:=by
  intro n
  induction n with
  | zero=>intro l hl; rw [List.length_eq_zero_iff.1 hl]; exact h0
  | succ n ih =>
   intro l hl
   have hne:l≠[]:=fun e=>by rw [e] at hl; simp at hl
   rw [← List.dropLast_concat_getLast hne]
   exact h1 _ _ (ih _ (by rw [List.length_dropLast]; omega))
 exact this _ l rfl
theorem zyr (l:List UInt8):l.all digC=true→z1t l<10 ^ l.length:=by
 refine ziq (P:=fun l=>l.all digC=true→z1t l<10 ^ l.length) (by simp [z1t]) (fun l c ih h=>?_) l
 rw [List.all_append,Bool.and_eq_true] at h
 have h1:=ih h.1
 have h2:=zb6.1 (by simpa using h.2:digC c=true)
 rw [zfy,List.length_append,List.length_singleton,Nat.pow_succ]
 omega
theorem zox {c:UInt8} (h:48≤c.toNat∧c.toNat≤57):UInt8.ofNat (48+(c.toNat-48))=c:=by
 apply UInt8.toNat.inj
 simp [UInt8.toNat_ofNat']; omega
theorem zoy (l:List UInt8):l.all digC=true→l.head?≠some 48→l≠[]→0<z1t l:=by
 refine ziq (P:=fun l=>l.all digC=true→l.head?≠some 48→l≠[]→0<z1t l) (fun _ _ h=>absurd rfl h) (fun l c ih h h48 _=>?_) l
 rw [List.all_append,Bool.and_eq_true] at h
 have h2:=zb6.1 (by simpa using h.2:digC c=true)
 rw [zfy]
 by_cases hl:l=[]
 ·subst hl
  have:c≠48:=fun e=>h48 (by simp [e])
  have:c.toNat≠48:=fun e=>this (UInt8.toNat.inj (by simpa using e))
  omega
 ·have:=ih h.1 (fun e=>h48 (by cases l with | nil=>exact absurd rfl hl | cons a l=>simpa using e)) hl
  omega
theorem zoz (l:List UInt8):z1y l=true→Lib.decDigits (z1t l)=l:=by
 refine ziq (P:=fun l=>z1y l=true→Lib.decDigits (z1t l)=l) (fun h=>by simp [z1y] at h) (fun l c ih h=>?_) l
 simp only [z1y,List.all_append,Bool.and_eq_true,Bool.or_eq_true,decide_eq_true_eq,List.length_append,List.length_singleton] at h
 obtain ⟨⟨h1,h2⟩,h3⟩:=h
 have h2:=zb6.1 (by simpa using h2:digC c=true)
 rw [zfy]
 by_cases hl:l=[]
 ·subst hl
  have e:z1t []*10+(c.toNat-48)=c.toNat-48:=by simp [z1t]
  rw [e,Lib.decDigits,dif_pos (by omega),zox h2]; rfl
 ·have hlen:0<l.length:=List.length_pos_iff.2 hl
  have h4:(l++[c]).head?≠some 48:=h3.elim (fun h=>by omega) fun h=>h.2
  have h5:l.head?≠some 48:=fun e=>h4 (by cases l with | nil=>exact absurd rfl hl | cons a l=>simpa using e)
  have hp:=zoy l h1 h5 hl
  have hc:z1y l=true:=by
   simp only [z1y,h1,Bool.true_and,Bool.or_eq_true,Bool.and_eq_true,decide_eq_true_eq]
   by_cases h6:l.length=1
   ·exact .inl h6
   ·exact .inr ⟨by omega,h5⟩
  rw [Lib.decDigits,dif_neg (by omega),show (z1t l*10+(c.toNat-48)) / 10=z1t l by omega,show (z1t l*10+(c.toNat-48)) % 10=c.toNat-48 by omega,ih hc,zox h2]
theorem zp0 {d:Nat} (h:d<10):(UInt8.ofNat (48+d)).toNat=48+d:=by simp [UInt8.toNat_ofNat']; omega
theorem zir (u:Nat):z1y (Lib.decDigits u)=true∧z1t (Lib.decDigits u)=u:=by
 induction u using Nat.strongRecOn with
 | _ u ih =>
  rw [Lib.decDigits]
  split
  ·rename_i h
   have:=zp0 h
   exact ⟨by simp [z1y,digC,this]; omega,by simp only [z1t,List.foldl_cons,List.foldl_nil,this]; omega⟩
  ·rename_i h
   obtain ⟨h1,h2⟩:=ih (u / 10) (by omega)
   have h3:=zp0 (show u % 10<10 by omega)
   simp only [z1y,Bool.and_eq_true,Bool.or_eq_true,decide_eq_true_eq] at h1
   obtain ⟨h4,h5⟩:=h1
   have hne:Lib.decDigits (u / 10)≠[]:=fun e=>by rw [e] at h5; simp at h5
   have h48:(Lib.decDigits (u / 10)).head?≠some 48:=by
    rcases h5 with h5 | h5
    ·intro e
     have hl:Lib.decDigits (u / 10)=[48]:=by
      cases hq:Lib.decDigits (u / 10) with
      | nil=>exact absurd hq hne
      | cons a l =>
       rw [hq] at h5 e
       simp at h5 e
       rw [h5,e]
     rw [hl] at h2
     simp [z1t] at h2
     omega
    ·exact h5.2
   have hpos:0<(Lib.decDigits (u / 10)).length:=List.length_pos_iff.2 hne
   refine ⟨?_,by rw [zfy,h2,h3]; omega⟩
   simp only [z1y,List.all_append,h4,Bool.true_and,Bool.and_eq_true,Bool.or_eq_true,decide_eq_true_eq,List.length_append,List.length_singleton]
   refine ⟨by simp [digC,h3]; omega,.inr ⟨by omega,?_⟩⟩
   cases hq:Lib.decDigits (u / 10) with
   | nil=>exact absurd hq hne
   | cons a l=>rw [hq] at h48; simpa using h48
theorem zis {l:List UInt8} (h:z1y l=true):l≠[]:=fun e=>by rw [e] at h; simp [z1y] at h
theorem z94 {l:List UInt8} (h:z1y l=true):l.all digC=true:=by
 simp only [z1y,Bool.and_eq_true] at h; exact h.1
theorem zp1 {c:UInt8} {r:List UInt8} (h:z1y (c::r)=true):c≠45∧c≠43:=by
 have:=z94 h
 simp only [List.all_cons,Bool.and_eq_true] at this
 have:=zb6.1 this.1
 exact ⟨fun e=>by subst e; simp at this,fun e=>by subst e; simp at this⟩
theorem zit {s:List UInt8} {v:Int}:z25 s=some v↔Lib.itoa v=s∧(s.length≤18∨(s.head?=some 45∧s.length≤19)):=by
 constructor
 ·intro h
  match s with
  | []=>cases h
  | c::r =>
   simp only [z25] at h
   split at h
   ·rename_i hc
    subst hc
    split at h
    ·rename_i h1
     obtain ⟨h1,h2,h3⟩:=h1
     cases h
     have hp:=zoy r (z94 h1) h3 (zis h1)
     refine ⟨?_,.inr ⟨rfl,by simp; omega⟩⟩
     rw [Lib.itoa_neg _ hp,zoz r h1]
    ·cases h
   ·split at h
    ·rename_i h1
     cases h
     refine ⟨?_,.inl (by simp; omega)⟩
     rw [Lib.itoa_nonneg,zoz _ h1.1]
    ·cases h
 ·rintro ⟨h,hl⟩
  rcases Int.lt_or_le v 0 with hv | hv
  ·obtain ⟨u,rfl⟩:∃ u:Nat,v = -(u:Int):=⟨v.natAbs,by omega⟩
   rw [Lib.itoa_neg u (by omega)] at h
   subst h
   obtain ⟨h1,h2⟩:=zir u
   have h48:(Lib.decDigits u).head?≠some 48:=by
    intro e
    simp only [z1y,Bool.and_eq_true,Bool.or_eq_true,decide_eq_true_eq] at h1
    rcases h1.2 with h5 | h5
    ·have hl:Lib.decDigits u=[48]:=by
      cases hq:Lib.decDigits u with
      | nil=>rw [hq] at h5; simp at h5
      | cons a l =>
       rw [hq] at h5 e
       simp at h5 e
       rw [h5,e]
     rw [hl] at h2
     simp [z1t] at h2
     omega
    ·exact h5.2 e
   have hl2:(Lib.decDigits u).length≤18:=by
    simp only [List.length_cons,List.head?_cons,true_and] at hl
    omega
   simp only [z25,if_true]
   rw [if_pos ⟨h1,hl2,h48⟩,h2]
  ·obtain ⟨u,rfl⟩:∃ u:Nat,v=(u:Int):=⟨v.toNat,by omega⟩
   rw [Lib.itoa_nonneg] at h
   obtain ⟨h1,h2⟩:=zir u
   rw [h] at h1 h2
   match s,h1,h2,hl with
   | [],h1,_,_=>simp [z1y] at h1
   | c::r,h1,h2,hl =>
    obtain ⟨n1,n2⟩:=zp1 h1
    have hl2:r.length<18:=by
     rcases hl with hl | ⟨h3,_⟩
     ·simp at hl; omega
     ·simp at h3; exact absurd h3 n1
    simp only [z25]
    rw [if_neg n1,if_pos ⟨h1,hl2⟩,h2]
theorem zp2:∀ (r:List UInt8) (acc:Nat),r.length≤18→acc<10 ^ (18-r.length)→r.all digC=true→Lib.parseUintM 18446744073709551615 acc r=.ok (r.foldl (fun a c=>a*10+(c.toNat-48)) acc)
 | [],acc,_,_,_=>rfl
 | c::r,acc,hl,ha,hd=>by
  simp only [List.all_cons,Bool.and_eq_true] at hd
  have hc:=zb6.1 hd.1
  simp only [List.length_cons] at hl ha
  have e1:18-r.length=(18-(r.length+1))+1:=by omega
  have h1:acc*10+(c.toNat-48)<10 ^ (18-r.length):=by rw [e1,Nat.pow_succ]; omega
  have h2:10 ^ (18-r.length)≤10 ^ 18:=Nat.pow_le_pow_right (by omega) (by omega)
  have h3:(10:Nat) ^ 18=1000000000000000000:=by decide
  rw [Lib.parseUintM,if_pos hc,if_neg (by omega),if_neg (by omega),zp2 r _ (by omega) h1 hd.2]
  rfl
theorem zp3 {r:List UInt8} (hl:r.length≤18) (hn:r≠[]) (hd:r.all digC=true):Lib.parseUintB 64 r=.ok (z1t r):=by
 have e:(2:Nat) ^ 64-1=18446744073709551615:=by decide
 unfold Lib.parseUintB
 rw [if_neg hn,e,zp2 r 0 hl (Nat.pow_pos (by omega)) hd]
 rfl
theorem ziu {l:List UInt8} (h:l.all digC=true) (hl:l.length≤18):z1t l<1000000000000000000:=by
 have h1:=zyr l h
 have h2:10 ^ l.length≤10 ^ 18:=Nat.pow_le_pow_right (by omega) hl
 have h3:(10:Nat) ^ 18=1000000000000000000:=by decide
 omega
theorem zp4 {s:List UInt8} {v:Int} (h:z25 s=some v):prs s=(v,false) ∧ -1000000000000000000<v∧v<1000000000000000000:=by
 have e63:(2:Nat) ^ (64-1)=9223372036854775808:=by decide
 match s with
 | []=>cases h
 | c::r =>
  simp only [z25] at h
  split at h
  ·rename_i hc
   subst hc
   split at h
   ·rename_i h1
    obtain ⟨h1,h2,h3⟩:=h1
    cases h
    have hv:=ziu (z94 h1) h2
    refine ⟨?_,by omega,by omega⟩
    unfold prs
    rw [Lib.parseIntB_minus,zp3 h2 (zis h1) (z94 h1),e63]
    simp only [Lib.signedC]
    rw [if_neg (by omega)]
   ·cases h
  ·rename_i hc
   split at h
   ·rename_i h1
    obtain ⟨h1,h2⟩:=h1
    cases h
    have hl:(c::r).length≤18:=by simp; omega
    have hv:=ziu (z94 h1) hl
    obtain ⟨n1,n2⟩:=zp1 h1
    refine ⟨?_,by omega,by omega⟩
    unfold prs
    rw [Lib.parseIntB_plain 64 c r (fun e=>n2 (UInt8.toNat.inj (by simpa using e))) (fun e=>n1 (UInt8.toNat.inj (by simpa using e))),zp3 hl (by simp) (z94 h1),e63]
    simp only [Lib.signlessC]
    rw [if_neg (by omega)]
   ·cases h
def z16 (s:List UInt8):Int×Bool:=match z25 s with | some v=>(v,true) | none=>(0,false)
theorem zys (s:List UInt8) (h:(prs s).2=false) : -9223372036854775808≤(prs s).1∧(prs s).1≤9223372036854775807:=by
 unfold prs at *
 split at h
 ·rename_i v hv
  have:=Lib.parseIntB_bounds hv
  have e63:(2:Nat) ^ (64-1)=9223372036854775808:=by decide
  rw [e63] at this
  constructor
  ·exact by simpa using this.1
  ·have:=this.2
   show v≤_
   omega
 ·cases h
 ·cases h
def z6x (s:List UInt8):List UInt8:=match s with | []=>[] | c::r=>if c=45 then r else c::r
theorem zyt {s:List UInt8} (hs:s.length≤1048576):zfj s [45]=some (z6x s):=by
 unfold zfj zic zib
 cases s with
 | nil=>simp [z6x]
 | cons c r =>
  have h1:((1:Nat):Int)≤((c::r).length:Int):=by simp; omega
  simp only [List.length_singleton,h1,decide_true,if_true,List.take_succ_cons,List.take_zero,List.drop_succ_cons,List.drop_zero,z6x,List.cons.injEq,and_true,Option.bind_some]
  by_cases hc:c=45
  ·simp [hc]
  ·simp [hc]
theorem zp5 {s:List UInt8} (hs:s.length≤1048576):zct s=some (z16 s):=by
 unfold zct
 rw [zyt hs]
 simp only [Option.bind_some]
 have hlen:∀ v,z25 s=some v→1≤(z6x s).length∧(z6x s).length≤18:=by
  intro v h
  match s with
  | []=>cases h
  | c::r =>
   simp only [z25] at h
   simp only [z6x]
   split at h
   ·rename_i hc
    rw [if_pos hc]
    split at h
    ·rename_i h1
     exact ⟨List.length_pos_iff.2 (zis h1.1),h1.2.1⟩
    ·cases h
   ·rename_i hc
    rw [if_neg hc]
    split at h
    ·rename_i h1
     simp; omega
    ·cases h
 by_cases h1:((z6x s).length:Int)<1
 ·rw [decide_eq_true h1,if_pos rfl]
  unfold z16
  cases hn:z25 s with
  | none=>rfl
  | some v=>have:=hlen v hn; omega
 rw [decide_eq_false h1,if_neg (by simp)]
 by_cases h2:18<((z6x s).length:Int)
 ·rw [decide_eq_true h2,if_pos rfl]
  unfold z16
  cases hn:z25 s with
  | none=>rfl
  | some v=>have:=hlen v hn; omega
 rw [decide_eq_false h2,if_neg (by simp)]
 have hl18:s.length≤18∨(s.head?=some 45∧s.length≤19):=by
  cases s with
  | nil=>exact .inl (by simp)
  | cons c r =>
   simp only [z6x] at h2
   split at h2
   ·rename_i hc; exact .inr ⟨by simp [hc],by simp; omega⟩
   ·exact .inl (by omega)
 unfold znl
 rw [if_pos ⟨rfl,rfl,by omega⟩]
 simp only [Option.bind_some]
 cases hp:(prs s).2 with
 | true =>
  simp only [if_true]
  unfold z16
  cases hn:z25 s with
  | none=>rfl
  | some v=>rw [(zp4 hn).1] at hp; cases hp
 | false =>
  simp only [Bool.false_eq_true,if_false]
  obtain ⟨b1,b2⟩:=zys s hp
  rw [zij b1 b2]
  simp only [Option.bind_some]
  by_cases he:Lib.itoa (prs s).1=s
  ·have hn:=zit.2 ⟨he,hl18⟩
   simp only [he,decide_true,Bool.not_true,Bool.false_eq_true,if_false]
   unfold z16
   rw [hn]
  ·simp only [he,decide_false,Bool.not_false,if_true]
   unfold z16
   cases hn:z25 s with
   | none=>rfl
   | some v =>
    have:=(zp4 hn).1
    rw [this] at he
    exact absurd (zit.1 hn).1 he
theorem zyu (x:UInt8):z8u (z14 x)=some (digC x):=by
 have e:z14 x=(x.toNat:Int):=rfl
 unfold z8u
 rw [e]
 by_cases h1:48≤x.toNat
 ·have g1:(48:Int)≤(x.toNat:Int):=by omega
  by_cases h2:x.toNat≤57
  ·have g2:(x.toNat:Int)≤57:=by omega
   simp [digC,h1,h2,g1,g2]
  ·have g2:¬ (x.toNat:Int)≤57:=by omega
   simp only [digC,h1,h2,g1,g2,decide_true,if_true,decide_false,and_false]
 ·have g1:¬ (48:Int)≤(x.toNat:Int):=by omega
  simp only [digC,h1,g1,decide_false,Bool.false_eq_true,if_false,false_and]
theorem zyv {a d:Nat} {x:UInt8} (hd:48≤x.toNat∧x.toNat≤57) (ha:a<100000000000000000):za (za (10*(a:Int))+za (z8q (z14 x-48)))=((a*10+(x.toNat-48):Nat):Int):=by
 have e:z14 x=(x.toNat:Int):=rfl
 have e1:z8q (z14 x-48)=((x.toNat-48:Nat):Int):=by
  rw [e]
  unfold z8q
  rw [IntKind.wrap_u8]
  omega
 rw [e1,z2c (x:=10*(a:Int)) (by omega) (by omega),z2c (x:=((x.toNat-48:Nat):Int)) (by omega) (by omega),z2c (by omega) (by omega)]
 omega
theorem ziv {k:Nat} {s:List UInt8} (hs:s.length≤19) {at4:Int} {E:Int→Int→Option (Int×Bool)}:∀ (post pre:List UInt8) (a n:Nat),s=pre++post→a<10 ^ (18-post.length)→post.length≤18→post.length<n →
  z4l k n s at4 (a:Int) (pre.length:Int) E=if post.all digC=true then E at4 ((post.foldl (fun a c=>a*10+(c.toNat-48)) a:Nat):Int) else some (0,false)
 | [],pre,a,n,hx,ha,hp,hn=>by
  obtain ⟨n,rfl⟩:∃ m,n=m+1:=⟨n-1,by omega⟩
  rw [List.append_nil] at hx
  subst hx
  simp [z4l]
 | x::post,pre,a,n,hx,ha,hp,hn=>by
  obtain ⟨n,rfl⟩:∃ m,n=m+1:=⟨n-1,by omega⟩
  have hg:s[pre.length]?=some x:=by rw [hx]; simp
  have hlt:(pre.length:Int)<(s.length:Int):=by rw [hx]; simp; omega
  have hlen:pre.length≤19:=by rw [hx] at hs; simp at hs; omega
  simp only [List.length_cons] at ha hp hn
  have hw:=z1x (i:=pre.length) (by omega)
  simp only [z4l,hlt,decide_true,if_true,Int.natCast_nonneg,Int.toNat_natCast,hg,Option.bind_some,zyu,hw]
  have h10:(10:Nat) ^ 17=100000000000000000:=by decide
  have h2:10 ^ (18-(post.length+1))≤10 ^ 17:=Nat.pow_le_pow_right (by omega) (by omega)
  cases hd:digC x with
  | false=>simp [hd]
  | true =>
   have hc:=zb6.1 hd
   have e1:18-post.length=(18-(post.length+1))+1:=by omega
   have h1:a*10+(x.toNat-48)<10 ^ (18-post.length):=by rw [e1,Nat.pow_succ]; omega
   simp only [Bool.not_true,Bool.false_eq_true,if_false,List.all_cons,hd,Bool.true_and]
   rw [zyv (d:=0) hc (by omega)]
   have:=ziv (k:=k) (at4:=at4) (E:=E) hs post (pre++[x]) (a*10+(x.toNat-48)) n (by rw [hx]; simp) h1 (by omega) (by omega)
   rw [List.length_append,List.length_singleton] at this
   rw [this]
   rfl
theorem z45 (x:UInt8):decide (z14 x=45)=decide (x=45):=zio x 45
theorem z48 (x:UInt8):decide (z14 x=48)=decide (x=48):=zio x 48
theorem zp6 {c:UInt8} (h:c≠48) (r:List UInt8):z1y (c::r)=(c::r).all digC:=by
 cases r with
 | nil=>simp [z1y]
 | cons d r=>simp [z1y,h]
theorem zp7 {k:Nat} (hk:KK≤k) {s:List UInt8} (hs:s.length≤1048576):zcm k s=some (z16 s):=by
 have hK:=z1n
 unfold zcm
 cases s with
 | nil=>simp [z16,z25]
 | cons c r =>
  have hpos:(0:Int)<((c::r).length:Int):=by rw [List.length_cons]; omega
  have hne:¬ ((c::r).length:Int)=0:=by omega
  have hw0:za (((c::r).length:Int)-0)=((c::r).length:Int):=by rw [z2c (by omega) (by omega)]; omega
  have hw1:za (((c::r).length:Int)-1)=(r.length:Int):=by rw [z2c (by rw [List.length_cons]; omega) (by rw [List.length_cons] at *; omega),List.length_cons]; omega
  have h0:(c::r)[0]?=some c:=rfl
  have zero:∀ (x:List UInt8) n,x=c::r→x.length≤18→r.length+1<n→∀ {E},z4l k n (c::r) 0 0 0 E=if (c::r).all digC=true then E 0 ((z1t (c::r):Nat):Int) else some (0,false):=by
   intro x n hx hl hn E
   subst hx
   exact ziv (k:=k) (at4:=0) (E:=E) (by omega) (c::r) [] 0 n rfl (Nat.pow_pos (by omega)) (by omega) (by simp; omega)
  simp only [hpos,decide_true,if_true,h0,Option.bind_some,z45,hne,decide_false,Bool.false_eq_true,if_false,hw0,hw1]
  by_cases hc:c=45
  ·subst hc
   simp only [decide_true,if_true]
   by_cases h1:((45::r).length:Int)=1
   ·have:r=[]:=by
     cases r with
     | nil=>rfl
     | cons a r=>simp at h1; omega
    subst this
    simp [z16,z25,z1y]
   ·rw [decide_eq_false h1,if_neg (by simp)]
    by_cases h18:18<(r.length:Int)
    ·rw [decide_eq_true h18,if_pos rfl]
     simp only [z16,z25,if_true]
     rw [if_neg (by omega)]
    ·rw [decide_eq_false h18,if_neg (by simp)]
     obtain ⟨d,r',rfl⟩:∃ d r',r=d::r':=by
      cases r with
      | nil=>simp at h1
      | cons d r'=>exact ⟨d,r',rfl⟩
     have g1:(45::d::r')[1]?=some d:=rfl
     have g2:(1:Int)<((45::d::r').length:Int):=by simp; omega
     have lp:∀ {E},z4l k k (45::d::r') 1 0 1 E=if (d::r').all digC=true then E 1 ((z1t (d::r'):Nat):Int) else some (0,false):=by
      intro E
      exact ziv (k:=k) (at4:=1) (E:=E) (by simp at h18 ⊢; omega) (d::r') [45] 0 k rfl (Nat.pow_pos (by omega)) (by omega) (by simp at h18 ⊢; omega)
     simp only [g1,Option.bind_some,z48,g2,decide_true,if_true,lp]
     by_cases h48:d=48
     ·subst h48
      simp [z16,z25]
     ·simp only [h48,decide_false,Bool.false_eq_true,if_false]
      have hcan:z1y (d::r')=(d::r').all digC:=zp6 h48 r'
      cases hd:(d::r').all digC with
      | false=>simp [z16,z25,hcan,hd]
      | true =>
       have hv:=ziu hd (by omega)
       have hl:(d::r').length≤18:=by omega
       simp only [if_true,z16,z25,hcan,hd,List.head?_cons,Option.some.injEq,h48,hl,and_self,not_false_eq_true,ne_eq]
       rw [z2c (by omega) (by omega)]
       simp
  ·simp only [hc,decide_false,Bool.false_eq_true,if_false]
   by_cases h18:18<((c::r).length:Int)
   ·rw [decide_eq_true h18,if_pos rfl]
    simp only [z16,z25,hc,if_false]
    rw [if_neg (by simp at h18 ⊢; omega)]
   ·rw [decide_eq_false h18,if_neg (by simp)]
    have lp:∀ {E},z4l k k (c::r) 0 0 0 E=if (c::r).all digC=true then E 0 ((z1t (c::r):Nat):Int) else some (0,false):=fun {E}=>zero (c::r) k rfl (by omega) (by simp at h18; omega)
    have hl:r.length<18:=by simp at h18; omega
    simp only [h0,Option.bind_some,z48,lp]
    have fin:z1y (c::r)=(c::r).all digC→(if (c::r).all digC=true then (if (decide ((0:Int)=1))=true then some (za (0-((z1t (c::r):Nat):Int)),true) else some (((z1t (c::r):Nat):Int),true)) else some (0,false))=some (z16 (c::r)):=by
     intro hcan
     cases hd:(c::r).all digC with
     | false=>simp [z16,z25,hcan,hd,hc]
     | true=>simp [z16,z25,hcan,hd,hc,hl]
    by_cases h48:c=48
    ·simp only [h48,decide_true,if_true]
     by_cases h1:(1:Int)<((48::r).length:Int)
     ·rw [decide_eq_true h1,if_pos rfl]
      have hcan:z1y (48::r)=false:=by
       have:1≠(48::r).length:=by simp at h1 ⊢; intro e; rw [e] at h1; simp at h1
       simp only [z1y,List.head?_cons,ne_eq,not_true_eq_false,decide_false,Bool.and_false,Bool.or_false]
       have:(48::r).length≠1:=fun e=>this e.symm
       simp only [this,decide_false,Bool.and_false]
      simp [z16,z25,hcan]
     ·rw [decide_eq_false h1,if_neg (by simp)]
      have hr:r=[]:=by
       cases r with
       | nil=>rfl
       | cons a r=>simp at h1; omega
      subst hr
      subst h48
      exact fin (by decide)
    ·simp only [h48,decide_false,Bool.false_eq_true,if_false]
     exact fin (zp6 h48 r)
theorem ziw {c:UInt8}:∀ (l cur:List UInt8),Lib.join (z1e c cur l) [c]=cur++l
 | [],cur=>by simp [z1e,Lib.join_cons,Lib.joinTail]
 | x::l,cur=>by
  unfold z1e
  by_cases h:x=c
  ·subst h
   rw [if_pos rfl,Lib.join_cons]
   have:=ziw (c:=x) l []
   cases hs:z1e x [] l with
   | nil=>have:=zfx x l []; rw [hs] at this; simp at this
   | cons y r =>
    rw [hs,Lib.join_cons] at this
    have e:Lib.joinTail [x] (y::r)=[x]++(y++Lib.joinTail [x] r):=by simp [Lib.joinTail]
    rw [e,this]; simp
  ·rw [if_neg h,ziw l (cur++[x])]; simp
theorem zp8 (c:UInt8) (s:List UInt8):Lib.join (z1h c s) [c]=s:=ziw s []
theorem zix {c:UInt8}:∀ (ws:List (List UInt8)),(∀ x∈ws,c∉x)→ws≠[]→z1h c (Lib.join ws [c])=ws
 | [],_,h=>absurd rfl h
 | [x],hx,_=>by
  have e:Lib.join [x] [c]=x:=by rw [Lib.join_cons]; simp [Lib.joinTail]
  rw [e]
  unfold z1h
  rw [zim x [] (hx x (by simp))]; simp
 | x::y::r,hx,_=>by
  have e:Lib.join (x::y::r) [c]=x++c::Lib.join (y::r) [c]:=by
   rw [Lib.join_cons,Lib.join_cons]; simp [Lib.joinTail]
  rw [e]
  unfold z1h
  rw [zin x [] _ (hx x (by simp))]
  have:=zix (c:=c) (y::r) (fun z hz=>hx z (by simp [hz])) (by simp)
  unfold z1h at this
  rw [this]; simp
theorem ziy {c:UInt8}:∀ (l cur x:List UInt8),x∈z1e c cur l→∀ b∈x,b∈cur∨b∈l
 | [],cur,x,h,b,hb=>by
  simp only [z1e,List.mem_singleton] at h
  subst h; exact .inl hb
 | y::l,cur,x,h,b,hb=>by
  unfold z1e at h
  by_cases hc:y=c
  ·rw [if_pos hc] at h
   rcases List.mem_cons.1 h with rfl | h
   ·exact .inl hb
   ·rcases ziy l [] x h b hb with h1 | h1
    ·cases h1
    ·exact .inr (List.mem_cons_of_mem _ h1)
  ·rw [if_neg hc] at h
   rcases ziy l _ x h b hb with h1 | h1
   ·rcases List.mem_append.1 h1 with h2 | h2
    ·exact .inl h2
    ·exact .inr (by rw [List.mem_singleton.1 h2]; simp)
   ·exact .inr (List.mem_cons_of_mem _ h1)
theorem zfz {v:Int}:(32:UInt8)∉Lib.itoa v∧(47:UInt8)∉Lib.itoa v:=by
 have key:∀ (u:Nat) (c:UInt8),digC c=false→c∉Lib.decDigits u:=fun u c hc hm=>by
  have:=List.all_eq_true.1 (z94 (zir u).1) c hm
  rw [hc] at this; cases this
 unfold Lib.itoa
 split
 ·exact ⟨fun h=>(List.mem_cons.1 h).elim (fun e=>by cases e) (key _ 32 (by decide)),fun h=>(List.mem_cons.1 h).elim (fun e=>by cases e) (key _ 47 (by decide))⟩
 ·exact ⟨key _ 32 (by decide),key _ 47 (by decide)⟩
def z5s (y:Int):Bool:=decide (97≤y)&&decide (y≤122)
def zd0 (y:Int):Bool:=decide (48≤y)&&decide (y≤57)
def z5t (y:Int):Bool:=z5s y||zd0 y
def z3b (s:List UInt8):Bool:=match s with | []=>false | a::l=>decide ((a::l).length≤10)&&(z5s (z14 a)&&(a::l).all fun b=>z5t (z14 b))
theorem zp9 (y:Int):zcn y=some (z5s y):=by
 unfold zcn z5s
 by_cases h:97≤y <;> simp [h]
theorem zyw (y:Int):z8u y=some (zd0 y):=by
 unfold z8u zd0
 by_cases h:48≤y <;> simp [h]
theorem zpa (a:UInt8) (l:List UInt8):z3b (a::l)=(decide ((a::l).length≤10)&&(z5s (z14 a)&&(a::l).all fun b=>z5t (z14 b))):=rfl
theorem zyx {k:Nat} (hk:KK≤k) {s:List UInt8} (hs:s.length≤1000000000000):z7u k k s 0 (some true)=if s.all (fun b=>z5t (z14 b))=true then some true else some false:=by
 have hK:=z1n
 refine zfb (L:=fun n i=>z7u k n s i (some true)) s ?_ ?_ (n:=k) (by omega)
 ·intro n i x hx hlt
  have hw:=z1x (i:=i) (by omega)
  simp only [z7u,hlt,decide_true,if_true,Int.natCast_nonneg,Int.toNat_natCast,hx,Option.bind_some,zp9,zyw,hw,z5t]
  by_cases h1:z5s (z14 x)=true <;> by_cases h2:zd0 (z14 x)=true <;> simp [h1,h2]
 ·intro n
  simp [z7u]
theorem zyy {k:Nat} (hk:KK≤k) {s:List UInt8} (hs:s.length≤1000000000000):zfd k s=some (z3b s):=by
 unfold zfd
 cases s with
 | nil=>simp [z3b]
 | cons a l =>
  rw [zyx hk hs,zpa,decide_eq_false (show ¬ (a::l=[]) by simp),if_neg (by simp)]
  by_cases h:(a::l).length≤10
  ·rw [decide_eq_false (show ¬ (10<((a::l).length:Int)) by omega),if_neg (by simp),decide_eq_true h]
   simp only [List.getElem?_cons_zero,Option.bind_some,zp9,Bool.true_and]
   cases z5s (z14 a)
   ·simp
   ·cases (a::l).all (fun b=>z5t (z14 b)) <;> simp
  ·rw [decide_eq_true (show (10<((a::l).length:Int)) by omega),if_pos rfl,decide_eq_false h]
   rfl
theorem zyz {k:Nat} (hk:KK≤k) (q:List Int) (hq:q.length≤1000000000000):z67 k k (q.length:Int) 0 q (some true)=some (q.all z5t&&z5s (q.headD 97)):=by
 have hK:=z1n
 have:=z5r (A:=Unit) (L:=fun n i _=>z67 k n (q.length:Int) i q (some true)) (I:=fun _ _=>True) (G:=fun post _=>some (post.all z5t&&(decide (post.length≠q.length)||z5s (post.headD 97)))) q ?_ ?_ k (by omega) () trivial
 ·refine Eq.trans this ?_
  simp
 ·intro n pre x post _ hx _ ih hg hlt
  have hw:=z1x (i:=pre.length) (by omega)
  have hlt':pre.length<q.length:=by omega
  have ih:=ih () trivial
  have hne:decide (post.length≠q.length)=true:=by rw [hx]; simp <;> omega
  simp only [hne,Bool.true_or,Bool.and_true] at ih
  simp only [z67,hlt,hlt',decide_true,if_true,Int.natCast_nonneg,Int.toNat_natCast,hg,Option.bind_some,hw,ih,and_self]
  have h0:decide ((x::post).length≠q.length)=decide (pre.length≠0):=decide_eq_decide.2 (by rw [hx]; simp <;> omega)
  rw [h0]
  simp only [List.all_cons,List.headD_cons,z5t,z5s,zd0]
  have h1:decide ((pre.length:Int)=0)=decide (pre.length=0):=decide_eq_decide.2 (by omega)
  rw [h1]
  by_cases g1:97≤x <;> by_cases g2:x≤122 <;> by_cases g3:48≤x <;> by_cases g4:x≤57 <;> by_cases g0:pre.length=0 <;> first | omega | simp [g0,g1,g2,g3,g4]
 ·intro n _ _
  simp [z67,z5s]
theorem zz0 {k:Nat} (hk:KK≤k) {s:List UInt8} (hs:s.length≤1000000000000):zfk k s=some (z3b s):=by
 have hK:=z1n
 have hL:=z4x
 unfold zfk
 have hl:(z8r s).length=s.length:=by simp [z8r]
 rw [zyz hk (z8r s) (by omega),if_pos (show s.length≤LIM by omega)]
 cases s with
 | nil=>simp [z3b]
 | cons a l =>
  rw [decide_eq_false (show ¬ (((a::l).length:Int)<1) by simp only [List.length_cons]; omega),if_neg (by simp)]
  rw [zpa]
  by_cases h:(a::l).length≤10
  ·rw [decide_eq_false (show ¬ (10<((a::l).length:Int)) by omega),if_neg (by simp),decide_eq_true h,Bool.true_and]
   have e:(z8r (a::l)).all z5t=(a::l).all fun b=>z5t (z14 b):=by simp [z8r,z14,List.all_map,Function.comp_def]
   rw [e,Bool.and_comm]; rfl
  ·rw [decide_eq_true (show (10<((a::l).length:Int)) by omega),if_pos rfl,decide_eq_false h]; rfl
def z4y (ns:List (List UInt8)) (i:Nat):Bool:=if 0<i then (match ns[i-1]? with | some z=>(match ns[i]? with | some y=>Op.bytesLess z y | none=>false) | none=>false) else true
def z7w (ns:List (List UInt8)):Prop:=ns.Pairwise (fun a b=>Op.bytesLess a b=true)
theorem zg0 {ns:List (List UInt8)}:(∀ i,i<ns.length→z4y ns i=true)↔z7w ns:=by
 constructor
 ·intro h
  have step:∀ i,(hi:i+1<ns.length)→Op.bytesLess ns[i] ns[i+1]=true:=by
   intro i hi
   have:=h (i+1) hi
   unfold z4y at this
   rw [if_pos (by omega),Nat.add_sub_cancel,List.getElem?_eq_getElem (by omega),List.getElem?_eq_getElem hi] at this
   exact this
  refine List.pairwise_iff_getElem.2 ?_
  have main:∀ d i,(hj:i+d+1<ns.length)→Op.bytesLess ns[i] ns[i+d+1]=true:=by
   intro d
   induction d with
   | zero=>intro i hj; exact step i hj
   | succ d ih=>intro i hj; exact zik _ _ _ (ih i (by omega)) (step (i+d+1) hj)
  intro i j hi hj hij
  have:=main (j-i-1) i (by omega)
  have e:i+(j-i-1)+1=j:=by omega
  simpa only [e] using this
 ·intro h i hi
  unfold z4y
  split
  ·rw [List.getElem?_eq_getElem (by omega),List.getElem?_eq_getElem hi]
   exact List.pairwise_iff_getElem.1 h _ _ (by omega) hi (by omega)
  ·rfl
theorem ziz {ns:List (List UInt8)} (h:z7w ns):ns.Nodup:=h.imp (fun {a b} hab e=>by rw [e,zb5] at hab; cases hab)
def z95 (ns:List (List UInt8)) (m:Int):Bool:=(List.range ns.length).all (fun i=>(match ns[i]? with | some y=>z3b y | none=>false)&&z4y ns i)&&decide ((ns.length:Int)≤m)
theorem zpb {ns:List (List UInt8)} {m:Int}:z95 ns m=true↔(∀ y∈ns,z3b y=true)∧z7w ns∧(ns.length:Int)≤m:=by
 unfold z95
 simp only [Bool.and_eq_true,List.all_eq_true,List.mem_range,decide_eq_true_eq]
 rw [← zg0]
 constructor
 ·rintro ⟨h,h2⟩
  refine ⟨fun y hy=>?_,fun i hi=>(h i hi).2,h2⟩
  obtain ⟨i,hi,rfl⟩:=List.getElem_of_mem hy
  have:=(h i hi).1
  rw [List.getElem?_eq_getElem hi] at this
  exact this
 ·rintro ⟨h,h1,h2⟩
  refine ⟨fun i hi=>⟨?_,h1 i hi⟩,h2⟩
  rw [List.getElem?_eq_getElem hi]
  exact h _ (List.getElem_mem hi)
theorem zz1 (x y:List UInt8):(Op.bytesLess y x||decide (y=x))=!Op.bytesLess x y:=by
 cases h:Op.bytesLess x y
 ·by_cases e:y=x
  ·simp [e]
  ·rw [zor x y h (fun h=>e h.symm)]; rfl
 ·have h2:=zyn h
  rw [h2]
  have:¬ y=x:=fun e=>by rw [e,zb5] at h; cases h
  simp [this]
theorem zpc {k:Nat} (hk:KK≤k) {ns:List (List UInt8)} (hl:ns.length≤1048576) (hx:∀ x∈ns,x.length≤1048576) (m:Int):zcu k ns m=some (z95 ns m):=by
 have hK:=z1n
 unfold zcu z95
 have:=zi6 (L:=fun n i=>z90 k n ns m ns (ns.length:Int) i (fun names_4 most_5=>some (decide ((List.length names_4:Int)≤most_5)))) (b:=ns.length) (p:=fun i=>(match ns[i]? with | some y=>z3b y | none=>false)&&z4y ns i) (r:=some false) (e:=some (decide ((ns.length:Int)≤m))) ?_ ?_ (n:=k) (by omega)
 ·refine Eq.trans this ?_
  cases (List.range ns.length).all (fun i=>(match ns[i]? with | some y=>z3b y | none=>false)&&z4y ns i) <;> simp
 ·intro n i hi
  have hlt:(i:Int)<(ns.length:Int):=by omega
  have hw:=z1x (i:=i) (by omega)
  have hg:ns[i]?=some ns[i]:=List.getElem?_eq_getElem hi
  have hxl:=hx ns[i] (List.getElem_mem hi)
  simp only [z90,hlt,decide_true,if_true,Int.natCast_nonneg,Int.toNat_natCast,hg,Option.bind_some,hw,zz0 hk (show ns[i].length≤1000000000000 by omega),z4y]
  cases z3b ns[i]
  ·simp
  ·by_cases h0:0<i
   ·have hw1:za ((i:Int)-1)=((i-1:Nat):Int):=by rw [z2c (by omega) (by omega)]; omega
    have hg1:ns[i-1]?=some ns[i-1]:=List.getElem?_eq_getElem (by omega)
    have h0':(0:Int)<(i:Int):=by omega
    simp only [hw1,Int.natCast_nonneg,Int.toNat_natCast,hg1,h0,h0',decide_true,if_true,Option.bind_some,zz1]
    cases Op.bytesLess ns[i-1] ns[i] <;> simp
   ·have h0':¬ (0:Int)<(i:Int):=by omega
    simp [h0,h0']
 ·intro n
  simp only [z90,Int.lt_irrefl,decide_false,Bool.false_eq_true,if_false]
theorem zj0 {α:Type} (p:α→Bool) (xs:List α):decide (0≤zck p xs)=xs.any p:=by
 unfold zck
 cases h:xs.findIdx? p with
 | some i =>
  obtain ⟨hlt,hp,_⟩:=List.findIdx?_eq_some_iff_getElem.1 h
  have:xs.any p=true:=List.any_eq_true.2 ⟨_,List.getElem_mem hlt,hp⟩
  rw [this]; simp
 | none =>
  rw [List.findIdx?_eq_none_iff] at h
  have:xs.any p=false:=List.any_eq_false.2 fun x hx=>by rw [h x hx]; simp
  rw [this]; simp
theorem zj1 {k:Nat} (hk:KK≤k) {s:List (List UInt8)} (hs:s.length≤1000000000000) (v:List UInt8):zap k s v=some (s.contains v):=by
 have hK:=z1n
 unfold zap zid
 rw [zfc (L:=fun n i=>zao k n s v (s.length:Int) i (some (-1))) (p:=fun y=>decide (v=y)) s ?_ ?_ (n:=k) (by omega)]
 ·simp only [Option.bind_some,zj0]
  congr 1
  rw [Bool.eq_iff_iff]
  simp
 ·intro n i x hi hlt
  have hw:=z1x (i:=i) (by omega)
  simp only [zao,hlt,decide_true,if_true,Int.natCast_nonneg,Int.toNat_natCast,hi,Option.bind_some,hw]
 ·intro n
  simp [zao]
theorem zz2 (n a b:Int):zcv n a b=some (decide (a≤n∧n≤b)):=by
 unfold zcv
 by_cases h:a≤n <;> simp [h]
theorem zz3 (n a b:Int):z8v n a b=some (decide (a≤n∧n≤b)):=by
 unfold z8v
 by_cases h:a≤n <;> simp [h]
abbrev It:=List UInt8×List (List UInt8)×Int×Int
def zv (L:List It):List (List UInt8):=L.map (·.1)
def atI (L:List It) (n:List UInt8):Nat:=L.findIdx (fun y=>decide (y.1=n))
def z4z (x:It):Prop:=x.1.length≤1048576∧x.2.1.length≤1048576∧∀ y∈x.2.1,y.length≤1048576
theorem zg1 {L:List It} {n:List UInt8} (h:n∈zv L):atI L n<L.length:=by
 obtain ⟨x,hx,rfl⟩:=List.mem_map.1 h
 exact List.findIdx_lt_length.2 ⟨x,hx,by simp⟩
theorem zpd {L:List It} {n:List UInt8} (h:atI L n<L.length):(L[atI L n]).1=n:=by
 have:decide ((L[atI L n]).1=n)=true:=List.findIdx_getElem (xs:=L) (p:=fun y:It=>decide (y.1=n)) (w:=h)
 exact of_decide_eq_true this
theorem zpe {k:Nat} (hk:KK≤k) {L:List It} (hL:L.length≤1048576) (n:List UInt8):zco k L n=some (if atI L n<L.length then ((atI L n:Nat):Int) else -1):=by
 have hK:=z1n
 unfold zco
 rw [zfc (L:=fun m i=>zal k m L n i (some (-1))) (p:=fun y=>decide (y.1=n)) L ?_ ?_ (n:=k) (by omega)]
 ·unfold zck atI
  cases hf:L.findIdx? (fun y=>decide (y.1=n)) with
  | some i =>
   obtain ⟨hlt,hp⟩:=List.findIdx?_eq_some_iff_findIdx_eq.1 hf
   rw [hp,if_pos hlt]
  | none =>
   rw [List.findIdx?_eq_none_iff] at hf
   have:¬ L.findIdx (fun y=>decide (y.1=n))<L.length:=fun h=>by
    obtain ⟨x,hx,h2⟩:=List.findIdx_lt_length.1 h
    rw [hf x hx] at h2; cases h2
   rw [if_neg this]
 ·intro m i x hi hlt
  have hw:=z1x (i:=i) (by omega)
  simp only [zal,hlt,decide_true,if_true,Int.natCast_nonneg,Int.toNat_natCast,hi,Option.bind_some,hw]
 ·intro m
  simp [zal]
theorem zpf {L:List It} {n:List UInt8} (h:n∈zv L):(if atI L n<L.length then ((atI L n:Nat):Int) else -1)=((atI L n:Nat):Int):=if_pos (zg1 h)
theorem zz4 (L:List It) (n:List UInt8):decide ((if atI L n<L.length then ((atI L n:Nat):Int) else -1)<0)=!(zv L).contains n:=by
 by_cases h:n∈zv L
 ·rw [zpf h]
  have:(zv L).contains n=true:=by simpa using h
  rw [this,decide_eq_false (by omega)]; rfl
 ·have h2:¬ atI L n<L.length:=fun h2=>h (List.mem_map.2 ⟨_,List.getElem_mem h2,zpd h2⟩)
  have:(zv L).contains n=false:=by simpa using h
  rw [if_neg h2,this]; rfl
def z6y (L:List It) (i:Nat) (x:It):Bool :=
 z3b x.1&&(z4y (zv L) i&&(decide (0≤x.2.2.1∧x.2.2.1≤1000000)&&(decide (0≤x.2.2.2∧x.2.2.2≤1000)&&(List.range x.2.1.length).all fun j=>(match x.2.1[j]? with | some n=>(zv L).contains n | none=>false)&&z4y x.2.1 j)))
def z96 (L:List It):Bool:=(List.range L.length).all (fun i=>match L[i]? with | some x=>z6y L i x | none=>false)&&decide (L.length≤16)
structure FormP (L:List It):Prop where
 names:∀ y∈zv L,z3b y=true
 strict:z7w (zv L)
 made:∀ x∈L,0≤x.2.2.1∧x.2.2.1≤1000000
 cost:∀ x∈L,0≤x.2.2.2∧x.2.2.2≤1000
 known:∀ x∈L,∀ n∈x.2.1,n∈zv L
 needs:∀ x∈L,z7w x.2.1
 len:L.length≤16
theorem zg2 {L:List It}:z96 L=true↔FormP L:=by
 unfold z96
 simp only [Bool.and_eq_true,List.all_eq_true,List.mem_range,decide_eq_true_eq]
 have nl:(zv L).length=L.length:=List.length_map ..
 have nd:∀ ns:List (List UInt8),(∀ j,j<ns.length→((match ns[j]? with | some n=>(zv L).contains n | none=>false)&&z4y ns j)=true)↔(∀ n∈ns,n∈zv L)∧z7w ns:=by
  intro ns
  rw [← zg0]
  constructor
  ·intro h
   refine ⟨fun n hn=>?_,fun j hj=>by have:=h j hj; rw [Bool.and_eq_true] at this; exact this.2⟩
   obtain ⟨j,hj,rfl⟩:=List.getElem_of_mem hn
   have:=h j hj
   rw [Bool.and_eq_true,List.getElem?_eq_getElem hj] at this
   simpa using this.1
  ·rintro ⟨h1,h2⟩ j hj
   rw [Bool.and_eq_true,List.getElem?_eq_getElem hj]
   exact ⟨by simpa using h1 _ (List.getElem_mem hj),h2 j hj⟩
 constructor
 ·rintro ⟨h,hl⟩
  have h':∀ i (hi:i<L.length),z6y L i L[i]=true:=fun i hi=>by have:=h i hi; rw [List.getElem?_eq_getElem hi] at this; exact this
  have g:∀ x∈L,z3b x.1=true∧(0≤x.2.2.1∧x.2.2.1≤1000000)∧(0≤x.2.2.2∧x.2.2.2≤1000)∧(∀ n∈x.2.1,n∈zv L)∧z7w x.2.1:=by
   intro x hx
   obtain ⟨i,hi,rfl⟩:=List.getElem_of_mem hx
   have:=h' i hi
   unfold z6y at this
   simp only [Bool.and_eq_true,decide_eq_true_eq] at this
   obtain ⟨a,b,c,d,e⟩:=this
   simp only [List.all_eq_true,List.mem_range] at e
   exact ⟨a,c,d,((nd _).1 e).1,((nd _).1 e).2⟩
  refine ⟨fun y hy=>?_,zg0.1 fun i hi=>?_,fun x hx=>(g x hx).2.1,fun x hx=>(g x hx).2.2.1,fun x hx=>(g x hx).2.2.2.1,fun x hx=>(g x hx).2.2.2.2,hl⟩
  ·obtain ⟨x,hx,rfl⟩:=List.mem_map.1 hy
   exact (g x hx).1
  ·have:=h' i (by omega)
   unfold z6y at this
   simp only [Bool.and_eq_true] at this
   exact this.2.1
 ·intro f
  refine ⟨fun i hi=>?_,f.len⟩
  rw [List.getElem?_eq_getElem hi]
  have hm:=List.getElem_mem hi
  show z6y L i L[i]=true
  unfold z6y
  simp only [Bool.and_eq_true,decide_eq_true_eq,List.all_eq_true,List.mem_range]
  refine ⟨f.names _ (List.mem_map.2 ⟨_,hm,rfl⟩),zg0.2 f.strict i (by omega),f.made _ hm,f.cost _ hm,?_⟩
  have:=(nd L[i].2.1).2 ⟨f.known _ hm,f.needs _ hm⟩
  intro j hj
  have:=this j hj
  rwa [Bool.and_eq_true] at this
theorem zz5 {k:Nat} (hk:KK≤k) {L:List It} (hL:L.length≤1048576) {x:It} (hx:z4z x) (i:Nat) {E:List It→Int→Option Bool}:z6v k k L (i:Int) 0 x E=if ((List.range x.2.1.length).all fun j=>(match x.2.1[j]? with | some n=>(zv L).contains n | none=>false)&&z4y x.2.1 j)=true then E L (i:Int) else some false:=by
 have hK:=z1n
 obtain ⟨h1,h2,h3⟩:=hx
 refine zi6 (L:=fun n j=>z6v k n L (i:Int) j x E) (b:=x.2.1.length) ?_ ?_ (n:=k) (by omega)
 ·intro n j hj
  have hlt:(j:Int)<(x.2.1.length:Int):=by omega
  have hw:=z1x (i:=j) (by omega)
  have hg:x.2.1[j]?=some x.2.1[j]:=List.getElem?_eq_getElem hj
  simp only [z6v,hlt,decide_true,if_true,Int.natCast_nonneg,Int.toNat_natCast,hg,Option.bind_some,hw,zpe hk hL,zz4,z4y]
  cases (zv L).contains x.2.1[j]
  ·simp
  ·by_cases h0:0<j
   ·have hw1:za ((j:Int)-1)=((j-1:Nat):Int):=by rw [z2c (by omega) (by omega)]; omega
    have hg1:x.2.1[j-1]?=some x.2.1[j-1]:=List.getElem?_eq_getElem (by omega)
    have h0':(0:Int)<(j:Int):=by omega
    simp only [hw1,Int.natCast_nonneg,Int.toNat_natCast,hg1,h0,h0',decide_true,if_true,Option.bind_some]
    cases Op.bytesLess x.2.1[j-1] x.2.1[j] <;> simp
   ·have h0':¬ (0:Int)<(j:Int):=by omega
    simp [h0,h0']
 ·intro n
  simp only [z6v,Int.lt_irrefl,decide_false,Bool.false_eq_true,if_false]
theorem zz6 {k:Nat} (hk:KK≤k) {L:List It} (hL:L.length≤1048576) (hx:∀ x∈L,z4z x):zfe k L=some (z96 L):=by
 have hK:=z1n
 unfold zfe z96
 have:=zi6 (L:=fun n i=>z8w k n L i (fun list_12=>some (decide ((List.length list_12:Int)≤16)))) (b:=L.length) (p:=fun i=>match L[i]? with | some x=>z6y L i x | none=>false) (r:=some false) (e:=some (decide (L.length≤16))) ?_ ?_ (n:=k) (by omega)
 ·refine Eq.trans this ?_
  cases (List.range L.length).all (fun i=>match L[i]? with | some x=>z6y L i x | none=>false) <;> simp
 ·intro n i hi
  have hlt:(i:Int)<(L.length:Int):=by omega
  have hw:=z1x (i:=i) (by omega)
  have hg:L[i]?=some L[i]:=List.getElem?_eq_getElem hi
  have hxi:=hx L[i] (List.getElem_mem hi)
  have hxl:=hxi.1
  have hin:∀ E:List It→Int→Option Bool,_:=fun E=>zz5 hk hL hxi i (E:=E)
  simp only [z8w,hlt,decide_true,if_true,Int.natCast_nonneg,Int.toNat_natCast,hg,Option.bind_some,hw,zyy hk (show L[i].1.length≤1000000000000 by omega),zz3,hin,z6y,z4y]
  cases z3b L[i].1
  ·simp
  ·have gi:(zv L)[i]?=some L[i].1:=by unfold zv; rw [List.getElem?_map,hg]; rfl
   by_cases h0:0<i
   ·have hw1:za ((i:Int)-1)=((i-1:Nat):Int):=by rw [z2c (by omega) (by omega)]; omega
    have hg1:L[i-1]?=some L[i-1]:=List.getElem?_eq_getElem (by omega)
    have gi1:(zv L)[i-1]?=some L[i-1].1:=by unfold zv; rw [List.getElem?_map,hg1]; rfl
    have h0':(0:Int)<(i:Int):=by omega
    simp only [hw1,Int.natCast_nonneg,Int.toNat_natCast,hg1,h0,h0',decide_true,if_true,Option.bind_some,gi,gi1]
    cases Op.bytesLess L[i-1].1 L[i].1
    ·simp
    ·by_cases c1:0≤L[i].2.2.1∧L[i].2.2.1≤1000000 <;> by_cases c2:0≤L[i].2.2.2∧L[i].2.2.2≤1000 <;> simp [c1,c2]
   ·have h0':¬ (0:Int)<(i:Int):=by omega
    simp only [h0,h0',decide_false,Bool.false_eq_true,if_false]
    by_cases c1:0≤L[i].2.2.1∧L[i].2.2.1≤1000000 <;> by_cases c2:0≤L[i].2.2.2∧L[i].2.2.2≤1000 <;> simp [c1,c2]
 ·intro n
  have e2:decide ((L.length:Int)≤16)=decide (L.length≤16):=decide_eq_decide.2 (by omega)
  simp only [z8w,Int.lt_irrefl,decide_false,Bool.false_eq_true,if_false,e2]
def nmI (L:List It) (i:Nat):List UInt8:=match L[i]? with | some x=>x.1 | none=>[]
theorem zd1 {L:List It} {i:Nat} (h:i<L.length):nmI L i=(L[i]).1:=by unfold nmI; rw [List.getElem?_eq_getElem h]
theorem zz7 {L:List It} {i:Nat} (h:i<L.length):nmI L i∈zv L:=by rw [zd1 h]; exact List.mem_map.2 ⟨_,List.getElem_mem h,rfl⟩
theorem zpg {L:List It} {n:List UInt8} (h:n∈zv L):nmI L (atI L n)=n:=by rw [zd1 (zg1 h)]; exact zpd _
theorem zph {L:List It} (hs:z7w (zv L)) {i:Nat} (h:i<L.length):atI L (nmI L i)=i:=by
 have hm:=zz7 h
 have h1:=zg1 hm
 have h2:=zpg hm
 have nl:(zv L).length=L.length:=List.length_map ..
 have e:∀ j (hj:j<L.length),(zv L)[j]'(by omega)=nmI L j:=fun j hj=>by rw [zd1 hj]; simp [zv]
 rcases Nat.lt_trichotomy (atI L (nmI L i)) i with hlt | heq | hgt
 ·have:=List.pairwise_iff_getElem.1 hs _ _ (by omega) (by omega) hlt
  rw [e _ h1,e _ h,h2,zb5] at this; cases this
 ·exact heq
 ·have:=List.pairwise_iff_getElem.1 hs _ _ (by omega) (by omega) hgt
  rw [e _ h1,e _ h,h2,zb5] at this; cases this
def z47 (p:Nat→It→Bool):List It→Nat→Int
 | [],_ => -1
 | x::r,i=>if p i x=true then (i:Int) else z47 p r (i+1)
theorem zpi {p:Nat→It→Bool}:∀ (l:List It) (i:Nat),z47 p l i = -1∨∃ j x,l[j]?=some x∧z47 p l i=((i+j:Nat):Int)∧p (i+j) x=true
 | [],_=>.inl rfl
 | x::r,i=>by
  unfold z47
  by_cases h:p i x=true
  ·rw [if_pos h]; exact .inr ⟨0,x,rfl,rfl,h⟩
  ·rw [if_neg h]
   rcases zpi (p:=p) r (i+1) with h1 | ⟨j,y,h1,h2,h3⟩
   ·exact .inl h1
   ·exact .inr ⟨j+1,y,by simpa using h1,by rw [h2]; congr 1; omega,by rw [show i+(j+1)=i+1+j by omega]; exact h3⟩
def z3x (L:List It) (out:List Nat) (i:Nat) (x:It):Bool:=!out.contains i&&x.2.1.all (fun n=>out.contains (atI L n))
def z7x (L:List It):Nat→List Nat→List Nat
 | 0,out=>out
 | d+1,out=>if z47 (z3x L out) L 0<0 then out else z7x L d (out++[(z47 (z3x L out) L 0).toNat])
def zd2 (L:List It):List Nat:=z7x L L.length []
def zd3 (L:List It) (out:List Nat):Prop:=out.Nodup∧∀ i∈out,i<L.length
theorem zpj {L:List It} {out:List Nat} (h:zd3 L out):z47 (z3x L out) L 0<0∨∃ r:Nat,z47 (z3x L out) L 0=(r:Int)∧r<L.length∧r∉out∧zd3 L (out++[r]):=by
 rcases zpi (p:=z3x L out) L 0 with h1 | ⟨j,x,h1,h2,h3⟩
 ·exact .inl (by omega)
 ·rw [Nat.zero_add] at h2 h3
  have hj:=(List.getElem?_eq_some_iff.1 h1).1
  have hn:j∉out:=by unfold z3x at h3; simp only [Bool.and_eq_true,Bool.not_eq_true',List.contains_iff_mem] at h3; have:=h3.1; simpa using this
  refine .inr ⟨j,h2,hj,hn,?_,?_⟩
  ·rw [List.nodup_append]
   exact ⟨h.1,by simp,fun a ha b hb e=>hn (by rw [List.mem_singleton] at hb; subst hb; subst e; exact ha)⟩
  ·intro i hi
   rcases List.mem_append.1 hi with hi | hi
   ·exact h.2 i hi
   ·rw [List.mem_singleton.1 hi]; exact hj
def z2y (L:List It) (out:List Nat):List Bool:=(List.range L.length).map fun i=>out.contains i
theorem z97 (L:List It) (out:List Nat):(z2y L out).length=L.length:=by simp [z2y]
theorem zb7 {L:List It} {out:List Nat} {i:Nat} (h:i<L.length):(z2y L out)[i]?=some (out.contains i):=by
 unfold z2y; rw [List.getElem?_map,List.getElem?_range h]; rfl
theorem zz8 (L:List It):z2y L []=List.replicate L.length false:=by
 refine List.ext_getElem? fun i=>?_
 by_cases h:i<L.length
 ·rw [zb7 h,List.getElem?_replicate,if_pos h]; rfl
 ·rw [List.getElem?_eq_none (by rw [z97]; omega),List.getElem?_eq_none (by simp; omega)]
theorem zz9 {L:List It} {out:List Nat} {r:Nat} (h:r<L.length):(z2y L out).set r true=z2y L (out++[r]):=by
 refine List.ext_getElem? fun i=>?_
 by_cases hi:i<L.length
 ·rw [zb7 hi,List.getElem?_set]
  by_cases e:r=i
  ·subst e; rw [if_pos rfl,if_pos (by rw [z97]; exact h)]; simp
  ·rw [if_neg e,zb7 hi]
   congr 1
   rw [Bool.eq_iff_iff]
   simp [Ne.symm e]
 ·rw [List.getElem?_eq_none (by rw [List.length_set,z97]; omega),List.getElem?_eq_none (by rw [z97]; omega)]
theorem zza {k:Nat} (hk:KK≤k) {L:List It} (hL:L.length≤1048576) (f:FormP L) {i:Nat} (hi:i<L.length) (next:Int) (out:List Int) (ds:List Nat) (b:Bool) {E:List It→Int→Int→Bool→List Int→List Bool→Option (List Int)} :
  z8x k k L next (i:Int) b 0 out (z2y L ds) E=E L next (i:Int) (b&&(L[i]).2.1.all (fun n=>ds.contains (atI L n))) out (z2y L ds):=by
 have hK:=z1n
 have hm:=List.getElem_mem hi
 have hnl:(L[i]).2.1.length≤1048576:=by
  have:=(ziz (f.needs _ hm)).length_le_of_subset (f.known _ hm)
  rw [show (zv L).length=L.length from List.length_map ..] at this
  omega
 have hg:L[i]?=some L[i]:=List.getElem?_eq_getElem hi
 refine z5r (α:=List UInt8) (A:=Bool) (L:=fun n j b=>z8x k n L next (i:Int) b j out (z2y L ds) E) (I:=fun _ _=>True) (G:=fun post b=>E L next (i:Int) (b&&post.all (fun n=>ds.contains (atI L n))) out (z2y L ds)) (L[i]).2.1 ?_ ?_ k (by omega) b trivial
 ·intro n pre x post b hx _ ih hgx hlt
  have hw:=z1x (i:=pre.length) (by omega)
  have hxn:x∈zv L:=f.known _ hm x (by rw [hx]; simp)
  simp only [z8x,Int.natCast_nonneg,if_true,Int.toNat_natCast,hg,Option.bind_some,hlt,decide_true,hgx,zpe hk hL,zpf hxn,hw]
  cases b
  ·simp
  ·have ha:=zg1 hxn
   have hdl:((atI L x:Nat):Int)=atI L x∧atI L x<(z2y L ds).length:=⟨rfl,by rw [z97]; exact ha⟩
   simp only [if_true,hdl.2,zb7 ha,Option.bind_some,and_self]
   rw [ih _ trivial]; simp
 ·intro n b _
  simp only [z8x,Int.natCast_nonneg,if_true,Int.toNat_natCast,hg,Option.bind_some,Int.lt_irrefl,decide_false,Bool.false_eq_true,if_false]
  simp
theorem zzb {k:Nat} (hk:KK≤k) {L:List It} (hL:L.length≤1048576) (f:FormP L) (out:List Int) (ds:List Nat) {E:List It→Int→List Int→List Bool→Option (List Int)} :
  z7v k k L (-1) 0 out (z2y L ds) E=E L (z47 (z3x L ds) L 0) out (z2y L ds):=by
 have hK:=z1n
 have:=z5r (α:=It) (A:=Int) (L:=fun n j b=>z7v k n L b j out (z2y L ds) E) (I:=fun _ b=>b = -1∨0≤b) (G:=fun post b=>E L (if b<0 then z47 (z3x L ds) post (L.length-post.length) else b) out (z2y L ds)) L ?_ ?_ k (by omega) (-1) (.inl rfl)
 ·refine this.trans ?_
  rw [if_pos (by omega),Nat.sub_self]
 ·intro n pre x post b hx hI ih hg hlt
  have hlt':pre.length<L.length:=by omega
  have hw:=z1x (i:=pre.length) (by omega)
  have hxe:L[pre.length]=x:=(List.getElem?_eq_some_iff.1 hg).2
  have hi:∀ (E:List It→Int→Int→Bool→List Int→List Bool→Option (List Int)) c,_:=fun E c=>zza hk hL f hlt' b out ds c (E:=E)
  have e0:L.length-(x::post).length=pre.length:=by rw [hx]; simp
  have e1:L.length-post.length=pre.length+1:=by rw [hx]; simp; omega
  simp only [z7v,hlt,decide_true,if_true]
  by_cases hb:b<0
  ·have hdl:pre.length<(z2y L ds).length:=by rw [z97]; exact hlt'
   simp only [hb,decide_true,if_true,Int.natCast_nonneg,Int.toNat_natCast,hdl,and_self,zb7 hlt',Option.bind_some,hi,hxe,hw]
   rw [e0]
   unfold z47
   by_cases hr:z3x L ds pre.length x=true
   ·have hr':=hr
    unfold z3x at hr'
    rw [if_pos hr,hr',if_pos rfl]
    refine (ih _ (.inr (by omega))).trans ?_
    rw [if_neg (by omega)]
   ·have hr':=hr
    unfold z3x at hr'
    rw [if_neg hr,if_neg hr']
    refine (ih _ hI).trans ?_
    rw [if_pos hb,e1]
  ·simp only [hb,decide_false,Bool.false_eq_true,if_false]
 ·intro n b hI
  simp only [z7v,Int.lt_irrefl,decide_false,Bool.false_eq_true,if_false]
  rcases hI with rfl | hb
  ·rfl
  ·rw [if_neg (by omega)]
theorem zpk {k:Nat} (hk:KK≤k) {L:List It} (f:FormP L):∀ (d n:Nat) (ds:List Nat),zd3 L ds→ds.length+d=L.length→d<n→zam k n L (ds.map fun i:Nat=>(i:Int)) (z2y L ds) (fun q=>some q)=some ((z7x L d ds).map fun i:Nat=>(i:Int))
 | d,0,ds,_,_,h=>by omega
 | 0,n+1,ds,hg,hd,_=>by
  have:¬ ((ds.map fun i:Nat=>(i:Int)).length:Int)<(L.length:Int):=by rw [List.length_map]; omega
  simp only [zam,this,decide_false,Bool.false_eq_true,if_false,z7x]
 | d+1,n+1,ds,hg,hd,hn=>by
  have hL:=f.len
  have hLI:=z4x
  have:((ds.map fun i:Nat=>(i:Int)).length:Int)<(L.length:Int):=by rw [List.length_map]; omega
  have h1:∀ E:List It→Int→List Int→List Bool→Option (List Int),_:=fun E=>zzb hk (show L.length≤1048576 by omega) f (ds.map fun i:Nat=>(i:Int)) ds (E:=E)
  simp only [zam,this,decide_true,if_true,h1,z7x]
  rcases zpj hg with h | ⟨r,h,hr,hn',hg'⟩
  ·rw [decide_eq_true h,if_pos rfl,if_pos h]
  ·have hdl:r<(z2y L ds).length:=by rw [z97]; exact hr
   rw [h,decide_eq_false (show ¬ ((r:Int)<0) by omega),if_neg (show ¬ (false=true) by simp),if_neg (show ¬ ((r:Int)<0) by omega)]
   simp only [Int.natCast_nonneg,Int.toNat_natCast,hdl,and_self,if_true,zb7 hr,Option.bind_some]
   rw [if_pos (by simp only [List.length_map,List.length_singleton]; omega),zz9 hr]
   have:=zpk hk f d n (ds++[r]) hg' (by simp only [List.length_append,List.length_singleton]; omega) (by omega)
   rw [List.map_append] at this
   exact this
theorem zzc {k:Nat} (hk:KK≤k) {L:List It} (f:FormP L):zff k L=some ((zd2 L).map fun i:Nat=>(i:Int)):=by
 have hK:=z1n
 have hLI:=z4x
 have hL:=f.len
 unfold zff zd2
 rw [if_pos ⟨by omega,Int.le_refl _,by omega⟩,← zz8]
 exact zpk hk f L.length k [] ⟨List.nodup_nil,by simp⟩ (by simp) (by omega)
def z5d (L:List It):Bool:=z96 L&&decide ((zd2 L).length=L.length)
theorem zzd {k:Nat} (hk:KK≤k) {L:List It} (hL:L.length≤1048576) (hx:∀ x∈L,z4z x):zcp k L=some (z5d L):=by
 unfold zcp z5d
 rw [zz6 hk hL hx]
 cases h:z96 L
 ·simp
 ·have f:=zg2.1 h
  simp only [Option.bind_some,if_true,zzc hk f,List.length_map,Bool.true_and]
  congr 1
  exact decide_eq_decide.2 (by omega)
theorem zj2 {L:List It} (f:FormP L) {ds:List Nat} (hg:∀ i∈ds,i<L.length) {n:List UInt8} (hn:n∈zv L):(ds.map (nmI L)).contains n=ds.contains (atI L n):=by
 rw [Bool.eq_iff_iff,List.contains_iff_mem,List.contains_iff_mem,List.mem_map]
 constructor
 ·rintro ⟨i,hi,rfl⟩
  rw [zph f.strict (hg i hi)]; exact hi
 ·intro h
  exact ⟨_,h,zpg hn⟩
theorem zze {k:Nat} (hk:KK≤k) {s q:List (List UInt8)} (hs:s.length≤1000000000000) (hq:q.length≤1000000000000):zfm k s q=some (s.any fun n=>!q.contains n):=by
 have hK:=z1n
 unfold zfm zii
 rw [zfc (L:=fun n i=>zar k n s q (s.length:Int) i (some (-1))) (p:=fun n=>!q.contains n) s ?_ ?_ (n:=k) (by omega)]
 ·simp only [Option.bind_some,zj0]
 ·intro n i x hi hlt
  have hw:=z1x (i:=i) (by omega)
  simp only [zar,zih,hlt,decide_true,if_true,Int.natCast_nonneg,Int.toNat_natCast,hi,Option.bind_some,hw,zj1 hk hq]
 ·intro n
  simp [zar]
theorem zzf {k:Nat} (hk:KK≤k) {s q:List (List UInt8)} (hs:s.length≤1000000000000) (hq:q.length≤1000000000000):zfl k s q=some (s.any fun n=>!q.contains n):=by
 have hK:=z1n
 unfold zfl zig
 rw [zfc (L:=fun n i=>zaq k n s q (s.length:Int) i (some (-1))) (p:=fun n=>!q.contains n) s ?_ ?_ (n:=k) (by omega)]
 ·simp only [Option.bind_some,zj0]
 ·intro n i x hi hlt
  have hw:=z1x (i:=i) (by omega)
  simp only [zaq,zif,hlt,decide_true,if_true,Int.natCast_nonneg,Int.toNat_natCast,hi,Option.bind_some,hw,zj1 hk hq]
 ·intro n
  simp [zaq]
theorem zzg {k:Nat} (hk:KK≤k) {L:List It} (f:FormP L) {ds:List Nat} (hg:zd3 L ds) (hdl:ds.length≤L.length):zfo k L (ds.map (nmI L))=some (z47 (z3x L ds) L 0):=by
 have hK:=z1n
 have hL:=f.len
 unfold zfo
 have:=z5r (α:=It) (A:=Unit) (L:=fun n i _=>zas k n L (ds.map (nmI L)) (L.length:Int) i (some (-1))) (I:=fun _ _=>True) (G:=fun post _=>some (z47 (z3x L ds) post (L.length-post.length))) L ?_ ?_ k (by omega) () trivial
 ·refine this.trans ?_
  rw [Nat.sub_self]
 ·intro n pre x post _ hx _ ih hgx hlt
  have hlt':pre.length<L.length:=by omega
  have hw:=z1x (i:=pre.length) (by omega)
  have hxm:x∈L:=by rw [hx]; simp
  have e0:L.length-(x::post).length=pre.length:=by rw [hx]; simp
  have e1:L.length-post.length=pre.length+1:=by rw [hx]; simp; omega
  have hnl:x.2.1.length≤L.length:=by
   have:=(ziz (f.needs _ hxm)).length_le_of_subset (f.known _ hxm)
   rwa [show (zv L).length=L.length from List.length_map ..] at this
  have hql:(ds.map (nmI L)).length≤1000000000000:=by rw [List.length_map]; omega
  have hxn:x.1∈zv L:=List.mem_map.2 ⟨x,hxm,rfl⟩
  have hax:atI L x.1=pre.length:=by
   have:=zph f.strict hlt'
   rwa [zd1 hlt',(List.getElem?_eq_some_iff.1 hgx).2] at this
  have hr:zfn k x (ds.map (nmI L))=some (z3x L ds pre.length x):=by
   unfold zfn z3x
   rw [zj1 hk hql,zj2 f hg.2 hxn,hax,zze hk (by omega) hql]
   have e:(x.2.1.any fun n=>!(ds.map (nmI L)).contains n)=!x.2.1.all fun n=>ds.contains (atI L n):=by
    rw [List.not_all_eq_any_not,Bool.eq_iff_iff,List.any_eq_true,List.any_eq_true]
    exact ⟨fun ⟨n,hn,h⟩=>⟨n,hn,by rwa [zj2 f hg.2 (f.known _ hxm n hn)] at h⟩,fun ⟨n,hn,h⟩=>⟨n,hn,by rwa [zj2 f hg.2 (f.known _ hxm n hn)]⟩⟩
   rw [e]
   cases ds.contains pre.length <;> simp
  simp only [zas,hlt,decide_true,if_true,Int.natCast_nonneg,Int.toNat_natCast,hgx,Option.bind_some,hw,hr]
  rw [e0]
  unfold z47
  by_cases h:z3x L ds pre.length x=true
  ·rw [if_pos h,if_pos h]
  ·rw [if_neg h,if_neg h,ih () trivial,e1]
 ·intro n _ _
  simp only [zas,Int.lt_irrefl,decide_false,Bool.false_eq_true,if_false,z47]
theorem zpl {k:Nat} (hk:KK≤k) {L:List It} (f:FormP L):∀ (d n c:Nat) (ds:List Nat),zd3 L ds→ds.length+d=L.length→c+d=L.length→d<n→zat k n L (L.length:Int) (c:Int) (ds.map (nmI L)) (fun q=>some q)=some ((z7x L d ds).map (nmI L))
 | d,0,c,ds,_,_,_,h=>by omega
 | 0,n+1,c,ds,hg,hd,hc,_=>by
  have:¬ (c:Int)<(L.length:Int):=by omega
  simp only [zat,this,decide_false,Bool.false_eq_true,if_false,z7x]
 | d+1,n+1,c,ds,hg,hd,hc,hn=>by
  have hL:=f.len
  have hLI:=z4x
  have:(c:Int)<(L.length:Int):=by omega
  have hw:=z1x (i:=c) (by omega)
  simp only [zat,this,decide_true,if_true,zzg hk f hg (show ds.length≤L.length by omega),Option.bind_some,z7x,hw]
  rcases zpj hg with h | ⟨r,h,hr,hn',hg'⟩
  ·rw [decide_eq_true h,if_pos rfl,if_pos h]
  ·have e:L[r]?=some L[r]:=List.getElem?_eq_getElem hr
   rw [h,decide_eq_false (show ¬ ((r:Int)<0) by omega),if_neg (show ¬ (false=true) by simp),if_neg (show ¬ ((r:Int)<0) by omega)]
   simp only [Int.natCast_nonneg,Int.toNat_natCast,if_true,e,Option.bind_some]
   rw [if_pos (by simp only [List.length_map,List.length_singleton]; omega)]
   have:=zpl hk f d n (c+1) (ds++[r]) hg' (by simp only [List.length_append,List.length_singleton]; omega) (by omega) (by omega)
   rw [List.map_append] at this
   simp only [List.map_cons,List.map_nil,zd1 hr] at this
   exact this
theorem zzh {k:Nat} (hk:KK≤k) {L:List It} (f:FormP L):zau k L=some ((zd2 L).map (nmI L)):=by
 have hK:=z1n
 have hL:=f.len
 unfold zau zd2
 exact zpl hk f L.length k 0 [] ⟨List.nodup_nil,by simp⟩ (by simp) (by omega) (by omega)
def zd4 (L:List It) (x:It):Bool:=z95 x.2.1 16&&(decide (0≤x.2.2.1∧x.2.2.1≤1000000)&&(decide (0≤x.2.2.2∧x.2.2.2≤1000)&&!x.2.1.any fun n=>!(zv L).contains n))
theorem zpm (L:List It):(z95 (zv L) 16&&L.all (zd4 L))=z96 L:=by
 rw [Bool.eq_iff_iff,zg2,Bool.and_eq_true,zpb,List.all_eq_true]
 have nl:(zv L).length=L.length:=List.length_map ..
 have hany:∀ x:It,(!x.2.1.any fun n=>!(zv L).contains n)=true↔∀ n∈x.2.1,n∈zv L:=by
  intro x
  simp
 unfold zd4
 simp only [Bool.and_eq_true,zpb,decide_eq_true_eq,hany]
 constructor
 ·rintro ⟨⟨h1,h2,h3⟩,h⟩
  exact ⟨h1,h2,fun x hx=>(h x hx).2.1,fun x hx=>(h x hx).2.2.1,fun x hx=>(h x hx).2.2.2,fun x hx=>(h x hx).1.2.1,by omega⟩
 ·intro f
  have hl:=f.len
  refine ⟨⟨f.names,f.strict,by omega⟩,fun x hx=>⟨⟨fun y hy=>f.names y (f.known x hx y hy),f.needs x hx,?_⟩,f.made x hx,f.cost x hx,f.known x hx⟩⟩
  have:=(ziz (f.needs x hx)).length_le_of_subset (f.known x hx)
  omega
theorem zzi (b1 b2 b3 b4:Bool) (A B:Option Bool):(if (!b1)=true then B else if (!b2)=true then B else if (!b3)=true then B else if b4=true then B else A)=if (b1&&(b2&&(b3&&!b4)))=true then A else B:=by
 cases b1 <;> cases b2 <;> cases b3 <;> cases b4 <;> simp
theorem zpn {k:Nat} (hk:KK≤k) {L:List It} (hL:L.length≤1048576) (hx:∀ x∈L,z4z x):zaw k L=some (z5d L):=by
 have hK:=z1n
 have hLI:=z4x
 have nl:(zv L).length=L.length:=List.length_map ..
 have hn:∀ y∈zv L,y.length≤1048576:=fun y hy=>by obtain ⟨x,hx',rfl⟩:=List.mem_map.1 hy; exact (hx x hx').1
 unfold zaw z5d
 have h0:∀ E:List It→List (List UInt8)→Option Bool,z91 k k L L (L.length:Int) 0 [] E=E L (zv L):=by
  intro E
  refine z5r (L:=fun n i q=>z91 k n L L (L.length:Int) i q E) (I:=fun pre q=>q=zv pre) (G:=fun _ _=>E L (zv L)) L ?_ ?_ k (by omega) [] rfl
  ·intro n pre x post q hxp hq ih hg hlt
   subst hq
   have hw:=z1x (i:=pre.length) (by omega)
   have hpl:(zv pre).length=pre.length:=List.length_map ..
   simp only [z91,hlt,decide_true,if_true,Int.natCast_nonneg,Int.toNat_natCast,hg,Option.bind_some,hw]
   rw [if_pos (by simp only [List.length_singleton]; omega)]
   exact ih _ (by simp [zv])
  ·intro n q hq
   subst hq
   simp only [z91,Int.lt_irrefl,decide_false,Bool.false_eq_true,if_false]
 rw [h0,zpc hk (by omega) hn,← zpm]
 cases hb:z95 (zv L) 16
 ·simp
 ·simp only [Option.bind_some,Bool.not_true,Bool.false_eq_true,if_false,Bool.true_and]
  have:=zfb (L:=fun n i=>zav k n L L (L.length:Int) i (zv L) (fun list_12=>(zau k list_12).bind fun r_13=>some (decide ((List.length r_13:Int)=(List.length list_12:Int))))) (p:=zd4 L) (r:=some false) (e:=(zau k L).bind fun r_13=>some (decide ((List.length r_13:Int)=(List.length L:Int)))) L ?_ ?_ (n:=k) (by omega)
  ·refine this.trans ?_
   cases ha:L.all (zd4 L)
   ·simp
   ·have f:FormP L:=by rw [← zg2,← zpm,hb,ha]; rfl
    rw [if_pos rfl,zzh hk f]
    simp only [Option.bind_some,List.length_map,Bool.true_and]
    congr 1
    exact decide_eq_decide.2 (by omega)
  ·intro n i x hg hlt
   have hw:=z1x (i:=i) (by omega)
   have hxs:=hx x (List.mem_of_getElem? hg)
   have hx2:=hxs.2.1
   simp only [zav,hlt,decide_true,if_true,Int.natCast_nonneg,Int.toNat_natCast,hg,Option.bind_some,hw,zpc hk hxs.2.1 hxs.2.2,zz2,zzf hk (show x.2.1.length≤1000000000000 by omega) (show (zv L).length≤1000000000000 by omega),zd4]
   exact zzi _ _ _ _ _ _
  ·intro n
   simp only [zav,Int.lt_irrefl,decide_false,Bool.false_eq_true,if_false]
theorem zzj {k:Nat} (hk:KK≤k) {n:Int} (h:n≤9223372036854775807):∃ t,z6w k n=some t:=by
 unfold z6w
 by_cases h0:n≤0
 ·exact ⟨[109,48],by simp [h0]⟩
 ·simp only [decide_eq_true_eq,h0,if_false]
  have key:∀ (m:Nat) (n:Int) (out:List UInt8),0≤n→n<10 ^ m→n≤9223372036854775807→out.length+m≤100→∀ q,m<q→∃ t,z93 k q n out (fun out_1=>(if [109].length+out_1.length≤9223372036854775807 then some ([109]++out_1) else none))=some t:=by
   intro m
   induction m with
   | zero =>
    intro n out h1 h2 h3 h4 q hq
    obtain ⟨q,rfl⟩:∃ p,q=p+1:=⟨q-1,by omega⟩
    have:¬ 0<n:=by simp at h2; omega
    have h5:1+out.length≤9223372036854775807:=by omega
    exact ⟨[109]++out,by simp only [z93,decide_eq_true_eq,this,if_false,List.length_singleton,h5,if_true]⟩
   | succ m ih =>
    intro n out h1 h2 h3 h4 q hq
    obtain ⟨q,rfl⟩:∃ p,q=p+1:=⟨q-1,by omega⟩
    by_cases hn:0<n
    ·have hd:Int.tdiv n 10=n / 10:=Int.tdiv_eq_ediv_of_nonneg h1
     have hw:za (Int.tdiv n 10)=n / 10:=by rw [hd,z2c (by omega) (by omega)]
     have h5:1+out.length≤9223372036854775807:=by omega
     have h6:n / 10<10 ^ m:=by
      rw [Int.pow_succ] at h2
      omega
     obtain ⟨t,ht⟩:=ih (n / 10) ((zi2 [(z8q ((za (48+(Int.tmod n 10)))))])++out) (by omega) h6 (by omega) (by simp; omega) q (by omega)
     refine ⟨t,?_⟩
     simp only [z93,decide_eq_true_eq,hn,if_true,hw]
     rw [if_pos (by simp; omega)]
     exact ht
    ·have h5:1+out.length≤9223372036854775807:=by omega
     exact ⟨[109]++out,by simp only [z93,decide_eq_true_eq,hn,if_false,List.length_singleton,h5,if_true]⟩
  exact key 20 n [] (by omega) (by omega) h (by simp) k (by have:=z1n; omega)
theorem zj3 {L:List It} (h:z5d L=true):FormP L:=by
 unfold z5d at h
 rw [Bool.and_eq_true] at h
 exact zg2.1 h.1
def z10 {α:Type} (f:α→Nat) (l:List α):Nat:=(l.map f).sum
theorem zb8 {α:Type} (f:α→Nat):z10 f []=0:=rfl
theorem z7y {α:Type} (f:α→Nat) (x:α) (l:List α):z10 f (x::l)=f x+z10 f l:=by simp [z10]
theorem zg3 {α:Type} (f:α→Nat) (l m:List α):z10 f (l++m)=z10 f l+z10 f m:=by simp [z10]
theorem zzk {α:Type} (f:α→Nat) {x:α} {l:List α} (h:x∈l):f x≤z10 f l:=by
 induction l with
 | nil=>cases h
 | cons y l ih =>
  rw [z7y]
  rcases List.mem_cons.1 h with rfl | h
  ·omega
  ·have:=ih h; omega
instance dec_StringS:DecidableEq (List (List UInt8)):=inferInstance
def zd5 (a:List (List UInt8)):Nat:=a.length+z10 List.length a
instance dec_Item_2:DecidableEq (Int×Int):=inferInstance
instance dec_Item_1:DecidableEq (List (List UInt8)×Int×Int):=inferInstance
instance dec_Item:DecidableEq (List UInt8×List (List UInt8)×Int×Int):=inferInstance
def z7z (a:List UInt8×List (List UInt8)×Int×Int):Nat:=(List.length (a.1))+(zd5 (a.2.1))
instance dec_ItemS:DecidableEq (List (List UInt8×List (List UInt8)×Int×Int)):=inferInstance
def zb9 (a:List (List UInt8×List (List UInt8)×Int×Int)):Nat:=a.length+z10 z7z a
theorem zzl {k:Nat} (hk:KK≤k) {a b:List (List UInt8)} (h:zd5 a≤10000000000):zfq k a b=some (decide (a=b)):=by
 have hle:a.length≤10000000000:=Nat.le_trans (show a.length≤zd5 a by unfold zd5; omega) h
 unfold zfq
 by_cases hl:a.length=b.length
 ·rw [if_neg (by simp [hl])]
  refine zmr (L:=fun n i=>zaz k n a b i (some true)) a b hl ?_ ?_ (n:=k) (by have:=z1n; omega)
  ·intro n i x y hx hy hlt
   have hw:=z1x (i:=i) (by omega)
   by_cases e:x=y <;> simp [zaz,hlt,hx,hy,hw,e]
  ·intro n
   simp [zaz]
 ·have h2:a≠b:=fun e=>hl (by rw [e])
  have h3:¬ (a.length:Int)=b.length:=by omega
  simp [h3,h2]
theorem zzm {k:Nat} (hk:KK≤k) {a b:List UInt8×List (List UInt8)×Int×Int} (h:z7z a≤10000000000):zfr k a b=some (decide (a=b)):=by
 obtain ⟨a0,a1,a2,a3⟩:=a
 obtain ⟨b0,b1,b2,b3⟩:=b
 have c1:(zd5 a1)≤10000000000:=by unfold z7z at h; simp only at h; omega
 unfold zfr
 simp only [zzl hk c1,Option.bind_some,Prod.mk.injEq]
 by_cases x0:a0=b0
 case neg=>simp [x0]
 subst x0
 by_cases x1:a1=b1
 case neg=>simp [x1]
 subst x1
 by_cases x2:a2=b2
 case neg=>simp [x2]
 subst x2
 by_cases x3:a3=b3
 case neg=>simp [x3]
 subst x3
 simp
theorem zzn {k:Nat} (hk:KK≤k) {a b:List (List UInt8×List (List UInt8)×Int×Int)} (h:zb9 a≤10000000000):zcx k a b=some (decide (a=b)):=by
 have hle:a.length≤10000000000:=Nat.le_trans (show a.length≤zb9 a by unfold zb9; omega) h
 unfold zcx
 by_cases hl:a.length=b.length
 ·rw [if_neg (by simp [hl])]
  refine zmr (L:=fun n i=>zb0 k n a b i (some true)) a b hl ?_ ?_ (n:=k) (by have:=z1n; omega)
  ·intro n i x y hx hy hlt
   have hw:=z1x (i:=i) (by omega)
   have hm:=zzk z7z (List.mem_of_getElem? hx)
   have hb:z7z x≤10000000000:=by unfold zb9 at h; omega
   simp only [zb0,hlt,decide_true,if_true,Int.natCast_nonneg,Int.toNat_natCast,hx,hy,Option.bind_some,hw,zzm hk hb]
   by_cases e:x=y
   ·rw [decide_eq_true e,if_pos e]; simp
   ·rw [decide_eq_false e,if_neg e]; simp
  ·intro n
   simp [zb0]
 ·have h2:a≠b:=fun e=>hl (by rw [e])
  have h3:¬ (a.length:Int)=b.length:=by omega
  simp [h3,h2]
theorem zg4 {α:Type} (g:α→Nat) (B:Nat):∀ l:List α,(∀ x∈l,g x≤B)→z10 g l≤l.length*B
 | [],_=>by rw [zb8]; omega
 | x::l,h=>by
  have h1:=h x (by simp)
  have h2:=zg4 g B l (fun y hy=>h y (by simp [hy]))
  rw [z7y,List.length_cons,Nat.succ_mul]
  omega
structure SimpP (s:List Int):Prop where
 len1:1≤s.length
 len4:s.length≤4
 vert:∀ x∈s,0≤x∧x≤9
 rise:s.Pairwise (fun a b:Int=>a<b)
def zpo:List Int→List Int→Bool
 | x::a,y::b=>if x=y then zpo a b else decide (x<y)
 | _,_=>false
def zzo (a b:List Int):Bool:=decide (a.length<b.length)||(decide (a.length=b.length)&&zpo a b)
abbrev Cx:=List (List Int)
def zzp (s:List Int) (k:Nat):List Int:=s.take k++s.drop (k+1)
structure CxP (c:Cx):Prop where
 len:c.length≤48
 simp:∀ s∈c,SimpP s
 ord:c.Pairwise (fun a b=>zzo a b=true)
 face:∀ s∈c,1<s.length→∀ k,k<s.length→zzp s k∈c
theorem zpp {d:Nat} (h:d<10):z14 (UInt8.ofNat (48+d))=((48+d:Nat):Int):=by
 have:(UInt8.ofNat (48+d)).toNat=48+d:=by simp [UInt8.toNat_ofNat']; omega
 show ((UInt8.ofNat (48+d)).toNat:Int)=_
 rw [this]
def z98 (u:Nat):List Int:=if u=0 then [] else ((Lib.decDigits u).map z14).reverse
theorem zzq {u:Nat} (h:u≠0):z98 u=((48+u % 10:Nat):Int)::z98 (u / 10):=by
 unfold z98
 rw [if_neg h]
 by_cases h1:u<10
 ·rw [Lib.decDigits,dif_pos h1,if_pos (by omega)]
  have:=zpp h1
  rw [Nat.mod_eq_of_lt h1,List.map_cons,List.map_nil,this]
  rfl
 ·rw [Lib.decDigits,dif_neg h1,if_neg (by omega)]
  have:=zpp (d:=u % 10) (by omega)
  rw [List.map_append,List.map_cons,List.map_nil,this,List.reverse_append]
  rfl
theorem zpq:∀ (j u:Nat),u<10 ^ j→(z98 u).length≤j
 | 0,u,h=>by
  have:u=0:=by simpa using h
  subst this; simp [z98]
 | j+1,u,h=>by
  by_cases h0:u=0
  ·subst h0; simp [z98]
  ·rw [zzq h0,List.length_cons]
   have:=zpq j (u / 10) (by rw [Nat.pow_succ] at h; omega)
   omega
theorem zzr {u j:Nat} (h:u<10 ^ j) (hj:1≤j):(Lib.decDigits u).length≤j:=by
 by_cases h0:u=0
 ·subst h0; rw [Lib.decDigits,dif_pos (by omega)]; exact hj
 ·have:=zpq j u h
  unfold z98 at this
  rw [if_neg h0] at this
  simpa using this
theorem zpr {c:UInt8} {B:Nat}:∀ (r:List (List UInt8)),(∀ w∈r,w.length≤B)→(Lib.joinTail [c] r).length≤r.length*(B+1)
 | [],_=>by simp [Lib.joinTail]
 | y::r,h=>by
  have e:Lib.joinTail [c] (y::r)=[c]++y++Lib.joinTail [c] r:=by simp [Lib.joinTail]
  have h1:=zpr (c:=c) r fun w hw=>h w (by simp [hw])
  have h2:=h y (by simp)
  rw [e,List.length_append,List.length_append,List.length_singleton,List.length_cons,Nat.succ_mul]
  omega
theorem zps {c:UInt8} {B:Nat} (ws:List (List UInt8)) (h:∀ w∈ws,w.length≤B):(Lib.join ws [c]).length≤ws.length*(B+1):=by
 cases ws with
 | nil=>rw [Lib.join_nil]; simp
 | cons y r =>
  have h1:=zpr (c:=c) (B:=B) r fun w hw=>h w (by simp [hw])
  have h2:=h y (by simp)
  rw [Lib.join_cons,List.length_append,List.length_cons,Nat.succ_mul]
  omega
theorem zzs (x sep:List UInt8):Lib.join [x] sep=x:=by rw [Lib.join_cons]; simp [Lib.joinTail]
theorem zzt (u:Nat):Lib.decDigits u≠[]:=by
 rw [Lib.decDigits]
 split <;> simp
theorem zzu {n:Int} (h:0≤n∧n<10000000):(Lib.itoa n).length≤7∧Lib.itoa n≠[]:=by
 unfold Lib.itoa
 rw [if_neg (by omega)]
 exact ⟨zzr (by omega) (by omega),zzt _⟩
def wdI (p:List UInt8):List (List UInt8):=z1h 32 p
def w_n (w:List (List UInt8)) (i:Nat):List UInt8:=(w[i]?).getD []
def itW (w:List (List UInt8)):It:=(w_n w 0,w.drop 3,(z16 (w_n w 1)).1,(z16 (w_n w 2)).1)
def okN (w:List (List UInt8)):Bool:=(z16 (w_n w 1)).2&&(z16 (w_n w 2)).2
def ptI (s:List UInt8):List (List (List UInt8)):=(z1h 47 s).map wdI
def z4m (x:It):List UInt8:=Lib.join ([x.1,Lib.itoa x.2.2.1,Lib.itoa x.2.2.2]++x.2.1) [32]
def zba (L:List It):List UInt8:=Lib.join (L.map z4m) [47]
noncomputable def z5e (s:List UInt8):List It×Bool :=
 if s=[] then ([],true) else if (ptI s).all (fun w=>decide (3≤w.length)&&okN w)=true then (if z5d ((ptI s).map itW)=true then ((ptI s).map itW,true) else ([],false)) else ([],false)
theorem zbb {w:List (List UInt8)} (h:3≤w.length) {i:Nat} (hi:i<3):w[i]?=some (w_n w i):=by
 unfold w_n
 rw [List.getElem?_eq_getElem (by omega)]; rfl
theorem zpt {c:UInt8} {s x:List UInt8} (h:x∈z1h c s):x.length≤s.length:=by
 have:=zil c s [] x h
 simpa using this
theorem zpu (c:UInt8) (s:List UInt8):(z1h c s).length≤s.length+1:=zyo c s []
theorem zg5 {p:List UInt8} (hp:p.length≤1048576):(∀ x∈wdI p,x.length≤1048576)∧(wdI p).length≤1048577:=by
 refine ⟨fun x hx=>by have:=zpt hx; omega,?_⟩
 have:=zpu 32 p
 unfold wdI; omega
theorem zd6 {p:List UInt8} (hp:p.length≤1048576) (i:Nat):(w_n (wdI p) i).length≤1048576:=by
 unfold w_n
 cases h:(wdI p)[i]? with
 | none=>simp
 | some x=>exact (zg5 hp).1 x (List.mem_of_getElem? h)
theorem zzv {p:List UInt8} (hp:p.length≤1048576) (h3:3≤(wdI p).length):z4z (itW (wdI p)):=by
 obtain ⟨h1,h2⟩:=zg5 hp
 refine ⟨zd6 hp 0,?_,fun y hy=>h1 y (List.mem_of_mem_drop hy)⟩
 show ((wdI p).drop 3).length≤_
 rw [List.length_drop]; omega
theorem zzw {l:List (List UInt8)} (h:l.length≤1048577):zcs l=some l:=by
 have hL:=z4x
 unfold zcs
 have h1:(([]:List Unit).length+l.length)*16≤LIM:=by rw [List.length_nil]; omega
 rw [if_pos h1]
 cases l with
 | nil=>simp [zqa]
 | cons a l=>simp
theorem zj4 {s:List UInt8} (hs:s.length≤1048576):∀ p∈z1h 47 s,p.length≤1048576:=fun p hp=>by have:=zpt hp; omega
theorem zzx {k:Nat} (hk:KK≤k) {P:List (List UInt8)} (hP:P.length≤1048577) (hp:∀ p∈P,p.length≤1048576) {E:List It→Option (List It×Bool)} :
  z8y k k 0 [] P E=if (P.map wdI).all (fun w=>decide (3≤w.length)&&okN w)=true then E ((P.map wdI).map itW) else some ([],false):=by
 have hK:=z1n
 have hL:=z4x
 refine z5r (α:=List UInt8) (A:=List It) (L:=fun n i q=>z8y k n i q P E) (I:=fun pre q=>q=(pre.map wdI).map itW) (G:=fun l q=>if (l.map wdI).all (fun w=>decide (3≤w.length)&&okN w)=true then E (q++(l.map wdI).map itW) else some ([],false)) P ?_ ?_ k (by omega) [] rfl
 ·intro n pre x post q hx hI ih hg hlt
  subst hI
  have hpl:pre.length<P.length:=by rw [hx]; simp
  have hw:=z1x (i:=pre.length) (by omega)
  have hxl:=hp x (by rw [hx]; simp)
  have e32:(32:Int)=z14 32:=rfl
  have hsp:=zos hk (s:=x) (by omega) 32
  rw [← e32] at hsp
  simp only [z8y,hlt,decide_true,if_true,Int.natCast_nonneg,Int.toNat_natCast,hpl,and_self,hg,Option.bind_some,hsp]
  have hww:z1h 32 x=wdI x:=rfl
  simp only [hww]
  by_cases h3:(wdI x).length<3
  ·have h3':((wdI x).length:Int)<3:=by omega
   rw [decide_eq_true h3',if_pos rfl]
   have h3b:decide (3≤(wdI x).length)=false:=decide_eq_false (by omega)
   simp only [List.map_cons,List.all_cons,h3b,Bool.false_and,Bool.false_eq_true,if_false]
  ·have h3':¬ ((wdI x).length:Int)<3:=by omega
   rw [decide_eq_false h3',if_neg (by simp)]
   have g0:=zbb (w:=wdI x) (by omega) (i:=0) (by omega)
   have g1:=zbb (w:=wdI x) (by omega) (i:=1) (by omega)
   have g2:=zbb (w:=wdI x) (by omega) (i:=2) (by omega)
   have b1:(0:Int)≤1∧1<(wdI x).length:=⟨by omega,by omega⟩
   have b2:(0:Int)≤2∧2<(wdI x).length:=⟨by omega,by omega⟩
   have b0:(0:Int)≤0∧0<(wdI x).length:=⟨by omega,by omega⟩
   have b3:(0:Int)≤3∧(3:Int)≤((wdI x).length:Int)∧((wdI x).length:Int)≤(wdI x).length:=⟨by omega,by omega,by omega⟩
   obtain ⟨_,hl2⟩:=zg5 hxl
   have ht:((wdI x).drop 3).take ((wdI x).length-3)=(wdI x).drop 3:=List.take_of_length_le (by rw [List.length_drop]; exact Nat.le_refl _)
   have lim1:(([]:List Unit).length+((wdI x).drop 3).length)*16≤LIM:=by rw [List.length_nil,List.length_drop]; omega
   have lim2:((((pre.map wdI).map itW).length)+1)*56≤LIM:=by simp only [List.length_map]; omega
   simp only [b1,b2,b0,b3,and_self,if_true,g0,g1,g2,Option.bind_some,zp7 hk (zd6 hxl 1),zp7 hk (zd6 hxl 2),ht,lim1,List.length_singleton,lim2,hw]
   have hokN:okN (wdI x)=((z16 (w_n (wdI x) 1)).2&&(z16 (w_n (wdI x) 2)).2):=rfl
   cases n1:(z16 (w_n (wdI x) 1)).2 with
   | false=>simp [hokN,n1]
   | true =>
    cases n2:(z16 (w_n (wdI x) 2)).2 with
    | false=>simp [hokN,n1,n2]
    | true =>
     simp only [Bool.not_true,Bool.false_eq_true,if_false]
     rw [ih _ (by simp [itW])]
     simp only [List.map_cons,List.all_cons,hokN,n1,n2,Bool.and_true,decide_eq_true (show 3≤(wdI x).length by omega),Bool.true_and,List.append_assoc,List.singleton_append]
     rfl
 ·intro n q hI
  subst hI
  simp [z8y]
theorem zzy {k:Nat} (hk:KK≤k) {s:List UInt8} {P:List (List UInt8)} (hP:P.length≤1048577) (hp:∀ p∈P,p.length≤1048576) {E:List UInt8→List It→Option (List It×Bool)} :
  z92 k k s (P.length:Int) 0 [] P E=if (P.map wdI).all (fun w=>decide (3≤w.length))=true then E s ((P.map wdI).map itW) else some ([],false):=by
 have hK:=z1n
 have hL:=z4x
 refine z5r (α:=List UInt8) (A:=List It) (L:=fun n i q=>z92 k n s (P.length:Int) i q P E) (I:=fun pre q=>q=(pre.map wdI).map itW) (G:=fun l q=>if (l.map wdI).all (fun w=>decide (3≤w.length))=true then E s (q++(l.map wdI).map itW) else some ([],false)) P ?_ ?_ k (by omega) [] rfl
 ·intro n pre x post q hx hI ih hg hlt
  subst hI
  have hpl:pre.length<P.length:=by rw [hx]; simp
  have hw:=z1x (i:=pre.length) (by omega)
  have hxl:=hp x (by rw [hx]; simp)
  have hsp:=zow hk (s:=x) (by omega) 32
  simp only [z92,hlt,decide_true,if_true,Int.natCast_nonneg,Int.toNat_natCast,hpl,and_self,hg,Option.bind_some,hsp]
  have hww:z1h 32 x=wdI x:=rfl
  simp only [hww]
  by_cases h3:(wdI x).length<3
  ·have h3':((wdI x).length:Int)<3:=by omega
   rw [decide_eq_true h3',if_pos rfl]
   have h3b:decide (3≤(wdI x).length)=false:=decide_eq_false (by omega)
   simp only [List.map_cons,List.all_cons,h3b,Bool.false_and,Bool.false_eq_true,if_false]
  ·have h3':¬ ((wdI x).length:Int)<3:=by omega
   rw [decide_eq_false h3',if_neg (by simp)]
   have g0:=zbb (w:=wdI x) (by omega) (i:=0) (by omega)
   have g1:=zbb (w:=wdI x) (by omega) (i:=1) (by omega)
   have g2:=zbb (w:=wdI x) (by omega) (i:=2) (by omega)
   have b1:(0:Int)≤1∧1<(wdI x).length:=⟨by omega,by omega⟩
   have b2:(0:Int)≤2∧2<(wdI x).length:=⟨by omega,by omega⟩
   have b0:(0:Int)≤0∧0<(wdI x).length:=⟨by omega,by omega⟩
   have b3:(0:Int)≤3∧(3:Int)≤((wdI x).length:Int)∧((wdI x).length:Int)≤(wdI x).length:=⟨by omega,by omega,by omega⟩
   obtain ⟨_,hl2⟩:=zg5 hxl
   have ht:((wdI x).drop 3).take ((wdI x).length-3)=(wdI x).drop 3:=List.take_of_length_le (by rw [List.length_drop]; exact Nat.le_refl _)
   have lim2:((((pre.map wdI).map itW).length)+1)*56≤LIM:=by simp only [List.length_map]; omega
   have hcl:zcs ((wdI x).drop 3)=some ((wdI x).drop 3):=zzw (by rw [List.length_drop]; omega)
   simp only [b1,b2,b0,b3,and_self,if_true,g0,g1,g2,Option.bind_some,zp5 (zd6 hxl 1),zp5 (zd6 hxl 2),ht,hcl,List.length_singleton,lim2,hw]
   rw [ih _ (by simp [itW])]
   simp only [List.map_cons,List.all_cons,decide_eq_true (show 3≤(wdI x).length by omega),Bool.true_and,List.append_assoc,List.singleton_append]
   rfl
 ·intro n q hI
  subst hI
  simp [z92]
theorem zzz {s:List UInt8} (h:(ptI s).all (fun w=>decide (3≤w.length))=true):(ptI s).length≤s.length:=by
 unfold ptI at *
 rw [List.length_map]
 have h1:(z1h 47 s).length=s.count 47+1:=zcz 47 s []
 have h2:0<s.count 32:=by
  rw [List.count_pos_iff]
  have hpos:=zfx 47 s []
  obtain ⟨p,hp⟩:∃ p,p∈z1h 47 s:=by
   cases hq:z1h 47 s with
   | nil=>unfold z1h at hq; rw [hq] at hpos; simp at hpos
   | cons a l=>exact ⟨a,by simp⟩
  have h3:=List.all_eq_true.1 h (wdI p) (List.mem_map.2 ⟨p,hp,rfl⟩)
  have h3:3≤(wdI p).length:=by simpa using h3
  have h4:(wdI p).length=p.count 32+1:=zcz 32 p []
  have h5:32∈p:=List.count_pos_iff.1 (by omega)
  rcases ziy s [] p hp 32 h5 with h6 | h6
  ·cases h6
  ·exact h6
 have h3:s.count 47+s.count 32≤s.length:=by
  clear h h1 h2
  induction s with
  | nil=>simp
  | cons a s ih =>
   rw [List.count_cons,List.count_cons,List.length_cons]
   by_cases e:a=47
   ·subst e
    have:((47:UInt8)==32)=false:=by decide
    simp [this]; omega
   ·have:(a==(47:UInt8))=false:=by simpa using e
    simp only [this,Bool.false_eq_true,if_false]
    split <;> omega
 omega
theorem z81 {n:List UInt8} (h:z3b n=true):(32:UInt8)∉n∧(47:UInt8)∉n∧n.length≤10:=by
 unfold z3b at h
 cases n with
 | nil=>cases h
 | cons a l =>
  simp only [Bool.and_eq_true,decide_eq_true_eq] at h
  obtain ⟨h1,h2,h3⟩:=h
  have key:∀ c:UInt8,z5t (z14 c)=false→c∉a::l:=fun c hc hm=>by
   have:=List.all_eq_true.1 h3 c hm
   rw [hc] at this; cases this
  exact ⟨key 32 (by decide),key 47 (by decide),h1⟩
theorem zpv {c b:UInt8}:∀ {ws:List (List UInt8)},b∈Lib.join ws [c]→b=c∨∃ w∈ws,b∈w
 | [],h=>by rw [Lib.join_nil] at h; cases h
 | [x],h=>by
  rw [zzs] at h; exact .inr ⟨x,by simp,h⟩
 | x::y::r,h=>by
  have e:Lib.join (x::y::r) [c]=x++c::Lib.join (y::r) [c]:=by
   rw [Lib.join_cons,Lib.join_cons]; simp [Lib.joinTail]
  rw [e] at h
  rcases List.mem_append.1 h with h | h
  ·exact .inr ⟨x,by simp,h⟩
  ·rcases List.mem_cons.1 h with h | h
   ·exact .inl h
   ·rcases zpv (ws:=y::r) h with h | ⟨w,hw,hb⟩
    ·exact .inl h
    ·exact .inr ⟨w,by simp [hw],hb⟩
theorem zpw {w:List UInt8} (h:Lib.itoa (z16 w).1=w):(z16 w).2=true:=by
 unfold z16 at *
 cases hn:z25 w with
 | some v=>rfl
 | none =>
  rw [hn] at h
  have e:Lib.itoa ((0,false):Int×Bool).1=[48]:=by
   show Lib.itoa 0=[48]
   have:=Lib.itoa_nonneg 0
   rw [show ((0:Nat):Int)=0 from rfl] at this
   rw [this,Lib.decDigits_one (by omega)]; rfl
  have h:Lib.itoa ((0,false):Int×Bool).1=w:=h
  rw [e] at h
  subst h
  have:z25 [48]=some 0:=by decide
  rw [this] at hn; cases hn
theorem zpx {w:List UInt8} (h:(z16 w).2=true):Lib.itoa (z16 w).1=w:=by
 unfold z16 at *
 cases hn:z25 w with
 | some v=>rw [hn] at h; exact (zit.1 hn).1
 | none=>rw [hn] at h; cases h
theorem z100 {s:List UInt8} (h3:(ptI s).all (fun w=>decide (3≤w.length))=true) (hv:z5d ((ptI s).map itW)=true):zba ((ptI s).map itW)=s↔(ptI s).all okN=true:=by
 have f:=zj3 hv
 have hne:ptI s≠[]:=by
  unfold ptI
  intro e
  have:=zfx 47 s []
  rw [List.map_eq_nil_iff] at e
  unfold z1h at e
  rw [e] at this; simp at this
 have hw3:∀ w∈ptI s,3≤w.length:=fun w hw=>by simpa using List.all_eq_true.1 h3 w hw
 have split3:∀ w:List (List UInt8),3≤w.length→[w_n w 0,w_n w 1,w_n w 2]++w.drop 3=w:=fun w h=>by
  match w,h with
  | a::b::c::r,_=>rfl
 -- words of a part
 have wj:∀ p,Lib.join (wdI p) [32]=p:=fun p=>zp8 32 p
 have pj:Lib.join ((ptI s).map fun w=>Lib.join w [32]) [47]=s:=by
  have:(ptI s).map (fun w=>Lib.join w [32])=z1h 47 s:=by
   unfold ptI
   rw [List.map_map]
   conv=>rhs; rw [← List.map_id (z1h 47 s)]
   exact List.map_congr_left fun p _=>wj p
  rw [this]
  exact zp8 47 s
 have names:∀ w∈ptI s,z3b (w_n w 0)=true∧∀ n∈w.drop 3,z3b n=true:=fun w hw=>by
  have hm:itW w∈(ptI s).map itW:=List.mem_map.2 ⟨w,hw,rfl⟩
  refine ⟨f.names _ (List.mem_map.2 ⟨_,hm,rfl⟩),fun n hn=>f.names n (f.known _ hm n hn)⟩
 constructor
 ·intro h
  have no47:∀ x∈((ptI s).map itW).map z4m,(47:UInt8)∉x:=by
   intro x hx hb
   rw [List.map_map] at hx
   obtain ⟨w,hw,rfl⟩:=List.mem_map.1 hx
   obtain ⟨n1,n2⟩:=names w hw
   rcases zpv hb with e | ⟨y,hy,hby⟩
   ·cases e
   ·simp only [itW,List.cons_append,List.nil_append,List.mem_cons] at hy
    rcases hy with rfl | rfl | rfl | hy
    ·exact (z81 n1).2.1 hby
    ·exact zfz.2 hby
    ·exact zfz.2 hby
    ·exact (z81 (n2 y hy)).2.1 hby
  have h1:=zix _ no47 (by simpa using hne)
  rw [show Lib.join (((ptI s).map itW).map z4m) [47]=s from h] at h1
  rw [List.all_eq_true]
  intro w hw
  -- this part's own text
  obtain ⟨i,hi⟩:=List.getElem?_of_mem hw
  obtain ⟨n1,n2⟩:=names w hw
  have h2:(z1h 47 s)[i]?=some (z4m (itW w)):=by rw [h1]; simp [hi]
  have h4:w=wdI (z4m (itW w)):=by
   have:(ptI s)[i]?=some (wdI (z4m (itW w))):=by unfold ptI; rw [List.getElem?_map,h2]; rfl
   rw [hi] at this
   exact Option.some.inj this
  have h5:=zix (c:=32) ([(itW w).1,Lib.itoa (itW w).2.2.1,Lib.itoa (itW w).2.2.2]++(itW w).2.1) (fun x hx=>by
   simp only [itW,List.cons_append,List.nil_append,List.mem_cons] at hx
   rcases hx with rfl | rfl | rfl | hx
   ·exact (z81 n1).1
   ·exact zfz.1
   ·exact zfz.1
   ·exact (z81 (n2 x hx)).1) (by simp)
  have h6:w=[w_n w 0,Lib.itoa (z16 (w_n w 1)).1,Lib.itoa (z16 (w_n w 2)).1]++w.drop 3:=h4.trans h5
  have e1:w_n w 1=Lib.itoa (z16 (w_n w 1)).1:=by
   conv=>lhs; rw [h6]
   rfl
  have e2:w_n w 2=Lib.itoa (z16 (w_n w 2)).1:=by
   conv=>lhs; rw [h6]
   rfl
  simp only [okN,zpw e1.symm,zpw e2.symm,Bool.and_self]
 ·intro h
  have:((ptI s).map itW).map z4m=(ptI s).map fun w=>Lib.join w [32]:=by
   rw [List.map_map]
   refine List.map_congr_left fun w hw=>?_
   have h1:=List.all_eq_true.1 h w hw
   simp only [okN,Bool.and_eq_true] at h1
   show Lib.join ([w_n w 0,Lib.itoa (z16 (w_n w 1)).1,Lib.itoa (z16 (w_n w 2)).1]++w.drop 3) [32]=_
   rw [zpx h1.1,zpx h1.2,split3 w (hw3 w hw)]
  unfold zba
  rw [this]; exact pj
theorem zpy {n:Int} (h:0≤n∧n≤1000000):(Lib.itoa n).length≤7:=(zzu ⟨h.1,by omega⟩).1
theorem zpz {xs:List (List UInt8)} {c:UInt8} {B:Nat} (hB:B≤100000000) (hx:∀ x∈xs,x.length≤B) (hl:xs.length≤1048579):zax [c] xs=some ((Lib.join xs [c],()),(xs,()),()):=by
 have hL:=z4x
 have h1:=zps (c:=c) (B:=B) xs hx
 have h2:xs.length*(B+1)≤1048579*(B+1):=Nat.mul_le_mul_right _ hl
 have h3:1048579*(B+1)≤1048579*100000001:=Nat.mul_le_mul_left _ (by omega)
 unfold zax
 rw [if_pos ⟨by omega,by omega⟩]
theorem zq0 {L:List It} (f:FormP L) (hx:∀ x∈L,z4z x) {x:It} (h:x∈L):(∀ w∈[x.1,Lib.itoa x.2.2.1,Lib.itoa x.2.2.2]++x.2.1,w.length≤10)∧([x.1,Lib.itoa x.2.2.1,Lib.itoa x.2.2.2]++x.2.1).length≤1048579:=by
 refine ⟨fun w hw=>?_,by have:=(hx x h).2.1; simp; omega⟩
 simp only [List.cons_append,List.nil_append,List.mem_cons] at hw
 rcases hw with rfl | rfl | rfl | hw
 ·exact (z81 (f.names _ (List.mem_map.2 ⟨x,h,rfl⟩))).2.2
 ·have:=zpy (f.made x h); omega
 ·have:=zpy (n:=x.2.2.2) (by have:=f.cost x h; omega); omega
 ·exact (z81 (f.names _ (f.known x h w hw))).2.2
theorem z101 {L:List It} (f:FormP L) (hx:∀ x∈L,z4z x) {x:It} (h:x∈L):(z4m x).length≤20000000:=by
 obtain ⟨h1,h2⟩:=zq0 f hx h
 have h3:=zps (c:=32) (B:=10) _ h1
 have h4:([x.1,Lib.itoa x.2.2.1,Lib.itoa x.2.2.2]++x.2.1).length*(10+1)≤1048579*11:=Nat.mul_le_mul_right _ h2
 unfold z4m
 omega
theorem z102 {k:Nat} (hk:KK≤k) {L:List It} (hL:L.length≤1048576) (hx:∀ x∈L,z4z x) (hv:z5d L=true):zfp k L=some (zba L):=by
 have hK:=z1n
 have hLIM:=z4x
 have f:=zj3 hv
 have hlen:=f.len
 unfold zfp
 rw [zpn hk hL hx,hv]
 simp only [Option.bind_some,Bool.not_true,Bool.false_eq_true,if_false]
 have fin:zax [47] (L.map z4m)=some ((zba L,()),(L.map z4m,()),()):=zpz (B:=20000000) (by omega) (fun y hy=>by
  obtain ⟨x,h,rfl⟩:=List.mem_map.1 hy
  exact z101 f hx h) (by rw [List.length_map]; omega)
 have:=z5r (α:=It) (A:=List (List UInt8)) (L:=fun n i q=>zay k n L (L.length:Int) i q (fun q_7=>(zax [47] q_7).bind fun y_8=>some y_8.1.1)) (I:=fun pre q=>q=pre.map z4m) (G:=fun _ _=>some (zba L)) L ?_ ?_ k (by omega) [] rfl
 ·exact this
 ·intro n pre x post q hxx hI ih hg hlt
  subst hI
  have hpl:pre.length<L.length:=by rw [hxx]; simp
  have hw:=z1x (i:=pre.length) (by omega)
  have hm:x∈L:=by rw [hxx]; simp
  obtain ⟨h1,h2⟩:=zq0 f hx hm
  have hj:=zpz (c:=32) (B:=10) (by omega) h1 h2
  have hmd:=f.made x hm
  have hct:=f.cost x hm
  have hn:=(hx x hm).2.1
  have lim1:([x.1,Lib.itoa x.2.2.1,Lib.itoa x.2.2.2].length+x.2.1.length)*16≤LIM:=by simp only [List.length_cons,List.length_nil]; omega
  have lim2:((pre.map z4m).length+1)*16≤LIM:=by rw [List.length_map]; omega
  have hin:Lib.join ([x.1,Lib.itoa x.2.2.1,Lib.itoa x.2.2.2]++x.2.1) [32]=z4m x:=rfl
  simp only [zay,hlt,decide_true,if_true,Int.natCast_nonneg,Int.toNat_natCast,hg,Option.bind_some,zij (n:=x.2.2.1) (by omega) (by omega),zij (n:=x.2.2.2) (by omega) (by omega),lim1,hj,List.length_singleton,lim2,hw,hin]
  exact ih _ (by simp)
 ·intro n q hI
  subst hI
  simp only [zay,Int.lt_irrefl,decide_false,Bool.false_eq_true,if_false,fin,Option.bind_some]
theorem zj5 (l:List (List (List UInt8))):l.all (fun w=>decide (3≤w.length)&&okN w)=(l.all (fun w=>decide (3≤w.length))&&l.all okN):=by
 induction l with
 | nil=>rfl
 | cons a l ih=>rw [List.all_cons,List.all_cons,List.all_cons,ih]; cases decide (3≤a.length) <;> cases okN a <;> simp
theorem zj6 {s:List UInt8} (hs:s.length≤1048576) (h3:(ptI s).all (fun w=>decide (3≤w.length))=true):((ptI s).map itW).length≤1048576∧∀ x∈(ptI s).map itW,z4z x:=by
 have h1:=zzz h3
 refine ⟨by rw [List.length_map]; omega,fun x hx=>?_⟩
 obtain ⟨w,hw,rfl⟩:=List.mem_map.1 hx
 have h4:3≤w.length:=by simpa using List.all_eq_true.1 h3 w hw
 obtain ⟨p,hp,rfl⟩:=List.mem_map.1 hw
 exact zzv (zj4 hs p hp) h4
theorem zq1 {s:List UInt8} (hs:s.length≤1048576):(z1h 47 s).length≤1048577:=by have:=zpu 47 s; omega
theorem z103 {k:Nat} (hk:KK≤k) {s:List UInt8} (hs:s.length≤1048576):zfh k s=some (z5e s):=by
 have key:zfg k s=some (z5e s):=by
  unfold zfg z5e
  by_cases h0:s=[]
  ·rw [decide_eq_true h0,if_pos rfl,if_pos h0]
  rw [decide_eq_false h0,if_neg (by simp),if_neg h0]
  have e47:(47:Int)=z14 47:=rfl
  have hsp:=zos hk (s:=s) (by omega) 47
  rw [← e47] at hsp
  rw [hsp]
  simp only [Option.bind_some]
  rw [zzx hk (zq1 hs) (zj4 hs)]
  show (if (ptI s).all (fun w=>decide (3≤w.length)&&okN w)=true then _ else _)=_
  rw [zj5]
  cases h3:(ptI s).all (fun w=>decide (3≤w.length)) with
  | false=>simp
  | true =>
   obtain ⟨hL,hx⟩:=zj6 hs h3
   cases hn:(ptI s).all okN with
   | false=>simp
   | true =>
    show (zcp k ((ptI s).map itW)).bind _=_
    rw [zzd hk hL hx]
    have e:((z1h 47 s).map wdI)=ptI s:=rfl
    simp only [List.nil_append,e]
    cases hv:z5d ((ptI s).map itW) <;> simp
 unfold zfh
 rw [key]
 rfl
theorem z104 {k:Nat} (hk:KK≤k) {s:List UInt8} (hs:s.length≤1048576):zcw k s=some (z5e s):=by
 unfold zcw z5e
 by_cases h0:s=[]
 ·rw [decide_eq_true h0,if_pos rfl,if_pos h0]
 rw [decide_eq_false h0,if_neg (by simp),if_neg h0,zow hk (s:=s) (by omega) 47]
 simp only [Option.bind_some]
 rw [zzy hk (zq1 hs) (zj4 hs)]
 show (if (ptI s).all (fun w=>decide (3≤w.length))=true then _ else _)=_
 rw [zj5]
 cases h3:(ptI s).all (fun w=>decide (3≤w.length)) with
 | false=>simp
 | true =>
  obtain ⟨hL,hx⟩:=zj6 hs h3
  show (zaw k ((ptI s).map itW)).bind _=_
  rw [zpn hk hL hx]
  cases hv:z5d ((ptI s).map itW) with
  | false=>simp
  | true =>
   have e:((z1h 47 s).map wdI)=ptI s:=rfl
   simp only [Option.bind_some,Bool.not_true,Bool.false_eq_true,if_false,Bool.true_and,if_true,e]
   rw [z102 hk hL hx hv]
   simp only [Option.bind_some]
   have ht:=z100 h3 hv
   cases hn:(ptI s).all okN with
   | true=>simp [ht.2 hn]
   | false =>
    have:zba ((ptI s).map itW)≠s:=fun e=>by rw [ht.1 e] at hn; cases hn
    simp [this]
theorem z105 {s:List UInt8} (hs:s.length≤1048576):(z5e s).1.length≤16∧∀ x∈(z5e s).1,z4z x∧x.1.length≤10∧∀ n∈x.2.1,n.length≤10:=by
 unfold z5e
 by_cases h0:s=[]
 ·rw [if_pos h0]; simp
 rw [if_neg h0,zj5]
 cases h3:(ptI s).all (fun w=>decide (3≤w.length)) with
 | false=>simp
 | true =>
  obtain ⟨hL,hx⟩:=zj6 hs h3
  cases hn:(ptI s).all okN with
  | false=>simp
  | true =>
   cases hv:z5d ((ptI s).map itW) with
   | false=>simp
   | true =>
    simp only [Bool.true_and,if_true]
    have f:=zj3 hv
    exact ⟨f.len,fun x h=>⟨hx x h,(z81 (f.names _ (List.mem_map.2 ⟨x,h,rfl⟩))).2.2,fun n hn=>(z81 (f.names _ (f.known x h n hn))).2.2⟩⟩
noncomputable def tM (k:Nat) (m:Int):List UInt8:=(z6w k m).getD []
theorem zg6 {k:Nat} (hk:KK≤k) {m:Int} (h:m≤9223372036854775807):z6w k m=some (tM k m):=by
 obtain ⟨t,ht⟩:=zzj hk h
 unfold tM
 rw [ht]; rfl
def mkL {α:Type} (f:α→Int→α×Int):List α→Int→List α×Int
 | [],m=>([],m)
 | x::l,m=>((f x m).1::(mkL f l (f x m).2).1,(mkL f l (f x m).2).2)
theorem z99 {α:Type} (f:α→Int→α×Int):∀ (l:List α) (m:Int),(mkL f l m).1.length=l.length
 | [],_=>rfl
 | x::l,m=>by simp [mkL,z99 f l]
theorem zj7 {α:Type} {f:α→Int→α×Int} {c:α→Nat} (hc:∀ x m,(f x m).2=m+(c x:Int)):∀ (l:List α) (m:Int),(mkL f l m).2=m+(z10 c l:Int)
 | [],m=>by simp [mkL,zb8]
 | x::l,m=>by
  have h1:=z7y c x l
  show (mkL f l (f x m).2).2=_
  rw [zj7 hc l,hc]; omega
theorem zj8 {α:Type} {f:α→Int→α×Int}:∀ (l r:List α) (m:Int),(mkL f (l++r) m).1=(mkL f l m).1++(mkL f r (mkL f l m).2).1
 | [],r,m=>rfl
 | x::l,r,m=>by simp [mkL,zj8 l r]
theorem zq2 {α Q R:Type} {f:α→Int→α×Int} {c:α→Nat} (hc:∀ x m,(f x m).2=m+(c x:Int)) (xs:List α) {m0 B:Int} (hB:m0+(z10 c xs:Int)≤B) {S:List α→Q} {L:Nat→Int→Int→Q→R} {G:R}
  (h1:∀ n (i:Nat) m l y,l.length=xs.length→l[i]?=some y→y∈xs→m0≤m→m+(c y:Int)≤B→(i:Int)<l.length→i<l.length→L (n+1) m (i:Int) (S l)=L n (m+(c y:Int)) ((i+1:Nat):Int) (S (l.set i (f y m).1)))
  (h2:∀ n l,l=(mkL f xs m0).1→l.length=xs.length→L (n+1) (m0+(z10 c xs:Int)) (xs.length:Int) (S l)=G) {n:Nat} (hn:xs.length<n):L n m0 0 (S xs)=G:=by
 have main:∀ (post pre:List α) (n:Nat),xs=pre++post→post.length<n→L n (m0+(z10 c pre:Int)) (pre.length:Int) (S ((mkL f pre m0).1++post))=G:=by
  intro post
  induction post with
  | nil =>
   intro pre n hx hn
   obtain ⟨m,rfl⟩:∃ m,n=m+1:=⟨n-1,by simp at hn; omega⟩
   rw [List.append_nil] at hx ⊢
   subst hx
   exact h2 m _ rfl (z99 f _ _)
  | cons x post ih =>
   intro pre n hx hn
   obtain ⟨m,rfl⟩:∃ m,n=m+1:=⟨n-1,by simp at hn; omega⟩
   have hl:(mkL f pre m0).1.length=pre.length:=z99 f _ _
   have hs:z10 c xs=z10 c pre+(c x+z10 c post):=by rw [hx,zg3,z7y]
   rw [h1 m pre.length (m0+(z10 c pre:Int)) ((mkL f pre m0).1++x::post) x (by rw [hx]; simp [hl]) (by rw [List.getElem?_append_right (by omega),hl]; simp) (by rw [hx]; simp) (by omega) (by omega) (by simp [hl]; omega) (by simp [hl])]
   have:=ih (pre++[x]) m (by rw [hx]; simp) (by simp at hn; omega)
   have e1:((mkL f pre m0).1++x::post).set pre.length (f x (m0+(z10 c pre:Int))).1=(mkL f (pre++[x]) m0).1++post:=by
    rw [List.set_append_right _ _ (by omega),hl,Nat.sub_self,List.set_cons_zero,zj8,zj7 hc]
    simp [mkL]
   have e2:m0+(z10 c pre:Int)+(c x:Int)=m0+(z10 c (pre++[x]):Int):=by rw [zg3,z7y,zb8]; omega
   rw [e1,e2]
   rw [List.length_append] at this
   simpa using this
 have:=main xs [] n rfl hn
 simpa [zb8,mkL] using this
theorem zq3 {α R:Type} {f:α→Int→α×Int} {c:α→Nat} (hc:∀ x m,(f x m).2=m+(c x:Int)) (xs:List α) {m0 B:Int} (hB:m0+(z10 c xs:Int)≤B) {L:Nat→Int→Int→R} {G:R}
  (h1:∀ n (i:Nat) m y,(mkL f xs m0).1[i]?=some (f y m).1→y∈xs→m0≤m→m+(c y:Int)≤B→(i:Int)<(mkL f xs m0).1.length→i<(mkL f xs m0).1.length→L (n+1) m (i:Int)=L n (m+(c y:Int)) ((i+1:Nat):Int))
  (h2:∀ n,L (n+1) (m0+(z10 c xs:Int)) ((mkL f xs m0).1.length:Int)=G) {n:Nat} (hn:xs.length<n):L n m0 0=G:=by
 have hlen:(mkL f xs m0).1.length=xs.length:=z99 f _ _
 have main:∀ (post pre:List α) (n:Nat),xs=pre++post→post.length<n→L n (m0+(z10 c pre:Int)) (pre.length:Int)=G:=by
  intro post
  induction post with
  | nil =>
   intro pre n hx hn
   obtain ⟨m,rfl⟩:∃ m,n=m+1:=⟨n-1,by simp at hn; omega⟩
   rw [List.append_nil] at hx
   have:=h2 m
   rw [hlen] at this
   rw [← hx]; exact this
  | cons x post ih =>
   intro pre n hx hn
   obtain ⟨m,rfl⟩:∃ m,n=m+1:=⟨n-1,by simp at hn; omega⟩
   have hl:(mkL f pre m0).1.length=pre.length:=z99 f _ _
   have hs:z10 c xs=z10 c pre+(c x+z10 c post):=by rw [hx,zg3,z7y]
   have hlx:pre.length<xs.length:=by rw [hx]; simp
   have hg:(mkL f xs m0).1[pre.length]?=some (f x (m0+(z10 c pre:Int))).1:=by
    rw [hx,zj8,List.getElem?_append_right (by omega),hl,Nat.sub_self,zj7 hc]
    rfl
   rw [h1 m pre.length (m0+(z10 c pre:Int)) x hg (by rw [hx]; simp) (by omega) (by omega) (by omega) (by omega)]
   have:=ih (pre++[x]) m (by rw [hx]; simp) (by simp at hn; omega)
   have e2:m0+(z10 c pre:Int)+(c x:Int)=m0+(z10 c (pre++[x]):Int):=by rw [zg3,z7y,zb8]; omega
   rw [e2]
   rw [List.length_append] at this
   simpa using this
 have:=main xs [] n rfl hn
 simpa [zb8] using this
theorem zj9 {α:Type}:∀ l:List α,z10 (fun _=>1) l=l.length
 | []=>rfl
 | x::l=>by rw [z7y,zj9 l,List.length_cons]; omega
noncomputable def mkS (k:Nat) (_:List UInt8) (m:Int):List UInt8×Int:=(tM k m,m+((1:Nat):Int))
theorem zq4 (k:Nat):∀ (x:List UInt8) (m:Int),(mkS k x m).2=m+(((fun _:List UInt8=>1) x:Nat):Int):=fun _ _=>rfl
theorem z106 {k:Nat} (hk:KK≤k) {q:List It} {a:Nat} {z:It} (hz:q[a]?=some z) {m:Int} (h0:0≤m) (h1:m≤1000000000000000000) (hl:z.2.1.length≤1000000000000) :
  zft k a m q=some ((m+z.2.1.length,()),(q.set a (z.1,(mkL (mkS k) z.2.1 m).1,z.2.2),()),()):=by
 have hK:=z1n
 have ha:=(List.getElem?_eq_some_iff.1 hz).1
 have hs:=zj9 z.2.1
 unfold zft
 have e:q=q.set a (z.1,z.2.1,z.2.2):=by
  obtain ⟨h,rfl⟩:=List.getElem?_eq_some_iff.1 hz
  exact (List.set_getElem_self h).symm
 have:=zq2 (zq4 k) z.2.1 (m0:=m) (B:=2000000000000000000) (by omega) (S:=fun l=>q.set a (z.1,l,z.2.2)) (L:=fun n m i q=>zb1 k n a m i q (fun k_10 q_11=>some ((k_10,()),(q_11,()),())))
  (G:=some ((m+z.2.1.length,()),(q.set a (z.1,(mkL (mkS k) z.2.1 m).1,z.2.2),()),())) ?_ ?_ (n:=k) (by omega)
 ·rw [← e] at this
  exact this
 ·intro n i m l y hll hg hy m0 m1 hlt hlt'
  have hw:=z1x (i:=i) (by omega)
  have hm:za (m+1)=m+((1:Nat):Int):=z2c (by omega) (by omega)
  simp only [zb1,List.getElem?_set_self ha,Option.bind_some,hlt,hlt',decide_true,if_true,zg6 hk (show m≤9223372036854775807 by omega),Int.natCast_nonneg,Int.toNat_natCast,and_self,List.getElem?_eq_getElem hlt',hm,hw,List.set_set,mkS]
 ·intro n l hl2 hll
  have:¬ (z.2.1.length:Int)<(l.length:Int):=by omega
  simp only [zb1,List.getElem?_set_self ha,Option.bind_some,this,decide_false,Bool.false_eq_true,if_false,hs]
  rw [hl2]
theorem z107 {k:Nat} (hk:KK≤k) {a:List (List UInt8)} {m:Int} (h0:0≤m) (h1:m≤1000000000000000000) (hl:a.length≤1000000000000) :
  zfv k (mkL (mkS k) a m).1 m=some (m+a.length):=by
 have hK:=z1n
 have hs:=zj9 a
 unfold zfv
 refine zq3 (zq4 k) a (m0:=m) (B:=2000000000000000000) (by omega) (L:=fun n m' i=>zb3 k n (mkL (mkS k) a m).1 m' i fun k_3=>some k_3) ?_ ?_ (n:=k) (by omega)
 ·intro n i m' y hg hy m0 m1 hlt hlt'
  have hw:=z1x (i:=i) (by rw [z99] at hlt'; omega)
  have hm:za (m'+1)=m'+((1:Nat):Int):=z2c (by omega) (by omega)
  simp only [zb3,hlt,decide_true,if_true,Int.natCast_nonneg,Int.toNat_natCast,hg,Option.bind_some,zg6 hk (show m'≤9223372036854775807 by omega),mkS,Bool.not_true,Bool.false_eq_true,if_false,hm,hw]
 ·intro n
  simp only [zb3,Int.lt_irrefl,decide_false,Bool.false_eq_true,if_false,hs]
noncomputable def zd7 (k:Nat) (x:It) (m:Int):It×Int:=((tM k m,(mkL (mkS k) x.2.1 (m+1)).1,m+1+x.2.1.length,m+1+x.2.1.length+1),m+((x.2.1.length+3:Nat):Int))
def ctI (x:It):Nat:=x.2.1.length+3
theorem zq5 (k:Nat) (x:It) (m:Int):(zd7 k x m).2=m+(ctI x:Int):=rfl
theorem z108 {k:Nat} (hk:KK≤k) {L:List It} {m:Int} (h0:0≤m) (h1:m+(z10 ctI L:Int)≤100000000000000000) (hx:∀ x∈L,x.2.1.length≤1000000000000) (hL:L.length≤1000000000000) :
  zfu k m L=some ((m+(z10 ctI L:Int),()),((mkL (zd7 k) L m).1,()),()):=by
 have hK:=z1n
 unfold zfu
 refine zq2 (zq5 k) L (m0:=m) (B:=100000000000000000) h1 (S:=fun l=>l) (L:=fun n m i q=>zb2 k n m i q (fun k_12 q_13=>some ((k_12,()),(q_13,()),()))) ?_ ?_ (n:=k) (by omega)
 ·intro n i m' l y hll hg hy m0 m1 hlt hlt'
  have hw:=z1x (i:=i) (by omega)
  have hc:ctI y=y.2.1.length+3:=rfl
  have hyl:=hx y hy
  have hm:za (m'+1)=m'+1:=z2c (by omega) (by omega)
  have g1:(l.set i (tM k m',y.2))[i]?=some (tM k m',y.2):=List.getElem?_set_self hlt'
  have w2:za (m'+1+(y.2.1.length:Int)+1)=m'+1+(y.2.1.length:Int)+1:=z2c (by omega) (by omega)
  have w3:za (m'+1+(y.2.1.length:Int)+1+1)=m'+(ctI y:Int):=by rw [z2c (by omega) (by omega)]; omega
  have st:=z106 hk g1 (m:=m'+1) (by omega) (by omega) hyl
  simp only [zb2,hlt,hlt',decide_true,if_true,zg6 hk (show m'≤9223372036854775807 by omega),Option.bind_some,Int.natCast_nonneg,Int.toNat_natCast,and_self,hg,List.length_set,List.getElem?_set_self hlt',hm,st,List.set_set,w2,w3,hw]
  rfl
 ·intro n l hl2 hll
  have:¬ (L.length:Int)<(l.length:Int):=by omega
  simp only [zb2,this,decide_false,Bool.false_eq_true,if_false]
  rw [hl2]
theorem z109 {k:Nat} (hk:KK≤k) {L:List It} {m:Int} (h0:0≤m) (h1:m+(z10 ctI L:Int)≤100000000000000000) (hx:∀ x∈L,x.2.1.length≤1000000000000) (hL:L.length≤1000000000000) :
  zcy k (mkL (zd7 k) L m).1 m=some (m+(z10 ctI L:Int)):=by
 have hK:=z1n
 unfold zcy
 refine zq3 (zq5 k) L (m0:=m) (B:=100000000000000000) h1 (L:=fun n m' i=>zb4 k n (mkL (zd7 k) L m).1 m' i (fun k_7=>some k_7)) ?_ ?_ (n:=k) (by omega)
 ·intro n i m' y hg hy m0 m1 hlt hlt'
  have hw:=z1x (i:=i) (by rw [z99] at hlt'; omega)
  have hc:ctI y=y.2.1.length+3:=rfl
  have hyl:=hx y hy
  have hm:za (m'+1)=m'+1:=z2c (by omega) (by omega)
  have w2:za (m'+1+(y.2.1.length:Int)+1)=m'+1+(y.2.1.length:Int)+1:=z2c (by omega) (by omega)
  have w3:za (m'+1+(y.2.1.length:Int)+1+1)=m'+(ctI y:Int):=by rw [z2c (by omega) (by omega)]; omega
  have n0:¬ (m'+1+(y.2.1.length:Int)<0):=by omega
  have st:=z107 hk (a:=y.2.1) (m:=m'+1) (by omega) (by omega) hyl
  simp only [zb4,hlt,decide_true,if_true,Int.natCast_nonneg,Int.toNat_natCast,hg,Option.bind_some,zg6 hk (show m'≤9223372036854775807 by omega),zd7,Bool.not_true,Bool.false_eq_true,if_false,hm,st,n0,decide_false,w2,w3,hw]
 ·intro n
  simp only [zb4,Int.lt_irrefl,decide_false,Bool.false_eq_true,if_false]
theorem z10a {L:List It} (hL:L.length≤16) (hx:∀ x∈L,z4z x∧x.1.length≤10∧∀ n∈x.2.1,n.length≤10):zb9 L≤10000000000:=by
 have e:zb9 L=L.length+z10 z7z L:=rfl
 have h1:=zg4 z7z 20000000 L (fun x hm=>by
  obtain ⟨⟨_,b,_⟩,a,c⟩:=hx x hm
  have h1:z7z x=x.1.length+(x.2.1.length+z10 List.length x.2.1):=rfl
  have h2:=zg4 List.length 10 x.2.1 c
  omega)
 have h2:L.length*20000000≤16*20000000:=Nat.mul_le_mul_right _ hL
 omega
theorem z10b {L:List It} (hL:L.length≤16) (hx:∀ x∈L,z4z x):z10 ctI L≤20000000:=by
 have h1:=zg4 ctI 1048579 L (fun x hm=>by
  have h2:ctI x=x.2.1.length+3:=rfl
  have:=(hx x hm).2.1
  omega)
 have h2:L.length*1048579≤16*1048579:=Nat.mul_le_mul_right _ hL
 omega
theorem z10c (a0:List UInt8) (f0:InR .str a0):∃ k:Nat,zfw k a0=some true:=by
 have hk:=Nat.le_refl KK
 refine ⟨KK,?_⟩
 unfold zfw
 by_cases n0:1048576<(a0.length:Int)
 ·rw [decide_eq_true n0,if_pos rfl]
 rw [decide_eq_false n0,if_neg (by simp)]
 have hs:a0.length≤1048576:=by omega
 obtain ⟨hL,hx'⟩:=z105 hs
 have hx:∀ x∈(z5e a0).1,z4z x:=fun x h=>(hx' x h).1
 have cR:=z10b hL hx
 have mR:=z108 hk (L:=(z5e a0).1) (m:=1) (by omega) (by omega) (fun x h=>by have:=(hx x h).2.1; omega) (by omega)
 have hR:=z109 hk (L:=(z5e a0).1) (m:=1) (by omega) (by omega) (fun x h=>by have:=(hx x h).2.1; omega) (by omega)
 have nR:¬ (1+(z10 ctI (z5e a0).1:Int)<0):=by omega
 simp only [z103 hk hs,z104 hk hs,Option.bind_some,zzn hk (z10a hL hx'),mR,hR,nR,decide_true,Bool.not_true,Bool.false_eq_true,if_false,decide_false,beq_self_eq_true]
end Go.Proofs.YtbipmejjnalmiaaDoor.Ev
