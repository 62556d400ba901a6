/- Plain laws of the printed functions. No conditions but those in each statement. -/
import Derived.Test.YteiflkhpafhhkaaGreatDoorEv7
import Derived.Test.YteiflkhpafhhkaaGreatDoorG2
set_option linter.unusedVariables false
set_option linter.unusedSimpArgs false
namespace Go.Proofs.YteiflkhpafhhkaaGreatDoor.Ev
open Go.RowKit
theorem zci {n:Int} (h1 : -9223372036854775808≤n) (h2:n≤9223372036854775807):z81 n=some (Lib.itoa n):=by
 unfold z81 zn7
 rw [if_pos ⟨rfl,h1,h2⟩]; rfl
theorem znu:∀ (l:List UInt8) (c:UInt8),(decide (0≤Lib.indexByte l c))=l.any (fun b=>b==c)
 | [],c=>rfl
 | b::l,c=>by
  have ih:=znu l c
  have hge:=Lib.indexByte_ge l c
  unfold Lib.indexByte
  rw [List.any_cons,← ih]
  by_cases h:(b==c)=true
  ·simp [h]
  ·rw [if_neg h]
   have h':(b==c)=false:=by simpa using h
   rw [h',Bool.false_or]
   by_cases h1:Lib.indexByte l c = -1
   ·simp [h1]
   ·have h1':(Lib.indexByte l c == -1)=false:=by simpa using h1
    rw [h1',if_neg (by simp)]
    exact decide_eq_decide.2 (by omega)
theorem zhy (c:UInt8):(z_u8 c).toNat.toUInt8=c:=by simp [z_u8]
theorem zxk (s:List UInt8) (c:UInt8):zf8 s [c]=some (s.any fun b=>b==c):=by
 unfold zf8 z7y z92 zf1 zhr
 simp only [List.getElem?_cons_zero,Option.bind_some,zhy]
 by_cases h:[c]=s
 ·subst h; simp
 ·rw [decide_eq_false h]
  simp [znu]
def zav (x y:List UInt8):Int:=if Op.bytesLess x y=true then -1 else if x=y then 0 else 1
theorem zxl (x y:List UInt8):zcd x y=some (zav x y):=by
 unfold zcd zfc zav
 cases Op.bytesLess x y
 ·by_cases h:x=y <;> simp [h]
 ·simp
def z15 (b:UInt8):List UInt8→List UInt8→List (List UInt8)
 | cur,[]=>[cur]
 | cur,x::l=>if x=b then cur::z15 b [] l else z15 b (cur++[x]) l
def zz (b:UInt8) (s:List UInt8):List (List UInt8):=z15 b [] s
theorem zcj (b:UInt8):∀ (l cur:List UInt8),0<(z15 b cur l).length
 | [],cur=>by simp [z15]
 | x::l,cur=>by
  unfold z15
  split
  ·simp
  ·exact zcj b l _
theorem zhz (b:UInt8):∀ (l cur:List UInt8),(z15 b cur l).length=l.count b+1
 | [],cur=>by simp [z15]
 | x::l,cur=>by
  unfold z15
  by_cases h:x=b
  ·rw [if_pos h,List.length_cons,zhz b l,h,List.count_cons_self]
  ·rw [if_neg h,zhz b l,List.count_cons_of_ne h]
theorem znv (b:UInt8):∀ (l cur:List UInt8),(z15 b cur l).length≤l.length+1:=fun l cur=>by
 rw [zhz]; have:=List.count_le_length (a:=b) (l:=l); omega
theorem zi0 (b:UInt8):∀ (l cur x:List UInt8),x∈z15 b cur l→x.length≤cur.length+l.length
 | [],cur,x,h=>by
  simp [z15] at h
  subst h; simp
 | y::l,cur,x,h=>by
  unfold z15 at h
  split at h
  ·rcases List.mem_cons.1 h with rfl | h
   ·simp
   ·have:=zi0 b l [] x h; simp at this ⊢; omega
  ·have:=zi0 b l _ x h; simp at this ⊢; omega
theorem zi1 {b:UInt8}:∀ (l cur:List UInt8),b∉l→z15 b cur l=[cur++l]
 | [],cur,_=>by simp [z15]
 | x::l,cur,h=>by
  have h1:¬ x=b:=fun e=>h (by simp [e])
  unfold z15
  rw [if_neg h1,zi1 l _ (fun e=>h (by simp [e]))]
  simp
theorem zfg {b:UInt8}:∀ (pre cur l:List UInt8),b∉pre→z15 b cur (pre++b::l)=(cur++pre)::z15 b [] l
 | [],cur,l,_=>by simp [z15]
 | x::pre,cur,l,h=>by
  have h1:¬ x=b:=fun e=>h (by simp [e])
  show z15 b cur (x::(pre++b::l))=_
  rw [z15,if_neg h1,zfg pre _ l (fun e=>h (by simp [e]))]
  simp
theorem zfh (x c:UInt8):decide (z_u8 x=z_u8 c)=decide (x=c):=by
 refine decide_eq_decide.2 ⟨fun e=>?_,fun e=>by rw [e]⟩
 have e:(x.toNat:Int)=(c.toNat:Int):=e
 apply UInt8.toNat.inj
 omega
theorem znw {k:Nat} (hk:KK≤k) {s:List UInt8} (hs:s.length≤1000000000) (c:UInt8):zc7 k s (z_u8 c)=some (zz c s):=by
 have hK:=z2r
 have hL:=z64
 unfold zc7
 have:=z8u (α:=UInt8) (A:=Int×List (List UInt8)) (L:=fun n i z=>z8v k n s (z_u8 c) z.1 i z.2 (fun s_3 from_4 q_5=>(if 0≤from_4∧from_4≤(s_3.length:Int)∧(s_3.length:Int)≤s_3.length then (if (q_5.length+[((s_3.drop from_4.toNat).take (s_3.length-from_4.toNat))].length)*16≤LIM then some (q_5++[((s_3.drop from_4.toNat).take (s_3.length-from_4.toNat))]) else none) else none)))
  (I:=fun pre z=>∃ f:Nat,z.1=(f:Int)∧f≤pre.length∧z.2.length≤pre.length∧z.2++z15 c ((s.drop f).take (pre.length-f)) (s.drop pre.length)=zz c s) (G:=fun _ _=>some (zz c s)) s ?_ ?_ k (by omega) (0,[]) ⟨0,rfl,by simp,by simp,by simp [zz]⟩
 ·exact this
 ·rintro n pre x post ⟨f0,q⟩ hx ⟨f,e1,e2,e3,e4⟩ ih hg hlt
  simp only at e1 e3 e4 ih
  subst e1
  have hw:=z2s (i:=pre.length) (by omega)
  have hpl:pre.length<s.length:=by rw [hx]; simp
  have hd:s.drop pre.length=x::s.drop (pre.length+1):=by rw [hx]; simp
  rw [hd] at e4
  unfold z15 at e4
  simp only [z8v,hlt,decide_true,if_true,Int.natCast_nonneg,Int.toNat_natCast,hg,Option.bind_some,zfh,hw]
  by_cases h:x=c
  ·have b1:(f:Int)≤(pre.length:Int):=by omega
   have b2:(pre.length:Int)≤(s.length:Int):=by omega
   have hlim:(q.length+1)*16≤LIM:=by omega
   rw [if_pos h] at e4
   simp only [h,decide_true,if_true,b1,b2,and_self,List.length_singleton,hlim]
   refine ih (_,_) ⟨pre.length+1,rfl,by simp,by simp; omega,?_⟩
   simp only [List.length_append,List.length_singleton,Nat.sub_self,List.take_zero,List.append_assoc,List.singleton_append]
   exact e4
  ·rw [if_neg h] at e4
   simp only [h,decide_false,Bool.false_eq_true,if_false]
   refine ih (_,_) ⟨f,rfl,by simp; omega,by simp; omega,?_⟩
   simp only [List.length_append,List.length_singleton]
   rw [← e4]
   congr 1
   have e5:(s.drop f).take (pre.length+1-f)=(s.drop f).take (pre.length-f)++[x]:=by
    rw [show pre.length+1-f=(pre.length-f)+1 by omega,List.take_succ_eq_append_getElem (by rw [List.length_drop]; omega)]
    congr 1
    rw [List.getElem_drop]
    have:s[f+(pre.length-f)]?=some x:=by rw [show f+(pre.length-f)=pre.length by omega]; exact hg
    obtain ⟨_,e⟩:=List.getElem?_eq_some_iff.1 this
    simp [e]
   rw [e5]
 ·rintro n ⟨f0,q⟩ ⟨f,e1,e2,e3,e4⟩
  simp only at e1 e3 e4
  subst e1
  rw [List.drop_length] at e4
  unfold z15 at e4
  have b1:(f:Int)≤(s.length:Int):=by omega
  have hlim:(q.length+1)*16≤LIM:=by omega
  simp only [z8v,Int.lt_irrefl,decide_false,Bool.false_eq_true,if_false,Int.natCast_nonneg,b1,Int.le_refl,and_self,if_true,Int.toNat_natCast,List.length_singleton,hlim]
  rw [e4]
theorem zi2 {c:UInt8}:∀ {l:List UInt8},Lib.indexByte l c = -1→c∉l
 | [],_=>by simp
 | b::l,h=>by
  have hge:=Lib.indexByte_ge l c
  unfold Lib.indexByte at h
  by_cases h1:(b==c)=true
  ·rw [if_pos h1] at h; omega
  ·rw [if_neg h1] at h
   by_cases h2:(Lib.indexByte l c == -1)=true
   ·have:=zi2 (l:=l) (by simpa using h2)
    intro hm
    rcases List.mem_cons.1 hm with e | e
    ·subst e; simp at h1
    ·exact this e
   ·rw [if_neg h2] at h; omega
theorem zi3 {c:UInt8}:∀ {l:List UInt8},Lib.indexByte l c ≠ -1→∃ (pre post:List UInt8),l=pre++c::post∧c∉pre∧Lib.indexByte l c=(pre.length:Int)
 | [],h=>absurd rfl h
 | b::l,h=>by
  unfold Lib.indexByte at h ⊢
  by_cases h1:(b==c)=true
  ·rw [if_pos h1] at h ⊢
   have:b=c:=by simpa using h1
   exact ⟨[],l,by rw [this]; rfl,by simp,rfl⟩
  ·rw [if_neg h1] at h ⊢
   by_cases h2:(Lib.indexByte l c == -1)=true
   ·rw [if_pos h2] at h; exact absurd rfl h
   ·rw [if_neg h2] at h ⊢
    obtain ⟨pre,post,e1,e2,e3⟩:=zi3 (l:=l) (by simpa using h2)
    refine ⟨b::pre,post,by rw [e1]; rfl,?_,by rw [e3]; simp⟩
    intro hm
    rcases List.mem_cons.1 hm with e | e
    ·subst e; simp at h1
    ·exact e2 e
theorem znx (s:List UInt8) (c:UInt8):z7y s [c]=some (Lib.indexByte s c):=by
 unfold z7y z92 zf1 zhr
 simp only [List.getElem?_cons_zero,Option.bind_some,zhy]
 by_cases h:[c]=s
 ·subst h; simp [Lib.indexByte]
 ·rw [decide_eq_false h]; simp
theorem zxm {k:Nat} (s:List UInt8) (c:UInt8):zf2 k s [c]=some ((s.count c:Nat):Int):=by
 unfold zf2 zn0
 simp [zhy,Lib.countByte]
theorem zny {k:Nat} {c:UInt8} {s0:List UInt8} {N:Nat} (hN:N=s0.count c) (hs0:s0.length≤1000000000) {E:List UInt8→Int→List (List UInt8)→Option (List (List UInt8))} :
  ∀ (d n i:Nat) (s:List UInt8) (q:List (List UInt8)),d=s.count c→d<n→i+d=N→q.length=N+1→s.length≤s0.length→q.take i++z15 c [] s=zz c s0 →
  ∃ s' q',c∉s'∧q'.length=N+1∧q'.take N++[s']=zz c s0∧z93 k n s [c] 0 (N:Int) (i:Int) q E=E s' (N:Int) q'
 | d,0,i,s,q,_,h,_,_,_,_=>by omega
 | 0,n+1,i,s,q,hd,hn,hi,hq,hsl,hI=>by
  have hlt:¬ (i:Int)<(N:Int):=by omega
  have hc:c∉s:=by rw [← List.count_eq_zero]; exact hd.symm
  refine ⟨s,q,hc,hq,?_,?_⟩
  ·rw [zi1 s [] hc,List.nil_append] at hI
   rw [show N=i by omega]; exact hI
  ·simp only [z93,hlt,decide_false,Bool.false_eq_true,if_false]
   rw [show i=N by omega]
 | d+1,n+1,i,s,q,hd,hn,hi,hq,hsl,hI=>by
  have hL:=z64
  have hlt:(i:Int)<(N:Int):=by omega
  have hne:Lib.indexByte s c ≠ -1:=fun h=>by
   have:=List.count_eq_zero.2 (zi2 h)
   omega
  obtain ⟨pre,post,e1,e2,e3⟩:=zi3 hne
  have hw:=z2s (i:=i) (by have:=List.count_le_length (a:=c) (l:=s0); omega)
  have hpl:s.length=pre.length+(post.length+1):=by rw [e1]; simp
  have w1:z7 ((pre.length:Int)+0)=(pre.length:Int):=by rw [z14 (by omega) (by omega)]; omega
  have w2:z7 ((pre.length:Int)+(([c]:List UInt8).length:Int))=((pre.length+1:Nat):Int):=by rw [List.length_singleton,z14 (by omega) (by omega)]; rfl
  have hneg:¬ ((pre.length:Int)<0):=by omega
  have b1:(pre.length:Int)≤(s.length:Int):=by omega
  have b2:((pre.length+1:Nat):Int)≤(s.length:Int):=by omega
  have hiq:i<q.length:=by omega
  have hcnt:post.count c=d:=by
   rw [e1,List.count_append,List.count_cons_self,List.count_eq_zero.2 e2] at hd; omega
  have hdr:(s.drop (pre.length+1)).take (s.length-(pre.length+1))=post:=by
   rw [List.take_of_length_le (by rw [List.length_drop]; exact Nat.le_refl _),e1]; simp
  have htk:s.take pre.length=pre:=by rw [e1]; simp
  obtain ⟨s',q',g1,g2,g3,g4⟩:=zny (k:=k) (E:=E) hN hs0 d n (i+1) post (q.set i pre) hcnt.symm (by omega) (by omega) (by rw [List.length_set]; exact hq) (by omega) (by
   rw [List.take_succ_eq_append_getElem (by rw [List.length_set]; exact hiq),List.getElem_set_self,List.take_set_of_le (Nat.le_refl _),List.append_assoc]
   rw [e1,zfg pre [] post e2] at hI
   exact hI)
  refine ⟨s',q',g1,g2,g3,?_⟩
  rw [← g4]
  simp only [z93,hlt,decide_true,if_true,znx,e3,Option.bind_some,hneg,decide_false,Bool.false_eq_true,if_false,w1,w2,Int.natCast_nonneg,Int.le_refl,b1,b2,and_self,hiq,Int.toNat_natCast,List.getElem?_eq_getElem hiq,hw,hdr,htk]
theorem zxn {k:Nat} (hk:KK≤k) {s:List UInt8} (hs:s.length≤1000000000) (c:UInt8):zf3 k s [c]=some (zz c s):=by
 have hK:=z2r
 have hL:=z64
 have hcl:=List.count_le_length (a:=c) (l:=s)
 have w1:z7 ((s.length:Int)+1)=((s.length+1:Nat):Int):=by rw [z14 (by omega) (by omega)]; rfl
 have w2:z7 (((s.count c:Nat):Int)+1)=((s.count c+1:Nat):Int):=by rw [z14 (by omega) (by omega)]; rfl
 have hmn:(if (((s.length+1:Nat):Int)<((s.count c+1:Nat):Int)) then ((s.length+1:Nat):Int) else ((s.count c+1:Nat):Int))=((s.count c+1:Nat):Int):=if_neg (by omega)
 have w3:z7 (((s.count c+1:Nat):Int)-1)=((s.count c:Nat):Int):=by rw [z14 (by omega) (by omega)]; omega
 have hb:((s.count c+1:Nat):Int)*16≤(LIM:Int):=by omega
 unfold zf3 zhu
 rw [decide_eq_false (show ¬ ((-1:Int)=0) by omega),if_neg (by simp),decide_eq_false (show ¬ ([c]=([]:List UInt8)) by simp),if_neg (by simp),decide_eq_true (show (-1:Int)<0 by omega),if_pos rfl,zxm]
 simp only [Option.bind_some,w1,w2,hmn,Int.natCast_nonneg,Int.le_refl,true_and,w3]
 rw [if_pos hb,Int.toNat_natCast]
 obtain ⟨s',q',g1,g2,g3,g4⟩:=zny (k:=k) (c:=c) (s0:=s) (N:=s.count c) rfl hs (E:=fun s_6 i_7 q_8=>(if 0≤i_7∧i_7.toNat<List.length q_8 then (q_8[i_7.toNat]?).bind fun y_9=>(q_8[i_7.toNat]?).bind fun y_10=>(if (0:Int)≤(z7 (i_7+1))∧(z7 (i_7+1))≤(q_8.set i_7.toNat s_6).length then some ((q_8.set i_7.toNat s_6).take ((z7 (i_7+1)).toNat)) else none) else none)) (s.count c) k 0 s (List.replicate (s.count c+1) []) rfl (by omega) (by omega) (by simp) (Nat.le_refl _) (by simp [zz])
 have h0:((0:Nat):Int)=0:=rfl
 rw [h0] at g4
 rw [g4]
 have hlt:s.count c<q'.length:=by omega
 have b3:((s.count c+1:Nat):Int)≤((q'.set (s.count c) s').length:Int):=by rw [List.length_set]; omega
 simp only [Int.natCast_nonneg,Int.toNat_natCast,hlt,and_self,if_true,List.getElem?_eq_getElem hlt,Option.bind_some,w2,Int.le_refl,b3]
 rw [List.take_succ_eq_append_getElem (by rw [List.length_set]; exact hlt),List.getElem_set_self,List.take_set_of_le (Nat.le_refl _),g3]
def digC (c:UInt8):Bool:=decide (48≤c.toNat∧c.toNat≤57)
def z1p (l:List UInt8):Nat:=l.foldl (fun a c=>a*10+(c.toNat-48)) 0
def z1t (l:List UInt8):Bool:=l.all digC&&(decide (l.length=1)||(decide (1<l.length)&&decide (l.head?≠some 48)))
def z1k (s:List UInt8):Option Int:=match s with
 | []=>none
 | c::r=>if c=45 then (if z1t r=true∧r.length≤18∧r.head?≠some 48 then some (-(z1p r:Int)) else none) else if z1t (c::r)=true∧r.length<18 then some (z1p (c::r):Int) else none
theorem zfi (l:List UInt8) (c:UInt8):z1p (l++[c])=z1p l*10+(c.toNat-48):=by simp [z1p]
theorem zaw {c:UInt8}:digC c=true↔48≤c.toNat∧c.toNat≤57:=by simp [digC]
theorem zi4 {P:List UInt8→Prop} (h0:P []) (h1:∀ l c,P l→P (l++[c])) (l:List UInt8):P l:=by
 have:∀ n (l:List UInt8),l.length=n→P l:=by
  intro n
  induction n with
  | zero=>intro l hl; rw [List.length_eq_zero_iff.1 hl]; exact h0
  | succ n ih =>
   intro l hl
   have hne:l≠[]:=fun e=>by rw [e] at hl; simp at hl
   rw [← List.dropLast_concat_getLast hne]
   exact h1 _ _ (ih _ (by rw [List.length_dropLast]; omega))
 exact this _ l rfl
theorem zxo (l:List UInt8):l.all digC=true→z1p l<10 ^ l.length:=by
 refine zi4 (P:=fun l=>l.all digC=true→z1p l<10 ^ l.length) (by simp [z1p]) (fun l c ih h=>?_) l
 rw [List.all_append,Bool.and_eq_true] at h
 have h1:=ih h.1
 have h2:=zaw.1 (by simpa using h.2:digC c=true)
 rw [zfi,List.length_append,List.length_singleton,Nat.pow_succ]
 omega
theorem znz {c:UInt8} (h:48≤c.toNat∧c.toNat≤57):UInt8.ofNat (48+(c.toNat-48))=c:=by
 apply UInt8.toNat.inj
 simp [UInt8.toNat_ofNat']; omega
theorem zo0 (l:List UInt8):l.all digC=true→l.head?≠some 48→l≠[]→0<z1p l:=by
 refine zi4 (P:=fun l=>l.all digC=true→l.head?≠some 48→l≠[]→0<z1p l) (fun _ _ h=>absurd rfl h) (fun l c ih h h48 _=>?_) l
 rw [List.all_append,Bool.and_eq_true] at h
 have h2:=zaw.1 (by simpa using h.2:digC c=true)
 rw [zfi]
 by_cases hl:l=[]
 ·subst hl
  have:c≠48:=fun e=>h48 (by simp [e])
  have:c.toNat≠48:=fun e=>this (UInt8.toNat.inj (by simpa using e))
  omega
 ·have:=ih h.1 (fun e=>h48 (by cases l with | nil=>exact absurd rfl hl | cons a l=>simpa using e)) hl
  omega
theorem zo1 (l:List UInt8):z1t l=true→Lib.decDigits (z1p l)=l:=by
 refine zi4 (P:=fun l=>z1t l=true→Lib.decDigits (z1p l)=l) (fun h=>by simp [z1t] at h) (fun l c ih h=>?_) l
 simp only [z1t,List.all_append,Bool.and_eq_true,Bool.or_eq_true,decide_eq_true_eq,List.length_append,List.length_singleton] at h
 obtain ⟨⟨h1,h2⟩,h3⟩:=h
 have h2:=zaw.1 (by simpa using h2:digC c=true)
 rw [zfi]
 by_cases hl:l=[]
 ·subst hl
  have e:z1p []*10+(c.toNat-48)=c.toNat-48:=by simp [z1p]
  rw [e,Lib.decDigits,dif_pos (by omega),znz h2]; rfl
 ·have hlen:0<l.length:=List.length_pos_iff.2 hl
  have h4:(l++[c]).head?≠some 48:=h3.elim (fun h=>by omega) fun h=>h.2
  have h5:l.head?≠some 48:=fun e=>h4 (by cases l with | nil=>exact absurd rfl hl | cons a l=>simpa using e)
  have hp:=zo0 l h1 h5 hl
  have hc:z1t l=true:=by
   simp only [z1t,h1,Bool.true_and,Bool.or_eq_true,Bool.and_eq_true,decide_eq_true_eq]
   by_cases h6:l.length=1
   ·exact .inl h6
   ·exact .inr ⟨by omega,h5⟩
  rw [Lib.decDigits,dif_neg (by omega),show (z1p l*10+(c.toNat-48)) / 10=z1p l by omega,show (z1p l*10+(c.toNat-48)) % 10=c.toNat-48 by omega,ih hc,znz h2]
theorem zo2 {d:Nat} (h:d<10):(UInt8.ofNat (48+d)).toNat=48+d:=by simp [UInt8.toNat_ofNat']; omega
theorem zi5 (u:Nat):z1t (Lib.decDigits u)=true∧z1p (Lib.decDigits u)=u:=by
 induction u using Nat.strongRecOn with
 | _ u ih =>
  rw [Lib.decDigits]
  split
  ·rename_i h
   have:=zo2 h
   exact ⟨by simp [z1t,digC,this]; omega,by simp only [z1p,List.foldl_cons,List.foldl_nil,this]; omega⟩
  ·rename_i h
   obtain ⟨h1,h2⟩:=ih (u / 10) (by omega)
   have h3:=zo2 (show u % 10<10 by omega)
   simp only [z1t,Bool.and_eq_true,Bool.or_eq_true,decide_eq_true_eq] at h1
   obtain ⟨h4,h5⟩:=h1
   have hne:Lib.decDigits (u / 10)≠[]:=fun e=>by rw [e] at h5; simp at h5
   have h48:(Lib.decDigits (u / 10)).head?≠some 48:=by
    rcases h5 with h5 | h5
    ·intro e
     have hl:Lib.decDigits (u / 10)=[48]:=by
      cases hq:Lib.decDigits (u / 10) with
      | nil=>exact absurd hq hne
      | cons a l =>
       rw [hq] at h5 e
       simp at h5 e
       rw [h5,e]
     rw [hl] at h2
     simp [z1p] at h2
     omega
    ·exact h5.2
   have hpos:0<(Lib.decDigits (u / 10)).length:=List.length_pos_iff.2 hne
   refine ⟨?_,by rw [zfi,h2,h3]; omega⟩
   simp only [z1t,List.all_append,h4,Bool.true_and,Bool.and_eq_true,Bool.or_eq_true,decide_eq_true_eq,List.length_append,List.length_singleton]
   refine ⟨by simp [digC,h3]; omega,.inr ⟨by omega,?_⟩⟩
   cases hq:Lib.decDigits (u / 10) with
   | nil=>exact absurd hq hne
   | cons a l=>rw [hq] at h48; simpa using h48
theorem zi6 {l:List UInt8} (h:z1t l=true):l≠[]:=fun e=>by rw [e] at h; simp [z1t] at h
theorem z98 {l:List UInt8} (h:z1t l=true):l.all digC=true:=by
 simp only [z1t,Bool.and_eq_true] at h; exact h.1
theorem zo3 {c:UInt8} {r:List UInt8} (h:z1t (c::r)=true):c≠45∧c≠43:=by
 have:=z98 h
 simp only [List.all_cons,Bool.and_eq_true] at this
 have:=zaw.1 this.1
 exact ⟨fun e=>by subst e; simp at this,fun e=>by subst e; simp at this⟩
theorem zck {s:List UInt8} {v:Int}:z1k s=some v↔Lib.itoa v=s∧(s.length≤18∨(s.head?=some 45∧s.length≤19)):=by
 constructor
 ·intro h
  match s with
  | []=>cases h
  | c::r =>
   simp only [z1k] at h
   split at h
   ·rename_i hc
    subst hc
    split at h
    ·rename_i h1
     obtain ⟨h1,h2,h3⟩:=h1
     cases h
     have hp:=zo0 r (z98 h1) h3 (zi6 h1)
     refine ⟨?_,.inr ⟨rfl,by simp; omega⟩⟩
     rw [Lib.itoa_neg _ hp,zo1 r h1]
    ·cases h
   ·split at h
    ·rename_i h1
     cases h
     refine ⟨?_,.inl (by simp; omega)⟩
     rw [Lib.itoa_nonneg,zo1 _ h1.1]
    ·cases h
 ·rintro ⟨h,hl⟩
  rcases Int.lt_or_le v 0 with hv | hv
  ·obtain ⟨u,rfl⟩:∃ u:Nat,v = -(u:Int):=⟨v.natAbs,by omega⟩
   rw [Lib.itoa_neg u (by omega)] at h
   subst h
   obtain ⟨h1,h2⟩:=zi5 u
   have h48:(Lib.decDigits u).head?≠some 48:=by
    intro e
    simp only [z1t,Bool.and_eq_true,Bool.or_eq_true,decide_eq_true_eq] at h1
    rcases h1.2 with h5 | h5
    ·have hl:Lib.decDigits u=[48]:=by
      cases hq:Lib.decDigits u with
      | nil=>rw [hq] at h5; simp at h5
      | cons a l =>
       rw [hq] at h5 e
       simp at h5 e
       rw [h5,e]
     rw [hl] at h2
     simp [z1p] at h2
     omega
    ·exact h5.2 e
   have hl2:(Lib.decDigits u).length≤18:=by
    simp only [List.length_cons,List.head?_cons,true_and] at hl
    omega
   simp only [z1k,if_true]
   rw [if_pos ⟨h1,hl2,h48⟩,h2]
  ·obtain ⟨u,rfl⟩:∃ u:Nat,v=(u:Int):=⟨v.toNat,by omega⟩
   rw [Lib.itoa_nonneg] at h
   obtain ⟨h1,h2⟩:=zi5 u
   rw [h] at h1 h2
   match s,h1,h2,hl with
   | [],h1,_,_=>simp [z1t] at h1
   | c::r,h1,h2,hl =>
    obtain ⟨n1,n2⟩:=zo3 h1
    have hl2:r.length<18:=by
     rcases hl with hl | ⟨h3,_⟩
     ·simp at hl; omega
     ·simp at h3; exact absurd h3 n1
    simp only [z1k]
    rw [if_neg n1,if_pos ⟨h1,hl2⟩,h2]
theorem zo4:∀ (r:List UInt8) (acc:Nat),r.length≤18→acc<10 ^ (18-r.length)→r.all digC=true→Lib.parseUintM 18446744073709551615 acc r=.ok (r.foldl (fun a c=>a*10+(c.toNat-48)) acc)
 | [],acc,_,_,_=>rfl
 | c::r,acc,hl,ha,hd=>by
  simp only [List.all_cons,Bool.and_eq_true] at hd
  have hc:=zaw.1 hd.1
  simp only [List.length_cons] at hl ha
  have e1:18-r.length=(18-(r.length+1))+1:=by omega
  have h1:acc*10+(c.toNat-48)<10 ^ (18-r.length):=by rw [e1,Nat.pow_succ]; omega
  have h2:10 ^ (18-r.length)≤10 ^ 18:=Nat.pow_le_pow_right (by omega) (by omega)
  have h3:(10:Nat) ^ 18=1000000000000000000:=by decide
  rw [Lib.parseUintM,if_pos hc,if_neg (by omega),if_neg (by omega),zo4 r _ (by omega) h1 hd.2]
  rfl
theorem zo5 {r:List UInt8} (hl:r.length≤18) (hn:r≠[]) (hd:r.all digC=true):Lib.parseUintB 64 r=.ok (z1p r):=by
 have e:(2:Nat) ^ 64-1=18446744073709551615:=by decide
 unfold Lib.parseUintB
 rw [if_neg hn,e,zo4 r 0 hl (Nat.pow_pos (by omega)) hd]
 rfl
theorem zi7 {l:List UInt8} (h:l.all digC=true) (hl:l.length≤18):z1p l<1000000000000000000:=by
 have h1:=zxo l h
 have h2:10 ^ l.length≤10 ^ 18:=Nat.pow_le_pow_right (by omega) hl
 have h3:(10:Nat) ^ 18=1000000000000000000:=by decide
 omega
theorem zo6 {s:List UInt8} {v:Int} (h:z1k s=some v):prs s=(v,false) ∧ -1000000000000000000<v∧v<1000000000000000000:=by
 have e63:(2:Nat) ^ (64-1)=9223372036854775808:=by decide
 match s with
 | []=>cases h
 | c::r =>
  simp only [z1k] at h
  split at h
  ·rename_i hc
   subst hc
   split at h
   ·rename_i h1
    obtain ⟨h1,h2,h3⟩:=h1
    cases h
    have hv:=zi7 (z98 h1) h2
    refine ⟨?_,by omega,by omega⟩
    unfold prs
    rw [Lib.parseIntB_minus,zo5 h2 (zi6 h1) (z98 h1),e63]
    simp only [Lib.signedC]
    rw [if_neg (by omega)]
   ·cases h
  ·rename_i hc
   split at h
   ·rename_i h1
    obtain ⟨h1,h2⟩:=h1
    cases h
    have hl:(c::r).length≤18:=by simp; omega
    have hv:=zi7 (z98 h1) hl
    obtain ⟨n1,n2⟩:=zo3 h1
    refine ⟨?_,by omega,by omega⟩
    unfold prs
    rw [Lib.parseIntB_plain 64 c r (fun e=>n2 (UInt8.toNat.inj (by simpa using e))) (fun e=>n1 (UInt8.toNat.inj (by simpa using e))),zo5 hl (by simp) (z98 h1),e63]
    simp only [Lib.signlessC]
    rw [if_neg (by omega)]
   ·cases h
def z2i (s:List UInt8):Int×Bool:=match z1k s with | some v=>(v,true) | none=>(0,false)
theorem zxp (s:List UInt8) (h:(prs s).2=false) : -9223372036854775808≤(prs s).1∧(prs s).1≤9223372036854775807:=by
 unfold prs at *
 split at h
 ·rename_i v hv
  have:=Lib.parseIntB_bounds hv
  have e63:(2:Nat) ^ (64-1)=9223372036854775808:=by decide
  rw [e63] at this
  constructor
  ·exact by simpa using this.1
  ·have:=this.2
   show v≤_
   omega
 ·cases h
 ·cases h
def z6y (s:List UInt8):List UInt8:=match s with | []=>[] | c::r=>if c=45 then r else c::r
theorem zxq {s:List UInt8} (hs:s.length≤1048576):z7z s [45]=some (z6y s):=by
 unfold z7z zf6 zf5
 cases s with
 | nil=>simp [z6y]
 | cons c r =>
  have h1:((1:Nat):Int)≤((c::r).length:Int):=by simp; omega
  simp only [List.length_singleton,h1,decide_true,if_true,List.take_succ_cons,List.take_zero,List.drop_succ_cons,List.drop_zero,z6y,List.cons.injEq,and_true,Option.bind_some]
  by_cases hc:c=45
  ·simp [hc]
  ·simp [hc]
theorem zo7 {s:List UInt8} (hs:s.length≤1048576):zc9 s=some (z2i s):=by
 unfold zc9
 rw [zxq hs]
 simp only [Option.bind_some]
 have hlen:∀ v,z1k s=some v→1≤(z6y s).length∧(z6y s).length≤18:=by
  intro v h
  match s with
  | []=>cases h
  | c::r =>
   simp only [z1k] at h
   simp only [z6y]
   split at h
   ·rename_i hc
    rw [if_pos hc]
    split at h
    ·rename_i h1
     exact ⟨List.length_pos_iff.2 (zi6 h1.1),h1.2.1⟩
    ·cases h
   ·rename_i hc
    rw [if_neg hc]
    split at h
    ·rename_i h1
     simp; omega
    ·cases h
 by_cases h1:((z6y s).length:Int)<1
 ·rw [decide_eq_true h1,if_pos rfl]
  unfold z2i
  cases hn:z1k s with
  | none=>rfl
  | some v=>have:=hlen v hn; omega
 rw [decide_eq_false h1,if_neg (by simp)]
 by_cases h2:18<((z6y s).length:Int)
 ·rw [decide_eq_true h2,if_pos rfl]
  unfold z2i
  cases hn:z1k s with
  | none=>rfl
  | some v=>have:=hlen v hn; omega
 rw [decide_eq_false h2,if_neg (by simp)]
 have hl18:s.length≤18∨(s.head?=some 45∧s.length≤19):=by
  cases s with
  | nil=>exact .inl (by simp)
  | cons c r =>
   simp only [z6y] at h2
   split at h2
   ·rename_i hc; exact .inr ⟨by simp [hc],by simp; omega⟩
   ·exact .inl (by omega)
 unfold zn6
 rw [if_pos ⟨rfl,rfl,by omega⟩]
 simp only [Option.bind_some]
 cases hp:(prs s).2 with
 | true =>
  simp only [if_true]
  unfold z2i
  cases hn:z1k s with
  | none=>rfl
  | some v=>rw [(zo6 hn).1] at hp; cases hp
 | false =>
  simp only [Bool.false_eq_true,if_false]
  obtain ⟨b1,b2⟩:=zxp s hp
  rw [zci b1 b2]
  simp only [Option.bind_some]
  by_cases he:Lib.itoa (prs s).1=s
  ·have hn:=zck.2 ⟨he,hl18⟩
   simp only [he,decide_true,Bool.not_true,Bool.false_eq_true,if_false]
   unfold z2i
   rw [hn]
  ·simp only [he,decide_false,Bool.not_false,if_true]
   unfold z2i
   cases hn:z1k s with
   | none=>rfl
   | some v =>
    have:=(zo6 hn).1
    rw [this] at he
    exact absurd (zck.1 hn).1 he
theorem zxr (x:UInt8):z8w (z_u8 x)=some (digC x):=by
 have e:z_u8 x=(x.toNat:Int):=rfl
 unfold z8w
 rw [e]
 by_cases h1:48≤x.toNat
 ·have g1:(48:Int)≤(x.toNat:Int):=by omega
  by_cases h2:x.toNat≤57
  ·have g2:(x.toNat:Int)≤57:=by omega
   simp [digC,h1,h2,g1,g2]
  ·have g2:¬ (x.toNat:Int)≤57:=by omega
   simp only [digC,h1,h2,g1,g2,decide_true,if_true,decide_false,and_false]
 ·have g1:¬ (48:Int)≤(x.toNat:Int):=by omega
  simp only [digC,h1,g1,decide_false,Bool.false_eq_true,if_false,false_and]
theorem zxs {a d:Nat} {x:UInt8} (hd:48≤x.toNat∧x.toNat≤57) (ha:a<100000000000000000):z7 (z7 (10*(a:Int))+z7 (z44 (z_u8 x-48)))=((a*10+(x.toNat-48):Nat):Int):=by
 have e:z_u8 x=(x.toNat:Int):=rfl
 have e1:z44 (z_u8 x-48)=((x.toNat-48:Nat):Int):=by
  rw [e]
  unfold z44
  rw [IntKind.wrap_u8]
  omega
 rw [e1,z14 (x:=10*(a:Int)) (by omega) (by omega),z14 (x:=((x.toNat-48:Nat):Int)) (by omega) (by omega),z14 (by omega) (by omega)]
 omega
theorem zi8 {k:Nat} {s:List UInt8} (hs:s.length≤19) {at4:Int} {E:Int→Int→Option (Int×Bool)}:∀ (post pre:List UInt8) (a n:Nat),s=pre++post→a<10 ^ (18-post.length)→post.length≤18→post.length<n →
  z4l k n s at4 (a:Int) (pre.length:Int) E=if post.all digC=true then E at4 ((post.foldl (fun a c=>a*10+(c.toNat-48)) a:Nat):Int) else some (0,false)
 | [],pre,a,n,hx,ha,hp,hn=>by
  obtain ⟨n,rfl⟩:∃ m,n=m+1:=⟨n-1,by omega⟩
  rw [List.append_nil] at hx
  subst hx
  simp [z4l]
 | x::post,pre,a,n,hx,ha,hp,hn=>by
  obtain ⟨n,rfl⟩:∃ m,n=m+1:=⟨n-1,by omega⟩
  have hg:s[pre.length]?=some x:=by rw [hx]; simp
  have hlt:(pre.length:Int)<(s.length:Int):=by rw [hx]; simp; omega
  have hlen:pre.length≤19:=by rw [hx] at hs; simp at hs; omega
  simp only [List.length_cons] at ha hp hn
  have hw:=z2s (i:=pre.length) (by omega)
  simp only [z4l,hlt,decide_true,if_true,Int.natCast_nonneg,Int.toNat_natCast,hg,Option.bind_some,zxr,hw]
  have h10:(10:Nat) ^ 17=100000000000000000:=by decide
  have h2:10 ^ (18-(post.length+1))≤10 ^ 17:=Nat.pow_le_pow_right (by omega) (by omega)
  cases hd:digC x with
  | false=>simp [hd]
  | true =>
   have hc:=zaw.1 hd
   have e1:18-post.length=(18-(post.length+1))+1:=by omega
   have h1:a*10+(x.toNat-48)<10 ^ (18-post.length):=by rw [e1,Nat.pow_succ]; omega
   simp only [Bool.not_true,Bool.false_eq_true,if_false,List.all_cons,hd,Bool.true_and]
   rw [zxs (d:=0) hc (by omega)]
   have:=zi8 (k:=k) (at4:=at4) (E:=E) hs post (pre++[x]) (a*10+(x.toNat-48)) n (by rw [hx]; simp) h1 (by omega) (by omega)
   rw [List.length_append,List.length_singleton] at this
   rw [this]
   rfl
theorem z45 (x:UInt8):decide (z_u8 x=45)=decide (x=45):=zfh x 45
theorem z48 (x:UInt8):decide (z_u8 x=48)=decide (x=48):=zfh x 48
theorem zo8 {c:UInt8} (h:c≠48) (r:List UInt8):z1t (c::r)=(c::r).all digC:=by
 cases r with
 | nil=>simp [z1t]
 | cons d r=>simp [z1t,h]
theorem zxt {k:Nat} (hk:KK≤k) {s:List UInt8} (hs:s.length≤1048576):zeq k s=some (z2i s):=by
 have hK:=z2r
 unfold zeq
 cases s with
 | nil=>simp [z2i,z1k]
 | cons c r =>
  have hpos:(0:Int)<((c::r).length:Int):=by rw [List.length_cons]; omega
  have hne:¬ ((c::r).length:Int)=0:=by omega
  have hw0:z7 (((c::r).length:Int)-0)=((c::r).length:Int):=by rw [z14 (by omega) (by omega)]; omega
  have hw1:z7 (((c::r).length:Int)-1)=(r.length:Int):=by rw [z14 (by rw [List.length_cons]; omega) (by rw [List.length_cons] at *; omega),List.length_cons]; omega
  have h0:(c::r)[0]?=some c:=rfl
  have zero:∀ (x:List UInt8) n,x=c::r→x.length≤18→r.length+1<n→∀ {E},z4l k n (c::r) 0 0 0 E=if (c::r).all digC=true then E 0 ((z1p (c::r):Nat):Int) else some (0,false):=by
   intro x n hx hl hn E
   subst hx
   exact zi8 (k:=k) (at4:=0) (E:=E) (by omega) (c::r) [] 0 n rfl (Nat.pow_pos (by omega)) (by omega) (by simp; omega)
  simp only [hpos,decide_true,if_true,h0,Option.bind_some,z45,hne,decide_false,Bool.false_eq_true,if_false,hw0,hw1]
  by_cases hc:c=45
  ·subst hc
   simp only [decide_true,if_true]
   by_cases h1:((45::r).length:Int)=1
   ·have:r=[]:=by
     cases r with
     | nil=>rfl
     | cons a r=>simp at h1; omega
    subst this
    simp [z2i,z1k,z1t]
   ·rw [decide_eq_false h1,if_neg (by simp)]
    by_cases h18:18<(r.length:Int)
    ·rw [decide_eq_true h18,if_pos rfl]
     simp only [z2i,z1k,if_true]
     rw [if_neg (by omega)]
    ·rw [decide_eq_false h18,if_neg (by simp)]
     obtain ⟨d,r',rfl⟩:∃ d r',r=d::r':=by
      cases r with
      | nil=>simp at h1
      | cons d r'=>exact ⟨d,r',rfl⟩
     have g1:(45::d::r')[1]?=some d:=rfl
     have g2:(1:Int)<((45::d::r').length:Int):=by simp; omega
     have lp:∀ {E},z4l k k (45::d::r') 1 0 1 E=if (d::r').all digC=true then E 1 ((z1p (d::r'):Nat):Int) else some (0,false):=by
      intro E
      exact zi8 (k:=k) (at4:=1) (E:=E) (by simp at h18 ⊢; omega) (d::r') [45] 0 k rfl (Nat.pow_pos (by omega)) (by omega) (by simp at h18 ⊢; omega)
     simp only [g1,Option.bind_some,z48,g2,decide_true,if_true,lp]
     by_cases h48:d=48
     ·subst h48
      simp [z2i,z1k]
     ·simp only [h48,decide_false,Bool.false_eq_true,if_false]
      have hcan:z1t (d::r')=(d::r').all digC:=zo8 h48 r'
      cases hd:(d::r').all digC with
      | false=>simp [z2i,z1k,hcan,hd]
      | true =>
       have hv:=zi7 hd (by omega)
       have hl:(d::r').length≤18:=by omega
       simp only [if_true,z2i,z1k,hcan,hd,List.head?_cons,Option.some.injEq,h48,hl,and_self,not_false_eq_true,ne_eq]
       rw [z14 (by omega) (by omega)]
       simp
  ·simp only [hc,decide_false,Bool.false_eq_true,if_false]
   by_cases h18:18<((c::r).length:Int)
   ·rw [decide_eq_true h18,if_pos rfl]
    simp only [z2i,z1k,hc,if_false]
    rw [if_neg (by simp at h18 ⊢; omega)]
   ·rw [decide_eq_false h18,if_neg (by simp)]
    have lp:∀ {E},z4l k k (c::r) 0 0 0 E=if (c::r).all digC=true then E 0 ((z1p (c::r):Nat):Int) else some (0,false):=fun {E}=>zero (c::r) k rfl (by omega) (by simp at h18; omega)
    have hl:r.length<18:=by simp at h18; omega
    simp only [h0,Option.bind_some,z48,lp]
    have fin:z1t (c::r)=(c::r).all digC→(if (c::r).all digC=true then (if (decide ((0:Int)=1))=true then some (z7 (0-((z1p (c::r):Nat):Int)),true) else some (((z1p (c::r):Nat):Int),true)) else some (0,false))=some (z2i (c::r)):=by
     intro hcan
     cases hd:(c::r).all digC with
     | false=>simp [z2i,z1k,hcan,hd,hc]
     | true=>simp [z2i,z1k,hcan,hd,hc,hl]
    by_cases h48:c=48
    ·simp only [h48,decide_true,if_true]
     by_cases h1:(1:Int)<((48::r).length:Int)
     ·rw [decide_eq_true h1,if_pos rfl]
      have hcan:z1t (48::r)=false:=by
       have:1≠(48::r).length:=by simp at h1 ⊢; intro e; rw [e] at h1; simp at h1
       simp only [z1t,List.head?_cons,ne_eq,not_true_eq_false,decide_false,Bool.and_false,Bool.or_false]
       have:(48::r).length≠1:=fun e=>this e.symm
       simp only [this,decide_false,Bool.and_false]
      simp [z2i,z1k,hcan]
     ·rw [decide_eq_false h1,if_neg (by simp)]
      have hr:r=[]:=by
       cases r with
       | nil=>rfl
       | cons a r=>simp at h1; omega
      subst hr
      subst h48
      exact fin (by decide)
    ·simp only [h48,decide_false,Bool.false_eq_true,if_false]
     exact fin (zo8 h48 r)
theorem zi9 {c:UInt8}:∀ (l cur:List UInt8),Lib.join (z15 c cur l) [c]=cur++l
 | [],cur=>by simp [z15,Lib.join_cons,Lib.joinTail]
 | x::l,cur=>by
  unfold z15
  by_cases h:x=c
  ·subst h
   rw [if_pos rfl,Lib.join_cons]
   have:=zi9 (c:=x) l []
   cases hs:z15 x [] l with
   | nil=>have:=zcj x l []; rw [hs] at this; simp at this
   | cons y r =>
    rw [hs,Lib.join_cons] at this
    have e:Lib.joinTail [x] (y::r)=[x]++(y++Lib.joinTail [x] r):=by simp [Lib.joinTail]
    rw [e,this]; simp
  ·rw [if_neg h,zi9 l (cur++[x])]; simp
theorem zxu (c:UInt8) (s:List UInt8):Lib.join (zz c s) [c]=s:=zi9 s []
def z2j (c:UInt8):List UInt8→Option (List UInt8×List UInt8)
 | []=>none
 | x::l=>if x=c then some ([],l) else match z2j c l with | some p=>some (x::p.1,p.2) | none=>none
theorem zfj {c:UInt8}:∀ {l:List UInt8},z2j c l=none↔c∉l
 | []=>by simp [z2j]
 | x::l=>by
  have ih:=zfj (c:=c) (l:=l)
  unfold z2j
  by_cases h:x=c
  ·rw [if_pos h]; simp [h]
  ·rw [if_neg h]
   cases hc:z2j c l with
   | none =>
    have:=ih.1 hc
    simp only [true_iff]
    intro hm
    rcases List.mem_cons.1 hm with e | e
    ·exact h e.symm
    ·exact this e
   | some p =>
    simp only [reduceCtorEq,false_iff]
    intro hm
    have:c∉l:=fun e=>hm (by simp [e])
    rw [ih.2 this] at hc; cases hc
theorem z99 {c:UInt8}:∀ {l pre post:List UInt8},z2j c l=some (pre,post)↔l=pre++c::post∧c∉pre
 | [],pre,post=>by simp [z2j]
 | x::l,pre,post=>by
  unfold z2j
  by_cases h:x=c
  ·rw [if_pos h]
   constructor
   ·intro e; cases e; exact ⟨by rw [h]; rfl,by simp⟩
   ·rintro ⟨e1,e2⟩
    cases pre with
    | nil=>simp at e1; rw [e1.2]
    | cons y pre=>simp at e1; exact absurd (by simp [← e1.1,h]) e2
  ·rw [if_neg h]
   have ih:=fun pre=>z99 (c:=c) (l:=l) (pre:=pre) (post:=post)
   constructor
   ·intro e
    cases hc:z2j c l with
    | none=>rw [hc] at e; cases e
    | some p =>
     rw [hc] at e
     cases e
     obtain ⟨e1,e2⟩:=(ih p.1).1 hc
     refine ⟨by rw [e1]; rfl,fun hm=>?_⟩
     rcases List.mem_cons.1 hm with e | e
     ·exact h e.symm
     ·exact e2 e
   ·rintro ⟨e1,e2⟩
    cases pre with
    | nil=>simp at e1; exact absurd e1.1 h
    | cons y pre =>
     simp at e1
     rw [(ih pre).2 ⟨e1.2,fun hm=>e2 (by simp [hm])⟩,e1.1]
theorem zo9 {s:List UInt8} (hs:s.length≤1000000000) (c:UInt8):zca s [c]=some (match z2j c s with | some p=>(p.1,p.2,true) | none=>(s,[],false)):=by
 have hi:z92 s [c]=some (Lib.indexByte s c):=by
  have:=znx s c
  unfold z7y at this
  cases h:z92 s [c] with
  | none=>rw [h] at this; cases this
  | some r=>rw [h] at this; exact this
 unfold zca zhv
 rw [hi]
 simp only [Option.bind_some]
 by_cases h:Lib.indexByte s c = -1
 ·rw [h,decide_eq_false (by omega),if_neg (by simp),zfj.2 (zi2 h)]; rfl
 ·obtain ⟨pre,post,e1,e2,e3⟩:=zi3 h
  have hl:s.length=pre.length+(post.length+1):=by rw [e1]; simp
  have w2:z7 ((pre.length:Int)+(([c]:List UInt8).length:Int))=((pre.length+1:Nat):Int):=by rw [List.length_singleton,z14 (by omega) (by omega)]; rfl
  have b1:(pre.length:Int)≤(s.length:Int):=by omega
  have b2:((pre.length+1:Nat):Int)≤(s.length:Int):=by omega
  have hdr:(s.drop (pre.length+1)).take (s.length-(pre.length+1))=post:=by
   rw [List.take_of_length_le (by rw [List.length_drop]; exact Nat.le_refl _),e1]; simp
  have htk:s.take pre.length=pre:=by rw [e1]; simp
  rw [e3,decide_eq_true (by omega),if_pos rfl,w2,z99.2 ⟨e1,e2⟩]
  simp only [Int.natCast_nonneg,Int.le_refl,b1,b2,and_self,if_true,Int.toNat_natCast,hdr,htk,Option.bind_some]
theorem zoa {f:(a b:BitVec 64)→BitVec 64} {g:Nat→Nat→Nat} (hf:∀ a b:BitVec 64,(f a b).toNat=g a.toNat b.toNat) {x y:Nat} (hx:x<9223372036854775808) (hy:y<9223372036854775808) (hg:g x y<9223372036854775808):z83 .i64 f (x:Int) (y:Int)=((g x y:Nat):Int):=by
 have h1:(BitVec.ofInt 64 (x:Int)).toNat=x:=by rw [BitVec.toNat_ofInt]; omega
 have h2:(BitVec.ofInt 64 (y:Int)).toNat=y:=by rw [BitVec.toNat_ofInt]; omega
 have h3:=hf (BitVec.ofInt 64 (x:Int)) (BitVec.ofInt 64 (y:Int))
 rw [h1,h2] at h3
 show z7 ((f (BitVec.ofInt 64 (x:Int)) (BitVec.ofInt 64 (y:Int))).toNat:Int)=_
 rw [h3]
 exact z14 (by omega) (by omega)
theorem zia {x y:Nat} (n:Nat) (hx:x<2 ^ n) (hy:y<2 ^ n):x ^^^ y<2 ^ n:=Nat.xor_lt_two_pow hx hy
theorem zob {x y:Nat} (hx:x<4611686018427387904) (hy:y<4611686018427387904):z8s .i64 (x:Int) (y:Int)=((x ^^^ y:Nat):Int) :=
 zoa (g:=fun a b=>a ^^^ b) (fun a b=>BitVec.toNat_xor a b) (by omega) (by omega) (by have:=zia 62 (x:=x) (y:=y) (by omega) (by omega); show x ^^^ y<_; omega)
theorem zxv {x y:Nat} (hx:x<4611686018427387904) (hy:y<4611686018427387904):zc6 .i64 (x:Int) (y:Int)=((x &&& y:Nat):Int) :=
 zoa (g:=fun a b=>a &&& b) (fun a b=>BitVec.toNat_and a b) (by omega) (by omega) (by have:=Nat.and_le_left (n:=x) (m:=y); show x &&& y<_; omega)
theorem zxw (x:Nat):x &&& 65535=x % 65536:=Nat.and_two_pow_sub_one_eq_mod x 16
def z4y (s:Nat):Nat:=if 65535<2*s then ((2*s) % 65536) ^^^ 4129 else 2*s
def z6z:Nat→Nat→Nat
 | 0,s=>s
 | n+1,s=>z6z n (z4y s)
def zib (s:Nat) (b:UInt8):Nat:=z6z 8 (s ^^^ (b.toNat*256))
def z23:List UInt8→Nat→Nat
 | [],s=>s
 | b::l,s=>z23 l (zib s b)
theorem zic {s:Nat} (h:s<65536):z4y s<65536:=by
 unfold z4y
 split
 ·have:=zia 16 (x:=(2*s) % 65536) (y:=4129) (by omega) (by omega); omega
 ·omega
theorem zoc:∀ (n:Nat) {s:Nat},s<65536→z6z n s<65536
 | 0,s,h=>h
 | n+1,s,h=>zoc n (zic h)
theorem zid {s:Nat} (h:s<65536) (b:UInt8):s ^^^ (b.toNat*256)<65536:=by
 have:=b.toNat_lt
 have:=zia 16 (x:=s) (y:=b.toNat*256) (by omega) (by omega); omega
theorem zxx {s:Nat} (h:s<65536) (b:UInt8):zib s b<65536:=zoc 8 (zid h b)
theorem z9a:∀ (l:List UInt8) {s:Nat},s<65536→z23 l s<65536
 | [],s,h=>h
 | b::l,s,h=>z9a l (zxx h b)
theorem zie:∀ (l r:List UInt8) (s:Nat),z23 (l++r) s=z23 r (z23 l s)
 | [],r,s=>rfl
 | b::l,r,s=>zie l r (zib s b)
theorem zif (n a b:Int):zar n a b=some (decide (a≤n∧n≤b)):=by
 unfold zar
 by_cases h:a≤n <;> simp [h]
theorem zxy (n a b:Int):zer n a b=some (decide (a≤n∧n≤b)):=by
 unfold zer
 by_cases h:a≤n <;> simp [h]
theorem zod {s:Nat} (h:s<65536):z7 ((s:Int)*2 ^ 1)=((2*s:Nat):Int):=by
 have:(2:Int) ^ 1=2:=rfl
 rw [this,z14 (by omega) (by omega)]; omega
theorem zoe {s:Nat} (h:s<65536):z8s .i64 (zc6 .i64 ((2*s:Nat):Int) 65535) 4129=(((2*s) % 65536 ^^^ 4129:Nat):Int):=by
 have h1:zc6 .i64 ((2*s:Nat):Int) 65535=(((2*s) % 65536:Nat):Int):=by
  have:=zxv (x:=2*s) (y:=65535) (by omega) (by omega)
  rw [zxw] at this
  exact this
 rw [h1]
 exact zob (x:=(2*s) % 65536) (y:=4129) (by omega) (by omega)
theorem zof {s:Nat} (h:s<65536) (b:UInt8):z8s .i64 (s:Int) (z7 ((z7 (z_u8 b))*2 ^ 8))=((s ^^^ (b.toNat*256):Nat):Int):=by
 have hb:=b.toNat_lt
 have e1:z_u8 b=(b.toNat:Int):=rfl
 have e2:(2:Int) ^ 8=256:=rfl
 have e3:z7 ((z7 (z_u8 b))*2 ^ 8)=((b.toNat*256:Nat):Int):=by
  rw [e1,e2,z14 (x:=(b.toNat:Int)) (by omega) (by omega),z14 (by omega) (by omega)]; omega
 rw [e3]
 exact zob (by omega) (by omega)
theorem zog {k:Nat} {t:List UInt8} {i:Int} {E:List UInt8→Int→Int→Option Int}:∀ (m j n s:Nat),j+m=8→m<n→s<65536→z8x k n t (s:Int) i (j:Int) E=E t (z6z m s:Nat) i
 | m,j,0,s,_,h,_=>by omega
 | 0,j,n+1,s,hj,_,_=>by
  have:¬ (j:Int)<8:=by omega
  simp only [z8x,this,decide_false,Bool.false_eq_true,if_false,z6z]
 | m+1,j,n+1,s,hj,hn,hs=>by
  have hlt:(j:Int)<8:=by omega
  have hw:=z2s (i:=j) (by omega)
  have ih:=zog (k:=k) (t:=t) (i:=i) (E:=E) m (j+1) n (z4y s) (by omega) (by omega) (zic hs)
  simp only [z8x,hlt,decide_true,if_true,zod hs,hw]
  unfold z6z
  by_cases c:65535<2*s
  ·have c':(65535:Int)<((2*s:Nat):Int):=by omega
   have e:z4y s=(2*s) % 65536 ^^^ 4129:=by unfold z4y; rw [if_pos c]
   rw [decide_eq_true c',if_pos rfl,zoe hs,← e]
   exact ih
  ·have c':¬ (65535:Int)<((2*s:Nat):Int):=by omega
   have e:z4y s=2*s:=by unfold z4y; rw [if_neg c]
   rw [decide_eq_false c',if_neg (by simp),← e]
   exact ih
theorem zxz {k:Nat} (hk:KK≤k) {t:List UInt8} (ht:t.length≤1000000000000) {s:Nat} (hs:s<65536):zet k t (s:Int)=some ((z23 t s:Nat):Int):=by
 have hK:=z2r
 unfold zet
 have:=z8u (α:=UInt8) (A:=Int) (L:=fun n i z=>z8y k n t z i (fun s=>some s)) (I:=fun pre z=>z=(z23 pre s:Nat)) (G:=fun _ _=>some ((z23 t s:Nat):Int)) t ?_ ?_ k (by omega) (s:Int) rfl
 ·exact this
 ·intro n pre x post z hx hz ih hg hlt
  have hw:=z2s (i:=pre.length) (by omega)
  have hl:=z9a pre hs
  subst hz
  simp only [z8y,hlt,decide_true,if_true,Int.natCast_nonneg,Int.toNat_natCast,hg,Option.bind_some,zof hl]
  have hin:=zog (k:=k) (t:=t) (i:=(pre.length:Int)) (E:=fun s_2 sum_3 i_4=>z8y k n s_2 sum_3 (z7 (i_4+1)) (fun s=>some s)) 8 0 k (z23 pre s ^^^ (x.toNat*256)) (by omega) (by omega) (zid hl x)
  have h0:((0:Nat):Int)=0:=rfl
  rw [h0] at hin
  rw [hin,hw]
  exact ih _ (by rw [zie]; rfl)
 ·intro n z hz
  simp only [z8y,Int.lt_irrefl,decide_false,Bool.false_eq_true,if_false,hz]
theorem zoh {k:Nat} {t:List Int} {a b:Int} {E:Int→Int→Int→List Int→Option Int}:∀ (m j n s:Nat),j+m=8→m<n→s<65536→z94 k n (s:Int) a b (j:Int) t E=E (z6z m s:Nat) a b t
 | m,j,0,s,_,h,_=>by omega
 | 0,j,n+1,s,hj,_,_=>by
  have:¬ (j:Int)<8:=by omega
  simp only [z94,this,decide_false,Bool.false_eq_true,if_false,z6z]
 | m+1,j,n+1,s,hj,hn,hs=>by
  have hlt:(j:Int)<8:=by omega
  have hw:=z2s (i:=j) (by omega)
  have ih:=zoh (k:=k) (t:=t) (a:=a) (b:=b) (E:=E) m (j+1) n (z4y s) (by omega) (by omega) (zic hs)
  simp only [z94,hlt,decide_true,if_true,zod hs,hw]
  unfold z6z
  by_cases c:65535<2*s
  ·have c':(65535:Int)<((2*s:Nat):Int):=by omega
   have e:z4y s=(2*s) % 65536 ^^^ 4129:=by unfold z4y; rw [if_pos c]
   rw [decide_eq_true c',if_pos rfl,zoe hs,← e]
   exact ih
  ·have c':¬ (65535:Int)<((2*s:Nat):Int):=by omega
   have e:z4y s=2*s:=by unfold z4y; rw [if_neg c]
   rw [decide_eq_false c',if_neg (by simp),← e]
   exact ih
theorem zoi {k:Nat} (hk:KK≤k) {t:List UInt8} (ht:t.length≤1000000000000) {s:Nat} (hs:s<65536):zcb k t (s:Int)=some ((z23 t s:Nat):Int):=by
 have hK:=z2r
 have hL:=z64
 unfold zcb
 rw [zif,decide_eq_true ⟨by omega,by omega⟩]
 simp only [Option.bind_some,Bool.not_true,Bool.false_eq_true,if_false]
 rw [if_pos (by omega)]
 have hlen:(z3v t).length=t.length:=by simp [z3v]
 rw [hlen]
 have:=z8u (α:=UInt8) (A:=Int) (L:=fun n i z=>z95 k n z (t.length:Int) i (z3v t) (fun s=>some s)) (I:=fun pre z=>z=(z23 pre s:Nat)) (G:=fun _ _=>some ((z23 t s:Nat):Int)) t ?_ ?_ k (by omega) (s:Int) rfl
 ·exact this
 ·intro n pre x post z hx hz ih hg hlt
  have hw:=z2s (i:=pre.length) (by omega)
  have hl:=z9a pre hs
  have hg2:(z3v t)[pre.length]?=some (z_u8 x):=by unfold z3v; rw [List.getElem?_map,hg]; rfl
  have hlt':pre.length<(z3v t).length:=by rw [hlen]; omega
  subst hz
  simp only [z95,hlt,hlt',decide_true,if_true,Int.natCast_nonneg,Int.toNat_natCast,and_self,hg2,Option.bind_some,zof hl]
  have hin:=zoh (k:=k) (t:=z3v t) (a:=(t.length:Int)) (b:=(pre.length:Int)) (E:=fun sum_4 x_5 x_6 q_7=>z95 k n sum_4 x_5 (z7 (x_6+1)) q_7 (fun s=>some s)) 8 0 k (z23 pre s ^^^ (x.toNat*256)) (by omega) (by omega) (zid hl x)
  have h0:((0:Nat):Int)=0:=rfl
  rw [h0] at hin
  rw [hin,hw]
  exact ih _ (by rw [zie]; rfl)
 ·intro n z hz
  simp only [z95,Int.lt_irrefl,decide_false,Bool.false_eq_true,if_false,hz]
theorem zoj {d:Nat} (h:d<10):z_u8 (UInt8.ofNat (48+d))=((48+d:Nat):Int):=by
 have:(UInt8.ofNat (48+d)).toNat=48+d:=by simp [UInt8.toNat_ofNat']; omega
 show ((UInt8.ofNat (48+d)).toNat:Int)=_
 rw [this]
theorem zig {d:Nat} (h:d<10):z44 (z7 (48+(d:Int)))=((48+d:Nat):Int):=by
 rw [z14 (by omega) (by omega)]
 unfold z44 IntKind.wrap
 simp [IntKind.bits,IntKind.signed]; omega
def z2k (u:Nat):List Int:=if u=0 then [] else ((Lib.decDigits u).map z_u8).reverse
theorem zfk {u:Nat} (h:u≠0):z2k u=((48+u % 10:Nat):Int)::z2k (u / 10):=by
 unfold z2k
 rw [if_neg h]
 by_cases h1:u<10
 ·rw [Lib.decDigits,dif_pos h1,if_pos (by omega)]
  have:=zoj h1
  rw [Nat.mod_eq_of_lt h1,List.map_cons,List.map_nil,this]
  rfl
 ·rw [Lib.decDigits,dif_neg h1,if_neg (by omega)]
  have:=zoj (d:=u % 10) (by omega)
  rw [List.map_append,List.map_cons,List.map_nil,this,List.reverse_append]
  rfl
theorem zih:∀ (j u:Nat),u<10 ^ j→(z2k u).length≤j
 | 0,u,h=>by
  have:u=0:=by simpa using h
  subst this; simp [z2k]
 | j+1,u,h=>by
  by_cases h0:u=0
  ·subst h0; simp [z2k]
  ·rw [zfk h0,List.length_cons]
   have:=zih j (u / 10) (by rw [Nat.pow_succ] at h; omega)
   omega
theorem zii {k:Nat} {n0:Int} {E:Int→List Int→Option (List UInt8)}:∀ (j u n:Nat) (m:Int) (q:List Int),(m=(u:Int)∨m = -(u:Int))→u<10 ^ j→u≤9223372036854775808 → -9223372036854775808≤m→m≤9223372036854775807→q.length+j≤100→j<n→z6w k n n0 m q E=E n0 (q++z2k u)
 | j,u,0,m,q,_,_,_,_,_,_,h=>by omega
 | 0,u,n+1,m,q,hm,hu,_,_,_,_,_=>by
  have h0:u=0:=by simpa using hu
  subst h0
  have hm0:m=0:=by omega
  subst hm0
  simp [z6w,z2k]
 | j+1,u,n+1,m,q,hm,hu,hub,hm1,hm2,hq,hn=>by
  have hL:=z64
  by_cases h0:u=0
  ·subst h0
   have hm0:m=0:=by omega
   subst hm0
   simp [z6w,z2k]
  ·have hm0:¬ m=0:=by omega
   have hlim:(q.length+1)*1≤LIM:=by omega
   have hd:u % 10<10:=by omega
   have hj:u / 10<10 ^ j:=by rw [Nat.pow_succ] at hu; omega
   rcases hm with hm | hm
   ·subst hm
    have t1:Int.tmod (u:Int) 10=((u % 10:Nat):Int):=by rw [Int.tmod_eq_emod_of_nonneg (by omega)]; omega
    have t2:Int.tdiv (u:Int) 10=((u / 10:Nat):Int):=by rw [Int.tdiv_eq_ediv_of_nonneg (by omega)]; omega
    have w2:z7 ((u / 10:Nat):Int)=((u / 10:Nat):Int):=z14 (by omega) (by omega)
    have hlt:¬ (((u % 10:Nat):Int)<0):=by omega
    have ih:=zii (k:=k) (n0:=n0) (E:=E) j (u / 10) n ((u / 10:Nat):Int) (q++[((48+u % 10:Nat):Int)]) (.inl rfl) hj (by omega) (by omega) (by omega) (by simp; omega) (by omega)
    unfold z6w
    rw [decide_eq_false hm0,if_pos (by rfl),t1,t2,decide_eq_false hlt,if_neg (by simp),zig hd,w2,List.length_singleton,if_pos hlim,ih,List.append_assoc,zfk h0]
    rfl
   ·subst hm
    have t1:Int.tmod (-(u:Int)) 10 = -((u % 10:Nat):Int):=by rw [Int.neg_tmod,Int.tmod_eq_emod_of_nonneg (by omega)]; omega
    have t2:Int.tdiv (-(u:Int)) 10 = -((u / 10:Nat):Int):=by rw [Int.neg_tdiv,Int.tdiv_eq_ediv_of_nonneg (by omega)]; omega
    have w2:z7 (-((u / 10:Nat):Int)) = -((u / 10:Nat):Int):=z14 (by omega) (by omega)
    have ih:=zii (k:=k) (n0:=n0) (E:=E) j (u / 10) n (-((u / 10:Nat):Int)) (q++[((48+u % 10:Nat):Int)]) (.inr rfl) hj (by omega) (by omega) (by omega) (by simp; omega) (by omega)
    unfold z6w
    rw [decide_eq_false hm0,if_pos (by rfl),t1,t2,w2]
    by_cases hz:u % 10=0
    ·have hlt:¬ (-((u % 10:Nat):Int)<0):=by omega
     have hw:z44 (z7 (48 + -((u % 10:Nat):Int)))=((48+u % 10:Nat):Int):=by
      rw [hz]
      exact zig (d:=0) (by omega)
     rw [decide_eq_false hlt,if_neg (by simp),hw,List.length_singleton,if_pos hlim,ih,List.append_assoc,zfk h0]
     rfl
    ·have hlt : -((u % 10:Nat):Int)<0:=by omega
     have hw:z44 (z7 (48+z7 (0 - -((u % 10:Nat):Int))))=((48+u % 10:Nat):Int):=by
      rw [show (0:Int) - -((u % 10:Nat):Int)=((u % 10:Nat):Int) by omega,z14 (x:=((u % 10:Nat):Int)) (by omega) (by omega)]
      exact zig hd
     rw [decide_eq_true hlt,if_pos rfl,hw,List.length_singleton,if_pos hlim,ih,List.append_assoc,zfk h0]
     rfl
theorem zij {k:Nat} {q:List Int} (hq:q.length≤1000) {E:List Int→Option (List UInt8)}:∀ (j n:Nat) (acc:List Int),j≤q.length→acc.length+j≤1000→j<n→z8z k n ((j:Int)-1) q acc E=E (acc++(q.take j).reverse)
 | j,0,_,_,_,h=>by omega
 | 0,n+1,acc,_,_,_=>by
  have:¬ (0≤((0:Nat):Int)-1):=by omega
  simp only [z8z,this,decide_false,Bool.false_eq_true,if_false,List.take_zero,List.reverse_nil,List.append_nil]
 | j+1,n+1,acc,hj,ha,hn=>by
  have hL:=z64
  have e0:((j+1:Nat):Int)-1=(j:Int):=by omega
  have hjl:j<q.length:=by omega
  have ew:z7 ((j:Int)-1)=(j:Int)-1:=z14 (by omega) (by omega)
  have hlim:(acc.length+1)*1≤LIM:=by omega
  have ih:=zij (k:=k) hq (E:=E) j n (acc++[q[j]]) (by omega) (by simp; omega) (by omega)
  rw [e0]
  simp only [z8z,Int.natCast_nonneg,decide_true,if_true,Int.toNat_natCast,hjl,and_self,List.getElem?_eq_getElem hjl,Option.bind_some,List.length_singleton,hlim,ew,ih]
  rw [List.take_succ_eq_append_getElem hjl,List.reverse_append]
  simp
theorem zok (l:List UInt8):z6v (l.map z_u8)=l:=by
 unfold z6v
 rw [List.map_map]
 have:((fun x:Int=>x.toNat.toUInt8) ∘ z_u8)=id:=by
  funext b
  simp [z_u8]
 simp [this]
theorem zy0 {k:Nat} (hk:KK≤k) {n:Int} (h1 : -9223372036854775808≤n) (h2:n≤9223372036854775807):zeu k n=some (Lib.itoa n):=by
 have hK:=z2r
 have hL:=z64
 unfold zeu Lib.itoa
 by_cases h0:n=0
 ·subst h0
  rw [decide_eq_true rfl,if_pos rfl,if_neg (by omega)]
  rw [show (0:Int).toNat=0 from rfl,Lib.decDigits,dif_pos (by omega)]
  rfl
 ·have hp:n.natAbs<10 ^ 19:=by
   have:n.natAbs≤9223372036854775808:=by omega
   exact Nat.lt_of_le_of_lt this (by decide)
  have hl:=zih 19 n.natAbs hp
  have hu:n.natAbs≠0:=by omega
  have hr:z2k n.natAbs=((Lib.decDigits n.natAbs).map z_u8).reverse:=by unfold z2k; rw [if_neg hu]
  rw [decide_eq_false h0,if_neg (by simp),zii 19 n.natAbs k n [] (by omega) hp (by omega) h1 h2 (by simp) (by omega),List.nil_append]
  by_cases hn:n<0
  ·have hl1:((z2k n.natAbs).length+1)*1≤LIM:=by omega
   have hb:=zij (k:=k) (q:=z2k n.natAbs++[45]) (by simp; omega) (E:=fun q=>some (z6v q)) (z2k n.natAbs++[45]).length k [] (Nat.le_refl _) (by simp; omega) (by simp; omega)
   have hw:z7 (((z2k n.natAbs++[45]).length:Int)-1)=((z2k n.natAbs++[45]).length:Int)-1:=z14 (by omega) (by simp; omega)
   rw [decide_eq_true hn,if_pos rfl,if_pos hn,List.length_singleton,if_pos hl1,hw,hb,List.take_length,List.nil_append,hr]
   congr 1
   have e:(((Lib.decDigits n.natAbs).map z_u8).reverse++[(45:Int)]).reverse=((45:UInt8)::Lib.decDigits n.natAbs).map z_u8:=by
    rw [List.reverse_append,List.reverse_reverse]; rfl
   rw [e,zok]
  ·have hb:=zij (k:=k) (q:=z2k n.natAbs) (by omega) (E:=fun q=>some (z6v q)) (z2k n.natAbs).length k [] (Nat.le_refl _) (by simp; omega) (by omega)
   have hw:z7 (((z2k n.natAbs).length:Int)-1)=((z2k n.natAbs).length:Int)-1:=z14 (by omega) (by omega)
   have hna:n.natAbs=n.toNat:=by omega
   rw [decide_eq_false hn,if_neg (by simp),if_neg hn,hw,hb,List.take_length,List.nil_append,hr,List.reverse_reverse,zok,hna]
theorem zol (b:UInt8):∀ n,Lib.repeatL [b] n=List.replicate n b
 | 0=>rfl
 | n+1=>by simp [Lib.repeatL,zol b n,List.replicate_succ]
theorem zy1 (b:UInt8) {n:Nat} (hn:n≤1000000):strings_Repeat [b] (n:Int)=some (List.replicate n b):=by
 unfold strings_Repeat
 rw [if_pos ⟨by omega,by omega,by simp; omega⟩,Int.toNat_natCast,zol]
theorem zy2 {u j:Nat} (h:u<10 ^ j) (hj:1≤j):(Lib.decDigits u).length≤j:=by
 by_cases h0:u=0
 ·subst h0; rw [Lib.decDigits,dif_pos (by omega)]; exact hj
 ·have:=zih j u h
  unfold z2k at this
  rw [if_neg h0] at this
  simpa using this
theorem zfl {n:Nat} (h:n<65536):(Lib.itoa (n:Int)).length≤5:=by
 unfold Lib.itoa
 rw [if_neg (by omega),Int.toNat_natCast]
 exact zy2 (by omega) (by omega)
def z71 (n:Nat):List UInt8:=List.replicate (5-(Lib.itoa (n:Int)).length) 48++Lib.itoa (n:Int)
theorem zy3 {n:Nat} (h:n<65536):(z71 n).length=5:=by
 have:=zfl h
 unfold z71
 rw [List.length_append,List.length_replicate]; omega
theorem zom {k:Nat}:∀ (d n:Nat) (s:List UInt8),5-s.length=d→d<n→zal k n s (fun s=>some s)=some (List.replicate d 48++s)
 | d,0,s,_,h=>by omega
 | 0,n+1,s,hd,_=>by
  have:¬ ((s.length:Int)<5):=by omega
  simp only [zal,this,decide_false,Bool.false_eq_true,if_false,List.replicate_zero,List.nil_append]
 | d+1,n+1,s,hd,hn=>by
  have hlt:(s.length:Int)<5:=by omega
  have hl:[(48:UInt8)].length+s.length≤9223372036854775807:=by simp; omega
  have ih:=zom (k:=k) d n (48::s) (by simp; omega) (by omega)
  simp only [zal,hlt,decide_true,if_true,List.singleton_append,ih]
  rw [if_pos (by simp; omega),List.replicate_succ',List.append_assoc]; rfl
theorem zy4 {k:Nat} (hk:KK≤k) {n:Nat} (h:n<65536):zev k (n:Int)=some (z71 n):=by
 have hK:=z2r
 unfold zev
 rw [zy0 hk (by omega) (by omega)]
 simp only [Option.bind_some]
 exact zom _ k _ rfl (by omega)
theorem zon {n:Nat} (h:n<65536):strings_Repeat [48] (z7 (5-((Lib.itoa (n:Int)).length:Int)))=some (List.replicate (5-(Lib.itoa (n:Int)).length) 48):=by
 have:=zfl h
 have e:z7 (5-((Lib.itoa (n:Int)).length:Int))=((5-(Lib.itoa (n:Int)).length:Nat):Int):=by rw [z14 (by omega) (by omega)]; omega
 rw [e]
 exact zy1 48 (by omega)
def z5p (y:Int):Bool:=decide (97≤y)&&decide (y≤122)
def zcl (y:Int):Bool:=decide (48≤y)&&decide (y≤57)
def z66 (y:Int):Bool:=z5p y||zcl y
def z3w (s:List UInt8):Bool:=match s with | []=>false | a::l=>decide ((a::l).length≤10)&&(z5p (z_u8 a)&&(a::l).all fun b=>z66 (z_u8 b))
theorem zoo (y:Int):zc8 y=some (z5p y):=by
 unfold zc8 z5p
 by_cases h:97≤y <;> simp [h]
theorem zy5 (y:Int):z8w y=some (zcl y):=by
 unfold z8w zcl
 by_cases h:48≤y <;> simp [h]
theorem zop (a:UInt8) (l:List UInt8):z3w (a::l)=(decide ((a::l).length≤10)&&(z5p (z_u8 a)&&(a::l).all fun b=>z66 (z_u8 b))):=rfl
theorem zy6 {k:Nat} (hk:KK≤k) {s:List UInt8} (hs:s.length≤1000000000000):z7x k k s 0 (some true)=if s.all (fun b=>z66 (z_u8 b))=true then some true else some false:=by
 have hK:=z2r
 refine zhp (L:=fun n i=>z7x k n s i (some true)) s ?_ ?_ (n:=k) (by omega)
 ·intro n i x hx hlt
  have hw:=z2s (i:=i) (by omega)
  simp only [z7x,hlt,decide_true,if_true,Int.natCast_nonneg,Int.toNat_natCast,hx,Option.bind_some,zoo,zy5,hw,z66]
  by_cases h1:z5p (z_u8 x)=true <;> by_cases h2:zcl (z_u8 x)=true <;> simp [h1,h2]
 ·intro n
  simp [z7x]
theorem zoq {k:Nat} (hk:KK≤k) {s:List UInt8} (hs:s.length≤1000000000000):z90 k s=some (z3w s):=by
 unfold z90
 cases s with
 | nil=>simp [z3w]
 | cons a l =>
  rw [zy6 hk hs,zop,decide_eq_false (show ¬ (a::l=[]) by simp),if_neg (by simp)]
  by_cases h:(a::l).length≤10
  ·rw [decide_eq_false (show ¬ (10<((a::l).length:Int)) by omega),if_neg (by simp),decide_eq_true h]
   simp only [List.getElem?_cons_zero,Option.bind_some,zoo,Bool.true_and]
   cases z5p (z_u8 a)
   ·simp
   ·cases (a::l).all (fun b=>z66 (z_u8 b)) <;> simp
  ·rw [decide_eq_true (show (10<((a::l).length:Int)) by omega),if_pos rfl,decide_eq_false h]
   rfl
theorem zy7 {k:Nat} (hk:KK≤k) (q:List Int) (hq:q.length≤1000000000000):z65 k k (q.length:Int) 0 q (some true)=some (q.all z66&&z5p (q.headD 97)):=by
 have hK:=z2r
 have:=z8u (A:=Unit) (L:=fun n i _=>z65 k n (q.length:Int) i q (some true)) (I:=fun _ _=>True) (G:=fun post _=>some (post.all z66&&(decide (post.length≠q.length)||z5p (post.headD 97)))) q ?_ ?_ k (by omega) () trivial
 ·refine Eq.trans this ?_
  simp
 ·intro n pre x post _ hx _ ih hg hlt
  have hw:=z2s (i:=pre.length) (by omega)
  have hlt':pre.length<q.length:=by omega
  have ih:=ih () trivial
  have hne:decide (post.length≠q.length)=true:=by rw [hx]; simp <;> omega
  simp only [hne,Bool.true_or,Bool.and_true] at ih
  simp only [z65,hlt,hlt',decide_true,if_true,Int.natCast_nonneg,Int.toNat_natCast,hg,Option.bind_some,hw,ih,and_self]
  have h0:decide ((x::post).length≠q.length)=decide (pre.length≠0):=decide_eq_decide.2 (by rw [hx]; simp <;> omega)
  rw [h0]
  simp only [List.all_cons,List.headD_cons,z66,z5p,zcl]
  have h1:decide ((pre.length:Int)=0)=decide (pre.length=0):=decide_eq_decide.2 (by omega)
  rw [h1]
  by_cases g1:97≤x <;> by_cases g2:x≤122 <;> by_cases g3:48≤x <;> by_cases g4:x≤57 <;> by_cases g0:pre.length=0 <;> first | omega | simp [g0,g1,g2,g3,g4]
 ·intro n _ _
  simp [z65,z5p]
theorem zor {k:Nat} (hk:KK≤k) {s:List UInt8} (hs:s.length≤1000000000000):zcc k s=some (z3w s):=by
 have hK:=z2r
 have hL:=z64
 unfold zcc
 have hl:(z3v s).length=s.length:=by simp [z3v]
 rw [zy7 hk (z3v s) (by omega),if_pos (show s.length≤LIM by omega)]
 cases s with
 | nil=>simp [z3w]
 | cons a l =>
  rw [decide_eq_false (show ¬ (((a::l).length:Int)<1) by simp only [List.length_cons]; omega),if_neg (by simp)]
  rw [zop]
  by_cases h:(a::l).length≤10
  ·rw [decide_eq_false (show ¬ (10<((a::l).length:Int)) by omega),if_neg (by simp),decide_eq_true h,Bool.true_and]
   have e:(z3v (a::l)).all z66=(a::l).all fun b=>z66 (z_u8 b):=by simp [z3v,z_u8,List.all_map,Function.comp_def]
   rw [e,Bool.and_comm]; rfl
  ·rw [decide_eq_true (show (10<((a::l).length:Int)) by omega),if_pos rfl,decide_eq_false h]; rfl
abbrev Blk:=List UInt8×List UInt8×List UInt8
theorem zy8 {k:Nat} (hk:KK≤k) {a b:List Blk} (ha:a.length<4611686018427387904):zcg k a b=some (decide (a=b)):=by
 unfold zcg
 by_cases hl:a.length=b.length
 ·rw [if_neg (by simp [hl])]
  refine zus (L:=fun n i=>zas k n a b i (some true)) a b hl ?_ ?_ (n:=k) (by have:=z2r; omega)
  ·intro n i x y hx hy hlt
   have hw:=z2s (i:=i) (by omega)
   obtain ⟨x1,x2,x3⟩:=x
   obtain ⟨y1,y2,y3⟩:=y
   simp only [zas,zhx,hlt,decide_true,if_true,Int.natCast_nonneg,Int.toNat_natCast,hx,hy,Option.bind_some,hw,Prod.mk.injEq]
   by_cases e1:x1=y1 <;> by_cases e2:x2=y2 <;> by_cases e3:x3=y3 <;> simp [e1,e2,e3]
  ·intro n
   simp [zas]
 ·have h2:a≠b:=fun e=>hl (by rw [e])
  have h3:¬ (a.length:Int)=b.length:=by omega
  simp [h3,h2]
def z82 (x:Blk):Prop:=x.1.length≤1048576∧x.2.1.length≤1048576∧x.2.2.length≤1048576
def z67 (b:Blk):Bool:=z3w b.1&&(z3w b.2.1&&(decide (b.2.2.length≤400)&&!b.2.2.any fun c=>c==10))
theorem zy9 {k:Nat} (hk:KK≤k) {b:Blk} (hb:z82 b):zew k b=some (z67 b):=by
 have hK:=z2r
 obtain ⟨h1,h2,h3⟩:=hb
 unfold zew
 have:=zhp (L:=fun n i=>zam k n b i (fun b_2=>(z90 k b_2.1).bind fun r_3=>(if r_3=true then (z90 k b_2.2.1).bind fun r_4=>(if r_4=true then some (decide ((List.length b_2.2.2:Int)≤400)) else some false) else some false)))
  (p:=fun c=>!(c==10)) (r:=some false) (e:=some (z3w b.1&&(z3w b.2.1&&decide (b.2.2.length≤400)))) b.2.2 ?_ ?_ (n:=k) (by omega)
 ·refine Eq.trans this ?_
  unfold z67
  have e:(b.2.2.all fun c=>!(c==10))=!b.2.2.any fun c=>c==10:=by rw [List.not_any_eq_all_not]
  rw [e]
  cases (b.2.2.any fun c=>c==10) <;> cases z3w b.1 <;> cases z3w b.2.1 <;> simp
 ·intro n i x hx hlt
  have hw:=z2s (i:=i) (by omega)
  simp only [zam,hlt,decide_true,if_true,Int.natCast_nonneg,Int.toNat_natCast,hx,Option.bind_some,hw]
  by_cases h:x=10
  ·subst h; rw [decide_eq_true (show z_u8 10=10 from rfl),if_pos rfl]; simp
  ·have h':¬ z_u8 x=10:=fun e=>h (by have e:(x.toNat:Int)=10:=e; apply UInt8.toNat.inj; show x.toNat=10; omega)
   rw [decide_eq_false h',if_neg (by simp),if_pos (by simpa using h)]
 ·intro n
  have e2:decide ((b.2.2.length:Int)≤400)=decide (b.2.2.length≤400):=decide_eq_decide.2 (by omega)
  simp only [zam,Int.lt_irrefl,decide_false,Bool.false_eq_true,if_false,zoq hk (show b.1.length≤1000000000000 by omega),zoq hk (show b.2.1.length≤1000000000000 by omega),Option.bind_some,e2]
  cases z3w b.1 <;> cases z3w b.2.1 <;> simp
theorem zik {k:Nat} (hk:KK≤k) {b:Blk} (hb:z82 b):zf9 k b=some (z67 b):=by
 obtain ⟨h1,h2,h3⟩:=hb
 unfold zf9 z67
 rw [zor hk (show b.1.length≤1000000000000 by omega),zor hk (show b.2.1.length≤1000000000000 by omega),zxk]
 have e2:decide ((b.2.2.length:Int)≤400)=decide (b.2.2.length≤400):=decide_eq_decide.2 (by omega)
 rw [e2]
 cases z3w b.1 <;> cases z3w b.2.1 <;> cases decide (b.2.2.length≤400) <;> simp
def zil (r:List UInt8):Blk×Int:=match z2j 32 r with
 | none=>(([],[],[]),9)
 | some (kind,r2)=>match z2j 32 r2 with
  | none=>(([],[],[]),9)
  | some (name,text)=>if z67 (kind,name,text)=true then ((kind,name,text),0) else (([],[],[]),9)
def z4m (line:List UInt8):Blk×Int :=
 if line.length<6 then (([],[],[]),9) else
 if line[5]?≠some 32 then (([],[],[]),9) else
 if line.take 5≠z71 (z23 (line.drop 6) 65535) then (([],[],[]),10) else zil (line.drop 6)
theorem zim {c:UInt8} {R:Type} {L:Nat→Int→R} {s:List UInt8} {E:Int→R} (h1:∀ n (i:Nat) x,s[i]?=some x→(i:Int)<s.length→L (n+1) (i:Int)=if x=c then E (i:Int) else L n ((i+1:Nat):Int)) (h2:∀ n (i:Nat),s.length≤i→L (n+1) (i:Int)=E (i:Int)) :
  ∀ (d n j:Nat),s.length-j=d→d<n→L n (j:Int)=E ((j+(s.drop j).findIdx (·==c):Nat):Int)
 | d,0,j,_,h=>by omega
 | 0,n+1,j,hd,_=>by
  rw [h2 n j (by omega),List.drop_of_length_le (by omega)]; rfl
 | d+1,n+1,j,hd,hn=>by
  have hj:j<s.length:=by omega
  have hdr:s.drop j=s[j]::s.drop (j+1):=(List.drop_eq_getElem_cons hj)
  rw [h1 n j s[j] (List.getElem?_eq_getElem hj) (by omega),hdr,List.findIdx_cons]
  by_cases h:s[j]=c
  ·rw [if_pos h]; simp [h]
  ·have hb:(s[j]==c)=false:=by simpa using h
   rw [if_neg h,zim h1 h2 d n (j+1) (by omega) (by omega),hb]
   simp only [cond_false]
   congr 2
   omega
theorem zos {c:UInt8} {l:List UInt8} (h:c∉l):l.findIdx (·==c)=l.length:=by
 rw [List.findIdx_eq_length]
 intro x hx
 have:x≠c:=fun e=>h (e▸hx)
 simpa using this
theorem zin {c:UInt8}:∀ {pre post:List UInt8},c∉pre→(pre++c::post).findIdx (·==c)=pre.length
 | [],post,_=>by simp [List.findIdx_cons]
 | x::pre,post,h=>by
  have h1:(x==c)=false:=by
   have:x≠c:=fun e=>h (by simp [e])
   simpa using this
  rw [List.cons_append,List.findIdx_cons,h1,zin (fun e=>h (by simp [e]))]
  rfl
theorem zot {line:List UInt8} (h:¬ line.length<6):line[5]?=some (line[5]'(by omega)):=List.getElem?_eq_getElem (by omega)
theorem zfm (x:UInt8):(z_u8 x=32)=(x=32):=by
 have:=zfh x 32
 have e:z_u8 32=32:=rfl
 rw [e] at this
 exact propext ⟨fun h=>by simpa [h] using this.symm,fun h=>by simpa [h] using this⟩
theorem zou {r a b c:List UInt8} (hr:r.length≤1048576) (h:r=a++32::(b++32::c)):z82 (a,b,c):=by
 have:r.length=a.length+(b.length+(c.length+1)+1):=by rw [h]; simp
 exact ⟨by show a.length≤_; omega,by show b.length≤_; omega,by show c.length≤_; omega⟩
theorem zya {k:Nat} (hk:KK≤k) {line:List UInt8} (hl:line.length≤1048576):zex k line=some (z4m line):=by
 have hK:=z2r
 unfold zex z4m
 by_cases h6:line.length<6
 ·rw [decide_eq_true (by omega),if_pos rfl,if_pos h6]
 rw [decide_eq_false (by omega),if_neg (by simp),if_neg h6,zot h6]
 simp only [Option.bind_some,zfm]
 by_cases h5:line[5]'(by omega)=32
 case neg=>simp [h5]
 rw [h5]
 have b1:(6:Int)≤(line.length:Int):=by omega
 have b2:(5:Int)≤(line.length:Int):=by omega
 have hdr:(line.drop 6).take (line.length-6)=line.drop 6:=List.take_of_length_le (by rw [List.length_drop]; exact Nat.le_refl _)
 have hcr:=zxz hk (t:=line.drop 6) (s:=65535) (by rw [List.length_drop]; omega) (by omega)
 have hlt:=z9a (line.drop 6) (s:=65535) (by omega)
 have hlr:(line.drop 6).length≤1048576:=by rw [List.length_drop]; omega
 have n65:((65535:Nat):Int)=65535:=rfl
 rw [n65] at hcr
 simp only [decide_true,Bool.not_true,Bool.false_eq_true,if_false,b1,b2,Int.le_refl,and_self,if_true,hdr,hcr,Option.bind_some,zy4 hk hlt,ne_eq,not_true_eq_false,show (0:Int)≤6 by omega,show (0:Int)≤5 by omega]
 by_cases hs:line.take 5=z71 (z23 (line.drop 6) 65535)
 case neg=>simp [hs]
 simp only [hs,decide_true,Bool.not_true,Bool.false_eq_true,if_false,not_true_eq_false]
 generalize line.drop 6=r at hlr
 clear hcr hlt hs hdr b1 b2 n65
 have s0:=fun E v=>zim (c:=32) (s:=r) (L:=fun n i=>zan k n r i v E) (E:=fun i=>E r i v) (fun n i x hx hlt=>by
  have hw:=z2s (i:=i) (by omega)
  simp only [zan,hlt,decide_true,if_true,Int.natCast_nonneg,Int.toNat_natCast,hx,Option.bind_some,zfm,hw]
  by_cases e:x=32 <;> simp [e]) (fun n i hi=>by
  have:¬ (i:Int)<(r.length:Int):=by omega
  simp only [zan,this,decide_false,Bool.false_eq_true,if_false]) r.length k 0 (by omega) (by omega)
 have s1:=fun E v i j=>zim (c:=32) (s:=r) (L:=fun n k6=>zao k n r i k6 v E) (E:=fun k6=>E r i k6 v) (fun n i x hx hlt=>by
  have hw:=z2s (i:=i) (by omega)
  simp only [zao,hlt,decide_true,if_true,Int.natCast_nonneg,Int.toNat_natCast,hx,Option.bind_some,zfm,hw]
  by_cases e:x=32 <;> simp [e]) (fun n i hi=>by
  have:¬ (i:Int)<(r.length:Int):=by omega
  simp only [zao,this,decide_false,Bool.false_eq_true,if_false]) (r.length-j) k j rfl (by omega)
 have h0:((0:Nat):Int)=0:=rfl
 rw [h0] at s0
 rw [s0]
 simp only [Nat.zero_add,List.drop_zero]
 have hfl:r.findIdx (·==32)≤r.length:=List.findIdx_le_length
 rw [z2s (by omega),s1]
 unfold zil
 cases hc:z2j 32 r with
 | none =>
  have hn:=zos (zfj.1 hc)
  rw [hn,List.drop_of_length_le (by omega)]
  simp only [List.findIdx_nil,Nat.add_zero]
  exact if_pos (decide_eq_true (by omega))
 | some p =>
  obtain ⟨kind,r2⟩:=p
  obtain ⟨e1,e2⟩:=z99.1 hc
  have hf:r.findIdx (·==32)=kind.length:=by rw [e1]; exact zin e2
  have hd2:r.drop (kind.length+1)=r2:=by rw [e1]; simp
  have hl2:r.length=kind.length+(r2.length+1):=by rw [e1]; simp
  rw [hf,hd2]
  cases hc2:z2j 32 r2 with
  | none =>
   have hn:=zos (zfj.1 hc2)
   rw [hn]
   refine Eq.trans (if_pos (decide_eq_true (by omega))) ?_
   simp only [hc2]
  | some q =>
   obtain ⟨name,text⟩:=q
   obtain ⟨e3,e4⟩:=z99.1 hc2
   have hf2:r2.findIdx (·==32)=name.length:=by rw [e3]; exact zin e4
   have hl3:r2.length=name.length+(text.length+1):=by rw [e3]; simp
   have w1:=z2s (i:=kind.length) (by omega)
   have w2:=z2s (i:=kind.length+1+name.length) (by omega)
   have hnle:¬ (r.length:Int)≤((kind.length+1+name.length:Nat):Int):=by omega
   rw [hf2,if_neg (by rw [decide_eq_false hnle]; simp),w1,w2]
   have c1:(kind.length:Int)≤(r.length:Int):=by omega
   have c2:((kind.length+1:Nat):Int)≤((kind.length+1+name.length:Nat):Int):=by omega
   have c3:((kind.length+1+name.length:Nat):Int)≤(r.length:Int):=by omega
   have c4:((kind.length+1+name.length+1:Nat):Int)≤(r.length:Int):=by omega
   have t1:r.take kind.length=kind:=by rw [e1]; simp
   have t2:(r.drop (kind.length+1)).take (kind.length+1+name.length-(kind.length+1))=name:=by
    rw [hd2,e3,show kind.length+1+name.length-(kind.length+1)=name.length by omega]; simp
   have t3:(r.drop (kind.length+1+name.length+1)).take (r.length-(kind.length+1+name.length+1))=text:=by
    rw [List.take_of_length_le (by rw [List.length_drop]; exact Nat.le_refl _),show kind.length+1+name.length+1=(kind.length+1)+(name.length+1) by omega,← List.drop_drop,hd2,e3]; simp
   have hsm:z82 (kind,name,text):=zou hlr (by rw [e1,e3])
   simp only [Int.natCast_nonneg,Int.toNat_natCast,c1,c2,c3,c4,Int.le_refl,and_self,if_true,t1,t2,t3,zy9 hk hsm,Option.bind_some,hc2]
   cases z67 (kind,name,text) <;> simp
def zax (b:Blk):List UInt8:=z71 (z23 (b.1++[32]++b.2.1++[32]++b.2.2) 65535)++[32]++(b.1++[32]++b.2.1++[32]++b.2.2)
theorem zov {k:Nat} (hk:KK≤k) {b:Blk} (hb:z82 b):zfa k b=some (zax b):=by
 obtain ⟨h1,h2,h3⟩:=hb
 unfold zfa
 rw [if_pos (by simp; omega),if_pos (by simp; omega),if_pos (by simp; omega),if_pos (by simp; omega)]
 have hlr:(b.1++[32]++b.2.1++[32]++b.2.2).length≤10000000:=by simp; omega
 unfold zax
 generalize b.1++[32]++b.2.1++[32]++b.2.2=r at hlr ⊢
 have hcr:=zoi hk (t:=r) (s:=65535) (by omega) (by omega)
 have hlt:=z9a r (s:=65535) (by omega)
 have n65:((65535:Nat):Int)=65535:=rfl
 rw [n65] at hcr
 have h5:=zfl hlt
 rw [hcr]
 simp only [Option.bind_some,zci (n:=((z23 r 65535:Nat):Int)) (by omega) (by omega),zon hlt]
 rw [if_pos (by simp; omega),if_pos (by simp; omega),if_pos (by simp; omega)]
 rfl
theorem zyb {a l r:List UInt8} (h6:¬ l.length<6) (h5:l[5]?=some 32) (ht:l.take 5=a):a++[32]++r=l↔r=l.drop 6:=by
 have e:l=l.take 5++[32]++l.drop 6:=by
  have h7:l.take 6=l.take 5++[32]:=by
   rw [List.take_succ_eq_append_getElem (by omega)]
   obtain ⟨_,e⟩:=List.getElem?_eq_some_iff.1 h5
   rw [e]
  rw [← h7,List.take_append_drop]
 rw [ht] at e
 constructor
 ·intro h
  rw [e] at h
  exact List.append_cancel_left h
 ·intro h
  rw [h]; exact e.symm
theorem zyc {k:Nat} (hk:KK≤k) {line:List UInt8} (hl:line.length≤1048576):zfb k line=some (z4m line):=by
 have hK:=z2r
 unfold zfb z4m
 by_cases h6:line.length<6
 ·rw [decide_eq_true (by omega),if_pos rfl,if_pos h6]
 rw [decide_eq_false (by omega),if_neg (by simp),if_neg h6]
 have h5s:=zot h6
 rw [h5s]
 simp only [Option.bind_some,zfm]
 by_cases h5:line[5]'(by omega)=32
 case neg=>simp [h5]
 rw [h5] at h5s ⊢
 have b1:(6:Int)≤(line.length:Int):=by omega
 have b2:(5:Int)≤(line.length:Int):=by omega
 have hdr:(line.drop 6).take (line.length-6)=line.drop 6:=List.take_of_length_le (by rw [List.length_drop]; exact Nat.le_refl _)
 have hcr:=zoi hk (t:=line.drop 6) (s:=65535) (by rw [List.length_drop]; omega) (by omega)
 have hlt:=z9a (line.drop 6) (s:=65535) (by omega)
 have hlr:(line.drop 6).length≤1048576:=by rw [List.length_drop]; omega
 have n65:((65535:Nat):Int)=65535:=rfl
 have h5':=zfl hlt
 rw [n65] at hcr
 have hfive:List.replicate (5-(Lib.itoa ((z23 (line.drop 6) 65535:Nat):Int)).length) 48++Lib.itoa ((z23 (line.drop 6) 65535:Nat):Int)=z71 (z23 (line.drop 6) 65535):=rfl
 have hll:(List.replicate (5-(Lib.itoa ((z23 (line.drop 6) 65535:Nat):Int)).length) (48:UInt8)).length+(Lib.itoa ((z23 (line.drop 6) 65535:Nat):Int)).length≤9223372036854775807:=by simp; omega
 have hr2:∀ p:List UInt8×List UInt8,z2j 32 (line.drop 6)=some p→p.2.length≤1000000000:=fun p hp=>by
  obtain ⟨e1,_⟩:=z99.1 (show z2j 32 (line.drop 6)=some (p.1,p.2) from hp)
  have:=congrArg List.length e1
  simp at this; omega
 have hmid:∀ z:List UInt8×List UInt8×Bool,z=(match z2j 32 (line.drop 6) with | some p=>(p.1,p.2,true) | none=>(line.drop 6,[],false))→z.2.1.length≤1000000000:=fun z hz=>by
  cases hc:z2j 32 (line.drop 6) with
  | none=>rw [hc] at hz; rw [hz]; simp
  | some p=>rw [hc] at hz; rw [hz]; exact hr2 p hc
 simp only [decide_true,Bool.not_true,Bool.false_eq_true,if_false,b1,b2,Int.le_refl,and_self,if_true,hdr,zo9 (s:=line.drop 6) (by omega) 32,Option.bind_some,zo9 (hmid _ rfl) 32,hcr,zci (n:=((z23 (line.drop 6) 65535:Nat):Int)) (by omega) (by omega),zon hlt,hll,hfive,ne_eq,not_true_eq_false,show (0:Int)≤6 by omega,show (0:Int)≤5 by omega]
 by_cases hs:line.take 5=z71 (z23 (line.drop 6) 65535)
 case neg=>simp [hs]
 simp only [hs,decide_true,Bool.not_true,Bool.false_eq_true,if_false,not_true_eq_false]
 unfold zil
 cases hc:z2j 32 (line.drop 6) with
 | none =>
  have hsm:z82 (line.drop 6,[],[]):=⟨hlr,by simp,by simp⟩
  have e1:z2j 32 []=none:=rfl
  have e2:z67 (line.drop 6,[],[])=false:=by unfold z67; simp [z3w]
  simp only [e1,zik hk hsm,e2,Option.bind_some,Bool.not_false,if_true]
 | some p =>
  obtain ⟨kind,r2⟩:=p
  obtain ⟨e1,e2⟩:=z99.1 hc
  have hl2:(line.drop 6).length=kind.length+(r2.length+1):=by rw [e1]; simp
  simp only []
  cases hc2:z2j 32 r2 with
  | none =>
   have hsm:z82 (kind,r2,[]):=⟨by show kind.length≤_; omega,by show r2.length≤_; omega,by simp⟩
   simp only [zik hk hsm,Option.bind_some]
   cases z67 (kind,r2,[]) with
   | false=>simp
   | true =>
    simp only [Bool.not_true,Bool.false_eq_true,if_false,zov hk hsm,Option.bind_some]
    have hne:¬ zax (kind,r2,[])=line:=fun h=>by
     have:=congrArg List.length h
     have hf:=zy3 (z9a (kind++[32]++r2++[32]++[]) (s:=65535) (by omega))
     unfold zax at this
     simp only [List.length_append,hf,List.length_singleton,List.length_nil] at this
     rw [List.length_drop] at hl2
     omega
    rw [decide_eq_false hne]; rfl
  | some q =>
   obtain ⟨name,text⟩:=q
   obtain ⟨e3,e4⟩:=z99.1 hc2
   have er:line.drop 6=kind++[32]++name++[32]++text:=by rw [e1,e3]; simp
   have hsm:z82 (kind,name,text):=zou hlr (by rw [e1,e3])
   simp only [zik hk hsm,Option.bind_some]
   cases z67 (kind,name,text) with
   | false=>simp
   | true =>
    simp only [Bool.not_true,Bool.false_eq_true,if_false,zov hk hsm,Option.bind_some,if_true]
    have:zax (kind,name,text)=line:=by
     unfold zax
     show z71 (z23 (kind++[32]++name++[32]++text) 65535)++[32]++(kind++[32]++name++[32]++text)=line
     rw [← er]
     exact (zyb h6 h5s hs).2 rfl
    rw [decide_eq_true this]; rfl
def z47 (s:List UInt8):List (List UInt8)×List UInt8:=((zz 10 s).take ((zz 10 s).length-1),(zz 10 s).getLastD [])
theorem zyd {c:UInt8} (s:List UInt8):(zz c s)[(zz c s).length-1]?=some ((zz c s).getLastD []):=by
 have h:=zcj c s []
 have hne:zz c s≠[]:=fun e=>by unfold zz at e; rw [e] at h; simp at h
 rw [← List.getLast?_eq_getElem?,List.getLast?_eq_some_getLast hne,List.getLastD_eq_getLast?,List.getLast?_eq_some_getLast hne]
 rfl
theorem zow {s:List UInt8}:(z47 s).1.length≤s.length:=by
 have:=znv 10 s []
 unfold z47 zz
 rw [List.length_take]; omega
theorem zox {s:List UInt8}:∀ x∈(z47 s).1,x.length≤s.length:=fun x hx=>by
 have:=zi0 10 s [] x (List.mem_of_mem_take hx)
 simpa using this
theorem zye {k:Nat} (hk:KK≤k) {s:List UInt8} (hs:s.length≤100000000):zep k s=some ((z47 s).1,decide ((z47 s).2=[])):=by
 have hp:=zcj 10 s []
 have hl:=znv 10 s []
 have hlast:=zyd (c:=10) s
 have e10:z_u8 10=10:=rfl
 have hsp:=znw hk (show s.length≤1000000000 by omega) 10
 rw [e10] at hsp
 unfold zep z47
 rw [hsp]
 have hp':0<(zz 10 s).length:=hp
 have hl':(zz 10 s).length≤s.length+1:=hl
 have w1:z7 (((zz 10 s).length:Int)-1)=(((zz 10 s).length-1:Nat):Int):=by rw [z14 (by omega) (by omega)]; omega
 have b1:(((zz 10 s).length-1:Nat):Int)≤((zz 10 s).length:Int):=by omega
 have b2:(zz 10 s).length-1<(zz 10 s).length:=by omega
 simp only [Option.bind_some,w1,Int.natCast_nonneg,Int.le_refl,b1,b2,and_self,if_true,Int.toNat_natCast,hlast]
theorem zyf {k:Nat} (hk:KK≤k) (a b:Int):zhw k [a,b]=some (if a=0 then b else a):=by
 have hK:=z2r
 obtain ⟨m,rfl⟩:∃ m,k=m+3:=⟨k-3,by omega⟩
 generalize hf:m+3=k
 have hw0:z7 1=1:=z14 (by omega) (by omega)
 have hw1:z7 2=2:=z14 (by omega) (by omega)
 show z96 k k 0 [a,b] 2 0 (fun zero_2=>some zero_2)=_
 conv=>lhs; arg 2; rw [← hf]
 by_cases h:a=0
 ·by_cases h':b=0
  ·subst h; subst h'; simp [z96,hw0,hw1]
  ·subst h; simp [z96,hw0,hw1,h']
 ·simp [z96,h]
def z3h (a b:Blk):Bool:=Op.bytesLess a.1 b.1||(decide (a.1=b.1)&&Op.bytesLess a.2.1 b.2.1)
def zfn (a b:Blk):Int:=if zav a.1 b.1=0 then zav a.2.1 b.2.1 else zav a.1 b.1
theorem zyg (a b:Blk):zey a b=some (z3h a b):=by
 unfold zey z3h
 cases Op.bytesLess a.1 b.1
 ·by_cases h:a.1=b.1 <;> simp [h]
 ·simp
theorem zyh {k:Nat} (hk:KK≤k) (a b:Blk):zfd k a b=some (zfn a b):=by
 unfold zfd zfn
 simp only [zxl,Option.bind_some,zyf hk]
theorem zyi (a b:Blk):decide (0≤zfn a b)=!z3h a b:=by
 unfold zfn zav z3h
 cases Op.bytesLess a.1 b.1
 ·by_cases h:a.1=b.1
  ·cases Op.bytesLess a.2.1 b.2.1
   ·by_cases h':a.2.1=b.2.1 <;> simp [h,h']
   ·simp [h]
  ·simp [h]
 ·simp
theorem zyj {v:Int}:(32:UInt8)∉Lib.itoa v∧(47:UInt8)∉Lib.itoa v:=by
 have key:∀ (u:Nat) (c:UInt8),digC c=false→c∉Lib.decDigits u:=fun u c hc hm=>by
  have:=List.all_eq_true.1 (z98 (zi5 u).1) c hm
  rw [hc] at this; cases this
 unfold Lib.itoa
 split
 ·exact ⟨fun h=>(List.mem_cons.1 h).elim (fun e=>by cases e) (key _ 32 (by decide)),fun h=>(List.mem_cons.1 h).elim (fun e=>by cases e) (key _ 47 (by decide))⟩
 ·exact ⟨key _ 32 (by decide),key _ 47 (by decide)⟩
def arch:List UInt8:=[97,114,99,104,105,118,101]
def z73 (l:List UInt8):Option Int:=if l.take 8=arch++[32] then (match z1k (l.drop 8) with | some v=>if 0≤v∧v≤32 then some v else none | none=>none) else none
def zcm (q:List Blk) (b:Blk):Bool:=match q.getLast? with | some z=>z3h z b | none=>true
def z5q (n:Int):List (List UInt8)→List Blk→Nat→List Blk×Int×Int
 | [],q,i=>if (q.length:Int)=n then (q,0,0) else ([],0,11)
 | x::W,q,i=>if (z4m x).2≠0 then ([],((i+1:Nat):Int),(z4m x).2) else if zcm q (z4m x).1=true then z5q n W (q++[(z4m x).1]) (i+1) else ([],((i+1:Nat):Int),7)
def z5c (s:List UInt8):List Blk×Int×Int :=
 if (z47 s).2≠[] then ([],0,11) else match (z47 s).1 with
  | []=>([],0,11)
  | l::W=>match z73 l with
   | none=>([],1,9)
   | some n=>z5q n W [] 1
theorem zoy (n:Int) (hn:n≤32):∀ (W:List (List UInt8)) (q:List Blk) (i:Nat),(z5q n W q i).1.length≤32
 | [],q,i=>by
  unfold z5q
  split
  ·rename_i h; show q.length≤32; omega
  ·simp
 | x::W,q,i=>by
  unfold z5q
  split
  ·simp
  ·split
   ·exact zoy n hn W _ _
   ·simp
theorem zyk (s:List UInt8):(z5c s).1.length≤32:=by
 unfold z5c
 split
 ·simp
 ·split
  ·simp
  ·rename_i l W _
   split
   ·simp
   ·rename_i n hn
    unfold z73 at hn
    split at hn
    ·split at hn
     ·split at hn
      ·rename_i h; cases hn; exact zoy _ h.2 W [] 1
      ·cases hn
     ·cases hn
    ·cases hn
theorem zio {l:List UInt8} (h:l.take 8=arch++[32]):l=arch++32::l.drop 8:=by
 conv=>lhs; rw [← List.take_append_drop 8 l,h]
 simp
theorem zyl {r:List UInt8} {v:Int} (h:z1k r=some v):(32:UInt8)∉r:=by
 have:=(zck.1 h).1
 rw [← this]
 exact zyj.1
theorem zym {k:Nat} (hk:KK≤k) {l:List UInt8} (hl:l.length≤1048576):∃ n b,zes k l=some (n,b)∧z73 l=if b=true then some n else none:=by
 have e32:(32:Int)=z_u8 32:=rfl
 have hsp:=znw hk (s:=l) (by omega) 32
 rw [← e32] at hsp
 unfold zes
 rw [hsp]
 simp only [Option.bind_some]
 have arch_no:(32:UInt8)∉arch:=by decide
 by_cases h2:((zz 32 l).length:Int)=2
 ·obtain ⟨a,b,hab⟩:∃ a b,zz 32 l=[a,b]:=by
   match hq:zz 32 l,h2 with
   | [a,b],_=>exact ⟨a,b,rfl⟩
   | [],h=>simp at h
   | [_],h=>simp at h
   | _::_::_::_,h=>simp at h; omega
  have hl2:l=a++32::b:=by
   have:=zxu 32 l
   rw [hab,Lib.join_cons] at this
   rw [← this]; simp [Lib.joinTail]
  rw [hab]
  have b0:(0:Int)≤0∧0<[a,b].length:=⟨by omega,by simp⟩
  have b1:(0:Int)≤1∧1<[a,b].length:=⟨by omega,by simp⟩
  have g0:[a,b][0]?=some a:=rfl
  have g1:[a,b][1]?=some b:=rfl
  have hlen:([a,b].length:Int)=2:=rfl
  have hbl:b.length≤1048576:=by rw [hl2] at hl; simp at hl; omega
  simp only [hlen,decide_true,Bool.not_true,Bool.false_eq_true,if_false,b0,b1,and_self,if_true,g0,g1,Option.bind_some]
  by_cases ha:a=arch
  ·subst ha
   have e:(arch=[97,114,99,104,105,118,101])=True:=by simp [arch]
   have ht:l.take 8=arch++[32]:=by rw [hl2]; rfl
   have hd:l.drop 8=b:=by rw [hl2]; rfl
   simp only [e,decide_true,Bool.not_true,Bool.false_eq_true,if_false,zxt hk hbl,Option.bind_some,zxy]
   unfold z73
   rw [if_pos ht,hd]
   unfold z2i
   cases hn:z1k b with
   | none=>exact ⟨0,false,rfl,rfl⟩
   | some v =>
    refine ⟨v,decide (0≤v∧v≤32),rfl,?_⟩
    by_cases h:0≤v∧v≤32 <;> simp [h]
  ·have e:(a=[97,114,99,104,105,118,101])=False:=by simpa [arch] using ha
   simp only [e,decide_false,Bool.not_false,if_true]
   refine ⟨0,false,rfl,?_⟩
   unfold z73
   rw [if_neg,if_neg (by simp)]
   intro ht
   have h3:=zio ht
   have h4:zz 32 l=arch::zz 32 (l.drop 8):=by
    conv=>lhs; rw [h3]
    unfold zz
    rw [zfg arch [] _ arch_no]; rfl
   rw [hab] at h4
   exact ha (List.cons.inj h4).1
 ·simp only [h2,decide_false,Bool.not_false,if_true]
  refine ⟨0,false,rfl,?_⟩
  unfold z73
  rw [if_neg (show ¬ (false=true) by simp)]
  by_cases ht:l.take 8=arch++[32]
  ·rw [if_pos ht]
   cases hn:z1k (l.drop 8) with
   | none=>rfl
   | some v =>
    exfalso
    apply h2
    have h3:=zio ht
    have h4:zz 32 l=arch::zz 32 (l.drop 8):=by
     conv=>lhs; rw [h3]
     unfold zz
     rw [zfg arch [] _ arch_no]; rfl
    have h5:zz 32 (l.drop 8)=[l.drop 8]:=by
     unfold zz
     rw [zi1 _ [] (zyl hn)]; rfl
    rw [h4,h5]; rfl
  ·rw [if_neg ht]
theorem zyn {l:List UInt8} (hl:l.length≤1048576):z7z l [97,114,99,104,105,118,101,32]=some (if l.take 8=arch++[32] then l.drop 8 else l):=by
 unfold z7z zf6 zf5
 have e8:([97,114,99,104,105,118,101,32]:List UInt8).length=8:=rfl
 have ea:arch++[32]=[97,114,99,104,105,118,101,32]:=rfl
 by_cases h8:8≤l.length
 ·have h8':((8:Nat):Int)≤(l.length:Int):=by omega
  have c1:(0:Int)≤0∧(0:Int)≤((8:Nat):Int)∧((8:Nat):Int)≤(l.length:Int):=⟨by omega,by omega,h8'⟩
  have c2:(0:Int)≤((8:Nat):Int)∧((8:Nat):Int)≤(l.length:Int)∧(l.length:Int)≤(l.length:Int):=⟨by omega,h8',by omega⟩
  have c3:(l.drop 8).take (l.length-8)=l.drop 8:=List.take_of_length_le (by rw [List.length_drop]; exact Nat.le_refl _)
  simp only [e8,h8',decide_true,if_true,c1,c2,and_self,Option.bind_some,ea,c3]
  by_cases h:l.take 8=[97,114,99,104,105,118,101,32] <;> simp [h]
 ·have h8':¬ ((8:Nat):Int)≤(l.length:Int):=by omega
  have h:l.take 8≠arch++[32]:=fun h=>by
   have:=congrArg List.length h
   rw [List.length_take] at this
   simp [arch] at this
   omega
  simp only [e8,h8',decide_false,Bool.false_eq_true,if_false,Option.bind_some,h]
theorem zyo {R:Type} {l:List UInt8} (hl:l.length≤1048576) {bad:Option R} {good:Int→Option R} :
  ((z7z l [97,114,99,104,105,118,101,32]).bind fun r_4=>(zc9 r_4).bind fun r_5=>(if (!r_5.2) then bad else (zar r_5.1 0 32).bind fun r_6=>(if (!r_6) then bad else (z81 r_5.1).bind fun r_8=>(if ([97,114,99,104,105,118,101,32]:List UInt8).length+r_8.length≤9223372036854775807 then (if (!(decide (l=([97,114,99,104,105,118,101,32]++r_8)))) then bad else good r_5.1) else none))))=match z73 l with | some n=>good n | none=>bad:=by
 have ea:∀ x:List UInt8,[97,114,99,104,105,118,101,32]++x=arch++32::x:=fun x=>rfl
 rw [zyn hl]
 simp only [Option.bind_some]
 unfold z73
 by_cases ht:l.take 8=arch++[32]
 ·rw [if_pos ht,if_pos ht,zo7 (by rw [List.length_drop]; omega)]
  simp only [Option.bind_some]
  unfold z2i
  cases hn:z1k (l.drop 8) with
  | none=>simp
  | some v =>
   simp only [Bool.not_true,Bool.false_eq_true,if_false,zif,Option.bind_some]
   by_cases h:0≤v∧v≤32
   ·have hi:=(zck.1 hn).1
    have hlen:(Lib.itoa v).length≤1048576:=by rw [hi,List.length_drop]; omega
    have he:l=arch++32::Lib.itoa v:=by rw [hi]; exact zio ht
    have hb:([97,114,99,104,105,118,101,32]:List UInt8).length+(Lib.itoa v).length≤9223372036854775807:=by simp only [List.length_cons,List.length_nil]; omega
    simp only [h,and_self,decide_true,Bool.not_true,Bool.false_eq_true,if_false,zci (show -9223372036854775808≤v by omega) (show v≤9223372036854775807 by omega),Option.bind_some,hb,if_true,ea]
    rw [decide_eq_true he]; simp
   ·simp only [h,decide_false,Bool.not_false,if_true,if_false]
 ·rw [if_neg ht,if_neg ht,zo7 hl]
  simp only [Option.bind_some]
  unfold z2i
  cases hn:z1k l with
  | none=>simp
  | some v =>
   simp only [Bool.not_true,Bool.false_eq_true,if_false,zif,Option.bind_some]
   by_cases h:0≤v∧v≤32
   ·have hi:=(zck.1 hn).1
    have hlen:(Lib.itoa v).length≤1048576:=by rw [hi]; omega
    have he:¬ l=arch++32::Lib.itoa v:=fun e=>ht (by rw [e]; rfl)
    have hb:([97,114,99,104,105,118,101,32]:List UInt8).length+(Lib.itoa v).length≤9223372036854775807:=by simp only [List.length_cons,List.length_nil]; omega
    simp only [h,and_self,decide_true,Bool.not_true,Bool.false_eq_true,if_false,zci (show -9223372036854775808≤v by omega) (show v≤9223372036854775807 by omega),Option.bind_some,hb,if_true,ea]
    rw [decide_eq_false he]; simp
   ·simp only [h,decide_false,Bool.not_false,if_true]
theorem ziq {c:UInt8}:∀ (l cur:List UInt8),z15 c cur (l++[c])=z15 c cur l++[[]]
 | [],cur=>by simp [z15]
 | x::l,cur=>by
  rw [List.cons_append]
  unfold z15
  by_cases h:x=c
  ·rw [if_pos h,if_pos h,ziq l []]; rfl
  ·rw [if_neg h,if_neg h,ziq l _]
theorem zir {c x:UInt8} (hx:x≠c):∀ (l cur:List UInt8),(z15 c cur (l++[x])).getLastD []≠[]
 | [],cur=>by simp [z15,hx]
 | y::l,cur=>by
  rw [List.cons_append]
  unfold z15
  by_cases h:y=c
  ·rw [if_pos h]
   have h1:=zir hx l []
   cases hq:z15 c [] (l++[x]) with
   | nil=>rw [hq] at h1; exact absurd rfl h1
   | cons a r=>rw [hq] at h1; rw [List.getLastD_cons]; exact fun e=>h1 (by rw [List.getLastD_cons]; rw [List.getLastD_cons] at e; exact e)
  ·rw [if_neg h]; exact zir hx l _
theorem zoz (t:List UInt8):z47 (t++[10])=(zz 10 t,[]):=by
 have e:zz 10 (t++[10])=zz 10 t++[[]]:=ziq t []
 unfold z47
 rw [e]
 simp
theorem zyp {x:UInt8} (hx:x≠10) (t:List UInt8):(z47 (t++[x])).2≠[]:=zir hx t []
theorem zyq (s:List UInt8):s=[]∨∃ t x,s=t++[x]:=by
 by_cases h:s=[]
 ·exact .inl h
 ·exact .inr ⟨s.dropLast,s.getLast h,(List.dropLast_concat_getLast h).symm⟩
theorem zp0 {t:List UInt8} {x:UInt8} (ht:t.length≤1048576):zaq (t++[x]) [10]=some (decide (x=10))∧zf0 (t++[x]) [10]=some (if x=10 then t else t++[x]):=by
 have h1:(([10]:List UInt8).length:Int)≤((t++[x]).length:Int):=by simp; omega
 have h2:z7 (((t++[x]).length:Int)-(([10]:List UInt8).length:Int))=(t.length:Int):=by
  have e1:((t++[x]).length:Int)-(([10]:List UInt8).length:Int)=(t.length:Int):=by simp
  rw [e1,z14 (by omega) (by omega)]
 have c1:(0:Int)≤(t.length:Int)∧(t.length:Int)≤((t++[x]).length:Int)∧((t++[x]).length:Int)≤((t++[x]).length:Int):=⟨by omega,by rw [List.length_append,List.length_singleton]; omega,by omega⟩
 have c2:((t++[x]).drop t.length).take ((t++[x]).length-t.length)=[x]:=by simp
 have c3:(t++[x]).take t.length=t:=by simp
 have e1:(x::[]=[10])=(x=10):=by simp
 have hs:zap (t++[x]) [10]=some (decide (x=10)):=by
  unfold zap
  simp only [h1,decide_true,if_true,h2,c1,and_self,Int.toNat_natCast,c2,e1]
 refine ⟨by unfold zaq; rw [hs]; rfl,?_⟩
 unfold zf0 zhq
 rw [hs]
 have c4:(0:Int)≤0∧(0:Int)≤(t.length:Int)∧(t.length:Int)≤((t++[x]).length:Int):=⟨by omega,by omega,by rw [List.length_append,List.length_singleton]; omega⟩
 by_cases h:x=10
 ·simp only [h,decide_true,Option.bind_some,if_true]
  subst h
  simp only [h2,c4,and_self,if_true,Int.toNat_natCast,c3,Option.bind_some]
 ·simp [h]
theorem zyr {k:Nat} (hk:KK≤k) {t:List UInt8} (ht:t.length≤1048576):zf4 k (t++[10])=some (zz 10 t):=by
 unfold zf4
 have hne:(t++[10]=[])=False:=by simp
 simp only [hne,decide_false,Bool.false_eq_true,if_false,(zp0 (x:=10) ht).2,if_true,Option.bind_some,zxn hk (show t.length≤1000000000 by omega) 10]
theorem zp1 {q:List Blk} (h:0<q.length):∃ z,q[q.length-1]?=some z∧q.getLast?=some z:=by
 have h1:q[q.length-1]?=some (q[q.length-1]'(by omega)):=List.getElem?_eq_getElem (by omega)
 exact ⟨_,h1,by rw [List.getLast?_eq_getElem?]; exact h1⟩
theorem zp2 {k:Nat} (hk:KK≤k) {W:List (List UInt8)} (hW:W.length≤100000000) (hx:∀ x∈W,x.length≤1048576) {n7:Int}:∀ (d n i:Nat) (q:List Blk),W.length-i=d→d<n→q.length≤i→i≤100000001 →
  z91 k n n7 (i:Int) W q (fun n_10 q_11=>(if (!(decide ((List.length q_11:Int)=n_10))) then some ([],0,11) else some (q_11,0,0)))=some (z5q n7 (W.drop i) q i)
 | d,0,i,q,_,h,_,_=>by omega
 | 0,n+1,i,q,hd,_,_,_=>by
  have:¬ (i:Int)<(W.length:Int):=by omega
  rw [List.drop_of_length_le (by omega)]
  simp only [z91,this,decide_false,Bool.false_eq_true,if_false,z5q]
  by_cases h:(q.length:Int)=n7 <;> simp [h]
 | d+1,n+1,i,q,hd,hn,hq,hi=>by
  have hLIM:=z64
  have hil:i<W.length:=by omega
  have hlt:(i:Int)<(W.length:Int):=by omega
  have hw:=z2s (i:=i) (by omega)
  have hdr:W.drop i=W[i]::W.drop (i+1):=List.drop_eq_getElem_cons hil
  have hp:=zya hk (hx W[i] (List.getElem_mem hil))
  have ih:=zp2 hk hW hx (n7:=n7) d n (i+1) (q++[(z4m W[i]).1]) (by omega) (by omega) (by simp; omega) (by omega)
  have lim:(q.length+1)*48≤LIM:=by omega
  rw [hdr]
  simp only [z91,hlt,hil,decide_true,if_true,Int.natCast_nonneg,Int.toNat_natCast,and_self,List.getElem?_eq_getElem hil,Option.bind_some,hp,hw,zyg,List.length_singleton,lim,ih,z5q]
  by_cases h:(z4m W[i]).2=0
  ·simp only [h,decide_true,Bool.not_true,Bool.false_eq_true,if_false,ne_eq,not_true_eq_false]
   by_cases h0:0<q.length
   ·obtain ⟨z,z1,z2⟩:=zp1 h0
    have w1:z7 ((q.length:Int)-1)=((q.length-1:Nat):Int):=by rw [z14 (by omega) (by omega)]; omega
    have h0':(0:Int)<(q.length:Int):=by omega
    have hlt2:q.length-1<q.length:=by omega
    simp only [h0',decide_true,if_true,w1,Int.natCast_nonneg,Int.toNat_natCast,hlt2,and_self,z1,zcm,z2,Option.bind_some]
    cases z3h z (z4m W[i]).1 <;> simp
   ·have:q=[]:=List.length_eq_zero_iff.1 (by omega)
    subst this
    simp [zcm]
  ·simp only [h,decide_false,Bool.not_false,if_true,ne_eq,not_false_eq_true]
theorem zp3 {k:Nat} (hk:KK≤k) {W:List (List UInt8)} (hW:W.length≤100000000) (hx:∀ x∈W,x.length≤1048576) {n7:Int} {wn:Nat} (hwn:wn=W.length-1):∀ (d n j:Nat) (q:List Blk),wn-j=d→d<n→q.length=j→j≤100000001 →
  z6x k n n7 1 wn (wn:Int) (j:Int) q W (fun count_15 q_16=>(zce q_16).bind fun r_17=>(if (!(decide (r_17=count_15))) then some ([],0,11) else some (q_16,0,0)))=some (z5q n7 (W.drop (1+j)) q (1+j))
 | d,0,j,q,_,h,_,_=>by omega
 | 0,n+1,j,q,hd,_,_,_=>by
  have:¬ (j:Int)<(wn:Int):=by omega
  rw [List.drop_of_length_le (by omega)]
  simp only [z6x,this,decide_false,Bool.false_eq_true,if_false,z5q,zce,Option.bind_some]
  by_cases h:(q.length:Int)=n7 <;> simp [h]
 | d+1,n+1,j,q,hd,hn,hq,hi=>by
  have hLIM:=z64
  have hil:1+j<W.length:=by omega
  have hlt:(j:Int)<(wn:Int):=by omega
  have hlt':j<wn:=by omega
  have hw:=z2s (i:=j) (by omega)
  have hw2:z7 ((j:Int)+2)=((1+j+1:Nat):Int):=by rw [z14 (by omega) (by omega)]; omega
  have hdr:W.drop (1+j)=W[1+j]::W.drop (1+j+1):=List.drop_eq_getElem_cons hil
  have hp:=zyc hk (hx W[1+j] (List.getElem_mem hil))
  have ih:=zp3 hk hW hx (n7:=n7) hwn d n (j+1) (q++[(z4m W[1+j]).1]) (by omega) (by omega) (by simp; omega) (by omega)
  have lim:(q.length+1)*48≤LIM:=by omega
  have e1:1+(j+1)=1+j+1:=by omega
  rw [e1] at ih
  rw [hdr]
  simp only [z6x,hlt,hlt',decide_true,if_true,Int.natCast_nonneg,Int.toNat_natCast,and_self,List.getElem?_eq_getElem hil,Option.bind_some,hp,hw,hw2,zyh hk,zyi,List.length_singleton,lim,ih,z5q]
  by_cases h:(z4m W[1+j]).2=0
  ·simp only [h,decide_true,Bool.not_true,Bool.false_eq_true,if_false,ne_eq,not_true_eq_false,if_true]
   by_cases h0:0<j
   ·obtain ⟨z,z1,z2⟩:=zp1 (q:=q) (by omega)
    have w1:z7 ((j:Int)-1)=((q.length-1:Nat):Int):=by rw [z14 (by omega) (by omega)]; omega
    have h0':(0:Int)<(j:Int):=by omega
    have hlt2:q.length-1<q.length:=by omega
    simp only [h0',decide_true,if_true,w1,Int.natCast_nonneg,Int.toNat_natCast,hlt2,and_self,z1,zcm,z2,Option.bind_some]
    cases z3h z (z4m W[1+j]).1 <;> simp
   ·have hq0:q=[]:=List.length_eq_zero_iff.1 (by omega)
    have hj:j=0:=by omega
    subst hq0 hj
    simp [zcm]
  ·simp only [h,decide_false,Bool.not_false,if_true,ne_eq,not_false_eq_true,Bool.false_eq_true,if_false]
theorem zys {k:Nat} (hk:KK≤k) {s:List UInt8} (hs:s.length≤1048576):zez k s=some (z5c s):=by
 have hK:=z2r
 have hl:=zow (s:=s)
 have hm:=zox (s:=s)
 unfold zez z5c
 rw [zye hk (by omega)]
 simp only [Option.bind_some]
 by_cases he:(z47 s).2=[]
 ·rw [decide_eq_true he,if_neg (by simp),if_neg (show ¬ (z47 s).2≠[] from fun h=>h he)]
  cases hW:(z47 s).1 with
  | nil=>simp
  | cons l W =>
   rw [hW] at hl hm
   have hne:¬ (((l::W).length:Int)=0):=by simp; omega
   have b0:(0:Int)≤0∧0<(l::W).length:=⟨by omega,by simp⟩
   have g0:(l::W)[0]?=some l:=rfl
   have hll:l.length≤1048576:=by have:=hm l (by simp); omega
   obtain ⟨n,b,h1,h2⟩:=zym hk hll
   rw [decide_eq_false hne,if_neg (by simp),if_pos b0,g0]
   simp only [Option.bind_some,h1,h2]
   cases b with
   | false=>simp
   | true =>
    simp only [Bool.not_true,Bool.false_eq_true,if_false,if_true]
    exact zp2 hk (W:=l::W) (n7:=n) (by omega) (fun x hx=>by have:=hm x hx; omega) (W.length) k 1 [] (by simp) (by simp at hl; omega) (by simp) (by omega)
 ·rw [decide_eq_false he,if_pos (by simp),if_pos he]
theorem zyt {k:Nat} (hk:KK≤k) {s:List UInt8} (hs:s.length≤1048576):zcf k s=some (z5c s):=by
 have hK:=z2r
 unfold zcf
 rcases zyq s with rfl | ⟨t,x,rfl⟩
 ·have h1:zaq [] [10]=some false:=by
   unfold zaq zap
   simp
  rw [h1]
  simp only [Option.bind_some,Bool.not_false,if_true]
  unfold z5c z47 zz
  simp [z15]
 ·have ht:t.length≤1048576:=by simp at hs; omega
  rw [(zp0 ht).1]
  simp only [Option.bind_some]
  by_cases hx:x=10
  ·subst hx
   simp only [decide_true,Bool.not_true,Bool.false_eq_true,if_false,zyr hk ht,Option.bind_some]
   unfold z5c
   rw [zoz]
   have hl:=zow (s:=t++[10])
   have hm:=zox (s:=t++[10])
   rw [zoz] at hl hm
   rw [if_neg (show ¬ (([]:List UInt8)≠[]) from fun h=>h rfl)]
   simp only at hl hm ⊢
   cases hW:zz 10 t with
   | nil=>exact absurd (show z15 10 [] t=[] from hW) (fun h=>by have:=zcj 10 t []; rw [h] at this; simp at this)
   | cons l W =>
    rw [hW] at hl hm
    have b0:(0:Int)≤0∧0<(l::W).length:=⟨by omega,by simp⟩
    have g0:(l::W)[0]?=some l:=rfl
    have hll:l.length≤1048576:=by have:=hm l (by simp); omega
    have b1:(0:Int)≤1∧(1:Int)≤((l::W).length:Int)∧((l::W).length:Int)≤((l::W).length:Int):=⟨by omega,by simp; omega,by omega⟩
    have e1:(((l::W).drop 1).take ((l::W).length-1)).length=(l::W).length-1:=by simp
    rw [if_pos b0,g0]
    simp only [Option.bind_some]
    simp only [if_pos b0,if_pos b1,e1,g0,Option.bind_some]
    refine (zyo hll (bad:=some ([],1,9)) (good:=fun n=>z6x k k n 1 ((l::W).length-1) (((l::W).length-1:Nat):Int) 0 [] (l::W) (fun count_15 q_16=>(zce q_16).bind fun r_17=>(if (!(decide (r_17=count_15))) then some ([],0,11) else some (q_16,0,0))))).trans ?_
    cases z73 l with
    | none=>rfl
    | some n =>
     simp only
     exact zp3 hk (W:=l::W) (n7:=n) (by simp at hl hs ⊢; omega) (fun x hx=>by have:=hm x hx; omega) rfl ((l::W).length-1) k 0 [] (by omega) (by simp at hl hs ⊢; omega) (by simp) (by omega)
  ·simp only [hx,decide_false,Bool.not_false,if_true]
   unfold z5c
   rw [if_pos (zyp hx t)]
theorem zyu {k:Nat} (hk:KK≤k) {n:Int} (h:n≤9223372036854775807):∃ t,z4x k n=some t:=by
 unfold z4x
 by_cases h0:n≤0
 ·exact ⟨[109,48],by simp [h0]⟩
 ·simp only [decide_eq_true_eq,h0,if_false]
  have key:∀ (m:Nat) (n:Int) (out:List UInt8),0≤n→n<10 ^ m→n≤9223372036854775807→out.length+m≤100→∀ q,m<q→∃ t,z97 k q n out (fun out_1=>(if [109].length+out_1.length≤9223372036854775807 then some ([109]++out_1) else none))=some t:=by
   intro m
   induction m with
   | zero =>
    intro n out h1 h2 h3 h4 q hq
    obtain ⟨q,rfl⟩:∃ p,q=p+1:=⟨q-1,by omega⟩
    have:¬ 0<n:=by simp at h2; omega
    have h5:1+out.length≤9223372036854775807:=by omega
    exact ⟨[109]++out,by simp only [z97,decide_eq_true_eq,this,if_false,List.length_singleton,h5,if_true]⟩
   | succ m ih =>
    intro n out h1 h2 h3 h4 q hq
    obtain ⟨q,rfl⟩:∃ p,q=p+1:=⟨q-1,by omega⟩
    by_cases hn:0<n
    ·have hd:Int.tdiv n 10=n / 10:=Int.tdiv_eq_ediv_of_nonneg h1
     have hw:z7 (Int.tdiv n 10)=n / 10:=by rw [hd,z14 (by omega) (by omega)]
     have h5:1+out.length≤9223372036854775807:=by omega
     have h6:n / 10<10 ^ m:=by
      rw [Int.pow_succ] at h2
      omega
     obtain ⟨t,ht⟩:=ih (n / 10) ((z6v [(z44 ((z7 (48+(Int.tmod n 10)))))])++out) (by omega) h6 (by omega) (by simp; omega) q (by omega)
     refine ⟨t,?_⟩
     simp only [z97,decide_eq_true_eq,hn,if_true,hw]
     rw [if_pos (by simp; omega)]
     exact ht
    ·have h5:1+out.length≤9223372036854775807:=by omega
     exact ⟨[109]++out,by simp only [z97,decide_eq_true_eq,hn,if_false,List.length_singleton,h5,if_true]⟩
  exact key 20 n [] (by omega) (by omega) h (by simp) k (by have:=z2r; omega)
noncomputable def mT (k:Nat) (m:Int) (j:Nat):List UInt8:=(z4x k (m+j)).getD []
theorem zay {k:Nat} (hk:KK≤k) {m:Int} (h1:m≤1000000000000) {j:Nat} (hj:j≤4000000000000):z4x k (m+j)=some (mT k m j):=by
 obtain ⟨t,ht⟩:=zyu hk (n:=m+j) (by omega)
 unfold mT
 rw [ht]; rfl
noncomputable def mB (k:Nat) (m:Int) (i:Nat):Blk:=(mT k m (3*i),mT k m (3*i+1),mT k m (3*i+2))
theorem zyv {k:Nat} (hk:KK≤k) {a:List Blk} {m:Int} (h0:0≤m) (h1:m≤1000000000000) (ha:a.length≤1000000000000) :
  zfe k m a=some ((m+((3*a.length:Nat):Int),()),((List.range a.length).map (mB k m),()),()):=by
 unfold zfe
 have:=z8u (α:=Nat) (A:=List Blk) (L:=fun n i q=>zat k n (m+3*i) i q fun k_12 q_13=>some ((k_12,()),(q_13,()),()))
  (I:=fun pre q=>q.length=a.length∧q.take pre.length=(List.range pre.length).map (mB k m)) (G:=fun _ _=>some ((m+((3*a.length:Nat):Int),()),((List.range a.length).map (mB k m),()),())) (List.range a.length) ?_ ?_ k (by have:=z2r; simp; omega) a ⟨rfl,by simp⟩
 ·simpa using this
 ·intro n pre x post q hx hq ih hg hlt
  rw [List.length_range] at hlt
  have hw:=z2s (i:=pre.length) (by omega)
  have hl:pre.length<q.length:=by omega
  have e0:m+3*(pre.length:Int)=m+((3*pre.length:Nat):Int):=by omega
  have e1:z7 (m+3*(pre.length:Int)+1)=m+((3*pre.length+1:Nat):Int):=by rw [z14 (by omega) (by omega)]; omega
  have e2:z7 (m+((3*pre.length+1:Nat):Int)+1)=m+((3*pre.length+2:Nat):Int):=by rw [z14 (by omega) (by omega)]; omega
  have e3:z7 (m+((3*pre.length+2:Nat):Int)+1)=m+3*((pre.length+1:Nat):Int):=by rw [z14 (by omega) (by omega)]; omega
  have hlt':(pre.length:Int)<(q.length:Int):=by omega
  have t0:z4x k (m+3*(pre.length:Int))=some (mT k m (3*pre.length)):=by rw [e0]; exact zay hk h1 (by omega)
  simp only [zat,hlt',decide_true,if_true,t0,e1,e2,e3,zay hk h1 (show 3*pre.length+1≤4000000000000 by omega),zay hk h1 (show 3*pre.length+2≤4000000000000 by omega),Option.bind_some,Int.natCast_nonneg,Int.toNat_natCast,hl,and_self,List.getElem?_eq_getElem hl,List.length_set,List.getElem?_set_self,List.set_set,hw]
  refine ih _ ⟨by rw [List.length_set]; exact hq.1,?_⟩
  rw [List.length_append,List.length_singleton,List.take_succ_eq_append_getElem (by simpa using hl),List.getElem_set_self,List.take_set_of_le (Nat.le_refl _),hq.2,List.range_succ]
  simp [mB]
 ·intro n q hq
  have:¬ ((List.range a.length).length:Int)<(q.length:Int):=by rw [hq.1]; simp
  have h2:=hq.2
  rw [List.length_range,← hq.1,List.take_length,hq.1] at h2
  simp only [zat,this,decide_false,Bool.false_eq_true,if_false]
  simp [h2]
theorem zyw {k:Nat} (hk:KK≤k) {N:Nat} {m:Int} (h0:0≤m) (h1:m≤1000000000000) (hN:N≤1000000000000):zch k ((List.range N).map (mB k m)) m=some (m+((3*N:Nat):Int)):=by
 unfold zch
 have:=z8u (α:=Blk) (A:=Unit) (L:=fun n i _=>zau k n ((List.range N).map (mB k m)) (m+3*i) i fun k_3=>some k_3) (I:=fun _ _=>True) (G:=fun _ _=>some (m+((3*N:Nat):Int))) ((List.range N).map (mB k m)) ?_ ?_ k (by have:=z2r; simp; omega) () trivial
 ·simpa using this
 ·intro n pre x post _ hx _ ih hg hlt
  have hpl:pre.length<N:=by simpa using hlt
  have hw:=z2s (i:=pre.length) (by omega)
  have e0:m+3*(pre.length:Int)=m+((3*pre.length:Nat):Int):=by omega
  have e1:z7 (m+3*(pre.length:Int)+1)=m+((3*pre.length+1:Nat):Int):=by rw [z14 (by omega) (by omega)]; omega
  have e2:z7 (m+((3*pre.length+1:Nat):Int)+1)=m+((3*pre.length+2:Nat):Int):=by rw [z14 (by omega) (by omega)]; omega
  have e3:z7 (m+((3*pre.length+2:Nat):Int)+1)=m+3*((pre.length+1:Nat):Int):=by rw [z14 (by omega) (by omega)]; omega
  have t0:z4x k (m+3*(pre.length:Int))=some (mT k m (3*pre.length)):=by rw [e0]; exact zay hk h1 (by omega)
  have hxT:x=mB k m pre.length:=by
   rw [List.getElem?_map,List.getElem?_range hpl] at hg
   simpa using hg.symm
  subst hxT
  simp only [zau,hlt,decide_true,if_true,Int.natCast_nonneg,Int.toNat_natCast,hg,Option.bind_some,t0,e1,e2,e3,mB,zay hk h1 (show 3*pre.length+1≤4000000000000 by omega),zay hk h1 (show 3*pre.length+2≤4000000000000 by omega),Bool.not_true,Bool.false_eq_true,if_false,hw]
  exact ih () trivial
 ·intro n _ _
  simp [zau]
theorem zyx (a0:List UInt8) (f0:InR .str a0):∃ k:Nat,zff k a0=some true:=by
 have hk:=Nat.le_refl KK
 refine ⟨KK,?_⟩
 unfold zff
 by_cases n0:1048576<(a0.length:Int)
 ·rw [decide_eq_true n0,if_pos rfl]
 rw [decide_eq_false n0,if_neg (by simp)]
 have hs:a0.length≤1048576:=by omega
 have hl:=zyk a0
 have hn:¬ (1+((3*(z5c a0).1.length:Nat):Int)<0):=by omega
 simp only [zys hk hs,zyt hk hs,Option.bind_some,zy8 hk (show (z5c a0).1.length<4611686018427387904 by omega),zyv hk (show (0:Int)≤1 by omega) (show (1:Int)≤1000000000000 by omega) (show (z5c a0).1.length≤1000000000000 by omega),zyw hk (show (0:Int)≤1 by omega) (show (1:Int)≤1000000000000 by omega) (show (z5c a0).1.length≤1000000000000 by omega),hn,decide_true,Bool.not_true,Bool.false_eq_true,if_false,decide_false]
end Go.Proofs.YteiflkhpafhhkaaGreatDoor.Ev
