/- Plain laws of the printed functions. No conditions but those in each statement. -/
import Derived.Test.YtiodkblajaenbaaGreatDoorPmFnExactAuditWork
set_option linter.unusedVariables false
set_option linter.unusedSimpArgs false
namespace Go.Proofs.YtiodkblajaenbaaGreatDoor.Ev
open Go.RowKit
theorem z1ta {k:Nat} (hk:KK≤k) {n:Net} (hn:n.2.2.2.length≤1048576):zpq k n=some (z2t n):=by
 have hK:=zf
 have e2:decide ((n.2.2.2.length:Int)≤24)=decide (n.2.2.2.length≤24):=decide_eq_decide.2 (by omega)
 have hE:((z49 n.1 2 12).bind fun r_11=>(if r_11=true then (z69 n.2.1 n.1).bind fun r_12=>(if r_12=true then (z69 n.2.2.1 n.1).bind fun r_13=>(if r_13=true then (if (!(decide (n.2.1=n.2.2.1)))=true then some (decide ((List.length n.2.2.2:Int)≤24)) else some false) else some false) else some false) else some false))=some (decide (2≤n.1∧n.1≤12)&&(decide (0≤n.2.1∧n.2.1≤z6 (n.1-1))&&(decide (0≤n.2.2.1∧n.2.2.1≤z6 (n.1-1))&&(!decide (n.2.1=n.2.2.1)&&decide (n.2.2.2.length≤24))))):=by
  unfold z69
  simp only [z6m,y6,e2]
  by_cases c1:2≤n.1∧n.1≤12
  case neg=>simp [c1]
  by_cases c2:0≤n.2.1∧n.2.1≤z6 (n.1-1)
  case neg=>simp [c1,c2]
  by_cases c3:0≤n.2.2.1∧n.2.2.1≤z6 (n.1-1)
  case neg=>simp [c1,c2,c3]
  rw [yc c1,yc c2,yc c3]
  cases decide (n.2.1=n.2.2.1) <;> simp
 unfold zpq
 have hl:∀ E:Net→Option Bool,zb7 k k n.2.2.2 (n.2.2.2.length:Int) 0 n E=if (List.range n.2.2.2.length).all (z8l n)=true then E n else some false:=by
  intro E
  refine z4f (L:=fun m i=>zb7 k m n.2.2.2 (n.2.2.2.length:Int) i n E) (b:=n.2.2.2.length) (p:=z8l n) (r:=some false) ?_ ?_ (n:=k) (by omega)
  ·intro m i hi
   have hlt:(i:Int)<(n.2.2.2.length:Int):=by omega
   have hw:=zd (i:=i) (by omega)
   have hg:n.2.2.2[i]?=some n.2.2.2[i]:=yh hi
   simp only [zb7,z69,hlt,y9,y7,yg,yd,hg,y6,hw,z6m,z8l,zhr]
   generalize n.2.2.2[i]=a
   by_cases c1:0≤a.1∧a.1≤z6 (n.1-1)
   case neg=>simp [c1]
   by_cases c2:0≤a.2.1∧a.2.1≤z6 (n.1-1)
   case neg=>simp [c1,c2]
   by_cases c3:a.1=a.2.1
   ·simp only [c3,y9] at *; simp [c2]
   by_cases c4:0≤a.2.2∧a.2.2≤1000000
   case neg=>simp [c1,c2,c3,c4]
   rw [yc c1,yc c2,yb c3,yc c4]
   simp only [y10,y2m,ya,y8,y1i]
   by_cases h0:0<i
   ·have h0':(0:Int)<(i:Int):=by omega
    have hw1:z6 ((i:Int)-1)=((i-1:Nat):Int):=by rw [ze (by omega) (by omega)]; omega
    have hg1:n.2.2.2[i-1]?=some n.2.2.2[i-1]:=yh (by omega)
    simp only [h0',h0,y9,y7,hw1,yg,yd,hg1,y6,zus,zut hk,z1aa]
    generalize n.2.2.2[i-1]=t
    cases zdy t a <;> simp
   ·have h0':¬ (0:Int)<(i:Int):=by omega
    simp [h0,h0']
  ·intro m
   simp only [zb7,yp,yf,ya,y8]
 rw [hl,hE]
 unfold z2t
 cases (List.range n.2.2.2.length).all (z8l n) <;> simp
def zm {α:Type} (f:α→Nat) (l:List α):Nat:=(l.map f).sum
theorem z8m {α:Type} (f:α→Nat):zm f []=0:=rfl
theorem z4k {α:Type} (f:α→Nat) (x:α) (l:List α):zm f (x::l)=f x+zm f l:=by simp [zm]
theorem zkd {α:Type} (f:α→Nat) (l m:List α):zm f (l++m)=zm f l+zm f m:=by simp [zm]
theorem za1 {α:Type} (f:α→Nat) {x:α} {l:List α} (h:x∈l):f x≤zm f l:=by
 induction l with
 | nil=>cases h
 | cons y l ih =>
  rw [z4k]
  rcases yz.1 h with rfl | h
  ·omega
  ·have:=ih h; omega
theorem z1ab {α:Type} (xs:List α) {s:α→Nat} {L:Nat→Int→Int→Option Int}
  (h1:∀ n (i:Nat) x r,xs[i]?=some x→(i:Int)<xs.length→x∈xs→0≤r→r≤1048576→L (n+1) (i:Int) r=if (s x:Int)≤r then L n ((i+1:Nat):Int) (r-(s x:Int)) else some (-1))
  (h2:∀ n r,L (n+1) (xs.length:Int) r=some r) {n:Nat} (hn:xs.length<n) {r:Int} (h0:0≤r) (hr:r≤1048576):L n 0 r=some (if (zm s xs:Int)≤r then r-(zm s xs:Int) else -1):=by
 refine z2b (L:=L) (I:=fun _ r=>0≤r∧r≤1048576) (G:=fun post r=>some (if (zm s post:Int)≤r then r-(zm s post:Int) else -1)) xs ?_ ?_ n hn r ⟨h0,hr⟩
 ·intro n pre x post r hx hI ih hg hlt
  rw [h1 n pre.length x r hg hlt (yl hg) hI.1 hI.2]
  have hc:zm s (x::post)=s x+zm s post:=z4k _ _ _
  by_cases c:(s x:Int)≤r
  ·rw [y4 c,ih (r-(s x:Int)) ⟨by omega,by omega⟩]
   by_cases c2:(zm s post:Int)≤r-(s x:Int)
   ·rw [y4 c2,y4 (by omega)]; congr 1; omega
   ·rw [y5 c2,y5 (by omega)]
  ·rw [y5 c,y5 (by omega)]
 ·intro n r hI
  rw [h2,z8m,if_pos (by simpa using hI.1)]; simp
theorem z1tb {k:Nat} (hk:KK≤k) {n:Int} (h:n≤9223372036854775807):∃ t,z9h k n=some t:=by
 unfold z9h
 by_cases h0:n≤0
 ·exact ⟨[109,48],by simp [h0]⟩
 ·simp only [y18,h0,y8]
  have key:∀ (m:Nat) (n:Int) (out:List UInt8),0≤n→n<10 ^ m→n≤9223372036854775807→out.length+m≤100→∀ q,m<q→∃ t,zcn k q n out (fun out_1=>(if [109].length+out_1.length≤9223372036854775807 then some ([109]++out_1) else none))=some t:=by
   intro m
   induction m with
   | zero =>
    intro n out h1 h2 h3 h4 q hq
    obtain ⟨q,rfl⟩:∃ p,q=p+1:=⟨q-1,by omega⟩
    have:¬ 0<n:=by simp at h2; omega
    have h5:1+out.length≤9223372036854775807:=by omega
    exact ⟨[109]++out,by simp only [zcn,y18,this,y8,yy,h5,y7]⟩
   | succ m ih =>
    intro n out h1 h2 h3 h4 q hq
    obtain ⟨q,rfl⟩:∃ p,q=p+1:=⟨q-1,by omega⟩
    by_cases hn:0<n
    ·have hd:Int.tdiv n 10=n / 10:=y54 h1
     have hw:z6 (Int.tdiv n 10)=n / 10:=by rw [hd,ze (by omega) (by omega)]
     have h5:1+out.length≤9223372036854775807:=by omega
     have h6:n / 10<10 ^ m:=by
      rw [y3v] at h2
      omega
     obtain ⟨t,ht⟩:=ih (n / 10) ((z99 [(z78 ((z6 (48+(Int.tmod n 10)))))])++out) (by omega) h6 (by omega) (by simp; omega) q (by omega)
     refine ⟨t,?_⟩
     simp only [zcn,y18,hn,y7,hw]
     rw [y4 (by simp; omega)]
     exact ht
    ·have h5:1+out.length≤9223372036854775807:=by omega
     exact ⟨[109]++out,by simp only [zcn,y18,hn,y8,yy,h5,y7]⟩
  exact key 20 n [] (by omega) (by omega) h (by simp) k (by have:=zf; omega)
noncomputable def tM (k:Nat) (m:Int):List UInt8:=(z9h k m).getD []
theorem zr0 {k:Nat} (hk:KK≤k) {m:Int} (h:m≤9223372036854775807):z9h k m=some (tM k m):=by
 obtain ⟨t,ht⟩:=z1tb hk h
 unfold tM
 rw [ht]; rfl
def mkL {α:Type} (f:α→Int→α×Int):List α→Int→List α×Int
 | [],m=>([],m)
 | x::l,m=>((f x m).1::(mkL f l (f x m).2).1,(mkL f l (f x m).2).2)
theorem zhs {α:Type} (f:α→Int→α×Int):∀ (l:List α) (m:Int),(mkL f l m).1.length=l.length
 | [],_=>rfl
 | x::l,m=>by simp [mkL,zhs f l]
theorem zva {α:Type} {f:α→Int→α×Int} {c:α→Nat} (hc:∀ x m,(f x m).2=m+(c x:Int)):∀ (l:List α) (m:Int),(mkL f l m).2=m+(zm c l:Int)
 | [],m=>by simp [mkL,z8m]
 | x::l,m=>by
  have h1:=z4k c x l
  show (mkL f l (f x m).2).2=_
  rw [zva hc l,hc]; omega
theorem zvb {α:Type} {f:α→Int→α×Int}:∀ (l r:List α) (m:Int),(mkL f (l++r) m).1=(mkL f l m).1++(mkL f r (mkL f l m).2).1
 | [],r,m=>rfl
 | x::l,r,m=>by simp [mkL,zvb l r]
theorem zbj {α Q R:Type} {f:α→Int→α×Int} {c:α→Nat} (hc:∀ x m,(f x m).2=m+(c x:Int)) (xs:List α) {m0 B:Int} (hB:m0+(zm c xs:Int)≤B) {S:List α→Q} {L:Nat→Int→Int→Q→R} {G:R}
  (h1:∀ n (i:Nat) m l y,l.length=xs.length→l[i]?=some y→y∈xs→m0≤m→m+(c y:Int)≤B→(i:Int)<l.length→i<l.length→L (n+1) m (i:Int) (S l)=L n (m+(c y:Int)) ((i+1:Nat):Int) (S (l.set i (f y m).1)))
  (h2:∀ n l,l=(mkL f xs m0).1→l.length=xs.length→L (n+1) (m0+(zm c xs:Int)) (xs.length:Int) (S l)=G) {n:Nat} (hn:xs.length<n):L n m0 0 (S xs)=G:=by
 have main:∀ (post pre:List α) (n:Nat),xs=pre++post→post.length<n→L n (m0+(zm c pre:Int)) (pre.length:Int) (S ((mkL f pre m0).1++post))=G:=by
  intro post
  induction post with
  | nil =>
   intro pre n hx hn
   obtain ⟨m,rfl⟩:∃ m,n=m+1:=⟨n-1,by simp at hn; omega⟩
   rw [y1t] at hx ⊢
   subst hx
   exact h2 m _ rfl (zhs f _ _)
  | cons x post ih =>
   intro pre n hx hn
   obtain ⟨m,rfl⟩:∃ m,n=m+1:=⟨n-1,by simp at hn; omega⟩
   have hl:(mkL f pre m0).1.length=pre.length:=zhs f _ _
   have hs:zm c xs=zm c pre+(c x+zm c post):=by rw [hx,zkd,z4k]
   rw [h1 m pre.length (m0+(zm c pre:Int)) ((mkL f pre m0).1++x::post) x (by rw [hx]; simp [hl]) (by rw [y1r (by omega),hl]; simp) (by rw [hx]; simp) (by omega) (by omega) (by simp [hl]; omega) (by simp [hl])]
   have:=ih (pre++[x]) m (by rw [hx]; simp) (by simp at hn; omega)
   have e1:((mkL f pre m0).1++x::post).set pre.length (f x (m0+(zm c pre:Int))).1=(mkL f (pre++[x]) m0).1++post:=by
    rw [y6a _ _ (by omega),hl,y45,List.set_cons_zero,zvb,zva hc]
    simp [mkL]
   have e2:m0+(zm c pre:Int)+(c x:Int)=m0+(zm c (pre++[x]):Int):=by rw [zkd,z4k,z8m]; omega
   rw [e1,e2]
   rw [yk] at this
   simpa using this
 have:=main xs [] n rfl hn
 simpa [z8m,mkL] using this
theorem z1tc {α R:Type} {f:α→Int→α×Int} {c:α→Nat} (hc:∀ x m,(f x m).2=m+(c x:Int)) (xs:List α) {m0 B:Int} (hB:m0+(zm c xs:Int)≤B) {L:Nat→Int→Int→R} {G:R}
  (h1:∀ n (i:Nat) m y,(mkL f xs m0).1[i]?=some (f y m).1→y∈xs→m0≤m→m+(c y:Int)≤B→(i:Int)<(mkL f xs m0).1.length→i<(mkL f xs m0).1.length→L (n+1) m (i:Int)=L n (m+(c y:Int)) ((i+1:Nat):Int))
  (h2:∀ n,L (n+1) (m0+(zm c xs:Int)) ((mkL f xs m0).1.length:Int)=G) {n:Nat} (hn:xs.length<n):L n m0 0=G:=by
 have hlen:(mkL f xs m0).1.length=xs.length:=zhs f _ _
 have main:∀ (post pre:List α) (n:Nat),xs=pre++post→post.length<n→L n (m0+(zm c pre:Int)) (pre.length:Int)=G:=by
  intro post
  induction post with
  | nil =>
   intro pre n hx hn
   obtain ⟨m,rfl⟩:∃ m,n=m+1:=⟨n-1,by simp at hn; omega⟩
   rw [y1t] at hx
   have:=h2 m
   rw [hlen] at this
   rw [← hx]; exact this
  | cons x post ih =>
   intro pre n hx hn
   obtain ⟨m,rfl⟩:∃ m,n=m+1:=⟨n-1,by simp at hn; omega⟩
   have hl:(mkL f pre m0).1.length=pre.length:=zhs f _ _
   have hs:zm c xs=zm c pre+(c x+zm c post):=by rw [hx,zkd,z4k]
   have hlx:pre.length<xs.length:=by rw [hx]; simp
   have hg:(mkL f xs m0).1[pre.length]?=some (f x (m0+(zm c pre:Int))).1:=by
    rw [hx,zvb,y1r (by omega),hl,y45,zva hc]
    rfl
   rw [h1 m pre.length (m0+(zm c pre:Int)) x hg (by rw [hx]; simp) (by omega) (by omega) (by omega) (by omega)]
   have:=ih (pre++[x]) m (by rw [hx]; simp) (by simp at hn; omega)
   have e2:m0+(zm c pre:Int)+(c x:Int)=m0+(zm c (pre++[x]):Int):=by rw [zkd,z4k,z8m]; omega
   rw [e2]
   rw [yk] at this
   simpa using this
 have:=main xs [] n rfl hn
 simpa [z8m] using this
theorem zr1 {α:Type}:∀ l:List α,zm (fun _=>1) l=l.length
 | []=>rfl
 | x::l=>by rw [z4k,zr1 l,y1g]; omega
abbrev Prb:=Int×List UInt8×List UInt8
noncomputable def zht (k:Nat) (_:Prb) (m:Int):Prb×Int:=((m,tM k (m+1),tM k (m+1+1)),m+((3:Nat):Int))
theorem z1ac (k:Nat) (x:Prb) (m:Int):(zht k x m).2=m+(((fun _:Prb=>3) x:Nat):Int):=rfl
theorem zvc {α:Type}:∀ l:List α,zm (fun _=>3) l=3*l.length
 | []=>rfl
 | x::l=>by rw [z4k,zvc l,y1g]; omega
theorem z1td {k:Nat} (hk:KK≤k) {L:List Prb} {m:Int} (h0:0≤m) (h1:m+((3*L.length:Nat):Int)≤100000000000000000) (hL:L.length≤1000000000000) :
  zjk k m L=some ((m+((3*L.length:Nat):Int),()),((mkL (zht k) L m).1,()),()):=by
 have hK:=zf
 rw [← zvc] at h1 ⊢
 unfold zjk
 refine zbj (z1ac k) L (m0:=m) (B:=100000000000000000) h1 (S:=fun l=>l) (L:=fun n m i q=>zg7 k n m i q (fun k_11 q_12=>some ((k_11,()),(q_12,()),()))) ?_ ?_ (n:=k) (by omega)
 ·intro n i m' l y hll hg hy m0 m1 hlt hlt'
  have hw:=zd (i:=i) (by omega)
  have w1:z6 (m'+1)=m'+1:=ze (by omega) (by omega)
  have w2:z6 (m'+1+1)=m'+1+1:=ze (by omega) (by omega)
  have w3:z6 (m'+1+1+1)=m'+((3:Nat):Int):=by rw [ze (by omega) (by omega)]; omega
  simp only [zg7,hlt,hlt',y9,y7,y6,yg,yd,yw,hg,y20,y2i hlt',w1,w2,w3,zr0 hk (show m'+1≤9223372036854775807 by omega),zr0 hk (show m'+1+1≤9223372036854775807 by omega),y46,hw,zht]
 ·intro n l hl2 hll
  have:¬ (L.length:Int)<(l.length:Int):=by omega
  simp only [zg7,this,yf,ya,y8]
  rw [hl2]
theorem z1te {k:Nat} (hk:KK≤k) {L:List Prb} {m:Int} (h0:0≤m) (h1:m+((3*L.length:Nat):Int)≤100000000000000000) (hL:L.length≤1000000000000) :
  zg9 k (mkL (zht k) L m).1 m=some (m+((3*L.length:Nat):Int)):=by
 have hK:=zf
 rw [← zvc] at h1 ⊢
 unfold zg9
 refine z1tc (z1ac k) L (m0:=m) (B:=100000000000000000) h1 (L:=fun n m' i=>zg8 k n (mkL (zht k) L m).1 m' i fun k_6=>some k_6) ?_ ?_ (n:=k) (by omega)
 ·intro n i m' y hg hy m0 m1 hlt hlt'
  have hw:=zd (i:=i) (by rw [zhs] at hlt'; omega)
  have w1:z6 (m'+1)=m'+1:=ze (by omega) (by omega)
  have w2:z6 (m'+1+1)=m'+1+1:=ze (by omega) (by omega)
  have w3:z6 (m'+1+1+1)=m'+((3:Nat):Int):=by rw [ze (by omega) (by omega)]; omega
  simp only [zg8,hlt,y9,y7,yg,yd,hg,y6,w1,w2,w3,zr0 hk (show m'+1≤9223372036854775807 by omega),zr0 hk (show m'+1+1≤9223372036854775807 by omega),zht,y10,ya,y8,hw]
 ·intro n
  simp only [zg8,yp,yf,ya,y8]
theorem z1tf {k:Nat} (hk:KK≤k) {L:List Prb} (hL:L.length≤1000000000):∃ (m:Int) (q:List Prb),zjk k 1 L=some ((m,()),(q,()),())∧zg9 k q 1=some m∧¬ m<0 :=
 ⟨_,_,z1td hk (by omega) (by omega) (by omega),z1te hk (by omega) (by omega) (by omega),by omega⟩
theorem z1t {S R:Type} {L:Nat→Int→S→R} {b:Nat} {st:Nat→S} {e:R} (h1:∀ n (i:Nat),i<b→L (n+1) (i:Int) (st i)=L n ((i+1:Nat):Int) (st (i+1))) (h2:∀ n,L (n+1) (b:Int) (st b)=e):∀ {n:Nat},b<n→L n 0 (st 0)=e:=by
 have key:∀ (d i n:Nat),i+d=b→d<n→L n (i:Int) (st i)=e:=by
  intro d
  induction d with
  | zero =>
   intro i n hi hn
   obtain ⟨n,rfl⟩:∃ m,n=m+1:=⟨n-1,by omega⟩
   have:i=b:=by omega
   subst this
   exact h2 n
  | succ d ih =>
   intro i n hi hn
   obtain ⟨n,rfl⟩:∃ m,n=m+1:=⟨n-1,by omega⟩
   rw [h1 n i (by omega)]
   exact ih (i+1) n (by omega) (by omega)
 intro n hn
 exact key b 0 n (by omega) hn
def za2 (v:Int) (a:Option Edg) (x:Option Int):Int:=match a,x with
 | some a,some x=>(if a.2.1=v then x else 0)-(if a.1=v then x else 0)
 | _,_=>0
theorem zvd (v:Int) (a:Edg) (x:Int):za2 v (some a) (some x)=(if a.2.1=v then x else 0)-(if a.1=v then x else 0):=rfl
def z18 (A:List Edg) (f:List Int) (v:Int):Nat→Int
 | 0=>0
 | i+1=>z18 A f v i+za2 v A[i]? f[i]?
theorem zke {A:List Edg} {f:List Int} (hf:∀ x∈f,0≤x∧x≤1000000) (v:Int):∀ i:Nat,-(i:Int)*1000000≤z18 A f v i∧z18 A f v i≤(i:Int)*1000000
 | 0=>by simp [z18]
 | i+1=>by
  have ih:=zke (A:=A) hf v i
  have hd : -1000000≤za2 v A[i]? f[i]?∧za2 v A[i]? f[i]?≤1000000:=by
   cases A[i]? with
   | none=>exact ⟨by simp [za2],by simp [za2]⟩
   | some a =>
    cases hx:f[i]? with
    | none=>exact ⟨by simp [za2],by simp [za2]⟩
    | some x =>
     have hb:=hf x (yl hx)
     rw [zvd]
     split <;> split <;> omega
  have e:z18 A f v (i+1)=z18 A f v i+za2 v A[i]? f[i]?:=rfl
  rw [e]
  omega
def z7l (n:Net) (f:List Int) (i:Nat):Bool:=match n.2.2.2[i]?,f[i]? with | some a,some x=>decide (0≤x∧x≤a.2.2) | _,_=>false
def z8n (n:Net) (f:List Int):Bool:=decide (f.length=n.2.2.2.length)&&((List.range n.2.2.2.length).all (z7l n f)&&(List.range n.1.toNat).all fun j=>decide ((j:Int)=n.2.1)||(decide ((j:Int)=n.2.2.1)||decide (z18 n.2.2.2 f (j:Int) n.2.2.2.length=0)))
theorem z6s {n:Net} (h:z2t n=true):(2≤n.1∧n.1≤12)∧(0≤n.2.1∧n.2.1≤n.1-1)∧(0≤n.2.2.1∧n.2.2.1≤n.1-1)∧n.2.2.2.length≤24∧∀ (i:Nat) a,n.2.2.2[i]?=some a→(0≤a.1∧a.1≤n.1-1)∧(0≤a.2.1∧a.2.1≤n.1-1)∧a.2.2≤1000000∧0≤a.2.2:=by
 unfold z2t at h
 simp only [yi,y18,y16] at h
 obtain ⟨h1,h2,h3,h4,h5,h6⟩:=h
 have hw:z6 (n.1-1)=n.1-1:=ze (by omega) (by omega)
 rw [hw] at h2 h3
 refine ⟨h1,h2,h3,h6,fun i a ha=>?_⟩
 have:=h5 i (y19.2 (yo.1 ha).1)
 unfold z8l at this
 rw [ha] at this
 simp only [yi,y18] at this
 rw [hw] at this
 exact ⟨this.1,this.2.1,this.2.2.2.1.2,this.2.2.2.1.1⟩
theorem z1ad {k:Nat} (hk:KK≤k) {n:Net} {f:List Int} (hn:n.2.2.2.length≤24) (hl:f.length=n.2.2.2.length) (hf:∀ x∈f,0≤x∧x≤1000000) (v:Int):zjr k n f v=some (z18 n.2.2.2 f v n.2.2.2.length):=by
 have hK:=zf
 unfold zjr
 refine z1t (S:=Int) (L:=fun m i s=>z9n k m n f v s i (fun sum_7=>some sum_7)) (b:=n.2.2.2.length) (st:=z18 n.2.2.2 f v) ?_ ?_ (n:=k) (by omega)
 ·intro m i hi
  have hlt:(i:Int)<(n.2.2.2.length:Int):=by omega
  have hw:=zd (i:=i) (by omega)
  have hg:n.2.2.2[i]?=some n.2.2.2[i]:=yh hi
  have hgf:f[i]?=some f[i]:=yh (by omega)
  have hb:=hf f[i] (y1e (by omega))
  have ih:=zke (A:=n.2.2.2) hf v i
  simp only [z9n,hlt,y9,y7,yg,yd,hg,hgf,y6,hw,z18,zvd]
  generalize n.2.2.2[i]=a at *
  generalize f[i]=x at *
  generalize z18 n.2.2.2 f v i=s at *
  by_cases c1:a.2.1=v <;> by_cases c2:a.1=v
  ·simp only [c1,c2,y9,y7]
   rw [show z6 (s+x)=s+x from ze (by omega) (by omega),show z6 (s+x-x)=s+x-x from ze (by omega) (by omega)]
   congr 1; omega
  ·simp only [c1,c2,y9,yf,y7,y8,ya]
   rw [show z6 (s+x)=s+x from ze (by omega) (by omega)]
   congr 1; omega
  ·simp only [c1,c2,y9,yf,y7,y8,ya]
   rw [show z6 (s-x)=s-x from ze (by omega) (by omega)]
   congr 1; omega
  ·simp only [c1,c2,yf,y8,ya]
   congr 1; omega
 ·intro m
  simp only [z9n,yp,yf,ya,y8]
def z2d (n:Net) (f:List Int) (i:Nat):List Int:=(List.range n.1.toNat).map fun (j:Nat)=>z18 n.2.2.2 f (j:Int) i
theorem zr2 {n:Net} {f:List Int} {i:Nat} {v:Int} (h0:0≤v) (h1:v≤n.1-1):(z2d n f i)[v.toNat]?=some (z18 n.2.2.2 f v i):=by
 have:v.toNat<n.1.toNat:=by omega
 unfold z2d
 rw [yr,y21 this,y1y,Int.toNat_of_nonneg h0]
theorem z1tg {n:Net} {f:List Int} {i:Nat} {a:Edg} {x:Int} (ha:n.2.2.2[i]?=some a) (hx:f[i]?=some x) (h1:0≤a.1∧a.1≤n.1-1) (h2:0≤a.2.1∧a.2.1≤n.1-1) :
  (((z2d n f i).set a.2.1.toNat (z18 n.2.2.2 f a.2.1 i+x)).set a.1.toNat ((if a.2.1=a.1 then z18 n.2.2.2 f a.1 i+x else z18 n.2.2.2 f a.1 i)-x))=z2d n f (i+1):=by
 apply y35
 intro j
 have hlen:(z2d n f i).length=n.1.toNat:=by simp [z2d]
 rw [y3q,y3q,y20,hlen]
 unfold z2d
 rw [yr,yr]
 by_cases hj:j<n.1.toNat
 ·rw [y21 hj,y1y,y1y]
  have e1:(a.1.toNat=j)↔a.1=(j:Int):=by omega
  have e2:(a.2.1.toNat=j)↔a.2.1=(j:Int):=by omega
  simp only [z18,zvd,ha,hx,e1,e2,show a.1.toNat<n.1.toNat by omega,show a.2.1.toNat<n.1.toNat by omega,y7]
  by_cases c1:a.1=(j:Int) <;> by_cases c2:a.2.1=(j:Int)
  ·rw [y4 c1,y4 c2,y4 c1,y4 (c2.trans c1.symm),c1]
   congr 1; omega
  ·rw [y4 c1,y5 c2,y4 c1,y5 (fun e=>c2 (e.trans c1)),c1]
   congr 1; omega
  ·rw [y5 c1,y4 c2,y4 c2,y5 c1,c2]
   congr 1; omega
  ·rw [y5 c1,y5 c2,y5 c2,y5 c1]
   congr 1; omega
 ·have hn:(List.range n.1.toNat)[j]?=none:=y2r (by simp; omega)
  rw [hn,y5c,y5c,y5 (by omega),y5 (by omega)]
theorem z1ae {k:Nat} (hk:KK≤k) {n:Net} {f:List Int} (h:z2t n=true) (hl:f.length=n.2.2.2.length) (hf:∀ x∈f,0≤x∧x≤1000000):zje k n f=some (z2d n f n.2.2.2.length):=by
 have hK:=zf
 obtain ⟨p1,p2,p3,p4,p5⟩:=z6s h
 have h0:z2d n f 0=List.replicate n.1.toNat 0:=by
  unfold z2d
  simp only [z18]
  apply y35
  intro j
  by_cases hj:j<n.1.toNat
  ·simp [hj]
  ·simp [hj]
 unfold zje
 rw [if_pos ⟨by omega,by omega,by unfold LIM; omega⟩,← h0]
 refine z1t (S:=List Int) (L:=fun m i s=>zfo k m f n.2.2.2 (n.2.2.2.length:Int) i s (fun q_11=>some q_11)) (b:=n.2.2.2.length) (st:=z2d n f) ?_ ?_ (n:=k) (by omega)
 ·intro m i hi
  have hlt:(i:Int)<(n.2.2.2.length:Int):=by omega
  have hw:=zd (i:=i) (by omega)
  have hg:n.2.2.2[i]?=some n.2.2.2[i]:=yh hi
  have hgf:f[i]?=some f[i]:=yh (by omega)
  have hb:=hf f[i] (y1e (by omega))
  obtain ⟨q1,q2,q3,q4⟩:=p5 i _ hg
  have st:=z1tg (f:=f) hg hgf q1 q2
  have hlen:(z2d n f i).length=n.1.toNat:=by simp [z2d]
  generalize n.2.2.2[i]=a at *
  generalize f[i]=x at *
  have i1:=zke (A:=n.2.2.2) hf a.1 i
  have i2:=zke (A:=n.2.2.2) hf a.2.1 i
  have g1:(z2d n f i)[a.2.1.toNat]?=some (z18 n.2.2.2 f a.2.1 i):=zr2 q2.1 q2.2
  have g2:(z2d n f i)[a.1.toNat]?=some (z18 n.2.2.2 f a.1 i):=zr2 q1.1 q1.2
  have w1:z6 (z18 n.2.2.2 f a.2.1 i+x)=z18 n.2.2.2 f a.2.1 i+x:=ze (by omega) (by omega)
  have g3:((z2d n f i).set a.2.1.toNat (z18 n.2.2.2 f a.2.1 i+x))[a.1.toNat]?=some (if a.2.1=a.1 then z18 n.2.2.2 f a.1 i+x else z18 n.2.2.2 f a.1 i):=by
   rw [y3q]
   by_cases e:a.2.1=a.1
   ·rw [y4 (by rw [e]),y4 (by rw [hlen]; omega),y4 e,e]
   ·rw [y5 (by omega),g2,y5 e]
  have w2:z6 ((if a.2.1=a.1 then z18 n.2.2.2 f a.1 i+x else z18 n.2.2.2 f a.1 i)-x)=(if a.2.1=a.1 then z18 n.2.2.2 f a.1 i+x else z18 n.2.2.2 f a.1 i)-x:=by
   split <;> exact ze (by omega) (by omega)
  have c1:0≤a.2.1∧a.2.1.toNat<(z2d n f i).length:=⟨q2.1,by rw [hlen]; omega⟩
  have c2:0≤a.1∧a.1.toNat<((z2d n f i).set a.2.1.toNat (z18 n.2.2.2 f a.2.1 i+x)).length:=⟨q1.1,by rw [y20,hlen]; omega⟩
  simp only [zfo,hlt,y9,y7,yg,yd,hg,hgf,y6,hw,g1,w1,c1.1,c1.2,c2.1,c2.2,yw,g3,w2,st]
 ·intro m
  simp only [zfo,yp,yf,ya,y8]
theorem zve {n:Net} {f:List Int} (h:z2t n=true) (hl:f.length=n.2.2.2.length) (hc:(List.range n.2.2.2.length).all (z7l n f)=true):∀ x∈f,0≤x∧x≤1000000:=by
 obtain ⟨_,_,_,_,p5⟩:=z6s h
 intro x hx
 obtain ⟨i,hi⟩:=y2s hx
 have hlt:=(yo.1 hi).1
 have:=y16.1 hc i (y19.2 (by omega))
 unfold z7l at this
 have hg:n.2.2.2[i]?=some n.2.2.2[i]:=yh (by omega)
 rw [hg,hi] at this
 have h2:=(p5 i _ hg).2.2.1
 simp only [y18] at this
 omega
theorem z1th {k:Nat} (hk:KK≤k) {n:Net} {f:List Int} (h:z2t n=true) (hfl:f.length≤1048576):zp3 k n f=some (z8n n f):=by
 have hK:=zf
 obtain ⟨p1,p2,p3,p4,p5⟩:=z6s h
 unfold zp3 z8n
 by_cases hl:f.length=n.2.2.2.length
 case neg =>
  have:¬ (f.length:Int)=(n.2.2.2.length:Int):=by omega
  rw [yb this,yb hl]; simp
 rw [yc (by omega:(f.length:Int)=(n.2.2.2.length:Int)),yc hl]
 simp only [y10,ya,y8,y1i]
 have hl0:zd6 k k n f 0 (fun n_4 flow_5=>z6l k k n_4 flow_5 0 (some true))=if (List.range n.2.2.2.length).all (z7l n f)=true then z6l k k n f 0 (some true) else some false:=by
  refine z4f (L:=fun m i=>zd6 k m n f i (fun n_4 flow_5=>z6l k k n_4 flow_5 0 (some true))) (b:=n.2.2.2.length) (p:=z7l n f) (r:=some false) ?_ ?_ (n:=k) (by omega)
  ·intro m i hi
   have hlt:(i:Int)<(f.length:Int):=by omega
   have hw:=zd (i:=i) (by omega)
   have hg:n.2.2.2[i]?=some n.2.2.2[i]:=yh hi
   have hgf:f[i]?=some f[i]:=yh (by omega)
   simp only [zd6,hlt,y9,y7,yg,yd,hg,hgf,y6,hw,z7g,z7l]
   cases decide (0≤f[i]∧f[i]≤(n.2.2.2[i]).2.2) <;> simp
  ·intro m
   have:¬ (n.2.2.2.length:Int)<(f.length:Int):=by omega
   simp only [zd6,this,yf,ya,y8]
 rw [hl0]
 cases hc:(List.range n.2.2.2.length).all (z7l n f)
 ·simp
 have hf:=zve h hl hc
 simp only [y7,y1i]
 have hN:(n.1.toNat:Int)=n.1:=Int.toNat_of_nonneg (by omega)
 have hl1:z6l k k n f 0 (some true)=if (List.range n.1.toNat).all (fun j=>decide ((j:Int)=n.2.1)||(decide ((j:Int)=n.2.2.1)||decide (z18 n.2.2.2 f (j:Int) n.2.2.2.length=0)))=true then some true else some false:=by
  refine z4f (L:=fun m i=>z6l k m n f i (some true)) (b:=n.1.toNat) (r:=some false) ?_ ?_ (n:=k) (by omega)
  ·intro m i hi
   have hlt:(i:Int)<n.1:=by omega
   have hw:=zd (i:=i) (by omega)
   simp only [z6l,hlt,y9,y7,z1ad hk p4 hl hf,y6,hw]
   cases decide ((i:Int)=n.2.1) <;> cases decide ((i:Int)=n.2.2.1) <;> cases decide (z18 n.2.2.2 f (i:Int) n.2.2.2.length=0) <;> simp
  ·intro m
   have:¬ (n.1.toNat:Int)<n.1:=by omega
   simp only [z6l,this,yf,ya,y8]
 rw [hl1]
 cases (List.range n.1.toNat).all (fun j=>decide ((j:Int)=n.2.1)||(decide ((j:Int)=n.2.2.1)||decide (z18 n.2.2.2 f (j:Int) n.2.2.2.length=0))) <;> simp
theorem z1ti {k:Nat} (hk:KK≤k) {n:Net} {f:List Int} (h:z2t n=true) (hfl:f.length≤1048576):znh k n f=some (z8n n f):=by
 have hK:=zf
 obtain ⟨p1,p2,p3,p4,p5⟩:=z6s h
 unfold znh z8n
 by_cases hl:f.length=n.2.2.2.length
 case neg =>
  have:¬ (f.length:Int)=(n.2.2.2.length:Int):=by omega
  rw [yb this,yb hl]; simp
 rw [yc (by omega:(f.length:Int)=(n.2.2.2.length:Int)),yc hl]
 simp only [y10,ya,y8,y1i]
 have hl0:∀ E:List Int→Net→Option Bool,zcj k k f n.2.2.2 (n.2.2.2.length:Int) 0 n E=if (List.range n.2.2.2.length).all (z7l n f)=true then E f n else some false:=by
  intro E
  refine z4f (L:=fun m i=>zcj k m f n.2.2.2 (n.2.2.2.length:Int) i n E) (b:=n.2.2.2.length) (p:=z7l n f) (r:=some false) ?_ ?_ (n:=k) (by omega)
  ·intro m i hi
   have hlt:(i:Int)<(n.2.2.2.length:Int):=by omega
   have hw:=zd (i:=i) (by omega)
   have hg:n.2.2.2[i]?=some n.2.2.2[i]:=yh hi
   have hgf:f[i]?=some f[i]:=yh (by omega)
   simp only [zcj,hlt,y9,y7,yg,yd,hg,hgf,y6,hw,z6m,z7l]
   cases decide (0≤f[i]∧f[i]≤(n.2.2.2[i]).2.2) <;> simp
  ·intro m
   simp only [zcj,yp,yf,ya,y8]
 rw [hl0]
 cases hc:(List.range n.2.2.2.length).all (z7l n f)
 ·simp
 have hf:=zve h hl hc
 simp only [y7,y1i,z1ae hk h hl hf,y6]
 have hlen:(z2d n f n.2.2.2.length).length=n.1.toNat:=by simp [z2d]
 rw [hlen]
 have hl1:z9f k k (n.1.toNat:Int) 0 (z2d n f n.2.2.2.length) n (some true)=if (List.range n.1.toNat).all (fun j=>decide ((j:Int)=n.2.1)||(decide ((j:Int)=n.2.2.1)||decide (z18 n.2.2.2 f (j:Int) n.2.2.2.length=0)))=true then some true else some false:=by
  refine z4f (L:=fun m i=>z9f k m (n.1.toNat:Int) i (z2d n f n.2.2.2.length) n (some true)) (b:=n.1.toNat) (r:=some false) ?_ ?_ (n:=k) (by omega)
  ·intro m i hi
   have hlt:(i:Int)<(n.1.toNat:Int):=by omega
   have hw:=zd (i:=i) (by omega)
   have hg:(z2d n f n.2.2.2.length)[i]?=some (z18 n.2.2.2 f (i:Int) n.2.2.2.length):=by
    have:=zr2 (n:=n) (f:=f) (i:=n.2.2.2.length) (v:=(i:Int)) (by omega) (by omega)
    simpa using this
   have hin:i<(z2d n f n.2.2.2.length).length:=by rw [hlen]; exact hi
   simp only [z9f,hlt,y9,y7,yg,yd,hin,yw,hg,y6,hw]
   cases decide ((i:Int)=n.2.1) <;> cases decide ((i:Int)=n.2.2.1) <;> cases decide (z18 n.2.2.2 f (i:Int) n.2.2.2.length=0) <;> simp
  ·intro m
   simp only [z9f,yp,yf,ya,y8]
 rw [hl1]
 cases (List.range n.1.toNat).all (fun j=>decide ((j:Int)=n.2.1)||(decide ((j:Int)=n.2.2.1)||decide (z18 n.2.2.2 f (j:Int) n.2.2.2.length=0))) <;> simp
def zdz (n:Net) (s:List Int):Bool:=decide ((∀ x∈s,0≤x∧x≤n.1-1)∧s.Pairwise (fun a b:Int=>a<b))&&(s.contains n.2.1&&!s.contains n.2.2.1)
theorem z1tj {k:Nat} (hk:KK≤k) {n:Net} {s:List Int} (h:z2t n=true) (hs:s.length≤1048576):zp4 k n s=some (zdz n s):=by
 obtain ⟨p1,_⟩:=z6s h
 have hw:z6 (n.1-1)=n.1-1:=ze (by omega) (by omega)
 unfold zp4 zdz
 rw [hw,z199 hk (by omega)]
 simp only [y6,z1a1 hk (show s.length≤1000000000 by omega)]
 cases decide ((∀ x∈s,0≤x∧x≤n.1-1)∧s.Pairwise (fun a b:Int=>a<b)) <;> cases s.contains n.2.1 <;> simp
theorem z1tk {k:Nat} (hk:KK≤k) {n:Net} {s:List Int} (h:z2t n=true) (hs:s.length≤1048576):zni k n s=some (zdz n s):=by
 obtain ⟨p1,_⟩:=z6s h
 have e:decide ((∀ x∈s,0≤x∧x≤n.1-1)∧s.Pairwise (fun a b:Int=>a<b))=(decide (s.Pairwise (fun a b:Int=>a<b))&&s.all (fun x=>decide (0≤x∧x≤n.1-1))):=by
  rw [y3p]
  simp only [y18,yi,y16]
  exact ⟨fun h=>⟨h.2,h.1⟩,fun h=>⟨h.2,h.1⟩⟩
 unfold zni zdz
 rw [z19a hk (by omega),e]
 simp only [y6,zum hk hs (show -1000000≤n.1∧n.1≤1000000 by omega),z1a2 hk (show s.length≤1000000000 by omega)]
 cases decide (s.Pairwise (fun a b:Int=>a<b)) <;> cases s.all (fun x=>decide (0≤x∧x≤n.1-1)) <;> cases s.contains n.2.1 <;> simp
def z3e (A:List Edg) (s:List Int):Nat→Int
 | 0=>0
 | i+1=>z3e A s i+(match A[i]? with | some a=>(if (s.contains a.1&&!s.contains a.2.1)=true then a.2.2 else 0) | none=>0)
theorem zr3 {n:Net} (h:z2t n=true) (s:List Int):∀ i:Nat,0≤z3e n.2.2.2 s i∧z3e n.2.2.2 s i≤(i:Int)*1000000
 | 0=>by simp [z3e]
 | i+1=>by
  have ih:=zr3 h s i
  obtain ⟨_,_,_,_,p5⟩:=z6s h
  simp only [z3e]
  split
  ·rename_i a ha
   have:=p5 i a ha
   split <;> omega
  ·omega
theorem z1tl {k:Nat} (hk:KK≤k) {n:Net} {s:List Int} (h:z2t n=true) (hs:s.length≤1048576):zp5 k n s=some (z3e n.2.2.2 s n.2.2.2.length):=by
 have hK:=zf
 obtain ⟨p1,p2,p3,p4,p5⟩:=z6s h
 unfold zp5
 refine z1t (S:=Int) (L:=fun m i c=>zb3 k m n s c i (fun sum_6=>some sum_6)) (b:=n.2.2.2.length) (st:=z3e n.2.2.2 s) ?_ ?_ (n:=k) (by omega)
 ·intro m i hi
  have hlt:(i:Int)<(n.2.2.2.length:Int):=by omega
  have hw:=zd (i:=i) (by omega)
  have hg:n.2.2.2[i]?=some n.2.2.2[i]:=yh hi
  have hb:=p5 i _ hg
  have ih:=zr3 h s i
  simp only [zb3,hlt,y9,y7,yg,yd,hg,y6,hw,z1a1 hk (show s.length≤1000000000 by omega),z3e]
  generalize n.2.2.2[i]=a at *
  generalize z3e n.2.2.2 s i=c at *
  have w1:z6 (c+a.2.2)=c+a.2.2:=ze (by omega) (by omega)
  cases s.contains a.1 <;> cases s.contains a.2.1 <;> simp [w1]
 ·intro m
  simp only [zb3,yp,yf,ya,y8]
theorem z1tm {k:Nat} (hk:KK≤k) {n:Net} {s:List Int} (h:z2t n=true) (hs:s.length≤1048576):znj k n s=some (z3e n.2.2.2 s n.2.2.2.length):=by
 have hK:=zf
 obtain ⟨p1,p2,p3,p4,p5⟩:=z6s h
 unfold znj
 refine z1t (S:=Int) (L:=fun m i c=>zay k m s c n.2.2.2 (n.2.2.2.length:Int) i (fun sum_4=>some sum_4)) (b:=n.2.2.2.length) (st:=z3e n.2.2.2 s) ?_ ?_ (n:=k) (by omega)
 ·intro m i hi
  have hlt:(i:Int)<(n.2.2.2.length:Int):=by omega
  have hw:=zd (i:=i) (by omega)
  have hg:n.2.2.2[i]?=some n.2.2.2[i]:=yh hi
  have hb:=p5 i _ hg
  have ih:=zr3 h s i
  simp only [zay,hlt,y9,y7,yg,yd,hg,y6,hw,z1a2 hk (show s.length≤1000000000 by omega),z3e]
  generalize n.2.2.2[i]=a at *
  generalize z3e n.2.2.2 s i=c at *
  have w1:z6 (c+a.2.2)=c+a.2.2:=ze (by omega) (by omega)
  cases s.contains a.1 <;> cases s.contains a.2.1 <;> simp [w1]
 ·intro m
  simp only [zay,yp,yf,ya,y8]
noncomputable def za3 (n:Net) (f s:List Int):List Prb :=
 if z8n n f=true then (if zdz n s=true then (if z3e n.2.2.2 s n.2.2.2.length-z18 n.2.2.2 f n.2.2.1 n.2.2.2.length=0 then [] else [(4,([114,101,115,116],Lib.itoa (z3e n.2.2.2 s n.2.2.2.length-z18 n.2.2.2 f n.2.2.1 n.2.2.2.length)))]) else [(4,([115,105,100,101],[110,111,110,101]))]) else [(4,([102,108,111,119],[110,111,110,101]))]
theorem zvf {n:Net} {f:List Int} (h:z2t n=true) (hb:z8n n f=true):f.length=n.2.2.2.length∧∀ x∈f,0≤x∧x≤1000000:=by
 unfold z8n at hb
 simp only [yi,y18] at hb
 exact ⟨hb.1,zve h hb.1 hb.2.1⟩
theorem zvg {n:Net} {f s:List Int} (h:z2t n=true) (hb:z8n n f=true):z6 (z3e n.2.2.2 s n.2.2.2.length-z18 n.2.2.2 f n.2.2.1 n.2.2.2.length)=z3e n.2.2.2 s n.2.2.2.length-z18 n.2.2.2 f n.2.2.1 n.2.2.2.length ∧ -9223372036854775808≤z3e n.2.2.2 s n.2.2.2.length-z18 n.2.2.2 f n.2.2.1 n.2.2.2.length∧z3e n.2.2.2 s n.2.2.2.length-z18 n.2.2.2 f n.2.2.1 n.2.2.2.length≤9223372036854775807:=by
 obtain ⟨h1,h2⟩:=zvf h hb
 obtain ⟨_,_,_,p4,_⟩:=z6s h
 have b1:=zr3 h s n.2.2.2.length
 have b2:=zke (A:=n.2.2.2) h2 n.2.2.1 n.2.2.2.length
 have:(n.2.2.2.length:Int)*1000000≤24*1000000:=by omega
 exact ⟨ze (by omega) (by omega),by omega,by omega⟩
theorem z1tn {k:Nat} (hk:KK≤k) {w:She×Int×List Int×List Int×Net×List Int×List Int×(Int×Int×List Edg)×List Int} (h:z2t w.2.2.2.2.1=true) (h1:w.2.2.2.2.2.1.length≤1048576) (h2:w.2.2.2.2.2.2.1.length≤1048576):zp6 k w=some (za3 w.2.2.2.2.1 w.2.2.2.2.2.1 w.2.2.2.2.2.2.1):=by
 obtain ⟨_,_,p3,p4,_⟩:=z6s h
 unfold zp6 za3
 rw [z1th hk h h1]
 cases hb:z8n w.2.2.2.2.1 w.2.2.2.2.2.1
 ·simp
 obtain ⟨q1,q2⟩:=zvf h hb
 obtain ⟨r1,r2,r3⟩:=zvg (s:=w.2.2.2.2.2.2.1) h hb
 simp only [y6,y10,ya,y8,y7,z1tj hk h h2]
 cases hc:zdz w.2.2.2.2.1 w.2.2.2.2.2.2.1
 ·simp
 simp only [y10,ya,y8,y7,z1tl hk h h2,z1ad hk p4 q1 q2,y6,r1]
 by_cases h0:z3e w.2.2.2.2.1.2.2.2 w.2.2.2.2.2.2.1 w.2.2.2.2.1.2.2.2.length-z18 w.2.2.2.2.1.2.2.2 w.2.2.2.2.2.1 w.2.2.2.2.1.2.2.1 w.2.2.2.2.1.2.2.2.length=0
 ·rw [yc h0]; simp [h0]
 ·rw [yb h0,z1a5 hk r2 r3]; simp [h0]
theorem z1to {k:Nat} (hk:KK≤k) {w:She×Int×List Int×List Int×Net×List Int×List Int×(Int×Int×List Edg)×List Int} (h:z2t w.2.2.2.2.1=true) (h1:w.2.2.2.2.2.1.length≤1048576) (h2:w.2.2.2.2.2.2.1.length≤1048576):zjg k w=some (za3 w.2.2.2.2.1 w.2.2.2.2.2.1 w.2.2.2.2.2.2.1):=by
 obtain ⟨_,_,p3,p4,_⟩:=z6s h
 unfold zjg za3
 rw [z1ti hk h h1]
 cases hb:z8n w.2.2.2.2.1 w.2.2.2.2.2.1
 ·simp
 obtain ⟨q1,q2⟩:=zvf h hb
 obtain ⟨r1,r2,r3⟩:=zvg (s:=w.2.2.2.2.2.2.1) h hb
 simp only [y6,y10,ya,y8,y7,z1tk hk h h2]
 cases hc:zdz w.2.2.2.2.1 w.2.2.2.2.2.2.1
 ·simp
 have hlen:(z2d w.2.2.2.2.1 w.2.2.2.2.2.1 w.2.2.2.2.1.2.2.2.length).length=w.2.2.2.2.1.1.toNat:=by simp [z2d]
 have hg:=zr2 (n:=w.2.2.2.2.1) (f:=w.2.2.2.2.2.1) (i:=w.2.2.2.2.1.2.2.2.length) p3.1 p3.2
 have hin:0≤w.2.2.2.2.1.2.2.1∧w.2.2.2.2.1.2.2.1.toNat<(z2d w.2.2.2.2.1 w.2.2.2.2.2.1 w.2.2.2.2.1.2.2.2.length).length:=⟨p3.1,by rw [hlen]; omega⟩
 simp only [y10,ya,y8,y7,z1tm hk h h2,z1ae hk h q1 q2,y6]
 rw [y4 hin]
 simp only [hg,y6,r1]
 by_cases h0:z3e w.2.2.2.2.1.2.2.2 w.2.2.2.2.2.2.1 w.2.2.2.2.1.2.2.2.length-z18 w.2.2.2.2.1.2.2.2 w.2.2.2.2.2.1 w.2.2.2.2.1.2.2.1 w.2.2.2.2.1.2.2.2.length=0
 ·rw [yc h0]; simp [h0]
 ·rw [yb h0,z1a6 r2 r3]; simp [h0]
theorem z1tp (n:Net) (f s:List Int):(za3 n f s).length≤1:=by
 unfold za3
 split
 ·split
  ·split <;> simp
  ·simp
 ·simp
def z7m (c:Cx) (d:Int) (i:Nat):Bool:=match c[i]? with
 | some s=>decide ((s.length:Int)=d+1)
 | none=>false
theorem z1tq (c:Cx) (d:Int):ofC c d=(List.range c.length).filter (z7m c d):=rfl
def ofN (c:Cx) (d:Int) (n:Nat):List Nat:=(List.range n).filter (z7m c d)
theorem zvh {c:Cx} {d:Int} {n i:Nat} (h:i∈ofN c d n):i<n:=y19.1 (y2c.1 h).1
theorem z1af (c:Cx) (d:Int) (n:Nat):ofN c d (n+1)=ofN c d n++(if z7m c d n=true then [n] else []):=zk6 _ _
theorem z1ag {c:Cx} {d:Int} {j:Nat} (hj:j<c.length) (h:z7m c d j=true):∃ post,ofC c d=ofN c d j++j::post∧∀ i∈post,i<c.length:=by
 have e:c.length=(j+1)+(c.length-(j+1)):=by omega
 refine ⟨((List.range (c.length-(j+1))).map (j+1+·)).filter (z7m c d),?_,?_⟩
 ·rw [z1tq,e,List.range_add,y57]
  have:=z1af c d j
  unfold ofN at this
  rw [this,y4 h]
  simp [ofN]
 ·intro i hi
  obtain ⟨x,hx,rfl⟩:=y1c.1 (y2c.1 hi).1
  have:=y19.1 hx
  omega
theorem z1tr (st:List Int) (l m:List Nat):zh st (l++m)=zh st l+zh st m:=by unfold zh; simp
def zkf (s:She) (j:Nat):Int:=match s.1[j]? with
 | some t=>zh s.2.2.1 (ofN s.1 ((t.length:Int)-1) j)
 | none=>0
def oN (s:She) (j:Nat):Nat:=(zkf s j).toNat
theorem zvi {s:She} {j:Nat} {t:List Int} (hj:s.1[j]?=some t):zkf s j=zh s.2.2.1 (ofN s.1 ((t.length:Int)-1) j):=by unfold zkf; rw [hj]
theorem ze0 {s:She} (hS:StP s.1 s.2.2.1) {j:Nat} {t:List Int} (hj:s.1[j]?=some t) {d:Int} (hd:(t.length:Int)=d+1):zkf s j=(oN s j:Int)∧s.2.2.1.getD j 0=(stN s j:Int)∧(oN s j:Int)+(stN s j:Int)≤zh s.2.2.1 (ofC s.1 d):=by
 have hjl:=(yo.1 hj).1
 have hb:z7m s.1 d j=true:=by unfold z7m; rw [hj]; exact decide_eq_true hd
 obtain ⟨post,e,hp⟩:=z1ag hjl hb
 obtain ⟨_,s2,s3⟩:=z7k hS hjl
 have b1:=z9v hS (ofN s.1 d j) (fun i hi=>by have:=zvh hi; omega)
 have b2:=z9v hS post hp
 have e1:zkf s j=zh s.2.2.1 (ofN s.1 d j):=by rw [zvi hj,show (t.length:Int)-1=d by omega]
 have e2:zh s.2.2.1 (ofC s.1 d)=zh s.2.2.1 (ofN s.1 d j)+(s.2.2.1.getD j 0+zh s.2.2.1 post):=by
  rw [e,z1tr]
  congr 1
 unfold oN stN
 rw [e1] at *
 omega
theorem zkg {k:Nat} (hk:KK≤k) {s:She} (hC:CxP s.1) (hS:StP s.1 s.2.2.1) {j:Nat} {t:List Int} (hj:s.1[j]?=some t):zgn k s (j:Int)=some (oN s j:Int):=by
 have hK:=zf
 have hjl:=(yo.1 hj).1
 have hcl:=hC.len
 obtain ⟨o1,_,_⟩:=ze0 hS hj (d:=(t.length:Int)-1) (by omega)
 unfold zgn
 have:=z1t (S:=Int) (L:=fun m i z=>zcx k m s (j:Int) z i (fun at_4=>some at_4)) (b:=j) (st:=fun i=>zh s.2.2.1 (ofN s.1 ((t.length:Int)-1) i)) (e:=some (oN s j:Int)) ?_ ?_ (n:=k) (by omega)
 ·simpa [ofN,zh] using this
 ·intro m i hi
  have hlt:(i:Int)<(j:Int):=by omega
  have hw:=zd (i:=i) (by omega)
  have hg:s.1[i]?=some s.1[i]:=yh (by omega)
  obtain ⟨s1,s2,s3⟩:=z7k hS (i:=i) (by omega)
  have b1:=z9v hS (ofN s.1 ((t.length:Int)-1) i) (fun x hx=>by have:=zvh hx; omega)
  have b2:(ofN s.1 ((t.length:Int)-1) i).length≤i:=by unfold ofN; exact Nat.le_trans (List.length_filter_le ..) (by rw [List.length_range]; exact Nat.le_refl _)
  have hwz:z6 (zh s.2.2.1 (ofN s.1 ((t.length:Int)-1) i)+s.2.2.1.getD i 0)=zh s.2.2.1 (ofN s.1 ((t.length:Int)-1) i)+s.2.2.1.getD i 0:=ze (by omega) (by omega)
  simp only [zcx,hlt,y9,y7,yg,yd,hg,hj,y6,hw,s1,hwz,z1af]
  have hd:z7m s.1 ((t.length:Int)-1) i=decide ((s.1[i].length:Int)=(t.length:Int)):=by
   unfold z7m; rw [hg]
   exact decide_eq_decide.2 (by omega)
  rw [hd]
  by_cases c:(s.1[i].length:Int)=(t.length:Int)
  ·rw [yc c,y4 rfl,y4 rfl,zql]
  ·rw [yb c,y5 (by simp),y5 (by simp),y1t]
 ·intro m
  simp only [zcx,yp,yf,ya,y8,← zvi hj,o1]
theorem zkh {k:Nat} (hk:KK≤k) {s:She} (hC:CxP s.1) (hS:StP s.1 s.2.2.1) {j:Nat} {t:List Int} (hj:s.1[j]?=some t):zfm k s (j:Int)=some (oN s j:Int):=by
 have hK:=zf
 have hjl:=(yo.1 hj).1
 have hcl:=hC.len
 have h4:=(hC.simp t (yl hj)).len4
 obtain ⟨o1,_,_⟩:=ze0 hS hj (d:=(t.length:Int)-1) (by omega)
 have hb:z7m s.1 ((t.length:Int)-1) j=true:=by unfold z7m; rw [hj]; exact decide_eq_true (by omega)
 obtain ⟨post,e,_⟩:=z1ag hjl hb
 have hwl:z6 ((t.length:Int)-1)=(t.length:Int)-1:=ze (by omega) (by omega)
 unfold zfm z8a
 simp only [yg,y7,yd,hj,y6,hwl,zhm hk (z2l hC) (show -1000≤(t.length:Int)-1∧(t.length:Int)-1≤1000 by omega),ym]
 generalize hpre:ofN s.1 ((t.length:Int)-1) j=pre at *
 have hmem:∀ x∈pre,x<j:=fun x hx=>zvh (hpre▸hx)
 rw [e]
 have hpl:pre.length≤j:=by rw [← hpre]; unfold ofN; exact Nat.le_trans (List.length_filter_le ..) (by rw [List.length_range]; exact Nat.le_refl _)
 have:=z1t (S:=Int) (L:=fun m i z=>zhg k m (j:Int) z ((pre++j::post).length:Int) i ((pre++j::post).map fun i:Nat=>(i:Int)) s (fun n_7=>some n_7)) (b:=pre.length) (st:=fun i=>zh s.2.2.1 (pre.take i)) (e:=some (oN s j:Int)) ?_ ?_ (n:=k) (by omega)
 ·simpa [zh] using this
 ·intro m i hi
  have hlt:(i:Int)<((pre++j::post).length:Int):=by rw [yk]; omega
  have hin:i<(pre++j::post).length:=by rw [yk]; omega
  have hw:=zd (i:=i) (by omega)
  have hgp:pre[i]?=some pre[i]:=yh hi
  have hx:=hmem _ (y1e hi)
  have hF:((pre++j::post).map fun i:Nat=>(i:Int))[i]?=some ((pre[i]:Nat):Int):=by rw [yr,y1w hi,hgp]; rfl
  obtain ⟨s1,s2,s3⟩:=z7k hS (i:=pre[i]) (by omega)
  have b1:=z9v hS (pre.take i) (fun x hx=>by have:=hmem x (y2a hx); omega)
  have b2:(pre.take i).length≤i:=by rw [y1d]; omega
  have hne:¬ ((pre[i]:Nat):Int)=(j:Int):=by omega
  have hst:zh s.2.2.1 (pre.take (i+1))=zh s.2.2.1 (pre.take i)+s.2.2.1.getD pre[i] 0:=by rw [y4e,hgp]; exact zql ..
  have hwz:z6 (zh s.2.2.1 (pre.take i)+s.2.2.1.getD pre[i] 0)=zh s.2.2.1 (pre.take i)+s.2.2.1.getD pre[i] 0:=ze (by omega) (by omega)
  simp only [zhg,hlt,y9,y7,yg,yd,ym,hin,yw,hF,y6,hne,yf,ya,y8,s1,hw,hwz,hst]
 ·intro m
  have hlt:(pre.length:Int)<((pre++j::post).length:Int):=by rw [yk,y1g]; omega
  have hin:pre.length<(pre++j::post).length:=by rw [yk,y1g]; omega
  have hF:((pre++j::post).map fun i:Nat=>(i:Int))[pre.length]?=some (j:Int):=by rw [yr,y1r (yx _),y45]; rfl
  simp only [zhg,hlt,y9,y7,yg,yd,ym,hin,yw,hF,y6,y2k]
  rw [← o1,zvi hj,hpre]
theorem zvj {k:Nat} (hk:KK≤k) (p:Int) {R C:Nat} (hR:R≤32) (hC:C≤32):zq5 k p (R:Int) (C:Int)=some (p,(R:Int),(C:Int),List.replicate (R*C) 0):=by
 have hK:=zf
 have hL:=z1r
 unfold zq5 zug
 have row:∀ (i:Nat) (x16 x17:Int) (q3 q:List Int) (u1 u2 u3 u4 u5 u6:Int) (E:Int→Unit→Int→Int→List Int→List Int→Int→Int→Int→Int→Int→Int→Option Mat),q.length≤1024→zdk k k (C:Int) () (i:Int) x16 x17 (C:Int) 0 q3 q u1 u2 u3 u4 u5 u6 E=E (C:Int) () x16 x17 q3 (q++List.replicate C 0) u1 u2 u3 u4 u5 u6:=by
  intro i x16 x17 q3 q u1 u2 u3 u4 u5 u6 E hq
  have:=z1t (S:=List Int) (L:=fun m j r=>zdk k m (C:Int) () (i:Int) x16 x17 (C:Int) j q3 r u1 u2 u3 u4 u5 u6 E) (b:=C) (st:=fun j=>q++List.replicate j 0) (e:=E (C:Int) () x16 x17 q3 (q++List.replicate C 0) u1 u2 u3 u4 u5 u6) ?_ ?_ (n:=k) (by omega)
  ·simpa using this
  ·intro m j hj
   have hlt:(j:Int)<(C:Int):=by omega
   have hw:=zd (i:=j) (by omega)
   have hlim:((q++List.replicate j (0:Int)).length+1)*8≤LIM:=by rw [yk,y23]; omega
   simp only [zdk,zuf,hlt,y9,y7,y6,yy,hlim,hw,List.replicate_succ',y12]
  ·intro m
   simp only [zdk,yp,yf,ya,y8]
 have:=z1t (S:=List Int) (L:=fun m i r=>zhf k m (C:Int) () (R:Int) i [] r 0 0 0 p (R:Int) (C:Int) (fun q_15 q_16 v_8a_17 v_8ba_18 v_8bba_19 v_9a_20 v_9ba_21 v_9bba_22=>some (v_9a_20,(v_9ba_21,(v_9bba_22,q_16))))) (b:=R) (st:=fun i=>List.replicate (i*C) 0) (e:=some (p,(R:Int),(C:Int),List.replicate (R*C) 0)) ?_ ?_ (n:=k) (by omega)
 ·simp only [y48,List.replicate_zero] at this
  rw [this]
  first | done | rfl
 ·intro m i hi
  have hlt:(i:Int)<(R:Int):=by omega
  have hw:=zd (i:=i) (by omega)
  have h1:i*C≤32*32:=y1p (by omega) hC
  simp only [zhf,hlt,y9,y7,row i _ _ _ _ _ _ _ _ _ _ _ (show (List.replicate (i*C) (0:Int)).length≤1024 by rw [y23]; omega),hw,y2d,y60]
 ·intro m
  simp only [zhf,yp,yf,ya,y8]
theorem zvk (p:Int) {R C:Nat} (hR:R≤32) (hC:C≤32):zgi p (R:Int) (C:Int)=some (p,(R:Int),(C:Int),List.replicate (R*C) 0):=by
 have hL:=z1r
 have h1:R*C≤32*32:=y1p hR hC
 unfold zgi
 rw [z6q hR hC,y4 ⟨by omega,by omega,by omega⟩,yd]
def z5i (p:Int) (i:Nat):Int:=if decide (Int.tmod (i:Int) 2=0)=true then 1 else p-1
theorem z1ts {p:Int} (hp:2≤p∧p≤251) (i:Nat):zq6 (i:Int) p=some (z5i p i):=by
 unfold zq6 z5i
 rw [ze (by omega) (by omega)]
 split <;> rfl
theorem z1ah {p:Int} (hp:2≤p∧p≤251) (i:Nat):zoj (i:Int) p=some (z5i p i):=by
 have e:Int.tmod 1 p=1:=by rw [y2t (a:=1) (by omega),y53 (a:=1) (by omega) (by omega)]
 have hp0:¬ p=0:=by omega
 unfold zoj z5i
 rw [ze (by omega) (by omega),e]
 by_cases c:Int.tmod (i:Int) 2=0
 ·rw [yc c,y4 rfl,y4 rfl,y5 hp0]
 ·rw [yb c,y5 (by simp),y5 (by simp)]
theorem z1ai {p:Int} (hp:2≤p∧p≤251) (i:Nat):1≤z5i p i∧z5i p i≤250:=by
 unfold z5i; split <;> omega
def z5t (p sg:Int) (m:Mat) (C C' top left a:Nat):Nat→List Int→List Int
 | 0,Q=>Q
 | b+1,Q=>(z5t p sg m C C' top left a b Q).set ((top+a)*C+left+b) (Int.tmod (z6 (m.2.2.2.getD (a*C'+b) 0*sg)) p)
theorem zr4 (p sg:Int) (m:Mat) (C C' top left a:Nat) (Q:List Int):∀ b,(z5t p sg m C C' top left a b Q).length=Q.length
 | 0=>rfl
 | b+1=>by unfold z5t; rw [List.length_set]; exact zr4 p sg m C C' top left a Q b
def z7n (p sg:Int) (m:Mat) (C C' top left:Nat):Nat→List Int→List Int
 | 0,Q=>Q
 | a+1,Q=>z5t p sg m C C' top left a C' (z7n p sg m C C' top left a Q)
theorem zr5 (p sg:Int) (m:Mat) (C C' top left:Nat) (Q:List Int):∀ a,(z7n p sg m C C' top left a Q).length=Q.length
 | 0=>rfl
 | a+1=>by unfold z7n; rw [zr4]; exact zr5 p sg m C C' top left Q a
def z3m (s:She) (C j:Nat) (F:List Nat):Nat→List Int→List Int
 | 0,Q=>Q
 | i+1,Q=>z7n s.2.1 (z5i s.2.1 i) (mpS s j i) C (stN s (F.getD i 0)) (oN s j) (oN s (F.getD i 0)) (stN s j) (z3m s C j F i Q)
theorem zhu (s:She) (C j:Nat) (F:List Nat) (Q:List Int):∀ i,(z3m s C j F i Q).length=Q.length
 | 0=>rfl
 | i+1=>by unfold z3m; rw [zr5]; exact zhu s C j F Q i
def fcs (s:She) (j:Nat):List Nat:=zg s.1 (s.1.getD j [])
def z3x (s:She) (C:Nat) (O:List Nat):Nat→List Int→List Int
 | 0,Q=>Q
 | n+1,Q=>z3m s C (O.getD n 0) (fcs s (O.getD n 0)) (fcs s (O.getD n 0)).length (z3x s C O n Q)
theorem ze1 (s:She) (C:Nat) (O:List Nat) (Q:List Int):∀ n,(z3x s C O n Q).length=Q.length
 | 0=>rfl
 | n+1=>by unfold z3x; rw [zhu]; exact ze1 s C O Q n
def inP (p:Int) (Q:List Int):Prop:=∀ x∈Q,0≤x∧x≤p-1
theorem z1tt {p:Int} {Q:List Int} (h:inP p Q) {i:Nat} {v:Int} (hv:0≤v∧v≤p-1):inP p (Q.set i v):=fun x hx=>by
 rcases List.mem_or_eq_of_mem_set hx with h1 | h1
 ·exact h x h1
 ·rw [h1]; exact hv
theorem z1tu {p v:Int} (hp:2≤p) (hv:0≤v):0≤Int.tmod v p∧Int.tmod v p≤p-1:=by
 rw [y2t hv]
 have:=y3t v (show p≠0 by omega)
 have:=y3u v (show 0<p by omega)
 omega
theorem z1aj {p:Int} (hp:2≤p∧p≤251) {sg:Int} (hs:1≤sg∧sg≤250) {m:Mat} {R' C':Nat} (hm:MatP m R' C') {C top left a:Nat} {Q:List Int} (h:inP p Q):∀ b,inP p (z5t p sg m C C' top left a b Q)
 | 0=>h
 | b+1=>by
  unfold z5t
  have hc:=zk9 hm (a*C'+b)
  have h1:0≤m.2.2.2.getD (a*C'+b) 0*sg:=y3k hc.1 (by omega)
  have h2:m.2.2.2.getD (a*C'+b) 0*sg≤250*250:=y4k hc.2 hs.2 (by omega) (by omega)
  refine z1tt (z1aj hp hs hm h b) ?_
  rw [ze (by omega) (by omega)]
  exact z1tu hp.1 h1
theorem zvl {p:Int} (hp:2≤p∧p≤251) {sg:Int} (hs:1≤sg∧sg≤250) {m:Mat} {R' C':Nat} (hm:MatP m R' C') {C top left:Nat} {Q:List Int} (h:inP p Q):∀ a,inP p (z7n p sg m C C' top left a Q)
 | 0=>h
 | a+1=>z1aj hp hs hm (zvl hp hs hm h a) C'
theorem z1ak {T a C Lf b R:Nat} (hR:R≤32) (hC:C≤32) (hT:T+a<R) (hL:Lf+b<C):z6 (z6 (z6 (z6 ((T:Int)+(a:Int))*(C:Int))+(Lf:Int))+(b:Int))=(((T+a)*C+Lf+b:Nat):Int)∧(T+a)*C+Lf+b<R*C:=by
 have h1:(T+a)*C≤32*32:=y1p (by omega) hC
 have e1:z6 ((T:Int)+(a:Int))=((T+a:Nat):Int):=by rw [ze (by omega) (by omega)]; omega
 have e2:z6 (((T+a:Nat):Int)*(C:Int))=(((T+a)*C:Nat):Int):=z6q (by omega) hC
 have e3:z6 ((((T+a)*C:Nat):Int)+(Lf:Int))=(((T+a)*C+Lf:Nat):Int):=by rw [ze (by omega) (by omega)]; omega
 have e4:z6 ((((T+a)*C+Lf:Nat):Int)+(b:Int))=(((T+a)*C+Lf+b:Nat):Int):=by rw [ze (by omega) (by omega)]; omega
 have h2:=zqo hT hL
 exact ⟨by rw [e1,e2,e3,e4],by omega⟩
theorem zvm {m:Mat} {R' C':Nat} (hm:MatP m R' C') {a b:Nat} (ha:a<R') (hb:b<C'):z6 (z6 ((a:Int)*(C':Int))+(b:Int))=((a*C'+b:Nat):Int):=by
 have h1:=hm.r32
 have h2:=hm.c32
 have h3:a*C'≤32*32:=y1p (by omega) h2
 rw [z6q (by omega) h2,ze (by omega) (by omega)]
 omega
theorem z1tv {k:Nat} (hk:KK≤k) {s:She} (hp:2≤s.2.1∧s.2.1≤251) {m:Mat} {R' C':Nat} (hm:MatP m R' C') {R C T Lf a i:Nat} (hR:R≤32) (hC:C≤32) (ha:a<R') (hT:T+R'≤R) (hL:Lf+C'≤C) {Q:List Int} (hQ:Q.length=R*C) (k1 x7 x30 x31 x41 x42 x58 x59:Int) (q1 q2 q3:List Int) (a1 a2 a3 b1 b2:Int) (E:Int→Int→Int→Int→Int→Int→Int→Int→Int→Int→Int→List Int→List Int→List Int→List Int→She→Int→Int→Int→Int→Int→Int→Mat→Option Mat) :
  zdl k k k1 x7 (i:Int) (T:Int) (Lf:Int) (a:Int) x30 x31 x41 x42 x58 x59 (C':Int) 0 q1 q2 q3 Q s a1 a2 a3 b1 b2 (C:Int) m E=E k1 x7 (i:Int) (T:Int) (Lf:Int) x30 x31 x41 x42 x58 x59 q1 q2 q3 (z5t s.2.1 (z5i s.2.1 i) m C C' T Lf a C' Q) s a1 a2 a3 b1 b2 (C:Int) m:=by
 have hK:=zf
 have hc32:=hm.c32
 refine z1t (S:=List Int) (L:=fun n b q=>zdl k n k1 x7 (i:Int) (T:Int) (Lf:Int) (a:Int) x30 x31 x41 x42 x58 x59 (C':Int) b q1 q2 q3 q s a1 a2 a3 b1 b2 (C:Int) m E) (b:=C') (st:=fun b=>z5t s.2.1 (z5i s.2.1 i) m C C' T Lf a b Q) ?_ ?_ (n:=k) (by omega)
 ·intro n b hb
  have hlt:(b:Int)<(C':Int):=by omega
  have hw:=zd (i:=b) (by omega)
  obtain ⟨ix,il⟩:=z1ak (T:=T) (a:=a) (C:=C) (Lf:=Lf) (b:=b) hR hC (by omega) (by omega)
  have hin:(T+a)*C+Lf+b<(z5t s.2.1 (z5i s.2.1 i) m C C' T Lf a b Q).length:=by rw [zr4,hQ]; exact il
  have hg:=yh hin
  have hp0:¬ s.2.1=0:=by omega
  simp only [zdl,zjx,hm.cols,zvm hm ha hb,zhn hm ha hb,hlt,y9,y7,yg,yd,y6,z1ts hp,hp0,y8,ix,hin,yw,hg,hw,z5t]
 ·intro n
  simp only [zdl,yp,yf,ya,y8]
theorem z1tw {k:Nat} (hk:KK≤k) {s:She} (hp:2≤s.2.1∧s.2.1≤251) {m:Mat} {R' C':Nat} (hm:MatP m R' C') {R C T Lf a:Nat} (sg:Int) (hR:R≤32) (hC:C≤32) (ha:a<R') (hT:T+R'≤R) (hL:Lf+C'≤C) {Q:List Int} (hQ:Q.length=R*C) (k1 n7 i10:Int) (q1 q2 q3:List Int) (a1 a2 a3 b1 b2:Int) (E:She→Int→Int→Int→Int→Mat→Int→Int→Int→List Int→List Int→List Int→List Int→Int→Int→Int→Int→Int→Int→Option Mat) :
  zcy k k s k1 n7 (T:Int) i10 m (Lf:Int) sg (a:Int) 0 q1 q2 q3 Q a1 a2 a3 b1 b2 (C:Int) E=E s k1 n7 (T:Int) i10 m (Lf:Int) sg (a:Int) q1 q2 q3 (z5t s.2.1 sg m C C' T Lf a C' Q) a1 a2 a3 b1 b2 (C:Int):=by
 have hK:=zf
 have hc32:=hm.c32
 refine z1t (S:=List Int) (L:=fun n b q=>zcy k n s k1 n7 (T:Int) i10 m (Lf:Int) sg (a:Int) b q1 q2 q3 q a1 a2 a3 b1 b2 (C:Int) E) (b:=C') (st:=fun b=>z5t s.2.1 sg m C C' T Lf a b Q) ?_ ?_ (n:=k) (by omega)
 ·intro n b hb
  have hlt:(b:Int)<m.2.2.1:=by rw [hm.cols]; omega
  have hw:=zd (i:=b) (by omega)
  obtain ⟨ix,il⟩:=z1ak (T:=T) (a:=a) (C:=C) (Lf:=Lf) (b:=b) hR hC (by omega) (by omega)
  have hin:(T+a)*C+Lf+b<(z5t s.2.1 sg m C C' T Lf a b Q).length:=by rw [zr4,hQ]; exact il
  have hg:=yh hin
  have hp0:¬ s.2.1=0:=by omega
  simp only [zcy,hlt,y9,y7]
  simp only [hm.cols,zvm hm ha hb,zhn hm ha hb,y9,y7,yg,yd,y6,hp0,y8,ix,hin,yw,hg,hw,z5t]
 ·intro n
  have hlt:¬ (C':Int)<m.2.2.1:=by rw [hm.cols]; omega
  simp only [zcy,hlt,yf,ya,y8]
theorem z1al {k:Nat} (hk:KK≤k) {s:She} (hp:2≤s.2.1∧s.2.1≤251) {m:Mat} {R' C':Nat} (hm:MatP m R' C') {R C T Lf i:Nat} (hR:R≤32) (hC:C≤32) (hT:T+R'≤R) (hL:Lf+C'≤C) {Q:List Int} (hQ:Q.length=R*C) (k1 x7 x30 x31 x41 x42:Int) (q1 q2 q3:List Int) (a1 a2 a3 b1 b2:Int) (E:Int→Int→Int→Int→Int→Int→List Int→List Int→List Int→List Int→She→Int→Int→Int→Int→Int→Int→Option Mat) :
  zdm k k k1 x7 (i:Int) (T:Int) (Lf:Int) x30 x31 x41 x42 (R':Int) 0 q1 q2 q3 Q s a1 a2 a3 b1 b2 (C:Int) m E=E k1 x7 x30 x31 x41 x42 q1 q2 q3 (z7n s.2.1 (z5i s.2.1 i) m C C' T Lf R' Q) s a1 a2 a3 b1 b2 (C:Int):=by
 have hK:=zf
 have hr32:=hm.r32
 refine z1t (S:=List Int) (L:=fun n a q=>zdm k n k1 x7 (i:Int) (T:Int) (Lf:Int) x30 x31 x41 x42 (R':Int) a q1 q2 q3 q s a1 a2 a3 b1 b2 (C:Int) m E) (b:=R') (st:=fun a=>z7n s.2.1 (z5i s.2.1 i) m C C' T Lf a Q) ?_ ?_ (n:=k) (by omega)
 ·intro n a ha
  have hlt:(a:Int)<(R':Int):=by omega
  have hw:=zd (i:=a) (by omega)
  simp only [zdm,hlt,y9,y7]
  rw [hm.cols,z1tv hk hp hm hR hC ha hT hL (by rw [zr5]; exact hQ)]
  simp only [hw,z7n]
 ·intro n
  simp only [zdm,yp,yf,ya,y8]
theorem z1am {k:Nat} (hk:KK≤k) {s:She} (hp:2≤s.2.1∧s.2.1≤251) {m:Mat} {R' C':Nat} (hm:MatP m R' C') {R C T Lf:Nat} (sg:Int) (hR:R≤32) (hC:C≤32) (hT:T+R'≤R) (hL:Lf+C'≤C) {Q:List Int} (hQ:Q.length=R*C) (k1 n7 i10:Int) (q1 q2 q3:List Int) (a1 a2 a3 b1 b2:Int) (E:She→Int→Int→Int→Int→List Int→List Int→List Int→List Int→Int→Int→Int→Int→Int→Int→Option Mat) :
  zcz k k s k1 n7 (T:Int) i10 m (Lf:Int) sg 0 q1 q2 q3 Q a1 a2 a3 b1 b2 (C:Int) E=E s k1 n7 (T:Int) i10 q1 q2 q3 (z7n s.2.1 sg m C C' T Lf R' Q) a1 a2 a3 b1 b2 (C:Int):=by
 have hK:=zf
 have hr32:=hm.r32
 refine z1t (S:=List Int) (L:=fun n a q=>zcz k n s k1 n7 (T:Int) i10 m (Lf:Int) sg a q1 q2 q3 q a1 a2 a3 b1 b2 (C:Int) E) (b:=R') (st:=fun a=>z7n s.2.1 sg m C C' T Lf a Q) ?_ ?_ (n:=k) (by omega)
 ·intro n a ha
  have hlt:(a:Int)<m.2.1:=by rw [hm.rows]; omega
  have hw:=zd (i:=a) (by omega)
  simp only [zcz,hlt,y9,y7]
  rw [z1tw hk hp hm sg hR hC ha hT hL (by rw [zr5]; exact hQ)]
  simp only [hw,z7n]
 ·intro n
  have hlt:¬ (R':Int)<m.2.1:=by rw [hm.rows]; omega
  simp only [zcz,hlt,yf,ya,y8]
theorem z1tx {c:Cx} {d:Int} {j:Nat} (h:j∈ofC c d):∃ t,c[j]?=some t∧(t.length:Int)=d+1:=by
 have hl:=z8j h
 have:=(y2c.1 h).2
 have hg:c[j]?=some c[j]:=yh hl
 rw [hg] at this
 exact ⟨c[j],hg,of_decide_eq_true this⟩
theorem zki {k:Nat} (hk:KK≤k) {s:She} (hs:smallSh s) (h:zz k s=true) {d:Nat} (hd3:d≤3) {j:Nat} (hj:j∈ofC s.1 ((d:Int)+1)) {R C:Nat} (hR:zh s.2.2.1 (ofC s.1 ((d:Int)+1))=(R:Int)) (hC:zh s.2.2.1 (ofC s.1 (d:Int))=(C:Int)):∃ t,s.1[j]?=some t∧fcs s j=zg s.1 t∧(fcs s j).length=d+2∧oN s j+stN s j≤R ∧
  ∀ i,i<d+2→MatP (mpS s j i) (stN s j) (stN s ((fcs s j).getD i 0))∧(fcs s j)[i]?=some ((fcs s j).getD i 0)∧(∃ u,s.1[(fcs s j).getD i 0]?=some u)∧oN s ((fcs s j).getD i 0)+stN s ((fcs s j).getD i 0)≤C:=by
 obtain ⟨hCx,hp,hS⟩:=z1b hk h
 obtain ⟨t,ht,hl⟩:=z1tx hj
 have hl2:t.length=d+2:=by omega
 have hf:fcs s j=zg s.1 t:=by unfold fcs; rw [List.getD_eq_getElem?_getD,ht]; rfl
 have hfl:=z8k s.1 t
 rw [y4 (by omega),hl2] at hfl
 have o1:=ze0 hS ht (d:=(d:Int)+1) hl
 refine ⟨t,ht,hf,by rw [hf]; exact hfl,by omega,fun i hi=>?_⟩
 rw [hf]
 have hF:(zg s.1 t).getD i 0=z2s s.1 (zy t i):=by
  rw [y15]
  unfold zg z23
  rw [y4 (by omega),yr,yr,y21 (by omega)]; rfl
 have hmem:=hCx.face t (yl ht) (by omega) i (by omega)
 have hdl:=z8i (s:=t) (k:=i) (by omega)
 have hu:s.1[(zg s.1 t).getD i 0]?=some (zy t i):=by rw [hF]; exact zdt hmem
 have o2:=ze0 hS hu (d:=(d:Int)) (by omega)
 have hg:(zg s.1 t)[i]?=some ((zg s.1 t).getD i 0):=by
  rw [y15,yh (by omega)]; rfl
 exact ⟨(zho hk hs h ht (by omega)).2,hg,⟨_,hu⟩,by omega⟩
theorem z1ty {k:Nat} (hk:KK≤k) {s:She} (hs:smallSh s) (h:zz k s=true) {d:Nat} (hd3:d≤3) {j:Nat} (hj:j∈ofC s.1 ((d:Int)+1)) {R C:Nat} (hR:zh s.2.2.1 (ofC s.1 ((d:Int)+1))=(R:Int)) (hC:zh s.2.2.1 (ofC s.1 (d:Int))=(C:Int)) (hR2:R≤32) (hC2:C≤32) {Q:List Int} (hQ:Q.length=R*C) (k1 x30 x31:Int) (q1 q3:List Int) (a1 a2 a3 b1 b2:Int) (E:Int→Int→Int→List Int→List Int→List Int→She→Int→Int→Int→Int→Int→Int→Option Mat) :
  z7f k k k1 (j:Int) x30 x31 ((fcs s j).length:Int) 0 q1 ((fcs s j).map fun i:Nat=>(i:Int)) q3 Q s a1 a2 a3 b1 b2 (C:Int) E=E k1 x30 x31 q1 q3 (z3m s C j (fcs s j) (fcs s j).length Q) s a1 a2 a3 b1 b2 (C:Int):=by
 have hK:=zf
 obtain ⟨hCx,hp,hS⟩:=z1b hk h
 obtain ⟨t,ht,hf,hl,hT,hface⟩:=zki hk hs h hd3 hj hR hC
 refine z1t (S:=List Int) (L:=fun n i q=>z7f k n k1 (j:Int) x30 x31 ((fcs s j).length:Int) i q1 ((fcs s j).map fun i:Nat=>(i:Int)) q3 q s a1 a2 a3 b1 b2 (C:Int) E) (b:=(fcs s j).length) (st:=fun i=>z3m s C j (fcs s j) i Q) ?_ ?_ (n:=k) (by omega)
 ·intro n i hi
  have hlt:(i:Int)<((fcs s j).length:Int):=by omega
  have hw:=zd (i:=i) (by omega)
  obtain ⟨hm,hg,⟨u,hu⟩,hL⟩:=hface i (by omega)
  have hF:((fcs s j).map fun i:Nat=>(i:Int))[i]?=some (((fcs s j).getD i 0:Nat):Int):=by rw [yr,hg]; rfl
  have hd:=zqq hk hs h ht (i:=i) (by rw [← hf]; omega)
  have c1:=zkh hk hCx hS ht
  have c2:=zkh hk hCx hS hu
  simp only [z7f,hlt,y9,y7,yg,yd,ym,hi,yw,hF,y6,hd,c1,c2]
  rw [hm.rows,z1al hk hp hm hR2 hC2 hT hL (by rw [zhu]; exact hQ)]
  simp only [hw,z3m]
 ·intro n
  simp only [z7f,yp,yf,ya,y8]
theorem z1tz {k:Nat} (hk:KK≤k) {s:She} (hs:smallSh s) (h:zz k s=true) {d:Nat} (hd3:d≤3) {j n7:Nat} (hj:j∈ofC s.1 ((d:Int)+1)) {R C:Nat} (hR:zh s.2.2.1 (ofC s.1 ((d:Int)+1))=(R:Int)) (hC:zh s.2.2.1 (ofC s.1 (d:Int))=(C:Int)) (hR2:R≤32) (hC2:C≤32) {Q:List Int} (hQ:Q.length=R*C) (k1:Int) (q1 q3:List Int) (hq:q1[n7]?=some (j:Int)) (a1 a2 a3 b1 b2:Int) (E:She→Int→Int→List Int→List Int→List Int→Int→Int→Int→Int→Int→Int→Option Mat) :
  z7e k k s k1 (n7:Int) (oN s j:Int) 0 q1 ((fcs s j).map fun i:Nat=>(i:Int)) q3 Q a1 a2 a3 b1 b2 (C:Int) E=E s k1 (n7:Int) q1 q3 (z3m s C j (fcs s j) (fcs s j).length Q) a1 a2 a3 b1 b2 (C:Int):=by
 have hK:=zf
 obtain ⟨hCx,hp,hS⟩:=z1b hk h
 obtain ⟨t,ht,hf,hl,hT,hface⟩:=zki hk hs h hd3 hj hR hC
 have hqn:n7<q1.length:=(yo.1 hq).1
 refine z1t (S:=List Int) (L:=fun n i q=>z7e k n s k1 (n7:Int) (oN s j:Int) i q1 ((fcs s j).map fun i:Nat=>(i:Int)) q3 q a1 a2 a3 b1 b2 (C:Int) E) (b:=(fcs s j).length) (st:=fun i=>z3m s C j (fcs s j) i Q) ?_ ?_ (n:=k) (by omega)
 ·intro n i hi
  have hlt:(i:Int)<((fcs s j).length:Int):=by omega
  have hw:=zd (i:=i) (by omega)
  obtain ⟨hm,hg,⟨u,hu⟩,hL⟩:=hface i (by omega)
  have hF:((fcs s j).map fun i:Nat=>(i:Int))[i]?=some (((fcs s j).getD i 0:Nat):Int):=by rw [yr,hg]; rfl
  have hd:=zka hk hs h ht (i:=i) (by rw [← hf]; omega)
  have c2:=zkg hk hCx hS hu
  simp only [z7e,hlt,y9,y7,yg,yd,ym,hi,hqn,hq,yw,hF,y6,hd,c2,z1ah hp]
  rw [z1am hk hp hm (z5i s.2.1 i) hR2 hC2 hT hL (by rw [zhu]; exact hQ)]
  simp only [hw,z3m]
 ·intro n
  simp only [z7e,ym,yp,yf,ya,y8]
def zr6 (s:She) (d R C:Nat):Mat:=(s.2.1,(R:Int),(C:Int),z3x s C (ofC s.1 ((d:Int)+1)) (ofC s.1 ((d:Int)+1)).length (List.replicate (R*C) 0))
theorem z1u0 {k:Nat} (hk:KK≤k) {s:She} (h:zz k s=true) (d:Nat) (hd:d<4):∃ R:Nat,zh s.2.2.1 (ofC s.1 (d:Int))=(R:Int)∧R≤32:=by
 obtain ⟨hCx,hp,hS⟩:=z1b hk h
 have h1:=z9v hS (ofC s.1 (d:Int)) (fun i hi=>z8j hi)
 have h2:zh s.2.2.1 (ofC s.1 (d:Int))≤32:=by
  unfold zz at h
  simp only [yi] at h
  have:=h.2.2.1
  unfold stB at this
  rw [yi,y16] at this
  exact of_decide_eq_true (this.2 d (y19.2 hd))
 exact ⟨(zh s.2.2.1 (ofC s.1 (d:Int))).toNat,by omega,by omega⟩
theorem z1u1 {k:Nat} (hk:KK≤k) {s:She} (hs:smallSh s) (h:zz k s=true) {d:Nat} (hd3:d≤3) {R C:Nat} (hR:zh s.2.2.1 (ofC s.1 ((d:Int)+1))=(R:Int)) (hC:zh s.2.2.1 (ofC s.1 (d:Int))=(C:Int)) (hR2:R≤32) (hC2:C≤32):z85 k s (d:Int)=some (zr6 s d R C):=by
 have hK:=zf
 obtain ⟨hCx,hp,hS⟩:=z1b hk h
 have hcl:=hCx.len
 have hol:=z9u s.1 ((d:Int)+1)
 have w1:z6 ((d:Int)+1)=(d:Int)+1:=ze (by omega) (by omega)
 have hd0:¬ (d:Int)<0:=by omega
 have hd1:(0:Int)≤(d:Int):=by omega
 unfold z85
 simp only [w1,z9x hk (z2l hCx) hS (show -1000≤(d:Int)+1∧(d:Int)+1≤1000 by omega),z9x hk (z2l hCx) hS (show -1000≤(d:Int)∧(d:Int)≤1000 by omega),hR,hC,y6,zvj hk s.2.1 hR2 hC2,zhm hk (z2l hCx) (show -1000≤(d:Int)+1∧(d:Int)+1≤1000 by omega),ym]
 refine z1t (S:=List Int) (L:=fun n i q=>z8e k n (d:Int) ((ofC s.1 ((d:Int)+1)).length:Int) i ((ofC s.1 ((d:Int)+1)).map fun i:Nat=>(i:Int)) [] q s 0 0 0 s.2.1 (R:Int) (C:Int) (fun q_23 q_24 v_4a_25 v_4ba_26 v_4bba_27 v_5a_28 v_5ba_29 v_5bba_30=>some (v_5a_28,(v_5ba_29,(v_5bba_30,q_24))))) (b:=(ofC s.1 ((d:Int)+1)).length) (st:=fun n=>z3x s C (ofC s.1 ((d:Int)+1)) n (List.replicate (R*C) 0)) ?_ ?_ (n:=k) (by omega)
 ·intro m n hn
  have hlt:(n:Int)<((ofC s.1 ((d:Int)+1)).length:Int):=by omega
  have hw:=zd (i:=n) (by omega)
  have hg:(ofC s.1 ((d:Int)+1))[n]?=some ((ofC s.1 ((d:Int)+1)).getD n 0):=by rw [y15,yh hn]; rfl
  have hmem:(ofC s.1 ((d:Int)+1)).getD n 0∈ofC s.1 ((d:Int)+1):=yl hg
  have hF:((ofC s.1 ((d:Int)+1)).map fun i:Nat=>(i:Int))[n]?=some (((ofC s.1 ((d:Int)+1)).getD n 0:Nat):Int):=by rw [yr,hg]; rfl
  obtain ⟨t,ht,hf,hl,hT,hface⟩:=zki hk hs h hd3 hmem hR hC
  have hfi:=zbe hk hCx ht
  rw [← hf] at hfi
  simp only [z8e,hlt,y9,y7,yg,yd,ym,hn,yw,hF,y6,hd0,yf,ya,y8,hfi]
  rw [z1ty hk hs h hd3 hmem hR hC hR2 hC2 (by rw [ze1,y23])]
  simp only [hw,z3x]
 ·intro m
  simp only [z8e,yp,yf,ya,y8]
  rfl
theorem z1u2 {k:Nat} (hk:KK≤k) {s:She} (hs:smallSh s) (h:zz k s=true) {d:Nat} (hd3:d≤3) {R C:Nat} (hR:zh s.2.2.1 (ofC s.1 ((d:Int)+1))=(R:Int)) (hC:zh s.2.2.1 (ofC s.1 (d:Int))=(C:Int)) (hR2:R≤32) (hC2:C≤32):z88 k s (d:Int)=some (zr6 s d R C):=by
 have hK:=zf
 obtain ⟨hCx,hp,hS⟩:=z1b hk h
 have hcl:=hCx.len
 have hol:=z9u s.1 ((d:Int)+1)
 have w1:z6 ((d:Int)+1)=(d:Int)+1:=ze (by omega) (by omega)
 have hd0:¬ (d:Int)<0:=by omega
 have hd1:(0:Int)≤(d:Int):=by omega
 unfold z88
 simp only [w1,z9w hk (z2l hCx) hS (show -1000≤(d:Int)+1∧(d:Int)+1≤1000 by omega),z9w hk (z2l hCx) hS (show -1000≤(d:Int)∧(d:Int)≤1000 by omega),hR,hC,y6,zvk s.2.1 hR2 hC2,zk7 hk (z2l hCx) (show -1000≤(d:Int)+1∧(d:Int)+1≤1000 by omega)]
 refine z1t (S:=List Int) (L:=fun n i q=>z87 k n s (d:Int) i ((ofC s.1 ((d:Int)+1)).map fun i:Nat=>(i:Int)) [] q 0 0 0 s.2.1 (R:Int) (C:Int) (fun q_24 q_25 v_4a_26 v_4ba_27 v_4bba_28 v_5a_29 v_5ba_30 v_5bba_31=>some (v_5a_29,(v_5ba_30,(v_5bba_31,q_25))))) (b:=(ofC s.1 ((d:Int)+1)).length) (st:=fun n=>z3x s C (ofC s.1 ((d:Int)+1)) n (List.replicate (R*C) 0)) ?_ ?_ (n:=k) (by omega)
 ·intro m n hn
  have hlt:(n:Int)<((ofC s.1 ((d:Int)+1)).length:Int):=by omega
  have hw:=zd (i:=n) (by omega)
  have hg:(ofC s.1 ((d:Int)+1))[n]?=some ((ofC s.1 ((d:Int)+1)).getD n 0):=by rw [y15,yh hn]; rfl
  have hmem:(ofC s.1 ((d:Int)+1)).getD n 0∈ofC s.1 ((d:Int)+1):=yl hg
  have hF:((ofC s.1 ((d:Int)+1)).map fun i:Nat=>(i:Int))[n]?=some (((ofC s.1 ((d:Int)+1)).getD n 0:Nat):Int):=by rw [yr,hg]; rfl
  obtain ⟨t,ht,hf,hl,hT,hface⟩:=zki hk hs h hd3 hmem hR hC
  have hfi:=zqm hk hCx ht
  rw [← hf] at hfi
  have c1:=zkg hk hCx hS ht
  simp only [z87,hlt,y9,y7,yg,yd,ym,hn,yw,hF,y6,hd1,hfi,c1]
  rw [z1tz hk hs h hd3 hmem hR hC hR2 hC2 (by rw [ze1,y23]) _ _ _ hF]
  simp only [hw,z3x]
 ·intro m
  simp only [z87,ym,yp,yf,ya,y8]
  rfl
theorem z1an {s:She} (hp:2≤s.2.1∧s.2.1≤251) {C j:Nat} {F:List Nat} {Q:List Int} (h:inP s.2.1 Q):∀ i,(∀ x,x<i→∃ R' C',MatP (mpS s j x) R' C'∧C'=stN s (F.getD x 0))→inP s.2.1 (z3m s C j F i Q)
 | 0,_=>h
 | i+1,hm=>by
  obtain ⟨R',C',h1,h2⟩:=hm i (by omega)
  unfold z3m
  rw [← h2]
  exact zvl hp (z1ai hp i) h1 (z1an hp h i fun x hx=>hm x (by omega)) _
theorem z1ao {k:Nat} (hk:KK≤k) {s:She} (hs:smallSh s) (h:zz k s=true) {d:Nat} (hd3:d≤3) {R C:Nat} (hR:zh s.2.2.1 (ofC s.1 ((d:Int)+1))=(R:Int)) (hC:zh s.2.2.1 (ofC s.1 (d:Int))=(C:Int)) {Q:List Int} (hQ:inP s.2.1 Q):∀ n,n≤(ofC s.1 ((d:Int)+1)).length→inP s.2.1 (z3x s C (ofC s.1 ((d:Int)+1)) n Q)
 | 0,_=>hQ
 | n+1,hn=>by
  obtain ⟨hCx,hp,hS⟩:=z1b hk h
  have hg:(ofC s.1 ((d:Int)+1))[n]?=some ((ofC s.1 ((d:Int)+1)).getD n 0):=by rw [y15,yh (by omega)]; rfl
  obtain ⟨t,ht,hf,hl,hT,hface⟩:=zki hk hs h hd3 (yl hg) hR hC
  unfold z3x
  exact z1an hp (z1ao hk hs h hd3 hR hC hQ n (by omega)) _ fun x hx=>⟨_,_,(hface x (by omega)).1,rfl⟩
theorem z1u3 {k:Nat} (hk:KK≤k) {s:She} (hs:smallSh s) (h:zz k s=true) {d:Nat} (hd3:d≤3) {R C:Nat} (hR:zh s.2.2.1 (ofC s.1 ((d:Int)+1))=(R:Int)) (hC:zh s.2.2.1 (ofC s.1 (d:Int))=(C:Int)) (hR2:R≤32) (hC2:C≤32):MatP (zr6 s d R C) R C:=by
 obtain ⟨hCx,hp,hS⟩:=z1b hk h
 have hin:=z1ao hk hs h hd3 hR hC (Q:=List.replicate (R*C) 0) (fun x hx=>by have:=y40 hx; subst this; omega) (ofC s.1 ((d:Int)+1)).length (yx _)
 exact ⟨rfl,rfl,hR2,hC2,by show (z3x _ _ _ _ _).length=_; rw [ze1,y23],hp,fun x hx=>by have:=hin x hx; omega,fun x hx=>by have:=hin x hx; show x<s.2.1; omega⟩
theorem z1ap {c:Cx} {d:Int} {j:Nat} (h:j∈ofC c d):∃ t,c[j]?=some t∧(t.length:Int)=d+1:=by
 have hl:=z8j h
 have:=(y2c.1 h).2
 have hg:c[j]?=some c[j]:=yh hl
 rw [hg] at this
 exact ⟨c[j],hg,of_decide_eq_true this⟩
theorem zkj {k:Nat} (hk:KK≤k) {s:She} (hs:smallSh s) (h:zz k s=true) {j:Nat} (hj:j∈ofC s.1 1) {R C:Nat} (hR:zh s.2.2.1 (ofC s.1 1)=(R:Int)) (hC:zh s.2.2.1 (ofC s.1 0)=(C:Int)):∃ t,s.1[j]?=some t∧fcs s j=zg s.1 t∧(fcs s j).length=2∧oN s j+stN s j≤R ∧
  ∀ i,i<2→MatP (mpS s j i) (stN s j) (stN s ((fcs s j).getD i 0))∧(fcs s j)[i]?=some ((fcs s j).getD i 0)∧(∃ u,s.1[(fcs s j).getD i 0]?=some u)∧oN s ((fcs s j).getD i 0)+stN s ((fcs s j).getD i 0)≤C:=by
 obtain ⟨hCx,hp,hS⟩:=z1b hk h
 obtain ⟨t,ht,hl⟩:=z1ap hj
 have hl2:t.length=2:=by omega
 have hf:fcs s j=zg s.1 t:=by unfold fcs; rw [List.getD_eq_getElem?_getD,ht]; rfl
 have hfl:=z8k s.1 t
 rw [y4 (by omega),hl2] at hfl
 have o1:=ze0 hS ht (d:=1) hl
 refine ⟨t,ht,hf,by rw [hf]; exact hfl,by omega,fun i hi=>?_⟩
 rw [hf]
 have hF:(zg s.1 t).getD i 0=z2s s.1 (zy t i):=by
  rw [y15]
  unfold zg z23
  rw [y4 (by omega),yr,yr,y21 (by omega)]; rfl
 have hmem:=hCx.face t (yl ht) (by omega) i (by omega)
 have hdl:=z8i (s:=t) (k:=i) (by omega)
 have hu:s.1[(zg s.1 t).getD i 0]?=some (zy t i):=by rw [hF]; exact zdt hmem
 have o2:=ze0 hS hu (d:=0) (by omega)
 have hg:(zg s.1 t)[i]?=some ((zg s.1 t).getD i 0):=by
  rw [y15,yh (by omega)]; rfl
 exact ⟨(zho hk hs h ht (by omega)).2,hg,⟨_,hu⟩,by omega⟩
theorem z1u4 {k:Nat} (hk:KK≤k) {s:She} (hs:smallSh s) (h:zz k s=true) {j:Nat} (hj:j∈ofC s.1 1) {R C:Nat} (hR:zh s.2.2.1 (ofC s.1 1)=(R:Int)) (hC:zh s.2.2.1 (ofC s.1 0)=(C:Int)) (hR2:R≤32) (hC2:C≤32) {Q:List Int} (hQ:Q.length=R*C) (k1 x30 x31:Int) (q1 q3:List Int) (a1 a2 a3 b1 b2:Int) (E:Int→Int→Int→List Int→List Int→List Int→She→Int→Int→Int→Int→Int→Int→Option Mat) :
  z7f k k k1 (j:Int) x30 x31 ((fcs s j).length:Int) 0 q1 ((fcs s j).map fun i:Nat=>(i:Int)) q3 Q s a1 a2 a3 b1 b2 (C:Int) E=E k1 x30 x31 q1 q3 (z3m s C j (fcs s j) (fcs s j).length Q) s a1 a2 a3 b1 b2 (C:Int):=by
 have hK:=zf
 obtain ⟨hCx,hp,hS⟩:=z1b hk h
 obtain ⟨t,ht,hf,hl,hT,hface⟩:=zkj hk hs h hj hR hC
 refine z1t (S:=List Int) (L:=fun n i q=>z7f k n k1 (j:Int) x30 x31 ((fcs s j).length:Int) i q1 ((fcs s j).map fun i:Nat=>(i:Int)) q3 q s a1 a2 a3 b1 b2 (C:Int) E) (b:=(fcs s j).length) (st:=fun i=>z3m s C j (fcs s j) i Q) ?_ ?_ (n:=k) (by omega)
 ·intro n i hi
  have hlt:(i:Int)<((fcs s j).length:Int):=by omega
  have hw:=zd (i:=i) (by omega)
  obtain ⟨hm,hg,⟨u,hu⟩,hL⟩:=hface i (by omega)
  have hF:((fcs s j).map fun i:Nat=>(i:Int))[i]?=some (((fcs s j).getD i 0:Nat):Int):=by rw [yr,hg]; rfl
  have hd:=zqq hk hs h ht (i:=i) (by rw [← hf]; omega)
  have c1:=zkh hk hCx hS ht
  have c2:=zkh hk hCx hS hu
  simp only [z7f,hlt,y9,y7,yg,yd,ym,hi,yw,hF,y6,hd,c1,c2]
  rw [hm.rows,z1al hk hp hm hR2 hC2 hT hL (by rw [zhu]; exact hQ)]
  simp only [hw,z3m]
 ·intro n
  simp only [z7f,yp,yf,ya,y8]
theorem z1u5 {k:Nat} (hk:KK≤k) {s:She} (hs:smallSh s) (h:zz k s=true) {j n7:Nat} (hj:j∈ofC s.1 1) {R C:Nat} (hR:zh s.2.2.1 (ofC s.1 1)=(R:Int)) (hC:zh s.2.2.1 (ofC s.1 0)=(C:Int)) (hR2:R≤32) (hC2:C≤32) {Q:List Int} (hQ:Q.length=R*C) (k1:Int) (q1 q3:List Int) (hq:q1[n7]?=some (j:Int)) (a1 a2 a3 b1 b2:Int) (E:She→Int→Int→List Int→List Int→List Int→Int→Int→Int→Int→Int→Int→Option Mat) :
  z7e k k s k1 (n7:Int) (oN s j:Int) 0 q1 ((fcs s j).map fun i:Nat=>(i:Int)) q3 Q a1 a2 a3 b1 b2 (C:Int) E=E s k1 (n7:Int) q1 q3 (z3m s C j (fcs s j) (fcs s j).length Q) a1 a2 a3 b1 b2 (C:Int):=by
 have hK:=zf
 obtain ⟨hCx,hp,hS⟩:=z1b hk h
 obtain ⟨t,ht,hf,hl,hT,hface⟩:=zkj hk hs h hj hR hC
 have hqn:n7<q1.length:=(yo.1 hq).1
 refine z1t (S:=List Int) (L:=fun n i q=>z7e k n s k1 (n7:Int) (oN s j:Int) i q1 ((fcs s j).map fun i:Nat=>(i:Int)) q3 q a1 a2 a3 b1 b2 (C:Int) E) (b:=(fcs s j).length) (st:=fun i=>z3m s C j (fcs s j) i Q) ?_ ?_ (n:=k) (by omega)
 ·intro n i hi
  have hlt:(i:Int)<((fcs s j).length:Int):=by omega
  have hw:=zd (i:=i) (by omega)
  obtain ⟨hm,hg,⟨u,hu⟩,hL⟩:=hface i (by omega)
  have hF:((fcs s j).map fun i:Nat=>(i:Int))[i]?=some (((fcs s j).getD i 0:Nat):Int):=by rw [yr,hg]; rfl
  have hd:=zka hk hs h ht (i:=i) (by rw [← hf]; omega)
  have c2:=zkg hk hCx hS hu
  simp only [z7e,hlt,y9,y7,yg,yd,ym,hi,hqn,hq,yw,hF,y6,hd,c2,z1ah hp]
  rw [z1am hk hp hm (z5i s.2.1 i) hR2 hC2 hT hL (by rw [zhu]; exact hQ)]
  simp only [hw,z3m]
 ·intro n
  simp only [z7e,ym,yp,yf,ya,y8]
def z38 (s:She) (R C:Nat):Mat:=(s.2.1,(R:Int),(C:Int),z3x s C (ofC s.1 1) (ofC s.1 1).length (List.replicate (R*C) 0))
theorem z1aq {k:Nat} (hk:KK≤k) {s:She} (h:zz k s=true) (d:Nat) (hd:d<4):∃ R:Nat,zh s.2.2.1 (ofC s.1 (d:Int))=(R:Int)∧R≤32:=by
 obtain ⟨hCx,hp,hS⟩:=z1b hk h
 have h1:=z9v hS (ofC s.1 (d:Int)) (fun i hi=>z8j hi)
 have h2:zh s.2.2.1 (ofC s.1 (d:Int))≤32:=by
  unfold zz at h
  simp only [yi] at h
  have:=h.2.2.1
  unfold stB at this
  rw [yi,y16] at this
  exact of_decide_eq_true (this.2 d (y19.2 hd))
 exact ⟨(zh s.2.2.1 (ofC s.1 (d:Int))).toNat,by omega,by omega⟩
theorem z1u6 {k:Nat} (hk:KK≤k) {s:She} (hs:smallSh s) (h:zz k s=true) {R C:Nat} (hR:zh s.2.2.1 (ofC s.1 1)=(R:Int)) (hC:zh s.2.2.1 (ofC s.1 0)=(C:Int)) (hR2:R≤32) (hC2:C≤32):z85 k s 0=some (z38 s R C):=by
 have hK:=zf
 obtain ⟨hCx,hp,hS⟩:=z1b hk h
 have hcl:=hCx.len
 have hol:=z9u s.1 1
 have w1:z6 (0+1)=1:=ze (by omega) (by omega)
 unfold z85
 simp only [w1,z9x hk (z2l hCx) hS (show -1000≤(1:Int)∧(1:Int)≤1000 by omega),z9x hk (z2l hCx) hS (show -1000≤(0:Int)∧(0:Int)≤1000 by omega),hR,hC,y6,zvj hk s.2.1 hR2 hC2,zhm hk (z2l hCx) (show -1000≤(1:Int)∧(1:Int)≤1000 by omega),ym]
 refine z1t (S:=List Int) (L:=fun n i q=>z8e k n 0 ((ofC s.1 1).length:Int) i ((ofC s.1 1).map fun i:Nat=>(i:Int)) [] q s 0 0 0 s.2.1 (R:Int) (C:Int) (fun q_23 q_24 v_4a_25 v_4ba_26 v_4bba_27 v_5a_28 v_5ba_29 v_5bba_30=>some (v_5a_28,(v_5ba_29,(v_5bba_30,q_24))))) (b:=(ofC s.1 1).length) (st:=fun n=>z3x s C (ofC s.1 1) n (List.replicate (R*C) 0)) ?_ ?_ (n:=k) (by omega)
 ·intro m n hn
  have hlt:(n:Int)<((ofC s.1 1).length:Int):=by omega
  have hw:=zd (i:=n) (by omega)
  have hg:(ofC s.1 1)[n]?=some ((ofC s.1 1).getD n 0):=by rw [y15,yh hn]; rfl
  have hmem:(ofC s.1 1).getD n 0∈ofC s.1 1:=yl hg
  have hF:((ofC s.1 1).map fun i:Nat=>(i:Int))[n]?=some (((ofC s.1 1).getD n 0:Nat):Int):=by rw [yr,hg]; rfl
  obtain ⟨t,ht,hf,hl,hT,hface⟩:=zkj hk hs h hmem hR hC
  have hfi:=zbe hk hCx ht
  rw [← hf] at hfi
  simp only [z8e,hlt,y9,y7,yg,yd,ym,hn,yw,hF,y6,yp,yf,ya,y8,hfi]
  rw [z1u4 hk hs h hmem hR hC hR2 hC2 (by rw [ze1,y23])]
  simp only [hw,z3x]
 ·intro m
  simp only [z8e,yp,yf,ya,y8]
  rfl
theorem z1u7 {k:Nat} (hk:KK≤k) {s:She} (hs:smallSh s) (h:zz k s=true) {R C:Nat} (hR:zh s.2.2.1 (ofC s.1 1)=(R:Int)) (hC:zh s.2.2.1 (ofC s.1 0)=(C:Int)) (hR2:R≤32) (hC2:C≤32):z88 k s 0=some (z38 s R C):=by
 have hK:=zf
 obtain ⟨hCx,hp,hS⟩:=z1b hk h
 have hcl:=hCx.len
 have hol:=z9u s.1 1
 have w1:z6 (0+1)=1:=ze (by omega) (by omega)
 unfold z88
 simp only [w1,z9w hk (z2l hCx) hS (show -1000≤(1:Int)∧(1:Int)≤1000 by omega),z9w hk (z2l hCx) hS (show -1000≤(0:Int)∧(0:Int)≤1000 by omega),hR,hC,y6,zvk s.2.1 hR2 hC2,zk7 hk (z2l hCx) (show -1000≤(1:Int)∧(1:Int)≤1000 by omega)]
 refine z1t (S:=List Int) (L:=fun n i q=>z87 k n s 0 i ((ofC s.1 1).map fun i:Nat=>(i:Int)) [] q 0 0 0 s.2.1 (R:Int) (C:Int) (fun q_24 q_25 v_4a_26 v_4ba_27 v_4bba_28 v_5a_29 v_5ba_30 v_5bba_31=>some (v_5a_29,(v_5ba_30,(v_5bba_31,q_25))))) (b:=(ofC s.1 1).length) (st:=fun n=>z3x s C (ofC s.1 1) n (List.replicate (R*C) 0)) ?_ ?_ (n:=k) (by omega)
 ·intro m n hn
  have hlt:(n:Int)<((ofC s.1 1).length:Int):=by omega
  have hw:=zd (i:=n) (by omega)
  have hg:(ofC s.1 1)[n]?=some ((ofC s.1 1).getD n 0):=by rw [y15,yh hn]; rfl
  have hmem:(ofC s.1 1).getD n 0∈ofC s.1 1:=yl hg
  have hF:((ofC s.1 1).map fun i:Nat=>(i:Int))[n]?=some (((ofC s.1 1).getD n 0:Nat):Int):=by rw [yr,hg]; rfl
  obtain ⟨t,ht,hf,hl,hT,hface⟩:=zkj hk hs h hmem hR hC
  have hfi:=zqm hk hCx ht
  rw [← hf] at hfi
  have c1:=zkg hk hCx hS ht
  simp only [z87,hlt,y9,y7,yg,yd,ym,hn,yw,hF,y6,y2g,hfi,c1]
  rw [z1u5 hk hs h hmem hR hC hR2 hC2 (by rw [ze1,y23]) _ _ _ hF]
  simp only [hw,z3x]
 ·intro m
  simp only [z87,ym,yp,yf,ya,y8]
  rfl
instance dec_Problem_1:DecidableEq (List UInt8×List UInt8):=inferInstance
instance dec_Problem:DecidableEq (Int×List UInt8×List UInt8):=inferInstance
def z4l (a:Int×List UInt8×List UInt8):Nat:=(List.length (a.2.1))+(List.length (a.2.2))
instance dec_ProblemS:DecidableEq (List (Int×List UInt8×List UInt8)):=inferInstance
def z24 (a:List (Int×List UInt8×List UInt8)):Nat:=a.length+zm z4l a
theorem z1ar {s:She} (hp:2≤s.2.1∧s.2.1≤251) {C j:Nat} {F:List Nat} {Q:List Int} (h:inP s.2.1 Q):∀ i,(∀ x,x<i→∃ R' C',MatP (mpS s j x) R' C'∧C'=stN s (F.getD x 0))→inP s.2.1 (z3m s C j F i Q)
 | 0,_=>h
 | i+1,hm=>by
  obtain ⟨R',C',h1,h2⟩:=hm i (by omega)
  unfold z3m
  rw [← h2]
  exact zvl hp (z1ai hp i) h1 (z1ar hp h i fun x hx=>hm x (by omega)) _
theorem z1as {k:Nat} (hk:KK≤k) {s:She} (hs:smallSh s) (h:zz k s=true) {R C:Nat} (hR:zh s.2.2.1 (ofC s.1 1)=(R:Int)) (hC:zh s.2.2.1 (ofC s.1 0)=(C:Int)) {Q:List Int} (hQ:inP s.2.1 Q):∀ n,n≤(ofC s.1 1).length→inP s.2.1 (z3x s C (ofC s.1 1) n Q)
 | 0,_=>hQ
 | n+1,hn=>by
  obtain ⟨hCx,hp,hS⟩:=z1b hk h
  have hg:(ofC s.1 1)[n]?=some ((ofC s.1 1).getD n 0):=by rw [y15,yh (by omega)]; rfl
  obtain ⟨t,ht,hf,hl,hT,hface⟩:=zkj hk hs h (yl hg) hR hC
  unfold z3x
  exact z1ar hp (z1as hk hs h hR hC hQ n (by omega)) _ fun x hx=>⟨_,_,(hface x (by omega)).1,rfl⟩
theorem z1at {k:Nat} (hk:KK≤k) {s:She} (hs:smallSh s) (h:zz k s=true) {R C:Nat} (hR:zh s.2.2.1 (ofC s.1 1)=(R:Int)) (hC:zh s.2.2.1 (ofC s.1 0)=(C:Int)) (hR2:R≤32) (hC2:C≤32):MatP (z38 s R C) R C:=by
 obtain ⟨hCx,hp,hS⟩:=z1b hk h
 have hin:=z1as hk hs h hR hC (Q:=List.replicate (R*C) 0) (fun x hx=>by have:=y40 hx; subst this; omega) (ofC s.1 1).length (yx _)
 exact ⟨rfl,rfl,hR2,hC2,by show (z3x _ _ _ _ _).length=_; rw [ze1,y23],hp,fun x hx=>by have:=hin x hx; omega,fun x hx=>by have:=hin x hx; show x<s.2.1; omega⟩
def apT (m:Mat) (v:List Int) (C i t:Nat):Int:=m.2.2.2.getD (i*C+t) 0*v.getD t 0
def z2x (m:Mat) (v:List Int) (C:Nat) (n:Nat):List Int:=(List.range n).map fun i=>z2c (apT m v C i) C % m.1
theorem z1au (m:Mat) (v:List Int) (C n:Nat):z2x m v C (n+1)=z2x m v C n++[z2c (apT m v C n) C % m.1]:=by
 unfold z2x; rw [List.range_succ,List.map_append]; rfl
theorem zkk (m:Mat) (v:List Int) (C n:Nat):(z2x m v C n).length=n:=by simp [z2x]
theorem zr7 {m:Mat} {R C:Nat} (hm:MatP m R C) {v:List Int} (hv:∀ x∈v,0≤x∧x≤m.1-1) (i t:Nat):0≤apT m v C i t∧apT m v C i t≤62500:=by
 have hp:=hm.prime
 have h1:=zk9 hm (i*C+t)
 have h2:0≤v.getD t 0∧v.getD t 0≤250:=by
  rw [y15]
  cases h:v[t]? with
  | none=>exact ⟨by simp,by simp⟩
  | some x=>have:=hv x (yl h); simp only [y5r]; omega
 unfold apT
 exact ⟨y3k h1.1 h2.1,Int.le_trans (y4k h1.2 h2.2 h2.1 (by omega)) (by omega)⟩
theorem z1av {k:Nat} (hk:KK≤k) {m:Mat} {R C:Nat} (hm:MatP m R C) {v:List Int} (hl:v.length=C) (hv:∀ x∈v,0≤x∧x≤m.1-1):zjc k m v=some (z2x m v C R):=by
 have hK:=zf
 have hL:=z1r
 have hR:=hm.r32
 have hC:=hm.c32
 unfold zjc
 rw [hm.rows]
 refine z1t (S:=List Int) (L:=fun n i q=>zhh k n v (R:Int) i q m (fun q_4=>some q_4)) (b:=R) (st:=z2x m v C) ?_ ?_ (n:=k) (by omega)
 ·intro n i hi
  have hlt:(i:Int)<(R:Int):=by omega
  have hw:=zd (i:=i) (by omega)
  have hrow:z8c m (i:Int)=some (z52 m.2.2.2 C i):=by
   have h1:(i+1)*C≤R*C:=y24 _ hi
   have h2:R*C≤32*32:=y1p hR hC
   have h3:(i+1)*C=i*C+C:=y2d _ _
   unfold z8c
   rw [hm.cols,z6q (by omega) hC,hw,z6q (i:=i+1) (by omega) hC,y4 ⟨by omega,by omega,by rw [hm.len]; omega⟩,yd,yd,show (i+1)*C-i*C=C by omega]
   rfl
  have hd:=z19v hk (K:=C) (zhl hm.len hi) hl hC hm.prime (f:=apT m v C i) (fun t=>zr7 hm hv i t) (fun t x y hx hy=>by
   have h1:=zv0 hm i t hx
   rw [h1]
   unfold apT
   rw [y15 (l:=v),hy]; rfl)
  have hlim:((z2x m v C i).length+1)*8≤LIM:=by rw [zkk]; omega
  simp only [zhh,hlt,y9,y7,hrow,hd,y6,yy,hlim,hw,z1au]
 ·intro n
  simp only [zhh,yp,yf,ya,y8]
theorem z1aw {k:Nat} (hk:KK≤k) {m:Mat} {R C:Nat} (hm:MatP m R C) {v:List Int} (hl:v.length=C) (hv:∀ x∈v,0≤x∧x≤m.1-1):zjn k m v=some (z2x m v C R):=by
 have hK:=zf
 have hL:=z1r
 have hR:=hm.r32
 have hC:=hm.c32
 have hp:=hm.prime
 unfold zjn
 have row:∀ (i:Nat),i<R→∀ (q:List Int) (E:Mat→List Int→Int→Int→List Int→Option (List Int)),zd0 k k m v (i:Int) 0 0 q E=E m v (i:Int) (z2c (apT m v C i) C) q:=by
  intro i hi q E
  refine z1t (S:=Int) (L:=fun n t z=>zd0 k n m v (i:Int) z t q E) (b:=C) (st:=z2c (apT m v C i)) ?_ ?_ (n:=k) (by omega)
  ·intro n t ht
   have hlt:(t:Int)<m.2.2.1:=by rw [hm.cols]; omega
   have hw:=zd (i:=t) (by omega)
   have hgv:v[t]?=some (v.getD t 0):=by rw [y15,yh (by omega)]; rfl
   have hb:=zr7 hm hv i t
   have hsum:=zk8 (zr7 hm hv i) t
   have w1:z6 (m.2.2.2.getD (i*C+t) 0*v.getD t 0)=apT m v C i t:=ze (x:=apT m v C i t) (by omega) (by omega)
   have w2:z6 (z2c (apT m v C i) t+apT m v C i t)=z2c (apT m v C i) t+apT m v C i t:=ze (by omega) (by omega)
   simp only [zd0,hlt,y9,y7]
   simp only [hm.cols,zvm hm hi ht,zhn hm hi ht,yg,y7,yd,y6,hgv,w1,w2,hw,z2c]
  ·intro n
   have hlt:¬ (C:Int)<m.2.2.1:=by rw [hm.cols]; omega
   simp only [zd0,hlt,yf,ya,y8]
 refine z1t (S:=List Int) (L:=fun n i q=>zgo k n m v i q (fun q_7=>some q_7)) (b:=R) (st:=z2x m v C) ?_ ?_ (n:=k) (by omega)
 ·intro n i hi
  have hlt:(i:Int)<m.2.1:=by rw [hm.rows]; omega
  have hw:=zd (i:=i) (by omega)
  have hlim:((z2x m v C i).length+1)*8≤LIM:=by rw [zkk]; omega
  have hp0:¬ m.1=0:=by omega
  have hsum:=zk8 (zr7 hm hv i) C
  have ht:Int.tmod (z2c (apT m v C i) C) m.1=z2c (apT m v C i) C % m.1:=y2t hsum.1
  simp only [zgo,hlt,y9,y7,row i hi,hp0,y8,yy,hlim,hw,ht,z1au]
 ·intro n
  have hlt:¬ (R:Int)<m.2.1:=by rw [hm.rows]; omega
  simp only [zgo,hlt,yf,ya,y8]
def nzB (v:List Int):Bool:=v.any fun x=>!decide (x=0)
theorem z1ax {k:Nat} (hk:KK≤k) {v:List Int} (hl:v.length≤1048576):zja k v=some (!nzB v):=by
 have hK:=zf
 unfold zja zuj zui nzB
 rw [zav (L:=fun n i=>zhi k n v () (v.length:Int) i (some (-1))) (p:=fun x=>!decide (x=0)) v ?_ ?_ (n:=k) (by omega)]
 ·rw [y6,y6,zdo]
 ·intro n i x hi hlt
  have hw:=zd (i:=i) (by omega)
  simp only [zhi,zuh,hlt,y9,y7,yg,yd,hi,y6,hw]
 ·intro n
  simp [zhi]
theorem z1ay {k:Nat} (hk:KK≤k) {v:List Int} (hl:v.length≤1048576):zjo k v=some (!nzB v):=by
 have hK:=zf
 unfold zjo
 have:=z4f (L:=fun m i=>zgp k m v i (some true)) (b:=v.length) (p:=fun i=>decide (v.getD i 0=0)) (r:=some false) (e:=some true) ?_ ?_ (n:=k) (by omega)
 ·rw [this]
  have e:(List.range v.length).all (fun i=>decide (v.getD i 0=0))=!nzB v:=by
   unfold nzB
   rw [y3p,y16,y1k,y3b]
   constructor
   ·intro h x hx
    obtain ⟨i,hi⟩:=y2s hx
    have hlt:=(yo.1 hi).1
    have:=h i (y19.2 hlt)
    rw [y15,hi] at this
    simpa using this
   ·intro h i hi
    have hlt:=y19.1 hi
    have:=h v[i] (y1e hlt)
    rw [y15,yh hlt]
    simpa using this
  rw [e]
  cases nzB v <;> rfl
 ·intro m i hi
  have hlt:(i:Int)<(v.length:Int):=by omega
  have hw:=zd (i:=i) (by omega)
  have hg:v[i]?=some (v.getD i 0):=by rw [y15,yh hi]; rfl
  simp only [zgp,hlt,y9,y7,yg,yd,hg,y6,hw]
  cases decide (v.getD i 0=0) <;> simp
 ·intro m
  simp only [zgp,yp,yf,ya,y8]
def slV (s:She) (V:List Int) (j:Nat):List Int:=(V.drop (oN s j)).take (stN s j)
def z57 (s:She) (V:List Int) (n:Nat):List Int:=(((ofC s.1 1).take n).filter fun j=>nzB (slV s V j)).map fun (j:Nat)=>(j:Int)
theorem z1az (s:She) (V:List Int) {n j:Nat} (h:(ofC s.1 1)[n]?=some j):z57 s V (n+1)=if nzB (slV s V j)=true then z57 s V n++[(j:Int)] else z57 s V n:=by
 unfold z57
 rw [y4e,h,y57,y1z]
 cases e:nzB (slV s V j) <;> simp [e]
theorem zvn (s:She) (V:List Int) (n:Nat):(z57 s V n).length≤n:=by
 unfold z57
 rw [ym]
 exact y1m (y4m ..) (by rw [y1d]; omega)
theorem z1u8 {s:She} {V:List Int} {n:Nat} {y:Int} (h:y∈z57 s V n):0≤y∧y.toNat<s.1.length:=by
 unfold z57 at h
 obtain ⟨j,hj,rfl⟩:=y1c.1 h
 have:=z8j (y2a (y2c.1 hj).1)
 exact ⟨by omega,by omega⟩
theorem z1b0 {k:Nat} (hk:KK≤k) {s:She} (hs:smallSh s) (h:zz k s=true) {j:Nat} (hj:j∈ofC s.1 1) {R:Nat} (hR:zh s.2.2.1 (ofC s.1 1)=(R:Int)) (hR2:R≤32):∃ t,s.1[j]?=some t∧s.2.2.1[j]?=some (stN s j:Int)∧z6 ((oN s j:Int)+(stN s j:Int))=((oN s j+stN s j:Nat):Int)∧oN s j+stN s j≤R:=by
 obtain ⟨hCx,hp,hS⟩:=z1b hk h
 obtain ⟨t,ht,hl⟩:=z1ap hj
 obtain ⟨o1,o2,o3⟩:=ze0 hS ht (d:=1) hl
 obtain ⟨s1,_,_⟩:=z7k hS (z8j hj)
 rw [o2] at s1
 exact ⟨t,ht,s1,by rw [ze (by omega) (by omega)]; omega,by omega⟩
theorem z1u9 {k:Nat} (hk:KK≤k) {s:She} (hs:smallSh s) (h:zz k s=true) {R C:Nat} (hR:zh s.2.2.1 (ofC s.1 1)=(R:Int)) (hC:zh s.2.2.1 (ofC s.1 0)=(C:Int)) (hR2:R≤32) (hC2:C≤32) {v:List Int} (hl:v.length=C) (hv:∀ x∈v,0≤x∧x≤s.2.1-1):zjq k s v=some (z57 s (z2x (z38 s R C) v C R) (ofC s.1 1).length):=by
 have hK:=zf
 have hLI:=z1r
 obtain ⟨hCx,hp,hS⟩:=z1b hk h
 have hcl:=hCx.len
 have hol:=z9u s.1 1
 have ha:=z1aw hk (z1at hk hs h hR hC hR2 hC2) hl hv
 unfold zjq
 rw [z1u7 hk hs h hR hC hR2 hC2]
 simp only [y6]
 rw [show ((z38 s R C).1,(z38 s R C).2.1,(z38 s R C).2.2.1,(z38 s R C).2.2.2)=z38 s R C from rfl,ha]
 simp only [y6,zk7 hk (z2l hCx) (show -1000≤(1:Int)∧(1:Int)≤1000 by omega)]
 have hVl:=zkk (z38 s R C) v C R
 generalize z2x (z38 s R C) v C R=V at *
 refine z1t (S:=List Int) (L:=fun n i q=>zd5 k n s i V ((ofC s.1 1).map fun i:Nat=>(i:Int)) q (fun q_13=>some q_13)) (b:=(ofC s.1 1).length) (st:=z57 s V) ?_ ?_ (n:=k) (by omega)
 ·intro m n hn
  have hlt:(n:Int)<((ofC s.1 1).length:Int):=by omega
  have hw:=zd (i:=n) (by omega)
  have hg:(ofC s.1 1)[n]?=some ((ofC s.1 1).getD n 0):=by rw [y15,yh hn]; rfl
  have hmem:(ofC s.1 1).getD n 0∈ofC s.1 1:=yl hg
  have hF:((ofC s.1 1).map fun i:Nat=>(i:Int))[n]?=some (((ofC s.1 1).getD n 0:Nat):Int):=by rw [yr,hg]; rfl
  have hstep:=z1az s V hg
  have hlen:=zvn s V n
  generalize (ofC s.1 1).getD n 0=j at *
  obtain ⟨t,ht,hst,hws,hb⟩:=z1b0 hk hs h hmem hR hR2
  have hat:=zkg hk hCx hS ht
  have hbd:(0:Int)≤(oN s j:Int)∧(oN s j:Int)≤((oN s j+stN s j:Nat):Int)∧((oN s j+stN s j:Nat):Int)≤(V.length:Int):=⟨by omega,by omega,by omega⟩
  have hsl:(V.drop (oN s j)).take (oN s j+stN s j-oN s j)=slV s V j:=by unfold slV; rw [Nat.add_sub_cancel_left]
  have hnull:=z1ay hk (v:=slV s V j) (by unfold slV; rw [List.length_take,List.length_drop]; omega)
  have hlim:((z57 s V n).length+1)*8≤LIM:=by omega
  simp only [zd5,hlt,y9,y7,yg,yd,ym,hn,yw,hF,y6,hat,hst,hws,hbd,hsl,hnull,hw,hstep,yy,hlim,y5v]
  cases nzB (slV s V j) <;> simp
 ·intro m
  simp only [zd5,ym,yp,yf,ya,y8]
theorem z1ua {k:Nat} (hk:KK≤k) {s:She} (hs:smallSh s) (h:zz k s=true) {R C:Nat} (hR:zh s.2.2.1 (ofC s.1 1)=(R:Int)) (hC:zh s.2.2.1 (ofC s.1 0)=(C:Int)) (hR2:R≤32) (hC2:C≤32) {v:List Int} (hl:v.length=C) (hv:∀ x∈v,0≤x∧x≤s.2.1-1):zjb k s v=some (z57 s (z2x (z38 s R C) v C R) (ofC s.1 1).length):=by
 have hK:=zf
 have hLI:=z1r
 obtain ⟨hCx,hp,hS⟩:=z1b hk h
 have hcl:=hCx.len
 have hol:=z9u s.1 1
 have ha:=z1av hk (z1at hk hs h hR hC hR2 hC2) hl hv
 unfold zjb
 rw [z1u6 hk hs h hR hC hR2 hC2]
 simp only [y6]
 rw [show ((z38 s R C).1,(z38 s R C).2.1,(z38 s R C).2.2.1,(z38 s R C).2.2.2)=z38 s R C from rfl,ha]
 simp only [y6,zhm hk (z2l hCx) (show -1000≤(1:Int)∧(1:Int)≤1000 by omega),ym]
 have hVl:=zkk (z38 s R C) v C R
 generalize z2x (z38 s R C) v C R=V at *
 refine z1t (S:=List Int) (L:=fun n i q=>zch k n ((ofC s.1 1).length:Int) i V q ((ofC s.1 1).map fun i:Nat=>(i:Int)) s (fun q_10=>some q_10)) (b:=(ofC s.1 1).length) (st:=z57 s V) ?_ ?_ (n:=k) (by omega)
 ·intro m n hn
  have hlt:(n:Int)<((ofC s.1 1).length:Int):=by omega
  have hw:=zd (i:=n) (by omega)
  have hg:(ofC s.1 1)[n]?=some ((ofC s.1 1).getD n 0):=by rw [y15,yh hn]; rfl
  have hmem:(ofC s.1 1).getD n 0∈ofC s.1 1:=yl hg
  have hF:((ofC s.1 1).map fun i:Nat=>(i:Int))[n]?=some (((ofC s.1 1).getD n 0:Nat):Int):=by rw [yr,hg]; rfl
  have hstep:=z1az s V hg
  have hlen:=zvn s V n
  generalize (ofC s.1 1).getD n 0=j at *
  obtain ⟨t,ht,hst,hws,hb⟩:=z1b0 hk hs h hmem hR hR2
  have hat:=zkh hk hCx hS ht
  have hbd:(0:Int)≤(oN s j:Int)∧(oN s j:Int)≤((oN s j+stN s j:Nat):Int)∧((oN s j+stN s j:Nat):Int)≤(V.length:Int):=⟨by omega,by omega,by omega⟩
  have hsl:(V.drop (oN s j)).take (oN s j+stN s j-oN s j)=slV s V j:=by unfold slV; rw [Nat.add_sub_cancel_left]
  have hsll:(slV s V j).length≤1048576:=by unfold slV; rw [List.length_take,List.length_drop]; omega
  have hnull:=z1ax hk (v:=slV s V j) hsll
  have hlim:((z57 s V n).length+1)*8≤LIM:=by omega
  have hpart:znf k s V (j:Int)=some (slV s V j):=by
   unfold znf
   simp only [hat,y6,yg,y7,yd,hst,hws,hbd,yw,hsl,z18o hsll]
  simp only [zch,hlt,y9,y7,yg,yd,ym,hn,yw,hF,y6,hpart,hnull,hw,hstep,yy,hlim,y5v]
  cases nzB (slV s V j) <;> simp
 ·intro m
  simp only [zch,yp,yf,ya,y8]
abbrev Pha:=Int×Int×List Edg
def z8o (x:Pha) (i:Nat):Bool:=match x.2.2[i]? with
 | some a=>!decide (a.1<0)&&(!decide (a.2.1≤a.1)&&(!decide (x.1≤a.2.1)&&(decide (0≤a.2.2∧a.2.2≤z6 (x.2.1-1))&&zhr x.2.2 i a)))
 | none=>false
def z3y (x:Pha):Bool:=decide (1≤x.1∧x.1≤12)&&(decide (2≤x.2.1∧x.2.1≤360)&&((List.range x.2.2.length).all (z8o x)&&decide (x.2.2.length≤24)))
theorem z1ub {k:Nat} (hk:KK≤k) {x:Pha} (hn:x.2.2.length≤1048576):zod k x=some (z3y x):=by
 have hK:=zf
 have e2:decide ((x.2.2.length:Int)≤24)=decide (x.2.2.length≤24):=decide_eq_decide.2 (by omega)
 unfold zod z3y
 simp only [z7g,y6]
 by_cases c0:1≤x.1∧x.1≤12
 case neg=>simp [c0]
 by_cases c00:2≤x.2.1∧x.2.1≤360
 case neg=>simp [c0,c00]
 have hl:z9j k k x 0 (fun x_10=>some (decide ((List.length x_10.2.2:Int)≤24)))=if (List.range x.2.2.length).all (z8o x)=true then some (decide ((x.2.2.length:Int)≤24)) else some false:=by
  refine z4f (L:=fun m i=>z9j k m x i (fun x_10=>some (decide ((List.length x_10.2.2:Int)≤24)))) (b:=x.2.2.length) (p:=z8o x) (r:=some false) ?_ ?_ (n:=k) (by omega)
  ·intro m i hi
   have hlt:(i:Int)<(x.2.2.length:Int):=by omega
   have hw:=zd (i:=i) (by omega)
   have hg:x.2.2[i]?=some x.2.2[i]:=yh hi
   have wn:z6 (x.1-1)=x.1-1:=ze (by omega) (by omega)
   simp only [z9j,hlt,y9,y7,yg,yd,hg,y6,hw,z7g,z8o,zhr,wn]
   generalize x.2.2[i]=a
   by_cases c1:0≤a.1∧a.1≤x.1-1
   case neg =>
    rw [yb c1,y4 (by simp),y5]
    intro h
    simp only [yi,y1k,decide_eq_false_iff_not] at h
    omega
   have wa:z6 (a.1+1)=a.1+1:=ze (by omega) (by omega)
   rw [wa,yc c1]
   simp only [y10,ya,y8]
   by_cases c2:a.1+1≤a.2.1∧a.2.1≤x.1-1
   case neg =>
    rw [yb c2,y4 (by simp),y5]
    intro h
    simp only [yi,y1k,decide_eq_false_iff_not] at h
    omega
   rw [yc c2,yb (show ¬ a.1<0 by omega),yb (show ¬ a.2.1≤a.1 by omega),yb (show ¬ x.1≤a.2.1 by omega)]
   simp only [y10,y2m,ya,y8,y1i]
   by_cases c4:0≤a.2.2∧a.2.2≤z6 (x.2.1-1)
   case neg=>simp [c4]
   rw [yc c4]
   simp only [y10,y2m,ya,y8,y1i]
   by_cases h0:0<i
   ·have h0':(0:Int)<(i:Int):=by omega
    have hw1:z6 ((i:Int)-1)=((i-1:Nat):Int):=by rw [ze (by omega) (by omega)]; omega
    have hg1:x.2.2[i-1]?=some x.2.2[i-1]:=yh (by omega)
    simp only [h0',h0,y9,y7,hw1,yg,yd,hg1,y6]
    generalize x.2.2[i-1]=t
    unfold zdy
    by_cases d1:a.1<t.1
    ·have:¬ (t.1<a.1∨t.1=a.1∧t.2.1<a.2.1):=by omega
     rw [yc d1,y4 rfl,yb this,y5 (by simp)]
    ·rw [yb d1,y5 (by simp)]
     by_cases d2:t.1=a.1
     ·rw [yc d2,y4 rfl]
      by_cases d3:a.2.1≤t.2.1
      ·have:¬ (t.1<a.1∨t.1=a.1∧t.2.1<a.2.1):=by omega
       rw [yc d3,y4 rfl,yb this,y5 (by simp)]
      ·have:(t.1<a.1∨t.1=a.1∧t.2.1<a.2.1):=by omega
       rw [yb d3,y5 (by simp),yc this,y4 rfl]
     ·have:(t.1<a.1∨t.1=a.1∧t.2.1<a.2.1):=by omega
      rw [yb d2,y5 (by simp),yc this,y4 rfl]
   ·have h0':¬ (0:Int)<(i:Int):=by omega
    simp [h0,h0']
  ·intro m
   simp only [z9j,yp,yf,ya,y8]
 rw [hl,e2,yc c0,yc c00]
 cases (List.range x.2.2.length).all (z8o x) <;> simp
theorem z1uc {k:Nat} (hk:KK≤k) {x:Pha} (hn:x.2.2.length≤1048576):zpr k x=some (z3y x):=by
 have hK:=zf
 have e2:decide ((x.2.2.length:Int)≤24)=decide (x.2.2.length≤24):=decide_eq_decide.2 (by omega)
 have hE:((z49 x.1 1 12).bind fun r_9=>(if r_9=true then (z49 x.2.1 2 360).bind fun r_10=>(if r_10=true then some (decide ((List.length x.2.2:Int)≤24)) else some false) else some false))=some (decide (1≤x.1∧x.1≤12)&&(decide (2≤x.2.1∧x.2.1≤360)&&decide (x.2.2.length≤24))):=by
  simp only [z6m,y6,e2]
  by_cases c1:1≤x.1∧x.1≤12
  case neg=>simp [c1]
  by_cases c2:2≤x.2.1∧x.2.1≤360
  case neg=>simp [c1,c2]
  simp [c1,c2]
 unfold zpr
 have hl:∀ E:Pha→Option Bool,zb8 k k x.2.2 (x.2.2.length:Int) 0 x E=if (List.range x.2.2.length).all (z8o x)=true then E x else some false:=by
  intro E
  refine z4f (L:=fun m i=>zb8 k m x.2.2 (x.2.2.length:Int) i x E) (b:=x.2.2.length) (p:=z8o x) (r:=some false) ?_ ?_ (n:=k) (by omega)
  ·intro m i hi
   have hlt:(i:Int)<(x.2.2.length:Int):=by omega
   have hw:=zd (i:=i) (by omega)
   have hg:x.2.2[i]?=some x.2.2[i]:=yh hi
   simp only [zb8,z69,hlt,y9,y7,yg,yd,hg,y6,hw,z6m,z8o,zhr]
   generalize x.2.2[i]=a
   by_cases c1:a.1<0
   case pos=>simp [c1]
   by_cases c2:a.2.1≤a.1
   case pos=>simp [c1,c2]
   by_cases c3:x.1≤a.2.1
   case pos=>simp [c1,c2,c3]
   by_cases c4:0≤a.2.2∧a.2.2≤z6 (x.2.1-1)
   case neg=>simp [c1,c2,c3,c4]
   rw [yb c1,yb c2,yb c3,yc c4]
   simp only [y10,y2m,ya,y8,y1i]
   by_cases h0:0<i
   ·have h0':(0:Int)<(i:Int):=by omega
    have hw1:z6 ((i:Int)-1)=((i-1:Nat):Int):=by rw [ze (by omega) (by omega)]; omega
    have hg1:x.2.2[i-1]?=some x.2.2[i-1]:=yh (by omega)
    simp only [h0',h0,y9,y7,hw1,yg,yd,hg1,y6,zus,zut hk,z1aa]
    generalize x.2.2[i-1]=t
    cases zdy t a <;> simp
   ·have h0':¬ (0:Int)<(i:Int):=by omega
    simp [h0,h0']
  ·intro m
   simp only [zb8,yp,yf,ya,y8]
 rw [hl,hE]
 unfold z3y
 cases (List.range x.2.2.length).all (z8o x) <;> simp
abbrev Wrk:=She×Int×List Int×List Int×Net×List Int×List Int×Pha×List Int
structure smallW (w:Wrk):Prop where
 sh:smallSh w.1
 cl:w.2.2.1.length≤1048576
 rd:w.2.2.2.1.length≤1048576
 net:w.2.2.2.2.1.2.2.2.length≤1048576
 pha:w.2.2.2.2.2.2.2.1.2.2.length≤1048576
 ang:w.2.2.2.2.2.2.2.2.length≤1048576
noncomputable def z7o (k:Nat) (w:Wrk):Bool:=zz k w.1&&(decide (0≤w.2.1∧w.2.1≤3)&&(z28 w.2.2.1 (zh w.1.2.2.1 (ofC w.1.1 w.2.1)) w.1.2.1&&(z28 w.2.2.2.1 (zh w.1.2.2.1 (ofC w.1.1 0)) w.1.2.1&&(z2t w.2.2.2.2.1&&(z3y w.2.2.2.2.2.2.2.1&&z28 w.2.2.2.2.2.2.2.2 w.2.2.2.2.2.2.2.1.1 w.2.2.2.2.2.2.2.1.2.1)))))
theorem z1b1 {x:Pha} (h:z3y x=true):(1≤x.1∧x.1≤12)∧(2≤x.2.1∧x.2.1≤360):=by
 unfold z3y at h
 simp only [yi,y18] at h
 exact ⟨h.1,h.2.1⟩
theorem z1ud {k:Nat} (hk:KK≤k) {w:Wrk} (hs:smallW w):zoe k w=some (z7o k w):=by
 unfold zoe z7o zth zti
 rw [z1sl hk hs.sh]
 cases h1:zz k w.1 with
 | false=>simp
 | true =>
  obtain ⟨hC,hp,hS⟩:=z1b hk h1
  have hsc:=z2l hC
  simp only [y6,y10,ya,y8,z7g,y1i]
  by_cases c2:0≤w.2.1∧w.2.1≤3
  case neg=>simp [c2]
  have hp' : -1000000≤w.1.2.1∧w.1.2.1≤1000000:=by omega
  have hc1:z7d k w.2.2.1 (zh w.1.2.2.1 (ofC w.1.1 w.2.1)) w.1.2.1=some (z28 w.2.2.1 (zh w.1.2.2.1 (ofC w.1.1 w.2.1)) w.1.2.1):=zjz hk hs.cl _ hp'
  have hc2:z7d k w.2.2.2.1 (zh w.1.2.2.1 (ofC w.1.1 0)) w.1.2.1=some (z28 w.2.2.2.1 (zh w.1.2.2.1 (ofC w.1.1 0)) w.1.2.1):=zjz hk hs.rd _ hp'
  rw [yc c2,z9w hk hsc hS (by omega),z9w hk hsc hS (by omega)]
  simp only [y6,y10,ya,y8,hc1,hc2,z1t9 hk hs.net,z1ub hk hs.pha,y1i]
  cases z28 w.2.2.1 (zh w.1.2.2.1 (ofC w.1.1 w.2.1)) w.1.2.1 with
  | false=>simp
  | true =>
  cases z28 w.2.2.2.1 (zh w.1.2.2.1 (ofC w.1.1 0)) w.1.2.1 with
  | false=>simp
  | true =>
  cases z2t w.2.2.2.2.1 with
  | false=>simp
  | true =>
  cases h5:z3y w.2.2.2.2.2.2.2.1 with
  | false=>simp
  | true =>
   obtain ⟨g1,g2⟩:=z1b1 h5
   have hc3:z7d k w.2.2.2.2.2.2.2.2 w.2.2.2.2.2.2.2.1.1 w.2.2.2.2.2.2.2.1.2.1=some (z28 w.2.2.2.2.2.2.2.2 w.2.2.2.2.2.2.2.1.1 w.2.2.2.2.2.2.2.1.2.1):=zjz hk hs.ang _ (by omega)
   simp only [y10,ya,y8,y7,hc3,y6,y1i]
theorem z1ue {k:Nat} (hk:KK≤k) {w:Wrk} (hs:smallW w):znl k w=some (z7o k w):=by
 unfold znl z7o zu3 zu4
 rw [z1sm hk hs.sh]
 cases h1:zz k w.1 with
 | false=>simp
 | true =>
  obtain ⟨hC,hp,hS⟩:=z1b hk h1
  have hsc:=z2l hC
  simp only [y6,y10,ya,y8,z6m,y1i]
  by_cases c2:0≤w.2.1∧w.2.1≤3
  case neg=>simp [c2]
  have hp' : -1000000≤w.1.2.1∧w.1.2.1≤1000000:=by omega
  rw [yc c2,z9x hk hsc hS (by omega),z9x hk hsc hS (by omega)]
  simp only [y6,y10,ya,y8,zuz hk hs.cl _ hp',zuz hk hs.rd _ hp',z1ta hk hs.net,z1uc hk hs.pha,y1i]
  cases z2t w.2.2.2.2.1 with
  | false=>simp
  | true =>
  cases h5:z3y w.2.2.2.2.2.2.2.1 with
  | false=>simp
  | true =>
  obtain ⟨g1,g2⟩:=z1b1 h5
  simp only [y10,ya,y8,zuz hk hs.ang w.2.2.2.2.2.2.2.1.1 (p:=w.2.2.2.2.2.2.2.1.2.1) (by omega),y6]
  cases z28 w.2.2.1 (zh w.1.2.2.1 (ofC w.1.1 w.2.1)) w.1.2.1 with
  | false=>simp
  | true =>
  cases z28 w.2.2.2.1 (zh w.1.2.2.1 (ofC w.1.1 0)) w.1.2.1 with
  | false=>simp
  | true=>simp
instance dec_Int64S:DecidableEq (List Int):=inferInstance
def zj (a:List Int):Nat:=a.length
theorem zbk {a:List Int} {e0:TypeId} {left:Int} (h0:0≤left) (h1:left≤1048576) (h:InR (.sl e0 (.int .i64)) a):z79 a left=some (if (zj a:Int)≤left then left-(zj a:Int) else -1):=by
 have hl:a.length≤140737488351232:=h.1
 have hs:zj a=a.length:=rfl
 unfold z79
 rw [hs,ze (by omega) (by omega)]
 by_cases c:(a.length:Int)≤left
 ·rw [yb (by omega),y5 (by simp),y4 c]
 ·rw [yc (by omega),y4 rfl,y5 c]
instance dec_Int64SS:DecidableEq (List (List Int)):=inferInstance
def z3z (a:List (List Int)):Nat:=a.length+zm zj a
theorem z1uf {k:Nat} (hk:KK≤k) {a:List (List Int)} {e0 e1:TypeId} {left:Int} (h0:0≤left) (h1:left≤1048576) (h:InR (.sl e0 (.sl e1 (.int .i64))) a):zmi k a left=some (if (z3z a:Int)≤left then left-(z3z a:Int) else -1):=by
 have hl:a.length≤140737488351232:=h.1
 have hs:z3z a=a.length+zm zj a:=rfl
 have hK:=zf
 unfold zmi
 rw [hs,ze (by omega) (by omega)]
 by_cases c:(a.length:Int)≤left
 ·rw [yb (by omega),y5 (by simp)]
  refine Eq.trans (z1ab (L:=fun n i r=>zfa k n a r i fun r=>some r) (s:=zj) a ?_ ?_ (n:=k) (by omega) (r:=left-(a.length:Int)) (by omega) (by omega)) ?_
  ·intro n i x r hi hlt hm r0 r1
   have hw:=zd (i:=i) (by omega)
   have hx:=zbk (a:=x) r0 r1 (h.2 x hm)
   simp only [zfa,hlt,y9,y7,yg,yd,hi,y6,hw,hx]
   by_cases c2:(zj x:Int)≤r
   ·rw [y4 c2,yb (by omega),y5 (by simp),y4 c2]
   ·rw [y5 c2,yc (by omega),y4 rfl,y5 c2]
  ·intro n r
   simp [zfa]
  ·by_cases c2:(zm zj a:Int)≤left-(a.length:Int)
   ·rw [y4 c2,y4 (by omega)]; congr 1; omega
   ·rw [y5 c2,y5 (by omega)]
 ·rw [yc (by omega),y4 rfl,y5 (by omega)]
instance dec_Complex:DecidableEq (List (List Int)):=inferInstance
def z58 (a:List (List Int)):Nat:=(z3z a)
theorem z1ug {k:Nat} (hk:KK≤k) {a:List (List Int)} {e0 e1:TypeId} {left:Int} (h0:0≤left) (h1:left≤1048576) (h:InR (.st (.sl e0 (.sl e1 (.int .i64)))) a):zmj k a left=some (if (z58 a:Int)≤left then left-(z58 a:Int) else -1):=by
 have hs:z58 a=(z3z a):=rfl
 unfold zmj
 rw [hs]
 have q0:=z1uf hk (a:=a) (left:=left) (by omega) (by omega) h
 rw [q0]
 by_cases c0:((z3z a):Int)≤left
 case neg=>rw [y5 c0]; simp only [y6]; rw [yc (by omega),y4 rfl]
 rw [y4 c0]; simp only [y6]
 rw [yb (by omega),y5 (by simp)]
instance dec_Matrix_2:DecidableEq (Int×List Int):=inferInstance
instance dec_Matrix_1:DecidableEq (Int×Int×List Int):=inferInstance
instance dec_Matrix:DecidableEq (Int×Int×Int×List Int):=inferInstance
def z2u (a:Int×Int×Int×List Int):Nat:=(zj (a.2.2.2))
theorem z1uh {a:Int×Int×Int×List Int} {e0:TypeId} {left:Int} (h0:0≤left) (h1:left≤1048576) (h:InR (.st (.pr (.int .i64) (.pr (.int .i64) (.pr (.int .i64) (.sl e0 (.int .i64)))))) a):zmk a left=some (if (z2u a:Int)≤left then left-(z2u a:Int) else -1):=by
 have hs:z2u a=(zj (a.2.2.2)):=rfl
 unfold zmk
 rw [hs]
 have q0:=zbk (a:=a.2.2.2) (left:=left) (by omega) (by omega) h.2.2.2
 rw [q0]
 by_cases c0:((zj (a.2.2.2)):Int)≤left
 case neg=>rw [y5 c0]; simp only [y6]; rw [yc (by omega),y4 rfl]
 rw [y4 c0]; simp only [y6]
 rw [yb (by omega),y5 (by simp)]
instance dec_MatrixS:DecidableEq (List (Int×Int×Int×List Int)):=inferInstance
def z40 (a:List (Int×Int×Int×List Int)):Nat:=a.length+zm z2u a
theorem z1ui {k:Nat} (hk:KK≤k) {a:List (Int×Int×Int×List Int)} {e0 e1:TypeId} {left:Int} (h0:0≤left) (h1:left≤1048576) (h:InR (.sl e0 (.st (.pr (.int .i64) (.pr (.int .i64) (.pr (.int .i64) (.sl e1 (.int .i64))))))) a):zml k a left=some (if (z40 a:Int)≤left then left-(z40 a:Int) else -1):=by
 have hl:a.length≤140737488351232:=h.1
 have hs:z40 a=a.length+zm z2u a:=rfl
 have hK:=zf
 unfold zml
 rw [hs,ze (by omega) (by omega)]
 by_cases c:(a.length:Int)≤left
 ·rw [yb (by omega),y5 (by simp)]
  refine Eq.trans (z1ab (L:=fun n i r=>zfb k n a r i fun r=>some r) (s:=z2u) a ?_ ?_ (n:=k) (by omega) (r:=left-(a.length:Int)) (by omega) (by omega)) ?_
  ·intro n i x r hi hlt hm r0 r1
   have hw:=zd (i:=i) (by omega)
   have hx:=z1uh (a:=x) r0 r1 (h.2 x hm)
   simp only [zfb,hlt,y9,y7,yg,yd,hi,y6,hw,hx]
   by_cases c2:(z2u x:Int)≤r
   ·rw [y4 c2,yb (by omega),y5 (by simp),y4 c2]
   ·rw [y5 c2,yc (by omega),y4 rfl,y5 c2]
  ·intro n r
   simp [zfb]
  ·by_cases c2:(zm z2u a:Int)≤left-(a.length:Int)
   ·rw [y4 c2,y4 (by omega)]; congr 1; omega
   ·rw [y5 c2,y5 (by omega)]
 ·rw [yc (by omega),y4 rfl,y5 (by omega)]
instance dec_Sheaf_2:DecidableEq (List Int×(List (Int×Int×Int×List Int))):=inferInstance
instance dec_Sheaf_1:DecidableEq (Int×List Int×(List (Int×Int×Int×List Int))):=inferInstance
instance dec_Sheaf:DecidableEq (List (List Int)×Int×List Int×(List (Int×Int×Int×List Int))):=inferInstance
def z1m (a:List (List Int)×Int×List Int×(List (Int×Int×Int×List Int))):Nat:=(z58 (a.1))+(zj (a.2.2.1))+(z40 (a.2.2.2))
theorem z1uj {k:Nat} (hk:KK≤k) {a:List (List Int)×Int×List Int×(List (Int×Int×Int×List Int))} {e0 e1 e2 e3 e4:TypeId} {left:Int} (h0:0≤left) (h1:left≤1048576) (h:InR (.st (.pr (.st (.sl e0 (.sl e1 (.int .i64)))) (.pr (.int .i64) (.pr (.sl e2 (.int .i64)) (.sl e3 (.st (.pr (.int .i64) (.pr (.int .i64) (.pr (.int .i64) (.sl e4 (.int .i64))))))))))) a):zmm k a left=some (if (z1m a:Int)≤left then left-(z1m a:Int) else -1):=by
 have hs:z1m a=(z58 (a.1))+(zj (a.2.2.1))+(z40 (a.2.2.2)):=rfl
 unfold zmm
 rw [hs]
 have q0:=z1ug hk (a:=a.1) (left:=left) (by omega) (by omega) h.1
 rw [q0]
 by_cases c0:((z58 (a.1)):Int)≤left
 case neg=>rw [y5 c0]; simp only [y6]; rw [yc (by omega),y4 rfl,y5 (by omega)]
 rw [y4 c0]; simp only [y6]
 rw [yb (by omega),y5 (by simp)]
 have q1:=zbk (a:=a.2.2.1) (left:=left-((z58 (a.1)):Int)) (by omega) (by omega) h.2.2.1
 rw [q1]
 by_cases c1:((zj (a.2.2.1)):Int)≤left-((z58 (a.1)):Int)
 case neg=>rw [y5 c1]; simp only [y6]; rw [yc (by omega),y4 rfl,y5 (by omega)]
 rw [y4 c1]; simp only [y6]
 rw [yb (by omega),y5 (by simp)]
 have q2:=z1ui hk (a:=a.2.2.2) (left:=left-((z58 (a.1)):Int)-((zj (a.2.2.1)):Int)) (by omega) (by omega) h.2.2.2
 rw [q2]
 by_cases c2:((z40 (a.2.2.2)):Int)≤left-((z58 (a.1)):Int)-((zj (a.2.2.1)):Int)
 case neg=>rw [y5 c2]; simp only [y6]; rw [yc (by omega),y4 rfl,y5 (by omega)]
 rw [y4 c2]; simp only [y6]
 rw [yb (by omega),y5 (by simp)]
 rw [y4 (by omega)]; congr 1; omega
theorem z1uk {s:She} (h:z1m s≤1048576):smallSh s:=by
 have e:z1m s=s.1.length+zm List.length s.1+s.2.2.1.length+(s.2.2.2.length+zm z2u s.2.2.2):=rfl
 refine ⟨⟨by omega,fun x hx=>by have:=za1 List.length hx; omega⟩,by omega,by omega,fun m hm=>?_⟩
 have h1:=za1 z2u hm
 have h2:z2u m=m.2.2.2.length:=rfl
 omega
instance dec_ArcS:DecidableEq (List (Int×Int×Int)):=inferInstance
def z5u (a:List (Int×Int×Int)):Nat:=a.length
theorem z1ul {a:List (Int×Int×Int)} {e0:TypeId} {left:Int} (h0:0≤left) (h1:left≤1048576) (h:InR (.sl e0 (.st (.pr (.int .i64) (.pr (.int .i64) (.int .i64))))) a):zmn a left=some (if (z5u a:Int)≤left then left-(z5u a:Int) else -1):=by
 have hl:a.length≤140737488351232:=h.1
 have hs:z5u a=a.length:=rfl
 unfold zmn
 rw [hs,ze (by omega) (by omega)]
 by_cases c:(a.length:Int)≤left
 ·rw [yb (by omega),y5 (by simp),y4 c]
 ·rw [yc (by omega),y4 rfl,y5 c]
instance dec_Network_2:DecidableEq (Int×(List (Int×Int×Int))):=inferInstance
instance dec_Network_1:DecidableEq (Int×Int×(List (Int×Int×Int))):=inferInstance
instance dec_Network:DecidableEq (Int×Int×Int×(List (Int×Int×Int))):=inferInstance
def z3n (a:Int×Int×Int×(List (Int×Int×Int))):Nat:=(z5u (a.2.2.2))
theorem z1um {a:Int×Int×Int×(List (Int×Int×Int))} {e0:TypeId} {left:Int} (h0:0≤left) (h1:left≤1048576) (h:InR (.st (.pr (.int .i64) (.pr (.int .i64) (.pr (.int .i64) (.sl e0 (.st (.pr (.int .i64) (.pr (.int .i64) (.int .i64))))))))) a):zmo a left=some (if (z3n a:Int)≤left then left-(z3n a:Int) else -1):=by
 have hs:z3n a=(z5u (a.2.2.2)):=rfl
 unfold zmo
 rw [hs]
 have q0:=z1ul (a:=a.2.2.2) (left:=left) (by omega) (by omega) h.2.2.2
 rw [q0]
 by_cases c0:((z5u (a.2.2.2)):Int)≤left
 case neg=>rw [y5 c0]; simp only [y6]; rw [yc (by omega),y4 rfl]
 rw [y4 c0]; simp only [y6]
 rw [yb (by omega),y5 (by simp)]
instance dec_TurnS:DecidableEq (List (Int×Int×Int)):=inferInstance
def z5v (a:List (Int×Int×Int)):Nat:=a.length
theorem z1un {a:List (Int×Int×Int)} {e0:TypeId} {left:Int} (h0:0≤left) (h1:left≤1048576) (h:InR (.sl e0 (.st (.pr (.int .i64) (.pr (.int .i64) (.int .i64))))) a):zmp a left=some (if (z5v a:Int)≤left then left-(z5v a:Int) else -1):=by
 have hl:a.length≤140737488351232:=h.1
 have hs:z5v a=a.length:=rfl
 unfold zmp
 rw [hs,ze (by omega) (by omega)]
 by_cases c:(a.length:Int)≤left
 ·rw [yb (by omega),y5 (by simp),y4 c]
 ·rw [yc (by omega),y4 rfl,y5 c]
instance dec_Phases_1:DecidableEq (Int×(List (Int×Int×Int))):=inferInstance
instance dec_Phases:DecidableEq (Int×Int×(List (Int×Int×Int))):=inferInstance
def z5w (a:Int×Int×(List (Int×Int×Int))):Nat:=(z5v (a.2.2))
theorem z1uo {a:Int×Int×(List (Int×Int×Int))} {e0:TypeId} {left:Int} (h0:0≤left) (h1:left≤1048576) (h:InR (.st (.pr (.int .i64) (.pr (.int .i64) (.sl e0 (.st (.pr (.int .i64) (.pr (.int .i64) (.int .i64)))))))) a):zmq a left=some (if (z5w a:Int)≤left then left-(z5w a:Int) else -1):=by
 have hs:z5w a=(z5v (a.2.2)):=rfl
 unfold zmq
 rw [hs]
 have q0:=z1un (a:=a.2.2) (left:=left) (by omega) (by omega) h.2.2
 rw [q0]
 by_cases c0:((z5v (a.2.2)):Int)≤left
 case neg=>rw [y5 c0]; simp only [y6]; rw [yc (by omega),y4 rfl]
 rw [y4 c0]; simp only [y6]
 rw [yb (by omega),y5 (by simp)]
instance dec_Work_7:DecidableEq ((Int×Int×(List (Int×Int×Int)))×List Int):=inferInstance
instance dec_Work_6:DecidableEq (List Int×(Int×Int×(List (Int×Int×Int)))×List Int):=inferInstance
instance dec_Work_5:DecidableEq (List Int×List Int×(Int×Int×(List (Int×Int×Int)))×List Int):=inferInstance
instance dec_Work_4:DecidableEq ((Int×Int×Int×(List (Int×Int×Int)))×List Int×List Int×(Int×Int×(List (Int×Int×Int)))×List Int):=inferInstance
instance dec_Work_3:DecidableEq (List Int×(Int×Int×Int×(List (Int×Int×Int)))×List Int×List Int×(Int×Int×(List (Int×Int×Int)))×List Int):=inferInstance
instance dec_Work_2:DecidableEq (List Int×List Int×(Int×Int×Int×(List (Int×Int×Int)))×List Int×List Int×(Int×Int×(List (Int×Int×Int)))×List Int):=inferInstance
instance dec_Work_1:DecidableEq (Int×List Int×List Int×(Int×Int×Int×(List (Int×Int×Int)))×List Int×List Int×(Int×Int×(List (Int×Int×Int)))×List Int):=inferInstance
instance dec_Work:DecidableEq ((List (List Int)×Int×List Int×(List (Int×Int×Int×List Int)))×Int×List Int×List Int×(Int×Int×Int×(List (Int×Int×Int)))×List Int×List Int×(Int×Int×(List (Int×Int×Int)))×List Int):=inferInstance
def z29 (a:(List (List Int)×Int×List Int×(List (Int×Int×Int×List Int)))×Int×List Int×List Int×(Int×Int×Int×(List (Int×Int×Int)))×List Int×List Int×(Int×Int×(List (Int×Int×Int)))×List Int):Nat:=(z1m (a.1))+(zj (a.2.2.1))+(zj (a.2.2.2.1))+(z3n (a.2.2.2.2.1))+(zj (a.2.2.2.2.2.1))+(zj (a.2.2.2.2.2.2.1))+(z5w (a.2.2.2.2.2.2.2.1))+(zj (a.2.2.2.2.2.2.2.2))
theorem z1up {k:Nat} (hk:KK≤k) {a:(List (List Int)×Int×List Int×(List (Int×Int×Int×List Int)))×Int×List Int×List Int×(Int×Int×Int×(List (Int×Int×Int)))×List Int×List Int×(Int×Int×(List (Int×Int×Int)))×List Int} {e0 e1 e2 e3 e4 e5 e6 e7 e8 e9 e10 e11:TypeId} {left:Int} (h0:0≤left) (h1:left≤1048576) (h:InR (.st (.pr (.st (.pr (.st (.sl e0 (.sl e1 (.int .i64)))) (.pr (.int .i64) (.pr (.sl e2 (.int .i64)) (.sl e3 (.st (.pr (.int .i64) (.pr (.int .i64) (.pr (.int .i64) (.sl e4 (.int .i64))))))))))) (.pr (.int .i64) (.pr (.sl e5 (.int .i64)) (.pr (.sl e6 (.int .i64)) (.pr (.st (.pr (.int .i64) (.pr (.int .i64) (.pr (.int .i64) (.sl e7 (.st (.pr (.int .i64) (.pr (.int .i64) (.int .i64))))))))) (.pr (.sl e8 (.int .i64)) (.pr (.sl e9 (.int .i64)) (.pr (.st (.pr (.int .i64) (.pr (.int .i64) (.sl e10 (.st (.pr (.int .i64) (.pr (.int .i64) (.int .i64)))))))) (.sl e11 (.int .i64))))))))))) a):zmr k a left=some (if (z29 a:Int)≤left then left-(z29 a:Int) else -1):=by
 have hs:z29 a=(z1m (a.1))+(zj (a.2.2.1))+(zj (a.2.2.2.1))+(z3n (a.2.2.2.2.1))+(zj (a.2.2.2.2.2.1))+(zj (a.2.2.2.2.2.2.1))+(z5w (a.2.2.2.2.2.2.2.1))+(zj (a.2.2.2.2.2.2.2.2)):=rfl
 unfold zmr
 rw [hs]
 have q0:=z1uj hk (a:=a.1) (left:=left) (by omega) (by omega) h.1
 rw [q0]
 by_cases c0:((z1m (a.1)):Int)≤left
 case neg=>rw [y5 c0]; simp only [y6]; rw [yc (by omega),y4 rfl,y5 (by omega)]
 rw [y4 c0]; simp only [y6]
 rw [yb (by omega),y5 (by simp)]
 have q1:=zbk (a:=a.2.2.1) (left:=left-((z1m (a.1)):Int)) (by omega) (by omega) h.2.2.1
 rw [q1]
 by_cases c1:((zj (a.2.2.1)):Int)≤left-((z1m (a.1)):Int)
 case neg=>rw [y5 c1]; simp only [y6]; rw [yc (by omega),y4 rfl,y5 (by omega)]
 rw [y4 c1]; simp only [y6]
 rw [yb (by omega),y5 (by simp)]
 have q2:=zbk (a:=a.2.2.2.1) (left:=left-((z1m (a.1)):Int)-((zj (a.2.2.1)):Int)) (by omega) (by omega) h.2.2.2.1
 rw [q2]
 by_cases c2:((zj (a.2.2.2.1)):Int)≤left-((z1m (a.1)):Int)-((zj (a.2.2.1)):Int)
 case neg=>rw [y5 c2]; simp only [y6]; rw [yc (by omega),y4 rfl,y5 (by omega)]
 rw [y4 c2]; simp only [y6]
 rw [yb (by omega),y5 (by simp)]
 have q3:=z1um (a:=a.2.2.2.2.1) (left:=left-((z1m (a.1)):Int)-((zj (a.2.2.1)):Int)-((zj (a.2.2.2.1)):Int)) (by omega) (by omega) h.2.2.2.2.1
 rw [q3]
 by_cases c3:((z3n (a.2.2.2.2.1)):Int)≤left-((z1m (a.1)):Int)-((zj (a.2.2.1)):Int)-((zj (a.2.2.2.1)):Int)
 case neg=>rw [y5 c3]; simp only [y6]; rw [yc (by omega),y4 rfl,y5 (by omega)]
 rw [y4 c3]; simp only [y6]
 rw [yb (by omega),y5 (by simp)]
 have q4:=zbk (a:=a.2.2.2.2.2.1) (left:=left-((z1m (a.1)):Int)-((zj (a.2.2.1)):Int)-((zj (a.2.2.2.1)):Int)-((z3n (a.2.2.2.2.1)):Int)) (by omega) (by omega) h.2.2.2.2.2.1
 rw [q4]
 by_cases c4:((zj (a.2.2.2.2.2.1)):Int)≤left-((z1m (a.1)):Int)-((zj (a.2.2.1)):Int)-((zj (a.2.2.2.1)):Int)-((z3n (a.2.2.2.2.1)):Int)
 case neg=>rw [y5 c4]; simp only [y6]; rw [yc (by omega),y4 rfl,y5 (by omega)]
 rw [y4 c4]; simp only [y6]
 rw [yb (by omega),y5 (by simp)]
 have q5:=zbk (a:=a.2.2.2.2.2.2.1) (left:=left-((z1m (a.1)):Int)-((zj (a.2.2.1)):Int)-((zj (a.2.2.2.1)):Int)-((z3n (a.2.2.2.2.1)):Int)-((zj (a.2.2.2.2.2.1)):Int)) (by omega) (by omega) h.2.2.2.2.2.2.1
 rw [q5]
 by_cases c5:((zj (a.2.2.2.2.2.2.1)):Int)≤left-((z1m (a.1)):Int)-((zj (a.2.2.1)):Int)-((zj (a.2.2.2.1)):Int)-((z3n (a.2.2.2.2.1)):Int)-((zj (a.2.2.2.2.2.1)):Int)
 case neg=>rw [y5 c5]; simp only [y6]; rw [yc (by omega),y4 rfl,y5 (by omega)]
 rw [y4 c5]; simp only [y6]
 rw [yb (by omega),y5 (by simp)]
 have q6:=z1uo (a:=a.2.2.2.2.2.2.2.1) (left:=left-((z1m (a.1)):Int)-((zj (a.2.2.1)):Int)-((zj (a.2.2.2.1)):Int)-((z3n (a.2.2.2.2.1)):Int)-((zj (a.2.2.2.2.2.1)):Int)-((zj (a.2.2.2.2.2.2.1)):Int)) (by omega) (by omega) h.2.2.2.2.2.2.2.1
 rw [q6]
 by_cases c6:((z5w (a.2.2.2.2.2.2.2.1)):Int)≤left-((z1m (a.1)):Int)-((zj (a.2.2.1)):Int)-((zj (a.2.2.2.1)):Int)-((z3n (a.2.2.2.2.1)):Int)-((zj (a.2.2.2.2.2.1)):Int)-((zj (a.2.2.2.2.2.2.1)):Int)
 case neg=>rw [y5 c6]; simp only [y6]; rw [yc (by omega),y4 rfl,y5 (by omega)]
 rw [y4 c6]; simp only [y6]
 rw [yb (by omega),y5 (by simp)]
 have q7:=zbk (a:=a.2.2.2.2.2.2.2.2) (left:=left-((z1m (a.1)):Int)-((zj (a.2.2.1)):Int)-((zj (a.2.2.2.1)):Int)-((z3n (a.2.2.2.2.1)):Int)-((zj (a.2.2.2.2.2.1)):Int)-((zj (a.2.2.2.2.2.2.1)):Int)-((z5w (a.2.2.2.2.2.2.2.1)):Int)) (by omega) (by omega) h.2.2.2.2.2.2.2.2
 rw [q7]
 by_cases c7:((zj (a.2.2.2.2.2.2.2.2)):Int)≤left-((z1m (a.1)):Int)-((zj (a.2.2.1)):Int)-((zj (a.2.2.2.1)):Int)-((z3n (a.2.2.2.2.1)):Int)-((zj (a.2.2.2.2.2.1)):Int)-((zj (a.2.2.2.2.2.2.1)):Int)-((z5w (a.2.2.2.2.2.2.2.1)):Int)
 case neg=>rw [y5 c7]; simp only [y6]; rw [yc (by omega),y4 rfl,y5 (by omega)]
 rw [y4 c7]; simp only [y6]
 rw [yb (by omega),y5 (by simp)]
 rw [y4 (by omega)]; congr 1; omega
theorem z1uq {w:Wrk} (h:z29 w≤1048576):smallW w:=by
 have e:z29 w=z1m w.1+w.2.2.1.length+w.2.2.2.1.length+w.2.2.2.2.1.2.2.2.length+w.2.2.2.2.2.1.length+w.2.2.2.2.2.2.1.length+w.2.2.2.2.2.2.2.1.2.2.length+w.2.2.2.2.2.2.2.2.length:=rfl
 exact ⟨z1uk (by omega),by omega,by omega,by omega,by omega,by omega⟩
def mkI (_:Int) (m:Int):Int×Int:=(m,m+((1:Nat):Int))
theorem zvo:∀ (x:Int) (m:Int),(mkI x m).2=m+(((fun _:Int=>1) x:Nat):Int):=fun _ _=>rfl
theorem z1ur {k:Nat} (hk:KK≤k) {q:List (List Int)} {a:Nat} {z:List Int} (hz:q[a]?=some z) {m:Int} (h0:0≤m) (h1:m≤1000000000000000000) (hl:z.length≤1000000000000) :
  zo0 k a m q=some ((m+(z.length:Int),()),(q.set a (mkL mkI z m).1,()),()):=by
 have hK:=zf
 have ha:=(yo.1 hz).1
 have hs:=zr1 z
 unfold zo0
 have e:q=q.set a z:=by
  obtain ⟨h,rfl⟩:=yo.1 hz
  exact (y6b h).symm
 have:=zbj zvo z (m0:=m) (B:=2000000000000000000) (by omega) (S:=fun l=>q.set a l) (L:=fun n m i q=>zfz k n a m i q (fun k_10 q_11=>some ((k_10,()),(q_11,()),())))
  (G:=some ((m+(z.length:Int),()),(q.set a (mkL mkI z m).1,()),())) ?_ ?_ (n:=k) (by omega)
 ·rw [← e] at this
  exact this
 ·intro n i m l y hll hg hy m0 m1 hlt hlt'
  have hw:=zd (i:=i) (by omega)
  have hm:z6 (m+1)=m+((1:Nat):Int):=ze (by omega) (by omega)
  simp only [zfz,y2i ha,y6,hlt,hlt',y9,y7,yg,yd,yw,yh hlt',hm,hw,y46,mkI]
 ·intro n l hl2 hll
  have:¬ (z.length:Int)<(l.length:Int):=by omega
  simp only [zfz,y2i ha,y6,this,yf,ya,y8,hs]
  rw [hl2]
def mkIS (z:List Int) (m:Int):List Int×Int:=((mkL mkI z m).1,m+(z.length:Int))
theorem z1us (z:List Int) (m:Int):(mkIS z m).2=m+(z.length:Int):=rfl
theorem z1ut {k:Nat} (hk:KK≤k) {L:List (List Int)} {m:Int} (h0:0≤m) (h1:m+(zm List.length L:Int)≤100000000000000000) (hx:∀ x∈L,x.length≤1000000000000) (hL:L.length≤1000000000000) :
  zo1 k m L=some ((m+(zm List.length L:Int),()),((mkL mkIS L m).1,()),()):=by
 have hK:=zf
 unfold zo1
 refine zbj z1us L (m0:=m) (B:=100000000000000000) h1 (S:=fun l=>l) (L:=fun n m i q=>zg0 k n m i q (fun k_5 q_6=>some ((k_5,()),(q_6,()),()))) ?_ ?_ (n:=k) (by omega)
 ·intro n i m' l y hll hg hy m0 m1 hlt hlt'
  have hw:=zd (i:=i) (by omega)
  have st:=z1ur hk hg (m:=m') (by omega) (by omega) (hx y hy)
  simp only [zg0,hlt,hlt',y9,y7,y6,yg,yd,yw,hg,st,hw]
  rfl
 ·intro n l hl2 hll
  have:¬ (L.length:Int)<(l.length:Int):=by omega
  simp only [zg0,this,yf,ya,y8]
  rw [hl2]
theorem z1uu {k:Nat} (hk:KK≤k) {a:List Int} {m:Int} (h0:0≤m) (h1:m≤1000000000000000000) (hl:a.length≤1000000000000) :
  z9g k m a=some ((m+(a.length:Int),()),((mkL mkI a m).1,()),()):=by
 have hK:=zf
 have hs:=zr1 a
 unfold z9g
 refine zbj zvo a (m0:=m) (B:=2000000000000000000) (by omega) (S:=fun l=>l) (L:=fun n m i q=>zg1 k n m i q (fun k_5 q_6=>some ((k_5,()),(q_6,()),()))) ?_ ?_ (n:=k) (by omega)
 ·intro n i m l y hll hg hy m0 m1 hlt hlt'
  have hw:=zd (i:=i) (by omega)
  have hm:z6 (m+1)=m+((1:Nat):Int):=ze (by omega) (by omega)
  simp only [zg1,y6,hlt,hlt',y9,y7,yg,yd,yw,yh hlt',hm,hw,mkI]
 ·intro n l hl2 hll
  have:¬ (a.length:Int)<(l.length:Int):=by omega
  simp only [zg1,this,yf,ya,y8,hs]
  rw [hl2]
theorem z1b3 {α:Type} {f g:α→Nat} {c:Nat}:∀ {l:List α},(∀ x∈l,f x≤g x+c)→zm f l≤zm g l+c*l.length
 | [],_=>by simp [z8m]
 | x::l,h=>by
  have h1:=h x (by simp)
  have h2:=z1b3 (f:=f) (g:=g) (c:=c) (l:=l) fun y hy=>h y (by simp [hy])
  rw [z4k,z4k,y1g,Nat.mul_succ]
  omega
theorem z1uv {k:Nat} (hk:KK≤k) {q:List Mat} {a:Nat} {z:Mat} (hz:q[a]?=some z) {m:Int} (h0:0≤m) (h1:m≤1000000000000000000) (hl:z.2.2.2.length≤1000000000000) :
  zo2 k a m q=some ((m+(z.2.2.2.length:Int),()),(q.set a (z.1,z.2.1,z.2.2.1,(mkL mkI z.2.2.2 m).1),()),()):=by
 have hK:=zf
 have ha:=(yo.1 hz).1
 have hs:=zr1 z.2.2.2
 unfold zo2
 have e:q=q.set a (z.1,z.2.1,z.2.2.1,z.2.2.2):=by
  obtain ⟨h,rfl⟩:=yo.1 hz
  exact (y6b h).symm
 have:=zbj zvo z.2.2.2 (m0:=m) (B:=2000000000000000000) (by omega) (S:=fun l=>q.set a (z.1,z.2.1,z.2.2.1,l)) (L:=fun n m i q=>zg3 k n a m i q (fun k_10 q_11=>some ((k_10,()),(q_11,()),())))
  (G:=some ((m+(z.2.2.2.length:Int),()),(q.set a (z.1,z.2.1,z.2.2.1,(mkL mkI z.2.2.2 m).1),()),())) ?_ ?_ (n:=k) (by omega)
 ·rw [← e] at this
  exact this
 ·intro n i m l y hll hg hy m0 m1 hlt hlt'
  have hw:=zd (i:=i) (by omega)
  have hm:z6 (m+1)=m+((1:Nat):Int):=ze (by omega) (by omega)
  simp only [zg3,y2i ha,y6,hlt,hlt',y9,y7,yg,yd,yw,yh hlt',hm,hw,y46,mkI]
 ·intro n l hl2 hll
  have:¬ (z.2.2.2.length:Int)<(l.length:Int):=by omega
  simp only [zg3,y2i ha,y6,this,yf,ya,y8,hs]
  rw [hl2]
def ctM (x:Mat):Nat:=x.2.2.2.length+3
def mkMt (x:Mat) (m:Int):Mat×Int:=((m,m+1,m+1+1,(mkL mkI x.2.2.2 (m+1+1+1)).1),m+(ctM x:Int))
theorem z1uw (x:Mat) (m:Int):(mkMt x m).2=m+(ctM x:Int):=rfl
theorem z1ux {k:Nat} (hk:KK≤k) {L:List Mat} {m:Int} (h0:0≤m) (h1:m+(zm ctM L:Int)≤10000000000000000) (hx:∀ x∈L,x.2.2.2.length≤1000000000000) (hL:L.length≤1000000000000) :
  zo3 k m L=some ((m+(zm ctM L:Int),()),((mkL mkMt L m).1,()),()):=by
 have hK:=zf
 unfold zo3
 refine zbj z1uw L (m0:=m) (B:=10000000000000000) h1 (S:=fun l=>l) (L:=fun n m i q=>zg4 k n m i q (fun k_11 q_12=>some ((k_11,()),(q_12,()),()))) ?_ ?_ (n:=k) (by omega)
 ·intro n i m' l y hll hg hy m0 m1 hlt hlt'
  have hw:=zd (i:=i) (by omega)
  have hc:ctM y=y.2.2.2.length+3:=rfl
  have w1:z6 (m'+1)=m'+1:=ze (by omega) (by omega)
  have w2:z6 (m'+1+1)=m'+1+1:=ze (by omega) (by omega)
  have w3:z6 (m'+1+1+1)=m'+1+1+1:=ze (by omega) (by omega)
  have st:=z1uv hk (q:=l.set i (m',m'+1,m'+1+1,y.2.2.2)) (a:=i) (z:=(m',m'+1,m'+1+1,y.2.2.2)) (y2i hlt') (m:=m'+1+1+1) (by omega) (by omega) (hx y hy)
  have e:m'+1+1+1+(y.2.2.2.length:Int)=m'+(ctM y:Int):=by omega
  simp only [zg4,hlt,hlt',y9,y7,y6,yg,yd,yw,hg,y20,y2i hlt',w1,w2,w3,y46,st,e,hw]
  rfl
 ·intro n l hl2 hll
  have:¬ (L.length:Int)<(l.length:Int):=by omega
  simp only [zg4,this,yf,ya,y8]
  rw [hl2]
def zvp (_:Edg) (m:Int):Edg×Int:=((m,m+1,m+1+1),m+((3:Nat):Int))
theorem z1b5:∀ (x:Edg) (m:Int),(zvp x m).2=m+(((fun _:Edg=>3) x:Nat):Int):=fun _ _=>rfl
theorem z1uy {k:Nat} (hk:KK≤k) {L:List Edg} {m:Int} (h0:0≤m) (h1:m+(zm (fun _:Edg=>3) L:Int)≤10000000000000000) (hL:L.length≤1000000000000) :
  zo4 k m L=some ((m+(zm (fun _:Edg=>3) L:Int),()),((mkL zvp L m).1,()),()):=by
 have hK:=zf
 unfold zo4
 refine zbj z1b5 L (m0:=m) (B:=10000000000000000) h1 (S:=fun l=>l) (L:=fun n m i q=>zg5 k n m i q (fun k_9 q_10=>some ((k_9,()),(q_10,()),()))) ?_ ?_ (n:=k) (by omega)
 ·intro n i m' l y hll hg hy m0 m1 hlt hlt'
  have hw:=zd (i:=i) (by omega)
  have w1:z6 (m'+1)=m'+1:=ze (by omega) (by omega)
  have w2:z6 (m'+1+1)=m'+1+1:=ze (by omega) (by omega)
  have w3:z6 (m'+1+1+1)=m'+((3:Nat):Int):=by rw [ze (by omega) (by omega)]; omega
  simp only [zg5,hlt,hlt',y9,y7,y6,yg,yd,yw,hg,y20,y2i hlt',w1,w2,w3,y46,hw]
  rfl
 ·intro n l hl2 hll
  have:¬ (L.length:Int)<(l.length:Int):=by omega
  simp only [zg5,this,yf,ya,y8]
  rw [hl2]
theorem z1uz {k:Nat} (hk:KK≤k) {L:List Edg} {m:Int} (h0:0≤m) (h1:m+(zm (fun _:Edg=>3) L:Int)≤10000000000000000) (hL:L.length≤1000000000000) :
  zo5 k m L=some ((m+(zm (fun _:Edg=>3) L:Int),()),((mkL zvp L m).1,()),()):=by
 have hK:=zf
 unfold zo5
 refine zbj z1b5 L (m0:=m) (B:=10000000000000000) h1 (S:=fun l=>l) (L:=fun n m i q=>zg6 k n m i q (fun k_9 q_10=>some ((k_9,()),(q_10,()),()))) ?_ ?_ (n:=k) (by omega)
 ·intro n i m' l y hll hg hy m0 m1 hlt hlt'
  have hw:=zd (i:=i) (by omega)
  have w1:z6 (m'+1)=m'+1:=ze (by omega) (by omega)
  have w2:z6 (m'+1+1)=m'+1+1:=ze (by omega) (by omega)
  have w3:z6 (m'+1+1+1)=m'+((3:Nat):Int):=by rw [ze (by omega) (by omega)]; omega
  simp only [zg6,hlt,hlt',y9,y7,y6,yg,yd,yw,hg,y20,y2i hlt',w1,w2,w3,y46,hw]
  rfl
 ·intro n l hl2 hll
  have:¬ (L.length:Int)<(l.length:Int):=by omega
  simp only [zg6,this,yf,ya,y8]
  rw [hl2]
theorem zr8 {α:Type}:∀ l:List α,zm (fun _=>3) l=3*l.length
 | []=>rfl
 | x::l=>by rw [z4k,zr8 l,y1g]; omega
theorem z1v0 {k:Nat} (hk:KK≤k) (a1 a2 a3 a4 a5 a6 a7:Int) {q1:List (List Int)} {q2:List Int} {q3:List Mat} {q4 q5:List Int} {q6:List Edg} {q7 q8:List Int} {q9:List Edg} {q10:List Int}
  (h1:z3z q1≤1048576) (h2:q2.length≤1048576) (h3:z40 q3≤1048576) (h4:q4.length≤1048576) (h5:q5.length≤1048576) (h6:q6.length≤1048576) (h7:q7.length≤1048576) (h8:q8.length≤1048576) (h9:q9.length≤1048576) (h10:q10.length≤1048576) :
  ∃ y,zjj k a1 a2 a3 a4 a5 a6 a7 1 q1 q2 q3 q4 q5 q6 q7 q8 q9 q10=some y∧¬ y.1.1<0:=by
 have e1:z3z q1=q1.length+zm List.length q1:=rfl
 have e3:z40 q3=q3.length+zm z2u q3:=rfl
 have c3:zm ctM q3≤zm z2u q3+3*q3.length:=z1b3 fun x _=>by
  have a:ctM x=x.2.2.2.length+3:=rfl
  have b:z2u x=x.2.2.2.length:=rfl
  omega
 have s1:=z1ut hk (L:=q1) (m:=1) (by omega) (by omega) (fun x hx=>by have:=za1 List.length hx; omega) (by omega)
 have s2:=fun (q:List Int) (hq:q.length≤1048576) m (h0:0≤m) (h1:m≤1000000000)=>z1uu hk (a:=q) (m:=m) h0 (by omega) (by omega)
 have s3:=fun m (h0:0≤m) (h1:m≤1000000000)=>z1ux hk (L:=q3) (m:=m) h0 (by omega) (fun x hx=>by have:=za1 z2u hx; have b:z2u x=x.2.2.2.length:=rfl; omega) (by omega)
 have s6:=fun m (h0:0≤m) (h1:m≤1000000000)=>z1uy hk (L:=q6) (m:=m) h0 (by rw [zr8]; omega) (by omega)
 have s9:=fun m (h0:0≤m) (h1:m≤1000000000)=>z1uz hk (L:=q9) (m:=m) h0 (by rw [zr8]; omega) (by omega)
 rw [zr8] at s6 s9
 unfold zjj zt9 zt8 zta ztb
 rw [s1]
 simp only [y6]
 rw [s2 q2 h2 _ (by omega) (by omega)]
 simp only [y6]
 rw [s3 _ (by omega) (by omega)]
 simp only [y6]
 rw [s2 q4 h4 _ (by omega) (by omega)]
 simp only [y6]
 rw [s2 q5 h5 _ (by omega) (by omega)]
 simp only [y6]
 rw [s6 _ (by omega) (by omega)]
 simp only [y6]
 rw [s2 q7 h7 _ (by omega) (by omega)]
 simp only [y6]
 rw [s2 q8 h8 _ (by omega) (by omega)]
 simp only [y6]
 rw [s9 _ (by omega) (by omega)]
 simp only [y6]
 rw [s2 q10 h10 _ (by omega) (by omega)]
 refine ⟨_,rfl,?_⟩
 simp only
 omega
theorem zbl {k:Nat} (hk:KK≤k) {a:List Int} (h:zj a≤10000000000):z7a k a=some a:=by
 have hl:a.length≤10000000000:=Nat.le_trans (show a.length≤zj a by unfold zj; omega) h
 unfold z7a
 have hL:=z1r
 rw [y4 ⟨by omega,y2g _,by omega⟩]
 refine zj2 (L:=fun n i q=>zfc k n a i q fun q_5=>some q_5) (e:=fun q=>some q) a _ (by simp) ?_ ?_ (n:=k) (by have:=zf; omega)
 ·intro n i x q hx hlt hq
  have hw:=zd (i:=i) (by omega)
  have hi:i<q.length:=by omega
  simp [zfc,hlt,hx,hw,hi]
 ·intro n q
  simp [zfc]
theorem z1v1 {k:Nat} (hk:KK≤k) {a:List (List Int)} (h:z3z a≤10000000000):zmt k a=some a:=by
 have hl:a.length≤10000000000:=Nat.le_trans (show a.length≤z3z a by unfold z3z; omega) h
 unfold zmt
 have hL:=z1r
 rw [y4 ⟨by omega,y2g _,by omega⟩]
 refine zj2 (L:=fun n i q=>zfd k n a i q fun q_5=>some q_5) (e:=fun q=>some q) a _ (by simp) ?_ ?_ (n:=k) (by have:=zf; omega)
 ·intro n i x q hx hlt hq
  have hw:=zd (i:=i) (by omega)
  have hi:i<q.length:=by omega
  have hm:=za1 zj (yl hx)
  have hb:zj x≤10000000000:=by unfold z3z at h; omega
  simp [zfd,zbl hk hb,hlt,hx,hw,hi]
 ·intro n q
  simp [zfd]
theorem z1v2 {k:Nat} (hk:KK≤k) {a:List (List Int)} (h:z58 a≤10000000000):zmu k a=some a:=by
 have b0:(z3z a)≤10000000000:=by unfold z58 at h; omega
 unfold zmu
 simp only [z1v1 hk b0,y6] <;> rfl
theorem z1v3 {k:Nat} (hk:KK≤k) {a:Int×Int×Int×List Int} (h:z2u a≤10000000000):zmv k a=some a:=by
 have b3:(zj (a.2.2.2))≤10000000000:=by unfold z2u at h; omega
 unfold zmv
 simp only [zbl hk b3,y6] <;> rfl
theorem z1v4 {k:Nat} (hk:KK≤k) {a:List (Int×Int×Int×List Int)} (h:z40 a≤10000000000):zmw k a=some a:=by
 have hl:a.length≤10000000000:=Nat.le_trans (show a.length≤z40 a by unfold z40; omega) h
 unfold zmw
 have hL:=z1r
 rw [y4 ⟨by omega,y2g _,by omega⟩]
 refine zj2 (L:=fun n i q=>zfe k n a i q fun q_5=>some q_5) (e:=fun q=>some q) a _ (by simp) ?_ ?_ (n:=k) (by have:=zf; omega)
 ·intro n i x q hx hlt hq
  have hw:=zd (i:=i) (by omega)
  have hi:i<q.length:=by omega
  have hm:=za1 z2u (yl hx)
  have hb:z2u x≤10000000000:=by unfold z40 at h; omega
  simp [zfe,z1v3 hk hb,hlt,hx,hw,hi]
 ·intro n q
  simp [zfe]
theorem z1v5 {k:Nat} (hk:KK≤k) {a:List (List Int)×Int×List Int×(List (Int×Int×Int×List Int))} (h:z1m a≤10000000000):zmx k a=some a:=by
 have b0:(z58 (a.1))≤10000000000:=by unfold z1m at h; omega
 have b2:(zj (a.2.2.1))≤10000000000:=by unfold z1m at h; omega
 have b3:(z40 (a.2.2.2))≤10000000000:=by unfold z1m at h; omega
 unfold zmx
 simp only [z1v2 hk b0,zbl hk b2,z1v4 hk b3,y6] <;> rfl
theorem z1v6 {a:Int×Int×Int} :zmy a=some a:=by
 unfold zmy
 rfl
theorem z1v7 {k:Nat} (hk:KK≤k) {a:List (Int×Int×Int)} (h:z5u a≤10000000000):zmz k a=some a:=by
 have hl:a.length≤10000000000:=Nat.le_trans (show a.length≤z5u a by unfold z5u; omega) h
 unfold zmz
 have hL:=z1r
 rw [y4 ⟨by omega,y2g _,by omega⟩]
 refine zj2 (L:=fun n i q=>zff k n a i q fun q_5=>some q_5) (e:=fun q=>some q) a _ (by simp) ?_ ?_ (n:=k) (by have:=zf; omega)
 ·intro n i x q hx hlt hq
  have hw:=zd (i:=i) (by omega)
  have hi:i<q.length:=by omega
  simp [zff,z1v6,hlt,hx,hw,hi]
 ·intro n q
  simp [zff]
theorem z1v8 {k:Nat} (hk:KK≤k) {a:Int×Int×Int×(List (Int×Int×Int))} (h:z3n a≤10000000000):zn0 k a=some a:=by
 have b3:(z5u (a.2.2.2))≤10000000000:=by unfold z3n at h; omega
 unfold zn0
 simp only [z1v7 hk b3,y6] <;> rfl
theorem z1v9 {a:Int×Int×Int} :zn1 a=some a:=by
 unfold zn1
 rfl
theorem z1va {k:Nat} (hk:KK≤k) {a:List (Int×Int×Int)} (h:z5v a≤10000000000):zn2 k a=some a:=by
 have hl:a.length≤10000000000:=Nat.le_trans (show a.length≤z5v a by unfold z5v; omega) h
 unfold zn2
 have hL:=z1r
 rw [y4 ⟨by omega,y2g _,by omega⟩]
 refine zj2 (L:=fun n i q=>zfg k n a i q fun q_5=>some q_5) (e:=fun q=>some q) a _ (by simp) ?_ ?_ (n:=k) (by have:=zf; omega)
 ·intro n i x q hx hlt hq
  have hw:=zd (i:=i) (by omega)
  have hi:i<q.length:=by omega
  simp [zfg,z1v9,hlt,hx,hw,hi]
 ·intro n q
  simp [zfg]
theorem z1vb {k:Nat} (hk:KK≤k) {a:Int×Int×(List (Int×Int×Int))} (h:z5w a≤10000000000):zn3 k a=some a:=by
 have b2:(z5v (a.2.2))≤10000000000:=by unfold z5w at h; omega
 unfold zn3
 simp only [z1va hk b2,y6] <;> rfl
theorem z1vc {k:Nat} (hk:KK≤k) {a:(List (List Int)×Int×List Int×(List (Int×Int×Int×List Int)))×Int×List Int×List Int×(Int×Int×Int×(List (Int×Int×Int)))×List Int×List Int×(Int×Int×(List (Int×Int×Int)))×List Int} (h:z29 a≤10000000000):zcc k a=some a:=by
 have b0:(z1m (a.1))≤10000000000:=by unfold z29 at h; omega
 have b2:(zj (a.2.2.1))≤10000000000:=by unfold z29 at h; omega
 have b3:(zj (a.2.2.2.1))≤10000000000:=by unfold z29 at h; omega
 have b4:(z3n (a.2.2.2.2.1))≤10000000000:=by unfold z29 at h; omega
 have b5:(zj (a.2.2.2.2.2.1))≤10000000000:=by unfold z29 at h; omega
 have b6:(zj (a.2.2.2.2.2.2.1))≤10000000000:=by unfold z29 at h; omega
 have b7:(z5w (a.2.2.2.2.2.2.2.1))≤10000000000:=by unfold z29 at h; omega
 have b8:(zj (a.2.2.2.2.2.2.2.2))≤10000000000:=by unfold z29 at h; omega
 unfold zcc
 simp only [z1v5 hk b0,zbl hk b2,zbl hk b3,z1v8 hk b4,zbl hk b5,zbl hk b6,z1vb hk b7,zbl hk b8,y6] <;> rfl
theorem zbm {k:Nat} (hk:KK≤k) {a b:List Int} (h:zj a≤10000000000):z7c k a b=some (decide (a=b)):=by
 have hle:a.length≤10000000000:=Nat.le_trans (show a.length≤zj a by unfold zj; omega) h
 unfold z7c
 by_cases hl:a.length=b.length
 ·rw [y5 (by simp [hl])]
  refine z9a (L:=fun n i=>zfu k n a b i (some true)) a b hl ?_ ?_ (n:=k) (by have:=zf; omega)
  ·intro n i x y hx hy hlt
   have hw:=zd (i:=i) (by omega)
   by_cases e:x=y <;> simp [zfu,hlt,hx,hy,hw,e]
  ·intro n
   simp [zfu]
 ·have h2:a≠b:=fun e=>hl (by rw [e])
  have h3:¬ (a.length:Int)=b.length:=by omega
  simp [h3,h2]
theorem z1vd {k:Nat} (hk:KK≤k) {a b:List (List Int)} (h:z3z a≤10000000000):zno k a b=some (decide (a=b)):=by
 have hle:a.length≤10000000000:=Nat.le_trans (show a.length≤z3z a by unfold z3z; omega) h
 unfold zno
 by_cases hl:a.length=b.length
 ·rw [y5 (by simp [hl])]
  refine z9a (L:=fun n i=>zfv k n a b i (some true)) a b hl ?_ ?_ (n:=k) (by have:=zf; omega)
  ·intro n i x y hx hy hlt
   have hw:=zd (i:=i) (by omega)
   have hm:=za1 zj (yl hx)
   have hb:zj x≤10000000000:=by unfold z3z at h; omega
   simp only [zfv,hlt,y9,y7,yg,yd,hx,hy,y6,hw,zbm hk hb]
   by_cases e:x=y
   ·rw [yc e,y4 e]; simp
   ·rw [yb e,y5 e]; simp
  ·intro n
   simp [zfv]
 ·have h2:a≠b:=fun e=>hl (by rw [e])
  have h3:¬ (a.length:Int)=b.length:=by omega
  simp [h3,h2]
theorem z1ve {k:Nat} (hk:KK≤k) {a b:List (List Int)} (h:z58 a≤10000000000):znp k a b=some (decide (a=b)):=by
 have c0:(z3z a)≤10000000000:=by unfold z58 at h; omega
 unfold znp
 simp only [z1vd hk c0,y6,y2j]
 by_cases x0:a=b
 case neg=>simp [x0]
 subst x0
 simp
theorem z1vf {k:Nat} (hk:KK≤k) {a b:Int×Int×Int×List Int} (h:z2u a≤10000000000):znq k a b=some (decide (a=b)):=by
 obtain ⟨a0,a1,a2,a3⟩:=a
 obtain ⟨b0,b1,b2,b3⟩:=b
 have c3:(zj a3)≤10000000000:=by unfold z2u at h; simp only at h; omega
 unfold znq
 simp only [zbm hk c3,y6,y2j]
 by_cases x0:a0=b0
 case neg=>simp [x0]
 subst x0
 by_cases x1:a1=b1
 case neg=>simp [x1]
 subst x1
 by_cases x2:a2=b2
 case neg=>simp [x2]
 subst x2
 by_cases x3:a3=b3
 case neg=>simp [x3]
 subst x3
 simp
theorem z1vg {k:Nat} (hk:KK≤k) {a b:List (Int×Int×Int×List Int)} (h:z40 a≤10000000000):znr k a b=some (decide (a=b)):=by
 have hle:a.length≤10000000000:=Nat.le_trans (show a.length≤z40 a by unfold z40; omega) h
 unfold znr
 by_cases hl:a.length=b.length
 ·rw [y5 (by simp [hl])]
  refine z9a (L:=fun n i=>zfw k n a b i (some true)) a b hl ?_ ?_ (n:=k) (by have:=zf; omega)
  ·intro n i x y hx hy hlt
   have hw:=zd (i:=i) (by omega)
   have hm:=za1 z2u (yl hx)
   have hb:z2u x≤10000000000:=by unfold z40 at h; omega
   simp only [zfw,hlt,y9,y7,yg,yd,hx,hy,y6,hw,z1vf hk hb]
   by_cases e:x=y
   ·rw [yc e,y4 e]; simp
   ·rw [yb e,y5 e]; simp
  ·intro n
   simp [zfw]
 ·have h2:a≠b:=fun e=>hl (by rw [e])
  have h3:¬ (a.length:Int)=b.length:=by omega
  simp [h3,h2]
theorem z1vh {k:Nat} (hk:KK≤k) {a b:List (List Int)×Int×List Int×(List (Int×Int×Int×List Int))} (h:z1m a≤10000000000):zns k a b=some (decide (a=b)):=by
 obtain ⟨a0,a1,a2,a3⟩:=a
 obtain ⟨b0,b1,b2,b3⟩:=b
 have c0:(z58 a0)≤10000000000:=by unfold z1m at h; simp only at h; omega
 have c2:(zj a2)≤10000000000:=by unfold z1m at h; simp only at h; omega
 have c3:(z40 a3)≤10000000000:=by unfold z1m at h; simp only at h; omega
 unfold zns
 simp only [z1ve hk c0,zbm hk c2,z1vg hk c3,y6,y2j]
 by_cases x0:a0=b0
 case neg=>simp [x0]
 subst x0
 by_cases x1:a1=b1
 case neg=>simp [x1]
 subst x1
 by_cases x2:a2=b2
 case neg=>simp [x2]
 subst x2
 by_cases x3:a3=b3
 case neg=>simp [x3]
 subst x3
 simp
theorem z1vi {a b:Int×Int×Int} :znt a b=some (decide (a=b)):=by
 obtain ⟨a0,a1,a2⟩:=a
 obtain ⟨b0,b1,b2⟩:=b
 unfold znt
 simp only [y2j]
 by_cases x0:a0=b0
 case neg=>simp [x0]
 subst x0
 by_cases x1:a1=b1
 case neg=>simp [x1]
 subst x1
 by_cases x2:a2=b2
 case neg=>simp [x2]
 subst x2
 simp
theorem z1vj {k:Nat} (hk:KK≤k) {a b:List (Int×Int×Int)} (h:z5u a≤10000000000):znu k a b=some (decide (a=b)):=by
 have hle:a.length≤10000000000:=Nat.le_trans (show a.length≤z5u a by unfold z5u; omega) h
 unfold znu
 by_cases hl:a.length=b.length
 ·rw [y5 (by simp [hl])]
  refine z9a (L:=fun n i=>zfx k n a b i (some true)) a b hl ?_ ?_ (n:=k) (by have:=zf; omega)
  ·intro n i x y hx hy hlt
   have hw:=zd (i:=i) (by omega)
   simp only [zfx,hlt,y9,y7,yg,yd,hx,hy,y6,hw,z1vi]
   by_cases e:x=y
   ·rw [yc e,y4 e]; simp
   ·rw [yb e,y5 e]; simp
  ·intro n
   simp [zfx]
 ·have h2:a≠b:=fun e=>hl (by rw [e])
  have h3:¬ (a.length:Int)=b.length:=by omega
  simp [h3,h2]
theorem z1vk {k:Nat} (hk:KK≤k) {a b:Int×Int×Int×(List (Int×Int×Int))} (h:z3n a≤10000000000):znv k a b=some (decide (a=b)):=by
 obtain ⟨a0,a1,a2,a3⟩:=a
 obtain ⟨b0,b1,b2,b3⟩:=b
 have c3:(z5u a3)≤10000000000:=by unfold z3n at h; simp only at h; omega
 unfold znv
 simp only [z1vj hk c3,y6,y2j]
 by_cases x0:a0=b0
 case neg=>simp [x0]
 subst x0
 by_cases x1:a1=b1
 case neg=>simp [x1]
 subst x1
 by_cases x2:a2=b2
 case neg=>simp [x2]
 subst x2
 by_cases x3:a3=b3
 case neg=>simp [x3]
 subst x3
 simp
theorem z1vl {a b:Int×Int×Int} :znw a b=some (decide (a=b)):=by
 obtain ⟨a0,a1,a2⟩:=a
 obtain ⟨b0,b1,b2⟩:=b
 unfold znw
 simp only [y2j]
 by_cases x0:a0=b0
 case neg=>simp [x0]
 subst x0
 by_cases x1:a1=b1
 case neg=>simp [x1]
 subst x1
 by_cases x2:a2=b2
 case neg=>simp [x2]
 subst x2
 simp
theorem z1vm {k:Nat} (hk:KK≤k) {a b:List (Int×Int×Int)} (h:z5v a≤10000000000):znx k a b=some (decide (a=b)):=by
 have hle:a.length≤10000000000:=Nat.le_trans (show a.length≤z5v a by unfold z5v; omega) h
 unfold znx
 by_cases hl:a.length=b.length
 ·rw [y5 (by simp [hl])]
  refine z9a (L:=fun n i=>zfy k n a b i (some true)) a b hl ?_ ?_ (n:=k) (by have:=zf; omega)
  ·intro n i x y hx hy hlt
   have hw:=zd (i:=i) (by omega)
   simp only [zfy,hlt,y9,y7,yg,yd,hx,hy,y6,hw,z1vl]
   by_cases e:x=y
   ·rw [yc e,y4 e]; simp
   ·rw [yb e,y5 e]; simp
  ·intro n
   simp [zfy]
 ·have h2:a≠b:=fun e=>hl (by rw [e])
  have h3:¬ (a.length:Int)=b.length:=by omega
  simp [h3,h2]
theorem z1vn {k:Nat} (hk:KK≤k) {a b:Int×Int×(List (Int×Int×Int))} (h:z5w a≤10000000000):zny k a b=some (decide (a=b)):=by
 obtain ⟨a0,a1,a2⟩:=a
 obtain ⟨b0,b1,b2⟩:=b
 have c2:(z5v a2)≤10000000000:=by unfold z5w at h; simp only at h; omega
 unfold zny
 simp only [z1vm hk c2,y6,y2j]
 by_cases x0:a0=b0
 case neg=>simp [x0]
 subst x0
 by_cases x1:a1=b1
 case neg=>simp [x1]
 subst x1
 by_cases x2:a2=b2
 case neg=>simp [x2]
 subst x2
 simp
theorem z1vo {k:Nat} (hk:KK≤k) {a b:(List (List Int)×Int×List Int×(List (Int×Int×Int×List Int)))×Int×List Int×List Int×(Int×Int×Int×(List (Int×Int×Int)))×List Int×List Int×(Int×Int×(List (Int×Int×Int)))×List Int} (h:z29 a≤10000000000):znz k a b=some (decide (a=b)):=by
 obtain ⟨a0,a1,a2,a3,a4,a5,a6,a7,a8⟩:=a
 obtain ⟨b0,b1,b2,b3,b4,b5,b6,b7,b8⟩:=b
 have c0:(z1m a0)≤10000000000:=by unfold z29 at h; simp only at h; omega
 have c2:(zj a2)≤10000000000:=by unfold z29 at h; simp only at h; omega
 have c3:(zj a3)≤10000000000:=by unfold z29 at h; simp only at h; omega
 have c4:(z3n a4)≤10000000000:=by unfold z29 at h; simp only at h; omega
 have c5:(zj a5)≤10000000000:=by unfold z29 at h; simp only at h; omega
 have c6:(zj a6)≤10000000000:=by unfold z29 at h; simp only at h; omega
 have c7:(z5w a7)≤10000000000:=by unfold z29 at h; simp only at h; omega
 have c8:(zj a8)≤10000000000:=by unfold z29 at h; simp only at h; omega
 unfold znz
 simp only [z1vh hk c0,zbm hk c2,zbm hk c3,z1vk hk c4,zbm hk c5,zbm hk c6,z1vn hk c7,zbm hk c8,y6,y2j]
 by_cases x0:a0=b0
 case neg=>simp [x0]
 subst x0
 by_cases x1:a1=b1
 case neg=>simp [x1]
 subst x1
 by_cases x2:a2=b2
 case neg=>simp [x2]
 subst x2
 by_cases x3:a3=b3
 case neg=>simp [x3]
 subst x3
 by_cases x4:a4=b4
 case neg=>simp [x4]
 subst x4
 by_cases x5:a5=b5
 case neg=>simp [x5]
 subst x5
 by_cases x6:a6=b6
 case neg=>simp [x6]
 subst x6
 by_cases x7:a7=b7
 case neg=>simp [x7]
 subst x7
 by_cases x8:a8=b8
 case neg=>simp [x8]
 subst x8
 simp
theorem z1vp (x:(List (List Int)×Int×List Int×(List (Int×Int×Int×List Int)))×Int×List Int×List Int×(Int×Int×Int×(List (Int×Int×Int)))×List Int×List Int×(Int×Int×(List (Int×Int×Int)))×List Int):((x.1.1,(x.1.2.1,(x.1.2.2.1,x.1.2.2.2))),(x.2.1,(x.2.2.1,(x.2.2.2.1,((x.2.2.2.2.1.1,(x.2.2.2.2.1.2.1,(x.2.2.2.2.1.2.2.1,x.2.2.2.2.1.2.2.2))),(x.2.2.2.2.2.1,(x.2.2.2.2.2.2.1,((x.2.2.2.2.2.2.2.1.1,(x.2.2.2.2.2.2.2.1.2.1,x.2.2.2.2.2.2.2.1.2.2)),x.2.2.2.2.2.2.2.2))))))))=x:=rfl
theorem z1vq {a b:Int×List UInt8×List UInt8} (h:z4l a≤10000000000):znm a b=some (decide (a=b)):=by
 obtain ⟨a0,a1,a2⟩:=a
 obtain ⟨b0,b1,b2⟩:=b
 unfold znm
 simp only [y2j]
 by_cases x0:a0=b0
 case neg=>simp [x0]
 subst x0
 by_cases x1:a1=b1
 case neg=>simp [x1]
 subst x1
 by_cases x2:a2=b2
 case neg=>simp [x2]
 subst x2
 simp
theorem z1vr {k:Nat} (hk:KK≤k) {a b:List (Int×List UInt8×List UInt8)} (h:z24 a≤10000000000):zcm k a b=some (decide (a=b)):=by
 have hle:a.length≤10000000000:=Nat.le_trans (show a.length≤z24 a by unfold z24; omega) h
 unfold zcm
 by_cases hl:a.length=b.length
 ·rw [y5 (by simp [hl])]
  refine z9a (L:=fun n i=>zft k n a b i (some true)) a b hl ?_ ?_ (n:=k) (by have:=zf; omega)
  ·intro n i x y hx hy hlt
   have hw:=zd (i:=i) (by omega)
   have hm:=za1 z4l (yl hx)
   have hb:z4l x≤10000000000:=by unfold z24 at h; omega
   simp only [zft,hlt,y9,y7,yg,yd,hx,hy,y6,hw,z1vq hb]
   by_cases e:x=y
   ·rw [yc e,y4 e]; simp
   ·rw [yb e,y5 e]; simp
  ·intro n
   simp [zft]
 ·have h2:a≠b:=fun e=>hl (by rw [e])
  have h3:¬ (a.length:Int)=b.length:=by omega
  simp [h3,h2]
theorem z1b6 {k:Nat} {w:Wrk} (h:z7o k w=true):zz k w.1=true∧(0≤w.2.1∧w.2.1≤3)∧z28 w.2.2.1 (zh w.1.2.2.1 (ofC w.1.1 w.2.1)) w.1.2.1=true∧z28 w.2.2.2.1 (zh w.1.2.2.1 (ofC w.1.1 0)) w.1.2.1=true∧z2t w.2.2.2.2.1=true∧z3y w.2.2.2.2.2.2.2.1=true∧z28 w.2.2.2.2.2.2.2.2 w.2.2.2.2.2.2.2.1.1 w.2.2.2.2.2.2.2.1.2.1=true:=by
 unfold z7o at h
 simp only [yi,y18] at h
 exact ⟨h.1,h.2.1,h.2.2.1,h.2.2.2.1,h.2.2.2.2.1,h.2.2.2.2.2.1,h.2.2.2.2.2.2⟩
theorem z1vs {k:Nat} (hk:KK≤k) {a:Wrk} (h:z29 a≤1048576):∃ y,zjj k a.1.2.1 a.2.1 a.2.2.2.2.1.1 a.2.2.2.2.1.2.1 a.2.2.2.2.1.2.2.1 a.2.2.2.2.2.2.2.1.1 a.2.2.2.2.2.2.2.1.2.1 1 a.1.1 a.1.2.2.1 a.1.2.2.2 a.2.2.1 a.2.2.2.1 a.2.2.2.2.1.2.2.2 a.2.2.2.2.2.1 a.2.2.2.2.2.2.1 a.2.2.2.2.2.2.2.1.2.2 a.2.2.2.2.2.2.2.2=some y∧¬ y.1.1<0:=by
 have e:z29 a=z1m a.1+a.2.2.1.length+a.2.2.2.1.length+a.2.2.2.2.1.2.2.2.length+a.2.2.2.2.2.1.length+a.2.2.2.2.2.2.1.length+a.2.2.2.2.2.2.2.1.2.2.length+a.2.2.2.2.2.2.2.2.length:=rfl
 have e2:z1m a.1=z3z a.1.1+a.1.2.2.1.length+z40 a.1.2.2.2:=rfl
 exact z1v0 hk _ _ _ _ _ _ _ (by omega) (by omega) (by omega) (by omega) (by omega) (by omega) (by omega) (by omega) (by omega) (by omega)
noncomputable def pbR (s:She) (y:Int):Prb:=match s.1[y.toNat]? with
 | some t=>(3,(z3w t,[100,105,115,97,103,114,101,101]))
 | none=>(0,([],[]))
noncomputable def za4 (s:She) (v:List Int):List Int:=z57 s (z2x (z38 s (zh s.2.2.1 (ofC s.1 1)).toNat (zh s.2.2.1 (ofC s.1 0)).toNat) v (zh s.2.2.1 (ofC s.1 0)).toNat (zh s.2.2.1 (ofC s.1 1)).toNat) (ofC s.1 1).length
noncomputable def z7p (s:She) (v:List Int):List Prb:=(za4 s v).map (pbR s)
theorem z1b7 {α β:Type} (f:α→β) {l:List α} {i:Nat} {y:α} (h:l[i]?=some y):(l.take (i+1)).map f=(l.take i).map f++[f y]:=by
 rw [y4e,h,y1z]; rfl
theorem zkl {c:Cx} (h:CxP c) {i:Nat} {t:List Int} (ht:c[i]?=some t):zdx t:=by
 have hs:=h.simp t (yl ht)
 exact ⟨by have:=hs.len4; omega,fun x hx=>by have:=hs.vert x hx; omega⟩
theorem zvq {k:Nat} (hk:KK≤k) {s:She} (hs:smallSh s) (h:zz k s=true) {v:List Int} (hv:z28 v (zh s.2.2.1 (ofC s.1 0)) s.2.1=true):zjq k s v=some (za4 s v)∧zjb k s v=some (za4 s v)∧(za4 s v).length≤48∧∀ y∈za4 s v,0≤y∧y.toNat<s.1.length:=by
 obtain ⟨hCx,hp,hS⟩:=z1b hk h
 obtain ⟨R,hR,hR2⟩:=z1aq hk h 1 (by omega)
 obtain ⟨C,hC,hC2⟩:=z1aq hk h 0 (by omega)
 have hR:zh s.2.2.1 (ofC s.1 1)=(R:Int):=hR
 have hC:zh s.2.2.1 (ofC s.1 0)=(C:Int):=hC
 unfold z28 at hv
 rw [hC] at hv
 simp only [yi,y18,y16] at hv
 have hl:v.length=C:=by omega
 have e:za4 s v=z57 s (z2x (z38 s R C) v C R) (ofC s.1 1).length:=by unfold za4; rw [hR,hC,Int.toNat_natCast,Int.toNat_natCast]
 rw [e]
 refine ⟨z1u9 hk hs h hR hC hR2 hC2 hl hv.1,z1ua hk hs h hR hC hR2 hC2 hl hv.1,?_,fun y hy=>z1u8 hy⟩
 have h1:=zvn s (z2x (z38 s R C) v C R) (ofC s.1 1).length
 have h2:=z9u s.1 1
 have h3:=hCx.len
 omega
theorem z1vt {k:Nat} (hk:KK≤k) {w:Wrk} (hs:smallSh w.1) (h:zz k w.1=true) (hv:z28 w.2.2.2.1 (zh w.1.2.2.1 (ofC w.1.1 0)) w.1.2.1=true):zp2 k w=some (z7p w.1 w.2.2.2.1):=by
 have hK:=zf
 obtain ⟨f1,f2,f3,f4⟩:=zvq hk hs h hv
 obtain ⟨hCx,hp,hS⟩:=z1b hk h
 unfold zp2 z7p
 rw [f1]
 simp only [y6]
 generalize za4 w.1 w.2.2.2.1=W at *
 have:=z1t (S:=List Prb) (R:=Option (List Prb)) (L:=fun m i q=>zgt k m w i q W (fun q_7=>some q_7)) (b:=W.length) (st:=fun i=>(W.take i).map (pbR w.1)) (e:=some (W.map (pbR w.1))) ?_ ?_ (n:=k) (by omega)
 ·simpa using this
 ·intro m i hi
  have hlt:(i:Int)<(W.length:Int):=by omega
  have hw:=zd (i:=i) (by omega)
  have hg:W[i]?=some W[i]:=yh hi
  obtain ⟨y0,y1⟩:=f4 W[i] (y1e hi)
  have hga:w.1.1[(W[i]).toNat]?=some w.1.1[(W[i]).toNat]:=yh y1
  have ht:=zqy hk (zkl hCx hga)
  have hpb:pbR w.1 W[i]=(3,(z3w w.1.1[(W[i]).toNat],[100,105,115,97,103,114,101,101])):=by unfold pbR; rw [hga]
  have hL:(((W.take i).map (pbR w.1)).length+1)*40≤LIM:=by unfold LIM; rw [List.length_map,List.length_take]; omega
  simp only [zgt,hlt,y9,y7,yg,yd,hi,yw,hg,y6,y0,hga,ht,yy,hL,hw,z1b7 (pbR w.1) hg,hpb]
 ·intro m
  simp only [zgt,yp,yf,ya,y8,y2k]
theorem z1vu {k:Nat} (hk:KK≤k) {w:Wrk} (hs:smallSh w.1) (h:zz k w.1=true) (hv:z28 w.2.2.2.1 (zh w.1.2.2.1 (ofC w.1.1 0)) w.1.2.1=true):zjd k w=some (z7p w.1 w.2.2.2.1):=by
 have hK:=zf
 obtain ⟨f1,f2,f3,f4⟩:=zvq hk hs h hv
 obtain ⟨hCx,hp,hS⟩:=z1b hk h
 unfold zjd z7p
 rw [f2]
 simp only [y6]
 generalize za4 w.1 w.2.2.2.1=W at *
 have:=z1t (S:=List Prb) (R:=Option (List Prb)) (L:=fun m i q=>zfn k m (W.length:Int) i q W w (fun q_7=>some q_7)) (b:=W.length) (st:=fun i=>(W.take i).map (pbR w.1)) (e:=some (W.map (pbR w.1))) ?_ ?_ (n:=k) (by omega)
 ·simpa using this
 ·intro m i hi
  have hlt:(i:Int)<(W.length:Int):=by omega
  have hw:=zd (i:=i) (by omega)
  have hg:W[i]?=some W[i]:=yh hi
  obtain ⟨y0,y1⟩:=f4 W[i] (y1e hi)
  have hga:w.1.1[(W[i]).toNat]?=some w.1.1[(W[i]).toNat]:=yh y1
  have ht:=zqz hk (zkl hCx hga)
  have hpb:pbR w.1 W[i]=(3,(z3w w.1.1[(W[i]).toNat],[100,105,115,97,103,114,101,101])):=by unfold pbR; rw [hga]
  have hL:(((W.take i).map (pbR w.1)).length+1)*40≤LIM:=by unfold LIM; rw [List.length_map,List.length_take]; omega
  simp only [zfn,hlt,y9,y7,yg,yd,hi,yw,hg,y6,y0,hga,ht,yy,hL,hw,z1b7 (pbR w.1) hg,hpb]
 ·intro m
  simp only [zfn,yp,yf,ya,y8,y2k]
theorem z1b8 {k:Nat} (hk:KK≤k) {w:Wrk} (hs:smallSh w.1) (h:zz k w.1=true) (hv:z28 w.2.2.2.1 (zh w.1.2.2.1 (ofC w.1.1 0)) w.1.2.1=true):(z7p w.1 w.2.2.2.1).length≤48:=by
 obtain ⟨_,_,f3,_⟩:=zvq hk hs h hv
 unfold z7p
 rw [ym]
 exact f3
theorem z1b9 {α:Type} (f:α→Nat) (B:Nat):∀ l:List α,(∀ x∈l,f x≤B)→zm f l≤l.length*B
 | [],_=>by simp [zm]
 | x::l,h=>by
  have h1:=z1b9 f B l fun y hy=>h y (y25 _ hy)
  have h2:=h x (y4o)
  rw [z4k,y1g,y1j]
  omega
theorem z1vv {k:Nat} (hk:KK≤k) {w:Wrk} (hs:smallSh w.1) (h:zz k w.1=true) (hv:z28 w.2.2.2.1 (zh w.1.2.2.1 (ofC w.1.1 0)) w.1.2.1=true):z24 (z7p w.1 w.2.2.2.1)≤100000:=by
 have hl:=z1b8 hk hs h hv
 obtain ⟨hCx,hp,hS⟩:=z1b hk h
 have hs:zm z4l (z7p w.1 w.2.2.2.1)≤(z7p w.1 w.2.2.2.1).length*600:=by
  refine z1b9 _ _ _ fun y hy=>?_
  unfold z7p at hy
  obtain ⟨j,_,rfl⟩:=y1c.1 hy
  unfold pbR
  cases hg:w.1.1[j.toNat]? with
  | none=>simp [z4l]
  | some a =>
   have:=(zqx (zkl hCx hg)).1
   simp only [z4l,y1g,y2b]
   omega
 unfold z24
 omega
theorem zhv {s:List Int} {k:Nat} (h:k<s.length) (x:Nat):(zy s k)[x]?=if x<k then s[x]? else s[x+1]?:=by
 have hl:(s.take k).length=k:=by rw [y1d]; omega
 unfold zy
 by_cases hx:x<k
 ·rw [y4 hx,y1w (by omega),y1o hx]
 ·rw [y5 hx,y1r (by omega),hl,y3c,show k+1+(x-k)=x+1 by omega]
theorem z1vw {s:List Int} {i d:Nat} (h:i+1+d<s.length):zy (zy s i) (i+d)=zy (zy s (i+1+d)) i:=by
 have l1:=z8i (s:=s) (k:=i) (by omega)
 have l2:=z8i (s:=s) (k:=i+1+d) h
 refine y35 fun x=>?_
 have a0:=zhv (s:=zy s i) (k:=i+d) (by omega) x
 have b0:=zhv (s:=s) (k:=i) (by omega) x
 have b1:=zhv (s:=s) (k:=i) (by omega) (x+1)
 have c0:=zhv (s:=zy s (i+1+d)) (k:=i) (by omega) x
 have d0:=zhv (s:=s) (k:=i+1+d) h x
 have d1:=zhv (s:=s) (k:=i+1+d) h (x+1)
 rw [a0,c0,b0,b1,d0,d1]
 repeat' split
 all_goals first
  | rfl
  | (exfalso; omega)
theorem z1ba {c:Cx} (h:CxP c) {D:Int} (hD:D = -1∨D=4):ofC c D=[]:=by
 unfold ofC
 refine List.filter_eq_nil_iff.2 fun i hi=>?_
 cases hg:c[i]? with
 | none=>simp
 | some s =>
  have h1:=(h.simp s (yl hg)).len1
  have h4:=(h.simp s (yl hg)).len4
  simp only [y18]
  rcases hD with rfl | rfl <;> omega
theorem z1bb {k:Nat} (hk:KK≤k) {s:She} (h:zz k s=true) (D:Int) (hD : -1≤D∧D≤4):∃ R:Nat,zh s.2.2.1 (ofC s.1 D)=(R:Int)∧R≤32:=by
 obtain ⟨hCx,hp,hS⟩:=z1b hk h
 by_cases h1:D = -1∨D=4
 ·rw [z1ba hCx h1]
  exact ⟨0,rfl,by omega⟩
 ·obtain ⟨d,rfl⟩:=y4j (show 0≤D by omega)
  exact z1u0 hk h d (by omega)
theorem z1bc {k:Nat} (hk:KK≤k) {s:She} (hs:smallSh s) (h:zz k s=true) (e:Int) (he : -1≤e∧e≤3):∃ (M:Mat) (R C:Nat),z85 k s e=some M∧z88 k s e=some M∧MatP M R C∧zh s.2.2.1 (ofC s.1 (e+1))=(R:Int)∧zh s.2.2.1 (ofC s.1 e)=(C:Int)∧M.1=s.2.1:=by
 have hK:=zf
 obtain ⟨hCx,hp,hS⟩:=z1b hk h
 obtain ⟨R,hR,hR2⟩:=z1bb hk h (e+1) (by omega)
 obtain ⟨C,hC,hC2⟩:=z1bb hk h e (by omega)
 by_cases h1:e = -1
 ·subst h1
  have hC0:C=0:=by
   rw [z1ba hCx (.inl rfl)] at hC
   have:(0:Int)=(C:Int):=hC
   omega
  subst hC0
  have w1:z6 (-1+1)=0:=ze (by omega) (by omega)
  have e0:(-1:Int)+1=0:=by omega
  rw [e0] at hR
  have hn:(-1:Int)<0:=by omega
  have hnn:¬ (0:Int) ≤ -1:=by omega
  have c0:((0:Nat):Int)=0:=rfl
  have hc:zh s.2.2.1 (ofC s.1 (-1))=0:=hC
  obtain ⟨n,rfl⟩:∃ n,k=n+1:=⟨k-1,by omega⟩
  have z1:=zvj hk s.2.1 (R:=R) (C:=0) hR2 hC2
  have z2:=zvk s.2.1 (R:=R) (C:=0) hR2 hC2
  rw [c0] at z1 z2
  refine ⟨(s.2.1,(R:Int),(0:Int),List.replicate (R*0) 0),R,0,?_,?_,⟨rfl,rfl,hR2,hC2,by simp,hp,by simp,by simp⟩,by rw [e0]; exact hR,hC,rfl⟩
  ·unfold z85
   simp only [w1,z9x hk (z2l hCx) hS (show -1000≤(0:Int)∧(0:Int)≤1000 by omega),z9x hk (z2l hCx) hS (show -1000≤(-1:Int)∧(-1:Int)≤1000 by omega),hR,hc,y6,z1,zhm hk (z2l hCx) (show -1000≤(0:Int)∧(0:Int)≤1000 by omega),ym,z8e]
   cases hO:ofC s.1 0 with
   | nil=>simp
   | cons x l=>simp [hn]
  ·unfold z88
   simp only [w1,z9w hk (z2l hCx) hS (show -1000≤(0:Int)∧(0:Int)≤1000 by omega),z9w hk (z2l hCx) hS (show -1000≤(-1:Int)∧(-1:Int)≤1000 by omega),hR,hc,y6,z2,zk7 hk (z2l hCx) (show -1000≤(0:Int)∧(0:Int)≤1000 by omega),z87,hnn,yf,ya,y8,ite_self]
 ·obtain ⟨d,rfl⟩:=y4j (show 0≤e by omega)
  exact ⟨zr6 s d R C,R,C,z1u1 hk hs h (by omega) hR hC hR2 hC2,z1u2 hk hs h (by omega) hR hC hR2 hC2,z1u3 hk hs h (by omega) hR hC hR2 hC2,hR,hC,rfl⟩
theorem z1vx {k:Nat} (hk:KK≤k) {w:Wrk} (hs:smallW w) (hb:z7o k w=true):∃ L:List Prb,zp1 k w=some L∧zj8 k w=some L∧L.length≤1∧z24 L≤2000:=by
 have hK:=zf
 have hn:=z1b6 hb
 have h:=hn.1
 have hss:=hs.sh
 obtain ⟨hCx,hp,hS⟩:=z1b hk h
 unfold zp1 zj8
 cases hall:(List.range w.1.1.length).all (z56 w.1) with
 | false =>
  obtain ⟨j,t,i,d,F⟩:=z1t2 hall
  obtain ⟨c,hc,hcg⟩:=z1t7 hk hss h F
  have hft:=zkl hCx F.hj
  have hfc:=zkl hCx hcg
  have h4:=(hCx.simp t (yl F.hj)).len4
  have hdd:=F.hd
  have d1:=zqj (s:=t) (by omega) (k:=i+1+d) hdd
  have l2:=z8i (s:=t) (k:=i+1+d) hdd
  have d2:=zqj (s:=zy t (i+1+d)) (by omega) (k:=i) (by omega)
  rw [← z1vw hdd] at d2
  refine ⟨[(1,(z3w t,z3w (zy (zy t i) (i+d))))],?_,?_,by simp,?_⟩
  ·rw [z1t4 hk hss h F]
   have hj0:(0:Int)≤(j:Int):=by omega
   simp only [y6,hj0,y9,y7,yd,F.hj,zqy hk hft,d1,d2,zqy hk hfc]
  ·rw [hc]
   simp only [y6,y7,yg,yd,F.hj,zqz hk hft,hcg,zqz hk hfc]
  ·have a1:=(zqx hft).1
   have a2:=(zqx hfc).1
   have e1:z24 [((1:Int),(z3w t,z3w (zy (zy t i) (i+d))))]=1+(z4l ((1:Int),(z3w t,z3w (zy (zy t i) (i+d))))+0):=by unfold z24; rw [z4k,z8m]; rfl
   rw [e1]
   simp only [z4l]
   omega
 | true =>
  have hcl:=hn.2.2.1
  have hd:=hn.2.1
  unfold z28 at hcl
  simp only [yi,y18,y16] at hcl
  obtain ⟨M,R,C,m1,m2,m3,m4,m5,m6⟩:=z1bc hk hss h w.2.1 (by omega)
  obtain ⟨M2,R2,C2,n1,n2,n3,n4,n5,n6⟩:=z1bc hk hss h (w.2.1-1) (by omega)
  have hw1:z6 (w.2.1-1)=w.2.1-1:=ze (by omega) (by omega)
  rw [show w.2.1-1+1=w.2.1 by omega] at n4
  have hlC:w.2.2.1.length=C:=by omega
  have hlR:w.2.2.1.length=R2:=by omega
  have a1:=z1av hk m3 hlC (by rw [m6]; exact hcl.1)
  have a2:=z1aw hk m3 hlC (by rw [m6]; exact hcl.1)
  have hvl:=zkk M w.2.2.1 C R
  have hR:=m3.r32
  have b1:=z1ax hk (v:=z2x M w.2.2.1 C R) (by omega)
  have b2:=z1ay hk (v:=z2x M w.2.2.1 C R) (by omega)
  obtain ⟨r,s1,s2⟩:=z1sx hk n3 hlR (by rw [n6]; exact hcl.1)
  have sz1:z24 [((2:Int),(([99,108,97,115,115]:List UInt8),([111,112,101,110]:List UInt8)))]≤2000:=by
   unfold z24; rw [z4k,z8m]; simp [z4l]
  have sz2:z24 [((2:Int),(([99,108,97,115,115]:List UInt8),([116,114,105,118,105,97,108]:List UInt8)))]≤2000:=by
   unfold z24; rw [z4k,z8m]; simp [z4l]
  have c1:zne k w.1 w.2.1 w.2.2.1=some (!nzB (z2x M w.2.2.1 C R)):=by
   unfold zne
   rw [m1]
   simp only [y6]
   rw [show (M.1,(M.2.1,(M.2.2.1,M.2.2.2)))=M from rfl,a1]
   simp only [y6,b1]
  have c2:zoo k w.1 w.2.1 w.2.2.1=some (!nzB (z2x M w.2.2.1 C R)):=by
   unfold zoo
   rw [m2]
   simp only [y6]
   rw [show (M.1,(M.2.1,(M.2.2.1,M.2.2.2)))=M from rfl,a2]
   simp only [y6,b2]
  have e1:znd k w.1 w.2.1 w.2.2.1=some r:=by
   unfold znd
   rw [hw1,n1]
   simp only [y6]
   rw [show (M2.1,(M2.2.1,(M2.2.2.1,M2.2.2.2)))=M2 from rfl,s2]
   rfl
  have e2:zp0 k w.1 w.2.1 w.2.2.1=some r:=by
   unfold zp0
   rw [hw1,n2]
   simp only [y6]
   rw [show (M2.1,(M2.2.1,(M2.2.2.1,M2.2.2.2)))=M2 from rfl,s1]
   rfl
  rw [z1t5 hk hss h hall,z1t8 hk hss h hall]
  have hneg:¬ (0:Int) ≤ -1:=by omega
  simp only [y6,hneg,yf,ya,y8,c1,c2,e1,e2]
  cases nzB (z2x M w.2.2.1 C R)
  ·simp only [y2m,y10,ya,y8]
   cases r.2
   ·exact ⟨[],by simp,by simp,by simp,by simp [z24,zm]⟩
   ·exact ⟨_,by simp,by simp,by simp,sz2⟩
  ·simp only [y2m,y10,y7]
   exact ⟨_,rfl,rfl,by simp,sz1⟩
theorem z1vy {n:Int} (h : -9223372036854775808≤n) (h2:n≤9223372036854775807):(Lib.itoa n).length≤21:=by
 unfold Lib.itoa
 split
 ·rw [y1g]
  have:=zqv (u:=n.natAbs) (j:=20) (by omega) (by omega)
  first | omega | (have:=zqv (u:=(-n).toNat) (j:=20) (by omega) (by omega); omega)
 ·have:=zqv (u:=n.toNat) (j:=20) (by omega) (by omega)
  omega
theorem z1vz {n:Net} (f s:List Int) (h:z2t n=true):z24 (za3 n f s)≤100:=by
 unfold za3
 split
 ·rename_i hb
  obtain ⟨_,r2,r3⟩:=zvg (s:=s) h hb
  have:=z1vy r2 r3
  split
  ·split
   ·simp [z24,zm]
   ·simp only [z24,zm,z4l,List.map,List.sum,y1g,y2b,List.foldr]
    omega
  ·simp [z24,zm,z4l]
 ·simp [z24,zm,z4l]
theorem z1w0 {n p:Int} (hp:0<p) (hp2:p≤1000000):zd1 n p=some (n % p):=by
 have h0:¬ p=0:=by omega
 have b1:Int.tmod n p<p:=Int.tmod_lt_of_pos n hp
 have b2 : -p<Int.tmod n p:=Int.lt_tmod_of_pos n hp
 have w:z6 (Int.tmod n p+p)=Int.tmod n p+p:=ze (by omega) (by omega)
 unfold zd1
 rw [y5 h0,y5 h0,w,y2t (by omega)]
 have e:=Int.mul_tdiv_add_tmod n p
 have:Int.tmod n p+p=n+p*(1-Int.tdiv n p):=by rw [Int.mul_sub,Int.mul_one]; omega
 rw [this,y55]
theorem z1w1 {u v s m:Int} (hm:2≤m) (hu:0≤u) (hs:0≤s) (hv:0≤v∧v≤m-1):(Int.tmod (u+s) m=v)↔(v-u-s) % m=0:=by
 rw [y2t (by omega)]
 have e:v % m=v:=y53 (by omega) (by omega)
 have:=Int.emod_eq_emod_iff_emod_sub_eq_zero (m:=v) (n:=m) (k:=u+s)
 rw [show v-u-s=v-(u+s) by omega,← this,e]
 exact eq_comm
theorem zhw {x:Pha} (h:z3y x=true):(1≤x.1∧x.1≤12)∧(2≤x.2.1∧x.2.1≤360)∧x.2.2.length≤24∧∀ (i:Nat) a,x.2.2[i]?=some a→0≤a.1∧a.1<a.2.1∧a.2.1<x.1∧0≤a.2.2∧a.2.2≤x.2.1-1:=by
 unfold z3y at h
 simp only [yi,y18,y16] at h
 obtain ⟨h1,h2,h3,h4⟩:=h
 refine ⟨h1,h2,h4,fun i a ha=>?_⟩
 have:=h3 i (y19.2 (yo.1 ha).1)
 have hw:z6 (x.2.1-1)=x.2.1-1:=ze (by omega) (by omega)
 unfold z8o at this
 rw [ha,hw] at this
 simp only [yi,y1k,y18,decide_eq_false_iff_not] at this
 omega
def zbn (x:Pha) (p:List Int) (i:Nat):Bool:=match x.2.2[i]? with
 | some a=>!decide (Int.tmod (p.getD a.1.toNat 0+a.2.2) x.2.1=p.getD a.2.1.toNat 0)
 | none=>false
def wrU (x:Pha) (p:List Int) (i:Nat):List Int:=((List.range i).filter (zbn x p)).map fun (j:Nat)=>(j:Int)
theorem z1bd (x:Pha) (p:List Int) (i:Nat):wrU x p (i+1)=if zbn x p i=true then wrU x p i++[(i:Int)] else wrU x p i:=by
 unfold wrU
 rw [y30,y57,y1z]
 cases h:zbn x p i <;> simp [h]
theorem zkm (x:Pha) (p:List Int) (i:Nat):(wrU x p i).length≤i:=by
 unfold wrU
 rw [ym]
 have:=y4m (zbn x p) (List.range i)
 rwa [y17] at this
theorem z1be {x:Pha} {p:List Int} {i:Nat} {y:Int} (h:y∈wrU x p i):0≤y∧y.toNat<i:=by
 unfold wrU at h
 obtain ⟨j,hj,rfl⟩:=y1c.1 h
 have:=y19.1 (y2c.1 hj).1
 exact ⟨by omega,by omega⟩
theorem zr9 {v:List Int} {n p:Int} (h:z28 v n p=true) {j:Int} (h0:0≤j) (h1:j<n):v[j.toNat]?=some (v.getD j.toNat 0)∧0≤v.getD j.toNat 0∧v.getD j.toNat 0≤p-1:=by
 unfold z28 at h
 simp only [yi,y18,y16] at h
 have hl:j.toNat<v.length:=by omega
 have hg:v[j.toNat]?=some v[j.toNat]:=yh hl
 have e:v.getD j.toNat 0=v[j.toNat]:=by rw [y15,hg]; rfl
 rw [e]
 exact ⟨hg,h.1 _ (y1e hl)⟩
theorem z1w2 {k:Nat} (hk:KK≤k) {x:Pha} {p:List Int} (h:z3y x=true) (hp:z28 p x.1 x.2.1=true):zp7 k x p=some (wrU x p x.2.2.length):=by
 have hK:=zf
 obtain ⟨p1,p2,p3,p4⟩:=zhw h
 unfold zp7
 refine z1t (S:=List Int) (L:=fun m i q=>zd8 k m x p i q (fun q_6=>some q_6)) (b:=x.2.2.length) (st:=wrU x p) ?_ ?_ (n:=k) (by omega)
 ·intro m i hi
  have hlt:(i:Int)<(x.2.2.length:Int):=by omega
  have hw:=zd (i:=i) (by omega)
  have hg:x.2.2[i]?=some x.2.2[i]:=yh hi
  obtain ⟨q1,q2,q3,q4,q5⟩:=p4 i _ hg
  have hlen:=zkm x p i
  have hL:((wrU x p i).length+[(i:Int)].length)*8≤LIM:=by unfold LIM; simp only [List.length_singleton]; omega
  have hb:zbn x p i=!decide (Int.tmod (p.getD x.2.2[i].1.toNat 0+x.2.2[i].2.2) x.2.1=p.getD x.2.2[i].2.1.toNat 0):=by unfold zbn; rw [hg]
  obtain ⟨g1,r1,r2⟩:=zr9 hp (j:=x.2.2[i].1) q1 (by omega)
  obtain ⟨g2,r3,r4⟩:=zr9 hp (j:=x.2.2[i].2.1) (by omega) (by omega)
  simp only [z1bd,hb]
  generalize x.2.2[i]=a at *
  generalize p.getD a.1.toNat 0=u at *
  generalize p.getD a.2.1.toNat 0=v at *
  have w1:z6 (v-u)=v-u:=ze (by omega) (by omega)
  have w2:z6 (v-u-a.2.2)=v-u-a.2.2:=ze (by omega) (by omega)
  have hm:=z1w0 (n:=v-u-a.2.2) (p:=x.2.1) (by omega) (by omega)
  have hs:=z1w1 (u:=u) (v:=v) (s:=a.2.2) (m:=x.2.1) (by omega) (by omega) (by omega) ⟨r3,r4⟩
  have h21:0≤a.2.1:=by omega
  simp only [zd8,hlt,y9,y7,yg,yd,hg,y6,hw,q1,h21,g1,g2,w1,w2,hm,hL]
  by_cases c:Int.tmod (u+a.2.2) x.2.1=v
  ·rw [yc c,yc (hs.1 c)]; simp
  ·rw [yb c,yb (fun e=>c (hs.2 e))]; simp
 ·intro m
  simp only [zd8,yp,yf,ya,y8]
theorem z1w3 {k:Nat} (hk:KK≤k) {x:Pha} {p:List Int} (h:z3y x=true) (hp:z28 p x.1 x.2.1=true):znk k x p=some (wrU x p x.2.2.length):=by
 have hK:=zf
 obtain ⟨p1,p2,p3,p4⟩:=zhw h
 unfold znk
 refine z1t (S:=List Int) (L:=fun m i q=>zcl k m p x.2.2 (x.2.2.length:Int) i q x (fun q_5=>some q_5)) (b:=x.2.2.length) (st:=wrU x p) ?_ ?_ (n:=k) (by omega)
 ·intro m i hi
  have hlt:(i:Int)<(x.2.2.length:Int):=by omega
  have hw:=zd (i:=i) (by omega)
  have hg:x.2.2[i]?=some x.2.2[i]:=yh hi
  obtain ⟨q1,q2,q3,q4,q5⟩:=p4 i _ hg
  have hlen:=zkm x p i
  have hL:((wrU x p i).length+[(i:Int)].length)*8≤LIM:=by unfold LIM; simp only [List.length_singleton]; omega
  have hb:zbn x p i=!decide (Int.tmod (p.getD x.2.2[i].1.toNat 0+x.2.2[i].2.2) x.2.1=p.getD x.2.2[i].2.1.toNat 0):=by unfold zbn; rw [hg]
  obtain ⟨g1,r1,r2⟩:=zr9 hp (j:=x.2.2[i].1) q1 (by omega)
  obtain ⟨g2,r3,r4⟩:=zr9 hp (j:=x.2.2[i].2.1) (by omega) (by omega)
  simp only [z1bd,hb]
  generalize x.2.2[i]=a at *
  generalize p.getD a.1.toNat 0=u at *
  generalize p.getD a.2.1.toNat 0=v at *
  have w1:z6 (u+a.2.2)=u+a.2.2:=ze (by omega) (by omega)
  have h21:0≤a.2.1:=by omega
  have hm0:¬ x.2.1=0:=by omega
  simp only [zcl,hlt,y9,y7,yg,yd,hg,y6,hw,q1,h21,g1,g2,w1,hm0,y8,hL]
  split <;> rfl
 ·intro m
  simp only [zcl,yp,yf,ya,y8]
noncomputable def pbT (x:Pha) (y:Int):Prb:=match x.2.2[y.toNat]? with
 | some a=>(5,(z3w [a.1,a.2.1],[115,104,105,102,116]))
 | none=>(0,([],[]))
noncomputable def z7q (x:Pha) (p:List Int):List Prb:=(wrU x p x.2.2.length).map (pbT x)
theorem zvr {x:Pha} (h:z3y x=true) {i:Nat} {a:Edg} (ha:x.2.2[i]?=some a):zdx [a.1,a.2.1]:=by
 obtain ⟨p1,p2,p3,p4⟩:=zhw h
 have:=p4 i a ha
 refine ⟨by simp,fun y hy=>?_⟩
 simp only [yz,List.not_mem_nil,or_false] at hy
 rcases hy with rfl | rfl <;> omega
theorem z1bf {α β:Type} (f:α→β) {l:List α} {i:Nat} {y:α} (h:l[i]?=some y):(l.take (i+1)).map f=(l.take i).map f++[f y]:=by
 rw [y4e,h,y1z]; rfl
theorem z1w4 {k:Nat} (hk:KK≤k) {w:She×Int×List Int×List Int×Net×List Int×List Int×Pha×List Int} (h:z3y w.2.2.2.2.2.2.2.1=true) (hp:z28 w.2.2.2.2.2.2.2.2 w.2.2.2.2.2.2.2.1.1 w.2.2.2.2.2.2.2.1.2.1=true):zp8 k w=some (z7q w.2.2.2.2.2.2.2.1 w.2.2.2.2.2.2.2.2):=by
 have hK:=zf
 unfold zp8 z7q
 rw [z1w2 hk h hp]
 obtain ⟨p1,p2,p3,p4⟩:=zhw h
 have hm:=fun y=>z1be (x:=w.2.2.2.2.2.2.2.1) (p:=w.2.2.2.2.2.2.2.2) (i:=w.2.2.2.2.2.2.2.1.2.2.length) (y:=y)
 have hl:=zkm w.2.2.2.2.2.2.2.1 w.2.2.2.2.2.2.2.2 w.2.2.2.2.2.2.2.1.2.2.length
 simp only [y6]
 generalize wrU w.2.2.2.2.2.2.2.1 w.2.2.2.2.2.2.2.2 w.2.2.2.2.2.2.2.1.2.2.length=W at *
 have:=z1t (S:=List Prb) (R:=Option (List Prb)) (L:=fun m i q=>zgv k m w i q W (fun q_7=>some q_7)) (b:=W.length) (st:=fun i=>(W.take i).map (pbT w.2.2.2.2.2.2.2.1)) (e:=some (W.map (pbT w.2.2.2.2.2.2.2.1))) ?_ ?_ (n:=k) (by omega)
 ·simpa using this
 ·intro m i hi
  have hlt:(i:Int)<(W.length:Int):=by omega
  have hw:=zd (i:=i) (by omega)
  have hg:W[i]?=some W[i]:=yh hi
  obtain ⟨y0,y1⟩:=hm W[i] (y1e hi)
  have hin:(0:Int)≤(i:Int)∧i<W.length:=⟨by omega,hi⟩
  have hga:w.2.2.2.2.2.2.2.1.2.2[(W[i]).toNat]?=some w.2.2.2.2.2.2.2.1.2.2[(W[i]).toNat]:=yh y1
  have ht:=zqy hk (zvr h hga)
  have hpb:pbT w.2.2.2.2.2.2.2.1 W[i]=(5,(z3w [w.2.2.2.2.2.2.2.1.2.2[(W[i]).toNat].1,w.2.2.2.2.2.2.2.1.2.2[(W[i]).toNat].2.1],[115,104,105,102,116])):=by unfold pbT; rw [hga]
  have hL:(((W.take i).map (pbT w.2.2.2.2.2.2.2.1)).length+1)*40≤LIM:=by unfold LIM; rw [List.length_map,List.length_take]; omega
  simp only [zgv,hlt,y9,y7,yg,yd,hi,yw,hg,y6,y0,hga,ht,yy,hL,hw,z1bf (pbT w.2.2.2.2.2.2.2.1) hg,hpb]
 ·intro m
  simp only [zgv,yp,yf,ya,y8,y2k]
theorem z1w5 {k:Nat} (hk:KK≤k) {w:She×Int×List Int×List Int×Net×List Int×List Int×Pha×List Int} (h:z3y w.2.2.2.2.2.2.2.1=true) (hp:z28 w.2.2.2.2.2.2.2.2 w.2.2.2.2.2.2.2.1.1 w.2.2.2.2.2.2.2.1.2.1=true):zji k w=some (z7q w.2.2.2.2.2.2.2.1 w.2.2.2.2.2.2.2.2):=by
 have hK:=zf
 unfold zji z7q
 rw [z1w3 hk h hp]
 obtain ⟨p1,p2,p3,p4⟩:=zhw h
 have hm:=fun y=>z1be (x:=w.2.2.2.2.2.2.2.1) (p:=w.2.2.2.2.2.2.2.2) (i:=w.2.2.2.2.2.2.2.1.2.2.length) (y:=y)
 have hl:=zkm w.2.2.2.2.2.2.2.1 w.2.2.2.2.2.2.2.2 w.2.2.2.2.2.2.2.1.2.2.length
 simp only [y6]
 generalize wrU w.2.2.2.2.2.2.2.1 w.2.2.2.2.2.2.2.2 w.2.2.2.2.2.2.2.1.2.2.length=W at *
 have:=z1t (S:=List Prb) (R:=Option (List Prb)) (L:=fun m i q=>zfr k m (W.length:Int) i q W w (fun q_7=>some q_7)) (b:=W.length) (st:=fun i=>(W.take i).map (pbT w.2.2.2.2.2.2.2.1)) (e:=some (W.map (pbT w.2.2.2.2.2.2.2.1))) ?_ ?_ (n:=k) (by omega)
 ·simpa using this
 ·intro m i hi
  have hlt:(i:Int)<(W.length:Int):=by omega
  have hw:=zd (i:=i) (by omega)
  have hg:W[i]?=some W[i]:=yh hi
  obtain ⟨y0,y1⟩:=hm W[i] (y1e hi)
  have hga:w.2.2.2.2.2.2.2.1.2.2[(W[i]).toNat]?=some w.2.2.2.2.2.2.2.1.2.2[(W[i]).toNat]:=yh y1
  have ht:=zqz hk (zvr h hga)
  have hpb:pbT w.2.2.2.2.2.2.2.1 W[i]=(5,(z3w [w.2.2.2.2.2.2.2.1.2.2[(W[i]).toNat].1,w.2.2.2.2.2.2.2.1.2.2[(W[i]).toNat].2.1],[115,104,105,102,116])):=by unfold pbT; rw [hga]
  have hL:(((W.take i).map (pbT w.2.2.2.2.2.2.2.1)).length+1)*40≤LIM:=by unfold LIM; rw [List.length_map,List.length_take]; omega
  simp only [zfr,hlt,y9,y7,yg,yd,hi,yw,hg,y6,y0,hga,ht,yy,hL,hw,z1bf (pbT w.2.2.2.2.2.2.2.1) hg,hpb]
 ·intro m
  simp only [zfr,yp,yf,ya,y8,y2k]
theorem z1bg {x:Pha} (h:z3y x=true) (p:List Int):(z7q x p).length≤24:=by
 obtain ⟨_,_,p3,_⟩:=zhw h
 unfold z7q
 rw [ym]
 exact y1m (zkm _ _ _) p3
theorem z1bh {α:Type} (f:α→Nat) (B:Nat):∀ l:List α,(∀ x∈l,f x≤B)→zm f l≤l.length*B
 | [],_=>by simp [zm]
 | x::l,h=>by
  have h1:=z1bh f B l fun y hy=>h y (y25 _ hy)
  have h2:=h x (y4o)
  rw [z4k,y1g,y1j]
  omega
theorem z1w6 {x:Pha} (h:z3y x=true) (p:List Int):z24 (z7q x p)≤100000:=by
 have hl:=z1bg h p
 have hs:zm z4l (z7q x p)≤(z7q x p).length*600:=by
  refine z1bh _ _ _ fun y hy=>?_
  unfold z7q at hy
  obtain ⟨j,_,rfl⟩:=y1c.1 hy
  unfold pbT
  cases hg:x.2.2[j.toNat]? with
  | none=>simp [z4l]
  | some a =>
   have:=(zqx (zvr h hg)).1
   simp only [z4l,y1g,y2b]
   omega
 unfold z24
 omega
theorem zvs (a b:List Prb):z24 (a++b)=z24 a+z24 b:=by
 unfold z24
 rw [zkd,yk]
 omega
theorem z1w7 {k:Nat} (hk:KK≤k) {w:Wrk} (hs:smallW w) (hf:w.2.2.2.2.2.1.length≤1048576) (hc:w.2.2.2.2.2.2.1.length≤1048576):∃ L:List Prb,(z7o k w=true→zp9 k w=some L)∧zfs k w=some (if z7o k w=true then (L,0) else ([],1))∧L.length≤1000∧z24 L≤300000:=by
 have hK:=zf
 obtain ⟨j,rfl⟩:∃ j,k=j+5:=⟨k-5,by omega⟩
 unfold zfs zt7
 rw [z1ue hk hs]
 cases h:z7o (j+5) w
 ·exact ⟨[],by simp,by simp,by simp,by simp [z24,zm]⟩
 ·have hn:=z1b6 h
  obtain ⟨L1,s1,s2,s3,s4⟩:=z1vx hk hs h
  have r1:=z1vt hk hs.sh hn.1 hn.2.2.2.1
  have r2:=z1vu hk hs.sh hn.1 hn.2.2.2.1
  have r3:=z1b8 hk hs.sh hn.1 hn.2.2.2.1
  have r4:=z1vv hk hs.sh hn.1 hn.2.2.2.1
  have f1:=z1tn hk hn.2.2.2.2.1 hf hc
  have f2:=z1to hk hn.2.2.2.2.1 hf hc
  have f3:=z1tp w.2.2.2.2.1 w.2.2.2.2.2.1 w.2.2.2.2.2.2.1
  have f4:=z1vz w.2.2.2.2.2.1 w.2.2.2.2.2.2.1 hn.2.2.2.2.1
  have p1:=z1w4 hk hn.2.2.2.2.2.1 hn.2.2.2.2.2.2
  have p2:=z1w5 hk hn.2.2.2.2.2.1 hn.2.2.2.2.2.2
  have p3:=z1bg hn.2.2.2.2.2.1 w.2.2.2.2.2.2.2.2
  have p4:=z1w6 hn.2.2.2.2.2.1 w.2.2.2.2.2.2.2.2
  generalize z7p w.1 w.2.2.2.1=L2 at *
  generalize za3 w.2.2.2.2.1 w.2.2.2.2.2.1 w.2.2.2.2.2.2.1=L3 at *
  generalize z7q w.2.2.2.2.2.2.2.1 w.2.2.2.2.2.2.2.2=L4 at *
  have hL:=z1r
  refine ⟨((L1++L2)++L3)++L4,fun _=>?_,?_,by simp only [yk]; omega,by rw [zvs,zvs,zvs]; omega⟩
  ·unfold zp9
   rw [s1]
   simp only [y6]
   rw [y4 (by simp only [y2b]; omega),r1]
   simp only [y6]
   rw [y4 (by omega),f1]
   simp only [y6]
   rw [y4 (by simp only [yk]; omega),p1]
   simp only [y6]
   rw [y4 (by simp only [yk]; omega)]
  ·have w1:z6 (0+1)=1:=ze (by omega) (by omega)
   have w2:z6 (1+1)=2:=ze (by omega) (by omega)
   have w3:z6 (2+1)=3:=ze (by omega) (by omega)
   have w4:z6 (3+1)=4:=ze (by omega) (by omega)
   have t0:z3j (j+5) (j+5) [24,25,26,27] 4 0 ([]:List Prb) w (fun q_8=>some (q_8,0))=z3j (j+5) (j+4) [24,25,26,27] 4 1 (([]:List Prb)++L1) w (fun q_8=>some (q_8,0)):=by
    show (zj8 (j+5) w).bind (fun r_4=>if (List.length ([]:List Prb)+r_4.length)*40≤LIM then z3j (j+5) (j+4) [24,25,26,27] 4 (z6 (0+1)) (([]:List Prb)++r_4) w (fun q_8=>some (q_8,0)) else none)=_
    rw [s2,y6,y4 (by simp only [y2b,yk]; omega),w1]
   have t1:z3j (j+5) (j+4) [24,25,26,27] 4 1 (([]:List Prb)++L1) w (fun q_8=>some (q_8,0))=z3j (j+5) (j+3) [24,25,26,27] 4 2 ((([]:List Prb)++L1)++L2) w (fun q_8=>some (q_8,0)):=by
    show (zjd (j+5) w).bind (fun r_4=>if (List.length (([]:List Prb)++L1)+r_4.length)*40≤LIM then z3j (j+5) (j+3) [24,25,26,27] 4 (z6 (1+1)) ((([]:List Prb)++L1)++r_4) w (fun q_8=>some (q_8,0)) else none)=_
    rw [r2,y6,y4 (by simp only [y2b,yk]; omega),w2]
   have t2:z3j (j+5) (j+3) [24,25,26,27] 4 2 ((([]:List Prb)++L1)++L2) w (fun q_8=>some (q_8,0))=z3j (j+5) (j+2) [24,25,26,27] 4 3 (((([]:List Prb)++L1)++L2)++L3) w (fun q_8=>some (q_8,0)):=by
    show (zjg (j+5) w).bind (fun r_4=>if (List.length ((([]:List Prb)++L1)++L2)+r_4.length)*40≤LIM then z3j (j+5) (j+2) [24,25,26,27] 4 (z6 (2+1)) (((([]:List Prb)++L1)++L2)++r_4) w (fun q_8=>some (q_8,0)) else none)=_
    rw [f2,y6,y4 (by simp only [y2b,yk]; omega),w3]
   have t3:z3j (j+5) (j+2) [24,25,26,27] 4 3 (((([]:List Prb)++L1)++L2)++L3) w (fun q_8=>some (q_8,0))=z3j (j+5) (j+1) [24,25,26,27] 4 4 ((((([]:List Prb)++L1)++L2)++L3)++L4) w (fun q_8=>some (q_8,0)):=by
    show (zji (j+5) w).bind (fun r_4=>if (List.length (((([]:List Prb)++L1)++L2)++L3)+r_4.length)*40≤LIM then z3j (j+5) (j+1) [24,25,26,27] 4 (z6 (3+1)) ((((([]:List Prb)++L1)++L2)++L3)++r_4) w (fun q_8=>some (q_8,0)) else none)=_
    rw [p2,y6,y4 (by simp only [y2b,yk]; omega),w4]
   have t4:z3j (j+5) (j+1) [24,25,26,27] 4 4 ((((([]:List Prb)++L1)++L2)++L3)++L4) w (fun q_8=>some (q_8,0))=some (((L1++L2)++L3)++L4,0):=rfl
   show (z3j (j+5) (j+5) [24,25,26,27] 4 0 [] w (fun q_8=>some (q_8,0))).bind _=_
   rw [t0,t1,t2,t3,t4]
   rfl
theorem z1w8 {k:Nat} (hk:KK≤k) {w:Wrk} (hs:smallW w) (hf:w.2.2.2.2.2.1.length≤1048576) (hc:w.2.2.2.2.2.2.1.length≤1048576):∃ r:List Prb×Int,zo7 k w=some r∧zfs k w=some r∧r.1.length≤1000∧z24 r.1≤300000:=by
 obtain ⟨L,h1,h2,h3,h4⟩:=z1w7 hk hs hf hc
 unfold zo7
 rw [z1ud hk hs,h2]
 cases h:z7o k w
 ·exact ⟨([],1),by simp,by simp,by simp,by simp [z24,zm]⟩
 ·rw [h1 h]
  exact ⟨(L,0),by simp,by simp,h3,h4⟩
theorem z1w9 {e0 e1 e2 e3 e4 e5 e6 e7 e8 e9 e10 e11:TypeId} (a0:Wrk) (f0:InR (.st (.pr (.st (.pr (.st (.sl e0 (.sl e1 (.int .i64)))) (.pr (.int .i64) (.pr (.sl e2 (.int .i64)) (.sl e3 (.st (.pr (.int .i64) (.pr (.int .i64) (.pr (.int .i64) (.sl e4 (.int .i64))))))))))) (.pr (.int .i64) (.pr (.sl e5 (.int .i64)) (.pr (.sl e6 (.int .i64)) (.pr (.st (.pr (.int .i64) (.pr (.int .i64) (.pr (.int .i64) (.sl e7 (.st (.pr (.int .i64) (.pr (.int .i64) (.int .i64))))))))) (.pr (.sl e8 (.int .i64)) (.pr (.sl e9 (.int .i64)) (.pr (.st (.pr (.int .i64) (.pr (.int .i64) (.sl e10 (.st (.pr (.int .i64) (.pr (.int .i64) (.int .i64)))))))) (.sl e11 (.int .i64))))))))))) a0):∃ k:Nat,zo6 k a0=some true:=by
 have hk:=yx KK
 refine ⟨KK,?_⟩
 have q0:=z1up hk (a:=a0) (left:=1048576) (by omega) (by omega) f0
 unfold zo6
 rw [q0]
 by_cases c0:(z29 a0:Int)≤1048576
 case neg=>rw [y5 c0]; simp only [y6]; rw [yc (by omega),y4 rfl]
 rw [y4 c0]; simp only [y6]
 rw [yb (by omega),y5 (by simp)]
 have b0:z29 a0≤10000000000:=by omega
 have hs:=z1uq (w:=a0) (by omega)
 have e:z29 a0=z1m a0.1+a0.2.2.1.length+a0.2.2.2.1.length+a0.2.2.2.2.1.2.2.2.length+a0.2.2.2.2.2.1.length+a0.2.2.2.2.2.2.1.length+a0.2.2.2.2.2.2.2.1.2.2.length+a0.2.2.2.2.2.2.2.2.length:=rfl
 obtain ⟨r,h1,h2,hl,hz⟩:=z1w8 hk hs (by omega) (by omega)
 obtain ⟨y,hy,hy0⟩:=z1vs hk (a:=a0) (by omega)
 obtain ⟨m,q,hm,hq,hm0⟩:=z1tf hk (L:=r.1) (by omega)
 have heq:zcm KK r.1 r.1=some true:=(z1vr hk (a:=r.1) (b:=r.1) (by omega)).trans (congrArg some (yc rfl))
 simp only [z1vc hk b0,y6,z1vp,h1,h2,heq,z1vo hk b0,hy,hy0,hm,hq,hm0,y9,yf,y10,ya,y8]
end Go.Proofs.YtiodkblajaenbaaGreatDoor.Ev
