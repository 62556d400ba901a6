/- Plain laws of the printed functions. No conditions but those in each statement. -/
import Derived.Test.YtchfjdcfhlhgcaaGreatDoorPmFnExactSheafProblems
set_option linter.unusedVariables false
set_option linter.unusedSimpArgs false
namespace Go.Proofs.YtchfjdcfhlhgcaaGreatDoor.Ev
open Go.RowKit
theorem zt1 {k:Nat} {n0:Int} {E:Int→List Int→Option (List UInt8)}:∀ (j u n:Nat) (m:Int) (q:List Int),(m=(u:Int)∨m = -(u:Int))→u<10 ^ j→u≤9223372036854775808 → -9223372036854775808≤m→m≤9223372036854775807→q.length+j≤100→j<n→z8r k n n0 m q E=E n0 (q++z33 u)
 | j,u,0,m,q,_,_,_,_,_,_,h=>by omega
 | 0,u,n+1,m,q,hm,hu,_,_,_,_,_=>by
  have h0:u=0:=by simpa using hu
  subst h0
  have hm0:m=0:=by omega
  subst hm0
  simp [z8r,z33]
 | j+1,u,n+1,m,q,hm,hu,hub,hm1,hm2,hq,hn=>by
  have hL:=z1q
  by_cases h0:u=0
  ·subst h0
   have hm0:m=0:=by omega
   subst hm0
   simp [z8r,z33]
  ·have hm0:¬ m=0:=by omega
   have hlim:(q.length+1)*1≤LIM:=by omega
   have hd:u % 10<10:=by omega
   have hj:u / 10<10 ^ j:=by rw [Nat.pow_succ] at hu; omega
   rcases hm with hm | hm
   ·subst hm
    have t1:Int.tmod (u:Int) 10=((u % 10:Nat):Int):=by rw [y34 (by omega)]; omega
    have t2:Int.tdiv (u:Int) 10=((u / 10:Nat):Int):=by rw [y50 (by omega)]; omega
    have w2:z6 ((u / 10:Nat):Int)=((u / 10:Nat):Int):=ze (by omega) (by omega)
    have hlt:¬ (((u % 10:Nat):Int)<0):=by omega
    have ih:=zt1 (k:=k) (n0:=n0) (E:=E) j (u / 10) n ((u / 10:Nat):Int) (q++[((48+u % 10:Nat):Int)]) (.inl rfl) hj (by omega) (by omega) (by omega) (by simp; omega) (by omega)
    unfold z8r
    rw [ya hm0,y4 (by rfl),t1,t2,ya hlt,y5 (by simp),zsz hd,w2,yy,y4 hlim,ih,y11,zou h0]
    rfl
   ·subst hm
    have t1:Int.tmod (-(u:Int)) 10 = -((u % 10:Nat):Int):=by rw [Int.neg_tmod,y34 (by omega)]; omega
    have t2:Int.tdiv (-(u:Int)) 10 = -((u / 10:Nat):Int):=by rw [Int.neg_tdiv,y50 (by omega)]; omega
    have w2:z6 (-((u / 10:Nat):Int)) = -((u / 10:Nat):Int):=ze (by omega) (by omega)
    have ih:=zt1 (k:=k) (n0:=n0) (E:=E) j (u / 10) n (-((u / 10:Nat):Int)) (q++[((48+u % 10:Nat):Int)]) (.inr rfl) hj (by omega) (by omega) (by omega) (by simp; omega) (by omega)
    unfold z8r
    rw [ya hm0,y4 (by rfl),t1,t2,w2]
    by_cases hz:u % 10=0
    ·have hlt:¬ (-((u % 10:Nat):Int)<0):=by omega
     have hw:z6r (z6 (48 + -((u % 10:Nat):Int)))=((48+u % 10:Nat):Int):=by
      rw [hz]
      exact zsz (d:=0) (by omega)
     rw [ya hlt,y5 (by simp),hw,yy,y4 hlim,ih,y11,zou h0]
     rfl
    ·have hlt : -((u % 10:Nat):Int)<0:=by omega
     have hw:z6r (z6 (48+z6 (0 - -((u % 10:Nat):Int))))=((48+u % 10:Nat):Int):=by
      rw [show (0:Int) - -((u % 10:Nat):Int)=((u % 10:Nat):Int) by omega,ze (x:=((u % 10:Nat):Int)) (by omega) (by omega)]
      exact zsz hd
     rw [yb hlt,y4 rfl,hw,yy,y4 hlim,ih,y11,zou h0]
     rfl
theorem zt2 {k:Nat} {q:List Int} (hq:q.length≤1000) {E:List Int→Option (List UInt8)}:∀ (j n:Nat) (acc:List Int),j≤q.length→acc.length+j≤1000→j<n→zbs k n ((j:Int)-1) q acc E=E (acc++(q.take j).reverse)
 | j,0,_,_,_,h=>by omega
 | 0,n+1,acc,_,_,_=>by
  have:¬ (0≤((0:Nat):Int)-1):=by omega
  simp only [zbs,this,yf,yc,y8,List.take_zero,List.reverse_nil,y1t]
 | j+1,n+1,acc,hj,ha,hn=>by
  have hL:=z1q
  have e0:((j+1:Nat):Int)-1=(j:Int):=by omega
  have hjl:j<q.length:=by omega
  have ew:z6 ((j:Int)-1)=(j:Int)-1:=ze (by omega) (by omega)
  have hlim:(acc.length+1)*1≤LIM:=by omega
  have ih:=zt2 (k:=k) hq (E:=E) j n (acc++[q[j]]) (by omega) (by simp; omega) (by omega)
  rw [e0]
  simp only [zbs,yg,y9,y7,ye,hjl,yz,yj hjl,y6,yy,hlim,ew,ih]
  rw [List.take_succ_eq_append_getElem hjl,y5s]
  simp
theorem z167 (l:List UInt8):z8i (l.map z_u8)=l:=by
 unfold z8i
 rw [y30]
 have:((fun x:Int=>x.toNat.toUInt8) ∘ z_u8)=id:=by
  funext b
  simp [z_u8]
 simp [this]
theorem z1nx {k:Nat} (hk:KK≤k) {n:Int} (h1 : -9223372036854775808≤n) (h2:n≤9223372036854775807):zhu k n=some (Lib.itoa n):=by
 have hK:=zg
 have hL:=z1q
 unfold zhu Lib.itoa
 by_cases h0:n=0
 ·subst h0
  rw [yb rfl,y4 rfl,y5 (by omega)]
  rw [show (0:Int).toNat=0 from rfl,Lib.decDigits,dif_pos (by omega)]
  rfl
 ·have hp:n.natAbs<10 ^ 19:=by
   have:n.natAbs≤9223372036854775808:=by omega
   exact y5m this (by decide)
  have hl:=zt0 19 n.natAbs hp
  have hu:n.natAbs≠0:=by omega
  have hr:z33 n.natAbs=((Lib.decDigits n.natAbs).map z_u8).reverse:=by unfold z33; rw [if_neg hu]
  rw [ya h0,y5 (by simp),zt1 19 n.natAbs k n [] (by omega) hp (by omega) h1 h2 (by simp) (by omega),y2p]
  by_cases hn:n<0
  ·have hl1:((z33 n.natAbs).length+1)*1≤LIM:=by omega
   have hb:=zt2 (k:=k) (q:=z33 n.natAbs++[45]) (by simp; omega) (E:=fun q=>some (z8i q)) (z33 n.natAbs++[45]).length k [] (yr _) (by simp; omega) (by simp; omega)
   have hw:z6 (((z33 n.natAbs++[45]).length:Int)-1)=((z33 n.natAbs++[45]).length:Int)-1:=ze (by omega) (by simp; omega)
   rw [yb hn,y4 rfl,y4 hn,yy,y4 hl1,hw,hb,y31,y2p,hr]
   congr 1
   have e:(((Lib.decDigits n.natAbs).map z_u8).reverse++[(45:Int)]).reverse=((45:UInt8)::Lib.decDigits n.natAbs).map z_u8:=by
    rw [y5s,List.reverse_reverse]; rfl
   rw [e,z167]
  ·have hb:=zt2 (k:=k) (q:=z33 n.natAbs) (by omega) (E:=fun q=>some (z8i q)) (z33 n.natAbs).length k [] (yr _) (by simp; omega) (by omega)
   have hw:z6 (((z33 n.natAbs).length:Int)-1)=((z33 n.natAbs).length:Int)-1:=ze (by omega) (by omega)
   have hna:n.natAbs=n.toNat:=by omega
   rw [ya hn,y5 (by simp),y5 hn,hw,hb,y31,y2p,hr,List.reverse_reverse,z167,hna]
theorem z1ny {n:Int} (h1 : -9223372036854775808≤n) (h2:n≤9223372036854775807):znl n=some (Lib.itoa n):=by
 unfold znl z13a
 rw [y4 ⟨rfl,h1,h2⟩]; rfl
theorem z1nz {pre:List (List UInt8)} (h:pre≠[]) (x sep:List UInt8):Lib.join (pre++[x]) sep=Lib.join pre sep++sep++x:=by
 cases pre with
 | nil=>exact absurd rfl h
 | cons y r =>
  rw [y3m,Lib.join_cons,Lib.join_cons]
  unfold Lib.joinTail
  simp
theorem z1o0 {u j:Nat} (h:u<10 ^ j) (hj:1≤j):(Lib.decDigits u).length≤j:=by
 by_cases h0:u=0
 ·subst h0; rw [Lib.decDigits,dif_pos (by omega)]; exact hj
 ·have:=zt0 j u h
  unfold z33 at this
  rw [y5 h0] at this
  simpa using this
theorem z168 {c:UInt8} {B:Nat}:∀ (r:List (List UInt8)),(∀ w∈r,w.length≤B)→(Lib.joinTail [c] r).length≤r.length*(B+1)
 | [],_=>by simp [Lib.joinTail]
 | y::r,h=>by
  have e:Lib.joinTail [c] (y::r)=[c]++y++Lib.joinTail [c] r:=by simp [Lib.joinTail]
  have h1:=z168 (c:=c) r fun w hw=>h w (by simp [hw])
  have h2:=h y (by simp)
  rw [e,yl,yl,yy,y1k,y2a]
  omega
theorem zt3 {c:UInt8} {B:Nat} (ws:List (List UInt8)) (h:∀ w∈ws,w.length≤B):(Lib.join ws [c]).length≤ws.length*(B+1):=by
 cases ws with
 | nil=>rw [Lib.join_nil]; simp
 | cons y r =>
  have h1:=z168 (c:=c) (B:=B) r fun w hw=>h w (by simp [hw])
  have h2:=h y (by simp)
  rw [Lib.join_cons,yl,y1k,y2a]
  omega
theorem z1o1 {sep:List UInt8} {ws:List (List UInt8)} (h:∀ w∈ws,w≠[]):Lib.join ws sep=[]↔ws=[]:=by
 cases ws with
 | nil=>rw [Lib.join_nil]; simp
 | cons y r =>
  rw [Lib.join_cons]
  exact ⟨fun z=>absurd (y54.1 z).1 (h y (by simp)),fun z=>by cases z⟩
theorem z1o2 (x sep:List UInt8):Lib.join [x] sep=x:=by rw [Lib.join_cons]; simp [Lib.joinTail]
theorem z1o3 (u:Nat):Lib.decDigits u≠[]:=by
 rw [Lib.decDigits]
 split <;> simp
theorem z169 {n:Int} (h:0≤n∧n<10000000):(Lib.itoa n).length≤7∧Lib.itoa n≠[]:=by
 unfold Lib.itoa
 rw [y5 (by omega)]
 exact ⟨z1o0 (by omega) (by omega),z1o3 _⟩
def z62 (l:List Int):List UInt8:=if l=[] then [45] else Lib.join (l.map Lib.itoa) [44]
def zgb (l:List Int):Prop:=l.length≤64∧∀ x∈l,0≤x∧x<10000000
theorem zov {l:List Int} (h:zgb l):∀ w∈l.map Lib.itoa,w.length≤7∧w≠[]:=fun w hw=>by
 obtain ⟨x,hx,rfl⟩:=y1f.1 hw
 exact z169 (h.2 x hx)
theorem z16a {l:List Int} (h:zgb l):(z62 l).length≤512∧z62 l≠[]:=by
 unfold z62
 by_cases e:l=[]
 ·rw [y4 e]; simp
 ·rw [y5 e]
  have h1:=zt3 (c:=44) (l.map Lib.itoa) fun w hw=>(zov h w hw).1
  rw [yp] at h1
  have:=h.1
  refine ⟨by omega,fun z=>e ?_⟩
  have:=(z1o1 fun w hw=>(zov h w hw).2).1 z
  exact List.map_eq_nil_iff.1 this
theorem z16b {k:Nat} (hk:KK≤k) {l:List Int} (h:zgb l):zhv k l=some (z62 l):=by
 have hK:=zg
 obtain ⟨hl,hx⟩:=h
 unfold zhv z62
 by_cases e:l=[]
 ·subst e; simp
 rw [y5 e]
 have hpos:0<l.length:=y4z.2 e
 rw [ya (by omega),y5 (by simp)]
 refine z26 (A:=List UInt8) (L:=fun n i out=>zbt k n l out i (fun out_5=>some out_5)) (I:=fun pre out=>out=Lib.join (pre.map Lib.itoa) [44]) (G:=fun _ _=>some (Lib.join (l.map Lib.itoa) [44])) l ?_ ?_ k (by omega) [] (by rw [y33,Lib.join_nil])
 ·intro n pre x post out hxp ho ih hg hlt
  have hw:=zd (i:=pre.length) (by omega)
  have hxx:=hx x (ym hg)
  have hi:=(z169 hxx).1
  have hpre:zgb pre:=⟨by omega,fun y hy=>hx y (by rw [hxp]; simp [hy])⟩
  have hol:out.length≤512:=by
   rw [ho]
   have h1:=zt3 (c:=44) (pre.map Lib.itoa) fun w hw=>(zov hpre w hw).1
   rw [yp] at h1
   have:=hpre.1
   omega
  have b1:out.length+1≤9223372036854775807:=by omega
  have b2:(out++[(44:UInt8)]).length+(Lib.itoa x).length≤9223372036854775807:=by rw [yl,yy]; omega
  have b3:out.length+(Lib.itoa x).length≤9223372036854775807:=by omega
  simp only [zbt,hlt,y9,y7,yy,b1,b2,b3,yg,ye,hg,y6,z1nx hk (show -9223372036854775808≤x by omega) (show x≤9223372036854775807 by omega),hw]
  by_cases c:pre=[]
  ·subst c
   rw [ya (by simp),y5 (by simp)]
   refine ih _ ?_
   rw [ho,y33,Lib.join_nil,y2p,y2p,y1j,y33,z1o2]
  ·have:0<pre.length:=y4z.2 c
   rw [yb (by omega),y4 rfl]
   refine ih _ ?_
   rw [List.map_append,List.map_cons,List.map_nil,z1nz (by simpa using c),ho]
 ·intro n out ho
  subst ho
  simp only [zbt,yw,yf,yc,y8]
theorem z16c {k:Nat} (hk:KK≤k) {l:List Int} (h:zgb l):zi7 k l=some (z62 l):=by
 have hK:=zg
 have hL:=z1q
 have hwf:=zov h
 obtain ⟨hl,hx⟩:=h
 unfold zi7 z62
 rw [ya (by omega),y5 (by simp)]
 have hc:znk k l ()=some false:=by
  unfold znk zs5
  rw [zbg (L:=fun n i=>zft k n l () (l.length:Int) i (some (-1))) (p:=fun y=>!decide (-1000000000000≤y∧y≤1000000000000)) l ?_ ?_ (n:=k) (by omega)]
  ·rw [y6,zg5]
   congr 1
   rw [y38]
   intro y hy
   have:=hx y hy
   rw [yb (by omega)]; simp
  ·intro n i y hi hlt
   have hw:=zd (i:=i) (by omega)
   simp only [zft,zs4,zs3,z6x,hlt,y9,y7,yg,ye,hi,y6,hw]
  ·intro n
   simp [zft]
 rw [hc]
 simp only [y6,yc,y8]
 by_cases e:l=[]
 ·subst e; simp
 rw [y5 e]
 have hpos:0<l.length:=y4z.2 e
 rw [ya (by omega),y5 (by simp)]
 refine z26 (A:=List (List UInt8)) (L:=fun n i q=>zfu k n l (l.length:Int) i q (fun q_5=>(zs6 [44] q_5).bind fun y_6=>some y_6.1.1)) (I:=fun pre q=>q=pre.map Lib.itoa) (G:=fun _ _=>some (Lib.join (l.map Lib.itoa) [44])) l ?_ ?_ k (by omega) [] rfl
 ·intro n pre x post q hxp hq ih hg hlt
  have hw:=zd (i:=pre.length) (by omega)
  have hxx:=hx x (ym hg)
  have b:(q.length+1)*16≤LIM:=by rw [hq,yp]; omega
  simp only [zfu,hlt,y9,y7,yg,ye,hg,y6,z1ny (show -9223372036854775808≤x by omega) (show x≤9223372036854775807 by omega),yy,b,hw]
  exact ih _ (by rw [hq,y25]; rfl)
 ·intro n q hq
  subst hq
  have h1:=zt3 (c:=44) (l.map Lib.itoa) fun w hw=>(hwf w hw).1
  rw [yp] at h1
  simp only [zfu,yw,yf,yc,y8]
  unfold zs6
  rw [y4 ⟨by rw [yp]; omega,by omega⟩]
  rfl
theorem zt4 {b:Nat} {p:Nat→Bool} (h:(List.range b).all p=false):∃ i,i<b∧p i=false∧∀ x,x<i→p x=true:=by
 have key:∀ n,n≤b→(∀ x,x<n→p x=true)∨∃ i,i<n∧p i=false∧∀ x,x<i→p x=true:=by
  intro n
  induction n with
  | zero=>intro _; exact .inl fun x hx=>absurd hx (y3g _)
  | succ n ih =>
   intro hn
   rcases ih (by omega) with h1 | ⟨i,h1,h2,h3⟩
   ·cases hp:p n with
    | true =>
     refine .inl fun x hx=>?_
     rcases y22 x n with h4 | h4
     ·exact h1 x h4
     ·have:x=n:=by omega
      subst this; exact hp
    | false=>exact .inr ⟨n,by omega,hp,h1⟩
   ·exact .inr ⟨i,by omega,h2,h3⟩
 rcases key b (yr _) with h1 | ⟨i,h1,h2,h3⟩
 ·obtain ⟨x,hx,hpx⟩:=List.all_eq_false.1 h
  rw [h1 x (y1a.1 hx)] at hpx
  simp at hpx
 ·exact ⟨i,h1,h2,h3⟩
theorem zgc {R:Type} {L:Nat→Int→R} {b i0:Nat} {p:Nat→Bool} {e:R} (h0:i0<b) (hw:∀ x,x<i0→p x=true) (h1:∀ n (i:Nat),i<b→p i=true→L (n+1) (i:Int)=L n ((i+1:Nat):Int)) (h3:∀ n,L (n+1) (i0:Int)=e) {n:Nat} (hn:b<n):L n 0=e :=
 (zaj (L:=L) (b:=i0) (p:=p) (e:=e) (Q:=fun _=>True) (fun n i hi hp=>h1 n i (by omega) hp) (fun _ _ _ _=>trivial) h3 (show i0<n by omega)).1 (y17.2 fun x hx=>hw x (y1a.1 hx))
structure FirstW (s:She) (j:Nat) (t:List Int) (i d:Nat):Prop where
 hj:s.1[j]?=some t
 h3:2<t.length
 hi:i<t.length
 hd:i+1+d<t.length
 j0:∀ x,x<j→z4o s x=true
 jn:z4o s j=false
 i0:∀ x,x<i→z6e s j t x=true
 ine:z6e s j t i=false
 d0:∀ x,x<d→zcw s j t i (i+1+x)=true
 dn:zcw s j t i (i+1+d)=false
theorem z1o4 {s:She} (h:(List.range s.1.length).all (z4o s)=false):∃ j t i d,FirstW s j t i d:=by
 obtain ⟨j,hj,hjn,hj0⟩:=zt4 h
 have hg:s.1[j]?=some s.1[j]:=yj hj
 have hc:=hjn
 unfold z4o at hc
 rw [hg] at hc
 simp only at hc
 by_cases h3:2<(s.1[j]).length
 ·rw [y4 h3] at hc
  obtain ⟨i,hi,hin,hi0⟩:=zt4 hc
  have hr:=hin
  unfold z6e at hr
  obtain ⟨d,hd,hdn,hd0⟩:=zt4 hr
  exact ⟨j,_,i,d,hg,h3,hi,by omega,hj0,hjn,hi0,hin,hd0,hdn⟩
 ·rw [y5 h3] at hc; cases hc
theorem z1o5 {k:Nat} (hk:KK≤k) {s:She} (hs:smallSh s) (h:z1f k s=true) {j i d:Nat} {t:List Int} (F:FirstW s j t i d) (E:She→Int→Int→Int→Option (Int×Int×Int)) :
  z39 k k s (j:Int) (t.length:Int) (i:Int) ((i+1:Nat):Int) E=some ((j:Int),(i:Int),((i+1+d:Nat):Int)):=by
 have hK:=zg
 obtain ⟨hC,_,_⟩:=z27 hk h
 have hj:=F.hj
 have h3:=F.h3
 have hi:=F.hi
 have hdd:=F.hd
 have h4:=(hC.simp t (ym hj)).len4
 have key:=zgc (L:=fun n z=>z39 k n s (j:Int) (t.length:Int) (i:Int) (((i+1:Nat):Int)+z) E) (b:=t.length-(i+1)) (i0:=d) (p:=fun d=>zcw s j t i (i+1+d)) (e:=some ((j:Int),(i:Int),((i+1+d:Nat):Int))) (by omega) F.d0 ?_ ?_ (n:=k) (by omega)
 ·rw [y52] at key
  exact key
 ·intro n d hd hp
  have e1:((i+1:Nat):Int)+(d:Int)=((i+1+d:Nat):Int):=by omega
  have e2:((i+1:Nat):Int)+((d+1:Nat):Int)=((i+1+d+1:Nat):Int):=by omega
  have hlt:((i+1+d:Nat):Int)<(t.length:Int):=by omega
  have hw:=zd (i:=i+1+d) (by omega)
  have hsq:decide (sqS s j t i (i+1+d)=sqS s j t (i+1+d) i)=true:=hp
  show z39 k (n+1) s (j:Int) (t.length:Int) (i:Int) (((i+1:Nat):Int)+(d:Int)) E=z39 k n s (j:Int) (t.length:Int) (i:Int) (((i+1:Nat):Int)+((d+1:Nat):Int)) E
  rw [e1,e2]
  simp only [z39,hlt,y9,y7,zak hk hs h hj h3 hi (show i+1+d<t.length by omega) (by omega),zak hk hs h hj h3 (show i+1+d<t.length by omega) hi (by omega),y6,zos hk (zga hk hs h hj h3 hi (show i+1+d<t.length by omega) (by omega)),hsq,y14,yc,y8,hw]
 ·intro n
  have e1:((i+1:Nat):Int)+(d:Int)=((i+1+d:Nat):Int):=by omega
  have hlt:((i+1+d:Nat):Int)<(t.length:Int):=by omega
  have hsq:decide (sqS s j t i (i+1+d)=sqS s j t (i+1+d) i)=false:=F.dn
  show z39 k (n+1) s (j:Int) (t.length:Int) (i:Int) (((i+1:Nat):Int)+(d:Int)) E=_
  rw [e1]
  simp only [z39,hlt,y9,y7,zak hk hs h hj h3 hi (show i+1+d<t.length by omega) (by omega),zak hk hs h hj h3 (show i+1+d<t.length by omega) hi (by omega),y6,zos hk (zga hk hs h hj h3 hi (show i+1+d<t.length by omega) (by omega)),hsq,y2j]
theorem z1o6 {k:Nat} (hk:KK≤k) {s:She} (hs:smallSh s) (h:z1f k s=true) {j i d:Nat} {t:List Int} (F:FirstW s j t i d):zf4 k s=some ((j:Int),(i:Int),((i+1+d:Nat):Int)):=by
 have hK:=zg
 obtain ⟨hC,_,_⟩:=z27 hk h
 have hcl:=hC.len
 have hj:=F.hj
 have hjl:=(yo.1 hj).1
 have h4:=(hC.simp t (ym hj)).len4
 have h3:=F.h3
 have l1:∀ E:She→Int→Option (Int×Int×Int),z3y k k s (j:Int) (t.length:Int) 0 E=some ((j:Int),(i:Int),((i+1+d:Nat):Int)):=by
  intro E
  refine zgc (L:=fun n i=>z3y k n s (j:Int) (t.length:Int) i E) (b:=t.length) (i0:=i) (p:=z6e s j t) F.hi F.i0 ?_ ?_ (n:=k) (by omega)
  ·intro n i hi hp
   have hlt:(i:Int)<(t.length:Int):=by omega
   have hlt3:(2:Int)<(t.length:Int):=by omega
   have hw:=zd (i:=i) (by omega)
   have:=(zsy hk hs h hj h3 hi (fun s_2 k_3 n_4 i_5=>z3y k n s_2 k_3 n_4 (z6 (i_5+1)) E)).1 hp
   simp only [z3y,hlt,hlt3,y9,y7,hw,this]
  ·intro n
   have hi:=F.hi
   have hlt:(i:Int)<(t.length:Int):=by omega
   have hlt3:(2:Int)<(t.length:Int):=by omega
   have hw:=zd (i:=i) (by omega)
   simp only [z3y,hlt,hlt3,y9,y7,hw,z1o5 hk hs h F]
 unfold zf4
 refine zgc (L:=fun n i=>z8q k n s i (some ((-1),0,0))) (b:=s.1.length) (i0:=j) (p:=z4o s) hjl F.j0 ?_ ?_ (n:=k) (by omega)
 ·intro n j hj hp
  have hlt:(j:Int)<(s.1.length:Int):=by omega
  have hw:=zd (i:=j) (by omega)
  have hg:s.1[j]?=some s.1[j]:=yj hj
  simp only [z8q,hlt,y9,y7,yg,ye,hg,y6,(z163 hk hs h hg _).1 hp,hw]
 ·intro n
  have hlt:(j:Int)<(s.1.length:Int):=by omega
  simp only [z8q,hlt,y9,y7,yg,ye,hj,y6,l1]
theorem z1o7 {k:Nat} (hk:KK≤k) {s:She} (hs:smallSh s) (h:z1f k s=true) (ha:(List.range s.1.length).all (z4o s)=true):zf4 k s=some ((-1:Int),0,0):=by
 have hK:=zg
 obtain ⟨hC,_,_⟩:=z27 hk h
 have hcl:=hC.len
 unfold zf4
 refine (zaj (L:=fun n i=>z8q k n s i (some ((-1),0,0))) (b:=s.1.length) (p:=z4o s) (e:=some ((-1:Int),(0:Int),(0:Int))) (Q:=fun _=>True) ?_ (fun _ _ _ _=>trivial) ?_ (n:=k) (by omega)).1 ha
 ·intro n j hj hp
  have hlt:(j:Int)<(s.1.length:Int):=by omega
  have hw:=zd (i:=j) (by omega)
  have hg:s.1[j]?=some s.1[j]:=yj hj
  simp only [z8q,hlt,y9,y7,yg,ye,hg,y6,(z163 hk hs h hg _).1 hp,hw]
 ·intro n
  simp only [z8q,yw,yf,yc,y8]
theorem z1o8 {s:She} (hC:CxP s.1) {j:Nat} {t:List Int} (hj:s.1[j]?=some t) (h3:2<t.length) {i i2:Nat} (hi:i<t.length) (hi2:i2+1<t.length) :
  ∃ c:Nat,(zf s.1 t).length=t.length∧(zf s.1 t)[i]?=some ((zf s.1 t).getD i 0)∧s.1[(zf s.1 t).getD i 0]?=some (z11 t i)∧(zf s.1 (z11 t i))[i2]?=some c∧s.1[c]?=some (z11 (z11 t i) i2):=by
 have hm:=ym hj
 have hfl:=z92 s.1 t
 rw [y4 (by omega)] at hfl
 have hF:(zf s.1 t)[i]?=some (z2p s.1 (z11 t i)):=by
  unfold zf z23
  rw [y4 (by omega),yu,yu,y26 hi]; rfl
 have hmem:=hC.face t hm (by omega) i hi
 have hdl:=z90 hi
 have hF2:(zf s.1 (z11 t i))[i2]?=some (z2p s.1 (z11 (z11 t i) i2)):=by
  unfold zf z23
  rw [y4 (by omega),yu,yu,y26 (by omega)]; rfl
 have hmem2:=hC.face (z11 t i) hmem (by omega) i2 (by omega)
 have hg:(zf s.1 t).getD i 0=z2p s.1 (z11 t i):=by rw [y16,hF]; rfl
 exact ⟨_,hfl,by rw [hg]; exact hF,by rw [hg]; exact zg7 hmem,hF2,zg7 hmem2⟩
theorem z16d {k:Nat} (hk:KK≤k) {s:She} (hs:smallSh s) (h:z1f k s=true):∀ (j:Nat) (t:List Int),s.1[j]?=some t→2<t.length→∀ E:List (List Int)→Int→Int→She→Option (Int×Int×Bool),z4o s j=true→z5y k k t (j:Int) s.1 (s.1.length:Int) (j:Int) (t.length:Int) 0 ((zf s.1 t).map fun i:Nat=>(i:Int)) s E=E s.1 (s.1.length:Int) (j:Int) s:=by
 have hK:=zg
 obtain ⟨hC,_,_⟩:=z27 hk h
 intro j t hj h3 E hc
 have h4:=(hC.simp t (ym hj)).len4
 unfold z4o at hc
 rw [hj] at hc
 simp only at hc
 rw [y4 h3] at hc
 refine (zaj (L:=fun n i=>z5y k n t (j:Int) s.1 (s.1.length:Int) (j:Int) (t.length:Int) i ((zf s.1 t).map fun i:Nat=>(i:Int)) s E) (b:=t.length) (p:=z6e s j t) (e:=E s.1 (s.1.length:Int) (j:Int) s) (Q:=fun _=>True) ?_ (fun _ _ _ _=>trivial) ?_ (n:=k) (by omega)).1 hc
 ·intro n i hi hp
  have hlt:(i:Int)<(t.length:Int):=by omega
  have hw:=zd (i:=i) (by omega)
  have:=(z165 hk hs h hj h3 hi s.1 (s.1.length:Int) (j:Int) (t.length:Int) (i:Int) (fun t_4 simplex_5 x_6 x_7 x_8 x_9 x_10 q_11 v_12=>z5y k n t_4 simplex_5 x_6 x_7 x_8 x_9 (z6 (x_10+1)) q_11 v_12 E)).1 hp
  simp only [z5y,hlt,y9,y7,hw,this]
 ·intro n
  simp only [z5y,yw,yf,yc,y8]
theorem z1o9 {k:Nat} (hk:KK≤k) {s:She} (hs:smallSh s) (h:z1f k s=true) {j i d:Nat} {t:List Int} (F:FirstW s j t i d):∃ c:Nat,zfs k s=some ((j:Int),(c:Int),true)∧s.1[c]?=some (z11 (z11 t i) (i+d)):=by
 have hK:=zg
 obtain ⟨hC,_,_⟩:=z27 hk h
 have hcl:=hC.len
 have hj:=F.hj
 have hjl:=(yo.1 hj).1
 have h4:=(hC.simp t (ym hj)).len4
 have h3:=F.h3
 have hi:=F.hi
 have hdd:=F.hd
 obtain ⟨c,f1,f2,f3,f4,f5⟩:=z1o8 hC hj h3 hi (i2:=i+d) (by omega)
 refine ⟨c,?_,f5⟩
 have hF:∀ i,i<t.length→i<(zf s.1 t).length∧((zf s.1 t).map fun i:Nat=>(i:Int))[i]?=some (((zf s.1 t).getD i 0:Nat):Int):=fun i hi=>by
  obtain ⟨f1,f2,_⟩:=zil hC hj h3 hi
  exact ⟨by omega,by rw [yu,f2]; rfl⟩
 have l2:∀ (x15:List (List Int)) (x16 x17 x31 x32:Int) (E:List Int→Int→List (List Int)→Int→Int→Int→Int→List Int→She→Option (Int×Int×Bool)),z2t k k t (j:Int) (i:Int) ((i+1:Nat):Int) x15 x16 x17 x31 x32 ((zf s.1 t).map fun i:Nat=>(i:Int)) s E=some ((j:Int),(c:Int),true):=by
  intro x15 x16 x17 x31 x32 E
  have step:∀ n d,d<t.length-(i+1)→z2t k (n+1) t (j:Int) (i:Int) ((i+1+d:Nat):Int) x15 x16 x17 x31 x32 ((zf s.1 t).map fun i:Nat=>(i:Int)) s E=(if (!decide (sqS s j t i (i+1+d)=sqS s j t (i+1+d) i))=true then (z8v k s.1 (((zf s.1 t).getD i 0:Nat):Int)).bind fun r_15=>(if 0≤((i+1+d-1:Nat):Int)∧(((i+1+d-1:Nat):Int)).toNat<List.length r_15 then (r_15[(((i+1+d-1:Nat):Int)).toNat]?).bind fun y_16=>some ((j:Int),y_16,true) else none) else z2t k n t (j:Int) (i:Int) ((i+1+d+1:Nat):Int) x15 x16 x17 x31 x32 ((zf s.1 t).map fun i:Nat=>(i:Int)) s E):=by
   intro n d hd
   have hi2:i+1+d<t.length:=by omega
   have hlt:((i+1+d:Nat):Int)<(t.length:Int):=by omega
   have hw:=zd (i:=i+1+d) (by omega)
   have hw1:z6 (((i+1+d:Nat):Int)-1)=((i+1+d-1:Nat):Int):=by rw [ze (by omega) (by omega)]; omega
   obtain ⟨a1,a2,a3⟩:=zor hk hs h hj h3 hi hi2 (by omega)
   obtain ⟨b1,b2,b3⟩:=zor hk hs h hj h3 hi2 hi (by omega)
   rw [y4 (by omega)] at a2 a3
   rw [y5 (by omega)] at b2 b3
   obtain ⟨g1,g2⟩:=hF i hi
   obtain ⟨g3,g4⟩:=hF (i+1+d) hi2
   simp only [z2t,hlt,y9,y7,a1,y6,yp,yg,ye,g1,yz,g2,hw1,a2,a3,b1,g3,g4,b2,b3,z160 hk (zga hk hs h hj h3 hi hi2 (by omega)),hw]
  have key:=zgc (L:=fun n z=>z2t k n t (j:Int) (i:Int) (((i+1:Nat):Int)+z) x15 x16 x17 x31 x32 ((zf s.1 t).map fun i:Nat=>(i:Int)) s E) (b:=t.length-(i+1)) (i0:=d) (p:=fun d=>zcw s j t i (i+1+d)) (e:=some ((j:Int),(c:Int),true)) (by omega) F.d0 ?_ ?_ (n:=k) (by omega)
  ·rw [y52] at key
   exact key
  ·intro n d hd hp
   have e1:((i+1:Nat):Int)+(d:Int)=((i+1+d:Nat):Int):=by omega
   have e2:((i+1:Nat):Int)+((d+1:Nat):Int)=((i+1+d+1:Nat):Int):=by omega
   have hp':decide (sqS s j t i (i+1+d)=sqS s j t (i+1+d) i)=true:=hp
   show z2t k (n+1) t (j:Int) (i:Int) (((i+1:Nat):Int)+(d:Int)) x15 x16 x17 x31 x32 ((zf s.1 t).map fun i:Nat=>(i:Int)) s E=z2t k n t (j:Int) (i:Int) (((i+1:Nat):Int)+((d+1:Nat):Int)) x15 x16 x17 x31 x32 ((zf s.1 t).map fun i:Nat=>(i:Int)) s E
   rw [e1,e2,step n d hd,y5 (by rw [hp']; simp)]
  ·intro n
   have e1:((i+1:Nat):Int)+(d:Int)=((i+1+d:Nat):Int):=by omega
   have hp':decide (sqS s j t i (i+1+d)=sqS s j t (i+1+d) i)=false:=F.dn
   have hlen:=(yo.1 f4).1
   have hgf:((zf s.1 (z11 t i)).map fun i:Nat=>(i:Int))[i+d]?=some (c:Int):=by rw [yu,f4]; rfl
   show z2t k (n+1) t (j:Int) (i:Int) (((i+1:Nat):Int)+(d:Int)) x15 x16 x17 x31 x32 ((zf s.1 t).map fun i:Nat=>(i:Int)) s E=_
   rw [e1,step n d (by omega),y4 (by rw [hp']; rfl),zct hk hC f3,show i+1+d-1=i+d by omega]
   simp only [y6,yp,yg,ye,hlen,yz,y7,hgf]
 have l1:∀ E:List (List Int)→Int→Int→She→Option (Int×Int×Bool),z5y k k t (j:Int) s.1 (s.1.length:Int) (j:Int) (t.length:Int) 0 ((zf s.1 t).map fun i:Nat=>(i:Int)) s E=some ((j:Int),(c:Int),true):=by
  intro E
  refine zgc (L:=fun n i=>z5y k n t (j:Int) s.1 (s.1.length:Int) (j:Int) (t.length:Int) i ((zf s.1 t).map fun i:Nat=>(i:Int)) s E) (b:=t.length) (i0:=i) (p:=z6e s j t) F.hi F.i0 ?_ ?_ (n:=k) (by omega)
  ·intro n i hi hp
   have hlt:(i:Int)<(t.length:Int):=by omega
   have hw:=zd (i:=i) (by omega)
   have:=(z165 hk hs h hj h3 hi s.1 (s.1.length:Int) (j:Int) (t.length:Int) (i:Int) (fun t_4 simplex_5 x_6 x_7 x_8 x_9 x_10 q_11 v_12=>z5y k n t_4 simplex_5 x_6 x_7 x_8 x_9 (z6 (x_10+1)) q_11 v_12 E)).1 hp
   simp only [z5y,hlt,y9,y7,hw,this]
  ·intro n
   have hlt:(i:Int)<(t.length:Int):=by omega
   have hw:=zd (i:=i) (by omega)
   simp only [z5y,hlt,y9,y7,hw,l2]
 have inner:=z16d hk hs h
 unfold zfs
 refine zgc (L:=fun n i=>z7p k n s.1 (s.1.length:Int) i s (some (0,0,false))) (b:=s.1.length) (i0:=j) (p:=z4o s) hjl F.j0 ?_ ?_ (n:=k) (by omega)
 ·intro n j hj hp
  have hlt:(j:Int)<(s.1.length:Int):=by omega
  have hw:=zd (i:=j) (by omega)
  have hg:s.1[j]?=some s.1[j]:=yj hj
  simp only [z7p,hlt,y9,y7,yg,ye,hg,y6,hw,zct hk hC hg]
  by_cases h3:2<(s.1[j]).length
  ·rw [ya (by omega),y5 (by simp),inner j _ hg h3 _ hp,hw]
  ·rw [yb (by omega),y4 rfl]
 ·intro n
  have hlt:(j:Int)<(s.1.length:Int):=by omega
  simp only [z7p,hlt,y9,y7,yg,ye,hj,y6,zct hk hC hj]
  rw [ya (by omega),y5 (by simp),l1]
theorem z1oa {k:Nat} (hk:KK≤k) {s:She} (hs:smallSh s) (h:z1f k s=true) (ha:(List.range s.1.length).all (z4o s)=true):zfs k s=some ((0:Int),0,false):=by
 have hK:=zg
 obtain ⟨hC,_,_⟩:=z27 hk h
 have hcl:=hC.len
 have inner:=z16d hk hs h
 unfold zfs
 refine (zaj (L:=fun n i=>z7p k n s.1 (s.1.length:Int) i s (some (0,0,false))) (b:=s.1.length) (p:=z4o s) (e:=some ((0:Int),(0:Int),false)) (Q:=fun _=>True) ?_ (fun _ _ _ _=>trivial) ?_ (n:=k) (by omega)).1 ha
 ·intro n j hj hp
  have hlt:(j:Int)<(s.1.length:Int):=by omega
  have hw:=zd (i:=j) (by omega)
  have hg:s.1[j]?=some s.1[j]:=yj hj
  simp only [z7p,hlt,y9,y7,yg,ye,hg,y6,hw,zct hk hC hg]
  by_cases h3:2<(s.1[j]).length
  ·rw [ya (by omega),y5 (by simp),inner j _ hg h3 _ hp,hw]
  ·rw [yb (by omega),y4 rfl]
 ·intro n
  simp only [z7p,yw,yf,yc,y8]
abbrev Edg:=Int×Int×Int
def zcx (a b:Edg):Bool:=decide (a.1<b.1∨(a.1=b.1∧a.2.1<b.2.1))
def zgd (l:List Edg) (i:Nat) (e:Edg):Bool:=if 0<i then (match l[i-1]? with | some z=>zcx z e | none=>false) else true
theorem z16e (a b:Edg):decide (0≤(if cI a.1 b.1=0 then cI a.2.1 b.2.1 else cI a.1 b.1))=!zcx a b:=by
 unfold zcx cI
 rw [← decide_not]
 refine decide_eq_decide.2 ?_
 by_cases h1:a.1<b.1
 ·simp [h1]
 ·by_cases h2:b.1<a.1
  ·have:¬ a.1=b.1:=by omega
   simp [h1,h2,this]
  ·have e:a.1=b.1:=by omega
   by_cases h3:a.2.1<b.2.1
   ·simp [e,h3]
   ·by_cases h4:b.2.1<a.2.1 <;> simp [e,h3,h4]
abbrev Net:=Int×Int×Int×List Edg
def z96 (n:Net) (i:Nat):Bool:=match n.2.2.2[i]? with
 | some a=>decide (0≤a.1∧a.1≤z6 (n.1-1))&&(decide (0≤a.2.1∧a.2.1≤z6 (n.1-1))&&(!decide (a.1=a.2.1)&&(decide (0≤a.2.2∧a.2.2≤1000000)&&zgd n.2.2.2 i a)))
 | none=>false
def zal (n:Net):Bool:=decide (2≤n.1∧n.1≤12)&&(decide (0≤n.2.1∧n.2.1≤z6 (n.1-1))&&(decide (0≤n.2.2.1∧n.2.2.1≤z6 (n.1-1))&&(!decide (n.2.1=n.2.2.1)&&((List.range n.2.2.2.length).all (z96 n)&&decide (n.2.2.2.length≤24)))))
theorem z1ob {k:Nat} (hk:KK≤k) {n:Net} (hn:n.2.2.2.length≤1048576):zlw k n=some (zal n):=by
 have hK:=zg
 have hl:z8o k k n 0 (fun n_11=>some (decide ((List.length n_11.2.2.2:Int)≤24)))=if (List.range n.2.2.2.length).all (z96 n)=true then some (decide ((n.2.2.2.length:Int)≤24)) else some false:=by
  refine z5w (L:=fun m i=>z8o k m n i (fun n_11=>some (decide ((List.length n_11.2.2.2:Int)≤24)))) (b:=n.2.2.2.length) (p:=z96 n) (r:=some false) ?_ ?_ (n:=k) (by omega)
  ·intro m i hi
   have hlt:(i:Int)<(n.2.2.2.length:Int):=by omega
   have hw:=zd (i:=i) (by omega)
   have hg:n.2.2.2[i]?=some n.2.2.2[i]:=yj hi
   simp only [z8o,hlt,y9,y7,yg,ye,hg,y6,hw,z7r,z96,zgd]
   generalize n.2.2.2[i]=a
   by_cases c1:0≤a.1∧a.1≤z6 (n.1-1)
   case neg=>simp [c1]
   by_cases c2:0≤a.2.1∧a.2.1≤z6 (n.1-1)
   case neg=>simp [c1,c2]
   by_cases c3:a.1=a.2.1
   ·simp only [c3,y9] at *; simp [c2]
   by_cases c4:0≤a.2.2∧a.2.2≤1000000
   case neg=>simp [c1,c2,c3,c4]
   rw [yb c1,yb c2,ya c3,yb c4]
   simp only [y14,y2j,yc,y8,y1m]
   by_cases h0:0<i
   ·have h0':(0:Int)<(i:Int):=by omega
    have hw1:z6 ((i:Int)-1)=((i-1:Nat):Int):=by rw [ze (by omega) (by omega)]; omega
    have hg1:n.2.2.2[i-1]?=some n.2.2.2[i-1]:=yj (by omega)
    simp only [h0',h0,y9,y7,hw1,yg,ye,hg1,y6]
    generalize n.2.2.2[i-1]=t
    unfold zcx
    by_cases d1:a.1<t.1
    ·have:¬ (t.1<a.1∨t.1=a.1∧t.2.1<a.2.1):=by omega
     rw [yb d1,y4 rfl,ya this,y5 (by simp)]
    ·rw [ya d1,y5 (by simp)]
     by_cases d2:t.1=a.1
     ·rw [yb d2,y4 rfl]
      by_cases d3:a.2.1≤t.2.1
      ·have:¬ (t.1<a.1∨t.1=a.1∧t.2.1<a.2.1):=by omega
       rw [yb d3,y4 rfl,ya this,y5 (by simp)]
      ·have:(t.1<a.1∨t.1=a.1∧t.2.1<a.2.1):=by omega
       rw [ya d3,y5 (by simp),yb this,y4 rfl]
     ·have:(t.1<a.1∨t.1=a.1∧t.2.1<a.2.1):=by omega
      rw [ya d2,y5 (by simp),yb this,y4 rfl]
   ·have h0':¬ (0:Int)<(i:Int):=by omega
    simp [h0,h0']
  ·intro m
   simp only [z8o,yw,yf,yc,y8]
 have e2:decide ((n.2.2.2.length:Int)≤24)=decide (n.2.2.2.length≤24):=decide_eq_decide.2 (by omega)
 unfold zlw zal
 rw [hl,e2]
 simp only [z7r,y6]
 by_cases c1:2≤n.1∧n.1≤12
 case neg=>simp [c1]
 by_cases c2:0≤n.2.1∧n.2.1≤z6 (n.1-1)
 case neg=>simp [c1,c2]
 by_cases c3:0≤n.2.2.1∧n.2.2.1≤z6 (n.1-1)
 case neg=>simp [c1,c2,c3]
 rw [yb c1,yb c2,yb c3]
 cases decide (n.2.1=n.2.2.1) <;> cases (List.range n.2.2.2.length).all (z96 n) <;> simp
theorem z1oc {k:Nat} (hk:KK≤k) {n:Net} (hn:n.2.2.2.length≤1048576):zn6 k n=some (zal n):=by
 have hK:=zg
 have e2:decide ((n.2.2.2.length:Int)≤24)=decide (n.2.2.2.length≤24):=decide_eq_decide.2 (by omega)
 have hE:((z3z n.1 2 12).bind fun r_11=>(if r_11=true then (z5x n.2.1 n.1).bind fun r_12=>(if r_12=true then (z5x n.2.2.1 n.1).bind fun r_13=>(if r_13=true then (if (!(decide (n.2.1=n.2.2.1)))=true then some (decide ((List.length n.2.2.2:Int)≤24)) else some false) else some false) else some false) else some false))=some (decide (2≤n.1∧n.1≤12)&&(decide (0≤n.2.1∧n.2.1≤z6 (n.1-1))&&(decide (0≤n.2.2.1∧n.2.2.1≤z6 (n.1-1))&&(!decide (n.2.1=n.2.2.1)&&decide (n.2.2.2.length≤24))))):=by
  unfold z5x
  simp only [z6x,y6,e2]
  by_cases c1:2≤n.1∧n.1≤12
  case neg=>simp [c1]
  by_cases c2:0≤n.2.1∧n.2.1≤z6 (n.1-1)
  case neg=>simp [c1,c2]
  by_cases c3:0≤n.2.2.1∧n.2.2.1≤z6 (n.1-1)
  case neg=>simp [c1,c2,c3]
  rw [yb c1,yb c2,yb c3]
  cases decide (n.2.1=n.2.2.1) <;> simp
 unfold zn6
 have hl:∀ E:Net→Option Bool,za7 k k n.2.2.2 (n.2.2.2.length:Int) 0 n E=if (List.range n.2.2.2.length).all (z96 n)=true then E n else some false:=by
  intro E
  refine z5w (L:=fun m i=>za7 k m n.2.2.2 (n.2.2.2.length:Int) i n E) (b:=n.2.2.2.length) (p:=z96 n) (r:=some false) ?_ ?_ (n:=k) (by omega)
  ·intro m i hi
   have hlt:(i:Int)<(n.2.2.2.length:Int):=by omega
   have hw:=zd (i:=i) (by omega)
   have hg:n.2.2.2[i]?=some n.2.2.2[i]:=yj hi
   simp only [za7,z5x,hlt,y9,y7,yg,ye,hg,y6,hw,z6x,z96,zgd]
   generalize n.2.2.2[i]=a
   by_cases c1:0≤a.1∧a.1≤z6 (n.1-1)
   case neg=>simp [c1]
   by_cases c2:0≤a.2.1∧a.2.1≤z6 (n.1-1)
   case neg=>simp [c1,c2]
   by_cases c3:a.1=a.2.1
   ·simp only [c3,y9] at *; simp [c2]
   by_cases c4:0≤a.2.2∧a.2.2≤1000000
   case neg=>simp [c1,c2,c3,c4]
   rw [yb c1,yb c2,ya c3,yb c4]
   simp only [y14,y2j,yc,y8,y1m]
   by_cases h0:0<i
   ·have h0':(0:Int)<(i:Int):=by omega
    have hw1:z6 ((i:Int)-1)=((i-1:Nat):Int):=by rw [ze (by omega) (by omega)]; omega
    have hg1:n.2.2.2[i-1]?=some n.2.2.2[i-1]:=yj (by omega)
    simp only [h0',h0,y9,y7,hw1,yg,ye,hg1,y6,zsk,zsl hk,z16e]
    generalize n.2.2.2[i-1]=t
    cases zcx t a <;> simp
   ·have h0':¬ (0:Int)<(i:Int):=by omega
    simp [h0,h0']
  ·intro m
   simp only [za7,yw,yf,yc,y8]
 rw [hl,hE]
 unfold zal
 cases (List.range n.2.2.2.length).all (z96 n) <;> simp
def zp {α:Type} (f:α→Nat) (l:List α):Nat:=(l.map f).sum
theorem z7w {α:Type} (f:α→Nat):zp f []=0:=rfl
theorem z50 {α:Type} (f:α→Nat) (x:α) (l:List α):zp f (x::l)=f x+zp f l:=by simp [zp]
theorem zow {α:Type} (f:α→Nat) (l m:List α):zp f (l++m)=zp f l+zp f m:=by simp [zp]
theorem z97 {α:Type} (f:α→Nat) {x:α} {l:List α} (h:x∈l):f x≤zp f l:=by
 induction l with
 | nil=>cases h
 | cons y l ih =>
  rw [z50]
  rcases yx.1 h with rfl | h
  ·omega
  ·have:=ih h; omega
theorem z16f {α:Type} (xs:List α) {s:α→Nat} {L:Nat→Int→Int→Option Int}
  (h1:∀ n (i:Nat) x r,xs[i]?=some x→(i:Int)<xs.length→x∈xs→0≤r→r≤1048576→L (n+1) (i:Int) r=if (s x:Int)≤r then L n ((i+1:Nat):Int) (r-(s x:Int)) else some (-1))
  (h2:∀ n r,L (n+1) (xs.length:Int) r=some r) {n:Nat} (hn:xs.length<n) {r:Int} (h0:0≤r) (hr:r≤1048576):L n 0 r=some (if (zp s xs:Int)≤r then r-(zp s xs:Int) else -1):=by
 refine z26 (L:=L) (I:=fun _ r=>0≤r∧r≤1048576) (G:=fun post r=>some (if (zp s post:Int)≤r then r-(zp s post:Int) else -1)) xs ?_ ?_ n hn r ⟨h0,hr⟩
 ·intro n pre x post r hx hI ih hg hlt
  rw [h1 n pre.length x r hg hlt (ym hg) hI.1 hI.2]
  have hc:zp s (x::post)=s x+zp s post:=z50 _ _ _
  by_cases c:(s x:Int)≤r
  ·rw [y4 c,ih (r-(s x:Int)) ⟨by omega,by omega⟩]
   by_cases c2:(zp s post:Int)≤r-(s x:Int)
   ·rw [y4 c2,y4 (by omega)]; congr 1; omega
   ·rw [y5 c2,y5 (by omega)]
  ·rw [y5 c,y5 (by omega)]
 ·intro n r hI
  rw [h2,z7w,if_pos (by simpa using hI.1)]; simp
theorem z1od {k:Nat} (hk:KK≤k) {n:Int} (h:n≤9223372036854775807):∃ t,z8n k n=some t:=by
 unfold z8n
 by_cases h0:n≤0
 ·exact ⟨[109,48],by simp [h0]⟩
 ·simp only [y1d,h0,y8]
  have key:∀ (m:Nat) (n:Int) (out:List UInt8),0≤n→n<10 ^ m→n≤9223372036854775807→out.length+m≤100→∀ q,m<q→∃ t,zbk k q n out (fun out_1=>(if [109].length+out_1.length≤9223372036854775807 then some ([109]++out_1) else none))=some t:=by
   intro m
   induction m with
   | zero =>
    intro n out h1 h2 h3 h4 q hq
    obtain ⟨q,rfl⟩:∃ p,q=p+1:=⟨q-1,by omega⟩
    have:¬ 0<n:=by simp at h2; omega
    have h5:1+out.length≤9223372036854775807:=by omega
    exact ⟨[109]++out,by simp only [zbk,y1d,this,y8,yy,h5,y7]⟩
   | succ m ih =>
    intro n out h1 h2 h3 h4 q hq
    obtain ⟨q,rfl⟩:∃ p,q=p+1:=⟨q-1,by omega⟩
    by_cases hn:0<n
    ·have hd:Int.tdiv n 10=n / 10:=y50 h1
     have hw:z6 (Int.tdiv n 10)=n / 10:=by rw [hd,ze (by omega) (by omega)]
     have h5:1+out.length≤9223372036854775807:=by omega
     have h6:n / 10<10 ^ m:=by
      rw [y3t] at h2
      omega
     obtain ⟨t,ht⟩:=ih (n / 10) ((z8i [(z6r ((z6 (48+(Int.tmod n 10)))))])++out) (by omega) h6 (by omega) (by simp; omega) q (by omega)
     refine ⟨t,?_⟩
     simp only [zbk,y1d,hn,y7,hw]
     rw [y4 (by simp; omega)]
     exact ht
    ·have h5:1+out.length≤9223372036854775807:=by omega
     exact ⟨[109]++out,by simp only [zbk,y1d,hn,y8,yy,h5,y7]⟩
  exact key 20 n [] (by omega) (by omega) h (by simp) k (by have:=zg; omega)
noncomputable def tM (k:Nat) (m:Int):List UInt8:=(z8n k m).getD []
theorem zox {k:Nat} (hk:KK≤k) {m:Int} (h:m≤9223372036854775807):z8n k m=some (tM k m):=by
 obtain ⟨t,ht⟩:=z1od hk h
 unfold tM
 rw [ht]; rfl
def mkL {α:Type} (f:α→Int→α×Int):List α→Int→List α×Int
 | [],m=>([],m)
 | x::l,m=>((f x m).1::(mkL f l (f x m).2).1,(mkL f l (f x m).2).2)
theorem zge {α:Type} (f:α→Int→α×Int):∀ (l:List α) (m:Int),(mkL f l m).1.length=l.length
 | [],_=>rfl
 | x::l,m=>by simp [mkL,zge f l]
theorem zt5 {α:Type} {f:α→Int→α×Int} {c:α→Nat} (hc:∀ x m,(f x m).2=m+(c x:Int)):∀ (l:List α) (m:Int),(mkL f l m).2=m+(zp c l:Int)
 | [],m=>by simp [mkL,z7w]
 | x::l,m=>by
  have h1:=z50 c x l
  show (mkL f l (f x m).2).2=_
  rw [zt5 hc l,hc]; omega
theorem zt6 {α:Type} {f:α→Int→α×Int}:∀ (l r:List α) (m:Int),(mkL f (l++r) m).1=(mkL f l m).1++(mkL f r (mkL f l m).2).1
 | [],r,m=>rfl
 | x::l,r,m=>by simp [mkL,zt6 l r]
theorem zam {α Q R:Type} {f:α→Int→α×Int} {c:α→Nat} (hc:∀ x m,(f x m).2=m+(c x:Int)) (xs:List α) {m0 B:Int} (hB:m0+(zp c xs:Int)≤B) {S:List α→Q} {L:Nat→Int→Int→Q→R} {G:R}
  (h1:∀ n (i:Nat) m l y,l.length=xs.length→l[i]?=some y→y∈xs→m0≤m→m+(c y:Int)≤B→(i:Int)<l.length→i<l.length→L (n+1) m (i:Int) (S l)=L n (m+(c y:Int)) ((i+1:Nat):Int) (S (l.set i (f y m).1)))
  (h2:∀ n l,l=(mkL f xs m0).1→l.length=xs.length→L (n+1) (m0+(zp c xs:Int)) (xs.length:Int) (S l)=G) {n:Nat} (hn:xs.length<n):L n m0 0 (S xs)=G:=by
 have main:∀ (post pre:List α) (n:Nat),xs=pre++post→post.length<n→L n (m0+(zp c pre:Int)) (pre.length:Int) (S ((mkL f pre m0).1++post))=G:=by
  intro post
  induction post with
  | nil =>
   intro pre n hx hn
   obtain ⟨m,rfl⟩:∃ m,n=m+1:=⟨n-1,by simp at hn; omega⟩
   rw [y1t] at hx ⊢
   subst hx
   exact h2 m _ rfl (zge f _ _)
  | cons x post ih =>
   intro pre n hx hn
   obtain ⟨m,rfl⟩:∃ m,n=m+1:=⟨n-1,by simp at hn; omega⟩
   have hl:(mkL f pre m0).1.length=pre.length:=zge f _ _
   have hs:zp c xs=zp c pre+(c x+zp c post):=by rw [hx,zow,z50]
   rw [h1 m pre.length (m0+(zp c pre:Int)) ((mkL f pre m0).1++x::post) x (by rw [hx]; simp [hl]) (by rw [y1r (by omega),hl]; simp) (by rw [hx]; simp) (by omega) (by omega) (by simp [hl]; omega) (by simp [hl])]
   have:=ih (pre++[x]) m (by rw [hx]; simp) (by simp at hn; omega)
   have e1:((mkL f pre m0).1++x::post).set pre.length (f x (m0+(zp c pre:Int))).1=(mkL f (pre++[x]) m0).1++post:=by
    rw [y64 _ _ (by omega),hl,y42,List.set_cons_zero,zt6,zt5 hc]
    simp [mkL]
   have e2:m0+(zp c pre:Int)+(c x:Int)=m0+(zp c (pre++[x]):Int):=by rw [zow,z50,z7w]; omega
   rw [e1,e2]
   rw [yl] at this
   simpa using this
 have:=main xs [] n rfl hn
 simpa [z7w,mkL] using this
theorem z1oe {α R:Type} {f:α→Int→α×Int} {c:α→Nat} (hc:∀ x m,(f x m).2=m+(c x:Int)) (xs:List α) {m0 B:Int} (hB:m0+(zp c xs:Int)≤B) {L:Nat→Int→Int→R} {G:R}
  (h1:∀ n (i:Nat) m y,(mkL f xs m0).1[i]?=some (f y m).1→y∈xs→m0≤m→m+(c y:Int)≤B→(i:Int)<(mkL f xs m0).1.length→i<(mkL f xs m0).1.length→L (n+1) m (i:Int)=L n (m+(c y:Int)) ((i+1:Nat):Int))
  (h2:∀ n,L (n+1) (m0+(zp c xs:Int)) ((mkL f xs m0).1.length:Int)=G) {n:Nat} (hn:xs.length<n):L n m0 0=G:=by
 have hlen:(mkL f xs m0).1.length=xs.length:=zge f _ _
 have main:∀ (post pre:List α) (n:Nat),xs=pre++post→post.length<n→L n (m0+(zp c pre:Int)) (pre.length:Int)=G:=by
  intro post
  induction post with
  | nil =>
   intro pre n hx hn
   obtain ⟨m,rfl⟩:∃ m,n=m+1:=⟨n-1,by simp at hn; omega⟩
   rw [y1t] at hx
   have:=h2 m
   rw [hlen] at this
   rw [← hx]; exact this
  | cons x post ih =>
   intro pre n hx hn
   obtain ⟨m,rfl⟩:∃ m,n=m+1:=⟨n-1,by simp at hn; omega⟩
   have hl:(mkL f pre m0).1.length=pre.length:=zge f _ _
   have hs:zp c xs=zp c pre+(c x+zp c post):=by rw [hx,zow,z50]
   have hlx:pre.length<xs.length:=by rw [hx]; simp
   have hg:(mkL f xs m0).1[pre.length]?=some (f x (m0+(zp c pre:Int))).1:=by
    rw [hx,zt6,y1r (by omega),hl,y42,zt5 hc]
    rfl
   rw [h1 m pre.length (m0+(zp c pre:Int)) x hg (by rw [hx]; simp) (by omega) (by omega) (by omega) (by omega)]
   have:=ih (pre++[x]) m (by rw [hx]; simp) (by simp at hn; omega)
   have e2:m0+(zp c pre:Int)+(c x:Int)=m0+(zp c (pre++[x]):Int):=by rw [zow,z50,z7w]; omega
   rw [e2]
   rw [yl] at this
   simpa using this
 have:=main xs [] n rfl hn
 simpa [z7w] using this
theorem zoy {α:Type}:∀ l:List α,zp (fun _=>1) l=l.length
 | []=>rfl
 | x::l=>by rw [z50,zoy l,y1k]; omega
abbrev Prb:=Int×List UInt8×List UInt8
noncomputable def zgf (k:Nat) (_:Prb) (m:Int):Prb×Int:=((m,tM k (m+1),tM k (m+1+1)),m+((3:Nat):Int))
theorem z16g (k:Nat) (x:Prb) (m:Int):(zgf k x m).2=m+(((fun _:Prb=>3) x:Nat):Int):=rfl
theorem zt7 {α:Type}:∀ l:List α,zp (fun _=>3) l=3*l.length
 | []=>rfl
 | x::l=>by rw [z50,zt7 l,y1k]; omega
theorem z1of {k:Nat} (hk:KK≤k) {L:List Prb} {m:Int} (h0:0≤m) (h1:m+((3*L.length:Nat):Int)≤100000000000000000) (hL:L.length≤1000000000000) :
  zhp k m L=some ((m+((3*L.length:Nat):Int),()),((mkL (zgf k) L m).1,()),()):=by
 have hK:=zg
 rw [← zt7] at h1 ⊢
 unfold zhp
 refine zam (z16g k) L (m0:=m) (B:=100000000000000000) h1 (S:=fun l=>l) (L:=fun n m i q=>zer k n m i q (fun k_11 q_12=>some ((k_11,()),(q_12,()),()))) ?_ ?_ (n:=k) (by omega)
 ·intro n i m' l y hll hg hy m0 m1 hlt hlt'
  have hw:=zd (i:=i) (by omega)
  have w1:z6 (m'+1)=m'+1:=ze (by omega) (by omega)
  have w2:z6 (m'+1+1)=m'+1+1:=ze (by omega) (by omega)
  have w3:z6 (m'+1+1+1)=m'+((3:Nat):Int):=by rw [ze (by omega) (by omega)]; omega
  simp only [zer,hlt,hlt',y9,y7,y6,yg,ye,yz,hg,y21,y2g hlt',w1,w2,w3,zox hk (show m'+1≤9223372036854775807 by omega),zox hk (show m'+1+1≤9223372036854775807 by omega),y43,hw,zgf]
 ·intro n l hl2 hll
  have:¬ (L.length:Int)<(l.length:Int):=by omega
  simp only [zer,this,yf,yc,y8]
  rw [hl2]
theorem z1og {k:Nat} (hk:KK≤k) {L:List Prb} {m:Int} (h0:0≤m) (h1:m+((3*L.length:Nat):Int)≤100000000000000000) (hL:L.length≤1000000000000) :
  zet k (mkL (zgf k) L m).1 m=some (m+((3*L.length:Nat):Int)):=by
 have hK:=zg
 rw [← zt7] at h1 ⊢
 unfold zet
 refine z1oe (z16g k) L (m0:=m) (B:=100000000000000000) h1 (L:=fun n m' i=>zes k n (mkL (zgf k) L m).1 m' i fun k_6=>some k_6) ?_ ?_ (n:=k) (by omega)
 ·intro n i m' y hg hy m0 m1 hlt hlt'
  have hw:=zd (i:=i) (by rw [zge] at hlt'; omega)
  have w1:z6 (m'+1)=m'+1:=ze (by omega) (by omega)
  have w2:z6 (m'+1+1)=m'+1+1:=ze (by omega) (by omega)
  have w3:z6 (m'+1+1+1)=m'+((3:Nat):Int):=by rw [ze (by omega) (by omega)]; omega
  simp only [zes,hlt,y9,y7,yg,ye,hg,y6,w1,w2,w3,zox hk (show m'+1≤9223372036854775807 by omega),zox hk (show m'+1+1≤9223372036854775807 by omega),zgf,y14,yc,y8,hw]
 ·intro n
  simp only [zes,yw,yf,yc,y8]
theorem z1oh {k:Nat} (hk:KK≤k) {L:List Prb} (hL:L.length≤1000000000):∃ (m:Int) (q:List Prb),zhp k 1 L=some ((m,()),(q,()),())∧zet k q 1=some m∧¬ m<0 :=
 ⟨_,_,z1of hk (by omega) (by omega) (by omega),z1og hk (by omega) (by omega) (by omega),by omega⟩
theorem z52 {S R:Type} {L:Nat→Int→S→R} {b:Nat} {st:Nat→S} {e:R} (h1:∀ n (i:Nat),i<b→L (n+1) (i:Int) (st i)=L n ((i+1:Nat):Int) (st (i+1))) (h2:∀ n,L (n+1) (b:Int) (st b)=e):∀ {n:Nat},b<n→L n 0 (st 0)=e:=by
 have key:∀ (d i n:Nat),i+d=b→d<n→L n (i:Int) (st i)=e:=by
  intro d
  induction d with
  | zero =>
   intro i n hi hn
   obtain ⟨n,rfl⟩:∃ m,n=m+1:=⟨n-1,by omega⟩
   have:i=b:=by omega
   subst this
   exact h2 n
  | succ d ih =>
   intro i n hi hn
   obtain ⟨n,rfl⟩:∃ m,n=m+1:=⟨n-1,by omega⟩
   rw [h1 n i (by omega)]
   exact ih (i+1) n (by omega) (by omega)
 intro n hn
 exact key b 0 n (by omega) hn
def z73 (c:Cx) (d:Int) (i:Nat):Bool:=match c[i]? with
 | some s=>decide ((s.length:Int)=d+1)
 | none=>false
theorem z1oi (c:Cx) (d:Int):ofC c d=(List.range c.length).filter (z73 c d):=rfl
def ofN (c:Cx) (d:Int) (n:Nat):List Nat:=(List.range n).filter (z73 c d)
theorem zt8 {c:Cx} {d:Int} {n i:Nat} (h:i∈ofN c d n):i<n:=y1a.1 (y2n.1 h).1
theorem z16h (c:Cx) (d:Int) (n:Nat):ofN c d (n+1)=ofN c d n++(if z73 c d n=true then [n] else []):=zih _ _
theorem z16i {c:Cx} {d:Int} {j:Nat} (hj:j<c.length) (h:z73 c d j=true):∃ post,ofC c d=ofN c d j++j::post∧∀ i∈post,i<c.length:=by
 have e:c.length=(j+1)+(c.length-(j+1)):=by omega
 refine ⟨((List.range (c.length-(j+1))).map (j+1+·)).filter (z73 c d),?_,?_⟩
 ·rw [z1oi,e,List.range_add,List.filter_append]
  have:=z16h c d j
  unfold ofN at this
  rw [this,y4 h]
  simp [ofN]
 ·intro i hi
  obtain ⟨x,hx,rfl⟩:=y1f.1 (y2n.1 hi).1
  have:=y1a.1 hx
  omega
theorem z1oj (st:List Int) (l m:List Nat):zk st (l++m)=zk st l+zk st m:=by unfold zk; simp
def zin (s:She) (j:Nat):Int:=match s.1[j]? with
 | some t=>zk s.2.2.1 (ofN s.1 ((t.length:Int)-1) j)
 | none=>0
def oN (s:She) (j:Nat):Nat:=(zin s j).toNat
theorem zt9 {s:She} {j:Nat} {t:List Int} (hj:s.1[j]?=some t):zin s j=zk s.2.2.1 (ofN s.1 ((t.length:Int)-1) j):=by unfold zin; rw [hj]
theorem zoz {s:She} (hS:StP s.1 s.2.2.1) {j:Nat} {t:List Int} (hj:s.1[j]?=some t) {d:Int} (hd:(t.length:Int)=d+1):zin s j=(oN s j:Int)∧s.2.2.1.getD j 0=(stN s j:Int)∧(oN s j:Int)+(stN s j:Int)≤zk s.2.2.1 (ofC s.1 d):=by
 have hjl:=(yo.1 hj).1
 have hb:z73 s.1 d j=true:=by unfold z73; rw [hj]; exact decide_eq_true hd
 obtain ⟨post,e,hp⟩:=z16i hjl hb
 obtain ⟨_,s2,s3⟩:=z7v hS hjl
 have b1:=zag hS (ofN s.1 d j) (fun i hi=>by have:=zt8 hi; omega)
 have b2:=zag hS post hp
 have e1:zin s j=zk s.2.2.1 (ofN s.1 d j):=by rw [zt9 hj,show (t.length:Int)-1=d by omega]
 have e2:zk s.2.2.1 (ofC s.1 d)=zk s.2.2.1 (ofN s.1 d j)+(s.2.2.1.getD j 0+zk s.2.2.1 post):=by
  rw [e,z1oj]
  congr 1
 unfold oN stN
 rw [e1] at *
 omega
theorem z16j {k:Nat} (hk:KK≤k) {s:She} (hC:CxP s.1) (hS:StP s.1 s.2.2.1) {j:Nat} {t:List Int} (hj:s.1[j]?=some t):zhw k s (j:Int)=some (oN s j:Int):=by
 have hK:=zg
 have hjl:=(yo.1 hj).1
 have hcl:=hC.len
 obtain ⟨o1,_,_⟩:=zoz hS hj (d:=(t.length:Int)-1) (by omega)
 unfold zhw
 have:=z52 (S:=Int) (L:=fun m i z=>zbu k m s (j:Int) z i (fun at_4=>some at_4)) (b:=j) (st:=fun i=>zk s.2.2.1 (ofN s.1 ((t.length:Int)-1) i)) (e:=some (oN s j:Int)) ?_ ?_ (n:=k) (by omega)
 ·simpa [ofN,zk] using this
 ·intro m i hi
  have hlt:(i:Int)<(j:Int):=by omega
  have hw:=zd (i:=i) (by omega)
  have hg:s.1[i]?=some s.1[i]:=yj (by omega)
  obtain ⟨s1,s2,s3⟩:=z7v hS (i:=i) (by omega)
  have b1:=zag hS (ofN s.1 ((t.length:Int)-1) i) (fun x hx=>by have:=zt8 hx; omega)
  have b2:(ofN s.1 ((t.length:Int)-1) i).length≤i:=by unfold ofN; exact Nat.le_trans (List.length_filter_le ..) (by rw [List.length_range]; exact Nat.le_refl _)
  have hwz:z6 (zk s.2.2.1 (ofN s.1 ((t.length:Int)-1) i)+s.2.2.1.getD i 0)=zk s.2.2.1 (ofN s.1 ((t.length:Int)-1) i)+s.2.2.1.getD i 0:=ze (by omega) (by omega)
  simp only [zbu,hlt,y9,y7,yg,ye,hg,hj,y6,hw,s1,hwz,z16h]
  have hd:z73 s.1 ((t.length:Int)-1) i=decide ((s.1[i].length:Int)=(t.length:Int)):=by
   unfold z73; rw [hg]
   exact decide_eq_decide.2 (by omega)
  rw [hd]
  by_cases c:(s.1[i].length:Int)=(t.length:Int)
  ·rw [yb c,y4 rfl,y4 rfl,zom]
  ·rw [ya c,y5 (by simp),y5 (by simp),y1t]
 ·intro m
  simp only [zbu,yw,yf,yc,y8,← zt9 hj,o1]
theorem z16k {k:Nat} (hk:KK≤k) {s:She} (hC:CxP s.1) (hS:StP s.1 s.2.2.1) {j:Nat} {t:List Int} (hj:s.1[j]?=some t):zi8 k s (j:Int)=some (oN s j:Int):=by
 have hK:=zg
 have hjl:=(yo.1 hj).1
 have hcl:=hC.len
 have h4:=(hC.simp t (ym hj)).len4
 obtain ⟨o1,_,_⟩:=zoz hS hj (d:=(t.length:Int)-1) (by omega)
 have hb:z73 s.1 ((t.length:Int)-1) j=true:=by unfold z73; rw [hj]; exact decide_eq_true (by omega)
 obtain ⟨post,e,_⟩:=z16i hjl hb
 have hwl:z6 ((t.length:Int)-1)=(t.length:Int)-1:=ze (by omega) (by omega)
 unfold zi8 z7m
 simp only [yg,y7,ye,hj,y6,hwl,zol hk (z42 hC) (show -1000≤(t.length:Int)-1∧(t.length:Int)-1≤1000 by omega),yp]
 generalize hpre:ofN s.1 ((t.length:Int)-1) j=pre at *
 have hmem:∀ x∈pre,x<j:=fun x hx=>zt8 (hpre▸hx)
 rw [e]
 have hpl:pre.length≤j:=by rw [← hpre]; unfold ofN; exact Nat.le_trans (List.length_filter_le ..) (by rw [List.length_range]; exact Nat.le_refl _)
 have:=z52 (S:=Int) (L:=fun m i z=>zfw k m (j:Int) z ((pre++j::post).length:Int) i ((pre++j::post).map fun i:Nat=>(i:Int)) s (fun n_7=>some n_7)) (b:=pre.length) (st:=fun i=>zk s.2.2.1 (pre.take i)) (e:=some (oN s j:Int)) ?_ ?_ (n:=k) (by omega)
 ·simpa [zk] using this
 ·intro m i hi
  have hlt:(i:Int)<((pre++j::post).length:Int):=by rw [yl]; omega
  have hin:i<(pre++j::post).length:=by rw [yl]; omega
  have hw:=zd (i:=i) (by omega)
  have hgp:pre[i]?=some pre[i]:=yj hi
  have hx:=hmem _ (y1l hi)
  have hF:((pre++j::post).map fun i:Nat=>(i:Int))[i]?=some ((pre[i]:Nat):Int):=by rw [yu,y1w hi,hgp]; rfl
  obtain ⟨s1,s2,s3⟩:=z7v hS (i:=pre[i]) (by omega)
  have b1:=zag hS (pre.take i) (fun x hx=>by have:=hmem x (y2c hx); omega)
  have b2:(pre.take i).length≤i:=by rw [y1c]; omega
  have hne:¬ ((pre[i]:Nat):Int)=(j:Int):=by omega
  have hst:zk s.2.2.1 (pre.take (i+1))=zk s.2.2.1 (pre.take i)+s.2.2.1.getD pre[i] 0:=by rw [List.take_add_one,hgp]; exact zom ..
  have hwz:z6 (zk s.2.2.1 (pre.take i)+s.2.2.1.getD pre[i] 0)=zk s.2.2.1 (pre.take i)+s.2.2.1.getD pre[i] 0:=ze (by omega) (by omega)
  simp only [zfw,hlt,y9,y7,yg,ye,yp,hin,yz,hF,y6,hne,yf,yc,y8,s1,hw,hwz,hst]
 ·intro m
  have hlt:(pre.length:Int)<((pre++j::post).length:Int):=by rw [yl,y1k]; omega
  have hin:pre.length<(pre++j::post).length:=by rw [yl,y1k]; omega
  have hF:((pre++j::post).map fun i:Nat=>(i:Int))[pre.length]?=some (j:Int):=by rw [yu,y1r (yr _),y42]; rfl
  simp only [zfw,hlt,y9,y7,yg,ye,yp,hin,yz,hF,y6,y31]
  rw [← o1,zt9 hj,hpre]
theorem z16l {k:Nat} (hk:KK≤k) (p:Int) {R C:Nat} (hR:R≤32) (hC:C≤32):zno k p (R:Int) (C:Int)=some (p,(R:Int),(C:Int),List.replicate (R*C) 0):=by
 have hK:=zg
 have hL:=z1q
 unfold zno zs8
 have row:∀ (i:Nat) (x16 x17:Int) (q3 q:List Int) (u1 u2 u3 u4 u5 u6:Int) (E:Int→Unit→Int→Int→List Int→List Int→Int→Int→Int→Int→Int→Int→Option Mat),q.length≤1024→zcf k k (C:Int) () (i:Int) x16 x17 (C:Int) 0 q3 q u1 u2 u3 u4 u5 u6 E=E (C:Int) () x16 x17 q3 (q++List.replicate C 0) u1 u2 u3 u4 u5 u6:=by
  intro i x16 x17 q3 q u1 u2 u3 u4 u5 u6 E hq
  have:=z52 (S:=List Int) (L:=fun m j r=>zcf k m (C:Int) () (i:Int) x16 x17 (C:Int) j q3 r u1 u2 u3 u4 u5 u6 E) (b:=C) (st:=fun j=>q++List.replicate j 0) (e:=E (C:Int) () x16 x17 q3 (q++List.replicate C 0) u1 u2 u3 u4 u5 u6) ?_ ?_ (n:=k) (by omega)
  ·simpa using this
  ·intro m j hj
   have hlt:(j:Int)<(C:Int):=by omega
   have hw:=zd (i:=j) (by omega)
   have hlim:((q++List.replicate j (0:Int)).length+1)*8≤LIM:=by rw [yl,y29]; omega
   simp only [zcf,zs7,hlt,y9,y7,y6,yy,hlim,hw,List.replicate_succ',y11]
  ·intro m
   simp only [zcf,yw,yf,yc,y8]
 have:=z52 (S:=List Int) (L:=fun m i r=>zfv k m (C:Int) () (R:Int) i [] r 0 0 0 p (R:Int) (C:Int) (fun q_15 q_16 v_8a_17 v_8ba_18 v_8bba_19 v_9a_20 v_9ba_21 v_9bba_22=>some (v_9a_20,(v_9ba_21,(v_9bba_22,q_16))))) (b:=R) (st:=fun i=>List.replicate (i*C) 0) (e:=some (p,(R:Int),(C:Int),List.replicate (R*C) 0)) ?_ ?_ (n:=k) (by omega)
 ·simp only [y46,List.replicate_zero] at this
  rw [this]
  first | done | rfl
 ·intro m i hi
  have hlt:(i:Int)<(R:Int):=by omega
  have hw:=zd (i:=i) (by omega)
  have h1:i*C≤32*32:=y1p (by omega) hC
  simp only [zfv,hlt,y9,y7,row i _ _ _ _ _ _ _ _ _ _ _ (show (List.replicate (i*C) (0:Int)).length≤1024 by rw [y29]; omega),hw,y2a,y5u]
 ·intro m
  simp only [zfv,yw,yf,yc,y8]
theorem z16m (p:Int) {R C:Nat} (hR:R≤32) (hC:C≤32):zf1 p (R:Int) (C:Int)=some (p,(R:Int),(C:Int),List.replicate (R*C) 0):=by
 have hL:=z1q
 have h1:R*C≤32*32:=y1p hR hC
 unfold zf1
 rw [z6d hR hC,y4 ⟨by omega,by omega,by omega⟩,ye]
def z5e (p:Int) (i:Nat):Int:=if decide (Int.tmod (i:Int) 2=0)=true then 1 else p-1
theorem z1ok {p:Int} (hp:2≤p∧p≤251) (i:Nat):znp (i:Int) p=some (z5e p i):=by
 unfold znp z5e
 rw [ze (by omega) (by omega)]
 split <;> rfl
theorem z1ol {p:Int} (hp:2≤p∧p≤251) (i:Nat):zm3 (i:Int) p=some (z5e p i):=by
 have e:Int.tmod 1 p=1:=by rw [y34 (a:=1) (by omega),y5p (a:=1) (by omega) (by omega)]
 have hp0:¬ p=0:=by omega
 unfold zm3 z5e
 rw [ze (by omega) (by omega),e]
 by_cases c:Int.tmod (i:Int) 2=0
 ·rw [yb c,y4 rfl,y4 rfl,y5 hp0]
 ·rw [ya c,y5 (by simp),y5 (by simp)]
theorem z1om {p:Int} (hp:2≤p∧p≤251) (i:Nat):1≤z5e p i∧z5e p i≤250:=by
 unfold z5e; split <;> omega
def z5f (p sg:Int) (m:Mat) (C C' top left a:Nat):Nat→List Int→List Int
 | 0,Q=>Q
 | b+1,Q=>(z5f p sg m C C' top left a b Q).set ((top+a)*C+left+b) (Int.tmod (z6 (m.2.2.2.getD (a*C'+b) 0*sg)) p)
theorem zp0 (p sg:Int) (m:Mat) (C C' top left a:Nat) (Q:List Int):∀ b,(z5f p sg m C C' top left a b Q).length=Q.length
 | 0=>rfl
 | b+1=>by unfold z5f; rw [List.length_set]; exact zp0 p sg m C C' top left a Q b
def z74 (p sg:Int) (m:Mat) (C C' top left:Nat):Nat→List Int→List Int
 | 0,Q=>Q
 | a+1,Q=>z5f p sg m C C' top left a C' (z74 p sg m C C' top left a Q)
theorem zp1 (p sg:Int) (m:Mat) (C C' top left:Nat) (Q:List Int):∀ a,(z74 p sg m C C' top left a Q).length=Q.length
 | 0=>rfl
 | a+1=>by unfold z74; rw [zp0]; exact zp1 p sg m C C' top left Q a
def z6f (s:She) (C j:Nat) (F:List Nat):Nat→List Int→List Int
 | 0,Q=>Q
 | i+1,Q=>z74 s.2.1 (z5e s.2.1 i) (mpS s j i) C (stN s (F.getD i 0)) (oN s j) (oN s (F.getD i 0)) (stN s j) (z6f s C j F i Q)
theorem zp2 (s:She) (C j:Nat) (F:List Nat) (Q:List Int):∀ i,(z6f s C j F i Q).length=Q.length
 | 0=>rfl
 | i+1=>by unfold z6f; rw [zp1]; exact zp2 s C j F Q i
def fcs (s:She) (j:Nat):List Nat:=zf s.1 (s.1.getD j [])
def z77 (s:She) (C:Nat) (O:List Nat):Nat→List Int→List Int
 | 0,Q=>Q
 | n+1,Q=>z6f s C (O.getD n 0) (fcs s (O.getD n 0)) (fcs s (O.getD n 0)).length (z77 s C O n Q)
theorem zp3 (s:She) (C:Nat) (O:List Nat) (Q:List Int):∀ n,(z77 s C O n Q).length=Q.length
 | 0=>rfl
 | n+1=>by unfold z77; rw [zp2]; exact zp3 s C O Q n
def inP (p:Int) (Q:List Int):Prop:=∀ x∈Q,0≤x∧x≤p-1
theorem z1on {p:Int} {Q:List Int} (h:inP p Q) {i:Nat} {v:Int} (hv:0≤v∧v≤p-1):inP p (Q.set i v):=fun x hx=>by
 rcases List.mem_or_eq_of_mem_set hx with h1 | h1
 ·exact h x h1
 ·rw [h1]; exact hv
theorem z1oo {p v:Int} (hp:2≤p) (hv:0≤v):0≤Int.tmod v p∧Int.tmod v p≤p-1:=by
 rw [y34 hv]
 have:=y3r v (show p≠0 by omega)
 have:=y3s v (show 0<p by omega)
 omega
theorem z16n {p:Int} (hp:2≤p∧p≤251) {sg:Int} (hs:1≤sg∧sg≤250) {m:Mat} {R' C':Nat} (hm:MatP m R' C') {C top left a:Nat} {Q:List Int} (h:inP p Q):∀ b,inP p (z5f p sg m C C' top left a b Q)
 | 0=>h
 | b+1=>by
  unfold z5f
  have hc:=zij hm (a*C'+b)
  have h1:0≤m.2.2.2.getD (a*C'+b) 0*sg:=y3j hc.1 (by omega)
  have h2:m.2.2.2.getD (a*C'+b) 0*sg≤250*250:=y4j hc.2 hs.2 (by omega) (by omega)
  refine z1on (z16n hp hs hm h b) ?_
  rw [ze (by omega) (by omega)]
  exact z1oo hp.1 h1
theorem z16o {p:Int} (hp:2≤p∧p≤251) {sg:Int} (hs:1≤sg∧sg≤250) {m:Mat} {R' C':Nat} (hm:MatP m R' C') {C top left:Nat} {Q:List Int} (h:inP p Q):∀ a,inP p (z74 p sg m C C' top left a Q)
 | 0=>h
 | a+1=>z16n hp hs hm (z16o hp hs hm h a) C'
theorem z16p {T a C Lf b R:Nat} (hR:R≤32) (hC:C≤32) (hT:T+a<R) (hL:Lf+b<C):z6 (z6 (z6 (z6 ((T:Int)+(a:Int))*(C:Int))+(Lf:Int))+(b:Int))=(((T+a)*C+Lf+b:Nat):Int)∧(T+a)*C+Lf+b<R*C:=by
 have h1:(T+a)*C≤32*32:=y1p (by omega) hC
 have e1:z6 ((T:Int)+(a:Int))=((T+a:Nat):Int):=by rw [ze (by omega) (by omega)]; omega
 have e2:z6 (((T+a:Nat):Int)*(C:Int))=(((T+a)*C:Nat):Int):=z6d (by omega) hC
 have e3:z6 ((((T+a)*C:Nat):Int)+(Lf:Int))=(((T+a)*C+Lf:Nat):Int):=by rw [ze (by omega) (by omega)]; omega
 have e4:z6 ((((T+a)*C+Lf:Nat):Int)+(b:Int))=(((T+a)*C+Lf+b:Nat):Int):=by rw [ze (by omega) (by omega)]; omega
 have h2:=zoo hT hL
 exact ⟨by rw [e1,e2,e3,e4],by omega⟩
theorem zta {m:Mat} {R' C':Nat} (hm:MatP m R' C') {a b:Nat} (ha:a<R') (hb:b<C'):z6 (z6 ((a:Int)*(C':Int))+(b:Int))=((a*C'+b:Nat):Int):=by
 have h1:=hm.r32
 have h2:=hm.c32
 have h3:a*C'≤32*32:=y1p (by omega) h2
 rw [z6d (by omega) h2,ze (by omega) (by omega)]
 omega
theorem z1op {k:Nat} (hk:KK≤k) {s:She} (hp:2≤s.2.1∧s.2.1≤251) {m:Mat} {R' C':Nat} (hm:MatP m R' C') {R C T Lf a i:Nat} (hR:R≤32) (hC:C≤32) (ha:a<R') (hT:T+R'≤R) (hL:Lf+C'≤C) {Q:List Int} (hQ:Q.length=R*C) (k1 x7 x30 x31 x41 x42 x58 x59:Int) (q1 q2 q3:List Int) (a1 a2 a3 b1 b2:Int) (E:Int→Int→Int→Int→Int→Int→Int→Int→Int→Int→Int→List Int→List Int→List Int→List Int→She→Int→Int→Int→Int→Int→Int→Mat→Option Mat) :
  zcg k k k1 x7 (i:Int) (T:Int) (Lf:Int) (a:Int) x30 x31 x41 x42 x58 x59 (C':Int) 0 q1 q2 q3 Q s a1 a2 a3 b1 b2 (C:Int) m E=E k1 x7 (i:Int) (T:Int) (Lf:Int) x30 x31 x41 x42 x58 x59 q1 q2 q3 (z5f s.2.1 (z5e s.2.1 i) m C C' T Lf a C' Q) s a1 a2 a3 b1 b2 (C:Int) m:=by
 have hK:=zg
 have hc32:=hm.c32
 refine z52 (S:=List Int) (L:=fun n b q=>zcg k n k1 x7 (i:Int) (T:Int) (Lf:Int) (a:Int) x30 x31 x41 x42 x58 x59 (C':Int) b q1 q2 q3 q s a1 a2 a3 b1 b2 (C:Int) m E) (b:=C') (st:=fun b=>z5f s.2.1 (z5e s.2.1 i) m C C' T Lf a b Q) ?_ ?_ (n:=k) (by omega)
 ·intro n b hb
  have hlt:(b:Int)<(C':Int):=by omega
  have hw:=zd (i:=b) (by omega)
  obtain ⟨ix,il⟩:=z16p (T:=T) (a:=a) (C:=C) (Lf:=Lf) (b:=b) hR hC (by omega) (by omega)
  have hin:(T+a)*C+Lf+b<(z5f s.2.1 (z5e s.2.1 i) m C C' T Lf a b Q).length:=by rw [zp0,hQ]; exact il
  have hg:=yj hin
  have hp0:¬ s.2.1=0:=by omega
  simp only [zcg,zi4,hm.cols,zta hm ha hb,zg9 hm ha hb,hlt,y9,y7,yg,ye,y6,z1ok hp,hp0,y8,ix,hin,yz,hg,hw,z5f]
 ·intro n
  simp only [zcg,yw,yf,yc,y8]
theorem z1oq {k:Nat} (hk:KK≤k) {s:She} (hp:2≤s.2.1∧s.2.1≤251) {m:Mat} {R' C':Nat} (hm:MatP m R' C') {R C T Lf a:Nat} (sg:Int) (hR:R≤32) (hC:C≤32) (ha:a<R') (hT:T+R'≤R) (hL:Lf+C'≤C) {Q:List Int} (hQ:Q.length=R*C) (k1 n7 i10:Int) (q1 q2 q3:List Int) (a1 a2 a3 b1 b2:Int) (E:She→Int→Int→Int→Int→Mat→Int→Int→Int→List Int→List Int→List Int→List Int→Int→Int→Int→Int→Int→Int→Option Mat) :
  zbv k k s k1 n7 (T:Int) i10 m (Lf:Int) sg (a:Int) 0 q1 q2 q3 Q a1 a2 a3 b1 b2 (C:Int) E=E s k1 n7 (T:Int) i10 m (Lf:Int) sg (a:Int) q1 q2 q3 (z5f s.2.1 sg m C C' T Lf a C' Q) a1 a2 a3 b1 b2 (C:Int):=by
 have hK:=zg
 have hc32:=hm.c32
 refine z52 (S:=List Int) (L:=fun n b q=>zbv k n s k1 n7 (T:Int) i10 m (Lf:Int) sg (a:Int) b q1 q2 q3 q a1 a2 a3 b1 b2 (C:Int) E) (b:=C') (st:=fun b=>z5f s.2.1 sg m C C' T Lf a b Q) ?_ ?_ (n:=k) (by omega)
 ·intro n b hb
  have hlt:(b:Int)<m.2.2.1:=by rw [hm.cols]; omega
  have hw:=zd (i:=b) (by omega)
  obtain ⟨ix,il⟩:=z16p (T:=T) (a:=a) (C:=C) (Lf:=Lf) (b:=b) hR hC (by omega) (by omega)
  have hin:(T+a)*C+Lf+b<(z5f s.2.1 sg m C C' T Lf a b Q).length:=by rw [zp0,hQ]; exact il
  have hg:=yj hin
  have hp0:¬ s.2.1=0:=by omega
  simp only [zbv,hlt,y9,y7]
  simp only [hm.cols,zta hm ha hb,zg9 hm ha hb,y9,y7,yg,ye,y6,hp0,y8,ix,hin,yz,hg,hw,z5f]
 ·intro n
  have hlt:¬ (C':Int)<m.2.2.1:=by rw [hm.cols]; omega
  simp only [zbv,hlt,yf,yc,y8]
theorem z1or {k:Nat} (hk:KK≤k) {s:She} (hp:2≤s.2.1∧s.2.1≤251) {m:Mat} {R' C':Nat} (hm:MatP m R' C') {R C T Lf i:Nat} (hR:R≤32) (hC:C≤32) (hT:T+R'≤R) (hL:Lf+C'≤C) {Q:List Int} (hQ:Q.length=R*C) (k1 x7 x30 x31 x41 x42:Int) (q1 q2 q3:List Int) (a1 a2 a3 b1 b2:Int) (E:Int→Int→Int→Int→Int→Int→List Int→List Int→List Int→List Int→She→Int→Int→Int→Int→Int→Int→Option Mat) :
  zch k k k1 x7 (i:Int) (T:Int) (Lf:Int) x30 x31 x41 x42 (R':Int) 0 q1 q2 q3 Q s a1 a2 a3 b1 b2 (C:Int) m E=E k1 x7 x30 x31 x41 x42 q1 q2 q3 (z74 s.2.1 (z5e s.2.1 i) m C C' T Lf R' Q) s a1 a2 a3 b1 b2 (C:Int):=by
 have hK:=zg
 have hr32:=hm.r32
 refine z52 (S:=List Int) (L:=fun n a q=>zch k n k1 x7 (i:Int) (T:Int) (Lf:Int) x30 x31 x41 x42 (R':Int) a q1 q2 q3 q s a1 a2 a3 b1 b2 (C:Int) m E) (b:=R') (st:=fun a=>z74 s.2.1 (z5e s.2.1 i) m C C' T Lf a Q) ?_ ?_ (n:=k) (by omega)
 ·intro n a ha
  have hlt:(a:Int)<(R':Int):=by omega
  have hw:=zd (i:=a) (by omega)
  simp only [zch,hlt,y9,y7]
  rw [hm.cols,z1op hk hp hm hR hC ha hT hL (by rw [zp1]; exact hQ)]
  simp only [hw,z74]
 ·intro n
  simp only [zch,yw,yf,yc,y8]
theorem z1os {k:Nat} (hk:KK≤k) {s:She} (hp:2≤s.2.1∧s.2.1≤251) {m:Mat} {R' C':Nat} (hm:MatP m R' C') {R C T Lf:Nat} (sg:Int) (hR:R≤32) (hC:C≤32) (hT:T+R'≤R) (hL:Lf+C'≤C) {Q:List Int} (hQ:Q.length=R*C) (k1 n7 i10:Int) (q1 q2 q3:List Int) (a1 a2 a3 b1 b2:Int) (E:She→Int→Int→Int→Int→List Int→List Int→List Int→List Int→Int→Int→Int→Int→Int→Int→Option Mat) :
  zbw k k s k1 n7 (T:Int) i10 m (Lf:Int) sg 0 q1 q2 q3 Q a1 a2 a3 b1 b2 (C:Int) E=E s k1 n7 (T:Int) i10 q1 q2 q3 (z74 s.2.1 sg m C C' T Lf R' Q) a1 a2 a3 b1 b2 (C:Int):=by
 have hK:=zg
 have hr32:=hm.r32
 refine z52 (S:=List Int) (L:=fun n a q=>zbw k n s k1 n7 (T:Int) i10 m (Lf:Int) sg a q1 q2 q3 q a1 a2 a3 b1 b2 (C:Int) E) (b:=R') (st:=fun a=>z74 s.2.1 sg m C C' T Lf a Q) ?_ ?_ (n:=k) (by omega)
 ·intro n a ha
  have hlt:(a:Int)<m.2.1:=by rw [hm.rows]; omega
  have hw:=zd (i:=a) (by omega)
  simp only [zbw,hlt,y9,y7]
  rw [z1oq hk hp hm sg hR hC ha hT hL (by rw [zp1]; exact hQ)]
  simp only [hw,z74]
 ·intro n
  have hlt:¬ (R':Int)<m.2.1:=by rw [hm.rows]; omega
  simp only [zbw,hlt,yf,yc,y8]
theorem z1ot {c:Cx} {d:Int} {j:Nat} (h:j∈ofC c d):∃ t,c[j]?=some t∧(t.length:Int)=d+1:=by
 have hl:=zg8 h
 have:=(y2n.1 h).2
 have hg:c[j]?=some c[j]:=yj hl
 rw [hg] at this
 exact ⟨c[j],hg,of_decide_eq_true this⟩
theorem zio {k:Nat} (hk:KK≤k) {s:She} (hs:smallSh s) (h:z1f k s=true) {d:Nat} (hd3:d≤3) {j:Nat} (hj:j∈ofC s.1 ((d:Int)+1)) {R C:Nat} (hR:zk s.2.2.1 (ofC s.1 ((d:Int)+1))=(R:Int)) (hC:zk s.2.2.1 (ofC s.1 (d:Int))=(C:Int)):∃ t,s.1[j]?=some t∧fcs s j=zf s.1 t∧(fcs s j).length=d+2∧oN s j+stN s j≤R ∧
  ∀ i,i<d+2→MatP (mpS s j i) (stN s j) (stN s ((fcs s j).getD i 0))∧(fcs s j)[i]?=some ((fcs s j).getD i 0)∧(∃ u,s.1[(fcs s j).getD i 0]?=some u)∧oN s ((fcs s j).getD i 0)+stN s ((fcs s j).getD i 0)≤C:=by
 obtain ⟨hCx,hp,hS⟩:=z27 hk h
 obtain ⟨t,ht,hl⟩:=z1ot hj
 have hl2:t.length=d+2:=by omega
 have hf:fcs s j=zf s.1 t:=by unfold fcs; rw [List.getD_eq_getElem?_getD,ht]; rfl
 have hfl:=z92 s.1 t
 rw [y4 (by omega),hl2] at hfl
 have o1:=zoz hS ht (d:=(d:Int)+1) hl
 refine ⟨t,ht,hf,by rw [hf]; exact hfl,by omega,fun i hi=>?_⟩
 rw [hf]
 have hF:(zf s.1 t).getD i 0=z2p s.1 (z11 t i):=by
  rw [y16]
  unfold zf z23
  rw [y4 (by omega),yu,yu,y26 (by omega)]; rfl
 have hmem:=hCx.face t (ym ht) (by omega) i (by omega)
 have hdl:=z90 (s:=t) (k:=i) (by omega)
 have hu:s.1[(zf s.1 t).getD i 0]?=some (z11 t i):=by rw [hF]; exact zg7 hmem
 have o2:=zoz hS hu (d:=(d:Int)) (by omega)
 have hg:(zf s.1 t)[i]?=some ((zf s.1 t).getD i 0):=by
  rw [y16,yj (by omega)]; rfl
 exact ⟨(zik hk hs h ht (by omega)).2,hg,⟨_,hu⟩,by omega⟩
theorem z1ou {k:Nat} (hk:KK≤k) {s:She} (hs:smallSh s) (h:z1f k s=true) {d:Nat} (hd3:d≤3) {j:Nat} (hj:j∈ofC s.1 ((d:Int)+1)) {R C:Nat} (hR:zk s.2.2.1 (ofC s.1 ((d:Int)+1))=(R:Int)) (hC:zk s.2.2.1 (ofC s.1 (d:Int))=(C:Int)) (hR2:R≤32) (hC2:C≤32) {Q:List Int} (hQ:Q.length=R*C) (k1 x30 x31:Int) (q1 q3:List Int) (a1 a2 a3 b1 b2:Int) (E:Int→Int→Int→List Int→List Int→List Int→She→Int→Int→Int→Int→Int→Int→Option Mat) :
  zci k k k1 (j:Int) x30 x31 ((fcs s j).length:Int) 0 q1 ((fcs s j).map fun i:Nat=>(i:Int)) q3 Q s a1 a2 a3 b1 b2 (C:Int) E=E k1 x30 x31 q1 q3 (z6f s C j (fcs s j) (fcs s j).length Q) s a1 a2 a3 b1 b2 (C:Int):=by
 have hK:=zg
 obtain ⟨hCx,hp,hS⟩:=z27 hk h
 obtain ⟨t,ht,hf,hl,hT,hface⟩:=zio hk hs h hd3 hj hR hC
 refine z52 (S:=List Int) (L:=fun n i q=>zci k n k1 (j:Int) x30 x31 ((fcs s j).length:Int) i q1 ((fcs s j).map fun i:Nat=>(i:Int)) q3 q s a1 a2 a3 b1 b2 (C:Int) E) (b:=(fcs s j).length) (st:=fun i=>z6f s C j (fcs s j) i Q) ?_ ?_ (n:=k) (by omega)
 ·intro n i hi
  have hlt:(i:Int)<((fcs s j).length:Int):=by omega
  have hw:=zd (i:=i) (by omega)
  obtain ⟨hm,hg,⟨u,hu⟩,hL⟩:=hface i (by omega)
  have hF:((fcs s j).map fun i:Nat=>(i:Int))[i]?=some (((fcs s j).getD i 0:Nat):Int):=by rw [yu,hg]; rfl
  have hd:=zsv hk hs h ht (i:=i) (by rw [← hf]; omega)
  have c1:=z16k hk hCx hS ht
  have c2:=z16k hk hCx hS hu
  simp only [zci,hlt,y9,y7,yg,ye,yp,hi,yz,hF,y6,hd,c1,c2]
  rw [hm.rows,z1or hk hp hm hR2 hC2 hT hL (by rw [zp2]; exact hQ)]
  simp only [hw,z6f]
 ·intro n
  simp only [zci,yw,yf,yc,y8]
theorem z1ov {k:Nat} (hk:KK≤k) {s:She} (hs:smallSh s) (h:z1f k s=true) {d:Nat} (hd3:d≤3) {j n7:Nat} (hj:j∈ofC s.1 ((d:Int)+1)) {R C:Nat} (hR:zk s.2.2.1 (ofC s.1 ((d:Int)+1))=(R:Int)) (hC:zk s.2.2.1 (ofC s.1 (d:Int))=(C:Int)) (hR2:R≤32) (hC2:C≤32) {Q:List Int} (hQ:Q.length=R*C) (k1:Int) (q1 q3:List Int) (hq:q1[n7]?=some (j:Int)) (a1 a2 a3 b1 b2:Int) (E:She→Int→Int→List Int→List Int→List Int→Int→Int→Int→Int→Int→Int→Option Mat) :
  zbx k k s k1 (n7:Int) (oN s j:Int) 0 q1 ((fcs s j).map fun i:Nat=>(i:Int)) q3 Q a1 a2 a3 b1 b2 (C:Int) E=E s k1 (n7:Int) q1 q3 (z6f s C j (fcs s j) (fcs s j).length Q) a1 a2 a3 b1 b2 (C:Int):=by
 have hK:=zg
 obtain ⟨hCx,hp,hS⟩:=z27 hk h
 obtain ⟨t,ht,hf,hl,hT,hface⟩:=zio hk hs h hd3 hj hR hC
 have hqn:n7<q1.length:=(yo.1 hq).1
 refine z52 (S:=List Int) (L:=fun n i q=>zbx k n s k1 (n7:Int) (oN s j:Int) i q1 ((fcs s j).map fun i:Nat=>(i:Int)) q3 q a1 a2 a3 b1 b2 (C:Int) E) (b:=(fcs s j).length) (st:=fun i=>z6f s C j (fcs s j) i Q) ?_ ?_ (n:=k) (by omega)
 ·intro n i hi
  have hlt:(i:Int)<((fcs s j).length:Int):=by omega
  have hw:=zd (i:=i) (by omega)
  obtain ⟨hm,hg,⟨u,hu⟩,hL⟩:=hface i (by omega)
  have hF:((fcs s j).map fun i:Nat=>(i:Int))[i]?=some (((fcs s j).getD i 0:Nat):Int):=by rw [yu,hg]; rfl
  have hd:=zoq hk hs h ht (i:=i) (by rw [← hf]; omega)
  have c2:=z16j hk hCx hS hu
  simp only [zbx,hlt,y9,y7,yg,ye,yp,hi,hqn,hq,yz,hF,y6,hd,c2,z1ol hp]
  rw [z1os hk hp hm (z5e s.2.1 i) hR2 hC2 hT hL (by rw [zp2]; exact hQ)]
  simp only [hw,z6f]
 ·intro n
  simp only [zbx,yp,yw,yf,yc,y8]
def zp4 (s:She) (d R C:Nat):Mat:=(s.2.1,(R:Int),(C:Int),z77 s C (ofC s.1 ((d:Int)+1)) (ofC s.1 ((d:Int)+1)).length (List.replicate (R*C) 0))
theorem z1ow {k:Nat} (hk:KK≤k) {s:She} (h:z1f k s=true) (d:Nat) (hd:d<4):∃ R:Nat,zk s.2.2.1 (ofC s.1 (d:Int))=(R:Int)∧R≤32:=by
 obtain ⟨hCx,hp,hS⟩:=z27 hk h
 have h1:=zag hS (ofC s.1 (d:Int)) (fun i hi=>zg8 hi)
 have h2:zk s.2.2.1 (ofC s.1 (d:Int))≤32:=by
  unfold z1f at h
  simp only [yh] at h
  have:=h.2.2.1
  unfold stB at this
  rw [yh,y17] at this
  exact of_decide_eq_true (this.2 d (y1a.2 hd))
 exact ⟨(zk s.2.2.1 (ofC s.1 (d:Int))).toNat,by omega,by omega⟩
theorem z1ox {k:Nat} (hk:KK≤k) {s:She} (hs:smallSh s) (h:z1f k s=true) {d:Nat} (hd3:d≤3) {R C:Nat} (hR:zk s.2.2.1 (ofC s.1 ((d:Int)+1))=(R:Int)) (hC:zk s.2.2.1 (ofC s.1 (d:Int))=(C:Int)) (hR2:R≤32) (hC2:C≤32):zck k s (d:Int)=some (zp4 s d R C):=by
 have hK:=zg
 obtain ⟨hCx,hp,hS⟩:=z27 hk h
 have hcl:=hCx.len
 have hol:=zok s.1 ((d:Int)+1)
 have w1:z6 ((d:Int)+1)=(d:Int)+1:=ze (by omega) (by omega)
 have hd0:¬ (d:Int)<0:=by omega
 have hd1:(0:Int)≤(d:Int):=by omega
 unfold zck
 simp only [w1,zcs hk (z42 hCx) hS (show -1000≤(d:Int)+1∧(d:Int)+1≤1000 by omega),zcs hk (z42 hCx) hS (show -1000≤(d:Int)∧(d:Int)≤1000 by omega),hR,hC,y6,z16l hk s.2.1 hR2 hC2,zol hk (z42 hCx) (show -1000≤(d:Int)+1∧(d:Int)+1≤1000 by omega),yp]
 refine z52 (S:=List Int) (L:=fun n i q=>zcj k n (d:Int) ((ofC s.1 ((d:Int)+1)).length:Int) i ((ofC s.1 ((d:Int)+1)).map fun i:Nat=>(i:Int)) [] q s 0 0 0 s.2.1 (R:Int) (C:Int) (fun q_23 q_24 v_4a_25 v_4ba_26 v_4bba_27 v_5a_28 v_5ba_29 v_5bba_30=>some (v_5a_28,(v_5ba_29,(v_5bba_30,q_24))))) (b:=(ofC s.1 ((d:Int)+1)).length) (st:=fun n=>z77 s C (ofC s.1 ((d:Int)+1)) n (List.replicate (R*C) 0)) ?_ ?_ (n:=k) (by omega)
 ·intro m n hn
  have hlt:(n:Int)<((ofC s.1 ((d:Int)+1)).length:Int):=by omega
  have hw:=zd (i:=n) (by omega)
  have hg:(ofC s.1 ((d:Int)+1))[n]?=some ((ofC s.1 ((d:Int)+1)).getD n 0):=by rw [y16,yj hn]; rfl
  have hmem:(ofC s.1 ((d:Int)+1)).getD n 0∈ofC s.1 ((d:Int)+1):=ym hg
  have hF:((ofC s.1 ((d:Int)+1)).map fun i:Nat=>(i:Int))[n]?=some (((ofC s.1 ((d:Int)+1)).getD n 0:Nat):Int):=by rw [yu,hg]; rfl
  obtain ⟨t,ht,hf,hl,hT,hface⟩:=zio hk hs h hd3 hmem hR hC
  have hfi:=zct hk hCx ht
  rw [← hf] at hfi
  simp only [zcj,hlt,y9,y7,yg,ye,yp,hn,yz,hF,y6,hd0,yf,yc,y8,hfi]
  rw [z1ou hk hs h hd3 hmem hR hC hR2 hC2 (by rw [zp3,y29])]
  simp only [hw,z77]
 ·intro m
  simp only [zcj,yw,yf,yc,y8]
  rfl
theorem z1oy {k:Nat} (hk:KK≤k) {s:She} (hs:smallSh s) (h:z1f k s=true) {d:Nat} (hd3:d≤3) {R C:Nat} (hR:zk s.2.2.1 (ofC s.1 ((d:Int)+1))=(R:Int)) (hC:zk s.2.2.1 (ofC s.1 (d:Int))=(C:Int)) (hR2:R≤32) (hC2:C≤32):zbz k s (d:Int)=some (zp4 s d R C):=by
 have hK:=zg
 obtain ⟨hCx,hp,hS⟩:=z27 hk h
 have hcl:=hCx.len
 have hol:=zok s.1 ((d:Int)+1)
 have w1:z6 ((d:Int)+1)=(d:Int)+1:=ze (by omega) (by omega)
 have hd0:¬ (d:Int)<0:=by omega
 have hd1:(0:Int)≤(d:Int):=by omega
 unfold zbz
 simp only [w1,zcr hk (z42 hCx) hS (show -1000≤(d:Int)+1∧(d:Int)+1≤1000 by omega),zcr hk (z42 hCx) hS (show -1000≤(d:Int)∧(d:Int)≤1000 by omega),hR,hC,y6,z16m s.2.1 hR2 hC2,zsm hk (z42 hCx) (show -1000≤(d:Int)+1∧(d:Int)+1≤1000 by omega)]
 refine z52 (S:=List Int) (L:=fun n i q=>zby k n s (d:Int) i ((ofC s.1 ((d:Int)+1)).map fun i:Nat=>(i:Int)) [] q 0 0 0 s.2.1 (R:Int) (C:Int) (fun q_24 q_25 v_4a_26 v_4ba_27 v_4bba_28 v_5a_29 v_5ba_30 v_5bba_31=>some (v_5a_29,(v_5ba_30,(v_5bba_31,q_25))))) (b:=(ofC s.1 ((d:Int)+1)).length) (st:=fun n=>z77 s C (ofC s.1 ((d:Int)+1)) n (List.replicate (R*C) 0)) ?_ ?_ (n:=k) (by omega)
 ·intro m n hn
  have hlt:(n:Int)<((ofC s.1 ((d:Int)+1)).length:Int):=by omega
  have hw:=zd (i:=n) (by omega)
  have hg:(ofC s.1 ((d:Int)+1))[n]?=some ((ofC s.1 ((d:Int)+1)).getD n 0):=by rw [y16,yj hn]; rfl
  have hmem:(ofC s.1 ((d:Int)+1)).getD n 0∈ofC s.1 ((d:Int)+1):=ym hg
  have hF:((ofC s.1 ((d:Int)+1)).map fun i:Nat=>(i:Int))[n]?=some (((ofC s.1 ((d:Int)+1)).getD n 0:Nat):Int):=by rw [yu,hg]; rfl
  obtain ⟨t,ht,hf,hl,hT,hface⟩:=zio hk hs h hd3 hmem hR hC
  have hfi:=zso hk hCx ht
  rw [← hf] at hfi
  have c1:=z16j hk hCx hS ht
  simp only [zby,hlt,y9,y7,yg,ye,yp,hn,yz,hF,y6,hd1,hfi,c1]
  rw [z1ov hk hs h hd3 hmem hR hC hR2 hC2 (by rw [zp3,y29]) _ _ _ hF]
  simp only [hw,z77]
 ·intro m
  simp only [zby,yp,yw,yf,yc,y8]
  rfl
theorem z16q {s:She} (hp:2≤s.2.1∧s.2.1≤251) {C j:Nat} {F:List Nat} {Q:List Int} (h:inP s.2.1 Q):∀ i,(∀ x,x<i→∃ R' C',MatP (mpS s j x) R' C'∧C'=stN s (F.getD x 0))→inP s.2.1 (z6f s C j F i Q)
 | 0,_=>h
 | i+1,hm=>by
  obtain ⟨R',C',h1,h2⟩:=hm i (by omega)
  unfold z6f
  rw [← h2]
  exact z16o hp (z1om hp i) h1 (z16q hp h i fun x hx=>hm x (by omega)) _
theorem z16r {k:Nat} (hk:KK≤k) {s:She} (hs:smallSh s) (h:z1f k s=true) {d:Nat} (hd3:d≤3) {R C:Nat} (hR:zk s.2.2.1 (ofC s.1 ((d:Int)+1))=(R:Int)) (hC:zk s.2.2.1 (ofC s.1 (d:Int))=(C:Int)) {Q:List Int} (hQ:inP s.2.1 Q):∀ n,n≤(ofC s.1 ((d:Int)+1)).length→inP s.2.1 (z77 s C (ofC s.1 ((d:Int)+1)) n Q)
 | 0,_=>hQ
 | n+1,hn=>by
  obtain ⟨hCx,hp,hS⟩:=z27 hk h
  have hg:(ofC s.1 ((d:Int)+1))[n]?=some ((ofC s.1 ((d:Int)+1)).getD n 0):=by rw [y16,yj (by omega)]; rfl
  obtain ⟨t,ht,hf,hl,hT,hface⟩:=zio hk hs h hd3 (ym hg) hR hC
  unfold z77
  exact z16q hp (z16r hk hs h hd3 hR hC hQ n (by omega)) _ fun x hx=>⟨_,_,(hface x (by omega)).1,rfl⟩
theorem z1oz {k:Nat} (hk:KK≤k) {s:She} (hs:smallSh s) (h:z1f k s=true) {d:Nat} (hd3:d≤3) {R C:Nat} (hR:zk s.2.2.1 (ofC s.1 ((d:Int)+1))=(R:Int)) (hC:zk s.2.2.1 (ofC s.1 (d:Int))=(C:Int)) (hR2:R≤32) (hC2:C≤32):MatP (zp4 s d R C) R C:=by
 obtain ⟨hCx,hp,hS⟩:=z27 hk h
 have hin:=z16r hk hs h hd3 hR hC (Q:=List.replicate (R*C) 0) (fun x hx=>by have:=y4c hx; subst this; omega) (ofC s.1 ((d:Int)+1)).length (yr _)
 exact ⟨rfl,rfl,hR2,hC2,by show (z77 _ _ _ _ _).length=_; rw [zp3,y29],hp,fun x hx=>by have:=hin x hx; omega,fun x hx=>by have:=hin x hx; show x<s.2.1; omega⟩
instance dec_Problem_1:DecidableEq (List UInt8×List UInt8):=inferInstance
instance dec_Problem:DecidableEq (Int×List UInt8×List UInt8):=inferInstance
def zan (a:Int×List UInt8×List UInt8):Nat:=(List.length (a.2.1))+(List.length (a.2.2))
instance dec_ProblemS:DecidableEq (List (Int×List UInt8×List UInt8)):=inferInstance
def z5g (a:List (Int×List UInt8×List UInt8)):Nat:=a.length+zp zan a
def apT (m:Mat) (v:List Int) (C i t:Nat):Int:=m.2.2.2.getD (i*C+t) 0*v.getD t 0
def z4p (m:Mat) (v:List Int) (C:Nat) (n:Nat):List Int:=(List.range n).map fun i=>z28 (apT m v C i) C % m.1
theorem z16s (m:Mat) (v:List Int) (C n:Nat):z4p m v C (n+1)=z4p m v C n++[z28 (apT m v C n) C % m.1]:=by
 unfold z4p; rw [List.range_succ,List.map_append]; rfl
theorem ztb (m:Mat) (v:List Int) (C n:Nat):(z4p m v C n).length=n:=by simp [z4p]
theorem zp5 {m:Mat} {R C:Nat} (hm:MatP m R C) {v:List Int} (hv:∀ x∈v,0≤x∧x≤m.1-1) (i t:Nat):0≤apT m v C i t∧apT m v C i t≤62500:=by
 have hp:=hm.prime
 have h1:=zij hm (i*C+t)
 have h2:0≤v.getD t 0∧v.getD t 0≤250:=by
  rw [y16]
  cases h:v[t]? with
  | none=>exact ⟨by simp,by simp⟩
  | some x=>have:=hv x (ym h); simp only [y5k]; omega
 unfold apT
 exact ⟨y3j h1.1 h2.1,Int.le_trans (y4j h1.2 h2.2 h2.1 (by omega)) (by omega)⟩
theorem z1p0 {k:Nat} (hk:KK≤k) {m:Mat} {R C:Nat} (hm:MatP m R C) {v:List Int} (hl:v.length=C) (hv:∀ x∈v,0≤x∧x≤m.1-1):znu k m v=some (z4p m v C R):=by
 have hK:=zg
 have hL:=z1q
 have hR:=hm.r32
 have hC:=hm.c32
 unfold znu
 rw [hm.rows]
 refine z52 (S:=List Int) (L:=fun n i q=>zfx k n v (R:Int) i q m (fun q_4=>some q_4)) (b:=R) (st:=z4p m v C) ?_ ?_ (n:=k) (by omega)
 ·intro n i hi
  have hlt:(i:Int)<(R:Int):=by omega
  have hw:=zd (i:=i) (by omega)
  have hrow:z7o m (i:Int)=some (z4k m.2.2.2 C i):=by
   have h1:(i+1)*C≤R*C:=y1z _ hi
   have h2:R*C≤32*32:=y1p hR hC
   have h3:(i+1)*C=i*C+C:=y2a _ _
   unfold z7o
   rw [hm.cols,z6d (by omega) hC,hw,z6d (i:=i+1) (by omega) hC,y4 ⟨by omega,by omega,by rw [hm.len]; omega⟩,ye,ye,show (i+1)*C-i*C=C by omega]
   rfl
  have hd:=z15z hk (K:=C) (zg6 hm.len hi) hl hC hm.prime (f:=apT m v C i) (fun t=>zp5 hm hv i t) (fun t x y hx hy=>by
   have h1:=zsu hm i t hx
   rw [h1]
   unfold apT
   rw [y16 (l:=v),hy]; rfl)
  have hlim:((z4p m v C i).length+1)*8≤LIM:=by rw [ztb]; omega
  simp only [zfx,hlt,y9,y7,hrow,hd,y6,yy,hlim,hw,z16s]
 ·intro n
  simp only [zfx,yw,yf,yc,y8]
theorem z1p1 {k:Nat} (hk:KK≤k) {m:Mat} {R C:Nat} (hm:MatP m R C) {v:List Int} (hl:v.length=C) (hv:∀ x∈v,0≤x∧x≤m.1-1):zm8 k m v=some (z4p m v C R):=by
 have hK:=zg
 have hL:=z1q
 have hR:=hm.r32
 have hC:=hm.c32
 have hp:=hm.prime
 unfold zm8
 have row:∀ (i:Nat),i<R→∀ (q:List Int) (E:Mat→List Int→Int→Int→List Int→Option (List Int)),zc0 k k m v (i:Int) 0 0 q E=E m v (i:Int) (z28 (apT m v C i) C) q:=by
  intro i hi q E
  refine z52 (S:=Int) (L:=fun n t z=>zc0 k n m v (i:Int) z t q E) (b:=C) (st:=z28 (apT m v C i)) ?_ ?_ (n:=k) (by omega)
  ·intro n t ht
   have hlt:(t:Int)<m.2.2.1:=by rw [hm.cols]; omega
   have hw:=zd (i:=t) (by omega)
   have hgv:v[t]?=some (v.getD t 0):=by rw [y16,yj (by omega)]; rfl
   have hb:=zp5 hm hv i t
   have hsum:=zii (zp5 hm hv i) t
   have w1:z6 (m.2.2.2.getD (i*C+t) 0*v.getD t 0)=apT m v C i t:=ze (x:=apT m v C i t) (by omega) (by omega)
   have w2:z6 (z28 (apT m v C i) t+apT m v C i t)=z28 (apT m v C i) t+apT m v C i t:=ze (by omega) (by omega)
   simp only [zc0,hlt,y9,y7]
   simp only [hm.cols,zta hm hi ht,zg9 hm hi ht,yg,y7,ye,y6,hgv,w1,w2,hw,z28]
  ·intro n
   have hlt:¬ (C:Int)<m.2.2.1:=by rw [hm.cols]; omega
   simp only [zc0,hlt,yf,yc,y8]
 refine z52 (S:=List Int) (L:=fun n i q=>zf5 k n m v i q (fun q_7=>some q_7)) (b:=R) (st:=z4p m v C) ?_ ?_ (n:=k) (by omega)
 ·intro n i hi
  have hlt:(i:Int)<m.2.1:=by rw [hm.rows]; omega
  have hw:=zd (i:=i) (by omega)
  have hlim:((z4p m v C i).length+1)*8≤LIM:=by rw [ztb]; omega
  have hp0:¬ m.1=0:=by omega
  have hsum:=zii (zp5 hm hv i) C
  have ht:Int.tmod (z28 (apT m v C i) C) m.1=z28 (apT m v C i) C % m.1:=y34 hsum.1
  simp only [zf5,hlt,y9,y7,row i hi,hp0,y8,yy,hlim,hw,ht,z16s]
 ·intro n
  have hlt:¬ (R:Int)<m.2.1:=by rw [hm.rows]; omega
  simp only [zf5,hlt,yf,yc,y8]
def nzB (v:List Int):Bool:=v.any fun x=>!decide (x=0)
theorem z1p2 {k:Nat} (hk:KK≤k) {v:List Int} (hl:v.length≤1048576):znv k v=some (!nzB v):=by
 have hK:=zg
 unfold znv zsb zsa nzB
 rw [zbg (L:=fun n i=>zfy k n v () (v.length:Int) i (some (-1))) (p:=fun x=>!decide (x=0)) v ?_ ?_ (n:=k) (by omega)]
 ·rw [y6,y6,zg5]
 ·intro n i x hi hlt
  have hw:=zd (i:=i) (by omega)
  simp only [zfy,zs9,hlt,y9,y7,yg,ye,hi,y6,hw]
 ·intro n
  simp [zfy]
theorem z1p3 {k:Nat} (hk:KK≤k) {v:List Int} (hl:v.length≤1048576):zm9 k v=some (!nzB v):=by
 have hK:=zg
 unfold zm9
 have:=z5w (L:=fun m i=>zf6 k m v i (some true)) (b:=v.length) (p:=fun i=>decide (v.getD i 0=0)) (r:=some false) (e:=some true) ?_ ?_ (n:=k) (by omega)
 ·rw [this]
  have e:(List.range v.length).all (fun i=>decide (v.getD i 0=0))=!nzB v:=by
   unfold nzB
   rw [y49,y17,y1h,y38]
   constructor
   ·intro h x hx
    obtain ⟨i,hi⟩:=y2w hx
    have hlt:=(yo.1 hi).1
    have:=h i (y1a.2 hlt)
    rw [y16,hi] at this
    simpa using this
   ·intro h i hi
    have hlt:=y1a.1 hi
    have:=h v[i] (y1l hlt)
    rw [y16,yj hlt]
    simpa using this
  rw [e]
  cases nzB v <;> rfl
 ·intro m i hi
  have hlt:(i:Int)<(v.length:Int):=by omega
  have hw:=zd (i:=i) (by omega)
  have hg:v[i]?=some (v.getD i 0):=by rw [y16,yj hi]; rfl
  simp only [zf6,hlt,y9,y7,yg,ye,hg,y6,hw]
  cases decide (v.getD i 0=0) <;> simp
 ·intro m
  simp only [zf6,yw,yf,yc,y8]
abbrev Pha:=Int×Int×List Edg
def z98 (x:Pha) (i:Nat):Bool:=match x.2.2[i]? with
 | some a=>!decide (a.1<0)&&(!decide (a.2.1≤a.1)&&(!decide (x.1≤a.2.1)&&(decide (0≤a.2.2∧a.2.2≤z6 (x.2.1-1))&&zgd x.2.2 i a)))
 | none=>false
def z7x (x:Pha):Bool:=decide (1≤x.1∧x.1≤12)&&(decide (2≤x.2.1∧x.2.1≤360)&&((List.range x.2.2.length).all (z98 x)&&decide (x.2.2.length≤24)))
theorem z1p4 {k:Nat} (hk:KK≤k) {x:Pha} (hn:x.2.2.length≤1048576):zlx k x=some (z7x x):=by
 have hK:=zg
 have e2:decide ((x.2.2.length:Int)≤24)=decide (x.2.2.length≤24):=decide_eq_decide.2 (by omega)
 unfold zlx z7x
 simp only [z7r,y6]
 by_cases c0:1≤x.1∧x.1≤12
 case neg=>simp [c0]
 by_cases c00:2≤x.2.1∧x.2.1≤360
 case neg=>simp [c0,c00]
 have hl:z8p k k x 0 (fun x_10=>some (decide ((List.length x_10.2.2:Int)≤24)))=if (List.range x.2.2.length).all (z98 x)=true then some (decide ((x.2.2.length:Int)≤24)) else some false:=by
  refine z5w (L:=fun m i=>z8p k m x i (fun x_10=>some (decide ((List.length x_10.2.2:Int)≤24)))) (b:=x.2.2.length) (p:=z98 x) (r:=some false) ?_ ?_ (n:=k) (by omega)
  ·intro m i hi
   have hlt:(i:Int)<(x.2.2.length:Int):=by omega
   have hw:=zd (i:=i) (by omega)
   have hg:x.2.2[i]?=some x.2.2[i]:=yj hi
   have wn:z6 (x.1-1)=x.1-1:=ze (by omega) (by omega)
   simp only [z8p,hlt,y9,y7,yg,ye,hg,y6,hw,z7r,z98,zgd,wn]
   generalize x.2.2[i]=a
   by_cases c1:0≤a.1∧a.1≤x.1-1
   case neg =>
    rw [ya c1,y4 (by simp),y5]
    intro h
    simp only [yh,y1h,decide_eq_false_iff_not] at h
    omega
   have wa:z6 (a.1+1)=a.1+1:=ze (by omega) (by omega)
   rw [wa,yb c1]
   simp only [y14,yc,y8]
   by_cases c2:a.1+1≤a.2.1∧a.2.1≤x.1-1
   case neg =>
    rw [ya c2,y4 (by simp),y5]
    intro h
    simp only [yh,y1h,decide_eq_false_iff_not] at h
    omega
   rw [yb c2,ya (show ¬ a.1<0 by omega),ya (show ¬ a.2.1≤a.1 by omega),ya (show ¬ x.1≤a.2.1 by omega)]
   simp only [y14,y2j,yc,y8,y1m]
   by_cases c4:0≤a.2.2∧a.2.2≤z6 (x.2.1-1)
   case neg=>simp [c4]
   rw [yb c4]
   simp only [y14,y2j,yc,y8,y1m]
   by_cases h0:0<i
   ·have h0':(0:Int)<(i:Int):=by omega
    have hw1:z6 ((i:Int)-1)=((i-1:Nat):Int):=by rw [ze (by omega) (by omega)]; omega
    have hg1:x.2.2[i-1]?=some x.2.2[i-1]:=yj (by omega)
    simp only [h0',h0,y9,y7,hw1,yg,ye,hg1,y6]
    generalize x.2.2[i-1]=t
    unfold zcx
    by_cases d1:a.1<t.1
    ·have:¬ (t.1<a.1∨t.1=a.1∧t.2.1<a.2.1):=by omega
     rw [yb d1,y4 rfl,ya this,y5 (by simp)]
    ·rw [ya d1,y5 (by simp)]
     by_cases d2:t.1=a.1
     ·rw [yb d2,y4 rfl]
      by_cases d3:a.2.1≤t.2.1
      ·have:¬ (t.1<a.1∨t.1=a.1∧t.2.1<a.2.1):=by omega
       rw [yb d3,y4 rfl,ya this,y5 (by simp)]
      ·have:(t.1<a.1∨t.1=a.1∧t.2.1<a.2.1):=by omega
       rw [ya d3,y5 (by simp),yb this,y4 rfl]
     ·have:(t.1<a.1∨t.1=a.1∧t.2.1<a.2.1):=by omega
      rw [ya d2,y5 (by simp),yb this,y4 rfl]
   ·have h0':¬ (0:Int)<(i:Int):=by omega
    simp [h0,h0']
  ·intro m
   simp only [z8p,yw,yf,yc,y8]
 rw [hl,e2,yb c0,yb c00]
 cases (List.range x.2.2.length).all (z98 x) <;> simp
theorem z1p5 {k:Nat} (hk:KK≤k) {x:Pha} (hn:x.2.2.length≤1048576):zn7 k x=some (z7x x):=by
 have hK:=zg
 have e2:decide ((x.2.2.length:Int)≤24)=decide (x.2.2.length≤24):=decide_eq_decide.2 (by omega)
 have hE:((z3z x.1 1 12).bind fun r_9=>(if r_9=true then (z3z x.2.1 2 360).bind fun r_10=>(if r_10=true then some (decide ((List.length x.2.2:Int)≤24)) else some false) else some false))=some (decide (1≤x.1∧x.1≤12)&&(decide (2≤x.2.1∧x.2.1≤360)&&decide (x.2.2.length≤24))):=by
  simp only [z6x,y6,e2]
  by_cases c1:1≤x.1∧x.1≤12
  case neg=>simp [c1]
  by_cases c2:2≤x.2.1∧x.2.1≤360
  case neg=>simp [c1,c2]
  simp [c1,c2]
 unfold zn7
 have hl:∀ E:Pha→Option Bool,za8 k k x.2.2 (x.2.2.length:Int) 0 x E=if (List.range x.2.2.length).all (z98 x)=true then E x else some false:=by
  intro E
  refine z5w (L:=fun m i=>za8 k m x.2.2 (x.2.2.length:Int) i x E) (b:=x.2.2.length) (p:=z98 x) (r:=some false) ?_ ?_ (n:=k) (by omega)
  ·intro m i hi
   have hlt:(i:Int)<(x.2.2.length:Int):=by omega
   have hw:=zd (i:=i) (by omega)
   have hg:x.2.2[i]?=some x.2.2[i]:=yj hi
   simp only [za8,z5x,hlt,y9,y7,yg,ye,hg,y6,hw,z6x,z98,zgd]
   generalize x.2.2[i]=a
   by_cases c1:a.1<0
   case pos=>simp [c1]
   by_cases c2:a.2.1≤a.1
   case pos=>simp [c1,c2]
   by_cases c3:x.1≤a.2.1
   case pos=>simp [c1,c2,c3]
   by_cases c4:0≤a.2.2∧a.2.2≤z6 (x.2.1-1)
   case neg=>simp [c1,c2,c3,c4]
   rw [ya c1,ya c2,ya c3,yb c4]
   simp only [y14,y2j,yc,y8,y1m]
   by_cases h0:0<i
   ·have h0':(0:Int)<(i:Int):=by omega
    have hw1:z6 ((i:Int)-1)=((i-1:Nat):Int):=by rw [ze (by omega) (by omega)]; omega
    have hg1:x.2.2[i-1]?=some x.2.2[i-1]:=yj (by omega)
    simp only [h0',h0,y9,y7,hw1,yg,ye,hg1,y6,zsk,zsl hk,z16e]
    generalize x.2.2[i-1]=t
    cases zcx t a <;> simp
   ·have h0':¬ (0:Int)<(i:Int):=by omega
    simp [h0,h0']
  ·intro m
   simp only [za8,yw,yf,yc,y8]
 rw [hl,hE]
 unfold z7x
 cases (List.range x.2.2.length).all (z98 x) <;> simp
abbrev Wrk:=She×Int×List Int×List Int×Net×List Int×List Int×Pha×List Int
structure smallW (w:Wrk):Prop where
 sh:smallSh w.1
 cl:w.2.2.1.length≤1048576
 rd:w.2.2.2.1.length≤1048576
 net:w.2.2.2.2.1.2.2.2.length≤1048576
 pha:w.2.2.2.2.2.2.2.1.2.2.length≤1048576
 ang:w.2.2.2.2.2.2.2.2.length≤1048576
noncomputable def zao (k:Nat) (w:Wrk):Bool:=z1f k w.1&&(decide (0≤w.2.1∧w.2.1≤3)&&(z4n w.2.2.1 (zk w.1.2.2.1 (ofC w.1.1 w.2.1)) w.1.2.1&&(z4n w.2.2.2.1 (zk w.1.2.2.1 (ofC w.1.1 0)) w.1.2.1&&(zal w.2.2.2.2.1&&(z7x w.2.2.2.2.2.2.2.1&&z4n w.2.2.2.2.2.2.2.2 w.2.2.2.2.2.2.2.1.1 w.2.2.2.2.2.2.2.1.2.1)))))
theorem z16t {x:Pha} (h:z7x x=true):(1≤x.1∧x.1≤12)∧(2≤x.2.1∧x.2.1≤360):=by
 unfold z7x at h
 simp only [yh,y1d] at h
 exact ⟨h.1,h.2.1⟩
theorem z1p6 {k:Nat} (hk:KK≤k) {w:Wrk} (hs:smallW w):zly k w=some (zao k w):=by
 unfold zly zao zr9 zra
 rw [z1nk hk hs.sh]
 cases h1:z1f k w.1 with
 | false=>simp
 | true =>
  obtain ⟨hC,hp,hS⟩:=z27 hk h1
  have hsc:=z42 hC
  simp only [y6,y14,yc,y8,z7r,y1m]
  by_cases c2:0≤w.2.1∧w.2.1≤3
  case neg=>simp [c2]
  have hp' : -1000000≤w.1.2.1∧w.1.2.1≤1000000:=by omega
  have hc1:z6w k w.2.2.1 (zk w.1.2.2.1 (ofC w.1.1 w.2.1)) w.1.2.1=some (z4n w.2.2.1 (zk w.1.2.2.1 (ofC w.1.1 w.2.1)) w.1.2.1):=zia hk hs.cl _ hp'
  have hc2:z6w k w.2.2.2.1 (zk w.1.2.2.1 (ofC w.1.1 0)) w.1.2.1=some (z4n w.2.2.2.1 (zk w.1.2.2.1 (ofC w.1.1 0)) w.1.2.1):=zia hk hs.rd _ hp'
  rw [yb c2,zcr hk hsc hS (by omega),zcr hk hsc hS (by omega)]
  simp only [y6,y14,yc,y8,hc1,hc2,z1ob hk hs.net,z1p4 hk hs.pha,y1m]
  cases z4n w.2.2.1 (zk w.1.2.2.1 (ofC w.1.1 w.2.1)) w.1.2.1 with
  | false=>simp
  | true =>
  cases z4n w.2.2.2.1 (zk w.1.2.2.1 (ofC w.1.1 0)) w.1.2.1 with
  | false=>simp
  | true =>
  cases zal w.2.2.2.2.1 with
  | false=>simp
  | true =>
  cases h5:z7x w.2.2.2.2.2.2.2.1 with
  | false=>simp
  | true =>
   obtain ⟨g1,g2⟩:=z16t h5
   have hc3:z6w k w.2.2.2.2.2.2.2.2 w.2.2.2.2.2.2.2.1.1 w.2.2.2.2.2.2.2.1.2.1=some (z4n w.2.2.2.2.2.2.2.2 w.2.2.2.2.2.2.2.1.1 w.2.2.2.2.2.2.2.1.2.1):=zia hk hs.ang _ (by omega)
   simp only [y14,yc,y8,y7,hc3,y6,y1m]
theorem z1p7 {k:Nat} (hk:KK≤k) {w:Wrk} (hs:smallW w):zn8 k w=some (zao k w):=by
 unfold zn8 zao zrv zrw
 rw [z1nl hk hs.sh]
 cases h1:z1f k w.1 with
 | false=>simp
 | true =>
  obtain ⟨hC,hp,hS⟩:=z27 hk h1
  have hsc:=z42 hC
  simp only [y6,y14,yc,y8,z6x,y1m]
  by_cases c2:0≤w.2.1∧w.2.1≤3
  case neg=>simp [c2]
  have hp' : -1000000≤w.1.2.1∧w.1.2.1≤1000000:=by omega
  rw [yb c2,zcs hk hsc hS (by omega),zcs hk hsc hS (by omega)]
  simp only [y6,y14,yc,y8,zst hk hs.cl _ hp',zst hk hs.rd _ hp',z1oc hk hs.net,z1p5 hk hs.pha,y1m]
  cases zal w.2.2.2.2.1 with
  | false=>simp
  | true =>
  cases h5:z7x w.2.2.2.2.2.2.2.1 with
  | false=>simp
  | true =>
  obtain ⟨g1,g2⟩:=z16t h5
  simp only [y14,yc,y8,zst hk hs.ang w.2.2.2.2.2.2.2.1.1 (p:=w.2.2.2.2.2.2.2.1.2.1) (by omega),y6]
  cases z4n w.2.2.1 (zk w.1.2.2.1 (ofC w.1.1 w.2.1)) w.1.2.1 with
  | false=>simp
  | true =>
  cases z4n w.2.2.2.1 (zk w.1.2.2.1 (ofC w.1.1 0)) w.1.2.1 with
  | false=>simp
  | true=>simp
instance dec_Int64S:DecidableEq (List Int):=inferInstance
def zi (a:List Int):Nat:=a.length
theorem zap {a:List Int} {e0:TypeId} {left:Int} (h0:0≤left) (h1:left≤1048576) (h:InR (.sl e0 (.int .i64)) a):z6s a left=some (if (zi a:Int)≤left then left-(zi a:Int) else -1):=by
 have hl:a.length≤140737488351232:=h.1
 have hs:zi a=a.length:=rfl
 unfold z6s
 rw [hs,ze (by omega) (by omega)]
 by_cases c:(a.length:Int)≤left
 ·rw [ya (by omega),y5 (by simp),y4 c]
 ·rw [yb (by omega),y4 rfl,y5 c]
instance dec_Int64SS:DecidableEq (List (List Int)):=inferInstance
def z3k (a:List (List Int)):Nat:=a.length+zp zi a
theorem z1p8 {k:Nat} (hk:KK≤k) {a:List (List Int)} {e0 e1:TypeId} {left:Int} (h0:0≤left) (h1:left≤1048576) (h:InR (.sl e0 (.sl e1 (.int .i64))) a):zkk k a left=some (if (z3k a:Int)≤left then left-(z3k a:Int) else -1):=by
 have hl:a.length≤140737488351232:=h.1
 have hs:z3k a=a.length+zp zi a:=rfl
 have hK:=zg
 unfold zkk
 rw [hs,ze (by omega) (by omega)]
 by_cases c:(a.length:Int)≤left
 ·rw [ya (by omega),y5 (by simp)]
  refine Eq.trans (z16f (L:=fun n i r=>ze6 k n a r i fun r=>some r) (s:=zi) a ?_ ?_ (n:=k) (by omega) (r:=left-(a.length:Int)) (by omega) (by omega)) ?_
  ·intro n i x r hi hlt hm r0 r1
   have hw:=zd (i:=i) (by omega)
   have hx:=zap (a:=x) r0 r1 (h.2 x hm)
   simp only [ze6,hlt,y9,y7,yg,ye,hi,y6,hw,hx]
   by_cases c2:(zi x:Int)≤r
   ·rw [y4 c2,ya (by omega),y5 (by simp),y4 c2]
   ·rw [y5 c2,yb (by omega),y4 rfl,y5 c2]
  ·intro n r
   simp [ze6]
  ·by_cases c2:(zp zi a:Int)≤left-(a.length:Int)
   ·rw [y4 c2,y4 (by omega)]; congr 1; omega
   ·rw [y5 c2,y5 (by omega)]
 ·rw [yb (by omega),y4 rfl,y5 (by omega)]
instance dec_Complex:DecidableEq (List (List Int)):=inferInstance
def z4q (a:List (List Int)):Nat:=(z3k a)
theorem z1p9 {k:Nat} (hk:KK≤k) {a:List (List Int)} {e0 e1:TypeId} {left:Int} (h0:0≤left) (h1:left≤1048576) (h:InR (.st (.sl e0 (.sl e1 (.int .i64)))) a):zkl k a left=some (if (z4q a:Int)≤left then left-(z4q a:Int) else -1):=by
 have hs:z4q a=(z3k a):=rfl
 unfold zkl
 rw [hs]
 have q0:=z1p8 hk (a:=a) (left:=left) (by omega) (by omega) h
 rw [q0]
 by_cases c0:((z3k a):Int)≤left
 case neg=>rw [y5 c0]; simp only [y6]; rw [yb (by omega),y4 rfl]
 rw [y4 c0]; simp only [y6]
 rw [ya (by omega),y5 (by simp)]
instance dec_Matrix_2:DecidableEq (Int×List Int):=inferInstance
instance dec_Matrix_1:DecidableEq (Int×Int×List Int):=inferInstance
instance dec_Matrix:DecidableEq (Int×Int×Int×List Int):=inferInstance
def z2m (a:Int×Int×Int×List Int):Nat:=(zi (a.2.2.2))
theorem z1pa {a:Int×Int×Int×List Int} {e0:TypeId} {left:Int} (h0:0≤left) (h1:left≤1048576) (h:InR (.st (.pr (.int .i64) (.pr (.int .i64) (.pr (.int .i64) (.sl e0 (.int .i64)))))) a):zkm a left=some (if (z2m a:Int)≤left then left-(z2m a:Int) else -1):=by
 have hs:z2m a=(zi (a.2.2.2)):=rfl
 unfold zkm
 rw [hs]
 have q0:=zap (a:=a.2.2.2) (left:=left) (by omega) (by omega) h.2.2.2
 rw [q0]
 by_cases c0:((zi (a.2.2.2)):Int)≤left
 case neg=>rw [y5 c0]; simp only [y6]; rw [yb (by omega),y4 rfl]
 rw [y4 c0]; simp only [y6]
 rw [ya (by omega),y5 (by simp)]
instance dec_MatrixS:DecidableEq (List (Int×Int×Int×List Int)):=inferInstance
def z3l (a:List (Int×Int×Int×List Int)):Nat:=a.length+zp z2m a
theorem z1pb {k:Nat} (hk:KK≤k) {a:List (Int×Int×Int×List Int)} {e0 e1:TypeId} {left:Int} (h0:0≤left) (h1:left≤1048576) (h:InR (.sl e0 (.st (.pr (.int .i64) (.pr (.int .i64) (.pr (.int .i64) (.sl e1 (.int .i64))))))) a):zkn k a left=some (if (z3l a:Int)≤left then left-(z3l a:Int) else -1):=by
 have hl:a.length≤140737488351232:=h.1
 have hs:z3l a=a.length+zp z2m a:=rfl
 have hK:=zg
 unfold zkn
 rw [hs,ze (by omega) (by omega)]
 by_cases c:(a.length:Int)≤left
 ·rw [ya (by omega),y5 (by simp)]
  refine Eq.trans (z16f (L:=fun n i r=>ze7 k n a r i fun r=>some r) (s:=z2m) a ?_ ?_ (n:=k) (by omega) (r:=left-(a.length:Int)) (by omega) (by omega)) ?_
  ·intro n i x r hi hlt hm r0 r1
   have hw:=zd (i:=i) (by omega)
   have hx:=z1pa (a:=x) r0 r1 (h.2 x hm)
   simp only [ze7,hlt,y9,y7,yg,ye,hi,y6,hw,hx]
   by_cases c2:(z2m x:Int)≤r
   ·rw [y4 c2,ya (by omega),y5 (by simp),y4 c2]
   ·rw [y5 c2,yb (by omega),y4 rfl,y5 c2]
  ·intro n r
   simp [ze7]
  ·by_cases c2:(zp z2m a:Int)≤left-(a.length:Int)
   ·rw [y4 c2,y4 (by omega)]; congr 1; omega
   ·rw [y5 c2,y5 (by omega)]
 ·rw [yb (by omega),y4 rfl,y5 (by omega)]
instance dec_Sheaf_2:DecidableEq (List Int×(List (Int×Int×Int×List Int))):=inferInstance
instance dec_Sheaf_1:DecidableEq (Int×List Int×(List (Int×Int×Int×List Int))):=inferInstance
instance dec_Sheaf:DecidableEq (List (List Int)×Int×List Int×(List (Int×Int×Int×List Int))):=inferInstance
def z1k (a:List (List Int)×Int×List Int×(List (Int×Int×Int×List Int))):Nat:=(z4q (a.1))+(zi (a.2.2.1))+(z3l (a.2.2.2))
theorem z1pc {k:Nat} (hk:KK≤k) {a:List (List Int)×Int×List Int×(List (Int×Int×Int×List Int))} {e0 e1 e2 e3 e4:TypeId} {left:Int} (h0:0≤left) (h1:left≤1048576) (h:InR (.st (.pr (.st (.sl e0 (.sl e1 (.int .i64)))) (.pr (.int .i64) (.pr (.sl e2 (.int .i64)) (.sl e3 (.st (.pr (.int .i64) (.pr (.int .i64) (.pr (.int .i64) (.sl e4 (.int .i64))))))))))) a):zko k a left=some (if (z1k a:Int)≤left then left-(z1k a:Int) else -1):=by
 have hs:z1k a=(z4q (a.1))+(zi (a.2.2.1))+(z3l (a.2.2.2)):=rfl
 unfold zko
 rw [hs]
 have q0:=z1p9 hk (a:=a.1) (left:=left) (by omega) (by omega) h.1
 rw [q0]
 by_cases c0:((z4q (a.1)):Int)≤left
 case neg=>rw [y5 c0]; simp only [y6]; rw [yb (by omega),y4 rfl,y5 (by omega)]
 rw [y4 c0]; simp only [y6]
 rw [ya (by omega),y5 (by simp)]
 have q1:=zap (a:=a.2.2.1) (left:=left-((z4q (a.1)):Int)) (by omega) (by omega) h.2.2.1
 rw [q1]
 by_cases c1:((zi (a.2.2.1)):Int)≤left-((z4q (a.1)):Int)
 case neg=>rw [y5 c1]; simp only [y6]; rw [yb (by omega),y4 rfl,y5 (by omega)]
 rw [y4 c1]; simp only [y6]
 rw [ya (by omega),y5 (by simp)]
 have q2:=z1pb hk (a:=a.2.2.2) (left:=left-((z4q (a.1)):Int)-((zi (a.2.2.1)):Int)) (by omega) (by omega) h.2.2.2
 rw [q2]
 by_cases c2:((z3l (a.2.2.2)):Int)≤left-((z4q (a.1)):Int)-((zi (a.2.2.1)):Int)
 case neg=>rw [y5 c2]; simp only [y6]; rw [yb (by omega),y4 rfl,y5 (by omega)]
 rw [y4 c2]; simp only [y6]
 rw [ya (by omega),y5 (by simp)]
 rw [y4 (by omega)]; congr 1; omega
theorem z1pd {s:She} (h:z1k s≤1048576):smallSh s:=by
 have e:z1k s=s.1.length+zp List.length s.1+s.2.2.1.length+(s.2.2.2.length+zp z2m s.2.2.2):=rfl
 refine ⟨⟨by omega,fun x hx=>by have:=z97 List.length hx; omega⟩,by omega,by omega,fun m hm=>?_⟩
 have h1:=z97 z2m hm
 have h2:z2m m=m.2.2.2.length:=rfl
 omega
instance dec_ArcS:DecidableEq (List (Int×Int×Int)):=inferInstance
def z5h (a:List (Int×Int×Int)):Nat:=a.length
theorem z1pe {a:List (Int×Int×Int)} {e0:TypeId} {left:Int} (h0:0≤left) (h1:left≤1048576) (h:InR (.sl e0 (.st (.pr (.int .i64) (.pr (.int .i64) (.int .i64))))) a):zkp a left=some (if (z5h a:Int)≤left then left-(z5h a:Int) else -1):=by
 have hl:a.length≤140737488351232:=h.1
 have hs:z5h a=a.length:=rfl
 unfold zkp
 rw [hs,ze (by omega) (by omega)]
 by_cases c:(a.length:Int)≤left
 ·rw [ya (by omega),y5 (by simp),y4 c]
 ·rw [yb (by omega),y4 rfl,y5 c]
instance dec_Network_2:DecidableEq (Int×(List (Int×Int×Int))):=inferInstance
instance dec_Network_1:DecidableEq (Int×Int×(List (Int×Int×Int))):=inferInstance
instance dec_Network:DecidableEq (Int×Int×Int×(List (Int×Int×Int))):=inferInstance
def z3b (a:Int×Int×Int×(List (Int×Int×Int))):Nat:=(z5h (a.2.2.2))
theorem z1pf {a:Int×Int×Int×(List (Int×Int×Int))} {e0:TypeId} {left:Int} (h0:0≤left) (h1:left≤1048576) (h:InR (.st (.pr (.int .i64) (.pr (.int .i64) (.pr (.int .i64) (.sl e0 (.st (.pr (.int .i64) (.pr (.int .i64) (.int .i64))))))))) a):zkq a left=some (if (z3b a:Int)≤left then left-(z3b a:Int) else -1):=by
 have hs:z3b a=(z5h (a.2.2.2)):=rfl
 unfold zkq
 rw [hs]
 have q0:=z1pe (a:=a.2.2.2) (left:=left) (by omega) (by omega) h.2.2.2
 rw [q0]
 by_cases c0:((z5h (a.2.2.2)):Int)≤left
 case neg=>rw [y5 c0]; simp only [y6]; rw [yb (by omega),y4 rfl]
 rw [y4 c0]; simp only [y6]
 rw [ya (by omega),y5 (by simp)]
instance dec_TurnS:DecidableEq (List (Int×Int×Int)):=inferInstance
def z5i (a:List (Int×Int×Int)):Nat:=a.length
theorem z1pg {a:List (Int×Int×Int)} {e0:TypeId} {left:Int} (h0:0≤left) (h1:left≤1048576) (h:InR (.sl e0 (.st (.pr (.int .i64) (.pr (.int .i64) (.int .i64))))) a):zkr a left=some (if (z5i a:Int)≤left then left-(z5i a:Int) else -1):=by
 have hl:a.length≤140737488351232:=h.1
 have hs:z5i a=a.length:=rfl
 unfold zkr
 rw [hs,ze (by omega) (by omega)]
 by_cases c:(a.length:Int)≤left
 ·rw [ya (by omega),y5 (by simp),y4 c]
 ·rw [yb (by omega),y4 rfl,y5 c]
instance dec_Phases_1:DecidableEq (Int×(List (Int×Int×Int))):=inferInstance
instance dec_Phases:DecidableEq (Int×Int×(List (Int×Int×Int))):=inferInstance
def z5j (a:Int×Int×(List (Int×Int×Int))):Nat:=(z5i (a.2.2))
theorem z1ph {a:Int×Int×(List (Int×Int×Int))} {e0:TypeId} {left:Int} (h0:0≤left) (h1:left≤1048576) (h:InR (.st (.pr (.int .i64) (.pr (.int .i64) (.sl e0 (.st (.pr (.int .i64) (.pr (.int .i64) (.int .i64)))))))) a):zks a left=some (if (z5j a:Int)≤left then left-(z5j a:Int) else -1):=by
 have hs:z5j a=(z5i (a.2.2)):=rfl
 unfold zks
 rw [hs]
 have q0:=z1pg (a:=a.2.2) (left:=left) (by omega) (by omega) h.2.2
 rw [q0]
 by_cases c0:((z5i (a.2.2)):Int)≤left
 case neg=>rw [y5 c0]; simp only [y6]; rw [yb (by omega),y4 rfl]
 rw [y4 c0]; simp only [y6]
 rw [ya (by omega),y5 (by simp)]
instance dec_Work_7:DecidableEq ((Int×Int×(List (Int×Int×Int)))×List Int):=inferInstance
instance dec_Work_6:DecidableEq (List Int×(Int×Int×(List (Int×Int×Int)))×List Int):=inferInstance
instance dec_Work_5:DecidableEq (List Int×List Int×(Int×Int×(List (Int×Int×Int)))×List Int):=inferInstance
instance dec_Work_4:DecidableEq ((Int×Int×Int×(List (Int×Int×Int)))×List Int×List Int×(Int×Int×(List (Int×Int×Int)))×List Int):=inferInstance
instance dec_Work_3:DecidableEq (List Int×(Int×Int×Int×(List (Int×Int×Int)))×List Int×List Int×(Int×Int×(List (Int×Int×Int)))×List Int):=inferInstance
instance dec_Work_2:DecidableEq (List Int×List Int×(Int×Int×Int×(List (Int×Int×Int)))×List Int×List Int×(Int×Int×(List (Int×Int×Int)))×List Int):=inferInstance
instance dec_Work_1:DecidableEq (Int×List Int×List Int×(Int×Int×Int×(List (Int×Int×Int)))×List Int×List Int×(Int×Int×(List (Int×Int×Int)))×List Int):=inferInstance
instance dec_Work:DecidableEq ((List (List Int)×Int×List Int×(List (Int×Int×Int×List Int)))×Int×List Int×List Int×(Int×Int×Int×(List (Int×Int×Int)))×List Int×List Int×(Int×Int×(List (Int×Int×Int)))×List Int):=inferInstance
def z24 (a:(List (List Int)×Int×List Int×(List (Int×Int×Int×List Int)))×Int×List Int×List Int×(Int×Int×Int×(List (Int×Int×Int)))×List Int×List Int×(Int×Int×(List (Int×Int×Int)))×List Int):Nat:=(z1k (a.1))+(zi (a.2.2.1))+(zi (a.2.2.2.1))+(z3b (a.2.2.2.2.1))+(zi (a.2.2.2.2.2.1))+(zi (a.2.2.2.2.2.2.1))+(z5j (a.2.2.2.2.2.2.2.1))+(zi (a.2.2.2.2.2.2.2.2))
theorem z1pi {k:Nat} (hk:KK≤k) {a:(List (List Int)×Int×List Int×(List (Int×Int×Int×List Int)))×Int×List Int×List Int×(Int×Int×Int×(List (Int×Int×Int)))×List Int×List Int×(Int×Int×(List (Int×Int×Int)))×List Int} {e0 e1 e2 e3 e4 e5 e6 e7 e8 e9 e10 e11:TypeId} {left:Int} (h0:0≤left) (h1:left≤1048576) (h:InR (.st (.pr (.st (.pr (.st (.sl e0 (.sl e1 (.int .i64)))) (.pr (.int .i64) (.pr (.sl e2 (.int .i64)) (.sl e3 (.st (.pr (.int .i64) (.pr (.int .i64) (.pr (.int .i64) (.sl e4 (.int .i64))))))))))) (.pr (.int .i64) (.pr (.sl e5 (.int .i64)) (.pr (.sl e6 (.int .i64)) (.pr (.st (.pr (.int .i64) (.pr (.int .i64) (.pr (.int .i64) (.sl e7 (.st (.pr (.int .i64) (.pr (.int .i64) (.int .i64))))))))) (.pr (.sl e8 (.int .i64)) (.pr (.sl e9 (.int .i64)) (.pr (.st (.pr (.int .i64) (.pr (.int .i64) (.sl e10 (.st (.pr (.int .i64) (.pr (.int .i64) (.int .i64)))))))) (.sl e11 (.int .i64))))))))))) a):zkt k a left=some (if (z24 a:Int)≤left then left-(z24 a:Int) else -1):=by
 have hs:z24 a=(z1k (a.1))+(zi (a.2.2.1))+(zi (a.2.2.2.1))+(z3b (a.2.2.2.2.1))+(zi (a.2.2.2.2.2.1))+(zi (a.2.2.2.2.2.2.1))+(z5j (a.2.2.2.2.2.2.2.1))+(zi (a.2.2.2.2.2.2.2.2)):=rfl
 unfold zkt
 rw [hs]
 have q0:=z1pc hk (a:=a.1) (left:=left) (by omega) (by omega) h.1
 rw [q0]
 by_cases c0:((z1k (a.1)):Int)≤left
 case neg=>rw [y5 c0]; simp only [y6]; rw [yb (by omega),y4 rfl,y5 (by omega)]
 rw [y4 c0]; simp only [y6]
 rw [ya (by omega),y5 (by simp)]
 have q1:=zap (a:=a.2.2.1) (left:=left-((z1k (a.1)):Int)) (by omega) (by omega) h.2.2.1
 rw [q1]
 by_cases c1:((zi (a.2.2.1)):Int)≤left-((z1k (a.1)):Int)
 case neg=>rw [y5 c1]; simp only [y6]; rw [yb (by omega),y4 rfl,y5 (by omega)]
 rw [y4 c1]; simp only [y6]
 rw [ya (by omega),y5 (by simp)]
 have q2:=zap (a:=a.2.2.2.1) (left:=left-((z1k (a.1)):Int)-((zi (a.2.2.1)):Int)) (by omega) (by omega) h.2.2.2.1
 rw [q2]
 by_cases c2:((zi (a.2.2.2.1)):Int)≤left-((z1k (a.1)):Int)-((zi (a.2.2.1)):Int)
 case neg=>rw [y5 c2]; simp only [y6]; rw [yb (by omega),y4 rfl,y5 (by omega)]
 rw [y4 c2]; simp only [y6]
 rw [ya (by omega),y5 (by simp)]
 have q3:=z1pf (a:=a.2.2.2.2.1) (left:=left-((z1k (a.1)):Int)-((zi (a.2.2.1)):Int)-((zi (a.2.2.2.1)):Int)) (by omega) (by omega) h.2.2.2.2.1
 rw [q3]
 by_cases c3:((z3b (a.2.2.2.2.1)):Int)≤left-((z1k (a.1)):Int)-((zi (a.2.2.1)):Int)-((zi (a.2.2.2.1)):Int)
 case neg=>rw [y5 c3]; simp only [y6]; rw [yb (by omega),y4 rfl,y5 (by omega)]
 rw [y4 c3]; simp only [y6]
 rw [ya (by omega),y5 (by simp)]
 have q4:=zap (a:=a.2.2.2.2.2.1) (left:=left-((z1k (a.1)):Int)-((zi (a.2.2.1)):Int)-((zi (a.2.2.2.1)):Int)-((z3b (a.2.2.2.2.1)):Int)) (by omega) (by omega) h.2.2.2.2.2.1
 rw [q4]
 by_cases c4:((zi (a.2.2.2.2.2.1)):Int)≤left-((z1k (a.1)):Int)-((zi (a.2.2.1)):Int)-((zi (a.2.2.2.1)):Int)-((z3b (a.2.2.2.2.1)):Int)
 case neg=>rw [y5 c4]; simp only [y6]; rw [yb (by omega),y4 rfl,y5 (by omega)]
 rw [y4 c4]; simp only [y6]
 rw [ya (by omega),y5 (by simp)]
 have q5:=zap (a:=a.2.2.2.2.2.2.1) (left:=left-((z1k (a.1)):Int)-((zi (a.2.2.1)):Int)-((zi (a.2.2.2.1)):Int)-((z3b (a.2.2.2.2.1)):Int)-((zi (a.2.2.2.2.2.1)):Int)) (by omega) (by omega) h.2.2.2.2.2.2.1
 rw [q5]
 by_cases c5:((zi (a.2.2.2.2.2.2.1)):Int)≤left-((z1k (a.1)):Int)-((zi (a.2.2.1)):Int)-((zi (a.2.2.2.1)):Int)-((z3b (a.2.2.2.2.1)):Int)-((zi (a.2.2.2.2.2.1)):Int)
 case neg=>rw [y5 c5]; simp only [y6]; rw [yb (by omega),y4 rfl,y5 (by omega)]
 rw [y4 c5]; simp only [y6]
 rw [ya (by omega),y5 (by simp)]
 have q6:=z1ph (a:=a.2.2.2.2.2.2.2.1) (left:=left-((z1k (a.1)):Int)-((zi (a.2.2.1)):Int)-((zi (a.2.2.2.1)):Int)-((z3b (a.2.2.2.2.1)):Int)-((zi (a.2.2.2.2.2.1)):Int)-((zi (a.2.2.2.2.2.2.1)):Int)) (by omega) (by omega) h.2.2.2.2.2.2.2.1
 rw [q6]
 by_cases c6:((z5j (a.2.2.2.2.2.2.2.1)):Int)≤left-((z1k (a.1)):Int)-((zi (a.2.2.1)):Int)-((zi (a.2.2.2.1)):Int)-((z3b (a.2.2.2.2.1)):Int)-((zi (a.2.2.2.2.2.1)):Int)-((zi (a.2.2.2.2.2.2.1)):Int)
 case neg=>rw [y5 c6]; simp only [y6]; rw [yb (by omega),y4 rfl,y5 (by omega)]
 rw [y4 c6]; simp only [y6]
 rw [ya (by omega),y5 (by simp)]
 have q7:=zap (a:=a.2.2.2.2.2.2.2.2) (left:=left-((z1k (a.1)):Int)-((zi (a.2.2.1)):Int)-((zi (a.2.2.2.1)):Int)-((z3b (a.2.2.2.2.1)):Int)-((zi (a.2.2.2.2.2.1)):Int)-((zi (a.2.2.2.2.2.2.1)):Int)-((z5j (a.2.2.2.2.2.2.2.1)):Int)) (by omega) (by omega) h.2.2.2.2.2.2.2.2
 rw [q7]
 by_cases c7:((zi (a.2.2.2.2.2.2.2.2)):Int)≤left-((z1k (a.1)):Int)-((zi (a.2.2.1)):Int)-((zi (a.2.2.2.1)):Int)-((z3b (a.2.2.2.2.1)):Int)-((zi (a.2.2.2.2.2.1)):Int)-((zi (a.2.2.2.2.2.2.1)):Int)-((z5j (a.2.2.2.2.2.2.2.1)):Int)
 case neg=>rw [y5 c7]; simp only [y6]; rw [yb (by omega),y4 rfl,y5 (by omega)]
 rw [y4 c7]; simp only [y6]
 rw [ya (by omega),y5 (by simp)]
 rw [y4 (by omega)]; congr 1; omega
theorem z1pj {w:Wrk} (h:z24 w≤1048576):smallW w:=by
 have e:z24 w=z1k w.1+w.2.2.1.length+w.2.2.2.1.length+w.2.2.2.2.1.2.2.2.length+w.2.2.2.2.2.1.length+w.2.2.2.2.2.2.1.length+w.2.2.2.2.2.2.2.1.2.2.length+w.2.2.2.2.2.2.2.2.length:=rfl
 exact ⟨z1pd (by omega),by omega,by omega,by omega,by omega,by omega⟩
def mkI (_:Int) (m:Int):Int×Int:=(m,m+((1:Nat):Int))
theorem ztc:∀ (x:Int) (m:Int),(mkI x m).2=m+(((fun _:Int=>1) x:Nat):Int):=fun _ _=>rfl
theorem z1pk {k:Nat} (hk:KK≤k) {q:List (List Int)} {a:Nat} {z:List Int} (hz:q[a]?=some z) {m:Int} (h0:0≤m) (h1:m≤1000000000000000000) (hl:z.length≤1000000000000) :
  zlk k a m q=some ((m+(z.length:Int),()),(q.set a (mkL mkI z m).1,()),()):=by
 have hK:=zg
 have ha:=(yo.1 hz).1
 have hs:=zoy z
 unfold zlk
 have e:q=q.set a z:=by
  obtain ⟨h,rfl⟩:=yo.1 hz
  exact (y65 h).symm
 have:=zam ztc z (m0:=m) (B:=2000000000000000000) (by omega) (S:=fun l=>q.set a l) (L:=fun n m i q=>zej k n a m i q (fun k_10 q_11=>some ((k_10,()),(q_11,()),())))
  (G:=some ((m+(z.length:Int),()),(q.set a (mkL mkI z m).1,()),())) ?_ ?_ (n:=k) (by omega)
 ·rw [← e] at this
  exact this
 ·intro n i m l y hll hg hy m0 m1 hlt hlt'
  have hw:=zd (i:=i) (by omega)
  have hm:z6 (m+1)=m+((1:Nat):Int):=ze (by omega) (by omega)
  simp only [zej,y2g ha,y6,hlt,hlt',y9,y7,yg,ye,yz,yj hlt',hm,hw,y43,mkI]
 ·intro n l hl2 hll
  have:¬ (z.length:Int)<(l.length:Int):=by omega
  simp only [zej,y2g ha,y6,this,yf,yc,y8,hs]
  rw [hl2]
def mkIS (z:List Int) (m:Int):List Int×Int:=((mkL mkI z m).1,m+(z.length:Int))
theorem z1pl (z:List Int) (m:Int):(mkIS z m).2=m+(z.length:Int):=rfl
theorem z1pm {k:Nat} (hk:KK≤k) {L:List (List Int)} {m:Int} (h0:0≤m) (h1:m+(zp List.length L:Int)≤100000000000000000) (hx:∀ x∈L,x.length≤1000000000000) (hL:L.length≤1000000000000) :
  zll k m L=some ((m+(zp List.length L:Int),()),((mkL mkIS L m).1,()),()):=by
 have hK:=zg
 unfold zll
 refine zam z1pl L (m0:=m) (B:=100000000000000000) h1 (S:=fun l=>l) (L:=fun n m i q=>zek k n m i q (fun k_5 q_6=>some ((k_5,()),(q_6,()),()))) ?_ ?_ (n:=k) (by omega)
 ·intro n i m' l y hll hg hy m0 m1 hlt hlt'
  have hw:=zd (i:=i) (by omega)
  have st:=z1pk hk hg (m:=m') (by omega) (by omega) (hx y hy)
  simp only [zek,hlt,hlt',y9,y7,y6,yg,ye,yz,hg,st,hw]
  rfl
 ·intro n l hl2 hll
  have:¬ (L.length:Int)<(l.length:Int):=by omega
  simp only [zek,this,yf,yc,y8]
  rw [hl2]
theorem z1pn {k:Nat} (hk:KK≤k) {a:List Int} {m:Int} (h0:0≤m) (h1:m≤1000000000000000000) (hl:a.length≤1000000000000) :
  z8m k m a=some ((m+(a.length:Int),()),((mkL mkI a m).1,()),()):=by
 have hK:=zg
 have hs:=zoy a
 unfold z8m
 refine zam ztc a (m0:=m) (B:=2000000000000000000) (by omega) (S:=fun l=>l) (L:=fun n m i q=>zel k n m i q (fun k_5 q_6=>some ((k_5,()),(q_6,()),()))) ?_ ?_ (n:=k) (by omega)
 ·intro n i m l y hll hg hy m0 m1 hlt hlt'
  have hw:=zd (i:=i) (by omega)
  have hm:z6 (m+1)=m+((1:Nat):Int):=ze (by omega) (by omega)
  simp only [zel,y6,hlt,hlt',y9,y7,yg,ye,yz,yj hlt',hm,hw,mkI]
 ·intro n l hl2 hll
  have:¬ (a.length:Int)<(l.length:Int):=by omega
  simp only [zel,this,yf,yc,y8,hs]
  rw [hl2]
theorem z16v {α:Type} {f g:α→Nat} {c:Nat}:∀ {l:List α},(∀ x∈l,f x≤g x+c)→zp f l≤zp g l+c*l.length
 | [],_=>by simp [z7w]
 | x::l,h=>by
  have h1:=h x (by simp)
  have h2:=z16v (f:=f) (g:=g) (c:=c) (l:=l) fun y hy=>h y (by simp [hy])
  rw [z50,z50,y1k,Nat.mul_succ]
  omega
theorem z1po {k:Nat} (hk:KK≤k) {q:List Mat} {a:Nat} {z:Mat} (hz:q[a]?=some z) {m:Int} (h0:0≤m) (h1:m≤1000000000000000000) (hl:z.2.2.2.length≤1000000000000) :
  zlm k a m q=some ((m+(z.2.2.2.length:Int),()),(q.set a (z.1,z.2.1,z.2.2.1,(mkL mkI z.2.2.2 m).1),()),()):=by
 have hK:=zg
 have ha:=(yo.1 hz).1
 have hs:=zoy z.2.2.2
 unfold zlm
 have e:q=q.set a (z.1,z.2.1,z.2.2.1,z.2.2.2):=by
  obtain ⟨h,rfl⟩:=yo.1 hz
  exact (y65 h).symm
 have:=zam ztc z.2.2.2 (m0:=m) (B:=2000000000000000000) (by omega) (S:=fun l=>q.set a (z.1,z.2.1,z.2.2.1,l)) (L:=fun n m i q=>zen k n a m i q (fun k_10 q_11=>some ((k_10,()),(q_11,()),())))
  (G:=some ((m+(z.2.2.2.length:Int),()),(q.set a (z.1,z.2.1,z.2.2.1,(mkL mkI z.2.2.2 m).1),()),())) ?_ ?_ (n:=k) (by omega)
 ·rw [← e] at this
  exact this
 ·intro n i m l y hll hg hy m0 m1 hlt hlt'
  have hw:=zd (i:=i) (by omega)
  have hm:z6 (m+1)=m+((1:Nat):Int):=ze (by omega) (by omega)
  simp only [zen,y2g ha,y6,hlt,hlt',y9,y7,yg,ye,yz,yj hlt',hm,hw,y43,mkI]
 ·intro n l hl2 hll
  have:¬ (z.2.2.2.length:Int)<(l.length:Int):=by omega
  simp only [zen,y2g ha,y6,this,yf,yc,y8,hs]
  rw [hl2]
def ctM (x:Mat):Nat:=x.2.2.2.length+3
def mkMt (x:Mat) (m:Int):Mat×Int:=((m,m+1,m+1+1,(mkL mkI x.2.2.2 (m+1+1+1)).1),m+(ctM x:Int))
theorem z1pp (x:Mat) (m:Int):(mkMt x m).2=m+(ctM x:Int):=rfl
theorem z1pq {k:Nat} (hk:KK≤k) {L:List Mat} {m:Int} (h0:0≤m) (h1:m+(zp ctM L:Int)≤10000000000000000) (hx:∀ x∈L,x.2.2.2.length≤1000000000000) (hL:L.length≤1000000000000) :
  zln k m L=some ((m+(zp ctM L:Int),()),((mkL mkMt L m).1,()),()):=by
 have hK:=zg
 unfold zln
 refine zam z1pp L (m0:=m) (B:=10000000000000000) h1 (S:=fun l=>l) (L:=fun n m i q=>zeo k n m i q (fun k_11 q_12=>some ((k_11,()),(q_12,()),()))) ?_ ?_ (n:=k) (by omega)
 ·intro n i m' l y hll hg hy m0 m1 hlt hlt'
  have hw:=zd (i:=i) (by omega)
  have hc:ctM y=y.2.2.2.length+3:=rfl
  have w1:z6 (m'+1)=m'+1:=ze (by omega) (by omega)
  have w2:z6 (m'+1+1)=m'+1+1:=ze (by omega) (by omega)
  have w3:z6 (m'+1+1+1)=m'+1+1+1:=ze (by omega) (by omega)
  have st:=z1po hk (q:=l.set i (m',m'+1,m'+1+1,y.2.2.2)) (a:=i) (z:=(m',m'+1,m'+1+1,y.2.2.2)) (y2g hlt') (m:=m'+1+1+1) (by omega) (by omega) (hx y hy)
  have e:m'+1+1+1+(y.2.2.2.length:Int)=m'+(ctM y:Int):=by omega
  simp only [zeo,hlt,hlt',y9,y7,y6,yg,ye,yz,hg,y21,y2g hlt',w1,w2,w3,y43,st,e,hw]
  rfl
 ·intro n l hl2 hll
  have:¬ (L.length:Int)<(l.length:Int):=by omega
  simp only [zeo,this,yf,yc,y8]
  rw [hl2]
def ztd (_:Edg) (m:Int):Edg×Int:=((m,m+1,m+1+1),m+((3:Nat):Int))
theorem z16x:∀ (x:Edg) (m:Int),(ztd x m).2=m+(((fun _:Edg=>3) x:Nat):Int):=fun _ _=>rfl
theorem z1pr {k:Nat} (hk:KK≤k) {L:List Edg} {m:Int} (h0:0≤m) (h1:m+(zp (fun _:Edg=>3) L:Int)≤10000000000000000) (hL:L.length≤1000000000000) :
  zlo k m L=some ((m+(zp (fun _:Edg=>3) L:Int),()),((mkL ztd L m).1,()),()):=by
 have hK:=zg
 unfold zlo
 refine zam z16x L (m0:=m) (B:=10000000000000000) h1 (S:=fun l=>l) (L:=fun n m i q=>zep k n m i q (fun k_9 q_10=>some ((k_9,()),(q_10,()),()))) ?_ ?_ (n:=k) (by omega)
 ·intro n i m' l y hll hg hy m0 m1 hlt hlt'
  have hw:=zd (i:=i) (by omega)
  have w1:z6 (m'+1)=m'+1:=ze (by omega) (by omega)
  have w2:z6 (m'+1+1)=m'+1+1:=ze (by omega) (by omega)
  have w3:z6 (m'+1+1+1)=m'+((3:Nat):Int):=by rw [ze (by omega) (by omega)]; omega
  simp only [zep,hlt,hlt',y9,y7,y6,yg,ye,yz,hg,y21,y2g hlt',w1,w2,w3,y43,hw]
  rfl
 ·intro n l hl2 hll
  have:¬ (L.length:Int)<(l.length:Int):=by omega
  simp only [zep,this,yf,yc,y8]
  rw [hl2]
theorem z1ps {k:Nat} (hk:KK≤k) {L:List Edg} {m:Int} (h0:0≤m) (h1:m+(zp (fun _:Edg=>3) L:Int)≤10000000000000000) (hL:L.length≤1000000000000) :
  zlp k m L=some ((m+(zp (fun _:Edg=>3) L:Int),()),((mkL ztd L m).1,()),()):=by
 have hK:=zg
 unfold zlp
 refine zam z16x L (m0:=m) (B:=10000000000000000) h1 (S:=fun l=>l) (L:=fun n m i q=>zeq k n m i q (fun k_9 q_10=>some ((k_9,()),(q_10,()),()))) ?_ ?_ (n:=k) (by omega)
 ·intro n i m' l y hll hg hy m0 m1 hlt hlt'
  have hw:=zd (i:=i) (by omega)
  have w1:z6 (m'+1)=m'+1:=ze (by omega) (by omega)
  have w2:z6 (m'+1+1)=m'+1+1:=ze (by omega) (by omega)
  have w3:z6 (m'+1+1+1)=m'+((3:Nat):Int):=by rw [ze (by omega) (by omega)]; omega
  simp only [zeq,hlt,hlt',y9,y7,y6,yg,ye,yz,hg,y21,y2g hlt',w1,w2,w3,y43,hw]
  rfl
 ·intro n l hl2 hll
  have:¬ (L.length:Int)<(l.length:Int):=by omega
  simp only [zeq,this,yf,yc,y8]
  rw [hl2]
theorem zp6 {α:Type}:∀ l:List α,zp (fun _=>3) l=3*l.length
 | []=>rfl
 | x::l=>by rw [z50,zp6 l,y1k]; omega
theorem z1pt {k:Nat} (hk:KK≤k) (a1 a2 a3 a4 a5 a6 a7:Int) {q1:List (List Int)} {q2:List Int} {q3:List Mat} {q4 q5:List Int} {q6:List Edg} {q7 q8:List Int} {q9:List Edg} {q10:List Int}
  (h1:z3k q1≤1048576) (h2:q2.length≤1048576) (h3:z3l q3≤1048576) (h4:q4.length≤1048576) (h5:q5.length≤1048576) (h6:q6.length≤1048576) (h7:q7.length≤1048576) (h8:q8.length≤1048576) (h9:q9.length≤1048576) (h10:q10.length≤1048576) :
  ∃ y,zho k a1 a2 a3 a4 a5 a6 a7 1 q1 q2 q3 q4 q5 q6 q7 q8 q9 q10=some y∧¬ y.1.1<0:=by
 have e1:z3k q1=q1.length+zp List.length q1:=rfl
 have e3:z3l q3=q3.length+zp z2m q3:=rfl
 have c3:zp ctM q3≤zp z2m q3+3*q3.length:=z16v fun x _=>by
  have a:ctM x=x.2.2.2.length+3:=rfl
  have b:z2m x=x.2.2.2.length:=rfl
  omega
 have s1:=z1pm hk (L:=q1) (m:=1) (by omega) (by omega) (fun x hx=>by have:=z97 List.length hx; omega) (by omega)
 have s2:=fun (q:List Int) (hq:q.length≤1048576) m (h0:0≤m) (h1:m≤1000000000)=>z1pn hk (a:=q) (m:=m) h0 (by omega) (by omega)
 have s3:=fun m (h0:0≤m) (h1:m≤1000000000)=>z1pq hk (L:=q3) (m:=m) h0 (by omega) (fun x hx=>by have:=z97 z2m hx; have b:z2m x=x.2.2.2.length:=rfl; omega) (by omega)
 have s6:=fun m (h0:0≤m) (h1:m≤1000000000)=>z1pr hk (L:=q6) (m:=m) h0 (by rw [zp6]; omega) (by omega)
 have s9:=fun m (h0:0≤m) (h1:m≤1000000000)=>z1ps hk (L:=q9) (m:=m) h0 (by rw [zp6]; omega) (by omega)
 rw [zp6] at s6 s9
 unfold zho zr2 zr1 zr3 zr4
 rw [s1]
 simp only [y6]
 rw [s2 q2 h2 _ (by omega) (by omega)]
 simp only [y6]
 rw [s3 _ (by omega) (by omega)]
 simp only [y6]
 rw [s2 q4 h4 _ (by omega) (by omega)]
 simp only [y6]
 rw [s2 q5 h5 _ (by omega) (by omega)]
 simp only [y6]
 rw [s6 _ (by omega) (by omega)]
 simp only [y6]
 rw [s2 q7 h7 _ (by omega) (by omega)]
 simp only [y6]
 rw [s2 q8 h8 _ (by omega) (by omega)]
 simp only [y6]
 rw [s9 _ (by omega) (by omega)]
 simp only [y6]
 rw [s2 q10 h10 _ (by omega) (by omega)]
 refine ⟨_,rfl,?_⟩
 simp only
 omega
theorem zaq {k:Nat} (hk:KK≤k) {a:List Int} (h:zi a≤10000000000):z6t k a=some a:=by
 have hl:a.length≤10000000000:=Nat.le_trans (show a.length≤zi a by unfold zi; omega) h
 unfold z6t
 have hL:=z1q
 rw [y4 ⟨by omega,y2e _,by omega⟩]
 refine zhl (L:=fun n i q=>ze8 k n a i q fun q_5=>some q_5) (e:=fun q=>some q) a _ (by simp) ?_ ?_ (n:=k) (by have:=zg; omega)
 ·intro n i x q hx hlt hq
  have hw:=zd (i:=i) (by omega)
  have hi:i<q.length:=by omega
  simp [ze8,hlt,hx,hw,hi]
 ·intro n q
  simp [ze8]
theorem z1pu {k:Nat} (hk:KK≤k) {a:List (List Int)} (h:z3k a≤10000000000):zkv k a=some a:=by
 have hl:a.length≤10000000000:=Nat.le_trans (show a.length≤z3k a by unfold z3k; omega) h
 unfold zkv
 have hL:=z1q
 rw [y4 ⟨by omega,y2e _,by omega⟩]
 refine zhl (L:=fun n i q=>ze9 k n a i q fun q_5=>some q_5) (e:=fun q=>some q) a _ (by simp) ?_ ?_ (n:=k) (by have:=zg; omega)
 ·intro n i x q hx hlt hq
  have hw:=zd (i:=i) (by omega)
  have hi:i<q.length:=by omega
  have hm:=z97 zi (ym hx)
  have hb:zi x≤10000000000:=by unfold z3k at h; omega
  simp [ze9,zaq hk hb,hlt,hx,hw,hi]
 ·intro n q
  simp [ze9]
theorem z1pv {k:Nat} (hk:KK≤k) {a:List (List Int)} (h:z4q a≤10000000000):zkw k a=some a:=by
 have b0:(z3k a)≤10000000000:=by unfold z4q at h; omega
 unfold zkw
 simp only [z1pu hk b0,y6] <;> rfl
theorem z1pw {k:Nat} (hk:KK≤k) {a:Int×Int×Int×List Int} (h:z2m a≤10000000000):zkx k a=some a:=by
 have b3:(zi (a.2.2.2))≤10000000000:=by unfold z2m at h; omega
 unfold zkx
 simp only [zaq hk b3,y6] <;> rfl
theorem z1px {k:Nat} (hk:KK≤k) {a:List (Int×Int×Int×List Int)} (h:z3l a≤10000000000):zky k a=some a:=by
 have hl:a.length≤10000000000:=Nat.le_trans (show a.length≤z3l a by unfold z3l; omega) h
 unfold zky
 have hL:=z1q
 rw [y4 ⟨by omega,y2e _,by omega⟩]
 refine zhl (L:=fun n i q=>zea k n a i q fun q_5=>some q_5) (e:=fun q=>some q) a _ (by simp) ?_ ?_ (n:=k) (by have:=zg; omega)
 ·intro n i x q hx hlt hq
  have hw:=zd (i:=i) (by omega)
  have hi:i<q.length:=by omega
  have hm:=z97 z2m (ym hx)
  have hb:z2m x≤10000000000:=by unfold z3l at h; omega
  simp [zea,z1pw hk hb,hlt,hx,hw,hi]
 ·intro n q
  simp [zea]
theorem z1py {k:Nat} (hk:KK≤k) {a:List (List Int)×Int×List Int×(List (Int×Int×Int×List Int))} (h:z1k a≤10000000000):zkz k a=some a:=by
 have b0:(z4q (a.1))≤10000000000:=by unfold z1k at h; omega
 have b2:(zi (a.2.2.1))≤10000000000:=by unfold z1k at h; omega
 have b3:(z3l (a.2.2.2))≤10000000000:=by unfold z1k at h; omega
 unfold zkz
 simp only [z1pv hk b0,zaq hk b2,z1px hk b3,y6] <;> rfl
theorem z1pz {a:Int×Int×Int} :zl0 a=some a:=by
 unfold zl0
 rfl
theorem z1q0 {k:Nat} (hk:KK≤k) {a:List (Int×Int×Int)} (h:z5h a≤10000000000):zl1 k a=some a:=by
 have hl:a.length≤10000000000:=Nat.le_trans (show a.length≤z5h a by unfold z5h; omega) h
 unfold zl1
 have hL:=z1q
 rw [y4 ⟨by omega,y2e _,by omega⟩]
 refine zhl (L:=fun n i q=>zeb k n a i q fun q_5=>some q_5) (e:=fun q=>some q) a _ (by simp) ?_ ?_ (n:=k) (by have:=zg; omega)
 ·intro n i x q hx hlt hq
  have hw:=zd (i:=i) (by omega)
  have hi:i<q.length:=by omega
  simp [zeb,z1pz,hlt,hx,hw,hi]
 ·intro n q
  simp [zeb]
theorem z1q1 {k:Nat} (hk:KK≤k) {a:Int×Int×Int×(List (Int×Int×Int))} (h:z3b a≤10000000000):zl2 k a=some a:=by
 have b3:(z5h (a.2.2.2))≤10000000000:=by unfold z3b at h; omega
 unfold zl2
 simp only [z1q0 hk b3,y6] <;> rfl
theorem z1q2 {a:Int×Int×Int} :zl3 a=some a:=by
 unfold zl3
 rfl
theorem z1q3 {k:Nat} (hk:KK≤k) {a:List (Int×Int×Int)} (h:z5i a≤10000000000):zl4 k a=some a:=by
 have hl:a.length≤10000000000:=Nat.le_trans (show a.length≤z5i a by unfold z5i; omega) h
 unfold zl4
 have hL:=z1q
 rw [y4 ⟨by omega,y2e _,by omega⟩]
 refine zhl (L:=fun n i q=>zec k n a i q fun q_5=>some q_5) (e:=fun q=>some q) a _ (by simp) ?_ ?_ (n:=k) (by have:=zg; omega)
 ·intro n i x q hx hlt hq
  have hw:=zd (i:=i) (by omega)
  have hi:i<q.length:=by omega
  simp [zec,z1q2,hlt,hx,hw,hi]
 ·intro n q
  simp [zec]
theorem z1q4 {k:Nat} (hk:KK≤k) {a:Int×Int×(List (Int×Int×Int))} (h:z5j a≤10000000000):zl5 k a=some a:=by
 have b2:(z5i (a.2.2))≤10000000000:=by unfold z5j at h; omega
 unfold zl5
 simp only [z1q3 hk b2,y6] <;> rfl
theorem z1q5 {k:Nat} (hk:KK≤k) {a:(List (List Int)×Int×List Int×(List (Int×Int×Int×List Int)))×Int×List Int×List Int×(Int×Int×Int×(List (Int×Int×Int)))×List Int×List Int×(Int×Int×(List (Int×Int×Int)))×List Int} (h:z24 a≤10000000000):zbh k a=some a:=by
 have b0:(z1k (a.1))≤10000000000:=by unfold z24 at h; omega
 have b2:(zi (a.2.2.1))≤10000000000:=by unfold z24 at h; omega
 have b3:(zi (a.2.2.2.1))≤10000000000:=by unfold z24 at h; omega
 have b4:(z3b (a.2.2.2.2.1))≤10000000000:=by unfold z24 at h; omega
 have b5:(zi (a.2.2.2.2.2.1))≤10000000000:=by unfold z24 at h; omega
 have b6:(zi (a.2.2.2.2.2.2.1))≤10000000000:=by unfold z24 at h; omega
 have b7:(z5j (a.2.2.2.2.2.2.2.1))≤10000000000:=by unfold z24 at h; omega
 have b8:(zi (a.2.2.2.2.2.2.2.2))≤10000000000:=by unfold z24 at h; omega
 unfold zbh
 simp only [z1py hk b0,zaq hk b2,zaq hk b3,z1q1 hk b4,zaq hk b5,zaq hk b6,z1q4 hk b7,zaq hk b8,y6] <;> rfl
theorem zar {k:Nat} (hk:KK≤k) {a b:List Int} (h:zi a≤10000000000):z6v k a b=some (decide (a=b)):=by
 have hle:a.length≤10000000000:=Nat.le_trans (show a.length≤zi a by unfold zi; omega) h
 unfold z6v
 by_cases hl:a.length=b.length
 ·rw [y5 (by simp [hl])]
  refine z8j (L:=fun n i=>zg2 k n a b i (some true)) a b hl ?_ ?_ (n:=k) (by have:=zg; omega)
  ·intro n i x y hx hy hlt
   have hw:=zd (i:=i) (by omega)
   by_cases e:x=y <;> simp [zg2,hlt,hx,hy,hw,e]
  ·intro n
   simp [zg2]
 ·have h2:a≠b:=fun e=>hl (by rw [e])
  have h3:¬ (a.length:Int)=b.length:=by omega
  simp [h3,h2]
theorem z1q6 {k:Nat} (hk:KK≤k) {a b:List (List Int)} (h:z3k a≤10000000000):zo6 k a b=some (decide (a=b)):=by
 have hle:a.length≤10000000000:=Nat.le_trans (show a.length≤z3k a by unfold z3k; omega) h
 unfold zo6
 by_cases hl:a.length=b.length
 ·rw [y5 (by simp [hl])]
  refine z8j (L:=fun n i=>zg3 k n a b i (some true)) a b hl ?_ ?_ (n:=k) (by have:=zg; omega)
  ·intro n i x y hx hy hlt
   have hw:=zd (i:=i) (by omega)
   have hm:=z97 zi (ym hx)
   have hb:zi x≤10000000000:=by unfold z3k at h; omega
   simp only [zg3,hlt,y9,y7,yg,ye,hx,hy,y6,hw,zar hk hb]
   by_cases e:x=y
   ·rw [yb e,y4 e]; simp
   ·rw [ya e,y5 e]; simp
  ·intro n
   simp [zg3]
 ·have h2:a≠b:=fun e=>hl (by rw [e])
  have h3:¬ (a.length:Int)=b.length:=by omega
  simp [h3,h2]
theorem z1q7 {k:Nat} (hk:KK≤k) {a b:List (List Int)} (h:z4q a≤10000000000):zo7 k a b=some (decide (a=b)):=by
 have c0:(z3k a)≤10000000000:=by unfold z4q at h; omega
 unfold zo7
 simp only [z1q6 hk c0,y6,y2h]
 by_cases x0:a=b
 case neg=>simp [x0]
 subst x0
 simp
theorem z1q8 {k:Nat} (hk:KK≤k) {a b:Int×Int×Int×List Int} (h:z2m a≤10000000000):zo8 k a b=some (decide (a=b)):=by
 obtain ⟨a0,a1,a2,a3⟩:=a
 obtain ⟨b0,b1,b2,b3⟩:=b
 have c3:(zi a3)≤10000000000:=by unfold z2m at h; simp only at h; omega
 unfold zo8
 simp only [zar hk c3,y6,y2h]
 by_cases x0:a0=b0
 case neg=>simp [x0]
 subst x0
 by_cases x1:a1=b1
 case neg=>simp [x1]
 subst x1
 by_cases x2:a2=b2
 case neg=>simp [x2]
 subst x2
 by_cases x3:a3=b3
 case neg=>simp [x3]
 subst x3
 simp
theorem z1q9 {k:Nat} (hk:KK≤k) {a b:List (Int×Int×Int×List Int)} (h:z3l a≤10000000000):zo9 k a b=some (decide (a=b)):=by
 have hle:a.length≤10000000000:=Nat.le_trans (show a.length≤z3l a by unfold z3l; omega) h
 unfold zo9
 by_cases hl:a.length=b.length
 ·rw [y5 (by simp [hl])]
  refine z8j (L:=fun n i=>zg4 k n a b i (some true)) a b hl ?_ ?_ (n:=k) (by have:=zg; omega)
  ·intro n i x y hx hy hlt
   have hw:=zd (i:=i) (by omega)
   have hm:=z97 z2m (ym hx)
   have hb:z2m x≤10000000000:=by unfold z3l at h; omega
   simp only [zg4,hlt,y9,y7,yg,ye,hx,hy,y6,hw,z1q8 hk hb]
   by_cases e:x=y
   ·rw [yb e,y4 e]; simp
   ·rw [ya e,y5 e]; simp
  ·intro n
   simp [zg4]
 ·have h2:a≠b:=fun e=>hl (by rw [e])
  have h3:¬ (a.length:Int)=b.length:=by omega
  simp [h3,h2]
theorem z1qa {k:Nat} (hk:KK≤k) {a b:List (List Int)×Int×List Int×(List (Int×Int×Int×List Int))} (h:z1k a≤10000000000):zli k a b=some (decide (a=b)):=by
 obtain ⟨a0,a1,a2,a3⟩:=a
 obtain ⟨b0,b1,b2,b3⟩:=b
 have c0:(z4q a0)≤10000000000:=by unfold z1k at h; simp only at h; omega
 have c2:(zi a2)≤10000000000:=by unfold z1k at h; simp only at h; omega
 have c3:(z3l a3)≤10000000000:=by unfold z1k at h; simp only at h; omega
 unfold zli
 simp only [z1q7 hk c0,zar hk c2,z1q9 hk c3,y6,y2h]
 by_cases x0:a0=b0
 case neg=>simp [x0]
 subst x0
 by_cases x1:a1=b1
 case neg=>simp [x1]
 subst x1
 by_cases x2:a2=b2
 case neg=>simp [x2]
 subst x2
 by_cases x3:a3=b3
 case neg=>simp [x3]
 subst x3
 simp
theorem z1qb {a b:Int×Int×Int} :zlb a b=some (decide (a=b)):=by
 obtain ⟨a0,a1,a2⟩:=a
 obtain ⟨b0,b1,b2⟩:=b
 unfold zlb
 simp only [y2h]
 by_cases x0:a0=b0
 case neg=>simp [x0]
 subst x0
 by_cases x1:a1=b1
 case neg=>simp [x1]
 subst x1
 by_cases x2:a2=b2
 case neg=>simp [x2]
 subst x2
 simp
theorem z1qc {k:Nat} (hk:KK≤k) {a b:List (Int×Int×Int)} (h:z5h a≤10000000000):zlc k a b=some (decide (a=b)):=by
 have hle:a.length≤10000000000:=Nat.le_trans (show a.length≤z5h a by unfold z5h; omega) h
 unfold zlc
 by_cases hl:a.length=b.length
 ·rw [y5 (by simp [hl])]
  refine z8j (L:=fun n i=>zeh k n a b i (some true)) a b hl ?_ ?_ (n:=k) (by have:=zg; omega)
  ·intro n i x y hx hy hlt
   have hw:=zd (i:=i) (by omega)
   simp only [zeh,hlt,y9,y7,yg,ye,hx,hy,y6,hw,z1qb]
   by_cases e:x=y
   ·rw [yb e,y4 e]; simp
   ·rw [ya e,y5 e]; simp
  ·intro n
   simp [zeh]
 ·have h2:a≠b:=fun e=>hl (by rw [e])
  have h3:¬ (a.length:Int)=b.length:=by omega
  simp [h3,h2]
theorem z1qd {k:Nat} (hk:KK≤k) {a b:Int×Int×Int×(List (Int×Int×Int))} (h:z3b a≤10000000000):zld k a b=some (decide (a=b)):=by
 obtain ⟨a0,a1,a2,a3⟩:=a
 obtain ⟨b0,b1,b2,b3⟩:=b
 have c3:(z5h a3)≤10000000000:=by unfold z3b at h; simp only at h; omega
 unfold zld
 simp only [z1qc hk c3,y6,y2h]
 by_cases x0:a0=b0
 case neg=>simp [x0]
 subst x0
 by_cases x1:a1=b1
 case neg=>simp [x1]
 subst x1
 by_cases x2:a2=b2
 case neg=>simp [x2]
 subst x2
 by_cases x3:a3=b3
 case neg=>simp [x3]
 subst x3
 simp
theorem z1qe {a b:Int×Int×Int} :zle a b=some (decide (a=b)):=by
 obtain ⟨a0,a1,a2⟩:=a
 obtain ⟨b0,b1,b2⟩:=b
 unfold zle
 simp only [y2h]
 by_cases x0:a0=b0
 case neg=>simp [x0]
 subst x0
 by_cases x1:a1=b1
 case neg=>simp [x1]
 subst x1
 by_cases x2:a2=b2
 case neg=>simp [x2]
 subst x2
 simp
theorem z1qf {k:Nat} (hk:KK≤k) {a b:List (Int×Int×Int)} (h:z5i a≤10000000000):zlf k a b=some (decide (a=b)):=by
 have hle:a.length≤10000000000:=Nat.le_trans (show a.length≤z5i a by unfold z5i; omega) h
 unfold zlf
 by_cases hl:a.length=b.length
 ·rw [y5 (by simp [hl])]
  refine z8j (L:=fun n i=>zei k n a b i (some true)) a b hl ?_ ?_ (n:=k) (by have:=zg; omega)
  ·intro n i x y hx hy hlt
   have hw:=zd (i:=i) (by omega)
   simp only [zei,hlt,y9,y7,yg,ye,hx,hy,y6,hw,z1qe]
   by_cases e:x=y
   ·rw [yb e,y4 e]; simp
   ·rw [ya e,y5 e]; simp
  ·intro n
   simp [zei]
 ·have h2:a≠b:=fun e=>hl (by rw [e])
  have h3:¬ (a.length:Int)=b.length:=by omega
  simp [h3,h2]
theorem z1qg {k:Nat} (hk:KK≤k) {a b:Int×Int×(List (Int×Int×Int))} (h:z5j a≤10000000000):zlg k a b=some (decide (a=b)):=by
 obtain ⟨a0,a1,a2⟩:=a
 obtain ⟨b0,b1,b2⟩:=b
 have c2:(z5i a2)≤10000000000:=by unfold z5j at h; simp only at h; omega
 unfold zlg
 simp only [z1qf hk c2,y6,y2h]
 by_cases x0:a0=b0
 case neg=>simp [x0]
 subst x0
 by_cases x1:a1=b1
 case neg=>simp [x1]
 subst x1
 by_cases x2:a2=b2
 case neg=>simp [x2]
 subst x2
 simp
theorem z1qh {k:Nat} (hk:KK≤k) {a b:(List (List Int)×Int×List Int×(List (Int×Int×Int×List Int)))×Int×List Int×List Int×(Int×Int×Int×(List (Int×Int×Int)))×List Int×List Int×(Int×Int×(List (Int×Int×Int)))×List Int} (h:z24 a≤10000000000):zlh k a b=some (decide (a=b)):=by
 obtain ⟨a0,a1,a2,a3,a4,a5,a6,a7,a8⟩:=a
 obtain ⟨b0,b1,b2,b3,b4,b5,b6,b7,b8⟩:=b
 have c0:(z1k a0)≤10000000000:=by unfold z24 at h; simp only at h; omega
 have c2:(zi a2)≤10000000000:=by unfold z24 at h; simp only at h; omega
 have c3:(zi a3)≤10000000000:=by unfold z24 at h; simp only at h; omega
 have c4:(z3b a4)≤10000000000:=by unfold z24 at h; simp only at h; omega
 have c5:(zi a5)≤10000000000:=by unfold z24 at h; simp only at h; omega
 have c6:(zi a6)≤10000000000:=by unfold z24 at h; simp only at h; omega
 have c7:(z5j a7)≤10000000000:=by unfold z24 at h; simp only at h; omega
 have c8:(zi a8)≤10000000000:=by unfold z24 at h; simp only at h; omega
 unfold zlh
 simp only [z1qa hk c0,zar hk c2,zar hk c3,z1qd hk c4,zar hk c5,zar hk c6,z1qg hk c7,zar hk c8,y6,y2h]
 by_cases x0:a0=b0
 case neg=>simp [x0]
 subst x0
 by_cases x1:a1=b1
 case neg=>simp [x1]
 subst x1
 by_cases x2:a2=b2
 case neg=>simp [x2]
 subst x2
 by_cases x3:a3=b3
 case neg=>simp [x3]
 subst x3
 by_cases x4:a4=b4
 case neg=>simp [x4]
 subst x4
 by_cases x5:a5=b5
 case neg=>simp [x5]
 subst x5
 by_cases x6:a6=b6
 case neg=>simp [x6]
 subst x6
 by_cases x7:a7=b7
 case neg=>simp [x7]
 subst x7
 by_cases x8:a8=b8
 case neg=>simp [x8]
 subst x8
 simp
theorem z1qi (x:(List (List Int)×Int×List Int×(List (Int×Int×Int×List Int)))×Int×List Int×List Int×(Int×Int×Int×(List (Int×Int×Int)))×List Int×List Int×(Int×Int×(List (Int×Int×Int)))×List Int):((x.1.1,(x.1.2.1,(x.1.2.2.1,x.1.2.2.2))),(x.2.1,(x.2.2.1,(x.2.2.2.1,((x.2.2.2.2.1.1,(x.2.2.2.2.1.2.1,(x.2.2.2.2.1.2.2.1,x.2.2.2.2.1.2.2.2))),(x.2.2.2.2.2.1,(x.2.2.2.2.2.2.1,((x.2.2.2.2.2.2.2.1.1,(x.2.2.2.2.2.2.2.1.2.1,x.2.2.2.2.2.2.2.1.2.2)),x.2.2.2.2.2.2.2.2))))))))=x:=rfl
theorem z1qj {a b:Int×List UInt8×List UInt8} (h:zan a≤10000000000):zo5 a b=some (decide (a=b)):=by
 obtain ⟨a0,a1,a2⟩:=a
 obtain ⟨b0,b1,b2⟩:=b
 unfold zo5
 simp only [y2h]
 by_cases x0:a0=b0
 case neg=>simp [x0]
 subst x0
 by_cases x1:a1=b1
 case neg=>simp [x1]
 subst x1
 by_cases x2:a2=b2
 case neg=>simp [x2]
 subst x2
 simp
theorem z1qk {k:Nat} (hk:KK≤k) {a b:List (Int×List UInt8×List UInt8)} (h:z5g a≤10000000000):zbl k a b=some (decide (a=b)):=by
 have hle:a.length≤10000000000:=Nat.le_trans (show a.length≤z5g a by unfold z5g; omega) h
 unfold zbl
 by_cases hl:a.length=b.length
 ·rw [y5 (by simp [hl])]
  refine z8j (L:=fun n i=>zg1 k n a b i (some true)) a b hl ?_ ?_ (n:=k) (by have:=zg; omega)
  ·intro n i x y hx hy hlt
   have hw:=zd (i:=i) (by omega)
   have hm:=z97 zan (ym hx)
   have hb:zan x≤10000000000:=by unfold z5g at h; omega
   simp only [zg1,hlt,y9,y7,yg,ye,hx,hy,y6,hw,z1qj hb]
   by_cases e:x=y
   ·rw [yb e,y4 e]; simp
   ·rw [ya e,y5 e]; simp
  ·intro n
   simp [zg1]
 ·have h2:a≠b:=fun e=>hl (by rw [e])
  have h3:¬ (a.length:Int)=b.length:=by omega
  simp [h3,h2]
theorem z1ql {k:Nat} {w:Wrk} (h:zao k w=true):z1f k w.1=true∧(0≤w.2.1∧w.2.1≤3)∧z4n w.2.2.1 (zk w.1.2.2.1 (ofC w.1.1 w.2.1)) w.1.2.1=true∧z4n w.2.2.2.1 (zk w.1.2.2.1 (ofC w.1.1 0)) w.1.2.1=true∧zal w.2.2.2.2.1=true∧z7x w.2.2.2.2.2.2.2.1=true∧z4n w.2.2.2.2.2.2.2.2 w.2.2.2.2.2.2.2.1.1 w.2.2.2.2.2.2.2.1.2.1=true:=by
 unfold zao at h
 simp only [yh,y1d] at h
 exact ⟨h.1,h.2.1,h.2.2.1,h.2.2.2.1,h.2.2.2.2.1,h.2.2.2.2.2.1,h.2.2.2.2.2.2⟩
theorem z1qm {k:Nat} (hk:KK≤k) {a:Wrk} (h:z24 a≤1048576):∃ y,zho k a.1.2.1 a.2.1 a.2.2.2.2.1.1 a.2.2.2.2.1.2.1 a.2.2.2.2.1.2.2.1 a.2.2.2.2.2.2.2.1.1 a.2.2.2.2.2.2.2.1.2.1 1 a.1.1 a.1.2.2.1 a.1.2.2.2 a.2.2.1 a.2.2.2.1 a.2.2.2.2.1.2.2.2 a.2.2.2.2.2.1 a.2.2.2.2.2.2.1 a.2.2.2.2.2.2.2.1.2.2 a.2.2.2.2.2.2.2.2=some y∧¬ y.1.1<0:=by
 have e:z24 a=z1k a.1+a.2.2.1.length+a.2.2.2.1.length+a.2.2.2.2.1.2.2.2.length+a.2.2.2.2.2.1.length+a.2.2.2.2.2.2.1.length+a.2.2.2.2.2.2.2.1.2.2.length+a.2.2.2.2.2.2.2.2.length:=rfl
 have e2:z1k a.1=z3k a.1.1+a.1.2.2.1.length+z3l a.1.2.2.2:=rfl
 exact z1pt hk _ _ _ _ _ _ _ (by omega) (by omega) (by omega) (by omega) (by omega) (by omega) (by omega) (by omega) (by omega) (by omega)
theorem fitS {c:Cx} (h:CxP c) {i:Nat} {t:List Int} (ht:c[i]?=some t):zgb t:=by
 have hs:=h.simp t (ym ht)
 exact ⟨by have:=hs.len4; omega,fun x hx=>by have:=hs.vert x hx; omega⟩
theorem zgg {s:List Int} {k:Nat} (h:k<s.length) (x:Nat):(z11 s k)[x]?=if x<k then s[x]? else s[x+1]?:=by
 have hl:(s.take k).length=k:=by rw [y1c]; omega
 unfold z11
 by_cases hx:x<k
 ·rw [y4 hx,y1w (by omega),y1n hx]
 ·rw [y5 hx,y1r (by omega),hl,y39,show k+1+(x-k)=x+1 by omega]
theorem z1qn {s:List Int} {i d:Nat} (h:i+1+d<s.length):z11 (z11 s i) (i+d)=z11 (z11 s (i+1+d)) i:=by
 have l1:=z90 (s:=s) (k:=i) (by omega)
 have l2:=z90 (s:=s) (k:=i+1+d) h
 refine y3o fun x=>?_
 have a0:=zgg (s:=z11 s i) (k:=i+d) (by omega) x
 have b0:=zgg (s:=s) (k:=i) (by omega) x
 have b1:=zgg (s:=s) (k:=i) (by omega) (x+1)
 have c0:=zgg (s:=z11 s (i+1+d)) (k:=i) (by omega) x
 have d0:=zgg (s:=s) (k:=i+1+d) h x
 have d1:=zgg (s:=s) (k:=i+1+d) h (x+1)
 rw [a0,c0,b0,b1,d0,d1]
 repeat' split
 all_goals first
  | rfl
  | (exfalso; omega)
theorem z16z {c:Cx} (h:CxP c) {D:Int} (hD:D = -1∨D=4):ofC c D=[]:=by
 unfold ofC
 refine List.filter_eq_nil_iff.2 fun i hi=>?_
 cases hg:c[i]? with
 | none=>simp
 | some s =>
  have h1:=(h.simp s (ym hg)).len1
  have h4:=(h.simp s (ym hg)).len4
  simp only [y1d]
  rcases hD with rfl | rfl <;> omega
theorem z170 {k:Nat} (hk:KK≤k) {s:She} (h:z1f k s=true) (D:Int) (hD : -1≤D∧D≤4):∃ R:Nat,zk s.2.2.1 (ofC s.1 D)=(R:Int)∧R≤32:=by
 obtain ⟨hCx,hp,hS⟩:=z27 hk h
 by_cases h1:D = -1∨D=4
 ·rw [z16z hCx h1]
  exact ⟨0,rfl,by omega⟩
 ·obtain ⟨d,rfl⟩:=y4i (show 0≤D by omega)
  exact z1ow hk h d (by omega)
theorem z172 {k:Nat} (hk:KK≤k) {s:She} (hs:smallSh s) (h:z1f k s=true) (e:Int) (he : -1≤e∧e≤3):∃ (M:Mat) (R C:Nat),zck k s e=some M∧zbz k s e=some M∧MatP M R C∧zk s.2.2.1 (ofC s.1 (e+1))=(R:Int)∧zk s.2.2.1 (ofC s.1 e)=(C:Int)∧M.1=s.2.1:=by
 have hK:=zg
 obtain ⟨hCx,hp,hS⟩:=z27 hk h
 obtain ⟨R,hR,hR2⟩:=z170 hk h (e+1) (by omega)
 obtain ⟨C,hC,hC2⟩:=z170 hk h e (by omega)
 by_cases h1:e = -1
 ·subst h1
  have hC0:C=0:=by
   rw [z16z hCx (.inl rfl)] at hC
   have:(0:Int)=(C:Int):=hC
   omega
  subst hC0
  have w1:z6 (-1+1)=0:=ze (by omega) (by omega)
  have e0:(-1:Int)+1=0:=by omega
  rw [e0] at hR
  have hn:(-1:Int)<0:=by omega
  have hnn:¬ (0:Int) ≤ -1:=by omega
  have c0:((0:Nat):Int)=0:=rfl
  have hc:zk s.2.2.1 (ofC s.1 (-1))=0:=hC
  obtain ⟨n,rfl⟩:∃ n,k=n+1:=⟨k-1,by omega⟩
  have z1:=z16l hk s.2.1 (R:=R) (C:=0) hR2 hC2
  have z2:=z16m s.2.1 (R:=R) (C:=0) hR2 hC2
  rw [c0] at z1 z2
  refine ⟨(s.2.1,(R:Int),(0:Int),List.replicate (R*0) 0),R,0,?_,?_,⟨rfl,rfl,hR2,hC2,by simp,hp,by simp,by simp⟩,by rw [e0]; exact hR,hC,rfl⟩
  ·unfold zck
   simp only [w1,zcs hk (z42 hCx) hS (show -1000≤(0:Int)∧(0:Int)≤1000 by omega),zcs hk (z42 hCx) hS (show -1000≤(-1:Int)∧(-1:Int)≤1000 by omega),hR,hc,y6,z1,zol hk (z42 hCx) (show -1000≤(0:Int)∧(0:Int)≤1000 by omega),yp,zcj]
   cases hO:ofC s.1 0 with
   | nil=>simp
   | cons x l=>simp [hn]
  ·unfold zbz
   simp only [w1,zcr hk (z42 hCx) hS (show -1000≤(0:Int)∧(0:Int)≤1000 by omega),zcr hk (z42 hCx) hS (show -1000≤(-1:Int)∧(-1:Int)≤1000 by omega),hR,hc,y6,z2,zsm hk (z42 hCx) (show -1000≤(0:Int)∧(0:Int)≤1000 by omega),zby,hnn,yf,yc,y8,ite_self]
 ·obtain ⟨d,rfl⟩:=y4i (show 0≤e by omega)
  exact ⟨zp4 s d R C,R,C,z1ox hk hs h (by omega) hR hC hR2 hC2,z1oy hk hs h (by omega) hR hC hR2 hC2,z1oz hk hs h (by omega) hR hC hR2 hC2,hR,hC,rfl⟩
theorem z1qo {k:Nat} (hk:KK≤k) {w:Wrk} (hs:smallW w) (hb:zao k w=true):∃ L:List Prb,zmo k w=some L∧zo3 k w=some L∧L.length≤1∧z5g L≤2000:=by
 have hK:=zg
 have hn:=z1ql hb
 have h:=hn.1
 have hss:=hs.sh
 obtain ⟨hCx,hp,hS⟩:=z27 hk h
 unfold zmo zo3
 cases hall:(List.range w.1.1.length).all (z4o w.1) with
 | false =>
  obtain ⟨j,t,i,d,F⟩:=z1o4 hall
  obtain ⟨c,hc,hcg⟩:=z1o9 hk hss h F
  have hft:=fitS hCx F.hj
  have hfc:=fitS hCx hcg
  have h4:=(hCx.simp t (ym F.hj)).len4
  have hdd:=F.hd
  have d1:=zoi (s:=t) (by omega) (k:=i+1+d) hdd
  have l2:=z90 (s:=t) (k:=i+1+d) hdd
  have d2:=zoi (s:=z11 t (i+1+d)) (by omega) (k:=i) (by omega)
  rw [← z1qn hdd] at d2
  refine ⟨[(1,(z62 t,z62 (z11 (z11 t i) (i+d))))],?_,?_,by simp,?_⟩
  ·rw [z1o6 hk hss h F]
   have hj0:(0:Int)≤(j:Int):=by omega
   simp only [y6,hj0,y9,y7,ye,F.hj,z16b hk hft,d1,d2,z16b hk hfc]
  ·rw [hc]
   simp only [y6,y7,yg,ye,F.hj,z16c hk hft,hcg,z16c hk hfc]
  ·have a1:=(z16a hft).1
   have a2:=(z16a hfc).1
   have e1:z5g [((1:Int),(z62 t,z62 (z11 (z11 t i) (i+d))))]=1+(zan ((1:Int),(z62 t,z62 (z11 (z11 t i) (i+d))))+0):=by unfold z5g; rw [z50,z7w]; rfl
   rw [e1]
   simp only [zan]
   omega
 | true =>
  have hcl:=hn.2.2.1
  have hd:=hn.2.1
  unfold z4n at hcl
  simp only [yh,y1d,y17] at hcl
  obtain ⟨M,R,C,m1,m2,m3,m4,m5,m6⟩:=z172 hk hss h w.2.1 (by omega)
  obtain ⟨M2,R2,C2,n1,n2,n3,n4,n5,n6⟩:=z172 hk hss h (w.2.1-1) (by omega)
  have hw1:z6 (w.2.1-1)=w.2.1-1:=ze (by omega) (by omega)
  rw [show w.2.1-1+1=w.2.1 by omega] at n4
  have hlC:w.2.2.1.length=C:=by omega
  have hlR:w.2.2.1.length=R2:=by omega
  have a1:=z1p0 hk m3 hlC (by rw [m6]; exact hcl.1)
  have a2:=z1p1 hk m3 hlC (by rw [m6]; exact hcl.1)
  have hvl:=ztb M w.2.2.1 C R
  have hR:=m3.r32
  have b1:=z1p2 hk (v:=z4p M w.2.2.1 C R) (by omega)
  have b2:=z1p3 hk (v:=z4p M w.2.2.1 C R) (by omega)
  obtain ⟨r,s1,s2⟩:=z1nw hk n3 hlR (by rw [n6]; exact hcl.1)
  have sz1:z5g [((2:Int),(([99,108,97,115,115]:List UInt8),([111,112,101,110]:List UInt8)))]≤2000:=by
   unfold z5g; rw [z50,z7w]; simp [zan]
  have sz2:z5g [((2:Int),(([99,108,97,115,115]:List UInt8),([116,114,105,118,105,97,108]:List UInt8)))]≤2000:=by
   unfold z5g; rw [z50,z7w]; simp [zan]
  have c1:znw k w.1 w.2.1 w.2.2.1=some (!nzB (z4p M w.2.2.1 C R)):=by
   unfold znw
   rw [m1]
   simp only [y6]
   rw [show (M.1,(M.2.1,(M.2.2.1,M.2.2.2)))=M from rfl,a1]
   simp only [y6,b1]
  have c2:zma k w.1 w.2.1 w.2.2.1=some (!nzB (z4p M w.2.2.1 C R)):=by
   unfold zma
   rw [m2]
   simp only [y6]
   rw [show (M.1,(M.2.1,(M.2.2.1,M.2.2.2)))=M from rfl,a2]
   simp only [y6,b2]
  have e1:zo2 k w.1 w.2.1 w.2.2.1=some r:=by
   unfold zo2
   rw [hw1,n1]
   simp only [y6]
   rw [show (M2.1,(M2.2.1,(M2.2.2.1,M2.2.2.2)))=M2 from rfl,s2]
   rfl
  have e2:zmn k w.1 w.2.1 w.2.2.1=some r:=by
   unfold zmn
   rw [hw1,n2]
   simp only [y6]
   rw [show (M2.1,(M2.2.1,(M2.2.2.1,M2.2.2.2)))=M2 from rfl,s1]
   rfl
  rw [z1o7 hk hss h hall,z1oa hk hss h hall]
  have hneg:¬ (0:Int) ≤ -1:=by omega
  simp only [y6,hneg,yf,yc,y8,c1,c2,e1,e2]
  cases nzB (z4p M w.2.2.1 C R)
  ·simp only [y2j,y14,yc,y8]
   cases r.2
   ·exact ⟨[],by simp,by simp,by simp,by simp [z5g,zp]⟩
   ·exact ⟨_,by simp,by simp,by simp,sz2⟩
  ·simp only [y2j,y14,y7]
   exact ⟨_,rfl,rfl,by simp,sz1⟩
theorem z1qp {k:Nat} (hk:KK≤k) {w:Wrk} (hs:smallW w):∃ r:List Prb×Int,zlr k w=some r∧zhq k w=some r∧r.1.length≤1∧z5g r.1≤2000:=by
 have hK:=zg
 obtain ⟨j,rfl⟩:∃ j,k=j+2:=⟨k-2,by omega⟩
 unfold zlr zrb zhq zse
 rw [z1p6 hk hs,z1p7 hk hs]
 cases h:zao (j+2) w
 ·exact ⟨([],1),by simp,by simp,by simp,by simp [z5g,zp]⟩
 ·obtain ⟨L,s1,s2,s3,s4⟩:=z1qo hk hs h
  refine ⟨(L,0),?_,?_,s3,s4⟩
  ·simp [s1]
  ·have hL:(([]:List Prb).length+L.length)*40≤LIM:=by unfold LIM; simp only [List.length_nil]; omega
   have c1:((1:Nat):Int)=1:=rfl
   have w1:z6 (0+1)=1:=ze (by omega) (by omega)
   simp only [y6,y14,yc,y8,y7,zo4,y1k,y3f,y18,c1,Int.toNat_zero,Int.zero_lt_one,y9,y2e,y45,s2,hL,w1,yw,yf,y2p]
   rw [if_pos (by unfold LIM; omega)]
   rfl
theorem z1qq {e0 e1 e2 e3 e4 e5 e6 e7 e8 e9 e10 e11:TypeId} (a0:Wrk) (f0:InR (.st (.pr (.st (.pr (.st (.sl e0 (.sl e1 (.int .i64)))) (.pr (.int .i64) (.pr (.sl e2 (.int .i64)) (.sl e3 (.st (.pr (.int .i64) (.pr (.int .i64) (.pr (.int .i64) (.sl e4 (.int .i64))))))))))) (.pr (.int .i64) (.pr (.sl e5 (.int .i64)) (.pr (.sl e6 (.int .i64)) (.pr (.st (.pr (.int .i64) (.pr (.int .i64) (.pr (.int .i64) (.sl e7 (.st (.pr (.int .i64) (.pr (.int .i64) (.int .i64))))))))) (.pr (.sl e8 (.int .i64)) (.pr (.sl e9 (.int .i64)) (.pr (.st (.pr (.int .i64) (.pr (.int .i64) (.sl e10 (.st (.pr (.int .i64) (.pr (.int .i64) (.int .i64)))))))) (.sl e11 (.int .i64))))))))))) a0):∃ k:Nat,zlq k a0=some true:=by
 have hk:=yr KK
 refine ⟨KK,?_⟩
 have q0:=z1pi hk (a:=a0) (left:=1048576) (by omega) (by omega) f0
 unfold zlq
 rw [q0]
 by_cases c0:(z24 a0:Int)≤1048576
 case neg=>rw [y5 c0]; simp only [y6]; rw [yb (by omega),y4 rfl]
 rw [y4 c0]; simp only [y6]
 rw [ya (by omega),y5 (by simp)]
 have b0:z24 a0≤10000000000:=by omega
 have hs:=z1pj (w:=a0) (by omega)
 have e:z24 a0=z1k a0.1+a0.2.2.1.length+a0.2.2.2.1.length+a0.2.2.2.2.1.2.2.2.length+a0.2.2.2.2.2.1.length+a0.2.2.2.2.2.2.1.length+a0.2.2.2.2.2.2.2.1.2.2.length+a0.2.2.2.2.2.2.2.2.length:=rfl
 obtain ⟨r,h1,h2,hl,hz⟩:=z1qp hk hs
 obtain ⟨y,hy,hy0⟩:=z1qm hk (a:=a0) (by omega)
 obtain ⟨m,q,hm,hq,hm0⟩:=z1oh hk (L:=r.1) (by omega)
 have heq:zbl KK r.1 r.1=some true:=(z1qk hk (a:=r.1) (b:=r.1) (by omega)).trans (congrArg some (yb rfl))
 simp only [z1q5 hk b0,y6,z1qi,h1,h2,heq,z1qh hk b0,hy,hy0,hm,hq,hm0,y9,yf,y14,yc,y8]
end Go.Proofs.YtchfjdcfhlhgcaaGreatDoor.Ev
