/- Plain values for a program that runs on a machine: an evaluator of loaded code and the proof that it tells what the machine does (part 5 of 6). No conditions: definitions and lemmas z5k any program. -/
import Derived.Test.YtchfjdcfhlhgcaaGreatDoorEv4
import Derived.KernelRfl
import Derived.ChangeArms
import Derived.ChangeShapes
import Derived.ChangeOld
import Derived.SizedLaws
import Derived.Carry
import Derived.Laws.Externs
import Derived.Lib.Bytealg
import Derived.Lib.Repeat
set_option linter.unusedVariables false
set_option linter.unusedSimpArgs false
/- Functions that leave their arguments alone. Over any program. -/
namespace Go.Proofs.YtchfjdcfhlhgcaaGreatDoor.Ev
open Go.RowKit

section
variable {P : Program} {E : Env} {w0 : World} {ok O : Nat → Prop} {σ σ' : St} {tm : Array Value} {w w' : World} {M M' : Map} {a : Act} {R0 : Type} {res : R0}

def z4z:Ty→Nat
 | .un=>0
 | .pr _ b=>z4z b+1
 | _=>1
theorem z9w {t:Ty} {l:List SVal} {k:t.T→Option R0} (h1:∀ s,z2g t [s] k=zq s.t t s.x k) (h0:z2g t [] k=none) (h2:∀ s s' l,z2g t (s::s'::l) k=none) (hn:z4z t=1) (hs:∀ (x:t.T) i,z5m t x i=[(i,.val t x)])
  (h:z2g t l k=some res) {vs:List Value} (ha:z2l w ok l vs):∃ x,k x=some res∧vs.length=z4z t∧∀ i j s,lk (z5m t x i) j=some s→∃ y,i≤j∧j<i+z4z t∧vs[j-i]?=some y∧(∃ u z,s=.val u z∧∃ cs,Rd w ok u z cs∧z1n u y cs):=by
 match l,vs,ha with
 | [],_,_=>rw [h0] at h; cases h
 | s::s'::l,_,_=>rw [h2] at h; cases h
 | [s],[v],ha =>
  rw [h1] at h
  obtain ⟨e,h⟩:=ze1 h
  obtain ⟨st,sx⟩:=s
  dsimp only at e
  subst e
  refine ⟨sx,h,by rw [hn]; rfl,fun i j s' hj=>?_⟩
  rw [hs] at hj
  obtain ⟨rfl,rfl⟩:=z59 hj
  exact ⟨v,yr _,by omega,by simp,_,_,rfl,ha.1⟩
theorem zql:∀ {t:Ty} {l:List SVal} {k:t.T→Option R0} {vs:List Value},z2g t l k=some res→z2l w ok l vs→∃ x,k x=some res∧vs.length=z4z t∧∀ i j s,lk (z5m t x i) j=some s→∃ y,i≤j∧j<i+z4z t∧vs[j-i]?=some y∧(∃ u z,s=.val u z∧∃ cs,Rd w ok u z cs∧z1n u y cs)
 | .un,l,k,vs,h,ha=>by
  match l,vs,ha with
  | [],[],_=>exact ⟨(),h,rfl,fun i j s hj=>by cases hj⟩
  | _::_,_,_=>cases h
 | .pr a b,l,k,vs,h,ha=>by
  match l,vs,ha with
  | [],_,_=>cases h
  | s::l,v::vs,ha =>
   simp only [z2g] at h
   obtain ⟨e,h⟩:=ze1 h
   obtain ⟨st,sx⟩:=s
   dsimp only at e
   subst e
   obtain ⟨y,h1,h2,h3⟩:=zql (t:=b) h ha.2
   refine ⟨(sx,y),h1,by simp [z4z,h2],fun i j s' hj=>?_⟩
   simp only [z5m,zu] at hj
   split at hj
   ·rename_i e2
    subst e2
    cases hj
    exact ⟨v,yr _,by simp only [z4z]; omega,by simp,_,_,rfl,ha.1⟩
   ·obtain ⟨y',g1,g2,g3,g4⟩:=h3 (i+1) j s' hj
    refine ⟨y',by omega,by simp only [z4z]; omega,?_,g4⟩
    rw [show j-i=(j-(i+1))+1 by omega,y1q]
    exact g3
 | .int i,l,k,vs,h,ha=>z9w (fun _=>rfl) rfl (fun _ _ _=>rfl) rfl (fun _ _=>rfl) h ha
 | .bool,l,k,vs,h,ha=>z9w (fun _=>rfl) rfl (fun _ _ _=>rfl) rfl (fun _ _=>rfl) h ha
 | .str,l,k,vs,h,ha=>z9w (fun _=>rfl) rfl (fun _ _ _=>rfl) rfl (fun _ _=>rfl) h ha
 | .sl e t,l,k,vs,h,ha=>z9w (fun _=>rfl) rfl (fun _ _ _=>rfl) rfl (fun _ _=>rfl) h ha
 | .st t,l,k,vs,h,ha=>z9w (fun _=>rfl) rfl (fun _ _ _=>rfl) rfl (fun _ _=>rfl) h ha
 | .ptr t,l,k,vs,h,ha=>z9w (fun _=>rfl) rfl (fun _ _ _=>rfl) rfl (fun _ _=>rfl) h ha
 | .fn g c,l,k,vs,h,ha=>z9w (fun _=>rfl) rfl (fun _ _ _=>rfl) rfl (fun _ _=>rfl) h ha
 | .fs ids,l,k,vs,h,ha=>z9w (fun _=>rfl) rfl (fun _ _ _=>rfl) rfl (fun _ _=>rfl) h ha

def Rv (P:Program) (tm:Array Value) (w:World) (r:ResultVar) (v:Value):Prop:=match r with
 | .tmp t=>tm.getD t undef=v
 | .cell a t=>∃ ad,tm.getD a undef=.pointer (some ad)∧(loadVar t ad).run P w=.ok v w
def Rvs (P:Program) (tm:Array Value) (w:World):List ResultVar→List Value→Prop
 | [],[]=>True
 | r::l,v::vs=>Rv P tm w r v∧Rvs P tm w l vs
 | _,_=>False
theorem zvy {tm:Array Value} {i:Nat} {u:Value} (h:tm[i]?=some u):tm.getD i undef=u:=by rw [y3a,h]; rfl

theorem z1am (t:Ty):∀ s:SV,Live σ s→Live σ (s.fit t):=by
 intro s hl
 induction s with
 | val u x=>cases u <;> simp only [SV.fit] <;> first | exact z36 _ _ | (cases t.isSt <;> exact z36 _ _)
 | st s ih =>
  simp only [SV.fit]
  cases t.isSt
  ·exact ih ⟨hl.rows,hl.boxes⟩
  ·exact hl
 | _=>exact hl

theorem zvz (T:zh P E.ti=true) (R:Rep E w0 ok O σ tm w M) {r:ResultVar} {s:SV} (h:zb2 E σ r=some s):∃ v,Rv P tm w r v∧zr w0 ok M s v:=by
 cases r with
 | tmp t =>
  obtain ⟨u,hu,hS⟩:=R.slots t s h
  exact ⟨u,zvy hu,hS⟩
 | cell a t =>
  simp only [zb2] at h
  split at h
  ·rename_i j q o hs
   split at h
   ·rename_i b hb
    split at h
    ·rename_i s' hp
     cases hk:(Nat.beq (b.c.offP q) o&&(s'.fit (E.tyOf t)).okW (E.tyOf t)) <;> rw [hk] at h
     ·cases h
     ·cases h
      simp only [yh] at hk
      obtain ⟨k1,k2⟩:=hk
      have k1:=yq k1
      obtain ⟨k3,k4,k5,_⟩:=zgz k2
      obtain ⟨cs',g1,g2,g3⟩:=R.boxes j b hb
      obtain ⟨u,hu,cs,h3,h4⟩:=R.slots a _ hs
      simp only [zc] at h3
      subst h3
      have hv:u=.pointer (some ⟨M.blk j,o,none⟩):=by
       rcases h4 with ⟨h5,_⟩ | ⟨_,h5⟩
       ·cases h5
       ·simp only [y12,y13] at h5; exact h5.symm
      have hnc:b.c.isCh=false:=by
       cases hc:b.c with
       | nl =>
        rw [hc] at hp
        cases q with
        | nil=>cases hp; exact absurd k4.symm k5
        | cons x y=>cases hp
       | cns x y =>
        rw [hc] at hp
        cases q with
        | nil=>cases hp; exact absurd k4.symm k5
        | cons x y=>cases hp
       | _=>rfl
      obtain ⟨p1,p2,ds,rfl,e1,e2⟩:=z85 (zgv g1 hnc) hp
      have hf:=zpq (t:=E.tyOf t) e2
      have hcell:=(zdi g2).mid
      rw [e1,k1,y18] at hcell
      obtain ⟨z,hz,hw⟩:=zdq (P:=P) T hf k3 (by rw [zc.len hf,k4]) k5 hcell
      exact ⟨z,⟨_,by rw [zvy hu,hv],hz⟩,z1t hf hw⟩
    ·cases h
   ·cases h
  ·cases h

theorem zqm (T:zh P E.ti=true):∀ {rs:List ResultVar} {t:Ty} {σ:St} {k:St→t.T→Option R0},Rep E w0 ok O σ tm w M→zgp E rs t σ k=some res →
  ∃ σ' l vs,k σ' (erase t l)=some res∧holds (Rd w0 ok) w t l∧plain w t l∧Eaten E w0 ok O σ σ' tm w M (z7 t l)∧Rvs P tm w rs vs∧(rs.length=0∧t=.un∨0<rs.length∧zh5 rs.length t l vs)
 | [],t,σ,k,R,h=>by
  cases t with
  | un=>exact ⟨σ,(),[],h,trivial,trivial,⟨R,Free.nil,z4f.nil,Sub.refl σ⟩,trivial,.inl ⟨rfl,rfl⟩⟩
  | _=>cases h
 | r::l,t,σ,k,R,h=>by
  simp only [zgp] at h
  split at h
  ·rename_i s hs
   obtain ⟨u,hu,hS⟩:=zvz T R hs
   match l,h with
   | [],h =>
    rcases z35 hS with rfl | ⟨c,vs,rfl,_,_⟩ | ⟨cs,h4,h5⟩
    ·cases h
    ·cases h
    ·obtain ⟨σ1,v,x,g1,g2,g3,g4,g5,g6⟩:=z5s depth w0 ok O σ tm w M s cs _ R h4 h
     obtain ⟨e,g1⟩:=ze1 g1
     subst e
     refine ⟨σ1,x,[u],g1,g2,g3,g6,⟨hu,trivial⟩,.inr ⟨y2y _,u,rfl,?_⟩⟩
     unfold z1n
     rw [← g5,g4]; exact h5
   | r2::l2,h =>
    cases t with
    | pr a b =>
     rcases z35 hS with rfl | ⟨c,vs,rfl,_,_⟩ | ⟨cs,h4,h5⟩
     ·cases h
     ·cases h
     ·obtain ⟨σ1,v,x,g1,g2,g3,g4,g5,g6⟩:=z5s depth w0 ok O σ tm w M s cs _ R h4 h
      obtain ⟨e,g1⟩:=ze1 g1
      subst e
      obtain ⟨σ2,y,vs,k1,k2,k3,k4,k7,k5⟩:=zqm T (rs:=r2::l2) (t:=b) g6.rep g1
      refine ⟨σ2,(x,y),u::vs,k1,⟨g2,k2⟩,⟨g3,k3⟩,⟨k4.rep,g6.free.append k4.free k4.sub k4.src,g6.src.append k4.src g6.sub,k4.sub.trans g6.sub⟩,⟨hu,k7⟩,.inr ⟨y2y _,?_⟩⟩
      rcases k5 with ⟨h9,_⟩ | ⟨_,k6⟩
      ·simp at h9
      ·refine ⟨u,vs,rfl,?_,k6⟩
       unfold z1n
       rw [← g5,g4]; exact h5
    | _=>cases h
  ·cases h

theorem zk6 {fn:Func} {rs:List ResultVar} (h:fn.results.toList=rs) {tm:Array Value} {w:World} {vs:List Value} (hv:Rvs P tm w rs vs):(results fn tm).run P w=.ok (if h:vs.toArray.size=1 then vs.toArray[0] else .tuple vs.toArray) w:=by
 have hm:∀ (l:List ResultVar) (vs:List Value),Rvs P tm w l vs→(l.mapM (m:=Sem) fun | .tmp t=>pure (tm.getD t undef) | .cell a t=>do loadVar t (← asAddr (tm.getD a undef))).run P w=.ok vs w:=by
  intro l
  induction l with
  | nil=>intro vs hv; match vs,hv with | [],_=>rfl
  | cons r l ih =>
   intro vs hv
   match vs,hv with
   | v::vs,hv =>
    have e:=ih vs hv.2
    have hr:((fun | .tmp t=>pure (tm.getD t undef) | .cell a t=>do loadVar t (← asAddr (tm.getD a undef)):ResultVar→Sem Value) r).run P w=.ok v w:=by
     cases r with
     | tmp t=>have h1:tm.getD t undef=v:=hv.1; simp only [h1]; rfl
     | cell a t =>
      obtain ⟨ad,h1,h2⟩:=hv.1
      simp only [h1,asAddr,Sem.run_bind,Sem.run_pure,Result.andThen_ok]
      exact h2
    simp only [List.mapM_cons,Sem.run_bind,hr,Result.andThen_ok,e,Sem.run_pure]
 have hA:(fn.results.mapM (m:=Sem) fun | .tmp t=>pure (tm.getD t undef) | .cell a t=>do loadVar t (← asAddr (tm.getD a undef))).run P w=.ok vs.toArray w:=by
  rw [Array.mapM_eq_mapM_toList,h]
  have e:=hm rs vs hv
  show (Sem.bind _ _).run P w=_
  rw [show ∀ (x:Sem (List Value)) (f:List Value→Sem (Array Value)),(Sem.bind x f).run P w=(x.run P w).andThen fun a w'=>(f a).run P w' from fun x f=>Sem.run_bind (P:=P) (x:=x) (f:=f) (w:=w),e]
  rfl
 unfold results
 rw [Sem.run_bind]
 exact (congrArg (fun z=>Result.andThen z _) hA).trans rfl
end

section
variable {P : Program} {E : Env} {w0 : World} {ok O : Nat → Prop} {σ σ' : St} {tm : Array Value} {w w' : World} {M M' : Map} {a : Act} {R0 : Type} {res : R0}

theorem z9x {g : FuncId} {fn : Func} {c : Code} (hf : P.funcs[g]? = some fn) (hb : fn.body = some c) (hn : (fn.name == "runtime.NumGoroutine") = false) (vs : Array Value) (w : World) : (callFunc g vs).run P w = .ok (.enter g vs) w := by
 have hp:(program:Sem Program).run P w=.ok P w:=rfl
 unfold callFunc
 rw [Sem.run_bind,hp]
 simp only [Result.andThen_ok,hf,hn,hb,Option.isNone_some,yc,y8]
 rfl

structure FnR (P:Program) (E:Env) (g:FuncId) (ts:Ty) (n:Nat) (t:Ty) (F:ts.T→Option t.T):Prop where
 ex : ∃ (fn : Func) (c : Code) (rs : List ResultVar) (LO : Oracles t.T), P.funcs[g]? = some fn ∧ fn.body = some c ∧ (fn.name == "runtime.NumGoroutine") = false ∧ fn.results.toList = rs ∧ rs.length = n ∧ z4z ts ≤ fn.ntmps ∧
  CodeOK E LO (rdC E rs t) fn.ntmps c∧∀ x,evC E LO (rdC E rs t) c ⟨z5m ts x 0,[],[]⟩ (rdC E rs t) (fun _ _=>none)=F x

theorem z1an (hok:∀ k,ok k→k<w.heap.size) {ts:Ty} {x:ts.T} {vs:List Value} (h:∀ i j s,lk (z5m ts x i) j=some s→∃ y,i≤j∧j<i+z4z ts∧vs[j-i]?=some y∧(∃ u z,s=.val u z∧∃ cs,Rd w ok u z cs∧z1n u y cs)) (m:Nat) :
  Rep E w ok (fun _=>False) ⟨z5m ts x 0,[],[]⟩ (vs.toArray++Array.replicate m undef) w ⟨fun _=>⟨.un,()⟩,fun _=>0,fun _=>0,fun _=>0⟩ where
 slots:=fun s v hv=>by
  obtain ⟨y,_,h2,h3,u,z,rfl,cs,h5,h6⟩:=h 0 s v hv
  rw [Nat.sub_zero] at h3
  have hlt:=(yo.1 h3).1
  refine ⟨y,?_,z1t (s:=.val u z) h5 (by unfold z2s; rw [z7b]; exact h6)⟩
  rw [Array.getElem?_append_left (by simpa using hlt)]
  simpa using h3
 rows:=fun i r hr=>by cases hr
 boxes:=fun i b hb=>by cases hb
 rr:=fun i j _ ⟨r,hr⟩=>by cases hr
 bb:=fun i j _ ⟨r,hr⟩=>by cases hr
 rb:=fun i j ⟨r,hr⟩=>by cases hr
 ownR:=fun i ⟨r,hr⟩=>by cases hr
 ownB:=fun i ⟨r,hr⟩=>by cases hr
 okB:=fun k hk=>⟨hok k hk,fun h=>h⟩
 liveS:=fun s v hv=>by
  obtain ⟨y,_,_,_,u,z,rfl,_⟩:=h 0 s v hv
  exact z36 u z
 liveB:=fun i b hb=>by cases hb
 kept:=Kept.refl _ _
 pin:=fun i _ ⟨r,hr⟩=>by cases hr
 pinB:=fun i _ ⟨r,hr⟩=>by cases hr

theorem z1ao {ts:Ty} {x:ts.T} {vs:List Value} (h:∀ i j s,lk (z5m ts x i) j=some s→∃ y,i≤j∧j<i+z4z ts∧vs[j-i]?=some y∧(∃ u z,s=.val u z∧∃ cs,Rd w (Lt w) u z cs∧z1n u y cs)) (m:Nat) :
  Rep E w (Lt w) (fun _=>False) ⟨z5m ts x 0,[],[]⟩ (vs.toArray++Array.replicate m undef) w ⟨fun _=>⟨.un,()⟩,fun _=>0,fun _=>0,fun _=>0⟩ where
 slots:=fun s v hv=>by
  obtain ⟨y,_,h2,h3,u,z,rfl,cs,h5,h6⟩:=h 0 s v hv
  rw [Nat.sub_zero] at h3
  have hlt:=(yo.1 h3).1
  refine ⟨y,?_,z1t (s:=.val u z) h5 (by unfold z2s; rw [z7b]; exact h6)⟩
  rw [Array.getElem?_append_left (by simpa using hlt)]
  simpa using h3
 rows:=fun i r hr=>by cases hr
 boxes:=fun i b hb=>by cases hb
 rr:=fun i j _ ⟨r,hr⟩=>by cases hr
 bb:=fun i j _ ⟨r,hr⟩=>by cases hr
 rb:=fun i j ⟨r,hr⟩=>by cases hr
 ownR:=fun i ⟨r,hr⟩=>by cases hr
 ownB:=fun i ⟨r,hr⟩=>by cases hr
 okB:=fun k hk=>⟨hk,fun h=>h⟩
 liveS:=fun s v hv=>by
  obtain ⟨y,_,_,_,u,z,rfl,_⟩:=h 0 s v hv
  exact z36 u z
 liveB:=fun i b hb=>by cases hb
 kept:=Kept.refl _ _
 pin:=fun i _ ⟨r,hr⟩=>by cases hr
 pinB:=fun i _ ⟨r,hr⟩=>by cases hr

theorem zqn {tm:Array Value}:∀ {rs:List ResultVar} {vs:List Value},Rvs P tm w rs vs→vs.length=rs.length
 | [],[],_=>rfl
 | r::l,v::vs,h=>by simp [zqn h.2]
 | [],_::_,h=>h.elim
 | _::_,[],h=>h.elim
theorem zw0 {n m:Nat} {t:Ty} {l:L t} {vs:List Value} (hl:vs.length=m) (hn:m=n) (h:m=0∧t=.un∨0<m∧zh5 m t l vs) :
  zh6 n t l (if h:vs.toArray.size=1 then vs.toArray[0] else .tuple vs.toArray):=by
 subst hn
 subst hl
 unfold zh6
 match vs,h with
 | [],h=>exact ⟨_,rfl,rfl⟩
 | [v],.inr ⟨_,v',hv,hw⟩ =>
  cases hv
  exact hw
 | [v],.inl h=>simp at h
 | v::v2::vs,.inr ⟨_,h⟩ =>
  rw [y5 (by simp)]
  refine ⟨_,dif_neg (by simp),by simpa using h⟩
 | v::v2::vs,.inl h=>simp at h

theorem FnR.does [Glob P] (T:zh P E.ti=true) (EQ:z2f P E) {w:World} (S:SpecOK P E w (fun _=>False)) (K:z38 P E w (fun _=>False)) (hmix:P.follows .mixedOrders=true) {g:FuncId} {ts:Ty} {n:Nat} {t:Ty} {F:ts.T→Option t.T} (H:FnR P E g ts n t F)
  {args:List SVal} {vs:List Value} (ha:z8d w args vs) {x:ts.T} (hx:z2g ts args some=some x) {r:t.T} (hr:F x=some r):z3f P g vs.toArray w (Ret w n t r):=by
 obtain ⟨fn,c,rs,LO,h1,h2,h3,h4,h5,h6,h7,h8⟩:=H.ex
 unfold z3f
 rw [z9x h1 h2 h3]
 simp only []
 obtain ⟨x',hx',hlen,hsl⟩:=zql hx ha
 cases hx'
 refine calls_of_wp h1 h2 ?_
 have hrd:∀ e:Exit,(e=.normal∨e=.ret)→z1x E w (Lt w) (fun _=>False) r fn.ntmps (rdC E rs t) (bodyPost P fn (fun | .returned v,w''=>Ret w n t r v w'' | _,_=>False) e):=by
  intro e he w2 ok2 O2 hc σ1 a1 w1 M1 hk R1 hn1 hd1
  unfold rdC at hk
  cases hnr:t.noRd <;> rw [hnr] at hk
  ·cases hk
  simp only [yi] at hk
  obtain ⟨σ2,l,vs2,g1,g2,g3,g4,g6,g5⟩:=zqm T R1 hk
  have hb:a1.defers=[]∧∃ v,(results fn a1.tmps).run P w1=.ok v w1∧Ret w n t r v w1:=by
   refine ⟨hd1,_,zk6 h4 g6,l,?_,fun F=>zgi hnr g2,g3,g4.free.nd,fun k hk=>?_,zw0 (zqn g6) h5 g5,hc.kept R1.kept⟩
   ·have:=y28 g1
    rw [← this]
   ·rcases (g4.free.own k hk).2 with h | h
    ·exact (hc.own h).elim False.elim id
    ·exact y1o (hc.kept (.refl _ _)).size h
  rcases he with rfl | rfl
  ·exact hb
  ·exact hb
 have hev:=h8 x
 rw [hr] at hev
 refine zk5 T EQ S K hmix h7 hev (z1ao hsl (fn.ntmps-vs.toArray.size)) (by simp only [y3e,y4w,y1v,hlen]; omega) rfl (hrd _ (.inl rfl)) (fun id=>?_) (hrd _ (.inr rfl))
 intro w2 ok2 O2 hc σ1 a1 w1 M1 hk
 cases hk
end

section
variable {P : Program} {R0 : Type} {res : R0}

theorem zqo:∀ (t:Ty) (l:List SVal) {R:Type} (k:t.T→Option R),z2g t l k=(z2g t l some).bind k
 | .un,[],R,k=>rfl
 | .un,_::_,R,k=>rfl
 | .pr a b,[],R,k=>rfl
 | .pr a b,s::l,R,k=>by
  simp only [z2g]
  rw [z58,z58 s.t a s.x (fun x=>z2g b l fun y=>some (x,y)),y1b]
  congr 1
  funext x
  rw [zqo b l,zqo b l (fun y=>some (x,y)),y1b]
  rfl
 | .int i,l,R,k=>by match l with | []=>rfl | [s]=>exact z58 _ _ _ _ | _::_::_=>rfl
 | .bool,l,R,k=>by match l with | []=>rfl | [s]=>exact z58 _ _ _ _ | _::_::_=>rfl
 | .str,l,R,k=>by match l with | []=>rfl | [s]=>exact z58 _ _ _ _ | _::_::_=>rfl
 | .sl e t,l,R,k=>by match l with | []=>rfl | [s]=>exact z58 _ _ _ _ | _::_::_=>rfl
 | .st t,l,R,k=>by match l with | []=>rfl | [s]=>exact z58 _ _ _ _ | _::_::_=>rfl
 | .ptr t,l,R,k=>by match l with | []=>rfl | [s]=>exact z58 _ _ _ _ | _::_::_=>rfl
 | .fn g c,l,R,k=>by match l with | []=>rfl | [s]=>exact z58 _ _ _ _ | _::_::_=>rfl
 | .fs ids,l,R,k=>by match l with | []=>rfl | [s]=>exact z58 _ _ _ _ | _::_::_=>rfl
 | .rd t,l,R,k=>by match l with | []=>rfl | [s]=>rfl | _::_::_=>rfl

def z8 (P:Program) [Glob P] (g:FuncId) (fe:FE):Prop:=(fe.n≠RON→∀ args vs w x r,Glob.ok P w→z8d w args vs→z2g fe.ts args some=some x→fe.F x=some r→z3f P g vs.toArray w (Ret w fe.n fe.t r)) ∧
 (fe.n=RON→∀ args vs w ok x r,Glob.ok P w→(∀ k,ok k→k<w.heap.size)→z2l w ok args vs→z2g fe.ts args some=some x→fe.F x=some r→z3f P g vs.toArray w (zh9 w ok fe.t r))
theorem z8.new {P:Program} [Glob P] {g:FuncId} {fe:FE} (hn:Nat.beq fe.n RON=false) (h:∀ args vs w x r,Glob.ok P w→z8d w args vs→z2g fe.ts args some=some x→fe.F x=some r→z3f P g vs.toArray w (Ret w fe.n fe.t r)):z8 P g fe :=
 ⟨fun _=>h,fun e=>by rw [e] at hn; simp at hn⟩
theorem zqp [Glob P]:∀ {tab:List (Nat×FE)},(∀ e∈tab,z8 P e.1 e.2)→∀ {g:Nat} {args:List SVal} {n:Nat} {t:Ty} {r:t.T},zdd tab g args=some ⟨n,t,some r⟩→∃ fe x,z8 P g fe∧fe.n=n∧∃ e:fe.t=t,z2g fe.ts args some=some x∧fe.F x=some (e▸r)
 | [],_,g,args,n,t,r,h=>by cases h
 | (g',fe)::l,H,g,args,n,t,r,h=>by
  simp only [zdd] at h
  have ih:zdd l g args=some ⟨n,t,some r⟩→_:=fun h=>zqp (tab:=l) (fun e he=>H e (y27 _ he)) h
  cases hb:Nat.beq g' g <;> rw [hb] at h
  ·exact ih h
  ·have hg:=yq hb
   subst hg
   simp only [yi] at h
   rw [zqo] at h
   cases hx:z2g fe.ts args some with
   | none=>rw [hx] at h; exact ih h
   | some x =>
    rw [hx] at h
    simp only [y6,y37] at h
    have e1:fe.n=n:=congrArg CR.n h
    have e2:fe.t=t:=congrArg CR.t h
    subst e1; subst e2
    injection h with _ _ h4
    exact ⟨fe,x,H (g',fe) (List.mem_cons_self),rfl,rfl,hx,h4⟩
theorem SpecOK.of [Glob P] {ti:List TI} {tab:List (Nat×FE)} {opn:Nat→Option (FuncId×OC)} {pins:Nat→Value} {pinB:Nat→Nat} (H:∀ e∈tab,z8 P e.1 e.2)  {w0:World} {O:Nat→Prop} (G:z5r P w0 O):SpecOK P (z10 ti tab opn pins pinB) w0 O :=
 ⟨fun g args n t r hc hn w vs hkp ha=>by
   obtain ⟨fe,x,h1,h2,h3,h4,h5⟩:=zqp H hc
   subst h2
   subst h3
   exact h1.1 hn args vs w x r (G.now hkp) ha h4 h5,
  fun g args t r hc w ok vs hkp hk ha=>by
   obtain ⟨fe,x,h1,h2,h3,h4,h5⟩:=zqp H hc
   subst h3
   exact h1.2 h2 args vs w ok x r (G.now hkp) hk ha h4 h5⟩
theorem FnR.contract [Glob P] {ti:List TI} {tab:List (Nat×FE)} {opn:Nat→Option (FuncId×OC)} {pins:Nat→Value} {pinB:Nat→Nat} (T:zh P ti=true) (EQ:z2f P (z10 ti tab opn pins pinB)) (K:∀ w,z5r P w (fun _=>False)→z38 P (z10 ti tab opn pins pinB) w (fun _=>False)) (hmix:P.follows .mixedOrders=true) (S:∀ e∈tab,z8 P e.1 e.2) {g:FuncId} {ts:Ty} {n:Nat} {t:Ty} {F:ts.T→Option t.T}
  (H:FnR P (z10 ti tab opn pins pinB) g ts n t F) (hn:Nat.beq n RON=false):z8 P g ⟨ts,n,t,F⟩ :=
 ⟨fun _ args vs w x r G ha hx hr=>H.does T EQ (SpecOK.of S (.new G)) (K w (.new G)) hmix ha hx hr,fun e=>by have e:n=RON:=e; rw [e] at hn; simp at hn⟩
end

def Ty.ht:Ty→Nat
 | .st t=>t.ht+1
 | .pr a b=>max a.ht b.ht
 | _=>1
section
variable {P : Program} {E : Env} {w : World}

theorem zk7 (T:zh P E.ti=true) {f:TypeId} (h0:(E.tyOf f).sz≠0) {w1:World} {okk:Nat→Prop} {x:(E.tyOf f).T} {p a c:List Value} (hr:Rd w1 okk (E.tyOf f) x a):∃ v,(part f (p++a++c).toArray p.length).run P w=.ok v w∧z1n (E.tyOf f) v a:=by
 obtain ⟨ti,k1,k2,k3⟩:=z4d T h0
 obtain ⟨m1,m2,_⟩:=zb5 T k1 k3 w
 rw [k2] at m1 m2
 have hl:=Rd.len hr
 unfold part
 cases hst:(E.tyOf f).isSt with
 | true =>
  rw [hst] at m1
  refine ⟨.agg a.toArray,?_,.inl ⟨hst,rfl⟩⟩
  simp only [Sem.run_bind,m1,Result.andThen_ok,y7,m2,Sem.run_pure]
  congr 2
  rw [← hl]
  apply y1u
  simp
 | false =>
  rw [hst] at m1
  have h1:=zu5 T h0 hst
  rw [h1] at hl
  match a,hl with
  | [v],_ =>
   refine ⟨v,?_,.inr ⟨hst,rfl⟩⟩
   simp only [Sem.run_bind,m1,Result.andThen_ok,yc,y8]
   have:(p++[v]++c).toArray[p.length]?=some v:=by simp
   rw [this]
   rfl

def zw1 (P:Program) (E:Env) (d:Nat):Prop:=∀ (t:TypeId),(E.tyOf t).flat=true→(E.tyOf t).ht≤d→∀ (w:World) (x y:(E.tyOf t).T) (cs ds:List Value) (ok ok':Nat→Prop) (vx vy:Value),
 Rd w ok (E.tyOf t) x cs→Rd w ok' (E.tyOf t) y ds→z1n (E.tyOf t) vx cs→z1n (E.tyOf t) vy ds→∃ b,(Op.equalIn d t vx vy).run P w=.ok b w∧(b=true↔x=y)

theorem zw2 (T : zh P E.ti = true) {d : Nat} (H : zw1 P E d) {w : World} {ok ok' : Nat → Prop} : ∀ (fl : List Field) (n : Nat) (u : Ty), z4w E.ti (fl.map fun f => (f.type, f.offset)) n = some u → u.flat = true → u.ht ≤ d → (∀ f ∈ fl, f.name ≠ "_") →
  ∀ (x y:u.T) (p p' cs ds:List Value),p.length=n→p'.length=n→Rd w ok u x cs→Rd w ok' u y ds→∃ b,(Op.eqFields d (p++cs).toArray (p'++ds).toArray fl).run P w=.ok b w∧(b=true↔x=y)
 | [],n,u,h,_,_,_,_,_,_,_,_,_,_,_,_,_=>by cases h
 | [f],n,u,h,hf,hh,hnm,x,y,p,p',cs,ds,hp,hp',hx,hy=>by
  simp only [y1j,y33,z4w] at h
  cases hb:(Nat.beq f.offset n&&!Nat.beq (z1a E.ti f.type).sz 0) <;> rw [hb] at h
  ·cases h
  ·cases h
   simp only [yh,y1h] at hb
   have ho:=yq hb.1
   have h0:(E.tyOf f.type).sz≠0:=z4c hb.2
   obtain ⟨v1,e1,e2⟩:=zk7 (w:=w) (p:=p) (c:=[]) T h0 hx
   obtain ⟨v2,e3,e4⟩:=zk7 (w:=w) (p:=p') (c:=[]) T h0 hy
   rw [y1t,hp,← ho] at e1
   rw [y1t,hp',← ho] at e3
   obtain ⟨b,e5,e6⟩:=H f.type hf hh w x y cs ds ok ok' v1 v2 hx hy e2 e4
   refine ⟨b,?_,e6⟩
   simp only [Op.eqFields]
   rw [y4 (hnm f (by simp))]
   simp only [Sem.run_bind,e1,Result.andThen_ok,e3,e5]
   cases b <;> simp
 | f::f2::fl,n,u,h,hf,hh,hnm,x,y,p,p',cs,ds,hp,hp',hx,hy=>by
  simp only [y1j,z4w] at h
  cases hb:(Nat.beq f.offset n&&!Nat.beq (z1a E.ti f.type).sz 0) <;> rw [hb] at h
  ·cases h
  ·simp only [yi] at h
   split at h
   ·rename_i u' hu
    cases h
    simp only [yh,y1h] at hb
    simp only [Ty.flat,yh] at hf
    simp only [Ty.ht] at hh
    have ho:=yq hb.1
    have h0:(E.tyOf f.type).sz≠0:=z4c hb.2
    obtain ⟨c1,c2,rfl,x1,x2⟩:=hx
    obtain ⟨d1,d2,rfl,y1,y2⟩:=hy
    obtain ⟨v1,e1,e2⟩:=zk7 (w:=w) (p:=p) (c:=c2) T h0 x1
    obtain ⟨v2,e3,e4⟩:=zk7 (w:=w) (p:=p') (c:=d2) T h0 y1
    rw [hp,← ho,y11] at e1
    rw [hp',← ho,y11] at e3
    obtain ⟨b,e5,e6⟩:=H f.type hf.1 (y1o (Nat.le_max_left _ _) hh) w x.1 y.1 c1 d1 ok ok' v1 v2 x1 y1 e2 e4
    have l1:(p++c1).length=n+(z1a E.ti f.type).sz:=by rw [yl,hp,Rd.len x1]
    have l2:(p'++d1).length=n+(z1a E.ti f.type).sz:=by rw [yl,hp',Rd.len y1]
    obtain ⟨b2,g1,g2⟩:=zw2 T H (f2::fl) (n+(z1a E.ti f.type).sz) u' hu hf.2 (y1o (Nat.le_max_right _ _) hh) (fun q hq=>hnm q (by simp only [yx] at hq ⊢; exact .inr hq)) x.2 y.2 (p++c1) (p'++d1) c2 d2 l1 l2 x2 y2
    rw [y11,y11] at g1
    refine ⟨b&&b2,?_,?_⟩
    ·rw [Op.eqFields,y4 (hnm f (by simp))]
     simp only [Sem.run_bind,e1,Result.andThen_ok,e3,e5]
     cases b with
     | false=>simp
     | true=>simp only [y14,yc,y8,y1m]; exact g1
    ·rw [yh,e6,g2]
     constructor
     ·rintro ⟨h1,h2⟩; exact Prod.ext h1 h2
     ·intro h; rw [h]; exact ⟨rfl,rfl⟩
   ·cases h

theorem z1ap {t:Ty} (h:t.flat=true):0<t.ht:=by
 induction t with
 | pr a b iha ihb=>simp only [Ty.flat,yh] at h; have:=iha h.1; simp only [Ty.ht]; omega
 | st t ih=>simp only [Ty.ht]; omega
 | _=>simp [Ty.ht]

theorem zw3 (T:zh P E.ti=true):∀ d,zw1 P E d
 | 0=>fun t hf hh=>by have:=z1ap hf; omega
 | d+1=>by
  intro t hf hh w x y cs ds ok ok' vx vy hx hy wx wy
  obtain ⟨ti,k1,k2,k3⟩:=z4d T (zgy hf)
  obtain ⟨sh,ty,b⟩:=ti
  dsimp only at k2 k3
  have hsh:=(z2k T k1 k3).2
  have key:∀ (τ:Ty) (e:ty=τ) (hτ:E.tyOf t=τ),τ.flat=true→τ.ht≤d+1→∀ (x y:τ.T),Rd w ok τ x cs→Rd w ok' τ y ds→z1n τ vx cs→z1n τ vy ds→∃ b,(Op.equalIn (d+1) t vx vy).run P w=.ok b w∧(b=true↔x=y):=by
   intro τ e hτ hf hh x y hx hy wx wy
   unfold z3d at hsh
   split at hsh <;> rename_i g1 g2 g3
   ·have g3':ty=_:=g3
    rw [g3'] at e
    subst e
    rw [zdp hx wx,zdp hy wy]
    exact ⟨_,run_equalIn_int (P:=P) w d t _ _ _ _ g2,by simp⟩
   ·have g3':ty=_:=g3
    rw [g3'] at e
    subst e
    rw [zgx hx wx,zgx hy wy]
    exact ⟨_,run_equalIn_bool' (P:=P) w d t _ _ g2,by simp⟩
   ·have g3':ty=_:=g3
    rw [g3'] at e
    subst e
    rw [z9m hx wx,z9m hy wy]
    refine ⟨_,run_equalIn_string (P:=P) w d t _ _ g2,?_⟩
    simp
   ·have g3':ty=_:=g3
    rw [g3'] at e
    subst e
    cases hf
   ·have g3':ty=_:=g3
    rw [g3'] at e
    subst e
    cases hf
   ·have g3':ty=_:=g3
    rw [g3'] at e
    subst e
    cases hf
   ·have g3':ty=_:=g3
    rw [g3'] at e
    subst e
    rename_i fs fields u
    have g1':sh=.st fs:=g1
    subst g1'
    subst g3'
    obtain ⟨fields',u',h1,h2,h3,h4,h5⟩:=zdn T k1
    cases h3
    obtain ⟨h6,h7,h8⟩:=h5 hf
    have hfo:P.fieldsOf t=fields':=by unfold Program.fieldsOf; rw [h1]
    rcases wx with ⟨_,rfl⟩ | ⟨h,_⟩
    ·rcases wy with ⟨_,rfl⟩ | ⟨h,_⟩
     ·rw [run_equalIn_struct w d t _ _ (by rw [h1,hfo]) h6,hfo]
      simp only [Ty.ht] at hh
      have:=zw2 T (zw3 T d) (w:=w) fields'.toList 0 u (by rw [h2]; exact h4) hf (by omega) h8 x y [] [] cs ds rfl rfl hx hy
      simpa using this
     ·cases h
    ·cases h
   ·cases hsh
  exact key _ k2 rfl hf hh x y hx hy wx wy

def z4j (ti:List TI):Bool:=ti.all fun i=>Nat.ble i.ty.ht 9999
theorem z2f.of (T:zh P E.ti=true) (H:z4j E.ti=true):z2f P E:=by
 intro t fs u b hf ht w x y cs ds ok ok' hx hy
 have htyof:E.tyOf t=.st u:=by simp [Env.tyOf,ht]
 have hht:(Ty.st u).ht≤10000:=by
  simp only [z4j,y17] at H
  have:=y19 (H _ (ym ht))
  have h2:(Ty.st u).ht≤9999:=this
  omega
 have key:∀ (τ:Ty) (e:E.tyOf t=τ) (hf:τ.flat=true) (hh:τ.ht≤10000) (x y:τ.T),Rd w ok τ x cs→Rd w ok' τ y ds→z1n τ (.agg cs.toArray) cs→z1n τ (.agg ds.toArray) ds→∃ b,(Op.equalIn 10000 t (.agg cs.toArray) (.agg ds.toArray)).run P w=.ok b w∧(b=true↔x=y):=by
  intro τ e
  subst e
  intro hf hh x y hx hy w1 w2
  exact zw3 T 10000 t hf hh w x y cs ds ok ok' _ _ hx hy w1 w2
 obtain ⟨b,h1,h2⟩:=key (.st u) htyof hf hht x y hx hy (.inl ⟨rfl,rfl⟩) (.inl ⟨rfl,rfl⟩)
 rw [h1]
 congr 1
 rw [y49,h2]
 simp
end

theorem z7j (f fb:Nat→Nat) (s:SV):(s.ren2 f fb).roots=s.roots.map f∧(s.ren2 f fb).boxes=s.boxes.map fb∧(s.ren2 f fb).isSt=s.isSt∧(s.ren2 f fb).count=s.count∧(s.ren2 f fb).isCh=s.isCh:=by
 induction s with
 | st s ih=>exact ⟨ih.1,ih.2.1,rfl,rfl,rfl⟩
 | pr a b iha ihb=>exact ⟨by simp [SV.ren2,SV.roots,iha.1,ihb.1],by simp [SV.ren2,SV.boxes,iha.2.1,ihb.2.1],rfl,rfl,rfl⟩
 | clo g s ih=>exact ⟨ih.1,ih.2.1,rfl,rfl,rfl⟩
 | tup s ih=>exact ⟨ih.1,ih.2.1,rfl,rfl,rfl⟩
 | cns a b iha ihb=>exact ⟨by simp [SV.ren2,SV.roots,iha.1,ihb.1],by simp [SV.ren2,SV.boxes,iha.2.1,ihb.2.1],rfl,by simp [SV.ren2,SV.count,ihb.2.2.2.1],rfl⟩
 | val t x=>cases t <;> exact ⟨rfl,rfl,rfl,rfl,rfl⟩
 | _=>exact ⟨rfl,rfl,rfl,rfl,rfl⟩

section
variable {P : Program} {E E' : Env} {w0 w1 : World} {ok ok1 O : Nat → Prop} {σ σ' : St} {tm tm' : Array Value} {w w' : World} {M M' : Map} {a : Act}

structure Renm2 (M M':Map) (f fb:Nat→Nat) (I B:Nat→Prop):Prop where
 loc:∀ i,I i→M'.loc (f i)=M.loc i
 blk:∀ i,B i→M'.blk (fb i)=M.blk i∧M'.bn (fb i)=M.bn i∧M'.bw (fb i)=M.bw i
theorem z3w {f fb:Nat→Nat} {I B:Nat→Prop} (H:Renm2 M M' f fb I B):∀ {s:SV} {cs:List Value},(∀ i∈s.roots,I i)→(∀ i∈s.boxes,B i)→zc w0 ok M s cs→zc w0 ok M' (s.ren2 f fb) cs
 | .val t x,cs,_,_,hs=>by cases t <;> exact hs
 | .ref i p,cs,h,_,hs=>by
  have e:=H.loc i (h i (by simp [SV.roots]))
  simp only [SV.ren2,zc] at hs ⊢
  rw [e]; exact hs
 | .vw i lo n,cs,h,_,hs=>by
  have e:=H.loc i (h i (by simp [SV.roots]))
  simp only [SV.ren2,zc] at hs ⊢
  rw [e]; exact hs
 | .ls i,cs,_,h,hs=>by
  obtain ⟨e1,e2,_⟩:=H.blk i (h i (by simp [SV.boxes]))
  simp only [SV.ren2,zc] at hs ⊢
  rw [e1,e2]; exact hs
 | .st s,cs,h,hb,hs=>z3w H (s:=s) h hb hs
 | .pr a b,cs,h,hb,hs=>by
  obtain ⟨c1,c2,rfl,h1,h2⟩:=hs
  exact ⟨c1,c2,rfl,z3w H (fun i hi=>h i (by simp [SV.roots,hi])) (fun i hi=>hb i (by simp [SV.boxes,hi])) h1,z3w H (fun i hi=>h i (by simp [SV.roots,hi])) (fun i hi=>hb i (by simp [SV.boxes,hi])) h2⟩
 | .bp i p o,cs,_,h,hs=>by
  obtain ⟨e1,_,_⟩:=H.blk i (h i (by simp [SV.boxes]))
  simp only [SV.ren2,zc] at hs ⊢
  rw [e1]; exact hs
 | .ep i p n f' o,cs,h,_,hs=>by
  have e:=H.loc i (h i (by simp [SV.roots]))
  simp only [SV.ren2,zc] at hs ⊢
  rw [e]; exact hs
 | .lp i n,cs,_,h,hs=>by
  obtain ⟨e1,e2,e3⟩:=H.blk i (h i (by simp [SV.boxes]))
  simp only [SV.ren2,zc] at hs ⊢
  rw [e1,e2,e3]; exact hs
 | .clo g c,cs,h,hb,hs=>by
  obtain ⟨caps,rfl,h1⟩:=hs
  exact ⟨caps,rfl,z3w H (s:=c) h hb h1⟩
 | .no,cs,_,_,hs=>hs
 | .un,cs,_,_,hs=>hs
 | .tup _,_,_,_,h=>h.elim
 | .cns _ _,_,_,_,h=>h.elim
 | .nl,_,_,_,h=>h.elim
theorem zw4 {f fb:Nat→Nat} {I B:Nat→Prop} (H:Renm2 M M' f fb I B) {s:SV}:∀ {cs:List Value},(∀ i∈s.roots,I i)→(∀ i∈s.boxes,B i)→z1m w0 ok M s cs→z1m w0 ok M' (s.ren2 f fb) cs:=by
 induction s with
 | cns a b iha ihb =>
  intro cs h hb hs
  obtain ⟨c1,c2,rfl,h1,h2⟩:=hs
  exact ⟨c1,c2,rfl,z3w H (fun i hi=>h i (by simp [SV.roots,hi])) (fun i hi=>hb i (by simp [SV.boxes,hi])) h1,ihb (fun i hi=>h i (by simp [SV.roots,hi])) (fun i hi=>hb i (by simp [SV.boxes,hi])) h2⟩
 | nl=>intro cs _ _ hs; exact hs
 | val t x=>intro cs h hb hs; exact z13 (z3w H (s:=.val t x) h hb hs)
 | ref i p=>intro cs h hb hs; exact z13 (z3w H (s:=.ref i p) h hb hs)
 | vw i lo n=>intro cs h hb hs; exact z13 (z3w H (s:=.vw i lo n) h hb hs)
 | ls i=>intro cs h hb hs; exact z13 (z3w H (s:=.ls i) h hb hs)
 | st s _=>intro cs h hb hs; exact z13 (z3w H (s:=.st s) h hb hs)
 | pr a b _ _=>intro cs h hb hs; exact z13 (z3w H (s:=.pr a b) h hb hs)
 | bp i p o=>intro cs h hb hs; exact z13 (z3w H (s:=.bp i p o) h hb hs)
 | ep i p n f o=>intro cs h hb hs; exact z13 (z3w H (s:=.ep i p n f o) h hb hs)
 | lp i n=>intro cs h hb hs; exact z13 (z3w H (s:=.lp i n) h hb hs)
 | clo g s _=>intro cs h hb hs; exact z13 (z3w H (s:=.clo g s) h hb hs)
 | no=>intro cs _ _ hs; exact hs
 | un=>intro cs _ _ hs; exact hs
 | tup s _=>intro cs _ _ hs; exact hs.elim
theorem z1aq {f fb:Nat→Nat} {I B:Nat→Prop} (H:Renm2 M M' f fb I B) {s:SV}:∀ {vs:List Value},(∀ i∈s.roots,I i)→(∀ i∈s.boxes,B i)→z2h w0 ok M s vs→z2h w0 ok M' (s.ren2 f fb) vs:=by
 induction s with
 | cns a b iha ihb =>
  intro vs h hb hs
  obtain ⟨v,vs',rfl,⟨cs,h1,h3⟩,h2⟩:=hs
  exact ⟨v,vs',rfl,⟨cs,z3w H (fun i hi=>h i (by simp [SV.roots,hi])) (fun i hi=>hb i (by simp [SV.boxes,hi])) h1,by rw [(z7j f fb a).2.2.1]; exact h3⟩,ihb (fun i hi=>h i (by simp [SV.roots,hi])) (fun i hi=>hb i (by simp [SV.boxes,hi])) h2⟩
 | nl=>intro vs _ _ hs; exact hs
 | _=>intro vs _ _ hs; exact hs.elim
theorem zw5 {f fb:Nat→Nat} {I B:Nat→Prop} (H:Renm2 M M' f fb I B) {s:SV} {v:Value} (h:∀ i∈s.roots,I i) (hb:∀ i∈s.boxes,B i) (hs:zr w0 ok M s v):zr w0 ok M' (s.ren2 f fb) v:=by
 rcases z35 hs with rfl | ⟨c,vs,rfl,rfl,h1⟩ | ⟨cs,h1,h2⟩
 ·trivial
 ·exact ⟨vs,rfl,z1aq H h hb h1⟩
 ·exact z1t (z3w H h hb h1) (by unfold z2s; rw [(z7j f fb s).2.2.1]; exact h2)

def zk8 (x y:Loc):Prop:=∃ e t,∃ l l':L (.sl e t),x=⟨.sl e t,l⟩∧y=⟨.sl e t,l'⟩∧l'.1=l.1∧l'.2.1=l.2.1∧l'.2.2.length=l.2.2.length
structure Near (M M':Map) (gr dp gb db:Nat→Bool) (S:SV):Prop where
 loc:∀ i∈S.roots,gr i=false→(dp i=false→M'.loc i=M.loc i)∧zk8 (M.loc i) (M'.loc i)
 blk:∀ i∈S.boxes,gb i=false→M'.blk i=M.blk i∧(db i=false→M'.bn i=M.bn i∧M'.bw i=M.bw i)
 gd:∀ i,gb i=true→db i=true
theorem Near.mono {gr dp gb db:Nat→Bool} {s s':SV} (h:Near M M' gr dp gb db s) (h1:∀ i∈s'.roots,i∈s.roots) (h2:∀ i∈s'.boxes,i∈s.boxes):Near M M' gr dp gb db s' :=
 ⟨fun i hi=>h.loc i (h1 i hi),fun i hi=>h.blk i (h2 i hi),h.gd⟩
theorem zw6 {p:List Step} {e:TypeId} {t:Ty} {l:L (.sl e t)} {y:Loc} (h:zy (.sl e t) l p=some y) (hp:Nat.blt 0 (ixs p)=false):p=[]:=by
 match p with
 | []=>rfl
 | .ix n::p =>
  have:Nat.blt 0 (ixs (.ix n::p))=true:=y32 (by simp [ixs])
  rw [this] at hp; cases hp
 | .f _::_=>cases h
 | .u::_=>cases h
theorem z9y {s:SV} {cs:List Value} (hw:Wk s .un) (h:zc w0 ok M s cs):zc w0 ok M' .un cs :=
 have q:zc w0 ok M .un cs:=hw.V h
 q
theorem z3x {gr dp gb db:Nat→Bool}:∀ {s:SV} {cs:List Value},Near M M' gr dp gb db s→zc w0 ok M s cs→zc w0 ok M' (s.cutR gr dp gb db) cs
 | .val t x,cs,_,hs=>by cases t <;> exact hs
 | .ref i p,cs,h,hs=>by
  obtain ⟨h1,_,_⟩:=h
  have h1:=h1 i (by simp [SV.roots])
  simp only [SV.cutR]
  cases hg:gr i with
  | true=>simp only [Bool.true_or,yi]; exact z9y (Wk.ref i p) hs
  | false =>
   obtain ⟨e1,e,t,l,l',e2,e3,e4,e5,e6⟩:=h1 hg
   cases hd:dp i with
   | false=>simp only [y4e,y4h,yn]; simp only [zc] at hs ⊢; rw [e1 hd]; exact hs
   | true =>
    cases hp:Nat.blt 0 (ixs p) with
    | true=>simp only [y3v,Bool.and_self,yi]; exact z9y (Wk.ref i p) hs
    | false =>
     simp only [y4x,y4h,yn]
     obtain ⟨e',t',q,h2,rfl⟩:=hs
     rw [e2] at h2
     have:=zw6 h2 hp
     subst this
     cases h2
     exact ⟨e,t,l',by rw [e3]; rfl,by simp [za,e4,e5,e6]⟩
 | .vw i lo n,cs,h,hs=>by
  obtain ⟨h1,_,_⟩:=h
  have h1:=h1 i (by simp [SV.roots])
  simp only [SV.cutR]
  cases hg:gr i with
  | true=>simp only [yi]; exact z9y (Wk.vw i lo n) hs
  | false =>
   simp only [yn]
   obtain ⟨e1,e,t,l,l',e2,e3,e4,e5,e6⟩:=h1 hg
   obtain ⟨e',t',q,h2,h3,A,c,rfl,h4,h5⟩:=hs
   rw [e2] at h2
   cases h2
   exact ⟨e,t,l',e3,by rw [e6]; exact h3,A,c,rfl,by rw [e5]; exact h4,by rw [e4]; exact h5⟩
 | .ls i,cs,h,hs=>by
  obtain ⟨_,h1,gd⟩:=h
  have h1:=h1 i (by simp [SV.boxes])
  simp only [SV.cutR]
  cases hd:db i with
  | true=>simp only [yi]; exact z9y (Wk.ls i) hs
  | false =>
   simp only [yn]
   cases hg:gb i with
   | true=>rw [gd i hg] at hd; cases hd
   | false =>
    obtain ⟨e1,e2⟩:=h1 hg
    simp only [zc] at hs ⊢
    rw [e1,(e2 hd).1]; exact hs
 | .st s,cs,h,hs=>z3x (s:=s) (h.mono (fun _ hi=>hi) (fun _ hi=>hi)) hs
 | .pr a b,cs,h,hs=>by
  obtain ⟨c1,c2,rfl,h1,h2⟩:=hs
  exact ⟨c1,c2,rfl,z3x (h.mono (fun i hi=>by simp [SV.roots,hi]) (fun i hi=>by simp [SV.boxes,hi])) h1,z3x (h.mono (fun i hi=>by simp [SV.roots,hi]) (fun i hi=>by simp [SV.boxes,hi])) h2⟩
 | .bp i p o,cs,h,hs=>by
  obtain ⟨_,h1,gd⟩:=h
  have h1:=h1 i (by simp [SV.boxes])
  simp only [SV.cutR]
  cases hg:gb i with
  | true=>simp only [yi]; exact z9y (Wk.bp i p o) hs
  | false=>simp only [yn]; simp only [zc] at hs ⊢; rw [(h1 hg).1]; exact hs
 | .ep i p n f o,cs,h,hs=>by
  obtain ⟨h1,_,_⟩:=h
  have h1:=h1 i (by simp [SV.roots])
  simp only [SV.cutR]
  cases hg:gr i with
  | true=>simp only [Bool.true_or,yi]; exact z9y (Wk.ep i p n f o) hs
  | false =>
   obtain ⟨e1,e,t,l,l',e2,e3,e4,e5,e6⟩:=h1 hg
   cases hd:dp i with
   | false=>simp only [y4e,y4h,yn]; simp only [zc] at hs ⊢; rw [e1 hd]; exact hs
   | true =>
    cases hp:Nat.blt 0 (ixs p) with
    | true=>simp only [y3v,Bool.and_self,yi]; exact z9y (Wk.ep i p n f o) hs
    | false =>
     simp only [y4x,y4h,yn]
     obtain ⟨e',t',q,g,h2,h3,h4,rfl⟩:=hs
     rw [e2] at h2
     have:=zw6 h2 hp
     subst this
     cases h2
     exact ⟨e,t,l',g,by rw [e3]; rfl,by rw [e4]; exact h3,by rw [e6]; exact h4,rfl⟩
 | .lp i n,cs,h,hs=>by
  obtain ⟨_,h1,gd⟩:=h
  have h1:=h1 i (by simp [SV.boxes])
  simp only [SV.cutR]
  cases hd:db i with
  | true=>simp only [yi]; exact z9y (Wk.lp i n) hs
  | false =>
   simp only [yn]
   cases hg:gb i with
   | true=>rw [gd i hg] at hd; cases hd
   | false =>
    obtain ⟨e1,e2⟩:=h1 hg
    simp only [zc] at hs ⊢
    rw [e1,(e2 hd).1,(e2 hd).2]; exact hs
 | .clo g c,cs,h,hs=>by
  obtain ⟨caps,rfl,h1⟩:=hs
  exact ⟨caps,rfl,z3x (s:=c) (h.mono (fun _ hi=>hi) (fun _ hi=>hi)) h1⟩
 | .no,cs,_,hs=>hs
 | .un,cs,_,hs=>hs
 | .tup _,_,_,h=>h.elim
 | .cns _ _,_,_,h=>h.elim
 | .nl,_,_,h=>h.elim
end

theorem z5c {l:List Nat} {i:Nat}:has l i=true↔i∈l:=by
 unfold has
 rw [y3h]
 constructor
 ·rintro ⟨j,hj,h⟩; exact yq h▸hj
 ·intro h; exact ⟨i,h,by simp⟩
theorem z1ar {l:List Nat} {i:Nat}:has l i=false↔i∉l:=by
 rw [← z5c]; simp
theorem zhi:∀ {l:List Nat},z4r l=true→l.Nodup
 | [],_=>y3n
 | i::l,h=>by
  simp only [z4r,yh] at h
  refine y1x.2 ⟨fun hm=>?_,zhi h.2⟩
  have:l.any (Nat.beq i)=true:=y3h.2 ⟨i,hm,by simp⟩
  rw [this] at h
  simp at h
theorem z7k:∀ {l:List Nat} {k i:Nat},l[k]?=some i→z1v l k=i
 | [],k,i,h=>by simp at h
 | j::l,0,i,h=>by simpa [z1v] using h
 | j::l,k+1,i,h=>by simp only [y1q] at h; exact z7k (l:=l) (k:=k) h
theorem zw7 {l:List Nat} {k:Nat} (h:k<l.length):∃ i,l[k]?=some i∧z1v l k=i∧i∈l:=by
 have:=yj h
 exact ⟨_,this,z7k this,y1l h⟩
theorem zk9 {l:List Nat} (h:l.Nodup) {k m i:Nat} (h1:l[k]?=some i) (h2:l[m]?=some i):k=m:=by
 obtain ⟨k1,e1⟩:=yo.1 h1
 obtain ⟨k2,e2⟩:=yo.1 h2
 exact zqh h k1 k2 (e1.trans e2.symm)
theorem zqq {ids:List Nat} {i:Nat} (h:i∈ids):∃ k,z25 ids i=PIN+k∧ids[k]?=some i:=by
 obtain ⟨k,h1,h2⟩:=zbb ids i 0 h
 exact ⟨k,by unfold z25; rw [h1,Nat.zero_add],h2⟩
theorem zka {ids:List Nat} {i:Nat} (h:i∈ids):z1v ids (z25 ids i-PIN)=i:=by
 obtain ⟨k,h1,h2⟩:=zqq h
 rw [h1,y3i]
 exact z7k h2
theorem z5d {α:Type}:∀ {l:List (Nat×α)} {j:Nat} {r:α},(l.map (·.1)).Nodup→(j,r)∈l→lk l j=some r
 | [],j,r,_,h=>by cases h
 | (i,x)::l,j,r,hn,h=>by
  rw [zu]
  simp only [y1j,y1x] at hn
  rcases yx.1 h with e | h
  ·cases e; rw [y4 rfl]
  ·rw [y5 (fun e=>hn.1 (y1f.2 ⟨(j,r),h,e.symm⟩))]
   exact z5d hn.2 h
theorem z5v {α:Type}:∀ {l:List (Nat×α)} {j:Nat},j∈l.map (·.1)→∃ r,lk l j=some r
 | [],j,h=>by cases h
 | (i,x)::l,j,h=>by
  rw [zu]
  by_cases e:i=j
  ·exact ⟨x,by rw [y4 e]⟩
  ·rw [y5 e]
   simp only [y1j,yx] at h
   exact z5v (h.resolve_left (fun q=>e q.symm))
theorem ze4 {α:Type} (ids:List Nat):∀ (l:List (Nat×α)) (i:Nat),lk (z4t ids l) i=if i∈ids then none else lk l i
 | [],i=>by simp [z4t,lk]
 | (j,x)::l,i=>by
  simp only [z4t]
  cases h:has ids j with
  | true =>
   have:=z5c.1 h
   simp only [yi]
   rw [ze4 ids l i,zu]
   by_cases e:j=i
   ·subst e; rw [y4 this,y4 this]
   ·rw [y5 e]
  | false =>
   have:=z1ar.1 h
   simp only [yn]
   rw [zu,zu,ze4 ids l i]
   by_cases e:j=i
   ·subst e; rw [y4 rfl,y5 this,y4 rfl]
   ·rw [y5 e,y5 e]
theorem zkb {f:Nat→Nat}:∀ {l:List (Nat×Row)} {i:Nat} {r:Row},(i,r)∈z9b f l↔∃ j,f j=i∧(j,r)∈l
 | [],i,r=>by simp [z9b]
 | (k,x)::l,i,r=>by
  simp only [z9b,yx,zkb (l:=l),y2h]
  constructor
  ·rintro (⟨rfl,rfl⟩ | ⟨j,h1,h2⟩)
   ·exact ⟨k,rfl,.inl ⟨rfl,rfl⟩⟩
   ·exact ⟨j,h1,.inr h2⟩
  ·rintro ⟨j,h1,⟨rfl,rfl⟩ | h2⟩
   ·exact .inl ⟨h1.symm,rfl⟩
   ·exact .inr ⟨j,h1,h2⟩
theorem zkc {f fb:Nat→Nat}:∀ {l:List (Nat×Bx)} {i:Nat} {b:Bx},(i,b)∈z9c f fb l↔∃ j b0,fb j=i∧(j,b0)∈l∧b=⟨b0.ty,b0.c.ren2 f fb⟩
 | [],i,r=>by simp [z9c]
 | (k,x)::l,i,r=>by
  simp only [z9c,yx,zkc (l:=l),y2h]
  constructor
  ·rintro (⟨rfl,rfl⟩ | ⟨j,b0,h1,h2,h3⟩)
   ·exact ⟨k,x,rfl,.inl ⟨rfl,rfl⟩,rfl⟩
   ·exact ⟨j,b0,h1,.inr h2,h3⟩
  ·rintro ⟨j,b0,h1,⟨rfl,rfl⟩ | h2,h3⟩
   ·exact .inl ⟨h1.symm,h3⟩
   ·exact .inr ⟨j,b0,h1,h2,h3⟩
theorem zw8 (f:Nat→Nat):∀ l:List (Nat×Row),(z9b f l).map (·.1)=(l.map (·.1)).map f
 | []=>rfl
 | (k,x)::l=>by simp [z9b,zw8 f l]
theorem zw9 (f fb:Nat→Nat):∀ l:List (Nat×Bx),(z9c f fb l).map (·.1)=(l.map (·.1)).map fb
 | []=>rfl
 | (k,x)::l=>by simp [z9c,zw9 f fb l]
theorem zkd:∀ {l:List SV} {n j:Nat} {s:SV},lk (z82 l n) j=some s→∃ k,j=n+k∧l[k]?=some s
 | [],n,j,s,h=>by cases h
 | x::l,n,j,s,h=>by
  simp only [z82,zu] at h
  split at h
  ·rename_i e; cases h; exact ⟨0,by omega,rfl⟩
  ·obtain ⟨k,h1,h2⟩:=zkd h
   exact ⟨k+1,by omega,by simpa using h2⟩
theorem zwa {rows:List (Nat×Row)}:∀ {ids:List Nat} {n j:Nat} {r:Row},lk (z64 rows ids n) j=some r→∃ k i,j=n+k∧ids[k]?=some i∧lk rows i=some r
 | [],n,j,r,h=>by cases h
 | i::l,n,j,r,h=>by
  have ih:lk (z64 rows l (n+1)) j=some r→∃ k i',j=n+k∧(i::l)[k]?=some i'∧lk rows i'=some r:=fun h=>by
   obtain ⟨k,i',h1,h2,h3⟩:=zwa h
   exact ⟨k+1,i',by omega,by simpa using h2,h3⟩
  simp only [z64] at h
  split at h
  ·rename_i x hx
   rw [zu] at h
   split at h
   ·rename_i e; cases h; exact ⟨0,i,by omega,rfl,hx⟩
   ·exact ih h
  ·exact ih h
theorem zwb {rows:List (Nat×Row)}:∀ {ids:List Nat} {n k i:Nat} {r:Row},ids[k]?=some i→lk rows i=some r→lk (z64 rows ids n) (n+k)=some r
 | [],n,k,i,r,h,_=>by simp at h
 | j::l,n,0,i,r,h,hr=>by
  simp at h; subst h
  simp only [z64,hr,y2o]
  exact z5q _ _ _
 | j::l,n,k+1,i,r,h,hr=>by
  simp only [y1q] at h
  have:=zwb (n:=n+1) h hr
  simp only [z64]
  split
  ·rw [zu,y5 (by omega),show n+(k+1)=n+1+k by omega]; exact this
  ·rw [show n+(k+1)=n+1+k by omega]; exact this
theorem zwc {bx:List (Nat×Bx)} {f fb:Nat→Nat}:∀ {ids:List Nat} {n j:Nat} {b:Bx},lk (z65 bx f fb ids n) j=some b→∃ k i b0,j=n+k∧ids[k]?=some i∧lk bx i=some b0∧b=⟨b0.ty,b0.c.ren2 f fb⟩
 | [],n,j,r,h=>by cases h
 | i::l,n,j,r,h=>by
  have ih:lk (z65 bx f fb l (n+1)) j=some r→∃ k i' b0,j=n+k∧(i::l)[k]?=some i'∧lk bx i'=some b0∧r=⟨b0.ty,b0.c.ren2 f fb⟩:=fun h=>by
   obtain ⟨k,i',b0,h1,h2,h3⟩:=zwc h
   exact ⟨k+1,i',b0,by omega,by simpa using h2,h3⟩
  simp only [z65] at h
  split at h
  ·rename_i x hx
   rw [zu] at h
   split at h
   ·rename_i e; cases h; exact ⟨0,i,x,by omega,rfl,hx,rfl⟩
   ·exact ih h
  ·exact ih h
theorem zwd {bx:List (Nat×Bx)} {f fb:Nat→Nat}:∀ {ids:List Nat} {n k i:Nat} {b:Bx},ids[k]?=some i→lk bx i=some b→lk (z65 bx f fb ids n) (n+k)=some ⟨b.ty,b.c.ren2 f fb⟩
 | [],n,k,i,r,h,_=>by simp at h
 | j::l,n,0,i,r,h,hr=>by
  simp at h; subst h
  simp only [z65,hr,y2o]
  exact z5q _ _ _
 | j::l,n,k+1,i,r,h,hr=>by
  simp only [y1q] at h
  have:=zwd (f:=f) (fb:=fb) (n:=n+1) h hr
  simp only [z65]
  split
  ·rw [zu,y5 (by omega),show n+(k+1)=n+1+k by omega]; exact this
  ·rw [show n+(k+1)=n+1+k by omega]; exact this
theorem zke (gr dp gb db:Nat→Bool) (gd:∀ i,gb i=true→db i=true) (s:SV):(∀ i∈(s.cutR gr dp gb db).roots,i∈s.roots∧gr i=false)∧(∀ i∈(s.cutR gr dp gb db).boxes,i∈s.boxes∧gb i=false)∧(s.cutR gr dp gb db).isSt=s.isSt∧(s.cutR gr dp gb db).count=s.count∧(s.cutR gr dp gb db).isCh=s.isCh:=by
 induction s with
 | st s ih=>exact ⟨ih.1,ih.2.1,rfl,rfl,rfl⟩
 | pr a b iha ihb =>
  refine ⟨fun i hi=>?_,fun i hi=>?_,rfl,rfl,rfl⟩
  ·simp only [SV.cutR,SV.roots,yd] at hi ⊢
   rcases hi with h | h
   ·exact ⟨.inl (iha.1 i h).1,(iha.1 i h).2⟩
   ·exact ⟨.inr (ihb.1 i h).1,(ihb.1 i h).2⟩
  ·simp only [SV.cutR,SV.boxes,yd] at hi ⊢
   rcases hi with h | h
   ·exact ⟨.inl (iha.2.1 i h).1,(iha.2.1 i h).2⟩
   ·exact ⟨.inr (ihb.2.1 i h).1,(ihb.2.1 i h).2⟩
 | clo g s ih=>exact ⟨ih.1,ih.2.1,rfl,rfl,rfl⟩
 | tup s ih=>exact ⟨ih.1,ih.2.1,rfl,rfl,rfl⟩
 | cns a b iha ihb =>
  refine ⟨fun i hi=>?_,fun i hi=>?_,rfl,by simp [SV.cutR,SV.count,ihb.2.2.2.1],rfl⟩
  ·simp only [SV.cutR,SV.roots,yd] at hi ⊢
   rcases hi with h | h
   ·exact ⟨.inl (iha.1 i h).1,(iha.1 i h).2⟩
   ·exact ⟨.inr (ihb.1 i h).1,(ihb.1 i h).2⟩
  ·simp only [SV.cutR,SV.boxes,yd] at hi ⊢
   rcases hi with h | h
   ·exact ⟨.inl (iha.2.1 i h).1,(iha.2.1 i h).2⟩
   ·exact ⟨.inr (ihb.2.1 i h).1,(ihb.2.1 i h).2⟩
 | ref j p =>
  simp only [SV.cutR]
  cases hg:gr j with
  | true=>exact ⟨by simp [SV.roots],by simp [SV.boxes],rfl,rfl,rfl⟩
  | false =>
   cases hq:(dp j&&Nat.blt 0 (ixs p)) with
   | true=>exact ⟨by simp [SV.roots],by simp [SV.boxes],rfl,rfl,rfl⟩
   | false=>exact ⟨fun i hi=>by simp [SV.roots] at hi ⊢; subst hi; exact ⟨rfl,hg⟩,by simp [SV.boxes],rfl,rfl,rfl⟩
 | vw j p n =>
  simp only [SV.cutR]
  cases hg:gr j with
  | true=>exact ⟨by simp [SV.roots],by simp [SV.boxes],rfl,rfl,rfl⟩
  | false=>exact ⟨fun i hi=>by simp [SV.roots] at hi ⊢; subst hi; exact ⟨rfl,hg⟩,by simp [SV.boxes],rfl,rfl,rfl⟩
 | ep j p n f o =>
  simp only [SV.cutR]
  cases hg:gr j with
  | true=>exact ⟨by simp [SV.roots],by simp [SV.boxes],rfl,rfl,rfl⟩
  | false =>
   cases hq:(dp j&&Nat.blt 0 (ixs p)) with
   | true=>exact ⟨by simp [SV.roots],by simp [SV.boxes],rfl,rfl,rfl⟩
   | false=>exact ⟨fun i hi=>by simp [SV.roots] at hi ⊢; subst hi; exact ⟨rfl,hg⟩,by simp [SV.boxes],rfl,rfl,rfl⟩
 | bp j p o =>
  simp only [SV.cutR]
  cases hg:gb j with
  | true=>exact ⟨by simp [SV.roots],by simp [SV.boxes],rfl,rfl,rfl⟩
  | false=>exact ⟨by simp [SV.roots],fun i hi=>by simp [SV.boxes] at hi ⊢; subst hi; exact ⟨rfl,hg⟩,rfl,rfl,rfl⟩
 | ls j =>
  simp only [SV.cutR]
  cases hg:db j with
  | true=>exact ⟨by simp [SV.roots],by simp [SV.boxes],rfl,rfl,rfl⟩
  | false=>exact ⟨by simp [SV.roots],fun i hi=>by
    simp [SV.boxes] at hi ⊢; subst hi
    exact ⟨rfl,by cases hq:gb i with | false=>rfl | true=>rw [gd i hq] at hg; cases hg⟩,rfl,rfl,rfl⟩
 | lp j n =>
  simp only [SV.cutR]
  cases hg:db j with
  | true=>exact ⟨by simp [SV.roots],by simp [SV.boxes],rfl,rfl,rfl⟩
  | false=>exact ⟨by simp [SV.roots],fun i hi=>by
    simp [SV.boxes] at hi ⊢; subst hi
    exact ⟨rfl,by cases hq:gb i with | false=>rfl | true=>rw [gd i hq] at hg; cases hg⟩,rfl,rfl,rfl⟩
 | val t x=>cases t <;> exact ⟨by simp [SV.cutR,SV.roots],by simp [SV.cutR,SV.boxes],rfl,rfl,rfl⟩
 | _=>exact ⟨by simp [SV.cutR,SV.roots],by simp [SV.cutR,SV.boxes],rfl,rfl,rfl⟩

section
variable {P : Program} {E E' : Env} {w0 w1 : World} {ok ok1 O : Nat → Prop} {σ σ' τ : St} {tm tm' : Array Value} {w w' : World} {M M' : Map} {a : Act}

theorem z1as {gr dp gb db:Nat→Bool} {s:SV}:∀ {cs:List Value},Near M M' gr dp gb db s→z1m w0 ok M s cs→z1m w0 ok M' (s.cutR gr dp gb db) cs:=by
 induction s with
 | cns a b iha ihb =>
  intro cs h hs
  obtain ⟨c1,c2,rfl,h1,h2⟩:=hs
  exact ⟨c1,c2,rfl,z3x (h.mono (fun i hi=>by simp [SV.roots,hi]) (fun i hi=>by simp [SV.boxes,hi])) h1,ihb (h.mono (fun i hi=>by simp [SV.roots,hi]) (fun i hi=>by simp [SV.boxes,hi])) h2⟩
 | nl=>intro cs _ hs; exact hs
 | val t x=>intro cs h hs; exact z13 (z3x (s:=.val t x) h hs)
 | ref i p=>intro cs h hs; exact z13 (z3x (s:=.ref i p) h hs)
 | vw i lo n=>intro cs h hs; exact z13 (z3x (s:=.vw i lo n) h hs)
 | ls i=>intro cs h hs; exact z13 (z3x (s:=.ls i) h hs)
 | st s _=>intro cs h hs; exact z13 (z3x (s:=.st s) h hs)
 | pr a b _ _=>intro cs h hs; exact z13 (z3x (s:=.pr a b) h hs)
 | bp i p o=>intro cs h hs; exact z13 (z3x (s:=.bp i p o) h hs)
 | ep i p n f o=>intro cs h hs; exact z13 (z3x (s:=.ep i p n f o) h hs)
 | lp i n=>intro cs h hs; exact z13 (z3x (s:=.lp i n) h hs)
 | clo g s _=>intro cs h hs; exact z13 (z3x (s:=.clo g s) h hs)
 | no=>intro cs _ hs; exact hs
 | un=>intro cs _ hs; exact hs
 | tup s _=>intro cs _ hs; exact hs.elim
theorem z1at {gr dp gb db:Nat→Bool} (gd:∀ i,gb i=true→db i=true) {s:SV}:∀ {vs:List Value},Near M M' gr dp gb db s→z2h w0 ok M s vs→z2h w0 ok M' (s.cutR gr dp gb db) vs:=by
 induction s with
 | cns a b iha ihb =>
  intro vs h hs
  obtain ⟨v,vs',rfl,⟨cs,h1,h3⟩,h2⟩:=hs
  exact ⟨v,vs',rfl,⟨cs,z3x (h.mono (fun i hi=>by simp [SV.roots,hi]) (fun i hi=>by simp [SV.boxes,hi])) h1,by rw [(zke gr dp gb db gd a).2.2.1]; exact h3⟩,ihb (h.mono (fun i hi=>by simp [SV.roots,hi]) (fun i hi=>by simp [SV.boxes,hi])) h2⟩
 | nl=>intro vs _ hs; exact hs
 | _=>intro vs _ hs; exact hs.elim
theorem z1au {gr dp gb db:Nat→Bool} {s:SV} {v:Value} (h:Near M M' gr dp gb db s) (hs:zr w0 ok M s v):zr w0 ok M' (s.cutR gr dp gb db) v:=by
 rcases z35 hs with rfl | ⟨c,vs,rfl,rfl,h1⟩ | ⟨cs,h1,h2⟩
 ·trivial
 ·exact ⟨vs,rfl,z1at h.gd (s:=c) (h.mono (fun i hi=>hi) (fun i hi=>hi)) h1⟩
 ·exact z1t (z3x h h1) (by unfold z2s; rw [(zke gr dp gb db h.gd s).2.2.1]; exact h2)

def Own (M:Map) (ids bids:List Nat) (k:Nat):Prop:=(∃ i∈ids,k∈z7 (M.loc i).1 (M.loc i).2)∨∃ b∈bids,k=M.blk b
def ze5 (M:Map) (ids bids:List Nat):Map:=⟨fun j=>M.loc (z1v ids (j-PIN)),fun j=>M.blk (z1v bids (j-PIN)),fun j=>M.bn (z1v bids (j-PIN)),fun j=>M.bw (z1v bids (j-PIN))⟩
def hdL (x:Loc):Value:=(za x.1 x.2).headD undef
def zkf (E:Env) (M:Map) (ids bids:List Nat):Env:={ E with pins:=fun j=>hdL (M.loc (z1v ids (j-PIN))),pinB:=fun j=>M.blk (z1v bids (j-PIN)) }

structure InOK (σ:St) (l:List SV) (ids bids:List Nat):Prop where
 nd:ids.Nodup
 ndB:bids.Nodup
 args:∀ s∈l,(∀ i∈s.roots,i∈ids)∧∀ i∈s.boxes,i∈bids
 bx:∀ b∈bids,∃ x,lk σ.bx b=some x∧(∀ i∈x.c.boxes,i∈bids)∧∀ i∈x.c.roots,i∈ids
 rows:∀ i∈ids,∃ r,lk σ.rows i=some r
theorem z1av {l:List SV} {ids bids:List Nat} (h:σ.okIn l ids bids=true):InOK σ l ids bids:=by
 simp only [St.okIn,yh,y17] at h
 obtain ⟨h1,h2,h3,h4,h5⟩:=h
 refine ⟨zhi h1,zhi h2,fun s hs=>⟨fun i hi=>z5c.1 ((h3 s hs).1 i hi),fun i hi=>z5c.1 ((h3 s hs).2 i hi)⟩,fun b hb=>?_,fun i hi=>?_⟩
 ·obtain ⟨k1,k2,k3⟩:=h4 b hb
  unfold zpc at k2
  unfold ziw at k3
  cases hq:lk σ.bx b with
  | none=>rw [hq] at k1; cases k1
  | some x=>rw [hq] at k2 k3; exact ⟨x,rfl,fun i hi=>z5c.1 (k2 i hi),fun i hi=>z5c.1 (k3 i hi)⟩
 ·have:=h5 i hi
  cases hq:lk σ.rows i with
  | none=>rw [hq] at this; cases this
  | some r=>exact ⟨r,rfl⟩

theorem zwe {x:Loc} {e:TypeId} {t:Ty} {l:L (.sl e t)} (h:x=⟨.sl e t,l⟩):za x.1 x.2=[hdL x]:=by subst h; rfl

theorem z1aw (R:Rep E w0 ok O σ tm w M) {l:List SV} {vs:List Value} {ids bids:List Nat} (H:InOK σ l ids bids) (hl:l.length=vs.length) (hs:∀ (k:Nat) s v,l[k]?=some s→vs[k]?=some v→zr w0 ok M s v) :
  Rep (zkf E M ids bids) w ok (Own M ids bids) ⟨z82 (l.map (SV.ren2 (z25 ids) (z25 bids))) 0,z64 σ.rows ids PIN,z65 σ.bx (z25 ids) (z25 bids) bids PIN⟩ vs.toArray w (ze5 M ids bids):=by
 have HR:Renm2 M (ze5 M ids bids) (z25 ids) (z25 bids) (·∈ids) (·∈bids) :=
  ⟨fun i hi=>by show M.loc (z1v ids (z25 ids i-PIN))=_; rw [zka hi],fun i hi=>by
   refine ⟨?_,?_,?_⟩
   ·show M.blk (z1v bids (z25 bids i-PIN))=_; rw [zka hi]
   ·show M.bn (z1v bids (z25 bids i-PIN))=_; rw [zka hi]
   ·show M.bw (z1v bids (z25 bids i-PIN))=_; rw [zka hi]⟩
 have row:∀ j r,lk (z64 σ.rows ids PIN) j=some r→∃ k i,j=PIN+k∧ids[k]?=some i∧i∈ids∧lk σ.rows i=some r∧(ze5 M ids bids).loc j=M.loc i:=fun j r h=>by
  obtain ⟨k,i,rfl,h2,h3⟩:=zwa h
  exact ⟨k,i,rfl,h2,ym h2,h3,by show M.loc (z1v ids (PIN+k-PIN))=_; rw [y3i,z7k h2]⟩
 have box:∀ j b,lk (z65 σ.bx (z25 ids) (z25 bids) bids PIN) j=some b→∃ k i b0,j=PIN+k∧bids[k]?=some i∧i∈bids∧lk σ.bx i=some b0∧b=⟨b0.ty,b0.c.ren2 (z25 ids) (z25 bids)⟩∧(ze5 M ids bids).blk j=M.blk i∧(ze5 M ids bids).bn j=M.bn i∧(ze5 M ids bids).bw j=M.bw i:=fun j b h=>by
  obtain ⟨k,i,b0,rfl,h2,h3,h4⟩:=zwc h
  refine ⟨k,i,b0,rfl,h2,ym h2,h3,h4,?_,?_,?_⟩
  ·show M.blk (z1v bids (PIN+k-PIN))=_; rw [y3i,z7k h2]
  ·show M.bn (z1v bids (PIN+k-PIN))=_; rw [y3i,z7k h2]
  ·show M.bw (z1v bids (PIN+k-PIN))=_; rw [y3i,z7k h2]
 have live:∀ s:SV,(∀ i∈s.roots,i∈ids)→(∀ i∈s.boxes,i∈bids)→Live ⟨z82 (l.map (SV.ren2 (z25 ids) (z25 bids))) 0,z64 σ.rows ids PIN,z65 σ.bx (z25 ids) (z25 bids) bids PIN⟩ (s.ren2 (z25 ids) (z25 bids)):=fun s h1 h2=>by
  refine ⟨fun j hj=>?_,fun j hj=>?_⟩
  ·rw [(z7j _ _ s).1] at hj
   obtain ⟨i,hi,rfl⟩:=y1f.1 hj
   obtain ⟨k,e1,e2⟩:=zqq (h1 i hi)
   obtain ⟨r,hr⟩:=H.rows i (h1 i hi)
   rw [e1]
   exact ⟨r,zwb e2 hr⟩
  ·rw [(z7j _ _ s).2.1] at hj
   obtain ⟨i,hi,rfl⟩:=y1f.1 hj
   obtain ⟨k,e1,e2⟩:=zqq (h2 i hi)
   obtain ⟨b,hb,_⟩:=H.bx i (h2 i hi)
   rw [e1]
   exact ⟨_,zwd e2 hb⟩
 have base:∀ (t:Ty) (x:t.T) (cs:List Value),Rd w0 ok t x cs→Rd w ok t x cs:=fun t x cs h=>R.rd h
 have notOk:∀ k,Own M ids bids k→¬ ok k:=fun k h=>by
  rcases h with ⟨i,hi,hk⟩ | ⟨b,hb,rfl⟩
  ·obtain ⟨r,hr⟩:=H.rows i hi
   exact (R.ownR i ⟨r,hr⟩ k hk).1
  ·obtain ⟨x,hx,_⟩:=H.bx b hb
   exact (R.ownB b ⟨x,hx⟩).1
 constructor
 ·intro s v h
  obtain ⟨k,e,h2⟩:=zkd h
  rw [y18] at e
  subst e
  rw [yu,y10] at h2
  obtain ⟨u,h2,rfl⟩:=h2
  have hlt:s<vs.length:=by rw [← hl]; exact (yo.1 h2).1
  have hm:=ym h2
  refine ⟨vs[s],by simp [hlt],?_⟩
  exact zw5 HR (H.args u hm).1 (H.args u hm).2 (zha base (hs s u _ h2 (yj hlt)))
 ·intro j r h
  obtain ⟨k,i,rfl,h2,h3,h4,h5⟩:=row j r h
  obtain ⟨q,e1,e2⟩:=R.rows i r h4
  exact ⟨q,h5.trans e1,e2.1,z6g (fun _ _ _ h=>R.rd h) e2.2.1,e2.2.2⟩
 ·intro j b h
  obtain ⟨k,i,b0,rfl,h2,h3,h4,rfl,h5,h6,h7⟩:=box j b h
  obtain ⟨cs,e1,e2,e3⟩:=R.boxes i b0 h4
  obtain ⟨b1,g1,g2,g3⟩:=H.bx i h3
  rw [h4] at g1
  cases g1
  refine ⟨cs,zw4 HR g3 g2 (zds base e1),by rw [h5]; exact e2,fun hc=>?_⟩
  rw [(z7j _ _ b0.c).2.2.2.2] at hc
  obtain ⟨f1,f2,f3⟩:=e3 hc
  rw [h6,h7]
  exact ⟨by rw [(z7j _ _ b0.c).2.2.2.1]; exact f1,f2,by rw [(z7j _ _ b0.c).2.2.2.1]; exact f3⟩
 ·rintro i j hij ⟨r,hr⟩ ⟨r',hr'⟩ k hk
  obtain ⟨m,i',rfl,h2,h3,h4,h5⟩:=row i r hr
  obtain ⟨m',j',rfl,g2,g3,g4,g5⟩:=row j r' hr'
  rw [h5] at hk
  rw [g5]
  refine R.rr i' j' (fun e=>?_) ⟨r,h4⟩ ⟨r',g4⟩ k hk
  subst e
  exact hij (by rw [zk9 H.nd h2 g2])
 ·rintro i j hij ⟨r,hr⟩ ⟨r',hr'⟩
  obtain ⟨m,i',b,rfl,h2,h3,h4,_,h5,_⟩:=box i r hr
  obtain ⟨m',j',b',rfl,g2,g3,g4,_,g5,_⟩:=box j r' hr'
  rw [h5,g5]
  refine R.bb i' j' (fun e=>?_) ⟨b,h4⟩ ⟨b',g4⟩
  subst e
  exact hij (by rw [zk9 H.ndB h2 g2])
 ·rintro i j ⟨r,hr⟩ ⟨r',hr'⟩
  obtain ⟨m,i',rfl,h2,h3,h4,h5⟩:=row i r hr
  obtain ⟨m',j',b',rfl,g2,g3,g4,_,g5,_⟩:=box j r' hr'
  rw [h5,g5]
  exact R.rb i' j' ⟨r,h4⟩ ⟨b',g4⟩
 ·rintro i ⟨r,hr⟩ k hk
  obtain ⟨m,i',rfl,h2,h3,h4,h5⟩:=row i r hr
  rw [h5] at hk
  exact ⟨(R.ownR i' ⟨r,h4⟩ k hk).1,.inl (.inl ⟨i',h3,hk⟩)⟩
 ·rintro i ⟨r,hr⟩
  obtain ⟨m,i',b,rfl,h2,h3,h4,_,h5,_⟩:=box i r hr
  rw [h5]
  exact ⟨(R.ownB i' ⟨b,h4⟩).1,.inl (.inr ⟨i',h3,rfl⟩)⟩
 ·exact fun k hk=>⟨R.ok_lt hk,fun h=>notOk k h hk⟩
 ·intro s v h
  obtain ⟨k,e,h2⟩:=zkd h
  rw [yu,y10] at h2
  obtain ⟨u,h2,rfl⟩:=h2
  have hm:=ym h2
  exact live u (H.args u hm).1 (H.args u hm).2
 ·intro j b h
  obtain ⟨k,i,b0,rfl,h2,h3,h4,rfl,_⟩:=box j b h
  obtain ⟨b1,g1,g2,g3⟩:=H.bx i h3
  rw [h4] at g1
  cases g1
  exact live b0.c g3 g2
 ·exact Kept.refl _ _
 ·rintro i hi ⟨r,hr⟩
  obtain ⟨m,i',rfl,h2,h3,h4,h5⟩:=row i r hr
  obtain ⟨q,e1,_⟩:=R.rows i' r h4
  rw [h5]
  show _=[hdL (M.loc (z1v ids (PIN+m-PIN)))]
  rw [y3i,z7k h2]
  exact zwe e1
 ·rintro i hi ⟨r,hr⟩
  rfl
end

section
variable {P : Program} {E E' : Env} {w0 w1 : World} {ok ok1 O : Nat → Prop} {σ σ' τ : St} {tm tm' : Array Value} {w w' : World} {M M' : Map} {a : Act}

theorem zhj {a b:Nat} (h:Nat.blt a b=true):a<b:=y19 h
theorem z1ax {a b:Nat} (h:a<b):Nat.blt a b=true:=y32 h
structure BackOK (σ τ:St) (ids bids:List Nat) (d:Nat):Prop where
 nd:(τ.rows.map (·.1)).Nodup
 ndB:(τ.bx.map (·.1)).Nodup
 rows:∀ j r,(j,r)∈τ.rows→(j<PIN∧z44 ids (32*d) j=32*d+(j-NB)∧NB≤j∧32*d+(j-NB)<PIN∧lk σ.rows (32*d+(j-NB))=none) ∨
  (PIN≤j∧ids[j-PIN]?=some (z44 ids (32*d) j)∧∃ r0,lk σ.rows (z44 ids (32*d) j)=some r0∧r0.e=r.e∧r0.t=r.t)
 bx:∀ j b,(j,b)∈τ.bx→PIN≤j∧bids[j-PIN]?=some (z5l bids j)∧b.c.isCh=false
theorem z1ay {ids:List Nat} {d j P N:Nat} {o:Option Row} (k:(Nat.ble N j&&(Nat.blt (j-N) 32&&(Nat.blt (32*d+32) P&&o.isNone)))=true) (hp:Nat.blt j P=true) :
  j<P∧N≤j∧32*d+(j-N)<P∧o=none:=by
 simp only [yh] at k
 obtain ⟨k1,k2,k3,k4⟩:=k
 have k1:=y19 k1
 have k2:=zhj k2
 have k3:=zhj k3
 have hp:=zhj hp
 refine ⟨hp,k1,by omega,?_⟩
 cases o with
 | none=>rfl
 | some r=>cases k4
theorem z1az {j P:Nat} (hp:Nat.blt j P=false):P≤j:=by
 refine y2m fun hn=>?_
 rw [z1ax (Nat.lt_of_not_le hn)] at hp; cases hp
theorem z1b0 {ids:List Nat} {b j:Nat} (hp:Nat.blt j PIN=true):z44 ids b j=b+(j-NB):=by
 unfold z44; rw [hp,cond_true]
theorem z1b1 {ids:List Nat} {b j:Nat} (hp:Nat.blt j PIN=false):z44 ids b j=z1v ids (j-PIN):=by
 unfold z44; rw [hp,cond_false]
theorem z1b2 {ids:List Nat} {d j P N:Nat} {rows:List (Nat×Row)} {e:TypeId} {t:Ty} {bk:Nat} (hl:Nat.blt j P=true→bk=32*d+(j-N)) (hh:Nat.blt j P=false→bk=z1v ids (j-P))
  (k:(bif Nat.blt j P then Nat.ble N j&&(Nat.blt (j-N) 32&&(Nat.blt (32*d+32) P&&(lk rows (32*d+(j-N))).isNone)) else Nat.blt (j-P) ids.length&&(match lk rows (z1v ids (j-P)) with | some r=>Nat.beq r.e e&&decide (r.t=t) | none=>false))=true) :
  (j<P∧bk=32*d+(j-N)∧N≤j∧32*d+(j-N)<P∧lk rows (32*d+(j-N))=none)∨(P≤j∧ids[j-P]?=some bk∧∃ r0,lk rows bk=some r0∧r0.e=e∧r0.t=t):=by
 cases hp:Nat.blt j P with
 | true =>
  rw [hp] at k
  simp only [yi] at k
  obtain ⟨a1,a2,a3,a4⟩:=z1ay (ids:=ids) k hp
  exact .inl ⟨a1,hl hp,a2,a3,a4⟩
 | false =>
  rw [hp] at k
  simp only [yn,yh] at k
  obtain ⟨k1,k2⟩:=k
  have k1:=zhj k1
  obtain ⟨i,e1,e2,e3⟩:=zw7 k1
  have hb:bk=i:=(hh hp).trans e2
  refine .inr ⟨z1az hp,by rw [hb]; exact e1,?_⟩
  rw [hb]
  rw [e2] at k2
  split at k2
  ·rename_i r0 hr0
   simp only [yh,y1d] at k2
   exact ⟨r0,hr0,yq k2.1,k2.2⟩
  ·cases k2
theorem z1b3 {bids:List Nat} {j P bk:Nat} {c:Bool} (hb:bk=z1v bids (j-P)) (k:(Nat.ble P j&&(Nat.blt (j-P) bids.length&&!c))=true):P≤j∧bids[j-P]?=some bk∧c=false:=by
 simp only [yh,y1h] at k
 obtain ⟨k1,k2,k3⟩:=k
 have k2:=zhj k2
 obtain ⟨i,e1,e2,e3⟩:=zw7 k2
 exact ⟨y19 k1,by rw [hb,e2]; exact e1,k3⟩
theorem z1b4 {ids bids:List Nat} {d:Nat} (h:σ.okBack τ ids bids d=true):BackOK σ τ ids bids d:=by
 simp only [St.okBack,yh] at h
 obtain ⟨h1,h2,h3,h4⟩:=h
 rw [y17] at h3 h4
 refine ⟨zhi h1,zhi h2,fun j r hj=>?_,fun j b hj=>?_⟩
 ·have k:=h3 _ hj
  exact z1b2 z1b0 z1b1 k
 ·have k:=h4 _ hj
  exact z1b3 rfl k

theorem z1b5 {a b:Option Nat} (h:(a.map fun g=>(⟨g,0,none⟩:Addr))=b.map fun g=>⟨g,0,none⟩):a=b:=by
 cases a <;> cases b <;> simp_all

structure Joint (w0:World) (ok O:Nat→Prop) (w w2:World) (ok2 O2 Own:Nat→Prop) (w' W:World) (OK OO:Nat→Prop):Prop where
 rd:∀ (t:Ty) (x:t.T) (cs:List Value),Rd w0 ok t x cs→Rd W OK t x cs
 rd2:∀ (t:Ty) (x:t.T) (cs:List Value),Rd w2 ok2 t x cs→Rd W OK t x cs
 stay:∀ k,k<w.heap.size→¬ Own k→w'.heap[k]?=w.heap[k]?
 new:∀ k,¬ ok2 k∧(O2 k∨w2.heap.size≤k)→(¬ OK k∧(OO k∨W.heap.size≤k))∧(Own k∨w.heap.size≤k)
 old:∀ k,k<w.heap.size→¬ Own k→¬ ok k∧(O k∨w0.heap.size≤k)→¬ OK k∧(OO k∨W.heap.size≤k)
 okB:∀ k,OK k→k<W.heap.size∧¬ OO k
 kept:Kept OO W w'
theorem zwf (R:Rep E w0 ok O σ tm w M) {l:List SV} {ids bids:List Nat} {d:Nat} (H:InOK σ l ids bids) {v:Value} {w2:World} {ok2 O2:Nat→Prop} (R':Rep (zkf E M ids bids) w2 ok2 O2 τ #[v] w' M') {W:World} {OK OO:Nat→Prop} (J:Joint w0 ok O w w2 ok2 O2 (Own M ids bids) w' W OK OO) (B:BackOK σ τ ids bids d) {v0:SV} (hv:lk τ.sl 0=some v0) {dst:Option Tmp} (hin:inB dst tm) :
  ∃ M'',Rep E W OK OO ((σ.merge τ ids bids d).put dst (v0.ren2 (z44 ids (32*d)) (z5l bids))) (z3p tm dst v) w' M'':=by
 let f:=z44 ids (32*d)
 let fb:=z5l bids
 have hf:f=z44 ids (32*d):=rfl
 have hfb:fb=z5l bids:=rfl
 -- names back
 have inj:∀ j r j' r',(j,r)∈τ.rows→(j',r')∈τ.rows→f j=f j'→j=j':=by
  intro j r j' r' h h' e
  rcases B.rows j r h with ⟨a1,a2,a3,a4,a5⟩ | ⟨a1,a2,r0,a3,_⟩ <;> rcases B.rows j' r' h' with ⟨b1,b2,b3,b4,b5⟩ | ⟨b1,b2,r1,b3,_⟩
  ·rw [hf,a2,b2] at e; omega
  ·rw [hf,a2] at e; rw [← e,a5] at b3; cases b3
  ·rw [hf,b2] at e; rw [e,b5] at a3; cases a3
  ·have:z44 ids (32*d) j=z44 ids (32*d) j':=e
   rw [← this] at b2
   have:=zk9 H.nd a2 b2
   omega
 have injB:∀ j b j' b',(j,b)∈τ.bx→(j',b')∈τ.bx→fb j=fb j'→j=j':=by
  intro j b j' b' h h' e
  obtain ⟨a1,a2,_⟩:=B.bx j b h
  obtain ⟨b1,b2,_⟩:=B.bx j' b' h'
  have:z5l bids j=z5l bids j':=e
  rw [← this] at b2
  have:=zk9 H.ndB a2 b2
  omega
 let g:Nat→Loc:=fun i=>match τ.rows.find? (fun x=>Nat.beq (f x.1) i) with | some x=>M'.loc x.1 | none=>M.loc i
 have gNew:∀ j r,(j,r)∈τ.rows→g (f j)=M'.loc j:=by
  intro j r h
  show (match τ.rows.find? (fun x=>Nat.beq (f x.1) (f j)) with | some x=>M'.loc x.1 | none=>M.loc (f j))=_
  cases hq:τ.rows.find? (fun x=>Nat.beq (f x.1) (f j)) with
  | none=>have:=y5l.1 hq _ h; simp at this
  | some x =>
   have h1:=y4f hq
   have h2:f x.1=f j:=by have:=y4g hq; exact yq this
   show M'.loc x.1=M'.loc j
   rw [inj x.1 x.2 j r h1 h h2]
 have gOld:∀ i,(∀ j r,(j,r)∈τ.rows→f j≠i)→g i=M.loc i:=by
  intro i h
  show (match τ.rows.find? (fun x=>Nat.beq (f x.1) i) with | some x=>M'.loc x.1 | none=>M.loc i)=_
  cases hq:τ.rows.find? (fun x=>Nat.beq (f x.1) i) with
  | none=>rfl
  | some x =>
   have h2:f x.1=i:=by have:=y4g hq; exact yq this
   exact absurd h2 (h x.1 x.2 (y4f hq))
 let gb (q q':Nat→Nat):Nat→Nat:=fun i=>match τ.bx.find? (fun x=>Nat.beq (fb x.1) i) with | some x=>q' x.1 | none=>q i
 have bNew:∀ (q q':Nat→Nat) j b,(j,b)∈τ.bx→gb q q' (fb j)=q' j:=by
  intro q q' j r h
  show (match τ.bx.find? (fun x=>Nat.beq (fb x.1) (fb j)) with | some x=>q' x.1 | none=>q (fb j))=_
  cases hq:τ.bx.find? (fun x=>Nat.beq (fb x.1) (fb j)) with
  | none=>have:=y5l.1 hq _ h; simp at this
  | some x =>
   have h1:=y4f hq
   have h2:fb x.1=fb j:=by have:=y4g hq; exact yq this
   show q' x.1=q' j
   rw [injB x.1 x.2 j r h1 h h2]
 have bOld:∀ (q q':Nat→Nat) i,(∀ j b,(j,b)∈τ.bx→fb j≠i)→gb q q' i=q i:=by
  intro q q' i h
  show (match τ.bx.find? (fun x=>Nat.beq (fb x.1) i) with | some x=>q' x.1 | none=>q i)=_
  cases hq:τ.bx.find? (fun x=>Nat.beq (fb x.1) i) with
  | none=>rfl
  | some x =>
   have h2:fb x.1=i:=by have:=y4g hq; exact yq this
   exact absurd h2 (h x.1 x.2 (y4f hq))
 let N:Map:=⟨g,gb M.blk M'.blk,gb M.bn M'.bn,gb M.bw M'.bw⟩
 refine ⟨N,?_⟩
 -- what comes back of what was handed z5k
 have back:∀ j r,(j,r)∈τ.rows→PIN≤j→f j∈ids∧zk8 (M.loc (f j)) (M'.loc j):=by
  intro j r h hj
  rcases B.rows j r h with ⟨a1,_⟩ | ⟨a1,a2,r0,a3,a4,a5⟩
  ·omega
  ·refine ⟨ym a2,?_⟩
   have hlk:=z5d B.nd h
   obtain ⟨l0,e1,_⟩:=R.rows _ r0 a3
   obtain ⟨l1,e2,_⟩:=R'.rows j r hlk
   have hp:=R'.pin j hj ⟨r,hlk⟩
   have hp:za (M'.loc j).1 (M'.loc j).2=[hdL (M.loc (z1v ids (j-PIN)))]:=hp
   rw [z7k a2] at hp
   have e1':M.loc (f j)=⟨.sl r0.e r0.t,l0⟩:=e1
   have:M.loc (z44 ids (32*d) j)=⟨.sl r0.e r0.t,l0⟩:=e1
   rw [this,e2] at hp
   obtain ⟨re,rt,rx,rz⟩:=r
   obtain ⟨re0,rt0,rx0,rz0⟩:=r0
   simp only at a4 a5 e1' e2 hp
   subst a4; subst a5
   refine ⟨re0,rt0,l0,l1,e1',e2,?_⟩
   simp only [hdL,za,List.headD_cons,y12,Value.slice.injEq,y13] at hp
   exact ⟨z1b5 hp.1,hp.2.2,hp.2.1⟩
 have z5l:∀ j b,(j,b)∈τ.bx→fb j∈bids∧M'.blk j=M.blk (fb j):=by
  intro j b h
  obtain ⟨a1,a2,a3⟩:=B.bx j b h
  have hlk:=z5d B.ndB h
  have:=R'.pinB j a1 ⟨b,hlk⟩
  have this:M'.blk j=M.blk (z1v bids (j-PIN)):=this
  rw [z7k a2] at this
  exact ⟨ym a2,this⟩
 -- the two kinds of rows
 let rs:=z9b f τ.rows
 let bs:=z9c f fb τ.bx
 have rowC:∀ i r,lk (rs++z4t ids σ.rows) i=some r→(∃ j,f j=i∧(j,r)∈τ.rows)∨(i∉ids∧lk σ.rows i=some r∧∀ j r,(j,r)∈τ.rows→f j≠i):=by
  intro i r h
  rw [z2e] at h
  cases hn:lk rs i with
  | some r' =>
   rw [hn] at h
   cases h
   exact .inl (zkb.1 (z19 hn))
  | none =>
   rw [hn] at h
   have h:lk (z4t ids σ.rows) i=some r:=h
   rw [ze4] at h
   split at h
   ·cases h
   ·rename_i hni
    refine .inr ⟨hni,h,fun j r' hj e=>?_⟩
    have:(i,r')∈rs:=zkb.2 ⟨j,e,hj⟩
    obtain ⟨r2,hr2⟩:=z5v (y1f.2 ⟨(i,r'),this,rfl⟩)
    rw [hn] at hr2; cases hr2
 have boxC:∀ (G:SV→SV) i b,lk (bs++z14 (fun b:Bx=>(⟨b.ty,G b.c⟩:Bx)) (z4t bids σ.bx)) i=some b→(∃ j b0,fb j=i∧(j,b0)∈τ.bx∧b=⟨b0.ty,b0.c.ren2 f fb⟩)∨(i∉bids∧(∃ b0,lk σ.bx i=some b0∧b=⟨b0.ty,G b0.c⟩)∧∀ j b,(j,b)∈τ.bx→fb j≠i):=by
  intro G i r h
  rw [z2e] at h
  cases hn:lk bs i with
  | some r' =>
   rw [hn] at h
   cases h
   exact .inl (zkc.1 (z19 hn))
  | none =>
   rw [hn] at h
   have h:lk (z14 (fun b:Bx=>(⟨b.ty,G b.c⟩:Bx)) (z4t bids σ.bx)) i=some r:=h
   rw [z2c] at h
   obtain ⟨b0,h0,rfl⟩:=y10.1 h
   rw [ze4] at h0
   split at h0
   ·cases h0
   ·rename_i hni
    refine .inr ⟨hni,⟨b0,h0,rfl⟩,fun j r' hj e=>?_⟩
    have:(i,(⟨r'.ty,r'.c.ren2 f fb⟩:Bx))∈bs:=zkc.2 ⟨j,r',e,hj,rfl⟩
    obtain ⟨r2,hr2⟩:=z5v (y1f.2 ⟨_,this,rfl⟩)
    rw [hn] at hr2; cases hr2
 -- blocks
 have notOwn:∀ i,i∉ids→(∃ r,lk σ.rows i=some r)→∀ k∈z7 (M.loc i).1 (M.loc i).2,¬ Own M ids bids k:=by
  intro i hi hr k hk h
  rcases h with ⟨i',hi',hk'⟩ | ⟨b,hb,rfl⟩
  ·obtain ⟨r',hr'⟩:=H.rows i' hi'
   exact R.rr i i' (fun e=>hi (e▸hi')) hr ⟨r',hr'⟩ k hk hk'
  ·obtain ⟨x,hx,_⟩:=H.bx b hb
   exact R.rb i b hr ⟨x,hx⟩ hk
 have notOwnB:∀ i,i∉bids→(∃ b,lk σ.bx i=some b)→¬ Own M ids bids (M.blk i):=by
  intro i hi hb h
  rcases h with ⟨i',hi',hk'⟩ | ⟨b,hb',e⟩
  ·obtain ⟨r',hr'⟩:=H.rows i' hi'
   exact R.rb i' i ⟨r',hr'⟩ hb hk'
  ·obtain ⟨x,hx,_⟩:=H.bx b hb'
   exact R.bb i b (fun e=>hi (e▸hb')) hb ⟨x,hx⟩ e
 have ltR:∀ i,(∃ r,lk σ.rows i=some r)→∀ k∈z7 (M.loc i).1 (M.loc i).2,k<w.heap.size:=by
  rintro i ⟨r,hr⟩ k hk
  obtain ⟨q,e1,_,e2,_⟩:=R.rows i r hr
  rw [e1] at hk
  exact z1l e2 k hk
 have ltB:∀ i,(∃ b,lk σ.bx i=some b)→M.blk i<w.heap.size:=by
  rintro i ⟨b,hb⟩
  obtain ⟨cs,_,h,_⟩:=R.boxes i b hb
  exact (y1s.1 h).1
 have stayR:∀ i,i∉ids→(∃ r,lk σ.rows i=some r)→∀ k∈z7 (M.loc i).1 (M.loc i).2,w'.heap[k]?=w.heap[k]? :=
  fun i hi hr k hk=>J.stay k (ltR i hr k hk) (notOwn i hi hr k hk)
 have newR:∀ j r,(j,r)∈τ.rows→∀ k∈z7 (M'.loc j).1 (M'.loc j).2,(¬ OK k∧(OO k∨W.heap.size≤k))∧(Own M ids bids k∨w.heap.size≤k):=fun j r h k hk=>J.new k (R'.ownR j ⟨r,z5d B.nd h⟩ k hk)
 have newB:∀ j b,(j,b)∈τ.bx→(¬ OK (M'.blk j)∧(OO (M'.blk j)∨W.heap.size≤M'.blk j))∧(Own M ids bids (M'.blk j)∨w.heap.size≤M'.blk j):=fun j b h=>J.new _ (R'.ownB j ⟨b,z5d B.ndB h⟩)
 have base:=J.rd2
 have HR:Renm2 M' N f fb (fun j=>∃ r,lk τ.rows j=some r) (fun j=>∃ b,lk τ.bx j=some b) :=
  ⟨fun j ⟨r,h⟩=>gNew j r (z19 h),fun j ⟨b,h⟩=>⟨bNew _ _ j b (z19 h),bNew _ _ j b (z19 h),bNew _ _ j b (z19 h)⟩⟩
 have gd:∀ i,z2b bids (bs.map (·.1)) i=true→has bids i=true:=fun i h=>by
  simp only [z2b,yh] at h; exact h.1
 have near:∀ s:SV,Live σ s→Near M N (z2b ids (rs.map (·.1))) (has ids) (z2b bids (bs.map (·.1))) (has bids) s:=by
  intro s hs
  refine ⟨fun i hi hg=>?_,fun i hi hg=>?_,gd⟩
  ·obtain ⟨r,hr⟩:=hs.rows i hi
   by_cases hm:i∈ids
   ·have hh:=z5c.2 hm
    refine ⟨fun h=>(by rw [hh] at h; cases h),?_⟩
    unfold z2b at hg
    rw [hh,y1m,y40] at hg
    have hk:=z5c.1 hg
    rw [zw8] at hk
    obtain ⟨j,hj,rfl⟩:=y1f.1 hk
    obtain ⟨r',hr'⟩:=z5v hj
    have hj':=z19 hr'
    show zk8 (M.loc (f j)) (g (f j))
    rw [gNew j r' hj']
    refine (back j r' hj' ?_).2
    rcases B.rows j r' hj' with ⟨_,a2,_,_,a5⟩ | ⟨a1,_⟩
    ·exfalso
     have:lk σ.rows (f j)=none:=by rw [hf,a2]; exact a5
     rw [this] at hr; cases hr
    ·exact a1
   ·have:g i=M.loc i:=gOld i fun j r' hj e=>by
     rcases B.rows j r' hj with ⟨_,a2,_,_,a5⟩ | ⟨a1,a2,_⟩
     ·rw [← e,hf,a2,a5] at hr; cases hr
     ·exact hm (e▸ym a2)
    refine ⟨fun _=>this,?_⟩
    show zk8 (M.loc i) (g i)
    rw [this]
    obtain ⟨q,e1,_⟩:=R.rows i r hr
    exact ⟨r.e,r.t,q,q,e1,e1,rfl,rfl,rfl⟩
  ·obtain ⟨b,hb⟩:=hs.boxes i hi
   by_cases hm:i∈bids
   ·have hh:=z5c.2 hm
    unfold z2b at hg
    rw [hh,y1m,y40] at hg
    have hk:=z5c.1 hg
    rw [zw9] at hk
    obtain ⟨j,hj,rfl⟩:=y1f.1 hk
    obtain ⟨b',hb'⟩:=z5v hj
    have hj':=z19 hb'
    refine ⟨?_,fun h=>(by rw [hh] at h; cases h)⟩
    show gb M.blk M'.blk (fb j)=_
    rw [bNew _ _ j b' hj']
    exact (z5l j b' hj').2
   ·have hno:∀ j b,(j,b)∈τ.bx→fb j≠i:=fun j b hj e=>hm (e▸(z5l j b hj).1)
    exact ⟨bOld _ _ i hno,fun _=>⟨bOld _ _ i hno,bOld _ _ i hno⟩⟩
 have live1:∀ s:SV,Live τ s→Live ((σ.merge τ ids bids d).put dst (v0.ren2 f fb)) (s.ren2 f fb):=by
  intro s hs
  refine ⟨fun i hi=>?_,fun i hi=>?_⟩
  ·rw [(z7j f fb s).1] at hi
   obtain ⟨j,hj,rfl⟩:=y1f.1 hi
   obtain ⟨r,hr⟩:=hs.rows j hj
   rw [z6o]
   have:(f j,r)∈rs++z4t ids σ.rows:=yd.2 (.inl (zkb.2 ⟨j,rfl,z19 hr⟩))
   exact z5v (y1f.2 ⟨_,this,rfl⟩)
  ·rw [(z7j f fb s).2.1] at hi
   obtain ⟨j,hj,rfl⟩:=y1f.1 hi
   obtain ⟨b,hb⟩:=hs.boxes j hj
   rw [z5p]
   have:(fb j,(⟨b.ty,b.c.ren2 f fb⟩:Bx))∈bs:=zkc.2 ⟨j,b,rfl,z19 hb,rfl⟩
   exact z5v (y1f.2 ⟨_,yd.2 (.inl this),rfl⟩)
 have live2:∀ s:SV,Live σ s→Live ((σ.merge τ ids bids d).put dst (v0.ren2 f fb)) (s.cutR (z2b ids (rs.map (·.1))) (has ids) (z2b bids (bs.map (·.1))) (has bids)):=by
  intro s hs
  obtain ⟨c1,c2,_⟩:=zke (z2b ids (rs.map (·.1))) (has ids) (z2b bids (bs.map (·.1))) (has bids) gd s
  refine ⟨fun i hi=>?_,fun i hi=>?_⟩
  ·obtain ⟨h1,h2⟩:=c1 i hi
   obtain ⟨r,hr⟩:=hs.rows i h1
   rw [z6o]
   by_cases hm:i∈ids
   ·unfold z2b at h2
    rw [z5c.2 hm,y1m,y40] at h2
    obtain ⟨r',hr'⟩:=z5v (z5c.1 h2)
    exact z5v (y1f.2 ⟨(i,r'),yd.2 (.inl (z19 hr')),rfl⟩)
   ·have:lk (z4t ids σ.rows) i=some r:=by rw [ze4,y5 hm]; exact hr
    exact z5v (y1f.2 ⟨(i,r),yd.2 (.inr (z19 this)),rfl⟩)
  ·obtain ⟨h1,h2⟩:=c2 i hi
   obtain ⟨b,hb⟩:=hs.boxes i h1
   rw [z5p]
   by_cases hm:i∈bids
   ·unfold z2b at h2
    rw [z5c.2 hm,y1m,y40] at h2
    obtain ⟨r',hr'⟩:=z5v (z5c.1 h2)
    exact z5v (y1f.2 ⟨(i,r'),yd.2 (.inl (z19 hr')),rfl⟩)
   ·have h3:lk (z4t bids σ.bx) i=some b:=by rw [ze4,y5 hm]; exact hb
    have:lk (z14 (fun b:Bx=>(⟨b.ty,b.c.cutR (z2b ids (rs.map (·.1))) (has ids) (z2b bids (bs.map (·.1))) (has bids)⟩:Bx)) (z4t bids σ.bx)) i=some ⟨b.ty,b.c.cutR (z2b ids (rs.map (·.1))) (has ids) (z2b bids (bs.map (·.1))) (has bids)⟩:=by rw [z2c,h3]; rfl
    exact z5v (y1f.2 ⟨_,yd.2 (.inr (z19 this)),rfl⟩)
 have hrow:∀ i,(∃ r,lk ((σ.merge τ ids bids d).put dst (v0.ren2 f fb)).rows i=some r)→(∃ j r,f j=i∧(j,r)∈τ.rows∧g i=M'.loc j)∨(i∉ids∧(∃ r,lk σ.rows i=some r)∧g i=M.loc i):=by
  rintro i ⟨r,h⟩
  rw [z6o] at h
  rcases rowC i r h with ⟨j,rfl,hj⟩ | ⟨h1,h2,h3⟩
  ·exact .inl ⟨j,r,rfl,hj,gNew j r hj⟩
  ·exact .inr ⟨h1,⟨r,h2⟩,gOld i h3⟩
 have hbox:∀ i,(∃ b,lk ((σ.merge τ ids bids d).put dst (v0.ren2 f fb)).bx i=some b)→(∃ j b,fb j=i∧(j,b)∈τ.bx∧gb M.blk M'.blk i=M'.blk j)∨(i∉bids∧(∃ b,lk σ.bx i=some b)∧gb M.blk M'.blk i=M.blk i):=by
  rintro i ⟨r,h⟩
  rw [z5p] at h
  rcases boxC _ i r h with ⟨j,b0,rfl,hj,_⟩ | ⟨h1,⟨b0,h2,_⟩,h3⟩
  ·exact .inl ⟨j,b0,rfl,hj,bNew _ _ j b0 hj⟩
  ·exact .inr ⟨h1,⟨b0,h2⟩,bOld _ _ i h3⟩
 constructor
 ·refine ztu (σ:=σ.merge τ ids bids d) (P:=zr W OK N) (sl:=(σ.merge τ ids bids d).sl) (d:=dst) (s:=v0.ren2 f fb) (v:=v) (fun k u hk=>?_) ?_ hin
  ·have hk:lk (z14 (SV.cutR (z2b ids (rs.map (·.1))) (has ids) (z2b bids (bs.map (·.1))) (has bids)) σ.sl) k=some u:=hk
   rw [z2c] at hk
   obtain ⟨u0,h1,rfl⟩:=y10.1 hk
   obtain ⟨z,h2,h3⟩:=R.slots k u0 h1
   exact ⟨z,h2,z1au (near u0 (R.liveS k u0 h1)) (zha J.rd h3)⟩
  ·obtain ⟨z,h1,h2⟩:=R'.slots 0 v0 hv
   have:v=z:=by simpa using h1
   subst this
   have hL:=R'.liveS 0 v0 hv
   exact zw5 HR (fun i hi=>hL.rows i hi) (fun i hi=>hL.boxes i hi) (zha base h2)
 ·intro i r h
  rw [z6o] at h
  rcases rowC i r h with ⟨j,rfl,hj⟩ | ⟨h1,h2,h3⟩
  ·obtain ⟨q,e1,e2⟩:=R'.rows j r (z5d B.nd hj)
   exact ⟨q,(gNew j r hj).trans e1,e2.1,z6g base e2.2.1,e2.2.2⟩
  ·obtain ⟨q,e1,e2,e3,e4,e5⟩:=R.rows i r h2
   have hst:=stayR i h1 ⟨r,h2⟩
   rw [e1] at hst
   exact ⟨q,(gOld i h3).trans e1,e2,z1z hst (z6g J.rd e3),e4,fun hz=>z21 hst (e5 hz)⟩
 ·intro i b h
  rw [z5p] at h
  rcases boxC _ i b h with ⟨j,b0,rfl,hj,rfl⟩ | ⟨h1,⟨b0,h2,rfl⟩,h3⟩
  ·have hlk:=z5d B.ndB hj
   obtain ⟨cs,e1,e2,e3⟩:=R'.boxes j b0 hlk
   have hL:=R'.liveB j b0 hlk
   refine ⟨cs,zw4 HR (fun i hi=>hL.rows i hi) (fun i hi=>hL.boxes i hi) (zds base e1),?_,fun hc=>?_⟩
   ·show w'.heap[gb M.blk M'.blk (fb j)]?=_
    rw [bNew _ _ j b0 hj]; exact e2
   ·rw [(z7j f fb b0.c).2.2.2.2] at hc
    rw [(B.bx j b0 hj).2.2] at hc
    cases hc
  ·obtain ⟨cs,e1,e2,e3⟩:=R.boxes i b0 h2
   have hL:=R.liveB i b0 h2
   refine ⟨cs,z1as (near b0.c hL) (zds J.rd e1),?_,fun hc=>?_⟩
   ·show w'.heap[gb M.blk M'.blk i]?=_
    rw [bOld _ _ i h3]
    exact (J.stay _ (ltB i ⟨b0,h2⟩) (notOwnB i h1 ⟨b0,h2⟩)).trans e2
   ·have c:=zke (z2b ids (rs.map (·.1))) (has ids) (z2b bids (bs.map (·.1))) (has bids) gd b0.c
    rw [c.2.2.2.2] at hc
    obtain ⟨f1,f2,f3⟩:=e3 hc
    refine ⟨?_,?_,?_⟩
    ·show gb M.bn M'.bn i=_
     rw [bOld _ _ i h3,c.2.2.2.1]; exact f1
    ·show gb M.bw M'.bw i=_
     rw [bOld _ _ i h3]; exact f2
    ·rw [c.2.2.2.1]; exact f3
 ·intro i i' hij hi hi' k hk
  show k∉z7 (g i').1 (g i').2
  have hk:k∈z7 (g i).1 (g i).2:=hk
  rcases hrow i hi with ⟨j,r,rfl,hj,e1⟩ | ⟨h1,h2,e1⟩ <;> rcases hrow i' hi' with ⟨j',r',rfl,hj',e2⟩ | ⟨h3,h4,e2⟩
  ·rw [e1] at hk; rw [e2]
   exact R'.rr j j' (fun e=>hij (by rw [e])) ⟨r,z5d B.nd hj⟩ ⟨r',z5d B.nd hj'⟩ k hk
  ·rw [e1] at hk; rw [e2]
   intro hk'
   have:=(newR j r hj k hk).2
   have:=ltR i' h4 k hk'
   have:=notOwn i' h3 h4 k hk'
   rcases (newR j r hj k hk).2 with h | h
   ·exact this h
   ·omega
  ·rw [e1] at hk; rw [e2]
   intro hk'
   have:=ltR i h2 k hk
   have:=notOwn i h1 h2 k hk
   rcases (newR j' r' hj' k hk').2 with h | h
   ·exact this h
   ·omega
  ·rw [e1] at hk; rw [e2]
   exact R.rr i i' hij h2 h4 k hk
 ·intro i i' hij hi hi'
  show gb M.blk M'.blk i≠gb M.blk M'.blk i'
  rcases hbox i hi with ⟨j,r,rfl,hj,e1⟩ | ⟨h1,h2,e1⟩ <;> rcases hbox i' hi' with ⟨j',r',rfl,hj',e2⟩ | ⟨h3,h4,e2⟩
  ·rw [e1,e2]
   exact R'.bb j j' (fun e=>hij (by rw [e])) ⟨r,z5d B.ndB hj⟩ ⟨r',z5d B.ndB hj'⟩
  ·rw [e1,e2]
   intro e
   have h5:=ltB i' h4
   have h6:=notOwnB i' h3 h4
   rw [← e] at h5 h6
   rcases (newB j r hj).2 with h | h
   ·exact h6 h
   ·omega
  ·rw [e1,e2]
   intro e
   have h5:=ltB i h2
   have h6:=notOwnB i h1 h2
   rw [e] at h5 h6
   rcases (newB j' r' hj').2 with h | h
   ·exact h6 h
   ·omega
  ·rw [e1,e2]
   exact R.bb i i' hij h2 h4
 ·intro i i' hi hi'
  show gb M.blk M'.blk i'∉z7 (g i).1 (g i).2
  rcases hrow i hi with ⟨j,r,rfl,hj,e1⟩ | ⟨h1,h2,e1⟩ <;> rcases hbox i' hi' with ⟨j',r',rfl,hj',e2⟩ | ⟨h3,h4,e2⟩
  ·rw [e1,e2]
   exact R'.rb j j' ⟨r,z5d B.nd hj⟩ ⟨r',z5d B.ndB hj'⟩
  ·rw [e1,e2]
   intro hk
   have h5:=ltB i' h4
   have h6:=notOwnB i' h3 h4
   rcases (newR j r hj _ hk).2 with h | h
   ·exact h6 h
   ·omega
  ·rw [e1,e2]
   intro hk
   have h5:=ltR i h2 _ hk
   have h6:=notOwn i h1 h2 _ hk
   rcases (newB j' r' hj').2 with h | h
   ·exact h6 h
   ·omega
  ·rw [e1,e2]
   exact R.rb i i' h2 h4
 ·intro i hi k hk
  have hk:k∈z7 (g i).1 (g i).2:=hk
  rcases hrow i hi with ⟨j,r,rfl,hj,e1⟩ | ⟨h1,h2,e1⟩
  ·rw [e1] at hk; exact (newR j r hj k hk).1
  ·rw [e1] at hk; exact J.old k (ltR i h2 k hk) (notOwn i h1 h2 k hk) (R.ownR i h2 k hk)
 ·intro i hi
  show ¬ OK (gb M.blk M'.blk i)∧(OO (gb M.blk M'.blk i)∨W.heap.size≤gb M.blk M'.blk i)
  rcases hbox i hi with ⟨j,r,rfl,hj,e1⟩ | ⟨h1,h2,e1⟩
  ·rw [e1]; exact (newB j r hj).1
  ·rw [e1]; exact J.old _ (ltB i h2) (notOwnB i h1 h2) (R.ownB i h2)
 ·exact J.okB
 ·intro k u hk
  rcases ztv hk with rfl | h
  ·exact live1 v0 (R'.liveS 0 v0 hv)
  ·have h:lk (z14 (SV.cutR (z2b ids (rs.map (·.1))) (has ids) (z2b bids (bs.map (·.1))) (has bids)) σ.sl) k=some u:=h
   rw [z2c] at h
   obtain ⟨u0,h1,rfl⟩:=y10.1 h
   exact live2 u0 (R.liveS k u0 h1)
 ·intro i b h
  rw [z5p] at h
  rcases boxC _ i b h with ⟨j,b0,rfl,hj,rfl⟩ | ⟨h1,⟨b0,h2,rfl⟩,h3⟩
  ·exact live1 b0.c (R'.liveB j b0 (z5d B.ndB hj))
  ·exact live2 b0.c (R.liveB i b0 h2)
 ·exact J.kept
 ·intro i hi hr
  show za (g i).1 (g i).2=_
  rcases hrow i hr with ⟨j,r,rfl,hj,e1⟩ | ⟨h1,h2,e1⟩
  ·rw [e1]
   have hge:PIN≤j:=by
    rcases B.rows j r hj with ⟨_,a2,_,a4,_⟩ | ⟨a1,_⟩
    ·rw [hf,a2] at hi; omega
    ·exact a1
   obtain ⟨hm,e,t,l0,l1,q1,q2,q3,q4,q5⟩:=back j r hj hge
   obtain ⟨r0,hr0⟩:=H.rows (f j) hm
   rw [← R.pin (f j) hi ⟨r0,hr0⟩,q1,q2]
   simp [za,q3,q4,q5]
  ·rw [e1]; exact R.pin i hi h2
 ·intro i hi hr
  show gb M.blk M'.blk i=_
  rcases hbox i hr with ⟨j,r,rfl,hj,e1⟩ | ⟨h1,h2,e1⟩
  ·rw [e1]
   obtain ⟨hm,e⟩:=z5l j r hj
   obtain ⟨x,hx,_⟩:=H.bx (fb j) hm
   rw [e]; exact R.pinB (fb j) hi ⟨x,hx⟩
  ·rw [e1]; exact R.pinB i hi h2
theorem z1b6 (R:Rep E w0 ok O σ tm w M) {l:List SV} {ids bids:List Nat} {d:Nat} (H:InOK σ l ids bids) {v:Value} {b:Bool} {w2:World} {ok2 O2:Nat→Prop} (hc:z2i b w ok (Own M ids bids) w2 ok2 O2) (R':Rep (zkf E M ids bids) w2 ok2 O2 τ #[v] w' M') (B:BackOK σ τ ids bids d) {v0:SV} (hv:lk τ.sl 0=some v0) {dst:Option Tmp} (hin:inB dst tm) :
  ∃ M'' w3 ok3 O3,z2i b w0 ok O w3 ok3 O3∧Rep E w3 ok3 O3 ((σ.merge τ ids bids d).put dst (v0.ren2 (z44 ids (32*d)) (z5l bids))) (z3p tm dst v) w' M'':=by
 have ownO:∀ k,Own M ids bids k→O k∨w0.heap.size≤k:=by
  rintro k (⟨i,hi,hk⟩ | ⟨b,hb,rfl⟩)
  ·obtain ⟨r,hr⟩:=H.rows i hi
   exact (R.ownR i ⟨r,hr⟩ k hk).2
  ·obtain ⟨x,hx,_⟩:=H.bx b hb
   exact (R.ownB b ⟨x,hx⟩).2
 have hsz:=R.kept.size
 rcases hc with ⟨rfl,rfl,rfl⟩ | ⟨hb,hB⟩
 ·obtain ⟨M'',R''⟩:=zwf R H R' (W:=w0) (OK:=ok2) (OO:=O) ⟨fun _ _ _ h=>h,fun t x cs h=>h.move fun k hk=>(R.ok_kept hk).symm,fun k hk hn=>R'.kept.block k hk hn,fun k h=>⟨⟨h.1,h.2.elim (ownO k) (fun h=>.inr (y1o hsz h))⟩,h.2⟩,fun k _ _ h=>h,R.okB,
   R.kept.trans R'.kept fun k hk ho=>(ownO k ho).elim id fun h=>absurd hk (y2r.2 h)⟩ B hv hin
  exact ⟨M'',_,_,_,.refl,R''⟩
 ·have hs2:=hB.kept.size
  have notOK:∀ k,k<w.heap.size→¬ Own M ids bids k→¬ ok k→¬ ok2 k:=fun k h1 h2 h3 h4=>(hB.new k h4).elim h3 fun h=>h.elim h2 fun h=>absurd h1 (y2r.2 h)
  obtain ⟨M'',R''⟩:=zwf R H R' (W:=w2) (OK:=ok2) (OO:=fun k=>O2 k∨((O k∨w0.heap.size≤k)∧k<w.heap.size∧¬ Own M ids bids k∧¬ ok k)) ⟨fun _ _ _ h=>hB.rd (R.rd h),fun _ _ _ h=>h,
   fun k hk hn=>(hB.kept.trans R'.kept fun i hi ho=>(hB.own i ho).elim id fun h=>absurd hi (y2r.2 h)).block k hk hn,
   fun k h=>⟨⟨h.1,h.2.elim (fun h=>.inl (.inl h)) .inr⟩,h.2.elim (hB.own k) fun h=>.inr (y1o hs2 h)⟩,
   fun k h1 h2 h3=>⟨notOK k h1 h2 h3.1,.inl (.inr ⟨h3.2,h1,h2,h3.1⟩)⟩,
   fun k hk=>⟨(R'.okB k hk).1,fun h=>h.elim (R'.okB k hk).2 fun h=>notOK k h.2.1 h.2.2.1 h.2.2.2 hk⟩,
   ⟨R'.kept.os,R'.kept.tape,R'.kept.output,R'.kept.size,fun k h1 h2=>R'.kept.block k h1 fun h=>h2 (.inl h)⟩⟩ B hv hin
  refine ⟨M'',_,_,_,.inr ⟨hb,⟨R.kept.trans hB.kept fun k hk ho=>(ownO k ho).elim id fun h=>absurd hk (y2r.2 h),hB.inc,R.okB,fun k h=>?_,fun k h=>?_⟩⟩,R''⟩
  ·rcases h with h | h
   ·rcases hB.own k h with h | h
    ·exact ownO k h
    ·exact .inr (y1o hsz h)
   ·exact h.1
  ·rcases hB.new k h with h | h | h
   ·exact .inl h
   ·exact .inr (ownO k h)
   ·exact .inr (.inr (y1o hsz h))
end

theorem zbc {F:Frz} {w w':World} {G:List Nat} (hw:∀ k,k<w.heap.size→k∉G→w'.heap[k]?=w.heap[k]?):∀ (t:Ty) (x:L t) (q:List Step) (v:Ty) (z y:L v) (x':L t),zy t x q=some ⟨v,z⟩→zn t x q v y=some x'→za v y=za v z→(z7 t x).Nodup→(∀ g∈G,g∈z7 v z)→holds F w t x →
  za t x'=za t x∧(holds F w' v y→holds F w' t x')∧(plain w t x→plain w' v y→plain w' t x')∧∃ A C,z7 t x=A++z7 v z++C∧z7 t x'=A++z7 v y++C
 | .sl e t,x,q,v,z,y,x',hs,h,hc,hn,hg,hh=>by
  match q with
  | [] =>
   cases hs
   obtain ⟨_,he⟩:=z8e h
   subst he
   exact ⟨hc,fun h=>h,fun _ h=>h,[],[],by simp,by simp⟩
  | .f _::_=>cases h
  | .u::_=>cases h
  | .ix n::q =>
   obtain ⟨x0,hx0,h⟩:=yk.1 h
   obtain ⟨x0',hx0',rfl⟩:=y10.1 h
   obtain ⟨x1,hx1,hs⟩:=yk.1 hs
   rw [hx0] at hx1
   cases hx1
   obtain ⟨hlt,hxe⟩:=yo.1 hx0
   have hsplit:x.2.2=x.2.2.take n++x0::x.2.2.drop (n+1):=by
    rw [← hxe,← y2i hlt,y2d]
   have hset:x.2.2.set n x0'=x.2.2.take n++x0'::x.2.2.drop (n+1):=by rw [y3p,y4 hlt]
   have hb:z7 (.sl e t) x=x.1.toList++((x.2.2.take n).flatMap (z7 t))++z7 t x0++(x.2.2.drop (n+1)).flatMap (z7 t):=by
    simp only [z7]
    conv=>lhs; rw [hsplit]
    simp [y11]
   have hlt':∀ k∈z7 (.sl e t) x,k<w.heap.size:=z1l hh
   rw [hb] at hn hlt'
   obtain ⟨n1,n2,n3⟩:=y1g.1 hn
   obtain ⟨n4,n5,n6⟩:=y1g.1 n1
   obtain ⟨i1,i2,i3,A,C,i4,i5⟩:=zbc hw t x0 q v z y x0' hs hx0' hc n5 hg (hh.2 x0 (ym hx0))
   have hg0:∀ g∈G,g∈z7 t x0:=fun g h=>by rw [i4]; simp [hg g h]
   have away1:∀ y∈x.2.2.take n,∀ k∈z7 t y,w'.heap[k]?=w.heap[k]?:=fun y hy k hk=>by
    have hm:k∈(x.2.2.take n).flatMap (z7 t):=y1e.2 ⟨y,hy,hk⟩
    exact hw k (hlt' k (by simp only [yd]; exact .inl (.inl (.inr hm)))) fun e=>n6 k (yd.2 (.inr hm)) k (hg0 k e) rfl
   have away2:∀ y∈x.2.2.drop (n+1),∀ k∈z7 t y,w'.heap[k]?=w.heap[k]?:=fun y hy k hk=>by
    have hm:k∈(x.2.2.drop (n+1)).flatMap (z7 t):=y1e.2 ⟨y,hy,hk⟩
    exact hw k (hlt' k (by simp only [yd]; exact .inr hm)) fun e=>n3 k (yd.2 (.inr (hg0 k e))) k hm rfl
   have away0:∀ b,x.1=some b→w'.heap[b]?=w.heap[b]?:=fun b hb=>by
    have hm:b∈x.1.toList:=by rw [hb]; simp
    exact hw b (hlt' b (by simp only [yd]; exact .inl (.inl (.inl hm)))) fun e=>n6 b (yd.2 (.inl hm)) b (hg0 b e) rfl
   refine ⟨by simp [za],fun hy=>⟨?_,?_⟩,fun hp hy=>⟨?_,?_⟩,x.1.toList++(x.2.2.take n).flatMap (z7 t)++A,C++(x.2.2.drop (n+1)).flatMap (z7 t),?_,?_⟩
   ·have h1:=hh.1
    simp only []
    cases hx:x.1 with
    | none=>rw [hx] at h1; rw [h1.1] at hlt; simp at hlt
    | some b =>
     rw [hx] at h1
     obtain ⟨cur,fz,k1,k2,k3,k4,k5,k6⟩:=h1
     refine ⟨cur,fz,(away0 b hx).trans k1,by rw [y21]; exact k2,k3,k4,?_,by rw [y21]; exact k6⟩
     rw [y21,k5,hset]
     conv=>lhs; rw [hsplit]
     simp [i1]
   ·intro y' hy'
    have hy':y'∈x.2.2.set n x0':=hy'
    rw [hset] at hy'
    rcases yd.1 hy' with hm | hm
    ·exact z1z (fun k hk=>away1 y' hm k hk) (hh.2 y' (y2c hm))
    ·rcases yx.1 hm with rfl | hm
     ·exact i2 hy
     ·exact z1z (fun k hk=>away2 y' hm k hk) (hh.2 y' (y3d hm))
   ·intro b hb
    obtain ⟨cur,e',k1,k2⟩:=hp.1 b hb
    exact ⟨cur,e',(away0 b hb).trans k1,k2⟩
   ·intro y' hy'
    have hy':y'∈x.2.2.set n x0':=hy'
    rw [hset] at hy'
    rcases yd.1 hy' with hm | hm
    ·exact z21 (fun k hk=>away1 y' hm k hk) (hp.2 y' (y2c hm))
    ·rcases yx.1 hm with rfl | hm
     ·exact i3 (hp.2 x0 (ym hx0)) hy
     ·exact z21 (fun k hk=>away2 y' hm k hk) (hp.2 y' (y3d hm))
   ·rw [hb,i4]; simp [y11]
   ·simp only [z7]
    rw [hset]
    simp [i5,y11]
 | .st t,x,q,v,z,y,x',hs,h,hc,hn,hg,hh=>by
  match q with
  | [] =>
   cases hs
   have:=(z3h (.st t) x y).symm.trans h
   cases this
   exact ⟨hc,fun h=>h,fun _ h=>h,[],[],by simp,by simp⟩
  | .u::q=>exact zbc hw t x q v z y x' hs h hc hn hg hh
  | .ix n::q=>exact zbc hw t x (.ix n::q) v z y x' hs h hc hn hg hh
  | .f b::q=>exact zbc hw t x (.f b::q) v z y x' hs h hc hn hg hh
 | .pr a b,x,q,v,z,y,x',hs,h,hc,hn,hg,hh=>by
  match q with
  | [] =>
   cases hs
   have:=(z3h (.pr a b) x y).symm.trans h
   cases this
   exact ⟨hc,fun h=>h,fun _ h=>h,[],[],by simp,by simp⟩
  | .ix _::_=>cases h
  | .u::_=>cases h
  | .f false::q =>
   obtain ⟨p,hp,rfl⟩:=y10.1 h
   simp only [z7] at hn
   obtain ⟨n1,n2,n3⟩:=y1g.1 hn
   obtain ⟨i1,i2,i3,A,C,i4,i5⟩:=zbc hw a x.1 q v z y p hs hp hc n1 hg hh.1
   have hg0:∀ g∈G,g∈z7 a x.1:=fun g h=>by rw [i4]; simp [hg g h]
   have away:∀ k∈z7 b x.2,w'.heap[k]?=w.heap[k]?:=fun k hk=>hw k (z1l hh.2 k hk) fun e=>n3 k (hg0 k e) k hk rfl
   exact ⟨by simp [za,i1],fun hy=>⟨i2 hy,z1z away hh.2⟩,fun hp hy=>⟨i3 hp.1 hy,z21 away hp.2⟩,A,C++z7 b x.2,by simp [z7,i4],by simp [z7,i5]⟩
  | .f true::q =>
   obtain ⟨p,hp,rfl⟩:=y10.1 h
   simp only [z7] at hn
   obtain ⟨n1,n2,n3⟩:=y1g.1 hn
   obtain ⟨i1,i2,i3,A,C,i4,i5⟩:=zbc hw b x.2 q v z y p hs hp hc n2 hg hh.2
   have hg0:∀ g∈G,g∈z7 b x.2:=fun g h=>by rw [i4]; simp [hg g h]
   have away:∀ k∈z7 a x.1,w'.heap[k]?=w.heap[k]?:=fun k hk=>hw k (z1l hh.1 k hk) fun e=>n3 k hk k (hg0 k e) rfl
   exact ⟨by simp [za,i1],fun hy=>⟨z1z away hh.1,i2 hy⟩,fun hp hy=>⟨z21 away hp.1,i3 hp.2 hy⟩,z7 a x.1++A,C,by simp [z7,i4],by simp [z7,i5]⟩
 | .int _,x,q,v,z,y,x',hs,h,hc,hn,hg,hh=>by match q with | []=>cases hs; have:=(z3h (.int _) x y).symm.trans h; cases this; exact ⟨hc,fun h=>h,fun _ h=>h,[],[],rfl,rfl⟩ | _::_=>cases hs
 | .bool,x,q,v,z,y,x',hs,h,hc,hn,hg,hh=>by match q with | []=>cases hs; have:=(z3h .bool x y).symm.trans h; cases this; exact ⟨hc,fun h=>h,fun _ h=>h,[],[],rfl,rfl⟩ | _::_=>cases hs
 | .str,x,q,v,z,y,x',hs,h,hc,hn,hg,hh=>by match q with | []=>cases hs; have:=(z3h .str x y).symm.trans h; cases this; exact ⟨hc,fun h=>h,fun _ h=>h,[],[],rfl,rfl⟩ | _::_=>cases hs
 | .un,x,q,v,z,y,x',hs,h,hc,hn,hg,hh=>by match q with | []=>cases hs; have:=(z3h .un x y).symm.trans h; cases this; exact ⟨hc,fun h=>h,fun _ h=>h,[],[],rfl,rfl⟩ | _::_=>cases hs
 | .rd t,x,q,v,z,y,x',hs,h,hc,hn,hg,hh=>by match q with | []=>cases hs; have:=(z3h (.rd t) x y).symm.trans h; cases this; exact ⟨hc,fun h=>h,fun _ h=>h,[],[],rfl,rfl⟩ | _::_=>cases hs
theorem zbd {w:World}:∀ {t:Ty} {x:L t} {p:List Step} {y:Loc},zy t x p=some y→(z7 y.1 y.2).Sublist (z7 t x)∧(plain w t x→plain w y.1 y.2)
 | .sl e t,x,p,y,h=>by
  match p with
  | []=>cases h; exact ⟨y2t _,fun h=>h⟩
  | .f _::_=>cases h
  | .u::_=>cases h
  | .ix n::p =>
   obtain ⟨z,hz,h⟩:=yk.1 h
   obtain ⟨h1,h2⟩:=zbd (w:=w) h
   obtain ⟨hlt,hxe⟩:=yo.1 hz
   refine ⟨?_,fun hp=>h2 (hp.2 z (ym hz))⟩
   have hsplit:x.2.2=x.2.2.take n++z::x.2.2.drop (n+1):=by rw [← hxe,← y2i hlt,y2d]
   have hb:z7 (.sl e t) x=(x.1.toList++(x.2.2.take n).flatMap (z7 t))++(z7 t z++(x.2.2.drop (n+1)).flatMap (z7 t)):=by
    simp only [z7]
    conv=>lhs; rw [hsplit]
    simp [y11]
   rw [hb]
   exact h1.trans ((y4a _ _).trans (y4b _ _))
 | .st t,x,p,y,h=>by
  match p with
  | []=>cases h; exact ⟨y2t _,fun h=>h⟩
  | .u::p=>exact zbd (t:=t) (x:=x) (p:=p) h
  | .ix n::p=>exact zbd (t:=t) (x:=x) (p:=.ix n::p) h
  | .f b::p=>exact zbd (t:=t) (x:=x) (p:=.f b::p) h
 | .pr a b,x,p,y,h=>by
  match p with
  | []=>cases h; exact ⟨y2t _,fun h=>h⟩
  | .ix _::_=>cases h
  | .u::_=>cases h
  | .f false::p =>
   obtain ⟨h1,h2⟩:=zbd (w:=w) (t:=a) (x:=x.1) (p:=p) h
   exact ⟨h1.trans (y4a _ _),fun hp=>h2 hp.1⟩
  | .f true::p =>
   obtain ⟨h1,h2⟩:=zbd (w:=w) (t:=b) (x:=x.2) (p:=p) h
   exact ⟨h1.trans (y4b _ _),fun hp=>h2 hp.2⟩
 | .int _,x,p,y,h=>by match p with | []=>cases h; exact ⟨y2t _,fun h=>h⟩ | _::_=>cases h
 | .bool,x,p,y,h=>by match p with | []=>cases h; exact ⟨y2t _,fun h=>h⟩ | _::_=>cases h
 | .str,x,p,y,h=>by match p with | []=>cases h; exact ⟨y2t _,fun h=>h⟩ | _::_=>cases h
 | .un,x,p,y,h=>by match p with | []=>cases h; exact ⟨y2t _,fun h=>h⟩ | _::_=>cases h
 | .rd t,x,p,y,h=>by match p with | []=>cases h; exact ⟨y2t _,fun h=>h⟩ | _::_=>cases h

section
variable {P : Program} {E E' : Env} {w0 : World} {ok O : Nat → Prop} {σ σ' : St} {tm : Array Value} {w w' : World} {M M' : Map} {a : Act} {R0 : Type} {res : R0}

theorem Rep.env (R:Rep E w0 ok O σ tm w M) (h1:∀ t,(E'.tyOf t).sz=(E.tyOf t).sz) (h2:E'.pins=E.pins) (h3:E'.pinB=E.pinB):Rep E' w0 ok O σ tm w M where
 slots:=R.slots
 rows:=R.rows
 boxes:=fun i b h=>by
  obtain ⟨cs,g1,g2,g3⟩:=R.boxes i b h
  exact ⟨cs,g1,g2,fun hc=>by rw [h1]; exact g3 hc⟩
 rr:=R.rr
 bb:=R.bb
 rb:=R.rb
 ownR:=R.ownR
 ownB:=R.ownB
 okB:=R.okB
 liveS:=R.liveS
 liveB:=R.liveB
 kept:=R.kept
 pin:=by rw [h2]; exact R.pin
 pinB:=by rw [h3]; exact R.pinB
theorem Rep.slotsTo (R:Rep E w0 ok O σ tm w M) {tm':Array Value} {sl:List (Nat×SV)} (h:∀ s v,lk sl s=some v→(∃ u,tm'[s]?=some u∧zr w0 ok M v u)∧Live σ v):Rep E w0 ok O ⟨sl,σ.rows,σ.bx⟩ tm' w M where
 slots:=fun s v hv=>(h s v hv).1
 rows:=R.rows
 boxes:=R.boxes
 rr:=R.rr
 bb:=R.bb
 rb:=R.rb
 ownR:=R.ownR
 ownB:=R.ownB
 okB:=R.okB
 liveS:=fun s v hv=>⟨(h s v hv).2.rows,(h s v hv).2.boxes⟩
 liveB:=fun i b hb=>⟨(R.liveB i b hb).rows,(R.liveB i b hb).boxes⟩
 kept:=R.kept
 pin:=R.pin
 pinB:=R.pinB

theorem z2i.up {b c:Bool} {w0 w1:World} {ok O ok1 O1:Nat→Prop} (h:z2i b w0 ok O w1 ok1 O1) (hb:b=false∨c=true):z2i c w0 ok O w1 ok1 O1:=by
 rcases h with h | ⟨h1,h2⟩
 ·exact .inl h
 ·exact .inr ⟨hb.elim (fun e=>by rw [e] at h1; cases h1) id,h2⟩
def z1c (P:Program) [Glob P] (ti:List TI) (g:FuncId) (c:OC):Prop:=c.hi.ok=true∧∀ (E:Env),(∀ t,(E.tyOf t).sz=(z1a ti t).sz)→∀ x y,c.F x=some y→∀ (w:World) (ok O:Nat→Prop) (M:Map) (vs:List Value),vs.length=c.hi.sl.length→z5r P w O →
 Rep E w ok O (c.hi.fill x) vs.toArray w M→z3f P g vs.toArray w fun v w'=>∃ M' w2 ok2 O2,z2i c.ch w ok O w2 ok2 O2∧Rep E w2 ok2 O2 (c.ho.fill y) #[v] w' M'
theorem z1b7 {ti ti':List TI} (h:ti.map (fun i=>i.ty.sz)=ti'.map (fun i=>i.ty.sz)) (t:TypeId):(z1a ti t).sz=(z1a ti' t).sz:=by
 have key:∀ l:List TI,(z1a l t).sz=((l.map (fun i=>i.ty.sz))[t]?).getD 0:=fun l=>by
  unfold z1a
  rw [yu]
  cases l[t]? <;> rfl
 rw [key,key,h]
theorem z1c.to {P:Program} [Glob P] {ti ti':List TI} {g:FuncId} {c:OC} (h:z1c P ti g c) (hs:ti.map (fun i=>i.ty.sz)=ti'.map (fun i=>i.ty.sz)):z1c P ti' g c :=
 ⟨h.1,fun E hE=>h.2 E fun t=>(hE t).trans (z1b7 hs t).symm⟩

theorem zqr (R:Rep E w0 ok O σ tm w M) {h:Head} (hk:h.ok=true) {k:h.T→Option R0} (hg:h.raw σ k=some res):∃ x,k x=some res∧Rep E w0 ok O (h.fill x) tm w M:=by
 unfold Head.raw at hg
 obtain ⟨x,hg,hx⟩:=zjz hg
 obtain ⟨y,hg,hy⟩:=zk0 hg
 obtain ⟨z,hg,hz⟩:=zk1 hg
 simp only [Head.ok,yh,y17] at hk
 refine ⟨(x,y,z),hg,R.le ⟨fun s v hv=>hx s v (z19 hv),fun s v hv=>hy s v (z19 hv),fun s v hv=>hz s v (z19 hv)⟩ (fun s v hv=>?_) (fun i b hb=>?_)⟩
 ·obtain ⟨sk,y',h1,rfl⟩:=zk2 (z19 hv)
  exact ze2 (hk.1 _ h1)
 ·obtain ⟨t,sk,y',h1,rfl⟩:=zk3 (z19 hb)
  exact ze2 (hk.2 _ h1)

theorem z1b8 {l:List SV} {c:OC} {j:Nat} {q:List Step} {rest:List SV} (h:zpg l c=some (j,q,rest)):(∃ s q',q=s::q')∧l=.ref j q::rest∧rest.all SV.isV=true:=by
 unfold zpg at h
 split at h
 ·rename_i j' s q' rest' i' l' _
  cases hv:rest'.all SV.isV <;> rw [hv] at h <;> cases h
  exact ⟨⟨_,_,rfl⟩,rfl,hv⟩
 ·cases h
def z1b9 (x:Loc):Map:=⟨fun _=>x,fun _=>0,fun _=>0,fun _=>0⟩
def zqs (E:Env) (x:Loc):Env:={ E with pins:=fun _=>hdL x }
theorem z1ba (R:Rep E w0 ok O σ tm w M) {j:Nat} {q:List Step} {r:Row} (hr:lk σ.rows j=some r) {l0:L (.sl r.e r.t)} (hl0:M.loc j=⟨.sl r.e r.t,l0⟩) {e:TypeId} {u:Ty} {z0:L (.sl e u)} (hz:zy (.sl r.e r.t) l0 q=some ⟨.sl e u,z0⟩) (hrz:r.z=false)
  {rest:List SV} {vs:List Value} (hl:rest.length+1=vs.length) (hs:∀ (k:Nat) s v,(SV.ref j q::rest)[k]?=some s→vs[k]?=some v→zr w0 ok M s v) (hv:rest.all SV.isV=true) :
  Rep (zqs E ⟨.sl e u,z0⟩) w ok (fun k=>k∈z7 (.sl e u) z0) ⟨(0,.ref PIN [])::z82 rest 1,[(PIN,⟨e,u,erase (.sl e u) z0,false⟩)],[]⟩ vs.toArray w (z1b9 ⟨.sl e u,z0⟩):=by
 obtain ⟨l0',g1,g2,g3,g4,g5⟩:=R.rows j r hr
 rw [hl0] at g1
 cases g1
 obtain ⟨k1,k2⟩:=subL_holds hz g3
 obtain ⟨k3,k4⟩:=zbd (w:=w) hz
 have one:∀ i r',lk [(PIN,(⟨e,u,erase (.sl e u) z0,false⟩:Row))] i=some r'→i=PIN∧r'=(⟨e,u,erase (.sl e u) z0,false⟩:Row):=fun i r' h=>z59 h
 have notOk:∀ k,k∈z7 (.sl e u) z0→¬ ok k:=fun k h=>(R.ownR j ⟨r,hr⟩ k (by rw [hl0]; exact k2 k h)).1
 have slot:∀ s v,lk ((0,SV.ref PIN [])::z82 rest 1) s=some v→(s=0∧v=.ref PIN [])∨∃ k t x,s=k+1∧rest[k]?=some v∧v=.val t x:=fun s v h=>by
  rw [zu] at h
  split at h
  ·rename_i hh; cases h; exact .inl ⟨hh.symm,rfl⟩
  ·obtain ⟨k,e1,e2⟩:=zkd h
   have:=y17.1 hv v (ym e2)
   cases v <;> first | (cases this; done) | exact .inr ⟨k,_,_,by omega,e2,rfl⟩
 constructor
 ·intro s v h
  rcases slot s v h with ⟨rfl,rfl⟩ | ⟨k,t,x,rfl,e2,rfl⟩
  ·have hlt:0<vs.length:=by omega
   refine ⟨vs[0],by simp [hlt],?_⟩
   obtain ⟨cs,⟨e',t',l',h1,h2⟩,h3⟩:=hs 0 _ vs[0] rfl (yj hlt)
   rw [hl0] at h1
   have h1:=hz.symm.trans h1
   cases h1
   exact ⟨cs,⟨e,u,z0,z2z _ _,h2⟩,h3⟩
  ·have hlt:k+1<vs.length:=by have:=(yo.1 e2).1; omega
   refine ⟨vs[k+1],by simp [hlt],?_⟩
   obtain ⟨cs,h1,h2⟩:=hs (k+1) _ vs[k+1] (by simpa using e2) (List.getElem?_eq_getElem hlt)
   exact ⟨cs,R.rd h1,h2⟩
 ·intro i r' h
  obtain ⟨_,rfl⟩:=one i r' h
  exact ⟨z0,rfl,rfl,z6g (fun _ _ _ h=>R.rd h) k1,k3.nodup g4,fun _=>k4 (g5 hrz)⟩
 ·intro i b h; cases h
 ·rintro i i' hij ⟨r1,h1⟩ ⟨r2,h2⟩
  exact absurd ((one _ _ h1).1.trans (one _ _ h2).1.symm) hij
 ·rintro i i' hij ⟨b,hb⟩; cases hb
 ·rintro i i' _ ⟨b,hb⟩; cases hb
 ·rintro i _ k hk
  exact ⟨notOk k hk,.inl hk⟩
 ·rintro i ⟨b,hb⟩; cases hb
 ·exact fun k hk=>⟨R.ok_lt hk,fun h=>notOk k h hk⟩
 ·intro s v h
  rcases slot s v h with ⟨rfl,rfl⟩ | ⟨k,t,x,rfl,e2,rfl⟩
  ·refine ⟨fun i hi=>?_,fun i hi=>by simp [SV.boxes] at hi⟩
   simp only [SV.roots,y2l] at hi
   subst hi
   exact ⟨_,by rw [zu,y4 rfl]⟩
  ·exact ⟨fun i hi=>by simp [SV.roots] at hi,fun i hi=>by simp [SV.boxes] at hi⟩
 ·intro i b h; cases h
 ·exact Kept.refl _ _
 ·rintro i hi ⟨r',h⟩
  exact zwe rfl
 ·rintro i hi ⟨b,hb⟩; cases hb
theorem z1bb [Glob P] (G:z5r P w0 O) (R:Rep E w0 ok O σ tm w M) {j:Nat} {r:Row} (hr:lk σ.rows j=some r) {bs:List Nat} (hb:∀ k∈bs,k∈z7 (M.loc j).1 (M.loc j).2):z5r P w (fun k=>k∈bs):=by
 refine ⟨G.now R.kept,fun k hk hO=>?_⟩
 have hlt:=Glob.lt w0 G.1 k hk
 rcases (R.ownR j ⟨r,hr⟩ k (hb k hO)).2 with h | h
 ·exact G.2 k hk h
 ·omega
theorem z1bc (R:Rep E w0 ok O σ tm w M) {j:Nat} {q:List Step} {s0:Step} {q':List Step} (hq:q=s0::q') {r:Row} (hr:lk σ.rows j=some r) {l0:L (.sl r.e r.t)} (hl0:M.loc j=⟨.sl r.e r.t,l0⟩) {e:TypeId} {u:Ty} {z0:L (.sl e u)} (hz:zy (.sl r.e r.t) l0 q=some ⟨.sl e u,z0⟩) (hrz:r.z=false)
  {τ:St} {v:Value} (R':Rep (zqs E ⟨.sl e u,z0⟩) w ok (fun k=>k∈z7 (.sl e u) z0) τ #[v] w' M') {dst:Option Tmp} (hin:inB dst tm) {k:St→Option R0} (h:zph σ dst j r q e u τ k=some res) :
  ∃ (σ'':St) (M'':Map),k (σ''.put dst (match lk τ.sl 0 with | some s=>s | none=>.un))=some res∧Rep E w0 ok O (σ''.put dst (match lk τ.sl 0 with | some s=>s | none=>.un)) (z3p tm dst v) w' M'':=by
 obtain ⟨l0',g1,g2,g3,g4,g5⟩:=R.rows j r hr
 have g1:=hl0.symm.trans g1
 cases g1
 obtain ⟨_,k2⟩:=subL_holds hz g3
 unfold zph at h
 split at h
 rotate_left
 ·cases h
 rename_i t x r' hs0 hr'
 obtain ⟨re,rt,rx,rz⟩:=r'
 cases rz
 rotate_left
 ·cases h
 simp only [yn] at h
 unfold zq at h
 split at h
 rotate_left
 ·cases h
 rename_i he
 cases he
 obtain ⟨l1,f1,f2,f3,f4,f5⟩:=R'.rows PIN _ hr'
 simp only at f1 f2 f3 f4 f5
 have f5:=f5 trivial
 simp only at h
 have h:z63 (.sl r.e r.t) r.xs q (.sl e u) rx (fun xs=>k (((σ.killIn j (ixs q-1)).setRow j ⟨r.e,r.t,xs,r.z⟩).put dst (.val t x)))=some res:=h
 rw [← g2,← f2,z8f] at h
 obtain ⟨x',hx',h⟩:=yk.1 h
 have hc:za (.sl e u) l1=za (.sl e u) z0:=by
  have:=R'.pin PIN (yr _) ⟨_,hr'⟩
  rw [f1] at this
  exact this
 obtain ⟨c1,c2,c3,A,C,c4,c5⟩:=zbc (G:=z7 (.sl e u) z0) (fun k hk hn=>R'.kept.block k hk hn) (.sl r.e r.t) l0 q (.sl e u) z0 l1 x' hz hx' hc g4 (fun _ h=>h) g3
 have own1:∀ k∈z7 (.sl e u) l1,¬ ok k∧(k∈z7 (.sl e u) z0∨w.heap.size≤k):=fun k hk=>R'.ownR PIN ⟨_,hr'⟩ k (by rw [f1]; exact hk)
 have lt0:∀ k∈z7 (.sl r.e r.t) l0,k<w.heap.size:=z1l g3
 have hix:ixs q-1<ixs q:=by
  subst hq
  cases s0 with
  | ix n=>show ixs q'+1-1<ixs q'+1; omega
  | f b=>cases hz
  | u=>cases hz
 obtain ⟨Rk,kS,kB⟩:=R.killIn j (ixs q-1)
 have hU:=Rk.upd (j:=j) (r:=r) hr (l:=l0) (l':=x') hl0 (bs:=(z7 (.sl e u) l1).filter fun k=>decide (w.heap.size≤k)) (w':=w')
  ⟨R'.kept.os,R'.kept.tape,R'.kept.output,R'.kept.size,fun k hk hn=>R'.kept.block k hk fun h=>hn (k2 k h)⟩ (c2 (z6g (fun _ _ _ h=>h.move fun k hk=>(R.ok_kept hk).symm) f3)) ?_ (fun _=>c3 (g5 hrz) f5) c1 ?_ ?_ ?_ ?_
 ·refine ⟨(σ.killIn j (ixs q-1)).setRow j ⟨r.e,r.t,erase (.sl r.e r.t) x',r.z⟩,_,?_,Rep.putV hU ?_ ?_ hin⟩
  ·rw [hs0]; exact h
  ·rw [hs0]
   obtain ⟨y,y1,cs,y2,y3⟩:=R'.slots 0 _ hs0
   have y1:y=v:=by simpa using y1.symm
   subst y1
   exact ⟨cs,Rd.move (fun k hk=>(R.ok_kept hk).symm) y2,y3⟩
  ·rw [hs0]
   exact ⟨fun i hi=>by simp [SV.roots] at hi,fun i hi=>by simp [SV.boxes] at hi⟩
 ·rw [c5]
  rw [c4] at g4 lt0
  obtain ⟨n1,n2,n3⟩:=y1g.1 g4
  obtain ⟨n4,n5,n6⟩:=y1g.1 n1
  refine y1g.2 ⟨y1g.2 ⟨n4,f4,fun a ha b hb e=>?_⟩,n2,fun a ha b hb e=>?_⟩
  ·subst e
   rcases (own1 a hb).2 with h1 | h1
   ·exact n6 a ha a h1 rfl
   ·have:=lt0 a (by simp [ha]); omega
  ·subst e
   rcases yd.1 ha with ha | ha
   ·exact n3 a (yd.2 (.inl ha)) a hb rfl
   ·rcases (own1 a ha).2 with h1 | h1
    ·exact n3 a (yd.2 (.inr h1)) a hb rfl
    ·have:=lt0 a (by simp [hb]); omega
 ·intro a ha
  rw [c5] at ha
  rcases yd.1 ha with ha | ha
  ·rcases yd.1 ha with ha | ha
   ·exact .inl (by rw [c4]; simp [ha])
   ·rcases (own1 a ha).2 with h1 | h1
    ·exact .inl (k2 a h1)
    ·exact .inr (y2n.2 ⟨ha,yb h1⟩)
  ·exact .inl (by rw [c4]; simp [ha])
 ·have big:∀ a∈(z7 (.sl e u) l1).filter (fun k=>decide (w.heap.size≤k)),w.heap.size≤a:=fun a ha=>of_decide_eq_true (y2n.1 ha).2
  refine ⟨f4.filter _,fun a ha=>⟨(own1 a (y2n.1 ha).1).1,.inr (y1o R.kept.size (big a ha))⟩,fun i hi a ha hb=>?_,fun i hi ha=>?_⟩
  ·obtain ⟨r1,h1⟩:=hi
   obtain ⟨l2,d1,_,d2,_⟩:=Rk.rows i r1 h1
   rw [d1] at hb
   have:=z1l d2 a hb
   have:=big a ha
   omega
  ·obtain ⟨b,h1⟩:=hi
   obtain ⟨cs,_,d1,_⟩:=Rk.boxes i b h1
   have:=(y1s.1 d1).1
   have:=big _ ha
   omega
 ·exact fun s v hv p hp=>z3r _ l0 q _ l1 x' p hx' (y5m (kS s v hv p hp) hix)
 ·exact fun i b hb p hp=>z3r _ l0 q _ l1 x' p hx' (y5m (kB i b hb p hp) hix)
theorem zwg {w0:World} {ok:Nat→Prop} {M:Map}:∀ {t:Ty} {x:t.T} {cs:List Value},Rd w0 ok t x cs→zc w0 ok M (zpd t x) cs
 | .un,_,_,h=>h
 | .pr a b,x,cs,h=>by
  obtain ⟨c1,c2,h1,h2,h3⟩:=h
  exact ⟨c1,c2,h1,h2,zwg h3⟩
 | .int _,_,_,h=>h
 | .bool,_,_,h=>h
 | .str,_,_,h=>h
 | .sl _ _,_,_,h=>h
 | .st _,_,_,h=>h
 | .ptr _,_,_,h=>h
 | .fn _ _,_,_,h=>h
 | .fs _,_,_,h=>h
 | .rd _,_,_,h=>h
theorem z1bd (R:Rep E w0 ok O σ tm w M) {a:Act} (hat:a.tmps=tm) {f:Operand} {g:FuncId} {cs:SV} (h:zpe σ f=some (.clo g cs)):∃ caps:Array Value,a.eval f=.func (.func g) #[] caps∧zc w0 ok M cs caps.toList:=by
 unfold zpe at h
 split at h
 ·rename_i s hs
  have h:s.asClo=.clo g cs:=y28 h
  obtain ⟨h1,_⟩:=z1b R hat hs
  unfold SV.asClo at h
  split at h
  ·rename_i g' ct x
   cases h
   obtain ⟨q,⟨caps,hc,hcr⟩,hw⟩:=h1
   subst hc
   refine ⟨caps,?_,zwg hcr⟩
   rcases hw with ⟨h5,_⟩ | ⟨_,h5⟩
   ·cases h5
   ·simp only [y12,y13] at h5; exact h5.symm
  ·subst h
   obtain ⟨q,⟨caps,hc,hcr⟩,hw⟩:=h1
   subst hc
   refine ⟨caps,?_,hcr⟩
   rcases hw with ⟨h5,_⟩ | ⟨_,h5⟩
   ·cases h5
   ·simp only [y12,y13] at h5; exact h5.symm
 ·cases h

theorem z1be [Glob P] (G:z5r P w0 O) (R:Rep E w0 ok O σ tm w M) {l:List SV} {ids bids:List Nat} (H:InOK σ l ids bids):z5r P w (Own M ids bids):=by
 refine ⟨G.now R.kept,fun k hb hO=>?_⟩
 have hlt:=Glob.lt w0 G.1 k hb
 rcases hO with ⟨i,hi,hk⟩ | ⟨b,hbi,rfl⟩
 ·rcases (R.ownR i (H.rows i hi) k hk).2 with h | h
  ·exact G.2 k hb h
  ·omega
 ·rcases (R.ownB b (let ⟨x,hx,_⟩:=H.bx b hbi; ⟨x,hx⟩)).2 with h | h
  ·exact G.2 _ hb h
  ·omega
theorem z1bf (R:Rep E w0 ok O σ a.tmps w M) {d:Nat} {args:List Operand} {ts:List TypeId} {σ':St} {l:List SV} (h:zpf E σ d args ts=some (σ',l)) :
  ∃ M',Rep E w0 ok O σ' a.tmps w M'∧l.length=args.length∧∀ (i:Nat) x s,args[i]?=some x→l[i]?=some s→zr w0 ok M' s (a.eval x):=by
 unfold zpf at h
 split at h
 ·rename_i l0 t ts0
  split at h
  ·rename_i e e' u b hti
   cases hpin:Nat.blt (5000000+32*d) PIN <;> rw [hpin] at h
   ·cases h
   ·simp only [yi] at h
    split at h
    ·rename_i ss hss
     cases h
     have R':=R.addOwn (5000000+32*d) (y19 hpin) (e:=e) (t:=u) (none,0,[]) ⟨⟨rfl,rfl⟩,by simp⟩ ⟨fun b hb=>(nomatch hb),by simp⟩ (by simp only [z7]; exact Free.nil)
     obtain ⟨e1,e2⟩:=z87 R' rfl hss
     refine ⟨_,R',by simp [e1],fun i x s hx hs=>?_⟩
     cases i with
     | zero =>
      simp at hx hs
      subst hx; subst hs
      exact ⟨[.slice none 0 0],⟨e,u,(none,0,[]),(congrArg (fun z:Loc=>zy z.1 z.2 []) (z1w M.loc (5000000+32*d) ⟨.sl e u,(none,0,[])⟩)).trans rfl,rfl⟩,.inr ⟨rfl,rfl⟩⟩
     | succ i =>
      simp only [y1q] at hx hs
      exact (e2 i x s hx hs).1
    ·cases h
  ·cases h
 ·split at h
  ·rename_i ss hss
   cases h
   obtain ⟨e1,e2⟩:=z87 R rfl hss
   exact ⟨M,R,e1,fun i x s hx hs=>(e2 i x s hx hs).1⟩
  ·cases h
theorem zkg [Glob P] (H:∀ s g c,E.opn s=some (g,c)→z1c P E.ti g c) (G:z5r P w0 O):z38 P E w0 O:=by
 intro w1 O1 hm R0 res ok σ a w M o g c f args ts k ho R hop hin hd h next Q hn'
 have G:z5r P w1 O1:=⟨G.now hm.1,fun k hb ho=>(hm.2 k ho).elim (G.2 k hb) fun hl=>absurd (Glob.lt w0 G.1 k hb) (y2r.2 hl)⟩
 obtain ⟨hiok,HO⟩:=H _ _ _ ho
 have R1:=R.clean (z12 o)
 unfold zgo at h
 generalize σ.clean (z12 o)=σ0 at R1 h
 split at h
 ·rename_i σ1 l hl
  obtain ⟨M1,R1,e1,e2⟩:=z1bf (a:=a) R1 hl
  split at h
  rotate_left
  ·cases h
  rename_i g' cs hf
  cases hk:(!(Nat.beq g g'&&cs.caps.all SV.cap1)) <;> rw [hk] at h
  ·simp only [yn] at h
   simp only [y40,yh] at hk
   have hgg:=yq hk.1
   subst hgg
   obtain ⟨caps,hv,hcr⟩:=z1bd R1 rfl hf
   have hrun:(execOp a.eval o).run P w=(callFunc g ((args.toList.map a.eval)++caps.toList).toArray).run P w:=by
    unfold execOp
    rw [hop]
    simp only [resolve,hv,Deferred.ofValue,Sem.run_bind,Sem.run_pure,Result.andThen_ok,invoke]
    congr 2
    apply y1u
    simp
   obtain ⟨g1,g2⟩:=zq5 hk.2 hcr
   have hlen:(l++cs.caps).length=((args.toList.map a.eval)++caps.toList).length:=by simp [e1,g1]
   have hs:∀ (i:Nat) s v,(l++cs.caps)[i]?=some s→((args.toList.map a.eval)++caps.toList)[i]?=some v→zr w1 ok M1 s v:=by
    intro i s v hs hv
    by_cases hi:i<l.length
    ·rw [y1w hi] at hs
     rw [y1w (by rw [yp,← e1]; exact hi),yu,y10] at hv
     obtain ⟨x,hx,rfl⟩:=hv
     exact e2 i x s hx hs
    ·rw [y1r (by omega)] at hs
     rw [y1r (by rw [yp,← e1]; omega),yp,← e1] at hv
     exact g2 _ s v hs hv
   have hlen2:=hlen
   split at h
   ·rename_i j q rest hbq
    obtain ⟨⟨s0,q',hq⟩,hll,hv⟩:=z1b8 hbq
    rw [hll] at hs hlen
    unfold zte at h
    split at h
    rotate_left
    ·cases h
    rename_i r hr
    cases hrz:r.z <;> rw [hrz] at h
    rotate_left
    ·cases h
    simp only [yn] at h
    obtain ⟨l0,m1,m2,m3,m4,m5⟩:=R1.rows j r hr
    rw [← m2,z2r,z4a] at h
    obtain ⟨y0,hy0,h⟩:=yk.1 h
    obtain ⟨z,hz,rfl⟩:=y10.1 hy0
    obtain ⟨zt,zx⟩:=z
    cases zt with
    | sl e u =>
     simp only [zgs] at h
     cases hn:(Nat.beq (rest.length+1) c.hi.sl.length&&!c.ch) <;> rw [hn] at h
     ·cases h
     ·simp only [yh,y1h] at hn
      simp only [yi] at h
      have hlen':rest.length+1=((args.toList.map a.eval)++caps.toList).length:=by simpa using hlen
      have Rin:=z1ba R1 hr m1 hz hrz hlen' hs hv
      obtain ⟨x,h,Rx⟩:=zqr Rin hiok h
      obtain ⟨y,hy,h⟩:=yk.1 h
      have hdo:=HO (zqs E ⟨.sl e u,zx⟩) (fun _=>rfl) x y hy w ok _ _ _ (by rw [← hlen']; exact yq hn.1) (z1bb G R1 hr fun k hk=>by rw [m1]; exact (subL_holds hz m3).2 k hk) Rx
      unfold Oper.wp
      rw [hrun]
      refine hdo.upon fun v w' ⟨M',w2,ok2,O2,hc,R'⟩=>?_
      obtain ⟨rfl,rfl,rfl⟩:=hc.elim id fun h=>by rw [hn.2] at h; cases h.1
      obtain ⟨σ'',M'',h,R''⟩:=z1bc R1 hq hr m1 hz hrz R' hin h
      refine hn'.at _ _ w' M'' h ?_ (by rw [z1u,z4b]) (by rw [z4v]; exact hd)
      rw [z1u]
      exact R''
    | _=>simp only [zgs] at h; cases h
   rename_i hnb
   unfold zgo.open1 zgo.open2 at h
   generalize zix σ1 8 (z4s ((l++cs.caps).flatMap SV.boxes) [])=bids at h
   generalize z4s ((l++cs.caps).flatMap SV.roots++bids.flatMap (ziw σ1)) []=ids at h
   cases hq:((σ1.okIn (l++cs.caps) ids bids&&Nat.beq (l++cs.caps).length c.hi.sl.length)&&(!c.ch||E.rdm)) <;> rw [hq] at h
   ·cases h
   ·simp only [yi] at h
    simp only [yh] at hq
    obtain ⟨hq,hch⟩:=hq
    have HI:=z1av hq.1
    have Rin:=z1aw R1 HI hlen hs
    obtain ⟨x,h,Rx⟩:=zqr Rin hiok h
    obtain ⟨y,hy,h⟩:=yk.1 h
    have hdo:=HO (zkf E M1 ids bids) (fun _=>rfl) x y hy w ok _ _ _ (by rw [← hlen]; exact yq hq.2) (z1be G R1 HI) Rx
    unfold Oper.wp
    rw [hrun]
    refine hdo.upon fun v w' ⟨M',w2,ok2,O2,hc,R'⟩=>?_
    cases hb:σ1.okBack (c.ho.fill y) ids bids (z12 o) <;> rw [hb] at h
    ·cases h
    ·simp only [yi] at h
     split at h
     ·rename_i v0 hv0
      obtain ⟨M'',w3,ok3,O3,hc3,R''⟩:=z1b6 R1 HI hc R' (z1b4 hb) hv0 hin
      refine hn' _ _ _ (hc3.up (by simpa using hch)) _ _ w' M'' h ?_ (by rw [z1u,z4b]) (by rw [z4v]; exact hd)
      rw [z1u]
      exact R''
     ·cases h
  ·cases h
 ·cases h

theorem z1bg {s r:SV} {b:Bool} (h:s.half b=some r):(∀ i∈r.roots,i∈s.roots)∧∀ i∈r.boxes,i∈s.boxes:=by
 match s,b,h with
 | .val (.pr a b) x,false,h=>cases h; exact ⟨by simp [SV.roots],by simp [SV.boxes]⟩
 | .val (.pr a b) x,true,h=>cases h; exact ⟨by simp [SV.roots],by simp [SV.boxes]⟩
 | .val (.st (.pr a b)) x,false,h=>cases h; exact ⟨by simp [SV.roots],by simp [SV.boxes]⟩
 | .val (.st (.pr a b)) x,true,h=>cases h; exact ⟨by simp [SV.roots],by simp [SV.boxes]⟩
 | .pr a b,false,h=>cases h; exact ⟨fun i hi=>by simp [SV.roots,hi],fun i hi=>by simp [SV.boxes,hi]⟩
 | .pr a b,true,h=>cases h; exact ⟨fun i hi=>by simp [SV.roots,hi],fun i hi=>by simp [SV.boxes,hi]⟩
 | .st (.pr a b),false,h=>cases h; exact ⟨fun i hi=>by simp [SV.roots,hi],fun i hi=>by simp [SV.boxes,hi]⟩
 | .st (.pr a b),true,h=>cases h; exact ⟨fun i hi=>by simp [SV.roots,hi],fun i hi=>by simp [SV.boxes,hi]⟩
theorem zwh:∀ {p:List Bool} {s r:SV},s.part p=some r→(∀ i∈r.roots,i∈s.roots)∧∀ i∈r.boxes,i∈s.boxes
 | [],s,r,h=>by cases h; exact ⟨fun _ h=>h,fun _ h=>h⟩
 | b::p,s,r,h=>by
  simp only [SV.part] at h
  split at h
  ·rename_i z hz
   obtain ⟨h1,h2⟩:=zwh h
   obtain ⟨k1,k2⟩:=z1bg hz
   exact ⟨fun i hi=>k1 i (h1 i hi),fun i hi=>k2 i (h2 i hi)⟩
  ·cases h
theorem z1bh (R:Rep E w0 ok O σ tm w M) {r:ResultVar} {s:SV} (h:zb2 E σ r=some s):Live σ s:=by
 cases r with
 | tmp t=>exact R.liveS t s h
 | cell a t =>
  simp only [zb2] at h
  split at h
  ·rename_i j q o hs
   split at h
   ·rename_i b hb
    split at h
    ·rename_i s' hp
     cases hk:(Nat.beq (b.c.offP q) o&&(s'.fit (E.tyOf t)).okW (E.tyOf t)) <;> rw [hk] at h
     ·cases h
     ·cases h
      have hL:=R.liveB j b hb
      obtain ⟨h1,h2⟩:=zwh hp
      exact z1am _ _ ⟨fun i hi=>hL.rows i (h1 i hi),fun i hi=>hL.boxes i (h2 i hi)⟩
    ·cases h
   ·cases h
  ·cases h
theorem zqt (T:zh P E.ti=true) (R:Rep E w0 ok O σ tm w M):∀ {rs:List ResultVar} {l:List SV},zde E σ rs=some l→∃ vs,Rvs P tm w rs vs∧vs.length=l.length∧∀ (i:Nat) s v,l[i]?=some s→vs[i]?=some v→zr w0 ok M s v∧Live σ s
 | [],l,h=>by cases h; exact ⟨[],trivial,rfl,by simp⟩
 | r::rs,l,h=>by
  simp only [zde] at h
  split at h
  ·rename_i s ss h1 h2
   cases h
   obtain ⟨v,g1,g2⟩:=zvz T R h1
   obtain ⟨vs,k1,k2,k3⟩:=zqt T R h2
   refine ⟨v::vs,⟨g1,k1⟩,by simp [k2],fun i s' v' hs hv=>?_⟩
   cases i with
   | zero=>simp at hs hv; subst hs; subst hv; exact ⟨g2,z1bh R h1⟩
   | succ i=>simp only [y1q] at hs hv; exact k3 i s' v' hs hv
  ·cases h
theorem zwi:∀ {l:List SV} {vs:List Value},vs.length=l.length→(∀ (i:Nat) s v,l[i]?=some s→vs[i]?=some v→zr w0 ok M s v∧Live σ s)→l.all SV.nt=true→z2h w0 ok M (z2y l) vs∧Live σ (z2y l)
 | [],[],_,_,_=>⟨rfl,⟨by simp [z2y,SV.roots],by simp [z2y,SV.boxes]⟩⟩
 | s::l,v::vs,hl,H,hk=>by
  simp only [y3y,yh] at hk
  obtain ⟨h1,h2⟩:=zwi (l:=l) (vs:=vs) (by simpa using hl) (fun i s v a b=>H (i+1) s v a b) hk.2
  obtain ⟨h3,h4⟩:=H 0 s v rfl rfl
  refine ⟨⟨v,vs,rfl,?_,h1⟩,⟨fun i hi=>?_,fun i hi=>?_⟩⟩
  ·rcases z35 h3 with rfl | ⟨c,q,rfl,_⟩ | ⟨cs,g1,g2⟩
   ·simp [SV.nt] at hk
   ·simp [SV.nt] at hk
   ·exact ⟨cs,g1,g2⟩
  ·simp only [z2y,SV.roots,yd] at hi
   exact hi.elim (h4.rows i) (h2.rows i)
  ·simp only [z2y,SV.boxes,yd] at hi
   exact hi.elim (h4.boxes i) (h2.boxes i)
 | [],_::_,hl,_,_=>by simp at hl
 | _::_,[],hl,_,_=>by simp at hl

theorem z1bi (T:zh P E.ti=true) (R:Rep E w0 ok O σ tm w M) {fn:Func} {rs:List ResultVar} (hr:fn.results.toList=rs) {ho:Head} (hok:ho.ok=true) {y:ho.T} (h:rdO E rs ho σ=some y):∃ v M',(results fn tm).run P w=.ok v w∧Rep E w0 ok O (ho.fill y) #[v] w M':=by
 unfold rdO at h
 split at h
 ·rename_i l hl
  obtain ⟨vs,h1,h2,h3⟩:=zqt T R hl
  cases hk:l.all SV.nt <;> rw [hk] at h
  ·cases h
  ·simp only [yi] at h
   have R2:Rep E w0 ok O ⟨[(0,zj1 l)],σ.rows,σ.bx⟩ #[if h:vs.toArray.size=1 then vs.toArray[0] else .tuple vs.toArray] w M:=by
    refine R.slotsTo fun s v hv=>?_
    rw [zu] at hv
    split at hv
    ·rename_i e
     subst e
     cases hv
     refine (fun (x:zr w0 ok M (zj1 l) _∧Live σ (zj1 l))=>⟨⟨_,rfl,x.1⟩,x.2⟩) ?_
     obtain ⟨c1,c2⟩:=zwi h2 h3 hk
     match l,vs,h2 with
     | [s],[v],_=>exact h3 0 s v rfl rfl
     | [],[],_=>exact ⟨⟨_,rfl,c1⟩,⟨c2.rows,c2.boxes⟩⟩
     | s::s'::l,v::v'::vs,_ =>
      rw [dif_neg (by simp)]
      exact ⟨⟨_,rfl,c1⟩,⟨c2.rows,c2.boxes⟩⟩
    ·cases hv
   obtain ⟨y',M',g1,g2⟩:=ze3 R2 hok h
   cases g1
   exact ⟨_,M',zk6 hr h1,g2⟩
 ·cases h

structure FnO (P:Program) (ti:List TI) (tab:List (Nat×FE)) (opn:Nat→Option (FuncId×OC)) (g:FuncId) (c:OC):Prop where
 hi:c.hi.ok=true
 ho:c.ho.ok=true
 ch:(!(ti.any fun i=>!i.ty.noRd)||c.ch)=true
 ex : ∃ (fn : Func) (cd : Code) (rs : List ResultVar) (LO : Oracles c.ho.T), P.funcs[g]? = some fn ∧ fn.body = some cd ∧ (fn.name == "runtime.NumGoroutine") = false ∧ fn.results.toList = rs ∧ c.hi.sl.length ≤ fn.ntmps ∧
  ∀ pins pinB,CodeOK (z10 ti tab opn pins pinB) LO (rdO (z10 ti tab opn pins pinB) rs c.ho) fn.ntmps cd ∧
   ∀ x,evC (z10 ti tab opn pins pinB) LO (rdO (z10 ti tab opn pins pinB) rs c.ho) cd (c.hi.fill x) (rdO (z10 ti tab opn pins pinB) rs c.ho) (fun _ _=>none)=c.F x

theorem FnO.contract [Glob P] {ti:List TI} {tab:List (Nat×FE)} {opn:Nat→Option (FuncId×OC)} (T:zh P ti=true) (HT:z4j ti=true) (hmix:P.follows .mixedOrders=true) (S:∀ e∈tab,z8 P e.1 e.2) (KO:∀ s g c,opn s=some (g,c)→z1c P ti g c) {g:FuncId} {c:OC}
  (H:FnO P ti tab opn g c):z1c P ti g c:=by
 refine ⟨H.hi,fun E hE x y hF w ok O M vs hlen G R=>?_⟩
 obtain ⟨fn,cd,rs,LO,h1,h2,h3,h4,h5,h6⟩:=H.ex
 obtain ⟨h7,h8⟩:=h6 E.pins E.pinB
 have R1:Rep (z10 ti tab opn E.pins E.pinB) w ok O (c.hi.fill x) vs.toArray w M:=R.env (fun t=>(hE t).symm) rfl rfl
 have K:z38 P (z10 ti tab opn E.pins E.pinB) w O:=zkg KO G
 have EQ:z2f P (z10 ti tab opn E.pins E.pinB):=z2f.of T HT
 have SS:SpecOK P (z10 ti tab opn E.pins E.pinB) w O:=SpecOK.of S G
 unfold z3f
 rw [z9x h1 h2 h3]
 simp only []
 refine calls_of_wp h1 h2 ?_
 have hrd:∀ e:Exit,(e=.normal∨e=.ret)→z1x (z10 ti tab opn E.pins E.pinB) w ok O y fn.ntmps (rdO (z10 ti tab opn E.pins E.pinB) rs c.ho) (bodyPost P fn (fun | .returned v,w''=>∃ M' w2 ok2 O2,z2i c.ch w ok O w2 ok2 O2∧Rep E w2 ok2 O2 (c.ho.fill y) #[v] w'' M' | _,_=>False) e):=by
  intro e he w2 ok2 O2 hc σ1 a1 w1 M1 hk R1 hn1 hd1
  obtain ⟨v,M2,g1,g2⟩:=z1bi T R1 h4 H.ho hk
  have hb:a1.defers=[]∧∃ v,(results fn a1.tmps).run P w1=.ok v w1∧∃ M' w2 ok2 O2,z2i c.ch w ok O w2 ok2 O2∧Rep E w2 ok2 O2 (c.ho.fill y) #[v] w1 M':=⟨hd1,v,g1,M2,_,_,_,hc.up (by simpa [Env.rdm,z10] using H.ch),g2.env hE rfl rfl⟩
  rcases he with rfl | rfl
  ·exact hb
  ·exact hb
 have hev:=h8 x
 rw [hF] at hev
 have R2:Rep (z10 ti tab opn E.pins E.pinB) w ok O (c.hi.fill x) (vs.toArray++Array.replicate (fn.ntmps-vs.toArray.size) undef) w M :=
  R1.slotsTo fun s v hv=>by
   obtain ⟨u,e1,e2⟩:=R1.slots s v hv
   exact ⟨⟨u,by rw [y5n (y1s.1 e1).1]; exact e1,e2⟩,R1.liveS s v hv⟩
 refine zk5 T EQ SS K hmix h7 hev R2 (by simp only [y3e,y4w,y1v,hlen]; omega) rfl (hrd _ (.inl rfl)) (fun id=>?_) (hrd _ (.inr rfl))
 intro w2 ok2 O2 hc σ1 a1 w1 M1 hk
 cases hk
end

abbrev z6 (x:Int):Int:=IntKind.i64.wrap x
abbrev z6r (x:Int):Int:=IntKind.u8.wrap x
abbrev zbe (x:Int):Int:=IntKind.u64.wrap x
abbrev z8i (xs:List Int):List UInt8:=xs.map fun (n:Int)=>n.toNat.toUInt8
abbrev z_u8 (b:UInt8):Int:=(b.toNat:Int)
def z3s (f:Func):Code:=match f.body with | some c=>c | none=>.skip

section
variable {P : Program} {E : Env} {R0 : Type}
theorem zqu [Glob P] {ti:List TI} {l:List (Nat×FuncId×OC)} (h:∀ x∈l,z1c P ti x.2.1 x.2.2):∀ s g c,lk l s=some (g,c)→z1c P ti g c:=fun s g c hl=>h (s,g,c) (z19 hl)
theorem zqv {LO:Oracles R0} {rd:St→Option R0} {c:Code} (h:(fun n=>LO.cut n)=fun _=>none):∀ b∈z5u c,∀ f,LO.cut (z48 b)=some f→zvx E LO rd b f:=by
 intro b hb f hf
 have:=congrFun h (z48 b)
 rw [this] at hf; cases hf
def LOn (R:Type):Oracles R:=⟨fun _=>none,fun _=>none⟩
def z3i:Nat→Value:=fun _=>.nilFunc
def z3j:Nat→Nat:=fun _=>0
theorem z1bj [Glob P] {ti:List TI} {tab:List (Nat×FE)} {l:List (Nat×FuncId×OC)} (T:zh P ti=true) (HT:z4j ti=true) (hmix:P.follows .mixedOrders=true) (S:∀ e∈tab,z8 P e.1 e.2) (KO:∀ x∈l,z1c P ti x.2.1 x.2.2) {g:FuncId} {ts:Ty} {n:Nat} {t:Ty} {F:ts.T→Option t.T}
  (H:FnR P (z10 ti tab (lk l) z3i z3j) g ts n t F) (hn:Nat.beq n RON=false:=by rfl):z8 P g ⟨ts,n,t,F⟩ :=
 H.contract T (z2f.of (E:=z10 ti tab (lk l) z3i z3j) T HT) (fun w G=>zkg (E:=z10 ti tab (lk l) z3i z3j) (zqu KO) G) hmix S hn
theorem z1bk [Glob P] {ti:List TI} {tab:List (Nat×FE)} {l:List (Nat×FuncId×OC)} (T:zh P ti=true) (HT:z4j ti=true) (hmix:P.follows .mixedOrders=true) (S:∀ e∈tab,z8 P e.1 e.2) (KO:∀ x∈l,z1c P ti x.2.1 x.2.2) {g:FuncId} {c:OC}
  (H:FnO P ti tab (lk l) g c):z1c P ti g c:=H.contract T HT hmix S (zqu KO)
end

noncomputable def rdV (E:Env) (rs:List ResultVar) (t:Ty) (σ:St):Option t.T:=match rs with
 | [r]=>match zb2 E σ r with
  | some (.val u x)=>zq u t x some
  | _=>none
 | _=>none
section
variable {P : Program} {E : Env} {w0 : World} {ok O : Nat → Prop} {σ σ' : St} {tm : Array Value} {w w' : World} {M M' : Map} {a : Act} {R0 : Type} {res : R0}

structure FnV (P:Program) (E:Env) (g:FuncId) (ts:Ty) (t:Ty) (F:ts.T→Option t.T):Prop where
 nc:E.rdm=false
 ex : ∃ (fn : Func) (c : Code) (rs : List ResultVar) (LO : Oracles t.T), P.funcs[g]? = some fn ∧ fn.body = some c ∧ (fn.name == "runtime.NumGoroutine") = false ∧ fn.results.toList = rs ∧ z4z ts ≤ fn.ntmps ∧
  CodeOK E LO (rdV E rs t) fn.ntmps c∧∀ x,evC E LO (rdV E rs t) c ⟨z5m ts x 0,[],[]⟩ (rdV E rs t) (fun _ _=>none)=F x

theorem FnV.does [Glob P] (T:zh P E.ti=true) (EQ:z2f P E) {w:World} (S:SpecOK P E w (fun _=>False)) (K:z38 P E w (fun _=>False)) (hmix:P.follows .mixedOrders=true) {g:FuncId} {ts:Ty} {t:Ty} {F:ts.T→Option t.T} (H:FnV P E g ts t F)
  {args:List SVal} {vs:List Value} (hok:∀ k,ok k→k<w.heap.size) (ha:z2l w ok args vs) {x:ts.T} (hx:z2g ts args some=some x) {r:t.T} (hr:F x=some r):z3f P g vs.toArray w (zh9 w ok t r):=by
 obtain ⟨fn,c,rs,LO,h1,h2,h3,h4,h6,h7,h8⟩:=H.ex
 have hnc:=H.nc
 unfold z3f
 rw [z9x h1 h2 h3]
 simp only []
 obtain ⟨x',hx',hlen,hsl⟩:=zql hx ha
 cases hx'
 refine calls_of_wp h1 h2 ?_
 have hrd:∀ e:Exit,(e=.normal∨e=.ret)→z1x E w ok (fun _=>False) r fn.ntmps (rdV E rs t) (bodyPost P fn (fun | .returned v,w''=>zh9 w ok t r v w'' | _,_=>False) e):=by
  intro e he w2 ok2 O2 hc σ1 a1 w1 M1 hk R1 hn1 hd1
  obtain ⟨e1,e2,e3⟩:w2=w∧ok2=ok∧O2=fun _=>False:=hc.elim id fun h=>by rw [hnc] at h; cases h.1
  rw [e1,e2,e3] at R1
  unfold rdV at hk
  split at hk
  ·rename_i rv
   split at hk
   ·rename_i u y hv
    unfold zq at hk
    split at hk
    ·rename_i e1
     subst e1
     have hk:y=r:=y28 hk
     subst hk
     have hl:zde E σ1 [rv]=some [.val u y]:=by simp only [zde,hv]
     obtain ⟨vs1,g1,g2,g3⟩:=zqt T R1 hl
     have hb:a1.defers=[]∧∃ v,(results fn a1.tmps).run P w1=.ok v w1∧zh9 w ok u y v w1:=by
      match vs1,g2 with
      | [v1],_ =>
      obtain ⟨⟨cs,k1,k2⟩,_⟩:=g3 0 (.val u y) v1 rfl rfl
      refine ⟨hd1,_,zk6 h4 g1,cs,k1,?_,R1.kept⟩
      unfold z2s at k2
      rw [z7b] at k2
      have:z1n u v1 cs:=k2
      simpa using this
     rcases he with rfl | rfl
     ·exact hb
     ·exact hb
    ·cases hk
   ·cases hk
  ·cases hk
 have hev:=h8 x
 rw [hr] at hev
 refine zk5 T EQ S K hmix h7 hev (z1an hok hsl (fn.ntmps-vs.toArray.size)) (by simp only [y3e,y4w,y1v,hlen]; omega) rfl (hrd _ (.inl rfl)) (fun id=>?_) (hrd _ (.inr rfl))
 intro w2 ok2 O2 hc σ1 a1 w1 M1 hk
 cases hk
theorem z1bl [Glob P] {ti:List TI} {tab:List (Nat×FE)} {l:List (Nat×FuncId×OC)} (T:zh P ti=true) (HT:z4j ti=true) (hmix:P.follows .mixedOrders=true) (S:∀ e∈tab,z8 P e.1 e.2) (KO:∀ x∈l,z1c P ti x.2.1 x.2.2) {g:FuncId} {ts:Ty} {t:Ty} {F:ts.T→Option t.T}
  (H:FnV P (z10 ti tab (lk l) z3i z3j) g ts t F):z8 P g ⟨ts,RON,t,F⟩ :=
 ⟨fun h=>absurd rfl h,fun _ args vs w ok x r G hk ha hx hr=>H.does T (z2f.of (E:=z10 ti tab (lk l) z3i z3j) T HT) (SpecOK.of S (.new G)) (zkg (E:=z10 ti tab (lk l) z3i z3j) (zqu KO) (.new G)) hmix hk ha hx hr⟩
end

def Ty.dat:Ty→Bool
 | .int _=>true
 | .bool=>true
 | .str=>true
 | .sl _ t=>t.dat
 | .st t=>t.dat
 | .pr a b=>a.dat&&b.dat
 | _=>false
def InR:(t:Ty)→t.T→Prop
 | .int k,n=>(Lit.int k n).wf=true
 | .str,s=>List.length s≤140737488351232
 | .sl _ t,xs=>List.length xs≤140737488351232∧∀ x∈xs,InR t x
 | .st t,x=>InR t x
 | .pr a b,x=>InR a x.1∧InR b x.2
 | .bool,_=>True
 | .ptr _,_=>True
 | .rd _,_=>True
 | .un,_=>True
 | .fn _ _,_=>True
 | .fs _,_=>True

section
variable {H : Type} {enc : TypeId × Value → H} {P : Program} {E : Env} {w : World} {base : Nat} {spare : Nat → Bool} {held : Bool}

theorem zwj {e:TypeId}:∀ {l:List (DataW H)} {d:DataW H},d∈l→∀ n∈d.weights P e,n∈DataW.weightsAll P e l
 | [],d,h=>by cases h
 | x::l,d,h=>by
  intro n hn
  simp only [DataW.weightsAll,yd]
  rcases yx.1 h with rfl | h
  ·exact .inl hn
  ·exact .inr (zwj h n hn)

def zwk (P:Program) (E:Env) (w:World) (enc:TypeId×Value→H) (base:Nat) (spare:Nat→Bool) (held:Bool) (fuel:Nat):Prop :=
 ∀ (t:TypeId) (cs:List Value) (x:DataW H×List MemPlace),(E.tyOf t).dat=true→DataW.trod enc P w base spare held fuel t cs=some x→(∀ n∈x.1.weights P t,n≤reachBytes)→∃ v:(E.tyOf t).T,Rd w (Lt w) (E.tyOf t) v cs∧InR (E.tyOf t) v

theorem zkh (T:zh P E.ti=true) {t:TypeId} (h:(E.tyOf t).sz≠0):P.cellsOf t=(E.tyOf t).sz∧0<P.bytesOf t:=by
 obtain ⟨ti,h1,h2,h3⟩:=z4d T h
 obtain ⟨⟨⟨i,i1,i2,i3,i4,_⟩,_⟩,_⟩:=z2k T h1 h3
 refine ⟨?_,?_⟩
 ·unfold Program.cellsOf
  simp only [i1,← h2]
  simpa using i2
 ·unfold Program.bytesOf
  simp only [i1]
  simpa using i4

theorem zbf:∀ {t:Ty},t.dat=true→t.sz≠0
 | .int _,_=>by simp [Ty.sz]
 | .bool,_=>by simp [Ty.sz]
 | .str,_=>by simp [Ty.sz]
 | .sl _ _,_=>by simp [Ty.sz]
 | .st t,h=>zbf (t:=t) h
 | .pr a b,h=>by
  simp only [Ty.dat,yh] at h
  have:=zbf h.1
  simp only [Ty.sz]; omega
 | .ptr _,h=>by cases h
 | .un,h=>by cases h
 | .fn _ _,h=>by cases h
 | .fs _,h=>by cases h

theorem zwl (T:zh P E.ti=true) {n:Nat} (IH:zwk P E w enc base spare held n):∀ (fl:List Field) (o:Nat) (u:Ty),z4w E.ti (fl.map fun f=>(f.type,f.offset)) o=some u→u.dat=true →
  ∀ (cs p q:List Value) (xs:List (DataW H×List MemPlace)),cs=p++q→p.length=o→q.length=u.sz→(∀ (i:Nat) (f:Field),fl[i]?=some f→∃ x,xs[i]?=some x∧DataW.trod enc P w base spare held n f.type ((cs.drop f.offset).take (P.cellsOf f.type))=some x∧∀ m∈x.1.weights P f.type,m≤reachBytes) →
  ∃ v:u.T,Rd w (Lt w) u v q∧InR u v
 | [],o,u,h,_,_,_,_,_,_,_,_,_=>by cases h
 | [f],o,u,h,hd,cs,p,q,xs,hcs,hp,hq,H=>by
  subst hcs
  simp only [y1j,y33,z4w] at h
  cases hb:(Nat.beq f.offset o&&!Nat.beq (z1a E.ti f.type).sz 0) <;> rw [hb] at h
  ·cases h
  ·cases h
   simp only [yh,y1h] at hb
   have ho:=yq hb.1
   have h0:(E.tyOf f.type).sz≠0:=z4c hb.2
   obtain ⟨x,_,h2,h3⟩:=H 0 f rfl
   have hq2:q.length≤(E.tyOf f.type).sz:=Nat.le_of_eq hq
   rw [(zkh T h0).1,ho,← hp,List.drop_left,y4y hq2] at h2
   exact IH f.type q x hd h2 h3
 | f::f2::fl,o,u,h,hd,cs,p,q,xs,hcs,hp,hq,H=>by
  subst hcs
  simp only [y1j,z4w] at h
  cases hb:(Nat.beq f.offset o&&!Nat.beq (z1a E.ti f.type).sz 0) <;> rw [hb] at h
  ·cases h
  ·simp only [yi] at h
   split at h
   ·rename_i u' hu
    cases h
    simp only [yh,y1h] at hb
    simp only [Ty.dat,yh] at hd
    have ho:=yq hb.1
    have h0:(E.tyOf f.type).sz≠0:=z4c hb.2
    obtain ⟨x,_,h2,h3⟩:=H 0 f rfl
    rw [(zkh T h0).1,ho,← hp,List.drop_left] at h2
    have hq':q.length=(E.tyOf f.type).sz+u'.sz:=hq
    obtain ⟨v1,r1,f1⟩:=IH f.type _ x hd.1 h2 h3
    obtain ⟨v2,r2,f2'⟩:=zwl T IH (f2::fl) (o+(z1a E.ti f.type).sz) u' hu hd.2 (p++q) (p++q.take (E.tyOf f.type).sz) (q.drop (E.tyOf f.type).sz) xs.tail (by rw [y11,y2d]) (by
     rw [yl,hp,y1c,y3z (by omega)]; rfl) (by rw [y1y]; omega) (fun i g hg=>by
     obtain ⟨y,y1,y2⟩:=H (i+1) g (by simpa using hg)
     exact ⟨y,by simpa [List.getElem?_tail] using y1,y2⟩)
    exact ⟨(v1,v2),⟨_,_,(y2d _ _).symm,r1,r2⟩,f1,f2'⟩
   ·cases h

theorem zqw (T:zh P E.ti=true):∀ fuel,zwk P E w enc base spare held fuel
 | 0=>fun t cs x _ h=>by simp [DataW.trod] at h
 | fuel+1=>by
  intro t cs x hd h hw
  obtain ⟨ti,h1,h2,h3⟩:=z4d T (zbf hd)
  obtain ⟨sh,ty,b⟩:=ti
  have h2:ty=E.tyOf t:=h2
  cases sh with
  | oth=>exact absurd rfl h3
  | int k =>
   obtain ⟨hu,hty⟩:=zpr T h1
   have e:E.tyOf t=.int k:=h2.symm.trans hty
   rw [e]
   obtain ⟨n,rfl,rfl,hn⟩:=DataW.trod_int hu h
   exact ⟨n,rfl,hn⟩
  | bool =>
   obtain ⟨hu,hty⟩:=zps T h1
   have e:E.tyOf t=.bool:=h2.symm.trans hty
   rw [e]
   obtain ⟨b',rfl,rfl⟩:=DataW.trod_bool hu h
   exact ⟨b',rfl,trivial⟩
  | str =>
   obtain ⟨hu,hty⟩:=zb4 T h1
   have e:E.tyOf t=.str:=h2.symm.trans hty
   rw [e]
   obtain ⟨s,rfl,rfl,hs⟩:=DataW.trod_string hu h
   exact ⟨s.data.toList,rfl,hw _ (by simp [DataW.weights])⟩
  | sl e0 =>
   obtain ⟨hu,u0,hty,hu0⟩:=z7a T h1
   have e:E.tyOf t=.sl e0 (E.tyOf e0):=by
    rcases hu0 with rfl | rfl
    ·exact h2.symm.trans hty
    ·rw [h2.symm.trans hty] at hd; cases hd
   rw [e] at hd ⊢
   have hd0:(E.tyOf e0).dat=true:=hd
   obtain ⟨c1,c2⟩:=zkh T (zbf hd0)
   rcases DataW.trod_slice hu h with ⟨rfl,rfl⟩ | ⟨a,len,cap,elems,rest,n,hn,rfl,rfl,hb,hl,hm,hlen,hel,_,_⟩
   ·exact ⟨[],⟨none,0,rfl,yr _,fun h=>absurd rfl h⟩,by simp,by simp⟩
   ·cases hn
    have hws:∀ d∈elems,∀ m∈d.1.weights P e0,m≤reachBytes:=fun d hd m hm=>hw m (by
     simp only [DataW.weights,hu,yx,yd]
     exact .inr (.inl (zwj (y1f.2 ⟨d,hd,rfl⟩) m hm)))
    have each:∀ i,i<len→∃ v:(E.tyOf e0).T,(∃ ds,Rd w (Lt w) (E.tyOf e0) v ds∧z2d w (a.add (i*(E.tyOf e0).sz)) ds)∧InR (E.tyOf e0) v:=by
     intro i hi
     have q:=hel i hi
     rw [yj (by omega)] at q
     obtain ⟨ds,q1,q2⟩:=yk.1 q
     obtain ⟨v,r1,r2⟩:=zqw T _ e0 ds _ hd0 q2 (hws _ (y1l _))
     obtain ⟨_,z2,z3⟩:=World.cells?_some q1
     refine ⟨v,⟨ds,r1,fun j u hj=>?_⟩,r2⟩
     have hj':j<P.cellsOf e0:=by rw [← z2]; exact (yo.1 hj).1
     rw [← c1,z3 j hj']; exact hj
    have hlist:∀ m,m≤len→∃ xs:List (E.tyOf e0).T,xs.length=m∧(∀ i x,xs[i]?=some x→(∃ ds,Rd w (Lt w) (E.tyOf e0) x ds∧z2d w (a.add (i*(E.tyOf e0).sz)) ds)∧InR (E.tyOf e0) x):=by
     intro m
     induction m with
     | zero=>exact fun _=>⟨[],rfl,by simp⟩
     | succ m ih =>
      intro hm
      obtain ⟨xs,l1,l2⟩:=ih (by omega)
      obtain ⟨v,hv⟩:=each m (by omega)
      refine ⟨xs++[v],by simp [l1],fun i x hx=>?_⟩
      by_cases hi:i<xs.length
      ·rw [y1w hi] at hx; exact l2 i x hx
      ·rw [y1r (by omega)] at hx
       have:i=m:=by have:=(yo.1 hx).1; simp at this; omega
       subst this
       rw [l1] at hx
       simp at hx
       subst hx
       exact hv
    obtain ⟨xs,l1,l2⟩:=hlist len (yr _)
    refine ⟨xs,⟨some a,cap,by rw [← l1],by rw [l1]; exact hl,fun hne=>⟨a,rfl,?_,fun i x hx=>(l2 i x hx).1⟩⟩,?_,fun x hx=>?_⟩
    ·have hpos:0<len:=by rw [← l1]; exact y4z.2 hne
     have q:=hel 0 hpos
     rw [yj (by omega)] at q
     obtain ⟨ds,q1,q2⟩:=yk.1 q
     have:=World.cells?_block q1 (by rw [c1]; exact y4u (zbf hd0))
     rwa [zgh] at this
    ·have:=hw ((elems.map (·.1)).length+(rest.map (·.1)).length |> (·*P.bytesOf e0)) (by simp [DataW.weights,hu])
     rw [l1]
     simp only [yp,hlen] at this
     have h9:len*1≤(len+rest.length)*P.bytesOf e0:=y1p (by omega) c2
     have h10:reachBytes=140737488351232:=rfl
     omega
    ·obtain ⟨i,hi⟩:=y2w hx
     exact (l2 i x hi).2
  | st fs =>
   obtain ⟨fields,u,hu,hf,hty,hc,_⟩:=zdn T h1
   have e:E.tyOf t=.st u:=h2.symm.trans hty
   have h0:=zbf hd
   obtain ⟨c1,_⟩:=zkh T h0
   rw [e] at hd c1 ⊢
   obtain ⟨xs,n,hn,rfl,hl,hxl,hx⟩:=DataW.trod_struct hu h
   cases hn
   rw [← hf] at hc
   obtain ⟨v,r1,r2⟩:=zwl (q:=cs) (p:=[]) (xs:=xs) T (zqw T fuel) fields.toList 0 u hc hd cs rfl rfl (by rw [hl,c1]; rfl) (fun i f hif=>by
    have hif':fields[i]?=some f:=by rw [← y2q]; exact hif
    have hlt:i<xs.length:=by rw [hxl]; exact (y1s.1 hif').1
    have q:=hx i f hif'
    rw [yj hlt] at q
    refine ⟨_,yj hlt,q,fun m hm=>hw m ?_⟩
    simp only [DataW.weights,hu]
    exact DataW.weights_mem_each (j:=i) (t:=f.type) (d:=xs[i].1) (by rw [yu,hif]; rfl) (by rw [yu,yj hlt]; rfl) m hm)
   exact ⟨v,r1,r2⟩
  | ptr e0 =>
   have h8:=(z2k T h1 h3).2
   exfalso
   rw [← h2] at hd
   unfold z3d at h8
   split at h8 <;> rename_i q1 q2 q3 <;> first | (cases q1; done) | skip
   ·have q3':ty=_:=q3
    rw [q3'] at hd; cases hd
   ·cases h8
  | fn =>
   have h8:=(z2k T h1 h3).2
   exfalso
   rw [← h2] at hd
   unfold z3d at h8
   split at h8 <;> rename_i q1 q2 q3 <;> first | (cases q1; done) | skip
   ·have q3':ty=_:=q3
    rw [q3'] at hd; cases hd
   ·cases h8

theorem z1bm (T:zh P E.ti=true) {t:TypeId} {v:Value} {d:DataW H} {p:List MemPlace} {r:Reach} {b0:Nat} (hd:(E.tyOf t).dat=true) (hv:Value.okWide P w r b0 t v) (h:DataW.Trod enc P w base spare held t v d p) (hw:∀ n∈d.weights P t,n≤reachBytes) :
  ∃ x:(E.tyOf t).T,(∃ cs,Rd w (Lt w) (E.tyOf t) x cs∧z1n (E.tyOf t) v cs)∧InR (E.tyOf t) x:=by
 obtain ⟨fuel,h⟩:=h
 obtain ⟨x,h1,h2⟩:=zqw T fuel t _ _ hd h hw
 refine ⟨x,⟨_,h1,?_⟩,h2⟩
 obtain ⟨ti,k1,k2,k3⟩:=z4d T (zbf hd)
 obtain ⟨sh,ty,b⟩:=ti
 have k2:ty=E.tyOf t:=k2
 have one:∀ {u:Ty},E.tyOf t=u→u.isSt=false→(∀ cs:Array Value,¬ Value.okWide P w r b0 t (.agg cs))→z1n (E.tyOf t) v v.cells.toList:=fun e hs hn=>by
  refine .inr ⟨by rw [e]; exact hs,?_⟩
  cases v with
  | agg cs=>exact absurd hv (hn cs)
  | _=>rfl
 cases sh with
 | oth=>exact absurd rfl k3
 | int k=>obtain ⟨hu,hty⟩:=zpr T k1; exact one (k2.symm.trans hty) rfl fun cs h=>by simp [Value.okWide,Cell.okWide,Cell.ok,hu] at h
 | bool=>obtain ⟨hu,hty⟩:=zps T k1; exact one (k2.symm.trans hty) rfl fun cs h=>by simp [Value.okWide,Cell.okWide,Cell.ok,hu] at h
 | str=>obtain ⟨hu,hty⟩:=zb4 T k1; exact one (k2.symm.trans hty) rfl fun cs h=>by simp [Value.okWide,Cell.okWide,Cell.ok,hu] at h
 | sl e0=>obtain ⟨hu,u0,hty,_⟩:=z7a T k1; exact one (k2.symm.trans hty) rfl fun cs h=>by simp [Value.okWide,Cell.okWide,Cell.ok,hu] at h
 | st fs =>
  obtain ⟨fields,u,hu,_,hty,_⟩:=zdn T k1
  unfold Value.okWide at hv
  rw [hu] at hv
  obtain ⟨cs,rfl,_⟩:=hv
  exact .inl ⟨by rw [k2.symm.trans hty]; rfl,by simp [Value.cells]⟩
 | ptr e0 =>
  have h8:=(z2k T k1 k3).2
  exfalso
  rw [← k2] at hd
  unfold z3d at h8
  split at h8 <;> rename_i q1 q2 q3 <;> first | (cases q1; done) | skip
  ·have q3':ty=_:=q3
   rw [q3'] at hd; cases hd
  ·cases h8
 | fn =>
  have h8:=(z2k T k1 k3).2
  exfalso
  rw [← k2] at hd
  unfold z3d at h8
  split at h8 <;> rename_i q1 q2 q3 <;> first | (cases q1; done) | skip
  ·have q3':ty=_:=q3
   rw [q3'] at hd; cases hd
  ·cases h8
theorem z1bn (T:zh P E.ti=true) {t:TypeId} {c:Ty} (hc:E.tyOf t=c) {v:Value} {d:DataW H} {p:List MemPlace} {r:Reach} {b0:Nat} (hd:c.dat=true) (hv:Value.okWide P w r b0 t v) (h:DataW.Trod enc P w base spare held t v d p) (hw:∀ n∈d.weights P t,n≤reachBytes) :
  ∃ x:c.T,(∃ cs,Rd w (Lt w) c x cs∧z1n c v cs)∧InR c x:=by
 subst hc
 exact z1bm T hd hv h hw
theorem z1bo {ts:List TypeId} {ds:List (DataW H)} (h:(DataW.weightsEach P ts ds).all (·≤reachBytes)=true) {j:Nat} {t:TypeId} {d:DataW H} (ht:ts[j]?=some t) (hd:ds[j]?=some d):∀ n∈d.weights P t,n≤reachBytes :=
 fun n hn=>of_decide_eq_true (y17.1 h n (DataW.weights_mem_each ht hd n hn))
theorem z1bp [Glob P] {g : FuncId} {fn : Func} {c : Code} (hf : P.funcs[g]? = some fn) (hb : fn.body = some c) (hn : (fn.name == "runtime.NumGoroutine") = false) {ts : Ty} {F : ts.T → Option Bool} (H : z8 P g ⟨ts, 1, .bool, F⟩) {args : List SVal} {vs : Array Value} (hG : Glob.ok P w) (ha : z8d w args vs.toList) {x : ts.T} (hx : z2g ts args some = some x) (hr : F x = some true) :
  Calls P g vs w fun e w'=>e=.returned (.bool true)∧Below w.heap.size w w':=by
 have:=H.1 (show (1:Nat)≠RON by decide) args vs.toList w x true hG ha hx hr
 unfold z3f at this
 rw [z9x hf hb hn] at this
 refine Calls.mono this fun e w' h=>?_
 cases e with
 | returned v =>
  obtain ⟨l,h1,_,_,_,_,h2,h3⟩:=h
  have h2:z1n .bool v (za .bool l):=h2
  rcases h2 with ⟨h5,_⟩ | ⟨_,h5⟩
  ·cases h5
  ·have hl:l=true:=h1
   subst hl
   simp only [za,y12,y13] at h5
   exact ⟨by rw [← h5],h3.below⟩
 | panicked c=>exact h.elim
 | outgrown=>exact h.elim
end

section
variable {P : Program}
end

noncomputable def rdG (E:Env) (rs:List ResultVar) (n:Nat) (t:Ty) (ho:Head) (σ:St):Option ho.T :=
 zgp E rs t σ fun _ y=>ho.raw ⟨[(0,(newT n t y NB).1)],(newT n t y NB).2,[]⟩ some

section
variable {P : Program} {E : Env} {w0 : World} {ok O : Nat → Prop} {σ : St} {tm : Array Value} {w : World} {M : Map}

theorem zwm {t:Ty} {l:L t} {s:SV} {v:Value} (hh:holds (Rd w0 ok) w t l) (hp:plain w t l) (hn:(z7 t l).Nodup)
  (hown:∀ k∈z7 t l,¬ ok k∧(O k∨w0.heap.size≤k)) (hokB:∀ k,ok k→k<w0.heap.size∧¬ O k) (hkept:Kept O w0 w)
  (hs:zr w0 ok ⟨z1e t l NB (fun _=>⟨.un,()⟩),fun _=>0,fun _=>0,fun _=>0⟩ s v) (hl:(∀ i∈s.roots,NB≤i∧i<zj t NB)∧s.boxes=[]) (hlt:zj t NB≤PIN) :
  Rep E w0 ok O ⟨[(0,s)],(zv t (erase t l) NB).2.1,[]⟩ #[v] w ⟨z1e t l NB (fun _=>⟨.un,()⟩),fun _=>0,fun _=>0,fun _=>0⟩ where
 slots:=fun i x hx=>by
  rw [zu] at hx
  split at hx
  ·rename_i e
   subst e
   cases hx
   exact ⟨v,rfl,hs⟩
  ·cases hx
 rows:=fun i r hr=>by
  obtain ⟨hz,l',h1,h2⟩:=z7d t l NB (fun _=>⟨.un,()⟩) i r hr
  exact ⟨l',h1,h2.er,h2.ho _ _ hh,h2.bl.nodup hn,fun _=>h2.pl _ hp⟩
 boxes:=fun i b h=>by cases h
 rr:=fun i j hij hi hj k hk=>by
  obtain ⟨h1,h2⟩:=(z3q t (erase t l) NB i).1 hi
  obtain ⟨h3,h4⟩:=(z3q t (erase t l) NB j).1 hj
  exact (zh4 t l NB _ hn i j hij h1 h2 h3 h4 k hk).2
 bb:=fun i j _ ⟨b,h⟩=>by cases h
 rb:=fun i j _ ⟨b,h⟩=>by cases h
 ownR:=fun i ⟨r,hr⟩ k hk=>by
  obtain ⟨hz,l',h1,h2⟩:=z7d t l NB (fun _=>⟨.un,()⟩) i r hr
  have hk':k∈z7 (z1e t l NB (fun _=>⟨.un,()⟩) i).1 (z1e t l NB (fun _=>⟨.un,()⟩) i).2:=hk
  rw [h1] at hk'
  exact hown k (h2.bl.subset hk')
 ownB:=fun i ⟨b,h⟩=>by cases h
 okB:=hokB
 liveS:=fun i x hx=>by
  rw [zu] at hx
  split at hx
  ·cases hx
   exact ⟨fun i hi=>(z3q t (erase t l) NB i).2 (hl.1 i hi),fun i hi=>by rw [hl.2] at hi; cases hi⟩
  ·cases hx
 liveB:=fun i b h=>by cases h
 kept:=hkept
 pin:=fun i hi ⟨r,hr⟩=>by
  have:=(z3q t (erase t l) NB i).1 ⟨r,hr⟩
  omega
 pinB:=fun i hi ⟨b,h⟩=>by cases h
theorem zwn {n:Nat} {t:Ty} {l:L t} {v:Value} (hv:zh6 n t l v) (h0:0<n) (hh:holds (Rd w0 ok) w t l) (hp:plain w t l) (hn:(z7 t l).Nodup)
  (hown:∀ k∈z7 t l,¬ ok k∧(O k∨w0.heap.size≤k)) (hokB:∀ k,ok k→k<w0.heap.size∧¬ O k) (hkept:Kept O w0 w) (hlt:zj t NB≤PIN) :
  ∃ M',Rep E w0 ok O ⟨[(0,(newT n t (erase t l) NB).1)],(newT n t (erase t l) NB).2,[]⟩ #[v] w M':=by
 match n,hv with
 | 1,hv =>
  refine ⟨_,zwm hh hp hn hown hokB hkept (z1t (z8a t l NB (fun _=>⟨.un,()⟩) hh fun _ _ _=>rfl) ?_) (z8b t _ NB) hlt⟩
  have e:(newT 1 t (erase t l) NB).1.isSt=t.isSt:=zjc t _ NB
  unfold z2s
  rw [e]
  exact hv
 | m+2,hv =>
  obtain ⟨vs,rfl,h⟩:=hv
  obtain ⟨h1,h2⟩:=z8b t (erase t l) NB
  obtain ⟨h3,h4⟩:=zq1 (m+2) (zv t (erase t l) NB).1
  exact ⟨_,zwm (s:=.tup (z2a (m+2) (zv t (erase t l) NB).1)) hh hp hn hown hokB hkept ⟨vs,rfl,zq0 (m+2) t l NB (fun _=>⟨.un,()⟩) vs.toList hh (y2y _) (fun _ _ _=>rfl) h⟩ ⟨fun i hi=>h1 i (h3 i hi),h4 h2⟩ hlt⟩

theorem z1bq (T:zh P E.ti=true) (R:Rep E w0 ok O σ tm w M) {fn:Func} {rs:List ResultVar} (hr:fn.results.toList=rs) {n:Nat} (hn:rs.length=n) (h0:0<n) {t:Ty} (hlt:zj t NB≤PIN) {ho:Head} (hok:ho.ok=true) {y:ho.T} (h:rdG E rs n t ho σ=some y) :
  ∃ v M',(results fn tm).run P w=.ok v w∧Rep E w0 ok O (ho.fill y) #[v] w M':=by
 unfold rdG at h
 obtain ⟨σ2,l,vs2,g1,g2,g3,g4,g6,g5⟩:=zqm T R h
 obtain ⟨M',R'⟩:=zwn (E:=E) (n:=n) (zw0 (zqn g6) hn g5) h0 g2 g3 g4.free.nd g4.free.own R.okB R.kept hlt
 obtain ⟨y',e1,e2⟩:=zqr R' hok g1
 cases e1
 exact ⟨_,M',zk6 hr g6,e2⟩

structure FnG (P:Program) (ti:List TI) (tab:List (Nat×FE)) (opn:Nat→Option (FuncId×OC)) (g:FuncId) (c:OC) (n:Nat) (t:Ty):Prop where
 hi:c.hi.ok=true
 ho:c.ho.ok=true
 ch:(!(ti.any fun i=>!i.ty.noRd)||c.ch)=true
 pos:Nat.blt 0 n=true
 lt:Nat.ble (zj t NB) PIN=true
 ex : ∃ (fn : Func) (cd : Code) (rs : List ResultVar) (LO : Oracles c.ho.T), P.funcs[g]? = some fn ∧ fn.body = some cd ∧ (fn.name == "runtime.NumGoroutine") = false ∧ fn.results.toList = rs ∧ rs.length = n ∧ c.hi.sl.length ≤ fn.ntmps ∧
  ∀ pins pinB,CodeOK (z10 ti tab opn pins pinB) LO (rdG (z10 ti tab opn pins pinB) rs n t c.ho) fn.ntmps cd ∧
   ∀ x,evC (z10 ti tab opn pins pinB) LO (rdG (z10 ti tab opn pins pinB) rs n t c.ho) cd (c.hi.fill x) (rdG (z10 ti tab opn pins pinB) rs n t c.ho) (fun _ _=>none)=c.F x

theorem FnG.contract [Glob P] {ti:List TI} {tab:List (Nat×FE)} {opn:Nat→Option (FuncId×OC)} (T:zh P ti=true) (HT:z4j ti=true) (hmix:P.follows .mixedOrders=true) (S:∀ e∈tab,z8 P e.1 e.2) (KO:∀ s g c,opn s=some (g,c)→z1c P ti g c) {g:FuncId} {c:OC} {n:Nat} {t:Ty}
  (H:FnG P ti tab opn g c n t):z1c P ti g c:=by
 refine ⟨H.hi,fun E hE x y hF w ok O M vs hlen G R=>?_⟩
 obtain ⟨fn,cd,rs,LO,h1,h2,h3,h4,hlenr,h5,h6⟩:=H.ex
 obtain ⟨h7,h8⟩:=h6 E.pins E.pinB
 have R1:Rep (z10 ti tab opn E.pins E.pinB) w ok O (c.hi.fill x) vs.toArray w M:=R.env (fun t=>(hE t).symm) rfl rfl
 have K:z38 P (z10 ti tab opn E.pins E.pinB) w O:=zkg KO G
 have EQ:z2f P (z10 ti tab opn E.pins E.pinB):=z2f.of T HT
 have SS:SpecOK P (z10 ti tab opn E.pins E.pinB) w O:=SpecOK.of S G
 unfold z3f
 rw [z9x h1 h2 h3]
 simp only []
 refine calls_of_wp h1 h2 ?_
 have hrd:∀ e:Exit,(e=.normal∨e=.ret)→z1x (z10 ti tab opn E.pins E.pinB) w ok O y fn.ntmps (rdG (z10 ti tab opn E.pins E.pinB) rs n t c.ho) (bodyPost P fn (fun | .returned v,w''=>∃ M' w2 ok2 O2,z2i c.ch w ok O w2 ok2 O2∧Rep E w2 ok2 O2 (c.ho.fill y) #[v] w'' M' | _,_=>False) e):=by
  intro e he w2 ok2 O2 hc σ1 a1 w1 M1 hk R1 hn1 hd1
  obtain ⟨v,M2,g1,g2⟩:=z1bq T R1 h4 hlenr (y19 H.pos) (y19 H.lt) H.ho hk
  have hb:a1.defers=[]∧∃ v,(results fn a1.tmps).run P w1=.ok v w1∧∃ M' w2 ok2 O2,z2i c.ch w ok O w2 ok2 O2∧Rep E w2 ok2 O2 (c.ho.fill y) #[v] w1 M':=⟨hd1,v,g1,M2,_,_,_,hc.up (by simpa [Env.rdm,z10] using H.ch),g2.env hE rfl rfl⟩
  rcases he with rfl | rfl
  ·exact hb
  ·exact hb
 have hev:=h8 x
 rw [hF] at hev
 have R2:Rep (z10 ti tab opn E.pins E.pinB) w ok O (c.hi.fill x) (vs.toArray++Array.replicate (fn.ntmps-vs.toArray.size) undef) w M :=
  R1.slotsTo fun s v hv=>by
   obtain ⟨u,e1,e2⟩:=R1.slots s v hv
   exact ⟨⟨u,by rw [y5n (y1s.1 e1).1]; exact e1,e2⟩,R1.liveS s v hv⟩
 refine zk5 T EQ SS K hmix h7 hev R2 (by simp only [y3e,y4w,y1v,hlen]; omega) rfl (hrd _ (.inl rfl)) (fun id=>?_) (hrd _ (.inr rfl))
 intro w2 ok2 O2 hc σ1 a1 w1 M1 hk
 cases hk
end

section
variable {P : Program}
theorem z1br {w w':World} (l:List UInt8) (h:Below w.heap.size w w'):Ret w 1 .str l (.string ⟨l.toArray⟩) w' :=
 ⟨l,rfl,fun _=>trivial,trivial,y3n,by simp [z7],.inr ⟨rfl,rfl⟩,Kept.of_below h _⟩
end

section
variable {P : Program} {E : Env} {R0 : Type}
theorem xTn [Glob P]:∀ e∈([]:List (Nat×FE)),z8 P e.1 e.2:=List.forall_mem_nil _
theorem xTc [Glob P] {g:Nat} {fe:FE} {l:List (Nat×FE)} (h:z8 P g fe) (k:∀ e∈l,z8 P e.1 e.2):∀ e∈(g,fe)::l,z8 P e.1 e.2:=List.forall_mem_cons.2 ⟨h,k⟩
theorem xOn [Glob P] {ti:List TI}:∀ x∈([]:List (Nat×FuncId×OC)),z1c P ti x.2.1 x.2.2:=List.forall_mem_nil _
theorem xOc [Glob P] {ti:List TI} (d:Nat) {g:FuncId} {c:OC} {l:List (Nat×FuncId×OC)} (h:z1c P ti g c) (k:∀ x∈l,z1c P ti x.2.1 x.2.2):∀ x∈(d,g,c)::l,z1c P ti x.2.1 x.2.2:=List.forall_mem_cons.2 ⟨h,k⟩
structure LD (R:Type) where
 n:Nat
 h:Head
 ex:List (Nat×Head)
 F:Nat→h.T→(Nat→St→Option R)→Option R
 N:Nat
def orc (d:LD R0) (O:Oracles R0):Oracles R0:=⟨fun m=>bif Nat.beq m d.n then some (fun σ kx=>d.h.get σ fun x=>d.F d.N x kx) else O.loop m,O.cut⟩
def z69 (E:Env) (LO:Oracles R0) (rd:St→Option R0) (l:List Code) (i:Nat):Prop:=∀ j,i≤j→∀ b,l[j]?=some b→∀ f,LO.loop (z48 b)=some f→zk4 E LO rd b f
theorem xLn {LO:Oracles R0} {rd:St→Option R0} {l:List Code} {i:Nat} (h:Nat.ble l.length i=true:=by kernel_rfl):z69 E LO rd l i:=by
 intro j hj b hb
 have:=(yo.1 hb).1
 have:=y19 h
 omega
theorem xLa {LO:Oracles R0} {rd:St→Option R0} {l:List Code} {i:Nat} (h:∀ b,l.getD i .skip=b→∀ f,LO.loop (z48 b)=some f→zk4 E LO rd b f) (k:z69 E LO rd l (i+1)):z69 E LO rd l i:=by
 intro j hj b hb
 rcases Nat.eq_or_lt_of_le hj with e | e
 ·subst e
  exact h b (by rw [y16,hb]; rfl)
 ·exact k j e b hb
theorem xLo {LO:Oracles R0} {rd:St→Option R0} {l:List Code} {i:Nat} (d:LD R0) (hs:∀ n x kx,d.F (n+1) x kx=evC E LO rd (l.getD i .skip) (d.h.fill x) (fun σ=>d.h.get σ fun x'=>d.F n x' kx) (zdc d.ex kx)) (k:z69 E LO rd l (i+1))
  (h1:LO.loop (z48 (l.getD i .skip))=some (fun σ kx=>d.h.get σ fun x=>d.F d.N x kx):=by kernel_rfl) (h2:d.h.ok=true:=by kernel_rfl) (h3:d.ex.all (fun x=>x.2.ok)=true:=by kernel_rfl) (h4:∀ x kx,d.F 0 x kx=none:=by intros; kernel_rfl):z69 E LO rd l i :=
 xLa (fun b e f hf=>by subst e; rw [h1] at hf; cases hf; exact ⟨d.h,d.ex,d.F,d.N,h2,h3,h4,hs,fun σ kx=>rfl⟩) k
theorem xLp {LO:Oracles R0} {rd:St→Option R0} {l:List Code} {i:Nat} (d:LD R0) (hs:∀ n x kx y,d.F (n+1) x kx=y→y=evC E LO rd (l.getD i .skip) (d.h.fill x) (fun σ=>d.h.get σ fun x'=>d.F n x' kx) (zdc d.ex kx)) (k:z69 E LO rd l (i+1))
  (h1:LO.loop (z48 (l.getD i .skip))=some (fun σ kx=>d.h.get σ fun x=>d.F d.N x kx):=by kernel_rfl) (h2:d.h.ok=true:=by kernel_rfl) (h3:d.ex.all (fun x=>x.2.ok)=true:=by kernel_rfl) (h4:∀ x kx,d.F 0 x kx=none:=by intros; kernel_rfl):z69 E LO rd l i :=
 xLo d (fun n x kx=>hs n x kx _ rfl) k h1 h2 h3 h4
theorem z69.all {LO:Oracles R0} {rd:St→Option R0} {l:List Code} (h:z69 E LO rd l 0):∀ b∈l,∀ f,LO.loop (z48 b)=some f→zk4 E LO rd b f:=by
 intro b hb
 obtain ⟨i,hi⟩:=y2w hb
 exact h i (y2k _) b hi
theorem okC [Glob P] {ti:List TI} (A:zh P ti=true∧z4j ti=true∧P.follows .mixedOrders=true) {tab:List (Nat×FE)} {l:List (Nat×FuncId×OC)} (S:∀ e∈tab,z8 P e.1 e.2) (KO:∀ x∈l,z1c P ti x.2.1 x.2.2) {g:FuncId} {ts:Ty} {n:Nat} {t:Ty} {F:ts.T→Option t.T}
  (f:Func) (O:Oracles t.T) (L:z69 (z10 ti tab (lk l) z3i z3j) O (rdC (z10 ti tab (lk l) z3i z3j) f.results.toList t) (z4i (z3s f)) 0)
  (hF:∀ x,evC (z10 ti tab (lk l) z3i z3j) O (rdC (z10 ti tab (lk l) z3i z3j) f.results.toList t) (z3s f) ⟨z5m ts x 0,[],[]⟩ (rdC (z10 ti tab (lk l) z3i z3j) f.results.toList t) (fun _ _=>none)=F x)
  (h1 : P.funcs[g]? = some f := by kernel_rfl) (h2 : f.body = some (z3s f) := by kernel_rfl) (h3 : (f.name == "runtime.NumGoroutine") = false := by kernel_rfl) (h4 : f.results.toList.length = n := by kernel_rfl) (h5 : z4z ts ≤ f.ntmps := by decide)
  (h6:z4h f.ntmps (z3s f)=true:=by kernel_rfl) (h7:(fun n=>O.cut n)=(fun _=>none):=by kernel_rfl) (hn:Nat.beq n RON=false:=by kernel_rfl):z8 P g ⟨ts,n,t,F⟩ :=
 z1bj A.1 A.2.1 A.2.2 S KO ⟨⟨f,z3s f,_,O,h1,h2,h3,rfl,h4,h5,⟨h6,L.all,zqv h7⟩,hF⟩⟩ hn
theorem okV [Glob P] {ti:List TI} (A:zh P ti=true∧z4j ti=true∧P.follows .mixedOrders=true) {tab:List (Nat×FE)} {l:List (Nat×FuncId×OC)} (S:∀ e∈tab,z8 P e.1 e.2) (KO:∀ x∈l,z1c P ti x.2.1 x.2.2) {g:FuncId} {ts:Ty} {t:Ty} {F:ts.T→Option t.T}
  (f:Func) (O:Oracles t.T) (L:z69 (z10 ti tab (lk l) z3i z3j) O (rdV (z10 ti tab (lk l) z3i z3j) f.results.toList t) (z4i (z3s f)) 0)
  (hF:∀ x,evC (z10 ti tab (lk l) z3i z3j) O (rdV (z10 ti tab (lk l) z3i z3j) f.results.toList t) (z3s f) ⟨z5m ts x 0,[],[]⟩ (rdV (z10 ti tab (lk l) z3i z3j) f.results.toList t) (fun _ _=>none)=F x)
  (h0 : (z10 ti tab (lk l) z3i z3j).rdm = false := by kernel_rfl) (h1 : P.funcs[g]? = some f := by kernel_rfl) (h2 : f.body = some (z3s f) := by kernel_rfl) (h3 : (f.name == "runtime.NumGoroutine") = false := by kernel_rfl) (h5 : z4z ts ≤ f.ntmps := by decide)
  (h6:z4h f.ntmps (z3s f)=true:=by kernel_rfl) (h7:(fun n=>O.cut n)=(fun _=>none):=by kernel_rfl):z8 P g ⟨ts,RON,t,F⟩ :=
 z1bl A.1 A.2.1 A.2.2 S KO ⟨h0,f,z3s f,_,O,h1,h2,h3,rfl,h5,⟨h6,L.all,zqv h7⟩,hF⟩
theorem okO [Glob P] {ti:List TI} (A:zh P ti=true∧z4j ti=true∧P.follows .mixedOrders=true) {tab:List (Nat×FE)} {l:List (Nat×FuncId×OC)} (S:∀ e∈tab,z8 P e.1 e.2) (KO:∀ x∈l,z1c P ti x.2.1 x.2.2) {g:FuncId} {c:OC}
  (f:Func) (O:Oracles c.ho.T) (L:∀ pins pinB,z69 (z10 ti tab (lk l) pins pinB) O (rdO (z10 ti tab (lk l) pins pinB) f.results.toList c.ho) (z4i (z3s f)) 0)
  (hF:∀ pins pinB x,evC (z10 ti tab (lk l) pins pinB) O (rdO (z10 ti tab (lk l) pins pinB) f.results.toList c.ho) (z3s f) (c.hi.fill x) (rdO (z10 ti tab (lk l) pins pinB) f.results.toList c.ho) (fun _ _=>none)=c.F x)
  (hi : c.hi.ok = true := by kernel_rfl) (ho : c.ho.ok = true := by kernel_rfl) (ch : (!(ti.any fun i => !i.ty.noRd) || c.ch) = true := by kernel_rfl) (h1 : P.funcs[g]? = some f := by kernel_rfl) (h2 : f.body = some (z3s f) := by kernel_rfl) (h3 : (f.name == "runtime.NumGoroutine") = false := by kernel_rfl) (h5 : Nat.ble c.hi.sl.length f.ntmps = true := by kernel_rfl)
  (h6:z4h f.ntmps (z3s f)=true:=by kernel_rfl) (h7:(fun n=>O.cut n)=(fun _=>none):=by kernel_rfl):z1c P ti g c :=
 z1bk A.1 A.2.1 A.2.2 S KO ⟨hi,ho,ch,f,z3s f,_,O,h1,h2,h3,rfl,y19 h5,fun pins pinB=>⟨⟨h6,(L pins pinB).all,zqv h7⟩,hF pins pinB⟩⟩
end
end Go.Proofs.YtchfjdcfhlhgcaaGreatDoor.Ev
