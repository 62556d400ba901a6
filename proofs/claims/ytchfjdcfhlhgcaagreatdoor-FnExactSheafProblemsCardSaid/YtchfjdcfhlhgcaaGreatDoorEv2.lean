/- Plain values for a program that runs on a machine: an evaluator of loaded code and the proof that it tells what the machine does (part 2 of 6). No conditions: definitions and lemmas z5k any program. -/
import Derived.Test.YtchfjdcfhlhgcaaGreatDoorEv1
import Derived.Laws.Strings2
import Derived.Laws.Concat
import Derived.Lib.ConvBytes
import Derived.Laws.BytesArg
import Derived.Laws.MakeOwn
import Derived.Laws.Slices
import Derived.Great.BuildSlice
set_option linter.unusedVariables false
set_option linter.unusedSimpArgs false
/- Operations without an effect: what the evaluator says is what the machine does (first part). Over any program. -/
namespace Go.Proofs.YtchfjdcfhlhgcaaGreatDoor.Ev
open Go.RowKit

section
variable {P : Program} {E : Env} {w0 : World} {ok O : Nat → Prop} {σ : St} {tm : Array Value} {w : World} {M : Map} {a : Act}

theorem z17n {s:Tmp} {v:Value} (hat:a.tmps=tm) (h:tm[s]?=some v):a.eval (.tmp s)=v:=by
 show a.tmps.getD s undef=v
 rw [hat,y3a,h]; rfl
theorem z17o (s:ByteArray):(⟨s.data.toList.toArray⟩:ByteArray)=s:=by cases s; simp

theorem z17p {v:Value} {s:SV} (h:cst v=some s):zc w0 ok M s [v]∧s.isSt=false∧s.roots=[]∧s.boxes=[]:=by
 unfold cst at h
 split at h <;> cases h
 ·exact ⟨rfl,rfl,rfl,rfl⟩
 ·exact ⟨rfl,rfl,rfl,rfl⟩
 ·refine ⟨?_,rfl,rfl,rfl⟩
  show [_]=[_]
  rw [z17o]
 ·exact ⟨⟨_,rfl,rfl⟩,rfl,rfl,rfl⟩

theorem z1b (R:Rep E w0 ok O σ tm w M) (hat:a.tmps=tm) {x:Operand} {s:SV} (h:opd σ x=some s):zr w0 ok M s (a.eval x)∧Live σ s:=by
 cases x with
 | tmp t =>
  obtain ⟨u,h1,h2⟩:=R.slots t s h
  rw [z17n hat h1]
  exact ⟨h2,R.liveS t s h⟩
 | const v =>
  obtain ⟨h1,h2,h3,h4⟩:=z17p (w0:=w0) (ok:=ok) (M:=M) h
  exact ⟨z1t h1 (.inr ⟨h2,rfl⟩),⟨by simp [h3],by simp [h4]⟩⟩
 | global g=>cases h
 | func f =>
  cases h
  exact ⟨⟨_,⟨#[],rfl,rfl⟩,.inr ⟨rfl,rfl⟩⟩,⟨by simp [SV.roots],by simp [SV.boxes]⟩⟩

theorem z87 (R:Rep E w0 ok O σ tm w M) (hat:a.tmps=tm):∀ {l:List Operand} {ss:List SV},z55 σ l=some ss→ss.length=l.length∧∀ (i:Nat) x s,l[i]?=some x→ss[i]?=some s→zr w0 ok M s (a.eval x)∧Live σ s
 | [],ss,h=>by cases h; exact ⟨rfl,by simp⟩
 | x::l,ss,h=>by
  simp only [z55] at h
  split at h
  ·rename_i s r h1 h2
   cases h
   obtain ⟨e1,e2⟩:=z87 R hat h2
   refine ⟨by simp [e1],fun i y z hy hz=>?_⟩
   cases i with
   | zero =>
    simp only [y45,y37] at hy hz
    subst hy; subst hz
    exact z1b R hat h1
   | succ i =>
    simp only [y1q] at hy hz
    exact e2 i y z hy hz
  ·cases h

def z1n (t:Ty) (v:Value) (cs:List Value):Prop:=(t.isSt=true∧v=.agg cs.toArray)∨(t.isSt=false∧cs=[v])

theorem z17q {d:Nat} {s:SV} {v:SVal} {cs:List Value} (R:Rep E w0 ok O σ tm w M) (h:res E σ d s=some v) (hs:zc w0 ok M s cs):s.isSt=v.t.isSt:=by
 cases d with
 | zero=>cases h
 | succ d =>
  unfold res at h
  cases s with
  | val t x=>cases h; cases t <;> rfl
  | ref i p =>
   simp only [zo] at h
   split at h
   ·rename_i r hr
    obtain ⟨l,hl,he,hh,hn⟩:=R.rows i r hr
    obtain ⟨e,t,l',h1,rfl⟩:=hs
    rw [hl] at h1
    rw [← he] at h
    have h2:=z4a (.sl r.e r.t) l p
    rw [h1] at h2
    have h3:sub (.sl r.e r.t) (erase (.sl r.e r.t) l) p=some v:=h
    rw [h3] at h2
    cases h2
    rfl
   ·cases h
  | vw i lo n =>
   simp only [zo] at h
   split at h
   ·cases h; rfl
   ·cases h
  | ls i =>
   simp only [zo] at h
   split at h
   ·rename_i b hb
    have hb':=zb3 (fun s k=>zo E σ d s k) (fun s k=>z17 E σ d s k) (E.tyOf b.ty) b.c (fun xs=>some (SVal.mk (.sl b.ty (E.tyOf b.ty)) xs))
    have h':(lsC (fun s k=>zo E σ d s k) (E.tyOf b.ty) b.c fun xs=>some (SVal.mk (.sl b.ty (E.tyOf b.ty)) xs))=some v:=h
    rw [hb'] at h'
    obtain ⟨xs,hx,hv⟩:=yk.1 h'
    cases hv; rfl
   ·cases h
  | st s =>
   simp only [zo] at h
   rw [z17] at h
   obtain ⟨u,hu,hv⟩:=yk.1 h
   cases hv; rfl
  | pr x y =>
   simp only [zo] at h
   rw [z17] at h
   obtain ⟨u,hu,h⟩:=yk.1 h
   rw [z17] at h
   obtain ⟨z,hz,hv⟩:=yk.1 h
   cases hv; rfl
  | bp i p o =>
   simp only [zo] at h
   split at h
   ·split at h
    ·cases ho:Nat.beq _ _ <;> rw [ho] at h
     ·cases h
     ·simp only [yi] at h
      rw [z17] at h
      obtain ⟨u,hu,hv⟩:=yk.1 h
      cases hv; rfl
    ·cases h
   ·cases h
  | ep i p n f o =>
   simp only [zo] at h
   split at h
   ·rw [z2r] at h
    obtain ⟨u,hu,h⟩:=yk.1 h
    cases ho:Nat.beq (u.t.offP f) o <;> rw [ho] at h
    ·cases h
    ·simp only [yi] at h
     rw [z2r] at h
     obtain ⟨z,hz,hv⟩:=yk.1 h
     cases hv; rfl
   ·cases h
  | lp i n=>cases h
  | clo g c =>
   simp only [zo] at h
   rw [z17] at h
   obtain ⟨u,hu,hv⟩:=yk.1 h
   cases hv; rfl
  | tup s=>cases h
  | cns x y=>cases h
  | nl=>cases h
  | no=>cases h; rfl
  | un=>cases h

theorem ztz (R:Rep E w0 ok O σ tm w M) {d:Nat} {s:SV} {v:SVal} {u:Value} (h:res E σ d s=some v) (hs:zr w0 ok M s u):∃ cs,Rd w (Lt w) v.t v.x cs∧z1n v.t u cs:=by
 rcases z35 hs with rfl | ⟨c,vs,rfl,rfl,h1⟩ | ⟨cs,h1,h2⟩
 ·cases d <;> cases h
 ·cases d <;> cases h
 ·refine ⟨cs,z86 R d s v cs h h1,?_⟩
  unfold z1n
  rw [← z17q R h h1]
  exact h2

theorem Ext.pure {s:SV} {v:Value} (h:zr w0 ok M s v) (hl:Live σ s):Ext E w0 ok σ w M s [] [] v w M :=
 ⟨h,Kept.refl _ _,fun _ _=>rfl,fun _ _=>⟨rfl,rfl,rfl⟩,fun i r h=>(nomatch h),fun i j _ ⟨r,h⟩=>(nomatch h),fun i b h=>(nomatch h),fun i j ⟨r,h⟩=>(nomatch h),fun i j ⟨r,h⟩=>(nomatch h),
  ⟨fun i hi=>.inl (hl.rows i hi),fun i hi=>.inl (hl.boxes i hi)⟩,fun i b h=>(nomatch h)⟩

def z18 (P:Program) (E:Env) (w0:World) (ok:Nat→Prop) (σ:St) (w:World) (M:Map) (a:Act) (o:Oper) (x:Out):Prop :=
 ∃ v w' M',(execOp a.eval o).run P w=.ok (.value v) w'∧Ext E w0 ok σ w M x.1 x.2.1 x.2.2 v w' M'

theorem z36 (t:Ty) (x:t.T):Live σ (.val t x):=⟨by simp [SV.roots],by simp [SV.boxes]⟩
theorem z18.val {o:Oper} {t:Ty} {x:t.T} {v:Value} (hr:Rd w0 ok t x [v]) (ht:t.isSt=false) (h:(execOp a.eval o).run P w=.ok (.value v) w):z18 P E w0 ok σ w M a o (.val t x,[],[]) :=
 ⟨v,w,M,h,Ext.pure (z1t hr (.inr ⟨(by cases t <;> first | rfl | cases ht),rfl⟩)) (z36 t x)⟩

def z30 {α:Type} (f:Nat→α) (i:Nat) (x:α):Nat→α:=fun j=>if j=i then x else f j
theorem z1w {α:Type} (f:Nat→α) (i:Nat) (x:α):z30 f i x i=x:=by simp [z30]
theorem z3e {α:Type} (f:Nat→α) {i j:Nat} (x:α) (h:j≠i):z30 f i x j=f j:=by simp [z30,h]
theorem z59 {α:Type} {i j:Nat} {x y:α} (h:lk [(i,x)] j=some y):j=i∧y=x:=by
 rw [zu] at h
 split at h
 ·rename_i e; cases h; exact ⟨e.symm,rfl⟩
 ·cases h
theorem zu0 {α:Type} {i j:Nat} {x:α} (h:lk [(i,x)] j=none):j≠i:=by
 rw [zu] at h
 split at h
 ·cases h
 ·rename_i e; exact fun h=>e h.symm

theorem Ext.row {i:Nat} {e:TypeId} {t:Ty} {xs:List t.T} {z:Bool} {l:L (.sl e t)} {w':World} (hp:z=false→plain w' (.sl e t) l) (hk:Kept (fun _=>False) w w') (he:erase (.sl e t) l=xs) (hh:holds (Rd w0 ok) w' (.sl e t) l) (hn:(z7 (.sl e t) l).Nodup)
  (hg:∀ k∈z7 (.sl e t) l,w.heap.size≤k):Ext E w0 ok σ w M (.ref i []) [(i,⟨e,t,xs,z⟩)] [] (.slice (l.1.map fun g=>⟨g,0,none⟩) l.2.2.length l.2.1) w' { M with loc:=z30 M.loc i ⟨.sl e t,l⟩} where
 val:=⟨za (.sl e t) l,⟨e,t,l,(congrArg (fun z:Loc=>zy z.1 z.2 []) (z1w M.loc i ⟨.sl e t,l⟩)).trans rfl,rfl⟩,.inr ⟨rfl,rfl⟩⟩
 kept:=hk
 locO:=fun j hj=>z3e _ _ (zu0 hj)
 blkO:=fun _ _=>⟨rfl,rfl,rfl⟩
 rows:=fun j r hr=>by
  obtain ⟨rfl,rfl⟩:=z59 hr
  exact ⟨l,z1w _ _ _,he,hh,hn,hp,hg⟩
 rr:=fun j k hjk ⟨r,hr⟩ ⟨r',hr'⟩=>absurd ((z59 hr).1.trans (z59 hr').1.symm) hjk
 boxes:=fun j b h=>by cases h
 bb:=fun j k ⟨b,h⟩=>by cases h
 rb:=fun j k _ ⟨b,h⟩=>by cases h
 live:=⟨fun j hj=>by simp [SV.roots] at hj; subst hj; exact .inr ⟨_,by rw [zu,y4 rfl]⟩,fun j hj=>by simp [SV.boxes] at hj⟩
 liveB:=fun j b h=>by cases h

def mvN (E:Env) (σ:St) (ty:TypeId) (d:Nat) (x:Operand):Option Out:=match x with
  | .const (.slice none 0 0)=>match E.ti[ty]? with
   | some ⟨.sl e,.sl _ t,_⟩=>some ((.ref (32*d) [],[(32*d,⟨e,t,[],false⟩)],[]):Out)
   | _=>none
  | x=>match opd σ x with | some s=>some (s,[],[]) | none=>none
theorem zu1 (R:Rep E w0 ok O σ tm w M) (hat:a.tmps=tm) (T:zh P E.ti=true) {o:Oper} {x:Operand} (hop:o.op=.move x∨o.op=.assign x) {out:Out} (h:zw E σ o=some out):z18 P E w0 ok σ w M a o out:=by
 have hrun:(execOp a.eval o).run P w=.ok (.value (a.eval x)) w:=by
  unfold execOp
  rcases hop with hop | hop <;> rw [hop] <;> rfl
 have main:∀ (d:Nat),mvN E σ o.type d x=some out→z18 P E w0 ok σ w M a o out:=by
  intro d h
  unfold mvN at h
  split at h
  ·split at h
   ·rename_i e e' t b ht
    cases h
    have hx:=Ext.row (E:=E) (w0:=w0) (ok:=ok) (σ:=σ) (w:=w) (M:=M) (i:=32*d) (e:=e) (t:=t) (xs:=[]) (z:=false) (l:=(none,0,[])) (fun _=>⟨fun b hb=>(nomatch hb),by simp⟩) (Kept.refl _ w) rfl ⟨⟨rfl,rfl⟩,by simp⟩ (by simp [z7]) (by simp [z7])
    exact ⟨_,w,_,hrun,hx⟩
   ·cases h
  ·split at h
   ·rename_i s hs
    cases h
    obtain ⟨h1,h2⟩:=z1b R hat hs
    exact ⟨_,w,M,hrun,Ext.pure h1 h2⟩
   ·cases h
 refine main (z12 o) ?_
 unfold zw z1h at h
 rcases hop with hop | hop <;> simp only [hop] at h <;> exact h

theorem z67 (R:Rep E w0 ok O σ tm w M) (hat:a.tmps=tm) {x:Operand} {t:Ty} {y:t.T} (h:opd σ x=some (.val t y)) (ht:t.isSt=false):∃ v,a.eval x=v∧Rd w0 ok t y [v]:=by
 obtain ⟨h1,_⟩:=z1b R hat h
 obtain ⟨cs,h2,h3⟩:=h1
 rcases h3 with ⟨h4,_⟩ | ⟨_,rfl⟩
 ·exfalso; cases t <;> first | (cases h4; done) | (cases ht; done)
 ·exact ⟨_,rfl,h2⟩
theorem z9l (R:Rep E w0 ok O σ tm w M) (hat:a.tmps=tm) {x:Operand} {k:IntKind} {n:Int} (h:opd σ x=some (.val (.int k) n)):a.eval x=.int k n:=by
 obtain ⟨v,rfl,h⟩:=z67 R hat h rfl
 simp only [Rd,y12,y13] at h; exact h
theorem zpv (R:Rep E w0 ok O σ tm w M) (hat:a.tmps=tm) {x:Operand} {b:Bool} (h:opd σ x=some (.val .bool b)):a.eval x=.bool b:=by
 obtain ⟨v,rfl,h⟩:=z67 R hat h rfl
 simp only [Rd,y12,y13] at h; exact h
theorem zj8 (R:Rep E w0 ok O σ tm w M) (hat:a.tmps=tm) {x:Operand} {b:List UInt8} (h:opd σ x=some (.val .str b)):a.eval x=.string ⟨b.toArray⟩:=by
 obtain ⟨v,rfl,h⟩:=z67 R hat h rfl
 simp only [Rd,y12,y13] at h; exact h

theorem z17r (R:Rep E w0 ok O σ tm w M) (hat:a.tmps=tm) {o:Oper} {c x y:Operand} (hop:o.op=.pick c x y) {out:Out} (h:zw E σ o=some out):z18 P E w0 ok σ w M a o out:=by
 unfold zw z1h at h
 rw [hop] at h
 simp only [] at h
 split at h
 ·rename_i p hc
  have hv:=zpv R hat hc
  have hrun:(execOp a.eval o).run P w=.ok (.value (if p=true then a.eval x else a.eval y)) w:=by
   unfold execOp; rw [hop]; simp [hv,asBool]
  split at h
  ·rename_i hp
   rw [y4 hp] at hrun
   split at h
   ·rename_i s hs
    cases h
    obtain ⟨h1,h2⟩:=z1b R hat hs
    exact ⟨_,w,M,hrun,Ext.pure h1 h2⟩
   ·cases h
  ·rename_i hp
   rw [y5 hp] at hrun
   split at h
   ·rename_i s hs
    cases h
    obtain ⟨h1,h2⟩:=z1b R hat hs
    exact ⟨_,w,M,hrun,Ext.pure h1 h2⟩
   ·cases h
 ·cases h

theorem z17s (R:Rep E w0 ok O σ tm w M) (hat:a.tmps=tm) {o:Oper} {op:UnOp} {t:TypeId} {x:Operand} (hop:o.op=.unOp op t x) {out:Out} (h:zw E σ o=some out):z18 P E w0 ok σ w M a o out:=by
 unfold zw z1h at h
 rw [hop] at h
 simp only [] at h
 split at h
 ·rename_i b hb
  cases h
  have hv:=zpv R hat hb
  exact z18.val (t:=.bool) rfl rfl (by unfold execOp; rw [hop]; simp [hv,Op.unary])
 ·rename_i k n hb
  cases h
  have hv:=z9l R hat hb
  exact z18.val (t:=.int k) rfl rfl (by unfold execOp; rw [hop]; simp [hv,Op.unary,Op.intArith])
 ·cases h

theorem z88 (R:Rep E w0 ok O σ tm w M) (hat:a.tmps=tm) {x:Operand} {s:SV} {v:SVal} (h:opd σ x=some s) (hr:res E σ depth s=some v):∃ cs,Rd w (Lt w) v.t v.x cs∧z1n v.t (a.eval x) cs :=
 ztz R hr (z1b R hat h).1
end

def z2f (P:Program) (E:Env):Prop:=∀ (t:TypeId) (fs:List (TypeId×Nat)) (u:Ty) (b:Nat) (hf:u.flat=true),E.ti[t]?=some ⟨.st fs,.st u,b⟩→∀ (w:World) (x y:u.T) (cs ds:List Value) (ok ok':Nat→Prop),
 Rd w ok u x cs→Rd w ok' u y ds→(Op.equalIn 10000 t (.agg cs.toArray) (.agg ds.toArray)).run P w=.ok (@decide (x=y) (Ty.deq u hf x y)) w

section
variable {P : Program} {E : Env} {w0 : World} {ok O : Nat → Prop} {σ : St} {tm : Array Value} {w : World} {M : Map} {a : Act}

theorem zdo {t:Ty} {v:Value} {cs:List Value} (h:z1n t v cs) (ht:t.isSt=false):cs=[v]:=by
 rcases h with ⟨h,_⟩ | ⟨_,h⟩
 ·rw [ht] at h; cases h
 ·exact h
theorem zdp {w:World} {ok:Nat→Prop} {k:IntKind} {n:Int} {v:Value} {cs:List Value} (h:Rd w ok (.int k) n cs) (hw:z1n (.int k) v cs):v=.int k n:=by
 have:=zdo hw rfl
 subst this
 simp only [Rd,y12,y13] at h; exact h
theorem zgx {w:World} {ok:Nat→Prop} {b:Bool} {v:Value} {cs:List Value} (h:Rd w ok .bool b cs) (hw:z1n .bool v cs):v=.bool b:=by
 have:=zdo hw rfl
 subst this
 simp only [Rd,y12,y13] at h; exact h
theorem z9m {w:World} {ok:Nat→Prop} {b:List UInt8} {v:Value} {cs:List Value} (h:Rd w ok .str b cs) (hw:z1n .str v cs):v=.string ⟨b.toArray⟩:=by
 have:=zdo hw rfl
 subst this
 simp only [Rd,y12,y13] at h; exact h

theorem zu2 {op:BinOp} {k:IntKind} {x y:Int} {v:SVal} (h:zdg op k x y=some v) (t:TypeId) (X Y:Operand) (w:World):∃ u,(do eqGuard op t X Y (.int k x) (.int k y); binOp op t (.int k x) (.int k y):Sem Value).run P w=.ok u w∧Rd w (fun _=>False) v.t v.x [u]∧v.t.isSt=false:=by
 have hg:eqGuard op t X Y (.int k x) (.int k y)=pure ():=by cases op <;> rfl
 rw [hg]
 unfold zdg at h
 cases op <;> simp only [zas] at h
 case quo =>
  split at h
  ·cases h
  ·rename_i h0; cases h; exact ⟨_,by simp [binOp,Op.intDiv,h0],rfl,rfl⟩
 case rem =>
  split at h
  ·cases h
  ·rename_i h0; cases h; exact ⟨_,by simp [binOp,Op.intDiv,h0],rfl,rfl⟩
 all_goals first | (cases h; done) | skip
 all_goals (cases h; exact ⟨_,by simp only [binOp,Op.intArith,Op.intBits,Op.intCmp,ne_eq,not_true_eq_false,y8]; rfl,rfl,rfl⟩)

theorem zu3 {op:BinOp} {x y:List UInt8} {v:SVal} (h:zdh op x y=some v) (t:TypeId) (X Y:Operand) (w:World):∃ u,(do eqGuard op t X Y (.string ⟨x.toArray⟩) (.string ⟨y.toArray⟩); binOp op t (.string ⟨x.toArray⟩) (.string ⟨y.toArray⟩):Sem Value).run P w=.ok u w∧Rd w (fun _=>False) v.t v.x [u]∧v.t.isSt=false:=by
 have hg:eqGuard op t X Y (.string ⟨x.toArray⟩) (.string ⟨y.toArray⟩)=pure ():=by cases op <;> rfl
 rw [hg]
 have hb:(x==y)=decide (x=y):=by rw [y49]; simp
 unfold zdh at h
 cases op <;> simp only [zat] at h
 case add =>
  split at h
  ·rename_i hl
   cases h
   refine ⟨.string ⟨(x++y).toArray⟩,?_,rfl,rfl⟩
   have h2:IntKind.i64.max=9223372036854775807:=rfl
   have h3:¬ ((((⟨x.toArray⟩:ByteArray).size+(⟨y.toArray⟩:ByteArray).size:Nat):Int) > IntKind.i64.max):=by
    rw [h2]
    have e1:(⟨x.toArray⟩:ByteArray).size=x.length:=rfl
    have e2:(⟨y.toArray⟩:ByteArray).size=y.length:=rfl
    omega
   simp only [binOp,Op.stringOp,y5 h3,ByteArray.mk_append_mk]
   rfl
  ·cases h
 all_goals first | (cases h; done) | skip
 all_goals (cases h; exact ⟨_,by simp only [binOp,Op.stringOp,ByteArray.toList_mk,hb]; rfl,rfl,rfl⟩)

theorem z17t (R:Rep E w0 ok O σ tm w M) (hat:a.tmps=tm) (T:zh P E.ti=true) (EQ:z2f P E) {o:Oper} {op:BinOp} {t u:TypeId} {x y:Operand} (hop:o.op=.binOp op t x y u) {out:Out} (h:zw E σ o=some out):z18 P E w0 ok σ w M a o out:=by
 unfold zw z1h at h
 rw [hop] at h
 simp only [] at h
 split at h
 ·rename_i sx sy hx hy
  rw [z17] at h
  obtain ⟨⟨t1,x1⟩,h1,h⟩:=yk.1 h
  rw [z17] at h
  obtain ⟨⟨t2,x2⟩,h2,h⟩:=yk.1 h
  obtain ⟨cs,hr1,hw1⟩:=z88 R hat hx h1
  obtain ⟨ds,hr2,hw2⟩:=z88 R hat hy h2
  have fin:∀ {v:SVal},(∃ z,(do eqGuard op t x y (a.eval x) (a.eval y); binOp op t (a.eval x) (a.eval y):Sem Value).run P w=.ok z w∧Rd w (fun _=>False) v.t v.x [z]∧v.t.isSt=false)→z18 P E w0 ok σ w M a o (.val v.t v.x,[],[]):=by
   rintro v ⟨z,hz,hr,hs⟩
   have hrun:(execOp a.eval o).run P w=.ok (.value z) w:=by
    unfold execOp
    rw [hop]
    simp only [Sem.run_bind] at hz ⊢
    rw [hz]
    rfl
   refine z18.val ?_ hs hrun
   obtain ⟨vt,vx⟩:=v
   have flat:∀ {t:Ty} {x:t.T} {v:Value},Rd w (fun _=>False) t x [v]→t.flat=true→Rd w0 ok t x [v]:=by
    intro t
    induction t with
    | int k=>intro x v h _; exact h
    | bool=>intro x v h _; exact h
    | str=>intro x v h _; exact h
    | st t ih=>intro x v h hf; exact ih h hf
    | pr a b iha ihb =>
     intro x v h hf
     obtain ⟨c1,c2,e,h1,h2⟩:=h
     simp only [Ty.flat,yh] at hf
     have l1:=Rd.len h1
     have l2:=Rd.len h2
     rcases c1 with _ | ⟨c,c1⟩
     ·exfalso
      have:∀ t:Ty,t.flat=true→t.sz≠0:=by
       intro t
       induction t with
       | int=>intro _; simp [Ty.sz]
       | bool=>intro _; simp [Ty.sz]
       | str=>intro _; simp [Ty.sz]
       | st t ih=>exact ih
       | pr a b i1 i2=>intro h; simp only [Ty.flat,yh] at h; have:=i1 h.1; simp only [Ty.sz]; omega
       | _=>intro h; cases h
      exact this a hf.1 l1.symm
     ·simp only [y3m,y12] at e
      obtain ⟨rfl,e⟩:=e
      have:=y54.1 e.symm
      rw [this.1] at h1
      rw [this.2] at h2
      exfalso
      have:∀ t:Ty,t.flat=true→t.sz≠0:=by
       intro t
       induction t with
       | int=>intro _; simp [Ty.sz]
       | bool=>intro _; simp [Ty.sz]
       | str=>intro _; simp [Ty.sz]
       | st t ih=>exact ih
       | pr a b i1 i2=>intro h; simp only [Ty.flat,yh] at h; have:=i1 h.1; simp only [Ty.sz]; omega
       | _=>intro h; cases h
      have l:=Rd.len h2
      exact this b hf.2 l.symm
    | _=>intro x v h hf; cases hf
   have hmono:Rd w (fun _=>False) vt vx [z]:=hr
   exact (Rd.move (w:=w) (w':=w0) (ok:=fun _=>False) (fun k hk=>hk.elim) hmono).mono (fun k hk=>hk.elim)
  simp only [] at h h1 h2 hr1 hr2 hw1 hw2
  rw [zpn] at h
  obtain ⟨v,hv,h⟩:=yk.1 h
  cases h
  apply fin
  unfold bin z6j at hv
  split at hv
  ·rename_i k l x1 x2 _ _
   rw [zdp hr1 hw1,zdp hr2 hw2]
   split at hv
   ·split at hv
    ·cases hv
    ·rename_i hn; cases hv; exact ⟨_,by simp [binOp,Op.shift,hn,eqGuard],rfl,rfl⟩
   ·split at hv
    ·cases hv
    ·rename_i hn; cases hv; exact ⟨_,by simp [binOp,Op.shift,hn,eqGuard],rfl,rfl⟩
   ·split at hv
    ·rename_i hk
     subst hk
     exact zu2 hv t x y w
    ·cases hv
  ·rename_i x1 x2 _ _
   rw [zgx hr1 hw1,zgx hr2 hw2]
   split at hv
   ·rename_i ty b ht
    obtain ⟨hu,_⟩:=zps T ht
    split at hv
    ·cases hv
     exact ⟨_,by rw [eqGuard_at_bool]; simp only [Sem.run_bind,Sem.run_pure,Result.andThen_ok]; exact run_eql_bool _ t _ _ hu,rfl,rfl⟩
    ·cases hv
     exact ⟨_,by rw [eqGuard_at_bool]; simp only [Sem.run_bind,Sem.run_pure,Result.andThen_ok]; exact run_neq_bool _ t _ _ hu,rfl,rfl⟩
    ·cases hv
   ·cases hv
  ·rename_i x1 x2 _ _
   rw [z9m hr1 hw1,z9m hr2 hw2]
   exact zu3 hv t x y w
  ·rename_i t1 t2 x1 x2 _ _
   split at hv
   ·rename_i fs v' b ht
    split at hv
    ·rename_i he
     subst he
     split at hv
     ·rename_i he2
      subst he2
      split at hv
      ·rename_i hf
       obtain ⟨fields,u',h3,h4,h5,h6,h7⟩:=zdn T ht
       cases h5
       obtain ⟨g1,g2,g3⟩:=h7 hf
       have e1:a.eval x=.agg cs.toArray:=by
        rcases hw1 with ⟨_,h⟩ | ⟨h,_⟩
        ·exact h
        ·cases h
       have e2:a.eval y=.agg ds.toArray:=by
        rcases hw2 with ⟨_,h⟩ | ⟨h,_⟩
        ·exact h
        ·cases h
       rw [e1,e2]
       have key:=EQ t fs _ b hf ht w _ _ cs ds _ _ hr1 hr2
       split at hv
       ·cases hv
        refine ⟨_,?_,rfl,rfl⟩
        simp only [Sem.run_bind,run_eqGuard_agg w _ t x y _ _ g2,Result.andThen_ok,run_eql_struct,key]
       ·cases hv
        refine ⟨_,?_,rfl,rfl⟩
        simp only [Sem.run_bind,run_eqGuard_agg w _ t x y _ _ g2,Result.andThen_ok,run_neq_struct,key]
       ·cases hv
      ·cases hv
     ·cases hv
    ·cases hv
   ·cases hv
  ·cases hv
 ·cases h
end

section
variable {P : Program} {E : Env} {w0 : World} {ok O : Nat → Prop} {σ : St} {tm : Array Value} {w : World} {M : Map} {a : Act}

theorem z17u (T:zh P E.ti=true) {t:TypeId} (h:E.known t=true):∃ d,P.underlying t=some d:=by
 unfold Env.known at h
 split at h
 ·cases h
 ·rename_i ti hn ht
  have:=(zb5 T ht (by intro e; obtain ⟨sh,ty,b⟩:=ti; dsimp only at e; subst e; exact hn _ _ rfl) (default:World)).2.2
  exact y4l.1 this
 ·cases h

theorem z17v (w:World) (n:Nat) (e:TypeId) (h:n≤9223372036854775807):n≤grownCap w n 0 e∧grownCap w n 0 e≤maxLen:=by
 have h1:grownCap w n 0 e=n+w.tape w.drawn (.appendCap n 0 e) % (2 ^ 63-n):=rfl
 rw [h1]
 have:=y4m (w.tape w.drawn (.appendCap n 0 e)) (show 0<2 ^ 63-n by omega)
 unfold maxLen
 omega

theorem z17w (R:Rep E w0 ok O σ tm w M) (hat:a.tmps=tm) (T:zh P E.ti=true) {o:Oper} {t u:TypeId} {x:Operand} (hop:o.op=.convert t u x) {out:Out} (h:zw E σ o=some out):z18 P E w0 ok σ w M a o out:=by
 unfold zw z1h at h
 rw [hop] at h
 simp only [] at h
 have hex:(execOp a.eval o).run P w=((convert t u (a.eval x)).run P w).andThen fun v w'=>.ok (.value v) w':=by
  unfold execOp
  rw [hop]
  simp only [Sem.run_bind]
  rfl
 split at h
 ·rename_i s hs
  cases hk:E.known t <;> rw [hk] at h
  ·cases h
  ·obtain ⟨dt,hdt⟩:=z17u T hk
   simp only [y14,yn] at h
   split at h
   ·rename_i i _ _ ht
    obtain ⟨hu,_⟩:=zpr T ht
    split at h
    ·rename_i k n
     cases h
     have hv:=z9l R hat hs
     refine z18.val (t:=.int i) rfl rfl ?_
     rw [hex,hv]
     simp [convert,run_underlying hdt,run_underlying hu,Conv.intToInt,Result.andThen]
    ·cases h
   ·rename_i _ _ ht
    obtain ⟨hu,_⟩:=zb4 T ht
    split at h
    ·rename_i n
     cases h
     have hv:=zj8 R hat hs
     refine z18.val (t:=.str) rfl rfl ?_
     rw [hex,hv]
     simp [convert,run_underlying hdt,run_underlying hu,Result.andThen]
    ·split at h
     ·rename_i e e' _ ht'
      obtain ⟨hu',htt⟩:=zgw T ht' (fun v h=>by cases h)
      have he:E.tyOf e=.int .u8:=by injection htt with _ h; exact h.symm
      obtain ⟨ti,he1,he2,he3⟩:=z4d T (t:=e) (by rw [he]; simp [Ty.sz])
      have he4:P.underlying e=some (.int .u8):=by
       obtain ⟨sh,ty,b⟩:=ti
       dsimp only at he2 he3
       rw [he] at he2
       subst he2
       have:=(z2k T he1 he3).2
       unfold z3d at this
       split at this <;> rename_i g1 g2 g3 <;> first | (cases g3; done) | skip
       ·cases g3; simp at this; rw [g2,← this.1,this.2]
       ·cases this
      rw [z17] at h
      obtain ⟨⟨t1,x1⟩,h1,h⟩:=yk.1 h
      simp only [] at h
      split at h
      ·rename_i e2 xs
       cases h
       obtain ⟨cs,hr,hw⟩:=z88 R hat hs h1
       have hc:=zdo hw rfl
       subst hc
       obtain ⟨A,c,hA,hl,hx⟩:=hr
       simp only [y12,y13] at hA
       refine z18.val (t:=.str) (v:=.string (strOfNums xs)) rfl rfl ?_
       rw [hex,hA]
       cases hxs:xs with
       | nil =>
        rw [hxs] at hA
        cases A with
        | none =>
         rw [run_convert_bytes_nil w t e hu' he4 _ _ u hu]
         rfl
        | some ad =>
         rw [run_convert_bytes_string w t u e _ _ _ hu' he4 hu]
         simp [Conv.bytesToString,loadCells,loadCellsFrom,Result.andThen]
         rfl
       | cons y ys =>
        obtain ⟨ad,rfl,hok,hcell⟩:=hx (by rw [hxs]; simp)
        have hy:∀ i,i<xs.length→w.cell? (ad.add i)=some (.int .u8 (xs.getD i 0)):=by
         intro i hi
         obtain ⟨ds,hd,hc⟩:=hcell i xs[i] (yj hi)
         simp only [Rd] at hd
         subst hd
         have:=hc 0 _ rfl
         rw [zcy,show i*Ty.sz (.int .u8)+0=i by simp [Ty.sz]] at this
         rw [this]
         simp [y16,hi]
        have hsp:ad.spot=none:=by
         have:=hy 0 (by rw [hxs]; simp)
         rw [add_zero] at this
         unfold World.cell? at this
         split at this
         ·cases hsp:ad.spot with
          | none=>rfl
          | some z=>rw [hsp] at this; simp at this
         ·cases this
        obtain ⟨b,off,sp⟩:=ad
        dsimp only at hsp
        subst hsp
        rw [← hxs]
        have:=run_convert_bytes_arg w t e hu' he4 b off xs.length c xs rfl (fun i hi=>by have:=hy i hi; rwa [z2x] at this) u hu
        rw [this]
        rfl
      ·cases h
     ·cases h
   ·rename_i e e' _ ht
    obtain ⟨hu,htt⟩:=zgw T ht (fun v h=>by cases h)
    have he:E.tyOf e=.int .u8:=by injection htt with _ h; exact h.symm
    obtain ⟨ti,he1,he2,he3⟩:=z4d T (t:=e) (by rw [he]; simp [Ty.sz])
    have he4:P.underlying e=some (.int .u8):=by
     obtain ⟨sh,ty,b⟩:=ti
     dsimp only at he2 he3
     rw [he] at he2
     subst he2
     have:=(z2k T he1 he3).2
     unfold z3d at this
     split at this <;> rename_i g1 g2 g3 <;> first | (cases g3; done) | skip
     ·cases g3; simp at this; rw [g2,← this.1,this.2]
     ·cases this
    split at h
    ·rename_i bs
     split at h
     ·rename_i hlen
      cases h
      have hv:=zj8 R hat hs
      have hb:bs.length≤9223372036854775807:=by unfold LIM at hlen; omega
      obtain ⟨g1,g2⟩:=z17v w bs.length e hb
      have hsz:(⟨bs.toArray⟩:ByteArray).size=bs.length:=rfl
      have hrun:(execOp a.eval o).run P w=.ok (.value (.slice (some ⟨w.heap.size,0,none⟩) bs.length (grownCap w bs.length 0 e))) (Lib.bytesWorld w e ⟨bs.toArray⟩):=by
       rw [hex,hv,Lib.run_convert_string_bytes w t u e _ hdt hu he4]
       rfl
      have hfl:(bs.map fun b=>(b.toNat:Int)).flatMap (za (.int .u8))=bs.map fun b=>Value.int .u8 b.toNat:=by
       clear hs hlen hv hb g1 g2 hsz hrun
       induction bs with
       | nil=>rfl
       | cons b bs ih=>rw [y1j,y1j,y2b,ih]; rfl
      have nob:z7 (.sl e (.int .u8)) (some w.heap.size,grownCap w bs.length 0 e,bs.map fun b=>(b.toNat:Int))=[w.heap.size]:=by
       simp only [z7,y2f,y2s.2 (fun _ _=>rfl),y1t]
      have hX:=Ext.row (E:=E) (w0:=w0) (ok:=ok) (σ:=σ) (w:=w) (M:=M) (i:=32*(z12 o)) (e:=e) (t:=.int .u8) (xs:=bs.map fun b=>(b.toNat:Int)) (z:=true)
       (l:=(some w.heap.size,grownCap w bs.length 0 e,bs.map fun b=>(b.toNat:Int))) (w':=Lib.bytesWorld w e ⟨bs.toArray⟩) (fun h=>by cases h)
       ⟨rfl,rfl,rfl,by rw [Lib.bytesWorld_size]; omega,fun k hk _=>Lib.bytesWorld_at_old w e _ k hk⟩ (by simp [erase])
       ⟨⟨_,_,Lib.bytesWorld_at_new w e _,by simp; exact g1,g2,by simp [Lib.bytesCells,Ty.sz,hsz,ByteArray.size]; omega,by
        simp only [yp,Ty.sz,y4n]
        rw [hfl]
        simp [Lib.bytesCells],.inr (by simp [Lib.bytesCells,Ty.sz])⟩,by simp [holds]⟩
       (by rw [nob]; simp) (by rw [nob]; simp)
      simp only [yp] at hX
      exact ⟨_,_,_,hrun,hX⟩
     ·cases h
    ·cases h
   ·cases h
 ·cases h

theorem z17x (R:Rep E w0 ok O σ tm w M) (hat:a.tmps=tm) {o:Oper} {x:Operand} (hop:o.op=.nilCheck x) {out:Out} (h:zw E σ o=some out):z18 P E w0 ok σ w M a o out:=by
 unfold zw z1h at h
 rw [hop] at h
 simp only [] at h
 have key:∀ s,opd σ x=some s→(∃ ad,a.eval x=.pointer (some ad))∨(∃ g caps,a.eval x=.func (.func g) #[] caps)→z18 P E w0 ok σ w M a o (s,[],[]):=by
  intro s hs hv
  obtain ⟨h1,h2⟩:=z1b R hat hs
  have hrun:(execOp a.eval o).run P w=.ok (.value (a.eval x)) w:=by
   unfold execOp
   rw [hop]
   rcases hv with ⟨ad,hv⟩ | ⟨g,caps,hv⟩ <;> simp only [hv] <;> rfl
  exact ⟨_,w,M,hrun,Ext.pure h1 h2⟩
 split at h
 ·rename_i t y hs
  cases h
  obtain ⟨v,hv,hr⟩:=z67 R hat hs rfl
  obtain ⟨ad,ds,he,_⟩:=hr
  cases he
  exact key _ hs (.inl ⟨ad,hv⟩)
 ·rename_i i p c hs
  cases h
  obtain ⟨cs,h2,h3⟩:=(z1b R hat hs).1
  rcases h3 with ⟨h4,_⟩ | ⟨_,rfl⟩
  ·cases h4
  ·simp only [zc,y12,y13] at h2
   exact key _ hs (.inl ⟨_,h2⟩)
 ·rename_i i p n f c hs
  cases h
  obtain ⟨cs,⟨e,t,l,g,_,_,_,h2⟩,h3⟩:=(z1b R hat hs).1
  rcases h3 with ⟨h4,_⟩ | ⟨_,rfl⟩
  ·cases h4
  ·simp only [y12,y13] at h2
   exact key _ hs (.inl ⟨_,h2⟩)
 ·rename_i g c hs
  cases h
  obtain ⟨cs,⟨caps,h2,_⟩,h3⟩:=(z1b R hat hs).1
  rcases h3 with ⟨h4,_⟩ | ⟨_,rfl⟩
  ·cases h4
  ·simp only [y12,y13] at h2
   exact key _ hs (.inr ⟨_,_,h2⟩)
 ·rename_i g c y hs
  cases h
  obtain ⟨v,hv,hr⟩:=z67 R hat hs rfl
  obtain ⟨caps,he,_⟩:=hr
  cases he
  exact key _ hs (.inr ⟨_,_,hv⟩)
 ·rename_i ids y hs
  cases h
  obtain ⟨v,hv,hr⟩:=z67 R hat hs rfl
  obtain ⟨he,_⟩:=hr
  cases he
  exact key _ hs (.inr ⟨_,_,hv⟩)
 ·cases h

theorem zpw:∀ {s:SV} {vs:List Value} {n:Nat} {r:SV},z2h w0 ok M s vs→s.nth n=some r→∃ v cs,vs[n]?=some v∧zc w0 ok M r cs∧z2s r v cs
 | .cns x y,vs,0,r,h,hn=>by
  cases hn
  obtain ⟨v,vs',rfl,⟨cs,h1,h2⟩,_⟩:=h
  exact ⟨v,cs,rfl,h1,h2⟩
 | .cns x y,vs,n+1,r,h,hn=>by
  obtain ⟨v,vs',rfl,_,h3⟩:=h
  obtain ⟨u,cs,h4,h5⟩:=zpw h3 hn
  exact ⟨u,cs,by rw [y1q]; exact h4,h5⟩
theorem zpx:∀ {s:SV} {n:Nat} {r:SV},s.nth n=some r→Live σ s→Live σ r
 | .cns x y,0,r,hn,h=>by
  cases hn
  exact ⟨fun i hi=>h.rows i (by simp [SV.roots,hi]),fun i hi=>h.boxes i (by simp [SV.boxes,hi])⟩
 | .cns x y,n+1,r,hn,h=>zpx (s:=y) hn ⟨fun i hi=>h.rows i (by simp [SV.roots,hi]),fun i hi=>h.boxes i (by simp [SV.boxes,hi])⟩

theorem z17y (R:Rep E w0 ok O σ tm w M) (hat:a.tmps=tm) {o:Oper} {x:Operand} {i:Nat} (hop:o.op=.extract x i) {out:Out} (h:zw E σ o=some out):z18 P E w0 ok σ w M a o out:=by
 unfold zw z1h at h
 rw [hop] at h
 simp only [] at h
 split at h
 ·rename_i s hs
  split at h
  ·rename_i r hr
   cases h
   obtain ⟨⟨vs,hv,h1⟩,h2⟩:=z1b R hat hs
   obtain ⟨v,cs,h3,h4,h5⟩:=zpw h1 hr
   refine ⟨v,w,M,?_,Ext.pure (z1t h4 h5) (zpx hr ⟨h2.rows,h2.boxes⟩)⟩
   unfold execOp
   rw [hop]
   simp only [hv,Instr.extract]
   rw [← y2q,h3]
   rfl
  ·cases h
 ·cases h

theorem z17z {s:SV} {v:Value} (h:s.okCap=true) (hs:zr w0 ok M s v):zc w0 ok M s [v]:=by
 rcases z35 hs with rfl | ⟨c,vs,rfl,_,_⟩ | ⟨cs,h4,h5⟩
 ·cases h
 ·cases h
 ·rcases h5 with ⟨h6,_⟩ | ⟨_,rfl⟩
  ·exfalso
   cases s <;> first | (cases h6; done) | (simp [SV.okCap,h6] at h; done)
  ·exact h4
theorem zu4:∀ {l:List SV} {vs:List Value},l.length=vs.length→(∀ (i:Nat) s v,l[i]?=some s→vs[i]?=some v→zc w0 ok M s [v]∧Live σ s)→zc w0 ok M (z99 l) vs∧Live σ (z99 l)
 | [],[],_,h=>⟨rfl,⟨by simp [z99,SV.roots],by simp [z99,SV.boxes]⟩⟩
 | [s],[v],_,h=>h 0 s v rfl rfl
 | s::s2::l,v::vs,hl,h=>by
  obtain ⟨h1,l1⟩:=h 0 s v rfl rfl
  obtain ⟨h2,l2⟩:=zu4 (l:=s2::l) (vs:=vs) (by simpa using hl) (fun i s v hs hv=>h (i+1) s v hs hv)
  refine ⟨⟨[v],vs,rfl,h1,h2⟩,⟨fun i hi=>?_,fun i hi=>?_⟩⟩
  ·simp only [z99,SV.roots,yd] at hi
   rcases hi with hi | hi
   ·exact l1.rows i hi
   ·exact l2.rows i hi
  ·simp only [z99,SV.boxes,yd] at hi
   rcases hi with hi | hi
   ·exact l1.boxes i hi
   ·exact l2.boxes i hi
 | [],_::_,hl,h=>by simp at hl
 | _::_,[],hl,h=>by simp at hl
 | [_],_::_::_,hl,h=>by simp at hl

theorem z180 (R:Rep E w0 ok O σ tm w M) (hat:a.tmps=tm) {o:Oper} {fn:Fn} {first caps:Array Operand} (hop:o.op=.makeFunc fn first caps) {out:Out} (h:zw E σ o=some out):z18 P E w0 ok σ w M a o out:=by
 unfold zw z1h at h
 rw [hop] at h
 simp only [] at h
 split at h
 ·rename_i g
  split at h
  ·rename_i l hf hl
   have:first=#[]:=by cases first; simp at hf; subst hf; rfl
   have hrun:(execOp a.eval o).run P w=.ok (.value (.func (.func g) #[] (caps.map a.eval))) w:=by
    unfold execOp
    rw [hop,this]
    simp [Instr.makeFunc]
   cases hk:l.all SV.okCap <;> rw [hk] at h
   ·cases h
   ·cases h
    simp only [y17] at hk
    obtain ⟨e1,e2⟩:=z87 R hat hl
    obtain ⟨h1,h2⟩:=zu4 (w0:=w0) (ok:=ok) (M:=M) (σ:=σ) (l:=l) (vs:=caps.toList.map a.eval) (by simp [e1]) (fun i s v hs hv=>by
     rw [yu,y10] at hv
     obtain ⟨x,hx,rfl⟩:=hv
     obtain ⟨h3,h4⟩:=e2 i x s hx hs
     exact ⟨z17z (hk s (ym hs)) h3,h4⟩)
    exact ⟨_,w,M,hrun,Ext.pure ⟨_,⟨_,rfl,by rw [show (caps.map a.eval).toList=caps.toList.map a.eval by simp]; exact h1⟩,.inr ⟨rfl,rfl⟩⟩ ⟨h2.rows,h2.boxes⟩⟩
  ·cases h
 ·cases h
end

section
variable {P : Program} {E : Env} {w0 : World} {ok O : Nat → Prop} {σ : St} {tm : Array Value} {w : World} {M : Map} {a : Act}

theorem z2d.mid' {w:World} {ad:Addr} {p ds q:List Value} (h:z2d w ad (p++ds++q)):z2d w (ad.add p.length) ds:=by
 intro j u hu
 have hj:=(yo.1 hu).1
 have:=h (p.length+j) u (by rw [y11,y1r (by omega),show p.length+j-p.length=j by omega,y1w hj]; exact hu)
 rw [zcy]; exact this

theorem zgy:∀ {t:Ty},t.flat=true→t.sz≠0
 | .int _,_=>by simp [Ty.sz]
 | .bool,_=>by simp [Ty.sz]
 | .str,_=>by simp [Ty.sz]
 | .st t,h=>zgy (t:=t) h
 | .pr a b,h=>by simp only [Ty.flat,yh] at h; have:=zgy h.1; simp only [Ty.sz]; omega
 | .sl _ _,h=>by cases h
 | .ptr _,h=>by cases h
 | .un,h=>by cases h
 | .fn _ _,h=>by cases h
 | .fs _,h=>by cases h
theorem Rd.flat {w w':World} {ok ok':Nat→Prop}:∀ {t:Ty} {x:t.T} {cs:List Value},t.flat=true→Rd w ok t x cs→Rd w' ok' t x cs
 | .int _,_,_,_,h=>h
 | .bool,_,_,_,h=>h
 | .str,_,_,_,h=>h
 | .st t,x,cs,hf,h=>Rd.flat (t:=t) (x:=x) hf h
 | .pr a b,x,cs,hf,h=>by
  simp only [Ty.flat,yh] at hf
  obtain ⟨c1,c2,rfl,h1,h2⟩:=h
  exact ⟨c1,c2,rfl,Rd.flat hf.1 h1,Rd.flat hf.2 h2⟩
 | .sl _ _,_,_,h,_=>by cases h
 | .ptr _,_,_,h,_=>by cases h
 | .un,_,_,h,_=>by cases h
 | .fn _ _,_,_,h,_=>by cases h
 | .fs _,_,_,h,_=>by cases h

theorem zpy (T:zh P E.ti=true) {t:TypeId} {i:Nat} {p:List Bool} {f:TypeId} {c:Nat} (h:E.field t i=some (p,f,c)) (ad:Addr) (w:World) :
  (Instr.fieldAt t (.pointer (some ad)) i).run P w=.ok (.pointer (some (ad.add c))) w:=by
 obtain ⟨fields,fd,h1,h2,h3,h4,h5⟩:=zty T h
 obtain ⟨ti,e1,e2,e3⟩:=z4d T h5
 have hs:=(zb5 T e1 e3 w).2.1
 rw [e2] at hs
 rw [← h3] at hs h5
 rw [← h4]
 simp [Instr.fieldAt,run_underlying h1,h2,Instr.sureAddr,fieldPlace,hs,h5,Result.andThen]

theorem zpz:∀ {p:List Bool} {s r:SV},s.part p=some r→Live σ s→Live σ r
 | [],s,r,h,hl=>by cases h; exact hl
 | b::p,s,r,h,hl=>by
  simp only [SV.part] at h
  split at h
  ·rename_i z hz
   refine zpz h ?_
   match s,b,hz with
   | .val (.pr a c) x,false,hz=>cases hz; exact z36 _ _
   | .val (.pr a c) x,true,hz=>cases hz; exact z36 _ _
   | .val (.st (.pr a c)) x,false,hz=>cases hz; exact z36 _ _
   | .val (.st (.pr a c)) x,true,hz=>cases hz; exact z36 _ _
   | .pr a c,false,hz=>cases hz; exact ⟨fun i hi=>hl.rows i (by simp [SV.roots,hi]),fun i hi=>hl.boxes i (by simp [SV.boxes,hi])⟩
   | .pr a c,true,hz=>cases hz; exact ⟨fun i hi=>hl.rows i (by simp [SV.roots,hi]),fun i hi=>hl.boxes i (by simp [SV.boxes,hi])⟩
   | .st (.pr a c),false,hz=>cases hz; exact ⟨fun i hi=>hl.rows i (by simp [SV.roots,hi]),fun i hi=>hl.boxes i (by simp [SV.boxes,hi])⟩
   | .st (.pr a c),true,hz=>cases hz; exact ⟨fun i hi=>hl.rows i (by simp [SV.roots,hi]),fun i hi=>hl.boxes i (by simp [SV.boxes,hi])⟩
  ·cases h
theorem z181 {s:SV} (hl:Live σ s):Live σ s.inside:=by
 cases s with
 | val t x=>cases t <;> exact z36 _ _
 | st s=>exact ⟨hl.rows,hl.boxes⟩
 | _=>exact hl

theorem z182 (R:Rep E w0 ok O σ tm w M) (hat:a.tmps=tm) (T:zh P E.ti=true) {o:Oper} {t:TypeId} {x:Operand} {i:Nat} (hop:o.op=.fieldAddr t x i) {out:Out} (h:zw E σ o=some out):z18 P E w0 ok σ w M a o out:=by
 unfold zw z1h at h
 rw [hop] at h
 simp only [] at h
 have hex:∀ {v:Value},(Instr.fieldAt t (a.eval x) i).run P w=.ok v w→(execOp a.eval o).run P w=.ok (.value v) w:=by
  intro v hv
  unfold execOp
  rw [hop]
  simp only [Sem.run_bind,hv]
  rfl
 split at h
 ·rename_i p f c hf
  split at h
  ·rename_i u y hs
   split at h
   ·rename_i v z hp
    cases hb:Nat.beq ((SV.val u y).inside.offP p) c <;> rw [hb] at h
    ·cases h
    ·cases h
     have hb:=yq hb
     obtain ⟨va,hv,hr⟩:=z67 R hat hs rfl
     obtain ⟨ad,ds,he,hok,hr2,hc⟩:=hr
     cases he
     obtain ⟨q,r,ds',rfl,e1,e2⟩:=z85 (w0:=w0) (ok:=ok) (M:=M) (zto (s:=.val u y) hr2) hp
     refine z18.val (t:=.ptr v) (v:=.pointer (some (ad.add c))) ⟨_,ds',rfl,by rw [zgh]; exact hok,e2,?_⟩ rfl (hex (by rw [hv]; exact zpy T hf ad w))
     have:=hc.mid'
     rw [e1,hb] at this
     exact this
   ·cases h
  ·rename_i j q k hs
   cases h
   obtain ⟨h1,h2⟩:=z1b R hat hs
   obtain ⟨cs,h3,h4⟩:=h1
   rcases h4 with ⟨h5,_⟩ | ⟨_,rfl⟩
   ·cases h5
   ·simp only [zc,y12,y13] at h3
    refine ⟨.pointer (some ⟨M.blk j,k+c,none⟩),w,M,hex (by rw [h3,zpy T hf,z2x]),Ext.pure ⟨_,rfl,.inr ⟨rfl,rfl⟩⟩ ⟨by simp [SV.roots],h2.boxes⟩⟩
  ·rename_i j q n g k hs
   cases h
   obtain ⟨h1,h2⟩:=z1b R hat hs
   obtain ⟨cs,⟨e,t',l,b,h6,h7,h8,h9⟩,h4⟩:=h1
   rcases h4 with ⟨h5,_⟩ | ⟨_,rfl⟩
   ·cases h5
   ·simp only [y12,y13] at h9
    refine ⟨.pointer (some ⟨b,n*t'.sz+(k+c),none⟩),w,M,hex (by rw [h9,zpy T hf,z2x,y44]),Ext.pure ⟨_,⟨e,t',l,b,h6,h7,h8,rfl⟩,.inr ⟨rfl,rfl⟩⟩ ⟨h2.rows,by simp [SV.boxes]⟩⟩
  ·cases h
 ·cases h

theorem zgz {s:SV} {t:Ty} (h:s.okW t=true):s.isSt=t.isSt∧s.w=t.sz∧t.sz≠0∧s≠.un:=by
 simp only [SV.okW,yh,beq_iff_eq,y1h] at h
 exact ⟨h.2.1.1,yq h.2.1.2,z4c h.2.2,fun e=>by rw [e] at h; exact absurd h.1 (by simp [SV.isUn])⟩

theorem z183 (R:Rep E w0 ok O σ tm w M) (hat:a.tmps=tm) (T:zh P E.ti=true) {o:Oper} {t:TypeId} {x:Operand} {i:Nat} (hop:o.op=.field t x i) {out:Out} (h:zw E σ o=some out):z18 P E w0 ok σ w M a o out:=by
 unfold zw z1h at h
 rw [hop] at h
 simp only [] at h
 split at h
 ·rename_i p f c hf
  split at h
  ·rename_i s hs
   split at h
   ·rename_i r hp
    cases hb:(s.isSt&&Nat.beq (s.inside.offP p) c&&r.okW (E.tyOf f)) <;> rw [hb] at h
    ·cases h
    ·cases h
     simp only [yh] at hb
     obtain ⟨⟨b1,b2⟩,b3⟩:=hb
     have b2:=yq b2
     obtain ⟨c1,c2,c3,_⟩:=zgz b3
     obtain ⟨h1,h2⟩:=z1b R hat hs
     rcases z35 h1 with rfl | ⟨c,vs,rfl,_,_⟩ | ⟨cs,h4,h5⟩
     ·cases b1
     ·cases b1
     ·rcases h5 with ⟨_,h5⟩ | ⟨h6,_⟩
      ·obtain ⟨q,z,ds,rfl,e1,e2⟩:=z85 (zto h4) hp
       obtain ⟨fields,fd,g1,g2,g3,g4,g5⟩:=zty T hf
       obtain ⟨ti,k1,k2,k3⟩:=z4d T g5
       obtain ⟨m1,m2,_⟩:=zb5 T k1 k3 w
       rw [k2] at m1 m2
       have hl:ds.length=(E.tyOf f).sz:=by rw [zc.len e2,c2]
       have hpart:∃ v,(part fd.type (q++ds++z).toArray fd.offset).run P w=.ok v w∧z2s r v ds:=by
        rw [g3,g4]
        unfold part
        cases hst:(E.tyOf f).isSt with
        | true =>
         rw [hst] at m1 c1
         refine ⟨.agg ds.toArray,?_,.inl ⟨c1,rfl⟩⟩
         simp only [Sem.run_bind,m1,Result.andThen_ok,y7,m2,Sem.run_pure]
         congr 2
         rw [← b2,← e1,← hl]
         apply y1u
         simp
        | false =>
         rw [hst] at m1 c1
         rcases ds with _ | ⟨v,ds⟩
         ·simp at hl; exact absurd hl.symm c3
         ·have hone:r.w=1:=by
           have:(E.tyOf f).sz=1:=by
            have hsh:=(z2k T k1 k3).2
            rw [← k2] at hst ⊢
            unfold z3d at hsh
            split at hsh <;> first | (rename_i _ _ g; rw [g]; rfl) | (rename_i _ _ g; rw [g] at hst; cases hst) | cases hsh
           rw [c2,this]
          have hd:ds=[]:=by
           have:=zc.len e2
           rw [hone] at this
           simpa using this
          subst hd
          refine ⟨v,?_,.inr ⟨c1,rfl⟩⟩
          simp only [Sem.run_bind,m1,Result.andThen_ok,yc,y8]
          have:(q++[v]++z).toArray[c]?=some v:=by
           rw [← b2,← e1]; simp
          rw [this]
          rfl
       obtain ⟨v,hv,hw⟩:=hpart
       refine ⟨v,w,M,?_,Ext.pure (z1t e2 hw) (zpz hp (z181 h2))⟩
       unfold execOp
       rw [hop]
       simp only [Sem.run_bind,h5,Instr.field,run_underlying g1,Result.andThen_ok,g2,asAgg,Sem.run_pure,hv]
      ·rw [b1] at h6; cases h6
   ·cases h
  ·cases h
 ·cases h

theorem zj9 (T:zh P E.ti=true) {t:TypeId} (h:E.elemSz t≠0) (w:World):∃ e,P.underlying t=some (.slice e)∧(sizeOf e).run P w=.ok (E.elemSz t) w∧E.ti[t]?≠none:=by
 unfold Env.elemSz at h ⊢
 split at h
 ·rename_i e e' u b ht
  obtain ⟨h1,u',h2,h3⟩:=z7a T ht
  injection h2 with _ h2
  subst h2
  have hs:u.sz=(E.tyOf e).sz:=by
   rcases h3 with rfl | rfl
   ·rfl
   ·exact z79 _
  rw [ht]
  obtain ⟨ti,k1,k2,k3⟩:=z4d T (t:=e) (by rw [← hs]; exact h)
  have:=(zb5 T k1 k3 w).2.1
  rw [k2,← hs] at this
  exact ⟨e,h1,this,by simp⟩
 ·exact absurd rfl h

theorem zh0 (T:zh P E.ti=true) {t:TypeId} (hz:E.elemSz t≠0) {ad:Addr} {n c:Nat} {k:IntKind} {i:Int} (h0:0≤i) (h1:i<n) (w:World) :
  (Instr.indexAt t (.slice (some ad) n c) (.int k i)).run P w=.ok (.pointer (some (ad.add (i.toNat*E.elemSz t)))) w:=by
 obtain ⟨e,h2,h3,_⟩:=zj9 T hz w
 simp [Instr.indexAt,asIntOf,run_underlying h2,h0,h1,h3,Result.andThen]

theorem z184 (R:Rep E w0 ok O σ tm w M) {d i:Nat} {p:List Step} {cs:List Value} {v:SVal} (h:res E σ d (.ref i p)=some v) (hs:zc w0 ok M (.ref i p) cs) :
  ∃ e t l,zy (M.loc i).1 (M.loc i).2 p=some ⟨.sl e t,l⟩∧v=⟨.sl e t,erase (.sl e t) l⟩∧holds (Rd w0 ok) w (.sl e t) l∧cs=za (.sl e t) l:=by
 cases d with
 | zero=>cases h
 | succ d =>
  unfold res at h
  simp only [zo] at h
  split at h
  ·rename_i r hr
   obtain ⟨l,hl,he,hh,hn,_⟩:=R.rows i r hr
   obtain ⟨e,t,l',h1,rfl⟩:=hs
   have h1':=h1
   rw [hl] at h1
   rw [← he] at h
   have h2:=z4a (.sl r.e r.t) l p
   rw [h1] at h2
   have h3:sub (.sl r.e r.t) (erase (.sl r.e r.t) l) p=some v:=h
   rw [h3] at h2
   cases h2
   exact ⟨e,t,l',h1',rfl,(subL_holds h1 hh).1,rfl⟩
  ·cases h

theorem zh1 {F:Frz} {w:World} {e:TypeId} {t:Ty} {l:L (.sl e t)} (h:holds F w (.sl e t) l) {n:Nat} (hn:n<l.2.2.length):∃ g,l.1=some g:=by
 have h1:=h.1
 cases hx:l.1 with
 | none=>rw [hx] at h1; rw [h1.1] at hn; simp at hn
 | some g=>exact ⟨g,rfl⟩

theorem z9n {n m:Nat} (h:(Nat.beq n m&&!Nat.beq n 0)=true):n=m∧m≠0:=by
 simp only [yh,y1h] at h
 have e:=yq h.1
 exact ⟨e,by rw [← e]; exact z4c h.2⟩

theorem z185 (R:Rep E w0 ok O σ tm w M) (hat:a.tmps=tm) (T:zh P E.ti=true) {o:Oper} {xt:TypeId} {x y:Operand} (hop:o.op=.indexAddr xt x y) {out:Out} (h:zw E σ o=some out):z18 P E w0 ok σ w M a o out:=by
 unfold zw z1h at h
 rw [hop] at h
 simp only [] at h
 have hex:∀ {v:Value},(Instr.indexAt xt (a.eval x) (a.eval y)).run P w=.ok v w→(execOp a.eval o).run P w=.ok (.value v) w:=by
  intro v hv
  unfold execOp
  rw [hop]
  simp only [Sem.run_bind,hv]
  rfl
 split at h
 ·rename_i s k n hs hy
  have hn:=z9l R hat hy
  split at h
  ·rename_i e u xs
   cases hz:(Nat.beq u.sz (E.elemSz xt)&&!Nat.beq u.sz 0) <;> rw [hz] at h
   ·cases h
   ·obtain ⟨z1,z2⟩:=z9n hz
    simp only [yi] at h
    split at h
    ·rename_i h0
     obtain ⟨z,hx,h⟩:=yk.1 h
     cases h
     obtain ⟨v,hv,hr⟩:=z67 R hat hs rfl
     obtain ⟨A,c,hA,hl,hc⟩:=hr
     cases hA
     have hlt:=(yo.1 hx).1
     obtain ⟨ad,rfl,hok,hcell⟩:=hc (by intro e; rw [e] at hlt; simp at hlt)
     obtain ⟨ds,hd,hcc⟩:=hcell n.toNat z hx
     refine z18.val (t:=.ptr u) (v:=.pointer (some (ad.add (n.toNat*u.sz)))) ⟨_,ds,rfl,by rw [zgh]; exact hok,hd,hcc⟩ rfl (hex ?_)
     rw [hv,hn,z1]
     exact zh0 T z2 h0 (by omega) w
    ·cases h
  ·rename_i j p
   rw [z17] at h
   obtain ⟨v,hv,h⟩:=yk.1 h
   obtain ⟨h1,h2⟩:=z1b R hat hs
   obtain ⟨cs,h3,h4⟩:=h1
   obtain ⟨e,t,l,h5,rfl,h6,rfl⟩:=z184 R hv h3
   simp only [] at h
   cases hz:(Nat.beq t.sz (E.elemSz xt)&&!Nat.beq t.sz 0) <;> rw [hz] at h
   ·cases h
   ·obtain ⟨z1,z2⟩:=z9n hz
    simp only [yi] at h
    split at h
    ·rename_i hb
     cases h
     have hlt:n.toNat<l.2.2.length:=by have:=hb.2; simpa [erase] using this
     obtain ⟨g,hg⟩:=zh1 h6 hlt
     rcases h4 with ⟨h7,_⟩ | ⟨_,h7⟩
     ·cases h7
     ·simp only [za,y12,y13] at h7
      rw [hg] at h7
      refine ⟨.pointer (some ⟨g,n.toNat*t.sz+0,none⟩),w,M,hex ?_,Ext.pure ⟨_,⟨e,t,l,g,h5,hg,hlt,rfl⟩,.inr ⟨rfl,rfl⟩⟩ ⟨h2.rows,by simp [SV.boxes]⟩⟩
      rw [← h7,hn]
      have:=zh0 T z2 (ad:=⟨g,0,none⟩) (c:=l.2.1) (k:=k) hb.1 ((y55 hb.1).1 hlt) w
      rw [z2x] at this
      rw [z1,y2o]
      simpa using this
    ·cases h
  ·rename_i j lo m
   split at h
   ·rename_i r hr
    cases hz:(Nat.beq r.t.sz (E.elemSz xt)&&!Nat.beq r.t.sz 0) <;> rw [hz] at h
    ·cases h
    ·obtain ⟨z1,z2⟩:=z9n hz
     simp only [yi] at h
     split at h
     ·rename_i hb
      cases h
      obtain ⟨h1,h2⟩:=z1b R hat hs
      obtain ⟨cs,⟨e,t,l,h5,h6,A,c,rfl,hc,hA⟩,h4⟩:=h1
      obtain ⟨l',hl,he,hh,hnd,_⟩:=R.rows j r hr
      rw [hl] at h5
      cases h5
      have hlt:lo+n.toNat<l'.2.2.length:=by omega
      obtain ⟨g,hg⟩:=zh1 hh hlt
      have hA':=hA (.inl (by omega))
      rw [hg] at hA'
      subst hA'
      rcases h4 with ⟨h7,_⟩ | ⟨_,h7⟩
      ·cases h7
      ·simp only [y12,y13] at h7
       refine ⟨.pointer (some ⟨g,(lo+n.toNat)*r.t.sz+0,none⟩),w,M,hex ?_,Ext.pure ⟨_,⟨r.e,r.t,l',g,by rw [hl]; rfl,hg,hlt,rfl⟩,.inr ⟨rfl,rfl⟩⟩ ⟨h2.rows,by simp [SV.boxes]⟩⟩
       rw [← h7,hn]
       have:=zh0 T z2 (ad:=⟨g,lo*r.t.sz,none⟩) (c:=c) (k:=k) hb.1 ((y55 hb.1).1 hb.2) w
       rw [z2x,← z1,← y1i] at this
       rw [y2o]
       simpa using this
     ·cases h
   ·cases h
  ·rename_i j
   split at h
   ·rename_i b hb'
    cases hz:(Nat.beq (E.tyOf b.ty).sz (E.elemSz xt)&&(!Nat.beq (E.elemSz xt) 0&&b.c.isCh)) <;> rw [hz] at h
    ·cases h
    ·simp only [yh,y1h] at hz
     have z1:=yq hz.1
     have z2:=z4c hz.2.1
     simp only [yi] at h
     split at h
     ·rename_i hb
      cases h
      obtain ⟨h1,h2⟩:=z1b R hat hs
      obtain ⟨cs,h3,h4⟩:=h1
      simp only [zc] at h3
      subst h3
      obtain ⟨cs',g1,g2,g3⟩:=R.boxes j b hb'
      obtain ⟨g4,g5,_⟩:=g3 hz.2.2
      rcases h4 with ⟨h7,_⟩ | ⟨_,h7⟩
      ·cases h7
      ·simp only [y12,y13] at h7
       refine ⟨.pointer (some ⟨M.blk j,n.toNat*M.bw j,none⟩),w,M,hex ?_,Ext.pure ⟨_,⟨by rw [g4]; exact hb.2,rfl⟩,.inr ⟨rfl,rfl⟩⟩ ⟨by simp [SV.roots],h2.boxes⟩⟩
       rw [← h7,hn]
       have:=zh0 T z2 (ad:=⟨M.blk j,0,none⟩) (c:=M.bn j) (n:=M.bn j) (k:=k) hb.1 (by rw [g4]; omega) w
       rw [z2x,← z1,← g5] at this
       simpa using this
     ·cases h
   ·cases h
  ·cases h
 ·cases h

theorem z186 (R:Rep E w0 ok O σ tm w M) (hat:a.tmps=tm) (T:zh P E.ti=true) {o:Oper} {xt:TypeId} {x y:Operand} (hop:o.op=.index xt x y) {out:Out} (h:zw E σ o=some out):z18 P E w0 ok σ w M a o out:=by
 unfold zw z1h at h
 rw [hop] at h
 simp only [] at h
 cases hz:E.isStr xt <;> rw [hz] at h
 ·cases h
 simp only [y14,yn] at h
 have hstr:P.underlying xt=some .string:=by
  unfold Env.isStr at hz
  split at hz
  ·rename_i ht; exact (zb4 T ht).1
  ·cases hz
 split at h
 ·rename_i s k n hs hy
  have hn:=z9l R hat hy
  have hv:=zj8 R hat hs
  split at h
  ·rename_i h0
   obtain ⟨b,hx,h⟩:=yk.1 h
   cases h
   refine z18.val (t:=.int .u8) (v:=.int .u8 b.toNat) rfl rfl ?_
   unfold execOp
   rw [hop]
   have hlt:=(yo.1 hx).1
   have hsz:(⟨s.toArray⟩:ByteArray).size=s.length:=rfl
   have hb:(⟨s.toArray⟩:ByteArray)[n.toNat]?=some b:=by
    rw [ByteArray.getElem?_lt' _ _ (by rw [hsz]; exact hlt)]
    obtain ⟨h1,h2⟩:=yo.1 hx
    rw [← h2]
    rfl
   simp only [hv,hn,Instr.index,asIntOf,Sem.run_bind,Sem.run_pure,Result.andThen_ok,run_underlying hstr,y4 h0,hb]
  ·cases h
 ·cases h
end

section
variable {P : Program} {E : Env} {w0 : World} {ok O : Nat → Prop} {σ : St} {tm : Array Value} {w : World} {M : Map} {a : Act}

theorem zu5 (T:zh P E.ti=true) {t:TypeId} (h:(E.tyOf t).sz≠0) (hs:(E.tyOf t).isSt=false):(E.tyOf t).sz=1:=by
 obtain ⟨ti,k1,k2,k3⟩:=z4d T h
 have hsh:=(z2k T k1 k3).2
 rw [← k2] at hs ⊢
 unfold z3d at hsh
 split at hsh <;> first | (rename_i _ _ g; rw [g]; rfl) | (rename_i _ _ g; rw [g] at hs; cases hs) | cases hsh

theorem zdq (T:zh P E.ti=true) {t:TypeId} {s:SV} {ds:List Value} {ad:Addr} (hr:zc w0 ok M s ds) (hk:s.isSt=(E.tyOf t).isSt) (hl:ds.length=(E.tyOf t).sz) (h0:(E.tyOf t).sz≠0) (hc:z2d w ad ds) :
  ∃ v,(loadVar t ad).run P w=.ok v w∧z2s s v ds:=by
 cases hst:(E.tyOf t).isSt with
 | true=>exact ⟨.agg ds.toArray,ztx T h0 hc hl (.inl ⟨hst,rfl⟩),.inl ⟨by rw [hk,hst],rfl⟩⟩
 | false =>
  have h1:=zu5 T h0 hst
  rw [h1] at hl
  match ds,hl with
  | [v],_=>exact ⟨v,ztx T h0 hc (by rw [h1]; rfl) (.inr ⟨hst,rfl⟩),.inr ⟨by rw [hk,hst],rfl⟩⟩

theorem z7b (t:Ty) (x:t.T):(SV.val t x).isSt=t.isSt:=by cases t <;> rfl

theorem zja {want u:Ty} {x:u.T} {v:SVal} (h:zj2 want u x=some v):(u=want∧v=⟨u,x⟩)∨(u=.st want∧∃ h:u.T=want.T,v=⟨want,cast h x⟩):=by
 unfold zj2 z7y at h
 split at h
 ·rename_i e; cases h; exact .inl ⟨e,rfl⟩
 ·split at h
  ·split at h
   ·rename_i e; cases h; subst e; exact .inr ⟨rfl,rfl,rfl⟩
   ·cases h
  ·cases h

theorem z187:∀ (t:Ty) (x:t.T) (i:Nat) (p:List Step),(z2n t x i p).isSt=t.isSt
 | .sl _ _,_,_,_=>rfl
 | .st t,x,i,p=>by simp only [z2n]; cases t.flat <;> rfl
 | .pr _ _,_,_,_=>rfl
 | .int _,_,_,_=>rfl
 | .bool,_,_,_=>rfl
 | .str,_,_,_=>rfl
 | .ptr _,_,_,_=>rfl
 | .un,_,_,_=>rfl
 | .fn _ _,_,_,_=>rfl
 | .fs _,_,_,_=>rfl
 | .rd _,_,_,_=>rfl
theorem zjb:∀ (t:Ty) (x:t.T) (i:Nat) (p:List Step),(∀ j∈(z2n t x i p).roots,j=i)∧(z2n t x i p).boxes=[]
 | .sl _ _,_,_,_=>⟨by simp [z2n,SV.roots],rfl⟩
 | .st t,x,i,p=>by
  simp only [z2n]
  cases t.flat
  ·exact zjb t x i (p++[.u])
  ·exact ⟨by simp [SV.roots],rfl⟩
 | .pr a b,x,i,p=>by
  obtain ⟨h1,h2⟩:=zjb a x.1 i (p++[.f false])
  obtain ⟨h3,h4⟩:=zjb b x.2 i (p++[.f true])
  refine ⟨fun j hj=>?_,by simp [z2n,SV.boxes,h2,h4]⟩
  simp only [z2n,SV.roots,yd] at hj
  rcases hj with hj | hj
  ·exact h1 j hj
  ·exact h3 j hj
 | .int _,_,_,_=>⟨by simp [z2n,SV.roots],rfl⟩
 | .bool,_,_,_=>⟨by simp [z2n,SV.roots],rfl⟩
 | .str,_,_,_=>⟨by simp [z2n,SV.roots],rfl⟩
 | .ptr _,_,_,_=>⟨by simp [z2n,SV.roots],rfl⟩
 | .un,_,_,_=>⟨by simp [z2n,SV.roots],rfl⟩
 | .fn _ _,_,_,_=>⟨by simp [z2n,SV.roots],rfl⟩
 | .fs _,_,_,_=>⟨by simp [z2n,SV.roots],rfl⟩
 | .rd _,_,_,_=>⟨by simp [z2n,SV.roots],rfl⟩

theorem zh2 {w w':World} {ok:Nat→Prop}:∀ {t:Ty} (l:L t),t.flat=true→Rd w' ok t (erase t l) (za t l)
 | .int _,_,_=>rfl
 | .bool,_,_=>rfl
 | .str,_,_=>rfl
 | .st t,l,h=>zh2 (w:=w) (t:=t) l h
 | .pr a b,l,h=>by
  simp only [Ty.flat,yh] at h
  exact ⟨_,_,rfl,zh2 (w:=w) l.1 h.1,zh2 (w:=w) l.2 h.2⟩
 | .sl _ _,_,h=>by cases h

theorem zh3 {i:Nat}:∀ (t:Ty) (l:L t) (p:List Step),holds (Rd w0 ok) w t l→zy (M.loc i).1 (M.loc i).2 p=some ⟨t,l⟩→zc w0 ok M (z2n t (erase t l) i p) (za t l)
 | .sl e t,l,p,_,h=>⟨e,t,l,h,rfl⟩
 | .st t,l,p,hh,h=>by
  simp only [z2n]
  cases hf:t.flat
  ·have h2:zy (M.loc i).1 (M.loc i).2 (p++[.u])=some ⟨t,l⟩:=by
    rw [z6n,h]
    exact z2z t l
   exact zh3 t l (p++[.u]) hh h2
  ·exact zh2 (w:=w0) (t:=t) l hf
 | .pr a b,l,p,hh,h=>by
  have h1:zy (M.loc i).1 (M.loc i).2 (p++[.f false])=some ⟨a,l.1⟩:=by
   rw [z6n,h]
   exact z2z a l.1
  have h2:zy (M.loc i).1 (M.loc i).2 (p++[.f true])=some ⟨b,l.2⟩:=by
   rw [z6n,h]
   exact z2z b l.2
  exact ⟨_,_,rfl,zh3 a l.1 _ hh.1 h1,zh3 b l.2 _ hh.2 h2⟩
 | .int _,l,p,_,h=>rfl
 | .bool,l,p,_,h=>rfl
 | .str,l,p,_,h=>rfl
 | .un,l,p,_,h=>rfl
 | .rd _,l,p,hh,h=>hh

theorem z188 {R:Type} {rc:SV→((u:Ty)→u.T→Option R)→Option R} {t:Ty} {s:SV} {k:List t.T→Option R} {r:R} (h:lsC rc t s k=some r):s.isCh=true:=by
 cases s <;> first | rfl | cases h

theorem z189 (R:Rep E w0 ok O σ tm w M) {d j:Nat} {e:TypeId} {u:Ty} {xs:(Ty.sl e u).T} (hv:res E σ d (.ls j)=some ⟨.sl e u,xs⟩):M.bw j=u.sz:=by
 cases d with
 | zero=>cases hv
 | succ d =>
  unfold res at hv
  simp only [zo] at hv
  split at hv
  ·rename_i b hb
   obtain ⟨cs',g1,g2,g3⟩:=R.boxes j b hb
   have hch:=z188 hv
   have hv2:=(zb3 (fun s k=>zo E σ d s k) (fun s k=>z17 E σ d s k) (E.tyOf b.ty) b.c (fun xs=>some (SVal.mk (.sl b.ty (E.tyOf b.ty)) xs))).symm.trans hv
   obtain ⟨zs,hzs,hzz⟩:=yk.1 hv2
   cases hzz
   exact (g3 hch).2.1
  ·cases hv

theorem z18a (R:Rep E w0 ok O σ tm w M) (hat:a.tmps=tm) (T:zh P E.ti=true) {o:Oper} {t:TypeId} {x:Operand} (hop:o.op=.load t x) {out:Out} (h:zw E σ o=some out):z18 P E w0 ok σ w M a o out:=by
 unfold zw z1h at h
 rw [hop] at h
 simp only [] at h
 have hz:Nat.beq (E.tyOf t).sz 0=false:=by
  cases hz:Nat.beq (E.tyOf t).sz 0 with
  | false=>rfl
  | true=>rw [hz] at h; cases h
 have h0:=z4c hz
 rw [hz] at h
 simp only [yn] at h
 have hex:∀ {ad:Addr} {v:Value},a.eval x=.pointer (some ad)→(loadVar t ad).run P w=.ok v w→(execOp a.eval o).run P w=.ok (.value v) w:=by
  intro ad v hv hl
  unfold execOp
  rw [hop]
  simp only [hv,Instr.loadAt,Instr.sureAddr,Sem.run_bind,Sem.run_pure,Result.andThen_ok,hl]
 split at h
 ·rename_i u y hs
  rw [zgq] at h
  obtain ⟨v,hv,h⟩:=yk.1 h
  cases h
  obtain ⟨va,he,hr⟩:=z67 R hat hs rfl
  have hr':=R.rd hr
  obtain ⟨ad,ds,hp,hok,hrd,hc⟩:=hr'
  obtain ⟨ad',ds',hp',_,hrd0,hc0⟩:=hr
  rw [hp] at hp'
  cases hp'
  have hlen:=Rd.len hrd0
  have hc1:z2d w ad ds':=hc0.move (R.ok_kept hok)
  cases hp
  have hrep:zc w0 ok M (.val v.t v.x) ds'∧v.t=(E.tyOf t).strip:=by
   rcases zja hv with ⟨e,rfl⟩ | ⟨e,e2,rfl⟩
   ·exact ⟨hrd0,e⟩
   ·subst e
    exact ⟨hrd0,rfl⟩
  obtain ⟨hrep,hty⟩:=hrep
  obtain ⟨q,hq,hw⟩:=zdq T hrep (by rw [z7b,hty,zpu (zpt T t)]) (by rw [zc.len hrep]; show v.t.sz=_; rw [hty,z79]) h0 hc1
  exact ⟨q,w,M,hex he hq,Ext.pure (z1t hrep hw) (z36 _ _)⟩
 ·rename_i j q c hs
  split at h
  ·rename_i b hb
   split at h
   ·rename_i s hp
    cases hk:(Nat.beq (b.c.offP q) c&&(s.fit (E.tyOf t)).okW (E.tyOf t)) <;> rw [hk] at h
    ·cases h
    ·cases h
     simp only [yh] at hk
     obtain ⟨k1,k2⟩:=hk
     have k1:=yq k1
     obtain ⟨k3,k4,k5,_⟩:=zgz k2
     obtain ⟨cs',g1,g2,g3⟩:=R.boxes j b hb
     obtain ⟨h1,h2⟩:=z1b R hat hs
     obtain ⟨cs,h3,h4⟩:=h1
     simp only [zc] at h3
     subst h3
     have hv:a.eval x=.pointer (some ⟨M.blk j,c,none⟩):=by
      rcases h4 with ⟨h5,_⟩ | ⟨_,h5⟩
      ·cases h5
      ·simp only [y12,y13] at h5; exact h5.symm
     have hnc:b.c.isCh=false:=by
      cases hc:b.c with
      | nl =>
       rw [hc] at hp
       cases q with
       | nil=>cases hp; exact absurd k4.symm k5
       | cons x y=>cases hp
      | cns x y =>
       rw [hc] at hp
       cases q with
       | nil=>cases hp; exact absurd k4.symm k5
       | cons x y=>cases hp
      | _=>rfl
     obtain ⟨p1,p2,ds,rfl,e1,e2⟩:=z85 (zgv g1 hnc) hp
     have hf:=zpq (t:=E.tyOf t) e2
     have hcell:=(zdi g2).mid
     rw [e1,k1,y18] at hcell
     obtain ⟨q,hq,hw⟩:=zdq T hf k3 (by rw [zc.len hf,k4]) h0 hcell
     refine ⟨q,w,M,hex hv hq,Ext.pure (z1t hf hw) ?_⟩
     have hl:=zpz hp (R.liveB j b hb)
     have key:∀ s:SV,Live σ s→Live σ (s.fit (E.tyOf t)):=by
      intro s hl
      induction s with
      | val u x=>cases u <;> simp only [SV.fit] <;> first | exact z36 _ _ | (cases (E.tyOf t).isSt <;> exact z36 _ _)
      | st s ih =>
       simp only [SV.fit]
       cases (E.tyOf t).isSt
       ·exact ih ⟨hl.rows,hl.boxes⟩
       ·exact hl
      | _=>exact hl
     exact key s hl
   ·cases h
  ·cases h
 ·rename_i j q n f c hs
  split at h
  ·rename_i r hr
   rw [z2r] at h
   obtain ⟨⟨t1,x1⟩,hu,h⟩:=yk.1 h
   simp only [] at h
   split at h
   ·-- an element that is only read
    rename_i t1 x1
    split at h
    ·rename_i v0 y0 hp
     cases ho:Nat.beq ((SV.val t1 x1).offP f) c <;> rw [ho] at h
     ·cases h
     ·simp only [yi] at h
      rw [zgq] at h
      obtain ⟨v,hv,h⟩:=yk.1 h
      cases h
      have ho:=yq ho
      obtain ⟨l,hl,he,hh,hn,_⟩:=R.rows j r hr
      obtain ⟨h1,h2⟩:=z1b R hat hs
      obtain ⟨cs,⟨e,t',l',g,h5,hg,hlt,rfl⟩,h4⟩:=h1
      have hv':a.eval x=.pointer (some ⟨g,n*t'.sz+c,none⟩):=by
       rcases h4 with ⟨h6,_⟩ | ⟨_,h6⟩
       ·cases h6
       ·simp only [y12,y13] at h6; exact h6.symm
      rw [hl] at h5
      rw [← he] at hu
      have hy:l'.2.2[n]?=some l'.2.2[n]:=yj hlt
      rw [z4a,zdk h5,hy,y6,z2z] at hu
      obtain ⟨h6,h7⟩:=subL_holds h5 hh
      have hcell:=zdj h6 hg hy
      have hel:=h6.2 _ (y1l hlt)
      simp only [y20,zgs,y37] at hu
      generalize l'.2.2[n]=y at hu hcell hel
      injection hu with hu1 hu2
      subst hu1
      have hu2:=eq_of_heq hu2
      subst hu2
      obtain ⟨pa,pc,ds,e1,e2,e3⟩:=z85 (M:=M) (s:=.val t1 y.1.1) hel hp
      have e1:za (.rd t1) y=pa++ds++pc:=e1
      rw [e1] at hcell
      have hcell:=hcell.mid
      have ho:(SV.val t1 y.1.1).offP f=c:=ho
      rw [e2,ho] at hcell
      have hrep:zc w0 ok M (.val v.t v.x) ds∧v.t=(E.tyOf t).strip:=by
       rcases zja hv with ⟨e,rfl⟩ | ⟨e,e2,rfl⟩
       ·exact ⟨e3,e⟩
       ·subst e
        exact ⟨e3,rfl⟩
      obtain ⟨hrep,hty⟩:=hrep
      obtain ⟨q',hq,hw⟩:=zdq T hrep (by rw [z7b,hty,zpu (zpt T t)]) (by rw [zc.len hrep]; show v.t.sz=_; rw [hty,z79]) h0 hcell
      exact ⟨q',w,M,hex hv' hq,Ext.pure (z1t hrep hw) (z36 _ _)⟩
    ·cases h
   rename_i hnrd
   cases ho:Nat.beq (t1.offP f) c <;> simp only [ho,yi,yn] at h
   ·cases h
   ·rw [z2r] at h
    obtain ⟨⟨t2,x2⟩,hz2,h⟩:=yk.1 h
    rw [zgq] at h
    obtain ⟨v,hv,h⟩:=yk.1 h
    cases h
    have ho:=yq ho
    obtain ⟨l,hl,he,hh,hn,_⟩:=R.rows j r hr
    obtain ⟨h1,h2⟩:=z1b R hat hs
    obtain ⟨cs,⟨e,t',l',g,h5,hg,hlt,rfl⟩,h4⟩:=h1
    have hv':a.eval x=.pointer (some ⟨g,n*t'.sz+c,none⟩):=by
     rcases h4 with ⟨h6,_⟩ | ⟨_,h6⟩
     ·cases h6
     ·simp only [y12,y13] at h6; exact h6.symm
    have h5':=h5
    rw [hl] at h5
    rw [← he] at hu
    have hy:l'.2.2[n]?=some l'.2.2[n]:=yj hlt
    rw [z4a,zdk h5,hy,y6,z2z] at hu
    cases hu
    have hz':sub t' (erase t' l'.2.2[n]) (f.map z3n)=some ⟨t2,x2⟩:=hz2
    rw [z4a] at hz'
    obtain ⟨qq,hq,hqe⟩:=y10.1 hz'
    obtain ⟨qt,ql⟩:=qq
    cases hqe
    obtain ⟨h6,h7⟩:=subL_holds h5 hh
    obtain ⟨pa,pc,e1,e2⟩:=zgu t' _ f _ hq
    have hcell:=zdj h6 hg hy
    rw [e1] at hcell
    have hcell:=hcell.mid
    rw [e2,show t'.offP f=c from ho] at hcell
    have hpath:zy (M.loc j).1 (M.loc j).2 (q++.ix n::(f.map z3n))=some ⟨qt,ql⟩:=by
     rw [zdk h5',hy]; exact hq
    have hall:zc w0 ok M (z2n v.t v.x j (q++.ix n::(f.map z3n++(if qt=E.tyOf t then [] else [.u])))) (za qt ql)∧v.t=E.tyOf t:=by
     rcases zja hv with ⟨e,rfl⟩ | ⟨e,e3,rfl⟩
     ·refine ⟨?_,e⟩
      rw [y4 e,y1t]
      exact zh3 _ _ _ (subL_holds (by rw [hl] at hpath; exact hpath) hh).1 hpath
     ·have hne:qt≠E.tyOf t:=by
       intro e4
       have e:qt=.st (E.tyOf t):=e
       rw [e] at e4
       have:∀ u:Ty,Ty.st u≠u:=fun u h=>by have:=congrArg SizeOf.sizeOf h; simp at this
       exact this _ e4
      rw [y5 hne]
      have e:qt=.st (E.tyOf t):=e
      subst e
      refine ⟨?_,rfl⟩
      have:zy (M.loc j).1 (M.loc j).2 (q++.ix n::(f.map z3n++[.u]))=some ⟨E.tyOf t,ql⟩:=by
       rw [show q++.ix n::(f.map z3n++[.u])=(q++.ix n::(f.map z3n))++[.u] by simp,z6n,hpath]
       exact z2z (E.tyOf t) ql
      exact zh3 _ _ _ (subL_holds (by rw [hl] at this; exact this) hh).1 this
    obtain ⟨hrep,hty⟩:=hall
    have hlen:(za qt ql).length=(E.tyOf t).sz:=by
     rw [z1y]
     rcases zja hv with ⟨e,rfl⟩ | ⟨e,e3,rfl⟩
     ·rw [← hty]
     ·have e:qt=.st (E.tyOf t):=e
      rw [e]; rfl
    obtain ⟨z,hz3,hw⟩:=zdq T hrep (by rw [z187,hty]) hlen h0 hcell
    obtain ⟨m1,m2⟩:=zjb v.t v.x j (q++.ix n::(f.map z3n++(if qt=E.tyOf t then [] else [.u])))
    exact ⟨z,w,M,hex hv' hz3,Ext.pure (z1t hrep hw) ⟨fun i hi=>⟨r,by rw [m1 i hi]; exact hr⟩,by rw [m2]; simp⟩⟩
  ·cases h
 ·rename_i j n hs
  rw [z17] at h
  obtain ⟨⟨t1,x1⟩,hv,h⟩:=yk.1 h
  simp only [] at h
  split at h
  ·rename_i e u xs
   split at h
   ·rename_i hcond
    obtain ⟨hwant,hfl⟩:=hcond
    obtain ⟨y,hy,h⟩:=yk.1 h
    cases h
    obtain ⟨h1,h2⟩:=z1b R hat hs
    obtain ⟨cs,⟨hlt,h3⟩,h4⟩:=h1
    have hv':a.eval x=.pointer (some ⟨M.blk j,n*M.bw j,none⟩):=by
     rcases h4 with ⟨h5,_⟩ | ⟨_,h5⟩
     ·cases h5
     ·rw [h3] at h5
      simp only [y12,y13] at h5; exact h5.symm
    have hrd:=z86 R depth (.ls j) ⟨.sl e u,xs⟩ [.slice (some ⟨M.blk j,0,none⟩) (M.bn j) (M.bn j)] hv rfl
    obtain ⟨A,cc,hA,hl,hx⟩:=hrd
    simp only [y12,Value.slice.injEq,y13] at hA
    obtain ⟨hA1,hA2,hA3⟩:=hA
    have hne:xs≠[]:=by intro e; rw [e] at hy; simp at hy
    obtain ⟨ad,had,_,hcell⟩:=hx hne
    rw [had] at hA1
    cases hA1
    obtain ⟨ds,hd,hcc⟩:=hcell n y hy
    have hbw:M.bw j=u.sz:=z189 R hv
    rw [z2x,y18,← hbw] at hcc
    have hrep:zc w0 ok M (.val u y) ds:=Rd.flat hfl hd
    have hlen:ds.length=(E.tyOf t).sz:=by rw [Rd.len hd,hwant]
    obtain ⟨z,hz3,hw⟩:=zdq T hrep (by rw [z7b,hwant]) hlen h0 hcc
    exact ⟨z,w,M,hex hv' hz3,Ext.pure (z1t hrep hw) (z36 _ _)⟩
   ·cases h
  ·cases h
 ·cases h

def Bd (v:Option Value) (d n:Int):Prop:=(v=none∧n=d)∨∃ k,v=some (.int k n)
theorem z6p (R:Rep E w0 ok O σ tm w M) (hat:a.tmps=tm) {x:Option Operand} {d n:Int} (h:zj3 E σ x d=some n):Bd (x.map a.eval) d n:=by
 unfold zj3 z34 at h
 split at h
 ·cases h; exact .inl ⟨rfl,rfl⟩
 ·rename_i y
  split at h
  ·rename_i k m hm
   cases h
   exact .inr ⟨k,by rw [y20,z9l R hat hm]⟩
  ·cases h
theorem zu6 {b:Bool} {len cap:Nat} {lo hi:Option Value} {l h:Int} (hl:Bd lo 0 l) (hh:Bd hi len h) (h0:0≤l) (h1:l≤h) (hhc:h≤(cap:Int)) :
  (Instr.sliceBounds b len cap lo hi none).run P w=.ok (l.toNat,h.toNat,cap) w:=by
 have hlt:l≤(h.toNat:Int):=by omega
 have hh0:0≤h:=by omega
 rcases hl with ⟨rfl,rfl⟩ | ⟨k,rfl⟩ <;> rcases hh with ⟨rfl,rfl⟩ | ⟨k',rfl⟩
 ·simp [Instr.sliceBounds]
 ·simp [Instr.sliceBounds,run_sliceBound _ _ _ _ _ hh0 hhc,Result.andThen]
 ·have:l≤(len:Int):=by omega
  simp [Instr.sliceBounds,run_sliceBound _ _ _ _ _ h0 this,Result.andThen]
 ·simp only [Instr.sliceBounds,Sem.run_bind,Sem.run_pure,Result.andThen_ok,run_sliceBound _ _ _ _ _ hh0 hhc,run_sliceBound _ _ _ _ _ h0 hlt]

theorem zu7 {b:Bool} {len cap:Nat} {lo hi:Option Value} {l h:Int} (hl:Bd lo 0 l) (hh:Bd hi len h) (h0:0≤l) (h1:l≤h) (h2:h≤len) (h3:len≤cap) :
  (Instr.sliceBounds b len cap lo hi none).run P w=.ok (l.toNat,h.toNat,cap) w:=zu6 hl hh h0 h1 (by omega)

theorem z18b (T:zh P E.ti=true) {t:TypeId} (hz:E.elemSz t≠0) {A:Option Addr} {len cap:Nat} {lo hi:Option Value} {l h:Int} (hl:Bd lo 0 l) (hh:Bd hi len h) (h0:0≤l) (h1:l≤h) (h2:h≤(cap:Int)) :
  (Instr.sliceAt t (.slice A len cap) lo hi none).run P w=.ok (.slice (if cap=l.toNat then A else A.map (·.add (l.toNat*E.elemSz t))) (h.toNat-l.toNat) (cap-l.toNat)) w:=by
 obtain ⟨e,e1,e2,_⟩:=zj9 T hz w
 simp only [Instr.sliceAt,Instr.slice,Sem.run_bind,run_underlying e1,Result.andThen_ok,zu6 hl hh h0 h1 h2,e2]
 rfl

theorem zu8 (T:zh P E.ti=true) {t:TypeId} (hz:E.elemSz t≠0) {A:Option Addr} {len cap:Nat} {lo hi:Option Value} {l h:Int} (hl:Bd lo 0 l) (hh:Bd hi len h) (h0:0≤l) (h1:l≤h) (h2:h≤len) (h3:len≤cap) :
  (Instr.sliceAt t (.slice A len cap) lo hi none).run P w=.ok (.slice (if cap=l.toNat then A else A.map (·.add (l.toNat*E.elemSz t))) (h.toNat-l.toNat) (cap-l.toNat)) w:=by
 obtain ⟨e,e1,e2,_⟩:=zj9 T hz w
 simp only [Instr.sliceAt,Instr.slice,Sem.run_bind,run_underlying e1,Result.andThen_ok,zu7 hl hh h0 h1 h2 h3,e2]
 rfl

theorem z18c (R:Rep E w0 ok O σ tm w M) (hat:a.tmps=tm) (T:zh P E.ti=true) {o:Oper} {t:TypeId} {x:Operand} {lo hi mx:Option Operand} (hop:o.op=.slice t x lo hi mx) {out:Out} (h:zw E σ o=some out):z18 P E w0 ok σ w M a o out:=by
 unfold zw z1h at h
 rw [hop] at h
 simp only [] at h
 cases hm:mx with
 | some mv =>
  rw [hm] at h
  simp only [Option.isSome_some,yi] at h
  split at h
  ·rename_i j hi' hs
   split at h
   ·rename_i r hr
    cases hz:(Nat.beq r.t.sz (E.elemSz t)&&!Nat.beq r.t.sz 0) <;> rw [hz] at h
    ·cases h
    obtain ⟨z1,z2⟩:=z9n hz
    simp only [y14,yn] at h
    rw [z5n] at h
    obtain ⟨l,hl,h⟩:=yk.1 h
    rw [z5n] at h
    obtain ⟨u,hu,h⟩:=yk.1 h
    rw [z5n] at h
    obtain ⟨m,hm',h⟩:=yk.1 h
    split at h
    ·rename_i hb
     cases h
     obtain ⟨q,hq,he,hh,hn,_⟩:=R.rows j r hr
     obtain ⟨h1,h2⟩:=z1b R hat hs
     obtain ⟨cs,⟨e,t',l',h5,rfl⟩,h4⟩:=h1
     rw [hq,z2z] at h5
     cases h5
     have hxl:r.xs.length=q.2.2.length:=by rw [← he]; simp [erase]
     have hv:a.eval x=.slice (q.1.map fun g=>⟨g,0,none⟩) q.2.2.length q.2.1:=by
      rcases h4 with ⟨h6,_⟩ | ⟨_,h6⟩
      ·cases h6
      ·simp only [za,y12,y13] at h6; exact h6.symm
     have hcap:q.2.2.length≤q.2.1:=by
      have h1:=hh.1
      cases hx:q.1 with
      | none=>rw [hx] at h1; simp [h1.1]
      | some b=>rw [hx] at h1; obtain ⟨cur,fz,_,h2,_⟩:=h1; exact h2
     obtain ⟨e9,e1,e2,_⟩:=zj9 T z2 w
     have bu:=z6p R hat hu
     have bm:=z6p R hat hm'
     have bl:=z6p R hat hl
     simp only [y20] at bu bm
     obtain ⟨ku,hku⟩:∃ k,a.eval hi'=.int k u:=by rcases bu with ⟨h,_⟩ | ⟨k,h⟩; cases h; exact ⟨k,y28 h⟩
     obtain ⟨km,hkm⟩:∃ k,a.eval mv=.int k m:=by rcases bm with ⟨h,_⟩ | ⟨k,h⟩; cases h; exact ⟨k,y28 h⟩
     have hmc:m≤((q.2.1:Nat):Int):=by have:=hb.2.2.2; omega
     have hum:u≤((m.toNat:Nat):Int):=by have:=hb.2.2.1; omega
     have hlu:l≤((u.toNat:Nat):Int):=by have:=hb.2.1; omega
     have s1:∀ code,(Instr.sliceBound (.int km m) q.2.1 code).run P w=.ok m.toNat w:=fun code=>run_sliceBound w km m _ code (by omega) hmc
     have s2:∀ code,(Instr.sliceBound (.int ku u) m.toNat code).run P w=.ok u.toNat w:=fun code=>run_sliceBound w ku u _ code (by omega) hum
     have hb0:∃ v,(Instr.sliceAt t (a.eval x) (lo.map a.eval) (some (a.eval hi')) (some (a.eval mv))).run P w=.ok v w:=by
      rw [hv,hku,hkm]
      rcases bl with ⟨hl0,rfl⟩ | ⟨kl,hl0⟩
      ·rw [hl0]
       apply Exists.intro
       simp only [Instr.sliceAt,Instr.slice,Sem.run_bind,run_underlying e1,Result.andThen_ok,Instr.sliceBounds,s1,s2,Sem.run_pure,e2]
       rfl
      ·rw [hl0]
       have s3:∀ code,(Instr.sliceBound (.int kl l) u.toNat code).run P w=.ok l.toNat w:=fun code=>run_sliceBound w kl l _ code hb.1 hlu
       apply Exists.intro
       simp only [Instr.sliceAt,Instr.slice,Sem.run_bind,run_underlying e1,Result.andThen_ok,Instr.sliceBounds,s1,s2,s3,Sem.run_pure,e2]
       rfl
     obtain ⟨v,hb1⟩:=hb0
     refine ⟨v,w,M,?_,Ext.pure trivial ⟨by simp [SV.roots],by simp [SV.boxes]⟩⟩
     unfold execOp
     rw [hop,hm]
     simp only [y20,Sem.run_bind,hb1]
     rfl
    ·cases h
   ·cases h
  ·cases h
 | none =>
 rw [hm] at h
 simp only [Option.isSome_none,yn] at h
 have hex:∀ {v:Value},(Instr.sliceAt t (a.eval x) (lo.map a.eval) (hi.map a.eval) none).run P w=.ok v w→(execOp a.eval o).run P w=.ok (.value v) w:=by
  intro v hv
  unfold execOp
  rw [hop,hm]
  simp only [Option.map_none,Sem.run_bind,hv]
  rfl
 split at h
 ·rename_i s hs
  cases hz:E.isStr t <;> rw [hz] at h
  ·cases h
  simp only [y14,yn] at h
  have hstr:P.underlying t=some .string:=by
   unfold Env.isStr at hz
   split at hz
   ·rename_i ht; exact (zb4 T ht).1
   ·cases hz
  rw [z5n] at h
  obtain ⟨l,hl,h⟩:=yk.1 h
  rw [z5n] at h
  obtain ⟨u,hu,h⟩:=yk.1 h
  split at h
  ·rename_i hb
   cases h
   have hv:=zj8 R hat hs
   refine z18.val (t:=.str) rfl rfl (hex ?_)
   rw [hv]
   have hb1:=zu7 (P:=P) (w:=w) (b:=false) (len:=s.length) (cap:=s.length) (z6p R hat hl) (z6p R hat hu) hb.1 hb.2.1 hb.2.2 (yr _)
   have hsz:(⟨s.toArray⟩:ByteArray).size=s.length:=rfl
   simp only [Instr.sliceAt,Instr.slice,Sem.run_bind,run_underlying hstr,Result.andThen_ok,Option.isSome_none,yc,y8,hsz,hb1,Sem.run_pure]
   congr 2
   apply ByteArray.ext
   rw [ByteArray.data_extract]
   apply y1u
   simp [List.extract_eq_take_drop]
  ·cases h
 ·rename_i e u s hs
  cases hz:(Nat.beq u.sz (E.elemSz t)&&!Nat.beq u.sz 0) <;> rw [hz] at h
  ·cases h
  obtain ⟨z1,z2⟩:=z9n hz
  simp only [y14,yn] at h
  rw [z5n] at h
  obtain ⟨l,hl,h⟩:=yk.1 h
  rw [z5n] at h
  obtain ⟨m,hm',h⟩:=yk.1 h
  split at h
  ·rename_i hb
   cases h
   obtain ⟨v,hv,hr⟩:=z67 R hat hs rfl
   obtain ⟨A,c,hA,hlc,hx⟩:=hr
   cases hA
   have hlen:((s.drop l.toNat).take (m.toNat-l.toNat)).length=m.toNat-l.toNat:=by
    simp only [y1c,y1y]; omega
   refine z18.val (t:=.sl e u) ⟨_,c-l.toNat,by rw [hlen],by rw [hlen]; omega,fun hne=>?_⟩ rfl (hex (by rw [hv]; exact zu8 T z2 (z6p R hat hl) (z6p R hat hm') hb.1 hb.2.1 hb.2.2 hlc))
   have hlt:l.toNat<s.length:=by
    rcases y22 l.toNat s.length with h | h
    ·exact h
    ·exfalso; apply hne; rw [List.drop_eq_nil_of_le h]; simp
   have hs0:s≠[]:=by intro e; rw [e] at hlt; simp at hlt
   obtain ⟨ad,rfl,hok,hcell⟩:=hx hs0
   rw [y5 (by omega)]
   refine ⟨_,rfl,by rw [zgh]; exact hok,fun i y hi=>?_⟩
   have hin:i<m.toNat-l.toNat:=by have:=(yo.1 hi).1; omega
   rw [y1n hin,y39] at hi
   obtain ⟨ds,hd,hcc⟩:=hcell _ y hi
   refine ⟨ds,hd,?_⟩
   rw [zcy,← z1,← y1i]
   exact hcc
  ·cases h
 ·rename_i j hs
  split at h
  ·rename_i r hr
   cases hz:(Nat.beq r.t.sz (E.elemSz t)&&!Nat.beq r.t.sz 0) <;> rw [hz] at h
   ·cases h
   obtain ⟨z1,z2⟩:=z9n hz
   simp only [y14,yn] at h
   rw [z5n] at h
   obtain ⟨l,hl,h⟩:=yk.1 h
   rw [z5n] at h
   obtain ⟨m,hm',h⟩:=yk.1 h
   split at h
   ·rename_i hb
    cases h
    obtain ⟨q,hq,he,hh,hn,_⟩:=R.rows j r hr
    obtain ⟨h1,h2⟩:=z1b R hat hs
    obtain ⟨cs,⟨e,t',l',h5,rfl⟩,h4⟩:=h1
    rw [hq,z2z] at h5
    cases h5
    have hxl:r.xs.length=q.2.2.length:=by rw [← he]; simp [erase]
    have hv:a.eval x=.slice (q.1.map fun g=>⟨g,0,none⟩) q.2.2.length q.2.1:=by
     rcases h4 with ⟨h6,_⟩ | ⟨_,h6⟩
     ·cases h6
     ·simp only [za,y12,y13] at h6; exact h6.symm
    have hcap:q.2.2.length≤q.2.1:=by
     have h1:=hh.1
     cases hx:q.1 with
     | none=>rw [hx] at h1; simp [h1.1]
     | some b=>rw [hx] at h1; obtain ⟨cur,fz,_,h2,_⟩:=h1; exact h2
    rw [hxl] at hm' hb
    refine ⟨_,w,M,hex (by rw [hv]; exact zu8 T z2 (z6p R hat hl) (z6p R hat hm') hb.1 hb.2.1 hb.2.2 hcap),Ext.pure (z1t ⟨r.e,r.t,q,hq,by omega,_,_,rfl,by omega,fun hc=>?_⟩ (.inr ⟨rfl,rfl⟩)) ⟨h2.rows,by simp [SV.boxes]⟩⟩
    rw [← z1]
    split
    ·have:l.toNat=0:=by omega
     rw [this]; simp
    ·cases q.1 <;> simp [z2x]
   ·cases h
  ·cases h
 ·rename_i j p n hs
  split at h
  ·rename_i r hr
   cases hz:(Nat.beq r.t.sz (E.elemSz t)&&!Nat.beq r.t.sz 0) <;> rw [hz] at h
   ·cases h
   obtain ⟨z1,z2⟩:=z9n hz
   simp only [y14,yn] at h
   rw [z5n] at h
   obtain ⟨l,hl,h⟩:=yk.1 h
   rw [z5n] at h
   obtain ⟨m,hm',h⟩:=yk.1 h
   split at h
   ·rename_i hb
    cases h
    obtain ⟨q,hq,he,hh,hn,_⟩:=R.rows j r hr
    obtain ⟨h1,h2⟩:=z1b R hat hs
    obtain ⟨cs,⟨e,t',l',h5,hle,A,c,rfl,hcl,hA⟩,h4⟩:=h1
    rw [hq] at h5
    cases h5
    have hv:a.eval x=.slice A n c:=by
     rcases h4 with ⟨h6,_⟩ | ⟨_,h6⟩
     ·cases h6
     ·simp only [y12,y13] at h6; exact h6.symm
    have hcap:q.2.2.length≤q.2.1:=by
     have h1:=hh.1
     cases hx:q.1 with
     | none=>rw [hx] at h1; simp [h1.1]
     | some b=>rw [hx] at h1; obtain ⟨cur,fz,_,h2,_⟩:=h1; exact h2
    have hxl:r.xs.length=q.2.2.length:=by rw [← he]; simp [erase]
    have hmc:m≤(c:Int):=by
     rcases hb.2.2 with h | ⟨h,h'⟩
     ·omega
     ·rw [hxl] at h'; omega
    have hend:p+l.toNat+(m.toNat-l.toNat)≤q.2.2.length:=by
     rcases hb.2.2 with h | ⟨h,h'⟩
     ·omega
     ·rw [hxl] at h'; omega
    have hadr:(0<m.toNat-l.toNat∨p+l.toNat=0)→(0<n∨p=0):=by
     intro hc
     rcases hb.2.2 with h | ⟨h,_⟩
     ·omega
     ·exact .inr h
    refine ⟨_,w,M,hex (by rw [hv]; exact z18b T z2 (z6p R hat hl) (z6p R hat hm') hb.1 hb.2.1 hmc),Ext.pure (z1t ⟨r.e,r.t,q,hq,hend,_,_,rfl,by omega,fun hc=>?_⟩ (.inr ⟨rfl,rfl⟩)) ⟨h2.rows,by simp [SV.boxes]⟩⟩
    have hA':=hA (hadr hc)
    subst hA'
    rw [← z1]
    split
    ·have:l.toNat=0:=by omega
     rw [this]; simp
    ·cases q.1 <;> simp [z2x,y1i]
   ·cases h
  ·cases h
 ·cases h
end

def zj:Ty→Nat→Nat
 | .sl _ _,n=>n+1
 | .st t,n=>if t.flat=true then n else zj t n
 | .pr a b,n=>zj b (zj a n)
 | _,n=>n
def z1e:(t:Ty)→L t→Nat→(Nat→Loc)→(Nat→Loc)
 | .sl e t,l,n,f=>z30 f n ⟨.sl e t,l⟩
 | .st t,l,n,f=>if t.flat=true then f else z1e t l n f
 | .pr a b,l,n,f=>z1e b l.2 (zj a n) (z1e a l.1 n f)
 | .int _,_,_,f=>f
 | .bool,_,_,f=>f
 | .str,_,_,f=>f
 | .ptr _,_,_,f=>f
 | .un,_,_,f=>f
 | .fn _ _,_,_,f=>f
 | .fs _,_,_,f=>f
 | .rd _,_,_,f=>f

theorem z3t:∀ (t:Ty) (n:Nat),n≤zj t n
 | .sl _ _,n=>Nat.le_succ n
 | .st t,n=>by simp only [zj]; split; exact yr _; exact z3t t n
 | .pr a b,n=>y1o (z3t a n) (z3t b _)
 | .int _,_=>yr _
 | .bool,_=>yr _
 | .str,_=>yr _
 | .ptr _,_=>yr _
 | .un,_=>yr _
 | .fn _ _,_=>yr _
 | .fs _,_=>yr _
 | .rd _,_=>yr _
theorem z89:∀ (t:Ty) (x:t.T) (n:Nat),(zv t x n).2.2=zj t n
 | .sl _ _,_,_=>rfl
 | .st t,x,n=>by
  simp only [zv,zj]
  cases hf:t.flat
  ·simp only [yn,yc,y8]; exact z89 t x n
  ·simp
 | .pr a b,x,n=>by simp only [zv,zj,z89 a x.1 n,z89 b x.2]
 | .int _,_,_=>rfl
 | .bool,_,_=>rfl
 | .str,_,_=>rfl
 | .ptr _,_,_=>rfl
 | .un,_,_=>rfl
 | .fn _ _,_,_=>rfl
 | .fs _,_,_=>rfl
 | .rd _,_,_=>rfl
theorem z7c:∀ (t:Ty) (l:L t) (n:Nat) (f:Nat→Loc) (i:Nat),i<n∨zj t n≤i→z1e t l n f i=f i
 | .sl _ _,l,n,f,i,h=>z3e _ _ (by simp only [zj] at h; omega)
 | .st t,l,n,f,i,h=>by
  simp only [z1e,zj] at h ⊢
  split
  ·rfl
  ·rename_i hf; rw [y5 hf] at h; exact z7c t l n f i h
 | .pr a b,l,n,f,i,h=>by
  have h1:=z3t a n
  have h2:=z3t b (zj a n)
  simp only [z1e,zj] at h ⊢
  rw [z7c b l.2 _ _ i (by omega),z7c a l.1 _ _ i (by omega)]
 | .int _,_,_,_,_,_=>rfl
 | .bool,_,_,_,_,_=>rfl
 | .str,_,_,_,_,_=>rfl
 | .ptr _,_,_,_,_,_=>rfl
 | .un,_,_,_,_,_=>rfl
 | .fn _ _,_,_,_,_,_=>rfl
 | .fs _,_,_,_,_,_=>rfl
 | .rd _,_,_,_,_,_=>rfl

theorem z3q:∀ (t:Ty) (x:t.T) (n i:Nat),(∃ r,lk (zv t x n).2.1 i=some r)↔(n≤i∧i<zj t n)
 | .sl e t,x,n,i=>by
  simp only [zv,zj]
  constructor
  ·rintro ⟨r,hr⟩; have:=(z59 hr).1; omega
  ·intro h; have:i=n:=by omega
   subst this; exact ⟨_,by rw [zu,y4 rfl]⟩
 | .st t,x,n,i=>by
  simp only [zv,zj]
  cases hf:t.flat
  ·simp only [yn,yc,y8]; exact z3q t x n i
  ·simp only [yi,y7]
   exact ⟨fun ⟨r,h⟩=>(nomatch h),fun h=>by omega⟩
 | .pr a b,x,n,i=>by
  have h1:=z3t a n
  have h2:=z3t b (zj a n)
  have ha:=z3q a x.1 n i
  have hb:=z3q b x.2 (zj a n) i
  simp only [zv,zj,z2e,z89]
  constructor
  ·rintro ⟨r,hr⟩
   cases hq:lk (zv a x.1 n).2.1 i with
   | some r'=>have:=ha.1 ⟨r',hq⟩; omega
   | none=>rw [hq] at hr; have:=hb.1 ⟨r,hr⟩; omega
  ·intro h
   cases hq:lk (zv a x.1 n).2.1 i with
   | some r'=>exact ⟨r',rfl⟩
   | none =>
    have:¬ (n≤i∧i<zj a n):=fun hh=>by obtain ⟨r,hr⟩:=ha.2 hh; rw [hq] at hr; cases hr
    obtain ⟨r,hr⟩:=hb.2 (by omega)
    exact ⟨r,hr⟩
 | .int _,_,_,_=>⟨fun ⟨r,h⟩=>(nomatch h),fun h=>by simp only [zj] at h; omega⟩
 | .bool,_,_,_=>⟨fun ⟨r,h⟩=>(nomatch h),fun h=>by simp only [zj] at h; omega⟩
 | .str,_,_,_=>⟨fun ⟨r,h⟩=>(nomatch h),fun h=>by simp only [zj] at h; omega⟩
 | .ptr _,_,_,_=>⟨fun ⟨r,h⟩=>(nomatch h),fun h=>by simp only [zj] at h; omega⟩
 | .un,_,_,_=>⟨fun ⟨r,h⟩=>(nomatch h),fun h=>by simp only [zj] at h; omega⟩
 | .fn _ _,_,_,_=>⟨fun ⟨r,h⟩=>(nomatch h),fun h=>by simp only [zj] at h; omega⟩
 | .fs _,_,_,_=>⟨fun ⟨r,h⟩=>(nomatch h),fun h=>by simp only [zj] at h; omega⟩
 | .rd _,_,_,_=>⟨fun ⟨r,h⟩=>(nomatch h),fun h=>by simp only [zj] at h; omega⟩

structure Part (t:Ty) (l:L t) (r:Row) (l':L (.sl r.e r.t)):Prop where
 er:erase (.sl r.e r.t) l'=r.xs
 bl:(z7 (.sl r.e r.t) l').Sublist (z7 t l)
 ho:∀ (F:Frz) w,holds F w t l→holds F w (.sl r.e r.t) l'
 pl:∀ w,plain w t l→plain w (.sl r.e r.t) l'

theorem z7d:∀ (t:Ty) (l:L t) (n:Nat) (f:Nat→Loc) (i:Nat) (r:Row),lk (zv t (erase t l) n).2.1 i=some r→r.z=false∧∃ l',z1e t l n f i=⟨.sl r.e r.t,l'⟩∧Part t l r l'
 | .sl e t,l,n,f,i,r,h=>by
  obtain ⟨rfl,rfl⟩:=z59 h
  exact ⟨rfl,l,z1w _ _ _,⟨rfl,y2t _,fun _ _ h=>h,fun _ h=>h⟩⟩
 | .st t,l,n,f,i,r,h=>by
  simp only [zv,z1e] at h ⊢
  cases hf:t.flat <;> rw [hf] at h
  ·simp only [yn,yc,y8] at h ⊢
   obtain ⟨h1,l',h2,h3⟩:=z7d t l n f i r h
   exact ⟨h1,l',h2,⟨h3.er,h3.bl,h3.ho,h3.pl⟩⟩
  ·cases h
 | .pr a b,l,n,f,i,r,h=>by
  have h1:=z3t a n
  simp only [zv,z1e,z2e,z89] at h ⊢
  cases hq:lk (zv a (erase a l.1) n).2.1 i with
  | some r' =>
   have hq':=hq
   simp only [erase] at h
   rw [hq] at h
   cases h
   obtain ⟨g1,l',g2,g3⟩:=z7d a l.1 n f i r hq'
   have:=(z3q a (erase a l.1) n i).1 ⟨r,hq'⟩
   refine ⟨g1,l',by rw [z7c b l.2 _ _ i (by omega)]; exact g2,⟨g3.er,?_,fun F w h=>g3.ho F w h.1,fun w h=>g3.pl w h.1⟩⟩
   exact g3.bl.trans (y4a _ _)
  | none =>
   simp only [erase] at h
   rw [hq] at h
   obtain ⟨g1,l',g2,g3⟩:=z7d b l.2 (zj a n) (z1e a l.1 n f) i r h
   exact ⟨g1,l',g2,⟨g3.er,g3.bl.trans (y4b _ _),fun F w h=>g3.ho F w h.2,fun w h=>g3.pl w h.2⟩⟩
 | .int _,_,_,_,_,_,h=>by cases h
 | .bool,_,_,_,_,_,h=>by cases h
 | .str,_,_,_,_,_,h=>by cases h
 | .un,_,_,_,_,_,h=>by cases h
 | .rd _,_,_,_,_,_,h=>by cases h

theorem zh4:∀ (t:Ty) (l:L t) (n:Nat) (f:Nat→Loc),(z7 t l).Nodup→∀ i j,i≠j→n≤i→i<zj t n→n≤j→j<zj t n →
  ∀ k∈z7 (z1e t l n f i).1 (z1e t l n f i).2,k∈z7 t l∧k∉z7 (z1e t l n f j).1 (z1e t l n f j).2
 | .sl e t,l,n,f,hn,i,j,hij,h1,h2,h3,h4=>by simp only [zj] at h2 h4; omega
 | .st t,l,n,f,hn,i,j,hij,h1,h2,h3,h4=>by
  simp only [z1e,zj] at h2 h4 ⊢
  cases hf:t.flat <;> simp only [hf,yc,y8,y7] at h2 h4 ⊢
  ·exact zh4 t l n f hn i j hij h1 h2 h3 h4
  ·omega
 | .pr a b,l,n,f,hn,i,j,hij,h1,h2,h3,h4=>by
  have e1:=z3t a n
  have e2:=z3t b (zj a n)
  simp only [zj] at h2 h4
  simp only [z7] at hn
  obtain ⟨na,nb,nd⟩:=y1g.1 hn
  have sub:∀ i,n≤i→i<zj a n→∀ k∈z7 (z1e a l.1 n f i).1 (z1e a l.1 n f i).2,k∈z7 a l.1:=by
   intro i q1 q2 k hk
   obtain ⟨r,hr⟩:=(z3q a (erase a l.1) n i).2 ⟨q1,q2⟩
   obtain ⟨_,l',g2,g3⟩:=z7d a l.1 n f i r hr
   rw [g2] at hk
   exact g3.bl.subset hk
  have sub2:∀ i,zj a n≤i→i<zj b (zj a n)→∀ k∈z7 (z1e b l.2 (zj a n) (z1e a l.1 n f) i).1 (z1e b l.2 (zj a n) (z1e a l.1 n f) i).2,k∈z7 b l.2:=by
   intro i q1 q2 k hk
   obtain ⟨r,hr⟩:=(z3q b (erase b l.2) (zj a n) i).2 ⟨q1,q2⟩
   obtain ⟨_,l',g2,g3⟩:=z7d b l.2 (zj a n) (z1e a l.1 n f) i r hr
   rw [g2] at hk
   exact g3.bl.subset hk
  intro k hk
  simp only [z1e] at hk ⊢
  by_cases hi:i<zj a n
  ·rw [z7c b l.2 _ _ i (by omega)] at hk
   have hka:=sub i h1 hi k hk
   refine ⟨by simp [z7,hka],?_⟩
   by_cases hj:j<zj a n
   ·rw [z7c b l.2 _ _ j (by omega)]
    exact (zh4 a l.1 n f na i j hij h1 hi h3 hj k hk).2
   ·intro hk2
    exact nd _ hka _ (sub2 j (by omega) h4 k hk2) rfl
  ·have hkb:=sub2 i (by omega) h2 k hk
   refine ⟨by simp [z7,hkb],?_⟩
   by_cases hj:j<zj a n
   ·rw [z7c b l.2 _ _ j (by omega)]
    intro hk2
    exact nd _ (sub j h3 hj k hk2) _ hkb rfl
   ·exact (zh4 b l.2 (zj a n) (z1e a l.1 n f) nb i j hij (by omega) h2 (by omega) h4 k hk).2
 | .int _,_,n,_,_,i,j,hij,h1,h2,h3,h4=>by simp only [zj] at h2; omega
 | .bool,_,n,_,_,i,j,hij,h1,h2,h3,h4=>by simp only [zj] at h2; omega
 | .str,_,n,_,_,i,j,hij,h1,h2,h3,h4=>by simp only [zj] at h2; omega
 | .un,_,n,_,_,i,j,hij,h1,h2,h3,h4=>by simp only [zj] at h2; omega
 | .rd _,_,n,_,_,i,j,hij,h1,h2,h3,h4=>by simp only [zj] at h2; omega

section
variable {P : Program} {E : Env} {w0 : World} {ok O : Nat → Prop} {σ : St} {tm : Array Value} {w : World} {M : Map} {a : Act}

theorem z8a:∀ (t:Ty) (l:L t) (n:Nat) (f:Nat→Loc),holds (Rd w0 ok) w t l→(∀ i,n≤i→i<zj t n→M.loc i=z1e t l n f i)→zc w0 ok M (zv t (erase t l) n).1 (za t l)
 | .sl e t,l,n,f,_,h=>⟨e,t,l,by rw [h n (yr _) (y3w _)]; exact (congrArg (fun z:Loc=>zy z.1 z.2 []) (z1w f n ⟨.sl e t,l⟩)).trans rfl,rfl⟩
 | .st t,l,n,f,hh,h=>by
  simp only [zv,z1e,zj] at h ⊢
  cases hf:t.flat <;> simp only [hf,yc,y8,y7,yi,yn] at h ⊢
  ·exact z8a t l n f hh h
  ·exact zh2 (w:=w0) (t:=t) l hf
 | .pr a b,l,n,f,hh,h=>by
  have e1:=z3t a n
  have e2:=z3t b (zj a n)
  simp only [z1e,zj] at h
  refine ⟨za a l.1,za b l.2,rfl,z8a a l.1 n f hh.1 fun i h1 h2=>?_,?_⟩
  ·rw [h i h1 (by omega),z7c b l.2 _ _ i (by omega)]
  ·simp only [z89]
   exact z8a b l.2 (zj a n) (z1e a l.1 n f) hh.2 fun i h1 h2=>h i (by omega) h2
 | .int _,l,n,f,_,h=>rfl
 | .bool,l,n,f,_,h=>rfl
 | .str,l,n,f,_,h=>rfl
 | .un,l,n,f,_,h=>rfl
 | .rd _,l,n,f,hh,h=>hh

theorem z8b:∀ (t:Ty) (x:t.T) (n:Nat),(∀ i∈(zv t x n).1.roots,n≤i∧i<zj t n)∧(zv t x n).1.boxes=[]
 | .sl e t,x,n=>⟨by simp [zv,SV.roots,zj],rfl⟩
 | .st t,x,n=>by
  simp only [zv,zj]
  cases hf:t.flat
  ·simp only [yn,yc,y8]; exact z8b t x n
  ·exact ⟨by simp [SV.roots],rfl⟩
 | .pr a b,x,n=>by
  have e1:=z3t a n
  have e2:=z3t b (zj a n)
  obtain ⟨h1,h2⟩:=z8b a x.1 n
  obtain ⟨h3,h4⟩:=z8b b x.2 (zj a n)
  simp only [zv,z89,zj]
  refine ⟨fun i hi=>?_,by simp [SV.boxes,h2,h4]⟩
  simp only [SV.roots,yd] at hi
  rcases hi with hi | hi
  ·have:=h1 i hi; omega
  ·have:=h3 i hi; omega
 | .int _,_,_=>⟨by simp [zv,SV.roots],rfl⟩
 | .bool,_,_=>⟨by simp [zv,SV.roots],rfl⟩
 | .str,_,_=>⟨by simp [zv,SV.roots],rfl⟩
 | .ptr _,_,_=>⟨by simp [zv,SV.roots],rfl⟩
 | .un,_,_=>⟨by simp [zv,SV.roots],rfl⟩
 | .fn _ _,_,_=>⟨by simp [zv,SV.roots],rfl⟩
 | .fs _,_,_=>⟨by simp [zv,SV.roots],rfl⟩
 | .rd _,_,_=>⟨by simp [zv,SV.roots],rfl⟩
theorem zjc:∀ (t:Ty) (x:t.T) (n:Nat),(zv t x n).1.isSt=t.isSt
 | .sl _ _,_,_=>rfl
 | .st t,x,n=>by simp only [zv]; cases t.flat <;> rfl
 | .pr _ _,_,_=>rfl
 | .int _,_,_=>rfl
 | .bool,_,_=>rfl
 | .str,_,_=>rfl
 | .ptr _,_,_=>rfl
 | .un,_,_=>rfl
 | .fn _ _,_,_=>rfl
 | .fs _,_,_=>rfl
 | .rd _,_,_=>rfl

theorem Ext.newRows {t:Ty} {l:L t} (n:Nat) {w':World} {s:SV} {v:Value} (hk:Kept (fun _=>False) w w') (hh:holds (Rd w0 ok) w' t l) (hp:plain w' t l) (hn:(z7 t l).Nodup) (hg:∀ k∈z7 t l,w.heap.size≤k)
  (hs:zr w0 ok { M with loc:=z1e t l n M.loc } s v) (hl:(∀ i∈s.roots,n≤i∧i<zj t n)∧s.boxes=[]) :
  Ext E w0 ok σ w M s (zv t (erase t l) n).2.1 [] v w' { M with loc:=z1e t l n M.loc } where
 val:=hs
 kept:=hk
 locO:=fun i hi=>z7c t l n M.loc i (by
  rcases y22 i n with h | h
  ·exact .inl h
  ·rcases y22 i (zj t n) with h' | h'
   ·obtain ⟨r,hr⟩:=(z3q t (erase t l) n i).2 ⟨h,h'⟩
    rw [hi] at hr; cases hr
   ·exact .inr h')
 blkO:=fun _ _=>⟨rfl,rfl,rfl⟩
 rows:=fun i r hr=>by
  obtain ⟨hz,l',h1,h2⟩:=z7d t l n M.loc i r hr
  exact ⟨l',h1,h2.er,h2.ho _ _ hh,h2.bl.nodup hn,fun _=>h2.pl _ hp,fun k hk=>hg k (h2.bl.subset hk)⟩
 rr:=fun i j hij hi hj k hk=>by
  obtain ⟨h1,h2⟩:=(z3q t (erase t l) n i).1 hi
  obtain ⟨h3,h4⟩:=(z3q t (erase t l) n j).1 hj
  exact (zh4 t l n M.loc hn i j hij h1 h2 h3 h4 k hk).2
 boxes:=fun j b h=>by cases h
 bb:=fun j k ⟨b,h⟩=>by cases h
 rb:=fun j k _ ⟨b,h⟩=>by cases h
 live:=⟨fun i hi=>.inr ((z3q t (erase t l) n i).2 (hl.1 i hi)),fun i hi=>by rw [hl.2] at hi; cases hi⟩
 liveB:=fun j b h=>by cases h
theorem Ext.new {t:Ty} {l:L t} (n:Nat) {w':World} {v:Value} (hk:Kept (fun _=>False) w w') (hh:holds (Rd w0 ok) w' t l) (hp:plain w' t l) (hn:(z7 t l).Nodup) (hg:∀ k∈z7 t l,w.heap.size≤k) (hv:z1n t v (za t l)) :
  Ext E w0 ok σ w M (zv t (erase t l) n).1 (zv t (erase t l) n).2.1 [] v w' { M with loc:=z1e t l n M.loc } :=
 Ext.newRows n hk hh hp hn hg (z1t (z8a t l n M.loc hh fun _ _ _=>rfl) (by unfold z2s; rw [zjc]; exact hv)) (z8b t _ n)

def zh5:Nat→(t:Ty)→L t→List Value→Prop
 | 0,_,_,vs=>vs=[]
 | 1,t,l,vs=>∃ v,vs=[v]∧z1n t v (za t l)
 | n+2,.pr a b,l,vs=>∃ v vs',vs=v::vs'∧z1n a v (za a l.1)∧zh5 (n+1) b l.2 vs'
 | _,_,_,_=>False
theorem zq0:∀ (m:Nat) (t:Ty) (l:L t) (n:Nat) (f:Nat→Loc) (vs:List Value),holds (Rd w0 ok) w t l→0<m→(∀ i,n≤i→i<zj t n→M.loc i=z1e t l n f i)→zh5 m t l vs→z2h w0 ok M (z2a m (zv t (erase t l) n).1) vs
 | 0,_,_,_,_,_,_,h0,_,_=>absurd h0 (y23 0)
 | 1,t,l,n,f,vs,hh,_,h,hp=>by
  obtain ⟨v,rfl,hw⟩:=hp
  refine ⟨v,[],rfl,⟨za t l,z8a t l n f hh h,?_⟩,rfl⟩
  rw [zjc]; exact hw
 | m+2,.pr a b,l,n,f,vs,hh,_,h,hp=>by
  have e1:=z3t a n
  have e2:=z3t b (zj a n)
  simp only [z1e,zj] at h
  obtain ⟨v,vs',rfl,hw,hp⟩:=hp
  refine ⟨v,vs',rfl,⟨za a l.1,z8a a l.1 n f hh.1 fun i h1 h2=>?_,?_⟩,?_⟩
  ·rw [h i h1 (by omega),z7c b l.2 _ _ i (by omega)]
  ·rw [zjc]; exact hw
  ·simp only [z89]
   exact zq0 (m+1) b l.2 (zj a n) (z1e a l.1 n f) vs' hh.2 (y2y _) (fun i h1 h2=>h i (by omega) h2) hp
theorem zq1:∀ (m:Nat) (s:SV),(∀ i∈(z2a m s).roots,i∈s.roots)∧(s.boxes=[]→(z2a m s).boxes=[])
 | 0,s=>⟨by simp [z2a,SV.roots],fun _=>rfl⟩
 | 1,s=>⟨by simp [z2a,SV.roots],fun h=>by simp [z2a,SV.boxes,h]⟩
 | m+2,.pr a b=>by
  obtain ⟨h1,h2⟩:=zq1 (m+1) b
  refine ⟨fun i hi=>?_,fun h=>?_⟩
  ·simp only [z2a,SV.roots,yd] at hi ⊢
   rcases hi with hi | hi
   ·exact .inl hi
   ·exact .inr (h1 i hi)
  ·simp only [SV.boxes,y54] at h
   simp [z2a,SV.boxes,h.1,h2 h.2]
 | m+2,.val _ _=>⟨by simp [z2a,SV.roots],fun _=>rfl⟩
 | m+2,.ref _ _=>⟨by simp [z2a,SV.roots],fun _=>rfl⟩
 | m+2,.vw _ _ _=>⟨by simp [z2a,SV.roots],fun _=>rfl⟩
 | m+2,.ls _=>⟨by simp [z2a,SV.roots],fun _=>rfl⟩
 | m+2,.st _=>⟨by simp [z2a,SV.roots],fun _=>rfl⟩
 | m+2,.bp _ _ _=>⟨by simp [z2a,SV.roots],fun _=>rfl⟩
 | m+2,.ep _ _ _ _ _=>⟨by simp [z2a,SV.roots],fun _=>rfl⟩
 | m+2,.lp _ _=>⟨by simp [z2a,SV.roots],fun _=>rfl⟩
 | m+2,.clo _ _=>⟨by simp [z2a,SV.roots],fun _=>rfl⟩
 | m+2,.no=>⟨by simp [z2a,SV.roots],fun _=>rfl⟩
 | m+2,.tup _=>⟨by simp [z2a,SV.roots],fun _=>rfl⟩
 | m+2,.cns _ _=>⟨by simp [z2a,SV.roots],fun _=>rfl⟩
 | m+2,.nl=>⟨by simp [z2a,SV.roots],fun _=>rfl⟩
 | m+2,.un=>⟨by simp [z2a,SV.roots],fun _=>rfl⟩

def zh6 (m:Nat) (t:Ty) (l:L t) (v:Value):Prop:=if m=1 then z1n t v (za t l) else ∃ vs:Array Value,v=.tuple vs∧zh5 m t l vs.toList
theorem Ext.newT {m:Nat} {t:Ty} {l:L t} (n:Nat) {w':World} {v:Value} (hk:Kept (fun _=>False) w w') (hh:holds (Rd w0 ok) w' t l) (hp:plain w' t l) (hn:(z7 t l).Nodup) (hg:∀ k∈z7 t l,w.heap.size≤k) (hv:zh6 m t l v) :
  ∃ M',Ext E w0 ok σ w M (newT m t (erase t l) n).1 (newT m t (erase t l) n).2 [] v w' M':=by
 match m,hv with
 | 0,hv =>
  obtain ⟨vs,rfl,h⟩:=hv
  have hx:Ext E w0 ok σ w M (.tup .nl) [] [] (.tuple vs) w' M :=
   ⟨⟨vs,rfl,h⟩,hk,fun _ _=>rfl,fun _ _=>⟨rfl,rfl,rfl⟩,fun i r h=>(nomatch h),fun i j _ ⟨r,h⟩=>(nomatch h),fun i b h=>(nomatch h),fun i j ⟨r,h⟩=>(nomatch h),fun i j ⟨r,h⟩=>(nomatch h),
    ⟨by simp [SV.roots],by simp [SV.boxes]⟩,fun i b h=>(nomatch h)⟩
  exact ⟨M,hx⟩
 | 1,hv=>exact ⟨_,Ext.new n hk hh hp hn hg hv⟩
 | m+2,hv =>
  obtain ⟨vs,rfl,h⟩:=hv
  obtain ⟨h1,h2⟩:=z8b t (erase t l) n
  obtain ⟨h3,h4⟩:=zq1 (m+2) (zv t (erase t l) n).1
  exact ⟨_,Ext.newRows (s:=.tup (z2a (m+2) (zv t (erase t l) n).1)) n hk hh hp hn hg ⟨vs,rfl,zq0 (m+2) t l n M.loc vs.toList hh (y2y _) (fun _ _ _=>rfl) h⟩ ⟨fun i hi=>h1 i (h3 i hi),h4 h2⟩⟩
end

section
variable {P : Program} {E : Env} {w0 : World} {ok O : Nat → Prop} {σ : St} {tm : Array Value} {w : World} {M : Map} {a : Act}

theorem Rd.one {w:World} {ok:Nat→Prop}:∀ {t:Ty} {x:t.T} {cs:List Value},Rd w ok t x cs→∀ c∈cs,c.oneCell'=true
 | .int _,_,_,h,c,hc=>by simp only [Rd] at h; subst h; simp at hc; subst hc; rfl
 | .bool,_,_,h,c,hc=>by simp only [Rd] at h; subst h; simp at hc; subst hc; rfl
 | .str,_,_,h,c,hc=>by simp only [Rd] at h; subst h; simp at hc; subst hc; rfl
 | .sl _ _,_,_,h,c,hc=>by obtain ⟨A,n,rfl,_⟩:=h; simp at hc; subst hc; rfl
 | .st t,x,cs,h,c,hc=>Rd.one (t:=t) (x:=x) h c hc
 | .pr a b,x,cs,h,c,hc=>by
  obtain ⟨c1,c2,rfl,h1,h2⟩:=h
  rcases yd.1 hc with hc | hc
  ·exact Rd.one h1 c hc
  ·exact Rd.one h2 c hc
 | .ptr _,_,_,h,c,hc=>by obtain ⟨ad,ds,rfl,_⟩:=h; simp at hc; subst hc; rfl
 | .un,_,_,h,c,hc=>by simp only [Rd] at h; subst h; cases hc
 | .fn _ _,_,_,h,c,hc=>by obtain ⟨caps,rfl,_⟩:=h; simp at hc; subst hc; rfl
 | .fs _,_,_,h,c,hc=>by obtain ⟨rfl,_⟩:=h; simp at hc; subst hc; rfl
 | .rd t,x,cs,h,c,hc=>Rd.one (t:=t) (x:=x) h c hc
theorem zc.one:∀ {s:SV} {cs:List Value},zc w0 ok M s cs→∀ c∈cs,c.oneCell'=true
 | .val t x,cs,h,c,hc=>Rd.one (t:=t) (x:=x) h c hc
 | .ref i p,cs,h,c,hc=>by obtain ⟨e,t,l,_,rfl⟩:=h; simp [za] at hc; subst hc; rfl
 | .vw i lo n,cs,h,c,hc=>by obtain ⟨e,t,l,_,_,A,c,rfl,_⟩:=h; simp at hc; subst hc; rfl
 | .ls i,cs,h,c,hc=>by simp only [zc] at h; subst h; simp at hc; subst hc; rfl
 | .st s,cs,h,c,hc=>zc.one (s:=s) h c hc
 | .pr a b,cs,h,c,hc=>by
  obtain ⟨c1,c2,rfl,h1,h2⟩:=h
  rcases yd.1 hc with hc | hc
  ·exact zc.one h1 c hc
  ·exact zc.one h2 c hc
 | .bp i p o,cs,h,c,hc=>by simp only [zc] at h; subst h; simp at hc; subst hc; rfl
 | .ep i p n f o,cs,h,c,hc=>by obtain ⟨e,t,l,g,_,_,_,rfl⟩:=h; simp at hc; subst hc; rfl
 | .lp i n,cs,h,c,hc=>by obtain ⟨_,rfl⟩:=h; simp at hc; subst hc; rfl
 | .clo g x,cs,h,c,hc=>by obtain ⟨caps,rfl,_⟩:=h; simp at hc; subst hc; rfl
 | .no,cs,h,c,hc=>by simp only [zc] at h; subst h; cases hc
 | .tup _,_,h,_,_=>h.elim
 | .cns _ _,_,h,_,_=>h.elim
 | .nl,_,h,_,_=>h.elim
 | .un,_,h,c,hc=>by obtain ⟨v,rfl,e⟩:=h; simp at hc; subst hc; exact e
theorem zu9 {v:Value} (h:v.oneCell'=true):v.cells=#[v]:=by cases v <;> first | rfl | cases h
theorem zq2 {s:SV} {v:Value} {cs:List Value} (h:zc w0 ok M s cs) (hw:z2s s v cs):v.cells=cs.toArray:=by
 rcases hw with ⟨_,rfl⟩ | ⟨_,rfl⟩
 ·rfl
 ·exact zu9 (zc.one h v (by simp))
theorem zjd {s:SV} {v:Value} {t:Ty} (h:zr w0 ok M s v) (hk:s.okW t=true):∃ cs,zc w0 ok M s cs∧z2s s v cs∧v.cells=cs.toArray∧cs.length=t.sz:=by
 obtain ⟨k1,k2,k3,k4⟩:=zgz hk
 rcases z35 h with rfl | ⟨c,vs,rfl,_,_⟩ | ⟨cs,h4,h5⟩
 ·exact absurd rfl k4
 ·exact absurd k2.symm k3
 ·exact ⟨cs,h4,h5,zq2 h4 h5,by rw [zc.len h4,k2]⟩

theorem zdr (w:World) (o:Obj):(w.alloc o).heap[w.heap.size]?=some o:=by
 show (w.heap.push o)[w.heap.size]?=_
 simp
theorem z5q {α:Type} (i:Nat) (x:α) (l:List (Nat×α)):lk ((i,x)::l) i=some x:=by rw [zu,y4 rfl]

theorem zua {s:SV} {cs:List Value} (h:zc w0 ok M s cs):s.count≤16777216:=by
 cases s <;> first | exact y2k _ | exact h.elim
theorem Ext.var {d:Nat} {t:TypeId} {c:SV} {cs:List Value} {nr:List (Nat×Row)} {M1:Map} {s:SV} {v v0:Value} (hd:lk σ.bx d=none) (X:Ext E w0 ok σ w M .un nr [] v0 w M1)
  (hc:z1m w0 ok M1 c cs) (hl:(∀ i∈c.roots,(∃ r,lk σ.rows i=some r)∨∃ r,lk nr i=some r)∧(∀ i∈c.boxes,∃ r,lk σ.bx i=some r))
  (hs:zr w0 ok ⟨M1.loc,z30 M1.blk d w.heap.size,z30 M1.bn d c.count,z30 M1.bw d (E.tyOf t).sz⟩ s v) (hsr:s.roots=[]∧s.boxes=[d]) (hcnt:c.count≤16777216) :
  Ext E w0 ok σ w M s nr [(d,⟨t,c⟩)] v (w.alloc (.cells cs.toArray t)) ⟨M1.loc,z30 M1.blk d w.heap.size,z30 M1.bn d c.count,z30 M1.bw d (E.tyOf t).sz⟩ where
 val:=hs
 kept:=Kept.alloc _ _ _
 locO:=X.locO
 blkO:=fun i hi=>by
  have hn:=zu0 hi
  obtain ⟨e1,e2,e3⟩:=X.blkO i rfl
  exact ⟨(z3e _ _ hn).trans e1,(z3e _ _ hn).trans e2,(z3e _ _ hn).trans e3⟩
 rows:=fun i r hr=>by
  obtain ⟨l,h1,h2,h3,h4,h5,h6⟩:=X.rows i r hr
  have hlt:=z1l h3
  have hmv:∀ k∈z7 (.sl r.e r.t) l,(w.alloc (.cells cs.toArray t)).heap[k]?=w.heap[k]?:=fun k hk=>Below.heap_alloc w _ k (hlt k hk)
  exact ⟨l,h1,h2,z1z hmv h3,h4,fun hz=>z21 hmv (h5 hz),h6⟩
 rr:=X.rr
 boxes:=fun i b hb=>by
  obtain ⟨rfl,rfl⟩:=z59 hb
  refine ⟨cs,zj5 (M:=M1) ⟨fun _ _=>rfl,fun j hj=>?_⟩ hc,?_,fun _=>⟨z1w _ _ _,z1w _ _ _,hcnt⟩,?_⟩
  ·have hn:j≠i:=by
    rintro rfl
    obtain ⟨b,hb⟩:=hl.2 j hj
    rw [hd] at hb; cases hb
   exact ⟨z3e _ _ hn,z3e _ _ hn,z3e _ _ hn⟩
  ·show (w.alloc _).heap[z30 M1.blk i w.heap.size i]?=_
   rw [z1w]
   exact zdr _ _
  ·show w.heap.size≤z30 M1.blk i w.heap.size i
   rw [z1w]
   exact yr _
 bb:=fun i j ⟨b,hb⟩ ⟨b',hb'⟩=>(z59 hb).1.trans (z59 hb').1.symm
 rb:=fun i j ⟨r,hr⟩ ⟨b,hb⟩ hk=>by
  obtain ⟨rfl,_⟩:=z59 hb
  obtain ⟨l,h1,h2,h3,_⟩:=X.rows i r hr
  replace hk:z30 M1.blk j w.heap.size j∈z7 (M1.loc i).1 (M1.loc i).2:=hk
  rw [z1w,h1] at hk
  exact y23 _ (z1l h3 _ hk)
 live:=by
  rw [hsr.1,hsr.2]
  exact ⟨by simp,fun i hi=>.inr ⟨_,by simp at hi; subst hi; rw [zu,y4 rfl]⟩⟩
 liveB:=fun i b hb=>by
  obtain ⟨rfl,rfl⟩:=z59 hb
  exact ⟨hl.1,fun j hj=>.inl (hl.2 j hj)⟩

theorem zq3 (v:Value):Ext E w0 ok σ w M .un [] [] v w M:=Ext.pure trivial ⟨by simp [SV.roots],by simp [SV.boxes]⟩

theorem zub (t:TypeId) (v:Value):(newVar t v).run P w=.ok ⟨w.heap.size,0,none⟩ (w.alloc (.cells v.cells t)):=by
 simp [newVar,newRow]

theorem z18d (R:Rep E w0 ok O σ tm w M) (hat:a.tmps=tm) (T:zh P E.ti=true) {o:Oper} {t:TypeId} {x:Operand} (hop:o.op=.box t x) {out:Out} (h:zw E σ o=some out) {d:Nat} (hf:σ.fresh d out.2.1 out.2.2=true):z18 P E w0 ok σ w M a o out:=by
 unfold zw z1h at h
 rw [hop] at h
 simp only [] at h
 split at h
 ·rename_i s hs
  cases hk:s.okW (E.tyOf t) <;> rw [hk] at h
  ·cases h
  ·cases h
   obtain ⟨h1,h2⟩:=z1b R hat hs
   obtain ⟨cs,h3,h4,h5,h6⟩:=zjd h1 hk
   have hd:=zdl hf (i:=z12 o) ⟨_,z5q _ _ _⟩
   refine ⟨.pointer (some ⟨w.heap.size,0,none⟩),w.alloc (.cells cs.toArray t),_,?_,Ext.var hd (zq3 .nilFunc) (z13 h3) ⟨fun i hi=>.inl (h2.rows i hi),h2.boxes⟩ ⟨_,?_,.inr ⟨rfl,rfl⟩⟩ ⟨rfl,rfl⟩ (zua h3)⟩
   ·unfold execOp
    rw [hop]
    simp only [Instr.box,Sem.run_bind,zub,Result.andThen_ok,Sem.run_pure,h5]
   ·show [_]=[Value.pointer (some ⟨z30 M.blk (z12 o) w.heap.size (z12 o),0,none⟩)]
    rw [z1w]
 ·cases h

theorem z8c:∀ (t:Ty) {z:t.T},t.zero=some z→∃ l:L t,erase t l=z∧za t l=z2j t∧z7 t l=[]∧∀ (F:Frz) w,holds F w t l∧plain w t l
 | .int _,z,h=>by cases h; exact ⟨(0:Int),rfl,rfl,rfl,fun F w=>⟨trivial,trivial⟩⟩
 | .bool,z,h=>by cases h; exact ⟨false,rfl,rfl,rfl,fun F w=>⟨trivial,trivial⟩⟩
 | .str,z,h=>by cases h; exact ⟨([]:List UInt8),rfl,rfl,rfl,fun F w=>⟨trivial,trivial⟩⟩
 | .sl _ _,z,h=>by cases h; exact ⟨(none,0,[]),rfl,rfl,rfl,fun F w=>⟨⟨⟨rfl,rfl⟩,by simp⟩,⟨fun b hb=>(nomatch hb),by simp⟩⟩⟩
 | .st t,z,h=>by
  obtain ⟨l,h1,h2,h3,h4⟩:=z8c t (z:=z) h
  exact ⟨l,h1,h2,h3,h4⟩
 | .pr a b,z,h=>by
  simp only [Ty.zero] at h
  split at h
  ·rename_i x y hx hy
   cases h
   obtain ⟨l1,e1,e2,e3,e4⟩:=z8c a hx
   obtain ⟨l2,g1,g2,g3,g4⟩:=z8c b hy
   exact ⟨(l1,l2),by simp [erase,e1,g1],by simp [za,z2j,e2,g2],by simp [z7,e3,g3],fun F w=>⟨⟨(e4 F w).1,(g4 F w).1⟩,⟨(e4 F w).2,(g4 F w).2⟩⟩⟩
  ·cases h
 | .ptr _,z,h=>by cases h
 | .un,z,h=>by cases h
 | .fn _ _,z,h=>by cases h
 | .fs _,z,h=>by cases h
 | .rd _,z,h=>by cases h

theorem z6q:∀ (t:Ty) {z:t.T},t.zero=some z→t.sz≠0
 | .int _,_,_=>by simp [Ty.sz]
 | .bool,_,_=>by simp [Ty.sz]
 | .str,_,_=>by simp [Ty.sz]
 | .sl _ _,_,_=>by simp [Ty.sz]
 | .st t,z,h=>z6q t (z:=z) h
 | .pr a b,z,h=>by
  simp only [Ty.zero] at h
  split at h
  ·rename_i x y hx hy
   have:=z6q a hx
   simp only [Ty.sz]; omega
  ·cases h
 | .ptr _,z,h=>by cases h
 | .un,z,h=>by cases h
 | .fn _ _,z,h=>by cases h
 | .fs _,z,h=>by cases h
 | .rd _,z,h=>by cases h
theorem zb6 (T:zh P E.ti=true) {t:TypeId} {z:(E.tyOf t).T} (h:(E.tyOf t).zero=some z):∃ i v,P.info? t=some i∧i.zero=some v∧v.cells.toList=z2j (E.tyOf t)∧i.size=(E.tyOf t).sz:=by
 obtain ⟨ti,k1,k2,k3⟩:=z4d T (z6q _ h)
 obtain ⟨⟨i,i1,i2,i3,i4,i5,_⟩,_⟩:=(z2k T k1 k3).1
 rw [k2] at i2 i5
 obtain ⟨v,v1,v2⟩:=i5 z h
 exact ⟨i,v,i1,v1,v2,i2⟩
theorem zuc:∀ (t:Ty),t.fillable=true→t.sz≠0:=by
 intro t h
 cases t with
 | fs ids=>simp [Ty.sz]
 | _ =>
  simp only [Ty.fillable] at h
  obtain ⟨z,hz⟩:=y4l.1 h
  exact z6q _ hz
theorem z18e (T:zh P E.ti=true) {t:TypeId} (h:(E.tyOf t).fillable=true):∃ i v,P.info? t=some i∧i.zero=some v∧i.size=(E.tyOf t).sz:=by
 obtain ⟨ti,k1,k2,k3⟩:=z4d T (zuc _ h)
 obtain ⟨⟨i,i1,i2,i3,i4,i5,i6⟩,_⟩:=(z2k T k1 k3).1
 rw [k2] at i2 i6
 obtain ⟨v,v1⟩:=i6 h
 exact ⟨i,v,i1,v1,i2⟩
theorem z18f {t:Ty} {s:SV} {v:Value} (h:zr w0 ok M s v) (hl:Live σ s):zr w0 ok M (s.asFs t) v∧Live σ (s.asFs t):=by
 unfold SV.asFs
 split
 ·rename_i ids g
  cases hb:ids.any (Nat.beq g)
  ·exact ⟨h,hl⟩
  ·obtain ⟨cs,⟨caps,h1,h2⟩,h3⟩:=h
   have hc:caps=#[]:=by apply Array.ext'; simpa [zc] using h2
   subst hc
   refine ⟨⟨cs,⟨h1,hb⟩,?_⟩,z36 _ _⟩
   rcases h3 with ⟨h4,_⟩ | ⟨_,h4⟩
   ·cases h4
   ·exact .inr ⟨rfl,h4⟩
 ·exact ⟨h,hl⟩

theorem Ext.un' {t:Ty} {l:L t} (n:Nat) (v:Value) (hh:holds (Rd w0 ok) w t l) (hp:plain w t l) (hb:z7 t l=[]):Ext E w0 ok σ w M .un (zv t (erase t l) n).2.1 [] v w { M with loc:=z1e t l n M.loc } :=
 Ext.newRows n (Kept.refl _ _) hh hp (by rw [hb]; exact y3n) (by rw [hb]; simp) trivial ⟨by simp [SV.roots],rfl⟩

theorem z18g (R:Rep E w0 ok O σ tm w M) (hat:a.tmps=tm) (T:zh P E.ti=true) {o:Oper} {t:TypeId} (hop:o.op=.alloc t) {out:Out} (h:zw E σ o=some out) {d:Nat} (hf:σ.fresh d out.2.1 out.2.2=true):z18 P E w0 ok σ w M a o out:=by
 unfold zw z1h at h
 rw [hop] at h
 simp only [] at h
 split at h
 ·rename_i z hz
  cases h
  obtain ⟨i,v,i1,i2,i3,i4⟩:=zb6 T hz
  obtain ⟨l,rfl,l2,l3,l4⟩:=z8c _ hz
  have hd:=zdl hf (i:=z12 o) ⟨_,z5q _ _ _⟩
  have X:Ext E w0 ok σ w M .un _ [] .nilFunc w _:=Ext.un' (E:=E) (w0:=w0) (ok:=ok) (σ:=σ) (M:=M) (32*(z12 o)) .nilFunc (l4 _ w).1 (l4 (fun _ _ _=>False) w).2 l3
  have hrep:zc w0 ok { M with loc:=z1e (E.tyOf t) l (32*(z12 o)) M.loc } _ (za _ l):=z8a (E.tyOf t) l (32*(z12 o)) M.loc (l4 _ w).1 fun _ _ _=>rfl
  obtain ⟨h1,h2⟩:=z8b (E.tyOf t) (erase _ l) (32*(z12 o))
  refine ⟨.pointer (some ⟨w.heap.size,0,none⟩),w.alloc (.cells (za _ l).toArray t),_,?_,Ext.var hd X (z13 hrep) ⟨fun i hi=>.inr ((z3q _ _ _ _).2 (h1 i hi)),by rw [h2]; simp⟩ ⟨_,?_,.inr ⟨rfl,rfl⟩⟩ ⟨rfl,rfl⟩ (zua hrep)⟩
  ·unfold execOp
   rw [hop]
   have:v.cells=(za (E.tyOf t) l).toArray:=by apply y1u; rw [i3,l2]
   have hzero:(zeroValue t).run P w=.ok v w:=by simp [zeroValue,typeInfo,i1,i2]
   simp only [Instr.alloc,hzero,Sem.run_bind,Result.andThen_ok,Sem.run_pure,zub,this]
  ·show [_]=[Value.pointer (some ⟨z30 M.blk (z12 o) w.heap.size (z12 o),0,none⟩)]
   rw [z1w]
 ·cases h

theorem z18h (R:Rep E w0 ok O σ tm w M) (hat:a.tmps=tm) (T:zh P E.ti=true) {o:Oper} {args:Array Operand} {ts:Array TypeId} (hop:o.op=.call ⟨.builtin .len,args,ts⟩) {out:Out} (h:zw E σ o=some out):z18 P E w0 ok σ w M a o out:=by
 unfold zw z1h at h
 rw [hop] at h
 simp only [] at h
 split at h
 ·rename_i x xt hargs hts
  have ha:args=#[x]:=by apply y1u; rw [hargs]
  have ht:ts=#[xt]:=by apply y1u; rw [hts]
  have hex:∀ {v:Value},(Builtin.len_ #[xt] o.type #[a.eval x]).run P w=.ok v w→(execOp a.eval o).run P w=.ok (.value v) w:=by
   intro v hv
   unfold execOp
   rw [hop,ha,ht]
   simp only [resolve,Sem.run_bind,Sem.run_pure,Result.andThen_ok,invoke,builtin]
   have:(#[x].map a.eval)=#[a.eval x]:=by simp
   rw [this,hv]
   rfl
  split at h
  ·rename_i s hs
   rw [z17] at h
   obtain ⟨⟨t,y⟩,hv,h⟩:=yk.1 h
   obtain ⟨cs,h2,h3⟩:=z88 R hat hs hv
   simp only [] at h
   split at h
   ·rename_i y
    cases hz:E.isStr xt <;> rw [hz] at h
    ·cases h
    ·cases h
     have hstr:P.underlying xt=some .string:=by
      unfold Env.isStr at hz
      split at hz
      ·rename_i ht; exact (zb4 T ht).1
      ·cases hz
     have he:=z9m h2 h3
     refine z18.val (t:=.int .i64) (v:=goInt y.length) rfl rfl (hex ?_)
     rw [he]
     simp [Builtin.len_,run_underlying hstr,Result.andThen]
     rfl
   ·rename_i e u y
    cases hz:E.isSl xt <;> rw [hz] at h
    ·cases h
    ·cases h
     have hsl:∃ e,P.underlying xt=some (.slice e):=by
      unfold Env.isSl at hz
      split at hz
      ·rename_i ht; exact ⟨_,(z7a T ht).1⟩
      ·cases hz
     obtain ⟨e',hsl⟩:=hsl
     obtain ⟨A,c,hA,_⟩:=h2
     have:=zdo h3 rfl
     rw [hA] at this
     simp only [y12,y13] at this
     refine z18.val (t:=.int .i64) (v:=goInt (List.length y)) rfl rfl (hex ?_)
     rw [← this]
     simp [Builtin.len_,run_underlying hsl,Result.andThen]
   ·cases h
  ·cases h
 ·cases h

theorem z18i (n c:Int) (b:Nat) (h:0≤n∧n≤c∧c*(b:Int)≤(LIM:Int)) (hb:0<b):0≤n∧n≤c∧(b:Int)*c≤281474976710656∧c≤9223372036854775807∧n.toNat≤c.toNat∧c.toNat≤maxLen:=by
 obtain ⟨h1,h2,h3⟩:=h
 have hl:(LIM:Int)=140737488355328:=rfl
 rw [hl] at h3
 have hpos:(1:Int)≤b:=by omega
 have h4:c*1≤c*(b:Int):=Int.mul_le_mul_of_nonneg_left hpos (by omega)
 rw [y4o (b:Int) c]
 refine ⟨h1,h2,by omega,by omega,by omega,?_⟩
 simp only [maxLen]; omega

theorem z18j (R:Rep E w0 ok O σ tm w M) (hat:a.tmps=tm) (T:zh P E.ti=true) {o:Oper} {t:TypeId} {x y:Operand} (hop:o.op=.makeSlice t x y) {out:Out} (h:zw E σ o=some out):z18 P E w0 ok σ w M a o out:=by
 unfold zw z1h at h
 rw [hop] at h
 simp only [] at h
 split at h
 ·rename_i e e' u b n c ht hx hy
  split at h
  ·rename_i i z hi hz
   obtain ⟨hu,hty⟩:=zgw T ht (fun v h=>by subst h; cases hz)
   split at h
   ·rename_i hb
    cases h
    have hue:u=E.tyOf e:=by injection hty
    subst hue
    obtain ⟨ti,v,i1,i2,i3,i4⟩:=zb6 T hz
    obtain ⟨l,rfl,l2,l3,l4⟩:=z8c _ hz
    obtain ⟨⟨ti',j1,j2,j3,j4,j5⟩,_⟩:=(z2k T hi (by
     intro hsh
     have:=zdm T hi
     unfold z9k at this
     rw [hsh] at this
     simp only [beq_iff_eq] at this
     have h9:E.tyOf e=.un:=by rw [Env.tyOf,hi]; exact this
     have:=z6q _ hz
     rw [h9] at this
     exact this rfl)).1
    rw [i1] at j1
    cases j1
    obtain ⟨hb1,hb2,hbytes,h63,hnc,hcm⟩:=z18i n c i.bytes hb (by omega)
    rw [← j3] at hbytes
    have hrun:=run_make (P:=P) w t e ti v hu i1 i2 .i64 .i64 n c hb1 hb2 hbytes h63
    have hcells:madeCells v.cells (c.toNat*ti.size)=((List.replicate c.toNat l).flatMap (za (E.tyOf e))).toArray:=by
     have hv:v.cells=(za (E.tyOf e) l).toArray:=by apply y1u; rw [i3,l2]
     have hvs:v.cells.size=(E.tyOf e).sz:=by rw [hv]; simp [z1y]
     have hsz:=z6q _ hz
     apply Array.ext
     ·rw [size_madeCells,i4,y1v,z1s,y29]
     ·intro k hk1 hk2
      rw [size_madeCells] at hk1
      simp only [madeCells,Array.getElem_map,Array.getElem_range,hvs]
      have hm:k % (E.tyOf e).sz<(E.tyOf e).sz:=y4m _ (by omega)
      rw [getElem!_pos _ _ (by rw [hvs]; exact hm)]
      have hq:k / (E.tyOf e).sz<c.toNat:=by
       rw [y5t (by omega),← i4]; exact hk1
      have hf:=ziq (E.tyOf e) (List.replicate c.toNat l) (k / (E.tyOf e).sz) l (by simp [hq]) (k % (E.tyOf e).sz) hm
      rw [y3x,y56] at hf
      have h7:((List.replicate c.toNat l).flatMap (za (E.tyOf e)))[k]?=some v.cells[k % (E.tyOf e).sz]:=by
       rw [hf]
       rw [yj (by rw [z1y]; exact hm)]
       simp only [hv,y4p]
      rw [yo] at h7
      obtain ⟨_,h7⟩:=h7
      rw [y4p]
      exact h7.symm
    have hloc:∃ l':L (.sl e (E.tyOf e)),l'=(some w.heap.size,c.toNat,List.replicate n.toNat l):=⟨_,rfl⟩
    obtain ⟨l',hl'⟩:=hloc
    have X:=Ext.row (E:=E) (w0:=w0) (ok:=ok) (σ:=σ) (w:=w) (M:=M) (i:=32*(z12 o)) (e:=e) (t:=E.tyOf e) (xs:=List.replicate n.toNat (erase _ l)) (z:=false) (l:=(some w.heap.size,c.toNat,List.replicate n.toNat l))
     (w':=w.alloc (.cells (madeCells v.cells (c.toNat*ti.size)) e)) (fun _=>⟨fun b hb=>?_,fun y hy=>?_⟩) (Kept.alloc _ _ _) (by simp [erase]) ⟨?_,fun y hy=>?_⟩ ?_ ?_
    ·have he:e'=e:=by injection hty
     subst he
     refine ⟨_,_,_,?_,X⟩
     unfold execOp
     rw [hop]
     simp only [z9l R hat hx,z9l R hat hy,hrun,Sem.run_bind,Result.andThen_ok,Sem.run_pure,y29]
     rfl
    ·cases hb
     exact ⟨_,e,zdr _ _,by rw [size_madeCells,i4]⟩
    ·rw [y4c hy]; exact (l4 (fun _ _ _=>False) _).2
    ·refine ⟨_,(0,0),zdr _ _,?_,?_,?_,?_,.inl rfl⟩
     ·simp only [y29]; exact hnc
     ·exact hcm
     ·rw [size_madeCells,i4]; exact yr _
     ·rw [hcells]
      simp only [y29]
      have:List.replicate c.toNat l=List.replicate n.toNat l++List.replicate (c.toNat-n.toNat) l:=by
       rw [y5u]; congr 1; omega
      rw [this,y2u,y2z (by rw [z1s,y29])]
    ·rw [y4c hy]; exact (l4 _ _).1
    ·simp only [z7,y2f]
     have:(List.replicate n.toNat l).flatMap (z7 (E.tyOf e))=[]:=by
      rw [y2s]
      intro y hy
      rw [y4c hy]; exact l3
     rw [this]; simp
    ·intro k hk
     simp only [z7,y2f,yd,y2l,y1e] at hk
     rcases hk with rfl | ⟨y,hy,hk⟩
     ·exact yr _
     ·rw [y4c hy,l3] at hk; cases hk
   ·cases h
  ·cases h
 ·cases h
end

def zh7:List (List Value)→List (Nat×Value)→List (List Value)
 | segs,[]=>segs
 | segs,(i,v)::r=>zh7 (segs.set i v.cells.toList) r

theorem z18k {α:Type} (segs:List (List α)) (i:Nat) (s:List α) (h:segs[i]?=some s) (t:List α) :
  segs.flatten=(segs.take i).flatten++s++(segs.drop (i+1)).flatten∧(segs.set i t).flatten=(segs.take i).flatten++t++(segs.drop (i+1)).flatten:=by
 induction segs generalizing i with
 | nil=>simp at h
 | cons a l ih =>
  cases i with
  | zero=>simp at h; subst h; simp
  | succ i =>
   simp only [y1q] at h
   obtain ⟨h1,h2⟩:=ih i h
   constructor
   ·simp only [y57,h1,y4q,y4r,y11]
   ·simp only [List.set_cons_succ,y57,h2,y4q,y4r,y11]

theorem z18l (A s C:List Value) (v:Array Value) (h:v.size=s.length):(v.zipIdx.foldl (fun cs (x:Value×Nat)=>cs.setIfInBounds (A.length+x.2) x.1) (A++s++C).toArray)=(A++v.toList++C).toArray:=by
 rw [← Array.foldl_toList,Array.toList_zipIdx]
 obtain ⟨g1,g2⟩:=Go.Great.foldl_set A.length v.toList 0 (A++s++C).toArray
 have hv:v.toList.length=s.length:=by rw [y24,h]
 apply Array.ext_getElem?
 intro k
 rw [g2 k]
 simp only [y2o,hv,y5v,y1v,yl]
 by_cases hA:A.length≤k∧k<A.length+s.length∧k<A.length+s.length+C.length
 ·rw [y4 hA,y11,y1r hA.1,y1w (by rw [hv]; omega)]
 ·rw [y5 hA]
  by_cases hB:k<A.length
  ·rw [y11,y11,y1w hB,y1w hB]
  ·have hC:A.length+s.length≤k:=by omega
   rw [y1r (by rw [yl]; exact hC),y1r (by rw [yl,hv]; exact hC),yl,yl,hv]

def zud (place:Nat→Option (Nat×Nat)) (segs:List (List Value)) (parts:List (Nat×Value)):Prop :=
 ∀ i v,(i,v)∈parts→∃ s,segs[i]?=some s∧place i=some ((segs.take i).flatten.length,s.length)∧v.cells.size=s.length
theorem zue (place:Nat→Option (Nat×Nat)):∀ (parts:List (Nat×Value)) (segs:List (List Value)),zud place segs parts→Instr.fill place segs.flatten.toArray parts=some (zh7 segs parts).flatten.toArray
 | [],segs,_=>rfl
 | (i,v)::r,segs,h=>by
  obtain ⟨s,h1,h2,h3⟩:=h i v (by simp)
  obtain ⟨e1,e2⟩:=z18k segs i s h1 v.cells.toList
  have ht:(segs.set i v.cells.toList).take i=segs.take i:=by rw [y58 (yr _)]
  unfold Instr.fill
  rw [h2]
  simp only []
  have hsz:segs.flatten.toArray.size=(segs.take i).flatten.length+s.length+(segs.drop (i+1)).flatten.length:=by
   rw [y1v,e1]; simp [y44]
  have hle:(segs.take i).flatten.length+s.length≤segs.flatten.toArray.size:=by rw [hsz]; omega
  rw [y5 (by
   rw [h3]
   intro hh
   simp only [y2x,y1d] at hh
   exact hh.elim (fun h=>h rfl) (fun h=>absurd hle (Nat.not_le.2 h)))]
  have hc:(v.cells.zipIdx.foldl (fun cs (x:Value×Nat)=>cs.setIfInBounds ((segs.take i).flatten.length+x.2) x.1) segs.flatten.toArray)=(segs.set i v.cells.toList).flatten.toArray:=by
   rw [e1,e2]
   exact z18l _ s _ v.cells h3
  refine Eq.trans (congrArg (fun z=>Instr.fill place z r) hc) (zue place r (segs.set i v.cells.toList) ?_)
  intro j u hj
  obtain ⟨s',k1,k2,k3⟩:=h j u (by simp [hj])
  by_cases hij:i=j
  ·subst hij
   rw [h1] at k1
   cases k1
   refine ⟨v.cells.toList,?_,?_,?_⟩
   ·rw [y2g]
    exact (yo.1 h1).1
   ·rw [ht,k2]; simp [h3]
   ·simp [k3,h3]
  ·refine ⟨s',by rw [y4d hij]; exact k1,?_,k3⟩
   rw [k2]
   congr 2
   have key:∀ (segs:List (List Value)) (i j:Nat) (t:List Value),segs[i]?=some s→t.length=s.length→(segs.take j).flatten.length=((segs.set i t).take j).flatten.length:=by
    intro segs i j t h1 hl
    induction segs generalizing i j with
    | nil=>simp
    | cons a l ih =>
     cases j with
     | zero=>simp
     | succ j =>
      cases i with
      | zero=>simp at h1; subst h1; simp [hl]
      | succ i=>simp only [y1q] at h1; simp only [List.set_cons_succ,y4q,y57,yl,ih i j h1]
   exact key segs i j _ h1 (by rw [y24,h3])

theorem zuf:∀ (parts:List (Nat×Value)) (segs:List (List Value)) (j:Nat),(parts.map (·.1)).Nodup→(zh7 segs parts)[j]?=match lk parts j with | some v=>(segs[j]?).map fun _=>v.cells.toList | none=>segs[j]?
 | [],segs,j,_=>rfl
 | (i,v)::r,segs,j,hn=>by
  simp only [y1j,y1x] at hn
  simp only [zh7]
  rw [zuf r _ j hn.2,zu]
  by_cases hij:i=j
  ·subst hij
   have hnone:lk r i=none:=ztt fun v hv=>hn.1 (y1f.2 ⟨(i,v),hv,rfl⟩)
   rw [hnone,y4 rfl]
   simp only []
   rw [y4s]
   simp only [y7]
   split
   ·rename_i h; rw [yj h]; rfl
   ·rename_i h; rw [y2v (by omega)]; rfl
  ·rw [y5 hij,y4d hij]

theorem zug:∀ {l:List Nat} {n:Nat},zd0 l n=true→l.Nodup∧(∀ i∈l,i<n)∧∀ a,l.head?=some a→∀ i∈l,a≤i
 | [],n,_=>⟨y3n,by simp,by simp⟩
 | [i],n,h=>⟨by simp,by simp; exact y19 h,by simp⟩
 | i::j::l,n,h=>by
  simp only [zd0,yh] at h
  obtain ⟨h1,h2,h3⟩:=zug h.2
  have hij:i<j:=y19 h.1
  have hj:=h3 j rfl
  refine ⟨y1x.2 ⟨fun hm=>?_,h1⟩,fun k hk=>?_,fun a ha k hk=>?_⟩
  ·have:=hj i hm; omega
  ·rcases yx.1 hk with rfl | hk
   ·have:=h2 j (by simp); omega
   ·exact h2 k hk
  ·simp at ha
   subst ha
   rcases yx.1 hk with rfl | hk
   ·exact yr _
   ·have:=hj k hk; omega

section
variable {P : Program} {E : Env} {w0 : World} {ok O : Nat → Prop} {σ : St} {tm : Array Value} {w : World} {M M' : Map} {a : Act}

def zuh (M':Map) (r:List (Nat×Row)):Prop:=∀ i row,lk r i=some row→row.xs=[]∧row.z=false∧M'.loc i=⟨.sl row.e row.t,(none,0,[])⟩
def z4e (r:List (Nat×Row)) (f:Nat→Loc):Nat→Loc:=fun i=>match lk r i with | some row=>⟨.sl row.e row.t,(none,0,[])⟩ | none=>f i
theorem Ext.nilRows {r:List (Nat×Row)} {s:SV} {v:Value} (h:∀ i row,lk r i=some row→row.xs=[]∧row.z=false) (hs:zr w0 ok { M with loc:=z4e r M.loc } s v)
  (hl:(∀ i∈s.roots,(∃ r,lk σ.rows i=some r)∨∃ r',lk r i=some r')∧(∀ i∈s.boxes,∃ b,lk σ.bx i=some b)):Ext E w0 ok σ w M s r [] v w { M with loc:=z4e r M.loc } where
 val:=hs
 kept:=Kept.refl _ _
 locO:=fun i hi=>by show z4e r M.loc i=_; unfold z4e; rw [hi]
 blkO:=fun _ _=>⟨rfl,rfl,rfl⟩
 rows:=fun i row hr=>by
  obtain ⟨h1,h2⟩:=h i row hr
  exact ⟨(none,0,[]),by show z4e r M.loc i=_; unfold z4e; rw [hr],by rw [h1]; rfl,⟨⟨rfl,rfl⟩,by simp⟩,by simp [z7],fun _=>⟨fun b hb=>(nomatch hb),by simp⟩,by simp [z7]⟩
 rr:=fun i j _ ⟨row,hr⟩ _ k hk=>by
  exfalso
  have:z4e r M.loc i=⟨.sl row.e row.t,(none,0,[])⟩:=by unfold z4e; rw [hr]
  replace hk:k∈z7 (z4e r M.loc i).1 (z4e r M.loc i).2:=hk
  rw [this] at hk
  simp [z7] at hk
 boxes:=fun j b h=>by cases h
 bb:=fun j k ⟨b,h⟩=>by cases h
 rb:=fun j k _ ⟨b,h⟩=>by cases h
 live:=⟨hl.1,fun i hi=>.inl (hl.2 i hi)⟩
 liveB:=fun j b h=>by cases h

theorem z18m (w0:World) {t:Ty} {z:t.T} (hz:t.zero=some z) (n:Nat):∀ i row,lk (zv t z n).2.1 i=some row→row.xs=[]∧row.z=false:=by
 intro i row hr
 obtain ⟨l,rfl,l2,l3,l4⟩:=z8c t hz
 obtain ⟨h1,l',h2,h3⟩:=z7d t l n (fun _=>⟨.un,()⟩) i row hr
 have hb:z7 (.sl row.e row.t) l'=[]:=by have:=h3.bl; rw [l3] at this; exact y5w this
 have hn:l'.1=none:=by
  cases hx:l'.1 with
  | none=>rfl
  | some b=>simp [z7,hx] at hb
 have:=(h3.ho (fun _ _ _=>False) w0 (l4 _ w0).1).1
 rw [hn] at this
 exact ⟨by rw [← h3.er]; simp [erase,this.1],h1⟩

theorem z18n {t:Ty} {z:t.T} (hz:t.zero=some z) (n:Nat) (hM:zuh M' (zv t z n).2.1):zc w0 ok M' (zv t z n).1 (z2j t):=by
 obtain ⟨l,rfl,l2,l3,l4⟩:=z8c t hz
 rw [← l2]
 refine z8a t l n M'.loc (l4 _ w0).1 fun i h1 h2=>?_
 obtain ⟨row,hr⟩:=(z3q t (erase t l) n i).2 ⟨h1,h2⟩
 obtain ⟨_,l',h3,h4⟩:=z7d t l n M'.loc i row hr
 rw [h3,(hM i row hr).2.2]
 have hb:z7 (.sl row.e row.t) l'=[]:=by have:=h4.bl; rw [l3] at this; exact y5w this
 have hn:l'.1=none:=by
  cases hx:l'.1 with
  | none=>rfl
  | some b=>simp [z7,hx] at hb
 have:=(h4.ho (fun _ _ _=>False) w0 (l4 _ w0).1).1
 rw [hn] at this
 obtain ⟨A,c,xs⟩:=l'
 simp only at hn this
 rw [hn,this.1,this.2]

theorem zui {α β:Type} (f:α→β):∀ (l:List (Nat×α)) (i:Nat),lk (l.map fun x=>(x.1,f x.2)) i=(lk l i).map f
 | [],i=>rfl
 | (k,v)::l,i=>by
  rw [y1j,zu,zu,zui f l i]
  split <;> rfl

theorem zh8:∀ (t:Ty) {z:t.T},t.zero=some z→(z2j t).length=t.sz:=by
 intro t z h
 obtain ⟨l,_,l2,_⟩:=z8c t h
 rw [← l2,z1y]

theorem zuj (R:Rep E w0 ok O σ tm w M) (hat:a.tmps=tm) {parts:List (Nat×Operand)} {f:TypeId} {i n m:Nat} {s:SV} {r:List (Nat×Row)} (h:z9a E σ parts f i n=some (s,r,m)) (hk:s.okW (E.tyOf f)=true)
  (hsame:∀ u,Live σ u→Same M M' u) (hM:(∀ j row,lk r j=some row→row.xs=[]∧row.z=false)∧(∀ j row,lk r j=some row→M'.loc j=⟨.sl row.e row.t,(none,0,[])⟩)) :
  ∃ sg,zc w0 ok M' s sg∧sg.length=(E.tyOf f).sz∧(match lk parts i with | some x=>(a.eval x).cells.toList=sg | none=>sg=z2j (E.tyOf f)) ∧
   (∀ i∈s.roots,(∃ r,lk σ.rows i=some r)∨∃ r',lk r i=some r')∧(∀ i∈s.boxes,∃ b,lk σ.bx i=some b):=by
 unfold z9a at h
 split at h
 ·rename_i hp
  split at h
  ·rename_i e t ht
   cases h
   refine ⟨[.slice none 0 0],⟨e,t,(none,0,[]),?_,rfl⟩,by rw [ht]; rfl,?_,fun i hi=>?_,by simp [SV.boxes]⟩
   ·rw [hM.2 n _ (z5q _ _ _)]; rfl
   ·rw [hp]; rfl
   ·simp [SV.roots] at hi; subst hi; exact .inr ⟨_,z5q _ _ _⟩
  ·cases h
 ·rename_i x hx hp
  split at h
  ·rename_i s' hs
   cases h
   obtain ⟨h1,h2⟩:=z1b R hat hs
   obtain ⟨cs,h3,h4,h5,h6⟩:=zjd h1 hk
   refine ⟨cs,z3o (hsame _ h2) h3,h6,?_,fun i hi=>.inl (h2.rows i hi),h2.boxes⟩
   rw [hp]; simp [h5]
  ·cases h
 ·rename_i hp
  split at h
  ·rename_i z hz
   obtain ⟨rfl,rfl,rfl⟩:(zv (E.tyOf f) z n).1=s∧(zv (E.tyOf f) z n).2.1=r∧(zv (E.tyOf f) z n).2.2=m:=by rw [y28 h]; exact ⟨rfl,rfl,rfl⟩
   have hr:zuh M' (zv (E.tyOf f) z n).2.1:=fun j row hr=>⟨(hM.1 j row hr).1,(hM.1 j row hr).2,hM.2 j row hr⟩
   obtain ⟨l1,l2⟩:=z8b (E.tyOf f) z n
   refine ⟨_,z18n hz n hr,zh8 _ hz,by rw [hp],fun i hi=>.inr ((z3q _ _ _ _).2 (l1 i hi)),by rw [l2]; simp⟩
  ·cases h

theorem zuk {parts:List (Nat×Operand)} {f:TypeId} {i n m:Nat} {s:SV} {r:List (Nat×Row)} (h:z9a E σ parts f i n=some (s,r,m)) :
  n≤m∧(∀ j row,lk r j=some row→(row.xs=[]∧row.z=false)∧n≤j∧j<m):=by
 unfold z9a at h
 split at h
 ·split at h
  ·cases h
   refine ⟨Nat.le_succ _,fun j row hr=>?_⟩
   obtain ⟨rfl,rfl⟩:=z59 hr
   exact ⟨⟨rfl,rfl⟩,yr _,y3w _⟩
  ·cases h
 ·split at h
  ·cases h
   exact ⟨yr _,fun j row hr=>by cases hr⟩
  ·cases h
 ·split at h
  ·rename_i z hz
   have hm:=z89 (E.tyOf f) z n
   obtain ⟨rfl,rfl,rfl⟩:(zv (E.tyOf f) z n).1=s∧(zv (E.tyOf f) z n).2.1=r∧(zv (E.tyOf f) z n).2.2=m:=by rw [y28 h]; exact ⟨rfl,rfl,rfl⟩
   rw [hm]
   refine ⟨z3t _ _,fun j row hr=>?_⟩
   exact ⟨z18m default hz n j row hr,(z3q _ _ _ _).1 ⟨row,hr⟩⟩
  ·cases h

theorem zq4 {parts:List (Nat×Operand)}:∀ {fs:List (TypeId×Nat)} {i n:Nat} {s:SV} {r:List (Nat×Row)},z7z E σ parts fs i n=some (s,r) →
  ∀ j row,lk r j=some row→(row.xs=[]∧row.z=false)∧n≤j
 | [],i,n,s,r,h=>by cases h
 | (f,o)::fs,i,n,s,r,h=>by
  simp only [z7z] at h
  split at h
  ·rename_i s1 r1 m hone
   obtain ⟨h1,h2⟩:=zuk hone
   cases hb:s1.okW (E.tyOf f) <;> rw [hb] at h
   ·cases h
   ·simp only [yi] at h
    split at h
    ·cases h
     exact fun j row hr=>⟨(h2 j row hr).1,(h2 j row hr).2.1⟩
    ·split at h
     ·rename_i s' r' hrest
      cases h
      intro j row hr
      rw [z2e] at hr
      cases hq:lk r1 j with
      | some row'=>rw [hq] at hr; cases hr; exact ⟨(h2 j row hq).1,(h2 j row hq).2.1⟩
      | none =>
       rw [hq] at hr
       obtain ⟨h3,h4⟩:=zq4 hrest j row hr
       exact ⟨h3,y1o h1 h4⟩
     ·cases h
  ·cases h

theorem zul (R:Rep E w0 ok O σ tm w M) (hat:a.tmps=tm) {parts:List (Nat×Operand)} (hsame:∀ u,Live σ u→Same M M' u):∀ {fs:List (TypeId×Nat)} {i n:Nat} {s:SV} {r:List (Nat×Row)},z7z E σ parts fs i n=some (s,r) →
  (∀ j row,lk r j=some row→M'.loc j=⟨.sl row.e row.t,(none,0,[])⟩) →
  ∃ segs:List (List Value),segs.length=fs.length∧zc w0 ok M' s segs.flatten ∧
   (∀ k f,fs[k]?=some f→∃ sg,segs[k]?=some sg∧sg.length=(E.tyOf f.1).sz∧(match lk parts (i+k) with | some x=>(a.eval x).cells.toList=sg | none=>sg=z2j (E.tyOf f.1))) ∧
   (∀ i∈s.roots,(∃ r,lk σ.rows i=some r)∨∃ r',lk r i=some r')∧(∀ i∈s.boxes,∃ b,lk σ.bx i=some b)
 | [],i,n,s,r,h,_=>by cases h
 | (f,o)::fs,i,n,s,r,h,hM=>by
  simp only [z7z] at h
  split at h
  ·rename_i s1 r1 m hone
   obtain ⟨h1,h2⟩:=zuk hone
   cases hb:s1.okW (E.tyOf f) <;> rw [hb] at h
   ·cases h
   ·simp only [yi] at h
    split at h
    ·cases h
     obtain ⟨sg,k1,k2,k3,k4,k5⟩:=zuj R hat hone hb hsame ⟨fun j row hr=>(h2 j row hr).1,hM⟩
     refine ⟨[sg],rfl,by simpa using k1,fun k g hg=>?_,k4,k5⟩
     cases k with
     | zero=>simp at hg; subst hg; exact ⟨sg,rfl,k2,k3⟩
     | succ k=>simp at hg
    ·split at h
     ·rename_i s' r' hrest
      cases h
      obtain ⟨sg,k1,k2,k3,k4,k5⟩:=zuj R hat hone hb hsame ⟨fun j row hr=>(h2 j row hr).1,fun j row hr=>hM j row (by rw [z2e,hr]; rfl)⟩
      obtain ⟨segs,g1,g2,g3,g4,g5⟩:=zul R hat hsame hrest (fun j row hr=>hM j row (by
       rw [z2e]
       cases hq:lk r1 j with
       | some row' =>
        have:=(h2 j row' hq).2
        have:=(zq4 hrest j row hr).2
        omega
       | none=>simpa using hr))
      refine ⟨sg::segs,by simp [g1],⟨sg,segs.flatten,by simp,k1,g2⟩,fun k g hg=>?_,fun j hj=>?_,fun j hj=>?_⟩
      ·cases k with
       | zero=>simp at hg; subst hg; exact ⟨sg,rfl,k2,k3⟩
       | succ k =>
        simp only [y1q] at hg ⊢
        have:=g3 k g hg
        rw [show i+1+k=i+(k+1) by omega] at this
        exact this
      ·simp only [SV.roots,yd] at hj
       rcases hj with hj | hj
       ·rcases k4 j hj with h | ⟨q,hq⟩
        ·exact .inl h
        ·exact .inr ⟨q,by rw [z2e,hq]; rfl⟩
       ·rcases g4 j hj with h | ⟨q,hq⟩
        ·exact .inl h
        ·right
         rw [z2e]
         cases hz:lk r1 j with
         | some q'=>exact ⟨q',rfl⟩
         | none=>exact ⟨q,by simpa using hq⟩
      ·simp only [SV.boxes,yd] at hj
       rcases hj with hj | hj
       ·exact k5 j hj
       ·exact g5 j hj
     ·cases h
  ·cases h

theorem zum (tab:List TI):∀ (fs:List (TypeId×Nat)) (n:Nat) (u:Ty),z4w tab fs n=some u →
  z2j u=(fs.map fun f=>z2j (z1a tab f.1)).flatten∧(∀ k f,fs[k]?=some f→f.2=n+((fs.take k).map fun f=>(z1a tab f.1).sz).sum∧(z1a tab f.1).sz≠0)∧(∀ z:u.T,u.zero=some z→∀ f∈fs,∃ z',(z1a tab f.1).zero=some z')
 | [],n,u,h=>by cases h
 | [(f,o)],n,u,h=>by
  simp only [z4w] at h
  cases hb:(Nat.beq o n&&!Nat.beq (z1a tab f).sz 0) <;> rw [hb] at h
  ·cases h
  ·cases h
   simp only [yh,y1h] at hb
   refine ⟨by simp,fun k g hg=>?_,fun z hz g hg=>?_⟩
   ·cases k with
    | zero=>simp at hg; subst hg; exact ⟨by simpa using Nat.eq_of_beq_eq_true hb.1,z4c hb.2⟩
    | succ k=>simp at hg
   ·simp at hg; subst hg; exact ⟨z,hz⟩
 | (f,o)::g::l,n,u,h=>by
  simp only [z4w] at h
  cases hb:(Nat.beq o n&&!Nat.beq (z1a tab f).sz 0) <;> rw [hb] at h
  ·cases h
  ·simp only [yi] at h
   split at h
   ·rename_i u' hu
    cases h
    simp only [yh,y1h] at hb
    obtain ⟨h1,h2,h3⟩:=zum tab (g::l) _ u' hu
    refine ⟨by simp [z2j,h1],fun k q hq=>?_,fun z hz q hq=>?_⟩
    ·cases k with
     | zero=>simp at hq; subst hq; exact ⟨by simpa using Nat.eq_of_beq_eq_true hb.1,z4c hb.2⟩
     | succ k =>
      simp only [y1q] at hq
      obtain ⟨e1,e2⟩:=h2 k q hq
      refine ⟨?_,e2⟩
      rw [e1]
      simp only [y4q,y1j,List.sum_cons]
      omega
    ·simp only [Ty.zero] at hz
     split at hz
     ·rename_i x y hx hy
      rcases yx.1 hq with rfl | hq
      ·exact ⟨x,hx⟩
      ·exact h3 y hy q hq
     ·cases hz
   ·cases h

theorem z18o {α:Type} (l:List (List α)):l.flatten.length=(l.map List.length).sum:=by
 induction l with
 | nil=>rfl
 | cons a l ih=>simp [ih]

theorem z18p (R:Rep E w0 ok O σ tm w M) (hat:a.tmps=tm) (T:zh P E.ti=true) {o:Oper} {t:TypeId} {parts:Array (Nat×Operand)} (hop:o.op=.build t parts) {out:Out} (h:zw E σ o=some out) {d:Nat} (hf:σ.fresh d out.2.1 out.2.2=true):z18 P E w0 ok σ w M a o out:=by
 unfold zw z1h at h
 rw [hop] at h
 simp only [] at h
 split at h
 ·rename_i fs ty b ht
  split at h
  ·rename_i z hz
   cases hr:zd0 (parts.toList.map (·.1)) fs.length <;> rw [hr] at h
   ·cases h
   ·simp only [y14,yn] at h
    split at h
    ·rename_i s r hb
     cases h
     obtain ⟨fields,u,h1,h2,h3,h4,_⟩:=zdn T ht
     obtain ⟨i,v,i1,i2,i3,i4⟩:=zb6 T hz
     have htyof:E.tyOf t=.st u:=by simp [Env.tyOf,ht,h3]
     obtain ⟨n1,n2,_⟩:=zug hr
     obtain ⟨c1,c2,c3⟩:=zum E.ti fs 0 u h4
     have c3':=c3 (cast (by rw [htyof]) z) (by
      have:∀ (t':Ty) (e:t'=.st u) (z:t'.T),t'.zero=some z→u.zero=some (cast (by rw [e]) z):=by
       intro t' e z hz; subst e; exact hz
      exact this _ htyof z hz)
     have hloc:∀ j row,lk r j=some row→(z4e r M.loc) j=⟨.sl row.e row.t,(none,0,[])⟩:=fun j row hr=>by unfold z4e; rw [hr]
     have hsame:∀ x,Live σ x→Same M { M with loc:=z4e r M.loc } x:=fun x hx=>by
      refine ⟨fun i hi=>?_,fun i hi=>⟨rfl,rfl,rfl⟩⟩
      show z4e r M.loc i=_
      unfold z4e
      cases hq:lk r i with
      | none=>rfl
      | some row=>obtain ⟨r',hr'⟩:=hx.rows i hi; rw [zj6 hf ⟨row,hq⟩] at hr'; cases hr'
     obtain ⟨segs,g1,g2,g3,g4,g5⟩:=zul (M':={ M with loc:=z4e r M.loc }) R hat hsame hb hloc
     have hrows:=zq4 hb
     -- the machine's cells
     have hinfo:∀ f∈fs,∃ it,P.info? f.1=some it∧it.size=(z1a E.ti f.1).sz:=by
      intro f hf'
      obtain ⟨k,hk⟩:=y2w hf'
      obtain ⟨ti,k1,k2,k3⟩:=z4d T (t:=f.1) (c2 k f hk).2
      obtain ⟨⟨it,j1,j2,_⟩,_⟩:=(z2k T k1 k3).1
      exact ⟨it,j1,by rw [j2,k2]; rfl⟩
     have hplaces:∃ places:List (Nat×Nat),fields.toList.mapM (fun f=>(P.info? f.type).map fun i=>(f.offset,i.size))=some places∧places=fs.map (fun f=>(f.2,(z1a E.ti f.1).sz)):=by
      have key:∀ (l:List Field) (fs:List (TypeId×Nat)),l.map (fun f=>(f.type,f.offset))=fs→(∀ f∈fs,∃ it,P.info? f.1=some it∧it.size=(z1a E.ti f.1).sz) →
        l.mapM (fun f=>(P.info? f.type).map fun i=>(f.offset,i.size))=some (fs.map (fun f=>(f.2,(z1a E.ti f.1).sz))):=by
       intro l
       induction l with
       | nil=>intro fs hfs _; simp at hfs; subst hfs; rfl
       | cons x l ih =>
        intro fs hfs hin
        subst hfs
        obtain ⟨it,e1,e2⟩:=hin (x.type,x.offset) (by simp)
        have:=ih _ rfl (fun f hf=>hin f (by simp only [y1j,yx]; exact .inr hf))
        simp only [List.mapM_cons,Option.bind_eq_bind,Option.pure_def,e1,y20,y6,this,y1j,e2]
      exact ⟨_,key fields.toList fs h2 hinfo,rfl⟩
     obtain ⟨places,p1,p2⟩:=hplaces
     have hz0:v.cells=((fs.map fun f=>z2j (z1a E.ti f.1)).flatten).toArray:=by
      apply y1u
      rw [i3,htyof]
      simp only [z2j]
      rw [c1]
     have hval:parts.map (fun x=>(x.1,a.eval x.2))=(parts.toList.map fun x=>(x.1,a.eval x.2)).toArray:=by apply y1u; simp
     have zlen:∀ f∈fs,(z2j (z1a E.ti f.1)).length=(z1a E.ti f.1).sz:=fun f hf'=>by
      obtain ⟨z',hz'⟩:=c3' f hf'
      exact zh8 _ hz'
     have hfits:zud (places.toArray[·]?) (fs.map fun f=>z2j (z1a E.ti f.1)) (parts.toList.map fun x=>(x.1,a.eval x.2)):=by
      intro j y hj
      obtain ⟨⟨j',x⟩,hm,he⟩:=y1f.1 hj
      simp only [y2h] at he
      obtain ⟨rfl,rfl⟩:=he
      have hlt:=n2 j' (y1f.2 ⟨_,hm,rfl⟩)
      have hfj:fs[j']?=some fs[j']:=yj hlt
      have hmem:fs[j']∈fs:=y1l hlt
      obtain ⟨sg,s1,s2,s3⟩:=g3 j' _ hfj
      have hlk:lk parts.toList j'=some x:=by
       have key:∀ (l:List (Nat×Operand)),(l.map (·.1)).Nodup→(j',x)∈l→lk l j'=some x:=by
        intro l
        induction l with
        | nil=>intro _ h; cases h
        | cons y l ih =>
         intro hn hm
         simp only [y1j,y1x] at hn
         rw [show y::l=(y.1,y.2)::l from rfl,zu]
         rcases yx.1 hm with rfl | hm
         ·rw [y4 rfl]
         ·rw [y5 (fun e=>hn.1 (y1f.2 ⟨_,hm,e.symm⟩))]
          exact ih hn.2 hm
       exact key _ n1 hm
      rw [y18,hlk] at s3
      refine ⟨z2j (z1a E.ti fs[j'].1),by rw [yu,hfj]; rfl,?_,?_⟩
      ·rw [p2]
       simp only [y5v,yu,hfj,y20,y37,y2h]
       refine ⟨?_,(zlen _ hmem).symm⟩
       rw [(c2 j' _ hfj).1,y18,z18o,← y59,y30]
       congr 1
       apply y3b
       intro f hf'
       exact (zlen f (y2c hf')).symm
      ·rw [zlen _ hmem,← y24,s3,s2]; rfl
     have hfill:=zue (places.toArray[·]?) (parts.toList.map fun x=>(x.1,a.eval x.2)) (fs.map fun f=>z2j (z1a E.ti f.1)) hfits
     have hseg:zh7 (fs.map fun f=>z2j (z1a E.ti f.1)) (parts.toList.map fun x=>(x.1,a.eval x.2))=segs:=by
      apply y3o
      intro j
      rw [zuf _ _ _ (by rw [y30]; exact n1),zui]
      cases hfj:fs[j]? with
      | none =>
       have hle:=y5x.1 hfj
       have hs:segs[j]?=none:=y5x.2 (by omega)
       rw [yu,hfj,hs]
       cases lk parts.toList j <;> rfl
      | some f =>
       obtain ⟨sg,s1,s2,s3⟩:=g3 j f hfj
       rw [y18] at s3
       rw [yu,hfj,s1]
       cases hq:lk parts.toList j with
       | some x=>rw [hq] at s3; simp only [] at s3; simp [s3]
       | none=>rw [hq] at s3; simp only [] at s3; rw [s3]; rfl
     have hrun:(execOp a.eval o).run P w=.ok (.value (.agg segs.flatten.toArray)) w:=by
      unfold execOp
      rw [hop]
      have hb2:P.built t (parts.map fun x=>(x.1,a.eval x.2)).toList=some segs.flatten.toArray:=by
       unfold Program.built
       rw [i1,h1]
       simp only [i2,p1]
       rw [hz0,hval]
       rw [← hseg]
       exact hfill
      have:=run_build (P:=P) w t (parts.map fun x=>(x.1,a.eval x.2)) _ hb2
      simp only [Sem.run_bind]
      rw [this]
      rfl
     refine ⟨_,w,_,hrun,Ext.nilRows (fun i row hr=>(hrows i row hr).1) (z1t (s:=.st s) g2 (.inl ⟨rfl,rfl⟩)) ⟨g4,g5⟩⟩
    ·cases h
  ·cases h
 ·cases h

theorem zun (l:List SV):(z2y l).isCh=true∧(z2y l).count=l.length:=by
 induction l with
 | nil=>exact ⟨rfl,rfl⟩
 | cons a l ih=>exact ⟨rfl,by simp [z2y,SV.count,ih.2]⟩
theorem z18q {l:List SV} (h:∀ s∈l,Live σ s):Live σ (z2y l):=by
 induction l with
 | nil=>exact ⟨by simp [z2y,SV.roots],by simp [z2y,SV.boxes]⟩
 | cons a l ih =>
  have h1:=h a (by simp)
  have h2:=ih fun s hs=>h s (by simp [hs])
  refine ⟨fun i hi=>?_,fun i hi=>?_⟩
  ·simp only [z2y,SV.roots,yd] at hi
   exact hi.elim (h1.rows i) (h2.rows i)
  ·simp only [z2y,SV.boxes,yd] at hi
   exact hi.elim (h1.boxes i) (h2.boxes i)
theorem zuo:∀ {l:List (Nat×Operand)} {n:Nat},zd1 l n=true→l=((l.map (·.2)).zipIdx n).map fun x=>(x.2,x.1)
 | [],n,_=>rfl
 | (i,x)::l,n,h=>by
  simp only [zd1,yh] at h
  have e:=yq h.1
  subst e
  simp only [y1j,List.zipIdx_cons]
  rw [← zuo h.2]

theorem zup {t:Ty}:∀ {l:List SV} {vs:List Value},l.length=vs.length→(∀ (i:Nat) s v,l[i]?=some s→vs[i]?=some v→zr w0 ok M s v∧s.okW t=true) →
  z1m w0 ok M (z2y l) (vs.flatMap fun v=>v.cells.toList)∧∀ v∈vs,v.cells.size=t.sz
 | [],[],_,h=>⟨rfl,by simp⟩
 | s::l,v::vs,hl,h=>by
  obtain ⟨h1,h2⟩:=h 0 s v rfl rfl
  obtain ⟨cs,h3,h4,h5,h6⟩:=zjd h1 h2
  obtain ⟨h7,h8⟩:=zup (l:=l) (vs:=vs) (by simpa using hl) (fun i s v hs hv=>h (i+1) s v hs hv)
  refine ⟨⟨cs,_,by rw [y2b,h5],h3,h7⟩,fun u hu=>?_⟩
  rcases yx.1 hu with rfl | hu
  ·rw [h5]; simpa using h6
  ·exact h8 u hu
 | [],_::_,hl,_=>by simp at hl
 | _::_,[],hl,_=>by simp at hl

theorem z18r (R:Rep E w0 ok O σ tm w M) (hat:a.tmps=tm) (T:zh P E.ti=true) {o:Oper} {t:TypeId} {n:Nat} {parts:Array (Nat×Operand)} (hop:o.op=.buildSlice t n parts) {out:Out} (h:zw E σ o=some out) {d:Nat} (hf:σ.fresh d out.2.1 out.2.2=true):z18 P E w0 ok σ w M a o out:=by
 unfold zw z1h at h
 rw [hop] at h
 simp only [] at h
 split at h
 ·rename_i e ty b ht
  obtain ⟨hu,hty⟩:=z7a T ht
  split at h
  ·rename_i hz
   cases hk:(zd1 parts.toList 0&&(Nat.beq parts.toList.length n&&Nat.ble (n*(E.tyOf e).sz) 16777216)) <;> rw [hk] at h
   ·cases h
   ·simp only [yh] at hk
    obtain ⟨k1,k2,k3⟩:=hk
    have k2:=yq k2
    have k3:=y19 k3
    simp only [yi] at h
    split at h
    ·rename_i l0 hl0
     obtain ⟨e10,e20⟩:=z87 R hat hl0
     obtain ⟨l,hl⟩:∃ l,l=l0.map (SV.asFs (E.tyOf e)):=⟨_,rfl⟩
     rw [← hl] at h
     have e1:l.length=(parts.toList.map (·.2)).length:=by rw [hl,yp,e10]
     have e2:∀ (i:Nat) x s,(parts.toList.map (·.2))[i]?=some x→l[i]?=some s→zr w0 ok M s (a.eval x)∧Live σ s:=by
      intro i x s hx hs
      rw [hl,yu] at hs
      obtain ⟨s0,hs0,rfl⟩:=y10.1 hs
      obtain ⟨q1,q2⟩:=e20 i x s0 hx hs0
      exact z18f q1 q2
     cases hall:l.all (fun s=>s.okW (E.tyOf e)) <;> rw [hall] at h
     ·cases h
     ·cases h
      simp only [y17] at hall
      obtain ⟨i,v,i1,i2,i4⟩:=z18e T hz
      have hlen:l.length=n:=by rw [e1,yp,k2]
      obtain ⟨r1,r2⟩:=zup (w0:=w0) (ok:=ok) (M:=M) (t:=E.tyOf e) (l:=l) (vs:=(parts.toList.map (·.2)).map a.eval) (by rw [e1]; simp) (fun i s v hs hv=>by
       rw [yu,y10] at hv
       obtain ⟨x,hx,rfl⟩:=hv
       exact ⟨(e2 i x s hx hs).1,hall s (ym hs)⟩)
      have hlive:Live σ (z2y l):=z18q fun s hs=>by
       obtain ⟨i,hi⟩:=y2w hs
       have hlt:=(yo.1 hi).1
       exact (e2 i _ s (yj (by rw [← e1]; exact hlt)) hi).2
      have hd:=zdl hf (i:=z12 o) ⟨_,z5q _ _ _⟩
      have hsz:=zuc _ hz
      have hparts:(parts.map fun x=>(x.1,a.eval x.2)).toList=((((parts.toList.map (·.2)).map a.eval).zipIdx 0).map fun x=>(x.2,x.1)):=by
       have:=zuo k1
       rw [Array.toList_map]
       conv=>lhs; rw [this]
       simp only [List.zipIdx_map,y30]
       rfl
      have hfl:=Go.Great.fill_whole (s:=i.size) (by rw [i4]; omega) ((parts.toList.map (·.2)).map a.eval) ((Array.range (n*i.size)).map (v.cells[· % v.cells.size]!)) (fun v hv=>by rw [i4]; exact r2 v hv) (by simp [← k2])
      have hrun:(Instr.buildSlice t n (parts.map fun x=>(x.1,a.eval x.2))).run P w=.ok (.slice (some ⟨w.heap.size,0,none⟩) n n) (w.alloc (.cells (((parts.toList.map (·.2)).map a.eval).flatMap fun v=>v.cells.toList).toArray e)):=by
       rcases y48 n with h0 | h0
       ·have hp:parts=#[]:=by
         apply y1u
         apply y5a
         rw [k2,h0]
        subst hp
        subst h0
        have h00:Array.range 0=#[]:=by apply y1u; simp
        simp [Instr.buildSlice,run_underlying hu,sizeOf,typeInfo,i1,Instr.fill,newRow,h00]
       ·refine run_buildSlice (P:=P) w t e n _ _ i v hu i1 i2 (by rw [i4]; omega) ?_ ?_
        ·rw [i4]
         have:0<n*(E.tyOf e).sz:=Nat.mul_pos h0 (by omega)
         omega
        ·rw [hparts]; exact hfl
      refine ⟨.slice (some ⟨w.heap.size,0,none⟩) n n,_,_,?_,Ext.var hd (zq3 .nilFunc) r1 ⟨fun i hi=>.inl (hlive.rows i hi),hlive.boxes⟩ ⟨_,?_,.inr ⟨rfl,rfl⟩⟩ ⟨rfl,rfl⟩ (by
       rw [(zun l).2,hlen]
       exact y1o (y5b n (by omega)) k3)⟩
      ·unfold execOp
       rw [hop]
       simp only [Sem.run_bind]
       rw [hrun]
       rfl
      ·show [_]=[Value.slice (some ⟨z30 M.blk (z12 o) w.heap.size (z12 o),0,none⟩) (z30 M.bn (z12 o) (z2y l).count (z12 o)) (z30 M.bn (z12 o) (z2y l).count (z12 o))]
       rw [z1w,z1w,(zun l).2,hlen]
    ·cases h
  ·cases h
 ·cases h
end

inductive Wk:SV→SV→Prop where
 | same (s:SV):Wk s s
 | ref (i:Nat) (p:List Step):Wk (.ref i p) .un
 | vw (i a b:Nat):Wk (.vw i a b) .un
 | ls (i:Nat):Wk (.ls i) .un
 | bp (i:Nat) (p:List Bool) (o:Nat):Wk (.bp i p o) .un
 | ep (i:Nat) (p:List Step) (n:Nat) (f:List Bool) (o:Nat):Wk (.ep i p n f o) .un
 | lp (i n:Nat):Wk (.lp i n) .un
 | st {s s':SV}:Wk s s'→Wk (.st s) (.st s')
 | pr {a a' b b':SV}:Wk a a'→Wk b b'→Wk (.pr a b) (.pr a' b')
 | clo (g:FuncId) {s s':SV}:Wk s s'→Wk (.clo g s) (.clo g s')
 | tup {s s':SV}:Wk s s'→Wk (.tup s) (.tup s')
 | cns {a a' b b':SV}:Wk a a'→Wk b b'→Wk (.cns a b) (.cns a' b')

theorem Wk.trans {a b c:SV} (h:Wk a b) (k:Wk b c):Wk a c:=by
 induction h generalizing c with
 | same s=>exact k
 | ref i p=>cases k; exact .ref i p
 | vw i a b=>cases k; exact .vw i a b
 | ls i=>cases k; exact .ls i
 | bp i p o=>cases k; exact .bp i p o
 | ep i p n f o=>cases k; exact .ep i p n f o
 | lp i n=>cases k; exact .lp i n
 | st h ih =>
  cases k with
  | same=>exact .st h
  | st k=>exact .st (ih k)
 | pr h1 h2 ih1 ih2 =>
  cases k with
  | same=>exact .pr h1 h2
  | pr k1 k2=>exact .pr (ih1 k1) (ih2 k2)
 | clo g h ih =>
  cases k with
  | same=>exact .clo g h
  | clo _ k=>exact .clo g (ih k)
 | tup h ih =>
  cases k with
  | same=>exact .tup h
  | tup k=>exact .tup (ih k)
 | cns h1 h2 ih1 ih2 =>
  cases k with
  | same=>exact .cns h1 h2
  | cns k1 k2=>exact .cns (ih1 k1) (ih2 k2)

section
variable {P : Program} {E : Env} {w0 : World} {ok O : Nat → Prop} {σ σ' : St} {tm : Array Value} {w : World} {M : Map}

theorem Wk.V {a b:SV} (h:Wk a b):∀ {cs:List Value},zc w0 ok M a cs→zc w0 ok M b cs:=by
 induction h with
 | same s=>exact fun h=>h
 | ref i p=>intro cs h; have:=zc.one h; obtain ⟨e,t,l,_,rfl⟩:=h; exact ⟨_,rfl,this _ (by simp [za])⟩
 | vw i a b=>intro cs h; have:=zc.one h; obtain ⟨e,t,l,_,_,A,c,rfl,_⟩:=h; exact ⟨_,rfl,this _ (by simp)⟩
 | ls i=>intro cs h; have:=zc.one h; simp only [zc] at h; subst h; exact ⟨_,rfl,this _ (by simp)⟩
 | bp i p o=>intro cs h; have:=zc.one h; simp only [zc] at h; subst h; exact ⟨_,rfl,this _ (by simp)⟩
 | ep i p n f o=>intro cs h; have:=zc.one h; obtain ⟨e,t,l,g,_,_,_,rfl⟩:=h; exact ⟨_,rfl,this _ (by simp)⟩
 | lp i n=>intro cs h; have:=zc.one h; obtain ⟨_,rfl⟩:=h; exact ⟨_,rfl,this _ (by simp)⟩
 | st h ih=>intro cs h; exact ih h
 | pr h1 h2 ih1 ih2=>intro cs h; obtain ⟨c1,c2,rfl,k1,k2⟩:=h; exact ⟨c1,c2,rfl,ih1 k1,ih2 k2⟩
 | clo g h ih=>intro cs h; obtain ⟨caps,rfl,k⟩:=h; exact ⟨caps,rfl,ih k⟩
 | tup h ih=>intro cs h; exact h.elim
 | cns h1 h2 ih1 ih2=>intro cs h; exact h.elim
theorem Wk.isSt {a b:SV} (h:Wk a b):b.isSt=a.isSt:=by cases h <;> rfl
theorem Wk.count {a b:SV} (h:Wk a b):b.count=a.count∧b.isCh=a.isCh:=by
 induction h <;> first | exact ⟨rfl,rfl⟩ | skip
 rename_i ih1 ih2
 exact ⟨by simp [SV.count,ih2.1],rfl⟩
theorem Wk.B {a b:SV} (h:Wk a b):∀ {cs:List Value},z1m w0 ok M a cs→z1m w0 ok M b cs:=by
 induction h with
 | same s=>exact fun h=>h
 | cns h1 h2 ih1 ih2=>intro cs h; obtain ⟨c1,c2,rfl,k1,k2⟩:=h; exact ⟨c1,c2,rfl,h1.V k1,ih2 k2⟩
 | st h=>intro cs k; exact (Wk.st h).V k
 | pr h1 h2=>intro cs k; exact (Wk.pr h1 h2).V k
 | clo g h=>intro cs k; exact (Wk.clo g h).V k
 | tup h=>intro cs k; exact k.elim
 | ref i p=>intro cs k; exact (Wk.ref i p).V k
 | vw i a b=>intro cs k; exact (Wk.vw i a b).V k
 | ls i=>intro cs k; exact (Wk.ls i).V k
 | bp i p o=>intro cs k; exact (Wk.bp i p o).V k
 | ep i p n f o=>intro cs k; exact (Wk.ep i p n f o).V k
 | lp i n=>intro cs k; exact (Wk.lp i n).V k
theorem Wk.Tp {a b:SV} (h:Wk a b):∀ {vs:List Value},z2h w0 ok M a vs→z2h w0 ok M b vs:=by
 induction h with
 | same s=>exact fun h=>h
 | cns h1 h2 ih1 ih2 =>
  intro vs h
  obtain ⟨v,vs',rfl,⟨cs,k1,k2⟩,k3⟩:=h
  exact ⟨v,vs',rfl,⟨cs,h1.V k1,by rw [h1.isSt]; exact k2⟩,ih2 k3⟩
 | _=>intro vs k; exact k.elim
theorem Wk.S {a b:SV} (h:Wk a b) {v:Value} (hs:zr w0 ok M a v):zr w0 ok M b v:=by
 rcases z35 hs with rfl | ⟨c,vs,rfl,rfl,h1⟩ | ⟨cs,h1,h2⟩
 ·cases h; trivial
 ·cases h with
  | same=>exact hs
  | tup k=>exact ⟨vs,rfl,k.Tp h1⟩
 ·exact z1t (h.V h1) (by unfold z2s; rw [h.isSt]; exact h2)

theorem Rep.weaken (R:Rep E w0 ok O σ tm w M) (hs:∀ s v,lk σ'.sl s=some v→(∃ u,lk σ.sl s=some u∧Wk u v)∧Live σ' v) (hr:∀ i r,lk σ'.rows i=some r→lk σ.rows i=some r)
  (hb:∀ i b,lk σ'.bx i=some b→(∃ b0,lk σ.bx i=some b0∧b.ty=b0.ty∧Wk b0.c b.c)∧Live σ' b.c):Rep E w0 ok O σ' tm w M where
 slots:=fun s v h=>by
  obtain ⟨⟨u,h1,h2⟩,_⟩:=hs s v h
  obtain ⟨z,h3,h4⟩:=R.slots s u h1
  exact ⟨z,h3,h2.S h4⟩
 rows:=fun i r h=>R.rows i r (hr i r h)
 boxes:=fun i b h=>by
  obtain ⟨⟨b0,h1,h2,h3⟩,_⟩:=hb i b h
  obtain ⟨cs,h4,h5,h6⟩:=R.boxes i b0 h1
  refine ⟨cs,h3.B h4,by rw [h2]; exact h5,fun hc=>?_⟩
  rw [h3.count.2] at hc
  rw [h3.count.1,h2]
  exact h6 hc
 rr:=fun i j hij ⟨r,h1⟩ ⟨r',h2⟩=>R.rr i j hij ⟨r,hr i r h1⟩ ⟨r',hr j r' h2⟩
 bb:=fun i j hij ⟨b,h1⟩ ⟨b',h2⟩=>by
  obtain ⟨⟨b0,k1,_⟩,_⟩:=hb i b h1
  obtain ⟨⟨b1,k2,_⟩,_⟩:=hb j b' h2
  exact R.bb i j hij ⟨b0,k1⟩ ⟨b1,k2⟩
 rb:=fun i j ⟨r,h1⟩ ⟨b',h2⟩=>by
  obtain ⟨⟨b1,k2,_⟩,_⟩:=hb j b' h2
  exact R.rb i j ⟨r,hr i r h1⟩ ⟨b1,k2⟩
 ownR:=fun i ⟨r,h1⟩=>R.ownR i ⟨r,hr i r h1⟩
 ownB:=fun i ⟨b,h1⟩=>by
  obtain ⟨⟨b0,k1,_⟩,_⟩:=hb i b h1
  exact R.ownB i ⟨b0,k1⟩
 okB:=R.okB
 liveS:=fun s v h=>(hs s v h).2
 liveB:=fun i b h=>(hb i b h).2
 kept:=R.kept
 pin:=fun i hi ⟨r,h1⟩=>R.pin i hi ⟨r,hr i r h1⟩
 pinB:=fun i hi ⟨b,h1⟩=>by
  obtain ⟨⟨b0,k1,_⟩,_⟩:=hb i b h1
  exact R.pinB i hi ⟨b0,k1⟩

theorem z2c {α β:Type} (f:α→β):∀ (l:List (Nat×α)) (i:Nat),lk (z14 f l) i=(lk l i).map f
 | [],i=>rfl
 | (k,v)::l,i=>by
  simp only [z14]
  rw [zu,zu,z2c f l i]
  split <;> rfl
theorem z5a {α:Type}:∀ (l:List (Nat×α)) (n i:Nat),lk (rm l n) i=if n=i then none else lk l i
 | [],n,i=>by simp [rm,lk]
 | (k,v)::l,n,i=>by
  simp only [rm]
  by_cases hk:k=n
  ·subst hk
   simp only [show Nat.beq k k=true by simp,yi]
   rw [z5a l k i,zu]
   split <;> rfl
  ·have:Nat.beq k n=false:=by cases hb:Nat.beq k n with | false=>rfl | true=>exact absurd (yq hb) hk
   simp only [this,yn]
   rw [zu,zu,z5a l n i]
   split
   ·rename_i h1; subst h1; rw [y5 (fun h=>hk h.symm)]
   ·rfl

theorem z4x (i j:Nat):Nat.beq i j=decide (i=j):=by
 by_cases h:i=j
 ·subst h; simp
 ·have:Nat.beq i j=false:=by cases hb:Nat.beq i j with | false=>rfl | true=>exact absurd (yq hb) h
  simp [this,h]

theorem z7e (i:Nat):∀ s:SV,Wk s (s.kill i)∧(∀ j∈(s.kill i).roots,j∈s.roots∧j≠i)∧(∀ j∈(s.kill i).boxes,j∈s.boxes)
 | .val _ _=>⟨.same _,by simp [SV.kill,SV.roots],by simp [SV.kill,SV.boxes]⟩
 | .ref j p=>by
  simp only [SV.kill,z4x]
  by_cases h:i=j
  ·simp only [h,y9,yi]; exact ⟨.ref _ _,by simp [SV.roots],by simp [SV.boxes]⟩
  ·simp only [h,yf,yn]; exact ⟨.same _,by simp [SV.roots]; exact fun e=>h e.symm,by simp [SV.boxes]⟩
 | .vw j a b=>by
  simp only [SV.kill,z4x]
  by_cases h:i=j
  ·simp only [h,y9,yi]; exact ⟨.vw _ _ _,by simp [SV.roots],by simp [SV.boxes]⟩
  ·simp only [h,yf,yn]; exact ⟨.same _,by simp [SV.roots]; exact fun e=>h e.symm,by simp [SV.boxes]⟩
 | .ls j=>⟨.same _,by simp [SV.kill,SV.roots],by simp [SV.kill,SV.boxes]⟩
 | .st s=>by
  obtain ⟨h1,h2,h3⟩:=z7e i s
  exact ⟨.st h1,h2,h3⟩
 | .pr a b=>by
  obtain ⟨h1,h2,h3⟩:=z7e i a
  obtain ⟨k1,k2,k3⟩:=z7e i b
  refine ⟨.pr h1 k1,fun j hj=>?_,fun j hj=>?_⟩
  ·simp only [SV.kill,SV.roots,yd] at hj ⊢
   rcases hj with hj | hj
   ·exact ⟨.inl (h2 j hj).1,(h2 j hj).2⟩
   ·exact ⟨.inr (k2 j hj).1,(k2 j hj).2⟩
  ·simp only [SV.kill,SV.boxes,yd] at hj ⊢
   exact hj.imp (h3 j) (k3 j)
 | .bp _ _ _=>⟨.same _,by simp [SV.kill,SV.roots],by simp [SV.kill,SV.boxes]⟩
 | .ep j p n f o=>by
  simp only [SV.kill,z4x]
  by_cases h:i=j
  ·simp only [h,y9,yi]; exact ⟨.ep _ _ _ _ _,by simp [SV.roots],by simp [SV.boxes]⟩
  ·simp only [h,yf,yn]; exact ⟨.same _,by simp [SV.roots]; exact fun e=>h e.symm,by simp [SV.boxes]⟩
 | .lp _ _=>⟨.same _,by simp [SV.kill,SV.roots],by simp [SV.kill,SV.boxes]⟩
 | .clo g s=>by
  obtain ⟨h1,h2,h3⟩:=z7e i s
  exact ⟨.clo g h1,h2,h3⟩
 | .tup s=>by
  obtain ⟨h1,h2,h3⟩:=z7e i s
  exact ⟨.tup h1,h2,h3⟩
 | .cns a b=>by
  obtain ⟨h1,h2,h3⟩:=z7e i a
  obtain ⟨k1,k2,k3⟩:=z7e i b
  refine ⟨.cns h1 k1,fun j hj=>?_,fun j hj=>?_⟩
  ·simp only [SV.kill,SV.roots,yd] at hj ⊢
   rcases hj with hj | hj
   ·exact ⟨.inl (h2 j hj).1,(h2 j hj).2⟩
   ·exact ⟨.inr (k2 j hj).1,(k2 j hj).2⟩
  ·simp only [SV.kill,SV.boxes,yd] at hj ⊢
   exact hj.imp (h3 j) (k3 j)
 | .nl=>⟨.same _,by simp [SV.kill,SV.roots],by simp [SV.kill,SV.boxes]⟩
 | .no=>⟨.same _,by simp [SV.kill,SV.roots],by simp [SV.kill,SV.boxes]⟩
 | .un=>⟨.same _,by simp [SV.kill,SV.roots],by simp [SV.kill,SV.boxes]⟩

theorem z7f (i:Nat):∀ s:SV,Wk s (s.killB i)∧(∀ j∈(s.killB i).roots,j∈s.roots)∧(∀ j∈(s.killB i).boxes,j∈s.boxes∧j≠i)
 | .val _ _=>⟨.same _,by simp [SV.killB,SV.roots],by simp [SV.killB,SV.boxes]⟩
 | .ref j p=>⟨.same _,by simp [SV.killB,SV.roots],by simp [SV.killB,SV.boxes]⟩
 | .vw j a b=>⟨.same _,by simp [SV.killB,SV.roots],by simp [SV.killB,SV.boxes]⟩
 | .ls j=>by
  simp only [SV.killB,z4x]
  by_cases h:i=j
  ·simp only [h,y9,yi]; exact ⟨.ls _,by simp [SV.roots],by simp [SV.boxes]⟩
  ·simp only [h,yf,yn]; exact ⟨.same _,by simp [SV.roots],by simp [SV.boxes]; exact fun e=>h e.symm⟩
 | .st s=>by
  obtain ⟨h1,h2,h3⟩:=z7f i s
  exact ⟨.st h1,h2,h3⟩
 | .pr a b=>by
  obtain ⟨h1,h2,h3⟩:=z7f i a
  obtain ⟨k1,k2,k3⟩:=z7f i b
  refine ⟨.pr h1 k1,fun j hj=>?_,fun j hj=>?_⟩
  ·simp only [SV.killB,SV.roots,yd] at hj ⊢
   exact hj.imp (h2 j) (k2 j)
  ·simp only [SV.killB,SV.boxes,yd] at hj ⊢
   rcases hj with hj | hj
   ·exact ⟨.inl (h3 j hj).1,(h3 j hj).2⟩
   ·exact ⟨.inr (k3 j hj).1,(k3 j hj).2⟩
 | .bp j p o=>by
  simp only [SV.killB,z4x]
  by_cases h:i=j
  ·simp only [h,y9,yi]; exact ⟨.bp _ _ _,by simp [SV.roots],by simp [SV.boxes]⟩
  ·simp only [h,yf,yn]; exact ⟨.same _,by simp [SV.roots],by simp [SV.boxes]; exact fun e=>h e.symm⟩
 | .ep j p n f o=>⟨.same _,by simp [SV.killB,SV.roots],by simp [SV.killB,SV.boxes]⟩
 | .lp j n=>by
  simp only [SV.killB,z4x]
  by_cases h:i=j
  ·simp only [h,y9,yi]; exact ⟨.lp _ _,by simp [SV.roots],by simp [SV.boxes]⟩
  ·simp only [h,yf,yn]; exact ⟨.same _,by simp [SV.roots],by simp [SV.boxes]; exact fun e=>h e.symm⟩
 | .clo g s=>by
  obtain ⟨h1,h2,h3⟩:=z7f i s
  exact ⟨.clo g h1,h2,h3⟩
 | .tup s=>by
  obtain ⟨h1,h2,h3⟩:=z7f i s
  exact ⟨.tup h1,h2,h3⟩
 | .cns a b=>by
  obtain ⟨h1,h2,h3⟩:=z7f i a
  obtain ⟨k1,k2,k3⟩:=z7f i b
  refine ⟨.cns h1 k1,fun j hj=>?_,fun j hj=>?_⟩
  ·simp only [SV.killB,SV.roots,yd] at hj ⊢
   exact hj.imp (h2 j) (k2 j)
  ·simp only [SV.killB,SV.boxes,yd] at hj ⊢
   rcases hj with hj | hj
   ·exact ⟨.inl (h3 j hj).1,(h3 j hj).2⟩
   ·exact ⟨.inr (k3 j hj).1,(k3 j hj).2⟩
 | .nl=>⟨.same _,by simp [SV.killB,SV.roots],by simp [SV.killB,SV.boxes]⟩
 | .no=>⟨.same _,by simp [SV.killB,SV.roots],by simp [SV.killB,SV.boxes]⟩
 | .un=>⟨.same _,by simp [SV.killB,SV.roots],by simp [SV.killB,SV.boxes]⟩

theorem Rep.mapped (R:Rep E w0 ok O σ tm w M) (f:SV→SV) (hf:∀ s,Wk s (f s)) (hrows:∀ i r,lk σ'.rows i=some r→lk σ.rows i=some r) (hsl:∀ s v,lk σ'.sl s=some v→∃ u,lk σ.sl s=some u∧v=f u)
  (hbx:∀ i b,lk σ'.bx i=some b→∃ u,lk σ.bx i=some u∧b=⟨u.ty,f u.c⟩) (hl:∀ u,Live σ u→Live σ' (f u)):Rep E w0 ok O σ' tm w M :=
 R.weaken (fun s v h=>by
  obtain ⟨u,h1,rfl⟩:=hsl s v h
  exact ⟨⟨u,h1,hf u⟩,hl u (R.liveS s u h1)⟩) hrows (fun i b h=>by
  obtain ⟨u,h1,rfl⟩:=hbx i b h
  exact ⟨⟨u,h1,rfl,hf u.c⟩,hl u.c (R.liveB i u h1)⟩)

theorem Rep.drop (R:Rep E w0 ok O σ tm w M) (i:Nat):Rep E w0 ok O (σ.drop i) tm w M:=by
 refine R.mapped (SV.kill i) (fun s=>(z7e i s).1) (fun j r h=>?_) (fun s v h=>?_) (fun j b h=>?_) (fun u hu=>⟨fun j hj=>?_,fun j hj=>?_⟩)
 ·have h:lk (rm σ.rows i) j=some r:=h
  rw [z5a] at h
  split at h
  ·cases h
  ·exact h
 ·have h:lk (z14 (SV.kill i) σ.sl) s=some v:=h
  rw [z2c] at h
  obtain ⟨u,h1,rfl⟩:=y10.1 h
  exact ⟨u,h1,rfl⟩
 ·have h:lk (z14 (fun b:Bx=>(⟨b.ty,b.c.kill i⟩:Bx)) σ.bx) j=some b:=h
  rw [z2c] at h
  obtain ⟨u,h1,rfl⟩:=y10.1 h
  exact ⟨u,h1,rfl⟩
 ·obtain ⟨h1,h2⟩:=(z7e i u).2.1 j hj
  obtain ⟨r,hr⟩:=hu.rows j h1
  exact ⟨r,by show lk (rm σ.rows i) j=_; rw [z5a,y5 (fun e=>h2 e.symm)]; exact hr⟩
 ·obtain ⟨b,hb⟩:=hu.boxes j ((z7e i u).2.2 j hj)
  exact ⟨_,by show lk (z14 _ σ.bx) j=_; rw [z2c,hb]; rfl⟩
theorem Rep.dropB (R:Rep E w0 ok O σ tm w M) (i:Nat):Rep E w0 ok O (σ.dropB i) tm w M:=by
 refine R.mapped (SV.killB i) (fun s=>(z7f i s).1) (fun j r h=>h) (fun s v h=>?_) (fun j b h=>?_) (fun u hu=>⟨fun j hj=>?_,fun j hj=>?_⟩)
 ·have h:lk (z14 (SV.killB i) σ.sl) s=some v:=h
  rw [z2c] at h
  obtain ⟨u,h1,rfl⟩:=y10.1 h
  exact ⟨u,h1,rfl⟩
 ·have h:lk (z14 (fun b:Bx=>(⟨b.ty,b.c.killB i⟩:Bx)) (rm σ.bx i)) j=some b:=h
  rw [z2c,z5a] at h
  obtain ⟨u,h1,rfl⟩:=y10.1 h
  split at h1
  ·cases h1
  ·exact ⟨u,h1,rfl⟩
 ·exact hu.rows j ((z7f i u).2.1 j hj)
 ·obtain ⟨h1,h2⟩:=(z7f i u).2.2 j hj
  obtain ⟨b,hb⟩:=hu.boxes j h1
  exact ⟨_,by show lk (z14 _ (rm σ.bx i)) j=_; rw [z2c,z5a,y5 (fun e=>h2 e.symm),hb]; rfl⟩
theorem Rep.drops (l:List Nat):∀ {σ:St},Rep E w0 ok O σ tm w M→Rep E w0 ok O (l.foldl St.drop σ) tm w M:=by
 induction l with
 | nil=>exact fun R=>R
 | cons i l ih=>exact fun R=>ih (R.drop i)
theorem Rep.dropsB (l:List Nat):∀ {σ:St},Rep E w0 ok O σ tm w M→Rep E w0 ok O (l.foldl St.dropB σ) tm w M:=by
 induction l with
 | nil=>exact fun R=>R
 | cons i l ih=>exact fun R=>ih (R.dropB i)
theorem Rep.clean (R:Rep E w0 ok O σ tm w M) (d:Nat):Rep E w0 ok O (σ.clean d) tm w M:=by
 have R':=R.drops (σ.rows.filterMap (fun x=>bif Nat.beq (x.1 / 32) d then some x.1 else none))
 unfold St.clean
 simp only []
 split
 ·exact R'.dropB d
 ·exact R'
theorem Rep.fewer (R:Rep E w0 ok O σ tm w M) {sl:List (Nat×SV)} (h:∀ s v,lk sl s=some v→lk σ.sl s=some v):Rep E w0 ok O ⟨sl,σ.rows,σ.bx⟩ tm w M :=
 R.weaken (fun s v hs=>⟨⟨v,h s v hs,.same v⟩,⟨(R.liveS s v (h s v hs)).rows,(R.liveS s v (h s v hs)).boxes⟩⟩) (fun i r h=>h) (fun i b h=>⟨⟨b,h,rfl,.same _⟩,⟨(R.liveB i b h).rows,(R.liveB i b h).boxes⟩⟩)
theorem Rep.le (R:Rep E w0 ok O σ tm w M) (h:Le σ' σ) (hs:∀ s v,lk σ'.sl s=some v→Live σ' v) (hb:∀ i b,lk σ'.bx i=some b→Live σ' b.c):Rep E w0 ok O σ' tm w M :=
 R.weaken (fun s v hv=>⟨⟨v,h.sl s v hv,.same v⟩,hs s v hv⟩) h.rows (fun i b hv=>⟨⟨b,h.bx i b hv,rfl,.same _⟩,hb i b hv⟩)
theorem Rep.putUn (R:Rep E w0 ok O σ tm w M) {d:Option Tmp} (v:Value) (hb:inB d tm):Rep E w0 ok O (σ.put d .un) (z3p tm d v) w M:=by
 have h:=R.add (d:=0) (dst:=d) (nr:=[]) (nb:=[]) (by simp [St.fresh,z4r]) (zq3 v) hb
 exact h
theorem Rep.putSkip (R:Rep E w0 ok O σ tm w M) {d:Option Tmp} (hb:inB d tm):Rep E w0 ok O (σ.put d (.tup .nl)) (z3p tm d undef) w M :=
 R.add (d:=0) (dst:=d) (nr:=[]) (nb:=[]) (by simp [St.fresh,z4r]) (Ext.pure (s:=.tup .nl) ⟨#[],rfl,rfl⟩ ⟨fun i hi=>by simp [SV.roots] at hi,fun i hi=>by simp [SV.boxes] at hi⟩) hb
theorem Rep.world (R:Rep E w0 ok O σ tm w M) {w':World} (h1:w'.heap=w.heap) (h2:w'.os=w.os) (h3:w'.tape=w.tape) (h4:w'.output=w.output):Rep E w0 ok O σ tm w' M where
 slots:=R.slots
 rows:=fun i r h=>by
  obtain ⟨l,k1,k2,k3,k4,k5⟩:=R.rows i r h
  exact ⟨l,k1,k2,z1z (fun k _=>by rw [h1]) k3,k4,fun hz=>z21 (fun k _=>by rw [h1]) (k5 hz)⟩
 boxes:=fun i b h=>by
  obtain ⟨cs,k1,k2,k3⟩:=R.boxes i b h
  exact ⟨cs,k1,by rw [h1]; exact k2,k3⟩
 rr:=R.rr
 bb:=R.bb
 rb:=R.rb
 ownR:=R.ownR
 ownB:=R.ownB
 okB:=R.okB
 liveS:=R.liveS
 liveB:=R.liveB
 kept:=⟨by rw [h2]; exact R.kept.os,by rw [h3]; exact R.kept.tape,by rw [h4]; exact R.kept.output,by rw [h1]; exact R.kept.size,fun k hk ho=>by rw [h1]; exact R.kept.block k hk ho⟩
 pin:=R.pin
 pinB:=R.pinB
end
end Go.Proofs.YtchfjdcfhlhgcaaGreatDoor.Ev
