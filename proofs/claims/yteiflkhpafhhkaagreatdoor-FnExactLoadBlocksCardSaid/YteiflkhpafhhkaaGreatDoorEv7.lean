/- Plain values for a program that runs on a machine: an evaluator of loaded code and the proof that it tells what the machine does (part 7 of 7). No conditions: definitions and lemmas z49 any program. -/
import Derived.Test.YteiflkhpafhhkaaGreatDoorEv6
import Derived.Shelf.SlLaysN
import Derived.Lib.SliceRun
import Derived.Deep.RegionLaw
import Derived.Shelf.Sort.Plain
import Derived.Shelf.Strconv.Itoa4
import Derived.Shelf.Strings.OnBuilder
import Derived.Shelf.Strconv.ErrVarParseInt
import Derived.Laws.BitsLemmas
set_option linter.unusedVariables false
set_option linter.unusedSimpArgs false
/- slices.Delete at elements of whatever make: walked once; as a call that is handed a row. Over any program. -/
namespace Go.Proofs.YteiflkhpafhhkaaGreatDoor.Ev
open Go.Shelf Go.RowKit Go.Lib Go.Proofs
variable {P : Program} {ρ : Ren}

structure DelOK (P:Program) (ρ:Ren) (i0:TypeInfo) (z:Value):Prop where
 mixed:P.follows .mixedOrders=true
 f45:Bears P (ρ.f 45) (SlBodyN.n45 ρ)
 t3:P.underlying (ρ.t 3)=some (TypeDesc.int IntKind.i64)
 a3:∀ w,(isAgg (ρ.t 3)).run P w=.ok false w
 t4:P.underlying (ρ.t 4)=some (TypeDesc.bool)
 a4:∀ w,(isAgg (ρ.t 4)).run P w=.ok false w
 t22:P.underlying (ρ.t 22)=some (TypeDesc.slice (ρ.t 23))
 a22:∀ w,(isAgg (ρ.t 22)).run P w=.ok false w
 i23:P.info? (ρ.t 23)=some i0
 z0:i0.zero=some z
 sz:0<i0.size
 zs:z.cells.size=i0.size
 z1:∀ v∈z.cells.toList,v.oneCell'=true

end Go.Proofs.YteiflkhpafhhkaaGreatDoor.Ev

/- slices.Sort as a call that is handed a row: its contract, out of the shelf's. Over any program. -/
namespace Go.Proofs.YteiflkhpafhhkaaGreatDoor.Ev
open Go.RowKit Go.Sort

end Go.Proofs.YteiflkhpafhhkaaGreatDoor.Ev

/- strconv.FormatInt at the base 10, and strings.Join at a row of the call's own: their contracts, out of the shelf's. Over any program. -/
namespace Go.Proofs.YteiflkhpafhhkaaGreatDoor.Ev
open Go.RowKit Go.Sort

@[reducible] def zum (P : Program) (name : String) (k : IntKind) (zs : List Int) : Glob P where
 ok:=fun w=>Lib.TabIs P w name k zs
 blk:=fun g=>P.globalNamed name=some g
 lt:=fun w h g hg=>by
  unfold Lib.TabIs World.var? at h
  rw [hg] at h
  simp only [Option.bind_some] at h
  cases hh:w.heap[g]? with
  | none=>rw [hh] at h; cases h
  | some o=>exact (Array.getElem?_eq_some_iff.1 hh).1
 move:=fun w w' h hb=>by
  unfold Lib.TabIs World.var? at h ⊢
  cases hg:P.globalNamed name with
  | none=>rw [hg] at h; cases h
  | some g =>
   rw [hg] at h
   simp only [Option.bind_some] at h ⊢
   rw [hb g hg]
   exact h
theorem zun {i j:IntKind} {args:List SVal} {x:(Ty.pr (.int i) (.int j)).T} (h:z1g (.pr (.int i) (.int j)) args some=some x):args=[⟨.int i,x.1⟩,⟨.int j,x.2⟩]:=by
 match args with
 | []=>cases h
 | [a] =>
  simp only [z1g,ze] at h
  split at h <;> cases h
 | [a,b] =>
  simp only [z1g,ze] at h
  split at h
  ·rename_i e1
   split at h
   ·rename_i e2
    obtain ⟨ta,xa⟩:=a
    obtain ⟨tb,xb⟩:=b
    simp only at e1 e2 h
    subst e1
    subst e2
    cases h
    rfl
   ·cases h
  ·cases h
 | a::b::c::l =>
  simp only [z1g,ze] at h
  split at h <;> cases h
theorem zuo {i j:IntKind} {n m:Int} {w:World} {vs:List Value} (h:z5z w [⟨.int i,n⟩,⟨.int j,m⟩] vs):vs=[.int i n,.int j m]:=by
 match vs with
 | []=>exact h.elim
 | [a]=>exact h.2.elim
 | [a,b] =>
  obtain ⟨⟨cs,h1,h2⟩,⟨ds,h3,h4⟩,_⟩:=h
  obtain rfl:cs=[.int i n]:=h1
  obtain rfl:ds=[.int j m]:=h3
  rcases h2 with ⟨h,_⟩ | ⟨_,h2⟩
  ·cases h
  rcases h4 with ⟨h,_⟩ | ⟨_,h4⟩
  ·cases h
  cases h2; cases h4; rfl
 | a::b::c::l=>exact h.2.2.elim
def fe_formatInt:FE:=⟨.pr (.int .i64) (.int .i64),1,.str,fun x=>if x.2=10 ∧ -9223372036854775808≤x.1∧x.1≤9223372036854775807 then some (Lib.itoa x.1) else none⟩
theorem zup {P : Program} [Glob P] {g : FuncId} {fn : Func} {cd : Code} (hf : P.funcs[g]? = some fn) (hb : fn.body = some cd) (hname : (fn.name == "runtime.NumGoroutine") = false)
  (H:∀ (n:Int),-9223372036854775808≤n→n≤9223372036854775807→∀ w,Glob.ok P w→Calls P g #[.int .i64 n,.int .i64 10] w fun e w'=>e=.returned (.string ⟨(Lib.itoa n).toArray⟩)∧∃ k os,w'=grow (w.drewN k) os):zc P g fe_formatInt:=by
 refine zc.new rfl fun args vs w x r hG ha hx hr=>?_
 have e:=zun hx
 subst e
 have e:=zuo ha
 subst e
 obtain ⟨n,m⟩:=x
 simp only [fe_formatInt] at hr
 split at hr
 ·rename_i hc
  cases hr
  obtain ⟨hm,h0,h1⟩:=hc
  have hm:m=10:=hm
  subst hm
  unfold z1x
  rw [z6u hf hb hname]
  refine (H n h0 h1 w hG).mono fun e w' ⟨he,k,os,hw⟩=>?_
  subst he
  have hB:Below w.heap.size w w':=by
   rw [hw]
   refine ⟨rfl,rfl,rfl,by simp [grow,World.drewN],fun k hk=>?_⟩
   show ((w.drewN _).heap++os)[k]?=_
   rw [Array.getElem?_append_left (show k<(w.drewN _).heap.size from hk)]
   rfl
  exact zm6 _ hB
 ·cases hr
end Go.Proofs.YteiflkhpafhhkaaGreatDoor.Ev

/- strconv.ParseInt at the base 10: its answer with its error, out of the shelf's. Over any program. -/
namespace Go.Proofs.YteiflkhpafhhkaaGreatDoor.Ev
open Go.RowKit Go.Sort

@[reducible] def zuq (P : Program) (T : Glob P) (names : List String) : Glob P where
 ok:=fun w=>T.ok w∧∀ n∈names,∃ tp p,w.var? P n=some #[.iface tp p]
 blk:=fun g=>T.blk g∨∃ n∈names,P.globalNamed n=some g
 lt:=fun w h g hg=>by
  rcases hg with hg | ⟨n,hn,hg⟩
  ·exact T.lt w h.1 g hg
  ·obtain ⟨tp,p,hv⟩:=h.2 n hn
   unfold World.var? at hv
   rw [hg] at hv
   simp only [Option.bind_some] at hv
   cases hh:w.heap[g]? with
   | none=>rw [hh] at hv; cases hv
   | some o=>exact (Array.getElem?_eq_some_iff.1 hh).1
 move:=fun w w' h hb=>⟨T.move w w' h.1 fun k hk=>hb k (.inl hk),fun n hn=>by
  obtain ⟨tp,p,hv⟩:=h.2 n hn
  refine ⟨tp,p,?_⟩
  unfold World.var? at hv ⊢
  cases hg:P.globalNamed n with
  | none=>rw [hg] at hv; cases hv
  | some g =>
   rw [hg] at hv
   simp only [Option.bind_some] at hv ⊢
   rw [hb g (.inr ⟨n,hn,hg⟩)]
   exact hv⟩
def prs (s:List UInt8):Int×Bool:=match Lib.parseIntB 64 s with
 | .ok v=>(v,false)
 | .range=>(Lib.intSat 64 s,true)
 | _=>(0,true)
def oc_parseInt:OC:=⟨⟨[(0,.val .str),(1,.val (.int .i64)),(2,.val (.int .i64))],[],[]⟩,⟨[(0,.tup (.cns (.val (.int .i64)) (.cns .er .nl)))],[],[]⟩,
 fun x=>if x.1.2.1=(10:Int)∧x.1.2.2.1=(64:Int)∧List.length x.1.1≤281474976710656 then some ((((prs x.1.1).1,((prs x.1.1).2,())),()),(),()) else none,false⟩
theorem zur {P : Program} [Glob P] {ti : List TI} {g : FuncId} {fn : Func} {cd : Code} (hf : P.funcs[g]? = some fn) (hb : fn.body = some cd) (hname : (fn.name == "runtime.NumGoroutine") = false) {te tb : TypeId} {tn : TypeId}
  (hv : ∀ w, Glob.ok P w → (∃ tp p, w.var? P "strconv.ErrSyntax" = some #[.iface tp p]) ∧ ∃ tp p, w.var? P "strconv.ErrRange" = some #[.iface tp p])
  (Hok:∀ (s:ByteArray),s.size≤9223372036854775806→∀ (v:Int),Lib.parseIntB 64 s.data.toList=.ok v→∀ w,Calls P g #[.string s,.int .i64 10,.int .i64 64] w fun e w'=>e=.returned (.tuple #[.int .i64 v,.nilIface])∧(w'=w∨∃ t,w'=Lib.bytesWorld w tb t))
  (Hs : ∀ (s : ByteArray), s.size ≤ 281474976710656 → Lib.parseIntB 64 s.data.toList = Lib.parseIntB 64 [] → ∀ (tp : TypeId) (p : Value) (w : World), w.var? P "strconv.ErrSyntax" = some #[.iface tp p] →
   Calls P g #[.string s,.int .i64 10,.int .i64 64] w fun e w'=>∃ N,e=.returned (.tuple #[.int .i64 (0),.iface te (.pointer (some ⟨N,0,none⟩))])∧w.heap.size≤N∧w'.heap[N]?=some (.cells #[.string ⟨#[80,97,114,115,101,73,110,116]⟩,.string s,.iface tp p] tn (0,0))∧Below w.heap.size w w')
  (Hr : ∀ (s : ByteArray), s.size ≤ 281474976710656 → Lib.parseIntB 64 s.data.toList = .range → ∀ (tp : TypeId) (p : Value) (w : World), w.var? P "strconv.ErrRange" = some #[.iface tp p] →
   Calls P g #[.string s,.int .i64 10,.int .i64 64] w fun e w'=>∃ N,e=.returned (.tuple #[.int .i64 (Lib.intSat 64 s.data.toList),.iface te (.pointer (some ⟨N,0,none⟩))])∧w.heap.size≤N∧w'.heap[N]?=some (.cells #[.string ⟨#[80,97,114,115,101,73,110,116]⟩,.string s,.iface tp p] tn (0,0))∧Below w.heap.size w w'):z22 P ti g oc_parseInt:=by
 refine ⟨rfl,fun E hE x y hF w ok O M vs hvl G R=>?_⟩
 obtain ⟨⟨s,b,z,⟨⟩⟩,⟨⟩,⟨⟩⟩:=x
 simp only [oc_parseInt] at hF
 split at hF
 ·rename_i hc
  cases hF
  obtain ⟨hb10,hz64,hlen⟩:=hc
  have hb10:b=(10:Int):=hb10
  have hz64:z=(64:Int):=hz64
  subst hb10 hz64
  obtain ⟨u0,s0,r0⟩:=R.slots 0 _ rfl
  obtain ⟨u1,s1,r1⟩:=R.slots 1 _ rfl
  obtain ⟨u2,s2,r2⟩:=R.slots 2 _ rfl
  match vs,hvl with
  | [v0,v1,v2],_ =>
  have k0:v0=u0:=by simpa using s0
  have k1:v1=u1:=by simpa using s1
  have k2:v2=u2:=by simpa using s2
  clear s0 s1 s2
  have one:∀ {t:Ty} {x:t.T} {u v:Value},t.isSt=false→zh w ok M (.val t x) u→Rd w ok t x [v]→(∀ cs,Rd w ok t x cs→cs=[v])→u=v:=by
   intro t x u v hst ⟨cs,h1,h2⟩ _ hu
   obtain rfl:=hu cs h1
   unfold z25 at h2
   rw [z57,hst] at h2
   have h2:v=u:=by simpa using h2
   exact h2.symm
  have e0:u0=.string ⟨s.toArray⟩:=one (t:=.str) rfl r0 rfl fun cs h=>h
  have e1:u1=.int .i64 10:=one (t:=.int .i64) rfl r1 rfl fun cs h=>h
  have e2:u2=.int .i64 64:=one (t:=.int .i64) rfl r2 rfl fun cs h=>h
  rw [e0] at k0; rw [e1] at k1; rw [e2] at k2
  subst k0 k1 k2
  have hG:Glob.ok P w:=G.1
  obtain ⟨⟨tp1,p1,hv1⟩,tp2,p2,hv2⟩:=hv w hG
  have hsz:(⟨s.toArray⟩:ByteArray).size=s.length:=by simp [ByteArray.size]
  have hda:(⟨s.toArray⟩:ByteArray).data.toList=s:=by simp
  unfold z1x
  rw [z6u hf hb hname]
  have fin:∀ (n:Int) (er:Bool) (ev:Value) (w':World),prs s=(n,er)→(er=true→∃ t u,ev=.iface t u)→(er=false→ev=.nilIface)→Below w.heap.size w w' →
    ∃ M' w2 ok2 O2,z26 oc_parseInt.ch w ok O w2 ok2 O2∧Rep E w2 ok2 O2 (oc_parseInt.ho.fill ((((prs s).1,((prs s).2,())),()),(),())) #[.tuple #[.int .i64 n,ev]] w' M':=by
   intro n er ev w' hp h1 h2 hb'
   rw [hp]
   have R2:=R.freeWorld (w':=w') (bs:=[]) Free.nil (Kept.of_below hb' _)
   refine ⟨M,_,_,_,.refl,R2.slotsTo (σ:=⟨[(0,.val .str s),(1,.val (.int .i64) (10:Int)),(2,.val (.int .i64) (64:Int))],[],[]⟩) (tm':=#[.tuple #[.int .i64 n,ev]]) (sl:=[(0,.tup (.cns (.val (.int .i64) n) (.cns (.er er) .nl)))]) fun q v hv=>?_⟩
   rw [zk] at hv
   split at hv
   ·rename_i h
    subst h
    cases hv
    refine ⟨⟨_,rfl,#[.int .i64 n,ev],rfl,.int .i64 n,[ev],rfl,⟨[.int .i64 n],rfl,.inr ⟨rfl,rfl⟩⟩,ev,[],rfl,⟨[ev],⟨ev,rfl,h1,h2⟩,.inr ⟨rfl,rfl⟩⟩,rfl⟩,⟨by simp [SV.roots],by simp [SV.boxes]⟩⟩
   ·cases hv
  show Calls P g #[.string ⟨s.toArray⟩,.int .i64 10,.int .i64 64] w _
  cases hp:Lib.parseIntB 64 s with
  | ok v =>
   refine (Hok ⟨s.toArray⟩ (by rw [hsz]; omega) v (by rw [hda]; exact hp) w).mono fun e w' ⟨he,hw⟩=>?_
   subst he
   refine fin v false .nilIface w' (by unfold prs; rw [hp]) (fun h=>by cases h) (fun _=>rfl) ?_
   rcases hw with rfl | ⟨t,rfl⟩
   ·exact Below.refl _ _
   ·exact Lib.bytesWorld_below w tb t
  | range =>
   refine (Hr ⟨s.toArray⟩ (by rw [hsz]; omega) (by rw [hda]; exact hp) tp2 p2 w hv2).mono fun e w' ⟨N,he,_,_,hw⟩=>?_
   subst he
   rw [hda]
   exact fin _ true _ w' (by unfold prs; rw [hp]) (fun _=>⟨_,_,rfl⟩) (fun h=>by cases h) hw
  | _ =>
   refine (Hs ⟨s.toArray⟩ (by rw [hsz]; omega) (by rw [hda]; exact hp) tp1 p1 w hv1).mono fun e w' ⟨N,he,_,_,hw⟩=>?_
   subst he
   exact fin 0 true _ w' (by unfold prs; rw [hp]) (fun _=>⟨_,_,rfl⟩) (fun h=>by cases h) hw
 ·cases hF

theorem zm7:∃ k:Nat,k=18446744073709551616:=⟨_,rfl⟩
noncomputable def KK:Nat:=Classical.choose zm7
theorem z2r:KK=18446744073709551616:=Classical.choose_spec zm7

theorem z14 {x:Int} (h1 : -9223372036854775808≤x) (h2:x≤9223372036854775807):z7 x=x:=by
 unfold z7; rw [IntKind.wrap_i64]; omega
theorem z2s {i:Nat} (h:i<9223372036854775807):z7 ((i:Int)+1)=((i+1:Nat):Int):=by
 rw [z14 (by omega) (by omega)]; rfl
theorem z64:LIM=140737488355328:=rfl

section
variable {α A R : Type}

theorem z8u (xs:List α) {L:Nat→Int→A→R} {I:List α→A→Prop} {G:List α→A→R}
  (h1:∀ n pre x post a,xs=pre++x::post→I pre a→(∀ a',I (pre++[x]) a'→L n ((pre.length+1:Nat):Int) a'=G post a')→xs[pre.length]?=some x→(pre.length:Int)<xs.length→L (n+1) (pre.length:Int) a=G (x::post) a)
  (h2:∀ n a,I xs a→L (n+1) (xs.length:Int) a=G [] a):∀ n,xs.length<n→∀ a,I [] a→L n 0 a=G xs a:=by
 have main:∀ (post pre:List α) (n:Nat),xs=pre++post→post.length<n→∀ a,I pre a→L n (pre.length:Int) a=G post a:=by
  intro post
  induction post with
  | nil =>
   intro pre n hx hn a ha
   obtain ⟨m,rfl⟩:∃ m,n=m+1:=⟨n-1,by simp at hn; omega⟩
   rw [List.append_nil] at hx
   subst hx
   exact h2 m a ha
  | cons x post ih =>
   intro pre n hx hn a ha
   obtain ⟨m,rfl⟩:∃ m,n=m+1:=⟨n-1,by simp at hn; omega⟩
   refine h1 m pre x post a hx ha (fun a' ha'=>?_) (by rw [hx]; simp) (by rw [hx]; simp; omega)
   have:=ih (pre++[x]) m (by rw [hx]; simp) (by simp at hn; omega) a' ha'
   rw [List.length_append] at this
   simpa using this
 intro n hn a ha
 exact main xs [] n rfl hn a ha

theorem zhp (xs:List α) {L:Nat→Int→R} {p:α→Bool} {r e:R}
  (h1:∀ n (i:Nat) x,xs[i]?=some x→(i:Int)<xs.length→L (n+1) (i:Int)=if p x=true then L n ((i+1:Nat):Int) else r)
  (h2:∀ n,L (n+1) (xs.length:Int)=e) {n:Nat} (hn:xs.length<n):L n 0=if xs.all p=true then e else r:=by
 refine z8u (A:=Unit) (L:=fun n i _=>L n i) (I:=fun _ _=>True) (G:=fun l _=>if l.all p=true then e else r) xs ?_ ?_ n hn () trivial
 ·intro n pre x post _ hx _ ih hg hlt
  rw [h1 n pre.length x hg hlt]
  have:=ih () trivial
  by_cases hp:p x=true
  ·rw [if_pos hp,this]; simp [hp]
  ·rw [if_neg hp]; simp [hp]
 ·intro n _ _
  simpa using h2 n
theorem zus [DecidableEq α] (a b:List α) (hl:a.length=b.length) {L:Nat→Int→Option Bool}
  (h1:∀ n (i:Nat) x y,a[i]?=some x→b[i]?=some y→(i:Int)<a.length→L (n+1) (i:Int)=if x=y then L n ((i+1:Nat):Int) else some false)
  (h2:∀ n,L (n+1) (a.length:Int)=some true) {n:Nat} (hn:a.length<n):L n 0=some (decide (a=b)):=by
 have hz:(a.zip b).length=a.length:=by simp [hl]
 have:=zhp (a.zip b) (L:=L) (p:=fun z=>decide (z.1=z.2)) (r:=some false) (e:=some true) (fun n i z hz' hlt=>by
  obtain ⟨x,y⟩:=z
  rw [List.getElem?_zip_eq_some] at hz'
  rw [h1 n i x y hz'.1 hz'.2 (by rw [← hz]; exact hlt)]
  by_cases e:x=y <;> simp [e]) (by rw [hz]; exact h2) (n:=n) (by rw [hz]; exact hn)
 rw [this]
 have key:∀ (a b:List α),a.length=b.length→((a.zip b).all fun z=>decide (z.1=z.2))=decide (a=b):=by
  intro a
  induction a with
  | nil=>intro b hb; cases b with | nil=>rfl | cons=>cases hb
  | cons x a ih =>
   intro b hb
   cases b with
   | nil=>cases hb
   | cons y b =>
    simp only [List.zip_cons_cons,List.all_cons,ih b (by simpa using hb)]
    by_cases h:x=y <;> by_cases h':a=b <;> simp [h,h']
 rw [key a b hl]
 by_cases h:a=b <;> simp [h]

end
end Go.Proofs.YteiflkhpafhhkaaGreatDoor.Ev
