/- Plain values for a program that runs on a machine: an evaluator of loaded code and the proof that it tells what the machine does (part 7 of 7). No conditions: definitions and lemmas z49 any program. -/
import Derived.Test.YtbipmejjnalmiaaDoorEv6
import Derived.Shelf.SlLaysN
import Derived.Lib.SliceRun
import Derived.Deep.RegionLaw
import Derived.Shelf.Sort.Plain
import Derived.Shelf.Strconv.Itoa4
import Derived.Shelf.Strings.OnBuilder
import Derived.Shelf.Strconv.ErrVarParseInt
import Derived.Laws.BitsLemmas
set_option linter.unusedVariables false
set_option linter.unusedSimpArgs false
/- slices.Delete at elements of whatever make: walked once; as a call that is handed a row. Over any program. -/
namespace Go.Proofs.YtbipmejjnalmiaaDoor.Ev
open Go.Shelf Go.RowKit Go.Lib Go.Proofs
variable {P : Program} {ρ : Ren}

structure DelOK (P:Program) (ρ:Ren) (i0:TypeInfo) (z:Value):Prop where
 mixed:P.follows .mixedOrders=true
 f45:Bears P (ρ.f 45) (SlBodyN.n45 ρ)
 t3:P.underlying (ρ.t 3)=some (TypeDesc.int IntKind.i64)
 a3:∀ w,(isAgg (ρ.t 3)).run P w=.ok false w
 t4:P.underlying (ρ.t 4)=some (TypeDesc.bool)
 a4:∀ w,(isAgg (ρ.t 4)).run P w=.ok false w
 t22:P.underlying (ρ.t 22)=some (TypeDesc.slice (ρ.t 23))
 a22:∀ w,(isAgg (ρ.t 22)).run P w=.ok false w
 i23:P.info? (ρ.t 23)=some i0
 z0:i0.zero=some z
 sz:0<i0.size
 zs:z.cells.size=i0.size
 z1:∀ v∈z.cells.toList,v.oneCell'=true

end Go.Proofs.YtbipmejjnalmiaaDoor.Ev

/- slices.Sort as a call that is handed a row: its contract, out of the shelf's. Over any program. -/
namespace Go.Proofs.YtbipmejjnalmiaaDoor.Ev
open Go.RowKit Go.Sort

end Go.Proofs.YtbipmejjnalmiaaDoor.Ev

/- strconv.FormatInt at the base 10, and strings.Join at a row of the call's own: their contracts, out of the shelf's. Over any program. -/
namespace Go.Proofs.YtbipmejjnalmiaaDoor.Ev
open Go.RowKit Go.Sort

@[reducible] def zvq (P : Program) (name : String) (k : IntKind) (zs : List Int) : Glob P where
 ok:=fun w=>Lib.TabIs P w name k zs
 blk:=fun g=>P.globalNamed name=some g
 lt:=fun w h g hg=>by
  unfold Lib.TabIs World.var? at h
  rw [hg] at h
  simp only [Option.bind_some] at h
  cases hh:w.heap[g]? with
  | none=>rw [hh] at h; cases h
  | some o=>exact (Array.getElem?_eq_some_iff.1 hh).1
 move:=fun w w' h hb=>by
  unfold Lib.TabIs World.var? at h ⊢
  cases hg:P.globalNamed name with
  | none=>rw [hg] at h; cases h
  | some g =>
   rw [hg] at h
   simp only [Option.bind_some] at h ⊢
   rw [hb g hg]
   exact h
theorem zvr {i j:IntKind} {args:List SVal} {x:(Ty.pr (.int i) (.int j)).T} (h:z1j (.pr (.int i) (.int j)) args some=some x):args=[⟨.int i,x.1⟩,⟨.int j,x.2⟩]:=by
 match args with
 | []=>cases h
 | [a] =>
  simp only [z1j,ze] at h
  split at h <;> cases h
 | [a,b] =>
  simp only [z1j,ze] at h
  split at h
  ·rename_i e1
   split at h
   ·rename_i e2
    obtain ⟨ta,xa⟩:=a
    obtain ⟨tb,xb⟩:=b
    simp only at e1 e2 h
    subst e1
    subst e2
    cases h
    rfl
   ·cases h
  ·cases h
 | a::b::c::l =>
  simp only [z1j,ze] at h
  split at h <;> cases h
theorem zvs {i j:IntKind} {n m:Int} {w:World} {vs:List Value} (h:z62 w [⟨.int i,n⟩,⟨.int j,m⟩] vs):vs=[.int i n,.int j m]:=by
 match vs with
 | []=>exact h.elim
 | [a]=>exact h.2.elim
 | [a,b] =>
  obtain ⟨⟨cs,h1,h2⟩,⟨ds,h3,h4⟩,_⟩:=h
  obtain rfl:cs=[.int i n]:=h1
  obtain rfl:ds=[.int j m]:=h3
  rcases h2 with ⟨h,_⟩ | ⟨_,h2⟩
  ·cases h
  rcases h4 with ⟨h,_⟩ | ⟨_,h4⟩
  ·cases h
  cases h2; cases h4; rfl
 | a::b::c::l=>exact h.2.2.elim
def fe_formatInt:FE:=⟨.pr (.int .i64) (.int .i64),1,.str,fun x=>if x.2=10 ∧ -9223372036854775808≤x.1∧x.1≤9223372036854775807 then some (Lib.itoa x.1) else none⟩
theorem zvt {P : Program} [Glob P] {g : FuncId} {fn : Func} {cd : Code} (hf : P.funcs[g]? = some fn) (hb : fn.body = some cd) (hname : (fn.name == "runtime.NumGoroutine") = false)
  (H:∀ (n:Int),-9223372036854775808≤n→n≤9223372036854775807→∀ w,Glob.ok P w→Calls P g #[.int .i64 n,.int .i64 10] w fun e w'=>e=.returned (.string ⟨(Lib.itoa n).toArray⟩)∧∃ k os,w'=grow (w.drewN k) os):zc P g fe_formatInt:=by
 refine zc.new rfl fun args vs w x r hG ha hx hr=>?_
 have e:=zvr hx
 subst e
 have e:=zvs ha
 subst e
 obtain ⟨n,m⟩:=x
 simp only [fe_formatInt] at hr
 split at hr
 ·rename_i hc
  cases hr
  obtain ⟨hm,h0,h1⟩:=hc
  have hm:m=10:=hm
  subst hm
  unfold z24
  rw [z6u hf hb hname]
  refine (H n h0 h1 w hG).mono fun e w' ⟨he,k,os,hw⟩=>?_
  subst he
  have hB:Below w.heap.size w w':=by
   rw [hw]
   refine ⟨rfl,rfl,rfl,by simp [grow,World.drewN],fun k hk=>?_⟩
   show ((w.drewN _).heap++os)[k]?=_
   rw [Array.getElem?_append_left (show k<(w.drewN _).heap.size from hk)]
   rfl
  exact zvo _ hB
 ·cases hr
def zcj (e:TypeId):OC:=⟨⟨[(0,.ref PIN []),(1,.val .str)],[(PIN,e,.str,false)],[]⟩,⟨[(0,.val .str)],[(PIN,e,.str,false)],[]⟩,
 fun x=>if List.length x.2.1.1≤LIM∧(Lib.join x.2.1.1 x.1.2.1).length≤LIM then some ((Lib.join x.2.1.1 x.1.2.1,()),(x.2.1.1,()),()) else none,false⟩
theorem zvu {P : Program} [Glob P] {ti : List TI} {g : FuncId} {fn : Func} {cd : Code} (hf : P.funcs[g]? = some fn) (hb : fn.body = some cd) (hname : (fn.name == "runtime.NumGoroutine") = false) {e : TypeId}
  (H:∀ (bk o c:Nat) (xs:List ByteArray) (sep:ByteArray) (w:World),(∀ (j:Nat) x,xs[j]?=some x→w.cell? ⟨bk,o+j,none⟩=some (.string x))→bk<w.heap.size→xs.length≤140737488355328→xs.length≤c→(Lib.join (xs.map (·.data.toList)) sep.data.toList).length≤140737488355328 →
   Calls P g #[.slice (some ⟨bk,o,none⟩) xs.length c,.string sep] w fun e w'=>e=.returned (.string ⟨(Lib.join (xs.map (·.data.toList)) sep.data.toList).toArray⟩)∧Below w.heap.size w w')
  (Hn:∀ (a:Option Addr) (c:Nat) (sep:ByteArray) (w:World),Calls P g #[.slice a 0 c,.string sep] w fun e w'=>e=.returned (.string ⟨#[]⟩)∧w'=w):z1s P ti g (zcj e):=by
 refine ⟨rfl,fun E hE x y hF w ok O M vs hvl G R=>?_⟩
 obtain ⟨⟨⟨⟩,sep,⟨⟩⟩,⟨xs,⟨⟩⟩,⟨⟩⟩:=x
 simp only [zcj] at hF
 split at hF
 ·rename_i hc
  cases hF
  have hLIM:LIM=140737488355328:=rfl
  obtain ⟨hle,hjl⟩:=hc
  obtain ⟨lx,mx,ex,hx,px,sx⟩:=zvp (P:=P) R (j:=PIN) (e:=e) (t:=.str) (xs:=xs) rfl (s:=0) rfl
  obtain ⟨u1,s1,r1⟩:=R.slots 1 _ rfl
  match vs,hvl with
  | [v0,v1],_ =>
  have ev0:v0=.slice (lx.1.map fun g=>⟨g,0,none⟩) lx.2.2.length lx.2.1:=by simpa using sx
  have s1:v1=u1:=by simpa using s1
  obtain ⟨cs,h1,h2⟩:=r1
  have h1:cs=[.string ⟨sep.toArray⟩]:=h1
  subst h1
  have hv1:v1=.string ⟨sep.toArray⟩:=by
   rw [s1]
   rcases h2 with ⟨h,_⟩ | ⟨_,h⟩
   ·cases h
   ·cases h; rfl
  subst ev0
  subst hv1
  clear s1 h2
  have hid:∀ m:List (List UInt8),m.map (erase .str)=m:=fun m=>List.map_id m
  have ex:lx.2.2=xs:=by rw [← ex]; exact (hid _).symm
  unfold z24
  rw [z6u hf hb hname]
  have fin:∀ (w':World),Below w.heap.size w w'→∃ M' w2 ok2 O2,z27 (zcj e).ch w ok O w2 ok2 O2∧Rep E w2 ok2 O2 ((zcj e).ho.fill ((Lib.join xs sep,()),(xs,()),())) #[.string ⟨(Lib.join xs sep).toArray⟩] w' M':=by
   intro w' hb'
   have R2:=R.freeWorld (w':=w') (bs:=[]) Free.nil (Kept.of_below hb' _)
   refine ⟨M,_,_,_,.refl,R2.slotsTo (σ:=⟨[(0,.ref PIN []),(1,.val .str sep)],[(PIN,⟨e,.str,xs,false⟩)],[]⟩) (tm':=#[.string ⟨(Lib.join xs sep).toArray⟩]) (sl:=[(0,.val .str (Lib.join xs sep))]) fun s v hv=>?_⟩
   rw [zk] at hv
   split at hv
   ·rename_i h
    subst h
    cases hv
    exact ⟨⟨_,rfl,[.string ⟨(Lib.join xs sep).toArray⟩],rfl,.inr ⟨rfl,rfl⟩⟩,⟨by simp [SV.roots],by simp [SV.boxes]⟩⟩
   ·cases hv
  cases hg:lx.1 with
  | none =>
   have h0:=hx.1
   rw [hg] at h0
   have hnil:xs=[]:=by rw [← ex]; exact h0.1
   have hl0:lx.2.2.length=0:=by rw [h0.1]; rfl
   rw [hl0]
   refine (Hn none lx.2.1 ⟨sep.toArray⟩ w).mono fun ee w' ⟨he,hw⟩=>?_
   subst he
   subst hw
   have:=fin w' (Below.refl _ _)
   rw [hnil] at this ⊢
   exact this
  | some b =>
   have h0:=hx.1
   rw [hg] at h0
   obtain ⟨cB,fz,q1,q2,q3,q4,q5,q6⟩:=h0
   have hfm:∀ l:List (List UInt8),l.flatMap (z7 .str)=l.map fun s=>Value.string ⟨s.toArray⟩:=fun l=>by
    induction l with
    | nil=>rfl
    | cons a l ih=>rw [List.flatMap_cons,ih]; rfl
   have h1':(Ty.str).sz=1:=rfl
   rw [h1',Nat.mul_one,hfm] at q5
   have:=H b 0 lx.2.1 (xs.map fun s=>(⟨s.toArray⟩:ByteArray)) ⟨sep.toArray⟩ w (fun j x hj=>by
    rw [List.getElem?_map,Option.map_eq_some_iff] at hj
    obtain ⟨s,hs,rfl⟩:=hj
    have hj':j<lx.2.2.length:=by rw [ex]; exact (List.getElem?_eq_some_iff.1 hs).1
    rw [cell_of_row w b _ cB e fz q1,Nat.zero_add,← Array.getElem?_toList]
    have:=congrArg (fun l=>l[j]?) q5
    simp only [List.getElem?_take_of_lt hj',List.getElem?_map] at this
    rw [this,ex,hs]; rfl) (Array.getElem?_eq_some_iff.1 q1).1 (by rw [List.length_map]; omega) (by rw [List.length_map,← ex]; exact q2) (by simp only [List.map_map]; rw [← hLIM]; simpa [Function.comp_def] using hjl)
   rw [List.length_map,← ex] at this
   refine this.mono fun ee w' ⟨he,hw⟩=>?_
   subst he
   have hj2:Lib.join ((lx.2.2.map fun s=>(⟨s.toArray⟩:ByteArray)).map (·.data.toList)) sep.toArray.toList=Lib.join xs sep:=by
    rw [ex,List.map_map]; simp [Function.comp_def]
   rw [hj2]
   have:=fin w' hw
   exact this
 ·cases hF
end Go.Proofs.YtbipmejjnalmiaaDoor.Ev

/- strconv.ParseInt at the base 10: its answer with its error, out of the shelf's. Over any program. -/
namespace Go.Proofs.YtbipmejjnalmiaaDoor.Ev
open Go.RowKit Go.Sort

@[reducible] def zvv (P : Program) (T : Glob P) (names : List String) : Glob P where
 ok:=fun w=>T.ok w∧∀ n∈names,∃ tp p,w.var? P n=some #[.iface tp p]
 blk:=fun g=>T.blk g∨∃ n∈names,P.globalNamed n=some g
 lt:=fun w h g hg=>by
  rcases hg with hg | ⟨n,hn,hg⟩
  ·exact T.lt w h.1 g hg
  ·obtain ⟨tp,p,hv⟩:=h.2 n hn
   unfold World.var? at hv
   rw [hg] at hv
   simp only [Option.bind_some] at hv
   cases hh:w.heap[g]? with
   | none=>rw [hh] at hv; cases hv
   | some o=>exact (Array.getElem?_eq_some_iff.1 hh).1
 move:=fun w w' h hb=>⟨T.move w w' h.1 fun k hk=>hb k (.inl hk),fun n hn=>by
  obtain ⟨tp,p,hv⟩:=h.2 n hn
  refine ⟨tp,p,?_⟩
  unfold World.var? at hv ⊢
  cases hg:P.globalNamed n with
  | none=>rw [hg] at hv; cases hv
  | some g =>
   rw [hg] at hv
   simp only [Option.bind_some] at hv ⊢
   rw [hb g (.inr ⟨n,hn,hg⟩)]
   exact hv⟩
def prs (s:List UInt8):Int×Bool:=match Lib.parseIntB 64 s with
 | .ok v=>(v,false)
 | .range=>(Lib.intSat 64 s,true)
 | _=>(0,true)
def oc_parseInt:OC:=⟨⟨[(0,.val .str),(1,.val (.int .i64)),(2,.val (.int .i64))],[],[]⟩,⟨[(0,.tup (.cns (.val (.int .i64)) (.cns .er .nl)))],[],[]⟩,
 fun x=>if x.1.2.1=(10:Int)∧x.1.2.2.1=(64:Int)∧List.length x.1.1≤281474976710656 then some ((((prs x.1.1).1,((prs x.1.1).2,())),()),(),()) else none,false⟩
theorem zvw {P : Program} [Glob P] {ti : List TI} {g : FuncId} {fn : Func} {cd : Code} (hf : P.funcs[g]? = some fn) (hb : fn.body = some cd) (hname : (fn.name == "runtime.NumGoroutine") = false) {te tb : TypeId} {tn : TypeId}
  (hv : ∀ w, Glob.ok P w → (∃ tp p, w.var? P "strconv.ErrSyntax" = some #[.iface tp p]) ∧ ∃ tp p, w.var? P "strconv.ErrRange" = some #[.iface tp p])
  (Hok:∀ (s:ByteArray),s.size≤9223372036854775806→∀ (v:Int),Lib.parseIntB 64 s.data.toList=.ok v→∀ w,Calls P g #[.string s,.int .i64 10,.int .i64 64] w fun e w'=>e=.returned (.tuple #[.int .i64 v,.nilIface])∧(w'=w∨∃ t,w'=Lib.bytesWorld w tb t))
  (Hs : ∀ (s : ByteArray), s.size ≤ 281474976710656 → Lib.parseIntB 64 s.data.toList = Lib.parseIntB 64 [] → ∀ (tp : TypeId) (p : Value) (w : World), w.var? P "strconv.ErrSyntax" = some #[.iface tp p] →
   Calls P g #[.string s,.int .i64 10,.int .i64 64] w fun e w'=>∃ N,e=.returned (.tuple #[.int .i64 (0),.iface te (.pointer (some ⟨N,0,none⟩))])∧w.heap.size≤N∧w'.heap[N]?=some (.cells #[.string ⟨#[80,97,114,115,101,73,110,116]⟩,.string s,.iface tp p] tn (0,0))∧Below w.heap.size w w')
  (Hr : ∀ (s : ByteArray), s.size ≤ 281474976710656 → Lib.parseIntB 64 s.data.toList = .range → ∀ (tp : TypeId) (p : Value) (w : World), w.var? P "strconv.ErrRange" = some #[.iface tp p] →
   Calls P g #[.string s,.int .i64 10,.int .i64 64] w fun e w'=>∃ N,e=.returned (.tuple #[.int .i64 (Lib.intSat 64 s.data.toList),.iface te (.pointer (some ⟨N,0,none⟩))])∧w.heap.size≤N∧w'.heap[N]?=some (.cells #[.string ⟨#[80,97,114,115,101,73,110,116]⟩,.string s,.iface tp p] tn (0,0))∧Below w.heap.size w w'):z1s P ti g oc_parseInt:=by
 refine ⟨rfl,fun E hE x y hF w ok O M vs hvl G R=>?_⟩
 obtain ⟨⟨s,b,z,⟨⟩⟩,⟨⟩,⟨⟩⟩:=x
 simp only [oc_parseInt] at hF
 split at hF
 ·rename_i hc
  cases hF
  obtain ⟨hb10,hz64,hlen⟩:=hc
  have hb10:b=(10:Int):=hb10
  have hz64:z=(64:Int):=hz64
  subst hb10 hz64
  obtain ⟨u0,s0,r0⟩:=R.slots 0 _ rfl
  obtain ⟨u1,s1,r1⟩:=R.slots 1 _ rfl
  obtain ⟨u2,s2,r2⟩:=R.slots 2 _ rfl
  match vs,hvl with
  | [v0,v1,v2],_ =>
  have k0:v0=u0:=by simpa using s0
  have k1:v1=u1:=by simpa using s1
  have k2:v2=u2:=by simpa using s2
  clear s0 s1 s2
  have one:∀ {t:Ty} {x:t.T} {u v:Value},t.isSt=false→zh w ok M (.val t x) u→Rd w ok t x [v]→(∀ cs,Rd w ok t x cs→cs=[v])→u=v:=by
   intro t x u v hst ⟨cs,h1,h2⟩ _ hu
   obtain rfl:=hu cs h1
   unfold z2a at h2
   rw [z58,hst] at h2
   have h2:v=u:=by simpa using h2
   exact h2.symm
  have e0:u0=.string ⟨s.toArray⟩:=one (t:=.str) rfl r0 rfl fun cs h=>h
  have e1:u1=.int .i64 10:=one (t:=.int .i64) rfl r1 rfl fun cs h=>h
  have e2:u2=.int .i64 64:=one (t:=.int .i64) rfl r2 rfl fun cs h=>h
  rw [e0] at k0; rw [e1] at k1; rw [e2] at k2
  subst k0 k1 k2
  have hG:Glob.ok P w:=G.1
  obtain ⟨⟨tp1,p1,hv1⟩,tp2,p2,hv2⟩:=hv w hG
  have hsz:(⟨s.toArray⟩:ByteArray).size=s.length:=by simp [ByteArray.size]
  have hda:(⟨s.toArray⟩:ByteArray).data.toList=s:=by simp
  unfold z24
  rw [z6u hf hb hname]
  have fin:∀ (n:Int) (er:Bool) (ev:Value) (w':World),prs s=(n,er)→(er=true→∃ t u,ev=.iface t u)→(er=false→ev=.nilIface)→Below w.heap.size w w' →
    ∃ M' w2 ok2 O2,z27 oc_parseInt.ch w ok O w2 ok2 O2∧Rep E w2 ok2 O2 (oc_parseInt.ho.fill ((((prs s).1,((prs s).2,())),()),(),())) #[.tuple #[.int .i64 n,ev]] w' M':=by
   intro n er ev w' hp h1 h2 hb'
   rw [hp]
   have R2:=R.freeWorld (w':=w') (bs:=[]) Free.nil (Kept.of_below hb' _)
   refine ⟨M,_,_,_,.refl,R2.slotsTo (σ:=⟨[(0,.val .str s),(1,.val (.int .i64) (10:Int)),(2,.val (.int .i64) (64:Int))],[],[]⟩) (tm':=#[.tuple #[.int .i64 n,ev]]) (sl:=[(0,.tup (.cns (.val (.int .i64) n) (.cns (.er er) .nl)))]) fun q v hv=>?_⟩
   rw [zk] at hv
   split at hv
   ·rename_i h
    subst h
    cases hv
    refine ⟨⟨_,rfl,#[.int .i64 n,ev],rfl,.int .i64 n,[ev],rfl,⟨[.int .i64 n],rfl,.inr ⟨rfl,rfl⟩⟩,ev,[],rfl,⟨[ev],⟨ev,rfl,h1,h2⟩,.inr ⟨rfl,rfl⟩⟩,rfl⟩,⟨by simp [SV.roots],by simp [SV.boxes]⟩⟩
   ·cases hv
  show Calls P g #[.string ⟨s.toArray⟩,.int .i64 10,.int .i64 64] w _
  cases hp:Lib.parseIntB 64 s with
  | ok v =>
   refine (Hok ⟨s.toArray⟩ (by rw [hsz]; omega) v (by rw [hda]; exact hp) w).mono fun e w' ⟨he,hw⟩=>?_
   subst he
   refine fin v false .nilIface w' (by unfold prs; rw [hp]) (fun h=>by cases h) (fun _=>rfl) ?_
   rcases hw with rfl | ⟨t,rfl⟩
   ·exact Below.refl _ _
   ·exact Lib.bytesWorld_below w tb t
  | range =>
   refine (Hr ⟨s.toArray⟩ (by rw [hsz]; omega) (by rw [hda]; exact hp) tp2 p2 w hv2).mono fun e w' ⟨N,he,_,_,hw⟩=>?_
   subst he
   rw [hda]
   exact fin _ true _ w' (by unfold prs; rw [hp]) (fun _=>⟨_,_,rfl⟩) (fun h=>by cases h) hw
  | _ =>
   refine (Hs ⟨s.toArray⟩ (by rw [hsz]; omega) (by rw [hda]; exact hp) tp1 p1 w hv1).mono fun e w' ⟨N,he,_,_,hw⟩=>?_
   subst he
   exact fin 0 true _ w' (by unfold prs; rw [hp]) (fun _=>⟨_,_,rfl⟩) (fun h=>by cases h) hw
 ·cases hF

theorem zmq:∃ k:Nat,k=18446744073709551616:=⟨_,rfl⟩
noncomputable def KK:Nat:=Classical.choose zmq
theorem z1n:KK=18446744073709551616:=Classical.choose_spec zmq

theorem z2c {x:Int} (h1 : -9223372036854775808≤x) (h2:x≤9223372036854775807):za x=x:=by
 unfold za; rw [IntKind.wrap_i64]; omega
theorem z1x {i:Nat} (h:i<9223372036854775807):za ((i:Int)+1)=((i+1:Nat):Int):=by
 rw [z2c (by omega) (by omega)]; rfl
theorem z4x:LIM=140737488355328:=rfl

section
variable {α A R : Type}

theorem z5r (xs:List α) {L:Nat→Int→A→R} {I:List α→A→Prop} {G:List α→A→R}
  (h1:∀ n pre x post a,xs=pre++x::post→I pre a→(∀ a',I (pre++[x]) a'→L n ((pre.length+1:Nat):Int) a'=G post a')→xs[pre.length]?=some x→(pre.length:Int)<xs.length→L (n+1) (pre.length:Int) a=G (x::post) a)
  (h2:∀ n a,I xs a→L (n+1) (xs.length:Int) a=G [] a):∀ n,xs.length<n→∀ a,I [] a→L n 0 a=G xs a:=by
 have main:∀ (post pre:List α) (n:Nat),xs=pre++post→post.length<n→∀ a,I pre a→L n (pre.length:Int) a=G post a:=by
  intro post
  induction post with
  | nil =>
   intro pre n hx hn a ha
   obtain ⟨m,rfl⟩:∃ m,n=m+1:=⟨n-1,by simp at hn; omega⟩
   rw [List.append_nil] at hx
   subst hx
   exact h2 m a ha
  | cons x post ih =>
   intro pre n hx hn a ha
   obtain ⟨m,rfl⟩:∃ m,n=m+1:=⟨n-1,by simp at hn; omega⟩
   refine h1 m pre x post a hx ha (fun a' ha'=>?_) (by rw [hx]; simp) (by rw [hx]; simp; omega)
   have:=ih (pre++[x]) m (by rw [hx]; simp) (by simp at hn; omega) a' ha'
   rw [List.length_append] at this
   simpa using this
 intro n hn a ha
 exact main xs [] n rfl hn a ha

theorem zfb (xs:List α) {L:Nat→Int→R} {p:α→Bool} {r e:R}
  (h1:∀ n (i:Nat) x,xs[i]?=some x→(i:Int)<xs.length→L (n+1) (i:Int)=if p x=true then L n ((i+1:Nat):Int) else r)
  (h2:∀ n,L (n+1) (xs.length:Int)=e) {n:Nat} (hn:xs.length<n):L n 0=if xs.all p=true then e else r:=by
 refine z5r (A:=Unit) (L:=fun n i _=>L n i) (I:=fun _ _=>True) (G:=fun l _=>if l.all p=true then e else r) xs ?_ ?_ n hn () trivial
 ·intro n pre x post _ hx _ ih hg hlt
  rw [h1 n pre.length x hg hlt]
  have:=ih () trivial
  by_cases hp:p x=true
  ·rw [if_pos hp,this]; simp [hp]
  ·rw [if_neg hp]; simp [hp]
 ·intro n _ _
  simpa using h2 n
theorem zi6 {L:Nat→Int→R} {b:Nat} {p:Nat→Bool} {r e:R}
  (h1:∀ n (i:Nat),i<b→L (n+1) (i:Int)=if p i=true then L n ((i+1:Nat):Int) else r) (h2:∀ n,L (n+1) (b:Int)=e) {n:Nat} (hn:b<n):L n 0=if (List.range b).all p=true then e else r:=by
 have:=zfb (List.range b) (L:=L) (p:=p) (r:=r) (e:=e) (fun n i x hx hlt=>by
  rw [List.getElem?_range (by simpa using hlt)] at hx
  cases hx
  exact h1 n i (by simpa using hlt)) (by simpa using h2) (n:=n) (by simpa using hn)
 exact this

theorem zmr [DecidableEq α] (a b:List α) (hl:a.length=b.length) {L:Nat→Int→Option Bool}
  (h1:∀ n (i:Nat) x y,a[i]?=some x→b[i]?=some y→(i:Int)<a.length→L (n+1) (i:Int)=if x=y then L n ((i+1:Nat):Int) else some false)
  (h2:∀ n,L (n+1) (a.length:Int)=some true) {n:Nat} (hn:a.length<n):L n 0=some (decide (a=b)):=by
 have hz:(a.zip b).length=a.length:=by simp [hl]
 have:=zfb (a.zip b) (L:=L) (p:=fun z=>decide (z.1=z.2)) (r:=some false) (e:=some true) (fun n i z hz' hlt=>by
  obtain ⟨x,y⟩:=z
  rw [List.getElem?_zip_eq_some] at hz'
  rw [h1 n i x y hz'.1 hz'.2 (by rw [← hz]; exact hlt)]
  by_cases e:x=y <;> simp [e]) (by rw [hz]; exact h2) (n:=n) (by rw [hz]; exact hn)
 rw [this]
 have key:∀ (a b:List α),a.length=b.length→((a.zip b).all fun z=>decide (z.1=z.2))=decide (a=b):=by
  intro a
  induction a with
  | nil=>intro b hb; cases b with | nil=>rfl | cons=>cases hb
  | cons x a ih =>
   intro b hb
   cases b with
   | nil=>cases hb
   | cons y b =>
    simp only [List.zip_cons_cons,List.all_cons,ih b (by simpa using hb)]
    by_cases h:x=y <;> by_cases h':a=b <;> simp [h,h']
 rw [key a b hl]
 by_cases h:a=b <;> simp [h]

def zck (p:α→Bool) (xs:List α):Int:=match xs.findIdx? p with | some i=>(i:Int) | none => -1
theorem zfc (xs:List α) {L:Nat→Int→Option Int} {p:α→Bool}
  (h1:∀ n (i:Nat) x,xs[i]?=some x→(i:Int)<xs.length→L (n+1) (i:Int)=if p x=true then some (i:Int) else L n ((i+1:Nat):Int))
  (h2:∀ n,L (n+1) (xs.length:Int)=some (-1)) {n:Nat} (hn:xs.length<n):L n 0=some (zck p xs):=by
 have:=z5r (A:=Unit) (L:=fun n i _=>L n i) (I:=fun _ _=>True) (G:=fun post _=>some (match post.findIdx? p with | some j=>((xs.length-post.length+j:Nat):Int) | none => -1)) xs ?_ ?_ n hn () trivial
 ·rw [this]
  unfold zck
  cases xs.findIdx? p <;> simp
 ·intro n pre x post _ hx _ ih hg hlt
  have h:=ih () trivial
  rw [h1 n pre.length x hg hlt,List.findIdx?_cons]
  by_cases hp:p x=true
  ·rw [if_pos hp,if_pos hp]
   simp only [hx,List.length_append,List.length_cons]
   congr 2
   omega
  ·rw [if_neg hp,if_neg hp,h]
   cases post.findIdx? p with
   | none=>rfl
   | some j =>
    simp only [hx,List.length_append,List.length_cons,Option.map_some]
    congr 2
    omega
 ·intro n _ _
  exact h2 n
end
end Go.Proofs.YtbipmejjnalmiaaDoor.Ev
