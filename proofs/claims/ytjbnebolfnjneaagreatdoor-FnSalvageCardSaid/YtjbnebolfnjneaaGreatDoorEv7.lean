/- Plain values for a program that runs on a machine: an evaluator of loaded code and the proof that it tells what the machine does (part 7 of 7). No conditions: definitions and lemmas z4r any program. -/
import Derived.Test.YtjbnebolfnjneaaGreatDoorEv6
import Derived.Shelf.SlLaysN
import Derived.Lib.SliceRun
import Derived.Deep.RegionLaw
import Derived.Shelf.Sort.Plain
import Derived.Shelf.Strconv.Itoa4
import Derived.Shelf.Strings.OnBuilder
import Derived.Shelf.Strconv.ErrVarParseInt
import Derived.Laws.BitsLemmas
set_option linter.unusedVariables false
set_option linter.unusedSimpArgs false
/- slices.Delete at elements of whatever make: walked once; as a call that is handed a row. Over any program. -/
namespace Go.Proofs.YtjbnebolfnjneaaGreatDoor.Ev
open Go.Shelf Go.RowKit Go.Lib Go.Proofs
variable {P : Program} {ρ : Ren}

structure DelOK (P:Program) (ρ:Ren) (i0:TypeInfo) (z:Value):Prop where
 mixed:P.follows .mixedOrders=true
 f45:Bears P (ρ.f 45) (SlBodyN.n45 ρ)
 t3:P.underlying (ρ.t 3)=some (TypeDesc.int IntKind.i64)
 a3:∀ w,(isAgg (ρ.t 3)).run P w=.ok false w
 t4:P.underlying (ρ.t 4)=some (TypeDesc.bool)
 a4:∀ w,(isAgg (ρ.t 4)).run P w=.ok false w
 t22:P.underlying (ρ.t 22)=some (TypeDesc.slice (ρ.t 23))
 a22:∀ w,(isAgg (ρ.t 22)).run P w=.ok false w
 i23:P.info? (ρ.t 23)=some i0
 z0:i0.zero=some z
 sz:0<i0.size
 zs:z.cells.size=i0.size
 z1:∀ v∈z.cells.toList,v.oneCell'=true

end Go.Proofs.YtjbnebolfnjneaaGreatDoor.Ev

/- slices.Sort as a call that is handed a row: its contract, out of the shelf's. Over any program. -/
namespace Go.Proofs.YtjbnebolfnjneaaGreatDoor.Ev
open Go.RowKit Go.Sort

end Go.Proofs.YtjbnebolfnjneaaGreatDoor.Ev

/- strconv.FormatInt at the base 10, and strings.Join at a row of the call's own: their contracts, out of the shelf's. Over any program. -/
namespace Go.Proofs.YtjbnebolfnjneaaGreatDoor.Ev
open Go.RowKit Go.Sort

@[reducible] def zzz (P : Program) (name : String) (k : IntKind) (zs : List Int) : Glob P where
 ok:=fun w=>Lib.TabIs P w name k zs
 blk:=fun g=>P.globalNamed name=some g
 lt:=fun w h g hg=>by
  unfold Lib.TabIs World.var? at h
  rw [hg] at h
  simp only [Option.bind_some] at h
  cases hh:w.heap[g]? with
  | none=>rw [hh] at h; cases h
  | some o=>exact (Array.getElem?_eq_some_iff.1 hh).1
 move:=fun w w' h hb=>by
  unfold Lib.TabIs World.var? at h ⊢
  cases hg:P.globalNamed name with
  | none=>rw [hg] at h; cases h
  | some g =>
   rw [hg] at h
   simp only [Option.bind_some] at h ⊢
   rw [hb g hg]
   exact h
theorem z100 {i j:IntKind} {args:List SVal} {x:(Ty.pr (.int i) (.int j)).T} (h:z1p (.pr (.int i) (.int j)) args some=some x):args=[⟨.int i,x.1⟩,⟨.int j,x.2⟩]:=by
 match args with
 | []=>cases h
 | [a] =>
  simp only [z1p,zf] at h
  split at h <;> cases h
 | [a,b] =>
  simp only [z1p,zf] at h
  split at h
  ·rename_i e1
   split at h
   ·rename_i e2
    obtain ⟨ta,xa⟩:=a
    obtain ⟨tb,xb⟩:=b
    simp only at e1 e2 h
    subst e1
    subst e2
    cases h
    rfl
   ·cases h
  ·cases h
 | a::b::c::l =>
  simp only [z1p,zf] at h
  split at h <;> cases h
theorem z101 {i j:IntKind} {n m:Int} {w:World} {vs:List Value} (h:z6m w [⟨.int i,n⟩,⟨.int j,m⟩] vs):vs=[.int i n,.int j m]:=by
 match vs with
 | []=>exact h.elim
 | [a]=>exact h.2.elim
 | [a,b] =>
  obtain ⟨⟨cs,h1,h2⟩,⟨ds,h3,h4⟩,_⟩:=h
  obtain rfl:cs=[.int i n]:=h1
  obtain rfl:ds=[.int j m]:=h3
  rcases h2 with ⟨h,_⟩ | ⟨_,h2⟩
  ·cases h
  rcases h4 with ⟨h,_⟩ | ⟨_,h4⟩
  ·cases h
  cases h2; cases h4; rfl
 | a::b::c::l=>exact h.2.2.elim
def fe_formatInt:FE:=⟨.pr (.int .i64) (.int .i64),1,.str,fun x=>if x.2=10 ∧ -9223372036854775808≤x.1∧x.1≤9223372036854775807 then some (Lib.itoa x.1) else none⟩
theorem z102 {P : Program} [Glob P] {g : FuncId} {fn : Func} {cd : Code} (hf : P.funcs[g]? = some fn) (hb : fn.body = some cd) (hname : (fn.name == "runtime.NumGoroutine") = false)
  (H:∀ (n:Int),-9223372036854775808≤n→n≤9223372036854775807→∀ w,Glob.ok P w→Calls P g #[.int .i64 n,.int .i64 10] w fun e w'=>e=.returned (.string ⟨(Lib.itoa n).toArray⟩)∧∃ k os,w'=grow (w.drewN k) os):zc P g fe_formatInt:=by
 refine zc.new rfl fun args vs w x r hG ha hx hr=>?_
 have e:=z100 hx
 subst e
 have e:=z101 ha
 subst e
 obtain ⟨n,m⟩:=x
 simp only [fe_formatInt] at hr
 split at hr
 ·rename_i hc
  cases hr
  obtain ⟨hm,h0,h1⟩:=hc
  have hm:m=10:=hm
  subst hm
  unfold z25
  rw [z7l hf hb hname]
  refine (H n h0 h1 w hG).mono fun e w' ⟨he,k,os,hw⟩=>?_
  subst he
  have hB:Below w.heap.size w w':=by
   rw [hw]
   refine ⟨rfl,rfl,rfl,by simp [grow,World.drewN],fun k hk=>?_⟩
   show ((w.drewN _).heap++os)[k]?=_
   rw [Array.getElem?_append_left (show k<(w.drewN _).heap.size from hk)]
   rfl
  exact zp1 _ hB
 ·cases hr
end Go.Proofs.YtjbnebolfnjneaaGreatDoor.Ev

/- strconv.ParseInt at the base 10: its answer with its error, out of the shelf's. Over any program. -/
namespace Go.Proofs.YtjbnebolfnjneaaGreatDoor.Ev
open Go.RowKit Go.Sort


theorem zp3:∃ k:Nat,k=18446744073709551616:=⟨_,rfl⟩
noncomputable def KK:Nat:=Classical.choose zp3
theorem z18:KK=18446744073709551616:=Classical.choose_spec zp3

theorem z11 {x:Int} (h1 : -9223372036854775808≤x) (h2:x≤9223372036854775807):z7 x=x:=by
 unfold z7; rw [IntKind.wrap_i64]; omega
theorem z19 {i:Nat} (h:i<9223372036854775807):z7 ((i:Int)+1)=((i+1:Nat):Int):=by
 rw [z11 (by omega) (by omega)]; rfl
theorem z2t:LIM=140737488355328:=rfl

section
variable {α A R : Type}

theorem z69 (xs:List α) {L:Nat→Int→A→R} {I:List α→A→Prop} {G:List α→A→R}
  (h1:∀ n pre x post a,xs=pre++x::post→I pre a→(∀ a',I (pre++[x]) a'→L n ((pre.length+1:Nat):Int) a'=G post a')→xs[pre.length]?=some x→(pre.length:Int)<xs.length→L (n+1) (pre.length:Int) a=G (x::post) a)
  (h2:∀ n a,I xs a→L (n+1) (xs.length:Int) a=G [] a):∀ n,xs.length<n→∀ a,I [] a→L n 0 a=G xs a:=by
 have main:∀ (post pre:List α) (n:Nat),xs=pre++post→post.length<n→∀ a,I pre a→L n (pre.length:Int) a=G post a:=by
  intro post
  induction post with
  | nil =>
   intro pre n hx hn a ha
   obtain ⟨m,rfl⟩:∃ m,n=m+1:=⟨n-1,by simp at hn; omega⟩
   rw [List.append_nil] at hx
   subst hx
   exact h2 m a ha
  | cons x post ih =>
   intro pre n hx hn a ha
   obtain ⟨m,rfl⟩:∃ m,n=m+1:=⟨n-1,by simp at hn; omega⟩
   refine h1 m pre x post a hx ha (fun a' ha'=>?_) (by rw [hx]; simp) (by rw [hx]; simp; omega)
   have:=ih (pre++[x]) m (by rw [hx]; simp) (by simp at hn; omega) a' ha'
   rw [List.length_append] at this
   simpa using this
 intro n hn a ha
 exact main xs [] n rfl hn a ha

theorem zbg (xs:List α) {L:Nat→Int→R} {p:α→Bool} {r e:R}
  (h1:∀ n (i:Nat) x,xs[i]?=some x→(i:Int)<xs.length→L (n+1) (i:Int)=if p x=true then L n ((i+1:Nat):Int) else r)
  (h2:∀ n,L (n+1) (xs.length:Int)=e) {n:Nat} (hn:xs.length<n):L n 0=if xs.all p=true then e else r:=by
 refine z69 (A:=Unit) (L:=fun n i _=>L n i) (I:=fun _ _=>True) (G:=fun l _=>if l.all p=true then e else r) xs ?_ ?_ n hn () trivial
 ·intro n pre x post _ hx _ ih hg hlt
  rw [h1 n pre.length x hg hlt]
  have:=ih () trivial
  by_cases hp:p x=true
  ·rw [if_pos hp,this]; simp [hp]
  ·rw [if_neg hp]; simp [hp]
 ·intro n _ _
  simpa using h2 n
theorem zp4 {L:Nat→Int→R} {b:Nat} {p:Nat→Bool} {r e:R}
  (h1:∀ n (i:Nat),i<b→L (n+1) (i:Int)=if p i=true then L n ((i+1:Nat):Int) else r) (h2:∀ n,L (n+1) (b:Int)=e) {n:Nat} (hn:b<n):L n 0=if (List.range b).all p=true then e else r:=by
 have:=zbg (List.range b) (L:=L) (p:=p) (r:=r) (e:=e) (fun n i x hx hlt=>by
  rw [List.getElem?_range (by simpa using hlt)] at hx
  cases hx
  exact h1 n i (by simpa using hlt)) (by simpa using h2) (n:=n) (by simpa using hn)
 exact this

theorem zk0 [DecidableEq α] (a b:List α) (hl:a.length=b.length) {L:Nat→Int→Option Bool}
  (h1:∀ n (i:Nat) x y,a[i]?=some x→b[i]?=some y→(i:Int)<a.length→L (n+1) (i:Int)=if x=y then L n ((i+1:Nat):Int) else some false)
  (h2:∀ n,L (n+1) (a.length:Int)=some true) {n:Nat} (hn:a.length<n):L n 0=some (decide (a=b)):=by
 have hz:(a.zip b).length=a.length:=by simp [hl]
 have:=zbg (a.zip b) (L:=L) (p:=fun z=>decide (z.1=z.2)) (r:=some false) (e:=some true) (fun n i z hz' hlt=>by
  obtain ⟨x,y⟩:=z
  rw [List.getElem?_zip_eq_some] at hz'
  rw [h1 n i x y hz'.1 hz'.2 (by rw [← hz]; exact hlt)]
  by_cases e:x=y <;> simp [e]) (by rw [hz]; exact h2) (n:=n) (by rw [hz]; exact hn)
 rw [this]
 have key:∀ (a b:List α),a.length=b.length→((a.zip b).all fun z=>decide (z.1=z.2))=decide (a=b):=by
  intro a
  induction a with
  | nil=>intro b hb; cases b with | nil=>rfl | cons=>cases hb
  | cons x a ih =>
   intro b hb
   cases b with
   | nil=>cases hb
   | cons y b =>
    simp only [List.zip_cons_cons,List.all_cons,ih b (by simpa using hb)]
    by_cases h:x=y <;> by_cases h':a=b <;> simp [h,h']
 rw [key a b hl]
 by_cases h:a=b <;> simp [h]

def zk1 (p:α→Bool) (xs:List α):Int:=match xs.findIdx? p with | some i=>(i:Int) | none => -1
theorem z103 (xs:List α) {L:Nat→Int→Option Int} {p:α→Bool}
  (h1:∀ n (i:Nat) x,xs[i]?=some x→(i:Int)<xs.length→L (n+1) (i:Int)=if p x=true then some (i:Int) else L n ((i+1:Nat):Int))
  (h2:∀ n,L (n+1) (xs.length:Int)=some (-1)) {n:Nat} (hn:xs.length<n):L n 0=some (zk1 p xs):=by
 have:=z69 (A:=Unit) (L:=fun n i _=>L n i) (I:=fun _ _=>True) (G:=fun post _=>some (match post.findIdx? p with | some j=>((xs.length-post.length+j:Nat):Int) | none => -1)) xs ?_ ?_ n hn () trivial
 ·rw [this]
  unfold zk1
  cases xs.findIdx? p <;> simp
 ·intro n pre x post _ hx _ ih hg hlt
  have h:=ih () trivial
  rw [h1 n pre.length x hg hlt,List.findIdx?_cons]
  by_cases hp:p x=true
  ·rw [if_pos hp,if_pos hp]
   simp only [hx,List.length_append,List.length_cons]
   congr 2
   omega
  ·rw [if_neg hp,if_neg hp,h]
   cases post.findIdx? p with
   | none=>rfl
   | some j =>
    simp only [hx,List.length_append,List.length_cons,Option.map_some]
    congr 2
    omega
 ·intro n _ _
  exact h2 n
end
end Go.Proofs.YtjbnebolfnjneaaGreatDoor.Ev
