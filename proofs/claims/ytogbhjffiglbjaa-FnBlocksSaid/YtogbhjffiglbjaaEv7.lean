/- Plain values for a program that runs on a machine: an evaluator of loaded code and the proof that it tells what the machine does (part 7 of 7). No conditions: definitions and lemmas z4e any program. -/
import Derived.Test.YtogbhjffiglbjaaEv6
import Derived.Shelf.SlLaysN
import Derived.Lib.SliceRun
import Derived.Deep.RegionLaw
import Derived.Shelf.Sort.Plain
import Derived.Shelf.Strconv.Itoa4
import Derived.Shelf.Strings.OnBuilder
import Derived.Shelf.Strconv.ErrVarParseInt
import Derived.Laws.BitsLemmas
set_option linter.unusedVariables false
set_option linter.unusedSimpArgs false
/- slices.Delete at elements of whatever make: walked once; as a call that is handed a row. Over any program. -/
namespace Go.Proofs.Ytogbhjffiglbjaa.Ev
open Go.Shelf Go.RowKit Go.Lib Go.Proofs
variable {P : Program} {ρ : Ren}

structure DelOK (P:Program) (ρ:Ren) (i0:TypeInfo) (z:Value):Prop where
 mixed:P.follows .mixedOrders=true
 f45:Bears P (ρ.f 45) (SlBodyN.n45 ρ)
 t3:P.underlying (ρ.t 3)=some (TypeDesc.int IntKind.i64)
 a3:∀ w,(isAgg (ρ.t 3)).run P w=.ok false w
 t4:P.underlying (ρ.t 4)=some (TypeDesc.bool)
 a4:∀ w,(isAgg (ρ.t 4)).run P w=.ok false w
 t22:P.underlying (ρ.t 22)=some (TypeDesc.slice (ρ.t 23))
 a22:∀ w,(isAgg (ρ.t 22)).run P w=.ok false w
 i23:P.info? (ρ.t 23)=some i0
 z0:i0.zero=some z
 sz:0<i0.size
 zs:z.cells.size=i0.size
 z1:∀ v∈z.cells.toList,v.oneCell'=true

end Go.Proofs.Ytogbhjffiglbjaa.Ev

/- slices.Sort as a call that is handed a row: its contract, out of the shelf's. Over any program. -/
namespace Go.Proofs.Ytogbhjffiglbjaa.Ev
open Go.RowKit Go.Sort

end Go.Proofs.Ytogbhjffiglbjaa.Ev

/- strconv.FormatInt at the base 10, and strings.Join at a row of the call's own: their contracts, out of the shelf's. Over any program. -/
namespace Go.Proofs.Ytogbhjffiglbjaa.Ev
open Go.RowKit Go.Sort

end Go.Proofs.Ytogbhjffiglbjaa.Ev

/- strconv.ParseInt at the base 10: its answer with its error, out of the shelf's. Over any program. -/
namespace Go.Proofs.Ytogbhjffiglbjaa.Ev
open Go.RowKit Go.Sort


theorem zmv:∃ k:Nat,k=18446744073709551616:=⟨_,rfl⟩
noncomputable def KK:Nat:=Classical.choose zmv
theorem z1l:KK=18446744073709551616:=Classical.choose_spec zmv

theorem z1x {x:Int} (h1 : -9223372036854775808≤x) (h2:x≤9223372036854775807):z7 x=x:=by
 unfold z7; rw [IntKind.wrap_i64]; omega
theorem z1t {i:Nat} (h:i<9223372036854775807):z7 ((i:Int)+1)=((i+1:Nat):Int):=by
 rw [z1x (by omega) (by omega)]; rfl
theorem z3n:LIM=140737488355328:=rfl

section
variable {α A R : Type}

theorem z63 (xs:List α) {L:Nat→Int→A→R} {I:List α→A→Prop} {G:List α→A→R}
  (h1:∀ n pre x post a,xs=pre++x::post→I pre a→(∀ a',I (pre++[x]) a'→L n ((pre.length+1:Nat):Int) a'=G post a')→xs[pre.length]?=some x→(pre.length:Int)<xs.length→L (n+1) (pre.length:Int) a=G (x::post) a)
  (h2:∀ n a,I xs a→L (n+1) (xs.length:Int) a=G [] a):∀ n,xs.length<n→∀ a,I [] a→L n 0 a=G xs a:=by
 have main:∀ (post pre:List α) (n:Nat),xs=pre++post→post.length<n→∀ a,I pre a→L n (pre.length:Int) a=G post a:=by
  intro post
  induction post with
  | nil =>
   intro pre n hx hn a ha
   obtain ⟨m,rfl⟩:∃ m,n=m+1:=⟨n-1,by simp at hn; omega⟩
   rw [List.append_nil] at hx
   subst hx
   exact h2 m a ha
  | cons x post ih =>
   intro pre n hx hn a ha
   obtain ⟨m,rfl⟩:∃ m,n=m+1:=⟨n-1,by simp at hn; omega⟩
   refine h1 m pre x post a hx ha (fun a' ha'=>?_) (by rw [hx]; simp) (by rw [hx]; simp; omega)
   have:=ih (pre++[x]) m (by rw [hx]; simp) (by simp at hn; omega) a' ha'
   rw [List.length_append] at this
   simpa using this
 intro n hn a ha
 exact main xs [] n rfl hn a ha

theorem zag (xs:List α) {L:Nat→Int→R} {p:α→Bool} {r e:R}
  (h1:∀ n (i:Nat) x,xs[i]?=some x→(i:Int)<xs.length→L (n+1) (i:Int)=if p x=true then L n ((i+1:Nat):Int) else r)
  (h2:∀ n,L (n+1) (xs.length:Int)=e) {n:Nat} (hn:xs.length<n):L n 0=if xs.all p=true then e else r:=by
 refine z63 (A:=Unit) (L:=fun n i _=>L n i) (I:=fun _ _=>True) (G:=fun l _=>if l.all p=true then e else r) xs ?_ ?_ n hn () trivial
 ·intro n pre x post _ hx _ ih hg hlt
  rw [h1 n pre.length x hg hlt]
  have:=ih () trivial
  by_cases hp:p x=true
  ·rw [if_pos hp,this]; simp [hp]
  ·rw [if_neg hp]; simp [hp]
 ·intro n _ _
  simpa using h2 n
theorem zmw {L:Nat→Int→R} {b:Nat} {p:Nat→Bool} {r e:R}
  (h1:∀ n (i:Nat),i<b→L (n+1) (i:Int)=if p i=true then L n ((i+1:Nat):Int) else r) (h2:∀ n,L (n+1) (b:Int)=e) {n:Nat} (hn:b<n):L n 0=if (List.range b).all p=true then e else r:=by
 have:=zag (List.range b) (L:=L) (p:=p) (r:=r) (e:=e) (fun n i x hx hlt=>by
  rw [List.getElem?_range (by simpa using hlt)] at hx
  cases hx
  exact h1 n i (by simpa using hlt)) (by simpa using h2) (n:=n) (by simpa using hn)
 exact this

theorem zmx [DecidableEq α] (a b:List α) (hl:a.length=b.length) {L:Nat→Int→Option Bool}
  (h1:∀ n (i:Nat) x y,a[i]?=some x→b[i]?=some y→(i:Int)<a.length→L (n+1) (i:Int)=if x=y then L n ((i+1:Nat):Int) else some false)
  (h2:∀ n,L (n+1) (a.length:Int)=some true) {n:Nat} (hn:a.length<n):L n 0=some (decide (a=b)):=by
 have hz:(a.zip b).length=a.length:=by simp [hl]
 have:=zag (a.zip b) (L:=L) (p:=fun z=>decide (z.1=z.2)) (r:=some false) (e:=some true) (fun n i z hz' hlt=>by
  obtain ⟨x,y⟩:=z
  rw [List.getElem?_zip_eq_some] at hz'
  rw [h1 n i x y hz'.1 hz'.2 (by rw [← hz]; exact hlt)]
  by_cases e:x=y <;> simp [e]) (by rw [hz]; exact h2) (n:=n) (by rw [hz]; exact hn)
 rw [this]
 have key:∀ (a b:List α),a.length=b.length→((a.zip b).all fun z=>decide (z.1=z.2))=decide (a=b):=by
  intro a
  induction a with
  | nil=>intro b hb; cases b with | nil=>rfl | cons=>cases hb
  | cons x a ih =>
   intro b hb
   cases b with
   | nil=>cases hb
   | cons y b =>
    simp only [List.zip_cons_cons,List.all_cons,ih b (by simpa using hb)]
    by_cases h:x=y <;> by_cases h':a=b <;> simp [h,h']
 rw [key a b hl]
 by_cases h:a=b <;> simp [h]

def zia (p:α→Bool) (xs:List α):Int:=match xs.findIdx? p with | some i=>(i:Int) | none => -1
theorem zw3 (xs:List α) {L:Nat→Int→Option Int} {p:α→Bool}
  (h1:∀ n (i:Nat) x,xs[i]?=some x→(i:Int)<xs.length→L (n+1) (i:Int)=if p x=true then some (i:Int) else L n ((i+1:Nat):Int))
  (h2:∀ n,L (n+1) (xs.length:Int)=some (-1)) {n:Nat} (hn:xs.length<n):L n 0=some (zia p xs):=by
 have:=z63 (A:=Unit) (L:=fun n i _=>L n i) (I:=fun _ _=>True) (G:=fun post _=>some (match post.findIdx? p with | some j=>((xs.length-post.length+j:Nat):Int) | none => -1)) xs ?_ ?_ n hn () trivial
 ·rw [this]
  unfold zia
  cases xs.findIdx? p <;> simp
 ·intro n pre x post _ hx _ ih hg hlt
  have h:=ih () trivial
  rw [h1 n pre.length x hg hlt,List.findIdx?_cons]
  by_cases hp:p x=true
  ·rw [if_pos hp,if_pos hp]
   simp only [hx,List.length_append,List.length_cons]
   congr 2
   omega
  ·rw [if_neg hp,if_neg hp,h]
   cases post.findIdx? p with
   | none=>rfl
   | some j =>
    simp only [hx,List.length_append,List.length_cons,Option.map_some]
    congr 2
    omega
 ·intro n _ _
  exact h2 n
end
end Go.Proofs.Ytogbhjffiglbjaa.Ev
