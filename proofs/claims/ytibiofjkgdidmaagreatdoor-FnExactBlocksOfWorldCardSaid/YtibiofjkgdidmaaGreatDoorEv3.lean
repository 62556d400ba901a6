/- Plain values for a program that runs on a machine: an evaluator of loaded code and the proof that it tells what the machine does (part 3 of 5). No conditions: definitions and lemmas over any program. -/
import Derived.Test.YtibiofjkgdidmaaGreatDoorEv2
import Derived.Laws.CopyRow
import Derived.Deep.AppendSrc
import Derived.Deep.Upon
import Derived.Laws.AppendOwn
import Derived.Laws.Cover3
import Derived.Orders
set_option linter.unusedVariables false
set_option linter.unusedSimpArgs false
namespace Go.Proofs.YtibiofjkgdidmaaGreatDoor.Ev
open Go.RowKit

def z1q_ (u t : Ty) (y : L u) : Option (L t) := if h : u = t then some (cast (by rw [h]) y) else none
def setL : (t : Ty) → L t → List Step → (u : Ty) → L u → Option (L t)
  | .sl e t, x, p, u, y => match p with
    | [] => z1q_ u (.sl e t) y
    | .ix n :: p => (x.2.2[n]?).bind fun z => (setL t z p u y).map fun z' => (x.1, x.2.1, x.2.2.set n z')
    | .f _ :: _ => none
    | .u :: _ => none
  | .st t, x, p, u, y => match p with
    | [] => if h : u = .st t then some (cast (by rw [h]) y) else z1q_ u t y
    | .u :: p => setL t x p u y
    | s :: p => setL t x (s :: p) u y
  | .pr a b, x, p, u, y => match p with
    | [] => z1q_ u (.pr a b) y
    | .f false :: p => (setL a x.1 p u y).map fun z => (z, x.2)
    | .f true :: p => (setL b x.2 p u y).map fun z => (x.1, z)
    | .ix _ :: _ => none
    | .u :: _ => none
  | .int k, x, p, u, y => match p with | [] => z1q_ u (.int k) y | _ :: _ => none
  | .bool, x, p, u, y => match p with | [] => z1q_ u .bool y | _ :: _ => none
  | .str, x, p, u, y => match p with | [] => z1q_ u .str y | _ :: _ => none
  | .un, x, p, u, y => match p with | [] => z1q_ u .un y | _ :: _ => none

theorem z5u_ {u t : Ty} {y : L u} {x : L t} (h : z1q_ u t y = some x) : ∃ e : u = t, x = e ▸ y := by
  unfold z1q_ at h
  split at h
  · rename_i e; subst e; cases h; exact ⟨rfl, rfl⟩
  · cases h
theorem z6o_ {R : Type} (u t : Ty) (y : L u) (k : t.T → Option R) : zm_ u t (erase u y) k = (z1q_ u t y).bind fun x => k (erase t x) := by
  unfold zm_ z1q_
  by_cases h : u = t
  · subst h; simp
  · rw [dif_neg h, dif_neg h]; rfl

theorem z4x_ {R : Type} : ∀ (t : Ty) (x : L t) (p : List Step) (u : Ty) (y : L u) (k : t.T → Option R), setC t (erase t x) p u (erase u y) k = (setL t x p u y).bind fun x' => k (erase t x')
  | .sl e t, x, p, u, y, k => by
    match p with
    | [] => exact z6o_ u (.sl e t) y k
    | .f _ :: _ => rfl
    | .u :: _ => rfl
    | .ix n :: p =>
      show ((x.2.2.map (erase t))[n]?).bind _ = ((x.2.2[n]?).bind _).bind _
      rw [List.getElem?_map, Option.bind_map, Option.bind_assoc]
      congr 1
      funext z
      refine (z4x_ t z p u y _).trans ?_
      rw [Option.bind_map]
      congr 1
      funext z'
      show k ((x.2.2.map (erase t)).set n (erase t z')) = k ((x.2.2.set n z').map (erase t))
      rw [List.map_set]
  | .st t, x, p, u, y, k => by
    match p with
    | [] =>
      show (if h : u = .st t then k (h ▸ erase u y) else zm_ u t (erase u y) k) = (if h : u = .st t then some (cast (by rw [h]) y) else z1q_ u t y).bind _
      by_cases h : u = .st t
      · subst h; simp
      · rw [dif_neg h, dif_neg h]; exact z6o_ u t y k
    | .u :: p => exact z4x_ t x p u y k
    | .ix n :: p => exact z4x_ t x (.ix n :: p) u y k
    | .f b :: p => exact z4x_ t x (.f b :: p) u y k
  | .pr a b, x, p, u, y, k => by
    match p with
    | [] => exact z6o_ u (.pr a b) y k
    | .ix _ :: _ => rfl
    | .u :: _ => rfl
    | .f false :: p =>
      show setC a (erase a x.1) p u (erase u y) _ = ((setL a x.1 p u y).map _).bind _
      rw [z4x_ a x.1 p u y, Option.bind_map]
      rfl
    | .f true :: p =>
      show setC b (erase b x.2) p u (erase u y) _ = ((setL b x.2 p u y).map _).bind _
      rw [z4x_ b x.2 p u y, Option.bind_map]
      rfl
  | .int _, x, p, u, y, k => by match p with | [] => exact z6o_ u (.int _) y k | _ :: _ => rfl
  | .bool, x, p, u, y, k => by match p with | [] => exact z6o_ u .bool y k | _ :: _ => rfl
  | .str, x, p, u, y, k => by match p with | [] => exact z6o_ u .str y k | _ :: _ => rfl
  | .un, x, p, u, y, k => by match p with | [] => exact z6o_ u .un y k | _ :: _ => rfl

structure Put1 (w : World) (t : Ty) (x : L t) (f : List Bool) (u : Ty) (y : L u) (x' : L t) (v : Ty) (z : L v) : Prop where
  sub : subL t x (f.map z22_) = some ⟨v, z⟩
  cells : ∃ a c, z7_ t x = a ++ z7_ v z ++ c ∧ z7_ t x' = a ++ z7_ u y ++ c ∧ a.length = t.offP f
  sz : v.sz = u.sz
  ho : holds w t x → holds w u y → holds w t x'
  pl : plain w t x → plain w u y → plain w t x'
  bl : ∃ A C, z1_ t x = A ++ z1_ v z ++ C ∧ z1_ t x' = A ++ z1_ u y ++ C
  fl : u.flat = true → v.flat = true

theorem Put1.cast {w : World} {t u : Ty} {x x' : L t} {y : L u} (hs : subL t x [] = some ⟨t, x⟩) (h : z1q_ u t y = some x') : ∃ v z, Put1 w t x [] u y x' v z := by
  obtain ⟨e, he⟩ := z5u_ h
  subst e
  subst he
  exact ⟨u, x, hs, ⟨[], [], by simp, by simp, (zb0_ u).symm⟩, rfl, fun _ h => h, fun _ h => h, ⟨[], [], by simp, by simp⟩, fun h => h⟩
theorem put1 (w : World) : ∀ (t : Ty) (x : L t) (f : List Bool) (u : Ty) (y : L u) (x' : L t), setL t x (f.map z22_) u y = some x' → ∃ v z, Put1 w t x f u y x' v z
  | .sl e t, x, f, u, y, x', h => by
    match f with
    | [] => exact Put1.cast rfl h
    | _ :: _ => cases h
  | .st t, x, f, u, y, x', h => by
    match f with
    | [] =>
      have h : (if h : u = .st t then some (cast (by rw [h]) y) else z1q_ u t y) = some x' := h
      by_cases e : u = .st t
      · subst e
        simp at h
        subst h
        exact ⟨.st t, x, rfl, ⟨[], [], by simp, by simp, (zb0_ _).symm⟩, rfl, fun _ h => h, fun _ h => h, ⟨[], [], by simp, by simp⟩, fun h => h⟩
      · rw [dif_neg e] at h
        obtain ⟨e2, he⟩ := z5u_ h
        subst e2
        subst he
        exact ⟨.st u, x, rfl, ⟨[], [], by simp, by simp [z7_], (zb0_ _).symm⟩, rfl, fun _ h => h, fun _ h => h, ⟨[], [], by simp, by simp [z1_]⟩, fun h => h⟩
    | s :: f =>
      obtain ⟨v, z, h1⟩ := put1 w t x (s :: f) u y x' h
      exact ⟨v, z, h1.sub, h1.cells, h1.sz, h1.ho, h1.pl, h1.bl, h1.fl⟩
  | .pr a b, x, f, u, y, x', h => by
    match f with
    | [] => exact Put1.cast rfl h
    | false :: f =>
      obtain ⟨q, hq, rfl⟩ := Option.map_eq_some_iff.1 h
      obtain ⟨v, z, h1⟩ := put1 w a x.1 f u y q hq
      obtain ⟨p, c, e1, e2, e3⟩ := h1.cells
      obtain ⟨A, C, e4, e5⟩ := h1.bl
      exact ⟨v, z, h1.sub, ⟨p, c ++ z7_ b x.2, by simp [z7_, e1], by simp [z7_, e2], e3⟩, h1.sz, fun h k => ⟨h1.ho h.1 k, h.2⟩, fun h k => ⟨h1.pl h.1 k, h.2⟩, ⟨A, C ++ z1_ b x.2, by simp [z1_, e4], by simp [z1_, e5]⟩, h1.fl⟩
    | true :: f =>
      obtain ⟨q, hq, rfl⟩ := Option.map_eq_some_iff.1 h
      obtain ⟨v, z, h1⟩ := put1 w b x.2 f u y q hq
      obtain ⟨p, c, e1, e2, e3⟩ := h1.cells
      obtain ⟨A, C, e4, e5⟩ := h1.bl
      exact ⟨v, z, h1.sub, ⟨z7_ a x.1 ++ p, c, by simp [z7_, e1], by simp [z7_, e2], by rw [List.length_append, e3, z19_]; rfl⟩, h1.sz, fun h k => ⟨h.1, h1.ho h.2 k⟩, fun h k => ⟨h.1, h1.pl h.2 k⟩, ⟨z1_ a x.1 ++ A, C, by simp [z1_, e4], by simp [z1_, e5]⟩, h1.fl⟩
  | .int _, x, f, u, y, x', h => by match f with | [] => exact Put1.cast rfl h | _ :: _ => cases h
  | .bool, x, f, u, y, x', h => by match f with | [] => exact Put1.cast rfl h | _ :: _ => cases h
  | .str, x, f, u, y, x', h => by match f with | [] => exact Put1.cast rfl h | _ :: _ => cases h
  | .un, x, f, u, y, x', h => by match f with | [] => exact Put1.cast rfl h | _ :: _ => cases h

theorem z2i_ : ∀ (t : Ty) (x y : L t), setL t x [] t y = some y
  | .sl _ _, x, y => by simp [setL, z1q_]
  | .st _, x, y => by simp [setL]
  | .pr _ _, x, y => by simp [setL, z1q_]
  | .int _, x, y => by simp [setL, z1q_]
  | .bool, x, y => by simp [setL, z1q_]
  | .str, x, y => by simp [setL, z1q_]
  | .un, x, y => by simp [setL, z1q_]

theorem z5v_ : ∀ (t : Ty) (x : L t) (p q : List Step) (u : Ty) (y : L u), setL t x (p ++ q) u y = (subL t x p).bind fun z => (setL z.1 z.2 q u y).bind fun z' => setL t x p z.1 z'
  | .sl e t, x, p, q, u, y => by
    match p with
    | [] =>
      show setL (.sl e t) x q u y = (setL (.sl e t) x q u y).bind fun z' => setL (.sl e t) x [] (.sl e t) z'
      simp only [z2i_]
      cases setL (.sl e t) x q u y <;> rfl
    | .f _ :: _ => rfl
    | .u :: _ => rfl
    | .ix n :: p =>
      show (x.2.2[n]?).bind _ = ((x.2.2[n]?).bind _).bind _
      rw [Option.bind_assoc]
      cases hx : x.2.2[n]? with
      | none => rfl
      | some z =>
        simp only [Option.bind_some]
        refine (congrArg _ (z5v_ t z p q u y)).trans ?_
        rw [Option.map_bind]
        congr 1
        funext v
        simp only [Function.comp]
        rw [Option.map_bind]
        congr 1
        funext v'
        show (setL t z p v.1 v').map _ = (x.2.2[n]?).bind fun z => (setL t z p v.1 v').map _
        rw [hx]
        rfl
  | .st t, x, p, q, u, y => by
    match p with
    | [] =>
      show setL (.st t) x q u y = (setL (.st t) x q u y).bind fun z' => setL (.st t) x [] (.st t) z'
      simp only [z2i_]
      cases setL (.st t) x q u y <;> rfl
    | .u :: p => exact z5v_ t x p q u y
    | .ix n :: p => exact z5v_ t x (.ix n :: p) q u y
    | .f b :: p => exact z5v_ t x (.f b :: p) q u y
  | .pr a b, x, p, q, u, y => by
    match p with
    | [] =>
      show setL (.pr a b) x q u y = (setL (.pr a b) x q u y).bind fun z' => setL (.pr a b) x [] (.pr a b) z'
      simp only [z2i_]
      cases setL (.pr a b) x q u y <;> rfl
    | .ix _ :: _ => rfl
    | .u :: _ => rfl
    | .f false :: p =>
      show (setL a x.1 (p ++ q) u y).map _ = (subL a x.1 p).bind fun z => (setL z.1 z.2 q u y).bind fun z' => (setL a x.1 p z.1 z').map _
      rw [z5v_ a x.1 p q u y, Option.map_bind]
      congr 1
      funext v
      simp only [Function.comp]
      rw [Option.map_bind]
      rfl
    | .f true :: p =>
      show (setL b x.2 (p ++ q) u y).map _ = (subL b x.2 p).bind fun z => (setL z.1 z.2 q u y).bind fun z' => (setL b x.2 p z.1 z').map _
      rw [z5v_ b x.2 p q u y, Option.map_bind]
      congr 1
      funext v
      simp only [Function.comp]
      rw [Option.map_bind]
      rfl
  | .int _, x, p, q, u, y => by
    match p with
    | [] => show setL _ x q u y = (setL _ x q u y).bind fun z' => setL _ x [] _ z'
            simp only [z2i_]; cases setL (.int _) x q u y <;> rfl
    | _ :: _ => rfl
  | .bool, x, p, q, u, y => by
    match p with
    | [] => show setL _ x q u y = (setL _ x q u y).bind fun z' => setL _ x [] _ z'
            simp only [z2i_]; cases setL .bool x q u y <;> rfl
    | _ :: _ => rfl
  | .str, x, p, q, u, y => by
    match p with
    | [] => show setL _ x q u y = (setL _ x q u y).bind fun z' => setL _ x [] _ z'
            simp only [z2i_]; cases setL .str x q u y <;> rfl
    | _ :: _ => rfl
  | .un, x, p, q, u, y => by
    match p with
    | [] => show setL _ x q u y = (setL _ x q u y).bind fun z' => setL _ x [] _ z'
            simp only [z2i_]; cases setL .un x q u y <;> rfl
    | _ :: _ => rfl

def z2j_ (t : Ty) (x x' : L t) (p : List Step) : Prop := ∀ e1 t1 l1, subL t x p = some ⟨.sl e1 t1, l1⟩ → ∃ l1', subL t x' p = some ⟨.sl e1 t1, l1'⟩ ∧ l1'.1 = l1.1 ∧ l1'.2.1 = l1.2.1 ∧ l1'.2.2.length = l1.2.2.length
theorem z2j_.refl (t : Ty) (x : L t) (p : List Step) : z2j_ t x x p := fun e1 t1 l1 h => ⟨l1, h, rfl, rfl, rfl⟩

theorem z2k_ : ∀ (t : Ty) (x : L t) (p : List Step) (u : Ty) (y : L u) (x' : L t) (q : List Step), setL t x p u y = some x' → ixs q < ixs p → z2j_ t x x' q
  | .sl e t, x, p, u, y, x', q, h, hq => by
    match p with
    | [] => simp [ixs] at hq
    | .f _ :: _ => cases h
    | .u :: _ => cases h
    | .ix n :: p =>
      obtain ⟨z, hz, h⟩ := Option.bind_eq_some_iff.1 h
      obtain ⟨z', hz', rfl⟩ := Option.map_eq_some_iff.1 h
      match q with
      | [] => intro e1 t1 l1 h1; cases h1; exact ⟨_, rfl, rfl, rfl, by simp⟩
      | .f _ :: _ => intro e1 t1 l1 h1; cases h1
      | .u :: _ => intro e1 t1 l1 h1; cases h1
      | .ix m :: q =>
        intro e1 t1 l1 h1
        obtain ⟨v, hv, h1⟩ := Option.bind_eq_some_iff.1 h1
        show ∃ l1', ((x.2.2.set n z')[m]?).bind (fun y => subL t y q) = _ ∧ _
        by_cases hnm : n = m
        · subst hnm
          rw [hz] at hv
          cases hv
          have hlt := (List.getElem?_eq_some_iff.1 hz).1
          rw [List.getElem?_set_self hlt, Option.bind_some]
          simp only [ixs] at hq
          exact z2k_ t z p u y z' q hz' (by omega) e1 t1 l1 h1
        · rw [List.getElem?_set_ne hnm, hv, Option.bind_some]
          exact ⟨l1, h1, rfl, rfl, rfl⟩
  | .st t, x, p, u, y, x', q, h, hq => by
    match q with
    | [] => intro e1 t1 l1 h1; cases h1
    | .u :: q =>
      match p with
      | [] => simp [ixs] at hq
      | .u :: p => exact z2k_ t x p u y x' q h (by simpa [ixs] using hq)
      | .ix n :: p => exact z2k_ t x (.ix n :: p) u y x' q h (by simpa [ixs] using hq)
      | .f b :: p => exact z2k_ t x (.f b :: p) u y x' q h (by simpa [ixs] using hq)
    | .ix m :: q =>
      match p with
      | [] => simp [ixs] at hq
      | .u :: p => exact z2k_ t x p u y x' (.ix m :: q) h (by simpa [ixs] using hq)
      | .ix n :: p => exact z2k_ t x (.ix n :: p) u y x' (.ix m :: q) h hq
      | .f b :: p => exact z2k_ t x (.f b :: p) u y x' (.ix m :: q) h hq
    | .f c :: q =>
      match p with
      | [] => simp [ixs] at hq
      | .u :: p => exact z2k_ t x p u y x' (.f c :: q) h (by simpa [ixs] using hq)
      | .ix n :: p => exact z2k_ t x (.ix n :: p) u y x' (.f c :: q) h hq
      | .f b :: p => exact z2k_ t x (.f b :: p) u y x' (.f c :: q) h hq
  | .pr a b, x, p, u, y, x', q, h, hq => by
    match p with
    | [] => simp [ixs] at hq
    | .ix _ :: _ => cases h
    | .u :: _ => cases h
    | .f false :: p =>
      obtain ⟨z, hz, rfl⟩ := Option.map_eq_some_iff.1 h
      match q with
      | [] => intro e1 t1 l1 h1; cases h1
      | .ix _ :: _ => intro e1 t1 l1 h1; cases h1
      | .u :: _ => intro e1 t1 l1 h1; cases h1
      | .f false :: q => exact z2k_ a x.1 p u y z q hz (by simpa [ixs] using hq)
      | .f true :: q => intro e1 t1 l1 h1; exact ⟨l1, h1, rfl, rfl, rfl⟩
    | .f true :: p =>
      obtain ⟨z, hz, rfl⟩ := Option.map_eq_some_iff.1 h
      match q with
      | [] => intro e1 t1 l1 h1; cases h1
      | .ix _ :: _ => intro e1 t1 l1 h1; cases h1
      | .u :: _ => intro e1 t1 l1 h1; cases h1
      | .f false :: q => intro e1 t1 l1 h1; exact ⟨l1, h1, rfl, rfl, rfl⟩
      | .f true :: q => exact z2k_ b x.2 p u y z q hz (by simpa [ixs] using hq)
  | .int _, x, p, u, y, x', q, h, hq => by match p with | [] => simp [ixs] at hq | _ :: _ => cases h
  | .bool, x, p, u, y, x', q, h, hq => by match p with | [] => simp [ixs] at hq | _ :: _ => cases h
  | .str, x, p, u, y, x', q, h, hq => by match p with | [] => simp [ixs] at hq | _ :: _ => cases h
  | .un, x, p, u, y, x', q, h, hq => by match p with | [] => simp [ixs] at hq | _ :: _ => cases h

theorem z6p_ : ∀ (t : Ty) (x : L t) (p : List Step) (v : Loc), t.flat = true → subL t x p = some v → v.1.flat = true
  | .sl _ _, _, _, _, h, _ => by cases h
  | .st t, x, p, v, h, hs => by
    match p with
    | [] => cases hs; exact h
    | .u :: p => exact z6p_ t x p v h hs
    | .ix n :: p => exact z6p_ t x (.ix n :: p) v h hs
    | .f b :: p => exact z6p_ t x (.f b :: p) v h hs
  | .pr a b, x, p, v, h, hs => by
    have h' := h
    simp only [Ty.flat, Bool.and_eq_true] at h'
    match p with
    | [] => cases hs; exact h
    | .ix _ :: _ => cases hs
    | .u :: _ => cases hs
    | .f false :: p => exact z6p_ a x.1 p v h'.1 hs
    | .f true :: p => exact z6p_ b x.2 p v h'.2 hs
  | .int _, x, p, v, h, hs => by match p with | [] => cases hs; rfl | _ :: _ => cases hs
  | .bool, x, p, v, h, hs => by match p with | [] => cases hs; rfl | _ :: _ => cases hs
  | .str, x, p, v, h, hs => by match p with | [] => cases hs; rfl | _ :: _ => cases hs
  | .un, x, p, v, h, hs => by cases h
theorem zbf_ {t : Ty} (x x' : L t) (q : List Step) (h : t.flat = true) : z2j_ t x x' q := by
  intro e1 t1 l1 h1
  have := z6p_ t x q _ h h1
  cases this

theorem z30_ : ∀ (t : Ty) (x : L t) (p : List Step) (u : Ty) (y : L u) (x' : L t) (q : List Step), setL t x p u y = some x' → u.flat = true → z2j_ t x x' q
  | .sl e t, x, p, u, y, x', q, h, hu => by
    match p with
    | [] => obtain ⟨e2, _⟩ := z5u_ h; subst e2; cases hu
    | .f _ :: _ => cases h
    | .u :: _ => cases h
    | .ix n :: p =>
      obtain ⟨z, hz, h⟩ := Option.bind_eq_some_iff.1 h
      obtain ⟨z', hz', rfl⟩ := Option.map_eq_some_iff.1 h
      match q with
      | [] => intro e1 t1 l1 h1; cases h1; exact ⟨_, rfl, rfl, rfl, by simp⟩
      | .f _ :: _ => intro e1 t1 l1 h1; cases h1
      | .u :: _ => intro e1 t1 l1 h1; cases h1
      | .ix m :: q =>
        intro e1 t1 l1 h1
        obtain ⟨v, hv, h1⟩ := Option.bind_eq_some_iff.1 h1
        show ∃ l1', ((x.2.2.set n z')[m]?).bind (fun y => subL t y q) = _ ∧ _
        by_cases hnm : n = m
        · subst hnm
          rw [hz] at hv
          cases hv
          have hlt := (List.getElem?_eq_some_iff.1 hz).1
          rw [List.getElem?_set_self hlt, Option.bind_some]
          exact z30_ t z p u y z' q hz' hu e1 t1 l1 h1
        · rw [List.getElem?_set_ne hnm, hv, Option.bind_some]
          exact ⟨l1, h1, rfl, rfl, rfl⟩
  | .st t, x, p, u, y, x', q, h, hu => by
    match p with
    | [] =>
      refine zbf_ x x' q ?_
      have h : (if h : u = .st t then some (cast (by rw [h]) y) else z1q_ u t y) = some x' := h
      by_cases e : u = .st t
      · subst e; exact hu
      · rw [dif_neg e] at h
        obtain ⟨e2, he⟩ := z5u_ h
        subst e2
        exact hu
    | .u :: p =>
      match q with
      | [] => intro e1 t1 l1 h1; cases h1
      | .u :: q => exact z30_ t x p u y x' q h hu
      | .ix m :: q => exact z30_ t x p u y x' (.ix m :: q) h hu
      | .f c :: q => exact z30_ t x p u y x' (.f c :: q) h hu
    | .ix n :: p =>
      match q with
      | [] => intro e1 t1 l1 h1; cases h1
      | .u :: q => exact z30_ t x (.ix n :: p) u y x' q h hu
      | .ix m :: q => exact z30_ t x (.ix n :: p) u y x' (.ix m :: q) h hu
      | .f c :: q => exact z30_ t x (.ix n :: p) u y x' (.f c :: q) h hu
    | .f b :: p =>
      match q with
      | [] => intro e1 t1 l1 h1; cases h1
      | .u :: q => exact z30_ t x (.f b :: p) u y x' q h hu
      | .ix m :: q => exact z30_ t x (.f b :: p) u y x' (.ix m :: q) h hu
      | .f c :: q => exact z30_ t x (.f b :: p) u y x' (.f c :: q) h hu
  | .pr a b, x, p, u, y, x', q, h, hu => by
    match p with
    | [] => obtain ⟨e2, _⟩ := z5u_ h; subst e2; exact zbf_ x x' q hu
    | .ix _ :: _ => cases h
    | .u :: _ => cases h
    | .f false :: p =>
      obtain ⟨z, hz, rfl⟩ := Option.map_eq_some_iff.1 h
      match q with
      | [] => intro e1 t1 l1 h1; cases h1
      | .ix _ :: _ => intro e1 t1 l1 h1; cases h1
      | .u :: _ => intro e1 t1 l1 h1; cases h1
      | .f false :: q => exact z30_ a x.1 p u y z q hz hu
      | .f true :: q => intro e1 t1 l1 h1; exact ⟨l1, h1, rfl, rfl, rfl⟩
    | .f true :: p =>
      obtain ⟨z, hz, rfl⟩ := Option.map_eq_some_iff.1 h
      match q with
      | [] => intro e1 t1 l1 h1; cases h1
      | .ix _ :: _ => intro e1 t1 l1 h1; cases h1
      | .u :: _ => intro e1 t1 l1 h1; cases h1
      | .f false :: q => intro e1 t1 l1 h1; exact ⟨l1, h1, rfl, rfl, rfl⟩
      | .f true :: q => exact z30_ b x.2 p u y z q hz hu
  | .int _, x, p, u, y, x', q, h, hu => by match p with | [] => exact zbf_ x x' q rfl | _ :: _ => cases h
  | .bool, x, p, u, y, x', q, h, hu => by match p with | [] => exact zbf_ x x' q rfl | _ :: _ => cases h
  | .str, x, p, u, y, x', q, h, hu => by match p with | [] => exact zbf_ x x' q rfl | _ :: _ => cases h
  | .un, x, p, u, y, x', q, h, hu => by match p with | [] => obtain ⟨e2, _⟩ := z5u_ h; subst e2; cases hu | _ :: _ => cases h

theorem z5w_ {w w' : World} {g : Nat} (hw : ∀ k, k ≠ g → w'.heap[k]? = w.heap[k]?) : ∀ (t : Ty) (x : L t) (q : List Step) (v : Ty) (z y : L v) (x' : L t), subL t x q = some ⟨v, z⟩ → setL t x q v y = some x' → z7_ v y = z7_ v z → (z1_ t x).Nodup → g ∈ z1_ v z →
    z7_ t x' = z7_ t x ∧ (holds w t x → holds w' v y → holds w' t x') ∧ (plain w t x → plain w' v y → plain w' t x') ∧ ∃ A C, z1_ t x = A ++ z1_ v z ++ C ∧ z1_ t x' = A ++ z1_ v y ++ C
  | .sl e t, x, q, v, z, y, x', hs, h, hc, hn, hg => by
    match q with
    | [] =>
      cases hs
      obtain ⟨_, he⟩ := z5u_ h
      subst he
      exact ⟨hc, fun _ h => h, fun _ h => h, [], [], by simp, by simp⟩
    | .f _ :: _ => cases h
    | .u :: _ => cases h
    | .ix n :: q =>
      obtain ⟨x0, hx0, h⟩ := Option.bind_eq_some_iff.1 h
      obtain ⟨x0', hx0', rfl⟩ := Option.map_eq_some_iff.1 h
      obtain ⟨x1, hx1, hs⟩ := Option.bind_eq_some_iff.1 hs
      rw [hx0] at hx1
      cases hx1
      obtain ⟨hlt, hxe⟩ := List.getElem?_eq_some_iff.1 hx0
      have hsplit : x.2.2 = x.2.2.take n ++ x0 :: x.2.2.drop (n + 1) := by
        rw [← hxe, ← List.drop_eq_getElem_cons hlt, List.take_append_drop]
      have hset : x.2.2.set n x0' = x.2.2.take n ++ x0' :: x.2.2.drop (n + 1) := by rw [List.set_eq_take_append_cons_drop, if_pos hlt]
      have hb : z1_ (.sl e t) x = x.1.toList ++ ((x.2.2.take n).flatMap (z1_ t)) ++ z1_ t x0 ++ (x.2.2.drop (n + 1)).flatMap (z1_ t) := by
        simp only [z1_]
        conv => lhs; rw [hsplit]
        simp [List.append_assoc]
      rw [hb] at hn
      obtain ⟨n1, n2, n3⟩ := List.nodup_append.1 hn
      obtain ⟨n4, n5, n6⟩ := List.nodup_append.1 n1
      obtain ⟨i1, i2, i3, A, C, i4, i5⟩ := z5w_ hw t x0 q v z y x0' hs hx0' hc n5 hg
      have hg0 : g ∈ z1_ t x0 := by rw [i4]; simp [hg]
      have away1 : ∀ y ∈ x.2.2.take n, ∀ k ∈ z1_ t y, k ≠ g := fun y hy k hk e => n6 k (List.mem_append.2 (.inr (List.mem_flatMap.2 ⟨y, hy, hk⟩))) g hg0 e
      have away2 : ∀ y ∈ x.2.2.drop (n + 1), ∀ k ∈ z1_ t y, k ≠ g := fun y hy k hk e => n3 g (List.mem_append.2 (.inr hg0)) k (List.mem_flatMap.2 ⟨y, hy, hk⟩) e.symm
      have away0 : ∀ b, x.1 = some b → b ≠ g := fun b hb e => n6 b (List.mem_append.2 (.inl (by rw [hb]; simp))) g hg0 e
      refine ⟨by simp [z7_], fun hh hy => ⟨?_, ?_⟩, fun hp hy => ⟨?_, ?_⟩, x.1.toList ++ (x.2.2.take n).flatMap (z1_ t) ++ A, C ++ (x.2.2.drop (n + 1)).flatMap (z1_ t), ?_, ?_⟩
      · have h1 := hh.1
        simp only []
        cases hx : x.1 with
        | none => rw [hx] at h1; rw [h1.1] at hlt; simp at hlt
        | some b =>
          rw [hx] at h1
          obtain ⟨cur, fz, k1, k2, k3, k4, k5, k6⟩ := h1
          refine ⟨cur, fz, (hw b (away0 b hx)).trans k1, by rw [List.length_set]; exact k2, k3, k4, ?_, by rw [List.length_set]; exact k6⟩
          rw [List.length_set, k5, hset]
          conv => lhs; rw [hsplit]
          simp [i1]
      · intro y' hy'
        have hy' : y' ∈ x.2.2.set n x0' := hy'
        rw [hset] at hy'
        rcases List.mem_append.1 hy' with hm | hm
        · exact z14_ (fun k hk => hw k (away1 y' hm k hk)) (hh.2 y' (List.mem_of_mem_take hm))
        · rcases List.mem_cons.1 hm with rfl | hm
          · exact i2 (hh.2 x0 (List.mem_of_getElem? hx0)) hy
          · exact z14_ (fun k hk => hw k (away2 y' hm k hk)) (hh.2 y' (List.mem_of_mem_drop hm))
      · intro b hb
        obtain ⟨cur, e', k1, k2⟩ := hp.1 b hb
        exact ⟨cur, e', (hw b (away0 b hb)).trans k1, k2⟩
      · intro y' hy'
        have hy' : y' ∈ x.2.2.set n x0' := hy'
        rw [hset] at hy'
        rcases List.mem_append.1 hy' with hm | hm
        · exact z15_ (fun k hk => hw k (away1 y' hm k hk)) (hp.2 y' (List.mem_of_mem_take hm))
        · rcases List.mem_cons.1 hm with rfl | hm
          · exact i3 (hp.2 x0 (List.mem_of_getElem? hx0)) hy
          · exact z15_ (fun k hk => hw k (away2 y' hm k hk)) (hp.2 y' (List.mem_of_mem_drop hm))
      · rw [hb, i4]; simp [List.append_assoc]
      · simp only [z1_]
        rw [hset]
        simp [i5, List.append_assoc]
  | .st t, x, q, v, z, y, x', hs, h, hc, hn, hg => by
    match q with
    | [] =>
      cases hs
      have := (z2i_ (.st t) x y).symm.trans h
      cases this
      exact ⟨hc, fun _ h => h, fun _ h => h, [], [], by simp, by simp⟩
    | .u :: q => exact z5w_ hw t x q v z y x' hs h hc hn hg
    | .ix n :: q => exact z5w_ hw t x (.ix n :: q) v z y x' hs h hc hn hg
    | .f b :: q => exact z5w_ hw t x (.f b :: q) v z y x' hs h hc hn hg
  | .pr a b, x, q, v, z, y, x', hs, h, hc, hn, hg => by
    match q with
    | [] =>
      cases hs
      have := (z2i_ (.pr a b) x y).symm.trans h
      cases this
      exact ⟨hc, fun _ h => h, fun _ h => h, [], [], by simp, by simp⟩
    | .ix _ :: _ => cases h
    | .u :: _ => cases h
    | .f false :: q =>
      obtain ⟨p, hp, rfl⟩ := Option.map_eq_some_iff.1 h
      simp only [z1_] at hn
      obtain ⟨n1, n2, n3⟩ := List.nodup_append.1 hn
      obtain ⟨i1, i2, i3, A, C, i4, i5⟩ := z5w_ hw a x.1 q v z y p hs hp hc n1 hg
      have hg0 : g ∈ z1_ a x.1 := by rw [i4]; simp [hg]
      have away : ∀ k ∈ z1_ b x.2, k ≠ g := fun k hk e => n3 g hg0 k hk e.symm
      exact ⟨by simp [z7_, i1], fun hh hy => ⟨i2 hh.1 hy, z14_ (fun k hk => hw k (away k hk)) hh.2⟩, fun hh hy => ⟨i3 hh.1 hy, z15_ (fun k hk => hw k (away k hk)) hh.2⟩, A, C ++ z1_ b x.2, by simp [z1_, i4], by simp [z1_, i5]⟩
    | .f true :: q =>
      obtain ⟨p, hp, rfl⟩ := Option.map_eq_some_iff.1 h
      simp only [z1_] at hn
      obtain ⟨n1, n2, n3⟩ := List.nodup_append.1 hn
      obtain ⟨i1, i2, i3, A, C, i4, i5⟩ := z5w_ hw b x.2 q v z y p hs hp hc n2 hg
      have hg0 : g ∈ z1_ b x.2 := by rw [i4]; simp [hg]
      have away : ∀ k ∈ z1_ a x.1, k ≠ g := fun k hk e => n3 k hk g hg0 e
      exact ⟨by simp [z7_, i1], fun hh hy => ⟨z14_ (fun k hk => hw k (away k hk)) hh.1, i2 hh.2 hy⟩, fun hh hy => ⟨z15_ (fun k hk => hw k (away k hk)) hh.1, i3 hh.2 hy⟩, z1_ a x.1 ++ A, C, by simp [z1_, i4], by simp [z1_, i5]⟩
  | .int _, x, q, v, z, y, x', hs, h, hc, hn, hg => by match q with | [] => cases hs; simp [z1_] at hg | _ :: _ => cases hs
  | .bool, x, q, v, z, y, x', hs, h, hc, hn, hg => by match q with | [] => cases hs; simp [z1_] at hg | _ :: _ => cases hs
  | .str, x, q, v, z, y, x', hs, h, hc, hn, hg => by match q with | [] => cases hs; simp [z1_] at hg | _ :: _ => cases hs
  | .un, x, q, v, z, y, x', hs, h, hc, hn, hg => by match q with | [] => cases hs; simp [z1_] at hg | _ :: _ => cases hs
end Go.Proofs.YtibiofjkgdidmaaGreatDoor.Ev

namespace Go.Proofs.YtibiofjkgdidmaaGreatDoor.Ev
open Go.RowKit

theorem zr8_ (l : List Value) (k : Nat) (v : Value) (rest : List Value) (h : k < l.length) : (l.set k v).take (k + 1) ++ rest ++ (l.set k v).drop (k + 1 + rest.length) = l.take k ++ (v :: rest) ++ l.drop (k + (v :: rest).length) := by
  have h1 : (l.set k v).take (k + 1) = l.take k ++ [v] := by
    rw [List.take_add_one, List.take_set_of_le (Nat.le_refl _), List.getElem?_set_self h]; rfl
  have h2 : (l.set k v).drop (k + 1 + rest.length) = l.drop (k + (v :: rest).length) := by
    rw [List.drop_set_of_lt (by omega)]
    congr 1
    simp only [List.length_cons]; omega
  rw [h1, h2]; simp

theorem zd1_ (P : Program) (g : Nat) (t : TypeId) (fz : Nat × Nat) : ∀ (vs : List Value) (o i : Nat) (cur : Array Value) (w : World), w.heap[g]? = some (.cells cur t fz) → o + i + vs.length ≤ cur.size → (fz = (0, 0) ∨ o + i + vs.length ≤ fz.1) → (∀ v ∈ vs, v.oneCell' = true) →
    ∃ w', (storeCells ⟨g, o, none⟩ vs i).run P w = .ok () w' ∧ w'.heap[g]? = some (.cells (cur.toList.take (o + i) ++ vs ++ cur.toList.drop (o + i + vs.length)).toArray t fz) ∧ (∀ k, k ≠ g → w'.heap[k]? = w.heap[k]?) ∧ Kept (fun k => k = g) w w'
  | [], o, i, cur, w, hg, _, _, _ => ⟨w, rfl, by simpa using hg, fun _ _ => rfl, Kept.refl _ w⟩
  | v :: rest, o, i, cur, w, hg, hl, hf, h1 => by
    have hi : o + i < cur.size := by simp at hl; omega
    have hadd : (⟨g, o, none⟩ : Addr).add i = ⟨g, o + i, none⟩ := z21_ g o i
    have hcell : w.cell? ⟨g, o + i, none⟩ = some cur[o + i] := by simp [World.cell?, hg, hi]
    have hfro : w.frozen? ⟨g, o + i, none⟩ = false := by
      obtain ⟨lo, hi'⟩ := fz
      simp only [World.frozen?, hg]
      rcases hf with hf | hf
      · cases hf; simp
      · simp only [List.length_cons] at hf
        have : ¬ lo ≤ o + i := by omega
        simp [this]
    have hst : (store ((⟨g, o, none⟩ : Addr).add i) v).run P w = .ok () (w.setRow g (cur.setIfInBounds (o + i) v)) := by
      rw [hadd, run_store P w _ v _ (h1 v (by simp)), hcell]
      simp [hfro, setCell_eq_setRow w g (o + i) cur t fz v hg]
    obtain ⟨w', e1, e2, e3, e4⟩ := zd1_ P g t fz rest o (i + 1) (cur.setIfInBounds (o + i) v) (w.setRow g (cur.setIfInBounds (o + i) v)) (setRow_heap w g cur _ t _ hg) (by simp at hl ⊢; omega) (by
      rcases hf with hf | hf
      · exact .inl hf
      · exact .inr (by simp at hf ⊢; omega)) (fun x hx => h1 x (by simp [hx]))
    refine ⟨w', by simp only [storeCells, Sem.run_bind, hst, Result.andThen_ok, e1], ?_, fun k hk => (e3 k hk).trans (setRow_other w g k _ hk), ?_⟩
    · rw [e2]
      congr 2
      apply Array.ext'
      have := zr8_ cur.toList (o + i) v rest (by simpa using hi)
      simpa [Array.toList_setIfInBounds, Nat.add_assoc] using this
    · have hk : Kept (fun k => k = g) w (w.setRow g (cur.setIfInBounds (o + i) v)) := ⟨rfl, rfl, rfl, by simp, fun k _ hk => setRow_other w g k _ hk⟩
      exact hk.trans e4 (fun _ _ h => h)

theorem zhy_ {P : Program} {E : Env} (T : zj_ P E.ti = true) {t : TypeId} (h0 : (E.tyOf t).sz ≠ 0) {v : Value} {cs : List Value} (hv : v.cells = cs.toArray) (hl : cs.length = (E.tyOf t).sz) (h1 : ∀ v ∈ cs, v.oneCell' = true)
    {g o : Nat} {e : TypeId} {fz : Nat × Nat} {cur : Array Value} {w : World} (hg : w.heap[g]? = some (.cells cur e fz)) (hfit : o + cs.length ≤ cur.size) (hf : fz = (0, 0) ∨ o + cs.length ≤ fz.1) :
    ∃ w', (Instr.storeAt t (.pointer (some ⟨g, o, none⟩)) v).run P w = .ok () w' ∧ w'.heap[g]? = some (.cells (cur.toList.take o ++ cs ++ cur.toList.drop (o + cs.length)).toArray e fz) ∧ (∀ k, k ≠ g → w'.heap[k]? = w.heap[k]?) ∧ Kept (fun k => k = g) w w' := by
  obtain ⟨w', e1, e2, e3, e4⟩ := zd1_ P g e fz cs o 0 cur w hg (by simpa using hfit) (by simpa using hf) h1
  obtain ⟨ti, k1, k2, k3⟩ := z2t_ T h0
  have hs := (z6l_ T k1 k3 w).2.1
  rw [k2] at hs
  refine ⟨w', ?_, by simpa using e2, e3, e4⟩
  simp only [Instr.storeAt, Instr.sureAddr, Sem.run_bind, Sem.run_pure, Result.andThen_ok, storeVar, hs]
  rw [if_neg (by rw [hv]; simp [hl]), hv]
  exact e1

section
variable {P : Program} {E : Env} {w0 : World} {ok O : Nat → Prop} {σ σ' : St} {tm : Array Value} {w w' : World} {M : Map} {a : Act}

def SV.paths (j : Nat) : SV → List (List Step)
  | .ref i p => bif Nat.beq j i then [p] else []
  | .vw i _ _ => bif Nat.beq j i then [[]] else []
  | .ep i p _ _ _ => bif Nat.beq j i then [p] else []
  | .st s => s.paths j
  | .pr a b => a.paths j ++ b.paths j
  | .clo _ c => c.paths j
  | .tup s => s.paths j
  | .cns a b => a.paths j ++ b.paths j
  | _ => []

def updM (M : Map) (j : Nat) (x : Loc) : Map := { M with loc := updF M.loc j x }
theorem z5x_ {j : Nat} {e : TypeId} {t : Ty} {l l' : L (.sl e t)} (hl : M.loc j = ⟨.sl e t, l⟩) : ∀ {s : SV} {cs : List Value}, (∀ p ∈ s.paths j, z2j_ _ l l' p) → RepV w0 ok M s cs → RepV w0 ok (updM M j ⟨.sl e t, l'⟩) s cs
  | .val t x, cs, h, hs => hs
  | .ref i p, cs, h, hs => by
    by_cases hi : i = j
    · subst hi
      obtain ⟨e1, t1, l1, h1, rfl⟩ := hs
      rw [hl] at h1
      obtain ⟨l1', h2, h3, h4, h5⟩ := h p (by simp [SV.paths]) e1 t1 l1 h1
      exact ⟨e1, t1, l1', (congrArg (fun z : Loc => subL z.1 z.2 p) (z1g_ M.loc i ⟨.sl e t, l'⟩)).trans h2, by simp [z7_, h3, h4, h5]⟩
    · have : (updM M j ⟨.sl e t, l'⟩).loc i = M.loc i := z2y_ _ _ hi
      simp only [RepV] at hs ⊢
      rw [this]; exact hs
  | .vw i lo n, cs, h, hs => by
    by_cases hi : i = j
    · subst hi
      obtain ⟨e1, t1, l1, h1, h2, A, c, rfl, h3, h4⟩ := hs
      rw [hl] at h1
      cases h1
      obtain ⟨l1', k2, k3, k4, k5⟩ := h [] (by simp [SV.paths]) e t l rfl
      cases k2
      refine ⟨e, t, l', z1g_ _ _ _, by rw [k5]; exact h2, A, c, rfl, by rw [k4]; exact h3, fun hh => by rw [k3]; exact h4 hh⟩
    · have : (updM M j ⟨.sl e t, l'⟩).loc i = M.loc i := z2y_ _ _ hi
      simp only [RepV] at hs ⊢
      rw [this]; exact hs
  | .ls i, cs, h, hs => hs
  | .st s, cs, h, hs => z5x_ hl (s := s) h hs
  | .pr a b, cs, h, hs => by
    obtain ⟨c1, c2, rfl, h1, h2⟩ := hs
    exact ⟨c1, c2, rfl, z5x_ hl (fun p hp => h p (by simp [SV.paths, hp])) h1, z5x_ hl (fun p hp => h p (by simp [SV.paths, hp])) h2⟩
  | .bp i p o, cs, h, hs => hs
  | .ep i p n f o, cs, h, hs => by
    by_cases hi : i = j
    · subst hi
      obtain ⟨e1, t1, l1, g, h1, h6, h7, rfl⟩ := hs
      rw [hl] at h1
      obtain ⟨l1', h2, h3, h4, h5⟩ := h p (by simp [SV.paths]) e1 t1 l1 h1
      exact ⟨e1, t1, l1', g, (congrArg (fun z : Loc => subL z.1 z.2 p) (z1g_ M.loc i ⟨.sl e t, l'⟩)).trans h2, by rw [h3]; exact h6, by rw [h5]; exact h7, rfl⟩
    · have : (updM M j ⟨.sl e t, l'⟩).loc i = M.loc i := z2y_ _ _ hi
      simp only [RepV] at hs ⊢
      rw [this]; exact hs
  | .lp i n, cs, h, hs => hs
  | .clo g c, cs, h, hs => by
    obtain ⟨caps, rfl, h1⟩ := hs
    exact ⟨caps, rfl, z5x_ hl (s := c) h h1⟩
  | .no, cs, h, hs => hs
  | .un, cs, h, hs => hs
  | .tup _, _, _, h => h.elim
  | .cns _ _, _, _, h => h.elim
  | .nl, _, _, h => h.elim
theorem zr9_ {j : Nat} {e : TypeId} {t : Ty} {l l' : L (.sl e t)} (hl : M.loc j = ⟨.sl e t, l⟩) {s : SV} : ∀ {cs : List Value}, (∀ p ∈ s.paths j, z2j_ _ l l' p) → RepB w0 ok M s cs → RepB w0 ok (updM M j ⟨.sl e t, l'⟩) s cs := by
  induction s with
  | cns a b iha ihb =>
    intro cs h hs
    obtain ⟨c1, c2, rfl, h1, h2⟩ := hs
    exact ⟨c1, c2, rfl, z5x_ hl (fun p hp => h p (by simp [SV.paths, hp])) h1, ihb (fun p hp => h p (by simp [SV.paths, hp])) h2⟩
  | nl => intro cs h hs; exact hs
  | _ => intro cs h hs; exact z5x_ hl h hs
theorem zra_ {j : Nat} {e : TypeId} {t : Ty} {l l' : L (.sl e t)} (hl : M.loc j = ⟨.sl e t, l⟩) {s : SV} : ∀ {vs : List Value}, (∀ p ∈ s.paths j, z2j_ _ l l' p) → RepT w0 ok M s vs → RepT w0 ok (updM M j ⟨.sl e t, l'⟩) s vs := by
  induction s with
  | cns a b iha ihb =>
    intro vs h hs
    obtain ⟨v, vs', rfl, ⟨cs, h1, h3⟩, h2⟩ := hs
    exact ⟨v, vs', rfl, ⟨cs, z5x_ hl (fun p hp => h p (by simp [SV.paths, hp])) h1, h3⟩, ihb (fun p hp => h p (by simp [SV.paths, hp])) h2⟩
  | nl => intro cs h hs; exact hs
  | _ => intro vs h hs; exact hs.elim
theorem zrb_ {j : Nat} {e : TypeId} {t : Ty} {l l' : L (.sl e t)} (hl : M.loc j = ⟨.sl e t, l⟩) {s : SV} {v : Value} (h : ∀ p ∈ s.paths j, z2j_ _ l l' p) (hs : RepS w0 ok M s v) : RepS w0 ok (updM M j ⟨.sl e t, l'⟩) s v := by
  rcases z27_ hs with rfl | ⟨c, vs, rfl, rfl, h1⟩ | ⟨cs, h1, h2⟩
  · trivial
  · exact ⟨vs, rfl, zra_ hl h h1⟩
  · exact z17_ (z5x_ hl h h1) h2

theorem z5y_ {α : Type} : ∀ (l : List (Nat × α)) (n : Nat) (x : α) (i : Nat), lk (up l n x) i = if n = i then (lk l i).map fun _ => x else lk l i
  | [], n, x, i => by simp [up, lk]
  | (k, v) :: l, n, x, i => by
    simp only [up]
    by_cases hk : k = n
    · subst hk
      simp only [show Nat.beq k k = true by simp, cond_true, zk_]
      split <;> rfl
    · have : Nat.beq k n = false := by cases hb : Nat.beq k n with | false => rfl | true => exact absurd (Nat.eq_of_beq_eq_true hb) hk
      simp only [this, cond_false, zk_, z5y_ l n x i]
      by_cases hki : k = i
      · subst hki; rw [if_pos rfl, if_neg (fun h => hk h.symm), if_pos rfl]
      · rw [if_neg hki, if_neg hki]

theorem Rep.upd (R : Rep E w0 ok O σ tm w M) {j : Nat} {r : Row} (hr : lk σ.rows j = some r) {l l' : L (.sl r.e r.t)} (hl : M.loc j = ⟨.sl r.e r.t, l⟩) {bs : List Nat}
    (hk : Kept (fun k => k ∈ z1_ (.sl r.e r.t) l) w w') (hh : holds w' (.sl r.e r.t) l') (hnd : (z1_ (.sl r.e r.t) l').Nodup) (hp : r.z = false → plain w' (.sl r.e r.t) l')
    (hcell : z7_ (.sl r.e r.t) l' = z7_ (.sl r.e r.t) l) (hbl : ∀ k ∈ z1_ (.sl r.e r.t) l', k ∈ z1_ (.sl r.e r.t) l ∨ k ∈ bs) (hbs : Free w0 ok O σ M bs)
    (hS : ∀ s v, lk σ.sl s = some v → ∀ p ∈ v.paths j, z2j_ _ l l' p) (hB : ∀ i b, lk σ.bx i = some b → ∀ p ∈ b.c.paths j, z2j_ _ l l' p) :
    Rep E w0 ok O (σ.setRow j ⟨r.e, r.t, erase (.sl r.e r.t) l', r.z⟩) tm w' (updM M j ⟨.sl r.e r.t, l'⟩) := by
  have hrow : ∀ i, (∃ q, lk (σ.setRow j ⟨r.e, r.t, erase (.sl r.e r.t) l', r.z⟩).rows i = some q) → ∃ q, lk σ.rows i = some q := by
    rintro i ⟨q, hq⟩
    have hq : lk (up σ.rows j _) i = some q := hq
    rw [z5y_] at hq
    split at hq
    · obtain ⟨q', h1, _⟩ := Option.map_eq_some_iff.1 hq; exact ⟨q', h1⟩
    · exact ⟨q, hq⟩
  have hrow2 : ∀ i, (∃ q, lk σ.rows i = some q) → ∃ q, lk (σ.setRow j ⟨r.e, r.t, erase (.sl r.e r.t) l', r.z⟩).rows i = some q := by
    rintro i ⟨q, hq⟩
    show ∃ q, lk (up σ.rows j _) i = some q
    rw [z5y_, hq]
    split
    · exact ⟨_, rfl⟩
    · exact ⟨q, rfl⟩
  have loc_ne : ∀ i, i ≠ j → (updM M j ⟨.sl r.e r.t, l'⟩).loc i = M.loc i := fun i hi => z2y_ _ _ hi
  have loc_j : (updM M j ⟨.sl r.e r.t, l'⟩).loc j = ⟨.sl r.e r.t, l'⟩ := z1g_ _ _ _
  have away : ∀ i, i ≠ j → (∃ q, lk σ.rows i = some q) → ∀ k ∈ z1_ (M.loc i).1 (M.loc i).2, k ∉ z1_ (.sl r.e r.t) l := fun i hi hq k hk hk2 =>
    R.rr i j hi hq ⟨r, hr⟩ k hk (by rw [hl]; exact hk2)
  have blkAway : ∀ i, (∃ b, lk σ.bx i = some b) → M.blk i ∉ z1_ (.sl r.e r.t) l := fun i hb hk2 => R.rb j i ⟨r, hr⟩ hb (by rw [hl]; exact hk2)
  have liveOf : ∀ u, Live σ u → Live (σ.setRow j ⟨r.e, r.t, erase (.sl r.e r.t) l', r.z⟩) u := fun u hu => ⟨fun i hi => hrow2 i (hu.rows i hi), hu.boxes⟩
  constructor
  · intro s v h
    obtain ⟨z, h1, h2⟩ := R.slots s v h
    exact ⟨z, h1, zrb_ hl (hS s v h) h2⟩
  · intro i q hq
    have hq : lk (up σ.rows j _) i = some q := hq
    rw [z5y_] at hq
    split at hq
    · rename_i e
      subst e
      obtain ⟨q', h1, rfl⟩ := Option.map_eq_some_iff.1 hq
      exact ⟨l', loc_j, rfl, hh, hnd, hp⟩
    · rename_i e
      obtain ⟨l2, h1, h2, h3, h4, h5⟩ := R.rows i q hq
      have hmv : ∀ k ∈ z1_ (.sl q.e q.t) l2, w'.heap[k]? = w.heap[k]? := fun k hk2 => hk.block k (z10_ h3 k hk2) (away i (fun h => e h.symm) ⟨q, hq⟩ k (by rw [h1]; exact hk2))
      exact ⟨l2, (loc_ne i (fun h => e h.symm)).trans h1, h2, z14_ hmv h3, h4, fun hz => z15_ hmv (h5 hz)⟩
  · intro i b hb
    obtain ⟨cs, h1, h2, h3⟩ := R.boxes i b hb
    exact ⟨cs, zr9_ hl (hB i b hb) h1, (hk.block _ (Array.getElem?_eq_some_iff.1 h2).1 (blkAway i ⟨b, hb⟩)).trans h2, h3⟩
  · intro i k hik hi0 hk0 x hx
    have hi := hrow i hi0
    have hk2 := hrow k hk0
    clear hi0 hk0
    by_cases h1 : i = j
    · subst h1
      rw [loc_j] at hx
      rw [loc_ne k (fun h => hik h.symm)]
      rcases hbl x hx with h | h
      · intro hx2; exact away k (fun h => hik h.symm) hk2 x hx2 h
      · exact hbs.rows k hk2 x h
    · rw [loc_ne i h1] at hx
      by_cases h2 : k = j
      · subst h2
        rw [loc_j]
        intro hx2
        rcases hbl x hx2 with h | h
        · exact away i h1 hi x hx h
        · exact hbs.rows i hi x h hx
      · rw [loc_ne k h2]
        exact R.rr i k hik hi hk2 x hx
  · exact R.bb
  · intro i k hi0 hb hx
    have hi := hrow i hi0
    clear hi0
    by_cases h1 : i = j
    · subst h1
      rw [loc_j] at hx
      rcases hbl _ hx with h | h
      · exact blkAway k hb h
      · exact hbs.bx k hb h
    · rw [loc_ne i h1] at hx
      exact R.rb i k hi hb hx
  · intro i hi0 k hx
    have hi := hrow i hi0
    clear hi0
    by_cases h1 : i = j
    · subst h1
      rw [loc_j] at hx
      rcases hbl _ hx with h | h
      · exact R.ownR i hi k (by rw [hl]; exact h)
      · exact hbs.own k h
    · rw [loc_ne i h1] at hx
      exact R.ownR i hi k hx
  · exact R.ownB
  · exact R.okB
  · exact fun s v h => liveOf v (R.liveS s v h)
  · exact fun i b h => liveOf b.c (R.liveB i b h)
  · refine R.kept.trans hk fun k hk0 hk1 => ?_
    rcases (R.ownR j ⟨r, hr⟩ k (by rw [hl]; exact hk1)).2 with h | h
    · exact h
    · omega
  · intro i hi hq0
    have hq := hrow i hq0
    clear hq0
    by_cases h1 : i = j
    · subst h1
      have := R.pin i hi hq
      rw [hl] at this
      rw [loc_j, ← this]
      exact hcell
    · rw [loc_ne i h1]; exact R.pin i hi hq
  · exact fun i hi hq => R.pinB i hi (by first | exact hq | exact hbx1 i hq)

theorem Rep.addOwn (R : Rep E w0 ok O σ tm w M) (i : Nat) (hip : i < PIN) {e : TypeId} {t : Ty} (l : L (.sl e t)) (hh : holds w (.sl e t) l) (hp : plain w (.sl e t) l) (hf : Free w0 ok O σ M (z1_ (.sl e t) l)) :
    Rep E w0 ok O (σ.addRow i ⟨e, t, erase (.sl e t) l, false⟩) tm w (updM M i ⟨.sl e t, l⟩) := by
  have main : ∀ {σ : St}, Rep E w0 ok O σ tm w M → Free w0 ok O σ M (z1_ (.sl e t) l) → lk σ.rows i = none → Rep E w0 ok O ⟨σ.sl, (i, ⟨e, t, erase (.sl e t) l, false⟩) :: σ.rows, σ.bx⟩ tm w (updM M i ⟨.sl e t, l⟩) := by
    intro σ R hf hno
    have same : ∀ u, Live σ u → Same M (updM M i ⟨.sl e t, l⟩) u := fun u hu => ⟨fun k hk => z2y_ _ _ (by
      rintro rfl
      obtain ⟨r, hr⟩ := hu.rows k hk
      rw [hno] at hr; cases hr), fun _ _ => ⟨rfl, rfl, rfl⟩⟩
    have loc_ne : ∀ k, k ≠ i → (updM M i ⟨.sl e t, l⟩).loc k = M.loc k := fun k hk => z2y_ _ _ hk
    have loc_i : (updM M i ⟨.sl e t, l⟩).loc i = ⟨.sl e t, l⟩ := z1g_ _ _ _
    have rows : ∀ k, (∃ r, lk ((i, (⟨e, t, erase (.sl e t) l, false⟩ : Row)) :: σ.rows) k = some r) → k = i ∨ (k ≠ i ∧ ∃ r, lk σ.rows k = some r) := by
      rintro k ⟨r, hr⟩
      rw [zk_] at hr
      split at hr
      · rename_i h; exact .inl h.symm
      · rename_i h; exact .inr ⟨fun e => h e.symm, r, hr⟩
    have liveOf : ∀ u, Live σ u → Live ⟨σ.sl, (i, ⟨e, t, erase (.sl e t) l, false⟩) :: σ.rows, σ.bx⟩ u := fun u hu => ⟨fun k hk => by
      obtain ⟨r, hr⟩ := hu.rows k hk
      show ∃ r, lk ((i, _) :: σ.rows) k = some r
      rw [zk_]
      split
      · exact ⟨_, rfl⟩
      · exact ⟨r, hr⟩, hu.boxes⟩
    constructor
    · intro s v h
      obtain ⟨z, h1, h2⟩ := R.slots s v h
      exact ⟨z, h1, zl2_ (same v (R.liveS s v h)) h2⟩
    · intro k r hr0
      have hr : lk ((i, (⟨e, t, erase (.sl e t) l, false⟩ : Row)) :: σ.rows) k = some r := hr0
      clear hr0
      rw [zk_] at hr
      split at hr
      · rename_i h
        subst h
        cases hr
        exact ⟨l, loc_i, rfl, hh, hf.nd, fun _ => hp⟩
      · rename_i h
        obtain ⟨l2, h1, h2⟩ := R.rows k r hr
        exact ⟨l2, (loc_ne k (fun e => h e.symm)).trans h1, h2⟩
    · intro k b hb
      obtain ⟨cs, h1, h2, h3⟩ := R.boxes k b hb
      exact ⟨cs, zcq_ (same b.c (R.liveB k b hb)) h1, h2, h3⟩
    · intro k k' hkk hk hk' x hx
      rcases rows k hk with rfl | ⟨n1, h1⟩
      · rcases rows k' hk' with rfl | ⟨n2, h2⟩
        · exact absurd rfl hkk
        · rw [loc_i] at hx
          rw [loc_ne k' n2]
          exact hf.rows k' h2 x hx
      · rw [loc_ne k n1] at hx
        rcases rows k' hk' with rfl | ⟨n2, h2⟩
        · rw [loc_i]
          exact fun hx2 => hf.rows k h1 x hx2 hx
        · rw [loc_ne k' n2]
          exact R.rr k k' hkk h1 h2 x hx
    · exact R.bb
    · intro k b hk hb hx
      rcases rows k hk with rfl | ⟨n1, h1⟩
      · rw [loc_i] at hx; exact hf.bx b hb hx
      · rw [loc_ne k n1] at hx; exact R.rb k b h1 hb hx
    · intro k hk x hx
      rcases rows k hk with rfl | ⟨n1, h1⟩
      · rw [loc_i] at hx; exact hf.own x hx
      · rw [loc_ne k n1] at hx; exact R.ownR k h1 x hx
    · exact R.ownB
    · exact R.okB
    · exact fun s v h => liveOf v (R.liveS s v h)
    · exact fun k b h => liveOf b.c (R.liveB k b h)
    · exact R.kept
    · intro k hk hr
      rcases rows k hr with rfl | ⟨n1, h1⟩
      · omega
      · rw [loc_ne k n1]; exact R.pin k hk h1
    · exact fun i hi hq => R.pinB i hi hq
  unfold St.addRow
  simp only []
  cases hq : lk σ.rows i with
  | none => exact main R hf hq
  | some r =>
    refine main (R.drop i) (hf.sub (Sub.drop σ i)) ?_
    show lk (rm σ.rows i) i = none
    rw [z45_, if_pos rfl]

theorem Rep.putV (R : Rep E w0 ok O σ tm w M) {d : Option Tmp} {s : SV} {v : Value} (hs : RepS w0 ok M s v) (hl : Live σ s) (hb : inB d tm) : Rep E w0 ok O (σ.put d s) (putT tm d v) w M :=
  R.add (d := 0) (dst := d) (nr := []) (nb := []) (by simp [St.fresh, z2o_]) (Ext.pure hs hl) hb

theorem z3s_ (i n : Nat) : ∀ s : SV, Wk s (s.killIn i n) ∧ (∀ j ∈ (s.killIn i n).roots, j ∈ s.roots) ∧ (∀ j ∈ (s.killIn i n).boxes, j ∈ s.boxes) ∧ (∀ p ∈ (s.killIn i n).paths i, ixs p ≤ n)
  | .val _ _ => ⟨.same _, by simp [SV.killIn, SV.roots], by simp [SV.killIn, SV.boxes], by simp [SV.killIn, SV.paths]⟩
  | .ref j p => by
    simp only [SV.killIn, nbeq]
    by_cases h : i = j
    · subst h
      cases hb : Nat.blt n (ixs p)
      · simp only [decide_true, Bool.true_and, cond_false]
        refine ⟨.same _, by simp [SV.roots], by simp [SV.boxes], fun q hq => ?_⟩
        simp only [SV.paths, nbeq, decide_true, cond_true, List.mem_singleton] at hq
        subst hq
        rcases Nat.lt_or_ge n (ixs q) with h | h
        · have : Nat.blt n (ixs q) = true := Nat.ble_eq_true_of_le h
          rw [this] at hb; cases hb
        · exact h
      · simp only [decide_true, Bool.true_and, cond_true]
        exact ⟨.ref _ _, by simp [SV.roots], by simp [SV.boxes], by simp [SV.paths]⟩
    · simp only [h, decide_false, Bool.false_and, cond_false]
      exact ⟨.same _, by simp [SV.roots], by simp [SV.boxes], by simp [SV.paths, nbeq, h]⟩
  | .vw j a b => ⟨.same _, by simp [SV.killIn, SV.roots], by simp [SV.killIn, SV.boxes], by
    intro q hq
    simp only [SV.killIn, SV.paths, nbeq] at hq
    by_cases h : i = j
    · simp only [h, decide_true, cond_true, List.mem_singleton] at hq; subst hq; exact Nat.zero_le _
    · simp [h] at hq⟩
  | .ls j => ⟨.same _, by simp [SV.killIn, SV.roots], by simp [SV.killIn, SV.boxes], by simp [SV.killIn, SV.paths]⟩
  | .st s => by
    obtain ⟨h1, h2, h3, h4⟩ := z3s_ i n s
    exact ⟨.st h1, h2, h3, h4⟩
  | .pr a b => by
    obtain ⟨h1, h2, h3, h4⟩ := z3s_ i n a
    obtain ⟨k1, k2, k3, k4⟩ := z3s_ i n b
    refine ⟨.pr h1 k1, fun j hj => ?_, fun j hj => ?_, fun p hp => ?_⟩
    · simp only [SV.killIn, SV.roots, List.mem_append] at hj ⊢
      exact hj.imp (h2 j) (k2 j)
    · simp only [SV.killIn, SV.boxes, List.mem_append] at hj ⊢
      exact hj.imp (h3 j) (k3 j)
    · simp only [SV.killIn, SV.paths, List.mem_append] at hp
      exact hp.elim (h4 p) (k4 p)
  | .bp _ _ _ => ⟨.same _, by simp [SV.killIn, SV.roots], by simp [SV.killIn, SV.boxes], by simp [SV.killIn, SV.paths]⟩
  | .ep j p m f o => by
    simp only [SV.killIn, nbeq]
    by_cases h : i = j
    · subst h
      cases hb : Nat.blt n (ixs p)
      · simp only [decide_true, Bool.true_and, cond_false]
        refine ⟨.same _, by simp [SV.roots], by simp [SV.boxes], fun q hq => ?_⟩
        simp only [SV.paths, nbeq, decide_true, cond_true, List.mem_singleton] at hq
        subst hq
        rcases Nat.lt_or_ge n (ixs q) with h | h
        · have : Nat.blt n (ixs q) = true := Nat.ble_eq_true_of_le h
          rw [this] at hb; cases hb
        · exact h
      · simp only [decide_true, Bool.true_and, cond_true]
        exact ⟨.ep _ _ _ _ _, by simp [SV.roots], by simp [SV.boxes], by simp [SV.paths]⟩
    · simp only [h, decide_false, Bool.false_and, cond_false]
      exact ⟨.same _, by simp [SV.roots], by simp [SV.boxes], by simp [SV.paths, nbeq, h]⟩
  | .lp _ _ => ⟨.same _, by simp [SV.killIn, SV.roots], by simp [SV.killIn, SV.boxes], by simp [SV.killIn, SV.paths]⟩
  | .clo g s => by
    obtain ⟨h1, h2, h3, h4⟩ := z3s_ i n s
    exact ⟨.clo g h1, h2, h3, h4⟩
  | .tup s => by
    obtain ⟨h1, h2, h3, h4⟩ := z3s_ i n s
    exact ⟨.tup h1, h2, h3, h4⟩
  | .cns a b => by
    obtain ⟨h1, h2, h3, h4⟩ := z3s_ i n a
    obtain ⟨k1, k2, k3, k4⟩ := z3s_ i n b
    refine ⟨.cns h1 k1, fun j hj => ?_, fun j hj => ?_, fun p hp => ?_⟩
    · simp only [SV.killIn, SV.roots, List.mem_append] at hj ⊢
      exact hj.imp (h2 j) (k2 j)
    · simp only [SV.killIn, SV.boxes, List.mem_append] at hj ⊢
      exact hj.imp (h3 j) (k3 j)
    · simp only [SV.killIn, SV.paths, List.mem_append] at hp
      exact hp.elim (h4 p) (k4 p)
  | .nl => ⟨.same _, by simp [SV.killIn, SV.roots], by simp [SV.killIn, SV.boxes], by simp [SV.killIn, SV.paths]⟩
  | .no => ⟨.same _, by simp [SV.killIn, SV.roots], by simp [SV.killIn, SV.boxes], by simp [SV.killIn, SV.paths]⟩
  | .un => ⟨.same _, by simp [SV.killIn, SV.roots], by simp [SV.killIn, SV.boxes], by simp [SV.killIn, SV.paths]⟩
theorem Rep.killIn (R : Rep E w0 ok O σ tm w M) (i n : Nat) : Rep E w0 ok O (σ.killIn i n) tm w M ∧ (∀ s v, lk (σ.killIn i n).sl s = some v → ∀ p ∈ v.paths i, ixs p ≤ n) ∧ (∀ j b, lk (σ.killIn i n).bx j = some b → ∀ p ∈ b.c.paths i, ixs p ≤ n) := by
  have hsl : ∀ s v, lk (σ.killIn i n).sl s = some v → ∃ u, lk σ.sl s = some u ∧ v = SV.killIn i n u := fun s v h => by
    have h : lk (mapV (SV.killIn i n) σ.sl) s = some v := h
    rw [z1n_] at h
    obtain ⟨u, h1, rfl⟩ := Option.map_eq_some_iff.1 h
    exact ⟨u, h1, rfl⟩
  have hbx : ∀ j b, lk (σ.killIn i n).bx j = some b → ∃ u, lk σ.bx j = some u ∧ b = ⟨u.ty, SV.killIn i n u.c⟩ := fun j b h => by
    have h : lk (mapV (fun b : Bx => (⟨b.ty, b.c.killIn i n⟩ : Bx)) σ.bx) j = some b := h
    rw [z1n_] at h
    obtain ⟨u, h1, rfl⟩ := Option.map_eq_some_iff.1 h
    exact ⟨u, h1, rfl⟩
  refine ⟨R.mapped (SV.killIn i n) (fun s => (z3s_ i n s).1) (fun j r h => h) hsl hbx (fun u hu => ⟨fun j hj => hu.rows j ((z3s_ i n u).2.1 j hj), fun j hj => ?_⟩), fun s v h => ?_, fun j b h => ?_⟩
  · obtain ⟨b, hb⟩ := hu.boxes j ((z3s_ i n u).2.2.1 j hj)
    exact ⟨_, by show lk (mapV _ σ.bx) j = _; rw [z1n_, hb]; rfl⟩
  · obtain ⟨u, _, rfl⟩ := hsl s v h
    exact (z3s_ i n u).2.2.2
  · obtain ⟨u, _, rfl⟩ := hbx j b h
    exact (z3s_ i n u.c).2.2.2
theorem Sub.killIn (σ : St) (i n : Nat) : Sub (σ.killIn i n) σ := ⟨fun j r h => h, fun j b h => by
    have h : lk (mapV (fun b : Bx => (⟨b.ty, b.c.killIn i n⟩ : Bx)) σ.bx) j = some b := h
    rw [z1n_] at h
    obtain ⟨u, h1, _⟩ := Option.map_eq_some_iff.1 h
    exact ⟨u, h1⟩⟩
end
end Go.Proofs.YtibiofjkgdidmaaGreatDoor.Ev

namespace Go.Proofs.YtibiofjkgdidmaaGreatDoor.Ev
open Go.RowKit

section
variable {P : Program} {E : Env} {w0 : World} {ok O : Nat → Prop} {σ σ' : St} {tm : Array Value} {w w' : World} {M : Map} {a : Act}

theorem zrc_ {e : TypeId} {t : Ty} {lq : L (.sl e t)} {n g : Nat} {l0 l0' : L t} {p ds c new : List Value} (hh : holds w (.sl e t) lq) (hg : lq.1 = some g) (h0 : lq.2.2[n]? = some l0) (hc : z7_ t l0 = p ++ ds ++ c) (hc' : z7_ t l0' = p ++ new ++ c) (hlen : new.length = ds.length) (hn : (z1_ (.sl e t) lq).Nodup) :
    ∃ cur fz, w.heap[g]? = some (.cells cur e fz) ∧ (n * t.sz + p.length) + new.length ≤ cur.size ∧ (fz = (0, 0) ∨ (n * t.sz + p.length) + new.length ≤ fz.1) ∧
      ∀ w' : World, w'.heap[g]? = some (.cells (cur.toList.take (n * t.sz + p.length) ++ new ++ cur.toList.drop (n * t.sz + p.length + new.length)).toArray e fz) → (∀ k, k ≠ g → w'.heap[k]? = w.heap[k]?) →
        (holds w' t l0' → holds w' (.sl e t) (lq.1, lq.2.1, lq.2.2.set n l0')) ∧ (plain w (.sl e t) lq → plain w' t l0' → plain w' (.sl e t) (lq.1, lq.2.1, lq.2.2.set n l0')) ∧ (∀ k ∈ z1_ t l0, k ≠ g) := by
  obtain ⟨h1, h2⟩ := hh
  rw [hg] at h1
  obtain ⟨cur, fz, hcur, hl, hm, hsz, htk, hfz⟩ := h1
  obtain ⟨hlt, hxe⟩ := List.getElem?_eq_some_iff.1 h0
  have hsplit : lq.2.2 = lq.2.2.take n ++ l0 :: lq.2.2.drop (n + 1) := by
    rw [← hxe, ← List.drop_eq_getElem_cons hlt, List.take_append_drop]
  have hset : lq.2.2.set n l0' = lq.2.2.take n ++ l0' :: lq.2.2.drop (n + 1) := by rw [List.set_eq_take_append_cons_drop, if_pos hlt]
  have hX1 : ((lq.2.2.take n).flatMap (z7_ t)).length = n * t.sz := by rw [z12_, List.length_take, Nat.min_eq_left (Nat.le_of_lt hlt)]
  have hflat : lq.2.2.flatMap (z7_ t) = (lq.2.2.take n).flatMap (z7_ t) ++ p ++ ds ++ c ++ (lq.2.2.drop (n + 1)).flatMap (z7_ t) := by
    conv => lhs; rw [hsplit]
    simp [hc, List.append_assoc]
  have hflat' : (lq.2.2.set n l0').flatMap (z7_ t) = (lq.2.2.take n).flatMap (z7_ t) ++ p ++ new ++ c ++ (lq.2.2.drop (n + 1)).flatMap (z7_ t) := by
    rw [hset]
    simp [hc', List.append_assoc]
  have hcl : lq.2.2.length * t.sz ≤ cur.size := Nat.le_trans (Nat.mul_le_mul_right _ hl) hsz
  have hin : (n * t.sz + p.length) + new.length ≤ lq.2.2.length * t.sz := by
    have := congrArg List.length hflat
    rw [z12_] at this
    simp only [List.length_append, hX1] at this
    omega
  have hcurl : cur.toList = (lq.2.2.take n).flatMap (z7_ t) ++ p ++ ds ++ c ++ (lq.2.2.drop (n + 1)).flatMap (z7_ t) ++ cur.toList.drop (lq.2.2.length * t.sz) := by
    rw [← hflat, ← htk, List.take_append_drop]
  have hb : z1_ (.sl e t) lq = g :: ((lq.2.2.take n).flatMap (z1_ t)) ++ z1_ t l0 ++ (lq.2.2.drop (n + 1)).flatMap (z1_ t) := by
    simp only [z1_, hg, Option.toList_some]
    conv => lhs; rw [hsplit]
    simp [List.append_assoc]
  rw [hb] at hn
  have hgn : g ∉ (lq.2.2.take n).flatMap (z1_ t) ++ z1_ t l0 ++ (lq.2.2.drop (n + 1)).flatMap (z1_ t) := by
    simp only [List.cons_append, List.nodup_cons] at hn
    exact hn.1
  refine ⟨cur, fz, hcur, by omega, hfz.imp id (fun h => by omega), fun w' hw' hk => ⟨fun hl0 => ⟨?_, ?_⟩, fun hp hl0 => ⟨?_, ?_⟩, fun k hk2 e => hgn (by rw [← e]; simp [hk2])⟩⟩
  · simp only [hg]
    refine ⟨_, fz, hw', by rw [List.length_set]; exact hl, hm, ?_, ?_, by rw [List.length_set]; exact hfz⟩
    · simp only [List.size_toArray, List.length_append, List.length_take, List.length_drop, Array.length_toList]
      omega
    · rw [List.length_set, hflat']
      have e1 : cur.toList.take (n * t.sz + p.length) = (lq.2.2.take n).flatMap (z7_ t) ++ p := by
        rw [hcurl]
        simp only [List.append_assoc]
        rw [← List.append_assoc, List.take_left' (by rw [List.length_append, hX1])]
      have e2 : cur.toList.drop (n * t.sz + p.length + new.length) = c ++ (lq.2.2.drop (n + 1)).flatMap (z7_ t) ++ cur.toList.drop (lq.2.2.length * t.sz) := by
        conv => lhs; rw [hcurl]
        simp only [List.append_assoc]
        rw [← List.append_assoc, ← List.append_assoc, List.drop_left' (by simp only [List.length_append, hX1, hlen])]
      rw [e1, e2]
      simp only [← List.append_assoc]
      rw [List.take_left']
      have := congrArg List.length hflat
      rw [z12_] at this
      simp only [List.length_append] at this ⊢
      omega
  · intro y hy
    have hy : y ∈ lq.2.2.set n l0' := hy
    rw [hset] at hy
    rcases List.mem_append.1 hy with hm | hm
    · exact z14_ (fun k hk2 => hk k (fun e => hgn (by rw [← e]; simp only [List.mem_append, List.mem_flatMap]; exact .inl (.inl ⟨y, hm, hk2⟩)))) (h2 y (List.mem_of_mem_take hm))
    · rcases List.mem_cons.1 hm with rfl | hm
      · exact hl0
      · exact z14_ (fun k hk2 => hk k (fun e => hgn (by rw [← e]; simp only [List.mem_append, List.mem_flatMap]; exact .inr ⟨y, hm, hk2⟩))) (h2 y (List.mem_of_mem_drop hm))
  · intro b hb2
    have hb2 : lq.1 = some b := hb2
    rw [hg] at hb2
    cases hb2
    obtain ⟨cur', e', k1, k2⟩ := hp.1 g hg
    rw [hcur] at k1
    cases k1
    refine ⟨_, e, hw', ?_⟩
    simp only [List.size_toArray, List.length_append, List.length_take, List.length_drop, Array.length_toList]
    rw [← k2]
    omega
  · intro y hy
    have hy : y ∈ lq.2.2.set n l0' := hy
    rw [hset] at hy
    rcases List.mem_append.1 hy with hm | hm
    · exact z15_ (fun k hk2 => hk k (fun e => hgn (by rw [← e]; simp only [List.mem_append, List.mem_flatMap]; exact .inl (.inl ⟨y, hm, hk2⟩)))) (hp.2 y (List.mem_of_mem_take hm))
    · rcases List.mem_cons.1 hm with rfl | hm
      · exact hl0
      · exact z15_ (fun k hk2 => hk k (fun e => hgn (by rw [← e]; simp only [List.mem_append, List.mem_flatMap]; exact .inr ⟨y, hm, hk2⟩))) (hp.2 y (List.mem_of_mem_drop hm))

theorem zd2_ (p q : List Step) : ixs (p ++ q) = ixs p + ixs q := by
  induction p with
  | nil => simp [ixs]
  | cons s p ih => cases s <;> simp [ixs, ih]; omega
theorem zm6_ (f : List Bool) : ixs (f.map z22_) = 0 := by
  induction f with
  | nil => rfl
  | cons b f ih => simp [ixs, z22_, ih]

theorem zm7_ {R0 : Type} {res : R0} (R : Rep E w0 ok O σ tm w M) {j n g c : Nat} {q : List Step} {f : List Bool} {e : TypeId} {t : Ty} {lq : L (.sl e t)} (hq : subL (M.loc j).1 (M.loc j).2 q = some ⟨.sl e t, lq⟩) (hg : lq.1 = some g)
    {u : Ty} {y : L u} (hy : holds w u y) (hyp : plain w u y) (hyf : Free w0 ok O σ M (z1_ u y))
    (hS : ∀ s v, lk σ.sl s = some v → ∀ p ∈ v.paths j, u.flat = true ∨ ixs p ≤ ixs q) (hB : ∀ i b, lk σ.bx i = some b → ∀ p ∈ b.c.paths j, u.flat = true ∨ ixs p ≤ ixs q)
    {k : St → Option R0} (h : putC σ j (q ++ [.ix n]) f c u (erase u y) k = some res) :
    ∃ σ' M' cur fz, k σ' = some res ∧ w.heap[g]? = some (.cells cur e fz) ∧ (n * t.sz + c) + u.sz ≤ cur.size ∧ (fz = (0, 0) ∨ (n * t.sz + c) + u.sz ≤ fz.1) ∧
      ∀ w' : World, w'.heap[g]? = some (.cells (cur.toList.take (n * t.sz + c) ++ z7_ u y ++ cur.toList.drop (n * t.sz + c + u.sz)).toArray e fz) → (∀ k, k ≠ g → w'.heap[k]? = w.heap[k]?) → Kept (fun k => k = g) w w' → Rep E w0 ok O σ' tm w' M' := by
  unfold putC at h
  split at h
  · rename_i r hr
    obtain ⟨l, hl, he, hh, hnd, hpl⟩ := R.rows j r hr
    rw [hl] at hq
    rw [← he, z1l_, z2r_, zb4_ hq] at h
    cases hn : lq.2.2[n]? with
    | none => rw [hn] at h; cases h
    | some l0 =>
      rw [hn] at h
      simp only [Option.bind_some, z3a_, Option.map_some] at h
      simp only [zcp_] at h
      cases ho : Nat.beq (t.offP f) c <;> rw [ho] at h
      · cases h
      · have ho := Nat.eq_of_beq_eq_true ho
        simp only [cond_true] at h
        rw [z4x_] at h
        obtain ⟨l0', h0', h⟩ := Option.bind_eq_some_iff.1 h
        rw [z4x_] at h
        obtain ⟨l', h1', h⟩ := Option.bind_eq_some_iff.1 h
        -- the pieces
        obtain ⟨v, z, P1⟩ := put1 w t l0 f u y l0' h0'
        have hfull : setL (.sl r.e r.t) l ((q ++ [.ix n]) ++ f.map z22_) u y = some l' := by
          rw [z5v_, zb4_ hq, hn]
          simp only [Option.bind_some, z3a_, h0']
          exact h1'
        rw [z5v_, hq] at h1'
        simp only [Option.bind_some] at h1'
        have hone : setL (.sl e t) lq [.ix n] t l0' = some (lq.1, lq.2.1, lq.2.2.set n l0') := by
          show (lq.2.2[n]?).bind (fun z => (setL t z [] t l0').map _) = _
          rw [hn, Option.bind_some, z2i_]
          rfl
        rw [hone, Option.bind_some] at h1'
        obtain ⟨p, cc, e1, e2, e3⟩ := P1.cells
        have hgb : g ∈ z1_ (.sl e t) lq := by simp [z1_, hg]
        obtain ⟨hqh, hqb⟩ := subL_holds hq hh
        have hszz : (z7_ u y).length = (z7_ v z).length := by rw [z19_, z19_, P1.sz]
        have hgl : g ∈ z1_ (.sl r.e r.t) l := hqb g hgb
        obtain ⟨A, C, b1, b2⟩ : ∃ A C, z1_ (.sl r.e r.t) l = A ++ z1_ (.sl e t) lq ++ C ∧ z1_ (.sl r.e r.t) l' = A ++ z1_ (.sl e t) (lq.1, lq.2.1, lq.2.2.set n l0') ++ C :=
          (z5w_ (w := w) (w' := w) (fun _ _ => rfl) (.sl r.e r.t) l q (.sl e t) lq (lq.1, lq.2.1, lq.2.2.set n l0') l' hq h1' (by simp [z7_]) hnd hgb).2.2.2
        have hndq : (z1_ (.sl e t) lq).Nodup := by
          rw [b1] at hnd
          exact (List.nodup_append.1 (List.nodup_append.1 hnd).1).2.1
        obtain ⟨cur, fz, k1, k2, k3, k4⟩ := zrc_ hqh hg hn e1 e2 hszz hndq
        rw [e3, ho, z19_] at k2 k3
        obtain ⟨A1, C1, b3, b4⟩ := P1.bl
        obtain ⟨hlt, hxe⟩ := List.getElem?_eq_some_iff.1 hn
        have hsplit : lq.2.2 = lq.2.2.take n ++ l0 :: lq.2.2.drop (n + 1) := by
          rw [← hxe, ← List.drop_eq_getElem_cons hlt, List.take_append_drop]
        have hset : lq.2.2.set n l0' = lq.2.2.take n ++ l0' :: lq.2.2.drop (n + 1) := by rw [List.set_eq_take_append_cons_drop, if_pos hlt]
        have hbA : ∃ A2 C2, z1_ (.sl r.e r.t) l = A2 ++ z1_ v z ++ C2 ∧ z1_ (.sl r.e r.t) l' = A2 ++ z1_ u y ++ C2 := by
          refine ⟨A ++ lq.1.toList ++ (lq.2.2.take n).flatMap (z1_ t) ++ A1, C1 ++ (lq.2.2.drop (n + 1)).flatMap (z1_ t) ++ C, ?_, ?_⟩
          · rw [b1]
            simp only [z1_]
            conv => lhs; rw [hsplit]
            simp [b3, List.append_assoc]
          · rw [b2]
            simp only [z1_]
            rw [hset]
            simp [b4, List.append_assoc]
        obtain ⟨A2, C2, b5, b6⟩ := hbA
        have hnd' : (z1_ (.sl r.e r.t) l').Nodup := by
          have hnd2 := hnd
          rw [b5] at hnd2
          obtain ⟨m1, m2, m3⟩ := List.nodup_append.1 hnd2
          obtain ⟨m4, m5, m6⟩ := List.nodup_append.1 m1
          have hyl : ∀ k ∈ z1_ u y, k ∉ z1_ (.sl r.e r.t) l := fun k hk => by
            have := hyf.rows j ⟨r, hr⟩ k hk
            rw [hl] at this; exact this
          rw [b6]
          refine List.nodup_append.2 ⟨List.nodup_append.2 ⟨m4, hyf.nd, fun x hx z hz e => ?_⟩, m2, fun x hx z hz e => ?_⟩
          · subst e; exact hyl x hz (by rw [b5]; simp [hx])
          · subst e
            rcases List.mem_append.1 hx with hx | hx
            · exact m3 x (List.mem_append.2 (.inl hx)) x hz rfl
            · exact hyl x hx (by rw [b5]; simp [hz])
        refine ⟨_, updM M j ⟨.sl r.e r.t, l'⟩, cur, fz, h, k1, k2, k3, fun w' hw' hoth hkept => ?_⟩
        obtain ⟨k5, k6, k7⟩ := k4 w' (by rw [e3, ho, z19_]; exact hw') hoth
        have hl0 : holds w t l0 := hqh.2 l0 (List.mem_of_getElem? hn)
        have hygn : ∀ k ∈ z1_ u y, k ≠ g := fun k hk e => by
          have := hyf.rows j ⟨r, hr⟩ k hk
          rw [hl] at this
          exact this (e ▸ hgl)
        have hl0' : holds w' t l0' := by
          have hy' : holds w' u y := z14_ (fun k hk => hoth k (hygn k hk)) hy
          obtain ⟨v2, z2, P2⟩ := put1 w' t l0 f u y l0' h0'
          exact P2.ho (z14_ (fun k hk => hoth k (k7 k hk)) hl0) hy'
        obtain ⟨o1, o2, o3, _⟩ := z5w_ (w := w) (w' := w') (g := g) hoth (.sl r.e r.t) l q (.sl e t) lq (lq.1, lq.2.1, lq.2.2.set n l0') l' hq h1' (by simp [z7_]) hnd hgb
        refine R.upd hr hl (hkept.trans (Kept.refl (fun k => k = g) w') (fun _ _ h => h) |> fun hk => ⟨hk.os, hk.tape, hk.output, hk.size, fun k hk1 hk2 => hk.block k hk1 (fun e => hk2 (e ▸ hgl))⟩) (o2 hh (k5 hl0')) hnd' (fun hz => ?_) o1 (fun k hk => ?_) hyf (fun s v hv p hp => ?_) (fun i b hb p hp => ?_)
        · have hlp := hpl hz
          have hqp : plain w (.sl e t) lq := by
            have key : ∀ (t : Ty) (x : L t) (q : List Step) (v : Loc), subL t x q = some v → plain w t x → plain w v.1 v.2 := by
              intro t
              induction t with
              | sl e t ih =>
                intro x q v hv hx
                match q with
                | [] => cases hv; exact hx
                | .f _ :: _ => cases hv
                | .u :: _ => cases hv
                | .ix n :: q =>
                  obtain ⟨z, hz, hv⟩ := Option.bind_eq_some_iff.1 hv
                  exact ih z q v hv (hx.2 z (List.mem_of_getElem? hz))
              | st t ih =>
                intro x q v hv hx
                match q with
                | [] => cases hv; exact hx
                | .u :: q => exact ih x q v hv hx
                | .ix n :: q => exact ih x (.ix n :: q) v hv hx
                | .f b :: q => exact ih x (.f b :: q) v hv hx
              | pr a b iha ihb =>
                intro x q v hv hx
                match q with
                | [] => cases hv; exact hx
                | .ix _ :: _ => cases hv
                | .u :: _ => cases hv
                | .f false :: q => exact iha x.1 q v hv hx.1
                | .f true :: q => exact ihb x.2 q v hv hx.2
              | int k => intro x q v hv hx; match q with | [] => cases hv; exact hx | _ :: _ => cases hv
              | bool => intro x q v hv hx; match q with | [] => cases hv; exact hx | _ :: _ => cases hv
              | str => intro x q v hv hx; match q with | [] => cases hv; exact hx | _ :: _ => cases hv
              | un => intro x q v hv hx; match q with | [] => cases hv; exact hx | _ :: _ => cases hv
              | ptr t _ => intro x; exact x.elim
              | fn g c _ => intro x; exact x.elim
            exact key _ _ _ _ hq hlp
          have hl0p : plain w t l0 := hqp.2 l0 (List.mem_of_getElem? hn)
          have hyp' : plain w' u y := z15_ (fun k hk => hoth k (hygn k hk)) hyp
          obtain ⟨v2, z2, P2⟩ := put1 w' t l0 f u y l0' h0'
          exact o3 hlp (k6 hqp (P2.pl (z15_ (fun k hk => hoth k (k7 k hk)) hl0p) hyp'))
        · rw [b6] at hk
          rw [b5]
          simp only [List.mem_append] at hk ⊢
          rcases hk with (hk | hk) | hk
          · exact .inl (.inl (.inl hk))
          · exact .inr hk
          · exact .inl (.inr hk)
        · rcases hS s v hv p hp with hf | hle
          · exact z30_ _ _ _ _ _ _ _ hfull hf
          · exact z2k_ _ _ _ _ _ _ _ hfull (by rw [zd2_, zd2_, zm6_]; simp [ixs]; omega)
        · rcases hB i b hb p hp with hf | hle
          · exact z30_ _ _ _ _ _ _ _ hfull hf
          · exact z2k_ _ _ _ _ _ _ _ hfull (by rw [zd2_, zd2_, zm6_]; simp [ixs]; omega)
  · cases h
end
end Go.Proofs.YtibiofjkgdidmaaGreatDoor.Ev

namespace Go.Proofs.YtibiofjkgdidmaaGreatDoor.Ev
open Go.RowKit

section
variable {P : Program} {E : Env} {w0 : World} {ok O : Nat → Prop} {σ σ' : St} {tm : Array Value} {w w' : World} {M : Map} {a : Act}

theorem zm8_ {s r : SV} {cs : List Value} (h : RepV w0 ok M r cs) : RepV w0 ok M (s.frame r) cs := by
  unfold SV.frame
  cases s.isSt
  · exact h
  · exact h
theorem zd3_ (s r : SV) : (s.frame r).roots = r.roots ∧ (s.frame r).boxes = r.boxes := by
  unfold SV.frame
  cases s.isSt <;> exact ⟨rfl, rfl⟩
theorem z5z_ {s l r : SV} (hl : s.half false = some l) (hr : s.half true = some r) (i : Nat) : (i ∈ l.roots ∨ i ∈ r.roots → i ∈ s.roots) ∧ (i ∈ l.boxes ∨ i ∈ r.boxes → i ∈ s.boxes) := by
  match s, hl, hr with
  | .val (.pr a b) x, hl, hr => cases hl; cases hr; simp [SV.roots, SV.boxes]
  | .val (.st (.pr a b)) x, hl, hr => cases hl; cases hr; simp [SV.roots, SV.boxes]
  | .pr a b, hl, hr => cases hl; cases hr; simp [SV.roots, SV.boxes]
  | .st (.pr a b), hl, hr => cases hl; cases hr; simp [SV.roots, SV.boxes]
theorem zhz_ : ∀ {q : List Bool} {s old y c : SV} {cs ys : List Value}, RepV w0 ok M s cs → s.part q = some old → s.setPart q y = some c → RepV w0 ok M y ys → ys.length = old.w →
    (∃ A ds C, cs = A ++ ds ++ C ∧ A.length = s.offP q ∧ ds.length = ys.length ∧ RepV w0 ok M c (A ++ ys ++ C)) ∧ (∀ i, (i ∈ c.roots → i ∈ s.roots ∨ i ∈ y.roots) ∧ (i ∈ c.boxes → i ∈ s.boxes ∨ i ∈ y.boxes))
  | [], s, old, y, c, cs, ys, h, hp, hc, hy, hl => by
    cases hp
    cases hc
    exact ⟨⟨[], cs, [], by simp, by cases s <;> rfl, by rw [RepV.len h, hl], by simpa using hy⟩, fun i => ⟨.inr, .inr⟩⟩
  | b :: q, s, old, y, c, cs, ys, h, hp, hc, hy, hl => by
    simp only [SV.part] at hp
    split at hp
    · rename_i z hz
      obtain ⟨l, r, h1, h2, rfl⟩ := zkx_ hz
      obtain ⟨c1, c2, rfl, hl1, hr1⟩ := zkw_ h h1 h2
      simp only [SV.setPart, h1, h2] at hc
      cases b with
      | false =>
        simp only [] at hc
        split at hc
        · rename_i l' hl'
          cases hc
          obtain ⟨⟨A, ds, C, rfl, e1, e2, e3⟩, e4⟩ := zhz_ hl1 hp hl' hy hl
          refine ⟨⟨A, ds, C ++ c2, by simp, by simp only [SV.offP, h1, h2]; exact e1, e2, ?_⟩, fun i => ⟨fun hi => ?_, fun hi => ?_⟩⟩
          · exact zm8_ ⟨A ++ ys ++ C, c2, by simp, e3, hr1⟩
          · rw [(zd3_ _ _).1] at hi
            simp only [SV.roots, List.mem_append] at hi
            rcases hi with hi | hi
            · exact ((e4 i).1 hi).imp (fun h => (z5z_ h1 h2 i).1 (.inl h)) id
            · exact .inl ((z5z_ h1 h2 i).1 (.inr hi))
          · rw [(zd3_ _ _).2] at hi
            simp only [SV.boxes, List.mem_append] at hi
            rcases hi with hi | hi
            · exact ((e4 i).2 hi).imp (fun h => (z5z_ h1 h2 i).2 (.inl h)) id
            · exact .inl ((z5z_ h1 h2 i).2 (.inr hi))
        · cases hc
      | true =>
        simp only [] at hc
        split at hc
        · rename_i r' hr'
          cases hc
          obtain ⟨⟨A, ds, C, rfl, e1, e2, e3⟩, e4⟩ := zhz_ hr1 hp hr' hy hl
          refine ⟨⟨c1 ++ A, ds, C, by simp, by simp only [SV.offP, h1, h2, List.length_append, RepV.len hl1]; rw [e1], e2, ?_⟩, fun i => ⟨fun hi => ?_, fun hi => ?_⟩⟩
          · exact zm8_ ⟨c1, A ++ ys ++ C, by simp, hl1, e3⟩
          · rw [(zd3_ _ _).1] at hi
            simp only [SV.roots, List.mem_append] at hi
            rcases hi with hi | hi
            · exact .inl ((z5z_ h1 h2 i).1 (.inl hi))
            · exact ((e4 i).1 hi).imp (fun h => (z5z_ h1 h2 i).1 (.inr h)) id
          · rw [(zd3_ _ _).2] at hi
            simp only [SV.boxes, List.mem_append] at hi
            rcases hi with hi | hi
            · exact .inl ((z5z_ h1 h2 i).2 (.inl hi))
            · exact ((e4 i).2 hi).imp (fun h => (z5z_ h1 h2 i).2 (.inr h)) id
        · cases hc
    · cases hp
theorem zrd_ : ∀ {o s : SV} {cs : List Value}, RepV w0 ok M s cs → RepV w0 ok M (o.like s) cs ∧ (o.like s).roots = s.roots ∧ (o.like s).boxes = s.boxes := by
  intro o
  induction o with
  | st o ih =>
    intro s cs h
    cases s with
    | st s => exact ih (s := s) h
    | val t x => cases t <;> exact ⟨h, rfl, rfl⟩
    | _ => exact ⟨h, rfl, rfl⟩
  | val t x =>
    intro s cs h
    cases t with
    | st t =>
      cases s with
      | st s => exact ⟨h, rfl, rfl⟩
      | val u y => cases u <;> exact ⟨h, rfl, rfl⟩
      | _ => exact ⟨h, rfl, rfl⟩
    | _ => exact ⟨h, rfl, rfl⟩
  | _ => intro s cs h; exact ⟨h, rfl, rfl⟩

theorem Rep.updB (R : Rep E w0 ok O σ tm w M) {j : Nat} {b : Bx} (hb : lk σ.bx j = some b) {c : SV} {cs : List Value} (hk : Kept (fun k => k = M.blk j) w w') (hc : RepV w0 ok M c cs) (hw : w'.heap[M.blk j]? = some (.cells cs.toArray b.ty (0, 0)))
    (hl : Live σ c) : Rep E w0 ok O (σ.setBox j ⟨b.ty, c⟩) tm w' M := by
  have hbx : ∀ i q, lk (σ.setBox j ⟨b.ty, c⟩).bx i = some q → (i = j ∧ q = ⟨b.ty, c⟩) ∨ (i ≠ j ∧ lk σ.bx i = some q) := by
    intro i q hq
    have hq2 : lk (up σ.bx j _) i = some q := hq
    rw [z5y_] at hq2
    split at hq2
    · rename_i e
      obtain ⟨q', _, rfl⟩ := Option.map_eq_some_iff.1 hq2
      exact .inl ⟨e.symm, rfl⟩
    · rename_i e
      exact .inr ⟨fun h => e h.symm, hq2⟩
  have hbx1 : ∀ i, (∃ q, lk (σ.setBox j ⟨b.ty, c⟩).bx i = some q) → ∃ q, lk σ.bx i = some q := by
    rintro i ⟨q, hq⟩
    rcases hbx i q hq with ⟨rfl, _⟩ | ⟨_, h⟩
    · exact ⟨b, hb⟩
    · exact ⟨q, h⟩
  have hbx2 : ∀ i, (∃ q, lk σ.bx i = some q) → ∃ q, lk (σ.setBox j ⟨b.ty, c⟩).bx i = some q := by
    rintro i ⟨q, hq⟩
    show ∃ q, lk (up σ.bx j _) i = some q
    rw [z5y_, hq]
    split
    · exact ⟨_, rfl⟩
    · exact ⟨q, rfl⟩
  have liveOf : ∀ u, Live σ u → Live (σ.setBox j ⟨b.ty, c⟩) u := fun u hu => ⟨hu.rows, fun i hi => hbx2 i (hu.boxes i hi)⟩
  constructor
  · exact R.slots
  · intro i r hr
    obtain ⟨l, h1, h2, h3, h4, h5⟩ := R.rows i r hr
    have hmv : ∀ k ∈ z1_ (.sl r.e r.t) l, w'.heap[k]? = w.heap[k]? := fun k hk2 => hk.block k (z10_ h3 k hk2) (fun e => R.rb i j ⟨r, hr⟩ ⟨b, hb⟩ (by rw [h1]; exact e ▸ hk2))
    exact ⟨l, h1, h2, z14_ hmv h3, h4, fun hz => z15_ hmv (h5 hz)⟩
  · intro i q hq
    rcases hbx i q hq with ⟨rfl, rfl⟩ | ⟨hne, h⟩
    · refine ⟨cs, zo_ hc, hw, fun hch => ?_⟩
      exfalso
      cases c <;> first | (cases hch; done) | exact hc.elim
    · obtain ⟨cs', h1, h2, h3⟩ := R.boxes i q h
      exact ⟨cs', h1, (hk.block _ (Array.getElem?_eq_some_iff.1 h2).1 (R.bb i j hne ⟨q, h⟩ ⟨b, hb⟩)).trans h2, h3⟩
  · exact R.rr
  · exact fun i k hik hi hk2 => R.bb i k hik (hbx1 i hi) (hbx1 k hk2)
  · exact fun i k hi hk2 => R.rb i k hi (hbx1 k hk2)
  · exact R.ownR
  · exact fun i hi => R.ownB i (hbx1 i hi)
  · exact R.okB
  · exact fun s v h => liveOf v (R.liveS s v h)
  · intro i q hq
    rcases hbx i q hq with ⟨rfl, rfl⟩ | ⟨hne, h⟩
    · exact liveOf c hl
    · exact liveOf q.c (R.liveB i q h)
  · refine R.kept.trans hk fun k hk0 hk1 => ?_
    rcases (R.ownB j ⟨b, hb⟩).2 with h | h
    · exact hk1 ▸ h
    · omega
  · exact R.pin
  · exact fun i hi hq => R.pinB i hi (hbx1 i hq)

theorem zm9_ {R0 : Type} {res : R0} (R : Rep E w0 ok O σ tm w M) (T : zj_ P E.ti = true) {j c : Nat} {q : List Bool} {s : SV} {k : St → Option R0} (h : zar_.boxC σ j q c s k = some res)
    {t : TypeId} {v : Value} {cs : List Value} (hs : RepV w0 ok M s cs) (hl : Live σ s) (hv : v.cells = cs.toArray) (hlen : cs.length = (E.tyOf t).sz) (h0 : (E.tyOf t).sz ≠ 0) :
    ∃ w' σ', (Instr.storeAt t (.pointer (some ⟨M.blk j, c, none⟩)) v).run P w = .ok () w' ∧ k σ' = some res ∧ Rep E w0 ok O σ' tm w' M := by
  unfold zar_.boxC at h
  split at h
  · rename_i b hb
    split at h
    · rename_i old hp
      split at h
      · rename_i c' hc
        cases hk : (Nat.beq (b.c.offP q) c && Nat.beq old.w s.w) <;> rw [hk] at h
        · cases h
        · simp only [Bool.and_eq_true] at hk
          have k1 := Nat.eq_of_beq_eq_true hk.1
          have k2 := Nat.eq_of_beq_eq_true hk.2
          simp only [cond_true] at h
          obtain ⟨cs0, g1, g2, g3⟩ := R.boxes j b hb
          have hsw : s.w = cs.length := (RepV.len hs).symm
          have hnc : b.c.isCh = false := by
            cases hcc : b.c with
            | nl => rw [hcc] at hp; cases q with
              | nil => cases hp; simp only [SV.w] at k2; omega
              | cons x y => cases hp
            | cns x y => rw [hcc] at hp; cases q with
              | nil => cases hp; simp only [SV.w] at k2; omega
              | cons x y => cases hp
            | _ => rfl
          obtain ⟨l1, l2, l3⟩ := zrd_ (o := old) hs
          obtain ⟨⟨A, ds, C, rfl, e1, e2, e3⟩, e4⟩ := zhz_ (zb2_ g1 hnc) hp hc l1 (by rw [k2, hsw])
          obtain ⟨w', m1, m2, m3, m4⟩ := zhy_ (P := P) T h0 hv hlen (fun v hv => RepV.one hs v hv) g2 (o := c) (by rw [← k1, ← e1]; simp; omega) (.inl rfl)
          refine ⟨w', _, m1, h, R.updB hb m4 e3 ?_ ⟨fun i hi => ?_, fun i hi => ?_⟩⟩
          · rw [m2]
            congr 2
            have : (A ++ ds ++ C).toArray.toList = A ++ ds ++ C := by simp
            rw [this, ← k1, ← e1]
            have e5 : (A ++ ds ++ C).take A.length = A := by rw [List.append_assoc, List.take_left' rfl]
            have e6 : (A ++ ds ++ C).drop (A.length + cs.length) = C := List.drop_left' (by rw [List.length_append, e2])
            rw [e5, e6]
          · rcases (e4 i).1 hi with hi | hi
            · exact (R.liveB j b hb).rows i hi
            · exact hl.rows i (by rw [← l2]; exact hi)
          · rcases (e4 i).2 hi with hi | hi
            · exact (R.liveB j b hb).boxes i hi
            · exact hl.boxes i (by rw [← l3]; exact hi)
      · cases h
    · cases h
  · cases h

theorem zre_ {w : World} {ok : Nat → Prop} {t : Ty} {x : t.T} {v : Value} {cs : List Value} (h : Rd w ok t x cs) (hw : zu_ t v cs) : v.cells = cs.toArray := by
  rcases hw with ⟨_, rfl⟩ | ⟨_, rfl⟩
  · rfl
  · exact zlk_ (Rd.one h v (by simp))

theorem zrf_ {R0 : Type} {res : R0} (R : Rep E w0 ok O σ tm w M) (hat : a.tmps = tm) (T : zj_ P E.ti = true) {t : TypeId} {x y : Operand} {k : St → Option R0} (h : zar_ E σ t x y k = some res) :
    ∃ w' σ' M', (Instr.storeAt t (a.eval x) (a.eval y)).run P w = .ok () w' ∧ k σ' = some res ∧ Rep E w0 ok O σ' tm w' M' := by
  unfold zar_ at h
  split at h
  · rename_i j q c hx
    obtain ⟨⟨cx, hcx, hwx⟩, hlx⟩ := zs_ R hat hx
    simp only [RepV] at hcx
    subst hcx
    have hvx : a.eval x = .pointer (some ⟨M.blk j, c, none⟩) := by
      rcases hwx with ⟨h5, _⟩ | ⟨_, h5⟩
      · cases h5
      · simp only [List.cons.injEq, and_true] at h5; exact h5.symm
    rw [hvx]
    split at h
    · split at h
      · rename_i e e' u b ht
        obtain ⟨hu, hty⟩ := z3q_ T ht
        have htyof : E.tyOf t = .sl e' u := by simp [Env.tyOf, ht]
        cases hpin : Nat.blt (3000000 + 32 * j) PIN <;> rw [hpin] at h
        · cases h
        simp only [cond_true] at h
        have R' := R.addOwn (3000000 + 32 * j) (Nat.le_of_ble_eq_true hpin) (e := e) (t := u) (none, 0, []) ⟨⟨rfl, rfl⟩, by simp⟩ ⟨fun b hb => (nomatch hb), by simp⟩ (by simp only [z1_]; exact Free.nil)
        have hrow : ∃ r, lk (σ.addRow (3000000 + 32 * j) ⟨e, u, [], false⟩).rows (3000000 + 32 * j) = some r := ⟨_, z3c_ _ _ _⟩
        obtain ⟨w', σ', m1, m2, m3⟩ := zm9_ (P := P) R' T h (t := t) (v := .slice none 0 0) (cs := [.slice none 0 0]) ⟨e, u, (none, 0, []), (congrArg (fun z : Loc => subL z.1 z.2 []) (z1g_ M.loc (3000000 + 32 * j) ⟨.sl e u, (none, 0, [])⟩)).trans rfl, rfl⟩
          ⟨fun i hi => by simp [SV.roots] at hi; subst hi; exact hrow, by simp [SV.boxes]⟩ rfl (by rw [htyof]; rfl) (by rw [htyof]; simp [Ty.sz])
        exact ⟨w', σ', _, m1, m2, m3⟩
      · cases h
    · split at h
      · rename_i s hs
        cases hk : s.okW (E.tyOf t) <;> rw [hk] at h
        · cases h
        · simp only [cond_true] at h
          obtain ⟨h1, h2⟩ := zs_ R hat hs
          obtain ⟨cs, h3, h4, h5, h6⟩ := zcz_ h1 hk
          obtain ⟨w', σ', m1, m2, m3⟩ := zm9_ (P := P) R T h (t := t) h3 h2 h5 h6 (zb7_ hk).2.2.1
          exact ⟨w', σ', M, m1, m2, m3⟩
      · cases h
  · rename_i j q n f c hx
    obtain ⟨⟨cx, ⟨e, t', lq, g, hq, hg, hlt, hcx⟩, hwx⟩, hlx⟩ := zs_ R hat hx
    subst hcx
    have hvx : a.eval x = .pointer (some ⟨g, n * t'.sz + c, none⟩) := by
      rcases hwx with ⟨h5, _⟩ | ⟨_, h5⟩
      · cases h5
      · simp only [List.cons.injEq, and_true] at h5; exact h5.symm
    rw [hvx]
    split at h
    · rename_i s hs
      cases hfl : (E.tyOf t).flat <;> rw [hfl] at h
      · simp only [cond_false] at h
        obtain ⟨h1, h2⟩ := zs_ R hat hs
        rcases z27_ h1 with rfl | ⟨c, vs, rfl, _, _⟩ | ⟨cs, h4, h5⟩
        · cases h
        · cases h
        · obtain ⟨σ1, u, l, g1, g2, g3, g4, g5, g6⟩ := z4g_ depth w0 ok O σ tm w M s cs _ R h4 h
          cases hk : (Nat.beq u.sz (E.tyOf t).sz && !Nat.beq u.sz 0) <;> rw [hk] at g1
          · cases g1
          · obtain ⟨z1, z2⟩ := z5s_ hk
            simp only [cond_true] at g1
            obtain ⟨R2, p1, p2⟩ := g6.rep.killIn j (ixs q)
            obtain ⟨σ', M', cur, fz, k1, k2, k3, k4, k5⟩ := zm7_ R2 hq hg g2 g3 (g6.free.sub (Sub.killIn σ1 j (ixs q))) (fun s v hv p hp => .inr (p1 s v hv p hp)) (fun i b hb p hp => .inr (p2 i b hb p hp)) g1
            have hl : cs.length = u.sz := by rw [← g4, z19_]
            obtain ⟨w', m1, m2, m3, m4⟩ := zhy_ (P := P) T z2 (zll_ h4 h5) (by rw [hl, z1]) (fun v hv => RepV.one h4 v hv) k2 (o := n * t'.sz + c) (by rw [hl]; exact k3) (by rw [hl]; exact k4)
            exact ⟨w', σ', M', m1, k1, k5 w' (by rw [g4, m2, hl]) m3 m4⟩
      · simp only [cond_true] at h
        rw [zp_] at h
        obtain ⟨⟨u, yv⟩, hv, h⟩ := Option.bind_eq_some_iff.1 h
        obtain ⟨cs, h2, h3⟩ := res2 R hat hs hv
        cases hk : (u.flat && Nat.beq u.sz (E.tyOf t).sz) <;> simp only [hk, cond_true, cond_false] at h
        · cases h
        · simp only [Bool.and_eq_true] at hk
          have z1 := Nat.eq_of_beq_eq_true hk.2
          have hfu := hk.1
          obtain ⟨l, rfl, l2, l3, l4⟩ := z8d_ hfu h2
          obtain ⟨σ', M', cur, fz, k1, k2, k3, k4, k5⟩ := zm7_ R hq hg (l4 w).1 (l4 w).2 (by rw [l3]; exact Free.nil) (fun s v hv p hp => .inl hfu) (fun i b hb p hp => .inl hfu) h
          have hl : cs.length = u.sz := Rd.len h2
          obtain ⟨w', m1, m2, m3, m4⟩ := zhy_ (P := P) T (zb6_ hfl) (zre_ h2 h3) (by rw [hl, z1]) (fun v hv => Rd.one h2 v hv) k2 (o := n * t'.sz + c) (by rw [hl]; exact k3) (by rw [hl]; exact k4)
          exact ⟨w', σ', M', m1, k1, k5 w' (by rw [l2, m2, hl]) m3 m4⟩
    · cases h
  · cases h
end
end Go.Proofs.YtibiofjkgdidmaaGreatDoor.Ev

namespace Go.Proofs.YtibiofjkgdidmaaGreatDoor.Ev
open Go.RowKit

section
variable {P : Program} {E : Env} {w0 : World} {ok O : Nat → Prop} {σ σ' : St} {tm : Array Value} {w w' : World} {M : Map} {a : Act}

theorem zma_ {g o : Nat} {t : TypeId} {vs : List Value} {cur : Array Value} {w : World} (hg : w.heap[g]? = some (.cells cur t (0, 0))) (hl : o + vs.length ≤ cur.size) (h1 : ∀ v ∈ vs, v.oneCell' = true) :
    (w.setCells g o vs).heap[g]? = some (.cells (cur.toList.take o ++ vs ++ cur.toList.drop (o + vs.length)).toArray t (0, 0)) ∧ (∀ k, k ≠ g → (w.setCells g o vs).heap[k]? = w.heap[k]?) ∧ Kept (fun k => k = g) w (w.setCells g o vs) := by
  have h2 := run_storeCells_cells (P := default) g o vs 0 w (fun j hj => by
    have : o + 0 + j < cur.size := by omega
    rw [Nat.add_zero] at this
    simp [World.cell?, hg, this]) (fun j hj => by simp [World.frozen?, hg]) h1
  obtain ⟨w', e1, e2, e3, e4⟩ := zd1_ default g t (0, 0) vs o 0 cur w hg (by omega) (.inl rfl) h1
  rw [h2] at e1
  cases e1
  exact ⟨by simpa using e2, by simpa using e3, by simpa using e4⟩

theorem zrg_ {t tx ty e : TypeId} {u : Ty} {i : TypeInfo} {z : Value} (ht : P.underlying t = some (.slice e)) (hi : P.info? e = some i) (hz : i.zero = some z) (hsz : i.size = u.sz) (hzs : z.cells.size = u.sz) (hpos : 0 < u.sz)
    {l : L (.sl e u)} (hh : holds w (.sl e u) l) (hp : plain w (.sl e u) l) {ls : List (L u)} {x : Value} (hs : Src P u.sz tx x ls.length (ls.flatMap (z7_ u)) w) (hls : ∀ y ∈ ls, holds w u y ∧ plain w u y)
    (hfree : ∀ g, l.1 = some g → g ∉ l.2.2.flatMap (z1_ u) ∧ g ∉ ls.flatMap (z1_ u)) (hby : (l.2.2.length + ls.length) * i.bytes ≤ LIM) (hb0 : 0 < i.bytes) :
    ∃ (w' : World) (l' : L (.sl e u)), (Builtin.append_ #[t, tx] ty #[.slice (l.1.map fun g => ⟨g, 0, none⟩) l.2.2.length l.2.1, x]).run P w = .ok (.slice (l'.1.map fun g => ⟨g, 0, none⟩) l'.2.2.length l'.2.1) w' ∧
      l'.2.2 = l.2.2 ++ ls ∧ holds w' (.sl e u) l' ∧ plain w' (.sl e u) l' ∧ (l'.1 = l.1 ∨ l'.1 = some w.heap.size) ∧ Kept (fun k => l.1 = some k) w w' := by
  obtain ⟨h1, h2⟩ := hh
  obtain ⟨p1, p2⟩ := hp
  have hLIM : LIM = 140737488355328 := rfl
  rw [hLIM] at hby
  have hn63 : l.2.2.length + ls.length ≤ 140737488355328 := Nat.le_trans (Nat.le_mul_of_pos_right _ hb0) hby
  rw [← hsz] at hs
  have grow : ∀ (base : Option Addr) (cap : Nat) (hold : (Builtin.firstCells i.size l.2.2.length (.slice base l.2.2.length cap)).run P w.drew = .ok (l.2.2.flatMap (z7_ u)).toArray w.drew), cap < l.2.2.length + ls.length →
      ∃ (w' : World) (l' : L (.sl e u)), (Builtin.append_ #[t, tx] ty #[.slice base l.2.2.length cap, x]).run P w = .ok (.slice (l'.1.map fun g => ⟨g, 0, none⟩) l'.2.2.length l'.2.1) w' ∧
      l'.2.2 = l.2.2 ++ ls ∧ holds w' (.sl e u) l' ∧ plain w' (.sl e u) l' ∧ (l'.1 = l.1 ∨ l'.1 = some w.heap.size) ∧ Kept (fun k => l.1 = some k) w w' := by
    intro base cap hold hcap
    have hr := run_append_grow_src (P := P) w t tx ty e i z ht hi hz base l.2.2.length cap _ hold x ls.length _ hs hcap (by omega) (growslice_fits (by omega) hby)
    have hge := grownCap_ge w (l.2.2.length + ls.length) cap e
    have hcm : grownCap w (l.2.2.length + ls.length) cap e ≤ maxLen := grownCap_le_maxLen w (l.2.2.length + ls.length) cap e (by simp only [maxLen]; omega)
    have hold_heap : ∀ k, k < w.heap.size → ∀ o, (w.drew.alloc o).heap[k]? = w.heap[k]? := fun k hk o => Below.heap_alloc w.drew o k (by simpa using hk)
    have hflat : (l.2.2.flatMap (z7_ u) ++ ls.flatMap (z7_ u)).length = (l.2.2.length + ls.length) * u.sz := by rw [List.length_append, z12_, z12_, Nat.add_mul]
    refine ⟨w.drew.alloc (.cells ((l.2.2.flatMap (z7_ u) ++ ls.flatMap (z7_ u)).toArray ++ Builtin.zeroCells z.cells (grownCap w (l.2.2.length + ls.length) cap e - (l.2.2.length + ls.length))) e), (some w.heap.size, grownCap w (l.2.2.length + ls.length) cap e, l.2.2 ++ ls), ?_, rfl, ⟨⟨_, (0, 0), z8c_ w.drew _, by simpa using hge, hcm, ?_, ?_, .inl rfl⟩, fun y hy => ?_⟩, ⟨fun b hb => ?_, fun y hy => ?_⟩, .inr rfl, ⟨rfl, rfl, rfl, by simp, fun k hk _ => hold_heap k hk _⟩⟩
    · rw [hr]; simp
    · simp only [Array.size_append, List.size_toArray, size_zeroCells, hzs, hflat]
      rw [← Nat.add_mul]
      exact Nat.mul_le_mul_right _ (by omega)
    · simp only [Array.toList_append, List.length_append]
      rw [List.flatMap_append, List.take_left' hflat]
    · rcases List.mem_append.1 hy with hy | hy
      · exact z14_ (fun k hk => hold_heap k (z10_ (h2 y hy) k hk) _) (h2 y hy)
      · exact z14_ (fun k hk => hold_heap k (z10_ (hls y hy).1 k hk) _) (hls y hy).1
    · cases hb
      refine ⟨_, e, z8c_ w.drew _, ?_⟩
      simp only [Array.size_append, List.size_toArray, size_zeroCells, hzs, hflat]
      rw [← Nat.add_mul]
      congr 1
      omega
    · rcases List.mem_append.1 hy with hy | hy
      · exact z15_ (fun k hk => hold_heap k (z10_ (h2 y hy) k hk) _) (p2 y hy)
      · exact z15_ (fun k hk => hold_heap k (z10_ (hls y hy).1 k hk) _) (hls y hy).2
  cases hx : l.1 with
  | none =>
    rw [hx] at h1
    obtain ⟨h3, h4⟩ := h1
    rcases Nat.eq_zero_or_pos ls.length with hn | hn
    · have hl0 : ls = [] := List.eq_nil_of_length_eq_zero hn
      subst hl0
      have hr := run_append_nothing (P := P) w t tx ty e i ht hi none l.2.2.length l.2.1 (by rw [h3, h4]; exact Nat.le_refl _) x hs
      refine ⟨w, l, by rw [hx]; exact hr, by simp, ⟨by rw [hx]; exact ⟨h3, h4⟩, h2⟩, ⟨p1, p2⟩, .inl hx, Kept.refl _ _⟩
    · have := grow none l.2.1 (by rw [h3]; exact run_firstCells_none w.drew _ _ _ _) (by rw [h3, h4]; simpa using hn)
      rw [hx] at this
      exact this
  | some g =>
    rw [hx] at h1
    obtain ⟨cur, fz, hc, hl, hm, hcs, htk, hfz⟩ := h1
    obtain ⟨cur', e', k1, k2⟩ := p1 g hx
    rw [hc] at k1
    cases k1
    obtain ⟨f1, f2⟩ := hfree g hx
    by_cases hroom : l.2.2.length + ls.length ≤ l.2.1
    · have hfit : l.2.2.length * u.sz + (ls.flatMap (z7_ u)).length ≤ cur.size := by
        rw [z12_, k2, ← Nat.add_mul]
        exact Nat.mul_le_mul_right _ hroom
      have hr := run_append_room_src (P := P) w t tx ty e i ht hi g 0 l.2.2.length l.2.1 x ls.length _ hs hroom (fun j hj => by
        have : l.2.2.length * i.size + j < cur.size := by rw [hsz]; omega
        simp [World.cell?, hc, this]) (fun j hj => by simp [World.frozen?, hc])
      obtain ⟨c1, c2, c3⟩ := zma_ (o := 0 + l.2.2.length * i.size) hc (by rw [hsz]; omega) hs.one
      rw [hsz, Nat.zero_add] at c1
      have away : ∀ y ∈ l.2.2 ++ ls, ∀ k ∈ z1_ u y, k ≠ g := fun y hy k hk e => by
        subst e
        rcases List.mem_append.1 hy with hy | hy
        · exact f1 (List.mem_flatMap.2 ⟨y, hy, hk⟩)
        · exact f2 (List.mem_flatMap.2 ⟨y, hy, hk⟩)
      have hflat : (l.2.2.flatMap (z7_ u) ++ ls.flatMap (z7_ u)).length = (l.2.2.length + ls.length) * u.sz := by rw [List.length_append, z12_, z12_, Nat.add_mul]
      refine ⟨_, (some g, l.2.1, l.2.2 ++ ls), ?_, rfl, ⟨⟨_, (0, 0), by rw [hsz, Nat.zero_add]; exact c1, by simpa using hroom, hm, ?_, ?_, .inl rfl⟩, fun y hy => ?_⟩, ⟨fun b hb => ?_, fun y hy => ?_⟩, .inl rfl, ⟨c3.os, c3.tape, c3.output, c3.size, fun k hk1 hk2 => c3.block k hk1 (fun e => hk2 (by rw [e]))⟩⟩
      · simp only [Option.map_some]
        rw [hr]
        simp
      · simp only [List.size_toArray, List.length_append, List.length_take, List.length_drop, Array.length_toList]
        omega
      · simp only [List.length_append]
        rw [htk, List.flatMap_append, List.take_left' hflat]
      · have hy2 : holds w u y := (List.mem_append.1 hy).elim (h2 y) (fun h => (hls y h).1)
        exact z14_ (fun k hk => c2 k (away y hy k hk)) hy2
      · cases hb
        refine ⟨_, e, by rw [hsz, Nat.zero_add]; exact c1, ?_⟩
        simp only [List.size_toArray, List.length_append, List.length_take, List.length_drop, Array.length_toList]
        rw [← k2]
        omega
      · have hy2 : plain w u y := (List.mem_append.1 hy).elim (p2 y) (fun h => (hls y h).2)
        exact z15_ (fun k hk => c2 k (away y hy k hk)) hy2
    · have hcells : ∀ j v, (l.2.2.flatMap (z7_ u))[j]? = some v → w.drew.cell? ((⟨g, 0, none⟩ : Addr).add j) = some v := by
        intro j v hv
        have hj : j < l.2.2.length * u.sz := by have := (List.getElem?_eq_some_iff.1 hv).1; rwa [z12_] at this
        rw [z21_, Nat.zero_add, cell_of_row w.drew g j cur e (0, 0) hc]
        rw [← htk, List.getElem?_take_of_lt hj] at hv
        rw [← Array.getElem?_toList]; exact hv
      have := grow (some ⟨g, 0, none⟩) l.2.1 (run_firstCells_some w.drew i.size l.2.2.length ⟨g, 0, none⟩ l.2.2.length l.2.1 _ (by rw [z12_, hsz]) hcells) (by omega)
      rw [hx] at this
      exact this

theorem Rep.freeWorld (R : Rep E w0 ok O σ tm w M) {bs : List Nat} (hf : Free w0 ok O σ M bs) (hk : Kept (fun k => k ∈ bs) w w') : Rep E w0 ok O σ tm w' M where
  slots := R.slots
  rows := fun i r hr => by
    obtain ⟨l, h1, h2, h3, h4, h5⟩ := R.rows i r hr
    have hmv : ∀ k ∈ z1_ (.sl r.e r.t) l, w'.heap[k]? = w.heap[k]? := fun k hk2 => hk.block k (z10_ h3 k hk2) (fun e => hf.rows i ⟨r, hr⟩ k e (by rw [h1]; exact hk2))
    exact ⟨l, h1, h2, z14_ hmv h3, h4, fun hz => z15_ hmv (h5 hz)⟩
  boxes := fun i b hb => by
    obtain ⟨cs, h1, h2, h3⟩ := R.boxes i b hb
    exact ⟨cs, h1, (hk.block _ (Array.getElem?_eq_some_iff.1 h2).1 (hf.bx i ⟨b, hb⟩)).trans h2, h3⟩
  rr := R.rr
  bb := R.bb
  rb := R.rb
  ownR := R.ownR
  ownB := R.ownB
  okB := R.okB
  liveS := R.liveS
  liveB := R.liveB
  kept := R.kept.trans hk fun k hk0 hk1 => by
    rcases (hf.own k hk1).2 with h | h
    · exact h
    · omega
  pin := R.pin
  pinB := R.pinB

structure Srcd (P : Program) (E : Env) (w0 : World) (ok O : Nat → Prop) (σ σ' : St) (tm : Array Value) (w : World) (M : Map) (tx : TypeId) (u : Ty) (v : Value) (ls : List (L u)) : Prop where
  ea : Eaten E w0 ok O σ σ' tm w M (ls.flatMap (z1_ u))
  src : Src P u.sz tx v ls.length (ls.flatMap (z7_ u)) w
  ho : ∀ y ∈ ls, holds w u y ∧ plain w u y

theorem zi0_ {t : Ty} (l : List (L t)) : ∀ v ∈ l.flatMap (z7_ t), v.oneCell' = true := by
  have key : ∀ (t : Ty) (y : L t), ∀ v ∈ z7_ t y, v.oneCell' = true := by
    intro t
    induction t with
    | int k => intro y v hv; simp [z7_] at hv; subst hv; rfl
    | bool => intro y v hv; simp [z7_] at hv; subst hv; rfl
    | str => intro y v hv; simp [z7_] at hv; subst hv; rfl
    | sl e t _ => intro y v hv; simp [z7_] at hv; subst hv; rfl
    | st t ih => intro y v hv; exact ih y v hv
    | pr a b iha ihb =>
      intro y v hv
      simp only [z7_, List.mem_append] at hv
      exact hv.elim (iha y.1 v) (ihb y.2 v)
    | ptr t _ => intro y; exact y.elim
    | un => intro y v hv; simp [z7_] at hv
    | fn g c _ => intro y; exact y.elim
  intro v hv
  obtain ⟨y, _, hy⟩ := List.mem_flatMap.1 hv
  exact key t y v hy

theorem zmb_ {t : Ty} (hf : t.flat = true) {w : World} {okk : Nat → Prop} {ad : Addr} : ∀ (xs : List t.T) (k : Nat), (∀ i x, xs[i]? = some x → ∃ ds, Rd w okk t x ds ∧ z1x_ w (ad.add ((k + i) * t.sz)) ds) →
    ∃ ls : List (L t), ls.map (erase t) = xs ∧ ls.flatMap (z1_ t) = [] ∧ (∀ y ∈ ls, ∀ w, holds w t y ∧ plain w t y) ∧ ∀ j v, (ls.flatMap (z7_ t))[j]? = some v → w.cell? (ad.add (k * t.sz + j)) = some v
  | [], k, h => ⟨[], rfl, rfl, by simp, by simp⟩
  | x :: xs, k, h => by
    obtain ⟨ds, h1, h2⟩ := h 0 x rfl
    obtain ⟨l, e1, e2, e3, e4⟩ := z8d_ hf h1
    obtain ⟨ls, g1, g2, g3, g4⟩ := zmb_ hf xs (k + 1) (fun i y hy => by
      have := h (i + 1) y hy
      rwa [show k + (i + 1) = k + 1 + i by omega] at this)
    refine ⟨l :: ls, by simp [e1, g1], by simp [e3, g2], fun y hy => ?_, fun j v hv => ?_⟩
    · rcases List.mem_cons.1 hy with rfl | hy
      · exact e4
      · exact g3 y hy
    · rw [List.flatMap_cons] at hv
      by_cases hj : j < t.sz
      · rw [List.getElem?_append_left (by rw [z19_]; exact hj), e2] at hv
        have := h2 j v hv
        rw [zaq_] at this
        exact this
      · rw [List.getElem?_append_right (by rw [z19_]; omega), z19_] at hv
        have := g4 _ v hv
        rw [show (k + 1) * t.sz + (j - t.sz) = k * t.sz + j by rw [Nat.add_mul]; omega] at this
        exact this

theorem zi1_ (T : zj_ P E.ti = true) {t : TypeId} (h : E.isSl t = true) : ∃ e, P.underlying t = some (.slice e) := by
  unfold Env.isSl at h
  split at h
  · rename_i ht; exact ⟨_, (z3q_ T ht).1⟩
  · cases h
theorem zrh_ (T : zj_ P E.ti = true) {t : TypeId} (h : E.isStr t = true) : P.underlying t = some .string := by
  unfold Env.isStr at h
  split at h
  · rename_i ht; exact (z6k_ T ht).1
  · cases h

theorem zri_ (y : List UInt8) : y.map (fun b => Value.int .u8 b.toNat) = ((y.map fun b => (b.toNat : Int)) : List (L (.int .u8))).flatMap (z7_ (.int .u8)) := by
  induction y with
  | nil => rfl
  | cons b y ih => rw [List.map_cons, List.map_cons, List.flatMap_cons, ← ih]; rfl
theorem zi2_ {R0 : Type} {res : R0} (R : Rep E w0 ok O σ tm w M) (hat : a.tmps = tm) (T : zj_ P E.ti = true) {tx e : TypeId} {u : Ty} {b : Operand} {c : St → List u.T → Option R0} (h : srcC E σ tx e u b c = some res) :
    ∃ σ' ls, c σ' (ls.map (erase u)) = some res ∧ Srcd P E w0 ok O σ σ' tm w M tx u (a.eval b) ls := by
  unfold srcC at h
  split at h
  · rename_i s hs
    cases hf : u.flat <;> rw [hf] at h
    · simp only [cond_false] at h
      obtain ⟨h1, h2⟩ := zs_ R hat hs
      rcases z27_ h1 with rfl | ⟨c, vs, rfl, _, _⟩ | ⟨cs, h4, h5⟩
      · cases h
      · cases h
      · obtain ⟨σ1, v, l, g1, g2, g3, g4, g5, g6⟩ := z4g_ depth w0 ok O σ tm w M s cs _ R h4 h
        cases hk : E.isSl tx <;> rw [hk] at g1
        · cases g1
        · simp only [cond_true] at g1
          unfold zm_ at g1
          split at g1
          · rename_i he
            subst he
            obtain ⟨e', hu⟩ := zi1_ T hk
            have hst : s.isSt = false := g5
            have hv : a.eval b = .slice (l.1.map fun g => ⟨g, 0, none⟩) l.2.2.length l.2.1 := by
              rcases h5 with ⟨h6, _⟩ | ⟨_, h6⟩
              · rw [hst] at h6; cases h6
              · rw [← g4] at h6
                simp only [z7_, List.cons.injEq, and_true] at h6; exact h6.symm
            have hsubl : (l.2.2.flatMap (z1_ u)).Sublist (z1_ (.sl e u) l) := by simp only [z1_]; exact List.sublist_append_right _ _
            refine ⟨σ1, l.2.2, g1, ⟨g6.rep, g6.free.sublist hsubl, fun k hk => g6.src k (hsubl.subset hk), g6.sub⟩, ?_, fun y hy => ⟨g2.2 y hy, g3.2 y hy⟩⟩
            rw [hv]
            have h8 := g2.1
            cases hx : l.1 with
            | none =>
              rw [hx] at h8
              rw [h8.1]
              exact Src.ofNil w hu _
            | some g =>
              rw [hx] at h8
              obtain ⟨cur, fz, hc, hl, hm, hcs, htk, hfz⟩ := h8
              refine Src.ofSlice w hu ⟨g, 0, none⟩ l.2.2.length l.2.1 _ (z12_ u _) (fun j v hv => ?_) (zi0_ _)
              have hj : j < l.2.2.length * u.sz := by have := (List.getElem?_eq_some_iff.1 hv).1; rwa [z12_] at this
              rw [z21_, Nat.zero_add, cell_of_row w g j cur e fz hc]
              rw [← htk, List.getElem?_take_of_lt hj] at hv
              rw [← Array.getElem?_toList]; exact hv
          · cases g1
    · simp only [cond_true] at h
      rw [zp_] at h
      obtain ⟨⟨v, yv⟩, hv, h⟩ := Option.bind_eq_some_iff.1 h
      obtain ⟨cs, h2, h3⟩ := res2 R hat hs hv
      simp only [] at h
      have eaten0 : Eaten E w0 ok O σ σ tm w M ([] : List Nat) := ⟨R, Free.nil, From.nil, Sub.refl σ⟩
      split at h
      · rename_i y
        cases hk : E.isStr tx <;> rw [hk] at h
        · cases h
        · simp only [cond_true] at h
          have hu := zrh_ T hk
          have he := z8b_ h2 h3
          unfold zm_ at h
          split at h
          · rename_i hty
            have hu8 : u = .int .u8 := by injection hty with _ h; exact h.symm
            subst hu8
            refine ⟨σ, y.map fun b => (b.toNat : Int), ?_, ?_, ?_, fun z hz => ⟨trivial, trivial⟩⟩
            · have : (y.map fun b => (b.toNat : Int)).map (erase (.int .u8)) = y.map fun b => (b.toNat : Int) := by
                rw [List.map_map]; rfl
              rw [this]; exact h
            · have : ((y.map fun b => (b.toNat : Int)) : List (L (.int .u8))).flatMap (z1_ (.int .u8)) = [] := by
                rw [List.flatMap_eq_nil_iff]; intro z _; rfl
              rw [this]; exact eaten0
            · rw [he]
              have hsrc := Src.ofString (P := P) w hu ⟨y.toArray⟩
              have e1 : (⟨y.toArray⟩ : ByteArray).size = y.length := rfl
              have e2 : byteCells ⟨y.toArray⟩ = ((y.map fun b => (b.toNat : Int)) : List (L (.int .u8))).flatMap (z7_ (.int .u8)) := by
                exact zri_ y
              rw [e1, e2] at hsrc
              rw [List.length_map]
              exact hsrc
          · cases h
      · rename_i e' wty y
        cases hk : E.isSl tx <;> rw [hk] at h
        · cases h
        · simp only [cond_true] at h
          obtain ⟨e2, hu⟩ := zi1_ T hk
          unfold zm_ at h
          split at h
          · rename_i hty
            have hu8 : wty = u := by injection hty
            subst hu8
            obtain ⟨A, cc, hA, hle, hx⟩ := h2
            have hc := z8a_ h3 rfl
            rw [hA] at hc
            simp only [List.cons.injEq, and_true] at hc
            by_cases hne : y = []
            · subst hne
              refine ⟨σ, [], h, eaten0, ?_, by simp⟩
              rw [← hc]
              cases A with
              | none => exact Src.ofNil w hu _
              | some ad => exact Src.ofSlice w hu ad 0 cc [] (by simp) (by simp) (by simp)
            · obtain ⟨ad, rfl, _, hcell⟩ := hx hne
              obtain ⟨ls, g1, g2, g3, g4⟩ := zmb_ (w := w) hf y 0 (fun i x hi => by rw [Nat.zero_add]; exact hcell i x hi)
              refine ⟨σ, ls, by rw [g1]; exact h, by rw [g2]; exact eaten0, ?_, fun z hz => g3 z hz w⟩
              have hlen : ls.length = List.length y := by rw [← g1, List.length_map]
              rw [← hc, ← hlen]
              exact Src.ofSlice w hu ad ls.length cc _ (z12_ _ _) (fun j v hv => by have := g4 j v hv; simpa using this) (zi0_ _)
          · cases h
      · cases h
  · cases h

end
end Go.Proofs.YtibiofjkgdidmaaGreatDoor.Ev

namespace Go.Proofs.YtibiofjkgdidmaaGreatDoor.Ev
open Go.RowKit

section
variable {P : Program} {E : Env} {w0 : World} {ok O : Nat → Prop} {σ σ' : St} {tm : Array Value} {w w' : World} {M : Map} {a : Act}

theorem zbg_ : ∀ {t : Ty} (y : L t), t.flat = true → z1_ t y = []
  | .int _, _, _ => rfl
  | .bool, _, _ => rfl
  | .str, _, _ => rfl
  | .st t, y, h => zbg_ (t := t) y h
  | .pr a b, y, h => by
    simp only [Ty.flat, Bool.and_eq_true] at h
    simp only [z1_, zbg_ (t := a) y.1 h.1, zbg_ (t := b) y.2 h.2, List.append_nil]
  | .sl _ _, _, h => by cases h
  | .ptr _, _, h => by cases h
  | .un, _, h => by cases h
  | .fn _ _, _, h => by cases h
theorem z4y_ : ∀ {t : Ty} (y : L t), t.flat = true → ∀ w, holds w t y ∧ plain w t y
  | .int _, _, _, _ => ⟨trivial, trivial⟩
  | .bool, _, _, _ => ⟨trivial, trivial⟩
  | .str, _, _, _ => ⟨trivial, trivial⟩
  | .st t, y, h, w => z4y_ (t := t) y h w
  | .pr a b, y, h, w => by
    simp only [Ty.flat, Bool.and_eq_true] at h
    obtain ⟨h1, h2⟩ := z4y_ (t := a) y.1 h.1 w
    obtain ⟨h3, h4⟩ := z4y_ (t := b) y.2 h.2 w
    exact ⟨⟨h1, h3⟩, ⟨h2, h4⟩⟩
  | .sl _ _, _, h, _ => by cases h
  | .ptr _, _, h, _ => by cases h
  | .un, _, h, _ => by cases h
  | .fn _ _, _, h, _ => by cases h
theorem zmc_ {α : Type} {xs : List α} {lo : Nat} {ys : List α} (h : lo + ys.length ≤ xs.length) : (z16_ xs lo ys).length = xs.length := by
  unfold z16_; simp only [List.length_append, List.length_take, List.length_drop]; omega
theorem zrj_ {α β : Type} (f : α → β) (xs : List α) (lo : Nat) (ys : List α) : (z16_ xs lo ys).map f = z16_ (xs.map f) lo (ys.map f) := by
  unfold z16_; simp [List.map_take, List.map_drop]

theorem zmd_ (R : Rep E w0 ok O σ tm w M) {j g lo : Nat} {r : Row} (hr : lk σ.rows j = some r) {l : L (.sl r.e r.t)} (hl : M.loc j = ⟨.sl r.e r.t, l⟩) (hg : l.1 = some g) (hf : r.t.flat = true) {ys : List (L r.t)} (hle : lo + ys.length ≤ l.2.2.length) :
    ∃ cur fz, w.heap[g]? = some (.cells cur r.e fz) ∧ lo * r.t.sz + ys.length * r.t.sz ≤ cur.size ∧ (fz = (0, 0) ∨ lo * r.t.sz + ys.length * r.t.sz ≤ fz.1) ∧
      ∀ w' : World, w'.heap[g]? = some (.cells (cur.toList.take (lo * r.t.sz) ++ ys.flatMap (z7_ r.t) ++ cur.toList.drop (lo * r.t.sz + ys.length * r.t.sz)).toArray r.e fz) → (∀ k, k ≠ g → w'.heap[k]? = w.heap[k]?) → Kept (fun k => k = g) w w' →
        Rep E w0 ok O (σ.setRow j ⟨r.e, r.t, z16_ (l.2.2.map (erase r.t)) lo (ys.map (erase r.t)), r.z⟩) tm w' (updM M j ⟨.sl r.e r.t, (l.1, l.2.1, z16_ l.2.2 lo ys)⟩) := by
  obtain ⟨l2, hl2, he, hh, hnd, hpl⟩ := R.rows j r hr
  rw [hl] at hl2
  cases hl2
  obtain ⟨h1, h2⟩ := hh
  have h1' := h1
  rw [hg] at h1'
  obtain ⟨cur, fz, hcur, hlen, hm, hsz, htk, hfz⟩ := h1'
  have hcl : l.2.2.length * r.t.sz ≤ cur.size := Nat.le_trans (Nat.mul_le_mul_right _ hlen) hsz
  have hin : lo * r.t.sz + ys.length * r.t.sz ≤ l.2.2.length * r.t.sz := by rw [← Nat.add_mul]; exact Nat.mul_le_mul_right _ hle
  have hol := zmc_ (xs := l.2.2) (lo := lo) (ys := ys) hle
  refine ⟨cur, fz, hcur, by omega, hfz.imp id (fun h => by omega), fun w' hw' hk hkept => ?_⟩
  have hbl : ∀ x : List (L r.t), x.flatMap (z1_ r.t) = [] := fun x => by
    rw [List.flatMap_eq_nil_iff]; exact fun y _ => zbg_ y hf
  have key : Rep E w0 ok O (σ.setRow j ⟨r.e, r.t, erase (.sl r.e r.t) (l.1, l.2.1, z16_ l.2.2 lo ys), r.z⟩) tm w' (updM M j ⟨.sl r.e r.t, (l.1, l.2.1, z16_ l.2.2 lo ys)⟩) := by
    have hne : ∀ p, z2j_ (.sl r.e r.t) l (l.1, l.2.1, z16_ l.2.2 lo ys) p := by
      intro p e1 t1 l1 h
      match p with
      | [] => cases h; exact ⟨_, rfl, rfl, rfl, hol⟩
      | .f _ :: _ => cases h
      | .u :: _ => cases h
      | .ix n :: q =>
        obtain ⟨z, hz, h⟩ := Option.bind_eq_some_iff.1 h
        have := z6p_ r.t z q _ hf h
        cases this
    refine R.upd (bs := []) hr hl ⟨hkept.os, hkept.tape, hkept.output, hkept.size, fun k hk1 hk2 => hkept.block k hk1 (fun e => hk2 (by simp [z1_, hg, e]))⟩ ⟨?_, fun y _ => (z4y_ y hf w').1⟩ ?_ (fun hz => ⟨?_, fun y _ => (z4y_ y hf w').2⟩) (by simp [z7_, hol]) (fun k hk => ?_) Free.nil (fun _ _ _ p _ => hne p) (fun _ _ _ p _ => hne p)
    · show (match l.1 with | none => _ | some b => _)
      rw [hg]
      refine ⟨_, fz, hw', by show (z16_ l.2.2 lo ys).length ≤ _; rw [hol]; exact hlen, hm, ?_, ?_, by show fz = (0, 0) ∨ (z16_ l.2.2 lo ys).length * _ ≤ _; rw [hol]; exact hfz⟩
      · have hfl : (ys.flatMap (z7_ r.t)).length = ys.length * r.t.sz := z12_ _ _
        simp only [List.size_toArray, List.length_append, List.length_take, List.length_drop, Array.length_toList, hfl]
        omega
      · show List.take ((z16_ l.2.2 lo ys).length * r.t.sz) _ = (z16_ l.2.2 lo ys).flatMap (z7_ r.t)
        rw [hol]
        have hX : ((l.2.2.take lo).flatMap (z7_ r.t)).length = lo * r.t.sz := by rw [z12_, List.length_take, Nat.min_eq_left (by omega)]
        have hY : (ys.flatMap (z7_ r.t)).length = ys.length * r.t.sz := z12_ _ _
        have hZ : ((l.2.2.drop (lo + ys.length)).flatMap (z7_ r.t)).length = (l.2.2.length - (lo + ys.length)) * r.t.sz := by rw [z12_, List.length_drop]
        have hxx : l.2.2.flatMap (z7_ r.t) = (l.2.2.take lo).flatMap (z7_ r.t) ++ ((l.2.2.drop lo).take ys.length).flatMap (z7_ r.t) ++ (l.2.2.drop (lo + ys.length)).flatMap (z7_ r.t) := by
          rw [← List.flatMap_append, ← List.flatMap_append]
          congr 1
          rw [List.append_assoc, ← List.drop_drop, List.take_append_drop, List.take_append_drop]
        have hmid : (((l.2.2.drop lo).take ys.length).flatMap (z7_ r.t)).length = ys.length * r.t.sz := by rw [z12_, List.length_take, List.length_drop, Nat.min_eq_left (by omega)]
        have hcurl : cur.toList = (l.2.2.take lo).flatMap (z7_ r.t) ++ ((l.2.2.drop lo).take ys.length).flatMap (z7_ r.t) ++ (l.2.2.drop (lo + ys.length)).flatMap (z7_ r.t) ++ cur.toList.drop (l.2.2.length * r.t.sz) := by
          rw [← hxx, ← htk, List.take_append_drop]
        have e1 : cur.toList.take (lo * r.t.sz) = (l.2.2.take lo).flatMap (z7_ r.t) := by
          rw [hcurl]
          simp only [List.append_assoc]
          rw [List.take_left' hX]
        have e2 : cur.toList.drop (lo * r.t.sz + ys.length * r.t.sz) = (l.2.2.drop (lo + ys.length)).flatMap (z7_ r.t) ++ cur.toList.drop (l.2.2.length * r.t.sz) := by
          conv => lhs; rw [hcurl]
          simp only [List.append_assoc]
          rw [← List.append_assoc, List.drop_left' (by rw [List.length_append, hX, hmid])]
        rw [e1, e2]
        unfold z16_
        rw [List.flatMap_append, List.flatMap_append, ← List.append_assoc, List.take_left']
        rw [List.length_append, List.length_append, hX, hY, hZ]
        have : (l.2.2.length - (lo + ys.length)) * r.t.sz + (lo * r.t.sz + ys.length * r.t.sz) = l.2.2.length * r.t.sz := by rw [← Nat.add_mul, ← Nat.add_mul, Nat.sub_add_cancel hle]
        omega
    · simp only [z1_, hbl, List.append_nil]
      rw [hg]; simp
    · intro b hb
      have hb : l.1 = some b := hb
      rw [hg] at hb
      cases hb
      obtain ⟨cur', e', k1, k2⟩ := (hpl hz).1 g hg
      rw [hcur] at k1
      cases k1
      refine ⟨_, r.e, hw', ?_⟩
      have hfl : (ys.flatMap (z7_ r.t)).length = ys.length * r.t.sz := z12_ _ _
      simp only [List.size_toArray, List.length_append, List.length_take, List.length_drop, Array.length_toList, hfl]
      rw [← k2]
      omega
    · left
      simp only [z1_, hbl, List.append_nil] at hk ⊢
      exact hk
  have hxs : erase (.sl r.e r.t) (l.1, l.2.1, z16_ l.2.2 lo ys) = z16_ (l.2.2.map (erase r.t)) lo (ys.map (erase r.t)) := by simp only [erase, zrj_]
  rw [hxs] at key
  exact key

theorem zrk_ {R0 : Type} {res : R0} (R : Rep E w0 ok O σ tm w M) {t tx ty e : TypeId} {u : Ty} {i : TypeInfo} (ht : P.underlying t = some (.slice e)) (hi : P.info? e = some i) (hsz : i.size = u.sz) {j n : Nat} {v x : Value} {cs : List Value}
    (hs : RepV w0 ok M (.vw j 0 n) cs) (hcs : cs = [v]) {ls : List (L u)} (hsrc : Src P u.sz tx x ls.length (ls.flatMap (z7_ u)) w) {dst : Option Tmp} (hin : inB dst tm) {k : St → Option R0} (h : zh3_ σ dst e u j n (ls.map (erase u)) k = some res) :
    ∃ v' w' σ' M', (Builtin.append_ #[t, tx] ty #[v, x]).run P w = .ok v' w' ∧ k σ' = some res ∧ Rep E w0 ok O σ' (putT tm dst v') w' M' := by
  rw [← hsz] at hsrc
  unfold zh3_ at h
  split at h
  · rename_i r hr
    cases hb : (r.t.flat && !r.z) <;> rw [hb] at h
    · cases h
    · simp only [cond_true] at h
      simp only [Bool.and_eq_true, Bool.not_eq_true'] at hb
      obtain ⟨re, rt, rxs, rz⟩ := r
      simp only at hb h
      unfold zm_ at h
      split at h
      · rename_i heq
        injection heq with he ht2
        subst he
        subst ht2
        dsimp only at h
        split at h
        · rename_i hle
          obtain ⟨e1, t1, l1, hl1, hln, A, c, hce, hc, hA⟩ := hs
          rw [hcs] at hce
          cases hce
          obtain ⟨l, hl, hex, hh, hnd, hpl⟩ := R.rows j _ hr
          rw [hl] at hl1
          cases hl1
          have hA2 : A = l.1.map fun g => ⟨g, 0, none⟩ := by have := hA (.inr rfl); simpa using this
          clear hA
          have hlen : rxs.length = l.2.2.length := by
            have : erase (.sl e u) l = rxs := hex
            rw [← this]; simp [erase]
          have hle : n + ls.length ≤ l.2.2.length := by
            have : n + (ls.map (erase u)).length ≤ rxs.length := hle
            rw [List.length_map, hlen] at this; exact this
          have hc' : c = l.2.1 := by omega
          subst hc'
          cases hg : l.1 with
          | none =>
            have h1 := hh.1
            rw [hg] at h1
            have hl0 : l.2.2.length = 0 := by rw [h1.1]; rfl
            have hn0 : n = 0 := by omega
            have hls : ls = [] := List.eq_nil_of_length_eq_zero (by omega)
            subst hn0; subst hls
            have hr2 := run_append_nothing (P := P) w t tx ty e i ht hi none 0 l.2.1 (Nat.zero_le _) x hsrc
            obtain ⟨l2, q1, q2⟩ : ∃ M', Rep E w0 ok O (σ.setRow j ⟨e, u, rxs, rz⟩) tm w M' ∧ M'.loc j = ⟨.sl e u, l⟩ := by
              have := R.upd (bs := []) (l' := l) hr hl (Kept.refl _ _) hh hnd hpl rfl (fun k hk => .inl hk) Free.nil (fun _ _ _ p _ => z2j_.refl _ _ _) (fun _ _ _ p _ => z2j_.refl _ _ _)
              have hex' : erase (.sl e u) l = rxs := hex
              rw [hex'] at this
              exact ⟨_, this, z1g_ _ _ _⟩
            have hov : z16_ rxs 0 (List.map (erase u) ([] : List (L u))) = rxs := by simp [z16_]
            rw [hov] at h
            refine ⟨_, w, _, _, ?_, h, q1.putV (s := .vw j 0 0) ⟨_, ⟨e, u, l, q2, by omega, A, l.2.1, rfl, by omega, fun _ => by rw [hA2]; simp⟩, .inr ⟨rfl, rfl⟩⟩ ⟨fun q hq => ?_, by simp [SV.boxes]⟩ hin⟩
            · rw [hA2, hg]
              simpa using hr2
            · simp [SV.roots] at hq
              subst hq
              exact ⟨⟨e, u, rxs, rz⟩, by show lk (up σ.rows q _) q = _; rw [z5y_, if_pos rfl, hr]; rfl⟩
          | some g =>
            obtain ⟨cur', e', k1, k2⟩ := (hpl hb.2).1 g hg
            obtain ⟨cur, fz, o1, o2, o3, o4⟩ := zmd_ R hr hl hg hb.1 (lo := n) (ys := ls) hle
            rw [k1] at o1
            cases o1
            have hcap : l.2.2.length ≤ l.2.1 := by
              have h1 := hh.1
              rw [hg] at h1
              obtain ⟨_, _, _, h2, _⟩ := h1
              exact h2
            have hfl : (ls.flatMap (z7_ u)).length = ls.length * u.sz := z12_ _ _
            have o2 : n * u.sz + ls.length * u.sz ≤ cur'.size := o2
            have hr2 := run_append_room_src (P := P) w t tx ty e i ht hi g 0 n l.2.1 x ls.length _ hsrc (by omega) (fun q hq => by
              have : n * i.size + q < cur'.size := by rw [hsz]; omega
              simp [World.cell?, k1, this]) (fun q hq => by simp [World.frozen?, k1])
            obtain ⟨c1, c2, c3⟩ := zma_ (o := 0 + n * i.size) k1 (by rw [hsz]; omega) hsrc.one
            rw [hsz, Nat.zero_add, hfl] at c1
            have R2 := o4 _ (by rw [hsz, Nat.zero_add]; exact c1) c2 c3
            have hex' : l.2.2.map (erase u) = rxs := hex
            have R3 : Rep E w0 ok O (σ.setRow j ⟨e, u, z16_ rxs n (ls.map (erase u)), rz⟩) tm (w.setCells g (0 + n * i.size) (ls.flatMap (z7_ u))) (updM M j ⟨.sl e u, (l.1, l.2.1, z16_ l.2.2 n ls)⟩) := by rw [← hex']; exact R2
            refine ⟨_, _, _, _, ?_, h, R3.putV (s := .vw j 0 (n + (ls.map (erase u)).length)) ⟨_, ⟨e, u, _, z1g_ _ _ _, ?_, some ⟨g, 0, none⟩, l.2.1, rfl, rfl, fun _ => ?_⟩, .inr ⟨rfl, rfl⟩⟩ ⟨fun q hq => ?_, by simp [SV.boxes]⟩ hin⟩
            · rw [hA2, hg, List.length_map]
              exact hr2
            · show 0 + (n + (ls.map (erase u)).length) ≤ (z16_ l.2.2 n ls).length
              rw [zmc_ hle, List.length_map]; omega
            · show some _ = l.1.map _
              rw [hg]; simp
            · simp [SV.roots] at hq
              subst hq
              exact ⟨_, by show lk (up σ.rows q _) q = _; rw [z5y_, if_pos rfl, hr]; rfl⟩
        · cases h
      · cases h
  · cases h
end
end Go.Proofs.YtibiofjkgdidmaaGreatDoor.Ev

namespace Go.Proofs.YtibiofjkgdidmaaGreatDoor.Ev
open Go.RowKit

section
variable {P : Program} {E : Env} {w0 : World} {ok O : Nat → Prop} {σ σ' : St} {tm : Array Value} {w w' : World} {M : Map} {a : Act}

theorem Free.perm {bs cs : List Nat} (h : Free w0 ok O σ M bs) (p : bs.Perm cs) : Free w0 ok O σ M cs :=
  ⟨p.nodup_iff.1 h.nd, fun k hk => h.own k (p.mem_iff.2 hk), fun i hi k hk => h.rows i hi k (p.mem_iff.2 hk), fun i hi hk => h.bx i hi (p.mem_iff.2 hk)⟩

theorem zme_ {R0 : Type} {res : R0} (R : Rep E w0 ok O σ tm w M) {t tx ty e : TypeId} {u : Ty} {i : TypeInfo} {z : Value} (ht : P.underlying t = some (.slice e)) (hi : P.info? e = some i) (hz : i.zero = some z) (hsz : i.size = u.sz) (hzs : z.cells.size = u.sz) (hpos : 0 < u.sz) (hb0 : 0 < i.bytes)
    {l : L (.sl e u)} (hh : holds w (.sl e u) l) (hp : plain w (.sl e u) l) {ls : List (L u)} {x : Value} (hs : Src P u.sz tx x ls.length (ls.flatMap (z7_ u)) w) (hls : ∀ y ∈ ls, holds w u y ∧ plain w u y)
    (hf : Free w0 ok O σ M (ls.flatMap (z1_ u) ++ z1_ (.sl e u) l)) {d : Nat} {dst : Option Tmp} (hin : inB dst tm) {k : St → Option R0} (h : zch_ σ d dst e u i.bytes (l.2.2.map (erase u)) (ls.map (erase u)) k = some res) :
    ∃ v w' σ' M', (Builtin.append_ #[t, tx] ty #[.slice (l.1.map fun g => ⟨g, 0, none⟩) l.2.2.length l.2.1, x]).run P w = .ok v w' ∧ k σ' = some res ∧ Rep E w0 ok O σ' (putT tm dst v) w' M' := by
  unfold zch_ at h
  split at h
  · rename_i hby
    simp only [List.length_map] at hby
    cases hpin : Nat.blt (32 * d) PIN <;> rw [hpin] at h
    · cases h
    simp only [cond_true] at h
    have hf2 : Free w0 ok O σ M (z1_ (.sl e u) l ++ ls.flatMap (z1_ u)) := hf.perm List.perm_append_comm
    have hdis : ∀ g, l.1 = some g → g ∉ l.2.2.flatMap (z1_ u) ∧ g ∉ ls.flatMap (z1_ u) := by
      intro g hg
      have hn := hf2.nd
      simp only [z1_, hg, Option.toList_some, List.singleton_append, List.cons_append, List.nodup_cons, List.mem_append, not_or] at hn
      exact ⟨hn.1.1.2, hn.1.2⟩
    obtain ⟨w', l', h1, h2, h3, h4, h5, h6⟩ := zrg_ (P := P) (ty := ty) ht hi hz hsz hzs hpos hh hp hs hls hdis hby hb0
    have hall : ∀ q ∈ l.2.2 ++ ls, ∀ k ∈ z1_ u q, k < w.heap.size := fun q hq k hk => by
      rcases List.mem_append.1 hq with hq | hq
      · exact z10_ (hh.2 q hq) k hk
      · exact z10_ (hls q hq).1 k hk
    have htail : (l.2.2 ++ ls).flatMap (z1_ u) = l.2.2.flatMap (z1_ u) ++ ls.flatMap (z1_ u) := List.flatMap_append
    have hfl : Free w0 ok O σ M (z1_ (.sl e u) l') := by
      have hb : z1_ (.sl e u) l' = l'.1.toList ++ (l.2.2 ++ ls).flatMap (z1_ u) := by simp only [z1_, h2]
      rw [hb]
      rcases h5 with h5 | h5
      · rw [h5, htail, ← List.append_assoc]
        exact hf2
      · rw [h5]
        have ht2 : Free w0 ok O σ M ((l.2.2 ++ ls).flatMap (z1_ u)) := by
          rw [htail]
          refine hf2.sublist ?_
          simp only [z1_, List.append_assoc]
          exact List.sublist_append_right _ _
        simp only [Option.toList_some, List.singleton_append]
        refine ⟨List.nodup_cons.2 ⟨fun hm => ?_, ht2.nd⟩, fun k hk => ?_, fun i hi k hk => ?_, fun i hi hk => ?_⟩
        · obtain ⟨q, hq, hk⟩ := List.mem_flatMap.1 hm
          exact Nat.lt_irrefl _ (hall q hq _ hk)
        · rcases List.mem_cons.1 hk with rfl | hk
          · exact ⟨fun h => Nat.lt_irrefl _ (R.ok_lt h), .inr R.kept.size⟩
          · exact ht2.own k hk
        · rcases List.mem_cons.1 hk with rfl | hk
          · obtain ⟨r, hr⟩ := hi
            obtain ⟨l2, g1, _, g3, _⟩ := R.rows i r hr
            rw [g1]
            exact fun hk => Nat.lt_irrefl _ (z10_ g3 _ hk)
          · exact ht2.rows i hi k hk
        · rcases List.mem_cons.1 hk with hk | hk
          · obtain ⟨b, hb⟩ := hi
            obtain ⟨cs, _, g2, _⟩ := R.boxes i b hb
            have := (Array.getElem?_eq_some_iff.1 g2).1
            omega
          · exact ht2.bx i hi hk
    have R' := R.freeWorld (w' := w') (bs := z1_ (.sl e u) l) (hf2.sublist (List.sublist_append_left _ _)) ⟨h6.os, h6.tape, h6.output, h6.size, fun k hk hn => h6.block k hk (fun e => hn (by simp [z1_, e]))⟩
    have R2 := R'.addOwn (32 * d) (Nat.le_of_ble_eq_true hpin) l' h3 h4 hfl
    have hxs : erase (.sl e u) l' = l.2.2.map (erase u) ++ ls.map (erase u) := by simp only [erase, h2, List.map_append]
    rw [hxs] at R2
    refine ⟨_, w', _, _, h1, h, R2.putV (s := .ref (32 * d) []) ⟨z7_ (.sl e u) l', ⟨e, u, l', (congrArg (fun z : Loc => subL z.1 z.2 []) (z1g_ M.loc (32 * d) ⟨.sl e u, l'⟩)).trans rfl, rfl⟩, .inr ⟨rfl, rfl⟩⟩ ⟨fun j hj => ?_, by simp [SV.boxes]⟩ hin⟩
    simp [SV.roots] at hj
    subst hj
    exact ⟨_, z3c_ _ _ _⟩
  · cases h

theorem zrl_ {s : SV} {t : Option SV} {j n : Nat} (h : zh2_ s t = some (j, n)) : s = .vw j 0 n := by
  unfold zh2_ at h
  split at h
  · rename_i j' n' i' _ _
    cases hb : Nat.beq i' j' <;> rw [hb] at h <;> cases h
    rfl
  · cases h
theorem zrm_ {R0 : Type} {res : R0} (R : Rep E w0 ok O σ tm w M) (hat : a.tmps = tm) (T : zj_ P E.ti = true) {d : Nat} {dst : Option Tmp} (hin : inB dst tm) {t tx ty : TypeId} {x y : Operand} {k : St → Option R0} (h : zh4_ E σ d dst t tx x y k = some res) :
    ∃ v w' σ' M', (Builtin.append_ #[t, tx] ty #[a.eval x, a.eval y]).run P w = .ok v w' ∧ k σ' = some res ∧ Rep E w0 ok O σ' (putT tm dst v) w' M' := by
  unfold zh4_ at h
  split at h
  · rename_i e e' u b ht
    obtain ⟨hu, hty⟩ := z3q_ T ht
    have hue : u = E.tyOf e := by injection hty
    subst hue
    split at h
    · rename_i i z hi hz
      obtain ⟨ti, v, i1, i2, i3, i4⟩ := z6n_ T hz
      obtain ⟨⟨ti', j1, j2, j3, j4, j5⟩, _⟩ := (z1z_ T hi (by
        intro hsh
        have := zcs_ T hi
        unfold tiOK at this
        rw [hsh] at this
        simp only [beq_iff_eq] at this
        have h9 : E.tyOf e = .un := by rw [Env.tyOf, hi]; exact this
        have := z4w_ _ hz
        rw [h9] at this
        exact this rfl)).1
      rw [i1] at j1
      cases j1
      have hpos : 0 < (E.tyOf e).sz := Nat.pos_of_ne_zero (z4w_ _ hz)
      have hvs : v.cells.size = (E.tyOf e).sz := by rw [← Array.length_toList, i3, zd0_ _ hz]
      have he : e' = e := by injection hty
      subst he
      rw [← j3] at h
      split at h
      · obtain ⟨σ1, ls, g1, g2⟩ := zi2_ (P := P) R hat T h
        exact zme_ (P := P) (l := (none, 0, [])) g2.ea.rep hu i1 i2 i4 hvs hpos j4 ⟨⟨rfl, rfl⟩, by simp⟩ ⟨fun b hb => (nomatch hb), by simp⟩ g2.src g2.ho (by simp only [z1_, Option.toList_none, List.nil_append, List.flatMap_nil, List.append_nil]; exact g2.ea.free) hin g1
      · split at h
        · rename_i s hs
          split at h
          · rename_i j n hsv
            obtain ⟨σ1, ls, g1, g2⟩ := zi2_ (P := P) R hat T h
            obtain ⟨h1, h2⟩ := zs_ R hat hs
            have hvw := zrl_ hsv
            subst hvw
            obtain ⟨cs, h4, h5⟩ := h1
            have hcs : cs = [a.eval x] := by
              rcases h5 with ⟨h6, _⟩ | ⟨_, h6⟩
              · cases h6
              · exact h6
            exact zrk_ (P := P) g2.ea.rep hu i1 i4 h4 hcs g2.src hin g1
          · obtain ⟨σ1, ls, g1, g2⟩ := zi2_ (P := P) R hat T h
            obtain ⟨h1, h2⟩ := zs_ R hat hs
            rcases z27_ h1 with rfl | ⟨c, vs, rfl, _, _⟩ | ⟨cs, h4, h5⟩
            · cases g1
            · cases g1
            · obtain ⟨σ2, vt, l, k1, k2, k3, k4, k5, k6⟩ := z4g_ depth w0 ok O σ1 tm w M s cs _ g2.ea.rep h4 g1
              unfold zm_ at k1
              split at k1
              · rename_i hvt
                subst hvt
                have hst : s.isSt = false := k5
                have hv : a.eval x = .slice (l.1.map fun g => ⟨g, 0, none⟩) l.2.2.length l.2.1 := by
                  rcases h5 with ⟨h6, _⟩ | ⟨_, h6⟩
                  · rw [hst] at h6; cases h6
                  · rw [← k4] at h6
                    simp only [z7_, List.cons.injEq, and_true] at h6; exact h6.symm
                rw [hv]
                exact zme_ (P := P) k6.rep hu i1 i2 i4 hvs hpos j4 k2 k3 g2.src g2.ho (g2.ea.free.append k6.free k6.sub k6.src) hin k1
              · cases k1
        · cases h
    · cases h
  · cases h

def Then (E : Env) (w0 : World) (ok O : Nat → Prop) {R0 : Type} (res : R0) (n : Nat) (k : St → Option R0) (next : Act → World → Prop) : Prop :=
  ∀ (σ : St) (a : Act) (w : World) (M : Map), k σ = some res → Rep E w0 ok O σ a.tmps w M → a.tmps.size = n → a.defers = [] → next a w

theorem zi3_ [Glob P] {R0 : Type} {res : R0} (R : Rep E w0 ok O σ a.tmps w M) (T : zj_ P E.ti = true) (EQ : EqOK P E) (S : SpecOK P E w0 O) {o : Oper} (hin : inB o.dst a.tmps) (hd : a.defers = []) {k : St → Option R0} (h : zas_ E σ o k = some res)
    {next : Act → World → Prop} {Q : Exit → Act → World → Prop} (hn : Then E w0 ok O res a.tmps.size k next) : o.wp P a w next Q := by
  unfold zas_ at h
  rw [zkt_] at h
  obtain ⟨out, h1, h2⟩ := Option.bind_eq_some_iff.1 h
  cases hf : (σ.clean (zn_ o)).fresh (zn_ o) out.2.1 out.2.2 <;> rw [hf] at h2
  · cases h2
  · simp only [cond_true] at h2
    have R' := R.clean (zn_ o)
    refine zm2_ R' rfl T EQ S h1 hf next Q fun v w' M' X => ?_
    refine hn _ _ w' M' h2 ?_ (by rw [z1m_, z42_]) (by rw [z41_]; exact hd)
    rw [z1m_]
    exact R'.add hf X hin
end
end Go.Proofs.YtibiofjkgdidmaaGreatDoor.Ev

namespace Go.Proofs.YtibiofjkgdidmaaGreatDoor.Ev
open Go.RowKit

section
variable {P : Program} {E : Env} {w0 : World} {ok O : Nat → Prop} {σ σ' : St} {tm : Array Value} {w w' : World} {M : Map} {a : Act}

theorem zrn_ {t : Ty} {l : L t} {v : Value} (hv : v.cells = (z7_ t l).toArray) (hsz : t.sz ≠ 0) (n : Nat) : (Builtin.zeroCells v.cells n).toList = (List.replicate n l).flatMap (z7_ t) := by
  have hvs : v.cells.size = t.sz := by rw [hv]; simp [z19_]
  have : Builtin.zeroCells v.cells n = ((List.replicate n l).flatMap (z7_ t)).toArray := by
    apply Array.ext
    · rw [size_zeroCells, hvs, List.size_toArray, z12_, List.length_replicate]
    · intro k hk1 hk2
      rw [size_zeroCells, hvs] at hk1
      simp only [Builtin.zeroCells, Array.getElem_map, Array.getElem_range, hvs]
      have hm : k % t.sz < t.sz := Nat.mod_lt _ (by omega)
      rw [getElem!_pos _ _ (by rw [hvs]; exact hm)]
      have hq : k / t.sz < n := by rw [Nat.div_lt_iff_lt_mul (by omega)]; exact hk1
      have hf := zcf_ t (List.replicate n l) (k / t.sz) l (by simp [hq]) (k % t.sz) hm
      rw [Nat.mul_comm, Nat.div_add_mod] at hf
      have h7 : ((List.replicate n l).flatMap (z7_ t))[k]? = some v.cells[k % t.sz] := by
        rw [hf, List.getElem?_eq_getElem (by rw [z19_]; exact hm)]
        simp only [hv, List.getElem_toArray]
      rw [List.getElem?_eq_some_iff] at h7
      obtain ⟨_, h7⟩ := h7
      rw [List.getElem_toArray]
      exact h7.symm
  rw [this]

theorem Rep.same (R : Rep E w0 ok O σ tm w M) {j : Nat} {r : Row} (hr : lk σ.rows j = some r) : ∃ M', Rep E w0 ok O (σ.setRow j r) tm w M' := by
  obtain ⟨l, hl, he, hh, hnd, hpl⟩ := R.rows j r hr
  have := R.upd (bs := []) (l' := l) hr hl (Kept.refl _ _) hh hnd hpl rfl (fun k hk => .inl hk) Free.nil (fun _ _ _ p _ => z2j_.refl _ _ _) (fun _ _ _ p _ => z2j_.refl _ _ _)
  rw [he] at this
  exact ⟨_, this⟩

theorem zro_ {R0 : Type} {res : R0} (R : Rep E w0 ok O σ tm w M) (hat : a.tmps = tm) (T : zj_ P E.ti = true) {xt ty : TypeId} {x : Operand} {k : St → Option R0} (h : zh5_ E σ xt x k = some res) :
    ∃ w' σ' M', (Builtin.clear_ #[xt] ty #[a.eval x]).run P w = .ok (.tuple #[]) w' ∧ k σ' = some res ∧ Rep E w0 ok O σ' tm w' M' := by
  unfold zh5_ at h
  split at h
  · rename_i e e' u b j lo n hti hx
    obtain ⟨hu, hty⟩ := z3q_ T hti
    obtain ⟨⟨cs, ⟨e1, t1, l1, hl1, hln, A, c, rfl, hc, hA⟩, hw⟩, hlive⟩ := zs_ R hat hx
    have hv : a.eval x = .slice A n c := by
      rcases hw with ⟨h5, _⟩ | ⟨_, h5⟩
      · cases h5
      · simp only [List.cons.injEq, and_true] at h5; exact h5.symm
    split at h
    · rename_i r hr
      split at h
      · rename_i z hz
        cases hb : ((Nat.beq r.e e && decide (r.t = E.tyOf e)) && r.t.flat) <;> rw [hb] at h
        · cases h
        · simp only [cond_true] at h
          simp only [Bool.and_eq_true, decide_eq_true_eq] at hb
          obtain ⟨⟨b1, b2⟩, b3⟩ := hb
          have b1 := Nat.eq_of_beq_eq_true b1
          obtain ⟨l, hl, he, hh, hnd, hpl⟩ := R.rows j r hr
          rw [hl] at hl1
          cases hl1
          rw [hv]
          by_cases hn : n = 0
          · subst hn
            obtain ⟨M', R'⟩ := R.same hr
            refine ⟨w, _, M', ?_, h, ?_⟩
            · cases A <;> simp [Builtin.clear_, run_underlying hu]
            · have : z16_ r.xs lo (List.replicate 0 z) = r.xs := by simp [z16_]
              rw [this]; exact R'
          · have hA := hA (.inl (by omega))
            cases hg : l.1 with
            | none =>
              have := hh.1
              rw [hg] at this
              rw [this.1] at hln
              simp at hln
              omega
            | some g =>
              rw [hg] at hA
              obtain ⟨zl, z1, z2, z3, z4⟩ := z4v_ r.t hz
              have hz' : (E.tyOf e).zero = some (b2 ▸ z) := by
                have key : ∀ (t : Ty) (e2 : r.t = t), t.zero = some (e2 ▸ z) := by intro t e2; subst e2; exact hz
                exact key _ b2
              obtain ⟨ti, v, i1, i2, i3, i4⟩ := z6n_ T hz'
              have hcz : z1f_ (E.tyOf e) = z1f_ r.t := by rw [b2]
              have hvc : v.cells = (z7_ r.t zl).toArray := by apply Array.ext'; rw [i3, hcz, ← z2]
              have hsz : r.t.sz ≠ 0 := zb6_ b3
              have hys := zrn_ hvc hsz n
              obtain ⟨cur, fz, k1, k2, k3, k4⟩ := zmd_ R hr hl hg b3 (lo := lo) (ys := List.replicate n zl) (by rw [List.length_replicate]; exact hln)
              have hyl : ((List.replicate n zl).flatMap (z7_ r.t)).length = n * r.t.sz := by rw [z12_, List.length_replicate]
              rw [List.length_replicate] at k2 k3 k4
              have hone := zi0_ (List.replicate n zl)
              obtain ⟨w', e1, e2, e3, e4⟩ := zd1_ P g r.e fz ((List.replicate n zl).flatMap (z7_ r.t)) (lo * r.t.sz) 0 cur w k1 (by rw [hyl]; simpa using k2) (by rw [hyl]; simpa using k3) hone
              rw [hyl, Nat.add_zero] at e2
              have R2 := k4 w' e2 e3 e4
              have hex : l.2.2.map (erase r.t) = r.xs := he
              rw [List.map_replicate, z1, hex] at R2
              refine ⟨w', _, _, ?_, h, R2⟩
              · rw [hA]
                have hzv : (zeroValue e).run P w = .ok v w := by simp [zeroValue, typeInfo, i1, i2]
                obtain ⟨m, rfl⟩ : ∃ m, n = m + 1 := ⟨n - 1, by omega⟩
                have e1' : (storeCells ⟨g, lo * r.t.sz, none⟩ (Builtin.zeroCells v.cells (m + 1)).toList).run P w = .ok () w' := by rw [hys]; exact e1
                simp [Builtin.clear_, run_underlying hu, hzv, e1']
      · cases h
    · cases h
  · cases h
end
end Go.Proofs.YtibiofjkgdidmaaGreatDoor.Ev

namespace Go.Proofs.YtibiofjkgdidmaaGreatDoor.Ev
open Go.RowKit

def z31_ (P : Program) (E : Env) (w0 : World) (O : Nat → Prop) : Prop := ∀ {R0 : Type} {res : R0} {ok : Nat → Prop} {σ : St} {a : Act} {w : World} {M : Map} {o : Oper} {g : FuncId} {c : OC} {f : Operand} {args : Array Operand} {ts : Array TypeId} {k : St → Option R0},
  E.opn (zn_ o) = some (g, c) → Rep E w0 ok O σ a.tmps w M → o.op = .call ⟨.value f, args, ts⟩ → inB o.dst a.tmps → a.defers = [] → zaz_ E σ (zn_ o) o.dst g c f args.toList ts.toList k = some res →
  ∀ {next : Act → World → Prop} {Q : Exit → Act → World → Prop}, Then E w0 ok O res a.tmps.size k next → o.wp P a w next Q
theorem z31_.none {P : Program} {E : Env} {w0 : World} {O : Nat → Prop} (h : ∀ g, E.opn g = .none) : z31_ P E w0 O := fun hk => by rw [h] at hk; cases hk

theorem zrp_ {R : Type} {a b : Option R} {r : R} (h : both a b = some r) : a = some r ∧ b = some r := by
  unfold both at h
  split at h
  · rename_i e; exact ⟨h, e ▸ h⟩
  · cases h

section
variable {P : Program} {E : Env} {w0 : World} {ok O : Nat → Prop} {σ σ' : St} {tm : Array Value} {w w' : World} {M : Map} {a : Act}

theorem zrq_ {R0 : Type} {res : R0} (R : Rep E w0 ok O σ a.tmps w M) (T : zj_ P E.ti = true) {xt yt : TypeId} {x : Operand} {k : Bool → Option R0} (h : nilC E σ xt x k = some res) (op : BinOp) (hop : op = .eql ∨ op = .neq) :
    ∃ b, k b = some res ∧ (do eqGuard op xt x (.const (.slice none 0 0)) (a.eval x) (.slice none 0 0); binOp op xt (a.eval x) (.slice none 0 0) : Sem Value).run P w = .ok (.bool (if op = .eql then b else !b)) w := by
  unfold nilC at h
  cases hk : E.isSl xt <;> rw [hk] at h
  · cases h
  · simp only [Bool.not_true, cond_false] at h
    obtain ⟨e, hu⟩ := zi1_ T hk
    split at h
    · rename_i s hs
      rw [zp_] at h
      obtain ⟨⟨t, xs⟩, h1, h⟩ := Option.bind_eq_some_iff.1 h
      obtain ⟨cs, hr, hw⟩ := res2 R rfl hs h1
      cases t with
      | sl e' t' =>
        simp only [] at h hr hw
        obtain ⟨A, c, rfl, hl, hx⟩ := hr
        have hv : a.eval x = .slice A (List.length xs) c := by
          rcases hw with ⟨h5, _⟩ | ⟨_, h5⟩
          · cases h5
          · simp only [List.cons.injEq, and_true] at h5; exact h5.symm
        have hrun : (do eqGuard op xt x (.const (.slice none 0 0)) (a.eval x) (.slice none 0 0); binOp op xt (a.eval x) (.slice none 0 0) : Sem Value).run P w = .ok (.bool (if op = .eql then A.isNone else !A.isNone)) w := by
          rw [hv]
          have hg : eqGuard op xt x (.const (.slice none 0 0)) (.slice A (List.length xs) c) (.slice none 0 0) = pure () := by cases op <;> rfl
          rw [hg]
          simp only [Sem.run_bind, Sem.run_pure, Result.andThen_ok]
          rcases hop with rfl | rfl
          · simp only [binOp, if_true]
            simp [Go.run_equal_slice_nil w xt e A _ c hu]
          · simp only [reduceCtorEq, if_false]
            exact Go.run_neq_slice_nil w xt e A _ c hu
        refine ⟨A.isNone, ?_, hrun⟩
        split at h
        · obtain ⟨g1, g2⟩ := zrp_ h
          cases A <;> assumption
        · rename_i hne
          have : xs ≠ [] := fun e => hne (by rw [e]; rfl)
          obtain ⟨ad, rfl, _⟩ := hx this
          exact h
      | _ => cases h
    · cases h

theorem Rep.reput (R : Rep E w0 ok O σ tm w M) {d : Tmp} {s : SV} {v : Value} (hv : tm[d]? = some v) (hs : RepS w0 ok M s v) (hl : Live σ s) : Rep E w0 ok O (σ.put (some d) s) tm w M := by
  have hd : d < tm.size := (Array.getElem?_eq_some_iff.1 hv).1
  have := R.putV (d := some d) hs hl (fun x hx => by cases hx; exact hd)
  have e : putT tm (some d) v = tm := by
    simp only [putT]
    apply Array.ext_getElem?
    intro i
    by_cases hi : d = i
    · subst hi; rw [hv]; simp [hd]
    · rw [Array.getElem?_setIfInBounds_ne hi]
  rw [e] at this
  exact this

theorem zrr_ {R0 : Type} {res : R0} (R : Rep E w0 ok O σ tm w M) {d : Nat} {dst : Option Tmp} {k : St → Option R0} (h : zh6_ E σ d dst k = some res) : ∃ σ' M', k σ' = some res ∧ Rep E w0 ok O σ' tm w M' := by
  unfold zh6_ at h
  split at h
  · exact ⟨σ, M, h, R⟩
  · rename_i s
    split at h
    · rename_i j hj
      split at h
      · rename_i b hb
        cases hk : ((E.tyOf b.ty).flat || Nat.beq b.c.count 0) <;> rw [hk] at h
        · exact ⟨σ, M, h, R⟩
        · simp only [cond_true] at h
          obtain ⟨u, h1, cs, h2, h3⟩ := R.slots s _ hj
          obtain ⟨σ1, t, l, g1, g2, g3, g4, g5, g6⟩ := z4g_ depth w0 ok O σ tm w M _ cs _ R h2 h
          cases t with
          | sl e t =>
            simp only [] at g1
            cases hp : Nat.blt (32 * d) PIN <;> rw [hp] at g1
            · cases g1
            · simp only [cond_true] at g1
              have R2 := g6.rep.addOwn (32 * d) (Nat.le_of_ble_eq_true hp) l g2 g3 g6.free
              refine ⟨_, _, g1, R2.reput h1 ⟨cs, ⟨e, t, l, (congrArg (fun z : Loc => subL z.1 z.2 []) (z1g_ M.loc (32 * d) ⟨.sl e t, l⟩)).trans rfl, g4.symm⟩, h3⟩ ⟨fun i hi => ?_, by simp [SV.boxes]⟩⟩
              simp [SV.roots] at hi
              subst hi
              exact ⟨_, z3c_ _ _ _⟩
          | _ => cases g1
      · cases h
    · cases h

theorem zmf_ [Glob P] {R0 : Type} {res : R0} (R : Rep E w0 ok O σ a.tmps w M) (T : zj_ P E.ti = true) (EQ : EqOK P E) (S : SpecOK P E w0 O) (K : z31_ P E w0 O) {o : Oper} (hin : inB o.dst a.tmps) (hd : a.defers = []) {k : St → Option R0} (h : seqC E σ o k = some res)
    {next : Act → World → Prop} {Q : Exit → Act → World → Prop} (hn : Then E w0 ok O res a.tmps.size k next) : o.wp P a w next Q := by
  have nil : ∀ {op : BinOp} {xt yt : TypeId} {x : Operand} {k' : Bool → Option R0}, o.op = .binOp op xt x (.const (.slice none 0 0)) yt → (op = .eql ∨ op = .neq) → nilC E σ xt x k' = some res → (∀ b, k' b = k (σ.put o.dst (.val .bool (if op = .eql then b else !b)))) → o.wp P a w next Q := by
    intro op xt yt x k' hop ho h hk
    obtain ⟨b, h1, h2⟩ := zrq_ R T h op ho (yt := yt)
    unfold Oper.wp execOp
    rw [hop]
    have he : a.eval (.const (.slice none 0 0)) = .slice none 0 0 := rfl
    simp only [he]
    rw [Sem.run_bind, h2]
    simp only [Result.andThen_ok, Sem.run_pure, Oper.upon_value]
    rw [hk] at h1
    refine hn _ _ w M h1 ?_ (by rw [z1m_, z42_]) (by rw [z41_]; exact hd)
    rw [z1m_]
    exact R.putV (s := .val .bool _) ⟨_, rfl, .inr ⟨rfl, rfl⟩⟩ (z28_ _ _) hin
  unfold seqC at h
  split at h
  · rename_i t x y hop
    obtain ⟨w', σ', M', h1, h2, h3⟩ := zrf_ (P := P) R rfl T h
    unfold Oper.wp execOp
    rw [hop]
    simp only [Sem.run_bind, h1, Result.andThen_ok, Sem.run_pure]
    refine hn _ _ w' M' h2 ?_ (by rw [z1m_, z42_]) (by rw [z41_]; exact hd)
    rw [z1m_]
    exact h3.putUn undef hin
  · rename_i args ts hop
    split at h
    · rename_i x y t tx hargs hts
      have ha : args = #[x, y] := by apply Array.ext'; rw [hargs]
      have ht : ts = #[t, tx] := by apply Array.ext'; rw [hts]
      obtain ⟨v, w', σ', M', h1, h2, h3⟩ := zrm_ (P := P) (ty := o.type) R rfl T hin h
      unfold Oper.wp execOp
      rw [hop, ha, ht]
      simp only [resolve, invoke, builtin, Sem.run_bind, Sem.run_pure, Result.andThen_ok]
      have hm : (#[x, y].map a.eval) = #[a.eval x, a.eval y] := by simp
      rw [hm, h1]
      simp only [Result.andThen_ok, Oper.upon_value]
      refine hn _ _ w' M' h2 ?_ (by rw [z1m_, z42_]) (by rw [z41_]; exact hd)
      rw [z1m_]
      exact h3
    · cases h
  · rename_i args ts hop
    split at h
    · rename_i x t hargs hts
      have ha : args = #[x] := by apply Array.ext'; rw [hargs]
      have ht : ts = #[t] := by apply Array.ext'; rw [hts]
      obtain ⟨w', σ', M', h1, h2, h3⟩ := zro_ (P := P) (ty := o.type) R rfl T h
      unfold Oper.wp execOp
      rw [hop, ha, ht]
      simp only [resolve, invoke, builtin, Sem.run_bind, Sem.run_pure, Result.andThen_ok]
      have hm : (#[x].map a.eval) = #[a.eval x] := by simp
      rw [hm, h1]
      simp only [Result.andThen_ok, Oper.upon_value]
      refine hn _ _ w' M' h2 ?_ (by rw [z1m_, z42_]) (by rw [z41_]; exact hd)
      rw [z1m_]
      exact h3.putUn (.tuple #[]) hin
    · cases h
  · rename_i bt bn bp hop
    refine zi3_ R T EQ S hin hd h fun σ1 a1 w1 M1 h1 R1 hn1 hd1 => ?_
    obtain ⟨σ2, M2, h2, R2⟩ := zrr_ R1 h1
    exact hn _ _ w1 M2 h2 R2 hn1 hd1
  · rename_i xt x yt hop
    exact nil hop (.inl rfl) h (fun b => by simp)
  · rename_i xt x yt hop
    exact nil hop (.inr rfl) h (fun b => by simp)
  · rename_i f args ts hop
    split at h
    · exact zi3_ R T EQ S hin hd h hn
    · rename_i g c hk
      exact K hk R hop hin hd h hn
  · exact zi3_ R T EQ S hin hd h hn

theorem zmg_ (R : Rep E w0 ok O σ tm w M) {d : Tmp} {b : Bool} (h : lk σ.sl d = some (.val .bool b)) : tm[d]? = some (.bool b) := by
  obtain ⟨u, h1, cs, h2, h3⟩ := R.slots d _ h
  have := zb5_ h2 (h3 : zu_ .bool u cs)
  rw [h1, this]

theorem zmh_ {R0 : Type} {res : R0} (R : Rep E w0 ok O σ tm w M) {all : List Oper} {i : Nat} {o : Oper} {k : St → Option R0} (h : zhc_ all i o σ k = some res) : ∃ σ', k σ' = some res ∧ Rep E w0 ok O σ' tm w M := by
  unfold zhc_ at h
  cases hg : zck_ all i <;> rw [hg] at h
  · exact ⟨σ, h, R⟩
  · simp only [cond_true] at h
    split at h
    · rename_i d hd
      split at h
      · rename_i b hb
        have hv := zmg_ R hb
        split at h
        · rename_i hbt
          subst hbt
          exact ⟨_, h, R.reput hv ⟨_, rfl, .inr ⟨rfl, rfl⟩⟩ (z28_ _ _)⟩
        · rename_i hbf
          have : b = false := by simpa using hbf
          subst this
          exact ⟨_, h, R.reput hv ⟨_, rfl, .inr ⟨rfl, rfl⟩⟩ (z28_ _ _)⟩
      · cases h
    · cases h

theorem zd4_ {R0 : Type} {res : R0} (R : Rep E w0 ok O σ tm w M) {all : List Oper} {o : Oper} {yes no : Option R0} (h : z2x_ all o σ yes no = some res) :
    (Region.wanted o (yielded all.toArray tm) = true ∧ yes = some res) ∨ (Region.wanted o (yielded all.toArray tm) = false ∧ no = some res) := by
  unfold z2x_ at h
  split at h
  · rename_i hg; exact .inl ⟨by simp [Region.wanted, hg], h⟩
  · rename_i g want hg
    split at h
    · rename_i d hd
      split at h
      · rename_i b hb
        have hv := zmg_ R hb
        have hy : yielded all.toArray tm g = some b := by
          unfold z5k_ at hd
          split at hd
          · rename_i q hq
            have : all.toArray[g]? = some q := by simpa using hq
            simp [yielded, this, hd, hv]
          · cases hd
        split at h
        · rename_i e; exact .inl ⟨by simp [Region.wanted, hg, hy, e], h⟩
        · rename_i e; exact .inr ⟨by simp [Region.wanted, hg, hy, e], h⟩
      · rename_i hb
        obtain ⟨u, h1, vs, h2, h3⟩ := R.slots d _ hb
        have hy : yielded all.toArray tm g = none := by
          unfold z5k_ at hd
          split at hd
          · rename_i q hq
            have : all.toArray[g]? = some q := by simpa using hq
            simp [yielded, this, hd, h1, h2]
          · cases hd
        exact .inr ⟨by simp [Region.wanted, hg, hy], h⟩
      · cases h
    · cases h

theorem zi4_ [Glob P] {R0 : Type} {res : R0} (T : zj_ P E.ti = true) (EQ : EqOK P E) (S : SpecOK P E w0 O) (K : z31_ P E w0 O) {all : List Oper} {n : Nat} (hB : ∀ o ∈ all, ∀ d, o.dst = some d → d < n) {k : St → Option R0} {Q : Exit → Act → World → Prop} (hQ : Then E w0 ok O res n k (Q .normal)) :
    ∀ (l : List Oper) (i : Nat) (σ : St) (a : Act) (w : World) (M : Map), all.drop i = l → opsC E all i l σ k = some res → Rep E w0 ok O σ a.tmps w M → a.tmps.size = n → a.defers = [] → wpOps P all.toArray Q (List.range' i l.length) a w
  | [], i, σ, a, w, M, hl, h, R, hn, hd => by
    simp only [List.length_nil, List.range'_zero, wpOps]
    exact hQ σ a w M h R hn hd
  | o :: l, i, σ, a, w, M, hl, h, R, hn, hd => by
    have hi : all[i]? = some o := by
      have : (all.drop i)[0]? = some o := by rw [hl]; rfl
      rwa [List.getElem?_drop, Nat.add_zero] at this
    have hl' : all.drop (i + 1) = l := by
      have : (all.drop i).drop 1 = l := by rw [hl]; rfl
      rwa [List.drop_drop] at this
    have hia : all.toArray[i]? = some o := by simpa using hi
    have hin : inB o.dst a.tmps := fun d hd => by rw [hn]; exact hB o (List.mem_of_getElem? hi) d hd
    rw [List.length_cons, List.range'_succ]
    simp only [wpOps, hia]
    simp only [opsC] at h
    rcases zd4_ R h with ⟨hw, h⟩ | ⟨hw, h⟩
    · rw [if_pos hw]
      refine .inl (zmf_ R T EQ S K hin hd h ?_)
      intro σ1 a1 w1 M1 h1 R1 hn1 hd1
      obtain ⟨σ2, h2, R2⟩ := zmh_ R1 h1
      exact zi4_ T EQ S K hB hQ l (i + 1) σ2 a1 w1 M1 hl' h2 R2 (by rw [hn1, hn]) hd1
    · rw [if_neg (by rw [hw]; simp)]
      refine zi4_ T EQ S K hB hQ l (i + 1) _ _ w M hl' h ?_ (by rw [z1m_, z42_, hn]) (by rw [z41_]; exact hd)
      rw [z1m_]
      exact R.putSkip hin
end
end Go.Proofs.YtibiofjkgdidmaaGreatDoor.Ev

namespace Go.Proofs.YtibiofjkgdidmaaGreatDoor.Ev
open Go.RowKit

section
variable {P : Program} {E : Env} {w0 : World} {ok O : Nat → Prop} {σ σ' : St} {tm : Array Value} {w w' : World} {M : Map} {a : Act}

def z3d_ (σ : St) (o : Oper) (x : Out) : St := (σ.add x.2.1 x.2.2).put o.dst x.1
def TrOK (E : Env) (all : List Oper) (p i : Nat) (σ : St) (o : Oper) (x : Out) : Prop :=
  (z2x_ all o (σ.hide (z26_ all p i)) (some true) (some false) = some true ∧ zl_ E (σ.hide (z26_ all p i)) o = some x ∧ σ.fresh (zn_ o) x.2.1 x.2.2 = true) ∨
  (z2x_ all o (σ.hide (z26_ all p i)) (some true) (some false) = some false ∧ x = (.tup .nl, [], []))
inductive Trace (E : Env) (all : List Oper) : List Nat → Nat → List Oper → St → List Out → St → Prop where
  | nil (i : Nat) (l : List Oper) (σ : St) : Trace E all [] i l σ [] σ
  | cons {p : Nat} {ps : List Nat} {i : Nat} {o : Oper} {l : List Oper} {σ σ' : St} {x : Out} {xs : List Out} : TrOK E all p i σ o x → Trace E all ps (i + 1) l (z3d_ σ o x) xs σ' → Trace E all (p :: ps) i (o :: l) σ (x :: xs) σ'

theorem zrs_ {R0 : Type} {res : R0} {all : List Oper} {o : Oper} {yes no : Option R0} (h : z2x_ all o σ yes no = some res) :
    (z2x_ all o σ (some true) (some false) = some true ∧ yes = some res) ∨ (z2x_ all o σ (some true) (some false) = some false ∧ no = some res) := by
  cases hg : o.guard with
  | none => simp only [z2x_, hg] at h ⊢; exact .inl ⟨trivial, h⟩
  | some gw =>
    obtain ⟨g, want⟩ := gw
    simp only [z2x_, hg] at h ⊢
    cases hd : z5k_ all g with
    | none => simp only [hd] at h; cases h
    | some d =>
      simp only [hd] at h ⊢
      split at h
      · rename_i b hb
        by_cases e : b = want
        · rw [if_pos e] at h; exact .inl ⟨by rw [if_pos e], h⟩
        · rw [if_neg e] at h; exact .inr ⟨by rw [if_neg e], h⟩
      · exact .inr ⟨rfl, h⟩
      · cases h
theorem zrt_ {R0 : Type} {res : R0} {all : List Oper} {i : Nat} {s : SV} {k : SV → Option R0} (h : zhd_ all i s k = some res) : k s = some res := by
  unfold zhd_ at h
  cases hg : zck_ all i <;> rw [hg] at h
  · exact h
  · simp only [cond_true] at h
    split at h
    · split at h
      · rename_i b hb; subst hb; exact h
      · rename_i b hb
        have : b = false := by simpa using hb
        subst this; exact h
    · cases h

theorem zi5_ {R0 : Type} {res : R0} {all : List Oper} {k : St → Option R0} : ∀ (ps : List Nat) (i : Nat) (l : List Oper) (σ : St), z84_ E all ps i l σ k = some res →
    ∃ outs σ', Trace E all ps i l σ outs σ' ∧ outs.length = ps.length ∧ ps.length ≤ l.length ∧ opsC E all (i + ps.length) (l.drop ps.length) σ' k = some res
  | [], i, l, σ, h => ⟨[], σ, .nil i l σ, rfl, Nat.zero_le _, by simpa [z84_] using h⟩
  | p :: ps, i, [], σ, h => by cases h
  | p :: ps, i, o :: l, σ, h => by
    simp only [z84_] at h
    rcases zrs_ h with ⟨hw, h⟩ | ⟨hw, h⟩
    · rw [zkt_] at h
      obtain ⟨out, h1, h2⟩ := Option.bind_eq_some_iff.1 h
      cases hf : σ.fresh (zn_ o) out.2.1 out.2.2 <;> rw [hf] at h2
      · cases h2
      · simp only [cond_true] at h2
        obtain ⟨outs, σ', g1, g2, g3, g4⟩ := zi5_ ps (i + 1) l _ (zrt_ h2)
        exact ⟨out :: outs, σ', .cons (.inl ⟨hw, h1, hf⟩) g1, by simp [g2], by simp; exact g3, by rw [List.length_cons, List.drop_succ_cons, show i + (ps.length + 1) = i + 1 + ps.length by omega]; exact g4⟩
    · obtain ⟨outs, σ', g1, g2, g3, g4⟩ := zi5_ ps (i + 1) l _ h
      exact ⟨(.tup .nl, [], []) :: outs, σ', .cons (.inr ⟨hw, rfl⟩) g1, by simp [g2], by simp; exact g3, by rw [List.length_cons, List.drop_succ_cons, show i + (ps.length + 1) = i + 1 + ps.length by omega]; exact g4⟩

structure Chars (base : St) (l : List Oper) (outs : List Out) (j : Nat) (σ : St) : Prop where
  sl : ∀ s v, lk σ.sl s = some v → lk base.sl s = some v ∨ ∃ t o x, t < j ∧ l[t]? = some o ∧ outs[t]? = some x ∧ o.dst = some s ∧ v = x.1
  rows : ∀ i r, lk σ.rows i = some r → lk base.rows i = some r ∨ ∃ t x, t < j ∧ outs[t]? = some x ∧ lk x.2.1 i = some r
  bx : ∀ i b, lk σ.bx i = some b → lk base.bx i = some b ∨ ∃ t x, t < j ∧ outs[t]? = some x ∧ lk x.2.2 i = some b
  rows' : ∀ i, (∃ r, lk base.rows i = some r) → ∃ r, lk σ.rows i = some r
  bx' : ∀ i, (∃ r, lk base.bx i = some r) → ∃ r, lk σ.bx i = some r
  rowsO : ∀ t x i, t < j → outs[t]? = some x → (∃ r, lk x.2.1 i = some r) → ∃ r, lk σ.rows i = some r
  bxO : ∀ t x i, t < j → outs[t]? = some x → (∃ r, lk x.2.2 i = some r) → ∃ r, lk σ.bx i = some r

theorem zru_ {o : Oper} {x : Out} (s : Nat) (v : SV) (h : lk (z3d_ σ o x).sl s = some v) : (o.dst = some s ∧ v = x.1) ∨ lk σ.sl s = some v := by
  unfold z3d_ at h
  cases hd : o.dst with
  | none => rw [hd] at h; exact .inr h
  | some d =>
    rw [hd] at h
    simp only [St.put, zk_] at h
    split at h
    · rename_i e; cases h; exact .inl ⟨by rw [e], rfl⟩
    · exact .inr h
theorem zd5_ {o : Oper} {x : Out} : (z3d_ σ o x).rows = x.2.1 ++ σ.rows := z43_ _ _
theorem zd6_ {o : Oper} {x : Out} : (z3d_ σ o x).bx = x.2.2 ++ σ.bx := z3b_ _ _

theorem zrv_ {all : List Oper} : ∀ {ps : List Nat} {i : Nat} {l : List Oper} {σ : St} {outs : List Out} {σ' : St}, Trace E all ps i l σ outs σ' →
    (∀ j, j < outs.length → ∃ σj o x p, l[j]? = some o ∧ outs[j]? = some x ∧ ps[j]? = some p ∧ TrOK E all p (i + j) σj o x ∧ Chars σ l outs j σj) ∧ Chars σ l outs outs.length σ' := by
  intro ps i l σ outs σ' h
  induction h with
  | nil i l σ => exact ⟨fun j hj => absurd hj (Nat.not_lt_zero _), ⟨fun s v h => .inl h, fun i r h => .inl h, fun i b h => .inl h, fun i h => h, fun i h => h, fun t x i ht => absurd ht (Nat.not_lt_zero _), fun t x i ht => absurd ht (Nat.not_lt_zero _)⟩⟩
  | @cons p ps i o l σ σ' x xs h1 h2 ih =>
    obtain ⟨ih1, ih2⟩ := ih
    have up : ∀ {j σj}, Chars (z3d_ σ o x) l xs j σj → Chars σ (o :: l) (x :: xs) (j + 1) σj := by
      intro j σj hc
      refine ⟨fun s v h => ?_, fun k r h => ?_, fun k b h => ?_, fun k hk => hc.rows' k ?_, fun k hk => hc.bx' k ?_, fun t x' k ht hx' hk => ?_, fun t x' k ht hx' hk => ?_⟩
      · rcases hc.sl s v h with h | ⟨t, o', x', ht, h3, h4, h5, h6⟩
        · rcases zru_ s v h with ⟨h3, h4⟩ | h
          · exact .inr ⟨0, o, x, Nat.succ_pos _, rfl, rfl, h3, h4⟩
          · exact .inl h
        · exact .inr ⟨t + 1, o', x', Nat.succ_lt_succ ht, h3, h4, h5, h6⟩
      · rcases hc.rows k r h with h | ⟨t, x', ht, h4, h5⟩
        · rw [zd5_, z1a_] at h
          cases hq : lk x.2.1 k with
          | some r' => rw [hq] at h; cases h; exact .inr ⟨0, x, Nat.succ_pos _, rfl, hq⟩
          | none => rw [hq] at h; exact .inl h
        · exact .inr ⟨t + 1, x', Nat.succ_lt_succ ht, h4, h5⟩
      · rcases hc.bx k b h with h | ⟨t, x', ht, h4, h5⟩
        · rw [zd6_, z1a_] at h
          cases hq : lk x.2.2 k with
          | some r' => rw [hq] at h; cases h; exact .inr ⟨0, x, Nat.succ_pos _, rfl, hq⟩
          | none => rw [hq] at h; exact .inl h
        · exact .inr ⟨t + 1, x', Nat.succ_lt_succ ht, h4, h5⟩
      · obtain ⟨r, hr⟩ := hk
        rw [zd5_, z1a_, hr]
        cases lk x.2.1 k with
        | some r' => exact ⟨r', rfl⟩
        | none => exact ⟨r, rfl⟩
      · obtain ⟨r, hr⟩ := hk
        rw [zd6_, z1a_, hr]
        cases lk x.2.2 k with
        | some r' => exact ⟨r', rfl⟩
        | none => exact ⟨r, rfl⟩
      · cases t with
        | zero =>
          cases hx'
          obtain ⟨r, hr⟩ := hk
          exact hc.rows' k ⟨r, by rw [zd5_, z1a_, hr]; rfl⟩
        | succ t => exact hc.rowsO t x' k (Nat.lt_of_succ_lt_succ ht) hx' hk
      · cases t with
        | zero =>
          cases hx'
          obtain ⟨r, hr⟩ := hk
          exact hc.bx' k ⟨r, by rw [zd6_, z1a_, hr]; rfl⟩
        | succ t => exact hc.bxO t x' k (Nat.lt_of_succ_lt_succ ht) hx' hk
    refine ⟨fun j hj => ?_, up ih2⟩
    cases j with
    | zero => exact ⟨σ, o, x, p, rfl, rfl, rfl, h1, ⟨fun s v h => .inl h, fun i r h => .inl h, fun i b h => .inl h, fun i h => h, fun i h => h, fun t x i ht => absurd ht (Nat.not_lt_zero _), fun t x i ht => absurd ht (Nat.not_lt_zero _)⟩⟩
    | succ j =>
      obtain ⟨σj, o', x', p', g1, g2, g3, g4, g5⟩ := ih1 j (by simpa using hj)
      exact ⟨σj, o', x', p', g1, g2, g3, by rw [show i + (j + 1) = i + 1 + j by omega]; exact g4, up g5⟩

structure Done (base : St) (all : List Oper) (outs : List Out) (D : Nat → Prop) (σ : St) : Prop where
  sl : ∀ s v, lk base.sl s = some v → lk σ.sl s = some v
  out : ∀ j o x d, D j → all[j]? = some o → outs[j]? = some x → o.dst = some d → lk σ.sl d = some x.1
  rows : ∀ i r, lk base.rows i = some r → lk σ.rows i = some r
  rowsO : ∀ j x i r, D j → outs[j]? = some x → lk x.2.1 i = some r → lk σ.rows i = some r
  bx : ∀ i r, lk base.bx i = some r → lk σ.bx i = some r
  bxO : ∀ j x i r, D j → outs[j]? = some x → lk x.2.2 i = some r → lk σ.bx i = some r
  rowsB : ∀ i r, lk σ.rows i = some r → lk base.rows i = some r ∨ ∃ j x r', D j ∧ outs[j]? = some x ∧ lk x.2.1 i = some r'
  bxB : ∀ i r, lk σ.bx i = some r → lk base.bx i = some r ∨ ∃ j x r', D j ∧ outs[j]? = some x ∧ lk x.2.2 i = some r'

theorem z6q_ {α : Type} (q : Nat → Bool) : ∀ (l : List (Nat × α)) (n : Nat), lk (l.filter fun x => q x.1) n = if q n = true then lk l n else none
  | [], n => by simp [lk]
  | (k, v) :: l, n => by
    rw [List.filter_cons]
    by_cases hk : q k = true
    · rw [if_pos hk, zk_, zk_, z6q_ q l n]
      by_cases hkn : k = n
      · subst hkn; simp [hk]
      · simp [hkn]
    · rw [if_neg hk, z6q_ q l n, zk_]
      by_cases hkn : k = n
      · subst hkn; simp [hk]
      · simp [hkn]
theorem zd7_ {ds : List Nat} {n : Nat} : (!(ds.any (Nat.beq n))) = true ↔ n ∉ ds := by
  simp only [Bool.not_eq_true', List.any_eq_false]
  constructor
  · intro h hm; have := h n hm; simp at this
  · intro h x hx hb; exact h (Nat.eq_of_beq_eq_true hb ▸ hx)

theorem zrw_ {all : List Oper} {p i j d : Nat} (hj : j < i) (hp : p.testBit j = false) (hd : z5k_ all j = some d) : d ∈ z26_ all p i := by
  unfold z26_
  exact List.mem_filterMap.2 ⟨j, List.mem_range.2 hj, by rw [hp]; exact hd⟩
end
end Go.Proofs.YtibiofjkgdidmaaGreatDoor.Ev

namespace Go.Proofs.YtibiofjkgdidmaaGreatDoor.Ev
open Go.RowKit

theorem zi6_ : ∀ (l : List Oper) (acc : List Nat), ∃ r, zx_ l acc = acc ++ r ∧ r.length = l.length
  | [], acc => ⟨[], by simp [zx_], rfl⟩
  | o :: l, acc => by
    obtain ⟨r, h1, h2⟩ := zi6_ l (acc ++ [z5l_ acc o])
    exact ⟨z5l_ acc o :: r, by simp only [zx_]; rw [h1]; simp, by simp [h2]⟩
theorem zmi_ : ∀ (l : List Oper) (acc : List Nat) (j : Nat) (o : Oper), l[j]? = some o → ∃ acc', (zx_ l acc)[acc.length + j]? = some (z5l_ acc' o) ∧ acc' = (zx_ l acc).take (acc.length + j)
  | [], acc, j, o, h => by simp at h
  | o' :: l, acc, j, o, h => by
    obtain ⟨r, h1, h2⟩ := zi6_ l (acc ++ [z5l_ acc o'])
    cases j with
    | zero =>
      simp at h
      subst h
      refine ⟨acc, ?_, ?_⟩
      · simp only [zx_]; rw [h1]; simp
      · simp only [zx_]; rw [h1]; simp
    | succ j =>
      simp only [List.getElem?_cons_succ] at h
      obtain ⟨acc', h3, h4⟩ := zmi_ l (acc ++ [z5l_ acc o']) j o h
      refine ⟨acc', ?_, ?_⟩
      · simp only [zx_]
        rw [show acc.length + (j + 1) = (acc ++ [z5l_ acc o']).length + j by simp; omega]
        exact h3
      · rw [h4]
        simp only [zx_]
        congr 1
        simp; omega
theorem zrx_ (before : List Nat) (o : Oper) (t : Nat) (h : (z5l_ before o).testBit t = true) : ∃ e ∈ o.after.toList, Region.binds .any e = true ∧ (t = e.on ∨ (before.getD e.on 0).testBit t = true) := by
  have key : ∀ (l : List Edge) (s : Nat), (l.foldl (fun s e => bif Region.binds .any e then Nat.lor s (Nat.lor (2 ^ e.on) (before.getD e.on 0)) else s) s).testBit t = true → s.testBit t = true ∨ ∃ e ∈ l, Region.binds .any e = true ∧ (t = e.on ∨ (before.getD e.on 0).testBit t = true) := by
    intro l
    induction l with
    | nil => intro s h; exact .inl h
    | cons e l ih =>
      intro s h
      rw [List.foldl_cons] at h
      rcases ih _ h with h | ⟨e', h1, h2⟩
      · cases hb : Region.binds .any e <;> rw [hb] at h
        · exact .inl h
        · simp only [cond_true] at h
          have h' : (s ||| (2 ^ e.on ||| before.getD e.on 0)).testBit t = true := h
          rw [Nat.testBit_or, Nat.testBit_or, Bool.or_eq_true, Bool.or_eq_true] at h'
          rcases h' with h | h | h
          · exact .inl h
          · refine .inr ⟨e, by simp, hb, .inl ?_⟩
            rw [Nat.testBit_two_pow] at h
            exact (of_decide_eq_true h).symm
          · exact .inr ⟨e, by simp, hb, .inr h⟩
      · exact .inr ⟨e', by simp [h1], h2⟩
  rcases key _ 0 h with h | h
  · simp at h
  · exact h
theorem zbh_ : ∀ {l : List Oper} {i : Nat}, z5m_ i l = true → ∀ (j : Nat) (o : Oper), l[j]? = some o → ∀ e ∈ o.after.toList, Region.binds .any e = true → e.on < i + j
  | [], i, h, j, o, hj, e, he, hb => by simp at hj
  | o' :: l, i, h, j, o, hj, e, he, hb => by
    simp only [z5m_, Bool.and_eq_true, List.all_eq_true] at h
    cases j with
    | zero =>
      simp at hj
      subst hj
      have := h.1 e he
      rw [hb] at this
      simp only [Bool.not_true, Bool.false_or] at this
      have := Nat.le_of_ble_eq_true this
      omega
    | succ j =>
      simp only [List.getElem?_cons_succ] at hj
      have := zbh_ h.2 j o hj e he hb
      omega
theorem zmj_ {n p : Nat} (h : z5n_ n p = true) {j : Nat} (hj : j < n) : p.testBit j = true := by
  have e := Nat.eq_of_beq_eq_true h
  have h1 : (p % 2 ^ n).testBit j = true := by rw [e, Nat.testBit_two_pow_sub_one]; simp [hj]
  rw [Nat.testBit_mod_two_pow] at h1
  simp only [Bool.and_eq_true] at h1
  exact h1.2
theorem zi7_ : ∀ (ps : List Nat) (i j p : Nat), z37_ ps i ≤ j → ps[j]? = some p → z5n_ (i + j) p = true
  | [], i, j, p, _, h => by simp at h
  | q :: ps, i, j, p, hj, h => by
    simp only [z37_] at hj
    cases hf : z37_ ps (i + 1) with
    | zero =>
      rw [hf] at hj
      simp only [] at hj
      cases j with
      | zero =>
        simp at h
        subst h
        cases ht : z5n_ i q <;> rw [ht] at hj
        · simp at hj
      | succ j =>
        simp only [List.getElem?_cons_succ] at h
        have := zi7_ ps (i + 1) j p (by omega) h
        rw [show i + (j + 1) = i + 1 + j by omega]; exact this
    | succ n =>
      rw [hf] at hj
      simp only [] at hj
      cases j with
      | zero => omega
      | succ j =>
        simp only [List.getElem?_cons_succ] at h
        have := zi7_ ps (i + 1) j p (by omega) h
        rw [show i + (j + 1) = i + 1 + j by omega]; exact this

def zi8_ (all : List Oper) (D : Nat → Prop) : Prop := ∀ j o, D j → all[j]? = some o → ∀ e ∈ o.after.toList, Region.binds .any e = true → D e.on
theorem zmk_ {all : List Oper} (hE : z5m_ 0 all = true) {D : Nat → Prop} (hD : zi8_ all D) : ∀ (j : Nat) (o : Oper), all[j]? = some o → (∀ e ∈ o.after.toList, Region.binds .any e = true → D e.on) → ∀ t, ((zx_ all []).getD j 0).testBit t = true → D t := by
  intro j
  induction j using Nat.strongRecOn with
  | _ j ih =>
    intro o ho he t ht
    obtain ⟨acc', h1, h2⟩ := zmi_ all [] j o ho
    rw [List.length_nil, Nat.zero_add] at h1 h2
    rw [List.getD_eq_getElem?_getD, h1] at ht
    obtain ⟨e, e1, e2, e3⟩ := zrx_ acc' o t ht
    rcases e3 with rfl | e3
    · exact he e e1 e2
    · have hlt := zbh_ hE j o ho e e1 e2
      rw [Nat.zero_add] at hlt
      rw [h2, List.getD_eq_getElem?_getD, List.getElem?_take_of_lt hlt, ← List.getD_eq_getElem?_getD] at e3
      have hol : e.on < all.length := Nat.lt_trans hlt (List.getElem?_eq_some_iff.1 ho).1
      have hdon := he e e1 e2
      exact ih e.on hlt all[e.on] (List.getElem?_eq_getElem hol) (fun e' h3 h4 => hD e.on _ hdon (List.getElem?_eq_getElem hol) e' h3 h4) t e3

section
variable {P : Program} {E : Env} {w0 : World} {ok O : Nat → Prop} {σ σ' : St} {tm : Array Value} {w w' : World} {M : Map} {a : Act}

theorem zml_ {α : Type} : ∀ {l : List (Nat × α)} {x : Nat × α}, x ∈ l → ∃ v, lk l x.1 = some v
  | (k, v) :: l, x, h => by
    rw [zk_]
    by_cases hk : k = x.1
    · exact ⟨v, by rw [if_pos hk]⟩
    · rw [if_neg hk]
      rcases List.mem_cons.1 h with rfl | h
      · exact absurd rfl hk
      · exact zml_ h
theorem zry_ {d : Nat} {nr : List (Nat × Row)} {nb : List (Nat × Bx)} (h : σ.fresh d nr nb = true) : (∀ i, (∃ r, lk nr i = some r) → i / 32 = d) ∧ (∀ i, (∃ r, lk nb i = some r) → i = d) := by
  simp only [St.fresh, Bool.and_eq_true, List.all_eq_true] at h
  refine ⟨fun i ⟨r, hr⟩ => Nat.eq_of_beq_eq_true (h.1.1 _ (zw_ hr)).1.1, fun i hi => ?_⟩
  obtain ⟨r, hr⟩ := hi
  have h2 := h.2
  split at h2
  · cases hr
  · rename_i x
    simp only [Bool.and_eq_true] at h2
    rw [show ([x] : List (Nat × Bx)) = [(x.1, x.2)] from rfl] at hr
    rw [(z2z_ hr).1]
    exact Nat.eq_of_beq_eq_true h2.1.1
  · cases h2
theorem zrz_ {d : Nat} {nr : List (Nat × Row)} {nb : List (Nat × Bx)} (h : σ.fresh d nr nb = true) (hr : ∀ i, (∃ r, lk nr i = some r) → lk σ'.rows i = none) (hb : ∀ i, (∃ r, lk nb i = some r) → lk σ'.bx i = none) : σ'.fresh d nr nb = true := by
  simp only [St.fresh, Bool.and_eq_true, List.all_eq_true] at h ⊢
  refine ⟨⟨fun x hx => ⟨(h.1.1 x hx).1, ?_⟩, h.1.2⟩, ?_⟩
  · rw [hr x.1 (zml_ hx)]
  · have h2 := h.2
    split at h2
    · rfl
    · rename_i x
      simp only [Bool.and_eq_true] at h2 ⊢
      exact ⟨h2.1, by rw [hb x.1 ⟨x.2, z3c_ _ _ _⟩]⟩
    · cases h2

structure FreeP (E : Env) (all : List Oper) (m : Nat) (base : St) (outs : List Out) : Prop where
  len : outs.length = m
  le : m ≤ all.length
  edges : z5m_ 0 all = true
  dst : ∀ j o, j < m → all[j]? = some o → ∃ d, o.dst = some d ∧ lk base.sl d = none
  dist : ∀ i j o o' d, i < m → j < m → all[i]? = some o → all[j]? = some o' → o.dst = some d → o'.dst = some d → i = j
  at_ : ∀ j, j < m → ∃ σj o x, all[j]? = some o ∧ outs[j]? = some x ∧ TrOK E all ((zx_ all []).getD j 0) j σj o x ∧ Chars base all outs j σj

theorem TrOK.ids {all : List Oper} {p i : Nat} {o : Oper} {x : Out} (h : TrOK E all p i σ o x) : (∀ k, (∃ r, lk x.2.1 k = some r) → k / 32 = zn_ o) ∧ (∀ k, (∃ r, lk x.2.2 k = some r) → k = zn_ o) := by
  rcases h with ⟨_, _, h⟩ | ⟨_, rfl⟩
  · exact zry_ h
  · exact ⟨fun k ⟨r, hr⟩ => (nomatch hr), fun k ⟨r, hr⟩ => (nomatch hr)⟩
theorem FreeP.ids {all : List Oper} {m : Nat} {base : St} {outs : List Out} (F : FreeP E all m base outs) {t : Nat} {x : Out} (ht : t < m) (hx : outs[t]? = some x) :
    ∃ o d, all[t]? = some o ∧ o.dst = some d ∧ (∀ k, (∃ r, lk x.2.1 k = some r) → k / 32 = d) ∧ (∀ k, (∃ r, lk x.2.2 k = some r) → k = d) := by
  obtain ⟨σj, o, x', h1, h2, h3, _⟩ := F.at_ t ht
  rw [hx] at h2
  cases h2
  obtain ⟨d, hd, _⟩ := F.dst t o ht h1
  have := h3.ids
  have hs : zn_ o = d := by simp [zn_, hd]
  rw [hs] at this
  exact ⟨o, d, h1, hd, this.1, this.2⟩

theorem zs0_ {all : List Oper} {m : Nat} {base : St} {outs : List Out} (F : FreeP E all m base outs) {D : Nat → Prop} {σD σj : St} (hD : Done base all outs D σD) {j p : Nat} (hj : j < m) (hp : ∀ t, p.testBit t = true → D t) (hc : Chars base all outs j σj) : Le (σj.hide (z26_ all p j)) σD := by
  have tin : ∀ t o d, t < j → all[t]? = some o → o.dst = some d → d ∉ z26_ all p j → D t := by
    intro t o d ht ho hd hn
    cases hb : p.testBit t with
    | true => exact hp t hb
    | false => exact absurd (zrw_ ht hb (by simp [z5k_, ho, hd])) hn
  constructor
  · intro s v h
    have h : lk (σj.sl.filter (fun x => !((z26_ all p j).any (Nat.beq x.1)))) s = some v := h
    rw [z6q_ (fun n => !((z26_ all p j).any (Nat.beq n)))] at h
    split at h
    · rename_i hs
      have hs := zd7_.1 hs
      rcases hc.sl s v h with h | ⟨t, o, x, ht, ho, hx, hd, rfl⟩
      · exact hD.sl s v h
      · exact hD.out t o x s (tin t o s ht ho hd hs) ho hx hd
    · cases h
  · intro s v h
    have h : lk (σj.rows.filter (fun x => !((z26_ all p j).any (Nat.beq (x.1 / 32))))) s = some v := h
    rw [z6q_ (fun n => !((z26_ all p j).any (Nat.beq (n / 32))))] at h
    split at h
    · rename_i hs
      have hs := zd7_.1 hs
      rcases hc.rows s v h with h | ⟨t, x, ht, hx, h⟩
      · exact hD.rows s v h
      · obtain ⟨o, d, ho, hd, h1, _⟩ := F.ids (Nat.lt_trans ht hj) hx
        exact hD.rowsO t x s v (tin t o d ht ho hd (by rw [← h1 s ⟨v, h⟩]; exact hs)) hx h
    · cases h
  · intro s v h
    have h : lk (σj.bx.filter (fun x => !((z26_ all p j).any (Nat.beq x.1)))) s = some v := h
    rw [z6q_ (fun n => !((z26_ all p j).any (Nat.beq n)))] at h
    split at h
    · rename_i hs
      have hs := zd7_.1 hs
      rcases hc.bx s v h with h | ⟨t, x, ht, hx, h⟩
      · exact hD.bx s v h
      · obtain ⟨o, d, ho, hd, _, h1⟩ := F.ids (Nat.lt_trans ht hj) hx
        exact hD.bxO t x s v (tin t o d ht ho hd (by rw [← h1 s ⟨v, h⟩]; exact hs)) hx h
    · cases h

theorem Done.step {all : List Oper} {m : Nat} {base : St} {outs : List Out} (F : FreeP E all m base outs) {D : Nat → Prop} {σD : St} (hD : Done base all outs D σD) (hDm : ∀ t, D t → t < m) {j : Nat} (hj : j < m) {o : Oper} {x : Out} (ho : all[j]? = some o) (hx : outs[j]? = some x)
    (hfr : (∀ k, (∃ r, lk x.2.1 k = some r) → lk σD.rows k = none) ∧ (∀ k, (∃ r, lk x.2.2 k = some r) → lk σD.bx k = none)) : Done base all outs (fun t => t = j ∨ D t) (z3d_ σD o x) := by
  obtain ⟨d, hd, hb⟩ := F.dst j o hj ho
  have hsl : ∀ s, lk (z3d_ σD o x).sl s = if d = s then some x.1 else lk σD.sl s := by
    intro s
    unfold z3d_
    rw [hd]
    simp only [St.put, zk_]
    rfl
  have hrow : ∀ k, lk (z3d_ σD o x).rows k = (lk x.2.1 k).or (lk σD.rows k) := fun k => by rw [zd5_, z1a_]
  have hbx : ∀ k, lk (z3d_ σD o x).bx k = (lk x.2.2 k).or (lk σD.bx k) := fun k => by rw [zd6_, z1a_]
  have orR : ∀ k r, lk σD.rows k = some r → lk (z3d_ σD o x).rows k = some r := by
    intro k r h
    rw [hrow]
    cases hq : lk x.2.1 k with
    | some r' => have := hfr.1 k ⟨r', hq⟩; rw [h] at this; cases this
    | none => exact h
  have orB : ∀ k r, lk σD.bx k = some r → lk (z3d_ σD o x).bx k = some r := by
    intro k r h
    rw [hbx]
    cases hq : lk x.2.2 k with
    | some r' => have := hfr.2 k ⟨r', hq⟩; rw [h] at this; cases this
    | none => exact h
  constructor
  · intro s v h
    rw [hsl]
    split
    · rename_i e; subst e; rw [hb] at h; cases h
    · exact hD.sl s v h
  · intro t o' x' d' ht ho' hx' hd'
    rw [hsl]
    by_cases htj : t = j
    · subst htj
      rw [ho] at ho'
      rw [hx] at hx'
      cases ho'; cases hx'
      rw [hd] at hd'
      cases hd'
      rw [if_pos rfl]
    · rcases ht with h | ht
      · exact absurd h htj
      · rw [if_neg (fun e => htj (F.dist t j o' o d' (hDm t ht) hj ho' ho hd' (by rw [hd, e])))]
        exact hD.out t o' x' d' ht ho' hx' hd'
  · exact fun k r h => orR k r (hD.rows k r h)
  · intro t x' k r ht hx' h
    by_cases htj : t = j
    · subst htj
      rw [hx] at hx'
      cases hx'
      rw [hrow, h]; rfl
    · rcases ht with h2 | ht
      · exact absurd h2 htj
      · exact orR k r (hD.rowsO t x' k r ht hx' h)
  · exact fun k r h => orB k r (hD.bx k r h)
  · intro t x' k r ht hx' h
    by_cases htj : t = j
    · subst htj
      rw [hx] at hx'
      cases hx'
      rw [hbx, h]; rfl
    · rcases ht with h2 | ht
      · exact absurd h2 htj
      · exact orB k r (hD.bxO t x' k r ht hx' h)
  · intro k r h
    rw [hrow] at h
    cases hq : lk x.2.1 k with
    | some r' => exact .inr ⟨j, x, r', .inl rfl, hx, hq⟩
    | none =>
      rw [hq] at h
      rcases hD.rowsB k r h with h | ⟨t, x', r', ht, h1, h2⟩
      · exact .inl h
      · exact .inr ⟨t, x', r', .inr ht, h1, h2⟩
  · intro k r h
    rw [hbx] at h
    cases hq : lk x.2.2 k with
    | some r' => exact .inr ⟨j, x, r', .inl rfl, hx, hq⟩
    | none =>
      rw [hq] at h
      rcases hD.bxB k r h with h | ⟨t, x', r', ht, h1, h2⟩
      · exact .inl h
      · exact .inr ⟨t, x', r', .inr ht, h1, h2⟩

theorem zs1_ [Glob P] {all : List Oper} {m n : Nat} {base : St} {outs : List Out} (T : zj_ P E.ti = true) (EQ : EqOK P E) (S : SpecOK P E w0 O) (F : FreeP E all m base outs) {D : Nat → Prop} {σD : St} (hD : Done base all outs D σD) (hDm : ∀ t, D t → t < m) {j : Nat} (hj : j < m) (hnj : ¬ D j)
    (hp : ∀ t, ((zx_ all []).getD j 0).testBit t = true → D t) (hB : ∀ o ∈ all, ∀ d, o.dst = some d → d < n) {a : Act} {w : World} {M : Map} (R : Rep E w0 ok O σD a.tmps w M) (hn : a.tmps.size = n) (hd : a.defers = []) {K : Act → World → Prop} {Q : Exit → Act → World → Prop}
    (hK : ∀ σ' a' w' M', Done base all outs (fun t => t = j ∨ D t) σ' → Rep E w0 ok O σ' a'.tmps w' M' → a'.tmps.size = n → a'.defers = [] → K a' w') : wpOp P all.toArray Q j K a w := by
  obtain ⟨σj, o, x, ho, hx, htr, hc⟩ := F.at_ j hj
  have hle := zs0_ F hD hj hp hc
  have hin : inB o.dst a.tmps := fun d hd => by rw [hn]; exact hB o (List.mem_of_getElem? ho) d hd
  have hoa : all.toArray[j]? = some o := by simpa using ho
  have hfr : (∀ k, (∃ r, lk x.2.1 k = some r) → lk σD.rows k = none) ∧ (∀ k, (∃ r, lk x.2.2 k = some r) → lk σD.bx k = none) := by
    obtain ⟨o', d, ho', hd', i1, i2⟩ := F.ids hj hx
    rcases htr with ⟨_, _, hf⟩ | ⟨_, rfl⟩
    · refine ⟨fun k hk => ?_, fun k hk => ?_⟩
      · cases hq : lk σD.rows k with
        | none => rfl
        | some r =>
          exfalso
          rcases hD.rowsB k r hq with h | ⟨t, x', r', ht, h1, h2⟩
          · obtain ⟨r2, hr2⟩ := hc.rows' k ⟨r, h⟩
            rw [zcr_ hf hk] at hr2; cases hr2
          · obtain ⟨o2, d2, ho2, hd2, i3, _⟩ := F.ids (hDm t ht) h1
            have e : d2 = d := (i3 k ⟨r', h2⟩).symm.trans (i1 k hk)
            subst e
            have := F.dist t j o2 o' d2 (hDm t ht) hj ho2 ho' hd2 hd'
            exact hnj (this ▸ ht)
      · cases hq : lk σD.bx k with
        | none => rfl
        | some r =>
          exfalso
          rcases hD.bxB k r hq with h | ⟨t, x', r', ht, h1, h2⟩
          · obtain ⟨r2, hr2⟩ := hc.bx' k ⟨r, h⟩
            rw [z88_ hf hk] at hr2; cases hr2
          · obtain ⟨o2, d2, ho2, hd2, _, i3⟩ := F.ids (hDm t ht) h1
            have e : d2 = d := (i3 k ⟨r', h2⟩).symm.trans (i2 k hk)
            subst e
            have := F.dist t j o2 o' d2 (hDm t ht) hj ho2 ho' hd2 hd'
            exact hnj (this ▸ ht)
    · exact ⟨fun k ⟨r, hr⟩ => (nomatch hr), fun k ⟨r, hr⟩ => (nomatch hr)⟩
  have hnext := Done.step F hD hDm hj ho hx hfr
  have wm : ∀ {b : Bool}, z2x_ all o (σj.hide (z26_ all ((zx_ all []).getD j 0) j)) (some true) (some false) = some b → z2x_ all o σD (some true) (some false) = some b := by
    intro b h
    unfold z2x_ at h ⊢
    cases hg : o.guard with
    | none => rw [hg] at h; exact h
    | some gw =>
      rw [hg] at h
      simp only [] at h ⊢
      cases hdd : z5k_ all gw.1 with
      | none => rw [hdd] at h; cases h
      | some dd =>
        rw [hdd] at h
        simp only [] at h ⊢
        cases hq : lk (σj.hide (z26_ all ((zx_ all []).getD j 0) j)).sl dd with
        | none => rw [hq] at h; cases h
        | some v => rw [hle.sl dd v hq]; rw [hq] at h; exact h
  unfold wpOp
  rw [hoa]
  simp only []
  rcases htr with ⟨hw, hpu, hf⟩ | ⟨hw, rfl⟩
  · rcases zd4_ R (wm hw) with ⟨hw1, _⟩ | ⟨_, h2⟩
    · rw [if_pos hw1]
      have hpu' : zl_ E σD o = some x := zpv_ hle hpu
      have hf' : σD.fresh (zn_ o) x.2.1 x.2.2 = true := zrz_ hf hfr.1 hfr.2
      refine .inl (zm2_ R rfl T EQ S hpu' hf' K Q fun v w' M' X => ?_)
      refine hK _ _ w' M' hnext ?_ (by rw [z1m_, z42_, hn]) (by rw [z41_]; exact hd)
      rw [z1m_]
      exact R.add hf' X hin
    · cases h2
  · rcases zd4_ R (wm hw) with ⟨_, h2⟩ | ⟨hw1, _⟩
    · cases h2
    · rw [if_neg (by rw [hw1]; simp)]
      refine hK _ _ w M hnext ?_ (by rw [z1m_, z42_, hn]) (by rw [z41_]; exact hd)
      rw [z1m_]
      exact R.putSkip hin
end
end Go.Proofs.YtibiofjkgdidmaaGreatDoor.Ev

namespace Go.Proofs.YtibiofjkgdidmaaGreatDoor.Ev
open Go.RowKit

theorem zd8_ : ∀ (n : Nat) (l : List Nat), l.Nodup → (∀ x ∈ l, x < n) → l.length ≤ n
  | 0, l, _, h => by
    cases l with
    | nil => exact Nat.le_refl _
    | cons a l => exact absurd (h a (by simp)) (Nat.not_lt_zero _)
  | n + 1, l, hn, h => by
    have h1 := zd8_ n (l.erase n) (hn.erase n) (fun x hx => by
      have := (hn.mem_erase_iff).1 hx
      have h2 := h x this.2
      have := this.1
      omega)
    by_cases hm : n ∈ l
    · rw [List.length_erase_of_mem hm] at h1; omega
    · rw [List.erase_of_not_mem hm] at h1; omega
theorem zi9_ : ∀ {l : List Nat}, l.Nodup → ∀ {i j : Nat} (hi : i < l.length) (hj : j < l.length), l[i] = l[j] → i = j
  | [], _, i, j, hi, _, _ => by simp at hi
  | a :: l, hn, 0, 0, _, _, _ => rfl
  | a :: l, hn, 0, j + 1, hi, hj, h => by
    have h1 := (List.nodup_cons.1 hn).1
    simp only [List.getElem_cons_zero, List.getElem_cons_succ] at h
    exact absurd (h ▸ List.getElem_mem _) h1
  | a :: l, hn, i + 1, 0, hi, hj, h => by
    have h1 := (List.nodup_cons.1 hn).1
    simp only [List.getElem_cons_zero, List.getElem_cons_succ] at h
    exact absurd (h ▸ List.getElem_mem _) h1
  | a :: l, hn, i + 1, j + 1, hi, hj, h => by
    have h2 := (List.nodup_cons.1 hn).2
    simp only [List.getElem_cons_succ] at h
    rw [zi9_ h2 (by simpa using hi) (by simpa using hj) h]
theorem zs2_ {D : Nat → Prop} : ∀ t, ¬ D t → ∃ s, s ≤ t ∧ ¬ D s ∧ ∀ u, u < s → D u := by
  intro t
  induction t using Nat.strongRecOn with
  | _ t ih =>
    intro ht
    by_cases h : ∀ u, u < t → D u
    · exact ⟨t, Nat.le_refl _, ht, h⟩
    · have : ∃ u, u < t ∧ ¬ D u := Classical.byContradiction fun hne => h fun u hu => Classical.byContradiction fun hd => hne ⟨u, hu, hd⟩
      obtain ⟨u, hu, hd⟩ := this
      obtain ⟨s, h1, h2, h3⟩ := ih u hu hd
      exact ⟨s, by omega, h2, h3⟩

theorem zbi_ {all : List Oper} {L : Array Bool} {i : Nat} : i ∈ Region.ready .any all.toArray L ↔ i < all.length ∧ L.getD i true = false ∧ ∀ o, all[i]? = some o → ∀ e ∈ o.after.toList, Region.binds .any e = true → L.getD e.on false = true := by
  unfold Region.ready
  rw [List.mem_filter, List.mem_range]
  simp only [List.size_toArray, Bool.and_eq_true, Bool.not_eq_true']
  refine and_congr_right fun hi => and_congr_right fun _ => ?_
  have ho : all.toArray[i]? = some all[i] := by simp [hi]
  rw [ho]
  simp only [Option.map_some, Option.getD_some]
  constructor
  · intro h o ho' e he hb
    rw [List.getElem?_eq_getElem hi] at ho'
    cases ho'
    have := Array.all_eq_true_iff_forall_mem.1 h e (Array.mem_toList_iff.1 he)
    rw [hb] at this
    simpa using this
  · intro h
    refine Array.all_eq_true_iff_forall_mem.2 fun e he => ?_
    cases hb : Region.binds .any e with
    | false => rfl
    | true =>
      have := h all[i] (List.getElem?_eq_getElem hi) e (Array.mem_toList_iff.2 he) hb
      rw [this]; rfl
theorem zbj_ {L : Array Bool} {i : Nat} (h : i < L.size) : L.getD i true = L.getD i false := by
  simp [Array.getD_eq_getD_getElem?, h]
theorem zmm_ {L : Array Bool} {i t : Nat} (h : i < L.size) : (L.setIfInBounds i true).getD t false = true ↔ t = i ∨ L.getD t false = true := by
  simp only [Array.getD_eq_getD_getElem?]
  by_cases hti : i = t
  · subst hti; simp [h]
  · rw [Array.getElem?_setIfInBounds_ne hti]
    constructor
    · exact fun h => .inr h
    · rintro (h | h)
      · exact absurd h.symm hti
      · exact h

section
variable {P : Program} {E : Env} {w0 : World} {ok O : Nat → Prop} {σ σ' : St} {tm : Array Value} {w w' : World} {M : Map} {a : Act}

theorem zmn_ [Glob P] {R0 : Type} {res : R0} (T : zj_ P E.ti = true) (EQ : EqOK P E) (S : SpecOK P E w0 O) (K : z31_ P E w0 O) {all : List Oper} {m n : Nat} (hE : z5m_ 0 all = true) (hT : ∀ j, m ≤ j → j < all.length → z5n_ j ((zx_ all []).getD j 0) = true)
    (hB : ∀ o ∈ all, ∀ d, o.dst = some d → d < n) {k : St → Option R0} {Q : Exit → Act → World → Prop} (hQ : Then E w0 ok O res n k (Q .normal)) :
    ∀ (fuel i : Nat) (L : Array Bool) (σ : St) (a : Act) (w : World) (M : Map), L.size = all.length → (∀ t, L.getD t false = true ↔ t < i) → m ≤ i → i ≤ all.length → all.length ≤ fuel + i → opsC E all i (all.drop i) σ k = some res →
      Rep E w0 ok O σ a.tmps w M → a.tmps.size = n → a.defers = [] → wpAny P .any all.toArray Q fuel L a w := by
  have hdone : ∀ (i : Nat) (L : Array Bool), L.size = all.length → (∀ t, L.getD t false = true ↔ t < i) → i = all.length → Region.ready .any all.toArray L = [] := by
    intro i L hs hL hi
    refine List.eq_nil_iff_forall_not_mem.2 fun j hj => ?_
    obtain ⟨h1, h2, _⟩ := zbi_.1 hj
    rw [zbj_ (by omega)] at h2
    have := (hL j).2 (by omega)
    rw [this] at h2; cases h2
  intro fuel
  induction fuel with
  | zero =>
    intro i L σ a w M hs hL hm hi hf h R hn hd
    have he : i = all.length := by omega
    subst he
    rw [List.drop_length] at h
    exact ⟨hdone _ L hs hL rfl, hQ σ a w M h R hn hd⟩
  | succ fuel ih =>
    intro i L σ a w M hs hL hm hi hf h R hn hd
    rcases Nat.lt_or_ge i all.length with hlt | hge
    · have hcl : zi8_ all (fun t => t < i) := fun j o hj ho e he hb => by
        have := zbh_ hE j o ho e he hb
        omega
      have hmem : i ∈ Region.ready .any all.toArray L := zbi_.2 ⟨hlt, by
        rw [zbj_ (by omega)]
        cases hq : L.getD i false with
        | false => rfl
        | true => have := (hL i).1 hq; omega, fun o ho e he hb => (hL _).2 (by have := zbh_ hE i o ho e he hb; omega)⟩
      refine ⟨fun h0 => absurd hmem (by rw [h0]; simp), fun i' hi' => ?_⟩
      obtain ⟨r1, r2, r3⟩ := zbi_.1 hi'
      rw [zbj_ (by omega)] at r2
      have hge' : i ≤ i' := by
        rcases Nat.lt_or_ge i' i with h | h
        · rw [(hL i').2 h] at r2; cases r2
        · exact h
      have : i' = i := by
        rcases Nat.lt_or_ge i i' with h | h
        · exfalso
          have := zmk_ hE hcl i' all[i'] (List.getElem?_eq_getElem r1) (fun e he hb => (hL _).1 (r3 _ (List.getElem?_eq_getElem r1) e he hb)) i (zmj_ (hT i' (by omega) r1) h)
          exact Nat.lt_irrefl _ this
        · omega
      subst this
      have hdrop : all.drop i' = all[i'] :: all.drop (i' + 1) := List.drop_eq_getElem_cons hlt
      rw [hdrop] at h
      have hia : all.toArray[i']? = some all[i'] := by simp [hlt]
      have hin : inB all[i'].dst a.tmps := fun d hd => by rw [hn]; exact hB _ (List.getElem_mem hlt) d hd
      have hL' : ∀ t, (L.setIfInBounds i' true).getD t false = true ↔ t < i' + 1 := fun t => by
        rw [zmm_ (by omega), hL t]; omega
      unfold wpOp
      rw [hia]
      simp only []
      simp only [opsC] at h
      rcases zd4_ R h with ⟨hw, h⟩ | ⟨hw, h⟩
      · rw [if_pos hw]
        refine .inl (zmf_ R T EQ S K hin hd h ?_)
        intro σ1 a1 w1 M1 h1 R1 hn1 hd1
        obtain ⟨σ2, h2, R2⟩ := zmh_ R1 h1
        exact ih (i' + 1) _ σ2 a1 w1 M1 (by simpa using hs) hL' (by omega) (by omega) (by omega) h2 R2 (by rw [hn1, hn]) hd1
      · rw [if_neg (by rw [hw]; simp)]
        refine ih (i' + 1) _ _ _ w M (by simpa using hs) hL' (by omega) (by omega) (by omega) h ?_ (by rw [z1m_, z42_, hn]) (by rw [z41_]; exact hd)
        rw [z1m_]
        exact R.putSkip hin
    · have he : i = all.length := by omega
      subst he
      rw [List.drop_length] at h
      have h0 := hdone _ L hs hL rfl
      exact ⟨fun _ => hQ σ a w M h R hn hd, fun i' hi' => by rw [h0] at hi'; cases hi'⟩

theorem zs3_ [Glob P] {R0 : Type} {res : R0} (T : zj_ P E.ti = true) (EQ : EqOK P E) (S : SpecOK P E w0 O) (K : z31_ P E w0 O) {all : List Oper} {m n : Nat} {base σ' : St} {outs : List Out} (F : FreeP E all m base outs) (hc : Chars base all outs m σ')
    (hT : ∀ j, m ≤ j → j < all.length → z5n_ j ((zx_ all []).getD j 0) = true) (hB : ∀ o ∈ all, ∀ d, o.dst = some d → d < n) {k : St → Option R0} {Q : Exit → Act → World → Prop} (hQ : Then E w0 ok O res n k (Q .normal))
    (hk : opsC E all m (all.drop m) σ' k = some res) :
    ∀ (fuel : Nat) (ds : List Nat) (L : Array Bool) (σD : St) (a : Act) (w : World) (M : Map), L.size = all.length → (∀ t, L.getD t false = true ↔ t ∈ ds) → ds.Nodup → (∀ t ∈ ds, t < m) → all.length ≤ fuel + ds.length → zi8_ all (· ∈ ds) → Done base all outs (· ∈ ds) σD →
      Rep E w0 ok O σD a.tmps w M → a.tmps.size = n → a.defers = [] → wpAny P .any all.toArray Q fuel L a w := by
  intro fuel
  induction fuel with
  | zero =>
    intro ds L σD a w M hs hL hnd hdm hf hcl hD R hn hd
    by_cases hall : ∀ t, t < m → t ∈ ds
    · have hiff : ∀ t, L.getD t false = true ↔ t < m := fun t => (hL t).trans ⟨hdm t, hall t⟩
      exact zmn_ T EQ S K F.edges hT hB hQ 0 m L σ' a w M hs hiff (Nat.le_refl _) F.le (by
        have := zd8_ m ds hnd hdm
        omega) hk (final_rep F hc hD hall R) hn hd
    · exfalso
      have : ∃ t, t < m ∧ t ∉ ds := Classical.byContradiction fun hne => hall fun t ht => Classical.byContradiction fun h => hne ⟨t, ht, h⟩
      obtain ⟨t, ht, hn'⟩ := this
      have := zd8_ m (t :: ds) (List.nodup_cons.2 ⟨hn', hnd⟩) (fun x hx => by rcases List.mem_cons.1 hx with rfl | hx; exact ht; exact hdm x hx)
      have := F.le
      simp only [List.length_cons] at *
      omega
  | succ fuel ih =>
    intro ds L σD a w M hs hL hnd hdm hf hcl hD R hn hd
    by_cases hall : ∀ t, t < m → t ∈ ds
    · have hiff : ∀ t, L.getD t false = true ↔ t < m := fun t => (hL t).trans ⟨hdm t, hall t⟩
      exact zmn_ T EQ S K F.edges hT hB hQ (fuel + 1) m L σ' a w M hs hiff (Nat.le_refl _) F.le (by
        have := zd8_ m ds hnd hdm
        omega) hk (final_rep F hc hD hall R) hn hd
    · have : ∃ t, t < m ∧ t ∉ ds := Classical.byContradiction fun hne => hall fun t ht => Classical.byContradiction fun h => hne ⟨t, ht, h⟩
      obtain ⟨t, ht, hnt⟩ := this
      obtain ⟨s, s1, s2, s3⟩ := zs2_ (D := (· ∈ ds)) t hnt
      have hsm : s < m := by omega
      have hsl : s < all.length := Nat.lt_of_lt_of_le hsm F.le
      have hmem : s ∈ Region.ready .any all.toArray L := zbi_.2 ⟨hsl, by
        rw [zbj_ (by omega)]
        cases hq : L.getD s false with
        | false => rfl
        | true => exact absurd ((hL s).1 hq) s2, fun o ho e he hb => (hL _).2 (s3 _ (by have := zbh_ F.edges s o ho e he hb; omega))⟩
      refine ⟨fun h0 => absurd hmem (by rw [h0]; simp), fun i hi => ?_⟩
      obtain ⟨r1, r2, r3⟩ := zbi_.1 hi
      rw [zbj_ (by omega)] at r2
      have hni : i ∉ ds := fun h => by rw [(hL i).2 h] at r2; cases r2
      have hp := zmk_ F.edges hcl i all[i] (List.getElem?_eq_getElem r1) (fun e he hb => (hL _).1 (r3 _ (List.getElem?_eq_getElem r1) e he hb))
      rcases Nat.lt_or_ge i m with him | him
      · refine zs1_ T EQ S F hD hdm him hni hp hB R hn hd fun σ1 a1 w1 M1 hD1 R1 hn1 hd1 => ?_
        have hD2 : Done base all outs (· ∈ i :: ds) σ1 := by
          have e : (fun t => t = i ∨ t ∈ ds) = (· ∈ i :: ds) := by funext t; simp
          rw [← e]; exact hD1
        refine ih (i :: ds) _ σ1 a1 w1 M1 (by simpa using hs) (fun t => ?_) (List.nodup_cons.2 ⟨hni, hnd⟩) (fun x hx => ?_) (by simp only [List.length_cons]; omega) ?_ hD2 R1 hn1 hd1
        · rw [zmm_ (by omega), hL t]; simp
        · rcases List.mem_cons.1 hx with rfl | hx
          · exact him
          · exact hdm x hx
        · intro j o hj ho e he hb
          rcases List.mem_cons.1 hj with rfl | hj
          · exact List.mem_cons_of_mem _ ((hL _).1 (r3 o ho e he hb))
          · exact List.mem_cons_of_mem _ (hcl j o hj ho e he hb)
      · exact absurd (hp t (zmj_ (hT i him r1) (by omega))) hnt
where
  final_rep {all : List Oper} {m : Nat} {base σ' σD : St} {outs : List Out} {ds : List Nat} {a : Act} {w : World} {M : Map} (F : FreeP E all m base outs) (hc : Chars base all outs m σ') (hD : Done base all outs (· ∈ ds) σD) (hall : ∀ t, t < m → t ∈ ds) (R : Rep E w0 ok O σD a.tmps w M) : Rep E w0 ok O σ' a.tmps w M := by
    have hle : Le σ' σD := by
      constructor
      · intro s v h
        rcases hc.sl s v h with h | ⟨t, o, x, ht, ho, hx, hd, rfl⟩
        · exact hD.sl s v h
        · exact hD.out t o x s (hall t ht) ho hx hd
      · intro s v h
        rcases hc.rows s v h with h | ⟨t, x, ht, hx, h⟩
        · exact hD.rows s v h
        · exact hD.rowsO t x s v (hall t ht) hx h
      · intro s v h
        rcases hc.bx s v h with h | ⟨t, x, ht, hx, h⟩
        · exact hD.bx s v h
        · exact hD.bxO t x s v (hall t ht) hx h
    have live : ∀ u, Live σD u → Live σ' u := fun u hu => ⟨fun i hi => by
      obtain ⟨r, hr⟩ := hu.rows i hi
      rcases hD.rowsB i r hr with h | ⟨j, x, r', hj, hx, h⟩
      · exact hc.rows' i ⟨r, h⟩
      · have hjm : j < m := by
          have := (List.getElem?_eq_some_iff.1 hx).1
          rw [F.len] at this; exact this
        exact hc.rowsO j x i hjm hx ⟨r', h⟩, fun i hi => by
      obtain ⟨r, hr⟩ := hu.boxes i hi
      rcases hD.bxB i r hr with h | ⟨j, x, r', hj, hx, h⟩
      · exact hc.bx' i ⟨r, h⟩
      · have hjm : j < m := by
          have := (List.getElem?_eq_some_iff.1 hx).1
          rw [F.len] at this; exact this
        exact hc.bxO j x i hjm hx ⟨r', h⟩⟩
    exact R.le hle (fun s v h => live v (R.liveS s v (hle.sl s v h))) (fun i b h => live b.c (R.liveB i b (hle.bx i b h)))

theorem zmo_ : ∀ {l : List Oper} {ds : List Nat}, zcl_ l = some ds → ds.length = l.length ∧ ∀ (j : Nat) (o : Oper), l[j]? = some o → ∃ d, o.dst = some d ∧ ds[j]? = some d
  | [], ds, h => by cases h; exact ⟨rfl, fun j o hj => by simp at hj⟩
  | o :: l, ds, h => by
    simp only [zcl_] at h
    split at h
    · rename_i d ds' h1 h2
      cases h
      obtain ⟨e1, e2⟩ := zmo_ h2
      refine ⟨by simp [e1], fun j o' hj => ?_⟩
      cases j with
      | zero => simp at hj; subst hj; exact ⟨d, h1, rfl⟩
      | succ j => simp only [List.getElem?_cons_succ] at hj ⊢; exact e2 j o' hj
    · cases h

theorem zs4_ [Glob P] {R0 : Type} {res : R0} (T : zj_ P E.ti = true) (EQ : EqOK P E) (S : SpecOK P E w0 O) (K : z31_ P E w0 O) (hmix : P.follows .mixedOrders = true) {all : List Oper} {n id : Nat} (hB : ∀ o ∈ all, ∀ d, o.dst = some d → d < n) {k : St → Option R0} {Q : Exit → Act → World → Prop} (hQ : Then E w0 ok O res n k (Q .normal))
    {σ : St} {a : Act} {w : World} {M : Map} (h : regC E all σ k = some res) (R : Rep E w0 ok O σ a.tmps w M) (hn : a.tmps.size = n) (hd : a.defers = []) : (Code.region id all.toArray true).wp P Q a w := by
  unfold regC at h
  simp only [] at h
  split at h
  · rename_i ds hds
    cases hb : (z2o_ ds && z5m_ 0 all) <;> rw [hb] at h
    · cases h
    · simp only [Bool.and_eq_true] at hb
      have hnd := zkz_ hb.1
      simp only [cond_true] at h
      obtain ⟨outs, σ', g1, g2, g3, g4⟩ := zi5_ _ _ _ _ h
      obtain ⟨t1, t2⟩ := zrv_ g1
      obtain ⟨d1, d2⟩ := zmo_ hds
      obtain ⟨pr, pr1, pr2⟩ := zi6_ all []
      have hlen : (zx_ all []).length = all.length := by rw [pr1]; simp [pr2]
      have hfl : ∀ (ps : List Nat) (i : Nat), z37_ ps i ≤ ps.length := by
        intro ps
        induction ps with
        | nil => intro i; exact Nat.le_refl _
        | cons p ps ih =>
          intro i
          simp only [z37_]
          have := ih (i + 1)
          split
          · cases z5n_ i p <;> simp
          · rename_i n hn; rw [hn] at this; simp; omega
      have hmle : z37_ (zx_ all []) 0 ≤ all.length := by rw [← hlen]; exact hfl _ _
      have hplen : ((zx_ all []).take (z37_ (zx_ all []) 0)).length = z37_ (zx_ all []) 0 := by rw [List.length_take, hlen]; omega
      rw [hplen] at g2 g3 g4
      rw [Nat.zero_add] at g4
      have hdtake : ds.length = z37_ (zx_ all []) 0 := by rw [d1, List.length_take]; omega
      have F : FreeP E all (z37_ (zx_ all []) 0) (σ.hideS ds) outs := by
        refine ⟨g2, hmle, hb.2, fun j o hj ho => ?_, fun i j o o' d hi hj ho ho' hd hd' => ?_, fun j hj => ?_⟩
        · obtain ⟨d, e1, e2⟩ := d2 j o (by rw [List.getElem?_take_of_lt hj]; exact ho)
          refine ⟨d, e1, ?_⟩
          show lk (σ.sl.filter (fun x => !(ds.any (Nat.beq x.1)))) d = none
          rw [z6q_ (fun n => !(ds.any (Nat.beq n))), if_neg (fun hh => zd7_.1 hh (List.mem_of_getElem? e2))]
        · obtain ⟨d3, e1, e2⟩ := d2 i o (by rw [List.getElem?_take_of_lt hi]; exact ho)
          obtain ⟨d4, e3, e4⟩ := d2 j o' (by rw [List.getElem?_take_of_lt hj]; exact ho')
          rw [hd] at e1; rw [hd'] at e3
          cases e1; cases e3
          have hi' : i < ds.length := by omega
          have hj' : j < ds.length := by omega
          have := (List.getElem?_eq_some_iff.1 e2).2.trans (List.getElem?_eq_some_iff.1 e4).2.symm
          exact zi9_ hnd hi' hj' this
        · obtain ⟨σj, o, x, p, h1, h2, h3, h4, h5⟩ := t1 j (by rw [g2]; exact hj)
          rw [Nat.zero_add] at h4
          have : (zx_ all []).getD j 0 = p := by
            rw [List.getElem?_take_of_lt hj] at h3
            rw [List.getD_eq_getElem?_getD, h3]; rfl
          rw [this]
          exact ⟨σj, o, x, h1, h2, h4, h5⟩
      have hT : ∀ j, z37_ (zx_ all []) 0 ≤ j → j < all.length → z5n_ j ((zx_ all []).getD j 0) = true := by
        intro j hj hlt
        have hget : (zx_ all [])[j]? = some (zx_ all [])[j] := List.getElem?_eq_getElem (by omega)
        have := zi7_ (zx_ all []) 0 j _ hj hget
        rw [Nat.zero_add] at this
        rw [List.getD_eq_getElem?_getD, hget]; exact this
      have R1 : Rep E w0 ok O (σ.hideS ds) a.tmps { w with drawn := w.drawn + 1 } M := by
        refine Rep.world (w := w) ?_ rfl rfl rfl rfl
        refine R.fewer (sl := σ.sl.filter (fun x => !(ds.any (Nat.beq x.1)))) fun s v h => ?_
        rw [z6q_ (fun n => !(ds.any (Nat.beq n)))] at h
        split at h
        · exact h
        · cases h
      rw [g2] at t2
      refine wp_region_any hmix ?_
      have hD0 : Done (σ.hideS ds) all outs (· ∈ ([] : List Nat)) (σ.hideS ds) :=
        ⟨fun _ _ h => h, fun j o x d hj => absurd hj (by simp), fun _ _ h => h, fun j x i r hj => absurd hj (by simp), fun _ _ h => h, fun j x i r hj => absurd hj (by simp), fun _ _ h => .inl h, fun _ _ h => .inl h⟩
      exact zs3_ T EQ S K F t2 hT hB hQ g4 all.toArray.size [] (Array.replicate all.toArray.size false) (σ.hideS ds) a _ M (by simp) (fun t => by
        simp only [Array.getD_eq_getD_getElem?, Array.getElem?_replicate]
        split <;> simp) List.nodup_nil (by simp) (by simp) (fun j o hj => by cases hj) hD0 R1 hn hd
  · cases h
end
end Go.Proofs.YtibiofjkgdidmaaGreatDoor.Ev
