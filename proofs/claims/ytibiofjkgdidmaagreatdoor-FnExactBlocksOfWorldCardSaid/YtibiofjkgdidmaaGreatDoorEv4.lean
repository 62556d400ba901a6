/- Plain values for a program that runs on a machine: an evaluator of loaded code and the proof that it tells what the machine does (part 4 of 5). No conditions: definitions and lemmas over any program. -/
import Derived.Test.YtibiofjkgdidmaaGreatDoorEv3
import Derived.Deep.LoopGhost
import Derived.KernelRfl
import Derived.ChangeArms
import Derived.ChangeShapes
import Derived.ChangeOld
import Derived.SizedLaws
import Derived.Carry
set_option linter.unusedVariables false
set_option linter.unusedSimpArgs false
namespace Go.Proofs.YtibiofjkgdidmaaGreatDoor.Ev
open Go.RowKit

theorem zd9_ : ∀ (l : List Nat) (i n : Nat), i ∈ l → ∃ k, zat_ i l n = n + k ∧ l[k]? = some i
  | [], i, n, h => by cases h
  | j :: l, i, n, h => by
    simp only [zat_, nbeq]
    by_cases hij : i = j
    · subst hij; exact ⟨0, by simp, rfl⟩
    · simp only [hij, decide_false, cond_false]
      obtain ⟨k, h1, h2⟩ := zd9_ l i (n + 1) ((List.mem_cons.1 h).resolve_left hij)
      exact ⟨k + 1, by rw [h1]; omega, h2⟩
theorem zda_ : ∀ (l acc : List Nat) (i : Nat), i ∈ l ∨ i ∈ acc → i ∈ z36_ l acc
  | [], acc, i, h => by simp [z36_]; simpa using h
  | j :: l, acc, i, h => by
    simp only [z36_]
    cases hb : acc.any (Nat.beq j)
    · simp only [cond_false]
      refine zda_ l _ i ?_
      rcases h with h | h
      · rcases List.mem_cons.1 h with rfl | h
        · exact .inr (by simp)
        · exact .inl h
      · exact .inr (by simp [h])
    · simp only [cond_true]
      refine zda_ l _ i ?_
      rcases h with h | h
      · rcases List.mem_cons.1 h with rfl | h
        · obtain ⟨x, hx, hb⟩ := List.any_eq_true.1 hb
          rw [Nat.eq_of_beq_eq_true hb]; exact .inr hx
        · exact .inl h
      · exact .inr h
theorem zs5_ {ids : List Nat} (hl : ids.length < 1000) {i j : Nat} (hi : i ∈ ids) (hj : j ∈ ids) (h : z2g_ ids i = z2g_ ids j) : i = j := by
  have key : ∀ i, i ∈ ids → i < PIN → z2g_ ids i < PIN ∧ ∃ k, z2g_ ids i = NB + k ∧ ids[k]? = some i := by
    intro i hi hp
    obtain ⟨k, h1, h2⟩ := zd9_ ids i 0 hi
    have hb : Nat.blt i PIN = true := Nat.ble_eq_true_of_le hp
    have e : z2g_ ids i = NB + k := by simp only [z2g_, hb, cond_true, h1, Nat.zero_add]
    have hk := (List.getElem?_eq_some_iff.1 h2).1
    refine ⟨?_, k, e, h2⟩
    rw [e]; simp only [NB, PIN]; omega
  have big : ∀ i, ¬ i < PIN → z2g_ ids i = i := by
    intro i hp
    have hb : Nat.blt i PIN = false := by
      cases hq : Nat.blt i PIN with
      | false => rfl
      | true => exact absurd (Nat.le_of_ble_eq_true hq) hp
    simp only [z2g_, hb, cond_false]
  by_cases h1 : i < PIN <;> by_cases h2 : j < PIN
  · obtain ⟨_, k, e1, e2⟩ := key i hi h1
    obtain ⟨_, k', e3, e4⟩ := key j hj h2
    have : k = k' := by omega
    subst this
    rw [e2] at e4
    exact Option.some.inj e4
  · have := (key i hi h1).1
    rw [h, big j h2] at this; omega
  · have := (key j hj h2).1
    rw [← h, big i h1] at this; omega
  · rw [big i h1, big j h2] at h; exact h
theorem zs6_ {ids : List Nat} (hl : ids.length < 1000) {i : Nat} (hi : i ∈ ids) (h : PIN ≤ z2g_ ids i) : z2g_ ids i = i := by
  by_cases h1 : i < PIN
  · exfalso
    obtain ⟨k, h2, h3⟩ := zd9_ ids i 0 hi
    have hb : Nat.blt i PIN = true := Nat.ble_eq_true_of_le h1
    have e : z2g_ ids i = NB + k := by simp only [z2g_, hb, cond_true, h2, Nat.zero_add]
    have hk := (List.getElem?_eq_some_iff.1 h3).1
    rw [e] at h
    simp only [NB, PIN] at h
    omega
  · have hb : Nat.blt i PIN = false := by
      cases hq : Nat.blt i PIN with
      | false => rfl
      | true => exact absurd (Nat.le_of_ble_eq_true hq) h1
    simp only [z2g_, hb, cond_false]

theorem z8e_ (f : Nat → Nat) (s : SV) : (s.ren f).roots = s.roots.map f ∧ (s.ren f).boxes = s.boxes ∧ (s.ren f).isSt = s.isSt ∧ (s.ren f).count = s.count ∧ (s.ren f).isCh = s.isCh := by
  induction s with
  | st s ih => exact ⟨ih.1, ih.2.1, rfl, rfl, rfl⟩
  | pr a b iha ihb => exact ⟨by simp [SV.ren, SV.roots, iha.1, ihb.1], by simp [SV.ren, SV.boxes, iha.2.1, ihb.2.1], rfl, rfl, rfl⟩
  | clo g s ih => exact ⟨ih.1, ih.2.1, rfl, rfl, rfl⟩
  | tup s ih => exact ⟨ih.1, ih.2.1, rfl, rfl, rfl⟩
  | cns a b iha ihb => exact ⟨by simp [SV.ren, SV.roots, iha.1, ihb.1], by simp [SV.ren, SV.boxes, iha.2.1, ihb.2.1], rfl, by simp [SV.ren, SV.count, ihb.2.2.2.1], rfl⟩
  | val t x => cases t <;> exact ⟨rfl, rfl, rfl, rfl, rfl⟩
  | _ => exact ⟨rfl, rfl, rfl, rfl, rfl⟩

section
variable {P : Program} {E : Env} {w0 : World} {ok O : Nat → Prop} {σ σ' : St} {tm : Array Value} {w w' : World} {M M' : Map} {a : Act}

structure Renm (M M' : Map) (f : Nat → Nat) (ids : List Nat) : Prop where
  loc : ∀ i ∈ ids, M'.loc (f i) = M.loc i
  blk : M'.blk = M.blk
  bn : M'.bn = M.bn
  bw : M'.bw = M.bw
theorem z2a_ {f : Nat → Nat} {ids : List Nat} (H : Renm M M' f ids) : ∀ {s : SV} {cs : List Value}, (∀ i ∈ s.roots, i ∈ ids) → RepV w0 ok M s cs → RepV w0 ok M' (s.ren f) cs
  | .val t x, cs, h, hs => by cases t <;> exact hs
  | .ref i p, cs, h, hs => by
    have e := H.loc i (h i (by simp [SV.roots]))
    simp only [SV.ren, RepV] at hs ⊢
    rw [e]; exact hs
  | .vw i lo n, cs, h, hs => by
    have e := H.loc i (h i (by simp [SV.roots]))
    simp only [SV.ren, RepV] at hs ⊢
    rw [e]; exact hs
  | .ls i, cs, h, hs => by simp only [SV.ren, RepV, H.blk, H.bn] at hs ⊢; exact hs
  | .st s, cs, h, hs => z2a_ H (s := s) h hs
  | .pr a b, cs, h, hs => by
    obtain ⟨c1, c2, rfl, h1, h2⟩ := hs
    exact ⟨c1, c2, rfl, z2a_ H (fun i hi => h i (by simp [SV.roots, hi])) h1, z2a_ H (fun i hi => h i (by simp [SV.roots, hi])) h2⟩
  | .bp i p o, cs, h, hs => by simp only [SV.ren, RepV, H.blk] at hs ⊢; exact hs
  | .ep i p n f' o, cs, h, hs => by
    have e := H.loc i (h i (by simp [SV.roots]))
    simp only [SV.ren, RepV] at hs ⊢
    rw [e]; exact hs
  | .lp i n, cs, h, hs => by simp only [SV.ren, RepV, H.blk, H.bn, H.bw] at hs ⊢; exact hs
  | .clo g c, cs, h, hs => by
    obtain ⟨caps, rfl, h1⟩ := hs
    exact ⟨caps, rfl, z2a_ H (s := c) h h1⟩
  | .no, cs, h, hs => hs
  | .un, cs, h, hs => hs
  | .tup _, _, _, h => h.elim
  | .cns _ _, _, _, h => h.elim
  | .nl, _, _, h => h.elim
theorem zs7_ {f : Nat → Nat} {ids : List Nat} (H : Renm M M' f ids) {s : SV} : ∀ {cs : List Value}, (∀ i ∈ s.roots, i ∈ ids) → RepB w0 ok M s cs → RepB w0 ok M' (s.ren f) cs := by
  induction s with
  | cns a b iha ihb =>
    intro cs h hs
    obtain ⟨c1, c2, rfl, h1, h2⟩ := hs
    exact ⟨c1, c2, rfl, z2a_ H (fun i hi => h i (by simp [SV.roots, hi])) h1, ihb (fun i hi => h i (by simp [SV.roots, hi])) h2⟩
  | nl => intro cs h hs; exact hs
  | val t x => intro cs h hs; exact zo_ (z2a_ H h hs)
  | ref i p => intro cs h hs; exact zo_ (z2a_ H h hs)
  | vw i lo n => intro cs h hs; exact zo_ (z2a_ H h hs)
  | ls i => intro cs h hs; exact zo_ (z2a_ H h hs)
  | st s _ => intro cs h hs; exact zo_ (z2a_ H (s := .st s) h hs)
  | pr a b _ _ => intro cs h hs; exact zo_ (z2a_ H (s := .pr a b) h hs)
  | bp i p o => intro cs h hs; exact zo_ (z2a_ H h hs)
  | ep i p n f o => intro cs h hs; exact zo_ (z2a_ H h hs)
  | lp i n => intro cs h hs; exact zo_ (z2a_ H h hs)
  | clo g s _ => intro cs h hs; exact zo_ (z2a_ H (s := .clo g s) h hs)
  | no => intro cs h hs; exact hs
  | un => intro cs h hs; exact hs
  | tup s _ => intro cs h hs; exact hs.elim
theorem zs8_ {f : Nat → Nat} {ids : List Nat} (H : Renm M M' f ids) {s : SV} : ∀ {vs : List Value}, (∀ i ∈ s.roots, i ∈ ids) → RepT w0 ok M s vs → RepT w0 ok M' (s.ren f) vs := by
  induction s with
  | cns a b iha ihb =>
    intro vs h hs
    obtain ⟨v, vs', rfl, ⟨cs, h1, h3⟩, h2⟩ := hs
    exact ⟨v, vs', rfl, ⟨cs, z2a_ H (fun i hi => h i (by simp [SV.roots, hi])) h1, by rw [(z8e_ f a).2.2.1]; exact h3⟩, ihb (fun i hi => h i (by simp [SV.roots, hi])) h2⟩
  | nl => intro vs h hs; exact hs
  | _ => intro vs h hs; exact hs.elim
theorem zs9_ {f : Nat → Nat} {ids : List Nat} (H : Renm M M' f ids) {s : SV} {v : Value} (h : ∀ i ∈ s.roots, i ∈ ids) (hs : RepS w0 ok M s v) : RepS w0 ok M' (s.ren f) v := by
  rcases z27_ hs with rfl | ⟨c, vs, rfl, rfl, h1⟩ | ⟨cs, h1, h2⟩
  · trivial
  · exact ⟨vs, rfl, zs8_ H h h1⟩
  · exact z17_ (z2a_ H h h1) (by unfold z1y_; rw [(z8e_ f s).2.2.1]; exact h2)

theorem zdb_ {rows : List (Nat × Row)} {f : Nat → Nat} : ∀ {l : List Nat} {j : Nat} {r : Row}, lk (z4a_ rows f l) j = some r → ∃ i ∈ l, f i = j ∧ lk rows i = some r
  | [], j, r, h => by cases h
  | i :: l, j, r, h => by
    simp only [z4a_] at h
    split at h
    · rename_i r' hr
      rw [zk_] at h
      split at h
      · rename_i e; cases h; exact ⟨i, by simp, e, hr⟩
      · obtain ⟨i', h1, h2⟩ := zdb_ h; exact ⟨i', by simp [h1], h2⟩
    · obtain ⟨i', h1, h2⟩ := zdb_ h; exact ⟨i', by simp [h1], h2⟩
theorem zmp_ {rows : List (Nat × Row)} {f : Nat → Nat} : ∀ {l : List Nat} {i : Nat} {r : Row}, i ∈ l → lk rows i = some r → ∃ r', lk (z4a_ rows f l) (f i) = some r'
  | [], i, r, h, _ => by cases h
  | j :: l, i, r, h, hr => by
    simp only [z4a_]
    by_cases hij : i = j
    · subst hij; rw [hr]; exact ⟨r, z3c_ _ _ _⟩
    · obtain ⟨r', hr'⟩ := zmp_ (f := f) ((List.mem_cons.1 h).resolve_left hij) hr
      split
      · rw [zk_]; split; exact ⟨_, rfl⟩; exact ⟨r', hr'⟩
      · exact ⟨r', hr'⟩

theorem Rep.ren (R : Rep E w0 ok O σ tm w M) {f : Nat → Nat} {ids : List Nat} (hS : ∀ s v, lk σ.sl s = some v → ∀ i ∈ v.roots, i ∈ ids) (hB : ∀ j b, lk σ.bx j = some b → ∀ i ∈ b.c.roots, i ∈ ids) (hinj : ∀ i j, i ∈ ids → j ∈ ids → f i = f j → i = j) (hpin : ∀ i ∈ ids, PIN ≤ f i → f i = i) :
    ∃ M', Rep E w0 ok O ⟨mapV (SV.ren f) σ.sl, z4a_ σ.rows f ids, mapV (fun b => ⟨b.ty, b.c.ren f⟩) σ.bx⟩ tm w M' := by
  let g : Nat → Loc := fun j => match ids.find? (fun i => Nat.beq (f i) j) with | some i => M.loc i | none => M.loc j
  have hg : ∀ i ∈ ids, g (f i) = M.loc i := by
    intro i hi
    show (match ids.find? (fun k => Nat.beq (f k) (f i)) with | some i => M.loc i | none => M.loc (f i)) = M.loc i
    cases hq : ids.find? (fun k => Nat.beq (f k) (f i)) with
    | none => have := List.find?_eq_none.1 hq i hi; simp at this
    | some k =>
      have h1 := List.mem_of_find?_eq_some hq
      have h2 : f k = f i := by have := List.find?_some hq; exact Nat.eq_of_beq_eq_true this
      rw [hinj k i h1 hi h2]
  have H : Renm M { M with loc := g } f ids := ⟨hg, rfl, rfl, rfl⟩
  have hrow : ∀ j, (∃ r, lk (z4a_ σ.rows f ids) j = some r) → ∃ i ∈ ids, f i = j ∧ ∃ r, lk σ.rows i = some r := fun j ⟨r, hr⟩ => by
    obtain ⟨i, h1, h2, h3⟩ := zdb_ hr; exact ⟨i, h1, h2, r, h3⟩
  have hbx : ∀ j b, lk (mapV (fun b : Bx => (⟨b.ty, b.c.ren f⟩ : Bx)) σ.bx) j = some b → ∃ u, lk σ.bx j = some u ∧ b = ⟨u.ty, u.c.ren f⟩ := fun j b h => by
    rw [z1n_] at h
    obtain ⟨u, h1, rfl⟩ := Option.map_eq_some_iff.1 h
    exact ⟨u, h1, rfl⟩
  have hbx1 : ∀ j, (∃ b, lk (mapV (fun b : Bx => (⟨b.ty, b.c.ren f⟩ : Bx)) σ.bx) j = some b) → ∃ b, lk σ.bx j = some b := fun j ⟨b, h⟩ => by
    obtain ⟨u, h1, _⟩ := hbx j b h; exact ⟨u, h1⟩
  have live : ∀ u, Live σ u → (∀ i ∈ u.roots, i ∈ ids) → Live ⟨mapV (SV.ren f) σ.sl, z4a_ σ.rows f ids, mapV (fun b => ⟨b.ty, b.c.ren f⟩) σ.bx⟩ (u.ren f) := fun u hu hin => ⟨fun j hj => by
      rw [(z8e_ f u).1] at hj
      obtain ⟨i, hi, rfl⟩ := List.mem_map.1 hj
      obtain ⟨r, hr⟩ := hu.rows i hi
      exact zmp_ (hin i hi) hr, fun j hj => by
      rw [(z8e_ f u).2.1] at hj
      obtain ⟨b, hb⟩ := hu.boxes j hj
      exact ⟨_, by show lk (mapV _ σ.bx) j = _; rw [z1n_, hb]; rfl⟩⟩
  refine ⟨{ M with loc := g }, ?_⟩
  constructor
  · intro s v h
    have h : lk (mapV (SV.ren f) σ.sl) s = some v := h
    rw [z1n_] at h
    obtain ⟨u, h1, rfl⟩ := Option.map_eq_some_iff.1 h
    obtain ⟨z, h2, h3⟩ := R.slots s u h1
    exact ⟨z, h2, zs9_ H (hS s u h1) h3⟩
  · intro j r h
    obtain ⟨i, h1, rfl, h3⟩ := zdb_ h
    obtain ⟨l, e1, e2⟩ := R.rows i r h3
    exact ⟨l, (hg i h1).trans e1, e2⟩
  · intro j b h
    obtain ⟨u, h1, rfl⟩ := hbx j b h
    obtain ⟨cs, h2, h3, h4⟩ := R.boxes j u h1
    exact ⟨cs, zs7_ H (hB j u h1) h2, h3, fun hc => by
      rw [(z8e_ f u.c).2.2.2.2] at hc
      rw [(z8e_ f u.c).2.2.2.1]
      exact h4 hc⟩
  · intro i j hij hi hj k hk
    obtain ⟨i', i1, rfl, i3⟩ := hrow i hi
    obtain ⟨j', j1, rfl, j3⟩ := hrow j hj
    show k ∉ z1_ (g (f j')).1 (g (f j')).2
    have hk : k ∈ z1_ (g (f i')).1 (g (f i')).2 := hk
    rw [hg i' i1] at hk
    rw [hg j' j1]
    exact R.rr i' j' (fun e => hij (by rw [e])) i3 j3 k hk
  · exact fun i j hij hi hj => R.bb i j hij (hbx1 i hi) (hbx1 j hj)
  · intro i j hi hj
    obtain ⟨i', i1, rfl, i3⟩ := hrow i hi
    show M.blk j ∉ z1_ (g (f i')).1 (g (f i')).2
    rw [hg i' i1]
    exact R.rb i' j i3 (hbx1 j hj)
  · intro i hi k hk
    obtain ⟨i', i1, rfl, i3⟩ := hrow i hi
    have hk : k ∈ z1_ (g (f i')).1 (g (f i')).2 := hk
    rw [hg i' i1] at hk
    exact R.ownR i' i3 k hk
  · exact fun i hi => R.ownB i (hbx1 i hi)
  · exact R.okB
  · intro s v h
    have h : lk (mapV (SV.ren f) σ.sl) s = some v := h
    rw [z1n_] at h
    obtain ⟨u, h1, rfl⟩ := Option.map_eq_some_iff.1 h
    exact live u (R.liveS s u h1) (hS s u h1)
  · intro j b h
    obtain ⟨u, h1, rfl⟩ := hbx j b h
    exact live u.c (R.liveB j u h1) (hB j u h1)
  · exact R.kept
  · intro i hi hr
    obtain ⟨i', i1, rfl, i3⟩ := hrow i hr
    show z7_ (g (f i')).1 (g (f i')).2 = _
    rw [hg i' i1]
    have e := hpin i' i1 hi
    rw [e] at hi ⊢
    exact R.pin i' hi i3
  · exact fun i hi hq => R.pinB i hi (hbx1 i hq)

theorem zdc_ {sl : List (Nat × SV)} : ∀ {L : List Nat} {s : Nat} {v : SV}, lk (z5o_ sl L) s = some v → lk sl s = some v
  | [], s, v, h => by cases h
  | i :: L, s, v, h => by
    simp only [z5o_] at h
    split at h
    · rename_i u hu
      rw [zk_] at h
      split at h
      · rename_i e; subst e; cases h; exact hu
      · exact zdc_ h
    · exact zdc_ h
theorem zdd_ {bx : List (Nat × Bx)} : ∀ {L : List Nat} {s : Nat} {v : Bx}, lk (z4b_ bx L) s = some v → s ∈ L ∧ lk bx s = some v
  | [], s, v, h => by cases h
  | i :: L, s, v, h => by
    simp only [z4b_] at h
    split at h
    · rename_i u hu
      rw [zk_] at h
      split at h
      · rename_i e; subst e; cases h; exact ⟨by simp, hu⟩
      · obtain ⟨h1, h2⟩ := zdd_ h; exact ⟨by simp [h1], h2⟩
    · obtain ⟨h1, h2⟩ := zdd_ h; exact ⟨by simp [h1], h2⟩
theorem zmq_ {bx : List (Nat × Bx)} : ∀ {L : List Nat} {s : Nat} {v : Bx}, s ∈ L → lk bx s = some v → ∃ v', lk (z4b_ bx L) s = some v'
  | [], s, v, h, _ => by cases h
  | i :: L, s, v, h, hv => by
    simp only [z4b_]
    by_cases e : s = i
    · subst e; rw [hv]; exact ⟨v, z3c_ _ _ _⟩
    · obtain ⟨v', h'⟩ := zmq_ ((List.mem_cons.1 h).resolve_left e) hv
      split
      · rw [zk_]; split; exact ⟨_, rfl⟩; exact ⟨v', h'⟩
      · exact ⟨v', h'⟩

theorem zsa_ (l : List Nat) : ∀ {σ : St} {j : Nat}, (∃ b, lk (l.foldl St.dropB σ).bx j = some b) → j ∉ l ∧ ∃ b, lk σ.bx j = some b := by
  induction l with
  | nil => intro σ j h; exact ⟨by simp, h⟩
  | cons i l ih =>
    intro σ j h
    obtain ⟨h1, b, h2⟩ := ih (σ := σ.dropB i) h
    refine ⟨?_, (Sub.dropB σ i).bx j b h2⟩
    simp only [List.mem_cons, not_or]
    exact ⟨zhx_ ⟨b, h2⟩, h1⟩

theorem zsb_ (R : Rep E w0 ok O σ tm w M) (L B : List Nat) : ∃ M', Rep E w0 ok O (σ.norm L B) tm w M' := by
  have R1 := R.dropsB (σ.bx.filterMap (fun x => bif B.any (Nat.beq x.1) then none else some x.1))
  have hin : ∀ j, (∃ b, lk ((σ.bx.filterMap (fun x => bif B.any (Nat.beq x.1) then none else some x.1)).foldl St.dropB σ).bx j = some b) → j ∈ B := by
    intro j hj
    obtain ⟨h1, b, h2⟩ := zsa_ _ hj
    refine Classical.byContradiction fun hn => h1 (List.mem_filterMap.2 ⟨(j, b), zw_ h2, ?_⟩)
    have : B.any (Nat.beq j) = false := by
      cases hq : B.any (Nat.beq j) with
      | false => rfl
      | true =>
        obtain ⟨x, hx, hb⟩ := List.any_eq_true.1 hq
        exact absurd (Nat.eq_of_beq_eq_true hb ▸ hx) hn
    simp [this]
  unfold St.norm
  simp only []
  generalize (σ.bx.filterMap (fun x => bif B.any (Nat.beq x.1) then none else some x.1)).foldl St.dropB σ = σ1 at R1 hin ⊢
  have R2 : Rep E w0 ok O ⟨z5o_ σ1.sl L, σ1.rows, z4b_ σ1.bx B⟩ tm w M := by
    have live : ∀ u, Live σ1 u → Live ⟨z5o_ σ1.sl L, σ1.rows, z4b_ σ1.bx B⟩ u := fun u hu => ⟨hu.rows, fun i hi => by
      obtain ⟨b, hb⟩ := hu.boxes i hi
      exact zmq_ (hin i ⟨b, hb⟩) hb⟩
    exact R1.weaken (fun s v h => ⟨⟨v, zdc_ h, .same v⟩, live v (R1.liveS s v (zdc_ h))⟩) (fun i r h => h) (fun i b h => ⟨⟨b, (zdd_ h).2, rfl, .same _⟩, live b.c (R1.liveB i b (zdd_ h).2)⟩)
  generalize hids : z36_ (σ1.rows.filterMap (fun x => bif Nat.blt x.1 PIN then none else some x.1) ++ ((z5o_ σ1.sl L).flatMap (fun x => x.2.roots) ++ (z4b_ σ1.bx B).flatMap (fun x => x.2.c.roots))) [] = ids
  cases hl : Nat.blt ids.length 1000
  · exact ⟨M, R.weaken (fun s v h => by cases h) (fun i r h => by cases h) (fun i b h => by cases h)⟩
  · have hlen : ids.length < 1000 := Nat.le_of_ble_eq_true hl
    exact R2.ren (fun s v h i hi => by
      rw [← hids]
      exact zda_ _ _ _ (.inl (List.mem_append.2 (.inr (List.mem_append.2 (.inl (List.mem_flatMap.2 ⟨(s, v), zw_ h, hi⟩))))))) (fun j b h i hi => by
      rw [← hids]
      exact zda_ _ _ _ (.inl (List.mem_append.2 (.inr (List.mem_append.2 (.inr (List.mem_flatMap.2 ⟨(j, b), zw_ h, hi⟩))))))) (fun i j hi hj h => zs5_ hlen hi hj h) (fun i hi h => zs6_ hlen hi h)
end
end Go.Proofs.YtibiofjkgdidmaaGreatDoor.Ev

namespace Go.Proofs.YtibiofjkgdidmaaGreatDoor.Ev
open Go.RowKit

section
variable {R0 : Type} {res : R0}

theorem zde_ : ∀ {p : List PK} {q : List Step} {k : PT p → Option R0}, getP p q k = some res → ∃ x, z5j_ p x = q ∧ k x = some res
  | [], [], k, h => ⟨(), rfl, h⟩
  | .ix :: p, .ix n :: q, k, h => by
    obtain ⟨x, h1, h2⟩ := zde_ (p := p) (k := fun x => k (n, x)) h
    exact ⟨(n, x), by simp [z5j_, h1], h2⟩
  | .f b :: p, .f c :: q, k, h => by
    simp only [getP] at h
    cases hb : (b == c) <;> rw [hb] at h
    · cases h
    · obtain ⟨x, h1, h2⟩ := zde_ (p := p) (k := k) h
      exact ⟨x, by simp only [z5j_, h1, eq_of_beq hb], h2⟩
  | .u :: p, .u :: q, k, h => by
    obtain ⟨x, h1, h2⟩ := zde_ (p := p) (k := k) h
    exact ⟨x, by simp [z5j_, h1], h2⟩
  | [], _ :: _, k, h => by cases h
  | .ix :: p, [], k, h => by cases h
  | .ix :: p, .f _ :: _, k, h => by cases h
  | .ix :: p, .u :: _, k, h => by cases h
  | .f b :: p, [], k, h => by cases h
  | .f b :: p, .ix _ :: _, k, h => by cases h
  | .f b :: p, .u :: _, k, h => by cases h
  | .u :: p, [], k, h => by cases h
  | .u :: p, .ix _ :: _, k, h => by cases h
  | .u :: p, .f _ :: _, k, h => by cases h
theorem zmr_ : ∀ {l m : List Bool}, zau_ l m = true → l = m
  | [], [], _ => rfl
  | a :: l, b :: m, h => by
    simp only [zau_, Bool.and_eq_true] at h
    rw [eq_of_beq h.1, zmr_ h.2]
  | [], _ :: _, h => by cases h
  | _ :: _, [], h => by cases h
theorem z8f_ {u t : Ty} {x : u.T} {k : t.T → Option R0} (h : zm_ u t x k = some res) : ∃ e : u = t, k (e ▸ x) = some res := by
  unfold zm_ at h
  split at h
  · rename_i e; exact ⟨e, h⟩
  · cases h
theorem z4z_ : ∀ {s : SK} {v : SV} {k : s.T → Option R0}, s.get v k = some res → ∃ x, s.fill x = v ∧ k x = some res
  | .val t, v, k, h => by
    simp only [SK.get] at h
    split at h
    · obtain ⟨e, h⟩ := z8f_ h; subst e; exact ⟨_, rfl, h⟩
    · cases h
  | .ref i p, v, k, h => by
    simp only [SK.get] at h
    split at h
    · rename_i j q
      cases hb : Nat.beq i j <;> rw [hb] at h
      · cases h
      · obtain ⟨x, h1, h2⟩ := zde_ h
        exact ⟨x, by simp only [SK.fill, h1, Nat.eq_of_beq_eq_true hb], h2⟩
    · cases h
  | .vw i, v, k, h => by
    simp only [SK.get] at h
    split at h
    · rename_i j a b
      cases hb : Nat.beq i j <;> rw [hb] at h
      · cases h
      · exact ⟨(a, b), by simp only [SK.fill, Nat.eq_of_beq_eq_true hb], h⟩
    · cases h
  | .ls i, v, k, h => by
    simp only [SK.get] at h
    split at h
    · rename_i j
      cases hb : Nat.beq i j <;> rw [hb] at h
      · cases h
      · exact ⟨(), by simp only [SK.fill, Nat.eq_of_beq_eq_true hb], h⟩
    · cases h
  | .st s, v, k, h => by
    simp only [SK.get] at h
    split at h
    · obtain ⟨x, h1, h2⟩ := z4z_ (s := s) (k := k) h
      exact ⟨x, by simp only [SK.fill, h1], h2⟩
    · cases h
  | .pr a b, v, k, h => by
    simp only [SK.get] at h
    split at h
    · obtain ⟨x, h1, h⟩ := z4z_ (s := a) h
      obtain ⟨y, h2, h⟩ := z4z_ (s := b) h
      exact ⟨(x, y), by simp only [SK.fill, h1, h2], h⟩
    · cases h
  | .bp i p o, v, k, h => by
    simp only [SK.get] at h
    split at h
    · rename_i j q c
      cases hb : (Nat.beq i j && (zau_ p q && Nat.beq o c)) <;> rw [hb] at h
      · cases h
      · simp only [Bool.and_eq_true] at hb
        exact ⟨(), by simp only [SK.fill, Nat.eq_of_beq_eq_true hb.1, zmr_ hb.2.1, Nat.eq_of_beq_eq_true hb.2.2], h⟩
    · cases h
  | .clo g s, v, k, h => by
    simp only [SK.get] at h
    split at h
    · rename_i g' w
      cases hb : Nat.beq g g' <;> rw [hb] at h
      · cases h
      · obtain ⟨x, h1, h2⟩ := z4z_ (s := s) (k := k) h
        exact ⟨x, by simp only [SK.fill, h1, Nat.eq_of_beq_eq_true hb], h2⟩
    · cases h
  | .tup s, v, k, h => by
    simp only [SK.get] at h
    split at h
    · obtain ⟨x, h1, h2⟩ := z4z_ (s := s) (k := k) h
      exact ⟨x, by simp only [SK.fill, h1], h2⟩
    · cases h
  | .cns a b, v, k, h => by
    simp only [SK.get] at h
    split at h
    · obtain ⟨x, h1, h⟩ := z4z_ (s := a) h
      obtain ⟨y, h2, h⟩ := z4z_ (s := b) h
      exact ⟨(x, y), by simp only [SK.fill, h1, h2], h⟩
    · cases h
  | .nl, v, k, h => by
    simp only [SK.get] at h
    split at h
    · exact ⟨(), rfl, h⟩
    · cases h
  | .no, v, k, h => by
    simp only [SK.get] at h
    split at h
    · exact ⟨(), rfl, h⟩
    · cases h
  | .un, v, k, h => by
    simp only [SK.get] at h
    split at h
    · exact ⟨(), rfl, h⟩
    · cases h

theorem zia_ {σ : List (Nat × SV)} : ∀ {l : List (Nat × SK)} {k : slT l → Option R0}, zaw_ σ l k = some res → ∃ x, k x = some res ∧ ∀ i v, (i, v) ∈ zav_ l x → lk σ i = some v
  | [], k, h => ⟨(), h, by simp [zav_]⟩
  | (i, s) :: l, k, h => by
    simp only [zaw_] at h
    split at h
    · rename_i v hv
      obtain ⟨x, h1, h⟩ := z4z_ h
      obtain ⟨y, h2, h3⟩ := zia_ h
      refine ⟨(x, y), h2, fun j u hj => ?_⟩
      rcases List.mem_cons.1 hj with e | hj
      · cases e; rw [hv, h1]
      · exact h3 j u hj
    · cases h
theorem zib_ {σ : List (Nat × Row)} : ∀ {l : List (Nat × TypeId × Ty × Bool)} {k : z7z_ l → Option R0}, zax_ σ l k = some res → ∃ x, k x = some res ∧ ∀ i v, (i, v) ∈ z83_ l x → lk σ i = some v
  | [], k, h => ⟨(), h, by simp [z83_]⟩
  | (i, e, t, z) :: l, k, h => by
    simp only [zax_] at h
    split at h
    · rename_i r hr
      cases hb : (Nat.beq r.e e && (r.z == z)) <;> rw [hb] at h
      · cases h
      · simp only [Bool.and_eq_true] at hb
        simp only [cond_true] at h
        obtain ⟨he, h⟩ := z8f_ h
        obtain ⟨y, h2, h3⟩ := zib_ h
        obtain ⟨re, rt, rx, rz⟩ := r
        have e1 : re = e := Nat.eq_of_beq_eq_true hb.1
        have e2 : rz = z := eq_of_beq hb.2
        have e3 : rt = t := by injection he
        subst e1; subst e2; subst e3
        refine ⟨(rx, y), h2, fun j u hj => ?_⟩
        rcases List.mem_cons.1 hj with q | hj
        · cases q; exact hr
        · exact h3 j u hj
    · cases h
theorem zic_ {σ : List (Nat × Bx)} : ∀ {l : List (Nat × TypeId × SK)} {k : bxT l → Option R0}, zay_ σ l k = some res → ∃ x, k x = some res ∧ ∀ i v, (i, v) ∈ z6h_ l x → lk σ i = some v
  | [], k, h => ⟨(), h, by simp [z6h_]⟩
  | (i, t, s) :: l, k, h => by
    simp only [zay_] at h
    split at h
    · rename_i b hb'
      cases hb : Nat.beq b.ty t <;> rw [hb] at h
      · cases h
      · simp only [cond_true] at h
        obtain ⟨x, h1, h⟩ := z4z_ h
        obtain ⟨y, h2, h3⟩ := zic_ h
        refine ⟨(x, y), h2, fun j u hj => ?_⟩
        rcases List.mem_cons.1 hj with q | hj
        · cases q
          rw [hb', h1, ← Nat.eq_of_beq_eq_true hb]
        · exact h3 j u hj
    · cases h

theorem z3e_ : ∀ (s : SK) (x : s.T), (s.fill x).roots = s.roots ∧ (s.fill x).boxes = s.boxes
  | .val t, x => ⟨rfl, rfl⟩
  | .ref i p, x => ⟨rfl, rfl⟩
  | .vw i, x => ⟨rfl, rfl⟩
  | .ls i, x => ⟨rfl, rfl⟩
  | .st s, x => z3e_ s x
  | .pr a b, x => ⟨by simp [SK.fill, SV.roots, SK.roots, (z3e_ a x.1).1, (z3e_ b x.2).1], by simp [SK.fill, SV.boxes, SK.boxes, (z3e_ a x.1).2, (z3e_ b x.2).2]⟩
  | .bp i p o, x => ⟨rfl, rfl⟩
  | .clo g s, x => z3e_ s x
  | .tup s, x => z3e_ s x
  | .cns a b, x => ⟨by simp [SK.fill, SV.roots, SK.roots, (z3e_ a x.1).1, (z3e_ b x.2).1], by simp [SK.fill, SV.boxes, SK.boxes, (z3e_ a x.1).2, (z3e_ b x.2).2]⟩
  | .nl, x => ⟨rfl, rfl⟩
  | .no, x => ⟨rfl, rfl⟩
  | .un, x => ⟨rfl, rfl⟩
theorem zms_ : ∀ {l : List (Nat × TypeId × Ty × Bool)} {x : z7z_ l} {i : Nat}, (l.any fun r => Nat.beq r.1 i) = true → ∃ r, lk (z83_ l x) i = some r
  | (j, e, t, z) :: l, x, i, h => by
    simp only [List.any_cons, Bool.or_eq_true] at h
    simp only [z83_]
    rw [zk_]
    split
    · exact ⟨_, rfl⟩
    · rename_i hne
      rcases h with h | h
      · exact absurd (Nat.eq_of_beq_eq_true h) hne
      · exact zms_ h
theorem zmt_ : ∀ {l : List (Nat × TypeId × SK)} {x : bxT l} {i : Nat}, (l.any fun r => Nat.beq r.1 i) = true → ∃ r, lk (z6h_ l x) i = some r
  | (j, e, t) :: l, x, i, h => by
    simp only [List.any_cons, Bool.or_eq_true] at h
    simp only [z6h_]
    rw [zk_]
    split
    · exact ⟨_, rfl⟩
    · rename_i hne
      rcases h with h | h
      · exact absurd (Nat.eq_of_beq_eq_true h) hne
      · exact zmt_ h
theorem zid_ : ∀ {l : List (Nat × SK)} {x : slT l} {i : Nat} {v : SV}, (i, v) ∈ zav_ l x → ∃ s y, (i, s) ∈ l ∧ v = SK.fill s y
  | (j, s) :: l, x, i, v, h => by
    rcases List.mem_cons.1 h with e | h
    · cases e; exact ⟨s, x.1, by simp, rfl⟩
    · obtain ⟨s', y, h1, h2⟩ := zid_ h; exact ⟨s', y, by simp [h1], h2⟩
theorem zie_ : ∀ {l : List (Nat × TypeId × SK)} {x : bxT l} {i : Nat} {b : Bx}, (i, b) ∈ z6h_ l x → ∃ t s y, (i, t, s) ∈ l ∧ b = ⟨t, SK.fill s y⟩
  | (j, t, s) :: l, x, i, v, h => by
    rcases List.mem_cons.1 h with e | h
    · cases e; exact ⟨t, s, x.1, by simp, rfl⟩
    · obtain ⟨t', s', y, h1, h2⟩ := zie_ h; exact ⟨t', s', y, by simp [h1], h2⟩
end

section
variable {P : Program} {E : Env} {w0 : World} {ok O : Nat → Prop} {σ σ' : St} {tm : Array Value} {w w' : World} {M M' : Map} {a : Act} {R0 : Type} {res : R0}

theorem zdf_ {h : Head} {x : h.T} {s : SK} {y : s.T} (hk : s.okIn h = true) : Live (h.fill x) (s.fill y) := by
  simp only [SK.okIn, Bool.and_eq_true, List.all_eq_true] at hk
  exact ⟨fun i hi => by rw [(z3e_ s y).1] at hi; exact zms_ (hk.1 i hi), fun i hi => by rw [(z3e_ s y).2] at hi; exact zmt_ (hk.2 i hi)⟩

theorem z8g_ (R : Rep E w0 ok O σ tm w M) {h : Head} (hk : h.ok = true) {k : h.T → Option R0} (hg : h.get σ k = some res) : ∃ x M', k x = some res ∧ Rep E w0 ok O (h.fill x) tm w M' := by
  unfold Head.get at hg
  simp only [] at hg
  obtain ⟨M', R'⟩ := zsb_ R (h.sl.map (·.1)) (h.bx.map (·.1))
  generalize σ.norm (h.sl.map (·.1)) (h.bx.map (·.1)) = σ1 at hg R'
  obtain ⟨x, hg, hx⟩ := zia_ hg
  obtain ⟨y, hg, hy⟩ := zib_ hg
  obtain ⟨z, hg, hz⟩ := zic_ hg
  simp only [Head.ok, Bool.and_eq_true, List.all_eq_true] at hk
  refine ⟨(x, y, z), M', hg, R'.le ⟨fun s v hv => hx s v (zw_ hv), fun s v hv => hy s v (zw_ hv), fun s v hv => hz s v (zw_ hv)⟩ (fun s v hv => ?_) (fun i b hb => ?_)⟩
  · obtain ⟨sk, y', h1, rfl⟩ := zid_ (zw_ hv)
    exact zdf_ (hk.1 _ h1)
  · obtain ⟨t, sk, y', h1, rfl⟩ := zie_ (zw_ hb)
    exact zdf_ (hk.2 _ h1)

theorem zmu_ {n : Nat} {ex : List (Nat × Head)} (hex : ex.all (fun x => x.2.ok) = true) {kx : Nat → St → Option R0} {Q : Exit → Act → World → Prop} {id : Nat} (h : Then E w0 ok O res n (kx id) (Q (.exit id))) : Then E w0 ok O res n (zcm_ ex kx id) (Q (.exit id)) := by
  intro σ a w M hk R hn hd
  unfold zcm_ at hk
  split at hk
  · rename_i hh hl
    have hok := List.all_eq_true.1 hex _ (zw_ hl)
    obtain ⟨x, M', h1, R'⟩ := z8g_ R hok hk
    exact h _ a w M' h1 R' hn hd
  · cases hk

def opsB (n : Nat) (ops : Array Oper) : Bool := ops.toList.all fun o => match o.dst with | some d => Nat.blt d n | none => true
def z3f_ (n : Nat) : Code → Bool
  | .region _ ops _ => opsB n ops
  | .seq a b => z3f_ n a && z3f_ n b
  | .cond _ a b => z3f_ n a && z3f_ n b
  | .block _ c => z3f_ n c
  | .loop c => z3f_ n c
  | _ => true
def zb_ : Code → List Code
  | .seq a b => zb_ a ++ zb_ b
  | .cond _ a b => zb_ a ++ zb_ b
  | .block _ c => zb_ c
  | .loop c => c :: zb_ c
  | _ => []
def z3g_ : Code → List Code
  | .seq a b => b :: (z3g_ a ++ z3g_ b)
  | .cond _ a b => z3g_ a ++ z3g_ b
  | .block _ c => z3g_ c
  | .loop c => z3g_ c
  | _ => []
def zc_ (E : Env) (LO : Oracles R0) (rd : St → Option R0) (b : Code) (f : St → (Nat → St → Option R0) → Option R0) : Prop :=
  ∃ (h : Head) (ex : List (Nat × Head)) (F : Nat → h.T → (Nat → St → Option R0) → Option R0) (N : Nat), h.ok = true ∧ ex.all (fun x => x.2.ok) = true ∧ (∀ x kx, F 0 x kx = none) ∧
    (∀ n x kx, F (n + 1) x kx = evC E LO rd b (h.fill x) (fun σ => h.get σ fun x' => F n x' kx) (zcm_ ex kx)) ∧ (∀ σ kx, f σ kx = h.get σ fun x => F N x kx)
def zmv_ (E : Env) (LO : Oracles R0) (rd : St → Option R0) (b : Code) (f : St → (St → Option R0) → (Nat → St → Option R0) → Option R0) : Prop :=
  ∃ (h hn : Head) (ex : List (Nat × Head)) (F : h.T → (St → Option R0) → (Nat → St → Option R0) → Option R0), h.ok = true ∧ hn.ok = true ∧ ex.all (fun x => x.2.ok) = true ∧
    (∀ x kn kx, F x kn kx = evC E LO rd b (h.fill x) (fun σ => hn.get σ fun y => kn (hn.fill y)) (zcm_ ex kx)) ∧ (∀ σ kn kx, f σ kn kx = h.get σ fun x => F x kn kx)
structure CodeOK (E : Env) (LO : Oracles R0) (rd : St → Option R0) (n : Nat) (c : Code) : Prop where
  dst : z3f_ n c = true
  loops : ∀ b ∈ zb_ c, ∀ f, LO.loop (z2q_ b) = some f → zc_ E LO rd b f
  cuts : ∀ b ∈ z3g_ c, ∀ f, LO.cut (z2q_ b) = some f → zmv_ E LO rd b f

theorem zsc_ {n : Nat} {ops : Array Oper} (h : opsB n ops = true) : ∀ o ∈ ops.toList, ∀ d, o.dst = some d → d < n := by
  intro o ho d hd
  simp only [opsB, List.all_eq_true] at h
  have := h o ho
  rw [hd] at this
  exact Nat.le_of_ble_eq_true this

theorem Then.mono {n : Nat} {k : St → Option R0} {N N' : Act → World → Prop} (h : Then E w0 ok O res n k N) (hh : ∀ a w, N a w → N' a w) : Then E w0 ok O res n k N' :=
  fun σ a w M h1 R hn hd => hh a w (h σ a w M h1 R hn hd)

theorem z3t_ [Glob P] (T : zj_ P E.ti = true) (EQ : EqOK P E) (S : SpecOK P E w0 O) (K : z31_ P E w0 O) (hmix : P.follows .mixedOrders = true) {LO : Oracles R0} {rd : St → Option R0} {n : Nat} : ∀ {c : Code}, CodeOK E LO rd n c → ∀ {kn : St → Option R0} {kx : Nat → St → Option R0} {Q : Exit → Act → World → Prop} {σ : St} {a : Act} {w : World} {M : Map},
    evC E LO rd c σ kn kx = some res → Rep E w0 ok O σ a.tmps w M → a.tmps.size = n → a.defers = [] → Then E w0 ok O res n kn (Q .normal) → (∀ id, Then E w0 ok O res n (kx id) (Q (.exit id))) → Then E w0 ok O res n rd (Q .ret) → c.wp P Q a w
  | .skip, C, kn, kx, Q, σ, a, w, M, h, R, hn, hd, hkn, hkx, hrd => wp_skip (hkn σ a w M h R hn hd)
  | .region id ops dr, C, kn, kx, Q, σ, a, w, M, h, R, hn, hd, hkn, hkx, hrd => by
    have hB := zsc_ C.dst
    cases dr with
    | false =>
      simp only [evC, cond_false] at h
      refine wp_region ?_
      have := zi4_ (P := P) T EQ S K hB hkn ops.toList 0 σ a w M rfl h R hn hd
      rw [List.range_eq_range', ← Array.length_toList]
      simpa using this
    | true =>
      simp only [evC, cond_true] at h
      have := zs4_ (P := P) (id := id) T EQ S K hmix hB hkn h R hn hd
      simpa using this
  | .seq x y, C, kn, kx, Q, σ, a, w, M, h, R, hn, hd, hkn, hkx, hrd => by
    have hC : z3f_ n x = true ∧ z3f_ n y = true := by simpa [z3f_] using C.dst
    have Cx : CodeOK E LO rd n x := ⟨hC.1, fun b hb => C.loops b (by simp [zb_, hb]), fun b hb => C.cuts b (by simp [z3g_, hb])⟩
    have Cy : CodeOK E LO rd n y := ⟨hC.2, fun b hb => C.loops b (by simp [zb_, hb]), fun b hb => C.cuts b (by simp [z3g_, hb])⟩
    simp only [evC] at h
    refine wp_seq ?_
    cases hc : LO.cut (z2q_ y) with
    | none =>
      rw [hc] at h
      simp only [] at h
      exact z3t_ T EQ S K hmix Cx h R hn hd (fun σ1 a1 w1 M1 h1 R1 hn1 hd1 => z3t_ T EQ S K hmix Cy h1 R1 hn1 hd1 hkn hkx hrd) hkx hrd
    | some f =>
      rw [hc] at h
      simp only [] at h
      obtain ⟨hh, hk, ex, F, c1, c4, c5, c2, c3⟩ := C.cuts y (by simp [z3g_]) f hc
      refine z3t_ T EQ S K hmix Cx h R hn hd (fun σ1 a1 w1 M1 h1 R1 hn1 hd1 => ?_) hkx hrd
      rw [c3] at h1
      obtain ⟨x1, M2, h2, R2⟩ := z8g_ R1 c1 h1
      rw [c2] at h2
      refine z3t_ T EQ S K hmix Cy h2 R2 hn1 hd1 (fun σ3 a3 w3 M3 h3 R3 hn3 hd3 => ?_) (fun id => zmu_ c5 (hkx id)) hrd
      obtain ⟨x4, M4, h4, R4⟩ := z8g_ R3 c4 h3
      exact hkn _ a3 w3 M4 h4 R4 hn3 hd3
  | .cond x c1 c2, C, kn, kx, Q, σ, a, w, M, h, R, hn, hd, hkn, hkx, hrd => by
    have hC : z3f_ n c1 = true ∧ z3f_ n c2 = true := by simpa [z3f_] using C.dst
    have Cx : CodeOK E LO rd n c1 := ⟨hC.1, fun b hb => C.loops b (by simp [zb_, hb]), fun b hb => C.cuts b (by simp [z3g_, hb])⟩
    have Cy : CodeOK E LO rd n c2 := ⟨hC.2, fun b hb => C.loops b (by simp [zb_, hb]), fun b hb => C.cuts b (by simp [z3g_, hb])⟩
    simp only [evC] at h
    split at h
    · rename_i p hp
      have hv := zhl_ R rfl hp
      refine wp_cond hv ?_
      split at h
      · rename_i hpt
        rw [hpt]
        exact z3t_ T EQ S K hmix Cx h R hn hd hkn hkx hrd
      · rename_i hpf
        rw [if_neg hpf]
        exact z3t_ T EQ S K hmix Cy h R hn hd hkn hkx hrd
    · cases h
  | .block id c, C, kn, kx, Q, σ, a, w, M, h, R, hn, hd, hkn, hkx, hrd => by
    have Cx : CodeOK E LO rd n c := ⟨C.dst, C.loops, C.cuts⟩
    simp only [evC] at h
    refine wp_block (z3t_ T EQ S K hmix Cx h R hn hd hkn (fun j σ1 a1 w1 M1 h1 R1 hn1 hd1 => ?_) hrd)
    simp only [nbeq] at h1
    show if j = id then Q .normal a1 w1 else Q (.exit j) a1 w1
    by_cases hj : j = id
    · rw [if_pos hj]
      simp only [hj, decide_true, cond_true] at h1
      exact hkn σ1 a1 w1 M1 h1 R1 hn1 hd1
    · rw [if_neg hj]
      simp only [hj, decide_false, cond_false] at h1
      exact hkx j σ1 a1 w1 M1 h1 R1 hn1 hd1
  | .loop c, C, kn, kx, Q, σ, a, w, M, h, R, hn, hd, hkn, hkx, hrd => by
    have Cx : CodeOK E LO rd n c := ⟨C.dst, fun b hb => C.loops b (by simp [zb_, hb]), C.cuts⟩
    simp only [evC] at h
    split at h
    · rename_i f hf
      obtain ⟨hh, ex, F, N, l1, l2, l3, l4, l5⟩ := C.loops c (by simp [zb_]) f hf
      rw [l5] at h
      obtain ⟨x, M', h1, R1⟩ := z8g_ R l1 h
      refine wp_loop_ghost (fun m a w => ∃ x M, F m x kx = some res ∧ Rep E w0 ok O (hh.fill x) a.tmps w M ∧ a.tmps.size = n ∧ a.defers = []) N ⟨x, M', h1, R1, hn, hd⟩ ?_
      intro m a1 w1 ⟨x1, M1, h2, R2, hn2, hd2⟩
      cases m with
      | zero => rw [l3] at h2; cases h2
      | succ m =>
        rw [l4] at h2
        refine z3t_ T EQ S K hmix Cx h2 R2 hn2 hd2 (fun σ3 a3 w3 M3 h3 R3 hn3 hd3 => ?_) (fun id => zmu_ l2 (hkx id)) hrd
        obtain ⟨x4, M4, h4, R4⟩ := z8g_ R3 l1 h3
        exact ⟨m, Nat.lt_succ_self m, x4, M4, h4, R4, hn3, hd3⟩
    · cases h
  | .exit id, C, kn, kx, Q, σ, a, w, M, h, R, hn, hd, hkn, hkx, hrd => wp_exit (hkx id σ a w M h R hn hd)
  | .ret, C, kn, kx, Q, σ, a, w, M, h, R, hn, hd, hkn, hkx, hrd => wp_ret (hrd σ a w M h R hn hd)
  | .goto l, C, kn, kx, Q, σ, a, w, M, h, R, hn, hd, hkn, hkx, hrd => by cases h
  | .label l, C, kn, kx, Q, σ, a, w, M, h, R, hn, hd, hkn, hkx, hrd => by cases h
end
end Go.Proofs.YtibiofjkgdidmaaGreatDoor.Ev

namespace Go.Proofs.YtibiofjkgdidmaaGreatDoor.Ev
open Go.RowKit

section
variable {P : Program} {E : Env} {w0 : World} {ok O : Nat → Prop} {σ σ' : St} {tm : Array Value} {w w' : World} {M M' : Map} {a : Act} {R0 : Type} {res : R0}

def argN : Ty → Nat
  | .un => 0
  | .pr _ b => argN b + 1
  | _ => 1
theorem z6r_ {t : Ty} {l : List SVal} {k : t.T → Option R0} (h1 : ∀ s, z1e_ t [s] k = zm_ s.t t s.x k) (h0 : z1e_ t [] k = none) (h2 : ∀ s s' l, z1e_ t (s :: s' :: l) k = none) (hn : argN t = 1) (hs : ∀ (x : t.T) i, z3x_ t x i = [(i, .val t x)])
    (h : z1e_ t l k = some res) {vs : List Value} (ha : z1s_ w ok l vs) : ∃ x, k x = some res ∧ vs.length = argN t ∧ ∀ i j s, lk (z3x_ t x i) j = some s → ∃ y, i ≤ j ∧ j < i + argN t ∧ vs[j - i]? = some y ∧ (∃ u z, s = .val u z ∧ ∃ cs, Rd w ok u z cs ∧ zu_ u y cs) := by
  match l, vs, ha with
  | [], _, _ => rw [h0] at h; cases h
  | s :: s' :: l, _, _ => rw [h2] at h; cases h
  | [s], [v], ha =>
    rw [h1] at h
    obtain ⟨e, h⟩ := z8f_ h
    obtain ⟨st, sx⟩ := s
    dsimp only at e
    subst e
    refine ⟨sx, h, by rw [hn]; rfl, fun i j s' hj => ?_⟩
    rw [hs] at hj
    obtain ⟨rfl, rfl⟩ := z2z_ hj
    exact ⟨v, Nat.le_refl _, by omega, by simp, _, _, rfl, ha.1⟩
theorem zif_ : ∀ {t : Ty} {l : List SVal} {k : t.T → Option R0} {vs : List Value}, z1e_ t l k = some res → z1s_ w ok l vs → ∃ x, k x = some res ∧ vs.length = argN t ∧ ∀ i j s, lk (z3x_ t x i) j = some s → ∃ y, i ≤ j ∧ j < i + argN t ∧ vs[j - i]? = some y ∧ (∃ u z, s = .val u z ∧ ∃ cs, Rd w ok u z cs ∧ zu_ u y cs)
  | .un, l, k, vs, h, ha => by
    match l, vs, ha with
    | [], [], _ => exact ⟨(), h, rfl, fun i j s hj => by cases hj⟩
    | _ :: _, _, _ => cases h
  | .pr a b, l, k, vs, h, ha => by
    match l, vs, ha with
    | [], _, _ => cases h
    | s :: l, v :: vs, ha =>
      simp only [z1e_] at h
      obtain ⟨e, h⟩ := z8f_ h
      obtain ⟨st, sx⟩ := s
      dsimp only at e
      subst e
      obtain ⟨y, h1, h2, h3⟩ := zif_ (t := b) h ha.2
      refine ⟨(sx, y), h1, by simp [argN, h2], fun i j s' hj => ?_⟩
      simp only [z3x_, zk_] at hj
      split at hj
      · rename_i e2
        subst e2
        cases hj
        exact ⟨v, Nat.le_refl _, by simp only [argN]; omega, by simp, _, _, rfl, ha.1⟩
      · obtain ⟨y', g1, g2, g3, g4⟩ := h3 (i + 1) j s' hj
        refine ⟨y', by omega, by simp only [argN]; omega, ?_, g4⟩
        rw [show j - i = (j - (i + 1)) + 1 by omega, List.getElem?_cons_succ]
        exact g3
  | .int i, l, k, vs, h, ha => z6r_ (fun _ => rfl) rfl (fun _ _ _ => rfl) rfl (fun _ _ => rfl) h ha
  | .bool, l, k, vs, h, ha => z6r_ (fun _ => rfl) rfl (fun _ _ _ => rfl) rfl (fun _ _ => rfl) h ha
  | .str, l, k, vs, h, ha => z6r_ (fun _ => rfl) rfl (fun _ _ _ => rfl) rfl (fun _ _ => rfl) h ha
  | .sl e t, l, k, vs, h, ha => z6r_ (fun _ => rfl) rfl (fun _ _ _ => rfl) rfl (fun _ _ => rfl) h ha
  | .st t, l, k, vs, h, ha => z6r_ (fun _ => rfl) rfl (fun _ _ _ => rfl) rfl (fun _ _ => rfl) h ha
  | .ptr t, l, k, vs, h, ha => z6r_ (fun _ => rfl) rfl (fun _ _ _ => rfl) rfl (fun _ _ => rfl) h ha
  | .fn g c, l, k, vs, h, ha => z6r_ (fun _ => rfl) rfl (fun _ _ _ => rfl) rfl (fun _ _ => rfl) h ha

def Rv (P : Program) (tm : Array Value) (w : World) (r : ResultVar) (v : Value) : Prop := match r with
  | .tmp t => tm.getD t undef = v
  | .cell a t => ∃ ad, tm.getD a undef = .pointer (some ad) ∧ (loadVar t ad).run P w = .ok v w
def Rvs (P : Program) (tm : Array Value) (w : World) : List ResultVar → List Value → Prop
  | [], [] => True
  | r :: l, v :: vs => Rv P tm w r v ∧ Rvs P tm w l vs
  | _, _ => False
theorem zmw_ {tm : Array Value} {i : Nat} {u : Value} (h : tm[i]? = some u) : tm.getD i undef = u := by rw [Array.getD_eq_getD_getElem?, h]; rfl

theorem zsd_ (t : Ty) : ∀ s : SV, Live σ s → Live σ (s.fit t) := by
  intro s hl
  induction s with
  | val u x => cases u <;> simp only [SV.fit] <;> first | exact z28_ _ _ | (cases t.isSt <;> exact z28_ _ _)
  | st s ih =>
    simp only [SV.fit]
    cases t.isSt
    · exact ih ⟨hl.rows, hl.boxes⟩
    · exact hl
  | _ => exact hl

theorem zmx_ (T : zj_ P E.ti = true) (R : Rep E w0 ok O σ tm w M) {r : ResultVar} {s : SV} (h : resV E σ r = some s) : ∃ v, Rv P tm w r v ∧ RepS w0 ok M s v := by
  cases r with
  | tmp t =>
    obtain ⟨u, hu, hS⟩ := R.slots t s h
    exact ⟨u, zmw_ hu, hS⟩
  | cell a t =>
    simp only [resV] at h
    split at h
    · rename_i j q o hs
      split at h
      · rename_i b hb
        split at h
        · rename_i s' hp
          cases hk : (Nat.beq (b.c.offP q) o && (s'.fit (E.tyOf t)).okW (E.tyOf t)) <;> rw [hk] at h
          · cases h
          · cases h
            simp only [Bool.and_eq_true] at hk
            obtain ⟨k1, k2⟩ := hk
            have k1 := Nat.eq_of_beq_eq_true k1
            obtain ⟨k3, k4, k5, _⟩ := zb7_ k2
            obtain ⟨cs', g1, g2, g3⟩ := R.boxes j b hb
            obtain ⟨u, hu, cs, h3, h4⟩ := R.slots a _ hs
            simp only [RepV] at h3
            subst h3
            have hv : u = .pointer (some ⟨M.blk j, o, none⟩) := by
              rcases h4 with ⟨h5, _⟩ | ⟨_, h5⟩
              · cases h5
              · simp only [List.cons.injEq, and_true] at h5; exact h5.symm
            have hnc : b.c.isCh = false := by
              cases hc : b.c with
              | nl =>
                rw [hc] at hp
                cases q with
                | nil => cases hp; exact absurd k4.symm k5
                | cons x y => cases hp
              | cns x y =>
                rw [hc] at hp
                cases q with
                | nil => cases hp; exact absurd k4.symm k5
                | cons x y => cases hp
              | _ => rfl
            obtain ⟨p1, p2, ds, rfl, e1, e2⟩ := z5q_ (zb2_ g1 hnc) hp
            have hf := zhh_ (t := E.tyOf t) e2
            have hcell := (zb3_ g2).mid
            rw [e1, k1, Nat.zero_add] at hcell
            obtain ⟨z, hz, hw⟩ := zb8_ (P := P) T hf k3 (by rw [RepV.len hf, k4]) k5 hcell
            exact ⟨z, ⟨_, by rw [zmw_ hu, hv], hz⟩, z17_ hf hw⟩
        · cases h
      · cases h
    · cases h

theorem zig_ (T : zj_ P E.ti = true) : ∀ {rs : List ResultVar} {t : Ty} {σ : St} {k : St → t.T → Option R0}, Rep E w0 ok O σ tm w M → outC E rs t σ k = some res →
    ∃ σ' l vs, k σ' (erase t l) = some res ∧ holds w t l ∧ plain w t l ∧ Eaten E w0 ok O σ σ' tm w M (z1_ t l) ∧ Rvs P tm w rs vs ∧ (rs.length = 0 ∧ t = .un ∨ 0 < rs.length ∧ zbc_ rs.length t l vs)
  | [], t, σ, k, R, h => by
    cases t with
    | un => exact ⟨σ, (), [], h, trivial, trivial, ⟨R, Free.nil, From.nil, Sub.refl σ⟩, trivial, .inl ⟨rfl, rfl⟩⟩
    | _ => cases h
  | r :: l, t, σ, k, R, h => by
    simp only [outC] at h
    split at h
    · rename_i s hs
      obtain ⟨u, hu, hS⟩ := zmx_ T R hs
      match l, h with
      | [], h =>
        rcases z27_ hS with rfl | ⟨c, vs, rfl, _, _⟩ | ⟨cs, h4, h5⟩
        · cases h
        · cases h
        · obtain ⟨σ1, v, x, g1, g2, g3, g4, g5, g6⟩ := z4g_ depth w0 ok O σ tm w M s cs _ R h4 h
          obtain ⟨e, g1⟩ := z8f_ g1
          subst e
          refine ⟨σ1, x, [u], g1, g2, g3, g6, ⟨hu, trivial⟩, .inr ⟨Nat.succ_pos _, u, rfl, ?_⟩⟩
          unfold zu_
          rw [← g5, g4]; exact h5
      | r2 :: l2, h =>
        cases t with
        | pr a b =>
          rcases z27_ hS with rfl | ⟨c, vs, rfl, _, _⟩ | ⟨cs, h4, h5⟩
          · cases h
          · cases h
          · obtain ⟨σ1, v, x, g1, g2, g3, g4, g5, g6⟩ := z4g_ depth w0 ok O σ tm w M s cs _ R h4 h
            obtain ⟨e, g1⟩ := z8f_ g1
            subst e
            obtain ⟨σ2, y, vs, k1, k2, k3, k4, k7, k5⟩ := zig_ T (rs := r2 :: l2) (t := b) g6.rep g1
            refine ⟨σ2, (x, y), u :: vs, k1, ⟨g2, k2⟩, ⟨g3, k3⟩, ⟨k4.rep, g6.free.append k4.free k4.sub k4.src, g6.src.append k4.src g6.sub, k4.sub.trans g6.sub⟩, ⟨hu, k7⟩, .inr ⟨Nat.succ_pos _, ?_⟩⟩
            rcases k5 with ⟨h9, _⟩ | ⟨_, k6⟩
            · simp at h9
            · refine ⟨u, vs, rfl, ?_, k6⟩
              unfold zu_
              rw [← g5, g4]; exact h5
        | _ => cases h
    · cases h

theorem zdg_ {fn : Func} {rs : List ResultVar} (h : fn.results.toList = rs) {tm : Array Value} {w : World} {vs : List Value} (hv : Rvs P tm w rs vs) : (results fn tm).run P w = .ok (if h : vs.toArray.size = 1 then vs.toArray[0] else .tuple vs.toArray) w := by
  have hm : ∀ (l : List ResultVar) (vs : List Value), Rvs P tm w l vs → (l.mapM (m := Sem) fun | .tmp t => pure (tm.getD t undef) | .cell a t => do loadVar t (← asAddr (tm.getD a undef))).run P w = .ok vs w := by
    intro l
    induction l with
    | nil => intro vs hv; match vs, hv with | [], _ => rfl
    | cons r l ih =>
      intro vs hv
      match vs, hv with
      | v :: vs, hv =>
        have e := ih vs hv.2
        have hr : ((fun | .tmp t => pure (tm.getD t undef) | .cell a t => do loadVar t (← asAddr (tm.getD a undef)) : ResultVar → Sem Value) r).run P w = .ok v w := by
          cases r with
          | tmp t => have h1 : tm.getD t undef = v := hv.1; simp only [h1]; rfl
          | cell a t =>
            obtain ⟨ad, h1, h2⟩ := hv.1
            simp only [h1, asAddr, Sem.run_bind, Sem.run_pure, Result.andThen_ok]
            exact h2
        simp only [List.mapM_cons, Sem.run_bind, hr, Result.andThen_ok, e, Sem.run_pure]
  have hA : (fn.results.mapM (m := Sem) fun | .tmp t => pure (tm.getD t undef) | .cell a t => do loadVar t (← asAddr (tm.getD a undef))).run P w = .ok vs.toArray w := by
    rw [Array.mapM_eq_mapM_toList, h]
    have e := hm rs vs hv
    show (Sem.bind _ _).run P w = _
    rw [show ∀ (x : Sem (List Value)) (f : List Value → Sem (Array Value)), (Sem.bind x f).run P w = (x.run P w).andThen fun a w' => (f a).run P w' from fun x f => Sem.run_bind (P := P) (x := x) (f := f) (w := w), e]
    rfl
  unfold results
  rw [Sem.run_bind]
  exact (congrArg (fun z => Result.andThen z _) hA).trans rfl
end
end Go.Proofs.YtibiofjkgdidmaaGreatDoor.Ev

namespace Go.Proofs.YtibiofjkgdidmaaGreatDoor.Ev
open Go.RowKit

section
variable {P : Program} {E : Env} {w0 : World} {ok O : Nat → Prop} {σ σ' : St} {tm : Array Value} {w w' : World} {M M' : Map} {a : Act} {R0 : Type} {res : R0}

theorem z60_ {g : FuncId} {fn : Func} {c : Code} (hf : P.funcs[g]? = some fn) (hb : fn.body = some c) (hn : (fn.name == "runtime.NumGoroutine") = false) (vs : Array Value) (w : World) : (callFunc g vs).run P w = .ok (.enter g vs) w := by
  have hp : (program : Sem Program).run P w = .ok P w := rfl
  unfold callFunc
  rw [Sem.run_bind, hp]
  simp only [Result.andThen_ok, hf, hn, hb, Option.isNone_some, Bool.false_eq_true, if_false]
  rfl

structure FnR (P : Program) (E : Env) (g : FuncId) (ts : Ty) (n : Nat) (t : Ty) (F : ts.T → Option t.T) : Prop where
  ex : ∃ (fn : Func) (c : Code) (rs : List ResultVar) (LO : Oracles t.T), P.funcs[g]? = some fn ∧ fn.body = some c ∧ (fn.name == "runtime.NumGoroutine") = false ∧ fn.results.toList = rs ∧ rs.length = n ∧ argN ts ≤ fn.ntmps ∧
    CodeOK E LO (rdC E rs t) fn.ntmps c ∧ ∀ x, evC E LO (rdC E rs t) c ⟨z3x_ ts x 0, [], []⟩ (rdC E rs t) (fun _ _ => none) = F x

theorem zse_ (hok : ∀ k, ok k → k < w.heap.size) {ts : Ty} {x : ts.T} {vs : List Value} (h : ∀ i j s, lk (z3x_ ts x i) j = some s → ∃ y, i ≤ j ∧ j < i + argN ts ∧ vs[j - i]? = some y ∧ (∃ u z, s = .val u z ∧ ∃ cs, Rd w ok u z cs ∧ zu_ u y cs)) (m : Nat) :
    Rep E w ok (fun _ => False) ⟨z3x_ ts x 0, [], []⟩ (vs.toArray ++ Array.replicate m undef) w ⟨fun _ => ⟨.un, ()⟩, fun _ => 0, fun _ => 0, fun _ => 0⟩ where
  slots := fun s v hv => by
    obtain ⟨y, _, h2, h3, u, z, rfl, cs, h5, h6⟩ := h 0 s v hv
    rw [Nat.sub_zero] at h3
    have hlt := (List.getElem?_eq_some_iff.1 h3).1
    refine ⟨y, ?_, z17_ (s := .val u z) h5 (by unfold z1y_; rw [z5t_]; exact h6)⟩
    rw [Array.getElem?_append_left (by simpa using hlt)]
    simpa using h3
  rows := fun i r hr => by cases hr
  boxes := fun i b hb => by cases hb
  rr := fun i j _ ⟨r, hr⟩ => by cases hr
  bb := fun i j _ ⟨r, hr⟩ => by cases hr
  rb := fun i j ⟨r, hr⟩ => by cases hr
  ownR := fun i ⟨r, hr⟩ => by cases hr
  ownB := fun i ⟨r, hr⟩ => by cases hr
  okB := fun k hk => ⟨hok k hk, fun h => h⟩
  liveS := fun s v hv => by
    obtain ⟨y, _, _, _, u, z, rfl, _⟩ := h 0 s v hv
    exact z28_ u z
  liveB := fun i b hb => by cases hb
  kept := Kept.refl _ _
  pin := fun i _ ⟨r, hr⟩ => by cases hr
  pinB := fun i _ ⟨r, hr⟩ => by cases hr

theorem zsf_ {ts : Ty} {x : ts.T} {vs : List Value} (h : ∀ i j s, lk (z3x_ ts x i) j = some s → ∃ y, i ≤ j ∧ j < i + argN ts ∧ vs[j - i]? = some y ∧ (∃ u z, s = .val u z ∧ ∃ cs, Rd w (Lt w) u z cs ∧ zu_ u y cs)) (m : Nat) :
    Rep E w (Lt w) (fun _ => False) ⟨z3x_ ts x 0, [], []⟩ (vs.toArray ++ Array.replicate m undef) w ⟨fun _ => ⟨.un, ()⟩, fun _ => 0, fun _ => 0, fun _ => 0⟩ where
  slots := fun s v hv => by
    obtain ⟨y, _, h2, h3, u, z, rfl, cs, h5, h6⟩ := h 0 s v hv
    rw [Nat.sub_zero] at h3
    have hlt := (List.getElem?_eq_some_iff.1 h3).1
    refine ⟨y, ?_, z17_ (s := .val u z) h5 (by unfold z1y_; rw [z5t_]; exact h6)⟩
    rw [Array.getElem?_append_left (by simpa using hlt)]
    simpa using h3
  rows := fun i r hr => by cases hr
  boxes := fun i b hb => by cases hb
  rr := fun i j _ ⟨r, hr⟩ => by cases hr
  bb := fun i j _ ⟨r, hr⟩ => by cases hr
  rb := fun i j ⟨r, hr⟩ => by cases hr
  ownR := fun i ⟨r, hr⟩ => by cases hr
  ownB := fun i ⟨r, hr⟩ => by cases hr
  okB := fun k hk => ⟨hk, fun h => h⟩
  liveS := fun s v hv => by
    obtain ⟨y, _, _, _, u, z, rfl, _⟩ := h 0 s v hv
    exact z28_ u z
  liveB := fun i b hb => by cases hb
  kept := Kept.refl _ _
  pin := fun i _ ⟨r, hr⟩ => by cases hr
  pinB := fun i _ ⟨r, hr⟩ => by cases hr

theorem zih_ {tm : Array Value} : ∀ {rs : List ResultVar} {vs : List Value}, Rvs P tm w rs vs → vs.length = rs.length
  | [], [], _ => rfl
  | r :: l, v :: vs, h => by simp [zih_ h.2]
  | [], _ :: _, h => h.elim
  | _ :: _, [], h => h.elim
theorem zmy_ {n m : Nat} {t : Ty} {l : L t} {vs : List Value} (hl : vs.length = m) (hn : m = n) (h : m = 0 ∧ t = .un ∨ 0 < m ∧ zbc_ m t l vs) :
    zbd_ n t l (if h : vs.toArray.size = 1 then vs.toArray[0] else .tuple vs.toArray) := by
  subst hn
  subst hl
  unfold zbd_
  match vs, h with
  | [], h => exact ⟨_, rfl, rfl⟩
  | [v], .inr ⟨_, v', hv, hw⟩ =>
    cases hv
    exact hw
  | [v], .inl h => simp at h
  | v :: v2 :: vs, .inr ⟨_, h⟩ =>
    rw [if_neg (by simp)]
    refine ⟨_, dif_neg (by simp), by simpa using h⟩
  | v :: v2 :: vs, .inl h => simp at h

theorem FnR.does [Glob P] (T : zj_ P E.ti = true) (EQ : EqOK P E) {w : World} (S : SpecOK P E w (fun _ => False)) (K : z31_ P E w (fun _ => False)) (hmix : P.follows .mixedOrders = true) {g : FuncId} {ts : Ty} {n : Nat} {t : Ty} {F : ts.T → Option t.T} (H : FnR P E g ts n t F)
    {args : List SVal} {vs : List Value} (ha : Args w args vs) {x : ts.T} (hx : z1e_ ts args some = some x) {r : t.T} (hr : F x = some r) : Does P g vs.toArray w (Ret w n t r) := by
  obtain ⟨fn, c, rs, LO, h1, h2, h3, h4, h5, h6, h7, h8⟩ := H.ex
  unfold Does
  rw [z60_ h1 h2 h3]
  simp only []
  obtain ⟨x', hx', hlen, hsl⟩ := zif_ hx ha
  cases hx'
  refine calls_of_wp h1 h2 ?_
  have hrd : ∀ e : Exit, (e = .normal ∨ e = .ret) → Then E w (Lt w) (fun _ => False) r fn.ntmps (rdC E rs t) (bodyPost P fn (fun | .returned v, w'' => Ret w n t r v w'' | _, _ => False) e) := by
    intro e he σ1 a1 w1 M1 hk R1 hn1 hd1
    obtain ⟨σ2, l, vs2, g1, g2, g3, g4, g6, g5⟩ := zig_ T R1 hk
    have hb : a1.defers = [] ∧ ∃ v, (results fn a1.tmps).run P w1 = .ok v w1 ∧ Ret w n t r v w1 := by
      refine ⟨hd1, _, zdg_ h4 g6, l, ?_, g2, g3, g4.free.nd, fun k hk => ?_, zmy_ (zih_ g6) h5 g5, R1.kept⟩
      · have := Option.some.inj g1
        rw [← this]
      · rcases (g4.free.own k hk).2 with h | h
        · exact h.elim
        · exact h
    rcases he with rfl | rfl
    · exact hb
    · exact hb
  have hev := h8 x
  rw [hr] at hev
  refine z3t_ T EQ S K hmix h7 hev (zsf_ hsl (fn.ntmps - vs.toArray.size)) (by simp only [Array.size_append, Array.size_replicate, List.size_toArray, hlen]; omega) rfl (hrd _ (.inl rfl)) (fun id => ?_) (hrd _ (.inr rfl))
  intro σ1 a1 w1 M1 hk
  cases hk
end
end Go.Proofs.YtibiofjkgdidmaaGreatDoor.Ev

namespace Go.Proofs.YtibiofjkgdidmaaGreatDoor.Ev
open Go.RowKit

section
variable {P : Program} {R0 : Type} {res : R0}

theorem zii_ : ∀ (t : Ty) (l : List SVal) {R : Type} (k : t.T → Option R), z1e_ t l k = (z1e_ t l some).bind k
  | .un, [], R, k => rfl
  | .un, _ :: _, R, k => rfl
  | .pr a b, [], R, k => rfl
  | .pr a b, s :: l, R, k => by
    simp only [z1e_]
    rw [z3y_, z3y_ s.t a s.x (fun x => z1e_ b l fun y => some (x, y)), Option.bind_assoc]
    congr 1
    funext x
    rw [zii_ b l, zii_ b l (fun y => some (x, y)), Option.bind_assoc]
    rfl
  | .int i, l, R, k => by match l with | [] => rfl | [s] => exact z3y_ _ _ _ _ | _ :: _ :: _ => rfl
  | .bool, l, R, k => by match l with | [] => rfl | [s] => exact z3y_ _ _ _ _ | _ :: _ :: _ => rfl
  | .str, l, R, k => by match l with | [] => rfl | [s] => exact z3y_ _ _ _ _ | _ :: _ :: _ => rfl
  | .sl e t, l, R, k => by match l with | [] => rfl | [s] => exact z3y_ _ _ _ _ | _ :: _ :: _ => rfl
  | .st t, l, R, k => by match l with | [] => rfl | [s] => exact z3y_ _ _ _ _ | _ :: _ :: _ => rfl
  | .ptr t, l, R, k => by match l with | [] => rfl | [s] => exact z3y_ _ _ _ _ | _ :: _ :: _ => rfl
  | .fn g c, l, R, k => by match l with | [] => rfl | [s] => exact z3y_ _ _ _ _ | _ :: _ :: _ => rfl

def FnOK (P : Program) [Glob P] (g : FuncId) (fe : FE) : Prop := (fe.n ≠ RON → ∀ args vs w x r, Glob.ok P w → Args w args vs → z1e_ fe.ts args some = some x → fe.F x = some r → Does P g vs.toArray w (Ret w fe.n fe.t r)) ∧
  (fe.n = RON → ∀ args vs w ok x r, Glob.ok P w → (∀ k, ok k → k < w.heap.size) → z1s_ w ok args vs → z1e_ fe.ts args some = some x → fe.F x = some r → Does P g vs.toArray w (RetR w ok fe.t r))
theorem FnOK.new {P : Program} [Glob P] {g : FuncId} {fe : FE} (hn : Nat.beq fe.n RON = false) (h : ∀ args vs w x r, Glob.ok P w → Args w args vs → z1e_ fe.ts args some = some x → fe.F x = some r → Does P g vs.toArray w (Ret w fe.n fe.t r)) : FnOK P g fe :=
  ⟨fun _ => h, fun e => by rw [e] at hn; simp at hn⟩
theorem zij_ [Glob P] : ∀ {tab : List (Nat × FE)}, (∀ e ∈ tab, FnOK P e.1 e.2) → ∀ {g : Nat} {args : List SVal} {n : Nat} {t : Ty} {r : t.T}, z85_ tab g args = some ⟨n, t, some r⟩ → ∃ fe x, FnOK P g fe ∧ fe.n = n ∧ ∃ e : fe.t = t, z1e_ fe.ts args some = some x ∧ fe.F x = some (e ▸ r)
  | [], _, g, args, n, t, r, h => by cases h
  | (g', fe) :: l, H, g, args, n, t, r, h => by
    simp only [z85_] at h
    have ih : z85_ l g args = some ⟨n, t, some r⟩ → _ := fun h => zij_ (tab := l) (fun e he => H e (List.mem_cons_of_mem _ he)) h
    cases hb : Nat.beq g' g <;> rw [hb] at h
    · exact ih h
    · have hg := Nat.eq_of_beq_eq_true hb
      subst hg
      simp only [cond_true] at h
      rw [zii_] at h
      cases hx : z1e_ fe.ts args some with
      | none => rw [hx] at h; exact ih h
      | some x =>
        rw [hx] at h
        simp only [Option.bind_some, Option.some.injEq] at h
        have e1 : fe.n = n := congrArg CR.n h
        have e2 : fe.t = t := congrArg CR.t h
        subst e1; subst e2
        injection h with _ _ h4
        exact ⟨fe, x, H (g', fe) (List.mem_cons_self), rfl, rfl, hx, h4⟩
theorem SpecOK.of [Glob P] {ti : List TI} {tab : List (Nat × FE)} {opn : Nat → Option (FuncId × OC)} {pins : Nat → Value} {pinB : Nat → Nat} (H : ∀ e ∈ tab, FnOK P e.1 e.2)  {w0 : World} {O : Nat → Prop} (G : z3r_ P w0 O) : SpecOK P (z3_ ti tab opn pins pinB) w0 O :=
  ⟨fun g args n t r hc hn w vs hkp ha => by
      obtain ⟨fe, x, h1, h2, h3, h4, h5⟩ := zij_ H hc
      subst h2
      subst h3
      exact h1.1 hn args vs w x r (G.now hkp) ha h4 h5,
    fun g args t r hc w ok vs hkp hk ha => by
      obtain ⟨fe, x, h1, h2, h3, h4, h5⟩ := zij_ H hc
      subst h3
      exact h1.2 h2 args vs w ok x r (G.now hkp) hk ha h4 h5⟩
theorem FnR.contract [Glob P] {ti : List TI} {tab : List (Nat × FE)} {opn : Nat → Option (FuncId × OC)} {pins : Nat → Value} {pinB : Nat → Nat} (T : zj_ P ti = true) (EQ : EqOK P (z3_ ti tab opn pins pinB)) (K : ∀ w, z3r_ P w (fun _ => False) → z31_ P (z3_ ti tab opn pins pinB) w (fun _ => False)) (hmix : P.follows .mixedOrders = true) (S : ∀ e ∈ tab, FnOK P e.1 e.2) {g : FuncId} {ts : Ty} {n : Nat} {t : Ty} {F : ts.T → Option t.T}
    (H : FnR P (z3_ ti tab opn pins pinB) g ts n t F) (hn : Nat.beq n RON = false) : FnOK P g ⟨ts, n, t, F⟩ :=
  ⟨fun _ args vs w x r G ha hx hr => H.does T EQ (SpecOK.of S (.new G)) (K w (.new G)) hmix ha hx hr, fun e => by have e : n = RON := e; rw [e] at hn; simp at hn⟩
end
end Go.Proofs.YtibiofjkgdidmaaGreatDoor.Ev

namespace Go.Proofs.YtibiofjkgdidmaaGreatDoor.Ev
open Go.RowKit

def Ty.ht : Ty → Nat
  | .st t => t.ht + 1
  | .pr a b => max a.ht b.ht
  | _ => 1
section
variable {P : Program} {E : Env} {w : World}

theorem zdh_ (T : zj_ P E.ti = true) {f : TypeId} (h0 : (E.tyOf f).sz ≠ 0) {w1 : World} {okk : Nat → Prop} {x : (E.tyOf f).T} {p a c : List Value} (hr : Rd w1 okk (E.tyOf f) x a) : ∃ v, (part f (p ++ a ++ c).toArray p.length).run P w = .ok v w ∧ zu_ (E.tyOf f) v a := by
  obtain ⟨ti, k1, k2, k3⟩ := z2t_ T h0
  obtain ⟨m1, m2, _⟩ := z6l_ T k1 k3 w
  rw [k2] at m1 m2
  have hl := Rd.len hr
  unfold part
  cases hst : (E.tyOf f).isSt with
  | true =>
    rw [hst] at m1
    refine ⟨.agg a.toArray, ?_, .inl ⟨hst, rfl⟩⟩
    simp only [Sem.run_bind, m1, Result.andThen_ok, if_true, m2, Sem.run_pure]
    congr 2
    rw [← hl]
    apply Array.ext'
    simp
  | false =>
    rw [hst] at m1
    have h1 := zlg_ T h0 hst
    rw [h1] at hl
    match a, hl with
    | [v], _ =>
      refine ⟨v, ?_, .inr ⟨hst, rfl⟩⟩
      simp only [Sem.run_bind, m1, Result.andThen_ok, Bool.false_eq_true, if_false]
      have : (p ++ [v] ++ c).toArray[p.length]? = some v := by simp
      rw [this]
      rfl

def EqAt (P : Program) (E : Env) (d : Nat) : Prop := ∀ (t : TypeId), (E.tyOf t).flat = true → (E.tyOf t).ht ≤ d → ∀ (w : World) (x y : (E.tyOf t).T) (cs ds : List Value) (ok ok' : Nat → Prop) (vx vy : Value),
  Rd w ok (E.tyOf t) x cs → Rd w ok' (E.tyOf t) y ds → zu_ (E.tyOf t) vx cs → zu_ (E.tyOf t) vy ds → ∃ b, (Op.equalIn d t vx vy).run P w = .ok b w ∧ (b = true ↔ x = y)

theorem zmz_ (T : zj_ P E.ti = true) {d : Nat} (H : EqAt P E d) {w : World} {ok ok' : Nat → Prop} : ∀ (fl : List Field) (n : Nat) (u : Ty), z2s_ E.ti (fl.map fun f => (f.type, f.offset)) n = some u → u.flat = true → u.ht ≤ d → (∀ f ∈ fl, f.name ≠ "_") →
    ∀ (x y : u.T) (p p' cs ds : List Value), p.length = n → p'.length = n → Rd w ok u x cs → Rd w ok' u y ds → ∃ b, (Op.eqFields d (p ++ cs).toArray (p' ++ ds).toArray fl).run P w = .ok b w ∧ (b = true ↔ x = y)
  | [], n, u, h, _, _, _, _, _, _, _, _, _, _, _, _, _ => by cases h
  | [f], n, u, h, hf, hh, hnm, x, y, p, p', cs, ds, hp, hp', hx, hy => by
    simp only [List.map_cons, List.map_nil, z2s_] at h
    cases hb : (Nat.beq f.offset n && !Nat.beq (tyAt E.ti f.type).sz 0) <;> rw [hb] at h
    · cases h
    · cases h
      simp only [Bool.and_eq_true, Bool.not_eq_true'] at hb
      have ho := Nat.eq_of_beq_eq_true hb.1
      have h0 : (E.tyOf f.type).sz ≠ 0 := z3p_ hb.2
      obtain ⟨v1, e1, e2⟩ := zdh_ (w := w) (p := p) (c := []) T h0 hx
      obtain ⟨v2, e3, e4⟩ := zdh_ (w := w) (p := p') (c := []) T h0 hy
      rw [List.append_nil, hp, ← ho] at e1
      rw [List.append_nil, hp', ← ho] at e3
      obtain ⟨b, e5, e6⟩ := H f.type hf hh w x y cs ds ok ok' v1 v2 hx hy e2 e4
      refine ⟨b, ?_, e6⟩
      simp only [Op.eqFields]
      rw [if_pos (hnm f (by simp))]
      simp only [Sem.run_bind, e1, Result.andThen_ok, e3, e5]
      cases b <;> simp
  | f :: f2 :: fl, n, u, h, hf, hh, hnm, x, y, p, p', cs, ds, hp, hp', hx, hy => by
    simp only [List.map_cons, z2s_] at h
    cases hb : (Nat.beq f.offset n && !Nat.beq (tyAt E.ti f.type).sz 0) <;> rw [hb] at h
    · cases h
    · simp only [cond_true] at h
      split at h
      · rename_i u' hu
        cases h
        simp only [Bool.and_eq_true, Bool.not_eq_true'] at hb
        simp only [Ty.flat, Bool.and_eq_true] at hf
        simp only [Ty.ht] at hh
        have ho := Nat.eq_of_beq_eq_true hb.1
        have h0 : (E.tyOf f.type).sz ≠ 0 := z3p_ hb.2
        obtain ⟨c1, c2, rfl, x1, x2⟩ := hx
        obtain ⟨d1, d2, rfl, y1, y2⟩ := hy
        obtain ⟨v1, e1, e2⟩ := zdh_ (w := w) (p := p) (c := c2) T h0 x1
        obtain ⟨v2, e3, e4⟩ := zdh_ (w := w) (p := p') (c := d2) T h0 y1
        rw [hp, ← ho, List.append_assoc] at e1
        rw [hp', ← ho, List.append_assoc] at e3
        obtain ⟨b, e5, e6⟩ := H f.type hf.1 (Nat.le_trans (Nat.le_max_left _ _) hh) w x.1 y.1 c1 d1 ok ok' v1 v2 x1 y1 e2 e4
        have l1 : (p ++ c1).length = n + (tyAt E.ti f.type).sz := by rw [List.length_append, hp, Rd.len x1]
        have l2 : (p' ++ d1).length = n + (tyAt E.ti f.type).sz := by rw [List.length_append, hp', Rd.len y1]
        obtain ⟨b2, g1, g2⟩ := zmz_ T H (f2 :: fl) (n + (tyAt E.ti f.type).sz) u' hu hf.2 (Nat.le_trans (Nat.le_max_right _ _) hh) (fun q hq => hnm q (by simp only [List.mem_cons] at hq ⊢; exact .inr hq)) x.2 y.2 (p ++ c1) (p' ++ d1) c2 d2 l1 l2 x2 y2
        rw [List.append_assoc, List.append_assoc] at g1
        refine ⟨b && b2, ?_, ?_⟩
        · rw [Op.eqFields, if_pos (hnm f (by simp))]
          simp only [Sem.run_bind, e1, Result.andThen_ok, e3, e5]
          cases b with
          | false => simp
          | true => simp only [Bool.not_true, Bool.false_eq_true, if_false, Bool.true_and]; exact g1
        · rw [Bool.and_eq_true, e6, g2]
          constructor
          · rintro ⟨h1, h2⟩; exact Prod.ext h1 h2
          · intro h; rw [h]; exact ⟨rfl, rfl⟩
      · cases h

theorem zsg_ {t : Ty} (h : t.flat = true) : 0 < t.ht := by
  induction t with
  | pr a b iha ihb => simp only [Ty.flat, Bool.and_eq_true] at h; have := iha h.1; simp only [Ty.ht]; omega
  | st t ih => simp only [Ty.ht]; omega
  | _ => simp [Ty.ht]

theorem zn0_ (T : zj_ P E.ti = true) : ∀ d, EqAt P E d
  | 0 => fun t hf hh => by have := zsg_ hf; omega
  | d + 1 => by
    intro t hf hh w x y cs ds ok ok' vx vy hx hy wx wy
    obtain ⟨ti, k1, k2, k3⟩ := z2t_ T (zb6_ hf)
    obtain ⟨sh, ty, b⟩ := ti
    dsimp only at k2 k3
    have hsh := (z1z_ T k1 k3).2
    have key : ∀ (τ : Ty) (e : ty = τ) (hτ : E.tyOf t = τ), τ.flat = true → τ.ht ≤ d + 1 → ∀ (x y : τ.T), Rd w ok τ x cs → Rd w ok' τ y ds → zu_ τ vx cs → zu_ τ vy ds → ∃ b, (Op.equalIn (d + 1) t vx vy).run P w = .ok b w ∧ (b = true ↔ x = y) := by
      intro τ e hτ hf hh x y hx hy wx wy
      unfold shOK at hsh
      split at hsh <;> rename_i g1 g2 g3
      · have g3' : ty = _ := g3
        rw [g3'] at e
        subst e
        rw [zcu_ hx wx, zcu_ hy wy]
        exact ⟨_, run_equalIn_int (P := P) w d t _ _ _ _ g2, by simp⟩
      · have g3' : ty = _ := g3
        rw [g3'] at e
        subst e
        rw [zb5_ hx wx, zb5_ hy wy]
        exact ⟨_, run_equalIn_bool' (P := P) w d t _ _ g2, by simp⟩
      · have g3' : ty = _ := g3
        rw [g3'] at e
        subst e
        rw [z8b_ hx wx, z8b_ hy wy]
        refine ⟨_, run_equalIn_string (P := P) w d t _ _ g2, ?_⟩
        simp
      · have g3' : ty = _ := g3
        rw [g3'] at e
        subst e
        cases hf
      · have g3' : ty = _ := g3
        rw [g3'] at e
        subst e
        cases hf
      · have g3' : ty = _ := g3
        rw [g3'] at e
        subst e
        rename_i fs fields u
        have g1' : sh = .st fs := g1
        subst g1'
        subst g3'
        obtain ⟨fields', u', h1, h2, h3, h4, h5⟩ := z89_ T k1
        cases h3
        obtain ⟨h6, h7, h8⟩ := h5 hf
        have hfo : P.fieldsOf t = fields' := by unfold Program.fieldsOf; rw [h1]
        rcases wx with ⟨_, rfl⟩ | ⟨h, _⟩
        · rcases wy with ⟨_, rfl⟩ | ⟨h, _⟩
          · rw [run_equalIn_struct w d t _ _ (by rw [h1, hfo]) h6, hfo]
            simp only [Ty.ht] at hh
            have := zmz_ T (zn0_ T d) (w := w) fields'.toList 0 u (by rw [h2]; exact h4) hf (by omega) h8 x y [] [] cs ds rfl rfl hx hy
            simpa using this
          · cases h
        · cases h
      · cases hsh
    exact key _ k2 rfl hf hh x y hx hy wx wy

def htOK (ti : List TI) : Bool := ti.all fun i => Nat.ble i.ty.ht 9999
theorem EqOK.of (T : zj_ P E.ti = true) (H : htOK E.ti = true) : EqOK P E := by
  intro t fs u b hf ht w x y cs ds ok ok' hx hy
  have htyof : E.tyOf t = .st u := by simp [Env.tyOf, ht]
  have hht : (Ty.st u).ht ≤ 10000 := by
    simp only [htOK, List.all_eq_true] at H
    have := Nat.le_of_ble_eq_true (H _ (List.mem_of_getElem? ht))
    have h2 : (Ty.st u).ht ≤ 9999 := this
    omega
  have key : ∀ (τ : Ty) (e : E.tyOf t = τ) (hf : τ.flat = true) (hh : τ.ht ≤ 10000) (x y : τ.T), Rd w ok τ x cs → Rd w ok' τ y ds → zu_ τ (.agg cs.toArray) cs → zu_ τ (.agg ds.toArray) ds → ∃ b, (Op.equalIn 10000 t (.agg cs.toArray) (.agg ds.toArray)).run P w = .ok b w ∧ (b = true ↔ x = y) := by
    intro τ e
    subst e
    intro hf hh x y hx hy w1 w2
    exact zn0_ T 10000 t hf hh w x y cs ds ok ok' _ _ hx hy w1 w2
  obtain ⟨b, h1, h2⟩ := key (.st u) htyof hf hht x y hx hy (.inl ⟨rfl, rfl⟩) (.inl ⟨rfl, rfl⟩)
  rw [h1]
  congr 1
  rw [Bool.eq_iff_iff, h2]
  simp
end
end Go.Proofs.YtibiofjkgdidmaaGreatDoor.Ev

namespace Go.Proofs.YtibiofjkgdidmaaGreatDoor.Ev
open Go.RowKit

theorem z4h_ (f fb : Nat → Nat) (s : SV) : (s.ren2 f fb).roots = s.roots.map f ∧ (s.ren2 f fb).boxes = s.boxes.map fb ∧ (s.ren2 f fb).isSt = s.isSt ∧ (s.ren2 f fb).count = s.count ∧ (s.ren2 f fb).isCh = s.isCh := by
  induction s with
  | st s ih => exact ⟨ih.1, ih.2.1, rfl, rfl, rfl⟩
  | pr a b iha ihb => exact ⟨by simp [SV.ren2, SV.roots, iha.1, ihb.1], by simp [SV.ren2, SV.boxes, iha.2.1, ihb.2.1], rfl, rfl, rfl⟩
  | clo g s ih => exact ⟨ih.1, ih.2.1, rfl, rfl, rfl⟩
  | tup s ih => exact ⟨ih.1, ih.2.1, rfl, rfl, rfl⟩
  | cns a b iha ihb => exact ⟨by simp [SV.ren2, SV.roots, iha.1, ihb.1], by simp [SV.ren2, SV.boxes, iha.2.1, ihb.2.1], rfl, by simp [SV.ren2, SV.count, ihb.2.2.2.1], rfl⟩
  | val t x => cases t <;> exact ⟨rfl, rfl, rfl, rfl, rfl⟩
  | _ => exact ⟨rfl, rfl, rfl, rfl, rfl⟩

section
variable {P : Program} {E E' : Env} {w0 w1 : World} {ok ok1 O : Nat → Prop} {σ σ' : St} {tm tm' : Array Value} {w w' : World} {M M' : Map} {a : Act}

theorem z2b_ (H : ∀ (t : Ty) (x : t.T) (cs : List Value), Rd w0 ok t x cs → Rd w1 ok1 t x cs) : ∀ {s : SV} {cs : List Value}, RepV w0 ok M s cs → RepV w1 ok1 M s cs
  | .val t x, cs, h => H t x cs h
  | .ref _ _, _, h => h
  | .vw _ _ _, _, h => h
  | .ls _, _, h => h
  | .st s, cs, h => z2b_ H (s := s) h
  | .pr a b, cs, h => by
    obtain ⟨c1, c2, rfl, h1, h2⟩ := h
    exact ⟨c1, c2, rfl, z2b_ H h1, z2b_ H h2⟩
  | .bp _ _ _, _, h => h
  | .ep _ _ _ _ _, _, h => h
  | .lp _ _, _, h => h
  | .clo g c, cs, h => by
    obtain ⟨caps, rfl, h1⟩ := h
    exact ⟨caps, rfl, z2b_ H h1⟩
  | .no, _, h => h
  | .un, _, h => h
  | .tup _, _, h => h.elim
  | .cns _ _, _, h => h.elim
  | .nl, _, h => h.elim
theorem zn1_ (H : ∀ (t : Ty) (x : t.T) (cs : List Value), Rd w0 ok t x cs → Rd w1 ok1 t x cs) {s : SV} : ∀ {cs : List Value}, RepB w0 ok M s cs → RepB w1 ok1 M s cs := by
  induction s with
  | cns a b iha ihb => intro cs h; obtain ⟨c1, c2, rfl, h1, h2⟩ := h; exact ⟨c1, c2, rfl, z2b_ H h1, ihb h2⟩
  | nl => intro cs h; exact h
  | val t x => intro cs h; exact zo_ (z2b_ H (s := .val t x) h)
  | ref i p => intro cs h; exact zo_ (z2b_ H (s := .ref i p) h)
  | vw i a b => intro cs h; exact zo_ (z2b_ H (s := .vw i a b) h)
  | ls i => intro cs h; exact zo_ (z2b_ H (s := .ls i) h)
  | st s _ => intro cs h; exact zo_ (z2b_ H (s := .st s) h)
  | pr a b _ _ => intro cs h; exact zo_ (z2b_ H (s := .pr a b) h)
  | bp i p o => intro cs h; exact zo_ (z2b_ H (s := .bp i p o) h)
  | ep i p n f o => intro cs h; exact zo_ (z2b_ H (s := .ep i p n f o) h)
  | lp i n => intro cs h; exact zo_ (z2b_ H (s := .lp i n) h)
  | clo g s _ => intro cs h; exact zo_ (z2b_ H (s := .clo g s) h)
  | no => intro cs h; exact h
  | un => intro cs h; exact h
  | tup s _ => intro cs h; exact h.elim
theorem zsh_ (H : ∀ (t : Ty) (x : t.T) (cs : List Value), Rd w0 ok t x cs → Rd w1 ok1 t x cs) {s : SV} : ∀ {vs : List Value}, RepT w0 ok M s vs → RepT w1 ok1 M s vs := by
  induction s with
  | cns a b iha ihb => intro vs h; obtain ⟨v, vs', rfl, ⟨cs, h1, h3⟩, h2⟩ := h; exact ⟨v, vs', rfl, ⟨cs, z2b_ H h1, h3⟩, ihb h2⟩
  | nl => intro vs h; exact h
  | _ => intro vs h; exact h.elim
theorem zn2_ (H : ∀ (t : Ty) (x : t.T) (cs : List Value), Rd w0 ok t x cs → Rd w1 ok1 t x cs) {s : SV} {v : Value} (hs : RepS w0 ok M s v) : RepS w1 ok1 M s v := by
  rcases z27_ hs with rfl | ⟨c, vs, rfl, rfl, h1⟩ | ⟨cs, h1, h2⟩
  · trivial
  · exact ⟨vs, rfl, zsh_ H h1⟩
  · exact z17_ (z2b_ H h1) h2

structure Renm2 (M M' : Map) (f fb : Nat → Nat) (I B : Nat → Prop) : Prop where
  loc : ∀ i, I i → M'.loc (f i) = M.loc i
  blk : ∀ i, B i → M'.blk (fb i) = M.blk i ∧ M'.bn (fb i) = M.bn i ∧ M'.bw (fb i) = M.bw i
theorem z2c_ {f fb : Nat → Nat} {I B : Nat → Prop} (H : Renm2 M M' f fb I B) : ∀ {s : SV} {cs : List Value}, (∀ i ∈ s.roots, I i) → (∀ i ∈ s.boxes, B i) → RepV w0 ok M s cs → RepV w0 ok M' (s.ren2 f fb) cs
  | .val t x, cs, _, _, hs => by cases t <;> exact hs
  | .ref i p, cs, h, _, hs => by
    have e := H.loc i (h i (by simp [SV.roots]))
    simp only [SV.ren2, RepV] at hs ⊢
    rw [e]; exact hs
  | .vw i lo n, cs, h, _, hs => by
    have e := H.loc i (h i (by simp [SV.roots]))
    simp only [SV.ren2, RepV] at hs ⊢
    rw [e]; exact hs
  | .ls i, cs, _, h, hs => by
    obtain ⟨e1, e2, _⟩ := H.blk i (h i (by simp [SV.boxes]))
    simp only [SV.ren2, RepV] at hs ⊢
    rw [e1, e2]; exact hs
  | .st s, cs, h, hb, hs => z2c_ H (s := s) h hb hs
  | .pr a b, cs, h, hb, hs => by
    obtain ⟨c1, c2, rfl, h1, h2⟩ := hs
    exact ⟨c1, c2, rfl, z2c_ H (fun i hi => h i (by simp [SV.roots, hi])) (fun i hi => hb i (by simp [SV.boxes, hi])) h1, z2c_ H (fun i hi => h i (by simp [SV.roots, hi])) (fun i hi => hb i (by simp [SV.boxes, hi])) h2⟩
  | .bp i p o, cs, _, h, hs => by
    obtain ⟨e1, _, _⟩ := H.blk i (h i (by simp [SV.boxes]))
    simp only [SV.ren2, RepV] at hs ⊢
    rw [e1]; exact hs
  | .ep i p n f' o, cs, h, _, hs => by
    have e := H.loc i (h i (by simp [SV.roots]))
    simp only [SV.ren2, RepV] at hs ⊢
    rw [e]; exact hs
  | .lp i n, cs, _, h, hs => by
    obtain ⟨e1, e2, e3⟩ := H.blk i (h i (by simp [SV.boxes]))
    simp only [SV.ren2, RepV] at hs ⊢
    rw [e1, e2, e3]; exact hs
  | .clo g c, cs, h, hb, hs => by
    obtain ⟨caps, rfl, h1⟩ := hs
    exact ⟨caps, rfl, z2c_ H (s := c) h hb h1⟩
  | .no, cs, _, _, hs => hs
  | .un, cs, _, _, hs => hs
  | .tup _, _, _, _, h => h.elim
  | .cns _ _, _, _, _, h => h.elim
  | .nl, _, _, _, h => h.elim
theorem zn3_ {f fb : Nat → Nat} {I B : Nat → Prop} (H : Renm2 M M' f fb I B) {s : SV} : ∀ {cs : List Value}, (∀ i ∈ s.roots, I i) → (∀ i ∈ s.boxes, B i) → RepB w0 ok M s cs → RepB w0 ok M' (s.ren2 f fb) cs := by
  induction s with
  | cns a b iha ihb =>
    intro cs h hb hs
    obtain ⟨c1, c2, rfl, h1, h2⟩ := hs
    exact ⟨c1, c2, rfl, z2c_ H (fun i hi => h i (by simp [SV.roots, hi])) (fun i hi => hb i (by simp [SV.boxes, hi])) h1, ihb (fun i hi => h i (by simp [SV.roots, hi])) (fun i hi => hb i (by simp [SV.boxes, hi])) h2⟩
  | nl => intro cs _ _ hs; exact hs
  | val t x => intro cs h hb hs; exact zo_ (z2c_ H (s := .val t x) h hb hs)
  | ref i p => intro cs h hb hs; exact zo_ (z2c_ H (s := .ref i p) h hb hs)
  | vw i lo n => intro cs h hb hs; exact zo_ (z2c_ H (s := .vw i lo n) h hb hs)
  | ls i => intro cs h hb hs; exact zo_ (z2c_ H (s := .ls i) h hb hs)
  | st s _ => intro cs h hb hs; exact zo_ (z2c_ H (s := .st s) h hb hs)
  | pr a b _ _ => intro cs h hb hs; exact zo_ (z2c_ H (s := .pr a b) h hb hs)
  | bp i p o => intro cs h hb hs; exact zo_ (z2c_ H (s := .bp i p o) h hb hs)
  | ep i p n f o => intro cs h hb hs; exact zo_ (z2c_ H (s := .ep i p n f o) h hb hs)
  | lp i n => intro cs h hb hs; exact zo_ (z2c_ H (s := .lp i n) h hb hs)
  | clo g s _ => intro cs h hb hs; exact zo_ (z2c_ H (s := .clo g s) h hb hs)
  | no => intro cs _ _ hs; exact hs
  | un => intro cs _ _ hs; exact hs
  | tup s _ => intro cs _ _ hs; exact hs.elim
theorem zsi_ {f fb : Nat → Nat} {I B : Nat → Prop} (H : Renm2 M M' f fb I B) {s : SV} : ∀ {vs : List Value}, (∀ i ∈ s.roots, I i) → (∀ i ∈ s.boxes, B i) → RepT w0 ok M s vs → RepT w0 ok M' (s.ren2 f fb) vs := by
  induction s with
  | cns a b iha ihb =>
    intro vs h hb hs
    obtain ⟨v, vs', rfl, ⟨cs, h1, h3⟩, h2⟩ := hs
    exact ⟨v, vs', rfl, ⟨cs, z2c_ H (fun i hi => h i (by simp [SV.roots, hi])) (fun i hi => hb i (by simp [SV.boxes, hi])) h1, by rw [(z4h_ f fb a).2.2.1]; exact h3⟩, ihb (fun i hi => h i (by simp [SV.roots, hi])) (fun i hi => hb i (by simp [SV.boxes, hi])) h2⟩
  | nl => intro vs _ _ hs; exact hs
  | _ => intro vs _ _ hs; exact hs.elim
theorem zn4_ {f fb : Nat → Nat} {I B : Nat → Prop} (H : Renm2 M M' f fb I B) {s : SV} {v : Value} (h : ∀ i ∈ s.roots, I i) (hb : ∀ i ∈ s.boxes, B i) (hs : RepS w0 ok M s v) : RepS w0 ok M' (s.ren2 f fb) v := by
  rcases z27_ hs with rfl | ⟨c, vs, rfl, rfl, h1⟩ | ⟨cs, h1, h2⟩
  · trivial
  · exact ⟨vs, rfl, zsi_ H h hb h1⟩
  · exact z17_ (z2c_ H h hb h1) (by unfold z1y_; rw [(z4h_ f fb s).2.2.1]; exact h2)

def zdi_ (x y : Loc) : Prop := ∃ e t, ∃ l l' : L (.sl e t), x = ⟨.sl e t, l⟩ ∧ y = ⟨.sl e t, l'⟩ ∧ l'.1 = l.1 ∧ l'.2.1 = l.2.1 ∧ l'.2.2.length = l.2.2.length
structure Near (M M' : Map) (gr dp gb db : Nat → Bool) (S : SV) : Prop where
  loc : ∀ i ∈ S.roots, gr i = false → (dp i = false → M'.loc i = M.loc i) ∧ zdi_ (M.loc i) (M'.loc i)
  blk : ∀ i ∈ S.boxes, gb i = false → M'.blk i = M.blk i ∧ (db i = false → M'.bn i = M.bn i ∧ M'.bw i = M.bw i)
  gd : ∀ i, gb i = true → db i = true
theorem Near.mono {gr dp gb db : Nat → Bool} {s s' : SV} (h : Near M M' gr dp gb db s) (h1 : ∀ i ∈ s'.roots, i ∈ s.roots) (h2 : ∀ i ∈ s'.boxes, i ∈ s.boxes) : Near M M' gr dp gb db s' :=
  ⟨fun i hi => h.loc i (h1 i hi), fun i hi => h.blk i (h2 i hi), h.gd⟩
theorem zn5_ {p : List Step} {e : TypeId} {t : Ty} {l : L (.sl e t)} {y : Loc} (h : subL (.sl e t) l p = some y) (hp : Nat.blt 0 (ixs p) = false) : p = [] := by
  match p with
  | [] => rfl
  | .ix n :: p =>
    have : Nat.blt 0 (ixs (.ix n :: p)) = true := Nat.ble_eq_true_of_le (by simp [ixs])
    rw [this] at hp; cases hp
  | .f _ :: _ => cases h
  | .u :: _ => cases h
theorem z61_ {s : SV} {cs : List Value} (hw : Wk s .un) (h : RepV w0 ok M s cs) : RepV w0 ok M' .un cs :=
  have q : RepV w0 ok M .un cs := hw.V h
  q
theorem z2d_ {gr dp gb db : Nat → Bool} : ∀ {s : SV} {cs : List Value}, Near M M' gr dp gb db s → RepV w0 ok M s cs → RepV w0 ok M' (s.cutR gr dp gb db) cs
  | .val t x, cs, _, hs => by cases t <;> exact hs
  | .ref i p, cs, h, hs => by
    obtain ⟨h1, _, _⟩ := h
    have h1 := h1 i (by simp [SV.roots])
    simp only [SV.cutR]
    cases hg : gr i with
    | true => simp only [Bool.true_or, cond_true]; exact z61_ (Wk.ref i p) hs
    | false =>
      obtain ⟨e1, e, t, l, l', e2, e3, e4, e5, e6⟩ := h1 hg
      cases hd : dp i with
      | false => simp only [Bool.false_and, Bool.or_false, cond_false]; simp only [RepV] at hs ⊢; rw [e1 hd]; exact hs
      | true =>
        cases hp : Nat.blt 0 (ixs p) with
        | true => simp only [Bool.false_or, Bool.and_self, cond_true]; exact z61_ (Wk.ref i p) hs
        | false =>
          simp only [Bool.and_false, Bool.or_false, cond_false]
          obtain ⟨e', t', q, h2, rfl⟩ := hs
          rw [e2] at h2
          have := zn5_ h2 hp
          subst this
          cases h2
          exact ⟨e, t, l', by rw [e3]; rfl, by simp [z7_, e4, e5, e6]⟩
  | .vw i lo n, cs, h, hs => by
    obtain ⟨h1, _, _⟩ := h
    have h1 := h1 i (by simp [SV.roots])
    simp only [SV.cutR]
    cases hg : gr i with
    | true => simp only [cond_true]; exact z61_ (Wk.vw i lo n) hs
    | false =>
      simp only [cond_false]
      obtain ⟨e1, e, t, l, l', e2, e3, e4, e5, e6⟩ := h1 hg
      obtain ⟨e', t', q, h2, h3, A, c, rfl, h4, h5⟩ := hs
      rw [e2] at h2
      cases h2
      exact ⟨e, t, l', e3, by rw [e6]; exact h3, A, c, rfl, by rw [e5]; exact h4, by rw [e4]; exact h5⟩
  | .ls i, cs, h, hs => by
    obtain ⟨_, h1, gd⟩ := h
    have h1 := h1 i (by simp [SV.boxes])
    simp only [SV.cutR]
    cases hd : db i with
    | true => simp only [cond_true]; exact z61_ (Wk.ls i) hs
    | false =>
      simp only [cond_false]
      cases hg : gb i with
      | true => rw [gd i hg] at hd; cases hd
      | false =>
        obtain ⟨e1, e2⟩ := h1 hg
        simp only [RepV] at hs ⊢
        rw [e1, (e2 hd).1]; exact hs
  | .st s, cs, h, hs => z2d_ (s := s) (h.mono (fun _ hi => hi) (fun _ hi => hi)) hs
  | .pr a b, cs, h, hs => by
    obtain ⟨c1, c2, rfl, h1, h2⟩ := hs
    exact ⟨c1, c2, rfl, z2d_ (h.mono (fun i hi => by simp [SV.roots, hi]) (fun i hi => by simp [SV.boxes, hi])) h1, z2d_ (h.mono (fun i hi => by simp [SV.roots, hi]) (fun i hi => by simp [SV.boxes, hi])) h2⟩
  | .bp i p o, cs, h, hs => by
    obtain ⟨_, h1, gd⟩ := h
    have h1 := h1 i (by simp [SV.boxes])
    simp only [SV.cutR]
    cases hg : gb i with
    | true => simp only [cond_true]; exact z61_ (Wk.bp i p o) hs
    | false => simp only [cond_false]; simp only [RepV] at hs ⊢; rw [(h1 hg).1]; exact hs
  | .ep i p n f o, cs, h, hs => by
    obtain ⟨h1, _, _⟩ := h
    have h1 := h1 i (by simp [SV.roots])
    simp only [SV.cutR]
    cases hg : gr i with
    | true => simp only [Bool.true_or, cond_true]; exact z61_ (Wk.ep i p n f o) hs
    | false =>
      obtain ⟨e1, e, t, l, l', e2, e3, e4, e5, e6⟩ := h1 hg
      cases hd : dp i with
      | false => simp only [Bool.false_and, Bool.or_false, cond_false]; simp only [RepV] at hs ⊢; rw [e1 hd]; exact hs
      | true =>
        cases hp : Nat.blt 0 (ixs p) with
        | true => simp only [Bool.false_or, Bool.and_self, cond_true]; exact z61_ (Wk.ep i p n f o) hs
        | false =>
          simp only [Bool.and_false, Bool.or_false, cond_false]
          obtain ⟨e', t', q, g, h2, h3, h4, rfl⟩ := hs
          rw [e2] at h2
          have := zn5_ h2 hp
          subst this
          cases h2
          exact ⟨e, t, l', g, by rw [e3]; rfl, by rw [e4]; exact h3, by rw [e6]; exact h4, rfl⟩
  | .lp i n, cs, h, hs => by
    obtain ⟨_, h1, gd⟩ := h
    have h1 := h1 i (by simp [SV.boxes])
    simp only [SV.cutR]
    cases hd : db i with
    | true => simp only [cond_true]; exact z61_ (Wk.lp i n) hs
    | false =>
      simp only [cond_false]
      cases hg : gb i with
      | true => rw [gd i hg] at hd; cases hd
      | false =>
        obtain ⟨e1, e2⟩ := h1 hg
        simp only [RepV] at hs ⊢
        rw [e1, (e2 hd).1, (e2 hd).2]; exact hs
  | .clo g c, cs, h, hs => by
    obtain ⟨caps, rfl, h1⟩ := hs
    exact ⟨caps, rfl, z2d_ (s := c) (h.mono (fun _ hi => hi) (fun _ hi => hi)) h1⟩
  | .no, cs, _, hs => hs
  | .un, cs, _, hs => hs
  | .tup _, _, _, h => h.elim
  | .cns _ _, _, _, h => h.elim
  | .nl, _, _, h => h.elim
end
end Go.Proofs.YtibiofjkgdidmaaGreatDoor.Ev

namespace Go.Proofs.YtibiofjkgdidmaaGreatDoor.Ev
open Go.RowKit

theorem z32_ {l : List Nat} {i : Nat} : has l i = true ↔ i ∈ l := by
  unfold has
  rw [List.any_eq_true]
  constructor
  · rintro ⟨j, hj, h⟩; exact Nat.eq_of_beq_eq_true h ▸ hj
  · intro h; exact ⟨i, h, by simp⟩
theorem zsj_ {l : List Nat} {i : Nat} : has l i = false ↔ i ∉ l := by
  rw [← z32_]; simp
theorem zbk_ : ∀ {l : List Nat}, z2o_ l = true → l.Nodup
  | [], _ => List.nodup_nil
  | i :: l, h => by
    simp only [z2o_, Bool.and_eq_true] at h
    refine List.nodup_cons.2 ⟨fun hm => ?_, zbk_ h.2⟩
    have : l.any (Nat.beq i) = true := List.any_eq_true.2 ⟨i, hm, by simp⟩
    rw [this] at h
    simp at h
theorem z4i_ : ∀ {l : List Nat} {k i : Nat}, l[k]? = some i → nthD l k = i
  | [], k, i, h => by simp at h
  | j :: l, 0, i, h => by simpa [nthD] using h
  | j :: l, k + 1, i, h => by simp only [List.getElem?_cons_succ] at h; exact z4i_ (l := l) (k := k) h
theorem zn6_ {l : List Nat} {k : Nat} (h : k < l.length) : ∃ i, l[k]? = some i ∧ nthD l k = i ∧ i ∈ l := by
  have := List.getElem?_eq_getElem h
  exact ⟨_, this, z4i_ this, List.getElem_mem h⟩
theorem zdj_ {l : List Nat} (h : l.Nodup) {k m i : Nat} (h1 : l[k]? = some i) (h2 : l[m]? = some i) : k = m := by
  obtain ⟨k1, e1⟩ := List.getElem?_eq_some_iff.1 h1
  obtain ⟨k2, e2⟩ := List.getElem?_eq_some_iff.1 h2
  exact zi9_ h k1 k2 (e1.trans e2.symm)
theorem zik_ {ids : List Nat} {i : Nat} (h : i ∈ ids) : ∃ k, z13_ ids i = PIN + k ∧ ids[k]? = some i := by
  obtain ⟨k, h1, h2⟩ := zd9_ ids i 0 h
  exact ⟨k, by unfold z13_; rw [h1, Nat.zero_add], h2⟩
theorem zdk_ {ids : List Nat} {i : Nat} (h : i ∈ ids) : nthD ids (z13_ ids i - PIN) = i := by
  obtain ⟨k, h1, h2⟩ := zik_ h
  rw [h1, Nat.add_sub_cancel_left]
  exact z4i_ h2
theorem z33_ {α : Type} : ∀ {l : List (Nat × α)} {j : Nat} {r : α}, (l.map (·.1)).Nodup → (j, r) ∈ l → lk l j = some r
  | [], j, r, _, h => by cases h
  | (i, x) :: l, j, r, hn, h => by
    rw [zk_]
    simp only [List.map_cons, List.nodup_cons] at hn
    rcases List.mem_cons.1 h with e | h
    · cases e; rw [if_pos rfl]
    · rw [if_neg (fun e => hn.1 (List.mem_map.2 ⟨(j, r), h, e.symm⟩))]
      exact z33_ hn.2 h
theorem z3h_ {α : Type} : ∀ {l : List (Nat × α)} {j : Nat}, j ∈ l.map (·.1) → ∃ r, lk l j = some r
  | [], j, h => by cases h
  | (i, x) :: l, j, h => by
    rw [zk_]
    by_cases e : i = j
    · exact ⟨x, by rw [if_pos e]⟩
    · rw [if_neg e]
      simp only [List.map_cons, List.mem_cons] at h
      exact z3h_ (h.resolve_left (fun q => e q.symm))
theorem z8h_ {α : Type} (ids : List Nat) : ∀ (l : List (Nat × α)) (i : Nat), lk (sans ids l) i = if i ∈ ids then none else lk l i
  | [], i => by simp [sans, lk]
  | (j, x) :: l, i => by
    simp only [sans]
    cases h : has ids j with
    | true =>
      have := z32_.1 h
      simp only [cond_true]
      rw [z8h_ ids l i, zk_]
      by_cases e : j = i
      · subst e; rw [if_pos this, if_pos this]
      · rw [if_neg e]
    | false =>
      have := zsj_.1 h
      simp only [cond_false]
      rw [zk_, zk_, z8h_ ids l i]
      by_cases e : j = i
      · subst e; rw [if_pos rfl, if_neg this, if_pos rfl]
      · rw [if_neg e, if_neg e]
theorem zdl_ {f : Nat → Nat} : ∀ {l : List (Nat × Row)} {i : Nat} {r : Row}, (i, r) ∈ z5i_ f l ↔ ∃ j, f j = i ∧ (j, r) ∈ l
  | [], i, r => by simp [z5i_]
  | (k, x) :: l, i, r => by
    simp only [z5i_, List.mem_cons, zdl_ (l := l), Prod.mk.injEq]
    constructor
    · rintro (⟨rfl, rfl⟩ | ⟨j, h1, h2⟩)
      · exact ⟨k, rfl, .inl ⟨rfl, rfl⟩⟩
      · exact ⟨j, h1, .inr h2⟩
    · rintro ⟨j, h1, ⟨rfl, rfl⟩ | h2⟩
      · exact .inl ⟨h1.symm, rfl⟩
      · exact .inr ⟨j, h1, h2⟩
theorem zdm_ {f fb : Nat → Nat} : ∀ {l : List (Nat × Bx)} {i : Nat} {b : Bx}, (i, b) ∈ reBx f fb l ↔ ∃ j b0, fb j = i ∧ (j, b0) ∈ l ∧ b = ⟨b0.ty, b0.c.ren2 f fb⟩
  | [], i, r => by simp [reBx]
  | (k, x) :: l, i, r => by
    simp only [reBx, List.mem_cons, zdm_ (l := l), Prod.mk.injEq]
    constructor
    · rintro (⟨rfl, rfl⟩ | ⟨j, b0, h1, h2, h3⟩)
      · exact ⟨k, x, rfl, .inl ⟨rfl, rfl⟩, rfl⟩
      · exact ⟨j, b0, h1, .inr h2, h3⟩
    · rintro ⟨j, b0, h1, ⟨rfl, rfl⟩ | h2, h3⟩
      · exact .inl ⟨h1.symm, h3⟩
      · exact .inr ⟨j, b0, h1, h2, h3⟩
theorem zn7_ (f : Nat → Nat) : ∀ l : List (Nat × Row), (z5i_ f l).map (·.1) = (l.map (·.1)).map f
  | [] => rfl
  | (k, x) :: l => by simp [z5i_, zn7_ f l]
theorem zn8_ (f fb : Nat → Nat) : ∀ l : List (Nat × Bx), (reBx f fb l).map (·.1) = (l.map (·.1)).map fb
  | [] => rfl
  | (k, x) :: l => by simp [reBx, zn8_ f fb l]
theorem zdn_ : ∀ {l : List SV} {n j : Nat} {s : SV}, lk (z4q_ l n) j = some s → ∃ k, j = n + k ∧ l[k]? = some s
  | [], n, j, s, h => by cases h
  | x :: l, n, j, s, h => by
    simp only [z4q_, zk_] at h
    split at h
    · rename_i e; cases h; exact ⟨0, by omega, rfl⟩
    · obtain ⟨k, h1, h2⟩ := zdn_ h
      exact ⟨k + 1, by omega, by simpa using h2⟩
theorem zn9_ {rows : List (Nat × Row)} : ∀ {ids : List Nat} {n j : Nat} {r : Row}, lk (z3n_ rows ids n) j = some r → ∃ k i, j = n + k ∧ ids[k]? = some i ∧ lk rows i = some r
  | [], n, j, r, h => by cases h
  | i :: l, n, j, r, h => by
    have ih : lk (z3n_ rows l (n + 1)) j = some r → ∃ k i', j = n + k ∧ (i :: l)[k]? = some i' ∧ lk rows i' = some r := fun h => by
      obtain ⟨k, i', h1, h2, h3⟩ := zn9_ h
      exact ⟨k + 1, i', by omega, by simpa using h2, h3⟩
    simp only [z3n_] at h
    split at h
    · rename_i x hx
      rw [zk_] at h
      split at h
      · rename_i e; cases h; exact ⟨0, i, by omega, rfl, hx⟩
      · exact ih h
    · exact ih h
theorem zna_ {rows : List (Nat × Row)} : ∀ {ids : List Nat} {n k i : Nat} {r : Row}, ids[k]? = some i → lk rows i = some r → lk (z3n_ rows ids n) (n + k) = some r
  | [], n, k, i, r, h, _ => by simp at h
  | j :: l, n, 0, i, r, h, hr => by
    simp at h; subst h
    simp only [z3n_, hr, Nat.add_zero]
    exact z3c_ _ _ _
  | j :: l, n, k + 1, i, r, h, hr => by
    simp only [List.getElem?_cons_succ] at h
    have := zna_ (n := n + 1) h hr
    simp only [z3n_]
    split
    · rw [zk_, if_neg (by omega), show n + (k + 1) = n + 1 + k by omega]; exact this
    · rw [show n + (k + 1) = n + 1 + k by omega]; exact this
theorem znb_ {bx : List (Nat × Bx)} {f fb : Nat → Nat} : ∀ {ids : List Nat} {n j : Nat} {b : Bx}, lk (z3o_ bx f fb ids n) j = some b → ∃ k i b0, j = n + k ∧ ids[k]? = some i ∧ lk bx i = some b0 ∧ b = ⟨b0.ty, b0.c.ren2 f fb⟩
  | [], n, j, r, h => by cases h
  | i :: l, n, j, r, h => by
    have ih : lk (z3o_ bx f fb l (n + 1)) j = some r → ∃ k i' b0, j = n + k ∧ (i :: l)[k]? = some i' ∧ lk bx i' = some b0 ∧ r = ⟨b0.ty, b0.c.ren2 f fb⟩ := fun h => by
      obtain ⟨k, i', b0, h1, h2, h3⟩ := znb_ h
      exact ⟨k + 1, i', b0, by omega, by simpa using h2, h3⟩
    simp only [z3o_] at h
    split at h
    · rename_i x hx
      rw [zk_] at h
      split at h
      · rename_i e; cases h; exact ⟨0, i, x, by omega, rfl, hx, rfl⟩
      · exact ih h
    · exact ih h
theorem znc_ {bx : List (Nat × Bx)} {f fb : Nat → Nat} : ∀ {ids : List Nat} {n k i : Nat} {b : Bx}, ids[k]? = some i → lk bx i = some b → lk (z3o_ bx f fb ids n) (n + k) = some ⟨b.ty, b.c.ren2 f fb⟩
  | [], n, k, i, r, h, _ => by simp at h
  | j :: l, n, 0, i, r, h, hr => by
    simp at h; subst h
    simp only [z3o_, hr, Nat.add_zero]
    exact z3c_ _ _ _
  | j :: l, n, k + 1, i, r, h, hr => by
    simp only [List.getElem?_cons_succ] at h
    have := znc_ (f := f) (fb := fb) (n := n + 1) h hr
    simp only [z3o_]
    split
    · rw [zk_, if_neg (by omega), show n + (k + 1) = n + 1 + k by omega]; exact this
    · rw [show n + (k + 1) = n + 1 + k by omega]; exact this
theorem zdo_ (gr dp gb db : Nat → Bool) (gd : ∀ i, gb i = true → db i = true) (s : SV) : (∀ i ∈ (s.cutR gr dp gb db).roots, i ∈ s.roots ∧ gr i = false) ∧ (∀ i ∈ (s.cutR gr dp gb db).boxes, i ∈ s.boxes ∧ gb i = false) ∧ (s.cutR gr dp gb db).isSt = s.isSt ∧ (s.cutR gr dp gb db).count = s.count ∧ (s.cutR gr dp gb db).isCh = s.isCh := by
  induction s with
  | st s ih => exact ⟨ih.1, ih.2.1, rfl, rfl, rfl⟩
  | pr a b iha ihb =>
    refine ⟨fun i hi => ?_, fun i hi => ?_, rfl, rfl, rfl⟩
    · simp only [SV.cutR, SV.roots, List.mem_append] at hi ⊢
      rcases hi with h | h
      · exact ⟨.inl (iha.1 i h).1, (iha.1 i h).2⟩
      · exact ⟨.inr (ihb.1 i h).1, (ihb.1 i h).2⟩
    · simp only [SV.cutR, SV.boxes, List.mem_append] at hi ⊢
      rcases hi with h | h
      · exact ⟨.inl (iha.2.1 i h).1, (iha.2.1 i h).2⟩
      · exact ⟨.inr (ihb.2.1 i h).1, (ihb.2.1 i h).2⟩
  | clo g s ih => exact ⟨ih.1, ih.2.1, rfl, rfl, rfl⟩
  | tup s ih => exact ⟨ih.1, ih.2.1, rfl, rfl, rfl⟩
  | cns a b iha ihb =>
    refine ⟨fun i hi => ?_, fun i hi => ?_, rfl, by simp [SV.cutR, SV.count, ihb.2.2.2.1], rfl⟩
    · simp only [SV.cutR, SV.roots, List.mem_append] at hi ⊢
      rcases hi with h | h
      · exact ⟨.inl (iha.1 i h).1, (iha.1 i h).2⟩
      · exact ⟨.inr (ihb.1 i h).1, (ihb.1 i h).2⟩
    · simp only [SV.cutR, SV.boxes, List.mem_append] at hi ⊢
      rcases hi with h | h
      · exact ⟨.inl (iha.2.1 i h).1, (iha.2.1 i h).2⟩
      · exact ⟨.inr (ihb.2.1 i h).1, (ihb.2.1 i h).2⟩
  | ref j p =>
    simp only [SV.cutR]
    cases hg : gr j with
    | true => exact ⟨by simp [SV.roots], by simp [SV.boxes], rfl, rfl, rfl⟩
    | false =>
      cases hq : (dp j && Nat.blt 0 (ixs p)) with
      | true => exact ⟨by simp [SV.roots], by simp [SV.boxes], rfl, rfl, rfl⟩
      | false => exact ⟨fun i hi => by simp [SV.roots] at hi ⊢; subst hi; exact ⟨rfl, hg⟩, by simp [SV.boxes], rfl, rfl, rfl⟩
  | vw j p n =>
    simp only [SV.cutR]
    cases hg : gr j with
    | true => exact ⟨by simp [SV.roots], by simp [SV.boxes], rfl, rfl, rfl⟩
    | false => exact ⟨fun i hi => by simp [SV.roots] at hi ⊢; subst hi; exact ⟨rfl, hg⟩, by simp [SV.boxes], rfl, rfl, rfl⟩
  | ep j p n f o =>
    simp only [SV.cutR]
    cases hg : gr j with
    | true => exact ⟨by simp [SV.roots], by simp [SV.boxes], rfl, rfl, rfl⟩
    | false =>
      cases hq : (dp j && Nat.blt 0 (ixs p)) with
      | true => exact ⟨by simp [SV.roots], by simp [SV.boxes], rfl, rfl, rfl⟩
      | false => exact ⟨fun i hi => by simp [SV.roots] at hi ⊢; subst hi; exact ⟨rfl, hg⟩, by simp [SV.boxes], rfl, rfl, rfl⟩
  | bp j p o =>
    simp only [SV.cutR]
    cases hg : gb j with
    | true => exact ⟨by simp [SV.roots], by simp [SV.boxes], rfl, rfl, rfl⟩
    | false => exact ⟨by simp [SV.roots], fun i hi => by simp [SV.boxes] at hi ⊢; subst hi; exact ⟨rfl, hg⟩, rfl, rfl, rfl⟩
  | ls j =>
    simp only [SV.cutR]
    cases hg : db j with
    | true => exact ⟨by simp [SV.roots], by simp [SV.boxes], rfl, rfl, rfl⟩
    | false => exact ⟨by simp [SV.roots], fun i hi => by
        simp [SV.boxes] at hi ⊢; subst hi
        exact ⟨rfl, by cases hq : gb i with | false => rfl | true => rw [gd i hq] at hg; cases hg⟩, rfl, rfl, rfl⟩
  | lp j n =>
    simp only [SV.cutR]
    cases hg : db j with
    | true => exact ⟨by simp [SV.roots], by simp [SV.boxes], rfl, rfl, rfl⟩
    | false => exact ⟨by simp [SV.roots], fun i hi => by
        simp [SV.boxes] at hi ⊢; subst hi
        exact ⟨rfl, by cases hq : gb i with | false => rfl | true => rw [gd i hq] at hg; cases hg⟩, rfl, rfl, rfl⟩
  | val t x => cases t <;> exact ⟨by simp [SV.cutR, SV.roots], by simp [SV.cutR, SV.boxes], rfl, rfl, rfl⟩
  | _ => exact ⟨by simp [SV.cutR, SV.roots], by simp [SV.cutR, SV.boxes], rfl, rfl, rfl⟩

section
variable {P : Program} {E E' : Env} {w0 w1 : World} {ok ok1 O : Nat → Prop} {σ σ' τ : St} {tm tm' : Array Value} {w w' : World} {M M' : Map} {a : Act}

theorem zsk_ {gr dp gb db : Nat → Bool} {s : SV} : ∀ {cs : List Value}, Near M M' gr dp gb db s → RepB w0 ok M s cs → RepB w0 ok M' (s.cutR gr dp gb db) cs := by
  induction s with
  | cns a b iha ihb =>
    intro cs h hs
    obtain ⟨c1, c2, rfl, h1, h2⟩ := hs
    exact ⟨c1, c2, rfl, z2d_ (h.mono (fun i hi => by simp [SV.roots, hi]) (fun i hi => by simp [SV.boxes, hi])) h1, ihb (h.mono (fun i hi => by simp [SV.roots, hi]) (fun i hi => by simp [SV.boxes, hi])) h2⟩
  | nl => intro cs _ hs; exact hs
  | val t x => intro cs h hs; exact zo_ (z2d_ (s := .val t x) h hs)
  | ref i p => intro cs h hs; exact zo_ (z2d_ (s := .ref i p) h hs)
  | vw i lo n => intro cs h hs; exact zo_ (z2d_ (s := .vw i lo n) h hs)
  | ls i => intro cs h hs; exact zo_ (z2d_ (s := .ls i) h hs)
  | st s _ => intro cs h hs; exact zo_ (z2d_ (s := .st s) h hs)
  | pr a b _ _ => intro cs h hs; exact zo_ (z2d_ (s := .pr a b) h hs)
  | bp i p o => intro cs h hs; exact zo_ (z2d_ (s := .bp i p o) h hs)
  | ep i p n f o => intro cs h hs; exact zo_ (z2d_ (s := .ep i p n f o) h hs)
  | lp i n => intro cs h hs; exact zo_ (z2d_ (s := .lp i n) h hs)
  | clo g s _ => intro cs h hs; exact zo_ (z2d_ (s := .clo g s) h hs)
  | no => intro cs _ hs; exact hs
  | un => intro cs _ hs; exact hs
  | tup s _ => intro cs _ hs; exact hs.elim
theorem zsl_ {gr dp gb db : Nat → Bool} (gd : ∀ i, gb i = true → db i = true) {s : SV} : ∀ {vs : List Value}, Near M M' gr dp gb db s → RepT w0 ok M s vs → RepT w0 ok M' (s.cutR gr dp gb db) vs := by
  induction s with
  | cns a b iha ihb =>
    intro vs h hs
    obtain ⟨v, vs', rfl, ⟨cs, h1, h3⟩, h2⟩ := hs
    exact ⟨v, vs', rfl, ⟨cs, z2d_ (h.mono (fun i hi => by simp [SV.roots, hi]) (fun i hi => by simp [SV.boxes, hi])) h1, by rw [(zdo_ gr dp gb db gd a).2.2.1]; exact h3⟩, ihb (h.mono (fun i hi => by simp [SV.roots, hi]) (fun i hi => by simp [SV.boxes, hi])) h2⟩
  | nl => intro vs _ hs; exact hs
  | _ => intro vs _ hs; exact hs.elim
theorem zsm_ {gr dp gb db : Nat → Bool} {s : SV} {v : Value} (h : Near M M' gr dp gb db s) (hs : RepS w0 ok M s v) : RepS w0 ok M' (s.cutR gr dp gb db) v := by
  rcases z27_ hs with rfl | ⟨c, vs, rfl, rfl, h1⟩ | ⟨cs, h1, h2⟩
  · trivial
  · exact ⟨vs, rfl, zsl_ h.gd (s := c) (h.mono (fun i hi => hi) (fun i hi => hi)) h1⟩
  · exact z17_ (z2d_ h h1) (by unfold z1y_; rw [(zdo_ gr dp gb db h.gd s).2.2.1]; exact h2)

def Own (M : Map) (ids bids : List Nat) (k : Nat) : Prop := (∃ i ∈ ids, k ∈ z1_ (M.loc i).1 (M.loc i).2) ∨ ∃ b ∈ bids, k = M.blk b
def z8i_ (M : Map) (ids bids : List Nat) : Map := ⟨fun j => M.loc (nthD ids (j - PIN)), fun j => M.blk (nthD bids (j - PIN)), fun j => M.bn (nthD bids (j - PIN)), fun j => M.bw (nthD bids (j - PIN))⟩
def hdL (x : Loc) : Value := (z7_ x.1 x.2).headD undef
def zil_ (E : Env) (M : Map) (ids bids : List Nat) : Env := { E with pins := fun j => hdL (M.loc (nthD ids (j - PIN))), pinB := fun j => M.blk (nthD bids (j - PIN)) }

structure InOK (σ : St) (l : List SV) (ids bids : List Nat) : Prop where
  nd : ids.Nodup
  ndB : bids.Nodup
  args : ∀ s ∈ l, (∀ i ∈ s.roots, i ∈ ids) ∧ ∀ i ∈ s.boxes, i ∈ bids
  bx : ∀ b ∈ bids, ∃ x, lk σ.bx b = some x ∧ (∀ i ∈ x.c.boxes, i ∈ bids) ∧ ∀ i ∈ x.c.roots, i ∈ ids
  rows : ∀ i ∈ ids, ∃ r, lk σ.rows i = some r
theorem zsn_ {l : List SV} {ids bids : List Nat} (h : σ.okIn l ids bids = true) : InOK σ l ids bids := by
  simp only [St.okIn, Bool.and_eq_true, List.all_eq_true] at h
  obtain ⟨h1, h2, h3, h4, h5⟩ := h
  refine ⟨zbk_ h1, zbk_ h2, fun s hs => ⟨fun i hi => z32_.1 ((h3 s hs).1 i hi), fun i hi => z32_.1 ((h3 s hs).2 i hi)⟩, fun b hb => ?_, fun i hi => ?_⟩
  · obtain ⟨k1, k2, k3⟩ := h4 b hb
    unfold zh7_ at k2
    unfold zci_ at k3
    cases hq : lk σ.bx b with
    | none => rw [hq] at k1; cases k1
    | some x => rw [hq] at k2 k3; exact ⟨x, rfl, fun i hi => z32_.1 (k2 i hi), fun i hi => z32_.1 (k3 i hi)⟩
  · have := h5 i hi
    cases hq : lk σ.rows i with
    | none => rw [hq] at this; cases this
    | some r => exact ⟨r, rfl⟩

theorem znd_ {x : Loc} {e : TypeId} {t : Ty} {l : L (.sl e t)} (h : x = ⟨.sl e t, l⟩) : z7_ x.1 x.2 = [hdL x] := by subst h; rfl

theorem zso_ (R : Rep E w0 ok O σ tm w M) {l : List SV} {vs : List Value} {ids bids : List Nat} (H : InOK σ l ids bids) (hl : l.length = vs.length) (hs : ∀ (k : Nat) s v, l[k]? = some s → vs[k]? = some v → RepS w0 ok M s v) :
    Rep (zil_ E M ids bids) w ok (Own M ids bids) ⟨z4q_ (l.map (SV.ren2 (z13_ ids) (z13_ bids))) 0, z3n_ σ.rows ids PIN, z3o_ σ.bx (z13_ ids) (z13_ bids) bids PIN⟩ vs.toArray w (z8i_ M ids bids) := by
  have HR : Renm2 M (z8i_ M ids bids) (z13_ ids) (z13_ bids) (· ∈ ids) (· ∈ bids) :=
    ⟨fun i hi => by show M.loc (nthD ids (z13_ ids i - PIN)) = _; rw [zdk_ hi], fun i hi => by
      refine ⟨?_, ?_, ?_⟩
      · show M.blk (nthD bids (z13_ bids i - PIN)) = _; rw [zdk_ hi]
      · show M.bn (nthD bids (z13_ bids i - PIN)) = _; rw [zdk_ hi]
      · show M.bw (nthD bids (z13_ bids i - PIN)) = _; rw [zdk_ hi]⟩
  have row : ∀ j r, lk (z3n_ σ.rows ids PIN) j = some r → ∃ k i, j = PIN + k ∧ ids[k]? = some i ∧ i ∈ ids ∧ lk σ.rows i = some r ∧ (z8i_ M ids bids).loc j = M.loc i := fun j r h => by
    obtain ⟨k, i, rfl, h2, h3⟩ := zn9_ h
    exact ⟨k, i, rfl, h2, List.mem_of_getElem? h2, h3, by show M.loc (nthD ids (PIN + k - PIN)) = _; rw [Nat.add_sub_cancel_left, z4i_ h2]⟩
  have box : ∀ j b, lk (z3o_ σ.bx (z13_ ids) (z13_ bids) bids PIN) j = some b → ∃ k i b0, j = PIN + k ∧ bids[k]? = some i ∧ i ∈ bids ∧ lk σ.bx i = some b0 ∧ b = ⟨b0.ty, b0.c.ren2 (z13_ ids) (z13_ bids)⟩ ∧ (z8i_ M ids bids).blk j = M.blk i ∧ (z8i_ M ids bids).bn j = M.bn i ∧ (z8i_ M ids bids).bw j = M.bw i := fun j b h => by
    obtain ⟨k, i, b0, rfl, h2, h3, h4⟩ := znb_ h
    refine ⟨k, i, b0, rfl, h2, List.mem_of_getElem? h2, h3, h4, ?_, ?_, ?_⟩
    · show M.blk (nthD bids (PIN + k - PIN)) = _; rw [Nat.add_sub_cancel_left, z4i_ h2]
    · show M.bn (nthD bids (PIN + k - PIN)) = _; rw [Nat.add_sub_cancel_left, z4i_ h2]
    · show M.bw (nthD bids (PIN + k - PIN)) = _; rw [Nat.add_sub_cancel_left, z4i_ h2]
  have live : ∀ s : SV, (∀ i ∈ s.roots, i ∈ ids) → (∀ i ∈ s.boxes, i ∈ bids) → Live ⟨z4q_ (l.map (SV.ren2 (z13_ ids) (z13_ bids))) 0, z3n_ σ.rows ids PIN, z3o_ σ.bx (z13_ ids) (z13_ bids) bids PIN⟩ (s.ren2 (z13_ ids) (z13_ bids)) := fun s h1 h2 => by
    refine ⟨fun j hj => ?_, fun j hj => ?_⟩
    · rw [(z4h_ _ _ s).1] at hj
      obtain ⟨i, hi, rfl⟩ := List.mem_map.1 hj
      obtain ⟨k, e1, e2⟩ := zik_ (h1 i hi)
      obtain ⟨r, hr⟩ := H.rows i (h1 i hi)
      rw [e1]
      exact ⟨r, zna_ e2 hr⟩
    · rw [(z4h_ _ _ s).2.1] at hj
      obtain ⟨i, hi, rfl⟩ := List.mem_map.1 hj
      obtain ⟨k, e1, e2⟩ := zik_ (h2 i hi)
      obtain ⟨b, hb, _⟩ := H.bx i (h2 i hi)
      rw [e1]
      exact ⟨_, znc_ e2 hb⟩
  have base : ∀ (t : Ty) (x : t.T) (cs : List Value), Rd w0 ok t x cs → Rd w ok t x cs := fun t x cs h => R.rd h
  have notOk : ∀ k, Own M ids bids k → ¬ ok k := fun k h => by
    rcases h with ⟨i, hi, hk⟩ | ⟨b, hb, rfl⟩
    · obtain ⟨r, hr⟩ := H.rows i hi
      exact (R.ownR i ⟨r, hr⟩ k hk).1
    · obtain ⟨x, hx, _⟩ := H.bx b hb
      exact (R.ownB b ⟨x, hx⟩).1
  constructor
  · intro s v h
    obtain ⟨k, e, h2⟩ := zdn_ h
    rw [Nat.zero_add] at e
    subst e
    rw [List.getElem?_map, Option.map_eq_some_iff] at h2
    obtain ⟨u, h2, rfl⟩ := h2
    have hlt : s < vs.length := by rw [← hl]; exact (List.getElem?_eq_some_iff.1 h2).1
    have hm := List.mem_of_getElem? h2
    refine ⟨vs[s], by simp [hlt], ?_⟩
    exact zn4_ HR (H.args u hm).1 (H.args u hm).2 (zn2_ base (hs s u _ h2 (List.getElem?_eq_getElem hlt)))
  · intro j r h
    obtain ⟨k, i, rfl, h2, h3, h4, h5⟩ := row j r h
    obtain ⟨q, e1, e2⟩ := R.rows i r h4
    exact ⟨q, h5.trans e1, e2⟩
  · intro j b h
    obtain ⟨k, i, b0, rfl, h2, h3, h4, rfl, h5, h6, h7⟩ := box j b h
    obtain ⟨cs, e1, e2, e3⟩ := R.boxes i b0 h4
    obtain ⟨b1, g1, g2, g3⟩ := H.bx i h3
    rw [h4] at g1
    cases g1
    refine ⟨cs, zn3_ HR g3 g2 (zn1_ base e1), by rw [h5]; exact e2, fun hc => ?_⟩
    rw [(z4h_ _ _ b0.c).2.2.2.2] at hc
    obtain ⟨f1, f2, f3⟩ := e3 hc
    rw [h6, h7]
    exact ⟨by rw [(z4h_ _ _ b0.c).2.2.2.1]; exact f1, f2, by rw [(z4h_ _ _ b0.c).2.2.2.1]; exact f3⟩
  · rintro i j hij ⟨r, hr⟩ ⟨r', hr'⟩ k hk
    obtain ⟨m, i', rfl, h2, h3, h4, h5⟩ := row i r hr
    obtain ⟨m', j', rfl, g2, g3, g4, g5⟩ := row j r' hr'
    rw [h5] at hk
    rw [g5]
    refine R.rr i' j' (fun e => ?_) ⟨r, h4⟩ ⟨r', g4⟩ k hk
    subst e
    exact hij (by rw [zdj_ H.nd h2 g2])
  · rintro i j hij ⟨r, hr⟩ ⟨r', hr'⟩
    obtain ⟨m, i', b, rfl, h2, h3, h4, _, h5, _⟩ := box i r hr
    obtain ⟨m', j', b', rfl, g2, g3, g4, _, g5, _⟩ := box j r' hr'
    rw [h5, g5]
    refine R.bb i' j' (fun e => ?_) ⟨b, h4⟩ ⟨b', g4⟩
    subst e
    exact hij (by rw [zdj_ H.ndB h2 g2])
  · rintro i j ⟨r, hr⟩ ⟨r', hr'⟩
    obtain ⟨m, i', rfl, h2, h3, h4, h5⟩ := row i r hr
    obtain ⟨m', j', b', rfl, g2, g3, g4, _, g5, _⟩ := box j r' hr'
    rw [h5, g5]
    exact R.rb i' j' ⟨r, h4⟩ ⟨b', g4⟩
  · rintro i ⟨r, hr⟩ k hk
    obtain ⟨m, i', rfl, h2, h3, h4, h5⟩ := row i r hr
    rw [h5] at hk
    exact ⟨(R.ownR i' ⟨r, h4⟩ k hk).1, .inl (.inl ⟨i', h3, hk⟩)⟩
  · rintro i ⟨r, hr⟩
    obtain ⟨m, i', b, rfl, h2, h3, h4, _, h5, _⟩ := box i r hr
    rw [h5]
    exact ⟨(R.ownB i' ⟨b, h4⟩).1, .inl (.inr ⟨i', h3, rfl⟩)⟩
  · exact fun k hk => ⟨R.ok_lt hk, fun h => notOk k h hk⟩
  · intro s v h
    obtain ⟨k, e, h2⟩ := zdn_ h
    rw [List.getElem?_map, Option.map_eq_some_iff] at h2
    obtain ⟨u, h2, rfl⟩ := h2
    have hm := List.mem_of_getElem? h2
    exact live u (H.args u hm).1 (H.args u hm).2
  · intro j b h
    obtain ⟨k, i, b0, rfl, h2, h3, h4, rfl, _⟩ := box j b h
    obtain ⟨b1, g1, g2, g3⟩ := H.bx i h3
    rw [h4] at g1
    cases g1
    exact live b0.c g3 g2
  · exact Kept.refl _ _
  · rintro i hi ⟨r, hr⟩
    obtain ⟨m, i', rfl, h2, h3, h4, h5⟩ := row i r hr
    obtain ⟨q, e1, _⟩ := R.rows i' r h4
    rw [h5]
    show _ = [hdL (M.loc (nthD ids (PIN + m - PIN)))]
    rw [Nat.add_sub_cancel_left, z4i_ h2]
    exact znd_ e1
  · rintro i hi ⟨r, hr⟩
    rfl
end
end Go.Proofs.YtibiofjkgdidmaaGreatDoor.Ev

namespace Go.Proofs.YtibiofjkgdidmaaGreatDoor.Ev
open Go.RowKit

section
variable {P : Program} {E E' : Env} {w0 w1 : World} {ok ok1 O : Nat → Prop} {σ σ' τ : St} {tm tm' : Array Value} {w w' : World} {M M' : Map} {a : Act}

theorem zbl_ {a b : Nat} (h : Nat.blt a b = true) : a < b := Nat.le_of_ble_eq_true h
theorem zsp_ {a b : Nat} (h : a < b) : Nat.blt a b = true := Nat.ble_eq_true_of_le h
structure BackOK (σ τ : St) (ids bids : List Nat) (d : Nat) : Prop where
  nd : (τ.rows.map (·.1)).Nodup
  ndB : (τ.bx.map (·.1)).Nodup
  rows : ∀ j r, (j, r) ∈ τ.rows → (j < PIN ∧ z2p_ ids (32 * d) j = 32 * d + (j - NB) ∧ NB ≤ j ∧ 32 * d + (j - NB) < PIN ∧ lk σ.rows (32 * d + (j - NB)) = none) ∨
    (PIN ≤ j ∧ ids[j - PIN]? = some (z2p_ ids (32 * d) j) ∧ ∃ r0, lk σ.rows (z2p_ ids (32 * d) j) = some r0 ∧ r0.e = r.e ∧ r0.t = r.t)
  bx : ∀ j b, (j, b) ∈ τ.bx → PIN ≤ j ∧ bids[j - PIN]? = some (z3m_ bids j) ∧ b.c.isCh = false
theorem zsq_ {ids : List Nat} {d j P N : Nat} {o : Option Row} (k : (Nat.ble N j && (Nat.blt (j - N) 32 && (Nat.blt (32 * d + 32) P && o.isNone))) = true) (hp : Nat.blt j P = true) :
    j < P ∧ N ≤ j ∧ 32 * d + (j - N) < P ∧ o = none := by
  simp only [Bool.and_eq_true] at k
  obtain ⟨k1, k2, k3, k4⟩ := k
  have k1 := Nat.le_of_ble_eq_true k1
  have k2 := zbl_ k2
  have k3 := zbl_ k3
  have hp := zbl_ hp
  refine ⟨hp, k1, by omega, ?_⟩
  cases o with
  | none => rfl
  | some r => cases k4
theorem zsr_ {j P : Nat} (hp : Nat.blt j P = false) : P ≤ j := by
  refine Classical.byContradiction fun hn => ?_
  rw [zsp_ (Nat.lt_of_not_le hn)] at hp; cases hp
theorem zss_ {ids : List Nat} {b j : Nat} (hp : Nat.blt j PIN = true) : z2p_ ids b j = b + (j - NB) := by
  unfold z2p_; rw [hp, cond_true]
theorem zst_ {ids : List Nat} {b j : Nat} (hp : Nat.blt j PIN = false) : z2p_ ids b j = nthD ids (j - PIN) := by
  unfold z2p_; rw [hp, cond_false]
theorem zsu_ {ids : List Nat} {d j P N : Nat} {rows : List (Nat × Row)} {e : TypeId} {t : Ty} {bk : Nat} (hl : Nat.blt j P = true → bk = 32 * d + (j - N)) (hh : Nat.blt j P = false → bk = nthD ids (j - P))
    (k : (bif Nat.blt j P then Nat.ble N j && (Nat.blt (j - N) 32 && (Nat.blt (32 * d + 32) P && (lk rows (32 * d + (j - N))).isNone)) else Nat.blt (j - P) ids.length && (match lk rows (nthD ids (j - P)) with | some r => Nat.beq r.e e && decide (r.t = t) | none => false)) = true) :
    (j < P ∧ bk = 32 * d + (j - N) ∧ N ≤ j ∧ 32 * d + (j - N) < P ∧ lk rows (32 * d + (j - N)) = none) ∨ (P ≤ j ∧ ids[j - P]? = some bk ∧ ∃ r0, lk rows bk = some r0 ∧ r0.e = e ∧ r0.t = t) := by
  cases hp : Nat.blt j P with
  | true =>
    rw [hp] at k
    simp only [cond_true] at k
    obtain ⟨a1, a2, a3, a4⟩ := zsq_ (ids := ids) k hp
    exact .inl ⟨a1, hl hp, a2, a3, a4⟩
  | false =>
    rw [hp] at k
    simp only [cond_false, Bool.and_eq_true] at k
    obtain ⟨k1, k2⟩ := k
    have k1 := zbl_ k1
    obtain ⟨i, e1, e2, e3⟩ := zn6_ k1
    have hb : bk = i := (hh hp).trans e2
    refine .inr ⟨zsr_ hp, by rw [hb]; exact e1, ?_⟩
    rw [hb]
    rw [e2] at k2
    split at k2
    · rename_i r0 hr0
      simp only [Bool.and_eq_true, decide_eq_true_eq] at k2
      exact ⟨r0, hr0, Nat.eq_of_beq_eq_true k2.1, k2.2⟩
    · cases k2
theorem zsv_ {bids : List Nat} {j P bk : Nat} {c : Bool} (hb : bk = nthD bids (j - P)) (k : (Nat.ble P j && (Nat.blt (j - P) bids.length && !c)) = true) : P ≤ j ∧ bids[j - P]? = some bk ∧ c = false := by
  simp only [Bool.and_eq_true, Bool.not_eq_true'] at k
  obtain ⟨k1, k2, k3⟩ := k
  have k2 := zbl_ k2
  obtain ⟨i, e1, e2, e3⟩ := zn6_ k2
  exact ⟨Nat.le_of_ble_eq_true k1, by rw [hb, e2]; exact e1, k3⟩
theorem zsw_ {ids bids : List Nat} {d : Nat} (h : σ.okBack τ ids bids d = true) : BackOK σ τ ids bids d := by
  simp only [St.okBack, Bool.and_eq_true] at h
  obtain ⟨h1, h2, h3, h4⟩ := h
  rw [List.all_eq_true] at h3 h4
  refine ⟨zbk_ h1, zbk_ h2, fun j r hj => ?_, fun j b hj => ?_⟩
  · have k := h3 _ hj
    exact zsu_ zss_ zst_ k
  · have k := h4 _ hj
    exact zsv_ rfl k

theorem zsx_ {a b : Option Nat} (h : (a.map fun g => (⟨g, 0, none⟩ : Addr)) = b.map fun g => ⟨g, 0, none⟩) : a = b := by
  cases a <;> cases b <;> simp_all

theorem zsy_ (R : Rep E w0 ok O σ tm w M) {l : List SV} {ids bids : List Nat} {d : Nat} (H : InOK σ l ids bids) {v : Value} (R' : Rep (zil_ E M ids bids) w ok (Own M ids bids) τ #[v] w' M') (B : BackOK σ τ ids bids d) {v0 : SV} (hv : lk τ.sl 0 = some v0) {dst : Option Tmp} (hin : inB dst tm) :
    ∃ M'', Rep E w0 ok O ((σ.merge τ ids bids d).put dst (v0.ren2 (z2p_ ids (32 * d)) (z3m_ bids))) (putT tm dst v) w' M'' := by
  let f := z2p_ ids (32 * d)
  let fb := z3m_ bids
  have hf : f = z2p_ ids (32 * d) := rfl
  have hfb : fb = z3m_ bids := rfl
  -- names back
  have inj : ∀ j r j' r', (j, r) ∈ τ.rows → (j', r') ∈ τ.rows → f j = f j' → j = j' := by
    intro j r j' r' h h' e
    rcases B.rows j r h with ⟨a1, a2, a3, a4, a5⟩ | ⟨a1, a2, r0, a3, _⟩ <;> rcases B.rows j' r' h' with ⟨b1, b2, b3, b4, b5⟩ | ⟨b1, b2, r1, b3, _⟩
    · rw [hf, a2, b2] at e; omega
    · rw [hf, a2] at e; rw [← e, a5] at b3; cases b3
    · rw [hf, b2] at e; rw [e, b5] at a3; cases a3
    · have : z2p_ ids (32 * d) j = z2p_ ids (32 * d) j' := e
      rw [← this] at b2
      have := zdj_ H.nd a2 b2
      omega
  have injB : ∀ j b j' b', (j, b) ∈ τ.bx → (j', b') ∈ τ.bx → fb j = fb j' → j = j' := by
    intro j b j' b' h h' e
    obtain ⟨a1, a2, _⟩ := B.bx j b h
    obtain ⟨b1, b2, _⟩ := B.bx j' b' h'
    have : z3m_ bids j = z3m_ bids j' := e
    rw [← this] at b2
    have := zdj_ H.ndB a2 b2
    omega
  let g : Nat → Loc := fun i => match τ.rows.find? (fun x => Nat.beq (f x.1) i) with | some x => M'.loc x.1 | none => M.loc i
  have gNew : ∀ j r, (j, r) ∈ τ.rows → g (f j) = M'.loc j := by
    intro j r h
    show (match τ.rows.find? (fun x => Nat.beq (f x.1) (f j)) with | some x => M'.loc x.1 | none => M.loc (f j)) = _
    cases hq : τ.rows.find? (fun x => Nat.beq (f x.1) (f j)) with
    | none => have := List.find?_eq_none.1 hq _ h; simp at this
    | some x =>
      have h1 := List.mem_of_find?_eq_some hq
      have h2 : f x.1 = f j := by have := List.find?_some hq; exact Nat.eq_of_beq_eq_true this
      show M'.loc x.1 = M'.loc j
      rw [inj x.1 x.2 j r h1 h h2]
  have gOld : ∀ i, (∀ j r, (j, r) ∈ τ.rows → f j ≠ i) → g i = M.loc i := by
    intro i h
    show (match τ.rows.find? (fun x => Nat.beq (f x.1) i) with | some x => M'.loc x.1 | none => M.loc i) = _
    cases hq : τ.rows.find? (fun x => Nat.beq (f x.1) i) with
    | none => rfl
    | some x =>
      have h2 : f x.1 = i := by have := List.find?_some hq; exact Nat.eq_of_beq_eq_true this
      exact absurd h2 (h x.1 x.2 (List.mem_of_find?_eq_some hq))
  let gb (q q' : Nat → Nat) : Nat → Nat := fun i => match τ.bx.find? (fun x => Nat.beq (fb x.1) i) with | some x => q' x.1 | none => q i
  have bNew : ∀ (q q' : Nat → Nat) j b, (j, b) ∈ τ.bx → gb q q' (fb j) = q' j := by
    intro q q' j r h
    show (match τ.bx.find? (fun x => Nat.beq (fb x.1) (fb j)) with | some x => q' x.1 | none => q (fb j)) = _
    cases hq : τ.bx.find? (fun x => Nat.beq (fb x.1) (fb j)) with
    | none => have := List.find?_eq_none.1 hq _ h; simp at this
    | some x =>
      have h1 := List.mem_of_find?_eq_some hq
      have h2 : fb x.1 = fb j := by have := List.find?_some hq; exact Nat.eq_of_beq_eq_true this
      show q' x.1 = q' j
      rw [injB x.1 x.2 j r h1 h h2]
  have bOld : ∀ (q q' : Nat → Nat) i, (∀ j b, (j, b) ∈ τ.bx → fb j ≠ i) → gb q q' i = q i := by
    intro q q' i h
    show (match τ.bx.find? (fun x => Nat.beq (fb x.1) i) with | some x => q' x.1 | none => q i) = _
    cases hq : τ.bx.find? (fun x => Nat.beq (fb x.1) i) with
    | none => rfl
    | some x =>
      have h2 : fb x.1 = i := by have := List.find?_some hq; exact Nat.eq_of_beq_eq_true this
      exact absurd h2 (h x.1 x.2 (List.mem_of_find?_eq_some hq))
  let N : Map := ⟨g, gb M.blk M'.blk, gb M.bn M'.bn, gb M.bw M'.bw⟩
  refine ⟨N, ?_⟩
  -- what comes back of what was handed over
  have back : ∀ j r, (j, r) ∈ τ.rows → PIN ≤ j → f j ∈ ids ∧ zdi_ (M.loc (f j)) (M'.loc j) := by
    intro j r h hj
    rcases B.rows j r h with ⟨a1, _⟩ | ⟨a1, a2, r0, a3, a4, a5⟩
    · omega
    · refine ⟨List.mem_of_getElem? a2, ?_⟩
      have hlk := z33_ B.nd h
      obtain ⟨l0, e1, _⟩ := R.rows _ r0 a3
      obtain ⟨l1, e2, _⟩ := R'.rows j r hlk
      have hp := R'.pin j hj ⟨r, hlk⟩
      have hp : z7_ (M'.loc j).1 (M'.loc j).2 = [hdL (M.loc (nthD ids (j - PIN)))] := hp
      rw [z4i_ a2] at hp
      have e1' : M.loc (f j) = ⟨.sl r0.e r0.t, l0⟩ := e1
      have : M.loc (z2p_ ids (32 * d) j) = ⟨.sl r0.e r0.t, l0⟩ := e1
      rw [this, e2] at hp
      obtain ⟨re, rt, rx, rz⟩ := r
      obtain ⟨re0, rt0, rx0, rz0⟩ := r0
      simp only at a4 a5 e1' e2 hp
      subst a4; subst a5
      refine ⟨re0, rt0, l0, l1, e1', e2, ?_⟩
      simp only [hdL, z7_, List.headD_cons, List.cons.injEq, Value.slice.injEq, and_true] at hp
      exact ⟨zsx_ hp.1, hp.2.2, hp.2.1⟩
  have z3m_ : ∀ j b, (j, b) ∈ τ.bx → fb j ∈ bids ∧ M'.blk j = M.blk (fb j) := by
    intro j b h
    obtain ⟨a1, a2, a3⟩ := B.bx j b h
    have hlk := z33_ B.ndB h
    have := R'.pinB j a1 ⟨b, hlk⟩
    have this : M'.blk j = M.blk (nthD bids (j - PIN)) := this
    rw [z4i_ a2] at this
    exact ⟨List.mem_of_getElem? a2, this⟩
  -- the two kinds of rows
  let rs := z5i_ f τ.rows
  let bs := reBx f fb τ.bx
  have rowC : ∀ i r, lk (rs ++ sans ids σ.rows) i = some r → (∃ j, f j = i ∧ (j, r) ∈ τ.rows) ∨ (i ∉ ids ∧ lk σ.rows i = some r ∧ ∀ j r, (j, r) ∈ τ.rows → f j ≠ i) := by
    intro i r h
    rw [z1a_] at h
    cases hn : lk rs i with
    | some r' =>
      rw [hn] at h
      cases h
      exact .inl (zdl_.1 (zw_ hn))
    | none =>
      rw [hn] at h
      have h : lk (sans ids σ.rows) i = some r := h
      rw [z8h_] at h
      split at h
      · cases h
      · rename_i hni
        refine .inr ⟨hni, h, fun j r' hj e => ?_⟩
        have : (i, r') ∈ rs := zdl_.2 ⟨j, e, hj⟩
        obtain ⟨r2, hr2⟩ := z3h_ (List.mem_map.2 ⟨(i, r'), this, rfl⟩)
        rw [hn] at hr2; cases hr2
  have boxC : ∀ (G : SV → SV) i b, lk (bs ++ mapV (fun b : Bx => (⟨b.ty, G b.c⟩ : Bx)) (sans bids σ.bx)) i = some b → (∃ j b0, fb j = i ∧ (j, b0) ∈ τ.bx ∧ b = ⟨b0.ty, b0.c.ren2 f fb⟩) ∨ (i ∉ bids ∧ (∃ b0, lk σ.bx i = some b0 ∧ b = ⟨b0.ty, G b0.c⟩) ∧ ∀ j b, (j, b) ∈ τ.bx → fb j ≠ i) := by
    intro G i r h
    rw [z1a_] at h
    cases hn : lk bs i with
    | some r' =>
      rw [hn] at h
      cases h
      exact .inl (zdm_.1 (zw_ hn))
    | none =>
      rw [hn] at h
      have h : lk (mapV (fun b : Bx => (⟨b.ty, G b.c⟩ : Bx)) (sans bids σ.bx)) i = some r := h
      rw [z1n_] at h
      obtain ⟨b0, h0, rfl⟩ := Option.map_eq_some_iff.1 h
      rw [z8h_] at h0
      split at h0
      · cases h0
      · rename_i hni
        refine .inr ⟨hni, ⟨b0, h0, rfl⟩, fun j r' hj e => ?_⟩
        have : (i, (⟨r'.ty, r'.c.ren2 f fb⟩ : Bx)) ∈ bs := zdm_.2 ⟨j, r', e, hj, rfl⟩
        obtain ⟨r2, hr2⟩ := z3h_ (List.mem_map.2 ⟨_, this, rfl⟩)
        rw [hn] at hr2; cases hr2
  -- blocks
  have notOwn : ∀ i, i ∉ ids → (∃ r, lk σ.rows i = some r) → ∀ k ∈ z1_ (M.loc i).1 (M.loc i).2, ¬ Own M ids bids k := by
    intro i hi hr k hk h
    rcases h with ⟨i', hi', hk'⟩ | ⟨b, hb, rfl⟩
    · obtain ⟨r', hr'⟩ := H.rows i' hi'
      exact R.rr i i' (fun e => hi (e ▸ hi')) hr ⟨r', hr'⟩ k hk hk'
    · obtain ⟨x, hx, _⟩ := H.bx b hb
      exact R.rb i b hr ⟨x, hx⟩ hk
  have notOwnB : ∀ i, i ∉ bids → (∃ b, lk σ.bx i = some b) → ¬ Own M ids bids (M.blk i) := by
    intro i hi hb h
    rcases h with ⟨i', hi', hk'⟩ | ⟨b, hb', e⟩
    · obtain ⟨r', hr'⟩ := H.rows i' hi'
      exact R.rb i' i ⟨r', hr'⟩ hb hk'
    · obtain ⟨x, hx, _⟩ := H.bx b hb'
      exact R.bb i b (fun e => hi (e ▸ hb')) hb ⟨x, hx⟩ e
  have ltR : ∀ i, (∃ r, lk σ.rows i = some r) → ∀ k ∈ z1_ (M.loc i).1 (M.loc i).2, k < w.heap.size := by
    rintro i ⟨r, hr⟩ k hk
    obtain ⟨q, e1, _, e2, _⟩ := R.rows i r hr
    rw [e1] at hk
    exact z10_ e2 k hk
  have ltB : ∀ i, (∃ b, lk σ.bx i = some b) → M.blk i < w.heap.size := by
    rintro i ⟨b, hb⟩
    obtain ⟨cs, _, h, _⟩ := R.boxes i b hb
    exact (Array.getElem?_eq_some_iff.1 h).1
  have stayR : ∀ i, i ∉ ids → (∃ r, lk σ.rows i = some r) → ∀ k ∈ z1_ (M.loc i).1 (M.loc i).2, w'.heap[k]? = w.heap[k]? :=
    fun i hi hr k hk => R'.kept.block k (ltR i hr k hk) (notOwn i hi hr k hk)
  have ownO : ∀ k, Own M ids bids k → O k ∨ w0.heap.size ≤ k := by
    rintro k (⟨i, hi, hk⟩ | ⟨b, hb, rfl⟩)
    · obtain ⟨r, hr⟩ := H.rows i hi
      exact (R.ownR i ⟨r, hr⟩ k hk).2
    · obtain ⟨x, hx, _⟩ := H.bx b hb
      exact (R.ownB b ⟨x, hx⟩).2
  have newO : ∀ k, ¬ ok k ∧ (Own M ids bids k ∨ w.heap.size ≤ k) → ¬ ok k ∧ (O k ∨ w0.heap.size ≤ k) := fun k h =>
    ⟨h.1, h.2.elim (ownO k) (fun h => .inr (Nat.le_trans R.kept.size h))⟩
  have newR : ∀ j r, (j, r) ∈ τ.rows → ∀ k ∈ z1_ (M'.loc j).1 (M'.loc j).2, ¬ ok k ∧ (Own M ids bids k ∨ w.heap.size ≤ k) := fun j r h k hk => R'.ownR j ⟨r, z33_ B.nd h⟩ k hk
  have newB : ∀ j b, (j, b) ∈ τ.bx → ¬ ok (M'.blk j) ∧ (Own M ids bids (M'.blk j) ∨ w.heap.size ≤ M'.blk j) := fun j b h => R'.ownB j ⟨b, z33_ B.ndB h⟩
  have base : ∀ (t : Ty) (x : t.T) (cs : List Value), Rd w ok t x cs → Rd w0 ok t x cs := fun t x cs h => h.move fun k hk => (R.ok_kept hk).symm
  have HR : Renm2 M' N f fb (fun j => ∃ r, lk τ.rows j = some r) (fun j => ∃ b, lk τ.bx j = some b) :=
    ⟨fun j ⟨r, h⟩ => gNew j r (zw_ h), fun j ⟨b, h⟩ => ⟨bNew _ _ j b (zw_ h), bNew _ _ j b (zw_ h), bNew _ _ j b (zw_ h)⟩⟩
  have gd : ∀ i, gone bids (bs.map (·.1)) i = true → has bids i = true := fun i h => by
    simp only [gone, Bool.and_eq_true] at h; exact h.1
  have near : ∀ s : SV, Live σ s → Near M N (gone ids (rs.map (·.1))) (has ids) (gone bids (bs.map (·.1))) (has bids) s := by
    intro s hs
    refine ⟨fun i hi hg => ?_, fun i hi hg => ?_, gd⟩
    · obtain ⟨r, hr⟩ := hs.rows i hi
      by_cases hm : i ∈ ids
      · have hh := z32_.2 hm
        refine ⟨fun h => (by rw [hh] at h; cases h), ?_⟩
        unfold gone at hg
        rw [hh, Bool.true_and, Bool.not_eq_false'] at hg
        have hk := z32_.1 hg
        rw [zn7_] at hk
        obtain ⟨j, hj, rfl⟩ := List.mem_map.1 hk
        obtain ⟨r', hr'⟩ := z3h_ hj
        have hj' := zw_ hr'
        show zdi_ (M.loc (f j)) (g (f j))
        rw [gNew j r' hj']
        refine (back j r' hj' ?_).2
        rcases B.rows j r' hj' with ⟨_, a2, _, _, a5⟩ | ⟨a1, _⟩
        · exfalso
          have : lk σ.rows (f j) = none := by rw [hf, a2]; exact a5
          rw [this] at hr; cases hr
        · exact a1
      · have : g i = M.loc i := gOld i fun j r' hj e => by
          rcases B.rows j r' hj with ⟨_, a2, _, _, a5⟩ | ⟨a1, a2, _⟩
          · rw [← e, hf, a2, a5] at hr; cases hr
          · exact hm (e ▸ List.mem_of_getElem? a2)
        refine ⟨fun _ => this, ?_⟩
        show zdi_ (M.loc i) (g i)
        rw [this]
        obtain ⟨q, e1, _⟩ := R.rows i r hr
        exact ⟨r.e, r.t, q, q, e1, e1, rfl, rfl, rfl⟩
    · obtain ⟨b, hb⟩ := hs.boxes i hi
      by_cases hm : i ∈ bids
      · have hh := z32_.2 hm
        unfold gone at hg
        rw [hh, Bool.true_and, Bool.not_eq_false'] at hg
        have hk := z32_.1 hg
        rw [zn8_] at hk
        obtain ⟨j, hj, rfl⟩ := List.mem_map.1 hk
        obtain ⟨b', hb'⟩ := z3h_ hj
        have hj' := zw_ hb'
        refine ⟨?_, fun h => (by rw [hh] at h; cases h)⟩
        show gb M.blk M'.blk (fb j) = _
        rw [bNew _ _ j b' hj']
        exact (z3m_ j b' hj').2
      · have hno : ∀ j b, (j, b) ∈ τ.bx → fb j ≠ i := fun j b hj e => hm (e ▸ (z3m_ j b hj).1)
        exact ⟨bOld _ _ i hno, fun _ => ⟨bOld _ _ i hno, bOld _ _ i hno⟩⟩
  have live1 : ∀ s : SV, Live τ s → Live ((σ.merge τ ids bids d).put dst (v0.ren2 f fb)) (s.ren2 f fb) := by
    intro s hs
    refine ⟨fun i hi => ?_, fun i hi => ?_⟩
    · rw [(z4h_ f fb s).1] at hi
      obtain ⟨j, hj, rfl⟩ := List.mem_map.1 hi
      obtain ⟨r, hr⟩ := hs.rows j hj
      rw [z43_]
      have : (f j, r) ∈ rs ++ sans ids σ.rows := List.mem_append.2 (.inl (zdl_.2 ⟨j, rfl, zw_ hr⟩))
      exact z3h_ (List.mem_map.2 ⟨_, this, rfl⟩)
    · rw [(z4h_ f fb s).2.1] at hi
      obtain ⟨j, hj, rfl⟩ := List.mem_map.1 hi
      obtain ⟨b, hb⟩ := hs.boxes j hj
      rw [z3b_]
      have : (fb j, (⟨b.ty, b.c.ren2 f fb⟩ : Bx)) ∈ bs := zdm_.2 ⟨j, b, rfl, zw_ hb, rfl⟩
      exact z3h_ (List.mem_map.2 ⟨_, List.mem_append.2 (.inl this), rfl⟩)
  have live2 : ∀ s : SV, Live σ s → Live ((σ.merge τ ids bids d).put dst (v0.ren2 f fb)) (s.cutR (gone ids (rs.map (·.1))) (has ids) (gone bids (bs.map (·.1))) (has bids)) := by
    intro s hs
    obtain ⟨c1, c2, _⟩ := zdo_ (gone ids (rs.map (·.1))) (has ids) (gone bids (bs.map (·.1))) (has bids) gd s
    refine ⟨fun i hi => ?_, fun i hi => ?_⟩
    · obtain ⟨h1, h2⟩ := c1 i hi
      obtain ⟨r, hr⟩ := hs.rows i h1
      rw [z43_]
      by_cases hm : i ∈ ids
      · unfold gone at h2
        rw [z32_.2 hm, Bool.true_and, Bool.not_eq_false'] at h2
        obtain ⟨r', hr'⟩ := z3h_ (z32_.1 h2)
        exact z3h_ (List.mem_map.2 ⟨(i, r'), List.mem_append.2 (.inl (zw_ hr')), rfl⟩)
      · have : lk (sans ids σ.rows) i = some r := by rw [z8h_, if_neg hm]; exact hr
        exact z3h_ (List.mem_map.2 ⟨(i, r), List.mem_append.2 (.inr (zw_ this)), rfl⟩)
    · obtain ⟨h1, h2⟩ := c2 i hi
      obtain ⟨b, hb⟩ := hs.boxes i h1
      rw [z3b_]
      by_cases hm : i ∈ bids
      · unfold gone at h2
        rw [z32_.2 hm, Bool.true_and, Bool.not_eq_false'] at h2
        obtain ⟨r', hr'⟩ := z3h_ (z32_.1 h2)
        exact z3h_ (List.mem_map.2 ⟨(i, r'), List.mem_append.2 (.inl (zw_ hr')), rfl⟩)
      · have h3 : lk (sans bids σ.bx) i = some b := by rw [z8h_, if_neg hm]; exact hb
        have : lk (mapV (fun b : Bx => (⟨b.ty, b.c.cutR (gone ids (rs.map (·.1))) (has ids) (gone bids (bs.map (·.1))) (has bids)⟩ : Bx)) (sans bids σ.bx)) i = some ⟨b.ty, b.c.cutR (gone ids (rs.map (·.1))) (has ids) (gone bids (bs.map (·.1))) (has bids)⟩ := by rw [z1n_, h3]; rfl
        exact z3h_ (List.mem_map.2 ⟨_, List.mem_append.2 (.inr (zw_ this)), rfl⟩)
  have hrow : ∀ i, (∃ r, lk ((σ.merge τ ids bids d).put dst (v0.ren2 f fb)).rows i = some r) → (∃ j r, f j = i ∧ (j, r) ∈ τ.rows ∧ g i = M'.loc j) ∨ (i ∉ ids ∧ (∃ r, lk σ.rows i = some r) ∧ g i = M.loc i) := by
    rintro i ⟨r, h⟩
    rw [z43_] at h
    rcases rowC i r h with ⟨j, rfl, hj⟩ | ⟨h1, h2, h3⟩
    · exact .inl ⟨j, r, rfl, hj, gNew j r hj⟩
    · exact .inr ⟨h1, ⟨r, h2⟩, gOld i h3⟩
  have hbox : ∀ i, (∃ b, lk ((σ.merge τ ids bids d).put dst (v0.ren2 f fb)).bx i = some b) → (∃ j b, fb j = i ∧ (j, b) ∈ τ.bx ∧ gb M.blk M'.blk i = M'.blk j) ∨ (i ∉ bids ∧ (∃ b, lk σ.bx i = some b) ∧ gb M.blk M'.blk i = M.blk i) := by
    rintro i ⟨r, h⟩
    rw [z3b_] at h
    rcases boxC _ i r h with ⟨j, b0, rfl, hj, _⟩ | ⟨h1, ⟨b0, h2, _⟩, h3⟩
    · exact .inl ⟨j, b0, rfl, hj, bNew _ _ j b0 hj⟩
    · exact .inr ⟨h1, ⟨b0, h2⟩, bOld _ _ i h3⟩
  constructor
  · refine zl4_ (σ := σ.merge τ ids bids d) (P := RepS w0 ok N) (sl := (σ.merge τ ids bids d).sl) (d := dst) (s := v0.ren2 f fb) (v := v) (fun k u hk => ?_) ?_ hin
    · have hk : lk (mapV (SV.cutR (gone ids (rs.map (·.1))) (has ids) (gone bids (bs.map (·.1))) (has bids)) σ.sl) k = some u := hk
      rw [z1n_] at hk
      obtain ⟨u0, h1, rfl⟩ := Option.map_eq_some_iff.1 hk
      obtain ⟨z, h2, h3⟩ := R.slots k u0 h1
      exact ⟨z, h2, zsm_ (near u0 (R.liveS k u0 h1)) h3⟩
    · obtain ⟨z, h1, h2⟩ := R'.slots 0 v0 hv
      have : v = z := by simpa using h1
      subst this
      have hL := R'.liveS 0 v0 hv
      exact zn4_ HR (fun i hi => hL.rows i hi) (fun i hi => hL.boxes i hi) (zn2_ base h2)
  · intro i r h
    rw [z43_] at h
    rcases rowC i r h with ⟨j, rfl, hj⟩ | ⟨h1, h2, h3⟩
    · obtain ⟨q, e1, e2⟩ := R'.rows j r (z33_ B.nd hj)
      exact ⟨q, (gNew j r hj).trans e1, e2⟩
    · obtain ⟨q, e1, e2, e3, e4, e5⟩ := R.rows i r h2
      have hst := stayR i h1 ⟨r, h2⟩
      rw [e1] at hst
      exact ⟨q, (gOld i h3).trans e1, e2, z14_ hst e3, e4, fun hz => z15_ hst (e5 hz)⟩
  · intro i b h
    rw [z3b_] at h
    rcases boxC _ i b h with ⟨j, b0, rfl, hj, rfl⟩ | ⟨h1, ⟨b0, h2, rfl⟩, h3⟩
    · have hlk := z33_ B.ndB hj
      obtain ⟨cs, e1, e2, e3⟩ := R'.boxes j b0 hlk
      have hL := R'.liveB j b0 hlk
      refine ⟨cs, zn3_ HR (fun i hi => hL.rows i hi) (fun i hi => hL.boxes i hi) (zn1_ base e1), ?_, fun hc => ?_⟩
      · show w'.heap[gb M.blk M'.blk (fb j)]? = _
        rw [bNew _ _ j b0 hj]; exact e2
      · rw [(z4h_ f fb b0.c).2.2.2.2] at hc
        rw [(B.bx j b0 hj).2.2] at hc
        cases hc
    · obtain ⟨cs, e1, e2, e3⟩ := R.boxes i b0 h2
      have hL := R.liveB i b0 h2
      refine ⟨cs, zsk_ (near b0.c hL) e1, ?_, fun hc => ?_⟩
      · show w'.heap[gb M.blk M'.blk i]? = _
        rw [bOld _ _ i h3]
        exact (R'.kept.block _ (ltB i ⟨b0, h2⟩) (notOwnB i h1 ⟨b0, h2⟩)).trans e2
      · have c := zdo_ (gone ids (rs.map (·.1))) (has ids) (gone bids (bs.map (·.1))) (has bids) gd b0.c
        rw [c.2.2.2.2] at hc
        obtain ⟨f1, f2, f3⟩ := e3 hc
        refine ⟨?_, ?_, ?_⟩
        · show gb M.bn M'.bn i = _
          rw [bOld _ _ i h3, c.2.2.2.1]; exact f1
        · show gb M.bw M'.bw i = _
          rw [bOld _ _ i h3]; exact f2
        · rw [c.2.2.2.1]; exact f3
  · intro i i' hij hi hi' k hk
    show k ∉ z1_ (g i').1 (g i').2
    have hk : k ∈ z1_ (g i).1 (g i).2 := hk
    rcases hrow i hi with ⟨j, r, rfl, hj, e1⟩ | ⟨h1, h2, e1⟩ <;> rcases hrow i' hi' with ⟨j', r', rfl, hj', e2⟩ | ⟨h3, h4, e2⟩
    · rw [e1] at hk; rw [e2]
      exact R'.rr j j' (fun e => hij (by rw [e])) ⟨r, z33_ B.nd hj⟩ ⟨r', z33_ B.nd hj'⟩ k hk
    · rw [e1] at hk; rw [e2]
      intro hk'
      have := (newR j r hj k hk).2
      have := ltR i' h4 k hk'
      have := notOwn i' h3 h4 k hk'
      rcases (newR j r hj k hk).2 with h | h
      · exact this h
      · omega
    · rw [e1] at hk; rw [e2]
      intro hk'
      have := ltR i h2 k hk
      have := notOwn i h1 h2 k hk
      rcases (newR j' r' hj' k hk').2 with h | h
      · exact this h
      · omega
    · rw [e1] at hk; rw [e2]
      exact R.rr i i' hij h2 h4 k hk
  · intro i i' hij hi hi'
    show gb M.blk M'.blk i ≠ gb M.blk M'.blk i'
    rcases hbox i hi with ⟨j, r, rfl, hj, e1⟩ | ⟨h1, h2, e1⟩ <;> rcases hbox i' hi' with ⟨j', r', rfl, hj', e2⟩ | ⟨h3, h4, e2⟩
    · rw [e1, e2]
      exact R'.bb j j' (fun e => hij (by rw [e])) ⟨r, z33_ B.ndB hj⟩ ⟨r', z33_ B.ndB hj'⟩
    · rw [e1, e2]
      intro e
      have h5 := ltB i' h4
      have h6 := notOwnB i' h3 h4
      rw [← e] at h5 h6
      rcases (newB j r hj).2 with h | h
      · exact h6 h
      · omega
    · rw [e1, e2]
      intro e
      have h5 := ltB i h2
      have h6 := notOwnB i h1 h2
      rw [e] at h5 h6
      rcases (newB j' r' hj').2 with h | h
      · exact h6 h
      · omega
    · rw [e1, e2]
      exact R.bb i i' hij h2 h4
  · intro i i' hi hi'
    show gb M.blk M'.blk i' ∉ z1_ (g i).1 (g i).2
    rcases hrow i hi with ⟨j, r, rfl, hj, e1⟩ | ⟨h1, h2, e1⟩ <;> rcases hbox i' hi' with ⟨j', r', rfl, hj', e2⟩ | ⟨h3, h4, e2⟩
    · rw [e1, e2]
      exact R'.rb j j' ⟨r, z33_ B.nd hj⟩ ⟨r', z33_ B.ndB hj'⟩
    · rw [e1, e2]
      intro hk
      have h5 := ltB i' h4
      have h6 := notOwnB i' h3 h4
      rcases (newR j r hj _ hk).2 with h | h
      · exact h6 h
      · omega
    · rw [e1, e2]
      intro hk
      have h5 := ltR i h2 _ hk
      have h6 := notOwn i h1 h2 _ hk
      rcases (newB j' r' hj').2 with h | h
      · exact h6 h
      · omega
    · rw [e1, e2]
      exact R.rb i i' h2 h4
  · intro i hi k hk
    have hk : k ∈ z1_ (g i).1 (g i).2 := hk
    rcases hrow i hi with ⟨j, r, rfl, hj, e1⟩ | ⟨h1, h2, e1⟩
    · rw [e1] at hk; exact newO k (newR j r hj k hk)
    · rw [e1] at hk; exact R.ownR i h2 k hk
  · intro i hi
    show ¬ ok (gb M.blk M'.blk i) ∧ (O (gb M.blk M'.blk i) ∨ w0.heap.size ≤ gb M.blk M'.blk i)
    rcases hbox i hi with ⟨j, r, rfl, hj, e1⟩ | ⟨h1, h2, e1⟩
    · rw [e1]; exact newO _ (newB j r hj)
    · rw [e1]; exact R.ownB i h2
  · exact R.okB
  · intro k u hk
    rcases zl5_ hk with rfl | h
    · exact live1 v0 (R'.liveS 0 v0 hv)
    · have h : lk (mapV (SV.cutR (gone ids (rs.map (·.1))) (has ids) (gone bids (bs.map (·.1))) (has bids)) σ.sl) k = some u := h
      rw [z1n_] at h
      obtain ⟨u0, h1, rfl⟩ := Option.map_eq_some_iff.1 h
      exact live2 u0 (R.liveS k u0 h1)
  · intro i b h
    rw [z3b_] at h
    rcases boxC _ i b h with ⟨j, b0, rfl, hj, rfl⟩ | ⟨h1, ⟨b0, h2, rfl⟩, h3⟩
    · exact live1 b0.c (R'.liveB j b0 (z33_ B.ndB hj))
    · exact live2 b0.c (R.liveB i b0 h2)
  · refine R.kept.trans R'.kept fun k hk ho => ?_
    rcases ownO k ho with h | h
    · exact h
    · omega
  · intro i hi hr
    show z7_ (g i).1 (g i).2 = _
    rcases hrow i hr with ⟨j, r, rfl, hj, e1⟩ | ⟨h1, h2, e1⟩
    · rw [e1]
      have hge : PIN ≤ j := by
        rcases B.rows j r hj with ⟨_, a2, _, a4, _⟩ | ⟨a1, _⟩
        · rw [hf, a2] at hi; omega
        · exact a1
      obtain ⟨hm, e, t, l0, l1, q1, q2, q3, q4, q5⟩ := back j r hj hge
      obtain ⟨r0, hr0⟩ := H.rows (f j) hm
      rw [← R.pin (f j) hi ⟨r0, hr0⟩, q1, q2]
      simp [z7_, q3, q4, q5]
    · rw [e1]; exact R.pin i hi h2
  · intro i hi hr
    show gb M.blk M'.blk i = _
    rcases hbox i hr with ⟨j, r, rfl, hj, e1⟩ | ⟨h1, h2, e1⟩
    · rw [e1]
      obtain ⟨hm, e⟩ := z3m_ j r hj
      obtain ⟨x, hx, _⟩ := H.bx (fb j) hm
      rw [e]; exact R.pinB (fb j) hi ⟨x, hx⟩
    · rw [e1]; exact R.pinB i hi h2
end
end Go.Proofs.YtibiofjkgdidmaaGreatDoor.Ev

namespace Go.Proofs.YtibiofjkgdidmaaGreatDoor.Ev
open Go.RowKit

theorem z6s_ {w w' : World} {G : List Nat} (hw : ∀ k, k < w.heap.size → k ∉ G → w'.heap[k]? = w.heap[k]?) : ∀ (t : Ty) (x : L t) (q : List Step) (v : Ty) (z y : L v) (x' : L t), subL t x q = some ⟨v, z⟩ → setL t x q v y = some x' → z7_ v y = z7_ v z → (z1_ t x).Nodup → (∀ g ∈ G, g ∈ z1_ v z) → holds w t x →
    z7_ t x' = z7_ t x ∧ (holds w' v y → holds w' t x') ∧ (plain w t x → plain w' v y → plain w' t x') ∧ ∃ A C, z1_ t x = A ++ z1_ v z ++ C ∧ z1_ t x' = A ++ z1_ v y ++ C
  | .sl e t, x, q, v, z, y, x', hs, h, hc, hn, hg, hh => by
    match q with
    | [] =>
      cases hs
      obtain ⟨_, he⟩ := z5u_ h
      subst he
      exact ⟨hc, fun h => h, fun _ h => h, [], [], by simp, by simp⟩
    | .f _ :: _ => cases h
    | .u :: _ => cases h
    | .ix n :: q =>
      obtain ⟨x0, hx0, h⟩ := Option.bind_eq_some_iff.1 h
      obtain ⟨x0', hx0', rfl⟩ := Option.map_eq_some_iff.1 h
      obtain ⟨x1, hx1, hs⟩ := Option.bind_eq_some_iff.1 hs
      rw [hx0] at hx1
      cases hx1
      obtain ⟨hlt, hxe⟩ := List.getElem?_eq_some_iff.1 hx0
      have hsplit : x.2.2 = x.2.2.take n ++ x0 :: x.2.2.drop (n + 1) := by
        rw [← hxe, ← List.drop_eq_getElem_cons hlt, List.take_append_drop]
      have hset : x.2.2.set n x0' = x.2.2.take n ++ x0' :: x.2.2.drop (n + 1) := by rw [List.set_eq_take_append_cons_drop, if_pos hlt]
      have hb : z1_ (.sl e t) x = x.1.toList ++ ((x.2.2.take n).flatMap (z1_ t)) ++ z1_ t x0 ++ (x.2.2.drop (n + 1)).flatMap (z1_ t) := by
        simp only [z1_]
        conv => lhs; rw [hsplit]
        simp [List.append_assoc]
      have hlt' : ∀ k ∈ z1_ (.sl e t) x, k < w.heap.size := z10_ hh
      rw [hb] at hn hlt'
      obtain ⟨n1, n2, n3⟩ := List.nodup_append.1 hn
      obtain ⟨n4, n5, n6⟩ := List.nodup_append.1 n1
      obtain ⟨i1, i2, i3, A, C, i4, i5⟩ := z6s_ hw t x0 q v z y x0' hs hx0' hc n5 hg (hh.2 x0 (List.mem_of_getElem? hx0))
      have hg0 : ∀ g ∈ G, g ∈ z1_ t x0 := fun g h => by rw [i4]; simp [hg g h]
      have away1 : ∀ y ∈ x.2.2.take n, ∀ k ∈ z1_ t y, w'.heap[k]? = w.heap[k]? := fun y hy k hk => by
        have hm : k ∈ (x.2.2.take n).flatMap (z1_ t) := List.mem_flatMap.2 ⟨y, hy, hk⟩
        exact hw k (hlt' k (by simp only [List.mem_append]; exact .inl (.inl (.inr hm)))) fun e => n6 k (List.mem_append.2 (.inr hm)) k (hg0 k e) rfl
      have away2 : ∀ y ∈ x.2.2.drop (n + 1), ∀ k ∈ z1_ t y, w'.heap[k]? = w.heap[k]? := fun y hy k hk => by
        have hm : k ∈ (x.2.2.drop (n + 1)).flatMap (z1_ t) := List.mem_flatMap.2 ⟨y, hy, hk⟩
        exact hw k (hlt' k (by simp only [List.mem_append]; exact .inr hm)) fun e => n3 k (List.mem_append.2 (.inr (hg0 k e))) k hm rfl
      have away0 : ∀ b, x.1 = some b → w'.heap[b]? = w.heap[b]? := fun b hb => by
        have hm : b ∈ x.1.toList := by rw [hb]; simp
        exact hw b (hlt' b (by simp only [List.mem_append]; exact .inl (.inl (.inl hm)))) fun e => n6 b (List.mem_append.2 (.inl hm)) b (hg0 b e) rfl
      refine ⟨by simp [z7_], fun hy => ⟨?_, ?_⟩, fun hp hy => ⟨?_, ?_⟩, x.1.toList ++ (x.2.2.take n).flatMap (z1_ t) ++ A, C ++ (x.2.2.drop (n + 1)).flatMap (z1_ t), ?_, ?_⟩
      · have h1 := hh.1
        simp only []
        cases hx : x.1 with
        | none => rw [hx] at h1; rw [h1.1] at hlt; simp at hlt
        | some b =>
          rw [hx] at h1
          obtain ⟨cur, fz, k1, k2, k3, k4, k5, k6⟩ := h1
          refine ⟨cur, fz, (away0 b hx).trans k1, by rw [List.length_set]; exact k2, k3, k4, ?_, by rw [List.length_set]; exact k6⟩
          rw [List.length_set, k5, hset]
          conv => lhs; rw [hsplit]
          simp [i1]
      · intro y' hy'
        have hy' : y' ∈ x.2.2.set n x0' := hy'
        rw [hset] at hy'
        rcases List.mem_append.1 hy' with hm | hm
        · exact z14_ (fun k hk => away1 y' hm k hk) (hh.2 y' (List.mem_of_mem_take hm))
        · rcases List.mem_cons.1 hm with rfl | hm
          · exact i2 hy
          · exact z14_ (fun k hk => away2 y' hm k hk) (hh.2 y' (List.mem_of_mem_drop hm))
      · intro b hb
        obtain ⟨cur, e', k1, k2⟩ := hp.1 b hb
        exact ⟨cur, e', (away0 b hb).trans k1, k2⟩
      · intro y' hy'
        have hy' : y' ∈ x.2.2.set n x0' := hy'
        rw [hset] at hy'
        rcases List.mem_append.1 hy' with hm | hm
        · exact z15_ (fun k hk => away1 y' hm k hk) (hp.2 y' (List.mem_of_mem_take hm))
        · rcases List.mem_cons.1 hm with rfl | hm
          · exact i3 (hp.2 x0 (List.mem_of_getElem? hx0)) hy
          · exact z15_ (fun k hk => away2 y' hm k hk) (hp.2 y' (List.mem_of_mem_drop hm))
      · rw [hb, i4]; simp [List.append_assoc]
      · simp only [z1_]
        rw [hset]
        simp [i5, List.append_assoc]
  | .st t, x, q, v, z, y, x', hs, h, hc, hn, hg, hh => by
    match q with
    | [] =>
      cases hs
      have := (z2i_ (.st t) x y).symm.trans h
      cases this
      exact ⟨hc, fun h => h, fun _ h => h, [], [], by simp, by simp⟩
    | .u :: q => exact z6s_ hw t x q v z y x' hs h hc hn hg hh
    | .ix n :: q => exact z6s_ hw t x (.ix n :: q) v z y x' hs h hc hn hg hh
    | .f b :: q => exact z6s_ hw t x (.f b :: q) v z y x' hs h hc hn hg hh
  | .pr a b, x, q, v, z, y, x', hs, h, hc, hn, hg, hh => by
    match q with
    | [] =>
      cases hs
      have := (z2i_ (.pr a b) x y).symm.trans h
      cases this
      exact ⟨hc, fun h => h, fun _ h => h, [], [], by simp, by simp⟩
    | .ix _ :: _ => cases h
    | .u :: _ => cases h
    | .f false :: q =>
      obtain ⟨p, hp, rfl⟩ := Option.map_eq_some_iff.1 h
      simp only [z1_] at hn
      obtain ⟨n1, n2, n3⟩ := List.nodup_append.1 hn
      obtain ⟨i1, i2, i3, A, C, i4, i5⟩ := z6s_ hw a x.1 q v z y p hs hp hc n1 hg hh.1
      have hg0 : ∀ g ∈ G, g ∈ z1_ a x.1 := fun g h => by rw [i4]; simp [hg g h]
      have away : ∀ k ∈ z1_ b x.2, w'.heap[k]? = w.heap[k]? := fun k hk => hw k (z10_ hh.2 k hk) fun e => n3 k (hg0 k e) k hk rfl
      exact ⟨by simp [z7_, i1], fun hy => ⟨i2 hy, z14_ away hh.2⟩, fun hp hy => ⟨i3 hp.1 hy, z15_ away hp.2⟩, A, C ++ z1_ b x.2, by simp [z1_, i4], by simp [z1_, i5]⟩
    | .f true :: q =>
      obtain ⟨p, hp, rfl⟩ := Option.map_eq_some_iff.1 h
      simp only [z1_] at hn
      obtain ⟨n1, n2, n3⟩ := List.nodup_append.1 hn
      obtain ⟨i1, i2, i3, A, C, i4, i5⟩ := z6s_ hw b x.2 q v z y p hs hp hc n2 hg hh.2
      have hg0 : ∀ g ∈ G, g ∈ z1_ b x.2 := fun g h => by rw [i4]; simp [hg g h]
      have away : ∀ k ∈ z1_ a x.1, w'.heap[k]? = w.heap[k]? := fun k hk => hw k (z10_ hh.1 k hk) fun e => n3 k hk k (hg0 k e) rfl
      exact ⟨by simp [z7_, i1], fun hy => ⟨z14_ away hh.1, i2 hy⟩, fun hp hy => ⟨z15_ away hp.1, i3 hp.2 hy⟩, z1_ a x.1 ++ A, C, by simp [z1_, i4], by simp [z1_, i5]⟩
  | .int _, x, q, v, z, y, x', hs, h, hc, hn, hg, hh => by match q with | [] => cases hs; have := (z2i_ (.int _) x y).symm.trans h; cases this; exact ⟨hc, fun h => h, fun _ h => h, [], [], rfl, rfl⟩ | _ :: _ => cases hs
  | .bool, x, q, v, z, y, x', hs, h, hc, hn, hg, hh => by match q with | [] => cases hs; have := (z2i_ .bool x y).symm.trans h; cases this; exact ⟨hc, fun h => h, fun _ h => h, [], [], rfl, rfl⟩ | _ :: _ => cases hs
  | .str, x, q, v, z, y, x', hs, h, hc, hn, hg, hh => by match q with | [] => cases hs; have := (z2i_ .str x y).symm.trans h; cases this; exact ⟨hc, fun h => h, fun _ h => h, [], [], rfl, rfl⟩ | _ :: _ => cases hs
  | .un, x, q, v, z, y, x', hs, h, hc, hn, hg, hh => by match q with | [] => cases hs; have := (z2i_ .un x y).symm.trans h; cases this; exact ⟨hc, fun h => h, fun _ h => h, [], [], rfl, rfl⟩ | _ :: _ => cases hs
theorem z6t_ {w : World} : ∀ {t : Ty} {x : L t} {p : List Step} {y : Loc}, subL t x p = some y → (z1_ y.1 y.2).Sublist (z1_ t x) ∧ (plain w t x → plain w y.1 y.2)
  | .sl e t, x, p, y, h => by
    match p with
    | [] => cases h; exact ⟨List.Sublist.refl _, fun h => h⟩
    | .f _ :: _ => cases h
    | .u :: _ => cases h
    | .ix n :: p =>
      obtain ⟨z, hz, h⟩ := Option.bind_eq_some_iff.1 h
      obtain ⟨h1, h2⟩ := z6t_ (w := w) h
      obtain ⟨hlt, hxe⟩ := List.getElem?_eq_some_iff.1 hz
      refine ⟨?_, fun hp => h2 (hp.2 z (List.mem_of_getElem? hz))⟩
      have hsplit : x.2.2 = x.2.2.take n ++ z :: x.2.2.drop (n + 1) := by rw [← hxe, ← List.drop_eq_getElem_cons hlt, List.take_append_drop]
      have hb : z1_ (.sl e t) x = (x.1.toList ++ (x.2.2.take n).flatMap (z1_ t)) ++ (z1_ t z ++ (x.2.2.drop (n + 1)).flatMap (z1_ t)) := by
        simp only [z1_]
        conv => lhs; rw [hsplit]
        simp [List.append_assoc]
      rw [hb]
      exact h1.trans ((List.sublist_append_left _ _).trans (List.sublist_append_right _ _))
  | .st t, x, p, y, h => by
    match p with
    | [] => cases h; exact ⟨List.Sublist.refl _, fun h => h⟩
    | .u :: p => exact z6t_ (t := t) (x := x) (p := p) h
    | .ix n :: p => exact z6t_ (t := t) (x := x) (p := .ix n :: p) h
    | .f b :: p => exact z6t_ (t := t) (x := x) (p := .f b :: p) h
  | .pr a b, x, p, y, h => by
    match p with
    | [] => cases h; exact ⟨List.Sublist.refl _, fun h => h⟩
    | .ix _ :: _ => cases h
    | .u :: _ => cases h
    | .f false :: p =>
      obtain ⟨h1, h2⟩ := z6t_ (w := w) (t := a) (x := x.1) (p := p) h
      exact ⟨h1.trans (List.sublist_append_left _ _), fun hp => h2 hp.1⟩
    | .f true :: p =>
      obtain ⟨h1, h2⟩ := z6t_ (w := w) (t := b) (x := x.2) (p := p) h
      exact ⟨h1.trans (List.sublist_append_right _ _), fun hp => h2 hp.2⟩
  | .int _, x, p, y, h => by match p with | [] => cases h; exact ⟨List.Sublist.refl _, fun h => h⟩ | _ :: _ => cases h
  | .bool, x, p, y, h => by match p with | [] => cases h; exact ⟨List.Sublist.refl _, fun h => h⟩ | _ :: _ => cases h
  | .str, x, p, y, h => by match p with | [] => cases h; exact ⟨List.Sublist.refl _, fun h => h⟩ | _ :: _ => cases h
  | .un, x, p, y, h => by match p with | [] => cases h; exact ⟨List.Sublist.refl _, fun h => h⟩ | _ :: _ => cases h
end Go.Proofs.YtibiofjkgdidmaaGreatDoor.Ev

namespace Go.Proofs.YtibiofjkgdidmaaGreatDoor.Ev
open Go.RowKit

section
variable {P : Program} {E E' : Env} {w0 : World} {ok O : Nat → Prop} {σ σ' : St} {tm : Array Value} {w w' : World} {M M' : Map} {a : Act} {R0 : Type} {res : R0}

theorem Rep.env (R : Rep E w0 ok O σ tm w M) (h1 : E'.ti = E.ti) (h2 : E'.pins = E.pins) (h3 : E'.pinB = E.pinB) : Rep E' w0 ok O σ tm w M where
  slots := R.slots
  rows := R.rows
  boxes := fun i b h => by
    have e : ∀ t, E'.tyOf t = E.tyOf t := fun t => by unfold Env.tyOf; rw [h1]
    obtain ⟨cs, g1, g2, g3⟩ := R.boxes i b h
    exact ⟨cs, g1, g2, fun hc => by rw [e]; exact g3 hc⟩
  rr := R.rr
  bb := R.bb
  rb := R.rb
  ownR := R.ownR
  ownB := R.ownB
  okB := R.okB
  liveS := R.liveS
  liveB := R.liveB
  kept := R.kept
  pin := by rw [h2]; exact R.pin
  pinB := by rw [h3]; exact R.pinB
theorem Rep.slotsTo (R : Rep E w0 ok O σ tm w M) {tm' : Array Value} {sl : List (Nat × SV)} (h : ∀ s v, lk sl s = some v → (∃ u, tm'[s]? = some u ∧ RepS w0 ok M v u) ∧ Live σ v) : Rep E w0 ok O ⟨sl, σ.rows, σ.bx⟩ tm' w M where
  slots := fun s v hv => (h s v hv).1
  rows := R.rows
  boxes := R.boxes
  rr := R.rr
  bb := R.bb
  rb := R.rb
  ownR := R.ownR
  ownB := R.ownB
  okB := R.okB
  liveS := fun s v hv => ⟨(h s v hv).2.rows, (h s v hv).2.boxes⟩
  liveB := fun i b hb => ⟨(R.liveB i b hb).rows, (R.liveB i b hb).boxes⟩
  kept := R.kept
  pin := R.pin
  pinB := R.pinB

def z1b_ (P : Program) [Glob P] (ti : List TI) (g : FuncId) (c : OC) : Prop := c.hi.ok = true ∧ ∀ (E : Env), E.ti = ti → ∀ x y, c.F x = some y → ∀ (w : World) (ok O : Nat → Prop) (M : Map) (vs : List Value), vs.length = c.hi.sl.length → z3r_ P w O →
  Rep E w ok O (c.hi.fill x) vs.toArray w M → Does P g vs.toArray w fun v w' => ∃ M', Rep E w ok O (c.ho.fill y) #[v] w' M'

theorem zim_ (R : Rep E w0 ok O σ tm w M) {h : Head} (hk : h.ok = true) {k : h.T → Option R0} (hg : h.raw σ k = some res) : ∃ x, k x = some res ∧ Rep E w0 ok O (h.fill x) tm w M := by
  unfold Head.raw at hg
  obtain ⟨x, hg, hx⟩ := zia_ hg
  obtain ⟨y, hg, hy⟩ := zib_ hg
  obtain ⟨z, hg, hz⟩ := zic_ hg
  simp only [Head.ok, Bool.and_eq_true, List.all_eq_true] at hk
  refine ⟨(x, y, z), hg, R.le ⟨fun s v hv => hx s v (zw_ hv), fun s v hv => hy s v (zw_ hv), fun s v hv => hz s v (zw_ hv)⟩ (fun s v hv => ?_) (fun i b hb => ?_)⟩
  · obtain ⟨sk, y', h1, rfl⟩ := zid_ (zw_ hv)
    exact zdf_ (hk.1 _ h1)
  · obtain ⟨t, sk, y', h1, rfl⟩ := zie_ (zw_ hb)
    exact zdf_ (hk.2 _ h1)

theorem zsz_ {l : List SV} {c : OC} {j : Nat} {q : List Step} {rest : List SV} (h : zha_ l c = some (j, q, rest)) : (∃ s q', q = s :: q') ∧ l = .ref j q :: rest ∧ rest.all SV.isV = true := by
  unfold zha_ at h
  split at h
  · rename_i j' s q' rest' i' l' _
    cases hv : rest'.all SV.isV <;> rw [hv] at h <;> cases h
    exact ⟨⟨_, _, rfl⟩, rfl, hv⟩
  · cases h
def zt0_ (x : Loc) : Map := ⟨fun _ => x, fun _ => 0, fun _ => 0, fun _ => 0⟩
def zin_ (E : Env) (x : Loc) : Env := { E with pins := fun _ => hdL x }
theorem zt1_ (R : Rep E w0 ok O σ tm w M) {j : Nat} {q : List Step} {r : Row} (hr : lk σ.rows j = some r) {l0 : L (.sl r.e r.t)} (hl0 : M.loc j = ⟨.sl r.e r.t, l0⟩) {e : TypeId} {u : Ty} {z0 : L (.sl e u)} (hz : subL (.sl r.e r.t) l0 q = some ⟨.sl e u, z0⟩) (hrz : r.z = false)
    {rest : List SV} {vs : List Value} (hl : rest.length + 1 = vs.length) (hs : ∀ (k : Nat) s v, (SV.ref j q :: rest)[k]? = some s → vs[k]? = some v → RepS w0 ok M s v) (hv : rest.all SV.isV = true) :
    Rep (zin_ E ⟨.sl e u, z0⟩) w ok (fun k => k ∈ z1_ (.sl e u) z0) ⟨(0, .ref PIN []) :: z4q_ rest 1, [(PIN, ⟨e, u, erase (.sl e u) z0, false⟩)], []⟩ vs.toArray w (zt0_ ⟨.sl e u, z0⟩) := by
  obtain ⟨l0', g1, g2, g3, g4, g5⟩ := R.rows j r hr
  rw [hl0] at g1
  cases g1
  obtain ⟨k1, k2⟩ := subL_holds hz g3
  obtain ⟨k3, k4⟩ := z6t_ (w := w) hz
  have one : ∀ i r', lk [(PIN, (⟨e, u, erase (.sl e u) z0, false⟩ : Row))] i = some r' → i = PIN ∧ r' = (⟨e, u, erase (.sl e u) z0, false⟩ : Row) := fun i r' h => z2z_ h
  have notOk : ∀ k, k ∈ z1_ (.sl e u) z0 → ¬ ok k := fun k h => (R.ownR j ⟨r, hr⟩ k (by rw [hl0]; exact k2 k h)).1
  have slot : ∀ s v, lk ((0, SV.ref PIN []) :: z4q_ rest 1) s = some v → (s = 0 ∧ v = .ref PIN []) ∨ ∃ k t x, s = k + 1 ∧ rest[k]? = some v ∧ v = .val t x := fun s v h => by
    rw [zk_] at h
    split at h
    · rename_i hh; cases h; exact .inl ⟨hh.symm, rfl⟩
    · obtain ⟨k, e1, e2⟩ := zdn_ h
      have := List.all_eq_true.1 hv v (List.mem_of_getElem? e2)
      cases v <;> first | (cases this; done) | exact .inr ⟨k, _, _, by omega, e2, rfl⟩
  constructor
  · intro s v h
    rcases slot s v h with ⟨rfl, rfl⟩ | ⟨k, t, x, rfl, e2, rfl⟩
    · have hlt : 0 < vs.length := by omega
      refine ⟨vs[0], by simp [hlt], ?_⟩
      obtain ⟨cs, ⟨e', t', l', h1, h2⟩, h3⟩ := hs 0 _ vs[0] rfl (List.getElem?_eq_getElem hlt)
      rw [hl0] at h1
      have h1 := hz.symm.trans h1
      cases h1
      exact ⟨cs, ⟨e, u, z0, z3a_ _ _, h2⟩, h3⟩
    · have hlt : k + 1 < vs.length := by have := (List.getElem?_eq_some_iff.1 e2).1; omega
      refine ⟨vs[k + 1], by simp [hlt], ?_⟩
      obtain ⟨cs, h1, h2⟩ := hs (k + 1) _ vs[k + 1] (by simpa using e2) (List.getElem?_eq_getElem hlt)
      exact ⟨cs, R.rd h1, h2⟩
  · intro i r' h
    obtain ⟨_, rfl⟩ := one i r' h
    exact ⟨z0, rfl, rfl, k1, k3.nodup g4, fun _ => k4 (g5 hrz)⟩
  · intro i b h; cases h
  · rintro i i' hij ⟨r1, h1⟩ ⟨r2, h2⟩
    exact absurd ((one _ _ h1).1.trans (one _ _ h2).1.symm) hij
  · rintro i i' hij ⟨b, hb⟩; cases hb
  · rintro i i' _ ⟨b, hb⟩; cases hb
  · rintro i _ k hk
    exact ⟨notOk k hk, .inl hk⟩
  · rintro i ⟨b, hb⟩; cases hb
  · exact fun k hk => ⟨R.ok_lt hk, fun h => notOk k h hk⟩
  · intro s v h
    rcases slot s v h with ⟨rfl, rfl⟩ | ⟨k, t, x, rfl, e2, rfl⟩
    · refine ⟨fun i hi => ?_, fun i hi => by simp [SV.boxes] at hi⟩
      simp only [SV.roots, List.mem_singleton] at hi
      subst hi
      exact ⟨_, by rw [zk_, if_pos rfl]⟩
    · exact ⟨fun i hi => by simp [SV.roots] at hi, fun i hi => by simp [SV.boxes] at hi⟩
  · intro i b h; cases h
  · exact Kept.refl _ _
  · rintro i hi ⟨r', h⟩
    exact znd_ rfl
  · rintro i hi ⟨b, hb⟩; cases hb
theorem zt2_ [Glob P] (G : z3r_ P w0 O) (R : Rep E w0 ok O σ tm w M) {j : Nat} {r : Row} (hr : lk σ.rows j = some r) {bs : List Nat} (hb : ∀ k ∈ bs, k ∈ z1_ (M.loc j).1 (M.loc j).2) : z3r_ P w (fun k => k ∈ bs) := by
  refine ⟨G.now R.kept, fun k hk hO => ?_⟩
  have hlt := Glob.lt w0 G.1 k hk
  rcases (R.ownR j ⟨r, hr⟩ k (hb k hO)).2 with h | h
  · exact G.2 k hk h
  · omega
theorem zt3_ (R : Rep E w0 ok O σ tm w M) {j : Nat} {q : List Step} {s0 : Step} {q' : List Step} (hq : q = s0 :: q') {r : Row} (hr : lk σ.rows j = some r) {l0 : L (.sl r.e r.t)} (hl0 : M.loc j = ⟨.sl r.e r.t, l0⟩) {e : TypeId} {u : Ty} {z0 : L (.sl e u)} (hz : subL (.sl r.e r.t) l0 q = some ⟨.sl e u, z0⟩) (hrz : r.z = false)
    {τ : St} {v : Value} (R' : Rep (zin_ E ⟨.sl e u, z0⟩) w ok (fun k => k ∈ z1_ (.sl e u) z0) τ #[v] w' M') {dst : Option Tmp} (hin : inB dst tm) {k : St → Option R0} (h : zhb_ σ dst j r q e u τ k = some res) :
    ∃ (σ'' : St) (M'' : Map), k (σ''.put dst (match lk τ.sl 0 with | some s => s | none => .un)) = some res ∧ Rep E w0 ok O (σ''.put dst (match lk τ.sl 0 with | some s => s | none => .un)) (putT tm dst v) w' M'' := by
  obtain ⟨l0', g1, g2, g3, g4, g5⟩ := R.rows j r hr
  have g1 := hl0.symm.trans g1
  cases g1
  obtain ⟨_, k2⟩ := subL_holds hz g3
  unfold zhb_ at h
  split at h
  rotate_left
  · cases h
  rename_i t x r' hs0 hr'
  obtain ⟨re, rt, rx, rz⟩ := r'
  cases rz
  rotate_left
  · cases h
  simp only [cond_false] at h
  unfold zm_ at h
  split at h
  rotate_left
  · cases h
  rename_i he
  cases he
  obtain ⟨l1, f1, f2, f3, f4, f5⟩ := R'.rows PIN _ hr'
  simp only at f1 f2 f3 f4 f5
  have f5 := f5 trivial
  simp only at h
  have h : setC (.sl r.e r.t) r.xs q (.sl e u) rx (fun xs => k (((σ.killIn j (ixs q - 1)).setRow j ⟨r.e, r.t, xs, r.z⟩).put dst (.val t x))) = some res := h
  rw [← g2, ← f2, z4x_] at h
  obtain ⟨x', hx', h⟩ := Option.bind_eq_some_iff.1 h
  have hc : z7_ (.sl e u) l1 = z7_ (.sl e u) z0 := by
    have := R'.pin PIN (Nat.le_refl _) ⟨_, hr'⟩
    rw [f1] at this
    exact this
  obtain ⟨c1, c2, c3, A, C, c4, c5⟩ := z6s_ (G := z1_ (.sl e u) z0) (fun k hk hn => R'.kept.block k hk hn) (.sl r.e r.t) l0 q (.sl e u) z0 l1 x' hz hx' hc g4 (fun _ h => h) g3
  have own1 : ∀ k ∈ z1_ (.sl e u) l1, ¬ ok k ∧ (k ∈ z1_ (.sl e u) z0 ∨ w.heap.size ≤ k) := fun k hk => R'.ownR PIN ⟨_, hr'⟩ k (by rw [f1]; exact hk)
  have lt0 : ∀ k ∈ z1_ (.sl r.e r.t) l0, k < w.heap.size := z10_ g3
  have hix : ixs q - 1 < ixs q := by
    subst hq
    cases s0 with
    | ix n => show ixs q' + 1 - 1 < ixs q' + 1; omega
    | f b => cases hz
    | u => cases hz
  obtain ⟨Rk, kS, kB⟩ := R.killIn j (ixs q - 1)
  have hU := Rk.upd (j := j) (r := r) hr (l := l0) (l' := x') hl0 (bs := (z1_ (.sl e u) l1).filter fun k => decide (w.heap.size ≤ k)) (w' := w')
    ⟨R'.kept.os, R'.kept.tape, R'.kept.output, R'.kept.size, fun k hk hn => R'.kept.block k hk fun h => hn (k2 k h)⟩ (c2 f3) ?_ (fun _ => c3 (g5 hrz) f5) c1 ?_ ?_ ?_ ?_
  · refine ⟨(σ.killIn j (ixs q - 1)).setRow j ⟨r.e, r.t, erase (.sl r.e r.t) x', r.z⟩, _, ?_, Rep.putV hU ?_ ?_ hin⟩
    · rw [hs0]; exact h
    · rw [hs0]
      obtain ⟨y, y1, cs, y2, y3⟩ := R'.slots 0 _ hs0
      have y1 : y = v := by simpa using y1.symm
      subst y1
      exact ⟨cs, Rd.move (fun k hk => (R.ok_kept hk).symm) y2, y3⟩
    · rw [hs0]
      exact ⟨fun i hi => by simp [SV.roots] at hi, fun i hi => by simp [SV.boxes] at hi⟩
  · rw [c5]
    rw [c4] at g4 lt0
    obtain ⟨n1, n2, n3⟩ := List.nodup_append.1 g4
    obtain ⟨n4, n5, n6⟩ := List.nodup_append.1 n1
    refine List.nodup_append.2 ⟨List.nodup_append.2 ⟨n4, f4, fun a ha b hb e => ?_⟩, n2, fun a ha b hb e => ?_⟩
    · subst e
      rcases (own1 a hb).2 with h1 | h1
      · exact n6 a ha a h1 rfl
      · have := lt0 a (by simp [ha]); omega
    · subst e
      rcases List.mem_append.1 ha with ha | ha
      · exact n3 a (List.mem_append.2 (.inl ha)) a hb rfl
      · rcases (own1 a ha).2 with h1 | h1
        · exact n3 a (List.mem_append.2 (.inr h1)) a hb rfl
        · have := lt0 a (by simp [hb]); omega
  · intro a ha
    rw [c5] at ha
    rcases List.mem_append.1 ha with ha | ha
    · rcases List.mem_append.1 ha with ha | ha
      · exact .inl (by rw [c4]; simp [ha])
      · rcases (own1 a ha).2 with h1 | h1
        · exact .inl (k2 a h1)
        · exact .inr (List.mem_filter.2 ⟨ha, decide_eq_true h1⟩)
    · exact .inl (by rw [c4]; simp [ha])
  · have big : ∀ a ∈ (z1_ (.sl e u) l1).filter (fun k => decide (w.heap.size ≤ k)), w.heap.size ≤ a := fun a ha => of_decide_eq_true (List.mem_filter.1 ha).2
    refine ⟨f4.filter _, fun a ha => ⟨(own1 a (List.mem_filter.1 ha).1).1, .inr (Nat.le_trans R.kept.size (big a ha))⟩, fun i hi a ha hb => ?_, fun i hi ha => ?_⟩
    · obtain ⟨r1, h1⟩ := hi
      obtain ⟨l2, d1, _, d2, _⟩ := Rk.rows i r1 h1
      rw [d1] at hb
      have := z10_ d2 a hb
      have := big a ha
      omega
    · obtain ⟨b, h1⟩ := hi
      obtain ⟨cs, _, d1, _⟩ := Rk.boxes i b h1
      have := (Array.getElem?_eq_some_iff.1 d1).1
      have := big _ ha
      omega
  · exact fun s v hv p hp => z2k_ _ l0 q _ l1 x' p hx' (Nat.lt_of_le_of_lt (kS s v hv p hp) hix)
  · exact fun i b hb p hp => z2k_ _ l0 q _ l1 x' p hx' (Nat.lt_of_le_of_lt (kB i b hb p hp) hix)
theorem zne_ {w0 : World} {ok : Nat → Prop} {M : Map} : ∀ {t : Ty} {x : t.T} {cs : List Value}, Rd w0 ok t x cs → RepV w0 ok M (zh8_ t x) cs
  | .un, _, _, h => h
  | .pr a b, x, cs, h => by
    obtain ⟨c1, c2, h1, h2, h3⟩ := h
    exact ⟨c1, c2, h1, h2, zne_ h3⟩
  | .int _, _, _, h => h
  | .bool, _, _, h => h
  | .str, _, _, h => h
  | .sl _ _, _, _, h => h
  | .st _, _, _, h => h
  | .ptr _, _, _, h => h
  | .fn _ _, _, _, h => h
theorem zt4_ (R : Rep E w0 ok O σ tm w M) {a : Act} (hat : a.tmps = tm) {f : Operand} {g : FuncId} {cs : SV} (h : opdF σ f = some (.clo g cs)) : ∃ caps : Array Value, a.eval f = .func (.func g) #[] caps ∧ RepV w0 ok M cs caps.toList := by
  unfold opdF at h
  split at h
  · rename_i s hs
    have h : s.asClo = .clo g cs := Option.some.inj h
    obtain ⟨h1, _⟩ := zs_ R hat hs
    unfold SV.asClo at h
    split at h
    · rename_i g' ct x
      cases h
      obtain ⟨q, ⟨caps, hc, hcr⟩, hw⟩ := h1
      subst hc
      refine ⟨caps, ?_, zne_ hcr⟩
      rcases hw with ⟨h5, _⟩ | ⟨_, h5⟩
      · cases h5
      · simp only [List.cons.injEq, and_true] at h5; exact h5.symm
    · subst h
      obtain ⟨q, ⟨caps, hc, hcr⟩, hw⟩ := h1
      subst hc
      refine ⟨caps, ?_, hcr⟩
      rcases hw with ⟨h5, _⟩ | ⟨_, h5⟩
      · cases h5
      · simp only [List.cons.injEq, and_true] at h5; exact h5.symm
  · cases h

theorem zt5_ [Glob P] (G : z3r_ P w0 O) (R : Rep E w0 ok O σ tm w M) {l : List SV} {ids bids : List Nat} (H : InOK σ l ids bids) : z3r_ P w (Own M ids bids) := by
  refine ⟨G.now R.kept, fun k hb hO => ?_⟩
  have hlt := Glob.lt w0 G.1 k hb
  rcases hO with ⟨i, hi, hk⟩ | ⟨b, hbi, rfl⟩
  · rcases (R.ownR i (H.rows i hi) k hk).2 with h | h
    · exact G.2 k hb h
    · omega
  · rcases (R.ownB b (let ⟨x, hx, _⟩ := H.bx b hbi; ⟨x, hx⟩)).2 with h | h
    · exact G.2 _ hb h
    · omega
theorem zt6_ (R : Rep E w0 ok O σ a.tmps w M) {d : Nat} {args : List Operand} {ts : List TypeId} {σ' : St} {l : List SV} (h : zh9_ E σ d args ts = some (σ', l)) :
    ∃ M', Rep E w0 ok O σ' a.tmps w M' ∧ l.length = args.length ∧ ∀ (i : Nat) x s, args[i]? = some x → l[i]? = some s → RepS w0 ok M' s (a.eval x) := by
  unfold zh9_ at h
  split at h
  · rename_i l0 t ts0
    split at h
    · rename_i e e' u b hti
      cases hpin : Nat.blt (5000000 + 32 * d) PIN <;> rw [hpin] at h
      · cases h
      · simp only [cond_true] at h
        split at h
        · rename_i ss hss
          cases h
          have R' := R.addOwn (5000000 + 32 * d) (Nat.le_of_ble_eq_true hpin) (e := e) (t := u) (none, 0, []) ⟨⟨rfl, rfl⟩, by simp⟩ ⟨fun b hb => (nomatch hb), by simp⟩ (by simp only [z1_]; exact Free.nil)
          obtain ⟨e1, e2⟩ := z5r_ R' rfl hss
          refine ⟨_, R', by simp [e1], fun i x s hx hs => ?_⟩
          cases i with
          | zero =>
            simp at hx hs
            subst hx; subst hs
            exact ⟨[.slice none 0 0], ⟨e, u, (none, 0, []), (congrArg (fun z : Loc => subL z.1 z.2 []) (z1g_ M.loc (5000000 + 32 * d) ⟨.sl e u, (none, 0, [])⟩)).trans rfl, rfl⟩, .inr ⟨rfl, rfl⟩⟩
          | succ i =>
            simp only [List.getElem?_cons_succ] at hx hs
            exact (e2 i x s hx hs).1
        · cases h
    · cases h
  · split at h
    · rename_i ss hss
      cases h
      obtain ⟨e1, e2⟩ := z5r_ R rfl hss
      exact ⟨M, R, e1, fun i x s hx hs => (e2 i x s hx hs).1⟩
    · cases h
theorem zdp_ [Glob P] (H : ∀ s g c, E.opn s = some (g, c) → z1b_ P E.ti g c) (G : z3r_ P w0 O) : z31_ P E w0 O := by
  intro R0 res ok σ a w M o g c f args ts k ho R hop hin hd h next Q hn'
  obtain ⟨hiok, HO⟩ := H _ _ _ ho
  have R1 := R.clean (zn_ o)
  unfold zaz_ at h
  generalize σ.clean (zn_ o) = σ0 at R1 h
  split at h
  · rename_i σ1 l hl
    obtain ⟨M1, R1, e1, e2⟩ := zt6_ (a := a) R1 hl
    split at h
    rotate_left
    · cases h
    rename_i g' cs hf
    cases hk : (!(Nat.beq g g' && cs.caps.all SV.cap1)) <;> rw [hk] at h
    · simp only [cond_false] at h
      simp only [Bool.not_eq_false', Bool.and_eq_true] at hk
      have hgg := Nat.eq_of_beq_eq_true hk.1
      subst hgg
      obtain ⟨caps, hv, hcr⟩ := zt4_ R1 rfl hf
      have hrun : (execOp a.eval o).run P w = (callFunc g ((args.toList.map a.eval) ++ caps.toList).toArray).run P w := by
        unfold execOp
        rw [hop]
        simp only [resolve, hv, Deferred.ofValue, Sem.run_bind, Sem.run_pure, Result.andThen_ok, invoke]
        congr 2
        apply Array.ext'
        simp
      obtain ⟨g1, g2⟩ := zhu_ hk.2 hcr
      have hlen : (l ++ cs.caps).length = ((args.toList.map a.eval) ++ caps.toList).length := by simp [e1, g1]
      have hs : ∀ (i : Nat) s v, (l ++ cs.caps)[i]? = some s → ((args.toList.map a.eval) ++ caps.toList)[i]? = some v → RepS w0 ok M1 s v := by
        intro i s v hs hv
        by_cases hi : i < l.length
        · rw [List.getElem?_append_left hi] at hs
          rw [List.getElem?_append_left (by rw [List.length_map, ← e1]; exact hi), List.getElem?_map, Option.map_eq_some_iff] at hv
          obtain ⟨x, hx, rfl⟩ := hv
          exact e2 i x s hx hs
        · rw [List.getElem?_append_right (by omega)] at hs
          rw [List.getElem?_append_right (by rw [List.length_map, ← e1]; omega), List.length_map, ← e1] at hv
          exact g2 _ s v hs hv
      have hlen2 := hlen
      split at h
      · rename_i j q rest hbq
        obtain ⟨⟨s0, q', hq⟩, hll, hv⟩ := zsz_ hbq
        rw [hll] at hs hlen
        unfold zks_ at h
        split at h
        rotate_left
        · cases h
        rename_i r hr
        cases hrz : r.z <;> rw [hrz] at h
        rotate_left
        · cases h
        simp only [cond_false] at h
        obtain ⟨l0, m1, m2, m3, m4, m5⟩ := R1.rows j r hr
        rw [← m2, z1l_, z2r_] at h
        obtain ⟨y0, hy0, h⟩ := Option.bind_eq_some_iff.1 h
        obtain ⟨z, hz, rfl⟩ := Option.map_eq_some_iff.1 hy0
        obtain ⟨zt, zx⟩ := z
        cases zt with
        | sl e u =>
          simp only [zcp_] at h
          cases hn : Nat.beq (rest.length + 1) c.hi.sl.length <;> rw [hn] at h
          · cases h
          · simp only [cond_true] at h
            have hlen' : rest.length + 1 = ((args.toList.map a.eval) ++ caps.toList).length := by simpa using hlen
            have Rin := zt1_ R1 hr m1 hz hrz hlen' hs hv
            obtain ⟨x, h, Rx⟩ := zim_ Rin hiok h
            obtain ⟨y, hy, h⟩ := Option.bind_eq_some_iff.1 h
            have hdo := HO (zin_ E ⟨.sl e u, zx⟩) rfl x y hy w ok _ _ _ (by rw [← hlen']; exact Nat.eq_of_beq_eq_true hn) (zt2_ G R1 hr fun k hk => by rw [m1]; exact (subL_holds hz m3).2 k hk) Rx
            unfold Oper.wp
            rw [hrun]
            refine hdo.upon fun v w' ⟨M', R'⟩ => ?_
            obtain ⟨σ'', M'', h, R''⟩ := zt3_ R1 hq hr m1 hz hrz R' hin h
            refine hn' _ _ w' M'' h ?_ (by rw [z1m_, z42_]) (by rw [z41_]; exact hd)
            rw [z1m_]
            exact R''
        | _ => simp only [zcp_] at h; cases h
      rename_i hnb
      unfold zaz_.open1 zaz_.open2 at h
      generalize zcj_ σ1 8 (z36_ ((l ++ cs.caps).flatMap SV.boxes) []) = bids at h
      generalize z36_ ((l ++ cs.caps).flatMap SV.roots ++ bids.flatMap (zci_ σ1)) [] = ids at h
      cases hq : (σ1.okIn (l ++ cs.caps) ids bids && Nat.beq (l ++ cs.caps).length c.hi.sl.length) <;> rw [hq] at h
      · cases h
      · simp only [cond_true] at h
        simp only [Bool.and_eq_true] at hq
        have HI := zsn_ hq.1
        have Rin := zso_ R1 HI hlen hs
        obtain ⟨x, h, Rx⟩ := zim_ Rin hiok h
        obtain ⟨y, hy, h⟩ := Option.bind_eq_some_iff.1 h
        have hdo := HO (zil_ E M1 ids bids) rfl x y hy w ok _ _ _ (by rw [← hlen]; exact Nat.eq_of_beq_eq_true hq.2) (zt5_ G R1 HI) Rx
        unfold Oper.wp
        rw [hrun]
        refine hdo.upon fun v w' ⟨M', R'⟩ => ?_
        cases hb : σ1.okBack (c.ho.fill y) ids bids (zn_ o) <;> rw [hb] at h
        · cases h
        · simp only [cond_true] at h
          split at h
          · rename_i v0 hv0
            obtain ⟨M'', R''⟩ := zsy_ R1 HI R' (zsw_ hb) hv0 hin
            refine hn' _ _ w' M'' h ?_ (by rw [z1m_, z42_]) (by rw [z41_]; exact hd)
            rw [z1m_]
            exact R''
          · cases h
    · cases h
  · cases h

theorem zt7_ {s r : SV} {b : Bool} (h : s.half b = some r) : (∀ i ∈ r.roots, i ∈ s.roots) ∧ ∀ i ∈ r.boxes, i ∈ s.boxes := by
  match s, b, h with
  | .val (.pr a b) x, false, h => cases h; exact ⟨by simp [SV.roots], by simp [SV.boxes]⟩
  | .val (.pr a b) x, true, h => cases h; exact ⟨by simp [SV.roots], by simp [SV.boxes]⟩
  | .val (.st (.pr a b)) x, false, h => cases h; exact ⟨by simp [SV.roots], by simp [SV.boxes]⟩
  | .val (.st (.pr a b)) x, true, h => cases h; exact ⟨by simp [SV.roots], by simp [SV.boxes]⟩
  | .pr a b, false, h => cases h; exact ⟨fun i hi => by simp [SV.roots, hi], fun i hi => by simp [SV.boxes, hi]⟩
  | .pr a b, true, h => cases h; exact ⟨fun i hi => by simp [SV.roots, hi], fun i hi => by simp [SV.boxes, hi]⟩
  | .st (.pr a b), false, h => cases h; exact ⟨fun i hi => by simp [SV.roots, hi], fun i hi => by simp [SV.boxes, hi]⟩
  | .st (.pr a b), true, h => cases h; exact ⟨fun i hi => by simp [SV.roots, hi], fun i hi => by simp [SV.boxes, hi]⟩
theorem znf_ : ∀ {p : List Bool} {s r : SV}, s.part p = some r → (∀ i ∈ r.roots, i ∈ s.roots) ∧ ∀ i ∈ r.boxes, i ∈ s.boxes
  | [], s, r, h => by cases h; exact ⟨fun _ h => h, fun _ h => h⟩
  | b :: p, s, r, h => by
    simp only [SV.part] at h
    split at h
    · rename_i z hz
      obtain ⟨h1, h2⟩ := znf_ h
      obtain ⟨k1, k2⟩ := zt7_ hz
      exact ⟨fun i hi => k1 i (h1 i hi), fun i hi => k2 i (h2 i hi)⟩
    · cases h
theorem zt8_ (R : Rep E w0 ok O σ tm w M) {r : ResultVar} {s : SV} (h : resV E σ r = some s) : Live σ s := by
  cases r with
  | tmp t => exact R.liveS t s h
  | cell a t =>
    simp only [resV] at h
    split at h
    · rename_i j q o hs
      split at h
      · rename_i b hb
        split at h
        · rename_i s' hp
          cases hk : (Nat.beq (b.c.offP q) o && (s'.fit (E.tyOf t)).okW (E.tyOf t)) <;> rw [hk] at h
          · cases h
          · cases h
            have hL := R.liveB j b hb
            obtain ⟨h1, h2⟩ := znf_ hp
            exact zsd_ _ _ ⟨fun i hi => hL.rows i (h1 i hi), fun i hi => hL.boxes i (h2 i hi)⟩
        · cases h
      · cases h
    · cases h
theorem zio_ (T : zj_ P E.ti = true) (R : Rep E w0 ok O σ tm w M) : ∀ {rs : List ResultVar} {l : List SV}, z86_ E σ rs = some l → ∃ vs, Rvs P tm w rs vs ∧ vs.length = l.length ∧ ∀ (i : Nat) s v, l[i]? = some s → vs[i]? = some v → RepS w0 ok M s v ∧ Live σ s
  | [], l, h => by cases h; exact ⟨[], trivial, rfl, by simp⟩
  | r :: rs, l, h => by
    simp only [z86_] at h
    split at h
    · rename_i s ss h1 h2
      cases h
      obtain ⟨v, g1, g2⟩ := zmx_ T R h1
      obtain ⟨vs, k1, k2, k3⟩ := zio_ T R h2
      refine ⟨v :: vs, ⟨g1, k1⟩, by simp [k2], fun i s' v' hs hv => ?_⟩
      cases i with
      | zero => simp at hs hv; subst hs; subst hv; exact ⟨g2, zt8_ R h1⟩
      | succ i => simp only [List.getElem?_cons_succ] at hs hv; exact k3 i s' v' hs hv
    · cases h
theorem zng_ : ∀ {l : List SV} {vs : List Value}, vs.length = l.length → (∀ (i : Nat) s v, l[i]? = some s → vs[i]? = some v → RepS w0 ok M s v ∧ Live σ s) → l.all SV.nt = true → RepT w0 ok M (z1p_ l) vs ∧ Live σ (z1p_ l)
  | [], [], _, _, _ => ⟨rfl, ⟨by simp [z1p_, SV.roots], by simp [z1p_, SV.boxes]⟩⟩
  | s :: l, v :: vs, hl, H, hk => by
    simp only [List.all_cons, Bool.and_eq_true] at hk
    obtain ⟨h1, h2⟩ := zng_ (l := l) (vs := vs) (by simpa using hl) (fun i s v a b => H (i + 1) s v a b) hk.2
    obtain ⟨h3, h4⟩ := H 0 s v rfl rfl
    refine ⟨⟨v, vs, rfl, ?_, h1⟩, ⟨fun i hi => ?_, fun i hi => ?_⟩⟩
    · rcases z27_ h3 with rfl | ⟨c, q, rfl, _⟩ | ⟨cs, g1, g2⟩
      · simp [SV.nt] at hk
      · simp [SV.nt] at hk
      · exact ⟨cs, g1, g2⟩
    · simp only [z1p_, SV.roots, List.mem_append] at hi
      exact hi.elim (h4.rows i) (h2.rows i)
    · simp only [z1p_, SV.boxes, List.mem_append] at hi
      exact hi.elim (h4.boxes i) (h2.boxes i)
  | [], _ :: _, hl, _, _ => by simp at hl
  | _ :: _, [], hl, _, _ => by simp at hl

theorem zt9_ (T : zj_ P E.ti = true) (R : Rep E w0 ok O σ tm w M) {fn : Func} {rs : List ResultVar} (hr : fn.results.toList = rs) {ho : Head} (hok : ho.ok = true) {y : ho.T} (h : rdO E rs ho σ = some y) : ∃ v M', (results fn tm).run P w = .ok v w ∧ Rep E w0 ok O (ho.fill y) #[v] w M' := by
  unfold rdO at h
  split at h
  · rename_i l hl
    obtain ⟨vs, h1, h2, h3⟩ := zio_ T R hl
    cases hk : l.all SV.nt <;> rw [hk] at h
    · cases h
    · simp only [cond_true] at h
      have R2 : Rep E w0 ok O ⟨[(0, one1 l)], σ.rows, σ.bx⟩ #[if h : vs.toArray.size = 1 then vs.toArray[0] else .tuple vs.toArray] w M := by
        refine R.slotsTo fun s v hv => ?_
        rw [zk_] at hv
        split at hv
        · rename_i e
          subst e
          cases hv
          refine (fun (x : RepS w0 ok M (one1 l) _ ∧ Live σ (one1 l)) => ⟨⟨_, rfl, x.1⟩, x.2⟩) ?_
          obtain ⟨c1, c2⟩ := zng_ h2 h3 hk
          match l, vs, h2 with
          | [s], [v], _ => exact h3 0 s v rfl rfl
          | [], [], _ => exact ⟨⟨_, rfl, c1⟩, ⟨c2.rows, c2.boxes⟩⟩
          | s :: s' :: l, v :: v' :: vs, _ =>
            rw [dif_neg (by simp)]
            exact ⟨⟨_, rfl, c1⟩, ⟨c2.rows, c2.boxes⟩⟩
        · cases hv
      obtain ⟨y', M', g1, g2⟩ := z8g_ R2 hok h
      cases g1
      exact ⟨_, M', zdg_ hr h1, g2⟩
  · cases h

structure FnO (P : Program) (ti : List TI) (tab : List (Nat × FE)) (opn : Nat → Option (FuncId × OC)) (g : FuncId) (c : OC) : Prop where
  hi : c.hi.ok = true
  ho : c.ho.ok = true
  ex : ∃ (fn : Func) (cd : Code) (rs : List ResultVar) (LO : Oracles c.ho.T), P.funcs[g]? = some fn ∧ fn.body = some cd ∧ (fn.name == "runtime.NumGoroutine") = false ∧ fn.results.toList = rs ∧ c.hi.sl.length ≤ fn.ntmps ∧
    ∀ pins pinB, CodeOK (z3_ ti tab opn pins pinB) LO (rdO (z3_ ti tab opn pins pinB) rs c.ho) fn.ntmps cd ∧
      ∀ x, evC (z3_ ti tab opn pins pinB) LO (rdO (z3_ ti tab opn pins pinB) rs c.ho) cd (c.hi.fill x) (rdO (z3_ ti tab opn pins pinB) rs c.ho) (fun _ _ => none) = c.F x

theorem FnO.contract [Glob P] {ti : List TI} {tab : List (Nat × FE)} {opn : Nat → Option (FuncId × OC)} (T : zj_ P ti = true) (HT : htOK ti = true) (hmix : P.follows .mixedOrders = true) (S : ∀ e ∈ tab, FnOK P e.1 e.2) (KO : ∀ s g c, opn s = some (g, c) → z1b_ P ti g c) {g : FuncId} {c : OC}
    (H : FnO P ti tab opn g c) : z1b_ P ti g c := by
  refine ⟨H.hi, fun E hE x y hF w ok O M vs hlen G R => ?_⟩
  obtain ⟨fn, cd, rs, LO, h1, h2, h3, h4, h5, h6⟩ := H.ex
  obtain ⟨h7, h8⟩ := h6 E.pins E.pinB
  have R1 : Rep (z3_ ti tab opn E.pins E.pinB) w ok O (c.hi.fill x) vs.toArray w M := R.env hE.symm rfl rfl
  have K : z31_ P (z3_ ti tab opn E.pins E.pinB) w O := zdp_ KO G
  have EQ : EqOK P (z3_ ti tab opn E.pins E.pinB) := EqOK.of T HT
  have SS : SpecOK P (z3_ ti tab opn E.pins E.pinB) w O := SpecOK.of S G
  unfold Does
  rw [z60_ h1 h2 h3]
  simp only []
  refine calls_of_wp h1 h2 ?_
  have hrd : ∀ e : Exit, (e = .normal ∨ e = .ret) → Then (z3_ ti tab opn E.pins E.pinB) w ok O y fn.ntmps (rdO (z3_ ti tab opn E.pins E.pinB) rs c.ho) (bodyPost P fn (fun | .returned v, w'' => ∃ M', Rep E w ok O (c.ho.fill y) #[v] w'' M' | _, _ => False) e) := by
    intro e he σ1 a1 w1 M1 hk R1 hn1 hd1
    obtain ⟨v, M2, g1, g2⟩ := zt9_ T R1 h4 H.ho hk
    have hb : a1.defers = [] ∧ ∃ v, (results fn a1.tmps).run P w1 = .ok v w1 ∧ ∃ M', Rep E w ok O (c.ho.fill y) #[v] w1 M' := ⟨hd1, v, g1, M2, g2.env hE rfl rfl⟩
    rcases he with rfl | rfl
    · exact hb
    · exact hb
  have hev := h8 x
  rw [hF] at hev
  have R2 : Rep (z3_ ti tab opn E.pins E.pinB) w ok O (c.hi.fill x) (vs.toArray ++ Array.replicate (fn.ntmps - vs.toArray.size) undef) w M :=
    R1.slotsTo fun s v hv => by
      obtain ⟨u, e1, e2⟩ := R1.slots s v hv
      exact ⟨⟨u, by rw [Array.getElem?_append_left (Array.getElem?_eq_some_iff.1 e1).1]; exact e1, e2⟩, R1.liveS s v hv⟩
  refine z3t_ T EQ SS K hmix h7 hev R2 (by simp only [Array.size_append, Array.size_replicate, List.size_toArray, hlen]; omega) rfl (hrd _ (.inl rfl)) (fun id => ?_) (hrd _ (.inr rfl))
  intro σ1 a1 w1 M1 hk
  cases hk
end
end Go.Proofs.YtibiofjkgdidmaaGreatDoor.Ev

namespace Go.Proofs.YtibiofjkgdidmaaGreatDoor.Ev
open Go.RowKit

abbrev z0_ (x : Int) : Int := IntKind.i64.wrap x
abbrev w_u8 (x : Int) : Int := IntKind.u8.wrap x
abbrev z6u_ (x : Int) : Int := IntKind.u64.wrap x
abbrev to_S (xs : List Int) : List UInt8 := xs.map fun (n : Int) => n.toNat.toUInt8
abbrev of_S (x : List UInt8) : List Int := x.map fun b => (b.toNat : Int)
abbrev z_u8 (b : UInt8) : Int := (b.toNat : Int)
def z2_ (f : Func) : Code := match f.body with | some c => c | none => .skip

section
variable {P : Program} {E : Env} {R0 : Type}
theorem zf_ {l : List Code} {n : Nat} (hl : l.length = n) {Q : Code → Prop} (h : ∀ i, i < n → Q (l.getD i .skip)) : ∀ b ∈ l, Q b := by
  intro b hb
  obtain ⟨i, hi⟩ := List.getElem?_of_mem hb
  have hlt := (List.getElem?_eq_some_iff.1 hi).1
  have := h i (by rw [← hl]; exact hlt)
  rw [List.getD_eq_getElem?_getD, hi] at this
  exact this
theorem zd_ {LO : Oracles R0} {rd : St → Option R0} {b : Code} {f0 : St → (Nat → St → Option R0) → Option R0} (h : LO.loop (z2q_ b) = some f0) (k : zc_ E LO rd b f0) : ∀ f, LO.loop (z2q_ b) = some f → zc_ E LO rd b f := by
  intro f hf
  rw [h] at hf
  cases hf
  exact k
theorem zip_ [Glob P] {ti : List TI} {l : List (Nat × FuncId × OC)} (h : ∀ x ∈ l, z1b_ P ti x.2.1 x.2.2) : ∀ s g c, lk l s = some (g, c) → z1b_ P ti g c := fun s g c hl => h (s, g, c) (zw_ hl)
theorem zh_ {LO : Oracles R0} {rd : St → Option R0} {c : Code} (h : (fun n => LO.loop n) = fun _ => none) : ∀ b ∈ zb_ c, ∀ f, LO.loop (z2q_ b) = some f → zc_ E LO rd b f := by
  intro b hb f hf
  have := congrFun h (z2q_ b)
  rw [this] at hf; cases hf
theorem z8_ {LO : Oracles R0} {rd : St → Option R0} {c : Code} (h : (fun n => LO.cut n) = fun _ => none) : ∀ b ∈ z3g_ c, ∀ f, LO.cut (z2q_ b) = some f → zmv_ E LO rd b f := by
  intro b hb f hf
  have := congrFun h (z2q_ b)
  rw [this] at hf; cases hf
def LOn (R : Type) : Oracles R := ⟨fun _ => none, fun _ => none⟩
def z4_ : Nat → Value := fun _ => .nilFunc
def z5_ : Nat → Nat := fun _ => 0
theorem za_ [Glob P] {ti : List TI} {tab : List (Nat × FE)} {l : List (Nat × FuncId × OC)} (T : zj_ P ti = true) (HT : htOK ti = true) (hmix : P.follows .mixedOrders = true) (S : ∀ e ∈ tab, FnOK P e.1 e.2) (KO : ∀ x ∈ l, z1b_ P ti x.2.1 x.2.2) {g : FuncId} {ts : Ty} {n : Nat} {t : Ty} {F : ts.T → Option t.T}
    (H : FnR P (z3_ ti tab (lk l) z4_ z5_) g ts n t F) (hn : Nat.beq n RON = false := by rfl) : FnOK P g ⟨ts, n, t, F⟩ :=
  H.contract T (EqOK.of (E := z3_ ti tab (lk l) z4_ z5_) T HT) (fun w G => zdp_ (E := z3_ ti tab (lk l) z4_ z5_) (zip_ KO) G) hmix S hn
theorem z50_ [Glob P] {ti : List TI} {tab : List (Nat × FE)} {l : List (Nat × FuncId × OC)} (T : zj_ P ti = true) (HT : htOK ti = true) (hmix : P.follows .mixedOrders = true) (S : ∀ e ∈ tab, FnOK P e.1 e.2) (KO : ∀ x ∈ l, z1b_ P ti x.2.1 x.2.2) {g : FuncId} {c : OC}
    (H : FnO P ti tab (lk l) g c) : z1b_ P ti g c := H.contract T HT hmix S (zip_ KO)
end
end Go.Proofs.YtibiofjkgdidmaaGreatDoor.Ev

namespace Go.Proofs.YtibiofjkgdidmaaGreatDoor.Ev
open Go.RowKit

noncomputable def rdV (E : Env) (rs : List ResultVar) (t : Ty) (σ : St) : Option t.T := match rs with
  | [r] => match resV E σ r with
    | some (.val u x) => zm_ u t x some
    | _ => none
  | _ => none
section
variable {P : Program} {E : Env} {w0 : World} {ok O : Nat → Prop} {σ σ' : St} {tm : Array Value} {w w' : World} {M M' : Map} {a : Act} {R0 : Type} {res : R0}

structure FnV (P : Program) (E : Env) (g : FuncId) (ts : Ty) (t : Ty) (F : ts.T → Option t.T) : Prop where
  ex : ∃ (fn : Func) (c : Code) (rs : List ResultVar) (LO : Oracles t.T), P.funcs[g]? = some fn ∧ fn.body = some c ∧ (fn.name == "runtime.NumGoroutine") = false ∧ fn.results.toList = rs ∧ argN ts ≤ fn.ntmps ∧
    CodeOK E LO (rdV E rs t) fn.ntmps c ∧ ∀ x, evC E LO (rdV E rs t) c ⟨z3x_ ts x 0, [], []⟩ (rdV E rs t) (fun _ _ => none) = F x

theorem FnV.does [Glob P] (T : zj_ P E.ti = true) (EQ : EqOK P E) {w : World} (S : SpecOK P E w (fun _ => False)) (K : z31_ P E w (fun _ => False)) (hmix : P.follows .mixedOrders = true) {g : FuncId} {ts : Ty} {t : Ty} {F : ts.T → Option t.T} (H : FnV P E g ts t F)
    {args : List SVal} {vs : List Value} (hok : ∀ k, ok k → k < w.heap.size) (ha : z1s_ w ok args vs) {x : ts.T} (hx : z1e_ ts args some = some x) {r : t.T} (hr : F x = some r) : Does P g vs.toArray w (RetR w ok t r) := by
  obtain ⟨fn, c, rs, LO, h1, h2, h3, h4, h6, h7, h8⟩ := H.ex
  unfold Does
  rw [z60_ h1 h2 h3]
  simp only []
  obtain ⟨x', hx', hlen, hsl⟩ := zif_ hx ha
  cases hx'
  refine calls_of_wp h1 h2 ?_
  have hrd : ∀ e : Exit, (e = .normal ∨ e = .ret) → Then E w ok (fun _ => False) r fn.ntmps (rdV E rs t) (bodyPost P fn (fun | .returned v, w'' => RetR w ok t r v w'' | _, _ => False) e) := by
    intro e he σ1 a1 w1 M1 hk R1 hn1 hd1
    unfold rdV at hk
    split at hk
    · rename_i rv
      split at hk
      · rename_i u y hv
        unfold zm_ at hk
        split at hk
        · rename_i e1
          subst e1
          have hk : y = r := Option.some.inj hk
          subst hk
          have hl : z86_ E σ1 [rv] = some [.val u y] := by simp only [z86_, hv]
          obtain ⟨vs1, g1, g2, g3⟩ := zio_ T R1 hl
          have hb : a1.defers = [] ∧ ∃ v, (results fn a1.tmps).run P w1 = .ok v w1 ∧ RetR w ok u y v w1 := by
            match vs1, g2 with
            | [v1], _ =>
            obtain ⟨⟨cs, k1, k2⟩, _⟩ := g3 0 (.val u y) v1 rfl rfl
            refine ⟨hd1, _, zdg_ h4 g1, cs, k1, ?_, R1.kept⟩
            unfold z1y_ at k2
            rw [z5t_] at k2
            have : zu_ u v1 cs := k2
            simpa using this
          rcases he with rfl | rfl
          · exact hb
          · exact hb
        · cases hk
      · cases hk
    · cases hk
  have hev := h8 x
  rw [hr] at hev
  refine z3t_ T EQ S K hmix h7 hev (zse_ hok hsl (fn.ntmps - vs.toArray.size)) (by simp only [Array.size_append, Array.size_replicate, List.size_toArray, hlen]; omega) rfl (hrd _ (.inl rfl)) (fun id => ?_) (hrd _ (.inr rfl))
  intro σ1 a1 w1 M1 hk
  cases hk
theorem ziq_ [Glob P] {ti : List TI} {tab : List (Nat × FE)} {l : List (Nat × FuncId × OC)} (T : zj_ P ti = true) (HT : htOK ti = true) (hmix : P.follows .mixedOrders = true) (S : ∀ e ∈ tab, FnOK P e.1 e.2) (KO : ∀ x ∈ l, z1b_ P ti x.2.1 x.2.2) {g : FuncId} {ts : Ty} {t : Ty} {F : ts.T → Option t.T}
    (H : FnV P (z3_ ti tab (lk l) z4_ z5_) g ts t F) : FnOK P g ⟨ts, RON, t, F⟩ :=
  ⟨fun h => absurd rfl h, fun _ args vs w ok x r G hk ha hx hr => H.does T (EqOK.of (E := z3_ ti tab (lk l) z4_ z5_) T HT) (SpecOK.of S (.new G)) (zdp_ (E := z3_ ti tab (lk l) z4_ z5_) (zip_ KO) (.new G)) hmix hk ha hx hr⟩
end
end Go.Proofs.YtibiofjkgdidmaaGreatDoor.Ev

namespace Go.Proofs.YtibiofjkgdidmaaGreatDoor.Ev
open Go.RowKit

def Ty.dat : Ty → Bool
  | .int _ => true
  | .bool => true
  | .str => true
  | .sl _ t => t.dat
  | .st t => t.dat
  | .pr a b => a.dat && b.dat
  | _ => false
def InR : (t : Ty) → t.T → Prop
  | .int k, n => (Lit.int k n).wf = true
  | .str, s => List.length s ≤ 140737488351232
  | .sl _ t, xs => List.length xs ≤ 140737488351232 ∧ ∀ x ∈ xs, InR t x
  | .st t, x => InR t x
  | .pr a b, x => InR a x.1 ∧ InR b x.2
  | .bool, _ => True
  | .ptr _, _ => True
  | .un, _ => True
  | .fn _ _, _ => True

section
variable {H : Type} {enc : TypeId × Value → H} {P : Program} {E : Env} {w : World} {base : Nat} {spare : Nat → Bool} {held : Bool}

theorem znh_ {e : TypeId} : ∀ {l : List (DataW H)} {d : DataW H}, d ∈ l → ∀ n ∈ d.weights P e, n ∈ DataW.weightsAll P e l
  | [], d, h => by cases h
  | x :: l, d, h => by
    intro n hn
    simp only [DataW.weightsAll, List.mem_append]
    rcases List.mem_cons.1 h with rfl | h
    · exact .inl hn
    · exact .inr (znh_ h n hn)

def zni_ (P : Program) (E : Env) (w : World) (enc : TypeId × Value → H) (base : Nat) (spare : Nat → Bool) (held : Bool) (fuel : Nat) : Prop :=
  ∀ (t : TypeId) (cs : List Value) (x : DataW H × List MemPlace), (E.tyOf t).dat = true → DataW.trod enc P w base spare held fuel t cs = some x → (∀ n ∈ x.1.weights P t, n ≤ reachBytes) → ∃ v : (E.tyOf t).T, Rd w (Lt w) (E.tyOf t) v cs ∧ InR (E.tyOf t) v

theorem zdq_ (T : zj_ P E.ti = true) {t : TypeId} (h : (E.tyOf t).sz ≠ 0) : P.cellsOf t = (E.tyOf t).sz ∧ 0 < P.bytesOf t := by
  obtain ⟨ti, h1, h2, h3⟩ := z2t_ T h
  obtain ⟨⟨⟨i, i1, i2, i3, i4, _⟩, _⟩, _⟩ := z1z_ T h1 h3
  refine ⟨?_, ?_⟩
  · unfold Program.cellsOf
    simp only [i1, ← h2]
    simpa using i2
  · unfold Program.bytesOf
    simp only [i1]
    simpa using i4

theorem z6v_ : ∀ {t : Ty}, t.dat = true → t.sz ≠ 0
  | .int _, _ => by simp [Ty.sz]
  | .bool, _ => by simp [Ty.sz]
  | .str, _ => by simp [Ty.sz]
  | .sl _ _, _ => by simp [Ty.sz]
  | .st t, h => z6v_ (t := t) h
  | .pr a b, h => by
    simp only [Ty.dat, Bool.and_eq_true] at h
    have := z6v_ h.1
    simp only [Ty.sz]; omega
  | .ptr _, h => by cases h
  | .un, h => by cases h
  | .fn _ _, h => by cases h

theorem znj_ (T : zj_ P E.ti = true) {n : Nat} (IH : zni_ P E w enc base spare held n) : ∀ (fl : List Field) (o : Nat) (u : Ty), z2s_ E.ti (fl.map fun f => (f.type, f.offset)) o = some u → u.dat = true →
    ∀ (cs p q : List Value) (xs : List (DataW H × List MemPlace)), cs = p ++ q → p.length = o → q.length = u.sz → (∀ (i : Nat) (f : Field), fl[i]? = some f → ∃ x, xs[i]? = some x ∧ DataW.trod enc P w base spare held n f.type ((cs.drop f.offset).take (P.cellsOf f.type)) = some x ∧ ∀ m ∈ x.1.weights P f.type, m ≤ reachBytes) →
    ∃ v : u.T, Rd w (Lt w) u v q ∧ InR u v
  | [], o, u, h, _, _, _, _, _, _, _, _, _ => by cases h
  | [f], o, u, h, hd, cs, p, q, xs, hcs, hp, hq, H => by
    subst hcs
    simp only [List.map_cons, List.map_nil, z2s_] at h
    cases hb : (Nat.beq f.offset o && !Nat.beq (tyAt E.ti f.type).sz 0) <;> rw [hb] at h
    · cases h
    · cases h
      simp only [Bool.and_eq_true, Bool.not_eq_true'] at hb
      have ho := Nat.eq_of_beq_eq_true hb.1
      have h0 : (E.tyOf f.type).sz ≠ 0 := z3p_ hb.2
      obtain ⟨x, _, h2, h3⟩ := H 0 f rfl
      have hq2 : q.length ≤ (E.tyOf f.type).sz := Nat.le_of_eq hq
      rw [(zdq_ T h0).1, ho, ← hp, List.drop_left, List.take_of_length_le hq2] at h2
      exact IH f.type q x hd h2 h3
  | f :: f2 :: fl, o, u, h, hd, cs, p, q, xs, hcs, hp, hq, H => by
    subst hcs
    simp only [List.map_cons, z2s_] at h
    cases hb : (Nat.beq f.offset o && !Nat.beq (tyAt E.ti f.type).sz 0) <;> rw [hb] at h
    · cases h
    · simp only [cond_true] at h
      split at h
      · rename_i u' hu
        cases h
        simp only [Bool.and_eq_true, Bool.not_eq_true'] at hb
        simp only [Ty.dat, Bool.and_eq_true] at hd
        have ho := Nat.eq_of_beq_eq_true hb.1
        have h0 : (E.tyOf f.type).sz ≠ 0 := z3p_ hb.2
        obtain ⟨x, _, h2, h3⟩ := H 0 f rfl
        rw [(zdq_ T h0).1, ho, ← hp, List.drop_left] at h2
        have hq' : q.length = (E.tyOf f.type).sz + u'.sz := hq
        obtain ⟨v1, r1, f1⟩ := IH f.type _ x hd.1 h2 h3
        obtain ⟨v2, r2, f2'⟩ := znj_ T IH (f2 :: fl) (o + (tyAt E.ti f.type).sz) u' hu hd.2 (p ++ q) (p ++ q.take (E.tyOf f.type).sz) (q.drop (E.tyOf f.type).sz) xs.tail (by rw [List.append_assoc, List.take_append_drop]) (by
          rw [List.length_append, hp, List.length_take, Nat.min_eq_left (by omega)]; rfl) (by rw [List.length_drop]; omega) (fun i g hg => by
          obtain ⟨y, y1, y2⟩ := H (i + 1) g (by simpa using hg)
          exact ⟨y, by simpa [List.getElem?_tail] using y1, y2⟩)
        exact ⟨(v1, v2), ⟨_, _, (List.take_append_drop _ _).symm, r1, r2⟩, f1, f2'⟩
      · cases h

theorem zir_ (T : zj_ P E.ti = true) : ∀ fuel, zni_ P E w enc base spare held fuel
  | 0 => fun t cs x _ h => by simp [DataW.trod] at h
  | fuel + 1 => by
    intro t cs x hd h hw
    obtain ⟨ti, h1, h2, h3⟩ := z2t_ T (z6v_ hd)
    obtain ⟨sh, ty, b⟩ := ti
    have h2 : ty = E.tyOf t := h2
    cases sh with
    | oth => exact absurd rfl h3
    | int k =>
      obtain ⟨hu, hty⟩ := zhj_ T h1
      have e : E.tyOf t = .int k := h2.symm.trans hty
      rw [e]
      obtain ⟨n, rfl, rfl, hn⟩ := DataW.trod_int hu h
      exact ⟨n, rfl, hn⟩
    | bool =>
      obtain ⟨hu, hty⟩ := zhk_ T h1
      have e : E.tyOf t = .bool := h2.symm.trans hty
      rw [e]
      obtain ⟨b', rfl, rfl⟩ := DataW.trod_bool hu h
      exact ⟨b', rfl, trivial⟩
    | str =>
      obtain ⟨hu, hty⟩ := z6k_ T h1
      have e : E.tyOf t = .str := h2.symm.trans hty
      rw [e]
      obtain ⟨s, rfl, rfl, hs⟩ := DataW.trod_string hu h
      exact ⟨s.data.toList, rfl, hw _ (by simp [DataW.weights])⟩
    | sl e0 =>
      obtain ⟨hu, hty⟩ := z3q_ T h1
      have e : E.tyOf t = .sl e0 (E.tyOf e0) := h2.symm.trans hty
      rw [e] at hd ⊢
      have hd0 : (E.tyOf e0).dat = true := hd
      obtain ⟨c1, c2⟩ := zdq_ T (z6v_ hd0)
      rcases DataW.trod_slice hu h with ⟨rfl, rfl⟩ | ⟨a, len, cap, elems, rest, n, hn, rfl, rfl, hb, hl, hm, hlen, hel, _, _⟩
      · exact ⟨[], ⟨none, 0, rfl, Nat.le_refl _, fun h => absurd rfl h⟩, by simp, by simp⟩
      · cases hn
        have hws : ∀ d ∈ elems, ∀ m ∈ d.1.weights P e0, m ≤ reachBytes := fun d hd m hm => hw m (by
          simp only [DataW.weights, hu, List.mem_cons, List.mem_append]
          exact .inr (.inl (znh_ (List.mem_map.2 ⟨d, hd, rfl⟩) m hm)))
        have each : ∀ i, i < len → ∃ v : (E.tyOf e0).T, (∃ ds, Rd w (Lt w) (E.tyOf e0) v ds ∧ z1x_ w (a.add (i * (E.tyOf e0).sz)) ds) ∧ InR (E.tyOf e0) v := by
          intro i hi
          have q := hel i hi
          rw [List.getElem?_eq_getElem (by omega)] at q
          obtain ⟨ds, q1, q2⟩ := Option.bind_eq_some_iff.1 q
          obtain ⟨v, r1, r2⟩ := zir_ T _ e0 ds _ hd0 q2 (hws _ (List.getElem_mem _))
          obtain ⟨_, z2, z3⟩ := World.cells?_some q1
          refine ⟨v, ⟨ds, r1, fun j u hj => ?_⟩, r2⟩
          have hj' : j < P.cellsOf e0 := by rw [← z2]; exact (List.getElem?_eq_some_iff.1 hj).1
          rw [← c1, z3 j hj']; exact hj
        have hlist : ∀ m, m ≤ len → ∃ xs : List (E.tyOf e0).T, xs.length = m ∧ (∀ i x, xs[i]? = some x → (∃ ds, Rd w (Lt w) (E.tyOf e0) x ds ∧ z1x_ w (a.add (i * (E.tyOf e0).sz)) ds) ∧ InR (E.tyOf e0) x) := by
          intro m
          induction m with
          | zero => exact fun _ => ⟨[], rfl, by simp⟩
          | succ m ih =>
            intro hm
            obtain ⟨xs, l1, l2⟩ := ih (by omega)
            obtain ⟨v, hv⟩ := each m (by omega)
            refine ⟨xs ++ [v], by simp [l1], fun i x hx => ?_⟩
            by_cases hi : i < xs.length
            · rw [List.getElem?_append_left hi] at hx; exact l2 i x hx
            · rw [List.getElem?_append_right (by omega)] at hx
              have : i = m := by have := (List.getElem?_eq_some_iff.1 hx).1; simp at this; omega
              subst this
              rw [l1] at hx
              simp at hx
              subst hx
              exact hv
        obtain ⟨xs, l1, l2⟩ := hlist len (Nat.le_refl _)
        refine ⟨xs, ⟨some a, cap, by rw [← l1], by rw [l1]; exact hl, fun hne => ⟨a, rfl, ?_, fun i x hx => (l2 i x hx).1⟩⟩, ?_, fun x hx => ?_⟩
        · have hpos : 0 < len := by rw [← l1]; exact List.length_pos_iff.2 hne
          have q := hel 0 hpos
          rw [List.getElem?_eq_getElem (by omega)] at q
          obtain ⟨ds, q1, q2⟩ := Option.bind_eq_some_iff.1 q
          have := World.cells?_block q1 (by rw [c1]; exact Nat.pos_of_ne_zero (z6v_ hd0))
          rwa [zap_] at this
        · have := hw ((elems.map (·.1)).length + (rest.map (·.1)).length |> (· * P.bytesOf e0)) (by simp [DataW.weights, hu])
          rw [l1]
          simp only [List.length_map, hlen] at this
          have h9 : len * 1 ≤ (len + rest.length) * P.bytesOf e0 := Nat.mul_le_mul (by omega) c2
          have h10 : reachBytes = 140737488351232 := rfl
          omega
        · obtain ⟨i, hi⟩ := List.getElem?_of_mem hx
          exact (l2 i x hi).2
    | st fs =>
      obtain ⟨fields, u, hu, hf, hty, hc, _⟩ := z89_ T h1
      have e : E.tyOf t = .st u := h2.symm.trans hty
      have h0 := z6v_ hd
      obtain ⟨c1, _⟩ := zdq_ T h0
      rw [e] at hd c1 ⊢
      obtain ⟨xs, n, hn, rfl, hl, hxl, hx⟩ := DataW.trod_struct hu h
      cases hn
      rw [← hf] at hc
      obtain ⟨v, r1, r2⟩ := znj_ (q := cs) (p := []) (xs := xs) T (zir_ T fuel) fields.toList 0 u hc hd cs rfl rfl (by rw [hl, c1]; rfl) (fun i f hif => by
        have hif' : fields[i]? = some f := by rw [← Array.getElem?_toList]; exact hif
        have hlt : i < xs.length := by rw [hxl]; exact (Array.getElem?_eq_some_iff.1 hif').1
        have q := hx i f hif'
        rw [List.getElem?_eq_getElem hlt] at q
        refine ⟨_, List.getElem?_eq_getElem hlt, q, fun m hm => hw m ?_⟩
        simp only [DataW.weights, hu]
        exact DataW.weights_mem_each (j := i) (t := f.type) (d := xs[i].1) (by rw [List.getElem?_map, hif]; rfl) (by rw [List.getElem?_map, List.getElem?_eq_getElem hlt]; rfl) m hm)
      exact ⟨v, r1, r2⟩
    | ptr e0 =>
      have h8 := (z1z_ T h1 h3).2
      exfalso
      rw [← h2] at hd
      unfold shOK at h8
      split at h8 <;> rename_i q1 q2 q3 <;> first | (cases q1; done) | skip
      · have q3' : ty = _ := q3
        rw [q3'] at hd; cases hd
      · cases h8

theorem zta_ (T : zj_ P E.ti = true) {t : TypeId} {v : Value} {d : DataW H} {p : List MemPlace} {r : Reach} {b0 : Nat} (hd : (E.tyOf t).dat = true) (hv : Value.okWide P w r b0 t v) (h : DataW.Trod enc P w base spare held t v d p) (hw : ∀ n ∈ d.weights P t, n ≤ reachBytes) :
    ∃ x : (E.tyOf t).T, (∃ cs, Rd w (Lt w) (E.tyOf t) x cs ∧ zu_ (E.tyOf t) v cs) ∧ InR (E.tyOf t) x := by
  obtain ⟨fuel, h⟩ := h
  obtain ⟨x, h1, h2⟩ := zir_ T fuel t _ _ hd h hw
  refine ⟨x, ⟨_, h1, ?_⟩, h2⟩
  obtain ⟨ti, k1, k2, k3⟩ := z2t_ T (z6v_ hd)
  obtain ⟨sh, ty, b⟩ := ti
  have k2 : ty = E.tyOf t := k2
  have one : ∀ {u : Ty}, E.tyOf t = u → u.isSt = false → (∀ cs : Array Value, ¬ Value.okWide P w r b0 t (.agg cs)) → zu_ (E.tyOf t) v v.cells.toList := fun e hs hn => by
    refine .inr ⟨by rw [e]; exact hs, ?_⟩
    cases v with
    | agg cs => exact absurd hv (hn cs)
    | _ => rfl
  cases sh with
  | oth => exact absurd rfl k3
  | int k => obtain ⟨hu, hty⟩ := zhj_ T k1; exact one (k2.symm.trans hty) rfl fun cs h => by simp [Value.okWide, Cell.okWide, Cell.ok, hu] at h
  | bool => obtain ⟨hu, hty⟩ := zhk_ T k1; exact one (k2.symm.trans hty) rfl fun cs h => by simp [Value.okWide, Cell.okWide, Cell.ok, hu] at h
  | str => obtain ⟨hu, hty⟩ := z6k_ T k1; exact one (k2.symm.trans hty) rfl fun cs h => by simp [Value.okWide, Cell.okWide, Cell.ok, hu] at h
  | sl e0 => obtain ⟨hu, hty⟩ := z3q_ T k1; exact one (k2.symm.trans hty) rfl fun cs h => by simp [Value.okWide, Cell.okWide, Cell.ok, hu] at h
  | st fs =>
    obtain ⟨fields, u, hu, _, hty, _⟩ := z89_ T k1
    unfold Value.okWide at hv
    rw [hu] at hv
    obtain ⟨cs, rfl, _⟩ := hv
    exact .inl ⟨by rw [k2.symm.trans hty]; rfl, by simp [Value.cells]⟩
  | ptr e0 =>
    have h8 := (z1z_ T k1 k3).2
    exfalso
    rw [← k2] at hd
    unfold shOK at h8
    split at h8 <;> rename_i q1 q2 q3 <;> first | (cases q1; done) | skip
    · have q3' : ty = _ := q3
      rw [q3'] at hd; cases hd
    · cases h8
theorem ztb_ (T : zj_ P E.ti = true) {t : TypeId} {c : Ty} (hc : E.tyOf t = c) {v : Value} {d : DataW H} {p : List MemPlace} {r : Reach} {b0 : Nat} (hd : c.dat = true) (hv : Value.okWide P w r b0 t v) (h : DataW.Trod enc P w base spare held t v d p) (hw : ∀ n ∈ d.weights P t, n ≤ reachBytes) :
    ∃ x : c.T, (∃ cs, Rd w (Lt w) c x cs ∧ zu_ c v cs) ∧ InR c x := by
  subst hc
  exact zta_ T hd hv h hw
theorem ztc_ {ts : List TypeId} {ds : List (DataW H)} (h : (DataW.weightsEach P ts ds).all (· ≤ reachBytes) = true) {j : Nat} {t : TypeId} {d : DataW H} (ht : ts[j]? = some t) (hd : ds[j]? = some d) : ∀ n ∈ d.weights P t, n ≤ reachBytes :=
  fun n hn => of_decide_eq_true (List.all_eq_true.1 h n (DataW.weights_mem_each ht hd n hn))
theorem ztd_ [Glob P] {g : FuncId} {fn : Func} {c : Code} (hf : P.funcs[g]? = some fn) (hb : fn.body = some c) (hn : (fn.name == "runtime.NumGoroutine") = false) {ts : Ty} {F : ts.T → Option Bool} (H : FnOK P g ⟨ts, 1, .bool, F⟩) {args : List SVal} {vs : Array Value} (hG : Glob.ok P w) (ha : Args w args vs.toList) {x : ts.T} (hx : z1e_ ts args some = some x) (hr : F x = some true) :
    Calls P g vs w fun e w' => e = .returned (.bool true) ∧ Below w.heap.size w w' := by
  have := H.1 (show (1 : Nat) ≠ RON by decide) args vs.toList w x true hG ha hx hr
  unfold Does at this
  rw [z60_ hf hb hn] at this
  refine Calls.mono this fun e w' h => ?_
  cases e with
  | returned v =>
    obtain ⟨l, h1, _, _, _, _, h2, h3⟩ := h
    have h2 : zu_ .bool v (z7_ .bool l) := h2
    rcases h2 with ⟨h5, _⟩ | ⟨_, h5⟩
    · cases h5
    · have hl : l = true := h1
      subst hl
      simp only [z7_, List.cons.injEq, and_true] at h5
      exact ⟨by rw [← h5], h3.below⟩
  | panicked c => exact h.elim
  | outgrown => exact h.elim
end
end Go.Proofs.YtibiofjkgdidmaaGreatDoor.Ev
