/- Plain laws of the printed functions. No conditions but those in each statement. -/
import Derived.Test.YtckbclbmkklaoaaGreatDoorEv5
import Derived.Test.YtckbclbmkklaoaaGreatDoorG12
set_option linter.unusedVariables false
set_option linter.unusedSimpArgs false
namespace Go.Proofs.YtckbclbmkklaoaaGreatDoor.Ev
open Go.RowKit
theorem z4u_ (n a b : Int) : z32_ n a b = some (decide (a ≤ n ∧ n ≤ b)) := by
  unfold z32_
  by_cases h : a ≤ n <;> simp [h]
theorem z4c_ (n a b : Int) : z21_ n a b = some (decide (a ≤ n ∧ n ≤ b)) := by
  unfold z21_
  by_cases h : a ≤ n <;> simp [h]
theorem znx_ {k : Nat} {p : Int} (hp : p ≤ 251) : ∀ (m d n : Nat), 17 - d ≤ m → 2 ≤ d → m < n → d ≤ 17 → ∃ b, z5c_ k n p (d : Int) (some true) = some b ∧ z5f_ k n p (d : Int) (some true) = some b
  | m, d, 0, _, _, h, _ => by omega
  | 0, d, n + 1, h, h2, _, h4 => by
    have hd : d = 17 := by omega
    subst hd
    have w1 : z0_ (((17 : Nat) : Int) * ((17 : Nat) : Int)) = 289 := by rw [w_id (by omega) (by omega)]; rfl
    have hc : ¬ ((289 : Int) ≤ p) := by omega
    refine ⟨true, ?_, ?_⟩
    · unfold z5c_; rw [w1, decide_eq_false hc, if_neg (by simp)]
    · unfold z5f_; rw [w1, decide_eq_false hc, if_neg (by simp)]
  | m + 1, d, n + 1, h, h2, hn, h4 => by
    by_cases hc : z0_ ((d : Int) * (d : Int)) ≤ p
    · have hd0 : ¬ ((d : Int) = 0) := by omega
      have hw := zg_ (i := d) (by omega)
      by_cases hm : Int.tmod p (d : Int) = 0
      · refine ⟨false, ?_, ?_⟩
        · unfold z5c_; rw [decide_eq_true hc, if_pos rfl, if_neg hd0, decide_eq_true hm, if_pos rfl]
        · unfold z5f_; rw [decide_eq_true hc, if_pos rfl, if_neg hd0, decide_eq_true hm, if_pos rfl]
      · by_cases h17 : d = 17
        · subst h17
          have w1 : z0_ (((17 : Nat) : Int) * ((17 : Nat) : Int)) = 289 := by rw [w_id (by omega) (by omega)]; rfl
          rw [w1] at hc; omega
        · obtain ⟨b, h5, h6⟩ := znx_ (k := k) hp m (d + 1) n (by omega) (by omega) (by omega) (by omega)
          refine ⟨b, ?_, ?_⟩
          · rw [← h5]; conv => lhs; unfold z5c_
            rw [decide_eq_true hc, if_pos rfl, if_neg hd0, decide_eq_false hm, if_neg (by simp), hw]
          · rw [← h6]; conv => lhs; unfold z5f_
            rw [decide_eq_true hc, if_pos rfl, if_neg hd0, decide_eq_false hm, if_neg (by simp), hw]
    · refine ⟨true, ?_, ?_⟩
      · unfold z5c_; rw [decide_eq_false hc, if_neg (by simp)]
      · unfold z5f_; rw [decide_eq_false hc, if_neg (by simp)]
theorem zny_ {k : Nat} (hk : KK ≤ k) (p : Int) : ∃ b, z7b_ k p = some b ∧ za8_ k p = some b ∧ (b = true → 2 ≤ p ∧ p ≤ 251) := by
  have hK := zh_
  unfold z7b_ zj8_ za8_
  rw [z4c_, z4u_]
  by_cases h : 2 ≤ p ∧ p ≤ 251
  · obtain ⟨b, h1, h2⟩ := znx_ (k := k) (p := p) h.2 15 2 k (by omega) (by omega) (by omega) (by omega)
    have h1 : z5c_ k k p 2 (some true) = some b := h1
    have h2 : z5f_ k k p 2 (some true) = some b := h2
    refine ⟨b, ?_, ?_, fun _ => h⟩
    · simp [h, h1]
    · simp [h, h2]
  · exact ⟨false, by simp [h], by simp [h], fun h => by cases h⟩
theorem z4d_ {α : Type} (p : α → Bool) (xs : List α) : decide (0 ≤ idxP p xs) = xs.any p := by
  unfold idxP
  cases h : xs.findIdx? p with
  | some i =>
    obtain ⟨hlt, hp, _⟩ := List.findIdx?_eq_some_iff_getElem.1 h
    have : xs.any p = true := List.any_eq_true.2 ⟨_, List.getElem_mem hlt, hp⟩
    rw [this]; simp
  | none =>
    rw [List.findIdx?_eq_none_iff] at h
    have : xs.any p = false := List.any_eq_false.2 fun x hx => by rw [h x hx]; simp
    rw [this]; simp
abbrev Mat := Int × Int × Int × List Int
theorem zk9_ {k : Nat} (hk : KK ≤ k) {v : List Int} (hv : v.length ≤ 1048576) (n : Int) {p : Int} (hp : -1000000 ≤ p ∧ p ≤ 1000000) : z7c_ k v n p = some (v.all (fun x => decide (0 ≤ x ∧ x ≤ p - 1)) && decide ((v.length : Int) = n)) := by
  have hK := zh_
  have hw1 : z0_ (p - 1) = p - 1 := w_id (by omega) (by omega)
  unfold z7c_
  have := z4p_ (L := fun m i => z9s_ k m v n p i (fun v_3 n_4 => some (decide ((List.length v_3 : Int) = n_4)))) (p := fun x => decide (0 ≤ x ∧ x ≤ p - 1)) (r := some false) (e := some (decide ((v.length : Int) = n))) v ?_ ?_ (n := k) (by omega)
  · refine this.trans ?_
    cases v.all (fun x => decide (0 ≤ x ∧ x ≤ p - 1)) <;> simp
  · intro m i x hx hlt
    have hw := zg_ (i := i) (by omega)
    simp only [z9s_, hlt, decide_true, if_true, Int.natCast_nonneg, Int.toNat_natCast, hx, Option.bind_some, z4c_, hw1, hw]
    by_cases c : 0 ≤ x ∧ x ≤ p - 1 <;> simp [c]
  · intro m
    simp only [z9s_, Int.lt_irrefl, decide_false, Bool.false_eq_true, if_false]
theorem zh0_ {k : Nat} (hk : KK ≤ k) {v : List Int} (hv : v.length ≤ 1048576) {p : Int} (hp : -1000000 ≤ p ∧ p ≤ 1000000) : z6f_ k v p = some (v.all (fun x => decide (0 ≤ x ∧ x ≤ p - 1))) := by
  have hK := zh_
  have hw1 : z0_ (p - 1) = p - 1 := w_id (by omega) (by omega)
  unfold z6f_ zjn_ zjm_
  rw [z3q_ (L := fun n i => zae_ k n v p (v.length : Int) i (some (-1))) (p := fun x => !decide (0 ≤ x ∧ x ≤ p - 1)) v ?_ ?_ (n := k) (by omega)]
  · simp only [Option.bind_some, z4d_]
    congr 1
    rw [← List.not_all_eq_any_not, Bool.not_not]
  · intro n i x hi hlt
    have hw := zg_ (i := i) (by omega)
    simp only [zae_, zjl_, zjk_, z4u_, hw1, hlt, decide_true, if_true, Int.natCast_nonneg, Int.toNat_natCast, hi, Option.bind_some, hw]
  · intro n
    simp [zae_]
structure MatP (m : Mat) (R C : Nat) : Prop where
  rows : m.2.1 = (R : Int)
  cols : m.2.2.1 = (C : Int)
  r32 : R ≤ 32
  c32 : C ≤ 32
  len : m.2.2.2.length = R * C
  prime : 2 ≤ m.1 ∧ m.1 ≤ 251
  cells : ∀ x ∈ m.2.2.2, 0 ≤ x ∧ x ≤ 250
theorem zu2_ {k : Nat} (hk : KK ≤ k) {m : Mat} (hv : m.2.2.2.length ≤ 1048576) : ∃ b, z7g_ k m = some b ∧ zaf_ k m = some b ∧ (b = true → ∃ R C, MatP m R C) := by
  obtain ⟨b, h1, h2, h3⟩ := zny_ hk m.1
  unfold z7g_ zaf_ zgj_ z3s_
  rw [h1, h2]
  cases b
  · exact ⟨false, by simp, by simp, fun h => by cases h⟩
  · have hp := h3 rfl
    simp only [Option.bind_some, if_true, z4c_, z4u_, zk9_ hk hv _ (show -1000000 ≤ m.1 ∧ m.1 ≤ 1000000 by omega), zh0_ hk hv (show -1000000 ≤ m.1 ∧ m.1 ≤ 1000000 by omega)]
    by_cases c1 : 0 ≤ m.2.1 ∧ m.2.1 ≤ 32
    · by_cases c2 : 0 ≤ m.2.2.1 ∧ m.2.2.1 ≤ 32
      · rw [decide_eq_true c1, decide_eq_true c2, if_pos rfl, if_pos rfl, if_pos rfl, if_pos rfl]
        obtain ⟨R, hR⟩ := Int.eq_ofNat_of_zero_le c1.1
        obtain ⟨C, hC⟩ := Int.eq_ofNat_of_zero_le c2.1
        have hRC : R * C ≤ 32 * 32 := Nat.mul_le_mul (by omega) (by omega)
        have hw : z0_ (m.2.1 * m.2.2.1) = ((R * C : Nat) : Int) := by
          rw [hR, hC, ← Int.natCast_mul]
          exact w_id (by omega) (by omega)
        rw [hw]
        refine ⟨m.2.2.2.all (fun x => decide (0 ≤ x ∧ x ≤ m.1 - 1)) && decide ((m.2.2.2.length : Int) = ((R * C : Nat) : Int)), rfl, ?_, fun h => ?_⟩
        · by_cases c3 : (m.2.2.2.length : Int) = ((R * C : Nat) : Int)
          · rw [decide_eq_true c3, if_pos rfl, Bool.and_true]
          · rw [decide_eq_false c3, if_neg (by simp), Bool.and_false]
        · simp only [Bool.and_eq_true, List.all_eq_true, decide_eq_true_eq] at h
          refine ⟨R, C, hR, hC, by omega, by omega, by omega, hp, fun x hx => ?_⟩
          have := h.1 x hx
          omega
      · exact ⟨false, by simp [c1, c2], by simp [c1, c2], fun h => by cases h⟩
    · exact ⟨false, by simp [c1], by simp [c1], fun h => by cases h⟩
theorem zka_ {α : Type} {R : α → α → Prop} (tr : ∀ a b c, R a b → R b c → R a c) : ∀ {l : List α}, (∀ (i : Nat) (a b : α), l[i]? = some a → l[i + 1]? = some b → R a b) → l.Pairwise R
  | [], _ => List.Pairwise.nil
  | [a], _ => List.pairwise_singleton ..
  | a :: b :: l, h => by
    have h0 := h 0 a b rfl rfl
    have ih := zka_ tr (l := b :: l) (fun i x y hx hy => h (i + 1) x y hx hy)
    refine List.Pairwise.cons (fun x hx => ?_) ih
    rcases List.mem_cons.1 hx with rfl | hx
    · exact h0
    · exact tr _ _ _ h0 ((List.pairwise_cons.1 ih).1 x hx)
theorem znz_ {α : Type} {R : α → α → Prop} {l : List α} (h : l.Pairwise R) {i : Nat} {a b : α} (ha : l[i]? = some a) (hb : l[i + 1]? = some b) : R a b := by
  obtain ⟨h1, rfl⟩ := List.getElem?_eq_some_iff.1 ha
  obtain ⟨h2, rfl⟩ := List.getElem?_eq_some_iff.1 hb
  exact List.pairwise_iff_getElem.1 h i (i + 1) h1 h2 (by omega)
def z4e_ {α : Type} (R : α → α → Prop) (l : List α) (i : Nat) (x : α) : Prop := 0 < i → ∀ t, l[i - 1]? = some t → R t x
theorem zh1_ {α : Type} {R : α → α → Prop} (tr : ∀ a b c, R a b → R b c → R a c) {l : List α} {m : Nat} (h : ∀ j, j < m → ∀ x, l[j]? = some x → z4e_ R l j x) : (l.take m).Pairwise R := by
  refine zka_ tr fun i a b ha hb => ?_
  have hi : i + 1 < m := by
    have := (List.getElem?_eq_some_iff.1 hb).1
    rw [List.length_take] at this; omega
  rw [List.getElem?_take_of_lt (by omega)] at ha
  rw [List.getElem?_take_of_lt hi] at hb
  exact h (i + 1) hi b hb (by omega) a (by simpa using ha)
theorem zkb_ {α : Type} {R : α → α → Prop} {l : List α} (h : l.Pairwise R) {i : Nat} {x : α} (hx : l[i]? = some x) : z4e_ R l i x := fun h0 t ht => by
  have e : i = (i - 1) + 1 := by omega
  rw [e] at hx
  exact znz_ h ht hx
theorem zu3_ {R : Type} {L : Nat → Int → R} {b : Nat} {p : Nat → Bool} {r e : R}
    (h1 : ∀ n (i : Nat), i < b → (∀ j, j < i → p j = true) → L (n + 1) (i : Int) = if p i = true then L n ((i + 1 : Nat) : Int) else r) (h2 : ∀ n, L (n + 1) (b : Int) = e) {n : Nat} (hn : b < n) : L n 0 = if (List.range b).all p = true then e else r := by
  refine z1n_ (α := Nat) (A := Unit) (L := fun n i _ => L n i) (I := fun pre _ => ∀ j ∈ pre, p j = true) (G := fun l _ => if l.all p = true then e else r) (List.range b) ?_ ?_ n (by simpa using hn) () (by simp)
  · intro n pre x post _ hx hI ih hg hlt
    rw [List.length_range] at hlt
    have hxi : x = pre.length := by
      rw [List.getElem?_range (by omega)] at hg
      simpa using hg.symm
    subst hxi
    have hpre : pre = List.range pre.length := by
      have := congrArg (List.take pre.length) hx
      rw [List.take_left, List.take_range] at this
      rw [Nat.min_eq_left (by omega)] at this
      exact this.symm
    rw [h1 n pre.length (by omega) (fun j hj => hI j (by rw [hpre]; simpa using hj))]
    by_cases hp : p pre.length = true
    · rw [if_pos hp, ih () (fun j hj => by
        rcases List.mem_append.1 hj with hj | hj
        · exact hI j hj
        · rw [List.mem_singleton.1 hj]; exact hp)]
      simp [hp]
    · rw [if_neg hp]; simp [hp]
  · intro n _ _
    simpa using h2 n
structure SimpP (s : List Int) : Prop where
  len1 : 1 ≤ s.length
  len4 : s.length ≤ 4
  vert : ∀ x ∈ s, 0 ≤ x ∧ x ≤ 9
  rise : s.Pairwise (fun a b : Int => a < b)
open Classical in
noncomputable def z6g_ (s : List Int) : Bool := decide (SimpP s)
theorem z6h_ {s : List Int} : z6g_ s = true ↔ SimpP s := by unfold z6g_; simp
open Classical in
theorem zo0_ {k : Nat} (hk : KK ≤ k) {s : List Int} (hs : s.length ≤ 1000000000) (lo up : Int) : z9o_ k s lo up = some (decide ((∀ x ∈ s, lo ≤ x ∧ x ≤ up) ∧ s.Pairwise (fun a b : Int => a < b))) := by
  have hK := zh_
  unfold z9o_
  have := z2s_ (L := fun n i => z7a_ k n s lo up i (some true)) (b := s.length) (p := fun i => decide (∀ x, s[i]? = some x → (lo ≤ x ∧ x ≤ up) ∧ z4e_ (fun a b : Int => a < b) s i x)) (r := some false) (e := some true) ?_ ?_ (n := k) (by omega)
  · rw [this]
    have e : ((List.range s.length).all (fun i => decide (∀ x, s[i]? = some x → (lo ≤ x ∧ x ≤ up) ∧ z4e_ (fun a b : Int => a < b) s i x)) = true) ↔ ((∀ x ∈ s, lo ≤ x ∧ x ≤ up) ∧ s.Pairwise (fun a b : Int => a < b)) := by
      simp only [List.all_eq_true, List.mem_range, decide_eq_true_eq]
      constructor
      · intro h
        refine ⟨fun x hx => ?_, ?_⟩
        · obtain ⟨i, hi, rfl⟩ := List.getElem_of_mem hx
          exact (h i hi _ (List.getElem?_eq_getElem hi)).1
        · have := zh1_ (R := fun a b : Int => a < b) (fun a b c => Int.lt_trans) (l := s) (m := s.length) (fun j hj x hx => (h j hj x hx).2)
          rwa [List.take_length] at this
      · rintro ⟨h1, h2⟩ i hi x hx
        exact ⟨h1 x (List.mem_of_getElem? hx), zkb_ h2 hx⟩
    by_cases c : ((∀ x ∈ s, lo ≤ x ∧ x ≤ up) ∧ s.Pairwise (fun a b : Int => a < b))
    · rw [if_pos (e.2 c), decide_eq_true c]
    · rw [if_neg (fun h => c (e.1 h)), decide_eq_false c]
  · intro n i hi
    have hlt : (i : Int) < (s.length : Int) := by omega
    have hw := zg_ (i := i) (by omega)
    have hg : s[i]? = some s[i] := List.getElem?_eq_getElem hi
    simp only [z7a_, hlt, decide_true, if_true, Int.natCast_nonneg, Int.toNat_natCast, hg, Option.bind_some, hw, z4c_, Option.some.injEq, forall_eq']
    by_cases c1 : lo ≤ s[i] ∧ s[i] ≤ up
    · rw [decide_eq_true c1]
      simp only [Bool.not_true, Bool.false_eq_true, if_false]
      by_cases h0 : 0 < i
      · have h0' : (0 : Int) < (i : Int) := by omega
        have hw1 : z0_ ((i : Int) - 1) = ((i - 1 : Nat) : Int) := by rw [w_id (by omega) (by omega)]; omega
        have hg1 : s[i - 1]? = some s[i - 1] := List.getElem?_eq_getElem (by omega)
        simp only [h0', decide_true, if_true, hw1, Int.natCast_nonneg, Int.toNat_natCast, hg1, Option.bind_some]
        by_cases c2 : s[i - 1] < s[i]
        · have : z4e_ (fun a b : Int => a < b) s i s[i] := fun _ t ht => by rw [hg1] at ht; cases ht; exact c2
          rw [if_neg (by simp; omega), if_pos (decide_eq_true ⟨c1, this⟩)]
        · have : ¬ z4e_ (fun a b : Int => a < b) s i s[i] := fun h => c2 (h h0 _ hg1)
          rw [if_pos (decide_eq_true (by omega)), if_neg (fun h => this (of_decide_eq_true h).2)]
      · have h0' : ¬ (0 : Int) < (i : Int) := by omega
        have : z4e_ (fun a b : Int => a < b) s i s[i] := fun h => absurd h h0
        rw [decide_eq_false h0', if_neg (by simp), if_pos (decide_eq_true ⟨c1, this⟩)]
    · rw [decide_eq_false c1, if_pos (by simp), if_neg (fun h => c1 (of_decide_eq_true h).1)]
  · intro n
    simp only [z7a_, Int.lt_irrefl, decide_false, Bool.false_eq_true, if_false]
open Classical in
theorem zu4_ {k : Nat} (hk : KK ≤ k) {s : List Int} (hs : s.length ≤ 1000000000) : zfl_ k s = some (z6g_ s) := by
  unfold zfl_
  rw [z4c_]
  simp only [Option.bind_some, zo0_ hk hs]
  by_cases c : (1 : Int) ≤ (s.length : Int) ∧ (s.length : Int) ≤ 4
  · rw [decide_eq_true c, if_pos rfl]
    congr 1
    unfold z6g_
    refine decide_eq_decide.2 ⟨fun h => ⟨by omega, by omega, h.1, h.2⟩, fun h => ⟨h.vert, h.rise⟩⟩
  · rw [decide_eq_false c, if_neg (by simp)]
    congr 1
    unfold z6g_
    rw [decide_eq_false (fun h : SimpP s => c ⟨by have := h.len1; omega, by have := h.len4; omega⟩)]
open Classical in
theorem zo1_ {k : Nat} (hk : KK ≤ k) {s : List Int} (hs : s.length ≤ 1000000000) : zcf_ k s = some (decide (s.Pairwise (fun a b : Int => a < b))) := by
  have hK := zh_
  unfold zcf_
  have key : ∀ (d n i : Nat), s.length - i = d → d < n → 0 < i → (s.take i).Pairwise (fun a b : Int => a < b) → za2_ k n s (i : Int) (some true) = some (decide (s.Pairwise (fun a b : Int => a < b))) := by
    intro d
    induction d with
    | zero =>
      intro n i hd hn h0 hp
      obtain ⟨n, rfl⟩ : ∃ m, n = m + 1 := ⟨n - 1, by omega⟩
      have : ¬ (i : Int) < (s.length : Int) := by omega
      rw [List.take_of_length_le (by omega)] at hp
      simp only [za2_, this, decide_false, Bool.false_eq_true, if_false, decide_eq_true hp]
    | succ d ih =>
      intro n i hd hn h0 hp
      obtain ⟨n, rfl⟩ : ∃ m, n = m + 1 := ⟨n - 1, by omega⟩
      have hi : i < s.length := by omega
      have hlt : (i : Int) < (s.length : Int) := by omega
      have hw := zg_ (i := i) (by omega)
      have hw1 : z0_ ((i : Int) - 1) = ((i - 1 : Nat) : Int) := by rw [w_id (by omega) (by omega)]; omega
      have hg : s[i]? = some s[i] := List.getElem?_eq_getElem hi
      have hg1 : s[i - 1]? = some s[i - 1] := List.getElem?_eq_getElem (by omega)
      simp only [za2_, hlt, decide_true, if_true, Int.natCast_nonneg, Int.toNat_natCast, hg, hg1, Option.bind_some, hw, hw1]
      by_cases c : s[i - 1] < s[i]
      · rw [decide_eq_false (show ¬ s[i] ≤ s[i - 1] by omega), if_neg (by simp)]
        refine ih n (i + 1) (by omega) (by omega) (by omega) ?_
        refine zka_ (R := fun a b : Int => a < b) (fun a b c => Int.lt_trans) fun j a b ha hb => ?_
        have hj : j + 1 < i + 1 := by
          have := (List.getElem?_eq_some_iff.1 hb).1
          rw [List.length_take] at this; omega
        rw [List.getElem?_take_of_lt (by omega)] at ha
        rw [List.getElem?_take_of_lt hj] at hb
        by_cases hji : j + 1 = i
        · have e1 : a = s[i - 1] := by
            have : s[j]? = s[i - 1]? := by rw [show j = i - 1 by omega]
            rw [ha, hg1] at this
            exact Option.some.inj this
          have e2 : b = s[i] := by
            rw [hji, hg] at hb
            exact (Option.some.inj hb).symm
          rw [e1, e2]; exact c
        · exact znz_ hp (i := j) (by rw [List.getElem?_take_of_lt (by omega)]; exact ha) (by rw [List.getElem?_take_of_lt (by omega)]; exact hb)
      · rw [decide_eq_true (show s[i] ≤ s[i - 1] by omega), if_pos rfl]
        congr 1
        refine (decide_eq_false fun h => c ?_).symm
        exact List.pairwise_iff_getElem.1 h (i - 1) i (by omega) hi (by omega)
  have h1 := key (s.length - 1) k 1 rfl (by omega) (by omega) (by cases s with
    | nil => simp
    | cons a l => simp)
  exact h1
theorem zu5_ {k : Nat} (hk : KK ≤ k) {s : List Int} (hs : s.length ≤ 1000000000) : zg6_ k s () = some (s.any fun x => !decide (0 ≤ x ∧ x ≤ 9)) := by
  have hK := zh_
  unfold zg6_ zje_
  rw [z3q_ (L := fun n i => za3_ k n s () (s.length : Int) i (some (-1))) (p := fun x => !decide (0 ≤ x ∧ x ≤ 9)) s ?_ ?_ (n := k) (by omega)]
  · rw [Option.bind_some, z4d_]
  · intro n i x hi hlt
    have hw := zg_ (i := i) (by omega)
    simp only [za3_, zjd_, zjc_, z4u_, hlt, decide_true, if_true, Int.natCast_nonneg, Int.toNat_natCast, hi, Option.bind_some, hw]
  · intro n
    simp [za3_]
theorem zu6_ {k : Nat} (hk : KK ≤ k) {s : List Int} (hs : s.length ≤ 1000000000) : zg7_ k s = some (z6g_ s) := by
  unfold zg7_
  by_cases c1 : 1 ≤ s.length
  · rw [decide_eq_true (show (1 : Int) ≤ (s.length : Int) by omega), if_pos rfl]
    by_cases c2 : s.length ≤ 4
    · rw [decide_eq_true (show (s.length : Int) ≤ 4 by omega), if_pos rfl, zo1_ hk hs, zu5_ hk hs]
      simp only [Option.bind_some]
      by_cases c3 : s.Pairwise (fun a b : Int => a < b)
      · rw [decide_eq_true c3, if_pos rfl]
        congr 1
        rw [Bool.eq_iff_iff, z6h_]
        simp only [Bool.not_eq_true', List.any_eq_false, Bool.not_eq_true, decide_eq_false_iff_not, Bool.not_eq_false', decide_eq_true_eq]
        exact ⟨fun h => ⟨c1, c2, fun x hx => by simpa using h x hx, c3⟩, fun h x hx => by simpa using h.vert x hx⟩
      · rw [decide_eq_false c3, if_neg (by simp)]
        congr 1
        symm
        rw [Bool.eq_false_iff, ne_eq, z6h_]
        exact fun h => c3 h.rise
    · rw [decide_eq_false (show ¬ (s.length : Int) ≤ 4 by omega), if_neg (by simp)]
      congr 1
      symm
      rw [Bool.eq_false_iff, ne_eq, z6h_]
      exact fun h => c2 h.len4
  · rw [decide_eq_false (show ¬ (1 : Int) ≤ (s.length : Int) by omega), if_neg (by simp)]
    congr 1
    symm
    rw [Bool.eq_false_iff, ne_eq, z6h_]
    exact fun h => c1 h.len1
def cI (x y : Int) : Int := if x < y then -1 else if y < x then 1 else 0
theorem zo2_ (x y : Int) : za4_ x y = some (cI x y) := by
  unfold za4_ zga_ cI
  by_cases h1 : x < y
  · simp [h1]
  · by_cases h2 : y < x <;> simp [h1, h2]
theorem zu7_ (x y : Int) : zg9_ x y = some (cI x y) := by
  unfold zg9_ zg8_ cI
  by_cases h1 : x < y
  · simp [h1]
  · by_cases h2 : y < x <;> simp [h1, h2]
theorem zo3_ {k : Nat} (hk : KK ≤ k) (a b : Int) : zgb_ k [a, b] = some (if a = 0 then b else a) := by
  have hK := zh_
  obtain ⟨m, rfl⟩ : ∃ m, k = m + 3 := ⟨k - 3, by omega⟩
  generalize hf : m + 3 = k
  have hw0 : z0_ 1 = 1 := w_id (by omega) (by omega)
  have hw1 : z0_ 2 = 2 := w_id (by omega) (by omega)
  show z7n_ k k 0 [a, b] 2 0 (fun zero_2 => some zero_2) = _
  conv => lhs; arg 2; rw [← hf]
  by_cases h : a = 0
  · by_cases h' : b = 0
    · subst h; subst h'; simp [z7n_, hw0, hw1]
    · subst h; simp [z7n_, hw0, hw1, h']
  · simp [z7n_, h]
theorem zat_ : ∀ x : List UInt8, Op.bytesLess x x = false
  | [] => rfl
  | a :: x => by simp [Op.bytesLess, zat_ x]
theorem zkc_ : ∀ x y z : List UInt8, Op.bytesLess x y = true → Op.bytesLess y z = true → Op.bytesLess x z = true
  | _, [], _, h, _ => by simp [Op.bytesLess] at h
  | _, _ :: _, [], _, h => by simp [Op.bytesLess] at h
  | [], _ :: _, _ :: _, _, _ => rfl
  | a :: x, b :: y, c :: z, h1, h2 => by
    simp only [Op.bytesLess, Bool.or_eq_true, Bool.and_eq_true, decide_eq_true_eq, beq_iff_eq] at h1 h2 ⊢
    rcases h1 with h1 | ⟨rfl, h1⟩
    · rcases h2 with h2 | ⟨rfl, h2⟩
      · exact .inl (UInt8.lt_trans h1 h2)
      · exact .inl h1
    · rcases h2 with h2 | ⟨rfl, h2⟩
      · exact .inl h2
      · exact .inr ⟨rfl, zkc_ x y z h1 h2⟩
theorem zo4_ : ∀ x y : List UInt8, Op.bytesLess x y = false → x ≠ y → Op.bytesLess y x = true
  | [], [], _, h => absurd rfl h
  | _ :: _, [], _, _ => rfl
  | [], _ :: _, h, _ => by simp [Op.bytesLess] at h
  | a :: x, b :: y, h1, h2 => by
    simp only [Op.bytesLess, Bool.or_eq_false_iff, decide_eq_false_iff_not, Bool.and_eq_false_iff, beq_eq_false_iff_ne] at h1
    simp only [Op.bytesLess, Bool.or_eq_true, Bool.and_eq_true, decide_eq_true_eq, beq_iff_eq]
    by_cases h : a = b
    · subst h
      refine .inr ⟨rfl, zo4_ x y (h1.2.resolve_left (fun h => h rfl)) (fun e => h2 (by rw [e]))⟩
    · exact .inl (UInt8.lt_of_le_of_ne (UInt8.not_lt.1 h1.1) (Ne.symm h))
theorem zu8_ {x y : List UInt8} (h : Op.bytesLess x y = true) : Op.bytesLess y x = false := by
  cases h' : Op.bytesLess y x
  · rfl
  · have := zkc_ x y x h h'
    rw [zat_] at this; cases this
def lexB : List Int → List Int → Bool
  | x :: a, y :: b => if x = y then lexB a b else decide (x < y)
  | _, _ => false
def befS (a b : List Int) : Bool := decide (a.length < b.length) || (decide (a.length = b.length) && lexB a b)
theorem zo5_ : ∀ a : List Int, lexB a a = false
  | [] => rfl
  | x :: a => by simp [lexB, zo5_ a]
theorem zo6_ : ∀ a b c : List Int, a.length = b.length → b.length = c.length → lexB a b = true → lexB b c = true → lexB a c = true
  | [], _, _, _, _, h, _ => by simp [lexB] at h
  | _ :: _, [], _, _, _, h, _ => by simp [lexB] at h
  | _ :: _, _ :: _, [], _, _, _, h => by simp [lexB] at h
  | x :: a, y :: b, z :: c, h1, h2, h3, h4 => by
    simp only [lexB] at h3 h4 ⊢
    by_cases c1 : x = y
    · subst c1
      rw [if_pos rfl] at h3
      by_cases c2 : x = z
      · rw [if_pos c2] at h4 ⊢
        exact zo6_ a b c (by simpa using h1) (by simpa using h2) h3 h4
      · rw [if_neg c2] at h4 ⊢; exact h4
    · rw [if_neg c1, decide_eq_true_eq] at h3
      by_cases c2 : y = z
      · subst c2; rw [if_neg c1, decide_eq_true_eq]; exact h3
      · rw [if_neg c2, decide_eq_true_eq] at h4
        rw [if_neg (by omega), decide_eq_true_eq]; omega
theorem zh2_ (a : List Int) : befS a a = false := by unfold befS; simp [zo5_]
theorem zco_ {a b c : List Int} (h1 : befS a b = true) (h2 : befS b c = true) : befS a c = true := by
  unfold befS at *
  simp only [Bool.or_eq_true, Bool.and_eq_true, decide_eq_true_eq] at *
  rcases h1 with h1 | ⟨e1, h1⟩
  · rcases h2 with h2 | ⟨e2, h2⟩
    · left; omega
    · left; omega
  · rcases h2 with h2 | ⟨e2, h2⟩
    · left; omega
    · exact .inr ⟨by omega, zo6_ a b c e1 e2 h1 h2⟩
theorem zu9_ {a b : List Int} (h : befS a b = true) : befS b a = false := by
  cases h' : befS b a
  · rfl
  · have := zco_ h h'
    rw [zh2_] at this; cases this
def cmpL : List Int → List Int → Int
  | x :: a, y :: b => if cI x y = 0 then cmpL a b else cI x y
  | _ :: _, [] => 1
  | [], _ :: _ => -1
  | [], [] => 0
def z4v_ (a b : List Int) : Int := if cI (a.length : Int) (b.length : Int) = 0 then cmpL a b else cI (a.length : Int) (b.length : Int)
theorem z5g_ (x y : Int) : cI x y = 0 ↔ x = y := by
  unfold cI
  by_cases h1 : x < y
  · rw [if_pos h1]; constructor <;> intro h <;> omega
  · rw [if_neg h1]
    by_cases h2 : y < x
    · rw [if_pos h2]; constructor <;> intro h <;> omega
    · rw [if_neg h2]; constructor <;> intro h <;> omega
theorem zkd_ (x y : Int) : cI x y < 0 ↔ x < y := by
  unfold cI
  by_cases h1 : x < y
  · rw [if_pos h1]; constructor <;> intro h <;> omega
  · rw [if_neg h1]
    by_cases h2 : y < x
    · rw [if_pos h2]; constructor <;> intro h <;> omega
    · rw [if_neg h2]; constructor <;> intro h <;> omega
theorem zo7_ : ∀ a b : List Int, cmpL a b = 0 ↔ a = b
  | [], [] => by simp [cmpL]
  | _ :: _, [] => by simp [cmpL]
  | [], _ :: _ => by simp [cmpL]
  | x :: a, y :: b => by
    unfold cmpL
    by_cases c : cI x y = 0
    · rw [if_pos c, zo7_ a b, (z5g_ x y).1 c]; simp
    · rw [if_neg c]
      have : x ≠ y := fun e => c ((z5g_ x y).2 e)
      simp [c, this]
theorem zo8_ : ∀ a b : List Int, a.length = b.length → (cmpL a b < 0 ↔ lexB a b = true)
  | [], [], _ => by simp [cmpL, lexB]
  | _ :: _, [], h => by simp at h
  | [], _ :: _, h => by simp at h
  | x :: a, y :: b, h => by
    unfold cmpL lexB
    by_cases c : cI x y = 0
    · rw [if_pos c, if_pos ((z5g_ x y).1 c)]
      exact zo8_ a b (by simpa using h)
    · rw [if_neg c, if_neg (fun e => c ((z5g_ x y).2 e)), zkd_, decide_eq_true_eq]
theorem zo9_ (a b : List Int) : z4v_ a b = 0 ↔ a = b := by
  unfold z4v_
  by_cases c : cI (a.length : Int) (b.length : Int) = 0
  · rw [if_pos c]; exact zo7_ a b
  · rw [if_neg c]
    exact ⟨fun h => absurd h c, fun h => by rw [h] at c; exact absurd ((z5g_ _ _).2 rfl) c⟩
theorem zoa_ (a b : List Int) : decide (z4v_ a b < 0) = befS a b := by
  rw [Bool.eq_iff_iff, decide_eq_true_eq]
  unfold z4v_ befS
  simp only [Bool.or_eq_true, Bool.and_eq_true, decide_eq_true_eq]
  by_cases c : cI (a.length : Int) (b.length : Int) = 0
  · have e := (z5g_ _ _).1 c
    rw [if_pos c, zo8_ a b (by omega)]
    constructor
    · intro h; exact .inr ⟨by omega, h⟩
    · rintro (h | h)
      · omega
      · exact h.2
  · have e : ¬ (a.length : Int) = (b.length : Int) := fun e => c ((z5g_ _ _).2 e)
    rw [if_neg c, zkd_]
    constructor
    · intro h; left; omega
    · rintro (h | h)
      · omega
      · omega
theorem zua_ (a b : List Int) : decide (0 ≤ z4v_ a b) = !befS a b := by
  rw [← zoa_]
  by_cases h : z4v_ a b < 0
  · rw [decide_eq_true h, decide_eq_false (by omega)]; rfl
  · rw [decide_eq_false h, decide_eq_true (by omega)]; rfl
theorem zob_ {k : Nat} (hk : KK ≤ k) {a b : List Int} (ha : a.length ≤ 1000000000) (hb : b.length ≤ 1000000000) : zcg_ k a b = some (cmpL a b) := by
  have hK := zh_
  unfold zcg_
  have key : ∀ (d n i : Nat), a.length - i = d → d < n → za5_ k n a b a (a.length : Int) (i : Int) (fun s_4 s_5 => (if (decide ((List.length s_4 : Int) < (List.length s_5 : Int))) = true then some (-1) else some 0)) = (if i ≤ a.length then some (if a.length ≤ i then (if i < b.length then -1 else 0) else cmpL (a.drop i) (b.drop i)) else some (if a.length < b.length then -1 else 0)) := by
    intro d
    induction d with
    | zero =>
      intro n i hd hn
      obtain ⟨n, rfl⟩ : ∃ m, n = m + 1 := ⟨n - 1, by omega⟩
      have : ¬ (i : Int) < (a.length : Int) := by omega
      simp only [za5_, this, decide_false, Bool.false_eq_true, if_false]
      by_cases h1 : i ≤ a.length
      · have : i = a.length := by omega
        subst this
        rw [if_pos (Nat.le_refl _), if_pos (Nat.le_refl _)]
        by_cases h2 : a.length < b.length
        · rw [decide_eq_true (by omega), if_pos rfl, if_pos h2]
        · rw [decide_eq_false (by omega), if_neg (by simp), if_neg h2]
      · rw [if_neg h1]
        by_cases h2 : a.length < b.length
        · rw [decide_eq_true (by omega), if_pos rfl, if_pos h2]
        · rw [decide_eq_false (by omega), if_neg (by simp), if_neg h2]
    | succ d ih =>
      intro n i hd hn
      obtain ⟨n, rfl⟩ : ∃ m, n = m + 1 := ⟨n - 1, by omega⟩
      have hi : i < a.length := by omega
      have hlt : (i : Int) < (a.length : Int) := by omega
      have hw := zg_ (i := i) (by omega)
      have da : a.drop i = a[i] :: a.drop (i + 1) := List.drop_eq_getElem_cons hi
      rw [if_pos (by omega), if_neg (by omega), da]
      simp only [za5_, hlt, decide_true, if_true, Int.natCast_nonneg, Int.toNat_natCast, List.getElem?_eq_getElem hi, Option.bind_some, hw]
      by_cases hb2 : i < b.length
      · have db : b.drop i = b[i] :: b.drop (i + 1) := List.drop_eq_getElem_cons hb2
        rw [db, decide_eq_false (by omega), if_neg (by simp), List.getElem?_eq_getElem hb2]
        simp only [Option.bind_some, zo2_]
        unfold cmpL
        by_cases c : cI a[i] b[i] = 0
        · rw [decide_eq_true c, if_neg (by simp), if_pos c, ih n (i + 1) (by omega) (by omega), if_pos (by omega)]
          by_cases h3 : a.length ≤ i + 1
          · rw [if_pos h3, List.drop_of_length_le (l := a) (by omega)]
            by_cases h4 : i + 1 < b.length
            · rw [if_pos h4, List.drop_eq_getElem_cons h4]; rfl
            · rw [if_neg h4, List.drop_of_length_le (l := b) (by omega)]; rfl
          · rw [if_neg h3]
        · rw [decide_eq_false c, if_pos (by simp), if_neg c]
      · rw [List.drop_of_length_le (l := b) (by omega), decide_eq_true (by omega), if_pos rfl]
        rfl
  have h0 := key a.length k 0 (by omega) (by omega)
  have hz : ((0 : Nat) : Int) = 0 := rfl
  rw [hz] at h0
  rw [h0, if_pos (Nat.zero_le _), List.drop_zero, List.drop_zero]
  by_cases c : a.length ≤ 0
  · have : a = [] := List.length_eq_zero_iff.1 (by omega)
    subst this
    rw [if_pos c]
    cases b with
    | nil => rfl
    | cons y b => rw [if_pos (by simp)]; rfl
  · rw [if_neg c]
theorem zh3_ {k : Nat} (hk : KK ≤ k) {a b : List Int} (ha : a.length ≤ 1000000000) (hb : b.length ≤ 1000000000) : z7o_ k a b = some (z4v_ a b) := by
  unfold z7o_ z4v_
  rw [zu7_, zob_ hk ha hb]
  simp only [Option.bind_some, zo3_ hk]
theorem zub_ {k : Nat} (hk : KK ≤ k) {a b : List Int} (ha : a.length ≤ 1000000000) : zfm_ k a b = some (befS a b) := by
  have hK := zh_
  unfold zfm_ befS
  by_cases hl : a.length = b.length
  · rw [decide_eq_true (show (a.length : Int) = (b.length : Int) by omega), if_neg (by simp), decide_eq_false (by omega), decide_eq_true hl, Bool.false_or, Bool.true_and]
    have key : ∀ (d n i : Nat), a.length - i = d → d < n → z9p_ k n a b (i : Int) (some false) = some (lexB (a.drop i) (b.drop i)) := by
      intro d
      induction d with
      | zero =>
        intro n i hd hn
        obtain ⟨n, rfl⟩ : ∃ m, n = m + 1 := ⟨n - 1, by omega⟩
        have : ¬ (i : Int) < (a.length : Int) := by omega
        simp only [z9p_, this, decide_false, Bool.false_eq_true, if_false]
        rw [List.drop_of_length_le (l := a) (by omega)]; rfl
      | succ d ih =>
        intro n i hd hn
        obtain ⟨n, rfl⟩ : ∃ m, n = m + 1 := ⟨n - 1, by omega⟩
        have hi : i < a.length := by omega
        have hib : i < b.length := by omega
        have hlt : (i : Int) < (a.length : Int) := by omega
        have hw := zg_ (i := i) (by omega)
        have da : a.drop i = a[i] :: a.drop (i + 1) := List.drop_eq_getElem_cons hi
        have db : b.drop i = b[i] :: b.drop (i + 1) := List.drop_eq_getElem_cons hib
        rw [da, db]
        unfold lexB
        simp only [z9p_, hlt, decide_true, if_true, Int.natCast_nonneg, Int.toNat_natCast, List.getElem?_eq_getElem hi, List.getElem?_eq_getElem hib, Option.bind_some, hw]
        by_cases c : a[i] = b[i]
        · rw [decide_eq_true c, if_neg (by simp), if_pos c]
          exact ih n (i + 1) (by omega) (by omega)
        · rw [decide_eq_false c, if_pos (by simp), if_neg c]
    exact key a.length k 0 (by omega) (by omega)
  · rw [decide_eq_false (show ¬ (a.length : Int) = (b.length : Int) by omega), if_pos (by simp), decide_eq_false hl, Bool.false_and, Bool.or_false]
    exact congrArg some (decide_eq_decide.2 (by omega))
abbrev Tbl := List Int × List (List Int)
theorem zuc_ {k : Nat} (hk : KK ≤ k) {a b : List Int} (ha : a.length ≤ 1000000000) : zft_ k a b = some (decide (cmpL a b < 0)) := by
  have hK := zh_
  unfold zft_
  have key : ∀ (d n i : Nat), a.length - i = d → d < n → i ≤ a.length → i ≤ b.length → z9w_ k n a b (i : Int) (fun a_5 b_6 => some (decide ((List.length a_5 : Int) < (List.length b_6 : Int)))) = some (decide (cmpL (a.drop i) (b.drop i) < 0)) := by
    intro d
    induction d with
    | zero =>
      intro n i hd hn h1 h2
      obtain ⟨n, rfl⟩ : ∃ m, n = m + 1 := ⟨n - 1, by omega⟩
      have hi : i = a.length := by omega
      subst hi
      simp only [z9w_, Int.lt_irrefl, decide_false, Bool.false_eq_true, if_false]
      rw [List.drop_length]
      congr 1
      by_cases c : a.length < b.length
      · rw [List.drop_eq_getElem_cons c, decide_eq_true (by omega)]
        exact (decide_eq_true (by show (-1 : Int) < 0; decide)).symm
      · rw [List.drop_eq_nil_of_le (by omega), decide_eq_false (by omega)]
        exact (decide_eq_false (by show ¬ (0 : Int) < 0; decide)).symm
    | succ d ih =>
      intro n i hd hn h1 h2
      obtain ⟨n, rfl⟩ : ∃ m, n = m + 1 := ⟨n - 1, by omega⟩
      have hlt : (i : Int) < (a.length : Int) := by omega
      have hia : i < a.length := by omega
      have hw := zg_ (i := i) (by omega)
      simp only [z9w_, hlt, decide_true, if_true]
      by_cases c : i < b.length
      · have c' : (i : Int) < (b.length : Int) := by omega
        simp only [c', decide_true, if_true, Int.natCast_nonneg, Int.toNat_natCast, List.getElem?_eq_getElem hia, List.getElem?_eq_getElem c, Option.bind_some, hw]
        have e : cmpL (a.drop i) (b.drop i) = if cI a[i] b[i] = 0 then cmpL (a.drop (i + 1)) (b.drop (i + 1)) else cI a[i] b[i] := by rw [List.drop_eq_getElem_cons hia, List.drop_eq_getElem_cons c]; rfl
        rw [e]
        by_cases q : a[i] = b[i]
        · rw [if_pos ((z5g_ _ _).2 q), decide_eq_true q, if_neg (by simp)]
          exact ih n (i + 1) (by omega) (by omega) (by omega) (by omega)
        · rw [if_neg (fun e => q ((z5g_ _ _).1 e)), decide_eq_false q, if_pos (by simp)]
          congr 1
          exact decide_eq_decide.2 (zkd_ _ _).symm
      · have c' : ¬ (i : Int) < (b.length : Int) := by omega
        simp only [c', decide_false, Bool.false_eq_true, if_false]
        rw [List.drop_eq_getElem_cons hia, show List.drop i b = [] from List.drop_eq_nil_of_le (by omega), decide_eq_false (by omega)]
        exact congrArg some (decide_eq_false (by show ¬ (1 : Int) < 0; decide)).symm
  exact key a.length k 0 rfl (by omega) (by omega) (by omega)
structure smallT (t : Tbl) : Prop where
  cols : t.1.length ≤ 1048576
  rows : t.2.length ≤ 1048576
  cells : ∀ r ∈ t.2, r.length ≤ 1048576
def z4f_ (rows : List (List Int)) (i : Nat) (r : List Int) : Bool := if 0 < i then (match rows[i - 1]? with | some q => decide (cmpL q r < 0) | none => true) else true
def z6i_ (r : List Int) : Bool := r.all fun x => decide (0 ≤ x ∧ x ≤ 3)
def z5h_ (t : Tbl) (i : Nat) : Bool := match t.2[i]? with
  | some r => decide (r.length = t.1.length) && (z4f_ t.2 i r && z6i_ r)
  | none => true
def zcp_ (c : List Int) : Bool := decide ((∀ x ∈ c, (0 : Int) ≤ x ∧ x ≤ 7) ∧ c.Pairwise (fun a b : Int => a < b))
def tblB (t : Tbl) : Bool := zcp_ t.1 && (decide (t.2.length ≤ 24) && (List.range t.2.length).all (z5h_ t))
theorem zud_ {k : Nat} (hk : KK ≤ k) {t : Tbl} (hs : smallT t) : zfu_ k t = some (tblB t) := by
  have hK := zh_
  have h1 := hs.cols
  have h2 := hs.rows
  unfold zfu_ tblB
  have hr : z9o_ k t.1 0 7 = some (zcp_ t.1) := zo0_ hk (by omega) 0 7
  rw [hr]
  cases zcp_ t.1 with
  | false => simp
  | true =>
  simp only [Option.bind_some, Bool.not_true, Bool.false_eq_true, if_false, Bool.true_and]
  by_cases hl : t.2.length ≤ 24
  case neg => rw [decide_eq_true (by omega), if_pos rfl, decide_eq_false hl]; rfl
  rw [decide_eq_false (by omega), if_neg (by simp), decide_eq_true hl, Bool.true_and]
  have := z2s_ (L := fun n i => z7h_ k n t i (some true)) (b := t.2.length) (p := z5h_ t) (r := some false) (e := some true) ?_ ?_ (n := k) (by omega)
  · refine this.trans ?_
    cases (List.range t.2.length).all (z5h_ t) <;> rfl
  · intro n i hi
    have hlt : (i : Int) < (t.2.length : Int) := by omega
    have hw := zg_ (i := i) (by omega)
    have hg : t.2[i]? = some t.2[i] := List.getElem?_eq_getElem hi
    have hrl := hs.cells _ (List.getElem_mem hi)
    have hp : z5h_ t i = (decide ((t.2[i]).length = t.1.length) && (z4f_ t.2 i t.2[i] && z6i_ t.2[i])) := by unfold z5h_; rw [hg]
    rw [hp]
    generalize t.2[i] = r at hg hrl
    have inner : ∀ E : Tbl → Int → Option Bool, z6a_ k k t (i : Int) 0 E = if z6i_ r = true then E t (i : Int) else some false := by
      intro E
      refine z4p_ (L := fun m j => z6a_ k m t (i : Int) j E) (p := fun x => decide (0 ≤ x ∧ x ≤ 3)) (r := some false) (e := E t (i : Int)) r ?_ ?_ (n := k) (by omega)
      · intro m j x hx hlt2
        have hw2 := zg_ (i := j) (by omega)
        simp only [z6a_, hlt2, decide_true, if_true, Int.natCast_nonneg, Int.toNat_natCast, hg, hx, Option.bind_some, z4c_, hw2]
        by_cases c : 0 ≤ x ∧ x ≤ 3 <;> simp [c]
      · intro m
        simp only [z6a_, Int.natCast_nonneg, if_true, Int.toNat_natCast, hg, Option.bind_some, Int.lt_irrefl, decide_false, Bool.false_eq_true, if_false]
    simp only [z7h_, hlt, decide_true, if_true, Int.natCast_nonneg, Int.toNat_natCast, hg, Option.bind_some, inner, hw]
    by_cases c : r.length = t.1.length
    case neg => rw [decide_eq_false (show ¬ (r.length : Int) = (t.1.length : Int) by omega), if_pos (by simp), decide_eq_false c, Bool.false_and, if_neg (by simp)]
    rw [decide_eq_true (show (r.length : Int) = (t.1.length : Int) by omega), if_neg (by simp), decide_eq_true c, Bool.true_and]
    by_cases h0 : 0 < i
    · have hw1 : z0_ ((i : Int) - 1) = ((i - 1 : Nat) : Int) := by rw [w_id (by omega) (by omega)]; omega
      have hg1 : t.2[i - 1]? = some t.2[i - 1] := List.getElem?_eq_getElem (by omega)
      have hql := hs.cells _ (List.mem_of_getElem? hg1)
      have hpv : z4f_ t.2 i r = decide (cmpL t.2[i - 1] r < 0) := by unfold z4f_; rw [if_pos h0, hg1]
      rw [hpv, decide_eq_true (show (0 : Int) < (i : Int) by omega)]
      generalize t.2[i - 1] = q at hg1 hql
      simp only [if_true, hw1, Int.natCast_nonneg, Int.toNat_natCast, hg1, Option.bind_some, zuc_ hk (show q.length ≤ 1000000000 by omega)]
      cases decide (cmpL q r < 0) <;> cases z6i_ r <;> simp
    · have hpv : z4f_ t.2 i r = true := by unfold z4f_; rw [if_neg h0]
      rw [hpv, decide_eq_false (show ¬ (0 : Int) < (i : Int) by omega), if_neg (by simp), Bool.true_and]
  · intro n
    simp only [z7h_, Int.lt_irrefl, decide_false, Bool.false_eq_true, if_false]
theorem zue_ {k : Nat} (hk : KK ≤ k) {t : Tbl} (hs : smallT t) : zgn_ k t = some (tblB t) := by
  have hK := zh_
  have h1 := hs.cols
  have h2 := hs.rows
  unfold zgn_ tblB
  have hc : zcp_ t.1 = (decide (t.1.Pairwise (fun a b : Int => a < b)) && t.1.all (fun x => decide (0 ≤ x ∧ x ≤ 8 - 1))) := by
    unfold zcp_
    rw [Bool.eq_iff_iff]
    simp only [decide_eq_true_eq, Bool.and_eq_true, List.all_eq_true]
    exact ⟨fun ⟨z1, z2⟩ => ⟨z2, fun x hx => by have := z1 x hx; omega⟩, fun ⟨z1, z2⟩ => ⟨fun x hx => by have := z2 x hx; omega, z1⟩⟩
  rw [zo1_ hk (by omega), zh0_ hk h1 (by omega), hc]
  cases decide (t.1.Pairwise (fun a b : Int => a < b)) with
  | false => simp
  | true =>
  cases t.1.all (fun x => decide (0 ≤ x ∧ x ≤ 8 - 1)) with
  | false => simp
  | true =>
  simp only [Option.bind_some, Bool.not_true, Bool.false_eq_true, if_false, Bool.true_and]
  by_cases hl : t.2.length ≤ 24
  case neg => rw [decide_eq_true (by omega), if_pos rfl, decide_eq_false hl]; rfl
  rw [decide_eq_false (by omega), if_neg (by simp), decide_eq_true hl, Bool.true_and]
  have := z2s_ (L := fun n i => z7u_ k n t.2 (t.2.length : Int) i t (some true)) (b := t.2.length) (p := z5h_ t) (r := some false) (e := some true) ?_ ?_ (n := k) (by omega)
  · refine this.trans ?_
    cases (List.range t.2.length).all (z5h_ t) <;> rfl
  · intro n i hi
    have hlt : (i : Int) < (t.2.length : Int) := by omega
    have hw := zg_ (i := i) (by omega)
    have hg : t.2[i]? = some t.2[i] := List.getElem?_eq_getElem hi
    have hrl := hs.cells _ (List.getElem_mem hi)
    have hp : z5h_ t i = (decide ((t.2[i]).length = t.1.length) && (z4f_ t.2 i t.2[i] && z6i_ t.2[i])) := by unfold z5h_; rw [hg]
    rw [hp]
    generalize t.2[i] = r at hg hrl
    have he : z6f_ k r 4 = some (z6i_ r) := zh0_ hk hrl (by omega)
    simp only [z7u_, hlt, decide_true, if_true, Int.natCast_nonneg, Int.toNat_natCast, hg, Option.bind_some, he, hw]
    by_cases c : r.length = t.1.length
    case neg => rw [decide_eq_false (show ¬ (r.length : Int) = (t.1.length : Int) by omega), if_pos (by simp), decide_eq_false c, Bool.false_and, if_neg (by simp)]
    rw [decide_eq_true (show (r.length : Int) = (t.1.length : Int) by omega), if_neg (by simp), decide_eq_true c, Bool.true_and]
    by_cases h0 : 0 < i
    · have hw1 : z0_ ((i : Int) - 1) = ((i - 1 : Nat) : Int) := by rw [w_id (by omega) (by omega)]; omega
      have hg1 : t.2[i - 1]? = some t.2[i - 1] := List.getElem?_eq_getElem (by omega)
      have hql := hs.cells _ (List.mem_of_getElem? hg1)
      have hpv : z4f_ t.2 i r = decide (cmpL t.2[i - 1] r < 0) := by unfold z4f_; rw [if_pos h0, hg1]
      rw [hpv, decide_eq_true (show (0 : Int) < (i : Int) by omega)]
      generalize t.2[i - 1] = q at hg1 hql
      have hge : decide (0 ≤ cmpL q r) = !decide (cmpL q r < 0) := by
        by_cases z : cmpL q r < 0
        · rw [decide_eq_true z, decide_eq_false (by omega)]; rfl
        · rw [decide_eq_false z, decide_eq_true (by omega)]; rfl
      simp only [if_true, hw1, Int.natCast_nonneg, Int.toNat_natCast, hg1, Option.bind_some, zob_ hk (show q.length ≤ 1000000000 by omega) (show r.length ≤ 1000000000 by omega), hge]
      cases decide (cmpL q r < 0) <;> cases z6i_ r <;> simp
    · have hpv : z4f_ t.2 i r = true := by unfold z4f_; rw [if_neg h0]
      rw [hpv, decide_eq_false (show ¬ (0 : Int) < (i : Int) by omega), if_neg (show ¬ (false = true) by simp), Bool.true_and]
      cases z6i_ r <;> simp
  · intro n
    simp only [z7u_, Int.lt_irrefl, decide_false, Bool.false_eq_true, if_false]
def z7y_ (L : List Tbl) : Bool := L.all tblB && decide (L.length ≤ 6)
theorem zuf_ {k : Nat} (hk : KK ≤ k) {L : List Tbl} (hL : L.length ≤ 1048576) (hs : ∀ t ∈ L, smallT t) : zfv_ k L = some (z7y_ L) := by
  have hK := zh_
  unfold zfv_ z7y_
  have := z4p_ (L := fun n i => z9x_ k n L i (fun list_3 => some (decide ((List.length list_3 : Int) ≤ 6)))) (p := tblB) (r := some false) (e := some (decide (L.length ≤ 6))) L ?_ ?_ (n := k) (by omega)
  · refine this.trans ?_
    cases L.all tblB <;> rfl
  · intro n i x hx hlt
    have hw := zg_ (i := i) (by omega)
    simp only [z9x_, hlt, decide_true, if_true, Int.natCast_nonneg, Int.toNat_natCast, hx, Option.bind_some, zud_ hk (hs _ (List.mem_of_getElem? hx)), hw]
    cases tblB x <;> simp
  · intro n
    simp only [z9x_, Int.lt_irrefl, decide_false, Bool.false_eq_true, if_false]
    exact congrArg some (decide_eq_decide.2 (by omega))
theorem zug_ {k : Nat} (hk : KK ≤ k) {L : List Tbl} (hL : L.length ≤ 1048576) (hs : ∀ t ∈ L, smallT t) : zgo_ k L = some (z7y_ L) := by
  have hK := zh_
  unfold zgo_ z7y_ zjr_ zjq_
  by_cases hl : L.length ≤ 6
  case neg => rw [decide_eq_false (by omega), if_neg (by simp), decide_eq_false hl, Bool.and_false]
  rw [decide_eq_true (by omega), if_pos rfl, decide_eq_true hl, Bool.and_true]
  rw [z3q_ (L := fun n i => zah_ k n L () (L.length : Int) i (some (-1))) (p := fun x => !tblB x) L ?_ ?_ (n := k) (by omega)]
  · simp only [Option.bind_some, z4d_]
    congr 1
    rw [← List.not_all_eq_any_not, Bool.not_not]
  · intro n i x hi hlt
    have hw := zg_ (i := i) (by omega)
    simp only [zah_, zjp_, zue_ hk (hs _ (List.mem_of_getElem? hi)), hlt, decide_true, if_true, Int.natCast_nonneg, Int.toNat_natCast, hi, Option.bind_some, hw]
  · intro n
    simp [zah_]
theorem zuh_ {i j : Nat} (h : i + j < 4611686018427387904) : z0_ (Int.fdiv (z74_ (z0_ ((i : Int) + (j : Int)))) (2 ^ 1)) = (((i + j) / 2 : Nat) : Int) := by
  rw [w_id (x := (i : Int) + j) (by omega) (by omega)]
  have hu : z74_ ((i : Int) + (j : Int)) = (i : Int) + j := by unfold z74_ IntKind.wrap; simp [IntKind.bits, IntKind.signed]; omega
  rw [hu, Int.fdiv_eq_ediv_of_nonneg _ (by omega), w_id (by omega) (by omega)]
  omega
abbrev Cx := List (List Int)
def z1z_ (s : List Int) (k : Nat) : List Int := s.take k ++ s.drop (k + 1)
theorem zke_ {s : List Int} {k : Nat} (h : k < s.length) : (z1z_ s k).length = s.length - 1 := by
  unfold z1z_; rw [List.length_append, List.length_take, List.length_drop]; omega
structure CxP (c : Cx) : Prop where
  len : c.length ≤ 48
  simp : ∀ s ∈ c, SimpP s
  ord : c.Pairwise (fun a b => befS a b = true)
  face : ∀ s ∈ c, 1 < s.length → ∀ k, k < s.length → z1z_ s k ∈ c
open Classical in
noncomputable def cxB (c : Cx) : Bool := decide (CxP c)
theorem z4w_ {c : Cx} : cxB c = true ↔ CxP c := by unfold cxB; simp
def z25_ (c : Cx) : Prop := c.length ≤ 1048576 ∧ ∀ s ∈ c, s.length ≤ 1048576
theorem zoc_ {s : List Int} (hs : s.length ≤ 1048576) {k : Nat} (h : k < s.length) : zc7_ s (k : Int) = some (z1z_ s k) := by
  have hL := z1i_
  have hw := zg_ (i := k) (by omega)
  have b1 : (k : Int) ≤ (s.length : Int) := by omega
  have b2 : ((k + 1 : Nat) : Int) ≤ (s.length : Int) := by omega
  unfold zc7_ zj7_
  have hdr : (s.drop (k + 1)).take (s.length - (k + 1)) = s.drop (k + 1) := List.take_of_length_le (by rw [List.length_drop]; exact Nat.le_refl _)
  simp only [Int.natCast_nonneg, Int.le_refl, b1, and_self, if_true, Int.toNat_natCast]
  rw [if_pos (by simp only [List.length_nil, List.length_take]; omega)]
  simp only [Option.bind_some, hw, Int.natCast_nonneg, Int.toNat_natCast, b2, Int.le_refl, and_self, if_true, hdr]
  rw [if_pos (by simp only [List.length_take, List.length_drop]; omega)]
  rfl
def posC (c : Cx) (s : List Int) : Nat := c.findIdx (fun y => decide (y = s))
theorem z5i_ {c : Cx} {s : List Int} : posC c s < c.length ↔ s ∈ c := by
  unfold posC
  rw [List.findIdx_lt_length]
  constructor
  · rintro ⟨x, hx, h⟩; rw [← of_decide_eq_true h]; exact hx
  · intro h; exact ⟨s, h, decide_eq_true rfl⟩
theorem zod_ {c : Cx} {s : List Int} (h : s ∈ c) : c[posC c s]? = some s := by
  have hl := z5i_.2 h
  rw [List.getElem?_eq_getElem hl]
  have : decide (c[posC c s] = s) = true := List.findIdx_getElem (xs := c) (p := fun y => decide (y = s)) (w := hl)
  rw [of_decide_eq_true this]
theorem zui_ {k : Nat} (hk : KK ≤ k) {a b : List Int} (ha : a.length ≤ 1000000000) : zfn_ k a b = some (decide (a = b)) := by
  have hK := zh_
  unfold zfn_
  by_cases hl : a.length = b.length
  · rw [decide_eq_true (show (a.length : Int) = (b.length : Int) by omega), if_neg (by simp)]
    refine z66_ (L := fun n i => z9q_ k n a b i (some true)) a b hl ?_ ?_ (n := k) (by omega)
    · intro n i x y hx hy hlt
      have hw := zg_ (i := i) (by omega)
      by_cases e : x = y <;> simp [z9q_, hlt, hx, hy, hw, e]
    · intro n
      simp [z9q_]
  · have h2 : a ≠ b := fun e => hl (by rw [e])
    rw [decide_eq_false (show ¬ (a.length : Int) = (b.length : Int) by omega), if_pos (by simp), decide_eq_false h2]
theorem zoe_ {k : Nat} (hk : KK ≤ k) {c : Cx} (hc : z25_ c) (s : List Int) : zc8_ k c s = some (if posC c s < c.length then ((posC c s : Nat) : Int) else -1) := by
  have hK := zh_
  obtain ⟨h1, h2⟩ := hc
  unfold zc8_
  rw [z3q_ (L := fun m i => z9r_ k m c s i (some (-1))) (p := fun y => decide (y = s)) c ?_ ?_ (n := k) (by omega)]
  · unfold idxP posC
    cases hf : c.findIdx? (fun y => decide (y = s)) with
    | some i =>
      obtain ⟨hlt, hp⟩ := List.findIdx?_eq_some_iff_findIdx_eq.1 hf
      rw [hp, if_pos hlt]
    | none =>
      rw [List.findIdx?_eq_none_iff] at hf
      have : ¬ c.findIdx (fun y => decide (y = s)) < c.length := fun h => by
        obtain ⟨x, hx, h2⟩ := List.findIdx_lt_length.1 h
        rw [hf x hx] at h2; cases h2
      rw [if_neg this]
  · intro m i x hi hlt
    have hw := zg_ (i := i) (by omega)
    have hxl := h2 x (List.mem_of_getElem? hi)
    simp only [z9r_, hlt, decide_true, if_true, Int.natCast_nonneg, Int.toNat_natCast, hi, Option.bind_some, hw, zui_ hk (show x.length ≤ 1000000000 by omega)]
  · intro m
    simp [z9r_]
theorem zof_ (c : Cx) (s : List Int) : decide ((if posC c s < c.length then ((posC c s : Nat) : Int) else -1) < 0) = !decide (s ∈ c) := by
  by_cases h : s ∈ c
  · rw [if_pos (z5i_.2 h), decide_eq_false (by omega), decide_eq_true h]; rfl
  · rw [if_neg (fun h2 => h (z5i_.1 h2)), decide_eq_false h]; rfl
theorem zuj_ {k : Nat} (hk : KK ≤ k) {a b : List Int} (ha : a.length ≤ 1048576) (hb : b.length ≤ 1048576) : zge_ k [a, b] = some (a ++ b) := by
  have hK := zh_
  have hL := z1i_
  obtain ⟨n, rfl⟩ : ∃ n, k = n + 3 := ⟨k - 3, by omega⟩
  have w1 : z0_ (0 + (a.length : Int)) = (a.length : Int) := by rw [w_id (by omega) (by omega)]; omega
  have w2 : z0_ ((a.length : Int) + (b.length : Int)) = ((a.length + b.length : Nat) : Int) := by rw [w_id (by omega) (by omega)]; omega
  have w3 : z0_ ((0 : Int) + 1) = 1 := w_id (by omega) (by omega)
  have w4 : z0_ ((1 : Int) + 1) = 2 := w_id (by omega) (by omega)
  have n1 : ¬ ((a.length : Int) < 0) := by omega
  have n2 : ¬ (((a.length + b.length : Nat) : Int) < 0) := by omega
  have l1 : (((a.length + b.length : Nat) : Int).toNat) * 8 ≤ LIM := by simp only [Int.toNat_natCast]; omega
  have l2 : a.length * 8 ≤ LIM := by omega
  have l3 : (a.length + b.length) * 8 ≤ LIM := by omega
  unfold zge_
  simp only [zgc_, List.length_cons, List.length_nil, Nat.zero_add, Nat.reduceAdd, show ((2 : Nat) : Int) = 2 from rfl, w1, w2, w3, w4]
  simp only [znv_, zgd_, w1, w2, w3, w4, n1, n2, true_and, l1, l2, l3, Int.natCast_nonneg, List.nil_append, decide_false, Bool.false_eq_true, if_false, if_true, Option.bind_some, and_self, List.getElem?_cons_zero, List.getElem?_cons_succ, show decide ((0 : Int) < 2) = true from rfl, show decide ((1 : Int) < 2) = true from rfl, show decide ((2 : Int) < 2) = false from rfl, show (0 : Int).toNat = 0 from rfl, show (1 : Int).toNat = 1 from rfl, show (0 : Int) ≤ 0 from Int.le_refl _, show (0 : Int) ≤ 1 by omega, List.length_cons, List.length_nil, Nat.zero_add, Nat.reduceAdd, show ((2 : Nat) : Int) = 2 from rfl]
def z1o_ (s : List Int) : Cx := if 1 < s.length then (List.range s.length).map (z1z_ s) else []
theorem zog_ {k : Nat} (hk : KK ≤ k) {s : List Int} (hs : s.length ≤ 1048576) : za6_ k s = some (z1o_ s) := by
  have hK := zh_
  have hL := z1i_
  unfold za6_
  have := z1n_ (α := Nat) (A := Cx) (L := fun n i q => z7p_ k n s (s.length : Int) i q (fun q_3 => some q_3)) (I := fun pre q => q = (if 1 < s.length then (List.range pre.length).map (z1z_ s) else [])) (G := fun _ _ => some (z1o_ s)) (List.range s.length) ?_ ?_ k (by simp; omega) [] (by simp)
  · exact this
  · intro n pre x post q hx hq ih hg hlt
    rw [List.length_range] at hlt
    have hpl : pre.length < s.length := by omega
    have hw := zg_ (i := pre.length) (by omega)
    simp only [z7p_, hlt, decide_true, if_true]
    by_cases c : 1 < s.length
    · rw [if_pos c] at hq
      have b1 : (pre.length : Int) ≤ (s.length : Int) := by omega
      have b2 : ((pre.length + 1 : Nat) : Int) ≤ (s.length : Int) := by omega
      have hdr : (s.drop (pre.length + 1)).take (s.length - (pre.length + 1)) = s.drop (pre.length + 1) := List.take_of_length_le (by rw [List.length_drop]; exact Nat.le_refl _)
      have hcc := zuj_ hk (a := s.take pre.length) (b := s.drop (pre.length + 1)) (by rw [List.length_take]; omega) (by rw [List.length_drop]; omega)
      have hlim : (q.length + 1) * 24 ≤ LIM := by rw [hq, List.length_map, List.length_range]; omega
      rw [decide_eq_true (by omega), if_pos rfl]
      simp only [Int.natCast_nonneg, Int.le_refl, Int.toNat_natCast, b1, hw, b2, and_self, if_true, hdr, hcc, Option.bind_some, List.length_singleton, hlim]
      refine ih _ ?_
      rw [if_pos c, hq, List.length_append, List.length_singleton, List.range_succ, List.map_append]
      rfl
    · rw [decide_eq_false (by omega), if_neg (by simp), hw]
      exact ih _ (by rw [if_neg c] at hq ⊢; exact hq)
  · intro n q hq
    rw [List.length_range] at hq ⊢
    simp only [z7p_, Int.lt_irrefl, decide_false, Bool.false_eq_true, if_false, hq]
    rfl
theorem zcq_ {s f : List Int} : f ∈ z1o_ s ↔ 1 < s.length ∧ ∃ k, k < s.length ∧ f = z1z_ s k := by
  unfold z1o_
  by_cases c : 1 < s.length
  · rw [if_pos c, List.mem_map]
    constructor
    · rintro ⟨k, hk, rfl⟩; exact ⟨c, k, List.mem_range.1 hk, rfl⟩
    · rintro ⟨_, k, hk, rfl⟩; exact ⟨k, List.mem_range.2 hk, rfl⟩
  · rw [if_neg c]; simp [c]
def lowC (c : Cx) (s : List Int) : Nat := c.findIdx (fun y => !befS y s)
theorem zuk_ (c : Cx) (s : List Int) : lowC c s ≤ c.length := List.findIdx_le_length
theorem zoh_ {c : Cx} {s : List Int} {i : Nat} (h : i < lowC c s) (hi : i < c.length) : befS c[i] s = true := by
  have := List.not_of_lt_findIdx h
  simpa using this
theorem zoi_ {c : Cx} {s : List Int} (hs : c.Pairwise (fun a b => befS a b = true)) {i : Nat} (h : lowC c s ≤ i) (hi : i < c.length) : befS c[i] s = false := by
  have hp : lowC c s < c.length := by omega
  have h0 : befS c[lowC c s] s = false := by
    have := List.findIdx_getElem (xs := c) (p := fun y => !befS y s) (w := hp)
    simp only [Bool.not_eq_true'] at this
    exact this
  by_cases e : i = lowC c s
  · subst e; exact h0
  · cases hb : befS c[i] s
    · rfl
    · have h1 := List.pairwise_iff_getElem.1 hs (lowC c s) i hp hi (by omega)
      rw [zco_ h1 hb] at h0; cases h0
theorem zul_ {c : Cx} (hs : c.Pairwise (fun a b => befS a b = true)) {s : List Int} (h : s ∈ c) : lowC c s = posC c s := by
  have hl := z5i_.2 h
  have hg := zod_ h
  rw [List.getElem?_eq_getElem hl] at hg
  have hg := Option.some.inj hg
  have h1 : ¬ posC c s < lowC c s := fun q => by have := zoh_ q hl; rw [hg, zh2_] at this; cases this
  have h2 : ¬ lowC c s < posC c s := fun q => by
    have h3 := List.pairwise_iff_getElem.1 hs (lowC c s) (posC c s) (by omega) hl q
    rw [hg] at h3
    rw [zoi_ hs (Nat.le_refl _) (by omega)] at h3; cases h3
  omega
theorem zum_ {k : Nat} (hk : KK ≤ k) {c : Cx} (hc : z25_ c) (hs : c.Pairwise (fun a b => befS a b = true)) {s : List Int} (hsl : s.length ≤ 1048576) {e : Cx → List Int → Unit → Int → Int → Option (Int × Bool)} :
    ∀ (d : Nat) (i j n : Nat), j - i ≤ d → d < n → i ≤ lowC c s → lowC c s ≤ j → j ≤ c.length → z6e_ k n c s () (c.length : Int) (i : Int) (j : Int) e = e c s () (c.length : Int) ((lowC c s : Nat) : Int) := by
  obtain ⟨hcl, hce⟩ := hc
  intro d
  induction d with
  | zero =>
    intro i j n h1 h2 h3 h4 h5
    obtain ⟨n, rfl⟩ : ∃ m, n = m + 1 := ⟨n - 1, by omega⟩
    have hlt : ¬ (i : Int) < (j : Int) := by omega
    simp only [z6e_, hlt, decide_false, Bool.false_eq_true, if_false]
    rw [show i = lowC c s by omega]
  | succ d ih =>
    intro i j n h1 h2 h3 h4 h5
    obtain ⟨n, rfl⟩ : ∃ m, n = m + 1 := ⟨n - 1, by omega⟩
    by_cases hij : i < j
    · have hlt : (i : Int) < (j : Int) := by omega
      have hm : (i + j) / 2 < c.length := by omega
      have hw := zg_ (i := (i + j) / 2) (by omega)
      have hml := hce c[(i + j) / 2] (List.getElem_mem hm)
      simp only [z6e_, hlt, decide_true, if_true, zuh_ (show i + j < 4611686018427387904 by omega), Int.natCast_nonneg, Int.toNat_natCast, List.getElem?_eq_getElem hm, Option.bind_some, zh3_ hk (show (c[(i + j) / 2]).length ≤ 1000000000 by omega) (show s.length ≤ 1000000000 by omega), zoa_, hw]
      by_cases hb : befS c[(i + j) / 2] s = true
      · rw [if_pos hb]
        refine ih _ _ _ (by omega) (by omega) ?_ h4 h5
        by_cases hq : lowC c s ≤ (i + j) / 2
        · rw [zoi_ hs hq hm] at hb; cases hb
        · omega
      · rw [if_neg hb]
        refine ih _ _ _ (by omega) (by omega) h3 ?_ (by omega)
        by_cases hq : (i + j) / 2 < lowC c s
        · exact absurd (zoh_ hq hm) hb
        · omega
    · have hlt : ¬ (i : Int) < (j : Int) := by omega
      simp only [z6e_, hlt, decide_false, Bool.false_eq_true, if_false]
      rw [show i = lowC c s by omega]
theorem zoj_ {k : Nat} (hk : KK ≤ k) {c : Cx} (hc : z25_ c) (hs : c.Pairwise (fun a b => befS a b = true)) {s : List Int} (hsl : s.length ≤ 1048576) : zch_ k c s = some (if posC c s < c.length then ((posC c s : Nat) : Int) else -1) := by
  have hK := zh_
  have hcl := hc.1
  have := zuk_ c s
  unfold zch_ zjf_
  have h0 := zum_ hk hc hs hsl (e := fun x_3 target_4 cmp_5 n_6 i_7 => (if (decide (i_7 < n_6)) = true then (if 0 ≤ i_7 then (x_3[i_7.toNat]?).bind fun y_8 => (z7o_ k y_8 target_4).bind fun r_9 => some (i_7, (decide (r_9 = 0))) else none) else some (i_7, false))) c.length 0 c.length k (by omega) (by omega) (by omega) (by omega) (by omega)
  rw [show ((0 : Nat) : Int) = 0 from rfl] at h0
  rw [h0]
  by_cases h : s ∈ c
  · have hp := zul_ hs h
    have hl := z5i_.2 h
    have hg := zod_ h
    rw [hp, if_pos hl, decide_eq_true (by omega), if_pos rfl]
    simp only [Int.natCast_nonneg, if_true, Int.toNat_natCast, hg, Option.bind_some, zh3_ hk (show s.length ≤ 1000000000 by omega) (show s.length ≤ 1000000000 by omega)]
    have : z4v_ s s = 0 := (zo9_ s s).2 rfl
    rw [this]; rfl
  · rw [if_neg (fun q => h (z5i_.1 q))]
    by_cases hl : lowC c s < c.length
    · have hxl := hc.2 c[lowC c s] (List.getElem_mem hl)
      rw [decide_eq_true (by omega), if_pos rfl]
      simp only [Int.natCast_nonneg, if_true, Int.toNat_natCast, List.getElem?_eq_getElem hl, Option.bind_some, zh3_ hk (show (c[lowC c s]).length ≤ 1000000000 by omega) (show s.length ≤ 1000000000 by omega)]
      have : ¬ z4v_ c[lowC c s] s = 0 := fun e => h (by rw [← (zo9_ _ _).1 e]; exact List.getElem_mem hl)
      rw [decide_eq_false this]; rfl
    · rw [decide_eq_false (by omega), if_neg (by simp)]; rfl
open Classical in
noncomputable def cxAt (c d : Cx) (i : Nat) : Bool := decide (∀ s, c[i]? = some s → SimpP s ∧ z4e_ (fun a b => befS a b = true) c i s ∧ (1 < s.length → ∀ k, k < s.length → z1z_ s k ∈ d))
open Classical in
theorem z2m_ {c d : Cx} {i : Nat} {s : List Int} (h : c[i]? = some s) : cxAt c d i = true ↔ SimpP s ∧ z4e_ (fun a b => befS a b = true) c i s ∧ (1 < s.length → ∀ k, k < s.length → z1z_ s k ∈ d) := by
  unfold cxAt
  rw [decide_eq_true_eq]
  exact ⟨fun q => q s h, fun q t ht => by rw [h] at ht; cases ht; exact q⟩
open Classical in
theorem zok_ {k : Nat} (hk : KK ≤ k) {c : Cx} (hc : z25_ c) : zc9_ k c = some (cxB c) := by
  have hK := zh_
  obtain ⟨hcl, hce⟩ := hc
  unfold zc9_
  by_cases h48 : c.length ≤ 48
  · rw [decide_eq_false (by omega), if_neg (by simp)]
    have := z2s_ (L := fun n i => z4b_ k n c i (some true)) (b := c.length) (p := fun i => cxAt c c i) (r := some false) (e := some true) ?_ ?_ (n := k) (by omega)
    · rw [this]
      have e : (List.range c.length).all (fun i => cxAt c c i) = true ↔ CxP c := by
        rw [List.all_eq_true]
        constructor
        · intro h
          have h' : ∀ i s, c[i]? = some s → SimpP s ∧ z4e_ (fun a b => befS a b = true) c i s ∧ (1 < s.length → ∀ k, k < s.length → z1z_ s k ∈ c) := fun i s hs => (z2m_ hs).1 (h i (List.mem_range.2 (List.getElem?_eq_some_iff.1 hs).1))
          refine ⟨h48, fun s hs => ?_, ?_, fun s hs => ?_⟩
          · obtain ⟨i, hi⟩ := List.getElem?_of_mem hs
            exact (h' i s hi).1
          · have := zh1_ (R := fun a b => befS a b = true) (fun a b c => zco_) (l := c) (m := c.length) (fun j hj x hx => (h' j x hx).2.1)
            rwa [List.take_length] at this
          · obtain ⟨i, hi⟩ := List.getElem?_of_mem hs
            exact (h' i s hi).2.2
        · intro h i hi
          rw [List.mem_range] at hi
          exact (z2m_ (List.getElem?_eq_getElem hi)).2 ⟨h.simp _ (List.getElem_mem hi), zkb_ h.ord (List.getElem?_eq_getElem hi), h.face _ (List.getElem_mem hi)⟩
      by_cases q : CxP c
      · rw [if_pos (e.2 q), z4w_.2 q]
      · rw [if_neg (fun h => q (e.1 h))]
        congr 1
        symm
        rw [Bool.eq_false_iff, ne_eq, z4w_]; exact q
    · intro n i hi
      have hlt : (i : Int) < (c.length : Int) := by omega
      have hw := zg_ (i := i) (by omega)
      have hg : c[i]? = some c[i] := List.getElem?_eq_getElem hi
      have hsl := hce c[i] (List.getElem_mem hi)
      have hin : z5b_ k k c (i : Int) c[i] 0 (fun c_5 i_6 => z4b_ k n c_5 (z0_ (i_6 + 1)) (some true)) = if (∀ k, 1 < (c[i]).length → k < (c[i]).length → z1z_ c[i] k ∈ c) then z4b_ k n c ((i + 1 : Nat) : Int) (some true) else some false := by
        by_cases h1 : 1 < (c[i]).length
        · have := z2s_ (L := fun m j => z5b_ k m c (i : Int) c[i] j (fun c_5 i_6 => z4b_ k n c_5 (z0_ (i_6 + 1)) (some true))) (b := (c[i]).length) (p := fun j => decide (z1z_ c[i] j ∈ c)) (r := some false) (e := z4b_ k n c ((i + 1 : Nat) : Int) (some true)) ?_ ?_ (n := k) (by omega)
          · rw [this]
            simp only [List.all_eq_true, List.mem_range, decide_eq_true_eq]
            by_cases q : ∀ j, j < (c[i]).length → z1z_ c[i] j ∈ c
            · rw [if_pos q, if_pos (fun j _ hj => q j hj)]
            · rw [if_neg q, if_neg (fun h => q fun j hj => h j h1 hj)]
          · intro m j hj
            have hjlt : (j : Int) < ((c[i]).length : Int) := by omega
            have hw2 := zg_ (i := j) (by omega)
            simp only [z5b_, hjlt, decide_true, if_true, decide_eq_true (show (1 : Int) < ((c[i]).length : Int) by omega), zoc_ hsl hj, Option.bind_some, zoe_ hk ⟨hcl, hce⟩, zof_, hw2]
            by_cases q : z1z_ c[i] j ∈ c
            · rw [decide_eq_true q]; simp
            · rw [decide_eq_false q]; simp
          · intro m
            simp only [z5b_, Int.lt_irrefl, decide_false, Bool.false_eq_true, if_false, hw]
        · rw [if_pos (fun j h => absurd h h1)]
          obtain ⟨m, hm⟩ : ∃ m, k = m + 1 := ⟨k - 1, by omega⟩
          have hn1 : ¬ (1 : Int) < ((c[i]).length : Int) := by omega
          conv => lhs; arg 2; rw [hm]
          simp only [z5b_, hn1, decide_false, Bool.false_eq_true, if_false, hw]
          split <;> rfl
      simp only [z4b_, hlt, decide_true, if_true, Int.natCast_nonneg, Int.toNat_natCast, hg, Option.bind_some, zu4_ hk (show (c[i]).length ≤ 1000000000 by omega)]
      cases hsb : z6g_ c[i] with
      | false =>
        have : ¬ cxAt c c i = true := fun h => by
          have := z6h_.2 ((z2m_ hg).1 h).1
          rw [hsb] at this; cases this
        rw [if_neg this]; simp
      | true =>
        have hsp := z6h_.1 hsb
        simp only [Bool.not_true, Bool.false_eq_true, if_false]
        by_cases h0 : 0 < i
        · have h0' : (0 : Int) < (i : Int) := by omega
          have hw1 : z0_ ((i : Int) - 1) = ((i - 1 : Nat) : Int) := by rw [w_id (by omega) (by omega)]; omega
          have hg1 : c[i - 1]? = some c[i - 1] := List.getElem?_eq_getElem (by omega)
          have hpl := hce c[i - 1] (List.getElem_mem (by omega))
          simp only [h0', decide_true, if_true, hw1, Int.natCast_nonneg, Int.toNat_natCast, hg1, Option.bind_some, zub_ hk (show (c[i - 1]).length ≤ 1000000000 by omega)]
          cases hbf : befS c[i - 1] c[i] with
          | false =>
            have : ¬ cxAt c c i = true := fun h => by
              have : befS c[i - 1] c[i] = true := ((z2m_ hg).1 h).2.1 h0 _ hg1
              rw [hbf] at this; cases this
            rw [if_neg this]; simp
          | true =>
            simp only [Bool.not_true, Bool.false_eq_true, if_false, hin]
            by_cases q : ∀ k, 1 < (c[i]).length → k < (c[i]).length → z1z_ c[i] k ∈ c
            · rw [if_pos q, if_pos ((z2m_ hg).2 ⟨hsp, fun _ t ht => by rw [hg1] at ht; cases ht; exact hbf, fun a b => q b a⟩)]
            · rw [if_neg q, if_neg (fun h => q fun b a => ((z2m_ hg).1 h).2.2 a b)]
        · have h0' : ¬ (0 : Int) < (i : Int) := by omega
          simp only [h0', decide_false, Bool.false_eq_true, if_false, hin]
          by_cases q : ∀ k, 1 < (c[i]).length → k < (c[i]).length → z1z_ c[i] k ∈ c
          · rw [if_pos q, if_pos ((z2m_ hg).2 ⟨hsp, fun h => absurd h h0, fun a b => q b a⟩)]
          · rw [if_neg q, if_neg (fun h => q fun b a => ((z2m_ hg).1 h).2.2 a b)]
    · intro n
      simp only [z4b_, Int.lt_irrefl, decide_false, Bool.false_eq_true, if_false]
  · rw [decide_eq_true (by omega), if_pos rfl]
    congr 1
    symm
    rw [Bool.eq_false_iff, ne_eq, z4w_]
    exact fun h => h48 h.len
theorem zun_ {c : Cx} (hc : z25_ c) (i : Nat) : z25_ (c.take i) := ⟨by rw [List.length_take]; have := hc.1; omega, fun s hs => hc.2 s (List.mem_of_mem_take hs)⟩
theorem zuo_ {k : Nat} (hk : KK ≤ k) {c : Cx} (hc : z25_ c) {i : Nat} (hi : i ≤ c.length) (hs : (c.take i).Pairwise (fun a b => befS a b = true)) {s : List Int} (hsl : s.length ≤ 1048576) : zci_ k (z1o_ s) (c, (i : Int)) = some ((z1o_ s).any fun f => !decide (f ∈ c.take i)) := by
  have hK := zh_
  have hcl := hc.1
  have hfl : (z1o_ s).length ≤ 1048576 := by
    unfold z1o_
    split
    · rw [List.length_map, List.length_range]; exact hsl
    · simp
  unfold zci_ zjh_
  rw [z3q_ (L := fun n j => za7_ k n (z1o_ s) (c, (i : Int)) ((z1o_ s).length : Int) j (some (-1))) (p := fun f => !decide (f ∈ c.take i)) (z1o_ s) ?_ ?_ (n := k) (by omega)]
  · rw [Option.bind_some, z4d_]
  · intro n j f hj hlt
    have hw := zg_ (i := j) (by omega)
    have hf : f.length ≤ 1048576 := by
      obtain ⟨_, q, hq, rfl⟩ := zcq_.1 (List.mem_of_getElem? hj)
      rw [zke_ hq]; omega
    have b1 : (i : Int) ≤ (c.length : Int) := by omega
    simp only [za7_, zjg_, hlt, decide_true, if_true, Int.natCast_nonneg, Int.le_refl, b1, and_self, Int.toNat_natCast, hj, Option.bind_some, zoj_ hk (zun_ hc i) hs hf, zof_, hw]
  · intro n
    simp [za7_]
theorem zh4_ {s : List Int} {d : Cx} : ((z1o_ s).any fun f => !decide (f ∈ d)) = false ↔ (1 < s.length → ∀ k, k < s.length → z1z_ s k ∈ d) := by
  rw [List.any_eq_false]
  constructor
  · intro h h1 k hk
    have := h _ (zcq_.2 ⟨h1, k, hk, rfl⟩)
    simpa using this
  · intro h f hf
    obtain ⟨h1, k, hk, rfl⟩ := zcq_.1 hf
    simpa using h h1 k hk
theorem zol_ {k : Nat} (hk : KK ≤ k) {c : Cx} (hc : z25_ c) : zcj_ k c = some (cxB c) := by
  have hK := zh_
  obtain ⟨hcl, hce⟩ := hc
  unfold zcj_
  have := zu3_ (L := fun n i => z7q_ k n c (c.length : Int) i c (fun v_9 => some (decide ((List.length v_9 : Int) ≤ 48)))) (b := c.length) (p := fun i => cxAt c (c.take i) i) (r := some false) (e := some (decide (c.length ≤ 48))) ?_ ?_ (n := k) (by omega)
  · rw [this]
    have e : ((List.range c.length).all (fun i => cxAt c (c.take i) i) = true ∧ c.length ≤ 48) ↔ CxP c := by
      rw [List.all_eq_true]
      constructor
      · rintro ⟨h, h48⟩
        have h' : ∀ i s, c[i]? = some s → SimpP s ∧ z4e_ (fun a b => befS a b = true) c i s ∧ (1 < s.length → ∀ k, k < s.length → z1z_ s k ∈ c.take i) := fun i s hs => (z2m_ hs).1 (h i (List.mem_range.2 (List.getElem?_eq_some_iff.1 hs).1))
        refine ⟨h48, fun s hs => ?_, ?_, fun s hs h1 k hk => ?_⟩
        · obtain ⟨i, hi⟩ := List.getElem?_of_mem hs
          exact (h' i s hi).1
        · have := zh1_ (R := fun a b => befS a b = true) (fun a b c => zco_) (l := c) (m := c.length) (fun j hj x hx => (h' j x hx).2.1)
          rwa [List.take_length] at this
        · obtain ⟨i, hi⟩ := List.getElem?_of_mem hs
          exact List.mem_of_mem_take ((h' i s hi).2.2 h1 k hk)
      · intro h
        refine ⟨fun i hi => ?_, h.len⟩
        rw [List.mem_range] at hi
        have hg : c[i]? = some c[i] := List.getElem?_eq_getElem hi
        refine (z2m_ hg).2 ⟨h.simp _ (List.getElem_mem hi), zkb_ h.ord hg, fun h1 k hk => ?_⟩
        have hm := h.face _ (List.getElem_mem hi) h1 k hk
        obtain ⟨j, hj⟩ := List.getElem?_of_mem hm
        obtain ⟨hjl, hje⟩ := List.getElem?_eq_some_iff.1 hj
        have hji : j < i := by
          by_cases q : j < i
          · exact q
          · have hb : befS (z1z_ c[i] k) c[i] = true := by
              unfold befS
              rw [zke_ hk, decide_eq_true (by omega)]; rfl
            by_cases q2 : j = i
            · subst q2
              have := zh2_ c[j]
              rw [← hje, zh2_] at hb; cases hb
            · have h3 := List.pairwise_iff_getElem.1 h.ord i j hi hjl (by omega)
              rw [hje, zu9_ hb] at h3; cases h3
        rw [List.mem_take_iff_getElem]
        exact ⟨j, by omega, hje⟩
    by_cases q : CxP c
    · obtain ⟨q1, q2⟩ := e.2 q
      rw [if_pos q1, decide_eq_true q2, z4w_.2 q]
    · have : cxB c = false := by rw [Bool.eq_false_iff, ne_eq, z4w_]; exact q
      rw [this]
      by_cases q1 : (List.range c.length).all (fun i => cxAt c (c.take i) i) = true
      · rw [if_pos q1, decide_eq_false (fun q2 => q (e.1 ⟨q1, q2⟩))]
      · rw [if_neg q1]
  · intro n i hi hpre
    have hlt : (i : Int) < (c.length : Int) := by omega
    have hw := zg_ (i := i) (by omega)
    have hg : c[i]? = some c[i] := List.getElem?_eq_getElem hi
    have hsl := hce c[i] (List.getElem_mem hi)
    have hsorted : (c.take i).Pairwise (fun a b => befS a b = true) := zh1_ (R := fun a b => befS a b = true) (fun a b c => zco_) (fun j hj x hx => ((z2m_ hx).1 (hpre j hj)).2.1)
    simp only [z7q_, hlt, decide_true, if_true, Int.natCast_nonneg, Int.toNat_natCast, hg, Option.bind_some, zu6_ hk (show (c[i]).length ≤ 1000000000 by omega), zog_ hk hsl, zuo_ hk ⟨hcl, hce⟩ (Nat.le_of_lt hi) hsorted hsl, hw]
    cases hsb : z6g_ c[i] with
    | false =>
      have : ¬ cxAt c (c.take i) i = true := fun h => by
        have := z6h_.2 ((z2m_ hg).1 h).1
        rw [hsb] at this; cases this
      rw [if_neg this]; simp
    | true =>
      have hsp := z6h_.1 hsb
      simp only [Bool.not_true, Bool.false_eq_true, if_false]
      by_cases h0 : 0 < i
      · have h0' : (0 : Int) < (i : Int) := by omega
        have hw1 : z0_ ((i : Int) - 1) = ((i - 1 : Nat) : Int) := by rw [w_id (by omega) (by omega)]; omega
        have hg1 : c[i - 1]? = some c[i - 1] := List.getElem?_eq_getElem (by omega)
        have hpl := hce c[i - 1] (List.getElem_mem (by omega))
        simp only [h0', decide_true, if_true, hw1, Int.natCast_nonneg, Int.toNat_natCast, hg1, Option.bind_some, zh3_ hk (show (c[i - 1]).length ≤ 1000000000 by omega) (show (c[i]).length ≤ 1000000000 by omega), zua_]
        cases hbf : befS c[i - 1] c[i] with
        | false =>
          have : ¬ cxAt c (c.take i) i = true := fun h => by
            have : befS c[i - 1] c[i] = true := ((z2m_ hg).1 h).2.1 h0 _ hg1
            rw [hbf] at this; cases this
          rw [if_neg this]; simp
        | true =>
          simp only [Bool.not_true, Bool.false_eq_true, if_false]
          cases hq : (z1o_ c[i]).any fun f => !decide (f ∈ c.take i) with
          | false =>
            rw [if_neg (by simp), if_pos ((z2m_ hg).2 ⟨hsp, fun _ t ht => by rw [hg1] at ht; cases ht; exact hbf, zh4_.1 hq⟩)]
          | true =>
            rw [if_pos rfl, if_neg (fun h => by rw [zh4_.2 ((z2m_ hg).1 h).2.2] at hq; cases hq)]
      · have h0' : ¬ (0 : Int) < (i : Int) := by omega
        simp only [h0', decide_false, Bool.false_eq_true, if_false]
        cases hq : (z1o_ c[i]).any fun f => !decide (f ∈ c.take i) with
        | false =>
          rw [if_neg (by simp), if_pos ((z2m_ hg).2 ⟨hsp, fun h => absurd h h0, zh4_.1 hq⟩)]
        | true =>
          rw [if_pos rfl, if_neg (fun h => by rw [zh4_.2 ((z2m_ hg).1 h).2.2] at hq; cases hq)]
  · intro n
    have e2 : decide ((c.length : Int) ≤ 48) = decide (c.length ≤ 48) := decide_eq_decide.2 (by omega)
    simp only [z7q_, Int.lt_irrefl, decide_false, Bool.false_eq_true, if_false, e2]
abbrev She := Cx × Int × List Int × List Mat
def ofC (c : Cx) (d : Int) : List Nat := (List.range c.length).filter fun i => match c[i]? with | some s => decide ((s.length : Int) = d + 1) | none => false
theorem zh5_ {c : Cx} {d : Int} {i : Nat} (h : i ∈ ofC c d) : i < c.length := List.mem_range.1 (List.mem_filter.1 h).1
theorem zom_ (c : Cx) (d : Int) : (ofC c d).length ≤ c.length := by
  unfold ofC
  exact Nat.le_trans (List.length_filter_le ..) (by rw [List.length_range]; exact Nat.le_refl _)
theorem zh6_ (f : Nat → Bool) (n : Nat) : (List.range (n + 1)).filter f = (List.range n).filter f ++ (if f n = true then [n] else []) := by
  rw [List.range_succ, List.filter_append, List.filter_cons, List.filter_nil]
theorem zup_ {k : Nat} (hk : KK ≤ k) {c : Cx} (hc : z25_ c) {d : Int} (hd : -1000 ≤ d ∧ d ≤ 1000) : zfo_ k c d = some ((ofC c d).map fun i : Nat => (i : Int)) := by
  have hK := zh_
  have hL := z1i_
  obtain ⟨hcl, hce⟩ := hc
  have hwd : z0_ (d + 1) = d + 1 := w_id (by omega) (by omega)
  unfold zfo_
  have := z1n_ (α := List Int) (A := List Int) (L := fun n i q => z7d_ k n c d i q (fun q_4 => some q_4)) (I := fun pre q => q = ((List.range pre.length).filter fun i => match c[i]? with | some s => decide ((s.length : Int) = d + 1) | none => false).map fun i : Nat => (i : Int)) (G := fun _ _ => some ((ofC c d).map fun i : Nat => (i : Int))) c ?_ ?_ k (by omega) [] (by simp)
  · exact this
  · intro n pre x post q hx hq ih hg hlt
    have hw := zg_ (i := pre.length) (by omega)
    have hql : q.length ≤ pre.length := by rw [hq, List.length_map]; exact Nat.le_trans (List.length_filter_le ..) (by rw [List.length_range]; exact Nat.le_refl _)
    have hlim : (q.length + 1) * 8 ≤ LIM := by omega
    simp only [z7d_, hlt, decide_true, if_true, Int.natCast_nonneg, Int.toNat_natCast, hg, Option.bind_some, hw, hwd, List.length_singleton, hlim]
    by_cases hb : (x.length : Int) = d + 1
    · rw [decide_eq_true hb, if_pos rfl]
      refine ih _ ?_
      rw [List.length_append, List.length_singleton, zh6_, hg]
      simp only [hb, decide_true, if_true, List.map_append, hq, List.map_cons, List.map_nil]
    · rw [decide_eq_false hb, if_neg (by simp)]
      refine ih _ ?_
      rw [List.length_append, List.length_singleton, zh6_, hg]
      simp only [hb, decide_false, Bool.false_eq_true, if_false, List.append_nil, hq]
  · intro n q hq
    simp only [z7d_, Int.lt_irrefl, decide_false, Bool.false_eq_true, if_false, hq]
    rfl
theorem zuq_ {k : Nat} (hk : KK ≤ k) {c : Cx} (hc : z25_ c) {d : Int} (hd : -1000 ≤ d ∧ d ≤ 1000) : zgg_ k c d = some ((ofC c d).map fun i : Nat => (i : Int)) := by
  have hK := zh_
  have hL := z1i_
  obtain ⟨hcl, hce⟩ := hc
  have hwd : z0_ (d + 1) = d + 1 := w_id (by omega) (by omega)
  unfold zgg_
  have := z1n_ (α := List Int) (A := List Int) (L := fun n i q => z7r_ k n d c (c.length : Int) i q (fun q_4 => some q_4)) (I := fun pre q => q = ((List.range pre.length).filter fun i => match c[i]? with | some s => decide ((s.length : Int) = d + 1) | none => false).map fun i : Nat => (i : Int)) (G := fun _ _ => some ((ofC c d).map fun i : Nat => (i : Int))) c ?_ ?_ k (by omega) [] (by simp)
  · exact this
  · intro n pre x post q hx hq ih hg hlt
    have hw := zg_ (i := pre.length) (by omega)
    have hql : q.length ≤ pre.length := by rw [hq, List.length_map]; exact Nat.le_trans (List.length_filter_le ..) (by rw [List.length_range]; exact Nat.le_refl _)
    have hlim : (q.length + 1) * 8 ≤ LIM := by omega
    simp only [z7r_, z3s_, hlt, decide_true, if_true, Int.natCast_nonneg, Int.toNat_natCast, hg, Option.bind_some, hw, hwd, List.length_singleton, hlim]
    by_cases hb : (x.length : Int) = d + 1
    · rw [decide_eq_true hb, if_pos rfl]
      refine ih _ ?_
      rw [List.length_append, List.length_singleton, zh6_, hg]
      simp only [hb, decide_true, if_true, List.map_append, hq, List.map_cons, List.map_nil]
    · rw [decide_eq_false hb, if_neg (by simp)]
      refine ih _ ?_
      rw [List.length_append, List.length_singleton, zh6_, hg]
      simp only [hb, decide_false, Bool.false_eq_true, if_false, List.append_nil, hq]
  · intro n q hq
    simp only [z7r_, Int.lt_irrefl, decide_false, Bool.false_eq_true, if_false, hq]
    rfl
structure StP (c : Cx) (st : List Int) : Prop where
  len : st.length = c.length
  val : ∀ x ∈ st, 0 ≤ x ∧ x ≤ 3
def z15_ (st : List Int) (l : List Nat) : Int := (l.map fun i => st.getD i 0).sum
theorem zon_ (st : List Int) (l : List Nat) (i : Nat) : z15_ st (l ++ [i]) = z15_ st l + st.getD i 0 := by unfold z15_; simp
theorem z7z_ {c : Cx} {st : List Int} (h : StP c st) {i : Nat} (hi : i < c.length) : st[i]? = some (st.getD i 0) ∧ 0 ≤ st.getD i 0 ∧ st.getD i 0 ≤ 3 := by
  have hl : i < st.length := by rw [h.len]; exact hi
  have e : st.getD i 0 = st[i] := by rw [List.getD_eq_getElem?_getD, List.getElem?_eq_getElem hl]; rfl
  rw [e]
  exact ⟨List.getElem?_eq_getElem hl, h.val _ (List.getElem_mem hl)⟩
theorem zkf_ {c : Cx} {st : List Int} (h : StP c st) : ∀ (l : List Nat), (∀ i ∈ l, i < c.length) → 0 ≤ z15_ st l ∧ z15_ st l ≤ 3 * l.length
  | [], _ => by simp [z15_]
  | i :: l, hl => by
    have ih := zkf_ h l (fun j hj => hl j (by simp [hj]))
    have := z7z_ h (hl i (by simp))
    have e : z15_ st (i :: l) = st.getD i 0 + z15_ st l := by unfold z15_; simp
    rw [e, List.length_cons]
    omega
theorem zoo_ {k : Nat} (hk : KK ≤ k) {c : Cx} (hc : z25_ c) {st : List Int} (h : StP c st) {d : Int} (hd : -1000 ≤ d ∧ d ≤ 1000) : zca_ k c st d = some (z15_ st (ofC c d)) := by
  have hK := zh_
  have hol := zom_ c d
  have hcl := hc.1
  unfold zca_
  rw [zup_ hk hc hd]
  simp only [Option.bind_some]
  have := z1n_ (α := Nat) (A := Int) (L := fun n i z => z9t_ k n st z i ((ofC c d).map fun i : Nat => (i : Int)) (fun z => some z)) (I := fun pre z => z = z15_ st pre) (G := fun _ _ => some (z15_ st (ofC c d))) (ofC c d) ?_ ?_ k (by omega) 0 rfl
  · exact this
  · intro n pre x post z hx hz ih hg hlt
    have hw := zg_ (i := pre.length) (by omega)
    have hxc : x < c.length := zh5_ (by rw [hx]; simp : x ∈ ofC c d)
    have hF : ((ofC c d).map fun i : Nat => (i : Int))[pre.length]? = some (x : Int) := by rw [List.getElem?_map, hg]; rfl
    have hpl : pre.length < (ofC c d).length := by omega
    obtain ⟨s1, s2, s3⟩ := z7z_ h hxc
    have hb := zkf_ h pre (fun j hj => zh5_ (by rw [hx]; simp [hj] : j ∈ ofC c d))
    have hwz : z0_ (z + st.getD x 0) = z + st.getD x 0 := w_id (by omega) (by omega)
    simp only [z9t_, List.length_map, hlt, hpl, decide_true, if_true, Int.natCast_nonneg, Int.toNat_natCast, and_self, hF, s1, Option.bind_some, hw, hwz]
    exact ih _ (by rw [zon_, hz])
  · intro n z hz
    simp only [z9t_, List.length_map, Int.lt_irrefl, decide_false, Bool.false_eq_true, if_false, hz]
theorem zop_ {k : Nat} (hk : KK ≤ k) {s : She} (hc : z25_ s.1) (h : StP s.1 s.2.2.1) {d : Int} (hd : -1000 ≤ d ∧ d ≤ 1000) : zck_ k s d = some (z15_ s.2.2.1 (ofC s.1 d)) := by
  have hK := zh_
  have hol := zom_ s.1 d
  have hcl := hc.1
  unfold zck_
  rw [zuq_ hk hc hd]
  simp only [Option.bind_some, List.length_map]
  have := z1n_ (α := Nat) (A := Int) (L := fun n i z => zaa_ k n z ((ofC s.1 d).length : Int) i ((ofC s.1 d).map fun i : Nat => (i : Int)) s (fun z => some z)) (I := fun pre z => z = z15_ s.2.2.1 pre) (G := fun _ _ => some (z15_ s.2.2.1 (ofC s.1 d))) (ofC s.1 d) ?_ ?_ k (by omega) 0 rfl
  · exact this
  · intro n pre x post z hx hz ih hg hlt
    have hw := zg_ (i := pre.length) (by omega)
    have hxc : x < s.1.length := zh5_ (by rw [hx]; simp : x ∈ ofC s.1 d)
    have hF : ((ofC s.1 d).map fun i : Nat => (i : Int))[pre.length]? = some (x : Int) := by rw [List.getElem?_map, hg]; rfl
    have hpl : pre.length < (ofC s.1 d).length := by omega
    obtain ⟨s1, s2, s3⟩ := z7z_ h hxc
    have hb := zkf_ h pre (fun j hj => zh5_ (by rw [hx]; simp [hj] : j ∈ ofC s.1 d))
    have hwz : z0_ (z + s.2.2.1.getD x 0) = z + s.2.2.1.getD x 0 := w_id (by omega) (by omega)
    simp only [zaa_, List.length_map, hlt, hpl, decide_true, if_true, Int.natCast_nonneg, Int.toNat_natCast, and_self, hF, s1, Option.bind_some, hw, hwz]
    exact ih _ (by rw [zon_, hz])
  · intro n z hz
    simp only [zaa_, Int.lt_irrefl, decide_false, Bool.false_eq_true, if_false, hz]
noncomputable instance stP_dec (c : Cx) (st : List Int) : Decidable (StP c st) := Classical.propDecidable _
noncomputable def stB (c : Cx) (st : List Int) : Bool := decide (StP c st) && (List.range 4).all fun d => decide (z15_ st (ofC c (d : Int)) ≤ 32)
theorem zkg_ {c : Cx} {st : List Int} (h : stB c st = true) : StP c st := by
  unfold stB at h
  rw [Bool.and_eq_true, decide_eq_true_eq] at h
  exact h.1
theorem zoq_ {c : Cx} {st : List Int} : (st.all (fun x => decide (0 ≤ x ∧ x ≤ 4 - 1)) && decide ((st.length : Int) = (c.length : Int))) = true ↔ StP c st := by
  simp only [Bool.and_eq_true, List.all_eq_true, decide_eq_true_eq]
  exact ⟨fun h => ⟨by omega, fun x hx => by have := h.1 x hx; omega⟩, fun h => ⟨fun x hx => by have := h.val x hx; omega, by have := h.len; omega⟩⟩
theorem zur_ {k : Nat} (hk : KK ≤ k) {c : Cx} (hc : z25_ c) {st : List Int} (hs : st.length ≤ 1048576) : zfp_ k c st = some (stB c st) := by
  have hK := zh_
  unfold zfp_
  rw [zk9_ hk hs _ (by omega)]
  simp only [Option.bind_some]
  by_cases h : StP c st
  · rw [zoq_.2 h]
    simp only [Bool.not_true, Bool.false_eq_true, if_false]
    have := z2s_ (L := fun n i => z9u_ k n c st i (some true)) (b := 4) (p := fun d : Nat => decide (z15_ st (ofC c (d : Int)) ≤ 32)) (r := some false) (e := some true) ?_ ?_ (n := k) (by omega)
    · rw [this]
      unfold stB
      rw [decide_eq_true h, Bool.true_and]
      cases (List.range 4).all fun d => decide (z15_ st (ofC c (d : Int)) ≤ 32) <;> rfl
    · intro n i hi
      have hlt : (i : Int) ≤ 3 := by omega
      have hw := zg_ (i := i) (by omega)
      simp only [z9u_, hlt, decide_true, if_true, zoo_ hk hc h (d := (i : Int)) (by omega), Option.bind_some, hw]
      by_cases c1 : z15_ st (ofC c (i : Int)) ≤ 32
      · rw [decide_eq_true c1, decide_eq_false (by omega), if_neg (by simp), if_pos rfl]
      · rw [decide_eq_false c1, decide_eq_true (by omega), if_pos rfl, if_neg (by simp)]
    · intro n
      have : ¬ (((4 : Nat) : Int) ≤ 3) := by omega
      simp only [z9u_, this, decide_false, Bool.false_eq_true, if_false]
  · have h2 : (st.all (fun x => decide (0 ≤ x ∧ x ≤ 4 - 1)) && decide ((st.length : Int) = (c.length : Int))) = false := by rw [Bool.eq_false_iff, ne_eq, zoq_]; exact h
    rw [h2, if_pos (by simp)]
    unfold stB
    rw [decide_eq_false h]; rfl
theorem zus_ {k : Nat} (hk : KK ≤ k) {c : Cx} (hc : z25_ c) {st : List Int} (hs : st.length ≤ 1048576) : zgh_ k c st = some (stB c st) := by
  have hK := zh_
  have hcf : zgf_ k st () = some (st.any fun x => !decide (0 ≤ x ∧ x ≤ 3)) := by
    unfold zgf_ zjj_
    rw [z3q_ (L := fun n i => za9_ k n st () (st.length : Int) i (some (-1))) (p := fun x => !decide (0 ≤ x ∧ x ≤ 3)) st ?_ ?_ (n := k) (by omega)]
    · rw [Option.bind_some, z4d_]
    · intro n i x hi hlt
      have hw := zg_ (i := i) (by omega)
      simp only [za9_, zji_, z4u_, hlt, decide_true, if_true, Int.natCast_nonneg, Int.toNat_natCast, hi, Option.bind_some, hw]
    · intro n
      simp [za9_]
  unfold zgh_
  rw [hcf]
  simp only [Option.bind_some]
  by_cases hl : st.length = c.length
  · rw [decide_eq_true (show (st.length : Int) = (c.length : Int) by omega), if_neg (by simp)]
    by_cases hv : ∀ x ∈ st, 0 ≤ x ∧ x ≤ 3
    · have h : StP c st := ⟨hl, hv⟩
      have ha : (st.any fun x => !decide (0 ≤ x ∧ x ≤ 3)) = false := by
        rw [List.any_eq_false]; intro x hx; simp [hv x hx]
      rw [ha, if_neg (by simp)]
      have := z2s_ (L := fun n i => zab_ k n st i c (some true)) (b := 4) (p := fun d : Nat => decide (z15_ st (ofC c (d : Int)) ≤ 32)) (r := some false) (e := some true) ?_ ?_ (n := k) (by omega)
      · rw [this]
        unfold stB
        rw [decide_eq_true h, Bool.true_and]
        cases (List.range 4).all fun d => decide (z15_ st (ofC c (d : Int)) ≤ 32) <;> rfl
      · intro n i hi
        have hlt : (i : Int) < 4 := by omega
        have hw := zg_ (i := i) (by omega)
        have hst := zop_ hk (s := (c, 0, st, [])) hc h (d := (i : Int)) (by omega)
        simp only at hst
        simp only [zab_, hlt, decide_true, if_true, hst, Option.bind_some, hw]
        by_cases c1 : z15_ st (ofC c (i : Int)) ≤ 32
        · rw [decide_eq_true c1, decide_eq_false (by omega), if_neg (by simp), if_pos rfl]
        · rw [decide_eq_false c1, decide_eq_true (by omega), if_pos rfl, if_neg (by simp)]
      · intro n
        have : ¬ (((4 : Nat) : Int) < 4) := by omega
        simp only [zab_, this, decide_false, Bool.false_eq_true, if_false]
    · have ha : (st.any fun x => !decide (0 ≤ x ∧ x ≤ 3)) = true := by
        rw [List.any_eq_true]
        apply Classical.byContradiction
        intro hn
        apply hv
        intro x hx
        apply Classical.byContradiction
        intro hx2
        exact hn ⟨x, hx, by simp only [Bool.not_eq_true', decide_eq_false_iff_not]; exact hx2⟩
      rw [ha, if_pos rfl]
      unfold stB
      rw [decide_eq_false (fun h : StP c st => hv h.val)]; rfl
  · rw [decide_eq_false (show ¬ (st.length : Int) = (c.length : Int) by omega), if_pos (by simp)]
    unfold stB
    rw [decide_eq_false (fun h : StP c st => hl h.len)]; rfl
def zr_ (c : Cx) (s : List Int) : List Nat := (z1o_ s).map (posC c)
theorem zor_ (s : List Int) : (z1o_ s).length = if 1 < s.length then s.length else 0 := by
  unfold z1o_
  split
  · rw [List.length_map, List.length_range]
  · rfl
theorem zh7_ (c : Cx) (s : List Int) : (zr_ c s).length = if 1 < s.length then s.length else 0 := by unfold zr_; rw [List.length_map, zor_]
theorem zkh_ {c : Cx} (h : CxP c) {s : List Int} (hs : s ∈ c) {f : Nat} (hf : f ∈ zr_ c s) : f < c.length := by
  unfold zr_ at hf
  obtain ⟨g, hg, rfl⟩ := List.mem_map.1 hf
  obtain ⟨h1, j, hj, rfl⟩ := zcq_.1 hg
  exact z5i_.2 (h.face s hs h1 j hj)
theorem zh8_ {c : Cx} (h : CxP c) : z25_ c := ⟨by have := h.len; omega, fun s hs => by have := (h.simp s hs).len4; omega⟩
theorem zos_ {k : Nat} (hk : KK ≤ k) {c : Cx} (h : CxP c) {j : Nat} {s : List Int} (hj : c[j]? = some s) : zcc_ k c (j : Int) = some ((zr_ c s).map fun i : Nat => (i : Int)) := by
  have hK := zh_
  have hL := z1i_
  have hm := List.mem_of_getElem? hj
  have hs4 := (h.simp s hm).len4
  have hsc := zh8_ h
  unfold zcc_
  rw [if_pos (Int.natCast_nonneg _), Int.toNat_natCast, hj]
  simp only [Option.bind_some]
  by_cases c1 : 1 < s.length
  · have := z1n_ (α := Nat) (A := List Int) (L := fun n i q => z7f_ k n c s i q (fun q_5 => some q_5)) (I := fun pre q => q = (List.range pre.length).map fun i => ((posC c (z1z_ s i) : Nat) : Int)) (G := fun _ _ => some ((zr_ c s).map fun i : Nat => (i : Int))) (List.range s.length) ?_ ?_ k (by simp; omega) [] (by simp)
    · exact this
    · intro n pre x post q hx hq ih hg hlt
      rw [List.length_range] at hlt
      have hpl : pre.length < s.length := by omega
      have hw := zg_ (i := pre.length) (by omega)
      have hlim : (q.length + 1) * 8 ≤ LIM := by rw [hq, List.length_map, List.length_range]; omega
      have hin := h.face s hm c1 pre.length hpl
      have c1' : (1 : Int) < (s.length : Int) := by omega
      simp only [z7f_, hlt, c1', decide_true, if_true, zoc_ (show s.length ≤ 1048576 by omega) hpl, zoe_ hk hsc, z5i_.2 hin, Option.bind_some, List.length_singleton, hlim, hw]
      refine ih _ ?_
      rw [hq, List.length_append, List.length_singleton, List.range_succ, List.map_append]
      rfl
    · intro n q hq
      rw [List.length_range] at hq ⊢
      simp only [z7f_, Int.lt_irrefl, decide_false, Bool.false_eq_true, if_false, hq]
      unfold zr_ z1o_
      rw [if_pos c1, List.map_map, List.map_map]
      rfl
  · obtain ⟨n, hn⟩ : ∃ n, k = n + 1 := ⟨k - 1, by omega⟩
    have c1' : ¬ (1 : Int) < (s.length : Int) := by omega
    conv => lhs; arg 2; rw [hn]
    simp only [z7f_, c1', decide_false, Bool.false_eq_true, if_false]
    unfold zr_ z1o_
    rw [if_neg c1]
    split <;> rfl
theorem zut_ {k : Nat} (hk : KK ≤ k) {c : Cx} (h : CxP c) {j : Nat} {s : List Int} (hj : c[j]? = some s) : zgi_ k c (j : Int) = some ((zr_ c s).map fun i : Nat => (i : Int)) := by
  have hK := zh_
  have hL := z1i_
  have hm := List.mem_of_getElem? hj
  have hs4 := (h.simp s hm).len4
  have hsc := zh8_ h
  have hfl := zor_ s
  have hfl' : (z1o_ s).length ≤ 4 := by rw [hfl]; split <;> omega
  unfold zgi_
  rw [if_pos (Int.natCast_nonneg _), Int.toNat_natCast, hj]
  simp only [Option.bind_some, zog_ hk (show s.length ≤ 1048576 by omega)]
  have := z1n_ (α := List Int) (A := List Int) (L := fun n i q => zac_ k n ((z1o_ s).length : Int) i q (z1o_ s) c (fun q_8 => some q_8)) (I := fun pre q => q = pre.map fun f => ((posC c f : Nat) : Int)) (G := fun _ _ => some ((zr_ c s).map fun i : Nat => (i : Int))) (z1o_ s) ?_ ?_ k (by omega) [] rfl
  · exact this
  · intro n pre x post q hx hq ih hg hlt
    have hpl : pre.length < (z1o_ s).length := by omega
    have hw := zg_ (i := pre.length) (by omega)
    have hlim : (q.length + 1) * 8 ≤ LIM := by rw [hq, List.length_map]; omega
    obtain ⟨h1, i, hi, rfl⟩ := zcq_.1 (List.mem_of_getElem? hg)
    have hin := h.face s hm h1 i hi
    simp only [zac_, hlt, hpl, decide_true, if_true, Int.natCast_nonneg, Int.toNat_natCast, and_self, hg, zoj_ hk hsc h.ord (show (z1z_ s i).length ≤ 1048576 by rw [zke_ hi]; omega), z5i_.2 hin, Option.bind_some, List.length_singleton, hlim, hw]
    exact ih _ (by rw [hq, List.map_append]; rfl)
  · intro n q hq
    simp only [zac_, Int.lt_irrefl, decide_false, Bool.false_eq_true, if_false, hq]
    unfold zr_
    rw [List.map_map]
    rfl
def z1j_ (c : Cx) (j : Nat) : List (Nat × Nat × Nat) := match c[j]? with
  | some s => (List.range (zr_ c s).length).map fun i => (j, i, (zr_ c s).getD i 0)
  | none => []
def arrN (c : Cx) (n : Nat) : List (Nat × Nat × Nat) := (List.range n).flatMap (z1j_ c)
theorem zau_ (c : Cx) (n : Nat) : arrN c (n + 1) = arrN c n ++ z1j_ c n := by unfold arrN; rw [List.range_succ, List.flatMap_append]; simp
theorem zki_ {c : Cx} {j : Nat} {s : List Int} (hj : c[j]? = some s) : (z1j_ c j).length = if 1 < s.length then s.length else 0 := by
  unfold z1j_; rw [hj]; simp only [List.length_map, List.length_range, zh7_]
theorem zuu_ {c : Cx} {j i : Nat} {s : List Int} (hj : c[j]? = some s) (hi : i < (zr_ c s).length) : (z1j_ c j)[i]? = some (j, i, (zr_ c s).getD i 0) := by
  unfold z1j_; rw [hj]; simp only [List.getElem?_map, List.getElem?_range hi]; rfl
theorem z6j_ {c : Cx} (h : CxP c) : ∀ n, n ≤ c.length → (arrN c n).length ≤ 4 * n
  | 0, _ => by simp [arrN]
  | n + 1, hn => by
    have ih := z6j_ h n (by omega)
    have hg : c[n]? = some c[n] := List.getElem?_eq_getElem (by omega)
    have h4 := (h.simp _ (List.mem_of_getElem? hg)).len4
    rw [zau_, List.length_append, zki_ hg]
    split <;> omega
theorem zuv_ (c : Cx) {a b : Nat} (h : a ≤ b) : (arrN c a).length ≤ (arrN c b).length := by
  induction b with
  | zero => rw [show a = 0 by omega]; exact Nat.le_refl _
  | succ b ih =>
    by_cases e : a = b + 1
    · rw [e]; exact Nat.le_refl _
    · have := ih (by omega)
      rw [zau_, List.length_append]; omega
theorem zot_ {k : Nat} (hk : KK ≤ k) {c : Cx} (h : CxP c) {j i : Nat} (hj : j ≤ c.length) (hi : i ≤ 4) : zcb_ k c (j : Int) (i : Int) = some (((arrN c j).length + i : Nat) : Int) := by
  have hK := zh_
  have hcl := h.len
  unfold zcb_
  have := z1n_ (α := Nat) (A := Int) (L := fun n p z => z7e_ k n c (j : Int) (i : Int) z p (fun i_3 at_4 => some (z0_ (at_4 + i_3)))) (I := fun pre z => z = ((arrN c pre.length).length : Int)) (G := fun _ _ => some (((arrN c j).length + i : Nat) : Int)) (List.range j) ?_ ?_ k (by simp; omega) 0 rfl
  · exact this
  · intro n pre x post z hx hz ih hg hlt
    rw [List.length_range] at hlt
    have hpl : pre.length < c.length := by omega
    have hw := zg_ (i := pre.length) (by omega)
    have hgc : c[pre.length]? = some c[pre.length] := List.getElem?_eq_getElem hpl
    have h4 := (h.simp _ (List.mem_of_getElem? hgc)).len4
    have hal := z6j_ h pre.length (by omega)
    have hnx : (arrN c (pre.length + 1)).length = (arrN c pre.length).length + (if 1 < (c[pre.length]).length then (c[pre.length]).length else 0) := by rw [zau_, List.length_append, zki_ hgc]
    simp only [z7e_, hlt, decide_true, if_true, Int.natCast_nonneg, Int.toNat_natCast, hgc, Option.bind_some, hw]
    by_cases c1 : 1 < (c[pre.length]).length
    · have hwz : z0_ (z + ((c[pre.length]).length : Int)) = z + ((c[pre.length]).length : Int) := w_id (by omega) (by omega)
      rw [decide_eq_true (by omega), if_pos rfl, hwz]
      refine ih _ ?_
      rw [if_pos c1] at hnx
      rw [List.length_append, List.length_singleton, hnx, hz]; rfl
    · rw [decide_eq_false (by omega), if_neg (by simp)]
      refine ih _ ?_
      rw [if_neg c1] at hnx
      rw [List.length_append, List.length_singleton, hnx, hz]; rfl
  · intro n z hz
    rw [List.length_range] at hz ⊢
    have hal := z6j_ h j hj
    have hwz : z0_ (z + (i : Int)) = (((arrN c j).length + i : Nat) : Int) := by rw [w_id (by omega) (by omega)]; omega
    simp only [z7e_, Int.lt_irrefl, decide_false, Bool.false_eq_true, if_false, hwz]
def toI3 (a : Nat × Nat × Nat) : Int × Int × Int := ((a.1 : Int), (a.2.1 : Int), (a.2.2 : Int))
theorem zou_ {k : Nat} (hk : KK ≤ k) {c : Cx} (h : CxP c) : zcm_ k c = some ((arrN c c.length).map toI3) := by
  have hK := zh_
  have hL := z1i_
  have hcl := h.len
  unfold zcm_ zcl_
  simp only [Option.bind_some]
  have := z1n_ (α := List Int) (A := List (Int × Int × Int)) (L := fun n i q => zad_ k n (c.length : Int) i q c (fun q_8 => some q_8)) (I := fun pre q => q = (arrN c pre.length).map toI3) (G := fun _ _ => some ((arrN c c.length).map toI3)) c ?_ ?_ k (by omega) [] rfl
  · exact this
  · intro n pre x post q hx hq ih hg hlt
    have hw := zg_ (i := pre.length) (by omega)
    have hpl : pre.length < c.length := by omega
    have h4 := (h.simp _ (List.mem_of_getElem? hg)).len4
    have hal := z6j_ h pre.length (by omega)
    have hfl := zh7_ c x
    have hfl4 : (zr_ c x).length ≤ 4 := by rw [hfl]; split <;> omega
    simp only [zad_, hlt, decide_true, if_true, zut_ hk h hg, Option.bind_some, List.length_map]
    have inner : ∀ E : Int → Int → List (Int × Int × Int) → Cx → Option (List (Int × Int × Int)), z7s_ k k (pre.length : Int) (c.length : Int) (pre.length : Int) ((zr_ c x).length : Int) 0 q ((zr_ c x).map fun i : Nat => (i : Int)) c E = E (c.length : Int) (pre.length : Int) ((arrN c (pre.length + 1)).map toI3) c := by
      intro E
      have := z1n_ (α := Nat) (A := List (Int × Int × Int)) (L := fun n i r => z7s_ k n (pre.length : Int) (c.length : Int) (pre.length : Int) ((zr_ c x).length : Int) i r ((zr_ c x).map fun i : Nat => (i : Int)) c E) (I := fun pre2 r => r = ((arrN c pre.length) ++ (List.range pre2.length).map fun i => (pre.length, i, (zr_ c x).getD i 0)).map toI3) (G := fun _ _ => E (c.length : Int) (pre.length : Int) ((arrN c (pre.length + 1)).map toI3) c) (zr_ c x) ?_ ?_ k (by omega) q (by simp [hq])
      · exact this
      · intro n pre2 f post2 r hx2 hr ih2 hg2 hlt2
        have hpl2 : pre2.length < (zr_ c x).length := by omega
        have hw2 := zg_ (i := pre2.length) (by omega)
        have hF : ((zr_ c x).map fun i : Nat => (i : Int))[pre2.length]? = some (f : Int) := by rw [List.getElem?_map, hg2]; rfl
        have hlim : (r.length + 1) * 24 ≤ LIM := by rw [hr, List.length_map, List.length_append, List.length_map, List.length_range]; omega
        have hgd : (zr_ c x).getD pre2.length 0 = f := by rw [List.getD_eq_getElem?_getD, hg2]; rfl
        simp only [z7s_, List.length_map, hlt2, hpl2, decide_true, if_true, Int.natCast_nonneg, Int.toNat_natCast, and_self, hF, Option.bind_some, List.length_singleton, hlim, hw2]
        refine ih2 _ ?_
        rw [hr, List.length_append, List.length_singleton, List.range_succ, List.map_append (l₁ := List.range pre2.length), ← List.append_assoc, List.map_append (f := toI3) (l₁ := arrN c pre.length ++ _)]
        show _ = _ ++ [toI3 (pre.length, pre2.length, (zr_ c x).getD pre2.length 0)]
        rw [hgd]; rfl
      · intro n r hr
        have e : z1j_ c pre.length = (List.range (zr_ c x).length).map fun i => (pre.length, i, (zr_ c x).getD i 0) := by unfold z1j_; rw [hg]
        simp only [z7s_, Int.lt_irrefl, decide_false, Bool.false_eq_true, if_false, hr]
        rw [zau_, e]
    rw [inner, hw]
    exact ih _ (by rw [List.length_append, List.length_singleton])
  · intro n q hq
    simp only [zad_, Int.lt_irrefl, decide_false, Bool.false_eq_true, if_false, hq]
noncomputable def matB (k : Nat) (m : Mat) : Bool := (z7g_ k m).getD false
theorem zh9_ {k : Nat} (hk : KK ≤ k) {m : Mat} (hv : m.2.2.2.length ≤ 1048576) : z7g_ k m = some (matB k m) ∧ zaf_ k m = some (matB k m) ∧ (matB k m = true → ∃ R C, MatP m R C) := by
  obtain ⟨b, h1, h2, h3⟩ := zu2_ hk hv
  have e : matB k m = b := by unfold matB; rw [h1]; rfl
  rw [e]
  exact ⟨h1, h2, h3⟩
noncomputable def z6k_ (k : Nat) (p : Int) : Bool := (z7b_ k p).getD false
theorem zkj_ {k : Nat} (hk : KK ≤ k) (p : Int) : z7b_ k p = some (z6k_ k p) ∧ za8_ k p = some (z6k_ k p) ∧ (z6k_ k p = true → 2 ≤ p ∧ p ≤ 251) := by
  obtain ⟨b, h1, h2, h3⟩ := zny_ hk p
  have e : z6k_ k p = b := by unfold z6k_; rw [h1]; rfl
  rw [e]
  exact ⟨h1, h2, h3⟩
noncomputable def okA (k : Nat) (s : She) (a : Nat × Nat × Nat) (m : Mat) : Bool := matB k m && (decide (m.1 = s.2.1) && (decide (m.2.1 = s.2.2.1.getD a.1 0) && decide (m.2.2.1 = s.2.2.1.getD a.2.2 0)))
noncomputable def chk1 (k : Nat) (s : She) (o : Nat) (l : List (Nat × Nat × Nat)) (i : Nat) : Bool := match l[i]? with
  | some a => (match s.2.2.2[o + i]? with | some m => okA k s a m | none => false)
  | none => true
def chk (k : Nat) (s : She) (o : Nat) (l : List (Nat × Nat × Nat)) : Prop := ∀ j a, l[j]? = some a → ∃ m, s.2.2.2[o + j]? = some m ∧ okA k s a m = true
theorem zov_ {k : Nat} {s : She} {o : Nat} {l : List (Nat × Nat × Nat)} : (List.range l.length).all (chk1 k s o l) = true ↔ chk k s o l := by
  simp only [List.all_eq_true, List.mem_range]
  constructor
  · intro z i a ha
    have := z i (List.getElem?_eq_some_iff.1 ha).1
    unfold chk1 at this
    rw [ha] at this
    cases hm : s.2.2.2[o + i]? with
    | none => rw [hm] at this; cases this
    | some m => rw [hm] at this; exact ⟨m, rfl, this⟩
  · intro z i hi
    obtain ⟨m, h1, h2⟩ := z i _ (List.getElem?_eq_getElem hi)
    unfold chk1
    rw [List.getElem?_eq_getElem hi, h1]
    exact h2
theorem zuw_ {k : Nat} {s : She} {o : Nat} {l r : List (Nat × Nat × Nat)} : chk k s o (l ++ r) ↔ chk k s o l ∧ chk k s (o + l.length) r := by
  constructor
  · intro h
    refine ⟨fun j a hj => h j a (by rw [List.getElem?_append_left (List.getElem?_eq_some_iff.1 hj).1]; exact hj), fun j a hj => ?_⟩
    have := h (l.length + j) a (by rw [List.getElem?_append_right (by omega), Nat.add_sub_cancel_left]; exact hj)
    rwa [← Nat.add_assoc] at this
  · rintro ⟨h1, h2⟩ j a hj
    by_cases c : j < l.length
    · rw [List.getElem?_append_left c] at hj; exact h1 j a hj
    · rw [List.getElem?_append_right (by omega)] at hj
      have := h2 (j - l.length) a hj
      rwa [show o + l.length + (j - l.length) = o + j by omega] at this
theorem zow_ {k : Nat} {s : She} : ∀ n, (∀ j, j < n → chk k s (arrN s.1 j).length (z1j_ s.1 j)) ↔ chk k s 0 (arrN s.1 n)
  | 0 => by
    constructor
    · intro _ j a hj; simp [arrN] at hj
    · intro _ j hj; omega
  | n + 1 => by
    rw [zau_, zuw_, ← zow_ n, Nat.zero_add]
    constructor
    · intro h; exact ⟨fun j hj => h j (by omega), h n (by omega)⟩
    · rintro ⟨h1, h2⟩ j hj
      by_cases e : j = n
      · subst e; exact h2
      · exact h1 j (by omega)
open Classical in
noncomputable def sheB (k : Nat) (s : She) : Bool := cxB s.1 && (z6k_ k s.2.1 && (stB s.1 s.2.2.1 && decide (s.2.2.2.length = (arrN s.1 s.1.length).length ∧ chk k s 0 (arrN s.1 s.1.length))))
structure smallSh (s : She) : Prop where
  cx : z25_ s.1
  st : s.2.2.1.length ≤ 1048576
  maps : s.2.2.2.length ≤ 1048576
  cells : ∀ m ∈ s.2.2.2, m.2.2.2.length ≤ 1048576
theorem zox_ {c : Cx} (h : CxP c) {n j : Nat} {a : Nat × Nat × Nat} (hn : n ≤ c.length) (hj : (arrN c n)[j]? = some a) : a.1 < c.length ∧ a.2.2 < c.length := by
  have hm := List.mem_of_getElem? hj
  unfold arrN at hm
  obtain ⟨i, hi, ha⟩ := List.mem_flatMap.1 hm
  rw [List.mem_range] at hi
  have hg : c[i]? = some c[i] := List.getElem?_eq_getElem (by omega)
  unfold z1j_ at ha
  rw [hg] at ha
  obtain ⟨p, hp, rfl⟩ := List.mem_map.1 ha
  rw [List.mem_range] at hp
  refine ⟨by show i < _; omega, zkh_ h (List.mem_of_getElem? hg) ?_⟩
  show (zr_ c c[i]).getD p 0 ∈ _
  rw [List.getD_eq_getElem?_getD, List.getElem?_eq_getElem hp]
  exact List.getElem_mem hp
open Classical in
theorem zux_ {k : Nat} (hk : KK ≤ k) {s : She} (hs : smallSh s) : zfr_ k s = some (sheB k s) := by
  have hK := zh_
  unfold zfr_ sheB
  obtain ⟨p1, p2, p3⟩ := zkj_ hk s.2.1
  rw [zok_ hk hs.cx, p1, zur_ hk hs.cx hs.st]
  cases hcx : cxB s.1 with
  | false => simp
  | true =>
  cases z6k_ k s.2.1 with
  | false => simp
  | true =>
  cases hst : stB s.1 s.2.2.1 with
  | false => simp
  | true =>
    have h := z4w_.1 hcx
    have hS := zkg_ hst
    have hcl := h.len
    have hal := z6j_ h s.1.length (Nat.le_refl _)
    have hcount : zfq_ k s.1 = some ((arrN s.1 s.1.length).length : Int) := by
      unfold zfq_
      have := zot_ hk h (j := s.1.length) (i := 0) (Nat.le_refl _) (by omega)
      rw [Nat.add_zero] at this
      rw [show ((0 : Nat) : Int) = 0 from rfl] at this
      rw [this]; rfl
    simp only [Option.bind_some, Bool.not_true, Bool.false_eq_true, if_false, hcount, Bool.true_and]
    by_cases hN : s.2.2.2.length = (arrN s.1 s.1.length).length
    · rw [decide_eq_true (show (s.2.2.2.length : Int) = ((arrN s.1 s.1.length).length : Int) by omega), if_neg (by simp)]
      have := z2s_ (L := fun n i => z68_ k n s i (some true)) (b := s.1.length) (p := fun j => decide (chk k s (arrN s.1 j).length (z1j_ s.1 j))) (r := some false) (e := some true) ?_ ?_ (n := k) (by omega)
      · rw [this]
        have e : ((List.range s.1.length).all (fun j => decide (chk k s (arrN s.1 j).length (z1j_ s.1 j))) = true) ↔ chk k s 0 (arrN s.1 s.1.length) := by
          rw [← zow_]
          simp only [List.all_eq_true, List.mem_range, decide_eq_true_eq]
        by_cases q : chk k s 0 (arrN s.1 s.1.length)
        · rw [if_pos (e.2 q), decide_eq_true ⟨hN, q⟩]
        · rw [if_neg (fun z => q (e.1 z)), decide_eq_false (fun z => q z.2)]
      · intro n j hj
        have hlt : (j : Int) < (s.1.length : Int) := by omega
        have hw := zg_ (i := j) (by omega)
        have hg : s.1[j]? = some s.1[j] := List.getElem?_eq_getElem hj
        have hm := List.mem_of_getElem? hg
        have h4 := (h.simp _ hm).len4
        have hbl := zki_ hg
        have hnx : (arrN s.1 (j + 1)).length = (arrN s.1 j).length + (z1j_ s.1 j).length := by rw [zau_, List.length_append]
        have hmono := zuv_ s.1 (show j + 1 ≤ s.1.length by omega)
        have haj := z6j_ h j (by omega)
        have hfl := zh7_ s.1 s.1[j]
        simp only [z68_, hlt, decide_true, if_true]
        have inner := z2s_ (L := fun m i => z9v_ k m s (j : Int) i (fun s_5 k_6 => z68_ k n s_5 (z0_ (k_6 + 1)) (some true))) (b := (z1j_ s.1 j).length) (p := chk1 k s (arrN s.1 j).length (z1j_ s.1 j)) (r := some false) (e := z68_ k n s ((j + 1 : Nat) : Int) (some true)) ?_ ?_ (n := k) (by rw [hbl]; split <;> omega)
        · refine Eq.trans inner ?_
          have e := zov_ (k := k) (s := s) (o := (arrN s.1 j).length) (l := z1j_ s.1 j)
          by_cases q : chk k s (arrN s.1 j).length (z1j_ s.1 j)
          · rw [if_pos (e.2 q), if_pos (decide_eq_true q)]
          · rw [if_neg (fun z => q (e.1 z)), if_neg (by simpa using q)]
        · intro m i hi
          have h1 : 1 < (s.1[j]).length := by
            apply Classical.byContradiction
            intro hn
            rw [hbl, if_neg hn] at hi; omega
          rw [if_pos h1] at hbl hfl
          have hil : i < (s.1[j]).length := by omega
          have hil' : (i : Int) < ((s.1[j]).length : Int) := by omega
          have h1' : (1 : Int) < ((s.1[j]).length : Int) := by omega
          have hw2 := zg_ (i := i) (by omega)
          have hml : (arrN s.1 j).length + i < s.2.2.2.length := by omega
          have hgm : s.2.2.2[(arrN s.1 j).length + i]? = some s.2.2.2[(arrN s.1 j).length + i] := List.getElem?_eq_getElem hml
          have hcells := hs.cells _ (List.mem_of_getElem? hgm)
          have hfi : i < (zr_ s.1 s.1[j]).length := by omega
          have hga := zuu_ hg hfi
          have hgd : (zr_ s.1 s.1[j])[i]? = some ((zr_ s.1 s.1[j]).getD i 0) := by rw [List.getD_eq_getElem?_getD, List.getElem?_eq_getElem hfi]; rfl
          have hF : ((zr_ s.1 s.1[j]).map fun i : Nat => (i : Int))[i]? = some (((zr_ s.1 s.1[j]).getD i 0 : Nat) : Int) := by rw [List.getElem?_map, hgd]; rfl
          have hflt : (zr_ s.1 s.1[j]).getD i 0 < s.1.length := zkh_ h hm (List.mem_of_getElem? hgd)
          obtain ⟨s1, _⟩ := z7z_ hS hj
          obtain ⟨s2, _⟩ := z7z_ hS hflt
          simp only [z9v_, zj9_, Int.natCast_nonneg, if_true, Int.toNat_natCast, hg, Option.bind_some, hil', h1', decide_true, zot_ hk h (show j ≤ s.1.length by omega) (show i ≤ 4 by omega), hgm, zos_ hk h hg, List.length_map, hfi, and_self, hF, (zh9_ hk hcells).1, s1, s2, hw2]
          have e : chk1 k s (arrN s.1 j).length (z1j_ s.1 j) i = okA k s (j, i, (zr_ s.1 s.1[j]).getD i 0) s.2.2.2[(arrN s.1 j).length + i] := by unfold chk1; rw [hga, hgm]
          rw [e]
          unfold okA
          generalize s.2.2.2[(arrN s.1 j).length + i] = mm
          generalize hv : s.2.2.1.getD ((zr_ s.1 s.1[j]).getD i 0) 0 = v
          generalize hu : s.2.2.1.getD j 0 = u
          clear hv hu
          cases matB k mm
          · simp
          · by_cases q1 : mm.1 = s.2.1
            · by_cases q2 : mm.2.1 = u
              · by_cases q3 : mm.2.2.1 = v <;> simp [q1, q2, q3]
              · simp [q1, q2]
            · simp [q1]
        · intro m
          have hstop : ¬ (((z1j_ s.1 j).length : Int) < ((s.1[j]).length : Int) ∧ (1 : Int) < ((s.1[j]).length : Int)) := by
            rw [hbl]; split <;> omega
          simp only [z9v_, Int.natCast_nonneg, if_true, Int.toNat_natCast, hg, Option.bind_some, hw]
          by_cases q1 : ((z1j_ s.1 j).length : Int) < ((s.1[j]).length : Int)
          · have q2 : ¬ (1 : Int) < ((s.1[j]).length : Int) := fun z => hstop ⟨q1, z⟩
            rw [decide_eq_true q1, if_pos rfl, decide_eq_false q2, if_neg (by simp)]
          · rw [decide_eq_false q1, if_neg (by simp)]
      · intro n
        simp only [z68_, Int.lt_irrefl, decide_false, Bool.false_eq_true, if_false]
    · rw [decide_eq_false (show ¬ (s.2.2.2.length : Int) = ((arrN s.1 s.1.length).length : Int) by omega), if_pos (by simp), decide_eq_false (fun z => hN z.1)]
open Classical in
theorem zuy_ {k : Nat} (hk : KK ≤ k) {s : She} (hs : smallSh s) : zgk_ k s = some (sheB k s) := by
  have hK := zh_
  unfold zgk_ sheB
  obtain ⟨p1, p2, p3⟩ := zkj_ hk s.2.1
  rw [zol_ hk hs.cx, p2, zus_ hk hs.cx hs.st]
  cases hcx : cxB s.1 with
  | false => simp
  | true =>
  cases z6k_ k s.2.1 with
  | false => simp
  | true =>
  cases hst : stB s.1 s.2.2.1 with
  | false => simp
  | true =>
    have h := z4w_.1 hcx
    have hS := zkg_ hst
    have hcl := h.len
    have hal := z6j_ h s.1.length (Nat.le_refl _)
    simp only [Option.bind_some, Bool.not_true, Bool.false_eq_true, if_false, zou_ hk h, Bool.true_and, List.length_map]
    have := z2s_ (L := fun n i => zag_ k n ((arrN s.1 s.1.length).length : Int) i ((arrN s.1 s.1.length).map toI3) s (fun q_11 v_12 => some (decide ((List.length q_11 : Int) = (List.length v_12.2.2.2 : Int))))) (b := (arrN s.1 s.1.length).length) (p := chk1 k s 0 (arrN s.1 s.1.length)) (r := some false) (e := some (decide ((arrN s.1 s.1.length).length = s.2.2.2.length))) ?_ ?_ (n := k) (by omega)
    · rw [this]
      have e := zov_ (k := k) (s := s) (o := 0) (l := arrN s.1 s.1.length)
      by_cases q : chk k s 0 (arrN s.1 s.1.length)
      · rw [if_pos (e.2 q)]
        congr 1
        exact decide_eq_decide.2 ⟨fun z => ⟨z.symm, q⟩, fun z => z.1.symm⟩
      · rw [if_neg (fun z => q (e.1 z)), decide_eq_false (fun z => q z.2)]
    · intro n i hi
      have hlt : (i : Int) < ((arrN s.1 s.1.length).length : Int) := by omega
      have hw := zg_ (i := i) (by omega)
      have hg : (arrN s.1 s.1.length)[i]? = some (arrN s.1 s.1.length)[i] := List.getElem?_eq_getElem hi
      have hF : ((arrN s.1 s.1.length).map toI3)[i]? = some (toI3 (arrN s.1 s.1.length)[i]) := by rw [List.getElem?_map, hg]; rfl
      obtain ⟨a1, a2⟩ := zox_ h (Nat.le_refl _) hg
      obtain ⟨s1, _⟩ := z7z_ hS a1
      obtain ⟨s2, _⟩ := z7z_ hS a2
      have hch : chk1 k s 0 (arrN s.1 s.1.length) i = (match s.2.2.2[i]? with | some m => okA k s (arrN s.1 s.1.length)[i] m | none => false) := by unfold chk1; rw [hg, Nat.zero_add]
      rw [hch]
      generalize (arrN s.1 s.1.length)[i] = a at hF s1 s2
      simp only [zag_, List.length_map, hlt, hi, decide_true, if_true, Int.natCast_nonneg, Int.toNat_natCast, and_self, hF, Option.bind_some, hw, toI3]
      by_cases hml : i < s.2.2.2.length
      · have hgm : s.2.2.2[i]? = some s.2.2.2[i] := List.getElem?_eq_getElem hml
        have hcells := hs.cells _ (List.mem_of_getElem? hgm)
        rw [decide_eq_false (by omega), if_neg (by simp), hgm, s1, s2]
        simp only [Option.bind_some, zjo_, (zh9_ hk hcells).2.1]
        show _ = if okA k s a s.2.2.2[i] = true then _ else _
        unfold okA
        generalize s.2.2.2[i] = mm
        generalize s.2.2.1.getD a.1 0 = u
        generalize s.2.2.1.getD a.2.2 0 = v
        cases matB k mm
        · simp
        · by_cases q1 : mm.1 = s.2.1
          · by_cases q2 : mm.2.1 = u
            · by_cases q3 : mm.2.2.1 = v <;> simp [q1, q2, q3]
            · simp [q1, q2]
          · simp [q1]
      · rw [decide_eq_true (by omega), if_pos rfl, List.getElem?_eq_none (by omega)]
        rfl
    · intro n
      simp only [zag_, Int.lt_irrefl, decide_false, Bool.false_eq_true, if_false, List.length_map]
      exact congrArg some (decide_eq_decide.2 (by omega))
abbrev Fil := Cx × List Int
def chkF (ti : List Int) (a : Nat × Nat × Nat) : Bool := !decide (ti.getD a.1 0 < ti.getD a.2.2 0)
def z6l_ (ti : List Int) (n : Nat) : Bool := ti.all (fun x => decide (0 ≤ x ∧ x ≤ 1000)) && decide (ti.length = n)
noncomputable def filB (f : Fil) : Bool := cxB f.1 && (z6l_ f.2 f.1.length && (arrN f.1 f.1.length).all (chkF f.2))
theorem zuz_ {k : Nat} (hk : KK ≤ k) {f : Fil} (hc : z25_ f.1) (ht : f.2.length ≤ 1048576) : zfw_ k f = some (filB f) := by
  have hK := zh_
  unfold zfw_ filB
  have hcol : z7c_ k f.2 (f.1.length : Int) 1001 = some (z6l_ f.2 f.1.length) := by
    rw [zk9_ hk ht _ (by omega)]
    unfold z6l_
    have e : decide ((f.2.length : Int) = (f.1.length : Int)) = decide (f.2.length = f.1.length) := decide_eq_decide.2 (by omega)
    rw [e]
    rfl
  rw [zok_ hk hc, hcol]
  cases hcx : cxB f.1 with
  | false => simp
  | true =>
  cases htb : z6l_ f.2 f.1.length with
  | false => simp
  | true =>
  have h := z4w_.1 hcx
  have hcl := h.len
  have hlen : f.2.length = f.1.length := by
    unfold z6l_ at htb
    rw [Bool.and_eq_true, decide_eq_true_eq] at htb
    exact htb.2
  simp only [Option.bind_some, Bool.not_true, Bool.false_eq_true, if_false, Bool.true_and]
  have := z2s_ (L := fun n i => z6b_ k n f i (some true)) (b := f.2.length) (p := fun j => (z1j_ f.1 j).all (chkF f.2)) (r := some false) (e := some true) ?_ ?_ (n := k) (by omega)
  · refine this.trans ?_
    rw [hlen]
    have e : (arrN f.1 f.1.length).all (chkF f.2) = (List.range f.1.length).all (fun j => (z1j_ f.1 j).all (chkF f.2)) := by unfold arrN; rw [List.all_flatMap]
    rw [e]
    cases (List.range f.1.length).all (fun j => (z1j_ f.1 j).all (chkF f.2)) <;> rfl
  · intro n j hj
    have hlt : (j : Int) < (f.2.length : Int) := by omega
    have hw := zg_ (i := j) (by omega)
    have hj' : j < f.1.length := by omega
    have hg : f.1[j]? = some f.1[j] := List.getElem?_eq_getElem hj'
    have hm := List.mem_of_getElem? hg
    have h4 := (h.simp _ hm).len4
    have hfl := zh7_ f.1 f.1[j]
    have hfl4 : (zr_ f.1 f.1[j]).length ≤ 4 := by rw [hfl]; split <;> omega
    have hp : (z1j_ f.1 j).all (chkF f.2) = (zr_ f.1 f.1[j]).all (fun g => !decide (f.2.getD j 0 < f.2.getD g 0)) := by
      unfold z1j_
      rw [hg]
      simp only
      rw [Bool.eq_iff_iff, List.all_eq_true, List.all_eq_true]
      constructor
      · intro z g hgm
        obtain ⟨i, hi, rfl⟩ := List.getElem_of_mem hgm
        have := z (j, i, (zr_ f.1 f.1[j]).getD i 0) (List.mem_map.2 ⟨i, List.mem_range.2 hi, rfl⟩)
        unfold chkF at this
        rw [List.getD_eq_getElem?_getD (l := zr_ f.1 f.1[j]), List.getElem?_eq_getElem hi] at this
        exact this
      · intro z a ha
        obtain ⟨i, hi, rfl⟩ := List.mem_map.1 ha
        rw [List.mem_range] at hi
        have := z _ (List.getElem_mem hi)
        unfold chkF
        simp only
        rw [List.getD_eq_getElem?_getD (l := zr_ f.1 f.1[j]), List.getElem?_eq_getElem hi]
        exact this
    simp only [z6b_, hlt, decide_true, if_true, zos_ hk h hg, Option.bind_some]
    rw [hp]
    have hgj : f.2[j]? = some (f.2.getD j 0) := by rw [List.getD_eq_getElem?_getD, List.getElem?_eq_getElem hj]; rfl
    have inner := z4p_ (L := fun m i => z9y_ k m f (j : Int) i ((zr_ f.1 f.1[j]).map fun i : Nat => (i : Int)) (fun f_4 k_5 => z6b_ k n f_4 (z0_ (k_5 + 1)) (some true))) (p := fun y : Int => !decide (f.2.getD j 0 < f.2.getD y.toNat 0)) (r := some false) (e := z6b_ k n f ((j + 1 : Nat) : Int) (some true)) ((zr_ f.1 f.1[j]).map fun i : Nat => (i : Int)) ?_ ?_ (n := k) (by rw [List.length_map]; omega)
    · refine inner.trans ?_
      rw [List.all_map]
      rfl
    · intro m i y hy hlt2
      have hy2 := hy
      rw [List.getElem?_map] at hy2
      obtain ⟨g, hg2, rfl⟩ := Option.map_eq_some_iff.1 hy2
      have hi : i < (zr_ f.1 f.1[j]).length := (List.getElem?_eq_some_iff.1 hg2).1
      have hw2 := zg_ (i := i) (by omega)
      have hgl : g < f.2.length := by rw [hlen]; exact zkh_ h hm (List.mem_of_getElem? hg2)
      have hgg : f.2[g]? = some (f.2.getD g 0) := by rw [List.getD_eq_getElem?_getD, List.getElem?_eq_getElem hgl]; rfl
      have hlt3 : (i : Int) < ((zr_ f.1 f.1[j]).length : Int) := by omega
      simp only [z9y_, List.length_map, hlt3, hi, decide_true, if_true, Int.natCast_nonneg, Int.toNat_natCast, and_self, hy, Option.bind_some, hgg, hgj, hw2]
      show _ = if (!decide (f.2.getD j 0 < f.2.getD g 0)) = true then _ else _
      by_cases z : f.2.getD j 0 < f.2.getD g 0
      · rw [if_pos (decide_eq_true z), if_neg (by rw [decide_eq_true z]; simp)]
      · rw [if_neg (by rw [decide_eq_false z]; simp), if_pos (by rw [decide_eq_false z]; rfl)]
    · intro m
      simp only [z9y_, Int.lt_irrefl, decide_false, Bool.false_eq_true, if_false, hw]
  · intro n
    simp only [z6b_, Int.lt_irrefl, decide_false, Bool.false_eq_true, if_false]
theorem zv0_ {k : Nat} (hk : KK ≤ k) {f : Fil} (hc : z25_ f.1) (ht : f.2.length ≤ 1048576) : zgp_ k f = some (filB f) := by
  have hK := zh_
  unfold zgp_ filB zjv_ zju_
  rw [zol_ hk hc]
  cases hcx : cxB f.1 with
  | false => simp
  | true =>
  have h := z4w_.1 hcx
  have hcl := h.len
  simp only [Option.bind_some, Bool.not_true, Bool.false_eq_true, if_false, Bool.true_and]
  by_cases hlen : f.2.length = f.1.length
  case neg =>
    rw [decide_eq_false (show ¬ (f.2.length : Int) = (f.1.length : Int) by omega), if_pos (by simp)]
    unfold z6l_
    rw [decide_eq_false hlen, Bool.and_false, Bool.false_and]
  rw [decide_eq_true (show (f.2.length : Int) = (f.1.length : Int) by omega), if_neg (by simp)]
  have ht1 : z6l_ f.2 f.1.length = f.2.all (fun x => decide (0 ≤ x ∧ x ≤ 1000)) := by unfold z6l_; rw [decide_eq_true hlen, Bool.and_true]
  rw [ht1, z3q_ (L := fun n i => zai_ k n f.2 () (f.2.length : Int) i (some (-1))) (p := fun x => !decide (0 ≤ x ∧ x ≤ 1000)) f.2 ?_ ?_ (n := k) (by omega)]
  · have e : (f.2.any fun x => !decide (0 ≤ x ∧ x ≤ 1000)) = !f.2.all (fun x => decide (0 ≤ x ∧ x ≤ 1000)) := by rw [List.not_all_eq_any_not]
    simp only [Option.bind_some, z4d_, e]
    cases f.2.all (fun x => decide (0 ≤ x ∧ x ≤ 1000)) with
    | false => simp
    | true =>
    have hal := z6j_ h f.1.length (Nat.le_refl _)
    simp only [Bool.not_true, Bool.false_eq_true, if_false, zou_ hk h, Option.bind_some, Bool.true_and]
    unfold zjy_ zjx_
    rw [z3q_ (L := fun n i => zaj_ k n ((arrN f.1 f.1.length).map toI3) f (((arrN f.1 f.1.length).map toI3).length : Int) i (some (-1))) (p := fun y : Int × Int × Int => decide (f.2.getD y.1.toNat 0 < f.2.getD y.2.2.toNat 0)) ((arrN f.1 f.1.length).map toI3) ?_ ?_ (n := k) (by rw [List.length_map]; omega)]
    · simp only [Option.bind_some, z4d_]
      congr 1
      rw [List.any_map, List.all_eq_not_any_not]
      congr 1
      refine congrArg (fun p => List.any (arrN f.1 f.1.length) p) (funext fun a => ?_)
      unfold chkF
      rw [Bool.not_not]
      rfl
    · intro n i y hy hlt
      have hy2 := hy
      rw [List.getElem?_map] at hy2
      obtain ⟨a, ha, rfl⟩ := Option.map_eq_some_iff.1 hy2
      obtain ⟨a1, a2⟩ := zox_ h (Nat.le_refl _) ha
      have hi : i < (arrN f.1 f.1.length).length := (List.getElem?_eq_some_iff.1 ha).1
      have hw := zg_ (i := i) (by omega)
      have g1 : f.2[a.1]? = some (f.2.getD a.1 0) := by rw [List.getD_eq_getElem?_getD, List.getElem?_eq_getElem (by omega)]; rfl
      have g2 : f.2[a.2.2]? = some (f.2.getD a.2.2 0) := by rw [List.getD_eq_getElem?_getD, List.getElem?_eq_getElem (by omega)]; rfl
      simp only [zaj_, zjw_, hlt, decide_true, if_true, Int.natCast_nonneg, Int.toNat_natCast, hy, Option.bind_some, toI3, g1, g2, hw]
      rfl
    · intro n
      simp only [zaj_, Int.lt_irrefl, decide_false, Bool.false_eq_true, if_false]
  · intro n i x hi hlt
    have hw := zg_ (i := i) (by omega)
    simp only [zai_, zjt_, zjs_, z4u_, hlt, decide_true, if_true, Int.natCast_nonneg, Int.toNat_natCast, hi, Option.bind_some, hw]
  · intro n
    simp only [zai_, Int.lt_irrefl, decide_false, Bool.false_eq_true, if_false]
abbrev Edg := Int × Int × Int
abbrev Gr := Int × List Edg
def zkk_ (N : Int) (e : Edg) : Bool := decide (0 ≤ e.1) && (decide (e.1 < e.2.1) && (decide (e.2.1 < N) && decide (1 ≤ e.2.2 ∧ e.2.2 ≤ 9)))
def zcr_ (a b : Edg) : Bool := decide (a.1 < b.1 ∨ (a.1 = b.1 ∧ a.2.1 < b.2.1))
def zkl_ (l : List Edg) (i : Nat) (e : Edg) : Bool := if 0 < i then (match l[i - 1]? with | some z => zcr_ z e | none => false) else true
def z80_ (g : Gr) (i : Nat) : Bool := match g.2[i]? with | some e => zkk_ g.1 e && zkl_ g.2 i e | none => false
def z6m_ (g : Gr) : Bool := decide (1 ≤ g.1 ∧ g.1 ≤ 12) && ((List.range g.2.length).all (z80_ g) && decide (g.2.length ≤ 24))
theorem zv1_ {k : Nat} (hk : KK ≤ k) (a b : Edg) : zgl_ k a b = some (if cI a.1 b.1 = 0 then cI a.2.1 b.2.1 else cI a.1 b.1) := by
  unfold zgl_
  simp only [zo2_, Option.bind_some, zo3_ hk]
theorem zv2_ (a b : Edg) : decide (0 ≤ (if cI a.1 b.1 = 0 then cI a.2.1 b.2.1 else cI a.1 b.1)) = !zcr_ a b := by
  unfold zcr_ cI
  rw [← decide_not]
  refine decide_eq_decide.2 ?_
  by_cases h1 : a.1 < b.1
  · simp [h1]
  · by_cases h2 : b.1 < a.1
    · have : ¬ a.1 = b.1 := by omega
      simp [h1, h2, this]
    · have e : a.1 = b.1 := by omega
      by_cases h3 : a.2.1 < b.2.1
      · simp [e, h3]
      · by_cases h4 : b.2.1 < a.2.1 <;> simp [e, h3, h4]
theorem zv3_ {k : Nat} (hk : KK ≤ k) {g : Gr} (hL : g.2.length ≤ 1048576) : zfs_ k g = some (z6m_ g) := by
  have hK := zh_
  unfold zfs_ z6m_
  rw [z4c_]
  by_cases hN : 1 ≤ g.1 ∧ g.1 ≤ 12
  · rw [decide_eq_true hN]
    simp only [Option.bind_some, Bool.not_true, Bool.false_eq_true, if_false, Bool.true_and]
    have := z2s_ (L := fun n i => z69_ k n g i (fun g_9 => some (decide ((List.length g_9.2 : Int) ≤ 24)))) (b := g.2.length) (p := z80_ g) (r := some false) (e := some (decide (g.2.length ≤ 24))) ?_ ?_ (n := k) (by omega)
    · refine Eq.trans this ?_
      cases (List.range g.2.length).all (z80_ g) <;> simp
    · intro n i hi
      have hlt : (i : Int) < (g.2.length : Int) := by omega
      have hw := zg_ (i := i) (by omega)
      have hg : g.2[i]? = some g.2[i] := List.getElem?_eq_getElem hi
      simp only [z69_, hlt, decide_true, if_true, Int.natCast_nonneg, Int.toNat_natCast, hg, Option.bind_some, hw, z4c_, z80_, zkl_, zkk_]
      generalize g.2[i] = e
      have w1 : z0_ (g.1 - 1) = g.1 - 1 := w_id (by omega) (by omega)
      rw [w1]
      by_cases c1 : 0 ≤ e.2.1 ∧ e.2.1 ≤ g.1 - 1
      · have w2 : z0_ (e.2.1 - 1) = e.2.1 - 1 := w_id (by omega) (by omega)
        have c1' : e.2.1 < g.1 := by omega
        rw [w2, decide_eq_true c1, decide_eq_true c1']
        by_cases c2 : 0 ≤ e.1 ∧ e.1 ≤ e.2.1 - 1
        · have d1 : 0 ≤ e.1 := c2.1
          have d2 : e.1 < e.2.1 := by omega
          rw [decide_eq_true c2, decide_eq_true d1, decide_eq_true d2]
          by_cases c3 : 1 ≤ e.2.2 ∧ e.2.2 ≤ 9
          · rw [decide_eq_true c3]
            by_cases h0 : 0 < i
            · have hw1 : z0_ ((i : Int) - 1) = ((i - 1 : Nat) : Int) := by rw [w_id (by omega) (by omega)]; omega
              have hg1 : g.2[i - 1]? = some g.2[i - 1] := List.getElem?_eq_getElem (by omega)
              have h0' : (0 : Int) < (i : Int) := by omega
              simp only [hw1, Int.natCast_nonneg, Int.toNat_natCast, hg1, h0, h0', decide_true, if_true, Option.bind_some]
              generalize g.2[i - 1] = z
              unfold zcr_
              by_cases z1 : e.1 < z.1
              · have : ¬ (z.1 < e.1 ∨ (z.1 = e.1 ∧ z.2.1 < e.2.1)) := by omega
                simp [z1, this]
              · by_cases z2 : z.1 = e.1
                · by_cases z3 : e.2.1 ≤ z.2.1
                  · have : ¬ (z.1 < e.1 ∨ (z.1 = e.1 ∧ z.2.1 < e.2.1)) := by omega
                    simp [z1, z2, z3, this]
                    omega
                  · have : (z.1 < e.1 ∨ (z.1 = e.1 ∧ z.2.1 < e.2.1)) := by omega
                    rw [decide_eq_true this]
                    simp [z1, z2, z3]
                · have : (z.1 < e.1 ∨ (z.1 = e.1 ∧ z.2.1 < e.2.1)) := by omega
                  rw [decide_eq_true this]
                  simp [z1, z2]
            · have h0' : ¬ (0 : Int) < (i : Int) := by omega
              simp [h0, h0']
          · simp [c3]
        · have : ¬ (0 ≤ e.1 ∧ e.1 < e.2.1) := by omega
          rw [decide_eq_false c2]
          by_cases d1 : 0 ≤ e.1
          · have d2 : ¬ e.1 < e.2.1 := by omega
            simp [d1, d2]
          · simp [d1]
      · rw [decide_eq_false c1]
        by_cases d1 : 0 ≤ e.1
        · by_cases d2 : e.1 < e.2.1
          · have d3 : ¬ e.2.1 < g.1 := by omega
            simp [d1, d2, d3]
          · simp [d1, d2]
        · simp [d1]
    · intro n
      have e2 : decide ((g.2.length : Int) ≤ 24) = decide (g.2.length ≤ 24) := decide_eq_decide.2 (by omega)
      simp only [z69_, Int.lt_irrefl, decide_false, Bool.false_eq_true, if_false, e2]
  · rw [decide_eq_false hN]; simp
theorem zv4_ {k : Nat} (hk : KK ≤ k) {g : Gr} (hL : g.2.length ≤ 1048576) : zgm_ k g = some (z6m_ g) := by
  have hK := zh_
  unfold zgm_ z6m_
  have := z2s_ (L := fun n i => z7t_ k n g.2 (g.2.length : Int) i g (fun v_5 => (z32_ v_5.1 1 12).bind fun r_6 => (if r_6 = true then some (decide ((List.length v_5.2 : Int) ≤ 24)) else some false))) (b := g.2.length) (p := z80_ g) (r := some false) (e := some (decide (1 ≤ g.1 ∧ g.1 ≤ 12) && decide (g.2.length ≤ 24))) ?_ ?_ (n := k) (by omega)
  · refine Eq.trans this ?_
    cases (List.range g.2.length).all (z80_ g) <;> simp
  · intro n i hi
    have hlt : (i : Int) < (g.2.length : Int) := by omega
    have hw := zg_ (i := i) (by omega)
    have hg : g.2[i]? = some g.2[i] := List.getElem?_eq_getElem hi
    simp only [z7t_, hlt, decide_true, if_true, Int.natCast_nonneg, Int.toNat_natCast, hg, Option.bind_some, hw, z4u_, z80_, zkl_, zkk_]
    generalize g.2[i] = e
    by_cases d1 : 0 ≤ e.1
    · have d1' : ¬ e.1 < 0 := by omega
      by_cases d2 : e.1 < e.2.1
      · have d2' : ¬ e.2.1 ≤ e.1 := by omega
        by_cases d3 : e.2.1 < g.1
        · have d3' : ¬ g.1 ≤ e.2.1 := by omega
          by_cases c3 : 1 ≤ e.2.2 ∧ e.2.2 ≤ 9
          · by_cases h0 : 0 < i
            · have hw1 : z0_ ((i : Int) - 1) = ((i - 1 : Nat) : Int) := by rw [w_id (by omega) (by omega)]; omega
              have hg1 : g.2[i - 1]? = some g.2[i - 1] := List.getElem?_eq_getElem (by omega)
              have h0' : (0 : Int) < (i : Int) := by omega
              simp only [d1, d1', d2, d2', d3, d3', c3, decide_true, decide_false, Bool.false_eq_true, if_false, Bool.not_true, and_self, hw1, Int.natCast_nonneg, Int.toNat_natCast, hg1, h0, h0', if_true, Option.bind_some, zv1_ hk, zv2_, Bool.true_and]
              cases zcr_ g.2[i - 1] e <;> simp
            · have h0' : ¬ (0 : Int) < (i : Int) := by omega
              simp [d1, d1', d2, d2', d3, d3', c3, h0, h0']
          · simp [d1, d1', d2, d2', d3, d3', c3]
        · have d3' : g.1 ≤ e.2.1 := by omega
          simp [d1, d1', d2, d2', d3, d3']
      · have d2' : e.2.1 ≤ e.1 := by omega
        simp [d1, d1', d2, d2']
    · have d1' : e.1 < 0 := by omega
      simp [d1, d1']
  · intro n
    have e2 : decide ((g.2.length : Int) ≤ 24) = decide (g.2.length ≤ 24) := decide_eq_decide.2 (by omega)
    simp only [z7t_, Int.lt_irrefl, decide_false, Bool.false_eq_true, if_false, z4u_, Option.bind_some, e2]
    cases decide (1 ≤ g.1 ∧ g.1 ≤ 12) <;> simp
def lowI (y : Int) : Bool := decide (97 ≤ y) && decide (y ≤ 122)
def digI (y : Int) : Bool := decide (48 ≤ y) && decide (y ≤ 57)
def z4x_ (y : Int) : Bool := lowI y || digI y
def z3b_ (s : List UInt8) : Bool := match s with | [] => false | a :: l => decide ((a :: l).length ≤ 10) && (lowI (z_u8 a) && (a :: l).all fun b => z4x_ (z_u8 b))
theorem zoy_ (y : Int) : zcd_ y = some (lowI y) := by
  unfold zcd_ lowI
  by_cases h : 97 ≤ y <;> simp [h]
theorem zv5_ (y : Int) : zfx_ y = some (digI y) := by
  unfold zfx_ digI
  by_cases h : 48 ≤ y <;> simp [h]
theorem zoz_ (a : UInt8) (l : List UInt8) : z3b_ (a :: l) = (decide ((a :: l).length ≤ 10) && (lowI (z_u8 a) && (a :: l).all fun b => z4x_ (z_u8 b))) := rfl
theorem zv6_ {k : Nat} (hk : KK ≤ k) {s : List UInt8} (hs : s.length ≤ 1000000000000) : z6c_ k k s 0 (some true) = if s.all (fun b => z4x_ (z_u8 b)) = true then some true else some false := by
  have hK := zh_
  refine z4p_ (L := fun n i => z6c_ k n s i (some true)) s ?_ ?_ (n := k) (by omega)
  · intro n i x hx hlt
    have hw := zg_ (i := i) (by omega)
    simp only [z6c_, hlt, decide_true, if_true, Int.natCast_nonneg, Int.toNat_natCast, hx, Option.bind_some, zoy_, zv5_, hw, z4x_]
    by_cases h1 : lowI (z_u8 x) = true <;> by_cases h2 : digI (z_u8 x) = true <;> simp [h1, h2]
  · intro n
    simp [z6c_]
theorem zv7_ {k : Nat} (hk : KK ≤ k) {s : List UInt8} (hs : s.length ≤ 1000000000000) : zfy_ k s = some (z3b_ s) := by
  unfold zfy_
  cases s with
  | nil => simp [z3b_]
  | cons a l =>
    rw [zv6_ hk hs, zoz_, decide_eq_false (show ¬ (a :: l = []) by simp), if_neg (by simp)]
    by_cases h : (a :: l).length ≤ 10
    · rw [decide_eq_false (show ¬ (10 < ((a :: l).length : Int)) by omega), if_neg (by simp), decide_eq_true h]
      simp only [List.getElem?_cons_zero, Option.bind_some, zoy_, Bool.true_and]
      cases lowI (z_u8 a)
      · simp
      · cases (a :: l).all (fun b => z4x_ (z_u8 b)) <;> simp
    · rw [decide_eq_true (show (10 < ((a :: l).length : Int)) by omega), if_pos rfl, decide_eq_false h]
      rfl
theorem zv8_ {k : Nat} (hk : KK ≤ k) (q : List Int) (hq : q.length ≤ 1000000000000) : z4t_ k k (q.length : Int) 0 q (some true) = some (q.all z4x_ && lowI (q.headD 97)) := by
  have hK := zh_
  have := z1n_ (A := Unit) (L := fun n i _ => z4t_ k n (q.length : Int) i q (some true)) (I := fun _ _ => True) (G := fun post _ => some (post.all z4x_ && (decide (post.length ≠ q.length) || lowI (post.headD 97)))) q ?_ ?_ k (by omega) () trivial
  · refine Eq.trans this ?_
    simp
  · intro n pre x post _ hx _ ih hg hlt
    have hw := zg_ (i := pre.length) (by omega)
    have hlt' : pre.length < q.length := by omega
    have ih := ih () trivial
    have hne : decide (post.length ≠ q.length) = true := by rw [hx]; simp <;> omega
    simp only [hne, Bool.true_or, Bool.and_true] at ih
    simp only [z4t_, hlt, hlt', decide_true, if_true, Int.natCast_nonneg, Int.toNat_natCast, hg, Option.bind_some, hw, ih, and_self]
    have h0 : decide ((x :: post).length ≠ q.length) = decide (pre.length ≠ 0) := decide_eq_decide.2 (by rw [hx]; simp <;> omega)
    rw [h0]
    simp only [List.all_cons, List.headD_cons, z4x_, lowI, digI]
    have h1 : decide ((pre.length : Int) = 0) = decide (pre.length = 0) := decide_eq_decide.2 (by omega)
    rw [h1]
    by_cases g1 : 97 ≤ x <;> by_cases g2 : x ≤ 122 <;> by_cases g3 : 48 ≤ x <;> by_cases g4 : x ≤ 57 <;> by_cases g0 : pre.length = 0 <;> first | omega | simp [g0, g1, g2, g3, g4]
  · intro n _ _
    simp [z4t_, lowI]
theorem zv9_ {k : Nat} (hk : KK ≤ k) {s : List UInt8} (hs : s.length ≤ 1000000000000) : zgq_ k s = some (z3b_ s) := by
  have hK := zh_
  have hL := z1i_
  unfold zgq_
  have hl : (of_S s).length = s.length := by simp [of_S]
  rw [zv8_ hk (of_S s) (by omega), if_pos (show s.length ≤ LIM by omega)]
  cases s with
  | nil => simp [z3b_]
  | cons a l =>
    rw [decide_eq_false (show ¬ (((a :: l).length : Int) < 1) by simp only [List.length_cons]; omega), if_neg (by simp)]
    rw [zoz_]
    by_cases h : (a :: l).length ≤ 10
    · rw [decide_eq_false (show ¬ (10 < ((a :: l).length : Int)) by omega), if_neg (by simp), decide_eq_true h, Bool.true_and]
      have e : (of_S (a :: l)).all z4x_ = (a :: l).all fun b => z4x_ (z_u8 b) := by simp [of_S, z_u8, List.all_map, Function.comp_def]
      rw [e, Bool.and_comm]; rfl
    · rw [decide_eq_true (show (10 < ((a :: l).length : Int)) by omega), if_pos rfl, decide_eq_false h]; rfl
def z3t_ (ns : List (List UInt8)) (i : Nat) : Bool := if 0 < i then (match ns[i - 1]? with | some z => (match ns[i]? with | some y => Op.bytesLess z y | none => false) | none => false) else true
def z6n_ (ns : List (List UInt8)) : Prop := ns.Pairwise (fun a b => Op.bytesLess a b = true)
theorem zha_ {ns : List (List UInt8)} : (∀ i, i < ns.length → z3t_ ns i = true) ↔ z6n_ ns := by
  constructor
  · intro h
    have step : ∀ i, (hi : i + 1 < ns.length) → Op.bytesLess ns[i] ns[i + 1] = true := by
      intro i hi
      have := h (i + 1) hi
      unfold z3t_ at this
      rw [if_pos (by omega), Nat.add_sub_cancel, List.getElem?_eq_getElem (by omega), List.getElem?_eq_getElem hi] at this
      exact this
    refine List.pairwise_iff_getElem.2 ?_
    have main : ∀ d i, (hj : i + d + 1 < ns.length) → Op.bytesLess ns[i] ns[i + d + 1] = true := by
      intro d
      induction d with
      | zero => intro i hj; exact step i hj
      | succ d ih => intro i hj; exact zkc_ _ _ _ (ih i (by omega)) (step (i + d + 1) hj)
    intro i j hi hj hij
    have := main (j - i - 1) i (by omega)
    have e : i + (j - i - 1) + 1 = j := by omega
    simpa only [e] using this
  · intro h i hi
    unfold z3t_
    split
    · rw [List.getElem?_eq_getElem (by omega), List.getElem?_eq_getElem hi]
      exact List.pairwise_iff_getElem.1 h _ _ (by omega) hi (by omega)
    · rfl
theorem zkm_ {ns : List (List UInt8)} (h : z6n_ ns) : ns.Nodup := h.imp (fun {a b} hab e => by rw [e, zat_] at hab; cases hab)
def z81_ (ns : List (List UInt8)) (m : Int) : Bool := (List.range ns.length).all (fun i => (match ns[i]? with | some y => z3b_ y | none => false) && z3t_ ns i) && decide ((ns.length : Int) ≤ m)
theorem zp0_ {ns : List (List UInt8)} {m : Int} : z81_ ns m = true ↔ (∀ y ∈ ns, z3b_ y = true) ∧ z6n_ ns ∧ (ns.length : Int) ≤ m := by
  unfold z81_
  simp only [Bool.and_eq_true, List.all_eq_true, List.mem_range, decide_eq_true_eq]
  rw [← zha_]
  constructor
  · rintro ⟨h, h2⟩
    refine ⟨fun y hy => ?_, fun i hi => (h i hi).2, h2⟩
    obtain ⟨i, hi, rfl⟩ := List.getElem_of_mem hy
    have := (h i hi).1
    rw [List.getElem?_eq_getElem hi] at this
    exact this
  · rintro ⟨h, h1, h2⟩
    refine ⟨fun i hi => ⟨?_, h1 i hi⟩, h2⟩
    rw [List.getElem?_eq_getElem hi]
    exact h _ (List.getElem_mem hi)
theorem zva_ (x y : List UInt8) : (Op.bytesLess y x || decide (y = x)) = !Op.bytesLess x y := by
  cases h : Op.bytesLess x y
  · by_cases e : y = x
    · simp [e]
    · rw [zo4_ x y h (fun h => e h.symm)]; rfl
  · have h2 := zu8_ h
    rw [h2]
    have : ¬ y = x := fun e => by rw [e, zat_] at h; cases h
    simp [this]
theorem zp1_ {k : Nat} (hk : KK ≤ k) {ns : List (List UInt8)} (hl : ns.length ≤ 1048576) (hx : ∀ x ∈ ns, x.length ≤ 1048576) (m : Int) : zcn_ k ns m = some (z81_ ns m) := by
  have hK := zh_
  unfold zcn_ z81_
  have := z2s_ (L := fun n i => z7v_ k n ns m ns (ns.length : Int) i (fun names_4 most_5 => some (decide ((List.length names_4 : Int) ≤ most_5)))) (b := ns.length) (p := fun i => (match ns[i]? with | some y => z3b_ y | none => false) && z3t_ ns i) (r := some false) (e := some (decide ((ns.length : Int) ≤ m))) ?_ ?_ (n := k) (by omega)
  · refine Eq.trans this ?_
    cases (List.range ns.length).all (fun i => (match ns[i]? with | some y => z3b_ y | none => false) && z3t_ ns i) <;> simp
  · intro n i hi
    have hlt : (i : Int) < (ns.length : Int) := by omega
    have hw := zg_ (i := i) (by omega)
    have hg : ns[i]? = some ns[i] := List.getElem?_eq_getElem hi
    have hxl := hx ns[i] (List.getElem_mem hi)
    simp only [z7v_, hlt, decide_true, if_true, Int.natCast_nonneg, Int.toNat_natCast, hg, Option.bind_some, hw, zv9_ hk (show ns[i].length ≤ 1000000000000 by omega), z3t_]
    cases z3b_ ns[i]
    · simp
    · by_cases h0 : 0 < i
      · have hw1 : z0_ ((i : Int) - 1) = ((i - 1 : Nat) : Int) := by rw [w_id (by omega) (by omega)]; omega
        have hg1 : ns[i - 1]? = some ns[i - 1] := List.getElem?_eq_getElem (by omega)
        have h0' : (0 : Int) < (i : Int) := by omega
        simp only [hw1, Int.natCast_nonneg, Int.toNat_natCast, hg1, h0, h0', decide_true, if_true, Option.bind_some, zva_]
        cases Op.bytesLess ns[i - 1] ns[i] <;> simp
      · have h0' : ¬ (0 : Int) < (i : Int) := by omega
        simp [h0, h0']
  · intro n
    simp only [z7v_, Int.lt_irrefl, decide_false, Bool.false_eq_true, if_false]
theorem zkn_ {k : Nat} (hk : KK ≤ k) {s : List (List UInt8)} (hs : s.length ≤ 1000000000000) (v : List UInt8) : zal_ k s v = some (s.contains v) := by
  have hK := zh_
  unfold zal_ zjz_
  rw [z3q_ (L := fun n i => zak_ k n s v (s.length : Int) i (some (-1))) (p := fun y => decide (v = y)) s ?_ ?_ (n := k) (by omega)]
  · simp only [Option.bind_some, z4d_]
    congr 1
    rw [Bool.eq_iff_iff]
    simp
  · intro n i x hi hlt
    have hw := zg_ (i := i) (by omega)
    simp only [zak_, hlt, decide_true, if_true, Int.natCast_nonneg, Int.toNat_natCast, hi, Option.bind_some, hw]
  · intro n
    simp [zak_]
abbrev It := List UInt8 × List (List UInt8) × Int × Int
def nmsI (L : List It) : List (List UInt8) := L.map (·.1)
def atI (L : List It) (n : List UInt8) : Nat := L.findIdx (fun y => decide (y.1 = n))
def zcs_ (x : It) : Prop := x.1.length ≤ 1048576 ∧ x.2.1.length ≤ 1048576 ∧ ∀ y ∈ x.2.1, y.length ≤ 1048576
theorem zhb_ {L : List It} {n : List UInt8} (h : n ∈ nmsI L) : atI L n < L.length := by
  obtain ⟨x, hx, rfl⟩ := List.mem_map.1 h
  exact List.findIdx_lt_length.2 ⟨x, hx, by simp⟩
theorem zp2_ {L : List It} {n : List UInt8} (h : atI L n < L.length) : (L[atI L n]).1 = n := by
  have : decide ((L[atI L n]).1 = n) = true := List.findIdx_getElem (xs := L) (p := fun y : It => decide (y.1 = n)) (w := h)
  exact of_decide_eq_true this
theorem zp3_ {k : Nat} (hk : KK ≤ k) {L : List It} (hL : L.length ≤ 1048576) (n : List UInt8) : zce_ k L n = some (if atI L n < L.length then ((atI L n : Nat) : Int) else -1) := by
  have hK := zh_
  unfold zce_
  rw [z3q_ (L := fun m i => z9z_ k m L n i (some (-1))) (p := fun y => decide (y.1 = n)) L ?_ ?_ (n := k) (by omega)]
  · unfold idxP atI
    cases hf : L.findIdx? (fun y => decide (y.1 = n)) with
    | some i =>
      obtain ⟨hlt, hp⟩ := List.findIdx?_eq_some_iff_findIdx_eq.1 hf
      rw [hp, if_pos hlt]
    | none =>
      rw [List.findIdx?_eq_none_iff] at hf
      have : ¬ L.findIdx (fun y => decide (y.1 = n)) < L.length := fun h => by
        obtain ⟨x, hx, h2⟩ := List.findIdx_lt_length.1 h
        rw [hf x hx] at h2; cases h2
      rw [if_neg this]
  · intro m i x hi hlt
    have hw := zg_ (i := i) (by omega)
    simp only [z9z_, hlt, decide_true, if_true, Int.natCast_nonneg, Int.toNat_natCast, hi, Option.bind_some, hw]
  · intro m
    simp [z9z_]
theorem zp4_ {L : List It} {n : List UInt8} (h : n ∈ nmsI L) : (if atI L n < L.length then ((atI L n : Nat) : Int) else -1) = ((atI L n : Nat) : Int) := if_pos (zhb_ h)
theorem zvb_ (L : List It) (n : List UInt8) : decide ((if atI L n < L.length then ((atI L n : Nat) : Int) else -1) < 0) = !(nmsI L).contains n := by
  by_cases h : n ∈ nmsI L
  · rw [zp4_ h]
    have : (nmsI L).contains n = true := by simpa using h
    rw [this, decide_eq_false (by omega)]; rfl
  · have h2 : ¬ atI L n < L.length := fun h2 => h (List.mem_map.2 ⟨_, List.getElem_mem h2, zp2_ h2⟩)
    have : (nmsI L).contains n = false := by simpa using h
    rw [if_neg h2, this]; rfl
def z5j_ (L : List It) (i : Nat) (x : It) : Bool :=
  z3b_ x.1 && (z3t_ (nmsI L) i && (decide (0 ≤ x.2.2.1 ∧ x.2.2.1 ≤ 1000000) && (decide (0 ≤ x.2.2.2 ∧ x.2.2.2 ≤ 1000) && (List.range x.2.1.length).all fun j => (match x.2.1[j]? with | some n => (nmsI L).contains n | none => false) && z3t_ x.2.1 j)))
def z82_ (L : List It) : Bool := (List.range L.length).all (fun i => match L[i]? with | some x => z5j_ L i x | none => false) && decide (L.length ≤ 16)
structure FormP (L : List It) : Prop where
  names : ∀ y ∈ nmsI L, z3b_ y = true
  strict : z6n_ (nmsI L)
  made : ∀ x ∈ L, 0 ≤ x.2.2.1 ∧ x.2.2.1 ≤ 1000000
  cost : ∀ x ∈ L, 0 ≤ x.2.2.2 ∧ x.2.2.2 ≤ 1000
  known : ∀ x ∈ L, ∀ n ∈ x.2.1, n ∈ nmsI L
  needs : ∀ x ∈ L, z6n_ x.2.1
  len : L.length ≤ 16
theorem zko_ {L : List It} : z82_ L = true ↔ FormP L := by
  unfold z82_
  simp only [Bool.and_eq_true, List.all_eq_true, List.mem_range, decide_eq_true_eq]
  have nl : (nmsI L).length = L.length := List.length_map ..
  have nd : ∀ ns : List (List UInt8), (∀ j, j < ns.length → ((match ns[j]? with | some n => (nmsI L).contains n | none => false) && z3t_ ns j) = true) ↔ (∀ n ∈ ns, n ∈ nmsI L) ∧ z6n_ ns := by
    intro ns
    rw [← zha_]
    constructor
    · intro h
      refine ⟨fun n hn => ?_, fun j hj => by have := h j hj; rw [Bool.and_eq_true] at this; exact this.2⟩
      obtain ⟨j, hj, rfl⟩ := List.getElem_of_mem hn
      have := h j hj
      rw [Bool.and_eq_true, List.getElem?_eq_getElem hj] at this
      simpa using this.1
    · rintro ⟨h1, h2⟩ j hj
      rw [Bool.and_eq_true, List.getElem?_eq_getElem hj]
      exact ⟨by simpa using h1 _ (List.getElem_mem hj), h2 j hj⟩
  constructor
  · rintro ⟨h, hl⟩
    have h' : ∀ i (hi : i < L.length), z5j_ L i L[i] = true := fun i hi => by have := h i hi; rw [List.getElem?_eq_getElem hi] at this; exact this
    have g : ∀ x ∈ L, z3b_ x.1 = true ∧ (0 ≤ x.2.2.1 ∧ x.2.2.1 ≤ 1000000) ∧ (0 ≤ x.2.2.2 ∧ x.2.2.2 ≤ 1000) ∧ (∀ n ∈ x.2.1, n ∈ nmsI L) ∧ z6n_ x.2.1 := by
      intro x hx
      obtain ⟨i, hi, rfl⟩ := List.getElem_of_mem hx
      have := h' i hi
      unfold z5j_ at this
      simp only [Bool.and_eq_true, decide_eq_true_eq] at this
      obtain ⟨a, b, c, d, e⟩ := this
      simp only [List.all_eq_true, List.mem_range] at e
      exact ⟨a, c, d, ((nd _).1 e).1, ((nd _).1 e).2⟩
    refine ⟨fun y hy => ?_, zha_.1 fun i hi => ?_, fun x hx => (g x hx).2.1, fun x hx => (g x hx).2.2.1, fun x hx => (g x hx).2.2.2.1, fun x hx => (g x hx).2.2.2.2, hl⟩
    · obtain ⟨x, hx, rfl⟩ := List.mem_map.1 hy
      exact (g x hx).1
    · have := h' i (by omega)
      unfold z5j_ at this
      simp only [Bool.and_eq_true] at this
      exact this.2.1
  · intro f
    refine ⟨fun i hi => ?_, f.len⟩
    rw [List.getElem?_eq_getElem hi]
    have hm := List.getElem_mem hi
    show z5j_ L i L[i] = true
    unfold z5j_
    simp only [Bool.and_eq_true, decide_eq_true_eq, List.all_eq_true, List.mem_range]
    refine ⟨f.names _ (List.mem_map.2 ⟨_, hm, rfl⟩), zha_.2 f.strict i (by omega), f.made _ hm, f.cost _ hm, ?_⟩
    have := (nd L[i].2.1).2 ⟨f.known _ hm, f.needs _ hm⟩
    intro j hj
    have := this j hj
    rwa [Bool.and_eq_true] at this
theorem zvc_ {k : Nat} (hk : KK ≤ k) {L : List It} (hL : L.length ≤ 1048576) {x : It} (hx : zcs_ x) (i : Nat) {E : List It → Int → Option Bool} : z5d_ k k L (i : Int) 0 x E = if ((List.range x.2.1.length).all fun j => (match x.2.1[j]? with | some n => (nmsI L).contains n | none => false) && z3t_ x.2.1 j) = true then E L (i : Int) else some false := by
  have hK := zh_
  obtain ⟨h1, h2, h3⟩ := hx
  refine z2s_ (L := fun n j => z5d_ k n L (i : Int) j x E) (b := x.2.1.length) ?_ ?_ (n := k) (by omega)
  · intro n j hj
    have hlt : (j : Int) < (x.2.1.length : Int) := by omega
    have hw := zg_ (i := j) (by omega)
    have hg : x.2.1[j]? = some x.2.1[j] := List.getElem?_eq_getElem hj
    simp only [z5d_, hlt, decide_true, if_true, Int.natCast_nonneg, Int.toNat_natCast, hg, Option.bind_some, hw, zp3_ hk hL, zvb_, z3t_]
    cases (nmsI L).contains x.2.1[j]
    · simp
    · by_cases h0 : 0 < j
      · have hw1 : z0_ ((j : Int) - 1) = ((j - 1 : Nat) : Int) := by rw [w_id (by omega) (by omega)]; omega
        have hg1 : x.2.1[j - 1]? = some x.2.1[j - 1] := List.getElem?_eq_getElem (by omega)
        have h0' : (0 : Int) < (j : Int) := by omega
        simp only [hw1, Int.natCast_nonneg, Int.toNat_natCast, hg1, h0, h0', decide_true, if_true, Option.bind_some]
        cases Op.bytesLess x.2.1[j - 1] x.2.1[j] <;> simp
      · have h0' : ¬ (0 : Int) < (j : Int) := by omega
        simp [h0, h0']
  · intro n
    simp only [z5d_, Int.lt_irrefl, decide_false, Bool.false_eq_true, if_false]
theorem zvd_ {k : Nat} (hk : KK ≤ k) {L : List It} (hL : L.length ≤ 1048576) (hx : ∀ x ∈ L, zcs_ x) : zfz_ k L = some (z82_ L) := by
  have hK := zh_
  unfold zfz_ z82_
  have := z2s_ (L := fun n i => z7i_ k n L i (fun list_12 => some (decide ((List.length list_12 : Int) ≤ 16)))) (b := L.length) (p := fun i => match L[i]? with | some x => z5j_ L i x | none => false) (r := some false) (e := some (decide (L.length ≤ 16))) ?_ ?_ (n := k) (by omega)
  · refine Eq.trans this ?_
    cases (List.range L.length).all (fun i => match L[i]? with | some x => z5j_ L i x | none => false) <;> simp
  · intro n i hi
    have hlt : (i : Int) < (L.length : Int) := by omega
    have hw := zg_ (i := i) (by omega)
    have hg : L[i]? = some L[i] := List.getElem?_eq_getElem hi
    have hxi := hx L[i] (List.getElem_mem hi)
    have hxl := hxi.1
    have hin : ∀ E : List It → Int → Option Bool, _ := fun E => zvc_ hk hL hxi i (E := E)
    simp only [z7i_, hlt, decide_true, if_true, Int.natCast_nonneg, Int.toNat_natCast, hg, Option.bind_some, hw, zv7_ hk (show L[i].1.length ≤ 1000000000000 by omega), z4c_, hin, z5j_, z3t_]
    cases z3b_ L[i].1
    · simp
    · have gi : (nmsI L)[i]? = some L[i].1 := by unfold nmsI; rw [List.getElem?_map, hg]; rfl
      by_cases h0 : 0 < i
      · have hw1 : z0_ ((i : Int) - 1) = ((i - 1 : Nat) : Int) := by rw [w_id (by omega) (by omega)]; omega
        have hg1 : L[i - 1]? = some L[i - 1] := List.getElem?_eq_getElem (by omega)
        have gi1 : (nmsI L)[i - 1]? = some L[i - 1].1 := by unfold nmsI; rw [List.getElem?_map, hg1]; rfl
        have h0' : (0 : Int) < (i : Int) := by omega
        simp only [hw1, Int.natCast_nonneg, Int.toNat_natCast, hg1, h0, h0', decide_true, if_true, Option.bind_some, gi, gi1]
        cases Op.bytesLess L[i - 1].1 L[i].1
        · simp
        · by_cases c1 : 0 ≤ L[i].2.2.1 ∧ L[i].2.2.1 ≤ 1000000 <;> by_cases c2 : 0 ≤ L[i].2.2.2 ∧ L[i].2.2.2 ≤ 1000 <;> simp [c1, c2]
      · have h0' : ¬ (0 : Int) < (i : Int) := by omega
        simp only [h0, h0', decide_false, Bool.false_eq_true, if_false]
        by_cases c1 : 0 ≤ L[i].2.2.1 ∧ L[i].2.2.1 ≤ 1000000 <;> by_cases c2 : 0 ≤ L[i].2.2.2 ∧ L[i].2.2.2 ≤ 1000 <;> simp [c1, c2]
  · intro n
    have e2 : decide ((L.length : Int) ≤ 16) = decide (L.length ≤ 16) := decide_eq_decide.2 (by omega)
    simp only [z7i_, Int.lt_irrefl, decide_false, Bool.false_eq_true, if_false, e2]
def nmI (L : List It) (i : Nat) : List UInt8 := match L[i]? with | some x => x.1 | none => []
theorem zct_ {L : List It} {i : Nat} (h : i < L.length) : nmI L i = (L[i]).1 := by unfold nmI; rw [List.getElem?_eq_getElem h]
theorem zve_ {L : List It} {i : Nat} (h : i < L.length) : nmI L i ∈ nmsI L := by rw [zct_ h]; exact List.mem_map.2 ⟨_, List.getElem_mem h, rfl⟩
theorem zp5_ {L : List It} {n : List UInt8} (h : n ∈ nmsI L) : nmI L (atI L n) = n := by rw [zct_ (zhb_ h)]; exact zp2_ _
theorem zp6_ {L : List It} (hs : z6n_ (nmsI L)) {i : Nat} (h : i < L.length) : atI L (nmI L i) = i := by
  have hm := zve_ h
  have h1 := zhb_ hm
  have h2 := zp5_ hm
  have nl : (nmsI L).length = L.length := List.length_map ..
  have e : ∀ j (hj : j < L.length), (nmsI L)[j]'(by omega) = nmI L j := fun j hj => by rw [zct_ hj]; simp [nmsI]
  rcases Nat.lt_trichotomy (atI L (nmI L i)) i with hlt | heq | hgt
  · have := List.pairwise_iff_getElem.1 hs _ _ (by omega) (by omega) hlt
    rw [e _ h1, e _ h, h2, zat_] at this; cases this
  · exact heq
  · have := List.pairwise_iff_getElem.1 hs _ _ (by omega) (by omega) hgt
    rw [e _ h1, e _ h, h2, zat_] at this; cases this
def z33_ (p : Nat → It → Bool) : List It → Nat → Int
  | [], _ => -1
  | x :: r, i => if p i x = true then (i : Int) else z33_ p r (i + 1)
theorem zp7_ {p : Nat → It → Bool} : ∀ (l : List It) (i : Nat), z33_ p l i = -1 ∨ ∃ j x, l[j]? = some x ∧ z33_ p l i = ((i + j : Nat) : Int) ∧ p (i + j) x = true
  | [], _ => .inl rfl
  | x :: r, i => by
    unfold z33_
    by_cases h : p i x = true
    · rw [if_pos h]; exact .inr ⟨0, x, rfl, rfl, h⟩
    · rw [if_neg h]
      rcases zp7_ (p := p) r (i + 1) with h1 | ⟨j, y, h1, h2, h3⟩
      · exact .inl h1
      · exact .inr ⟨j + 1, y, by simpa using h1, by rw [h2]; congr 1; omega, by rw [show i + (j + 1) = i + 1 + j by omega]; exact h3⟩
def z2t_ (L : List It) (out : List Nat) (i : Nat) (x : It) : Bool := !out.contains i && x.2.1.all (fun n => out.contains (atI L n))
def ordI (L : List It) : Nat → List Nat → List Nat
  | 0, out => out
  | d + 1, out => if z33_ (z2t_ L out) L 0 < 0 then out else ordI L d (out ++ [(z33_ (z2t_ L out) L 0).toNat])
def zcu_ (L : List It) : List Nat := ordI L L.length []
def zcv_ (L : List It) (out : List Nat) : Prop := out.Nodup ∧ ∀ i ∈ out, i < L.length
theorem zp8_ {L : List It} {out : List Nat} (h : zcv_ L out) : z33_ (z2t_ L out) L 0 < 0 ∨ ∃ r : Nat, z33_ (z2t_ L out) L 0 = (r : Int) ∧ r < L.length ∧ r ∉ out ∧ zcv_ L (out ++ [r]) := by
  rcases zp7_ (p := z2t_ L out) L 0 with h1 | ⟨j, x, h1, h2, h3⟩
  · exact .inl (by omega)
  · rw [Nat.zero_add] at h2 h3
    have hj := (List.getElem?_eq_some_iff.1 h1).1
    have hn : j ∉ out := by unfold z2t_ at h3; simp only [Bool.and_eq_true, Bool.not_eq_true', List.contains_iff_mem] at h3; have := h3.1; simpa using this
    refine .inr ⟨j, h2, hj, hn, ?_, ?_⟩
    · rw [List.nodup_append]
      exact ⟨h.1, by simp, fun a ha b hb e => hn (by rw [List.mem_singleton] at hb; subst hb; subst e; exact ha)⟩
    · intro i hi
      rcases List.mem_append.1 hi with hi | hi
      · exact h.2 i hi
      · rw [List.mem_singleton.1 hi]; exact hj
def z26_ (L : List It) (out : List Nat) : List Bool := (List.range L.length).map fun i => out.contains i
theorem z83_ (L : List It) (out : List Nat) : (z26_ L out).length = L.length := by simp [z26_]
theorem zav_ {L : List It} {out : List Nat} {i : Nat} (h : i < L.length) : (z26_ L out)[i]? = some (out.contains i) := by
  unfold z26_; rw [List.getElem?_map, List.getElem?_range h]; rfl
theorem zvf_ (L : List It) : z26_ L [] = List.replicate L.length false := by
  refine List.ext_getElem? fun i => ?_
  by_cases h : i < L.length
  · rw [zav_ h, List.getElem?_replicate, if_pos h]; rfl
  · rw [List.getElem?_eq_none (by rw [z83_]; omega), List.getElem?_eq_none (by simp; omega)]
theorem zvg_ {L : List It} {out : List Nat} {r : Nat} (h : r < L.length) : (z26_ L out).set r true = z26_ L (out ++ [r]) := by
  refine List.ext_getElem? fun i => ?_
  by_cases hi : i < L.length
  · rw [zav_ hi, List.getElem?_set]
    by_cases e : r = i
    · subst e; rw [if_pos rfl, if_pos (by rw [z83_]; exact h)]; simp
    · rw [if_neg e, zav_ hi]
      congr 1
      rw [Bool.eq_iff_iff]
      simp [Ne.symm e]
  · rw [List.getElem?_eq_none (by rw [List.length_set, z83_]; omega), List.getElem?_eq_none (by rw [z83_]; omega)]
theorem zvh_ {k : Nat} (hk : KK ≤ k) {L : List It} (hL : L.length ≤ 1048576) (f : FormP L) {i : Nat} (hi : i < L.length) (next : Int) (out : List Int) (ds : List Nat) (b : Bool) {E : List It → Int → Int → Bool → List Int → List Bool → Option (List Int)} :
    z7j_ k k L next (i : Int) b 0 out (z26_ L ds) E = E L next (i : Int) (b && (L[i]).2.1.all (fun n => ds.contains (atI L n))) out (z26_ L ds) := by
  have hK := zh_
  have hm := List.getElem_mem hi
  have hnl : (L[i]).2.1.length ≤ 1048576 := by
    have := (zkm_ (f.needs _ hm)).length_le_of_subset (f.known _ hm)
    rw [show (nmsI L).length = L.length from List.length_map ..] at this
    omega
  have hg : L[i]? = some L[i] := List.getElem?_eq_getElem hi
  refine z1n_ (α := List UInt8) (A := Bool) (L := fun n j b => z7j_ k n L next (i : Int) b j out (z26_ L ds) E) (I := fun _ _ => True) (G := fun post b => E L next (i : Int) (b && post.all (fun n => ds.contains (atI L n))) out (z26_ L ds)) (L[i]).2.1 ?_ ?_ k (by omega) b trivial
  · intro n pre x post b hx _ ih hgx hlt
    have hw := zg_ (i := pre.length) (by omega)
    have hxn : x ∈ nmsI L := f.known _ hm x (by rw [hx]; simp)
    simp only [z7j_, Int.natCast_nonneg, if_true, Int.toNat_natCast, hg, Option.bind_some, hlt, decide_true, hgx, zp3_ hk hL, zp4_ hxn, hw]
    cases b
    · simp
    · have ha := zhb_ hxn
      have hdl : ((atI L x : Nat) : Int) = atI L x ∧ atI L x < (z26_ L ds).length := ⟨rfl, by rw [z83_]; exact ha⟩
      simp only [if_true, hdl.2, zav_ ha, Option.bind_some, and_self]
      rw [ih _ trivial]; simp
  · intro n b _
    simp only [z7j_, Int.natCast_nonneg, if_true, Int.toNat_natCast, hg, Option.bind_some, Int.lt_irrefl, decide_false, Bool.false_eq_true, if_false]
    simp
theorem zvi_ {k : Nat} (hk : KK ≤ k) {L : List It} (hL : L.length ≤ 1048576) (f : FormP L) (out : List Int) (ds : List Nat) {E : List It → Int → List Int → List Bool → Option (List Int)} :
    z6d_ k k L (-1) 0 out (z26_ L ds) E = E L (z33_ (z2t_ L ds) L 0) out (z26_ L ds) := by
  have hK := zh_
  have := z1n_ (α := It) (A := Int) (L := fun n j b => z6d_ k n L b j out (z26_ L ds) E) (I := fun _ b => b = -1 ∨ 0 ≤ b) (G := fun post b => E L (if b < 0 then z33_ (z2t_ L ds) post (L.length - post.length) else b) out (z26_ L ds)) L ?_ ?_ k (by omega) (-1) (.inl rfl)
  · refine this.trans ?_
    rw [if_pos (by omega), Nat.sub_self]
  · intro n pre x post b hx hI ih hg hlt
    have hlt' : pre.length < L.length := by omega
    have hw := zg_ (i := pre.length) (by omega)
    have hxe : L[pre.length] = x := (List.getElem?_eq_some_iff.1 hg).2
    have hi : ∀ (E : List It → Int → Int → Bool → List Int → List Bool → Option (List Int)) c, _ := fun E c => zvh_ hk hL f hlt' b out ds c (E := E)
    have e0 : L.length - (x :: post).length = pre.length := by rw [hx]; simp
    have e1 : L.length - post.length = pre.length + 1 := by rw [hx]; simp; omega
    simp only [z6d_, hlt, decide_true, if_true]
    by_cases hb : b < 0
    · have hdl : pre.length < (z26_ L ds).length := by rw [z83_]; exact hlt'
      simp only [hb, decide_true, if_true, Int.natCast_nonneg, Int.toNat_natCast, hdl, and_self, zav_ hlt', Option.bind_some, hi, hxe, hw]
      rw [e0]
      unfold z33_
      by_cases hr : z2t_ L ds pre.length x = true
      · have hr' := hr
        unfold z2t_ at hr'
        rw [if_pos hr, hr', if_pos rfl]
        refine (ih _ (.inr (by omega))).trans ?_
        rw [if_neg (by omega)]
      · have hr' := hr
        unfold z2t_ at hr'
        rw [if_neg hr, if_neg hr']
        refine (ih _ hI).trans ?_
        rw [if_pos hb, e1]
    · simp only [hb, decide_false, Bool.false_eq_true, if_false]
  · intro n b hI
    simp only [z6d_, Int.lt_irrefl, decide_false, Bool.false_eq_true, if_false]
    rcases hI with rfl | hb
    · rfl
    · rw [if_neg (by omega)]
theorem zp9_ {k : Nat} (hk : KK ≤ k) {L : List It} (f : FormP L) : ∀ (d n : Nat) (ds : List Nat), zcv_ L ds → ds.length + d = L.length → d < n → za0_ k n L (ds.map fun i : Nat => (i : Int)) (z26_ L ds) (fun q => some q) = some ((ordI L d ds).map fun i : Nat => (i : Int))
  | d, 0, ds, _, _, h => by omega
  | 0, n + 1, ds, hg, hd, _ => by
    have : ¬ ((ds.map fun i : Nat => (i : Int)).length : Int) < (L.length : Int) := by rw [List.length_map]; omega
    simp only [za0_, this, decide_false, Bool.false_eq_true, if_false, ordI]
  | d + 1, n + 1, ds, hg, hd, hn => by
    have hL := f.len
    have hLI := z1i_
    have : ((ds.map fun i : Nat => (i : Int)).length : Int) < (L.length : Int) := by rw [List.length_map]; omega
    have h1 : ∀ E : List It → Int → List Int → List Bool → Option (List Int), _ := fun E => zvi_ hk (show L.length ≤ 1048576 by omega) f (ds.map fun i : Nat => (i : Int)) ds (E := E)
    simp only [za0_, this, decide_true, if_true, h1, ordI]
    rcases zp8_ hg with h | ⟨r, h, hr, hn', hg'⟩
    · rw [decide_eq_true h, if_pos rfl, if_pos h]
    · have hdl : r < (z26_ L ds).length := by rw [z83_]; exact hr
      rw [h, decide_eq_false (show ¬ ((r : Int) < 0) by omega), if_neg (show ¬ (false = true) by simp), if_neg (show ¬ ((r : Int) < 0) by omega)]
      simp only [Int.natCast_nonneg, Int.toNat_natCast, hdl, and_self, if_true, zav_ hr, Option.bind_some]
      rw [if_pos (by simp only [List.length_map, List.length_singleton]; omega), zvg_ hr]
      have := zp9_ hk f d n (ds ++ [r]) hg' (by simp only [List.length_append, List.length_singleton]; omega) (by omega)
      rw [List.map_append] at this
      exact this
theorem zvj_ {k : Nat} (hk : KK ≤ k) {L : List It} (f : FormP L) : zg0_ k L = some ((zcu_ L).map fun i : Nat => (i : Int)) := by
  have hK := zh_
  have hLI := z1i_
  have hL := f.len
  unfold zg0_ zcu_
  rw [if_pos ⟨by omega, Int.le_refl _, by omega⟩, ← zvf_]
  exact zp9_ hk f L.length k [] ⟨List.nodup_nil, by simp⟩ (by simp) (by omega)
def z84_ (L : List It) : Bool := z82_ L && decide ((zcu_ L).length = L.length)
theorem zvk_ {k : Nat} (hk : KK ≤ k) {L : List It} (hL : L.length ≤ 1048576) (hx : ∀ x ∈ L, zcs_ x) : zg1_ k L = some (z84_ L) := by
  unfold zg1_ z84_
  rw [zvd_ hk hL hx]
  cases h : z82_ L
  · simp
  · have f := zko_.1 h
    simp only [Option.bind_some, if_true, zvj_ hk f, List.length_map, Bool.true_and]
    congr 1
    exact decide_eq_decide.2 (by omega)
theorem zkp_ {L : List It} (f : FormP L) {ds : List Nat} (hg : ∀ i ∈ ds, i < L.length) {n : List UInt8} (hn : n ∈ nmsI L) : (ds.map (nmI L)).contains n = ds.contains (atI L n) := by
  rw [Bool.eq_iff_iff, List.contains_iff_mem, List.contains_iff_mem, List.mem_map]
  constructor
  · rintro ⟨i, hi, rfl⟩
    rw [zp6_ f.strict (hg i hi)]; exact hi
  · intro h
    exact ⟨_, h, zp5_ hn⟩
theorem zvl_ {k : Nat} (hk : KK ≤ k) {s q : List (List UInt8)} (hs : s.length ≤ 1000000000000) (hq : q.length ≤ 1000000000000) : zgs_ k s q = some (s.any fun n => !q.contains n) := by
  have hK := zh_
  unfold zgs_ zk3_
  rw [z3q_ (L := fun n i => zan_ k n s q (s.length : Int) i (some (-1))) (p := fun n => !q.contains n) s ?_ ?_ (n := k) (by omega)]
  · simp only [Option.bind_some, z4d_]
  · intro n i x hi hlt
    have hw := zg_ (i := i) (by omega)
    simp only [zan_, zk2_, hlt, decide_true, if_true, Int.natCast_nonneg, Int.toNat_natCast, hi, Option.bind_some, hw, zkn_ hk hq]
  · intro n
    simp [zan_]
theorem zvm_ {k : Nat} (hk : KK ≤ k) {s q : List (List UInt8)} (hs : s.length ≤ 1000000000000) (hq : q.length ≤ 1000000000000) : zgr_ k s q = some (s.any fun n => !q.contains n) := by
  have hK := zh_
  unfold zgr_ zk1_
  rw [z3q_ (L := fun n i => zam_ k n s q (s.length : Int) i (some (-1))) (p := fun n => !q.contains n) s ?_ ?_ (n := k) (by omega)]
  · simp only [Option.bind_some, z4d_]
  · intro n i x hi hlt
    have hw := zg_ (i := i) (by omega)
    simp only [zam_, zk0_, hlt, decide_true, if_true, Int.natCast_nonneg, Int.toNat_natCast, hi, Option.bind_some, hw, zkn_ hk hq]
  · intro n
    simp [zam_]
theorem zvn_ {k : Nat} (hk : KK ≤ k) {L : List It} (f : FormP L) {ds : List Nat} (hg : zcv_ L ds) (hdl : ds.length ≤ L.length) : zgu_ k L (ds.map (nmI L)) = some (z33_ (z2t_ L ds) L 0) := by
  have hK := zh_
  have hL := f.len
  unfold zgu_
  have := z1n_ (α := It) (A := Unit) (L := fun n i _ => zao_ k n L (ds.map (nmI L)) (L.length : Int) i (some (-1))) (I := fun _ _ => True) (G := fun post _ => some (z33_ (z2t_ L ds) post (L.length - post.length))) L ?_ ?_ k (by omega) () trivial
  · refine this.trans ?_
    rw [Nat.sub_self]
  · intro n pre x post _ hx _ ih hgx hlt
    have hlt' : pre.length < L.length := by omega
    have hw := zg_ (i := pre.length) (by omega)
    have hxm : x ∈ L := by rw [hx]; simp
    have e0 : L.length - (x :: post).length = pre.length := by rw [hx]; simp
    have e1 : L.length - post.length = pre.length + 1 := by rw [hx]; simp; omega
    have hnl : x.2.1.length ≤ L.length := by
      have := (zkm_ (f.needs _ hxm)).length_le_of_subset (f.known _ hxm)
      rwa [show (nmsI L).length = L.length from List.length_map ..] at this
    have hql : (ds.map (nmI L)).length ≤ 1000000000000 := by rw [List.length_map]; omega
    have hxn : x.1 ∈ nmsI L := List.mem_map.2 ⟨x, hxm, rfl⟩
    have hax : atI L x.1 = pre.length := by
      have := zp6_ f.strict hlt'
      rwa [zct_ hlt', (List.getElem?_eq_some_iff.1 hgx).2] at this
    have hr : zgt_ k x (ds.map (nmI L)) = some (z2t_ L ds pre.length x) := by
      unfold zgt_ z2t_
      rw [zkn_ hk hql, zkp_ f hg.2 hxn, hax, zvl_ hk (by omega) hql]
      have e : (x.2.1.any fun n => !(ds.map (nmI L)).contains n) = !x.2.1.all fun n => ds.contains (atI L n) := by
        rw [List.not_all_eq_any_not, Bool.eq_iff_iff, List.any_eq_true, List.any_eq_true]
        exact ⟨fun ⟨n, hn, h⟩ => ⟨n, hn, by rwa [zkp_ f hg.2 (f.known _ hxm n hn)] at h⟩, fun ⟨n, hn, h⟩ => ⟨n, hn, by rwa [zkp_ f hg.2 (f.known _ hxm n hn)]⟩⟩
      rw [e]
      cases ds.contains pre.length <;> simp
    simp only [zao_, hlt, decide_true, if_true, Int.natCast_nonneg, Int.toNat_natCast, hgx, Option.bind_some, hw, hr]
    rw [e0]
    unfold z33_
    by_cases h : z2t_ L ds pre.length x = true
    · rw [if_pos h, if_pos h]
    · rw [if_neg h, if_neg h, ih () trivial, e1]
  · intro n _ _
    simp only [zao_, Int.lt_irrefl, decide_false, Bool.false_eq_true, if_false, z33_]
theorem zpa_ {k : Nat} (hk : KK ≤ k) {L : List It} (f : FormP L) : ∀ (d n c : Nat) (ds : List Nat), zcv_ L ds → ds.length + d = L.length → c + d = L.length → d < n → zap_ k n L (L.length : Int) (c : Int) (ds.map (nmI L)) (fun q => some q) = some ((ordI L d ds).map (nmI L))
  | d, 0, c, ds, _, _, _, h => by omega
  | 0, n + 1, c, ds, hg, hd, hc, _ => by
    have : ¬ (c : Int) < (L.length : Int) := by omega
    simp only [zap_, this, decide_false, Bool.false_eq_true, if_false, ordI]
  | d + 1, n + 1, c, ds, hg, hd, hc, hn => by
    have hL := f.len
    have hLI := z1i_
    have : (c : Int) < (L.length : Int) := by omega
    have hw := zg_ (i := c) (by omega)
    simp only [zap_, this, decide_true, if_true, zvn_ hk f hg (show ds.length ≤ L.length by omega), Option.bind_some, ordI, hw]
    rcases zp8_ hg with h | ⟨r, h, hr, hn', hg'⟩
    · rw [decide_eq_true h, if_pos rfl, if_pos h]
    · have e : L[r]? = some L[r] := List.getElem?_eq_getElem hr
      rw [h, decide_eq_false (show ¬ ((r : Int) < 0) by omega), if_neg (show ¬ (false = true) by simp), if_neg (show ¬ ((r : Int) < 0) by omega)]
      simp only [Int.natCast_nonneg, Int.toNat_natCast, if_true, e, Option.bind_some]
      rw [if_pos (by simp only [List.length_map, List.length_singleton]; omega)]
      have := zpa_ hk f d n (c + 1) (ds ++ [r]) hg' (by simp only [List.length_append, List.length_singleton]; omega) (by omega) (by omega)
      rw [List.map_append] at this
      simp only [List.map_cons, List.map_nil, zct_ hr] at this
      exact this
theorem zvo_ {k : Nat} (hk : KK ≤ k) {L : List It} (f : FormP L) : zaq_ k L = some ((zcu_ L).map (nmI L)) := by
  have hK := zh_
  have hL := f.len
  unfold zaq_ zcu_
  exact zpa_ hk f L.length k 0 [] ⟨List.nodup_nil, by simp⟩ (by simp) (by omega) (by omega)
def zcw_ (L : List It) (x : It) : Bool := z81_ x.2.1 16 && (decide (0 ≤ x.2.2.1 ∧ x.2.2.1 ≤ 1000000) && (decide (0 ≤ x.2.2.2 ∧ x.2.2.2 ≤ 1000) && !x.2.1.any fun n => !(nmsI L).contains n))
theorem zpb_ (L : List It) : (z81_ (nmsI L) 16 && L.all (zcw_ L)) = z82_ L := by
  rw [Bool.eq_iff_iff, zko_, Bool.and_eq_true, zp0_, List.all_eq_true]
  have nl : (nmsI L).length = L.length := List.length_map ..
  have hany : ∀ x : It, (!x.2.1.any fun n => !(nmsI L).contains n) = true ↔ ∀ n ∈ x.2.1, n ∈ nmsI L := by
    intro x
    simp
  unfold zcw_
  simp only [Bool.and_eq_true, zp0_, decide_eq_true_eq, hany]
  constructor
  · rintro ⟨⟨h1, h2, h3⟩, h⟩
    exact ⟨h1, h2, fun x hx => (h x hx).2.1, fun x hx => (h x hx).2.2.1, fun x hx => (h x hx).2.2.2, fun x hx => (h x hx).1.2.1, by omega⟩
  · intro f
    have hl := f.len
    refine ⟨⟨f.names, f.strict, by omega⟩, fun x hx => ⟨⟨fun y hy => f.names y (f.known x hx y hy), f.needs x hx, ?_⟩, f.made x hx, f.cost x hx, f.known x hx⟩⟩
    have := (zkm_ (f.needs x hx)).length_le_of_subset (f.known x hx)
    omega
theorem zvp_ (b1 b2 b3 b4 : Bool) (A B : Option Bool) : (if (!b1) = true then B else if (!b2) = true then B else if (!b3) = true then B else if b4 = true then B else A) = if (b1 && (b2 && (b3 && !b4))) = true then A else B := by
  cases b1 <;> cases b2 <;> cases b3 <;> cases b4 <;> simp
theorem zvq_ {k : Nat} (hk : KK ≤ k) {L : List It} (hL : L.length ≤ 1048576) (hx : ∀ x ∈ L, zcs_ x) : zgv_ k L = some (z84_ L) := by
  have hK := zh_
  have hLI := z1i_
  have nl : (nmsI L).length = L.length := List.length_map ..
  have hn : ∀ y ∈ nmsI L, y.length ≤ 1048576 := fun y hy => by obtain ⟨x, hx', rfl⟩ := List.mem_map.1 hy; exact (hx x hx').1
  unfold zgv_ z84_
  have h0 : ∀ E : List It → List (List UInt8) → Option Bool, z7w_ k k L L (L.length : Int) 0 [] E = E L (nmsI L) := by
    intro E
    refine z1n_ (L := fun n i q => z7w_ k n L L (L.length : Int) i q E) (I := fun pre q => q = nmsI pre) (G := fun _ _ => E L (nmsI L)) L ?_ ?_ k (by omega) [] rfl
    · intro n pre x post q hxp hq ih hg hlt
      subst hq
      have hw := zg_ (i := pre.length) (by omega)
      have hpl : (nmsI pre).length = pre.length := List.length_map ..
      simp only [z7w_, hlt, decide_true, if_true, Int.natCast_nonneg, Int.toNat_natCast, hg, Option.bind_some, hw]
      rw [if_pos (by simp only [List.length_singleton]; omega)]
      exact ih _ (by simp [nmsI])
    · intro n q hq
      subst hq
      simp only [z7w_, Int.lt_irrefl, decide_false, Bool.false_eq_true, if_false]
  rw [h0, zp1_ hk (by omega) hn, ← zpb_]
  cases hb : z81_ (nmsI L) 16
  · simp
  · simp only [Option.bind_some, Bool.not_true, Bool.false_eq_true, if_false, Bool.true_and]
    have := z4p_ (L := fun n i => zar_ k n L L (L.length : Int) i (nmsI L) (fun list_12 => (zaq_ k list_12).bind fun r_13 => some (decide ((List.length r_13 : Int) = (List.length list_12 : Int))))) (p := zcw_ L) (r := some false) (e := (zaq_ k L).bind fun r_13 => some (decide ((List.length r_13 : Int) = (List.length L : Int)))) L ?_ ?_ (n := k) (by omega)
    · refine this.trans ?_
      cases ha : L.all (zcw_ L)
      · simp
      · have f : FormP L := by rw [← zko_, ← zpb_, hb, ha]; rfl
        rw [if_pos rfl, zvo_ hk f]
        simp only [Option.bind_some, List.length_map, Bool.true_and]
        congr 1
        exact decide_eq_decide.2 (by omega)
    · intro n i x hg hlt
      have hw := zg_ (i := i) (by omega)
      have hxs := hx x (List.mem_of_getElem? hg)
      have hx2 := hxs.2.1
      simp only [zar_, hlt, decide_true, if_true, Int.natCast_nonneg, Int.toNat_natCast, hg, Option.bind_some, hw, zp1_ hk hxs.2.1 hxs.2.2, z4u_, zvm_ hk (show x.2.1.length ≤ 1000000000000 by omega) (show (nmsI L).length ≤ 1000000000000 by omega), zcw_]
      exact zvp_ _ _ _ _ _ _
    · intro n
      simp only [zar_, Int.lt_irrefl, decide_false, Bool.false_eq_true, if_false]
def colB (v : List Int) (n p : Int) : Bool := v.all (fun x => decide (0 ≤ x ∧ x ≤ p - 1)) && decide ((v.length : Int) = n)
theorem zvr_ {k : Nat} (hk : KK ≤ k) {v : List Int} (hv : v.length ≤ 1048576) (n : Int) {p : Int} (hp : -1000000 ≤ p ∧ p ≤ 1000000) : zgw_ k v n p = some (colB v n p) := by
  unfold zgw_ z3s_ colB
  simp only [Option.bind_some, zh0_ hk hv hp]
  by_cases c : (v.length : Int) = n
  · rw [decide_eq_true c, if_pos rfl, Bool.and_true]
  · rw [decide_eq_false c, if_neg (by simp), Bool.and_false]
theorem zpc_ {k : Nat} (hk : KK ≤ k) {s : She} (h : sheB k s = true) : CxP s.1 ∧ (2 ≤ s.2.1 ∧ s.2.1 ≤ 251) ∧ StP s.1 s.2.2.1 := by
  unfold sheB at h
  simp only [Bool.and_eq_true] at h
  exact ⟨z4w_.1 h.1, (zkj_ hk s.2.1).2.2 h.2.1, zkg_ h.2.2.1⟩
abbrev DskT := She × List Int × Gr × List Int × Mat × List Tbl × Fil × List It
theorem zvs_ {k : Nat} (hk : KK ≤ k) {v : List Int} (hv : v.length ≤ 1048576) {n : Int} (hn : n ≤ 64) {p : Int} (hp : -1000000 ≤ p ∧ p ≤ 1000000) : zg2_ k p n v = some (colB v n p) := by
  have hK := zh_
  have hw1 : z0_ (p - 1) = p - 1 := w_id (by omega) (by omega)
  unfold zg2_ zjb_ colB
  have := z4p_ (L := fun m i => z7k_ k m v p i (fun v_3 => some (decide ((List.length v_3 : Int) ≤ 64)))) (p := fun x => decide (0 ≤ x ∧ x ≤ p - 1)) (r := some false) (e := some (decide ((v.length : Int) ≤ 64))) v ?_ ?_ (n := k) (by omega)
  · have h0 : z7k_ k k v p 0 (fun v_3 => some (decide ((List.length v_3 : Int) ≤ 64))) = _ := this
    rw [h0]
    cases v.all (fun x => decide (0 ≤ x ∧ x ≤ p - 1)) with
    | false => simp
    | true =>
      simp only [if_true, Option.bind_some, Bool.true_and]
      by_cases c : (v.length : Int) = n
      · rw [decide_eq_true (show (v.length : Int) ≤ 64 by omega), if_pos rfl]
      · rw [decide_eq_false c]
        split <;> rfl
  · intro m i x hx hlt
    have hw := zg_ (i := i) (by omega)
    simp only [z7k_, hlt, decide_true, if_true, Int.natCast_nonneg, Int.toNat_natCast, hx, Option.bind_some, z4c_, hw1, hw]
    by_cases c : 0 ≤ x ∧ x ≤ p - 1 <;> simp [c]
  · intro m
    simp only [z7k_, Int.lt_irrefl, decide_false, Bool.false_eq_true, if_false]
def gvB (g : Gr) (x : List Int) : Bool := x.all (fun n => decide (-1000000 ≤ n ∧ n ≤ 1000000)) && decide ((x.length : Int) = g.1)
theorem zvt_ {k : Nat} (hk : KK ≤ k) (g : Gr) {x : List Int} (hx : x.length ≤ 1048576) : zg3_ k g x = some (gvB g x) := by
  have hK := zh_
  unfold zg3_ gvB
  have := z4p_ (L := fun m i => za1_ k m g x i (fun g_3 x_4 => some (decide ((List.length x_4 : Int) = g_3.1)))) (p := fun n => decide (-1000000 ≤ n ∧ n ≤ 1000000)) (r := some false) (e := some (decide ((x.length : Int) = g.1))) x ?_ ?_ (n := k) (by omega)
  · refine this.trans ?_
    cases x.all (fun n => decide (-1000000 ≤ n ∧ n ≤ 1000000)) <;> simp
  · intro m i y hy hlt
    have hw := zg_ (i := i) (by omega)
    simp only [za1_, hlt, decide_true, if_true, Int.natCast_nonneg, Int.toNat_natCast, hy, Option.bind_some, z4c_, hw]
    cases decide (-1000000 ≤ y ∧ y ≤ 1000000) <;> simp
  · intro m
    simp only [za1_, Int.lt_irrefl, decide_false, Bool.false_eq_true, if_false]
theorem zvu_ {k : Nat} (hk : KK ≤ k) (g : Gr) {x : List Int} (hx : x.length ≤ 1048576) : zgx_ k g x = some (gvB g x) := by
  have hK := zh_
  unfold zgx_ z3s_ gvB zk6_ zk5_
  rw [z3q_ (L := fun n i => zas_ k n x () (x.length : Int) i (some (-1))) (p := fun n => !decide (-1000000 ≤ n ∧ n ≤ 1000000)) x ?_ ?_ (n := k) (by omega)]
  · have e : (x.any fun n => !decide (-1000000 ≤ n ∧ n ≤ 1000000)) = !x.all (fun n => decide (-1000000 ≤ n ∧ n ≤ 1000000)) := by rw [List.not_all_eq_any_not]
    simp only [Option.bind_some, z4d_, e]
    by_cases c : (x.length : Int) = g.1
    · rw [decide_eq_true c, if_pos rfl, Bool.and_true, Bool.not_not]
    · rw [decide_eq_false c, if_neg (by simp), Bool.and_false]
  · intro n i y hi hlt
    have hw := zg_ (i := i) (by omega)
    simp only [zas_, zk4_, z4u_, hlt, decide_true, if_true, Int.natCast_nonneg, Int.toNat_natCast, hi, Option.bind_some, hw]
  · intro n
    simp only [zas_, Int.lt_irrefl, decide_false, Bool.false_eq_true, if_false]
structure smallD (d : DskT) : Prop where
  sh : smallSh d.1
  rd : d.2.1.length ≤ 1048576
  gr : d.2.2.1.2.length ≤ 1048576
  op : d.2.2.2.1.length ≤ 1048576
  mat : d.2.2.2.2.1.2.2.2.length ≤ 1048576
  tabs : d.2.2.2.2.2.1.length ≤ 1048576
  tab : ∀ t ∈ d.2.2.2.2.2.1, smallT t
  fb : z25_ d.2.2.2.2.2.2.1.1
  ft : d.2.2.2.2.2.2.1.2.length ≤ 1048576
  its : d.2.2.2.2.2.2.2.length ≤ 1048576
  it : ∀ x ∈ d.2.2.2.2.2.2.2, zcs_ x
noncomputable def z85_ (k : Nat) (d : DskT) : Bool := sheB k d.1 && (z6m_ d.2.2.1 && (matB k d.2.2.2.2.1 && (z7y_ d.2.2.2.2.2.1 && (filB d.2.2.2.2.2.2.1 && (z84_ d.2.2.2.2.2.2.2 && (colB d.2.1 (z15_ d.1.2.2.1 (ofC d.1.1 0)) d.1.2.1 && gvB d.2.2.1 d.2.2.2.1))))))
theorem zvv_ {k : Nat} {s : She} (h : sheB k s = true) : z15_ s.2.2.1 (ofC s.1 0) ≤ 32 := by
  unfold sheB at h
  simp only [Bool.and_eq_true] at h
  have := h.2.2.1
  unfold stB at this
  simp only [Bool.and_eq_true, List.all_eq_true, List.mem_range, decide_eq_true_eq] at this
  exact this.2 0 (by omega)
theorem zvw_ {k : Nat} (hk : KK ≤ k) {d : DskT} (hs : smallD d) : zg4_ k d = some (z85_ k d) := by
  unfold zg4_ z85_ zja_
  rw [zux_ hk hs.sh, zv3_ hk hs.gr, (zh9_ hk hs.mat).1, zuf_ hk hs.tabs hs.tab, zuz_ hk hs.fb hs.ft, zvk_ hk hs.its hs.it]
  cases h1 : sheB k d.1 with
  | false => simp
  | true =>
  obtain ⟨hC, hp, hS⟩ := zpc_ hk h1
  have hsc := zh8_ hC
  have hsum := zvv_ h1
  rw [zoo_ hk hsc hS (by omega)]
  cases z6m_ d.2.2.1 with
  | false => simp
  | true =>
  cases matB k d.2.2.2.2.1 with
  | false => simp
  | true =>
  cases z7y_ d.2.2.2.2.2.1 with
  | false => simp
  | true =>
  cases filB d.2.2.2.2.2.2.1 with
  | false => simp
  | true =>
  cases z84_ d.2.2.2.2.2.2.2 with
  | false => simp
  | true =>
  simp only [Option.bind_some, Bool.not_true, Bool.false_eq_true, if_false, zvs_ hk hs.rd (show z15_ d.1.2.2.1 (ofC d.1.1 0) ≤ 64 by omega) (show -1000000 ≤ d.1.2.1 ∧ d.1.2.1 ≤ 1000000 by omega), zvt_ hk d.2.2.1 hs.op, Bool.true_and]
  cases colB d.2.1 (z15_ d.1.2.2.1 (ofC d.1.1 0)) d.1.2.1 <;> simp
theorem zvx_ {k : Nat} (hk : KK ≤ k) {d : DskT} (hs : smallD d) : zgy_ k d = some (z85_ k d) := by
  unfold zgy_ z85_
  rw [zuy_ hk hs.sh, zv4_ hk hs.gr, (zh9_ hk hs.mat).2.1, zug_ hk hs.tabs hs.tab, zv0_ hk hs.fb hs.ft, zvq_ hk hs.its hs.it]
  cases h1 : sheB k d.1 with
  | false => simp
  | true =>
  obtain ⟨hC, hp, hS⟩ := zpc_ hk h1
  have hsc := zh8_ hC
  rw [zop_ hk hsc hS (by omega)]
  cases z6m_ d.2.2.1 with
  | false => simp
  | true =>
  cases matB k d.2.2.2.2.1 with
  | false => simp
  | true =>
  cases z7y_ d.2.2.2.2.2.1 with
  | false => simp
  | true =>
  cases filB d.2.2.2.2.2.2.1 with
  | false => simp
  | true =>
  cases z84_ d.2.2.2.2.2.2.2 with
  | false => simp
  | true =>
  simp only [Option.bind_some, Bool.not_true, Bool.false_eq_true, if_false, zvr_ hk hs.rd (z15_ d.1.2.2.1 (ofC d.1.1 0)) (p := d.1.2.1) (by omega), zvu_ hk d.2.2.1 hs.op, Bool.true_and]
  cases colB d.2.1 (z15_ d.1.2.2.1 (ofC d.1.1 0)) d.1.2.1 <;> simp
def sumL {α : Type} (f : α → Nat) (l : List α) : Nat := (l.map f).sum
theorem z5k_ {α : Type} (f : α → Nat) : sumL f [] = 0 := rfl
theorem z4y_ {α : Type} (f : α → Nat) (x : α) (l : List α) : sumL f (x :: l) = f x + sumL f l := by simp [sumL]
theorem zkq_ {α : Type} (f : α → Nat) (l m : List α) : sumL f (l ++ m) = sumL f l + sumL f m := by simp [sumL]
theorem z1v_ {α : Type} (f : α → Nat) {x : α} {l : List α} (h : x ∈ l) : f x ≤ sumL f l := by
  induction l with
  | nil => cases h
  | cons y l ih =>
    rw [z4y_]
    rcases List.mem_cons.1 h with rfl | h
    · omega
    · have := ih h; omega
theorem zcx_ {α : Type} (xs : List α) {s : α → Nat} {L : Nat → Int → Int → Option Int}
    (h1 : ∀ n (i : Nat) x r, xs[i]? = some x → (i : Int) < xs.length → x ∈ xs → 0 ≤ r → r ≤ 1048576 → L (n + 1) (i : Int) r = if (s x : Int) ≤ r then L n ((i + 1 : Nat) : Int) (r - (s x : Int)) else some (-1))
    (h2 : ∀ n r, L (n + 1) (xs.length : Int) r = some r) {n : Nat} (hn : xs.length < n) {r : Int} (h0 : 0 ≤ r) (hr : r ≤ 1048576) : L n 0 r = some (if (sumL s xs : Int) ≤ r then r - (sumL s xs : Int) else -1) := by
  refine z1n_ (L := L) (I := fun _ r => 0 ≤ r ∧ r ≤ 1048576) (G := fun post r => some (if (sumL s post : Int) ≤ r then r - (sumL s post : Int) else -1)) xs ?_ ?_ n hn r ⟨h0, hr⟩
  · intro n pre x post r hx hI ih hg hlt
    rw [h1 n pre.length x r hg hlt (List.mem_of_getElem? hg) hI.1 hI.2]
    have hc : sumL s (x :: post) = s x + sumL s post := z4y_ _ _ _
    by_cases c : (s x : Int) ≤ r
    · rw [if_pos c, ih (r - (s x : Int)) ⟨by omega, by omega⟩]
      by_cases c2 : (sumL s post : Int) ≤ r - (s x : Int)
      · rw [if_pos c2, if_pos (by omega)]; congr 1; omega
      · rw [if_neg c2, if_neg (by omega)]
    · rw [if_neg c, if_neg (by omega)]
  · intro n r hI
    rw [h2, z5k_, if_pos (by simpa using hI.1)]; simp
instance dec_Int64S : DecidableEq (List Int) := inferInstance
def zk_ (a : List Int) : Nat := a.length
theorem z86_ {a : List Int} {e0 : TypeId} {left : Int} (h0 : 0 ≤ left) (h1 : left ≤ 1048576) (h : InR (.sl e0 (.int .i64)) a) : z4q_ a left = some (if (zk_ a : Int) ≤ left then left - (zk_ a : Int) else -1) := by
  have hl : a.length ≤ 140737488351232 := h.1
  have hs : zk_ a = a.length := rfl
  unfold z4q_
  rw [hs, w_id (by omega) (by omega)]
  by_cases c : (a.length : Int) ≤ left
  · rw [decide_eq_false (by omega), if_neg (by simp), if_pos c]
  · rw [decide_eq_true (by omega), if_pos rfl, if_neg c]
instance dec_Int64SS : DecidableEq (List (List Int)) := inferInstance
def z16_ (a : List (List Int)) : Nat := a.length + sumL zk_ a
theorem zpd_ {k : Nat} (hk : KK ≤ k) {a : List (List Int)} {e0 e1 : TypeId} {left : Int} (h0 : 0 ≤ left) (h1 : left ≤ 1048576) (h : InR (.sl e0 (.sl e1 (.int .i64))) a) : zbu_ k a left = some (if (z16_ a : Int) ≤ left then left - (z16_ a : Int) else -1) := by
  have hl : a.length ≤ 140737488351232 := h.1
  have hs : z16_ a = a.length + sumL zk_ a := rfl
  have hK := zh_
  unfold zbu_
  rw [hs, w_id (by omega) (by omega)]
  by_cases c : (a.length : Int) ≤ left
  · rw [decide_eq_false (by omega), if_neg (by simp)]
    refine Eq.trans (zcx_ (L := fun n i r => z8t_ k n a r i fun r => some r) (s := zk_) a ?_ ?_ (n := k) (by omega) (r := left - (a.length : Int)) (by omega) (by omega)) ?_
    · intro n i x r hi hlt hm r0 r1
      have hw := zg_ (i := i) (by omega)
      have hx := z86_ (a := x) r0 r1 (h.2 x hm)
      simp only [z8t_, hlt, decide_true, if_true, Int.natCast_nonneg, Int.toNat_natCast, hi, Option.bind_some, hw, hx]
      by_cases c2 : (zk_ x : Int) ≤ r
      · rw [if_pos c2, decide_eq_false (by omega), if_neg (by simp), if_pos c2]
      · rw [if_neg c2, decide_eq_true (by omega), if_pos rfl, if_neg c2]
    · intro n r
      simp [z8t_]
    · by_cases c2 : (sumL zk_ a : Int) ≤ left - (a.length : Int)
      · rw [if_pos c2, if_pos (by omega)]; congr 1; omega
      · rw [if_neg c2, if_neg (by omega)]
  · rw [decide_eq_true (by omega), if_pos rfl, if_neg (by omega)]
instance dec_Complex : DecidableEq (List (List Int)) := inferInstance
def z1q_ (a : List (List Int)) : Nat := (z16_ a)
theorem zpe_ {k : Nat} (hk : KK ≤ k) {a : List (List Int)} {e0 e1 : TypeId} {left : Int} (h0 : 0 ≤ left) (h1 : left ≤ 1048576) (h : InR (.st (.sl e0 (.sl e1 (.int .i64)))) a) : zbv_ k a left = some (if (z1q_ a : Int) ≤ left then left - (z1q_ a : Int) else -1) := by
  have hs : z1q_ a = (z16_ a) := rfl
  unfold zbv_
  rw [hs]
  have q0 := zpd_ hk (a := a) (left := left) (by omega) (by omega) h
  rw [q0]
  by_cases c0 : ((z16_ a) : Int) ≤ left
  case neg => rw [if_neg c0]; simp only [Option.bind_some]; rw [decide_eq_true (by omega), if_pos rfl]
  rw [if_pos c0]; simp only [Option.bind_some]
  rw [decide_eq_false (by omega), if_neg (by simp)]
instance dec_Matrix_2 : DecidableEq (Int × List Int) := inferInstance
instance dec_Matrix_1 : DecidableEq (Int × Int × List Int) := inferInstance
instance dec_Matrix : DecidableEq (Int × Int × Int × List Int) := inferInstance
def zw_ (a : Int × Int × Int × List Int) : Nat := (zk_ (a.2.2.2))
theorem zpf_ {a : Int × Int × Int × List Int} {e0 : TypeId} {left : Int} (h0 : 0 ≤ left) (h1 : left ≤ 1048576) (h : InR (.st (.pr (.int .i64) (.pr (.int .i64) (.pr (.int .i64) (.sl e0 (.int .i64)))))) a) : zbw_ a left = some (if (zw_ a : Int) ≤ left then left - (zw_ a : Int) else -1) := by
  have hs : zw_ a = (zk_ (a.2.2.2)) := rfl
  unfold zbw_
  rw [hs]
  have q0 := z86_ (a := a.2.2.2) (left := left) (by omega) (by omega) h.2.2.2
  rw [q0]
  by_cases c0 : ((zk_ (a.2.2.2)) : Int) ≤ left
  case neg => rw [if_neg c0]; simp only [Option.bind_some]; rw [decide_eq_true (by omega), if_pos rfl]
  rw [if_pos c0]; simp only [Option.bind_some]
  rw [decide_eq_false (by omega), if_neg (by simp)]
instance dec_MatrixS : DecidableEq (List (Int × Int × Int × List Int)) := inferInstance
def z27_ (a : List (Int × Int × Int × List Int)) : Nat := a.length + sumL zw_ a
theorem zvy_ {k : Nat} (hk : KK ≤ k) {a : List (Int × Int × Int × List Int)} {e0 e1 : TypeId} {left : Int} (h0 : 0 ≤ left) (h1 : left ≤ 1048576) (h : InR (.sl e0 (.st (.pr (.int .i64) (.pr (.int .i64) (.pr (.int .i64) (.sl e1 (.int .i64))))))) a) : zec_ k a left = some (if (z27_ a : Int) ≤ left then left - (z27_ a : Int) else -1) := by
  have hl : a.length ≤ 140737488351232 := h.1
  have hs : z27_ a = a.length + sumL zw_ a := rfl
  have hK := zh_
  unfold zec_
  rw [hs, w_id (by omega) (by omega)]
  by_cases c : (a.length : Int) ≤ left
  · rw [decide_eq_false (by omega), if_neg (by simp)]
    refine Eq.trans (zcx_ (L := fun n i r => z8u_ k n a r i fun r => some r) (s := zw_) a ?_ ?_ (n := k) (by omega) (r := left - (a.length : Int)) (by omega) (by omega)) ?_
    · intro n i x r hi hlt hm r0 r1
      have hw := zg_ (i := i) (by omega)
      have hx := zpf_ (a := x) r0 r1 (h.2 x hm)
      simp only [z8u_, hlt, decide_true, if_true, Int.natCast_nonneg, Int.toNat_natCast, hi, Option.bind_some, hw, hx]
      by_cases c2 : (zw_ x : Int) ≤ r
      · rw [if_pos c2, decide_eq_false (by omega), if_neg (by simp), if_pos c2]
      · rw [if_neg c2, decide_eq_true (by omega), if_pos rfl, if_neg c2]
    · intro n r
      simp [z8u_]
    · by_cases c2 : (sumL zw_ a : Int) ≤ left - (a.length : Int)
      · rw [if_pos c2, if_pos (by omega)]; congr 1; omega
      · rw [if_neg c2, if_neg (by omega)]
  · rw [decide_eq_true (by omega), if_pos rfl, if_neg (by omega)]
instance dec_Sheaf_2 : DecidableEq (List Int × (List (Int × Int × Int × List Int))) := inferInstance
instance dec_Sheaf_1 : DecidableEq (Int × List Int × (List (Int × Int × Int × List Int))) := inferInstance
instance dec_Sheaf : DecidableEq (List (List Int) × Int × List Int × (List (Int × Int × Int × List Int))) := inferInstance
def z10_ (a : List (List Int) × Int × List Int × (List (Int × Int × Int × List Int))) : Nat := (z1q_ (a.1)) + (zk_ (a.2.2.1)) + (z27_ (a.2.2.2))
theorem zvz_ {k : Nat} (hk : KK ≤ k) {a : List (List Int) × Int × List Int × (List (Int × Int × Int × List Int))} {e0 e1 e2 e3 e4 : TypeId} {left : Int} (h0 : 0 ≤ left) (h1 : left ≤ 1048576) (h : InR (.st (.pr (.st (.sl e0 (.sl e1 (.int .i64)))) (.pr (.int .i64) (.pr (.sl e2 (.int .i64)) (.sl e3 (.st (.pr (.int .i64) (.pr (.int .i64) (.pr (.int .i64) (.sl e4 (.int .i64))))))))))) a) : zed_ k a left = some (if (z10_ a : Int) ≤ left then left - (z10_ a : Int) else -1) := by
  have hs : z10_ a = (z1q_ (a.1)) + (zk_ (a.2.2.1)) + (z27_ (a.2.2.2)) := rfl
  unfold zed_
  rw [hs]
  have q0 := zpe_ hk (a := a.1) (left := left) (by omega) (by omega) h.1
  rw [q0]
  by_cases c0 : ((z1q_ (a.1)) : Int) ≤ left
  case neg => rw [if_neg c0]; simp only [Option.bind_some]; rw [decide_eq_true (by omega), if_pos rfl, if_neg (by omega)]
  rw [if_pos c0]; simp only [Option.bind_some]
  rw [decide_eq_false (by omega), if_neg (by simp)]
  have q1 := z86_ (a := a.2.2.1) (left := left - ((z1q_ (a.1)) : Int)) (by omega) (by omega) h.2.2.1
  rw [q1]
  by_cases c1 : ((zk_ (a.2.2.1)) : Int) ≤ left - ((z1q_ (a.1)) : Int)
  case neg => rw [if_neg c1]; simp only [Option.bind_some]; rw [decide_eq_true (by omega), if_pos rfl, if_neg (by omega)]
  rw [if_pos c1]; simp only [Option.bind_some]
  rw [decide_eq_false (by omega), if_neg (by simp)]
  have q2 := zvy_ hk (a := a.2.2.2) (left := left - ((z1q_ (a.1)) : Int) - ((zk_ (a.2.2.1)) : Int)) (by omega) (by omega) h.2.2.2
  rw [q2]
  by_cases c2 : ((z27_ (a.2.2.2)) : Int) ≤ left - ((z1q_ (a.1)) : Int) - ((zk_ (a.2.2.1)) : Int)
  case neg => rw [if_neg c2]; simp only [Option.bind_some]; rw [decide_eq_true (by omega), if_pos rfl, if_neg (by omega)]
  rw [if_pos c2]; simp only [Option.bind_some]
  rw [decide_eq_false (by omega), if_neg (by simp)]
  rw [if_pos (by omega)]; congr 1; omega
theorem zw0_ {s : She} (h : z10_ s ≤ 1048576) : smallSh s := by
  have e : z10_ s = s.1.length + sumL List.length s.1 + s.2.2.1.length + (s.2.2.2.length + sumL zw_ s.2.2.2) := rfl
  refine ⟨⟨by omega, fun x hx => by have := z1v_ List.length hx; omega⟩, by omega, by omega, fun m hm => ?_⟩
  have h1 := z1v_ zw_ hm
  have h2 : zw_ m = m.2.2.2.length := rfl
  omega
instance dec_EdgeS : DecidableEq (List (Int × Int × Int)) := inferInstance
def z3c_ (a : List (Int × Int × Int)) : Nat := a.length
theorem zw1_ {a : List (Int × Int × Int)} {e0 : TypeId} {left : Int} (h0 : 0 ≤ left) (h1 : left ≤ 1048576) (h : InR (.sl e0 (.st (.pr (.int .i64) (.pr (.int .i64) (.int .i64))))) a) : zee_ a left = some (if (z3c_ a : Int) ≤ left then left - (z3c_ a : Int) else -1) := by
  have hl : a.length ≤ 140737488351232 := h.1
  have hs : z3c_ a = a.length := rfl
  unfold zee_
  rw [hs, w_id (by omega) (by omega)]
  by_cases c : (a.length : Int) ≤ left
  · rw [decide_eq_false (by omega), if_neg (by simp), if_pos c]
  · rw [decide_eq_true (by omega), if_pos rfl, if_neg c]
instance dec_Graph : DecidableEq (Int × (List (Int × Int × Int))) := inferInstance
def z1w_ (a : Int × (List (Int × Int × Int))) : Nat := (z3c_ (a.2))
theorem zw2_ {a : Int × (List (Int × Int × Int))} {e0 : TypeId} {left : Int} (h0 : 0 ≤ left) (h1 : left ≤ 1048576) (h : InR (.st (.pr (.int .i64) (.sl e0 (.st (.pr (.int .i64) (.pr (.int .i64) (.int .i64))))))) a) : zef_ a left = some (if (z1w_ a : Int) ≤ left then left - (z1w_ a : Int) else -1) := by
  have hs : z1w_ a = (z3c_ (a.2)) := rfl
  unfold zef_
  rw [hs]
  have q0 := zw1_ (a := a.2) (left := left) (by omega) (by omega) h.2
  rw [q0]
  by_cases c0 : ((z3c_ (a.2)) : Int) ≤ left
  case neg => rw [if_neg c0]; simp only [Option.bind_some]; rw [decide_eq_true (by omega), if_pos rfl]
  rw [if_pos c0]; simp only [Option.bind_some]
  rw [decide_eq_false (by omega), if_neg (by simp)]
instance dec_Table : DecidableEq (List Int × List (List Int)) := inferInstance
def z17_ (a : List Int × List (List Int)) : Nat := (zk_ (a.1)) + (z16_ (a.2))
theorem zw3_ {k : Nat} (hk : KK ≤ k) {a : List Int × List (List Int)} {e0 e1 e2 : TypeId} {left : Int} (h0 : 0 ≤ left) (h1 : left ≤ 1048576) (h : InR (.st (.pr (.sl e0 (.int .i64)) (.sl e1 (.sl e2 (.int .i64))))) a) : zeg_ k a left = some (if (z17_ a : Int) ≤ left then left - (z17_ a : Int) else -1) := by
  have hs : z17_ a = (zk_ (a.1)) + (z16_ (a.2)) := rfl
  unfold zeg_
  rw [hs]
  have q0 := z86_ (a := a.1) (left := left) (by omega) (by omega) h.1
  rw [q0]
  by_cases c0 : ((zk_ (a.1)) : Int) ≤ left
  case neg => rw [if_neg c0]; simp only [Option.bind_some]; rw [decide_eq_true (by omega), if_pos rfl, if_neg (by omega)]
  rw [if_pos c0]; simp only [Option.bind_some]
  rw [decide_eq_false (by omega), if_neg (by simp)]
  have q1 := zpd_ hk (a := a.2) (left := left - ((zk_ (a.1)) : Int)) (by omega) (by omega) h.2
  rw [q1]
  by_cases c1 : ((z16_ (a.2)) : Int) ≤ left - ((zk_ (a.1)) : Int)
  case neg => rw [if_neg c1]; simp only [Option.bind_some]; rw [decide_eq_true (by omega), if_pos rfl, if_neg (by omega)]
  rw [if_pos c1]; simp only [Option.bind_some]
  rw [decide_eq_false (by omega), if_neg (by simp)]
  rw [if_pos (by omega)]; congr 1; omega
instance dec_TableS : DecidableEq (List (List Int × List (List Int))) := inferInstance
def z1r_ (a : List (List Int × List (List Int))) : Nat := a.length + sumL z17_ a
theorem zw4_ {k : Nat} (hk : KK ≤ k) {a : List (List Int × List (List Int))} {e0 e1 e2 e3 : TypeId} {left : Int} (h0 : 0 ≤ left) (h1 : left ≤ 1048576) (h : InR (.sl e0 (.st (.pr (.sl e1 (.int .i64)) (.sl e2 (.sl e3 (.int .i64)))))) a) : zeh_ k a left = some (if (z1r_ a : Int) ≤ left then left - (z1r_ a : Int) else -1) := by
  have hl : a.length ≤ 140737488351232 := h.1
  have hs : z1r_ a = a.length + sumL z17_ a := rfl
  have hK := zh_
  unfold zeh_
  rw [hs, w_id (by omega) (by omega)]
  by_cases c : (a.length : Int) ≤ left
  · rw [decide_eq_false (by omega), if_neg (by simp)]
    refine Eq.trans (zcx_ (L := fun n i r => z8v_ k n a r i fun r => some r) (s := z17_) a ?_ ?_ (n := k) (by omega) (r := left - (a.length : Int)) (by omega) (by omega)) ?_
    · intro n i x r hi hlt hm r0 r1
      have hw := zg_ (i := i) (by omega)
      have hx := zw3_ hk (a := x) r0 r1 (h.2 x hm)
      simp only [z8v_, hlt, decide_true, if_true, Int.natCast_nonneg, Int.toNat_natCast, hi, Option.bind_some, hw, hx]
      by_cases c2 : (z17_ x : Int) ≤ r
      · rw [if_pos c2, decide_eq_false (by omega), if_neg (by simp), if_pos c2]
      · rw [if_neg c2, decide_eq_true (by omega), if_pos rfl, if_neg c2]
    · intro n r
      simp [z8v_]
    · by_cases c2 : (sumL z17_ a : Int) ≤ left - (a.length : Int)
      · rw [if_pos c2, if_pos (by omega)]; congr 1; omega
      · rw [if_neg c2, if_neg (by omega)]
  · rw [decide_eq_true (by omega), if_pos rfl, if_neg (by omega)]
instance dec_Filtration : DecidableEq (List (List Int) × List Int) := inferInstance
def z2u_ (a : List (List Int) × List Int) : Nat := (z1q_ (a.1)) + (zk_ (a.2))
theorem zw5_ {k : Nat} (hk : KK ≤ k) {a : List (List Int) × List Int} {e0 e1 e2 : TypeId} {left : Int} (h0 : 0 ≤ left) (h1 : left ≤ 1048576) (h : InR (.st (.pr (.st (.sl e0 (.sl e1 (.int .i64)))) (.sl e2 (.int .i64)))) a) : zei_ k a left = some (if (z2u_ a : Int) ≤ left then left - (z2u_ a : Int) else -1) := by
  have hs : z2u_ a = (z1q_ (a.1)) + (zk_ (a.2)) := rfl
  unfold zei_
  rw [hs]
  have q0 := zpe_ hk (a := a.1) (left := left) (by omega) (by omega) h.1
  rw [q0]
  by_cases c0 : ((z1q_ (a.1)) : Int) ≤ left
  case neg => rw [if_neg c0]; simp only [Option.bind_some]; rw [decide_eq_true (by omega), if_pos rfl, if_neg (by omega)]
  rw [if_pos c0]; simp only [Option.bind_some]
  rw [decide_eq_false (by omega), if_neg (by simp)]
  have q1 := z86_ (a := a.2) (left := left - ((z1q_ (a.1)) : Int)) (by omega) (by omega) h.2
  rw [q1]
  by_cases c1 : ((zk_ (a.2)) : Int) ≤ left - ((z1q_ (a.1)) : Int)
  case neg => rw [if_neg c1]; simp only [Option.bind_some]; rw [decide_eq_true (by omega), if_pos rfl, if_neg (by omega)]
  rw [if_pos c1]; simp only [Option.bind_some]
  rw [decide_eq_false (by omega), if_neg (by simp)]
  rw [if_pos (by omega)]; congr 1; omega
instance dec_StringS : DecidableEq (List (List UInt8)) := inferInstance
def z2v_ (a : List (List UInt8)) : Nat := a.length + sumL List.length a
theorem zw6_ {k : Nat} (hk : KK ≤ k) {a : List (List UInt8)} {e0 : TypeId} {left : Int} (h0 : 0 ≤ left) (h1 : left ≤ 1048576) (h : InR (.sl e0 .str) a) : zej_ k a left = some (if (z2v_ a : Int) ≤ left then left - (z2v_ a : Int) else -1) := by
  have hl : a.length ≤ 140737488351232 := h.1
  have hs : z2v_ a = a.length + sumL List.length a := rfl
  have hK := zh_
  unfold zej_
  rw [hs, w_id (by omega) (by omega)]
  by_cases c : (a.length : Int) ≤ left
  · rw [decide_eq_false (by omega), if_neg (by simp)]
    refine Eq.trans (zcx_ (L := fun n i r => z8w_ k n a r i fun r => some r) (s := List.length) a ?_ ?_ (n := k) (by omega) (r := left - (a.length : Int)) (by omega) (by omega)) ?_
    · intro n i x r hi hlt hm r0 r1
      have hw := zg_ (i := i) (by omega)
      have hxl : List.length x ≤ 140737488351232 := h.2 x hm
      have hs : z0_ (r - (x.length : Int)) = r - x.length := w_id (by omega) (by omega)
      simp only [z8w_, hlt, decide_true, if_true, Int.natCast_nonneg, Int.toNat_natCast, hi, Option.bind_some, hw, hs]
      by_cases c2 : (x.length : Int) ≤ r
      · rw [decide_eq_false (by omega), if_neg (by simp), if_pos c2]
      · rw [decide_eq_true (by omega), if_pos rfl, if_neg c2]
    · intro n r
      simp [z8w_]
    · by_cases c2 : (sumL List.length a : Int) ≤ left - (a.length : Int)
      · rw [if_pos c2, if_pos (by omega)]; congr 1; omega
      · rw [if_neg c2, if_neg (by omega)]
  · rw [decide_eq_true (by omega), if_pos rfl, if_neg (by omega)]
instance dec_Item_2 : DecidableEq (Int × Int) := inferInstance
instance dec_Item_1 : DecidableEq (List (List UInt8) × Int × Int) := inferInstance
instance dec_Item : DecidableEq (List UInt8 × List (List UInt8) × Int × Int) := inferInstance
def z1p_ (a : List UInt8 × List (List UInt8) × Int × Int) : Nat := (List.length (a.1)) + (z2v_ (a.2.1))
theorem zw7_ {k : Nat} (hk : KK ≤ k) {a : List UInt8 × List (List UInt8) × Int × Int} {e0 : TypeId} {left : Int} (h0 : 0 ≤ left) (h1 : left ≤ 1048576) (h : InR (.st (.pr .str (.pr (.sl e0 .str) (.pr (.int .i64) (.int .i64))))) a) : zek_ k a left = some (if (z1p_ a : Int) ≤ left then left - (z1p_ a : Int) else -1) := by
  have hs : z1p_ a = (List.length (a.1)) + (z2v_ (a.2.1)) := rfl
  unfold zek_
  rw [hs]
  have hl0 : List.length (a.1) ≤ 140737488351232 := h.1
  rw [w_id (x := left - (List.length (a.1) : Int)) (by omega) (by omega)]
  by_cases c0 : (List.length (a.1) : Int) ≤ left
  case neg => rw [decide_eq_true (by omega), if_pos rfl, if_neg (by omega)]
  rw [decide_eq_false (by omega), if_neg (by simp)]
  have q1 := zw6_ hk (a := a.2.1) (left := left - ((List.length (a.1)) : Int)) (by omega) (by omega) h.2.1
  rw [q1]
  by_cases c1 : ((z2v_ (a.2.1)) : Int) ≤ left - ((List.length (a.1)) : Int)
  case neg => rw [if_neg c1]; simp only [Option.bind_some]; rw [decide_eq_true (by omega), if_pos rfl, if_neg (by omega)]
  rw [if_pos c1]; simp only [Option.bind_some]
  rw [decide_eq_false (by omega), if_neg (by simp)]
  rw [if_pos (by omega)]; congr 1; omega
instance dec_ItemS : DecidableEq (List (List UInt8 × List (List UInt8) × Int × Int)) := inferInstance
def z28_ (a : List (List UInt8 × List (List UInt8) × Int × Int)) : Nat := a.length + sumL z1p_ a
theorem zw8_ {k : Nat} (hk : KK ≤ k) {a : List (List UInt8 × List (List UInt8) × Int × Int)} {e0 e1 : TypeId} {left : Int} (h0 : 0 ≤ left) (h1 : left ≤ 1048576) (h : InR (.sl e0 (.st (.pr .str (.pr (.sl e1 .str) (.pr (.int .i64) (.int .i64)))))) a) : zel_ k a left = some (if (z28_ a : Int) ≤ left then left - (z28_ a : Int) else -1) := by
  have hl : a.length ≤ 140737488351232 := h.1
  have hs : z28_ a = a.length + sumL z1p_ a := rfl
  have hK := zh_
  unfold zel_
  rw [hs, w_id (by omega) (by omega)]
  by_cases c : (a.length : Int) ≤ left
  · rw [decide_eq_false (by omega), if_neg (by simp)]
    refine Eq.trans (zcx_ (L := fun n i r => z8x_ k n a r i fun r => some r) (s := z1p_) a ?_ ?_ (n := k) (by omega) (r := left - (a.length : Int)) (by omega) (by omega)) ?_
    · intro n i x r hi hlt hm r0 r1
      have hw := zg_ (i := i) (by omega)
      have hx := zw7_ hk (a := x) r0 r1 (h.2 x hm)
      simp only [z8x_, hlt, decide_true, if_true, Int.natCast_nonneg, Int.toNat_natCast, hi, Option.bind_some, hw, hx]
      by_cases c2 : (z1p_ x : Int) ≤ r
      · rw [if_pos c2, decide_eq_false (by omega), if_neg (by simp), if_pos c2]
      · rw [if_neg c2, decide_eq_true (by omega), if_pos rfl, if_neg c2]
    · intro n r
      simp [z8x_]
    · by_cases c2 : (sumL z1p_ a : Int) ≤ left - (a.length : Int)
      · rw [if_pos c2, if_pos (by omega)]; congr 1; omega
      · rw [if_neg c2, if_neg (by omega)]
  · rw [decide_eq_true (by omega), if_pos rfl, if_neg (by omega)]
instance dec_Desk_6 : DecidableEq ((List (List Int) × List Int) × (List (List UInt8 × List (List UInt8) × Int × Int))) := inferInstance
instance dec_Desk_5 : DecidableEq ((List (List Int × List (List Int))) × (List (List Int) × List Int) × (List (List UInt8 × List (List UInt8) × Int × Int))) := inferInstance
instance dec_Desk_4 : DecidableEq ((Int × Int × Int × List Int) × (List (List Int × List (List Int))) × (List (List Int) × List Int) × (List (List UInt8 × List (List UInt8) × Int × Int))) := inferInstance
instance dec_Desk_3 : DecidableEq (List Int × (Int × Int × Int × List Int) × (List (List Int × List (List Int))) × (List (List Int) × List Int) × (List (List UInt8 × List (List UInt8) × Int × Int))) := inferInstance
instance dec_Desk_2 : DecidableEq ((Int × (List (Int × Int × Int))) × List Int × (Int × Int × Int × List Int) × (List (List Int × List (List Int))) × (List (List Int) × List Int) × (List (List UInt8 × List (List UInt8) × Int × Int))) := inferInstance
instance dec_Desk_1 : DecidableEq (List Int × (Int × (List (Int × Int × Int))) × List Int × (Int × Int × Int × List Int) × (List (List Int × List (List Int))) × (List (List Int) × List Int) × (List (List UInt8 × List (List UInt8) × Int × Int))) := inferInstance
instance dec_Desk : DecidableEq ((List (List Int) × Int × List Int × (List (Int × Int × Int × List Int))) × List Int × (Int × (List (Int × Int × Int))) × List Int × (Int × Int × Int × List Int) × (List (List Int × List (List Int))) × (List (List Int) × List Int) × (List (List UInt8 × List (List UInt8) × Int × Int))) := inferInstance
def z1f_ (a : (List (List Int) × Int × List Int × (List (Int × Int × Int × List Int))) × List Int × (Int × (List (Int × Int × Int))) × List Int × (Int × Int × Int × List Int) × (List (List Int × List (List Int))) × (List (List Int) × List Int) × (List (List UInt8 × List (List UInt8) × Int × Int))) : Nat := (z10_ (a.1)) + (zk_ (a.2.1)) + (z1w_ (a.2.2.1)) + (zk_ (a.2.2.2.1)) + (zw_ (a.2.2.2.2.1)) + (z1r_ (a.2.2.2.2.2.1)) + (z2u_ (a.2.2.2.2.2.2.1)) + (z28_ (a.2.2.2.2.2.2.2))
theorem zw9_ {k : Nat} (hk : KK ≤ k) {a : (List (List Int) × Int × List Int × (List (Int × Int × Int × List Int))) × List Int × (Int × (List (Int × Int × Int))) × List Int × (Int × Int × Int × List Int) × (List (List Int × List (List Int))) × (List (List Int) × List Int) × (List (List UInt8 × List (List UInt8) × Int × Int))} {e0 e1 e2 e3 e4 e5 e6 e7 e8 e9 e10 e11 e12 e13 e14 e15 e16 e17 : TypeId} {left : Int} (h0 : 0 ≤ left) (h1 : left ≤ 1048576) (h : InR (.st (.pr (.st (.pr (.st (.sl e0 (.sl e1 (.int .i64)))) (.pr (.int .i64) (.pr (.sl e2 (.int .i64)) (.sl e3 (.st (.pr (.int .i64) (.pr (.int .i64) (.pr (.int .i64) (.sl e4 (.int .i64))))))))))) (.pr (.sl e5 (.int .i64)) (.pr (.st (.pr (.int .i64) (.sl e6 (.st (.pr (.int .i64) (.pr (.int .i64) (.int .i64))))))) (.pr (.sl e7 (.int .i64)) (.pr (.st (.pr (.int .i64) (.pr (.int .i64) (.pr (.int .i64) (.sl e8 (.int .i64)))))) (.pr (.sl e9 (.st (.pr (.sl e10 (.int .i64)) (.sl e11 (.sl e12 (.int .i64)))))) (.pr (.st (.pr (.st (.sl e13 (.sl e14 (.int .i64)))) (.sl e15 (.int .i64)))) (.sl e16 (.st (.pr .str (.pr (.sl e17 .str) (.pr (.int .i64) (.int .i64)))))))))))))) a) : zem_ k a left = some (if (z1f_ a : Int) ≤ left then left - (z1f_ a : Int) else -1) := by
  have hs : z1f_ a = (z10_ (a.1)) + (zk_ (a.2.1)) + (z1w_ (a.2.2.1)) + (zk_ (a.2.2.2.1)) + (zw_ (a.2.2.2.2.1)) + (z1r_ (a.2.2.2.2.2.1)) + (z2u_ (a.2.2.2.2.2.2.1)) + (z28_ (a.2.2.2.2.2.2.2)) := rfl
  unfold zem_
  rw [hs]
  have q0 := zvz_ hk (a := a.1) (left := left) (by omega) (by omega) h.1
  rw [q0]
  by_cases c0 : ((z10_ (a.1)) : Int) ≤ left
  case neg => rw [if_neg c0]; simp only [Option.bind_some]; rw [decide_eq_true (by omega), if_pos rfl, if_neg (by omega)]
  rw [if_pos c0]; simp only [Option.bind_some]
  rw [decide_eq_false (by omega), if_neg (by simp)]
  have q1 := z86_ (a := a.2.1) (left := left - ((z10_ (a.1)) : Int)) (by omega) (by omega) h.2.1
  rw [q1]
  by_cases c1 : ((zk_ (a.2.1)) : Int) ≤ left - ((z10_ (a.1)) : Int)
  case neg => rw [if_neg c1]; simp only [Option.bind_some]; rw [decide_eq_true (by omega), if_pos rfl, if_neg (by omega)]
  rw [if_pos c1]; simp only [Option.bind_some]
  rw [decide_eq_false (by omega), if_neg (by simp)]
  have q2 := zw2_ (a := a.2.2.1) (left := left - ((z10_ (a.1)) : Int) - ((zk_ (a.2.1)) : Int)) (by omega) (by omega) h.2.2.1
  rw [q2]
  by_cases c2 : ((z1w_ (a.2.2.1)) : Int) ≤ left - ((z10_ (a.1)) : Int) - ((zk_ (a.2.1)) : Int)
  case neg => rw [if_neg c2]; simp only [Option.bind_some]; rw [decide_eq_true (by omega), if_pos rfl, if_neg (by omega)]
  rw [if_pos c2]; simp only [Option.bind_some]
  rw [decide_eq_false (by omega), if_neg (by simp)]
  have q3 := z86_ (a := a.2.2.2.1) (left := left - ((z10_ (a.1)) : Int) - ((zk_ (a.2.1)) : Int) - ((z1w_ (a.2.2.1)) : Int)) (by omega) (by omega) h.2.2.2.1
  rw [q3]
  by_cases c3 : ((zk_ (a.2.2.2.1)) : Int) ≤ left - ((z10_ (a.1)) : Int) - ((zk_ (a.2.1)) : Int) - ((z1w_ (a.2.2.1)) : Int)
  case neg => rw [if_neg c3]; simp only [Option.bind_some]; rw [decide_eq_true (by omega), if_pos rfl, if_neg (by omega)]
  rw [if_pos c3]; simp only [Option.bind_some]
  rw [decide_eq_false (by omega), if_neg (by simp)]
  have q4 := zpf_ (a := a.2.2.2.2.1) (left := left - ((z10_ (a.1)) : Int) - ((zk_ (a.2.1)) : Int) - ((z1w_ (a.2.2.1)) : Int) - ((zk_ (a.2.2.2.1)) : Int)) (by omega) (by omega) h.2.2.2.2.1
  rw [q4]
  by_cases c4 : ((zw_ (a.2.2.2.2.1)) : Int) ≤ left - ((z10_ (a.1)) : Int) - ((zk_ (a.2.1)) : Int) - ((z1w_ (a.2.2.1)) : Int) - ((zk_ (a.2.2.2.1)) : Int)
  case neg => rw [if_neg c4]; simp only [Option.bind_some]; rw [decide_eq_true (by omega), if_pos rfl, if_neg (by omega)]
  rw [if_pos c4]; simp only [Option.bind_some]
  rw [decide_eq_false (by omega), if_neg (by simp)]
  have q5 := zw4_ hk (a := a.2.2.2.2.2.1) (left := left - ((z10_ (a.1)) : Int) - ((zk_ (a.2.1)) : Int) - ((z1w_ (a.2.2.1)) : Int) - ((zk_ (a.2.2.2.1)) : Int) - ((zw_ (a.2.2.2.2.1)) : Int)) (by omega) (by omega) h.2.2.2.2.2.1
  rw [q5]
  by_cases c5 : ((z1r_ (a.2.2.2.2.2.1)) : Int) ≤ left - ((z10_ (a.1)) : Int) - ((zk_ (a.2.1)) : Int) - ((z1w_ (a.2.2.1)) : Int) - ((zk_ (a.2.2.2.1)) : Int) - ((zw_ (a.2.2.2.2.1)) : Int)
  case neg => rw [if_neg c5]; simp only [Option.bind_some]; rw [decide_eq_true (by omega), if_pos rfl, if_neg (by omega)]
  rw [if_pos c5]; simp only [Option.bind_some]
  rw [decide_eq_false (by omega), if_neg (by simp)]
  have q6 := zw5_ hk (a := a.2.2.2.2.2.2.1) (left := left - ((z10_ (a.1)) : Int) - ((zk_ (a.2.1)) : Int) - ((z1w_ (a.2.2.1)) : Int) - ((zk_ (a.2.2.2.1)) : Int) - ((zw_ (a.2.2.2.2.1)) : Int) - ((z1r_ (a.2.2.2.2.2.1)) : Int)) (by omega) (by omega) h.2.2.2.2.2.2.1
  rw [q6]
  by_cases c6 : ((z2u_ (a.2.2.2.2.2.2.1)) : Int) ≤ left - ((z10_ (a.1)) : Int) - ((zk_ (a.2.1)) : Int) - ((z1w_ (a.2.2.1)) : Int) - ((zk_ (a.2.2.2.1)) : Int) - ((zw_ (a.2.2.2.2.1)) : Int) - ((z1r_ (a.2.2.2.2.2.1)) : Int)
  case neg => rw [if_neg c6]; simp only [Option.bind_some]; rw [decide_eq_true (by omega), if_pos rfl, if_neg (by omega)]
  rw [if_pos c6]; simp only [Option.bind_some]
  rw [decide_eq_false (by omega), if_neg (by simp)]
  have q7 := zw8_ hk (a := a.2.2.2.2.2.2.2) (left := left - ((z10_ (a.1)) : Int) - ((zk_ (a.2.1)) : Int) - ((z1w_ (a.2.2.1)) : Int) - ((zk_ (a.2.2.2.1)) : Int) - ((zw_ (a.2.2.2.2.1)) : Int) - ((z1r_ (a.2.2.2.2.2.1)) : Int) - ((z2u_ (a.2.2.2.2.2.2.1)) : Int)) (by omega) (by omega) h.2.2.2.2.2.2.2
  rw [q7]
  by_cases c7 : ((z28_ (a.2.2.2.2.2.2.2)) : Int) ≤ left - ((z10_ (a.1)) : Int) - ((zk_ (a.2.1)) : Int) - ((z1w_ (a.2.2.1)) : Int) - ((zk_ (a.2.2.2.1)) : Int) - ((zw_ (a.2.2.2.2.1)) : Int) - ((z1r_ (a.2.2.2.2.2.1)) : Int) - ((z2u_ (a.2.2.2.2.2.2.1)) : Int)
  case neg => rw [if_neg c7]; simp only [Option.bind_some]; rw [decide_eq_true (by omega), if_pos rfl, if_neg (by omega)]
  rw [if_pos c7]; simp only [Option.bind_some]
  rw [decide_eq_false (by omega), if_neg (by simp)]
  rw [if_pos (by omega)]; congr 1; omega
theorem zwa_ {d : DskT} (h : z1f_ d ≤ 1048576) : smallD d := by
  have e : z1f_ d = z10_ d.1 + d.2.1.length + d.2.2.1.2.length + d.2.2.2.1.length + d.2.2.2.2.1.2.2.2.length + (d.2.2.2.2.2.1.length + sumL z17_ d.2.2.2.2.2.1) + ((d.2.2.2.2.2.2.1.1.length + sumL List.length d.2.2.2.2.2.2.1.1) + d.2.2.2.2.2.2.1.2.length) + (d.2.2.2.2.2.2.2.length + sumL z1p_ d.2.2.2.2.2.2.2) := rfl
  refine ⟨zw0_ (by omega), by omega, by omega, by omega, by omega, by omega, fun t ht => ?_, ⟨by omega, fun s hs => ?_⟩, by omega, by omega, fun x hx => ?_⟩
  · have h1 := z1v_ z17_ ht
    have h2 : z17_ t = t.1.length + (t.2.length + sumL List.length t.2) := rfl
    exact ⟨by omega, by omega, fun r hr => by have := z1v_ List.length hr; omega⟩
  · have := z1v_ List.length hs; omega
  · have h1 := z1v_ z1p_ hx
    have h2 : z1p_ x = x.1.length + (x.2.1.length + sumL List.length x.2.1) := rfl
    exact ⟨by omega, by omega, fun y hy => by have := z1v_ List.length hy; omega⟩
theorem zpg_ {d : Nat} (h : d < 10) : z_u8 (UInt8.ofNat (48 + d)) = ((48 + d : Nat) : Int) := by
  have : (UInt8.ofNat (48 + d)).toNat = 48 + d := by simp [UInt8.toNat_ofNat']; omega
  show ((UInt8.ofNat (48 + d)).toNat : Int) = _
  rw [this]
theorem zkr_ {d : Nat} (h : d < 10) : w_u8 (z0_ (48 + (d : Int))) = ((48 + d : Nat) : Int) := by
  rw [w_id (by omega) (by omega)]
  unfold w_u8 IntKind.wrap
  simp [IntKind.bits, IntKind.signed]; omega
def revD (u : Nat) : List Int := if u = 0 then [] else ((Lib.decDigits u).map z_u8).reverse
theorem zhc_ {u : Nat} (h : u ≠ 0) : revD u = ((48 + u % 10 : Nat) : Int) :: revD (u / 10) := by
  unfold revD
  rw [if_neg h]
  by_cases h1 : u < 10
  · rw [Lib.decDigits, dif_pos h1, if_pos (by omega)]
    have := zpg_ h1
    rw [Nat.mod_eq_of_lt h1, List.map_cons, List.map_nil, this]
    rfl
  · rw [Lib.decDigits, dif_neg h1, if_neg (by omega)]
    have := zpg_ (d := u % 10) (by omega)
    rw [List.map_append, List.map_cons, List.map_nil, this, List.reverse_append]
    rfl
theorem zks_ : ∀ (j u : Nat), u < 10 ^ j → (revD u).length ≤ j
  | 0, u, h => by
    have : u = 0 := by simpa using h
    subst this; simp [revD]
  | j + 1, u, h => by
    by_cases h0 : u = 0
    · subst h0; simp [revD]
    · rw [zhc_ h0, List.length_cons]
      have := zks_ j (u / 10) (by rw [Nat.pow_succ] at h; omega)
      omega
theorem zkt_ {k : Nat} {n0 : Int} {E : Int → List Int → Option (List UInt8)} : ∀ (j u n : Nat) (m : Int) (q : List Int), (m = (u : Int) ∨ m = -(u : Int)) → u < 10 ^ j → u ≤ 9223372036854775808 → -9223372036854775808 ≤ m → m ≤ 9223372036854775807 → q.length + j ≤ 100 → j < n → z5e_ k n n0 m q E = E n0 (q ++ revD u)
  | j, u, 0, m, q, _, _, _, _, _, _, h => by omega
  | 0, u, n + 1, m, q, hm, hu, _, _, _, _, _ => by
    have h0 : u = 0 := by simpa using hu
    subst h0
    have hm0 : m = 0 := by omega
    subst hm0
    simp [z5e_, revD]
  | j + 1, u, n + 1, m, q, hm, hu, hub, hm1, hm2, hq, hn => by
    have hL := z1i_
    by_cases h0 : u = 0
    · subst h0
      have hm0 : m = 0 := by omega
      subst hm0
      simp [z5e_, revD]
    · have hm0 : ¬ m = 0 := by omega
      have hlim : (q.length + 1) * 1 ≤ LIM := by omega
      have hd : u % 10 < 10 := by omega
      have hj : u / 10 < 10 ^ j := by rw [Nat.pow_succ] at hu; omega
      rcases hm with hm | hm
      · subst hm
        have t1 : Int.tmod (u : Int) 10 = ((u % 10 : Nat) : Int) := by rw [Int.tmod_eq_emod_of_nonneg (by omega)]; omega
        have t2 : Int.tdiv (u : Int) 10 = ((u / 10 : Nat) : Int) := by rw [Int.tdiv_eq_ediv_of_nonneg (by omega)]; omega
        have w2 : z0_ ((u / 10 : Nat) : Int) = ((u / 10 : Nat) : Int) := w_id (by omega) (by omega)
        have hlt : ¬ (((u % 10 : Nat) : Int) < 0) := by omega
        have ih := zkt_ (k := k) (n0 := n0) (E := E) j (u / 10) n ((u / 10 : Nat) : Int) (q ++ [((48 + u % 10 : Nat) : Int)]) (.inl rfl) hj (by omega) (by omega) (by omega) (by simp; omega) (by omega)
        unfold z5e_
        rw [decide_eq_false hm0, if_pos (by rfl), t1, t2, decide_eq_false hlt, if_neg (by simp), zkr_ hd, w2, List.length_singleton, if_pos hlim, ih, List.append_assoc, zhc_ h0]
        rfl
      · subst hm
        have t1 : Int.tmod (-(u : Int)) 10 = -((u % 10 : Nat) : Int) := by rw [Int.neg_tmod, Int.tmod_eq_emod_of_nonneg (by omega)]; omega
        have t2 : Int.tdiv (-(u : Int)) 10 = -((u / 10 : Nat) : Int) := by rw [Int.neg_tdiv, Int.tdiv_eq_ediv_of_nonneg (by omega)]; omega
        have w2 : z0_ (-((u / 10 : Nat) : Int)) = -((u / 10 : Nat) : Int) := w_id (by omega) (by omega)
        have ih := zkt_ (k := k) (n0 := n0) (E := E) j (u / 10) n (-((u / 10 : Nat) : Int)) (q ++ [((48 + u % 10 : Nat) : Int)]) (.inr rfl) hj (by omega) (by omega) (by omega) (by simp; omega) (by omega)
        unfold z5e_
        rw [decide_eq_false hm0, if_pos (by rfl), t1, t2, w2]
        by_cases hz : u % 10 = 0
        · have hlt : ¬ (-((u % 10 : Nat) : Int) < 0) := by omega
          have hw : w_u8 (z0_ (48 + -((u % 10 : Nat) : Int))) = ((48 + u % 10 : Nat) : Int) := by
            rw [hz]
            exact zkr_ (d := 0) (by omega)
          rw [decide_eq_false hlt, if_neg (by simp), hw, List.length_singleton, if_pos hlim, ih, List.append_assoc, zhc_ h0]
          rfl
        · have hlt : -((u % 10 : Nat) : Int) < 0 := by omega
          have hw : w_u8 (z0_ (48 + z0_ (0 - -((u % 10 : Nat) : Int)))) = ((48 + u % 10 : Nat) : Int) := by
            rw [show (0 : Int) - -((u % 10 : Nat) : Int) = ((u % 10 : Nat) : Int) by omega, w_id (x := ((u % 10 : Nat) : Int)) (by omega) (by omega)]
            exact zkr_ hd
          rw [decide_eq_true hlt, if_pos rfl, hw, List.length_singleton, if_pos hlim, ih, List.append_assoc, zhc_ h0]
          rfl
theorem zku_ {k : Nat} {q : List Int} (hq : q.length ≤ 1000) {E : List Int → Option (List UInt8)} : ∀ (j n : Nat) (acc : List Int), j ≤ q.length → acc.length + j ≤ 1000 → j < n → z7l_ k n ((j : Int) - 1) q acc E = E (acc ++ (q.take j).reverse)
  | j, 0, _, _, _, h => by omega
  | 0, n + 1, acc, _, _, _ => by
    have : ¬ (0 ≤ ((0 : Nat) : Int) - 1) := by omega
    simp only [z7l_, this, decide_false, Bool.false_eq_true, if_false, List.take_zero, List.reverse_nil, List.append_nil]
  | j + 1, n + 1, acc, hj, ha, hn => by
    have hL := z1i_
    have e0 : ((j + 1 : Nat) : Int) - 1 = (j : Int) := by omega
    have hjl : j < q.length := by omega
    have ew : z0_ ((j : Int) - 1) = (j : Int) - 1 := w_id (by omega) (by omega)
    have hlim : (acc.length + 1) * 1 ≤ LIM := by omega
    have ih := zku_ (k := k) hq (E := E) j n (acc ++ [q[j]]) (by omega) (by simp; omega) (by omega)
    rw [e0]
    simp only [z7l_, Int.natCast_nonneg, decide_true, if_true, Int.toNat_natCast, hjl, and_self, List.getElem?_eq_getElem hjl, Option.bind_some, List.length_singleton, hlim, ew, ih]
    rw [List.take_succ_eq_append_getElem hjl, List.reverse_append]
    simp
theorem zph_ (l : List UInt8) : to_S (l.map z_u8) = l := by
  unfold to_S
  rw [List.map_map]
  have : ((fun x : Int => x.toNat.toUInt8) ∘ z_u8) = id := by
    funext b
    simp [z_u8]
  simp [this]
theorem zwb_ {k : Nat} (hk : KK ≤ k) {n : Int} (h1 : -9223372036854775808 ≤ n) (h2 : n ≤ 9223372036854775807) : zg5_ k n = some (Lib.itoa n) := by
  have hK := zh_
  have hL := z1i_
  unfold zg5_ Lib.itoa
  by_cases h0 : n = 0
  · subst h0
    rw [decide_eq_true rfl, if_pos rfl, if_neg (by omega)]
    rw [show (0 : Int).toNat = 0 from rfl, Lib.decDigits, dif_pos (by omega)]
    rfl
  · have hp : n.natAbs < 10 ^ 19 := by
      have : n.natAbs ≤ 9223372036854775808 := by omega
      exact Nat.lt_of_le_of_lt this (by decide)
    have hl := zks_ 19 n.natAbs hp
    have hu : n.natAbs ≠ 0 := by omega
    have hr : revD n.natAbs = ((Lib.decDigits n.natAbs).map z_u8).reverse := by unfold revD; rw [if_neg hu]
    rw [decide_eq_false h0, if_neg (by simp), zkt_ 19 n.natAbs k n [] (by omega) hp (by omega) h1 h2 (by simp) (by omega), List.nil_append]
    by_cases hn : n < 0
    · have hl1 : ((revD n.natAbs).length + 1) * 1 ≤ LIM := by omega
      have hb := zku_ (k := k) (q := revD n.natAbs ++ [45]) (by simp; omega) (E := fun q => some (to_S q)) (revD n.natAbs ++ [45]).length k [] (Nat.le_refl _) (by simp; omega) (by simp; omega)
      have hw : z0_ (((revD n.natAbs ++ [45]).length : Int) - 1) = ((revD n.natAbs ++ [45]).length : Int) - 1 := w_id (by omega) (by simp; omega)
      rw [decide_eq_true hn, if_pos rfl, if_pos hn, List.length_singleton, if_pos hl1, hw, hb, List.take_length, List.nil_append, hr]
      congr 1
      have e : (((Lib.decDigits n.natAbs).map z_u8).reverse ++ [(45 : Int)]).reverse = ((45 : UInt8) :: Lib.decDigits n.natAbs).map z_u8 := by
        rw [List.reverse_append, List.reverse_reverse]; rfl
      rw [e, zph_]
    · have hb := zku_ (k := k) (q := revD n.natAbs) (by omega) (E := fun q => some (to_S q)) (revD n.natAbs).length k [] (Nat.le_refl _) (by simp; omega) (by omega)
      have hw : z0_ (((revD n.natAbs).length : Int) - 1) = ((revD n.natAbs).length : Int) - 1 := w_id (by omega) (by omega)
      have hna : n.natAbs = n.toNat := by omega
      rw [decide_eq_false hn, if_neg (by simp), if_neg hn, hw, hb, List.take_length, List.nil_append, hr, List.reverse_reverse, zph_, hna]
theorem zwc_ {u j : Nat} (h : u < 10 ^ j) (hj : 1 ≤ j) : (Lib.decDigits u).length ≤ j := by
  by_cases h0 : u = 0
  · subst h0; rw [Lib.decDigits, dif_pos (by omega)]; exact hj
  · have := zks_ j u h
    unfold revD at this
    rw [if_neg h0] at this
    simpa using this
theorem zwd_ {n : Int} (h1 : -9223372036854775808 ≤ n) (h2 : n ≤ 9223372036854775807) : zgz_ n = some (Lib.itoa n) := by
  unfold zgz_ znw_
  rw [if_pos ⟨rfl, h1, h2⟩]; rfl
def repI (W : List (List UInt8)) (N : List Int) (i : Nat) : List UInt8 := (W.getD i [] ++ [32]) ++ Lib.itoa (N.getD i 0)
def repC (W : List (List UInt8)) (N : List Int) (c : Nat) : List (List UInt8) := (List.range c).map (repI W N)
theorem zkv_ {n : Int} (h : 0 ≤ n ∧ n < 10000000) : (Lib.itoa n).length ≤ 7 := by
  unfold Lib.itoa
  rw [if_neg (by omega)]
  exact zwc_ (by omega) (by omega)
theorem zwe_ {W : List (List UInt8)} {N : List Int} (hW : ∀ w ∈ W, w.length ≤ 100) (hN : ∀ n ∈ N, 0 ≤ n ∧ n < 10000000) (i : Nat) : (repI W N i).length ≤ 200 := by
  unfold repI
  have h1 : (W.getD i []).length ≤ 100 := by
    rw [List.getD_eq_getElem?_getD]
    cases h : W[i]? with
    | none => simp
    | some w => exact hW w (List.mem_of_getElem? h)
  have h2 : 0 ≤ N.getD i 0 ∧ N.getD i 0 < 10000000 := by
    rw [List.getD_eq_getElem?_getD]
    cases h : N[i]? with
    | none => simp
    | some w => exact hN w (List.mem_of_getElem? h)
  have h3 := zkv_ h2
  rw [List.length_append, List.length_append, List.length_singleton]
  omega
theorem zpi_ {W : List (List UInt8)} {N : List Int} (hW : ∀ w ∈ W, w.length ≤ 100) (hN : ∀ n ∈ N, 0 ≤ n ∧ n < 10000000) : ∀ c, sumL List.length (repC W N c) ≤ c * 200
  | 0 => by simp [repC, z5k_]
  | c + 1 => by
    have h1 := zpi_ hW hN c
    have h2 := zwe_ hW hN c
    have e : repC W N (c + 1) = repC W N c ++ [repI W N c] := by unfold repC; rw [List.range_succ, List.map_append]; rfl
    rw [e, zkq_, z4y_, z5k_]
    omega
theorem zwf_ {k : Nat} (hk : KK ≤ k) {W : List (List UInt8)} {N : List Int} (hl : W.length = N.length) (h7 : W.length ≤ 1000) (hW : ∀ w ∈ W, w.length ≤ 100) (hN : ∀ n ∈ N, 0 ≤ n ∧ n < 10000000) : z7m_ k k 0 W N [] (fun q_8 => some (q_8, 0)) = some (repC W N W.length, 0) := by
  have hK := zh_
  have hL := z1i_
  refine z1n_ (α := List UInt8) (A := List (List UInt8)) (L := fun n i q => z7m_ k n i W N q (fun q_8 => some (q_8, 0))) (I := fun pre q => q = repC W N pre.length) (G := fun _ _ => some (repC W N W.length, (0 : Int))) W ?_ ?_ k (by omega) [] rfl
  · intro n pre x post q hx hq ih hg hlt
    have hw := zg_ (i := pre.length) (by omega)
    have hp : pre.length < W.length := by omega
    have hpN : pre.length < N.length := by omega
    have hgN : N[pre.length]? = some N[pre.length] := List.getElem?_eq_getElem hpN
    have hxl := hW x (List.mem_of_getElem? hg)
    have hn := hN N[pre.length] (List.getElem_mem hpN)
    have hi := zkv_ hn
    have hr : repI W N pre.length = (x ++ [32]) ++ Lib.itoa N[pre.length] := by unfold repI; rw [List.getD_eq_getElem?_getD, List.getD_eq_getElem?_getD, hg, hgN]; rfl
    generalize N[pre.length] = v at hgN hn hi hr
    have b1 : x.length + 1 ≤ 9223372036854775807 := by omega
    have b2 : (x ++ [(32 : UInt8)]).length + (Lib.itoa v).length ≤ 9223372036854775807 := by rw [List.length_append, List.length_singleton]; omega
    have b3 : (q.length + 1) * 16 ≤ LIM := by rw [hq]; unfold repC; rw [List.length_map, List.length_range]; omega
    simp only [z7m_, hlt, hp, decide_true, if_true, Int.natCast_nonneg, Int.toNat_natCast, and_self, hg, Option.bind_some, b1, hpN, hgN, zwb_ hk (show -9223372036854775808 ≤ v by omega) (show v ≤ 9223372036854775807 by omega), b2, List.length_singleton, b3, hw]
    refine ih _ ?_
    rw [hq, List.length_append, List.length_singleton]
    unfold repC
    rw [List.range_succ, List.map_append, List.map_cons, List.map_nil, hr]
  · intro n q hq
    subst hq
    simp only [z7m_, Int.lt_irrefl, decide_false, Bool.false_eq_true, if_false]
theorem zwg_ {k : Nat} (hk : KK ≤ k) {W : List (List UInt8)} {N : List Int} (hl : W.length = N.length) (h7 : W.length ≤ 1000) (hW : ∀ w ∈ W, w.length ≤ 100) (hN : ∀ n ∈ N, 0 ≤ n ∧ n < 10000000) : z7x_ k k (W.length : Int) 0 N [] W (fun q_14 => some (q_14, 0)) = some (repC W N W.length, 0) := by
  have hK := zh_
  have hL := z1i_
  refine z1n_ (α := List UInt8) (A := List (List UInt8)) (L := fun n i q => z7x_ k n (W.length : Int) i N q W (fun q_14 => some (q_14, 0))) (I := fun pre q => q = repC W N pre.length) (G := fun _ _ => some (repC W N W.length, (0 : Int))) W ?_ ?_ k (by omega) [] rfl
  · intro n pre x post q hx hq ih hg hlt
    have hw := zg_ (i := pre.length) (by omega)
    have hp : pre.length < W.length := by omega
    have hpN : pre.length < N.length := by omega
    have hgN : N[pre.length]? = some N[pre.length] := List.getElem?_eq_getElem hpN
    have hxl := hW x (List.mem_of_getElem? hg)
    have hn := hN N[pre.length] (List.getElem_mem hpN)
    have hi := zkv_ hn
    have hr : repI W N pre.length = (x ++ [32]) ++ Lib.itoa N[pre.length] := by unfold repI; rw [List.getD_eq_getElem?_getD, List.getD_eq_getElem?_getD, hg, hgN]; rfl
    generalize N[pre.length] = v at hgN hn hi hr
    have b1 : x.length + 1 ≤ 9223372036854775807 := by omega
    have b2 : (x ++ [(32 : UInt8)]).length + (Lib.itoa v).length ≤ 9223372036854775807 := by rw [List.length_append, List.length_singleton]; omega
    have b3 : (q.length + 1) * 16 ≤ LIM := by rw [hq]; unfold repC; rw [List.length_map, List.length_range]; omega
    simp only [z7x_, hlt, hp, decide_true, if_true, Int.natCast_nonneg, Int.toNat_natCast, and_self, hg, Option.bind_some, b1, hpN, hgN, zwd_ (show -9223372036854775808 ≤ v by omega) (show v ≤ 9223372036854775807 by omega), b2, List.length_singleton, b3, hw]
    refine ih _ ?_
    rw [hq, List.length_append, List.length_singleton]
    unfold repC
    rw [List.range_succ, List.map_append, List.map_cons, List.map_nil, hr]
  · intro n q hq
    subst hq
    simp only [z7x_, Int.lt_irrefl, decide_false, Bool.false_eq_true, if_false]
theorem zwh_ {k : Nat} {d : DskT} (h : z85_ k d = true) : 1 ≤ d.2.2.1.1 ∧ d.2.2.1.1 ≤ 12 := by
  unfold z85_ at h
  simp only [Bool.and_eq_true] at h
  have := h.2.1
  unfold z6m_ at this
  simp only [Bool.and_eq_true, decide_eq_true_eq] at this
  exact this.1
theorem zwi_ {k : Nat} (hk : KK ≤ k) {d : DskT} (hs : smallD d) (hc : d.1.1.length ≤ 1048576) : ∃ r : List (List UInt8) × Int, zfc_ k d = some r ∧ zc6_ k d = some r ∧ r.1.length ≤ 100000 ∧ sumL List.length r.1 ≤ 100000 := by
  unfold zfc_ zc6_
  rw [zvw_ hk hs, zvx_ hk hs]
  cases hb : z85_ k d with
  | false => exact ⟨([], 1), by simp, by simp, by simp, by rw [z5k_]; omega⟩
  | true =>
    have hn := zwh_ hb
    simp only [Option.bind_some, Bool.not_true, Bool.false_eq_true, if_false, zcl_, z3s_, zk7_, zk8_]
    have h1 := hs.rd
    have h2 := hs.mat
    have h3 := hs.tabs
    have h4 := hs.ft
    have h5 := hs.its
    have hN : ∀ n ∈ [(List.length d.1.1 : Int), (List.length d.2.1 : Int), d.2.2.1.1, (List.length d.2.2.2.2.1.2.2.2 : Int), (List.length d.2.2.2.2.2.1 : Int), (List.length d.2.2.2.2.2.2.1.2 : Int), (List.length d.2.2.2.2.2.2.2 : Int)], 0 ≤ n ∧ n < 10000000 := by
      intro n hn
      simp only [List.mem_cons, List.not_mem_nil, or_false] at hn
      omega
    have hW : ∀ w ∈ ([[115, 105, 109, 112, 108, 105, 99, 101, 115], [114, 101, 97, 100, 105, 110, 103, 115], [110, 111, 100, 101, 115], [99, 101, 108, 108, 115], [116, 97, 98, 108, 101, 115], [116, 105, 109, 101, 115], [105, 116, 101, 109, 115]] : List (List UInt8)), w.length ≤ 100 := by
      intro w hw
      simp only [List.mem_cons, List.not_mem_nil, or_false] at hw
      rcases hw with rfl | rfl | rfl | rfl | rfl | rfl | rfl <;> simp
    exact ⟨_, zwf_ hk rfl (by simp) hW hN, zwg_ hk rfl (by simp) hW hN, by unfold repC; rw [List.length_map, List.length_range]; simp, Nat.le_trans (zpi_ hW hN _) (by simp)⟩
theorem zpj_ {k : Nat} (hk : KK ≤ k) {n : Int} (h : n ≤ 9223372036854775807) : ∃ t, z3r_ k n = some t := by
  unfold z3r_
  by_cases h0 : n ≤ 0
  · exact ⟨[109, 48], by simp [h0]⟩
  · simp only [decide_eq_true_eq, h0, if_false]
    have key : ∀ (m : Nat) (n : Int) (out : List UInt8), 0 ≤ n → n < 10 ^ m → n ≤ 9223372036854775807 → out.length + m ≤ 100 → ∀ q, m < q → ∃ t, z78_ k q n out (fun out_1 => (if [109].length + out_1.length ≤ 9223372036854775807 then some ([109] ++ out_1) else none)) = some t := by
      intro m
      induction m with
      | zero =>
        intro n out h1 h2 h3 h4 q hq
        obtain ⟨q, rfl⟩ : ∃ p, q = p + 1 := ⟨q - 1, by omega⟩
        have : ¬ 0 < n := by simp at h2; omega
        have h5 : 1 + out.length ≤ 9223372036854775807 := by omega
        exact ⟨[109] ++ out, by simp only [z78_, decide_eq_true_eq, this, if_false, List.length_singleton, h5, if_true]⟩
      | succ m ih =>
        intro n out h1 h2 h3 h4 q hq
        obtain ⟨q, rfl⟩ : ∃ p, q = p + 1 := ⟨q - 1, by omega⟩
        by_cases hn : 0 < n
        · have hd : Int.tdiv n 10 = n / 10 := Int.tdiv_eq_ediv_of_nonneg h1
          have hw : z0_ (Int.tdiv n 10) = n / 10 := by rw [hd, w_id (by omega) (by omega)]
          have h5 : 1 + out.length ≤ 9223372036854775807 := by omega
          have h6 : n / 10 < 10 ^ m := by
            rw [Int.pow_succ] at h2
            omega
          obtain ⟨t, ht⟩ := ih (n / 10) ((to_S [(w_u8 ((z0_ (48 + (Int.tmod n 10)))))]) ++ out) (by omega) h6 (by omega) (by simp; omega) q (by omega)
          refine ⟨t, ?_⟩
          simp only [z78_, decide_eq_true_eq, hn, if_true, hw]
          rw [if_pos (by simp; omega)]
          exact ht
        · have h5 : 1 + out.length ≤ 9223372036854775807 := by omega
          exact ⟨[109] ++ out, by simp only [z78_, decide_eq_true_eq, hn, if_false, List.length_singleton, h5, if_true]⟩
    exact key 20 n [] (by omega) (by omega) h (by simp) k (by have := zh_; omega)
noncomputable def tM (k : Nat) (m : Int) : List UInt8 := (z3r_ k m).getD []
theorem zpk_ {k : Nat} (hk : KK ≤ k) {m : Int} (h : m ≤ 9223372036854775807) : z3r_ k m = some (tM k m) := by
  obtain ⟨t, ht⟩ := zpj_ hk h
  unfold tM
  rw [ht]; rfl
def mkL {α : Type} (f : α → Int → α × Int) : List α → Int → List α × Int
  | [], m => ([], m)
  | x :: l, m => ((f x m).1 :: (mkL f l (f x m).2).1, (mkL f l (f x m).2).2)
theorem zkw_ {α : Type} (f : α → Int → α × Int) : ∀ (l : List α) (m : Int), (mkL f l m).1.length = l.length
  | [], _ => rfl
  | x :: l, m => by simp [mkL, zkw_ f l]
theorem zpl_ {α : Type} {f : α → Int → α × Int} {c : α → Nat} (hc : ∀ x m, (f x m).2 = m + (c x : Int)) : ∀ (l : List α) (m : Int), (mkL f l m).2 = m + (sumL c l : Int)
  | [], m => by simp [mkL, z5k_]
  | x :: l, m => by
    have h1 := z4y_ c x l
    show (mkL f l (f x m).2).2 = _
    rw [zpl_ hc l, hc]; omega
theorem zpm_ {α : Type} {f : α → Int → α × Int} : ∀ (l r : List α) (m : Int), (mkL f (l ++ r) m).1 = (mkL f l m).1 ++ (mkL f r (mkL f l m).2).1
  | [], r, m => rfl
  | x :: l, r, m => by simp [mkL, zpm_ l r]
theorem z4z_ {α Q R : Type} {f : α → Int → α × Int} {c : α → Nat} (hc : ∀ x m, (f x m).2 = m + (c x : Int)) (xs : List α) {m0 B : Int} (hB : m0 + (sumL c xs : Int) ≤ B) {S : List α → Q} {L : Nat → Int → Int → Q → R} {G : R}
    (h1 : ∀ n (i : Nat) m l y, l.length = xs.length → l[i]? = some y → y ∈ xs → m0 ≤ m → m + (c y : Int) ≤ B → (i : Int) < l.length → i < l.length → L (n + 1) m (i : Int) (S l) = L n (m + (c y : Int)) ((i + 1 : Nat) : Int) (S (l.set i (f y m).1)))
    (h2 : ∀ n l, l = (mkL f xs m0).1 → l.length = xs.length → L (n + 1) (m0 + (sumL c xs : Int)) (xs.length : Int) (S l) = G) {n : Nat} (hn : xs.length < n) : L n m0 0 (S xs) = G := by
  have main : ∀ (post pre : List α) (n : Nat), xs = pre ++ post → post.length < n → L n (m0 + (sumL c pre : Int)) (pre.length : Int) (S ((mkL f pre m0).1 ++ post)) = G := by
    intro post
    induction post with
    | nil =>
      intro pre n hx hn
      obtain ⟨m, rfl⟩ : ∃ m, n = m + 1 := ⟨n - 1, by simp at hn; omega⟩
      rw [List.append_nil] at hx ⊢
      subst hx
      exact h2 m _ rfl (zkw_ f _ _)
    | cons x post ih =>
      intro pre n hx hn
      obtain ⟨m, rfl⟩ : ∃ m, n = m + 1 := ⟨n - 1, by simp at hn; omega⟩
      have hl : (mkL f pre m0).1.length = pre.length := zkw_ f _ _
      have hs : sumL c xs = sumL c pre + (c x + sumL c post) := by rw [hx, zkq_, z4y_]
      rw [h1 m pre.length (m0 + (sumL c pre : Int)) ((mkL f pre m0).1 ++ x :: post) x (by rw [hx]; simp [hl]) (by rw [List.getElem?_append_right (by omega), hl]; simp) (by rw [hx]; simp) (by omega) (by omega) (by simp [hl]; omega) (by simp [hl])]
      have := ih (pre ++ [x]) m (by rw [hx]; simp) (by simp at hn; omega)
      have e1 : ((mkL f pre m0).1 ++ x :: post).set pre.length (f x (m0 + (sumL c pre : Int))).1 = (mkL f (pre ++ [x]) m0).1 ++ post := by
        rw [List.set_append_right _ _ (by omega), hl, Nat.sub_self, List.set_cons_zero, zpm_, zpl_ hc]
        simp [mkL]
      have e2 : m0 + (sumL c pre : Int) + (c x : Int) = m0 + (sumL c (pre ++ [x]) : Int) := by rw [zkq_, z4y_, z5k_]; omega
      rw [e1, e2]
      rw [List.length_append] at this
      simpa using this
  have := main xs [] n rfl hn
  simpa [z5k_, mkL] using this
theorem zaw_ {α : Type} : ∀ l : List α, sumL (fun _ => 1) l = l.length
  | [] => rfl
  | x :: l => by rw [z4y_, zaw_ l, List.length_cons]; omega
noncomputable def mkS (k : Nat) (_ : List UInt8) (m : Int) : List UInt8 × Int := (tM k m, m + ((1 : Nat) : Int))
theorem zwj_ (k : Nat) : ∀ (x : List UInt8) (m : Int), (mkS k x m).2 = m + (((fun _ : List UInt8 => 1) x : Nat) : Int) := fun _ _ => rfl
def mkI (_ : Int) (m : Int) : Int × Int := (m, m + ((1 : Nat) : Int))
theorem zhd_ : ∀ (x : Int) (m : Int), (mkI x m).2 = m + (((fun _ : Int => 1) x : Nat) : Int) := fun _ _ => rfl
theorem zwk_ {k : Nat} (hk : KK ≤ k) {q : List (List Int)} {a : Nat} {z : List Int} (hz : q[a]? = some z) {m : Int} (h0 : 0 ≤ m) (h1 : m ≤ 1000000000000000000) (hl : z.length ≤ 1000000000000) :
    zf1_ k a m q = some ((m + (z.length : Int), ()), (q.set a (mkL mkI z m).1, ()), ()) := by
  have hK := zh_
  have ha := (List.getElem?_eq_some_iff.1 hz).1
  have hs := zaw_ z
  unfold zf1_
  have e : q = q.set a z := by
    obtain ⟨h, rfl⟩ := List.getElem?_eq_some_iff.1 hz
    exact (List.set_getElem_self h).symm
  have := z4z_ zhd_ z (m0 := m) (B := 2000000000000000000) (by omega) (S := fun l => q.set a l) (L := fun n m i q => z98_ k n a m i q (fun k_10 q_11 => some ((k_10, ()), (q_11, ()), ())))
    (G := some ((m + (z.length : Int), ()), (q.set a (mkL mkI z m).1, ()), ())) ?_ ?_ (n := k) (by omega)
  · rw [← e] at this
    exact this
  · intro n i m l y hll hg hy m0 m1 hlt hlt'
    have hw := zg_ (i := i) (by omega)
    have hm : z0_ (m + 1) = m + ((1 : Nat) : Int) := w_id (by omega) (by omega)
    simp only [z98_, List.getElem?_set_self ha, Option.bind_some, hlt, hlt', decide_true, if_true, Int.natCast_nonneg, Int.toNat_natCast, and_self, List.getElem?_eq_getElem hlt', hm, hw, List.set_set, mkI]
  · intro n l hl2 hll
    have : ¬ (z.length : Int) < (l.length : Int) := by omega
    simp only [z98_, List.getElem?_set_self ha, Option.bind_some, this, decide_false, Bool.false_eq_true, if_false, hs]
    rw [hl2]
def mkIS (z : List Int) (m : Int) : List Int × Int := ((mkL mkI z m).1, m + (z.length : Int))
theorem zwl_ (z : List Int) (m : Int) : (mkIS z m).2 = m + (z.length : Int) := rfl
theorem zkx_ {k : Nat} (hk : KK ≤ k) {L : List (List Int)} {m : Int} (h0 : 0 ≤ m) (h1 : m + (sumL List.length L : Int) ≤ 100000000000000000) (hx : ∀ x ∈ L, x.length ≤ 1000000000000) (hL : L.length ≤ 1000000000000) :
    zc3_ k m L = some ((m + (sumL List.length L : Int), ()), ((mkL mkIS L m).1, ()), ()) := by
  have hK := zh_
  unfold zc3_
  refine z4z_ zwl_ L (m0 := m) (B := 100000000000000000) h1 (S := fun l => l) (L := fun n m i q => z99_ k n m i q (fun k_5 q_6 => some ((k_5, ()), (q_6, ()), ()))) ?_ ?_ (n := k) (by omega)
  · intro n i m' l y hll hg hy m0 m1 hlt hlt'
    have hw := zg_ (i := i) (by omega)
    have st := zwk_ hk hg (m := m') (by omega) (by omega) (hx y hy)
    simp only [z99_, hlt, hlt', decide_true, if_true, Option.bind_some, Int.natCast_nonneg, Int.toNat_natCast, and_self, hg, st, hw]
    rfl
  · intro n l hl2 hll
    have : ¬ (L.length : Int) < (l.length : Int) := by omega
    simp only [z99_, this, decide_false, Bool.false_eq_true, if_false]
    rw [hl2]
theorem zcy_ {k : Nat} (hk : KK ≤ k) {a : List Int} {m : Int} (h0 : 0 ≤ m) (h1 : m ≤ 1000000000000000000) (hl : a.length ≤ 1000000000000) :
    z67_ k m a = some ((m + (a.length : Int), ()), ((mkL mkI a m).1, ()), ()) := by
  have hK := zh_
  have hs := zaw_ a
  unfold z67_
  refine z4z_ zhd_ a (m0 := m) (B := 2000000000000000000) (by omega) (S := fun l => l) (L := fun n m i q => z9a_ k n m i q (fun k_5 q_6 => some ((k_5, ()), (q_6, ()), ()))) ?_ ?_ (n := k) (by omega)
  · intro n i m l y hll hg hy m0 m1 hlt hlt'
    have hw := zg_ (i := i) (by omega)
    have hm : z0_ (m + 1) = m + ((1 : Nat) : Int) := w_id (by omega) (by omega)
    simp only [z9a_, Option.bind_some, hlt, hlt', decide_true, if_true, Int.natCast_nonneg, Int.toNat_natCast, and_self, List.getElem?_eq_getElem hlt', hm, hw, mkI]
  · intro n l hl2 hll
    have : ¬ (a.length : Int) < (l.length : Int) := by omega
    simp only [z9a_, this, decide_false, Bool.false_eq_true, if_false, hs]
    rw [hl2]
theorem zwm_ {k : Nat} (hk : KK ≤ k) {q : List It} {a : Nat} {z : It} (hz : q[a]? = some z) {m : Int} (h0 : 0 ≤ m) (h1 : m ≤ 1000000000000000000) (hl : z.2.1.length ≤ 1000000000000) :
    zf7_ k a m q = some ((m + z.2.1.length, ()), (q.set a (z.1, (mkL (mkS k) z.2.1 m).1, z.2.2), ()), ()) := by
  have hK := zh_
  have ha := (List.getElem?_eq_some_iff.1 hz).1
  have hs := zaw_ z.2.1
  unfold zf7_
  have e : q = q.set a (z.1, z.2.1, z.2.2) := by
    obtain ⟨h, rfl⟩ := List.getElem?_eq_some_iff.1 hz
    exact (List.set_getElem_self h).symm
  have := z4z_ (zwj_ k) z.2.1 (m0 := m) (B := 2000000000000000000) (by omega) (S := fun l => q.set a (z.1, l, z.2.2)) (L := fun n m i q => z9g_ k n a m i q (fun k_10 q_11 => some ((k_10, ()), (q_11, ()), ())))
    (G := some ((m + z.2.1.length, ()), (q.set a (z.1, (mkL (mkS k) z.2.1 m).1, z.2.2), ()), ())) ?_ ?_ (n := k) (by omega)
  · rw [← e] at this
    exact this
  · intro n i m l y hll hg hy m0 m1 hlt hlt'
    have hw := zg_ (i := i) (by omega)
    have hm : z0_ (m + 1) = m + ((1 : Nat) : Int) := w_id (by omega) (by omega)
    simp only [z9g_, List.getElem?_set_self ha, Option.bind_some, hlt, hlt', decide_true, if_true, zpk_ hk (show m ≤ 9223372036854775807 by omega), Int.natCast_nonneg, Int.toNat_natCast, and_self, List.getElem?_eq_getElem hlt', hm, hw, List.set_set, mkS]
  · intro n l hl2 hll
    have : ¬ (z.2.1.length : Int) < (l.length : Int) := by omega
    simp only [z9g_, List.getElem?_set_self ha, Option.bind_some, this, decide_false, Bool.false_eq_true, if_false, hs]
    rw [hl2]
noncomputable def mkIt (k : Nat) (x : It) (m : Int) : It × Int := ((tM k m, (mkL (mkS k) x.2.1 (m + 1)).1, m + 1 + x.2.1.length, m + 1 + x.2.1.length + 1), m + ((x.2.1.length + 3 : Nat) : Int))
def ctI (x : It) : Nat := x.2.1.length + 3
theorem zwn_ (k : Nat) (x : It) (m : Int) : (mkIt k x m).2 = m + (ctI x : Int) := rfl
theorem zwo_ {k : Nat} (hk : KK ≤ k) {L : List It} {m : Int} (h0 : 0 ≤ m) (h1 : m + (sumL ctI L : Int) ≤ 100000000000000000) (hx : ∀ x ∈ L, x.2.1.length ≤ 1000000000000) (hL : L.length ≤ 1000000000000) :
    zf8_ k m L = some ((m + (sumL ctI L : Int), ()), ((mkL (mkIt k) L m).1, ()), ()) := by
  have hK := zh_
  unfold zf8_
  refine z4z_ (zwn_ k) L (m0 := m) (B := 100000000000000000) h1 (S := fun l => l) (L := fun n m i q => z9h_ k n m i q (fun k_12 q_13 => some ((k_12, ()), (q_13, ()), ()))) ?_ ?_ (n := k) (by omega)
  · intro n i m' l y hll hg hy m0 m1 hlt hlt'
    have hw := zg_ (i := i) (by omega)
    have hc : ctI y = y.2.1.length + 3 := rfl
    have hyl := hx y hy
    have hm : z0_ (m' + 1) = m' + 1 := w_id (by omega) (by omega)
    have g1 : (l.set i (tM k m', y.2))[i]? = some (tM k m', y.2) := List.getElem?_set_self hlt'
    have w2 : z0_ (m' + 1 + (y.2.1.length : Int) + 1) = m' + 1 + (y.2.1.length : Int) + 1 := w_id (by omega) (by omega)
    have w3 : z0_ (m' + 1 + (y.2.1.length : Int) + 1 + 1) = m' + (ctI y : Int) := by rw [w_id (by omega) (by omega)]; omega
    have st := zwm_ hk g1 (m := m' + 1) (by omega) (by omega) hyl
    simp only [z9h_, hlt, hlt', decide_true, if_true, zpk_ hk (show m' ≤ 9223372036854775807 by omega), Option.bind_some, Int.natCast_nonneg, Int.toNat_natCast, and_self, hg, List.length_set, List.getElem?_set_self hlt', hm, st, List.set_set, w2, w3, hw]
    rfl
  · intro n l hl2 hll
    have : ¬ (L.length : Int) < (l.length : Int) := by omega
    simp only [z9h_, this, decide_false, Bool.false_eq_true, if_false]
    rw [hl2]
theorem zcz_ {α : Type} {f g : α → Nat} {c : Nat} : ∀ {l : List α}, (∀ x ∈ l, f x ≤ g x + c) → sumL f l ≤ sumL g l + c * l.length
  | [], _ => by simp [z5k_]
  | x :: l, h => by
    have h1 := h x (by simp)
    have h2 := zcz_ (f := f) (g := g) (c := c) (l := l) fun y hy => h y (by simp [hy])
    rw [z4y_, z4y_, List.length_cons, Nat.mul_succ]
    omega
theorem zwp_ {k : Nat} (hk : KK ≤ k) {q : List Tbl} {a : Nat} {z : Tbl} (hz : q[a]? = some z) {m : Int} (h0 : 0 ≤ m) (h1 : m ≤ 1000000000000000000) (hl : z.1.length ≤ 1000000000000) :
    zf5_ k a m q = some ((m + (z.1.length : Int), ()), (q.set a ((mkL mkI z.1 m).1, z.2), ()), ()) := by
  have hK := zh_
  have ha := (List.getElem?_eq_some_iff.1 hz).1
  have hs := zaw_ z.1
  unfold zf5_
  have e : q = q.set a (z.1, z.2) := by
    obtain ⟨h, rfl⟩ := List.getElem?_eq_some_iff.1 hz
    exact (List.set_getElem_self h).symm
  have := z4z_ zhd_ z.1 (m0 := m) (B := 2000000000000000000) (by omega) (S := fun l => q.set a (l, z.2)) (L := fun n m i q => z9e_ k n a m i q (fun k_10 q_11 => some ((k_10, ()), (q_11, ()), ())))
    (G := some ((m + (z.1.length : Int), ()), (q.set a ((mkL mkI z.1 m).1, z.2), ()), ())) ?_ ?_ (n := k) (by omega)
  · rw [← e] at this
    exact this
  · intro n i m l y hll hg hy m0 m1 hlt hlt'
    have hw := zg_ (i := i) (by omega)
    have hm : z0_ (m + 1) = m + ((1 : Nat) : Int) := w_id (by omega) (by omega)
    simp only [z9e_, List.getElem?_set_self ha, Option.bind_some, hlt, hlt', decide_true, if_true, Int.natCast_nonneg, Int.toNat_natCast, and_self, List.getElem?_eq_getElem hlt', hm, hw, List.set_set, mkI]
  · intro n l hl2 hll
    have : ¬ (z.1.length : Int) < (l.length : Int) := by omega
    simp only [z9e_, List.getElem?_set_self ha, Option.bind_some, this, decide_false, Bool.false_eq_true, if_false, hs]
    rw [hl2]
theorem zwq_ {k : Nat} (hk : KK ≤ k) {q : List Mat} {a : Nat} {z : Mat} (hz : q[a]? = some z) {m : Int} (h0 : 0 ≤ m) (h1 : m ≤ 1000000000000000000) (hl : z.2.2.2.length ≤ 1000000000000) :
    zf2_ k a m q = some ((m + (z.2.2.2.length : Int), ()), (q.set a (z.1, z.2.1, z.2.2.1, (mkL mkI z.2.2.2 m).1), ()), ()) := by
  have hK := zh_
  have ha := (List.getElem?_eq_some_iff.1 hz).1
  have hs := zaw_ z.2.2.2
  unfold zf2_
  have e : q = q.set a (z.1, z.2.1, z.2.2.1, z.2.2.2) := by
    obtain ⟨h, rfl⟩ := List.getElem?_eq_some_iff.1 hz
    exact (List.set_getElem_self h).symm
  have := z4z_ zhd_ z.2.2.2 (m0 := m) (B := 2000000000000000000) (by omega) (S := fun l => q.set a (z.1, z.2.1, z.2.2.1, l)) (L := fun n m i q => z9b_ k n a m i q (fun k_10 q_11 => some ((k_10, ()), (q_11, ()), ())))
    (G := some ((m + (z.2.2.2.length : Int), ()), (q.set a (z.1, z.2.1, z.2.2.1, (mkL mkI z.2.2.2 m).1), ()), ())) ?_ ?_ (n := k) (by omega)
  · rw [← e] at this
    exact this
  · intro n i m l y hll hg hy m0 m1 hlt hlt'
    have hw := zg_ (i := i) (by omega)
    have hm : z0_ (m + 1) = m + ((1 : Nat) : Int) := w_id (by omega) (by omega)
    simp only [z9b_, List.getElem?_set_self ha, Option.bind_some, hlt, hlt', decide_true, if_true, Int.natCast_nonneg, Int.toNat_natCast, and_self, List.getElem?_eq_getElem hlt', hm, hw, List.set_set, mkI]
  · intro n l hl2 hll
    have : ¬ (z.2.2.2.length : Int) < (l.length : Int) := by omega
    simp only [z9b_, List.getElem?_set_self ha, Option.bind_some, this, decide_false, Bool.false_eq_true, if_false, hs]
    rw [hl2]
def ctT (x : Tbl) : Nat := x.1.length + sumL List.length x.2
def mkTb (x : Tbl) (m : Int) : Tbl × Int := (((mkL mkI x.1 m).1, (mkL mkIS x.2 (m + (x.1.length : Int))).1), m + (ctT x : Int))
theorem zwr_ (x : Tbl) (m : Int) : (mkTb x m).2 = m + (ctT x : Int) := rfl
theorem zws_ {k : Nat} (hk : KK ≤ k) {L : List Tbl} {m : Int} (h0 : 0 ≤ m) (h1 : m + (sumL ctT L : Int) ≤ 10000000000000000) (hx : ∀ x ∈ L, x.2.length ≤ 1000000000000 ∧ ∀ r ∈ x.2, r.length ≤ 1000000000000) (hx1 : ∀ x ∈ L, x.1.length ≤ 1000000000000) (hL : L.length ≤ 1000000000000) :
    zf6_ k m L = some ((m + (sumL ctT L : Int), ()), ((mkL mkTb L m).1, ()), ()) := by
  have hK := zh_
  unfold zf6_
  refine z4z_ zwr_ L (m0 := m) (B := 10000000000000000) h1 (S := fun l => l) (L := fun n m i q => z9f_ k n m i q (fun k_9 q_10 => some ((k_9, ()), (q_10, ()), ()))) ?_ ?_ (n := k) (by omega)
  · intro n i m' l y hll hg hy m0 m1 hlt hlt'
    have hw := zg_ (i := i) (by omega)
    have hc : ctT y = y.1.length + sumL List.length y.2 := rfl
    have st := zwp_ hk hg (m := m') (by omega) (by omega) (hx1 y hy)
    have st2 := zkx_ hk (L := y.2) (m := m' + (y.1.length : Int)) (by omega) (by omega) (hx y hy).2 (hx y hy).1
    have e : m' + (y.1.length : Int) + (sumL List.length y.2 : Int) = m' + (ctT y : Int) := by omega
    simp only [z9f_, hlt, hlt', decide_true, if_true, Option.bind_some, Int.natCast_nonneg, Int.toNat_natCast, and_self, hg, st, List.length_set, List.getElem?_set_self hlt', st2, List.set_set, e, hw]
    rfl
  · intro n l hl2 hll
    have : ¬ (L.length : Int) < (l.length : Int) := by omega
    simp only [z9f_, this, decide_false, Bool.false_eq_true, if_false]
    rw [hl2]
def ctM (x : Mat) : Nat := x.2.2.2.length + 3
def mkMt (x : Mat) (m : Int) : Mat × Int := ((m, m + 1, m + 1 + 1, (mkL mkI x.2.2.2 (m + 1 + 1 + 1)).1), m + (ctM x : Int))
theorem zwt_ (x : Mat) (m : Int) : (mkMt x m).2 = m + (ctM x : Int) := rfl
theorem zwu_ {k : Nat} (hk : KK ≤ k) {L : List Mat} {m : Int} (h0 : 0 ≤ m) (h1 : m + (sumL ctM L : Int) ≤ 10000000000000000) (hx : ∀ x ∈ L, x.2.2.2.length ≤ 1000000000000) (hL : L.length ≤ 1000000000000) :
    zf3_ k m L = some ((m + (sumL ctM L : Int), ()), ((mkL mkMt L m).1, ()), ()) := by
  have hK := zh_
  unfold zf3_
  refine z4z_ zwt_ L (m0 := m) (B := 10000000000000000) h1 (S := fun l => l) (L := fun n m i q => z9c_ k n m i q (fun k_11 q_12 => some ((k_11, ()), (q_12, ()), ()))) ?_ ?_ (n := k) (by omega)
  · intro n i m' l y hll hg hy m0 m1 hlt hlt'
    have hw := zg_ (i := i) (by omega)
    have hc : ctM y = y.2.2.2.length + 3 := rfl
    have w1 : z0_ (m' + 1) = m' + 1 := w_id (by omega) (by omega)
    have w2 : z0_ (m' + 1 + 1) = m' + 1 + 1 := w_id (by omega) (by omega)
    have w3 : z0_ (m' + 1 + 1 + 1) = m' + 1 + 1 + 1 := w_id (by omega) (by omega)
    have st := zwq_ hk (q := l.set i (m', m' + 1, m' + 1 + 1, y.2.2.2)) (a := i) (z := (m', m' + 1, m' + 1 + 1, y.2.2.2)) (List.getElem?_set_self hlt') (m := m' + 1 + 1 + 1) (by omega) (by omega) (hx y hy)
    have e : m' + 1 + 1 + 1 + (y.2.2.2.length : Int) = m' + (ctM y : Int) := by omega
    simp only [z9c_, hlt, hlt', decide_true, if_true, Option.bind_some, Int.natCast_nonneg, Int.toNat_natCast, and_self, hg, List.length_set, List.getElem?_set_self hlt', w1, w2, w3, List.set_set, st, e, hw]
    rfl
  · intro n l hl2 hll
    have : ¬ (L.length : Int) < (l.length : Int) := by omega
    simp only [z9c_, this, decide_false, Bool.false_eq_true, if_false]
    rw [hl2]
def mkEd (_ : Edg) (m : Int) : Edg × Int := ((m, m + 1, m + 1 + 1), m + ((3 : Nat) : Int))
theorem zwv_ : ∀ (x : Edg) (m : Int), (mkEd x m).2 = m + (((fun _ : Edg => 3) x : Nat) : Int) := fun _ _ => rfl
theorem zww_ {k : Nat} (hk : KK ≤ k) {L : List Edg} {m : Int} (h0 : 0 ≤ m) (h1 : m + (sumL (fun _ : Edg => 3) L : Int) ≤ 10000000000000000) (hL : L.length ≤ 1000000000000) :
    zf4_ k m L = some ((m + (sumL (fun _ : Edg => 3) L : Int), ()), ((mkL mkEd L m).1, ()), ()) := by
  have hK := zh_
  unfold zf4_
  refine z4z_ zwv_ L (m0 := m) (B := 10000000000000000) h1 (S := fun l => l) (L := fun n m i q => z9d_ k n m i q (fun k_9 q_10 => some ((k_9, ()), (q_10, ()), ()))) ?_ ?_ (n := k) (by omega)
  · intro n i m' l y hll hg hy m0 m1 hlt hlt'
    have hw := zg_ (i := i) (by omega)
    have w1 : z0_ (m' + 1) = m' + 1 := w_id (by omega) (by omega)
    have w2 : z0_ (m' + 1 + 1) = m' + 1 + 1 := w_id (by omega) (by omega)
    have w3 : z0_ (m' + 1 + 1 + 1) = m' + ((3 : Nat) : Int) := by rw [w_id (by omega) (by omega)]; omega
    simp only [z9d_, hlt, hlt', decide_true, if_true, Option.bind_some, Int.natCast_nonneg, Int.toNat_natCast, and_self, hg, List.length_set, List.getElem?_set_self hlt', w1, w2, w3, List.set_set, hw]
    rfl
  · intro n l hl2 hll
    have : ¬ (L.length : Int) < (l.length : Int) := by omega
    simp only [z9d_, this, decide_false, Bool.false_eq_true, if_false]
    rw [hl2]
theorem zwx_ {k : Nat} (hk : KK ≤ k) (a1 a2 a3 a4 a5 : Int) {q1 : List (List Int)} {q2 : List Int} {q3 : List Mat} {q4 : List Int} {q5 : List Edg} {q6 q7 : List Int} {q8 : List Tbl} {q9 : List (List Int)} {q10 : List Int} {q11 : List It}
    (h1 : z16_ q1 ≤ 1048576) (h2 : q2.length ≤ 1048576) (h3 : z27_ q3 ≤ 1048576) (h4 : q4.length ≤ 1048576) (h5 : q5.length ≤ 1048576) (h6 : q6.length ≤ 1048576) (h7 : q7.length ≤ 1048576) (h8 : z1r_ q8 ≤ 1048576) (h9 : z16_ q9 ≤ 1048576) (h10 : q10.length ≤ 1048576) (h11 : z28_ q11 ≤ 1048576) :
    ∃ y, zf9_ k a1 a2 a3 a4 a5 1 q1 q2 q3 q4 q5 q6 q7 q8 q9 q10 q11 = some y ∧ ¬ y.1.1 < 0 := by
  have e1 : z16_ q1 = q1.length + sumL List.length q1 := rfl
  have e9 : z16_ q9 = q9.length + sumL List.length q9 := rfl
  have e3 : z27_ q3 = q3.length + sumL zw_ q3 := rfl
  have e8 : z1r_ q8 = q8.length + sumL z17_ q8 := rfl
  have e11 : z28_ q11 = q11.length + sumL z1p_ q11 := rfl
  have c3 : sumL ctM q3 ≤ sumL zw_ q3 + 3 * q3.length := zcz_ fun x _ => by
    have a : ctM x = x.2.2.2.length + 3 := rfl
    have b : zw_ x = x.2.2.2.length := rfl
    omega
  have c8 : sumL ctT q8 ≤ sumL z17_ q8 + 0 * q8.length := zcz_ fun x _ => by
    have a : ctT x = x.1.length + sumL List.length x.2 := rfl
    have b : z17_ x = x.1.length + (x.2.length + sumL List.length x.2) := rfl
    omega
  have c11 : sumL ctI q11 ≤ sumL z1p_ q11 + 3 * q11.length := zcz_ fun x _ => by
    have a : ctI x = x.2.1.length + 3 := rfl
    have b : z1p_ x = x.1.length + (x.2.1.length + sumL List.length x.2.1) := rfl
    omega
  have c5 : sumL (fun _ : Edg => 3) q5 ≤ sumL (fun _ : Edg => 0) q5 + 3 * q5.length := zcz_ fun x _ => by omega
  have c5' : sumL (fun _ : Edg => 0) q5 ≤ 0 := by
    have : ∀ l : List Edg, sumL (fun _ : Edg => 0) l = 0 := fun l => by
      induction l with
      | nil => rw [z5k_]
      | cons x l ih => rw [z4y_, ih]
    rw [this]; exact Nat.le_refl _
  have s1 := zkx_ hk (L := q1) (m := 1) (by omega) (by omega) (fun x hx => by have := z1v_ List.length hx; omega) (by omega)
  have s2 := fun m (h0 : 0 ≤ m) (h1 : m ≤ 1000000000) => zcy_ hk (a := q2) (m := m) h0 (by omega) (by omega)
  have s3 := fun m (h0 : 0 ≤ m) (h1 : m ≤ 1000000000) => zwu_ hk (L := q3) (m := m) h0 (by omega) (fun x hx => by have := z1v_ zw_ hx; have b : zw_ x = x.2.2.2.length := rfl; omega) (by omega)
  have s4 := fun m (h0 : 0 ≤ m) (h1 : m ≤ 1000000000) => zcy_ hk (a := q4) (m := m) h0 (by omega) (by omega)
  have s5 := fun m (h0 : 0 ≤ m) (h1 : m ≤ 1000000000) => zww_ hk (L := q5) (m := m) h0 (by omega) (by omega)
  have s6 := fun m (h0 : 0 ≤ m) (h1 : m ≤ 1000000000) => zcy_ hk (a := q6) (m := m) h0 (by omega) (by omega)
  have s7 := fun m (h0 : 0 ≤ m) (h1 : m ≤ 1000000000) => zcy_ hk (a := q7) (m := m) h0 (by omega) (by omega)
  have s8 := fun m (h0 : 0 ≤ m) (h1 : m ≤ 1000000000) => zws_ hk (L := q8) (m := m) h0 (by omega) (fun x hx => by
    have := z1v_ z17_ hx
    have b : z17_ x = x.1.length + (x.2.length + sumL List.length x.2) := rfl
    exact ⟨by omega, fun r hr => by have := z1v_ List.length hr; omega⟩) (fun x hx => by
    have := z1v_ z17_ hx
    have b : z17_ x = x.1.length + (x.2.length + sumL List.length x.2) := rfl
    omega) (by omega)
  have s9 := fun m (h0 : 0 ≤ m) (h1 : m ≤ 1000000000) => zkx_ hk (L := q9) (m := m) h0 (by omega) (fun x hx => by have := z1v_ List.length hx; omega) (by omega)
  have s10 := fun m (h0 : 0 ≤ m) (h1 : m ≤ 1000000000) => zcy_ hk (a := q10) (m := m) h0 (by omega) (by omega)
  have s11 := fun m (h0 : 0 ≤ m) (h1 : m ≤ 1000000000) => zwo_ hk (L := q11) (m := m) h0 (by omega) (fun x hx => by
    have := z1v_ z1p_ hx
    have b : z1p_ x = x.1.length + (x.2.1.length + sumL List.length x.2.1) := rfl
    omega) (by omega)
  unfold zf9_ zj3_ zc4_ zj4_ zj5_ zj6_ zc4_
  rw [s1]
  simp only [Option.bind_some]
  rw [s2 _ (by omega) (by omega)]
  simp only [Option.bind_some]
  rw [s3 _ (by omega) (by omega)]
  simp only [Option.bind_some]
  rw [s4 _ (by omega) (by omega)]
  simp only [Option.bind_some]
  rw [s5 _ (by omega) (by omega)]
  simp only [Option.bind_some]
  rw [s6 _ (by omega) (by omega)]
  simp only [Option.bind_some]
  rw [s7 _ (by omega) (by omega)]
  simp only [Option.bind_some]
  rw [s8 _ (by omega) (by omega)]
  simp only [Option.bind_some]
  rw [s9 _ (by omega) (by omega)]
  simp only [Option.bind_some]
  rw [s10 _ (by omega) (by omega)]
  simp only [Option.bind_some]
  rw [s11 _ (by omega) (by omega)]
  simp only [Option.bind_some]
  exact ⟨_, rfl, by simp only; omega⟩
theorem zwy_ {k : Nat} (hk : KK ≤ k) {a : List (List UInt8)} {m : Int} (h0 : 0 ≤ m) (h1 : m ≤ 1000000000000) (ha : a.length ≤ 1000000000000) :
    ∃ q, zfa_ k m a = some ((m + a.length, ()), (q, ()), ()) ∧ zc5_ k q m = some (m + a.length) := by
  have mt : ∀ i : Nat, i ≤ 2000000000000 → ∃ t, z3r_ k (m + i) = some t := fun i hi => zpj_ hk (by omega)
  let T : Nat → List UInt8 := fun i => (z3r_ k (m + i)).getD []
  have hT : ∀ i : Nat, i ≤ 2000000000000 → z3r_ k (m + i) = some (T i) := fun i hi => by
    obtain ⟨t, ht⟩ := mt i hi
    show _ = some ((z3r_ k (m + i)).getD [])
    rw [ht]; rfl
  refine ⟨(List.range a.length).map T, ?_, ?_⟩
  · unfold zfa_
    have := z1n_ (α := Nat) (A := List (List UInt8)) (L := fun n i q => z9i_ k n (m + i) i q fun k_6 q_7 => some ((k_6, ()), (q_7, ()), ()))
      (I := fun pre q => q.length = a.length ∧ q.take pre.length = (List.range pre.length).map T) (G := fun _ _ => some ((m + a.length, ()), ((List.range a.length).map T, ()), ())) (List.range a.length) ?_ ?_ k (by have := zh_; simp; omega) a ⟨rfl, by simp⟩
    · simpa using this
    · intro n pre x post q hx hq ih hg hlt
      rw [List.length_range] at hlt
      have hw := zg_ (i := pre.length) (by omega)
      have hl : pre.length < q.length := by omega
      have hm : z0_ (m + (pre.length : Int) + 1) = m + ((pre.length + 1 : Nat) : Int) := by rw [w_id (by omega) (by omega)]; omega
      have hlt' : (pre.length : Int) < (q.length : Int) := by omega
      simp only [z9i_, hlt', decide_true, if_true, hT pre.length (by omega), Option.bind_some, Int.natCast_nonneg, Int.toNat_natCast, hl, and_self, List.getElem?_eq_getElem hl, hm, hw]
      refine ih _ ⟨by rw [List.length_set]; exact hq.1, ?_⟩
      rw [List.length_append, List.length_singleton, List.take_succ_eq_append_getElem (by simpa using hl), List.getElem_set_self, List.take_set_of_le (Nat.le_refl _), hq.2, List.range_succ]
      simp
    · intro n q hq
      have : ¬ ((List.range a.length).length : Int) < (q.length : Int) := by rw [hq.1]; simp
      have h2 := hq.2
      rw [List.length_range, ← hq.1, List.take_length, hq.1] at h2
      simp only [z9i_, this, decide_false, Bool.false_eq_true, if_false]
      simp [h2]
  · unfold zc5_
    have := z1n_ (α := List UInt8) (A := Unit) (L := fun n i _ => z9j_ k n ((List.range a.length).map T) (m + i) i fun k_3 => some k_3) (I := fun _ _ => True) (G := fun _ _ => some (m + a.length)) ((List.range a.length).map T) ?_ ?_ k (by have := zh_; simp; omega) () trivial
    · simpa using this
    · intro n pre x post _ hx _ ih hg hlt
      rw [List.length_map, List.length_range] at hlt
      have hw := zg_ (i := pre.length) (by omega)
      have hm : z0_ (m + (pre.length : Int) + 1) = m + ((pre.length + 1 : Nat) : Int) := by rw [w_id (by omega) (by omega)]; omega
      have hxT : x = T pre.length := by
        rw [List.getElem?_map, List.getElem?_range (by omega)] at hg
        simpa using hg.symm
      have hlt' : (pre.length : Int) < (((List.range a.length).map T).length : Int) := by simp; omega
      simp only [z9j_, hlt', decide_true, if_true, Int.natCast_nonneg, Int.toNat_natCast, hg, Option.bind_some, hT pre.length (by omega), hxT, Bool.not_true, Bool.false_eq_true, if_false, hm, hw]
      exact ih () trivial
    · intro n _ _
      simp [z9j_]
theorem z87_ {k : Nat} (hk : KK ≤ k) {a : List Int} (h : zk_ a ≤ 10000000000) : z4r_ k a = some a := by
  have hl : a.length ≤ 10000000000 := Nat.le_trans (show a.length ≤ zk_ a by unfold zk_; omega) h
  unfold z4r_
  have hL := z1i_
  rw [if_pos ⟨by omega, Int.le_refl _, by omega⟩]
  refine z76_ (L := fun n i q => z8y_ k n a i q fun q_5 => some q_5) (e := fun q => some q) a _ (by simp) ?_ ?_ (n := k) (by have := zh_; omega)
  · intro n i x q hx hlt hq
    have hw := zg_ (i := i) (by omega)
    have hi : i < q.length := by omega
    simp [z8y_, hlt, hx, hw, hi]
  · intro n q
    simp [z8y_]
theorem zpn_ {k : Nat} (hk : KK ≤ k) {a : List (List Int)} (h : z16_ a ≤ 10000000000) : zbx_ k a = some a := by
  have hl : a.length ≤ 10000000000 := Nat.le_trans (show a.length ≤ z16_ a by unfold z16_; omega) h
  unfold zbx_
  have hL := z1i_
  rw [if_pos ⟨by omega, Int.le_refl _, by omega⟩]
  refine z76_ (L := fun n i q => z8z_ k n a i q fun q_5 => some q_5) (e := fun q => some q) a _ (by simp) ?_ ?_ (n := k) (by have := zh_; omega)
  · intro n i x q hx hlt hq
    have hw := zg_ (i := i) (by omega)
    have hi : i < q.length := by omega
    have hm := z1v_ zk_ (List.mem_of_getElem? hx)
    have hb : zk_ x ≤ 10000000000 := by unfold z16_ at h; omega
    simp [z8z_, z87_ hk hb, hlt, hx, hw, hi]
  · intro n q
    simp [z8z_]
theorem zpo_ {k : Nat} (hk : KK ≤ k) {a : List (List Int)} (h : z1q_ a ≤ 10000000000) : zby_ k a = some a := by
  have b0 : (z16_ a) ≤ 10000000000 := by unfold z1q_ at h; omega
  unfold zby_
  simp only [zpn_ hk b0, Option.bind_some] <;> rfl
theorem zpp_ {k : Nat} (hk : KK ≤ k) {a : Int × Int × Int × List Int} (h : zw_ a ≤ 10000000000) : zbz_ k a = some a := by
  have b3 : (zk_ (a.2.2.2)) ≤ 10000000000 := by unfold zw_ at h; omega
  unfold zbz_
  simp only [z87_ hk b3, Option.bind_some] <;> rfl
theorem zwz_ {k : Nat} (hk : KK ≤ k) {a : List (Int × Int × Int × List Int)} (h : z27_ a ≤ 10000000000) : zen_ k a = some a := by
  have hl : a.length ≤ 10000000000 := Nat.le_trans (show a.length ≤ z27_ a by unfold z27_; omega) h
  unfold zen_
  have hL := z1i_
  rw [if_pos ⟨by omega, Int.le_refl _, by omega⟩]
  refine z76_ (L := fun n i q => z90_ k n a i q fun q_5 => some q_5) (e := fun q => some q) a _ (by simp) ?_ ?_ (n := k) (by have := zh_; omega)
  · intro n i x q hx hlt hq
    have hw := zg_ (i := i) (by omega)
    have hi : i < q.length := by omega
    have hm := z1v_ zw_ (List.mem_of_getElem? hx)
    have hb : zw_ x ≤ 10000000000 := by unfold z27_ at h; omega
    simp [z90_, zpp_ hk hb, hlt, hx, hw, hi]
  · intro n q
    simp [z90_]
theorem zx0_ {k : Nat} (hk : KK ≤ k) {a : List (List Int) × Int × List Int × (List (Int × Int × Int × List Int))} (h : z10_ a ≤ 10000000000) : zeo_ k a = some a := by
  have b0 : (z1q_ (a.1)) ≤ 10000000000 := by unfold z10_ at h; omega
  have b2 : (zk_ (a.2.2.1)) ≤ 10000000000 := by unfold z10_ at h; omega
  have b3 : (z27_ (a.2.2.2)) ≤ 10000000000 := by unfold z10_ at h; omega
  unfold zeo_
  simp only [zpo_ hk b0, z87_ hk b2, zwz_ hk b3, Option.bind_some] <;> rfl
theorem zx1_ {a : Int × Int × Int}  : zep_ a = some a := by
  unfold zep_
  rfl
theorem zx2_ {k : Nat} (hk : KK ≤ k) {a : List (Int × Int × Int)} (h : z3c_ a ≤ 10000000000) : zfd_ k a = some a := by
  have hl : a.length ≤ 10000000000 := Nat.le_trans (show a.length ≤ z3c_ a by unfold z3c_; omega) h
  unfold zfd_
  have hL := z1i_
  rw [if_pos ⟨by omega, Int.le_refl _, by omega⟩]
  refine z76_ (L := fun n i q => z9k_ k n a i q fun q_5 => some q_5) (e := fun q => some q) a _ (by simp) ?_ ?_ (n := k) (by have := zh_; omega)
  · intro n i x q hx hlt hq
    have hw := zg_ (i := i) (by omega)
    have hi : i < q.length := by omega
    simp [z9k_, zx1_, hlt, hx, hw, hi]
  · intro n q
    simp [z9k_]
theorem zx3_ {k : Nat} (hk : KK ≤ k) {a : Int × (List (Int × Int × Int))} (h : z1w_ a ≤ 10000000000) : zfe_ k a = some a := by
  have b1 : (z3c_ (a.2)) ≤ 10000000000 := by unfold z1w_ at h; omega
  unfold zfe_
  simp only [zx2_ hk b1, Option.bind_some] <;> rfl
theorem zx4_ {k : Nat} (hk : KK ≤ k) {a : List Int × List (List Int)} (h : z17_ a ≤ 10000000000) : zff_ k a = some a := by
  have b0 : (zk_ (a.1)) ≤ 10000000000 := by unfold z17_ at h; omega
  have b1 : (z16_ (a.2)) ≤ 10000000000 := by unfold z17_ at h; omega
  unfold zff_
  simp only [z87_ hk b0, zpn_ hk b1, Option.bind_some] <;> rfl
theorem zx5_ {k : Nat} (hk : KK ≤ k) {a : List (List Int × List (List Int))} (h : z1r_ a ≤ 10000000000) : zfg_ k a = some a := by
  have hl : a.length ≤ 10000000000 := Nat.le_trans (show a.length ≤ z1r_ a by unfold z1r_; omega) h
  unfold zfg_
  have hL := z1i_
  rw [if_pos ⟨by omega, Int.le_refl _, by omega⟩]
  refine z76_ (L := fun n i q => z9l_ k n a i q fun q_5 => some q_5) (e := fun q => some q) a _ (by simp) ?_ ?_ (n := k) (by have := zh_; omega)
  · intro n i x q hx hlt hq
    have hw := zg_ (i := i) (by omega)
    have hi : i < q.length := by omega
    have hm := z1v_ z17_ (List.mem_of_getElem? hx)
    have hb : z17_ x ≤ 10000000000 := by unfold z1r_ at h; omega
    simp [z9l_, zx4_ hk hb, hlt, hx, hw, hi]
  · intro n q
    simp [z9l_]
theorem zx6_ {k : Nat} (hk : KK ≤ k) {a : List (List Int) × List Int} (h : z2u_ a ≤ 10000000000) : zfh_ k a = some a := by
  have b0 : (z1q_ (a.1)) ≤ 10000000000 := by unfold z2u_ at h; omega
  have b1 : (zk_ (a.2)) ≤ 10000000000 := by unfold z2u_ at h; omega
  unfold zfh_
  simp only [zpo_ hk b0, z87_ hk b1, Option.bind_some] <;> rfl
theorem zx7_ {k : Nat} (hk : KK ≤ k) {a : List (List UInt8)} (h : z2v_ a ≤ 10000000000) : zfi_ k a = some a := by
  have hl : a.length ≤ 10000000000 := Nat.le_trans (show a.length ≤ z2v_ a by unfold z2v_; omega) h
  unfold zfi_
  have hL := z1i_
  rw [if_pos ⟨by omega, Int.le_refl _, by omega⟩]
  refine z76_ (L := fun n i q => z9m_ k n a i q fun q_5 => some q_5) (e := fun q => some q) a _ (by simp) ?_ ?_ (n := k) (by have := zh_; omega)
  · intro n i x q hx hlt hq
    have hw := zg_ (i := i) (by omega)
    have hi : i < q.length := by omega
    simp [z9m_, hlt, hx, hw, hi]
  · intro n q
    simp [z9m_]
theorem zx8_ {k : Nat} (hk : KK ≤ k) {a : List UInt8 × List (List UInt8) × Int × Int} (h : z1p_ a ≤ 10000000000) : zfj_ k a = some a := by
  have b1 : (z2v_ (a.2.1)) ≤ 10000000000 := by unfold z1p_ at h; omega
  unfold zfj_
  simp only [zx7_ hk b1, Option.bind_some] <;> rfl
theorem zx9_ {k : Nat} (hk : KK ≤ k) {a : List (List UInt8 × List (List UInt8) × Int × Int)} (h : z28_ a ≤ 10000000000) : zfk_ k a = some a := by
  have hl : a.length ≤ 10000000000 := Nat.le_trans (show a.length ≤ z28_ a by unfold z28_; omega) h
  unfold zfk_
  have hL := z1i_
  rw [if_pos ⟨by omega, Int.le_refl _, by omega⟩]
  refine z76_ (L := fun n i q => z9n_ k n a i q fun q_5 => some q_5) (e := fun q => some q) a _ (by simp) ?_ ?_ (n := k) (by have := zh_; omega)
  · intro n i x q hx hlt hq
    have hw := zg_ (i := i) (by omega)
    have hi : i < q.length := by omega
    have hm := z1v_ z1p_ (List.mem_of_getElem? hx)
    have hb : z1p_ x ≤ 10000000000 := by unfold z28_ at h; omega
    simp [z9n_, zx8_ hk hb, hlt, hx, hw, hi]
  · intro n q
    simp [z9n_]
theorem zxa_ {k : Nat} (hk : KK ≤ k) {a : (List (List Int) × Int × List Int × (List (Int × Int × Int × List Int))) × List Int × (Int × (List (Int × Int × Int))) × List Int × (Int × Int × Int × List Int) × (List (List Int × List (List Int))) × (List (List Int) × List Int) × (List (List UInt8 × List (List UInt8) × Int × Int))} (h : z1f_ a ≤ 10000000000) : z79_ k a = some a := by
  have b0 : (z10_ (a.1)) ≤ 10000000000 := by unfold z1f_ at h; omega
  have b1 : (zk_ (a.2.1)) ≤ 10000000000 := by unfold z1f_ at h; omega
  have b2 : (z1w_ (a.2.2.1)) ≤ 10000000000 := by unfold z1f_ at h; omega
  have b3 : (zk_ (a.2.2.2.1)) ≤ 10000000000 := by unfold z1f_ at h; omega
  have b4 : (zw_ (a.2.2.2.2.1)) ≤ 10000000000 := by unfold z1f_ at h; omega
  have b5 : (z1r_ (a.2.2.2.2.2.1)) ≤ 10000000000 := by unfold z1f_ at h; omega
  have b6 : (z2u_ (a.2.2.2.2.2.2.1)) ≤ 10000000000 := by unfold z1f_ at h; omega
  have b7 : (z28_ (a.2.2.2.2.2.2.2)) ≤ 10000000000 := by unfold z1f_ at h; omega
  unfold z79_
  simp only [zx0_ hk b0, z87_ hk b1, zx3_ hk b2, z87_ hk b3, zpp_ hk b4, zx5_ hk b5, zx6_ hk b6, zx9_ hk b7, Option.bind_some] <;> rfl
theorem z88_ {k : Nat} (hk : KK ≤ k) {a b : List Int} (h : zk_ a ≤ 10000000000) : z4s_ k a b = some (decide (a = b)) := by
  have hle : a.length ≤ 10000000000 := Nat.le_trans (show a.length ≤ zk_ a by unfold zk_; omega) h
  unfold z4s_
  by_cases hl : a.length = b.length
  · rw [if_neg (by simp [hl])]
    refine z66_ (L := fun n i => z92_ k n a b i (some true)) a b hl ?_ ?_ (n := k) (by have := zh_; omega)
    · intro n i x y hx hy hlt
      have hw := zg_ (i := i) (by omega)
      by_cases e : x = y <;> simp [z92_, hlt, hx, hy, hw, e]
    · intro n
      simp [z92_]
  · have h2 : a ≠ b := fun e => hl (by rw [e])
    have h3 : ¬ (a.length : Int) = b.length := by omega
    simp [h3, h2]
theorem zpq_ {k : Nat} (hk : KK ≤ k) {a b : List (List Int)} (h : z16_ a ≤ 10000000000) : zc0_ k a b = some (decide (a = b)) := by
  have hle : a.length ≤ 10000000000 := Nat.le_trans (show a.length ≤ z16_ a by unfold z16_; omega) h
  unfold zc0_
  by_cases hl : a.length = b.length
  · rw [if_neg (by simp [hl])]
    refine z66_ (L := fun n i => z93_ k n a b i (some true)) a b hl ?_ ?_ (n := k) (by have := zh_; omega)
    · intro n i x y hx hy hlt
      have hw := zg_ (i := i) (by omega)
      have hm := z1v_ zk_ (List.mem_of_getElem? hx)
      have hb : zk_ x ≤ 10000000000 := by unfold z16_ at h; omega
      simp only [z93_, hlt, decide_true, if_true, Int.natCast_nonneg, Int.toNat_natCast, hx, hy, Option.bind_some, hw, z88_ hk hb]
      by_cases e : x = y
      · rw [decide_eq_true e, if_pos e]; simp
      · rw [decide_eq_false e, if_neg e]; simp
    · intro n
      simp [z93_]
  · have h2 : a ≠ b := fun e => hl (by rw [e])
    have h3 : ¬ (a.length : Int) = b.length := by omega
    simp [h3, h2]
theorem zpr_ {k : Nat} (hk : KK ≤ k) {a b : List (List Int)} (h : z1q_ a ≤ 10000000000) : zc1_ k a b = some (decide (a = b)) := by
  have c0 : (z16_ a) ≤ 10000000000 := by unfold z1q_ at h; omega
  unfold zc1_
  simp only [zpq_ hk c0, Option.bind_some, Prod.mk.injEq]
  by_cases x0 : a = b
  case neg => simp [x0]
  subst x0
  simp
theorem zps_ {k : Nat} (hk : KK ≤ k) {a b : Int × Int × Int × List Int} (h : zw_ a ≤ 10000000000) : zc2_ k a b = some (decide (a = b)) := by
  obtain ⟨a0, a1, a2, a3⟩ := a
  obtain ⟨b0, b1, b2, b3⟩ := b
  have c3 : (zk_ a3) ≤ 10000000000 := by unfold zw_ at h; simp only at h; omega
  unfold zc2_
  simp only [z88_ hk c3, Option.bind_some, Prod.mk.injEq]
  by_cases x0 : a0 = b0
  case neg => simp [x0]
  subst x0
  by_cases x1 : a1 = b1
  case neg => simp [x1]
  subst x1
  by_cases x2 : a2 = b2
  case neg => simp [x2]
  subst x2
  by_cases x3 : a3 = b3
  case neg => simp [x3]
  subst x3
  simp
theorem zxb_ {k : Nat} (hk : KK ≤ k) {a b : List (Int × Int × Int × List Int)} (h : z27_ a ≤ 10000000000) : zeq_ k a b = some (decide (a = b)) := by
  have hle : a.length ≤ 10000000000 := Nat.le_trans (show a.length ≤ z27_ a by unfold z27_; omega) h
  unfold zeq_
  by_cases hl : a.length = b.length
  · rw [if_neg (by simp [hl])]
    refine z66_ (L := fun n i => z94_ k n a b i (some true)) a b hl ?_ ?_ (n := k) (by have := zh_; omega)
    · intro n i x y hx hy hlt
      have hw := zg_ (i := i) (by omega)
      have hm := z1v_ zw_ (List.mem_of_getElem? hx)
      have hb : zw_ x ≤ 10000000000 := by unfold z27_ at h; omega
      simp only [z94_, hlt, decide_true, if_true, Int.natCast_nonneg, Int.toNat_natCast, hx, hy, Option.bind_some, hw, zps_ hk hb]
      by_cases e : x = y
      · rw [decide_eq_true e, if_pos e]; simp
      · rw [decide_eq_false e, if_neg e]; simp
    · intro n
      simp [z94_]
  · have h2 : a ≠ b := fun e => hl (by rw [e])
    have h3 : ¬ (a.length : Int) = b.length := by omega
    simp [h3, h2]
theorem zxc_ {k : Nat} (hk : KK ≤ k) {a b : List (List Int) × Int × List Int × (List (Int × Int × Int × List Int))} (h : z10_ a ≤ 10000000000) : zer_ k a b = some (decide (a = b)) := by
  obtain ⟨a0, a1, a2, a3⟩ := a
  obtain ⟨b0, b1, b2, b3⟩ := b
  have c0 : (z1q_ a0) ≤ 10000000000 := by unfold z10_ at h; simp only at h; omega
  have c2 : (zk_ a2) ≤ 10000000000 := by unfold z10_ at h; simp only at h; omega
  have c3 : (z27_ a3) ≤ 10000000000 := by unfold z10_ at h; simp only at h; omega
  unfold zer_
  simp only [zpr_ hk c0, z88_ hk c2, zxb_ hk c3, Option.bind_some, Prod.mk.injEq]
  by_cases x0 : a0 = b0
  case neg => simp [x0]
  subst x0
  by_cases x1 : a1 = b1
  case neg => simp [x1]
  subst x1
  by_cases x2 : a2 = b2
  case neg => simp [x2]
  subst x2
  by_cases x3 : a3 = b3
  case neg => simp [x3]
  subst x3
  simp
theorem zxd_ {a b : Int × Int × Int}  : zes_ a b = some (decide (a = b)) := by
  obtain ⟨a0, a1, a2⟩ := a
  obtain ⟨b0, b1, b2⟩ := b
  unfold zes_
  simp only [Prod.mk.injEq]
  by_cases x0 : a0 = b0
  case neg => simp [x0]
  subst x0
  by_cases x1 : a1 = b1
  case neg => simp [x1]
  subst x1
  by_cases x2 : a2 = b2
  case neg => simp [x2]
  subst x2
  simp
theorem zxe_ {k : Nat} (hk : KK ≤ k) {a b : List (Int × Int × Int)} (h : z3c_ a ≤ 10000000000) : zet_ k a b = some (decide (a = b)) := by
  have hle : a.length ≤ 10000000000 := Nat.le_trans (show a.length ≤ z3c_ a by unfold z3c_; omega) h
  unfold zet_
  by_cases hl : a.length = b.length
  · rw [if_neg (by simp [hl])]
    refine z66_ (L := fun n i => z95_ k n a b i (some true)) a b hl ?_ ?_ (n := k) (by have := zh_; omega)
    · intro n i x y hx hy hlt
      have hw := zg_ (i := i) (by omega)
      simp only [z95_, hlt, decide_true, if_true, Int.natCast_nonneg, Int.toNat_natCast, hx, hy, Option.bind_some, hw, zxd_]
      by_cases e : x = y
      · rw [decide_eq_true e, if_pos e]; simp
      · rw [decide_eq_false e, if_neg e]; simp
    · intro n
      simp [z95_]
  · have h2 : a ≠ b := fun e => hl (by rw [e])
    have h3 : ¬ (a.length : Int) = b.length := by omega
    simp [h3, h2]
theorem zxf_ {k : Nat} (hk : KK ≤ k) {a b : Int × (List (Int × Int × Int))} (h : z1w_ a ≤ 10000000000) : zeu_ k a b = some (decide (a = b)) := by
  obtain ⟨a0, a1⟩ := a
  obtain ⟨b0, b1⟩ := b
  have c1 : (z3c_ a1) ≤ 10000000000 := by unfold z1w_ at h; simp only at h; omega
  unfold zeu_
  simp only [zxe_ hk c1, Option.bind_some, Prod.mk.injEq]
  by_cases x0 : a0 = b0
  case neg => simp [x0]
  subst x0
  by_cases x1 : a1 = b1
  case neg => simp [x1]
  subst x1
  simp
theorem zxg_ {k : Nat} (hk : KK ≤ k) {a b : List Int × List (List Int)} (h : z17_ a ≤ 10000000000) : zev_ k a b = some (decide (a = b)) := by
  obtain ⟨a0, a1⟩ := a
  obtain ⟨b0, b1⟩ := b
  have c0 : (zk_ a0) ≤ 10000000000 := by unfold z17_ at h; simp only at h; omega
  have c1 : (z16_ a1) ≤ 10000000000 := by unfold z17_ at h; simp only at h; omega
  unfold zev_
  simp only [z88_ hk c0, zpq_ hk c1, Option.bind_some, Prod.mk.injEq]
  by_cases x0 : a0 = b0
  case neg => simp [x0]
  subst x0
  by_cases x1 : a1 = b1
  case neg => simp [x1]
  subst x1
  simp
theorem zxh_ {k : Nat} (hk : KK ≤ k) {a b : List (List Int × List (List Int))} (h : z1r_ a ≤ 10000000000) : zew_ k a b = some (decide (a = b)) := by
  have hle : a.length ≤ 10000000000 := Nat.le_trans (show a.length ≤ z1r_ a by unfold z1r_; omega) h
  unfold zew_
  by_cases hl : a.length = b.length
  · rw [if_neg (by simp [hl])]
    refine z66_ (L := fun n i => z96_ k n a b i (some true)) a b hl ?_ ?_ (n := k) (by have := zh_; omega)
    · intro n i x y hx hy hlt
      have hw := zg_ (i := i) (by omega)
      have hm := z1v_ z17_ (List.mem_of_getElem? hx)
      have hb : z17_ x ≤ 10000000000 := by unfold z1r_ at h; omega
      simp only [z96_, hlt, decide_true, if_true, Int.natCast_nonneg, Int.toNat_natCast, hx, hy, Option.bind_some, hw, zxg_ hk hb]
      by_cases e : x = y
      · rw [decide_eq_true e, if_pos e]; simp
      · rw [decide_eq_false e, if_neg e]; simp
    · intro n
      simp [z96_]
  · have h2 : a ≠ b := fun e => hl (by rw [e])
    have h3 : ¬ (a.length : Int) = b.length := by omega
    simp [h3, h2]
theorem zxi_ {k : Nat} (hk : KK ≤ k) {a b : List (List Int) × List Int} (h : z2u_ a ≤ 10000000000) : zex_ k a b = some (decide (a = b)) := by
  obtain ⟨a0, a1⟩ := a
  obtain ⟨b0, b1⟩ := b
  have c0 : (z1q_ a0) ≤ 10000000000 := by unfold z2u_ at h; simp only at h; omega
  have c1 : (zk_ a1) ≤ 10000000000 := by unfold z2u_ at h; simp only at h; omega
  unfold zex_
  simp only [zpr_ hk c0, z88_ hk c1, Option.bind_some, Prod.mk.injEq]
  by_cases x0 : a0 = b0
  case neg => simp [x0]
  subst x0
  by_cases x1 : a1 = b1
  case neg => simp [x1]
  subst x1
  simp
theorem zpt_ {k : Nat} (hk : KK ≤ k) {a b : List (List UInt8)} (h : z2v_ a ≤ 10000000000) : z77_ k a b = some (decide (a = b)) := by
  have hle : a.length ≤ 10000000000 := Nat.le_trans (show a.length ≤ z2v_ a by unfold z2v_; omega) h
  unfold z77_
  by_cases hl : a.length = b.length
  · rw [if_neg (by simp [hl])]
    refine z66_ (L := fun n i => z91_ k n a b i (some true)) a b hl ?_ ?_ (n := k) (by have := zh_; omega)
    · intro n i x y hx hy hlt
      have hw := zg_ (i := i) (by omega)
      by_cases e : x = y <;> simp [z91_, hlt, hx, hy, hw, e]
    · intro n
      simp [z91_]
  · have h2 : a ≠ b := fun e => hl (by rw [e])
    have h3 : ¬ (a.length : Int) = b.length := by omega
    simp [h3, h2]
theorem zxj_ {k : Nat} (hk : KK ≤ k) {a b : List UInt8 × List (List UInt8) × Int × Int} (h : z1p_ a ≤ 10000000000) : zey_ k a b = some (decide (a = b)) := by
  obtain ⟨a0, a1, a2, a3⟩ := a
  obtain ⟨b0, b1, b2, b3⟩ := b
  have c1 : (z2v_ a1) ≤ 10000000000 := by unfold z1p_ at h; simp only at h; omega
  unfold zey_
  simp only [zpt_ hk c1, Option.bind_some, Prod.mk.injEq]
  by_cases x0 : a0 = b0
  case neg => simp [x0]
  subst x0
  by_cases x1 : a1 = b1
  case neg => simp [x1]
  subst x1
  by_cases x2 : a2 = b2
  case neg => simp [x2]
  subst x2
  by_cases x3 : a3 = b3
  case neg => simp [x3]
  subst x3
  simp
theorem zxk_ {k : Nat} (hk : KK ≤ k) {a b : List (List UInt8 × List (List UInt8) × Int × Int)} (h : z28_ a ≤ 10000000000) : zez_ k a b = some (decide (a = b)) := by
  have hle : a.length ≤ 10000000000 := Nat.le_trans (show a.length ≤ z28_ a by unfold z28_; omega) h
  unfold zez_
  by_cases hl : a.length = b.length
  · rw [if_neg (by simp [hl])]
    refine z66_ (L := fun n i => z97_ k n a b i (some true)) a b hl ?_ ?_ (n := k) (by have := zh_; omega)
    · intro n i x y hx hy hlt
      have hw := zg_ (i := i) (by omega)
      have hm := z1v_ z1p_ (List.mem_of_getElem? hx)
      have hb : z1p_ x ≤ 10000000000 := by unfold z28_ at h; omega
      simp only [z97_, hlt, decide_true, if_true, Int.natCast_nonneg, Int.toNat_natCast, hx, hy, Option.bind_some, hw, zxj_ hk hb]
      by_cases e : x = y
      · rw [decide_eq_true e, if_pos e]; simp
      · rw [decide_eq_false e, if_neg e]; simp
    · intro n
      simp [z97_]
  · have h2 : a ≠ b := fun e => hl (by rw [e])
    have h3 : ¬ (a.length : Int) = b.length := by omega
    simp [h3, h2]
theorem zxl_ {k : Nat} (hk : KK ≤ k) {a b : (List (List Int) × Int × List Int × (List (Int × Int × Int × List Int))) × List Int × (Int × (List (Int × Int × Int))) × List Int × (Int × Int × Int × List Int) × (List (List Int × List (List Int))) × (List (List Int) × List Int) × (List (List UInt8 × List (List UInt8) × Int × Int))} (h : z1f_ a ≤ 10000000000) : zf0_ k a b = some (decide (a = b)) := by
  obtain ⟨a0, a1, a2, a3, a4, a5, a6, a7⟩ := a
  obtain ⟨b0, b1, b2, b3, b4, b5, b6, b7⟩ := b
  have c0 : (z10_ a0) ≤ 10000000000 := by unfold z1f_ at h; simp only at h; omega
  have c1 : (zk_ a1) ≤ 10000000000 := by unfold z1f_ at h; simp only at h; omega
  have c2 : (z1w_ a2) ≤ 10000000000 := by unfold z1f_ at h; simp only at h; omega
  have c3 : (zk_ a3) ≤ 10000000000 := by unfold z1f_ at h; simp only at h; omega
  have c4 : (zw_ a4) ≤ 10000000000 := by unfold z1f_ at h; simp only at h; omega
  have c5 : (z1r_ a5) ≤ 10000000000 := by unfold z1f_ at h; simp only at h; omega
  have c6 : (z2u_ a6) ≤ 10000000000 := by unfold z1f_ at h; simp only at h; omega
  have c7 : (z28_ a7) ≤ 10000000000 := by unfold z1f_ at h; simp only at h; omega
  unfold zf0_
  simp only [zxc_ hk c0, z88_ hk c1, zxf_ hk c2, z88_ hk c3, zps_ hk c4, zxh_ hk c5, zxi_ hk c6, zxk_ hk c7, Option.bind_some, Prod.mk.injEq]
  by_cases x0 : a0 = b0
  case neg => simp [x0]
  subst x0
  by_cases x1 : a1 = b1
  case neg => simp [x1]
  subst x1
  by_cases x2 : a2 = b2
  case neg => simp [x2]
  subst x2
  by_cases x3 : a3 = b3
  case neg => simp [x3]
  subst x3
  by_cases x4 : a4 = b4
  case neg => simp [x4]
  subst x4
  by_cases x5 : a5 = b5
  case neg => simp [x5]
  subst x5
  by_cases x6 : a6 = b6
  case neg => simp [x6]
  subst x6
  by_cases x7 : a7 = b7
  case neg => simp [x7]
  subst x7
  simp
theorem zxm_ (x : (List (List Int) × Int × List Int × (List (Int × Int × Int × List Int))) × List Int × (Int × (List (Int × Int × Int))) × List Int × (Int × Int × Int × List Int) × (List (List Int × List (List Int))) × (List (List Int) × List Int) × (List (List UInt8 × List (List UInt8) × Int × Int))) : ((x.1.1, (x.1.2.1, (x.1.2.2.1, x.1.2.2.2))), (x.2.1, ((x.2.2.1.1, x.2.2.1.2), (x.2.2.2.1, ((x.2.2.2.2.1.1, (x.2.2.2.2.1.2.1, (x.2.2.2.2.1.2.2.1, x.2.2.2.2.1.2.2.2))), (x.2.2.2.2.2.1, ((x.2.2.2.2.2.2.1.1, x.2.2.2.2.2.2.1.2), x.2.2.2.2.2.2.2))))))) = x := rfl
theorem zxn_ {e0 e1 e2 e3 e4 e5 e6 e7 e8 e9 e10 e11 e12 e13 e14 e15 e16 e17 : TypeId} (a0 : DskT) (f0 : InR (.st (.pr (.st (.pr (.st (.sl e0 (.sl e1 (.int .i64)))) (.pr (.int .i64) (.pr (.sl e2 (.int .i64)) (.sl e3 (.st (.pr (.int .i64) (.pr (.int .i64) (.pr (.int .i64) (.sl e4 (.int .i64))))))))))) (.pr (.sl e5 (.int .i64)) (.pr (.st (.pr (.int .i64) (.sl e6 (.st (.pr (.int .i64) (.pr (.int .i64) (.int .i64))))))) (.pr (.sl e7 (.int .i64)) (.pr (.st (.pr (.int .i64) (.pr (.int .i64) (.pr (.int .i64) (.sl e8 (.int .i64)))))) (.pr (.sl e9 (.st (.pr (.sl e10 (.int .i64)) (.sl e11 (.sl e12 (.int .i64)))))) (.pr (.st (.pr (.st (.sl e13 (.sl e14 (.int .i64)))) (.sl e15 (.int .i64)))) (.sl e16 (.st (.pr .str (.pr (.sl e17 .str) (.pr (.int .i64) (.int .i64)))))))))))))) a0) : ∃ k : Nat, zfb_ k a0 = some true := by
  have hk := Nat.le_refl KK
  refine ⟨KK, ?_⟩
  have q0 := zw9_ hk (a := a0) (left := 1048576) (by omega) (by omega) f0
  unfold zfb_
  rw [q0]
  by_cases c0 : (z1f_ a0 : Int) ≤ 1048576
  case neg => rw [if_neg c0]; simp only [Option.bind_some]; rw [decide_eq_true (by omega), if_pos rfl]
  rw [if_pos c0]; simp only [Option.bind_some]
  rw [decide_eq_false (by omega), if_neg (by simp)]
  have b0 : z1f_ a0 ≤ 10000000000 := by omega
  have e : z1f_ a0 = (z16_ a0.1.1 + a0.1.2.2.1.length + z27_ a0.1.2.2.2) + a0.2.1.length + a0.2.2.1.2.length + a0.2.2.2.1.length + a0.2.2.2.2.1.2.2.2.length + z1r_ a0.2.2.2.2.2.1 + (z16_ a0.2.2.2.2.2.2.1.1 + a0.2.2.2.2.2.2.1.2.length) + z28_ a0.2.2.2.2.2.2.2 := rfl
  have e1 : z16_ a0.1.1 = a0.1.1.length + sumL List.length a0.1.1 := rfl
  have hs := zwa_ (d := a0) (by omega)
  obtain ⟨r, hS, hI, hl, hl2⟩ := zwi_ hk hs (by omega)
  obtain ⟨y, hy, hy0⟩ := zwx_ hk a0.1.2.1 a0.2.2.1.1 a0.2.2.2.2.1.1 a0.2.2.2.2.1.2.1 a0.2.2.2.2.1.2.2.1 (q1 := a0.1.1) (q2 := a0.1.2.2.1) (q3 := a0.1.2.2.2) (q4 := a0.2.1) (q5 := a0.2.2.1.2) (q6 := a0.2.2.2.1) (q7 := a0.2.2.2.2.1.2.2.2) (q8 := a0.2.2.2.2.2.1) (q9 := a0.2.2.2.2.2.2.1.1) (q10 := a0.2.2.2.2.2.2.1.2) (q11 := a0.2.2.2.2.2.2.2) (by omega) (by omega) (by omega) (by omega) (by omega) (by omega) (by omega) (by omega) (by omega) (by omega) (by omega)
  obtain ⟨q2, hq2, hh2⟩ := zwy_ hk (a := r.1) (m := 1) (by omega) (by omega) (by omega)
  have hmn2 : ¬ (1 + (r.1.length : Int) < 0) := by omega
  simp only [zxa_ hk b0, Option.bind_some, zxm_, hS, hI, zxl_ hk b0, zpt_ hk (show z2v_ r.1 ≤ 10000000000 by rw [show z2v_ r.1 = r.1.length + sumL List.length r.1 from rfl]; omega), hy, hy0, hq2, hh2, hmn2, decide_true, Bool.not_true, Bool.false_eq_true, if_false, decide_false]
end Go.Proofs.YtckbclbmkklaoaaGreatDoor.Ev
