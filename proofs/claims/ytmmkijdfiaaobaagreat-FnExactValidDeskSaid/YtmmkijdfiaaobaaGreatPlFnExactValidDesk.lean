/- Plain laws of the printed functions. No conditions but those in each statement. -/
import Derived.Test.YtmmkijdfiaaobaaGreatEv5
import Derived.Test.YtmmkijdfiaaobaaGreatG10
set_option linter.unusedVariables false
set_option linter.unusedSimpArgs false
namespace Go.Proofs.YtmmkijdfiaaobaaGreat.Ev
open Go.RowKit
theorem within_ok (n a b : Int) : impl_within n a b = some (decide (a ≤ n ∧ n ≤ b)) := by
  unfold impl_within
  by_cases h : a ≤ n <;> simp [h]
theorem l00In_ok (n a b : Int) : spec_l00In n a b = some (decide (a ≤ n ∧ n ≤ b)) := by
  unfold spec_l00In
  by_cases h : a ≤ n <;> simp [h]
theorem prime_loop {k : Nat} {p : Int} (hp : p ≤ 251) : ∀ (m d n : Nat), 17 - d ≤ m → 2 ≤ d → m < n → d ≤ 17 → ∃ b, spec_l02Prime_l0 k n p (d : Int) (some true) = some b ∧ impl_ValidPrime_l0 k n p (d : Int) (some true) = some b
  | m, d, 0, _, _, h, _ => by omega
  | 0, d, n + 1, h, h2, _, h4 => by
    have hd : d = 17 := by omega
    subst hd
    have w1 : w_i64 (((17 : Nat) : Int) * ((17 : Nat) : Int)) = 289 := by rw [w_id (by omega) (by omega)]; rfl
    have hc : ¬ ((289 : Int) ≤ p) := by omega
    refine ⟨true, ?_, ?_⟩
    · unfold spec_l02Prime_l0; rw [w1, decide_eq_false hc, if_neg (by simp)]
    · unfold impl_ValidPrime_l0; rw [w1, decide_eq_false hc, if_neg (by simp)]
  | m + 1, d, n + 1, h, h2, hn, h4 => by
    by_cases hc : w_i64 ((d : Int) * (d : Int)) ≤ p
    · have hd0 : ¬ ((d : Int) = 0) := by omega
      have hw := w_succ (i := d) (by omega)
      by_cases hm : Int.tmod p (d : Int) = 0
      · refine ⟨false, ?_, ?_⟩
        · unfold spec_l02Prime_l0; rw [decide_eq_true hc, if_pos rfl, if_neg hd0, decide_eq_true hm, if_pos rfl]
        · unfold impl_ValidPrime_l0; rw [decide_eq_true hc, if_pos rfl, if_neg hd0, decide_eq_true hm, if_pos rfl]
      · by_cases h17 : d = 17
        · subst h17
          have w1 : w_i64 (((17 : Nat) : Int) * ((17 : Nat) : Int)) = 289 := by rw [w_id (by omega) (by omega)]; rfl
          rw [w1] at hc; omega
        · obtain ⟨b, h5, h6⟩ := prime_loop (k := k) hp m (d + 1) n (by omega) (by omega) (by omega) (by omega)
          refine ⟨b, ?_, ?_⟩
          · rw [← h5]; conv => lhs; unfold spec_l02Prime_l0
            rw [decide_eq_true hc, if_pos rfl, if_neg hd0, decide_eq_false hm, if_neg (by simp), hw]
          · rw [← h6]; conv => lhs; unfold impl_ValidPrime_l0
            rw [decide_eq_true hc, if_pos rfl, if_neg hd0, decide_eq_false hm, if_neg (by simp), hw]
    · refine ⟨true, ?_, ?_⟩
      · unfold spec_l02Prime_l0; rw [decide_eq_false hc, if_neg (by simp)]
      · unfold impl_ValidPrime_l0; rw [decide_eq_false hc, if_neg (by simp)]
/-- Both answer the same. -/
theorem prime_ok {k : Nat} (hk : KK ≤ k) (p : Int) : ∃ b, spec_ValidPrime k p = some b ∧ impl_ValidPrime k p = some b ∧ (b = true → 2 ≤ p ∧ p ≤ 251) := by
  have hK := KK_def
  unfold spec_ValidPrime spec_l02Prime impl_ValidPrime
  rw [l00In_ok, within_ok]
  by_cases h : 2 ≤ p ∧ p ≤ 251
  · obtain ⟨b, h1, h2⟩ := prime_loop (k := k) (p := p) h.2 15 2 k (by omega) (by omega) (by omega) (by omega)
    have h1 : spec_l02Prime_l0 k k p 2 (some true) = some b := h1
    have h2 : impl_ValidPrime_l0 k k p 2 (some true) = some b := h2
    refine ⟨b, ?_, ?_, fun _ => h⟩
    · simp [h, h1]
    · simp [h, h2]
  · exact ⟨false, by simp [h], by simp [h], fun h => by cases h⟩
theorem idxP_nonneg {α : Type} (p : α → Bool) (xs : List α) : decide (0 ≤ idxP p xs) = xs.any p := by
  unfold idxP
  cases h : xs.findIdx? p with
  | some i =>
    obtain ⟨hlt, hp, _⟩ := List.findIdx?_eq_some_iff_getElem.1 h
    have : xs.any p = true := List.any_eq_true.2 ⟨_, List.getElem_mem hlt, hp⟩
    rw [this]; simp
  | none =>
    rw [List.findIdx?_eq_none_iff] at h
    have : xs.any p = false := List.any_eq_false.2 fun x hx => by rw [h x hx]; simp
    rw [this]; simp
abbrev Mat := Int × Int × Int × List Int
theorem column_ok {k : Nat} (hk : KK ≤ k) {v : List Int} (hv : v.length ≤ 1048576) (n : Int) {p : Int} (hp : -1000000 ≤ p ∧ p ≤ 1000000) : spec_l03Column k v n p = some (v.all (fun x => decide (0 ≤ x ∧ x ≤ p - 1)) && decide ((v.length : Int) = n)) := by
  have hK := KK_def
  have hw1 : w_i64 (p - 1) = p - 1 := w_id (by omega) (by omega)
  unfold spec_l03Column
  have := loop_all (L := fun m i => spec_l03Column_l0 k m v n p i (fun v_3 n_4 => some (decide ((List.length v_3 : Int) = n_4)))) (p := fun x => decide (0 ≤ x ∧ x ≤ p - 1)) (r := some false) (e := some (decide ((v.length : Int) = n))) v ?_ ?_ (n := k) (by omega)
  · refine this.trans ?_
    cases v.all (fun x => decide (0 ≤ x ∧ x ≤ p - 1)) <;> simp
  · intro m i x hx hlt
    have hw := w_succ (i := i) (by omega)
    simp only [spec_l03Column_l0, hlt, decide_true, if_true, Int.natCast_nonneg, Int.toNat_natCast, hx, Option.bind_some, l00In_ok, hw1, hw]
    by_cases c : 0 ≤ x ∧ x ≤ p - 1 <;> simp [c]
  · intro m
    simp only [spec_l03Column_l0, Int.lt_irrefl, decide_false, Bool.false_eq_true, if_false]
theorem elements_ok {k : Nat} (hk : KK ≤ k) {v : List Int} (hv : v.length ≤ 1048576) {p : Int} (hp : -1000000 ≤ p ∧ p ≤ 1000000) : impl_areElements k v p = some (v.all (fun x => decide (0 ≤ x ∧ x ≤ p - 1))) := by
  have hK := KK_def
  have hw1 : w_i64 (p - 1) = p - 1 := w_id (by omega) (by omega)
  unfold impl_areElements slices_ContainsFunc_int64__impl_areElements_1 slices_IndexFunc_int64__impl_areElements_1
  rw [loop_find (L := fun n i => slices_IndexFunc_int64__impl_areElements_1_l0 k n v p (v.length : Int) i (some (-1))) (p := fun x => !decide (0 ≤ x ∧ x ≤ p - 1)) v ?_ ?_ (n := k) (by omega)]
  · simp only [Option.bind_some, idxP_nonneg]
    congr 1
    rw [← List.not_all_eq_any_not, Bool.not_not]
  · intro n i x hi hlt
    have hw := w_succ (i := i) (by omega)
    simp only [slices_IndexFunc_int64__impl_areElements_1_l0, impl_areElements_1, impl_isElement, within_ok, hw1, hlt, decide_true, if_true, Int.natCast_nonneg, Int.toNat_natCast, hi, Option.bind_some, hw]
  · intro n
    simp [slices_IndexFunc_int64__impl_areElements_1_l0]
/-- A matrix as stated. -/
structure MatP (m : Mat) (R C : Nat) : Prop where
  rows : m.2.1 = (R : Int)
  cols : m.2.2.1 = (C : Int)
  r32 : R ≤ 32
  c32 : C ≤ 32
  len : m.2.2.2.length = R * C
  prime : 2 ≤ m.1 ∧ m.1 ≤ 251
  cells : ∀ x ∈ m.2.2.2, 0 ≤ x ∧ x ≤ 250
theorem matrix_ok {k : Nat} (hk : KK ≤ k) {m : Mat} (hv : m.2.2.2.length ≤ 1048576) : ∃ b, spec_l03Ok k m = some b ∧ impl_ValidMatrix k m = some b ∧ (b = true → ∃ R C, MatP m R C) := by
  obtain ⟨b, h1, h2, h3⟩ := prime_ok hk m.1
  unfold spec_l03Ok impl_ValidMatrix impl_isSide impl_size_int64
  rw [h1, h2]
  cases b
  · exact ⟨false, by simp, by simp, fun h => by cases h⟩
  · have hp := h3 rfl
    simp only [Option.bind_some, if_true, l00In_ok, within_ok, column_ok hk hv _ (show -1000000 ≤ m.1 ∧ m.1 ≤ 1000000 by omega), elements_ok hk hv (show -1000000 ≤ m.1 ∧ m.1 ≤ 1000000 by omega)]
    by_cases c1 : 0 ≤ m.2.1 ∧ m.2.1 ≤ 32
    · by_cases c2 : 0 ≤ m.2.2.1 ∧ m.2.2.1 ≤ 32
      · rw [decide_eq_true c1, decide_eq_true c2, if_pos rfl, if_pos rfl, if_pos rfl, if_pos rfl]
        obtain ⟨R, hR⟩ := Int.eq_ofNat_of_zero_le c1.1
        obtain ⟨C, hC⟩ := Int.eq_ofNat_of_zero_le c2.1
        have hRC : R * C ≤ 32 * 32 := Nat.mul_le_mul (by omega) (by omega)
        have hw : w_i64 (m.2.1 * m.2.2.1) = ((R * C : Nat) : Int) := by
          rw [hR, hC, ← Int.natCast_mul]
          exact w_id (by omega) (by omega)
        rw [hw]
        refine ⟨m.2.2.2.all (fun x => decide (0 ≤ x ∧ x ≤ m.1 - 1)) && decide ((m.2.2.2.length : Int) = ((R * C : Nat) : Int)), rfl, ?_, fun h => ?_⟩
        · by_cases c3 : (m.2.2.2.length : Int) = ((R * C : Nat) : Int)
          · rw [decide_eq_true c3, if_pos rfl, Bool.and_true]
          · rw [decide_eq_false c3, if_neg (by simp), Bool.and_false]
        · simp only [Bool.and_eq_true, List.all_eq_true, decide_eq_true_eq] at h
          refine ⟨R, C, hR, hC, by omega, by omega, by omega, hp, fun x hx => ?_⟩
          have := h.1 x hx
          omega
      · exact ⟨false, by simp [c1, c2], by simp [c1, c2], fun h => by cases h⟩
    · exact ⟨false, by simp [c1], by simp [c1], fun h => by cases h⟩
theorem adj_pairwise {α : Type} {R : α → α → Prop} (tr : ∀ a b c, R a b → R b c → R a c) : ∀ {l : List α}, (∀ (i : Nat) (a b : α), l[i]? = some a → l[i + 1]? = some b → R a b) → l.Pairwise R
  | [], _ => List.Pairwise.nil
  | [a], _ => List.pairwise_singleton ..
  | a :: b :: l, h => by
    have h0 := h 0 a b rfl rfl
    have ih := adj_pairwise tr (l := b :: l) (fun i x y hx hy => h (i + 1) x y hx hy)
    refine List.Pairwise.cons (fun x hx => ?_) ih
    rcases List.mem_cons.1 hx with rfl | hx
    · exact h0
    · exact tr _ _ _ h0 ((List.pairwise_cons.1 ih).1 x hx)
theorem pairwise_adj {α : Type} {R : α → α → Prop} {l : List α} (h : l.Pairwise R) {i : Nat} {a b : α} (ha : l[i]? = some a) (hb : l[i + 1]? = some b) : R a b := by
  obtain ⟨h1, rfl⟩ := List.getElem?_eq_some_iff.1 ha
  obtain ⟨h2, rfl⟩ := List.getElem?_eq_some_iff.1 hb
  exact List.pairwise_iff_getElem.1 h i (i + 1) h1 h2 (by omega)
/-- Ahead of a place: what is told of neighbours, as the loops tell it. -/
def prevP {α : Type} (R : α → α → Prop) (l : List α) (i : Nat) (x : α) : Prop := 0 < i → ∀ t, l[i - 1]? = some t → R t x
theorem prevP_pairwise {α : Type} {R : α → α → Prop} (tr : ∀ a b c, R a b → R b c → R a c) {l : List α} {m : Nat} (h : ∀ j, j < m → ∀ x, l[j]? = some x → prevP R l j x) : (l.take m).Pairwise R := by
  refine adj_pairwise tr fun i a b ha hb => ?_
  have hi : i + 1 < m := by
    have := (List.getElem?_eq_some_iff.1 hb).1
    rw [List.length_take] at this; omega
  rw [List.getElem?_take_of_lt (by omega)] at ha
  rw [List.getElem?_take_of_lt hi] at hb
  exact h (i + 1) hi b hb (by omega) a (by simpa using ha)
theorem pairwise_prevP {α : Type} {R : α → α → Prop} {l : List α} (h : l.Pairwise R) {i : Nat} {x : α} (hx : l[i]? = some x) : prevP R l i x := fun h0 t ht => by
  have e : i = (i - 1) + 1 := by omega
  rw [e] at hx
  exact pairwise_adj h ht hx
/-- Rounds by number, with a condition that held before. -/
theorem loop_allN' {R : Type} {L : Nat → Int → R} {b : Nat} {p : Nat → Bool} {r e : R}
    (h1 : ∀ n (i : Nat), i < b → (∀ j, j < i → p j = true) → L (n + 1) (i : Int) = if p i = true then L n ((i + 1 : Nat) : Int) else r) (h2 : ∀ n, L (n + 1) (b : Int) = e) {n : Nat} (hn : b < n) : L n 0 = if (List.range b).all p = true then e else r := by
  refine loop_list (α := Nat) (A := Unit) (L := fun n i _ => L n i) (I := fun pre _ => ∀ j ∈ pre, p j = true) (G := fun l _ => if l.all p = true then e else r) (List.range b) ?_ ?_ n (by simpa using hn) () (by simp)
  · intro n pre x post _ hx hI ih hg hlt
    rw [List.length_range] at hlt
    have hxi : x = pre.length := by
      rw [List.getElem?_range (by omega)] at hg
      simpa using hg.symm
    subst hxi
    have hpre : pre = List.range pre.length := by
      have := congrArg (List.take pre.length) hx
      rw [List.take_left, List.take_range] at this
      rw [Nat.min_eq_left (by omega)] at this
      exact this.symm
    rw [h1 n pre.length (by omega) (fun j hj => hI j (by rw [hpre]; simpa using hj))]
    by_cases hp : p pre.length = true
    · rw [if_pos hp, ih () (fun j hj => by
        rcases List.mem_append.1 hj with hj | hj
        · exact hI j hj
        · rw [List.mem_singleton.1 hj]; exact hp)]
      simp [hp]
    · rw [if_neg hp]; simp [hp]
  · intro n _ _
    simpa using h2 n
structure SimpP (s : List Int) : Prop where
  len1 : 1 ≤ s.length
  len4 : s.length ≤ 4
  vert : ∀ x ∈ s, 0 ≤ x ∧ x ≤ 9
  rise : s.Pairwise (fun a b : Int => a < b)
open Classical in
noncomputable def simpB (s : List Int) : Bool := decide (SimpP s)
theorem simpB_iff {s : List Int} : simpB s = true ↔ SimpP s := by unfold simpB; simp
theorem prevI {s : List Int} {i : Nat} {x : Int} (h0 : 0 < i) (hx : s[i]? = some x) : ∃ t, s[i - 1]? = some t := ⟨_, List.getElem?_eq_getElem (show i - 1 < s.length by have := (List.getElem?_eq_some_iff.1 hx).1; omega)⟩
open Classical in
/-- Numbers that rise within bounds, as the loop tells it. -/
theorem l00Rises_ok {k : Nat} (hk : KK ≤ k) {s : List Int} (hs : s.length ≤ 1000000000) (lo up : Int) : spec_l00Rises k s lo up = some (decide ((∀ x ∈ s, lo ≤ x ∧ x ≤ up) ∧ s.Pairwise (fun a b : Int => a < b))) := by
  have hK := KK_def
  unfold spec_l00Rises
  have := loop_allN (L := fun n i => spec_l00Rises_l0 k n s lo up i (some true)) (b := s.length) (p := fun i => decide (∀ x, s[i]? = some x → (lo ≤ x ∧ x ≤ up) ∧ prevP (fun a b : Int => a < b) s i x)) (r := some false) (e := some true) ?_ ?_ (n := k) (by omega)
  · rw [this]
    have e : ((List.range s.length).all (fun i => decide (∀ x, s[i]? = some x → (lo ≤ x ∧ x ≤ up) ∧ prevP (fun a b : Int => a < b) s i x)) = true) ↔ ((∀ x ∈ s, lo ≤ x ∧ x ≤ up) ∧ s.Pairwise (fun a b : Int => a < b)) := by
      simp only [List.all_eq_true, List.mem_range, decide_eq_true_eq]
      constructor
      · intro h
        refine ⟨fun x hx => ?_, ?_⟩
        · obtain ⟨i, hi, rfl⟩ := List.getElem_of_mem hx
          exact (h i hi _ (List.getElem?_eq_getElem hi)).1
        · have := prevP_pairwise (R := fun a b : Int => a < b) (fun a b c => Int.lt_trans) (l := s) (m := s.length) (fun j hj x hx => (h j hj x hx).2)
          rwa [List.take_length] at this
      · rintro ⟨h1, h2⟩ i hi x hx
        exact ⟨h1 x (List.mem_of_getElem? hx), pairwise_prevP h2 hx⟩
    by_cases c : ((∀ x ∈ s, lo ≤ x ∧ x ≤ up) ∧ s.Pairwise (fun a b : Int => a < b))
    · rw [if_pos (e.2 c), decide_eq_true c]
    · rw [if_neg (fun h => c (e.1 h)), decide_eq_false c]
  · intro n i hi
    have hlt : (i : Int) < (s.length : Int) := by omega
    have hw := w_succ (i := i) (by omega)
    have hg : s[i]? = some s[i] := List.getElem?_eq_getElem hi
    simp only [spec_l00Rises_l0, hlt, decide_true, if_true, Int.natCast_nonneg, Int.toNat_natCast, hg, Option.bind_some, hw, l00In_ok, Option.some.injEq, forall_eq']
    by_cases c1 : lo ≤ s[i] ∧ s[i] ≤ up
    · rw [decide_eq_true c1]
      simp only [Bool.not_true, Bool.false_eq_true, if_false]
      by_cases h0 : 0 < i
      · have h0' : (0 : Int) < (i : Int) := by omega
        have hw1 : w_i64 ((i : Int) - 1) = ((i - 1 : Nat) : Int) := by rw [w_id (by omega) (by omega)]; omega
        have hg1 : s[i - 1]? = some s[i - 1] := List.getElem?_eq_getElem (by omega)
        simp only [h0', decide_true, if_true, hw1, Int.natCast_nonneg, Int.toNat_natCast, hg1, Option.bind_some]
        by_cases c2 : s[i - 1] < s[i]
        · have : prevP (fun a b : Int => a < b) s i s[i] := fun _ t ht => by rw [hg1] at ht; cases ht; exact c2
          rw [if_neg (by simp; omega), if_pos (decide_eq_true ⟨c1, this⟩)]
        · have : ¬ prevP (fun a b : Int => a < b) s i s[i] := fun h => c2 (h h0 _ hg1)
          rw [if_pos (decide_eq_true (by omega)), if_neg (fun h => this (of_decide_eq_true h).2)]
      · have h0' : ¬ (0 : Int) < (i : Int) := by omega
        have : prevP (fun a b : Int => a < b) s i s[i] := fun h => absurd h h0
        rw [decide_eq_false h0', if_neg (by simp), if_pos (decide_eq_true ⟨c1, this⟩)]
    · rw [decide_eq_false c1, if_pos (by simp), if_neg (fun h => c1 (of_decide_eq_true h).1)]
  · intro n
    simp only [spec_l00Rises_l0, Int.lt_irrefl, decide_false, Bool.false_eq_true, if_false]
open Classical in
theorem l05Simplex_ok {k : Nat} (hk : KK ≤ k) {s : List Int} (hs : s.length ≤ 1000000000) : spec_l05Simplex k s = some (simpB s) := by
  unfold spec_l05Simplex
  rw [l00In_ok]
  simp only [Option.bind_some, l00Rises_ok hk hs]
  by_cases c : (1 : Int) ≤ (s.length : Int) ∧ (s.length : Int) ≤ 4
  · rw [decide_eq_true c, if_pos rfl]
    congr 1
    unfold simpB
    refine decide_eq_decide.2 ⟨fun h => ⟨by omega, by omega, h.1, h.2⟩, fun h => ⟨h.vert, h.rise⟩⟩
  · rw [decide_eq_false c, if_neg (by simp)]
    congr 1
    unfold simpB
    rw [decide_eq_false (fun h : SimpP s => c ⟨by have := h.len1; omega, by have := h.len4; omega⟩)]
open Classical in
theorem isRising_ok {k : Nat} (hk : KK ≤ k) {s : List Int} (hs : s.length ≤ 1000000000) : impl_isRising k s = some (decide (s.Pairwise (fun a b : Int => a < b))) := by
  have hK := KK_def
  unfold impl_isRising
  have key : ∀ (d n i : Nat), s.length - i = d → d < n → 0 < i → (s.take i).Pairwise (fun a b : Int => a < b) → impl_isRising_l0 k n s (i : Int) (some true) = some (decide (s.Pairwise (fun a b : Int => a < b))) := by
    intro d
    induction d with
    | zero =>
      intro n i hd hn h0 hp
      obtain ⟨n, rfl⟩ : ∃ m, n = m + 1 := ⟨n - 1, by omega⟩
      have : ¬ (i : Int) < (s.length : Int) := by omega
      rw [List.take_of_length_le (by omega)] at hp
      simp only [impl_isRising_l0, this, decide_false, Bool.false_eq_true, if_false, decide_eq_true hp]
    | succ d ih =>
      intro n i hd hn h0 hp
      obtain ⟨n, rfl⟩ : ∃ m, n = m + 1 := ⟨n - 1, by omega⟩
      have hi : i < s.length := by omega
      have hlt : (i : Int) < (s.length : Int) := by omega
      have hw := w_succ (i := i) (by omega)
      have hw1 : w_i64 ((i : Int) - 1) = ((i - 1 : Nat) : Int) := by rw [w_id (by omega) (by omega)]; omega
      have hg : s[i]? = some s[i] := List.getElem?_eq_getElem hi
      have hg1 : s[i - 1]? = some s[i - 1] := List.getElem?_eq_getElem (by omega)
      simp only [impl_isRising_l0, hlt, decide_true, if_true, Int.natCast_nonneg, Int.toNat_natCast, hg, hg1, Option.bind_some, hw, hw1]
      by_cases c : s[i - 1] < s[i]
      · rw [decide_eq_false (show ¬ s[i] ≤ s[i - 1] by omega), if_neg (by simp)]
        refine ih n (i + 1) (by omega) (by omega) (by omega) ?_
        refine adj_pairwise (R := fun a b : Int => a < b) (fun a b c => Int.lt_trans) fun j a b ha hb => ?_
        have hj : j + 1 < i + 1 := by
          have := (List.getElem?_eq_some_iff.1 hb).1
          rw [List.length_take] at this; omega
        rw [List.getElem?_take_of_lt (by omega)] at ha
        rw [List.getElem?_take_of_lt hj] at hb
        by_cases hji : j + 1 = i
        · have e1 : a = s[i - 1] := by
            have : s[j]? = s[i - 1]? := by rw [show j = i - 1 by omega]
            rw [ha, hg1] at this
            exact Option.some.inj this
          have e2 : b = s[i] := by
            rw [hji, hg] at hb
            exact (Option.some.inj hb).symm
          rw [e1, e2]; exact c
        · exact pairwise_adj hp (i := j) (by rw [List.getElem?_take_of_lt (by omega)]; exact ha) (by rw [List.getElem?_take_of_lt (by omega)]; exact hb)
      · rw [decide_eq_true (show s[i] ≤ s[i - 1] by omega), if_pos rfl]
        congr 1
        refine (decide_eq_false fun h => c ?_).symm
        exact List.pairwise_iff_getElem.1 h (i - 1) i (by omega) hi (by omega)
  have h1 := key (s.length - 1) k 1 rfl (by omega) (by omega) (by cases s with
    | nil => simp
    | cons a l => simp)
  exact h1
theorem notVertex_ok {k : Nat} (hk : KK ≤ k) {s : List Int} (hs : s.length ≤ 1000000000) : slices_ContainsFunc_int64__impl_ValidSimplex_1 k s () = some (s.any fun x => !decide (0 ≤ x ∧ x ≤ 9)) := by
  have hK := KK_def
  unfold slices_ContainsFunc_int64__impl_ValidSimplex_1 slices_IndexFunc_int64__impl_ValidSimplex_1
  rw [loop_find (L := fun n i => slices_IndexFunc_int64__impl_ValidSimplex_1_l0 k n s () (s.length : Int) i (some (-1))) (p := fun x => !decide (0 ≤ x ∧ x ≤ 9)) s ?_ ?_ (n := k) (by omega)]
  · rw [Option.bind_some, idxP_nonneg]
  · intro n i x hi hlt
    have hw := w_succ (i := i) (by omega)
    simp only [slices_IndexFunc_int64__impl_ValidSimplex_1_l0, impl_ValidSimplex_1, impl_isVertex, within_ok, hlt, decide_true, if_true, Int.natCast_nonneg, Int.toNat_natCast, hi, Option.bind_some, hw]
  · intro n
    simp [slices_IndexFunc_int64__impl_ValidSimplex_1_l0]
theorem validSimplex_ok {k : Nat} (hk : KK ≤ k) {s : List Int} (hs : s.length ≤ 1000000000) : impl_ValidSimplex k s = some (simpB s) := by
  unfold impl_ValidSimplex
  by_cases c1 : 1 ≤ s.length
  · rw [decide_eq_true (show (1 : Int) ≤ (s.length : Int) by omega), if_pos rfl]
    by_cases c2 : s.length ≤ 4
    · rw [decide_eq_true (show (s.length : Int) ≤ 4 by omega), if_pos rfl, isRising_ok hk hs, notVertex_ok hk hs]
      simp only [Option.bind_some]
      by_cases c3 : s.Pairwise (fun a b : Int => a < b)
      · rw [decide_eq_true c3, if_pos rfl]
        congr 1
        rw [Bool.eq_iff_iff, simpB_iff]
        simp only [Bool.not_eq_true', List.any_eq_false, Bool.not_eq_true, decide_eq_false_iff_not, Bool.not_eq_false', decide_eq_true_eq]
        exact ⟨fun h => ⟨c1, c2, fun x hx => by simpa using h x hx, c3⟩, fun h x hx => by simpa using h.vert x hx⟩
      · rw [decide_eq_false c3, if_neg (by simp)]
        congr 1
        symm
        rw [Bool.eq_false_iff, ne_eq, simpB_iff]
        exact fun h => c3 h.rise
    · rw [decide_eq_false (show ¬ (s.length : Int) ≤ 4 by omega), if_neg (by simp)]
      congr 1
      symm
      rw [Bool.eq_false_iff, ne_eq, simpB_iff]
      exact fun h => c2 h.len4
  · rw [decide_eq_false (show ¬ (1 : Int) ≤ (s.length : Int) by omega), if_neg (by simp)]
    congr 1
    symm
    rw [Bool.eq_false_iff, ne_eq, simpB_iff]
    exact fun h => c1 h.len1
def cI (x y : Int) : Int := if x < y then -1 else if y < x then 1 else 0
theorem compareInt_ok (x y : Int) : cmp_Compare_int64 x y = some (cI x y) := by
  unfold cmp_Compare_int64 cmp_isNaN_int64 cI
  by_cases h1 : x < y
  · simp [h1]
  · by_cases h2 : y < x <;> simp [h1, h2]
theorem compareInt'_ok (x y : Int) : cmp_Compare_int x y = some (cI x y) := by
  unfold cmp_Compare_int cmp_isNaN_int cI
  by_cases h1 : x < y
  · simp [h1]
  · by_cases h2 : y < x <;> simp [h1, h2]
theorem cmpOr2_ok {k : Nat} (hk : KK ≤ k) (a b : Int) : cmp_Or_int k [a, b] = some (if a = 0 then b else a) := by
  have hK := KK_def
  obtain ⟨m, rfl⟩ : ∃ m, k = m + 3 := ⟨k - 3, by omega⟩
  generalize hf : m + 3 = k
  have hw0 : w_i64 1 = 1 := w_id (by omega) (by omega)
  have hw1 : w_i64 2 = 2 := w_id (by omega) (by omega)
  show cmp_Or_int_l0 k k 0 [a, b] 2 0 (fun zero_2 => some zero_2) = _
  conv => lhs; arg 2; rw [← hf]
  by_cases h : a = 0
  · by_cases h' : b = 0
    · subst h; subst h'; simp [cmp_Or_int_l0, hw0, hw1]
    · subst h; simp [cmp_Or_int_l0, hw0, hw1, h']
  · simp [cmp_Or_int_l0, h]
theorem bl_irrefl : ∀ x : List UInt8, Op.bytesLess x x = false
  | [] => rfl
  | a :: x => by simp [Op.bytesLess, bl_irrefl x]
theorem bl_trans : ∀ x y z : List UInt8, Op.bytesLess x y = true → Op.bytesLess y z = true → Op.bytesLess x z = true
  | _, [], _, h, _ => by simp [Op.bytesLess] at h
  | _, _ :: _, [], _, h => by simp [Op.bytesLess] at h
  | [], _ :: _, _ :: _, _, _ => rfl
  | a :: x, b :: y, c :: z, h1, h2 => by
    simp only [Op.bytesLess, Bool.or_eq_true, Bool.and_eq_true, decide_eq_true_eq, beq_iff_eq] at h1 h2 ⊢
    rcases h1 with h1 | ⟨rfl, h1⟩
    · rcases h2 with h2 | ⟨rfl, h2⟩
      · exact .inl (UInt8.lt_trans h1 h2)
      · exact .inl h1
    · rcases h2 with h2 | ⟨rfl, h2⟩
      · exact .inl h2
      · exact .inr ⟨rfl, bl_trans x y z h1 h2⟩
theorem bl_total : ∀ x y : List UInt8, Op.bytesLess x y = false → x ≠ y → Op.bytesLess y x = true
  | [], [], _, h => absurd rfl h
  | _ :: _, [], _, _ => rfl
  | [], _ :: _, h, _ => by simp [Op.bytesLess] at h
  | a :: x, b :: y, h1, h2 => by
    simp only [Op.bytesLess, Bool.or_eq_false_iff, decide_eq_false_iff_not, Bool.and_eq_false_iff, beq_eq_false_iff_ne] at h1
    simp only [Op.bytesLess, Bool.or_eq_true, Bool.and_eq_true, decide_eq_true_eq, beq_iff_eq]
    by_cases h : a = b
    · subst h
      refine .inr ⟨rfl, bl_total x y (h1.2.resolve_left (fun h => h rfl)) (fun e => h2 (by rw [e]))⟩
    · exact .inl (UInt8.lt_of_le_of_ne (UInt8.not_lt.1 h1.1) (Ne.symm h))
theorem bl_asymm {x y : List UInt8} (h : Op.bytesLess x y = true) : Op.bytesLess y x = false := by
  cases h' : Op.bytesLess y x
  · rfl
  · have := bl_trans x y x h h'
    rw [bl_irrefl] at this; cases this
def cmpS (x y : List UInt8) : Int := if Op.bytesLess x y = true then -1 else if x = y then 0 else 1
/-- Simplices in order: by their lengths, then as lists. -/
def lexB : List Int → List Int → Bool
  | x :: a, y :: b => if x = y then lexB a b else decide (x < y)
  | _, _ => false
def befS (a b : List Int) : Bool := decide (a.length < b.length) || (decide (a.length = b.length) && lexB a b)
theorem lexB_irrefl : ∀ a : List Int, lexB a a = false
  | [] => rfl
  | x :: a => by simp [lexB, lexB_irrefl a]
theorem lexB_trans : ∀ a b c : List Int, a.length = b.length → b.length = c.length → lexB a b = true → lexB b c = true → lexB a c = true
  | [], _, _, _, _, h, _ => by simp [lexB] at h
  | _ :: _, [], _, _, _, h, _ => by simp [lexB] at h
  | _ :: _, _ :: _, [], _, _, _, h => by simp [lexB] at h
  | x :: a, y :: b, z :: c, h1, h2, h3, h4 => by
    simp only [lexB] at h3 h4 ⊢
    by_cases c1 : x = y
    · subst c1
      rw [if_pos rfl] at h3
      by_cases c2 : x = z
      · rw [if_pos c2] at h4 ⊢
        exact lexB_trans a b c (by simpa using h1) (by simpa using h2) h3 h4
      · rw [if_neg c2] at h4 ⊢; exact h4
    · rw [if_neg c1, decide_eq_true_eq] at h3
      by_cases c2 : y = z
      · subst c2; rw [if_neg c1, decide_eq_true_eq]; exact h3
      · rw [if_neg c2, decide_eq_true_eq] at h4
        rw [if_neg (by omega), decide_eq_true_eq]; omega
theorem lexB_total : ∀ a b : List Int, a.length = b.length → lexB a b = false → a ≠ b → lexB b a = true
  | [], [], _, _, h => absurd rfl h
  | _ :: _, [], h, _, _ => by simp at h
  | [], _ :: _, h, _, _ => by simp at h
  | x :: a, y :: b, h1, h2, h3 => by
    simp only [lexB] at h2 ⊢
    by_cases c : x = y
    · subst c
      rw [if_pos rfl] at h2 ⊢
      exact lexB_total a b (by simpa using h1) h2 (fun e => h3 (by rw [e]))
    · rw [if_neg c, decide_eq_false_iff_not] at h2
      rw [if_neg (Ne.symm c), decide_eq_true_eq]; omega
theorem befS_irrefl (a : List Int) : befS a a = false := by unfold befS; simp [lexB_irrefl]
theorem befS_trans {a b c : List Int} (h1 : befS a b = true) (h2 : befS b c = true) : befS a c = true := by
  unfold befS at *
  simp only [Bool.or_eq_true, Bool.and_eq_true, decide_eq_true_eq] at *
  rcases h1 with h1 | ⟨e1, h1⟩
  · rcases h2 with h2 | ⟨e2, h2⟩
    · left; omega
    · left; omega
  · rcases h2 with h2 | ⟨e2, h2⟩
    · left; omega
    · exact .inr ⟨by omega, lexB_trans a b c e1 e2 h1 h2⟩
theorem befS_total {a b : List Int} (h1 : befS a b = false) (h2 : a ≠ b) : befS b a = true := by
  unfold befS at *
  simp only [Bool.or_eq_false_iff, decide_eq_false_iff_not, Bool.and_eq_false_iff, Bool.or_eq_true, Bool.and_eq_true, decide_eq_true_eq] at *
  by_cases c : a.length = b.length
  · exact .inr ⟨c.symm, lexB_total a b c (h1.2.resolve_left (fun h => h c)) h2⟩
  · left; omega
theorem befS_asymm {a b : List Int} (h : befS a b = true) : befS b a = false := by
  cases h' : befS b a
  · rfl
  · have := befS_trans h h'
    rw [befS_irrefl] at this; cases this
def cmpL : List Int → List Int → Int
  | x :: a, y :: b => if cI x y = 0 then cmpL a b else cI x y
  | _ :: _, [] => 1
  | [], _ :: _ => -1
  | [], [] => 0
def cmpSx (a b : List Int) : Int := if cI (a.length : Int) (b.length : Int) = 0 then cmpL a b else cI (a.length : Int) (b.length : Int)
theorem cI_zero (x y : Int) : cI x y = 0 ↔ x = y := by
  unfold cI
  by_cases h1 : x < y
  · rw [if_pos h1]; constructor <;> intro h <;> omega
  · rw [if_neg h1]
    by_cases h2 : y < x
    · rw [if_pos h2]; constructor <;> intro h <;> omega
    · rw [if_neg h2]; constructor <;> intro h <;> omega
theorem cI_neg (x y : Int) : cI x y < 0 ↔ x < y := by
  unfold cI
  by_cases h1 : x < y
  · rw [if_pos h1]; constructor <;> intro h <;> omega
  · rw [if_neg h1]
    by_cases h2 : y < x
    · rw [if_pos h2]; constructor <;> intro h <;> omega
    · rw [if_neg h2]; constructor <;> intro h <;> omega
theorem cmpL_zero : ∀ a b : List Int, cmpL a b = 0 ↔ a = b
  | [], [] => by simp [cmpL]
  | _ :: _, [] => by simp [cmpL]
  | [], _ :: _ => by simp [cmpL]
  | x :: a, y :: b => by
    unfold cmpL
    by_cases c : cI x y = 0
    · rw [if_pos c, cmpL_zero a b, (cI_zero x y).1 c]; simp
    · rw [if_neg c]
      have : x ≠ y := fun e => c ((cI_zero x y).2 e)
      simp [c, this]
theorem cmpL_neg : ∀ a b : List Int, a.length = b.length → (cmpL a b < 0 ↔ lexB a b = true)
  | [], [], _ => by simp [cmpL, lexB]
  | _ :: _, [], h => by simp at h
  | [], _ :: _, h => by simp at h
  | x :: a, y :: b, h => by
    unfold cmpL lexB
    by_cases c : cI x y = 0
    · rw [if_pos c, if_pos ((cI_zero x y).1 c)]
      exact cmpL_neg a b (by simpa using h)
    · rw [if_neg c, if_neg (fun e => c ((cI_zero x y).2 e)), cI_neg, decide_eq_true_eq]
theorem cmpSx_zero (a b : List Int) : cmpSx a b = 0 ↔ a = b := by
  unfold cmpSx
  by_cases c : cI (a.length : Int) (b.length : Int) = 0
  · rw [if_pos c]; exact cmpL_zero a b
  · rw [if_neg c]
    exact ⟨fun h => absurd h c, fun h => by rw [h] at c; exact absurd ((cI_zero _ _).2 rfl) c⟩
theorem cmpSx_neg (a b : List Int) : decide (cmpSx a b < 0) = befS a b := by
  rw [Bool.eq_iff_iff, decide_eq_true_eq]
  unfold cmpSx befS
  simp only [Bool.or_eq_true, Bool.and_eq_true, decide_eq_true_eq]
  by_cases c : cI (a.length : Int) (b.length : Int) = 0
  · have e := (cI_zero _ _).1 c
    rw [if_pos c, cmpL_neg a b (by omega)]
    constructor
    · intro h; exact .inr ⟨by omega, h⟩
    · rintro (h | h)
      · omega
      · exact h.2
  · have e : ¬ (a.length : Int) = (b.length : Int) := fun e => c ((cI_zero _ _).2 e)
    rw [if_neg c, cI_neg]
    constructor
    · intro h; left; omega
    · rintro (h | h)
      · omega
      · omega
theorem cmpSx_ge (a b : List Int) : decide (0 ≤ cmpSx a b) = !befS a b := by
  rw [← cmpSx_neg]
  by_cases h : cmpSx a b < 0
  · rw [decide_eq_true h, decide_eq_false (by omega)]; rfl
  · rw [decide_eq_false h, decide_eq_true (by omega)]; rfl
theorem slCompare_ok {k : Nat} (hk : KK ≤ k) {a b : List Int} (ha : a.length ≤ 1000000000) (hb : b.length ≤ 1000000000) : slices_Compare_int64 k a b = some (cmpL a b) := by
  have hK := KK_def
  unfold slices_Compare_int64
  have key : ∀ (d n i : Nat), a.length - i = d → d < n → slices_Compare_int64_l0 k n a b a (a.length : Int) (i : Int) (fun s_4 s_5 => (if (decide ((List.length s_4 : Int) < (List.length s_5 : Int))) = true then some (-1) else some 0)) = (if i ≤ a.length then some (if a.length ≤ i then (if i < b.length then -1 else 0) else cmpL (a.drop i) (b.drop i)) else some (if a.length < b.length then -1 else 0)) := by
    intro d
    induction d with
    | zero =>
      intro n i hd hn
      obtain ⟨n, rfl⟩ : ∃ m, n = m + 1 := ⟨n - 1, by omega⟩
      have : ¬ (i : Int) < (a.length : Int) := by omega
      simp only [slices_Compare_int64_l0, this, decide_false, Bool.false_eq_true, if_false]
      by_cases h1 : i ≤ a.length
      · have : i = a.length := by omega
        subst this
        rw [if_pos (Nat.le_refl _), if_pos (Nat.le_refl _)]
        by_cases h2 : a.length < b.length
        · rw [decide_eq_true (by omega), if_pos rfl, if_pos h2]
        · rw [decide_eq_false (by omega), if_neg (by simp), if_neg h2]
      · rw [if_neg h1]
        by_cases h2 : a.length < b.length
        · rw [decide_eq_true (by omega), if_pos rfl, if_pos h2]
        · rw [decide_eq_false (by omega), if_neg (by simp), if_neg h2]
    | succ d ih =>
      intro n i hd hn
      obtain ⟨n, rfl⟩ : ∃ m, n = m + 1 := ⟨n - 1, by omega⟩
      have hi : i < a.length := by omega
      have hlt : (i : Int) < (a.length : Int) := by omega
      have hw := w_succ (i := i) (by omega)
      have da : a.drop i = a[i] :: a.drop (i + 1) := List.drop_eq_getElem_cons hi
      rw [if_pos (by omega), if_neg (by omega), da]
      simp only [slices_Compare_int64_l0, hlt, decide_true, if_true, Int.natCast_nonneg, Int.toNat_natCast, List.getElem?_eq_getElem hi, Option.bind_some, hw]
      by_cases hb2 : i < b.length
      · have db : b.drop i = b[i] :: b.drop (i + 1) := List.drop_eq_getElem_cons hb2
        rw [db, decide_eq_false (by omega), if_neg (by simp), List.getElem?_eq_getElem hb2]
        simp only [Option.bind_some, compareInt_ok]
        unfold cmpL
        by_cases c : cI a[i] b[i] = 0
        · rw [decide_eq_true c, if_neg (by simp), if_pos c, ih n (i + 1) (by omega) (by omega), if_pos (by omega)]
          by_cases h3 : a.length ≤ i + 1
          · rw [if_pos h3, List.drop_of_length_le (l := a) (by omega)]
            by_cases h4 : i + 1 < b.length
            · rw [if_pos h4, List.drop_eq_getElem_cons h4]; rfl
            · rw [if_neg h4, List.drop_of_length_le (l := b) (by omega)]; rfl
          · rw [if_neg h3]
        · rw [decide_eq_false c, if_pos (by simp), if_neg c]
      · rw [List.drop_of_length_le (l := b) (by omega), decide_eq_true (by omega), if_pos rfl]
        rfl
  have h0 := key a.length k 0 (by omega) (by omega)
  have hz : ((0 : Nat) : Int) = 0 := rfl
  rw [hz] at h0
  rw [h0, if_pos (Nat.zero_le _), List.drop_zero, List.drop_zero]
  by_cases c : a.length ≤ 0
  · have : a = [] := List.length_eq_zero_iff.1 (by omega)
    subst this
    rw [if_pos c]
    cases b with
    | nil => rfl
    | cons y b => rw [if_pos (by simp)]; rfl
  · rw [if_neg c]
theorem compareSx_ok {k : Nat} (hk : KK ≤ k) {a b : List Int} (ha : a.length ≤ 1000000000) (hb : b.length ≤ 1000000000) : impl_compareSimplices k a b = some (cmpSx a b) := by
  unfold impl_compareSimplices cmpSx
  rw [compareInt'_ok, slCompare_ok hk ha hb]
  simp only [Option.bind_some, cmpOr2_ok hk]
theorem l05Before_ok {k : Nat} (hk : KK ≤ k) {a b : List Int} (ha : a.length ≤ 1000000000) : spec_l05Before k a b = some (befS a b) := by
  have hK := KK_def
  unfold spec_l05Before befS
  by_cases hl : a.length = b.length
  · rw [decide_eq_true (show (a.length : Int) = (b.length : Int) by omega), if_neg (by simp), decide_eq_false (by omega), decide_eq_true hl, Bool.false_or, Bool.true_and]
    have key : ∀ (d n i : Nat), a.length - i = d → d < n → spec_l05Before_l0 k n a b (i : Int) (some false) = some (lexB (a.drop i) (b.drop i)) := by
      intro d
      induction d with
      | zero =>
        intro n i hd hn
        obtain ⟨n, rfl⟩ : ∃ m, n = m + 1 := ⟨n - 1, by omega⟩
        have : ¬ (i : Int) < (a.length : Int) := by omega
        simp only [spec_l05Before_l0, this, decide_false, Bool.false_eq_true, if_false]
        rw [List.drop_of_length_le (l := a) (by omega)]; rfl
      | succ d ih =>
        intro n i hd hn
        obtain ⟨n, rfl⟩ : ∃ m, n = m + 1 := ⟨n - 1, by omega⟩
        have hi : i < a.length := by omega
        have hib : i < b.length := by omega
        have hlt : (i : Int) < (a.length : Int) := by omega
        have hw := w_succ (i := i) (by omega)
        have da : a.drop i = a[i] :: a.drop (i + 1) := List.drop_eq_getElem_cons hi
        have db : b.drop i = b[i] :: b.drop (i + 1) := List.drop_eq_getElem_cons hib
        rw [da, db]
        unfold lexB
        simp only [spec_l05Before_l0, hlt, decide_true, if_true, Int.natCast_nonneg, Int.toNat_natCast, List.getElem?_eq_getElem hi, List.getElem?_eq_getElem hib, Option.bind_some, hw]
        by_cases c : a[i] = b[i]
        · rw [decide_eq_true c, if_neg (by simp), if_pos c]
          exact ih n (i + 1) (by omega) (by omega)
        · rw [decide_eq_false c, if_pos (by simp), if_neg c]
    exact key a.length k 0 (by omega) (by omega)
  · rw [decide_eq_false (show ¬ (a.length : Int) = (b.length : Int) by omega), if_pos (by simp), decide_eq_false hl, Bool.false_and, Bool.or_false]
    exact congrArg some (decide_eq_decide.2 (by omega))
abbrev Tbl := List Int × List (List Int)
theorem l16Before_ok {k : Nat} (hk : KK ≤ k) {a b : List Int} (ha : a.length ≤ 1000000000) : spec_l16Before k a b = some (decide (cmpL a b < 0)) := by
  have hK := KK_def
  unfold spec_l16Before
  have key : ∀ (d n i : Nat), a.length - i = d → d < n → i ≤ a.length → i ≤ b.length → spec_l16Before_l0 k n a b (i : Int) (fun a_5 b_6 => some (decide ((List.length a_5 : Int) < (List.length b_6 : Int)))) = some (decide (cmpL (a.drop i) (b.drop i) < 0)) := by
    intro d
    induction d with
    | zero =>
      intro n i hd hn h1 h2
      obtain ⟨n, rfl⟩ : ∃ m, n = m + 1 := ⟨n - 1, by omega⟩
      have hi : i = a.length := by omega
      subst hi
      simp only [spec_l16Before_l0, Int.lt_irrefl, decide_false, Bool.false_eq_true, if_false]
      rw [List.drop_length]
      congr 1
      by_cases c : a.length < b.length
      · rw [List.drop_eq_getElem_cons c, decide_eq_true (by omega)]
        exact (decide_eq_true (by show (-1 : Int) < 0; decide)).symm
      · rw [List.drop_eq_nil_of_le (by omega), decide_eq_false (by omega)]
        exact (decide_eq_false (by show ¬ (0 : Int) < 0; decide)).symm
    | succ d ih =>
      intro n i hd hn h1 h2
      obtain ⟨n, rfl⟩ : ∃ m, n = m + 1 := ⟨n - 1, by omega⟩
      have hlt : (i : Int) < (a.length : Int) := by omega
      have hia : i < a.length := by omega
      have hw := w_succ (i := i) (by omega)
      simp only [spec_l16Before_l0, hlt, decide_true, if_true]
      by_cases c : i < b.length
      · have c' : (i : Int) < (b.length : Int) := by omega
        simp only [c', decide_true, if_true, Int.natCast_nonneg, Int.toNat_natCast, List.getElem?_eq_getElem hia, List.getElem?_eq_getElem c, Option.bind_some, hw]
        have e : cmpL (a.drop i) (b.drop i) = if cI a[i] b[i] = 0 then cmpL (a.drop (i + 1)) (b.drop (i + 1)) else cI a[i] b[i] := by rw [List.drop_eq_getElem_cons hia, List.drop_eq_getElem_cons c]; rfl
        rw [e]
        by_cases q : a[i] = b[i]
        · rw [if_pos ((cI_zero _ _).2 q), decide_eq_true q, if_neg (by simp)]
          exact ih n (i + 1) (by omega) (by omega) (by omega) (by omega)
        · rw [if_neg (fun e => q ((cI_zero _ _).1 e)), decide_eq_false q, if_pos (by simp)]
          congr 1
          exact decide_eq_decide.2 (cI_neg _ _).symm
      · have c' : ¬ (i : Int) < (b.length : Int) := by omega
        simp only [c', decide_false, Bool.false_eq_true, if_false]
        rw [List.drop_eq_getElem_cons hia, show List.drop i b = [] from List.drop_eq_nil_of_le (by omega), decide_eq_false (by omega)]
        exact congrArg some (decide_eq_false (by show ¬ (1 : Int) < 0; decide)).symm
  exact key a.length k 0 rfl (by omega) (by omega) (by omega)
structure smallT (t : Tbl) : Prop where
  cols : t.1.length ≤ 1048576
  rows : t.2.length ≤ 1048576
  cells : ∀ r ∈ t.2, r.length ≤ 1048576
def prevR (rows : List (List Int)) (i : Nat) (r : List Int) : Bool := if 0 < i then (match rows[i - 1]? with | some q => decide (cmpL q r < 0) | none => true) else true
def cellsB (r : List Int) : Bool := r.all fun x => decide (0 ≤ x ∧ x ≤ 3)
def rowAt (t : Tbl) (i : Nat) : Bool := match t.2[i]? with
  | some r => decide (r.length = t.1.length) && (prevR t.2 i r && cellsB r)
  | none => true
def colsB (c : List Int) : Bool := decide ((∀ x ∈ c, (0 : Int) ≤ x ∧ x ≤ 7) ∧ c.Pairwise (fun a b : Int => a < b))
def tblB (t : Tbl) : Bool := colsB t.1 && (decide (t.2.length ≤ 24) && (List.range t.2.length).all (rowAt t))
theorem specTable_ok {k : Nat} (hk : KK ≤ k) {t : Tbl} (hs : smallT t) : spec_l20Ok k t = some (tblB t) := by
  have hK := KK_def
  have h1 := hs.cols
  have h2 := hs.rows
  unfold spec_l20Ok tblB
  have hr : spec_l00Rises k t.1 0 7 = some (colsB t.1) := l00Rises_ok hk (by omega) 0 7
  rw [hr]
  cases colsB t.1 with
  | false => simp
  | true =>
  simp only [Option.bind_some, Bool.not_true, Bool.false_eq_true, if_false, Bool.true_and]
  by_cases hl : t.2.length ≤ 24
  case neg => rw [decide_eq_true (by omega), if_pos rfl, decide_eq_false hl]; rfl
  rw [decide_eq_false (by omega), if_neg (by simp), decide_eq_true hl, Bool.true_and]
  have := loop_allN (L := fun n i => spec_l20Ok_l0 k n t i (some true)) (b := t.2.length) (p := rowAt t) (r := some false) (e := some true) ?_ ?_ (n := k) (by omega)
  · refine this.trans ?_
    cases (List.range t.2.length).all (rowAt t) <;> rfl
  · intro n i hi
    have hlt : (i : Int) < (t.2.length : Int) := by omega
    have hw := w_succ (i := i) (by omega)
    have hg : t.2[i]? = some t.2[i] := List.getElem?_eq_getElem hi
    have hrl := hs.cells _ (List.getElem_mem hi)
    have hp : rowAt t i = (decide ((t.2[i]).length = t.1.length) && (prevR t.2 i t.2[i] && cellsB t.2[i])) := by unfold rowAt; rw [hg]
    rw [hp]
    generalize t.2[i] = r at hg hrl
    have inner : ∀ E : Tbl → Int → Option Bool, spec_l20Ok_l1 k k t (i : Int) 0 E = if cellsB r = true then E t (i : Int) else some false := by
      intro E
      refine loop_all (L := fun m j => spec_l20Ok_l1 k m t (i : Int) j E) (p := fun x => decide (0 ≤ x ∧ x ≤ 3)) (r := some false) (e := E t (i : Int)) r ?_ ?_ (n := k) (by omega)
      · intro m j x hx hlt2
        have hw2 := w_succ (i := j) (by omega)
        simp only [spec_l20Ok_l1, hlt2, decide_true, if_true, Int.natCast_nonneg, Int.toNat_natCast, hg, hx, Option.bind_some, l00In_ok, hw2]
        by_cases c : 0 ≤ x ∧ x ≤ 3 <;> simp [c]
      · intro m
        simp only [spec_l20Ok_l1, Int.natCast_nonneg, if_true, Int.toNat_natCast, hg, Option.bind_some, Int.lt_irrefl, decide_false, Bool.false_eq_true, if_false]
    simp only [spec_l20Ok_l0, hlt, decide_true, if_true, Int.natCast_nonneg, Int.toNat_natCast, hg, Option.bind_some, inner, hw]
    by_cases c : r.length = t.1.length
    case neg => rw [decide_eq_false (show ¬ (r.length : Int) = (t.1.length : Int) by omega), if_pos (by simp), decide_eq_false c, Bool.false_and, if_neg (by simp)]
    rw [decide_eq_true (show (r.length : Int) = (t.1.length : Int) by omega), if_neg (by simp), decide_eq_true c, Bool.true_and]
    by_cases h0 : 0 < i
    · have hw1 : w_i64 ((i : Int) - 1) = ((i - 1 : Nat) : Int) := by rw [w_id (by omega) (by omega)]; omega
      have hg1 : t.2[i - 1]? = some t.2[i - 1] := List.getElem?_eq_getElem (by omega)
      have hql := hs.cells _ (List.mem_of_getElem? hg1)
      have hpv : prevR t.2 i r = decide (cmpL t.2[i - 1] r < 0) := by unfold prevR; rw [if_pos h0, hg1]
      rw [hpv, decide_eq_true (show (0 : Int) < (i : Int) by omega)]
      generalize t.2[i - 1] = q at hg1 hql
      simp only [if_true, hw1, Int.natCast_nonneg, Int.toNat_natCast, hg1, Option.bind_some, l16Before_ok hk (show q.length ≤ 1000000000 by omega)]
      cases decide (cmpL q r < 0) <;> cases cellsB r <;> simp
    · have hpv : prevR t.2 i r = true := by unfold prevR; rw [if_neg h0]
      rw [hpv, decide_eq_false (show ¬ (0 : Int) < (i : Int) by omega), if_neg (by simp), Bool.true_and]
  · intro n
    simp only [spec_l20Ok_l0, Int.lt_irrefl, decide_false, Bool.false_eq_true, if_false]
theorem implTable_ok {k : Nat} (hk : KK ≤ k) {t : Tbl} (hs : smallT t) : impl_ValidTable k t = some (tblB t) := by
  have hK := KK_def
  have h1 := hs.cols
  have h2 := hs.rows
  unfold impl_ValidTable tblB
  have hc : colsB t.1 = (decide (t.1.Pairwise (fun a b : Int => a < b)) && t.1.all (fun x => decide (0 ≤ x ∧ x ≤ 8 - 1))) := by
    unfold colsB
    rw [Bool.eq_iff_iff]
    simp only [decide_eq_true_eq, Bool.and_eq_true, List.all_eq_true]
    exact ⟨fun ⟨z1, z2⟩ => ⟨z2, fun x hx => by have := z1 x hx; omega⟩, fun ⟨z1, z2⟩ => ⟨fun x hx => by have := z2 x hx; omega, z1⟩⟩
  rw [isRising_ok hk (by omega), elements_ok hk h1 (by omega), hc]
  cases decide (t.1.Pairwise (fun a b : Int => a < b)) with
  | false => simp
  | true =>
  cases t.1.all (fun x => decide (0 ≤ x ∧ x ≤ 8 - 1)) with
  | false => simp
  | true =>
  simp only [Option.bind_some, Bool.not_true, Bool.false_eq_true, if_false, Bool.true_and]
  by_cases hl : t.2.length ≤ 24
  case neg => rw [decide_eq_true (by omega), if_pos rfl, decide_eq_false hl]; rfl
  rw [decide_eq_false (by omega), if_neg (by simp), decide_eq_true hl, Bool.true_and]
  have := loop_allN (L := fun n i => impl_ValidTable_l0 k n t.2 (t.2.length : Int) i t (some true)) (b := t.2.length) (p := rowAt t) (r := some false) (e := some true) ?_ ?_ (n := k) (by omega)
  · refine this.trans ?_
    cases (List.range t.2.length).all (rowAt t) <;> rfl
  · intro n i hi
    have hlt : (i : Int) < (t.2.length : Int) := by omega
    have hw := w_succ (i := i) (by omega)
    have hg : t.2[i]? = some t.2[i] := List.getElem?_eq_getElem hi
    have hrl := hs.cells _ (List.getElem_mem hi)
    have hp : rowAt t i = (decide ((t.2[i]).length = t.1.length) && (prevR t.2 i t.2[i] && cellsB t.2[i])) := by unfold rowAt; rw [hg]
    rw [hp]
    generalize t.2[i] = r at hg hrl
    have he : impl_areElements k r 4 = some (cellsB r) := elements_ok hk hrl (by omega)
    simp only [impl_ValidTable_l0, hlt, decide_true, if_true, Int.natCast_nonneg, Int.toNat_natCast, hg, Option.bind_some, he, hw]
    by_cases c : r.length = t.1.length
    case neg => rw [decide_eq_false (show ¬ (r.length : Int) = (t.1.length : Int) by omega), if_pos (by simp), decide_eq_false c, Bool.false_and, if_neg (by simp)]
    rw [decide_eq_true (show (r.length : Int) = (t.1.length : Int) by omega), if_neg (by simp), decide_eq_true c, Bool.true_and]
    by_cases h0 : 0 < i
    · have hw1 : w_i64 ((i : Int) - 1) = ((i - 1 : Nat) : Int) := by rw [w_id (by omega) (by omega)]; omega
      have hg1 : t.2[i - 1]? = some t.2[i - 1] := List.getElem?_eq_getElem (by omega)
      have hql := hs.cells _ (List.mem_of_getElem? hg1)
      have hpv : prevR t.2 i r = decide (cmpL t.2[i - 1] r < 0) := by unfold prevR; rw [if_pos h0, hg1]
      rw [hpv, decide_eq_true (show (0 : Int) < (i : Int) by omega)]
      generalize t.2[i - 1] = q at hg1 hql
      have hge : decide (0 ≤ cmpL q r) = !decide (cmpL q r < 0) := by
        by_cases z : cmpL q r < 0
        · rw [decide_eq_true z, decide_eq_false (by omega)]; rfl
        · rw [decide_eq_false z, decide_eq_true (by omega)]; rfl
      simp only [if_true, hw1, Int.natCast_nonneg, Int.toNat_natCast, hg1, Option.bind_some, slCompare_ok hk (show q.length ≤ 1000000000 by omega) (show r.length ≤ 1000000000 by omega), hge]
      cases decide (cmpL q r < 0) <;> cases cellsB r <;> simp
    · have hpv : prevR t.2 i r = true := by unfold prevR; rw [if_neg h0]
      rw [hpv, decide_eq_false (show ¬ (0 : Int) < (i : Int) by omega), if_neg (show ¬ (false = true) by simp), Bool.true_and]
      cases cellsB r <;> simp
  · intro n
    simp only [impl_ValidTable_l0, Int.lt_irrefl, decide_false, Bool.false_eq_true, if_false]
def tablesB (L : List Tbl) : Bool := L.all tblB && decide (L.length ≤ 6)
theorem specTables_ok {k : Nat} (hk : KK ≤ k) {L : List Tbl} (hL : L.length ≤ 1048576) (hs : ∀ t ∈ L, smallT t) : spec_l20List k L = some (tablesB L) := by
  have hK := KK_def
  unfold spec_l20List tablesB
  have := loop_all (L := fun n i => spec_l20List_l0 k n L i (fun list_3 => some (decide ((List.length list_3 : Int) ≤ 6)))) (p := tblB) (r := some false) (e := some (decide (L.length ≤ 6))) L ?_ ?_ (n := k) (by omega)
  · refine this.trans ?_
    cases L.all tblB <;> rfl
  · intro n i x hx hlt
    have hw := w_succ (i := i) (by omega)
    simp only [spec_l20List_l0, hlt, decide_true, if_true, Int.natCast_nonneg, Int.toNat_natCast, hx, Option.bind_some, specTable_ok hk (hs _ (List.mem_of_getElem? hx)), hw]
    cases tblB x <;> simp
  · intro n
    simp only [spec_l20List_l0, Int.lt_irrefl, decide_false, Bool.false_eq_true, if_false]
    exact congrArg some (decide_eq_decide.2 (by omega))
theorem implTables_ok {k : Nat} (hk : KK ≤ k) {L : List Tbl} (hL : L.length ≤ 1048576) (hs : ∀ t ∈ L, smallT t) : impl_ValidTables k L = some (tablesB L) := by
  have hK := KK_def
  unfold impl_ValidTables tablesB slices_ContainsFunc_impl_Table__impl_ValidTables_1 slices_IndexFunc_impl_Table__impl_ValidTables_1
  by_cases hl : L.length ≤ 6
  case neg => rw [decide_eq_false (by omega), if_neg (by simp), decide_eq_false hl, Bool.and_false]
  rw [decide_eq_true (by omega), if_pos rfl, decide_eq_true hl, Bool.and_true]
  rw [loop_find (L := fun n i => slices_IndexFunc_impl_Table__impl_ValidTables_1_l0 k n L () (L.length : Int) i (some (-1))) (p := fun x => !tblB x) L ?_ ?_ (n := k) (by omega)]
  · simp only [Option.bind_some, idxP_nonneg]
    congr 1
    rw [← List.not_all_eq_any_not, Bool.not_not]
  · intro n i x hi hlt
    have hw := w_succ (i := i) (by omega)
    simp only [slices_IndexFunc_impl_Table__impl_ValidTables_1_l0, impl_ValidTables_1, implTable_ok hk (hs _ (List.mem_of_getElem? hi)), hlt, decide_true, if_true, Int.natCast_nonneg, Int.toNat_natCast, hi, Option.bind_some, hw]
  · intro n
    simp [slices_IndexFunc_impl_Table__impl_ValidTables_1_l0]
theorem mid_ok {i j : Nat} (h : i + j < 4611686018427387904) : w_i64 (Int.fdiv (w_u64 (w_i64 ((i : Int) + (j : Int)))) (2 ^ 1)) = (((i + j) / 2 : Nat) : Int) := by
  rw [w_id (x := (i : Int) + j) (by omega) (by omega)]
  have hu : w_u64 ((i : Int) + (j : Int)) = (i : Int) + j := by unfold w_u64 IntKind.wrap; simp [IntKind.bits, IntKind.signed]; omega
  rw [hu, Int.fdiv_eq_ediv_of_nonneg _ (by omega), w_id (by omega) (by omega)]
  omega
abbrev Cx := List (List Int)
/-- A simplex without the vertex at a place. -/
def dropI (s : List Int) (k : Nat) : List Int := s.take k ++ s.drop (k + 1)
theorem dropI_len {s : List Int} {k : Nat} (h : k < s.length) : (dropI s k).length = s.length - 1 := by
  unfold dropI; rw [List.length_append, List.length_take, List.length_drop]; omega
structure CxP (c : Cx) : Prop where
  len : c.length ≤ 48
  simp : ∀ s ∈ c, SimpP s
  ord : c.Pairwise (fun a b => befS a b = true)
  face : ∀ s ∈ c, 1 < s.length → ∀ k, k < s.length → dropI s k ∈ c
open Classical in
noncomputable def cxB (c : Cx) : Bool := decide (CxP c)
theorem cxB_iff {c : Cx} : cxB c = true ↔ CxP c := by unfold cxB; simp
def smallCx (c : Cx) : Prop := c.length ≤ 1048576 ∧ ∀ s ∈ c, s.length ≤ 1048576
theorem l05Drop_ok {s : List Int} (hs : s.length ≤ 1048576) {k : Nat} (h : k < s.length) : spec_l05Drop s (k : Int) = some (dropI s k) := by
  have hL := LIM_def
  have hw := w_succ (i := k) (by omega)
  have b1 : (k : Int) ≤ (s.length : Int) := by omega
  have b2 : ((k + 1 : Nat) : Int) ≤ (s.length : Int) := by omega
  unfold spec_l05Drop spec_l00Own
  have hdr : (s.drop (k + 1)).take (s.length - (k + 1)) = s.drop (k + 1) := List.take_of_length_le (by rw [List.length_drop]; exact Nat.le_refl _)
  simp only [Int.natCast_nonneg, Int.le_refl, b1, and_self, if_true, Int.toNat_natCast]
  rw [if_pos (by simp only [List.length_nil, List.length_take]; omega)]
  simp only [Option.bind_some, hw, Int.natCast_nonneg, Int.toNat_natCast, b2, Int.le_refl, and_self, if_true, hdr]
  rw [if_pos (by simp only [List.length_take, List.length_drop]; omega)]
  rfl
/-- The number of a simplex in a list; behind its end if it is not there. -/
def posC (c : Cx) (s : List Int) : Nat := c.findIdx (fun y => decide (y = s))
theorem posC_lt {c : Cx} {s : List Int} : posC c s < c.length ↔ s ∈ c := by
  unfold posC
  rw [List.findIdx_lt_length]
  constructor
  · rintro ⟨x, hx, h⟩; rw [← of_decide_eq_true h]; exact hx
  · intro h; exact ⟨s, h, decide_eq_true rfl⟩
theorem posC_get {c : Cx} {s : List Int} (h : s ∈ c) : c[posC c s]? = some s := by
  have hl := posC_lt.2 h
  rw [List.getElem?_eq_getElem hl]
  have : decide (c[posC c s] = s) = true := List.findIdx_getElem (xs := c) (p := fun y => decide (y = s)) (w := hl)
  rw [of_decide_eq_true this]
theorem l00Same_ok {k : Nat} (hk : KK ≤ k) {a b : List Int} (ha : a.length ≤ 1000000000) : spec_l00Same k a b = some (decide (a = b)) := by
  have hK := KK_def
  unfold spec_l00Same
  by_cases hl : a.length = b.length
  · rw [decide_eq_true (show (a.length : Int) = (b.length : Int) by omega), if_neg (by simp)]
    refine loop_eq (L := fun n i => spec_l00Same_l0 k n a b i (some true)) a b hl ?_ ?_ (n := k) (by omega)
    · intro n i x y hx hy hlt
      have hw := w_succ (i := i) (by omega)
      by_cases e : x = y <;> simp [spec_l00Same_l0, hlt, hx, hy, hw, e]
    · intro n
      simp [spec_l00Same_l0]
  · have h2 : a ≠ b := fun e => hl (by rw [e])
    rw [decide_eq_false (show ¬ (a.length : Int) = (b.length : Int) by omega), if_pos (by simp), decide_eq_false h2]
theorem l05Find_ok {k : Nat} (hk : KK ≤ k) {c : Cx} (hc : smallCx c) (s : List Int) : spec_l05Find k c s = some (if posC c s < c.length then ((posC c s : Nat) : Int) else -1) := by
  have hK := KK_def
  obtain ⟨h1, h2⟩ := hc
  unfold spec_l05Find
  rw [loop_find (L := fun m i => spec_l05Find_l0 k m c s i (some (-1))) (p := fun y => decide (y = s)) c ?_ ?_ (n := k) (by omega)]
  · unfold idxP posC
    cases hf : c.findIdx? (fun y => decide (y = s)) with
    | some i =>
      obtain ⟨hlt, hp⟩ := List.findIdx?_eq_some_iff_findIdx_eq.1 hf
      rw [hp, if_pos hlt]
    | none =>
      rw [List.findIdx?_eq_none_iff] at hf
      have : ¬ c.findIdx (fun y => decide (y = s)) < c.length := fun h => by
        obtain ⟨x, hx, h2⟩ := List.findIdx_lt_length.1 h
        rw [hf x hx] at h2; cases h2
      rw [if_neg this]
  · intro m i x hi hlt
    have hw := w_succ (i := i) (by omega)
    have hxl := h2 x (List.mem_of_getElem? hi)
    simp only [spec_l05Find_l0, hlt, decide_true, if_true, Int.natCast_nonneg, Int.toNat_natCast, hi, Option.bind_some, hw, l00Same_ok hk (show x.length ≤ 1000000000 by omega)]
  · intro m
    simp [spec_l05Find_l0]
theorem find_negC (c : Cx) (s : List Int) : decide ((if posC c s < c.length then ((posC c s : Nat) : Int) else -1) < 0) = !decide (s ∈ c) := by
  by_cases h : s ∈ c
  · rw [if_pos (posC_lt.2 h), decide_eq_false (by omega), decide_eq_true h]; rfl
  · rw [if_neg (fun h2 => h (posC_lt.1 h2)), decide_eq_false h]; rfl
theorem concat2_ok {k : Nat} (hk : KK ≤ k) {a b : List Int} (ha : a.length ≤ 1048576) (hb : b.length ≤ 1048576) : slices_Concat_int64 k [a, b] = some (a ++ b) := by
  have hK := KK_def
  have hL := LIM_def
  obtain ⟨n, rfl⟩ : ∃ n, k = n + 3 := ⟨k - 3, by omega⟩
  have w1 : w_i64 (0 + (a.length : Int)) = (a.length : Int) := by rw [w_id (by omega) (by omega)]; omega
  have w2 : w_i64 ((a.length : Int) + (b.length : Int)) = ((a.length + b.length : Nat) : Int) := by rw [w_id (by omega) (by omega)]; omega
  have w3 : w_i64 ((0 : Int) + 1) = 1 := w_id (by omega) (by omega)
  have w4 : w_i64 ((1 : Int) + 1) = 2 := w_id (by omega) (by omega)
  have n1 : ¬ ((a.length : Int) < 0) := by omega
  have n2 : ¬ (((a.length + b.length : Nat) : Int) < 0) := by omega
  have l1 : (((a.length + b.length : Nat) : Int).toNat) * 8 ≤ LIM := by simp only [Int.toNat_natCast]; omega
  have l2 : a.length * 8 ≤ LIM := by omega
  have l3 : (a.length + b.length) * 8 ≤ LIM := by omega
  unfold slices_Concat_int64
  simp only [slices_Concat_int64_l0, List.length_cons, List.length_nil, Nat.zero_add, Nat.reduceAdd, show ((2 : Nat) : Int) = 2 from rfl, w1, w2, w3, w4]
  simp only [slices_Grow_int64_s, slices_Concat_int64_l1, w1, w2, w3, w4, n1, n2, true_and, l1, l2, l3, Int.natCast_nonneg, List.nil_append, decide_false, Bool.false_eq_true, if_false, if_true, Option.bind_some, and_self, List.getElem?_cons_zero, List.getElem?_cons_succ, show decide ((0 : Int) < 2) = true from rfl, show decide ((1 : Int) < 2) = true from rfl, show decide ((2 : Int) < 2) = false from rfl, show (0 : Int).toNat = 0 from rfl, show (1 : Int).toNat = 1 from rfl, show (0 : Int) ≤ 0 from Int.le_refl _, show (0 : Int) ≤ 1 by omega, List.length_cons, List.length_nil, Nat.zero_add, Nat.reduceAdd, show ((2 : Nat) : Int) = 2 from rfl]
/-- The faces. -/
def facesL (s : List Int) : Cx := if 1 < s.length then (List.range s.length).map (dropI s) else []
theorem facesOf_ok {k : Nat} (hk : KK ≤ k) {s : List Int} (hs : s.length ≤ 1048576) : impl_facesOf k s = some (facesL s) := by
  have hK := KK_def
  have hL := LIM_def
  unfold impl_facesOf
  have := loop_list (α := Nat) (A := Cx) (L := fun n i q => impl_facesOf_l0 k n s (s.length : Int) i q (fun q_3 => some q_3)) (I := fun pre q => q = (if 1 < s.length then (List.range pre.length).map (dropI s) else [])) (G := fun _ _ => some (facesL s)) (List.range s.length) ?_ ?_ k (by simp; omega) [] (by simp)
  · exact this
  · intro n pre x post q hx hq ih hg hlt
    rw [List.length_range] at hlt
    have hpl : pre.length < s.length := by omega
    have hw := w_succ (i := pre.length) (by omega)
    simp only [impl_facesOf_l0, hlt, decide_true, if_true]
    by_cases c : 1 < s.length
    · rw [if_pos c] at hq
      have b1 : (pre.length : Int) ≤ (s.length : Int) := by omega
      have b2 : ((pre.length + 1 : Nat) : Int) ≤ (s.length : Int) := by omega
      have hdr : (s.drop (pre.length + 1)).take (s.length - (pre.length + 1)) = s.drop (pre.length + 1) := List.take_of_length_le (by rw [List.length_drop]; exact Nat.le_refl _)
      have hcc := concat2_ok hk (a := s.take pre.length) (b := s.drop (pre.length + 1)) (by rw [List.length_take]; omega) (by rw [List.length_drop]; omega)
      have hlim : (q.length + 1) * 24 ≤ LIM := by rw [hq, List.length_map, List.length_range]; omega
      rw [decide_eq_true (by omega), if_pos rfl]
      simp only [Int.natCast_nonneg, Int.le_refl, Int.toNat_natCast, b1, hw, b2, and_self, if_true, hdr, hcc, Option.bind_some, List.length_singleton, hlim]
      refine ih _ ?_
      rw [if_pos c, hq, List.length_append, List.length_singleton, List.range_succ, List.map_append]
      rfl
    · rw [decide_eq_false (by omega), if_neg (by simp), hw]
      exact ih _ (by rw [if_neg c] at hq ⊢; exact hq)
  · intro n q hq
    rw [List.length_range] at hq ⊢
    simp only [impl_facesOf_l0, Int.lt_irrefl, decide_false, Bool.false_eq_true, if_false, hq]
    rfl
theorem facesL_mem {s f : List Int} : f ∈ facesL s ↔ 1 < s.length ∧ ∃ k, k < s.length ∧ f = dropI s k := by
  unfold facesL
  by_cases c : 1 < s.length
  · rw [if_pos c, List.mem_map]
    constructor
    · rintro ⟨k, hk, rfl⟩; exact ⟨c, k, List.mem_range.1 hk, rfl⟩
    · rintro ⟨_, k, hk, rfl⟩; exact ⟨k, List.mem_range.2 hk, rfl⟩
  · rw [if_neg c]; simp [c]
/-- The first place that is not before a simplex. -/
def lowC (c : Cx) (s : List Int) : Nat := c.findIdx (fun y => !befS y s)
theorem lowC_le (c : Cx) (s : List Int) : lowC c s ≤ c.length := List.findIdx_le_length
theorem lowC_lt {c : Cx} {s : List Int} {i : Nat} (h : i < lowC c s) (hi : i < c.length) : befS c[i] s = true := by
  have := List.not_of_lt_findIdx h
  simpa using this
theorem lowC_ge {c : Cx} {s : List Int} (hs : c.Pairwise (fun a b => befS a b = true)) {i : Nat} (h : lowC c s ≤ i) (hi : i < c.length) : befS c[i] s = false := by
  have hp : lowC c s < c.length := by omega
  have h0 : befS c[lowC c s] s = false := by
    have := List.findIdx_getElem (xs := c) (p := fun y => !befS y s) (w := hp)
    simp only [Bool.not_eq_true'] at this
    exact this
  by_cases e : i = lowC c s
  · subst e; exact h0
  · cases hb : befS c[i] s
    · rfl
    · have h1 := List.pairwise_iff_getElem.1 hs (lowC c s) i hp hi (by omega)
      rw [befS_trans h1 hb] at h0; cases h0
theorem lowC_pos {c : Cx} (hs : c.Pairwise (fun a b => befS a b = true)) {s : List Int} (h : s ∈ c) : lowC c s = posC c s := by
  have hl := posC_lt.2 h
  have hg := posC_get h
  rw [List.getElem?_eq_getElem hl] at hg
  have hg := Option.some.inj hg
  have h1 : ¬ posC c s < lowC c s := fun q => by have := lowC_lt q hl; rw [hg, befS_irrefl] at this; cases this
  have h2 : ¬ lowC c s < posC c s := fun q => by
    have h3 := List.pairwise_iff_getElem.1 hs (lowC c s) (posC c s) (by omega) hl q
    rw [hg] at h3
    rw [lowC_ge hs (Nat.le_refl _) (by omega)] at h3; cases h3
  omega
theorem indexOf_loop {k : Nat} (hk : KK ≤ k) {c : Cx} (hc : smallCx c) (hs : c.Pairwise (fun a b => befS a b = true)) {s : List Int} (hsl : s.length ≤ 1048576) {e : Cx → List Int → Unit → Int → Int → Option (Int × Bool)} :
    ∀ (d : Nat) (i j n : Nat), j - i ≤ d → d < n → i ≤ lowC c s → lowC c s ≤ j → j ≤ c.length → slices_BinarySearchFunc_int64__impl_compareSimplices_l0 k n c s () (c.length : Int) (i : Int) (j : Int) e = e c s () (c.length : Int) ((lowC c s : Nat) : Int) := by
  obtain ⟨hcl, hce⟩ := hc
  intro d
  induction d with
  | zero =>
    intro i j n h1 h2 h3 h4 h5
    obtain ⟨n, rfl⟩ : ∃ m, n = m + 1 := ⟨n - 1, by omega⟩
    have hlt : ¬ (i : Int) < (j : Int) := by omega
    simp only [slices_BinarySearchFunc_int64__impl_compareSimplices_l0, hlt, decide_false, Bool.false_eq_true, if_false]
    rw [show i = lowC c s by omega]
  | succ d ih =>
    intro i j n h1 h2 h3 h4 h5
    obtain ⟨n, rfl⟩ : ∃ m, n = m + 1 := ⟨n - 1, by omega⟩
    by_cases hij : i < j
    · have hlt : (i : Int) < (j : Int) := by omega
      have hm : (i + j) / 2 < c.length := by omega
      have hw := w_succ (i := (i + j) / 2) (by omega)
      have hml := hce c[(i + j) / 2] (List.getElem_mem hm)
      simp only [slices_BinarySearchFunc_int64__impl_compareSimplices_l0, hlt, decide_true, if_true, mid_ok (show i + j < 4611686018427387904 by omega), Int.natCast_nonneg, Int.toNat_natCast, List.getElem?_eq_getElem hm, Option.bind_some, compareSx_ok hk (show (c[(i + j) / 2]).length ≤ 1000000000 by omega) (show s.length ≤ 1000000000 by omega), cmpSx_neg, hw]
      by_cases hb : befS c[(i + j) / 2] s = true
      · rw [if_pos hb]
        refine ih _ _ _ (by omega) (by omega) ?_ h4 h5
        by_cases hq : lowC c s ≤ (i + j) / 2
        · rw [lowC_ge hs hq hm] at hb; cases hb
        · omega
      · rw [if_neg hb]
        refine ih _ _ _ (by omega) (by omega) h3 ?_ (by omega)
        by_cases hq : (i + j) / 2 < lowC c s
        · exact absurd (lowC_lt hq hm) hb
        · omega
    · have hlt : ¬ (i : Int) < (j : Int) := by omega
      simp only [slices_BinarySearchFunc_int64__impl_compareSimplices_l0, hlt, decide_false, Bool.false_eq_true, if_false]
      rw [show i = lowC c s by omega]
theorem indexOf_ok {k : Nat} (hk : KK ≤ k) {c : Cx} (hc : smallCx c) (hs : c.Pairwise (fun a b => befS a b = true)) {s : List Int} (hsl : s.length ≤ 1048576) : impl_indexOf k c s = some (if posC c s < c.length then ((posC c s : Nat) : Int) else -1) := by
  have hK := KK_def
  have hcl := hc.1
  have := lowC_le c s
  unfold impl_indexOf slices_BinarySearchFunc_int64__impl_compareSimplices
  have h0 := indexOf_loop hk hc hs hsl (e := fun x_3 target_4 cmp_5 n_6 i_7 => (if (decide (i_7 < n_6)) = true then (if 0 ≤ i_7 then (x_3[i_7.toNat]?).bind fun y_8 => (impl_compareSimplices k y_8 target_4).bind fun r_9 => some (i_7, (decide (r_9 = 0))) else none) else some (i_7, false))) c.length 0 c.length k (by omega) (by omega) (by omega) (by omega) (by omega)
  rw [show ((0 : Nat) : Int) = 0 from rfl] at h0
  rw [h0]
  by_cases h : s ∈ c
  · have hp := lowC_pos hs h
    have hl := posC_lt.2 h
    have hg := posC_get h
    rw [hp, if_pos hl, decide_eq_true (by omega), if_pos rfl]
    simp only [Int.natCast_nonneg, if_true, Int.toNat_natCast, hg, Option.bind_some, compareSx_ok hk (show s.length ≤ 1000000000 by omega) (show s.length ≤ 1000000000 by omega)]
    have : cmpSx s s = 0 := (cmpSx_zero s s).2 rfl
    rw [this]; rfl
  · rw [if_neg (fun q => h (posC_lt.1 q))]
    by_cases hl : lowC c s < c.length
    · have hxl := hc.2 c[lowC c s] (List.getElem_mem hl)
      rw [decide_eq_true (by omega), if_pos rfl]
      simp only [Int.natCast_nonneg, if_true, Int.toNat_natCast, List.getElem?_eq_getElem hl, Option.bind_some, compareSx_ok hk (show (c[lowC c s]).length ≤ 1000000000 by omega) (show s.length ≤ 1000000000 by omega)]
      have : ¬ cmpSx c[lowC c s] s = 0 := fun e => h (by rw [← (cmpSx_zero _ _).1 e]; exact List.getElem_mem hl)
      rw [decide_eq_false this]; rfl
    · rw [decide_eq_false (by omega), if_neg (by simp)]; rfl
open Classical in
/-- One simplex, as the loops ask of it: with the simplices d for its faces. -/
noncomputable def cxAt (c d : Cx) (i : Nat) : Bool := decide (∀ s, c[i]? = some s → SimpP s ∧ prevP (fun a b => befS a b = true) c i s ∧ (1 < s.length → ∀ k, k < s.length → dropI s k ∈ d))
open Classical in
theorem cxAt_iff {c d : Cx} {i : Nat} {s : List Int} (h : c[i]? = some s) : cxAt c d i = true ↔ SimpP s ∧ prevP (fun a b => befS a b = true) c i s ∧ (1 < s.length → ∀ k, k < s.length → dropI s k ∈ d) := by
  unfold cxAt
  rw [decide_eq_true_eq]
  exact ⟨fun q => q s h, fun q t ht => by rw [h] at ht; cases ht; exact q⟩
open Classical in
theorem l05Ok_ok {k : Nat} (hk : KK ≤ k) {c : Cx} (hc : smallCx c) : spec_l05Ok k c = some (cxB c) := by
  have hK := KK_def
  obtain ⟨hcl, hce⟩ := hc
  unfold spec_l05Ok
  by_cases h48 : c.length ≤ 48
  · rw [decide_eq_false (by omega), if_neg (by simp)]
    have := loop_allN (L := fun n i => spec_l05Ok_l0 k n c i (some true)) (b := c.length) (p := fun i => cxAt c c i) (r := some false) (e := some true) ?_ ?_ (n := k) (by omega)
    · rw [this]
      have e : (List.range c.length).all (fun i => cxAt c c i) = true ↔ CxP c := by
        rw [List.all_eq_true]
        constructor
        · intro h
          have h' : ∀ i s, c[i]? = some s → SimpP s ∧ prevP (fun a b => befS a b = true) c i s ∧ (1 < s.length → ∀ k, k < s.length → dropI s k ∈ c) := fun i s hs => (cxAt_iff hs).1 (h i (List.mem_range.2 (List.getElem?_eq_some_iff.1 hs).1))
          refine ⟨h48, fun s hs => ?_, ?_, fun s hs => ?_⟩
          · obtain ⟨i, hi⟩ := List.getElem?_of_mem hs
            exact (h' i s hi).1
          · have := prevP_pairwise (R := fun a b => befS a b = true) (fun a b c => befS_trans) (l := c) (m := c.length) (fun j hj x hx => (h' j x hx).2.1)
            rwa [List.take_length] at this
          · obtain ⟨i, hi⟩ := List.getElem?_of_mem hs
            exact (h' i s hi).2.2
        · intro h i hi
          rw [List.mem_range] at hi
          exact (cxAt_iff (List.getElem?_eq_getElem hi)).2 ⟨h.simp _ (List.getElem_mem hi), pairwise_prevP h.ord (List.getElem?_eq_getElem hi), h.face _ (List.getElem_mem hi)⟩
      by_cases q : CxP c
      · rw [if_pos (e.2 q), cxB_iff.2 q]
      · rw [if_neg (fun h => q (e.1 h))]
        congr 1
        symm
        rw [Bool.eq_false_iff, ne_eq, cxB_iff]; exact q
    · intro n i hi
      have hlt : (i : Int) < (c.length : Int) := by omega
      have hw := w_succ (i := i) (by omega)
      have hg : c[i]? = some c[i] := List.getElem?_eq_getElem hi
      have hsl := hce c[i] (List.getElem_mem hi)
      have hin : spec_l05Ok_l1 k k c (i : Int) c[i] 0 (fun c_5 i_6 => spec_l05Ok_l0 k n c_5 (w_i64 (i_6 + 1)) (some true)) = if (∀ k, 1 < (c[i]).length → k < (c[i]).length → dropI c[i] k ∈ c) then spec_l05Ok_l0 k n c ((i + 1 : Nat) : Int) (some true) else some false := by
        by_cases h1 : 1 < (c[i]).length
        · have := loop_allN (L := fun m j => spec_l05Ok_l1 k m c (i : Int) c[i] j (fun c_5 i_6 => spec_l05Ok_l0 k n c_5 (w_i64 (i_6 + 1)) (some true))) (b := (c[i]).length) (p := fun j => decide (dropI c[i] j ∈ c)) (r := some false) (e := spec_l05Ok_l0 k n c ((i + 1 : Nat) : Int) (some true)) ?_ ?_ (n := k) (by omega)
          · rw [this]
            simp only [List.all_eq_true, List.mem_range, decide_eq_true_eq]
            by_cases q : ∀ j, j < (c[i]).length → dropI c[i] j ∈ c
            · rw [if_pos q, if_pos (fun j _ hj => q j hj)]
            · rw [if_neg q, if_neg (fun h => q fun j hj => h j h1 hj)]
          · intro m j hj
            have hjlt : (j : Int) < ((c[i]).length : Int) := by omega
            have hw2 := w_succ (i := j) (by omega)
            simp only [spec_l05Ok_l1, hjlt, decide_true, if_true, decide_eq_true (show (1 : Int) < ((c[i]).length : Int) by omega), l05Drop_ok hsl hj, Option.bind_some, l05Find_ok hk ⟨hcl, hce⟩, find_negC, hw2]
            by_cases q : dropI c[i] j ∈ c
            · rw [decide_eq_true q]; simp
            · rw [decide_eq_false q]; simp
          · intro m
            simp only [spec_l05Ok_l1, Int.lt_irrefl, decide_false, Bool.false_eq_true, if_false, hw]
        · rw [if_pos (fun j h => absurd h h1)]
          obtain ⟨m, hm⟩ : ∃ m, k = m + 1 := ⟨k - 1, by omega⟩
          have hn1 : ¬ (1 : Int) < ((c[i]).length : Int) := by omega
          conv => lhs; arg 2; rw [hm]
          simp only [spec_l05Ok_l1, hn1, decide_false, Bool.false_eq_true, if_false, hw]
          split <;> rfl
      simp only [spec_l05Ok_l0, hlt, decide_true, if_true, Int.natCast_nonneg, Int.toNat_natCast, hg, Option.bind_some, l05Simplex_ok hk (show (c[i]).length ≤ 1000000000 by omega)]
      cases hsb : simpB c[i] with
      | false =>
        have : ¬ cxAt c c i = true := fun h => by
          have := simpB_iff.2 ((cxAt_iff hg).1 h).1
          rw [hsb] at this; cases this
        rw [if_neg this]; simp
      | true =>
        have hsp := simpB_iff.1 hsb
        simp only [Bool.not_true, Bool.false_eq_true, if_false]
        by_cases h0 : 0 < i
        · have h0' : (0 : Int) < (i : Int) := by omega
          have hw1 : w_i64 ((i : Int) - 1) = ((i - 1 : Nat) : Int) := by rw [w_id (by omega) (by omega)]; omega
          have hg1 : c[i - 1]? = some c[i - 1] := List.getElem?_eq_getElem (by omega)
          have hpl := hce c[i - 1] (List.getElem_mem (by omega))
          simp only [h0', decide_true, if_true, hw1, Int.natCast_nonneg, Int.toNat_natCast, hg1, Option.bind_some, l05Before_ok hk (show (c[i - 1]).length ≤ 1000000000 by omega)]
          cases hbf : befS c[i - 1] c[i] with
          | false =>
            have : ¬ cxAt c c i = true := fun h => by
              have : befS c[i - 1] c[i] = true := ((cxAt_iff hg).1 h).2.1 h0 _ hg1
              rw [hbf] at this; cases this
            rw [if_neg this]; simp
          | true =>
            simp only [Bool.not_true, Bool.false_eq_true, if_false, hin]
            by_cases q : ∀ k, 1 < (c[i]).length → k < (c[i]).length → dropI c[i] k ∈ c
            · rw [if_pos q, if_pos ((cxAt_iff hg).2 ⟨hsp, fun _ t ht => by rw [hg1] at ht; cases ht; exact hbf, fun a b => q b a⟩)]
            · rw [if_neg q, if_neg (fun h => q fun b a => ((cxAt_iff hg).1 h).2.2 a b)]
        · have h0' : ¬ (0 : Int) < (i : Int) := by omega
          simp only [h0', decide_false, Bool.false_eq_true, if_false, hin]
          by_cases q : ∀ k, 1 < (c[i]).length → k < (c[i]).length → dropI c[i] k ∈ c
          · rw [if_pos q, if_pos ((cxAt_iff hg).2 ⟨hsp, fun h => absurd h h0, fun a b => q b a⟩)]
          · rw [if_neg q, if_neg (fun h => q fun b a => ((cxAt_iff hg).1 h).2.2 a b)]
    · intro n
      simp only [spec_l05Ok_l0, Int.lt_irrefl, decide_false, Bool.false_eq_true, if_false]
  · rw [decide_eq_true (by omega), if_pos rfl]
    congr 1
    symm
    rw [Bool.eq_false_iff, ne_eq, cxB_iff]
    exact fun h => h48 h.len
theorem take_small {c : Cx} (hc : smallCx c) (i : Nat) : smallCx (c.take i) := ⟨by rw [List.length_take]; have := hc.1; omega, fun s hs => hc.2 s (List.mem_of_mem_take hs)⟩
theorem lostFace_ok {k : Nat} (hk : KK ≤ k) {c : Cx} (hc : smallCx c) {i : Nat} (hi : i ≤ c.length) (hs : (c.take i).Pairwise (fun a b => befS a b = true)) {s : List Int} (hsl : s.length ≤ 1048576) : slices_ContainsFunc_int64__impl_ValidComplex_1 k (facesL s) (c, (i : Int)) = some ((facesL s).any fun f => !decide (f ∈ c.take i)) := by
  have hK := KK_def
  have hcl := hc.1
  have hfl : (facesL s).length ≤ 1048576 := by
    unfold facesL
    split
    · rw [List.length_map, List.length_range]; exact hsl
    · simp
  unfold slices_ContainsFunc_int64__impl_ValidComplex_1 slices_IndexFunc_int64__impl_ValidComplex_1
  rw [loop_find (L := fun n j => slices_IndexFunc_int64__impl_ValidComplex_1_l0 k n (facesL s) (c, (i : Int)) ((facesL s).length : Int) j (some (-1))) (p := fun f => !decide (f ∈ c.take i)) (facesL s) ?_ ?_ (n := k) (by omega)]
  · rw [Option.bind_some, idxP_nonneg]
  · intro n j f hj hlt
    have hw := w_succ (i := j) (by omega)
    have hf : f.length ≤ 1048576 := by
      obtain ⟨_, q, hq, rfl⟩ := facesL_mem.1 (List.mem_of_getElem? hj)
      rw [dropI_len hq]; omega
    have b1 : (i : Int) ≤ (c.length : Int) := by omega
    simp only [slices_IndexFunc_int64__impl_ValidComplex_1_l0, impl_ValidComplex_1, hlt, decide_true, if_true, Int.natCast_nonneg, Int.le_refl, b1, and_self, Int.toNat_natCast, hj, Option.bind_some, indexOf_ok hk (take_small hc i) hs hf, find_negC, hw]
  · intro n
    simp [slices_IndexFunc_int64__impl_ValidComplex_1_l0]
theorem lost_iff {s : List Int} {d : Cx} : ((facesL s).any fun f => !decide (f ∈ d)) = false ↔ (1 < s.length → ∀ k, k < s.length → dropI s k ∈ d) := by
  rw [List.any_eq_false]
  constructor
  · intro h h1 k hk
    have := h _ (facesL_mem.2 ⟨h1, k, hk, rfl⟩)
    simpa using this
  · intro h f hf
    obtain ⟨h1, k, hk, rfl⟩ := facesL_mem.1 hf
    simpa using h h1 k hk
theorem validComplex_ok {k : Nat} (hk : KK ≤ k) {c : Cx} (hc : smallCx c) : impl_ValidComplex k c = some (cxB c) := by
  have hK := KK_def
  obtain ⟨hcl, hce⟩ := hc
  unfold impl_ValidComplex
  have := loop_allN' (L := fun n i => impl_ValidComplex_l0 k n c (c.length : Int) i c (fun v_9 => some (decide ((List.length v_9 : Int) ≤ 48)))) (b := c.length) (p := fun i => cxAt c (c.take i) i) (r := some false) (e := some (decide (c.length ≤ 48))) ?_ ?_ (n := k) (by omega)
  · rw [this]
    have e : ((List.range c.length).all (fun i => cxAt c (c.take i) i) = true ∧ c.length ≤ 48) ↔ CxP c := by
      rw [List.all_eq_true]
      constructor
      · rintro ⟨h, h48⟩
        have h' : ∀ i s, c[i]? = some s → SimpP s ∧ prevP (fun a b => befS a b = true) c i s ∧ (1 < s.length → ∀ k, k < s.length → dropI s k ∈ c.take i) := fun i s hs => (cxAt_iff hs).1 (h i (List.mem_range.2 (List.getElem?_eq_some_iff.1 hs).1))
        refine ⟨h48, fun s hs => ?_, ?_, fun s hs h1 k hk => ?_⟩
        · obtain ⟨i, hi⟩ := List.getElem?_of_mem hs
          exact (h' i s hi).1
        · have := prevP_pairwise (R := fun a b => befS a b = true) (fun a b c => befS_trans) (l := c) (m := c.length) (fun j hj x hx => (h' j x hx).2.1)
          rwa [List.take_length] at this
        · obtain ⟨i, hi⟩ := List.getElem?_of_mem hs
          exact List.mem_of_mem_take ((h' i s hi).2.2 h1 k hk)
      · intro h
        refine ⟨fun i hi => ?_, h.len⟩
        rw [List.mem_range] at hi
        have hg : c[i]? = some c[i] := List.getElem?_eq_getElem hi
        refine (cxAt_iff hg).2 ⟨h.simp _ (List.getElem_mem hi), pairwise_prevP h.ord hg, fun h1 k hk => ?_⟩
        have hm := h.face _ (List.getElem_mem hi) h1 k hk
        obtain ⟨j, hj⟩ := List.getElem?_of_mem hm
        obtain ⟨hjl, hje⟩ := List.getElem?_eq_some_iff.1 hj
        have hji : j < i := by
          by_cases q : j < i
          · exact q
          · have hb : befS (dropI c[i] k) c[i] = true := by
              unfold befS
              rw [dropI_len hk, decide_eq_true (by omega)]; rfl
            by_cases q2 : j = i
            · subst q2
              have := befS_irrefl c[j]
              rw [← hje, befS_irrefl] at hb; cases hb
            · have h3 := List.pairwise_iff_getElem.1 h.ord i j hi hjl (by omega)
              rw [hje, befS_asymm hb] at h3; cases h3
        rw [List.mem_take_iff_getElem]
        exact ⟨j, by omega, hje⟩
    by_cases q : CxP c
    · obtain ⟨q1, q2⟩ := e.2 q
      rw [if_pos q1, decide_eq_true q2, cxB_iff.2 q]
    · have : cxB c = false := by rw [Bool.eq_false_iff, ne_eq, cxB_iff]; exact q
      rw [this]
      by_cases q1 : (List.range c.length).all (fun i => cxAt c (c.take i) i) = true
      · rw [if_pos q1, decide_eq_false (fun q2 => q (e.1 ⟨q1, q2⟩))]
      · rw [if_neg q1]
  · intro n i hi hpre
    have hlt : (i : Int) < (c.length : Int) := by omega
    have hw := w_succ (i := i) (by omega)
    have hg : c[i]? = some c[i] := List.getElem?_eq_getElem hi
    have hsl := hce c[i] (List.getElem_mem hi)
    have hsorted : (c.take i).Pairwise (fun a b => befS a b = true) := prevP_pairwise (R := fun a b => befS a b = true) (fun a b c => befS_trans) (fun j hj x hx => ((cxAt_iff hx).1 (hpre j hj)).2.1)
    simp only [impl_ValidComplex_l0, hlt, decide_true, if_true, Int.natCast_nonneg, Int.toNat_natCast, hg, Option.bind_some, validSimplex_ok hk (show (c[i]).length ≤ 1000000000 by omega), facesOf_ok hk hsl, lostFace_ok hk ⟨hcl, hce⟩ (Nat.le_of_lt hi) hsorted hsl, hw]
    cases hsb : simpB c[i] with
    | false =>
      have : ¬ cxAt c (c.take i) i = true := fun h => by
        have := simpB_iff.2 ((cxAt_iff hg).1 h).1
        rw [hsb] at this; cases this
      rw [if_neg this]; simp
    | true =>
      have hsp := simpB_iff.1 hsb
      simp only [Bool.not_true, Bool.false_eq_true, if_false]
      by_cases h0 : 0 < i
      · have h0' : (0 : Int) < (i : Int) := by omega
        have hw1 : w_i64 ((i : Int) - 1) = ((i - 1 : Nat) : Int) := by rw [w_id (by omega) (by omega)]; omega
        have hg1 : c[i - 1]? = some c[i - 1] := List.getElem?_eq_getElem (by omega)
        have hpl := hce c[i - 1] (List.getElem_mem (by omega))
        simp only [h0', decide_true, if_true, hw1, Int.natCast_nonneg, Int.toNat_natCast, hg1, Option.bind_some, compareSx_ok hk (show (c[i - 1]).length ≤ 1000000000 by omega) (show (c[i]).length ≤ 1000000000 by omega), cmpSx_ge]
        cases hbf : befS c[i - 1] c[i] with
        | false =>
          have : ¬ cxAt c (c.take i) i = true := fun h => by
            have : befS c[i - 1] c[i] = true := ((cxAt_iff hg).1 h).2.1 h0 _ hg1
            rw [hbf] at this; cases this
          rw [if_neg this]; simp
        | true =>
          simp only [Bool.not_true, Bool.false_eq_true, if_false]
          cases hq : (facesL c[i]).any fun f => !decide (f ∈ c.take i) with
          | false =>
            rw [if_neg (by simp), if_pos ((cxAt_iff hg).2 ⟨hsp, fun _ t ht => by rw [hg1] at ht; cases ht; exact hbf, lost_iff.1 hq⟩)]
          | true =>
            rw [if_pos rfl, if_neg (fun h => by rw [lost_iff.2 ((cxAt_iff hg).1 h).2.2] at hq; cases hq)]
      · have h0' : ¬ (0 : Int) < (i : Int) := by omega
        simp only [h0', decide_false, Bool.false_eq_true, if_false]
        cases hq : (facesL c[i]).any fun f => !decide (f ∈ c.take i) with
        | false =>
          rw [if_neg (by simp), if_pos ((cxAt_iff hg).2 ⟨hsp, fun h => absurd h h0, lost_iff.1 hq⟩)]
        | true =>
          rw [if_pos rfl, if_neg (fun h => by rw [lost_iff.2 ((cxAt_iff hg).1 h).2.2] at hq; cases hq)]
  · intro n
    have e2 : decide ((c.length : Int) ≤ 48) = decide (c.length ≤ 48) := decide_eq_decide.2 (by omega)
    simp only [impl_ValidComplex_l0, Int.lt_irrefl, decide_false, Bool.false_eq_true, if_false, e2]
abbrev She := Cx × Int × List Int × List Mat
/-- The numbers of the simplices of a dimension. -/
def ofC (c : Cx) (d : Int) : List Nat := (List.range c.length).filter fun i => match c[i]? with | some s => decide ((s.length : Int) = d + 1) | none => false
theorem ofC_lt {c : Cx} {d : Int} {i : Nat} (h : i ∈ ofC c d) : i < c.length := List.mem_range.1 (List.mem_filter.1 h).1
theorem ofC_len (c : Cx) (d : Int) : (ofC c d).length ≤ c.length := by
  unfold ofC
  exact Nat.le_trans (List.length_filter_le ..) (by rw [List.length_range]; exact Nat.le_refl _)
theorem range_snoc' (f : Nat → Bool) (n : Nat) : (List.range (n + 1)).filter f = (List.range n).filter f ++ (if f n = true then [n] else []) := by
  rw [List.range_succ, List.filter_append, List.filter_cons, List.filter_nil]
theorem l05Of_ok {k : Nat} (hk : KK ≤ k) {c : Cx} (hc : smallCx c) {d : Int} (hd : -1000 ≤ d ∧ d ≤ 1000) : spec_l05Of k c d = some ((ofC c d).map fun i : Nat => (i : Int)) := by
  have hK := KK_def
  have hL := LIM_def
  obtain ⟨hcl, hce⟩ := hc
  have hwd : w_i64 (d + 1) = d + 1 := w_id (by omega) (by omega)
  unfold spec_l05Of
  have := loop_list (α := List Int) (A := List Int) (L := fun n i q => spec_l05Of_l0 k n c d i q (fun q_4 => some q_4)) (I := fun pre q => q = ((List.range pre.length).filter fun i => match c[i]? with | some s => decide ((s.length : Int) = d + 1) | none => false).map fun i : Nat => (i : Int)) (G := fun _ _ => some ((ofC c d).map fun i : Nat => (i : Int))) c ?_ ?_ k (by omega) [] (by simp)
  · exact this
  · intro n pre x post q hx hq ih hg hlt
    have hw := w_succ (i := pre.length) (by omega)
    have hql : q.length ≤ pre.length := by rw [hq, List.length_map]; exact Nat.le_trans (List.length_filter_le ..) (by rw [List.length_range]; exact Nat.le_refl _)
    have hlim : (q.length + 1) * 8 ≤ LIM := by omega
    simp only [spec_l05Of_l0, hlt, decide_true, if_true, Int.natCast_nonneg, Int.toNat_natCast, hg, Option.bind_some, hw, hwd, List.length_singleton, hlim]
    by_cases hb : (x.length : Int) = d + 1
    · rw [decide_eq_true hb, if_pos rfl]
      refine ih _ ?_
      rw [List.length_append, List.length_singleton, range_snoc', hg]
      simp only [hb, decide_true, if_true, List.map_append, hq, List.map_cons, List.map_nil]
    · rw [decide_eq_false hb, if_neg (by simp)]
      refine ih _ ?_
      rw [List.length_append, List.length_singleton, range_snoc', hg]
      simp only [hb, decide_false, Bool.false_eq_true, if_false, List.append_nil, hq]
  · intro n q hq
    simp only [spec_l05Of_l0, Int.lt_irrefl, decide_false, Bool.false_eq_true, if_false, hq]
    rfl
theorem simplicesOf_ok {k : Nat} (hk : KK ≤ k) {c : Cx} (hc : smallCx c) {d : Int} (hd : -1000 ≤ d ∧ d ≤ 1000) : impl_simplicesOf k c d = some ((ofC c d).map fun i : Nat => (i : Int)) := by
  have hK := KK_def
  have hL := LIM_def
  obtain ⟨hcl, hce⟩ := hc
  have hwd : w_i64 (d + 1) = d + 1 := w_id (by omega) (by omega)
  unfold impl_simplicesOf
  have := loop_list (α := List Int) (A := List Int) (L := fun n i q => impl_simplicesOf_l0 k n d c (c.length : Int) i q (fun q_4 => some q_4)) (I := fun pre q => q = ((List.range pre.length).filter fun i => match c[i]? with | some s => decide ((s.length : Int) = d + 1) | none => false).map fun i : Nat => (i : Int)) (G := fun _ _ => some ((ofC c d).map fun i : Nat => (i : Int))) c ?_ ?_ k (by omega) [] (by simp)
  · exact this
  · intro n pre x post q hx hq ih hg hlt
    have hw := w_succ (i := pre.length) (by omega)
    have hql : q.length ≤ pre.length := by rw [hq, List.length_map]; exact Nat.le_trans (List.length_filter_le ..) (by rw [List.length_range]; exact Nat.le_refl _)
    have hlim : (q.length + 1) * 8 ≤ LIM := by omega
    simp only [impl_simplicesOf_l0, impl_size_int64, hlt, decide_true, if_true, Int.natCast_nonneg, Int.toNat_natCast, hg, Option.bind_some, hw, hwd, List.length_singleton, hlim]
    by_cases hb : (x.length : Int) = d + 1
    · rw [decide_eq_true hb, if_pos rfl]
      refine ih _ ?_
      rw [List.length_append, List.length_singleton, range_snoc', hg]
      simp only [hb, decide_true, if_true, List.map_append, hq, List.map_cons, List.map_nil]
    · rw [decide_eq_false hb, if_neg (by simp)]
      refine ih _ ?_
      rw [List.length_append, List.length_singleton, range_snoc', hg]
      simp only [hb, decide_false, Bool.false_eq_true, if_false, List.append_nil, hq]
  · intro n q hq
    simp only [impl_simplicesOf_l0, Int.lt_irrefl, decide_false, Bool.false_eq_true, if_false, hq]
    rfl
/-- Stalks that lie in bounds, one a simplex. -/
structure StP (c : Cx) (st : List Int) : Prop where
  len : st.length = c.length
  val : ∀ x ∈ st, 0 ≤ x ∧ x ≤ 3
def sumSt (st : List Int) (l : List Nat) : Int := (l.map fun i => st.getD i 0).sum
theorem sumSt_snoc (st : List Int) (l : List Nat) (i : Nat) : sumSt st (l ++ [i]) = sumSt st l + st.getD i 0 := by unfold sumSt; simp
theorem st_at {c : Cx} {st : List Int} (h : StP c st) {i : Nat} (hi : i < c.length) : st[i]? = some (st.getD i 0) ∧ 0 ≤ st.getD i 0 ∧ st.getD i 0 ≤ 3 := by
  have hl : i < st.length := by rw [h.len]; exact hi
  have e : st.getD i 0 = st[i] := by rw [List.getD_eq_getElem?_getD, List.getElem?_eq_getElem hl]; rfl
  rw [e]
  exact ⟨List.getElem?_eq_getElem hl, h.val _ (List.getElem_mem hl)⟩
theorem sumSt_ok {c : Cx} {st : List Int} (h : StP c st) : ∀ (l : List Nat), (∀ i ∈ l, i < c.length) → 0 ≤ sumSt st l ∧ sumSt st l ≤ 3 * l.length
  | [], _ => by simp [sumSt]
  | i :: l, hl => by
    have ih := sumSt_ok h l (fun j hj => hl j (by simp [hj]))
    have := st_at h (hl i (by simp))
    have e : sumSt st (i :: l) = st.getD i 0 + sumSt st l := by unfold sumSt; simp
    rw [e, List.length_cons]
    omega
theorem l09Sum_ok {k : Nat} (hk : KK ≤ k) {c : Cx} (hc : smallCx c) {st : List Int} (h : StP c st) {d : Int} (hd : -1000 ≤ d ∧ d ≤ 1000) : spec_l09Sum k c st d = some (sumSt st (ofC c d)) := by
  have hK := KK_def
  have hol := ofC_len c d
  have hcl := hc.1
  unfold spec_l09Sum
  rw [l05Of_ok hk hc hd]
  simp only [Option.bind_some]
  have := loop_list (α := Nat) (A := Int) (L := fun n i z => spec_l09Sum_l0 k n st z i ((ofC c d).map fun i : Nat => (i : Int)) (fun z => some z)) (I := fun pre z => z = sumSt st pre) (G := fun _ _ => some (sumSt st (ofC c d))) (ofC c d) ?_ ?_ k (by omega) 0 rfl
  · exact this
  · intro n pre x post z hx hz ih hg hlt
    have hw := w_succ (i := pre.length) (by omega)
    have hxc : x < c.length := ofC_lt (by rw [hx]; simp : x ∈ ofC c d)
    have hF : ((ofC c d).map fun i : Nat => (i : Int))[pre.length]? = some (x : Int) := by rw [List.getElem?_map, hg]; rfl
    have hpl : pre.length < (ofC c d).length := by omega
    obtain ⟨s1, s2, s3⟩ := st_at h hxc
    have hb := sumSt_ok h pre (fun j hj => ofC_lt (by rw [hx]; simp [hj] : j ∈ ofC c d))
    have hwz : w_i64 (z + st.getD x 0) = z + st.getD x 0 := w_id (by omega) (by omega)
    simp only [spec_l09Sum_l0, List.length_map, hlt, hpl, decide_true, if_true, Int.natCast_nonneg, Int.toNat_natCast, and_self, hF, s1, Option.bind_some, hw, hwz]
    exact ih _ (by rw [sumSt_snoc, hz])
  · intro n z hz
    simp only [spec_l09Sum_l0, List.length_map, Int.lt_irrefl, decide_false, Bool.false_eq_true, if_false, hz]
theorem stalkSum_ok {k : Nat} (hk : KK ≤ k) {s : She} (hc : smallCx s.1) (h : StP s.1 s.2.2.1) {d : Int} (hd : -1000 ≤ d ∧ d ≤ 1000) : impl_stalkSum k s d = some (sumSt s.2.2.1 (ofC s.1 d)) := by
  have hK := KK_def
  have hol := ofC_len s.1 d
  have hcl := hc.1
  unfold impl_stalkSum
  rw [simplicesOf_ok hk hc hd]
  simp only [Option.bind_some, List.length_map]
  have := loop_list (α := Nat) (A := Int) (L := fun n i z => impl_stalkSum_l0 k n z ((ofC s.1 d).length : Int) i ((ofC s.1 d).map fun i : Nat => (i : Int)) s (fun z => some z)) (I := fun pre z => z = sumSt s.2.2.1 pre) (G := fun _ _ => some (sumSt s.2.2.1 (ofC s.1 d))) (ofC s.1 d) ?_ ?_ k (by omega) 0 rfl
  · exact this
  · intro n pre x post z hx hz ih hg hlt
    have hw := w_succ (i := pre.length) (by omega)
    have hxc : x < s.1.length := ofC_lt (by rw [hx]; simp : x ∈ ofC s.1 d)
    have hF : ((ofC s.1 d).map fun i : Nat => (i : Int))[pre.length]? = some (x : Int) := by rw [List.getElem?_map, hg]; rfl
    have hpl : pre.length < (ofC s.1 d).length := by omega
    obtain ⟨s1, s2, s3⟩ := st_at h hxc
    have hb := sumSt_ok h pre (fun j hj => ofC_lt (by rw [hx]; simp [hj] : j ∈ ofC s.1 d))
    have hwz : w_i64 (z + s.2.2.1.getD x 0) = z + s.2.2.1.getD x 0 := w_id (by omega) (by omega)
    simp only [impl_stalkSum_l0, List.length_map, hlt, hpl, decide_true, if_true, Int.natCast_nonneg, Int.toNat_natCast, and_self, hF, s1, Option.bind_some, hw, hwz]
    exact ih _ (by rw [sumSt_snoc, hz])
  · intro n z hz
    simp only [impl_stalkSum_l0, Int.lt_irrefl, decide_false, Bool.false_eq_true, if_false, hz]
noncomputable instance stP_dec (c : Cx) (st : List Int) : Decidable (StP c st) := Classical.propDecidable _
noncomputable def stB (c : Cx) (st : List Int) : Bool := decide (StP c st) && (List.range 4).all fun d => decide (sumSt st (ofC c (d : Int)) ≤ 32)
theorem stB_st {c : Cx} {st : List Int} (h : stB c st = true) : StP c st := by
  unfold stB at h
  rw [Bool.and_eq_true, decide_eq_true_eq] at h
  exact h.1
theorem StP_iff {c : Cx} {st : List Int} : (st.all (fun x => decide (0 ≤ x ∧ x ≤ 4 - 1)) && decide ((st.length : Int) = (c.length : Int))) = true ↔ StP c st := by
  simp only [Bool.and_eq_true, List.all_eq_true, decide_eq_true_eq]
  exact ⟨fun h => ⟨by omega, fun x hx => by have := h.1 x hx; omega⟩, fun h => ⟨fun x hx => by have := h.val x hx; omega, by have := h.len; omega⟩⟩
theorem l09Stalks_ok {k : Nat} (hk : KK ≤ k) {c : Cx} (hc : smallCx c) {st : List Int} (hs : st.length ≤ 1048576) : spec_l09Stalks k c st = some (stB c st) := by
  have hK := KK_def
  unfold spec_l09Stalks
  rw [column_ok hk hs _ (by omega)]
  simp only [Option.bind_some]
  by_cases h : StP c st
  · rw [StP_iff.2 h]
    simp only [Bool.not_true, Bool.false_eq_true, if_false]
    have := loop_allN (L := fun n i => spec_l09Stalks_l0 k n c st i (some true)) (b := 4) (p := fun d : Nat => decide (sumSt st (ofC c (d : Int)) ≤ 32)) (r := some false) (e := some true) ?_ ?_ (n := k) (by omega)
    · rw [this]
      unfold stB
      rw [decide_eq_true h, Bool.true_and]
      cases (List.range 4).all fun d => decide (sumSt st (ofC c (d : Int)) ≤ 32) <;> rfl
    · intro n i hi
      have hlt : (i : Int) ≤ 3 := by omega
      have hw := w_succ (i := i) (by omega)
      simp only [spec_l09Stalks_l0, hlt, decide_true, if_true, l09Sum_ok hk hc h (d := (i : Int)) (by omega), Option.bind_some, hw]
      by_cases c1 : sumSt st (ofC c (i : Int)) ≤ 32
      · rw [decide_eq_true c1, decide_eq_false (by omega), if_neg (by simp), if_pos rfl]
      · rw [decide_eq_false c1, decide_eq_true (by omega), if_pos rfl, if_neg (by simp)]
    · intro n
      have : ¬ (((4 : Nat) : Int) ≤ 3) := by omega
      simp only [spec_l09Stalks_l0, this, decide_false, Bool.false_eq_true, if_false]
  · have h2 : (st.all (fun x => decide (0 ≤ x ∧ x ≤ 4 - 1)) && decide ((st.length : Int) = (c.length : Int))) = false := by rw [Bool.eq_false_iff, ne_eq, StP_iff]; exact h
    rw [h2, if_pos (by simp)]
    unfold stB
    rw [decide_eq_false h]; rfl
theorem areStalks_ok {k : Nat} (hk : KK ≤ k) {c : Cx} (hc : smallCx c) {st : List Int} (hs : st.length ≤ 1048576) : impl_areStalks k c st = some (stB c st) := by
  have hK := KK_def
  have hcf : slices_ContainsFunc_int64__impl_areStalks_1 k st () = some (st.any fun x => !decide (0 ≤ x ∧ x ≤ 3)) := by
    unfold slices_ContainsFunc_int64__impl_areStalks_1 slices_IndexFunc_int64__impl_areStalks_1
    rw [loop_find (L := fun n i => slices_IndexFunc_int64__impl_areStalks_1_l0 k n st () (st.length : Int) i (some (-1))) (p := fun x => !decide (0 ≤ x ∧ x ≤ 3)) st ?_ ?_ (n := k) (by omega)]
    · rw [Option.bind_some, idxP_nonneg]
    · intro n i x hi hlt
      have hw := w_succ (i := i) (by omega)
      simp only [slices_IndexFunc_int64__impl_areStalks_1_l0, impl_areStalks_1, within_ok, hlt, decide_true, if_true, Int.natCast_nonneg, Int.toNat_natCast, hi, Option.bind_some, hw]
    · intro n
      simp [slices_IndexFunc_int64__impl_areStalks_1_l0]
  unfold impl_areStalks
  rw [hcf]
  simp only [Option.bind_some]
  by_cases hl : st.length = c.length
  · rw [decide_eq_true (show (st.length : Int) = (c.length : Int) by omega), if_neg (by simp)]
    by_cases hv : ∀ x ∈ st, 0 ≤ x ∧ x ≤ 3
    · have h : StP c st := ⟨hl, hv⟩
      have ha : (st.any fun x => !decide (0 ≤ x ∧ x ≤ 3)) = false := by
        rw [List.any_eq_false]; intro x hx; simp [hv x hx]
      rw [ha, if_neg (by simp)]
      have := loop_allN (L := fun n i => impl_areStalks_l0 k n st i c (some true)) (b := 4) (p := fun d : Nat => decide (sumSt st (ofC c (d : Int)) ≤ 32)) (r := some false) (e := some true) ?_ ?_ (n := k) (by omega)
      · rw [this]
        unfold stB
        rw [decide_eq_true h, Bool.true_and]
        cases (List.range 4).all fun d => decide (sumSt st (ofC c (d : Int)) ≤ 32) <;> rfl
      · intro n i hi
        have hlt : (i : Int) < 4 := by omega
        have hw := w_succ (i := i) (by omega)
        have hst := stalkSum_ok hk (s := (c, 0, st, [])) hc h (d := (i : Int)) (by omega)
        simp only at hst
        simp only [impl_areStalks_l0, hlt, decide_true, if_true, hst, Option.bind_some, hw]
        by_cases c1 : sumSt st (ofC c (i : Int)) ≤ 32
        · rw [decide_eq_true c1, decide_eq_false (by omega), if_neg (by simp), if_pos rfl]
        · rw [decide_eq_false c1, decide_eq_true (by omega), if_pos rfl, if_neg (by simp)]
      · intro n
        have : ¬ (((4 : Nat) : Int) < 4) := by omega
        simp only [impl_areStalks_l0, this, decide_false, Bool.false_eq_true, if_false]
    · have ha : (st.any fun x => !decide (0 ≤ x ∧ x ≤ 3)) = true := by
        rw [List.any_eq_true]
        apply Classical.byContradiction
        intro hn
        apply hv
        intro x hx
        apply Classical.byContradiction
        intro hx2
        exact hn ⟨x, hx, by simp only [Bool.not_eq_true', decide_eq_false_iff_not]; exact hx2⟩
      rw [ha, if_pos rfl]
      unfold stB
      rw [decide_eq_false (fun h : StP c st => hv h.val)]; rfl
  · rw [decide_eq_false (show ¬ (st.length : Int) = (c.length : Int) by omega), if_pos (by simp)]
    unfold stB
    rw [decide_eq_false (fun h : StP c st => hl h.len)]; rfl
/-- The numbers of a simplex's faces. -/
def facesIx (c : Cx) (s : List Int) : List Nat := (facesL s).map (posC c)
theorem facesL_len (s : List Int) : (facesL s).length = if 1 < s.length then s.length else 0 := by
  unfold facesL
  split
  · rw [List.length_map, List.length_range]
  · rfl
theorem facesIx_len (c : Cx) (s : List Int) : (facesIx c s).length = if 1 < s.length then s.length else 0 := by unfold facesIx; rw [List.length_map, facesL_len]
theorem facesIx_lt {c : Cx} (h : CxP c) {s : List Int} (hs : s ∈ c) {f : Nat} (hf : f ∈ facesIx c s) : f < c.length := by
  unfold facesIx at hf
  obtain ⟨g, hg, rfl⟩ := List.mem_map.1 hf
  obtain ⟨h1, j, hj, rfl⟩ := facesL_mem.1 hg
  exact posC_lt.2 (h.face s hs h1 j hj)
theorem cx_small {c : Cx} (h : CxP c) : smallCx c := ⟨by have := h.len; omega, fun s hs => by have := (h.simp s hs).len4; omega⟩
theorem l05Faces_ok {k : Nat} (hk : KK ≤ k) {c : Cx} (h : CxP c) {j : Nat} {s : List Int} (hj : c[j]? = some s) : spec_l05Faces k c (j : Int) = some ((facesIx c s).map fun i : Nat => (i : Int)) := by
  have hK := KK_def
  have hL := LIM_def
  have hm := List.mem_of_getElem? hj
  have hs4 := (h.simp s hm).len4
  have hsc := cx_small h
  unfold spec_l05Faces
  rw [if_pos (Int.natCast_nonneg _), Int.toNat_natCast, hj]
  simp only [Option.bind_some]
  by_cases c1 : 1 < s.length
  · have := loop_list (α := Nat) (A := List Int) (L := fun n i q => spec_l05Faces_l0 k n c s i q (fun q_5 => some q_5)) (I := fun pre q => q = (List.range pre.length).map fun i => ((posC c (dropI s i) : Nat) : Int)) (G := fun _ _ => some ((facesIx c s).map fun i : Nat => (i : Int))) (List.range s.length) ?_ ?_ k (by simp; omega) [] (by simp)
    · exact this
    · intro n pre x post q hx hq ih hg hlt
      rw [List.length_range] at hlt
      have hpl : pre.length < s.length := by omega
      have hw := w_succ (i := pre.length) (by omega)
      have hlim : (q.length + 1) * 8 ≤ LIM := by rw [hq, List.length_map, List.length_range]; omega
      have hin := h.face s hm c1 pre.length hpl
      have c1' : (1 : Int) < (s.length : Int) := by omega
      simp only [spec_l05Faces_l0, hlt, c1', decide_true, if_true, l05Drop_ok (show s.length ≤ 1048576 by omega) hpl, l05Find_ok hk hsc, posC_lt.2 hin, Option.bind_some, List.length_singleton, hlim, hw]
      refine ih _ ?_
      rw [hq, List.length_append, List.length_singleton, List.range_succ, List.map_append]
      rfl
    · intro n q hq
      rw [List.length_range] at hq ⊢
      simp only [spec_l05Faces_l0, Int.lt_irrefl, decide_false, Bool.false_eq_true, if_false, hq]
      unfold facesIx facesL
      rw [if_pos c1, List.map_map, List.map_map]
      rfl
  · obtain ⟨n, hn⟩ : ∃ n, k = n + 1 := ⟨k - 1, by omega⟩
    have c1' : ¬ (1 : Int) < (s.length : Int) := by omega
    conv => lhs; arg 2; rw [hn]
    simp only [spec_l05Faces_l0, c1', decide_false, Bool.false_eq_true, if_false]
    unfold facesIx facesL
    rw [if_neg c1]
    split <;> rfl
theorem faceIndices_ok {k : Nat} (hk : KK ≤ k) {c : Cx} (h : CxP c) {j : Nat} {s : List Int} (hj : c[j]? = some s) : impl_faceIndices k c (j : Int) = some ((facesIx c s).map fun i : Nat => (i : Int)) := by
  have hK := KK_def
  have hL := LIM_def
  have hm := List.mem_of_getElem? hj
  have hs4 := (h.simp s hm).len4
  have hsc := cx_small h
  have hfl := facesL_len s
  have hfl' : (facesL s).length ≤ 4 := by rw [hfl]; split <;> omega
  unfold impl_faceIndices
  rw [if_pos (Int.natCast_nonneg _), Int.toNat_natCast, hj]
  simp only [Option.bind_some, facesOf_ok hk (show s.length ≤ 1048576 by omega)]
  have := loop_list (α := List Int) (A := List Int) (L := fun n i q => impl_faceIndices_l0 k n ((facesL s).length : Int) i q (facesL s) c (fun q_8 => some q_8)) (I := fun pre q => q = pre.map fun f => ((posC c f : Nat) : Int)) (G := fun _ _ => some ((facesIx c s).map fun i : Nat => (i : Int))) (facesL s) ?_ ?_ k (by omega) [] rfl
  · exact this
  · intro n pre x post q hx hq ih hg hlt
    have hpl : pre.length < (facesL s).length := by omega
    have hw := w_succ (i := pre.length) (by omega)
    have hlim : (q.length + 1) * 8 ≤ LIM := by rw [hq, List.length_map]; omega
    obtain ⟨h1, i, hi, rfl⟩ := facesL_mem.1 (List.mem_of_getElem? hg)
    have hin := h.face s hm h1 i hi
    simp only [impl_faceIndices_l0, hlt, hpl, decide_true, if_true, Int.natCast_nonneg, Int.toNat_natCast, and_self, hg, indexOf_ok hk hsc h.ord (show (dropI s i).length ≤ 1048576 by rw [dropI_len hi]; omega), posC_lt.2 hin, Option.bind_some, List.length_singleton, hlim, hw]
    exact ih _ (by rw [hq, List.map_append]; rfl)
  · intro n q hq
    simp only [impl_faceIndices_l0, Int.lt_irrefl, decide_false, Bool.false_eq_true, if_false, hq]
    unfold facesIx
    rw [List.map_map]
    rfl
/-- The arrows to a simplex, and to the first n of them: simplex, number, face. -/
def arrBlk (c : Cx) (j : Nat) : List (Nat × Nat × Nat) := match c[j]? with
  | some s => (List.range (facesIx c s).length).map fun i => (j, i, (facesIx c s).getD i 0)
  | none => []
def arrN (c : Cx) (n : Nat) : List (Nat × Nat × Nat) := (List.range n).flatMap (arrBlk c)
theorem arrN_succ (c : Cx) (n : Nat) : arrN c (n + 1) = arrN c n ++ arrBlk c n := by unfold arrN; rw [List.range_succ, List.flatMap_append]; simp
theorem arrBlk_len {c : Cx} {j : Nat} {s : List Int} (hj : c[j]? = some s) : (arrBlk c j).length = if 1 < s.length then s.length else 0 := by
  unfold arrBlk; rw [hj]; simp only [List.length_map, List.length_range, facesIx_len]
theorem arrBlk_get {c : Cx} {j i : Nat} {s : List Int} (hj : c[j]? = some s) (hi : i < (facesIx c s).length) : (arrBlk c j)[i]? = some (j, i, (facesIx c s).getD i 0) := by
  unfold arrBlk; rw [hj]; simp only [List.getElem?_map, List.getElem?_range hi]; rfl
theorem arrN_len {c : Cx} (h : CxP c) : ∀ n, n ≤ c.length → (arrN c n).length ≤ 4 * n
  | 0, _ => by simp [arrN]
  | n + 1, hn => by
    have ih := arrN_len h n (by omega)
    have hg : c[n]? = some c[n] := List.getElem?_eq_getElem (by omega)
    have h4 := (h.simp _ (List.mem_of_getElem? hg)).len4
    rw [arrN_succ, List.length_append, arrBlk_len hg]
    split <;> omega
theorem arrN_mono (c : Cx) {a b : Nat} (h : a ≤ b) : (arrN c a).length ≤ (arrN c b).length := by
  induction b with
  | zero => rw [show a = 0 by omega]; exact Nat.le_refl _
  | succ b ih =>
    by_cases e : a = b + 1
    · rw [e]; exact Nat.le_refl _
    · have := ih (by omega)
      rw [arrN_succ, List.length_append]; omega
theorem l09Place_ok {k : Nat} (hk : KK ≤ k) {c : Cx} (h : CxP c) {j i : Nat} (hj : j ≤ c.length) (hi : i ≤ 4) : spec_l09Place k c (j : Int) (i : Int) = some (((arrN c j).length + i : Nat) : Int) := by
  have hK := KK_def
  have hcl := h.len
  unfold spec_l09Place
  have := loop_list (α := Nat) (A := Int) (L := fun n p z => spec_l09Place_l0 k n c (j : Int) (i : Int) z p (fun i_3 at_4 => some (w_i64 (at_4 + i_3)))) (I := fun pre z => z = ((arrN c pre.length).length : Int)) (G := fun _ _ => some (((arrN c j).length + i : Nat) : Int)) (List.range j) ?_ ?_ k (by simp; omega) 0 rfl
  · exact this
  · intro n pre x post z hx hz ih hg hlt
    rw [List.length_range] at hlt
    have hpl : pre.length < c.length := by omega
    have hw := w_succ (i := pre.length) (by omega)
    have hgc : c[pre.length]? = some c[pre.length] := List.getElem?_eq_getElem hpl
    have h4 := (h.simp _ (List.mem_of_getElem? hgc)).len4
    have hal := arrN_len h pre.length (by omega)
    have hnx : (arrN c (pre.length + 1)).length = (arrN c pre.length).length + (if 1 < (c[pre.length]).length then (c[pre.length]).length else 0) := by rw [arrN_succ, List.length_append, arrBlk_len hgc]
    simp only [spec_l09Place_l0, hlt, decide_true, if_true, Int.natCast_nonneg, Int.toNat_natCast, hgc, Option.bind_some, hw]
    by_cases c1 : 1 < (c[pre.length]).length
    · have hwz : w_i64 (z + ((c[pre.length]).length : Int)) = z + ((c[pre.length]).length : Int) := w_id (by omega) (by omega)
      rw [decide_eq_true (by omega), if_pos rfl, hwz]
      refine ih _ ?_
      rw [if_pos c1] at hnx
      rw [List.length_append, List.length_singleton, hnx, hz]; rfl
    · rw [decide_eq_false (by omega), if_neg (by simp)]
      refine ih _ ?_
      rw [if_neg c1] at hnx
      rw [List.length_append, List.length_singleton, hnx, hz]; rfl
  · intro n z hz
    rw [List.length_range] at hz ⊢
    have hal := arrN_len h j hj
    have hwz : w_i64 (z + (i : Int)) = (((arrN c j).length + i : Nat) : Int) := by rw [w_id (by omega) (by omega)]; omega
    simp only [spec_l09Place_l0, Int.lt_irrefl, decide_false, Bool.false_eq_true, if_false, hwz]
def toI3 (a : Nat × Nat × Nat) : Int × Int × Int := ((a.1 : Int), (a.2.1 : Int), (a.2.2 : Int))
theorem arrows_ok {k : Nat} (hk : KK ≤ k) {c : Cx} (h : CxP c) : impl_arrows k c = some ((arrN c c.length).map toI3) := by
  have hK := KK_def
  have hL := LIM_def
  have hcl := h.len
  unfold impl_arrows impl_size_int64_i2
  simp only [Option.bind_some]
  have := loop_list (α := List Int) (A := List (Int × Int × Int)) (L := fun n i q => impl_arrows_l0 k n (c.length : Int) i q c (fun q_8 => some q_8)) (I := fun pre q => q = (arrN c pre.length).map toI3) (G := fun _ _ => some ((arrN c c.length).map toI3)) c ?_ ?_ k (by omega) [] rfl
  · exact this
  · intro n pre x post q hx hq ih hg hlt
    have hw := w_succ (i := pre.length) (by omega)
    have hpl : pre.length < c.length := by omega
    have h4 := (h.simp _ (List.mem_of_getElem? hg)).len4
    have hal := arrN_len h pre.length (by omega)
    have hfl := facesIx_len c x
    have hfl4 : (facesIx c x).length ≤ 4 := by rw [hfl]; split <;> omega
    simp only [impl_arrows_l0, hlt, decide_true, if_true, faceIndices_ok hk h hg, Option.bind_some, List.length_map]
    have inner : ∀ E : Int → Int → List (Int × Int × Int) → Cx → Option (List (Int × Int × Int)), impl_arrows_l1 k k (pre.length : Int) (c.length : Int) (pre.length : Int) ((facesIx c x).length : Int) 0 q ((facesIx c x).map fun i : Nat => (i : Int)) c E = E (c.length : Int) (pre.length : Int) ((arrN c (pre.length + 1)).map toI3) c := by
      intro E
      have := loop_list (α := Nat) (A := List (Int × Int × Int)) (L := fun n i r => impl_arrows_l1 k n (pre.length : Int) (c.length : Int) (pre.length : Int) ((facesIx c x).length : Int) i r ((facesIx c x).map fun i : Nat => (i : Int)) c E) (I := fun pre2 r => r = ((arrN c pre.length) ++ (List.range pre2.length).map fun i => (pre.length, i, (facesIx c x).getD i 0)).map toI3) (G := fun _ _ => E (c.length : Int) (pre.length : Int) ((arrN c (pre.length + 1)).map toI3) c) (facesIx c x) ?_ ?_ k (by omega) q (by simp [hq])
      · exact this
      · intro n pre2 f post2 r hx2 hr ih2 hg2 hlt2
        have hpl2 : pre2.length < (facesIx c x).length := by omega
        have hw2 := w_succ (i := pre2.length) (by omega)
        have hF : ((facesIx c x).map fun i : Nat => (i : Int))[pre2.length]? = some (f : Int) := by rw [List.getElem?_map, hg2]; rfl
        have hlim : (r.length + 1) * 24 ≤ LIM := by rw [hr, List.length_map, List.length_append, List.length_map, List.length_range]; omega
        have hgd : (facesIx c x).getD pre2.length 0 = f := by rw [List.getD_eq_getElem?_getD, hg2]; rfl
        simp only [impl_arrows_l1, List.length_map, hlt2, hpl2, decide_true, if_true, Int.natCast_nonneg, Int.toNat_natCast, and_self, hF, Option.bind_some, List.length_singleton, hlim, hw2]
        refine ih2 _ ?_
        rw [hr, List.length_append, List.length_singleton, List.range_succ, List.map_append (l₁ := List.range pre2.length), ← List.append_assoc, List.map_append (f := toI3) (l₁ := arrN c pre.length ++ _)]
        show _ = _ ++ [toI3 (pre.length, pre2.length, (facesIx c x).getD pre2.length 0)]
        rw [hgd]; rfl
      · intro n r hr
        have e : arrBlk c pre.length = (List.range (facesIx c x).length).map fun i => (pre.length, i, (facesIx c x).getD i 0) := by unfold arrBlk; rw [hg]
        simp only [impl_arrows_l1, Int.lt_irrefl, decide_false, Bool.false_eq_true, if_false, hr]
        rw [arrN_succ, e]
    rw [inner, hw]
    exact ih _ (by rw [List.length_append, List.length_singleton])
  · intro n q hq
    simp only [impl_arrows_l0, Int.lt_irrefl, decide_false, Bool.false_eq_true, if_false, hq]
noncomputable def matB (k : Nat) (m : Mat) : Bool := (spec_l03Ok k m).getD false
theorem matB_ok {k : Nat} (hk : KK ≤ k) {m : Mat} (hv : m.2.2.2.length ≤ 1048576) : spec_l03Ok k m = some (matB k m) ∧ impl_ValidMatrix k m = some (matB k m) ∧ (matB k m = true → ∃ R C, MatP m R C) := by
  obtain ⟨b, h1, h2, h3⟩ := matrix_ok hk hv
  have e : matB k m = b := by unfold matB; rw [h1]; rfl
  rw [e]
  exact ⟨h1, h2, h3⟩
noncomputable def primeB (k : Nat) (p : Int) : Bool := (spec_ValidPrime k p).getD false
theorem primeB_ok {k : Nat} (hk : KK ≤ k) (p : Int) : spec_ValidPrime k p = some (primeB k p) ∧ impl_ValidPrime k p = some (primeB k p) ∧ (primeB k p = true → 2 ≤ p ∧ p ≤ 251) := by
  obtain ⟨b, h1, h2, h3⟩ := prime_ok hk p
  have e : primeB k p = b := by unfold primeB; rw [h1]; rfl
  rw [e]
  exact ⟨h1, h2, h3⟩
/-- A map fits its arrow. -/
noncomputable def okA (k : Nat) (s : She) (a : Nat × Nat × Nat) (m : Mat) : Bool := matB k m && (decide (m.1 = s.2.1) && (decide (m.2.1 = s.2.2.1.getD a.1 0) && decide (m.2.2.1 = s.2.2.1.getD a.2.2 0)))
noncomputable def chk1 (k : Nat) (s : She) (o : Nat) (l : List (Nat × Nat × Nat)) (i : Nat) : Bool := match l[i]? with
  | some a => (match s.2.2.2[o + i]? with | some m => okA k s a m | none => false)
  | none => true
/-- Maps from a place on fit arrows. -/
def chk (k : Nat) (s : She) (o : Nat) (l : List (Nat × Nat × Nat)) : Prop := ∀ j a, l[j]? = some a → ∃ m, s.2.2.2[o + j]? = some m ∧ okA k s a m = true
theorem chk1_iff {k : Nat} {s : She} {o : Nat} {l : List (Nat × Nat × Nat)} : (List.range l.length).all (chk1 k s o l) = true ↔ chk k s o l := by
  simp only [List.all_eq_true, List.mem_range]
  constructor
  · intro z i a ha
    have := z i (List.getElem?_eq_some_iff.1 ha).1
    unfold chk1 at this
    rw [ha] at this
    cases hm : s.2.2.2[o + i]? with
    | none => rw [hm] at this; cases this
    | some m => rw [hm] at this; exact ⟨m, rfl, this⟩
  · intro z i hi
    obtain ⟨m, h1, h2⟩ := z i _ (List.getElem?_eq_getElem hi)
    unfold chk1
    rw [List.getElem?_eq_getElem hi, h1]
    exact h2
theorem chk_append {k : Nat} {s : She} {o : Nat} {l r : List (Nat × Nat × Nat)} : chk k s o (l ++ r) ↔ chk k s o l ∧ chk k s (o + l.length) r := by
  constructor
  · intro h
    refine ⟨fun j a hj => h j a (by rw [List.getElem?_append_left (List.getElem?_eq_some_iff.1 hj).1]; exact hj), fun j a hj => ?_⟩
    have := h (l.length + j) a (by rw [List.getElem?_append_right (by omega), Nat.add_sub_cancel_left]; exact hj)
    rwa [← Nat.add_assoc] at this
  · rintro ⟨h1, h2⟩ j a hj
    by_cases c : j < l.length
    · rw [List.getElem?_append_left c] at hj; exact h1 j a hj
    · rw [List.getElem?_append_right (by omega)] at hj
      have := h2 (j - l.length) a hj
      rwa [show o + l.length + (j - l.length) = o + j by omega] at this
theorem chk_all {k : Nat} {s : She} : ∀ n, (∀ j, j < n → chk k s (arrN s.1 j).length (arrBlk s.1 j)) ↔ chk k s 0 (arrN s.1 n)
  | 0 => by
    constructor
    · intro _ j a hj; simp [arrN] at hj
    · intro _ j hj; omega
  | n + 1 => by
    rw [arrN_succ, chk_append, ← chk_all n, Nat.zero_add]
    constructor
    · intro h; exact ⟨fun j hj => h j (by omega), h n (by omega)⟩
    · rintro ⟨h1, h2⟩ j hj
      by_cases e : j = n
      · subst e; exact h2
      · exact h1 j (by omega)
open Classical in
noncomputable def sheB (k : Nat) (s : She) : Bool := cxB s.1 && (primeB k s.2.1 && (stB s.1 s.2.2.1 && decide (s.2.2.2.length = (arrN s.1 s.1.length).length ∧ chk k s 0 (arrN s.1 s.1.length))))
structure smallSh (s : She) : Prop where
  cx : smallCx s.1
  st : s.2.2.1.length ≤ 1048576
  maps : s.2.2.2.length ≤ 1048576
  cells : ∀ m ∈ s.2.2.2, m.2.2.2.length ≤ 1048576
theorem arr_in {c : Cx} (h : CxP c) {n j : Nat} {a : Nat × Nat × Nat} (hn : n ≤ c.length) (hj : (arrN c n)[j]? = some a) : a.1 < c.length ∧ a.2.2 < c.length := by
  have hm := List.mem_of_getElem? hj
  unfold arrN at hm
  obtain ⟨i, hi, ha⟩ := List.mem_flatMap.1 hm
  rw [List.mem_range] at hi
  have hg : c[i]? = some c[i] := List.getElem?_eq_getElem (by omega)
  unfold arrBlk at ha
  rw [hg] at ha
  obtain ⟨p, hp, rfl⟩ := List.mem_map.1 ha
  rw [List.mem_range] at hp
  refine ⟨by show i < _; omega, facesIx_lt h (List.mem_of_getElem? hg) ?_⟩
  show (facesIx c c[i]).getD p 0 ∈ _
  rw [List.getD_eq_getElem?_getD, List.getElem?_eq_getElem hp]
  exact List.getElem_mem hp
open Classical in
theorem l09Ok_ok {k : Nat} (hk : KK ≤ k) {s : She} (hs : smallSh s) : spec_l09Ok k s = some (sheB k s) := by
  have hK := KK_def
  unfold spec_l09Ok sheB
  obtain ⟨p1, p2, p3⟩ := primeB_ok hk s.2.1
  rw [l05Ok_ok hk hs.cx, p1, l09Stalks_ok hk hs.cx hs.st]
  cases hcx : cxB s.1 with
  | false => simp
  | true =>
  cases primeB k s.2.1 with
  | false => simp
  | true =>
  cases hst : stB s.1 s.2.2.1 with
  | false => simp
  | true =>
    have h := cxB_iff.1 hcx
    have hS := stB_st hst
    have hcl := h.len
    have hal := arrN_len h s.1.length (Nat.le_refl _)
    have hcount : spec_l09Count k s.1 = some ((arrN s.1 s.1.length).length : Int) := by
      unfold spec_l09Count
      have := l09Place_ok hk h (j := s.1.length) (i := 0) (Nat.le_refl _) (by omega)
      rw [Nat.add_zero] at this
      rw [show ((0 : Nat) : Int) = 0 from rfl] at this
      rw [this]; rfl
    simp only [Option.bind_some, Bool.not_true, Bool.false_eq_true, if_false, hcount, Bool.true_and]
    by_cases hN : s.2.2.2.length = (arrN s.1 s.1.length).length
    · rw [decide_eq_true (show (s.2.2.2.length : Int) = ((arrN s.1 s.1.length).length : Int) by omega), if_neg (by simp)]
      have := loop_allN (L := fun n i => spec_l09Ok_l0 k n s i (some true)) (b := s.1.length) (p := fun j => decide (chk k s (arrN s.1 j).length (arrBlk s.1 j))) (r := some false) (e := some true) ?_ ?_ (n := k) (by omega)
      · rw [this]
        have e : ((List.range s.1.length).all (fun j => decide (chk k s (arrN s.1 j).length (arrBlk s.1 j))) = true) ↔ chk k s 0 (arrN s.1 s.1.length) := by
          rw [← chk_all]
          simp only [List.all_eq_true, List.mem_range, decide_eq_true_eq]
        by_cases q : chk k s 0 (arrN s.1 s.1.length)
        · rw [if_pos (e.2 q), decide_eq_true ⟨hN, q⟩]
        · rw [if_neg (fun z => q (e.1 z)), decide_eq_false (fun z => q z.2)]
      · intro n j hj
        have hlt : (j : Int) < (s.1.length : Int) := by omega
        have hw := w_succ (i := j) (by omega)
        have hg : s.1[j]? = some s.1[j] := List.getElem?_eq_getElem hj
        have hm := List.mem_of_getElem? hg
        have h4 := (h.simp _ hm).len4
        have hbl := arrBlk_len hg
        have hnx : (arrN s.1 (j + 1)).length = (arrN s.1 j).length + (arrBlk s.1 j).length := by rw [arrN_succ, List.length_append]
        have hmono := arrN_mono s.1 (show j + 1 ≤ s.1.length by omega)
        have haj := arrN_len h j (by omega)
        have hfl := facesIx_len s.1 s.1[j]
        simp only [spec_l09Ok_l0, hlt, decide_true, if_true]
        have inner := loop_allN (L := fun m i => spec_l09Ok_l1 k m s (j : Int) i (fun s_5 k_6 => spec_l09Ok_l0 k n s_5 (w_i64 (k_6 + 1)) (some true))) (b := (arrBlk s.1 j).length) (p := chk1 k s (arrN s.1 j).length (arrBlk s.1 j)) (r := some false) (e := spec_l09Ok_l0 k n s ((j + 1 : Nat) : Int) (some true)) ?_ ?_ (n := k) (by rw [hbl]; split <;> omega)
        · refine Eq.trans inner ?_
          have e := chk1_iff (k := k) (s := s) (o := (arrN s.1 j).length) (l := arrBlk s.1 j)
          by_cases q : chk k s (arrN s.1 j).length (arrBlk s.1 j)
          · rw [if_pos (e.2 q), if_pos (decide_eq_true q)]
          · rw [if_neg (fun z => q (e.1 z)), if_neg (by simpa using q)]
        · intro m i hi
          have h1 : 1 < (s.1[j]).length := by
            apply Classical.byContradiction
            intro hn
            rw [hbl, if_neg hn] at hi; omega
          rw [if_pos h1] at hbl hfl
          have hil : i < (s.1[j]).length := by omega
          have hil' : (i : Int) < ((s.1[j]).length : Int) := by omega
          have h1' : (1 : Int) < ((s.1[j]).length : Int) := by omega
          have hw2 := w_succ (i := i) (by omega)
          have hml : (arrN s.1 j).length + i < s.2.2.2.length := by omega
          have hgm : s.2.2.2[(arrN s.1 j).length + i]? = some s.2.2.2[(arrN s.1 j).length + i] := List.getElem?_eq_getElem hml
          have hcells := hs.cells _ (List.mem_of_getElem? hgm)
          have hfi : i < (facesIx s.1 s.1[j]).length := by omega
          have hga := arrBlk_get hg hfi
          have hgd : (facesIx s.1 s.1[j])[i]? = some ((facesIx s.1 s.1[j]).getD i 0) := by rw [List.getD_eq_getElem?_getD, List.getElem?_eq_getElem hfi]; rfl
          have hF : ((facesIx s.1 s.1[j]).map fun i : Nat => (i : Int))[i]? = some (((facesIx s.1 s.1[j]).getD i 0 : Nat) : Int) := by rw [List.getElem?_map, hgd]; rfl
          have hflt : (facesIx s.1 s.1[j]).getD i 0 < s.1.length := facesIx_lt h hm (List.mem_of_getElem? hgd)
          obtain ⟨s1, _⟩ := st_at hS hj
          obtain ⟨s2, _⟩ := st_at hS hflt
          simp only [spec_l09Ok_l1, spec_l09Map, Int.natCast_nonneg, if_true, Int.toNat_natCast, hg, Option.bind_some, hil', h1', decide_true, l09Place_ok hk h (show j ≤ s.1.length by omega) (show i ≤ 4 by omega), hgm, l05Faces_ok hk h hg, List.length_map, hfi, and_self, hF, (matB_ok hk hcells).1, s1, s2, hw2]
          have e : chk1 k s (arrN s.1 j).length (arrBlk s.1 j) i = okA k s (j, i, (facesIx s.1 s.1[j]).getD i 0) s.2.2.2[(arrN s.1 j).length + i] := by unfold chk1; rw [hga, hgm]
          rw [e]
          unfold okA
          generalize s.2.2.2[(arrN s.1 j).length + i] = mm
          generalize hv : s.2.2.1.getD ((facesIx s.1 s.1[j]).getD i 0) 0 = v
          generalize hu : s.2.2.1.getD j 0 = u
          clear hv hu
          cases matB k mm
          · simp
          · by_cases q1 : mm.1 = s.2.1
            · by_cases q2 : mm.2.1 = u
              · by_cases q3 : mm.2.2.1 = v <;> simp [q1, q2, q3]
              · simp [q1, q2]
            · simp [q1]
        · intro m
          have hstop : ¬ (((arrBlk s.1 j).length : Int) < ((s.1[j]).length : Int) ∧ (1 : Int) < ((s.1[j]).length : Int)) := by
            rw [hbl]; split <;> omega
          simp only [spec_l09Ok_l1, Int.natCast_nonneg, if_true, Int.toNat_natCast, hg, Option.bind_some, hw]
          by_cases q1 : ((arrBlk s.1 j).length : Int) < ((s.1[j]).length : Int)
          · have q2 : ¬ (1 : Int) < ((s.1[j]).length : Int) := fun z => hstop ⟨q1, z⟩
            rw [decide_eq_true q1, if_pos rfl, decide_eq_false q2, if_neg (by simp)]
          · rw [decide_eq_false q1, if_neg (by simp)]
      · intro n
        simp only [spec_l09Ok_l0, Int.lt_irrefl, decide_false, Bool.false_eq_true, if_false]
    · rw [decide_eq_false (show ¬ (s.2.2.2.length : Int) = ((arrN s.1 s.1.length).length : Int) by omega), if_pos (by simp), decide_eq_false (fun z => hN z.1)]
open Classical in
theorem validSheaf_ok {k : Nat} (hk : KK ≤ k) {s : She} (hs : smallSh s) : impl_ValidSheaf k s = some (sheB k s) := by
  have hK := KK_def
  unfold impl_ValidSheaf sheB
  obtain ⟨p1, p2, p3⟩ := primeB_ok hk s.2.1
  rw [validComplex_ok hk hs.cx, p2, areStalks_ok hk hs.cx hs.st]
  cases hcx : cxB s.1 with
  | false => simp
  | true =>
  cases primeB k s.2.1 with
  | false => simp
  | true =>
  cases hst : stB s.1 s.2.2.1 with
  | false => simp
  | true =>
    have h := cxB_iff.1 hcx
    have hS := stB_st hst
    have hcl := h.len
    have hal := arrN_len h s.1.length (Nat.le_refl _)
    simp only [Option.bind_some, Bool.not_true, Bool.false_eq_true, if_false, arrows_ok hk h, Bool.true_and, List.length_map]
    have := loop_allN (L := fun n i => impl_ValidSheaf_l0 k n ((arrN s.1 s.1.length).length : Int) i ((arrN s.1 s.1.length).map toI3) s (fun q_11 v_12 => some (decide ((List.length q_11 : Int) = (List.length v_12.2.2.2 : Int))))) (b := (arrN s.1 s.1.length).length) (p := chk1 k s 0 (arrN s.1 s.1.length)) (r := some false) (e := some (decide ((arrN s.1 s.1.length).length = s.2.2.2.length))) ?_ ?_ (n := k) (by omega)
    · rw [this]
      have e := chk1_iff (k := k) (s := s) (o := 0) (l := arrN s.1 s.1.length)
      by_cases q : chk k s 0 (arrN s.1 s.1.length)
      · rw [if_pos (e.2 q)]
        congr 1
        exact decide_eq_decide.2 ⟨fun z => ⟨z.symm, q⟩, fun z => z.1.symm⟩
      · rw [if_neg (fun z => q (e.1 z)), decide_eq_false (fun z => q z.2)]
    · intro n i hi
      have hlt : (i : Int) < ((arrN s.1 s.1.length).length : Int) := by omega
      have hw := w_succ (i := i) (by omega)
      have hg : (arrN s.1 s.1.length)[i]? = some (arrN s.1 s.1.length)[i] := List.getElem?_eq_getElem hi
      have hF : ((arrN s.1 s.1.length).map toI3)[i]? = some (toI3 (arrN s.1 s.1.length)[i]) := by rw [List.getElem?_map, hg]; rfl
      obtain ⟨a1, a2⟩ := arr_in h (Nat.le_refl _) hg
      obtain ⟨s1, _⟩ := st_at hS a1
      obtain ⟨s2, _⟩ := st_at hS a2
      have hch : chk1 k s 0 (arrN s.1 s.1.length) i = (match s.2.2.2[i]? with | some m => okA k s (arrN s.1 s.1.length)[i] m | none => false) := by unfold chk1; rw [hg, Nat.zero_add]
      rw [hch]
      generalize (arrN s.1 s.1.length)[i] = a at hF s1 s2
      simp only [impl_ValidSheaf_l0, List.length_map, hlt, hi, decide_true, if_true, Int.natCast_nonneg, Int.toNat_natCast, and_self, hF, Option.bind_some, hw, toI3]
      by_cases hml : i < s.2.2.2.length
      · have hgm : s.2.2.2[i]? = some s.2.2.2[i] := List.getElem?_eq_getElem hml
        have hcells := hs.cells _ (List.mem_of_getElem? hgm)
        rw [decide_eq_false (by omega), if_neg (by simp), hgm, s1, s2]
        simp only [Option.bind_some, impl_isBetween, (matB_ok hk hcells).2.1]
        show _ = if okA k s a s.2.2.2[i] = true then _ else _
        unfold okA
        generalize s.2.2.2[i] = mm
        generalize s.2.2.1.getD a.1 0 = u
        generalize s.2.2.1.getD a.2.2 0 = v
        cases matB k mm
        · simp
        · by_cases q1 : mm.1 = s.2.1
          · by_cases q2 : mm.2.1 = u
            · by_cases q3 : mm.2.2.1 = v <;> simp [q1, q2, q3]
            · simp [q1, q2]
          · simp [q1]
      · rw [decide_eq_true (by omega), if_pos rfl, List.getElem?_eq_none (by omega)]
        rfl
    · intro n
      simp only [impl_ValidSheaf_l0, Int.lt_irrefl, decide_false, Bool.false_eq_true, if_false, List.length_map]
      exact congrArg some (decide_eq_decide.2 (by omega))
abbrev Fil := Cx × List Int
/-- A face comes no later. -/
def chkF (ti : List Int) (a : Nat × Nat × Nat) : Bool := !decide (ti.getD a.1 0 < ti.getD a.2.2 0)
def timesB (ti : List Int) (n : Nat) : Bool := ti.all (fun x => decide (0 ≤ x ∧ x ≤ 1000)) && decide (ti.length = n)
noncomputable def filB (f : Fil) : Bool := cxB f.1 && (timesB f.2 f.1.length && (arrN f.1 f.1.length).all (chkF f.2))
theorem specFil_ok {k : Nat} (hk : KK ≤ k) {f : Fil} (hc : smallCx f.1) (ht : f.2.length ≤ 1048576) : spec_l21Ok k f = some (filB f) := by
  have hK := KK_def
  unfold spec_l21Ok filB
  have hcol : spec_l03Column k f.2 (f.1.length : Int) 1001 = some (timesB f.2 f.1.length) := by
    rw [column_ok hk ht _ (by omega)]
    unfold timesB
    have e : decide ((f.2.length : Int) = (f.1.length : Int)) = decide (f.2.length = f.1.length) := decide_eq_decide.2 (by omega)
    rw [e]
    rfl
  rw [l05Ok_ok hk hc, hcol]
  cases hcx : cxB f.1 with
  | false => simp
  | true =>
  cases htb : timesB f.2 f.1.length with
  | false => simp
  | true =>
  have h := cxB_iff.1 hcx
  have hcl := h.len
  have hlen : f.2.length = f.1.length := by
    unfold timesB at htb
    rw [Bool.and_eq_true, decide_eq_true_eq] at htb
    exact htb.2
  simp only [Option.bind_some, Bool.not_true, Bool.false_eq_true, if_false, Bool.true_and]
  have := loop_allN (L := fun n i => spec_l21Ok_l0 k n f i (some true)) (b := f.2.length) (p := fun j => (arrBlk f.1 j).all (chkF f.2)) (r := some false) (e := some true) ?_ ?_ (n := k) (by omega)
  · refine this.trans ?_
    rw [hlen]
    have e : (arrN f.1 f.1.length).all (chkF f.2) = (List.range f.1.length).all (fun j => (arrBlk f.1 j).all (chkF f.2)) := by unfold arrN; rw [List.all_flatMap]
    rw [e]
    cases (List.range f.1.length).all (fun j => (arrBlk f.1 j).all (chkF f.2)) <;> rfl
  · intro n j hj
    have hlt : (j : Int) < (f.2.length : Int) := by omega
    have hw := w_succ (i := j) (by omega)
    have hj' : j < f.1.length := by omega
    have hg : f.1[j]? = some f.1[j] := List.getElem?_eq_getElem hj'
    have hm := List.mem_of_getElem? hg
    have h4 := (h.simp _ hm).len4
    have hfl := facesIx_len f.1 f.1[j]
    have hfl4 : (facesIx f.1 f.1[j]).length ≤ 4 := by rw [hfl]; split <;> omega
    have hp : (arrBlk f.1 j).all (chkF f.2) = (facesIx f.1 f.1[j]).all (fun g => !decide (f.2.getD j 0 < f.2.getD g 0)) := by
      unfold arrBlk
      rw [hg]
      simp only
      rw [Bool.eq_iff_iff, List.all_eq_true, List.all_eq_true]
      constructor
      · intro z g hgm
        obtain ⟨i, hi, rfl⟩ := List.getElem_of_mem hgm
        have := z (j, i, (facesIx f.1 f.1[j]).getD i 0) (List.mem_map.2 ⟨i, List.mem_range.2 hi, rfl⟩)
        unfold chkF at this
        rw [List.getD_eq_getElem?_getD (l := facesIx f.1 f.1[j]), List.getElem?_eq_getElem hi] at this
        exact this
      · intro z a ha
        obtain ⟨i, hi, rfl⟩ := List.mem_map.1 ha
        rw [List.mem_range] at hi
        have := z _ (List.getElem_mem hi)
        unfold chkF
        simp only
        rw [List.getD_eq_getElem?_getD (l := facesIx f.1 f.1[j]), List.getElem?_eq_getElem hi]
        exact this
    simp only [spec_l21Ok_l0, hlt, decide_true, if_true, l05Faces_ok hk h hg, Option.bind_some]
    rw [hp]
    have hgj : f.2[j]? = some (f.2.getD j 0) := by rw [List.getD_eq_getElem?_getD, List.getElem?_eq_getElem hj]; rfl
    have inner := loop_all (L := fun m i => spec_l21Ok_l1 k m f (j : Int) i ((facesIx f.1 f.1[j]).map fun i : Nat => (i : Int)) (fun f_4 k_5 => spec_l21Ok_l0 k n f_4 (w_i64 (k_5 + 1)) (some true))) (p := fun y : Int => !decide (f.2.getD j 0 < f.2.getD y.toNat 0)) (r := some false) (e := spec_l21Ok_l0 k n f ((j + 1 : Nat) : Int) (some true)) ((facesIx f.1 f.1[j]).map fun i : Nat => (i : Int)) ?_ ?_ (n := k) (by rw [List.length_map]; omega)
    · refine inner.trans ?_
      rw [List.all_map]
      rfl
    · intro m i y hy hlt2
      have hy2 := hy
      rw [List.getElem?_map] at hy2
      obtain ⟨g, hg2, rfl⟩ := Option.map_eq_some_iff.1 hy2
      have hi : i < (facesIx f.1 f.1[j]).length := (List.getElem?_eq_some_iff.1 hg2).1
      have hw2 := w_succ (i := i) (by omega)
      have hgl : g < f.2.length := by rw [hlen]; exact facesIx_lt h hm (List.mem_of_getElem? hg2)
      have hgg : f.2[g]? = some (f.2.getD g 0) := by rw [List.getD_eq_getElem?_getD, List.getElem?_eq_getElem hgl]; rfl
      have hlt3 : (i : Int) < ((facesIx f.1 f.1[j]).length : Int) := by omega
      simp only [spec_l21Ok_l1, List.length_map, hlt3, hi, decide_true, if_true, Int.natCast_nonneg, Int.toNat_natCast, and_self, hy, Option.bind_some, hgg, hgj, hw2]
      show _ = if (!decide (f.2.getD j 0 < f.2.getD g 0)) = true then _ else _
      by_cases z : f.2.getD j 0 < f.2.getD g 0
      · rw [if_pos (decide_eq_true z), if_neg (by rw [decide_eq_true z]; simp)]
      · rw [if_neg (by rw [decide_eq_false z]; simp), if_pos (by rw [decide_eq_false z]; rfl)]
    · intro m
      simp only [spec_l21Ok_l1, Int.lt_irrefl, decide_false, Bool.false_eq_true, if_false, hw]
  · intro n
    simp only [spec_l21Ok_l0, Int.lt_irrefl, decide_false, Bool.false_eq_true, if_false]
theorem implFil_ok {k : Nat} (hk : KK ≤ k) {f : Fil} (hc : smallCx f.1) (ht : f.2.length ≤ 1048576) : impl_ValidFiltration k f = some (filB f) := by
  have hK := KK_def
  unfold impl_ValidFiltration filB slices_ContainsFunc_int64__impl_ValidFiltration_1 slices_IndexFunc_int64__impl_ValidFiltration_1
  rw [validComplex_ok hk hc]
  cases hcx : cxB f.1 with
  | false => simp
  | true =>
  have h := cxB_iff.1 hcx
  have hcl := h.len
  simp only [Option.bind_some, Bool.not_true, Bool.false_eq_true, if_false, Bool.true_and]
  by_cases hlen : f.2.length = f.1.length
  case neg =>
    rw [decide_eq_false (show ¬ (f.2.length : Int) = (f.1.length : Int) by omega), if_pos (by simp)]
    unfold timesB
    rw [decide_eq_false hlen, Bool.and_false, Bool.false_and]
  rw [decide_eq_true (show (f.2.length : Int) = (f.1.length : Int) by omega), if_neg (by simp)]
  have ht1 : timesB f.2 f.1.length = f.2.all (fun x => decide (0 ≤ x ∧ x ≤ 1000)) := by unfold timesB; rw [decide_eq_true hlen, Bool.and_true]
  rw [ht1, loop_find (L := fun n i => slices_IndexFunc_int64__impl_ValidFiltration_1_l0 k n f.2 () (f.2.length : Int) i (some (-1))) (p := fun x => !decide (0 ≤ x ∧ x ≤ 1000)) f.2 ?_ ?_ (n := k) (by omega)]
  · have e : (f.2.any fun x => !decide (0 ≤ x ∧ x ≤ 1000)) = !f.2.all (fun x => decide (0 ≤ x ∧ x ≤ 1000)) := by rw [List.not_all_eq_any_not]
    simp only [Option.bind_some, idxP_nonneg, e]
    cases f.2.all (fun x => decide (0 ≤ x ∧ x ≤ 1000)) with
    | false => simp
    | true =>
    have hal := arrN_len h f.1.length (Nat.le_refl _)
    simp only [Bool.not_true, Bool.false_eq_true, if_false, arrows_ok hk h, Option.bind_some, Bool.true_and]
    unfold slices_ContainsFunc_impl_arrow__impl_ValidFiltration_2 slices_IndexFunc_impl_arrow__impl_ValidFiltration_2
    rw [loop_find (L := fun n i => slices_IndexFunc_impl_arrow__impl_ValidFiltration_2_l0 k n ((arrN f.1 f.1.length).map toI3) f (((arrN f.1 f.1.length).map toI3).length : Int) i (some (-1))) (p := fun y : Int × Int × Int => decide (f.2.getD y.1.toNat 0 < f.2.getD y.2.2.toNat 0)) ((arrN f.1 f.1.length).map toI3) ?_ ?_ (n := k) (by rw [List.length_map]; omega)]
    · simp only [Option.bind_some, idxP_nonneg]
      congr 1
      rw [List.any_map, List.all_eq_not_any_not]
      congr 1
      refine congrArg (fun p => List.any (arrN f.1 f.1.length) p) (funext fun a => ?_)
      unfold chkF
      rw [Bool.not_not]
      rfl
    · intro n i y hy hlt
      have hy2 := hy
      rw [List.getElem?_map] at hy2
      obtain ⟨a, ha, rfl⟩ := Option.map_eq_some_iff.1 hy2
      obtain ⟨a1, a2⟩ := arr_in h (Nat.le_refl _) ha
      have hi : i < (arrN f.1 f.1.length).length := (List.getElem?_eq_some_iff.1 ha).1
      have hw := w_succ (i := i) (by omega)
      have g1 : f.2[a.1]? = some (f.2.getD a.1 0) := by rw [List.getD_eq_getElem?_getD, List.getElem?_eq_getElem (by omega)]; rfl
      have g2 : f.2[a.2.2]? = some (f.2.getD a.2.2 0) := by rw [List.getD_eq_getElem?_getD, List.getElem?_eq_getElem (by omega)]; rfl
      simp only [slices_IndexFunc_impl_arrow__impl_ValidFiltration_2_l0, impl_ValidFiltration_2, hlt, decide_true, if_true, Int.natCast_nonneg, Int.toNat_natCast, hy, Option.bind_some, toI3, g1, g2, hw]
      rfl
    · intro n
      simp only [slices_IndexFunc_impl_arrow__impl_ValidFiltration_2_l0, Int.lt_irrefl, decide_false, Bool.false_eq_true, if_false]
  · intro n i x hi hlt
    have hw := w_succ (i := i) (by omega)
    simp only [slices_IndexFunc_int64__impl_ValidFiltration_1_l0, impl_ValidFiltration_1, impl_isTime, within_ok, hlt, decide_true, if_true, Int.natCast_nonneg, Int.toNat_natCast, hi, Option.bind_some, hw]
  · intro n
    simp only [slices_IndexFunc_int64__impl_ValidFiltration_1_l0, Int.lt_irrefl, decide_false, Bool.false_eq_true, if_false]
abbrev Edg := Int × Int × Int
abbrev Gr := Int × List Edg
def edgeOk (N : Int) (e : Edg) : Bool := decide (0 ≤ e.1) && (decide (e.1 < e.2.1) && (decide (e.2.1 < N) && decide (1 ≤ e.2.2 ∧ e.2.2 ≤ 9)))
def edgeLt (a b : Edg) : Bool := decide (a.1 < b.1 ∨ (a.1 = b.1 ∧ a.2.1 < b.2.1))
def edgePrev (l : List Edg) (i : Nat) (e : Edg) : Bool := if 0 < i then (match l[i - 1]? with | some z => edgeLt z e | none => false) else true
def edgeAt (g : Gr) (i : Nat) : Bool := match g.2[i]? with | some e => edgeOk g.1 e && edgePrev g.2 i e | none => false
def graphB (g : Gr) : Bool := decide (1 ≤ g.1 ∧ g.1 ≤ 12) && ((List.range g.2.length).all (edgeAt g) && decide (g.2.length ≤ 24))
theorem compareEdges_ok {k : Nat} (hk : KK ≤ k) (a b : Edg) : impl_compareEdges k a b = some (if cI a.1 b.1 = 0 then cI a.2.1 b.2.1 else cI a.1 b.1) := by
  unfold impl_compareEdges
  simp only [compareInt_ok, Option.bind_some, cmpOr2_ok hk]
theorem cmp_edgeLt (a b : Edg) : decide (0 ≤ (if cI a.1 b.1 = 0 then cI a.2.1 b.2.1 else cI a.1 b.1)) = !edgeLt a b := by
  unfold edgeLt cI
  rw [← decide_not]
  refine decide_eq_decide.2 ?_
  by_cases h1 : a.1 < b.1
  · simp [h1]
  · by_cases h2 : b.1 < a.1
    · have : ¬ a.1 = b.1 := by omega
      simp [h1, h2, this]
    · have e : a.1 = b.1 := by omega
      by_cases h3 : a.2.1 < b.2.1
      · simp [e, h3]
      · by_cases h4 : b.2.1 < a.2.1 <;> simp [e, h3, h4]
theorem specGraph_ok {k : Nat} (hk : KK ≤ k) {g : Gr} (hL : g.2.length ≤ 1048576) : spec_l16Ok k g = some (graphB g) := by
  have hK := KK_def
  unfold spec_l16Ok graphB
  rw [l00In_ok]
  by_cases hN : 1 ≤ g.1 ∧ g.1 ≤ 12
  · rw [decide_eq_true hN]
    simp only [Option.bind_some, Bool.not_true, Bool.false_eq_true, if_false, Bool.true_and]
    have := loop_allN (L := fun n i => spec_l16Ok_l0 k n g i (fun g_9 => some (decide ((List.length g_9.2 : Int) ≤ 24)))) (b := g.2.length) (p := edgeAt g) (r := some false) (e := some (decide (g.2.length ≤ 24))) ?_ ?_ (n := k) (by omega)
    · refine Eq.trans this ?_
      cases (List.range g.2.length).all (edgeAt g) <;> simp
    · intro n i hi
      have hlt : (i : Int) < (g.2.length : Int) := by omega
      have hw := w_succ (i := i) (by omega)
      have hg : g.2[i]? = some g.2[i] := List.getElem?_eq_getElem hi
      simp only [spec_l16Ok_l0, hlt, decide_true, if_true, Int.natCast_nonneg, Int.toNat_natCast, hg, Option.bind_some, hw, l00In_ok, edgeAt, edgePrev, edgeOk]
      generalize g.2[i] = e
      have w1 : w_i64 (g.1 - 1) = g.1 - 1 := w_id (by omega) (by omega)
      rw [w1]
      by_cases c1 : 0 ≤ e.2.1 ∧ e.2.1 ≤ g.1 - 1
      · have w2 : w_i64 (e.2.1 - 1) = e.2.1 - 1 := w_id (by omega) (by omega)
        have c1' : e.2.1 < g.1 := by omega
        rw [w2, decide_eq_true c1, decide_eq_true c1']
        by_cases c2 : 0 ≤ e.1 ∧ e.1 ≤ e.2.1 - 1
        · have d1 : 0 ≤ e.1 := c2.1
          have d2 : e.1 < e.2.1 := by omega
          rw [decide_eq_true c2, decide_eq_true d1, decide_eq_true d2]
          by_cases c3 : 1 ≤ e.2.2 ∧ e.2.2 ≤ 9
          · rw [decide_eq_true c3]
            by_cases h0 : 0 < i
            · have hw1 : w_i64 ((i : Int) - 1) = ((i - 1 : Nat) : Int) := by rw [w_id (by omega) (by omega)]; omega
              have hg1 : g.2[i - 1]? = some g.2[i - 1] := List.getElem?_eq_getElem (by omega)
              have h0' : (0 : Int) < (i : Int) := by omega
              simp only [hw1, Int.natCast_nonneg, Int.toNat_natCast, hg1, h0, h0', decide_true, if_true, Option.bind_some]
              generalize g.2[i - 1] = z
              unfold edgeLt
              by_cases z1 : e.1 < z.1
              · have : ¬ (z.1 < e.1 ∨ (z.1 = e.1 ∧ z.2.1 < e.2.1)) := by omega
                simp [z1, this]
              · by_cases z2 : z.1 = e.1
                · by_cases z3 : e.2.1 ≤ z.2.1
                  · have : ¬ (z.1 < e.1 ∨ (z.1 = e.1 ∧ z.2.1 < e.2.1)) := by omega
                    simp [z1, z2, z3, this]
                    omega
                  · have : (z.1 < e.1 ∨ (z.1 = e.1 ∧ z.2.1 < e.2.1)) := by omega
                    rw [decide_eq_true this]
                    simp [z1, z2, z3]
                · have : (z.1 < e.1 ∨ (z.1 = e.1 ∧ z.2.1 < e.2.1)) := by omega
                  rw [decide_eq_true this]
                  simp [z1, z2]
            · have h0' : ¬ (0 : Int) < (i : Int) := by omega
              simp [h0, h0']
          · simp [c3]
        · have : ¬ (0 ≤ e.1 ∧ e.1 < e.2.1) := by omega
          rw [decide_eq_false c2]
          by_cases d1 : 0 ≤ e.1
          · have d2 : ¬ e.1 < e.2.1 := by omega
            simp [d1, d2]
          · simp [d1]
      · rw [decide_eq_false c1]
        by_cases d1 : 0 ≤ e.1
        · by_cases d2 : e.1 < e.2.1
          · have d3 : ¬ e.2.1 < g.1 := by omega
            simp [d1, d2, d3]
          · simp [d1, d2]
        · simp [d1]
    · intro n
      have e2 : decide ((g.2.length : Int) ≤ 24) = decide (g.2.length ≤ 24) := decide_eq_decide.2 (by omega)
      simp only [spec_l16Ok_l0, Int.lt_irrefl, decide_false, Bool.false_eq_true, if_false, e2]
  · rw [decide_eq_false hN]; simp
theorem implGraph_ok {k : Nat} (hk : KK ≤ k) {g : Gr} (hL : g.2.length ≤ 1048576) : impl_ValidGraph k g = some (graphB g) := by
  have hK := KK_def
  unfold impl_ValidGraph graphB
  have := loop_allN (L := fun n i => impl_ValidGraph_l0 k n g.2 (g.2.length : Int) i g (fun v_5 => (impl_within v_5.1 1 12).bind fun r_6 => (if r_6 = true then some (decide ((List.length v_5.2 : Int) ≤ 24)) else some false))) (b := g.2.length) (p := edgeAt g) (r := some false) (e := some (decide (1 ≤ g.1 ∧ g.1 ≤ 12) && decide (g.2.length ≤ 24))) ?_ ?_ (n := k) (by omega)
  · refine Eq.trans this ?_
    cases (List.range g.2.length).all (edgeAt g) <;> simp
  · intro n i hi
    have hlt : (i : Int) < (g.2.length : Int) := by omega
    have hw := w_succ (i := i) (by omega)
    have hg : g.2[i]? = some g.2[i] := List.getElem?_eq_getElem hi
    simp only [impl_ValidGraph_l0, hlt, decide_true, if_true, Int.natCast_nonneg, Int.toNat_natCast, hg, Option.bind_some, hw, within_ok, edgeAt, edgePrev, edgeOk]
    generalize g.2[i] = e
    by_cases d1 : 0 ≤ e.1
    · have d1' : ¬ e.1 < 0 := by omega
      by_cases d2 : e.1 < e.2.1
      · have d2' : ¬ e.2.1 ≤ e.1 := by omega
        by_cases d3 : e.2.1 < g.1
        · have d3' : ¬ g.1 ≤ e.2.1 := by omega
          by_cases c3 : 1 ≤ e.2.2 ∧ e.2.2 ≤ 9
          · by_cases h0 : 0 < i
            · have hw1 : w_i64 ((i : Int) - 1) = ((i - 1 : Nat) : Int) := by rw [w_id (by omega) (by omega)]; omega
              have hg1 : g.2[i - 1]? = some g.2[i - 1] := List.getElem?_eq_getElem (by omega)
              have h0' : (0 : Int) < (i : Int) := by omega
              simp only [d1, d1', d2, d2', d3, d3', c3, decide_true, decide_false, Bool.false_eq_true, if_false, Bool.not_true, and_self, hw1, Int.natCast_nonneg, Int.toNat_natCast, hg1, h0, h0', if_true, Option.bind_some, compareEdges_ok hk, cmp_edgeLt, Bool.true_and]
              cases edgeLt g.2[i - 1] e <;> simp
            · have h0' : ¬ (0 : Int) < (i : Int) := by omega
              simp [d1, d1', d2, d2', d3, d3', c3, h0, h0']
          · simp [d1, d1', d2, d2', d3, d3', c3]
        · have d3' : g.1 ≤ e.2.1 := by omega
          simp [d1, d1', d2, d2', d3, d3']
      · have d2' : e.2.1 ≤ e.1 := by omega
        simp [d1, d1', d2, d2']
    · have d1' : e.1 < 0 := by omega
      simp [d1, d1']
  · intro n
    have e2 : decide ((g.2.length : Int) ≤ 24) = decide (g.2.length ≤ 24) := decide_eq_decide.2 (by omega)
    simp only [impl_ValidGraph_l0, Int.lt_irrefl, decide_false, Bool.false_eq_true, if_false, within_ok, Option.bind_some, e2]
    cases decide (1 ≤ g.1 ∧ g.1 ≤ 12) <;> simp
def lowI (y : Int) : Bool := decide (97 ≤ y) && decide (y ≤ 122)
def digI (y : Int) : Bool := decide (48 ≤ y) && decide (y ≤ 57)
def nameI (y : Int) : Bool := lowI y || digI y
/-- A name: one to ten small letters and digits, a letter first. -/
def nameOk (s : List UInt8) : Bool := match s with | [] => false | a :: l => decide ((a :: l).length ≤ 10) && (lowI (z_u8 a) && (a :: l).all fun b => nameI (z_u8 b))
theorem l01Small_ok (y : Int) : spec_l01Small y = some (lowI y) := by
  unfold spec_l01Small lowI
  by_cases h : 97 ≤ y <;> simp [h]
theorem l01Digit_ok (y : Int) : spec_l01Digit y = some (digI y) := by
  unfold spec_l01Digit digI
  by_cases h : 48 ≤ y <;> simp [h]
theorem nameOk_cons (a : UInt8) (l : List UInt8) : nameOk (a :: l) = (decide ((a :: l).length ≤ 10) && (lowI (z_u8 a) && (a :: l).all fun b => nameI (z_u8 b))) := rfl
theorem l01Name_loop {k : Nat} (hk : KK ≤ k) {s : List UInt8} (hs : s.length ≤ 1000000000000) : spec_l01Name_l0 k k s 0 (some true) = if s.all (fun b => nameI (z_u8 b)) = true then some true else some false := by
  have hK := KK_def
  refine loop_all (L := fun n i => spec_l01Name_l0 k n s i (some true)) s ?_ ?_ (n := k) (by omega)
  · intro n i x hx hlt
    have hw := w_succ (i := i) (by omega)
    simp only [spec_l01Name_l0, hlt, decide_true, if_true, Int.natCast_nonneg, Int.toNat_natCast, hx, Option.bind_some, l01Small_ok, l01Digit_ok, hw, nameI]
    by_cases h1 : lowI (z_u8 x) = true <;> by_cases h2 : digI (z_u8 x) = true <;> simp [h1, h2]
  · intro n
    simp [spec_l01Name_l0]
theorem l01Name_ok {k : Nat} (hk : KK ≤ k) {s : List UInt8} (hs : s.length ≤ 1000000000000) : spec_l01Name k s = some (nameOk s) := by
  unfold spec_l01Name
  cases s with
  | nil => simp [nameOk]
  | cons a l =>
    rw [l01Name_loop hk hs, nameOk_cons, decide_eq_false (show ¬ (a :: l = []) by simp), if_neg (by simp)]
    by_cases h : (a :: l).length ≤ 10
    · rw [decide_eq_false (show ¬ (10 < ((a :: l).length : Int)) by omega), if_neg (by simp), decide_eq_true h]
      simp only [List.getElem?_cons_zero, Option.bind_some, l01Small_ok, Bool.true_and]
      cases lowI (z_u8 a)
      · simp
      · cases (a :: l).all (fun b => nameI (z_u8 b)) <;> simp
    · rw [decide_eq_true (show (10 < ((a :: l).length : Int)) by omega), if_pos rfl, decide_eq_false h]
      rfl
theorem isName_loop {k : Nat} (hk : KK ≤ k) (q : List Int) (hq : q.length ≤ 1000000000000) : impl_IsName_l0 k k (q.length : Int) 0 q (some true) = some (q.all nameI && lowI (q.headD 97)) := by
  have hK := KK_def
  have := loop_list (A := Unit) (L := fun n i _ => impl_IsName_l0 k n (q.length : Int) i q (some true)) (I := fun _ _ => True) (G := fun post _ => some (post.all nameI && (decide (post.length ≠ q.length) || lowI (post.headD 97)))) q ?_ ?_ k (by omega) () trivial
  · refine Eq.trans this ?_
    simp
  · intro n pre x post _ hx _ ih hg hlt
    have hw := w_succ (i := pre.length) (by omega)
    have hlt' : pre.length < q.length := by omega
    have ih := ih () trivial
    have hne : decide (post.length ≠ q.length) = true := by rw [hx]; simp <;> omega
    simp only [hne, Bool.true_or, Bool.and_true] at ih
    simp only [impl_IsName_l0, hlt, hlt', decide_true, if_true, Int.natCast_nonneg, Int.toNat_natCast, hg, Option.bind_some, hw, ih, and_self]
    have h0 : decide ((x :: post).length ≠ q.length) = decide (pre.length ≠ 0) := decide_eq_decide.2 (by rw [hx]; simp <;> omega)
    rw [h0]
    simp only [List.all_cons, List.headD_cons, nameI, lowI, digI]
    have h1 : decide ((pre.length : Int) = 0) = decide (pre.length = 0) := decide_eq_decide.2 (by omega)
    rw [h1]
    by_cases g1 : 97 ≤ x <;> by_cases g2 : x ≤ 122 <;> by_cases g3 : 48 ≤ x <;> by_cases g4 : x ≤ 57 <;> by_cases g0 : pre.length = 0 <;> first | omega | simp [g0, g1, g2, g3, g4]
  · intro n _ _
    simp [impl_IsName_l0, lowI]
theorem isName_ok {k : Nat} (hk : KK ≤ k) {s : List UInt8} (hs : s.length ≤ 1000000000000) : impl_IsName k s = some (nameOk s) := by
  have hK := KK_def
  have hL := LIM_def
  unfold impl_IsName
  have hl : (of_S s).length = s.length := by simp [of_S]
  rw [isName_loop hk (of_S s) (by omega), if_pos (show s.length ≤ LIM by omega)]
  cases s with
  | nil => simp [nameOk]
  | cons a l =>
    rw [decide_eq_false (show ¬ (((a :: l).length : Int) < 1) by simp only [List.length_cons]; omega), if_neg (by simp)]
    rw [nameOk_cons]
    by_cases h : (a :: l).length ≤ 10
    · rw [decide_eq_false (show ¬ (10 < ((a :: l).length : Int)) by omega), if_neg (by simp), decide_eq_true h, Bool.true_and]
      have e : (of_S (a :: l)).all nameI = (a :: l).all fun b => nameI (z_u8 b) := by simp [of_S, z_u8, List.all_map, Function.comp_def]
      rw [e, Bool.and_comm]; rfl
    · rw [decide_eq_true (show (10 < ((a :: l).length : Int)) by omega), if_pos rfl, decide_eq_false h]; rfl
/-- Each is less than the next. -/
def prevLt (ns : List (List UInt8)) (i : Nat) : Bool := if 0 < i then (match ns[i - 1]? with | some z => (match ns[i]? with | some y => Op.bytesLess z y | none => false) | none => false) else true
def strictP (ns : List (List UInt8)) : Prop := ns.Pairwise (fun a b => Op.bytesLess a b = true)
theorem prevLt_strict {ns : List (List UInt8)} : (∀ i, i < ns.length → prevLt ns i = true) ↔ strictP ns := by
  constructor
  · intro h
    have step : ∀ i, (hi : i + 1 < ns.length) → Op.bytesLess ns[i] ns[i + 1] = true := by
      intro i hi
      have := h (i + 1) hi
      unfold prevLt at this
      rw [if_pos (by omega), Nat.add_sub_cancel, List.getElem?_eq_getElem (by omega), List.getElem?_eq_getElem hi] at this
      exact this
    refine List.pairwise_iff_getElem.2 ?_
    have main : ∀ d i, (hj : i + d + 1 < ns.length) → Op.bytesLess ns[i] ns[i + d + 1] = true := by
      intro d
      induction d with
      | zero => intro i hj; exact step i hj
      | succ d ih => intro i hj; exact bl_trans _ _ _ (ih i (by omega)) (step (i + d + 1) hj)
    intro i j hi hj hij
    have := main (j - i - 1) i (by omega)
    have e : i + (j - i - 1) + 1 = j := by omega
    simpa only [e] using this
  · intro h i hi
    unfold prevLt
    split
    · rw [List.getElem?_eq_getElem (by omega), List.getElem?_eq_getElem hi]
      exact List.pairwise_iff_getElem.1 h _ _ (by omega) hi (by omega)
    · rfl
theorem strict_nodup {ns : List (List UInt8)} (h : strictP ns) : ns.Nodup := h.imp (fun {a b} hab e => by rw [e, bl_irrefl] at hab; cases hab)
def namesB (ns : List (List UInt8)) (m : Int) : Bool := (List.range ns.length).all (fun i => (match ns[i]? with | some y => nameOk y | none => false) && prevLt ns i) && decide ((ns.length : Int) ≤ m)
theorem namesB_iff {ns : List (List UInt8)} {m : Int} : namesB ns m = true ↔ (∀ y ∈ ns, nameOk y = true) ∧ strictP ns ∧ (ns.length : Int) ≤ m := by
  unfold namesB
  simp only [Bool.and_eq_true, List.all_eq_true, List.mem_range, decide_eq_true_eq]
  rw [← prevLt_strict]
  constructor
  · rintro ⟨h, h2⟩
    refine ⟨fun y hy => ?_, fun i hi => (h i hi).2, h2⟩
    obtain ⟨i, hi, rfl⟩ := List.getElem_of_mem hy
    have := (h i hi).1
    rw [List.getElem?_eq_getElem hi] at this
    exact this
  · rintro ⟨h, h1, h2⟩
    refine ⟨fun i hi => ⟨?_, h1 i hi⟩, h2⟩
    rw [List.getElem?_eq_getElem hi]
    exact h _ (List.getElem_mem hi)
theorem leq_less (x y : List UInt8) : (Op.bytesLess y x || decide (y = x)) = !Op.bytesLess x y := by
  cases h : Op.bytesLess x y
  · by_cases e : y = x
    · simp [e]
    · rw [bl_total x y h (fun h => e h.symm)]; rfl
  · have h2 := bl_asymm h
    rw [h2]
    have : ¬ y = x := fun e => by rw [e, bl_irrefl] at h; cases h
    simp [this]
theorem areNames_ok {k : Nat} (hk : KK ≤ k) {ns : List (List UInt8)} (hl : ns.length ≤ 1048576) (hx : ∀ x ∈ ns, x.length ≤ 1048576) (m : Int) : impl_areNames k ns m = some (namesB ns m) := by
  have hK := KK_def
  unfold impl_areNames namesB
  have := loop_allN (L := fun n i => impl_areNames_l0 k n ns m ns (ns.length : Int) i (fun names_4 most_5 => some (decide ((List.length names_4 : Int) ≤ most_5)))) (b := ns.length) (p := fun i => (match ns[i]? with | some y => nameOk y | none => false) && prevLt ns i) (r := some false) (e := some (decide ((ns.length : Int) ≤ m))) ?_ ?_ (n := k) (by omega)
  · refine Eq.trans this ?_
    cases (List.range ns.length).all (fun i => (match ns[i]? with | some y => nameOk y | none => false) && prevLt ns i) <;> simp
  · intro n i hi
    have hlt : (i : Int) < (ns.length : Int) := by omega
    have hw := w_succ (i := i) (by omega)
    have hg : ns[i]? = some ns[i] := List.getElem?_eq_getElem hi
    have hxl := hx ns[i] (List.getElem_mem hi)
    simp only [impl_areNames_l0, hlt, decide_true, if_true, Int.natCast_nonneg, Int.toNat_natCast, hg, Option.bind_some, hw, isName_ok hk (show ns[i].length ≤ 1000000000000 by omega), prevLt]
    cases nameOk ns[i]
    · simp
    · by_cases h0 : 0 < i
      · have hw1 : w_i64 ((i : Int) - 1) = ((i - 1 : Nat) : Int) := by rw [w_id (by omega) (by omega)]; omega
        have hg1 : ns[i - 1]? = some ns[i - 1] := List.getElem?_eq_getElem (by omega)
        have h0' : (0 : Int) < (i : Int) := by omega
        simp only [hw1, Int.natCast_nonneg, Int.toNat_natCast, hg1, h0, h0', decide_true, if_true, Option.bind_some, leq_less]
        cases Op.bytesLess ns[i - 1] ns[i] <;> simp
      · have h0' : ¬ (0 : Int) < (i : Int) := by omega
        simp [h0, h0']
  · intro n
    simp only [impl_areNames_l0, Int.lt_irrefl, decide_false, Bool.false_eq_true, if_false]
theorem contains_ok {k : Nat} (hk : KK ≤ k) {s : List (List UInt8)} (hs : s.length ≤ 1000000000000) (v : List UInt8) : slices_Contains_string k s v = some (s.contains v) := by
  have hK := KK_def
  unfold slices_Contains_string slices_Index_string
  rw [loop_find (L := fun n i => slices_Index_string_l0 k n s v (s.length : Int) i (some (-1))) (p := fun y => decide (v = y)) s ?_ ?_ (n := k) (by omega)]
  · simp only [Option.bind_some, idxP_nonneg]
    congr 1
    rw [Bool.eq_iff_iff]
    simp
  · intro n i x hi hlt
    have hw := w_succ (i := i) (by omega)
    simp only [slices_Index_string_l0, hlt, decide_true, if_true, Int.natCast_nonneg, Int.toNat_natCast, hi, Option.bind_some, hw]
  · intro n
    simp [slices_Index_string_l0]
abbrev It := List UInt8 × List (List UInt8) × Int × Int
def nmsI (L : List It) : List (List UInt8) := L.map (·.1)
/-- Where the item with a name stands; behind the end if there is none. -/
def atI (L : List It) (n : List UInt8) : Nat := L.findIdx (fun y => decide (y.1 = n))
def smallI (x : It) : Prop := x.1.length ≤ 1048576 ∧ x.2.1.length ≤ 1048576 ∧ ∀ y ∈ x.2.1, y.length ≤ 1048576
theorem atI_lt {L : List It} {n : List UInt8} (h : n ∈ nmsI L) : atI L n < L.length := by
  obtain ⟨x, hx, rfl⟩ := List.mem_map.1 h
  exact List.findIdx_lt_length.2 ⟨x, hx, by simp⟩
theorem atI_name {L : List It} {n : List UInt8} (h : atI L n < L.length) : (L[atI L n]).1 = n := by
  have : decide ((L[atI L n]).1 = n) = true := List.findIdx_getElem (xs := L) (p := fun y : It => decide (y.1 = n)) (w := h)
  exact of_decide_eq_true this
theorem l28Find_ok {k : Nat} (hk : KK ≤ k) {L : List It} (hL : L.length ≤ 1048576) (n : List UInt8) : spec_l28Find k L n = some (if atI L n < L.length then ((atI L n : Nat) : Int) else -1) := by
  have hK := KK_def
  unfold spec_l28Find
  rw [loop_find (L := fun m i => spec_l28Find_l0 k m L n i (some (-1))) (p := fun y => decide (y.1 = n)) L ?_ ?_ (n := k) (by omega)]
  · unfold idxP atI
    cases hf : L.findIdx? (fun y => decide (y.1 = n)) with
    | some i =>
      obtain ⟨hlt, hp⟩ := List.findIdx?_eq_some_iff_findIdx_eq.1 hf
      rw [hp, if_pos hlt]
    | none =>
      rw [List.findIdx?_eq_none_iff] at hf
      have : ¬ L.findIdx (fun y => decide (y.1 = n)) < L.length := fun h => by
        obtain ⟨x, hx, h2⟩ := List.findIdx_lt_length.1 h
        rw [hf x hx] at h2; cases h2
      rw [if_neg this]
  · intro m i x hi hlt
    have hw := w_succ (i := i) (by omega)
    simp only [spec_l28Find_l0, hlt, decide_true, if_true, Int.natCast_nonneg, Int.toNat_natCast, hi, Option.bind_some, hw]
  · intro m
    simp [spec_l28Find_l0]
theorem find_in {L : List It} {n : List UInt8} (h : n ∈ nmsI L) : (if atI L n < L.length then ((atI L n : Nat) : Int) else -1) = ((atI L n : Nat) : Int) := if_pos (atI_lt h)
theorem find_neg (L : List It) (n : List UInt8) : decide ((if atI L n < L.length then ((atI L n : Nat) : Int) else -1) < 0) = !(nmsI L).contains n := by
  by_cases h : n ∈ nmsI L
  · rw [find_in h]
    have : (nmsI L).contains n = true := by simpa using h
    rw [this, decide_eq_false (by omega)]; rfl
  · have h2 : ¬ atI L n < L.length := fun h2 => h (List.mem_map.2 ⟨_, List.getElem_mem h2, atI_name h2⟩)
    have : (nmsI L).contains n = false := by simpa using h
    rw [if_neg h2, this]; rfl
/-- One item, and that it comes behind the one before. -/
def itemB (L : List It) (i : Nat) (x : It) : Bool :=
  nameOk x.1 && (prevLt (nmsI L) i && (decide (0 ≤ x.2.2.1 ∧ x.2.2.1 ≤ 1000000) && (decide (0 ≤ x.2.2.2 ∧ x.2.2.2 ≤ 1000) && (List.range x.2.1.length).all fun j => (match x.2.1[j]? with | some n => (nmsI L).contains n | none => false) && prevLt x.2.1 j)))
def formB (L : List It) : Bool := (List.range L.length).all (fun i => match L[i]? with | some x => itemB L i x | none => false) && decide (L.length ≤ 16)
structure FormP (L : List It) : Prop where
  names : ∀ y ∈ nmsI L, nameOk y = true
  strict : strictP (nmsI L)
  made : ∀ x ∈ L, 0 ≤ x.2.2.1 ∧ x.2.2.1 ≤ 1000000
  cost : ∀ x ∈ L, 0 ≤ x.2.2.2 ∧ x.2.2.2 ≤ 1000
  known : ∀ x ∈ L, ∀ n ∈ x.2.1, n ∈ nmsI L
  needs : ∀ x ∈ L, strictP x.2.1
  len : L.length ≤ 16
theorem formB_iff {L : List It} : formB L = true ↔ FormP L := by
  unfold formB
  simp only [Bool.and_eq_true, List.all_eq_true, List.mem_range, decide_eq_true_eq]
  have nl : (nmsI L).length = L.length := List.length_map ..
  have nd : ∀ ns : List (List UInt8), (∀ j, j < ns.length → ((match ns[j]? with | some n => (nmsI L).contains n | none => false) && prevLt ns j) = true) ↔ (∀ n ∈ ns, n ∈ nmsI L) ∧ strictP ns := by
    intro ns
    rw [← prevLt_strict]
    constructor
    · intro h
      refine ⟨fun n hn => ?_, fun j hj => by have := h j hj; rw [Bool.and_eq_true] at this; exact this.2⟩
      obtain ⟨j, hj, rfl⟩ := List.getElem_of_mem hn
      have := h j hj
      rw [Bool.and_eq_true, List.getElem?_eq_getElem hj] at this
      simpa using this.1
    · rintro ⟨h1, h2⟩ j hj
      rw [Bool.and_eq_true, List.getElem?_eq_getElem hj]
      exact ⟨by simpa using h1 _ (List.getElem_mem hj), h2 j hj⟩
  constructor
  · rintro ⟨h, hl⟩
    have h' : ∀ i (hi : i < L.length), itemB L i L[i] = true := fun i hi => by have := h i hi; rw [List.getElem?_eq_getElem hi] at this; exact this
    have g : ∀ x ∈ L, nameOk x.1 = true ∧ (0 ≤ x.2.2.1 ∧ x.2.2.1 ≤ 1000000) ∧ (0 ≤ x.2.2.2 ∧ x.2.2.2 ≤ 1000) ∧ (∀ n ∈ x.2.1, n ∈ nmsI L) ∧ strictP x.2.1 := by
      intro x hx
      obtain ⟨i, hi, rfl⟩ := List.getElem_of_mem hx
      have := h' i hi
      unfold itemB at this
      simp only [Bool.and_eq_true, decide_eq_true_eq] at this
      obtain ⟨a, b, c, d, e⟩ := this
      simp only [List.all_eq_true, List.mem_range] at e
      exact ⟨a, c, d, ((nd _).1 e).1, ((nd _).1 e).2⟩
    refine ⟨fun y hy => ?_, prevLt_strict.1 fun i hi => ?_, fun x hx => (g x hx).2.1, fun x hx => (g x hx).2.2.1, fun x hx => (g x hx).2.2.2.1, fun x hx => (g x hx).2.2.2.2, hl⟩
    · obtain ⟨x, hx, rfl⟩ := List.mem_map.1 hy
      exact (g x hx).1
    · have := h' i (by omega)
      unfold itemB at this
      simp only [Bool.and_eq_true] at this
      exact this.2.1
  · intro f
    refine ⟨fun i hi => ?_, f.len⟩
    rw [List.getElem?_eq_getElem hi]
    have hm := List.getElem_mem hi
    show itemB L i L[i] = true
    unfold itemB
    simp only [Bool.and_eq_true, decide_eq_true_eq, List.all_eq_true, List.mem_range]
    refine ⟨f.names _ (List.mem_map.2 ⟨_, hm, rfl⟩), prevLt_strict.2 f.strict i (by omega), f.made _ hm, f.cost _ hm, ?_⟩
    have := (nd L[i].2.1).2 ⟨f.known _ hm, f.needs _ hm⟩
    intro j hj
    have := this j hj
    rwa [Bool.and_eq_true] at this
theorem form_in {k : Nat} (hk : KK ≤ k) {L : List It} (hL : L.length ≤ 1048576) {x : It} (hx : smallI x) (i : Nat) {E : List It → Int → Option Bool} : spec_l28Form_l1 k k L (i : Int) 0 x E = if ((List.range x.2.1.length).all fun j => (match x.2.1[j]? with | some n => (nmsI L).contains n | none => false) && prevLt x.2.1 j) = true then E L (i : Int) else some false := by
  have hK := KK_def
  obtain ⟨h1, h2, h3⟩ := hx
  refine loop_allN (L := fun n j => spec_l28Form_l1 k n L (i : Int) j x E) (b := x.2.1.length) ?_ ?_ (n := k) (by omega)
  · intro n j hj
    have hlt : (j : Int) < (x.2.1.length : Int) := by omega
    have hw := w_succ (i := j) (by omega)
    have hg : x.2.1[j]? = some x.2.1[j] := List.getElem?_eq_getElem hj
    simp only [spec_l28Form_l1, hlt, decide_true, if_true, Int.natCast_nonneg, Int.toNat_natCast, hg, Option.bind_some, hw, l28Find_ok hk hL, find_neg, prevLt]
    cases (nmsI L).contains x.2.1[j]
    · simp
    · by_cases h0 : 0 < j
      · have hw1 : w_i64 ((j : Int) - 1) = ((j - 1 : Nat) : Int) := by rw [w_id (by omega) (by omega)]; omega
        have hg1 : x.2.1[j - 1]? = some x.2.1[j - 1] := List.getElem?_eq_getElem (by omega)
        have h0' : (0 : Int) < (j : Int) := by omega
        simp only [hw1, Int.natCast_nonneg, Int.toNat_natCast, hg1, h0, h0', decide_true, if_true, Option.bind_some]
        cases Op.bytesLess x.2.1[j - 1] x.2.1[j] <;> simp
      · have h0' : ¬ (0 : Int) < (j : Int) := by omega
        simp [h0, h0']
  · intro n
    simp only [spec_l28Form_l1, Int.lt_irrefl, decide_false, Bool.false_eq_true, if_false]
theorem l28Form_ok {k : Nat} (hk : KK ≤ k) {L : List It} (hL : L.length ≤ 1048576) (hx : ∀ x ∈ L, smallI x) : spec_l28Form k L = some (formB L) := by
  have hK := KK_def
  unfold spec_l28Form formB
  have := loop_allN (L := fun n i => spec_l28Form_l0 k n L i (fun list_12 => some (decide ((List.length list_12 : Int) ≤ 16)))) (b := L.length) (p := fun i => match L[i]? with | some x => itemB L i x | none => false) (r := some false) (e := some (decide (L.length ≤ 16))) ?_ ?_ (n := k) (by omega)
  · refine Eq.trans this ?_
    cases (List.range L.length).all (fun i => match L[i]? with | some x => itemB L i x | none => false) <;> simp
  · intro n i hi
    have hlt : (i : Int) < (L.length : Int) := by omega
    have hw := w_succ (i := i) (by omega)
    have hg : L[i]? = some L[i] := List.getElem?_eq_getElem hi
    have hxi := hx L[i] (List.getElem_mem hi)
    have hxl := hxi.1
    have hin : ∀ E : List It → Int → Option Bool, _ := fun E => form_in hk hL hxi i (E := E)
    simp only [spec_l28Form_l0, hlt, decide_true, if_true, Int.natCast_nonneg, Int.toNat_natCast, hg, Option.bind_some, hw, l01Name_ok hk (show L[i].1.length ≤ 1000000000000 by omega), l00In_ok, hin, itemB, prevLt]
    cases nameOk L[i].1
    · simp
    · have gi : (nmsI L)[i]? = some L[i].1 := by unfold nmsI; rw [List.getElem?_map, hg]; rfl
      by_cases h0 : 0 < i
      · have hw1 : w_i64 ((i : Int) - 1) = ((i - 1 : Nat) : Int) := by rw [w_id (by omega) (by omega)]; omega
        have hg1 : L[i - 1]? = some L[i - 1] := List.getElem?_eq_getElem (by omega)
        have gi1 : (nmsI L)[i - 1]? = some L[i - 1].1 := by unfold nmsI; rw [List.getElem?_map, hg1]; rfl
        have h0' : (0 : Int) < (i : Int) := by omega
        simp only [hw1, Int.natCast_nonneg, Int.toNat_natCast, hg1, h0, h0', decide_true, if_true, Option.bind_some, gi, gi1]
        cases Op.bytesLess L[i - 1].1 L[i].1
        · simp
        · by_cases c1 : 0 ≤ L[i].2.2.1 ∧ L[i].2.2.1 ≤ 1000000 <;> by_cases c2 : 0 ≤ L[i].2.2.2 ∧ L[i].2.2.2 ≤ 1000 <;> simp [c1, c2]
      · have h0' : ¬ (0 : Int) < (i : Int) := by omega
        simp only [h0, h0', decide_false, Bool.false_eq_true, if_false]
        by_cases c1 : 0 ≤ L[i].2.2.1 ∧ L[i].2.2.1 ≤ 1000000 <;> by_cases c2 : 0 ≤ L[i].2.2.2 ∧ L[i].2.2.2 ≤ 1000 <;> simp [c1, c2]
  · intro n
    have e2 : decide ((L.length : Int) ≤ 16) = decide (L.length ≤ 16) := decide_eq_decide.2 (by omega)
    simp only [spec_l28Form_l0, Int.lt_irrefl, decide_false, Bool.false_eq_true, if_false, e2]
def nmI (L : List It) (i : Nat) : List UInt8 := match L[i]? with | some x => x.1 | none => []
theorem nmI_lt {L : List It} {i : Nat} (h : i < L.length) : nmI L i = (L[i]).1 := by unfold nmI; rw [List.getElem?_eq_getElem h]
theorem nmI_mem {L : List It} {i : Nat} (h : i < L.length) : nmI L i ∈ nmsI L := by rw [nmI_lt h]; exact List.mem_map.2 ⟨_, List.getElem_mem h, rfl⟩
theorem nmI_at {L : List It} {n : List UInt8} (h : n ∈ nmsI L) : nmI L (atI L n) = n := by rw [nmI_lt (atI_lt h)]; exact atI_name _
theorem atI_nm {L : List It} (hs : strictP (nmsI L)) {i : Nat} (h : i < L.length) : atI L (nmI L i) = i := by
  have hm := nmI_mem h
  have h1 := atI_lt hm
  have h2 := nmI_at hm
  have nl : (nmsI L).length = L.length := List.length_map ..
  have e : ∀ j (hj : j < L.length), (nmsI L)[j]'(by omega) = nmI L j := fun j hj => by rw [nmI_lt hj]; simp [nmsI]
  rcases Nat.lt_trichotomy (atI L (nmI L i)) i with hlt | heq | hgt
  · have := List.pairwise_iff_getElem.1 hs _ _ (by omega) (by omega) hlt
    rw [e _ h1, e _ h, h2, bl_irrefl] at this; cases this
  · exact heq
  · have := List.pairwise_iff_getElem.1 hs _ _ (by omega) (by omega) hgt
    rw [e _ h1, e _ h, h2, bl_irrefl] at this; cases this
/-- The first that answers, by its number; -1 if none does. -/
def nextF (p : Nat → It → Bool) : List It → Nat → Int
  | [], _ => -1
  | x :: r, i => if p i x = true then (i : Int) else nextF p r (i + 1)
theorem nextF_congr {p q : Nat → It → Bool} : ∀ (l : List It) (i : Nat), (∀ j x, l[j]? = some x → p (i + j) x = q (i + j) x) → nextF p l i = nextF q l i
  | [], _, _ => rfl
  | x :: r, i, h => by
    unfold nextF
    have h0 := h 0 x rfl
    rw [Nat.add_zero] at h0
    rw [h0, nextF_congr (p := p) (q := q) r (i + 1) (fun j y hy => by have := h (j + 1) y hy; rw [show i + (j + 1) = i + 1 + j by omega] at this; exact this)]
theorem nextF_spec {p : Nat → It → Bool} : ∀ (l : List It) (i : Nat), nextF p l i = -1 ∨ ∃ j x, l[j]? = some x ∧ nextF p l i = ((i + j : Nat) : Int) ∧ p (i + j) x = true
  | [], _ => .inl rfl
  | x :: r, i => by
    unfold nextF
    by_cases h : p i x = true
    · rw [if_pos h]; exact .inr ⟨0, x, rfl, rfl, h⟩
    · rw [if_neg h]
      rcases nextF_spec (p := p) r (i + 1) with h1 | ⟨j, y, h1, h2, h3⟩
      · exact .inl h1
      · exact .inr ⟨j + 1, y, by simpa using h1, by rw [h2]; congr 1; omega, by rw [show i + (j + 1) = i + 1 + j by omega]; exact h3⟩
def readyI (L : List It) (out : List Nat) (i : Nat) (x : It) : Bool := !out.contains i && x.2.1.all (fun n => out.contains (atI L n))
def ordI (L : List It) : Nat → List Nat → List Nat
  | 0, out => out
  | d + 1, out => if nextF (readyI L out) L 0 < 0 then out else ordI L d (out ++ [(nextF (readyI L out) L 0).toNat])
def orderI (L : List It) : List Nat := ordI L L.length []
/-- What an order holds: numbers, each once. -/
def goodO (L : List It) (out : List Nat) : Prop := out.Nodup ∧ ∀ i ∈ out, i < L.length
theorem next_good {L : List It} {out : List Nat} (h : goodO L out) : nextF (readyI L out) L 0 < 0 ∨ ∃ r : Nat, nextF (readyI L out) L 0 = (r : Int) ∧ r < L.length ∧ r ∉ out ∧ goodO L (out ++ [r]) := by
  rcases nextF_spec (p := readyI L out) L 0 with h1 | ⟨j, x, h1, h2, h3⟩
  · exact .inl (by omega)
  · rw [Nat.zero_add] at h2 h3
    have hj := (List.getElem?_eq_some_iff.1 h1).1
    have hn : j ∉ out := by unfold readyI at h3; simp only [Bool.and_eq_true, Bool.not_eq_true', List.contains_iff_mem] at h3; have := h3.1; simpa using this
    refine .inr ⟨j, h2, hj, hn, ?_, ?_⟩
    · rw [List.nodup_append]
      exact ⟨h.1, by simp, fun a ha b hb e => hn (by rw [List.mem_singleton] at hb; subst hb; subst e; exact ha)⟩
    · intro i hi
      rcases List.mem_append.1 hi with hi | hi
      · exact h.2 i hi
      · rw [List.mem_singleton.1 hi]; exact hj
theorem ordI_good {L : List It} : ∀ (d : Nat) (out : List Nat), goodO L out → goodO L (ordI L d out) ∧ (ordI L d out).length ≤ out.length + d
  | 0, out, h => ⟨h, Nat.le_refl _⟩
  | d + 1, out, h => by
    unfold ordI
    rcases next_good h with h1 | ⟨r, h1, _, _, h2⟩
    · rw [if_pos h1]; exact ⟨h, by omega⟩
    · rw [h1, if_neg (by omega), Int.toNat_natCast]
      have := ordI_good d _ h2
      rw [List.length_append, List.length_singleton] at this
      exact ⟨this.1, by omega⟩
theorem orderI_good (L : List It) : goodO L (orderI L) ∧ (orderI L).length ≤ L.length := by
  have := ordI_good (L := L) L.length [] ⟨List.nodup_nil, by simp⟩
  simpa [orderI] using this
/-- Marks by number. -/
def doneL (L : List It) (out : List Nat) : List Bool := (List.range L.length).map fun i => out.contains i
theorem doneL_len (L : List It) (out : List Nat) : (doneL L out).length = L.length := by simp [doneL]
theorem doneL_get {L : List It} {out : List Nat} {i : Nat} (h : i < L.length) : (doneL L out)[i]? = some (out.contains i) := by
  unfold doneL; rw [List.getElem?_map, List.getElem?_range h]; rfl
theorem doneL_nil (L : List It) : doneL L [] = List.replicate L.length false := by
  refine List.ext_getElem? fun i => ?_
  by_cases h : i < L.length
  · rw [doneL_get h, List.getElem?_replicate, if_pos h]; rfl
  · rw [List.getElem?_eq_none (by rw [doneL_len]; omega), List.getElem?_eq_none (by simp; omega)]
theorem doneL_add {L : List It} {out : List Nat} {r : Nat} (h : r < L.length) : (doneL L out).set r true = doneL L (out ++ [r]) := by
  refine List.ext_getElem? fun i => ?_
  by_cases hi : i < L.length
  · rw [doneL_get hi, List.getElem?_set]
    by_cases e : r = i
    · subst e; rw [if_pos rfl, if_pos (by rw [doneL_len]; exact h)]; simp
    · rw [if_neg e, doneL_get hi]
      congr 1
      rw [Bool.eq_iff_iff]
      simp [Ne.symm e]
  · rw [List.getElem?_eq_none (by rw [List.length_set, doneL_len]; omega), List.getElem?_eq_none (by rw [doneL_len]; omega)]
theorem order_in {k : Nat} (hk : KK ≤ k) {L : List It} (hL : L.length ≤ 1048576) (f : FormP L) {i : Nat} (hi : i < L.length) (next : Int) (out : List Int) (ds : List Nat) (b : Bool) {E : List It → Int → Int → Bool → List Int → List Bool → Option (List Int)} :
    spec_l28Order_l2 k k L next (i : Int) b 0 out (doneL L ds) E = E L next (i : Int) (b && (L[i]).2.1.all (fun n => ds.contains (atI L n))) out (doneL L ds) := by
  have hK := KK_def
  have hm := List.getElem_mem hi
  have hnl : (L[i]).2.1.length ≤ 1048576 := by
    have := (strict_nodup (f.needs _ hm)).length_le_of_subset (f.known _ hm)
    rw [show (nmsI L).length = L.length from List.length_map ..] at this
    omega
  have hg : L[i]? = some L[i] := List.getElem?_eq_getElem hi
  refine loop_list (α := List UInt8) (A := Bool) (L := fun n j b => spec_l28Order_l2 k n L next (i : Int) b j out (doneL L ds) E) (I := fun _ _ => True) (G := fun post b => E L next (i : Int) (b && post.all (fun n => ds.contains (atI L n))) out (doneL L ds)) (L[i]).2.1 ?_ ?_ k (by omega) b trivial
  · intro n pre x post b hx _ ih hgx hlt
    have hw := w_succ (i := pre.length) (by omega)
    have hxn : x ∈ nmsI L := f.known _ hm x (by rw [hx]; simp)
    simp only [spec_l28Order_l2, Int.natCast_nonneg, if_true, Int.toNat_natCast, hg, Option.bind_some, hlt, decide_true, hgx, l28Find_ok hk hL, find_in hxn, hw]
    cases b
    · simp
    · have ha := atI_lt hxn
      have hdl : ((atI L x : Nat) : Int) = atI L x ∧ atI L x < (doneL L ds).length := ⟨rfl, by rw [doneL_len]; exact ha⟩
      simp only [if_true, hdl.2, doneL_get ha, Option.bind_some, and_self]
      rw [ih _ trivial]; simp
  · intro n b _
    simp only [spec_l28Order_l2, Int.natCast_nonneg, if_true, Int.toNat_natCast, hg, Option.bind_some, Int.lt_irrefl, decide_false, Bool.false_eq_true, if_false]
    simp
theorem order_next {k : Nat} (hk : KK ≤ k) {L : List It} (hL : L.length ≤ 1048576) (f : FormP L) (out : List Int) (ds : List Nat) {E : List It → Int → List Int → List Bool → Option (List Int)} :
    spec_l28Order_l1 k k L (-1) 0 out (doneL L ds) E = E L (nextF (readyI L ds) L 0) out (doneL L ds) := by
  have hK := KK_def
  have := loop_list (α := It) (A := Int) (L := fun n j b => spec_l28Order_l1 k n L b j out (doneL L ds) E) (I := fun _ b => b = -1 ∨ 0 ≤ b) (G := fun post b => E L (if b < 0 then nextF (readyI L ds) post (L.length - post.length) else b) out (doneL L ds)) L ?_ ?_ k (by omega) (-1) (.inl rfl)
  · refine this.trans ?_
    rw [if_pos (by omega), Nat.sub_self]
  · intro n pre x post b hx hI ih hg hlt
    have hlt' : pre.length < L.length := by omega
    have hw := w_succ (i := pre.length) (by omega)
    have hxe : L[pre.length] = x := (List.getElem?_eq_some_iff.1 hg).2
    have hi : ∀ (E : List It → Int → Int → Bool → List Int → List Bool → Option (List Int)) c, _ := fun E c => order_in hk hL f hlt' b out ds c (E := E)
    have e0 : L.length - (x :: post).length = pre.length := by rw [hx]; simp
    have e1 : L.length - post.length = pre.length + 1 := by rw [hx]; simp; omega
    simp only [spec_l28Order_l1, hlt, decide_true, if_true]
    by_cases hb : b < 0
    · have hdl : pre.length < (doneL L ds).length := by rw [doneL_len]; exact hlt'
      simp only [hb, decide_true, if_true, Int.natCast_nonneg, Int.toNat_natCast, hdl, and_self, doneL_get hlt', Option.bind_some, hi, hxe, hw]
      rw [e0]
      unfold nextF
      by_cases hr : readyI L ds pre.length x = true
      · have hr' := hr
        unfold readyI at hr'
        rw [if_pos hr, hr', if_pos rfl]
        refine (ih _ (.inr (by omega))).trans ?_
        rw [if_neg (by omega)]
      · have hr' := hr
        unfold readyI at hr'
        rw [if_neg hr, if_neg hr']
        refine (ih _ hI).trans ?_
        rw [if_pos hb, e1]
    · simp only [hb, decide_false, Bool.false_eq_true, if_false]
  · intro n b hI
    simp only [spec_l28Order_l1, Int.lt_irrefl, decide_false, Bool.false_eq_true, if_false]
    rcases hI with rfl | hb
    · rfl
    · rw [if_neg (by omega)]
theorem l28Order_loop {k : Nat} (hk : KK ≤ k) {L : List It} (f : FormP L) : ∀ (d n : Nat) (ds : List Nat), goodO L ds → ds.length + d = L.length → d < n → spec_l28Order_l0 k n L (ds.map fun i : Nat => (i : Int)) (doneL L ds) (fun q => some q) = some ((ordI L d ds).map fun i : Nat => (i : Int))
  | d, 0, ds, _, _, h => by omega
  | 0, n + 1, ds, hg, hd, _ => by
    have : ¬ ((ds.map fun i : Nat => (i : Int)).length : Int) < (L.length : Int) := by rw [List.length_map]; omega
    simp only [spec_l28Order_l0, this, decide_false, Bool.false_eq_true, if_false, ordI]
  | d + 1, n + 1, ds, hg, hd, hn => by
    have hL := f.len
    have hLI := LIM_def
    have : ((ds.map fun i : Nat => (i : Int)).length : Int) < (L.length : Int) := by rw [List.length_map]; omega
    have h1 : ∀ E : List It → Int → List Int → List Bool → Option (List Int), _ := fun E => order_next hk (show L.length ≤ 1048576 by omega) f (ds.map fun i : Nat => (i : Int)) ds (E := E)
    simp only [spec_l28Order_l0, this, decide_true, if_true, h1, ordI]
    rcases next_good hg with h | ⟨r, h, hr, hn', hg'⟩
    · rw [decide_eq_true h, if_pos rfl, if_pos h]
    · have hdl : r < (doneL L ds).length := by rw [doneL_len]; exact hr
      rw [h, decide_eq_false (show ¬ ((r : Int) < 0) by omega), if_neg (show ¬ (false = true) by simp), if_neg (show ¬ ((r : Int) < 0) by omega)]
      simp only [Int.natCast_nonneg, Int.toNat_natCast, hdl, and_self, if_true, doneL_get hr, Option.bind_some]
      rw [if_pos (by simp only [List.length_map, List.length_singleton]; omega), doneL_add hr]
      have := l28Order_loop hk f d n (ds ++ [r]) hg' (by simp only [List.length_append, List.length_singleton]; omega) (by omega)
      rw [List.map_append] at this
      exact this
theorem l28Order_ok {k : Nat} (hk : KK ≤ k) {L : List It} (f : FormP L) : spec_l28Order k L = some ((orderI L).map fun i : Nat => (i : Int)) := by
  have hK := KK_def
  have hLI := LIM_def
  have hL := f.len
  unfold spec_l28Order orderI
  rw [if_pos ⟨by omega, Int.le_refl _, by omega⟩, ← doneL_nil]
  exact l28Order_loop hk f L.length k [] ⟨List.nodup_nil, by simp⟩ (by simp) (by omega)
/-- Items as stated, and an order of all. -/
def validB (L : List It) : Bool := formB L && decide ((orderI L).length = L.length)
theorem l28Ok_ok {k : Nat} (hk : KK ≤ k) {L : List It} (hL : L.length ≤ 1048576) (hx : ∀ x ∈ L, smallI x) : spec_l28Ok k L = some (validB L) := by
  unfold spec_l28Ok validB
  rw [l28Form_ok hk hL hx]
  cases h : formB L
  · simp
  · have f := formB_iff.1 h
    simp only [Option.bind_some, if_true, l28Order_ok hk f, List.length_map, Bool.true_and]
    congr 1
    exact decide_eq_decide.2 (by omega)
/-- By names what was by numbers. -/
theorem contains_nm {L : List It} (f : FormP L) {ds : List Nat} (hg : ∀ i ∈ ds, i < L.length) {n : List UInt8} (hn : n ∈ nmsI L) : (ds.map (nmI L)).contains n = ds.contains (atI L n) := by
  rw [Bool.eq_iff_iff, List.contains_iff_mem, List.contains_iff_mem, List.mem_map]
  constructor
  · rintro ⟨i, hi, rfl⟩
    rw [atI_nm f.strict (hg i hi)]; exact hi
  · intro h
    exact ⟨_, h, nmI_at hn⟩
theorem any_one {k : Nat} (hk : KK ≤ k) {s q : List (List UInt8)} (hs : s.length ≤ 1000000000000) (hq : q.length ≤ 1000000000000) : slices_ContainsFunc_string__impl_makeOrder_1_1 k s q = some (s.any fun n => !q.contains n) := by
  have hK := KK_def
  unfold slices_ContainsFunc_string__impl_makeOrder_1_1 slices_IndexFunc_string__impl_makeOrder_1_1
  rw [loop_find (L := fun n i => slices_IndexFunc_string__impl_makeOrder_1_1_l0 k n s q (s.length : Int) i (some (-1))) (p := fun n => !q.contains n) s ?_ ?_ (n := k) (by omega)]
  · simp only [Option.bind_some, idxP_nonneg]
  · intro n i x hi hlt
    have hw := w_succ (i := i) (by omega)
    simp only [slices_IndexFunc_string__impl_makeOrder_1_1_l0, impl_makeOrder_1_1, hlt, decide_true, if_true, Int.natCast_nonneg, Int.toNat_natCast, hi, Option.bind_some, hw, contains_ok hk hq]
  · intro n
    simp [slices_IndexFunc_string__impl_makeOrder_1_1_l0]
theorem any_two {k : Nat} (hk : KK ≤ k) {s q : List (List UInt8)} (hs : s.length ≤ 1000000000000) (hq : q.length ≤ 1000000000000) : slices_ContainsFunc_string__impl_ValidItems_1 k s q = some (s.any fun n => !q.contains n) := by
  have hK := KK_def
  unfold slices_ContainsFunc_string__impl_ValidItems_1 slices_IndexFunc_string__impl_ValidItems_1
  rw [loop_find (L := fun n i => slices_IndexFunc_string__impl_ValidItems_1_l0 k n s q (s.length : Int) i (some (-1))) (p := fun n => !q.contains n) s ?_ ?_ (n := k) (by omega)]
  · simp only [Option.bind_some, idxP_nonneg]
  · intro n i x hi hlt
    have hw := w_succ (i := i) (by omega)
    simp only [slices_IndexFunc_string__impl_ValidItems_1_l0, impl_ValidItems_1, hlt, decide_true, if_true, Int.natCast_nonneg, Int.toNat_natCast, hi, Option.bind_some, hw, contains_ok hk hq]
  · intro n
    simp [slices_IndexFunc_string__impl_ValidItems_1_l0]
theorem makeNext_ok {k : Nat} (hk : KK ≤ k) {L : List It} (f : FormP L) {ds : List Nat} (hg : goodO L ds) (hdl : ds.length ≤ L.length) : slices_IndexFunc_impl_Item__impl_makeOrder_1 k L (ds.map (nmI L)) = some (nextF (readyI L ds) L 0) := by
  have hK := KK_def
  have hL := f.len
  unfold slices_IndexFunc_impl_Item__impl_makeOrder_1
  have := loop_list (α := It) (A := Unit) (L := fun n i _ => slices_IndexFunc_impl_Item__impl_makeOrder_1_l0 k n L (ds.map (nmI L)) (L.length : Int) i (some (-1))) (I := fun _ _ => True) (G := fun post _ => some (nextF (readyI L ds) post (L.length - post.length))) L ?_ ?_ k (by omega) () trivial
  · refine this.trans ?_
    rw [Nat.sub_self]
  · intro n pre x post _ hx _ ih hgx hlt
    have hlt' : pre.length < L.length := by omega
    have hw := w_succ (i := pre.length) (by omega)
    have hxm : x ∈ L := by rw [hx]; simp
    have e0 : L.length - (x :: post).length = pre.length := by rw [hx]; simp
    have e1 : L.length - post.length = pre.length + 1 := by rw [hx]; simp; omega
    have hnl : x.2.1.length ≤ L.length := by
      have := (strict_nodup (f.needs _ hxm)).length_le_of_subset (f.known _ hxm)
      rwa [show (nmsI L).length = L.length from List.length_map ..] at this
    have hql : (ds.map (nmI L)).length ≤ 1000000000000 := by rw [List.length_map]; omega
    have hxn : x.1 ∈ nmsI L := List.mem_map.2 ⟨x, hxm, rfl⟩
    have hax : atI L x.1 = pre.length := by
      have := atI_nm f.strict hlt'
      rwa [nmI_lt hlt', (List.getElem?_eq_some_iff.1 hgx).2] at this
    have hr : impl_makeOrder_1 k x (ds.map (nmI L)) = some (readyI L ds pre.length x) := by
      unfold impl_makeOrder_1 readyI
      rw [contains_ok hk hql, contains_nm f hg.2 hxn, hax, any_one hk (by omega) hql]
      have e : (x.2.1.any fun n => !(ds.map (nmI L)).contains n) = !x.2.1.all fun n => ds.contains (atI L n) := by
        rw [List.not_all_eq_any_not, Bool.eq_iff_iff, List.any_eq_true, List.any_eq_true]
        exact ⟨fun ⟨n, hn, h⟩ => ⟨n, hn, by rwa [contains_nm f hg.2 (f.known _ hxm n hn)] at h⟩, fun ⟨n, hn, h⟩ => ⟨n, hn, by rwa [contains_nm f hg.2 (f.known _ hxm n hn)]⟩⟩
      rw [e]
      cases ds.contains pre.length <;> simp
    simp only [slices_IndexFunc_impl_Item__impl_makeOrder_1_l0, hlt, decide_true, if_true, Int.natCast_nonneg, Int.toNat_natCast, hgx, Option.bind_some, hw, hr]
    rw [e0]
    unfold nextF
    by_cases h : readyI L ds pre.length x = true
    · rw [if_pos h, if_pos h]
    · rw [if_neg h, if_neg h, ih () trivial, e1]
  · intro n _ _
    simp only [slices_IndexFunc_impl_Item__impl_makeOrder_1_l0, Int.lt_irrefl, decide_false, Bool.false_eq_true, if_false, nextF]
theorem makeOrder_loop {k : Nat} (hk : KK ≤ k) {L : List It} (f : FormP L) : ∀ (d n c : Nat) (ds : List Nat), goodO L ds → ds.length + d = L.length → c + d = L.length → d < n → impl_makeOrder_l0 k n L (L.length : Int) (c : Int) (ds.map (nmI L)) (fun q => some q) = some ((ordI L d ds).map (nmI L))
  | d, 0, c, ds, _, _, _, h => by omega
  | 0, n + 1, c, ds, hg, hd, hc, _ => by
    have : ¬ (c : Int) < (L.length : Int) := by omega
    simp only [impl_makeOrder_l0, this, decide_false, Bool.false_eq_true, if_false, ordI]
  | d + 1, n + 1, c, ds, hg, hd, hc, hn => by
    have hL := f.len
    have hLI := LIM_def
    have : (c : Int) < (L.length : Int) := by omega
    have hw := w_succ (i := c) (by omega)
    simp only [impl_makeOrder_l0, this, decide_true, if_true, makeNext_ok hk f hg (show ds.length ≤ L.length by omega), Option.bind_some, ordI, hw]
    rcases next_good hg with h | ⟨r, h, hr, hn', hg'⟩
    · rw [decide_eq_true h, if_pos rfl, if_pos h]
    · have e : L[r]? = some L[r] := List.getElem?_eq_getElem hr
      rw [h, decide_eq_false (show ¬ ((r : Int) < 0) by omega), if_neg (show ¬ (false = true) by simp), if_neg (show ¬ ((r : Int) < 0) by omega)]
      simp only [Int.natCast_nonneg, Int.toNat_natCast, if_true, e, Option.bind_some]
      rw [if_pos (by simp only [List.length_map, List.length_singleton]; omega)]
      have := makeOrder_loop hk f d n (c + 1) (ds ++ [r]) hg' (by simp only [List.length_append, List.length_singleton]; omega) (by omega) (by omega)
      rw [List.map_append] at this
      simp only [List.map_cons, List.map_nil, nmI_lt hr] at this
      exact this
theorem makeOrder_ok {k : Nat} (hk : KK ≤ k) {L : List It} (f : FormP L) : impl_makeOrder k L = some ((orderI L).map (nmI L)) := by
  have hK := KK_def
  have hL := f.len
  unfold impl_makeOrder orderI
  exact makeOrder_loop hk f L.length k 0 [] ⟨List.nodup_nil, by simp⟩ (by simp) (by omega) (by omega)
def implB (L : List It) (x : It) : Bool := namesB x.2.1 16 && (decide (0 ≤ x.2.2.1 ∧ x.2.2.1 ≤ 1000000) && (decide (0 ≤ x.2.2.2 ∧ x.2.2.2 ≤ 1000) && !x.2.1.any fun n => !(nmsI L).contains n))
theorem implB_form (L : List It) : (namesB (nmsI L) 16 && L.all (implB L)) = formB L := by
  rw [Bool.eq_iff_iff, formB_iff, Bool.and_eq_true, namesB_iff, List.all_eq_true]
  have nl : (nmsI L).length = L.length := List.length_map ..
  have hany : ∀ x : It, (!x.2.1.any fun n => !(nmsI L).contains n) = true ↔ ∀ n ∈ x.2.1, n ∈ nmsI L := by
    intro x
    simp
  unfold implB
  simp only [Bool.and_eq_true, namesB_iff, decide_eq_true_eq, hany]
  constructor
  · rintro ⟨⟨h1, h2, h3⟩, h⟩
    exact ⟨h1, h2, fun x hx => (h x hx).2.1, fun x hx => (h x hx).2.2.1, fun x hx => (h x hx).2.2.2, fun x hx => (h x hx).1.2.1, by omega⟩
  · intro f
    have hl := f.len
    refine ⟨⟨f.names, f.strict, by omega⟩, fun x hx => ⟨⟨fun y hy => f.names y (f.known x hx y hy), f.needs x hx, ?_⟩, f.made x hx, f.cost x hx, f.known x hx⟩⟩
    have := (strict_nodup (f.needs x hx)).length_le_of_subset (f.known x hx)
    omega
theorem four_ifs (b1 b2 b3 b4 : Bool) (A B : Option Bool) : (if (!b1) = true then B else if (!b2) = true then B else if (!b3) = true then B else if b4 = true then B else A) = if (b1 && (b2 && (b3 && !b4))) = true then A else B := by
  cases b1 <;> cases b2 <;> cases b3 <;> cases b4 <;> simp
theorem implValid_ok {k : Nat} (hk : KK ≤ k) {L : List It} (hL : L.length ≤ 1048576) (hx : ∀ x ∈ L, smallI x) : impl_ValidItems k L = some (validB L) := by
  have hK := KK_def
  have hLI := LIM_def
  have nl : (nmsI L).length = L.length := List.length_map ..
  have hn : ∀ y ∈ nmsI L, y.length ≤ 1048576 := fun y hy => by obtain ⟨x, hx', rfl⟩ := List.mem_map.1 hy; exact (hx x hx').1
  unfold impl_ValidItems validB
  have h0 : ∀ E : List It → List (List UInt8) → Option Bool, impl_ValidItems_l0 k k L L (L.length : Int) 0 [] E = E L (nmsI L) := by
    intro E
    refine loop_list (L := fun n i q => impl_ValidItems_l0 k n L L (L.length : Int) i q E) (I := fun pre q => q = nmsI pre) (G := fun _ _ => E L (nmsI L)) L ?_ ?_ k (by omega) [] rfl
    · intro n pre x post q hxp hq ih hg hlt
      subst hq
      have hw := w_succ (i := pre.length) (by omega)
      have hpl : (nmsI pre).length = pre.length := List.length_map ..
      simp only [impl_ValidItems_l0, hlt, decide_true, if_true, Int.natCast_nonneg, Int.toNat_natCast, hg, Option.bind_some, hw]
      rw [if_pos (by simp only [List.length_singleton]; omega)]
      exact ih _ (by simp [nmsI])
    · intro n q hq
      subst hq
      simp only [impl_ValidItems_l0, Int.lt_irrefl, decide_false, Bool.false_eq_true, if_false]
  rw [h0, areNames_ok hk (by omega) hn, ← implB_form]
  cases hb : namesB (nmsI L) 16
  · simp
  · simp only [Option.bind_some, Bool.not_true, Bool.false_eq_true, if_false, Bool.true_and]
    have := loop_all (L := fun n i => impl_ValidItems_l1 k n L L (L.length : Int) i (nmsI L) (fun list_12 => (impl_makeOrder k list_12).bind fun r_13 => some (decide ((List.length r_13 : Int) = (List.length list_12 : Int))))) (p := implB L) (r := some false) (e := (impl_makeOrder k L).bind fun r_13 => some (decide ((List.length r_13 : Int) = (List.length L : Int)))) L ?_ ?_ (n := k) (by omega)
    · refine this.trans ?_
      cases ha : L.all (implB L)
      · simp
      · have f : FormP L := by rw [← formB_iff, ← implB_form, hb, ha]; rfl
        rw [if_pos rfl, makeOrder_ok hk f]
        simp only [Option.bind_some, List.length_map, Bool.true_and]
        congr 1
        exact decide_eq_decide.2 (by omega)
    · intro n i x hg hlt
      have hw := w_succ (i := i) (by omega)
      have hxs := hx x (List.mem_of_getElem? hg)
      have hx2 := hxs.2.1
      simp only [impl_ValidItems_l1, hlt, decide_true, if_true, Int.natCast_nonneg, Int.toNat_natCast, hg, Option.bind_some, hw, areNames_ok hk hxs.2.1 hxs.2.2, within_ok, any_two hk (show x.2.1.length ≤ 1000000000000 by omega) (show (nmsI L).length ≤ 1000000000000 by omega), implB]
      exact four_ifs _ _ _ _ _ _
    · intro n
      simp only [impl_ValidItems_l1, Int.lt_irrefl, decide_false, Bool.false_eq_true, if_false]
def colB (v : List Int) (n p : Int) : Bool := v.all (fun x => decide (0 ≤ x ∧ x ≤ p - 1)) && decide ((v.length : Int) = n)
theorem isVector_ok {k : Nat} (hk : KK ≤ k) {v : List Int} (hv : v.length ≤ 1048576) (n : Int) {p : Int} (hp : -1000000 ≤ p ∧ p ≤ 1000000) : impl_isVector k v n p = some (colB v n p) := by
  unfold impl_isVector impl_size_int64 colB
  simp only [Option.bind_some, elements_ok hk hv hp]
  by_cases c : (v.length : Int) = n
  · rw [decide_eq_true c, if_pos rfl, Bool.and_true]
  · rw [decide_eq_false c, if_neg (by simp), Bool.and_false]
theorem sheB_parts {k : Nat} (hk : KK ≤ k) {s : She} (h : sheB k s = true) : CxP s.1 ∧ (2 ≤ s.2.1 ∧ s.2.1 ≤ 251) ∧ StP s.1 s.2.2.1 := by
  unfold sheB at h
  simp only [Bool.and_eq_true] at h
  exact ⟨cxB_iff.1 h.1, (primeB_ok hk s.2.1).2.2 h.2.1, stB_st h.2.2.1⟩
abbrev DskT := She × List Int × Gr × List Int × Mat × List Tbl × Fil × List It
theorem l04Vector_ok {k : Nat} (hk : KK ≤ k) {v : List Int} (hv : v.length ≤ 1048576) {n : Int} (hn : n ≤ 64) {p : Int} (hp : -1000000 ≤ p ∧ p ≤ 1000000) : spec_l04Vector k p n v = some (colB v n p) := by
  have hK := KK_def
  have hw1 : w_i64 (p - 1) = p - 1 := w_id (by omega) (by omega)
  unfold spec_l04Vector spec_l02Numbers colB
  have := loop_all (L := fun m i => spec_l02Numbers_l0 k m v p i (fun v_3 => some (decide ((List.length v_3 : Int) ≤ 64)))) (p := fun x => decide (0 ≤ x ∧ x ≤ p - 1)) (r := some false) (e := some (decide ((v.length : Int) ≤ 64))) v ?_ ?_ (n := k) (by omega)
  · have h0 : spec_l02Numbers_l0 k k v p 0 (fun v_3 => some (decide ((List.length v_3 : Int) ≤ 64))) = _ := this
    rw [h0]
    cases v.all (fun x => decide (0 ≤ x ∧ x ≤ p - 1)) with
    | false => simp
    | true =>
      simp only [if_true, Option.bind_some, Bool.true_and]
      by_cases c : (v.length : Int) = n
      · rw [decide_eq_true (show (v.length : Int) ≤ 64 by omega), if_pos rfl]
      · rw [decide_eq_false c]
        split <;> rfl
  · intro m i x hx hlt
    have hw := w_succ (i := i) (by omega)
    simp only [spec_l02Numbers_l0, hlt, decide_true, if_true, Int.natCast_nonneg, Int.toNat_natCast, hx, Option.bind_some, l00In_ok, hw1, hw]
    by_cases c : 0 ≤ x ∧ x ≤ p - 1 <;> simp [c]
  · intro m
    simp only [spec_l02Numbers_l0, Int.lt_irrefl, decide_false, Bool.false_eq_true, if_false]
def gvB (g : Gr) (x : List Int) : Bool := x.all (fun n => decide (-1000000 ≤ n ∧ n ≤ 1000000)) && decide ((x.length : Int) = g.1)
theorem l16Vector_ok {k : Nat} (hk : KK ≤ k) (g : Gr) {x : List Int} (hx : x.length ≤ 1048576) : spec_l16Vector k g x = some (gvB g x) := by
  have hK := KK_def
  unfold spec_l16Vector gvB
  have := loop_all (L := fun m i => spec_l16Vector_l0 k m g x i (fun g_3 x_4 => some (decide ((List.length x_4 : Int) = g_3.1)))) (p := fun n => decide (-1000000 ≤ n ∧ n ≤ 1000000)) (r := some false) (e := some (decide ((x.length : Int) = g.1))) x ?_ ?_ (n := k) (by omega)
  · refine this.trans ?_
    cases x.all (fun n => decide (-1000000 ≤ n ∧ n ≤ 1000000)) <;> simp
  · intro m i y hy hlt
    have hw := w_succ (i := i) (by omega)
    simp only [spec_l16Vector_l0, hlt, decide_true, if_true, Int.natCast_nonneg, Int.toNat_natCast, hy, Option.bind_some, l00In_ok, hw]
    cases decide (-1000000 ≤ y ∧ y ≤ 1000000) <;> simp
  · intro m
    simp only [spec_l16Vector_l0, Int.lt_irrefl, decide_false, Bool.false_eq_true, if_false]
theorem isGraphVector_ok {k : Nat} (hk : KK ≤ k) (g : Gr) {x : List Int} (hx : x.length ≤ 1048576) : impl_isGraphVector k g x = some (gvB g x) := by
  have hK := KK_def
  unfold impl_isGraphVector impl_size_int64 gvB slices_ContainsFunc_int64__impl_isGraphVector_1 slices_IndexFunc_int64__impl_isGraphVector_1
  rw [loop_find (L := fun n i => slices_IndexFunc_int64__impl_isGraphVector_1_l0 k n x () (x.length : Int) i (some (-1))) (p := fun n => !decide (-1000000 ≤ n ∧ n ≤ 1000000)) x ?_ ?_ (n := k) (by omega)]
  · have e : (x.any fun n => !decide (-1000000 ≤ n ∧ n ≤ 1000000)) = !x.all (fun n => decide (-1000000 ≤ n ∧ n ≤ 1000000)) := by rw [List.not_all_eq_any_not]
    simp only [Option.bind_some, idxP_nonneg, e]
    by_cases c : (x.length : Int) = g.1
    · rw [decide_eq_true c, if_pos rfl, Bool.and_true, Bool.not_not]
    · rw [decide_eq_false c, if_neg (by simp), Bool.and_false]
  · intro n i y hi hlt
    have hw := w_succ (i := i) (by omega)
    simp only [slices_IndexFunc_int64__impl_isGraphVector_1_l0, impl_isGraphVector_1, within_ok, hlt, decide_true, if_true, Int.natCast_nonneg, Int.toNat_natCast, hi, Option.bind_some, hw]
  · intro n
    simp only [slices_IndexFunc_int64__impl_isGraphVector_1_l0, Int.lt_irrefl, decide_false, Bool.false_eq_true, if_false]
structure smallD (d : DskT) : Prop where
  sh : smallSh d.1
  rd : d.2.1.length ≤ 1048576
  gr : d.2.2.1.2.length ≤ 1048576
  op : d.2.2.2.1.length ≤ 1048576
  mat : d.2.2.2.2.1.2.2.2.length ≤ 1048576
  tabs : d.2.2.2.2.2.1.length ≤ 1048576
  tab : ∀ t ∈ d.2.2.2.2.2.1, smallT t
  fb : smallCx d.2.2.2.2.2.2.1.1
  ft : d.2.2.2.2.2.2.1.2.length ≤ 1048576
  its : d.2.2.2.2.2.2.2.length ≤ 1048576
  it : ∀ x ∈ d.2.2.2.2.2.2.2, smallI x
noncomputable def deskB (k : Nat) (d : DskT) : Bool := sheB k d.1 && (graphB d.2.2.1 && (matB k d.2.2.2.2.1 && (tablesB d.2.2.2.2.2.1 && (filB d.2.2.2.2.2.2.1 && (validB d.2.2.2.2.2.2.2 && (colB d.2.1 (sumSt d.1.2.2.1 (ofC d.1.1 0)) d.1.2.1 && gvB d.2.2.1 d.2.2.2.1))))))
theorem sheB_sum {k : Nat} {s : She} (h : sheB k s = true) : sumSt s.2.2.1 (ofC s.1 0) ≤ 32 := by
  unfold sheB at h
  simp only [Bool.and_eq_true] at h
  have := h.2.2.1
  unfold stB at this
  simp only [Bool.and_eq_true, List.all_eq_true, List.mem_range, decide_eq_true_eq] at this
  exact this.2 0 (by omega)
theorem specDesk_ok {k : Nat} (hk : KK ≤ k) {d : DskT} (hs : smallD d) : spec_l32Ok k d = some (deskB k d) := by
  unfold spec_l32Ok deskB spec_l10All
  rw [l09Ok_ok hk hs.sh, specGraph_ok hk hs.gr, (matB_ok hk hs.mat).1, specTables_ok hk hs.tabs hs.tab, specFil_ok hk hs.fb hs.ft, l28Ok_ok hk hs.its hs.it]
  cases h1 : sheB k d.1 with
  | false => simp
  | true =>
  obtain ⟨hC, hp, hS⟩ := sheB_parts hk h1
  have hsc := cx_small hC
  have hsum := sheB_sum h1
  rw [l09Sum_ok hk hsc hS (by omega)]
  cases graphB d.2.2.1 with
  | false => simp
  | true =>
  cases matB k d.2.2.2.2.1 with
  | false => simp
  | true =>
  cases tablesB d.2.2.2.2.2.1 with
  | false => simp
  | true =>
  cases filB d.2.2.2.2.2.2.1 with
  | false => simp
  | true =>
  cases validB d.2.2.2.2.2.2.2 with
  | false => simp
  | true =>
  simp only [Option.bind_some, Bool.not_true, Bool.false_eq_true, if_false, l04Vector_ok hk hs.rd (show sumSt d.1.2.2.1 (ofC d.1.1 0) ≤ 64 by omega) (show -1000000 ≤ d.1.2.1 ∧ d.1.2.1 ≤ 1000000 by omega), l16Vector_ok hk d.2.2.1 hs.op, Bool.true_and]
  cases colB d.2.1 (sumSt d.1.2.2.1 (ofC d.1.1 0)) d.1.2.1 <;> simp
theorem implDesk_ok {k : Nat} (hk : KK ≤ k) {d : DskT} (hs : smallD d) : impl_ValidDesk k d = some (deskB k d) := by
  unfold impl_ValidDesk deskB
  rw [validSheaf_ok hk hs.sh, implGraph_ok hk hs.gr, (matB_ok hk hs.mat).2.1, implTables_ok hk hs.tabs hs.tab, implFil_ok hk hs.fb hs.ft, implValid_ok hk hs.its hs.it]
  cases h1 : sheB k d.1 with
  | false => simp
  | true =>
  obtain ⟨hC, hp, hS⟩ := sheB_parts hk h1
  have hsc := cx_small hC
  rw [stalkSum_ok hk hsc hS (by omega)]
  cases graphB d.2.2.1 with
  | false => simp
  | true =>
  cases matB k d.2.2.2.2.1 with
  | false => simp
  | true =>
  cases tablesB d.2.2.2.2.2.1 with
  | false => simp
  | true =>
  cases filB d.2.2.2.2.2.2.1 with
  | false => simp
  | true =>
  cases validB d.2.2.2.2.2.2.2 with
  | false => simp
  | true =>
  simp only [Option.bind_some, Bool.not_true, Bool.false_eq_true, if_false, isVector_ok hk hs.rd (sumSt d.1.2.2.1 (ofC d.1.1 0)) (p := d.1.2.1) (by omega), isGraphVector_ok hk d.2.2.1 hs.op, Bool.true_and]
  cases colB d.2.1 (sumSt d.1.2.2.1 (ofC d.1.1 0)) d.1.2.1 <;> simp
def sumL {α : Type} (f : α → Nat) (l : List α) : Nat := (l.map f).sum
theorem sumL_nil {α : Type} (f : α → Nat) : sumL f [] = 0 := rfl
theorem sumL_cons {α : Type} (f : α → Nat) (x : α) (l : List α) : sumL f (x :: l) = f x + sumL f l := by simp [sumL]
theorem sumL_append {α : Type} (f : α → Nat) (l m : List α) : sumL f (l ++ m) = sumL f l + sumL f m := by simp [sumL]
theorem sumL_mem {α : Type} (f : α → Nat) {x : α} {l : List α} (h : x ∈ l) : f x ≤ sumL f l := by
  induction l with
  | nil => cases h
  | cons y l ih =>
    rw [sumL_cons]
    rcases List.mem_cons.1 h with rfl | h
    · omega
    · have := ih h; omega
/-- Sizes gathered, until they are too great. -/
theorem loop_sz {α : Type} (xs : List α) {s : α → Nat} {L : Nat → Int → Int → Option Int}
    (h1 : ∀ n (i : Nat) x r, xs[i]? = some x → (i : Int) < xs.length → x ∈ xs → 0 ≤ r → r ≤ 1048576 → L (n + 1) (i : Int) r = if (s x : Int) ≤ r then L n ((i + 1 : Nat) : Int) (r - (s x : Int)) else some (-1))
    (h2 : ∀ n r, L (n + 1) (xs.length : Int) r = some r) {n : Nat} (hn : xs.length < n) {r : Int} (h0 : 0 ≤ r) (hr : r ≤ 1048576) : L n 0 r = some (if (sumL s xs : Int) ≤ r then r - (sumL s xs : Int) else -1) := by
  refine loop_list (L := L) (I := fun _ r => 0 ≤ r ∧ r ≤ 1048576) (G := fun post r => some (if (sumL s post : Int) ≤ r then r - (sumL s post : Int) else -1)) xs ?_ ?_ n hn r ⟨h0, hr⟩
  · intro n pre x post r hx hI ih hg hlt
    rw [h1 n pre.length x r hg hlt (List.mem_of_getElem? hg) hI.1 hI.2]
    have hc : sumL s (x :: post) = s x + sumL s post := sumL_cons _ _ _
    by_cases c : (s x : Int) ≤ r
    · rw [if_pos c, ih (r - (s x : Int)) ⟨by omega, by omega⟩]
      by_cases c2 : (sumL s post : Int) ≤ r - (s x : Int)
      · rw [if_pos c2, if_pos (by omega)]; congr 1; omega
      · rw [if_neg c2, if_neg (by omega)]
    · rw [if_neg c, if_neg (by omega)]
  · intro n r hI
    rw [h2, sumL_nil, if_pos (by simpa using hI.1)]; simp
instance dec_Int64S : DecidableEq (List Int) := inferInstance
def sz_Int64S (a : List Int) : Nat := a.length
theorem szInt64S_ok {a : List Int} {e0 : TypeId} {left : Int} (h0 : 0 ≤ left) (h1 : left ≤ 1048576) (h : InR (.sl e0 (.int .i64)) a) : laws_szInt64S a left = some (if (sz_Int64S a : Int) ≤ left then left - (sz_Int64S a : Int) else -1) := by
  have hl : a.length ≤ 140737488351232 := h.1
  have hs : sz_Int64S a = a.length := rfl
  unfold laws_szInt64S
  rw [hs, w_id (by omega) (by omega)]
  by_cases c : (a.length : Int) ≤ left
  · rw [decide_eq_false (by omega), if_neg (by simp), if_pos c]
  · rw [decide_eq_true (by omega), if_pos rfl, if_neg c]
instance dec_Int64SS : DecidableEq (List (List Int)) := inferInstance
def sz_Int64SS (a : List (List Int)) : Nat := a.length + sumL sz_Int64S a
theorem szInt64SS_ok {k : Nat} (hk : KK ≤ k) {a : List (List Int)} {e0 e1 : TypeId} {left : Int} (h0 : 0 ≤ left) (h1 : left ≤ 1048576) (h : InR (.sl e0 (.sl e1 (.int .i64))) a) : laws_szInt64SS k a left = some (if (sz_Int64SS a : Int) ≤ left then left - (sz_Int64SS a : Int) else -1) := by
  have hl : a.length ≤ 140737488351232 := h.1
  have hs : sz_Int64SS a = a.length + sumL sz_Int64S a := rfl
  have hK := KK_def
  unfold laws_szInt64SS
  rw [hs, w_id (by omega) (by omega)]
  by_cases c : (a.length : Int) ≤ left
  · rw [decide_eq_false (by omega), if_neg (by simp)]
    refine Eq.trans (loop_sz (L := fun n i r => laws_szInt64SS_l0 k n a r i fun r => some r) (s := sz_Int64S) a ?_ ?_ (n := k) (by omega) (r := left - (a.length : Int)) (by omega) (by omega)) ?_
    · intro n i x r hi hlt hm r0 r1
      have hw := w_succ (i := i) (by omega)
      have hx := szInt64S_ok (a := x) r0 r1 (h.2 x hm)
      simp only [laws_szInt64SS_l0, hlt, decide_true, if_true, Int.natCast_nonneg, Int.toNat_natCast, hi, Option.bind_some, hw, hx]
      by_cases c2 : (sz_Int64S x : Int) ≤ r
      · rw [if_pos c2, decide_eq_false (by omega), if_neg (by simp), if_pos c2]
      · rw [if_neg c2, decide_eq_true (by omega), if_pos rfl, if_neg c2]
    · intro n r
      simp [laws_szInt64SS_l0]
    · by_cases c2 : (sumL sz_Int64S a : Int) ≤ left - (a.length : Int)
      · rw [if_pos c2, if_pos (by omega)]; congr 1; omega
      · rw [if_neg c2, if_neg (by omega)]
  · rw [decide_eq_true (by omega), if_pos rfl, if_neg (by omega)]
instance dec_Complex : DecidableEq (List (List Int)) := inferInstance
def sz_Complex (a : List (List Int)) : Nat := (sz_Int64SS a)
theorem szComplex_ok {k : Nat} (hk : KK ≤ k) {a : List (List Int)} {e0 e1 : TypeId} {left : Int} (h0 : 0 ≤ left) (h1 : left ≤ 1048576) (h : InR (.st (.sl e0 (.sl e1 (.int .i64)))) a) : laws_szComplex k a left = some (if (sz_Complex a : Int) ≤ left then left - (sz_Complex a : Int) else -1) := by
  have hs : sz_Complex a = (sz_Int64SS a) := rfl
  unfold laws_szComplex
  rw [hs]
  have q0 := szInt64SS_ok hk (a := a) (left := left) (by omega) (by omega) h
  rw [q0]
  by_cases c0 : ((sz_Int64SS a) : Int) ≤ left
  case neg => rw [if_neg c0]; simp only [Option.bind_some]; rw [decide_eq_true (by omega), if_pos rfl]
  rw [if_pos c0]; simp only [Option.bind_some]
  rw [decide_eq_false (by omega), if_neg (by simp)]
instance dec_Matrix_2 : DecidableEq (Int × List Int) := inferInstance
instance dec_Matrix_1 : DecidableEq (Int × Int × List Int) := inferInstance
instance dec_Matrix : DecidableEq (Int × Int × Int × List Int) := inferInstance
def sz_Matrix (a : Int × Int × Int × List Int) : Nat := (sz_Int64S (a.2.2.2))
theorem szMatrix_ok {a : Int × Int × Int × List Int} {e0 : TypeId} {left : Int} (h0 : 0 ≤ left) (h1 : left ≤ 1048576) (h : InR (.st (.pr (.int .i64) (.pr (.int .i64) (.pr (.int .i64) (.sl e0 (.int .i64)))))) a) : laws_szMatrix a left = some (if (sz_Matrix a : Int) ≤ left then left - (sz_Matrix a : Int) else -1) := by
  have hs : sz_Matrix a = (sz_Int64S (a.2.2.2)) := rfl
  unfold laws_szMatrix
  rw [hs]
  have q0 := szInt64S_ok (a := a.2.2.2) (left := left) (by omega) (by omega) h.2.2.2
  rw [q0]
  by_cases c0 : ((sz_Int64S (a.2.2.2)) : Int) ≤ left
  case neg => rw [if_neg c0]; simp only [Option.bind_some]; rw [decide_eq_true (by omega), if_pos rfl]
  rw [if_pos c0]; simp only [Option.bind_some]
  rw [decide_eq_false (by omega), if_neg (by simp)]
instance dec_MatrixS : DecidableEq (List (Int × Int × Int × List Int)) := inferInstance
def sz_MatrixS (a : List (Int × Int × Int × List Int)) : Nat := a.length + sumL sz_Matrix a
theorem szMatrixS_ok {k : Nat} (hk : KK ≤ k) {a : List (Int × Int × Int × List Int)} {e0 e1 : TypeId} {left : Int} (h0 : 0 ≤ left) (h1 : left ≤ 1048576) (h : InR (.sl e0 (.st (.pr (.int .i64) (.pr (.int .i64) (.pr (.int .i64) (.sl e1 (.int .i64))))))) a) : laws_szMatrixS k a left = some (if (sz_MatrixS a : Int) ≤ left then left - (sz_MatrixS a : Int) else -1) := by
  have hl : a.length ≤ 140737488351232 := h.1
  have hs : sz_MatrixS a = a.length + sumL sz_Matrix a := rfl
  have hK := KK_def
  unfold laws_szMatrixS
  rw [hs, w_id (by omega) (by omega)]
  by_cases c : (a.length : Int) ≤ left
  · rw [decide_eq_false (by omega), if_neg (by simp)]
    refine Eq.trans (loop_sz (L := fun n i r => laws_szMatrixS_l0 k n a r i fun r => some r) (s := sz_Matrix) a ?_ ?_ (n := k) (by omega) (r := left - (a.length : Int)) (by omega) (by omega)) ?_
    · intro n i x r hi hlt hm r0 r1
      have hw := w_succ (i := i) (by omega)
      have hx := szMatrix_ok (a := x) r0 r1 (h.2 x hm)
      simp only [laws_szMatrixS_l0, hlt, decide_true, if_true, Int.natCast_nonneg, Int.toNat_natCast, hi, Option.bind_some, hw, hx]
      by_cases c2 : (sz_Matrix x : Int) ≤ r
      · rw [if_pos c2, decide_eq_false (by omega), if_neg (by simp), if_pos c2]
      · rw [if_neg c2, decide_eq_true (by omega), if_pos rfl, if_neg c2]
    · intro n r
      simp [laws_szMatrixS_l0]
    · by_cases c2 : (sumL sz_Matrix a : Int) ≤ left - (a.length : Int)
      · rw [if_pos c2, if_pos (by omega)]; congr 1; omega
      · rw [if_neg c2, if_neg (by omega)]
  · rw [decide_eq_true (by omega), if_pos rfl, if_neg (by omega)]
instance dec_Sheaf_2 : DecidableEq (List Int × (List (Int × Int × Int × List Int))) := inferInstance
instance dec_Sheaf_1 : DecidableEq (Int × List Int × (List (Int × Int × Int × List Int))) := inferInstance
instance dec_Sheaf : DecidableEq (List (List Int) × Int × List Int × (List (Int × Int × Int × List Int))) := inferInstance
def sz_Sheaf (a : List (List Int) × Int × List Int × (List (Int × Int × Int × List Int))) : Nat := (sz_Complex (a.1)) + (sz_Int64S (a.2.2.1)) + (sz_MatrixS (a.2.2.2))
theorem szSheaf_ok {k : Nat} (hk : KK ≤ k) {a : List (List Int) × Int × List Int × (List (Int × Int × Int × List Int))} {e0 e1 e2 e3 e4 : TypeId} {left : Int} (h0 : 0 ≤ left) (h1 : left ≤ 1048576) (h : InR (.st (.pr (.st (.sl e0 (.sl e1 (.int .i64)))) (.pr (.int .i64) (.pr (.sl e2 (.int .i64)) (.sl e3 (.st (.pr (.int .i64) (.pr (.int .i64) (.pr (.int .i64) (.sl e4 (.int .i64))))))))))) a) : laws_szSheaf k a left = some (if (sz_Sheaf a : Int) ≤ left then left - (sz_Sheaf a : Int) else -1) := by
  have hs : sz_Sheaf a = (sz_Complex (a.1)) + (sz_Int64S (a.2.2.1)) + (sz_MatrixS (a.2.2.2)) := rfl
  unfold laws_szSheaf
  rw [hs]
  have q0 := szComplex_ok hk (a := a.1) (left := left) (by omega) (by omega) h.1
  rw [q0]
  by_cases c0 : ((sz_Complex (a.1)) : Int) ≤ left
  case neg => rw [if_neg c0]; simp only [Option.bind_some]; rw [decide_eq_true (by omega), if_pos rfl, if_neg (by omega)]
  rw [if_pos c0]; simp only [Option.bind_some]
  rw [decide_eq_false (by omega), if_neg (by simp)]
  have q1 := szInt64S_ok (a := a.2.2.1) (left := left - ((sz_Complex (a.1)) : Int)) (by omega) (by omega) h.2.2.1
  rw [q1]
  by_cases c1 : ((sz_Int64S (a.2.2.1)) : Int) ≤ left - ((sz_Complex (a.1)) : Int)
  case neg => rw [if_neg c1]; simp only [Option.bind_some]; rw [decide_eq_true (by omega), if_pos rfl, if_neg (by omega)]
  rw [if_pos c1]; simp only [Option.bind_some]
  rw [decide_eq_false (by omega), if_neg (by simp)]
  have q2 := szMatrixS_ok hk (a := a.2.2.2) (left := left - ((sz_Complex (a.1)) : Int) - ((sz_Int64S (a.2.2.1)) : Int)) (by omega) (by omega) h.2.2.2
  rw [q2]
  by_cases c2 : ((sz_MatrixS (a.2.2.2)) : Int) ≤ left - ((sz_Complex (a.1)) : Int) - ((sz_Int64S (a.2.2.1)) : Int)
  case neg => rw [if_neg c2]; simp only [Option.bind_some]; rw [decide_eq_true (by omega), if_pos rfl, if_neg (by omega)]
  rw [if_pos c2]; simp only [Option.bind_some]
  rw [decide_eq_false (by omega), if_neg (by simp)]
  rw [if_pos (by omega)]; congr 1; omega
theorem sheSmall {s : She} (h : sz_Sheaf s ≤ 1048576) : smallSh s := by
  have e : sz_Sheaf s = s.1.length + sumL List.length s.1 + s.2.2.1.length + (s.2.2.2.length + sumL sz_Matrix s.2.2.2) := rfl
  refine ⟨⟨by omega, fun x hx => by have := sumL_mem List.length hx; omega⟩, by omega, by omega, fun m hm => ?_⟩
  have h1 := sumL_mem sz_Matrix hm
  have h2 : sz_Matrix m = m.2.2.2.length := rfl
  omega
instance dec_EdgeS : DecidableEq (List (Int × Int × Int)) := inferInstance
def sz_EdgeS (a : List (Int × Int × Int)) : Nat := a.length
theorem szEdgeS_ok {a : List (Int × Int × Int)} {e0 : TypeId} {left : Int} (h0 : 0 ≤ left) (h1 : left ≤ 1048576) (h : InR (.sl e0 (.st (.pr (.int .i64) (.pr (.int .i64) (.int .i64))))) a) : laws_szEdgeS a left = some (if (sz_EdgeS a : Int) ≤ left then left - (sz_EdgeS a : Int) else -1) := by
  have hl : a.length ≤ 140737488351232 := h.1
  have hs : sz_EdgeS a = a.length := rfl
  unfold laws_szEdgeS
  rw [hs, w_id (by omega) (by omega)]
  by_cases c : (a.length : Int) ≤ left
  · rw [decide_eq_false (by omega), if_neg (by simp), if_pos c]
  · rw [decide_eq_true (by omega), if_pos rfl, if_neg c]
instance dec_Graph : DecidableEq (Int × (List (Int × Int × Int))) := inferInstance
def sz_Graph (a : Int × (List (Int × Int × Int))) : Nat := (sz_EdgeS (a.2))
theorem szGraph_ok {a : Int × (List (Int × Int × Int))} {e0 : TypeId} {left : Int} (h0 : 0 ≤ left) (h1 : left ≤ 1048576) (h : InR (.st (.pr (.int .i64) (.sl e0 (.st (.pr (.int .i64) (.pr (.int .i64) (.int .i64))))))) a) : laws_szGraph a left = some (if (sz_Graph a : Int) ≤ left then left - (sz_Graph a : Int) else -1) := by
  have hs : sz_Graph a = (sz_EdgeS (a.2)) := rfl
  unfold laws_szGraph
  rw [hs]
  have q0 := szEdgeS_ok (a := a.2) (left := left) (by omega) (by omega) h.2
  rw [q0]
  by_cases c0 : ((sz_EdgeS (a.2)) : Int) ≤ left
  case neg => rw [if_neg c0]; simp only [Option.bind_some]; rw [decide_eq_true (by omega), if_pos rfl]
  rw [if_pos c0]; simp only [Option.bind_some]
  rw [decide_eq_false (by omega), if_neg (by simp)]
instance dec_Table : DecidableEq (List Int × List (List Int)) := inferInstance
def sz_Table (a : List Int × List (List Int)) : Nat := (sz_Int64S (a.1)) + (sz_Int64SS (a.2))
theorem szTable_ok {k : Nat} (hk : KK ≤ k) {a : List Int × List (List Int)} {e0 e1 e2 : TypeId} {left : Int} (h0 : 0 ≤ left) (h1 : left ≤ 1048576) (h : InR (.st (.pr (.sl e0 (.int .i64)) (.sl e1 (.sl e2 (.int .i64))))) a) : laws_szTable k a left = some (if (sz_Table a : Int) ≤ left then left - (sz_Table a : Int) else -1) := by
  have hs : sz_Table a = (sz_Int64S (a.1)) + (sz_Int64SS (a.2)) := rfl
  unfold laws_szTable
  rw [hs]
  have q0 := szInt64S_ok (a := a.1) (left := left) (by omega) (by omega) h.1
  rw [q0]
  by_cases c0 : ((sz_Int64S (a.1)) : Int) ≤ left
  case neg => rw [if_neg c0]; simp only [Option.bind_some]; rw [decide_eq_true (by omega), if_pos rfl, if_neg (by omega)]
  rw [if_pos c0]; simp only [Option.bind_some]
  rw [decide_eq_false (by omega), if_neg (by simp)]
  have q1 := szInt64SS_ok hk (a := a.2) (left := left - ((sz_Int64S (a.1)) : Int)) (by omega) (by omega) h.2
  rw [q1]
  by_cases c1 : ((sz_Int64SS (a.2)) : Int) ≤ left - ((sz_Int64S (a.1)) : Int)
  case neg => rw [if_neg c1]; simp only [Option.bind_some]; rw [decide_eq_true (by omega), if_pos rfl, if_neg (by omega)]
  rw [if_pos c1]; simp only [Option.bind_some]
  rw [decide_eq_false (by omega), if_neg (by simp)]
  rw [if_pos (by omega)]; congr 1; omega
instance dec_TableS : DecidableEq (List (List Int × List (List Int))) := inferInstance
def sz_TableS (a : List (List Int × List (List Int))) : Nat := a.length + sumL sz_Table a
theorem szTableS_ok {k : Nat} (hk : KK ≤ k) {a : List (List Int × List (List Int))} {e0 e1 e2 e3 : TypeId} {left : Int} (h0 : 0 ≤ left) (h1 : left ≤ 1048576) (h : InR (.sl e0 (.st (.pr (.sl e1 (.int .i64)) (.sl e2 (.sl e3 (.int .i64)))))) a) : laws_szTableS k a left = some (if (sz_TableS a : Int) ≤ left then left - (sz_TableS a : Int) else -1) := by
  have hl : a.length ≤ 140737488351232 := h.1
  have hs : sz_TableS a = a.length + sumL sz_Table a := rfl
  have hK := KK_def
  unfold laws_szTableS
  rw [hs, w_id (by omega) (by omega)]
  by_cases c : (a.length : Int) ≤ left
  · rw [decide_eq_false (by omega), if_neg (by simp)]
    refine Eq.trans (loop_sz (L := fun n i r => laws_szTableS_l0 k n a r i fun r => some r) (s := sz_Table) a ?_ ?_ (n := k) (by omega) (r := left - (a.length : Int)) (by omega) (by omega)) ?_
    · intro n i x r hi hlt hm r0 r1
      have hw := w_succ (i := i) (by omega)
      have hx := szTable_ok hk (a := x) r0 r1 (h.2 x hm)
      simp only [laws_szTableS_l0, hlt, decide_true, if_true, Int.natCast_nonneg, Int.toNat_natCast, hi, Option.bind_some, hw, hx]
      by_cases c2 : (sz_Table x : Int) ≤ r
      · rw [if_pos c2, decide_eq_false (by omega), if_neg (by simp), if_pos c2]
      · rw [if_neg c2, decide_eq_true (by omega), if_pos rfl, if_neg c2]
    · intro n r
      simp [laws_szTableS_l0]
    · by_cases c2 : (sumL sz_Table a : Int) ≤ left - (a.length : Int)
      · rw [if_pos c2, if_pos (by omega)]; congr 1; omega
      · rw [if_neg c2, if_neg (by omega)]
  · rw [decide_eq_true (by omega), if_pos rfl, if_neg (by omega)]
instance dec_Filtration : DecidableEq (List (List Int) × List Int) := inferInstance
def sz_Filtration (a : List (List Int) × List Int) : Nat := (sz_Complex (a.1)) + (sz_Int64S (a.2))
theorem szFiltration_ok {k : Nat} (hk : KK ≤ k) {a : List (List Int) × List Int} {e0 e1 e2 : TypeId} {left : Int} (h0 : 0 ≤ left) (h1 : left ≤ 1048576) (h : InR (.st (.pr (.st (.sl e0 (.sl e1 (.int .i64)))) (.sl e2 (.int .i64)))) a) : laws_szFiltration k a left = some (if (sz_Filtration a : Int) ≤ left then left - (sz_Filtration a : Int) else -1) := by
  have hs : sz_Filtration a = (sz_Complex (a.1)) + (sz_Int64S (a.2)) := rfl
  unfold laws_szFiltration
  rw [hs]
  have q0 := szComplex_ok hk (a := a.1) (left := left) (by omega) (by omega) h.1
  rw [q0]
  by_cases c0 : ((sz_Complex (a.1)) : Int) ≤ left
  case neg => rw [if_neg c0]; simp only [Option.bind_some]; rw [decide_eq_true (by omega), if_pos rfl, if_neg (by omega)]
  rw [if_pos c0]; simp only [Option.bind_some]
  rw [decide_eq_false (by omega), if_neg (by simp)]
  have q1 := szInt64S_ok (a := a.2) (left := left - ((sz_Complex (a.1)) : Int)) (by omega) (by omega) h.2
  rw [q1]
  by_cases c1 : ((sz_Int64S (a.2)) : Int) ≤ left - ((sz_Complex (a.1)) : Int)
  case neg => rw [if_neg c1]; simp only [Option.bind_some]; rw [decide_eq_true (by omega), if_pos rfl, if_neg (by omega)]
  rw [if_pos c1]; simp only [Option.bind_some]
  rw [decide_eq_false (by omega), if_neg (by simp)]
  rw [if_pos (by omega)]; congr 1; omega
instance dec_StringS : DecidableEq (List (List UInt8)) := inferInstance
def sz_StringS (a : List (List UInt8)) : Nat := a.length + sumL List.length a
theorem szStringS_ok {k : Nat} (hk : KK ≤ k) {a : List (List UInt8)} {e0 : TypeId} {left : Int} (h0 : 0 ≤ left) (h1 : left ≤ 1048576) (h : InR (.sl e0 .str) a) : laws_szStringS k a left = some (if (sz_StringS a : Int) ≤ left then left - (sz_StringS a : Int) else -1) := by
  have hl : a.length ≤ 140737488351232 := h.1
  have hs : sz_StringS a = a.length + sumL List.length a := rfl
  have hK := KK_def
  unfold laws_szStringS
  rw [hs, w_id (by omega) (by omega)]
  by_cases c : (a.length : Int) ≤ left
  · rw [decide_eq_false (by omega), if_neg (by simp)]
    refine Eq.trans (loop_sz (L := fun n i r => laws_szStringS_l0 k n a r i fun r => some r) (s := List.length) a ?_ ?_ (n := k) (by omega) (r := left - (a.length : Int)) (by omega) (by omega)) ?_
    · intro n i x r hi hlt hm r0 r1
      have hw := w_succ (i := i) (by omega)
      have hxl : List.length x ≤ 140737488351232 := h.2 x hm
      have hs : w_i64 (r - (x.length : Int)) = r - x.length := w_id (by omega) (by omega)
      simp only [laws_szStringS_l0, hlt, decide_true, if_true, Int.natCast_nonneg, Int.toNat_natCast, hi, Option.bind_some, hw, hs]
      by_cases c2 : (x.length : Int) ≤ r
      · rw [decide_eq_false (by omega), if_neg (by simp), if_pos c2]
      · rw [decide_eq_true (by omega), if_pos rfl, if_neg c2]
    · intro n r
      simp [laws_szStringS_l0]
    · by_cases c2 : (sumL List.length a : Int) ≤ left - (a.length : Int)
      · rw [if_pos c2, if_pos (by omega)]; congr 1; omega
      · rw [if_neg c2, if_neg (by omega)]
  · rw [decide_eq_true (by omega), if_pos rfl, if_neg (by omega)]
instance dec_Item_2 : DecidableEq (Int × Int) := inferInstance
instance dec_Item_1 : DecidableEq (List (List UInt8) × Int × Int) := inferInstance
instance dec_Item : DecidableEq (List UInt8 × List (List UInt8) × Int × Int) := inferInstance
def sz_Item (a : List UInt8 × List (List UInt8) × Int × Int) : Nat := (List.length (a.1)) + (sz_StringS (a.2.1))
theorem szItem_ok {k : Nat} (hk : KK ≤ k) {a : List UInt8 × List (List UInt8) × Int × Int} {e0 : TypeId} {left : Int} (h0 : 0 ≤ left) (h1 : left ≤ 1048576) (h : InR (.st (.pr .str (.pr (.sl e0 .str) (.pr (.int .i64) (.int .i64))))) a) : laws_szItem k a left = some (if (sz_Item a : Int) ≤ left then left - (sz_Item a : Int) else -1) := by
  have hs : sz_Item a = (List.length (a.1)) + (sz_StringS (a.2.1)) := rfl
  unfold laws_szItem
  rw [hs]
  have hl0 : List.length (a.1) ≤ 140737488351232 := h.1
  rw [w_id (x := left - (List.length (a.1) : Int)) (by omega) (by omega)]
  by_cases c0 : (List.length (a.1) : Int) ≤ left
  case neg => rw [decide_eq_true (by omega), if_pos rfl, if_neg (by omega)]
  rw [decide_eq_false (by omega), if_neg (by simp)]
  have q1 := szStringS_ok hk (a := a.2.1) (left := left - ((List.length (a.1)) : Int)) (by omega) (by omega) h.2.1
  rw [q1]
  by_cases c1 : ((sz_StringS (a.2.1)) : Int) ≤ left - ((List.length (a.1)) : Int)
  case neg => rw [if_neg c1]; simp only [Option.bind_some]; rw [decide_eq_true (by omega), if_pos rfl, if_neg (by omega)]
  rw [if_pos c1]; simp only [Option.bind_some]
  rw [decide_eq_false (by omega), if_neg (by simp)]
  rw [if_pos (by omega)]; congr 1; omega
instance dec_ItemS : DecidableEq (List (List UInt8 × List (List UInt8) × Int × Int)) := inferInstance
def sz_ItemS (a : List (List UInt8 × List (List UInt8) × Int × Int)) : Nat := a.length + sumL sz_Item a
theorem szItemS_ok {k : Nat} (hk : KK ≤ k) {a : List (List UInt8 × List (List UInt8) × Int × Int)} {e0 e1 : TypeId} {left : Int} (h0 : 0 ≤ left) (h1 : left ≤ 1048576) (h : InR (.sl e0 (.st (.pr .str (.pr (.sl e1 .str) (.pr (.int .i64) (.int .i64)))))) a) : laws_szItemS k a left = some (if (sz_ItemS a : Int) ≤ left then left - (sz_ItemS a : Int) else -1) := by
  have hl : a.length ≤ 140737488351232 := h.1
  have hs : sz_ItemS a = a.length + sumL sz_Item a := rfl
  have hK := KK_def
  unfold laws_szItemS
  rw [hs, w_id (by omega) (by omega)]
  by_cases c : (a.length : Int) ≤ left
  · rw [decide_eq_false (by omega), if_neg (by simp)]
    refine Eq.trans (loop_sz (L := fun n i r => laws_szItemS_l0 k n a r i fun r => some r) (s := sz_Item) a ?_ ?_ (n := k) (by omega) (r := left - (a.length : Int)) (by omega) (by omega)) ?_
    · intro n i x r hi hlt hm r0 r1
      have hw := w_succ (i := i) (by omega)
      have hx := szItem_ok hk (a := x) r0 r1 (h.2 x hm)
      simp only [laws_szItemS_l0, hlt, decide_true, if_true, Int.natCast_nonneg, Int.toNat_natCast, hi, Option.bind_some, hw, hx]
      by_cases c2 : (sz_Item x : Int) ≤ r
      · rw [if_pos c2, decide_eq_false (by omega), if_neg (by simp), if_pos c2]
      · rw [if_neg c2, decide_eq_true (by omega), if_pos rfl, if_neg c2]
    · intro n r
      simp [laws_szItemS_l0]
    · by_cases c2 : (sumL sz_Item a : Int) ≤ left - (a.length : Int)
      · rw [if_pos c2, if_pos (by omega)]; congr 1; omega
      · rw [if_neg c2, if_neg (by omega)]
  · rw [decide_eq_true (by omega), if_pos rfl, if_neg (by omega)]
instance dec_Desk_6 : DecidableEq ((List (List Int) × List Int) × (List (List UInt8 × List (List UInt8) × Int × Int))) := inferInstance
instance dec_Desk_5 : DecidableEq ((List (List Int × List (List Int))) × (List (List Int) × List Int) × (List (List UInt8 × List (List UInt8) × Int × Int))) := inferInstance
instance dec_Desk_4 : DecidableEq ((Int × Int × Int × List Int) × (List (List Int × List (List Int))) × (List (List Int) × List Int) × (List (List UInt8 × List (List UInt8) × Int × Int))) := inferInstance
instance dec_Desk_3 : DecidableEq (List Int × (Int × Int × Int × List Int) × (List (List Int × List (List Int))) × (List (List Int) × List Int) × (List (List UInt8 × List (List UInt8) × Int × Int))) := inferInstance
instance dec_Desk_2 : DecidableEq ((Int × (List (Int × Int × Int))) × List Int × (Int × Int × Int × List Int) × (List (List Int × List (List Int))) × (List (List Int) × List Int) × (List (List UInt8 × List (List UInt8) × Int × Int))) := inferInstance
instance dec_Desk_1 : DecidableEq (List Int × (Int × (List (Int × Int × Int))) × List Int × (Int × Int × Int × List Int) × (List (List Int × List (List Int))) × (List (List Int) × List Int) × (List (List UInt8 × List (List UInt8) × Int × Int))) := inferInstance
instance dec_Desk : DecidableEq ((List (List Int) × Int × List Int × (List (Int × Int × Int × List Int))) × List Int × (Int × (List (Int × Int × Int))) × List Int × (Int × Int × Int × List Int) × (List (List Int × List (List Int))) × (List (List Int) × List Int) × (List (List UInt8 × List (List UInt8) × Int × Int))) := inferInstance
def sz_Desk (a : (List (List Int) × Int × List Int × (List (Int × Int × Int × List Int))) × List Int × (Int × (List (Int × Int × Int))) × List Int × (Int × Int × Int × List Int) × (List (List Int × List (List Int))) × (List (List Int) × List Int) × (List (List UInt8 × List (List UInt8) × Int × Int))) : Nat := (sz_Sheaf (a.1)) + (sz_Int64S (a.2.1)) + (sz_Graph (a.2.2.1)) + (sz_Int64S (a.2.2.2.1)) + (sz_Matrix (a.2.2.2.2.1)) + (sz_TableS (a.2.2.2.2.2.1)) + (sz_Filtration (a.2.2.2.2.2.2.1)) + (sz_ItemS (a.2.2.2.2.2.2.2))
theorem szDesk_ok {k : Nat} (hk : KK ≤ k) {a : (List (List Int) × Int × List Int × (List (Int × Int × Int × List Int))) × List Int × (Int × (List (Int × Int × Int))) × List Int × (Int × Int × Int × List Int) × (List (List Int × List (List Int))) × (List (List Int) × List Int) × (List (List UInt8 × List (List UInt8) × Int × Int))} {e0 e1 e2 e3 e4 e5 e6 e7 e8 e9 e10 e11 e12 e13 e14 e15 e16 e17 : TypeId} {left : Int} (h0 : 0 ≤ left) (h1 : left ≤ 1048576) (h : InR (.st (.pr (.st (.pr (.st (.sl e0 (.sl e1 (.int .i64)))) (.pr (.int .i64) (.pr (.sl e2 (.int .i64)) (.sl e3 (.st (.pr (.int .i64) (.pr (.int .i64) (.pr (.int .i64) (.sl e4 (.int .i64))))))))))) (.pr (.sl e5 (.int .i64)) (.pr (.st (.pr (.int .i64) (.sl e6 (.st (.pr (.int .i64) (.pr (.int .i64) (.int .i64))))))) (.pr (.sl e7 (.int .i64)) (.pr (.st (.pr (.int .i64) (.pr (.int .i64) (.pr (.int .i64) (.sl e8 (.int .i64)))))) (.pr (.sl e9 (.st (.pr (.sl e10 (.int .i64)) (.sl e11 (.sl e12 (.int .i64)))))) (.pr (.st (.pr (.st (.sl e13 (.sl e14 (.int .i64)))) (.sl e15 (.int .i64)))) (.sl e16 (.st (.pr .str (.pr (.sl e17 .str) (.pr (.int .i64) (.int .i64)))))))))))))) a) : laws_szDesk k a left = some (if (sz_Desk a : Int) ≤ left then left - (sz_Desk a : Int) else -1) := by
  have hs : sz_Desk a = (sz_Sheaf (a.1)) + (sz_Int64S (a.2.1)) + (sz_Graph (a.2.2.1)) + (sz_Int64S (a.2.2.2.1)) + (sz_Matrix (a.2.2.2.2.1)) + (sz_TableS (a.2.2.2.2.2.1)) + (sz_Filtration (a.2.2.2.2.2.2.1)) + (sz_ItemS (a.2.2.2.2.2.2.2)) := rfl
  unfold laws_szDesk
  rw [hs]
  have q0 := szSheaf_ok hk (a := a.1) (left := left) (by omega) (by omega) h.1
  rw [q0]
  by_cases c0 : ((sz_Sheaf (a.1)) : Int) ≤ left
  case neg => rw [if_neg c0]; simp only [Option.bind_some]; rw [decide_eq_true (by omega), if_pos rfl, if_neg (by omega)]
  rw [if_pos c0]; simp only [Option.bind_some]
  rw [decide_eq_false (by omega), if_neg (by simp)]
  have q1 := szInt64S_ok (a := a.2.1) (left := left - ((sz_Sheaf (a.1)) : Int)) (by omega) (by omega) h.2.1
  rw [q1]
  by_cases c1 : ((sz_Int64S (a.2.1)) : Int) ≤ left - ((sz_Sheaf (a.1)) : Int)
  case neg => rw [if_neg c1]; simp only [Option.bind_some]; rw [decide_eq_true (by omega), if_pos rfl, if_neg (by omega)]
  rw [if_pos c1]; simp only [Option.bind_some]
  rw [decide_eq_false (by omega), if_neg (by simp)]
  have q2 := szGraph_ok (a := a.2.2.1) (left := left - ((sz_Sheaf (a.1)) : Int) - ((sz_Int64S (a.2.1)) : Int)) (by omega) (by omega) h.2.2.1
  rw [q2]
  by_cases c2 : ((sz_Graph (a.2.2.1)) : Int) ≤ left - ((sz_Sheaf (a.1)) : Int) - ((sz_Int64S (a.2.1)) : Int)
  case neg => rw [if_neg c2]; simp only [Option.bind_some]; rw [decide_eq_true (by omega), if_pos rfl, if_neg (by omega)]
  rw [if_pos c2]; simp only [Option.bind_some]
  rw [decide_eq_false (by omega), if_neg (by simp)]
  have q3 := szInt64S_ok (a := a.2.2.2.1) (left := left - ((sz_Sheaf (a.1)) : Int) - ((sz_Int64S (a.2.1)) : Int) - ((sz_Graph (a.2.2.1)) : Int)) (by omega) (by omega) h.2.2.2.1
  rw [q3]
  by_cases c3 : ((sz_Int64S (a.2.2.2.1)) : Int) ≤ left - ((sz_Sheaf (a.1)) : Int) - ((sz_Int64S (a.2.1)) : Int) - ((sz_Graph (a.2.2.1)) : Int)
  case neg => rw [if_neg c3]; simp only [Option.bind_some]; rw [decide_eq_true (by omega), if_pos rfl, if_neg (by omega)]
  rw [if_pos c3]; simp only [Option.bind_some]
  rw [decide_eq_false (by omega), if_neg (by simp)]
  have q4 := szMatrix_ok (a := a.2.2.2.2.1) (left := left - ((sz_Sheaf (a.1)) : Int) - ((sz_Int64S (a.2.1)) : Int) - ((sz_Graph (a.2.2.1)) : Int) - ((sz_Int64S (a.2.2.2.1)) : Int)) (by omega) (by omega) h.2.2.2.2.1
  rw [q4]
  by_cases c4 : ((sz_Matrix (a.2.2.2.2.1)) : Int) ≤ left - ((sz_Sheaf (a.1)) : Int) - ((sz_Int64S (a.2.1)) : Int) - ((sz_Graph (a.2.2.1)) : Int) - ((sz_Int64S (a.2.2.2.1)) : Int)
  case neg => rw [if_neg c4]; simp only [Option.bind_some]; rw [decide_eq_true (by omega), if_pos rfl, if_neg (by omega)]
  rw [if_pos c4]; simp only [Option.bind_some]
  rw [decide_eq_false (by omega), if_neg (by simp)]
  have q5 := szTableS_ok hk (a := a.2.2.2.2.2.1) (left := left - ((sz_Sheaf (a.1)) : Int) - ((sz_Int64S (a.2.1)) : Int) - ((sz_Graph (a.2.2.1)) : Int) - ((sz_Int64S (a.2.2.2.1)) : Int) - ((sz_Matrix (a.2.2.2.2.1)) : Int)) (by omega) (by omega) h.2.2.2.2.2.1
  rw [q5]
  by_cases c5 : ((sz_TableS (a.2.2.2.2.2.1)) : Int) ≤ left - ((sz_Sheaf (a.1)) : Int) - ((sz_Int64S (a.2.1)) : Int) - ((sz_Graph (a.2.2.1)) : Int) - ((sz_Int64S (a.2.2.2.1)) : Int) - ((sz_Matrix (a.2.2.2.2.1)) : Int)
  case neg => rw [if_neg c5]; simp only [Option.bind_some]; rw [decide_eq_true (by omega), if_pos rfl, if_neg (by omega)]
  rw [if_pos c5]; simp only [Option.bind_some]
  rw [decide_eq_false (by omega), if_neg (by simp)]
  have q6 := szFiltration_ok hk (a := a.2.2.2.2.2.2.1) (left := left - ((sz_Sheaf (a.1)) : Int) - ((sz_Int64S (a.2.1)) : Int) - ((sz_Graph (a.2.2.1)) : Int) - ((sz_Int64S (a.2.2.2.1)) : Int) - ((sz_Matrix (a.2.2.2.2.1)) : Int) - ((sz_TableS (a.2.2.2.2.2.1)) : Int)) (by omega) (by omega) h.2.2.2.2.2.2.1
  rw [q6]
  by_cases c6 : ((sz_Filtration (a.2.2.2.2.2.2.1)) : Int) ≤ left - ((sz_Sheaf (a.1)) : Int) - ((sz_Int64S (a.2.1)) : Int) - ((sz_Graph (a.2.2.1)) : Int) - ((sz_Int64S (a.2.2.2.1)) : Int) - ((sz_Matrix (a.2.2.2.2.1)) : Int) - ((sz_TableS (a.2.2.2.2.2.1)) : Int)
  case neg => rw [if_neg c6]; simp only [Option.bind_some]; rw [decide_eq_true (by omega), if_pos rfl, if_neg (by omega)]
  rw [if_pos c6]; simp only [Option.bind_some]
  rw [decide_eq_false (by omega), if_neg (by simp)]
  have q7 := szItemS_ok hk (a := a.2.2.2.2.2.2.2) (left := left - ((sz_Sheaf (a.1)) : Int) - ((sz_Int64S (a.2.1)) : Int) - ((sz_Graph (a.2.2.1)) : Int) - ((sz_Int64S (a.2.2.2.1)) : Int) - ((sz_Matrix (a.2.2.2.2.1)) : Int) - ((sz_TableS (a.2.2.2.2.2.1)) : Int) - ((sz_Filtration (a.2.2.2.2.2.2.1)) : Int)) (by omega) (by omega) h.2.2.2.2.2.2.2
  rw [q7]
  by_cases c7 : ((sz_ItemS (a.2.2.2.2.2.2.2)) : Int) ≤ left - ((sz_Sheaf (a.1)) : Int) - ((sz_Int64S (a.2.1)) : Int) - ((sz_Graph (a.2.2.1)) : Int) - ((sz_Int64S (a.2.2.2.1)) : Int) - ((sz_Matrix (a.2.2.2.2.1)) : Int) - ((sz_TableS (a.2.2.2.2.2.1)) : Int) - ((sz_Filtration (a.2.2.2.2.2.2.1)) : Int)
  case neg => rw [if_neg c7]; simp only [Option.bind_some]; rw [decide_eq_true (by omega), if_pos rfl, if_neg (by omega)]
  rw [if_pos c7]; simp only [Option.bind_some]
  rw [decide_eq_false (by omega), if_neg (by simp)]
  rw [if_pos (by omega)]; congr 1; omega
theorem deskSmall {d : DskT} (h : sz_Desk d ≤ 1048576) : smallD d := by
  have e : sz_Desk d = sz_Sheaf d.1 + d.2.1.length + d.2.2.1.2.length + d.2.2.2.1.length + d.2.2.2.2.1.2.2.2.length + (d.2.2.2.2.2.1.length + sumL sz_Table d.2.2.2.2.2.1) + ((d.2.2.2.2.2.2.1.1.length + sumL List.length d.2.2.2.2.2.2.1.1) + d.2.2.2.2.2.2.1.2.length) + (d.2.2.2.2.2.2.2.length + sumL sz_Item d.2.2.2.2.2.2.2) := rfl
  refine ⟨sheSmall (by omega), by omega, by omega, by omega, by omega, by omega, fun t ht => ?_, ⟨by omega, fun s hs => ?_⟩, by omega, by omega, fun x hx => ?_⟩
  · have h1 := sumL_mem sz_Table ht
    have h2 : sz_Table t = t.1.length + (t.2.length + sumL List.length t.2) := rfl
    exact ⟨by omega, by omega, fun r hr => by have := sumL_mem List.length hr; omega⟩
  · have := sumL_mem List.length hs; omega
  · have h1 := sumL_mem sz_Item hx
    have h2 : sz_Item x = x.1.length + (x.2.1.length + sumL List.length x.2.1) := rfl
    exact ⟨by omega, by omega, fun y hy => by have := sumL_mem List.length hy; omega⟩
theorem toInt64S_ok {k : Nat} (hk : KK ≤ k) {a : List Int} (h : sz_Int64S a ≤ 10000000000) : laws_toInt64S k a = some a := by
  have hl : a.length ≤ 10000000000 := Nat.le_trans (show a.length ≤ sz_Int64S a by unfold sz_Int64S; omega) h
  unfold laws_toInt64S
  have hL := LIM_def
  rw [if_pos ⟨by omega, Int.le_refl _, by omega⟩]
  refine loop_copy (L := fun n i q => laws_toInt64S_l0 k n a i q fun q_5 => some q_5) (e := fun q => some q) a _ (by simp) ?_ ?_ (n := k) (by have := KK_def; omega)
  · intro n i x q hx hlt hq
    have hw := w_succ (i := i) (by omega)
    have hi : i < q.length := by omega
    simp [laws_toInt64S_l0, hlt, hx, hw, hi]
  · intro n q
    simp [laws_toInt64S_l0]
theorem toInt64SS_ok {k : Nat} (hk : KK ≤ k) {a : List (List Int)} (h : sz_Int64SS a ≤ 10000000000) : laws_toInt64SS k a = some a := by
  have hl : a.length ≤ 10000000000 := Nat.le_trans (show a.length ≤ sz_Int64SS a by unfold sz_Int64SS; omega) h
  unfold laws_toInt64SS
  have hL := LIM_def
  rw [if_pos ⟨by omega, Int.le_refl _, by omega⟩]
  refine loop_copy (L := fun n i q => laws_toInt64SS_l0 k n a i q fun q_5 => some q_5) (e := fun q => some q) a _ (by simp) ?_ ?_ (n := k) (by have := KK_def; omega)
  · intro n i x q hx hlt hq
    have hw := w_succ (i := i) (by omega)
    have hi : i < q.length := by omega
    have hm := sumL_mem sz_Int64S (List.mem_of_getElem? hx)
    have hb : sz_Int64S x ≤ 10000000000 := by unfold sz_Int64SS at h; omega
    simp [laws_toInt64SS_l0, toInt64S_ok hk hb, hlt, hx, hw, hi]
  · intro n q
    simp [laws_toInt64SS_l0]
theorem toComplex_ok {k : Nat} (hk : KK ≤ k) {a : List (List Int)} (h : sz_Complex a ≤ 10000000000) : laws_toComplex k a = some a := by
  have b0 : (sz_Int64SS a) ≤ 10000000000 := by unfold sz_Complex at h; omega
  unfold laws_toComplex
  simp only [toInt64SS_ok hk b0, Option.bind_some] <;> rfl
theorem toMatrix_ok {k : Nat} (hk : KK ≤ k) {a : Int × Int × Int × List Int} (h : sz_Matrix a ≤ 10000000000) : laws_toMatrix k a = some a := by
  have b3 : (sz_Int64S (a.2.2.2)) ≤ 10000000000 := by unfold sz_Matrix at h; omega
  unfold laws_toMatrix
  simp only [toInt64S_ok hk b3, Option.bind_some] <;> rfl
theorem toMatrixS_ok {k : Nat} (hk : KK ≤ k) {a : List (Int × Int × Int × List Int)} (h : sz_MatrixS a ≤ 10000000000) : laws_toMatrixS k a = some a := by
  have hl : a.length ≤ 10000000000 := Nat.le_trans (show a.length ≤ sz_MatrixS a by unfold sz_MatrixS; omega) h
  unfold laws_toMatrixS
  have hL := LIM_def
  rw [if_pos ⟨by omega, Int.le_refl _, by omega⟩]
  refine loop_copy (L := fun n i q => laws_toMatrixS_l0 k n a i q fun q_5 => some q_5) (e := fun q => some q) a _ (by simp) ?_ ?_ (n := k) (by have := KK_def; omega)
  · intro n i x q hx hlt hq
    have hw := w_succ (i := i) (by omega)
    have hi : i < q.length := by omega
    have hm := sumL_mem sz_Matrix (List.mem_of_getElem? hx)
    have hb : sz_Matrix x ≤ 10000000000 := by unfold sz_MatrixS at h; omega
    simp [laws_toMatrixS_l0, toMatrix_ok hk hb, hlt, hx, hw, hi]
  · intro n q
    simp [laws_toMatrixS_l0]
theorem toSheaf_ok {k : Nat} (hk : KK ≤ k) {a : List (List Int) × Int × List Int × (List (Int × Int × Int × List Int))} (h : sz_Sheaf a ≤ 10000000000) : laws_toSheaf k a = some a := by
  have b0 : (sz_Complex (a.1)) ≤ 10000000000 := by unfold sz_Sheaf at h; omega
  have b2 : (sz_Int64S (a.2.2.1)) ≤ 10000000000 := by unfold sz_Sheaf at h; omega
  have b3 : (sz_MatrixS (a.2.2.2)) ≤ 10000000000 := by unfold sz_Sheaf at h; omega
  unfold laws_toSheaf
  simp only [toComplex_ok hk b0, toInt64S_ok hk b2, toMatrixS_ok hk b3, Option.bind_some] <;> rfl
theorem toEdge_ok {a : Int × Int × Int}  : laws_toEdge a = some a := by
  unfold laws_toEdge
  rfl
theorem toEdgeS_ok {k : Nat} (hk : KK ≤ k) {a : List (Int × Int × Int)} (h : sz_EdgeS a ≤ 10000000000) : laws_toEdgeS k a = some a := by
  have hl : a.length ≤ 10000000000 := Nat.le_trans (show a.length ≤ sz_EdgeS a by unfold sz_EdgeS; omega) h
  unfold laws_toEdgeS
  have hL := LIM_def
  rw [if_pos ⟨by omega, Int.le_refl _, by omega⟩]
  refine loop_copy (L := fun n i q => laws_toEdgeS_l0 k n a i q fun q_5 => some q_5) (e := fun q => some q) a _ (by simp) ?_ ?_ (n := k) (by have := KK_def; omega)
  · intro n i x q hx hlt hq
    have hw := w_succ (i := i) (by omega)
    have hi : i < q.length := by omega
    simp [laws_toEdgeS_l0, toEdge_ok, hlt, hx, hw, hi]
  · intro n q
    simp [laws_toEdgeS_l0]
theorem toGraph_ok {k : Nat} (hk : KK ≤ k) {a : Int × (List (Int × Int × Int))} (h : sz_Graph a ≤ 10000000000) : laws_toGraph k a = some a := by
  have b1 : (sz_EdgeS (a.2)) ≤ 10000000000 := by unfold sz_Graph at h; omega
  unfold laws_toGraph
  simp only [toEdgeS_ok hk b1, Option.bind_some] <;> rfl
theorem toTable_ok {k : Nat} (hk : KK ≤ k) {a : List Int × List (List Int)} (h : sz_Table a ≤ 10000000000) : laws_toTable k a = some a := by
  have b0 : (sz_Int64S (a.1)) ≤ 10000000000 := by unfold sz_Table at h; omega
  have b1 : (sz_Int64SS (a.2)) ≤ 10000000000 := by unfold sz_Table at h; omega
  unfold laws_toTable
  simp only [toInt64S_ok hk b0, toInt64SS_ok hk b1, Option.bind_some] <;> rfl
theorem toTableS_ok {k : Nat} (hk : KK ≤ k) {a : List (List Int × List (List Int))} (h : sz_TableS a ≤ 10000000000) : laws_toTableS k a = some a := by
  have hl : a.length ≤ 10000000000 := Nat.le_trans (show a.length ≤ sz_TableS a by unfold sz_TableS; omega) h
  unfold laws_toTableS
  have hL := LIM_def
  rw [if_pos ⟨by omega, Int.le_refl _, by omega⟩]
  refine loop_copy (L := fun n i q => laws_toTableS_l0 k n a i q fun q_5 => some q_5) (e := fun q => some q) a _ (by simp) ?_ ?_ (n := k) (by have := KK_def; omega)
  · intro n i x q hx hlt hq
    have hw := w_succ (i := i) (by omega)
    have hi : i < q.length := by omega
    have hm := sumL_mem sz_Table (List.mem_of_getElem? hx)
    have hb : sz_Table x ≤ 10000000000 := by unfold sz_TableS at h; omega
    simp [laws_toTableS_l0, toTable_ok hk hb, hlt, hx, hw, hi]
  · intro n q
    simp [laws_toTableS_l0]
theorem toFiltration_ok {k : Nat} (hk : KK ≤ k) {a : List (List Int) × List Int} (h : sz_Filtration a ≤ 10000000000) : laws_toFiltration k a = some a := by
  have b0 : (sz_Complex (a.1)) ≤ 10000000000 := by unfold sz_Filtration at h; omega
  have b1 : (sz_Int64S (a.2)) ≤ 10000000000 := by unfold sz_Filtration at h; omega
  unfold laws_toFiltration
  simp only [toComplex_ok hk b0, toInt64S_ok hk b1, Option.bind_some] <;> rfl
theorem toStringS_ok {k : Nat} (hk : KK ≤ k) {a : List (List UInt8)} (h : sz_StringS a ≤ 10000000000) : laws_toStringS k a = some a := by
  have hl : a.length ≤ 10000000000 := Nat.le_trans (show a.length ≤ sz_StringS a by unfold sz_StringS; omega) h
  unfold laws_toStringS
  have hL := LIM_def
  rw [if_pos ⟨by omega, Int.le_refl _, by omega⟩]
  refine loop_copy (L := fun n i q => laws_toStringS_l0 k n a i q fun q_5 => some q_5) (e := fun q => some q) a _ (by simp) ?_ ?_ (n := k) (by have := KK_def; omega)
  · intro n i x q hx hlt hq
    have hw := w_succ (i := i) (by omega)
    have hi : i < q.length := by omega
    simp [laws_toStringS_l0, hlt, hx, hw, hi]
  · intro n q
    simp [laws_toStringS_l0]
theorem toItem_ok {k : Nat} (hk : KK ≤ k) {a : List UInt8 × List (List UInt8) × Int × Int} (h : sz_Item a ≤ 10000000000) : laws_toItem k a = some a := by
  have b1 : (sz_StringS (a.2.1)) ≤ 10000000000 := by unfold sz_Item at h; omega
  unfold laws_toItem
  simp only [toStringS_ok hk b1, Option.bind_some] <;> rfl
theorem toItemS_ok {k : Nat} (hk : KK ≤ k) {a : List (List UInt8 × List (List UInt8) × Int × Int)} (h : sz_ItemS a ≤ 10000000000) : laws_toItemS k a = some a := by
  have hl : a.length ≤ 10000000000 := Nat.le_trans (show a.length ≤ sz_ItemS a by unfold sz_ItemS; omega) h
  unfold laws_toItemS
  have hL := LIM_def
  rw [if_pos ⟨by omega, Int.le_refl _, by omega⟩]
  refine loop_copy (L := fun n i q => laws_toItemS_l0 k n a i q fun q_5 => some q_5) (e := fun q => some q) a _ (by simp) ?_ ?_ (n := k) (by have := KK_def; omega)
  · intro n i x q hx hlt hq
    have hw := w_succ (i := i) (by omega)
    have hi : i < q.length := by omega
    have hm := sumL_mem sz_Item (List.mem_of_getElem? hx)
    have hb : sz_Item x ≤ 10000000000 := by unfold sz_ItemS at h; omega
    simp [laws_toItemS_l0, toItem_ok hk hb, hlt, hx, hw, hi]
  · intro n q
    simp [laws_toItemS_l0]
theorem toDesk_ok {k : Nat} (hk : KK ≤ k) {a : (List (List Int) × Int × List Int × (List (Int × Int × Int × List Int))) × List Int × (Int × (List (Int × Int × Int))) × List Int × (Int × Int × Int × List Int) × (List (List Int × List (List Int))) × (List (List Int) × List Int) × (List (List UInt8 × List (List UInt8) × Int × Int))} (h : sz_Desk a ≤ 10000000000) : laws_toDesk k a = some a := by
  have b0 : (sz_Sheaf (a.1)) ≤ 10000000000 := by unfold sz_Desk at h; omega
  have b1 : (sz_Int64S (a.2.1)) ≤ 10000000000 := by unfold sz_Desk at h; omega
  have b2 : (sz_Graph (a.2.2.1)) ≤ 10000000000 := by unfold sz_Desk at h; omega
  have b3 : (sz_Int64S (a.2.2.2.1)) ≤ 10000000000 := by unfold sz_Desk at h; omega
  have b4 : (sz_Matrix (a.2.2.2.2.1)) ≤ 10000000000 := by unfold sz_Desk at h; omega
  have b5 : (sz_TableS (a.2.2.2.2.2.1)) ≤ 10000000000 := by unfold sz_Desk at h; omega
  have b6 : (sz_Filtration (a.2.2.2.2.2.2.1)) ≤ 10000000000 := by unfold sz_Desk at h; omega
  have b7 : (sz_ItemS (a.2.2.2.2.2.2.2)) ≤ 10000000000 := by unfold sz_Desk at h; omega
  unfold laws_toDesk
  simp only [toSheaf_ok hk b0, toInt64S_ok hk b1, toGraph_ok hk b2, toInt64S_ok hk b3, toMatrix_ok hk b4, toTableS_ok hk b5, toFiltration_ok hk b6, toItemS_ok hk b7, Option.bind_some] <;> rfl
theorem eqInt64S_ok {k : Nat} (hk : KK ≤ k) {a b : List Int} (h : sz_Int64S a ≤ 10000000000) : laws_eqInt64S k a b = some (decide (a = b)) := by
  have hle : a.length ≤ 10000000000 := Nat.le_trans (show a.length ≤ sz_Int64S a by unfold sz_Int64S; omega) h
  unfold laws_eqInt64S
  by_cases hl : a.length = b.length
  · rw [if_neg (by simp [hl])]
    refine loop_eq (L := fun n i => laws_eqInt64S_l0 k n a b i (some true)) a b hl ?_ ?_ (n := k) (by have := KK_def; omega)
    · intro n i x y hx hy hlt
      have hw := w_succ (i := i) (by omega)
      by_cases e : x = y <;> simp [laws_eqInt64S_l0, hlt, hx, hy, hw, e]
    · intro n
      simp [laws_eqInt64S_l0]
  · have h2 : a ≠ b := fun e => hl (by rw [e])
    have h3 : ¬ (a.length : Int) = b.length := by omega
    simp [h3, h2]
theorem eqInt64SS_ok {k : Nat} (hk : KK ≤ k) {a b : List (List Int)} (h : sz_Int64SS a ≤ 10000000000) : laws_eqInt64SS k a b = some (decide (a = b)) := by
  have hle : a.length ≤ 10000000000 := Nat.le_trans (show a.length ≤ sz_Int64SS a by unfold sz_Int64SS; omega) h
  unfold laws_eqInt64SS
  by_cases hl : a.length = b.length
  · rw [if_neg (by simp [hl])]
    refine loop_eq (L := fun n i => laws_eqInt64SS_l0 k n a b i (some true)) a b hl ?_ ?_ (n := k) (by have := KK_def; omega)
    · intro n i x y hx hy hlt
      have hw := w_succ (i := i) (by omega)
      have hm := sumL_mem sz_Int64S (List.mem_of_getElem? hx)
      have hb : sz_Int64S x ≤ 10000000000 := by unfold sz_Int64SS at h; omega
      simp only [laws_eqInt64SS_l0, hlt, decide_true, if_true, Int.natCast_nonneg, Int.toNat_natCast, hx, hy, Option.bind_some, hw, eqInt64S_ok hk hb]
      by_cases e : x = y
      · rw [decide_eq_true e, if_pos e]; simp
      · rw [decide_eq_false e, if_neg e]; simp
    · intro n
      simp [laws_eqInt64SS_l0]
  · have h2 : a ≠ b := fun e => hl (by rw [e])
    have h3 : ¬ (a.length : Int) = b.length := by omega
    simp [h3, h2]
theorem eqComplex_ok {k : Nat} (hk : KK ≤ k) {a b : List (List Int)} (h : sz_Complex a ≤ 10000000000) : laws_eqComplex k a b = some (decide (a = b)) := by
  have c0 : (sz_Int64SS a) ≤ 10000000000 := by unfold sz_Complex at h; omega
  unfold laws_eqComplex
  simp only [eqInt64SS_ok hk c0, Option.bind_some, Prod.mk.injEq]
  by_cases x0 : a = b
  case neg => simp [x0]
  subst x0
  simp
theorem eqMatrix_ok {k : Nat} (hk : KK ≤ k) {a b : Int × Int × Int × List Int} (h : sz_Matrix a ≤ 10000000000) : laws_eqMatrix k a b = some (decide (a = b)) := by
  obtain ⟨a0, a1, a2, a3⟩ := a
  obtain ⟨b0, b1, b2, b3⟩ := b
  have c3 : (sz_Int64S a3) ≤ 10000000000 := by unfold sz_Matrix at h; simp only at h; omega
  unfold laws_eqMatrix
  simp only [eqInt64S_ok hk c3, Option.bind_some, Prod.mk.injEq]
  by_cases x0 : a0 = b0
  case neg => simp [x0]
  subst x0
  by_cases x1 : a1 = b1
  case neg => simp [x1]
  subst x1
  by_cases x2 : a2 = b2
  case neg => simp [x2]
  subst x2
  by_cases x3 : a3 = b3
  case neg => simp [x3]
  subst x3
  simp
theorem eqMatrixS_ok {k : Nat} (hk : KK ≤ k) {a b : List (Int × Int × Int × List Int)} (h : sz_MatrixS a ≤ 10000000000) : laws_eqMatrixS k a b = some (decide (a = b)) := by
  have hle : a.length ≤ 10000000000 := Nat.le_trans (show a.length ≤ sz_MatrixS a by unfold sz_MatrixS; omega) h
  unfold laws_eqMatrixS
  by_cases hl : a.length = b.length
  · rw [if_neg (by simp [hl])]
    refine loop_eq (L := fun n i => laws_eqMatrixS_l0 k n a b i (some true)) a b hl ?_ ?_ (n := k) (by have := KK_def; omega)
    · intro n i x y hx hy hlt
      have hw := w_succ (i := i) (by omega)
      have hm := sumL_mem sz_Matrix (List.mem_of_getElem? hx)
      have hb : sz_Matrix x ≤ 10000000000 := by unfold sz_MatrixS at h; omega
      simp only [laws_eqMatrixS_l0, hlt, decide_true, if_true, Int.natCast_nonneg, Int.toNat_natCast, hx, hy, Option.bind_some, hw, eqMatrix_ok hk hb]
      by_cases e : x = y
      · rw [decide_eq_true e, if_pos e]; simp
      · rw [decide_eq_false e, if_neg e]; simp
    · intro n
      simp [laws_eqMatrixS_l0]
  · have h2 : a ≠ b := fun e => hl (by rw [e])
    have h3 : ¬ (a.length : Int) = b.length := by omega
    simp [h3, h2]
theorem eqSheaf_ok {k : Nat} (hk : KK ≤ k) {a b : List (List Int) × Int × List Int × (List (Int × Int × Int × List Int))} (h : sz_Sheaf a ≤ 10000000000) : laws_eqSheaf k a b = some (decide (a = b)) := by
  obtain ⟨a0, a1, a2, a3⟩ := a
  obtain ⟨b0, b1, b2, b3⟩ := b
  have c0 : (sz_Complex a0) ≤ 10000000000 := by unfold sz_Sheaf at h; simp only at h; omega
  have c2 : (sz_Int64S a2) ≤ 10000000000 := by unfold sz_Sheaf at h; simp only at h; omega
  have c3 : (sz_MatrixS a3) ≤ 10000000000 := by unfold sz_Sheaf at h; simp only at h; omega
  unfold laws_eqSheaf
  simp only [eqComplex_ok hk c0, eqInt64S_ok hk c2, eqMatrixS_ok hk c3, Option.bind_some, Prod.mk.injEq]
  by_cases x0 : a0 = b0
  case neg => simp [x0]
  subst x0
  by_cases x1 : a1 = b1
  case neg => simp [x1]
  subst x1
  by_cases x2 : a2 = b2
  case neg => simp [x2]
  subst x2
  by_cases x3 : a3 = b3
  case neg => simp [x3]
  subst x3
  simp
theorem eqEdge_ok {a b : Int × Int × Int}  : laws_eqEdge a b = some (decide (a = b)) := by
  obtain ⟨a0, a1, a2⟩ := a
  obtain ⟨b0, b1, b2⟩ := b
  unfold laws_eqEdge
  simp only [Prod.mk.injEq]
  by_cases x0 : a0 = b0
  case neg => simp [x0]
  subst x0
  by_cases x1 : a1 = b1
  case neg => simp [x1]
  subst x1
  by_cases x2 : a2 = b2
  case neg => simp [x2]
  subst x2
  simp
theorem eqEdgeS_ok {k : Nat} (hk : KK ≤ k) {a b : List (Int × Int × Int)} (h : sz_EdgeS a ≤ 10000000000) : laws_eqEdgeS k a b = some (decide (a = b)) := by
  have hle : a.length ≤ 10000000000 := Nat.le_trans (show a.length ≤ sz_EdgeS a by unfold sz_EdgeS; omega) h
  unfold laws_eqEdgeS
  by_cases hl : a.length = b.length
  · rw [if_neg (by simp [hl])]
    refine loop_eq (L := fun n i => laws_eqEdgeS_l0 k n a b i (some true)) a b hl ?_ ?_ (n := k) (by have := KK_def; omega)
    · intro n i x y hx hy hlt
      have hw := w_succ (i := i) (by omega)
      simp only [laws_eqEdgeS_l0, hlt, decide_true, if_true, Int.natCast_nonneg, Int.toNat_natCast, hx, hy, Option.bind_some, hw, eqEdge_ok]
      by_cases e : x = y
      · rw [decide_eq_true e, if_pos e]; simp
      · rw [decide_eq_false e, if_neg e]; simp
    · intro n
      simp [laws_eqEdgeS_l0]
  · have h2 : a ≠ b := fun e => hl (by rw [e])
    have h3 : ¬ (a.length : Int) = b.length := by omega
    simp [h3, h2]
theorem eqGraph_ok {k : Nat} (hk : KK ≤ k) {a b : Int × (List (Int × Int × Int))} (h : sz_Graph a ≤ 10000000000) : laws_eqGraph k a b = some (decide (a = b)) := by
  obtain ⟨a0, a1⟩ := a
  obtain ⟨b0, b1⟩ := b
  have c1 : (sz_EdgeS a1) ≤ 10000000000 := by unfold sz_Graph at h; simp only at h; omega
  unfold laws_eqGraph
  simp only [eqEdgeS_ok hk c1, Option.bind_some, Prod.mk.injEq]
  by_cases x0 : a0 = b0
  case neg => simp [x0]
  subst x0
  by_cases x1 : a1 = b1
  case neg => simp [x1]
  subst x1
  simp
theorem eqTable_ok {k : Nat} (hk : KK ≤ k) {a b : List Int × List (List Int)} (h : sz_Table a ≤ 10000000000) : laws_eqTable k a b = some (decide (a = b)) := by
  obtain ⟨a0, a1⟩ := a
  obtain ⟨b0, b1⟩ := b
  have c0 : (sz_Int64S a0) ≤ 10000000000 := by unfold sz_Table at h; simp only at h; omega
  have c1 : (sz_Int64SS a1) ≤ 10000000000 := by unfold sz_Table at h; simp only at h; omega
  unfold laws_eqTable
  simp only [eqInt64S_ok hk c0, eqInt64SS_ok hk c1, Option.bind_some, Prod.mk.injEq]
  by_cases x0 : a0 = b0
  case neg => simp [x0]
  subst x0
  by_cases x1 : a1 = b1
  case neg => simp [x1]
  subst x1
  simp
theorem eqTableS_ok {k : Nat} (hk : KK ≤ k) {a b : List (List Int × List (List Int))} (h : sz_TableS a ≤ 10000000000) : laws_eqTableS k a b = some (decide (a = b)) := by
  have hle : a.length ≤ 10000000000 := Nat.le_trans (show a.length ≤ sz_TableS a by unfold sz_TableS; omega) h
  unfold laws_eqTableS
  by_cases hl : a.length = b.length
  · rw [if_neg (by simp [hl])]
    refine loop_eq (L := fun n i => laws_eqTableS_l0 k n a b i (some true)) a b hl ?_ ?_ (n := k) (by have := KK_def; omega)
    · intro n i x y hx hy hlt
      have hw := w_succ (i := i) (by omega)
      have hm := sumL_mem sz_Table (List.mem_of_getElem? hx)
      have hb : sz_Table x ≤ 10000000000 := by unfold sz_TableS at h; omega
      simp only [laws_eqTableS_l0, hlt, decide_true, if_true, Int.natCast_nonneg, Int.toNat_natCast, hx, hy, Option.bind_some, hw, eqTable_ok hk hb]
      by_cases e : x = y
      · rw [decide_eq_true e, if_pos e]; simp
      · rw [decide_eq_false e, if_neg e]; simp
    · intro n
      simp [laws_eqTableS_l0]
  · have h2 : a ≠ b := fun e => hl (by rw [e])
    have h3 : ¬ (a.length : Int) = b.length := by omega
    simp [h3, h2]
theorem eqFiltration_ok {k : Nat} (hk : KK ≤ k) {a b : List (List Int) × List Int} (h : sz_Filtration a ≤ 10000000000) : laws_eqFiltration k a b = some (decide (a = b)) := by
  obtain ⟨a0, a1⟩ := a
  obtain ⟨b0, b1⟩ := b
  have c0 : (sz_Complex a0) ≤ 10000000000 := by unfold sz_Filtration at h; simp only at h; omega
  have c1 : (sz_Int64S a1) ≤ 10000000000 := by unfold sz_Filtration at h; simp only at h; omega
  unfold laws_eqFiltration
  simp only [eqComplex_ok hk c0, eqInt64S_ok hk c1, Option.bind_some, Prod.mk.injEq]
  by_cases x0 : a0 = b0
  case neg => simp [x0]
  subst x0
  by_cases x1 : a1 = b1
  case neg => simp [x1]
  subst x1
  simp
theorem eqStringS_ok {k : Nat} (hk : KK ≤ k) {a b : List (List UInt8)} (h : sz_StringS a ≤ 10000000000) : laws_eqStringS k a b = some (decide (a = b)) := by
  have hle : a.length ≤ 10000000000 := Nat.le_trans (show a.length ≤ sz_StringS a by unfold sz_StringS; omega) h
  unfold laws_eqStringS
  by_cases hl : a.length = b.length
  · rw [if_neg (by simp [hl])]
    refine loop_eq (L := fun n i => laws_eqStringS_l0 k n a b i (some true)) a b hl ?_ ?_ (n := k) (by have := KK_def; omega)
    · intro n i x y hx hy hlt
      have hw := w_succ (i := i) (by omega)
      by_cases e : x = y <;> simp [laws_eqStringS_l0, hlt, hx, hy, hw, e]
    · intro n
      simp [laws_eqStringS_l0]
  · have h2 : a ≠ b := fun e => hl (by rw [e])
    have h3 : ¬ (a.length : Int) = b.length := by omega
    simp [h3, h2]
theorem eqItem_ok {k : Nat} (hk : KK ≤ k) {a b : List UInt8 × List (List UInt8) × Int × Int} (h : sz_Item a ≤ 10000000000) : laws_eqItem k a b = some (decide (a = b)) := by
  obtain ⟨a0, a1, a2, a3⟩ := a
  obtain ⟨b0, b1, b2, b3⟩ := b
  have c1 : (sz_StringS a1) ≤ 10000000000 := by unfold sz_Item at h; simp only at h; omega
  unfold laws_eqItem
  simp only [eqStringS_ok hk c1, Option.bind_some, Prod.mk.injEq]
  by_cases x0 : a0 = b0
  case neg => simp [x0]
  subst x0
  by_cases x1 : a1 = b1
  case neg => simp [x1]
  subst x1
  by_cases x2 : a2 = b2
  case neg => simp [x2]
  subst x2
  by_cases x3 : a3 = b3
  case neg => simp [x3]
  subst x3
  simp
theorem eqItemS_ok {k : Nat} (hk : KK ≤ k) {a b : List (List UInt8 × List (List UInt8) × Int × Int)} (h : sz_ItemS a ≤ 10000000000) : laws_eqItemS k a b = some (decide (a = b)) := by
  have hle : a.length ≤ 10000000000 := Nat.le_trans (show a.length ≤ sz_ItemS a by unfold sz_ItemS; omega) h
  unfold laws_eqItemS
  by_cases hl : a.length = b.length
  · rw [if_neg (by simp [hl])]
    refine loop_eq (L := fun n i => laws_eqItemS_l0 k n a b i (some true)) a b hl ?_ ?_ (n := k) (by have := KK_def; omega)
    · intro n i x y hx hy hlt
      have hw := w_succ (i := i) (by omega)
      have hm := sumL_mem sz_Item (List.mem_of_getElem? hx)
      have hb : sz_Item x ≤ 10000000000 := by unfold sz_ItemS at h; omega
      simp only [laws_eqItemS_l0, hlt, decide_true, if_true, Int.natCast_nonneg, Int.toNat_natCast, hx, hy, Option.bind_some, hw, eqItem_ok hk hb]
      by_cases e : x = y
      · rw [decide_eq_true e, if_pos e]; simp
      · rw [decide_eq_false e, if_neg e]; simp
    · intro n
      simp [laws_eqItemS_l0]
  · have h2 : a ≠ b := fun e => hl (by rw [e])
    have h3 : ¬ (a.length : Int) = b.length := by omega
    simp [h3, h2]
theorem eqDesk_ok {k : Nat} (hk : KK ≤ k) {a b : (List (List Int) × Int × List Int × (List (Int × Int × Int × List Int))) × List Int × (Int × (List (Int × Int × Int))) × List Int × (Int × Int × Int × List Int) × (List (List Int × List (List Int))) × (List (List Int) × List Int) × (List (List UInt8 × List (List UInt8) × Int × Int))} (h : sz_Desk a ≤ 10000000000) : laws_eqDesk k a b = some (decide (a = b)) := by
  obtain ⟨a0, a1, a2, a3, a4, a5, a6, a7⟩ := a
  obtain ⟨b0, b1, b2, b3, b4, b5, b6, b7⟩ := b
  have c0 : (sz_Sheaf a0) ≤ 10000000000 := by unfold sz_Desk at h; simp only at h; omega
  have c1 : (sz_Int64S a1) ≤ 10000000000 := by unfold sz_Desk at h; simp only at h; omega
  have c2 : (sz_Graph a2) ≤ 10000000000 := by unfold sz_Desk at h; simp only at h; omega
  have c3 : (sz_Int64S a3) ≤ 10000000000 := by unfold sz_Desk at h; simp only at h; omega
  have c4 : (sz_Matrix a4) ≤ 10000000000 := by unfold sz_Desk at h; simp only at h; omega
  have c5 : (sz_TableS a5) ≤ 10000000000 := by unfold sz_Desk at h; simp only at h; omega
  have c6 : (sz_Filtration a6) ≤ 10000000000 := by unfold sz_Desk at h; simp only at h; omega
  have c7 : (sz_ItemS a7) ≤ 10000000000 := by unfold sz_Desk at h; simp only at h; omega
  unfold laws_eqDesk
  simp only [eqSheaf_ok hk c0, eqInt64S_ok hk c1, eqGraph_ok hk c2, eqInt64S_ok hk c3, eqMatrix_ok hk c4, eqTableS_ok hk c5, eqFiltration_ok hk c6, eqItemS_ok hk c7, Option.bind_some, Prod.mk.injEq]
  by_cases x0 : a0 = b0
  case neg => simp [x0]
  subst x0
  by_cases x1 : a1 = b1
  case neg => simp [x1]
  subst x1
  by_cases x2 : a2 = b2
  case neg => simp [x2]
  subst x2
  by_cases x3 : a3 = b3
  case neg => simp [x3]
  subst x3
  by_cases x4 : a4 = b4
  case neg => simp [x4]
  subst x4
  by_cases x5 : a5 = b5
  case neg => simp [x5]
  subst x5
  by_cases x6 : a6 = b6
  case neg => simp [x6]
  subst x6
  by_cases x7 : a7 = b7
  case neg => simp [x7]
  subst x7
  simp
theorem eta_Desk (x : (List (List Int) × Int × List Int × (List (Int × Int × Int × List Int))) × List Int × (Int × (List (Int × Int × Int))) × List Int × (Int × Int × Int × List Int) × (List (List Int × List (List Int))) × (List (List Int) × List Int) × (List (List UInt8 × List (List UInt8) × Int × Int))) : ((x.1.1, (x.1.2.1, (x.1.2.2.1, x.1.2.2.2))), (x.2.1, ((x.2.2.1.1, x.2.2.1.2), (x.2.2.2.1, ((x.2.2.2.2.1.1, (x.2.2.2.2.1.2.1, (x.2.2.2.2.1.2.2.1, x.2.2.2.2.1.2.2.2))), (x.2.2.2.2.2.1, ((x.2.2.2.2.2.2.1.1, x.2.2.2.2.2.2.1.2), x.2.2.2.2.2.2.2))))))) = x := rfl
theorem pure_FnExactValidDesk {e0 e1 e2 e3 e4 e5 e6 e7 e8 e9 e10 e11 e12 e13 e14 e15 e16 e17 : TypeId} (a0 : DskT) (f0 : InR (.st (.pr (.st (.pr (.st (.sl e0 (.sl e1 (.int .i64)))) (.pr (.int .i64) (.pr (.sl e2 (.int .i64)) (.sl e3 (.st (.pr (.int .i64) (.pr (.int .i64) (.pr (.int .i64) (.sl e4 (.int .i64))))))))))) (.pr (.sl e5 (.int .i64)) (.pr (.st (.pr (.int .i64) (.sl e6 (.st (.pr (.int .i64) (.pr (.int .i64) (.int .i64))))))) (.pr (.sl e7 (.int .i64)) (.pr (.st (.pr (.int .i64) (.pr (.int .i64) (.pr (.int .i64) (.sl e8 (.int .i64)))))) (.pr (.sl e9 (.st (.pr (.sl e10 (.int .i64)) (.sl e11 (.sl e12 (.int .i64)))))) (.pr (.st (.pr (.st (.sl e13 (.sl e14 (.int .i64)))) (.sl e15 (.int .i64)))) (.sl e16 (.st (.pr .str (.pr (.sl e17 .str) (.pr (.int .i64) (.int .i64)))))))))))))) a0) : ∃ k : Nat, laws_FnExactValidDesk k a0 = some true := by
  have hk := Nat.le_refl KK
  refine ⟨KK, ?_⟩
  have q0 := szDesk_ok hk (a := a0) (left := 1048576) (by omega) (by omega) f0
  unfold laws_FnExactValidDesk
  rw [q0]
  by_cases c0 : (sz_Desk a0 : Int) ≤ 1048576
  case neg => rw [if_neg c0]; simp only [Option.bind_some]; rw [decide_eq_true (by omega), if_pos rfl]
  rw [if_pos c0]; simp only [Option.bind_some]
  rw [decide_eq_false (by omega), if_neg (by simp)]
  have b0 : sz_Desk a0 ≤ 10000000000 := by omega
  have hs := deskSmall (d := a0) (by omega)
  have h1 : spec_ValidDesk KK a0 = some (deskB KK a0) := by unfold spec_ValidDesk; rw [specDesk_ok hk hs]; rfl
  simp only [toDesk_ok hk b0, Option.bind_some, eta_Desk, h1, implDesk_ok hk hs, eqDesk_ok hk b0, beq_self_eq_true, decide_true, Bool.not_true, Bool.false_eq_true, if_false]
end Go.Proofs.YtmmkijdfiaaobaaGreat.Ev
