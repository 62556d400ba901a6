/- Plain laws of the printed functions. No conditions but those in each statement. -/
import Derived.Test.YtankbidchgcapaaGreatEv5
import Derived.Test.YtankbidchgcapaaGreatG7
set_option linter.unusedVariables false
set_option linter.unusedSimpArgs false
namespace Go.Proofs.YtankbidchgcapaaGreat.Ev
open Go.RowKit
theorem within_ok (n a b : Int) : impl_within n a b = some (decide (a ≤ n ∧ n ≤ b)) := by
  unfold impl_within
  by_cases h : a ≤ n <;> simp [h]
theorem l00In_ok (n a b : Int) : spec_l00In n a b = some (decide (a ≤ n ∧ n ≤ b)) := by
  unfold spec_l00In
  by_cases h : a ≤ n <;> simp [h]
theorem idxP_nonneg {α : Type} (p : α → Bool) (xs : List α) : decide (0 ≤ idxP p xs) = xs.any p := by
  unfold idxP
  cases h : xs.findIdx? p with
  | some i =>
    obtain ⟨hlt, hp, _⟩ := List.findIdx?_eq_some_iff_getElem.1 h
    have : xs.any p = true := List.any_eq_true.2 ⟨_, List.getElem_mem hlt, hp⟩
    rw [this]; simp
  | none =>
    rw [List.findIdx?_eq_none_iff] at h
    have : xs.any p = false := List.any_eq_false.2 fun x hx => by rw [h x hx]; simp
    rw [this]; simp
theorem adj_pairwise {α : Type} {R : α → α → Prop} (tr : ∀ a b c, R a b → R b c → R a c) : ∀ {l : List α}, (∀ (i : Nat) (a b : α), l[i]? = some a → l[i + 1]? = some b → R a b) → l.Pairwise R
  | [], _ => List.Pairwise.nil
  | [a], _ => List.pairwise_singleton ..
  | a :: b :: l, h => by
    have h0 := h 0 a b rfl rfl
    have ih := adj_pairwise tr (l := b :: l) (fun i x y hx hy => h (i + 1) x y hx hy)
    refine List.Pairwise.cons (fun x hx => ?_) ih
    rcases List.mem_cons.1 hx with rfl | hx
    · exact h0
    · exact tr _ _ _ h0 ((List.pairwise_cons.1 ih).1 x hx)
theorem pairwise_adj {α : Type} {R : α → α → Prop} {l : List α} (h : l.Pairwise R) {i : Nat} {a b : α} (ha : l[i]? = some a) (hb : l[i + 1]? = some b) : R a b := by
  obtain ⟨h1, rfl⟩ := List.getElem?_eq_some_iff.1 ha
  obtain ⟨h2, rfl⟩ := List.getElem?_eq_some_iff.1 hb
  exact List.pairwise_iff_getElem.1 h i (i + 1) h1 h2 (by omega)
/-- Ahead of a place: what is told of neighbours, as the loops tell it. -/
def prevP {α : Type} (R : α → α → Prop) (l : List α) (i : Nat) (x : α) : Prop := 0 < i → ∀ t, l[i - 1]? = some t → R t x
theorem prevP_pairwise {α : Type} {R : α → α → Prop} (tr : ∀ a b c, R a b → R b c → R a c) {l : List α} {m : Nat} (h : ∀ j, j < m → ∀ x, l[j]? = some x → prevP R l j x) : (l.take m).Pairwise R := by
  refine adj_pairwise tr fun i a b ha hb => ?_
  have hi : i + 1 < m := by
    have := (List.getElem?_eq_some_iff.1 hb).1
    rw [List.length_take] at this; omega
  rw [List.getElem?_take_of_lt (by omega)] at ha
  rw [List.getElem?_take_of_lt hi] at hb
  exact h (i + 1) hi b hb (by omega) a (by simpa using ha)
theorem pairwise_prevP {α : Type} {R : α → α → Prop} {l : List α} (h : l.Pairwise R) {i : Nat} {x : α} (hx : l[i]? = some x) : prevP R l i x := fun h0 t ht => by
  have e : i = (i - 1) + 1 := by omega
  rw [e] at hx
  exact pairwise_adj h ht hx
/-- Rounds by number, with a condition that held before. -/
theorem loop_allN' {R : Type} {L : Nat → Int → R} {b : Nat} {p : Nat → Bool} {r e : R}
    (h1 : ∀ n (i : Nat), i < b → (∀ j, j < i → p j = true) → L (n + 1) (i : Int) = if p i = true then L n ((i + 1 : Nat) : Int) else r) (h2 : ∀ n, L (n + 1) (b : Int) = e) {n : Nat} (hn : b < n) : L n 0 = if (List.range b).all p = true then e else r := by
  refine loop_list (α := Nat) (A := Unit) (L := fun n i _ => L n i) (I := fun pre _ => ∀ j ∈ pre, p j = true) (G := fun l _ => if l.all p = true then e else r) (List.range b) ?_ ?_ n (by simpa using hn) () (by simp)
  · intro n pre x post _ hx hI ih hg hlt
    rw [List.length_range] at hlt
    have hxi : x = pre.length := by
      rw [List.getElem?_range (by omega)] at hg
      simpa using hg.symm
    subst hxi
    have hpre : pre = List.range pre.length := by
      have := congrArg (List.take pre.length) hx
      rw [List.take_left, List.take_range] at this
      rw [Nat.min_eq_left (by omega)] at this
      exact this.symm
    rw [h1 n pre.length (by omega) (fun j hj => hI j (by rw [hpre]; simpa using hj))]
    by_cases hp : p pre.length = true
    · rw [if_pos hp, ih () (fun j hj => by
        rcases List.mem_append.1 hj with hj | hj
        · exact hI j hj
        · rw [List.mem_singleton.1 hj]; exact hp)]
      simp [hp]
    · rw [if_neg hp]; simp [hp]
  · intro n _ _
    simpa using h2 n
structure SimpP (s : List Int) : Prop where
  len1 : 1 ≤ s.length
  len4 : s.length ≤ 4
  vert : ∀ x ∈ s, 0 ≤ x ∧ x ≤ 9
  rise : s.Pairwise (fun a b : Int => a < b)
open Classical in
noncomputable def simpB (s : List Int) : Bool := decide (SimpP s)
theorem simpB_iff {s : List Int} : simpB s = true ↔ SimpP s := by unfold simpB; simp
theorem prevI {s : List Int} {i : Nat} {x : Int} (h0 : 0 < i) (hx : s[i]? = some x) : ∃ t, s[i - 1]? = some t := ⟨_, List.getElem?_eq_getElem (show i - 1 < s.length by have := (List.getElem?_eq_some_iff.1 hx).1; omega)⟩
open Classical in
/-- Numbers that rise within bounds, as the loop tells it. -/
theorem l00Rises_ok {k : Nat} (hk : KK ≤ k) {s : List Int} (hs : s.length ≤ 1000000000) (lo up : Int) : spec_l00Rises k s lo up = some (decide ((∀ x ∈ s, lo ≤ x ∧ x ≤ up) ∧ s.Pairwise (fun a b : Int => a < b))) := by
  have hK := KK_def
  unfold spec_l00Rises
  have := loop_allN (L := fun n i => spec_l00Rises_l0 k n s lo up i (some true)) (b := s.length) (p := fun i => decide (∀ x, s[i]? = some x → (lo ≤ x ∧ x ≤ up) ∧ prevP (fun a b : Int => a < b) s i x)) (r := some false) (e := some true) ?_ ?_ (n := k) (by omega)
  · rw [this]
    have e : ((List.range s.length).all (fun i => decide (∀ x, s[i]? = some x → (lo ≤ x ∧ x ≤ up) ∧ prevP (fun a b : Int => a < b) s i x)) = true) ↔ ((∀ x ∈ s, lo ≤ x ∧ x ≤ up) ∧ s.Pairwise (fun a b : Int => a < b)) := by
      simp only [List.all_eq_true, List.mem_range, decide_eq_true_eq]
      constructor
      · intro h
        refine ⟨fun x hx => ?_, ?_⟩
        · obtain ⟨i, hi, rfl⟩ := List.getElem_of_mem hx
          exact (h i hi _ (List.getElem?_eq_getElem hi)).1
        · have := prevP_pairwise (R := fun a b : Int => a < b) (fun a b c => Int.lt_trans) (l := s) (m := s.length) (fun j hj x hx => (h j hj x hx).2)
          rwa [List.take_length] at this
      · rintro ⟨h1, h2⟩ i hi x hx
        exact ⟨h1 x (List.mem_of_getElem? hx), pairwise_prevP h2 hx⟩
    by_cases c : ((∀ x ∈ s, lo ≤ x ∧ x ≤ up) ∧ s.Pairwise (fun a b : Int => a < b))
    · rw [if_pos (e.2 c), decide_eq_true c]
    · rw [if_neg (fun h => c (e.1 h)), decide_eq_false c]
  · intro n i hi
    have hlt : (i : Int) < (s.length : Int) := by omega
    have hw := w_succ (i := i) (by omega)
    have hg : s[i]? = some s[i] := List.getElem?_eq_getElem hi
    simp only [spec_l00Rises_l0, hlt, decide_true, if_true, Int.natCast_nonneg, Int.toNat_natCast, hg, Option.bind_some, hw, l00In_ok, Option.some.injEq, forall_eq']
    by_cases c1 : lo ≤ s[i] ∧ s[i] ≤ up
    · rw [decide_eq_true c1]
      simp only [Bool.not_true, Bool.false_eq_true, if_false]
      by_cases h0 : 0 < i
      · have h0' : (0 : Int) < (i : Int) := by omega
        have hw1 : w_i64 ((i : Int) - 1) = ((i - 1 : Nat) : Int) := by rw [w_id (by omega) (by omega)]; omega
        have hg1 : s[i - 1]? = some s[i - 1] := List.getElem?_eq_getElem (by omega)
        simp only [h0', decide_true, if_true, hw1, Int.natCast_nonneg, Int.toNat_natCast, hg1, Option.bind_some]
        by_cases c2 : s[i - 1] < s[i]
        · have : prevP (fun a b : Int => a < b) s i s[i] := fun _ t ht => by rw [hg1] at ht; cases ht; exact c2
          rw [if_neg (by simp; omega), if_pos (decide_eq_true ⟨c1, this⟩)]
        · have : ¬ prevP (fun a b : Int => a < b) s i s[i] := fun h => c2 (h h0 _ hg1)
          rw [if_pos (decide_eq_true (by omega)), if_neg (fun h => this (of_decide_eq_true h).2)]
      · have h0' : ¬ (0 : Int) < (i : Int) := by omega
        have : prevP (fun a b : Int => a < b) s i s[i] := fun h => absurd h h0
        rw [decide_eq_false h0', if_neg (by simp), if_pos (decide_eq_true ⟨c1, this⟩)]
    · rw [decide_eq_false c1, if_pos (by simp), if_neg (fun h => c1 (of_decide_eq_true h).1)]
  · intro n
    simp only [spec_l00Rises_l0, Int.lt_irrefl, decide_false, Bool.false_eq_true, if_false]
open Classical in
theorem l05Simplex_ok {k : Nat} (hk : KK ≤ k) {s : List Int} (hs : s.length ≤ 1000000000) : spec_l05Simplex k s = some (simpB s) := by
  unfold spec_l05Simplex
  rw [l00In_ok]
  simp only [Option.bind_some, l00Rises_ok hk hs]
  by_cases c : (1 : Int) ≤ (s.length : Int) ∧ (s.length : Int) ≤ 4
  · rw [decide_eq_true c, if_pos rfl]
    congr 1
    unfold simpB
    refine decide_eq_decide.2 ⟨fun h => ⟨by omega, by omega, h.1, h.2⟩, fun h => ⟨h.vert, h.rise⟩⟩
  · rw [decide_eq_false c, if_neg (by simp)]
    congr 1
    unfold simpB
    rw [decide_eq_false (fun h : SimpP s => c ⟨by have := h.len1; omega, by have := h.len4; omega⟩)]
open Classical in
theorem isRising_ok {k : Nat} (hk : KK ≤ k) {s : List Int} (hs : s.length ≤ 1000000000) : impl_isRising k s = some (decide (s.Pairwise (fun a b : Int => a < b))) := by
  have hK := KK_def
  unfold impl_isRising
  have key : ∀ (d n i : Nat), s.length - i = d → d < n → 0 < i → (s.take i).Pairwise (fun a b : Int => a < b) → impl_isRising_l0 k n s (i : Int) (some true) = some (decide (s.Pairwise (fun a b : Int => a < b))) := by
    intro d
    induction d with
    | zero =>
      intro n i hd hn h0 hp
      obtain ⟨n, rfl⟩ : ∃ m, n = m + 1 := ⟨n - 1, by omega⟩
      have : ¬ (i : Int) < (s.length : Int) := by omega
      rw [List.take_of_length_le (by omega)] at hp
      simp only [impl_isRising_l0, this, decide_false, Bool.false_eq_true, if_false, decide_eq_true hp]
    | succ d ih =>
      intro n i hd hn h0 hp
      obtain ⟨n, rfl⟩ : ∃ m, n = m + 1 := ⟨n - 1, by omega⟩
      have hi : i < s.length := by omega
      have hlt : (i : Int) < (s.length : Int) := by omega
      have hw := w_succ (i := i) (by omega)
      have hw1 : w_i64 ((i : Int) - 1) = ((i - 1 : Nat) : Int) := by rw [w_id (by omega) (by omega)]; omega
      have hg : s[i]? = some s[i] := List.getElem?_eq_getElem hi
      have hg1 : s[i - 1]? = some s[i - 1] := List.getElem?_eq_getElem (by omega)
      simp only [impl_isRising_l0, hlt, decide_true, if_true, Int.natCast_nonneg, Int.toNat_natCast, hg, hg1, Option.bind_some, hw, hw1]
      by_cases c : s[i - 1] < s[i]
      · rw [decide_eq_false (show ¬ s[i] ≤ s[i - 1] by omega), if_neg (by simp)]
        refine ih n (i + 1) (by omega) (by omega) (by omega) ?_
        refine adj_pairwise (R := fun a b : Int => a < b) (fun a b c => Int.lt_trans) fun j a b ha hb => ?_
        have hj : j + 1 < i + 1 := by
          have := (List.getElem?_eq_some_iff.1 hb).1
          rw [List.length_take] at this; omega
        rw [List.getElem?_take_of_lt (by omega)] at ha
        rw [List.getElem?_take_of_lt hj] at hb
        by_cases hji : j + 1 = i
        · have e1 : a = s[i - 1] := by
            have : s[j]? = s[i - 1]? := by rw [show j = i - 1 by omega]
            rw [ha, hg1] at this
            exact Option.some.inj this
          have e2 : b = s[i] := by
            rw [hji, hg] at hb
            exact (Option.some.inj hb).symm
          rw [e1, e2]; exact c
        · exact pairwise_adj hp (i := j) (by rw [List.getElem?_take_of_lt (by omega)]; exact ha) (by rw [List.getElem?_take_of_lt (by omega)]; exact hb)
      · rw [decide_eq_true (show s[i] ≤ s[i - 1] by omega), if_pos rfl]
        congr 1
        refine (decide_eq_false fun h => c ?_).symm
        exact List.pairwise_iff_getElem.1 h (i - 1) i (by omega) hi (by omega)
  have h1 := key (s.length - 1) k 1 rfl (by omega) (by omega) (by cases s with
    | nil => simp
    | cons a l => simp)
  exact h1
theorem notVertex_ok {k : Nat} (hk : KK ≤ k) {s : List Int} (hs : s.length ≤ 1000000000) : slices_ContainsFunc_int64__impl_ValidSimplex_1 k s () = some (s.any fun x => !decide (0 ≤ x ∧ x ≤ 9)) := by
  have hK := KK_def
  unfold slices_ContainsFunc_int64__impl_ValidSimplex_1 slices_IndexFunc_int64__impl_ValidSimplex_1
  rw [loop_find (L := fun n i => slices_IndexFunc_int64__impl_ValidSimplex_1_l0 k n s () (s.length : Int) i (some (-1))) (p := fun x => !decide (0 ≤ x ∧ x ≤ 9)) s ?_ ?_ (n := k) (by omega)]
  · rw [Option.bind_some, idxP_nonneg]
  · intro n i x hi hlt
    have hw := w_succ (i := i) (by omega)
    simp only [slices_IndexFunc_int64__impl_ValidSimplex_1_l0, impl_ValidSimplex_1, impl_isVertex, within_ok, hlt, decide_true, if_true, Int.natCast_nonneg, Int.toNat_natCast, hi, Option.bind_some, hw]
  · intro n
    simp [slices_IndexFunc_int64__impl_ValidSimplex_1_l0]
theorem validSimplex_ok {k : Nat} (hk : KK ≤ k) {s : List Int} (hs : s.length ≤ 1000000000) : impl_ValidSimplex k s = some (simpB s) := by
  unfold impl_ValidSimplex
  by_cases c1 : 1 ≤ s.length
  · rw [decide_eq_true (show (1 : Int) ≤ (s.length : Int) by omega), if_pos rfl]
    by_cases c2 : s.length ≤ 4
    · rw [decide_eq_true (show (s.length : Int) ≤ 4 by omega), if_pos rfl, isRising_ok hk hs, notVertex_ok hk hs]
      simp only [Option.bind_some]
      by_cases c3 : s.Pairwise (fun a b : Int => a < b)
      · rw [decide_eq_true c3, if_pos rfl]
        congr 1
        rw [Bool.eq_iff_iff, simpB_iff]
        simp only [Bool.not_eq_true', List.any_eq_false, Bool.not_eq_true, decide_eq_false_iff_not, Bool.not_eq_false', decide_eq_true_eq]
        exact ⟨fun h => ⟨c1, c2, fun x hx => by simpa using h x hx, c3⟩, fun h x hx => by simpa using h.vert x hx⟩
      · rw [decide_eq_false c3, if_neg (by simp)]
        congr 1
        symm
        rw [Bool.eq_false_iff, ne_eq, simpB_iff]
        exact fun h => c3 h.rise
    · rw [decide_eq_false (show ¬ (s.length : Int) ≤ 4 by omega), if_neg (by simp)]
      congr 1
      symm
      rw [Bool.eq_false_iff, ne_eq, simpB_iff]
      exact fun h => c2 h.len4
  · rw [decide_eq_false (show ¬ (1 : Int) ≤ (s.length : Int) by omega), if_neg (by simp)]
    congr 1
    symm
    rw [Bool.eq_false_iff, ne_eq, simpB_iff]
    exact fun h => c1 h.len1
def cI (x y : Int) : Int := if x < y then -1 else if y < x then 1 else 0
theorem compareInt_ok (x y : Int) : cmp_Compare_int64 x y = some (cI x y) := by
  unfold cmp_Compare_int64 cmp_isNaN_int64 cI
  by_cases h1 : x < y
  · simp [h1]
  · by_cases h2 : y < x <;> simp [h1, h2]
theorem compareInt'_ok (x y : Int) : cmp_Compare_int x y = some (cI x y) := by
  unfold cmp_Compare_int cmp_isNaN_int cI
  by_cases h1 : x < y
  · simp [h1]
  · by_cases h2 : y < x <;> simp [h1, h2]
theorem cmpOr2_ok {k : Nat} (hk : KK ≤ k) (a b : Int) : cmp_Or_int k [a, b] = some (if a = 0 then b else a) := by
  have hK := KK_def
  obtain ⟨m, rfl⟩ : ∃ m, k = m + 3 := ⟨k - 3, by omega⟩
  generalize hf : m + 3 = k
  have hw0 : w_i64 1 = 1 := w_id (by omega) (by omega)
  have hw1 : w_i64 2 = 2 := w_id (by omega) (by omega)
  show cmp_Or_int_l0 k k 0 [a, b] 2 0 (fun zero_2 => some zero_2) = _
  conv => lhs; arg 2; rw [← hf]
  by_cases h : a = 0
  · by_cases h' : b = 0
    · subst h; subst h'; simp [cmp_Or_int_l0, hw0, hw1]
    · subst h; simp [cmp_Or_int_l0, hw0, hw1, h']
  · simp [cmp_Or_int_l0, h]
theorem bl_irrefl : ∀ x : List UInt8, Op.bytesLess x x = false
  | [] => rfl
  | a :: x => by simp [Op.bytesLess, bl_irrefl x]
theorem bl_trans : ∀ x y z : List UInt8, Op.bytesLess x y = true → Op.bytesLess y z = true → Op.bytesLess x z = true
  | _, [], _, h, _ => by simp [Op.bytesLess] at h
  | _, _ :: _, [], _, h => by simp [Op.bytesLess] at h
  | [], _ :: _, _ :: _, _, _ => rfl
  | a :: x, b :: y, c :: z, h1, h2 => by
    simp only [Op.bytesLess, Bool.or_eq_true, Bool.and_eq_true, decide_eq_true_eq, beq_iff_eq] at h1 h2 ⊢
    rcases h1 with h1 | ⟨rfl, h1⟩
    · rcases h2 with h2 | ⟨rfl, h2⟩
      · exact .inl (UInt8.lt_trans h1 h2)
      · exact .inl h1
    · rcases h2 with h2 | ⟨rfl, h2⟩
      · exact .inl h2
      · exact .inr ⟨rfl, bl_trans x y z h1 h2⟩
theorem bl_total : ∀ x y : List UInt8, Op.bytesLess x y = false → x ≠ y → Op.bytesLess y x = true
  | [], [], _, h => absurd rfl h
  | _ :: _, [], _, _ => rfl
  | [], _ :: _, h, _ => by simp [Op.bytesLess] at h
  | a :: x, b :: y, h1, h2 => by
    simp only [Op.bytesLess, Bool.or_eq_false_iff, decide_eq_false_iff_not, Bool.and_eq_false_iff, beq_eq_false_iff_ne] at h1
    simp only [Op.bytesLess, Bool.or_eq_true, Bool.and_eq_true, decide_eq_true_eq, beq_iff_eq]
    by_cases h : a = b
    · subst h
      refine .inr ⟨rfl, bl_total x y (h1.2.resolve_left (fun h => h rfl)) (fun e => h2 (by rw [e]))⟩
    · exact .inl (UInt8.lt_of_le_of_ne (UInt8.not_lt.1 h1.1) (Ne.symm h))
theorem bl_asymm {x y : List UInt8} (h : Op.bytesLess x y = true) : Op.bytesLess y x = false := by
  cases h' : Op.bytesLess y x
  · rfl
  · have := bl_trans x y x h h'
    rw [bl_irrefl] at this; cases this
def cmpS (x y : List UInt8) : Int := if Op.bytesLess x y = true then -1 else if x = y then 0 else 1
/-- Simplices in order: by their lengths, then as lists. -/
def lexB : List Int → List Int → Bool
  | x :: a, y :: b => if x = y then lexB a b else decide (x < y)
  | _, _ => false
def befS (a b : List Int) : Bool := decide (a.length < b.length) || (decide (a.length = b.length) && lexB a b)
theorem lexB_irrefl : ∀ a : List Int, lexB a a = false
  | [] => rfl
  | x :: a => by simp [lexB, lexB_irrefl a]
theorem lexB_trans : ∀ a b c : List Int, a.length = b.length → b.length = c.length → lexB a b = true → lexB b c = true → lexB a c = true
  | [], _, _, _, _, h, _ => by simp [lexB] at h
  | _ :: _, [], _, _, _, h, _ => by simp [lexB] at h
  | _ :: _, _ :: _, [], _, _, _, h => by simp [lexB] at h
  | x :: a, y :: b, z :: c, h1, h2, h3, h4 => by
    simp only [lexB] at h3 h4 ⊢
    by_cases c1 : x = y
    · subst c1
      rw [if_pos rfl] at h3
      by_cases c2 : x = z
      · rw [if_pos c2] at h4 ⊢
        exact lexB_trans a b c (by simpa using h1) (by simpa using h2) h3 h4
      · rw [if_neg c2] at h4 ⊢; exact h4
    · rw [if_neg c1, decide_eq_true_eq] at h3
      by_cases c2 : y = z
      · subst c2; rw [if_neg c1, decide_eq_true_eq]; exact h3
      · rw [if_neg c2, decide_eq_true_eq] at h4
        rw [if_neg (by omega), decide_eq_true_eq]; omega
theorem lexB_total : ∀ a b : List Int, a.length = b.length → lexB a b = false → a ≠ b → lexB b a = true
  | [], [], _, _, h => absurd rfl h
  | _ :: _, [], h, _, _ => by simp at h
  | [], _ :: _, h, _, _ => by simp at h
  | x :: a, y :: b, h1, h2, h3 => by
    simp only [lexB] at h2 ⊢
    by_cases c : x = y
    · subst c
      rw [if_pos rfl] at h2 ⊢
      exact lexB_total a b (by simpa using h1) h2 (fun e => h3 (by rw [e]))
    · rw [if_neg c, decide_eq_false_iff_not] at h2
      rw [if_neg (Ne.symm c), decide_eq_true_eq]; omega
theorem befS_irrefl (a : List Int) : befS a a = false := by unfold befS; simp [lexB_irrefl]
theorem befS_trans {a b c : List Int} (h1 : befS a b = true) (h2 : befS b c = true) : befS a c = true := by
  unfold befS at *
  simp only [Bool.or_eq_true, Bool.and_eq_true, decide_eq_true_eq] at *
  rcases h1 with h1 | ⟨e1, h1⟩
  · rcases h2 with h2 | ⟨e2, h2⟩
    · left; omega
    · left; omega
  · rcases h2 with h2 | ⟨e2, h2⟩
    · left; omega
    · exact .inr ⟨by omega, lexB_trans a b c e1 e2 h1 h2⟩
theorem befS_total {a b : List Int} (h1 : befS a b = false) (h2 : a ≠ b) : befS b a = true := by
  unfold befS at *
  simp only [Bool.or_eq_false_iff, decide_eq_false_iff_not, Bool.and_eq_false_iff, Bool.or_eq_true, Bool.and_eq_true, decide_eq_true_eq] at *
  by_cases c : a.length = b.length
  · exact .inr ⟨c.symm, lexB_total a b c (h1.2.resolve_left (fun h => h c)) h2⟩
  · left; omega
theorem befS_asymm {a b : List Int} (h : befS a b = true) : befS b a = false := by
  cases h' : befS b a
  · rfl
  · have := befS_trans h h'
    rw [befS_irrefl] at this; cases this
def cmpL : List Int → List Int → Int
  | x :: a, y :: b => if cI x y = 0 then cmpL a b else cI x y
  | _ :: _, [] => 1
  | [], _ :: _ => -1
  | [], [] => 0
def cmpSx (a b : List Int) : Int := if cI (a.length : Int) (b.length : Int) = 0 then cmpL a b else cI (a.length : Int) (b.length : Int)
theorem cI_zero (x y : Int) : cI x y = 0 ↔ x = y := by
  unfold cI
  by_cases h1 : x < y
  · rw [if_pos h1]; constructor <;> intro h <;> omega
  · rw [if_neg h1]
    by_cases h2 : y < x
    · rw [if_pos h2]; constructor <;> intro h <;> omega
    · rw [if_neg h2]; constructor <;> intro h <;> omega
theorem cI_neg (x y : Int) : cI x y < 0 ↔ x < y := by
  unfold cI
  by_cases h1 : x < y
  · rw [if_pos h1]; constructor <;> intro h <;> omega
  · rw [if_neg h1]
    by_cases h2 : y < x
    · rw [if_pos h2]; constructor <;> intro h <;> omega
    · rw [if_neg h2]; constructor <;> intro h <;> omega
theorem cmpL_zero : ∀ a b : List Int, cmpL a b = 0 ↔ a = b
  | [], [] => by simp [cmpL]
  | _ :: _, [] => by simp [cmpL]
  | [], _ :: _ => by simp [cmpL]
  | x :: a, y :: b => by
    unfold cmpL
    by_cases c : cI x y = 0
    · rw [if_pos c, cmpL_zero a b, (cI_zero x y).1 c]; simp
    · rw [if_neg c]
      have : x ≠ y := fun e => c ((cI_zero x y).2 e)
      simp [c, this]
theorem cmpL_neg : ∀ a b : List Int, a.length = b.length → (cmpL a b < 0 ↔ lexB a b = true)
  | [], [], _ => by simp [cmpL, lexB]
  | _ :: _, [], h => by simp at h
  | [], _ :: _, h => by simp at h
  | x :: a, y :: b, h => by
    unfold cmpL lexB
    by_cases c : cI x y = 0
    · rw [if_pos c, if_pos ((cI_zero x y).1 c)]
      exact cmpL_neg a b (by simpa using h)
    · rw [if_neg c, if_neg (fun e => c ((cI_zero x y).2 e)), cI_neg, decide_eq_true_eq]
theorem cmpSx_zero (a b : List Int) : cmpSx a b = 0 ↔ a = b := by
  unfold cmpSx
  by_cases c : cI (a.length : Int) (b.length : Int) = 0
  · rw [if_pos c]; exact cmpL_zero a b
  · rw [if_neg c]
    exact ⟨fun h => absurd h c, fun h => by rw [h] at c; exact absurd ((cI_zero _ _).2 rfl) c⟩
theorem cmpSx_neg (a b : List Int) : decide (cmpSx a b < 0) = befS a b := by
  rw [Bool.eq_iff_iff, decide_eq_true_eq]
  unfold cmpSx befS
  simp only [Bool.or_eq_true, Bool.and_eq_true, decide_eq_true_eq]
  by_cases c : cI (a.length : Int) (b.length : Int) = 0
  · have e := (cI_zero _ _).1 c
    rw [if_pos c, cmpL_neg a b (by omega)]
    constructor
    · intro h; exact .inr ⟨by omega, h⟩
    · rintro (h | h)
      · omega
      · exact h.2
  · have e : ¬ (a.length : Int) = (b.length : Int) := fun e => c ((cI_zero _ _).2 e)
    rw [if_neg c, cI_neg]
    constructor
    · intro h; left; omega
    · rintro (h | h)
      · omega
      · omega
theorem cmpSx_ge (a b : List Int) : decide (0 ≤ cmpSx a b) = !befS a b := by
  rw [← cmpSx_neg]
  by_cases h : cmpSx a b < 0
  · rw [decide_eq_true h, decide_eq_false (by omega)]; rfl
  · rw [decide_eq_false h, decide_eq_true (by omega)]; rfl
theorem slCompare_ok {k : Nat} (hk : KK ≤ k) {a b : List Int} (ha : a.length ≤ 1000000000) (hb : b.length ≤ 1000000000) : slices_Compare_int64 k a b = some (cmpL a b) := by
  have hK := KK_def
  unfold slices_Compare_int64
  have key : ∀ (d n i : Nat), a.length - i = d → d < n → slices_Compare_int64_l0 k n a b a (a.length : Int) (i : Int) (fun s_4 s_5 => (if (decide ((List.length s_4 : Int) < (List.length s_5 : Int))) = true then some (-1) else some 0)) = (if i ≤ a.length then some (if a.length ≤ i then (if i < b.length then -1 else 0) else cmpL (a.drop i) (b.drop i)) else some (if a.length < b.length then -1 else 0)) := by
    intro d
    induction d with
    | zero =>
      intro n i hd hn
      obtain ⟨n, rfl⟩ : ∃ m, n = m + 1 := ⟨n - 1, by omega⟩
      have : ¬ (i : Int) < (a.length : Int) := by omega
      simp only [slices_Compare_int64_l0, this, decide_false, Bool.false_eq_true, if_false]
      by_cases h1 : i ≤ a.length
      · have : i = a.length := by omega
        subst this
        rw [if_pos (Nat.le_refl _), if_pos (Nat.le_refl _)]
        by_cases h2 : a.length < b.length
        · rw [decide_eq_true (by omega), if_pos rfl, if_pos h2]
        · rw [decide_eq_false (by omega), if_neg (by simp), if_neg h2]
      · rw [if_neg h1]
        by_cases h2 : a.length < b.length
        · rw [decide_eq_true (by omega), if_pos rfl, if_pos h2]
        · rw [decide_eq_false (by omega), if_neg (by simp), if_neg h2]
    | succ d ih =>
      intro n i hd hn
      obtain ⟨n, rfl⟩ : ∃ m, n = m + 1 := ⟨n - 1, by omega⟩
      have hi : i < a.length := by omega
      have hlt : (i : Int) < (a.length : Int) := by omega
      have hw := w_succ (i := i) (by omega)
      have da : a.drop i = a[i] :: a.drop (i + 1) := List.drop_eq_getElem_cons hi
      rw [if_pos (by omega), if_neg (by omega), da]
      simp only [slices_Compare_int64_l0, hlt, decide_true, if_true, Int.natCast_nonneg, Int.toNat_natCast, List.getElem?_eq_getElem hi, Option.bind_some, hw]
      by_cases hb2 : i < b.length
      · have db : b.drop i = b[i] :: b.drop (i + 1) := List.drop_eq_getElem_cons hb2
        rw [db, decide_eq_false (by omega), if_neg (by simp), List.getElem?_eq_getElem hb2]
        simp only [Option.bind_some, compareInt_ok]
        unfold cmpL
        by_cases c : cI a[i] b[i] = 0
        · rw [decide_eq_true c, if_neg (by simp), if_pos c, ih n (i + 1) (by omega) (by omega), if_pos (by omega)]
          by_cases h3 : a.length ≤ i + 1
          · rw [if_pos h3, List.drop_of_length_le (l := a) (by omega)]
            by_cases h4 : i + 1 < b.length
            · rw [if_pos h4, List.drop_eq_getElem_cons h4]; rfl
            · rw [if_neg h4, List.drop_of_length_le (l := b) (by omega)]; rfl
          · rw [if_neg h3]
        · rw [decide_eq_false c, if_pos (by simp), if_neg c]
      · rw [List.drop_of_length_le (l := b) (by omega), decide_eq_true (by omega), if_pos rfl]
        rfl
  have h0 := key a.length k 0 (by omega) (by omega)
  have hz : ((0 : Nat) : Int) = 0 := rfl
  rw [hz] at h0
  rw [h0, if_pos (Nat.zero_le _), List.drop_zero, List.drop_zero]
  by_cases c : a.length ≤ 0
  · have : a = [] := List.length_eq_zero_iff.1 (by omega)
    subst this
    rw [if_pos c]
    cases b with
    | nil => rfl
    | cons y b => rw [if_pos (by simp)]; rfl
  · rw [if_neg c]
theorem compareSx_ok {k : Nat} (hk : KK ≤ k) {a b : List Int} (ha : a.length ≤ 1000000000) (hb : b.length ≤ 1000000000) : impl_compareSimplices k a b = some (cmpSx a b) := by
  unfold impl_compareSimplices cmpSx
  rw [compareInt'_ok, slCompare_ok hk ha hb]
  simp only [Option.bind_some, cmpOr2_ok hk]
theorem l05Before_ok {k : Nat} (hk : KK ≤ k) {a b : List Int} (ha : a.length ≤ 1000000000) : spec_l05Before k a b = some (befS a b) := by
  have hK := KK_def
  unfold spec_l05Before befS
  by_cases hl : a.length = b.length
  · rw [decide_eq_true (show (a.length : Int) = (b.length : Int) by omega), if_neg (by simp), decide_eq_false (by omega), decide_eq_true hl, Bool.false_or, Bool.true_and]
    have key : ∀ (d n i : Nat), a.length - i = d → d < n → spec_l05Before_l0 k n a b (i : Int) (some false) = some (lexB (a.drop i) (b.drop i)) := by
      intro d
      induction d with
      | zero =>
        intro n i hd hn
        obtain ⟨n, rfl⟩ : ∃ m, n = m + 1 := ⟨n - 1, by omega⟩
        have : ¬ (i : Int) < (a.length : Int) := by omega
        simp only [spec_l05Before_l0, this, decide_false, Bool.false_eq_true, if_false]
        rw [List.drop_of_length_le (l := a) (by omega)]; rfl
      | succ d ih =>
        intro n i hd hn
        obtain ⟨n, rfl⟩ : ∃ m, n = m + 1 := ⟨n - 1, by omega⟩
        have hi : i < a.length := by omega
        have hib : i < b.length := by omega
        have hlt : (i : Int) < (a.length : Int) := by omega
        have hw := w_succ (i := i) (by omega)
        have da : a.drop i = a[i] :: a.drop (i + 1) := List.drop_eq_getElem_cons hi
        have db : b.drop i = b[i] :: b.drop (i + 1) := List.drop_eq_getElem_cons hib
        rw [da, db]
        unfold lexB
        simp only [spec_l05Before_l0, hlt, decide_true, if_true, Int.natCast_nonneg, Int.toNat_natCast, List.getElem?_eq_getElem hi, List.getElem?_eq_getElem hib, Option.bind_some, hw]
        by_cases c : a[i] = b[i]
        · rw [decide_eq_true c, if_neg (by simp), if_pos c]
          exact ih n (i + 1) (by omega) (by omega)
        · rw [decide_eq_false c, if_pos (by simp), if_neg c]
    exact key a.length k 0 (by omega) (by omega)
  · rw [decide_eq_false (show ¬ (a.length : Int) = (b.length : Int) by omega), if_pos (by simp), decide_eq_false hl, Bool.false_and, Bool.or_false]
    exact congrArg some (decide_eq_decide.2 (by omega))
theorem mid_ok {i j : Nat} (h : i + j < 4611686018427387904) : w_i64 (Int.fdiv (w_u64 (w_i64 ((i : Int) + (j : Int)))) (2 ^ 1)) = (((i + j) / 2 : Nat) : Int) := by
  rw [w_id (x := (i : Int) + j) (by omega) (by omega)]
  have hu : w_u64 ((i : Int) + (j : Int)) = (i : Int) + j := by unfold w_u64 IntKind.wrap; simp [IntKind.bits, IntKind.signed]; omega
  rw [hu, Int.fdiv_eq_ediv_of_nonneg _ (by omega), w_id (by omega) (by omega)]
  omega
abbrev Cx := List (List Int)
/-- A simplex without the vertex at a place. -/
def dropI (s : List Int) (k : Nat) : List Int := s.take k ++ s.drop (k + 1)
theorem dropI_len {s : List Int} {k : Nat} (h : k < s.length) : (dropI s k).length = s.length - 1 := by
  unfold dropI; rw [List.length_append, List.length_take, List.length_drop]; omega
structure CxP (c : Cx) : Prop where
  len : c.length ≤ 48
  simp : ∀ s ∈ c, SimpP s
  ord : c.Pairwise (fun a b => befS a b = true)
  face : ∀ s ∈ c, 1 < s.length → ∀ k, k < s.length → dropI s k ∈ c
open Classical in
noncomputable def cxB (c : Cx) : Bool := decide (CxP c)
theorem cxB_iff {c : Cx} : cxB c = true ↔ CxP c := by unfold cxB; simp
def smallCx (c : Cx) : Prop := c.length ≤ 1048576 ∧ ∀ s ∈ c, s.length ≤ 1048576
theorem l05Drop_ok {s : List Int} (hs : s.length ≤ 1048576) {k : Nat} (h : k < s.length) : spec_l05Drop s (k : Int) = some (dropI s k) := by
  have hL := LIM_def
  have hw := w_succ (i := k) (by omega)
  have b1 : (k : Int) ≤ (s.length : Int) := by omega
  have b2 : ((k + 1 : Nat) : Int) ≤ (s.length : Int) := by omega
  unfold spec_l05Drop spec_l00Own
  have hdr : (s.drop (k + 1)).take (s.length - (k + 1)) = s.drop (k + 1) := List.take_of_length_le (by rw [List.length_drop]; exact Nat.le_refl _)
  simp only [Int.natCast_nonneg, Int.le_refl, b1, and_self, if_true, Int.toNat_natCast]
  rw [if_pos (by simp only [List.length_nil, List.length_take]; omega)]
  simp only [Option.bind_some, hw, Int.natCast_nonneg, Int.toNat_natCast, b2, Int.le_refl, and_self, if_true, hdr]
  rw [if_pos (by simp only [List.length_take, List.length_drop]; omega)]
  rfl
/-- The number of a simplex in a list; behind its end if it is not there. -/
def posC (c : Cx) (s : List Int) : Nat := c.findIdx (fun y => decide (y = s))
theorem posC_lt {c : Cx} {s : List Int} : posC c s < c.length ↔ s ∈ c := by
  unfold posC
  rw [List.findIdx_lt_length]
  constructor
  · rintro ⟨x, hx, h⟩; rw [← of_decide_eq_true h]; exact hx
  · intro h; exact ⟨s, h, decide_eq_true rfl⟩
theorem posC_get {c : Cx} {s : List Int} (h : s ∈ c) : c[posC c s]? = some s := by
  have hl := posC_lt.2 h
  rw [List.getElem?_eq_getElem hl]
  have : decide (c[posC c s] = s) = true := List.findIdx_getElem (xs := c) (p := fun y => decide (y = s)) (w := hl)
  rw [of_decide_eq_true this]
theorem l00Same_ok {k : Nat} (hk : KK ≤ k) {a b : List Int} (ha : a.length ≤ 1000000000) : spec_l00Same k a b = some (decide (a = b)) := by
  have hK := KK_def
  unfold spec_l00Same
  by_cases hl : a.length = b.length
  · rw [decide_eq_true (show (a.length : Int) = (b.length : Int) by omega), if_neg (by simp)]
    refine loop_eq (L := fun n i => spec_l00Same_l0 k n a b i (some true)) a b hl ?_ ?_ (n := k) (by omega)
    · intro n i x y hx hy hlt
      have hw := w_succ (i := i) (by omega)
      by_cases e : x = y <;> simp [spec_l00Same_l0, hlt, hx, hy, hw, e]
    · intro n
      simp [spec_l00Same_l0]
  · have h2 : a ≠ b := fun e => hl (by rw [e])
    rw [decide_eq_false (show ¬ (a.length : Int) = (b.length : Int) by omega), if_pos (by simp), decide_eq_false h2]
theorem l05Find_ok {k : Nat} (hk : KK ≤ k) {c : Cx} (hc : smallCx c) (s : List Int) : spec_l05Find k c s = some (if posC c s < c.length then ((posC c s : Nat) : Int) else -1) := by
  have hK := KK_def
  obtain ⟨h1, h2⟩ := hc
  unfold spec_l05Find
  rw [loop_find (L := fun m i => spec_l05Find_l0 k m c s i (some (-1))) (p := fun y => decide (y = s)) c ?_ ?_ (n := k) (by omega)]
  · unfold idxP posC
    cases hf : c.findIdx? (fun y => decide (y = s)) with
    | some i =>
      obtain ⟨hlt, hp⟩ := List.findIdx?_eq_some_iff_findIdx_eq.1 hf
      rw [hp, if_pos hlt]
    | none =>
      rw [List.findIdx?_eq_none_iff] at hf
      have : ¬ c.findIdx (fun y => decide (y = s)) < c.length := fun h => by
        obtain ⟨x, hx, h2⟩ := List.findIdx_lt_length.1 h
        rw [hf x hx] at h2; cases h2
      rw [if_neg this]
  · intro m i x hi hlt
    have hw := w_succ (i := i) (by omega)
    have hxl := h2 x (List.mem_of_getElem? hi)
    simp only [spec_l05Find_l0, hlt, decide_true, if_true, Int.natCast_nonneg, Int.toNat_natCast, hi, Option.bind_some, hw, l00Same_ok hk (show x.length ≤ 1000000000 by omega)]
  · intro m
    simp [spec_l05Find_l0]
theorem find_negC (c : Cx) (s : List Int) : decide ((if posC c s < c.length then ((posC c s : Nat) : Int) else -1) < 0) = !decide (s ∈ c) := by
  by_cases h : s ∈ c
  · rw [if_pos (posC_lt.2 h), decide_eq_false (by omega), decide_eq_true h]; rfl
  · rw [if_neg (fun h2 => h (posC_lt.1 h2)), decide_eq_false h]; rfl
theorem concat2_ok {k : Nat} (hk : KK ≤ k) {a b : List Int} (ha : a.length ≤ 1048576) (hb : b.length ≤ 1048576) : slices_Concat_int64 k [a, b] = some (a ++ b) := by
  have hK := KK_def
  have hL := LIM_def
  obtain ⟨n, rfl⟩ : ∃ n, k = n + 3 := ⟨k - 3, by omega⟩
  have w1 : w_i64 (0 + (a.length : Int)) = (a.length : Int) := by rw [w_id (by omega) (by omega)]; omega
  have w2 : w_i64 ((a.length : Int) + (b.length : Int)) = ((a.length + b.length : Nat) : Int) := by rw [w_id (by omega) (by omega)]; omega
  have w3 : w_i64 ((0 : Int) + 1) = 1 := w_id (by omega) (by omega)
  have w4 : w_i64 ((1 : Int) + 1) = 2 := w_id (by omega) (by omega)
  have n1 : ¬ ((a.length : Int) < 0) := by omega
  have n2 : ¬ (((a.length + b.length : Nat) : Int) < 0) := by omega
  have l1 : (((a.length + b.length : Nat) : Int).toNat) * 8 ≤ LIM := by simp only [Int.toNat_natCast]; omega
  have l2 : a.length * 8 ≤ LIM := by omega
  have l3 : (a.length + b.length) * 8 ≤ LIM := by omega
  unfold slices_Concat_int64
  simp only [slices_Concat_int64_l0, List.length_cons, List.length_nil, Nat.zero_add, Nat.reduceAdd, show ((2 : Nat) : Int) = 2 from rfl, w1, w2, w3, w4]
  simp only [slices_Grow_int64_s, slices_Concat_int64_l1, w1, w2, w3, w4, n1, n2, true_and, l1, l2, l3, Int.natCast_nonneg, List.nil_append, decide_false, Bool.false_eq_true, if_false, if_true, Option.bind_some, and_self, List.getElem?_cons_zero, List.getElem?_cons_succ, show decide ((0 : Int) < 2) = true from rfl, show decide ((1 : Int) < 2) = true from rfl, show decide ((2 : Int) < 2) = false from rfl, show (0 : Int).toNat = 0 from rfl, show (1 : Int).toNat = 1 from rfl, show (0 : Int) ≤ 0 from Int.le_refl _, show (0 : Int) ≤ 1 by omega, List.length_cons, List.length_nil, Nat.zero_add, Nat.reduceAdd, show ((2 : Nat) : Int) = 2 from rfl]
/-- The faces. -/
def facesL (s : List Int) : Cx := if 1 < s.length then (List.range s.length).map (dropI s) else []
theorem facesOf_ok {k : Nat} (hk : KK ≤ k) {s : List Int} (hs : s.length ≤ 1048576) : impl_facesOf k s = some (facesL s) := by
  have hK := KK_def
  have hL := LIM_def
  unfold impl_facesOf
  have := loop_list (α := Nat) (A := Cx) (L := fun n i q => impl_facesOf_l0 k n s (s.length : Int) i q (fun q_3 => some q_3)) (I := fun pre q => q = (if 1 < s.length then (List.range pre.length).map (dropI s) else [])) (G := fun _ _ => some (facesL s)) (List.range s.length) ?_ ?_ k (by simp; omega) [] (by simp)
  · exact this
  · intro n pre x post q hx hq ih hg hlt
    rw [List.length_range] at hlt
    have hpl : pre.length < s.length := by omega
    have hw := w_succ (i := pre.length) (by omega)
    simp only [impl_facesOf_l0, hlt, decide_true, if_true]
    by_cases c : 1 < s.length
    · rw [if_pos c] at hq
      have b1 : (pre.length : Int) ≤ (s.length : Int) := by omega
      have b2 : ((pre.length + 1 : Nat) : Int) ≤ (s.length : Int) := by omega
      have hdr : (s.drop (pre.length + 1)).take (s.length - (pre.length + 1)) = s.drop (pre.length + 1) := List.take_of_length_le (by rw [List.length_drop]; exact Nat.le_refl _)
      have hcc := concat2_ok hk (a := s.take pre.length) (b := s.drop (pre.length + 1)) (by rw [List.length_take]; omega) (by rw [List.length_drop]; omega)
      have hlim : (q.length + 1) * 24 ≤ LIM := by rw [hq, List.length_map, List.length_range]; omega
      rw [decide_eq_true (by omega), if_pos rfl]
      simp only [Int.natCast_nonneg, Int.le_refl, Int.toNat_natCast, b1, hw, b2, and_self, if_true, hdr, hcc, Option.bind_some, List.length_singleton, hlim]
      refine ih _ ?_
      rw [if_pos c, hq, List.length_append, List.length_singleton, List.range_succ, List.map_append]
      rfl
    · rw [decide_eq_false (by omega), if_neg (by simp), hw]
      exact ih _ (by rw [if_neg c] at hq ⊢; exact hq)
  · intro n q hq
    rw [List.length_range] at hq ⊢
    simp only [impl_facesOf_l0, Int.lt_irrefl, decide_false, Bool.false_eq_true, if_false, hq]
    rfl
theorem facesL_mem {s f : List Int} : f ∈ facesL s ↔ 1 < s.length ∧ ∃ k, k < s.length ∧ f = dropI s k := by
  unfold facesL
  by_cases c : 1 < s.length
  · rw [if_pos c, List.mem_map]
    constructor
    · rintro ⟨k, hk, rfl⟩; exact ⟨c, k, List.mem_range.1 hk, rfl⟩
    · rintro ⟨_, k, hk, rfl⟩; exact ⟨k, List.mem_range.2 hk, rfl⟩
  · rw [if_neg c]; simp [c]
/-- The first place that is not before a simplex. -/
def lowC (c : Cx) (s : List Int) : Nat := c.findIdx (fun y => !befS y s)
theorem lowC_le (c : Cx) (s : List Int) : lowC c s ≤ c.length := List.findIdx_le_length
theorem lowC_lt {c : Cx} {s : List Int} {i : Nat} (h : i < lowC c s) (hi : i < c.length) : befS c[i] s = true := by
  have := List.not_of_lt_findIdx h
  simpa using this
theorem lowC_ge {c : Cx} {s : List Int} (hs : c.Pairwise (fun a b => befS a b = true)) {i : Nat} (h : lowC c s ≤ i) (hi : i < c.length) : befS c[i] s = false := by
  have hp : lowC c s < c.length := by omega
  have h0 : befS c[lowC c s] s = false := by
    have := List.findIdx_getElem (xs := c) (p := fun y => !befS y s) (w := hp)
    simp only [Bool.not_eq_true'] at this
    exact this
  by_cases e : i = lowC c s
  · subst e; exact h0
  · cases hb : befS c[i] s
    · rfl
    · have h1 := List.pairwise_iff_getElem.1 hs (lowC c s) i hp hi (by omega)
      rw [befS_trans h1 hb] at h0; cases h0
theorem lowC_pos {c : Cx} (hs : c.Pairwise (fun a b => befS a b = true)) {s : List Int} (h : s ∈ c) : lowC c s = posC c s := by
  have hl := posC_lt.2 h
  have hg := posC_get h
  rw [List.getElem?_eq_getElem hl] at hg
  have hg := Option.some.inj hg
  have h1 : ¬ posC c s < lowC c s := fun q => by have := lowC_lt q hl; rw [hg, befS_irrefl] at this; cases this
  have h2 : ¬ lowC c s < posC c s := fun q => by
    have h3 := List.pairwise_iff_getElem.1 hs (lowC c s) (posC c s) (by omega) hl q
    rw [hg] at h3
    rw [lowC_ge hs (Nat.le_refl _) (by omega)] at h3; cases h3
  omega
theorem indexOf_loop {k : Nat} (hk : KK ≤ k) {c : Cx} (hc : smallCx c) (hs : c.Pairwise (fun a b => befS a b = true)) {s : List Int} (hsl : s.length ≤ 1048576) {e : Cx → List Int → Unit → Int → Int → Option (Int × Bool)} :
    ∀ (d : Nat) (i j n : Nat), j - i ≤ d → d < n → i ≤ lowC c s → lowC c s ≤ j → j ≤ c.length → slices_BinarySearchFunc_int64__impl_compareSimplices_l0 k n c s () (c.length : Int) (i : Int) (j : Int) e = e c s () (c.length : Int) ((lowC c s : Nat) : Int) := by
  obtain ⟨hcl, hce⟩ := hc
  intro d
  induction d with
  | zero =>
    intro i j n h1 h2 h3 h4 h5
    obtain ⟨n, rfl⟩ : ∃ m, n = m + 1 := ⟨n - 1, by omega⟩
    have hlt : ¬ (i : Int) < (j : Int) := by omega
    simp only [slices_BinarySearchFunc_int64__impl_compareSimplices_l0, hlt, decide_false, Bool.false_eq_true, if_false]
    rw [show i = lowC c s by omega]
  | succ d ih =>
    intro i j n h1 h2 h3 h4 h5
    obtain ⟨n, rfl⟩ : ∃ m, n = m + 1 := ⟨n - 1, by omega⟩
    by_cases hij : i < j
    · have hlt : (i : Int) < (j : Int) := by omega
      have hm : (i + j) / 2 < c.length := by omega
      have hw := w_succ (i := (i + j) / 2) (by omega)
      have hml := hce c[(i + j) / 2] (List.getElem_mem hm)
      simp only [slices_BinarySearchFunc_int64__impl_compareSimplices_l0, hlt, decide_true, if_true, mid_ok (show i + j < 4611686018427387904 by omega), Int.natCast_nonneg, Int.toNat_natCast, List.getElem?_eq_getElem hm, Option.bind_some, compareSx_ok hk (show (c[(i + j) / 2]).length ≤ 1000000000 by omega) (show s.length ≤ 1000000000 by omega), cmpSx_neg, hw]
      by_cases hb : befS c[(i + j) / 2] s = true
      · rw [if_pos hb]
        refine ih _ _ _ (by omega) (by omega) ?_ h4 h5
        by_cases hq : lowC c s ≤ (i + j) / 2
        · rw [lowC_ge hs hq hm] at hb; cases hb
        · omega
      · rw [if_neg hb]
        refine ih _ _ _ (by omega) (by omega) h3 ?_ (by omega)
        by_cases hq : (i + j) / 2 < lowC c s
        · exact absurd (lowC_lt hq hm) hb
        · omega
    · have hlt : ¬ (i : Int) < (j : Int) := by omega
      simp only [slices_BinarySearchFunc_int64__impl_compareSimplices_l0, hlt, decide_false, Bool.false_eq_true, if_false]
      rw [show i = lowC c s by omega]
theorem indexOf_ok {k : Nat} (hk : KK ≤ k) {c : Cx} (hc : smallCx c) (hs : c.Pairwise (fun a b => befS a b = true)) {s : List Int} (hsl : s.length ≤ 1048576) : impl_indexOf k c s = some (if posC c s < c.length then ((posC c s : Nat) : Int) else -1) := by
  have hK := KK_def
  have hcl := hc.1
  have := lowC_le c s
  unfold impl_indexOf slices_BinarySearchFunc_int64__impl_compareSimplices
  have h0 := indexOf_loop hk hc hs hsl (e := fun x_3 target_4 cmp_5 n_6 i_7 => (if (decide (i_7 < n_6)) = true then (if 0 ≤ i_7 then (x_3[i_7.toNat]?).bind fun y_8 => (impl_compareSimplices k y_8 target_4).bind fun r_9 => some (i_7, (decide (r_9 = 0))) else none) else some (i_7, false))) c.length 0 c.length k (by omega) (by omega) (by omega) (by omega) (by omega)
  rw [show ((0 : Nat) : Int) = 0 from rfl] at h0
  rw [h0]
  by_cases h : s ∈ c
  · have hp := lowC_pos hs h
    have hl := posC_lt.2 h
    have hg := posC_get h
    rw [hp, if_pos hl, decide_eq_true (by omega), if_pos rfl]
    simp only [Int.natCast_nonneg, if_true, Int.toNat_natCast, hg, Option.bind_some, compareSx_ok hk (show s.length ≤ 1000000000 by omega) (show s.length ≤ 1000000000 by omega)]
    have : cmpSx s s = 0 := (cmpSx_zero s s).2 rfl
    rw [this]; rfl
  · rw [if_neg (fun q => h (posC_lt.1 q))]
    by_cases hl : lowC c s < c.length
    · have hxl := hc.2 c[lowC c s] (List.getElem_mem hl)
      rw [decide_eq_true (by omega), if_pos rfl]
      simp only [Int.natCast_nonneg, if_true, Int.toNat_natCast, List.getElem?_eq_getElem hl, Option.bind_some, compareSx_ok hk (show (c[lowC c s]).length ≤ 1000000000 by omega) (show s.length ≤ 1000000000 by omega)]
      have : ¬ cmpSx c[lowC c s] s = 0 := fun e => h (by rw [← (cmpSx_zero _ _).1 e]; exact List.getElem_mem hl)
      rw [decide_eq_false this]; rfl
    · rw [decide_eq_false (by omega), if_neg (by simp)]; rfl
open Classical in
/-- One simplex, as the loops ask of it: with the simplices d for its faces. -/
noncomputable def cxAt (c d : Cx) (i : Nat) : Bool := decide (∀ s, c[i]? = some s → SimpP s ∧ prevP (fun a b => befS a b = true) c i s ∧ (1 < s.length → ∀ k, k < s.length → dropI s k ∈ d))
open Classical in
theorem cxAt_iff {c d : Cx} {i : Nat} {s : List Int} (h : c[i]? = some s) : cxAt c d i = true ↔ SimpP s ∧ prevP (fun a b => befS a b = true) c i s ∧ (1 < s.length → ∀ k, k < s.length → dropI s k ∈ d) := by
  unfold cxAt
  rw [decide_eq_true_eq]
  exact ⟨fun q => q s h, fun q t ht => by rw [h] at ht; cases ht; exact q⟩
open Classical in
theorem l05Ok_ok {k : Nat} (hk : KK ≤ k) {c : Cx} (hc : smallCx c) : spec_l05Ok k c = some (cxB c) := by
  have hK := KK_def
  obtain ⟨hcl, hce⟩ := hc
  unfold spec_l05Ok
  by_cases h48 : c.length ≤ 48
  · rw [decide_eq_false (by omega), if_neg (by simp)]
    have := loop_allN (L := fun n i => spec_l05Ok_l0 k n c i (some true)) (b := c.length) (p := fun i => cxAt c c i) (r := some false) (e := some true) ?_ ?_ (n := k) (by omega)
    · rw [this]
      have e : (List.range c.length).all (fun i => cxAt c c i) = true ↔ CxP c := by
        rw [List.all_eq_true]
        constructor
        · intro h
          have h' : ∀ i s, c[i]? = some s → SimpP s ∧ prevP (fun a b => befS a b = true) c i s ∧ (1 < s.length → ∀ k, k < s.length → dropI s k ∈ c) := fun i s hs => (cxAt_iff hs).1 (h i (List.mem_range.2 (List.getElem?_eq_some_iff.1 hs).1))
          refine ⟨h48, fun s hs => ?_, ?_, fun s hs => ?_⟩
          · obtain ⟨i, hi⟩ := List.getElem?_of_mem hs
            exact (h' i s hi).1
          · have := prevP_pairwise (R := fun a b => befS a b = true) (fun a b c => befS_trans) (l := c) (m := c.length) (fun j hj x hx => (h' j x hx).2.1)
            rwa [List.take_length] at this
          · obtain ⟨i, hi⟩ := List.getElem?_of_mem hs
            exact (h' i s hi).2.2
        · intro h i hi
          rw [List.mem_range] at hi
          exact (cxAt_iff (List.getElem?_eq_getElem hi)).2 ⟨h.simp _ (List.getElem_mem hi), pairwise_prevP h.ord (List.getElem?_eq_getElem hi), h.face _ (List.getElem_mem hi)⟩
      by_cases q : CxP c
      · rw [if_pos (e.2 q), cxB_iff.2 q]
      · rw [if_neg (fun h => q (e.1 h))]
        congr 1
        symm
        rw [Bool.eq_false_iff, ne_eq, cxB_iff]; exact q
    · intro n i hi
      have hlt : (i : Int) < (c.length : Int) := by omega
      have hw := w_succ (i := i) (by omega)
      have hg : c[i]? = some c[i] := List.getElem?_eq_getElem hi
      have hsl := hce c[i] (List.getElem_mem hi)
      have hin : spec_l05Ok_l1 k k c (i : Int) c[i] 0 (fun c_5 i_6 => spec_l05Ok_l0 k n c_5 (w_i64 (i_6 + 1)) (some true)) = if (∀ k, 1 < (c[i]).length → k < (c[i]).length → dropI c[i] k ∈ c) then spec_l05Ok_l0 k n c ((i + 1 : Nat) : Int) (some true) else some false := by
        by_cases h1 : 1 < (c[i]).length
        · have := loop_allN (L := fun m j => spec_l05Ok_l1 k m c (i : Int) c[i] j (fun c_5 i_6 => spec_l05Ok_l0 k n c_5 (w_i64 (i_6 + 1)) (some true))) (b := (c[i]).length) (p := fun j => decide (dropI c[i] j ∈ c)) (r := some false) (e := spec_l05Ok_l0 k n c ((i + 1 : Nat) : Int) (some true)) ?_ ?_ (n := k) (by omega)
          · rw [this]
            simp only [List.all_eq_true, List.mem_range, decide_eq_true_eq]
            by_cases q : ∀ j, j < (c[i]).length → dropI c[i] j ∈ c
            · rw [if_pos q, if_pos (fun j _ hj => q j hj)]
            · rw [if_neg q, if_neg (fun h => q fun j hj => h j h1 hj)]
          · intro m j hj
            have hjlt : (j : Int) < ((c[i]).length : Int) := by omega
            have hw2 := w_succ (i := j) (by omega)
            simp only [spec_l05Ok_l1, hjlt, decide_true, if_true, decide_eq_true (show (1 : Int) < ((c[i]).length : Int) by omega), l05Drop_ok hsl hj, Option.bind_some, l05Find_ok hk ⟨hcl, hce⟩, find_negC, hw2]
            by_cases q : dropI c[i] j ∈ c
            · rw [decide_eq_true q]; simp
            · rw [decide_eq_false q]; simp
          · intro m
            simp only [spec_l05Ok_l1, Int.lt_irrefl, decide_false, Bool.false_eq_true, if_false, hw]
        · rw [if_pos (fun j h => absurd h h1)]
          obtain ⟨m, hm⟩ : ∃ m, k = m + 1 := ⟨k - 1, by omega⟩
          have hn1 : ¬ (1 : Int) < ((c[i]).length : Int) := by omega
          conv => lhs; arg 2; rw [hm]
          simp only [spec_l05Ok_l1, hn1, decide_false, Bool.false_eq_true, if_false, hw]
          split <;> rfl
      simp only [spec_l05Ok_l0, hlt, decide_true, if_true, Int.natCast_nonneg, Int.toNat_natCast, hg, Option.bind_some, l05Simplex_ok hk (show (c[i]).length ≤ 1000000000 by omega)]
      cases hsb : simpB c[i] with
      | false =>
        have : ¬ cxAt c c i = true := fun h => by
          have := simpB_iff.2 ((cxAt_iff hg).1 h).1
          rw [hsb] at this; cases this
        rw [if_neg this]; simp
      | true =>
        have hsp := simpB_iff.1 hsb
        simp only [Bool.not_true, Bool.false_eq_true, if_false]
        by_cases h0 : 0 < i
        · have h0' : (0 : Int) < (i : Int) := by omega
          have hw1 : w_i64 ((i : Int) - 1) = ((i - 1 : Nat) : Int) := by rw [w_id (by omega) (by omega)]; omega
          have hg1 : c[i - 1]? = some c[i - 1] := List.getElem?_eq_getElem (by omega)
          have hpl := hce c[i - 1] (List.getElem_mem (by omega))
          simp only [h0', decide_true, if_true, hw1, Int.natCast_nonneg, Int.toNat_natCast, hg1, Option.bind_some, l05Before_ok hk (show (c[i - 1]).length ≤ 1000000000 by omega)]
          cases hbf : befS c[i - 1] c[i] with
          | false =>
            have : ¬ cxAt c c i = true := fun h => by
              have : befS c[i - 1] c[i] = true := ((cxAt_iff hg).1 h).2.1 h0 _ hg1
              rw [hbf] at this; cases this
            rw [if_neg this]; simp
          | true =>
            simp only [Bool.not_true, Bool.false_eq_true, if_false, hin]
            by_cases q : ∀ k, 1 < (c[i]).length → k < (c[i]).length → dropI c[i] k ∈ c
            · rw [if_pos q, if_pos ((cxAt_iff hg).2 ⟨hsp, fun _ t ht => by rw [hg1] at ht; cases ht; exact hbf, fun a b => q b a⟩)]
            · rw [if_neg q, if_neg (fun h => q fun b a => ((cxAt_iff hg).1 h).2.2 a b)]
        · have h0' : ¬ (0 : Int) < (i : Int) := by omega
          simp only [h0', decide_false, Bool.false_eq_true, if_false, hin]
          by_cases q : ∀ k, 1 < (c[i]).length → k < (c[i]).length → dropI c[i] k ∈ c
          · rw [if_pos q, if_pos ((cxAt_iff hg).2 ⟨hsp, fun h => absurd h h0, fun a b => q b a⟩)]
          · rw [if_neg q, if_neg (fun h => q fun b a => ((cxAt_iff hg).1 h).2.2 a b)]
    · intro n
      simp only [spec_l05Ok_l0, Int.lt_irrefl, decide_false, Bool.false_eq_true, if_false]
  · rw [decide_eq_true (by omega), if_pos rfl]
    congr 1
    symm
    rw [Bool.eq_false_iff, ne_eq, cxB_iff]
    exact fun h => h48 h.len
theorem take_small {c : Cx} (hc : smallCx c) (i : Nat) : smallCx (c.take i) := ⟨by rw [List.length_take]; have := hc.1; omega, fun s hs => hc.2 s (List.mem_of_mem_take hs)⟩
theorem lostFace_ok {k : Nat} (hk : KK ≤ k) {c : Cx} (hc : smallCx c) {i : Nat} (hi : i ≤ c.length) (hs : (c.take i).Pairwise (fun a b => befS a b = true)) {s : List Int} (hsl : s.length ≤ 1048576) : slices_ContainsFunc_int64__impl_ValidComplex_1 k (facesL s) (c, (i : Int)) = some ((facesL s).any fun f => !decide (f ∈ c.take i)) := by
  have hK := KK_def
  have hcl := hc.1
  have hfl : (facesL s).length ≤ 1048576 := by
    unfold facesL
    split
    · rw [List.length_map, List.length_range]; exact hsl
    · simp
  unfold slices_ContainsFunc_int64__impl_ValidComplex_1 slices_IndexFunc_int64__impl_ValidComplex_1
  rw [loop_find (L := fun n j => slices_IndexFunc_int64__impl_ValidComplex_1_l0 k n (facesL s) (c, (i : Int)) ((facesL s).length : Int) j (some (-1))) (p := fun f => !decide (f ∈ c.take i)) (facesL s) ?_ ?_ (n := k) (by omega)]
  · rw [Option.bind_some, idxP_nonneg]
  · intro n j f hj hlt
    have hw := w_succ (i := j) (by omega)
    have hf : f.length ≤ 1048576 := by
      obtain ⟨_, q, hq, rfl⟩ := facesL_mem.1 (List.mem_of_getElem? hj)
      rw [dropI_len hq]; omega
    have b1 : (i : Int) ≤ (c.length : Int) := by omega
    simp only [slices_IndexFunc_int64__impl_ValidComplex_1_l0, impl_ValidComplex_1, hlt, decide_true, if_true, Int.natCast_nonneg, Int.le_refl, b1, and_self, Int.toNat_natCast, hj, Option.bind_some, indexOf_ok hk (take_small hc i) hs hf, find_negC, hw]
  · intro n
    simp [slices_IndexFunc_int64__impl_ValidComplex_1_l0]
theorem lost_iff {s : List Int} {d : Cx} : ((facesL s).any fun f => !decide (f ∈ d)) = false ↔ (1 < s.length → ∀ k, k < s.length → dropI s k ∈ d) := by
  rw [List.any_eq_false]
  constructor
  · intro h h1 k hk
    have := h _ (facesL_mem.2 ⟨h1, k, hk, rfl⟩)
    simpa using this
  · intro h f hf
    obtain ⟨h1, k, hk, rfl⟩ := facesL_mem.1 hf
    simpa using h h1 k hk
theorem validComplex_ok {k : Nat} (hk : KK ≤ k) {c : Cx} (hc : smallCx c) : impl_ValidComplex k c = some (cxB c) := by
  have hK := KK_def
  obtain ⟨hcl, hce⟩ := hc
  unfold impl_ValidComplex
  have := loop_allN' (L := fun n i => impl_ValidComplex_l0 k n c (c.length : Int) i c (fun v_9 => some (decide ((List.length v_9 : Int) ≤ 48)))) (b := c.length) (p := fun i => cxAt c (c.take i) i) (r := some false) (e := some (decide (c.length ≤ 48))) ?_ ?_ (n := k) (by omega)
  · rw [this]
    have e : ((List.range c.length).all (fun i => cxAt c (c.take i) i) = true ∧ c.length ≤ 48) ↔ CxP c := by
      rw [List.all_eq_true]
      constructor
      · rintro ⟨h, h48⟩
        have h' : ∀ i s, c[i]? = some s → SimpP s ∧ prevP (fun a b => befS a b = true) c i s ∧ (1 < s.length → ∀ k, k < s.length → dropI s k ∈ c.take i) := fun i s hs => (cxAt_iff hs).1 (h i (List.mem_range.2 (List.getElem?_eq_some_iff.1 hs).1))
        refine ⟨h48, fun s hs => ?_, ?_, fun s hs h1 k hk => ?_⟩
        · obtain ⟨i, hi⟩ := List.getElem?_of_mem hs
          exact (h' i s hi).1
        · have := prevP_pairwise (R := fun a b => befS a b = true) (fun a b c => befS_trans) (l := c) (m := c.length) (fun j hj x hx => (h' j x hx).2.1)
          rwa [List.take_length] at this
        · obtain ⟨i, hi⟩ := List.getElem?_of_mem hs
          exact List.mem_of_mem_take ((h' i s hi).2.2 h1 k hk)
      · intro h
        refine ⟨fun i hi => ?_, h.len⟩
        rw [List.mem_range] at hi
        have hg : c[i]? = some c[i] := List.getElem?_eq_getElem hi
        refine (cxAt_iff hg).2 ⟨h.simp _ (List.getElem_mem hi), pairwise_prevP h.ord hg, fun h1 k hk => ?_⟩
        have hm := h.face _ (List.getElem_mem hi) h1 k hk
        obtain ⟨j, hj⟩ := List.getElem?_of_mem hm
        obtain ⟨hjl, hje⟩ := List.getElem?_eq_some_iff.1 hj
        have hji : j < i := by
          by_cases q : j < i
          · exact q
          · have hb : befS (dropI c[i] k) c[i] = true := by
              unfold befS
              rw [dropI_len hk, decide_eq_true (by omega)]; rfl
            by_cases q2 : j = i
            · subst q2
              have := befS_irrefl c[j]
              rw [← hje, befS_irrefl] at hb; cases hb
            · have h3 := List.pairwise_iff_getElem.1 h.ord i j hi hjl (by omega)
              rw [hje, befS_asymm hb] at h3; cases h3
        rw [List.mem_take_iff_getElem]
        exact ⟨j, by omega, hje⟩
    by_cases q : CxP c
    · obtain ⟨q1, q2⟩ := e.2 q
      rw [if_pos q1, decide_eq_true q2, cxB_iff.2 q]
    · have : cxB c = false := by rw [Bool.eq_false_iff, ne_eq, cxB_iff]; exact q
      rw [this]
      by_cases q1 : (List.range c.length).all (fun i => cxAt c (c.take i) i) = true
      · rw [if_pos q1, decide_eq_false (fun q2 => q (e.1 ⟨q1, q2⟩))]
      · rw [if_neg q1]
  · intro n i hi hpre
    have hlt : (i : Int) < (c.length : Int) := by omega
    have hw := w_succ (i := i) (by omega)
    have hg : c[i]? = some c[i] := List.getElem?_eq_getElem hi
    have hsl := hce c[i] (List.getElem_mem hi)
    have hsorted : (c.take i).Pairwise (fun a b => befS a b = true) := prevP_pairwise (R := fun a b => befS a b = true) (fun a b c => befS_trans) (fun j hj x hx => ((cxAt_iff hx).1 (hpre j hj)).2.1)
    simp only [impl_ValidComplex_l0, hlt, decide_true, if_true, Int.natCast_nonneg, Int.toNat_natCast, hg, Option.bind_some, validSimplex_ok hk (show (c[i]).length ≤ 1000000000 by omega), facesOf_ok hk hsl, lostFace_ok hk ⟨hcl, hce⟩ (Nat.le_of_lt hi) hsorted hsl, hw]
    cases hsb : simpB c[i] with
    | false =>
      have : ¬ cxAt c (c.take i) i = true := fun h => by
        have := simpB_iff.2 ((cxAt_iff hg).1 h).1
        rw [hsb] at this; cases this
      rw [if_neg this]; simp
    | true =>
      have hsp := simpB_iff.1 hsb
      simp only [Bool.not_true, Bool.false_eq_true, if_false]
      by_cases h0 : 0 < i
      · have h0' : (0 : Int) < (i : Int) := by omega
        have hw1 : w_i64 ((i : Int) - 1) = ((i - 1 : Nat) : Int) := by rw [w_id (by omega) (by omega)]; omega
        have hg1 : c[i - 1]? = some c[i - 1] := List.getElem?_eq_getElem (by omega)
        have hpl := hce c[i - 1] (List.getElem_mem (by omega))
        simp only [h0', decide_true, if_true, hw1, Int.natCast_nonneg, Int.toNat_natCast, hg1, Option.bind_some, compareSx_ok hk (show (c[i - 1]).length ≤ 1000000000 by omega) (show (c[i]).length ≤ 1000000000 by omega), cmpSx_ge]
        cases hbf : befS c[i - 1] c[i] with
        | false =>
          have : ¬ cxAt c (c.take i) i = true := fun h => by
            have : befS c[i - 1] c[i] = true := ((cxAt_iff hg).1 h).2.1 h0 _ hg1
            rw [hbf] at this; cases this
          rw [if_neg this]; simp
        | true =>
          simp only [Bool.not_true, Bool.false_eq_true, if_false]
          cases hq : (facesL c[i]).any fun f => !decide (f ∈ c.take i) with
          | false =>
            rw [if_neg (by simp), if_pos ((cxAt_iff hg).2 ⟨hsp, fun _ t ht => by rw [hg1] at ht; cases ht; exact hbf, lost_iff.1 hq⟩)]
          | true =>
            rw [if_pos rfl, if_neg (fun h => by rw [lost_iff.2 ((cxAt_iff hg).1 h).2.2] at hq; cases hq)]
      · have h0' : ¬ (0 : Int) < (i : Int) := by omega
        simp only [h0', decide_false, Bool.false_eq_true, if_false]
        cases hq : (facesL c[i]).any fun f => !decide (f ∈ c.take i) with
        | false =>
          rw [if_neg (by simp), if_pos ((cxAt_iff hg).2 ⟨hsp, fun h => absurd h h0, lost_iff.1 hq⟩)]
        | true =>
          rw [if_pos rfl, if_neg (fun h => by rw [lost_iff.2 ((cxAt_iff hg).1 h).2.2] at hq; cases hq)]
  · intro n
    have e2 : decide ((c.length : Int) ≤ 48) = decide (c.length ≤ 48) := decide_eq_decide.2 (by omega)
    simp only [impl_ValidComplex_l0, Int.lt_irrefl, decide_false, Bool.false_eq_true, if_false, e2]
theorem prime_loop {k : Nat} {p : Int} (hp : p ≤ 251) : ∀ (m d n : Nat), 17 - d ≤ m → 2 ≤ d → m < n → d ≤ 17 → ∃ b, spec_l02Prime_l0 k n p (d : Int) (some true) = some b ∧ impl_ValidPrime_l0 k n p (d : Int) (some true) = some b
  | m, d, 0, _, _, h, _ => by omega
  | 0, d, n + 1, h, h2, _, h4 => by
    have hd : d = 17 := by omega
    subst hd
    have w1 : w_i64 (((17 : Nat) : Int) * ((17 : Nat) : Int)) = 289 := by rw [w_id (by omega) (by omega)]; rfl
    have hc : ¬ ((289 : Int) ≤ p) := by omega
    refine ⟨true, ?_, ?_⟩
    · unfold spec_l02Prime_l0; rw [w1, decide_eq_false hc, if_neg (by simp)]
    · unfold impl_ValidPrime_l0; rw [w1, decide_eq_false hc, if_neg (by simp)]
  | m + 1, d, n + 1, h, h2, hn, h4 => by
    by_cases hc : w_i64 ((d : Int) * (d : Int)) ≤ p
    · have hd0 : ¬ ((d : Int) = 0) := by omega
      have hw := w_succ (i := d) (by omega)
      by_cases hm : Int.tmod p (d : Int) = 0
      · refine ⟨false, ?_, ?_⟩
        · unfold spec_l02Prime_l0; rw [decide_eq_true hc, if_pos rfl, if_neg hd0, decide_eq_true hm, if_pos rfl]
        · unfold impl_ValidPrime_l0; rw [decide_eq_true hc, if_pos rfl, if_neg hd0, decide_eq_true hm, if_pos rfl]
      · by_cases h17 : d = 17
        · subst h17
          have w1 : w_i64 (((17 : Nat) : Int) * ((17 : Nat) : Int)) = 289 := by rw [w_id (by omega) (by omega)]; rfl
          rw [w1] at hc; omega
        · obtain ⟨b, h5, h6⟩ := prime_loop (k := k) hp m (d + 1) n (by omega) (by omega) (by omega) (by omega)
          refine ⟨b, ?_, ?_⟩
          · rw [← h5]; conv => lhs; unfold spec_l02Prime_l0
            rw [decide_eq_true hc, if_pos rfl, if_neg hd0, decide_eq_false hm, if_neg (by simp), hw]
          · rw [← h6]; conv => lhs; unfold impl_ValidPrime_l0
            rw [decide_eq_true hc, if_pos rfl, if_neg hd0, decide_eq_false hm, if_neg (by simp), hw]
    · refine ⟨true, ?_, ?_⟩
      · unfold spec_l02Prime_l0; rw [decide_eq_false hc, if_neg (by simp)]
      · unfold impl_ValidPrime_l0; rw [decide_eq_false hc, if_neg (by simp)]
/-- Both answer the same. -/
theorem prime_ok {k : Nat} (hk : KK ≤ k) (p : Int) : ∃ b, spec_ValidPrime k p = some b ∧ impl_ValidPrime k p = some b ∧ (b = true → 2 ≤ p ∧ p ≤ 251) := by
  have hK := KK_def
  unfold spec_ValidPrime spec_l02Prime impl_ValidPrime
  rw [l00In_ok, within_ok]
  by_cases h : 2 ≤ p ∧ p ≤ 251
  · obtain ⟨b, h1, h2⟩ := prime_loop (k := k) (p := p) h.2 15 2 k (by omega) (by omega) (by omega) (by omega)
    have h1 : spec_l02Prime_l0 k k p 2 (some true) = some b := h1
    have h2 : impl_ValidPrime_l0 k k p 2 (some true) = some b := h2
    refine ⟨b, ?_, ?_, fun _ => h⟩
    · simp [h, h1]
    · simp [h, h2]
  · exact ⟨false, by simp [h], by simp [h], fun h => by cases h⟩
abbrev Mat := Int × Int × Int × List Int
theorem column_ok {k : Nat} (hk : KK ≤ k) {v : List Int} (hv : v.length ≤ 1048576) (n : Int) {p : Int} (hp : -1000000 ≤ p ∧ p ≤ 1000000) : spec_l03Column k v n p = some (v.all (fun x => decide (0 ≤ x ∧ x ≤ p - 1)) && decide ((v.length : Int) = n)) := by
  have hK := KK_def
  have hw1 : w_i64 (p - 1) = p - 1 := w_id (by omega) (by omega)
  unfold spec_l03Column
  have := loop_all (L := fun m i => spec_l03Column_l0 k m v n p i (fun v_3 n_4 => some (decide ((List.length v_3 : Int) = n_4)))) (p := fun x => decide (0 ≤ x ∧ x ≤ p - 1)) (r := some false) (e := some (decide ((v.length : Int) = n))) v ?_ ?_ (n := k) (by omega)
  · refine this.trans ?_
    cases v.all (fun x => decide (0 ≤ x ∧ x ≤ p - 1)) <;> simp
  · intro m i x hx hlt
    have hw := w_succ (i := i) (by omega)
    simp only [spec_l03Column_l0, hlt, decide_true, if_true, Int.natCast_nonneg, Int.toNat_natCast, hx, Option.bind_some, l00In_ok, hw1, hw]
    by_cases c : 0 ≤ x ∧ x ≤ p - 1 <;> simp [c]
  · intro m
    simp only [spec_l03Column_l0, Int.lt_irrefl, decide_false, Bool.false_eq_true, if_false]
theorem elements_ok {k : Nat} (hk : KK ≤ k) {v : List Int} (hv : v.length ≤ 1048576) {p : Int} (hp : -1000000 ≤ p ∧ p ≤ 1000000) : impl_areElements k v p = some (v.all (fun x => decide (0 ≤ x ∧ x ≤ p - 1))) := by
  have hK := KK_def
  have hw1 : w_i64 (p - 1) = p - 1 := w_id (by omega) (by omega)
  unfold impl_areElements slices_ContainsFunc_int64__impl_areElements_1 slices_IndexFunc_int64__impl_areElements_1
  rw [loop_find (L := fun n i => slices_IndexFunc_int64__impl_areElements_1_l0 k n v p (v.length : Int) i (some (-1))) (p := fun x => !decide (0 ≤ x ∧ x ≤ p - 1)) v ?_ ?_ (n := k) (by omega)]
  · simp only [Option.bind_some, idxP_nonneg]
    congr 1
    rw [← List.not_all_eq_any_not, Bool.not_not]
  · intro n i x hi hlt
    have hw := w_succ (i := i) (by omega)
    simp only [slices_IndexFunc_int64__impl_areElements_1_l0, impl_areElements_1, impl_isElement, within_ok, hw1, hlt, decide_true, if_true, Int.natCast_nonneg, Int.toNat_natCast, hi, Option.bind_some, hw]
  · intro n
    simp [slices_IndexFunc_int64__impl_areElements_1_l0]
/-- A matrix as stated. -/
structure MatP (m : Mat) (R C : Nat) : Prop where
  rows : m.2.1 = (R : Int)
  cols : m.2.2.1 = (C : Int)
  r32 : R ≤ 32
  c32 : C ≤ 32
  len : m.2.2.2.length = R * C
  prime : 2 ≤ m.1 ∧ m.1 ≤ 251
  cells : ∀ x ∈ m.2.2.2, 0 ≤ x ∧ x ≤ 250
theorem matrix_ok {k : Nat} (hk : KK ≤ k) {m : Mat} (hv : m.2.2.2.length ≤ 1048576) : ∃ b, spec_l03Ok k m = some b ∧ impl_ValidMatrix k m = some b ∧ (b = true → ∃ R C, MatP m R C) := by
  obtain ⟨b, h1, h2, h3⟩ := prime_ok hk m.1
  unfold spec_l03Ok impl_ValidMatrix impl_isSide impl_size_int64
  rw [h1, h2]
  cases b
  · exact ⟨false, by simp, by simp, fun h => by cases h⟩
  · have hp := h3 rfl
    simp only [Option.bind_some, if_true, l00In_ok, within_ok, column_ok hk hv _ (show -1000000 ≤ m.1 ∧ m.1 ≤ 1000000 by omega), elements_ok hk hv (show -1000000 ≤ m.1 ∧ m.1 ≤ 1000000 by omega)]
    by_cases c1 : 0 ≤ m.2.1 ∧ m.2.1 ≤ 32
    · by_cases c2 : 0 ≤ m.2.2.1 ∧ m.2.2.1 ≤ 32
      · rw [decide_eq_true c1, decide_eq_true c2, if_pos rfl, if_pos rfl, if_pos rfl, if_pos rfl]
        obtain ⟨R, hR⟩ := Int.eq_ofNat_of_zero_le c1.1
        obtain ⟨C, hC⟩ := Int.eq_ofNat_of_zero_le c2.1
        have hRC : R * C ≤ 32 * 32 := Nat.mul_le_mul (by omega) (by omega)
        have hw : w_i64 (m.2.1 * m.2.2.1) = ((R * C : Nat) : Int) := by
          rw [hR, hC, ← Int.natCast_mul]
          exact w_id (by omega) (by omega)
        rw [hw]
        refine ⟨m.2.2.2.all (fun x => decide (0 ≤ x ∧ x ≤ m.1 - 1)) && decide ((m.2.2.2.length : Int) = ((R * C : Nat) : Int)), rfl, ?_, fun h => ?_⟩
        · by_cases c3 : (m.2.2.2.length : Int) = ((R * C : Nat) : Int)
          · rw [decide_eq_true c3, if_pos rfl, Bool.and_true]
          · rw [decide_eq_false c3, if_neg (by simp), Bool.and_false]
        · simp only [Bool.and_eq_true, List.all_eq_true, decide_eq_true_eq] at h
          refine ⟨R, C, hR, hC, by omega, by omega, by omega, hp, fun x hx => ?_⟩
          have := h.1 x hx
          omega
      · exact ⟨false, by simp [c1, c2], by simp [c1, c2], fun h => by cases h⟩
    · exact ⟨false, by simp [c1], by simp [c1], fun h => by cases h⟩
abbrev She := Cx × Int × List Int × List Mat
/-- The numbers of the simplices of a dimension. -/
def ofC (c : Cx) (d : Int) : List Nat := (List.range c.length).filter fun i => match c[i]? with | some s => decide ((s.length : Int) = d + 1) | none => false
theorem ofC_lt {c : Cx} {d : Int} {i : Nat} (h : i ∈ ofC c d) : i < c.length := List.mem_range.1 (List.mem_filter.1 h).1
theorem ofC_len (c : Cx) (d : Int) : (ofC c d).length ≤ c.length := by
  unfold ofC
  exact Nat.le_trans (List.length_filter_le ..) (by rw [List.length_range]; exact Nat.le_refl _)
theorem range_snoc' (f : Nat → Bool) (n : Nat) : (List.range (n + 1)).filter f = (List.range n).filter f ++ (if f n = true then [n] else []) := by
  rw [List.range_succ, List.filter_append, List.filter_cons, List.filter_nil]
theorem l05Of_ok {k : Nat} (hk : KK ≤ k) {c : Cx} (hc : smallCx c) {d : Int} (hd : -1000 ≤ d ∧ d ≤ 1000) : spec_l05Of k c d = some ((ofC c d).map fun i : Nat => (i : Int)) := by
  have hK := KK_def
  have hL := LIM_def
  obtain ⟨hcl, hce⟩ := hc
  have hwd : w_i64 (d + 1) = d + 1 := w_id (by omega) (by omega)
  unfold spec_l05Of
  have := loop_list (α := List Int) (A := List Int) (L := fun n i q => spec_l05Of_l0 k n c d i q (fun q_4 => some q_4)) (I := fun pre q => q = ((List.range pre.length).filter fun i => match c[i]? with | some s => decide ((s.length : Int) = d + 1) | none => false).map fun i : Nat => (i : Int)) (G := fun _ _ => some ((ofC c d).map fun i : Nat => (i : Int))) c ?_ ?_ k (by omega) [] (by simp)
  · exact this
  · intro n pre x post q hx hq ih hg hlt
    have hw := w_succ (i := pre.length) (by omega)
    have hql : q.length ≤ pre.length := by rw [hq, List.length_map]; exact Nat.le_trans (List.length_filter_le ..) (by rw [List.length_range]; exact Nat.le_refl _)
    have hlim : (q.length + 1) * 8 ≤ LIM := by omega
    simp only [spec_l05Of_l0, hlt, decide_true, if_true, Int.natCast_nonneg, Int.toNat_natCast, hg, Option.bind_some, hw, hwd, List.length_singleton, hlim]
    by_cases hb : (x.length : Int) = d + 1
    · rw [decide_eq_true hb, if_pos rfl]
      refine ih _ ?_
      rw [List.length_append, List.length_singleton, range_snoc', hg]
      simp only [hb, decide_true, if_true, List.map_append, hq, List.map_cons, List.map_nil]
    · rw [decide_eq_false hb, if_neg (by simp)]
      refine ih _ ?_
      rw [List.length_append, List.length_singleton, range_snoc', hg]
      simp only [hb, decide_false, Bool.false_eq_true, if_false, List.append_nil, hq]
  · intro n q hq
    simp only [spec_l05Of_l0, Int.lt_irrefl, decide_false, Bool.false_eq_true, if_false, hq]
    rfl
theorem simplicesOf_ok {k : Nat} (hk : KK ≤ k) {c : Cx} (hc : smallCx c) {d : Int} (hd : -1000 ≤ d ∧ d ≤ 1000) : impl_simplicesOf k c d = some ((ofC c d).map fun i : Nat => (i : Int)) := by
  have hK := KK_def
  have hL := LIM_def
  obtain ⟨hcl, hce⟩ := hc
  have hwd : w_i64 (d + 1) = d + 1 := w_id (by omega) (by omega)
  unfold impl_simplicesOf
  have := loop_list (α := List Int) (A := List Int) (L := fun n i q => impl_simplicesOf_l0 k n d c (c.length : Int) i q (fun q_4 => some q_4)) (I := fun pre q => q = ((List.range pre.length).filter fun i => match c[i]? with | some s => decide ((s.length : Int) = d + 1) | none => false).map fun i : Nat => (i : Int)) (G := fun _ _ => some ((ofC c d).map fun i : Nat => (i : Int))) c ?_ ?_ k (by omega) [] (by simp)
  · exact this
  · intro n pre x post q hx hq ih hg hlt
    have hw := w_succ (i := pre.length) (by omega)
    have hql : q.length ≤ pre.length := by rw [hq, List.length_map]; exact Nat.le_trans (List.length_filter_le ..) (by rw [List.length_range]; exact Nat.le_refl _)
    have hlim : (q.length + 1) * 8 ≤ LIM := by omega
    simp only [impl_simplicesOf_l0, impl_size_int64, hlt, decide_true, if_true, Int.natCast_nonneg, Int.toNat_natCast, hg, Option.bind_some, hw, hwd, List.length_singleton, hlim]
    by_cases hb : (x.length : Int) = d + 1
    · rw [decide_eq_true hb, if_pos rfl]
      refine ih _ ?_
      rw [List.length_append, List.length_singleton, range_snoc', hg]
      simp only [hb, decide_true, if_true, List.map_append, hq, List.map_cons, List.map_nil]
    · rw [decide_eq_false hb, if_neg (by simp)]
      refine ih _ ?_
      rw [List.length_append, List.length_singleton, range_snoc', hg]
      simp only [hb, decide_false, Bool.false_eq_true, if_false, List.append_nil, hq]
  · intro n q hq
    simp only [impl_simplicesOf_l0, Int.lt_irrefl, decide_false, Bool.false_eq_true, if_false, hq]
    rfl
/-- Stalks that lie in bounds, one a simplex. -/
structure StP (c : Cx) (st : List Int) : Prop where
  len : st.length = c.length
  val : ∀ x ∈ st, 0 ≤ x ∧ x ≤ 3
def sumSt (st : List Int) (l : List Nat) : Int := (l.map fun i => st.getD i 0).sum
theorem sumSt_snoc (st : List Int) (l : List Nat) (i : Nat) : sumSt st (l ++ [i]) = sumSt st l + st.getD i 0 := by unfold sumSt; simp
theorem st_at {c : Cx} {st : List Int} (h : StP c st) {i : Nat} (hi : i < c.length) : st[i]? = some (st.getD i 0) ∧ 0 ≤ st.getD i 0 ∧ st.getD i 0 ≤ 3 := by
  have hl : i < st.length := by rw [h.len]; exact hi
  have e : st.getD i 0 = st[i] := by rw [List.getD_eq_getElem?_getD, List.getElem?_eq_getElem hl]; rfl
  rw [e]
  exact ⟨List.getElem?_eq_getElem hl, h.val _ (List.getElem_mem hl)⟩
theorem sumSt_ok {c : Cx} {st : List Int} (h : StP c st) : ∀ (l : List Nat), (∀ i ∈ l, i < c.length) → 0 ≤ sumSt st l ∧ sumSt st l ≤ 3 * l.length
  | [], _ => by simp [sumSt]
  | i :: l, hl => by
    have ih := sumSt_ok h l (fun j hj => hl j (by simp [hj]))
    have := st_at h (hl i (by simp))
    have e : sumSt st (i :: l) = st.getD i 0 + sumSt st l := by unfold sumSt; simp
    rw [e, List.length_cons]
    omega
theorem l09Sum_ok {k : Nat} (hk : KK ≤ k) {c : Cx} (hc : smallCx c) {st : List Int} (h : StP c st) {d : Int} (hd : -1000 ≤ d ∧ d ≤ 1000) : spec_l09Sum k c st d = some (sumSt st (ofC c d)) := by
  have hK := KK_def
  have hol := ofC_len c d
  have hcl := hc.1
  unfold spec_l09Sum
  rw [l05Of_ok hk hc hd]
  simp only [Option.bind_some]
  have := loop_list (α := Nat) (A := Int) (L := fun n i z => spec_l09Sum_l0 k n st z i ((ofC c d).map fun i : Nat => (i : Int)) (fun z => some z)) (I := fun pre z => z = sumSt st pre) (G := fun _ _ => some (sumSt st (ofC c d))) (ofC c d) ?_ ?_ k (by omega) 0 rfl
  · exact this
  · intro n pre x post z hx hz ih hg hlt
    have hw := w_succ (i := pre.length) (by omega)
    have hxc : x < c.length := ofC_lt (by rw [hx]; simp : x ∈ ofC c d)
    have hF : ((ofC c d).map fun i : Nat => (i : Int))[pre.length]? = some (x : Int) := by rw [List.getElem?_map, hg]; rfl
    have hpl : pre.length < (ofC c d).length := by omega
    obtain ⟨s1, s2, s3⟩ := st_at h hxc
    have hb := sumSt_ok h pre (fun j hj => ofC_lt (by rw [hx]; simp [hj] : j ∈ ofC c d))
    have hwz : w_i64 (z + st.getD x 0) = z + st.getD x 0 := w_id (by omega) (by omega)
    simp only [spec_l09Sum_l0, List.length_map, hlt, hpl, decide_true, if_true, Int.natCast_nonneg, Int.toNat_natCast, and_self, hF, s1, Option.bind_some, hw, hwz]
    exact ih _ (by rw [sumSt_snoc, hz])
  · intro n z hz
    simp only [spec_l09Sum_l0, List.length_map, Int.lt_irrefl, decide_false, Bool.false_eq_true, if_false, hz]
theorem stalkSum_ok {k : Nat} (hk : KK ≤ k) {s : She} (hc : smallCx s.1) (h : StP s.1 s.2.2.1) {d : Int} (hd : -1000 ≤ d ∧ d ≤ 1000) : impl_stalkSum k s d = some (sumSt s.2.2.1 (ofC s.1 d)) := by
  have hK := KK_def
  have hol := ofC_len s.1 d
  have hcl := hc.1
  unfold impl_stalkSum
  rw [simplicesOf_ok hk hc hd]
  simp only [Option.bind_some, List.length_map]
  have := loop_list (α := Nat) (A := Int) (L := fun n i z => impl_stalkSum_l0 k n z ((ofC s.1 d).length : Int) i ((ofC s.1 d).map fun i : Nat => (i : Int)) s (fun z => some z)) (I := fun pre z => z = sumSt s.2.2.1 pre) (G := fun _ _ => some (sumSt s.2.2.1 (ofC s.1 d))) (ofC s.1 d) ?_ ?_ k (by omega) 0 rfl
  · exact this
  · intro n pre x post z hx hz ih hg hlt
    have hw := w_succ (i := pre.length) (by omega)
    have hxc : x < s.1.length := ofC_lt (by rw [hx]; simp : x ∈ ofC s.1 d)
    have hF : ((ofC s.1 d).map fun i : Nat => (i : Int))[pre.length]? = some (x : Int) := by rw [List.getElem?_map, hg]; rfl
    have hpl : pre.length < (ofC s.1 d).length := by omega
    obtain ⟨s1, s2, s3⟩ := st_at h hxc
    have hb := sumSt_ok h pre (fun j hj => ofC_lt (by rw [hx]; simp [hj] : j ∈ ofC s.1 d))
    have hwz : w_i64 (z + s.2.2.1.getD x 0) = z + s.2.2.1.getD x 0 := w_id (by omega) (by omega)
    simp only [impl_stalkSum_l0, List.length_map, hlt, hpl, decide_true, if_true, Int.natCast_nonneg, Int.toNat_natCast, and_self, hF, s1, Option.bind_some, hw, hwz]
    exact ih _ (by rw [sumSt_snoc, hz])
  · intro n z hz
    simp only [impl_stalkSum_l0, Int.lt_irrefl, decide_false, Bool.false_eq_true, if_false, hz]
noncomputable instance stP_dec (c : Cx) (st : List Int) : Decidable (StP c st) := Classical.propDecidable _
noncomputable def stB (c : Cx) (st : List Int) : Bool := decide (StP c st) && (List.range 4).all fun d => decide (sumSt st (ofC c (d : Int)) ≤ 32)
theorem stB_st {c : Cx} {st : List Int} (h : stB c st = true) : StP c st := by
  unfold stB at h
  rw [Bool.and_eq_true, decide_eq_true_eq] at h
  exact h.1
theorem StP_iff {c : Cx} {st : List Int} : (st.all (fun x => decide (0 ≤ x ∧ x ≤ 4 - 1)) && decide ((st.length : Int) = (c.length : Int))) = true ↔ StP c st := by
  simp only [Bool.and_eq_true, List.all_eq_true, decide_eq_true_eq]
  exact ⟨fun h => ⟨by omega, fun x hx => by have := h.1 x hx; omega⟩, fun h => ⟨fun x hx => by have := h.val x hx; omega, by have := h.len; omega⟩⟩
theorem l09Stalks_ok {k : Nat} (hk : KK ≤ k) {c : Cx} (hc : smallCx c) {st : List Int} (hs : st.length ≤ 1048576) : spec_l09Stalks k c st = some (stB c st) := by
  have hK := KK_def
  unfold spec_l09Stalks
  rw [column_ok hk hs _ (by omega)]
  simp only [Option.bind_some]
  by_cases h : StP c st
  · rw [StP_iff.2 h]
    simp only [Bool.not_true, Bool.false_eq_true, if_false]
    have := loop_allN (L := fun n i => spec_l09Stalks_l0 k n c st i (some true)) (b := 4) (p := fun d : Nat => decide (sumSt st (ofC c (d : Int)) ≤ 32)) (r := some false) (e := some true) ?_ ?_ (n := k) (by omega)
    · rw [this]
      unfold stB
      rw [decide_eq_true h, Bool.true_and]
      cases (List.range 4).all fun d => decide (sumSt st (ofC c (d : Int)) ≤ 32) <;> rfl
    · intro n i hi
      have hlt : (i : Int) ≤ 3 := by omega
      have hw := w_succ (i := i) (by omega)
      simp only [spec_l09Stalks_l0, hlt, decide_true, if_true, l09Sum_ok hk hc h (d := (i : Int)) (by omega), Option.bind_some, hw]
      by_cases c1 : sumSt st (ofC c (i : Int)) ≤ 32
      · rw [decide_eq_true c1, decide_eq_false (by omega), if_neg (by simp), if_pos rfl]
      · rw [decide_eq_false c1, decide_eq_true (by omega), if_pos rfl, if_neg (by simp)]
    · intro n
      have : ¬ (((4 : Nat) : Int) ≤ 3) := by omega
      simp only [spec_l09Stalks_l0, this, decide_false, Bool.false_eq_true, if_false]
  · have h2 : (st.all (fun x => decide (0 ≤ x ∧ x ≤ 4 - 1)) && decide ((st.length : Int) = (c.length : Int))) = false := by rw [Bool.eq_false_iff, ne_eq, StP_iff]; exact h
    rw [h2, if_pos (by simp)]
    unfold stB
    rw [decide_eq_false h]; rfl
theorem areStalks_ok {k : Nat} (hk : KK ≤ k) {c : Cx} (hc : smallCx c) {st : List Int} (hs : st.length ≤ 1048576) : impl_areStalks k c st = some (stB c st) := by
  have hK := KK_def
  have hcf : slices_ContainsFunc_int64__impl_areStalks_1 k st () = some (st.any fun x => !decide (0 ≤ x ∧ x ≤ 3)) := by
    unfold slices_ContainsFunc_int64__impl_areStalks_1 slices_IndexFunc_int64__impl_areStalks_1
    rw [loop_find (L := fun n i => slices_IndexFunc_int64__impl_areStalks_1_l0 k n st () (st.length : Int) i (some (-1))) (p := fun x => !decide (0 ≤ x ∧ x ≤ 3)) st ?_ ?_ (n := k) (by omega)]
    · rw [Option.bind_some, idxP_nonneg]
    · intro n i x hi hlt
      have hw := w_succ (i := i) (by omega)
      simp only [slices_IndexFunc_int64__impl_areStalks_1_l0, impl_areStalks_1, within_ok, hlt, decide_true, if_true, Int.natCast_nonneg, Int.toNat_natCast, hi, Option.bind_some, hw]
    · intro n
      simp [slices_IndexFunc_int64__impl_areStalks_1_l0]
  unfold impl_areStalks
  rw [hcf]
  simp only [Option.bind_some]
  by_cases hl : st.length = c.length
  · rw [decide_eq_true (show (st.length : Int) = (c.length : Int) by omega), if_neg (by simp)]
    by_cases hv : ∀ x ∈ st, 0 ≤ x ∧ x ≤ 3
    · have h : StP c st := ⟨hl, hv⟩
      have ha : (st.any fun x => !decide (0 ≤ x ∧ x ≤ 3)) = false := by
        rw [List.any_eq_false]; intro x hx; simp [hv x hx]
      rw [ha, if_neg (by simp)]
      have := loop_allN (L := fun n i => impl_areStalks_l0 k n st i c (some true)) (b := 4) (p := fun d : Nat => decide (sumSt st (ofC c (d : Int)) ≤ 32)) (r := some false) (e := some true) ?_ ?_ (n := k) (by omega)
      · rw [this]
        unfold stB
        rw [decide_eq_true h, Bool.true_and]
        cases (List.range 4).all fun d => decide (sumSt st (ofC c (d : Int)) ≤ 32) <;> rfl
      · intro n i hi
        have hlt : (i : Int) < 4 := by omega
        have hw := w_succ (i := i) (by omega)
        have hst := stalkSum_ok hk (s := (c, 0, st, [])) hc h (d := (i : Int)) (by omega)
        simp only at hst
        simp only [impl_areStalks_l0, hlt, decide_true, if_true, hst, Option.bind_some, hw]
        by_cases c1 : sumSt st (ofC c (i : Int)) ≤ 32
        · rw [decide_eq_true c1, decide_eq_false (by omega), if_neg (by simp), if_pos rfl]
        · rw [decide_eq_false c1, decide_eq_true (by omega), if_pos rfl, if_neg (by simp)]
      · intro n
        have : ¬ (((4 : Nat) : Int) < 4) := by omega
        simp only [impl_areStalks_l0, this, decide_false, Bool.false_eq_true, if_false]
    · have ha : (st.any fun x => !decide (0 ≤ x ∧ x ≤ 3)) = true := by
        rw [List.any_eq_true]
        apply Classical.byContradiction
        intro hn
        apply hv
        intro x hx
        apply Classical.byContradiction
        intro hx2
        exact hn ⟨x, hx, by simp only [Bool.not_eq_true', decide_eq_false_iff_not]; exact hx2⟩
      rw [ha, if_pos rfl]
      unfold stB
      rw [decide_eq_false (fun h : StP c st => hv h.val)]; rfl
  · rw [decide_eq_false (show ¬ (st.length : Int) = (c.length : Int) by omega), if_pos (by simp)]
    unfold stB
    rw [decide_eq_false (fun h : StP c st => hl h.len)]; rfl
/-- The numbers of a simplex's faces. -/
def facesIx (c : Cx) (s : List Int) : List Nat := (facesL s).map (posC c)
theorem facesL_len (s : List Int) : (facesL s).length = if 1 < s.length then s.length else 0 := by
  unfold facesL
  split
  · rw [List.length_map, List.length_range]
  · rfl
theorem facesIx_len (c : Cx) (s : List Int) : (facesIx c s).length = if 1 < s.length then s.length else 0 := by unfold facesIx; rw [List.length_map, facesL_len]
theorem facesIx_lt {c : Cx} (h : CxP c) {s : List Int} (hs : s ∈ c) {f : Nat} (hf : f ∈ facesIx c s) : f < c.length := by
  unfold facesIx at hf
  obtain ⟨g, hg, rfl⟩ := List.mem_map.1 hf
  obtain ⟨h1, j, hj, rfl⟩ := facesL_mem.1 hg
  exact posC_lt.2 (h.face s hs h1 j hj)
theorem cx_small {c : Cx} (h : CxP c) : smallCx c := ⟨by have := h.len; omega, fun s hs => by have := (h.simp s hs).len4; omega⟩
theorem l05Faces_ok {k : Nat} (hk : KK ≤ k) {c : Cx} (h : CxP c) {j : Nat} {s : List Int} (hj : c[j]? = some s) : spec_l05Faces k c (j : Int) = some ((facesIx c s).map fun i : Nat => (i : Int)) := by
  have hK := KK_def
  have hL := LIM_def
  have hm := List.mem_of_getElem? hj
  have hs4 := (h.simp s hm).len4
  have hsc := cx_small h
  unfold spec_l05Faces
  rw [if_pos (Int.natCast_nonneg _), Int.toNat_natCast, hj]
  simp only [Option.bind_some]
  by_cases c1 : 1 < s.length
  · have := loop_list (α := Nat) (A := List Int) (L := fun n i q => spec_l05Faces_l0 k n c s i q (fun q_5 => some q_5)) (I := fun pre q => q = (List.range pre.length).map fun i => ((posC c (dropI s i) : Nat) : Int)) (G := fun _ _ => some ((facesIx c s).map fun i : Nat => (i : Int))) (List.range s.length) ?_ ?_ k (by simp; omega) [] (by simp)
    · exact this
    · intro n pre x post q hx hq ih hg hlt
      rw [List.length_range] at hlt
      have hpl : pre.length < s.length := by omega
      have hw := w_succ (i := pre.length) (by omega)
      have hlim : (q.length + 1) * 8 ≤ LIM := by rw [hq, List.length_map, List.length_range]; omega
      have hin := h.face s hm c1 pre.length hpl
      have c1' : (1 : Int) < (s.length : Int) := by omega
      simp only [spec_l05Faces_l0, hlt, c1', decide_true, if_true, l05Drop_ok (show s.length ≤ 1048576 by omega) hpl, l05Find_ok hk hsc, posC_lt.2 hin, Option.bind_some, List.length_singleton, hlim, hw]
      refine ih _ ?_
      rw [hq, List.length_append, List.length_singleton, List.range_succ, List.map_append]
      rfl
    · intro n q hq
      rw [List.length_range] at hq ⊢
      simp only [spec_l05Faces_l0, Int.lt_irrefl, decide_false, Bool.false_eq_true, if_false, hq]
      unfold facesIx facesL
      rw [if_pos c1, List.map_map, List.map_map]
      rfl
  · obtain ⟨n, hn⟩ : ∃ n, k = n + 1 := ⟨k - 1, by omega⟩
    have c1' : ¬ (1 : Int) < (s.length : Int) := by omega
    conv => lhs; arg 2; rw [hn]
    simp only [spec_l05Faces_l0, c1', decide_false, Bool.false_eq_true, if_false]
    unfold facesIx facesL
    rw [if_neg c1]
    split <;> rfl
theorem faceIndices_ok {k : Nat} (hk : KK ≤ k) {c : Cx} (h : CxP c) {j : Nat} {s : List Int} (hj : c[j]? = some s) : impl_faceIndices k c (j : Int) = some ((facesIx c s).map fun i : Nat => (i : Int)) := by
  have hK := KK_def
  have hL := LIM_def
  have hm := List.mem_of_getElem? hj
  have hs4 := (h.simp s hm).len4
  have hsc := cx_small h
  have hfl := facesL_len s
  have hfl' : (facesL s).length ≤ 4 := by rw [hfl]; split <;> omega
  unfold impl_faceIndices
  rw [if_pos (Int.natCast_nonneg _), Int.toNat_natCast, hj]
  simp only [Option.bind_some, facesOf_ok hk (show s.length ≤ 1048576 by omega)]
  have := loop_list (α := List Int) (A := List Int) (L := fun n i q => impl_faceIndices_l0 k n ((facesL s).length : Int) i q (facesL s) c (fun q_8 => some q_8)) (I := fun pre q => q = pre.map fun f => ((posC c f : Nat) : Int)) (G := fun _ _ => some ((facesIx c s).map fun i : Nat => (i : Int))) (facesL s) ?_ ?_ k (by omega) [] rfl
  · exact this
  · intro n pre x post q hx hq ih hg hlt
    have hpl : pre.length < (facesL s).length := by omega
    have hw := w_succ (i := pre.length) (by omega)
    have hlim : (q.length + 1) * 8 ≤ LIM := by rw [hq, List.length_map]; omega
    obtain ⟨h1, i, hi, rfl⟩ := facesL_mem.1 (List.mem_of_getElem? hg)
    have hin := h.face s hm h1 i hi
    simp only [impl_faceIndices_l0, hlt, hpl, decide_true, if_true, Int.natCast_nonneg, Int.toNat_natCast, and_self, hg, indexOf_ok hk hsc h.ord (show (dropI s i).length ≤ 1048576 by rw [dropI_len hi]; omega), posC_lt.2 hin, Option.bind_some, List.length_singleton, hlim, hw]
    exact ih _ (by rw [hq, List.map_append]; rfl)
  · intro n q hq
    simp only [impl_faceIndices_l0, Int.lt_irrefl, decide_false, Bool.false_eq_true, if_false, hq]
    unfold facesIx
    rw [List.map_map]
    rfl
/-- The arrows to a simplex, and to the first n of them: simplex, number, face. -/
def arrBlk (c : Cx) (j : Nat) : List (Nat × Nat × Nat) := match c[j]? with
  | some s => (List.range (facesIx c s).length).map fun i => (j, i, (facesIx c s).getD i 0)
  | none => []
def arrN (c : Cx) (n : Nat) : List (Nat × Nat × Nat) := (List.range n).flatMap (arrBlk c)
theorem arrN_succ (c : Cx) (n : Nat) : arrN c (n + 1) = arrN c n ++ arrBlk c n := by unfold arrN; rw [List.range_succ, List.flatMap_append]; simp
theorem arrBlk_len {c : Cx} {j : Nat} {s : List Int} (hj : c[j]? = some s) : (arrBlk c j).length = if 1 < s.length then s.length else 0 := by
  unfold arrBlk; rw [hj]; simp only [List.length_map, List.length_range, facesIx_len]
theorem arrBlk_get {c : Cx} {j i : Nat} {s : List Int} (hj : c[j]? = some s) (hi : i < (facesIx c s).length) : (arrBlk c j)[i]? = some (j, i, (facesIx c s).getD i 0) := by
  unfold arrBlk; rw [hj]; simp only [List.getElem?_map, List.getElem?_range hi]; rfl
theorem arrN_len {c : Cx} (h : CxP c) : ∀ n, n ≤ c.length → (arrN c n).length ≤ 4 * n
  | 0, _ => by simp [arrN]
  | n + 1, hn => by
    have ih := arrN_len h n (by omega)
    have hg : c[n]? = some c[n] := List.getElem?_eq_getElem (by omega)
    have h4 := (h.simp _ (List.mem_of_getElem? hg)).len4
    rw [arrN_succ, List.length_append, arrBlk_len hg]
    split <;> omega
theorem arrN_mono (c : Cx) {a b : Nat} (h : a ≤ b) : (arrN c a).length ≤ (arrN c b).length := by
  induction b with
  | zero => rw [show a = 0 by omega]; exact Nat.le_refl _
  | succ b ih =>
    by_cases e : a = b + 1
    · rw [e]; exact Nat.le_refl _
    · have := ih (by omega)
      rw [arrN_succ, List.length_append]; omega
theorem l09Place_ok {k : Nat} (hk : KK ≤ k) {c : Cx} (h : CxP c) {j i : Nat} (hj : j ≤ c.length) (hi : i ≤ 4) : spec_l09Place k c (j : Int) (i : Int) = some (((arrN c j).length + i : Nat) : Int) := by
  have hK := KK_def
  have hcl := h.len
  unfold spec_l09Place
  have := loop_list (α := Nat) (A := Int) (L := fun n p z => spec_l09Place_l0 k n c (j : Int) (i : Int) z p (fun i_3 at_4 => some (w_i64 (at_4 + i_3)))) (I := fun pre z => z = ((arrN c pre.length).length : Int)) (G := fun _ _ => some (((arrN c j).length + i : Nat) : Int)) (List.range j) ?_ ?_ k (by simp; omega) 0 rfl
  · exact this
  · intro n pre x post z hx hz ih hg hlt
    rw [List.length_range] at hlt
    have hpl : pre.length < c.length := by omega
    have hw := w_succ (i := pre.length) (by omega)
    have hgc : c[pre.length]? = some c[pre.length] := List.getElem?_eq_getElem hpl
    have h4 := (h.simp _ (List.mem_of_getElem? hgc)).len4
    have hal := arrN_len h pre.length (by omega)
    have hnx : (arrN c (pre.length + 1)).length = (arrN c pre.length).length + (if 1 < (c[pre.length]).length then (c[pre.length]).length else 0) := by rw [arrN_succ, List.length_append, arrBlk_len hgc]
    simp only [spec_l09Place_l0, hlt, decide_true, if_true, Int.natCast_nonneg, Int.toNat_natCast, hgc, Option.bind_some, hw]
    by_cases c1 : 1 < (c[pre.length]).length
    · have hwz : w_i64 (z + ((c[pre.length]).length : Int)) = z + ((c[pre.length]).length : Int) := w_id (by omega) (by omega)
      rw [decide_eq_true (by omega), if_pos rfl, hwz]
      refine ih _ ?_
      rw [if_pos c1] at hnx
      rw [List.length_append, List.length_singleton, hnx, hz]; rfl
    · rw [decide_eq_false (by omega), if_neg (by simp)]
      refine ih _ ?_
      rw [if_neg c1] at hnx
      rw [List.length_append, List.length_singleton, hnx, hz]; rfl
  · intro n z hz
    rw [List.length_range] at hz ⊢
    have hal := arrN_len h j hj
    have hwz : w_i64 (z + (i : Int)) = (((arrN c j).length + i : Nat) : Int) := by rw [w_id (by omega) (by omega)]; omega
    simp only [spec_l09Place_l0, Int.lt_irrefl, decide_false, Bool.false_eq_true, if_false, hwz]
def toI3 (a : Nat × Nat × Nat) : Int × Int × Int := ((a.1 : Int), (a.2.1 : Int), (a.2.2 : Int))
theorem arrows_ok {k : Nat} (hk : KK ≤ k) {c : Cx} (h : CxP c) : impl_arrows k c = some ((arrN c c.length).map toI3) := by
  have hK := KK_def
  have hL := LIM_def
  have hcl := h.len
  unfold impl_arrows impl_size_int64_i2
  simp only [Option.bind_some]
  have := loop_list (α := List Int) (A := List (Int × Int × Int)) (L := fun n i q => impl_arrows_l0 k n (c.length : Int) i q c (fun q_8 => some q_8)) (I := fun pre q => q = (arrN c pre.length).map toI3) (G := fun _ _ => some ((arrN c c.length).map toI3)) c ?_ ?_ k (by omega) [] rfl
  · exact this
  · intro n pre x post q hx hq ih hg hlt
    have hw := w_succ (i := pre.length) (by omega)
    have hpl : pre.length < c.length := by omega
    have h4 := (h.simp _ (List.mem_of_getElem? hg)).len4
    have hal := arrN_len h pre.length (by omega)
    have hfl := facesIx_len c x
    have hfl4 : (facesIx c x).length ≤ 4 := by rw [hfl]; split <;> omega
    simp only [impl_arrows_l0, hlt, decide_true, if_true, faceIndices_ok hk h hg, Option.bind_some, List.length_map]
    have inner : ∀ E : Int → Int → List (Int × Int × Int) → Cx → Option (List (Int × Int × Int)), impl_arrows_l1 k k (pre.length : Int) (c.length : Int) (pre.length : Int) ((facesIx c x).length : Int) 0 q ((facesIx c x).map fun i : Nat => (i : Int)) c E = E (c.length : Int) (pre.length : Int) ((arrN c (pre.length + 1)).map toI3) c := by
      intro E
      have := loop_list (α := Nat) (A := List (Int × Int × Int)) (L := fun n i r => impl_arrows_l1 k n (pre.length : Int) (c.length : Int) (pre.length : Int) ((facesIx c x).length : Int) i r ((facesIx c x).map fun i : Nat => (i : Int)) c E) (I := fun pre2 r => r = ((arrN c pre.length) ++ (List.range pre2.length).map fun i => (pre.length, i, (facesIx c x).getD i 0)).map toI3) (G := fun _ _ => E (c.length : Int) (pre.length : Int) ((arrN c (pre.length + 1)).map toI3) c) (facesIx c x) ?_ ?_ k (by omega) q (by simp [hq])
      · exact this
      · intro n pre2 f post2 r hx2 hr ih2 hg2 hlt2
        have hpl2 : pre2.length < (facesIx c x).length := by omega
        have hw2 := w_succ (i := pre2.length) (by omega)
        have hF : ((facesIx c x).map fun i : Nat => (i : Int))[pre2.length]? = some (f : Int) := by rw [List.getElem?_map, hg2]; rfl
        have hlim : (r.length + 1) * 24 ≤ LIM := by rw [hr, List.length_map, List.length_append, List.length_map, List.length_range]; omega
        have hgd : (facesIx c x).getD pre2.length 0 = f := by rw [List.getD_eq_getElem?_getD, hg2]; rfl
        simp only [impl_arrows_l1, List.length_map, hlt2, hpl2, decide_true, if_true, Int.natCast_nonneg, Int.toNat_natCast, and_self, hF, Option.bind_some, List.length_singleton, hlim, hw2]
        refine ih2 _ ?_
        rw [hr, List.length_append, List.length_singleton, List.range_succ, List.map_append (l₁ := List.range pre2.length), ← List.append_assoc, List.map_append (f := toI3) (l₁ := arrN c pre.length ++ _)]
        show _ = _ ++ [toI3 (pre.length, pre2.length, (facesIx c x).getD pre2.length 0)]
        rw [hgd]; rfl
      · intro n r hr
        have e : arrBlk c pre.length = (List.range (facesIx c x).length).map fun i => (pre.length, i, (facesIx c x).getD i 0) := by unfold arrBlk; rw [hg]
        simp only [impl_arrows_l1, Int.lt_irrefl, decide_false, Bool.false_eq_true, if_false, hr]
        rw [arrN_succ, e]
    rw [inner, hw]
    exact ih _ (by rw [List.length_append, List.length_singleton])
  · intro n q hq
    simp only [impl_arrows_l0, Int.lt_irrefl, decide_false, Bool.false_eq_true, if_false, hq]
noncomputable def matB (k : Nat) (m : Mat) : Bool := (spec_l03Ok k m).getD false
theorem matB_ok {k : Nat} (hk : KK ≤ k) {m : Mat} (hv : m.2.2.2.length ≤ 1048576) : spec_l03Ok k m = some (matB k m) ∧ impl_ValidMatrix k m = some (matB k m) ∧ (matB k m = true → ∃ R C, MatP m R C) := by
  obtain ⟨b, h1, h2, h3⟩ := matrix_ok hk hv
  have e : matB k m = b := by unfold matB; rw [h1]; rfl
  rw [e]
  exact ⟨h1, h2, h3⟩
noncomputable def primeB (k : Nat) (p : Int) : Bool := (spec_ValidPrime k p).getD false
theorem primeB_ok {k : Nat} (hk : KK ≤ k) (p : Int) : spec_ValidPrime k p = some (primeB k p) ∧ impl_ValidPrime k p = some (primeB k p) ∧ (primeB k p = true → 2 ≤ p ∧ p ≤ 251) := by
  obtain ⟨b, h1, h2, h3⟩ := prime_ok hk p
  have e : primeB k p = b := by unfold primeB; rw [h1]; rfl
  rw [e]
  exact ⟨h1, h2, h3⟩
/-- A map fits its arrow. -/
noncomputable def okA (k : Nat) (s : She) (a : Nat × Nat × Nat) (m : Mat) : Bool := matB k m && (decide (m.1 = s.2.1) && (decide (m.2.1 = s.2.2.1.getD a.1 0) && decide (m.2.2.1 = s.2.2.1.getD a.2.2 0)))
noncomputable def chk1 (k : Nat) (s : She) (o : Nat) (l : List (Nat × Nat × Nat)) (i : Nat) : Bool := match l[i]? with
  | some a => (match s.2.2.2[o + i]? with | some m => okA k s a m | none => false)
  | none => true
/-- Maps from a place on fit arrows. -/
def chk (k : Nat) (s : She) (o : Nat) (l : List (Nat × Nat × Nat)) : Prop := ∀ j a, l[j]? = some a → ∃ m, s.2.2.2[o + j]? = some m ∧ okA k s a m = true
theorem chk1_iff {k : Nat} {s : She} {o : Nat} {l : List (Nat × Nat × Nat)} : (List.range l.length).all (chk1 k s o l) = true ↔ chk k s o l := by
  simp only [List.all_eq_true, List.mem_range]
  constructor
  · intro z i a ha
    have := z i (List.getElem?_eq_some_iff.1 ha).1
    unfold chk1 at this
    rw [ha] at this
    cases hm : s.2.2.2[o + i]? with
    | none => rw [hm] at this; cases this
    | some m => rw [hm] at this; exact ⟨m, rfl, this⟩
  · intro z i hi
    obtain ⟨m, h1, h2⟩ := z i _ (List.getElem?_eq_getElem hi)
    unfold chk1
    rw [List.getElem?_eq_getElem hi, h1]
    exact h2
theorem chk_append {k : Nat} {s : She} {o : Nat} {l r : List (Nat × Nat × Nat)} : chk k s o (l ++ r) ↔ chk k s o l ∧ chk k s (o + l.length) r := by
  constructor
  · intro h
    refine ⟨fun j a hj => h j a (by rw [List.getElem?_append_left (List.getElem?_eq_some_iff.1 hj).1]; exact hj), fun j a hj => ?_⟩
    have := h (l.length + j) a (by rw [List.getElem?_append_right (by omega), Nat.add_sub_cancel_left]; exact hj)
    rwa [← Nat.add_assoc] at this
  · rintro ⟨h1, h2⟩ j a hj
    by_cases c : j < l.length
    · rw [List.getElem?_append_left c] at hj; exact h1 j a hj
    · rw [List.getElem?_append_right (by omega)] at hj
      have := h2 (j - l.length) a hj
      rwa [show o + l.length + (j - l.length) = o + j by omega] at this
theorem chk_all {k : Nat} {s : She} : ∀ n, (∀ j, j < n → chk k s (arrN s.1 j).length (arrBlk s.1 j)) ↔ chk k s 0 (arrN s.1 n)
  | 0 => by
    constructor
    · intro _ j a hj; simp [arrN] at hj
    · intro _ j hj; omega
  | n + 1 => by
    rw [arrN_succ, chk_append, ← chk_all n, Nat.zero_add]
    constructor
    · intro h; exact ⟨fun j hj => h j (by omega), h n (by omega)⟩
    · rintro ⟨h1, h2⟩ j hj
      by_cases e : j = n
      · subst e; exact h2
      · exact h1 j (by omega)
open Classical in
noncomputable def sheB (k : Nat) (s : She) : Bool := cxB s.1 && (primeB k s.2.1 && (stB s.1 s.2.2.1 && decide (s.2.2.2.length = (arrN s.1 s.1.length).length ∧ chk k s 0 (arrN s.1 s.1.length))))
structure smallSh (s : She) : Prop where
  cx : smallCx s.1
  st : s.2.2.1.length ≤ 1048576
  maps : s.2.2.2.length ≤ 1048576
  cells : ∀ m ∈ s.2.2.2, m.2.2.2.length ≤ 1048576
theorem arr_in {c : Cx} (h : CxP c) {n j : Nat} {a : Nat × Nat × Nat} (hn : n ≤ c.length) (hj : (arrN c n)[j]? = some a) : a.1 < c.length ∧ a.2.2 < c.length := by
  have hm := List.mem_of_getElem? hj
  unfold arrN at hm
  obtain ⟨i, hi, ha⟩ := List.mem_flatMap.1 hm
  rw [List.mem_range] at hi
  have hg : c[i]? = some c[i] := List.getElem?_eq_getElem (by omega)
  unfold arrBlk at ha
  rw [hg] at ha
  obtain ⟨p, hp, rfl⟩ := List.mem_map.1 ha
  rw [List.mem_range] at hp
  refine ⟨by show i < _; omega, facesIx_lt h (List.mem_of_getElem? hg) ?_⟩
  show (facesIx c c[i]).getD p 0 ∈ _
  rw [List.getD_eq_getElem?_getD, List.getElem?_eq_getElem hp]
  exact List.getElem_mem hp
open Classical in
theorem l09Ok_ok {k : Nat} (hk : KK ≤ k) {s : She} (hs : smallSh s) : spec_l09Ok k s = some (sheB k s) := by
  have hK := KK_def
  unfold spec_l09Ok sheB
  obtain ⟨p1, p2, p3⟩ := primeB_ok hk s.2.1
  rw [l05Ok_ok hk hs.cx, p1, l09Stalks_ok hk hs.cx hs.st]
  cases hcx : cxB s.1 with
  | false => simp
  | true =>
  cases primeB k s.2.1 with
  | false => simp
  | true =>
  cases hst : stB s.1 s.2.2.1 with
  | false => simp
  | true =>
    have h := cxB_iff.1 hcx
    have hS := stB_st hst
    have hcl := h.len
    have hal := arrN_len h s.1.length (Nat.le_refl _)
    have hcount : spec_l09Count k s.1 = some ((arrN s.1 s.1.length).length : Int) := by
      unfold spec_l09Count
      have := l09Place_ok hk h (j := s.1.length) (i := 0) (Nat.le_refl _) (by omega)
      rw [Nat.add_zero] at this
      rw [show ((0 : Nat) : Int) = 0 from rfl] at this
      rw [this]; rfl
    simp only [Option.bind_some, Bool.not_true, Bool.false_eq_true, if_false, hcount, Bool.true_and]
    by_cases hN : s.2.2.2.length = (arrN s.1 s.1.length).length
    · rw [decide_eq_true (show (s.2.2.2.length : Int) = ((arrN s.1 s.1.length).length : Int) by omega), if_neg (by simp)]
      have := loop_allN (L := fun n i => spec_l09Ok_l0 k n s i (some true)) (b := s.1.length) (p := fun j => decide (chk k s (arrN s.1 j).length (arrBlk s.1 j))) (r := some false) (e := some true) ?_ ?_ (n := k) (by omega)
      · rw [this]
        have e : ((List.range s.1.length).all (fun j => decide (chk k s (arrN s.1 j).length (arrBlk s.1 j))) = true) ↔ chk k s 0 (arrN s.1 s.1.length) := by
          rw [← chk_all]
          simp only [List.all_eq_true, List.mem_range, decide_eq_true_eq]
        by_cases q : chk k s 0 (arrN s.1 s.1.length)
        · rw [if_pos (e.2 q), decide_eq_true ⟨hN, q⟩]
        · rw [if_neg (fun z => q (e.1 z)), decide_eq_false (fun z => q z.2)]
      · intro n j hj
        have hlt : (j : Int) < (s.1.length : Int) := by omega
        have hw := w_succ (i := j) (by omega)
        have hg : s.1[j]? = some s.1[j] := List.getElem?_eq_getElem hj
        have hm := List.mem_of_getElem? hg
        have h4 := (h.simp _ hm).len4
        have hbl := arrBlk_len hg
        have hnx : (arrN s.1 (j + 1)).length = (arrN s.1 j).length + (arrBlk s.1 j).length := by rw [arrN_succ, List.length_append]
        have hmono := arrN_mono s.1 (show j + 1 ≤ s.1.length by omega)
        have haj := arrN_len h j (by omega)
        have hfl := facesIx_len s.1 s.1[j]
        simp only [spec_l09Ok_l0, hlt, decide_true, if_true]
        have inner := loop_allN (L := fun m i => spec_l09Ok_l1 k m s (j : Int) i (fun s_5 k_6 => spec_l09Ok_l0 k n s_5 (w_i64 (k_6 + 1)) (some true))) (b := (arrBlk s.1 j).length) (p := chk1 k s (arrN s.1 j).length (arrBlk s.1 j)) (r := some false) (e := spec_l09Ok_l0 k n s ((j + 1 : Nat) : Int) (some true)) ?_ ?_ (n := k) (by rw [hbl]; split <;> omega)
        · refine Eq.trans inner ?_
          have e := chk1_iff (k := k) (s := s) (o := (arrN s.1 j).length) (l := arrBlk s.1 j)
          by_cases q : chk k s (arrN s.1 j).length (arrBlk s.1 j)
          · rw [if_pos (e.2 q), if_pos (decide_eq_true q)]
          · rw [if_neg (fun z => q (e.1 z)), if_neg (by simpa using q)]
        · intro m i hi
          have h1 : 1 < (s.1[j]).length := by
            apply Classical.byContradiction
            intro hn
            rw [hbl, if_neg hn] at hi; omega
          rw [if_pos h1] at hbl hfl
          have hil : i < (s.1[j]).length := by omega
          have hil' : (i : Int) < ((s.1[j]).length : Int) := by omega
          have h1' : (1 : Int) < ((s.1[j]).length : Int) := by omega
          have hw2 := w_succ (i := i) (by omega)
          have hml : (arrN s.1 j).length + i < s.2.2.2.length := by omega
          have hgm : s.2.2.2[(arrN s.1 j).length + i]? = some s.2.2.2[(arrN s.1 j).length + i] := List.getElem?_eq_getElem hml
          have hcells := hs.cells _ (List.mem_of_getElem? hgm)
          have hfi : i < (facesIx s.1 s.1[j]).length := by omega
          have hga := arrBlk_get hg hfi
          have hgd : (facesIx s.1 s.1[j])[i]? = some ((facesIx s.1 s.1[j]).getD i 0) := by rw [List.getD_eq_getElem?_getD, List.getElem?_eq_getElem hfi]; rfl
          have hF : ((facesIx s.1 s.1[j]).map fun i : Nat => (i : Int))[i]? = some (((facesIx s.1 s.1[j]).getD i 0 : Nat) : Int) := by rw [List.getElem?_map, hgd]; rfl
          have hflt : (facesIx s.1 s.1[j]).getD i 0 < s.1.length := facesIx_lt h hm (List.mem_of_getElem? hgd)
          obtain ⟨s1, _⟩ := st_at hS hj
          obtain ⟨s2, _⟩ := st_at hS hflt
          simp only [spec_l09Ok_l1, spec_l09Map, Int.natCast_nonneg, if_true, Int.toNat_natCast, hg, Option.bind_some, hil', h1', decide_true, l09Place_ok hk h (show j ≤ s.1.length by omega) (show i ≤ 4 by omega), hgm, l05Faces_ok hk h hg, List.length_map, hfi, and_self, hF, (matB_ok hk hcells).1, s1, s2, hw2]
          have e : chk1 k s (arrN s.1 j).length (arrBlk s.1 j) i = okA k s (j, i, (facesIx s.1 s.1[j]).getD i 0) s.2.2.2[(arrN s.1 j).length + i] := by unfold chk1; rw [hga, hgm]
          rw [e]
          unfold okA
          generalize s.2.2.2[(arrN s.1 j).length + i] = mm
          generalize hv : s.2.2.1.getD ((facesIx s.1 s.1[j]).getD i 0) 0 = v
          generalize hu : s.2.2.1.getD j 0 = u
          clear hv hu
          cases matB k mm
          · simp
          · by_cases q1 : mm.1 = s.2.1
            · by_cases q2 : mm.2.1 = u
              · by_cases q3 : mm.2.2.1 = v <;> simp [q1, q2, q3]
              · simp [q1, q2]
            · simp [q1]
        · intro m
          have hstop : ¬ (((arrBlk s.1 j).length : Int) < ((s.1[j]).length : Int) ∧ (1 : Int) < ((s.1[j]).length : Int)) := by
            rw [hbl]; split <;> omega
          simp only [spec_l09Ok_l1, Int.natCast_nonneg, if_true, Int.toNat_natCast, hg, Option.bind_some, hw]
          by_cases q1 : ((arrBlk s.1 j).length : Int) < ((s.1[j]).length : Int)
          · have q2 : ¬ (1 : Int) < ((s.1[j]).length : Int) := fun z => hstop ⟨q1, z⟩
            rw [decide_eq_true q1, if_pos rfl, decide_eq_false q2, if_neg (by simp)]
          · rw [decide_eq_false q1, if_neg (by simp)]
      · intro n
        simp only [spec_l09Ok_l0, Int.lt_irrefl, decide_false, Bool.false_eq_true, if_false]
    · rw [decide_eq_false (show ¬ (s.2.2.2.length : Int) = ((arrN s.1 s.1.length).length : Int) by omega), if_pos (by simp), decide_eq_false (fun z => hN z.1)]
open Classical in
theorem validSheaf_ok {k : Nat} (hk : KK ≤ k) {s : She} (hs : smallSh s) : impl_ValidSheaf k s = some (sheB k s) := by
  have hK := KK_def
  unfold impl_ValidSheaf sheB
  obtain ⟨p1, p2, p3⟩ := primeB_ok hk s.2.1
  rw [validComplex_ok hk hs.cx, p2, areStalks_ok hk hs.cx hs.st]
  cases hcx : cxB s.1 with
  | false => simp
  | true =>
  cases primeB k s.2.1 with
  | false => simp
  | true =>
  cases hst : stB s.1 s.2.2.1 with
  | false => simp
  | true =>
    have h := cxB_iff.1 hcx
    have hS := stB_st hst
    have hcl := h.len
    have hal := arrN_len h s.1.length (Nat.le_refl _)
    simp only [Option.bind_some, Bool.not_true, Bool.false_eq_true, if_false, arrows_ok hk h, Bool.true_and, List.length_map]
    have := loop_allN (L := fun n i => impl_ValidSheaf_l0 k n ((arrN s.1 s.1.length).length : Int) i ((arrN s.1 s.1.length).map toI3) s (fun q_11 v_12 => some (decide ((List.length q_11 : Int) = (List.length v_12.2.2.2 : Int))))) (b := (arrN s.1 s.1.length).length) (p := chk1 k s 0 (arrN s.1 s.1.length)) (r := some false) (e := some (decide ((arrN s.1 s.1.length).length = s.2.2.2.length))) ?_ ?_ (n := k) (by omega)
    · rw [this]
      have e := chk1_iff (k := k) (s := s) (o := 0) (l := arrN s.1 s.1.length)
      by_cases q : chk k s 0 (arrN s.1 s.1.length)
      · rw [if_pos (e.2 q)]
        congr 1
        exact decide_eq_decide.2 ⟨fun z => ⟨z.symm, q⟩, fun z => z.1.symm⟩
      · rw [if_neg (fun z => q (e.1 z)), decide_eq_false (fun z => q z.2)]
    · intro n i hi
      have hlt : (i : Int) < ((arrN s.1 s.1.length).length : Int) := by omega
      have hw := w_succ (i := i) (by omega)
      have hg : (arrN s.1 s.1.length)[i]? = some (arrN s.1 s.1.length)[i] := List.getElem?_eq_getElem hi
      have hF : ((arrN s.1 s.1.length).map toI3)[i]? = some (toI3 (arrN s.1 s.1.length)[i]) := by rw [List.getElem?_map, hg]; rfl
      obtain ⟨a1, a2⟩ := arr_in h (Nat.le_refl _) hg
      obtain ⟨s1, _⟩ := st_at hS a1
      obtain ⟨s2, _⟩ := st_at hS a2
      have hch : chk1 k s 0 (arrN s.1 s.1.length) i = (match s.2.2.2[i]? with | some m => okA k s (arrN s.1 s.1.length)[i] m | none => false) := by unfold chk1; rw [hg, Nat.zero_add]
      rw [hch]
      generalize (arrN s.1 s.1.length)[i] = a at hF s1 s2
      simp only [impl_ValidSheaf_l0, List.length_map, hlt, hi, decide_true, if_true, Int.natCast_nonneg, Int.toNat_natCast, and_self, hF, Option.bind_some, hw, toI3]
      by_cases hml : i < s.2.2.2.length
      · have hgm : s.2.2.2[i]? = some s.2.2.2[i] := List.getElem?_eq_getElem hml
        have hcells := hs.cells _ (List.mem_of_getElem? hgm)
        rw [decide_eq_false (by omega), if_neg (by simp), hgm, s1, s2]
        simp only [Option.bind_some, impl_isBetween, (matB_ok hk hcells).2.1]
        show _ = if okA k s a s.2.2.2[i] = true then _ else _
        unfold okA
        generalize s.2.2.2[i] = mm
        generalize s.2.2.1.getD a.1 0 = u
        generalize s.2.2.1.getD a.2.2 0 = v
        cases matB k mm
        · simp
        · by_cases q1 : mm.1 = s.2.1
          · by_cases q2 : mm.2.1 = u
            · by_cases q3 : mm.2.2.1 = v <;> simp [q1, q2, q3]
            · simp [q1, q2]
          · simp [q1]
      · rw [decide_eq_true (by omega), if_pos rfl, List.getElem?_eq_none (by omega)]
        rfl
    · intro n
      simp only [impl_ValidSheaf_l0, Int.lt_irrefl, decide_false, Bool.false_eq_true, if_false, List.length_map]
      exact congrArg some (decide_eq_decide.2 (by omega))
abbrev Edg := Int × Int × Int
abbrev Gr := Int × List Edg
def edgeOk (N : Int) (e : Edg) : Bool := decide (0 ≤ e.1) && (decide (e.1 < e.2.1) && (decide (e.2.1 < N) && decide (1 ≤ e.2.2 ∧ e.2.2 ≤ 9)))
def edgeLt (a b : Edg) : Bool := decide (a.1 < b.1 ∨ (a.1 = b.1 ∧ a.2.1 < b.2.1))
def edgePrev (l : List Edg) (i : Nat) (e : Edg) : Bool := if 0 < i then (match l[i - 1]? with | some z => edgeLt z e | none => false) else true
def edgeAt (g : Gr) (i : Nat) : Bool := match g.2[i]? with | some e => edgeOk g.1 e && edgePrev g.2 i e | none => false
def graphB (g : Gr) : Bool := decide (1 ≤ g.1 ∧ g.1 ≤ 12) && ((List.range g.2.length).all (edgeAt g) && decide (g.2.length ≤ 24))
theorem cmp_edgeLt (a b : Edg) : decide (0 ≤ (if cI a.1 b.1 = 0 then cI a.2.1 b.2.1 else cI a.1 b.1)) = !edgeLt a b := by
  unfold edgeLt cI
  rw [← decide_not]
  refine decide_eq_decide.2 ?_
  by_cases h1 : a.1 < b.1
  · simp [h1]
  · by_cases h2 : b.1 < a.1
    · have : ¬ a.1 = b.1 := by omega
      simp [h1, h2, this]
    · have e : a.1 = b.1 := by omega
      by_cases h3 : a.2.1 < b.2.1
      · simp [e, h3]
      · by_cases h4 : b.2.1 < a.2.1 <;> simp [e, h3, h4]
abbrev Net := Int × Int × Int × List Edg
def arcB (n : Net) (i : Nat) : Bool := match n.2.2.2[i]? with
  | some a => decide (0 ≤ a.1 ∧ a.1 ≤ w_i64 (n.1 - 1)) && (decide (0 ≤ a.2.1 ∧ a.2.1 ≤ w_i64 (n.1 - 1)) && (!decide (a.1 = a.2.1) && (decide (0 ≤ a.2.2 ∧ a.2.2 ≤ 1000000) && edgePrev n.2.2.2 i a)))
  | none => false
def netB (n : Net) : Bool := decide (2 ≤ n.1 ∧ n.1 ≤ 12) && (decide (0 ≤ n.2.1 ∧ n.2.1 ≤ w_i64 (n.1 - 1)) && (decide (0 ≤ n.2.2.1 ∧ n.2.2.1 ≤ w_i64 (n.1 - 1)) && (!decide (n.2.1 = n.2.2.1) && ((List.range n.2.2.2.length).all (arcB n) && decide (n.2.2.2.length ≤ 24)))))
theorem specNet_ok {k : Nat} (hk : KK ≤ k) {n : Net} (hn : n.2.2.2.length ≤ 1048576) : spec_l19Ok k n = some (netB n) := by
  have hK := KK_def
  have hl : spec_l19Ok_l0 k k n 0 (fun n_11 => some (decide ((List.length n_11.2.2.2 : Int) ≤ 24))) = if (List.range n.2.2.2.length).all (arcB n) = true then some (decide ((n.2.2.2.length : Int) ≤ 24)) else some false := by
    refine loop_allN (L := fun m i => spec_l19Ok_l0 k m n i (fun n_11 => some (decide ((List.length n_11.2.2.2 : Int) ≤ 24)))) (b := n.2.2.2.length) (p := arcB n) (r := some false) ?_ ?_ (n := k) (by omega)
    · intro m i hi
      have hlt : (i : Int) < (n.2.2.2.length : Int) := by omega
      have hw := w_succ (i := i) (by omega)
      have hg : n.2.2.2[i]? = some n.2.2.2[i] := List.getElem?_eq_getElem hi
      simp only [spec_l19Ok_l0, hlt, decide_true, if_true, Int.natCast_nonneg, Int.toNat_natCast, hg, Option.bind_some, hw, l00In_ok, arcB, edgePrev]
      generalize n.2.2.2[i] = a
      by_cases c1 : 0 ≤ a.1 ∧ a.1 ≤ w_i64 (n.1 - 1)
      case neg => simp [c1]
      by_cases c2 : 0 ≤ a.2.1 ∧ a.2.1 ≤ w_i64 (n.1 - 1)
      case neg => simp [c1, c2]
      by_cases c3 : a.1 = a.2.1
      · simp only [c3, decide_true] at *; simp [c2]
      by_cases c4 : 0 ≤ a.2.2 ∧ a.2.2 ≤ 1000000
      case neg => simp [c1, c2, c3, c4]
      rw [decide_eq_true c1, decide_eq_true c2, decide_eq_false c3, decide_eq_true c4]
      simp only [Bool.not_true, Bool.not_false, Bool.false_eq_true, if_false, Bool.true_and]
      by_cases h0 : 0 < i
      · have h0' : (0 : Int) < (i : Int) := by omega
        have hw1 : w_i64 ((i : Int) - 1) = ((i - 1 : Nat) : Int) := by rw [w_id (by omega) (by omega)]; omega
        have hg1 : n.2.2.2[i - 1]? = some n.2.2.2[i - 1] := List.getElem?_eq_getElem (by omega)
        simp only [h0', h0, decide_true, if_true, hw1, Int.natCast_nonneg, Int.toNat_natCast, hg1, Option.bind_some]
        generalize n.2.2.2[i - 1] = t
        unfold edgeLt
        by_cases d1 : a.1 < t.1
        · have : ¬ (t.1 < a.1 ∨ t.1 = a.1 ∧ t.2.1 < a.2.1) := by omega
          rw [decide_eq_true d1, if_pos rfl, decide_eq_false this, if_neg (by simp)]
        · rw [decide_eq_false d1, if_neg (by simp)]
          by_cases d2 : t.1 = a.1
          · rw [decide_eq_true d2, if_pos rfl]
            by_cases d3 : a.2.1 ≤ t.2.1
            · have : ¬ (t.1 < a.1 ∨ t.1 = a.1 ∧ t.2.1 < a.2.1) := by omega
              rw [decide_eq_true d3, if_pos rfl, decide_eq_false this, if_neg (by simp)]
            · have : (t.1 < a.1 ∨ t.1 = a.1 ∧ t.2.1 < a.2.1) := by omega
              rw [decide_eq_false d3, if_neg (by simp), decide_eq_true this, if_pos rfl]
          · have : (t.1 < a.1 ∨ t.1 = a.1 ∧ t.2.1 < a.2.1) := by omega
            rw [decide_eq_false d2, if_neg (by simp), decide_eq_true this, if_pos rfl]
      · have h0' : ¬ (0 : Int) < (i : Int) := by omega
        simp [h0, h0']
    · intro m
      simp only [spec_l19Ok_l0, Int.lt_irrefl, decide_false, Bool.false_eq_true, if_false]
  have e2 : decide ((n.2.2.2.length : Int) ≤ 24) = decide (n.2.2.2.length ≤ 24) := decide_eq_decide.2 (by omega)
  unfold spec_l19Ok netB
  rw [hl, e2]
  simp only [l00In_ok, Option.bind_some]
  by_cases c1 : 2 ≤ n.1 ∧ n.1 ≤ 12
  case neg => simp [c1]
  by_cases c2 : 0 ≤ n.2.1 ∧ n.2.1 ≤ w_i64 (n.1 - 1)
  case neg => simp [c1, c2]
  by_cases c3 : 0 ≤ n.2.2.1 ∧ n.2.2.1 ≤ w_i64 (n.1 - 1)
  case neg => simp [c1, c2, c3]
  rw [decide_eq_true c1, decide_eq_true c2, decide_eq_true c3]
  cases decide (n.2.1 = n.2.2.1) <;> cases (List.range n.2.2.2.length).all (arcB n) <;> simp
theorem implNet_ok {k : Nat} (hk : KK ≤ k) {n : Net} (hn : n.2.2.2.length ≤ 1048576) : impl_ValidNetwork k n = some (netB n) := by
  have hK := KK_def
  have e2 : decide ((n.2.2.2.length : Int) ≤ 24) = decide (n.2.2.2.length ≤ 24) := decide_eq_decide.2 (by omega)
  have hE : ((impl_within n.1 2 12).bind fun r_11 => (if r_11 = true then (impl_isElement n.2.1 n.1).bind fun r_12 => (if r_12 = true then (impl_isElement n.2.2.1 n.1).bind fun r_13 => (if r_13 = true then (if (!(decide (n.2.1 = n.2.2.1))) = true then some (decide ((List.length n.2.2.2 : Int) ≤ 24)) else some false) else some false) else some false) else some false)) = some (decide (2 ≤ n.1 ∧ n.1 ≤ 12) && (decide (0 ≤ n.2.1 ∧ n.2.1 ≤ w_i64 (n.1 - 1)) && (decide (0 ≤ n.2.2.1 ∧ n.2.2.1 ≤ w_i64 (n.1 - 1)) && (!decide (n.2.1 = n.2.2.1) && decide (n.2.2.2.length ≤ 24))))) := by
    unfold impl_isElement
    simp only [within_ok, Option.bind_some, e2]
    by_cases c1 : 2 ≤ n.1 ∧ n.1 ≤ 12
    case neg => simp [c1]
    by_cases c2 : 0 ≤ n.2.1 ∧ n.2.1 ≤ w_i64 (n.1 - 1)
    case neg => simp [c1, c2]
    by_cases c3 : 0 ≤ n.2.2.1 ∧ n.2.2.1 ≤ w_i64 (n.1 - 1)
    case neg => simp [c1, c2, c3]
    rw [decide_eq_true c1, decide_eq_true c2, decide_eq_true c3]
    cases decide (n.2.1 = n.2.2.1) <;> simp
  unfold impl_ValidNetwork
  have hl : ∀ E : Net → Option Bool, impl_ValidNetwork_l0 k k n.2.2.2 (n.2.2.2.length : Int) 0 n E = if (List.range n.2.2.2.length).all (arcB n) = true then E n else some false := by
    intro E
    refine loop_allN (L := fun m i => impl_ValidNetwork_l0 k m n.2.2.2 (n.2.2.2.length : Int) i n E) (b := n.2.2.2.length) (p := arcB n) (r := some false) ?_ ?_ (n := k) (by omega)
    · intro m i hi
      have hlt : (i : Int) < (n.2.2.2.length : Int) := by omega
      have hw := w_succ (i := i) (by omega)
      have hg : n.2.2.2[i]? = some n.2.2.2[i] := List.getElem?_eq_getElem hi
      simp only [impl_ValidNetwork_l0, impl_isElement, hlt, decide_true, if_true, Int.natCast_nonneg, Int.toNat_natCast, hg, Option.bind_some, hw, within_ok, arcB, edgePrev]
      generalize n.2.2.2[i] = a
      by_cases c1 : 0 ≤ a.1 ∧ a.1 ≤ w_i64 (n.1 - 1)
      case neg => simp [c1]
      by_cases c2 : 0 ≤ a.2.1 ∧ a.2.1 ≤ w_i64 (n.1 - 1)
      case neg => simp [c1, c2]
      by_cases c3 : a.1 = a.2.1
      · simp only [c3, decide_true] at *; simp [c2]
      by_cases c4 : 0 ≤ a.2.2 ∧ a.2.2 ≤ 1000000
      case neg => simp [c1, c2, c3, c4]
      rw [decide_eq_true c1, decide_eq_true c2, decide_eq_false c3, decide_eq_true c4]
      simp only [Bool.not_true, Bool.not_false, Bool.false_eq_true, if_false, Bool.true_and]
      by_cases h0 : 0 < i
      · have h0' : (0 : Int) < (i : Int) := by omega
        have hw1 : w_i64 ((i : Int) - 1) = ((i - 1 : Nat) : Int) := by rw [w_id (by omega) (by omega)]; omega
        have hg1 : n.2.2.2[i - 1]? = some n.2.2.2[i - 1] := List.getElem?_eq_getElem (by omega)
        simp only [h0', h0, decide_true, if_true, hw1, Int.natCast_nonneg, Int.toNat_natCast, hg1, Option.bind_some, compareInt_ok, cmpOr2_ok hk, cmp_edgeLt]
        generalize n.2.2.2[i - 1] = t
        cases edgeLt t a <;> simp
      · have h0' : ¬ (0 : Int) < (i : Int) := by omega
        simp [h0, h0']
    · intro m
      simp only [impl_ValidNetwork_l0, Int.lt_irrefl, decide_false, Bool.false_eq_true, if_false]
  rw [hl, hE]
  unfold netB
  cases (List.range n.2.2.2.length).all (arcB n) <;> simp
abbrev Pha := Int × Int × List Edg
def turnB (x : Pha) (i : Nat) : Bool := match x.2.2[i]? with
  | some a => !decide (a.1 < 0) && (!decide (a.2.1 ≤ a.1) && (!decide (x.1 ≤ a.2.1) && (decide (0 ≤ a.2.2 ∧ a.2.2 ≤ w_i64 (x.2.1 - 1)) && edgePrev x.2.2 i a)))
  | none => false
def phasesB (x : Pha) : Bool := decide (1 ≤ x.1 ∧ x.1 ≤ 12) && (decide (2 ≤ x.2.1 ∧ x.2.1 ≤ 360) && ((List.range x.2.2.length).all (turnB x) && decide (x.2.2.length ≤ 24)))
theorem specPha_ok {k : Nat} (hk : KK ≤ k) {x : Pha} (hn : x.2.2.length ≤ 1048576) : spec_l23Ok k x = some (phasesB x) := by
  have hK := KK_def
  have e2 : decide ((x.2.2.length : Int) ≤ 24) = decide (x.2.2.length ≤ 24) := decide_eq_decide.2 (by omega)
  unfold spec_l23Ok phasesB
  simp only [l00In_ok, Option.bind_some]
  by_cases c0 : 1 ≤ x.1 ∧ x.1 ≤ 12
  case neg => simp [c0]
  by_cases c00 : 2 ≤ x.2.1 ∧ x.2.1 ≤ 360
  case neg => simp [c0, c00]
  have hl : spec_l23Ok_l0 k k x 0 (fun x_10 => some (decide ((List.length x_10.2.2 : Int) ≤ 24))) = if (List.range x.2.2.length).all (turnB x) = true then some (decide ((x.2.2.length : Int) ≤ 24)) else some false := by
    refine loop_allN (L := fun m i => spec_l23Ok_l0 k m x i (fun x_10 => some (decide ((List.length x_10.2.2 : Int) ≤ 24)))) (b := x.2.2.length) (p := turnB x) (r := some false) ?_ ?_ (n := k) (by omega)
    · intro m i hi
      have hlt : (i : Int) < (x.2.2.length : Int) := by omega
      have hw := w_succ (i := i) (by omega)
      have hg : x.2.2[i]? = some x.2.2[i] := List.getElem?_eq_getElem hi
      have wn : w_i64 (x.1 - 1) = x.1 - 1 := w_id (by omega) (by omega)
      simp only [spec_l23Ok_l0, hlt, decide_true, if_true, Int.natCast_nonneg, Int.toNat_natCast, hg, Option.bind_some, hw, l00In_ok, turnB, edgePrev, wn]
      generalize x.2.2[i] = a
      by_cases c1 : 0 ≤ a.1 ∧ a.1 ≤ x.1 - 1
      case neg =>
        rw [decide_eq_false c1, if_pos (by simp), if_neg]
        intro h
        simp only [Bool.and_eq_true, Bool.not_eq_true', decide_eq_false_iff_not] at h
        omega
      have wa : w_i64 (a.1 + 1) = a.1 + 1 := w_id (by omega) (by omega)
      rw [wa, decide_eq_true c1]
      simp only [Bool.not_true, Bool.false_eq_true, if_false]
      by_cases c2 : a.1 + 1 ≤ a.2.1 ∧ a.2.1 ≤ x.1 - 1
      case neg =>
        rw [decide_eq_false c2, if_pos (by simp), if_neg]
        intro h
        simp only [Bool.and_eq_true, Bool.not_eq_true', decide_eq_false_iff_not] at h
        omega
      rw [decide_eq_true c2, decide_eq_false (show ¬ a.1 < 0 by omega), decide_eq_false (show ¬ a.2.1 ≤ a.1 by omega), decide_eq_false (show ¬ x.1 ≤ a.2.1 by omega)]
      simp only [Bool.not_true, Bool.not_false, Bool.false_eq_true, if_false, Bool.true_and]
      by_cases c4 : 0 ≤ a.2.2 ∧ a.2.2 ≤ w_i64 (x.2.1 - 1)
      case neg => simp [c4]
      rw [decide_eq_true c4]
      simp only [Bool.not_true, Bool.not_false, Bool.false_eq_true, if_false, Bool.true_and]
      by_cases h0 : 0 < i
      · have h0' : (0 : Int) < (i : Int) := by omega
        have hw1 : w_i64 ((i : Int) - 1) = ((i - 1 : Nat) : Int) := by rw [w_id (by omega) (by omega)]; omega
        have hg1 : x.2.2[i - 1]? = some x.2.2[i - 1] := List.getElem?_eq_getElem (by omega)
        simp only [h0', h0, decide_true, if_true, hw1, Int.natCast_nonneg, Int.toNat_natCast, hg1, Option.bind_some]
        generalize x.2.2[i - 1] = t
        unfold edgeLt
        by_cases d1 : a.1 < t.1
        · have : ¬ (t.1 < a.1 ∨ t.1 = a.1 ∧ t.2.1 < a.2.1) := by omega
          rw [decide_eq_true d1, if_pos rfl, decide_eq_false this, if_neg (by simp)]
        · rw [decide_eq_false d1, if_neg (by simp)]
          by_cases d2 : t.1 = a.1
          · rw [decide_eq_true d2, if_pos rfl]
            by_cases d3 : a.2.1 ≤ t.2.1
            · have : ¬ (t.1 < a.1 ∨ t.1 = a.1 ∧ t.2.1 < a.2.1) := by omega
              rw [decide_eq_true d3, if_pos rfl, decide_eq_false this, if_neg (by simp)]
            · have : (t.1 < a.1 ∨ t.1 = a.1 ∧ t.2.1 < a.2.1) := by omega
              rw [decide_eq_false d3, if_neg (by simp), decide_eq_true this, if_pos rfl]
          · have : (t.1 < a.1 ∨ t.1 = a.1 ∧ t.2.1 < a.2.1) := by omega
            rw [decide_eq_false d2, if_neg (by simp), decide_eq_true this, if_pos rfl]
      · have h0' : ¬ (0 : Int) < (i : Int) := by omega
        simp [h0, h0']
    · intro m
      simp only [spec_l23Ok_l0, Int.lt_irrefl, decide_false, Bool.false_eq_true, if_false]
  rw [hl, e2, decide_eq_true c0, decide_eq_true c00]
  cases (List.range x.2.2.length).all (turnB x) <;> simp
theorem implPha_ok {k : Nat} (hk : KK ≤ k) {x : Pha} (hn : x.2.2.length ≤ 1048576) : impl_ValidPhases k x = some (phasesB x) := by
  have hK := KK_def
  have e2 : decide ((x.2.2.length : Int) ≤ 24) = decide (x.2.2.length ≤ 24) := decide_eq_decide.2 (by omega)
  have hE : ((impl_within x.1 1 12).bind fun r_9 => (if r_9 = true then (impl_within x.2.1 2 360).bind fun r_10 => (if r_10 = true then some (decide ((List.length x.2.2 : Int) ≤ 24)) else some false) else some false)) = some (decide (1 ≤ x.1 ∧ x.1 ≤ 12) && (decide (2 ≤ x.2.1 ∧ x.2.1 ≤ 360) && decide (x.2.2.length ≤ 24))) := by
    simp only [within_ok, Option.bind_some, e2]
    by_cases c1 : 1 ≤ x.1 ∧ x.1 ≤ 12
    case neg => simp [c1]
    by_cases c2 : 2 ≤ x.2.1 ∧ x.2.1 ≤ 360
    case neg => simp [c1, c2]
    simp [c1, c2]
  unfold impl_ValidPhases
  have hl : ∀ E : Pha → Option Bool, impl_ValidPhases_l0 k k x.2.2 (x.2.2.length : Int) 0 x E = if (List.range x.2.2.length).all (turnB x) = true then E x else some false := by
    intro E
    refine loop_allN (L := fun m i => impl_ValidPhases_l0 k m x.2.2 (x.2.2.length : Int) i x E) (b := x.2.2.length) (p := turnB x) (r := some false) ?_ ?_ (n := k) (by omega)
    · intro m i hi
      have hlt : (i : Int) < (x.2.2.length : Int) := by omega
      have hw := w_succ (i := i) (by omega)
      have hg : x.2.2[i]? = some x.2.2[i] := List.getElem?_eq_getElem hi
      simp only [impl_ValidPhases_l0, impl_isElement, hlt, decide_true, if_true, Int.natCast_nonneg, Int.toNat_natCast, hg, Option.bind_some, hw, within_ok, turnB, edgePrev]
      generalize x.2.2[i] = a
      by_cases c1 : a.1 < 0
      case pos => simp [c1]
      by_cases c2 : a.2.1 ≤ a.1
      case pos => simp [c1, c2]
      by_cases c3 : x.1 ≤ a.2.1
      case pos => simp [c1, c2, c3]
      by_cases c4 : 0 ≤ a.2.2 ∧ a.2.2 ≤ w_i64 (x.2.1 - 1)
      case neg => simp [c1, c2, c3, c4]
      rw [decide_eq_false c1, decide_eq_false c2, decide_eq_false c3, decide_eq_true c4]
      simp only [Bool.not_true, Bool.not_false, Bool.false_eq_true, if_false, Bool.true_and]
      by_cases h0 : 0 < i
      · have h0' : (0 : Int) < (i : Int) := by omega
        have hw1 : w_i64 ((i : Int) - 1) = ((i - 1 : Nat) : Int) := by rw [w_id (by omega) (by omega)]; omega
        have hg1 : x.2.2[i - 1]? = some x.2.2[i - 1] := List.getElem?_eq_getElem (by omega)
        simp only [h0', h0, decide_true, if_true, hw1, Int.natCast_nonneg, Int.toNat_natCast, hg1, Option.bind_some, compareInt_ok, cmpOr2_ok hk, cmp_edgeLt]
        generalize x.2.2[i - 1] = t
        cases edgeLt t a <;> simp
      · have h0' : ¬ (0 : Int) < (i : Int) := by omega
        simp [h0, h0']
    · intro m
      simp only [impl_ValidPhases_l0, Int.lt_irrefl, decide_false, Bool.false_eq_true, if_false]
  rw [hl, hE]
  unfold phasesB
  cases (List.range x.2.2.length).all (turnB x) <;> simp
abbrev Wrk := She × Int × List Int × List Int × Net × List Int × List Int × Pha × List Int
def colB (v : List Int) (n p : Int) : Bool := v.all (fun x => decide (0 ≤ x ∧ x ≤ p - 1)) && decide ((v.length : Int) = n)
theorem isVector_ok {k : Nat} (hk : KK ≤ k) {v : List Int} (hv : v.length ≤ 1048576) (n : Int) {p : Int} (hp : -1000000 ≤ p ∧ p ≤ 1000000) : impl_isVector k v n p = some (colB v n p) := by
  unfold impl_isVector impl_size_int64 colB
  simp only [Option.bind_some, elements_ok hk hv hp]
  by_cases c : (v.length : Int) = n
  · rw [decide_eq_true c, if_pos rfl, Bool.and_true]
  · rw [decide_eq_false c, if_neg (by simp), Bool.and_false]
structure smallW (w : Wrk) : Prop where
  sh : smallSh w.1
  cl : w.2.2.1.length ≤ 1048576
  rd : w.2.2.2.1.length ≤ 1048576
  net : w.2.2.2.2.1.2.2.2.length ≤ 1048576
  pha : w.2.2.2.2.2.2.2.1.2.2.length ≤ 1048576
  ang : w.2.2.2.2.2.2.2.2.length ≤ 1048576
noncomputable def workB (k : Nat) (w : Wrk) : Bool := sheB k w.1 && (decide (0 ≤ w.2.1 ∧ w.2.1 ≤ 3) && (colB w.2.2.1 (sumSt w.1.2.2.1 (ofC w.1.1 w.2.1)) w.1.2.1 && (colB w.2.2.2.1 (sumSt w.1.2.2.1 (ofC w.1.1 0)) w.1.2.1 && (netB w.2.2.2.2.1 && (phasesB w.2.2.2.2.2.2.2.1 && colB w.2.2.2.2.2.2.2.2 w.2.2.2.2.2.2.2.1.1 w.2.2.2.2.2.2.2.1.2.1)))))
theorem sheB_parts {k : Nat} (hk : KK ≤ k) {s : She} (h : sheB k s = true) : CxP s.1 ∧ (2 ≤ s.2.1 ∧ s.2.1 ≤ 251) ∧ StP s.1 s.2.2.1 := by
  unfold sheB at h
  simp only [Bool.and_eq_true] at h
  exact ⟨cxB_iff.1 h.1, (primeB_ok hk s.2.1).2.2 h.2.1, stB_st h.2.2.1⟩
theorem phasesB_parts {x : Pha} (h : phasesB x = true) : (1 ≤ x.1 ∧ x.1 ≤ 12) ∧ (2 ≤ x.2.1 ∧ x.2.1 ≤ 360) := by
  unfold phasesB at h
  simp only [Bool.and_eq_true, decide_eq_true_eq] at h
  exact ⟨h.1, h.2.1⟩
theorem specWork_ok {k : Nat} (hk : KK ≤ k) {w : Wrk} (hs : smallW w) : spec_l31Ok k w = some (workB k w) := by
  unfold spec_l31Ok workB spec_l05Dimension spec_l23List
  rw [l09Ok_ok hk hs.sh]
  cases h1 : sheB k w.1 with
  | false => simp
  | true =>
    obtain ⟨hC, hp, hS⟩ := sheB_parts hk h1
    have hsc := cx_small hC
    simp only [Option.bind_some, Bool.not_true, Bool.false_eq_true, if_false, l00In_ok, Bool.true_and]
    by_cases c2 : 0 ≤ w.2.1 ∧ w.2.1 ≤ 3
    case neg => simp [c2]
    have hp' : -1000000 ≤ w.1.2.1 ∧ w.1.2.1 ≤ 1000000 := by omega
    have hc1 : spec_l03Column k w.2.2.1 (sumSt w.1.2.2.1 (ofC w.1.1 w.2.1)) w.1.2.1 = some (colB w.2.2.1 (sumSt w.1.2.2.1 (ofC w.1.1 w.2.1)) w.1.2.1) := column_ok hk hs.cl _ hp'
    have hc2 : spec_l03Column k w.2.2.2.1 (sumSt w.1.2.2.1 (ofC w.1.1 0)) w.1.2.1 = some (colB w.2.2.2.1 (sumSt w.1.2.2.1 (ofC w.1.1 0)) w.1.2.1) := column_ok hk hs.rd _ hp'
    rw [decide_eq_true c2, l09Sum_ok hk hsc hS (by omega), l09Sum_ok hk hsc hS (by omega)]
    simp only [Option.bind_some, Bool.not_true, Bool.false_eq_true, if_false, hc1, hc2, specNet_ok hk hs.net, specPha_ok hk hs.pha, Bool.true_and]
    cases colB w.2.2.1 (sumSt w.1.2.2.1 (ofC w.1.1 w.2.1)) w.1.2.1 with
    | false => simp
    | true =>
    cases colB w.2.2.2.1 (sumSt w.1.2.2.1 (ofC w.1.1 0)) w.1.2.1 with
    | false => simp
    | true =>
    cases netB w.2.2.2.2.1 with
    | false => simp
    | true =>
    cases h5 : phasesB w.2.2.2.2.2.2.2.1 with
    | false => simp
    | true =>
      obtain ⟨g1, g2⟩ := phasesB_parts h5
      have hc3 : spec_l03Column k w.2.2.2.2.2.2.2.2 w.2.2.2.2.2.2.2.1.1 w.2.2.2.2.2.2.2.1.2.1 = some (colB w.2.2.2.2.2.2.2.2 w.2.2.2.2.2.2.2.1.1 w.2.2.2.2.2.2.2.1.2.1) := column_ok hk hs.ang _ (by omega)
      simp only [Bool.not_true, Bool.false_eq_true, if_false, if_true, hc3, Option.bind_some, Bool.true_and]
theorem implWork_ok {k : Nat} (hk : KK ≤ k) {w : Wrk} (hs : smallW w) : impl_ValidWork k w = some (workB k w) := by
  unfold impl_ValidWork workB impl_isDimension impl_arePhases
  rw [validSheaf_ok hk hs.sh]
  cases h1 : sheB k w.1 with
  | false => simp
  | true =>
    obtain ⟨hC, hp, hS⟩ := sheB_parts hk h1
    have hsc := cx_small hC
    simp only [Option.bind_some, Bool.not_true, Bool.false_eq_true, if_false, within_ok, Bool.true_and]
    by_cases c2 : 0 ≤ w.2.1 ∧ w.2.1 ≤ 3
    case neg => simp [c2]
    have hp' : -1000000 ≤ w.1.2.1 ∧ w.1.2.1 ≤ 1000000 := by omega
    rw [decide_eq_true c2, stalkSum_ok hk hsc hS (by omega), stalkSum_ok hk hsc hS (by omega)]
    simp only [Option.bind_some, Bool.not_true, Bool.false_eq_true, if_false, isVector_ok hk hs.cl _ hp', isVector_ok hk hs.rd _ hp', implNet_ok hk hs.net, implPha_ok hk hs.pha, Bool.true_and]
    cases netB w.2.2.2.2.1 with
    | false => simp
    | true =>
    cases h5 : phasesB w.2.2.2.2.2.2.2.1 with
    | false => simp
    | true =>
    obtain ⟨g1, g2⟩ := phasesB_parts h5
    simp only [Bool.not_true, Bool.false_eq_true, if_false, isVector_ok hk hs.ang w.2.2.2.2.2.2.2.1.1 (p := w.2.2.2.2.2.2.2.1.2.1) (by omega), Option.bind_some]
    cases colB w.2.2.1 (sumSt w.1.2.2.1 (ofC w.1.1 w.2.1)) w.1.2.1 with
    | false => simp
    | true =>
    cases colB w.2.2.2.1 (sumSt w.1.2.2.1 (ofC w.1.1 0)) w.1.2.1 with
    | false => simp
    | true => simp
def sumL {α : Type} (f : α → Nat) (l : List α) : Nat := (l.map f).sum
theorem sumL_nil {α : Type} (f : α → Nat) : sumL f [] = 0 := rfl
theorem sumL_cons {α : Type} (f : α → Nat) (x : α) (l : List α) : sumL f (x :: l) = f x + sumL f l := by simp [sumL]
theorem sumL_append {α : Type} (f : α → Nat) (l m : List α) : sumL f (l ++ m) = sumL f l + sumL f m := by simp [sumL]
theorem sumL_mem {α : Type} (f : α → Nat) {x : α} {l : List α} (h : x ∈ l) : f x ≤ sumL f l := by
  induction l with
  | nil => cases h
  | cons y l ih =>
    rw [sumL_cons]
    rcases List.mem_cons.1 h with rfl | h
    · omega
    · have := ih h; omega
/-- Sizes gathered, until they are too great. -/
theorem loop_sz {α : Type} (xs : List α) {s : α → Nat} {L : Nat → Int → Int → Option Int}
    (h1 : ∀ n (i : Nat) x r, xs[i]? = some x → (i : Int) < xs.length → x ∈ xs → 0 ≤ r → r ≤ 1048576 → L (n + 1) (i : Int) r = if (s x : Int) ≤ r then L n ((i + 1 : Nat) : Int) (r - (s x : Int)) else some (-1))
    (h2 : ∀ n r, L (n + 1) (xs.length : Int) r = some r) {n : Nat} (hn : xs.length < n) {r : Int} (h0 : 0 ≤ r) (hr : r ≤ 1048576) : L n 0 r = some (if (sumL s xs : Int) ≤ r then r - (sumL s xs : Int) else -1) := by
  refine loop_list (L := L) (I := fun _ r => 0 ≤ r ∧ r ≤ 1048576) (G := fun post r => some (if (sumL s post : Int) ≤ r then r - (sumL s post : Int) else -1)) xs ?_ ?_ n hn r ⟨h0, hr⟩
  · intro n pre x post r hx hI ih hg hlt
    rw [h1 n pre.length x r hg hlt (List.mem_of_getElem? hg) hI.1 hI.2]
    have hc : sumL s (x :: post) = s x + sumL s post := sumL_cons _ _ _
    by_cases c : (s x : Int) ≤ r
    · rw [if_pos c, ih (r - (s x : Int)) ⟨by omega, by omega⟩]
      by_cases c2 : (sumL s post : Int) ≤ r - (s x : Int)
      · rw [if_pos c2, if_pos (by omega)]; congr 1; omega
      · rw [if_neg c2, if_neg (by omega)]
    · rw [if_neg c, if_neg (by omega)]
  · intro n r hI
    rw [h2, sumL_nil, if_pos (by simpa using hI.1)]; simp
instance dec_Int64S : DecidableEq (List Int) := inferInstance
def sz_Int64S (a : List Int) : Nat := a.length
theorem szInt64S_ok {a : List Int} {e0 : TypeId} {left : Int} (h0 : 0 ≤ left) (h1 : left ≤ 1048576) (h : InR (.sl e0 (.int .i64)) a) : laws_szInt64S a left = some (if (sz_Int64S a : Int) ≤ left then left - (sz_Int64S a : Int) else -1) := by
  have hl : a.length ≤ 140737488351232 := h.1
  have hs : sz_Int64S a = a.length := rfl
  unfold laws_szInt64S
  rw [hs, w_id (by omega) (by omega)]
  by_cases c : (a.length : Int) ≤ left
  · rw [decide_eq_false (by omega), if_neg (by simp), if_pos c]
  · rw [decide_eq_true (by omega), if_pos rfl, if_neg c]
instance dec_Int64SS : DecidableEq (List (List Int)) := inferInstance
def sz_Int64SS (a : List (List Int)) : Nat := a.length + sumL sz_Int64S a
theorem szInt64SS_ok {k : Nat} (hk : KK ≤ k) {a : List (List Int)} {e0 e1 : TypeId} {left : Int} (h0 : 0 ≤ left) (h1 : left ≤ 1048576) (h : InR (.sl e0 (.sl e1 (.int .i64))) a) : laws_szInt64SS k a left = some (if (sz_Int64SS a : Int) ≤ left then left - (sz_Int64SS a : Int) else -1) := by
  have hl : a.length ≤ 140737488351232 := h.1
  have hs : sz_Int64SS a = a.length + sumL sz_Int64S a := rfl
  have hK := KK_def
  unfold laws_szInt64SS
  rw [hs, w_id (by omega) (by omega)]
  by_cases c : (a.length : Int) ≤ left
  · rw [decide_eq_false (by omega), if_neg (by simp)]
    refine Eq.trans (loop_sz (L := fun n i r => laws_szInt64SS_l0 k n a r i fun r => some r) (s := sz_Int64S) a ?_ ?_ (n := k) (by omega) (r := left - (a.length : Int)) (by omega) (by omega)) ?_
    · intro n i x r hi hlt hm r0 r1
      have hw := w_succ (i := i) (by omega)
      have hx := szInt64S_ok (a := x) r0 r1 (h.2 x hm)
      simp only [laws_szInt64SS_l0, hlt, decide_true, if_true, Int.natCast_nonneg, Int.toNat_natCast, hi, Option.bind_some, hw, hx]
      by_cases c2 : (sz_Int64S x : Int) ≤ r
      · rw [if_pos c2, decide_eq_false (by omega), if_neg (by simp), if_pos c2]
      · rw [if_neg c2, decide_eq_true (by omega), if_pos rfl, if_neg c2]
    · intro n r
      simp [laws_szInt64SS_l0]
    · by_cases c2 : (sumL sz_Int64S a : Int) ≤ left - (a.length : Int)
      · rw [if_pos c2, if_pos (by omega)]; congr 1; omega
      · rw [if_neg c2, if_neg (by omega)]
  · rw [decide_eq_true (by omega), if_pos rfl, if_neg (by omega)]
instance dec_Complex : DecidableEq (List (List Int)) := inferInstance
def sz_Complex (a : List (List Int)) : Nat := (sz_Int64SS a)
theorem szComplex_ok {k : Nat} (hk : KK ≤ k) {a : List (List Int)} {e0 e1 : TypeId} {left : Int} (h0 : 0 ≤ left) (h1 : left ≤ 1048576) (h : InR (.st (.sl e0 (.sl e1 (.int .i64)))) a) : laws_szComplex k a left = some (if (sz_Complex a : Int) ≤ left then left - (sz_Complex a : Int) else -1) := by
  have hs : sz_Complex a = (sz_Int64SS a) := rfl
  unfold laws_szComplex
  rw [hs]
  have q0 := szInt64SS_ok hk (a := a) (left := left) (by omega) (by omega) h
  rw [q0]
  by_cases c0 : ((sz_Int64SS a) : Int) ≤ left
  case neg => rw [if_neg c0]; simp only [Option.bind_some]; rw [decide_eq_true (by omega), if_pos rfl]
  rw [if_pos c0]; simp only [Option.bind_some]
  rw [decide_eq_false (by omega), if_neg (by simp)]
instance dec_Matrix_2 : DecidableEq (Int × List Int) := inferInstance
instance dec_Matrix_1 : DecidableEq (Int × Int × List Int) := inferInstance
instance dec_Matrix : DecidableEq (Int × Int × Int × List Int) := inferInstance
def sz_Matrix (a : Int × Int × Int × List Int) : Nat := (sz_Int64S (a.2.2.2))
theorem szMatrix_ok {a : Int × Int × Int × List Int} {e0 : TypeId} {left : Int} (h0 : 0 ≤ left) (h1 : left ≤ 1048576) (h : InR (.st (.pr (.int .i64) (.pr (.int .i64) (.pr (.int .i64) (.sl e0 (.int .i64)))))) a) : laws_szMatrix a left = some (if (sz_Matrix a : Int) ≤ left then left - (sz_Matrix a : Int) else -1) := by
  have hs : sz_Matrix a = (sz_Int64S (a.2.2.2)) := rfl
  unfold laws_szMatrix
  rw [hs]
  have q0 := szInt64S_ok (a := a.2.2.2) (left := left) (by omega) (by omega) h.2.2.2
  rw [q0]
  by_cases c0 : ((sz_Int64S (a.2.2.2)) : Int) ≤ left
  case neg => rw [if_neg c0]; simp only [Option.bind_some]; rw [decide_eq_true (by omega), if_pos rfl]
  rw [if_pos c0]; simp only [Option.bind_some]
  rw [decide_eq_false (by omega), if_neg (by simp)]
instance dec_MatrixS : DecidableEq (List (Int × Int × Int × List Int)) := inferInstance
def sz_MatrixS (a : List (Int × Int × Int × List Int)) : Nat := a.length + sumL sz_Matrix a
theorem szMatrixS_ok {k : Nat} (hk : KK ≤ k) {a : List (Int × Int × Int × List Int)} {e0 e1 : TypeId} {left : Int} (h0 : 0 ≤ left) (h1 : left ≤ 1048576) (h : InR (.sl e0 (.st (.pr (.int .i64) (.pr (.int .i64) (.pr (.int .i64) (.sl e1 (.int .i64))))))) a) : laws_szMatrixS k a left = some (if (sz_MatrixS a : Int) ≤ left then left - (sz_MatrixS a : Int) else -1) := by
  have hl : a.length ≤ 140737488351232 := h.1
  have hs : sz_MatrixS a = a.length + sumL sz_Matrix a := rfl
  have hK := KK_def
  unfold laws_szMatrixS
  rw [hs, w_id (by omega) (by omega)]
  by_cases c : (a.length : Int) ≤ left
  · rw [decide_eq_false (by omega), if_neg (by simp)]
    refine Eq.trans (loop_sz (L := fun n i r => laws_szMatrixS_l0 k n a r i fun r => some r) (s := sz_Matrix) a ?_ ?_ (n := k) (by omega) (r := left - (a.length : Int)) (by omega) (by omega)) ?_
    · intro n i x r hi hlt hm r0 r1
      have hw := w_succ (i := i) (by omega)
      have hx := szMatrix_ok (a := x) r0 r1 (h.2 x hm)
      simp only [laws_szMatrixS_l0, hlt, decide_true, if_true, Int.natCast_nonneg, Int.toNat_natCast, hi, Option.bind_some, hw, hx]
      by_cases c2 : (sz_Matrix x : Int) ≤ r
      · rw [if_pos c2, decide_eq_false (by omega), if_neg (by simp), if_pos c2]
      · rw [if_neg c2, decide_eq_true (by omega), if_pos rfl, if_neg c2]
    · intro n r
      simp [laws_szMatrixS_l0]
    · by_cases c2 : (sumL sz_Matrix a : Int) ≤ left - (a.length : Int)
      · rw [if_pos c2, if_pos (by omega)]; congr 1; omega
      · rw [if_neg c2, if_neg (by omega)]
  · rw [decide_eq_true (by omega), if_pos rfl, if_neg (by omega)]
instance dec_Sheaf_2 : DecidableEq (List Int × (List (Int × Int × Int × List Int))) := inferInstance
instance dec_Sheaf_1 : DecidableEq (Int × List Int × (List (Int × Int × Int × List Int))) := inferInstance
instance dec_Sheaf : DecidableEq (List (List Int) × Int × List Int × (List (Int × Int × Int × List Int))) := inferInstance
def sz_Sheaf (a : List (List Int) × Int × List Int × (List (Int × Int × Int × List Int))) : Nat := (sz_Complex (a.1)) + (sz_Int64S (a.2.2.1)) + (sz_MatrixS (a.2.2.2))
theorem szSheaf_ok {k : Nat} (hk : KK ≤ k) {a : List (List Int) × Int × List Int × (List (Int × Int × Int × List Int))} {e0 e1 e2 e3 e4 : TypeId} {left : Int} (h0 : 0 ≤ left) (h1 : left ≤ 1048576) (h : InR (.st (.pr (.st (.sl e0 (.sl e1 (.int .i64)))) (.pr (.int .i64) (.pr (.sl e2 (.int .i64)) (.sl e3 (.st (.pr (.int .i64) (.pr (.int .i64) (.pr (.int .i64) (.sl e4 (.int .i64))))))))))) a) : laws_szSheaf k a left = some (if (sz_Sheaf a : Int) ≤ left then left - (sz_Sheaf a : Int) else -1) := by
  have hs : sz_Sheaf a = (sz_Complex (a.1)) + (sz_Int64S (a.2.2.1)) + (sz_MatrixS (a.2.2.2)) := rfl
  unfold laws_szSheaf
  rw [hs]
  have q0 := szComplex_ok hk (a := a.1) (left := left) (by omega) (by omega) h.1
  rw [q0]
  by_cases c0 : ((sz_Complex (a.1)) : Int) ≤ left
  case neg => rw [if_neg c0]; simp only [Option.bind_some]; rw [decide_eq_true (by omega), if_pos rfl, if_neg (by omega)]
  rw [if_pos c0]; simp only [Option.bind_some]
  rw [decide_eq_false (by omega), if_neg (by simp)]
  have q1 := szInt64S_ok (a := a.2.2.1) (left := left - ((sz_Complex (a.1)) : Int)) (by omega) (by omega) h.2.2.1
  rw [q1]
  by_cases c1 : ((sz_Int64S (a.2.2.1)) : Int) ≤ left - ((sz_Complex (a.1)) : Int)
  case neg => rw [if_neg c1]; simp only [Option.bind_some]; rw [decide_eq_true (by omega), if_pos rfl, if_neg (by omega)]
  rw [if_pos c1]; simp only [Option.bind_some]
  rw [decide_eq_false (by omega), if_neg (by simp)]
  have q2 := szMatrixS_ok hk (a := a.2.2.2) (left := left - ((sz_Complex (a.1)) : Int) - ((sz_Int64S (a.2.2.1)) : Int)) (by omega) (by omega) h.2.2.2
  rw [q2]
  by_cases c2 : ((sz_MatrixS (a.2.2.2)) : Int) ≤ left - ((sz_Complex (a.1)) : Int) - ((sz_Int64S (a.2.2.1)) : Int)
  case neg => rw [if_neg c2]; simp only [Option.bind_some]; rw [decide_eq_true (by omega), if_pos rfl, if_neg (by omega)]
  rw [if_pos c2]; simp only [Option.bind_some]
  rw [decide_eq_false (by omega), if_neg (by simp)]
  rw [if_pos (by omega)]; congr 1; omega
instance dec_ArcS : DecidableEq (List (Int × Int × Int)) := inferInstance
def sz_ArcS (a : List (Int × Int × Int)) : Nat := a.length
theorem szArcS_ok {a : List (Int × Int × Int)} {e0 : TypeId} {left : Int} (h0 : 0 ≤ left) (h1 : left ≤ 1048576) (h : InR (.sl e0 (.st (.pr (.int .i64) (.pr (.int .i64) (.int .i64))))) a) : laws_szArcS a left = some (if (sz_ArcS a : Int) ≤ left then left - (sz_ArcS a : Int) else -1) := by
  have hl : a.length ≤ 140737488351232 := h.1
  have hs : sz_ArcS a = a.length := rfl
  unfold laws_szArcS
  rw [hs, w_id (by omega) (by omega)]
  by_cases c : (a.length : Int) ≤ left
  · rw [decide_eq_false (by omega), if_neg (by simp), if_pos c]
  · rw [decide_eq_true (by omega), if_pos rfl, if_neg c]
instance dec_Network_2 : DecidableEq (Int × (List (Int × Int × Int))) := inferInstance
instance dec_Network_1 : DecidableEq (Int × Int × (List (Int × Int × Int))) := inferInstance
instance dec_Network : DecidableEq (Int × Int × Int × (List (Int × Int × Int))) := inferInstance
def sz_Network (a : Int × Int × Int × (List (Int × Int × Int))) : Nat := (sz_ArcS (a.2.2.2))
theorem szNetwork_ok {a : Int × Int × Int × (List (Int × Int × Int))} {e0 : TypeId} {left : Int} (h0 : 0 ≤ left) (h1 : left ≤ 1048576) (h : InR (.st (.pr (.int .i64) (.pr (.int .i64) (.pr (.int .i64) (.sl e0 (.st (.pr (.int .i64) (.pr (.int .i64) (.int .i64))))))))) a) : laws_szNetwork a left = some (if (sz_Network a : Int) ≤ left then left - (sz_Network a : Int) else -1) := by
  have hs : sz_Network a = (sz_ArcS (a.2.2.2)) := rfl
  unfold laws_szNetwork
  rw [hs]
  have q0 := szArcS_ok (a := a.2.2.2) (left := left) (by omega) (by omega) h.2.2.2
  rw [q0]
  by_cases c0 : ((sz_ArcS (a.2.2.2)) : Int) ≤ left
  case neg => rw [if_neg c0]; simp only [Option.bind_some]; rw [decide_eq_true (by omega), if_pos rfl]
  rw [if_pos c0]; simp only [Option.bind_some]
  rw [decide_eq_false (by omega), if_neg (by simp)]
instance dec_TurnS : DecidableEq (List (Int × Int × Int)) := inferInstance
def sz_TurnS (a : List (Int × Int × Int)) : Nat := a.length
theorem szTurnS_ok {a : List (Int × Int × Int)} {e0 : TypeId} {left : Int} (h0 : 0 ≤ left) (h1 : left ≤ 1048576) (h : InR (.sl e0 (.st (.pr (.int .i64) (.pr (.int .i64) (.int .i64))))) a) : laws_szTurnS a left = some (if (sz_TurnS a : Int) ≤ left then left - (sz_TurnS a : Int) else -1) := by
  have hl : a.length ≤ 140737488351232 := h.1
  have hs : sz_TurnS a = a.length := rfl
  unfold laws_szTurnS
  rw [hs, w_id (by omega) (by omega)]
  by_cases c : (a.length : Int) ≤ left
  · rw [decide_eq_false (by omega), if_neg (by simp), if_pos c]
  · rw [decide_eq_true (by omega), if_pos rfl, if_neg c]
instance dec_Phases_1 : DecidableEq (Int × (List (Int × Int × Int))) := inferInstance
instance dec_Phases : DecidableEq (Int × Int × (List (Int × Int × Int))) := inferInstance
def sz_Phases (a : Int × Int × (List (Int × Int × Int))) : Nat := (sz_TurnS (a.2.2))
theorem szPhases_ok {a : Int × Int × (List (Int × Int × Int))} {e0 : TypeId} {left : Int} (h0 : 0 ≤ left) (h1 : left ≤ 1048576) (h : InR (.st (.pr (.int .i64) (.pr (.int .i64) (.sl e0 (.st (.pr (.int .i64) (.pr (.int .i64) (.int .i64)))))))) a) : laws_szPhases a left = some (if (sz_Phases a : Int) ≤ left then left - (sz_Phases a : Int) else -1) := by
  have hs : sz_Phases a = (sz_TurnS (a.2.2)) := rfl
  unfold laws_szPhases
  rw [hs]
  have q0 := szTurnS_ok (a := a.2.2) (left := left) (by omega) (by omega) h.2.2
  rw [q0]
  by_cases c0 : ((sz_TurnS (a.2.2)) : Int) ≤ left
  case neg => rw [if_neg c0]; simp only [Option.bind_some]; rw [decide_eq_true (by omega), if_pos rfl]
  rw [if_pos c0]; simp only [Option.bind_some]
  rw [decide_eq_false (by omega), if_neg (by simp)]
instance dec_Work_7 : DecidableEq ((Int × Int × (List (Int × Int × Int))) × List Int) := inferInstance
instance dec_Work_6 : DecidableEq (List Int × (Int × Int × (List (Int × Int × Int))) × List Int) := inferInstance
instance dec_Work_5 : DecidableEq (List Int × List Int × (Int × Int × (List (Int × Int × Int))) × List Int) := inferInstance
instance dec_Work_4 : DecidableEq ((Int × Int × Int × (List (Int × Int × Int))) × List Int × List Int × (Int × Int × (List (Int × Int × Int))) × List Int) := inferInstance
instance dec_Work_3 : DecidableEq (List Int × (Int × Int × Int × (List (Int × Int × Int))) × List Int × List Int × (Int × Int × (List (Int × Int × Int))) × List Int) := inferInstance
instance dec_Work_2 : DecidableEq (List Int × List Int × (Int × Int × Int × (List (Int × Int × Int))) × List Int × List Int × (Int × Int × (List (Int × Int × Int))) × List Int) := inferInstance
instance dec_Work_1 : DecidableEq (Int × List Int × List Int × (Int × Int × Int × (List (Int × Int × Int))) × List Int × List Int × (Int × Int × (List (Int × Int × Int))) × List Int) := inferInstance
instance dec_Work : DecidableEq ((List (List Int) × Int × List Int × (List (Int × Int × Int × List Int))) × Int × List Int × List Int × (Int × Int × Int × (List (Int × Int × Int))) × List Int × List Int × (Int × Int × (List (Int × Int × Int))) × List Int) := inferInstance
def sz_Work (a : (List (List Int) × Int × List Int × (List (Int × Int × Int × List Int))) × Int × List Int × List Int × (Int × Int × Int × (List (Int × Int × Int))) × List Int × List Int × (Int × Int × (List (Int × Int × Int))) × List Int) : Nat := (sz_Sheaf (a.1)) + (sz_Int64S (a.2.2.1)) + (sz_Int64S (a.2.2.2.1)) + (sz_Network (a.2.2.2.2.1)) + (sz_Int64S (a.2.2.2.2.2.1)) + (sz_Int64S (a.2.2.2.2.2.2.1)) + (sz_Phases (a.2.2.2.2.2.2.2.1)) + (sz_Int64S (a.2.2.2.2.2.2.2.2))
theorem szWork_ok {k : Nat} (hk : KK ≤ k) {a : (List (List Int) × Int × List Int × (List (Int × Int × Int × List Int))) × Int × List Int × List Int × (Int × Int × Int × (List (Int × Int × Int))) × List Int × List Int × (Int × Int × (List (Int × Int × Int))) × List Int} {e0 e1 e2 e3 e4 e5 e6 e7 e8 e9 e10 e11 : TypeId} {left : Int} (h0 : 0 ≤ left) (h1 : left ≤ 1048576) (h : InR (.st (.pr (.st (.pr (.st (.sl e0 (.sl e1 (.int .i64)))) (.pr (.int .i64) (.pr (.sl e2 (.int .i64)) (.sl e3 (.st (.pr (.int .i64) (.pr (.int .i64) (.pr (.int .i64) (.sl e4 (.int .i64))))))))))) (.pr (.int .i64) (.pr (.sl e5 (.int .i64)) (.pr (.sl e6 (.int .i64)) (.pr (.st (.pr (.int .i64) (.pr (.int .i64) (.pr (.int .i64) (.sl e7 (.st (.pr (.int .i64) (.pr (.int .i64) (.int .i64))))))))) (.pr (.sl e8 (.int .i64)) (.pr (.sl e9 (.int .i64)) (.pr (.st (.pr (.int .i64) (.pr (.int .i64) (.sl e10 (.st (.pr (.int .i64) (.pr (.int .i64) (.int .i64)))))))) (.sl e11 (.int .i64))))))))))) a) : laws_szWork k a left = some (if (sz_Work a : Int) ≤ left then left - (sz_Work a : Int) else -1) := by
  have hs : sz_Work a = (sz_Sheaf (a.1)) + (sz_Int64S (a.2.2.1)) + (sz_Int64S (a.2.2.2.1)) + (sz_Network (a.2.2.2.2.1)) + (sz_Int64S (a.2.2.2.2.2.1)) + (sz_Int64S (a.2.2.2.2.2.2.1)) + (sz_Phases (a.2.2.2.2.2.2.2.1)) + (sz_Int64S (a.2.2.2.2.2.2.2.2)) := rfl
  unfold laws_szWork
  rw [hs]
  have q0 := szSheaf_ok hk (a := a.1) (left := left) (by omega) (by omega) h.1
  rw [q0]
  by_cases c0 : ((sz_Sheaf (a.1)) : Int) ≤ left
  case neg => rw [if_neg c0]; simp only [Option.bind_some]; rw [decide_eq_true (by omega), if_pos rfl, if_neg (by omega)]
  rw [if_pos c0]; simp only [Option.bind_some]
  rw [decide_eq_false (by omega), if_neg (by simp)]
  have q1 := szInt64S_ok (a := a.2.2.1) (left := left - ((sz_Sheaf (a.1)) : Int)) (by omega) (by omega) h.2.2.1
  rw [q1]
  by_cases c1 : ((sz_Int64S (a.2.2.1)) : Int) ≤ left - ((sz_Sheaf (a.1)) : Int)
  case neg => rw [if_neg c1]; simp only [Option.bind_some]; rw [decide_eq_true (by omega), if_pos rfl, if_neg (by omega)]
  rw [if_pos c1]; simp only [Option.bind_some]
  rw [decide_eq_false (by omega), if_neg (by simp)]
  have q2 := szInt64S_ok (a := a.2.2.2.1) (left := left - ((sz_Sheaf (a.1)) : Int) - ((sz_Int64S (a.2.2.1)) : Int)) (by omega) (by omega) h.2.2.2.1
  rw [q2]
  by_cases c2 : ((sz_Int64S (a.2.2.2.1)) : Int) ≤ left - ((sz_Sheaf (a.1)) : Int) - ((sz_Int64S (a.2.2.1)) : Int)
  case neg => rw [if_neg c2]; simp only [Option.bind_some]; rw [decide_eq_true (by omega), if_pos rfl, if_neg (by omega)]
  rw [if_pos c2]; simp only [Option.bind_some]
  rw [decide_eq_false (by omega), if_neg (by simp)]
  have q3 := szNetwork_ok (a := a.2.2.2.2.1) (left := left - ((sz_Sheaf (a.1)) : Int) - ((sz_Int64S (a.2.2.1)) : Int) - ((sz_Int64S (a.2.2.2.1)) : Int)) (by omega) (by omega) h.2.2.2.2.1
  rw [q3]
  by_cases c3 : ((sz_Network (a.2.2.2.2.1)) : Int) ≤ left - ((sz_Sheaf (a.1)) : Int) - ((sz_Int64S (a.2.2.1)) : Int) - ((sz_Int64S (a.2.2.2.1)) : Int)
  case neg => rw [if_neg c3]; simp only [Option.bind_some]; rw [decide_eq_true (by omega), if_pos rfl, if_neg (by omega)]
  rw [if_pos c3]; simp only [Option.bind_some]
  rw [decide_eq_false (by omega), if_neg (by simp)]
  have q4 := szInt64S_ok (a := a.2.2.2.2.2.1) (left := left - ((sz_Sheaf (a.1)) : Int) - ((sz_Int64S (a.2.2.1)) : Int) - ((sz_Int64S (a.2.2.2.1)) : Int) - ((sz_Network (a.2.2.2.2.1)) : Int)) (by omega) (by omega) h.2.2.2.2.2.1
  rw [q4]
  by_cases c4 : ((sz_Int64S (a.2.2.2.2.2.1)) : Int) ≤ left - ((sz_Sheaf (a.1)) : Int) - ((sz_Int64S (a.2.2.1)) : Int) - ((sz_Int64S (a.2.2.2.1)) : Int) - ((sz_Network (a.2.2.2.2.1)) : Int)
  case neg => rw [if_neg c4]; simp only [Option.bind_some]; rw [decide_eq_true (by omega), if_pos rfl, if_neg (by omega)]
  rw [if_pos c4]; simp only [Option.bind_some]
  rw [decide_eq_false (by omega), if_neg (by simp)]
  have q5 := szInt64S_ok (a := a.2.2.2.2.2.2.1) (left := left - ((sz_Sheaf (a.1)) : Int) - ((sz_Int64S (a.2.2.1)) : Int) - ((sz_Int64S (a.2.2.2.1)) : Int) - ((sz_Network (a.2.2.2.2.1)) : Int) - ((sz_Int64S (a.2.2.2.2.2.1)) : Int)) (by omega) (by omega) h.2.2.2.2.2.2.1
  rw [q5]
  by_cases c5 : ((sz_Int64S (a.2.2.2.2.2.2.1)) : Int) ≤ left - ((sz_Sheaf (a.1)) : Int) - ((sz_Int64S (a.2.2.1)) : Int) - ((sz_Int64S (a.2.2.2.1)) : Int) - ((sz_Network (a.2.2.2.2.1)) : Int) - ((sz_Int64S (a.2.2.2.2.2.1)) : Int)
  case neg => rw [if_neg c5]; simp only [Option.bind_some]; rw [decide_eq_true (by omega), if_pos rfl, if_neg (by omega)]
  rw [if_pos c5]; simp only [Option.bind_some]
  rw [decide_eq_false (by omega), if_neg (by simp)]
  have q6 := szPhases_ok (a := a.2.2.2.2.2.2.2.1) (left := left - ((sz_Sheaf (a.1)) : Int) - ((sz_Int64S (a.2.2.1)) : Int) - ((sz_Int64S (a.2.2.2.1)) : Int) - ((sz_Network (a.2.2.2.2.1)) : Int) - ((sz_Int64S (a.2.2.2.2.2.1)) : Int) - ((sz_Int64S (a.2.2.2.2.2.2.1)) : Int)) (by omega) (by omega) h.2.2.2.2.2.2.2.1
  rw [q6]
  by_cases c6 : ((sz_Phases (a.2.2.2.2.2.2.2.1)) : Int) ≤ left - ((sz_Sheaf (a.1)) : Int) - ((sz_Int64S (a.2.2.1)) : Int) - ((sz_Int64S (a.2.2.2.1)) : Int) - ((sz_Network (a.2.2.2.2.1)) : Int) - ((sz_Int64S (a.2.2.2.2.2.1)) : Int) - ((sz_Int64S (a.2.2.2.2.2.2.1)) : Int)
  case neg => rw [if_neg c6]; simp only [Option.bind_some]; rw [decide_eq_true (by omega), if_pos rfl, if_neg (by omega)]
  rw [if_pos c6]; simp only [Option.bind_some]
  rw [decide_eq_false (by omega), if_neg (by simp)]
  have q7 := szInt64S_ok (a := a.2.2.2.2.2.2.2.2) (left := left - ((sz_Sheaf (a.1)) : Int) - ((sz_Int64S (a.2.2.1)) : Int) - ((sz_Int64S (a.2.2.2.1)) : Int) - ((sz_Network (a.2.2.2.2.1)) : Int) - ((sz_Int64S (a.2.2.2.2.2.1)) : Int) - ((sz_Int64S (a.2.2.2.2.2.2.1)) : Int) - ((sz_Phases (a.2.2.2.2.2.2.2.1)) : Int)) (by omega) (by omega) h.2.2.2.2.2.2.2.2
  rw [q7]
  by_cases c7 : ((sz_Int64S (a.2.2.2.2.2.2.2.2)) : Int) ≤ left - ((sz_Sheaf (a.1)) : Int) - ((sz_Int64S (a.2.2.1)) : Int) - ((sz_Int64S (a.2.2.2.1)) : Int) - ((sz_Network (a.2.2.2.2.1)) : Int) - ((sz_Int64S (a.2.2.2.2.2.1)) : Int) - ((sz_Int64S (a.2.2.2.2.2.2.1)) : Int) - ((sz_Phases (a.2.2.2.2.2.2.2.1)) : Int)
  case neg => rw [if_neg c7]; simp only [Option.bind_some]; rw [decide_eq_true (by omega), if_pos rfl, if_neg (by omega)]
  rw [if_pos c7]; simp only [Option.bind_some]
  rw [decide_eq_false (by omega), if_neg (by simp)]
  rw [if_pos (by omega)]; congr 1; omega
theorem sheSmall {s : She} (h : sz_Sheaf s ≤ 1048576) : smallSh s := by
  have e : sz_Sheaf s = s.1.length + sumL List.length s.1 + s.2.2.1.length + (s.2.2.2.length + sumL sz_Matrix s.2.2.2) := rfl
  refine ⟨⟨by omega, fun x hx => by have := sumL_mem List.length hx; omega⟩, by omega, by omega, fun m hm => ?_⟩
  have h1 := sumL_mem sz_Matrix hm
  have h2 : sz_Matrix m = m.2.2.2.length := rfl
  omega
theorem workSmall {w : Wrk} (h : sz_Work w ≤ 1048576) : smallW w := by
  have e : sz_Work w = sz_Sheaf w.1 + w.2.2.1.length + w.2.2.2.1.length + w.2.2.2.2.1.2.2.2.length + w.2.2.2.2.2.1.length + w.2.2.2.2.2.2.1.length + w.2.2.2.2.2.2.2.1.2.2.length + w.2.2.2.2.2.2.2.2.length := rfl
  exact ⟨sheSmall (by omega), by omega, by omega, by omega, by omega, by omega⟩
theorem toInt64S_ok {k : Nat} (hk : KK ≤ k) {a : List Int} (h : sz_Int64S a ≤ 10000000000) : laws_toInt64S k a = some a := by
  have hl : a.length ≤ 10000000000 := Nat.le_trans (show a.length ≤ sz_Int64S a by unfold sz_Int64S; omega) h
  unfold laws_toInt64S
  have hL := LIM_def
  rw [if_pos ⟨by omega, Int.le_refl _, by omega⟩]
  refine loop_copy (L := fun n i q => laws_toInt64S_l0 k n a i q fun q_5 => some q_5) (e := fun q => some q) a _ (by simp) ?_ ?_ (n := k) (by have := KK_def; omega)
  · intro n i x q hx hlt hq
    have hw := w_succ (i := i) (by omega)
    have hi : i < q.length := by omega
    simp [laws_toInt64S_l0, hlt, hx, hw, hi]
  · intro n q
    simp [laws_toInt64S_l0]
theorem toInt64SS_ok {k : Nat} (hk : KK ≤ k) {a : List (List Int)} (h : sz_Int64SS a ≤ 10000000000) : laws_toInt64SS k a = some a := by
  have hl : a.length ≤ 10000000000 := Nat.le_trans (show a.length ≤ sz_Int64SS a by unfold sz_Int64SS; omega) h
  unfold laws_toInt64SS
  have hL := LIM_def
  rw [if_pos ⟨by omega, Int.le_refl _, by omega⟩]
  refine loop_copy (L := fun n i q => laws_toInt64SS_l0 k n a i q fun q_5 => some q_5) (e := fun q => some q) a _ (by simp) ?_ ?_ (n := k) (by have := KK_def; omega)
  · intro n i x q hx hlt hq
    have hw := w_succ (i := i) (by omega)
    have hi : i < q.length := by omega
    have hm := sumL_mem sz_Int64S (List.mem_of_getElem? hx)
    have hb : sz_Int64S x ≤ 10000000000 := by unfold sz_Int64SS at h; omega
    simp [laws_toInt64SS_l0, toInt64S_ok hk hb, hlt, hx, hw, hi]
  · intro n q
    simp [laws_toInt64SS_l0]
theorem toComplex_ok {k : Nat} (hk : KK ≤ k) {a : List (List Int)} (h : sz_Complex a ≤ 10000000000) : laws_toComplex k a = some a := by
  have b0 : (sz_Int64SS a) ≤ 10000000000 := by unfold sz_Complex at h; omega
  unfold laws_toComplex
  simp only [toInt64SS_ok hk b0, Option.bind_some] <;> rfl
theorem toMatrix_ok {k : Nat} (hk : KK ≤ k) {a : Int × Int × Int × List Int} (h : sz_Matrix a ≤ 10000000000) : laws_toMatrix k a = some a := by
  have b3 : (sz_Int64S (a.2.2.2)) ≤ 10000000000 := by unfold sz_Matrix at h; omega
  unfold laws_toMatrix
  simp only [toInt64S_ok hk b3, Option.bind_some] <;> rfl
theorem toMatrixS_ok {k : Nat} (hk : KK ≤ k) {a : List (Int × Int × Int × List Int)} (h : sz_MatrixS a ≤ 10000000000) : laws_toMatrixS k a = some a := by
  have hl : a.length ≤ 10000000000 := Nat.le_trans (show a.length ≤ sz_MatrixS a by unfold sz_MatrixS; omega) h
  unfold laws_toMatrixS
  have hL := LIM_def
  rw [if_pos ⟨by omega, Int.le_refl _, by omega⟩]
  refine loop_copy (L := fun n i q => laws_toMatrixS_l0 k n a i q fun q_5 => some q_5) (e := fun q => some q) a _ (by simp) ?_ ?_ (n := k) (by have := KK_def; omega)
  · intro n i x q hx hlt hq
    have hw := w_succ (i := i) (by omega)
    have hi : i < q.length := by omega
    have hm := sumL_mem sz_Matrix (List.mem_of_getElem? hx)
    have hb : sz_Matrix x ≤ 10000000000 := by unfold sz_MatrixS at h; omega
    simp [laws_toMatrixS_l0, toMatrix_ok hk hb, hlt, hx, hw, hi]
  · intro n q
    simp [laws_toMatrixS_l0]
theorem toSheaf_ok {k : Nat} (hk : KK ≤ k) {a : List (List Int) × Int × List Int × (List (Int × Int × Int × List Int))} (h : sz_Sheaf a ≤ 10000000000) : laws_toSheaf k a = some a := by
  have b0 : (sz_Complex (a.1)) ≤ 10000000000 := by unfold sz_Sheaf at h; omega
  have b2 : (sz_Int64S (a.2.2.1)) ≤ 10000000000 := by unfold sz_Sheaf at h; omega
  have b3 : (sz_MatrixS (a.2.2.2)) ≤ 10000000000 := by unfold sz_Sheaf at h; omega
  unfold laws_toSheaf
  simp only [toComplex_ok hk b0, toInt64S_ok hk b2, toMatrixS_ok hk b3, Option.bind_some] <;> rfl
theorem toArc_ok {a : Int × Int × Int}  : laws_toArc a = some a := by
  unfold laws_toArc
  rfl
theorem toArcS_ok {k : Nat} (hk : KK ≤ k) {a : List (Int × Int × Int)} (h : sz_ArcS a ≤ 10000000000) : laws_toArcS k a = some a := by
  have hl : a.length ≤ 10000000000 := Nat.le_trans (show a.length ≤ sz_ArcS a by unfold sz_ArcS; omega) h
  unfold laws_toArcS
  have hL := LIM_def
  rw [if_pos ⟨by omega, Int.le_refl _, by omega⟩]
  refine loop_copy (L := fun n i q => laws_toArcS_l0 k n a i q fun q_5 => some q_5) (e := fun q => some q) a _ (by simp) ?_ ?_ (n := k) (by have := KK_def; omega)
  · intro n i x q hx hlt hq
    have hw := w_succ (i := i) (by omega)
    have hi : i < q.length := by omega
    simp [laws_toArcS_l0, toArc_ok, hlt, hx, hw, hi]
  · intro n q
    simp [laws_toArcS_l0]
theorem toNetwork_ok {k : Nat} (hk : KK ≤ k) {a : Int × Int × Int × (List (Int × Int × Int))} (h : sz_Network a ≤ 10000000000) : laws_toNetwork k a = some a := by
  have b3 : (sz_ArcS (a.2.2.2)) ≤ 10000000000 := by unfold sz_Network at h; omega
  unfold laws_toNetwork
  simp only [toArcS_ok hk b3, Option.bind_some] <;> rfl
theorem toTurn_ok {a : Int × Int × Int}  : laws_toTurn a = some a := by
  unfold laws_toTurn
  rfl
theorem toTurnS_ok {k : Nat} (hk : KK ≤ k) {a : List (Int × Int × Int)} (h : sz_TurnS a ≤ 10000000000) : laws_toTurnS k a = some a := by
  have hl : a.length ≤ 10000000000 := Nat.le_trans (show a.length ≤ sz_TurnS a by unfold sz_TurnS; omega) h
  unfold laws_toTurnS
  have hL := LIM_def
  rw [if_pos ⟨by omega, Int.le_refl _, by omega⟩]
  refine loop_copy (L := fun n i q => laws_toTurnS_l0 k n a i q fun q_5 => some q_5) (e := fun q => some q) a _ (by simp) ?_ ?_ (n := k) (by have := KK_def; omega)
  · intro n i x q hx hlt hq
    have hw := w_succ (i := i) (by omega)
    have hi : i < q.length := by omega
    simp [laws_toTurnS_l0, toTurn_ok, hlt, hx, hw, hi]
  · intro n q
    simp [laws_toTurnS_l0]
theorem toPhases_ok {k : Nat} (hk : KK ≤ k) {a : Int × Int × (List (Int × Int × Int))} (h : sz_Phases a ≤ 10000000000) : laws_toPhases k a = some a := by
  have b2 : (sz_TurnS (a.2.2)) ≤ 10000000000 := by unfold sz_Phases at h; omega
  unfold laws_toPhases
  simp only [toTurnS_ok hk b2, Option.bind_some] <;> rfl
theorem toWork_ok {k : Nat} (hk : KK ≤ k) {a : (List (List Int) × Int × List Int × (List (Int × Int × Int × List Int))) × Int × List Int × List Int × (Int × Int × Int × (List (Int × Int × Int))) × List Int × List Int × (Int × Int × (List (Int × Int × Int))) × List Int} (h : sz_Work a ≤ 10000000000) : laws_toWork k a = some a := by
  have b0 : (sz_Sheaf (a.1)) ≤ 10000000000 := by unfold sz_Work at h; omega
  have b2 : (sz_Int64S (a.2.2.1)) ≤ 10000000000 := by unfold sz_Work at h; omega
  have b3 : (sz_Int64S (a.2.2.2.1)) ≤ 10000000000 := by unfold sz_Work at h; omega
  have b4 : (sz_Network (a.2.2.2.2.1)) ≤ 10000000000 := by unfold sz_Work at h; omega
  have b5 : (sz_Int64S (a.2.2.2.2.2.1)) ≤ 10000000000 := by unfold sz_Work at h; omega
  have b6 : (sz_Int64S (a.2.2.2.2.2.2.1)) ≤ 10000000000 := by unfold sz_Work at h; omega
  have b7 : (sz_Phases (a.2.2.2.2.2.2.2.1)) ≤ 10000000000 := by unfold sz_Work at h; omega
  have b8 : (sz_Int64S (a.2.2.2.2.2.2.2.2)) ≤ 10000000000 := by unfold sz_Work at h; omega
  unfold laws_toWork
  simp only [toSheaf_ok hk b0, toInt64S_ok hk b2, toInt64S_ok hk b3, toNetwork_ok hk b4, toInt64S_ok hk b5, toInt64S_ok hk b6, toPhases_ok hk b7, toInt64S_ok hk b8, Option.bind_some] <;> rfl
theorem eqInt64S_ok {k : Nat} (hk : KK ≤ k) {a b : List Int} (h : sz_Int64S a ≤ 10000000000) : laws_eqInt64S k a b = some (decide (a = b)) := by
  have hle : a.length ≤ 10000000000 := Nat.le_trans (show a.length ≤ sz_Int64S a by unfold sz_Int64S; omega) h
  unfold laws_eqInt64S
  by_cases hl : a.length = b.length
  · rw [if_neg (by simp [hl])]
    refine loop_eq (L := fun n i => laws_eqInt64S_l0 k n a b i (some true)) a b hl ?_ ?_ (n := k) (by have := KK_def; omega)
    · intro n i x y hx hy hlt
      have hw := w_succ (i := i) (by omega)
      by_cases e : x = y <;> simp [laws_eqInt64S_l0, hlt, hx, hy, hw, e]
    · intro n
      simp [laws_eqInt64S_l0]
  · have h2 : a ≠ b := fun e => hl (by rw [e])
    have h3 : ¬ (a.length : Int) = b.length := by omega
    simp [h3, h2]
theorem eqInt64SS_ok {k : Nat} (hk : KK ≤ k) {a b : List (List Int)} (h : sz_Int64SS a ≤ 10000000000) : laws_eqInt64SS k a b = some (decide (a = b)) := by
  have hle : a.length ≤ 10000000000 := Nat.le_trans (show a.length ≤ sz_Int64SS a by unfold sz_Int64SS; omega) h
  unfold laws_eqInt64SS
  by_cases hl : a.length = b.length
  · rw [if_neg (by simp [hl])]
    refine loop_eq (L := fun n i => laws_eqInt64SS_l0 k n a b i (some true)) a b hl ?_ ?_ (n := k) (by have := KK_def; omega)
    · intro n i x y hx hy hlt
      have hw := w_succ (i := i) (by omega)
      have hm := sumL_mem sz_Int64S (List.mem_of_getElem? hx)
      have hb : sz_Int64S x ≤ 10000000000 := by unfold sz_Int64SS at h; omega
      simp only [laws_eqInt64SS_l0, hlt, decide_true, if_true, Int.natCast_nonneg, Int.toNat_natCast, hx, hy, Option.bind_some, hw, eqInt64S_ok hk hb]
      by_cases e : x = y
      · rw [decide_eq_true e, if_pos e]; simp
      · rw [decide_eq_false e, if_neg e]; simp
    · intro n
      simp [laws_eqInt64SS_l0]
  · have h2 : a ≠ b := fun e => hl (by rw [e])
    have h3 : ¬ (a.length : Int) = b.length := by omega
    simp [h3, h2]
theorem eqComplex_ok {k : Nat} (hk : KK ≤ k) {a b : List (List Int)} (h : sz_Complex a ≤ 10000000000) : laws_eqComplex k a b = some (decide (a = b)) := by
  have c0 : (sz_Int64SS a) ≤ 10000000000 := by unfold sz_Complex at h; omega
  unfold laws_eqComplex
  simp only [eqInt64SS_ok hk c0, Option.bind_some, Prod.mk.injEq]
  by_cases x0 : a = b
  case neg => simp [x0]
  subst x0
  simp
theorem eqMatrix_ok {k : Nat} (hk : KK ≤ k) {a b : Int × Int × Int × List Int} (h : sz_Matrix a ≤ 10000000000) : laws_eqMatrix k a b = some (decide (a = b)) := by
  obtain ⟨a0, a1, a2, a3⟩ := a
  obtain ⟨b0, b1, b2, b3⟩ := b
  have c3 : (sz_Int64S a3) ≤ 10000000000 := by unfold sz_Matrix at h; simp only at h; omega
  unfold laws_eqMatrix
  simp only [eqInt64S_ok hk c3, Option.bind_some, Prod.mk.injEq]
  by_cases x0 : a0 = b0
  case neg => simp [x0]
  subst x0
  by_cases x1 : a1 = b1
  case neg => simp [x1]
  subst x1
  by_cases x2 : a2 = b2
  case neg => simp [x2]
  subst x2
  by_cases x3 : a3 = b3
  case neg => simp [x3]
  subst x3
  simp
theorem eqMatrixS_ok {k : Nat} (hk : KK ≤ k) {a b : List (Int × Int × Int × List Int)} (h : sz_MatrixS a ≤ 10000000000) : laws_eqMatrixS k a b = some (decide (a = b)) := by
  have hle : a.length ≤ 10000000000 := Nat.le_trans (show a.length ≤ sz_MatrixS a by unfold sz_MatrixS; omega) h
  unfold laws_eqMatrixS
  by_cases hl : a.length = b.length
  · rw [if_neg (by simp [hl])]
    refine loop_eq (L := fun n i => laws_eqMatrixS_l0 k n a b i (some true)) a b hl ?_ ?_ (n := k) (by have := KK_def; omega)
    · intro n i x y hx hy hlt
      have hw := w_succ (i := i) (by omega)
      have hm := sumL_mem sz_Matrix (List.mem_of_getElem? hx)
      have hb : sz_Matrix x ≤ 10000000000 := by unfold sz_MatrixS at h; omega
      simp only [laws_eqMatrixS_l0, hlt, decide_true, if_true, Int.natCast_nonneg, Int.toNat_natCast, hx, hy, Option.bind_some, hw, eqMatrix_ok hk hb]
      by_cases e : x = y
      · rw [decide_eq_true e, if_pos e]; simp
      · rw [decide_eq_false e, if_neg e]; simp
    · intro n
      simp [laws_eqMatrixS_l0]
  · have h2 : a ≠ b := fun e => hl (by rw [e])
    have h3 : ¬ (a.length : Int) = b.length := by omega
    simp [h3, h2]
theorem eqSheaf_ok {k : Nat} (hk : KK ≤ k) {a b : List (List Int) × Int × List Int × (List (Int × Int × Int × List Int))} (h : sz_Sheaf a ≤ 10000000000) : laws_eqSheaf k a b = some (decide (a = b)) := by
  obtain ⟨a0, a1, a2, a3⟩ := a
  obtain ⟨b0, b1, b2, b3⟩ := b
  have c0 : (sz_Complex a0) ≤ 10000000000 := by unfold sz_Sheaf at h; simp only at h; omega
  have c2 : (sz_Int64S a2) ≤ 10000000000 := by unfold sz_Sheaf at h; simp only at h; omega
  have c3 : (sz_MatrixS a3) ≤ 10000000000 := by unfold sz_Sheaf at h; simp only at h; omega
  unfold laws_eqSheaf
  simp only [eqComplex_ok hk c0, eqInt64S_ok hk c2, eqMatrixS_ok hk c3, Option.bind_some, Prod.mk.injEq]
  by_cases x0 : a0 = b0
  case neg => simp [x0]
  subst x0
  by_cases x1 : a1 = b1
  case neg => simp [x1]
  subst x1
  by_cases x2 : a2 = b2
  case neg => simp [x2]
  subst x2
  by_cases x3 : a3 = b3
  case neg => simp [x3]
  subst x3
  simp
theorem eqArc_ok {a b : Int × Int × Int}  : laws_eqArc a b = some (decide (a = b)) := by
  obtain ⟨a0, a1, a2⟩ := a
  obtain ⟨b0, b1, b2⟩ := b
  unfold laws_eqArc
  simp only [Prod.mk.injEq]
  by_cases x0 : a0 = b0
  case neg => simp [x0]
  subst x0
  by_cases x1 : a1 = b1
  case neg => simp [x1]
  subst x1
  by_cases x2 : a2 = b2
  case neg => simp [x2]
  subst x2
  simp
theorem eqArcS_ok {k : Nat} (hk : KK ≤ k) {a b : List (Int × Int × Int)} (h : sz_ArcS a ≤ 10000000000) : laws_eqArcS k a b = some (decide (a = b)) := by
  have hle : a.length ≤ 10000000000 := Nat.le_trans (show a.length ≤ sz_ArcS a by unfold sz_ArcS; omega) h
  unfold laws_eqArcS
  by_cases hl : a.length = b.length
  · rw [if_neg (by simp [hl])]
    refine loop_eq (L := fun n i => laws_eqArcS_l0 k n a b i (some true)) a b hl ?_ ?_ (n := k) (by have := KK_def; omega)
    · intro n i x y hx hy hlt
      have hw := w_succ (i := i) (by omega)
      simp only [laws_eqArcS_l0, hlt, decide_true, if_true, Int.natCast_nonneg, Int.toNat_natCast, hx, hy, Option.bind_some, hw, eqArc_ok]
      by_cases e : x = y
      · rw [decide_eq_true e, if_pos e]; simp
      · rw [decide_eq_false e, if_neg e]; simp
    · intro n
      simp [laws_eqArcS_l0]
  · have h2 : a ≠ b := fun e => hl (by rw [e])
    have h3 : ¬ (a.length : Int) = b.length := by omega
    simp [h3, h2]
theorem eqNetwork_ok {k : Nat} (hk : KK ≤ k) {a b : Int × Int × Int × (List (Int × Int × Int))} (h : sz_Network a ≤ 10000000000) : laws_eqNetwork k a b = some (decide (a = b)) := by
  obtain ⟨a0, a1, a2, a3⟩ := a
  obtain ⟨b0, b1, b2, b3⟩ := b
  have c3 : (sz_ArcS a3) ≤ 10000000000 := by unfold sz_Network at h; simp only at h; omega
  unfold laws_eqNetwork
  simp only [eqArcS_ok hk c3, Option.bind_some, Prod.mk.injEq]
  by_cases x0 : a0 = b0
  case neg => simp [x0]
  subst x0
  by_cases x1 : a1 = b1
  case neg => simp [x1]
  subst x1
  by_cases x2 : a2 = b2
  case neg => simp [x2]
  subst x2
  by_cases x3 : a3 = b3
  case neg => simp [x3]
  subst x3
  simp
theorem eqTurn_ok {a b : Int × Int × Int}  : laws_eqTurn a b = some (decide (a = b)) := by
  obtain ⟨a0, a1, a2⟩ := a
  obtain ⟨b0, b1, b2⟩ := b
  unfold laws_eqTurn
  simp only [Prod.mk.injEq]
  by_cases x0 : a0 = b0
  case neg => simp [x0]
  subst x0
  by_cases x1 : a1 = b1
  case neg => simp [x1]
  subst x1
  by_cases x2 : a2 = b2
  case neg => simp [x2]
  subst x2
  simp
theorem eqTurnS_ok {k : Nat} (hk : KK ≤ k) {a b : List (Int × Int × Int)} (h : sz_TurnS a ≤ 10000000000) : laws_eqTurnS k a b = some (decide (a = b)) := by
  have hle : a.length ≤ 10000000000 := Nat.le_trans (show a.length ≤ sz_TurnS a by unfold sz_TurnS; omega) h
  unfold laws_eqTurnS
  by_cases hl : a.length = b.length
  · rw [if_neg (by simp [hl])]
    refine loop_eq (L := fun n i => laws_eqTurnS_l0 k n a b i (some true)) a b hl ?_ ?_ (n := k) (by have := KK_def; omega)
    · intro n i x y hx hy hlt
      have hw := w_succ (i := i) (by omega)
      simp only [laws_eqTurnS_l0, hlt, decide_true, if_true, Int.natCast_nonneg, Int.toNat_natCast, hx, hy, Option.bind_some, hw, eqTurn_ok]
      by_cases e : x = y
      · rw [decide_eq_true e, if_pos e]; simp
      · rw [decide_eq_false e, if_neg e]; simp
    · intro n
      simp [laws_eqTurnS_l0]
  · have h2 : a ≠ b := fun e => hl (by rw [e])
    have h3 : ¬ (a.length : Int) = b.length := by omega
    simp [h3, h2]
theorem eqPhases_ok {k : Nat} (hk : KK ≤ k) {a b : Int × Int × (List (Int × Int × Int))} (h : sz_Phases a ≤ 10000000000) : laws_eqPhases k a b = some (decide (a = b)) := by
  obtain ⟨a0, a1, a2⟩ := a
  obtain ⟨b0, b1, b2⟩ := b
  have c2 : (sz_TurnS a2) ≤ 10000000000 := by unfold sz_Phases at h; simp only at h; omega
  unfold laws_eqPhases
  simp only [eqTurnS_ok hk c2, Option.bind_some, Prod.mk.injEq]
  by_cases x0 : a0 = b0
  case neg => simp [x0]
  subst x0
  by_cases x1 : a1 = b1
  case neg => simp [x1]
  subst x1
  by_cases x2 : a2 = b2
  case neg => simp [x2]
  subst x2
  simp
theorem eqWork_ok {k : Nat} (hk : KK ≤ k) {a b : (List (List Int) × Int × List Int × (List (Int × Int × Int × List Int))) × Int × List Int × List Int × (Int × Int × Int × (List (Int × Int × Int))) × List Int × List Int × (Int × Int × (List (Int × Int × Int))) × List Int} (h : sz_Work a ≤ 10000000000) : laws_eqWork k a b = some (decide (a = b)) := by
  obtain ⟨a0, a1, a2, a3, a4, a5, a6, a7, a8⟩ := a
  obtain ⟨b0, b1, b2, b3, b4, b5, b6, b7, b8⟩ := b
  have c0 : (sz_Sheaf a0) ≤ 10000000000 := by unfold sz_Work at h; simp only at h; omega
  have c2 : (sz_Int64S a2) ≤ 10000000000 := by unfold sz_Work at h; simp only at h; omega
  have c3 : (sz_Int64S a3) ≤ 10000000000 := by unfold sz_Work at h; simp only at h; omega
  have c4 : (sz_Network a4) ≤ 10000000000 := by unfold sz_Work at h; simp only at h; omega
  have c5 : (sz_Int64S a5) ≤ 10000000000 := by unfold sz_Work at h; simp only at h; omega
  have c6 : (sz_Int64S a6) ≤ 10000000000 := by unfold sz_Work at h; simp only at h; omega
  have c7 : (sz_Phases a7) ≤ 10000000000 := by unfold sz_Work at h; simp only at h; omega
  have c8 : (sz_Int64S a8) ≤ 10000000000 := by unfold sz_Work at h; simp only at h; omega
  unfold laws_eqWork
  simp only [eqSheaf_ok hk c0, eqInt64S_ok hk c2, eqInt64S_ok hk c3, eqNetwork_ok hk c4, eqInt64S_ok hk c5, eqInt64S_ok hk c6, eqPhases_ok hk c7, eqInt64S_ok hk c8, Option.bind_some, Prod.mk.injEq]
  by_cases x0 : a0 = b0
  case neg => simp [x0]
  subst x0
  by_cases x1 : a1 = b1
  case neg => simp [x1]
  subst x1
  by_cases x2 : a2 = b2
  case neg => simp [x2]
  subst x2
  by_cases x3 : a3 = b3
  case neg => simp [x3]
  subst x3
  by_cases x4 : a4 = b4
  case neg => simp [x4]
  subst x4
  by_cases x5 : a5 = b5
  case neg => simp [x5]
  subst x5
  by_cases x6 : a6 = b6
  case neg => simp [x6]
  subst x6
  by_cases x7 : a7 = b7
  case neg => simp [x7]
  subst x7
  by_cases x8 : a8 = b8
  case neg => simp [x8]
  subst x8
  simp
theorem eta_Work (x : (List (List Int) × Int × List Int × (List (Int × Int × Int × List Int))) × Int × List Int × List Int × (Int × Int × Int × (List (Int × Int × Int))) × List Int × List Int × (Int × Int × (List (Int × Int × Int))) × List Int) : ((x.1.1, (x.1.2.1, (x.1.2.2.1, x.1.2.2.2))), (x.2.1, (x.2.2.1, (x.2.2.2.1, ((x.2.2.2.2.1.1, (x.2.2.2.2.1.2.1, (x.2.2.2.2.1.2.2.1, x.2.2.2.2.1.2.2.2))), (x.2.2.2.2.2.1, (x.2.2.2.2.2.2.1, ((x.2.2.2.2.2.2.2.1.1, (x.2.2.2.2.2.2.2.1.2.1, x.2.2.2.2.2.2.2.1.2.2)), x.2.2.2.2.2.2.2.2)))))))) = x := rfl
theorem pure_FnExactValidWork {e0 e1 e2 e3 e4 e5 e6 e7 e8 e9 e10 e11 : TypeId} (a0 : Wrk) (f0 : InR (.st (.pr (.st (.pr (.st (.sl e0 (.sl e1 (.int .i64)))) (.pr (.int .i64) (.pr (.sl e2 (.int .i64)) (.sl e3 (.st (.pr (.int .i64) (.pr (.int .i64) (.pr (.int .i64) (.sl e4 (.int .i64))))))))))) (.pr (.int .i64) (.pr (.sl e5 (.int .i64)) (.pr (.sl e6 (.int .i64)) (.pr (.st (.pr (.int .i64) (.pr (.int .i64) (.pr (.int .i64) (.sl e7 (.st (.pr (.int .i64) (.pr (.int .i64) (.int .i64))))))))) (.pr (.sl e8 (.int .i64)) (.pr (.sl e9 (.int .i64)) (.pr (.st (.pr (.int .i64) (.pr (.int .i64) (.sl e10 (.st (.pr (.int .i64) (.pr (.int .i64) (.int .i64)))))))) (.sl e11 (.int .i64))))))))))) a0) : ∃ k : Nat, laws_FnExactValidWork k a0 = some true := by
  have hk := Nat.le_refl KK
  refine ⟨KK, ?_⟩
  have q0 := szWork_ok hk (a := a0) (left := 1048576) (by omega) (by omega) f0
  unfold laws_FnExactValidWork
  rw [q0]
  by_cases c0 : (sz_Work a0 : Int) ≤ 1048576
  case neg => rw [if_neg c0]; simp only [Option.bind_some]; rw [decide_eq_true (by omega), if_pos rfl]
  rw [if_pos c0]; simp only [Option.bind_some]
  rw [decide_eq_false (by omega), if_neg (by simp)]
  have b0 : sz_Work a0 ≤ 10000000000 := by omega
  have hs := workSmall (w := a0) (by omega)
  have h1 : spec_ValidWork KK a0 = some (workB KK a0) := by unfold spec_ValidWork; rw [specWork_ok hk hs]; rfl
  simp only [toWork_ok hk b0, Option.bind_some, eta_Work, h1, implWork_ok hk hs, eqWork_ok hk b0, beq_self_eq_true, decide_true, Bool.not_true, Bool.false_eq_true, if_false]
end Go.Proofs.YtankbidchgcapaaGreat.Ev
