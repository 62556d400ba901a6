/- Plain laws of the printed functions. No conditions but those in each statement. -/
import Derived.Test.YtnlpjpfpjnmjmaaEv5
import Derived.Test.YtnlpjpfpjnmjmaaG5
set_option linter.unusedVariables false
set_option linter.unusedSimpArgs false
namespace Go.Proofs.Ytnlpjpfpjnmjmaa.Ev
open Go.RowKit
theorem within_ok (n a b : Int) : impl_within n a b = some (decide (a ≤ n ∧ n ≤ b)) := by
  unfold impl_within
  by_cases h : a ≤ n <;> simp [h]
theorem l00In_ok (n a b : Int) : spec_l00In n a b = some (decide (a ≤ n ∧ n ≤ b)) := by
  unfold spec_l00In
  by_cases h : a ≤ n <;> simp [h]
theorem idxP_nonneg {α : Type} (p : α → Bool) (xs : List α) : decide (0 ≤ idxP p xs) = xs.any p := by
  unfold idxP
  cases h : xs.findIdx? p with
  | some i =>
    obtain ⟨hlt, hp, _⟩ := List.findIdx?_eq_some_iff_getElem.1 h
    have : xs.any p = true := List.any_eq_true.2 ⟨_, List.getElem_mem hlt, hp⟩
    rw [this]; simp
  | none =>
    rw [List.findIdx?_eq_none_iff] at h
    have : xs.any p = false := List.any_eq_false.2 fun x hx => by rw [h x hx]; simp
    rw [this]; simp
theorem adj_pairwise {α : Type} {R : α → α → Prop} (tr : ∀ a b c, R a b → R b c → R a c) : ∀ {l : List α}, (∀ (i : Nat) (a b : α), l[i]? = some a → l[i + 1]? = some b → R a b) → l.Pairwise R
  | [], _ => List.Pairwise.nil
  | [a], _ => List.pairwise_singleton ..
  | a :: b :: l, h => by
    have h0 := h 0 a b rfl rfl
    have ih := adj_pairwise tr (l := b :: l) (fun i x y hx hy => h (i + 1) x y hx hy)
    refine List.Pairwise.cons (fun x hx => ?_) ih
    rcases List.mem_cons.1 hx with rfl | hx
    · exact h0
    · exact tr _ _ _ h0 ((List.pairwise_cons.1 ih).1 x hx)
theorem pairwise_adj {α : Type} {R : α → α → Prop} {l : List α} (h : l.Pairwise R) {i : Nat} {a b : α} (ha : l[i]? = some a) (hb : l[i + 1]? = some b) : R a b := by
  obtain ⟨h1, rfl⟩ := List.getElem?_eq_some_iff.1 ha
  obtain ⟨h2, rfl⟩ := List.getElem?_eq_some_iff.1 hb
  exact List.pairwise_iff_getElem.1 h i (i + 1) h1 h2 (by omega)
/-- Ahead of a place: what is told of neighbours, as the loops tell it. -/
def prevP {α : Type} (R : α → α → Prop) (l : List α) (i : Nat) (x : α) : Prop := 0 < i → ∀ t, l[i - 1]? = some t → R t x
theorem prevP_pairwise {α : Type} {R : α → α → Prop} (tr : ∀ a b c, R a b → R b c → R a c) {l : List α} {m : Nat} (h : ∀ j, j < m → ∀ x, l[j]? = some x → prevP R l j x) : (l.take m).Pairwise R := by
  refine adj_pairwise tr fun i a b ha hb => ?_
  have hi : i + 1 < m := by
    have := (List.getElem?_eq_some_iff.1 hb).1
    rw [List.length_take] at this; omega
  rw [List.getElem?_take_of_lt (by omega)] at ha
  rw [List.getElem?_take_of_lt hi] at hb
  exact h (i + 1) hi b hb (by omega) a (by simpa using ha)
theorem pairwise_prevP {α : Type} {R : α → α → Prop} {l : List α} (h : l.Pairwise R) {i : Nat} {x : α} (hx : l[i]? = some x) : prevP R l i x := fun h0 t ht => by
  have e : i = (i - 1) + 1 := by omega
  rw [e] at hx
  exact pairwise_adj h ht hx
/-- Rounds by number, with a condition that held before. -/
theorem loop_allN' {R : Type} {L : Nat → Int → R} {b : Nat} {p : Nat → Bool} {r e : R}
    (h1 : ∀ n (i : Nat), i < b → (∀ j, j < i → p j = true) → L (n + 1) (i : Int) = if p i = true then L n ((i + 1 : Nat) : Int) else r) (h2 : ∀ n, L (n + 1) (b : Int) = e) {n : Nat} (hn : b < n) : L n 0 = if (List.range b).all p = true then e else r := by
  refine loop_list (α := Nat) (A := Unit) (L := fun n i _ => L n i) (I := fun pre _ => ∀ j ∈ pre, p j = true) (G := fun l _ => if l.all p = true then e else r) (List.range b) ?_ ?_ n (by simpa using hn) () (by simp)
  · intro n pre x post _ hx hI ih hg hlt
    rw [List.length_range] at hlt
    have hxi : x = pre.length := by
      rw [List.getElem?_range (by omega)] at hg
      simpa using hg.symm
    subst hxi
    have hpre : pre = List.range pre.length := by
      have := congrArg (List.take pre.length) hx
      rw [List.take_left, List.take_range] at this
      rw [Nat.min_eq_left (by omega)] at this
      exact this.symm
    rw [h1 n pre.length (by omega) (fun j hj => hI j (by rw [hpre]; simpa using hj))]
    by_cases hp : p pre.length = true
    · rw [if_pos hp, ih () (fun j hj => by
        rcases List.mem_append.1 hj with hj | hj
        · exact hI j hj
        · rw [List.mem_singleton.1 hj]; exact hp)]
      simp [hp]
    · rw [if_neg hp]; simp [hp]
  · intro n _ _
    simpa using h2 n
structure SimpP (s : List Int) : Prop where
  len1 : 1 ≤ s.length
  len4 : s.length ≤ 4
  vert : ∀ x ∈ s, 0 ≤ x ∧ x ≤ 9
  rise : s.Pairwise (fun a b : Int => a < b)
open Classical in
noncomputable def simpB (s : List Int) : Bool := decide (SimpP s)
theorem simpB_iff {s : List Int} : simpB s = true ↔ SimpP s := by unfold simpB; simp
theorem prevI {s : List Int} {i : Nat} {x : Int} (h0 : 0 < i) (hx : s[i]? = some x) : ∃ t, s[i - 1]? = some t := ⟨_, List.getElem?_eq_getElem (show i - 1 < s.length by have := (List.getElem?_eq_some_iff.1 hx).1; omega)⟩
open Classical in
/-- Numbers that rise within bounds, as the loop tells it. -/
theorem l00Rises_ok {k : Nat} (hk : KK ≤ k) {s : List Int} (hs : s.length ≤ 1000000000) (lo up : Int) : spec_l00Rises k s lo up = some (decide ((∀ x ∈ s, lo ≤ x ∧ x ≤ up) ∧ s.Pairwise (fun a b : Int => a < b))) := by
  have hK := KK_def
  unfold spec_l00Rises
  have := loop_allN (L := fun n i => spec_l00Rises_l0 k n s lo up i (some true)) (b := s.length) (p := fun i => decide (∀ x, s[i]? = some x → (lo ≤ x ∧ x ≤ up) ∧ prevP (fun a b : Int => a < b) s i x)) (r := some false) (e := some true) ?_ ?_ (n := k) (by omega)
  · rw [this]
    have e : ((List.range s.length).all (fun i => decide (∀ x, s[i]? = some x → (lo ≤ x ∧ x ≤ up) ∧ prevP (fun a b : Int => a < b) s i x)) = true) ↔ ((∀ x ∈ s, lo ≤ x ∧ x ≤ up) ∧ s.Pairwise (fun a b : Int => a < b)) := by
      simp only [List.all_eq_true, List.mem_range, decide_eq_true_eq]
      constructor
      · intro h
        refine ⟨fun x hx => ?_, ?_⟩
        · obtain ⟨i, hi, rfl⟩ := List.getElem_of_mem hx
          exact (h i hi _ (List.getElem?_eq_getElem hi)).1
        · have := prevP_pairwise (R := fun a b : Int => a < b) (fun a b c => Int.lt_trans) (l := s) (m := s.length) (fun j hj x hx => (h j hj x hx).2)
          rwa [List.take_length] at this
      · rintro ⟨h1, h2⟩ i hi x hx
        exact ⟨h1 x (List.mem_of_getElem? hx), pairwise_prevP h2 hx⟩
    by_cases c : ((∀ x ∈ s, lo ≤ x ∧ x ≤ up) ∧ s.Pairwise (fun a b : Int => a < b))
    · rw [if_pos (e.2 c), decide_eq_true c]
    · rw [if_neg (fun h => c (e.1 h)), decide_eq_false c]
  · intro n i hi
    have hlt : (i : Int) < (s.length : Int) := by omega
    have hw := w_succ (i := i) (by omega)
    have hg : s[i]? = some s[i] := List.getElem?_eq_getElem hi
    simp only [spec_l00Rises_l0, hlt, decide_true, if_true, Int.natCast_nonneg, Int.toNat_natCast, hg, Option.bind_some, hw, l00In_ok, Option.some.injEq, forall_eq']
    by_cases c1 : lo ≤ s[i] ∧ s[i] ≤ up
    · rw [decide_eq_true c1]
      simp only [Bool.not_true, Bool.false_eq_true, if_false]
      by_cases h0 : 0 < i
      · have h0' : (0 : Int) < (i : Int) := by omega
        have hw1 : w_i64 ((i : Int) - 1) = ((i - 1 : Nat) : Int) := by rw [w_id (by omega) (by omega)]; omega
        have hg1 : s[i - 1]? = some s[i - 1] := List.getElem?_eq_getElem (by omega)
        simp only [h0', decide_true, if_true, hw1, Int.natCast_nonneg, Int.toNat_natCast, hg1, Option.bind_some]
        by_cases c2 : s[i - 1] < s[i]
        · have : prevP (fun a b : Int => a < b) s i s[i] := fun _ t ht => by rw [hg1] at ht; cases ht; exact c2
          rw [if_neg (by simp; omega), if_pos (decide_eq_true ⟨c1, this⟩)]
        · have : ¬ prevP (fun a b : Int => a < b) s i s[i] := fun h => c2 (h h0 _ hg1)
          rw [if_pos (decide_eq_true (by omega)), if_neg (fun h => this (of_decide_eq_true h).2)]
      · have h0' : ¬ (0 : Int) < (i : Int) := by omega
        have : prevP (fun a b : Int => a < b) s i s[i] := fun h => absurd h h0
        rw [decide_eq_false h0', if_neg (by simp), if_pos (decide_eq_true ⟨c1, this⟩)]
    · rw [decide_eq_false c1, if_pos (by simp), if_neg (fun h => c1 (of_decide_eq_true h).1)]
  · intro n
    simp only [spec_l00Rises_l0, Int.lt_irrefl, decide_false, Bool.false_eq_true, if_false]
open Classical in
theorem l05Simplex_ok {k : Nat} (hk : KK ≤ k) {s : List Int} (hs : s.length ≤ 1000000000) : spec_l05Simplex k s = some (simpB s) := by
  unfold spec_l05Simplex
  rw [l00In_ok]
  simp only [Option.bind_some, l00Rises_ok hk hs]
  by_cases c : (1 : Int) ≤ (s.length : Int) ∧ (s.length : Int) ≤ 4
  · rw [decide_eq_true c, if_pos rfl]
    congr 1
    unfold simpB
    refine decide_eq_decide.2 ⟨fun h => ⟨by omega, by omega, h.1, h.2⟩, fun h => ⟨h.vert, h.rise⟩⟩
  · rw [decide_eq_false c, if_neg (by simp)]
    congr 1
    unfold simpB
    rw [decide_eq_false (fun h : SimpP s => c ⟨by have := h.len1; omega, by have := h.len4; omega⟩)]
open Classical in
theorem isRising_ok {k : Nat} (hk : KK ≤ k) {s : List Int} (hs : s.length ≤ 1000000000) : impl_isRising k s = some (decide (s.Pairwise (fun a b : Int => a < b))) := by
  have hK := KK_def
  unfold impl_isRising
  have key : ∀ (d n i : Nat), s.length - i = d → d < n → 0 < i → (s.take i).Pairwise (fun a b : Int => a < b) → impl_isRising_l0 k n s (i : Int) (some true) = some (decide (s.Pairwise (fun a b : Int => a < b))) := by
    intro d
    induction d with
    | zero =>
      intro n i hd hn h0 hp
      obtain ⟨n, rfl⟩ : ∃ m, n = m + 1 := ⟨n - 1, by omega⟩
      have : ¬ (i : Int) < (s.length : Int) := by omega
      rw [List.take_of_length_le (by omega)] at hp
      simp only [impl_isRising_l0, this, decide_false, Bool.false_eq_true, if_false, decide_eq_true hp]
    | succ d ih =>
      intro n i hd hn h0 hp
      obtain ⟨n, rfl⟩ : ∃ m, n = m + 1 := ⟨n - 1, by omega⟩
      have hi : i < s.length := by omega
      have hlt : (i : Int) < (s.length : Int) := by omega
      have hw := w_succ (i := i) (by omega)
      have hw1 : w_i64 ((i : Int) - 1) = ((i - 1 : Nat) : Int) := by rw [w_id (by omega) (by omega)]; omega
      have hg : s[i]? = some s[i] := List.getElem?_eq_getElem hi
      have hg1 : s[i - 1]? = some s[i - 1] := List.getElem?_eq_getElem (by omega)
      simp only [impl_isRising_l0, hlt, decide_true, if_true, Int.natCast_nonneg, Int.toNat_natCast, hg, hg1, Option.bind_some, hw, hw1]
      by_cases c : s[i - 1] < s[i]
      · rw [decide_eq_false (show ¬ s[i] ≤ s[i - 1] by omega), if_neg (by simp)]
        refine ih n (i + 1) (by omega) (by omega) (by omega) ?_
        refine adj_pairwise (R := fun a b : Int => a < b) (fun a b c => Int.lt_trans) fun j a b ha hb => ?_
        have hj : j + 1 < i + 1 := by
          have := (List.getElem?_eq_some_iff.1 hb).1
          rw [List.length_take] at this; omega
        rw [List.getElem?_take_of_lt (by omega)] at ha
        rw [List.getElem?_take_of_lt hj] at hb
        by_cases hji : j + 1 = i
        · have e1 : a = s[i - 1] := by
            have : s[j]? = s[i - 1]? := by rw [show j = i - 1 by omega]
            rw [ha, hg1] at this
            exact Option.some.inj this
          have e2 : b = s[i] := by
            rw [hji, hg] at hb
            exact (Option.some.inj hb).symm
          rw [e1, e2]; exact c
        · exact pairwise_adj hp (i := j) (by rw [List.getElem?_take_of_lt (by omega)]; exact ha) (by rw [List.getElem?_take_of_lt (by omega)]; exact hb)
      · rw [decide_eq_true (show s[i] ≤ s[i - 1] by omega), if_pos rfl]
        congr 1
        refine (decide_eq_false fun h => c ?_).symm
        exact List.pairwise_iff_getElem.1 h (i - 1) i (by omega) hi (by omega)
  have h1 := key (s.length - 1) k 1 rfl (by omega) (by omega) (by cases s with
    | nil => simp
    | cons a l => simp)
  exact h1
theorem notVertex_ok {k : Nat} (hk : KK ≤ k) {s : List Int} (hs : s.length ≤ 1000000000) : slices_ContainsFunc_int64__impl_ValidSimplex_1 k s () = some (s.any fun x => !decide (0 ≤ x ∧ x ≤ 9)) := by
  have hK := KK_def
  unfold slices_ContainsFunc_int64__impl_ValidSimplex_1 slices_IndexFunc_int64__impl_ValidSimplex_1
  rw [loop_find (L := fun n i => slices_IndexFunc_int64__impl_ValidSimplex_1_l0 k n s () (s.length : Int) i (some (-1))) (p := fun x => !decide (0 ≤ x ∧ x ≤ 9)) s ?_ ?_ (n := k) (by omega)]
  · rw [Option.bind_some, idxP_nonneg]
  · intro n i x hi hlt
    have hw := w_succ (i := i) (by omega)
    simp only [slices_IndexFunc_int64__impl_ValidSimplex_1_l0, impl_ValidSimplex_1, impl_isVertex, within_ok, hlt, decide_true, if_true, Int.natCast_nonneg, Int.toNat_natCast, hi, Option.bind_some, hw]
  · intro n
    simp [slices_IndexFunc_int64__impl_ValidSimplex_1_l0]
theorem validSimplex_ok {k : Nat} (hk : KK ≤ k) {s : List Int} (hs : s.length ≤ 1000000000) : impl_ValidSimplex k s = some (simpB s) := by
  unfold impl_ValidSimplex
  by_cases c1 : 1 ≤ s.length
  · rw [decide_eq_true (show (1 : Int) ≤ (s.length : Int) by omega), if_pos rfl]
    by_cases c2 : s.length ≤ 4
    · rw [decide_eq_true (show (s.length : Int) ≤ 4 by omega), if_pos rfl, isRising_ok hk hs, notVertex_ok hk hs]
      simp only [Option.bind_some]
      by_cases c3 : s.Pairwise (fun a b : Int => a < b)
      · rw [decide_eq_true c3, if_pos rfl]
        congr 1
        rw [Bool.eq_iff_iff, simpB_iff]
        simp only [Bool.not_eq_true', List.any_eq_false, Bool.not_eq_true, decide_eq_false_iff_not, Bool.not_eq_false', decide_eq_true_eq]
        exact ⟨fun h => ⟨c1, c2, fun x hx => by simpa using h x hx, c3⟩, fun h x hx => by simpa using h.vert x hx⟩
      · rw [decide_eq_false c3, if_neg (by simp)]
        congr 1
        symm
        rw [Bool.eq_false_iff, ne_eq, simpB_iff]
        exact fun h => c3 h.rise
    · rw [decide_eq_false (show ¬ (s.length : Int) ≤ 4 by omega), if_neg (by simp)]
      congr 1
      symm
      rw [Bool.eq_false_iff, ne_eq, simpB_iff]
      exact fun h => c2 h.len4
  · rw [decide_eq_false (show ¬ (1 : Int) ≤ (s.length : Int) by omega), if_neg (by simp)]
    congr 1
    symm
    rw [Bool.eq_false_iff, ne_eq, simpB_iff]
    exact fun h => c1 h.len1
def cI (x y : Int) : Int := if x < y then -1 else if y < x then 1 else 0
theorem compareInt_ok (x y : Int) : cmp_Compare_int64 x y = some (cI x y) := by
  unfold cmp_Compare_int64 cmp_isNaN_int64 cI
  by_cases h1 : x < y
  · simp [h1]
  · by_cases h2 : y < x <;> simp [h1, h2]
theorem compareInt'_ok (x y : Int) : cmp_Compare_int x y = some (cI x y) := by
  unfold cmp_Compare_int cmp_isNaN_int cI
  by_cases h1 : x < y
  · simp [h1]
  · by_cases h2 : y < x <;> simp [h1, h2]
theorem cmpOr2_ok {k : Nat} (hk : KK ≤ k) (a b : Int) : cmp_Or_int k [a, b] = some (if a = 0 then b else a) := by
  have hK := KK_def
  obtain ⟨m, rfl⟩ : ∃ m, k = m + 3 := ⟨k - 3, by omega⟩
  generalize hf : m + 3 = k
  have hw0 : w_i64 1 = 1 := w_id (by omega) (by omega)
  have hw1 : w_i64 2 = 2 := w_id (by omega) (by omega)
  show cmp_Or_int_l0 k k 0 [a, b] 2 0 (fun zero_2 => some zero_2) = _
  conv => lhs; arg 2; rw [← hf]
  by_cases h : a = 0
  · by_cases h' : b = 0
    · subst h; subst h'; simp [cmp_Or_int_l0, hw0, hw1]
    · subst h; simp [cmp_Or_int_l0, hw0, hw1, h']
  · simp [cmp_Or_int_l0, h]
theorem bl_irrefl : ∀ x : List UInt8, Op.bytesLess x x = false
  | [] => rfl
  | a :: x => by simp [Op.bytesLess, bl_irrefl x]
theorem bl_trans : ∀ x y z : List UInt8, Op.bytesLess x y = true → Op.bytesLess y z = true → Op.bytesLess x z = true
  | _, [], _, h, _ => by simp [Op.bytesLess] at h
  | _, _ :: _, [], _, h => by simp [Op.bytesLess] at h
  | [], _ :: _, _ :: _, _, _ => rfl
  | a :: x, b :: y, c :: z, h1, h2 => by
    simp only [Op.bytesLess, Bool.or_eq_true, Bool.and_eq_true, decide_eq_true_eq, beq_iff_eq] at h1 h2 ⊢
    rcases h1 with h1 | ⟨rfl, h1⟩
    · rcases h2 with h2 | ⟨rfl, h2⟩
      · exact .inl (UInt8.lt_trans h1 h2)
      · exact .inl h1
    · rcases h2 with h2 | ⟨rfl, h2⟩
      · exact .inl h2
      · exact .inr ⟨rfl, bl_trans x y z h1 h2⟩
theorem bl_total : ∀ x y : List UInt8, Op.bytesLess x y = false → x ≠ y → Op.bytesLess y x = true
  | [], [], _, h => absurd rfl h
  | _ :: _, [], _, _ => rfl
  | [], _ :: _, h, _ => by simp [Op.bytesLess] at h
  | a :: x, b :: y, h1, h2 => by
    simp only [Op.bytesLess, Bool.or_eq_false_iff, decide_eq_false_iff_not, Bool.and_eq_false_iff, beq_eq_false_iff_ne] at h1
    simp only [Op.bytesLess, Bool.or_eq_true, Bool.and_eq_true, decide_eq_true_eq, beq_iff_eq]
    by_cases h : a = b
    · subst h
      refine .inr ⟨rfl, bl_total x y (h1.2.resolve_left (fun h => h rfl)) (fun e => h2 (by rw [e]))⟩
    · exact .inl (UInt8.lt_of_le_of_ne (UInt8.not_lt.1 h1.1) (Ne.symm h))
theorem bl_asymm {x y : List UInt8} (h : Op.bytesLess x y = true) : Op.bytesLess y x = false := by
  cases h' : Op.bytesLess y x
  · rfl
  · have := bl_trans x y x h h'
    rw [bl_irrefl] at this; cases this
def cmpS (x y : List UInt8) : Int := if Op.bytesLess x y = true then -1 else if x = y then 0 else 1
/-- Simplices in order: by their lengths, then as lists. -/
def lexB : List Int → List Int → Bool
  | x :: a, y :: b => if x = y then lexB a b else decide (x < y)
  | _, _ => false
def befS (a b : List Int) : Bool := decide (a.length < b.length) || (decide (a.length = b.length) && lexB a b)
theorem lexB_irrefl : ∀ a : List Int, lexB a a = false
  | [] => rfl
  | x :: a => by simp [lexB, lexB_irrefl a]
theorem lexB_trans : ∀ a b c : List Int, a.length = b.length → b.length = c.length → lexB a b = true → lexB b c = true → lexB a c = true
  | [], _, _, _, _, h, _ => by simp [lexB] at h
  | _ :: _, [], _, _, _, h, _ => by simp [lexB] at h
  | _ :: _, _ :: _, [], _, _, _, h => by simp [lexB] at h
  | x :: a, y :: b, z :: c, h1, h2, h3, h4 => by
    simp only [lexB] at h3 h4 ⊢
    by_cases c1 : x = y
    · subst c1
      rw [if_pos rfl] at h3
      by_cases c2 : x = z
      · rw [if_pos c2] at h4 ⊢
        exact lexB_trans a b c (by simpa using h1) (by simpa using h2) h3 h4
      · rw [if_neg c2] at h4 ⊢; exact h4
    · rw [if_neg c1, decide_eq_true_eq] at h3
      by_cases c2 : y = z
      · subst c2; rw [if_neg c1, decide_eq_true_eq]; exact h3
      · rw [if_neg c2, decide_eq_true_eq] at h4
        rw [if_neg (by omega), decide_eq_true_eq]; omega
theorem lexB_total : ∀ a b : List Int, a.length = b.length → lexB a b = false → a ≠ b → lexB b a = true
  | [], [], _, _, h => absurd rfl h
  | _ :: _, [], h, _, _ => by simp at h
  | [], _ :: _, h, _, _ => by simp at h
  | x :: a, y :: b, h1, h2, h3 => by
    simp only [lexB] at h2 ⊢
    by_cases c : x = y
    · subst c
      rw [if_pos rfl] at h2 ⊢
      exact lexB_total a b (by simpa using h1) h2 (fun e => h3 (by rw [e]))
    · rw [if_neg c, decide_eq_false_iff_not] at h2
      rw [if_neg (Ne.symm c), decide_eq_true_eq]; omega
theorem befS_irrefl (a : List Int) : befS a a = false := by unfold befS; simp [lexB_irrefl]
theorem befS_trans {a b c : List Int} (h1 : befS a b = true) (h2 : befS b c = true) : befS a c = true := by
  unfold befS at *
  simp only [Bool.or_eq_true, Bool.and_eq_true, decide_eq_true_eq] at *
  rcases h1 with h1 | ⟨e1, h1⟩
  · rcases h2 with h2 | ⟨e2, h2⟩
    · left; omega
    · left; omega
  · rcases h2 with h2 | ⟨e2, h2⟩
    · left; omega
    · exact .inr ⟨by omega, lexB_trans a b c e1 e2 h1 h2⟩
theorem befS_total {a b : List Int} (h1 : befS a b = false) (h2 : a ≠ b) : befS b a = true := by
  unfold befS at *
  simp only [Bool.or_eq_false_iff, decide_eq_false_iff_not, Bool.and_eq_false_iff, Bool.or_eq_true, Bool.and_eq_true, decide_eq_true_eq] at *
  by_cases c : a.length = b.length
  · exact .inr ⟨c.symm, lexB_total a b c (h1.2.resolve_left (fun h => h c)) h2⟩
  · left; omega
theorem befS_asymm {a b : List Int} (h : befS a b = true) : befS b a = false := by
  cases h' : befS b a
  · rfl
  · have := befS_trans h h'
    rw [befS_irrefl] at this; cases this
def cmpL : List Int → List Int → Int
  | x :: a, y :: b => if cI x y = 0 then cmpL a b else cI x y
  | _ :: _, [] => 1
  | [], _ :: _ => -1
  | [], [] => 0
def cmpSx (a b : List Int) : Int := if cI (a.length : Int) (b.length : Int) = 0 then cmpL a b else cI (a.length : Int) (b.length : Int)
theorem cI_zero (x y : Int) : cI x y = 0 ↔ x = y := by
  unfold cI
  by_cases h1 : x < y
  · rw [if_pos h1]; constructor <;> intro h <;> omega
  · rw [if_neg h1]
    by_cases h2 : y < x
    · rw [if_pos h2]; constructor <;> intro h <;> omega
    · rw [if_neg h2]; constructor <;> intro h <;> omega
theorem cI_neg (x y : Int) : cI x y < 0 ↔ x < y := by
  unfold cI
  by_cases h1 : x < y
  · rw [if_pos h1]; constructor <;> intro h <;> omega
  · rw [if_neg h1]
    by_cases h2 : y < x
    · rw [if_pos h2]; constructor <;> intro h <;> omega
    · rw [if_neg h2]; constructor <;> intro h <;> omega
theorem cmpL_zero : ∀ a b : List Int, cmpL a b = 0 ↔ a = b
  | [], [] => by simp [cmpL]
  | _ :: _, [] => by simp [cmpL]
  | [], _ :: _ => by simp [cmpL]
  | x :: a, y :: b => by
    unfold cmpL
    by_cases c : cI x y = 0
    · rw [if_pos c, cmpL_zero a b, (cI_zero x y).1 c]; simp
    · rw [if_neg c]
      have : x ≠ y := fun e => c ((cI_zero x y).2 e)
      simp [c, this]
theorem cmpL_neg : ∀ a b : List Int, a.length = b.length → (cmpL a b < 0 ↔ lexB a b = true)
  | [], [], _ => by simp [cmpL, lexB]
  | _ :: _, [], h => by simp at h
  | [], _ :: _, h => by simp at h
  | x :: a, y :: b, h => by
    unfold cmpL lexB
    by_cases c : cI x y = 0
    · rw [if_pos c, if_pos ((cI_zero x y).1 c)]
      exact cmpL_neg a b (by simpa using h)
    · rw [if_neg c, if_neg (fun e => c ((cI_zero x y).2 e)), cI_neg, decide_eq_true_eq]
theorem cmpSx_zero (a b : List Int) : cmpSx a b = 0 ↔ a = b := by
  unfold cmpSx
  by_cases c : cI (a.length : Int) (b.length : Int) = 0
  · rw [if_pos c]; exact cmpL_zero a b
  · rw [if_neg c]
    exact ⟨fun h => absurd h c, fun h => by rw [h] at c; exact absurd ((cI_zero _ _).2 rfl) c⟩
theorem cmpSx_neg (a b : List Int) : decide (cmpSx a b < 0) = befS a b := by
  rw [Bool.eq_iff_iff, decide_eq_true_eq]
  unfold cmpSx befS
  simp only [Bool.or_eq_true, Bool.and_eq_true, decide_eq_true_eq]
  by_cases c : cI (a.length : Int) (b.length : Int) = 0
  · have e := (cI_zero _ _).1 c
    rw [if_pos c, cmpL_neg a b (by omega)]
    constructor
    · intro h; exact .inr ⟨by omega, h⟩
    · rintro (h | h)
      · omega
      · exact h.2
  · have e : ¬ (a.length : Int) = (b.length : Int) := fun e => c ((cI_zero _ _).2 e)
    rw [if_neg c, cI_neg]
    constructor
    · intro h; left; omega
    · rintro (h | h)
      · omega
      · omega
theorem cmpSx_ge (a b : List Int) : decide (0 ≤ cmpSx a b) = !befS a b := by
  rw [← cmpSx_neg]
  by_cases h : cmpSx a b < 0
  · rw [decide_eq_true h, decide_eq_false (by omega)]; rfl
  · rw [decide_eq_false h, decide_eq_true (by omega)]; rfl
theorem slCompare_ok {k : Nat} (hk : KK ≤ k) {a b : List Int} (ha : a.length ≤ 1000000000) (hb : b.length ≤ 1000000000) : slices_Compare_int64 k a b = some (cmpL a b) := by
  have hK := KK_def
  unfold slices_Compare_int64
  have key : ∀ (d n i : Nat), a.length - i = d → d < n → slices_Compare_int64_l0 k n a b a (a.length : Int) (i : Int) (fun s_4 s_5 => (if (decide ((List.length s_4 : Int) < (List.length s_5 : Int))) = true then some (-1) else some 0)) = (if i ≤ a.length then some (if a.length ≤ i then (if i < b.length then -1 else 0) else cmpL (a.drop i) (b.drop i)) else some (if a.length < b.length then -1 else 0)) := by
    intro d
    induction d with
    | zero =>
      intro n i hd hn
      obtain ⟨n, rfl⟩ : ∃ m, n = m + 1 := ⟨n - 1, by omega⟩
      have : ¬ (i : Int) < (a.length : Int) := by omega
      simp only [slices_Compare_int64_l0, this, decide_false, Bool.false_eq_true, if_false]
      by_cases h1 : i ≤ a.length
      · have : i = a.length := by omega
        subst this
        rw [if_pos (Nat.le_refl _), if_pos (Nat.le_refl _)]
        by_cases h2 : a.length < b.length
        · rw [decide_eq_true (by omega), if_pos rfl, if_pos h2]
        · rw [decide_eq_false (by omega), if_neg (by simp), if_neg h2]
      · rw [if_neg h1]
        by_cases h2 : a.length < b.length
        · rw [decide_eq_true (by omega), if_pos rfl, if_pos h2]
        · rw [decide_eq_false (by omega), if_neg (by simp), if_neg h2]
    | succ d ih =>
      intro n i hd hn
      obtain ⟨n, rfl⟩ : ∃ m, n = m + 1 := ⟨n - 1, by omega⟩
      have hi : i < a.length := by omega
      have hlt : (i : Int) < (a.length : Int) := by omega
      have hw := w_succ (i := i) (by omega)
      have da : a.drop i = a[i] :: a.drop (i + 1) := List.drop_eq_getElem_cons hi
      rw [if_pos (by omega), if_neg (by omega), da]
      simp only [slices_Compare_int64_l0, hlt, decide_true, if_true, Int.natCast_nonneg, Int.toNat_natCast, List.getElem?_eq_getElem hi, Option.bind_some, hw]
      by_cases hb2 : i < b.length
      · have db : b.drop i = b[i] :: b.drop (i + 1) := List.drop_eq_getElem_cons hb2
        rw [db, decide_eq_false (by omega), if_neg (by simp), List.getElem?_eq_getElem hb2]
        simp only [Option.bind_some, compareInt_ok]
        unfold cmpL
        by_cases c : cI a[i] b[i] = 0
        · rw [decide_eq_true c, if_neg (by simp), if_pos c, ih n (i + 1) (by omega) (by omega), if_pos (by omega)]
          by_cases h3 : a.length ≤ i + 1
          · rw [if_pos h3, List.drop_of_length_le (l := a) (by omega)]
            by_cases h4 : i + 1 < b.length
            · rw [if_pos h4, List.drop_eq_getElem_cons h4]; rfl
            · rw [if_neg h4, List.drop_of_length_le (l := b) (by omega)]; rfl
          · rw [if_neg h3]
        · rw [decide_eq_false c, if_pos (by simp), if_neg c]
      · rw [List.drop_of_length_le (l := b) (by omega), decide_eq_true (by omega), if_pos rfl]
        rfl
  have h0 := key a.length k 0 (by omega) (by omega)
  have hz : ((0 : Nat) : Int) = 0 := rfl
  rw [hz] at h0
  rw [h0, if_pos (Nat.zero_le _), List.drop_zero, List.drop_zero]
  by_cases c : a.length ≤ 0
  · have : a = [] := List.length_eq_zero_iff.1 (by omega)
    subst this
    rw [if_pos c]
    cases b with
    | nil => rfl
    | cons y b => rw [if_pos (by simp)]; rfl
  · rw [if_neg c]
theorem compareSx_ok {k : Nat} (hk : KK ≤ k) {a b : List Int} (ha : a.length ≤ 1000000000) (hb : b.length ≤ 1000000000) : impl_compareSimplices k a b = some (cmpSx a b) := by
  unfold impl_compareSimplices cmpSx
  rw [compareInt'_ok, slCompare_ok hk ha hb]
  simp only [Option.bind_some, cmpOr2_ok hk]
theorem l05Before_ok {k : Nat} (hk : KK ≤ k) {a b : List Int} (ha : a.length ≤ 1000000000) : spec_l05Before k a b = some (befS a b) := by
  have hK := KK_def
  unfold spec_l05Before befS
  by_cases hl : a.length = b.length
  · rw [decide_eq_true (show (a.length : Int) = (b.length : Int) by omega), if_neg (by simp), decide_eq_false (by omega), decide_eq_true hl, Bool.false_or, Bool.true_and]
    have key : ∀ (d n i : Nat), a.length - i = d → d < n → spec_l05Before_l0 k n a b (i : Int) (some false) = some (lexB (a.drop i) (b.drop i)) := by
      intro d
      induction d with
      | zero =>
        intro n i hd hn
        obtain ⟨n, rfl⟩ : ∃ m, n = m + 1 := ⟨n - 1, by omega⟩
        have : ¬ (i : Int) < (a.length : Int) := by omega
        simp only [spec_l05Before_l0, this, decide_false, Bool.false_eq_true, if_false]
        rw [List.drop_of_length_le (l := a) (by omega)]; rfl
      | succ d ih =>
        intro n i hd hn
        obtain ⟨n, rfl⟩ : ∃ m, n = m + 1 := ⟨n - 1, by omega⟩
        have hi : i < a.length := by omega
        have hib : i < b.length := by omega
        have hlt : (i : Int) < (a.length : Int) := by omega
        have hw := w_succ (i := i) (by omega)
        have da : a.drop i = a[i] :: a.drop (i + 1) := List.drop_eq_getElem_cons hi
        have db : b.drop i = b[i] :: b.drop (i + 1) := List.drop_eq_getElem_cons hib
        rw [da, db]
        unfold lexB
        simp only [spec_l05Before_l0, hlt, decide_true, if_true, Int.natCast_nonneg, Int.toNat_natCast, List.getElem?_eq_getElem hi, List.getElem?_eq_getElem hib, Option.bind_some, hw]
        by_cases c : a[i] = b[i]
        · rw [decide_eq_true c, if_neg (by simp), if_pos c]
          exact ih n (i + 1) (by omega) (by omega)
        · rw [decide_eq_false c, if_pos (by simp), if_neg c]
    exact key a.length k 0 (by omega) (by omega)
  · rw [decide_eq_false (show ¬ (a.length : Int) = (b.length : Int) by omega), if_pos (by simp), decide_eq_false hl, Bool.false_and, Bool.or_false]
    exact congrArg some (decide_eq_decide.2 (by omega))
theorem mid_ok {i j : Nat} (h : i + j < 4611686018427387904) : w_i64 (Int.fdiv (w_u64 (w_i64 ((i : Int) + (j : Int)))) (2 ^ 1)) = (((i + j) / 2 : Nat) : Int) := by
  rw [w_id (x := (i : Int) + j) (by omega) (by omega)]
  have hu : w_u64 ((i : Int) + (j : Int)) = (i : Int) + j := by unfold w_u64 IntKind.wrap; simp [IntKind.bits, IntKind.signed]; omega
  rw [hu, Int.fdiv_eq_ediv_of_nonneg _ (by omega), w_id (by omega) (by omega)]
  omega
abbrev Cx := List (List Int)
/-- A simplex without the vertex at a place. -/
def dropI (s : List Int) (k : Nat) : List Int := s.take k ++ s.drop (k + 1)
theorem dropI_len {s : List Int} {k : Nat} (h : k < s.length) : (dropI s k).length = s.length - 1 := by
  unfold dropI; rw [List.length_append, List.length_take, List.length_drop]; omega
structure CxP (c : Cx) : Prop where
  len : c.length ≤ 48
  simp : ∀ s ∈ c, SimpP s
  ord : c.Pairwise (fun a b => befS a b = true)
  face : ∀ s ∈ c, 1 < s.length → ∀ k, k < s.length → dropI s k ∈ c
open Classical in
noncomputable def cxB (c : Cx) : Bool := decide (CxP c)
theorem cxB_iff {c : Cx} : cxB c = true ↔ CxP c := by unfold cxB; simp
def smallCx (c : Cx) : Prop := c.length ≤ 1048576 ∧ ∀ s ∈ c, s.length ≤ 1048576
theorem l05Drop_ok {s : List Int} (hs : s.length ≤ 1048576) {k : Nat} (h : k < s.length) : spec_l05Drop s (k : Int) = some (dropI s k) := by
  have hL := LIM_def
  have hw := w_succ (i := k) (by omega)
  have b1 : (k : Int) ≤ (s.length : Int) := by omega
  have b2 : ((k + 1 : Nat) : Int) ≤ (s.length : Int) := by omega
  unfold spec_l05Drop spec_l00Own
  have hdr : (s.drop (k + 1)).take (s.length - (k + 1)) = s.drop (k + 1) := List.take_of_length_le (by rw [List.length_drop]; exact Nat.le_refl _)
  simp only [Int.natCast_nonneg, Int.le_refl, b1, and_self, if_true, Int.toNat_natCast]
  rw [if_pos (by simp only [List.length_nil, List.length_take]; omega)]
  simp only [Option.bind_some, hw, Int.natCast_nonneg, Int.toNat_natCast, b2, Int.le_refl, and_self, if_true, hdr]
  rw [if_pos (by simp only [List.length_take, List.length_drop]; omega)]
  rfl
/-- The number of a simplex in a list; behind its end if it is not there. -/
def posC (c : Cx) (s : List Int) : Nat := c.findIdx (fun y => decide (y = s))
theorem posC_lt {c : Cx} {s : List Int} : posC c s < c.length ↔ s ∈ c := by
  unfold posC
  rw [List.findIdx_lt_length]
  constructor
  · rintro ⟨x, hx, h⟩; rw [← of_decide_eq_true h]; exact hx
  · intro h; exact ⟨s, h, decide_eq_true rfl⟩
theorem posC_get {c : Cx} {s : List Int} (h : s ∈ c) : c[posC c s]? = some s := by
  have hl := posC_lt.2 h
  rw [List.getElem?_eq_getElem hl]
  have : decide (c[posC c s] = s) = true := List.findIdx_getElem (xs := c) (p := fun y => decide (y = s)) (w := hl)
  rw [of_decide_eq_true this]
theorem l00Same_ok {k : Nat} (hk : KK ≤ k) {a b : List Int} (ha : a.length ≤ 1000000000) : spec_l00Same k a b = some (decide (a = b)) := by
  have hK := KK_def
  unfold spec_l00Same
  by_cases hl : a.length = b.length
  · rw [decide_eq_true (show (a.length : Int) = (b.length : Int) by omega), if_neg (by simp)]
    refine loop_eq (L := fun n i => spec_l00Same_l0 k n a b i (some true)) a b hl ?_ ?_ (n := k) (by omega)
    · intro n i x y hx hy hlt
      have hw := w_succ (i := i) (by omega)
      by_cases e : x = y <;> simp [spec_l00Same_l0, hlt, hx, hy, hw, e]
    · intro n
      simp [spec_l00Same_l0]
  · have h2 : a ≠ b := fun e => hl (by rw [e])
    rw [decide_eq_false (show ¬ (a.length : Int) = (b.length : Int) by omega), if_pos (by simp), decide_eq_false h2]
theorem l05Find_ok {k : Nat} (hk : KK ≤ k) {c : Cx} (hc : smallCx c) (s : List Int) : spec_l05Find k c s = some (if posC c s < c.length then ((posC c s : Nat) : Int) else -1) := by
  have hK := KK_def
  obtain ⟨h1, h2⟩ := hc
  unfold spec_l05Find
  rw [loop_find (L := fun m i => spec_l05Find_l0 k m c s i (some (-1))) (p := fun y => decide (y = s)) c ?_ ?_ (n := k) (by omega)]
  · unfold idxP posC
    cases hf : c.findIdx? (fun y => decide (y = s)) with
    | some i =>
      obtain ⟨hlt, hp⟩ := List.findIdx?_eq_some_iff_findIdx_eq.1 hf
      rw [hp, if_pos hlt]
    | none =>
      rw [List.findIdx?_eq_none_iff] at hf
      have : ¬ c.findIdx (fun y => decide (y = s)) < c.length := fun h => by
        obtain ⟨x, hx, h2⟩ := List.findIdx_lt_length.1 h
        rw [hf x hx] at h2; cases h2
      rw [if_neg this]
  · intro m i x hi hlt
    have hw := w_succ (i := i) (by omega)
    have hxl := h2 x (List.mem_of_getElem? hi)
    simp only [spec_l05Find_l0, hlt, decide_true, if_true, Int.natCast_nonneg, Int.toNat_natCast, hi, Option.bind_some, hw, l00Same_ok hk (show x.length ≤ 1000000000 by omega)]
  · intro m
    simp [spec_l05Find_l0]
theorem find_negC (c : Cx) (s : List Int) : decide ((if posC c s < c.length then ((posC c s : Nat) : Int) else -1) < 0) = !decide (s ∈ c) := by
  by_cases h : s ∈ c
  · rw [if_pos (posC_lt.2 h), decide_eq_false (by omega), decide_eq_true h]; rfl
  · rw [if_neg (fun h2 => h (posC_lt.1 h2)), decide_eq_false h]; rfl
theorem concat2_ok {k : Nat} (hk : KK ≤ k) {a b : List Int} (ha : a.length ≤ 1048576) (hb : b.length ≤ 1048576) : slices_Concat_int64 k [a, b] = some (a ++ b) := by
  have hK := KK_def
  have hL := LIM_def
  obtain ⟨n, rfl⟩ : ∃ n, k = n + 3 := ⟨k - 3, by omega⟩
  have w1 : w_i64 (0 + (a.length : Int)) = (a.length : Int) := by rw [w_id (by omega) (by omega)]; omega
  have w2 : w_i64 ((a.length : Int) + (b.length : Int)) = ((a.length + b.length : Nat) : Int) := by rw [w_id (by omega) (by omega)]; omega
  have w3 : w_i64 ((0 : Int) + 1) = 1 := w_id (by omega) (by omega)
  have w4 : w_i64 ((1 : Int) + 1) = 2 := w_id (by omega) (by omega)
  have n1 : ¬ ((a.length : Int) < 0) := by omega
  have n2 : ¬ (((a.length + b.length : Nat) : Int) < 0) := by omega
  have l1 : (((a.length + b.length : Nat) : Int).toNat) * 8 ≤ LIM := by simp only [Int.toNat_natCast]; omega
  have l2 : a.length * 8 ≤ LIM := by omega
  have l3 : (a.length + b.length) * 8 ≤ LIM := by omega
  unfold slices_Concat_int64
  simp only [slices_Concat_int64_l0, List.length_cons, List.length_nil, Nat.zero_add, Nat.reduceAdd, show ((2 : Nat) : Int) = 2 from rfl, w1, w2, w3, w4]
  simp only [slices_Grow_int64_s, slices_Concat_int64_l1, w1, w2, w3, w4, n1, n2, true_and, l1, l2, l3, Int.natCast_nonneg, List.nil_append, decide_false, Bool.false_eq_true, if_false, if_true, Option.bind_some, and_self, List.getElem?_cons_zero, List.getElem?_cons_succ, show decide ((0 : Int) < 2) = true from rfl, show decide ((1 : Int) < 2) = true from rfl, show decide ((2 : Int) < 2) = false from rfl, show (0 : Int).toNat = 0 from rfl, show (1 : Int).toNat = 1 from rfl, show (0 : Int) ≤ 0 from Int.le_refl _, show (0 : Int) ≤ 1 by omega, List.length_cons, List.length_nil, Nat.zero_add, Nat.reduceAdd, show ((2 : Nat) : Int) = 2 from rfl]
/-- The faces. -/
def facesL (s : List Int) : Cx := if 1 < s.length then (List.range s.length).map (dropI s) else []
theorem facesOf_ok {k : Nat} (hk : KK ≤ k) {s : List Int} (hs : s.length ≤ 1048576) : impl_facesOf k s = some (facesL s) := by
  have hK := KK_def
  have hL := LIM_def
  unfold impl_facesOf
  have := loop_list (α := Nat) (A := Cx) (L := fun n i q => impl_facesOf_l0 k n s (s.length : Int) i q (fun q_3 => some q_3)) (I := fun pre q => q = (if 1 < s.length then (List.range pre.length).map (dropI s) else [])) (G := fun _ _ => some (facesL s)) (List.range s.length) ?_ ?_ k (by simp; omega) [] (by simp)
  · exact this
  · intro n pre x post q hx hq ih hg hlt
    rw [List.length_range] at hlt
    have hpl : pre.length < s.length := by omega
    have hw := w_succ (i := pre.length) (by omega)
    simp only [impl_facesOf_l0, hlt, decide_true, if_true]
    by_cases c : 1 < s.length
    · rw [if_pos c] at hq
      have b1 : (pre.length : Int) ≤ (s.length : Int) := by omega
      have b2 : ((pre.length + 1 : Nat) : Int) ≤ (s.length : Int) := by omega
      have hdr : (s.drop (pre.length + 1)).take (s.length - (pre.length + 1)) = s.drop (pre.length + 1) := List.take_of_length_le (by rw [List.length_drop]; exact Nat.le_refl _)
      have hcc := concat2_ok hk (a := s.take pre.length) (b := s.drop (pre.length + 1)) (by rw [List.length_take]; omega) (by rw [List.length_drop]; omega)
      have hlim : (q.length + 1) * 24 ≤ LIM := by rw [hq, List.length_map, List.length_range]; omega
      rw [decide_eq_true (by omega), if_pos rfl]
      simp only [Int.natCast_nonneg, Int.le_refl, Int.toNat_natCast, b1, hw, b2, and_self, if_true, hdr, hcc, Option.bind_some, List.length_singleton, hlim]
      refine ih _ ?_
      rw [if_pos c, hq, List.length_append, List.length_singleton, List.range_succ, List.map_append]
      rfl
    · rw [decide_eq_false (by omega), if_neg (by simp), hw]
      exact ih _ (by rw [if_neg c] at hq ⊢; exact hq)
  · intro n q hq
    rw [List.length_range] at hq ⊢
    simp only [impl_facesOf_l0, Int.lt_irrefl, decide_false, Bool.false_eq_true, if_false, hq]
    rfl
theorem facesL_mem {s f : List Int} : f ∈ facesL s ↔ 1 < s.length ∧ ∃ k, k < s.length ∧ f = dropI s k := by
  unfold facesL
  by_cases c : 1 < s.length
  · rw [if_pos c, List.mem_map]
    constructor
    · rintro ⟨k, hk, rfl⟩; exact ⟨c, k, List.mem_range.1 hk, rfl⟩
    · rintro ⟨_, k, hk, rfl⟩; exact ⟨k, List.mem_range.2 hk, rfl⟩
  · rw [if_neg c]; simp [c]
/-- The first place that is not before a simplex. -/
def lowC (c : Cx) (s : List Int) : Nat := c.findIdx (fun y => !befS y s)
theorem lowC_le (c : Cx) (s : List Int) : lowC c s ≤ c.length := List.findIdx_le_length
theorem lowC_lt {c : Cx} {s : List Int} {i : Nat} (h : i < lowC c s) (hi : i < c.length) : befS c[i] s = true := by
  have := List.not_of_lt_findIdx h
  simpa using this
theorem lowC_ge {c : Cx} {s : List Int} (hs : c.Pairwise (fun a b => befS a b = true)) {i : Nat} (h : lowC c s ≤ i) (hi : i < c.length) : befS c[i] s = false := by
  have hp : lowC c s < c.length := by omega
  have h0 : befS c[lowC c s] s = false := by
    have := List.findIdx_getElem (xs := c) (p := fun y => !befS y s) (w := hp)
    simp only [Bool.not_eq_true'] at this
    exact this
  by_cases e : i = lowC c s
  · subst e; exact h0
  · cases hb : befS c[i] s
    · rfl
    · have h1 := List.pairwise_iff_getElem.1 hs (lowC c s) i hp hi (by omega)
      rw [befS_trans h1 hb] at h0; cases h0
theorem lowC_pos {c : Cx} (hs : c.Pairwise (fun a b => befS a b = true)) {s : List Int} (h : s ∈ c) : lowC c s = posC c s := by
  have hl := posC_lt.2 h
  have hg := posC_get h
  rw [List.getElem?_eq_getElem hl] at hg
  have hg := Option.some.inj hg
  have h1 : ¬ posC c s < lowC c s := fun q => by have := lowC_lt q hl; rw [hg, befS_irrefl] at this; cases this
  have h2 : ¬ lowC c s < posC c s := fun q => by
    have h3 := List.pairwise_iff_getElem.1 hs (lowC c s) (posC c s) (by omega) hl q
    rw [hg] at h3
    rw [lowC_ge hs (Nat.le_refl _) (by omega)] at h3; cases h3
  omega
theorem indexOf_loop {k : Nat} (hk : KK ≤ k) {c : Cx} (hc : smallCx c) (hs : c.Pairwise (fun a b => befS a b = true)) {s : List Int} (hsl : s.length ≤ 1048576) {e : Cx → List Int → Unit → Int → Int → Option (Int × Bool)} :
    ∀ (d : Nat) (i j n : Nat), j - i ≤ d → d < n → i ≤ lowC c s → lowC c s ≤ j → j ≤ c.length → slices_BinarySearchFunc_int64__impl_compareSimplices_l0 k n c s () (c.length : Int) (i : Int) (j : Int) e = e c s () (c.length : Int) ((lowC c s : Nat) : Int) := by
  obtain ⟨hcl, hce⟩ := hc
  intro d
  induction d with
  | zero =>
    intro i j n h1 h2 h3 h4 h5
    obtain ⟨n, rfl⟩ : ∃ m, n = m + 1 := ⟨n - 1, by omega⟩
    have hlt : ¬ (i : Int) < (j : Int) := by omega
    simp only [slices_BinarySearchFunc_int64__impl_compareSimplices_l0, hlt, decide_false, Bool.false_eq_true, if_false]
    rw [show i = lowC c s by omega]
  | succ d ih =>
    intro i j n h1 h2 h3 h4 h5
    obtain ⟨n, rfl⟩ : ∃ m, n = m + 1 := ⟨n - 1, by omega⟩
    by_cases hij : i < j
    · have hlt : (i : Int) < (j : Int) := by omega
      have hm : (i + j) / 2 < c.length := by omega
      have hw := w_succ (i := (i + j) / 2) (by omega)
      have hml := hce c[(i + j) / 2] (List.getElem_mem hm)
      simp only [slices_BinarySearchFunc_int64__impl_compareSimplices_l0, hlt, decide_true, if_true, mid_ok (show i + j < 4611686018427387904 by omega), Int.natCast_nonneg, Int.toNat_natCast, List.getElem?_eq_getElem hm, Option.bind_some, compareSx_ok hk (show (c[(i + j) / 2]).length ≤ 1000000000 by omega) (show s.length ≤ 1000000000 by omega), cmpSx_neg, hw]
      by_cases hb : befS c[(i + j) / 2] s = true
      · rw [if_pos hb]
        refine ih _ _ _ (by omega) (by omega) ?_ h4 h5
        by_cases hq : lowC c s ≤ (i + j) / 2
        · rw [lowC_ge hs hq hm] at hb; cases hb
        · omega
      · rw [if_neg hb]
        refine ih _ _ _ (by omega) (by omega) h3 ?_ (by omega)
        by_cases hq : (i + j) / 2 < lowC c s
        · exact absurd (lowC_lt hq hm) hb
        · omega
    · have hlt : ¬ (i : Int) < (j : Int) := by omega
      simp only [slices_BinarySearchFunc_int64__impl_compareSimplices_l0, hlt, decide_false, Bool.false_eq_true, if_false]
      rw [show i = lowC c s by omega]
theorem indexOf_ok {k : Nat} (hk : KK ≤ k) {c : Cx} (hc : smallCx c) (hs : c.Pairwise (fun a b => befS a b = true)) {s : List Int} (hsl : s.length ≤ 1048576) : impl_indexOf k c s = some (if posC c s < c.length then ((posC c s : Nat) : Int) else -1) := by
  have hK := KK_def
  have hcl := hc.1
  have := lowC_le c s
  unfold impl_indexOf slices_BinarySearchFunc_int64__impl_compareSimplices
  have h0 := indexOf_loop hk hc hs hsl (e := fun x_3 target_4 cmp_5 n_6 i_7 => (if (decide (i_7 < n_6)) = true then (if 0 ≤ i_7 then (x_3[i_7.toNat]?).bind fun y_8 => (impl_compareSimplices k y_8 target_4).bind fun r_9 => some (i_7, (decide (r_9 = 0))) else none) else some (i_7, false))) c.length 0 c.length k (by omega) (by omega) (by omega) (by omega) (by omega)
  rw [show ((0 : Nat) : Int) = 0 from rfl] at h0
  rw [h0]
  by_cases h : s ∈ c
  · have hp := lowC_pos hs h
    have hl := posC_lt.2 h
    have hg := posC_get h
    rw [hp, if_pos hl, decide_eq_true (by omega), if_pos rfl]
    simp only [Int.natCast_nonneg, if_true, Int.toNat_natCast, hg, Option.bind_some, compareSx_ok hk (show s.length ≤ 1000000000 by omega) (show s.length ≤ 1000000000 by omega)]
    have : cmpSx s s = 0 := (cmpSx_zero s s).2 rfl
    rw [this]; rfl
  · rw [if_neg (fun q => h (posC_lt.1 q))]
    by_cases hl : lowC c s < c.length
    · have hxl := hc.2 c[lowC c s] (List.getElem_mem hl)
      rw [decide_eq_true (by omega), if_pos rfl]
      simp only [Int.natCast_nonneg, if_true, Int.toNat_natCast, List.getElem?_eq_getElem hl, Option.bind_some, compareSx_ok hk (show (c[lowC c s]).length ≤ 1000000000 by omega) (show s.length ≤ 1000000000 by omega)]
      have : ¬ cmpSx c[lowC c s] s = 0 := fun e => h (by rw [← (cmpSx_zero _ _).1 e]; exact List.getElem_mem hl)
      rw [decide_eq_false this]; rfl
    · rw [decide_eq_false (by omega), if_neg (by simp)]; rfl
open Classical in
/-- One simplex, as the loops ask of it: with the simplices d for its faces. -/
noncomputable def cxAt (c d : Cx) (i : Nat) : Bool := decide (∀ s, c[i]? = some s → SimpP s ∧ prevP (fun a b => befS a b = true) c i s ∧ (1 < s.length → ∀ k, k < s.length → dropI s k ∈ d))
open Classical in
theorem cxAt_iff {c d : Cx} {i : Nat} {s : List Int} (h : c[i]? = some s) : cxAt c d i = true ↔ SimpP s ∧ prevP (fun a b => befS a b = true) c i s ∧ (1 < s.length → ∀ k, k < s.length → dropI s k ∈ d) := by
  unfold cxAt
  rw [decide_eq_true_eq]
  exact ⟨fun q => q s h, fun q t ht => by rw [h] at ht; cases ht; exact q⟩
open Classical in
theorem l05Ok_ok {k : Nat} (hk : KK ≤ k) {c : Cx} (hc : smallCx c) : spec_l05Ok k c = some (cxB c) := by
  have hK := KK_def
  obtain ⟨hcl, hce⟩ := hc
  unfold spec_l05Ok
  by_cases h48 : c.length ≤ 48
  · rw [decide_eq_false (by omega), if_neg (by simp)]
    have := loop_allN (L := fun n i => spec_l05Ok_l0 k n c i (some true)) (b := c.length) (p := fun i => cxAt c c i) (r := some false) (e := some true) ?_ ?_ (n := k) (by omega)
    · rw [this]
      have e : (List.range c.length).all (fun i => cxAt c c i) = true ↔ CxP c := by
        rw [List.all_eq_true]
        constructor
        · intro h
          have h' : ∀ i s, c[i]? = some s → SimpP s ∧ prevP (fun a b => befS a b = true) c i s ∧ (1 < s.length → ∀ k, k < s.length → dropI s k ∈ c) := fun i s hs => (cxAt_iff hs).1 (h i (List.mem_range.2 (List.getElem?_eq_some_iff.1 hs).1))
          refine ⟨h48, fun s hs => ?_, ?_, fun s hs => ?_⟩
          · obtain ⟨i, hi⟩ := List.getElem?_of_mem hs
            exact (h' i s hi).1
          · have := prevP_pairwise (R := fun a b => befS a b = true) (fun a b c => befS_trans) (l := c) (m := c.length) (fun j hj x hx => (h' j x hx).2.1)
            rwa [List.take_length] at this
          · obtain ⟨i, hi⟩ := List.getElem?_of_mem hs
            exact (h' i s hi).2.2
        · intro h i hi
          rw [List.mem_range] at hi
          exact (cxAt_iff (List.getElem?_eq_getElem hi)).2 ⟨h.simp _ (List.getElem_mem hi), pairwise_prevP h.ord (List.getElem?_eq_getElem hi), h.face _ (List.getElem_mem hi)⟩
      by_cases q : CxP c
      · rw [if_pos (e.2 q), cxB_iff.2 q]
      · rw [if_neg (fun h => q (e.1 h))]
        congr 1
        symm
        rw [Bool.eq_false_iff, ne_eq, cxB_iff]; exact q
    · intro n i hi
      have hlt : (i : Int) < (c.length : Int) := by omega
      have hw := w_succ (i := i) (by omega)
      have hg : c[i]? = some c[i] := List.getElem?_eq_getElem hi
      have hsl := hce c[i] (List.getElem_mem hi)
      have hin : spec_l05Ok_l1 k k c (i : Int) c[i] 0 (fun c_5 i_6 => spec_l05Ok_l0 k n c_5 (w_i64 (i_6 + 1)) (some true)) = if (∀ k, 1 < (c[i]).length → k < (c[i]).length → dropI c[i] k ∈ c) then spec_l05Ok_l0 k n c ((i + 1 : Nat) : Int) (some true) else some false := by
        by_cases h1 : 1 < (c[i]).length
        · have := loop_allN (L := fun m j => spec_l05Ok_l1 k m c (i : Int) c[i] j (fun c_5 i_6 => spec_l05Ok_l0 k n c_5 (w_i64 (i_6 + 1)) (some true))) (b := (c[i]).length) (p := fun j => decide (dropI c[i] j ∈ c)) (r := some false) (e := spec_l05Ok_l0 k n c ((i + 1 : Nat) : Int) (some true)) ?_ ?_ (n := k) (by omega)
          · rw [this]
            simp only [List.all_eq_true, List.mem_range, decide_eq_true_eq]
            by_cases q : ∀ j, j < (c[i]).length → dropI c[i] j ∈ c
            · rw [if_pos q, if_pos (fun j _ hj => q j hj)]
            · rw [if_neg q, if_neg (fun h => q fun j hj => h j h1 hj)]
          · intro m j hj
            have hjlt : (j : Int) < ((c[i]).length : Int) := by omega
            have hw2 := w_succ (i := j) (by omega)
            simp only [spec_l05Ok_l1, hjlt, decide_true, if_true, decide_eq_true (show (1 : Int) < ((c[i]).length : Int) by omega), l05Drop_ok hsl hj, Option.bind_some, l05Find_ok hk ⟨hcl, hce⟩, find_negC, hw2]
            by_cases q : dropI c[i] j ∈ c
            · rw [decide_eq_true q]; simp
            · rw [decide_eq_false q]; simp
          · intro m
            simp only [spec_l05Ok_l1, Int.lt_irrefl, decide_false, Bool.false_eq_true, if_false, hw]
        · rw [if_pos (fun j h => absurd h h1)]
          obtain ⟨m, hm⟩ : ∃ m, k = m + 1 := ⟨k - 1, by omega⟩
          have hn1 : ¬ (1 : Int) < ((c[i]).length : Int) := by omega
          conv => lhs; arg 2; rw [hm]
          simp only [spec_l05Ok_l1, hn1, decide_false, Bool.false_eq_true, if_false, hw]
          split <;> rfl
      simp only [spec_l05Ok_l0, hlt, decide_true, if_true, Int.natCast_nonneg, Int.toNat_natCast, hg, Option.bind_some, l05Simplex_ok hk (show (c[i]).length ≤ 1000000000 by omega)]
      cases hsb : simpB c[i] with
      | false =>
        have : ¬ cxAt c c i = true := fun h => by
          have := simpB_iff.2 ((cxAt_iff hg).1 h).1
          rw [hsb] at this; cases this
        rw [if_neg this]; simp
      | true =>
        have hsp := simpB_iff.1 hsb
        simp only [Bool.not_true, Bool.false_eq_true, if_false]
        by_cases h0 : 0 < i
        · have h0' : (0 : Int) < (i : Int) := by omega
          have hw1 : w_i64 ((i : Int) - 1) = ((i - 1 : Nat) : Int) := by rw [w_id (by omega) (by omega)]; omega
          have hg1 : c[i - 1]? = some c[i - 1] := List.getElem?_eq_getElem (by omega)
          have hpl := hce c[i - 1] (List.getElem_mem (by omega))
          simp only [h0', decide_true, if_true, hw1, Int.natCast_nonneg, Int.toNat_natCast, hg1, Option.bind_some, l05Before_ok hk (show (c[i - 1]).length ≤ 1000000000 by omega)]
          cases hbf : befS c[i - 1] c[i] with
          | false =>
            have : ¬ cxAt c c i = true := fun h => by
              have : befS c[i - 1] c[i] = true := ((cxAt_iff hg).1 h).2.1 h0 _ hg1
              rw [hbf] at this; cases this
            rw [if_neg this]; simp
          | true =>
            simp only [Bool.not_true, Bool.false_eq_true, if_false, hin]
            by_cases q : ∀ k, 1 < (c[i]).length → k < (c[i]).length → dropI c[i] k ∈ c
            · rw [if_pos q, if_pos ((cxAt_iff hg).2 ⟨hsp, fun _ t ht => by rw [hg1] at ht; cases ht; exact hbf, fun a b => q b a⟩)]
            · rw [if_neg q, if_neg (fun h => q fun b a => ((cxAt_iff hg).1 h).2.2 a b)]
        · have h0' : ¬ (0 : Int) < (i : Int) := by omega
          simp only [h0', decide_false, Bool.false_eq_true, if_false, hin]
          by_cases q : ∀ k, 1 < (c[i]).length → k < (c[i]).length → dropI c[i] k ∈ c
          · rw [if_pos q, if_pos ((cxAt_iff hg).2 ⟨hsp, fun h => absurd h h0, fun a b => q b a⟩)]
          · rw [if_neg q, if_neg (fun h => q fun b a => ((cxAt_iff hg).1 h).2.2 a b)]
    · intro n
      simp only [spec_l05Ok_l0, Int.lt_irrefl, decide_false, Bool.false_eq_true, if_false]
  · rw [decide_eq_true (by omega), if_pos rfl]
    congr 1
    symm
    rw [Bool.eq_false_iff, ne_eq, cxB_iff]
    exact fun h => h48 h.len
theorem take_small {c : Cx} (hc : smallCx c) (i : Nat) : smallCx (c.take i) := ⟨by rw [List.length_take]; have := hc.1; omega, fun s hs => hc.2 s (List.mem_of_mem_take hs)⟩
theorem lostFace_ok {k : Nat} (hk : KK ≤ k) {c : Cx} (hc : smallCx c) {i : Nat} (hi : i ≤ c.length) (hs : (c.take i).Pairwise (fun a b => befS a b = true)) {s : List Int} (hsl : s.length ≤ 1048576) : slices_ContainsFunc_int64__impl_ValidComplex_1 k (facesL s) (c, (i : Int)) = some ((facesL s).any fun f => !decide (f ∈ c.take i)) := by
  have hK := KK_def
  have hcl := hc.1
  have hfl : (facesL s).length ≤ 1048576 := by
    unfold facesL
    split
    · rw [List.length_map, List.length_range]; exact hsl
    · simp
  unfold slices_ContainsFunc_int64__impl_ValidComplex_1 slices_IndexFunc_int64__impl_ValidComplex_1
  rw [loop_find (L := fun n j => slices_IndexFunc_int64__impl_ValidComplex_1_l0 k n (facesL s) (c, (i : Int)) ((facesL s).length : Int) j (some (-1))) (p := fun f => !decide (f ∈ c.take i)) (facesL s) ?_ ?_ (n := k) (by omega)]
  · rw [Option.bind_some, idxP_nonneg]
  · intro n j f hj hlt
    have hw := w_succ (i := j) (by omega)
    have hf : f.length ≤ 1048576 := by
      obtain ⟨_, q, hq, rfl⟩ := facesL_mem.1 (List.mem_of_getElem? hj)
      rw [dropI_len hq]; omega
    have b1 : (i : Int) ≤ (c.length : Int) := by omega
    simp only [slices_IndexFunc_int64__impl_ValidComplex_1_l0, impl_ValidComplex_1, hlt, decide_true, if_true, Int.natCast_nonneg, Int.le_refl, b1, and_self, Int.toNat_natCast, hj, Option.bind_some, indexOf_ok hk (take_small hc i) hs hf, find_negC, hw]
  · intro n
    simp [slices_IndexFunc_int64__impl_ValidComplex_1_l0]
theorem lost_iff {s : List Int} {d : Cx} : ((facesL s).any fun f => !decide (f ∈ d)) = false ↔ (1 < s.length → ∀ k, k < s.length → dropI s k ∈ d) := by
  rw [List.any_eq_false]
  constructor
  · intro h h1 k hk
    have := h _ (facesL_mem.2 ⟨h1, k, hk, rfl⟩)
    simpa using this
  · intro h f hf
    obtain ⟨h1, k, hk, rfl⟩ := facesL_mem.1 hf
    simpa using h h1 k hk
theorem validComplex_ok {k : Nat} (hk : KK ≤ k) {c : Cx} (hc : smallCx c) : impl_ValidComplex k c = some (cxB c) := by
  have hK := KK_def
  obtain ⟨hcl, hce⟩ := hc
  unfold impl_ValidComplex
  have := loop_allN' (L := fun n i => impl_ValidComplex_l0 k n c (c.length : Int) i c (fun v_9 => some (decide ((List.length v_9 : Int) ≤ 48)))) (b := c.length) (p := fun i => cxAt c (c.take i) i) (r := some false) (e := some (decide (c.length ≤ 48))) ?_ ?_ (n := k) (by omega)
  · rw [this]
    have e : ((List.range c.length).all (fun i => cxAt c (c.take i) i) = true ∧ c.length ≤ 48) ↔ CxP c := by
      rw [List.all_eq_true]
      constructor
      · rintro ⟨h, h48⟩
        have h' : ∀ i s, c[i]? = some s → SimpP s ∧ prevP (fun a b => befS a b = true) c i s ∧ (1 < s.length → ∀ k, k < s.length → dropI s k ∈ c.take i) := fun i s hs => (cxAt_iff hs).1 (h i (List.mem_range.2 (List.getElem?_eq_some_iff.1 hs).1))
        refine ⟨h48, fun s hs => ?_, ?_, fun s hs h1 k hk => ?_⟩
        · obtain ⟨i, hi⟩ := List.getElem?_of_mem hs
          exact (h' i s hi).1
        · have := prevP_pairwise (R := fun a b => befS a b = true) (fun a b c => befS_trans) (l := c) (m := c.length) (fun j hj x hx => (h' j x hx).2.1)
          rwa [List.take_length] at this
        · obtain ⟨i, hi⟩ := List.getElem?_of_mem hs
          exact List.mem_of_mem_take ((h' i s hi).2.2 h1 k hk)
      · intro h
        refine ⟨fun i hi => ?_, h.len⟩
        rw [List.mem_range] at hi
        have hg : c[i]? = some c[i] := List.getElem?_eq_getElem hi
        refine (cxAt_iff hg).2 ⟨h.simp _ (List.getElem_mem hi), pairwise_prevP h.ord hg, fun h1 k hk => ?_⟩
        have hm := h.face _ (List.getElem_mem hi) h1 k hk
        obtain ⟨j, hj⟩ := List.getElem?_of_mem hm
        obtain ⟨hjl, hje⟩ := List.getElem?_eq_some_iff.1 hj
        have hji : j < i := by
          by_cases q : j < i
          · exact q
          · have hb : befS (dropI c[i] k) c[i] = true := by
              unfold befS
              rw [dropI_len hk, decide_eq_true (by omega)]; rfl
            by_cases q2 : j = i
            · subst q2
              have := befS_irrefl c[j]
              rw [← hje, befS_irrefl] at hb; cases hb
            · have h3 := List.pairwise_iff_getElem.1 h.ord i j hi hjl (by omega)
              rw [hje, befS_asymm hb] at h3; cases h3
        rw [List.mem_take_iff_getElem]
        exact ⟨j, by omega, hje⟩
    by_cases q : CxP c
    · obtain ⟨q1, q2⟩ := e.2 q
      rw [if_pos q1, decide_eq_true q2, cxB_iff.2 q]
    · have : cxB c = false := by rw [Bool.eq_false_iff, ne_eq, cxB_iff]; exact q
      rw [this]
      by_cases q1 : (List.range c.length).all (fun i => cxAt c (c.take i) i) = true
      · rw [if_pos q1, decide_eq_false (fun q2 => q (e.1 ⟨q1, q2⟩))]
      · rw [if_neg q1]
  · intro n i hi hpre
    have hlt : (i : Int) < (c.length : Int) := by omega
    have hw := w_succ (i := i) (by omega)
    have hg : c[i]? = some c[i] := List.getElem?_eq_getElem hi
    have hsl := hce c[i] (List.getElem_mem hi)
    have hsorted : (c.take i).Pairwise (fun a b => befS a b = true) := prevP_pairwise (R := fun a b => befS a b = true) (fun a b c => befS_trans) (fun j hj x hx => ((cxAt_iff hx).1 (hpre j hj)).2.1)
    simp only [impl_ValidComplex_l0, hlt, decide_true, if_true, Int.natCast_nonneg, Int.toNat_natCast, hg, Option.bind_some, validSimplex_ok hk (show (c[i]).length ≤ 1000000000 by omega), facesOf_ok hk hsl, lostFace_ok hk ⟨hcl, hce⟩ (Nat.le_of_lt hi) hsorted hsl, hw]
    cases hsb : simpB c[i] with
    | false =>
      have : ¬ cxAt c (c.take i) i = true := fun h => by
        have := simpB_iff.2 ((cxAt_iff hg).1 h).1
        rw [hsb] at this; cases this
      rw [if_neg this]; simp
    | true =>
      have hsp := simpB_iff.1 hsb
      simp only [Bool.not_true, Bool.false_eq_true, if_false]
      by_cases h0 : 0 < i
      · have h0' : (0 : Int) < (i : Int) := by omega
        have hw1 : w_i64 ((i : Int) - 1) = ((i - 1 : Nat) : Int) := by rw [w_id (by omega) (by omega)]; omega
        have hg1 : c[i - 1]? = some c[i - 1] := List.getElem?_eq_getElem (by omega)
        have hpl := hce c[i - 1] (List.getElem_mem (by omega))
        simp only [h0', decide_true, if_true, hw1, Int.natCast_nonneg, Int.toNat_natCast, hg1, Option.bind_some, compareSx_ok hk (show (c[i - 1]).length ≤ 1000000000 by omega) (show (c[i]).length ≤ 1000000000 by omega), cmpSx_ge]
        cases hbf : befS c[i - 1] c[i] with
        | false =>
          have : ¬ cxAt c (c.take i) i = true := fun h => by
            have : befS c[i - 1] c[i] = true := ((cxAt_iff hg).1 h).2.1 h0 _ hg1
            rw [hbf] at this; cases this
          rw [if_neg this]; simp
        | true =>
          simp only [Bool.not_true, Bool.false_eq_true, if_false]
          cases hq : (facesL c[i]).any fun f => !decide (f ∈ c.take i) with
          | false =>
            rw [if_neg (by simp), if_pos ((cxAt_iff hg).2 ⟨hsp, fun _ t ht => by rw [hg1] at ht; cases ht; exact hbf, lost_iff.1 hq⟩)]
          | true =>
            rw [if_pos rfl, if_neg (fun h => by rw [lost_iff.2 ((cxAt_iff hg).1 h).2.2] at hq; cases hq)]
      · have h0' : ¬ (0 : Int) < (i : Int) := by omega
        simp only [h0', decide_false, Bool.false_eq_true, if_false]
        cases hq : (facesL c[i]).any fun f => !decide (f ∈ c.take i) with
        | false =>
          rw [if_neg (by simp), if_pos ((cxAt_iff hg).2 ⟨hsp, fun h => absurd h h0, lost_iff.1 hq⟩)]
        | true =>
          rw [if_pos rfl, if_neg (fun h => by rw [lost_iff.2 ((cxAt_iff hg).1 h).2.2] at hq; cases hq)]
  · intro n
    have e2 : decide ((c.length : Int) ≤ 48) = decide (c.length ≤ 48) := decide_eq_decide.2 (by omega)
    simp only [impl_ValidComplex_l0, Int.lt_irrefl, decide_false, Bool.false_eq_true, if_false, e2]
def subV (a b : List Int) : Bool := a.all fun x => b.contains x
theorem l00Has_ok {k : Nat} (hk : KK ≤ k) {l : List Int} (hl : l.length ≤ 1000000000) (x : Int) : spec_l00Has k l x = some (l.contains x) := by
  have hK := KK_def
  unfold spec_l00Has
  have := loop_all (L := fun n i => spec_l00Has_l0 k n l x i (some false)) (p := fun y => !decide (y = x)) (r := some true) (e := some false) l ?_ ?_ (n := k) (by omega)
  · refine Eq.trans this ?_
    by_cases h : l.contains x = true
    · rw [h, if_neg]
      rw [List.all_eq_true]
      intro q
      have := q x (List.contains_iff_mem.1 h)
      simp at this
    · have h' : l.contains x = false := by simpa using h
      rw [h', if_pos]
      rw [List.all_eq_true]
      intro y hy
      have : y ≠ x := fun e => h (List.contains_iff_mem.2 (e ▸ hy))
      simpa using this
  · intro n i y hi hlt
    have hw := w_succ (i := i) (by omega)
    simp only [spec_l00Has_l0, hlt, decide_true, if_true, Int.natCast_nonneg, Int.toNat_natCast, hi, Option.bind_some, hw]
    by_cases e : y = x <;> simp [e]
  · intro n
    simp only [spec_l00Has_l0, Int.lt_irrefl, decide_false, Bool.false_eq_true, if_false]
theorem l05Part_ok {k : Nat} (hk : KK ≤ k) {a b : List Int} (ha : a.length ≤ 1000000000) (hb : b.length ≤ 1000000000) : spec_l05Part k a b = some (subV a b) := by
  have hK := KK_def
  unfold spec_l05Part subV
  have := loop_all (L := fun n i => spec_l05Part_l0 k n a b i (some true)) (p := fun y => b.contains y) (r := some false) (e := some true) a ?_ ?_ (n := k) (by omega)
  · refine Eq.trans this ?_
    cases a.all (fun y => b.contains y) <;> rfl
  · intro n i y hi hlt
    have hw := w_succ (i := i) (by omega)
    simp only [spec_l05Part_l0, hlt, decide_true, if_true, Int.natCast_nonneg, Int.toNat_natCast, hi, Option.bind_some, hw, l00Has_ok hk hb]
    cases b.contains y <;> simp
  · intro n
    simp only [spec_l05Part_l0, Int.lt_irrefl, decide_false, Bool.false_eq_true, if_false]
theorem contains64_ok {k : Nat} (hk : KK ≤ k) {l : List Int} (hl : l.length ≤ 1000000000) (x : Int) : slices_Contains_int64 k l x = some (l.contains x) := by
  have hK := KK_def
  unfold slices_Contains_int64 slices_Index_int64
  rw [loop_find (L := fun n i => slices_Index_int64_l0 k n l x (l.length : Int) i (some (-1))) (p := fun y => decide (x = y)) l ?_ ?_ (n := k) (by omega)]
  · rw [Option.bind_some, idxP_nonneg]
    congr 1
    rw [Bool.eq_iff_iff, List.any_eq_true, List.contains_iff_mem]
    constructor
    · rintro ⟨y, hy, h⟩; rw [of_decide_eq_true h]; exact hy
    · intro h; exact ⟨x, h, decide_eq_true rfl⟩
  · intro n i y hi hlt
    have hw := w_succ (i := i) (by omega)
    simp only [slices_Index_int64_l0, hlt, decide_true, if_true, Int.natCast_nonneg, Int.toNat_natCast, hi, Option.bind_some, hw]
  · intro n
    simp [slices_Index_int64_l0]
theorem isFace_ok {k : Nat} (hk : KK ≤ k) {a b : List Int} (ha : a.length ≤ 1000000000) (hb : b.length ≤ 1000000000) : impl_isFace k a b = some (subV a b) := by
  have hK := KK_def
  unfold impl_isFace slices_ContainsFunc_int64__impl_isFace_1 slices_IndexFunc_int64__impl_isFace_1
  rw [loop_find (L := fun n i => slices_IndexFunc_int64__impl_isFace_1_l0 k n a b (a.length : Int) i (some (-1))) (p := fun y => !b.contains y) a ?_ ?_ (n := k) (by omega)]
  · simp only [Option.bind_some, idxP_nonneg]
    congr 1
    unfold subV
    rw [List.not_any_eq_all_not]
    simp
  · intro n i y hi hlt
    have hw := w_succ (i := i) (by omega)
    simp only [slices_IndexFunc_int64__impl_isFace_1_l0, impl_isFace_1, contains64_ok hk hb, hlt, decide_true, if_true, Int.natCast_nonneg, Int.toNat_natCast, hi, Option.bind_some, hw]
  · intro n
    simp [slices_IndexFunc_int64__impl_isFace_1_l0]
/-- The numbers of the simplices of which s is a face. -/
def starC (c : Cx) (s : List Int) : List Nat := (List.range c.length).filter fun i => match c[i]? with | some t => subV s t | none => false
def facetsC (c : Cx) : List Nat := (List.range c.length).filter fun i => match c[i]? with | some s => decide ((starC c s).length = 1) | none => false
theorem range_snoc_filter (f : Nat → Bool) (n : Nat) : (List.range (n + 1)).filter f = (List.range n).filter f ++ (if f n = true then [n] else []) := by
  rw [List.range_succ, List.filter_append, List.filter_cons, List.filter_nil]
theorem l05Star_ok {k : Nat} (hk : KK ≤ k) {c : Cx} (hc : smallCx c) {s : List Int} (hs : s.length ≤ 1048576) : spec_l05Star k c s = some ((starC c s).map fun i : Nat => (i : Int)) := by
  have hK := KK_def
  have hL := LIM_def
  obtain ⟨hcl, hce⟩ := hc
  unfold spec_l05Star
  have := loop_list (α := List Int) (A := List Int) (L := fun n i q => spec_l05Star_l0 k n c s i q (fun q_4 => some q_4)) (I := fun pre q => q = ((List.range pre.length).filter fun i => match c[i]? with | some t => subV s t | none => false).map fun i : Nat => (i : Int)) (G := fun _ _ => some ((starC c s).map fun i : Nat => (i : Int))) c ?_ ?_ k (by omega) [] (by simp)
  · exact this
  · intro n pre x post q hx hq ih hg hlt
    have hw := w_succ (i := pre.length) (by omega)
    have hxl := hce x (List.mem_of_getElem? hg)
    have hql : q.length ≤ pre.length := by rw [hq, List.length_map]; exact Nat.le_trans (List.length_filter_le ..) (by rw [List.length_range]; exact Nat.le_refl _)
    have hlim : (q.length + 1) * 8 ≤ LIM := by omega
    simp only [spec_l05Star_l0, hlt, decide_true, if_true, Int.natCast_nonneg, Int.toNat_natCast, hg, Option.bind_some, hw, l05Part_ok hk (show s.length ≤ 1000000000 by omega) (show x.length ≤ 1000000000 by omega), List.length_singleton, hlim]
    cases hb : subV s x with
    | true =>
      rw [if_pos rfl]
      refine ih _ ?_
      rw [List.length_append, List.length_singleton, range_snoc_filter, hg]
      simp only [hb, if_true, List.map_append, hq, List.map_cons, List.map_nil]
    | false =>
      rw [if_neg (by simp)]
      refine ih _ ?_
      rw [List.length_append, List.length_singleton, range_snoc_filter, hg]
      simp only [hb, Bool.false_eq_true, if_false, List.append_nil, hq]
  · intro n q hq
    simp only [spec_l05Star_l0, Int.lt_irrefl, decide_false, Bool.false_eq_true, if_false, hq]
    rfl
theorem starOf_ok {k : Nat} (hk : KK ≤ k) {c : Cx} (hc : smallCx c) {j : Nat} {s : List Int} (hj : c[j]? = some s) : impl_starOf k c (j : Int) = some ((starC c s).map fun i : Nat => (i : Int)) := by
  have hK := KK_def
  have hL := LIM_def
  obtain ⟨hcl, hce⟩ := hc
  have hs := hce s (List.mem_of_getElem? hj)
  unfold impl_starOf
  have := loop_list (α := List Int) (A := List Int) (L := fun n i q => impl_starOf_l0 k n (j : Int) c (c.length : Int) i q c (fun q_4 => some q_4)) (I := fun pre q => q = ((List.range pre.length).filter fun i => match c[i]? with | some t => subV s t | none => false).map fun i : Nat => (i : Int)) (G := fun _ _ => some ((starC c s).map fun i : Nat => (i : Int))) c ?_ ?_ k (by omega) [] (by simp)
  · exact this
  · intro n pre x post q hx hq ih hg hlt
    have hw := w_succ (i := pre.length) (by omega)
    have hxl := hce x (List.mem_of_getElem? hg)
    have hql : q.length ≤ pre.length := by rw [hq, List.length_map]; exact Nat.le_trans (List.length_filter_le ..) (by rw [List.length_range]; exact Nat.le_refl _)
    have hlim : (q.length + 1) * 8 ≤ LIM := by omega
    simp only [impl_starOf_l0, hlt, decide_true, if_true, Int.natCast_nonneg, Int.toNat_natCast, hg, hj, Option.bind_some, hw, isFace_ok hk (show s.length ≤ 1000000000 by omega) (show x.length ≤ 1000000000 by omega), List.length_singleton, hlim]
    cases hb : subV s x with
    | true =>
      rw [if_pos rfl]
      refine ih _ ?_
      rw [List.length_append, List.length_singleton, range_snoc_filter, hg]
      simp only [hb, if_true, List.map_append, hq, List.map_cons, List.map_nil]
    | false =>
      rw [if_neg (by simp)]
      refine ih _ ?_
      rw [List.length_append, List.length_singleton, range_snoc_filter, hg]
      simp only [hb, Bool.false_eq_true, if_false, List.append_nil, hq]
  · intro n q hq
    simp only [impl_starOf_l0, Int.lt_irrefl, decide_false, Bool.false_eq_true, if_false, hq]
    rfl
theorem l05Facets_ok {k : Nat} (hk : KK ≤ k) {c : Cx} (hc : smallCx c) : spec_l05Facets k c = some ((facetsC c).map fun i : Nat => (i : Int)) := by
  have hK := KK_def
  have hL := LIM_def
  obtain ⟨hcl, hce⟩ := hc
  unfold spec_l05Facets
  have := loop_list (α := List Int) (A := List Int) (L := fun n i q => spec_l05Facets_l0 k n c i q (fun q_4 => some q_4)) (I := fun pre q => q = ((List.range pre.length).filter fun i => match c[i]? with | some s => decide ((starC c s).length = 1) | none => false).map fun i : Nat => (i : Int)) (G := fun _ _ => some ((facetsC c).map fun i : Nat => (i : Int))) c ?_ ?_ k (by omega) [] (by simp)
  · exact this
  · intro n pre x post q hx hq ih hg hlt
    have hw := w_succ (i := pre.length) (by omega)
    have hxl := hce x (List.mem_of_getElem? hg)
    have hql : q.length ≤ pre.length := by rw [hq, List.length_map]; exact Nat.le_trans (List.length_filter_le ..) (by rw [List.length_range]; exact Nat.le_refl _)
    have hlim : (q.length + 1) * 8 ≤ LIM := by omega
    have hd : decide (((starC c x).length : Int) = 1) = decide ((starC c x).length = 1) := decide_eq_decide.2 (by omega)
    simp only [spec_l05Facets_l0, hlt, decide_true, if_true, Int.natCast_nonneg, Int.toNat_natCast, hg, Option.bind_some, hw, l05Star_ok hk ⟨hcl, hce⟩ hxl, List.length_map, hd, List.length_singleton, hlim]
    by_cases hb : (starC c x).length = 1
    · rw [decide_eq_true hb, if_pos rfl]
      refine ih _ ?_
      rw [List.length_append, List.length_singleton, range_snoc_filter, hg]
      simp only [hb, decide_true, if_true, List.map_append, hq, List.map_cons, List.map_nil]
    · rw [decide_eq_false hb, if_neg (by simp)]
      refine ih _ ?_
      rw [List.length_append, List.length_singleton, range_snoc_filter, hg]
      simp only [hb, decide_false, Bool.false_eq_true, if_false, List.append_nil, hq]
  · intro n q hq
    simp only [spec_l05Facets_l0, Int.lt_irrefl, decide_false, Bool.false_eq_true, if_false, hq]
    rfl
theorem implFacets_ok {k : Nat} (hk : KK ≤ k) {c : Cx} (hc : smallCx c) : impl_facets k c = some ((facetsC c).map fun i : Nat => (i : Int)) := by
  have hK := KK_def
  have hL := LIM_def
  obtain ⟨hcl, hce⟩ := hc
  unfold impl_facets impl_size_int64
  simp only [Option.bind_some]
  have := loop_list (α := List Int) (A := List Int) (L := fun n i q => impl_facets_l0 k n (c.length : Int) i q c (fun q_4 => some q_4)) (I := fun pre q => q = ((List.range pre.length).filter fun i => match c[i]? with | some s => decide ((starC c s).length = 1) | none => false).map fun i : Nat => (i : Int)) (G := fun _ _ => some ((facetsC c).map fun i : Nat => (i : Int))) c ?_ ?_ k (by omega) [] (by simp)
  · exact this
  · intro n pre x post q hx hq ih hg hlt
    have hw := w_succ (i := pre.length) (by omega)
    have hxl := hce x (List.mem_of_getElem? hg)
    have hql : q.length ≤ pre.length := by rw [hq, List.length_map]; exact Nat.le_trans (List.length_filter_le ..) (by rw [List.length_range]; exact Nat.le_refl _)
    have hlim : (q.length + 1) * 8 ≤ LIM := by omega
    have hd : decide (((starC c x).length : Int) = 1) = decide ((starC c x).length = 1) := decide_eq_decide.2 (by omega)
    simp only [impl_facets_l0, hlt, decide_true, if_true, Option.bind_some, hw, starOf_ok hk ⟨hcl, hce⟩ hg, List.length_map, hd, List.length_singleton, hlim]
    by_cases hb : (starC c x).length = 1
    · rw [decide_eq_true hb, if_pos rfl]
      refine ih _ ?_
      rw [List.length_append, List.length_singleton, range_snoc_filter, hg]
      simp only [hb, decide_true, if_true, List.map_append, hq, List.map_cons, List.map_nil]
    · rw [decide_eq_false hb, if_neg (by simp)]
      refine ih _ ?_
      rw [List.length_append, List.length_singleton, range_snoc_filter, hg]
      simp only [hb, decide_false, Bool.false_eq_true, if_false, List.append_nil, hq]
  · intro n q hq
    simp only [impl_facets_l0, Int.lt_irrefl, decide_false, Bool.false_eq_true, if_false, hq]
    rfl
theorem facetsC_lt {c : Cx} {i : Nat} (h : i ∈ facetsC c) : i < c.length := List.mem_range.1 (List.mem_filter.1 h).1
theorem facetsC_len (c : Cx) : (facetsC c).length ≤ c.length := by
  unfold facetsC
  exact Nat.le_trans (List.length_filter_le ..) (by rw [List.length_range]; exact Nat.le_refl _)
/-- A picture. -/
def wid (lines : List (List UInt8)) : Nat := (lines.headD []).length
def okC (c : UInt8) : Bool := decide (32 ≤ c.toNat ∧ c.toNat ≤ 126)
def okLine (w : Nat) (l : List UInt8) : Bool := decide (l.length = w) && (decide (l.length ≤ 80) && l.all okC)
def okPic (lines : List (List UInt8)) : Bool := lines.all (okLine (wid lines)) && decide (lines.length ≤ 60)
theorem wid_get {lines : List (List UInt8)} {i : Nat} {x : List UInt8} (h : lines[i]? = some x) : ∃ y, lines[0]? = some y ∧ y.length = wid lines := by
  cases lines with
  | nil => simp at h
  | cons y l => exact ⟨y, rfl, rfl⟩
theorem l30Ok_ok {k : Nat} (hk : KK ≤ k) {a : List (List UInt8)} (ha : a.length ≤ 1000000000000) (hx : ∀ x ∈ a, x.length ≤ 1000000000000) : spec_l30Ok k a = some (okPic a) := by
  unfold spec_l30Ok
  have hK := KK_def
  have := loop_all (L := fun n i => spec_l30Ok_l0 k n a i fun lines_6 => some (decide ((List.length lines_6 : Int) ≤ 60))) (p := okLine (wid a)) (r := some false) (e := some (decide (a.length ≤ 60))) a ?_ ?_ (n := k) (by omega)
  · refine Eq.trans this ?_
    unfold okPic
    cases a.all (okLine (wid a)) <;> rfl
  · intro n i x hi hlt
    have hxl := hx x (List.mem_of_getElem? hi)
    have hw := w_succ (i := i) (by omega)
    obtain ⟨y, h0, hy⟩ := wid_get hi
    have inner := loop_all (L := fun m j => spec_l30Ok_l1 k m a (i : Int) j fun lines_4 i_5 => spec_l30Ok_l0 k n lines_4 (w_i64 (i_5 + 1)) fun lines_6 => some (decide ((List.length lines_6 : Int) ≤ 60)))
      (p := okC) (r := some false) (e := spec_l30Ok_l0 k n a ((i + 1 : Nat) : Int) fun lines_6 => some (decide ((List.length lines_6 : Int) ≤ 60))) x ?_ ?_ (n := k) (by omega)
    · simp only [spec_l30Ok_l0, hlt, decide_true, if_true, Int.natCast_nonneg, Int.toNat_natCast, hi, h0, Option.bind_some]
      unfold okLine
      by_cases h1 : x.length = wid a
      · have h1' : (x.length : Int) = (y.length : Int) := by omega
        by_cases h2 : x.length ≤ 80
        · have h2' : ¬ (80 < (x.length : Int)) := by omega
          have e1 : (decide (x.length = wid a) && (decide (x.length ≤ 80) && x.all okC)) = x.all okC := by simp [h1, h2]; omega
          rw [decide_eq_true h1', if_neg (by simp), decide_eq_false h2', if_neg (by simp), e1]
          exact inner
        · have h2' : (80 < (x.length : Int)) := by omega
          rw [decide_eq_true h1', if_neg (by simp), decide_eq_true h2', if_pos rfl, decide_eq_false h2, if_neg (by simp)]
      · have h1' : ¬ (x.length : Int) = (y.length : Int) := by omega
        rw [decide_eq_false h1', if_pos (by simp), decide_eq_false h1, if_neg (by simp)]
    · intro m j c hj hjlt
      have hw2 := w_succ (i := j) (by omega)
      simp only [spec_l30Ok_l1, hjlt, decide_true, if_true, Int.natCast_nonneg, Int.toNat_natCast, hi, hj, Option.bind_some, hw2]
      unfold okC z_u8
      by_cases h3 : c.toNat < 32
      · rw [decide_eq_true (by omega), if_pos rfl, if_neg (by simp; omega)]
      · rw [decide_eq_false (by omega), if_neg (by simp)]
        by_cases h4 : 126 < c.toNat
        · rw [decide_eq_true (by omega), if_pos rfl, if_neg (by simp; omega)]
        · rw [decide_eq_false (by omega), if_neg (by simp), if_pos (by simp; omega)]
    · intro m
      simp [spec_l30Ok_l1, hi, hw]
  · intro n
    simp only [spec_l30Ok_l0, Int.lt_irrefl, decide_false, Bool.false_eq_true, if_false]
    exact congrArg some (decide_eq_decide.2 (by omega))
theorem repeatL_one' (b : UInt8) : ∀ n, Lib.repeatL [b] n = List.replicate n b
  | 0 => rfl
  | n + 1 => by simp [Lib.repeatL, repeatL_one' b n, List.replicate_succ]
theorem repeat_ok (b : UInt8) {n : Nat} (hn : n ≤ 1000000) : strings_Repeat [b] (n : Int) = some (List.replicate n b) := by
  unfold strings_Repeat
  rw [if_pos ⟨by omega, by omega, by simp; omega⟩, Int.toNat_natCast, repeatL_one']
abbrev Pic := List (List UInt8)
def doneP (q : Pic) : Pic × Int := if okPic q = true then (q, 0) else ([], 5)
theorem l30Done_ok {k : Nat} (hk : KK ≤ k) {q : Pic} (ha : q.length ≤ 1000000000000) (hx : ∀ x ∈ q, x.length ≤ 1000000000000) : (spec_l30Done_g k q).bind (fun y => some (y.2.1.1, y.1.1.2.1)) = some (doneP q) := by
  unfold spec_l30Done_g doneP
  rw [l30Ok_ok hk ha hx]
  cases okPic q <;> simp
theorem okPic_same {q : Pic} {W : Nat} (h : ∀ l ∈ q, l.length = W ∧ l.all okC = true) : okPic q = (decide (q.length ≤ 60) && (q.isEmpty || decide (W ≤ 80))) := by
  unfold okPic
  cases q with
  | nil => simp
  | cons z zs =>
    have hw : wid (z :: zs) = W := (h z (by simp)).1
    rw [hw, List.isEmpty_cons, Bool.false_or, Bool.and_comm]
    congr 1
    by_cases h80 : W ≤ 80
    · rw [decide_eq_true h80, List.all_eq_true]
      intro l hl
      obtain ⟨h1, h2⟩ := h l hl
      unfold okLine
      simp [h1, h2, h80]
    · rw [decide_eq_false h80, List.all_eq_false]
      refine ⟨z, by simp, ?_⟩
      unfold okLine
      simp [(h z (by simp)).1, h80]
theorem pictured_done {k : Nat} (hk : KK ≤ k) {q : Pic} {W : Nat} (hq : q.length ≤ 1000000) (hW : W ≤ 1000000) (h : ∀ l ∈ q, l.length = W ∧ l.all okC = true) : impl_pictured k q = some (doneP q) := by
  have hK := KK_def
  have hL := LIM_def
  unfold impl_pictured
  let W' : Int := if q = [] then 0 else (W : Int)
  have h0 := loop_list (L := fun n i a => impl_pictured_l0 k n q a q (q.length : Int) i (fun lines_2 width_3 => impl_pictured_l1 k k width_3 lines_2 (List.length lines_2 : Int) 0 [] (fun width_7 q_8 => (if (decide (60 < (List.length q_8 : Int))) = true then some ([], 5) else (if (decide (80 < width_7)) = true then some ([], 5) else some (q_8, 0))))))
    (I := fun pre a => a = if pre = [] then 0 else (W : Int)) (G := fun _ _ => impl_pictured_l1 k k W' q (q.length : Int) 0 [] (fun width_7 q_8 => (if (decide (60 < (List.length q_8 : Int))) = true then some ([], 5) else (if (decide (80 < width_7)) = true then some ([], 5) else some (q_8, 0))))) q ?_ ?_ k (by omega) 0 (by simp)
  · refine Eq.trans h0 ?_
    have h1 := loop_list (L := fun n i r => impl_pictured_l1 k n W' q (q.length : Int) i r (fun width_7 q_8 => (if (decide (60 < (List.length q_8 : Int))) = true then some ([], 5) else (if (decide (80 < width_7)) = true then some ([], 5) else some (q_8, (0 : Int))))))
      (I := fun pre r => r = pre) (G := fun _ _ => some (doneP q)) q ?_ ?_ k (by omega) [] rfl
    · exact h1
    · intro n pre x post r hx hr ih hg hlt
      subst hr
      have hw := w_succ (i := r.length) (by omega)
      have hxl := (h x (List.mem_of_getElem? hg)).1
      have hne : q ≠ [] := by intro e; rw [e] at hg; simp at hg
      have hW' : W' = (W : Int) := by show (if q = [] then (0 : Int) else (W : Int)) = _; rw [if_neg hne]
      have hz : w_i64 (W' - (x.length : Int)) = ((0 : Nat) : Int) := by rw [hW', w_id (by omega) (by omega)]; omega
      have ih := ih _ rfl
      simp only [impl_pictured_l1, hlt, decide_true, if_true, Int.natCast_nonneg, Int.toNat_natCast, hg, Option.bind_some, hz, repeat_ok 32 (show 0 ≤ 1000000 by omega), hw, List.replicate_zero, List.append_nil]
      rw [if_pos (by simp only [List.length_nil]; omega), if_pos (by simp only [List.length_singleton]; omega), ih]
    · intro n r hr
      subst hr
      simp only [impl_pictured_l1, Int.lt_irrefl, decide_false, Bool.false_eq_true, if_false]
      unfold doneP
      rw [okPic_same h]
      by_cases h60 : r.length ≤ 60
      · rw [decide_eq_false (show ¬ (60 < (r.length : Int)) by omega), if_neg (by simp), decide_eq_true h60, Bool.true_and]
        cases r with
        | nil => simp [W']
        | cons z zs =>
          have hW' : W' = (W : Int) := rfl
          rw [hW', List.isEmpty_cons, Bool.false_or]
          by_cases h80 : W ≤ 80
          · rw [decide_eq_false (show ¬ (80 < (W : Int)) by omega), decide_eq_true h80]; rfl
          · rw [decide_eq_true (show (80 < (W : Int)) by omega), decide_eq_false h80]; rfl
      · rw [decide_eq_true (show (60 < (r.length : Int)) by omega), if_pos rfl, decide_eq_false h60]; rfl
  · intro n pre x post a hx ha ih hg hlt
    subst ha
    have hw := w_succ (i := pre.length) (by omega)
    have hxl := (h x (List.mem_of_getElem? hg)).1
    simp only [impl_pictured_l0, hlt, decide_true, if_true, Int.natCast_nonneg, Int.toNat_natCast, hg, Option.bind_some, hw]
    refine ih _ ?_
    rw [hxl, if_neg (show pre ++ [x] ≠ [] by simp)]
    by_cases hp : pre = []
    · rw [if_pos hp]; split <;> omega
    · rw [if_neg hp]; split <;> rfl
  · intro n a ha
    subst ha
    simp only [impl_pictured_l0, Int.lt_irrefl, decide_false, Bool.false_eq_true, if_false]
    rfl
/-- The line of a simplex: marks at its vertices. -/
def lineI (s : List Int) : List UInt8 := (List.range 10).map fun v : Nat => if s.contains (v : Int) = true then 35 else 46
theorem lineI_ok (s : List Int) : (lineI s).length = 10 ∧ (lineI s).all okC = true := by
  refine ⟨by simp [lineI], ?_⟩
  rw [List.all_eq_true]
  intro x hx
  unfold lineI at hx
  obtain ⟨v, _, rfl⟩ := List.mem_map.1 hx
  split <;> rfl
def linesI (c : Cx) : Pic := (facetsC c).map fun i => lineI (c.getD i [])
theorem linesI_ok {c : Cx} (h : CxP c) : (linesI c).length ≤ 48 ∧ ∀ l ∈ linesI c, l.length = 10 ∧ l.all okC = true := by
  have h1 := facetsC_len c
  have h2 := h.len
  refine ⟨by unfold linesI; rw [List.length_map]; omega, fun l hl => ?_⟩
  unfold linesI at hl
  obtain ⟨i, _, rfl⟩ := List.mem_map.1 hl
  exact lineI_ok _
theorem getD_at {c : Cx} {i : Nat} (h : i < c.length) : c[i]? = some (c.getD i []) := by
  rw [List.getElem?_eq_getElem h, List.getD_eq_getElem?_getD, List.getElem?_eq_getElem h]; rfl
noncomputable def incP (c : Cx) : Pic × Int := if cxB c = true then doneP (linesI c) else ([], 1)
theorem specLine_ok {k : Nat} (hk : KK ≤ k) {c : Cx} (hc : smallCx c) {F : List Int} {i j : Nat} (hF : F[i]? = some (j : Int)) (hj : j < c.length) {q : Pic} {E : Cx → Int → List UInt8 → List Int → Pic → Option Pic} : spec_l30Incidence_l1 k k c (i : Int) [] 0 F q E = E c (i : Int) (lineI (c.getD j [])) F q := by
  have hK := KK_def
  have hg := getD_at hj
  have hsl := hc.2 _ (List.mem_of_getElem? hg)
  have hil := (List.getElem?_eq_some_iff.1 hF).1
  have := loop_list (α := Nat) (A := List UInt8) (L := fun n v l => spec_l30Incidence_l1 k n c (i : Int) l v F q E) (I := fun pre l => l = (List.range pre.length).map fun v : Nat => if (c.getD j []).contains (v : Int) = true then 35 else 46) (G := fun _ _ => E c (i : Int) (lineI (c.getD j [])) F q) (List.range 10) ?_ ?_ k (by simp; omega) [] (by simp)
  · exact this
  · intro n pre x post l hx hl ih hg2 hlt
    rw [List.length_range] at hlt
    have hlt' : (pre.length : Int) < 10 := by omega
    have hw := w_succ (i := pre.length) (by omega)
    have hll : l.length = pre.length := by rw [hl, List.length_map, List.length_range]
    simp only [spec_l30Incidence_l1, hlt', decide_true, if_true, Int.natCast_nonneg, Int.toNat_natCast, hil, and_self, hF, hg, Option.bind_some, hw, l00Has_ok hk (show (c.getD j []).length ≤ 1000000000 by omega)]
    cases hb : (c.getD j []).contains (pre.length : Int) with
    | true =>
      rw [if_pos rfl, if_pos (by simp; omega)]
      refine ih _ ?_
      rw [List.length_append, List.length_singleton, List.range_succ, List.map_append, List.map_cons, List.map_nil, hb, hl]
      rfl
    | false =>
      rw [if_neg (by simp), if_pos (by simp; omega)]
      refine ih _ ?_
      rw [List.length_append, List.length_singleton, List.range_succ, List.map_append, List.map_cons, List.map_nil, hb, hl]
      rfl
  · intro n l hl
    rw [List.length_range] at hl ⊢
    have : ¬ (((10 : Nat) : Int) < 10) := by omega
    simp only [spec_l30Incidence_l1, this, decide_false, Bool.false_eq_true, if_false, hl]
    rfl
theorem specInc_ok {k : Nat} (hk : KK ≤ k) {c : Cx} (hc : smallCx c) : spec_IncidencePicture k c = some (incP c) := by
  have hK := KK_def
  have hL := LIM_def
  unfold spec_IncidencePicture incP
  rw [l05Ok_ok hk hc]
  cases hb : cxB c with
  | false => simp
  | true =>
    have h := cxB_iff.1 hb
    obtain ⟨g1, g2⟩ := linesI_ok h
    simp only [Option.bind_some, Bool.not_true, Bool.false_eq_true, if_false, if_true]
    unfold spec_l30Incidence
    rw [l05Facets_ok hk hc]
    simp only [Option.bind_some]
    have hfl := facetsC_len c
    have hcl := h.len
    have := loop_list (α := Nat) (A := Pic) (L := fun n i q => spec_l30Incidence_l0 k n c i ((facetsC c).map fun i : Nat => (i : Int)) q (fun q_9 => some q_9)) (I := fun pre q => q = pre.map fun i => lineI (c.getD i [])) (G := fun _ _ => some (linesI c)) (facetsC c) ?_ ?_ k (by omega) [] rfl
    · rw [this]
      exact l30Done_ok hk (by omega) (fun x hx => by have := (g2 x hx).1; omega)
    · intro n pre x post q hx hq ih hg hlt
      have hw := w_succ (i := pre.length) (by omega)
      have hxc : x < c.length := facetsC_lt (by rw [hx]; simp)
      have hF : ((facetsC c).map fun i : Nat => (i : Int))[pre.length]? = some (x : Int) := by rw [List.getElem?_map, hg]; rfl
      have hlt' : (pre.length : Int) < (((facetsC c).map fun i : Nat => (i : Int)).length : Int) := by rw [List.length_map]; exact hlt
      have hql : q.length = pre.length := by rw [hq, List.length_map]
      simp only [spec_l30Incidence_l0, hlt', decide_true, if_true]
      rw [specLine_ok hk hc hF hxc, List.length_singleton, if_pos (by omega), hw]
      exact ih _ (by rw [hq, List.map_append]; rfl)
    · intro n q hq
      have : ¬ ((facetsC c).length : Int) < (((facetsC c).map fun i : Nat => (i : Int)).length : Int) := by rw [List.length_map]; omega
      simp only [spec_l30Incidence_l0, this, decide_false, Bool.false_eq_true, if_false, hq]
      rfl
/-- Bytes with marks at numbers. -/
def markAt (q : List Int) : List Int → List Int
  | [] => q
  | v :: l => markAt (q.set v.toNat 35) l
theorem markAt_len : ∀ (l q : List Int), (markAt q l).length = q.length
  | [], q => rfl
  | v :: l, q => by show (markAt (q.set v.toNat 35) l).length = _; rw [markAt_len l, List.length_set]
theorem markAt_snoc : ∀ (l q : List Int) (v : Int), markAt q (l ++ [v]) = (markAt q l).set v.toNat 35
  | [], q, v => rfl
  | u :: l, q, v => by show markAt (q.set u.toNat 35) (l ++ [v]) = _; rw [markAt_snoc l]; rfl
theorem markAt_get : ∀ (l q : List Int) (j : Nat), (∀ v ∈ l, 0 ≤ v) → j < q.length → (markAt q l)[j]? = if l.contains (j : Int) = true then some 35 else q[j]?
  | [], q, j, _, _ => by simp [markAt]
  | v :: l, q, j, h, hj => by
    have hv := h v (by simp)
    show (markAt (q.set v.toNat 35) l)[j]? = _
    rw [markAt_get l _ j (fun u hu => h u (by simp [hu])) (by rw [List.length_set]; exact hj), List.contains_cons]
    by_cases c : l.contains (j : Int) = true
    · rw [if_pos c, c, Bool.or_true, if_pos rfl]
    · rw [if_neg c]
      have c' : l.contains (j : Int) = false := by simpa using c
      rw [c', Bool.or_false]
      by_cases e : (j : Int) = v
      · have : v.toNat = j := by omega
        rw [this, List.getElem?_set_self hj, if_pos (by rw [e]; simp)]
      · have : v.toNat ≠ j := by omega
        rw [List.getElem?_set_ne this, if_neg (by simpa using e)]
theorem mark_line {s : List Int} (h : ∀ v ∈ s, 0 ≤ v ∧ v ≤ 9) : to_S (markAt (of_S (List.replicate 10 46)) s) = lineI s := by
  have hl : (of_S (List.replicate 10 46)).length = 10 := by simp [of_S]
  refine List.ext_getElem? fun j => ?_
  unfold to_S lineI
  rw [List.getElem?_map, List.getElem?_map]
  by_cases hj : j < 10
  · rw [markAt_get s _ j (fun v hv => (h v hv).1) (by omega), List.getElem?_range hj]
    have ho : (of_S (List.replicate 10 46))[j]? = some 46 := by
      unfold of_S
      rw [List.getElem?_map, List.getElem?_replicate, if_pos hj]; rfl
    rw [ho]
    by_cases c : s.contains (j : Int) = true
    · rw [if_pos c]; simp only [Option.map_some, c, if_true]; rfl
    · rw [if_neg c]; simp only [Option.map_some, c, if_false]; rfl
  · rw [List.getElem?_eq_none (by rw [markAt_len, hl]; omega), List.getElem?_eq_none (by rw [List.length_range]; omega)]; rfl
theorem implInc_ok {k : Nat} (hk : KK ≤ k) {c : Cx} (hc : smallCx c) : impl_IncidencePicture k c = some (incP c) := by
  have hK := KK_def
  have hL := LIM_def
  unfold impl_IncidencePicture incP
  rw [validComplex_ok hk hc]
  cases hb : cxB c with
  | false => simp
  | true =>
    have h := cxB_iff.1 hb
    obtain ⟨g1, g2⟩ := linesI_ok h
    simp only [Option.bind_some, Bool.not_true, Bool.false_eq_true, if_false, if_true]
    rw [implFacets_ok hk hc]
    simp only [Option.bind_some, List.length_map]
    have hfl := facetsC_len c
    have hcl := h.len
    have hrep : strings_Repeat [46] 10 = some (List.replicate 10 46) := repeat_ok 46 (n := 10) (by omega)
    have := loop_list (α := Nat) (A := Pic) (L := fun n i q => impl_IncidencePicture_l0 k n ((facetsC c).length : Int) i q ((facetsC c).map fun i : Nat => (i : Int)) c (fun q_14 => (impl_pictured k q_14).bind fun r_15 => some (r_15.1, r_15.2))) (I := fun pre q => q = pre.map fun i => lineI (c.getD i [])) (G := fun _ _ => some (doneP (linesI c))) (facetsC c) ?_ ?_ k (by omega) [] rfl
    · exact this
    · intro n pre x post q hx hq ih hg hlt
      have hw := w_succ (i := pre.length) (by omega)
      have hxc : x < c.length := facetsC_lt (by rw [hx]; simp)
      have hpl : pre.length < (facetsC c).length := by omega
      have hF : ((facetsC c).map fun i : Nat => (i : Int))[pre.length]? = some (x : Int) := by rw [List.getElem?_map, hg]; rfl
      have hql : q.length = pre.length := by rw [hq, List.length_map]
      have hgx := getD_at hxc
      have hsp := h.simp _ (List.mem_of_getElem? hgx)
      have hs4 := hsp.len4
      have inner : ∀ E : Int → Int → Pic → List Int → List Int → Cx → Option (Pic × Int), impl_IncidencePicture_l1 k k ((facetsC c).length : Int) (pre.length : Int) (c.getD x []) ((c.getD x []).length : Int) 0 q (of_S (List.replicate 10 46)) ((facetsC c).map fun i : Nat => (i : Int)) c E = E ((facetsC c).length : Int) (pre.length : Int) q (markAt (of_S (List.replicate 10 46)) (c.getD x [])) ((facetsC c).map fun i : Nat => (i : Int)) c := by
        intro E
        generalize c.getD x [] = s at hsp hs4
        have := loop_list (α := Int) (A := List Int) (L := fun n i r => impl_IncidencePicture_l1 k n ((facetsC c).length : Int) (pre.length : Int) s (s.length : Int) i q r ((facetsC c).map fun i : Nat => (i : Int)) c E) (I := fun pre2 r => r = markAt (of_S (List.replicate 10 46)) pre2) (G := fun _ _ => E ((facetsC c).length : Int) (pre.length : Int) q (markAt (of_S (List.replicate 10 46)) s) ((facetsC c).map fun i : Nat => (i : Int)) c) s ?_ ?_ k (by omega) (of_S (List.replicate 10 46)) rfl
        · exact this
        · intro n pre2 v post2 r hx2 hr ih2 hg2 hlt2
          have hv := hsp.vert v (List.mem_of_getElem? hg2)
          have hw2 := w_succ (i := pre2.length) (by omega)
          have hrl : r.length = 10 := by rw [hr, markAt_len]; simp [of_S]
          have hvr : v.toNat < r.length := by omega
          simp only [impl_IncidencePicture_l1, hlt2, decide_true, if_true, Int.natCast_nonneg, Int.toNat_natCast, hg2, Option.bind_some, hv.1, hvr, and_self, List.getElem?_eq_getElem hvr, hw2]
          exact ih2 _ (by rw [hr, markAt_snoc])
        · intro n r hr
          simp only [impl_IncidencePicture_l1, Int.lt_irrefl, decide_false, Bool.false_eq_true, if_false, hr]
      simp only [impl_IncidencePicture_l0, hlt, decide_true, if_true, Int.natCast_nonneg, Int.toNat_natCast, List.length_map, hpl, and_self, hF, hrep, Option.bind_some, hgx, List.length_replicate]
      rw [if_pos (by omega), inner, mark_line hsp.vert, List.length_singleton, if_pos (by omega), hw]
      exact ih _ (by rw [hq, List.map_append]; rfl)
    · intro n q hq
      have e : q = linesI c := hq
      simp only [impl_IncidencePicture_l0, Int.lt_irrefl, decide_false, Bool.false_eq_true, if_false]
      rw [e, pictured_done hk (W := 10) (by omega) (by omega) g2]
      rfl
def sumL {α : Type} (f : α → Nat) (l : List α) : Nat := (l.map f).sum
theorem sumL_nil {α : Type} (f : α → Nat) : sumL f [] = 0 := rfl
theorem sumL_cons {α : Type} (f : α → Nat) (x : α) (l : List α) : sumL f (x :: l) = f x + sumL f l := by simp [sumL]
theorem sumL_append {α : Type} (f : α → Nat) (l m : List α) : sumL f (l ++ m) = sumL f l + sumL f m := by simp [sumL]
theorem sumL_mem {α : Type} (f : α → Nat) {x : α} {l : List α} (h : x ∈ l) : f x ≤ sumL f l := by
  induction l with
  | nil => cases h
  | cons y l ih =>
    rw [sumL_cons]
    rcases List.mem_cons.1 h with rfl | h
    · omega
    · have := ih h; omega
/-- Sizes gathered, until they are too great. -/
theorem loop_sz {α : Type} (xs : List α) {s : α → Nat} {L : Nat → Int → Int → Option Int}
    (h1 : ∀ n (i : Nat) x r, xs[i]? = some x → (i : Int) < xs.length → x ∈ xs → 0 ≤ r → r ≤ 1048576 → L (n + 1) (i : Int) r = if (s x : Int) ≤ r then L n ((i + 1 : Nat) : Int) (r - (s x : Int)) else some (-1))
    (h2 : ∀ n r, L (n + 1) (xs.length : Int) r = some r) {n : Nat} (hn : xs.length < n) {r : Int} (h0 : 0 ≤ r) (hr : r ≤ 1048576) : L n 0 r = some (if (sumL s xs : Int) ≤ r then r - (sumL s xs : Int) else -1) := by
  refine loop_list (L := L) (I := fun _ r => 0 ≤ r ∧ r ≤ 1048576) (G := fun post r => some (if (sumL s post : Int) ≤ r then r - (sumL s post : Int) else -1)) xs ?_ ?_ n hn r ⟨h0, hr⟩
  · intro n pre x post r hx hI ih hg hlt
    rw [h1 n pre.length x r hg hlt (List.mem_of_getElem? hg) hI.1 hI.2]
    have hc : sumL s (x :: post) = s x + sumL s post := sumL_cons _ _ _
    by_cases c : (s x : Int) ≤ r
    · rw [if_pos c, ih (r - (s x : Int)) ⟨by omega, by omega⟩]
      by_cases c2 : (sumL s post : Int) ≤ r - (s x : Int)
      · rw [if_pos c2, if_pos (by omega)]; congr 1; omega
      · rw [if_neg c2, if_neg (by omega)]
    · rw [if_neg c, if_neg (by omega)]
  · intro n r hI
    rw [h2, sumL_nil, if_pos (by simpa using hI.1)]; simp
/-- A mark is a text. -/
theorem markText_ok {k : Nat} (hk : KK ≤ k) {n : Int} (h : n ≤ 9223372036854775807) : ∃ t, laws_markText k n = some t := by
  unfold laws_markText
  by_cases h0 : n ≤ 0
  · exact ⟨[109, 48], by simp [h0]⟩
  · simp only [decide_eq_true_eq, h0, if_false]
    have key : ∀ (m : Nat) (n : Int) (out : List UInt8), 0 ≤ n → n < 10 ^ m → n ≤ 9223372036854775807 → out.length + m ≤ 100 → ∀ q, m < q → ∃ t, laws_markText_l0 k q n out (fun out_1 => (if [109].length + out_1.length ≤ 9223372036854775807 then some ([109] ++ out_1) else none)) = some t := by
      intro m
      induction m with
      | zero =>
        intro n out h1 h2 h3 h4 q hq
        obtain ⟨q, rfl⟩ : ∃ p, q = p + 1 := ⟨q - 1, by omega⟩
        have : ¬ 0 < n := by simp at h2; omega
        have h5 : 1 + out.length ≤ 9223372036854775807 := by omega
        exact ⟨[109] ++ out, by simp only [laws_markText_l0, decide_eq_true_eq, this, if_false, List.length_singleton, h5, if_true]⟩
      | succ m ih =>
        intro n out h1 h2 h3 h4 q hq
        obtain ⟨q, rfl⟩ : ∃ p, q = p + 1 := ⟨q - 1, by omega⟩
        by_cases hn : 0 < n
        · have hd : Int.tdiv n 10 = n / 10 := Int.tdiv_eq_ediv_of_nonneg h1
          have hw : w_i64 (Int.tdiv n 10) = n / 10 := by rw [hd, w_id (by omega) (by omega)]
          have h5 : 1 + out.length ≤ 9223372036854775807 := by omega
          have h6 : n / 10 < 10 ^ m := by
            rw [Int.pow_succ] at h2
            omega
          obtain ⟨t, ht⟩ := ih (n / 10) ((to_S [(w_u8 ((w_i64 (48 + (Int.tmod n 10)))))]) ++ out) (by omega) h6 (by omega) (by simp; omega) q (by omega)
          refine ⟨t, ?_⟩
          simp only [laws_markText_l0, decide_eq_true_eq, hn, if_true, hw]
          rw [if_pos (by simp; omega)]
          exact ht
        · have h5 : 1 + out.length ≤ 9223372036854775807 := by omega
          exact ⟨[109] ++ out, by simp only [laws_markText_l0, decide_eq_true_eq, hn, if_false, List.length_singleton, h5, if_true]⟩
    exact key 20 n [] (by omega) (by omega) h (by simp) k (by have := KK_def; omega)
noncomputable def tM (k : Nat) (m : Int) : List UInt8 := (laws_markText k m).getD []
theorem tM_ok {k : Nat} (hk : KK ≤ k) {m : Int} (h : m ≤ 9223372036854775807) : laws_markText k m = some (tM k m) := by
  obtain ⟨t, ht⟩ := markText_ok hk h
  unfold tM
  rw [ht]; rfl
/-- Marks along a list: f puts marks from m on into an element and says which is next. -/
def mkL {α : Type} (f : α → Int → α × Int) : List α → Int → List α × Int
  | [], m => ([], m)
  | x :: l, m => ((f x m).1 :: (mkL f l (f x m).2).1, (mkL f l (f x m).2).2)
theorem mkL_length {α : Type} (f : α → Int → α × Int) : ∀ (l : List α) (m : Int), (mkL f l m).1.length = l.length
  | [], _ => rfl
  | x :: l, m => by simp [mkL, mkL_length f l]
theorem mkL_snd {α : Type} {f : α → Int → α × Int} {c : α → Nat} (hc : ∀ x m, (f x m).2 = m + (c x : Int)) : ∀ (l : List α) (m : Int), (mkL f l m).2 = m + (sumL c l : Int)
  | [], m => by simp [mkL, sumL_nil]
  | x :: l, m => by
    have h1 := sumL_cons c x l
    show (mkL f l (f x m).2).2 = _
    rw [mkL_snd hc l, hc]; omega
theorem mkL_append {α : Type} {f : α → Int → α × Int} : ∀ (l r : List α) (m : Int), (mkL f (l ++ r) m).1 = (mkL f l m).1 ++ (mkL f r (mkL f l m).2).1
  | [], r, m => rfl
  | x :: l, r, m => by simp [mkL, mkL_append l r]
/-- A loop that marks: S tells the state by the list that is marked. -/
theorem loop_mark {α Q R : Type} {f : α → Int → α × Int} {c : α → Nat} (hc : ∀ x m, (f x m).2 = m + (c x : Int)) (xs : List α) {m0 B : Int} (hB : m0 + (sumL c xs : Int) ≤ B) {S : List α → Q} {L : Nat → Int → Int → Q → R} {G : R}
    (h1 : ∀ n (i : Nat) m l y, l.length = xs.length → l[i]? = some y → y ∈ xs → m0 ≤ m → m + (c y : Int) ≤ B → (i : Int) < l.length → i < l.length → L (n + 1) m (i : Int) (S l) = L n (m + (c y : Int)) ((i + 1 : Nat) : Int) (S (l.set i (f y m).1)))
    (h2 : ∀ n l, l = (mkL f xs m0).1 → l.length = xs.length → L (n + 1) (m0 + (sumL c xs : Int)) (xs.length : Int) (S l) = G) {n : Nat} (hn : xs.length < n) : L n m0 0 (S xs) = G := by
  have main : ∀ (post pre : List α) (n : Nat), xs = pre ++ post → post.length < n → L n (m0 + (sumL c pre : Int)) (pre.length : Int) (S ((mkL f pre m0).1 ++ post)) = G := by
    intro post
    induction post with
    | nil =>
      intro pre n hx hn
      obtain ⟨m, rfl⟩ : ∃ m, n = m + 1 := ⟨n - 1, by simp at hn; omega⟩
      rw [List.append_nil] at hx ⊢
      subst hx
      exact h2 m _ rfl (mkL_length f _ _)
    | cons x post ih =>
      intro pre n hx hn
      obtain ⟨m, rfl⟩ : ∃ m, n = m + 1 := ⟨n - 1, by simp at hn; omega⟩
      have hl : (mkL f pre m0).1.length = pre.length := mkL_length f _ _
      have hs : sumL c xs = sumL c pre + (c x + sumL c post) := by rw [hx, sumL_append, sumL_cons]
      rw [h1 m pre.length (m0 + (sumL c pre : Int)) ((mkL f pre m0).1 ++ x :: post) x (by rw [hx]; simp [hl]) (by rw [List.getElem?_append_right (by omega), hl]; simp) (by rw [hx]; simp) (by omega) (by omega) (by simp [hl]; omega) (by simp [hl])]
      have := ih (pre ++ [x]) m (by rw [hx]; simp) (by simp at hn; omega)
      have e1 : ((mkL f pre m0).1 ++ x :: post).set pre.length (f x (m0 + (sumL c pre : Int))).1 = (mkL f (pre ++ [x]) m0).1 ++ post := by
        rw [List.set_append_right _ _ (by omega), hl, Nat.sub_self, List.set_cons_zero, mkL_append, mkL_snd hc]
        simp [mkL]
      have e2 : m0 + (sumL c pre : Int) + (c x : Int) = m0 + (sumL c (pre ++ [x]) : Int) := by rw [sumL_append, sumL_cons, sumL_nil]; omega
      rw [e1, e2]
      rw [List.length_append] at this
      simpa using this
  have := main xs [] n rfl hn
  simpa [sumL_nil, mkL] using this
/-- A loop that looks whether marks are held. -/
theorem loop_held {α R : Type} {f : α → Int → α × Int} {c : α → Nat} (hc : ∀ x m, (f x m).2 = m + (c x : Int)) (xs : List α) {m0 B : Int} (hB : m0 + (sumL c xs : Int) ≤ B) {L : Nat → Int → Int → R} {G : R}
    (h1 : ∀ n (i : Nat) m y, (mkL f xs m0).1[i]? = some (f y m).1 → y ∈ xs → m0 ≤ m → m + (c y : Int) ≤ B → (i : Int) < (mkL f xs m0).1.length → i < (mkL f xs m0).1.length → L (n + 1) m (i : Int) = L n (m + (c y : Int)) ((i + 1 : Nat) : Int))
    (h2 : ∀ n, L (n + 1) (m0 + (sumL c xs : Int)) ((mkL f xs m0).1.length : Int) = G) {n : Nat} (hn : xs.length < n) : L n m0 0 = G := by
  have hlen : (mkL f xs m0).1.length = xs.length := mkL_length f _ _
  have main : ∀ (post pre : List α) (n : Nat), xs = pre ++ post → post.length < n → L n (m0 + (sumL c pre : Int)) (pre.length : Int) = G := by
    intro post
    induction post with
    | nil =>
      intro pre n hx hn
      obtain ⟨m, rfl⟩ : ∃ m, n = m + 1 := ⟨n - 1, by simp at hn; omega⟩
      rw [List.append_nil] at hx
      have := h2 m
      rw [hlen] at this
      rw [← hx]; exact this
    | cons x post ih =>
      intro pre n hx hn
      obtain ⟨m, rfl⟩ : ∃ m, n = m + 1 := ⟨n - 1, by simp at hn; omega⟩
      have hl : (mkL f pre m0).1.length = pre.length := mkL_length f _ _
      have hs : sumL c xs = sumL c pre + (c x + sumL c post) := by rw [hx, sumL_append, sumL_cons]
      have hlx : pre.length < xs.length := by rw [hx]; simp
      have hg : (mkL f xs m0).1[pre.length]? = some (f x (m0 + (sumL c pre : Int))).1 := by
        rw [hx, mkL_append, List.getElem?_append_right (by omega), hl, Nat.sub_self, mkL_snd hc]
        rfl
      rw [h1 m pre.length (m0 + (sumL c pre : Int)) x hg (by rw [hx]; simp) (by omega) (by omega) (by omega) (by omega)]
      have := ih (pre ++ [x]) m (by rw [hx]; simp) (by simp at hn; omega)
      have e2 : m0 + (sumL c pre : Int) + (c x : Int) = m0 + (sumL c (pre ++ [x]) : Int) := by rw [sumL_append, sumL_cons, sumL_nil]; omega
      rw [e2]
      rw [List.length_append] at this
      simpa using this
  have := main xs [] n rfl hn
  simpa [sumL_nil] using this
theorem sumL_one {α : Type} : ∀ l : List α, sumL (fun _ => 1) l = l.length
  | [] => rfl
  | x :: l => by rw [sumL_cons, sumL_one l, List.length_cons]; omega
/-- A text marked. -/
noncomputable def mkS (k : Nat) (_ : List UInt8) (m : Int) : List UInt8 × Int := (tM k m, m + ((1 : Nat) : Int))
theorem mkS_snd (k : Nat) : ∀ (x : List UInt8) (m : Int), (mkS k x m).2 = m + (((fun _ : List UInt8 => 1) x : Nat) : Int) := fun _ _ => rfl
def mkI (_ : Int) (m : Int) : Int × Int := (m, m + ((1 : Nat) : Int))
theorem mkI_snd : ∀ (x : Int) (m : Int), (mkI x m).2 = m + (((fun _ : Int => 1) x : Nat) : Int) := fun _ _ => rfl
theorem markIntI_eq {k : Nat} (hk : KK ≤ k) {q : List (List Int)} {a : Nat} {z : List Int} (hz : q[a]? = some z) {m : Int} (h0 : 0 ≤ m) (h1 : m ≤ 1000000000000000000) (hl : z.length ≤ 1000000000000) :
    laws_markInt64S_o_i_LI k a m q = some ((m + (z.length : Int), ()), (q.set a (mkL mkI z m).1, ()), ()) := by
  have hK := KK_def
  have ha := (List.getElem?_eq_some_iff.1 hz).1
  have hs := sumL_one z
  unfold laws_markInt64S_o_i_LI
  have e : q = q.set a z := by
    obtain ⟨h, rfl⟩ := List.getElem?_eq_some_iff.1 hz
    exact (List.set_getElem_self h).symm
  have := loop_mark mkI_snd z (m0 := m) (B := 2000000000000000000) (by omega) (S := fun l => q.set a l) (L := fun n m i q => laws_markInt64S_o_i_LI_l0 k n a m i q (fun k_10 q_11 => some ((k_10, ()), (q_11, ()), ())))
    (G := some ((m + (z.length : Int), ()), (q.set a (mkL mkI z m).1, ()), ())) ?_ ?_ (n := k) (by omega)
  · rw [← e] at this
    exact this
  · intro n i m l y hll hg hy m0 m1 hlt hlt'
    have hw := w_succ (i := i) (by omega)
    have hm : w_i64 (m + 1) = m + ((1 : Nat) : Int) := w_id (by omega) (by omega)
    simp only [laws_markInt64S_o_i_LI_l0, List.getElem?_set_self ha, Option.bind_some, hlt, hlt', decide_true, if_true, Int.natCast_nonneg, Int.toNat_natCast, and_self, List.getElem?_eq_getElem hlt', hm, hw, List.set_set, mkI]
  · intro n l hl2 hll
    have : ¬ (z.length : Int) < (l.length : Int) := by omega
    simp only [laws_markInt64S_o_i_LI_l0, List.getElem?_set_self ha, Option.bind_some, this, decide_false, Bool.false_eq_true, if_false, hs]
    rw [hl2]
def mkIS (z : List Int) (m : Int) : List Int × Int := ((mkL mkI z m).1, m + (z.length : Int))
theorem mkIS_snd (z : List Int) (m : Int) : (mkIS z m).2 = m + (z.length : Int) := rfl
theorem markIntSS_eq {k : Nat} (hk : KK ≤ k) {L : List (List Int)} {m : Int} (h0 : 0 ≤ m) (h1 : m + (sumL List.length L : Int) ≤ 100000000000000000) (hx : ∀ x ∈ L, x.length ≤ 1000000000000) (hL : L.length ≤ 1000000000000) :
    laws_markInt64SS_o k m L = some ((m + (sumL List.length L : Int), ()), ((mkL mkIS L m).1, ()), ()) := by
  have hK := KK_def
  unfold laws_markInt64SS_o
  refine loop_mark mkIS_snd L (m0 := m) (B := 100000000000000000) h1 (S := fun l => l) (L := fun n m i q => laws_markInt64SS_o_l0 k n m i q (fun k_5 q_6 => some ((k_5, ()), (q_6, ()), ()))) ?_ ?_ (n := k) (by omega)
  · intro n i m' l y hll hg hy m0 m1 hlt hlt'
    have hw := w_succ (i := i) (by omega)
    have st := markIntI_eq hk hg (m := m') (by omega) (by omega) (hx y hy)
    simp only [laws_markInt64SS_o_l0, hlt, hlt', decide_true, if_true, Option.bind_some, Int.natCast_nonneg, Int.toNat_natCast, and_self, hg, st, hw]
    rfl
  · intro n l hl2 hll
    have : ¬ (L.length : Int) < (l.length : Int) := by omega
    simp only [laws_markInt64SS_o_l0, this, decide_false, Bool.false_eq_true, if_false]
    rw [hl2]
/-- What was marked is held. -/
theorem markStringS_ok {k : Nat} (hk : KK ≤ k) {a : List (List UInt8)} {m : Int} (h0 : 0 ≤ m) (h1 : m ≤ 1000000000000) (ha : a.length ≤ 1000000000000) :
    ∃ q, laws_markStringS_o k m a = some ((m + a.length, ()), (q, ()), ()) ∧ laws_heldStringS k q m = some (m + a.length) := by
  have mt : ∀ i : Nat, i ≤ 2000000000000 → ∃ t, laws_markText k (m + i) = some t := fun i hi => markText_ok hk (by omega)
  let T : Nat → List UInt8 := fun i => (laws_markText k (m + i)).getD []
  have hT : ∀ i : Nat, i ≤ 2000000000000 → laws_markText k (m + i) = some (T i) := fun i hi => by
    obtain ⟨t, ht⟩ := mt i hi
    show _ = some ((laws_markText k (m + i)).getD [])
    rw [ht]; rfl
  refine ⟨(List.range a.length).map T, ?_, ?_⟩
  · unfold laws_markStringS_o
    have := loop_list (α := Nat) (A := List (List UInt8)) (L := fun n i q => laws_markStringS_o_l0 k n (m + i) i q fun k_6 q_7 => some ((k_6, ()), (q_7, ()), ()))
      (I := fun pre q => q.length = a.length ∧ q.take pre.length = (List.range pre.length).map T) (G := fun _ _ => some ((m + a.length, ()), ((List.range a.length).map T, ()), ())) (List.range a.length) ?_ ?_ k (by have := KK_def; simp; omega) a ⟨rfl, by simp⟩
    · simpa using this
    · intro n pre x post q hx hq ih hg hlt
      rw [List.length_range] at hlt
      have hw := w_succ (i := pre.length) (by omega)
      have hl : pre.length < q.length := by omega
      have hm : w_i64 (m + (pre.length : Int) + 1) = m + ((pre.length + 1 : Nat) : Int) := by rw [w_id (by omega) (by omega)]; omega
      have hlt' : (pre.length : Int) < (q.length : Int) := by omega
      simp only [laws_markStringS_o_l0, hlt', decide_true, if_true, hT pre.length (by omega), Option.bind_some, Int.natCast_nonneg, Int.toNat_natCast, hl, and_self, List.getElem?_eq_getElem hl, hm, hw]
      refine ih _ ⟨by rw [List.length_set]; exact hq.1, ?_⟩
      rw [List.length_append, List.length_singleton, List.take_succ_eq_append_getElem (by simpa using hl), List.getElem_set_self, List.take_set_of_le (Nat.le_refl _), hq.2, List.range_succ]
      simp
    · intro n q hq
      have : ¬ ((List.range a.length).length : Int) < (q.length : Int) := by rw [hq.1]; simp
      have h2 := hq.2
      rw [List.length_range, ← hq.1, List.take_length, hq.1] at h2
      simp only [laws_markStringS_o_l0, this, decide_false, Bool.false_eq_true, if_false]
      simp [h2]
  · unfold laws_heldStringS
    have := loop_list (α := List UInt8) (A := Unit) (L := fun n i _ => laws_heldStringS_l0 k n ((List.range a.length).map T) (m + i) i fun k_3 => some k_3) (I := fun _ _ => True) (G := fun _ _ => some (m + a.length)) ((List.range a.length).map T) ?_ ?_ k (by have := KK_def; simp; omega) () trivial
    · simpa using this
    · intro n pre x post _ hx _ ih hg hlt
      rw [List.length_map, List.length_range] at hlt
      have hw := w_succ (i := pre.length) (by omega)
      have hm : w_i64 (m + (pre.length : Int) + 1) = m + ((pre.length + 1 : Nat) : Int) := by rw [w_id (by omega) (by omega)]; omega
      have hxT : x = T pre.length := by
        rw [List.getElem?_map, List.getElem?_range (by omega)] at hg
        simpa using hg.symm
      have hlt' : (pre.length : Int) < (((List.range a.length).map T).length : Int) := by simp; omega
      simp only [laws_heldStringS_l0, hlt', decide_true, if_true, Int.natCast_nonneg, Int.toNat_natCast, hg, Option.bind_some, hT pre.length (by omega), hxT, Bool.not_true, Bool.false_eq_true, if_false, hm, hw]
      exact ih () trivial
    · intro n _ _
      simp [laws_heldStringS_l0]
theorem eqStringS_ok {k : Nat} (hk : KK ≤ k) {a b : List (List UInt8)} (ha : a.length < 4611686018427387904) : laws_eqStringS k a b = some (decide (a = b)) := by
  unfold laws_eqStringS
  by_cases hl : a.length = b.length
  · rw [if_neg (by simp [hl])]
    refine loop_eq (L := fun n i => laws_eqStringS_l0 k n a b i (some true)) a b hl ?_ ?_ (n := k) (by have := KK_def; omega)
    · intro n i x y hx hy hlt
      have hw := w_succ (i := i) (by omega)
      by_cases e : x = y <;> simp [laws_eqStringS_l0, hlt, hx, hy, hw, e]
    · intro n
      simp [laws_eqStringS_l0]
  · have h2 : a ≠ b := fun e => hl (by rw [e])
    have h3 : ¬ (a.length : Int) = b.length := by omega
    simp [h3, h2]
instance dec_Int64S : DecidableEq (List Int) := inferInstance
def sz_Int64S (a : List Int) : Nat := a.length
theorem szInt64S_ok {a : List Int} {e0 : TypeId} {left : Int} (h0 : 0 ≤ left) (h1 : left ≤ 1048576) (h : InR (.sl e0 (.int .i64)) a) : laws_szInt64S a left = some (if (sz_Int64S a : Int) ≤ left then left - (sz_Int64S a : Int) else -1) := by
  have hl : a.length ≤ 140737488351232 := h.1
  have hs : sz_Int64S a = a.length := rfl
  unfold laws_szInt64S
  rw [hs, w_id (by omega) (by omega)]
  by_cases c : (a.length : Int) ≤ left
  · rw [decide_eq_false (by omega), if_neg (by simp), if_pos c]
  · rw [decide_eq_true (by omega), if_pos rfl, if_neg c]
instance dec_Int64SS : DecidableEq (List (List Int)) := inferInstance
def sz_Int64SS (a : List (List Int)) : Nat := a.length + sumL sz_Int64S a
theorem szInt64SS_ok {k : Nat} (hk : KK ≤ k) {a : List (List Int)} {e0 e1 : TypeId} {left : Int} (h0 : 0 ≤ left) (h1 : left ≤ 1048576) (h : InR (.sl e0 (.sl e1 (.int .i64))) a) : laws_szInt64SS k a left = some (if (sz_Int64SS a : Int) ≤ left then left - (sz_Int64SS a : Int) else -1) := by
  have hl : a.length ≤ 140737488351232 := h.1
  have hs : sz_Int64SS a = a.length + sumL sz_Int64S a := rfl
  have hK := KK_def
  unfold laws_szInt64SS
  rw [hs, w_id (by omega) (by omega)]
  by_cases c : (a.length : Int) ≤ left
  · rw [decide_eq_false (by omega), if_neg (by simp)]
    refine Eq.trans (loop_sz (L := fun n i r => laws_szInt64SS_l0 k n a r i fun r => some r) (s := sz_Int64S) a ?_ ?_ (n := k) (by omega) (r := left - (a.length : Int)) (by omega) (by omega)) ?_
    · intro n i x r hi hlt hm r0 r1
      have hw := w_succ (i := i) (by omega)
      have hx := szInt64S_ok (a := x) r0 r1 (h.2 x hm)
      simp only [laws_szInt64SS_l0, hlt, decide_true, if_true, Int.natCast_nonneg, Int.toNat_natCast, hi, Option.bind_some, hw, hx]
      by_cases c2 : (sz_Int64S x : Int) ≤ r
      · rw [if_pos c2, decide_eq_false (by omega), if_neg (by simp), if_pos c2]
      · rw [if_neg c2, decide_eq_true (by omega), if_pos rfl, if_neg c2]
    · intro n r
      simp [laws_szInt64SS_l0]
    · by_cases c2 : (sumL sz_Int64S a : Int) ≤ left - (a.length : Int)
      · rw [if_pos c2, if_pos (by omega)]; congr 1; omega
      · rw [if_neg c2, if_neg (by omega)]
  · rw [decide_eq_true (by omega), if_pos rfl, if_neg (by omega)]
instance dec_Complex : DecidableEq (List (List Int)) := inferInstance
def sz_Complex (a : List (List Int)) : Nat := (sz_Int64SS a)
theorem szComplex_ok {k : Nat} (hk : KK ≤ k) {a : List (List Int)} {e0 e1 : TypeId} {left : Int} (h0 : 0 ≤ left) (h1 : left ≤ 1048576) (h : InR (.st (.sl e0 (.sl e1 (.int .i64)))) a) : laws_szComplex k a left = some (if (sz_Complex a : Int) ≤ left then left - (sz_Complex a : Int) else -1) := by
  have hs : sz_Complex a = (sz_Int64SS a) := rfl
  unfold laws_szComplex
  rw [hs]
  have q0 := szInt64SS_ok hk (a := a) (left := left) (by omega) (by omega) h
  rw [q0]
  by_cases c0 : ((sz_Int64SS a) : Int) ≤ left
  case neg => rw [if_neg c0]; simp only [Option.bind_some]; rw [decide_eq_true (by omega), if_pos rfl]
  rw [if_pos c0]; simp only [Option.bind_some]
  rw [decide_eq_false (by omega), if_neg (by simp)]
theorem toInt64S_ok {k : Nat} (hk : KK ≤ k) {a : List Int} (h : sz_Int64S a ≤ 10000000000) : laws_toInt64S k a = some a := by
  have hl : a.length ≤ 10000000000 := Nat.le_trans (show a.length ≤ sz_Int64S a by unfold sz_Int64S; omega) h
  unfold laws_toInt64S
  have hL := LIM_def
  rw [if_pos ⟨by omega, Int.le_refl _, by omega⟩]
  refine loop_copy (L := fun n i q => laws_toInt64S_l0 k n a i q fun q_5 => some q_5) (e := fun q => some q) a _ (by simp) ?_ ?_ (n := k) (by have := KK_def; omega)
  · intro n i x q hx hlt hq
    have hw := w_succ (i := i) (by omega)
    have hi : i < q.length := by omega
    simp [laws_toInt64S_l0, hlt, hx, hw, hi]
  · intro n q
    simp [laws_toInt64S_l0]
theorem toInt64SS_ok {k : Nat} (hk : KK ≤ k) {a : List (List Int)} (h : sz_Int64SS a ≤ 10000000000) : laws_toInt64SS k a = some a := by
  have hl : a.length ≤ 10000000000 := Nat.le_trans (show a.length ≤ sz_Int64SS a by unfold sz_Int64SS; omega) h
  unfold laws_toInt64SS
  have hL := LIM_def
  rw [if_pos ⟨by omega, Int.le_refl _, by omega⟩]
  refine loop_copy (L := fun n i q => laws_toInt64SS_l0 k n a i q fun q_5 => some q_5) (e := fun q => some q) a _ (by simp) ?_ ?_ (n := k) (by have := KK_def; omega)
  · intro n i x q hx hlt hq
    have hw := w_succ (i := i) (by omega)
    have hi : i < q.length := by omega
    have hm := sumL_mem sz_Int64S (List.mem_of_getElem? hx)
    have hb : sz_Int64S x ≤ 10000000000 := by unfold sz_Int64SS at h; omega
    simp [laws_toInt64SS_l0, toInt64S_ok hk hb, hlt, hx, hw, hi]
  · intro n q
    simp [laws_toInt64SS_l0]
theorem toComplex_ok {k : Nat} (hk : KK ≤ k) {a : List (List Int)} (h : sz_Complex a ≤ 10000000000) : laws_toComplex k a = some a := by
  have b0 : (sz_Int64SS a) ≤ 10000000000 := by unfold sz_Complex at h; omega
  unfold laws_toComplex
  simp only [toInt64SS_ok hk b0, Option.bind_some] <;> rfl
theorem eqInt64S_ok {k : Nat} (hk : KK ≤ k) {a b : List Int} (h : sz_Int64S a ≤ 10000000000) : laws_eqInt64S k a b = some (decide (a = b)) := by
  have hle : a.length ≤ 10000000000 := Nat.le_trans (show a.length ≤ sz_Int64S a by unfold sz_Int64S; omega) h
  unfold laws_eqInt64S
  by_cases hl : a.length = b.length
  · rw [if_neg (by simp [hl])]
    refine loop_eq (L := fun n i => laws_eqInt64S_l0 k n a b i (some true)) a b hl ?_ ?_ (n := k) (by have := KK_def; omega)
    · intro n i x y hx hy hlt
      have hw := w_succ (i := i) (by omega)
      by_cases e : x = y <;> simp [laws_eqInt64S_l0, hlt, hx, hy, hw, e]
    · intro n
      simp [laws_eqInt64S_l0]
  · have h2 : a ≠ b := fun e => hl (by rw [e])
    have h3 : ¬ (a.length : Int) = b.length := by omega
    simp [h3, h2]
theorem eqInt64SS_ok {k : Nat} (hk : KK ≤ k) {a b : List (List Int)} (h : sz_Int64SS a ≤ 10000000000) : laws_eqInt64SS k a b = some (decide (a = b)) := by
  have hle : a.length ≤ 10000000000 := Nat.le_trans (show a.length ≤ sz_Int64SS a by unfold sz_Int64SS; omega) h
  unfold laws_eqInt64SS
  by_cases hl : a.length = b.length
  · rw [if_neg (by simp [hl])]
    refine loop_eq (L := fun n i => laws_eqInt64SS_l0 k n a b i (some true)) a b hl ?_ ?_ (n := k) (by have := KK_def; omega)
    · intro n i x y hx hy hlt
      have hw := w_succ (i := i) (by omega)
      have hm := sumL_mem sz_Int64S (List.mem_of_getElem? hx)
      have hb : sz_Int64S x ≤ 10000000000 := by unfold sz_Int64SS at h; omega
      simp only [laws_eqInt64SS_l0, hlt, decide_true, if_true, Int.natCast_nonneg, Int.toNat_natCast, hx, hy, Option.bind_some, hw, eqInt64S_ok hk hb]
      by_cases e : x = y
      · rw [decide_eq_true e, if_pos e]; simp
      · rw [decide_eq_false e, if_neg e]; simp
    · intro n
      simp [laws_eqInt64SS_l0]
  · have h2 : a ≠ b := fun e => hl (by rw [e])
    have h3 : ¬ (a.length : Int) = b.length := by omega
    simp [h3, h2]
theorem eqComplex_ok {k : Nat} (hk : KK ≤ k) {a b : List (List Int)} (h : sz_Complex a ≤ 10000000000) : laws_eqComplex k a b = some (decide (a = b)) := by
  have c0 : (sz_Int64SS a) ≤ 10000000000 := by unfold sz_Complex at h; omega
  unfold laws_eqComplex
  simp only [eqInt64SS_ok hk c0, Option.bind_some, Prod.mk.injEq]
  by_cases x0 : a = b
  case neg => simp [x0]
  subst x0
  simp
theorem cxSmall {c : Cx} (h : sz_Complex c ≤ 1048576) : smallCx c := by
  have e : sz_Complex c = c.length + sumL List.length c := rfl
  exact ⟨by omega, fun s hs => by have := sumL_mem List.length hs; omega⟩
theorem incP_len {c : Cx} : (incP c).1.length ≤ 48 := by
  unfold incP
  by_cases h : cxB c = true
  · rw [if_pos h]
    obtain ⟨g1, g2⟩ := linesI_ok (cxB_iff.1 h)
    unfold doneP
    split
    · exact g1
    · simp
  · rw [if_neg h]; simp
theorem pure_FnExactIncidencePicture {e0 e1 : TypeId} (a0 : Cx) (f0 : InR (.st (.sl e0 (.sl e1 (.int .i64)))) a0) : ∃ k : Nat, laws_FnExactIncidencePicture k a0 = some true := by
  have hk := Nat.le_refl KK
  refine ⟨KK, ?_⟩
  have q0 := szComplex_ok hk (a := a0) (left := 1048576) (by omega) (by omega) f0
  unfold laws_FnExactIncidencePicture
  rw [q0]
  by_cases c0 : (sz_Complex a0 : Int) ≤ 1048576
  case neg => rw [if_neg c0]; simp only [Option.bind_some]; rw [decide_eq_true (by omega), if_pos rfl]
  rw [if_pos c0]; simp only [Option.bind_some]
  rw [decide_eq_false (by omega), if_neg (by simp)]
  have b0 : sz_Complex a0 ≤ 10000000000 := by omega
  have hc := cxSmall (c := a0) (by omega)
  have hr := incP_len (c := a0)
  have hsum : sumL List.length a0 ≤ 1048576 := by have e : sz_Complex a0 = a0.length + sumL List.length a0 := rfl; omega
  have mA : laws_markComplex_o KK 1 a0 = some ((1 + (sumL List.length a0 : Int), ()), ((mkL mkIS a0 1).1, ()), ()) := by
    unfold laws_markComplex_o
    rw [markIntSS_eq hk (by omega) (by omega) (fun x hx => by have := hc.2 x hx; omega) (by have := hc.1; omega)]
    rfl
  have nA : ¬ (1 + (sumL List.length a0 : Int) < 0) := by omega
  obtain ⟨q2, hq2, hh2⟩ := markStringS_ok hk (a := (incP a0).1) (m := 1) (by omega) (by omega) (by omega)
  have nR : ¬ (1 + ((incP a0).1.length : Int) < 0) := by omega
  simp only [toComplex_ok hk b0, Option.bind_some, specInc_ok hk hc, implInc_ok hk hc, eqComplex_ok hk b0, eqStringS_ok hk (show (incP a0).1.length < 4611686018427387904 by omega), mA, nA, hq2, hh2, nR, decide_true, Bool.not_true, Bool.false_eq_true, if_false, decide_false]
end Go.Proofs.Ytnlpjpfpjnmjmaa.Ev
