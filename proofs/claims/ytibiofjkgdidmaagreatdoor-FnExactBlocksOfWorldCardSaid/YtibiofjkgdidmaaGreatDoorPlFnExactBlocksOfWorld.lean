/- Plain laws of the printed functions. No conditions but those in each statement. -/
import Derived.Test.YtibiofjkgdidmaaGreatDoorEv5
import Derived.Test.YtibiofjkgdidmaaGreatDoorG12
set_option linter.unusedVariables false
set_option linter.unusedSimpArgs false
namespace Go.Proofs.YtibiofjkgdidmaaGreatDoor.Ev
open Go.RowKit
theorem zal_ (n a b : Int) : z52_ n a b = some (decide (a ≤ n ∧ n ≤ b)) := by
  unfold z52_
  by_cases h : a ≤ n <;> simp [h]
theorem zc9_ (n a b : Int) : z53_ n a b = some (decide (a ≤ n ∧ n ≤ b)) := by
  unfold z53_
  by_cases h : a ≤ n <;> simp [h]
theorem z3v_ {α : Type} (p : α → Bool) (xs : List α) : decide (0 ≤ idxP p xs) = xs.any p := by
  unfold idxP
  cases h : xs.findIdx? p with
  | some i =>
    obtain ⟨hlt, hp, _⟩ := List.findIdx?_eq_some_iff_getElem.1 h
    have : xs.any p = true := List.any_eq_true.2 ⟨_, List.getElem_mem hlt, hp⟩
    rw [this]; simp
  | none =>
    rw [List.findIdx?_eq_none_iff] at h
    have : xs.any p = false := List.any_eq_false.2 fun x hx => by rw [h x hx]; simp
    rw [this]; simp
theorem zjx_ {α : Type} {R : α → α → Prop} (tr : ∀ a b c, R a b → R b c → R a c) : ∀ {l : List α}, (∀ (i : Nat) (a b : α), l[i]? = some a → l[i + 1]? = some b → R a b) → l.Pairwise R
  | [], _ => List.Pairwise.nil
  | [a], _ => List.pairwise_singleton ..
  | a :: b :: l, h => by
    have h0 := h 0 a b rfl rfl
    have ih := zjx_ tr (l := b :: l) (fun i x y hx hy => h (i + 1) x y hx hy)
    refine List.Pairwise.cons (fun x hx => ?_) ih
    rcases List.mem_cons.1 hx with rfl | hx
    · exact h0
    · exact tr _ _ _ h0 ((List.pairwise_cons.1 ih).1 x hx)
theorem znq_ {α : Type} {R : α → α → Prop} {l : List α} (h : l.Pairwise R) {i : Nat} {a b : α} (ha : l[i]? = some a) (hb : l[i + 1]? = some b) : R a b := by
  obtain ⟨h1, rfl⟩ := List.getElem?_eq_some_iff.1 ha
  obtain ⟨h2, rfl⟩ := List.getElem?_eq_some_iff.1 hb
  exact List.pairwise_iff_getElem.1 h i (i + 1) h1 h2 (by omega)
def z49_ {α : Type} (R : α → α → Prop) (l : List α) (i : Nat) (x : α) : Prop := 0 < i → ∀ t, l[i - 1]? = some t → R t x
theorem zgi_ {α : Type} {R : α → α → Prop} (tr : ∀ a b c, R a b → R b c → R a c) {l : List α} {m : Nat} (h : ∀ j, j < m → ∀ x, l[j]? = some x → z49_ R l j x) : (l.take m).Pairwise R := by
  refine zjx_ tr fun i a b ha hb => ?_
  have hi : i + 1 < m := by
    have := (List.getElem?_eq_some_iff.1 hb).1
    rw [List.length_take] at this; omega
  rw [List.getElem?_take_of_lt (by omega)] at ha
  rw [List.getElem?_take_of_lt hi] at hb
  exact h (i + 1) hi b hb (by omega) a (by simpa using ha)
theorem zjy_ {α : Type} {R : α → α → Prop} {l : List α} (h : l.Pairwise R) {i : Nat} {x : α} (hx : l[i]? = some x) : z49_ R l i x := fun h0 t ht => by
  have e : i = (i - 1) + 1 := by omega
  rw [e] at hx
  exact znq_ h ht hx
theorem ztp_ {R : Type} {L : Nat → Int → R} {b : Nat} {p : Nat → Bool} {r e : R}
    (h1 : ∀ n (i : Nat), i < b → (∀ j, j < i → p j = true) → L (n + 1) (i : Int) = if p i = true then L n ((i + 1 : Nat) : Int) else r) (h2 : ∀ n, L (n + 1) (b : Int) = e) {n : Nat} (hn : b < n) : L n 0 = if (List.range b).all p = true then e else r := by
  refine zq_ (α := Nat) (A := Unit) (L := fun n i _ => L n i) (I := fun pre _ => ∀ j ∈ pre, p j = true) (G := fun l _ => if l.all p = true then e else r) (List.range b) ?_ ?_ n (by simpa using hn) () (by simp)
  · intro n pre x post _ hx hI ih hg hlt
    rw [List.length_range] at hlt
    have hxi : x = pre.length := by
      rw [List.getElem?_range (by omega)] at hg
      simpa using hg.symm
    subst hxi
    have hpre : pre = List.range pre.length := by
      have := congrArg (List.take pre.length) hx
      rw [List.take_left, List.take_range] at this
      rw [Nat.min_eq_left (by omega)] at this
      exact this.symm
    rw [h1 n pre.length (by omega) (fun j hj => hI j (by rw [hpre]; simpa using hj))]
    by_cases hp : p pre.length = true
    · rw [if_pos hp, ih () (fun j hj => by
        rcases List.mem_append.1 hj with hj | hj
        · exact hI j hj
        · rw [List.mem_singleton.1 hj]; exact hp)]
      simp [hp]
    · rw [if_neg hp]; simp [hp]
  · intro n _ _
    simpa using h2 n
structure SimpP (s : List Int) : Prop where
  len1 : 1 ≤ s.length
  len4 : s.length ≤ 4
  vert : ∀ x ∈ s, 0 ≤ x ∧ x ≤ 9
  rise : s.Pairwise (fun a b : Int => a < b)
open Classical in
noncomputable def z6a_ (s : List Int) : Bool := decide (SimpP s)
theorem z6b_ {s : List Int} : z6a_ s = true ↔ SimpP s := by unfold z6a_; simp
open Classical in
theorem ztq_ {k : Nat} (hk : KK ≤ k) {s : List Int} (hs : s.length ≤ 1000000000) (lo up : Int) : zf4_ k s lo up = some (decide ((∀ x ∈ s, lo ≤ x ∧ x ≤ up) ∧ s.Pairwise (fun a b : Int => a < b))) := by
  have hK := zg_
  unfold zf4_
  have := z46_ (L := fun n i => z6z_ k n s lo up i (some true)) (b := s.length) (p := fun i => decide (∀ x, s[i]? = some x → (lo ≤ x ∧ x ≤ up) ∧ z49_ (fun a b : Int => a < b) s i x)) (r := some false) (e := some true) ?_ ?_ (n := k) (by omega)
  · rw [this]
    have e : ((List.range s.length).all (fun i => decide (∀ x, s[i]? = some x → (lo ≤ x ∧ x ≤ up) ∧ z49_ (fun a b : Int => a < b) s i x)) = true) ↔ ((∀ x ∈ s, lo ≤ x ∧ x ≤ up) ∧ s.Pairwise (fun a b : Int => a < b)) := by
      simp only [List.all_eq_true, List.mem_range, decide_eq_true_eq]
      constructor
      · intro h
        refine ⟨fun x hx => ?_, ?_⟩
        · obtain ⟨i, hi, rfl⟩ := List.getElem_of_mem hx
          exact (h i hi _ (List.getElem?_eq_getElem hi)).1
        · have := zgi_ (R := fun a b : Int => a < b) (fun a b c => Int.lt_trans) (l := s) (m := s.length) (fun j hj x hx => (h j hj x hx).2)
          rwa [List.take_length] at this
      · rintro ⟨h1, h2⟩ i hi x hx
        exact ⟨h1 x (List.mem_of_getElem? hx), zjy_ h2 hx⟩
    by_cases c : ((∀ x ∈ s, lo ≤ x ∧ x ≤ up) ∧ s.Pairwise (fun a b : Int => a < b))
    · rw [if_pos (e.2 c), decide_eq_true c]
    · rw [if_neg (fun h => c (e.1 h)), decide_eq_false c]
  · intro n i hi
    have hlt : (i : Int) < (s.length : Int) := by omega
    have hw := ze_ (i := i) (by omega)
    have hg : s[i]? = some s[i] := List.getElem?_eq_getElem hi
    simp only [z6z_, hlt, decide_true, if_true, Int.natCast_nonneg, Int.toNat_natCast, hg, Option.bind_some, hw, zc9_, Option.some.injEq, forall_eq']
    by_cases c1 : lo ≤ s[i] ∧ s[i] ≤ up
    · rw [decide_eq_true c1]
      simp only [Bool.not_true, Bool.false_eq_true, if_false]
      by_cases h0 : 0 < i
      · have h0' : (0 : Int) < (i : Int) := by omega
        have hw1 : z0_ ((i : Int) - 1) = ((i - 1 : Nat) : Int) := by rw [w_id (by omega) (by omega)]; omega
        have hg1 : s[i - 1]? = some s[i - 1] := List.getElem?_eq_getElem (by omega)
        simp only [h0', decide_true, if_true, hw1, Int.natCast_nonneg, Int.toNat_natCast, hg1, Option.bind_some]
        by_cases c2 : s[i - 1] < s[i]
        · have : z49_ (fun a b : Int => a < b) s i s[i] := fun _ t ht => by rw [hg1] at ht; cases ht; exact c2
          rw [if_neg (by simp; omega), if_pos (decide_eq_true ⟨c1, this⟩)]
        · have : ¬ z49_ (fun a b : Int => a < b) s i s[i] := fun h => c2 (h h0 _ hg1)
          rw [if_pos (decide_eq_true (by omega)), if_neg (fun h => this (of_decide_eq_true h).2)]
      · have h0' : ¬ (0 : Int) < (i : Int) := by omega
        have : z49_ (fun a b : Int => a < b) s i s[i] := fun h => absurd h h0
        rw [decide_eq_false h0', if_neg (by simp), if_pos (decide_eq_true ⟨c1, this⟩)]
    · rw [decide_eq_false c1, if_pos (by simp), if_neg (fun h => c1 (of_decide_eq_true h).1)]
  · intro n
    simp only [z6z_, Int.lt_irrefl, decide_false, Bool.false_eq_true, if_false]
open Classical in
theorem ztr_ {k : Nat} (hk : KK ≤ k) {s : List Int} (hs : s.length ≤ 1000000000) : zf5_ k s = some (z6a_ s) := by
  unfold zf5_
  rw [zc9_]
  simp only [Option.bind_some, ztq_ hk hs]
  by_cases c : (1 : Int) ≤ (s.length : Int) ∧ (s.length : Int) ≤ 4
  · rw [decide_eq_true c, if_pos rfl]
    congr 1
    unfold z6a_
    refine decide_eq_decide.2 ⟨fun h => ⟨by omega, by omega, h.1, h.2⟩, fun h => ⟨h.vert, h.rise⟩⟩
  · rw [decide_eq_false c, if_neg (by simp)]
    congr 1
    unfold z6a_
    rw [decide_eq_false (fun h : SimpP s => c ⟨by have := h.len1; omega, by have := h.len4; omega⟩)]
open Classical in
theorem zts_ {k : Nat} (hk : KK ≤ k) {s : List Int} (hs : s.length ≤ 1000000000) : zfp_ k s = some (decide (s.Pairwise (fun a b : Int => a < b))) := by
  have hK := zg_
  unfold zfp_
  have key : ∀ (d n i : Nat), s.length - i = d → d < n → 0 < i → (s.take i).Pairwise (fun a b : Int => a < b) → za1_ k n s (i : Int) (some true) = some (decide (s.Pairwise (fun a b : Int => a < b))) := by
    intro d
    induction d with
    | zero =>
      intro n i hd hn h0 hp
      obtain ⟨n, rfl⟩ : ∃ m, n = m + 1 := ⟨n - 1, by omega⟩
      have : ¬ (i : Int) < (s.length : Int) := by omega
      rw [List.take_of_length_le (by omega)] at hp
      simp only [za1_, this, decide_false, Bool.false_eq_true, if_false, decide_eq_true hp]
    | succ d ih =>
      intro n i hd hn h0 hp
      obtain ⟨n, rfl⟩ : ∃ m, n = m + 1 := ⟨n - 1, by omega⟩
      have hi : i < s.length := by omega
      have hlt : (i : Int) < (s.length : Int) := by omega
      have hw := ze_ (i := i) (by omega)
      have hw1 : z0_ ((i : Int) - 1) = ((i - 1 : Nat) : Int) := by rw [w_id (by omega) (by omega)]; omega
      have hg : s[i]? = some s[i] := List.getElem?_eq_getElem hi
      have hg1 : s[i - 1]? = some s[i - 1] := List.getElem?_eq_getElem (by omega)
      simp only [za1_, hlt, decide_true, if_true, Int.natCast_nonneg, Int.toNat_natCast, hg, hg1, Option.bind_some, hw, hw1]
      by_cases c : s[i - 1] < s[i]
      · rw [decide_eq_false (show ¬ s[i] ≤ s[i - 1] by omega), if_neg (by simp)]
        refine ih n (i + 1) (by omega) (by omega) (by omega) ?_
        refine zjx_ (R := fun a b : Int => a < b) (fun a b c => Int.lt_trans) fun j a b ha hb => ?_
        have hj : j + 1 < i + 1 := by
          have := (List.getElem?_eq_some_iff.1 hb).1
          rw [List.length_take] at this; omega
        rw [List.getElem?_take_of_lt (by omega)] at ha
        rw [List.getElem?_take_of_lt hj] at hb
        by_cases hji : j + 1 = i
        · have e1 : a = s[i - 1] := by
            have : s[j]? = s[i - 1]? := by rw [show j = i - 1 by omega]
            rw [ha, hg1] at this
            exact Option.some.inj this
          have e2 : b = s[i] := by
            rw [hji, hg] at hb
            exact (Option.some.inj hb).symm
          rw [e1, e2]; exact c
        · exact znq_ hp (i := j) (by rw [List.getElem?_take_of_lt (by omega)]; exact ha) (by rw [List.getElem?_take_of_lt (by omega)]; exact hb)
      · rw [decide_eq_true (show s[i] ≤ s[i - 1] by omega), if_pos rfl]
        congr 1
        refine (decide_eq_false fun h => c ?_).symm
        exact List.pairwise_iff_getElem.1 h (i - 1) i (by omega) hi (by omega)
  have h1 := key (s.length - 1) k 1 rfl (by omega) (by omega) (by cases s with
    | nil => simp
    | cons a l => simp)
  exact h1
theorem ztt_ {k : Nat} (hk : KK ≤ k) {s : List Int} (hs : s.length ≤ 1000000000) : zfq_ k s () = some (s.any fun x => !decide (0 ≤ x ∧ x ≤ 9)) := by
  have hK := zg_
  unfold zfq_ zj9_
  rw [z3i_ (L := fun n i => za2_ k n s () (s.length : Int) i (some (-1))) (p := fun x => !decide (0 ≤ x ∧ x ≤ 9)) s ?_ ?_ (n := k) (by omega)]
  · rw [Option.bind_some, z3v_]
  · intro n i x hi hlt
    have hw := ze_ (i := i) (by omega)
    simp only [za2_, zj8_, zj7_, zal_, hlt, decide_true, if_true, Int.natCast_nonneg, Int.toNat_natCast, hi, Option.bind_some, hw]
  · intro n
    simp [za2_]
theorem ztu_ {k : Nat} (hk : KK ≤ k) {s : List Int} (hs : s.length ≤ 1000000000) : zfr_ k s = some (z6a_ s) := by
  unfold zfr_
  by_cases c1 : 1 ≤ s.length
  · rw [decide_eq_true (show (1 : Int) ≤ (s.length : Int) by omega), if_pos rfl]
    by_cases c2 : s.length ≤ 4
    · rw [decide_eq_true (show (s.length : Int) ≤ 4 by omega), if_pos rfl, zts_ hk hs, ztt_ hk hs]
      simp only [Option.bind_some]
      by_cases c3 : s.Pairwise (fun a b : Int => a < b)
      · rw [decide_eq_true c3, if_pos rfl]
        congr 1
        rw [Bool.eq_iff_iff, z6b_]
        simp only [Bool.not_eq_true', List.any_eq_false, Bool.not_eq_true, decide_eq_false_iff_not, Bool.not_eq_false', decide_eq_true_eq]
        exact ⟨fun h => ⟨c1, c2, fun x hx => by simpa using h x hx, c3⟩, fun h x hx => by simpa using h.vert x hx⟩
      · rw [decide_eq_false c3, if_neg (by simp)]
        congr 1
        symm
        rw [Bool.eq_false_iff, ne_eq, z6b_]
        exact fun h => c3 h.rise
    · rw [decide_eq_false (show ¬ (s.length : Int) ≤ 4 by omega), if_neg (by simp)]
      congr 1
      symm
      rw [Bool.eq_false_iff, ne_eq, z6b_]
      exact fun h => c2 h.len4
  · rw [decide_eq_false (show ¬ (1 : Int) ≤ (s.length : Int) by omega), if_neg (by simp)]
    congr 1
    symm
    rw [Bool.eq_false_iff, ne_eq, z6b_]
    exact fun h => c1 h.len1
def cI (x y : Int) : Int := if x < y then -1 else if y < x then 1 else 0
theorem ztv_ (x y : Int) : zfv_ x y = some (cI x y) := by
  unfold zfv_ zfu_ cI
  by_cases h1 : x < y
  · simp [h1]
  · by_cases h2 : y < x <;> simp [h1, h2]
theorem ztw_ (x y : Int) : zft_ x y = some (cI x y) := by
  unfold zft_ zfs_ cI
  by_cases h1 : x < y
  · simp [h1]
  · by_cases h2 : y < x <;> simp [h1, h2]
theorem ztx_ {k : Nat} (hk : KK ≤ k) (a b : Int) : zja_ k [a, b] = some (if a = 0 then b else a) := by
  have hK := zg_
  obtain ⟨m, rfl⟩ : ∃ m, k = m + 3 := ⟨k - 3, by omega⟩
  generalize hf : m + 3 = k
  have hw0 : z0_ 1 = 1 := w_id (by omega) (by omega)
  have hw1 : z0_ 2 = 2 := w_id (by omega) (by omega)
  show z7e_ k k 0 [a, b] 2 0 (fun zero_2 => some zero_2) = _
  conv => lhs; arg 2; rw [← hf]
  by_cases h : a = 0
  · by_cases h' : b = 0
    · subst h; subst h'; simp [z7e_, hw0, hw1]
    · subst h; simp [z7e_, hw0, hw1, h']
  · simp [z7e_, h]
theorem zjz_ : ∀ x : List UInt8, Op.bytesLess x x = false
  | [] => rfl
  | a :: x => by simp [Op.bytesLess, zjz_ x]
theorem zk0_ : ∀ x y z : List UInt8, Op.bytesLess x y = true → Op.bytesLess y z = true → Op.bytesLess x z = true
  | _, [], _, h, _ => by simp [Op.bytesLess] at h
  | _, _ :: _, [], _, h => by simp [Op.bytesLess] at h
  | [], _ :: _, _ :: _, _, _ => rfl
  | a :: x, b :: y, c :: z, h1, h2 => by
    simp only [Op.bytesLess, Bool.or_eq_true, Bool.and_eq_true, decide_eq_true_eq, beq_iff_eq] at h1 h2 ⊢
    rcases h1 with h1 | ⟨rfl, h1⟩
    · rcases h2 with h2 | ⟨rfl, h2⟩
      · exact .inl (UInt8.lt_trans h1 h2)
      · exact .inl h1
    · rcases h2 with h2 | ⟨rfl, h2⟩
      · exact .inl h2
      · exact .inr ⟨rfl, zk0_ x y z h1 h2⟩
theorem znr_ : ∀ x y : List UInt8, Op.bytesLess x y = false → x ≠ y → Op.bytesLess y x = true
  | [], [], _, h => absurd rfl h
  | _ :: _, [], _, _ => rfl
  | [], _ :: _, h, _ => by simp [Op.bytesLess] at h
  | a :: x, b :: y, h1, h2 => by
    simp only [Op.bytesLess, Bool.or_eq_false_iff, decide_eq_false_iff_not, Bool.and_eq_false_iff, beq_eq_false_iff_ne] at h1
    simp only [Op.bytesLess, Bool.or_eq_true, Bool.and_eq_true, decide_eq_true_eq, beq_iff_eq]
    by_cases h : a = b
    · subst h
      refine .inr ⟨rfl, znr_ x y (h1.2.resolve_left (fun h => h rfl)) (fun e => h2 (by rw [e]))⟩
    · exact .inl (UInt8.lt_of_le_of_ne (UInt8.not_lt.1 h1.1) (Ne.symm h))
theorem zty_ {x y : List UInt8} (h : Op.bytesLess x y = true) : Op.bytesLess y x = false := by
  cases h' : Op.bytesLess y x
  · rfl
  · have := zk0_ x y x h h'
    rw [zjz_] at this; cases this
def lexB : List Int → List Int → Bool
  | x :: a, y :: b => if x = y then lexB a b else decide (x < y)
  | _, _ => false
def befS (a b : List Int) : Bool := decide (a.length < b.length) || (decide (a.length = b.length) && lexB a b)
theorem zns_ : ∀ a : List Int, lexB a a = false
  | [] => rfl
  | x :: a => by simp [lexB, zns_ a]
theorem znt_ : ∀ a b c : List Int, a.length = b.length → b.length = c.length → lexB a b = true → lexB b c = true → lexB a c = true
  | [], _, _, _, _, h, _ => by simp [lexB] at h
  | _ :: _, [], _, _, _, h, _ => by simp [lexB] at h
  | _ :: _, _ :: _, [], _, _, _, h => by simp [lexB] at h
  | x :: a, y :: b, z :: c, h1, h2, h3, h4 => by
    simp only [lexB] at h3 h4 ⊢
    by_cases c1 : x = y
    · subst c1
      rw [if_pos rfl] at h3
      by_cases c2 : x = z
      · rw [if_pos c2] at h4 ⊢
        exact znt_ a b c (by simpa using h1) (by simpa using h2) h3 h4
      · rw [if_neg c2] at h4 ⊢; exact h4
    · rw [if_neg c1, decide_eq_true_eq] at h3
      by_cases c2 : y = z
      · subst c2; rw [if_neg c1, decide_eq_true_eq]; exact h3
      · rw [if_neg c2, decide_eq_true_eq] at h4
        rw [if_neg (by omega), decide_eq_true_eq]; omega
theorem zgj_ (a : List Int) : befS a a = false := by unfold befS; simp [zns_]
theorem zca_ {a b c : List Int} (h1 : befS a b = true) (h2 : befS b c = true) : befS a c = true := by
  unfold befS at *
  simp only [Bool.or_eq_true, Bool.and_eq_true, decide_eq_true_eq] at *
  rcases h1 with h1 | ⟨e1, h1⟩
  · rcases h2 with h2 | ⟨e2, h2⟩
    · left; omega
    · left; omega
  · rcases h2 with h2 | ⟨e2, h2⟩
    · left; omega
    · exact .inr ⟨by omega, znt_ a b c e1 e2 h1 h2⟩
theorem ztz_ {a b : List Int} (h : befS a b = true) : befS b a = false := by
  cases h' : befS b a
  · rfl
  · have := zca_ h h'
    rw [zgj_] at this; cases this
def cmpL : List Int → List Int → Int
  | x :: a, y :: b => if cI x y = 0 then cmpL a b else cI x y
  | _ :: _, [] => 1
  | [], _ :: _ => -1
  | [], [] => 0
def z4k_ (a b : List Int) : Int := if cI (a.length : Int) (b.length : Int) = 0 then cmpL a b else cI (a.length : Int) (b.length : Int)
theorem z7r_ (x y : Int) : cI x y = 0 ↔ x = y := by
  unfold cI
  by_cases h1 : x < y
  · rw [if_pos h1]; constructor <;> intro h <;> omega
  · rw [if_neg h1]
    by_cases h2 : y < x
    · rw [if_pos h2]; constructor <;> intro h <;> omega
    · rw [if_neg h2]; constructor <;> intro h <;> omega
theorem znu_ (x y : Int) : cI x y < 0 ↔ x < y := by
  unfold cI
  by_cases h1 : x < y
  · rw [if_pos h1]; constructor <;> intro h <;> omega
  · rw [if_neg h1]
    by_cases h2 : y < x
    · rw [if_pos h2]; constructor <;> intro h <;> omega
    · rw [if_neg h2]; constructor <;> intro h <;> omega
theorem znv_ : ∀ a b : List Int, cmpL a b = 0 ↔ a = b
  | [], [] => by simp [cmpL]
  | _ :: _, [] => by simp [cmpL]
  | [], _ :: _ => by simp [cmpL]
  | x :: a, y :: b => by
    unfold cmpL
    by_cases c : cI x y = 0
    · rw [if_pos c, znv_ a b, (z7r_ x y).1 c]; simp
    · rw [if_neg c]
      have : x ≠ y := fun e => c ((z7r_ x y).2 e)
      simp [c, this]
theorem znw_ : ∀ a b : List Int, a.length = b.length → (cmpL a b < 0 ↔ lexB a b = true)
  | [], [], _ => by simp [cmpL, lexB]
  | _ :: _, [], h => by simp at h
  | [], _ :: _, h => by simp at h
  | x :: a, y :: b, h => by
    unfold cmpL lexB
    by_cases c : cI x y = 0
    · rw [if_pos c, if_pos ((z7r_ x y).1 c)]
      exact znw_ a b (by simpa using h)
    · rw [if_neg c, if_neg (fun e => c ((z7r_ x y).2 e)), znu_, decide_eq_true_eq]
theorem znx_ (a b : List Int) : z4k_ a b = 0 ↔ a = b := by
  unfold z4k_
  by_cases c : cI (a.length : Int) (b.length : Int) = 0
  · rw [if_pos c]; exact znv_ a b
  · rw [if_neg c]
    exact ⟨fun h => absurd h c, fun h => by rw [h] at c; exact absurd ((z7r_ _ _).2 rfl) c⟩
theorem zny_ (a b : List Int) : decide (z4k_ a b < 0) = befS a b := by
  rw [Bool.eq_iff_iff, decide_eq_true_eq]
  unfold z4k_ befS
  simp only [Bool.or_eq_true, Bool.and_eq_true, decide_eq_true_eq]
  by_cases c : cI (a.length : Int) (b.length : Int) = 0
  · have e := (z7r_ _ _).1 c
    rw [if_pos c, znw_ a b (by omega)]
    constructor
    · intro h; exact .inr ⟨by omega, h⟩
    · rintro (h | h)
      · omega
      · exact h.2
  · have e : ¬ (a.length : Int) = (b.length : Int) := fun e => c ((z7r_ _ _).2 e)
    rw [if_neg c, znu_]
    constructor
    · intro h; left; omega
    · rintro (h | h)
      · omega
      · omega
theorem zu0_ (a b : List Int) : decide (0 ≤ z4k_ a b) = !befS a b := by
  rw [← zny_]
  by_cases h : z4k_ a b < 0
  · rw [decide_eq_true h, decide_eq_false (by omega)]; rfl
  · rw [decide_eq_false h, decide_eq_true (by omega)]; rfl
theorem zu1_ {k : Nat} (hk : KK ≤ k) {a b : List Int} (ha : a.length ≤ 1000000000) (hb : b.length ≤ 1000000000) : zfw_ k a b = some (cmpL a b) := by
  have hK := zg_
  unfold zfw_
  have key : ∀ (d n i : Nat), a.length - i = d → d < n → za3_ k n a b a (a.length : Int) (i : Int) (fun s_4 s_5 => (if (decide ((List.length s_4 : Int) < (List.length s_5 : Int))) = true then some (-1) else some 0)) = (if i ≤ a.length then some (if a.length ≤ i then (if i < b.length then -1 else 0) else cmpL (a.drop i) (b.drop i)) else some (if a.length < b.length then -1 else 0)) := by
    intro d
    induction d with
    | zero =>
      intro n i hd hn
      obtain ⟨n, rfl⟩ : ∃ m, n = m + 1 := ⟨n - 1, by omega⟩
      have : ¬ (i : Int) < (a.length : Int) := by omega
      simp only [za3_, this, decide_false, Bool.false_eq_true, if_false]
      by_cases h1 : i ≤ a.length
      · have : i = a.length := by omega
        subst this
        rw [if_pos (Nat.le_refl _), if_pos (Nat.le_refl _)]
        by_cases h2 : a.length < b.length
        · rw [decide_eq_true (by omega), if_pos rfl, if_pos h2]
        · rw [decide_eq_false (by omega), if_neg (by simp), if_neg h2]
      · rw [if_neg h1]
        by_cases h2 : a.length < b.length
        · rw [decide_eq_true (by omega), if_pos rfl, if_pos h2]
        · rw [decide_eq_false (by omega), if_neg (by simp), if_neg h2]
    | succ d ih =>
      intro n i hd hn
      obtain ⟨n, rfl⟩ : ∃ m, n = m + 1 := ⟨n - 1, by omega⟩
      have hi : i < a.length := by omega
      have hlt : (i : Int) < (a.length : Int) := by omega
      have hw := ze_ (i := i) (by omega)
      have da : a.drop i = a[i] :: a.drop (i + 1) := List.drop_eq_getElem_cons hi
      rw [if_pos (by omega), if_neg (by omega), da]
      simp only [za3_, hlt, decide_true, if_true, Int.natCast_nonneg, Int.toNat_natCast, List.getElem?_eq_getElem hi, Option.bind_some, hw]
      by_cases hb2 : i < b.length
      · have db : b.drop i = b[i] :: b.drop (i + 1) := List.drop_eq_getElem_cons hb2
        rw [db, decide_eq_false (by omega), if_neg (by simp), List.getElem?_eq_getElem hb2]
        simp only [Option.bind_some, ztv_]
        unfold cmpL
        by_cases c : cI a[i] b[i] = 0
        · rw [decide_eq_true c, if_neg (by simp), if_pos c, ih n (i + 1) (by omega) (by omega), if_pos (by omega)]
          by_cases h3 : a.length ≤ i + 1
          · rw [if_pos h3, List.drop_of_length_le (l := a) (by omega)]
            by_cases h4 : i + 1 < b.length
            · rw [if_pos h4, List.drop_eq_getElem_cons h4]; rfl
            · rw [if_neg h4, List.drop_of_length_le (l := b) (by omega)]; rfl
          · rw [if_neg h3]
        · rw [decide_eq_false c, if_pos (by simp), if_neg c]
      · rw [List.drop_of_length_le (l := b) (by omega), decide_eq_true (by omega), if_pos rfl]
        rfl
  have h0 := key a.length k 0 (by omega) (by omega)
  have hz : ((0 : Nat) : Int) = 0 := rfl
  rw [hz] at h0
  rw [h0, if_pos (Nat.zero_le _), List.drop_zero, List.drop_zero]
  by_cases c : a.length ≤ 0
  · have : a = [] := List.length_eq_zero_iff.1 (by omega)
    subst this
    rw [if_pos c]
    cases b with
    | nil => rfl
    | cons y b => rw [if_pos (by simp)]; rfl
  · rw [if_neg c]
theorem zgk_ {k : Nat} (hk : KK ≤ k) {a b : List Int} (ha : a.length ≤ 1000000000) (hb : b.length ≤ 1000000000) : z7f_ k a b = some (z4k_ a b) := by
  unfold z7f_ z4k_
  rw [ztw_, zu1_ hk ha hb]
  simp only [Option.bind_some, ztx_ hk]
theorem zu2_ {k : Nat} (hk : KK ≤ k) {a b : List Int} (ha : a.length ≤ 1000000000) : zf6_ k a b = some (befS a b) := by
  have hK := zg_
  unfold zf6_ befS
  by_cases hl : a.length = b.length
  · rw [decide_eq_true (show (a.length : Int) = (b.length : Int) by omega), if_neg (by simp), decide_eq_false (by omega), decide_eq_true hl, Bool.false_or, Bool.true_and]
    have key : ∀ (d n i : Nat), a.length - i = d → d < n → z9j_ k n a b (i : Int) (some false) = some (lexB (a.drop i) (b.drop i)) := by
      intro d
      induction d with
      | zero =>
        intro n i hd hn
        obtain ⟨n, rfl⟩ : ∃ m, n = m + 1 := ⟨n - 1, by omega⟩
        have : ¬ (i : Int) < (a.length : Int) := by omega
        simp only [z9j_, this, decide_false, Bool.false_eq_true, if_false]
        rw [List.drop_of_length_le (l := a) (by omega)]; rfl
      | succ d ih =>
        intro n i hd hn
        obtain ⟨n, rfl⟩ : ∃ m, n = m + 1 := ⟨n - 1, by omega⟩
        have hi : i < a.length := by omega
        have hib : i < b.length := by omega
        have hlt : (i : Int) < (a.length : Int) := by omega
        have hw := ze_ (i := i) (by omega)
        have da : a.drop i = a[i] :: a.drop (i + 1) := List.drop_eq_getElem_cons hi
        have db : b.drop i = b[i] :: b.drop (i + 1) := List.drop_eq_getElem_cons hib
        rw [da, db]
        unfold lexB
        simp only [z9j_, hlt, decide_true, if_true, Int.natCast_nonneg, Int.toNat_natCast, List.getElem?_eq_getElem hi, List.getElem?_eq_getElem hib, Option.bind_some, hw]
        by_cases c : a[i] = b[i]
        · rw [decide_eq_true c, if_neg (by simp), if_pos c]
          exact ih n (i + 1) (by omega) (by omega)
        · rw [decide_eq_false c, if_pos (by simp), if_neg c]
    exact key a.length k 0 (by omega) (by omega)
  · rw [decide_eq_false (show ¬ (a.length : Int) = (b.length : Int) by omega), if_pos (by simp), decide_eq_false hl, Bool.false_and, Bool.or_false]
    exact congrArg some (decide_eq_decide.2 (by omega))
theorem zu3_ {i j : Nat} (h : i + j < 4611686018427387904) : z0_ (Int.fdiv (z6u_ (z0_ ((i : Int) + (j : Int)))) (2 ^ 1)) = (((i + j) / 2 : Nat) : Int) := by
  rw [w_id (x := (i : Int) + j) (by omega) (by omega)]
  have hu : z6u_ ((i : Int) + (j : Int)) = (i : Int) + j := by unfold z6u_ IntKind.wrap; simp [IntKind.bits, IntKind.signed]; omega
  rw [hu, Int.fdiv_eq_ediv_of_nonneg _ (by omega), w_id (by omega) (by omega)]
  omega
abbrev Cx := List (List Int)
def z1h_ (s : List Int) (k : Nat) : List Int := s.take k ++ s.drop (k + 1)
theorem zgl_ {s : List Int} {k : Nat} (h : k < s.length) : (z1h_ s k).length = s.length - 1 := by
  unfold z1h_; rw [List.length_append, List.length_take, List.length_drop]; omega
structure CxP (c : Cx) : Prop where
  len : c.length ≤ 48
  simp : ∀ s ∈ c, SimpP s
  ord : c.Pairwise (fun a b => befS a b = true)
  face : ∀ s ∈ c, 1 < s.length → ∀ k, k < s.length → z1h_ s k ∈ c
open Classical in
noncomputable def cxB (c : Cx) : Bool := decide (CxP c)
theorem z4l_ {c : Cx} : cxB c = true ↔ CxP c := by unfold cxB; simp
def z1k_ (c : Cx) : Prop := c.length ≤ 1048576 ∧ ∀ s ∈ c, s.length ≤ 1048576
theorem znz_ {s : List Int} (hs : s.length ≤ 1048576) {k : Nat} (h : k < s.length) : zbv_ s (k : Int) = some (z1h_ s k) := by
  have hL := zy_
  have hw := ze_ (i := k) (by omega)
  have b1 : (k : Int) ≤ (s.length : Int) := by omega
  have b2 : ((k + 1 : Nat) : Int) ≤ (s.length : Int) := by omega
  unfold zbv_ ziz_
  have hdr : (s.drop (k + 1)).take (s.length - (k + 1)) = s.drop (k + 1) := List.take_of_length_le (by rw [List.length_drop]; exact Nat.le_refl _)
  simp only [Int.natCast_nonneg, Int.le_refl, b1, and_self, if_true, Int.toNat_natCast]
  rw [if_pos (by simp only [List.length_nil, List.length_take]; omega)]
  simp only [Option.bind_some, hw, Int.natCast_nonneg, Int.toNat_natCast, b2, Int.le_refl, and_self, if_true, hdr]
  rw [if_pos (by simp only [List.length_take, List.length_drop]; omega)]
  rfl
def posC (c : Cx) (s : List Int) : Nat := c.findIdx (fun y => decide (y = s))
theorem z5a_ {c : Cx} {s : List Int} : posC c s < c.length ↔ s ∈ c := by
  unfold posC
  rw [List.findIdx_lt_length]
  constructor
  · rintro ⟨x, hx, h⟩; rw [← of_decide_eq_true h]; exact hx
  · intro h; exact ⟨s, h, decide_eq_true rfl⟩
theorem zk1_ {c : Cx} {s : List Int} (h : s ∈ c) : c[posC c s]? = some s := by
  have hl := z5a_.2 h
  rw [List.getElem?_eq_getElem hl]
  have : decide (c[posC c s] = s) = true := List.findIdx_getElem (xs := c) (p := fun y => decide (y = s)) (w := hl)
  rw [of_decide_eq_true this]
theorem zu4_ {k : Nat} (hk : KK ≤ k) {a b : List Int} (ha : a.length ≤ 1000000000) : zf7_ k a b = some (decide (a = b)) := by
  have hK := zg_
  unfold zf7_
  by_cases hl : a.length = b.length
  · rw [decide_eq_true (show (a.length : Int) = (b.length : Int) by omega), if_neg (by simp)]
    refine z51_ (L := fun n i => z9k_ k n a b i (some true)) a b hl ?_ ?_ (n := k) (by omega)
    · intro n i x y hx hy hlt
      have hw := ze_ (i := i) (by omega)
      by_cases e : x = y <;> simp [z9k_, hlt, hx, hy, hw, e]
    · intro n
      simp [z9k_]
  · have h2 : a ≠ b := fun e => hl (by rw [e])
    rw [decide_eq_false (show ¬ (a.length : Int) = (b.length : Int) by omega), if_pos (by simp), decide_eq_false h2]
theorem zo0_ {k : Nat} (hk : KK ≤ k) {c : Cx} (hc : z1k_ c) (s : List Int) : zbw_ k c s = some (if posC c s < c.length then ((posC c s : Nat) : Int) else -1) := by
  have hK := zg_
  obtain ⟨h1, h2⟩ := hc
  unfold zbw_
  rw [z3i_ (L := fun m i => z9l_ k m c s i (some (-1))) (p := fun y => decide (y = s)) c ?_ ?_ (n := k) (by omega)]
  · unfold idxP posC
    cases hf : c.findIdx? (fun y => decide (y = s)) with
    | some i =>
      obtain ⟨hlt, hp⟩ := List.findIdx?_eq_some_iff_findIdx_eq.1 hf
      rw [hp, if_pos hlt]
    | none =>
      rw [List.findIdx?_eq_none_iff] at hf
      have : ¬ c.findIdx (fun y => decide (y = s)) < c.length := fun h => by
        obtain ⟨x, hx, h2⟩ := List.findIdx_lt_length.1 h
        rw [hf x hx] at h2; cases h2
      rw [if_neg this]
  · intro m i x hi hlt
    have hw := ze_ (i := i) (by omega)
    have hxl := h2 x (List.mem_of_getElem? hi)
    simp only [z9l_, hlt, decide_true, if_true, Int.natCast_nonneg, Int.toNat_natCast, hi, Option.bind_some, hw, zu4_ hk (show x.length ≤ 1000000000 by omega)]
  · intro m
    simp [z9l_]
theorem zo1_ (c : Cx) (s : List Int) : decide ((if posC c s < c.length then ((posC c s : Nat) : Int) else -1) < 0) = !decide (s ∈ c) := by
  by_cases h : s ∈ c
  · rw [if_pos (z5a_.2 h), decide_eq_false (by omega), decide_eq_true h]; rfl
  · rw [if_neg (fun h2 => h (z5a_.1 h2)), decide_eq_false h]; rfl
theorem zu5_ {k : Nat} (hk : KK ≤ k) {a b : List Int} (ha : a.length ≤ 1048576) (hb : b.length ≤ 1048576) : zfz_ k [a, b] = some (a ++ b) := by
  have hK := zg_
  have hL := zy_
  obtain ⟨n, rfl⟩ : ∃ n, k = n + 3 := ⟨k - 3, by omega⟩
  have w1 : z0_ (0 + (a.length : Int)) = (a.length : Int) := by rw [w_id (by omega) (by omega)]; omega
  have w2 : z0_ ((a.length : Int) + (b.length : Int)) = ((a.length + b.length : Nat) : Int) := by rw [w_id (by omega) (by omega)]; omega
  have w3 : z0_ ((0 : Int) + 1) = 1 := w_id (by omega) (by omega)
  have w4 : z0_ ((1 : Int) + 1) = 2 := w_id (by omega) (by omega)
  have n1 : ¬ ((a.length : Int) < 0) := by omega
  have n2 : ¬ (((a.length + b.length : Nat) : Int) < 0) := by omega
  have l1 : (((a.length + b.length : Nat) : Int).toNat) * 8 ≤ LIM := by simp only [Int.toNat_natCast]; omega
  have l2 : a.length * 8 ≤ LIM := by omega
  have l3 : (a.length + b.length) * 8 ≤ LIM := by omega
  unfold zfz_
  simp only [zfx_, List.length_cons, List.length_nil, Nat.zero_add, Nat.reduceAdd, show ((2 : Nat) : Int) = 2 from rfl, w1, w2, w3, w4]
  simp only [znp_, zfy_, w1, w2, w3, w4, n1, n2, true_and, l1, l2, l3, Int.natCast_nonneg, List.nil_append, decide_false, Bool.false_eq_true, if_false, if_true, Option.bind_some, and_self, List.getElem?_cons_zero, List.getElem?_cons_succ, show decide ((0 : Int) < 2) = true from rfl, show decide ((1 : Int) < 2) = true from rfl, show decide ((2 : Int) < 2) = false from rfl, show (0 : Int).toNat = 0 from rfl, show (1 : Int).toNat = 1 from rfl, show (0 : Int) ≤ 0 from Int.le_refl _, show (0 : Int) ≤ 1 by omega, List.length_cons, List.length_nil, Nat.zero_add, Nat.reduceAdd, show ((2 : Nat) : Int) = 2 from rfl]
def z1c_ (s : List Int) : Cx := if 1 < s.length then (List.range s.length).map (z1h_ s) else []
theorem zo2_ {k : Nat} (hk : KK ≤ k) {s : List Int} (hs : s.length ≤ 1048576) : za4_ k s = some (z1c_ s) := by
  have hK := zg_
  have hL := zy_
  unfold za4_
  have := zq_ (α := Nat) (A := Cx) (L := fun n i q => z7g_ k n s (s.length : Int) i q (fun q_3 => some q_3)) (I := fun pre q => q = (if 1 < s.length then (List.range pre.length).map (z1h_ s) else [])) (G := fun _ _ => some (z1c_ s)) (List.range s.length) ?_ ?_ k (by simp; omega) [] (by simp)
  · exact this
  · intro n pre x post q hx hq ih hg hlt
    rw [List.length_range] at hlt
    have hpl : pre.length < s.length := by omega
    have hw := ze_ (i := pre.length) (by omega)
    simp only [z7g_, hlt, decide_true, if_true]
    by_cases c : 1 < s.length
    · rw [if_pos c] at hq
      have b1 : (pre.length : Int) ≤ (s.length : Int) := by omega
      have b2 : ((pre.length + 1 : Nat) : Int) ≤ (s.length : Int) := by omega
      have hdr : (s.drop (pre.length + 1)).take (s.length - (pre.length + 1)) = s.drop (pre.length + 1) := List.take_of_length_le (by rw [List.length_drop]; exact Nat.le_refl _)
      have hcc := zu5_ hk (a := s.take pre.length) (b := s.drop (pre.length + 1)) (by rw [List.length_take]; omega) (by rw [List.length_drop]; omega)
      have hlim : (q.length + 1) * 24 ≤ LIM := by rw [hq, List.length_map, List.length_range]; omega
      rw [decide_eq_true (by omega), if_pos rfl]
      simp only [Int.natCast_nonneg, Int.le_refl, Int.toNat_natCast, b1, hw, b2, and_self, if_true, hdr, hcc, Option.bind_some, List.length_singleton, hlim]
      refine ih _ ?_
      rw [if_pos c, hq, List.length_append, List.length_singleton, List.range_succ, List.map_append]
      rfl
    · rw [decide_eq_false (by omega), if_neg (by simp), hw]
      exact ih _ (by rw [if_neg c] at hq ⊢; exact hq)
  · intro n q hq
    rw [List.length_range] at hq ⊢
    simp only [z7g_, Int.lt_irrefl, decide_false, Bool.false_eq_true, if_false, hq]
    rfl
theorem zcb_ {s f : List Int} : f ∈ z1c_ s ↔ 1 < s.length ∧ ∃ k, k < s.length ∧ f = z1h_ s k := by
  unfold z1c_
  by_cases c : 1 < s.length
  · rw [if_pos c, List.mem_map]
    constructor
    · rintro ⟨k, hk, rfl⟩; exact ⟨c, k, List.mem_range.1 hk, rfl⟩
    · rintro ⟨_, k, hk, rfl⟩; exact ⟨k, List.mem_range.2 hk, rfl⟩
  · rw [if_neg c]; simp [c]
def lowC (c : Cx) (s : List Int) : Nat := c.findIdx (fun y => !befS y s)
theorem zu6_ (c : Cx) (s : List Int) : lowC c s ≤ c.length := List.findIdx_le_length
theorem zo3_ {c : Cx} {s : List Int} {i : Nat} (h : i < lowC c s) (hi : i < c.length) : befS c[i] s = true := by
  have := List.not_of_lt_findIdx h
  simpa using this
theorem zo4_ {c : Cx} {s : List Int} (hs : c.Pairwise (fun a b => befS a b = true)) {i : Nat} (h : lowC c s ≤ i) (hi : i < c.length) : befS c[i] s = false := by
  have hp : lowC c s < c.length := by omega
  have h0 : befS c[lowC c s] s = false := by
    have := List.findIdx_getElem (xs := c) (p := fun y => !befS y s) (w := hp)
    simp only [Bool.not_eq_true'] at this
    exact this
  by_cases e : i = lowC c s
  · subst e; exact h0
  · cases hb : befS c[i] s
    · rfl
    · have h1 := List.pairwise_iff_getElem.1 hs (lowC c s) i hp hi (by omega)
      rw [zca_ h1 hb] at h0; cases h0
theorem zu7_ {c : Cx} (hs : c.Pairwise (fun a b => befS a b = true)) {s : List Int} (h : s ∈ c) : lowC c s = posC c s := by
  have hl := z5a_.2 h
  have hg := zk1_ h
  rw [List.getElem?_eq_getElem hl] at hg
  have hg := Option.some.inj hg
  have h1 : ¬ posC c s < lowC c s := fun q => by have := zo3_ q hl; rw [hg, zgj_] at this; cases this
  have h2 : ¬ lowC c s < posC c s := fun q => by
    have h3 := List.pairwise_iff_getElem.1 hs (lowC c s) (posC c s) (by omega) hl q
    rw [hg] at h3
    rw [zo4_ hs (Nat.le_refl _) (by omega)] at h3; cases h3
  omega
theorem zu8_ {k : Nat} (hk : KK ≤ k) {c : Cx} (hc : z1k_ c) (hs : c.Pairwise (fun a b => befS a b = true)) {s : List Int} (hsl : s.length ≤ 1048576) {e : Cx → List Int → Unit → Int → Int → Option (Int × Bool)} :
    ∀ (d : Nat) (i j n : Nat), j - i ≤ d → d < n → i ≤ lowC c s → lowC c s ≤ j → j ≤ c.length → z68_ k n c s () (c.length : Int) (i : Int) (j : Int) e = e c s () (c.length : Int) ((lowC c s : Nat) : Int) := by
  obtain ⟨hcl, hce⟩ := hc
  intro d
  induction d with
  | zero =>
    intro i j n h1 h2 h3 h4 h5
    obtain ⟨n, rfl⟩ : ∃ m, n = m + 1 := ⟨n - 1, by omega⟩
    have hlt : ¬ (i : Int) < (j : Int) := by omega
    simp only [z68_, hlt, decide_false, Bool.false_eq_true, if_false]
    rw [show i = lowC c s by omega]
  | succ d ih =>
    intro i j n h1 h2 h3 h4 h5
    obtain ⟨n, rfl⟩ : ∃ m, n = m + 1 := ⟨n - 1, by omega⟩
    by_cases hij : i < j
    · have hlt : (i : Int) < (j : Int) := by omega
      have hm : (i + j) / 2 < c.length := by omega
      have hw := ze_ (i := (i + j) / 2) (by omega)
      have hml := hce c[(i + j) / 2] (List.getElem_mem hm)
      simp only [z68_, hlt, decide_true, if_true, zu3_ (show i + j < 4611686018427387904 by omega), Int.natCast_nonneg, Int.toNat_natCast, List.getElem?_eq_getElem hm, Option.bind_some, zgk_ hk (show (c[(i + j) / 2]).length ≤ 1000000000 by omega) (show s.length ≤ 1000000000 by omega), zny_, hw]
      by_cases hb : befS c[(i + j) / 2] s = true
      · rw [if_pos hb]
        refine ih _ _ _ (by omega) (by omega) ?_ h4 h5
        by_cases hq : lowC c s ≤ (i + j) / 2
        · rw [zo4_ hs hq hm] at hb; cases hb
        · omega
      · rw [if_neg hb]
        refine ih _ _ _ (by omega) (by omega) h3 ?_ (by omega)
        by_cases hq : (i + j) / 2 < lowC c s
        · exact absurd (zo3_ hq hm) hb
        · omega
    · have hlt : ¬ (i : Int) < (j : Int) := by omega
      simp only [z68_, hlt, decide_false, Bool.false_eq_true, if_false]
      rw [show i = lowC c s by omega]
theorem zo5_ {k : Nat} (hk : KK ≤ k) {c : Cx} (hc : z1k_ c) (hs : c.Pairwise (fun a b => befS a b = true)) {s : List Int} (hsl : s.length ≤ 1048576) : zc6_ k c s = some (if posC c s < c.length then ((posC c s : Nat) : Int) else -1) := by
  have hK := zg_
  have hcl := hc.1
  have := zu6_ c s
  unfold zc6_ zjb_
  have h0 := zu8_ hk hc hs hsl (e := fun x_3 target_4 cmp_5 n_6 i_7 => (if (decide (i_7 < n_6)) = true then (if 0 ≤ i_7 then (x_3[i_7.toNat]?).bind fun y_8 => (z7f_ k y_8 target_4).bind fun r_9 => some (i_7, (decide (r_9 = 0))) else none) else some (i_7, false))) c.length 0 c.length k (by omega) (by omega) (by omega) (by omega) (by omega)
  rw [show ((0 : Nat) : Int) = 0 from rfl] at h0
  rw [h0]
  by_cases h : s ∈ c
  · have hp := zu7_ hs h
    have hl := z5a_.2 h
    have hg := zk1_ h
    rw [hp, if_pos hl, decide_eq_true (by omega), if_pos rfl]
    simp only [Int.natCast_nonneg, if_true, Int.toNat_natCast, hg, Option.bind_some, zgk_ hk (show s.length ≤ 1000000000 by omega) (show s.length ≤ 1000000000 by omega)]
    have : z4k_ s s = 0 := (znx_ s s).2 rfl
    rw [this]; rfl
  · rw [if_neg (fun q => h (z5a_.1 q))]
    by_cases hl : lowC c s < c.length
    · have hxl := hc.2 c[lowC c s] (List.getElem_mem hl)
      rw [decide_eq_true (by omega), if_pos rfl]
      simp only [Int.natCast_nonneg, if_true, Int.toNat_natCast, List.getElem?_eq_getElem hl, Option.bind_some, zgk_ hk (show (c[lowC c s]).length ≤ 1000000000 by omega) (show s.length ≤ 1000000000 by omega)]
      have : ¬ z4k_ c[lowC c s] s = 0 := fun e => h (by rw [← (znx_ _ _).1 e]; exact List.getElem_mem hl)
      rw [decide_eq_false this]; rfl
    · rw [decide_eq_false (by omega), if_neg (by simp)]; rfl
open Classical in
noncomputable def cxAt (c d : Cx) (i : Nat) : Bool := decide (∀ s, c[i]? = some s → SimpP s ∧ z49_ (fun a b => befS a b = true) c i s ∧ (1 < s.length → ∀ k, k < s.length → z1h_ s k ∈ d))
open Classical in
theorem z2f_ {c d : Cx} {i : Nat} {s : List Int} (h : c[i]? = some s) : cxAt c d i = true ↔ SimpP s ∧ z49_ (fun a b => befS a b = true) c i s ∧ (1 < s.length → ∀ k, k < s.length → z1h_ s k ∈ d) := by
  unfold cxAt
  rw [decide_eq_true_eq]
  exact ⟨fun q => q s h, fun q t ht => by rw [h] at ht; cases ht; exact q⟩
open Classical in
theorem zo6_ {k : Nat} (hk : KK ≤ k) {c : Cx} (hc : z1k_ c) : zbx_ k c = some (cxB c) := by
  have hK := zg_
  obtain ⟨hcl, hce⟩ := hc
  unfold zbx_
  by_cases h48 : c.length ≤ 48
  · rw [decide_eq_false (by omega), if_neg (by simp)]
    have := z46_ (L := fun n i => z47_ k n c i (some true)) (b := c.length) (p := fun i => cxAt c c i) (r := some false) (e := some true) ?_ ?_ (n := k) (by omega)
    · rw [this]
      have e : (List.range c.length).all (fun i => cxAt c c i) = true ↔ CxP c := by
        rw [List.all_eq_true]
        constructor
        · intro h
          have h' : ∀ i s, c[i]? = some s → SimpP s ∧ z49_ (fun a b => befS a b = true) c i s ∧ (1 < s.length → ∀ k, k < s.length → z1h_ s k ∈ c) := fun i s hs => (z2f_ hs).1 (h i (List.mem_range.2 (List.getElem?_eq_some_iff.1 hs).1))
          refine ⟨h48, fun s hs => ?_, ?_, fun s hs => ?_⟩
          · obtain ⟨i, hi⟩ := List.getElem?_of_mem hs
            exact (h' i s hi).1
          · have := zgi_ (R := fun a b => befS a b = true) (fun a b c => zca_) (l := c) (m := c.length) (fun j hj x hx => (h' j x hx).2.1)
            rwa [List.take_length] at this
          · obtain ⟨i, hi⟩ := List.getElem?_of_mem hs
            exact (h' i s hi).2.2
        · intro h i hi
          rw [List.mem_range] at hi
          exact (z2f_ (List.getElem?_eq_getElem hi)).2 ⟨h.simp _ (List.getElem_mem hi), zjy_ h.ord (List.getElem?_eq_getElem hi), h.face _ (List.getElem_mem hi)⟩
      by_cases q : CxP c
      · rw [if_pos (e.2 q), z4l_.2 q]
      · rw [if_neg (fun h => q (e.1 h))]
        congr 1
        symm
        rw [Bool.eq_false_iff, ne_eq, z4l_]; exact q
    · intro n i hi
      have hlt : (i : Int) < (c.length : Int) := by omega
      have hw := ze_ (i := i) (by omega)
      have hg : c[i]? = some c[i] := List.getElem?_eq_getElem hi
      have hsl := hce c[i] (List.getElem_mem hi)
      have hin : z54_ k k c (i : Int) c[i] 0 (fun c_5 i_6 => z47_ k n c_5 (z0_ (i_6 + 1)) (some true)) = if (∀ k, 1 < (c[i]).length → k < (c[i]).length → z1h_ c[i] k ∈ c) then z47_ k n c ((i + 1 : Nat) : Int) (some true) else some false := by
        by_cases h1 : 1 < (c[i]).length
        · have := z46_ (L := fun m j => z54_ k m c (i : Int) c[i] j (fun c_5 i_6 => z47_ k n c_5 (z0_ (i_6 + 1)) (some true))) (b := (c[i]).length) (p := fun j => decide (z1h_ c[i] j ∈ c)) (r := some false) (e := z47_ k n c ((i + 1 : Nat) : Int) (some true)) ?_ ?_ (n := k) (by omega)
          · rw [this]
            simp only [List.all_eq_true, List.mem_range, decide_eq_true_eq]
            by_cases q : ∀ j, j < (c[i]).length → z1h_ c[i] j ∈ c
            · rw [if_pos q, if_pos (fun j _ hj => q j hj)]
            · rw [if_neg q, if_neg (fun h => q fun j hj => h j h1 hj)]
          · intro m j hj
            have hjlt : (j : Int) < ((c[i]).length : Int) := by omega
            have hw2 := ze_ (i := j) (by omega)
            simp only [z54_, hjlt, decide_true, if_true, decide_eq_true (show (1 : Int) < ((c[i]).length : Int) by omega), znz_ hsl hj, Option.bind_some, zo0_ hk ⟨hcl, hce⟩, zo1_, hw2]
            by_cases q : z1h_ c[i] j ∈ c
            · rw [decide_eq_true q]; simp
            · rw [decide_eq_false q]; simp
          · intro m
            simp only [z54_, Int.lt_irrefl, decide_false, Bool.false_eq_true, if_false, hw]
        · rw [if_pos (fun j h => absurd h h1)]
          obtain ⟨m, hm⟩ : ∃ m, k = m + 1 := ⟨k - 1, by omega⟩
          have hn1 : ¬ (1 : Int) < ((c[i]).length : Int) := by omega
          conv => lhs; arg 2; rw [hm]
          simp only [z54_, hn1, decide_false, Bool.false_eq_true, if_false, hw]
          split <;> rfl
      simp only [z47_, hlt, decide_true, if_true, Int.natCast_nonneg, Int.toNat_natCast, hg, Option.bind_some, ztr_ hk (show (c[i]).length ≤ 1000000000 by omega)]
      cases hsb : z6a_ c[i] with
      | false =>
        have : ¬ cxAt c c i = true := fun h => by
          have := z6b_.2 ((z2f_ hg).1 h).1
          rw [hsb] at this; cases this
        rw [if_neg this]; simp
      | true =>
        have hsp := z6b_.1 hsb
        simp only [Bool.not_true, Bool.false_eq_true, if_false]
        by_cases h0 : 0 < i
        · have h0' : (0 : Int) < (i : Int) := by omega
          have hw1 : z0_ ((i : Int) - 1) = ((i - 1 : Nat) : Int) := by rw [w_id (by omega) (by omega)]; omega
          have hg1 : c[i - 1]? = some c[i - 1] := List.getElem?_eq_getElem (by omega)
          have hpl := hce c[i - 1] (List.getElem_mem (by omega))
          simp only [h0', decide_true, if_true, hw1, Int.natCast_nonneg, Int.toNat_natCast, hg1, Option.bind_some, zu2_ hk (show (c[i - 1]).length ≤ 1000000000 by omega)]
          cases hbf : befS c[i - 1] c[i] with
          | false =>
            have : ¬ cxAt c c i = true := fun h => by
              have : befS c[i - 1] c[i] = true := ((z2f_ hg).1 h).2.1 h0 _ hg1
              rw [hbf] at this; cases this
            rw [if_neg this]; simp
          | true =>
            simp only [Bool.not_true, Bool.false_eq_true, if_false, hin]
            by_cases q : ∀ k, 1 < (c[i]).length → k < (c[i]).length → z1h_ c[i] k ∈ c
            · rw [if_pos q, if_pos ((z2f_ hg).2 ⟨hsp, fun _ t ht => by rw [hg1] at ht; cases ht; exact hbf, fun a b => q b a⟩)]
            · rw [if_neg q, if_neg (fun h => q fun b a => ((z2f_ hg).1 h).2.2 a b)]
        · have h0' : ¬ (0 : Int) < (i : Int) := by omega
          simp only [h0', decide_false, Bool.false_eq_true, if_false, hin]
          by_cases q : ∀ k, 1 < (c[i]).length → k < (c[i]).length → z1h_ c[i] k ∈ c
          · rw [if_pos q, if_pos ((z2f_ hg).2 ⟨hsp, fun h => absurd h h0, fun a b => q b a⟩)]
          · rw [if_neg q, if_neg (fun h => q fun b a => ((z2f_ hg).1 h).2.2 a b)]
    · intro n
      simp only [z47_, Int.lt_irrefl, decide_false, Bool.false_eq_true, if_false]
  · rw [decide_eq_true (by omega), if_pos rfl]
    congr 1
    symm
    rw [Bool.eq_false_iff, ne_eq, z4l_]
    exact fun h => h48 h.len
theorem zu9_ {c : Cx} (hc : z1k_ c) (i : Nat) : z1k_ (c.take i) := ⟨by rw [List.length_take]; have := hc.1; omega, fun s hs => hc.2 s (List.mem_of_mem_take hs)⟩
theorem zua_ {k : Nat} (hk : KK ≤ k) {c : Cx} (hc : z1k_ c) {i : Nat} (hi : i ≤ c.length) (hs : (c.take i).Pairwise (fun a b => befS a b = true)) {s : List Int} (hsl : s.length ≤ 1048576) : zc7_ k (z1c_ s) (c, (i : Int)) = some ((z1c_ s).any fun f => !decide (f ∈ c.take i)) := by
  have hK := zg_
  have hcl := hc.1
  have hfl : (z1c_ s).length ≤ 1048576 := by
    unfold z1c_
    split
    · rw [List.length_map, List.length_range]; exact hsl
    · simp
  unfold zc7_ zjd_
  rw [z3i_ (L := fun n j => za5_ k n (z1c_ s) (c, (i : Int)) ((z1c_ s).length : Int) j (some (-1))) (p := fun f => !decide (f ∈ c.take i)) (z1c_ s) ?_ ?_ (n := k) (by omega)]
  · rw [Option.bind_some, z3v_]
  · intro n j f hj hlt
    have hw := ze_ (i := j) (by omega)
    have hf : f.length ≤ 1048576 := by
      obtain ⟨_, q, hq, rfl⟩ := zcb_.1 (List.mem_of_getElem? hj)
      rw [zgl_ hq]; omega
    have b1 : (i : Int) ≤ (c.length : Int) := by omega
    simp only [za5_, zjc_, hlt, decide_true, if_true, Int.natCast_nonneg, Int.le_refl, b1, and_self, Int.toNat_natCast, hj, Option.bind_some, zo5_ hk (zu9_ hc i) hs hf, zo1_, hw]
  · intro n
    simp [za5_]
theorem zgm_ {s : List Int} {d : Cx} : ((z1c_ s).any fun f => !decide (f ∈ d)) = false ↔ (1 < s.length → ∀ k, k < s.length → z1h_ s k ∈ d) := by
  rw [List.any_eq_false]
  constructor
  · intro h h1 k hk
    have := h _ (zcb_.2 ⟨h1, k, hk, rfl⟩)
    simpa using this
  · intro h f hf
    obtain ⟨h1, k, hk, rfl⟩ := zcb_.1 hf
    simpa using h h1 k hk
theorem zk2_ {k : Nat} (hk : KK ≤ k) {c : Cx} (hc : z1k_ c) : z8z_ k c = some (cxB c) := by
  have hK := zg_
  obtain ⟨hcl, hce⟩ := hc
  unfold z8z_
  have := ztp_ (L := fun n i => z7h_ k n c (c.length : Int) i c (fun v_9 => some (decide ((List.length v_9 : Int) ≤ 48)))) (b := c.length) (p := fun i => cxAt c (c.take i) i) (r := some false) (e := some (decide (c.length ≤ 48))) ?_ ?_ (n := k) (by omega)
  · rw [this]
    have e : ((List.range c.length).all (fun i => cxAt c (c.take i) i) = true ∧ c.length ≤ 48) ↔ CxP c := by
      rw [List.all_eq_true]
      constructor
      · rintro ⟨h, h48⟩
        have h' : ∀ i s, c[i]? = some s → SimpP s ∧ z49_ (fun a b => befS a b = true) c i s ∧ (1 < s.length → ∀ k, k < s.length → z1h_ s k ∈ c.take i) := fun i s hs => (z2f_ hs).1 (h i (List.mem_range.2 (List.getElem?_eq_some_iff.1 hs).1))
        refine ⟨h48, fun s hs => ?_, ?_, fun s hs h1 k hk => ?_⟩
        · obtain ⟨i, hi⟩ := List.getElem?_of_mem hs
          exact (h' i s hi).1
        · have := zgi_ (R := fun a b => befS a b = true) (fun a b c => zca_) (l := c) (m := c.length) (fun j hj x hx => (h' j x hx).2.1)
          rwa [List.take_length] at this
        · obtain ⟨i, hi⟩ := List.getElem?_of_mem hs
          exact List.mem_of_mem_take ((h' i s hi).2.2 h1 k hk)
      · intro h
        refine ⟨fun i hi => ?_, h.len⟩
        rw [List.mem_range] at hi
        have hg : c[i]? = some c[i] := List.getElem?_eq_getElem hi
        refine (z2f_ hg).2 ⟨h.simp _ (List.getElem_mem hi), zjy_ h.ord hg, fun h1 k hk => ?_⟩
        have hm := h.face _ (List.getElem_mem hi) h1 k hk
        obtain ⟨j, hj⟩ := List.getElem?_of_mem hm
        obtain ⟨hjl, hje⟩ := List.getElem?_eq_some_iff.1 hj
        have hji : j < i := by
          by_cases q : j < i
          · exact q
          · have hb : befS (z1h_ c[i] k) c[i] = true := by
              unfold befS
              rw [zgl_ hk, decide_eq_true (by omega)]; rfl
            by_cases q2 : j = i
            · subst q2
              have := zgj_ c[j]
              rw [← hje, zgj_] at hb; cases hb
            · have h3 := List.pairwise_iff_getElem.1 h.ord i j hi hjl (by omega)
              rw [hje, ztz_ hb] at h3; cases h3
        rw [List.mem_take_iff_getElem]
        exact ⟨j, by omega, hje⟩
    by_cases q : CxP c
    · obtain ⟨q1, q2⟩ := e.2 q
      rw [if_pos q1, decide_eq_true q2, z4l_.2 q]
    · have : cxB c = false := by rw [Bool.eq_false_iff, ne_eq, z4l_]; exact q
      rw [this]
      by_cases q1 : (List.range c.length).all (fun i => cxAt c (c.take i) i) = true
      · rw [if_pos q1, decide_eq_false (fun q2 => q (e.1 ⟨q1, q2⟩))]
      · rw [if_neg q1]
  · intro n i hi hpre
    have hlt : (i : Int) < (c.length : Int) := by omega
    have hw := ze_ (i := i) (by omega)
    have hg : c[i]? = some c[i] := List.getElem?_eq_getElem hi
    have hsl := hce c[i] (List.getElem_mem hi)
    have hsorted : (c.take i).Pairwise (fun a b => befS a b = true) := zgi_ (R := fun a b => befS a b = true) (fun a b c => zca_) (fun j hj x hx => ((z2f_ hx).1 (hpre j hj)).2.1)
    simp only [z7h_, hlt, decide_true, if_true, Int.natCast_nonneg, Int.toNat_natCast, hg, Option.bind_some, ztu_ hk (show (c[i]).length ≤ 1000000000 by omega), zo2_ hk hsl, zua_ hk ⟨hcl, hce⟩ (Nat.le_of_lt hi) hsorted hsl, hw]
    cases hsb : z6a_ c[i] with
    | false =>
      have : ¬ cxAt c (c.take i) i = true := fun h => by
        have := z6b_.2 ((z2f_ hg).1 h).1
        rw [hsb] at this; cases this
      rw [if_neg this]; simp
    | true =>
      have hsp := z6b_.1 hsb
      simp only [Bool.not_true, Bool.false_eq_true, if_false]
      by_cases h0 : 0 < i
      · have h0' : (0 : Int) < (i : Int) := by omega
        have hw1 : z0_ ((i : Int) - 1) = ((i - 1 : Nat) : Int) := by rw [w_id (by omega) (by omega)]; omega
        have hg1 : c[i - 1]? = some c[i - 1] := List.getElem?_eq_getElem (by omega)
        have hpl := hce c[i - 1] (List.getElem_mem (by omega))
        simp only [h0', decide_true, if_true, hw1, Int.natCast_nonneg, Int.toNat_natCast, hg1, Option.bind_some, zgk_ hk (show (c[i - 1]).length ≤ 1000000000 by omega) (show (c[i]).length ≤ 1000000000 by omega), zu0_]
        cases hbf : befS c[i - 1] c[i] with
        | false =>
          have : ¬ cxAt c (c.take i) i = true := fun h => by
            have : befS c[i - 1] c[i] = true := ((z2f_ hg).1 h).2.1 h0 _ hg1
            rw [hbf] at this; cases this
          rw [if_neg this]; simp
        | true =>
          simp only [Bool.not_true, Bool.false_eq_true, if_false]
          cases hq : (z1c_ c[i]).any fun f => !decide (f ∈ c.take i) with
          | false =>
            rw [if_neg (by simp), if_pos ((z2f_ hg).2 ⟨hsp, fun _ t ht => by rw [hg1] at ht; cases ht; exact hbf, zgm_.1 hq⟩)]
          | true =>
            rw [if_pos rfl, if_neg (fun h => by rw [zgm_.2 ((z2f_ hg).1 h).2.2] at hq; cases hq)]
      · have h0' : ¬ (0 : Int) < (i : Int) := by omega
        simp only [h0', decide_false, Bool.false_eq_true, if_false]
        cases hq : (z1c_ c[i]).any fun f => !decide (f ∈ c.take i) with
        | false =>
          rw [if_neg (by simp), if_pos ((z2f_ hg).2 ⟨hsp, fun h => absurd h h0, zgm_.1 hq⟩)]
        | true =>
          rw [if_pos rfl, if_neg (fun h => by rw [zgm_.2 ((z2f_ hg).1 h).2.2] at hq; cases hq)]
  · intro n
    have e2 : decide ((c.length : Int) ≤ 48) = decide (c.length ≤ 48) := decide_eq_decide.2 (by omega)
    simp only [z7h_, Int.lt_irrefl, decide_false, Bool.false_eq_true, if_false, e2]
theorem zo7_ {k : Nat} {p : Int} (hp : p ≤ 251) : ∀ (m d n : Nat), 17 - d ≤ m → 2 ≤ d → m < n → d ≤ 17 → ∃ b, z55_ k n p (d : Int) (some true) = some b ∧ z57_ k n p (d : Int) (some true) = some b
  | m, d, 0, _, _, h, _ => by omega
  | 0, d, n + 1, h, h2, _, h4 => by
    have hd : d = 17 := by omega
    subst hd
    have w1 : z0_ (((17 : Nat) : Int) * ((17 : Nat) : Int)) = 289 := by rw [w_id (by omega) (by omega)]; rfl
    have hc : ¬ ((289 : Int) ≤ p) := by omega
    refine ⟨true, ?_, ?_⟩
    · unfold z55_; rw [w1, decide_eq_false hc, if_neg (by simp)]
    · unfold z57_; rw [w1, decide_eq_false hc, if_neg (by simp)]
  | m + 1, d, n + 1, h, h2, hn, h4 => by
    by_cases hc : z0_ ((d : Int) * (d : Int)) ≤ p
    · have hd0 : ¬ ((d : Int) = 0) := by omega
      have hw := ze_ (i := d) (by omega)
      by_cases hm : Int.tmod p (d : Int) = 0
      · refine ⟨false, ?_, ?_⟩
        · unfold z55_; rw [decide_eq_true hc, if_pos rfl, if_neg hd0, decide_eq_true hm, if_pos rfl]
        · unfold z57_; rw [decide_eq_true hc, if_pos rfl, if_neg hd0, decide_eq_true hm, if_pos rfl]
      · by_cases h17 : d = 17
        · subst h17
          have w1 : z0_ (((17 : Nat) : Int) * ((17 : Nat) : Int)) = 289 := by rw [w_id (by omega) (by omega)]; rfl
          rw [w1] at hc; omega
        · obtain ⟨b, h5, h6⟩ := zo7_ (k := k) hp m (d + 1) n (by omega) (by omega) (by omega) (by omega)
          refine ⟨b, ?_, ?_⟩
          · rw [← h5]; conv => lhs; unfold z55_
            rw [decide_eq_true hc, if_pos rfl, if_neg hd0, decide_eq_false hm, if_neg (by simp), hw]
          · rw [← h6]; conv => lhs; unfold z57_
            rw [decide_eq_true hc, if_pos rfl, if_neg hd0, decide_eq_false hm, if_neg (by simp), hw]
    · refine ⟨true, ?_, ?_⟩
      · unfold z55_; rw [decide_eq_false hc, if_neg (by simp)]
      · unfold z57_; rw [decide_eq_false hc, if_neg (by simp)]
theorem zo8_ {k : Nat} (hk : KK ≤ k) (p : Int) : ∃ b, z70_ k p = some b ∧ za7_ k p = some b ∧ (b = true → 2 ≤ p ∧ p ≤ 251) := by
  have hK := zg_
  unfold z70_ zj0_ za7_
  rw [zc9_, zal_]
  by_cases h : 2 ≤ p ∧ p ≤ 251
  · obtain ⟨b, h1, h2⟩ := zo7_ (k := k) (p := p) h.2 15 2 k (by omega) (by omega) (by omega) (by omega)
    have h1 : z55_ k k p 2 (some true) = some b := h1
    have h2 : z57_ k k p 2 (some true) = some b := h2
    refine ⟨b, ?_, ?_, fun _ => h⟩
    · simp [h, h1]
    · simp [h, h2]
  · exact ⟨false, by simp [h], by simp [h], fun h => by cases h⟩
abbrev Mat := Int × Int × Int × List Int
theorem zo9_ {k : Nat} (hk : KK ≤ k) {v : List Int} (hv : v.length ≤ 1048576) (n : Int) {p : Int} (hp : -1000000 ≤ p ∧ p ≤ 1000000) : zby_ k v n p = some (v.all (fun x => decide (0 ≤ x ∧ x ≤ p - 1)) && decide ((v.length : Int) = n)) := by
  have hK := zg_
  have hw1 : z0_ (p - 1) = p - 1 := w_id (by omega) (by omega)
  unfold zby_
  have := z8j_ (L := fun m i => z9m_ k m v n p i (fun v_3 n_4 => some (decide ((List.length v_3 : Int) = n_4)))) (p := fun x => decide (0 ≤ x ∧ x ≤ p - 1)) (r := some false) (e := some (decide ((v.length : Int) = n))) v ?_ ?_ (n := k) (by omega)
  · refine this.trans ?_
    cases v.all (fun x => decide (0 ≤ x ∧ x ≤ p - 1)) <;> simp
  · intro m i x hx hlt
    have hw := ze_ (i := i) (by omega)
    simp only [z9m_, hlt, decide_true, if_true, Int.natCast_nonneg, Int.toNat_natCast, hx, Option.bind_some, zc9_, hw1, hw]
    by_cases c : 0 ≤ x ∧ x ≤ p - 1 <;> simp [c]
  · intro m
    simp only [z9m_, Int.lt_irrefl, decide_false, Bool.false_eq_true, if_false]
theorem zub_ {k : Nat} (hk : KK ≤ k) {v : List Int} (hv : v.length ≤ 1048576) {p : Int} (hp : -1000000 ≤ p ∧ p ≤ 1000000) : zg7_ k v p = some (v.all (fun x => decide (0 ≤ x ∧ x ≤ p - 1))) := by
  have hK := zg_
  have hw1 : z0_ (p - 1) = p - 1 := w_id (by omega) (by omega)
  unfold zg7_ zjl_ zjk_
  rw [z3i_ (L := fun n i => zae_ k n v p (v.length : Int) i (some (-1))) (p := fun x => !decide (0 ≤ x ∧ x ≤ p - 1)) v ?_ ?_ (n := k) (by omega)]
  · simp only [Option.bind_some, z3v_]
    congr 1
    rw [← List.not_all_eq_any_not, Bool.not_not]
  · intro n i x hi hlt
    have hw := ze_ (i := i) (by omega)
    simp only [zae_, zjj_, zji_, zal_, hw1, hlt, decide_true, if_true, Int.natCast_nonneg, Int.toNat_natCast, hi, Option.bind_some, hw]
  · intro n
    simp [zae_]
structure MatP (m : Mat) (R C : Nat) : Prop where
  rows : m.2.1 = (R : Int)
  cols : m.2.2.1 = (C : Int)
  r32 : R ≤ 32
  c32 : C ≤ 32
  len : m.2.2.2.length = R * C
  prime : 2 ≤ m.1 ∧ m.1 ≤ 251
  cells : ∀ x ∈ m.2.2.2, 0 ≤ x ∧ x ≤ 250
theorem zuc_ {k : Nat} (hk : KK ≤ k) {m : Mat} (hv : m.2.2.2.length ≤ 1048576) : ∃ b, z9q_ k m = some b ∧ zc8_ k m = some b ∧ (b = true → ∃ R C, MatP m R C) := by
  obtain ⟨b, h1, h2, h3⟩ := zo8_ hk m.1
  unfold z9q_ zc8_ zg6_ za9_
  rw [h1, h2]
  cases b
  · exact ⟨false, by simp, by simp, fun h => by cases h⟩
  · have hp := h3 rfl
    simp only [Option.bind_some, if_true, zc9_, zal_, zo9_ hk hv _ (show -1000000 ≤ m.1 ∧ m.1 ≤ 1000000 by omega), zub_ hk hv (show -1000000 ≤ m.1 ∧ m.1 ≤ 1000000 by omega)]
    by_cases c1 : 0 ≤ m.2.1 ∧ m.2.1 ≤ 32
    · by_cases c2 : 0 ≤ m.2.2.1 ∧ m.2.2.1 ≤ 32
      · rw [decide_eq_true c1, decide_eq_true c2, if_pos rfl, if_pos rfl, if_pos rfl, if_pos rfl]
        obtain ⟨R, hR⟩ := Int.eq_ofNat_of_zero_le c1.1
        obtain ⟨C, hC⟩ := Int.eq_ofNat_of_zero_le c2.1
        have hRC : R * C ≤ 32 * 32 := Nat.mul_le_mul (by omega) (by omega)
        have hw : z0_ (m.2.1 * m.2.2.1) = ((R * C : Nat) : Int) := by
          rw [hR, hC, ← Int.natCast_mul]
          exact w_id (by omega) (by omega)
        rw [hw]
        refine ⟨m.2.2.2.all (fun x => decide (0 ≤ x ∧ x ≤ m.1 - 1)) && decide ((m.2.2.2.length : Int) = ((R * C : Nat) : Int)), rfl, ?_, fun h => ?_⟩
        · by_cases c3 : (m.2.2.2.length : Int) = ((R * C : Nat) : Int)
          · rw [decide_eq_true c3, if_pos rfl, Bool.and_true]
          · rw [decide_eq_false c3, if_neg (by simp), Bool.and_false]
        · simp only [Bool.and_eq_true, List.all_eq_true, decide_eq_true_eq] at h
          refine ⟨R, C, hR, hC, by omega, by omega, by omega, hp, fun x hx => ?_⟩
          have := h.1 x hx
          omega
      · exact ⟨false, by simp [c1, c2], by simp [c1, c2], fun h => by cases h⟩
    · exact ⟨false, by simp [c1], by simp [c1], fun h => by cases h⟩
abbrev She := Cx × Int × List Int × List Mat
def ofC (c : Cx) (d : Int) : List Nat := (List.range c.length).filter fun i => match c[i]? with | some s => decide ((s.length : Int) = d + 1) | none => false
theorem zgn_ {c : Cx} {d : Int} {i : Nat} (h : i ∈ ofC c d) : i < c.length := List.mem_range.1 (List.mem_filter.1 h).1
theorem zoa_ (c : Cx) (d : Int) : (ofC c d).length ≤ c.length := by
  unfold ofC
  exact Nat.le_trans (List.length_filter_le ..) (by rw [List.length_range]; exact Nat.le_refl _)
theorem zgo_ (f : Nat → Bool) (n : Nat) : (List.range (n + 1)).filter f = (List.range n).filter f ++ (if f n = true then [n] else []) := by
  rw [List.range_succ, List.filter_append, List.filter_cons, List.filter_nil]
theorem zud_ {k : Nat} (hk : KK ≤ k) {c : Cx} (hc : z1k_ c) {d : Int} (hd : -1000 ≤ d ∧ d ≤ 1000) : zf8_ k c d = some ((ofC c d).map fun i : Nat => (i : Int)) := by
  have hK := zg_
  have hL := zy_
  obtain ⟨hcl, hce⟩ := hc
  have hwd : z0_ (d + 1) = d + 1 := w_id (by omega) (by omega)
  unfold zf8_
  have := zq_ (α := List Int) (A := List Int) (L := fun n i q => z71_ k n c d i q (fun q_4 => some q_4)) (I := fun pre q => q = ((List.range pre.length).filter fun i => match c[i]? with | some s => decide ((s.length : Int) = d + 1) | none => false).map fun i : Nat => (i : Int)) (G := fun _ _ => some ((ofC c d).map fun i : Nat => (i : Int))) c ?_ ?_ k (by omega) [] (by simp)
  · exact this
  · intro n pre x post q hx hq ih hg hlt
    have hw := ze_ (i := pre.length) (by omega)
    have hql : q.length ≤ pre.length := by rw [hq, List.length_map]; exact Nat.le_trans (List.length_filter_le ..) (by rw [List.length_range]; exact Nat.le_refl _)
    have hlim : (q.length + 1) * 8 ≤ LIM := by omega
    simp only [z71_, hlt, decide_true, if_true, Int.natCast_nonneg, Int.toNat_natCast, hg, Option.bind_some, hw, hwd, List.length_singleton, hlim]
    by_cases hb : (x.length : Int) = d + 1
    · rw [decide_eq_true hb, if_pos rfl]
      refine ih _ ?_
      rw [List.length_append, List.length_singleton, zgo_, hg]
      simp only [hb, decide_true, if_true, List.map_append, hq, List.map_cons, List.map_nil]
    · rw [decide_eq_false hb, if_neg (by simp)]
      refine ih _ ?_
      rw [List.length_append, List.length_singleton, zgo_, hg]
      simp only [hb, decide_false, Bool.false_eq_true, if_false, List.append_nil, hq]
  · intro n q hq
    simp only [z71_, Int.lt_irrefl, decide_false, Bool.false_eq_true, if_false, hq]
    rfl
theorem zue_ {k : Nat} (hk : KK ≤ k) {c : Cx} (hc : z1k_ c) {d : Int} (hd : -1000 ≤ d ∧ d ≤ 1000) : zg2_ k c d = some ((ofC c d).map fun i : Nat => (i : Int)) := by
  have hK := zg_
  have hL := zy_
  obtain ⟨hcl, hce⟩ := hc
  have hwd : z0_ (d + 1) = d + 1 := w_id (by omega) (by omega)
  unfold zg2_
  have := zq_ (α := List Int) (A := List Int) (L := fun n i q => z7i_ k n d c (c.length : Int) i q (fun q_4 => some q_4)) (I := fun pre q => q = ((List.range pre.length).filter fun i => match c[i]? with | some s => decide ((s.length : Int) = d + 1) | none => false).map fun i : Nat => (i : Int)) (G := fun _ _ => some ((ofC c d).map fun i : Nat => (i : Int))) c ?_ ?_ k (by omega) [] (by simp)
  · exact this
  · intro n pre x post q hx hq ih hg hlt
    have hw := ze_ (i := pre.length) (by omega)
    have hql : q.length ≤ pre.length := by rw [hq, List.length_map]; exact Nat.le_trans (List.length_filter_le ..) (by rw [List.length_range]; exact Nat.le_refl _)
    have hlim : (q.length + 1) * 8 ≤ LIM := by omega
    simp only [z7i_, za9_, hlt, decide_true, if_true, Int.natCast_nonneg, Int.toNat_natCast, hg, Option.bind_some, hw, hwd, List.length_singleton, hlim]
    by_cases hb : (x.length : Int) = d + 1
    · rw [decide_eq_true hb, if_pos rfl]
      refine ih _ ?_
      rw [List.length_append, List.length_singleton, zgo_, hg]
      simp only [hb, decide_true, if_true, List.map_append, hq, List.map_cons, List.map_nil]
    · rw [decide_eq_false hb, if_neg (by simp)]
      refine ih _ ?_
      rw [List.length_append, List.length_singleton, zgo_, hg]
      simp only [hb, decide_false, Bool.false_eq_true, if_false, List.append_nil, hq]
  · intro n q hq
    simp only [z7i_, Int.lt_irrefl, decide_false, Bool.false_eq_true, if_false, hq]
    rfl
structure StP (c : Cx) (st : List Int) : Prop where
  len : st.length = c.length
  val : ∀ x ∈ st, 0 ≤ x ∧ x ≤ 3
def z1o_ (st : List Int) (l : List Nat) : Int := (l.map fun i => st.getD i 0).sum
theorem zob_ (st : List Int) (l : List Nat) (i : Nat) : z1o_ st (l ++ [i]) = z1o_ st l + st.getD i 0 := by unfold z1o_; simp
theorem z7s_ {c : Cx} {st : List Int} (h : StP c st) {i : Nat} (hi : i < c.length) : st[i]? = some (st.getD i 0) ∧ 0 ≤ st.getD i 0 ∧ st.getD i 0 ≤ 3 := by
  have hl : i < st.length := by rw [h.len]; exact hi
  have e : st.getD i 0 = st[i] := by rw [List.getD_eq_getElem?_getD, List.getElem?_eq_getElem hl]; rfl
  rw [e]
  exact ⟨List.getElem?_eq_getElem hl, h.val _ (List.getElem_mem hl)⟩
theorem zk3_ {c : Cx} {st : List Int} (h : StP c st) : ∀ (l : List Nat), (∀ i ∈ l, i < c.length) → 0 ≤ z1o_ st l ∧ z1o_ st l ≤ 3 * l.length
  | [], _ => by simp [z1o_]
  | i :: l, hl => by
    have ih := zk3_ h l (fun j hj => hl j (by simp [hj]))
    have := z7s_ h (hl i (by simp))
    have e : z1o_ st (i :: l) = st.getD i 0 + z1o_ st l := by unfold z1o_; simp
    rw [e, List.length_cons]
    omega
theorem zuf_ {k : Nat} (hk : KK ≤ k) {c : Cx} (hc : z1k_ c) {st : List Int} (h : StP c st) {d : Int} (hd : -1000 ≤ d ∧ d ≤ 1000) : zf9_ k c st d = some (z1o_ st (ofC c d)) := by
  have hK := zg_
  have hol := zoa_ c d
  have hcl := hc.1
  unfold zf9_
  rw [zud_ hk hc hd]
  simp only [Option.bind_some]
  have := zq_ (α := Nat) (A := Int) (L := fun n i z => z9n_ k n st z i ((ofC c d).map fun i : Nat => (i : Int)) (fun z => some z)) (I := fun pre z => z = z1o_ st pre) (G := fun _ _ => some (z1o_ st (ofC c d))) (ofC c d) ?_ ?_ k (by omega) 0 rfl
  · exact this
  · intro n pre x post z hx hz ih hg hlt
    have hw := ze_ (i := pre.length) (by omega)
    have hxc : x < c.length := zgn_ (by rw [hx]; simp : x ∈ ofC c d)
    have hF : ((ofC c d).map fun i : Nat => (i : Int))[pre.length]? = some (x : Int) := by rw [List.getElem?_map, hg]; rfl
    have hpl : pre.length < (ofC c d).length := by omega
    obtain ⟨s1, s2, s3⟩ := z7s_ h hxc
    have hb := zk3_ h pre (fun j hj => zgn_ (by rw [hx]; simp [hj] : j ∈ ofC c d))
    have hwz : z0_ (z + st.getD x 0) = z + st.getD x 0 := w_id (by omega) (by omega)
    simp only [z9n_, List.length_map, hlt, hpl, decide_true, if_true, Int.natCast_nonneg, Int.toNat_natCast, and_self, hF, s1, Option.bind_some, hw, hwz]
    exact ih _ (by rw [zob_, hz])
  · intro n z hz
    simp only [z9n_, List.length_map, Int.lt_irrefl, decide_false, Bool.false_eq_true, if_false, hz]
theorem zug_ {k : Nat} (hk : KK ≤ k) {s : She} (hc : z1k_ s.1) (h : StP s.1 s.2.2.1) {d : Int} (hd : -1000 ≤ d ∧ d ≤ 1000) : zg3_ k s d = some (z1o_ s.2.2.1 (ofC s.1 d)) := by
  have hK := zg_
  have hol := zoa_ s.1 d
  have hcl := hc.1
  unfold zg3_
  rw [zue_ hk hc hd]
  simp only [Option.bind_some, List.length_map]
  have := zq_ (α := Nat) (A := Int) (L := fun n i z => zaa_ k n z ((ofC s.1 d).length : Int) i ((ofC s.1 d).map fun i : Nat => (i : Int)) s (fun z => some z)) (I := fun pre z => z = z1o_ s.2.2.1 pre) (G := fun _ _ => some (z1o_ s.2.2.1 (ofC s.1 d))) (ofC s.1 d) ?_ ?_ k (by omega) 0 rfl
  · exact this
  · intro n pre x post z hx hz ih hg hlt
    have hw := ze_ (i := pre.length) (by omega)
    have hxc : x < s.1.length := zgn_ (by rw [hx]; simp : x ∈ ofC s.1 d)
    have hF : ((ofC s.1 d).map fun i : Nat => (i : Int))[pre.length]? = some (x : Int) := by rw [List.getElem?_map, hg]; rfl
    have hpl : pre.length < (ofC s.1 d).length := by omega
    obtain ⟨s1, s2, s3⟩ := z7s_ h hxc
    have hb := zk3_ h pre (fun j hj => zgn_ (by rw [hx]; simp [hj] : j ∈ ofC s.1 d))
    have hwz : z0_ (z + s.2.2.1.getD x 0) = z + s.2.2.1.getD x 0 := w_id (by omega) (by omega)
    simp only [zaa_, List.length_map, hlt, hpl, decide_true, if_true, Int.natCast_nonneg, Int.toNat_natCast, and_self, hF, s1, Option.bind_some, hw, hwz]
    exact ih _ (by rw [zob_, hz])
  · intro n z hz
    simp only [zaa_, Int.lt_irrefl, decide_false, Bool.false_eq_true, if_false, hz]
noncomputable instance stP_dec (c : Cx) (st : List Int) : Decidable (StP c st) := Classical.propDecidable _
noncomputable def stB (c : Cx) (st : List Int) : Bool := decide (StP c st) && (List.range 4).all fun d => decide (z1o_ st (ofC c (d : Int)) ≤ 32)
theorem zk4_ {c : Cx} {st : List Int} (h : stB c st = true) : StP c st := by
  unfold stB at h
  rw [Bool.and_eq_true, decide_eq_true_eq] at h
  exact h.1
theorem zoc_ {c : Cx} {st : List Int} : (st.all (fun x => decide (0 ≤ x ∧ x ≤ 4 - 1)) && decide ((st.length : Int) = (c.length : Int))) = true ↔ StP c st := by
  simp only [Bool.and_eq_true, List.all_eq_true, decide_eq_true_eq]
  exact ⟨fun h => ⟨by omega, fun x hx => by have := h.1 x hx; omega⟩, fun h => ⟨fun x hx => by have := h.val x hx; omega, by have := h.len; omega⟩⟩
theorem zuh_ {k : Nat} (hk : KK ≤ k) {c : Cx} (hc : z1k_ c) {st : List Int} (hs : st.length ≤ 1048576) : zfa_ k c st = some (stB c st) := by
  have hK := zg_
  unfold zfa_
  rw [zo9_ hk hs _ (by omega)]
  simp only [Option.bind_some]
  by_cases h : StP c st
  · rw [zoc_.2 h]
    simp only [Bool.not_true, Bool.false_eq_true, if_false]
    have := z46_ (L := fun n i => z9o_ k n c st i (some true)) (b := 4) (p := fun d : Nat => decide (z1o_ st (ofC c (d : Int)) ≤ 32)) (r := some false) (e := some true) ?_ ?_ (n := k) (by omega)
    · rw [this]
      unfold stB
      rw [decide_eq_true h, Bool.true_and]
      cases (List.range 4).all fun d => decide (z1o_ st (ofC c (d : Int)) ≤ 32) <;> rfl
    · intro n i hi
      have hlt : (i : Int) ≤ 3 := by omega
      have hw := ze_ (i := i) (by omega)
      simp only [z9o_, hlt, decide_true, if_true, zuf_ hk hc h (d := (i : Int)) (by omega), Option.bind_some, hw]
      by_cases c1 : z1o_ st (ofC c (i : Int)) ≤ 32
      · rw [decide_eq_true c1, decide_eq_false (by omega), if_neg (by simp), if_pos rfl]
      · rw [decide_eq_false c1, decide_eq_true (by omega), if_pos rfl, if_neg (by simp)]
    · intro n
      have : ¬ (((4 : Nat) : Int) ≤ 3) := by omega
      simp only [z9o_, this, decide_false, Bool.false_eq_true, if_false]
  · have h2 : (st.all (fun x => decide (0 ≤ x ∧ x ≤ 4 - 1)) && decide ((st.length : Int) = (c.length : Int))) = false := by rw [Bool.eq_false_iff, ne_eq, zoc_]; exact h
    rw [h2, if_pos (by simp)]
    unfold stB
    rw [decide_eq_false h]; rfl
theorem zui_ {k : Nat} (hk : KK ≤ k) {c : Cx} (hc : z1k_ c) {st : List Int} (hs : st.length ≤ 1048576) : zg4_ k c st = some (stB c st) := by
  have hK := zg_
  have hcf : zg1_ k st () = some (st.any fun x => !decide (0 ≤ x ∧ x ≤ 3)) := by
    unfold zg1_ zjh_
    rw [z3i_ (L := fun n i => za8_ k n st () (st.length : Int) i (some (-1))) (p := fun x => !decide (0 ≤ x ∧ x ≤ 3)) st ?_ ?_ (n := k) (by omega)]
    · rw [Option.bind_some, z3v_]
    · intro n i x hi hlt
      have hw := ze_ (i := i) (by omega)
      simp only [za8_, zjg_, zal_, hlt, decide_true, if_true, Int.natCast_nonneg, Int.toNat_natCast, hi, Option.bind_some, hw]
    · intro n
      simp [za8_]
  unfold zg4_
  rw [hcf]
  simp only [Option.bind_some]
  by_cases hl : st.length = c.length
  · rw [decide_eq_true (show (st.length : Int) = (c.length : Int) by omega), if_neg (by simp)]
    by_cases hv : ∀ x ∈ st, 0 ≤ x ∧ x ≤ 3
    · have h : StP c st := ⟨hl, hv⟩
      have ha : (st.any fun x => !decide (0 ≤ x ∧ x ≤ 3)) = false := by
        rw [List.any_eq_false]; intro x hx; simp [hv x hx]
      rw [ha, if_neg (by simp)]
      have := z46_ (L := fun n i => zab_ k n st i c (some true)) (b := 4) (p := fun d : Nat => decide (z1o_ st (ofC c (d : Int)) ≤ 32)) (r := some false) (e := some true) ?_ ?_ (n := k) (by omega)
      · rw [this]
        unfold stB
        rw [decide_eq_true h, Bool.true_and]
        cases (List.range 4).all fun d => decide (z1o_ st (ofC c (d : Int)) ≤ 32) <;> rfl
      · intro n i hi
        have hlt : (i : Int) < 4 := by omega
        have hw := ze_ (i := i) (by omega)
        have hst := zug_ hk (s := (c, 0, st, [])) hc h (d := (i : Int)) (by omega)
        simp only at hst
        simp only [zab_, hlt, decide_true, if_true, hst, Option.bind_some, hw]
        by_cases c1 : z1o_ st (ofC c (i : Int)) ≤ 32
        · rw [decide_eq_true c1, decide_eq_false (by omega), if_neg (by simp), if_pos rfl]
        · rw [decide_eq_false c1, decide_eq_true (by omega), if_pos rfl, if_neg (by simp)]
      · intro n
        have : ¬ (((4 : Nat) : Int) < 4) := by omega
        simp only [zab_, this, decide_false, Bool.false_eq_true, if_false]
    · have ha : (st.any fun x => !decide (0 ≤ x ∧ x ≤ 3)) = true := by
        rw [List.any_eq_true]
        apply Classical.byContradiction
        intro hn
        apply hv
        intro x hx
        apply Classical.byContradiction
        intro hx2
        exact hn ⟨x, hx, by simp only [Bool.not_eq_true', decide_eq_false_iff_not]; exact hx2⟩
      rw [ha, if_pos rfl]
      unfold stB
      rw [decide_eq_false (fun h : StP c st => hv h.val)]; rfl
  · rw [decide_eq_false (show ¬ (st.length : Int) = (c.length : Int) by omega), if_pos (by simp)]
    unfold stB
    rw [decide_eq_false (fun h : StP c st => hl h.len)]; rfl
def zi_ (c : Cx) (s : List Int) : List Nat := (z1c_ s).map (posC c)
theorem zod_ (s : List Int) : (z1c_ s).length = if 1 < s.length then s.length else 0 := by
  unfold z1c_
  split
  · rw [List.length_map, List.length_range]
  · rfl
theorem z7t_ (c : Cx) (s : List Int) : (zi_ c s).length = if 1 < s.length then s.length else 0 := by unfold zi_; rw [List.length_map, zod_]
theorem zoe_ {c : Cx} (h : CxP c) {s : List Int} (hs : s ∈ c) {f : Nat} (hf : f ∈ zi_ c s) : f < c.length := by
  unfold zi_ at hf
  obtain ⟨g, hg, rfl⟩ := List.mem_map.1 hf
  obtain ⟨h1, j, hj, rfl⟩ := zcb_.1 hg
  exact z5a_.2 (h.face s hs h1 j hj)
theorem zof_ {c : Cx} (h : CxP c) : z1k_ c := ⟨by have := h.len; omega, fun s hs => by have := (h.simp s hs).len4; omega⟩
theorem zog_ {k : Nat} (hk : KK ≤ k) {c : Cx} (h : CxP c) {j : Nat} {s : List Int} (hj : c[j]? = some s) : zbz_ k c (j : Int) = some ((zi_ c s).map fun i : Nat => (i : Int)) := by
  have hK := zg_
  have hL := zy_
  have hm := List.mem_of_getElem? hj
  have hs4 := (h.simp s hm).len4
  have hsc := zof_ h
  unfold zbz_
  rw [if_pos (Int.natCast_nonneg _), Int.toNat_natCast, hj]
  simp only [Option.bind_some]
  by_cases c1 : 1 < s.length
  · have := zq_ (α := Nat) (A := List Int) (L := fun n i q => z73_ k n c s i q (fun q_5 => some q_5)) (I := fun pre q => q = (List.range pre.length).map fun i => ((posC c (z1h_ s i) : Nat) : Int)) (G := fun _ _ => some ((zi_ c s).map fun i : Nat => (i : Int))) (List.range s.length) ?_ ?_ k (by simp; omega) [] (by simp)
    · exact this
    · intro n pre x post q hx hq ih hg hlt
      rw [List.length_range] at hlt
      have hpl : pre.length < s.length := by omega
      have hw := ze_ (i := pre.length) (by omega)
      have hlim : (q.length + 1) * 8 ≤ LIM := by rw [hq, List.length_map, List.length_range]; omega
      have hin := h.face s hm c1 pre.length hpl
      have c1' : (1 : Int) < (s.length : Int) := by omega
      simp only [z73_, hlt, c1', decide_true, if_true, znz_ (show s.length ≤ 1048576 by omega) hpl, zo0_ hk hsc, z5a_.2 hin, Option.bind_some, List.length_singleton, hlim, hw]
      refine ih _ ?_
      rw [hq, List.length_append, List.length_singleton, List.range_succ, List.map_append]
      rfl
    · intro n q hq
      rw [List.length_range] at hq ⊢
      simp only [z73_, Int.lt_irrefl, decide_false, Bool.false_eq_true, if_false, hq]
      unfold zi_ z1c_
      rw [if_pos c1, List.map_map, List.map_map]
      rfl
  · obtain ⟨n, hn⟩ : ∃ n, k = n + 1 := ⟨k - 1, by omega⟩
    have c1' : ¬ (1 : Int) < (s.length : Int) := by omega
    conv => lhs; arg 2; rw [hn]
    simp only [z73_, c1', decide_false, Bool.false_eq_true, if_false]
    unfold zi_ z1c_
    rw [if_neg c1]
    split <;> rfl
theorem zgp_ {k : Nat} (hk : KK ≤ k) {c : Cx} (h : CxP c) {j : Nat} {s : List Int} (hj : c[j]? = some s) : z7j_ k c (j : Int) = some ((zi_ c s).map fun i : Nat => (i : Int)) := by
  have hK := zg_
  have hL := zy_
  have hm := List.mem_of_getElem? hj
  have hs4 := (h.simp s hm).len4
  have hsc := zof_ h
  have hfl := zod_ s
  have hfl' : (z1c_ s).length ≤ 4 := by rw [hfl]; split <;> omega
  unfold z7j_
  rw [if_pos (Int.natCast_nonneg _), Int.toNat_natCast, hj]
  simp only [Option.bind_some, zo2_ hk (show s.length ≤ 1048576 by omega)]
  have := zq_ (α := List Int) (A := List Int) (L := fun n i q => zac_ k n ((z1c_ s).length : Int) i q (z1c_ s) c (fun q_8 => some q_8)) (I := fun pre q => q = pre.map fun f => ((posC c f : Nat) : Int)) (G := fun _ _ => some ((zi_ c s).map fun i : Nat => (i : Int))) (z1c_ s) ?_ ?_ k (by omega) [] rfl
  · exact this
  · intro n pre x post q hx hq ih hg hlt
    have hpl : pre.length < (z1c_ s).length := by omega
    have hw := ze_ (i := pre.length) (by omega)
    have hlim : (q.length + 1) * 8 ≤ LIM := by rw [hq, List.length_map]; omega
    obtain ⟨h1, i, hi, rfl⟩ := zcb_.1 (List.mem_of_getElem? hg)
    have hin := h.face s hm h1 i hi
    simp only [zac_, hlt, hpl, decide_true, if_true, Int.natCast_nonneg, Int.toNat_natCast, and_self, hg, zo5_ hk hsc h.ord (show (z1h_ s i).length ≤ 1048576 by rw [zgl_ hi]; omega), z5a_.2 hin, Option.bind_some, List.length_singleton, hlim, hw]
    exact ih _ (by rw [hq, List.map_append]; rfl)
  · intro n q hq
    simp only [zac_, Int.lt_irrefl, decide_false, Bool.false_eq_true, if_false, hq]
    unfold zi_
    rw [List.map_map]
    rfl
def z1t_ (c : Cx) (j : Nat) : List (Nat × Nat × Nat) := match c[j]? with
  | some s => (List.range (zi_ c s).length).map fun i => (j, i, (zi_ c s).getD i 0)
  | none => []
def arrN (c : Cx) (n : Nat) : List (Nat × Nat × Nat) := (List.range n).flatMap (z1t_ c)
theorem z7u_ (c : Cx) (n : Nat) : arrN c (n + 1) = arrN c n ++ z1t_ c n := by unfold arrN; rw [List.range_succ, List.flatMap_append]; simp
theorem zgq_ {c : Cx} {j : Nat} {s : List Int} (hj : c[j]? = some s) : (z1t_ c j).length = if 1 < s.length then s.length else 0 := by
  unfold z1t_; rw [hj]; simp only [List.length_map, List.length_range, z7t_]
theorem zoh_ {c : Cx} {j i : Nat} {s : List Int} (hj : c[j]? = some s) (hi : i < (zi_ c s).length) : (z1t_ c j)[i]? = some (j, i, (zi_ c s).getD i 0) := by
  unfold z1t_; rw [hj]; simp only [List.getElem?_map, List.getElem?_range hi]; rfl
theorem z5b_ {c : Cx} (h : CxP c) : ∀ n, n ≤ c.length → (arrN c n).length ≤ 4 * n
  | 0, _ => by simp [arrN]
  | n + 1, hn => by
    have ih := z5b_ h n (by omega)
    have hg : c[n]? = some c[n] := List.getElem?_eq_getElem (by omega)
    have h4 := (h.simp _ (List.mem_of_getElem? hg)).len4
    rw [z7u_, List.length_append, zgq_ hg]
    split <;> omega
theorem zuj_ (c : Cx) {a b : Nat} (h : a ≤ b) : (arrN c a).length ≤ (arrN c b).length := by
  induction b with
  | zero => rw [show a = 0 by omega]; exact Nat.le_refl _
  | succ b ih =>
    by_cases e : a = b + 1
    · rw [e]; exact Nat.le_refl _
    · have := ih (by omega)
      rw [z7u_, List.length_append]; omega
theorem zk5_ {k : Nat} (hk : KK ≤ k) {c : Cx} (h : CxP c) {j i : Nat} (hj : j ≤ c.length) (hi : i ≤ 4) : z9p_ k c (j : Int) (i : Int) = some (((arrN c j).length + i : Nat) : Int) := by
  have hK := zg_
  have hcl := h.len
  unfold z9p_
  have := zq_ (α := Nat) (A := Int) (L := fun n p z => z72_ k n c (j : Int) (i : Int) z p (fun i_3 at_4 => some (z0_ (at_4 + i_3)))) (I := fun pre z => z = ((arrN c pre.length).length : Int)) (G := fun _ _ => some (((arrN c j).length + i : Nat) : Int)) (List.range j) ?_ ?_ k (by simp; omega) 0 rfl
  · exact this
  · intro n pre x post z hx hz ih hg hlt
    rw [List.length_range] at hlt
    have hpl : pre.length < c.length := by omega
    have hw := ze_ (i := pre.length) (by omega)
    have hgc : c[pre.length]? = some c[pre.length] := List.getElem?_eq_getElem hpl
    have h4 := (h.simp _ (List.mem_of_getElem? hgc)).len4
    have hal := z5b_ h pre.length (by omega)
    have hnx : (arrN c (pre.length + 1)).length = (arrN c pre.length).length + (if 1 < (c[pre.length]).length then (c[pre.length]).length else 0) := by rw [z7u_, List.length_append, zgq_ hgc]
    simp only [z72_, hlt, decide_true, if_true, Int.natCast_nonneg, Int.toNat_natCast, hgc, Option.bind_some, hw]
    by_cases c1 : 1 < (c[pre.length]).length
    · have hwz : z0_ (z + ((c[pre.length]).length : Int)) = z + ((c[pre.length]).length : Int) := w_id (by omega) (by omega)
      rw [decide_eq_true (by omega), if_pos rfl, hwz]
      refine ih _ ?_
      rw [if_pos c1] at hnx
      rw [List.length_append, List.length_singleton, hnx, hz]; rfl
    · rw [decide_eq_false (by omega), if_neg (by simp)]
      refine ih _ ?_
      rw [if_neg c1] at hnx
      rw [List.length_append, List.length_singleton, hnx, hz]; rfl
  · intro n z hz
    rw [List.length_range] at hz ⊢
    have hal := z5b_ h j hj
    have hwz : z0_ (z + (i : Int)) = (((arrN c j).length + i : Nat) : Int) := by rw [w_id (by omega) (by omega)]; omega
    simp only [z72_, Int.lt_irrefl, decide_false, Bool.false_eq_true, if_false, hwz]
def toI3 (a : Nat × Nat × Nat) : Int × Int × Int := ((a.1 : Int), (a.2.1 : Int), (a.2.2 : Int))
theorem zuk_ {k : Nat} (hk : KK ≤ k) {c : Cx} (h : CxP c) : zg5_ k c = some ((arrN c c.length).map toI3) := by
  have hK := zg_
  have hL := zy_
  have hcl := h.len
  unfold zg5_ zed_
  simp only [Option.bind_some]
  have := zq_ (α := List Int) (A := List (Int × Int × Int)) (L := fun n i q => zad_ k n (c.length : Int) i q c (fun q_8 => some q_8)) (I := fun pre q => q = (arrN c pre.length).map toI3) (G := fun _ _ => some ((arrN c c.length).map toI3)) c ?_ ?_ k (by omega) [] rfl
  · exact this
  · intro n pre x post q hx hq ih hg hlt
    have hw := ze_ (i := pre.length) (by omega)
    have hpl : pre.length < c.length := by omega
    have h4 := (h.simp _ (List.mem_of_getElem? hg)).len4
    have hal := z5b_ h pre.length (by omega)
    have hfl := z7t_ c x
    have hfl4 : (zi_ c x).length ≤ 4 := by rw [hfl]; split <;> omega
    simp only [zad_, hlt, decide_true, if_true, zgp_ hk h hg, Option.bind_some, List.length_map]
    have inner : ∀ E : Int → Int → List (Int × Int × Int) → Cx → Option (List (Int × Int × Int)), z7k_ k k (pre.length : Int) (c.length : Int) (pre.length : Int) ((zi_ c x).length : Int) 0 q ((zi_ c x).map fun i : Nat => (i : Int)) c E = E (c.length : Int) (pre.length : Int) ((arrN c (pre.length + 1)).map toI3) c := by
      intro E
      have := zq_ (α := Nat) (A := List (Int × Int × Int)) (L := fun n i r => z7k_ k n (pre.length : Int) (c.length : Int) (pre.length : Int) ((zi_ c x).length : Int) i r ((zi_ c x).map fun i : Nat => (i : Int)) c E) (I := fun pre2 r => r = ((arrN c pre.length) ++ (List.range pre2.length).map fun i => (pre.length, i, (zi_ c x).getD i 0)).map toI3) (G := fun _ _ => E (c.length : Int) (pre.length : Int) ((arrN c (pre.length + 1)).map toI3) c) (zi_ c x) ?_ ?_ k (by omega) q (by simp [hq])
      · exact this
      · intro n pre2 f post2 r hx2 hr ih2 hg2 hlt2
        have hpl2 : pre2.length < (zi_ c x).length := by omega
        have hw2 := ze_ (i := pre2.length) (by omega)
        have hF : ((zi_ c x).map fun i : Nat => (i : Int))[pre2.length]? = some (f : Int) := by rw [List.getElem?_map, hg2]; rfl
        have hlim : (r.length + 1) * 24 ≤ LIM := by rw [hr, List.length_map, List.length_append, List.length_map, List.length_range]; omega
        have hgd : (zi_ c x).getD pre2.length 0 = f := by rw [List.getD_eq_getElem?_getD, hg2]; rfl
        simp only [z7k_, List.length_map, hlt2, hpl2, decide_true, if_true, Int.natCast_nonneg, Int.toNat_natCast, and_self, hF, Option.bind_some, List.length_singleton, hlim, hw2]
        refine ih2 _ ?_
        rw [hr, List.length_append, List.length_singleton, List.range_succ, List.map_append (l₁ := List.range pre2.length), ← List.append_assoc, List.map_append (f := toI3) (l₁ := arrN c pre.length ++ _)]
        show _ = _ ++ [toI3 (pre.length, pre2.length, (zi_ c x).getD pre2.length 0)]
        rw [hgd]; rfl
      · intro n r hr
        have e : z1t_ c pre.length = (List.range (zi_ c x).length).map fun i => (pre.length, i, (zi_ c x).getD i 0) := by unfold z1t_; rw [hg]
        simp only [z7k_, Int.lt_irrefl, decide_false, Bool.false_eq_true, if_false, hr]
        rw [z7u_, e]
    rw [inner, hw]
    exact ih _ (by rw [List.length_append, List.length_singleton])
  · intro n q hq
    simp only [zad_, Int.lt_irrefl, decide_false, Bool.false_eq_true, if_false, hq]
noncomputable def matB (k : Nat) (m : Mat) : Bool := (z9q_ k m).getD false
theorem zk6_ {k : Nat} (hk : KK ≤ k) {m : Mat} (hv : m.2.2.2.length ≤ 1048576) : z9q_ k m = some (matB k m) ∧ zc8_ k m = some (matB k m) ∧ (matB k m = true → ∃ R C, MatP m R C) := by
  obtain ⟨b, h1, h2, h3⟩ := zuc_ hk hv
  have e : matB k m = b := by unfold matB; rw [h1]; rfl
  rw [e]
  exact ⟨h1, h2, h3⟩
noncomputable def z6c_ (k : Nat) (p : Int) : Bool := (z70_ k p).getD false
theorem zk7_ {k : Nat} (hk : KK ≤ k) (p : Int) : z70_ k p = some (z6c_ k p) ∧ za7_ k p = some (z6c_ k p) ∧ (z6c_ k p = true → 2 ≤ p ∧ p ≤ 251) := by
  obtain ⟨b, h1, h2, h3⟩ := zo8_ hk p
  have e : z6c_ k p = b := by unfold z6c_; rw [h1]; rfl
  rw [e]
  exact ⟨h1, h2, h3⟩
noncomputable def okA (k : Nat) (s : She) (a : Nat × Nat × Nat) (m : Mat) : Bool := matB k m && (decide (m.1 = s.2.1) && (decide (m.2.1 = s.2.2.1.getD a.1 0) && decide (m.2.2.1 = s.2.2.1.getD a.2.2 0)))
noncomputable def chk1 (k : Nat) (s : She) (o : Nat) (l : List (Nat × Nat × Nat)) (i : Nat) : Bool := match l[i]? with
  | some a => (match s.2.2.2[o + i]? with | some m => okA k s a m | none => false)
  | none => true
def chk (k : Nat) (s : She) (o : Nat) (l : List (Nat × Nat × Nat)) : Prop := ∀ j a, l[j]? = some a → ∃ m, s.2.2.2[o + j]? = some m ∧ okA k s a m = true
theorem zoi_ {k : Nat} {s : She} {o : Nat} {l : List (Nat × Nat × Nat)} : (List.range l.length).all (chk1 k s o l) = true ↔ chk k s o l := by
  simp only [List.all_eq_true, List.mem_range]
  constructor
  · intro z i a ha
    have := z i (List.getElem?_eq_some_iff.1 ha).1
    unfold chk1 at this
    rw [ha] at this
    cases hm : s.2.2.2[o + i]? with
    | none => rw [hm] at this; cases this
    | some m => rw [hm] at this; exact ⟨m, rfl, this⟩
  · intro z i hi
    obtain ⟨m, h1, h2⟩ := z i _ (List.getElem?_eq_getElem hi)
    unfold chk1
    rw [List.getElem?_eq_getElem hi, h1]
    exact h2
theorem zul_ {k : Nat} {s : She} {o : Nat} {l r : List (Nat × Nat × Nat)} : chk k s o (l ++ r) ↔ chk k s o l ∧ chk k s (o + l.length) r := by
  constructor
  · intro h
    refine ⟨fun j a hj => h j a (by rw [List.getElem?_append_left (List.getElem?_eq_some_iff.1 hj).1]; exact hj), fun j a hj => ?_⟩
    have := h (l.length + j) a (by rw [List.getElem?_append_right (by omega), Nat.add_sub_cancel_left]; exact hj)
    rwa [← Nat.add_assoc] at this
  · rintro ⟨h1, h2⟩ j a hj
    by_cases c : j < l.length
    · rw [List.getElem?_append_left c] at hj; exact h1 j a hj
    · rw [List.getElem?_append_right (by omega)] at hj
      have := h2 (j - l.length) a hj
      rwa [show o + l.length + (j - l.length) = o + j by omega] at this
theorem zk8_ {k : Nat} {s : She} : ∀ n, (∀ j, j < n → chk k s (arrN s.1 j).length (z1t_ s.1 j)) ↔ chk k s 0 (arrN s.1 n)
  | 0 => by
    constructor
    · intro _ j a hj; simp [arrN] at hj
    · intro _ j hj; omega
  | n + 1 => by
    rw [z7u_, zul_, ← zk8_ n, Nat.zero_add]
    constructor
    · intro h; exact ⟨fun j hj => h j (by omega), h n (by omega)⟩
    · rintro ⟨h1, h2⟩ j hj
      by_cases e : j = n
      · subst e; exact h2
      · exact h1 j (by omega)
open Classical in
noncomputable def sheB (k : Nat) (s : She) : Bool := cxB s.1 && (z6c_ k s.2.1 && (stB s.1 s.2.2.1 && decide (s.2.2.2.length = (arrN s.1 s.1.length).length ∧ chk k s 0 (arrN s.1 s.1.length))))
structure smallSh (s : She) : Prop where
  cx : z1k_ s.1
  st : s.2.2.1.length ≤ 1048576
  maps : s.2.2.2.length ≤ 1048576
  cells : ∀ m ∈ s.2.2.2, m.2.2.2.length ≤ 1048576
theorem zum_ {c : Cx} (h : CxP c) {n j : Nat} {a : Nat × Nat × Nat} (hn : n ≤ c.length) (hj : (arrN c n)[j]? = some a) : a.1 < c.length ∧ a.2.2 < c.length := by
  have hm := List.mem_of_getElem? hj
  unfold arrN at hm
  obtain ⟨i, hi, ha⟩ := List.mem_flatMap.1 hm
  rw [List.mem_range] at hi
  have hg : c[i]? = some c[i] := List.getElem?_eq_getElem (by omega)
  unfold z1t_ at ha
  rw [hg] at ha
  obtain ⟨p, hp, rfl⟩ := List.mem_map.1 ha
  rw [List.mem_range] at hp
  refine ⟨by show i < _; omega, zoe_ h (List.mem_of_getElem? hg) ?_⟩
  show (zi_ c c[i]).getD p 0 ∈ _
  rw [List.getD_eq_getElem?_getD, List.getElem?_eq_getElem hp]
  exact List.getElem_mem hp
open Classical in
theorem zun_ {k : Nat} (hk : KK ≤ k) {s : She} (hs : smallSh s) : zfc_ k s = some (sheB k s) := by
  have hK := zg_
  unfold zfc_ sheB
  obtain ⟨p1, p2, p3⟩ := zk7_ hk s.2.1
  rw [zo6_ hk hs.cx, p1, zuh_ hk hs.cx hs.st]
  cases hcx : cxB s.1 with
  | false => simp
  | true =>
  cases z6c_ k s.2.1 with
  | false => simp
  | true =>
  cases hst : stB s.1 s.2.2.1 with
  | false => simp
  | true =>
    have h := z4l_.1 hcx
    have hS := zk4_ hst
    have hcl := h.len
    have hal := z5b_ h s.1.length (Nat.le_refl _)
    have hcount : zfb_ k s.1 = some ((arrN s.1 s.1.length).length : Int) := by
      unfold zfb_
      have := zk5_ hk h (j := s.1.length) (i := 0) (Nat.le_refl _) (by omega)
      rw [Nat.add_zero] at this
      rw [show ((0 : Nat) : Int) = 0 from rfl] at this
      rw [this]; rfl
    simp only [Option.bind_some, Bool.not_true, Bool.false_eq_true, if_false, hcount, Bool.true_and]
    by_cases hN : s.2.2.2.length = (arrN s.1 s.1.length).length
    · rw [decide_eq_true (show (s.2.2.2.length : Int) = ((arrN s.1 s.1.length).length : Int) by omega), if_neg (by simp)]
      have := z46_ (L := fun n i => z64_ k n s i (some true)) (b := s.1.length) (p := fun j => decide (chk k s (arrN s.1 j).length (z1t_ s.1 j))) (r := some false) (e := some true) ?_ ?_ (n := k) (by omega)
      · rw [this]
        have e : ((List.range s.1.length).all (fun j => decide (chk k s (arrN s.1 j).length (z1t_ s.1 j))) = true) ↔ chk k s 0 (arrN s.1 s.1.length) := by
          rw [← zk8_]
          simp only [List.all_eq_true, List.mem_range, decide_eq_true_eq]
        by_cases q : chk k s 0 (arrN s.1 s.1.length)
        · rw [if_pos (e.2 q), decide_eq_true ⟨hN, q⟩]
        · rw [if_neg (fun z => q (e.1 z)), decide_eq_false (fun z => q z.2)]
      · intro n j hj
        have hlt : (j : Int) < (s.1.length : Int) := by omega
        have hw := ze_ (i := j) (by omega)
        have hg : s.1[j]? = some s.1[j] := List.getElem?_eq_getElem hj
        have hm := List.mem_of_getElem? hg
        have h4 := (h.simp _ hm).len4
        have hbl := zgq_ hg
        have hnx : (arrN s.1 (j + 1)).length = (arrN s.1 j).length + (z1t_ s.1 j).length := by rw [z7u_, List.length_append]
        have hmono := zuj_ s.1 (show j + 1 ≤ s.1.length by omega)
        have haj := z5b_ h j (by omega)
        have hfl := z7t_ s.1 s.1[j]
        simp only [z64_, hlt, decide_true, if_true]
        have inner := z46_ (L := fun m i => z9r_ k m s (j : Int) i (fun s_5 k_6 => z64_ k n s_5 (z0_ (k_6 + 1)) (some true))) (b := (z1t_ s.1 j).length) (p := chk1 k s (arrN s.1 j).length (z1t_ s.1 j)) (r := some false) (e := z64_ k n s ((j + 1 : Nat) : Int) (some true)) ?_ ?_ (n := k) (by rw [hbl]; split <;> omega)
        · refine Eq.trans inner ?_
          have e := zoi_ (k := k) (s := s) (o := (arrN s.1 j).length) (l := z1t_ s.1 j)
          by_cases q : chk k s (arrN s.1 j).length (z1t_ s.1 j)
          · rw [if_pos (e.2 q), if_pos (decide_eq_true q)]
          · rw [if_neg (fun z => q (e.1 z)), if_neg (by simpa using q)]
        · intro m i hi
          have h1 : 1 < (s.1[j]).length := by
            apply Classical.byContradiction
            intro hn
            rw [hbl, if_neg hn] at hi; omega
          rw [if_pos h1] at hbl hfl
          have hil : i < (s.1[j]).length := by omega
          have hil' : (i : Int) < ((s.1[j]).length : Int) := by omega
          have h1' : (1 : Int) < ((s.1[j]).length : Int) := by omega
          have hw2 := ze_ (i := i) (by omega)
          have hml : (arrN s.1 j).length + i < s.2.2.2.length := by omega
          have hgm : s.2.2.2[(arrN s.1 j).length + i]? = some s.2.2.2[(arrN s.1 j).length + i] := List.getElem?_eq_getElem hml
          have hcells := hs.cells _ (List.mem_of_getElem? hgm)
          have hfi : i < (zi_ s.1 s.1[j]).length := by omega
          have hga := zoh_ hg hfi
          have hgd : (zi_ s.1 s.1[j])[i]? = some ((zi_ s.1 s.1[j]).getD i 0) := by rw [List.getD_eq_getElem?_getD, List.getElem?_eq_getElem hfi]; rfl
          have hF : ((zi_ s.1 s.1[j]).map fun i : Nat => (i : Int))[i]? = some (((zi_ s.1 s.1[j]).getD i 0 : Nat) : Int) := by rw [List.getElem?_map, hgd]; rfl
          have hflt : (zi_ s.1 s.1[j]).getD i 0 < s.1.length := zoe_ h hm (List.mem_of_getElem? hgd)
          obtain ⟨s1, _⟩ := z7s_ hS hj
          obtain ⟨s2, _⟩ := z7s_ hS hflt
          simp only [z9r_, zj1_, Int.natCast_nonneg, if_true, Int.toNat_natCast, hg, Option.bind_some, hil', h1', decide_true, zk5_ hk h (show j ≤ s.1.length by omega) (show i ≤ 4 by omega), hgm, zog_ hk h hg, List.length_map, hfi, and_self, hF, (zk6_ hk hcells).1, s1, s2, hw2]
          have e : chk1 k s (arrN s.1 j).length (z1t_ s.1 j) i = okA k s (j, i, (zi_ s.1 s.1[j]).getD i 0) s.2.2.2[(arrN s.1 j).length + i] := by unfold chk1; rw [hga, hgm]
          rw [e]
          unfold okA
          generalize s.2.2.2[(arrN s.1 j).length + i] = mm
          generalize hv : s.2.2.1.getD ((zi_ s.1 s.1[j]).getD i 0) 0 = v
          generalize hu : s.2.2.1.getD j 0 = u
          clear hv hu
          cases matB k mm
          · simp
          · by_cases q1 : mm.1 = s.2.1
            · by_cases q2 : mm.2.1 = u
              · by_cases q3 : mm.2.2.1 = v <;> simp [q1, q2, q3]
              · simp [q1, q2]
            · simp [q1]
        · intro m
          have hstop : ¬ (((z1t_ s.1 j).length : Int) < ((s.1[j]).length : Int) ∧ (1 : Int) < ((s.1[j]).length : Int)) := by
            rw [hbl]; split <;> omega
          simp only [z9r_, Int.natCast_nonneg, if_true, Int.toNat_natCast, hg, Option.bind_some, hw]
          by_cases q1 : ((z1t_ s.1 j).length : Int) < ((s.1[j]).length : Int)
          · have q2 : ¬ (1 : Int) < ((s.1[j]).length : Int) := fun z => hstop ⟨q1, z⟩
            rw [decide_eq_true q1, if_pos rfl, decide_eq_false q2, if_neg (by simp)]
          · rw [decide_eq_false q1, if_neg (by simp)]
      · intro n
        simp only [z64_, Int.lt_irrefl, decide_false, Bool.false_eq_true, if_false]
    · rw [decide_eq_false (show ¬ (s.2.2.2.length : Int) = ((arrN s.1 s.1.length).length : Int) by omega), if_pos (by simp), decide_eq_false (fun z => hN z.1)]
open Classical in
theorem zuo_ {k : Nat} (hk : KK ≤ k) {s : She} (hs : smallSh s) : zg8_ k s = some (sheB k s) := by
  have hK := zg_
  unfold zg8_ sheB
  obtain ⟨p1, p2, p3⟩ := zk7_ hk s.2.1
  rw [zk2_ hk hs.cx, p2, zui_ hk hs.cx hs.st]
  cases hcx : cxB s.1 with
  | false => simp
  | true =>
  cases z6c_ k s.2.1 with
  | false => simp
  | true =>
  cases hst : stB s.1 s.2.2.1 with
  | false => simp
  | true =>
    have h := z4l_.1 hcx
    have hS := zk4_ hst
    have hcl := h.len
    have hal := z5b_ h s.1.length (Nat.le_refl _)
    simp only [Option.bind_some, Bool.not_true, Bool.false_eq_true, if_false, zuk_ hk h, Bool.true_and, List.length_map]
    have := z46_ (L := fun n i => zaf_ k n ((arrN s.1 s.1.length).length : Int) i ((arrN s.1 s.1.length).map toI3) s (fun q_11 v_12 => some (decide ((List.length q_11 : Int) = (List.length v_12.2.2.2 : Int))))) (b := (arrN s.1 s.1.length).length) (p := chk1 k s 0 (arrN s.1 s.1.length)) (r := some false) (e := some (decide ((arrN s.1 s.1.length).length = s.2.2.2.length))) ?_ ?_ (n := k) (by omega)
    · rw [this]
      have e := zoi_ (k := k) (s := s) (o := 0) (l := arrN s.1 s.1.length)
      by_cases q : chk k s 0 (arrN s.1 s.1.length)
      · rw [if_pos (e.2 q)]
        congr 1
        exact decide_eq_decide.2 ⟨fun z => ⟨z.symm, q⟩, fun z => z.1.symm⟩
      · rw [if_neg (fun z => q (e.1 z)), decide_eq_false (fun z => q z.2)]
    · intro n i hi
      have hlt : (i : Int) < ((arrN s.1 s.1.length).length : Int) := by omega
      have hw := ze_ (i := i) (by omega)
      have hg : (arrN s.1 s.1.length)[i]? = some (arrN s.1 s.1.length)[i] := List.getElem?_eq_getElem hi
      have hF : ((arrN s.1 s.1.length).map toI3)[i]? = some (toI3 (arrN s.1 s.1.length)[i]) := by rw [List.getElem?_map, hg]; rfl
      obtain ⟨a1, a2⟩ := zum_ h (Nat.le_refl _) hg
      obtain ⟨s1, _⟩ := z7s_ hS a1
      obtain ⟨s2, _⟩ := z7s_ hS a2
      have hch : chk1 k s 0 (arrN s.1 s.1.length) i = (match s.2.2.2[i]? with | some m => okA k s (arrN s.1 s.1.length)[i] m | none => false) := by unfold chk1; rw [hg, Nat.zero_add]
      rw [hch]
      generalize (arrN s.1 s.1.length)[i] = a at hF s1 s2
      simp only [zaf_, List.length_map, hlt, hi, decide_true, if_true, Int.natCast_nonneg, Int.toNat_natCast, and_self, hF, Option.bind_some, hw, toI3]
      by_cases hml : i < s.2.2.2.length
      · have hgm : s.2.2.2[i]? = some s.2.2.2[i] := List.getElem?_eq_getElem hml
        have hcells := hs.cells _ (List.mem_of_getElem? hgm)
        rw [decide_eq_false (by omega), if_neg (by simp), hgm, s1, s2]
        simp only [Option.bind_some, zjm_, (zk6_ hk hcells).2.1]
        show _ = if okA k s a s.2.2.2[i] = true then _ else _
        unfold okA
        generalize s.2.2.2[i] = mm
        generalize s.2.2.1.getD a.1 0 = u
        generalize s.2.2.1.getD a.2.2 0 = v
        cases matB k mm
        · simp
        · by_cases q1 : mm.1 = s.2.1
          · by_cases q2 : mm.2.1 = u
            · by_cases q3 : mm.2.2.1 = v <;> simp [q1, q2, q3]
            · simp [q1, q2]
          · simp [q1]
      · rw [decide_eq_true (by omega), if_pos rfl, List.getElem?_eq_none (by omega)]
        rfl
    · intro n
      simp only [zaf_, Int.lt_irrefl, decide_false, Bool.false_eq_true, if_false, List.length_map]
      exact congrArg some (decide_eq_decide.2 (by omega))
theorem z4m_ {k : Nat} (hk : KK ≤ k) {s : She} (h : sheB k s = true) : CxP s.1 ∧ (2 ≤ s.2.1 ∧ s.2.1 ≤ 251) ∧ StP s.1 s.2.2.1 := by
  unfold sheB at h
  simp only [Bool.and_eq_true] at h
  exact ⟨z4l_.1 h.1, (zk7_ hk s.2.1).2.2 h.2.1, zk4_ h.2.2.1⟩
def rowM (cells : List Int) (C r : Nat) : List Int := (cells.drop (r * C)).take C
theorem zgr_ {cells : List Int} {R C r : Nat} (hl : cells.length = R * C) (hr : r < R) : (rowM cells C r).length = C := by
  unfold rowM
  rw [List.length_take, List.length_drop, hl]
  have : (r + 1) * C ≤ R * C := Nat.mul_le_mul_right _ hr
  rw [Nat.succ_mul] at this
  omega
theorem zup_ {cells : List Int} {C r c : Nat} (hc : c < C) : (rowM cells C r)[c]? = cells[r * C + c]? := by
  unfold rowM
  rw [List.getElem?_take_of_lt hc, List.getElem?_drop]
theorem zuq_ {a : List Int} (ha : a.length ≤ 1048576) : zgb_ a = some a := by
  have hL := zy_
  unfold zgb_
  have h : (([] : List Unit).length + a.length) * 8 ≤ LIM := by simp only [List.length_nil]; omega
  rw [if_pos h]
  cases a with
  | nil => simp [both]
  | cons x l => simp
theorem zur_ {k : Nat} (hk : KK ≤ k) {m : Mat} {R C : Nat} (h : MatP m R C) : zgc_ k m = some ((List.range R).map (rowM m.2.2.2 C)) := by
  have hK := zg_
  have hLI := zy_
  have h32 := h.c32
  have hr32 := h.r32
  unfold zgc_
  have := zq_ (α := Nat) (A := List (List Int)) (L := fun n i q => zag_ k n m.2.1 i q m (fun q_4 => some q_4)) (I := fun pre q => q = pre.map (rowM m.2.2.2 C)) (G := fun _ _ => some ((List.range R).map (rowM m.2.2.2 C))) (List.range R) ?_ ?_ k (by rw [List.length_range]; omega) [] rfl
  · exact this
  · intro n pre x post q hx hq ih hg hlt
    rw [List.length_range] at hlt
    have hr : pre.length < R := by omega
    have hxe : x = pre.length := by rw [List.getElem?_range hr] at hg; simpa using hg.symm
    have hw := ze_ (i := pre.length) (by omega)
    have hlt' : (pre.length : Int) < m.2.1 := by rw [h.rows]; omega
    have h1 : (pre.length + 1) * C ≤ R * C := Nat.mul_le_mul_right _ hr
    have h2 : R * C ≤ 32 * 32 := Nat.mul_le_mul hr32 h32
    have h3 : (pre.length + 1) * C = pre.length * C + C := Nat.succ_mul _ _
    have hm1 : z0_ ((pre.length : Int) * m.2.2.1) = ((pre.length * C : Nat) : Int) := by rw [h.cols, ← Int.natCast_mul]; exact w_id (by omega) (by omega)
    have hm2 : z0_ (((pre.length + 1 : Nat) : Int) * m.2.2.1) = (((pre.length + 1) * C : Nat) : Int) := by rw [h.cols, ← Int.natCast_mul]; exact w_id (by omega) (by omega)
    have hrow : z7n_ m (pre.length : Int) = some (rowM m.2.2.2 C pre.length) := by
      unfold z7n_
      rw [hm1, hw, hm2, if_pos ⟨by omega, by omega, by rw [h.len]; omega⟩, Int.toNat_natCast, Int.toNat_natCast, show (pre.length + 1) * C - pre.length * C = C by omega]
      rfl
    have hrl := zgr_ h.len hr
    have hql : q.length = pre.length := by rw [hq, List.length_map]
    have b1 : (q.length + 1) * 24 ≤ LIM := by omega
    subst hxe
    simp only [zag_, hlt', decide_true, if_true, hrow, Option.bind_some, zuq_ (show (rowM m.2.2.2 C pre.length).length ≤ 1048576 by omega), List.length_singleton, b1, hw]
    exact ih _ (by rw [hq]; simp)
  · intro n q hq
    have : ¬ ((List.range R).length : Int) < m.2.1 := by rw [h.rows, List.length_range]; omega
    subst hq
    simp only [zag_, this, decide_false, Bool.false_eq_true, if_false]
def sumN (f : Nat → Int) : Nat → Int
  | 0 => 0
  | n + 1 => sumN f n + f n
theorem zk9_ {f : Nat → Int} {B : Int} (h : ∀ t, 0 ≤ f t ∧ f t ≤ B) : ∀ n : Nat, 0 ≤ sumN f n ∧ sumN f n ≤ (n : Int) * B
  | 0 => by simp [sumN]
  | n + 1 => by
    have h1 := zk9_ h n
    have h2 := h n
    have e : ((n + 1 : Nat) : Int) * B = (n : Int) * B + B := by rw [Int.natCast_add, Int.add_mul]; simp
    show 0 ≤ sumN f n + f n ∧ sumN f n + f n ≤ _
    rw [e]; omega
def z3k_ (a b : List Int) (K C i j t : Nat) : Int := a.getD (i * K + t) 0 * b.getD (t * C + j) 0
def entP (a b : List Int) (K C : Nat) (p : Int) (i j : Nat) : Int := sumN (z3k_ a b K C i j) K % p
def zt_ (e : Nat → Nat → Int) (C : Nat) : Nat → List Int
  | 0 => []
  | R + 1 => zt_ e C R ++ (List.range C).map (e R)
theorem z5c_ (e : Nat → Nat → Int) (C : Nat) : ∀ R, (zt_ e C R).length = R * C
  | 0 => by simp [zt_]
  | R + 1 => by
    show (zt_ e C R ++ (List.range C).map (e R)).length = _
    rw [List.length_append, z5c_ e C R, List.length_map, List.length_range, Nat.succ_mul]
def z7v_ (a b : Mat) (R K C : Nat) : Mat := (a.1, (R : Int), (C : Int), zt_ (entP a.2.2.2 b.2.2.2 K C a.1) C R)
theorem zka_ {R C i j : Nat} (hi : i < R) (hj : j < C) : i * C + j < R * C := by
  have : (i + 1) * C ≤ R * C := Nat.mul_le_mul_right _ hi
  rw [Nat.succ_mul] at this
  omega
theorem zkb_ {m : Mat} {R C : Nat} (h : MatP m R C) (x : Nat) : 0 ≤ m.2.2.2.getD x 0 ∧ m.2.2.2.getD x 0 ≤ 250 := by
  rw [List.getD_eq_getElem?_getD]
  cases hx : m.2.2.2[x]? with
  | none => simp
  | some y => exact h.cells y (List.mem_of_getElem? hx)
theorem zkc_ {m : Mat} {R C : Nat} (h : MatP m R C) {i j : Nat} (hi : i < R) (hj : j < C) : m.2.2.2[i * C + j]? = some (m.2.2.2.getD (i * C + j) 0) := by
  have hl : i * C + j < m.2.2.2.length := by rw [h.len]; exact zka_ hi hj
  rw [List.getD_eq_getElem?_getD, List.getElem?_eq_getElem hl]; rfl
theorem zgs_ {a b : Mat} {R K C : Nat} (ha : MatP a R K) (hb : MatP b K C) (i j t : Nat) : 0 ≤ z3k_ a.2.2.2 b.2.2.2 K C i j t ∧ z3k_ a.2.2.2 b.2.2.2 K C i j t ≤ 62500 := by
  have h1 := zkb_ ha (i * K + t)
  have h2 := zkb_ hb (t * C + j)
  unfold z3k_
  exact ⟨Int.mul_nonneg h1.1 h2.1, by have := Int.mul_le_mul h1.2 h2.2 h2.1 (by omega); omega⟩
theorem z7w_ {i C : Nat} (h : i ≤ 32) (hC : C ≤ 32) : z0_ ((i : Int) * (C : Int)) = ((i * C : Nat) : Int) := by
  have : i * C ≤ 32 * 32 := Nat.mul_le_mul h hC
  rw [← Int.natCast_mul, w_id (by omega) (by omega)]
theorem zus_ (A : List Int) (m : Nat) (v : Int) : (A ++ List.replicate (m + 1) 0).set A.length v = (A ++ [v]) ++ List.replicate m 0 := by
  rw [List.replicate_succ, List.set_append_right _ _ (Nat.le_refl _), Nat.sub_self, List.set_cons_zero, List.append_assoc]; rfl
theorem zoj_ {k : Nat} (hk : KK ≤ k) {a b : Mat} {R K C : Nat} (ha : MatP a R K) (hb : MatP b K C) : zc0_ k a b = some (z7v_ a b R K C) := by
  have hK := zg_
  have hL := zy_
  have hR := ha.r32
  have hKK := ha.c32
  have hC := hb.c32
  have hp := ha.prime
  have hRC : R * C ≤ 32 * 32 := Nat.mul_le_mul hR hC
  unfold zc0_ zj2_
  rw [ha.rows, hb.cols, z7w_ hR hC, if_pos ⟨by omega, by omega, by omega⟩]
  simp only [Option.bind_some, Int.toNat_natCast]
  have sum : ∀ (i j : Nat), i < R → j < C → ∀ (q6 q7 : List Int) (u1 u2 u3 u4 u5 u6 : Int) (E : Mat → Mat → Int → Int → Int → List Int → List Int → Int → Int → Int → Int → Int → Int → Option Mat), z75_ k k a b (i : Int) (j : Int) 0 0 q6 q7 u1 u2 u3 u4 u5 u6 E = E a b (i : Int) (j : Int) (sumN (z3k_ a.2.2.2 b.2.2.2 K C i j) K) q6 q7 u1 u2 u3 u4 u5 u6 := by
    intro i j hi hj q6 q7 u1 u2 u3 u4 u5 u6 E
    refine zq_ (α := Nat) (A := Int) (L := fun n t z => z75_ k n a b (i : Int) (j : Int) z t q6 q7 u1 u2 u3 u4 u5 u6 E) (I := fun pre z => z = sumN (z3k_ a.2.2.2 b.2.2.2 K C i j) pre.length) (G := fun _ _ => E a b (i : Int) (j : Int) (sumN (z3k_ a.2.2.2 b.2.2.2 K C i j) K) q6 q7 u1 u2 u3 u4 u5 u6) (List.range K) ?_ ?_ k (by simp; omega) 0 rfl |> fun h => h
    · intro n pre x post z _ hz ih _ hlt
      rw [List.length_range] at hlt
      have ht : pre.length < K := by omega
      have hw := ze_ (i := pre.length) (by omega)
      have hik : i * K ≤ 32 * 32 := Nat.mul_le_mul (by omega) (by omega)
      have htc : pre.length * C ≤ 32 * 32 := Nat.mul_le_mul (by omega) (by omega)
      have w1 : z0_ (z0_ ((i : Int) * (K : Int)) + (pre.length : Int)) = ((i * K + pre.length : Nat) : Int) := by rw [z7w_ (by omega) hKK, w_id (by omega) (by omega)]; omega
      have w2 : z0_ (z0_ ((pre.length : Int) * (C : Int)) + (j : Int)) = ((pre.length * C + j : Nat) : Int) := by rw [z7w_ (by omega) hC, w_id (by omega) (by omega)]; omega
      have tb := zgs_ ha hb i j pre.length
      have sb := zk9_ (fun t => zgs_ ha hb i j t) pre.length
      have w3 : z0_ (a.2.2.2.getD (i * K + pre.length) 0 * b.2.2.2.getD (pre.length * C + j) 0) = z3k_ a.2.2.2 b.2.2.2 K C i j pre.length := by
        show z0_ (z3k_ a.2.2.2 b.2.2.2 K C i j pre.length) = _
        exact w_id (by omega) (by omega)
      have w4 : z0_ (z + z3k_ a.2.2.2 b.2.2.2 K C i j pre.length) = z + z3k_ a.2.2.2 b.2.2.2 K C i j pre.length := by rw [hz]; exact w_id (by omega) (by omega)
      simp only [z75_, ha.cols, hb.cols, hlt, decide_true, if_true, w1, w2, Int.natCast_nonneg, Int.toNat_natCast, zkc_ ha hi ht, zkc_ hb ht hj, Option.bind_some, w3, w4, hw]
      exact ih _ (by rw [hz, List.length_append, List.length_singleton]; rfl)
    · intro n z hz
      subst hz
      simp only [z75_, ha.cols, List.length_range, Int.lt_irrefl, decide_false, Bool.false_eq_true, if_false]
  have row : ∀ (i : Nat), i < R → ∀ (q5 : List Int) (u1 u2 u3 u4 u5 u6 : Int) (E : Mat → Mat → Int → List Int → List Int → Int → Int → Int → Int → Int → Int → Option Mat), z76_ k k a b (i : Int) 0 q5 (zt_ (entP a.2.2.2 b.2.2.2 K C a.1) C i ++ List.replicate (R * C - i * C) 0) u1 u2 u3 u4 u5 u6 E = E a b (i : Int) q5 (zt_ (entP a.2.2.2 b.2.2.2 K C a.1) C (i + 1) ++ List.replicate (R * C - (i + 1) * C) 0) u1 u2 u3 u4 u5 u6 := by
    intro i hi q5 u1 u2 u3 u4 u5 u6 E
    have hb1 : (i + 1) * C ≤ R * C := Nat.mul_le_mul_right _ hi
    have hs : (i + 1) * C = i * C + C := Nat.succ_mul i C
    refine zq_ (α := Nat) (A := List Int) (L := fun n j q => z76_ k n a b (i : Int) j q5 q u1 u2 u3 u4 u5 u6 E) (I := fun pre q => q = (zt_ (entP a.2.2.2 b.2.2.2 K C a.1) C i ++ (List.range pre.length).map (entP a.2.2.2 b.2.2.2 K C a.1 i)) ++ List.replicate (R * C - (i * C + pre.length)) 0) (G := fun _ _ => E a b (i : Int) q5 (zt_ (entP a.2.2.2 b.2.2.2 K C a.1) C (i + 1) ++ List.replicate (R * C - (i + 1) * C) 0) u1 u2 u3 u4 u5 u6) (List.range C) ?_ ?_ k (by simp; omega) _ (by simp) |> fun h => h
    · intro n pre x post q _ hq ih _ hlt
      rw [List.length_range] at hlt
      have hj : pre.length < C := by omega
      have hw := ze_ (i := pre.length) (by omega)
      have hic : i * C ≤ 32 * 32 := Nat.mul_le_mul (by omega) (by omega)
      have w1 : z0_ (z0_ ((i : Int) * (C : Int)) + (pre.length : Int)) = ((i * C + pre.length : Nat) : Int) := by rw [z7w_ (by omega) hC, w_id (by omega) (by omega)]; omega
      have hal : (zt_ (entP a.2.2.2 b.2.2.2 K C a.1) C i ++ (List.range pre.length).map (entP a.2.2.2 b.2.2.2 K C a.1 i)).length = i * C + pre.length := by rw [List.length_append, z5c_, List.length_map, List.length_range]
      have hql : q.length = R * C := by rw [hq, List.length_append, hal, List.length_replicate]; omega
      have hlq : i * C + pre.length < q.length := by rw [hql]; exact zka_ hi hj
      have sb := zk9_ (fun t => zgs_ ha hb i pre.length t) K
      have hm : Int.tmod (sumN (z3k_ a.2.2.2 b.2.2.2 K C i pre.length) K) a.1 = entP a.2.2.2 b.2.2.2 K C a.1 i pre.length := Int.tmod_eq_emod_of_nonneg sb.1
      simp only [z76_, hb.cols, hlt, decide_true, if_true, sum i pre.length hi hj, show ¬ a.1 = 0 by omega, if_false, w1, Int.natCast_nonneg, Int.toNat_natCast, hlq, and_self, List.getElem?_eq_getElem hlq, Option.bind_some, hm, hw]
      refine ih _ ?_
      rw [hq, show R * C - (i * C + pre.length) = (R * C - (i * C + (pre.length + 1))) + 1 by omega, ← hal, zus_, List.length_append, List.length_singleton, List.range_succ, List.map_append, List.append_assoc (zt_ _ C i)]
      rfl
    · intro n q hq
      subst hq
      simp only [z76_, hb.cols, List.length_range, Int.lt_irrefl, decide_false, Bool.false_eq_true, if_false]
      rw [hs]
      rfl
  have := zq_ (α := Nat) (A := List Int) (L := fun n i q => z9s_ k n a b i [] q 0 0 0 a.1 (R : Int) (C : Int) (fun q_15 q_16 v_4a_17 v_4ba_18 v_4bba_19 v_5a_20 v_5ba_21 v_5bba_22 => some (v_5a_20, (v_5ba_21, (v_5bba_22, q_16))))) (I := fun pre q => q = zt_ (entP a.2.2.2 b.2.2.2 K C a.1) C pre.length ++ List.replicate (R * C - pre.length * C) 0) (G := fun _ _ => some (z7v_ a b R K C)) (List.range R) ?_ ?_ k (by simp; omega) (List.replicate (R * C) 0) (by simp [zt_])
  · exact this
  · intro n pre x post q _ hq ih _ hlt
    rw [List.length_range] at hlt
    have hi : pre.length < R := by omega
    have hw := ze_ (i := pre.length) (by omega)
    subst hq
    simp only [z9s_, ha.rows, hlt, decide_true, if_true, row pre.length hi, hw]
    exact ih _ (by rw [List.length_append, List.length_singleton])
  · intro n q hq
    subst hq
    simp only [z9s_, ha.rows, List.length_range, Int.lt_irrefl, decide_false, Bool.false_eq_true, if_false, Nat.sub_self, List.replicate_zero, List.append_nil]
    rfl
theorem zut_ {k : Nat} (hk : KK ≤ k) {m : Mat} {R C : Nat} (h : MatP m R C) : zga_ k m = some (m.1, (C : Int), (R : Int), zt_ (fun j i => m.2.2.2.getD (i * C + j) 0) R C) := by
  have hK := zg_
  have hL := zy_
  have hR := h.r32
  have hC := h.c32
  have hCR : C * R ≤ 32 * 32 := Nat.mul_le_mul hC hR
  unfold zga_ zjp_
  rw [h.rows, h.cols]
  have row : ∀ (j : Nat), j < C → ∀ (x16 x17 : Int) (q3 : List Int) (u1 u2 u3 u4 u5 u6 : Int) (E : Int → Mat → Int → Int → List Int → List Int → Int → Int → Int → Int → Int → Int → Option Mat), z7l_ k k (R : Int) m (j : Int) x16 x17 (R : Int) 0 q3 (zt_ (fun j i => m.2.2.2.getD (i * C + j) 0) R j) u1 u2 u3 u4 u5 u6 E = E (R : Int) m x16 x17 q3 (zt_ (fun j i => m.2.2.2.getD (i * C + j) 0) R (j + 1)) u1 u2 u3 u4 u5 u6 := by
    intro j hj x16 x17 q3 u1 u2 u3 u4 u5 u6 E
    refine zq_ (α := Nat) (A := List Int) (L := fun n i q => z7l_ k n (R : Int) m (j : Int) x16 x17 (R : Int) i q3 q u1 u2 u3 u4 u5 u6 E) (I := fun pre q => q = zt_ (fun j i => m.2.2.2.getD (i * C + j) 0) R j ++ (List.range pre.length).map (fun i => m.2.2.2.getD (i * C + j) 0)) (G := fun _ _ => E (R : Int) m x16 x17 q3 (zt_ (fun j i => m.2.2.2.getD (i * C + j) 0) R (j + 1)) u1 u2 u3 u4 u5 u6) (List.range R) ?_ ?_ k (by simp; omega) _ (by simp) |> fun h => h
    · intro n pre x post q _ hq ih _ hlt
      rw [List.length_range] at hlt
      have hi : pre.length < R := by omega
      have hw := ze_ (i := pre.length) (by omega)
      have hic : pre.length * C ≤ 32 * 32 := Nat.mul_le_mul (by omega) (by omega)
      have w1 : z0_ (z0_ ((pre.length : Int) * (C : Int)) + (j : Int)) = ((pre.length * C + j : Nat) : Int) := by rw [z7w_ (by omega) hC, w_id (by omega) (by omega)]; omega
      have hjr : j * R ≤ 32 * 32 := Nat.mul_le_mul (by omega) (by omega)
      have b : (q.length + 1) * 8 ≤ LIM := by rw [hq, List.length_append, z5c_, List.length_map, List.length_range]; omega
      simp only [z7l_, zjo_, zjn_, h.cols, hlt, decide_true, if_true, w1, Int.natCast_nonneg, Int.toNat_natCast, zkc_ h hi hj, Option.bind_some, List.length_singleton, b, hw]
      exact ih _ (by rw [hq, List.length_append, List.length_singleton, List.range_succ, List.map_append, ← List.append_assoc]; rfl)
    · intro n q hq
      subst hq
      simp only [z7l_, List.length_range, Int.lt_irrefl, decide_false, Bool.false_eq_true, if_false]
      rfl
  have := zq_ (α := Nat) (A := List Int) (L := fun n i q => z7m_ k n (R : Int) m (C : Int) i [] q 0 0 0 m.1 (C : Int) (R : Int) (fun q_15 q_16 v_8a_17 v_8ba_18 v_8bba_19 v_9a_20 v_9ba_21 v_9bba_22 => some (v_9a_20, (v_9ba_21, (v_9bba_22, q_16))))) (I := fun pre q => q = zt_ (fun j i => m.2.2.2.getD (i * C + j) 0) R pre.length) (G := fun _ _ => some ((m.1, (C : Int), (R : Int), zt_ (fun j i => m.2.2.2.getD (i * C + j) 0) R C) : Mat)) (List.range C) ?_ ?_ k (by simp; omega) [] rfl
  · rw [show z7m_ k k (R : Int) m (C : Int) 0 [] [] 0 0 0 m.1 (C : Int) (R : Int) (fun q_15 q_16 v_8a_17 v_8ba_18 v_8bba_19 v_9a_20 v_9ba_21 v_9bba_22 => some (v_9a_20, (v_9ba_21, (v_9bba_22, q_16)))) = _ from this]
    rfl
  · intro n pre x post q _ hq ih _ hlt
    rw [List.length_range] at hlt
    have hi : pre.length < C := by omega
    have hw := ze_ (i := pre.length) (by omega)
    subst hq
    simp only [z7m_, hlt, decide_true, if_true, row pre.length hi, hw]
    exact ih _ (by rw [List.length_append, List.length_singleton])
  · intro n q hq
    subst hq
    simp only [z7m_, List.length_range, Int.lt_irrefl, decide_false, Bool.false_eq_true, if_false]
theorem zok_ {e : Nat → Nat → Int} {C : Nat} : ∀ {R i j : Nat}, i < R → j < C → (zt_ e C R)[i * C + j]? = some (e i j)
  | R + 1, i, j, hi, hj => by
    show (zt_ e C R ++ (List.range C).map (e R))[i * C + j]? = _
    by_cases c : i < R
    · have : i * C + j < R * C := zka_ c hj
      rw [List.getElem?_append_left (by rw [z5c_]; exact this)]
      exact zok_ c hj
    · have hiR : i = R := by omega
      subst hiR
      rw [List.getElem?_append_right (by rw [z5c_]; omega), z5c_, Nat.add_sub_cancel_left, List.getElem?_map, List.getElem?_range hj]
      rfl
theorem zuu_ {m : Mat} {R C : Nat} (h : MatP m R C) : MatP (m.1, (C : Int), (R : Int), zt_ (fun j i => m.2.2.2.getD (i * C + j) 0) R C) C R where
  rows := rfl
  cols := rfl
  r32 := h.c32
  c32 := h.r32
  len := z5c_ ..
  prime := h.prime
  cells := by
    have : ∀ n, ∀ x ∈ zt_ (fun j i => m.2.2.2.getD (i * C + j) 0) R n, 0 ≤ x ∧ x ≤ 250 := by
      intro n
      induction n with
      | zero => simp [zt_]
      | succ n ih =>
        intro x hx
        have hx : x ∈ zt_ (fun j i => m.2.2.2.getD (i * C + j) 0) R n ++ (List.range R).map (fun i => m.2.2.2.getD (i * C + n) 0) := hx
        rcases List.mem_append.1 hx with hx | hx
        · exact ih x hx
        · obtain ⟨i, _, rfl⟩ := List.mem_map.1 hx
          exact zkb_ h _
    exact this C
theorem zuv_ {k : Nat} (hk : KK ≤ k) {a b : List Int} {K : Nat} (ha : a.length = K) (hb : b.length = K) (hK32 : K ≤ 32) {p : Int} (hp : 2 ≤ p ∧ p ≤ 251) {f : Nat → Int} (hf : ∀ t, 0 ≤ f t ∧ f t ≤ 62500) (hab : ∀ t x y, a[t]? = some x → b[t]? = some y → x * y = f t) : zgd_ k a b p = some (sumN f K % p) := by
  have hK := zg_
  unfold zgd_
  have := zq_ (A := Int) (L := fun n i z => zah_ k n a b p z (a.length : Int) i (fun sum_3 => some sum_3)) (I := fun pre z => z = sumN f pre.length % p) (G := fun _ _ => some (sumN f K % p)) a ?_ ?_ k (by omega) 0 (by simp [sumN])
  · exact this
  · intro n pre x post z hx hz ih hg hlt
    have hw := ze_ (i := pre.length) (by omega)
    have hlb : pre.length < b.length := by omega
    have hgb : b[pre.length]? = some b[pre.length] := List.getElem?_eq_getElem hlb
    have hxy := hab pre.length x _ hg hgb
    have hft := hf pre.length
    have hz0 : 0 ≤ z ∧ z < p := by rw [hz]; exact ⟨Int.emod_nonneg _ (by omega), Int.emod_lt_of_pos _ (by omega)⟩
    have w1 : z0_ (f pre.length) = f pre.length := w_id (by omega) (by omega)
    have w2 : z0_ (z + f pre.length) = z + f pre.length := w_id (by omega) (by omega)
    have hm : Int.tmod (z + f pre.length) p = sumN f (pre.length + 1) % p := by
      rw [Int.tmod_eq_emod_of_nonneg (by omega), hz]
      show (sumN f pre.length % p + f pre.length) % p = (sumN f pre.length + f pre.length) % p
      rw [Int.emod_add_emod]
    simp only [zah_, hlt, decide_true, if_true, Int.natCast_nonneg, Int.toNat_natCast, hg, hgb, Option.bind_some, hxy, show ¬ p = 0 by omega, if_false, w1, w2, hm, hw]
    exact ih _ (by rw [List.length_append, List.length_singleton])
  · intro n z hz
    subst hz
    simp only [zah_, Int.lt_irrefl, decide_false, Bool.false_eq_true, if_false, ha]
theorem zol_ {m : Mat} {R C : Nat} (h : MatP m R C) (r t : Nat) {x : Int} (hx : (rowM m.2.2.2 C r)[t]? = some x) : x = m.2.2.2.getD (r * C + t) 0 := by
  have ht : t < C := by
    have := (List.getElem?_eq_some_iff.1 hx).1
    unfold rowM at this
    rw [List.length_take] at this
    omega
  rw [zup_ ht] at hx
  rw [List.getD_eq_getElem?_getD, hx]; rfl
theorem zuw_ {k : Nat} (hk : KK ≤ k) {a b : Mat} {R K C : Nat} (ha : MatP a R K) (hb : MatP b K C) : zai_ k a b = some (z7v_ a b R K C) := by
  have hK := zg_
  have hL := zy_
  have hR := ha.r32
  have hKK := ha.c32
  have hC := hb.c32
  have hRC : R * C ≤ 32 * 32 := Nat.mul_le_mul hR hC
  have hT := zuu_ hb
  unfold zai_ zjq_
  rw [zut_ hk hb]
  simp only [Option.bind_some]
  rw [zur_ hk hT]
  simp only [Option.bind_some]
  unfold zjr_
  rw [ha.rows, hb.cols]
  generalize hcols : (List.range C).map (rowM (zt_ (fun j i => b.2.2.2.getD (i * C + j) 0) K C) K) = cols
  have hcell : ∀ i j : Nat, i < R → j < C → zge_ k (i : Int) (j : Int) a cols = some (entP a.2.2.2 b.2.2.2 K C a.1 i j) := by
    intro i j hi hj
    have hrow : z7n_ a (i : Int) = some (rowM a.2.2.2 K i) := by
      have h1 : (i + 1) * K ≤ R * K := Nat.mul_le_mul_right _ hi
      have h2 : R * K ≤ 32 * 32 := Nat.mul_le_mul hR hKK
      have h3 : (i + 1) * K = i * K + K := Nat.succ_mul _ _
      have hw := ze_ (i := i) (by omega)
      unfold z7n_
      rw [ha.cols, z7w_ (by omega) hKK, hw, z7w_ (i := i + 1) (by omega) hKK, if_pos ⟨by omega, by omega, by rw [ha.len]; omega⟩, Int.toNat_natCast, Int.toNat_natCast, show (i + 1) * K - i * K = K by omega]
      rfl
    have hcol : cols[j]? = some (rowM (zt_ (fun j i => b.2.2.2.getD (i * C + j) 0) K C) K j) := by rw [← hcols, List.getElem?_map, List.getElem?_range hj]; rfl
    unfold zge_
    rw [hrow]
    simp only [Option.bind_some, Int.natCast_nonneg, if_true, Int.toNat_natCast, hcol]
    rw [zuv_ hk (K := K) (zgr_ ha.len hi) (zgr_ hT.len hj) hKK ha.prime (f := z3k_ a.2.2.2 b.2.2.2 K C i j) (fun t => zgs_ ha hb i j t) (fun t x y hx hy => by
      have h1 := zol_ ha i t hx
      have h2 := zol_ hT j t hy
      have ht : t < K := by
        have := (List.getElem?_eq_some_iff.1 hy).1
        rw [zgr_ hT.len hj] at this
        exact this
      have h3 : (zt_ (fun j i => b.2.2.2.getD (i * C + j) 0) K C).getD (j * K + t) 0 = b.2.2.2.getD (t * C + j) 0 := by rw [List.getD_eq_getElem?_getD, zok_ hj ht]; rfl
      rw [h1, h2]
      show _ * (zt_ (fun j i => b.2.2.2.getD (i * C + j) 0) K C).getD (j * K + t) 0 = _
      rw [h3]
      rfl)]
    rfl
  have row : ∀ (i : Nat), i < R → ∀ (x16 x17 : Int) (q3 : List Int) (u1 u2 u3 u4 u5 u6 : Int) (E : Int → (Mat × List (List Int)) → Int → Int → List Int → List Int → Int → Int → Int → Int → Int → Int → Option Mat), z7o_ k k (C : Int) (a, cols) (i : Int) x16 x17 (C : Int) 0 q3 (zt_ (entP a.2.2.2 b.2.2.2 K C a.1) C i) u1 u2 u3 u4 u5 u6 E = E (C : Int) (a, cols) x16 x17 q3 (zt_ (entP a.2.2.2 b.2.2.2 K C a.1) C (i + 1)) u1 u2 u3 u4 u5 u6 := by
    intro i hi x16 x17 q3 u1 u2 u3 u4 u5 u6 E
    refine zq_ (α := Nat) (A := List Int) (L := fun n j q => z7o_ k n (C : Int) (a, cols) (i : Int) x16 x17 (C : Int) j q3 q u1 u2 u3 u4 u5 u6 E) (I := fun pre q => q = zt_ (entP a.2.2.2 b.2.2.2 K C a.1) C i ++ (List.range pre.length).map (entP a.2.2.2 b.2.2.2 K C a.1 i)) (G := fun _ _ => E (C : Int) (a, cols) x16 x17 q3 (zt_ (entP a.2.2.2 b.2.2.2 K C a.1) C (i + 1)) u1 u2 u3 u4 u5 u6) (List.range C) ?_ ?_ k (by simp; omega) _ (by simp) |> fun h => h
    · intro n pre x post q _ hq ih _ hlt
      rw [List.length_range] at hlt
      have hj : pre.length < C := by omega
      have hw := ze_ (i := pre.length) (by omega)
      have hic : i * C ≤ 32 * 32 := Nat.mul_le_mul (by omega) (by omega)
      have b1 : (q.length + 1) * 8 ≤ LIM := by rw [hq, List.length_append, z5c_, List.length_map, List.length_range]; omega
      simp only [z7o_, hlt, decide_true, if_true, hcell i pre.length hi hj, Option.bind_some, List.length_singleton, b1, hw]
      exact ih _ (by rw [hq, List.length_append, List.length_singleton, List.range_succ, List.map_append, ← List.append_assoc]; rfl)
    · intro n q hq
      subst hq
      simp only [z7o_, List.length_range, Int.lt_irrefl, decide_false, Bool.false_eq_true, if_false]
      rfl
  have := zq_ (α := Nat) (A := List Int) (L := fun n i q => z7p_ k n (C : Int) (a, cols) (R : Int) i [] q 0 0 0 a.1 (R : Int) (C : Int) (fun q_15 q_16 v_8a_17 v_8ba_18 v_8bba_19 v_9a_20 v_9ba_21 v_9bba_22 => some (v_9a_20, (v_9ba_21, (v_9bba_22, q_16))))) (I := fun pre q => q = zt_ (entP a.2.2.2 b.2.2.2 K C a.1) C pre.length) (G := fun _ _ => some (z7v_ a b R K C)) (List.range R) ?_ ?_ k (by simp; omega) [] rfl
  · rw [show z7p_ k k (C : Int) (a, cols) (R : Int) 0 [] [] 0 0 0 a.1 (R : Int) (C : Int) (fun q_15 q_16 v_8a_17 v_8ba_18 v_8bba_19 v_9a_20 v_9ba_21 v_9bba_22 => some (v_9a_20, (v_9ba_21, (v_9bba_22, q_16)))) = _ from this]
    rfl
  · intro n pre x post q _ hq ih _ hlt
    rw [List.length_range] at hlt
    have hi : pre.length < R := by omega
    have hw := ze_ (i := pre.length) (by omega)
    subst hq
    simp only [z7p_, hlt, decide_true, if_true, row pre.length hi, hw]
    exact ih _ (by rw [List.length_append, List.length_singleton])
  · intro n q hq
    subst hq
    simp only [z7p_, List.length_range, Int.lt_irrefl, decide_false, Bool.false_eq_true, if_false]
    rfl
theorem zam_ {R : Type} {L : Nat → Int → R} {b : Nat} {p : Nat → Bool} {e : R} {Q : R → Prop} (h1 : ∀ n (i : Nat), i < b → p i = true → L (n + 1) (i : Int) = L n ((i + 1 : Nat) : Int)) (h2 : ∀ n (i : Nat), i < b → p i = false → Q (L (n + 1) (i : Int))) (h3 : ∀ n, L (n + 1) (b : Int) = e) {n : Nat} (hn : b < n) :
    ((List.range b).all p = true → L n 0 = e) ∧ ((List.range b).all p = false → Q (L n 0)) := by
  have main : ∀ (d i n : Nat), i + d = b → d < n → ((∀ x, i ≤ x → x < b → p x = true) → L n (i : Int) = e) ∧ ((∃ x, i ≤ x ∧ x < b ∧ p x = false) → Q (L n (i : Int))) := by
    intro d
    induction d with
    | zero =>
      intro i n hi hn
      obtain ⟨n, rfl⟩ : ∃ m, n = m + 1 := ⟨n - 1, by omega⟩
      have : i = b := by omega
      subst this
      exact ⟨fun _ => h3 n, fun ⟨x, h1, h2, _⟩ => by omega⟩
    | succ d ih =>
      intro i n hi hn
      obtain ⟨n, rfl⟩ : ∃ m, n = m + 1 := ⟨n - 1, by omega⟩
      have hib : i < b := by omega
      obtain ⟨g1, g2⟩ := ih (i + 1) n (by omega) (by omega)
      cases hp : p i with
      | true =>
        rw [h1 n i hib hp]
        refine ⟨fun h => g1 fun x hx hxb => h x (by omega) hxb, fun ⟨x, hx, hxb, hpx⟩ => g2 ⟨x, ?_, hxb, hpx⟩⟩
        rcases Nat.lt_or_ge i x with h | h
        · exact h
        · have : x = i := by omega
          subst this; rw [hp] at hpx; cases hpx
      | false => exact ⟨fun h => (by have := h i (Nat.le_refl _) hib; rw [hp] at this; cases this), fun _ => h2 n i hib hp⟩
  obtain ⟨g1, g2⟩ := main b 0 n (by omega) hn
  refine ⟨fun h => g1 fun x _ hx => List.all_eq_true.1 h x (List.mem_range.2 hx), fun h => g2 ?_⟩
  obtain ⟨x, hx, hp⟩ := List.all_eq_false.1 h
  exact ⟨x, by omega, List.mem_range.1 hx, by simpa using hp⟩
def stN (s : She) (x : Nat) : Nat := (s.2.2.1.getD x 0).toNat
def mpS (s : She) (j i : Nat) : Mat := s.2.2.2.getD ((arrN s.1 j).length + i) (0, 0, 0, [])
theorem zux_ {k : Nat} {s : She} (h : sheB k s = true) : s.2.2.2.length = (arrN s.1 s.1.length).length ∧ chk k s 0 (arrN s.1 s.1.length) := by
  unfold sheB at h
  simp only [Bool.and_eq_true, decide_eq_true_eq] at h
  exact h.2.2.2
theorem zgt_ {k : Nat} (hk : KK ≤ k) {s : She} (hs : smallSh s) (h : sheB k s = true) {j : Nat} {t : List Int} (hj : s.1[j]? = some t) {i : Nat} (hi : i < (zi_ s.1 t).length) :
    s.2.2.2[(arrN s.1 j).length + i]? = some (mpS s j i) ∧ MatP (mpS s j i) (stN s j) (stN s ((zi_ s.1 t).getD i 0)) := by
  obtain ⟨hC, hp, hS⟩ := z4m_ hk h
  obtain ⟨_, hch⟩ := zux_ h
  have hjl := (List.getElem?_eq_some_iff.1 hj).1
  have hb := zk8_ (k := k) (s := s) s.1.length |>.2 hch j hjl
  obtain ⟨m, h1, h2⟩ := hb i _ (zoh_ hj hi)
  have e : mpS s j i = m := by unfold mpS; rw [List.getD_eq_getElem?_getD, h1]; rfl
  rw [e]
  refine ⟨h1, ?_⟩
  unfold okA at h2
  simp only [Bool.and_eq_true, decide_eq_true_eq] at h2
  obtain ⟨a1, a2, a3, a4⟩ := h2
  obtain ⟨R, C, hm⟩ := (zk6_ hk (hs.cells m (List.mem_of_getElem? h1))).2.2 a1
  have e1 : R = stN s j := by unfold stN; have := hm.rows; omega
  have e2 : C = stN s ((zi_ s.1 t).getD i 0) := by unfold stN; have := hm.cols; omega
  rw [← e1, ← e2]
  exact hm
theorem zkd_ {k : Nat} (hk : KK ≤ k) {s : She} (hs : smallSh s) (h : sheB k s = true) {j : Nat} {t : List Int} (hj : s.1[j]? = some t) {i : Nat} (hi : i < (zi_ s.1 t).length) : z74_ k s (j : Int) (i : Int) = some (mpS s j i) := by
  obtain ⟨hC, _, _⟩ := z4m_ hk h
  have hjl := (List.getElem?_eq_some_iff.1 hj).1
  have h4 := (hC.simp t (List.mem_of_getElem? hj)).len4
  have hfl := z7t_ s.1 t
  have hi4 : i ≤ 4 := by rw [hfl] at hi; split at hi <;> omega
  unfold z74_
  rw [zk5_ hk hC (by omega) hi4]
  simp only [Option.bind_some, Int.natCast_nonneg, if_true, Int.toNat_natCast, (zgt_ hk hs h hj hi).1]
theorem zuy_ {k : Nat} (hk : KK ≤ k) {s : She} (h : CxP s.1) {j : Nat} (hj : j ≤ s.1.length) : zg9_ k s (j : Int) = some ((arrN s.1 j).length : Int) := by
  have hK := zg_
  have hcl := h.len
  unfold zg9_
  rw [if_pos ⟨by omega, by omega, by omega⟩, Int.toNat_natCast]
  have htl : (s.1.take j).length = j := by rw [List.length_take]; omega
  refine zq_ (A := Int) (L := fun n i z => z69_ k n z (s.1.take j) ((s.1.take j).length : Int) i (fun n_3 => some n_3)) (I := fun pre z => z = ((arrN s.1 pre.length).length : Int)) (G := fun _ _ => some ((arrN s.1 j).length : Int)) (s.1.take j) ?_ ?_ k (by omega) 0 (by simp [arrN])
  · intro n pre x post z hx hz ih hg hlt
    have hpl : pre.length < j := by omega
    have hw := ze_ (i := pre.length) (by omega)
    have hgc : s.1[pre.length]? = some x := by rw [List.getElem?_take_of_lt hpl] at hg; exact hg
    have h4 := (h.simp _ (List.mem_of_getElem? hgc)).len4
    have hal := z5b_ h pre.length (by omega)
    have hnx : (arrN s.1 (pre.length + 1)).length = (arrN s.1 pre.length).length + (if 1 < x.length then x.length else 0) := by rw [z7u_, List.length_append, zgq_ hgc]
    simp only [z69_, hlt, decide_true, if_true, Int.natCast_nonneg, Int.toNat_natCast, hg, Option.bind_some, hw]
    by_cases c1 : 1 < x.length
    · have hwz : z0_ (z + (x.length : Int)) = z + (x.length : Int) := w_id (by omega) (by omega)
      rw [decide_eq_true (by omega), if_pos rfl]
      show z69_ k n (z0_ (z + (x.length : Int))) _ _ _ _ = _
      rw [hwz]
      refine ih _ ?_
      rw [if_pos c1] at hnx
      rw [List.length_append, List.length_singleton, hnx, hz]; rfl
    · rw [decide_eq_false (by omega), if_neg (by simp)]
      refine ih _ ?_
      rw [if_neg c1] at hnx
      rw [List.length_append, List.length_singleton, hnx, hz]; rfl
  · intro n z hz
    rw [htl] at hz
    simp only [z69_, Int.lt_irrefl, decide_false, Bool.false_eq_true, if_false, hz]
theorem zom_ {k : Nat} (hk : KK ≤ k) {s : She} (hs : smallSh s) (h : sheB k s = true) {j : Nat} {t : List Int} (hj : s.1[j]? = some t) {i : Nat} (hi : i < (zi_ s.1 t).length) : z58_ k s (j : Int) (i : Int) = some (mpS s j i) := by
  obtain ⟨hC, _, _⟩ := z4m_ hk h
  have hjl := (List.getElem?_eq_some_iff.1 hj).1
  have hcl := hC.len
  have hal := z5b_ hC j (by omega)
  have h4 := (hC.simp t (List.mem_of_getElem? hj)).len4
  have hfl := z7t_ s.1 t
  have hi4 : i ≤ 4 := by rw [hfl] at hi; split at hi <;> omega
  have hw : z0_ (((arrN s.1 j).length : Int) + (i : Int)) = (((arrN s.1 j).length + i : Nat) : Int) := by rw [w_id (by omega) (by omega)]; omega
  unfold z58_
  rw [zuy_ hk hC (by omega)]
  simp only [Option.bind_some, hw, Int.natCast_nonneg, if_true, Int.toNat_natCast, (zgt_ hk hs h hj hi).1]
theorem zgu_ {s : She} (hC : CxP s.1) {j : Nat} {t : List Int} (hj : s.1[j]? = some t) (h3 : 2 < t.length) {i : Nat} (hi : i < t.length) :
    (zi_ s.1 t).length = t.length ∧ (zi_ s.1 t)[i]? = some ((zi_ s.1 t).getD i 0) ∧ ∃ f, s.1[(zi_ s.1 t).getD i 0]? = some f ∧ f.length = t.length - 1 ∧ (zi_ s.1 f).length = t.length - 1 := by
  have hm := List.mem_of_getElem? hj
  have hfl := z7t_ s.1 t
  rw [if_pos (by omega)] at hfl
  have hF : (zi_ s.1 t).getD i 0 = posC s.1 (z1h_ t i) := by
    rw [List.getD_eq_getElem?_getD]
    unfold zi_ z1c_
    rw [if_pos (by omega), List.getElem?_map, List.getElem?_map, List.getElem?_range hi]; rfl
  have hmem := hC.face t hm (by omega) i hi
  have hdl := zgl_ hi
  have hfl2 := z7t_ s.1 (z1h_ t i)
  rw [if_pos (by omega)] at hfl2
  refine ⟨hfl, ?_, z1h_ t i, by rw [hF]; exact zk1_ hmem, hdl, by omega⟩
  rw [List.getD_eq_getElem?_getD, List.getElem?_eq_getElem (by omega)]; rfl
def sqS (s : She) (j : Nat) (t : List Int) (i i2 : Nat) : Mat :=
  z7v_ (mpS s j i) (mpS s ((zi_ s.1 t).getD i 0) (if i < i2 then i2 - 1 else i2)) (stN s j) (stN s ((zi_ s.1 t).getD i 0)) (stN s ((zi_ s.1 (s.1.getD ((zi_ s.1 t).getD i 0) [])).getD (if i < i2 then i2 - 1 else i2) 0))
theorem zke_ {k : Nat} (hk : KK ≤ k) {s : She} (hs : smallSh s) (h : sheB k s = true) {j : Nat} {t : List Int} (hj : s.1[j]? = some t) (h3 : 2 < t.length) {i i2 : Nat} (hi : i < t.length) (hi2 : i2 < t.length) (hne : i ≠ i2) :
    ∃ R K C, MatP (mpS s j i) R K ∧ MatP (mpS s ((zi_ s.1 t).getD i 0) (if i < i2 then i2 - 1 else i2)) K C ∧ z7v_ (mpS s j i) (mpS s ((zi_ s.1 t).getD i 0) (if i < i2 then i2 - 1 else i2)) R K C = sqS s j t i i2 ∧
      (∃ f, s.1[(zi_ s.1 t).getD i 0]? = some f ∧ (if i < i2 then i2 - 1 else i2) < (zi_ s.1 f).length) ∧ i < (zi_ s.1 t).length := by
  obtain ⟨hC, _, _⟩ := z4m_ hk h
  obtain ⟨f1, f2, f, f3, f4, f5⟩ := zgu_ hC hj h3 hi
  have hx : (if i < i2 then i2 - 1 else i2) < (zi_ s.1 f).length := by rw [f5]; split <;> omega
  have m1 := (zgt_ hk hs h hj (i := i) (by omega)).2
  have m2 := (zgt_ hk hs h f3 hx).2
  have hgd : s.1.getD ((zi_ s.1 t).getD i 0) [] = f := by rw [List.getD_eq_getElem?_getD, f3]; rfl
  refine ⟨_, _, _, m1, m2, ?_, ⟨f, f3, hx⟩, by omega⟩
  unfold sqS
  rw [hgd]
theorem zgv_ {k : Nat} (hk : KK ≤ k) {s : She} (hs : smallSh s) (h : sheB k s = true) {j : Nat} {t : List Int} (hj : s.1[j]? = some t) (h3 : 2 < t.length) {i i2 : Nat} (hi : i < t.length) (hi2 : i2 < t.length) (hne : i ≠ i2) : zc1_ k s (j : Int) (i : Int) (i2 : Int) = some (sqS s j t i i2) := by
  obtain ⟨hC, _, _⟩ := z4m_ hk h
  have hsl := (hC.simp t (List.mem_of_getElem? hj)).len4
  obtain ⟨f1, f2, _⟩ := zgu_ hC hj h3 hi
  obtain ⟨R, K, C, m1, m2, m3, ⟨f, f3, hx⟩, hil⟩ := zke_ hk hs h hj h3 hi hi2 hne
  have hF : ((zi_ s.1 t).map fun i : Nat => (i : Int))[i]? = some (((zi_ s.1 t).getD i 0 : Nat) : Int) := by rw [List.getElem?_map, f2]; rfl
  unfold zc1_
  rw [zog_ hk hC hj]
  simp only [Option.bind_some, List.length_map, Int.natCast_nonneg, Int.toNat_natCast, hil, and_self, if_true, hF, zkd_ hk hs h hj hil]
  by_cases c : i < i2
  · have hw : z0_ ((i2 : Int) - 1) = ((i2 - 1 : Nat) : Int) := by rw [w_id (by omega) (by omega)]; omega
    rw [if_pos c] at m2 m3 hx
    rw [decide_eq_true (by omega), if_pos rfl, hw, zkd_ hk hs h f3 hx]
    simp only [Option.bind_some, zoj_ hk m1 m2, m3]
  · rw [if_neg c] at m2 m3 hx
    rw [decide_eq_false (by omega), if_neg (by simp), zkd_ hk hs h f3 hx]
    simp only [Option.bind_some, zoj_ hk m1 m2, m3]
theorem zon_ {k : Nat} (hk : KK ≤ k) {s : She} (hs : smallSh s) (h : sheB k s = true) {j : Nat} {t : List Int} (hj : s.1[j]? = some t) (h3 : 2 < t.length) {i i2 : Nat} (hi : i < t.length) (hi2 : i2 < t.length) (hne : i ≠ i2) :
    z58_ k s (j : Int) (i : Int) = some (mpS s j i) ∧ z58_ k s (((zi_ s.1 t).getD i 0 : Nat) : Int) ((if i < i2 then i2 - 1 else i2 : Nat) : Int) = some (mpS s ((zi_ s.1 t).getD i 0) (if i < i2 then i2 - 1 else i2)) ∧
      zai_ k (mpS s j i) (mpS s ((zi_ s.1 t).getD i 0) (if i < i2 then i2 - 1 else i2)) = some (sqS s j t i i2) := by
  obtain ⟨R, K, C, m1, m2, m3, ⟨f, f3, hx⟩, hil⟩ := zke_ hk hs h hj h3 hi hi2 hne
  exact ⟨zom_ hk hs h hj hil, zom_ hk hs h f3 hx, by rw [zuw_ hk m1 m2, m3]⟩
theorem zoo_ {k : Nat} (hk : KK ≤ k) {a b : Mat} (ha : a.2.2.2.length ≤ 1048576) : zfd_ k a b = some (decide (a = b)) := by
  have hK := zg_
  obtain ⟨a1, a2, a3, a4⟩ := a
  obtain ⟨b1, b2, b3, b4⟩ := b
  unfold zfd_
  simp only at ha ⊢
  by_cases e1 : a1 = b1
  case neg => rw [decide_eq_false e1, if_pos (by simp), decide_eq_false (fun z => e1 (by cases z; rfl))]
  rw [decide_eq_true e1, if_neg (by simp)]
  by_cases e2 : a2 = b2
  case neg => rw [decide_eq_false e2, if_pos (by simp), decide_eq_false (fun z => e2 (by cases z; rfl))]
  rw [decide_eq_true e2, if_neg (by simp)]
  by_cases e3 : a3 = b3
  case neg => rw [decide_eq_false e3, if_pos (by simp), decide_eq_false (fun z => e3 (by cases z; rfl))]
  rw [decide_eq_true e3, if_neg (by simp)]
  by_cases hl : a4.length = b4.length
  case neg => rw [decide_eq_false (by omega), if_pos (by simp), decide_eq_false (fun z => hl (by cases z; rfl))]
  rw [decide_eq_true (by omega), if_neg (by simp)]
  have := z51_ (L := fun n i => z9t_ k n (a1, a2, a3, a4) (b1, b2, b3, b4) i (some true)) a4 b4 hl ?_ ?_ (n := k) (by omega)
  · refine Eq.trans this ?_
    congr 1
    refine decide_eq_decide.2 ⟨fun z => by rw [e1, e2, e3, z], fun z => by cases z; rfl⟩
  · intro n i x y hx hy hlt
    have hw := ze_ (i := i) (by omega)
    by_cases e : x = y <;> simp [z9t_, hlt, hx, hy, hw, e]
  · intro n
    simp [z9t_]
theorem zuz_ {k : Nat} (hk : KK ≤ k) {a b : Mat} (ha : a.2.2.2.length ≤ 1048576) : zgf_ k a b = some (decide (a = b)) := by
  have hK := zg_
  obtain ⟨a1, a2, a3, a4⟩ := a
  obtain ⟨b1, b2, b3, b4⟩ := b
  unfold zgf_ zjs_
  simp only at ha ⊢
  by_cases e1 : a1 = b1
  case neg => rw [decide_eq_false e1, if_neg (by simp), decide_eq_false (fun z => e1 (by cases z; rfl))]
  rw [decide_eq_true e1, if_pos rfl]
  by_cases e2 : a2 = b2
  case neg => rw [decide_eq_false e2, if_neg (by simp), decide_eq_false (fun z => e2 (by cases z; rfl))]
  rw [decide_eq_true e2, if_pos rfl]
  by_cases e3 : a3 = b3
  case neg => rw [decide_eq_false e3, if_neg (by simp), decide_eq_false (fun z => e3 (by cases z; rfl))]
  rw [decide_eq_true e3, if_pos rfl]
  by_cases hl : a4.length = b4.length
  case neg => rw [decide_eq_false (by omega), if_pos (by simp), decide_eq_false (fun z => hl (by cases z; rfl))]; rfl
  rw [decide_eq_true (by omega), if_neg (by simp)]
  have := z51_ (L := fun n i => z7q_ k n a4 b4 (a4.length : Int) i (some true)) a4 b4 hl ?_ ?_ (n := k) (by omega)
  · have h0 : z7q_ k k a4 b4 (a4.length : Int) 0 (some true) = _ := this
    rw [h0]
    simp only [Option.bind_some]
    congr 1
    refine decide_eq_decide.2 ⟨fun z => by rw [e1, e2, e3, z], fun z => by cases z; rfl⟩
  · intro n i x y hx hy hlt
    have hw := ze_ (i := i) (by omega)
    by_cases e : x = y <;> simp [z7q_, hlt, hx, hy, hw, e]
  · intro n
    simp [z7q_]
theorem zv0_ (a b : Mat) (R K C : Nat) : (z7v_ a b R K C).2.2.2.length = R * C := z5c_ ..
def sqOk (s : She) (j : Nat) (t : List Int) (i i2 : Nat) : Bool := decide (sqS s j t i i2 = sqS s j t i2 i)
def z7x_ (s : She) (j : Nat) (t : List Int) (i : Nat) : Bool := (List.range (t.length - (i + 1))).all fun d => sqOk s j t i (i + 1 + d)
def z3w_ (s : She) (j : Nat) : Bool := match s.1[j]? with
  | some t => if 2 < t.length then (List.range t.length).all (z7x_ s j t) else true
  | none => true
noncomputable def shfB (k : Nat) (s : She) : Bool := sheB k s && (List.range s.1.length).all (z3w_ s)
theorem zkf_ {k : Nat} (hk : KK ≤ k) {s : She} (hs : smallSh s) (h : sheB k s = true) {j : Nat} {t : List Int} (hj : s.1[j]? = some t) (h3 : 2 < t.length) {i i2 : Nat} (hi : i < t.length) (hi2 : i2 < t.length) (hne : i ≠ i2) : (sqS s j t i i2).2.2.2.length ≤ 1048576 := by
  obtain ⟨R, K, C, m1, m2, m3, _⟩ := zke_ hk hs h hj h3 hi hi2 hne
  rw [← m3, zv0_]
  have : R * C ≤ 32 * 32 := Nat.mul_le_mul m1.r32 m2.c32
  omega
theorem zop_ {k : Nat} (hk : KK ≤ k) {s : She} (hs : smallSh s) (h : sheB k s = true) {j : Nat} {t : List Int} (hj : s.1[j]? = some t) (h3 : 2 < t.length) {i : Nat} (hi : i < t.length) (E : She → Int → Int → Int → Option (Int × Int × Int)) :
    (z7x_ s j t i = true → z3j_ k k s (j : Int) (t.length : Int) (i : Int) ((i + 1 : Nat) : Int) E = E s (j : Int) (t.length : Int) (i : Int)) ∧ (z7x_ s j t i = false → ∃ a b : Int, z3j_ k k s (j : Int) (t.length : Int) (i : Int) ((i + 1 : Nat) : Int) E = some ((j : Int), a, b)) := by
  have hK := zg_
  obtain ⟨hC, _, _⟩ := z4m_ hk h
  have h4 := (hC.simp t (List.mem_of_getElem? hj)).len4
  have key := zam_ (L := fun n z => z3j_ k n s (j : Int) (t.length : Int) (i : Int) (((i + 1 : Nat) : Int) + z) E) (b := t.length - (i + 1)) (p := fun d => sqOk s j t i (i + 1 + d)) (e := E s (j : Int) (t.length : Int) (i : Int)) (Q := fun r => ∃ a b : Int, r = some ((j : Int), a, b)) ?_ ?_ ?_ (n := k) (by omega)
  · rw [Int.add_zero] at key
    exact key
  · intro n d hd hp
    have e1 : ((i + 1 : Nat) : Int) + (d : Int) = ((i + 1 + d : Nat) : Int) := by omega
    have e2 : ((i + 1 : Nat) : Int) + ((d + 1 : Nat) : Int) = ((i + 1 + d + 1 : Nat) : Int) := by omega
    have hlt : ((i + 1 + d : Nat) : Int) < (t.length : Int) := by omega
    have hw := ze_ (i := i + 1 + d) (by omega)
    have hsq : decide (sqS s j t i (i + 1 + d) = sqS s j t (i + 1 + d) i) = true := hp
    show z3j_ k (n + 1) s (j : Int) (t.length : Int) (i : Int) (((i + 1 : Nat) : Int) + (d : Int)) E = z3j_ k n s (j : Int) (t.length : Int) (i : Int) (((i + 1 : Nat) : Int) + ((d + 1 : Nat) : Int)) E
    rw [e1, e2]
    simp only [z3j_, hlt, decide_true, if_true, zgv_ hk hs h hj h3 hi (show i + 1 + d < t.length by omega) (by omega), zgv_ hk hs h hj h3 (show i + 1 + d < t.length by omega) hi (by omega), Option.bind_some, zoo_ hk (zkf_ hk hs h hj h3 hi (show i + 1 + d < t.length by omega) (by omega)), hsq, Bool.not_true, Bool.false_eq_true, if_false, hw]
  · intro n d hd hp
    have e1 : ((i + 1 : Nat) : Int) + (d : Int) = ((i + 1 + d : Nat) : Int) := by omega
    have hlt : ((i + 1 + d : Nat) : Int) < (t.length : Int) := by omega
    have hsq : decide (sqS s j t i (i + 1 + d) = sqS s j t (i + 1 + d) i) = false := hp
    refine ⟨(i : Int), ((i + 1 + d : Nat) : Int), ?_⟩
    show z3j_ k (n + 1) s (j : Int) (t.length : Int) (i : Int) (((i + 1 : Nat) : Int) + (d : Int)) E = _
    rw [e1]
    simp only [z3j_, hlt, decide_true, if_true, zgv_ hk hs h hj h3 hi (show i + 1 + d < t.length by omega) (by omega), zgv_ hk hs h hj h3 (show i + 1 + d < t.length by omega) hi (by omega), Option.bind_some, zoo_ hk (zkf_ hk hs h hj h3 hi (show i + 1 + d < t.length by omega) (by omega)), hsq, Bool.not_false]
  · intro n
    have e1 : ((i + 1 : Nat) : Int) + ((t.length - (i + 1) : Nat) : Int) = (t.length : Int) := by omega
    show z3j_ k (n + 1) s (j : Int) (t.length : Int) (i : Int) (((i + 1 : Nat) : Int) + ((t.length - (i + 1) : Nat) : Int)) E = _
    rw [e1]
    simp only [z3j_, Int.lt_irrefl, decide_false, Bool.false_eq_true, if_false]
theorem zoq_ {k : Nat} (hk : KK ≤ k) {s : She} (hs : smallSh s) (h : sheB k s = true) {j : Nat} {t : List Int} (hj : s.1[j]? = some t) (E : She → Int → Option (Int × Int × Int)) :
    (z3w_ s j = true → z3u_ k k s (j : Int) (t.length : Int) 0 E = E s (j : Int)) ∧ (z3w_ s j = false → ∃ a b : Int, z3u_ k k s (j : Int) (t.length : Int) 0 E = some ((j : Int), a, b)) := by
  have hK := zg_
  obtain ⟨hC, _, _⟩ := z4m_ hk h
  have h4 := (hC.simp t (List.mem_of_getElem? hj)).len4
  unfold z3w_
  rw [hj]
  simp only
  by_cases h3 : 2 < t.length
  · rw [if_pos h3]
    refine zam_ (L := fun n i => z3u_ k n s (j : Int) (t.length : Int) i E) (b := t.length) (p := z7x_ s j t) (e := E s (j : Int)) (Q := fun r => ∃ a b : Int, r = some ((j : Int), a, b)) ?_ ?_ ?_ (n := k) (by omega)
    · intro n i hi hp
      have hlt : (i : Int) < (t.length : Int) := by omega
      have hlt3 : (2 : Int) < (t.length : Int) := by omega
      have hw := ze_ (i := i) (by omega)
      have := (zop_ hk hs h hj h3 hi (fun s_2 k_3 n_4 i_5 => z3u_ k n s_2 k_3 n_4 (z0_ (i_5 + 1)) E)).1 hp
      simp only [z3u_, hlt, hlt3, decide_true, if_true, hw, this]
    · intro n i hi hp
      have hlt : (i : Int) < (t.length : Int) := by omega
      have hlt3 : (2 : Int) < (t.length : Int) := by omega
      have hw := ze_ (i := i) (by omega)
      obtain ⟨a, b, this⟩ := (zop_ hk hs h hj h3 hi (fun s_2 k_3 n_4 i_5 => z3u_ k n s_2 k_3 n_4 (z0_ (i_5 + 1)) E)).2 hp
      refine ⟨a, b, ?_⟩
      simp only [z3u_, hlt, hlt3, decide_true, if_true, hw, this]
    · intro n
      simp only [z3u_, Int.lt_irrefl, decide_false, Bool.false_eq_true, if_false]
  · rw [if_neg h3]
    refine ⟨fun _ => ?_, fun z => by cases z⟩
    obtain ⟨n, rfl⟩ : ∃ n, k = n + 1 := ⟨k - 1, by omega⟩
    have hlt3 : ¬ (2 : Int) < (t.length : Int) := by omega
    simp only [z3u_, hlt3, decide_false, Bool.false_eq_true, if_false, ite_self]
theorem zv1_ {k : Nat} (hk : KK ≤ k) {s : She} (hs : smallSh s) : zfe_ k s = some (shfB k s) := by
  have hK := zg_
  unfold zfe_ shfB
  rw [zun_ hk hs]
  cases h : sheB k s with
  | false => simp
  | true =>
  obtain ⟨hC, _, _⟩ := z4m_ hk h
  have hcl := hC.len
  simp only [Option.bind_some, Bool.not_true, Bool.false_eq_true, if_false, Bool.true_and]
  have key := zam_ (L := fun n i => z65_ k n s i (some ((-1), 0, 0))) (b := s.1.length) (p := z3w_ s) (e := some ((-1 : Int), (0 : Int), (0 : Int))) (Q := fun r => ∃ (c : Nat) (a b : Int), r = some ((c : Int), a, b)) ?_ ?_ ?_ (n := k) (by omega)
  · unfold zj3_
    cases hall : (List.range s.1.length).all (z3w_ s) with
    | true => rw [key.1 hall]; rfl
    | false =>
      obtain ⟨c, a, b, e⟩ := key.2 hall
      rw [e]
      simp only [Option.bind_some]
      rw [decide_eq_false (by omega)]
  · intro n j hj hp
    have hlt : (j : Int) < (s.1.length : Int) := by omega
    have hw := ze_ (i := j) (by omega)
    have hg : s.1[j]? = some s.1[j] := List.getElem?_eq_getElem hj
    simp only [z65_, hlt, decide_true, if_true, Int.natCast_nonneg, Int.toNat_natCast, hg, Option.bind_some, (zoq_ hk hs h hg _).1 hp, hw]
  · intro n j hj hp
    have hlt : (j : Int) < (s.1.length : Int) := by omega
    have hg : s.1[j]? = some s.1[j] := List.getElem?_eq_getElem hj
    obtain ⟨a, b, e⟩ := (zoq_ hk hs h hg (fun s_2 k_3 => z65_ k n s_2 (z0_ (k_3 + 1)) (some ((-1), 0, 0)))).2 hp
    refine ⟨j, a, b, ?_⟩
    simp only [z65_, hlt, decide_true, if_true, Int.natCast_nonneg, Int.toNat_natCast, hg, Option.bind_some, e]
  · intro n
    simp only [z65_, Int.lt_irrefl, decide_false, Bool.false_eq_true, if_false]
theorem zor_ {k : Nat} (hk : KK ≤ k) {s : She} (hs : smallSh s) (h : sheB k s = true) {j : Nat} {t : List Int} (hj : s.1[j]? = some t) (h3 : 2 < t.length) {i : Nat} (hi : i < t.length) (x15 : List (List Int)) (x16 x17 x31 x32 : Int) (E : List Int → Int → List (List Int) → Int → Int → Int → Int → List Int → She → Option (Int × Int × Bool)) :
    (z7x_ s j t i = true → z34_ k k t (j : Int) (i : Int) ((i + 1 : Nat) : Int) x15 x16 x17 x31 x32 ((zi_ s.1 t).map fun i : Nat => (i : Int)) s E = E t (j : Int) x15 x16 x17 x31 x32 ((zi_ s.1 t).map fun i : Nat => (i : Int)) s) ∧ (z7x_ s j t i = false → ∃ a b : Int, z34_ k k t (j : Int) (i : Int) ((i + 1 : Nat) : Int) x15 x16 x17 x31 x32 ((zi_ s.1 t).map fun i : Nat => (i : Int)) s E = some (a, b, true)) := by
  have hK := zg_
  obtain ⟨hC, _, _⟩ := z4m_ hk h
  have h4 := (hC.simp t (List.mem_of_getElem? hj)).len4
  have hF : ∀ i, i < t.length → i < (zi_ s.1 t).length ∧ ((zi_ s.1 t).map fun i : Nat => (i : Int))[i]? = some (((zi_ s.1 t).getD i 0 : Nat) : Int) := fun i hi => by
    obtain ⟨f1, f2, _⟩ := zgu_ hC hj h3 hi
    exact ⟨by omega, by rw [List.getElem?_map, f2]; rfl⟩
  have step : ∀ n d, d < t.length - (i + 1) → z34_ k (n + 1) t (j : Int) (i : Int) ((i + 1 + d : Nat) : Int) x15 x16 x17 x31 x32 ((zi_ s.1 t).map fun i : Nat => (i : Int)) s E = (if (!decide (sqS s j t i (i + 1 + d) = sqS s j t (i + 1 + d) i)) = true then (z7j_ k s.1 (((zi_ s.1 t).getD i 0 : Nat) : Int)).bind fun r_15 => (if 0 ≤ ((i + 1 + d - 1 : Nat) : Int) ∧ (((i + 1 + d - 1 : Nat) : Int)).toNat < List.length r_15 then (r_15[(((i + 1 + d - 1 : Nat) : Int)).toNat]?).bind fun y_16 => some ((j : Int), y_16, true) else none) else z34_ k n t (j : Int) (i : Int) ((i + 1 + d + 1 : Nat) : Int) x15 x16 x17 x31 x32 ((zi_ s.1 t).map fun i : Nat => (i : Int)) s E) := by
    intro n d hd
    have hi2 : i + 1 + d < t.length := by omega
    have hlt : ((i + 1 + d : Nat) : Int) < (t.length : Int) := by omega
    have hw := ze_ (i := i + 1 + d) (by omega)
    have hw1 : z0_ (((i + 1 + d : Nat) : Int) - 1) = ((i + 1 + d - 1 : Nat) : Int) := by rw [w_id (by omega) (by omega)]; omega
    obtain ⟨a1, a2, a3⟩ := zon_ hk hs h hj h3 hi hi2 (by omega)
    obtain ⟨b1, b2, b3⟩ := zon_ hk hs h hj h3 hi2 hi (by omega)
    rw [if_pos (by omega)] at a2 a3
    rw [if_neg (by omega)] at b2 b3
    obtain ⟨g1, g2⟩ := hF i hi
    obtain ⟨g3, g4⟩ := hF (i + 1 + d) hi2
    simp only [z34_, hlt, decide_true, if_true, a1, Option.bind_some, List.length_map, Int.natCast_nonneg, Int.toNat_natCast, g1, and_self, g2, hw1, a2, a3, b1, g3, g4, b2, b3, zuz_ hk (zkf_ hk hs h hj h3 hi hi2 (by omega)), hw]
  have key := zam_ (L := fun n z => z34_ k n t (j : Int) (i : Int) (((i + 1 : Nat) : Int) + z) x15 x16 x17 x31 x32 ((zi_ s.1 t).map fun i : Nat => (i : Int)) s E) (b := t.length - (i + 1)) (p := fun d => sqOk s j t i (i + 1 + d)) (e := E t (j : Int) x15 x16 x17 x31 x32 ((zi_ s.1 t).map fun i : Nat => (i : Int)) s) (Q := fun r => ∃ a b : Int, r = some (a, b, true)) ?_ ?_ ?_ (n := k) (by omega)
  · rw [Int.add_zero] at key
    exact key
  · intro n d hd hp
    have e1 : ((i + 1 : Nat) : Int) + (d : Int) = ((i + 1 + d : Nat) : Int) := by omega
    have e2 : ((i + 1 : Nat) : Int) + ((d + 1 : Nat) : Int) = ((i + 1 + d + 1 : Nat) : Int) := by omega
    have hp' : decide (sqS s j t i (i + 1 + d) = sqS s j t (i + 1 + d) i) = true := hp
    show z34_ k (n + 1) t (j : Int) (i : Int) (((i + 1 : Nat) : Int) + (d : Int)) x15 x16 x17 x31 x32 ((zi_ s.1 t).map fun i : Nat => (i : Int)) s E = z34_ k n t (j : Int) (i : Int) (((i + 1 : Nat) : Int) + ((d + 1 : Nat) : Int)) x15 x16 x17 x31 x32 ((zi_ s.1 t).map fun i : Nat => (i : Int)) s E
    rw [e1, e2, step n d hd, if_neg (by rw [hp']; simp)]
  · intro n d hd hp
    have e1 : ((i + 1 : Nat) : Int) + (d : Int) = ((i + 1 + d : Nat) : Int) := by omega
    have hp' : decide (sqS s j t i (i + 1 + d) = sqS s j t (i + 1 + d) i) = false := hp
    obtain ⟨_, _, f, f3, f4, f5⟩ := zgu_ hC hj h3 hi
    have hlen : i + 1 + d - 1 < (zi_ s.1 f).length := by omega
    have hgf : ((zi_ s.1 f).map fun i : Nat => (i : Int))[i + 1 + d - 1]? = some (((zi_ s.1 f)[i + 1 + d - 1] : Nat) : Int) := by rw [List.getElem?_map, List.getElem?_eq_getElem hlen]; rfl
    refine ⟨(j : Int), (((zi_ s.1 f)[i + 1 + d - 1] : Nat) : Int), ?_⟩
    show z34_ k (n + 1) t (j : Int) (i : Int) (((i + 1 : Nat) : Int) + (d : Int)) x15 x16 x17 x31 x32 ((zi_ s.1 t).map fun i : Nat => (i : Int)) s E = _
    rw [e1, step n d hd, if_pos (by rw [hp']; rfl), zgp_ hk hC f3]
    simp only [Option.bind_some, List.length_map, Int.natCast_nonneg, Int.toNat_natCast, hlen, and_self, if_true, hgf]
  · intro n
    have e1 : ((i + 1 : Nat) : Int) + ((t.length - (i + 1) : Nat) : Int) = (t.length : Int) := by omega
    show z34_ k (n + 1) t (j : Int) (i : Int) (((i + 1 : Nat) : Int) + ((t.length - (i + 1) : Nat) : Int)) x15 x16 x17 x31 x32 ((zi_ s.1 t).map fun i : Nat => (i : Int)) s E = _
    rw [e1]
    simp only [z34_, Int.lt_irrefl, decide_false, Bool.false_eq_true, if_false]
theorem zv2_ {k : Nat} (hk : KK ≤ k) {s : She} (hs : smallSh s) : zgg_ k s = some (shfB k s) := by
  have hK := zg_
  unfold zgg_ shfB zjt_
  rw [zuo_ hk hs]
  cases h : sheB k s with
  | false => simp
  | true =>
  obtain ⟨hC, _, _⟩ := z4m_ hk h
  have hcl := hC.len
  simp only [Option.bind_some, Bool.not_true, Bool.false_eq_true, if_false, Bool.true_and]
  have inner : ∀ (j : Nat) (t : List Int), s.1[j]? = some t → 2 < t.length → ∀ E : List (List Int) → Int → Int → She → Option (Int × Int × Bool), (z3w_ s j = true → z48_ k k t (j : Int) s.1 (s.1.length : Int) (j : Int) (t.length : Int) 0 ((zi_ s.1 t).map fun i : Nat => (i : Int)) s E = E s.1 (s.1.length : Int) (j : Int) s) ∧ (z3w_ s j = false → ∃ a b : Int, z48_ k k t (j : Int) s.1 (s.1.length : Int) (j : Int) (t.length : Int) 0 ((zi_ s.1 t).map fun i : Nat => (i : Int)) s E = some (a, b, true)) := by
    intro j t hj h3 E
    have h4 := (hC.simp t (List.mem_of_getElem? hj)).len4
    unfold z3w_
    rw [hj]
    simp only
    rw [if_pos h3]
    refine zam_ (L := fun n i => z48_ k n t (j : Int) s.1 (s.1.length : Int) (j : Int) (t.length : Int) i ((zi_ s.1 t).map fun i : Nat => (i : Int)) s E) (b := t.length) (p := z7x_ s j t) (e := E s.1 (s.1.length : Int) (j : Int) s) (Q := fun r => ∃ a b : Int, r = some (a, b, true)) ?_ ?_ ?_ (n := k) (by omega)
    · intro n i hi hp
      have hlt : (i : Int) < (t.length : Int) := by omega
      have hw := ze_ (i := i) (by omega)
      have := (zor_ hk hs h hj h3 hi s.1 (s.1.length : Int) (j : Int) (t.length : Int) (i : Int) (fun t_4 simplex_5 x_6 x_7 x_8 x_9 x_10 q_11 v_12 => z48_ k n t_4 simplex_5 x_6 x_7 x_8 x_9 (z0_ (x_10 + 1)) q_11 v_12 E)).1 hp
      simp only [z48_, hlt, decide_true, if_true, hw, this]
    · intro n i hi hp
      have hlt : (i : Int) < (t.length : Int) := by omega
      have hw := ze_ (i := i) (by omega)
      obtain ⟨a, b, this⟩ := (zor_ hk hs h hj h3 hi s.1 (s.1.length : Int) (j : Int) (t.length : Int) (i : Int) (fun t_4 simplex_5 x_6 x_7 x_8 x_9 x_10 q_11 v_12 => z48_ k n t_4 simplex_5 x_6 x_7 x_8 x_9 (z0_ (x_10 + 1)) q_11 v_12 E)).2 hp
      refine ⟨a, b, ?_⟩
      simp only [z48_, hlt, decide_true, if_true, hw, this]
    · intro n
      simp only [z48_, Int.lt_irrefl, decide_false, Bool.false_eq_true, if_false]
  have key := zam_ (L := fun n i => z59_ k n s.1 (s.1.length : Int) i s (some (0, 0, false))) (b := s.1.length) (p := z3w_ s) (e := some ((0 : Int), (0 : Int), false)) (Q := fun r => ∃ a b : Int, r = some (a, b, true)) ?_ ?_ ?_ (n := k) (by omega)
  · cases hall : (List.range s.1.length).all (z3w_ s) with
    | true => rw [key.1 hall]; rfl
    | false =>
      obtain ⟨a, b, e⟩ := key.2 hall
      rw [e]; rfl
  · intro n j hj hp
    have hlt : (j : Int) < (s.1.length : Int) := by omega
    have hw := ze_ (i := j) (by omega)
    have hg : s.1[j]? = some s.1[j] := List.getElem?_eq_getElem hj
    simp only [z59_, hlt, decide_true, if_true, Int.natCast_nonneg, Int.toNat_natCast, hg, Option.bind_some, hw, zgp_ hk hC hg]
    by_cases h3 : 2 < (s.1[j]).length
    · rw [decide_eq_false (by omega), if_neg (by simp), (inner j _ hg h3 _).1 hp, hw]
    · rw [decide_eq_true (by omega), if_pos rfl]
  · intro n j hj hp
    have hlt : (j : Int) < (s.1.length : Int) := by omega
    have hg : s.1[j]? = some s.1[j] := List.getElem?_eq_getElem hj
    have h3 : 2 < (s.1[j]).length := by
      apply Classical.byContradiction
      intro hn
      unfold z3w_ at hp
      rw [hg] at hp
      simp only at hp
      rw [if_neg hn] at hp
      cases hp
    obtain ⟨a, b, e⟩ := (inner j _ hg h3 (fun x_3 x_4 x_5 v_6 => z59_ k n x_3 x_4 (z0_ (x_5 + 1)) v_6 (some (0, 0, false)))).2 hp
    refine ⟨a, b, ?_⟩
    simp only [z59_, hlt, decide_true, if_true, Int.natCast_nonneg, Int.toNat_natCast, hg, Option.bind_some, zgp_ hk hC hg]
    rw [decide_eq_false (by omega), if_neg (by simp), e]
  · intro n
    simp only [z59_, Int.lt_irrefl, decide_false, Bool.false_eq_true, if_false]
def lowI (y : Int) : Bool := decide (97 ≤ y) && decide (y ≤ 122)
def digI (y : Int) : Bool := decide (48 ≤ y) && decide (y ≤ 57)
def z4n_ (y : Int) : Bool := lowI y || digI y
def z1u_ (s : List UInt8) : Bool := match s with | [] => false | a :: l => decide ((a :: l).length ≤ 10) && (lowI (z_u8 a) && (a :: l).all fun b => z4n_ (z_u8 b))
theorem zos_ (y : Int) : zbt_ y = some (lowI y) := by
  unfold zbt_ lowI
  by_cases h : 97 ≤ y <;> simp [h]
theorem zv3_ (y : Int) : zf3_ y = some (digI y) := by
  unfold zf3_ digI
  by_cases h : 48 ≤ y <;> simp [h]
theorem zot_ (a : UInt8) (l : List UInt8) : z1u_ (a :: l) = (decide ((a :: l).length ≤ 10) && (lowI (z_u8 a) && (a :: l).all fun b => z4n_ (z_u8 b))) := rfl
theorem zv4_ {k : Nat} (hk : KK ≤ k) {s : List UInt8} (hs : s.length ≤ 1000000000000) : z63_ k k s 0 (some true) = if s.all (fun b => z4n_ (z_u8 b)) = true then some true else some false := by
  have hK := zg_
  refine z8j_ (L := fun n i => z63_ k n s i (some true)) s ?_ ?_ (n := k) (by omega)
  · intro n i x hx hlt
    have hw := ze_ (i := i) (by omega)
    simp only [z63_, hlt, decide_true, if_true, Int.natCast_nonneg, Int.toNat_natCast, hx, Option.bind_some, zos_, zv3_, hw, z4n_]
    by_cases h1 : lowI (z_u8 x) = true <;> by_cases h2 : digI (z_u8 x) = true <;> simp [h1, h2]
  · intro n
    simp [z63_]
theorem zou_ {k : Nat} (hk : KK ≤ k) {s : List UInt8} (hs : s.length ≤ 1000000000000) : zbu_ k s = some (z1u_ s) := by
  unfold zbu_
  cases s with
  | nil => simp [z1u_]
  | cons a l =>
    rw [zv4_ hk hs, zot_, decide_eq_false (show ¬ (a :: l = []) by simp), if_neg (by simp)]
    by_cases h : (a :: l).length ≤ 10
    · rw [decide_eq_false (show ¬ (10 < ((a :: l).length : Int)) by omega), if_neg (by simp), decide_eq_true h]
      simp only [List.getElem?_cons_zero, Option.bind_some, zos_, Bool.true_and]
      cases lowI (z_u8 a)
      · simp
      · cases (a :: l).all (fun b => z4n_ (z_u8 b)) <;> simp
    · rw [decide_eq_true (show (10 < ((a :: l).length : Int)) by omega), if_pos rfl, decide_eq_false h]
      rfl
theorem zv5_ {k : Nat} (hk : KK ≤ k) (q : List Int) (hq : q.length ≤ 1000000000000) : z4j_ k k (q.length : Int) 0 q (some true) = some (q.all z4n_ && lowI (q.headD 97)) := by
  have hK := zg_
  have := zq_ (A := Unit) (L := fun n i _ => z4j_ k n (q.length : Int) i q (some true)) (I := fun _ _ => True) (G := fun post _ => some (post.all z4n_ && (decide (post.length ≠ q.length) || lowI (post.headD 97)))) q ?_ ?_ k (by omega) () trivial
  · refine Eq.trans this ?_
    simp
  · intro n pre x post _ hx _ ih hg hlt
    have hw := ze_ (i := pre.length) (by omega)
    have hlt' : pre.length < q.length := by omega
    have ih := ih () trivial
    have hne : decide (post.length ≠ q.length) = true := by rw [hx]; simp <;> omega
    simp only [hne, Bool.true_or, Bool.and_true] at ih
    simp only [z4j_, hlt, hlt', decide_true, if_true, Int.natCast_nonneg, Int.toNat_natCast, hg, Option.bind_some, hw, ih, and_self]
    have h0 : decide ((x :: post).length ≠ q.length) = decide (pre.length ≠ 0) := decide_eq_decide.2 (by rw [hx]; simp <;> omega)
    rw [h0]
    simp only [List.all_cons, List.headD_cons, z4n_, lowI, digI]
    have h1 : decide ((pre.length : Int) = 0) = decide (pre.length = 0) := decide_eq_decide.2 (by omega)
    rw [h1]
    by_cases g1 : 97 ≤ x <;> by_cases g2 : x ≤ 122 <;> by_cases g3 : 48 ≤ x <;> by_cases g4 : x ≤ 57 <;> by_cases g0 : pre.length = 0 <;> first | omega | simp [g0, g1, g2, g3, g4]
  · intro n _ _
    simp [z4j_, lowI]
theorem zv6_ {k : Nat} (hk : KK ≤ k) {s : List UInt8} (hs : s.length ≤ 1000000000000) : zfm_ k s = some (z1u_ s) := by
  have hK := zg_
  have hL := zy_
  unfold zfm_
  have hl : (of_S s).length = s.length := by simp [of_S]
  rw [zv5_ hk (of_S s) (by omega), if_pos (show s.length ≤ LIM by omega)]
  cases s with
  | nil => simp [z1u_]
  | cons a l =>
    rw [decide_eq_false (show ¬ (((a :: l).length : Int) < 1) by simp only [List.length_cons]; omega), if_neg (by simp)]
    rw [zot_]
    by_cases h : (a :: l).length ≤ 10
    · rw [decide_eq_false (show ¬ (10 < ((a :: l).length : Int)) by omega), if_neg (by simp), decide_eq_true h, Bool.true_and]
      have e : (of_S (a :: l)).all z4n_ = (a :: l).all fun b => z4n_ (z_u8 b) := by simp [of_S, z_u8, List.all_map, Function.comp_def]
      rw [e, Bool.and_comm]; rfl
    · rw [decide_eq_true (show (10 < ((a :: l).length : Int)) by omega), if_pos rfl, decide_eq_false h]; rfl
def z20_ (ns : List (List UInt8)) (i : Nat) : Bool := if 0 < i then (match ns[i - 1]? with | some z => (match ns[i]? with | some y => Op.bytesLess z y | none => false) | none => false) else true
def zov_ (ns : List (List UInt8)) : Prop := ns.Pairwise (fun a b => Op.bytesLess a b = true)
theorem zcc_ {ns : List (List UInt8)} : (∀ i, i < ns.length → z20_ ns i = true) ↔ zov_ ns := by
  constructor
  · intro h
    have step : ∀ i, (hi : i + 1 < ns.length) → Op.bytesLess ns[i] ns[i + 1] = true := by
      intro i hi
      have := h (i + 1) hi
      unfold z20_ at this
      rw [if_pos (by omega), Nat.add_sub_cancel, List.getElem?_eq_getElem (by omega), List.getElem?_eq_getElem hi] at this
      exact this
    refine List.pairwise_iff_getElem.2 ?_
    have main : ∀ d i, (hj : i + d + 1 < ns.length) → Op.bytesLess ns[i] ns[i + d + 1] = true := by
      intro d
      induction d with
      | zero => intro i hj; exact step i hj
      | succ d ih => intro i hj; exact zk0_ _ _ _ (ih i (by omega)) (step (i + d + 1) hj)
    intro i j hi hj hij
    have := main (j - i - 1) i (by omega)
    have e : i + (j - i - 1) + 1 = j := by omega
    simpa only [e] using this
  · intro h i hi
    unfold z20_
    split
    · rw [List.getElem?_eq_getElem (by omega), List.getElem?_eq_getElem hi]
      exact List.pairwise_iff_getElem.1 h _ _ (by omega) hi (by omega)
    · rfl
def z6d_ (ns : List (List UInt8)) (m : Int) : Bool := (List.range ns.length).all (fun i => (match ns[i]? with | some y => z1u_ y | none => false) && z20_ ns i) && decide ((ns.length : Int) ≤ m)
theorem zv7_ {ns : List (List UInt8)} {m : Int} : z6d_ ns m = true ↔ (∀ y ∈ ns, z1u_ y = true) ∧ zov_ ns ∧ (ns.length : Int) ≤ m := by
  unfold z6d_
  simp only [Bool.and_eq_true, List.all_eq_true, List.mem_range, decide_eq_true_eq]
  rw [← zcc_]
  constructor
  · rintro ⟨h, h2⟩
    refine ⟨fun y hy => ?_, fun i hi => (h i hi).2, h2⟩
    obtain ⟨i, hi, rfl⟩ := List.getElem_of_mem hy
    have := (h i hi).1
    rw [List.getElem?_eq_getElem hi] at this
    exact this
  · rintro ⟨h, h1, h2⟩
    refine ⟨fun i hi => ⟨?_, h1 i hi⟩, h2⟩
    rw [List.getElem?_eq_getElem hi]
    exact h _ (List.getElem_mem hi)
theorem zv8_ (x y : List UInt8) : (Op.bytesLess y x || decide (y = x)) = !Op.bytesLess x y := by
  cases h : Op.bytesLess x y
  · by_cases e : y = x
    · simp [e]
    · rw [znr_ x y h (fun h => e h.symm)]; rfl
  · have h2 := zty_ h
    rw [h2]
    have : ¬ y = x := fun e => by rw [e, zjz_] at h; cases h
    simp [this]
theorem zow_ {k : Nat} (hk : KK ≤ k) {ns : List (List UInt8)} (hl : ns.length ≤ 1048576) (hx : ∀ x ∈ ns, x.length ≤ 1048576) (m : Int) : zc5_ k ns m = some (z6d_ ns m) := by
  have hK := zg_
  unfold zc5_ z6d_
  have := z46_ (L := fun n i => z7d_ k n ns m ns (ns.length : Int) i (fun names_4 most_5 => some (decide ((List.length names_4 : Int) ≤ most_5)))) (b := ns.length) (p := fun i => (match ns[i]? with | some y => z1u_ y | none => false) && z20_ ns i) (r := some false) (e := some (decide ((ns.length : Int) ≤ m))) ?_ ?_ (n := k) (by omega)
  · refine Eq.trans this ?_
    cases (List.range ns.length).all (fun i => (match ns[i]? with | some y => z1u_ y | none => false) && z20_ ns i) <;> simp
  · intro n i hi
    have hlt : (i : Int) < (ns.length : Int) := by omega
    have hw := ze_ (i := i) (by omega)
    have hg : ns[i]? = some ns[i] := List.getElem?_eq_getElem hi
    have hxl := hx ns[i] (List.getElem_mem hi)
    simp only [z7d_, hlt, decide_true, if_true, Int.natCast_nonneg, Int.toNat_natCast, hg, Option.bind_some, hw, zv6_ hk (show ns[i].length ≤ 1000000000000 by omega), z20_]
    cases z1u_ ns[i]
    · simp
    · by_cases h0 : 0 < i
      · have hw1 : z0_ ((i : Int) - 1) = ((i - 1 : Nat) : Int) := by rw [w_id (by omega) (by omega)]; omega
        have hg1 : ns[i - 1]? = some ns[i - 1] := List.getElem?_eq_getElem (by omega)
        have h0' : (0 : Int) < (i : Int) := by omega
        simp only [hw1, Int.natCast_nonneg, Int.toNat_natCast, hg1, h0, h0', decide_true, if_true, Option.bind_some, zv8_]
        cases Op.bytesLess ns[i - 1] ns[i] <;> simp
      · have h0' : ¬ (0 : Int) < (i : Int) := by omega
        simp [h0, h0']
  · intro n
    simp only [z7d_, Int.lt_irrefl, decide_false, Bool.false_eq_true, if_false]
theorem zv9_ {k : Nat} (hk : KK ≤ k) {s : List (List UInt8)} (hs : s.length ≤ 1000000000000) (v : List UInt8) : zfn_ k s v = some (s.contains v) := by
  have hK := zg_
  unfold zfn_ zj4_
  rw [z3i_ (L := fun n i => z9z_ k n s v (s.length : Int) i (some (-1))) (p := fun y => decide (v = y)) s ?_ ?_ (n := k) (by omega)]
  · simp only [Option.bind_some, z3v_]
    congr 1
    rw [Bool.eq_iff_iff]
    simp
  · intro n i x hi hlt
    have hw := ze_ (i := i) (by omega)
    simp only [z9z_, hlt, decide_true, if_true, Int.natCast_nonneg, Int.toNat_natCast, hi, Option.bind_some, hw]
  · intro n
    simp [z9z_]
abbrev NCx := List UInt8 × Cx
abbrev NSh := List UInt8 × She
abbrev Wld := List NCx × List NSh
def nmC (w : Wld) : List (List UInt8) := w.1.map (·.1)
def nmS (w : Wld) : List (List UInt8) := w.2.map (·.1)
structure smallWd (w : Wld) : Prop where
  l1 : w.1.length ≤ 1048576
  l2 : w.2.length ≤ 1048576
  n1 : ∀ c ∈ w.1, c.1.length ≤ 1048576
  n2 : ∀ s ∈ w.2, s.1.length ≤ 1048576
  cx : ∀ c ∈ w.1, z1k_ c.2
  sh : ∀ s ∈ w.2, smallSh s.2
noncomputable def cAt (w : Wld) (i : Nat) : Bool := match w.1[i]? with | some c => z1u_ c.1 && (cxB c.2 && z20_ (nmC w) i) | none => true
noncomputable def sAt (k : Nat) (w : Wld) (i : Nat) : Bool := match w.2[i]? with | some s => z1u_ s.1 && (shfB k s.2 && (z20_ (nmS w) i && !(nmC w).contains s.1)) | none => true
noncomputable def zgw_ (k : Nat) (w : Wld) : Bool := (List.range w.1.length).all (cAt w) && ((List.range w.2.length).all (sAt k w) && (decide (w.1.length ≤ 8) && decide (w.2.length ≤ 8)))
theorem zva_ {k : Nat} (hk : KK ≤ k) {w : Wld} (hs : smallWd w) (n : List UInt8) : ∃ z : Int, zc2_ k w n = some z ∧ decide (0 ≤ z) = (nmC w).contains n := by
  have hK := zg_
  have h1 := hs.l1
  unfold zc2_
  rw [z3i_ (L := fun m i => z9u_ k m w n i (some (-1))) (p := fun c => decide (c.1 = n)) w.1 ?_ ?_ (n := k) (by omega)]
  · refine ⟨_, rfl, ?_⟩
    rw [z3v_, Bool.eq_iff_iff, List.any_eq_true, List.contains_iff_mem]
    unfold nmC
    rw [List.mem_map]
    exact ⟨fun ⟨c, hc, e⟩ => ⟨c, hc, of_decide_eq_true e⟩, fun ⟨c, hc, e⟩ => ⟨c, hc, decide_eq_true e⟩⟩
  · intro m i c hc hlt
    have hw := ze_ (i := i) (by omega)
    simp only [z9u_, hlt, decide_true, if_true, Int.natCast_nonneg, Int.toNat_natCast, hc, Option.bind_some, hw]
  · intro m
    simp only [z9u_, Int.lt_irrefl, decide_false, Bool.false_eq_true, if_false]
theorem zvb_ {k : Nat} (hk : KK ≤ k) {w : Wld} (hs : smallWd w) : zff_ k w = some (zgw_ k w) := by
  have hK := zg_
  have h1 := hs.l1
  have h2 := hs.l2
  unfold zff_ zgw_
  have a1 : ∀ E : Wld → Option Bool, z66_ k k w 0 E = if (List.range w.1.length).all (cAt w) = true then E w else some false := by
    intro E
    refine z46_ (L := fun n i => z66_ k n w i E) (b := w.1.length) (p := cAt w) (r := some false) (e := E w) ?_ ?_ (n := k) (by omega)
    · intro n i hi
      have hlt : (i : Int) < (w.1.length : Int) := by omega
      have hw := ze_ (i := i) (by omega)
      have hg : w.1[i]? = some w.1[i] := List.getElem?_eq_getElem hi
      have hm := List.getElem_mem hi
      have hn := hs.n1 _ hm
      have hc := hs.cx _ hm
      have hp : cAt w i = (z1u_ (w.1[i]).1 && (cxB (w.1[i]).2 && z20_ (nmC w) i)) := by unfold cAt; rw [hg]
      have gi : (nmC w)[i]? = some (w.1[i]).1 := by unfold nmC; rw [List.getElem?_map, hg]; rfl
      rw [hp]
      simp only [z66_, hlt, decide_true, if_true, Int.natCast_nonneg, Int.toNat_natCast, hg, Option.bind_some, zou_ hk (show (w.1[i]).1.length ≤ 1000000000000 by omega), zo6_ hk hc, hw]
      generalize z1u_ (w.1[i]).1 = b1
      generalize cxB (w.1[i]).2 = b2
      cases b1
      · simp
      cases b2
      · simp
      simp only [Bool.not_true, Bool.false_eq_true, if_false, Bool.true_and]
      by_cases h0 : 0 < i
      · have hw1 : z0_ ((i : Int) - 1) = ((i - 1 : Nat) : Int) := by rw [w_id (by omega) (by omega)]; omega
        have hg1 : w.1[i - 1]? = some w.1[i - 1] := List.getElem?_eq_getElem (by omega)
        have gi1 : (nmC w)[i - 1]? = some (w.1[i - 1]).1 := by unfold nmC; rw [List.getElem?_map, hg1]; rfl
        have h0' : (0 : Int) < (i : Int) := by omega
        simp only [h0', decide_true, if_true, hw1, Int.natCast_nonneg, Int.toNat_natCast, hg1, Option.bind_some, z20_, h0, gi, gi1]
        cases Op.bytesLess (w.1[i - 1]).1 (w.1[i]).1 <;> simp
      · have h0' : ¬ (0 : Int) < (i : Int) := by omega
        simp only [h0', decide_false, Bool.false_eq_true, if_false, z20_, h0]
        simp
    · intro n
      simp only [z66_, Int.lt_irrefl, decide_false, Bool.false_eq_true, if_false]
  have a2 : ∀ E : Wld → Option Bool, z67_ k k w 0 E = if (List.range w.2.length).all (sAt k w) = true then E w else some false := by
    intro E
    refine z46_ (L := fun n i => z67_ k n w i E) (b := w.2.length) (p := sAt k w) (r := some false) (e := E w) ?_ ?_ (n := k) (by omega)
    · intro n i hi
      have hlt : (i : Int) < (w.2.length : Int) := by omega
      have hw := ze_ (i := i) (by omega)
      have hg : w.2[i]? = some w.2[i] := List.getElem?_eq_getElem hi
      have hm := List.getElem_mem hi
      have hn := hs.n2 _ hm
      have hc := hs.sh _ hm
      have hp : sAt k w i = (z1u_ (w.2[i]).1 && (shfB k (w.2[i]).2 && (z20_ (nmS w) i && !(nmC w).contains (w.2[i]).1))) := by unfold sAt; rw [hg]
      have gi : (nmS w)[i]? = some (w.2[i]).1 := by unfold nmS; rw [List.getElem?_map, hg]; rfl
      obtain ⟨z, z1, z2⟩ := zva_ hk hs (w.2[i]).1
      rw [hp]
      simp only [z67_, hlt, decide_true, if_true, Int.natCast_nonneg, Int.toNat_natCast, hg, Option.bind_some, zou_ hk (show (w.2[i]).1.length ≤ 1000000000000 by omega), zv1_ hk hc, hw, z1, z2]
      generalize z1u_ (w.2[i]).1 = b1
      generalize shfB k (w.2[i]).2 = b2
      generalize (nmC w).contains (w.2[i]).1 = b3
      cases b1
      · simp
      cases b2
      · simp
      simp only [Bool.not_true, Bool.false_eq_true, if_false, Bool.true_and]
      by_cases h0 : 0 < i
      · have hw1 : z0_ ((i : Int) - 1) = ((i - 1 : Nat) : Int) := by rw [w_id (by omega) (by omega)]; omega
        have hg1 : w.2[i - 1]? = some w.2[i - 1] := List.getElem?_eq_getElem (by omega)
        have gi1 : (nmS w)[i - 1]? = some (w.2[i - 1]).1 := by unfold nmS; rw [List.getElem?_map, hg1]; rfl
        have h0' : (0 : Int) < (i : Int) := by omega
        simp only [h0', decide_true, if_true, hw1, Int.natCast_nonneg, Int.toNat_natCast, hg1, Option.bind_some, z20_, h0, gi, gi1]
        cases Op.bytesLess (w.2[i - 1]).1 (w.2[i]).1 <;> cases b3 <;> simp
      · have h0' : ¬ (0 : Int) < (i : Int) := by omega
        simp only [h0', decide_false, Bool.false_eq_true, if_false, z20_, h0]
        cases b3 <;> simp
    · intro n
      simp only [z67_, Int.lt_irrefl, decide_false, Bool.false_eq_true, if_false]
  rw [a1]
  cases (List.range w.1.length).all (cAt w) with
  | false => simp
  | true =>
  rw [if_pos rfl, a2]
  cases (List.range w.2.length).all (sAt k w) with
  | false => simp
  | true =>
  rw [if_pos rfl, Bool.true_and, Bool.true_and]
  have e1 : decide ((w.1.length : Int) ≤ 8) = decide (w.1.length ≤ 8) := decide_eq_decide.2 (by omega)
  have e2 : decide ((w.2.length : Int) ≤ 8) = decide (w.2.length ≤ 8) := decide_eq_decide.2 (by omega)
  rw [e1, e2]
  cases decide (w.1.length ≤ 8) <;> simp
theorem zvc_ {k : Nat} (hk : KK ≤ k) {w : Wld} (hs : smallWd w) : zfl_ k w = some (nmC w, nmS w) := by
  have hK := zg_
  have hL := zy_
  have h1 := hs.l1
  have h2 := hs.l2
  unfold zfl_
  have a1 : ∀ E : List (List UInt8) → List (List UInt8) → Wld → Option (List (List UInt8) × List (List UInt8)), z7c_ k k w.1 (w.1.length : Int) 0 [] [] w E = E (nmC w) [] w := by
    intro E
    refine zq_ (A := List (List UInt8)) (L := fun n i q => z7c_ k n w.1 (w.1.length : Int) i q [] w E) (I := fun pre q => q = pre.map (·.1)) (G := fun _ _ => E (nmC w) [] w) w.1 ?_ ?_ k (by omega) [] rfl
    · intro n pre x post q hx hq ih hg hlt
      have hw := ze_ (i := pre.length) (by omega)
      have b : (q.length + 1) * 16 ≤ LIM := by rw [hq, List.length_map]; omega
      simp only [z7c_, hlt, decide_true, if_true, Int.natCast_nonneg, Int.toNat_natCast, hg, Option.bind_some, List.length_singleton, b, hw]
      exact ih _ (by rw [hq, List.map_append]; rfl)
    · intro n q hq
      subst hq
      simp only [z7c_, Int.lt_irrefl, decide_false, Bool.false_eq_true, if_false]
      rfl
  rw [a1]
  refine zq_ (A := List (List UInt8)) (L := fun n i q => z9y_ k n w.2 (w.2.length : Int) i (nmC w) q (fun q_10 q_11 => some (q_10, q_11))) (I := fun pre q => q = pre.map (·.1)) (G := fun _ _ => some (nmC w, nmS w)) w.2 ?_ ?_ k (by omega) [] rfl
  · intro n pre x post q hx hq ih hg hlt
    have hw := ze_ (i := pre.length) (by omega)
    have b : (q.length + 1) * 16 ≤ LIM := by rw [hq, List.length_map]; omega
    simp only [z9y_, hlt, decide_true, if_true, Int.natCast_nonneg, Int.toNat_natCast, hg, Option.bind_some, List.length_singleton, b, hw]
    exact ih _ (by rw [hq, List.map_append]; rfl)
  · intro n q hq
    subst hq
    simp only [z9y_, Int.lt_irrefl, decide_false, Bool.false_eq_true, if_false]
    rfl
noncomputable def z5d_ (k : Nat) (w : Wld) : Bool := z6d_ (nmC w) 8 && (z6d_ (nmS w) 8 && (!((nmC w).any fun n => (nmS w).contains n) && ((w.1.all fun c => cxB c.2) && (w.2.all fun s => shfB k s.2))))
theorem zvd_ {k : Nat} (hk : KK ≤ k) {w : Wld} (hs : smallWd w) : zei_ k w = some (z5d_ k w) := by
  have hK := zg_
  have h1 := hs.l1
  have h2 := hs.l2
  have lC : (nmC w).length = w.1.length := List.length_map ..
  have lS : (nmS w).length = w.2.length := List.length_map ..
  have nC : ∀ y ∈ nmC w, y.length ≤ 1048576 := fun y hy => by obtain ⟨x, hx', rfl⟩ := List.mem_map.1 hy; exact hs.n1 x hx'
  have nS : ∀ y ∈ nmS w, y.length ≤ 1048576 := fun y hy => by obtain ⟨x, hx', rfl⟩ := List.mem_map.1 hy; exact hs.n2 x hx'
  unfold zei_ z5d_
  rw [zvc_ hk hs]
  simp only [Option.bind_some, zow_ hk (show (nmC w).length ≤ 1048576 by omega) nC, zow_ hk (show (nmS w).length ≤ 1048576 by omega) nS]
  have c1 : zfo_ k (nmC w) (nmS w) = some ((nmC w).any fun n => (nmS w).contains n) := by
    unfold zfo_ zj6_
    rw [z3i_ (L := fun n i => za0_ k n (nmC w) (nmS w) ((nmC w).length : Int) i (some (-1))) (p := fun n => (nmS w).contains n) (nmC w) ?_ ?_ (n := k) (by omega)]
    · simp only [Option.bind_some, z3v_]
    · intro n i x hi hlt
      have hw := ze_ (i := i) (by omega)
      simp only [za0_, zj5_, zv9_ hk (show (nmS w).length ≤ 1000000000000 by omega), hlt, decide_true, if_true, Int.natCast_nonneg, Int.toNat_natCast, hi, Option.bind_some, hw]
    · intro n
      simp only [za0_, Int.lt_irrefl, decide_false, Bool.false_eq_true, if_false]
  have c2 : zg0_ k w.1 () = some (!(w.1.all fun c => cxB c.2)) := by
    unfold zg0_ zjf_
    rw [z3i_ (L := fun n i => za6_ k n w.1 () (w.1.length : Int) i (some (-1))) (p := fun c => !cxB c.2) w.1 ?_ ?_ (n := k) (by omega)]
    · simp only [Option.bind_some, z3v_]
      rw [List.not_all_eq_any_not]
    · intro n i x hi hlt
      have hw := ze_ (i := i) (by omega)
      simp only [za6_, zje_, zk2_ hk (hs.cx _ (List.mem_of_getElem? hi)), hlt, decide_true, if_true, Int.natCast_nonneg, Int.toNat_natCast, hi, Option.bind_some, hw]
    · intro n
      simp only [za6_, Int.lt_irrefl, decide_false, Bool.false_eq_true, if_false]
  have c3 : zgh_ k w.2 () = some (!(w.2.all fun s => shfB k s.2)) := by
    unfold zgh_ zjv_
    rw [z3i_ (L := fun n i => zaj_ k n w.2 () (w.2.length : Int) i (some (-1))) (p := fun s => !shfB k s.2) w.2 ?_ ?_ (n := k) (by omega)]
    · simp only [Option.bind_some, z3v_]
      rw [List.not_all_eq_any_not]
    · intro n i x hi hlt
      have hw := ze_ (i := i) (by omega)
      simp only [zaj_, zju_, zv2_ hk (hs.sh _ (List.mem_of_getElem? hi)), hlt, decide_true, if_true, Int.natCast_nonneg, Int.toNat_natCast, hi, Option.bind_some, hw]
    · intro n
      simp only [zaj_, Int.lt_irrefl, decide_false, Bool.false_eq_true, if_false]
  simp only [c1, c2, c3, Option.bind_some, Bool.not_not]
  cases z6d_ (nmC w) 8 <;> cases z6d_ (nmS w) 8 <;> cases ((nmC w).any fun n => (nmS w).contains n) <;> cases (w.1.all fun c => cxB c.2) <;> simp
theorem zve_ {k : Nat} (w : Wld) : zgw_ k w = z5d_ k w := by
  have lC : (nmC w).length = w.1.length := List.length_map ..
  have lS : (nmS w).length = w.2.length := List.length_map ..
  rw [Bool.eq_iff_iff]
  unfold zgw_ z5d_
  simp only [Bool.and_eq_true, zv7_, List.all_eq_true, List.mem_range, decide_eq_true_eq, Bool.not_eq_true', List.any_eq_false]
  have atC : ∀ i (hi : i < w.1.length), cAt w i = (z1u_ (w.1[i]).1 && (cxB (w.1[i]).2 && z20_ (nmC w) i)) := fun i hi => by unfold cAt; rw [List.getElem?_eq_getElem hi]
  have atS : ∀ i (hi : i < w.2.length), sAt k w i = (z1u_ (w.2[i]).1 && (shfB k (w.2[i]).2 && (z20_ (nmS w) i && !(nmC w).contains (w.2[i]).1))) := fun i hi => by unfold sAt; rw [List.getElem?_eq_getElem hi]
  constructor
  · rintro ⟨hC, hS, d1, d2⟩
    have hC' : ∀ i (hi : i < w.1.length), z1u_ (w.1[i]).1 = true ∧ cxB (w.1[i]).2 = true ∧ z20_ (nmC w) i = true := fun i hi => by have := hC i hi; rw [atC i hi] at this; simpa only [Bool.and_eq_true] using this
    have hS' : ∀ i (hi : i < w.2.length), z1u_ (w.2[i]).1 = true ∧ shfB k (w.2[i]).2 = true ∧ z20_ (nmS w) i = true ∧ (nmC w).contains (w.2[i]).1 = false := fun i hi => by have := hS i hi; rw [atS i hi] at this; simpa only [Bool.and_eq_true, Bool.not_eq_true'] using this
    refine ⟨⟨fun y hy => ?_, zcc_.1 fun i hi => (hC' i (by omega)).2.2, by omega⟩, ⟨fun y hy => ?_, zcc_.1 fun i hi => (hS' i (by omega)).2.2.1, by omega⟩, fun n hn hc => ?_, fun c hc => ?_, fun s hs => ?_⟩
    · obtain ⟨c, hc, rfl⟩ := List.mem_map.1 hy
      obtain ⟨i, hi, rfl⟩ := List.getElem_of_mem hc
      exact (hC' i hi).1
    · obtain ⟨c, hc, rfl⟩ := List.mem_map.1 hy
      obtain ⟨i, hi, rfl⟩ := List.getElem_of_mem hc
      exact (hS' i hi).1
    · have hm := List.contains_iff_mem.1 hc
      obtain ⟨c, hcm, rfl⟩ := List.mem_map.1 hm
      obtain ⟨i, hi, rfl⟩ := List.getElem_of_mem hcm
      have := (hS' i hi).2.2.2
      rw [List.contains_iff_mem.2 hn] at this
      cases this
    · obtain ⟨i, hi, rfl⟩ := List.getElem_of_mem hc
      exact (hC' i hi).2.1
    · obtain ⟨i, hi, rfl⟩ := List.getElem_of_mem hs
      exact (hS' i hi).2.1
  · rintro ⟨⟨c1, c2, c3⟩, ⟨s1, s2, s3⟩, ha, hc, hs⟩
    refine ⟨fun i hi => ?_, fun i hi => ?_, by omega, by omega⟩
    · rw [atC i hi, c1 _ (List.mem_map.2 ⟨_, List.getElem_mem hi, rfl⟩), hc _ (List.getElem_mem hi), zcc_.2 c2 i (by omega)]; rfl
    · have hno : (nmC w).contains (w.2[i]).1 = false := by
        cases hcc : (nmC w).contains (w.2[i]).1 with
        | false => rfl
        | true => exact absurd (List.contains_iff_mem.2 (List.mem_map.2 ⟨_, List.getElem_mem hi, rfl⟩)) (ha _ (List.contains_iff_mem.1 hcc))
      rw [atS i hi, s1 _ (List.mem_map.2 ⟨_, List.getElem_mem hi, rfl⟩), hs _ (List.getElem_mem hi), zcc_.2 s2 i (by omega), hno]; rfl
theorem zvf_ {k : Nat} (hk : KK ≤ k) {l : List Int} (hl : l.length ≤ 1000000000) (x : Int) : zfg_ k l x = some (l.contains x) := by
  have hK := zg_
  unfold zfg_
  have := z8j_ (L := fun n i => z9v_ k n l x i (some false)) (p := fun y => !decide (y = x)) (r := some true) (e := some false) l ?_ ?_ (n := k) (by omega)
  · refine Eq.trans this ?_
    by_cases h : l.contains x = true
    · rw [h, if_neg]
      rw [List.all_eq_true]
      intro q
      have := q x (List.contains_iff_mem.1 h)
      simp at this
    · have h' : l.contains x = false := by simpa using h
      rw [h', if_pos]
      rw [List.all_eq_true]
      intro y hy
      have : y ≠ x := fun e => h (List.contains_iff_mem.2 (e ▸ hy))
      simpa using this
  · intro n i y hi hlt
    have hw := ze_ (i := i) (by omega)
    simp only [z9v_, hlt, decide_true, if_true, Int.natCast_nonneg, Int.toNat_natCast, hi, Option.bind_some, hw]
    by_cases e : y = x <;> simp [e]
  · intro n
    simp only [z9v_, Int.lt_irrefl, decide_false, Bool.false_eq_true, if_false]
theorem zvg_ {k : Nat} (hk : KK ≤ k) {l : List Int} (hl : l.length ≤ 1000000000) (x : Int) : ze9_ k l x = some (l.contains x) := by
  have hK := zg_
  unfold ze9_ zjw_
  rw [z3i_ (L := fun n i => zak_ k n l x (l.length : Int) i (some (-1))) (p := fun y => decide (x = y)) l ?_ ?_ (n := k) (by omega)]
  · rw [Option.bind_some, z3v_]
    congr 1
    rw [Bool.eq_iff_iff, List.any_eq_true, List.contains_iff_mem]
    constructor
    · rintro ⟨y, hy, h⟩; rw [of_decide_eq_true h]; exact hy
    · intro h; exact ⟨x, h, decide_eq_true rfl⟩
  · intro n i y hi hlt
    have hw := ze_ (i := i) (by omega)
    simp only [zak_, hlt, decide_true, if_true, Int.natCast_nonneg, Int.toNat_natCast, hi, Option.bind_some, hw]
  · intro n
    simp [zak_]
def subV (a b : List Int) : Bool := a.all fun x => b.contains x
theorem zvh_ {k : Nat} (hk : KK ≤ k) {a b : List Int} (ha : a.length ≤ 1000000000) (hb : b.length ≤ 1000000000) : zfh_ k a b = some (subV a b) := by
  have hK := zg_
  unfold zfh_ subV
  have := z8j_ (L := fun n i => z9w_ k n a b i (some true)) (p := fun y => b.contains y) (r := some false) (e := some true) a ?_ ?_ (n := k) (by omega)
  · refine Eq.trans this ?_
    cases a.all (fun y => b.contains y) <;> rfl
  · intro n i y hi hlt
    have hw := ze_ (i := i) (by omega)
    simp only [z9w_, hlt, decide_true, if_true, Int.natCast_nonneg, Int.toNat_natCast, hi, Option.bind_some, hw, zvf_ hk hb]
    cases b.contains y <;> simp
  · intro n
    simp only [z9w_, Int.lt_irrefl, decide_false, Bool.false_eq_true, if_false]
theorem zvi_ {k : Nat} (hk : KK ≤ k) {a b : List Int} (ha : a.length ≤ 1000000000) (hb : b.length ≤ 1000000000) : zea_ k a b = some (subV a b) := by
  have hK := zg_
  unfold zea_ ziu_ zit_
  rw [z3i_ (L := fun n i => z8u_ k n a b (a.length : Int) i (some (-1))) (p := fun y => !b.contains y) a ?_ ?_ (n := k) (by omega)]
  · simp only [Option.bind_some, z3v_]
    congr 1
    unfold subV
    rw [List.not_any_eq_all_not]
    simp
  · intro n i y hi hlt
    have hw := ze_ (i := i) (by omega)
    simp only [z8u_, zis_, zvg_ hk hb, hlt, decide_true, if_true, Int.natCast_nonneg, Int.toNat_natCast, hi, Option.bind_some, hw]
  · intro n
    simp [z8u_]
def z3l_ (c : Cx) (s : List Int) : List Nat := (List.range c.length).filter fun i => match c[i]? with | some t => subV s t | none => false
def z1i_ (c : Cx) : List Nat := (List.range c.length).filter fun i => match c[i]? with | some s => decide ((z3l_ c s).length = 1) | none => false
theorem z6e_ (f : Nat → Bool) (n : Nat) : (List.range (n + 1)).filter f = (List.range n).filter f ++ (if f n = true then [n] else []) := by
  rw [List.range_succ, List.filter_append, List.filter_cons, List.filter_nil]
theorem zvj_ {k : Nat} (hk : KK ≤ k) {c : Cx} (hc : z1k_ c) {s : List Int} (hs : s.length ≤ 1048576) : zfi_ k c s = some ((z3l_ c s).map fun i : Nat => (i : Int)) := by
  have hK := zg_
  have hL := zy_
  obtain ⟨hcl, hce⟩ := hc
  unfold zfi_
  have := zq_ (α := List Int) (A := List Int) (L := fun n i q => z77_ k n c s i q (fun q_4 => some q_4)) (I := fun pre q => q = ((List.range pre.length).filter fun i => match c[i]? with | some t => subV s t | none => false).map fun i : Nat => (i : Int)) (G := fun _ _ => some ((z3l_ c s).map fun i : Nat => (i : Int))) c ?_ ?_ k (by omega) [] (by simp)
  · exact this
  · intro n pre x post q hx hq ih hg hlt
    have hw := ze_ (i := pre.length) (by omega)
    have hxl := hce x (List.mem_of_getElem? hg)
    have hql : q.length ≤ pre.length := by rw [hq, List.length_map]; exact Nat.le_trans (List.length_filter_le ..) (by rw [List.length_range]; exact Nat.le_refl _)
    have hlim : (q.length + 1) * 8 ≤ LIM := by omega
    simp only [z77_, hlt, decide_true, if_true, Int.natCast_nonneg, Int.toNat_natCast, hg, Option.bind_some, hw, zvh_ hk (show s.length ≤ 1000000000 by omega) (show x.length ≤ 1000000000 by omega), List.length_singleton, hlim]
    cases hb : subV s x with
    | true =>
      rw [if_pos rfl]
      refine ih _ ?_
      rw [List.length_append, List.length_singleton, z6e_, hg]
      simp only [hb, if_true, List.map_append, hq, List.map_cons, List.map_nil]
    | false =>
      rw [if_neg (by simp)]
      refine ih _ ?_
      rw [List.length_append, List.length_singleton, z6e_, hg]
      simp only [hb, Bool.false_eq_true, if_false, List.append_nil, hq]
  · intro n q hq
    simp only [z77_, Int.lt_irrefl, decide_false, Bool.false_eq_true, if_false, hq]
    rfl
theorem zvk_ {k : Nat} (hk : KK ≤ k) {c : Cx} (hc : z1k_ c) {j : Nat} {s : List Int} (hj : c[j]? = some s) : zeb_ k c (j : Int) = some ((z3l_ c s).map fun i : Nat => (i : Int)) := by
  have hK := zg_
  have hL := zy_
  obtain ⟨hcl, hce⟩ := hc
  have hs := hce s (List.mem_of_getElem? hj)
  unfold zeb_
  have := zq_ (α := List Int) (A := List Int) (L := fun n i q => z6w_ k n (j : Int) c (c.length : Int) i q c (fun q_4 => some q_4)) (I := fun pre q => q = ((List.range pre.length).filter fun i => match c[i]? with | some t => subV s t | none => false).map fun i : Nat => (i : Int)) (G := fun _ _ => some ((z3l_ c s).map fun i : Nat => (i : Int))) c ?_ ?_ k (by omega) [] (by simp)
  · exact this
  · intro n pre x post q hx hq ih hg hlt
    have hw := ze_ (i := pre.length) (by omega)
    have hxl := hce x (List.mem_of_getElem? hg)
    have hql : q.length ≤ pre.length := by rw [hq, List.length_map]; exact Nat.le_trans (List.length_filter_le ..) (by rw [List.length_range]; exact Nat.le_refl _)
    have hlim : (q.length + 1) * 8 ≤ LIM := by omega
    simp only [z6w_, hlt, decide_true, if_true, Int.natCast_nonneg, Int.toNat_natCast, hg, hj, Option.bind_some, hw, zvi_ hk (show s.length ≤ 1000000000 by omega) (show x.length ≤ 1000000000 by omega), List.length_singleton, hlim]
    cases hb : subV s x with
    | true =>
      rw [if_pos rfl]
      refine ih _ ?_
      rw [List.length_append, List.length_singleton, z6e_, hg]
      simp only [hb, if_true, List.map_append, hq, List.map_cons, List.map_nil]
    | false =>
      rw [if_neg (by simp)]
      refine ih _ ?_
      rw [List.length_append, List.length_singleton, z6e_, hg]
      simp only [hb, Bool.false_eq_true, if_false, List.append_nil, hq]
  · intro n q hq
    simp only [z6w_, Int.lt_irrefl, decide_false, Bool.false_eq_true, if_false, hq]
    rfl
theorem zvl_ {k : Nat} (hk : KK ≤ k) {c : Cx} (hc : z1k_ c) : zfj_ k c = some ((z1i_ c).map fun i : Nat => (i : Int)) := by
  have hK := zg_
  have hL := zy_
  obtain ⟨hcl, hce⟩ := hc
  unfold zfj_
  have := zq_ (α := List Int) (A := List Int) (L := fun n i q => z78_ k n c i q (fun q_4 => some q_4)) (I := fun pre q => q = ((List.range pre.length).filter fun i => match c[i]? with | some s => decide ((z3l_ c s).length = 1) | none => false).map fun i : Nat => (i : Int)) (G := fun _ _ => some ((z1i_ c).map fun i : Nat => (i : Int))) c ?_ ?_ k (by omega) [] (by simp)
  · exact this
  · intro n pre x post q hx hq ih hg hlt
    have hw := ze_ (i := pre.length) (by omega)
    have hxl := hce x (List.mem_of_getElem? hg)
    have hql : q.length ≤ pre.length := by rw [hq, List.length_map]; exact Nat.le_trans (List.length_filter_le ..) (by rw [List.length_range]; exact Nat.le_refl _)
    have hlim : (q.length + 1) * 8 ≤ LIM := by omega
    have hd : decide (((z3l_ c x).length : Int) = 1) = decide ((z3l_ c x).length = 1) := decide_eq_decide.2 (by omega)
    simp only [z78_, hlt, decide_true, if_true, Int.natCast_nonneg, Int.toNat_natCast, hg, Option.bind_some, hw, zvj_ hk ⟨hcl, hce⟩ hxl, List.length_map, hd, List.length_singleton, hlim]
    by_cases hb : (z3l_ c x).length = 1
    · rw [decide_eq_true hb, if_pos rfl]
      refine ih _ ?_
      rw [List.length_append, List.length_singleton, z6e_, hg]
      simp only [hb, decide_true, if_true, List.map_append, hq, List.map_cons, List.map_nil]
    · rw [decide_eq_false hb, if_neg (by simp)]
      refine ih _ ?_
      rw [List.length_append, List.length_singleton, z6e_, hg]
      simp only [hb, decide_false, Bool.false_eq_true, if_false, List.append_nil, hq]
  · intro n q hq
    simp only [z78_, Int.lt_irrefl, decide_false, Bool.false_eq_true, if_false, hq]
    rfl
theorem zvm_ {k : Nat} (hk : KK ≤ k) {c : Cx} (hc : z1k_ c) : zec_ k c = some ((z1i_ c).map fun i : Nat => (i : Int)) := by
  have hK := zg_
  have hL := zy_
  obtain ⟨hcl, hce⟩ := hc
  unfold zec_
  show z62_ k k (c.length : Int) 0 [] c (fun q_4 => some q_4) = _
  have := zq_ (α := List Int) (A := List Int) (L := fun n i q => z62_ k n (c.length : Int) i q c (fun q_4 => some q_4)) (I := fun pre q => q = ((List.range pre.length).filter fun i => match c[i]? with | some s => decide ((z3l_ c s).length = 1) | none => false).map fun i : Nat => (i : Int)) (G := fun _ _ => some ((z1i_ c).map fun i : Nat => (i : Int))) c ?_ ?_ k (by omega) [] (by simp)
  · exact this
  · intro n pre x post q hx hq ih hg hlt
    have hw := ze_ (i := pre.length) (by omega)
    have hxl := hce x (List.mem_of_getElem? hg)
    have hql : q.length ≤ pre.length := by rw [hq, List.length_map]; exact Nat.le_trans (List.length_filter_le ..) (by rw [List.length_range]; exact Nat.le_refl _)
    have hlim : (q.length + 1) * 8 ≤ LIM := by omega
    have hd : decide (((z3l_ c x).length : Int) = 1) = decide ((z3l_ c x).length = 1) := decide_eq_decide.2 (by omega)
    simp only [z62_, hlt, decide_true, if_true, Option.bind_some, hw, zvk_ hk ⟨hcl, hce⟩ hg, List.length_map, hd, List.length_singleton, hlim]
    by_cases hb : (z3l_ c x).length = 1
    · rw [decide_eq_true hb, if_pos rfl]
      refine ih _ ?_
      rw [List.length_append, List.length_singleton, z6e_, hg]
      simp only [hb, decide_true, if_true, List.map_append, hq, List.map_cons, List.map_nil]
    · rw [decide_eq_false hb, if_neg (by simp)]
      refine ih _ ?_
      rw [List.length_append, List.length_singleton, z6e_, hg]
      simp only [hb, decide_false, Bool.false_eq_true, if_false, List.append_nil, hq]
  · intro n q hq
    simp only [z62_, Int.lt_irrefl, decide_false, Bool.false_eq_true, if_false, hq]
    rfl
theorem zcd_ {c : Cx} {i : Nat} (h : i ∈ z1i_ c) : i < c.length := List.mem_range.1 (List.mem_filter.1 h).1
theorem zox_ (c : Cx) : (z1i_ c).length ≤ c.length := by
  unfold z1i_
  exact Nat.le_trans (List.length_filter_le ..) (by rw [List.length_range]; exact Nat.le_refl _)
theorem zoy_ {d : Nat} (h : d < 10) : z_u8 (UInt8.ofNat (48 + d)) = ((48 + d : Nat) : Int) := by
  have : (UInt8.ofNat (48 + d)).toNat = 48 + d := by simp [UInt8.toNat_ofNat']; omega
  show ((UInt8.ofNat (48 + d)).toNat : Int) = _
  rw [this]
theorem zkg_ {d : Nat} (h : d < 10) : w_u8 (z0_ (48 + (d : Int))) = ((48 + d : Nat) : Int) := by
  rw [w_id (by omega) (by omega)]
  unfold w_u8 IntKind.wrap
  simp [IntKind.bits, IntKind.signed]; omega
def revD (u : Nat) : List Int := if u = 0 then [] else ((Lib.decDigits u).map z_u8).reverse
theorem zgx_ {u : Nat} (h : u ≠ 0) : revD u = ((48 + u % 10 : Nat) : Int) :: revD (u / 10) := by
  unfold revD
  rw [if_neg h]
  by_cases h1 : u < 10
  · rw [Lib.decDigits, dif_pos h1, if_pos (by omega)]
    have := zoy_ h1
    rw [Nat.mod_eq_of_lt h1, List.map_cons, List.map_nil, this]
    rfl
  · rw [Lib.decDigits, dif_neg h1, if_neg (by omega)]
    have := zoy_ (d := u % 10) (by omega)
    rw [List.map_append, List.map_cons, List.map_nil, this, List.reverse_append]
    rfl
theorem zkh_ : ∀ (j u : Nat), u < 10 ^ j → (revD u).length ≤ j
  | 0, u, h => by
    have : u = 0 := by simpa using h
    subst this; simp [revD]
  | j + 1, u, h => by
    by_cases h0 : u = 0
    · subst h0; simp [revD]
    · rw [zgx_ h0, List.length_cons]
      have := zkh_ j (u / 10) (by rw [Nat.pow_succ] at h; omega)
      omega
theorem zki_ {k : Nat} {n0 : Int} {E : Int → List Int → Option (List UInt8)} : ∀ (j u n : Nat) (m : Int) (q : List Int), (m = (u : Int) ∨ m = -(u : Int)) → u < 10 ^ j → u ≤ 9223372036854775808 → -9223372036854775808 ≤ m → m ≤ 9223372036854775807 → q.length + j ≤ 100 → j < n → z56_ k n n0 m q E = E n0 (q ++ revD u)
  | j, u, 0, m, q, _, _, _, _, _, _, h => by omega
  | 0, u, n + 1, m, q, hm, hu, _, _, _, _, _ => by
    have h0 : u = 0 := by simpa using hu
    subst h0
    have hm0 : m = 0 := by omega
    subst hm0
    simp [z56_, revD]
  | j + 1, u, n + 1, m, q, hm, hu, hub, hm1, hm2, hq, hn => by
    have hL := zy_
    by_cases h0 : u = 0
    · subst h0
      have hm0 : m = 0 := by omega
      subst hm0
      simp [z56_, revD]
    · have hm0 : ¬ m = 0 := by omega
      have hlim : (q.length + 1) * 1 ≤ LIM := by omega
      have hd : u % 10 < 10 := by omega
      have hj : u / 10 < 10 ^ j := by rw [Nat.pow_succ] at hu; omega
      rcases hm with hm | hm
      · subst hm
        have t1 : Int.tmod (u : Int) 10 = ((u % 10 : Nat) : Int) := by rw [Int.tmod_eq_emod_of_nonneg (by omega)]; omega
        have t2 : Int.tdiv (u : Int) 10 = ((u / 10 : Nat) : Int) := by rw [Int.tdiv_eq_ediv_of_nonneg (by omega)]; omega
        have w2 : z0_ ((u / 10 : Nat) : Int) = ((u / 10 : Nat) : Int) := w_id (by omega) (by omega)
        have hlt : ¬ (((u % 10 : Nat) : Int) < 0) := by omega
        have ih := zki_ (k := k) (n0 := n0) (E := E) j (u / 10) n ((u / 10 : Nat) : Int) (q ++ [((48 + u % 10 : Nat) : Int)]) (.inl rfl) hj (by omega) (by omega) (by omega) (by simp; omega) (by omega)
        unfold z56_
        rw [decide_eq_false hm0, if_pos (by rfl), t1, t2, decide_eq_false hlt, if_neg (by simp), zkg_ hd, w2, List.length_singleton, if_pos hlim, ih, List.append_assoc, zgx_ h0]
        rfl
      · subst hm
        have t1 : Int.tmod (-(u : Int)) 10 = -((u % 10 : Nat) : Int) := by rw [Int.neg_tmod, Int.tmod_eq_emod_of_nonneg (by omega)]; omega
        have t2 : Int.tdiv (-(u : Int)) 10 = -((u / 10 : Nat) : Int) := by rw [Int.neg_tdiv, Int.tdiv_eq_ediv_of_nonneg (by omega)]; omega
        have w2 : z0_ (-((u / 10 : Nat) : Int)) = -((u / 10 : Nat) : Int) := w_id (by omega) (by omega)
        have ih := zki_ (k := k) (n0 := n0) (E := E) j (u / 10) n (-((u / 10 : Nat) : Int)) (q ++ [((48 + u % 10 : Nat) : Int)]) (.inr rfl) hj (by omega) (by omega) (by omega) (by simp; omega) (by omega)
        unfold z56_
        rw [decide_eq_false hm0, if_pos (by rfl), t1, t2, w2]
        by_cases hz : u % 10 = 0
        · have hlt : ¬ (-((u % 10 : Nat) : Int) < 0) := by omega
          have hw : w_u8 (z0_ (48 + -((u % 10 : Nat) : Int))) = ((48 + u % 10 : Nat) : Int) := by
            rw [hz]
            exact zkg_ (d := 0) (by omega)
          rw [decide_eq_false hlt, if_neg (by simp), hw, List.length_singleton, if_pos hlim, ih, List.append_assoc, zgx_ h0]
          rfl
        · have hlt : -((u % 10 : Nat) : Int) < 0 := by omega
          have hw : w_u8 (z0_ (48 + z0_ (0 - -((u % 10 : Nat) : Int)))) = ((48 + u % 10 : Nat) : Int) := by
            rw [show (0 : Int) - -((u % 10 : Nat) : Int) = ((u % 10 : Nat) : Int) by omega, w_id (x := ((u % 10 : Nat) : Int)) (by omega) (by omega)]
            exact zkg_ hd
          rw [decide_eq_true hlt, if_pos rfl, hw, List.length_singleton, if_pos hlim, ih, List.append_assoc, zgx_ h0]
          rfl
theorem zkj_ {k : Nat} {q : List Int} (hq : q.length ≤ 1000) {E : List Int → Option (List UInt8)} : ∀ (j n : Nat) (acc : List Int), j ≤ q.length → acc.length + j ≤ 1000 → j < n → z79_ k n ((j : Int) - 1) q acc E = E (acc ++ (q.take j).reverse)
  | j, 0, _, _, _, h => by omega
  | 0, n + 1, acc, _, _, _ => by
    have : ¬ (0 ≤ ((0 : Nat) : Int) - 1) := by omega
    simp only [z79_, this, decide_false, Bool.false_eq_true, if_false, List.take_zero, List.reverse_nil, List.append_nil]
  | j + 1, n + 1, acc, hj, ha, hn => by
    have hL := zy_
    have e0 : ((j + 1 : Nat) : Int) - 1 = (j : Int) := by omega
    have hjl : j < q.length := by omega
    have ew : z0_ ((j : Int) - 1) = (j : Int) - 1 := w_id (by omega) (by omega)
    have hlim : (acc.length + 1) * 1 ≤ LIM := by omega
    have ih := zkj_ (k := k) hq (E := E) j n (acc ++ [q[j]]) (by omega) (by simp; omega) (by omega)
    rw [e0]
    simp only [z79_, Int.natCast_nonneg, decide_true, if_true, Int.toNat_natCast, hjl, and_self, List.getElem?_eq_getElem hjl, Option.bind_some, List.length_singleton, hlim, ew, ih]
    rw [List.take_succ_eq_append_getElem hjl, List.reverse_append]
    simp
theorem zoz_ (l : List UInt8) : to_S (l.map z_u8) = l := by
  unfold to_S
  rw [List.map_map]
  have : ((fun x : Int => x.toNat.toUInt8) ∘ z_u8) = id := by
    funext b
    simp [z_u8]
  simp [this]
theorem zvn_ {k : Nat} (hk : KK ≤ k) {n : Int} (h1 : -9223372036854775808 ≤ n) (h2 : n ≤ 9223372036854775807) : zc3_ k n = some (Lib.itoa n) := by
  have hK := zg_
  have hL := zy_
  unfold zc3_ Lib.itoa
  by_cases h0 : n = 0
  · subst h0
    rw [decide_eq_true rfl, if_pos rfl, if_neg (by omega)]
    rw [show (0 : Int).toNat = 0 from rfl, Lib.decDigits, dif_pos (by omega)]
    rfl
  · have hp : n.natAbs < 10 ^ 19 := by
      have : n.natAbs ≤ 9223372036854775808 := by omega
      exact Nat.lt_of_le_of_lt this (by decide)
    have hl := zkh_ 19 n.natAbs hp
    have hu : n.natAbs ≠ 0 := by omega
    have hr : revD n.natAbs = ((Lib.decDigits n.natAbs).map z_u8).reverse := by unfold revD; rw [if_neg hu]
    rw [decide_eq_false h0, if_neg (by simp), zki_ 19 n.natAbs k n [] (by omega) hp (by omega) h1 h2 (by simp) (by omega), List.nil_append]
    by_cases hn : n < 0
    · have hl1 : ((revD n.natAbs).length + 1) * 1 ≤ LIM := by omega
      have hb := zkj_ (k := k) (q := revD n.natAbs ++ [45]) (by simp; omega) (E := fun q => some (to_S q)) (revD n.natAbs ++ [45]).length k [] (Nat.le_refl _) (by simp; omega) (by simp; omega)
      have hw : z0_ (((revD n.natAbs ++ [45]).length : Int) - 1) = ((revD n.natAbs ++ [45]).length : Int) - 1 := w_id (by omega) (by simp; omega)
      rw [decide_eq_true hn, if_pos rfl, if_pos hn, List.length_singleton, if_pos hl1, hw, hb, List.take_length, List.nil_append, hr]
      congr 1
      have e : (((Lib.decDigits n.natAbs).map z_u8).reverse ++ [(45 : Int)]).reverse = ((45 : UInt8) :: Lib.decDigits n.natAbs).map z_u8 := by
        rw [List.reverse_append, List.reverse_reverse]; rfl
      rw [e, zoz_]
    · have hb := zkj_ (k := k) (q := revD n.natAbs) (by omega) (E := fun q => some (to_S q)) (revD n.natAbs).length k [] (Nat.le_refl _) (by simp; omega) (by omega)
      have hw : z0_ (((revD n.natAbs).length : Int) - 1) = ((revD n.natAbs).length : Int) - 1 := w_id (by omega) (by omega)
      have hna : n.natAbs = n.toNat := by omega
      rw [decide_eq_false hn, if_neg (by simp), if_neg hn, hw, hb, List.take_length, List.nil_append, hr, List.reverse_reverse, zoz_, hna]
theorem zvo_ {n : Int} (h1 : -9223372036854775808 ≤ n) (h2 : n ≤ 9223372036854775807) : zef_ n = some (Lib.itoa n) := by
  unfold zef_ zno_
  rw [if_pos ⟨rfl, h1, h2⟩]; rfl
theorem zp0_ {pre : List (List UInt8)} (h : pre ≠ []) (x sep : List UInt8) : Lib.join (pre ++ [x]) sep = Lib.join pre sep ++ sep ++ x := by
  cases pre with
  | nil => exact absurd rfl h
  | cons y r =>
    rw [List.cons_append, Lib.join_cons, Lib.join_cons]
    unfold Lib.joinTail
    simp
theorem zvp_ {u j : Nat} (h : u < 10 ^ j) (hj : 1 ≤ j) : (Lib.decDigits u).length ≤ j := by
  by_cases h0 : u = 0
  · subst h0; rw [Lib.decDigits, dif_pos (by omega)]; exact hj
  · have := zkh_ j u h
    unfold revD at this
    rw [if_neg h0] at this
    simpa using this
theorem zp1_ {c : UInt8} {B : Nat} : ∀ (r : List (List UInt8)), (∀ w ∈ r, w.length ≤ B) → (Lib.joinTail [c] r).length ≤ r.length * (B + 1)
  | [], _ => by simp [Lib.joinTail]
  | y :: r, h => by
    have e : Lib.joinTail [c] (y :: r) = [c] ++ y ++ Lib.joinTail [c] r := by simp [Lib.joinTail]
    have h1 := zp1_ (c := c) r fun w hw => h w (by simp [hw])
    have h2 := h y (by simp)
    rw [e, List.length_append, List.length_append, List.length_singleton, List.length_cons, Nat.succ_mul]
    omega
theorem zce_ {c : UInt8} {B : Nat} (ws : List (List UInt8)) (h : ∀ w ∈ ws, w.length ≤ B) : (Lib.join ws [c]).length ≤ ws.length * (B + 1) := by
  cases ws with
  | nil => rw [Lib.join_nil]; simp
  | cons y r =>
    have h1 := zp1_ (c := c) (B := B) r fun w hw => h w (by simp [hw])
    have h2 := h y (by simp)
    rw [Lib.join_cons, List.length_append, List.length_cons, Nat.succ_mul]
    omega
theorem zp2_ {sep : List UInt8} {ws : List (List UInt8)} (h : ∀ w ∈ ws, w ≠ []) : Lib.join ws sep = [] ↔ ws = [] := by
  cases ws with
  | nil => rw [Lib.join_nil]; simp
  | cons y r =>
    rw [Lib.join_cons]
    exact ⟨fun z => absurd (List.append_eq_nil_iff.1 z).1 (h y (by simp)), fun z => by cases z⟩
theorem zp3_ (x sep : List UInt8) : Lib.join [x] sep = x := by rw [Lib.join_cons]; simp [Lib.joinTail]
theorem zvq_ (u : Nat) : Lib.decDigits u ≠ [] := by
  rw [Lib.decDigits]
  split <;> simp
theorem zp4_ {n : Int} (h : 0 ≤ n ∧ n < 10000000) : (Lib.itoa n).length ≤ 7 ∧ Lib.itoa n ≠ [] := by
  unfold Lib.itoa
  rw [if_neg (by omega)]
  exact ⟨zvp_ (by omega) (by omega), zvq_ _⟩
def z2u_ (l : List Int) : List UInt8 := if l = [] then [45] else Lib.join (l.map Lib.itoa) [44]
def fitL (l : List Int) : Prop := l.length ≤ 64 ∧ ∀ x ∈ l, 0 ≤ x ∧ x < 10000000
theorem zgy_ {l : List Int} (h : fitL l) : ∀ w ∈ l.map Lib.itoa, w.length ≤ 7 ∧ w ≠ [] := fun w hw => by
  obtain ⟨x, hx, rfl⟩ := List.mem_map.1 hw
  exact zp4_ (h.2 x hx)
theorem zp5_ {l : List Int} (h : fitL l) : (z2u_ l).length ≤ 512 ∧ z2u_ l ≠ [] := by
  unfold z2u_
  by_cases e : l = []
  · rw [if_pos e]; simp
  · rw [if_neg e]
    have h1 := zce_ (c := 44) (l.map Lib.itoa) fun w hw => (zgy_ h w hw).1
    rw [List.length_map] at h1
    have := h.1
    refine ⟨by omega, fun z => e ?_⟩
    have := (zp2_ fun w hw => (zgy_ h w hw).2).1 z
    exact List.map_eq_nil_iff.1 this
theorem zvr_ {k : Nat} (hk : KK ≤ k) {l : List Int} (h : fitL l) : zc4_ k l = some (z2u_ l) := by
  have hK := zg_
  obtain ⟨hl, hx⟩ := h
  unfold zc4_ z2u_
  by_cases e : l = []
  · subst e; simp
  rw [if_neg e]
  have hpos : 0 < l.length := List.length_pos_iff.2 e
  rw [decide_eq_false (by omega), if_neg (by simp)]
  refine zq_ (A := List UInt8) (L := fun n i out => z7a_ k n l out i (fun out_5 => some out_5)) (I := fun pre out => out = Lib.join (pre.map Lib.itoa) [44]) (G := fun _ _ => some (Lib.join (l.map Lib.itoa) [44])) l ?_ ?_ k (by omega) [] (by rw [List.map_nil, Lib.join_nil])
  · intro n pre x post out hxp ho ih hg hlt
    have hw := ze_ (i := pre.length) (by omega)
    have hxx := hx x (List.mem_of_getElem? hg)
    have hi := (zp4_ hxx).1
    have hpre : fitL pre := ⟨by omega, fun y hy => hx y (by rw [hxp]; simp [hy])⟩
    have hol : out.length ≤ 512 := by
      rw [ho]
      have h1 := zce_ (c := 44) (pre.map Lib.itoa) fun w hw => (zgy_ hpre w hw).1
      rw [List.length_map] at h1
      have := hpre.1
      omega
    have b1 : out.length + 1 ≤ 9223372036854775807 := by omega
    have b2 : (out ++ [(44 : UInt8)]).length + (Lib.itoa x).length ≤ 9223372036854775807 := by rw [List.length_append, List.length_singleton]; omega
    have b3 : out.length + (Lib.itoa x).length ≤ 9223372036854775807 := by omega
    simp only [z7a_, hlt, decide_true, if_true, List.length_singleton, b1, b2, b3, Int.natCast_nonneg, Int.toNat_natCast, hg, Option.bind_some, zvn_ hk (show -9223372036854775808 ≤ x by omega) (show x ≤ 9223372036854775807 by omega), hw]
    by_cases c : pre = []
    · subst c
      rw [decide_eq_false (by simp), if_neg (by simp)]
      refine ih _ ?_
      rw [ho, List.map_nil, Lib.join_nil, List.nil_append, List.nil_append, List.map_cons, List.map_nil, zp3_]
    · have : 0 < pre.length := List.length_pos_iff.2 c
      rw [decide_eq_true (by omega), if_pos rfl]
      refine ih _ ?_
      rw [List.map_append, List.map_cons, List.map_nil, zp0_ (by simpa using c), ho]
  · intro n out ho
    subst ho
    simp only [z7a_, Int.lt_irrefl, decide_false, Bool.false_eq_true, if_false]
theorem zvs_ {k : Nat} (hk : KK ≤ k) {l : List Int} (h : fitL l) : zeg_ k l = some (z2u_ l) := by
  have hK := zg_
  have hL := zy_
  have hwf := zgy_ h
  obtain ⟨hl, hx⟩ := h
  unfold zeg_ z2u_
  rw [decide_eq_false (by omega), if_neg (by simp)]
  have hc : zee_ k l () = some false := by
    unfold zee_ zix_
    rw [z3i_ (L := fun n i => z8v_ k n l () (l.length : Int) i (some (-1))) (p := fun y => !decide (-1000000000000 ≤ y ∧ y ≤ 1000000000000)) l ?_ ?_ (n := k) (by omega)]
    · rw [Option.bind_some, z3v_]
      congr 1
      rw [List.any_eq_false]
      intro y hy
      have := hx y hy
      rw [decide_eq_true (by omega)]; simp
    · intro n i y hi hlt
      have hw := ze_ (i := i) (by omega)
      simp only [z8v_, ziw_, ziv_, zal_, hlt, decide_true, if_true, Int.natCast_nonneg, Int.toNat_natCast, hi, Option.bind_some, hw]
    · intro n
      simp [z8v_]
  rw [hc]
  simp only [Option.bind_some, Bool.false_eq_true, if_false]
  by_cases e : l = []
  · subst e; simp
  rw [if_neg e]
  have hpos : 0 < l.length := List.length_pos_iff.2 e
  rw [decide_eq_false (by omega), if_neg (by simp)]
  refine zq_ (A := List (List UInt8)) (L := fun n i q => z8x_ k n l (l.length : Int) i q (fun q_5 => (z8w_ [44] q_5).bind fun y_6 => some y_6.1.1)) (I := fun pre q => q = pre.map Lib.itoa) (G := fun _ _ => some (Lib.join (l.map Lib.itoa) [44])) l ?_ ?_ k (by omega) [] rfl
  · intro n pre x post q hxp hq ih hg hlt
    have hw := ze_ (i := pre.length) (by omega)
    have hxx := hx x (List.mem_of_getElem? hg)
    have b : (q.length + 1) * 16 ≤ LIM := by rw [hq, List.length_map]; omega
    simp only [z8x_, hlt, decide_true, if_true, Int.natCast_nonneg, Int.toNat_natCast, hg, Option.bind_some, zvo_ (show -9223372036854775808 ≤ x by omega) (show x ≤ 9223372036854775807 by omega), List.length_singleton, b, hw]
    exact ih _ (by rw [hq, List.map_append]; rfl)
  · intro n q hq
    subst hq
    have h1 := zce_ (c := 44) (l.map Lib.itoa) fun w hw => (hwf w hw).1
    rw [List.length_map] at h1
    simp only [z8x_, Int.lt_irrefl, decide_false, Bool.false_eq_true, if_false]
    unfold z8w_
    rw [if_pos ⟨by rw [List.length_map]; omega, by omega⟩]
    rfl
theorem zkk_ {s : List Int} (h : SimpP s) : fitL s := ⟨by have := h.len4; omega, fun x hx => by have := h.vert x hx; omega⟩
def z5e_ (c : Cx) : List UInt8 := if z1i_ c = [] then [45] else Lib.join ((z1i_ c).map fun i => z2u_ (c.getD i [])) [47]
theorem zkl_ {c : Cx} (h : CxP c) {l : List Nat} (hl : ∀ i ∈ l, i < c.length) : ∀ w ∈ l.map (fun i => z2u_ (c.getD i [])), w.length ≤ 512 ∧ w ≠ [] := fun w hw => by
  obtain ⟨i, hi, rfl⟩ := List.mem_map.1 hw
  have hlt := hl i hi
  rw [List.getD_eq_getElem?_getD, List.getElem?_eq_getElem hlt]
  exact zp5_ (zkk_ (h.simp _ (List.getElem_mem hlt)))
theorem zvt_ {k : Nat} (hk : KK ≤ k) {c : Cx} (hc : z1k_ c) (h : CxP c) : zfk_ k c = some (z5e_ c) := by
  have hK := zg_
  have hfl := zox_ c
  have hcl := h.len
  unfold zfk_
  rw [zvl_ hk hc]
  simp only [Option.bind_some]
  have := zq_ (α := Nat) (A := List UInt8) (L := fun n i out => z7b_ k n c out i ((z1i_ c).map fun i : Nat => (i : Int)) (fun out_9 => (if (decide (out_9 = [])) = true then some [45] else some out_9))) (I := fun pre out => out = Lib.join (pre.map fun i => z2u_ (c.getD i [])) [47]) (G := fun _ _ => some (z5e_ c)) (z1i_ c) ?_ ?_ k (by omega) [] (by rw [List.map_nil, Lib.join_nil])
  · exact this
  · intro n pre x post out hxp ho ih hg hlt
    have hw := ze_ (i := pre.length) (by omega)
    have hp : pre.length < (z1i_ c).length := by omega
    have hxl : x < c.length := zcd_ (List.mem_of_getElem? hg)
    have hF : ((z1i_ c).map fun i : Nat => (i : Int))[pre.length]? = some (x : Int) := by rw [List.getElem?_map, hg]; rfl
    have hgc : c[x]? = some c[x] := List.getElem?_eq_getElem hxl
    have hgd : c.getD x [] = c[x] := by rw [List.getD_eq_getElem?_getD, hgc]; rfl
    have hfit := zkk_ (h.simp _ (List.getElem_mem hxl))
    have hwl := (zp5_ hfit).1
    have hpre : ∀ i ∈ pre, i < c.length := fun i hi => zcd_ (by rw [hxp]; simp [hi])
    have hol : out.length ≤ 30000 := by
      rw [ho]
      have h1 := zce_ (c := 47) (pre.map fun i => z2u_ (c.getD i [])) fun w hw => (zkl_ h hpre w hw).1
      rw [List.length_map] at h1
      have : pre.length * (512 + 1) ≤ 48 * 513 := Nat.mul_le_mul (by omega) (by omega)
      omega
    have b1 : out.length + 1 ≤ 9223372036854775807 := by omega
    have b2 : (out ++ [(47 : UInt8)]).length + (z2u_ c[x]).length ≤ 9223372036854775807 := by rw [List.length_append, List.length_singleton]; omega
    have b3 : out.length + (z2u_ c[x]).length ≤ 9223372036854775807 := by omega
    simp only [z7b_, hlt, List.length_map, hp, decide_true, if_true, List.length_singleton, b1, b2, b3, Int.natCast_nonneg, Int.toNat_natCast, and_self, hF, hgc, Option.bind_some, zvr_ hk hfit, hw]
    by_cases e : pre = []
    · subst e
      rw [decide_eq_false (by simp), if_neg (by simp)]
      refine ih _ ?_
      rw [ho, List.map_nil, Lib.join_nil, List.nil_append, List.nil_append, List.map_cons, List.map_nil, zp3_, hgd]
    · have : 0 < pre.length := List.length_pos_iff.2 e
      rw [decide_eq_true (by omega), if_pos rfl]
      refine ih _ ?_
      rw [List.map_append, List.map_cons, List.map_nil, zp0_ (by simpa using e), ho, hgd]
  · intro n out ho
    subst ho
    simp only [z7b_, List.length_map, Int.lt_irrefl, decide_false, Bool.false_eq_true, if_false]
    unfold z5e_
    have hj := zp2_ (sep := [47]) fun w hw => (zkl_ h (l := z1i_ c) (fun i hi => zcd_ hi) w hw).2
    by_cases e : z1i_ c = []
    · rw [if_pos e, decide_eq_true (by rw [e, List.map_nil, Lib.join_nil]), if_pos rfl]
    · rw [if_neg e, decide_eq_false (fun z => e (List.map_eq_nil_iff.1 (hj.1 z))), if_neg (by simp)]
theorem zvu_ {k : Nat} (hk : KK ≤ k) {c : Cx} (hc : z1k_ c) (h : CxP c) : zeh_ k c = some (z5e_ c) := by
  have hK := zg_
  have hL := zy_
  have hfl := zox_ c
  have hcl := h.len
  unfold zeh_
  rw [zk2_ hk hc, z4l_.2 h, zvm_ hk hc]
  simp only [Option.bind_some, Bool.not_true, Bool.false_eq_true, if_false, List.length_map]
  have := zq_ (α := Nat) (A := List (List UInt8)) (L := fun n i q => z8y_ k n ((z1i_ c).length : Int) i q ((z1i_ c).map fun i : Nat => (i : Int)) c (fun q_8 => (if (decide ((List.length q_8 : Int) = 0)) = true then some [45] else (z8w_ [47] q_8).bind fun y_9 => some y_9.1.1))) (I := fun pre q => q = pre.map fun i => z2u_ (c.getD i [])) (G := fun _ _ => some (z5e_ c)) (z1i_ c) ?_ ?_ k (by omega) [] rfl
  · exact this
  · intro n pre x post q hxp hq ih hg hlt
    have hw := ze_ (i := pre.length) (by omega)
    have hp : pre.length < (z1i_ c).length := by omega
    have hxl : x < c.length := zcd_ (List.mem_of_getElem? hg)
    have hF : ((z1i_ c).map fun i : Nat => (i : Int))[pre.length]? = some (x : Int) := by rw [List.getElem?_map, hg]; rfl
    have hgc : c[x]? = some c[x] := List.getElem?_eq_getElem hxl
    have hgd : c.getD x [] = c[x] := by rw [List.getD_eq_getElem?_getD, hgc]; rfl
    have hfit := zkk_ (h.simp _ (List.getElem_mem hxl))
    have b : (q.length + 1) * 16 ≤ LIM := by rw [hq, List.length_map]; omega
    simp only [z8y_, hlt, List.length_map, hp, decide_true, if_true, Int.natCast_nonneg, Int.toNat_natCast, and_self, hF, hgc, Option.bind_some, zvs_ hk hfit, List.length_singleton, b, hw]
    exact ih _ (by rw [hq, List.map_append, List.map_cons, List.map_nil, hgd])
  · intro n q hq
    subst hq
    simp only [z8y_, Int.lt_irrefl, decide_false, Bool.false_eq_true, if_false, List.length_map]
    unfold z5e_
    by_cases e : z1i_ c = []
    · rw [if_pos e, e]; simp
    · have hpos : 0 < (z1i_ c).length := List.length_pos_iff.2 e
      have h1 := zce_ (c := 47) ((z1i_ c).map fun i => z2u_ (c.getD i [])) fun w hw => (zkl_ h (fun i hi => zcd_ hi) w hw).1
      rw [List.length_map] at h1
      have : (z1i_ c).length * (512 + 1) ≤ 48 * 513 := Nat.mul_le_mul (by omega) (by omega)
      rw [if_neg e, decide_eq_false (by omega), if_neg (by simp)]
      unfold z8w_
      rw [if_pos ⟨by rw [List.length_map]; omega, by omega⟩]
      rfl
def z2v_ (l : List NCx) : List (List UInt8 × List UInt8 × List UInt8) := l.map fun c => ([99, 111, 109, 112, 108, 101, 120], (c.1, z5e_ c.2))
noncomputable def z4o_ (k : Nat) (w : Wld) : List (List UInt8 × List UInt8 × List UInt8) × Int := if z5d_ k w = true then (z2v_ w.1, 0) else ([], 1)
theorem zkm_ (l : List NCx) : (z2v_ l).length = l.length := List.length_map ..
theorem zp6_ (l : List NCx) (x : NCx) : z2v_ (l ++ [x]) = z2v_ l ++ [([99, 111, 109, 112, 108, 101, 120], (x.1, z5e_ x.2))] := by simp [z2v_]
theorem zp7_ (l : List NCx) (x : NCx) : z2v_ (x :: l) = [([99, 111, 109, 112, 108, 101, 120], (x.1, z5e_ x.2))] ++ z2v_ l := rfl
theorem zp8_ {k : Nat} {w : Wld} (h : z5d_ k w = true) : ∀ c ∈ w.1, CxP c.2 := by
  unfold z5d_ at h
  simp only [Bool.and_eq_true, List.all_eq_true] at h
  exact fun c hc => z4l_.1 (h.2.2.2.1 c hc)
theorem zvv_ {k : Nat} (hk : KK ≤ k) {w : Wld} (hs : smallWd w) : zf1_ k w = some (z4o_ k w) := by
  have hK := zg_
  have hL := zy_
  have h1 := hs.l1
  unfold zf1_ z4o_
  rw [zvb_ hk hs, zve_]
  cases hw0 : z5d_ k w
  · simp
  · have hC := zp8_ hw0
    simp only [Option.bind_some, Bool.not_true, Bool.false_eq_true, if_false, if_true]
    have := zq_ (L := fun n i q => z9x_ k n i q w (fun q_6 => some (q_6, (0 : Int)))) (I := fun pre q => q = z2v_ pre) (G := fun post q => some (q ++ z2v_ post, (0 : Int))) w.1 ?_ ?_ k (by omega) [] rfl
    · simpa using this
    · intro n pre x post q hp hq ih hg hlt
      subst hq
      have hw := ze_ (i := pre.length) (by omega)
      have hl := zkm_ pre
      have ih := ih _ (zp6_ pre x).symm
      rw [zp7_ post x, ← List.append_assoc]
      refine Eq.trans ?_ ih
      have hx : x ∈ w.1 := by rw [hp]; simp
      have hsz : ((z2v_ pre).length + 1) * 48 ≤ LIM := by omega
      simp only [z9x_, hlt, decide_true, if_true, Int.natCast_nonneg, Int.toNat_natCast, hg, Option.bind_some, hw, zvt_ hk (hs.cx _ hx) (hC _ hx), List.length_singleton, hsz]
    · intro n q hq
      simp [z9x_, z2v_]
theorem zvw_ {k : Nat} (hk : KK ≤ k) {w : Wld} (hs : smallWd w) : zbp_ k w = some (z4o_ k w) := by
  have hK := zg_
  have hL := zy_
  have h1 := hs.l1
  unfold zbp_ z4o_
  rw [zvd_ hk hs]
  cases hw0 : z5d_ k w
  · simp
  · have hC := zp8_ hw0
    simp only [Option.bind_some, Bool.not_true, Bool.false_eq_true, if_false, if_true]
    have := zq_ (L := fun n i q => z90_ k n w.1 (w.1.length : Int) i q (fun q_5 => some (q_5, (0 : Int)))) (I := fun pre q => q = z2v_ pre) (G := fun post q => some (q ++ z2v_ post, (0 : Int))) w.1 ?_ ?_ k (by omega) [] rfl
    · simpa using this
    · intro n pre x post q hp hq ih hg hlt
      subst hq
      have hw := ze_ (i := pre.length) (by omega)
      have hl := zkm_ pre
      have ih := ih _ (zp6_ pre x).symm
      rw [zp7_ post x, ← List.append_assoc]
      refine Eq.trans ?_ ih
      have hx : x ∈ w.1 := by rw [hp]; simp
      have hsz : ((z2v_ pre).length + 1) * 48 ≤ LIM := by omega
      simp only [z90_, hlt, decide_true, if_true, Int.natCast_nonneg, Int.toNat_natCast, hg, Option.bind_some, hw, zvu_ hk (hs.cx _ hx) (hC _ hx), List.length_singleton, hsz]
    · intro n q hq
      simp [z90_, z2v_]
def sumL {α : Type} (f : α → Nat) (l : List α) : Nat := (l.map f).sum
theorem zan_ {α : Type} (f : α → Nat) : sumL f [] = 0 := rfl
theorem z5f_ {α : Type} (f : α → Nat) (x : α) (l : List α) : sumL f (x :: l) = f x + sumL f l := by simp [sumL]
theorem zp9_ {α : Type} (f : α → Nat) (l m : List α) : sumL f (l ++ m) = sumL f l + sumL f m := by simp [sumL]
theorem z1v_ {α : Type} (f : α → Nat) {x : α} {l : List α} (h : x ∈ l) : f x ≤ sumL f l := by
  induction l with
  | nil => cases h
  | cons y l ih =>
    rw [z5f_]
    rcases List.mem_cons.1 h with rfl | h
    · omega
    · have := ih h; omega
theorem zgz_ {α : Type} (xs : List α) {s : α → Nat} {L : Nat → Int → Int → Option Int}
    (h1 : ∀ n (i : Nat) x r, xs[i]? = some x → (i : Int) < xs.length → x ∈ xs → 0 ≤ r → r ≤ 1048576 → L (n + 1) (i : Int) r = if (s x : Int) ≤ r then L n ((i + 1 : Nat) : Int) (r - (s x : Int)) else some (-1))
    (h2 : ∀ n r, L (n + 1) (xs.length : Int) r = some r) {n : Nat} (hn : xs.length < n) {r : Int} (h0 : 0 ≤ r) (hr : r ≤ 1048576) : L n 0 r = some (if (sumL s xs : Int) ≤ r then r - (sumL s xs : Int) else -1) := by
  refine zq_ (L := L) (I := fun _ r => 0 ≤ r ∧ r ≤ 1048576) (G := fun post r => some (if (sumL s post : Int) ≤ r then r - (sumL s post : Int) else -1)) xs ?_ ?_ n hn r ⟨h0, hr⟩
  · intro n pre x post r hx hI ih hg hlt
    rw [h1 n pre.length x r hg hlt (List.mem_of_getElem? hg) hI.1 hI.2]
    have hc : sumL s (x :: post) = s x + sumL s post := z5f_ _ _ _
    by_cases c : (s x : Int) ≤ r
    · rw [if_pos c, ih (r - (s x : Int)) ⟨by omega, by omega⟩]
      by_cases c2 : (sumL s post : Int) ≤ r - (s x : Int)
      · rw [if_pos c2, if_pos (by omega)]; congr 1; omega
      · rw [if_neg c2, if_neg (by omega)]
    · rw [if_neg c, if_neg (by omega)]
  · intro n r hI
    rw [h2, zan_, if_pos (by simpa using hI.1)]; simp
theorem zpa_ {k : Nat} (hk : KK ≤ k) {n : Int} (h : n ≤ 9223372036854775807) : ∃ t, z2e_ k n = some t := by
  unfold z2e_
  by_cases h0 : n ≤ 0
  · exact ⟨[109, 48], by simp [h0]⟩
  · simp only [decide_eq_true_eq, h0, if_false]
    have key : ∀ (m : Nat) (n : Int) (out : List UInt8), 0 ≤ n → n < 10 ^ m → n ≤ 9223372036854775807 → out.length + m ≤ 100 → ∀ q, m < q → ∃ t, z6x_ k q n out (fun out_1 => (if [109].length + out_1.length ≤ 9223372036854775807 then some ([109] ++ out_1) else none)) = some t := by
      intro m
      induction m with
      | zero =>
        intro n out h1 h2 h3 h4 q hq
        obtain ⟨q, rfl⟩ : ∃ p, q = p + 1 := ⟨q - 1, by omega⟩
        have : ¬ 0 < n := by simp at h2; omega
        have h5 : 1 + out.length ≤ 9223372036854775807 := by omega
        exact ⟨[109] ++ out, by simp only [z6x_, decide_eq_true_eq, this, if_false, List.length_singleton, h5, if_true]⟩
      | succ m ih =>
        intro n out h1 h2 h3 h4 q hq
        obtain ⟨q, rfl⟩ : ∃ p, q = p + 1 := ⟨q - 1, by omega⟩
        by_cases hn : 0 < n
        · have hd : Int.tdiv n 10 = n / 10 := Int.tdiv_eq_ediv_of_nonneg h1
          have hw : z0_ (Int.tdiv n 10) = n / 10 := by rw [hd, w_id (by omega) (by omega)]
          have h5 : 1 + out.length ≤ 9223372036854775807 := by omega
          have h6 : n / 10 < 10 ^ m := by
            rw [Int.pow_succ] at h2
            omega
          obtain ⟨t, ht⟩ := ih (n / 10) ((to_S [(w_u8 ((z0_ (48 + (Int.tmod n 10)))))]) ++ out) (by omega) h6 (by omega) (by simp; omega) q (by omega)
          refine ⟨t, ?_⟩
          simp only [z6x_, decide_eq_true_eq, hn, if_true, hw]
          rw [if_pos (by simp; omega)]
          exact ht
        · have h5 : 1 + out.length ≤ 9223372036854775807 := by omega
          exact ⟨[109] ++ out, by simp only [z6x_, decide_eq_true_eq, hn, if_false, List.length_singleton, h5, if_true]⟩
    exact key 20 n [] (by omega) (by omega) h (by simp) k (by have := zg_; omega)
noncomputable def tM (k : Nat) (m : Int) : List UInt8 := (z2e_ k m).getD []
theorem zpb_ {k : Nat} (hk : KK ≤ k) {m : Int} (h : m ≤ 9223372036854775807) : z2e_ k m = some (tM k m) := by
  obtain ⟨t, ht⟩ := zpa_ hk h
  unfold tM
  rw [ht]; rfl
def mkL {α : Type} (f : α → Int → α × Int) : List α → Int → List α × Int
  | [], m => ([], m)
  | x :: l, m => ((f x m).1 :: (mkL f l (f x m).2).1, (mkL f l (f x m).2).2)
theorem zkn_ {α : Type} (f : α → Int → α × Int) : ∀ (l : List α) (m : Int), (mkL f l m).1.length = l.length
  | [], _ => rfl
  | x :: l, m => by simp [mkL, zkn_ f l]
theorem zpc_ {α : Type} {f : α → Int → α × Int} {c : α → Nat} (hc : ∀ x m, (f x m).2 = m + (c x : Int)) : ∀ (l : List α) (m : Int), (mkL f l m).2 = m + (sumL c l : Int)
  | [], m => by simp [mkL, zan_]
  | x :: l, m => by
    have h1 := z5f_ c x l
    show (mkL f l (f x m).2).2 = _
    rw [zpc_ hc l, hc]; omega
theorem zpd_ {α : Type} {f : α → Int → α × Int} : ∀ (l r : List α) (m : Int), (mkL f (l ++ r) m).1 = (mkL f l m).1 ++ (mkL f r (mkL f l m).2).1
  | [], r, m => rfl
  | x :: l, r, m => by simp [mkL, zpd_ l r]
theorem z7y_ {α Q R : Type} {f : α → Int → α × Int} {c : α → Nat} (hc : ∀ x m, (f x m).2 = m + (c x : Int)) (xs : List α) {m0 B : Int} (hB : m0 + (sumL c xs : Int) ≤ B) {S : List α → Q} {L : Nat → Int → Int → Q → R} {G : R}
    (h1 : ∀ n (i : Nat) m l y, l.length = xs.length → l[i]? = some y → y ∈ xs → m0 ≤ m → m + (c y : Int) ≤ B → (i : Int) < l.length → i < l.length → L (n + 1) m (i : Int) (S l) = L n (m + (c y : Int)) ((i + 1 : Nat) : Int) (S (l.set i (f y m).1)))
    (h2 : ∀ n l, l = (mkL f xs m0).1 → l.length = xs.length → L (n + 1) (m0 + (sumL c xs : Int)) (xs.length : Int) (S l) = G) {n : Nat} (hn : xs.length < n) : L n m0 0 (S xs) = G := by
  have main : ∀ (post pre : List α) (n : Nat), xs = pre ++ post → post.length < n → L n (m0 + (sumL c pre : Int)) (pre.length : Int) (S ((mkL f pre m0).1 ++ post)) = G := by
    intro post
    induction post with
    | nil =>
      intro pre n hx hn
      obtain ⟨m, rfl⟩ : ∃ m, n = m + 1 := ⟨n - 1, by simp at hn; omega⟩
      rw [List.append_nil] at hx ⊢
      subst hx
      exact h2 m _ rfl (zkn_ f _ _)
    | cons x post ih =>
      intro pre n hx hn
      obtain ⟨m, rfl⟩ : ∃ m, n = m + 1 := ⟨n - 1, by simp at hn; omega⟩
      have hl : (mkL f pre m0).1.length = pre.length := zkn_ f _ _
      have hs : sumL c xs = sumL c pre + (c x + sumL c post) := by rw [hx, zp9_, z5f_]
      rw [h1 m pre.length (m0 + (sumL c pre : Int)) ((mkL f pre m0).1 ++ x :: post) x (by rw [hx]; simp [hl]) (by rw [List.getElem?_append_right (by omega), hl]; simp) (by rw [hx]; simp) (by omega) (by omega) (by simp [hl]; omega) (by simp [hl])]
      have := ih (pre ++ [x]) m (by rw [hx]; simp) (by simp at hn; omega)
      have e1 : ((mkL f pre m0).1 ++ x :: post).set pre.length (f x (m0 + (sumL c pre : Int))).1 = (mkL f (pre ++ [x]) m0).1 ++ post := by
        rw [List.set_append_right _ _ (by omega), hl, Nat.sub_self, List.set_cons_zero, zpd_, zpc_ hc]
        simp [mkL]
      have e2 : m0 + (sumL c pre : Int) + (c x : Int) = m0 + (sumL c (pre ++ [x]) : Int) := by rw [zp9_, z5f_, zan_]; omega
      rw [e1, e2]
      rw [List.length_append] at this
      simpa using this
  have := main xs [] n rfl hn
  simpa [zan_, mkL] using this
theorem zh0_ {α : Type} : ∀ l : List α, sumL (fun _ => 1) l = l.length
  | [] => rfl
  | x :: l => by rw [z5f_, zh0_ l, List.length_cons]; omega
def mkI (_ : Int) (m : Int) : Int × Int := (m, m + ((1 : Nat) : Int))
theorem zko_ : ∀ (x : Int) (m : Int), (mkI x m).2 = m + (((fun _ : Int => 1) x : Nat) : Int) := fun _ _ => rfl
theorem zvx_ {k : Nat} (hk : KK ≤ k) {q : List (List Int)} {a : Nat} {z : List Int} (hz : q[a]? = some z) {m : Int} (h0 : 0 ≤ m) (h1 : m ≤ 1000000000000000000) (hl : z.length ≤ 1000000000000) :
    zes_ k a m q = some ((m + (z.length : Int), ()), (q.set a (mkL mkI z m).1, ()), ()) := by
  have hK := zg_
  have ha := (List.getElem?_eq_some_iff.1 hz).1
  have hs := zh0_ z
  unfold zes_
  have e : q = q.set a z := by
    obtain ⟨h, rfl⟩ := List.getElem?_eq_some_iff.1 hz
    exact (List.set_getElem_self h).symm
  have := z7y_ zko_ z (m0 := m) (B := 2000000000000000000) (by omega) (S := fun l => q.set a l) (L := fun n m i q => z99_ k n a m i q (fun k_10 q_11 => some ((k_10, ()), (q_11, ()), ())))
    (G := some ((m + (z.length : Int), ()), (q.set a (mkL mkI z m).1, ()), ())) ?_ ?_ (n := k) (by omega)
  · rw [← e] at this
    exact this
  · intro n i m l y hll hg hy m0 m1 hlt hlt'
    have hw := ze_ (i := i) (by omega)
    have hm : z0_ (m + 1) = m + ((1 : Nat) : Int) := w_id (by omega) (by omega)
    simp only [z99_, List.getElem?_set_self ha, Option.bind_some, hlt, hlt', decide_true, if_true, Int.natCast_nonneg, Int.toNat_natCast, and_self, List.getElem?_eq_getElem hlt', hm, hw, List.set_set, mkI]
  · intro n l hl2 hll
    have : ¬ (z.length : Int) < (l.length : Int) := by omega
    simp only [z99_, List.getElem?_set_self ha, Option.bind_some, this, decide_false, Bool.false_eq_true, if_false, hs]
    rw [hl2]
def mkIS (z : List Int) (m : Int) : List Int × Int := ((mkL mkI z m).1, m + (z.length : Int))
theorem zvy_ (z : List Int) (m : Int) : (mkIS z m).2 = m + (z.length : Int) := rfl
theorem zpe_ {k : Nat} (hk : KK ≤ k) {L : List (List Int)} {m : Int} (h0 : 0 ≤ m) (h1 : m + (sumL List.length L : Int) ≤ 100000000000000000) (hx : ∀ x ∈ L, x.length ≤ 1000000000000) (hL : L.length ≤ 1000000000000) :
    zbr_ k m L = some ((m + (sumL List.length L : Int), ()), ((mkL mkIS L m).1, ()), ()) := by
  have hK := zg_
  unfold zbr_
  refine z7y_ zvy_ L (m0 := m) (B := 100000000000000000) h1 (S := fun l => l) (L := fun n m i q => z9a_ k n m i q (fun k_5 q_6 => some ((k_5, ()), (q_6, ()), ()))) ?_ ?_ (n := k) (by omega)
  · intro n i m' l y hll hg hy m0 m1 hlt hlt'
    have hw := ze_ (i := i) (by omega)
    have st := zvx_ hk hg (m := m') (by omega) (by omega) (hx y hy)
    simp only [z9a_, hlt, hlt', decide_true, if_true, Option.bind_some, Int.natCast_nonneg, Int.toNat_natCast, and_self, hg, st, hw]
    rfl
  · intro n l hl2 hll
    have : ¬ (L.length : Int) < (l.length : Int) := by omega
    simp only [z9a_, this, decide_false, Bool.false_eq_true, if_false]
    rw [hl2]
theorem zh1_ {α : Type} {f g : α → Nat} {c : Nat} : ∀ {l : List α}, (∀ x ∈ l, f x ≤ g x + c) → sumL f l ≤ sumL g l + c * l.length
  | [], _ => by simp [zan_]
  | x :: l, h => by
    have h1 := h x (by simp)
    have h2 := zh1_ (f := f) (g := g) (c := c) (l := l) fun y hy => h y (by simp [hy])
    rw [z5f_, z5f_, List.length_cons, Nat.mul_succ]
    omega
theorem zvz_ {k : Nat} (hk : KK ≤ k) {q : List Mat} {a : Nat} {z : Mat} (hz : q[a]? = some z) {m : Int} (h0 : 0 ≤ m) (h1 : m ≤ 1000000000000000000) (hl : z.2.2.2.length ≤ 1000000000000) :
    zev_ k a m q = some ((m + (z.2.2.2.length : Int), ()), (q.set a (z.1, z.2.1, z.2.2.1, (mkL mkI z.2.2.2 m).1), ()), ()) := by
  have hK := zg_
  have ha := (List.getElem?_eq_some_iff.1 hz).1
  have hs := zh0_ z.2.2.2
  unfold zev_
  have e : q = q.set a (z.1, z.2.1, z.2.2.1, z.2.2.2) := by
    obtain ⟨h, rfl⟩ := List.getElem?_eq_some_iff.1 hz
    exact (List.set_getElem_self h).symm
  have := z7y_ zko_ z.2.2.2 (m0 := m) (B := 2000000000000000000) (by omega) (S := fun l => q.set a (z.1, z.2.1, z.2.2.1, l)) (L := fun n m i q => z9d_ k n a m i q (fun k_10 q_11 => some ((k_10, ()), (q_11, ()), ())))
    (G := some ((m + (z.2.2.2.length : Int), ()), (q.set a (z.1, z.2.1, z.2.2.1, (mkL mkI z.2.2.2 m).1), ()), ())) ?_ ?_ (n := k) (by omega)
  · rw [← e] at this
    exact this
  · intro n i m l y hll hg hy m0 m1 hlt hlt'
    have hw := ze_ (i := i) (by omega)
    have hm : z0_ (m + 1) = m + ((1 : Nat) : Int) := w_id (by omega) (by omega)
    simp only [z9d_, List.getElem?_set_self ha, Option.bind_some, hlt, hlt', decide_true, if_true, Int.natCast_nonneg, Int.toNat_natCast, and_self, List.getElem?_eq_getElem hlt', hm, hw, List.set_set, mkI]
  · intro n l hl2 hll
    have : ¬ (z.2.2.2.length : Int) < (l.length : Int) := by omega
    simp only [z9d_, List.getElem?_set_self ha, Option.bind_some, this, decide_false, Bool.false_eq_true, if_false, hs]
    rw [hl2]
def ctM (x : Mat) : Nat := x.2.2.2.length + 3
def mkMt (x : Mat) (m : Int) : Mat × Int := ((m, m + 1, m + 1 + 1, (mkL mkI x.2.2.2 (m + 1 + 1 + 1)).1), m + (ctM x : Int))
theorem zw0_ (x : Mat) (m : Int) : (mkMt x m).2 = m + (ctM x : Int) := rfl
theorem zw1_ {k : Nat} (hk : KK ≤ k) {L : List Mat} {m : Int} (h0 : 0 ≤ m) (h1 : m + (sumL ctM L : Int) ≤ 10000000000000000) (hx : ∀ x ∈ L, x.2.2.2.length ≤ 1000000000000) (hL : L.length ≤ 1000000000000) :
    zew_ k m L = some ((m + (sumL ctM L : Int), ()), ((mkL mkMt L m).1, ()), ()) := by
  have hK := zg_
  unfold zew_
  refine z7y_ zw0_ L (m0 := m) (B := 10000000000000000) h1 (S := fun l => l) (L := fun n m i q => z9e_ k n m i q (fun k_11 q_12 => some ((k_11, ()), (q_12, ()), ()))) ?_ ?_ (n := k) (by omega)
  · intro n i m' l y hll hg hy m0 m1 hlt hlt'
    have hw := ze_ (i := i) (by omega)
    have hc : ctM y = y.2.2.2.length + 3 := rfl
    have w1 : z0_ (m' + 1) = m' + 1 := w_id (by omega) (by omega)
    have w2 : z0_ (m' + 1 + 1) = m' + 1 + 1 := w_id (by omega) (by omega)
    have w3 : z0_ (m' + 1 + 1 + 1) = m' + 1 + 1 + 1 := w_id (by omega) (by omega)
    have st := zvz_ hk (q := l.set i (m', m' + 1, m' + 1 + 1, y.2.2.2)) (a := i) (z := (m', m' + 1, m' + 1 + 1, y.2.2.2)) (List.getElem?_set_self hlt') (m := m' + 1 + 1 + 1) (by omega) (by omega) (hx y hy)
    have e : m' + 1 + 1 + 1 + (y.2.2.2.length : Int) = m' + (ctM y : Int) := by omega
    simp only [z9e_, hlt, hlt', decide_true, if_true, Option.bind_some, Int.natCast_nonneg, Int.toNat_natCast, and_self, hg, List.length_set, List.getElem?_set_self hlt', w1, w2, w3, List.set_set, st, e, hw]
    rfl
  · intro n l hl2 hll
    have : ¬ (L.length : Int) < (l.length : Int) := by omega
    simp only [z9e_, this, decide_false, Bool.false_eq_true, if_false]
    rw [hl2]
instance dec_Int64S : DecidableEq (List Int) := inferInstance
def z11_ (a : List Int) : Nat := a.length
theorem zkp_ {a : List Int} {e0 : TypeId} {left : Int} (h0 : 0 ≤ left) (h1 : left ≤ 1048576) (h : InR (.sl e0 (.int .i64)) a) : z8k_ a left = some (if (z11_ a : Int) ≤ left then left - (z11_ a : Int) else -1) := by
  have hl : a.length ≤ 140737488351232 := h.1
  have hs : z11_ a = a.length := rfl
  unfold z8k_
  rw [hs, w_id (by omega) (by omega)]
  by_cases c : (a.length : Int) ≤ left
  · rw [decide_eq_false (by omega), if_neg (by simp), if_pos c]
  · rw [decide_eq_true (by omega), if_pos rfl, if_neg c]
instance dec_Int64SS : DecidableEq (List (List Int)) := inferInstance
def z2l_ (a : List (List Int)) : Nat := a.length + sumL z11_ a
theorem zw2_ {k : Nat} (hk : KK ≤ k) {a : List (List Int)} {e0 e1 : TypeId} {left : Int} (h0 : 0 ≤ left) (h1 : left ≤ 1048576) (h : InR (.sl e0 (.sl e1 (.int .i64))) a) : zdt_ k a left = some (if (z2l_ a : Int) ≤ left then left - (z2l_ a : Int) else -1) := by
  have hl : a.length ≤ 140737488351232 := h.1
  have hs : z2l_ a = a.length + sumL z11_ a := rfl
  have hK := zg_
  unfold zdt_
  rw [hs, w_id (by omega) (by omega)]
  by_cases c : (a.length : Int) ≤ left
  · rw [decide_eq_false (by omega), if_neg (by simp)]
    refine Eq.trans (zgz_ (L := fun n i r => z8l_ k n a r i fun r => some r) (s := z11_) a ?_ ?_ (n := k) (by omega) (r := left - (a.length : Int)) (by omega) (by omega)) ?_
    · intro n i x r hi hlt hm r0 r1
      have hw := ze_ (i := i) (by omega)
      have hx := zkp_ (a := x) r0 r1 (h.2 x hm)
      simp only [z8l_, hlt, decide_true, if_true, Int.natCast_nonneg, Int.toNat_natCast, hi, Option.bind_some, hw, hx]
      by_cases c2 : (z11_ x : Int) ≤ r
      · rw [if_pos c2, decide_eq_false (by omega), if_neg (by simp), if_pos c2]
      · rw [if_neg c2, decide_eq_true (by omega), if_pos rfl, if_neg c2]
    · intro n r
      simp [z8l_]
    · by_cases c2 : (sumL z11_ a : Int) ≤ left - (a.length : Int)
      · rw [if_pos c2, if_pos (by omega)]; congr 1; omega
      · rw [if_neg c2, if_neg (by omega)]
  · rw [decide_eq_true (by omega), if_pos rfl, if_neg (by omega)]
instance dec_Complex : DecidableEq (List (List Int)) := inferInstance
def z1r_ (a : List (List Int)) : Nat := (z2l_ a)
theorem zpf_ {k : Nat} (hk : KK ≤ k) {a : List (List Int)} {e0 e1 : TypeId} {left : Int} (h0 : 0 ≤ left) (h1 : left ≤ 1048576) (h : InR (.st (.sl e0 (.sl e1 (.int .i64)))) a) : zbn_ k a left = some (if (z1r_ a : Int) ≤ left then left - (z1r_ a : Int) else -1) := by
  have hs : z1r_ a = (z2l_ a) := rfl
  unfold zbn_
  rw [hs]
  have q0 := zw2_ hk (a := a) (left := left) (by omega) (by omega) h
  rw [q0]
  by_cases c0 : ((z2l_ a) : Int) ≤ left
  case neg => rw [if_neg c0]; simp only [Option.bind_some]; rw [decide_eq_true (by omega), if_pos rfl]
  rw [if_pos c0]; simp only [Option.bind_some]
  rw [decide_eq_false (by omega), if_neg (by simp)]
instance dec_Matrix_2 : DecidableEq (Int × List Int) := inferInstance
instance dec_Matrix_1 : DecidableEq (Int × Int × List Int) := inferInstance
instance dec_Matrix : DecidableEq (Int × Int × Int × List Int) := inferInstance
def z1d_ (a : Int × Int × Int × List Int) : Nat := (z11_ (a.2.2.2))
theorem zw3_ {a : Int × Int × Int × List Int} {e0 : TypeId} {left : Int} (h0 : 0 ≤ left) (h1 : left ≤ 1048576) (h : InR (.st (.pr (.int .i64) (.pr (.int .i64) (.pr (.int .i64) (.sl e0 (.int .i64)))))) a) : zdw_ a left = some (if (z1d_ a : Int) ≤ left then left - (z1d_ a : Int) else -1) := by
  have hs : z1d_ a = (z11_ (a.2.2.2)) := rfl
  unfold zdw_
  rw [hs]
  have q0 := zkp_ (a := a.2.2.2) (left := left) (by omega) (by omega) h.2.2.2
  rw [q0]
  by_cases c0 : ((z11_ (a.2.2.2)) : Int) ≤ left
  case neg => rw [if_neg c0]; simp only [Option.bind_some]; rw [decide_eq_true (by omega), if_pos rfl]
  rw [if_pos c0]; simp only [Option.bind_some]
  rw [decide_eq_false (by omega), if_neg (by simp)]
instance dec_MatrixS : DecidableEq (List (Int × Int × Int × List Int)) := inferInstance
def z2m_ (a : List (Int × Int × Int × List Int)) : Nat := a.length + sumL z1d_ a
theorem zw4_ {k : Nat} (hk : KK ≤ k) {a : List (Int × Int × Int × List Int)} {e0 e1 : TypeId} {left : Int} (h0 : 0 ≤ left) (h1 : left ≤ 1048576) (h : InR (.sl e0 (.st (.pr (.int .i64) (.pr (.int .i64) (.pr (.int .i64) (.sl e1 (.int .i64))))))) a) : zdx_ k a left = some (if (z2m_ a : Int) ≤ left then left - (z2m_ a : Int) else -1) := by
  have hl : a.length ≤ 140737488351232 := h.1
  have hs : z2m_ a = a.length + sumL z1d_ a := rfl
  have hK := zg_
  unfold zdx_
  rw [hs, w_id (by omega) (by omega)]
  by_cases c : (a.length : Int) ≤ left
  · rw [decide_eq_false (by omega), if_neg (by simp)]
    refine Eq.trans (zgz_ (L := fun n i r => z8n_ k n a r i fun r => some r) (s := z1d_) a ?_ ?_ (n := k) (by omega) (r := left - (a.length : Int)) (by omega) (by omega)) ?_
    · intro n i x r hi hlt hm r0 r1
      have hw := ze_ (i := i) (by omega)
      have hx := zw3_ (a := x) r0 r1 (h.2 x hm)
      simp only [z8n_, hlt, decide_true, if_true, Int.natCast_nonneg, Int.toNat_natCast, hi, Option.bind_some, hw, hx]
      by_cases c2 : (z1d_ x : Int) ≤ r
      · rw [if_pos c2, decide_eq_false (by omega), if_neg (by simp), if_pos c2]
      · rw [if_neg c2, decide_eq_true (by omega), if_pos rfl, if_neg c2]
    · intro n r
      simp [z8n_]
    · by_cases c2 : (sumL z1d_ a : Int) ≤ left - (a.length : Int)
      · rw [if_pos c2, if_pos (by omega)]; congr 1; omega
      · rw [if_neg c2, if_neg (by omega)]
  · rw [decide_eq_true (by omega), if_pos rfl, if_neg (by omega)]
instance dec_Sheaf_2 : DecidableEq (List Int × (List (Int × Int × Int × List Int))) := inferInstance
instance dec_Sheaf_1 : DecidableEq (Int × List Int × (List (Int × Int × Int × List Int))) := inferInstance
instance dec_Sheaf : DecidableEq (List (List Int) × Int × List Int × (List (Int × Int × Int × List Int))) := inferInstance
def z1w_ (a : List (List Int) × Int × List Int × (List (Int × Int × Int × List Int))) : Nat := (z1r_ (a.1)) + (z11_ (a.2.2.1)) + (z2m_ (a.2.2.2))
theorem zw5_ {k : Nat} (hk : KK ≤ k) {a : List (List Int) × Int × List Int × (List (Int × Int × Int × List Int))} {e0 e1 e2 e3 e4 : TypeId} {left : Int} (h0 : 0 ≤ left) (h1 : left ≤ 1048576) (h : InR (.st (.pr (.st (.sl e0 (.sl e1 (.int .i64)))) (.pr (.int .i64) (.pr (.sl e2 (.int .i64)) (.sl e3 (.st (.pr (.int .i64) (.pr (.int .i64) (.pr (.int .i64) (.sl e4 (.int .i64))))))))))) a) : zdy_ k a left = some (if (z1w_ a : Int) ≤ left then left - (z1w_ a : Int) else -1) := by
  have hs : z1w_ a = (z1r_ (a.1)) + (z11_ (a.2.2.1)) + (z2m_ (a.2.2.2)) := rfl
  unfold zdy_
  rw [hs]
  have q0 := zpf_ hk (a := a.1) (left := left) (by omega) (by omega) h.1
  rw [q0]
  by_cases c0 : ((z1r_ (a.1)) : Int) ≤ left
  case neg => rw [if_neg c0]; simp only [Option.bind_some]; rw [decide_eq_true (by omega), if_pos rfl, if_neg (by omega)]
  rw [if_pos c0]; simp only [Option.bind_some]
  rw [decide_eq_false (by omega), if_neg (by simp)]
  have q1 := zkp_ (a := a.2.2.1) (left := left - ((z1r_ (a.1)) : Int)) (by omega) (by omega) h.2.2.1
  rw [q1]
  by_cases c1 : ((z11_ (a.2.2.1)) : Int) ≤ left - ((z1r_ (a.1)) : Int)
  case neg => rw [if_neg c1]; simp only [Option.bind_some]; rw [decide_eq_true (by omega), if_pos rfl, if_neg (by omega)]
  rw [if_pos c1]; simp only [Option.bind_some]
  rw [decide_eq_false (by omega), if_neg (by simp)]
  have q2 := zw4_ hk (a := a.2.2.2) (left := left - ((z1r_ (a.1)) : Int) - ((z11_ (a.2.2.1)) : Int)) (by omega) (by omega) h.2.2.2
  rw [q2]
  by_cases c2 : ((z2m_ (a.2.2.2)) : Int) ≤ left - ((z1r_ (a.1)) : Int) - ((z11_ (a.2.2.1)) : Int)
  case neg => rw [if_neg c2]; simp only [Option.bind_some]; rw [decide_eq_true (by omega), if_pos rfl, if_neg (by omega)]
  rw [if_pos c2]; simp only [Option.bind_some]
  rw [decide_eq_false (by omega), if_neg (by simp)]
  rw [if_pos (by omega)]; congr 1; omega
theorem zw6_ {s : She} (h : z1w_ s ≤ 1048576) : smallSh s := by
  have e : z1w_ s = s.1.length + sumL List.length s.1 + s.2.2.1.length + (s.2.2.2.length + sumL z1d_ s.2.2.2) := rfl
  refine ⟨⟨by omega, fun x hx => by have := z1v_ List.length hx; omega⟩, by omega, by omega, fun m hm => ?_⟩
  have h1 := z1v_ z1d_ hm
  have h2 : z1d_ m = m.2.2.2.length := rfl
  omega
instance dec_NamedComplex : DecidableEq (List UInt8 × List (List Int)) := inferInstance
def z18_ (a : List UInt8 × List (List Int)) : Nat := (List.length (a.1)) + (z1r_ (a.2))
theorem zw7_ {k : Nat} (hk : KK ≤ k) {a : List UInt8 × List (List Int)} {e0 e1 : TypeId} {left : Int} (h0 : 0 ≤ left) (h1 : left ≤ 1048576) (h : InR (.st (.pr .str (.st (.sl e0 (.sl e1 (.int .i64)))))) a) : zdu_ k a left = some (if (z18_ a : Int) ≤ left then left - (z18_ a : Int) else -1) := by
  have hs : z18_ a = (List.length (a.1)) + (z1r_ (a.2)) := rfl
  unfold zdu_
  rw [hs]
  have hl0 : List.length (a.1) ≤ 140737488351232 := h.1
  rw [w_id (x := left - (List.length (a.1) : Int)) (by omega) (by omega)]
  by_cases c0 : (List.length (a.1) : Int) ≤ left
  case neg => rw [decide_eq_true (by omega), if_pos rfl, if_neg (by omega)]
  rw [decide_eq_false (by omega), if_neg (by simp)]
  have q1 := zpf_ hk (a := a.2) (left := left - ((List.length (a.1)) : Int)) (by omega) (by omega) h.2
  rw [q1]
  by_cases c1 : ((z1r_ (a.2)) : Int) ≤ left - ((List.length (a.1)) : Int)
  case neg => rw [if_neg c1]; simp only [Option.bind_some]; rw [decide_eq_true (by omega), if_pos rfl, if_neg (by omega)]
  rw [if_pos c1]; simp only [Option.bind_some]
  rw [decide_eq_false (by omega), if_neg (by simp)]
  rw [if_pos (by omega)]; congr 1; omega
instance dec_NamedComplexS : DecidableEq (List (List UInt8 × List (List Int))) := inferInstance
def z25_ (a : List (List UInt8 × List (List Int))) : Nat := a.length + sumL z18_ a
theorem zw8_ {k : Nat} (hk : KK ≤ k) {a : List (List UInt8 × List (List Int))} {e0 e1 e2 : TypeId} {left : Int} (h0 : 0 ≤ left) (h1 : left ≤ 1048576) (h : InR (.sl e0 (.st (.pr .str (.st (.sl e1 (.sl e2 (.int .i64))))))) a) : zdv_ k a left = some (if (z25_ a : Int) ≤ left then left - (z25_ a : Int) else -1) := by
  have hl : a.length ≤ 140737488351232 := h.1
  have hs : z25_ a = a.length + sumL z18_ a := rfl
  have hK := zg_
  unfold zdv_
  rw [hs, w_id (by omega) (by omega)]
  by_cases c : (a.length : Int) ≤ left
  · rw [decide_eq_false (by omega), if_neg (by simp)]
    refine Eq.trans (zgz_ (L := fun n i r => z8m_ k n a r i fun r => some r) (s := z18_) a ?_ ?_ (n := k) (by omega) (r := left - (a.length : Int)) (by omega) (by omega)) ?_
    · intro n i x r hi hlt hm r0 r1
      have hw := ze_ (i := i) (by omega)
      have hx := zw7_ hk (a := x) r0 r1 (h.2 x hm)
      simp only [z8m_, hlt, decide_true, if_true, Int.natCast_nonneg, Int.toNat_natCast, hi, Option.bind_some, hw, hx]
      by_cases c2 : (z18_ x : Int) ≤ r
      · rw [if_pos c2, decide_eq_false (by omega), if_neg (by simp), if_pos c2]
      · rw [if_neg c2, decide_eq_true (by omega), if_pos rfl, if_neg c2]
    · intro n r
      simp [z8m_]
    · by_cases c2 : (sumL z18_ a : Int) ≤ left - (a.length : Int)
      · rw [if_pos c2, if_pos (by omega)]; congr 1; omega
      · rw [if_neg c2, if_neg (by omega)]
  · rw [decide_eq_true (by omega), if_pos rfl, if_neg (by omega)]
instance dec_NamedSheaf : DecidableEq (List UInt8 × (List (List Int) × Int × List Int × (List (Int × Int × Int × List Int)))) := inferInstance
def z1j_ (a : List UInt8 × (List (List Int) × Int × List Int × (List (Int × Int × Int × List Int)))) : Nat := (List.length (a.1)) + (z1w_ (a.2))
theorem zw9_ {k : Nat} (hk : KK ≤ k) {a : List UInt8 × (List (List Int) × Int × List Int × (List (Int × Int × Int × List Int)))} {e0 e1 e2 e3 e4 : TypeId} {left : Int} (h0 : 0 ≤ left) (h1 : left ≤ 1048576) (h : InR (.st (.pr .str (.st (.pr (.st (.sl e0 (.sl e1 (.int .i64)))) (.pr (.int .i64) (.pr (.sl e2 (.int .i64)) (.sl e3 (.st (.pr (.int .i64) (.pr (.int .i64) (.pr (.int .i64) (.sl e4 (.int .i64))))))))))))) a) : zdz_ k a left = some (if (z1j_ a : Int) ≤ left then left - (z1j_ a : Int) else -1) := by
  have hs : z1j_ a = (List.length (a.1)) + (z1w_ (a.2)) := rfl
  unfold zdz_
  rw [hs]
  have hl0 : List.length (a.1) ≤ 140737488351232 := h.1
  rw [w_id (x := left - (List.length (a.1) : Int)) (by omega) (by omega)]
  by_cases c0 : (List.length (a.1) : Int) ≤ left
  case neg => rw [decide_eq_true (by omega), if_pos rfl, if_neg (by omega)]
  rw [decide_eq_false (by omega), if_neg (by simp)]
  have q1 := zw5_ hk (a := a.2) (left := left - ((List.length (a.1)) : Int)) (by omega) (by omega) h.2
  rw [q1]
  by_cases c1 : ((z1w_ (a.2)) : Int) ≤ left - ((List.length (a.1)) : Int)
  case neg => rw [if_neg c1]; simp only [Option.bind_some]; rw [decide_eq_true (by omega), if_pos rfl, if_neg (by omega)]
  rw [if_pos c1]; simp only [Option.bind_some]
  rw [decide_eq_false (by omega), if_neg (by simp)]
  rw [if_pos (by omega)]; congr 1; omega
instance dec_NamedSheafS : DecidableEq (List (List UInt8 × (List (List Int) × Int × List Int × (List (Int × Int × Int × List Int))))) := inferInstance
def z2n_ (a : List (List UInt8 × (List (List Int) × Int × List Int × (List (Int × Int × Int × List Int))))) : Nat := a.length + sumL z1j_ a
theorem zwa_ {k : Nat} (hk : KK ≤ k) {a : List (List UInt8 × (List (List Int) × Int × List Int × (List (Int × Int × Int × List Int))))} {e0 e1 e2 e3 e4 e5 : TypeId} {left : Int} (h0 : 0 ≤ left) (h1 : left ≤ 1048576) (h : InR (.sl e0 (.st (.pr .str (.st (.pr (.st (.sl e1 (.sl e2 (.int .i64)))) (.pr (.int .i64) (.pr (.sl e3 (.int .i64)) (.sl e4 (.st (.pr (.int .i64) (.pr (.int .i64) (.pr (.int .i64) (.sl e5 (.int .i64)))))))))))))) a) : ze0_ k a left = some (if (z2n_ a : Int) ≤ left then left - (z2n_ a : Int) else -1) := by
  have hl : a.length ≤ 140737488351232 := h.1
  have hs : z2n_ a = a.length + sumL z1j_ a := rfl
  have hK := zg_
  unfold ze0_
  rw [hs, w_id (by omega) (by omega)]
  by_cases c : (a.length : Int) ≤ left
  · rw [decide_eq_false (by omega), if_neg (by simp)]
    refine Eq.trans (zgz_ (L := fun n i r => z8o_ k n a r i fun r => some r) (s := z1j_) a ?_ ?_ (n := k) (by omega) (r := left - (a.length : Int)) (by omega) (by omega)) ?_
    · intro n i x r hi hlt hm r0 r1
      have hw := ze_ (i := i) (by omega)
      have hx := zw9_ hk (a := x) r0 r1 (h.2 x hm)
      simp only [z8o_, hlt, decide_true, if_true, Int.natCast_nonneg, Int.toNat_natCast, hi, Option.bind_some, hw, hx]
      by_cases c2 : (z1j_ x : Int) ≤ r
      · rw [if_pos c2, decide_eq_false (by omega), if_neg (by simp), if_pos c2]
      · rw [if_neg c2, decide_eq_true (by omega), if_pos rfl, if_neg c2]
    · intro n r
      simp [z8o_]
    · by_cases c2 : (sumL z1j_ a : Int) ≤ left - (a.length : Int)
      · rw [if_pos c2, if_pos (by omega)]; congr 1; omega
      · rw [if_neg c2, if_neg (by omega)]
  · rw [decide_eq_true (by omega), if_pos rfl, if_neg (by omega)]
instance dec_World : DecidableEq ((List (List UInt8 × List (List Int))) × (List (List UInt8 × (List (List Int) × Int × List Int × (List (Int × Int × Int × List Int)))))) := inferInstance
def z2w_ (a : (List (List UInt8 × List (List Int))) × (List (List UInt8 × (List (List Int) × Int × List Int × (List (Int × Int × Int × List Int)))))) : Nat := (z25_ (a.1)) + (z2n_ (a.2))
theorem zwb_ {k : Nat} (hk : KK ≤ k) {a : (List (List UInt8 × List (List Int))) × (List (List UInt8 × (List (List Int) × Int × List Int × (List (Int × Int × Int × List Int)))))} {e0 e1 e2 e3 e4 e5 e6 e7 e8 : TypeId} {left : Int} (h0 : 0 ≤ left) (h1 : left ≤ 1048576) (h : InR (.st (.pr (.sl e0 (.st (.pr .str (.st (.sl e1 (.sl e2 (.int .i64))))))) (.sl e3 (.st (.pr .str (.st (.pr (.st (.sl e4 (.sl e5 (.int .i64)))) (.pr (.int .i64) (.pr (.sl e6 (.int .i64)) (.sl e7 (.st (.pr (.int .i64) (.pr (.int .i64) (.pr (.int .i64) (.sl e8 (.int .i64)))))))))))))))) a) : ze1_ k a left = some (if (z2w_ a : Int) ≤ left then left - (z2w_ a : Int) else -1) := by
  have hs : z2w_ a = (z25_ (a.1)) + (z2n_ (a.2)) := rfl
  unfold ze1_
  rw [hs]
  have q0 := zw8_ hk (a := a.1) (left := left) (by omega) (by omega) h.1
  rw [q0]
  by_cases c0 : ((z25_ (a.1)) : Int) ≤ left
  case neg => rw [if_neg c0]; simp only [Option.bind_some]; rw [decide_eq_true (by omega), if_pos rfl, if_neg (by omega)]
  rw [if_pos c0]; simp only [Option.bind_some]
  rw [decide_eq_false (by omega), if_neg (by simp)]
  have q1 := zwa_ hk (a := a.2) (left := left - ((z25_ (a.1)) : Int)) (by omega) (by omega) h.2
  rw [q1]
  by_cases c1 : ((z2n_ (a.2)) : Int) ≤ left - ((z25_ (a.1)) : Int)
  case neg => rw [if_neg c1]; simp only [Option.bind_some]; rw [decide_eq_true (by omega), if_pos rfl, if_neg (by omega)]
  rw [if_pos c1]; simp only [Option.bind_some]
  rw [decide_eq_false (by omega), if_neg (by simp)]
  rw [if_pos (by omega)]; congr 1; omega
def ctNC (x : NCx) : Nat := 1 + sumL List.length x.2
noncomputable def mkNC (k : Nat) (x : NCx) (m : Int) : NCx × Int := ((tM k m, (mkL mkIS x.2 (m + 1)).1), m + (ctNC x : Int))
theorem zwc_ (k : Nat) (x : NCx) (m : Int) : (mkNC k x m).2 = m + (ctNC x : Int) := rfl
theorem zwd_ {k : Nat} (hk : KK ≤ k) {L : List NCx} {m : Int} (h0 : 0 ≤ m) (h1 : m + (sumL ctNC L : Int) ≤ 10000000000000000) (hx : ∀ x ∈ L, x.2.length ≤ 1000000000000 ∧ ∀ r ∈ x.2, r.length ≤ 1000000000000) (hL : L.length ≤ 1000000000000) :
    zet_ k m L = some ((m + (sumL ctNC L : Int), ()), ((mkL (mkNC k) L m).1, ()), ()) := by
  have hK := zg_
  unfold zet_
  refine z7y_ (zwc_ k) L (m0 := m) (B := 10000000000000000) h1 (S := fun l => l) (L := fun n m i q => z9b_ k n m i q (fun k_10 q_11 => some ((k_10, ()), (q_11, ()), ()))) ?_ ?_ (n := k) (by omega)
  · intro n i m' l y hll hg hy m0 m1 hlt hlt'
    have hw := ze_ (i := i) (by omega)
    have hc : ctNC y = 1 + sumL List.length y.2 := rfl
    have w1 : z0_ (m' + 1) = m' + 1 := w_id (by omega) (by omega)
    have st := zpe_ hk (L := y.2) (m := m' + 1) (by omega) (by omega) (hx y hy).2 (hx y hy).1
    have e : m' + 1 + (sumL List.length y.2 : Int) = m' + (ctNC y : Int) := by omega
    simp only [z9b_, hlt, hlt', decide_true, if_true, zpb_ hk (show m' ≤ 9223372036854775807 by omega), Option.bind_some, Int.natCast_nonneg, Int.toNat_natCast, and_self, hg, List.length_set, List.getElem?_set_self hlt', w1, st, List.set_set, e, hw]
    rfl
  · intro n l hl2 hll
    have : ¬ (L.length : Int) < (l.length : Int) := by omega
    simp only [z9b_, this, decide_false, Bool.false_eq_true, if_false]
    rw [hl2]
theorem zwe_ {k : Nat} (hk : KK ≤ k) {q : List NSh} {a : Nat} {z : NSh} (hz : q[a]? = some z) {m : Int} (h0 : 0 ≤ m) (h1 : m ≤ 1000000000000000000) (hl : z.2.2.2.1.length ≤ 1000000000000) :
    zeu_ k a m q = some ((m + (z.2.2.2.1.length : Int), ()), (q.set a (z.1, z.2.1, z.2.2.1, (mkL mkI z.2.2.2.1 m).1, z.2.2.2.2), ()), ()) := by
  have hK := zg_
  have ha := (List.getElem?_eq_some_iff.1 hz).1
  have hs := zh0_ z.2.2.2.1
  unfold zeu_
  have e : q = q.set a (z.1, z.2.1, z.2.2.1, z.2.2.2.1, z.2.2.2.2) := by
    obtain ⟨h, rfl⟩ := List.getElem?_eq_some_iff.1 hz
    exact (List.set_getElem_self h).symm
  have := z7y_ zko_ z.2.2.2.1 (m0 := m) (B := 2000000000000000000) (by omega) (S := fun l => q.set a (z.1, z.2.1, z.2.2.1, l, z.2.2.2.2)) (L := fun n m i q => z9c_ k n a m i q (fun k_10 q_11 => some ((k_10, ()), (q_11, ()), ())))
    (G := some ((m + (z.2.2.2.1.length : Int), ()), (q.set a (z.1, z.2.1, z.2.2.1, (mkL mkI z.2.2.2.1 m).1, z.2.2.2.2), ()), ())) ?_ ?_ (n := k) (by omega)
  · rw [← e] at this
    exact this
  · intro n i m l y hll hg hy m0 m1 hlt hlt'
    have hw := ze_ (i := i) (by omega)
    have hm : z0_ (m + 1) = m + ((1 : Nat) : Int) := w_id (by omega) (by omega)
    simp only [z9c_, List.getElem?_set_self ha, Option.bind_some, hlt, hlt', decide_true, if_true, Int.natCast_nonneg, Int.toNat_natCast, and_self, List.getElem?_eq_getElem hlt', hm, hw, List.set_set, mkI]
  · intro n l hl2 hll
    have : ¬ (z.2.2.2.1.length : Int) < (l.length : Int) := by omega
    simp only [z9c_, List.getElem?_set_self ha, Option.bind_some, this, decide_false, Bool.false_eq_true, if_false, hs]
    rw [hl2]
def ctNS (x : NSh) : Nat := 2 + (sumL List.length x.2.1 + (x.2.2.2.1.length + sumL ctM x.2.2.2.2))
def nsP (x : NSh) (m : Int) : Int := m + 1 + (sumL List.length x.2.1 : Int)
noncomputable def mkNS (k : Nat) (x : NSh) (m : Int) : NSh × Int := ((tM k m, (mkL mkIS x.2.1 (m + 1)).1, nsP x m, (mkL mkI x.2.2.2.1 (nsP x m + 1)).1, (mkL mkMt x.2.2.2.2 (nsP x m + 1 + (x.2.2.2.1.length : Int))).1), m + (ctNS x : Int))
theorem zwf_ (k : Nat) (x : NSh) (m : Int) : (mkNS k x m).2 = m + (ctNS x : Int) := rfl
theorem zwg_ {k : Nat} (hk : KK ≤ k) {L : List NSh} {m : Int} (h0 : 0 ≤ m) (h1 : m + (sumL ctNS L : Int) ≤ 10000000000000000) (hx : ∀ x ∈ L, x.2.1.length ≤ 1000000000000 ∧ ∀ r ∈ x.2.1, r.length ≤ 1000000000000)
    (hx1 : ∀ x ∈ L, x.2.2.2.1.length ≤ 1000000000000) (hx2 : ∀ x ∈ L, x.2.2.2.2.length ≤ 1000000000000 ∧ ∀ r ∈ x.2.2.2.2, r.2.2.2.length ≤ 1000000000000) (hL : L.length ≤ 1000000000000) :
    zex_ k m L = some ((m + (sumL ctNS L : Int), ()), ((mkL (mkNS k) L m).1, ()), ()) := by
  have hK := zg_
  unfold zex_
  refine z7y_ (zwf_ k) L (m0 := m) (B := 10000000000000000) h1 (S := fun l => l) (L := fun n m i q => z9f_ k n m i q (fun k_18 q_19 => some ((k_18, ()), (q_19, ()), ()))) ?_ ?_ (n := k) (by omega)
  · intro n i m' l y hll hg hy m0 m1 hlt hlt'
    have hw := ze_ (i := i) (by omega)
    have hc : ctNS y = 2 + (sumL List.length y.2.1 + (y.2.2.2.1.length + sumL ctM y.2.2.2.2)) := rfl
    have hp : m' + 1 + (sumL List.length y.2.1 : Int) = nsP y m' := rfl
    have w1 : z0_ (m' + 1) = m' + 1 := w_id (by omega) (by omega)
    have w2 : z0_ (nsP y m' + 1) = nsP y m' + 1 := w_id (by omega) (by omega)
    have st := zpe_ hk (L := y.2.1) (m := m' + 1) (by omega) (by omega) (hx y hy).2 (hx y hy).1
    rw [hp] at st
    have st2 := zwe_ hk (q := l.set i (tM k m', (mkL mkIS y.2.1 (m' + 1)).1, nsP y m', y.2.2.2)) (a := i) (z := (tM k m', (mkL mkIS y.2.1 (m' + 1)).1, nsP y m', y.2.2.2)) (List.getElem?_set_self hlt') (m := nsP y m' + 1) (by omega) (by omega) (hx1 y hy)
    have st3 := zw1_ hk (L := y.2.2.2.2) (m := nsP y m' + 1 + (y.2.2.2.1.length : Int)) (by omega) (by omega) (hx2 y hy).2 (hx2 y hy).1
    have e : nsP y m' + 1 + (y.2.2.2.1.length : Int) + (sumL ctM y.2.2.2.2 : Int) = m' + (ctNS y : Int) := by omega
    simp only [z9f_, hlt, hlt', decide_true, if_true, zpb_ hk (show m' ≤ 9223372036854775807 by omega), Option.bind_some, Int.natCast_nonneg, Int.toNat_natCast, and_self, hg, List.length_set, List.getElem?_set_self hlt', w1, w2, st, st2, st3, List.set_set, e, hw]
    rfl
  · intro n l hl2 hll
    have : ¬ (L.length : Int) < (l.length : Int) := by omega
    simp only [z9f_, this, decide_false, Bool.false_eq_true, if_false]
    rw [hl2]
abbrev Blk := List UInt8 × List UInt8 × List UInt8
theorem zwh_ {k : Nat} (hk : KK ≤ k) {a b : List Blk} (ha : a.length < 4611686018427387904) : z92_ k a b = some (decide (a = b)) := by
  unfold z92_
  by_cases hl : a.length = b.length
  · rw [if_neg (by simp [hl])]
    refine z51_ (L := fun n i => z91_ k n a b i (some true)) a b hl ?_ ?_ (n := k) (by have := zg_; omega)
    · intro n i x y hx hy hlt
      have hw := ze_ (i := i) (by omega)
      obtain ⟨x1, x2, x3⟩ := x
      obtain ⟨y1, y2, y3⟩ := y
      simp only [z91_, ziy_, hlt, decide_true, if_true, Int.natCast_nonneg, Int.toNat_natCast, hx, hy, Option.bind_some, hw, Prod.mk.injEq]
      by_cases e1 : x1 = y1 <;> by_cases e2 : x2 = y2 <;> by_cases e3 : x3 = y3 <;> simp [e1, e2, e3]
    · intro n
      simp [z91_]
  · have h2 : a ≠ b := fun e => hl (by rw [e])
    have h3 : ¬ (a.length : Int) = b.length := by omega
    simp [h3, h2]
noncomputable def mT (k : Nat) (m : Int) (j : Nat) : List UInt8 := (z2e_ k (m + j)).getD []
theorem zao_ {k : Nat} (hk : KK ≤ k) {m : Int} (h1 : m ≤ 1000000000000) {j : Nat} (hj : j ≤ 4000000000000) : z2e_ k (m + j) = some (mT k m j) := by
  obtain ⟨t, ht⟩ := zpa_ hk (n := m + j) (by omega)
  unfold mT
  rw [ht]; rfl
noncomputable def mB (k : Nat) (m : Int) (i : Nat) : Blk := (mT k m (3 * i), mT k m (3 * i + 1), mT k m (3 * i + 2))
theorem zwi_ {k : Nat} (hk : KK ≤ k) {a : List Blk} {m : Int} (h0 : 0 ≤ m) (h1 : m ≤ 1000000000000) (ha : a.length ≤ 1000000000000) :
    zez_ k m a = some ((m + ((3 * a.length : Nat) : Int), ()), ((List.range a.length).map (mB k m), ()), ()) := by
  unfold zez_
  have := zq_ (α := Nat) (A := List Blk) (L := fun n i q => z9g_ k n (m + 3 * i) i q fun k_12 q_13 => some ((k_12, ()), (q_13, ()), ()))
    (I := fun pre q => q.length = a.length ∧ q.take pre.length = (List.range pre.length).map (mB k m)) (G := fun _ _ => some ((m + ((3 * a.length : Nat) : Int), ()), ((List.range a.length).map (mB k m), ()), ())) (List.range a.length) ?_ ?_ k (by have := zg_; simp; omega) a ⟨rfl, by simp⟩
  · simpa using this
  · intro n pre x post q hx hq ih hg hlt
    rw [List.length_range] at hlt
    have hw := ze_ (i := pre.length) (by omega)
    have hl : pre.length < q.length := by omega
    have e0 : m + 3 * (pre.length : Int) = m + ((3 * pre.length : Nat) : Int) := by omega
    have e1 : z0_ (m + 3 * (pre.length : Int) + 1) = m + ((3 * pre.length + 1 : Nat) : Int) := by rw [w_id (by omega) (by omega)]; omega
    have e2 : z0_ (m + ((3 * pre.length + 1 : Nat) : Int) + 1) = m + ((3 * pre.length + 2 : Nat) : Int) := by rw [w_id (by omega) (by omega)]; omega
    have e3 : z0_ (m + ((3 * pre.length + 2 : Nat) : Int) + 1) = m + 3 * ((pre.length + 1 : Nat) : Int) := by rw [w_id (by omega) (by omega)]; omega
    have hlt' : (pre.length : Int) < (q.length : Int) := by omega
    have t0 : z2e_ k (m + 3 * (pre.length : Int)) = some (mT k m (3 * pre.length)) := by rw [e0]; exact zao_ hk h1 (by omega)
    simp only [z9g_, hlt', decide_true, if_true, t0, e1, e2, e3, zao_ hk h1 (show 3 * pre.length + 1 ≤ 4000000000000 by omega), zao_ hk h1 (show 3 * pre.length + 2 ≤ 4000000000000 by omega), Option.bind_some, Int.natCast_nonneg, Int.toNat_natCast, hl, and_self, List.getElem?_eq_getElem hl, List.length_set, List.getElem?_set_self, List.set_set, hw]
    refine ih _ ⟨by rw [List.length_set]; exact hq.1, ?_⟩
    rw [List.length_append, List.length_singleton, List.take_succ_eq_append_getElem (by simpa using hl), List.getElem_set_self, List.take_set_of_le (Nat.le_refl _), hq.2, List.range_succ]
    simp [mB]
  · intro n q hq
    have : ¬ ((List.range a.length).length : Int) < (q.length : Int) := by rw [hq.1]; simp
    have h2 := hq.2
    rw [List.length_range, ← hq.1, List.take_length, hq.1] at h2
    simp only [z9g_, this, decide_false, Bool.false_eq_true, if_false]
    simp [h2]
theorem zwj_ {k : Nat} (hk : KK ≤ k) {N : Nat} {m : Int} (h0 : 0 ≤ m) (h1 : m ≤ 1000000000000) (hN : N ≤ 1000000000000) : zbs_ k ((List.range N).map (mB k m)) m = some (m + ((3 * N : Nat) : Int)) := by
  unfold zbs_
  have := zq_ (α := Blk) (A := Unit) (L := fun n i _ => z9h_ k n ((List.range N).map (mB k m)) (m + 3 * i) i fun k_3 => some k_3) (I := fun _ _ => True) (G := fun _ _ => some (m + ((3 * N : Nat) : Int))) ((List.range N).map (mB k m)) ?_ ?_ k (by have := zg_; simp; omega) () trivial
  · simpa using this
  · intro n pre x post _ hx _ ih hg hlt
    have hpl : pre.length < N := by simpa using hlt
    have hw := ze_ (i := pre.length) (by omega)
    have e0 : m + 3 * (pre.length : Int) = m + ((3 * pre.length : Nat) : Int) := by omega
    have e1 : z0_ (m + 3 * (pre.length : Int) + 1) = m + ((3 * pre.length + 1 : Nat) : Int) := by rw [w_id (by omega) (by omega)]; omega
    have e2 : z0_ (m + ((3 * pre.length + 1 : Nat) : Int) + 1) = m + ((3 * pre.length + 2 : Nat) : Int) := by rw [w_id (by omega) (by omega)]; omega
    have e3 : z0_ (m + ((3 * pre.length + 2 : Nat) : Int) + 1) = m + 3 * ((pre.length + 1 : Nat) : Int) := by rw [w_id (by omega) (by omega)]; omega
    have t0 : z2e_ k (m + 3 * (pre.length : Int)) = some (mT k m (3 * pre.length)) := by rw [e0]; exact zao_ hk h1 (by omega)
    have hxT : x = mB k m pre.length := by
      rw [List.getElem?_map, List.getElem?_range hpl] at hg
      simpa using hg.symm
    subst hxT
    simp only [z9h_, hlt, decide_true, if_true, Int.natCast_nonneg, Int.toNat_natCast, hg, Option.bind_some, t0, e1, e2, e3, mB, zao_ hk h1 (show 3 * pre.length + 1 ≤ 4000000000000 by omega), zao_ hk h1 (show 3 * pre.length + 2 ≤ 4000000000000 by omega), Bool.not_true, Bool.false_eq_true, if_false, hw]
    exact ih () trivial
  · intro n _ _
    simp [z9h_]
theorem zkq_ {k : Nat} (hk : KK ≤ k) {a : List Int} (h : z11_ a ≤ 10000000000) : z8q_ k a = some a := by
  have hl : a.length ≤ 10000000000 := Nat.le_trans (show a.length ≤ z11_ a by unfold z11_; omega) h
  unfold z8q_
  have hL := zy_
  rw [if_pos ⟨by omega, Int.le_refl _, by omega⟩]
  refine zbm_ (L := fun n i q => z8p_ k n a i q fun q_5 => some q_5) (e := fun q => some q) a _ (by simp) ?_ ?_ (n := k) (by have := zg_; omega)
  · intro n i x q hx hlt hq
    have hw := ze_ (i := i) (by omega)
    have hi : i < q.length := by omega
    simp [z8p_, hlt, hx, hw, hi]
  · intro n q
    simp [z8p_]
theorem zwk_ {k : Nat} (hk : KK ≤ k) {a : List (List Int)} (h : z2l_ a ≤ 10000000000) : ze2_ k a = some a := by
  have hl : a.length ≤ 10000000000 := Nat.le_trans (show a.length ≤ z2l_ a by unfold z2l_; omega) h
  unfold ze2_
  have hL := zy_
  rw [if_pos ⟨by omega, Int.le_refl _, by omega⟩]
  refine zbm_ (L := fun n i q => z8r_ k n a i q fun q_5 => some q_5) (e := fun q => some q) a _ (by simp) ?_ ?_ (n := k) (by have := zg_; omega)
  · intro n i x q hx hlt hq
    have hw := ze_ (i := i) (by omega)
    have hi : i < q.length := by omega
    have hm := z1v_ z11_ (List.mem_of_getElem? hx)
    have hb : z11_ x ≤ 10000000000 := by unfold z2l_ at h; omega
    simp [z8r_, zkq_ hk hb, hlt, hx, hw, hi]
  · intro n q
    simp [z8r_]
theorem zpg_ {k : Nat} (hk : KK ≤ k) {a : List (List Int)} (h : z1r_ a ≤ 10000000000) : zbo_ k a = some a := by
  have b0 : (z2l_ a) ≤ 10000000000 := by unfold z1r_ at h; omega
  unfold zbo_
  simp only [zwk_ hk b0, Option.bind_some] <;> rfl
theorem zwl_ {k : Nat} (hk : KK ≤ k) {a : List UInt8 × List (List Int)} (h : z18_ a ≤ 10000000000) : ze3_ k a = some a := by
  have b1 : (z1r_ (a.2)) ≤ 10000000000 := by unfold z18_ at h; omega
  unfold ze3_
  simp only [zpg_ hk b1, Option.bind_some] <;> rfl
theorem zwm_ {k : Nat} (hk : KK ≤ k) {a : List (List UInt8 × List (List Int))} (h : z25_ a ≤ 10000000000) : ze4_ k a = some a := by
  have hl : a.length ≤ 10000000000 := Nat.le_trans (show a.length ≤ z25_ a by unfold z25_; omega) h
  unfold ze4_
  have hL := zy_
  rw [if_pos ⟨by omega, Int.le_refl _, by omega⟩]
  refine zbm_ (L := fun n i q => z8s_ k n a i q fun q_5 => some q_5) (e := fun q => some q) a _ (by simp) ?_ ?_ (n := k) (by have := zg_; omega)
  · intro n i x q hx hlt hq
    have hw := ze_ (i := i) (by omega)
    have hi : i < q.length := by omega
    have hm := z1v_ z18_ (List.mem_of_getElem? hx)
    have hb : z18_ x ≤ 10000000000 := by unfold z25_ at h; omega
    simp [z8s_, zwl_ hk hb, hlt, hx, hw, hi]
  · intro n q
    simp [z8s_]
theorem zwn_ {k : Nat} (hk : KK ≤ k) {a : Int × Int × Int × List Int} (h : z1d_ a ≤ 10000000000) : ze5_ k a = some a := by
  have b3 : (z11_ (a.2.2.2)) ≤ 10000000000 := by unfold z1d_ at h; omega
  unfold ze5_
  simp only [zkq_ hk b3, Option.bind_some] <;> rfl
theorem zwo_ {k : Nat} (hk : KK ≤ k) {a : List (Int × Int × Int × List Int)} (h : z2m_ a ≤ 10000000000) : ze6_ k a = some a := by
  have hl : a.length ≤ 10000000000 := Nat.le_trans (show a.length ≤ z2m_ a by unfold z2m_; omega) h
  unfold ze6_
  have hL := zy_
  rw [if_pos ⟨by omega, Int.le_refl _, by omega⟩]
  refine zbm_ (L := fun n i q => z8t_ k n a i q fun q_5 => some q_5) (e := fun q => some q) a _ (by simp) ?_ ?_ (n := k) (by have := zg_; omega)
  · intro n i x q hx hlt hq
    have hw := ze_ (i := i) (by omega)
    have hi : i < q.length := by omega
    have hm := z1v_ z1d_ (List.mem_of_getElem? hx)
    have hb : z1d_ x ≤ 10000000000 := by unfold z2m_ at h; omega
    simp [z8t_, zwn_ hk hb, hlt, hx, hw, hi]
  · intro n q
    simp [z8t_]
theorem zwp_ {k : Nat} (hk : KK ≤ k) {a : List (List Int) × Int × List Int × (List (Int × Int × Int × List Int))} (h : z1w_ a ≤ 10000000000) : ze7_ k a = some a := by
  have b0 : (z1r_ (a.1)) ≤ 10000000000 := by unfold z1w_ at h; omega
  have b2 : (z11_ (a.2.2.1)) ≤ 10000000000 := by unfold z1w_ at h; omega
  have b3 : (z2m_ (a.2.2.2)) ≤ 10000000000 := by unfold z1w_ at h; omega
  unfold ze7_
  simp only [zpg_ hk b0, zkq_ hk b2, zwo_ hk b3, Option.bind_some] <;> rfl
theorem zwq_ {k : Nat} (hk : KK ≤ k) {a : List UInt8 × (List (List Int) × Int × List Int × (List (Int × Int × Int × List Int)))} (h : z1j_ a ≤ 10000000000) : ze8_ k a = some a := by
  have b1 : (z1w_ (a.2)) ≤ 10000000000 := by unfold z1j_ at h; omega
  unfold ze8_
  simp only [zwp_ hk b1, Option.bind_some] <;> rfl
theorem zwr_ {k : Nat} (hk : KK ≤ k) {a : List (List UInt8 × (List (List Int) × Int × List Int × (List (Int × Int × Int × List Int))))} (h : z2n_ a ≤ 10000000000) : zf2_ k a = some a := by
  have hl : a.length ≤ 10000000000 := Nat.le_trans (show a.length ≤ z2n_ a by unfold z2n_; omega) h
  unfold zf2_
  have hL := zy_
  rw [if_pos ⟨by omega, Int.le_refl _, by omega⟩]
  refine zbm_ (L := fun n i q => z9i_ k n a i q fun q_5 => some q_5) (e := fun q => some q) a _ (by simp) ?_ ?_ (n := k) (by have := zg_; omega)
  · intro n i x q hx hlt hq
    have hw := ze_ (i := i) (by omega)
    have hi : i < q.length := by omega
    have hm := z1v_ z1j_ (List.mem_of_getElem? hx)
    have hb : z1j_ x ≤ 10000000000 := by unfold z2n_ at h; omega
    simp [z9i_, zwq_ hk hb, hlt, hx, hw, hi]
  · intro n q
    simp [z9i_]
theorem zws_ {k : Nat} (hk : KK ≤ k) {a : (List (List UInt8 × List (List Int))) × (List (List UInt8 × (List (List Int) × Int × List Int × (List (Int × Int × Int × List Int)))))} (h : z2w_ a ≤ 10000000000) : z6y_ k a = some a := by
  have b0 : (z25_ (a.1)) ≤ 10000000000 := by unfold z2w_ at h; omega
  have b1 : (z2n_ (a.2)) ≤ 10000000000 := by unfold z2w_ at h; omega
  unfold z6y_
  simp only [zwm_ hk b0, zwr_ hk b1, Option.bind_some] <;> rfl
theorem zkr_ {k : Nat} (hk : KK ≤ k) {a b : List Int} (h : z11_ a ≤ 10000000000) : z94_ k a b = some (decide (a = b)) := by
  have hle : a.length ≤ 10000000000 := Nat.le_trans (show a.length ≤ z11_ a by unfold z11_; omega) h
  unfold z94_
  by_cases hl : a.length = b.length
  · rw [if_neg (by simp [hl])]
    refine z51_ (L := fun n i => z93_ k n a b i (some true)) a b hl ?_ ?_ (n := k) (by have := zg_; omega)
    · intro n i x y hx hy hlt
      have hw := ze_ (i := i) (by omega)
      by_cases e : x = y <;> simp [z93_, hlt, hx, hy, hw, e]
    · intro n
      simp [z93_]
  · have h2 : a ≠ b := fun e => hl (by rw [e])
    have h3 : ¬ (a.length : Int) = b.length := by omega
    simp [h3, h2]
theorem zwt_ {k : Nat} (hk : KK ≤ k) {a b : List (List Int)} (h : z2l_ a ≤ 10000000000) : zej_ k a b = some (decide (a = b)) := by
  have hle : a.length ≤ 10000000000 := Nat.le_trans (show a.length ≤ z2l_ a by unfold z2l_; omega) h
  unfold zej_
  by_cases hl : a.length = b.length
  · rw [if_neg (by simp [hl])]
    refine z51_ (L := fun n i => z95_ k n a b i (some true)) a b hl ?_ ?_ (n := k) (by have := zg_; omega)
    · intro n i x y hx hy hlt
      have hw := ze_ (i := i) (by omega)
      have hm := z1v_ z11_ (List.mem_of_getElem? hx)
      have hb : z11_ x ≤ 10000000000 := by unfold z2l_ at h; omega
      simp only [z95_, hlt, decide_true, if_true, Int.natCast_nonneg, Int.toNat_natCast, hx, hy, Option.bind_some, hw, zkr_ hk hb]
      by_cases e : x = y
      · rw [decide_eq_true e, if_pos e]; simp
      · rw [decide_eq_false e, if_neg e]; simp
    · intro n
      simp [z95_]
  · have h2 : a ≠ b := fun e => hl (by rw [e])
    have h3 : ¬ (a.length : Int) = b.length := by omega
    simp [h3, h2]
theorem zph_ {k : Nat} (hk : KK ≤ k) {a b : List (List Int)} (h : z1r_ a ≤ 10000000000) : zbq_ k a b = some (decide (a = b)) := by
  have c0 : (z2l_ a) ≤ 10000000000 := by unfold z1r_ at h; omega
  unfold zbq_
  simp only [zwt_ hk c0, Option.bind_some, Prod.mk.injEq]
  by_cases x0 : a = b
  case neg => simp [x0]
  subst x0
  simp
theorem zwu_ {k : Nat} (hk : KK ≤ k) {a b : List UInt8 × List (List Int)} (h : z18_ a ≤ 10000000000) : zek_ k a b = some (decide (a = b)) := by
  obtain ⟨a0, a1⟩ := a
  obtain ⟨b0, b1⟩ := b
  have c1 : (z1r_ a1) ≤ 10000000000 := by unfold z18_ at h; simp only at h; omega
  unfold zek_
  simp only [zph_ hk c1, Option.bind_some, Prod.mk.injEq]
  by_cases x0 : a0 = b0
  case neg => simp [x0]
  subst x0
  by_cases x1 : a1 = b1
  case neg => simp [x1]
  subst x1
  simp
theorem zwv_ {k : Nat} (hk : KK ≤ k) {a b : List (List UInt8 × List (List Int))} (h : z25_ a ≤ 10000000000) : zel_ k a b = some (decide (a = b)) := by
  have hle : a.length ≤ 10000000000 := Nat.le_trans (show a.length ≤ z25_ a by unfold z25_; omega) h
  unfold zel_
  by_cases hl : a.length = b.length
  · rw [if_neg (by simp [hl])]
    refine z51_ (L := fun n i => z96_ k n a b i (some true)) a b hl ?_ ?_ (n := k) (by have := zg_; omega)
    · intro n i x y hx hy hlt
      have hw := ze_ (i := i) (by omega)
      have hm := z1v_ z18_ (List.mem_of_getElem? hx)
      have hb : z18_ x ≤ 10000000000 := by unfold z25_ at h; omega
      simp only [z96_, hlt, decide_true, if_true, Int.natCast_nonneg, Int.toNat_natCast, hx, hy, Option.bind_some, hw, zwu_ hk hb]
      by_cases e : x = y
      · rw [decide_eq_true e, if_pos e]; simp
      · rw [decide_eq_false e, if_neg e]; simp
    · intro n
      simp [z96_]
  · have h2 : a ≠ b := fun e => hl (by rw [e])
    have h3 : ¬ (a.length : Int) = b.length := by omega
    simp [h3, h2]
theorem zww_ {k : Nat} (hk : KK ≤ k) {a b : Int × Int × Int × List Int} (h : z1d_ a ≤ 10000000000) : zem_ k a b = some (decide (a = b)) := by
  obtain ⟨a0, a1, a2, a3⟩ := a
  obtain ⟨b0, b1, b2, b3⟩ := b
  have c3 : (z11_ a3) ≤ 10000000000 := by unfold z1d_ at h; simp only at h; omega
  unfold zem_
  simp only [zkr_ hk c3, Option.bind_some, Prod.mk.injEq]
  by_cases x0 : a0 = b0
  case neg => simp [x0]
  subst x0
  by_cases x1 : a1 = b1
  case neg => simp [x1]
  subst x1
  by_cases x2 : a2 = b2
  case neg => simp [x2]
  subst x2
  by_cases x3 : a3 = b3
  case neg => simp [x3]
  subst x3
  simp
theorem zwx_ {k : Nat} (hk : KK ≤ k) {a b : List (Int × Int × Int × List Int)} (h : z2m_ a ≤ 10000000000) : zen_ k a b = some (decide (a = b)) := by
  have hle : a.length ≤ 10000000000 := Nat.le_trans (show a.length ≤ z2m_ a by unfold z2m_; omega) h
  unfold zen_
  by_cases hl : a.length = b.length
  · rw [if_neg (by simp [hl])]
    refine z51_ (L := fun n i => z97_ k n a b i (some true)) a b hl ?_ ?_ (n := k) (by have := zg_; omega)
    · intro n i x y hx hy hlt
      have hw := ze_ (i := i) (by omega)
      have hm := z1v_ z1d_ (List.mem_of_getElem? hx)
      have hb : z1d_ x ≤ 10000000000 := by unfold z2m_ at h; omega
      simp only [z97_, hlt, decide_true, if_true, Int.natCast_nonneg, Int.toNat_natCast, hx, hy, Option.bind_some, hw, zww_ hk hb]
      by_cases e : x = y
      · rw [decide_eq_true e, if_pos e]; simp
      · rw [decide_eq_false e, if_neg e]; simp
    · intro n
      simp [z97_]
  · have h2 : a ≠ b := fun e => hl (by rw [e])
    have h3 : ¬ (a.length : Int) = b.length := by omega
    simp [h3, h2]
theorem zwy_ {k : Nat} (hk : KK ≤ k) {a b : List (List Int) × Int × List Int × (List (Int × Int × Int × List Int))} (h : z1w_ a ≤ 10000000000) : zeo_ k a b = some (decide (a = b)) := by
  obtain ⟨a0, a1, a2, a3⟩ := a
  obtain ⟨b0, b1, b2, b3⟩ := b
  have c0 : (z1r_ a0) ≤ 10000000000 := by unfold z1w_ at h; simp only at h; omega
  have c2 : (z11_ a2) ≤ 10000000000 := by unfold z1w_ at h; simp only at h; omega
  have c3 : (z2m_ a3) ≤ 10000000000 := by unfold z1w_ at h; simp only at h; omega
  unfold zeo_
  simp only [zph_ hk c0, zkr_ hk c2, zwx_ hk c3, Option.bind_some, Prod.mk.injEq]
  by_cases x0 : a0 = b0
  case neg => simp [x0]
  subst x0
  by_cases x1 : a1 = b1
  case neg => simp [x1]
  subst x1
  by_cases x2 : a2 = b2
  case neg => simp [x2]
  subst x2
  by_cases x3 : a3 = b3
  case neg => simp [x3]
  subst x3
  simp
theorem zwz_ {k : Nat} (hk : KK ≤ k) {a b : List UInt8 × (List (List Int) × Int × List Int × (List (Int × Int × Int × List Int)))} (h : z1j_ a ≤ 10000000000) : zep_ k a b = some (decide (a = b)) := by
  obtain ⟨a0, a1⟩ := a
  obtain ⟨b0, b1⟩ := b
  have c1 : (z1w_ a1) ≤ 10000000000 := by unfold z1j_ at h; simp only at h; omega
  unfold zep_
  simp only [zwy_ hk c1, Option.bind_some, Prod.mk.injEq]
  by_cases x0 : a0 = b0
  case neg => simp [x0]
  subst x0
  by_cases x1 : a1 = b1
  case neg => simp [x1]
  subst x1
  simp
theorem zx0_ {k : Nat} (hk : KK ≤ k) {a b : List (List UInt8 × (List (List Int) × Int × List Int × (List (Int × Int × Int × List Int))))} (h : z2n_ a ≤ 10000000000) : zeq_ k a b = some (decide (a = b)) := by
  have hle : a.length ≤ 10000000000 := Nat.le_trans (show a.length ≤ z2n_ a by unfold z2n_; omega) h
  unfold zeq_
  by_cases hl : a.length = b.length
  · rw [if_neg (by simp [hl])]
    refine z51_ (L := fun n i => z98_ k n a b i (some true)) a b hl ?_ ?_ (n := k) (by have := zg_; omega)
    · intro n i x y hx hy hlt
      have hw := ze_ (i := i) (by omega)
      have hm := z1v_ z1j_ (List.mem_of_getElem? hx)
      have hb : z1j_ x ≤ 10000000000 := by unfold z2n_ at h; omega
      simp only [z98_, hlt, decide_true, if_true, Int.natCast_nonneg, Int.toNat_natCast, hx, hy, Option.bind_some, hw, zwz_ hk hb]
      by_cases e : x = y
      · rw [decide_eq_true e, if_pos e]; simp
      · rw [decide_eq_false e, if_neg e]; simp
    · intro n
      simp [z98_]
  · have h2 : a ≠ b := fun e => hl (by rw [e])
    have h3 : ¬ (a.length : Int) = b.length := by omega
    simp [h3, h2]
theorem zx1_ {k : Nat} (hk : KK ≤ k) {a b : (List (List UInt8 × List (List Int))) × (List (List UInt8 × (List (List Int) × Int × List Int × (List (Int × Int × Int × List Int)))))} (h : z2w_ a ≤ 10000000000) : zer_ k a b = some (decide (a = b)) := by
  obtain ⟨a0, a1⟩ := a
  obtain ⟨b0, b1⟩ := b
  have c0 : (z25_ a0) ≤ 10000000000 := by unfold z2w_ at h; simp only at h; omega
  have c1 : (z2n_ a1) ≤ 10000000000 := by unfold z2w_ at h; simp only at h; omega
  unfold zer_
  simp only [zwv_ hk c0, zx0_ hk c1, Option.bind_some, Prod.mk.injEq]
  by_cases x0 : a0 = b0
  case neg => simp [x0]
  subst x0
  by_cases x1 : a1 = b1
  case neg => simp [x1]
  subst x1
  simp
theorem zx2_ (x : (List (List UInt8 × List (List Int))) × (List (List UInt8 × (List (List Int) × Int × List Int × (List (Int × Int × Int × List Int)))))) : (x.1, x.2) = x := rfl
theorem zx3_ {w : Wld} (h : z2w_ w ≤ 1048576) : smallWd w := by
  have e : z2w_ w = (w.1.length + sumL z18_ w.1) + (w.2.length + sumL z1j_ w.2) := rfl
  refine ⟨by omega, by omega, fun c hc => ?_, fun s hs => ?_, fun c hc => ?_, fun s hs => zw6_ ?_⟩
  · have h1 := z1v_ z18_ hc
    have h2 : z18_ c = c.1.length + (c.2.length + sumL List.length c.2) := rfl
    omega
  · have h1 := z1v_ z1j_ hs
    have h2 : z1j_ s = s.1.length + z1w_ s.2 := rfl
    omega
  · have h1 := z1v_ z18_ hc
    have h2 : z18_ c = c.1.length + (c.2.length + sumL List.length c.2) := rfl
    exact ⟨by omega, fun x hx => by have := z1v_ List.length hx; omega⟩
  · have h1 := z1v_ z1j_ hs
    have h2 : z1j_ s = s.1.length + z1w_ s.2 := rfl
    omega
theorem zx4_ {k : Nat} (hk : KK ≤ k) {w : Wld} (h : z2w_ w ≤ 1048576) : ∃ y, zey_ k 1 w.1 w.2 = some y ∧ ¬ y.1.1 < 0 := by
  have e : z2w_ w = (w.1.length + sumL z18_ w.1) + (w.2.length + sumL z1j_ w.2) := rfl
  have hc : ∀ c ∈ w.1, c.2.length + sumL List.length c.2 ≤ 1048576 := fun c hc => by
    have h1 := z1v_ z18_ hc
    have h2 : z18_ c = c.1.length + (c.2.length + sumL List.length c.2) := rfl
    omega
  have hs : ∀ s ∈ w.2, s.2.1.length + sumL List.length s.2.1 + s.2.2.2.1.length + (s.2.2.2.2.length + sumL z1d_ s.2.2.2.2) ≤ 1048576 := fun s hs => by
    have h1 := z1v_ z1j_ hs
    have h2 : z1j_ s = s.1.length + (s.2.1.length + sumL List.length s.2.1 + s.2.2.2.1.length + (s.2.2.2.2.length + sumL z1d_ s.2.2.2.2)) := rfl
    omega
  have c1 : sumL ctNC w.1 ≤ sumL z18_ w.1 + 1 * w.1.length := zh1_ fun x _ => by
    have a : ctNC x = 1 + sumL List.length x.2 := rfl
    have b : z18_ x = x.1.length + (x.2.length + sumL List.length x.2) := rfl
    omega
  have c2 : sumL ctNS w.2 ≤ sumL (fun _ => 0) w.2 + 8388608 * w.2.length := zh1_ fun x hx => by
    have a : ctNS x = 2 + (sumL List.length x.2.1 + (x.2.2.2.1.length + sumL ctM x.2.2.2.2)) := rfl
    have b := hs x hx
    have c3 : sumL ctM x.2.2.2.2 ≤ sumL z1d_ x.2.2.2.2 + 3 * x.2.2.2.2.length := zh1_ fun x _ => by
      have a : ctM x = x.2.2.2.length + 3 := rfl
      have b : z1d_ x = x.2.2.2.length := rfl
      omega
    omega
  have c0 : ∀ l : List NSh, sumL (fun _ : NSh => 0) l = 0 := fun l => by
    induction l with
    | nil => rw [zan_]
    | cons x l ih => rw [z5f_, ih]
  rw [c0] at c2
  have s1 := zwd_ hk (L := w.1) (m := 1) (by omega) (by omega) (fun x hx => ⟨by have := hc x hx; omega, fun r hr => by have := hc x hx; have := z1v_ List.length hr; omega⟩) (by omega)
  have s2 := zwg_ hk (L := w.2) (m := 1 + (sumL ctNC w.1 : Int)) (by omega) (by omega) (fun x hx => ⟨by have := hs x hx; omega, fun r hr => by have := hs x hx; have := z1v_ List.length hr; omega⟩) (fun x hx => by have := hs x hx; omega) (fun x hx => ⟨by have := hs x hx; omega, fun r hr => by
    have := hs x hx
    have := z1v_ z1d_ hr
    have b : z1d_ r = r.2.2.2.length := rfl
    omega⟩) (by omega)
  unfold zey_
  rw [s1]
  simp only [Option.bind_some]
  rw [s2]
  simp only [Option.bind_some]
  exact ⟨_, rfl, by simp only; omega⟩
theorem zx5_ {e0 e1 e2 e3 e4 e5 e6 e7 e8 : TypeId} (a0 : Wld) (f0 : InR (.st (.pr (.sl e0 (.st (.pr .str (.st (.sl e1 (.sl e2 (.int .i64))))))) (.sl e3 (.st (.pr .str (.st (.pr (.st (.sl e4 (.sl e5 (.int .i64)))) (.pr (.int .i64) (.pr (.sl e6 (.int .i64)) (.sl e7 (.st (.pr (.int .i64) (.pr (.int .i64) (.pr (.int .i64) (.sl e8 (.int .i64)))))))))))))))) a0) : ∃ k : Nat, zf0_ k a0 = some true := by
  have hk := Nat.le_refl KK
  refine ⟨KK, ?_⟩
  have q0 := zwb_ hk (a := a0) (left := 1048576) (by omega) (by omega) f0
  unfold zf0_
  rw [q0]
  by_cases c0 : (z2w_ a0 : Int) ≤ 1048576
  case neg => rw [if_neg c0]; simp only [Option.bind_some]; rw [decide_eq_true (by omega), if_pos rfl]
  rw [if_pos c0]; simp only [Option.bind_some]
  rw [decide_eq_false (by omega), if_neg (by simp)]
  have b0 : z2w_ a0 ≤ 10000000000 := by omega
  have hs := zx3_ (w := a0) (by omega)
  obtain ⟨y, hy, hy0⟩ := zx4_ hk (w := a0) (by omega)
  have hl : (z4o_ KK a0).1.length ≤ 1048576 := by
    unfold z4o_
    split
    · exact Nat.le_trans (Nat.le_of_eq (zkm_ _)) hs.l1
    · simp
  have hn : ¬ (1 + ((3 * (z4o_ KK a0).1.length : Nat) : Int) < 0) := by omega
  simp only [zws_ hk b0, Option.bind_some, zx2_, zvv_ hk hs, zvw_ hk hs, zx1_ hk b0, zwh_ hk (show (z4o_ KK a0).1.length < 4611686018427387904 by omega), hy, hy0, zwi_ hk (show (0 : Int) ≤ 1 by omega) (show (1 : Int) ≤ 1000000000000 by omega) (show (z4o_ KK a0).1.length ≤ 1000000000000 by omega), zwj_ hk (show (0 : Int) ≤ 1 by omega) (show (1 : Int) ≤ 1000000000000 by omega) (show (z4o_ KK a0).1.length ≤ 1000000000000 by omega), hn, decide_true, Bool.not_true, Bool.false_eq_true, if_false, decide_false]
end Go.Proofs.YtibiofjkgdidmaaGreatDoor.Ev
