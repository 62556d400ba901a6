/- Plain laws of the printed functions. No conditions but those in each statement. -/
import Derived.Test.YtackggcodaolaaaDoorEv5
import Derived.Test.YtackggcodaolaaaDoorG5
set_option linter.unusedVariables false
set_option linter.unusedSimpArgs false
namespace Go.Proofs.YtackggcodaolaaaDoor.Ev
open Go.RowKit
theorem within_ok (n a b : Int) : impl_within n a b = some (decide (a ≤ n ∧ n ≤ b)) := by
  unfold impl_within
  by_cases h : a ≤ n <;> simp [h]
theorem l00In_ok (n a b : Int) : spec_l00In n a b = some (decide (a ≤ n ∧ n ≤ b)) := by
  unfold spec_l00In
  by_cases h : a ≤ n <;> simp [h]
theorem prime_loop {k : Nat} {p : Int} (hp : p ≤ 251) : ∀ (m d n : Nat), 17 - d ≤ m → 2 ≤ d → m < n → d ≤ 17 → ∃ b, spec_l02Prime_l0 k n p (d : Int) (some true) = some b ∧ impl_ValidPrime_l0 k n p (d : Int) (some true) = some b
  | m, d, 0, _, _, h, _ => by omega
  | 0, d, n + 1, h, h2, _, h4 => by
    have hd : d = 17 := by omega
    subst hd
    have w1 : w_i64 (((17 : Nat) : Int) * ((17 : Nat) : Int)) = 289 := by rw [w_id (by omega) (by omega)]; rfl
    have hc : ¬ ((289 : Int) ≤ p) := by omega
    refine ⟨true, ?_, ?_⟩
    · unfold spec_l02Prime_l0; rw [w1, decide_eq_false hc, if_neg (by simp)]
    · unfold impl_ValidPrime_l0; rw [w1, decide_eq_false hc, if_neg (by simp)]
  | m + 1, d, n + 1, h, h2, hn, h4 => by
    by_cases hc : w_i64 ((d : Int) * (d : Int)) ≤ p
    · have hd0 : ¬ ((d : Int) = 0) := by omega
      have hw := w_succ (i := d) (by omega)
      by_cases hm : Int.tmod p (d : Int) = 0
      · refine ⟨false, ?_, ?_⟩
        · unfold spec_l02Prime_l0; rw [decide_eq_true hc, if_pos rfl, if_neg hd0, decide_eq_true hm, if_pos rfl]
        · unfold impl_ValidPrime_l0; rw [decide_eq_true hc, if_pos rfl, if_neg hd0, decide_eq_true hm, if_pos rfl]
      · by_cases h17 : d = 17
        · subst h17
          have w1 : w_i64 (((17 : Nat) : Int) * ((17 : Nat) : Int)) = 289 := by rw [w_id (by omega) (by omega)]; rfl
          rw [w1] at hc; omega
        · obtain ⟨b, h5, h6⟩ := prime_loop (k := k) hp m (d + 1) n (by omega) (by omega) (by omega) (by omega)
          refine ⟨b, ?_, ?_⟩
          · rw [← h5]; conv => lhs; unfold spec_l02Prime_l0
            rw [decide_eq_true hc, if_pos rfl, if_neg hd0, decide_eq_false hm, if_neg (by simp), hw]
          · rw [← h6]; conv => lhs; unfold impl_ValidPrime_l0
            rw [decide_eq_true hc, if_pos rfl, if_neg hd0, decide_eq_false hm, if_neg (by simp), hw]
    · refine ⟨true, ?_, ?_⟩
      · unfold spec_l02Prime_l0; rw [decide_eq_false hc, if_neg (by simp)]
      · unfold impl_ValidPrime_l0; rw [decide_eq_false hc, if_neg (by simp)]
/-- Both answer the same. -/
theorem prime_ok {k : Nat} (hk : KK ≤ k) (p : Int) : ∃ b, spec_ValidPrime k p = some b ∧ impl_ValidPrime k p = some b ∧ (b = true → 2 ≤ p ∧ p ≤ 251) := by
  have hK := KK_def
  unfold spec_ValidPrime spec_l02Prime impl_ValidPrime
  rw [l00In_ok, within_ok]
  by_cases h : 2 ≤ p ∧ p ≤ 251
  · obtain ⟨b, h1, h2⟩ := prime_loop (k := k) (p := p) h.2 15 2 k (by omega) (by omega) (by omega) (by omega)
    have h1 : spec_l02Prime_l0 k k p 2 (some true) = some b := h1
    have h2 : impl_ValidPrime_l0 k k p 2 (some true) = some b := h2
    refine ⟨b, ?_, ?_, fun _ => h⟩
    · simp [h, h1]
    · simp [h, h2]
  · exact ⟨false, by simp [h], by simp [h], fun h => by cases h⟩
theorem idxP_nonneg {α : Type} (p : α → Bool) (xs : List α) : decide (0 ≤ idxP p xs) = xs.any p := by
  unfold idxP
  cases h : xs.findIdx? p with
  | some i =>
    obtain ⟨hlt, hp, _⟩ := List.findIdx?_eq_some_iff_getElem.1 h
    have : xs.any p = true := List.any_eq_true.2 ⟨_, List.getElem_mem hlt, hp⟩
    rw [this]; simp
  | none =>
    rw [List.findIdx?_eq_none_iff] at h
    have : xs.any p = false := List.any_eq_false.2 fun x hx => by rw [h x hx]; simp
    rw [this]; simp
abbrev Mat := Int × Int × Int × List Int
theorem column_ok {k : Nat} (hk : KK ≤ k) {v : List Int} (hv : v.length ≤ 1048576) (n : Int) {p : Int} (hp : 2 ≤ p ∧ p ≤ 251) : spec_l03Column k v n p = some (v.all (fun x => decide (0 ≤ x ∧ x ≤ p - 1)) && decide ((v.length : Int) = n)) := by
  have hK := KK_def
  have hw1 : w_i64 (p - 1) = p - 1 := w_id (by omega) (by omega)
  unfold spec_l03Column
  have := loop_all (L := fun m i => spec_l03Column_l0 k m v n p i (fun v_3 n_4 => some (decide ((List.length v_3 : Int) = n_4)))) (p := fun x => decide (0 ≤ x ∧ x ≤ p - 1)) (r := some false) (e := some (decide ((v.length : Int) = n))) v ?_ ?_ (n := k) (by omega)
  · refine this.trans ?_
    cases v.all (fun x => decide (0 ≤ x ∧ x ≤ p - 1)) <;> simp
  · intro m i x hx hlt
    have hw := w_succ (i := i) (by omega)
    simp only [spec_l03Column_l0, hlt, decide_true, if_true, Int.natCast_nonneg, Int.toNat_natCast, hx, Option.bind_some, l00In_ok, hw1, hw]
    by_cases c : 0 ≤ x ∧ x ≤ p - 1 <;> simp [c]
  · intro m
    simp only [spec_l03Column_l0, Int.lt_irrefl, decide_false, Bool.false_eq_true, if_false]
theorem elements_ok {k : Nat} (hk : KK ≤ k) {v : List Int} (hv : v.length ≤ 1048576) {p : Int} (hp : 2 ≤ p ∧ p ≤ 251) : impl_areElements k v p = some (v.all (fun x => decide (0 ≤ x ∧ x ≤ p - 1))) := by
  have hK := KK_def
  have hw1 : w_i64 (p - 1) = p - 1 := w_id (by omega) (by omega)
  unfold impl_areElements slices_ContainsFunc_int64__impl_areElements_1 slices_IndexFunc_int64__impl_areElements_1
  rw [loop_find (L := fun n i => slices_IndexFunc_int64__impl_areElements_1_l0 k n v p (v.length : Int) i (some (-1))) (p := fun x => !decide (0 ≤ x ∧ x ≤ p - 1)) v ?_ ?_ (n := k) (by omega)]
  · simp only [Option.bind_some, idxP_nonneg]
    congr 1
    rw [← List.not_all_eq_any_not, Bool.not_not]
  · intro n i x hi hlt
    have hw := w_succ (i := i) (by omega)
    simp only [slices_IndexFunc_int64__impl_areElements_1_l0, impl_areElements_1, impl_isElement, within_ok, hw1, hlt, decide_true, if_true, Int.natCast_nonneg, Int.toNat_natCast, hi, Option.bind_some, hw]
  · intro n
    simp [slices_IndexFunc_int64__impl_areElements_1_l0]
/-- A matrix as stated. -/
structure MatP (m : Mat) (R C : Nat) : Prop where
  rows : m.2.1 = (R : Int)
  cols : m.2.2.1 = (C : Int)
  r32 : R ≤ 32
  c32 : C ≤ 32
  len : m.2.2.2.length = R * C
  prime : 2 ≤ m.1 ∧ m.1 ≤ 251
  cells : ∀ x ∈ m.2.2.2, 0 ≤ x ∧ x ≤ 250
theorem matrix_ok {k : Nat} (hk : KK ≤ k) {m : Mat} (hv : m.2.2.2.length ≤ 1048576) : ∃ b, spec_l03Ok k m = some b ∧ impl_ValidMatrix k m = some b ∧ (b = true → ∃ R C, MatP m R C) := by
  obtain ⟨b, h1, h2, h3⟩ := prime_ok hk m.1
  unfold spec_l03Ok impl_ValidMatrix impl_isSide impl_size_int64
  rw [h1, h2]
  cases b
  · exact ⟨false, by simp, by simp, fun h => by cases h⟩
  · have hp := h3 rfl
    simp only [Option.bind_some, if_true, l00In_ok, within_ok, column_ok hk hv _ hp, elements_ok hk hv hp]
    by_cases c1 : 0 ≤ m.2.1 ∧ m.2.1 ≤ 32
    · by_cases c2 : 0 ≤ m.2.2.1 ∧ m.2.2.1 ≤ 32
      · rw [decide_eq_true c1, decide_eq_true c2, if_pos rfl, if_pos rfl, if_pos rfl, if_pos rfl]
        obtain ⟨R, hR⟩ := Int.eq_ofNat_of_zero_le c1.1
        obtain ⟨C, hC⟩ := Int.eq_ofNat_of_zero_le c2.1
        have hRC : R * C ≤ 32 * 32 := Nat.mul_le_mul (by omega) (by omega)
        have hw : w_i64 (m.2.1 * m.2.2.1) = ((R * C : Nat) : Int) := by
          rw [hR, hC, ← Int.natCast_mul]
          exact w_id (by omega) (by omega)
        rw [hw]
        refine ⟨m.2.2.2.all (fun x => decide (0 ≤ x ∧ x ≤ m.1 - 1)) && decide ((m.2.2.2.length : Int) = ((R * C : Nat) : Int)), rfl, ?_, fun h => ?_⟩
        · by_cases c3 : (m.2.2.2.length : Int) = ((R * C : Nat) : Int)
          · rw [decide_eq_true c3, if_pos rfl, Bool.and_true]
          · rw [decide_eq_false c3, if_neg (by simp), Bool.and_false]
        · simp only [Bool.and_eq_true, List.all_eq_true, decide_eq_true_eq] at h
          refine ⟨R, C, hR, hC, by omega, by omega, by omega, hp, fun x hx => ?_⟩
          have := h.1 x hx
          omega
      · exact ⟨false, by simp [c1, c2], by simp [c1, c2], fun h => by cases h⟩
    · exact ⟨false, by simp [c1], by simp [c1], fun h => by cases h⟩
theorem u8_dig {d : Nat} (h : d < 10) : z_u8 (UInt8.ofNat (48 + d)) = ((48 + d : Nat) : Int) := by
  have : (UInt8.ofNat (48 + d)).toNat = 48 + d := by simp [UInt8.toNat_ofNat']; omega
  show ((UInt8.ofNat (48 + d)).toNat : Int) = _
  rw [this]
theorem w_dig {d : Nat} (h : d < 10) : w_u8 (w_i64 (48 + (d : Int))) = ((48 + d : Nat) : Int) := by
  rw [w_id (by omega) (by omega)]
  unfold w_u8 IntKind.wrap
  simp [IntKind.bits, IntKind.signed]; omega
/-- The digits, the last one first. -/
def revD (u : Nat) : List Int := if u = 0 then [] else ((Lib.decDigits u).map z_u8).reverse
theorem revD_step {u : Nat} (h : u ≠ 0) : revD u = ((48 + u % 10 : Nat) : Int) :: revD (u / 10) := by
  unfold revD
  rw [if_neg h]
  by_cases h1 : u < 10
  · rw [Lib.decDigits, dif_pos h1, if_pos (by omega)]
    have := u8_dig h1
    rw [Nat.mod_eq_of_lt h1, List.map_cons, List.map_nil, this]
    rfl
  · rw [Lib.decDigits, dif_neg h1, if_neg (by omega)]
    have := u8_dig (d := u % 10) (by omega)
    rw [List.map_append, List.map_cons, List.map_nil, this, List.reverse_append]
    rfl
theorem revD_len : ∀ (j u : Nat), u < 10 ^ j → (revD u).length ≤ j
  | 0, u, h => by
    have : u = 0 := by simpa using h
    subst this; simp [revD]
  | j + 1, u, h => by
    by_cases h0 : u = 0
    · subst h0; simp [revD]
    · rw [revD_step h0, List.length_cons]
      have := revD_len j (u / 10) (by rw [Nat.pow_succ] at h; omega)
      omega
theorem dec_loop {k : Nat} {n0 : Int} {E : Int → List Int → Option (List UInt8)} : ∀ (j u n : Nat) (m : Int) (q : List Int), (m = (u : Int) ∨ m = -(u : Int)) → u < 10 ^ j → u ≤ 9223372036854775808 → -9223372036854775808 ≤ m → m ≤ 9223372036854775807 → q.length + j ≤ 100 → j < n → spec_l01Dec_l0 k n n0 m q E = E n0 (q ++ revD u)
  | j, u, 0, m, q, _, _, _, _, _, _, h => by omega
  | 0, u, n + 1, m, q, hm, hu, _, _, _, _, _ => by
    have h0 : u = 0 := by simpa using hu
    subst h0
    have hm0 : m = 0 := by omega
    subst hm0
    simp [spec_l01Dec_l0, revD]
  | j + 1, u, n + 1, m, q, hm, hu, hub, hm1, hm2, hq, hn => by
    have hL := LIM_def
    by_cases h0 : u = 0
    · subst h0
      have hm0 : m = 0 := by omega
      subst hm0
      simp [spec_l01Dec_l0, revD]
    · have hm0 : ¬ m = 0 := by omega
      have hlim : (q.length + 1) * 1 ≤ LIM := by omega
      have hd : u % 10 < 10 := by omega
      have hj : u / 10 < 10 ^ j := by rw [Nat.pow_succ] at hu; omega
      rcases hm with hm | hm
      · subst hm
        have t1 : Int.tmod (u : Int) 10 = ((u % 10 : Nat) : Int) := by rw [Int.tmod_eq_emod_of_nonneg (by omega)]; omega
        have t2 : Int.tdiv (u : Int) 10 = ((u / 10 : Nat) : Int) := by rw [Int.tdiv_eq_ediv_of_nonneg (by omega)]; omega
        have w2 : w_i64 ((u / 10 : Nat) : Int) = ((u / 10 : Nat) : Int) := w_id (by omega) (by omega)
        have hlt : ¬ (((u % 10 : Nat) : Int) < 0) := by omega
        have ih := dec_loop (k := k) (n0 := n0) (E := E) j (u / 10) n ((u / 10 : Nat) : Int) (q ++ [((48 + u % 10 : Nat) : Int)]) (.inl rfl) hj (by omega) (by omega) (by omega) (by simp; omega) (by omega)
        unfold spec_l01Dec_l0
        rw [decide_eq_false hm0, if_pos (by rfl), t1, t2, decide_eq_false hlt, if_neg (by simp), w_dig hd, w2, List.length_singleton, if_pos hlim, ih, List.append_assoc, revD_step h0]
        rfl
      · subst hm
        have t1 : Int.tmod (-(u : Int)) 10 = -((u % 10 : Nat) : Int) := by rw [Int.neg_tmod, Int.tmod_eq_emod_of_nonneg (by omega)]; omega
        have t2 : Int.tdiv (-(u : Int)) 10 = -((u / 10 : Nat) : Int) := by rw [Int.neg_tdiv, Int.tdiv_eq_ediv_of_nonneg (by omega)]; omega
        have w2 : w_i64 (-((u / 10 : Nat) : Int)) = -((u / 10 : Nat) : Int) := w_id (by omega) (by omega)
        have ih := dec_loop (k := k) (n0 := n0) (E := E) j (u / 10) n (-((u / 10 : Nat) : Int)) (q ++ [((48 + u % 10 : Nat) : Int)]) (.inr rfl) hj (by omega) (by omega) (by omega) (by simp; omega) (by omega)
        unfold spec_l01Dec_l0
        rw [decide_eq_false hm0, if_pos (by rfl), t1, t2, w2]
        by_cases hz : u % 10 = 0
        · have hlt : ¬ (-((u % 10 : Nat) : Int) < 0) := by omega
          have hw : w_u8 (w_i64 (48 + -((u % 10 : Nat) : Int))) = ((48 + u % 10 : Nat) : Int) := by
            rw [hz]
            exact w_dig (d := 0) (by omega)
          rw [decide_eq_false hlt, if_neg (by simp), hw, List.length_singleton, if_pos hlim, ih, List.append_assoc, revD_step h0]
          rfl
        · have hlt : -((u % 10 : Nat) : Int) < 0 := by omega
          have hw : w_u8 (w_i64 (48 + w_i64 (0 - -((u % 10 : Nat) : Int)))) = ((48 + u % 10 : Nat) : Int) := by
            rw [show (0 : Int) - -((u % 10 : Nat) : Int) = ((u % 10 : Nat) : Int) by omega, w_id (x := ((u % 10 : Nat) : Int)) (by omega) (by omega)]
            exact w_dig hd
          rw [decide_eq_true hlt, if_pos rfl, hw, List.length_singleton, if_pos hlim, ih, List.append_assoc, revD_step h0]
          rfl
theorem dec_back {k : Nat} {q : List Int} (hq : q.length ≤ 1000) {E : List Int → Option (List UInt8)} : ∀ (j n : Nat) (acc : List Int), j ≤ q.length → acc.length + j ≤ 1000 → j < n → spec_l01Dec_l1 k n ((j : Int) - 1) q acc E = E (acc ++ (q.take j).reverse)
  | j, 0, _, _, _, h => by omega
  | 0, n + 1, acc, _, _, _ => by
    have : ¬ (0 ≤ ((0 : Nat) : Int) - 1) := by omega
    simp only [spec_l01Dec_l1, this, decide_false, Bool.false_eq_true, if_false, List.take_zero, List.reverse_nil, List.append_nil]
  | j + 1, n + 1, acc, hj, ha, hn => by
    have hL := LIM_def
    have e0 : ((j + 1 : Nat) : Int) - 1 = (j : Int) := by omega
    have hjl : j < q.length := by omega
    have ew : w_i64 ((j : Int) - 1) = (j : Int) - 1 := w_id (by omega) (by omega)
    have hlim : (acc.length + 1) * 1 ≤ LIM := by omega
    have ih := dec_back (k := k) hq (E := E) j n (acc ++ [q[j]]) (by omega) (by simp; omega) (by omega)
    rw [e0]
    simp only [spec_l01Dec_l1, Int.natCast_nonneg, decide_true, if_true, Int.toNat_natCast, hjl, and_self, List.getElem?_eq_getElem hjl, Option.bind_some, List.length_singleton, hlim, ew, ih]
    rw [List.take_succ_eq_append_getElem hjl, List.reverse_append]
    simp
theorem toS_map (l : List UInt8) : to_S (l.map z_u8) = l := by
  unfold to_S
  rw [List.map_map]
  have : ((fun x : Int => x.toNat.toUInt8) ∘ z_u8) = id := by
    funext b
    simp [z_u8]
  simp [this]
theorem l01Dec_ok {k : Nat} (hk : KK ≤ k) {n : Int} (h1 : -9223372036854775808 ≤ n) (h2 : n ≤ 9223372036854775807) : spec_l01Dec k n = some (Lib.itoa n) := by
  have hK := KK_def
  have hL := LIM_def
  unfold spec_l01Dec Lib.itoa
  by_cases h0 : n = 0
  · subst h0
    rw [decide_eq_true rfl, if_pos rfl, if_neg (by omega)]
    rw [show (0 : Int).toNat = 0 from rfl, Lib.decDigits, dif_pos (by omega)]
    rfl
  · have hp : n.natAbs < 10 ^ 19 := by
      have : n.natAbs ≤ 9223372036854775808 := by omega
      exact Nat.lt_of_le_of_lt this (by decide)
    have hl := revD_len 19 n.natAbs hp
    have hu : n.natAbs ≠ 0 := by omega
    have hr : revD n.natAbs = ((Lib.decDigits n.natAbs).map z_u8).reverse := by unfold revD; rw [if_neg hu]
    rw [decide_eq_false h0, if_neg (by simp), dec_loop 19 n.natAbs k n [] (by omega) hp (by omega) h1 h2 (by simp) (by omega), List.nil_append]
    by_cases hn : n < 0
    · have hl1 : ((revD n.natAbs).length + 1) * 1 ≤ LIM := by omega
      have hb := dec_back (k := k) (q := revD n.natAbs ++ [45]) (by simp; omega) (E := fun q => some (to_S q)) (revD n.natAbs ++ [45]).length k [] (Nat.le_refl _) (by simp; omega) (by simp; omega)
      have hw : w_i64 (((revD n.natAbs ++ [45]).length : Int) - 1) = ((revD n.natAbs ++ [45]).length : Int) - 1 := w_id (by omega) (by simp; omega)
      rw [decide_eq_true hn, if_pos rfl, if_pos hn, List.length_singleton, if_pos hl1, hw, hb, List.take_length, List.nil_append, hr]
      congr 1
      have e : (((Lib.decDigits n.natAbs).map z_u8).reverse ++ [(45 : Int)]).reverse = ((45 : UInt8) :: Lib.decDigits n.natAbs).map z_u8 := by
        rw [List.reverse_append, List.reverse_reverse]; rfl
      rw [e, toS_map]
    · have hb := dec_back (k := k) (q := revD n.natAbs) (by omega) (E := fun q => some (to_S q)) (revD n.natAbs).length k [] (Nat.le_refl _) (by simp; omega) (by omega)
      have hw : w_i64 (((revD n.natAbs).length : Int) - 1) = ((revD n.natAbs).length : Int) - 1 := w_id (by omega) (by omega)
      have hna : n.natAbs = n.toNat := by omega
      rw [decide_eq_false hn, if_neg (by simp), if_neg hn, hw, hb, List.take_length, List.nil_append, hr, List.reverse_reverse, toS_map, hna]
/-- A picture. -/
def wid (lines : List (List UInt8)) : Nat := (lines.headD []).length
def okC (c : UInt8) : Bool := decide (32 ≤ c.toNat ∧ c.toNat ≤ 126)
def okLine (w : Nat) (l : List UInt8) : Bool := decide (l.length = w) && (decide (l.length ≤ 80) && l.all okC)
def okPic (lines : List (List UInt8)) : Bool := lines.all (okLine (wid lines)) && decide (lines.length ≤ 60)
theorem wid_get {lines : List (List UInt8)} {i : Nat} {x : List UInt8} (h : lines[i]? = some x) : ∃ y, lines[0]? = some y ∧ y.length = wid lines := by
  cases lines with
  | nil => simp at h
  | cons y l => exact ⟨y, rfl, rfl⟩
theorem l30Ok_ok {k : Nat} (hk : KK ≤ k) {a : List (List UInt8)} (ha : a.length ≤ 1000000000000) (hx : ∀ x ∈ a, x.length ≤ 1000000000000) : spec_l30Ok k a = some (okPic a) := by
  unfold spec_l30Ok
  have hK := KK_def
  have := loop_all (L := fun n i => spec_l30Ok_l0 k n a i fun lines_6 => some (decide ((List.length lines_6 : Int) ≤ 60))) (p := okLine (wid a)) (r := some false) (e := some (decide (a.length ≤ 60))) a ?_ ?_ (n := k) (by omega)
  · refine Eq.trans this ?_
    unfold okPic
    cases a.all (okLine (wid a)) <;> rfl
  · intro n i x hi hlt
    have hxl := hx x (List.mem_of_getElem? hi)
    have hw := w_succ (i := i) (by omega)
    obtain ⟨y, h0, hy⟩ := wid_get hi
    have inner := loop_all (L := fun m j => spec_l30Ok_l1 k m a (i : Int) j fun lines_4 i_5 => spec_l30Ok_l0 k n lines_4 (w_i64 (i_5 + 1)) fun lines_6 => some (decide ((List.length lines_6 : Int) ≤ 60)))
      (p := okC) (r := some false) (e := spec_l30Ok_l0 k n a ((i + 1 : Nat) : Int) fun lines_6 => some (decide ((List.length lines_6 : Int) ≤ 60))) x ?_ ?_ (n := k) (by omega)
    · simp only [spec_l30Ok_l0, hlt, decide_true, if_true, Int.natCast_nonneg, Int.toNat_natCast, hi, h0, Option.bind_some]
      unfold okLine
      by_cases h1 : x.length = wid a
      · have h1' : (x.length : Int) = (y.length : Int) := by omega
        by_cases h2 : x.length ≤ 80
        · have h2' : ¬ (80 < (x.length : Int)) := by omega
          have e1 : (decide (x.length = wid a) && (decide (x.length ≤ 80) && x.all okC)) = x.all okC := by simp [h1, h2]; omega
          rw [decide_eq_true h1', if_neg (by simp), decide_eq_false h2', if_neg (by simp), e1]
          exact inner
        · have h2' : (80 < (x.length : Int)) := by omega
          rw [decide_eq_true h1', if_neg (by simp), decide_eq_true h2', if_pos rfl, decide_eq_false h2, if_neg (by simp)]
      · have h1' : ¬ (x.length : Int) = (y.length : Int) := by omega
        rw [decide_eq_false h1', if_pos (by simp), decide_eq_false h1, if_neg (by simp)]
    · intro m j c hj hjlt
      have hw2 := w_succ (i := j) (by omega)
      simp only [spec_l30Ok_l1, hjlt, decide_true, if_true, Int.natCast_nonneg, Int.toNat_natCast, hi, hj, Option.bind_some, hw2]
      unfold okC z_u8
      by_cases h3 : c.toNat < 32
      · rw [decide_eq_true (by omega), if_pos rfl, if_neg (by simp; omega)]
      · rw [decide_eq_false (by omega), if_neg (by simp)]
        by_cases h4 : 126 < c.toNat
        · rw [decide_eq_true (by omega), if_pos rfl, if_neg (by simp; omega)]
        · rw [decide_eq_false (by omega), if_neg (by simp), if_pos (by simp; omega)]
    · intro m
      simp [spec_l30Ok_l1, hi, hw]
  · intro n
    simp only [spec_l30Ok_l0, Int.lt_irrefl, decide_false, Bool.false_eq_true, if_false]
    exact congrArg some (decide_eq_decide.2 (by omega))
theorem repeatL_one' (b : UInt8) : ∀ n, Lib.repeatL [b] n = List.replicate n b
  | 0 => rfl
  | n + 1 => by simp [Lib.repeatL, repeatL_one' b n, List.replicate_succ]
theorem repeat_ok (b : UInt8) {n : Nat} (hn : n ≤ 1000000) : strings_Repeat [b] (n : Int) = some (List.replicate n b) := by
  unfold strings_Repeat
  rw [if_pos ⟨by omega, by omega, by simp; omega⟩, Int.toNat_natCast, repeatL_one']
abbrev Pic := List (List UInt8)
def doneP (q : Pic) : Pic × Int := if okPic q = true then (q, 0) else ([], 5)
theorem l30Times_ok {k : Nat} (hk : KK ≤ k) (b : UInt8) {n : Nat} (hn : n ≤ 1000000) : spec_l30Times k [b] (n : Int) = some (List.replicate n b) := by
  have hK := KK_def
  unfold spec_l30Times
  have := loop_list (L := fun m i q => spec_l30Times_l0 k m [b] (n : Int) q i (fun out_1 => some out_1)) (I := fun pre q => q = pre) (G := fun post q => some (q ++ post)) (List.replicate n b) ?_ ?_ k (by simp; omega) [] rfl
  · simpa using this
  · intro m pre x post q hx hq ih hg hlt
    subst hq
    rw [List.length_replicate] at hlt
    have hw := w_succ (i := q.length) (by omega)
    have hb : x = b := List.eq_of_mem_replicate (List.mem_of_getElem? hg)
    subst hb
    have ih := ih _ rfl
    simp only [spec_l30Times_l0, hlt, decide_true, if_true, hw]
    rw [if_pos (by simp only [List.length_singleton]; omega), ih]
    simp
  · intro m q hq
    simp [spec_l30Times_l0]
theorem l30Done_ok {k : Nat} (hk : KK ≤ k) {q : Pic} (ha : q.length ≤ 1000000000000) (hx : ∀ x ∈ q, x.length ≤ 1000000000000) : (spec_l30Done_g k q).bind (fun y => some (y.2.1.1, y.1.1.2.1)) = some (doneP q) := by
  unfold spec_l30Done_g doneP
  rw [l30Ok_ok hk ha hx]
  cases okPic q <;> simp
theorem okPic_same {q : Pic} {W : Nat} (h : ∀ l ∈ q, l.length = W ∧ l.all okC = true) : okPic q = (decide (q.length ≤ 60) && (q.isEmpty || decide (W ≤ 80))) := by
  unfold okPic
  cases q with
  | nil => simp
  | cons z zs =>
    have hw : wid (z :: zs) = W := (h z (by simp)).1
    rw [hw, List.isEmpty_cons, Bool.false_or, Bool.and_comm]
    congr 1
    by_cases h80 : W ≤ 80
    · rw [decide_eq_true h80, List.all_eq_true]
      intro l hl
      obtain ⟨h1, h2⟩ := h l hl
      unfold okLine
      simp [h1, h2, h80]
    · rw [decide_eq_false h80, List.all_eq_false]
      refine ⟨z, by simp, ?_⟩
      unfold okLine
      simp [(h z (by simp)).1, h80]
theorem pictured_done {k : Nat} (hk : KK ≤ k) {q : Pic} {W : Nat} (hq : q.length ≤ 1000000) (hW : W ≤ 1000000) (h : ∀ l ∈ q, l.length = W ∧ l.all okC = true) : impl_pictured k q = some (doneP q) := by
  have hK := KK_def
  have hL := LIM_def
  unfold impl_pictured
  let W' : Int := if q = [] then 0 else (W : Int)
  have h0 := loop_list (L := fun n i a => impl_pictured_l0 k n q a q (q.length : Int) i (fun lines_2 width_3 => impl_pictured_l1 k k width_3 lines_2 (List.length lines_2 : Int) 0 [] (fun width_7 q_8 => (if (decide (60 < (List.length q_8 : Int))) = true then some ([], 5) else (if (decide (80 < width_7)) = true then some ([], 5) else some (q_8, 0))))))
    (I := fun pre a => a = if pre = [] then 0 else (W : Int)) (G := fun _ _ => impl_pictured_l1 k k W' q (q.length : Int) 0 [] (fun width_7 q_8 => (if (decide (60 < (List.length q_8 : Int))) = true then some ([], 5) else (if (decide (80 < width_7)) = true then some ([], 5) else some (q_8, 0))))) q ?_ ?_ k (by omega) 0 (by simp)
  · refine Eq.trans h0 ?_
    have h1 := loop_list (L := fun n i r => impl_pictured_l1 k n W' q (q.length : Int) i r (fun width_7 q_8 => (if (decide (60 < (List.length q_8 : Int))) = true then some ([], 5) else (if (decide (80 < width_7)) = true then some ([], 5) else some (q_8, (0 : Int))))))
      (I := fun pre r => r = pre) (G := fun _ _ => some (doneP q)) q ?_ ?_ k (by omega) [] rfl
    · exact h1
    · intro n pre x post r hx hr ih hg hlt
      subst hr
      have hw := w_succ (i := r.length) (by omega)
      have hxl := (h x (List.mem_of_getElem? hg)).1
      have hne : q ≠ [] := by intro e; rw [e] at hg; simp at hg
      have hW' : W' = (W : Int) := by show (if q = [] then (0 : Int) else (W : Int)) = _; rw [if_neg hne]
      have hz : w_i64 (W' - (x.length : Int)) = ((0 : Nat) : Int) := by rw [hW', w_id (by omega) (by omega)]; omega
      have ih := ih _ rfl
      simp only [impl_pictured_l1, hlt, decide_true, if_true, Int.natCast_nonneg, Int.toNat_natCast, hg, Option.bind_some, hz, repeat_ok 32 (show 0 ≤ 1000000 by omega), hw, List.replicate_zero, List.append_nil]
      rw [if_pos (by simp only [List.length_nil]; omega), if_pos (by simp only [List.length_singleton]; omega), ih]
    · intro n r hr
      subst hr
      simp only [impl_pictured_l1, Int.lt_irrefl, decide_false, Bool.false_eq_true, if_false]
      unfold doneP
      rw [okPic_same h]
      by_cases h60 : r.length ≤ 60
      · rw [decide_eq_false (show ¬ (60 < (r.length : Int)) by omega), if_neg (by simp), decide_eq_true h60, Bool.true_and]
        cases r with
        | nil => simp [W']
        | cons z zs =>
          have hW' : W' = (W : Int) := rfl
          rw [hW', List.isEmpty_cons, Bool.false_or]
          by_cases h80 : W ≤ 80
          · rw [decide_eq_false (show ¬ (80 < (W : Int)) by omega), decide_eq_true h80]; rfl
          · rw [decide_eq_true (show (80 < (W : Int)) by omega), decide_eq_false h80]; rfl
      · rw [decide_eq_true (show (60 < (r.length : Int)) by omega), if_pos rfl, decide_eq_false h60]; rfl
  · intro n pre x post a hx ha ih hg hlt
    subst ha
    have hw := w_succ (i := pre.length) (by omega)
    have hxl := (h x (List.mem_of_getElem? hg)).1
    simp only [impl_pictured_l0, hlt, decide_true, if_true, Int.natCast_nonneg, Int.toNat_natCast, hg, Option.bind_some, hw]
    refine ih _ ?_
    rw [hxl, if_neg (show pre ++ [x] ≠ [] by simp)]
    by_cases hp : pre = []
    · rw [if_pos hp]; split <;> omega
    · rw [if_neg hp]; split <;> rfl
  · intro n a ha
    subst ha
    simp only [impl_pictured_l0, Int.lt_irrefl, decide_false, Bool.false_eq_true, if_false]
    rfl
theorem okC_dig {d : Nat} (h : d < 10) : okC (UInt8.ofNat (48 + d)) = true := by
  have : (UInt8.ofNat (48 + d)).toNat = 48 + d := by simp [UInt8.toNat_ofNat']; omega
  unfold okC
  rw [this]
  exact decide_eq_true (by omega)
theorem decDigits_okC (u : Nat) : (Lib.decDigits u).all okC = true := by
  induction u using Nat.strongRecOn with
  | _ u ih =>
    rw [Lib.decDigits]
    by_cases h : u < 10
    · rw [dif_pos h]
      simp only [List.all_cons, List.all_nil, Bool.and_true]
      exact okC_dig h
    · rw [dif_neg h, List.all_append, ih (u / 10) (by omega)]
      simp only [List.all_cons, List.all_nil, Bool.and_true, Bool.true_and]
      exact okC_dig (by omega)
theorem itoa_cell {x : Int} (h : 0 ≤ x ∧ x ≤ 250) : (Lib.itoa x).length ≤ 3 ∧ (Lib.itoa x).all okC = true := by
  have e : Lib.itoa x = Lib.decDigits x.toNat := by unfold Lib.itoa; rw [if_neg (by omega)]
  rw [e]
  refine ⟨?_, decDigits_okC _⟩
  by_cases h0 : x.toNat = 0
  · rw [h0, Lib.decDigits, dif_pos (by omega)]; simp
  · have := revD_len 3 x.toNat (by omega)
    unfold revD at this
    rw [if_neg h0] at this
    simpa using this
def maxW (l : List Int) (w : Nat) : Nat := l.foldl (fun w x => if w < (Lib.itoa x).length then (Lib.itoa x).length else w) w
theorem maxW_cons (x : Int) (l : List Int) (w : Nat) : maxW (x :: l) w = maxW l (if w < (Lib.itoa x).length then (Lib.itoa x).length else w) := rfl
theorem maxW_ok : ∀ (l : List Int) (w : Nat), w ≤ maxW l w ∧ (∀ x ∈ l, (Lib.itoa x).length ≤ maxW l w) ∧ (w ≤ 3 → (∀ x ∈ l, (Lib.itoa x).length ≤ 3) → maxW l w ≤ 3)
  | [], w => ⟨Nat.le_refl _, by simp, fun h _ => h⟩
  | x :: l, w => by
    obtain ⟨h1, h2, h3⟩ := maxW_ok l (if w < (Lib.itoa x).length then (Lib.itoa x).length else w)
    rw [maxW_cons]
    have hw : w ≤ (if w < (Lib.itoa x).length then (Lib.itoa x).length else w) ∧ (Lib.itoa x).length ≤ (if w < (Lib.itoa x).length then (Lib.itoa x).length else w) := by split <;> omega
    refine ⟨by omega, fun y hy => ?_, fun h4 h5 => h3 ?_ fun y hy => h5 y (by simp [hy])⟩
    · rcases List.mem_cons.1 hy with rfl | hy
      · omega
      · exact h2 y hy
    · have := h5 x (by simp)
      split <;> omega
def cellW (W : Nat) (x : Int) : List UInt8 := List.replicate (W - (Lib.itoa x).length) 32 ++ Lib.itoa x
theorem cellW_ok {W : Nat} {x : Int} (h : 0 ≤ x ∧ x ≤ 250) (hw : (Lib.itoa x).length ≤ W) : (cellW W x).length = W ∧ (cellW W x).all okC = true := by
  unfold cellW
  refine ⟨by rw [List.length_append, List.length_replicate]; omega, ?_⟩
  rw [List.all_append, (itoa_cell h).2, Bool.and_true, List.all_eq_true]
  intro y hy
  rw [List.eq_of_mem_replicate hy]
  decide
theorem join_snoc {pre : List (List UInt8)} (h : pre ≠ []) (x sep : List UInt8) : Lib.join (pre ++ [x]) sep = Lib.join pre sep ++ sep ++ x := by
  cases pre with
  | nil => exact absurd rfl h
  | cons y r =>
    rw [List.cons_append, Lib.join_cons, Lib.join_cons]
    unfold Lib.joinTail
    simp
/-- Words of one length, joined: their length, and that all are to be seen. -/
theorem join_same {W : Nat} : ∀ (xs : List (List UInt8)), (∀ x ∈ xs, x.length = W ∧ x.all okC = true) → (Lib.join xs [32]).length = xs.length * (W + 1) - 1 ∧ (Lib.join xs [32]).all okC = true := by
  have tail : ∀ (r : List (List UInt8)), (∀ x ∈ r, x.length = W ∧ x.all okC = true) → (Lib.joinTail [32] r).length = r.length * (W + 1) ∧ (Lib.joinTail [32] r).all okC = true := by
    intro r
    induction r with
    | nil => intro _; simp [Lib.joinTail]
    | cons y r ih =>
      intro h
      obtain ⟨i1, i2⟩ := ih (fun x hx => h x (by simp [hx]))
      obtain ⟨j1, j2⟩ := h y (by simp)
      have e : Lib.joinTail [32] (y :: r) = [32] ++ y ++ Lib.joinTail [32] r := by simp [Lib.joinTail]
      have e2 : (y :: r).length * (W + 1) = r.length * (W + 1) + (W + 1) := by rw [List.length_cons, Nat.succ_mul]
      rw [e, List.length_append, List.length_append, i1, j1, List.all_append, List.all_append, i2, j2, e2]
      refine ⟨?_, by decide⟩
      simp only [List.length_singleton]
      omega
  intro xs h
  cases xs with
  | nil => rw [Lib.join_nil]; simp
  | cons y r =>
    obtain ⟨i1, i2⟩ := tail r (fun x hx => h x (by simp [hx]))
    obtain ⟨j1, j2⟩ := h y (by simp)
    have e2 : (y :: r).length * (W + 1) = r.length * (W + 1) + (W + 1) := by rw [List.length_cons, Nat.succ_mul]
    rw [Lib.join_cons, List.length_append, List.all_append, i1, i2, j1, j2, e2]
    exact ⟨by omega, rfl⟩
def rowM (cells : List Int) (C r : Nat) : List Int := (cells.drop (r * C)).take C
theorem rowM_len {cells : List Int} {R C r : Nat} (hl : cells.length = R * C) (hr : r < R) : (rowM cells C r).length = C := by
  unfold rowM
  rw [List.length_take, List.length_drop, hl]
  have : (r + 1) * C ≤ R * C := Nat.mul_le_mul_right _ hr
  rw [Nat.succ_mul] at this
  omega
theorem rowM_get {cells : List Int} {C r c : Nat} (hc : c < C) : (rowM cells C r)[c]? = cells[r * C + c]? := by
  unfold rowM
  rw [List.getElem?_take_of_lt hc, List.getElem?_drop]
theorem rowM_mem {cells : List Int} {C r : Nat} {x : Int} (h : x ∈ rowM cells C r) : x ∈ cells := List.mem_of_mem_drop (List.mem_of_mem_take h)
def lineM (W : Nat) (cells : List Int) (C r : Nat) : List UInt8 := Lib.join ((rowM cells C r).map (cellW W)) [32]
def linesM (W : Nat) (cells : List Int) (C R : Nat) : List (List UInt8) := (List.range R).map (lineM W cells C)
def matP (m : Mat) (R C : Nat) : List (List UInt8) × Int := doneP (linesM (maxW m.2.2.2 0) m.2.2.2 C R)
theorem matW {m : Mat} {R C : Nat} (h : MatP m R C) : maxW m.2.2.2 0 ≤ 3 ∧ ∀ x ∈ m.2.2.2, (Lib.itoa x).length ≤ maxW m.2.2.2 0 := by
  obtain ⟨_, h2, h3⟩ := maxW_ok m.2.2.2 0
  exact ⟨h3 (by omega) fun x hx => (itoa_cell (h.cells x hx)).1, h2⟩
theorem linesM_ok {m : Mat} {R C : Nat} (h : MatP m R C) : (linesM (maxW m.2.2.2 0) m.2.2.2 C R).length = R ∧ ∀ l ∈ linesM (maxW m.2.2.2 0) m.2.2.2 C R, l.length = C * (maxW m.2.2.2 0 + 1) - 1 ∧ l.all okC = true := by
  obtain ⟨_, hw⟩ := matW h
  unfold linesM
  refine ⟨by simp, fun l hl => ?_⟩
  obtain ⟨r, hr, rfl⟩ := List.mem_map.1 hl
  rw [List.mem_range] at hr
  have := join_same (W := maxW m.2.2.2 0) ((rowM m.2.2.2 C r).map (cellW (maxW m.2.2.2 0))) (fun x hx => by
    obtain ⟨y, hy, rfl⟩ := List.mem_map.1 hx
    have hy' := rowM_mem hy
    exact cellW_ok (h.cells y hy') (hw y hy'))
  rw [List.length_map, rowM_len h.len hr] at this
  exact this
theorem decimal_ok {n : Int} (h1 : -9223372036854775808 ≤ n) (h2 : n ≤ 9223372036854775807) : impl_Decimal n = some (Lib.itoa n) := by
  unfold impl_Decimal strconv_FormatInt
  rw [if_pos ⟨rfl, h1, h2⟩]; rfl
theorem specWide_ok {k : Nat} (hk : KK ≤ k) {m : Mat} {R C : Nat} (h : MatP m R C) {E : Int → Mat → Option (List (List UInt8) × Int)} : spec_MatrixPicture_l0 k k 0 0 m E = E ((maxW m.2.2.2 0 : Nat) : Int) m := by
  have hK := KK_def
  have hRC : R * C ≤ 32 * 32 := Nat.mul_le_mul h.r32 h.c32
  have hlen := h.len
  have := loop_list (α := Int) (A := Nat) (L := fun n i w => spec_MatrixPicture_l0 k n (w : Int) i m E) (I := fun _ _ => True) (G := fun post w => E ((maxW post w : Nat) : Int) m) m.2.2.2 ?_ ?_ k (by omega) 0 trivial
  · exact this
  · intro n pre x post w hx _ ih hg hlt
    have hw := w_succ (i := pre.length) (by omega)
    have hxc := h.cells x (List.mem_of_getElem? hg)
    have ih' := ih (if w < (Lib.itoa x).length then (Lib.itoa x).length else w) trivial
    simp only [spec_MatrixPicture_l0, hlt, decide_true, if_true, Int.natCast_nonneg, Int.toNat_natCast, hg, Option.bind_some, l01Dec_ok hk (show -9223372036854775808 ≤ x by omega) (show x ≤ 9223372036854775807 by omega), hw]
    rw [maxW_cons, ← ih']
    by_cases c : w < (Lib.itoa x).length
    · rw [decide_eq_true (by omega), if_pos rfl, if_pos c]
    · rw [decide_eq_false (by omega), if_neg (by simp), if_neg c]
  · intro n w _
    simp only [spec_MatrixPicture_l0, Int.lt_irrefl, decide_false, Bool.false_eq_true, if_false]
    rfl
theorem implWide_ok {k : Nat} (hk : KK ≤ k) {m : Mat} {R C : Nat} (h : MatP m R C) {E : Int → Mat → Option (List (List UInt8) × Int)} : impl_MatrixPicture_l0 k k 0 m.2.2.2 (m.2.2.2.length : Int) 0 m E = E ((maxW m.2.2.2 0 : Nat) : Int) m := by
  have hK := KK_def
  have hRC : R * C ≤ 32 * 32 := Nat.mul_le_mul h.r32 h.c32
  have hlen := h.len
  have := loop_list (α := Int) (A := Nat) (L := fun n i w => impl_MatrixPicture_l0 k n (w : Int) m.2.2.2 (m.2.2.2.length : Int) i m E) (I := fun _ _ => True) (G := fun post w => E ((maxW post w : Nat) : Int) m) m.2.2.2 ?_ ?_ k (by omega) 0 trivial
  · exact this
  · intro n pre x post w hx _ ih hg hlt
    have hw := w_succ (i := pre.length) (by omega)
    have hxc := h.cells x (List.mem_of_getElem? hg)
    have ih' := ih (if w < (Lib.itoa x).length then (Lib.itoa x).length else w) trivial
    simp only [impl_MatrixPicture_l0, hlt, decide_true, if_true, Int.natCast_nonneg, Int.toNat_natCast, hg, Option.bind_some, decimal_ok (show -9223372036854775808 ≤ x by omega) (show x ≤ 9223372036854775807 by omega), hw]
    rw [maxW_cons, ← ih']
    congr 1
    by_cases c : w < (Lib.itoa x).length
    · rw [if_pos (by omega), if_pos c]
    · rw [if_neg (by omega), if_neg c]
  · intro n w _
    simp only [impl_MatrixPicture_l0, Int.lt_irrefl, decide_false, Bool.false_eq_true, if_false]
    rfl
theorem joinW_le {W : Nat} {xs : List (List UInt8)} (h : ∀ x ∈ xs, x.length = W ∧ x.all okC = true) (hl : xs.length ≤ 32) (hW : W ≤ 3) : (Lib.join xs [32]).length ≤ 128 := by
  have h1 := (join_same xs h).1
  have h2 : xs.length * (W + 1) ≤ 32 * 4 := Nat.mul_le_mul hl (by omega)
  omega
theorem cell_words {m : Mat} {R C : Nat} (h : MatP m R C) {r : Nat} {l : List Int} (hl : ∀ x ∈ l, x ∈ rowM m.2.2.2 C r) : ∀ y ∈ l.map (cellW (maxW m.2.2.2 0)), y.length = maxW m.2.2.2 0 ∧ y.all okC = true := by
  intro y hy
  obtain ⟨x, hx, rfl⟩ := List.mem_map.1 hy
  have hx' := rowM_mem (hl x hx)
  exact cellW_ok (h.cells x hx') ((matW h).2 x hx')
theorem idx_ok {r c R C : Nat} (hr : r < R) (hc : c < C) (hR : R ≤ 32) (hC : C ≤ 32) : r * C + c < R * C ∧ R * C ≤ 1024 ∧ w_i64 (w_i64 ((r : Int) * (C : Int)) + (c : Int)) = ((r * C + c : Nat) : Int) := by
  have h1 : (r + 1) * C ≤ R * C := Nat.mul_le_mul_right _ hr
  have h2 : R * C ≤ 32 * 32 := Nat.mul_le_mul hR hC
  rw [Nat.succ_mul] at h1
  refine ⟨by omega, by omega, ?_⟩
  rw [← Int.natCast_mul, w_id (x := ((r * C : Nat) : Int)) (by omega) (by omega), ← Int.natCast_add]
  exact w_id (by omega) (by omega)
theorem specLineM {k : Nat} (hk : KK ≤ k) {m : Mat} {R C : Nat} (h : MatP m R C) {r : Nat} (hr : r < R) {q9 : List (List UInt8)} {E : Int → Int → List UInt8 → List (List UInt8) → Mat → Option (List (List UInt8) × Int)} :
    spec_MatrixPicture_l2 k k ((maxW m.2.2.2 0 : Nat) : Int) (r : Int) [] 0 q9 m E = E ((maxW m.2.2.2 0 : Nat) : Int) (r : Int) (lineM (maxW m.2.2.2 0) m.2.2.2 C r) q9 m := by
  have hK := KK_def
  have hrl := rowM_len h.len hr
  have h32 := h.c32
  have hcells := h.cells
  have hcw : ∀ l : List Int, (∀ x ∈ l, x ∈ rowM m.2.2.2 C r) → _ := fun l hl => cell_words h hl
  obtain ⟨hW3, hWx⟩ := matW h
  generalize hWe : maxW m.2.2.2 0 = W at hW3 hWx hcw ⊢
  refine loop_list (α := Int) (A := List UInt8) (L := fun n j line => spec_MatrixPicture_l2 k n (W : Int) (r : Int) line j q9 m E) (I := fun pre line => line = Lib.join (pre.map (cellW W)) [32]) (G := fun _ _ => E (W : Int) (r : Int) (lineM W m.2.2.2 C r) q9 m) (rowM m.2.2.2 C r) ?_ ?_ k (by omega) [] rfl
  · intro n pre x post line hx hl ih hg hlt
    have hc : pre.length < C := by omega
    obtain ⟨i1, i2, i3⟩ := idx_ok hr hc h.r32 h.c32
    have hw := w_succ (i := pre.length) (by omega)
    have hlt' : (pre.length : Int) < m.2.2.1 := by rw [h.cols]; omega
    have hgx : m.2.2.2[r * C + pre.length]? = some x := by rw [← rowM_get hc]; exact hg
    have hxm := List.mem_of_getElem? hgx
    have hxc := hcells x hxm
    have hxw := hWx x hxm
    have hsub : w_i64 ((W : Int) - ((Lib.itoa x).length : Int)) = ((W - (Lib.itoa x).length : Nat) : Int) := by rw [w_id (by omega) (by omega)]; omega
    have hidx : w_i64 (w_i64 ((r : Int) * m.2.2.1) + (pre.length : Int)) = ((r * C + pre.length : Nat) : Int) := by rw [h.cols]; exact i3
    have hpre : ∀ y ∈ pre, y ∈ rowM m.2.2.2 C r := fun y hy => by rw [hx]; simp [hy]
    have hll : line.length ≤ 128 := by
      rw [hl]
      exact joinW_le (hcw pre hpre) (by rw [List.length_map]; omega) hW3
    have hcl : (cellW W x).length = W := (cellW_ok hxc hxw).1
    have hcl' : (List.replicate (W - (Lib.itoa x).length) (32 : UInt8)).length + (Lib.itoa x).length ≤ 9223372036854775807 := by rw [List.length_replicate]; omega
    have hce : List.replicate (W - (Lib.itoa x).length) (32 : UInt8) ++ Lib.itoa x = cellW W x := rfl
    have b1 : line.length + 1 ≤ 9223372036854775807 := by omega
    have b2 : (line ++ [32]).length + (cellW W x).length ≤ 9223372036854775807 := by rw [hcl, List.length_append, List.length_singleton]; omega
    have b3 : line.length + (cellW W x).length ≤ 9223372036854775807 := by rw [hcl]; omega
    simp only [spec_MatrixPicture_l2, hlt', decide_true, if_true, List.length_singleton, b1, hidx, Int.natCast_nonneg, Int.toNat_natCast, hgx, Option.bind_some, l01Dec_ok hk (show -9223372036854775808 ≤ x by omega) (show x ≤ 9223372036854775807 by omega), hsub, l30Times_ok hk 32 (show W - (Lib.itoa x).length ≤ 1000000 by omega), hcl', hce, b2, b3, hw]
    by_cases h0 : 0 < pre.length
    · rw [decide_eq_true (show (0 : Int) < (pre.length : Int) by omega), if_pos rfl]
      refine ih _ ?_
      have hne : pre.map (cellW W) ≠ [] := by intro e; rw [List.map_eq_nil_iff] at e; rw [e] at h0; simp at h0
      rw [List.map_append, List.map_cons, List.map_nil, join_snoc hne, hl]
    · rw [decide_eq_false (show ¬ (0 : Int) < (pre.length : Int) by omega), if_neg (by simp)]
      refine ih _ ?_
      have hp : pre = [] := List.length_eq_zero_iff.1 (by omega)
      subst hp
      rw [hl]
      simp [Lib.join_nil, Lib.join_one]
  · intro n line hl
    have : ¬ ((rowM m.2.2.2 C r).length : Int) < m.2.2.1 := by rw [h.cols]; omega
    subst hl
    simp only [spec_MatrixPicture_l2, this, decide_false, Bool.false_eq_true, if_false]
    rfl
theorem implLineM {k : Nat} (hk : KK ≤ k) {m : Mat} {R C : Nat} (h : MatP m R C) {r : Nat} (hr : r < R) (x32 x33 : Int) {q11 : List (List UInt8)} {q13 : List (List Int)} (hq : q13[r]? = some (rowM m.2.2.2 C r)) {E : Int → Int → Int → List (List UInt8) → List (List UInt8) → List (List Int) → Option (List (List UInt8) × Int)} :
    impl_MatrixPicture_l2 k k ((maxW m.2.2.2 0 : Nat) : Int) x32 x33 r ((rowM m.2.2.2 C r).length : Int) 0 q11 [] q13 E = E ((maxW m.2.2.2 0 : Nat) : Int) x32 x33 q11 ((rowM m.2.2.2 C r).map (cellW (maxW m.2.2.2 0))) q13 := by
  have hK := KK_def
  have hLI := LIM_def
  have hrl := rowM_len h.len hr
  have h32 := h.c32
  have hcells := h.cells
  obtain ⟨hW3, hWx⟩ := matW h
  generalize hWe : maxW m.2.2.2 0 = W at hW3 hWx ⊢
  refine loop_list (α := Int) (A := List (List UInt8)) (L := fun n j q => impl_MatrixPicture_l2 k n (W : Int) x32 x33 r ((rowM m.2.2.2 C r).length : Int) j q11 q q13 E) (I := fun pre q => q = pre.map (cellW W)) (G := fun _ _ => E (W : Int) x32 x33 q11 ((rowM m.2.2.2 C r).map (cellW W)) q13) (rowM m.2.2.2 C r) ?_ ?_ k (by omega) [] rfl
  · intro n pre x post q hx hl ih hg hlt
    have hc : pre.length < (rowM m.2.2.2 C r).length := by omega
    have hw := w_succ (i := pre.length) (by omega)
    have hxm := rowM_mem (List.mem_of_getElem? hg)
    have hxc := hcells x hxm
    have hxw := hWx x hxm
    have hsub : w_i64 ((W : Int) - ((Lib.itoa x).length : Int)) = ((W - (Lib.itoa x).length : Nat) : Int) := by rw [w_id (by omega) (by omega)]; omega
    have hcl' : (List.replicate (W - (Lib.itoa x).length) (32 : UInt8)).length + (Lib.itoa x).length ≤ 9223372036854775807 := by rw [List.length_replicate]; omega
    have hce : List.replicate (W - (Lib.itoa x).length) (32 : UInt8) ++ Lib.itoa x = cellW W x := rfl
    have hql : q.length = pre.length := by rw [hl, List.length_map]
    have b1 : (q.length + 1) * 16 ≤ LIM := by omega
    simp only [impl_MatrixPicture_l2, hlt, decide_true, if_true, hq, Option.bind_some, Int.natCast_nonneg, Int.toNat_natCast, hc, and_self, hg, decimal_ok (show -9223372036854775808 ≤ x by omega) (show x ≤ 9223372036854775807 by omega), hsub, repeat_ok 32 (show W - (Lib.itoa x).length ≤ 1000000 by omega), hcl', hce, List.length_singleton, b1, hw]
    exact ih _ (by rw [hl]; simp)
  · intro n q hl
    subst hl
    simp only [impl_MatrixPicture_l2, Int.lt_irrefl, decide_false, Bool.false_eq_true, if_false]
theorem cloneI_ok {a : List Int} (ha : a.length ≤ 1048576) : slices_Clone_int64 a = some a := by
  have hL := LIM_def
  unfold slices_Clone_int64
  have h : (([] : List Unit).length + a.length) * 8 ≤ LIM := by simp only [List.length_nil]; omega
  rw [if_pos h]
  cases a with
  | nil => simp [both]
  | cons x l => simp
theorem rowsOf_ok {k : Nat} (hk : KK ≤ k) {m : Mat} {R C : Nat} (h : MatP m R C) : impl_rowsOf k m = some ((List.range R).map (rowM m.2.2.2 C)) := by
  have hK := KK_def
  have hLI := LIM_def
  have h32 := h.c32
  have hr32 := h.r32
  unfold impl_rowsOf
  have := loop_list (α := Nat) (A := List (List Int)) (L := fun n i q => impl_rowsOf_l0 k n m.2.1 i q m (fun q_4 => some q_4)) (I := fun pre q => q = pre.map (rowM m.2.2.2 C)) (G := fun _ _ => some ((List.range R).map (rowM m.2.2.2 C))) (List.range R) ?_ ?_ k (by rw [List.length_range]; omega) [] rfl
  · exact this
  · intro n pre x post q hx hq ih hg hlt
    rw [List.length_range] at hlt
    have hr : pre.length < R := by omega
    have hxe : x = pre.length := by rw [List.getElem?_range hr] at hg; simpa using hg.symm
    have hw := w_succ (i := pre.length) (by omega)
    have hlt' : (pre.length : Int) < m.2.1 := by rw [h.rows]; omega
    have h1 : (pre.length + 1) * C ≤ R * C := Nat.mul_le_mul_right _ hr
    have h2 : R * C ≤ 32 * 32 := Nat.mul_le_mul hr32 h32
    have h3 : (pre.length + 1) * C = pre.length * C + C := Nat.succ_mul _ _
    have hm1 : w_i64 ((pre.length : Int) * m.2.2.1) = ((pre.length * C : Nat) : Int) := by rw [h.cols, ← Int.natCast_mul]; exact w_id (by omega) (by omega)
    have hm2 : w_i64 (((pre.length + 1 : Nat) : Int) * m.2.2.1) = (((pre.length + 1) * C : Nat) : Int) := by rw [h.cols, ← Int.natCast_mul]; exact w_id (by omega) (by omega)
    have hrow : impl_Matrix_row_r m (pre.length : Int) = some (rowM m.2.2.2 C pre.length) := by
      unfold impl_Matrix_row_r
      rw [hm1, hw, hm2, if_pos ⟨by omega, by omega, by rw [h.len]; omega⟩, Int.toNat_natCast, Int.toNat_natCast, show (pre.length + 1) * C - pre.length * C = C by omega]
      rfl
    have hrl := rowM_len h.len hr
    have hql : q.length = pre.length := by rw [hq, List.length_map]
    have b1 : (q.length + 1) * 24 ≤ LIM := by omega
    subst hxe
    simp only [impl_rowsOf_l0, hlt', decide_true, if_true, hrow, Option.bind_some, cloneI_ok (show (rowM m.2.2.2 C pre.length).length ≤ 1048576 by omega), List.length_singleton, b1, hw]
    exact ih _ (by rw [hq]; simp)
  · intro n q hq
    have : ¬ ((List.range R).length : Int) < m.2.1 := by rw [h.rows, List.length_range]; omega
    subst hq
    simp only [impl_rowsOf_l0, this, decide_false, Bool.false_eq_true, if_false]
/-- The two pictures of a valid matrix. -/
theorem specMat_ok {k : Nat} (hk : KK ≤ k) {m : Mat} {R C : Nat} (h : MatP m R C) : spec_MatrixPicture_l0 k k 0 0 m (fun wide_6 v_7 => spec_MatrixPicture_l1 k k wide_6 0 [] v_7 (fun q_14 => (spec_l30Done_g k q_14).bind fun y_15 => some (y_15.2.1.1, y_15.1.1.2.1))) = some (matP m R C) := by
  have hK := KK_def
  have hLI := LIM_def
  have h32 := h.c32
  have hr32 := h.r32
  rw [specWide_ok hk h]
  obtain ⟨l1, l2⟩ := linesM_ok h
  have hw3 := (matW h).1
  have hCW : C * (maxW m.2.2.2 0 + 1) ≤ 32 * 4 := Nat.mul_le_mul h32 (by omega)
  have := loop_list (α := Nat) (A := List (List UInt8)) (L := fun n i r => spec_MatrixPicture_l1 k n ((maxW m.2.2.2 0 : Nat) : Int) i r m (fun q_14 => (spec_l30Done_g k q_14).bind fun y_15 => some (y_15.2.1.1, y_15.1.1.2.1))) (I := fun pre r => r = pre.map (lineM (maxW m.2.2.2 0) m.2.2.2 C)) (G := fun _ _ => (spec_l30Done_g k (linesM (maxW m.2.2.2 0) m.2.2.2 C R)).bind fun y_15 => some (y_15.2.1.1, y_15.1.1.2.1)) (List.range R) ?_ ?_ k (by rw [List.length_range]; omega) [] rfl
  · rw [this, l30Done_ok hk (by omega) (fun x hx => by rw [(l2 x hx).1]; omega)]
    rfl
  · intro n pre x post q hx hq ih hg hlt
    rw [List.length_range] at hlt
    have hr : pre.length < R := by omega
    have hxe : x = pre.length := by rw [List.getElem?_range hr] at hg; simpa using hg.symm
    have hw := w_succ (i := pre.length) (by omega)
    have hlt' : (pre.length : Int) < m.2.1 := by rw [h.rows]; omega
    have hql : q.length = pre.length := by rw [hq, List.length_map]
    have b1 : (q.length + 1) * 16 ≤ LIM := by omega
    subst hxe
    simp only [spec_MatrixPicture_l1, hlt', decide_true, if_true, specLineM hk h hr, List.length_singleton, b1, hw]
    exact ih _ (by rw [hq]; simp)
  · intro n q hq
    have : ¬ ((List.range R).length : Int) < m.2.1 := by rw [h.rows, List.length_range]; omega
    subst hq
    simp only [spec_MatrixPicture_l1, this, decide_false, Bool.false_eq_true, if_false]
    rfl
theorem implMat_ok {k : Nat} (hk : KK ≤ k) {m : Mat} {R C : Nat} (h : MatP m R C) : impl_MatrixPicture_l0 k k 0 m.2.2.2 (List.length m.2.2.2 : Int) 0 m (fun width_4 v_5 => (impl_rowsOf k v_5).bind fun r_6 => impl_MatrixPicture_l1 k k width_4 (List.length r_6 : Int) 0 [] r_6 (fun q_18 => (impl_pictured k q_18).bind fun r_19 => some (r_19.1, r_19.2))) = some (matP m R C) := by
  have hK := KK_def
  have hLI := LIM_def
  have h32 := h.c32
  have hr32 := h.r32
  rw [implWide_ok hk h, rowsOf_ok hk h]
  simp only [Option.bind_some, List.length_map, List.length_range]
  obtain ⟨l1, l2⟩ := linesM_ok h
  have hw3 := (matW h).1
  have hCW : C * (maxW m.2.2.2 0 + 1) ≤ 32 * 4 := Nat.mul_le_mul h32 (by omega)
  have := loop_list (α := Nat) (A := List (List UInt8)) (L := fun n i r => impl_MatrixPicture_l1 k n ((maxW m.2.2.2 0 : Nat) : Int) (R : Int) i r ((List.range R).map (rowM m.2.2.2 C)) (fun q_18 => (impl_pictured k q_18).bind fun r_19 => some (r_19.1, r_19.2))) (I := fun pre r => r = pre.map (lineM (maxW m.2.2.2 0) m.2.2.2 C)) (G := fun _ _ => (impl_pictured k (linesM (maxW m.2.2.2 0) m.2.2.2 C R)).bind fun r_19 => some (r_19.1, r_19.2)) (List.range R) ?_ ?_ k (by rw [List.length_range]; omega) [] rfl
  · rw [this, pictured_done hk (W := C * (maxW m.2.2.2 0 + 1) - 1) (by omega) (by omega) l2]
    rfl
  · intro n pre x post q hx hq ih hg hlt
    rw [List.length_range] at hlt
    have hr : pre.length < R := by omega
    have hxe : x = pre.length := by rw [List.getElem?_range hr] at hg; simpa using hg.symm
    have hw := w_succ (i := pre.length) (by omega)
    have hq13 : ((List.range R).map (rowM m.2.2.2 C))[pre.length]? = some (rowM m.2.2.2 C pre.length) := by rw [List.getElem?_map, List.getElem?_range hr]; rfl
    have hrl := rowM_len h.len hr
    have hql : q.length = pre.length := by rw [hq, List.length_map]
    have b1 : (q.length + 1) * 16 ≤ LIM := by omega
    have hjl := joinW_le (cell_words h (r := pre.length) (l := rowM m.2.2.2 C pre.length) (fun x hx => hx)) (by rw [List.length_map]; omega) hw3
    have hjoin : strings_Join_s [32] ((rowM m.2.2.2 C pre.length).map (cellW (maxW m.2.2.2 0))) = some ((lineM (maxW m.2.2.2 0) m.2.2.2 C pre.length, ()), ((rowM m.2.2.2 C pre.length).map (cellW (maxW m.2.2.2 0)), ()), ()) := by
      unfold strings_Join_s
      rw [if_pos ⟨by rw [List.length_map]; omega, by omega⟩]
      rfl
    subst hxe
    simp only [impl_MatrixPicture_l1, hlt, decide_true, if_true, Int.natCast_nonneg, Int.toNat_natCast, List.length_map, List.length_range, hr, and_self, hq13, Option.bind_some, implLineM hk h hr _ _ hq13, hjoin, List.length_singleton, b1, hw]
    exact ih _ (by rw [hq]; simp)
  · intro n q hq
    subst hq
    simp only [impl_MatrixPicture_l1, List.length_range, Int.lt_irrefl, decide_false, Bool.false_eq_true, if_false]
    rfl
theorem markInt64S_some {k : Nat} (hk : KK ≤ k) {l : List Int} (hl : l.length ≤ 1048576) : ∃ q m, laws_markInt64S_o k 1 l = some ((m, ()), (q, ()), ()) ∧ 0 ≤ m := by
  have hK := KK_def
  unfold laws_markInt64S_o
  have := loop_list (α := Int) (A := Int × List Int) (R := Prop) (L := fun n i z => ∃ q m, laws_markInt64S_o_l0 k n z.1 i z.2 (fun k_9 q_10 => some ((k_9, ()), (q_10, ()), ())) = some ((m, ()), (q, ()), ()) ∧ 0 ≤ m)
    (I := fun pre z => z.2.length = l.length ∧ 0 ≤ z.1 ∧ z.1 ≤ 1 + (pre.length : Int)) (G := fun _ _ => True) l ?_ ?_ k (by omega) (1, l) ⟨rfl, by omega, by simp⟩
  · exact of_eq_true this
  · rintro n pre x post ⟨m, qc⟩ hx ⟨i1, i2, i3⟩ ih hg hlt
    simp only at i1 i2 i3 ih
    have hw := w_succ (i := pre.length) (by omega)
    have hpc : pre.length < qc.length := by omega
    have hpc' : (pre.length : Int) < (qc.length : Int) := by omega
    have hz : qc[pre.length]? = some qc[pre.length] := List.getElem?_eq_getElem hpc
    have w1 : w_i64 (m + 1) = m + 1 := w_id (by omega) (by omega)
    simp only [laws_markInt64S_o_l0, hpc', decide_true, if_true, Option.bind_some, Int.natCast_nonneg, Int.toNat_natCast, hpc, and_self, hz, w1, hw]
    refine ih (_, _) ⟨?_, ?_, ?_⟩
    · simp only [List.length_set]; omega
    · simp only; omega
    · simp only [List.length_append, List.length_singleton]; omega
  · rintro n ⟨m, qc⟩ ⟨i1, i2, i3⟩
    simp only at i1 i2
    have : ¬ (l.length : Int) < (qc.length : Int) := by omega
    refine eq_true ⟨qc, m, ?_, i2⟩
    simp only [laws_markInt64S_o_l0, this, decide_false, Bool.false_eq_true, if_false]
theorem markMatrix_some {k : Nat} (hk : KK ≤ k) (a b c : Int) {l : List Int} (hl : l.length ≤ 1048576) : ∃ q m, laws_markMatrix_o k a b c 1 l = some ((m, ()), (q, ()), ()) ∧ 0 ≤ m := by
  obtain ⟨q, m, h, h0⟩ := markInt64S_some hk hl
  refine ⟨q, m, ?_, h0⟩
  unfold laws_markMatrix_o
  rw [h]; rfl
def sumL {α : Type} (f : α → Nat) (l : List α) : Nat := (l.map f).sum
theorem sumL_nil {α : Type} (f : α → Nat) : sumL f [] = 0 := rfl
theorem sumL_cons {α : Type} (f : α → Nat) (x : α) (l : List α) : sumL f (x :: l) = f x + sumL f l := by simp [sumL]
theorem sumL_append {α : Type} (f : α → Nat) (l m : List α) : sumL f (l ++ m) = sumL f l + sumL f m := by simp [sumL]
theorem sumL_mem {α : Type} (f : α → Nat) {x : α} {l : List α} (h : x ∈ l) : f x ≤ sumL f l := by
  induction l with
  | nil => cases h
  | cons y l ih =>
    rw [sumL_cons]
    rcases List.mem_cons.1 h with rfl | h
    · omega
    · have := ih h; omega
/-- Sizes gathered, until they are too great. -/
theorem loop_sz {α : Type} (xs : List α) {s : α → Nat} {L : Nat → Int → Int → Option Int}
    (h1 : ∀ n (i : Nat) x r, xs[i]? = some x → (i : Int) < xs.length → x ∈ xs → 0 ≤ r → r ≤ 1048576 → L (n + 1) (i : Int) r = if (s x : Int) ≤ r then L n ((i + 1 : Nat) : Int) (r - (s x : Int)) else some (-1))
    (h2 : ∀ n r, L (n + 1) (xs.length : Int) r = some r) {n : Nat} (hn : xs.length < n) {r : Int} (h0 : 0 ≤ r) (hr : r ≤ 1048576) : L n 0 r = some (if (sumL s xs : Int) ≤ r then r - (sumL s xs : Int) else -1) := by
  refine loop_list (L := L) (I := fun _ r => 0 ≤ r ∧ r ≤ 1048576) (G := fun post r => some (if (sumL s post : Int) ≤ r then r - (sumL s post : Int) else -1)) xs ?_ ?_ n hn r ⟨h0, hr⟩
  · intro n pre x post r hx hI ih hg hlt
    rw [h1 n pre.length x r hg hlt (List.mem_of_getElem? hg) hI.1 hI.2]
    have hc : sumL s (x :: post) = s x + sumL s post := sumL_cons _ _ _
    by_cases c : (s x : Int) ≤ r
    · rw [if_pos c, ih (r - (s x : Int)) ⟨by omega, by omega⟩]
      by_cases c2 : (sumL s post : Int) ≤ r - (s x : Int)
      · rw [if_pos c2, if_pos (by omega)]; congr 1; omega
      · rw [if_neg c2, if_neg (by omega)]
    · rw [if_neg c, if_neg (by omega)]
  · intro n r hI
    rw [h2, sumL_nil, if_pos (by simpa using hI.1)]; simp
instance dec_Int64S : DecidableEq (List Int) := inferInstance
def sz_Int64S (a : List Int) : Nat := a.length
theorem szInt64S_ok {a : List Int} {e0 : TypeId} {left : Int} (h0 : 0 ≤ left) (h1 : left ≤ 1048576) (h : InR (.sl e0 (.int .i64)) a) : laws_szInt64S a left = some (if (sz_Int64S a : Int) ≤ left then left - (sz_Int64S a : Int) else -1) := by
  have hl : a.length ≤ 140737488351232 := h.1
  have hs : sz_Int64S a = a.length := rfl
  unfold laws_szInt64S
  rw [hs, w_id (by omega) (by omega)]
  by_cases c : (a.length : Int) ≤ left
  · rw [decide_eq_false (by omega), if_neg (by simp), if_pos c]
  · rw [decide_eq_true (by omega), if_pos rfl, if_neg c]
instance dec_Matrix_2 : DecidableEq (Int × List Int) := inferInstance
instance dec_Matrix_1 : DecidableEq (Int × Int × List Int) := inferInstance
instance dec_Matrix : DecidableEq (Int × Int × Int × List Int) := inferInstance
def sz_Matrix (a : Int × Int × Int × List Int) : Nat := (sz_Int64S (a.2.2.2))
theorem szMatrix_ok {a : Int × Int × Int × List Int} {e0 : TypeId} {left : Int} (h0 : 0 ≤ left) (h1 : left ≤ 1048576) (h : InR (.st (.pr (.int .i64) (.pr (.int .i64) (.pr (.int .i64) (.sl e0 (.int .i64)))))) a) : laws_szMatrix a left = some (if (sz_Matrix a : Int) ≤ left then left - (sz_Matrix a : Int) else -1) := by
  have hs : sz_Matrix a = (sz_Int64S (a.2.2.2)) := rfl
  unfold laws_szMatrix
  rw [hs]
  have q0 := szInt64S_ok (a := a.2.2.2) (left := left) (by omega) (by omega) h.2.2.2
  rw [q0]
  by_cases c0 : ((sz_Int64S (a.2.2.2)) : Int) ≤ left
  case neg => rw [if_neg c0]; simp only [Option.bind_some]; rw [decide_eq_true (by omega), if_pos rfl]
  rw [if_pos c0]; simp only [Option.bind_some]
  rw [decide_eq_false (by omega), if_neg (by simp)]
theorem toInt64S_ok {k : Nat} (hk : KK ≤ k) {a : List Int} (h : sz_Int64S a ≤ 10000000000) : laws_toInt64S k a = some a := by
  have hl : a.length ≤ 10000000000 := Nat.le_trans (show a.length ≤ sz_Int64S a by unfold sz_Int64S; omega) h
  unfold laws_toInt64S
  have hL := LIM_def
  rw [if_pos ⟨by omega, Int.le_refl _, by omega⟩]
  refine loop_copy (L := fun n i q => laws_toInt64S_l0 k n a i q fun q_5 => some q_5) (e := fun q => some q) a _ (by simp) ?_ ?_ (n := k) (by have := KK_def; omega)
  · intro n i x q hx hlt hq
    have hw := w_succ (i := i) (by omega)
    have hi : i < q.length := by omega
    simp [laws_toInt64S_l0, hlt, hx, hw, hi]
  · intro n q
    simp [laws_toInt64S_l0]
theorem toMatrix_ok {k : Nat} (hk : KK ≤ k) {a : Int × Int × Int × List Int} (h : sz_Matrix a ≤ 10000000000) : laws_toMatrix k a = some a := by
  have b3 : (sz_Int64S (a.2.2.2)) ≤ 10000000000 := by unfold sz_Matrix at h; omega
  unfold laws_toMatrix
  simp only [toInt64S_ok hk b3, Option.bind_some] <;> rfl
theorem eqInt64S_ok {k : Nat} (hk : KK ≤ k) {a b : List Int} (h : sz_Int64S a ≤ 10000000000) : laws_eqInt64S k a b = some (decide (a = b)) := by
  have hle : a.length ≤ 10000000000 := Nat.le_trans (show a.length ≤ sz_Int64S a by unfold sz_Int64S; omega) h
  unfold laws_eqInt64S
  by_cases hl : a.length = b.length
  · rw [if_neg (by simp [hl])]
    refine loop_eq (L := fun n i => laws_eqInt64S_l0 k n a b i (some true)) a b hl ?_ ?_ (n := k) (by have := KK_def; omega)
    · intro n i x y hx hy hlt
      have hw := w_succ (i := i) (by omega)
      by_cases e : x = y <;> simp [laws_eqInt64S_l0, hlt, hx, hy, hw, e]
    · intro n
      simp [laws_eqInt64S_l0]
  · have h2 : a ≠ b := fun e => hl (by rw [e])
    have h3 : ¬ (a.length : Int) = b.length := by omega
    simp [h3, h2]
theorem eqMatrix_ok {k : Nat} (hk : KK ≤ k) {a b : Int × Int × Int × List Int} (h : sz_Matrix a ≤ 10000000000) : laws_eqMatrix k a b = some (decide (a = b)) := by
  obtain ⟨a0, a1, a2, a3⟩ := a
  obtain ⟨b0, b1, b2, b3⟩ := b
  have c3 : (sz_Int64S a3) ≤ 10000000000 := by unfold sz_Matrix at h; simp only at h; omega
  unfold laws_eqMatrix
  simp only [eqInt64S_ok hk c3, Option.bind_some, Prod.mk.injEq]
  by_cases x0 : a0 = b0
  case neg => simp [x0]
  subst x0
  by_cases x1 : a1 = b1
  case neg => simp [x1]
  subst x1
  by_cases x2 : a2 = b2
  case neg => simp [x2]
  subst x2
  by_cases x3 : a3 = b3
  case neg => simp [x3]
  subst x3
  simp
theorem eta_Matrix (x : Int × Int × Int × List Int) : (x.1, (x.2.1, (x.2.2.1, x.2.2.2))) = x := rfl
/-- A mark is a text. -/
theorem markText_ok {k : Nat} (hk : KK ≤ k) {n : Int} (h : n ≤ 9223372036854775807) : ∃ t, laws_markText k n = some t := by
  unfold laws_markText
  by_cases h0 : n ≤ 0
  · exact ⟨[109, 48], by simp [h0]⟩
  · simp only [decide_eq_true_eq, h0, if_false]
    have key : ∀ (m : Nat) (n : Int) (out : List UInt8), 0 ≤ n → n < 10 ^ m → n ≤ 9223372036854775807 → out.length + m ≤ 100 → ∀ q, m < q → ∃ t, laws_markText_l0 k q n out (fun out_1 => (if [109].length + out_1.length ≤ 9223372036854775807 then some ([109] ++ out_1) else none)) = some t := by
      intro m
      induction m with
      | zero =>
        intro n out h1 h2 h3 h4 q hq
        obtain ⟨q, rfl⟩ : ∃ p, q = p + 1 := ⟨q - 1, by omega⟩
        have : ¬ 0 < n := by simp at h2; omega
        have h5 : 1 + out.length ≤ 9223372036854775807 := by omega
        exact ⟨[109] ++ out, by simp only [laws_markText_l0, decide_eq_true_eq, this, if_false, List.length_singleton, h5, if_true]⟩
      | succ m ih =>
        intro n out h1 h2 h3 h4 q hq
        obtain ⟨q, rfl⟩ : ∃ p, q = p + 1 := ⟨q - 1, by omega⟩
        by_cases hn : 0 < n
        · have hd : Int.tdiv n 10 = n / 10 := Int.tdiv_eq_ediv_of_nonneg h1
          have hw : w_i64 (Int.tdiv n 10) = n / 10 := by rw [hd, w_id (by omega) (by omega)]
          have h5 : 1 + out.length ≤ 9223372036854775807 := by omega
          have h6 : n / 10 < 10 ^ m := by
            rw [Int.pow_succ] at h2
            omega
          obtain ⟨t, ht⟩ := ih (n / 10) ((to_S [(w_u8 ((w_i64 (48 + (Int.tmod n 10)))))]) ++ out) (by omega) h6 (by omega) (by simp; omega) q (by omega)
          refine ⟨t, ?_⟩
          simp only [laws_markText_l0, decide_eq_true_eq, hn, if_true, hw]
          rw [if_pos (by simp; omega)]
          exact ht
        · have h5 : 1 + out.length ≤ 9223372036854775807 := by omega
          exact ⟨[109] ++ out, by simp only [laws_markText_l0, decide_eq_true_eq, hn, if_false, List.length_singleton, h5, if_true]⟩
    exact key 20 n [] (by omega) (by omega) h (by simp) k (by have := KK_def; omega)
/-- What was marked is held. -/
theorem markStringS_ok {k : Nat} (hk : KK ≤ k) {a : List (List UInt8)} {m : Int} (h0 : 0 ≤ m) (h1 : m ≤ 1000000000000) (ha : a.length ≤ 1000000000000) :
    ∃ q, laws_markStringS_o k m a = some ((m + a.length, ()), (q, ()), ()) ∧ laws_heldStringS k q m = some (m + a.length) := by
  have mt : ∀ i : Nat, i ≤ 2000000000000 → ∃ t, laws_markText k (m + i) = some t := fun i hi => markText_ok hk (by omega)
  let T : Nat → List UInt8 := fun i => (laws_markText k (m + i)).getD []
  have hT : ∀ i : Nat, i ≤ 2000000000000 → laws_markText k (m + i) = some (T i) := fun i hi => by
    obtain ⟨t, ht⟩ := mt i hi
    show _ = some ((laws_markText k (m + i)).getD [])
    rw [ht]; rfl
  refine ⟨(List.range a.length).map T, ?_, ?_⟩
  · unfold laws_markStringS_o
    have := loop_list (α := Nat) (A := List (List UInt8)) (L := fun n i q => laws_markStringS_o_l0 k n (m + i) i q fun k_6 q_7 => some ((k_6, ()), (q_7, ()), ()))
      (I := fun pre q => q.length = a.length ∧ q.take pre.length = (List.range pre.length).map T) (G := fun _ _ => some ((m + a.length, ()), ((List.range a.length).map T, ()), ())) (List.range a.length) ?_ ?_ k (by have := KK_def; simp; omega) a ⟨rfl, by simp⟩
    · simpa using this
    · intro n pre x post q hx hq ih hg hlt
      rw [List.length_range] at hlt
      have hw := w_succ (i := pre.length) (by omega)
      have hl : pre.length < q.length := by omega
      have hm : w_i64 (m + (pre.length : Int) + 1) = m + ((pre.length + 1 : Nat) : Int) := by rw [w_id (by omega) (by omega)]; omega
      have hlt' : (pre.length : Int) < (q.length : Int) := by omega
      simp only [laws_markStringS_o_l0, hlt', decide_true, if_true, hT pre.length (by omega), Option.bind_some, Int.natCast_nonneg, Int.toNat_natCast, hl, and_self, List.getElem?_eq_getElem hl, hm, hw]
      refine ih _ ⟨by rw [List.length_set]; exact hq.1, ?_⟩
      rw [List.length_append, List.length_singleton, List.take_succ_eq_append_getElem (by simpa using hl), List.getElem_set_self, List.take_set_of_le (Nat.le_refl _), hq.2, List.range_succ]
      simp
    · intro n q hq
      have : ¬ ((List.range a.length).length : Int) < (q.length : Int) := by rw [hq.1]; simp
      have h2 := hq.2
      rw [List.length_range, ← hq.1, List.take_length, hq.1] at h2
      simp only [laws_markStringS_o_l0, this, decide_false, Bool.false_eq_true, if_false]
      simp [h2]
  · unfold laws_heldStringS
    have := loop_list (α := List UInt8) (A := Unit) (L := fun n i _ => laws_heldStringS_l0 k n ((List.range a.length).map T) (m + i) i fun k_3 => some k_3) (I := fun _ _ => True) (G := fun _ _ => some (m + a.length)) ((List.range a.length).map T) ?_ ?_ k (by have := KK_def; simp; omega) () trivial
    · simpa using this
    · intro n pre x post _ hx _ ih hg hlt
      rw [List.length_map, List.length_range] at hlt
      have hw := w_succ (i := pre.length) (by omega)
      have hm : w_i64 (m + (pre.length : Int) + 1) = m + ((pre.length + 1 : Nat) : Int) := by rw [w_id (by omega) (by omega)]; omega
      have hxT : x = T pre.length := by
        rw [List.getElem?_map, List.getElem?_range (by omega)] at hg
        simpa using hg.symm
      have hlt' : (pre.length : Int) < (((List.range a.length).map T).length : Int) := by simp; omega
      simp only [laws_heldStringS_l0, hlt', decide_true, if_true, Int.natCast_nonneg, Int.toNat_natCast, hg, Option.bind_some, hT pre.length (by omega), hxT, Bool.not_true, Bool.false_eq_true, if_false, hm, hw]
      exact ih () trivial
    · intro n _ _
      simp [laws_heldStringS_l0]
theorem eqStringS_ok {k : Nat} (hk : KK ≤ k) {a b : List (List UInt8)} (ha : a.length < 4611686018427387904) : laws_eqStringS k a b = some (decide (a = b)) := by
  unfold laws_eqStringS
  by_cases hl : a.length = b.length
  · rw [if_neg (by simp [hl])]
    refine loop_eq (L := fun n i => laws_eqStringS_l0 k n a b i (some true)) a b hl ?_ ?_ (n := k) (by have := KK_def; omega)
    · intro n i x y hx hy hlt
      have hw := w_succ (i := i) (by omega)
      by_cases e : x = y <;> simp [laws_eqStringS_l0, hlt, hx, hy, hw, e]
    · intro n
      simp [laws_eqStringS_l0]
  · have h2 : a ≠ b := fun e => hl (by rw [e])
    have h3 : ¬ (a.length : Int) = b.length := by omega
    simp [h3, h2]
theorem matPic_ok {k : Nat} (hk : KK ≤ k) {m : Mat} (hL : m.2.2.2.length ≤ 1048576) : ∃ r : List (List UInt8) × Int, spec_MatrixPicture k m = some r ∧ impl_MatrixPicture k m = some r ∧ r.1.length ≤ 100000 := by
  obtain ⟨b, h1, h2, h3⟩ := matrix_ok hk hL
  unfold spec_MatrixPicture impl_MatrixPicture
  rw [h1, h2]
  cases b
  · exact ⟨([], 1), by simp, by simp, by simp⟩
  · obtain ⟨R, C, h⟩ := h3 rfl
    refine ⟨matP m R C, ?_, ?_, ?_⟩
    · simp only [Option.bind_some, Bool.not_true, Bool.false_eq_true, if_false]
      exact specMat_ok hk h
    · simp only [Option.bind_some, Bool.not_true, Bool.false_eq_true, if_false]
      exact implMat_ok hk h
    · have := (linesM_ok h).1
      have hr := h.r32
      unfold matP doneP
      split
      · simp only; omega
      · simp
theorem pure_FnExactMatrixPicture {e0 : TypeId} (a0 : Mat) (h0 : InR (.st (.pr (.int .i64) (.pr (.int .i64) (.pr (.int .i64) (.sl e0 (.int .i64)))))) a0) : ∃ k : Nat, laws_FnExactMatrixPicture k a0 = some true := by
  have hk := Nat.le_refl KK
  refine ⟨KK, ?_⟩
  have q0 := szMatrix_ok (a := a0) (left := 1048576) (by omega) (by omega) h0
  unfold laws_FnExactMatrixPicture
  rw [q0]
  by_cases c0 : (sz_Matrix a0 : Int) ≤ 1048576
  case neg => rw [if_neg c0]; simp only [Option.bind_some]; rw [decide_eq_true (by omega), if_pos rfl]
  rw [if_pos c0]; simp only [Option.bind_some]
  rw [decide_eq_false (by omega), if_neg (by simp)]
  have b0 : sz_Matrix a0 ≤ 10000000000 := by omega
  have hL : a0.2.2.2.length ≤ 1048576 := by
    have e : sz_Matrix a0 = a0.2.2.2.length := rfl
    omega
  obtain ⟨r, hs, hi, hl⟩ := matPic_ok hk hL
  obtain ⟨q, m, hm, hm0⟩ := markMatrix_some hk a0.1 a0.2.1 a0.2.2.1 hL
  have hmn : ¬ m < 0 := by omega
  obtain ⟨q2, hq2, hh2⟩ := markStringS_ok hk (a := r.1) (m := 1) (by omega) (by omega) (by omega)
  have hmn2 : ¬ (1 + (r.1.length : Int) < 0) := by omega
  simp only [toMatrix_ok hk b0, Option.bind_some, eta_Matrix, hs, hi, eqMatrix_ok hk b0, eqStringS_ok hk (show r.1.length < 4611686018427387904 by omega), hm, hmn, hq2, hh2, hmn2, decide_true, Bool.not_true, Bool.false_eq_true, if_false, decide_false]
end Go.Proofs.YtackggcodaolaaaDoor.Ev
