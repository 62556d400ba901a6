/- Plain laws of the printed functions. No conditions but those in each statement. -/
import Derived.Test.YtlcophcnioaaoaaEv4
import Derived.Test.YtlcophcnioaaoaaG3
set_option linter.unusedVariables false
set_option linter.unusedSimpArgs false
namespace Go.Proofs.Ytlcophcnioaaoaa.Ev
open Go.RowKit
theorem eqStringS_ok {k : Nat} (hk : KK ≤ k) {a b : List (List UInt8)} (ha : a.length < 4611686018427387904) : laws_eqStringS k a b = some (decide (a = b)) := by
  unfold laws_eqStringS
  by_cases hl : a.length = b.length
  · rw [if_neg (by simp [hl])]
    refine loop_eq (L := fun n i => laws_eqStringS_l0 k n a b i (some true)) a b hl ?_ ?_ (n := k) (by have := KK_def; omega)
    · intro n i x y hx hy hlt
      have hw := w_succ (i := i) (by omega)
      by_cases e : x = y <;> simp [laws_eqStringS_l0, hlt, hx, hy, hw, e]
    · intro n
      simp [laws_eqStringS_l0]
  · have h2 : a ≠ b := fun e => hl (by rw [e])
    have h3 : ¬ (a.length : Int) = b.length := by omega
    simp [h3, h2]
/-- A mark is a text. -/
theorem markText_ok {k : Nat} (hk : KK ≤ k) {n : Int} (h : n ≤ 9223372036854775807) : ∃ t, laws_markText k n = some t := by
  unfold laws_markText
  by_cases h0 : n ≤ 0
  · exact ⟨[109, 48], by simp [h0]⟩
  · simp only [decide_eq_true_eq, h0, if_false]
    have key : ∀ (m : Nat) (n : Int) (out : List UInt8), 0 ≤ n → n < 10 ^ m → n ≤ 9223372036854775807 → out.length + m ≤ 100 → ∀ q, m < q → ∃ t, laws_markText_l0 k q n out (fun out_1 => (if [109].length + out_1.length ≤ 9223372036854775807 then some ([109] ++ out_1) else none)) = some t := by
      intro m
      induction m with
      | zero =>
        intro n out h1 h2 h3 h4 q hq
        obtain ⟨q, rfl⟩ : ∃ p, q = p + 1 := ⟨q - 1, by omega⟩
        have : ¬ 0 < n := by simp at h2; omega
        have h5 : 1 + out.length ≤ 9223372036854775807 := by omega
        exact ⟨[109] ++ out, by simp only [laws_markText_l0, decide_eq_true_eq, this, if_false, List.length_singleton, h5, if_true]⟩
      | succ m ih =>
        intro n out h1 h2 h3 h4 q hq
        obtain ⟨q, rfl⟩ : ∃ p, q = p + 1 := ⟨q - 1, by omega⟩
        by_cases hn : 0 < n
        · have hd : Int.tdiv n 10 = n / 10 := Int.tdiv_eq_ediv_of_nonneg h1
          have hw : w_i64 (Int.tdiv n 10) = n / 10 := by rw [hd, w_id (by omega) (by omega)]
          have h5 : 1 + out.length ≤ 9223372036854775807 := by omega
          have h6 : n / 10 < 10 ^ m := by
            rw [Int.pow_succ] at h2
            omega
          obtain ⟨t, ht⟩ := ih (n / 10) ((to_S [(w_u8 ((w_i64 (48 + (Int.tmod n 10)))))]) ++ out) (by omega) h6 (by omega) (by simp; omega) q (by omega)
          refine ⟨t, ?_⟩
          simp only [laws_markText_l0, decide_eq_true_eq, hn, if_true, hw]
          rw [if_pos (by simp; omega)]
          exact ht
        · have h5 : 1 + out.length ≤ 9223372036854775807 := by omega
          exact ⟨[109] ++ out, by simp only [laws_markText_l0, decide_eq_true_eq, hn, if_false, List.length_singleton, h5, if_true]⟩
    exact key 20 n [] (by omega) (by omega) h (by simp) k (by have := KK_def; omega)
/-- What was marked is held. -/
theorem markStringS_ok {k : Nat} (hk : KK ≤ k) {a : List (List UInt8)} {m : Int} (h0 : 0 ≤ m) (h1 : m ≤ 1000000000000) (ha : a.length ≤ 1000000000000) :
    ∃ q, laws_markStringS_o k m a = some ((m + a.length, ()), (q, ()), ()) ∧ laws_heldStringS k q m = some (m + a.length) := by
  have mt : ∀ i : Nat, i ≤ 2000000000000 → ∃ t, laws_markText k (m + i) = some t := fun i hi => markText_ok hk (by omega)
  let T : Nat → List UInt8 := fun i => (laws_markText k (m + i)).getD []
  have hT : ∀ i : Nat, i ≤ 2000000000000 → laws_markText k (m + i) = some (T i) := fun i hi => by
    obtain ⟨t, ht⟩ := mt i hi
    show _ = some ((laws_markText k (m + i)).getD [])
    rw [ht]; rfl
  refine ⟨(List.range a.length).map T, ?_, ?_⟩
  · unfold laws_markStringS_o
    have := loop_list (α := Nat) (A := List (List UInt8)) (L := fun n i q => laws_markStringS_o_l0 k n (m + i) i q fun k_6 q_7 => some ((k_6, ()), (q_7, ()), ()))
      (I := fun pre q => q.length = a.length ∧ q.take pre.length = (List.range pre.length).map T) (G := fun _ _ => some ((m + a.length, ()), ((List.range a.length).map T, ()), ())) (List.range a.length) ?_ ?_ k (by have := KK_def; simp; omega) a ⟨rfl, by simp⟩
    · simpa using this
    · intro n pre x post q hx hq ih hg hlt
      rw [List.length_range] at hlt
      have hw := w_succ (i := pre.length) (by omega)
      have hl : pre.length < q.length := by omega
      have hm : w_i64 (m + (pre.length : Int) + 1) = m + ((pre.length + 1 : Nat) : Int) := by rw [w_id (by omega) (by omega)]; omega
      have hlt' : (pre.length : Int) < (q.length : Int) := by omega
      simp only [laws_markStringS_o_l0, hlt', decide_true, if_true, hT pre.length (by omega), Option.bind_some, Int.natCast_nonneg, Int.toNat_natCast, hl, and_self, List.getElem?_eq_getElem hl, hm, hw]
      refine ih _ ⟨by rw [List.length_set]; exact hq.1, ?_⟩
      rw [List.length_append, List.length_singleton, List.take_succ_eq_append_getElem (by simpa using hl), List.getElem_set_self, List.take_set_of_le (Nat.le_refl _), hq.2, List.range_succ]
      simp
    · intro n q hq
      have : ¬ ((List.range a.length).length : Int) < (q.length : Int) := by rw [hq.1]; simp
      have h2 := hq.2
      rw [List.length_range, ← hq.1, List.take_length, hq.1] at h2
      simp only [laws_markStringS_o_l0, this, decide_false, Bool.false_eq_true, if_false]
      simp [h2]
  · unfold laws_heldStringS
    have := loop_list (α := List UInt8) (A := Unit) (L := fun n i _ => laws_heldStringS_l0 k n ((List.range a.length).map T) (m + i) i fun k_3 => some k_3) (I := fun _ _ => True) (G := fun _ _ => some (m + a.length)) ((List.range a.length).map T) ?_ ?_ k (by have := KK_def; simp; omega) () trivial
    · simpa using this
    · intro n pre x post _ hx _ ih hg hlt
      rw [List.length_map, List.length_range] at hlt
      have hw := w_succ (i := pre.length) (by omega)
      have hm : w_i64 (m + (pre.length : Int) + 1) = m + ((pre.length + 1 : Nat) : Int) := by rw [w_id (by omega) (by omega)]; omega
      have hxT : x = T pre.length := by
        rw [List.getElem?_map, List.getElem?_range (by omega)] at hg
        simpa using hg.symm
      have hlt' : (pre.length : Int) < (((List.range a.length).map T).length : Int) := by simp; omega
      simp only [laws_heldStringS_l0, hlt', decide_true, if_true, Int.natCast_nonneg, Int.toNat_natCast, hg, Option.bind_some, hT pre.length (by omega), hxT, Bool.not_true, Bool.false_eq_true, if_false, hm, hw]
      exact ih () trivial
    · intro n _ _
      simp [laws_heldStringS_l0]
theorem pure_FnExactCommandNames : ∃ k : Nat, laws_FnExactCommandNames k = some true := by
  have hk := Nat.le_refl KK
  refine ⟨KK, ?_⟩
  have e : spec_CommandNames = impl_CommandNames := rfl
  obtain ⟨l, hl, hn⟩ : ∃ l, impl_CommandNames = some l ∧ l.length = 25 := ⟨_, rfl, rfl⟩
  obtain ⟨q, q1, q2⟩ := markStringS_ok hk (a := l) (m := 1) (by omega) (by omega) (by omega)
  unfold laws_FnExactCommandNames
  rw [e, hl]
  have h0 : ¬ (1 + (l.length : Int) < 0) := by omega
  simp only [Option.bind_some, eqStringS_ok hk (show l.length < 4611686018427387904 by omega), q1, q2, decide_true, Bool.not_true, Bool.false_eq_true, if_false, h0, decide_false]
end Go.Proofs.Ytlcophcnioaaoaa.Ev
