/- Plain laws of the printed functions. No conditions but those in each statement. -/
import Derived.Test.YtkopnopjbaejjaaEv4
import Derived.Test.YtkopnopjbaejjaaG7
set_option linter.unusedVariables false
set_option linter.unusedSimpArgs false
namespace Go.Proofs.Ytkopnopjbaejjaa.Ev
open Go.RowKit
/-- A mark is a text. -/
theorem markText_ok {k : Nat} (hk : KK ≤ k) {n : Int} (h : n ≤ 9223372036854775807) : ∃ t, laws_markText k n = some t := by
  unfold laws_markText
  by_cases h0 : n ≤ 0
  · exact ⟨[109, 48], by simp [h0]⟩
  · simp only [decide_eq_true_eq, h0, if_false]
    have key : ∀ (m : Nat) (n : Int) (out : List UInt8), 0 ≤ n → n < 10 ^ m → n ≤ 9223372036854775807 → out.length + m ≤ 100 → ∀ q, m < q → ∃ t, laws_markText_l0 k q n out (fun out_1 => (if [109].length + out_1.length ≤ 9223372036854775807 then some ([109] ++ out_1) else none)) = some t := by
      intro m
      induction m with
      | zero =>
        intro n out h1 h2 h3 h4 q hq
        obtain ⟨q, rfl⟩ : ∃ p, q = p + 1 := ⟨q - 1, by omega⟩
        have : ¬ 0 < n := by simp at h2; omega
        have h5 : 1 + out.length ≤ 9223372036854775807 := by omega
        exact ⟨[109] ++ out, by simp only [laws_markText_l0, decide_eq_true_eq, this, if_false, List.length_singleton, h5, if_true]⟩
      | succ m ih =>
        intro n out h1 h2 h3 h4 q hq
        obtain ⟨q, rfl⟩ : ∃ p, q = p + 1 := ⟨q - 1, by omega⟩
        by_cases hn : 0 < n
        · have hd : Int.tdiv n 10 = n / 10 := Int.tdiv_eq_ediv_of_nonneg h1
          have hw : w_i64 (Int.tdiv n 10) = n / 10 := by rw [hd, w_id (by omega) (by omega)]
          have h5 : 1 + out.length ≤ 9223372036854775807 := by omega
          have h6 : n / 10 < 10 ^ m := by
            rw [Int.pow_succ] at h2
            omega
          obtain ⟨t, ht⟩ := ih (n / 10) ((to_S [(w_u8 ((w_i64 (48 + (Int.tmod n 10)))))]) ++ out) (by omega) h6 (by omega) (by simp; omega) q (by omega)
          refine ⟨t, ?_⟩
          simp only [laws_markText_l0, decide_eq_true_eq, hn, if_true, hw]
          rw [if_pos (by simp; omega)]
          exact ht
        · have h5 : 1 + out.length ≤ 9223372036854775807 := by omega
          exact ⟨[109] ++ out, by simp only [laws_markText_l0, decide_eq_true_eq, hn, if_false, List.length_singleton, h5, if_true]⟩
    exact key 20 n [] (by omega) (by omega) h (by simp) k (by have := KK_def; omega)
abbrev Prob := Int × List UInt8 × List UInt8
theorem eqProblemS_ok {k : Nat} (hk : KK ≤ k) {a b : List Prob} (ha : a.length < 4611686018427387904) : laws_eqProblemS k a b = some (decide (a = b)) := by
  unfold laws_eqProblemS
  by_cases hl : a.length = b.length
  · rw [if_neg (by simp [hl])]
    refine loop_eq (L := fun n i => laws_eqProblemS_l0 k n a b i (some true)) a b hl ?_ ?_ (n := k) (by have := KK_def; omega)
    · intro n i x y hx hy hlt
      have hw := w_succ (i := i) (by omega)
      obtain ⟨x1, x2, x3⟩ := x
      obtain ⟨y1, y2, y3⟩ := y
      simp only [laws_eqProblemS_l0, laws_eqProblem, hlt, decide_true, if_true, Int.natCast_nonneg, Int.toNat_natCast, hx, hy, Option.bind_some, hw, Prod.mk.injEq]
      by_cases e1 : x1 = y1 <;> by_cases e2 : x2 = y2 <;> by_cases e3 : x3 = y3 <;> simp [e1, e2, e3]
    · intro n
      simp [laws_eqProblemS_l0]
  · have h2 : a ≠ b := fun e => hl (by rw [e])
    have h3 : ¬ (a.length : Int) = b.length := by omega
    simp [h3, h2]
theorem toProblemS_ok {k : Nat} (hk : KK ≤ k) {a : List Prob} (ha : a.length ≤ 1048576) : laws_toProblemS k a = some a := by
  unfold laws_toProblemS
  have hL := LIM_def
  rw [if_pos ⟨by omega, Int.le_refl _, by omega⟩]
  refine loop_copy (L := fun n i q => laws_toProblemS_l0 k n a i q fun q_5 => some q_5) (e := fun q => some q) a _ (by simp) ?_ ?_ (n := k) (by have := KK_def; omega)
  · intro n i x q hx hlt hq
    have hw := w_succ (i := i) (by omega)
    have hi : i < q.length := by omega
    simp [laws_toProblemS_l0, laws_toProblem, hlt, hx, hw, hi]
  · intro n q
    simp [laws_toProblemS_l0]
theorem szProblem_ok {x : Prob} {left : Int} (h0 : 0 ≤ left) (h1 : left ≤ 1048576) (h2 : x.2.1.length ≤ 140737488355328) (h3 : x.2.2.length ≤ 140737488355328) : ∃ r, laws_szProblem x left = some r ∧ (r < 0 ∨ (0 ≤ r ∧ r ≤ left)) := by
  unfold laws_szProblem
  rw [w_id (x := left - (x.2.1.length : Int)) (by omega) (by omega)]
  by_cases q1 : left - (x.2.1.length : Int) < 0
  · exact ⟨-1, by simp [q1], .inl (by omega)⟩
  · rw [decide_eq_false q1, if_neg (by simp), w_id (x := left - (x.2.1.length : Int) - (x.2.2.length : Int)) (by omega) (by omega)]
    by_cases q2 : left - (x.2.1.length : Int) - (x.2.2.length : Int) < 0
    · exact ⟨-1, by simp [q2], .inl (by omega)⟩
    · exact ⟨_, by rw [decide_eq_false q2, if_neg (by simp)], .inr ⟨by omega, by omega⟩⟩
theorem szProblemS_ok {k : Nat} (hk : KK ≤ k) {a : List Prob} {e : TypeId} {left : Int} (h0 : 0 ≤ left) (h1 : left ≤ 1048576) (ha : InR (.sl e (.st (.pr (.int .i64) (.pr .str .str)))) a) : ∃ r, laws_szProblemS k a left = some r ∧ (r < 0 ∨ (0 ≤ r ∧ r ≤ left ∧ a.length ≤ 1048576)) := by
  obtain ⟨hl, hx⟩ := ha
  unfold laws_szProblemS
  rw [w_id (by omega) (by omega)]
  by_cases h : left - (a.length : Int) < 0
  · exact ⟨-1, by simp [h], .inl (by omega)⟩
  · simp only [decide_eq_true_eq, h, if_false]
    let G : List Prob → Int → Option Int := fun l r => l.foldr (fun x k r => (laws_szProblem x r).bind fun q => if q < 0 then some (-1) else k q) (fun r => some r) r
    have hsz : ∀ x ∈ a, ∀ r : Int, 0 ≤ r → r ≤ left → _ := fun x hx' r hr1 hr2 => szProblem_ok (x := x) (left := r) hr1 (by omega) (by have : InR (.st (.pr (.int .i64) (.pr .str .str))) x := hx x hx'; have := this.2.1; exact Nat.le_trans this (by omega)) (by have : InR (.st (.pr (.int .i64) (.pr .str .str))) x := hx x hx'; have := this.2.2; exact Nat.le_trans this (by omega))
    have := loop_list (L := fun n i r => laws_szProblemS_l0 k n a r i fun left => some left) (I := fun pre r => r ≤ left ∧ 0 ≤ r) (G := G) a ?_ ?_ k (by have := KK_def; omega) (left - a.length) ⟨by omega, by omega⟩
    · rw [this]
      have key : ∀ (l : List Prob) (r : Int), (∀ x ∈ l, x ∈ a) → 0 ≤ r → r ≤ left → ∃ q, G l r = some q ∧ (q < 0 ∨ (0 ≤ q ∧ q ≤ left)) := by
        intro l
        induction l with
        | nil => exact fun r _ h2 h3 => ⟨r, rfl, .inr ⟨h2, h3⟩⟩
        | cons x l ih =>
          intro r hm h2 h3
          obtain ⟨q0, e1, e2⟩ := hsz x (hm x (by simp)) r h2 h3
          show ∃ q, (laws_szProblem x r).bind (fun q => if q < 0 then some (-1) else G l q) = some q ∧ _
          rw [e1]
          simp only [Option.bind_some]
          rcases e2 with e2 | ⟨e2, e3⟩
          · exact ⟨-1, by rw [if_pos e2], .inl (by omega)⟩
          · obtain ⟨q, q1, q2⟩ := ih q0 (fun y hy => hm y (by simp [hy])) e2 (by omega)
            exact ⟨q, by rw [if_neg (by omega)]; exact q1, q2⟩
      obtain ⟨q, q1, q2⟩ := key a (left - a.length) (fun _ h => h) (by omega) (by omega)
      exact ⟨q, q1, q2.imp id fun q3 => ⟨q3.1, q3.2, by omega⟩⟩
    · intro n pre x post r hax hr ih hg hlt
      have hw := w_succ (i := pre.length) (by omega)
      obtain ⟨q0, e1, e2⟩ := hsz x (by rw [hax]; simp) r hr.2 hr.1
      show _ = (laws_szProblem x r).bind (fun q => if q < 0 then some (-1) else G post q)
      simp only [laws_szProblemS_l0, hlt, hg, decide_true, if_true, Int.natCast_nonneg, Int.toNat_natCast, Option.bind_some, hw, e1]
      by_cases hq : q0 < 0
      · rw [decide_eq_true hq, if_pos rfl, if_pos hq]
      · rw [decide_eq_false hq, if_neg (by simp), if_neg hq]
        exact ih _ ⟨by omega, by omega⟩
    · intro n r hr
      simp [laws_szProblemS_l0, G]
theorem markProblemS_ok {k : Nat} (hk : KK ≤ k) {a : List Prob} {m : Int} (h0 : 0 ≤ m) (h1 : m ≤ 1000000000000) (ha : a.length ≤ 1000000000000) : ∃ q, laws_markProblemS_o k m a = some ((m + 3 * (a.length : Int), ()), (q, ()), ()) := by
  have mt : ∀ n : Int, n ≤ 4000000000000 → ∃ t, laws_markText k n = some t := fun n hn => markText_ok hk (by omega)
  have main : ∀ (d n j : Nat) (q : List Prob), a.length - j = d → d < n → j ≤ a.length → q.length = a.length → ∃ q', laws_markProblemS_o_l0 k n (m + 3 * (j : Int)) (j : Int) q (fun k_11 q_12 => some ((k_11, ()), (q_12, ()), ())) = some ((m + 3 * (a.length : Int), ()), (q', ()), ()) := by
    intro d
    induction d with
    | zero =>
      intro n j q hd hn hj hq
      obtain ⟨n, rfl⟩ : ∃ p, n = p + 1 := ⟨n - 1, by omega⟩
      have : ¬ (j : Int) < (q.length : Int) := by omega
      exact ⟨q, by simp only [laws_markProblemS_o_l0, this, decide_false, Bool.false_eq_true, if_false]; rw [show j = a.length by omega]⟩
    | succ d ih =>
      intro n j q hd hn hj hq
      obtain ⟨n, rfl⟩ : ∃ p, n = p + 1 := ⟨n - 1, by omega⟩
      have hl : j < q.length := by omega
      have hlt : (j : Int) < (q.length : Int) := by omega
      have hw := w_succ (i := j) (by omega)
      have e1 : w_i64 (m + 3 * (j : Int) + 1) = m + 3 * (j : Int) + 1 := w_id (by omega) (by omega)
      have e2 : w_i64 (m + 3 * (j : Int) + 1 + 1) = m + 3 * (j : Int) + 2 := by rw [w_id (by omega) (by omega)]; omega
      have e3 : w_i64 (m + 3 * (j : Int) + 2 + 1) = m + 3 * ((j + 1 : Nat) : Int) := by rw [w_id (by omega) (by omega)]; omega
      obtain ⟨t1, ht1⟩ := mt (m + 3 * (j : Int) + 1) (by omega)
      obtain ⟨t2, ht2⟩ := mt (m + 3 * (j : Int) + 2) (by omega)
      obtain ⟨q', hq'⟩ := ih n (j + 1) (q.set j (m + 3 * (j : Int), t1, t2)) (by omega) (by omega) (by omega) (by rw [List.length_set]; exact hq)
      refine ⟨q', ?_⟩
      simp only [laws_markProblemS_o_l0, hlt, decide_true, if_true, e1, e2, e3, ht1, ht2, Option.bind_some, Int.natCast_nonneg, Int.toNat_natCast, hl, and_self, List.getElem?_eq_getElem hl, List.length_set, List.getElem?_set_self, List.set_set, hw]
      exact hq'
  obtain ⟨q', hq'⟩ := main a.length k 0 a (by omega) (by have := KK_def; omega) (by omega) rfl
  refine ⟨q', ?_⟩
  unfold laws_markProblemS_o
  have e : m + 3 * ((0 : Nat) : Int) = m := by omega
  rw [e] at hq'
  exact hq'
theorem eqInt64S_ok {k : Nat} (hk : KK ≤ k) {a b : List Int} (ha : a.length < 4611686018427387904) : laws_eqInt64S k a b = some (decide (a = b)) := by
  unfold laws_eqInt64S
  by_cases hl : a.length = b.length
  · rw [if_neg (by simp [hl])]
    refine loop_eq (L := fun n i => laws_eqInt64S_l0 k n a b i (some true)) a b hl ?_ ?_ (n := k) (by have := KK_def; omega)
    · intro n i x y hx hy hlt
      have hw := w_succ (i := i) (by omega)
      by_cases e : x = y <;> simp [laws_eqInt64S_l0, hlt, hx, hy, hw, e]
    · intro n
      simp [laws_eqInt64S_l0]
  · have h2 : a ≠ b := fun e => hl (by rw [e])
    have h3 : ¬ (a.length : Int) = b.length := by omega
    simp [h3, h2]
theorem markInt64S_ok {k : Nat} (hk : KK ≤ k) {a : List Int} {m : Int} (h0 : 0 ≤ m) (h1 : m ≤ 1000000000000) (ha : a.length ≤ 1000000000000) :
    ∃ q, laws_markInt64S_o k m a = some ((m + a.length, ()), (q, ()), ()) ∧ laws_heldInt64S k q m = some (m + a.length) := by
  refine ⟨(List.range a.length).map fun i : Nat => m + (i : Int), ?_, ?_⟩
  · unfold laws_markInt64S_o
    have := loop_list (α := Nat) (A := List Int) (L := fun n i q => laws_markInt64S_o_l0 k n (m + i) i q fun k_5 q_6 => some ((k_5, ()), (q_6, ()), ()))
      (I := fun pre q => q.length = a.length ∧ q.take pre.length = (List.range pre.length).map fun i : Nat => m + (i : Int)) (G := fun _ _ => some ((m + a.length, ()), ((List.range a.length).map fun i : Nat => m + (i : Int), ()), ())) (List.range a.length) ?_ ?_ k (by have := KK_def; simp; omega) a ⟨rfl, by simp⟩
    · simpa using this
    · intro n pre x post q hx hq ih hg hlt
      rw [List.length_range] at hlt
      have hw := w_succ (i := pre.length) (by omega)
      have hl : pre.length < q.length := by omega
      have hm : w_i64 (m + (pre.length : Int) + 1) = m + ((pre.length + 1 : Nat) : Int) := by rw [w_id (by omega) (by omega)]; omega
      have hlt' : (pre.length : Int) < (q.length : Int) := by omega
      simp only [laws_markInt64S_o_l0, hlt', decide_true, if_true, Option.bind_some, Int.natCast_nonneg, Int.toNat_natCast, hl, and_self, List.getElem?_eq_getElem hl, hm, hw]
      refine ih _ ⟨by rw [List.length_set]; exact hq.1, ?_⟩
      rw [List.length_append, List.length_singleton, List.take_succ_eq_append_getElem (by simpa using hl), List.getElem_set_self, List.take_set_of_le (Nat.le_refl _), hq.2, List.range_succ]
      simp
    · intro n q hq
      have : ¬ ((List.range a.length).length : Int) < (q.length : Int) := by rw [hq.1]; simp
      have h2 := hq.2
      rw [List.length_range, ← hq.1, List.take_length, hq.1] at h2
      simp only [laws_markInt64S_o_l0, this, decide_false, Bool.false_eq_true, if_false]
      simp [h2]
  · unfold laws_heldInt64S
    have := loop_list (α := Int) (A := Unit) (L := fun n i _ => laws_heldInt64S_l0 k n ((List.range a.length).map fun i : Nat => m + (i : Int)) (m + i) i fun k_3 => some k_3) (I := fun _ _ => True) (G := fun _ _ => some (m + a.length)) ((List.range a.length).map fun i : Nat => m + (i : Int)) ?_ ?_ k (by have := KK_def; simp; omega) () trivial
    · simpa using this
    · intro n pre x post _ hx _ ih hg hlt
      rw [List.length_map, List.length_range] at hlt
      have hw := w_succ (i := pre.length) (by omega)
      have hm : w_i64 (m + (pre.length : Int) + 1) = m + ((pre.length + 1 : Nat) : Int) := by rw [w_id (by omega) (by omega)]; omega
      have hxT : x = m + (pre.length : Int) := by
        rw [List.getElem?_map, List.getElem?_range (by omega)] at hg
        simpa using hg.symm
      have hlt' : (pre.length : Int) < (((List.range a.length).map fun i : Nat => m + (i : Int)).length : Int) := by simp; omega
      simp only [laws_heldInt64S_l0, hlt', decide_true, if_true, Int.natCast_nonneg, Int.toNat_natCast, hg, Option.bind_some, hxT, Bool.not_true, Bool.false_eq_true, if_false, hm, hw]
      exact ih () trivial
    · intro n _ _
      simp [laws_heldInt64S_l0]
theorem within_ok (n a b : Int) : impl_within n a b = some (decide (a ≤ n ∧ n ≤ b)) := by
  unfold impl_within
  by_cases h : a ≤ n <;> simp [h]
theorem l00In_ok (n a b : Int) : spec_l00In n a b = some (decide (a ≤ n ∧ n ≤ b)) := by
  unfold spec_l00In
  by_cases h : a ≤ n <;> simp [h]
def kok (p : Prob) : Bool := decide (1 ≤ p.1 ∧ p.1 ≤ 5)
def cN (l : List Prob) (i : Nat) : Int := ((if i = 0 then l.countP kok else l.countP (fun p => decide (p.1 = (i : Int))) : Nat) : Int)
def cntL (l : List Prob) : List Int := (List.range 6).map (cN l)
theorem kind_ok (p : Prob) : spec_l31Kind p.1 = some (kok p) := by unfold spec_l31Kind kok; rw [l00In_ok]; rfl
theorem isProblem_ok (p : Prob) : impl_isProblem p.1 = some (kok p) := by unfold impl_isProblem kok; rw [within_ok]; rfl
theorem del_ok (p : Prob) : impl_CountProblems_1 p = some (!kok p) := by unfold impl_CountProblems_1; rw [isProblem_ok]; rfl
theorem six_eq {q : List Int} {f : Nat → Int} (hq : q.length = 6) (h : ∀ i, i < 6 → q[i]? = some (f i)) : q = (List.range 6).map f := by
  apply List.ext_getElem?
  intro i
  by_cases hi : i < 6
  · rw [h i hi, List.getElem?_map, List.getElem?_range hi]; rfl
  · rw [List.getElem?_eq_none (by omega), List.getElem?_eq_none (by simp; omega)]
theorem specCount_ok {k : Nat} (hk : KK ≤ k) {a : List Prob} (ha : a.length ≤ 1048576) : spec_CountProblems k a = some (cntL a) := by
  have hK := KK_def
  have hL := LIM_def
  unfold spec_CountProblems
  rw [if_pos (by omega)]
  have := loop_list (L := fun n i q => spec_CountProblems_l0 k n a i q (fun q_11 => some q_11)) (I := fun pre q => q.length = 6 ∧ ∀ i, i < 6 → q[i]? = some (cN pre i)) (G := fun _ _ => some (cntL a)) a ?_ ?_ k (by omega) (List.replicate 6 0) ⟨by simp, fun i hi => by
    rw [List.getElem?_replicate, if_pos hi]
    unfold cN
    split <;> rfl⟩
  · exact this
  · intro n pre x post q hx hq ih hg hlt
    have hw := w_succ (i := pre.length) (by omega)
    have hplen : pre.length ≤ a.length := by omega
    simp only [spec_CountProblems_l0, hlt, decide_true, if_true, Int.natCast_nonneg, Int.toNat_natCast, hg, Option.bind_some, hw, kind_ok]
    have hcle : ∀ i, cN pre i ≤ 1048576 := by
      intro i
      unfold cN
      split
      · have := List.countP_le_length (p := kok) (l := pre); omega
      · have := List.countP_le_length (p := fun p : Prob => decide (p.1 = (i : Int))) (l := pre); omega
    have hc0 : ∀ i, 0 ≤ cN pre i := fun i => Int.natCast_nonneg _
    cases hkx : kok x with
    | false =>
      simp only [Bool.false_eq_true, if_false]
      refine ih _ ⟨hq.1, fun i hi => ?_⟩
      rw [hq.2 i hi]
      unfold cN
      by_cases h0 : i = 0
      · simp [h0, List.countP_append, hkx]
      · have : ¬ x.1 = (i : Int) := by
          intro e
          have : kok x = true := by unfold kok; simp only [decide_eq_true_eq]; omega
          rw [hkx] at this; cases this
        simp [h0, List.countP_append, this]
    | true =>
      have hr : 1 ≤ x.1 ∧ x.1 ≤ 5 := by unfold kok at hkx; simpa using hkx
      obtain ⟨j, hj⟩ := Int.eq_ofNat_of_zero_le (show 0 ≤ x.1 by omega)
      have hj1 : 1 ≤ j ∧ j < 6 := by omega
      have hgj := hq.2 j hj1.2
      have hjl : j < q.length := by omega
      have hg0 : (q.set j (w_i64 (cN pre j + 1)))[0]? = some (cN pre 0) := by rw [List.getElem?_set_ne (by omega)]; exact hq.2 0 (by omega)
      have hwj : w_i64 (cN pre j + 1) = cN pre j + 1 := by have := hcle j; have := hc0 j; exact w_id (by omega) (by omega)
      have hw0 : w_i64 (cN pre 0 + 1) = cN pre 0 + 1 := by have := hcle 0; have := hc0 0; exact w_id (by omega) (by omega)
      have hl0 : 0 < (q.set j (w_i64 (cN pre j + 1))).length := by rw [List.length_set]; omega
      simp only [if_true, hj, Int.natCast_nonneg, Int.toNat_natCast, hjl, and_self, hgj, Option.bind_some, hl0, hg0, Int.le_refl]
      rw [hwj, hw0]
      refine ih _ ⟨by simp [hq.1], fun i hi => ?_⟩
      have hkk : ∀ i : Nat, (decide (x.1 = (i : Int))) = decide (j = i) := fun i => decide_eq_decide.2 (by omega)
      by_cases h0 : i = 0
      · subst h0
        rw [List.getElem?_set_self (by rw [List.length_set]; omega)]
        simp [cN, List.countP_append, hkx]
      · rw [List.getElem?_set_ne (by omega)]
        by_cases hij : j = i
        · subst hij
          rw [List.getElem?_set_self hjl]
          simp [cN, List.countP_append, h0, hj]
        · rw [List.getElem?_set_ne hij, hq.2 i hi]
          have : ¬ x.1 = (i : Int) := by omega
          simp [cN, List.countP_append, h0, this]
  · intro n q hq
    simp only [spec_CountProblems_l0, Int.lt_irrefl, decide_false, Bool.false_eq_true, if_false]
    rw [six_eq hq.1 hq.2]; rfl
theorem delIdx_ok {k : Nat} (hk : KK ≤ k) {a : List Prob} (ha : a.length ≤ 1048576) : slices_IndexFunc_impl_Problem__impl_CountProblems_1 k a () = some (idxP (fun p => !kok p) a) := by
  have hK := KK_def
  unfold slices_IndexFunc_impl_Problem__impl_CountProblems_1
  refine loop_find (L := fun n i => slices_IndexFunc_impl_Problem__impl_CountProblems_1_l0 k n a () (a.length : Int) i (some (-1))) a ?_ ?_ (n := k) (by omega)
  · intro n i x hi hlt
    have hw := w_succ (i := i) (by omega)
    simp only [slices_IndexFunc_impl_Problem__impl_CountProblems_1_l0, hlt, decide_true, if_true, Int.natCast_nonneg, Int.toNat_natCast, hi, Option.bind_some, hw, del_ok]
  · intro n
    simp [slices_IndexFunc_impl_Problem__impl_CountProblems_1_l0]
theorem delLoop {k : Nat} {a : List Prob} (ha : a.length ≤ 1048576) {R : Type} {e : Int → List Prob → Option ((Unit × Unit) × (List Prob × Unit) × Unit)} : ∀ (d n i j : Nat) (q : List Prob), a.length - j = d → d < n → i ≤ j → j ≤ a.length → q.length = a.length → q.take i = (a.take j).filter kok → q.drop j = a.drop j →
    ∃ (i' : Nat) (q' : List Prob), slices_DeleteFunc_impl_Problem_g__impl_CountProblems_1_l0 k n (i : Int) (j : Int) q e = e (i' : Int) q' ∧ q'.length = a.length ∧ i' ≤ a.length ∧ q'.take i' = a.filter kok := by
  intro d
  induction d with
  | zero =>
    intro n i j q hd hn hij hj hq h1 h2
    obtain ⟨n, rfl⟩ : ∃ p, n = p + 1 := ⟨n - 1, by omega⟩
    have : ¬ (j : Int) < (q.length : Int) := by omega
    refine ⟨i, q, by simp only [slices_DeleteFunc_impl_Problem_g__impl_CountProblems_1_l0, this, decide_false, Bool.false_eq_true, if_false], hq, by omega, ?_⟩
    rw [h1, List.take_of_length_le (by omega)]
  | succ d ih =>
    intro n i j q hd hn hij hj hq h1 h2
    obtain ⟨n, rfl⟩ : ∃ p, n = p + 1 := ⟨n - 1, by omega⟩
    have hjl : j < q.length := by omega
    have hja : j < a.length := by omega
    have hlt : (j : Int) < (q.length : Int) := by omega
    have hwj := w_succ (i := j) (by omega)
    have hwi := w_succ (i := i) (by omega)
    have hil : i < q.length := by omega
    have hqj : q[j]? = some a[j] := by
      have := congrArg (fun l => l[0]?) h2
      simp only [List.getElem?_drop, Nat.add_zero] at this
      rw [this, List.getElem?_eq_getElem hja]
    have htk : a.take (j + 1) = a.take j ++ [a[j]] := by rw [List.take_succ_eq_append_getElem hja]
    have hdr : q.drop (j + 1) = a.drop (j + 1) := by
      have := congrArg (List.drop 1) h2
      rw [List.drop_drop, List.drop_drop] at this
      exact this
    simp only [slices_DeleteFunc_impl_Problem_g__impl_CountProblems_1_l0, hlt, decide_true, if_true, Int.natCast_nonneg, Int.toNat_natCast, hjl, hil, and_self, hqj, List.getElem?_eq_getElem hil, Option.bind_some, hwj, hwi, del_ok]
    cases hk : kok a[j] with
    | false =>
      simp only [Bool.not_false, Bool.not_true, Bool.false_eq_true, if_false]
      exact ih n i (j + 1) q (by omega) (by omega) (by omega) (by omega) hq (by rw [h1, htk, List.filter_append]; simp [hk]) hdr
    | true =>
      simp only [Bool.not_true, Bool.not_false, if_true]
      refine ih n (i + 1) (j + 1) (q.set i a[j]) (by omega) (by omega) (by omega) (by omega) (by rw [List.length_set]; exact hq) ?_ ?_
      · rw [List.take_succ_eq_append_getElem (by rw [List.length_set]; exact hil), List.getElem_set_self, List.take_set_of_le (Nat.le_refl _), h1, htk, List.filter_append]
        simp [hk]
      · rw [List.drop_set_of_lt (by omega)]; exact hdr
theorem overL_take {α : Type} {q : List α} {i : Nat} {ys : List α} (h : i ≤ q.length) : (overL q i ys).take i = q.take i := by
  unfold overL
  rw [List.append_assoc, List.take_left' (by rw [List.length_take]; omega)]
theorem overL_length {α : Type} {q : List α} {i : Nat} {z : α} (h : i ≤ q.length) : (overL q i (List.replicate (q.length - i) z)).length = q.length := by
  unfold overL; simp; omega
theorem delete_ok {k : Nat} (hk : KK ≤ k) {a : List Prob} (ha : a.length ≤ 1048576) : slices_DeleteFunc_impl_Problem_g__impl_CountProblems_1 k a = some (((), ()), (a.filter kok, ()), ()) := by
  have hK := KK_def
  unfold slices_DeleteFunc_impl_Problem_g__impl_CountProblems_1
  rw [delIdx_ok hk ha, Option.bind_some]
  cases hf : a.findIdx? (fun p => !kok p) with
  | none =>
    have hi : idxP (fun p => !kok p) a = -1 := by unfold idxP; rw [hf]
    rw [hi, decide_eq_true rfl, if_pos rfl]
    rw [List.findIdx?_eq_none_iff] at hf
    have : a.filter kok = a := List.filter_eq_self.2 fun p hp => by have := hf p hp; simpa using this
    rw [this]
  | some r =>
    have hi : idxP (fun p => !kok p) a = (r : Int) := by unfold idxP; rw [hf]
    obtain ⟨hlt, hp, hall⟩ := List.findIdx?_eq_some_iff_getElem.1 hf
    rw [hi, decide_eq_false (by omega), if_neg (by simp), w_succ (i := r) (by omega)]
    have hkr : kok a[r] = false := by simpa using hp
    have hpre : (a.take r).filter kok = a.take r := List.filter_eq_self.2 fun p hp => by
      obtain ⟨i, hi⟩ := List.getElem?_of_mem hp
      have hir : i < r := by have := (List.getElem?_eq_some_iff.1 hi).1; rw [List.length_take] at this; omega
      rw [List.getElem?_take_of_lt hir, List.getElem?_eq_getElem (by omega)] at hi
      cases hi
      have := hall i hir
      simpa using this
    obtain ⟨i', q', h1, h2, h3, h4⟩ := delLoop (k := k) (R := Unit) ha (e := fun i_9 q_10 => (if 0 ≤ i_9 ∧ i_9 ≤ (q_10.length : Int) ∧ (q_10.length : Int) ≤ q_10.length then (if 0 ≤ (0 : Int) ∧ (0 : Int) ≤ i_9 ∧ i_9 ≤ (overL q_10 i_9.toNat (List.replicate (q_10.length - i_9.toNat) (0, ([], [])))).length then some (((), ()), (((overL q_10 i_9.toNat (List.replicate (q_10.length - i_9.toNat) (0, ([], [])))).take i_9.toNat), ()), ()) else none) else none)) (a.length - (r + 1)) k r (r + 1) a rfl (by omega) (by omega) (by omega) rfl (by rw [List.take_succ_eq_append_getElem hlt, List.filter_append, hpre]; simp [hkr]) rfl
    rw [h1]
    simp only [Int.toNat_natCast]
    rw [if_pos ⟨by omega, by omega, by omega⟩, if_pos ⟨by omega, by omega, by rw [overL_length (by omega)]; omega⟩, overL_take (by omega), h4]
theorem clone_ok {a : List Prob} (ha : a.length ≤ 1048576) : slices_Clone_impl_Problem a = some a := by
  have hL := LIM_def
  unfold slices_Clone_impl_Problem
  have h : (([] : List Unit).length + a.length) * 40 ≤ LIM := by simp only [List.length_nil]; omega
  rw [if_pos h]
  cases a with
  | nil => simp [both]
  | cons x l => simp
theorem implCount_ok {k : Nat} (hk : KK ≤ k) {a : List Prob} (ha : a.length ≤ 1048576) : impl_CountProblems k a = some (cntL a) := by
  have hK := KK_def
  have hL := LIM_def
  unfold impl_CountProblems
  rw [clone_ok ha, Option.bind_some, delete_ok hk ha, Option.bind_some, if_pos (by omega)]
  have hfl : (a.filter kok).length = a.countP kok := (List.countP_eq_length_filter ..).symm
  have hfle : (a.filter kok).length ≤ a.length := List.length_filter_le _ _
  simp only [impl_size_impl_Problem, Option.bind_some]
  rw [if_pos (by simp)]
  simp only [List.getElem?_replicate, Nat.zero_lt_succ, if_true, Option.bind_some]
  have := loop_list (L := fun n i q => impl_CountProblems_l0 k n ((a.filter kok).length : Int) i q (a.filter kok) (fun q_12 => some q_12)) (I := fun pre q => q.length = 6 ∧ ∀ i : Nat, i < 6 → q[i]? = some (if i = 0 then ((a.filter kok).length : Int) else ((pre.countP (fun p => decide (p.1 = (i : Int))) : Nat) : Int))) (G := fun _ _ => some (cntL a)) (a.filter kok) ?_ ?_ k (by omega) ((List.replicate 6 0).set 0 ((a.filter kok).length : Int)) ⟨by simp, fun i hi => by
    by_cases h0 : i = 0
    · subst h0; simp
    · rw [List.getElem?_set_ne (by omega), List.getElem?_replicate, if_pos hi, if_neg h0]; rfl⟩
  · exact this
  · intro n pre x post q hx hq ih hg hlt
    have hw := w_succ (i := pre.length) (by omega)
    have hmem : kok x = true := (List.mem_filter.1 (List.mem_of_getElem? hg)).2
    have hr : 1 ≤ x.1 ∧ x.1 ≤ 5 := by unfold kok at hmem; simpa using hmem
    obtain ⟨j, hj⟩ := Int.eq_ofNat_of_zero_le (show 0 ≤ x.1 by omega)
    have hj1 : 1 ≤ j ∧ j < 6 := by omega
    have hgj := hq.2 j hj1.2
    rw [if_neg (by omega)] at hgj
    have hjl : j < q.length := by omega
    have hpl : pre.length < (a.filter kok).length := by omega
    have hcl := List.countP_le_length (p := fun p : Prob => decide (p.1 = (j : Int))) (l := pre)
    have hwj : w_i64 (((pre.countP (fun p => decide (p.1 = (j : Int))) : Nat) : Int) + 1) = ((pre.countP (fun p => decide (p.1 = (j : Int))) : Nat) : Int) + 1 := w_id (by omega) (by omega)
    simp only [impl_CountProblems_l0, hlt, hpl, decide_true, if_true, Int.natCast_nonneg, Int.toNat_natCast, hg, Option.bind_some, hw, hj, hjl, and_self, hgj, hwj]
    refine ih _ ⟨by simp [hq.1], fun i hi => ?_⟩
    by_cases h0 : i = 0
    · subst h0
      rw [List.getElem?_set_ne (by omega), hq.2 0 (by omega)]; simp
    · rw [if_neg h0]
      by_cases hij : j = i
      · subst hij
        rw [List.getElem?_set_self hjl]
        simp [List.countP_append, hj]
      · rw [List.getElem?_set_ne hij, hq.2 i hi, if_neg h0]
        have : ¬ x.1 = (i : Int) := by omega
        simp [List.countP_append, this]
  · intro n q hq
    simp only [impl_CountProblems_l0, Int.lt_irrefl, decide_false, Bool.false_eq_true, if_false]
    rw [six_eq hq.1 hq.2]
    unfold cntL
    congr 1
    apply List.map_congr_left
    intro i _
    unfold cN
    by_cases h0 : i = 0
    · simp [h0, hfl]
    · simp only [h0, if_false]
      congr 1
      rw [List.countP_filter]
      apply List.countP_congr
      intro p _
      simp only [Bool.and_eq_true, decide_eq_true_eq, and_iff_left_iff_imp]
      intro hp
      unfold kok
      have hi6 : i < 6 := by simpa using ‹i ∈ List.range 6›
      simp only [decide_eq_true_eq]; omega
theorem pure_FnExactCountProblems {e : TypeId} (a0 : List (Int × List UInt8 × List UInt8)) (f0 : InR (.sl e (.st (.pr (.int .i64) (.pr .str .str)))) a0) : ∃ k : Nat, laws_FnExactCountProblems k a0 = some true := by
  have hk := Nat.le_refl KK
  refine ⟨KK, ?_⟩
  obtain ⟨r, hr, h⟩ := szProblemS_ok hk (a := a0) (left := 1048576) (by omega) (by omega) f0
  unfold laws_FnExactCountProblems
  rw [hr]; simp only [Option.bind_some]
  rcases h with h | ⟨h1, h2, h3⟩
  · rw [decide_eq_true h, if_pos rfl]
  · rw [decide_eq_false (by omega), if_neg (by simp)]
    have hl : (cntL a0).length = 6 := by simp [cntL]
    obtain ⟨q, q1⟩ := markProblemS_ok hk (a := a0) (m := 1) (by omega) (by omega) (by omega)
    obtain ⟨q', q1', q2'⟩ := markInt64S_ok hk (a := cntL a0) (m := 1) (by omega) (by omega) (by omega)
    have hn : ¬ (1 + 3 * (a0.length : Int) < 0) := by omega
    have hn' : ¬ (1 + ((cntL a0).length : Int) < 0) := by omega
    simp only [toProblemS_ok hk h3, Option.bind_some, specCount_ok hk h3, implCount_ok hk h3, eqInt64S_ok hk (show (cntL a0).length < 4611686018427387904 by omega), eqProblemS_ok hk (show a0.length < 4611686018427387904 by omega), decide_true, Bool.not_true, Bool.false_eq_true, if_false, q1, q1', q2', hn, hn', decide_false]
end Go.Proofs.Ytkopnopjbaejjaa.Ev
