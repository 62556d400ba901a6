/- Plain laws of the printed functions. No conditions but those in each statement. -/
import Derived.Test.YtackggcodaolaaaDoorEv5
import Derived.Test.YtackggcodaolaaaDoorG5
set_option linter.unusedVariables false
set_option linter.unusedSimpArgs false
namespace Go.Proofs.YtackggcodaolaaaDoor.Ev
open Go.RowKit
theorem within_ok (n a b : Int) : impl_within n a b = some (decide (a ≤ n ∧ n ≤ b)) := by
  unfold impl_within
  by_cases h : a ≤ n <;> simp [h]
theorem l00In_ok (n a b : Int) : spec_l00In n a b = some (decide (a ≤ n ∧ n ≤ b)) := by
  unfold spec_l00In
  by_cases h : a ≤ n <;> simp [h]
theorem cmpOr2_ok {k : Nat} (hk : KK ≤ k) (a b : Int) : cmp_Or_int k [a, b] = some (if a = 0 then b else a) := by
  have hK := KK_def
  obtain ⟨m, rfl⟩ : ∃ m, k = m + 3 := ⟨k - 3, by omega⟩
  generalize hf : m + 3 = k
  have hw0 : w_i64 1 = 1 := w_id (by omega) (by omega)
  have hw1 : w_i64 2 = 2 := w_id (by omega) (by omega)
  show cmp_Or_int_l0 k k 0 [a, b] 2 0 (fun zero_2 => some zero_2) = _
  conv => lhs; arg 2; rw [← hf]
  by_cases h : a = 0
  · by_cases h' : b = 0
    · subst h; subst h'; simp [cmp_Or_int_l0, hw0, hw1]
    · subst h; simp [cmp_Or_int_l0, hw0, hw1, h']
  · simp [cmp_Or_int_l0, h]
abbrev Edg := Int × Int × Int
abbrev Gr := Int × List Edg
def edgeOk (N : Int) (e : Edg) : Bool := decide (0 ≤ e.1) && (decide (e.1 < e.2.1) && (decide (e.2.1 < N) && decide (1 ≤ e.2.2 ∧ e.2.2 ≤ 9)))
def edgeLt (a b : Edg) : Bool := decide (a.1 < b.1 ∨ (a.1 = b.1 ∧ a.2.1 < b.2.1))
def edgePrev (l : List Edg) (i : Nat) (e : Edg) : Bool := if 0 < i then (match l[i - 1]? with | some z => edgeLt z e | none => false) else true
def edgeAt (g : Gr) (i : Nat) : Bool := match g.2[i]? with | some e => edgeOk g.1 e && edgePrev g.2 i e | none => false
def graphB (g : Gr) : Bool := decide (1 ≤ g.1 ∧ g.1 ≤ 12) && ((List.range g.2.length).all (edgeAt g) && decide (g.2.length ≤ 24))
def cI (x y : Int) : Int := if x < y then -1 else if y < x then 1 else 0
theorem compareInt_ok (x y : Int) : cmp_Compare_int64 x y = some (cI x y) := by
  unfold cmp_Compare_int64 cmp_isNaN_int64 cI
  by_cases h1 : x < y
  · simp [h1]
  · by_cases h2 : y < x <;> simp [h1, h2]
theorem compareEdges_ok {k : Nat} (hk : KK ≤ k) (a b : Edg) : impl_compareEdges k a b = some (if cI a.1 b.1 = 0 then cI a.2.1 b.2.1 else cI a.1 b.1) := by
  unfold impl_compareEdges
  simp only [compareInt_ok, Option.bind_some, cmpOr2_ok hk]
theorem cmp_edgeLt (a b : Edg) : decide (0 ≤ (if cI a.1 b.1 = 0 then cI a.2.1 b.2.1 else cI a.1 b.1)) = !edgeLt a b := by
  unfold edgeLt cI
  rw [← decide_not]
  refine decide_eq_decide.2 ?_
  by_cases h1 : a.1 < b.1
  · simp [h1]
  · by_cases h2 : b.1 < a.1
    · have : ¬ a.1 = b.1 := by omega
      simp [h1, h2, this]
    · have e : a.1 = b.1 := by omega
      by_cases h3 : a.2.1 < b.2.1
      · simp [e, h3]
      · by_cases h4 : b.2.1 < a.2.1 <;> simp [e, h3, h4]
theorem specGraph_ok {k : Nat} (hk : KK ≤ k) {g : Gr} (hL : g.2.length ≤ 1048576) : spec_l16Ok k g = some (graphB g) := by
  have hK := KK_def
  unfold spec_l16Ok graphB
  rw [l00In_ok]
  by_cases hN : 1 ≤ g.1 ∧ g.1 ≤ 12
  · rw [decide_eq_true hN]
    simp only [Option.bind_some, Bool.not_true, Bool.false_eq_true, if_false, Bool.true_and]
    have := loop_allN (L := fun n i => spec_l16Ok_l0 k n g i (fun g_9 => some (decide ((List.length g_9.2 : Int) ≤ 24)))) (b := g.2.length) (p := edgeAt g) (r := some false) (e := some (decide (g.2.length ≤ 24))) ?_ ?_ (n := k) (by omega)
    · refine Eq.trans this ?_
      cases (List.range g.2.length).all (edgeAt g) <;> simp
    · intro n i hi
      have hlt : (i : Int) < (g.2.length : Int) := by omega
      have hw := w_succ (i := i) (by omega)
      have hg : g.2[i]? = some g.2[i] := List.getElem?_eq_getElem hi
      simp only [spec_l16Ok_l0, hlt, decide_true, if_true, Int.natCast_nonneg, Int.toNat_natCast, hg, Option.bind_some, hw, l00In_ok, edgeAt, edgePrev, edgeOk]
      generalize g.2[i] = e
      have w1 : w_i64 (g.1 - 1) = g.1 - 1 := w_id (by omega) (by omega)
      rw [w1]
      by_cases c1 : 0 ≤ e.2.1 ∧ e.2.1 ≤ g.1 - 1
      · have w2 : w_i64 (e.2.1 - 1) = e.2.1 - 1 := w_id (by omega) (by omega)
        have c1' : e.2.1 < g.1 := by omega
        rw [w2, decide_eq_true c1, decide_eq_true c1']
        by_cases c2 : 0 ≤ e.1 ∧ e.1 ≤ e.2.1 - 1
        · have d1 : 0 ≤ e.1 := c2.1
          have d2 : e.1 < e.2.1 := by omega
          rw [decide_eq_true c2, decide_eq_true d1, decide_eq_true d2]
          by_cases c3 : 1 ≤ e.2.2 ∧ e.2.2 ≤ 9
          · rw [decide_eq_true c3]
            by_cases h0 : 0 < i
            · have hw1 : w_i64 ((i : Int) - 1) = ((i - 1 : Nat) : Int) := by rw [w_id (by omega) (by omega)]; omega
              have hg1 : g.2[i - 1]? = some g.2[i - 1] := List.getElem?_eq_getElem (by omega)
              have h0' : (0 : Int) < (i : Int) := by omega
              simp only [hw1, Int.natCast_nonneg, Int.toNat_natCast, hg1, h0, h0', decide_true, if_true, Option.bind_some]
              generalize g.2[i - 1] = z
              unfold edgeLt
              by_cases z1 : e.1 < z.1
              · have : ¬ (z.1 < e.1 ∨ (z.1 = e.1 ∧ z.2.1 < e.2.1)) := by omega
                simp [z1, this]
              · by_cases z2 : z.1 = e.1
                · by_cases z3 : e.2.1 ≤ z.2.1
                  · have : ¬ (z.1 < e.1 ∨ (z.1 = e.1 ∧ z.2.1 < e.2.1)) := by omega
                    simp [z1, z2, z3, this]
                    omega
                  · have : (z.1 < e.1 ∨ (z.1 = e.1 ∧ z.2.1 < e.2.1)) := by omega
                    rw [decide_eq_true this]
                    simp [z1, z2, z3]
                · have : (z.1 < e.1 ∨ (z.1 = e.1 ∧ z.2.1 < e.2.1)) := by omega
                  rw [decide_eq_true this]
                  simp [z1, z2]
            · have h0' : ¬ (0 : Int) < (i : Int) := by omega
              simp [h0, h0']
          · simp [c3]
        · have : ¬ (0 ≤ e.1 ∧ e.1 < e.2.1) := by omega
          rw [decide_eq_false c2]
          by_cases d1 : 0 ≤ e.1
          · have d2 : ¬ e.1 < e.2.1 := by omega
            simp [d1, d2]
          · simp [d1]
      · rw [decide_eq_false c1]
        by_cases d1 : 0 ≤ e.1
        · by_cases d2 : e.1 < e.2.1
          · have d3 : ¬ e.2.1 < g.1 := by omega
            simp [d1, d2, d3]
          · simp [d1, d2]
        · simp [d1]
    · intro n
      have e2 : decide ((g.2.length : Int) ≤ 24) = decide (g.2.length ≤ 24) := decide_eq_decide.2 (by omega)
      simp only [spec_l16Ok_l0, Int.lt_irrefl, decide_false, Bool.false_eq_true, if_false, e2]
  · rw [decide_eq_false hN]; simp
theorem implGraph_ok {k : Nat} (hk : KK ≤ k) {g : Gr} (hL : g.2.length ≤ 1048576) : impl_ValidGraph k g = some (graphB g) := by
  have hK := KK_def
  unfold impl_ValidGraph graphB
  have := loop_allN (L := fun n i => impl_ValidGraph_l0 k n g.2 (g.2.length : Int) i g (fun v_5 => (impl_within v_5.1 1 12).bind fun r_6 => (if r_6 = true then some (decide ((List.length v_5.2 : Int) ≤ 24)) else some false))) (b := g.2.length) (p := edgeAt g) (r := some false) (e := some (decide (1 ≤ g.1 ∧ g.1 ≤ 12) && decide (g.2.length ≤ 24))) ?_ ?_ (n := k) (by omega)
  · refine Eq.trans this ?_
    cases (List.range g.2.length).all (edgeAt g) <;> simp
  · intro n i hi
    have hlt : (i : Int) < (g.2.length : Int) := by omega
    have hw := w_succ (i := i) (by omega)
    have hg : g.2[i]? = some g.2[i] := List.getElem?_eq_getElem hi
    simp only [impl_ValidGraph_l0, hlt, decide_true, if_true, Int.natCast_nonneg, Int.toNat_natCast, hg, Option.bind_some, hw, within_ok, edgeAt, edgePrev, edgeOk]
    generalize g.2[i] = e
    by_cases d1 : 0 ≤ e.1
    · have d1' : ¬ e.1 < 0 := by omega
      by_cases d2 : e.1 < e.2.1
      · have d2' : ¬ e.2.1 ≤ e.1 := by omega
        by_cases d3 : e.2.1 < g.1
        · have d3' : ¬ g.1 ≤ e.2.1 := by omega
          by_cases c3 : 1 ≤ e.2.2 ∧ e.2.2 ≤ 9
          · by_cases h0 : 0 < i
            · have hw1 : w_i64 ((i : Int) - 1) = ((i - 1 : Nat) : Int) := by rw [w_id (by omega) (by omega)]; omega
              have hg1 : g.2[i - 1]? = some g.2[i - 1] := List.getElem?_eq_getElem (by omega)
              have h0' : (0 : Int) < (i : Int) := by omega
              simp only [d1, d1', d2, d2', d3, d3', c3, decide_true, decide_false, Bool.false_eq_true, if_false, Bool.not_true, and_self, hw1, Int.natCast_nonneg, Int.toNat_natCast, hg1, h0, h0', if_true, Option.bind_some, compareEdges_ok hk, cmp_edgeLt, Bool.true_and]
              cases edgeLt g.2[i - 1] e <;> simp
            · have h0' : ¬ (0 : Int) < (i : Int) := by omega
              simp [d1, d1', d2, d2', d3, d3', c3, h0, h0']
          · simp [d1, d1', d2, d2', d3, d3', c3]
        · have d3' : g.1 ≤ e.2.1 := by omega
          simp [d1, d1', d2, d2', d3, d3']
      · have d2' : e.2.1 ≤ e.1 := by omega
        simp [d1, d1', d2, d2']
    · have d1' : e.1 < 0 := by omega
      simp [d1, d1']
  · intro n
    have e2 : decide ((g.2.length : Int) ≤ 24) = decide (g.2.length ≤ 24) := decide_eq_decide.2 (by omega)
    simp only [impl_ValidGraph_l0, Int.lt_irrefl, decide_false, Bool.false_eq_true, if_false, within_ok, Option.bind_some, e2]
    cases decide (1 ≤ g.1 ∧ g.1 ≤ 12) <;> simp
def g2 (q : List (List Int)) (i j : Nat) : Int := (q.getD i []).getD j 0
def s2 (q : List (List Int)) (i j : Nat) (v : Int) : List (List Int) := q.set i ((q.getD i []).set j v)
theorem s2_fold (q : List (List Int)) (i j : Nat) (v : Int) : q.set i ((q.getD i []).set j v) = s2 q i j v := rfl
def shapeR (N : Nat) (q : List (List Int)) : Prop := q.length = N ∧ ∀ r ∈ q, r.length = N
theorem row_at {N : Nat} {q : List (List Int)} (h : shapeR N q) {i : Nat} (hi : i < N) : q[i]? = some (q.getD i []) ∧ (q.getD i []).length = N ∧ i < q.length := by
  have hl : i < q.length := by rw [h.1]; exact hi
  have e : q.getD i [] = q[i] := by rw [List.getD_eq_getElem?_getD, List.getElem?_eq_getElem hl]; rfl
  exact ⟨by rw [e]; exact List.getElem?_eq_getElem hl, by rw [e]; exact h.2 _ (List.getElem_mem hl), hl⟩
theorem cell_at {N : Nat} {q : List (List Int)} (h : shapeR N q) {i j : Nat} (hi : i < N) (hj : j < N) : (q.getD i [])[j]? = some (g2 q i j) := by
  have hl : j < (q.getD i []).length := by rw [(row_at h hi).2.1]; exact hj
  unfold g2
  rw [List.getD_eq_getElem?_getD (l := q.getD i []), List.getElem?_eq_getElem hl]; rfl
theorem s2_shape {N : Nat} {q : List (List Int)} (h : shapeR N q) {i : Nat} (hi : i < N) (j : Nat) (v : Int) : shapeR N (s2 q i j v) := by
  unfold s2
  refine ⟨by rw [List.length_set]; exact h.1, fun r hr => ?_⟩
  rcases List.mem_or_eq_of_mem_set hr with hr | rfl
  · exact h.2 r hr
  · rw [List.length_set]; exact (row_at h hi).2.1
theorem g2_s2 {N : Nat} {q : List (List Int)} (h : shapeR N q) {i j : Nat} (hi : i < N) (hj : j < N) (v : Int) (a b : Nat) : g2 (s2 q i j v) a b = if a = i ∧ b = j then v else g2 q a b := by
  unfold g2 s2
  rw [List.getD_eq_getElem?_getD (l := q.set i _), List.getElem?_set]
  by_cases e : i = a
  · subst e
    rw [if_pos rfl, if_pos (by rw [h.1]; exact hi)]
    simp only [Option.getD_some, true_and]
    rw [List.getD_eq_getElem?_getD (l := (q.getD i []).set j v), List.getElem?_set]
    by_cases e2 : j = b
    · subst e2
      rw [if_pos rfl, if_pos (by rw [(row_at h hi).2.1]; exact hj), if_pos rfl]; rfl
    · rw [if_neg e2, if_neg (fun h => e2 h.symm), ← List.getD_eq_getElem?_getD]
  · rw [if_neg e, if_neg (fun h => e h.1.symm), ← List.getD_eq_getElem?_getD]
def updE (q : List (List Int)) (e : Edg) : List (List Int) :=
  s2 (s2 (s2 (s2 q e.1.toNat e.1.toNat (w_i64 (g2 q e.1.toNat e.1.toNat + e.2.2))) e.2.1.toNat e.2.1.toNat (w_i64 (g2 q e.2.1.toNat e.2.1.toNat + e.2.2))) e.1.toNat e.2.1.toNat (-e.2.2)) e.2.1.toNat e.1.toNat (-e.2.2)
def rowsG (g : Gr) : List (List Int) := g.2.foldl updE (List.replicate g.1.toNat (List.replicate g.1.toNat 0))
def pairE (e : Edg) (i j : Nat) : Prop := (e.1 = (i : Int) ∧ e.2.1 = (j : Int)) ∨ (e.1 = (j : Int) ∧ e.2.1 = (i : Int))
/-- What holds while edges are gathered. -/
def gath (N : Nat) (pre : List Edg) (q : List (List Int)) : Prop := shapeR N q ∧ (∀ i j, i ≠ j → (∀ e ∈ pre, ¬ pairE e i j) → g2 q i j = 0) ∧ ∀ i j, i ≠ j → -9 ≤ g2 q i j ∧ g2 q i j ≤ 0
theorem gath_start (N : Nat) : gath N [] (List.replicate N (List.replicate N 0)) := by
  have z : ∀ i j, g2 (List.replicate N (List.replicate N 0)) i j = 0 := by
    intro i j
    unfold g2
    rw [List.getD_eq_getElem?_getD (l := List.replicate N (List.replicate N (0 : Int))), List.getElem?_replicate]
    by_cases h : i < N
    · rw [if_pos h, Option.getD_some, List.getD_eq_getElem?_getD, List.getElem?_replicate]
      by_cases h2 : j < N
      · rw [if_pos h2]; rfl
      · rw [if_neg h2]; rfl
    · rw [if_neg h]; rfl
  refine ⟨⟨by simp, fun r hr => ?_⟩, fun i j _ _ => z i j, fun i j _ => by rw [z]; omega⟩
  rw [List.eq_of_mem_replicate hr]; simp
theorem gath_upd {N : Nat} {pre : List Edg} {q : List (List Int)} (h : gath N pre q) {a b : Nat} {w : Int} (hab : a < b) (hb : b < N) (hw : 1 ≤ w ∧ w ≤ 9) : gath N (pre ++ [((a : Int), (b : Int), w)]) (updE q ((a : Int), (b : Int), w)) := by
  obtain ⟨h1, h2, h3⟩ := h
  have ha : a < N := by omega
  unfold updE
  simp only [Int.toNat_natCast]
  have s1 := s2_shape h1 ha a (w_i64 (g2 q a a + w))
  have s2' := s2_shape s1 hb b (w_i64 (g2 q b b + w))
  have s3 := s2_shape s2' ha b (-w)
  have s4 := s2_shape s3 hb a (-w)
  have val : ∀ i j, i ≠ j → g2 (s2 (s2 (s2 (s2 q a a (w_i64 (g2 q a a + w))) b b (w_i64 (g2 q b b + w))) a b (-w)) b a (-w)) i j = if (i = b ∧ j = a) ∨ (i = a ∧ j = b) then -w else g2 q i j := by
    intro i j hij
    rw [g2_s2 s3 hb ha, g2_s2 s2' ha hb, g2_s2 s1 hb hb, g2_s2 h1 ha ha]
    by_cases c1 : i = b ∧ j = a
    · rw [if_pos c1, if_pos (.inl c1)]
    · rw [if_neg c1]
      by_cases c2 : i = a ∧ j = b
      · rw [if_pos c2, if_pos (.inr c2)]
      · rw [if_neg c2, if_neg (show ¬ (i = b ∧ j = b) by omega), if_neg (show ¬ (i = a ∧ j = a) by omega), if_neg (show ¬ ((i = b ∧ j = a) ∨ (i = a ∧ j = b)) from fun c => c.elim c1 c2)]
  refine ⟨s4, fun i j hij hp => ?_, fun i j hij => ?_⟩
  · rw [val i j hij, if_neg, h2 i j hij (fun e he => hp e (List.mem_append_left _ he))]
    intro c
    refine hp _ (List.mem_append_right _ (List.mem_singleton.2 rfl)) ?_
    rcases c with ⟨rfl, rfl⟩ | ⟨rfl, rfl⟩
    · exact .inr ⟨rfl, rfl⟩
    · exact .inl ⟨rfl, rfl⟩
  · rw [val i j hij]
    split
    · omega
    · exact h3 i j hij
theorem graph_edges {g : Gr} (h : graphB g = true) : (1 ≤ g.1 ∧ g.1 ≤ 12) ∧ g.2.length ≤ 24 ∧ (∀ e ∈ g.2, edgeOk g.1 e = true) ∧ g.2.Pairwise (fun a b => edgeLt a b = true) := by
  unfold graphB at h
  simp only [Bool.and_eq_true, decide_eq_true_eq, List.all_eq_true, List.mem_range] at h
  obtain ⟨h1, h2, h3⟩ := h
  have h' : ∀ i (hi : i < g.2.length), edgeOk g.1 g.2[i] = true ∧ edgePrev g.2 i g.2[i] = true := by
    intro i hi
    have := h2 i hi
    unfold edgeAt at this
    rw [List.getElem?_eq_getElem hi] at this
    simpa using this
  refine ⟨h1, h3, fun e he => ?_, ?_⟩
  · obtain ⟨i, hi, rfl⟩ := List.getElem_of_mem he
    exact (h' i hi).1
  · have step : ∀ i, (hi : i + 1 < g.2.length) → edgeLt g.2[i] g.2[i + 1] = true := by
      intro i hi
      have := (h' (i + 1) hi).2
      unfold edgePrev at this
      rw [if_pos (by omega), Nat.add_sub_cancel, List.getElem?_eq_getElem (by omega)] at this
      exact this
    have tr : ∀ a b c : Edg, edgeLt a b = true → edgeLt b c = true → edgeLt a c = true := by
      intro a b c
      unfold edgeLt
      simp only [decide_eq_true_eq]
      omega
    refine List.pairwise_iff_getElem.2 ?_
    have main : ∀ d i, (hj : i + d + 1 < g.2.length) → edgeLt g.2[i] g.2[i + d + 1] = true := by
      intro d
      induction d with
      | zero => intro i hj; exact step i hj
      | succ d ih => intro i hj; exact tr _ _ _ (ih i (by omega)) (step (i + d + 1) hj)
    intro i j hi hj hij
    have := main (j - i - 1) i (by omega)
    have e : i + (j - i - 1) + 1 = j := by omega
    simpa only [e] using this
theorem edge_nat {N : Nat} {e : Edg} (h : edgeOk (N : Int) e = true) : ∃ a b : Nat, e = ((a : Int), (b : Int), e.2.2) ∧ a < b ∧ b < N ∧ (1 ≤ e.2.2 ∧ e.2.2 ≤ 9) := by
  unfold edgeOk at h
  simp only [Bool.and_eq_true, decide_eq_true_eq] at h
  obtain ⟨h1, h2, h3, h4⟩ := h
  obtain ⟨x, y, w⟩ := e
  simp only at h1 h2 h3 h4
  exact ⟨x.toNat, y.toNat, by rw [Int.toNat_of_nonneg h1, Int.toNat_of_nonneg (by omega)], by omega, by omega, h4⟩
/-- The pair of a new edge has not been met. -/
theorem pair_new {pre : List Edg} {a b : Nat} {w : Int} (hab : a < b) (ho : ∀ e ∈ pre, e.1 < e.2.1 ∧ edgeLt e ((a : Int), (b : Int), w) = true) : ∀ e ∈ pre, ¬ pairE e a b := by
  intro e he hp
  obtain ⟨h1, h2⟩ := ho e he
  unfold edgeLt at h2
  simp only [decide_eq_true_eq] at h2
  rcases hp with ⟨e1, e2⟩ | ⟨e1, e2⟩ <;> omega
theorem specRows_step {k n : Nat} {g : Gr} {N : Nat} {q : List (List Int)} (h : shapeR N q) {i a b : Nat} {w : Int} (hi : (i : Int) < (g.2.length : Int)) (hg : g.2[i]? = some ((a : Int), (b : Int), w)) (hab : a < b) (hb : b < N) (hz1 : g2 q a b = 0) (hz2 : g2 q b a = 0) (hw : 1 ≤ w ∧ w ≤ 9) {E : List (List Int) → Option (List (List Int))} :
    spec_l16Rows_l1 k (n + 1) g (i : Int) q E = spec_l16Rows_l1 k n g (w_i64 ((i : Int) + 1)) (updE q ((a : Int), (b : Int), w)) E := by
  have ha : a < N := by omega
  have s1 := s2_shape h ha a (w_i64 (g2 q a a + w))
  have s2' := s2_shape s1 hb b (w_i64 (g2 q b b + w))
  have s3 := s2_shape s2' ha b (-w)
  have v1 : g2 (s2 q a a (w_i64 (g2 q a a + w))) b b = g2 q b b := by rw [g2_s2 h ha ha, if_neg (by omega)]
  have v2 : g2 (s2 (s2 q a a (w_i64 (g2 q a a + w))) b b (w_i64 (g2 q b b + w))) a b = 0 := by rw [g2_s2 s1 hb hb, if_neg (by omega), g2_s2 h ha ha, if_neg (by omega), hz1]
  have v3 : g2 (s2 (s2 (s2 q a a (w_i64 (g2 q a a + w))) b b (w_i64 (g2 q b b + w))) a b (-w)) b a = 0 := by rw [g2_s2 s2' ha hb, if_neg (by omega), g2_s2 s1 hb hb, if_neg (by omega), g2_s2 h ha ha, if_neg (by omega), hz2]
  have ww : w_i64 (0 - w) = -w := by rw [w_id (by omega) (by omega)]; omega
  unfold updE
  simp only [Int.toNat_natCast]
  conv => lhs; unfold spec_l16Rows_l1
  rw [decide_eq_true hi, if_pos rfl]
  simp only [Int.natCast_nonneg, if_true, Int.toNat_natCast, hg, Option.bind_some, true_and]
  obtain ⟨r1, r2, r3⟩ := row_at h ha
  have c1 := cell_at h ha ha
  simp only [r3, if_true, r1, Option.bind_some, r2, ha, c1, s2_fold]
  obtain ⟨r1, r2, r3⟩ := row_at s1 hb
  have c1 := cell_at s1 hb hb
  simp only [r3, if_true, r1, Option.bind_some, r2, hb, c1, v1, s2_fold]
  obtain ⟨r1, r2, r3⟩ := row_at s2' ha
  have c1 := cell_at s2' ha hb
  simp only [r3, if_true, r1, Option.bind_some, r2, hb, c1, v2, ww, s2_fold]
  obtain ⟨r1, r2, r3⟩ := row_at s3 hb
  have c1 := cell_at s3 hb ha
  simp only [r3, if_true, r1, Option.bind_some, r2, ha, c1, v3, ww, s2_fold]
theorem implRows_step {k n : Nat} {l : List Edg} {N : Nat} {q : List (List Int)} (h : shapeR N q) {i a b : Nat} {w : Int} (hi : (i : Int) < (l.length : Int)) (hg : l[i]? = some ((a : Int), (b : Int), w)) (hab : a < b) (hb : b < N) (hw : 1 ≤ w ∧ w ≤ 9) {E : List (List Int) → Option (List (List Int))} :
    impl_laplacian_l1 k (n + 1) l (l.length : Int) (i : Int) q E = impl_laplacian_l1 k n l (l.length : Int) (w_i64 ((i : Int) + 1)) (updE q ((a : Int), (b : Int), w)) E := by
  have ha : a < N := by omega
  have s1 := s2_shape h ha a (w_i64 (g2 q a a + w))
  have s2' := s2_shape s1 hb b (w_i64 (g2 q b b + w))
  have s3 := s2_shape s2' ha b (-w)
  have v1 : g2 (s2 q a a (w_i64 (g2 q a a + w))) b b = g2 q b b := by rw [g2_s2 h ha ha, if_neg (by omega)]
  have ww : w_i64 (0 - w) = -w := by rw [w_id (by omega) (by omega)]; omega
  unfold updE
  simp only [Int.toNat_natCast]
  conv => lhs; unfold impl_laplacian_l1
  rw [decide_eq_true hi, if_pos rfl]
  simp only [Int.natCast_nonneg, if_true, Int.toNat_natCast, hg, Option.bind_some, true_and]
  obtain ⟨r1, r2, r3⟩ := row_at h ha
  have c1 := cell_at h ha ha
  simp only [r3, if_true, r1, Option.bind_some, r2, ha, c1, s2_fold]
  obtain ⟨r1, r2, r3⟩ := row_at s1 hb
  have c1 := cell_at s1 hb hb
  simp only [r3, if_true, r1, Option.bind_some, r2, hb, c1, v1, s2_fold]
  obtain ⟨r1, r2, r3⟩ := row_at s2' ha
  have c1 := cell_at s2' ha hb
  simp only [r3, if_true, r1, Option.bind_some, r2, hb, c1, ww, s2_fold]
  obtain ⟨r1, r2, r3⟩ := row_at s3 hb
  have c1 := cell_at s3 hb ha
  simp only [r3, if_true, r1, Option.bind_some, r2, ha, c1, ww, s2_fold]
theorem rows_ok {k : Nat} (hk : KK ≤ k) {g : Gr} (h : graphB g = true) : spec_l16Rows k g = some (rowsG g) ∧ impl_laplacian k g = some (rowsG g) ∧ gath g.1.toNat g.2 (rowsG g) := by
  have hK := KK_def
  have hL := LIM_def
  obtain ⟨hN, hl, he, ho⟩ := graph_edges h
  obtain ⟨N, hNn⟩ := Int.eq_ofNat_of_zero_le (show 0 ≤ g.1 by omega)
  have hNt : g.1.toNat = N := by omega
  have hN12 : N ≤ 12 := by omega
  have key : ∀ pre x post, g.2 = pre ++ x :: post → ∃ (a b : Nat), x = ((a : Int), (b : Int), x.2.2) ∧ a < b ∧ b < N ∧ (1 ≤ x.2.2 ∧ x.2.2 ≤ 9) ∧ ∀ e ∈ pre, ¬ pairE e a b := by
    intro pre x post hp
    have hx := he x (by rw [hp]; simp)
    rw [hNn] at hx
    obtain ⟨a, b, e1, e2, e3, e4⟩ := edge_nat hx
    refine ⟨a, b, e1, e2, e3, e4, pair_new (w := x.2.2) e2 fun e hm => ?_⟩
    have hee := he e (by rw [hp]; simp [hm])
    unfold edgeOk at hee
    simp only [Bool.and_eq_true, decide_eq_true_eq] at hee
    refine ⟨hee.2.1, ?_⟩
    rw [hp, List.pairwise_append] at ho
    rw [← e1]
    exact ho.2.2 e hm x (by simp)
  have swap : ∀ (e : Edg) (i j : Nat), pairE e i j → pairE e j i := fun e i j hp => hp.elim .inr .inl
  have fold : ∀ (pre post : List Edg) (q : List (List Int)), g.2 = pre ++ post → gath N pre q → gath N g.2 (post.foldl updE q) := by
    intro pre post
    induction post generalizing pre with
    | nil => intro q hp hq; rw [hp, List.append_nil]; exact hq
    | cons x post ih =>
      intro q hp hq
      obtain ⟨a, b, e1, e2, e3, e4, e5⟩ := key pre x post hp
      refine ih (pre ++ [x]) (updE q x) (by rw [hp]; simp) ?_
      rw [e1]
      exact gath_upd hq e2 e3 e4
  refine ⟨?_, ?_, ?_⟩
  · unfold spec_l16Rows
    have h0 : ∀ E : Gr → List (List Int) → Option (List (List Int)), spec_l16Rows_l0 k k g 0 [] E = E g (List.replicate N (List.replicate N 0)) := by
      intro E
      have := loop_list (L := fun n i q => spec_l16Rows_l0 k n g i q E) (I := fun pre q => q = pre) (G := fun _ _ => E g (List.replicate N (List.replicate N 0))) (List.replicate N (List.replicate N (0 : Int))) ?_ ?_ k (by simp; omega) [] rfl
      · exact this
      · intro n pre x post q hx hq ih hgx hlt
        subst hq
        rw [List.length_replicate] at hlt
        have hw := w_succ (i := q.length) (by omega)
        have hxe := List.eq_of_mem_replicate (List.mem_of_getElem? hgx)
        subst hxe
        have hlt' : (q.length : Int) < g.1 := by omega
        simp only [spec_l16Rows_l0, hlt', decide_true, if_true, hw, hNt]
        rw [if_pos ⟨by omega, Int.le_refl _, by omega⟩, if_pos (by simp only [List.length_singleton]; omega)]
        exact ih _ rfl
      · intro n q hq
        have : ¬ ((List.replicate N (List.replicate N (0 : Int))).length : Int) < g.1 := by rw [List.length_replicate]; omega
        subst hq
        simp only [spec_l16Rows_l0, this, decide_false, Bool.false_eq_true, if_false]
    rw [h0]
    have := loop_list (L := fun n i q => spec_l16Rows_l1 k n g i q (fun q_42 => some q_42)) (I := fun pre q => gath N pre q) (G := fun post q => some (post.foldl updE q)) g.2 ?_ ?_ k (by omega) (List.replicate N (List.replicate N 0)) (gath_start N)
    · refine this.trans ?_
      unfold rowsG; rw [hNt]
    · intro n pre x post q hx hq ih hgx hlt
      obtain ⟨a, b, e1, e2, e3, e4, e5⟩ := key pre x post hx
      have hw := w_succ (i := pre.length) (by omega)
      have hg' := gath_upd hq e2 e3 e4
      have hgx' := hgx
      rw [e1] at hgx'
      rw [specRows_step hq.1 hlt hgx' e2 e3 (hq.2.1 a b (by omega) e5) (hq.2.1 b a (by omega) fun e hm hp => e5 e hm (swap e b a hp)) e4, hw]
      rw [← e1] at hg' ⊢
      exact ih _ hg'
    · intro n q _
      simp only [spec_l16Rows_l1, Int.lt_irrefl, decide_false, Bool.false_eq_true, if_false, List.foldl_nil]
  · unfold impl_laplacian
    rw [if_pos ⟨by omega, Int.le_refl _, by omega⟩, hNt]
    have h0 : ∀ E : List (List Int) → Gr → Option (List (List Int)), impl_laplacian_l0 k k ((List.replicate N ([] : List Int)).length : Int) 0 (List.replicate N ([] : List Int)) g E = E (List.replicate N (List.replicate N 0)) g := by
      intro E
      refine loop_copy (List.replicate N (List.replicate N (0 : Int))) (List.replicate N ([] : List Int)) (by simp) (L := fun n i q => impl_laplacian_l0 k n ((List.replicate N ([] : List Int)).length : Int) i q g E) (e := fun q => E q g) ?_ ?_ (n := k) (by simp; omega)
      · intro n i x q hx hlt hq
        rw [List.length_replicate] at hlt hq
        have hw := w_succ (i := i) (by omega)
        have hxe := List.eq_of_mem_replicate (List.mem_of_getElem? hx)
        subst hxe
        have hi : i < q.length := by omega
        have hg1 : q[i]? = some q[i] := List.getElem?_eq_getElem hi
        simp only [impl_laplacian_l0, List.length_replicate, hlt, decide_true, if_true, Int.natCast_nonneg, Int.toNat_natCast, hi, and_self, hg1, Option.bind_some, hw, hNt]
        rw [if_pos ⟨by omega, Int.le_refl _, by omega⟩]
      · intro n q
        simp only [impl_laplacian_l0, List.length_replicate, Int.lt_irrefl, decide_false, Bool.false_eq_true, if_false]
    rw [h0]
    have := loop_list (L := fun n i q => impl_laplacian_l1 k n g.2 (g.2.length : Int) i q (fun q_38 => some q_38)) (I := fun pre q => gath N pre q) (G := fun post q => some (post.foldl updE q)) g.2 ?_ ?_ k (by omega) (List.replicate N (List.replicate N 0)) (gath_start N)
    · refine this.trans ?_
      unfold rowsG; rw [hNt]
    · intro n pre x post q hx hq ih hgx hlt
      obtain ⟨a, b, e1, e2, e3, e4, e5⟩ := key pre x post hx
      have hw := w_succ (i := pre.length) (by omega)
      have hg' := gath_upd hq e2 e3 e4
      have hgx' := hgx
      rw [e1] at hgx'
      rw [implRows_step hq.1 hlt hgx' e2 e3 e4, hw]
      rw [← e1] at hg' ⊢
      exact ih _ hg'
    · intro n q _
      simp only [impl_laplacian_l1, Int.lt_irrefl, decide_false, Bool.false_eq_true, if_false, List.foldl_nil]
  · rw [hNt]
    unfold rowsG
    rw [hNt]
    exact fold [] g.2 _ (by simp) (gath_start N)
theorem u8_dig {d : Nat} (h : d < 10) : z_u8 (UInt8.ofNat (48 + d)) = ((48 + d : Nat) : Int) := by
  have : (UInt8.ofNat (48 + d)).toNat = 48 + d := by simp [UInt8.toNat_ofNat']; omega
  show ((UInt8.ofNat (48 + d)).toNat : Int) = _
  rw [this]
theorem w_dig {d : Nat} (h : d < 10) : w_u8 (w_i64 (48 + (d : Int))) = ((48 + d : Nat) : Int) := by
  rw [w_id (by omega) (by omega)]
  unfold w_u8 IntKind.wrap
  simp [IntKind.bits, IntKind.signed]; omega
/-- The digits, the last one first. -/
def revD (u : Nat) : List Int := if u = 0 then [] else ((Lib.decDigits u).map z_u8).reverse
theorem revD_step {u : Nat} (h : u ≠ 0) : revD u = ((48 + u % 10 : Nat) : Int) :: revD (u / 10) := by
  unfold revD
  rw [if_neg h]
  by_cases h1 : u < 10
  · rw [Lib.decDigits, dif_pos h1, if_pos (by omega)]
    have := u8_dig h1
    rw [Nat.mod_eq_of_lt h1, List.map_cons, List.map_nil, this]
    rfl
  · rw [Lib.decDigits, dif_neg h1, if_neg (by omega)]
    have := u8_dig (d := u % 10) (by omega)
    rw [List.map_append, List.map_cons, List.map_nil, this, List.reverse_append]
    rfl
theorem revD_len : ∀ (j u : Nat), u < 10 ^ j → (revD u).length ≤ j
  | 0, u, h => by
    have : u = 0 := by simpa using h
    subst this; simp [revD]
  | j + 1, u, h => by
    by_cases h0 : u = 0
    · subst h0; simp [revD]
    · rw [revD_step h0, List.length_cons]
      have := revD_len j (u / 10) (by rw [Nat.pow_succ] at h; omega)
      omega
theorem dec_loop {k : Nat} {n0 : Int} {E : Int → List Int → Option (List UInt8)} : ∀ (j u n : Nat) (m : Int) (q : List Int), (m = (u : Int) ∨ m = -(u : Int)) → u < 10 ^ j → u ≤ 9223372036854775808 → -9223372036854775808 ≤ m → m ≤ 9223372036854775807 → q.length + j ≤ 100 → j < n → spec_l01Dec_l0 k n n0 m q E = E n0 (q ++ revD u)
  | j, u, 0, m, q, _, _, _, _, _, _, h => by omega
  | 0, u, n + 1, m, q, hm, hu, _, _, _, _, _ => by
    have h0 : u = 0 := by simpa using hu
    subst h0
    have hm0 : m = 0 := by omega
    subst hm0
    simp [spec_l01Dec_l0, revD]
  | j + 1, u, n + 1, m, q, hm, hu, hub, hm1, hm2, hq, hn => by
    have hL := LIM_def
    by_cases h0 : u = 0
    · subst h0
      have hm0 : m = 0 := by omega
      subst hm0
      simp [spec_l01Dec_l0, revD]
    · have hm0 : ¬ m = 0 := by omega
      have hlim : (q.length + 1) * 1 ≤ LIM := by omega
      have hd : u % 10 < 10 := by omega
      have hj : u / 10 < 10 ^ j := by rw [Nat.pow_succ] at hu; omega
      rcases hm with hm | hm
      · subst hm
        have t1 : Int.tmod (u : Int) 10 = ((u % 10 : Nat) : Int) := by rw [Int.tmod_eq_emod_of_nonneg (by omega)]; omega
        have t2 : Int.tdiv (u : Int) 10 = ((u / 10 : Nat) : Int) := by rw [Int.tdiv_eq_ediv_of_nonneg (by omega)]; omega
        have w2 : w_i64 ((u / 10 : Nat) : Int) = ((u / 10 : Nat) : Int) := w_id (by omega) (by omega)
        have hlt : ¬ (((u % 10 : Nat) : Int) < 0) := by omega
        have ih := dec_loop (k := k) (n0 := n0) (E := E) j (u / 10) n ((u / 10 : Nat) : Int) (q ++ [((48 + u % 10 : Nat) : Int)]) (.inl rfl) hj (by omega) (by omega) (by omega) (by simp; omega) (by omega)
        unfold spec_l01Dec_l0
        rw [decide_eq_false hm0, if_pos (by rfl), t1, t2, decide_eq_false hlt, if_neg (by simp), w_dig hd, w2, List.length_singleton, if_pos hlim, ih, List.append_assoc, revD_step h0]
        rfl
      · subst hm
        have t1 : Int.tmod (-(u : Int)) 10 = -((u % 10 : Nat) : Int) := by rw [Int.neg_tmod, Int.tmod_eq_emod_of_nonneg (by omega)]; omega
        have t2 : Int.tdiv (-(u : Int)) 10 = -((u / 10 : Nat) : Int) := by rw [Int.neg_tdiv, Int.tdiv_eq_ediv_of_nonneg (by omega)]; omega
        have w2 : w_i64 (-((u / 10 : Nat) : Int)) = -((u / 10 : Nat) : Int) := w_id (by omega) (by omega)
        have ih := dec_loop (k := k) (n0 := n0) (E := E) j (u / 10) n (-((u / 10 : Nat) : Int)) (q ++ [((48 + u % 10 : Nat) : Int)]) (.inr rfl) hj (by omega) (by omega) (by omega) (by simp; omega) (by omega)
        unfold spec_l01Dec_l0
        rw [decide_eq_false hm0, if_pos (by rfl), t1, t2, w2]
        by_cases hz : u % 10 = 0
        · have hlt : ¬ (-((u % 10 : Nat) : Int) < 0) := by omega
          have hw : w_u8 (w_i64 (48 + -((u % 10 : Nat) : Int))) = ((48 + u % 10 : Nat) : Int) := by
            rw [hz]
            exact w_dig (d := 0) (by omega)
          rw [decide_eq_false hlt, if_neg (by simp), hw, List.length_singleton, if_pos hlim, ih, List.append_assoc, revD_step h0]
          rfl
        · have hlt : -((u % 10 : Nat) : Int) < 0 := by omega
          have hw : w_u8 (w_i64 (48 + w_i64 (0 - -((u % 10 : Nat) : Int)))) = ((48 + u % 10 : Nat) : Int) := by
            rw [show (0 : Int) - -((u % 10 : Nat) : Int) = ((u % 10 : Nat) : Int) by omega, w_id (x := ((u % 10 : Nat) : Int)) (by omega) (by omega)]
            exact w_dig hd
          rw [decide_eq_true hlt, if_pos rfl, hw, List.length_singleton, if_pos hlim, ih, List.append_assoc, revD_step h0]
          rfl
theorem dec_back {k : Nat} {q : List Int} (hq : q.length ≤ 1000) {E : List Int → Option (List UInt8)} : ∀ (j n : Nat) (acc : List Int), j ≤ q.length → acc.length + j ≤ 1000 → j < n → spec_l01Dec_l1 k n ((j : Int) - 1) q acc E = E (acc ++ (q.take j).reverse)
  | j, 0, _, _, _, h => by omega
  | 0, n + 1, acc, _, _, _ => by
    have : ¬ (0 ≤ ((0 : Nat) : Int) - 1) := by omega
    simp only [spec_l01Dec_l1, this, decide_false, Bool.false_eq_true, if_false, List.take_zero, List.reverse_nil, List.append_nil]
  | j + 1, n + 1, acc, hj, ha, hn => by
    have hL := LIM_def
    have e0 : ((j + 1 : Nat) : Int) - 1 = (j : Int) := by omega
    have hjl : j < q.length := by omega
    have ew : w_i64 ((j : Int) - 1) = (j : Int) - 1 := w_id (by omega) (by omega)
    have hlim : (acc.length + 1) * 1 ≤ LIM := by omega
    have ih := dec_back (k := k) hq (E := E) j n (acc ++ [q[j]]) (by omega) (by simp; omega) (by omega)
    rw [e0]
    simp only [spec_l01Dec_l1, Int.natCast_nonneg, decide_true, if_true, Int.toNat_natCast, hjl, and_self, List.getElem?_eq_getElem hjl, Option.bind_some, List.length_singleton, hlim, ew, ih]
    rw [List.take_succ_eq_append_getElem hjl, List.reverse_append]
    simp
theorem toS_map (l : List UInt8) : to_S (l.map z_u8) = l := by
  unfold to_S
  rw [List.map_map]
  have : ((fun x : Int => x.toNat.toUInt8) ∘ z_u8) = id := by
    funext b
    simp [z_u8]
  simp [this]
theorem l01Dec_ok {k : Nat} (hk : KK ≤ k) {n : Int} (h1 : -9223372036854775808 ≤ n) (h2 : n ≤ 9223372036854775807) : spec_l01Dec k n = some (Lib.itoa n) := by
  have hK := KK_def
  have hL := LIM_def
  unfold spec_l01Dec Lib.itoa
  by_cases h0 : n = 0
  · subst h0
    rw [decide_eq_true rfl, if_pos rfl, if_neg (by omega)]
    rw [show (0 : Int).toNat = 0 from rfl, Lib.decDigits, dif_pos (by omega)]
    rfl
  · have hp : n.natAbs < 10 ^ 19 := by
      have : n.natAbs ≤ 9223372036854775808 := by omega
      exact Nat.lt_of_le_of_lt this (by decide)
    have hl := revD_len 19 n.natAbs hp
    have hu : n.natAbs ≠ 0 := by omega
    have hr : revD n.natAbs = ((Lib.decDigits n.natAbs).map z_u8).reverse := by unfold revD; rw [if_neg hu]
    rw [decide_eq_false h0, if_neg (by simp), dec_loop 19 n.natAbs k n [] (by omega) hp (by omega) h1 h2 (by simp) (by omega), List.nil_append]
    by_cases hn : n < 0
    · have hl1 : ((revD n.natAbs).length + 1) * 1 ≤ LIM := by omega
      have hb := dec_back (k := k) (q := revD n.natAbs ++ [45]) (by simp; omega) (E := fun q => some (to_S q)) (revD n.natAbs ++ [45]).length k [] (Nat.le_refl _) (by simp; omega) (by simp; omega)
      have hw : w_i64 (((revD n.natAbs ++ [45]).length : Int) - 1) = ((revD n.natAbs ++ [45]).length : Int) - 1 := w_id (by omega) (by simp; omega)
      rw [decide_eq_true hn, if_pos rfl, if_pos hn, List.length_singleton, if_pos hl1, hw, hb, List.take_length, List.nil_append, hr]
      congr 1
      have e : (((Lib.decDigits n.natAbs).map z_u8).reverse ++ [(45 : Int)]).reverse = ((45 : UInt8) :: Lib.decDigits n.natAbs).map z_u8 := by
        rw [List.reverse_append, List.reverse_reverse]; rfl
      rw [e, toS_map]
    · have hb := dec_back (k := k) (q := revD n.natAbs) (by omega) (E := fun q => some (to_S q)) (revD n.natAbs).length k [] (Nat.le_refl _) (by simp; omega) (by omega)
      have hw : w_i64 (((revD n.natAbs).length : Int) - 1) = ((revD n.natAbs).length : Int) - 1 := w_id (by omega) (by omega)
      have hna : n.natAbs = n.toNat := by omega
      rw [decide_eq_false hn, if_neg (by simp), if_neg hn, hw, hb, List.take_length, List.nil_append, hr, List.reverse_reverse, toS_map, hna]
/-- A picture. -/
def wid (lines : List (List UInt8)) : Nat := (lines.headD []).length
def okC (c : UInt8) : Bool := decide (32 ≤ c.toNat ∧ c.toNat ≤ 126)
def okLine (w : Nat) (l : List UInt8) : Bool := decide (l.length = w) && (decide (l.length ≤ 80) && l.all okC)
def okPic (lines : List (List UInt8)) : Bool := lines.all (okLine (wid lines)) && decide (lines.length ≤ 60)
theorem wid_get {lines : List (List UInt8)} {i : Nat} {x : List UInt8} (h : lines[i]? = some x) : ∃ y, lines[0]? = some y ∧ y.length = wid lines := by
  cases lines with
  | nil => simp at h
  | cons y l => exact ⟨y, rfl, rfl⟩
theorem l30Ok_ok {k : Nat} (hk : KK ≤ k) {a : List (List UInt8)} (ha : a.length ≤ 1000000000000) (hx : ∀ x ∈ a, x.length ≤ 1000000000000) : spec_l30Ok k a = some (okPic a) := by
  unfold spec_l30Ok
  have hK := KK_def
  have := loop_all (L := fun n i => spec_l30Ok_l0 k n a i fun lines_6 => some (decide ((List.length lines_6 : Int) ≤ 60))) (p := okLine (wid a)) (r := some false) (e := some (decide (a.length ≤ 60))) a ?_ ?_ (n := k) (by omega)
  · refine Eq.trans this ?_
    unfold okPic
    cases a.all (okLine (wid a)) <;> rfl
  · intro n i x hi hlt
    have hxl := hx x (List.mem_of_getElem? hi)
    have hw := w_succ (i := i) (by omega)
    obtain ⟨y, h0, hy⟩ := wid_get hi
    have inner := loop_all (L := fun m j => spec_l30Ok_l1 k m a (i : Int) j fun lines_4 i_5 => spec_l30Ok_l0 k n lines_4 (w_i64 (i_5 + 1)) fun lines_6 => some (decide ((List.length lines_6 : Int) ≤ 60)))
      (p := okC) (r := some false) (e := spec_l30Ok_l0 k n a ((i + 1 : Nat) : Int) fun lines_6 => some (decide ((List.length lines_6 : Int) ≤ 60))) x ?_ ?_ (n := k) (by omega)
    · simp only [spec_l30Ok_l0, hlt, decide_true, if_true, Int.natCast_nonneg, Int.toNat_natCast, hi, h0, Option.bind_some]
      unfold okLine
      by_cases h1 : x.length = wid a
      · have h1' : (x.length : Int) = (y.length : Int) := by omega
        by_cases h2 : x.length ≤ 80
        · have h2' : ¬ (80 < (x.length : Int)) := by omega
          have e1 : (decide (x.length = wid a) && (decide (x.length ≤ 80) && x.all okC)) = x.all okC := by simp [h1, h2]; omega
          rw [decide_eq_true h1', if_neg (by simp), decide_eq_false h2', if_neg (by simp), e1]
          exact inner
        · have h2' : (80 < (x.length : Int)) := by omega
          rw [decide_eq_true h1', if_neg (by simp), decide_eq_true h2', if_pos rfl, decide_eq_false h2, if_neg (by simp)]
      · have h1' : ¬ (x.length : Int) = (y.length : Int) := by omega
        rw [decide_eq_false h1', if_pos (by simp), decide_eq_false h1, if_neg (by simp)]
    · intro m j c hj hjlt
      have hw2 := w_succ (i := j) (by omega)
      simp only [spec_l30Ok_l1, hjlt, decide_true, if_true, Int.natCast_nonneg, Int.toNat_natCast, hi, hj, Option.bind_some, hw2]
      unfold okC z_u8
      by_cases h3 : c.toNat < 32
      · rw [decide_eq_true (by omega), if_pos rfl, if_neg (by simp; omega)]
      · rw [decide_eq_false (by omega), if_neg (by simp)]
        by_cases h4 : 126 < c.toNat
        · rw [decide_eq_true (by omega), if_pos rfl, if_neg (by simp; omega)]
        · rw [decide_eq_false (by omega), if_neg (by simp), if_pos (by simp; omega)]
    · intro m
      simp [spec_l30Ok_l1, hi, hw]
  · intro n
    simp only [spec_l30Ok_l0, Int.lt_irrefl, decide_false, Bool.false_eq_true, if_false]
    exact congrArg some (decide_eq_decide.2 (by omega))
theorem repeatL_one' (b : UInt8) : ∀ n, Lib.repeatL [b] n = List.replicate n b
  | 0 => rfl
  | n + 1 => by simp [Lib.repeatL, repeatL_one' b n, List.replicate_succ]
theorem repeat_ok (b : UInt8) {n : Nat} (hn : n ≤ 1000000) : strings_Repeat [b] (n : Int) = some (List.replicate n b) := by
  unfold strings_Repeat
  rw [if_pos ⟨by omega, by omega, by simp; omega⟩, Int.toNat_natCast, repeatL_one']
abbrev Pic := List (List UInt8)
def doneP (q : Pic) : Pic × Int := if okPic q = true then (q, 0) else ([], 5)
theorem l30Times_ok {k : Nat} (hk : KK ≤ k) (b : UInt8) {n : Nat} (hn : n ≤ 1000000) : spec_l30Times k [b] (n : Int) = some (List.replicate n b) := by
  have hK := KK_def
  unfold spec_l30Times
  have := loop_list (L := fun m i q => spec_l30Times_l0 k m [b] (n : Int) q i (fun out_1 => some out_1)) (I := fun pre q => q = pre) (G := fun post q => some (q ++ post)) (List.replicate n b) ?_ ?_ k (by simp; omega) [] rfl
  · simpa using this
  · intro m pre x post q hx hq ih hg hlt
    subst hq
    rw [List.length_replicate] at hlt
    have hw := w_succ (i := q.length) (by omega)
    have hb : x = b := List.eq_of_mem_replicate (List.mem_of_getElem? hg)
    subst hb
    have ih := ih _ rfl
    simp only [spec_l30Times_l0, hlt, decide_true, if_true, hw]
    rw [if_pos (by simp only [List.length_singleton]; omega), ih]
    simp
  · intro m q hq
    simp [spec_l30Times_l0]
theorem l30Done_ok {k : Nat} (hk : KK ≤ k) {q : Pic} (ha : q.length ≤ 1000000000000) (hx : ∀ x ∈ q, x.length ≤ 1000000000000) : (spec_l30Done_g k q).bind (fun y => some (y.2.1.1, y.1.1.2.1)) = some (doneP q) := by
  unfold spec_l30Done_g doneP
  rw [l30Ok_ok hk ha hx]
  cases okPic q <;> simp
theorem okPic_same {q : Pic} {W : Nat} (h : ∀ l ∈ q, l.length = W ∧ l.all okC = true) : okPic q = (decide (q.length ≤ 60) && (q.isEmpty || decide (W ≤ 80))) := by
  unfold okPic
  cases q with
  | nil => simp
  | cons z zs =>
    have hw : wid (z :: zs) = W := (h z (by simp)).1
    rw [hw, List.isEmpty_cons, Bool.false_or, Bool.and_comm]
    congr 1
    by_cases h80 : W ≤ 80
    · rw [decide_eq_true h80, List.all_eq_true]
      intro l hl
      obtain ⟨h1, h2⟩ := h l hl
      unfold okLine
      simp [h1, h2, h80]
    · rw [decide_eq_false h80, List.all_eq_false]
      refine ⟨z, by simp, ?_⟩
      unfold okLine
      simp [(h z (by simp)).1, h80]
theorem pictured_done {k : Nat} (hk : KK ≤ k) {q : Pic} {W : Nat} (hq : q.length ≤ 1000000) (hW : W ≤ 1000000) (h : ∀ l ∈ q, l.length = W ∧ l.all okC = true) : impl_pictured k q = some (doneP q) := by
  have hK := KK_def
  have hL := LIM_def
  unfold impl_pictured
  let W' : Int := if q = [] then 0 else (W : Int)
  have h0 := loop_list (L := fun n i a => impl_pictured_l0 k n q a q (q.length : Int) i (fun lines_2 width_3 => impl_pictured_l1 k k width_3 lines_2 (List.length lines_2 : Int) 0 [] (fun width_7 q_8 => (if (decide (60 < (List.length q_8 : Int))) = true then some ([], 5) else (if (decide (80 < width_7)) = true then some ([], 5) else some (q_8, 0))))))
    (I := fun pre a => a = if pre = [] then 0 else (W : Int)) (G := fun _ _ => impl_pictured_l1 k k W' q (q.length : Int) 0 [] (fun width_7 q_8 => (if (decide (60 < (List.length q_8 : Int))) = true then some ([], 5) else (if (decide (80 < width_7)) = true then some ([], 5) else some (q_8, 0))))) q ?_ ?_ k (by omega) 0 (by simp)
  · refine Eq.trans h0 ?_
    have h1 := loop_list (L := fun n i r => impl_pictured_l1 k n W' q (q.length : Int) i r (fun width_7 q_8 => (if (decide (60 < (List.length q_8 : Int))) = true then some ([], 5) else (if (decide (80 < width_7)) = true then some ([], 5) else some (q_8, (0 : Int))))))
      (I := fun pre r => r = pre) (G := fun _ _ => some (doneP q)) q ?_ ?_ k (by omega) [] rfl
    · exact h1
    · intro n pre x post r hx hr ih hg hlt
      subst hr
      have hw := w_succ (i := r.length) (by omega)
      have hxl := (h x (List.mem_of_getElem? hg)).1
      have hne : q ≠ [] := by intro e; rw [e] at hg; simp at hg
      have hW' : W' = (W : Int) := by show (if q = [] then (0 : Int) else (W : Int)) = _; rw [if_neg hne]
      have hz : w_i64 (W' - (x.length : Int)) = ((0 : Nat) : Int) := by rw [hW', w_id (by omega) (by omega)]; omega
      have ih := ih _ rfl
      simp only [impl_pictured_l1, hlt, decide_true, if_true, Int.natCast_nonneg, Int.toNat_natCast, hg, Option.bind_some, hz, repeat_ok 32 (show 0 ≤ 1000000 by omega), hw, List.replicate_zero, List.append_nil]
      rw [if_pos (by simp only [List.length_nil]; omega), if_pos (by simp only [List.length_singleton]; omega), ih]
    · intro n r hr
      subst hr
      simp only [impl_pictured_l1, Int.lt_irrefl, decide_false, Bool.false_eq_true, if_false]
      unfold doneP
      rw [okPic_same h]
      by_cases h60 : r.length ≤ 60
      · rw [decide_eq_false (show ¬ (60 < (r.length : Int)) by omega), if_neg (by simp), decide_eq_true h60, Bool.true_and]
        cases r with
        | nil => simp [W']
        | cons z zs =>
          have hW' : W' = (W : Int) := rfl
          rw [hW', List.isEmpty_cons, Bool.false_or]
          by_cases h80 : W ≤ 80
          · rw [decide_eq_false (show ¬ (80 < (W : Int)) by omega), decide_eq_true h80]; rfl
          · rw [decide_eq_true (show (80 < (W : Int)) by omega), decide_eq_false h80]; rfl
      · rw [decide_eq_true (show (60 < (r.length : Int)) by omega), if_pos rfl, decide_eq_false h60]; rfl
  · intro n pre x post a hx ha ih hg hlt
    subst ha
    have hw := w_succ (i := pre.length) (by omega)
    have hxl := (h x (List.mem_of_getElem? hg)).1
    simp only [impl_pictured_l0, hlt, decide_true, if_true, Int.natCast_nonneg, Int.toNat_natCast, hg, Option.bind_some, hw]
    refine ih _ ?_
    rw [hxl, if_neg (show pre ++ [x] ≠ [] by simp)]
    by_cases hp : pre = []
    · rw [if_pos hp]; split <;> omega
    · rw [if_neg hp]; split <;> rfl
  · intro n a ha
    subst ha
    simp only [impl_pictured_l0, Int.lt_irrefl, decide_false, Bool.false_eq_true, if_false]
    rfl
def cellC (i j : Nat) (v : Int) : List UInt8 := if i = j then [92] else if v = 0 then [46] else Lib.itoa (-v)
def lineC (q : List (List Int)) (N i : Nat) : List UInt8 := (List.range N).flatMap fun j => cellC i j (g2 q i j)
def linesC (q : List (List Int)) (N : Nat) : List (List UInt8) := (List.range N).map (lineC q N)
theorem itoa_one {v : Int} (h1 : 1 ≤ v) (h2 : v ≤ 9) : (Lib.itoa v).length = 1 ∧ (Lib.itoa v).all okC = true := by
  obtain ⟨d, rfl⟩ := Int.eq_ofNat_of_zero_le (show 0 ≤ v by omega)
  have e : Lib.itoa (d : Int) = [UInt8.ofNat (48 + d)] := by
    unfold Lib.itoa
    rw [if_neg (by omega), Int.toNat_natCast, Lib.decDigits_one (by omega)]
  rw [e]
  have : d = 1 ∨ d = 2 ∨ d = 3 ∨ d = 4 ∨ d = 5 ∨ d = 6 ∨ d = 7 ∨ d = 8 ∨ d = 9 := by omega
  rcases this with rfl | rfl | rfl | rfl | rfl | rfl | rfl | rfl | rfl <;> exact ⟨rfl, by decide⟩
theorem cell_one {i j : Nat} {v : Int} (h : i ≠ j → -9 ≤ v ∧ v ≤ 0) : (cellC i j v).length = 1 ∧ (cellC i j v).all okC = true := by
  unfold cellC
  by_cases e : i = j
  · rw [if_pos e]; exact ⟨rfl, by decide⟩
  · rw [if_neg e]
    by_cases e2 : v = 0
    · rw [if_pos e2]; exact ⟨rfl, by decide⟩
    · rw [if_neg e2]
      have := h e
      exact itoa_one (by omega) (by omega)
theorem cellsC_one {N : Nat} {pre : List Edg} {q : List (List Int)} (hq : gath N pre q) (i : Nat) : ∀ l : List Nat, (l.flatMap fun j => cellC i j (g2 q i j)).length = l.length ∧ (l.flatMap fun j => cellC i j (g2 q i j)).all okC = true
  | [] => ⟨rfl, rfl⟩
  | j :: l => by
    obtain ⟨h1, h2⟩ := cellsC_one hq i l
    obtain ⟨h3, h4⟩ := cell_one (i := i) (j := j) (v := g2 q i j) (fun h => hq.2.2 i j h)
    rw [List.flatMap_cons, List.length_append, List.all_append, h1, h2, h3, h4]
    exact ⟨by rw [List.length_cons]; omega, rfl⟩
theorem specLine_ok {k : Nat} (hk : KK ≤ k) {N : Nat} {pre0 : List Edg} {q : List (List Int)} (hq : gath N pre0 q) (hN : N ≤ 12) {i : Nat} (hi : i < N) {q6 : List (List UInt8)} {E : Int → List UInt8 → List (List Int) → List (List UInt8) → Option (List (List UInt8) × Int)} :
    spec_GraphPicture_l1 k k (i : Int) [] 0 q q6 E = E (i : Int) (lineC q N i) q q6 := by
  have hK := KK_def
  have := loop_list (α := Nat) (A := List UInt8) (L := fun n j line => spec_GraphPicture_l1 k n (i : Int) line j q q6 E) (I := fun pre line => line.length = pre.length) (G := fun post line => E (i : Int) (line ++ post.flatMap fun j => cellC i j (g2 q i j)) q q6) (List.range N) ?_ ?_ k (by rw [List.length_range]; omega) [] rfl
  · exact this
  · intro n pre x post line hx hl ih hg hlt
    rw [List.length_range] at hlt
    have hlt' : pre.length < N := by omega
    have hxe : x = pre.length := by rw [List.getElem?_range hlt'] at hg; simpa using hg.symm
    have hw := w_succ (i := pre.length) (by omega)
    have hlq : (pre.length : Int) < (q.length : Int) := by rw [hq.1.1]; omega
    obtain ⟨r1, r2, r3⟩ := row_at hq.1 hi
    have c1 := cell_at hq.1 hi hlt'
    have hij : decide ((i : Int) = (pre.length : Int)) = decide (i = pre.length) := decide_eq_decide.2 (by omega)
    have hone := cell_one (i := i) (j := pre.length) (v := g2 q i pre.length) (fun h => hq.2.2 i pre.length h)
    have ih' := ih (line ++ cellC i pre.length (g2 q i pre.length)) (by rw [List.length_append, hone.1, List.length_append, hl]; rfl)
    have hb : line.length + 1 ≤ 9223372036854775807 := by omega
    subst hxe
    rw [List.flatMap_cons, ← List.append_assoc, ← ih']
    simp only [spec_GraphPicture_l1, hlq, decide_true, if_true, hij, Int.natCast_nonneg, Int.toNat_natCast, r3, and_self, r1, Option.bind_some, r2, hlt', c1, hw, List.length_singleton, hb]
    by_cases e : i = pre.length
    · rw [decide_eq_true e, if_pos rfl]
      unfold cellC
      rw [if_pos e]
    · rw [decide_eq_false e, if_neg (by simp)]
      unfold cellC at hone ⊢
      rw [if_neg e] at hone ⊢
      by_cases e2 : g2 q i pre.length = 0
      · rw [decide_eq_true e2, if_pos rfl, if_pos e2]
      · have hv := hq.2.2 i pre.length e
        have ww : w_i64 (0 - g2 q i pre.length) = -g2 q i pre.length := by rw [w_id (by omega) (by omega)]; omega
        rw [if_neg e2] at hone
        rw [decide_eq_false e2, if_neg (by simp), if_neg e2, ww, l01Dec_ok hk (by omega) (by omega)]
        simp only [Option.bind_some]
        rw [hone.1, if_pos hb]
  · intro n line _
    have hlq : ¬ ((List.range N).length : Int) < (q.length : Int) := by rw [hq.1.1, List.length_range]; omega
    simp only [spec_GraphPicture_l1, hlq, decide_false, Bool.false_eq_true, if_false, List.flatMap_nil, List.append_nil]
theorem implLine_ok {k : Nat} (hk : KK ≤ k) {N : Nat} {pre0 : List Edg} {q : List (List Int)} (hq : gath N pre0 q) (hN : N ≤ 12) {i : Nat} (hi : i < N) (x15 x16 : Int) {q6 : List (List UInt8)} {E : List UInt8 → Int → Int → List (List UInt8) → List (List Int) → Option (List (List UInt8) × Int)} :
    impl_GraphPicture_l1 k k (i : Int) [] x15 x16 i ((q.getD i []).length : Int) 0 q6 q E = E (lineC q N i) x15 x16 q6 q := by
  have hK := KK_def
  obtain ⟨r1, r2, r3⟩ := row_at hq.1 hi
  rw [r2]
  have := loop_list (α := Nat) (A := List UInt8) (L := fun n j line => impl_GraphPicture_l1 k n (i : Int) line x15 x16 i (N : Int) j q6 q E) (I := fun pre line => line.length = pre.length) (G := fun post line => E (line ++ post.flatMap fun j => cellC i j (g2 q i j)) x15 x16 q6 q) (List.range N) ?_ ?_ k (by rw [List.length_range]; omega) [] rfl
  · exact this
  · intro n pre x post line hx hl ih hg hlt
    rw [List.length_range] at hlt
    have hlt' : pre.length < N := by omega
    have hxe : x = pre.length := by rw [List.getElem?_range hlt'] at hg; simpa using hg.symm
    have hw := w_succ (i := pre.length) (by omega)
    have c1 := cell_at hq.1 hi hlt'
    have hij : decide ((i : Int) = (pre.length : Int)) = decide (i = pre.length) := decide_eq_decide.2 (by omega)
    have hone := cell_one (i := i) (j := pre.length) (v := g2 q i pre.length) (fun h => hq.2.2 i pre.length h)
    have ih' := ih (line ++ cellC i pre.length (g2 q i pre.length)) (by rw [List.length_append, hone.1, List.length_append, hl]; rfl)
    have hb : line.length + 1 ≤ 9223372036854775807 := by omega
    subst hxe
    rw [List.flatMap_cons, ← List.append_assoc, ← ih']
    simp only [impl_GraphPicture_l1, hlt, decide_true, if_true, hij, Int.natCast_nonneg, Int.toNat_natCast, r1, and_self, Option.bind_some, r2, hlt', c1, hw, List.length_singleton, hb]
    by_cases e : i = pre.length
    · rw [decide_eq_true e, if_pos rfl]
      unfold cellC
      rw [if_pos e]
    · rw [decide_eq_false e, if_neg (by simp)]
      unfold cellC at hone ⊢
      rw [if_neg e] at hone ⊢
      by_cases e2 : g2 q i pre.length = 0
      · rw [decide_eq_true e2, if_pos rfl, if_pos e2]
      · have hv := hq.2.2 i pre.length e
        have ww : w_i64 (0 - g2 q i pre.length) = -g2 q i pre.length := by rw [w_id (by omega) (by omega)]; omega
        rw [if_neg e2] at hone
        rw [decide_eq_false e2, if_neg (by simp), if_neg e2, ww]
        unfold impl_Decimal strconv_FormatInt
        rw [if_pos ⟨rfl, by omega, by omega⟩]
        simp only [Option.bind_some]
        rw [hone.1, if_pos hb]
  · intro n line _
    simp only [impl_GraphPicture_l1, List.length_range, Int.lt_irrefl, decide_false, Bool.false_eq_true, if_false, List.flatMap_nil, List.append_nil]
def graphP (g : Gr) : List (List UInt8) × Int := if graphB g = true then doneP (linesC (rowsG g) g.1.toNat) else ([], 1)
theorem linesC_ok {N : Nat} {pre : List Edg} {q : List (List Int)} (hq : gath N pre q) : (linesC q N).length = N ∧ ∀ l ∈ linesC q N, l.length = N ∧ l.all okC = true := by
  unfold linesC
  refine ⟨by simp, fun l hl => ?_⟩
  obtain ⟨i, _, rfl⟩ := List.mem_map.1 hl
  have := cellsC_one hq i (List.range N)
  rw [List.length_range] at this
  exact this
theorem specGraphP_ok {k : Nat} (hk : KK ≤ k) {g : Gr} (hL : g.2.length ≤ 1048576) : spec_GraphPicture k g = some (graphP g) := by
  have hK := KK_def
  have hLI := LIM_def
  unfold spec_GraphPicture graphP
  rw [specGraph_ok hk hL]
  cases h : graphB g
  · simp
  · obtain ⟨h1, _, hq⟩ := rows_ok hk h
    obtain ⟨hN, _, _, _⟩ := graph_edges h
    have hN12 : g.1.toNat ≤ 12 := by omega
    generalize g.1.toNat = N at hq hN12 ⊢
    obtain ⟨l1, l2⟩ := linesC_ok hq
    simp only [Option.bind_some, Bool.not_true, Bool.false_eq_true, if_false, if_true, h1]
    generalize rowsG g = q at hq l1 l2 ⊢
    have := loop_list (α := Nat) (A := List (List UInt8)) (L := fun n i r => spec_GraphPicture_l0 k n i q r (fun q_9 => (spec_l30Done_g k q_9).bind fun y_10 => some (y_10.2.1.1, y_10.1.1.2.1))) (I := fun pre r => r = pre.map (lineC q N)) (G := fun _ _ => (spec_l30Done_g k (linesC q N)).bind fun y_10 => some (y_10.2.1.1, y_10.1.1.2.1)) (List.range N) ?_ ?_ k (by rw [List.length_range]; omega) [] rfl
    · rw [this, l30Done_ok hk (by omega) (fun x hx => by rw [(l2 x hx).1]; omega)]
    · intro n pre x post r hx hr ih hg hlt
      rw [List.length_range] at hlt
      have hlt' : pre.length < N := by omega
      have hxe : x = pre.length := by rw [List.getElem?_range hlt'] at hg; simpa using hg.symm
      have hw := w_succ (i := pre.length) (by omega)
      have hlq : (pre.length : Int) < (q.length : Int) := by rw [hq.1.1]; omega
      have hrl : r.length = pre.length := by rw [hr]; simp
      have hlim : (r.length + 1) * 16 ≤ LIM := by omega
      subst hxe
      simp only [spec_GraphPicture_l0, hlq, decide_true, if_true, specLine_ok hk hq hN12 hlt', hw, List.length_singleton, hlim]
      exact ih _ (by rw [hr]; simp)
    · intro n r hr
      subst hr
      have hlq : ¬ ((List.range N).length : Int) < (q.length : Int) := by rw [hq.1.1, List.length_range]; omega
      simp only [spec_GraphPicture_l0, hlq, decide_false, Bool.false_eq_true, if_false]
      rfl
theorem implGraphP_ok {k : Nat} (hk : KK ≤ k) {g : Gr} (hL : g.2.length ≤ 1048576) : impl_GraphPicture k g = some (graphP g) := by
  have hK := KK_def
  have hLI := LIM_def
  unfold impl_GraphPicture graphP
  rw [implGraph_ok hk hL]
  cases h : graphB g
  · simp
  · obtain ⟨_, h1, hq⟩ := rows_ok hk h
    obtain ⟨hN, _, _, _⟩ := graph_edges h
    have hN12 : g.1.toNat ≤ 12 := by omega
    generalize g.1.toNat = N at hq hN12 ⊢
    obtain ⟨l1, l2⟩ := linesC_ok hq
    simp only [Option.bind_some, Bool.not_true, Bool.false_eq_true, if_false, if_true, h1]
    generalize rowsG g = q at hq l1 l2 ⊢
    have hqN : (q.length : Int) = (N : Int) := by rw [hq.1.1]
    rw [hqN]
    have := loop_list (α := Nat) (A := List (List UInt8)) (L := fun n i r => impl_GraphPicture_l0 k n (N : Int) i r q (fun q_12 => (impl_pictured k q_12).bind fun r_13 => some (r_13.1, r_13.2))) (I := fun pre r => r = pre.map (lineC q N)) (G := fun _ _ => (impl_pictured k (linesC q N)).bind fun r_13 => some (r_13.1, r_13.2)) (List.range N) ?_ ?_ k (by rw [List.length_range]; omega) [] rfl
    · rw [this, pictured_done hk (W := N) (by omega) (by omega) l2]
      rfl
    · intro n pre x post r hx hr ih hg hlt
      rw [List.length_range] at hlt
      have hlt' : pre.length < N := by omega
      have hxe : x = pre.length := by rw [List.getElem?_range hlt'] at hg; simpa using hg.symm
      have hw := w_succ (i := pre.length) (by omega)
      obtain ⟨r1, r2, r3⟩ := row_at hq.1 hlt'
      have hrl : r.length = pre.length := by rw [hr]; simp
      have hlim : (r.length + 1) * 16 ≤ LIM := by omega
      subst hxe
      simp only [impl_GraphPicture_l0, hlt, decide_true, if_true, Int.natCast_nonneg, Int.toNat_natCast, r3, and_self, r1, Option.bind_some, implLine_ok hk hq hN12 hlt', hw, List.length_singleton, hlim]
      exact ih _ (by rw [hr]; simp)
    · intro n r hr
      subst hr
      simp only [impl_GraphPicture_l0, List.length_range, Int.lt_irrefl, decide_false, Bool.false_eq_true, if_false]
      rfl
theorem markEdgeS_some {k : Nat} (hk : KK ≤ k) {l : List Edg} (hl : l.length ≤ 1048576) : ∃ q m, laws_markEdgeS_o k 1 l = some ((m, ()), (q, ()), ()) ∧ 0 ≤ m := by
  have hK := KK_def
  unfold laws_markEdgeS_o
  have := loop_list (α := Edg) (A := Int × List Edg) (R := Prop) (L := fun n i z => ∃ q m, laws_markEdgeS_o_l0 k n z.1 i z.2 (fun k_9 q_10 => some ((k_9, ()), (q_10, ()), ())) = some ((m, ()), (q, ()), ()) ∧ 0 ≤ m)
    (I := fun pre z => z.2.length = l.length ∧ 0 ≤ z.1 ∧ z.1 ≤ 1 + (pre.length : Int) * 3) (G := fun _ _ => True) l ?_ ?_ k (by omega) (1, l) ⟨rfl, by omega, by simp⟩
  · exact of_eq_true this
  · rintro n pre x post ⟨m, qc⟩ hx ⟨i1, i2, i3⟩ ih hg hlt
    simp only at i1 i2 i3 ih
    have hw := w_succ (i := pre.length) (by omega)
    have hpc : pre.length < qc.length := by omega
    have hpc' : (pre.length : Int) < (qc.length : Int) := by omega
    have hz : qc[pre.length]? = some qc[pre.length] := List.getElem?_eq_getElem hpc
    have w1 : w_i64 (m + 1) = m + 1 := w_id (by omega) (by omega)
    have w2 : w_i64 (m + 1 + 1) = m + 1 + 1 := w_id (by omega) (by omega)
    have w3 : w_i64 (m + 1 + 1 + 1) = m + 1 + 1 + 1 := w_id (by omega) (by omega)
    simp only [laws_markEdgeS_o_l0, hpc', decide_true, if_true, Option.bind_some, Int.natCast_nonneg, Int.toNat_natCast, hpc, and_self, hz, w1, w2, w3, hw, List.length_set, List.getElem?_set_self hpc, List.set_set]
    refine ih (_, _) ⟨?_, ?_, ?_⟩
    · simp only [List.length_set]; omega
    · simp only; omega
    · simp only [List.length_append, List.length_singleton]; omega
  · rintro n ⟨m, qc⟩ ⟨i1, i2, i3⟩
    simp only at i1 i2
    have : ¬ (l.length : Int) < (qc.length : Int) := by omega
    refine eq_true ⟨qc, m, ?_, i2⟩
    simp only [laws_markEdgeS_o_l0, this, decide_false, Bool.false_eq_true, if_false]
theorem markGraph_some {k : Nat} (hk : KK ≤ k) (n : Int) {l : List Edg} (hl : l.length ≤ 1048576) : ∃ q m, laws_markGraph_o k n 1 l = some ((m, ()), (q, ()), ()) ∧ 0 ≤ m := by
  obtain ⟨q, m, h, h0⟩ := markEdgeS_some hk hl
  refine ⟨q, m, ?_, h0⟩
  unfold laws_markGraph_o
  rw [h]; rfl
def sumL {α : Type} (f : α → Nat) (l : List α) : Nat := (l.map f).sum
theorem sumL_nil {α : Type} (f : α → Nat) : sumL f [] = 0 := rfl
theorem sumL_cons {α : Type} (f : α → Nat) (x : α) (l : List α) : sumL f (x :: l) = f x + sumL f l := by simp [sumL]
theorem sumL_append {α : Type} (f : α → Nat) (l m : List α) : sumL f (l ++ m) = sumL f l + sumL f m := by simp [sumL]
theorem sumL_mem {α : Type} (f : α → Nat) {x : α} {l : List α} (h : x ∈ l) : f x ≤ sumL f l := by
  induction l with
  | nil => cases h
  | cons y l ih =>
    rw [sumL_cons]
    rcases List.mem_cons.1 h with rfl | h
    · omega
    · have := ih h; omega
/-- Sizes gathered, until they are too great. -/
theorem loop_sz {α : Type} (xs : List α) {s : α → Nat} {L : Nat → Int → Int → Option Int}
    (h1 : ∀ n (i : Nat) x r, xs[i]? = some x → (i : Int) < xs.length → x ∈ xs → 0 ≤ r → r ≤ 1048576 → L (n + 1) (i : Int) r = if (s x : Int) ≤ r then L n ((i + 1 : Nat) : Int) (r - (s x : Int)) else some (-1))
    (h2 : ∀ n r, L (n + 1) (xs.length : Int) r = some r) {n : Nat} (hn : xs.length < n) {r : Int} (h0 : 0 ≤ r) (hr : r ≤ 1048576) : L n 0 r = some (if (sumL s xs : Int) ≤ r then r - (sumL s xs : Int) else -1) := by
  refine loop_list (L := L) (I := fun _ r => 0 ≤ r ∧ r ≤ 1048576) (G := fun post r => some (if (sumL s post : Int) ≤ r then r - (sumL s post : Int) else -1)) xs ?_ ?_ n hn r ⟨h0, hr⟩
  · intro n pre x post r hx hI ih hg hlt
    rw [h1 n pre.length x r hg hlt (List.mem_of_getElem? hg) hI.1 hI.2]
    have hc : sumL s (x :: post) = s x + sumL s post := sumL_cons _ _ _
    by_cases c : (s x : Int) ≤ r
    · rw [if_pos c, ih (r - (s x : Int)) ⟨by omega, by omega⟩]
      by_cases c2 : (sumL s post : Int) ≤ r - (s x : Int)
      · rw [if_pos c2, if_pos (by omega)]; congr 1; omega
      · rw [if_neg c2, if_neg (by omega)]
    · rw [if_neg c, if_neg (by omega)]
  · intro n r hI
    rw [h2, sumL_nil, if_pos (by simpa using hI.1)]; simp
instance dec_EdgeS : DecidableEq (List (Int × Int × Int)) := inferInstance
def sz_EdgeS (a : List (Int × Int × Int)) : Nat := a.length
theorem szEdgeS_ok {a : List (Int × Int × Int)} {e0 : TypeId} {left : Int} (h0 : 0 ≤ left) (h1 : left ≤ 1048576) (h : InR (.sl e0 (.st (.pr (.int .i64) (.pr (.int .i64) (.int .i64))))) a) : laws_szEdgeS a left = some (if (sz_EdgeS a : Int) ≤ left then left - (sz_EdgeS a : Int) else -1) := by
  have hl : a.length ≤ 140737488351232 := h.1
  have hs : sz_EdgeS a = a.length := rfl
  unfold laws_szEdgeS
  rw [hs, w_id (by omega) (by omega)]
  by_cases c : (a.length : Int) ≤ left
  · rw [decide_eq_false (by omega), if_neg (by simp), if_pos c]
  · rw [decide_eq_true (by omega), if_pos rfl, if_neg c]
instance dec_Graph : DecidableEq (Int × (List (Int × Int × Int))) := inferInstance
def sz_Graph (a : Int × (List (Int × Int × Int))) : Nat := (sz_EdgeS (a.2))
theorem szGraph_ok {a : Int × (List (Int × Int × Int))} {e0 : TypeId} {left : Int} (h0 : 0 ≤ left) (h1 : left ≤ 1048576) (h : InR (.st (.pr (.int .i64) (.sl e0 (.st (.pr (.int .i64) (.pr (.int .i64) (.int .i64))))))) a) : laws_szGraph a left = some (if (sz_Graph a : Int) ≤ left then left - (sz_Graph a : Int) else -1) := by
  have hs : sz_Graph a = (sz_EdgeS (a.2)) := rfl
  unfold laws_szGraph
  rw [hs]
  have q0 := szEdgeS_ok (a := a.2) (left := left) (by omega) (by omega) h.2
  rw [q0]
  by_cases c0 : ((sz_EdgeS (a.2)) : Int) ≤ left
  case neg => rw [if_neg c0]; simp only [Option.bind_some]; rw [decide_eq_true (by omega), if_pos rfl]
  rw [if_pos c0]; simp only [Option.bind_some]
  rw [decide_eq_false (by omega), if_neg (by simp)]
theorem toEdge_ok {a : Int × Int × Int}  : laws_toEdge a = some a := by
  unfold laws_toEdge
  rfl
theorem toEdgeS_ok {k : Nat} (hk : KK ≤ k) {a : List (Int × Int × Int)} (h : sz_EdgeS a ≤ 10000000000) : laws_toEdgeS k a = some a := by
  have hl : a.length ≤ 10000000000 := Nat.le_trans (show a.length ≤ sz_EdgeS a by unfold sz_EdgeS; omega) h
  unfold laws_toEdgeS
  have hL := LIM_def
  rw [if_pos ⟨by omega, Int.le_refl _, by omega⟩]
  refine loop_copy (L := fun n i q => laws_toEdgeS_l0 k n a i q fun q_5 => some q_5) (e := fun q => some q) a _ (by simp) ?_ ?_ (n := k) (by have := KK_def; omega)
  · intro n i x q hx hlt hq
    have hw := w_succ (i := i) (by omega)
    have hi : i < q.length := by omega
    simp [laws_toEdgeS_l0, toEdge_ok, hlt, hx, hw, hi]
  · intro n q
    simp [laws_toEdgeS_l0]
theorem toGraph_ok {k : Nat} (hk : KK ≤ k) {a : Int × (List (Int × Int × Int))} (h : sz_Graph a ≤ 10000000000) : laws_toGraph k a = some a := by
  have b1 : (sz_EdgeS (a.2)) ≤ 10000000000 := by unfold sz_Graph at h; omega
  unfold laws_toGraph
  simp only [toEdgeS_ok hk b1, Option.bind_some] <;> rfl
theorem eqEdge_ok {a b : Int × Int × Int}  : laws_eqEdge a b = some (decide (a = b)) := by
  obtain ⟨a0, a1, a2⟩ := a
  obtain ⟨b0, b1, b2⟩ := b
  unfold laws_eqEdge
  simp only [Prod.mk.injEq]
  by_cases x0 : a0 = b0
  case neg => simp [x0]
  subst x0
  by_cases x1 : a1 = b1
  case neg => simp [x1]
  subst x1
  by_cases x2 : a2 = b2
  case neg => simp [x2]
  subst x2
  simp
theorem eqEdgeS_ok {k : Nat} (hk : KK ≤ k) {a b : List (Int × Int × Int)} (h : sz_EdgeS a ≤ 10000000000) : laws_eqEdgeS k a b = some (decide (a = b)) := by
  have hle : a.length ≤ 10000000000 := Nat.le_trans (show a.length ≤ sz_EdgeS a by unfold sz_EdgeS; omega) h
  unfold laws_eqEdgeS
  by_cases hl : a.length = b.length
  · rw [if_neg (by simp [hl])]
    refine loop_eq (L := fun n i => laws_eqEdgeS_l0 k n a b i (some true)) a b hl ?_ ?_ (n := k) (by have := KK_def; omega)
    · intro n i x y hx hy hlt
      have hw := w_succ (i := i) (by omega)
      simp only [laws_eqEdgeS_l0, hlt, decide_true, if_true, Int.natCast_nonneg, Int.toNat_natCast, hx, hy, Option.bind_some, hw, eqEdge_ok]
      by_cases e : x = y
      · rw [decide_eq_true e, if_pos e]; simp
      · rw [decide_eq_false e, if_neg e]; simp
    · intro n
      simp [laws_eqEdgeS_l0]
  · have h2 : a ≠ b := fun e => hl (by rw [e])
    have h3 : ¬ (a.length : Int) = b.length := by omega
    simp [h3, h2]
theorem eqGraph_ok {k : Nat} (hk : KK ≤ k) {a b : Int × (List (Int × Int × Int))} (h : sz_Graph a ≤ 10000000000) : laws_eqGraph k a b = some (decide (a = b)) := by
  obtain ⟨a0, a1⟩ := a
  obtain ⟨b0, b1⟩ := b
  have c1 : (sz_EdgeS a1) ≤ 10000000000 := by unfold sz_Graph at h; simp only at h; omega
  unfold laws_eqGraph
  simp only [eqEdgeS_ok hk c1, Option.bind_some, Prod.mk.injEq]
  by_cases x0 : a0 = b0
  case neg => simp [x0]
  subst x0
  by_cases x1 : a1 = b1
  case neg => simp [x1]
  subst x1
  simp
theorem eta_Graph (x : Int × (List (Int × Int × Int))) : (x.1, x.2) = x := rfl
/-- A mark is a text. -/
theorem markText_ok {k : Nat} (hk : KK ≤ k) {n : Int} (h : n ≤ 9223372036854775807) : ∃ t, laws_markText k n = some t := by
  unfold laws_markText
  by_cases h0 : n ≤ 0
  · exact ⟨[109, 48], by simp [h0]⟩
  · simp only [decide_eq_true_eq, h0, if_false]
    have key : ∀ (m : Nat) (n : Int) (out : List UInt8), 0 ≤ n → n < 10 ^ m → n ≤ 9223372036854775807 → out.length + m ≤ 100 → ∀ q, m < q → ∃ t, laws_markText_l0 k q n out (fun out_1 => (if [109].length + out_1.length ≤ 9223372036854775807 then some ([109] ++ out_1) else none)) = some t := by
      intro m
      induction m with
      | zero =>
        intro n out h1 h2 h3 h4 q hq
        obtain ⟨q, rfl⟩ : ∃ p, q = p + 1 := ⟨q - 1, by omega⟩
        have : ¬ 0 < n := by simp at h2; omega
        have h5 : 1 + out.length ≤ 9223372036854775807 := by omega
        exact ⟨[109] ++ out, by simp only [laws_markText_l0, decide_eq_true_eq, this, if_false, List.length_singleton, h5, if_true]⟩
      | succ m ih =>
        intro n out h1 h2 h3 h4 q hq
        obtain ⟨q, rfl⟩ : ∃ p, q = p + 1 := ⟨q - 1, by omega⟩
        by_cases hn : 0 < n
        · have hd : Int.tdiv n 10 = n / 10 := Int.tdiv_eq_ediv_of_nonneg h1
          have hw : w_i64 (Int.tdiv n 10) = n / 10 := by rw [hd, w_id (by omega) (by omega)]
          have h5 : 1 + out.length ≤ 9223372036854775807 := by omega
          have h6 : n / 10 < 10 ^ m := by
            rw [Int.pow_succ] at h2
            omega
          obtain ⟨t, ht⟩ := ih (n / 10) ((to_S [(w_u8 ((w_i64 (48 + (Int.tmod n 10)))))]) ++ out) (by omega) h6 (by omega) (by simp; omega) q (by omega)
          refine ⟨t, ?_⟩
          simp only [laws_markText_l0, decide_eq_true_eq, hn, if_true, hw]
          rw [if_pos (by simp; omega)]
          exact ht
        · have h5 : 1 + out.length ≤ 9223372036854775807 := by omega
          exact ⟨[109] ++ out, by simp only [laws_markText_l0, decide_eq_true_eq, hn, if_false, List.length_singleton, h5, if_true]⟩
    exact key 20 n [] (by omega) (by omega) h (by simp) k (by have := KK_def; omega)
/-- What was marked is held. -/
theorem markStringS_ok {k : Nat} (hk : KK ≤ k) {a : List (List UInt8)} {m : Int} (h0 : 0 ≤ m) (h1 : m ≤ 1000000000000) (ha : a.length ≤ 1000000000000) :
    ∃ q, laws_markStringS_o k m a = some ((m + a.length, ()), (q, ()), ()) ∧ laws_heldStringS k q m = some (m + a.length) := by
  have mt : ∀ i : Nat, i ≤ 2000000000000 → ∃ t, laws_markText k (m + i) = some t := fun i hi => markText_ok hk (by omega)
  let T : Nat → List UInt8 := fun i => (laws_markText k (m + i)).getD []
  have hT : ∀ i : Nat, i ≤ 2000000000000 → laws_markText k (m + i) = some (T i) := fun i hi => by
    obtain ⟨t, ht⟩ := mt i hi
    show _ = some ((laws_markText k (m + i)).getD [])
    rw [ht]; rfl
  refine ⟨(List.range a.length).map T, ?_, ?_⟩
  · unfold laws_markStringS_o
    have := loop_list (α := Nat) (A := List (List UInt8)) (L := fun n i q => laws_markStringS_o_l0 k n (m + i) i q fun k_6 q_7 => some ((k_6, ()), (q_7, ()), ()))
      (I := fun pre q => q.length = a.length ∧ q.take pre.length = (List.range pre.length).map T) (G := fun _ _ => some ((m + a.length, ()), ((List.range a.length).map T, ()), ())) (List.range a.length) ?_ ?_ k (by have := KK_def; simp; omega) a ⟨rfl, by simp⟩
    · simpa using this
    · intro n pre x post q hx hq ih hg hlt
      rw [List.length_range] at hlt
      have hw := w_succ (i := pre.length) (by omega)
      have hl : pre.length < q.length := by omega
      have hm : w_i64 (m + (pre.length : Int) + 1) = m + ((pre.length + 1 : Nat) : Int) := by rw [w_id (by omega) (by omega)]; omega
      have hlt' : (pre.length : Int) < (q.length : Int) := by omega
      simp only [laws_markStringS_o_l0, hlt', decide_true, if_true, hT pre.length (by omega), Option.bind_some, Int.natCast_nonneg, Int.toNat_natCast, hl, and_self, List.getElem?_eq_getElem hl, hm, hw]
      refine ih _ ⟨by rw [List.length_set]; exact hq.1, ?_⟩
      rw [List.length_append, List.length_singleton, List.take_succ_eq_append_getElem (by simpa using hl), List.getElem_set_self, List.take_set_of_le (Nat.le_refl _), hq.2, List.range_succ]
      simp
    · intro n q hq
      have : ¬ ((List.range a.length).length : Int) < (q.length : Int) := by rw [hq.1]; simp
      have h2 := hq.2
      rw [List.length_range, ← hq.1, List.take_length, hq.1] at h2
      simp only [laws_markStringS_o_l0, this, decide_false, Bool.false_eq_true, if_false]
      simp [h2]
  · unfold laws_heldStringS
    have := loop_list (α := List UInt8) (A := Unit) (L := fun n i _ => laws_heldStringS_l0 k n ((List.range a.length).map T) (m + i) i fun k_3 => some k_3) (I := fun _ _ => True) (G := fun _ _ => some (m + a.length)) ((List.range a.length).map T) ?_ ?_ k (by have := KK_def; simp; omega) () trivial
    · simpa using this
    · intro n pre x post _ hx _ ih hg hlt
      rw [List.length_map, List.length_range] at hlt
      have hw := w_succ (i := pre.length) (by omega)
      have hm : w_i64 (m + (pre.length : Int) + 1) = m + ((pre.length + 1 : Nat) : Int) := by rw [w_id (by omega) (by omega)]; omega
      have hxT : x = T pre.length := by
        rw [List.getElem?_map, List.getElem?_range (by omega)] at hg
        simpa using hg.symm
      have hlt' : (pre.length : Int) < (((List.range a.length).map T).length : Int) := by simp; omega
      simp only [laws_heldStringS_l0, hlt', decide_true, if_true, Int.natCast_nonneg, Int.toNat_natCast, hg, Option.bind_some, hT pre.length (by omega), hxT, Bool.not_true, Bool.false_eq_true, if_false, hm, hw]
      exact ih () trivial
    · intro n _ _
      simp [laws_heldStringS_l0]
theorem eqStringS_ok {k : Nat} (hk : KK ≤ k) {a b : List (List UInt8)} (ha : a.length < 4611686018427387904) : laws_eqStringS k a b = some (decide (a = b)) := by
  unfold laws_eqStringS
  by_cases hl : a.length = b.length
  · rw [if_neg (by simp [hl])]
    refine loop_eq (L := fun n i => laws_eqStringS_l0 k n a b i (some true)) a b hl ?_ ?_ (n := k) (by have := KK_def; omega)
    · intro n i x y hx hy hlt
      have hw := w_succ (i := i) (by omega)
      by_cases e : x = y <;> simp [laws_eqStringS_l0, hlt, hx, hy, hw, e]
    · intro n
      simp [laws_eqStringS_l0]
  · have h2 : a ≠ b := fun e => hl (by rw [e])
    have h3 : ¬ (a.length : Int) = b.length := by omega
    simp [h3, h2]
theorem graphP_len {k : Nat} (hk : KK ≤ k) (g : Gr) : (graphP g).1.length ≤ 100000 := by
  unfold graphP
  cases h : graphB g
  · simp
  · obtain ⟨_, _, hq⟩ := rows_ok hk h
    obtain ⟨hN, _, _, _⟩ := graph_edges h
    have := (linesC_ok hq).1
    rw [if_pos rfl]
    unfold doneP
    split
    · simp only; omega
    · simp
theorem pure_FnExactGraphPicture {e0 : TypeId} (a0 : Gr) (h0 : InR (.st (.pr (.int .i64) (.sl e0 (.st (.pr (.int .i64) (.pr (.int .i64) (.int .i64))))))) a0) : ∃ k : Nat, laws_FnExactGraphPicture k a0 = some true := by
  have hk := Nat.le_refl KK
  refine ⟨KK, ?_⟩
  have q0 := szGraph_ok (a := a0) (left := 1048576) (by omega) (by omega) h0
  unfold laws_FnExactGraphPicture
  rw [q0]
  by_cases c0 : (sz_Graph a0 : Int) ≤ 1048576
  case neg => rw [if_neg c0]; simp only [Option.bind_some]; rw [decide_eq_true (by omega), if_pos rfl]
  rw [if_pos c0]; simp only [Option.bind_some]
  rw [decide_eq_false (by omega), if_neg (by simp)]
  have b0 : sz_Graph a0 ≤ 10000000000 := by omega
  have hL : a0.2.length ≤ 1048576 := by
    have e : sz_Graph a0 = sz_EdgeS a0.2 := rfl
    have e2 : a0.2.length ≤ sz_EdgeS a0.2 := by unfold sz_EdgeS; omega
    omega
  have hl := graphP_len hk a0
  obtain ⟨q, m, hm, hm0⟩ := markGraph_some hk a0.1 hL
  have hmn : ¬ m < 0 := by omega
  obtain ⟨q2, hq2, hh2⟩ := markStringS_ok hk (a := (graphP a0).1) (m := 1) (by omega) (by omega) (by omega)
  have hmn2 : ¬ (1 + ((graphP a0).1.length : Int) < 0) := by omega
  simp only [toGraph_ok hk b0, Option.bind_some, eta_Graph, specGraphP_ok hk hL, implGraphP_ok hk hL, eqGraph_ok hk b0, eqStringS_ok hk (show (graphP a0).1.length < 4611686018427387904 by omega), hm, hmn, hq2, hh2, hmn2, decide_true, Bool.not_true, Bool.false_eq_true, if_false, decide_false]
end Go.Proofs.YtackggcodaolaaaDoor.Ev
