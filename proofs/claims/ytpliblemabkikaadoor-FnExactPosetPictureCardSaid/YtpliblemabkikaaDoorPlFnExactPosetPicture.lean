/- Plain laws of the printed functions. No conditions but those in each statement. -/
import Derived.Test.YtpliblemabkikaaDoorEv5
import Derived.Test.YtpliblemabkikaaDoorG6
set_option linter.unusedVariables false
set_option linter.unusedSimpArgs false
namespace Go.Proofs.YtpliblemabkikaaDoor.Ev
open Go.RowKit
/-- A square table by its function. -/
def rowT (n : Nat) (f : Nat → Nat → Bool) (a : Nat) : List Bool := (List.range n).map (f a)
def tbl (n : Nat) (f : Nat → Nat → Bool) : List (List Bool) := (List.range n).map (rowT n f)
theorem tbl_len (n : Nat) (f : Nat → Nat → Bool) : (tbl n f).length = n := by simp [tbl]
theorem rowT_len (n : Nat) (f : Nat → Nat → Bool) (a : Nat) : (rowT n f a).length = n := by simp [rowT]
theorem tbl_get {n : Nat} (f : Nat → Nat → Bool) {a : Nat} (h : a < n) : (tbl n f)[a]? = some (rowT n f a) := by unfold tbl; rw [List.getElem?_map, List.getElem?_range h]; rfl
theorem rowT_get {n : Nat} (f : Nat → Nat → Bool) (a : Nat) {b : Nat} (h : b < n) : (rowT n f a)[b]? = some (f a b) := by unfold rowT; rw [List.getElem?_map, List.getElem?_range h]; rfl
theorem rowT_congr {n : Nat} {f g : Nat → Nat → Bool} {a : Nat} (h : ∀ b, b < n → f a b = g a b) : rowT n f a = rowT n g a := by
  unfold rowT
  exact List.map_congr_left fun b hb => h b (List.mem_range.1 hb)
theorem tbl_congr {n : Nat} {f g : Nat → Nat → Bool} (h : ∀ a b, a < n → b < n → f a b = g a b) : tbl n f = tbl n g := by
  unfold tbl
  exact List.map_congr_left fun a ha => rowT_congr fun b hb => h a b (List.mem_range.1 ha) hb
def setF (f : Nat → Nat → Bool) (a b : Nat) (v : Bool) : Nat → Nat → Bool := fun x y => if x = a ∧ y = b then v else f x y
theorem tbl_set {n : Nat} (f : Nat → Nat → Bool) (a b : Nat) (v : Bool) : (tbl n f).set a ((rowT n f a).set b v) = tbl n (setF f a b v) := by
  refine List.ext_getElem? fun i => ?_
  rw [List.getElem?_set, tbl_len]
  by_cases hi : i < n
  · rw [tbl_get _ hi, tbl_get _ hi]
    by_cases e : a = i
    · subst e
      rw [if_pos rfl, if_pos hi]
      congr 1
      refine List.ext_getElem? fun j => ?_
      rw [List.getElem?_set, rowT_len]
      by_cases hj : j < n
      · rw [rowT_get _ _ hj, rowT_get _ _ hj]
        unfold setF
        by_cases e2 : b = j
        · subst e2; rw [if_pos rfl, if_pos hj, if_pos ⟨rfl, rfl⟩]
        · rw [if_neg e2, if_neg (fun z => e2 z.2.symm)]
      · rw [List.getElem?_eq_none (l := rowT n (setF f a b v) a) (by rw [rowT_len]; omega), List.getElem?_eq_none (l := rowT n f a) (by rw [rowT_len]; omega)]
        by_cases e2 : b = j
        · rw [if_pos e2, if_neg (by omega)]
        · rw [if_neg e2]
    · rw [if_neg e]
      congr 1
      refine rowT_congr fun b' _ => ?_
      unfold setF
      rw [if_neg (fun z => e z.1.symm)]
  · rw [List.getElem?_eq_none (l := tbl n (setF f a b v)) (by rw [tbl_len]; omega), List.getElem?_eq_none (l := tbl n f) (by rw [tbl_len]; omega)]
    by_cases e : a = i
    · rw [if_pos e, if_neg (by omega)]
    · rw [if_neg e]
def idF (a b : Nat) : Bool := decide (a = b)
def addP (f : Nat → Nat → Bool) (p : List Int) : Nat → Nat → Bool := setF f (p.getD 0 0).toNat (p.getD 1 0).toNat true
/-- One step of the closure. -/
def wkF (f : Nat → Nat → Bool) (k : Nat) : Nat → Nat → Bool := fun a b => f a b || (f a k && f k b)
def cloF (n : Nat) (ps : List (List Int)) : Nat → Nat → Bool := (List.range n).foldl wkF (ps.foldl addP idF)
def pairOk (n : Nat) (p : List Int) : Prop := ∃ a b : Nat, a < n ∧ b < n ∧ p = [(a : Int), (b : Int)]
/-- The closure half done: rows before a, and of row a what comes before b. -/
def mixF (f : Nat → Nat → Bool) (k a b : Nat) : Nat → Nat → Bool := fun x y => if x < a ∨ (x = a ∧ y < b) then wkF f k x y else f x y
theorem mix_ak (f : Nat → Nat → Bool) (k a b : Nat) : mixF f k a b a k = f a k := by
  unfold mixF wkF
  split
  · cases f a k <;> simp
  · rfl
theorem mix_kb (f : Nat → Nat → Bool) (k a b : Nat) : mixF f k a b k b = f k b := by
  unfold mixF wkF
  split
  · cases f k b <;> simp
  · rfl
theorem mix_ab (f : Nat → Nat → Bool) (k a b : Nat) : mixF f k a b a b = f a b := by
  unfold mixF
  rw [if_neg (by omega)]
theorem mix_next (f : Nat → Nat → Bool) (k a b : Nat) : setF (mixF f k a b) a b (wkF f k a b) = mixF f k a (b + 1) := by
  funext x y
  unfold setF mixF
  by_cases h : x = a ∧ y = b
  · rw [if_pos h, if_pos (by omega), h.1, h.2]
  · rw [if_neg h]
    by_cases h2 : x < a ∨ (x = a ∧ y < b)
    · rw [if_pos h2, if_pos (by omega)]
    · rw [if_neg h2, if_neg (by omega)]
theorem mix_same (f : Nat → Nat → Bool) (k a b : Nat) (h : wkF f k a b = f a b) : mixF f k a b = mixF f k a (b + 1) := by
  funext x y
  unfold mixF
  by_cases h2 : x < a ∨ (x = a ∧ y < b)
  · rw [if_pos h2, if_pos (by omega)]
  · rw [if_neg h2]
    by_cases h3 : x < a ∨ (x = a ∧ y < b + 1)
    · have : x = a ∧ y = b := by omega
      rw [if_pos h3, this.1, this.2, h]
    · rw [if_neg h3]
theorem mix_row (n : Nat) (f : Nat → Nat → Bool) (k a : Nat) : tbl n (mixF f k a n) = tbl n (mixF f k (a + 1) 0) := tbl_congr fun x y hx hy => by
  unfold mixF
  by_cases h : x < a ∨ (x = a ∧ y < n)
  · rw [if_pos h, if_pos (by omega)]
  · rw [if_neg h, if_neg (by omega)]
theorem mix_start (n : Nat) (f : Nat → Nat → Bool) (k : Nat) : tbl n f = tbl n (mixF f k 0 0) := tbl_congr fun x y _ _ => by unfold mixF; rw [if_neg (by omega)]
theorem mix_end (n : Nat) (f : Nat → Nat → Bool) (k : Nat) : tbl n (mixF f k n 0) = tbl n (wkF f k) := tbl_congr fun x y hx _ => by unfold mixF; rw [if_pos (.inl hx)]
theorem id_row {n a : Nat} (h : a < n) : (List.replicate n false).set a true = rowT n idF a := by
  refine List.ext_getElem? fun j => ?_
  rw [List.getElem?_set, List.length_replicate]
  by_cases hj : j < n
  · rw [rowT_get _ _ hj, List.getElem?_replicate, if_pos hj]
    unfold idF
    by_cases e : a = j
    · subst e; rw [if_pos rfl, if_pos hj, decide_eq_true rfl]
    · rw [if_neg e, decide_eq_false e]
  · rw [List.getElem?_eq_none (l := rowT n idF a) (by rw [rowT_len]; omega), List.getElem?_replicate, if_neg hj]
    by_cases e : a = j
    · rw [if_pos e, if_neg (by omega)]
    · rw [if_neg e]
theorem specTable_l4 {k : Nat} (hk : KK ≤ k) {n : Nat} (hn : n ≤ 12) (f : Nat → Nat → Bool) {kk a : Nat} (h1 : kk < n) (h2 : a < n) (E : Int → Int → Int → List (List Bool) → Option (List (List Bool))) : spec_l06Table_l4 k k (n : Int) (kk : Int) (a : Int) 0 (tbl n (mixF f kk a 0)) E = E (n : Int) (kk : Int) (a : Int) (tbl n (mixF f kk (a + 1) 0)) := by
  have hK := KK_def
  have := loop_list (α := Nat) (A := List (List Bool)) (L := fun m i q => spec_l06Table_l4 k m (n : Int) (kk : Int) (a : Int) i q E) (I := fun pre q => q = tbl n (mixF f kk a pre.length)) (G := fun _ _ => E (n : Int) (kk : Int) (a : Int) (tbl n (mixF f kk (a + 1) 0))) (List.range n) ?_ ?_ k (by simp; omega) _ rfl
  · exact this
  · intro m pre x post q _ hq ih _ hlt
    rw [List.length_range] at hlt
    have hb : pre.length < n := by omega
    have hw := w_succ (i := pre.length) (by omega)
    subst hq
    simp only [spec_l06Table_l4, hlt, decide_true, if_true, Int.natCast_nonneg, Int.toNat_natCast, tbl_len, rowT_len, h1, h2, hb, and_self, tbl_get _ h2, tbl_get _ h1, rowT_get _ _ h1, rowT_get _ _ hb, Option.bind_some, mix_ak, mix_kb, hw]
    cases c1 : f a kk with
    | false =>
      rw [if_neg (by simp)]
      refine ih _ ?_
      rw [List.length_append, List.length_singleton, ← mix_same _ _ _ _ (by unfold wkF; rw [c1]; simp)]
    | true =>
      rw [if_pos rfl]
      cases c2 : f kk pre.length with
      | false =>
        rw [if_neg (by simp)]
        refine ih _ ?_
        rw [List.length_append, List.length_singleton, ← mix_same _ _ _ _ (by unfold wkF; rw [c2]; simp)]
      | true =>
        rw [if_pos rfl]
        refine ih _ ?_
        rw [List.length_append, List.length_singleton, tbl_set, ← mix_next]
        unfold wkF
        rw [c1, c2]; simp
  · intro m q hq
    subst hq
    simp only [spec_l06Table_l4, List.length_range, Int.lt_irrefl, decide_false, Bool.false_eq_true, if_false, mix_row]
theorem specTable_ok {k : Nat} (hk : KK ≤ k) {n : Nat} (hn : n ≤ 12) {ps : List (List Int)} (hl : ps.length ≤ 30) (hp : ∀ p ∈ ps, pairOk n p) : spec_l06Table k (n : Int) ps = some (tbl n (cloF n ps)) := by
  have hK := KK_def
  have hL := LIM_def
  unfold spec_l06Table
  have h0 : ∀ E : Int → List (List Int) → List (List Bool) → Option (List (List Bool)), spec_l06Table_l0 k k (n : Int) ps 0 [] E = E (n : Int) ps (tbl n idF) := by
    intro E
    refine loop_list (α := Nat) (A := List (List Bool)) (L := fun m i q => spec_l06Table_l0 k m (n : Int) ps i q E) (I := fun pre q => q = (List.range pre.length).map (rowT n idF)) (G := fun _ _ => E (n : Int) ps (tbl n idF)) (List.range n) ?_ ?_ k (by simp; omega) [] rfl |> fun h => h
    · intro m pre x post q _ hq ih _ hlt
      rw [List.length_range] at hlt
      have hb : pre.length < n := by omega
      have hw := w_succ (i := pre.length) (by omega)
      have hg : (List.replicate n false)[pre.length]? = some false := by rw [List.getElem?_replicate, if_pos hb]
      have hlim : (q.length + 1) * 24 ≤ LIM := by rw [hq, List.length_map, List.length_range]; omega
      have g0 : (0 : Int) ≤ (n : Int) ∧ (n : Int) ≤ (n : Int) ∧ (n : Int) * 1 ≤ LIM := ⟨by omega, by omega, by omega⟩
      simp only [spec_l06Table_l0, hlt, decide_true, if_true, g0, and_self, Int.natCast_nonneg, Int.toNat_natCast, List.length_replicate, hb, hg, Option.bind_some, List.length_singleton, hlim, hw, id_row hb]
      refine ih _ ?_
      rw [hq, List.length_append, List.length_singleton, List.range_succ, List.map_append]; rfl
    · intro m q hq
      subst hq
      simp only [spec_l06Table_l0, List.length_range, Int.lt_irrefl, decide_false, Bool.false_eq_true, if_false]
      rfl
  have h1 : ∀ E : Int → List (List Bool) → Option (List (List Bool)), spec_l06Table_l1 k k (n : Int) ps 0 (tbl n idF) E = E (n : Int) (tbl n (ps.foldl addP idF)) := by
    intro E
    refine loop_list (L := fun m i q => spec_l06Table_l1 k m (n : Int) ps i q E) (I := fun pre q => q = tbl n (pre.foldl addP idF)) (G := fun _ _ => E (n : Int) (tbl n (ps.foldl addP idF))) ps ?_ ?_ k (by omega) _ rfl
    · intro m pre x post q hx hq ih hg hlt
      have hw := w_succ (i := pre.length) (by omega)
      obtain ⟨a, b, ha, hb, rfl⟩ := hp x (by rw [hx]; simp)
      subst hq
      have g0 : ([(a : Int), (b : Int)] : List Int)[0]? = some (a : Int) := rfl
      have g1 : ([(a : Int), (b : Int)] : List Int)[1]? = some (b : Int) := rfl
      simp only [spec_l06Table_l1, hlt, decide_true, if_true, Int.natCast_nonneg, Int.toNat_natCast, hg, Option.bind_some, g0, g1, tbl_len, rowT_len, ha, hb, and_self, tbl_get _ ha, rowT_get _ _ hb, hw, tbl_set]
      refine ih _ ?_
      rw [List.foldl_append]; rfl
    · intro m q hq
      subst hq
      simp only [spec_l06Table_l1, Int.lt_irrefl, decide_false, Bool.false_eq_true, if_false]
  rw [h0, h1]
  unfold cloF
  generalize ps.foldl addP idF = f0
  have := loop_list (α := Nat) (A := List (List Bool)) (L := fun m i q => spec_l06Table_l2 k m (n : Int) i q (fun q_24 => some q_24)) (I := fun pre q => q = tbl n ((List.range pre.length).foldl wkF f0)) (G := fun _ _ => some (tbl n ((List.range n).foldl wkF f0))) (List.range n) ?_ ?_ k (by simp; omega) _ rfl
  · exact this
  · intro m pre x post q _ hq ih _ hlt
    rw [List.length_range] at hlt
    have hb : pre.length < n := by omega
    have hw := w_succ (i := pre.length) (by omega)
    subst hq
    generalize hf : (List.range pre.length).foldl wkF f0 = f
    have h3 : ∀ E : Int → Int → List (List Bool) → Option (List (List Bool)), spec_l06Table_l3 k k (n : Int) (pre.length : Int) 0 (tbl n f) E = E (n : Int) (pre.length : Int) (tbl n (wkF f pre.length)) := by
      intro E
      refine loop_list (α := Nat) (A := List (List Bool)) (L := fun m i q => spec_l06Table_l3 k m (n : Int) (pre.length : Int) i q E) (I := fun pre2 q => q = tbl n (mixF f pre.length pre2.length 0)) (G := fun _ _ => E (n : Int) (pre.length : Int) (tbl n (wkF f pre.length))) (List.range n) ?_ ?_ k (by simp; omega) _ (mix_start ..) |> fun h => h
      · intro m2 pre2 x2 post2 q2 _ hq2 ih2 _ hlt2
        rw [List.length_range] at hlt2
        have hb2 : pre2.length < n := by omega
        have hw2 := w_succ (i := pre2.length) (by omega)
        subst hq2
        simp only [spec_l06Table_l3, hlt2, decide_true, if_true, specTable_l4 hk hn f hb hb2, hw2]
        exact ih2 _ (by rw [List.length_append, List.length_singleton])
      · intro m2 q2 hq2
        subst hq2
        simp only [spec_l06Table_l3, List.length_range, Int.lt_irrefl, decide_false, Bool.false_eq_true, if_false, mix_end]
    simp only [spec_l06Table_l2, hlt, decide_true, if_true, h3, hw]
    refine ih _ ?_
    rw [List.length_append, List.length_singleton, List.range_succ, List.foldl_append, hf]
    rfl
  · intro m q hq
    subst hq
    simp only [spec_l06Table_l2, List.length_range, Int.lt_irrefl, decide_false, Bool.false_eq_true, if_false]
theorem implTable_l4 {k : Nat} (hk : KK ≤ k) {n : Nat} (hn : n ≤ 12) (f : Nat → Nat → Bool) {kk a : Nat} (h1 : kk < n) (h2 : a < n) (x49 x50 x54 x55 : Int) (E : Int → Int → Int → Int → Int → List (List Bool) → Option (List (List Bool))) : impl_belowOf_l4 k k (kk : Int) (a : Int) x49 x50 x54 x55 (n : Int) 0 (tbl n (mixF f kk a 0)) E = E (kk : Int) x49 x50 x54 x55 (tbl n (mixF f kk (a + 1) 0)) := by
  have hK := KK_def
  have := loop_list (α := Nat) (A := List (List Bool)) (L := fun m i q => impl_belowOf_l4 k m (kk : Int) (a : Int) x49 x50 x54 x55 (n : Int) i q E) (I := fun pre q => q = tbl n (mixF f kk a pre.length)) (G := fun _ _ => E (kk : Int) x49 x50 x54 x55 (tbl n (mixF f kk (a + 1) 0))) (List.range n) ?_ ?_ k (by simp; omega) _ rfl
  · exact this
  · intro m pre x post q _ hq ih _ hlt
    rw [List.length_range] at hlt
    have hb : pre.length < n := by omega
    have hw := w_succ (i := pre.length) (by omega)
    subst hq
    simp only [impl_belowOf_l4, hlt, decide_true, if_true, Int.natCast_nonneg, Int.toNat_natCast, tbl_len, rowT_len, h1, h2, hb, and_self, tbl_get _ h2, tbl_get _ h1, rowT_get _ _ h1, rowT_get _ _ hb, Option.bind_some, mix_ak, mix_kb, mix_ab, hw, tbl_set]
    have key : ∀ v : Bool, wkF f kk a pre.length = v → tbl n (setF (mixF f kk a pre.length) a pre.length v) = tbl n (mixF f kk a (pre ++ [x]).length) := fun v hv => by
      rw [List.length_append, List.length_singleton, ← mix_next, hv]
    cases c0 : f a pre.length with
    | true =>
      rw [if_pos rfl]
      exact ih _ (key _ (by unfold wkF; rw [c0]; rfl))
    | false =>
      rw [if_neg (by simp)]
      cases c1 : f a kk with
      | false =>
        rw [if_neg (by simp)]
        exact ih _ (key _ (by unfold wkF; rw [c0, c1]; rfl))
      | true =>
        rw [if_pos rfl]
        exact ih _ (key _ (by unfold wkF; rw [c0, c1]; simp))
  · intro m q hq
    subst hq
    simp only [impl_belowOf_l4, List.length_range, Int.lt_irrefl, decide_false, Bool.false_eq_true, if_false, mix_row]
theorem belowOf_ok {k : Nat} (hk : KK ≤ k) {n : Nat} (hn : n ≤ 12) {ps : List (List Int)} (hl : ps.length ≤ 30) (hp : ∀ p ∈ ps, pairOk n p) : impl_belowOf k (n : Int) ps = some (tbl n (cloF n ps)) := by
  have hK := KK_def
  have hL := LIM_def
  unfold impl_belowOf
  have g0 : (0 : Int) ≤ (n : Int) ∧ (n : Int) ≤ (n : Int) ∧ (n : Int) * 24 ≤ LIM := ⟨by omega, by omega, by omega⟩
  have g1 : (0 : Int) ≤ (n : Int) ∧ (n : Int) ≤ (n : Int) ∧ (n : Int) * 1 ≤ LIM := ⟨by omega, by omega, by omega⟩
  rw [if_pos g0]
  rw [Int.toNat_natCast, List.length_replicate]
  have h0 : ∀ E : List (List Int) → List (List Bool) → Option (List (List Bool)), impl_belowOf_l0 k k (n : Int) ps (n : Int) 0 (List.replicate n []) E = E ps (tbl n idF) := by
    intro E
    refine loop_list (α := Nat) (A := List (List Bool)) (L := fun m i q => impl_belowOf_l0 k m (n : Int) ps (n : Int) i q E) (I := fun pre q => q = (List.range pre.length).map (rowT n idF) ++ List.replicate (n - pre.length) []) (G := fun _ _ => E ps (tbl n idF)) (List.range n) ?_ ?_ k (by simp; omega) _ (by simp) |> fun h => h
    · intro m pre x post q _ hq ih _ hlt
      rw [List.length_range] at hlt
      have hb : pre.length < n := by omega
      have hw := w_succ (i := pre.length) (by omega)
      have hql : q.length = n := by rw [hq, List.length_append, List.length_map, List.length_range, List.length_replicate]; omega
      have hbq : pre.length < q.length := by omega
      have hgq : q[pre.length]? = some q[pre.length] := List.getElem?_eq_getElem hbq
      have hg : (List.replicate n false)[pre.length]? = some false := by rw [List.getElem?_replicate, if_pos hb]
      simp only [impl_belowOf_l0, hlt, decide_true, if_true, g1, and_self, Int.natCast_nonneg, Int.toNat_natCast, hbq, hgq, List.length_set, List.getElem?_set_self hbq, Option.bind_some, List.length_replicate, hb, hg, List.set_set, id_row hb, hw]
      refine ih _ ?_
      rw [hq, List.length_append, List.length_singleton, List.range_succ, List.map_append, show n - pre.length = (n - (pre.length + 1)) + 1 by omega, List.replicate_succ, List.set_append_right _ _ (by simp)]
      simp
    · intro m q hq
      subst hq
      simp only [impl_belowOf_l0, List.length_range, Int.lt_irrefl, decide_false, Bool.false_eq_true, if_false, Nat.sub_self, List.replicate_zero, List.append_nil]
      rfl
  have h1 : ∀ E : List (List Bool) → Option (List (List Bool)), impl_belowOf_l1 k k ps (ps.length : Int) 0 (tbl n idF) E = E (tbl n (ps.foldl addP idF)) := by
    intro E
    refine loop_list (L := fun m i q => impl_belowOf_l1 k m ps (ps.length : Int) i q E) (I := fun pre q => q = tbl n (pre.foldl addP idF)) (G := fun _ _ => E (tbl n (ps.foldl addP idF))) ps ?_ ?_ k (by omega) _ rfl
    · intro m pre x post q hx hq ih hg hlt
      have hw := w_succ (i := pre.length) (by omega)
      obtain ⟨a, b, ha, hb, rfl⟩ := hp x (by rw [hx]; simp)
      subst hq
      have g0 : ([(a : Int), (b : Int)] : List Int)[0]? = some (a : Int) := rfl
      have g1 : ([(a : Int), (b : Int)] : List Int)[1]? = some (b : Int) := rfl
      simp only [impl_belowOf_l1, hlt, decide_true, if_true, Int.natCast_nonneg, Int.toNat_natCast, hg, Option.bind_some, g0, g1, tbl_len, rowT_len, ha, hb, and_self, tbl_get _ ha, rowT_get _ _ hb, hw, tbl_set]
      refine ih _ ?_
      rw [List.foldl_append]; rfl
    · intro m q hq
      subst hq
      simp only [impl_belowOf_l1, Int.lt_irrefl, decide_false, Bool.false_eq_true, if_false]
  rw [h0, h1]
  unfold cloF
  generalize ps.foldl addP idF = f0
  rw [tbl_len]
  have := loop_list (α := Nat) (A := List (List Bool)) (L := fun m i q => impl_belowOf_l2 k m (n : Int) i q (fun q_27 => some q_27)) (I := fun pre q => q = tbl n ((List.range pre.length).foldl wkF f0)) (G := fun _ _ => some (tbl n ((List.range n).foldl wkF f0))) (List.range n) ?_ ?_ k (by simp; omega) _ rfl
  · exact this
  · intro m pre x post q _ hq ih _ hlt
    rw [List.length_range] at hlt
    have hb : pre.length < n := by omega
    have hw := w_succ (i := pre.length) (by omega)
    subst hq
    generalize hf : (List.range pre.length).foldl wkF f0 = f
    have h3 : ∀ E : Int → Int → List (List Bool) → Option (List (List Bool)), impl_belowOf_l3 k k (pre.length : Int) (n : Int) (pre.length : Int) (n : Int) 0 (tbl n f) E = E (n : Int) (pre.length : Int) (tbl n (wkF f pre.length)) := by
      intro E
      refine loop_list (α := Nat) (A := List (List Bool)) (L := fun m i q => impl_belowOf_l3 k m (pre.length : Int) (n : Int) (pre.length : Int) (n : Int) i q E) (I := fun pre2 q => q = tbl n (mixF f pre.length pre2.length 0)) (G := fun _ _ => E (n : Int) (pre.length : Int) (tbl n (wkF f pre.length))) (List.range n) ?_ ?_ k (by simp; omega) _ (mix_start ..) |> fun h => h
      · intro m2 pre2 x2 post2 q2 _ hq2 ih2 _ hlt2
        rw [List.length_range] at hlt2
        have hb2 : pre2.length < n := by omega
        have hw2 := w_succ (i := pre2.length) (by omega)
        subst hq2
        simp only [impl_belowOf_l3, hlt2, decide_true, if_true, tbl_len, implTable_l4 hk hn f hb hb2, hw2]
        exact ih2 _ (by rw [List.length_append, List.length_singleton])
      · intro m2 q2 hq2
        subst hq2
        simp only [impl_belowOf_l3, List.length_range, Int.lt_irrefl, decide_false, Bool.false_eq_true, if_false, mix_end]
    simp only [impl_belowOf_l2, hlt, decide_true, if_true, tbl_len, h3, hw]
    refine ih _ ?_
    rw [List.length_append, List.length_singleton, List.range_succ, List.foldl_append, hf]
    rfl
  · intro m q hq
    subst hq
    simp only [impl_belowOf_l2, List.length_range, Int.lt_irrefl, decide_false, Bool.false_eq_true, if_false]
/-- What the closure is good for. -/
structure Ord (n : Nat) (ps : List (List Int)) (T : Nat → Nat → Bool) : Prop where
  refl : ∀ a, T a a = true
  pair : ∀ a b : Nat, [(a : Int), (b : Int)] ∈ ps → T a b = true
  trans : ∀ a m b, m < n → T a m = true → T m b = true → T a b = true
  last : ∀ a b, T a b = true → a = b ∨ ∃ c : Nat, [(c : Int), (b : Int)] ∈ ps ∧ T a c = true
theorem addP_at (f : Nat → Nat → Bool) (a b x y : Nat) : addP f [(a : Int), (b : Int)] x y = if x = a ∧ y = b then true else f x y := rfl
theorem add_ok (n : Nat) : ∀ (qs : List (List Int)), (∀ p ∈ qs, pairOk n p) → ∀ f : Nat → Nat → Bool, (∀ x y, qs.foldl addP f x y = true ↔ f x y = true ∨ [(x : Int), (y : Int)] ∈ qs)
  | [], _, f, x, y => by simp
  | p :: qs, h, f, x, y => by
    obtain ⟨a, b, ha, hb, rfl⟩ := h p (by simp)
    rw [List.foldl_cons, add_ok n qs (fun p hp => h p (by simp [hp])) _ x y, addP_at]
    by_cases c : x = a ∧ y = b
    · obtain ⟨rfl, rfl⟩ := c; simp
    · rw [if_neg c, List.mem_cons]
      have : ¬ ([(x : Int), (y : Int)] = [(a : Int), (b : Int)]) := fun e => c (by simp at e; omega)
      simp [this]
theorem wk_true {f : Nat → Nat → Bool} {k a b : Nat} : wkF f k a b = true ↔ f a b = true ∨ (f a k = true ∧ f k b = true) := by unfold wkF; simp
theorem clo_ok {n : Nat} {ps : List (List Int)} (hp : ∀ p ∈ ps, pairOk n p) : Ord n ps (cloF n ps) := by
  have base : ∀ x y, ps.foldl addP idF x y = true ↔ x = y ∨ [(x : Int), (y : Int)] ∈ ps := fun x y => by
    rw [add_ok n ps hp idF x y]
    unfold idF
    rw [decide_eq_true_eq]
  unfold cloF
  generalize ps.foldl addP idF = f0 at base
  have main : ∀ m, (∀ a, (List.range m).foldl wkF f0 a a = true) ∧ (∀ a b : Nat, [(a : Int), (b : Int)] ∈ ps → (List.range m).foldl wkF f0 a b = true) ∧ (∀ a x b, x < m → (List.range m).foldl wkF f0 a x = true → (List.range m).foldl wkF f0 x b = true → (List.range m).foldl wkF f0 a b = true) ∧ (∀ a b, (List.range m).foldl wkF f0 a b = true → a = b ∨ ∃ c : Nat, [(c : Int), (b : Int)] ∈ ps ∧ (List.range m).foldl wkF f0 a c = true) := by
    intro m
    induction m with
    | zero =>
      refine ⟨fun a => (base a a).2 (.inl rfl), fun a b h => (base a b).2 (.inr h), fun a x b h => by omega, fun a b h => ?_⟩
      rcases (base a b).1 h with h | h
      · exact .inl h
      · exact .inr ⟨a, h, (base a a).2 (.inl rfl)⟩
    | succ m ih =>
      rw [List.range_succ, List.foldl_append]
      show (∀ a, wkF ((List.range m).foldl wkF f0) m a a = true) ∧ (∀ a b : Nat, [(a : Int), (b : Int)] ∈ ps → wkF ((List.range m).foldl wkF f0) m a b = true) ∧ (∀ a x b, x < m + 1 → wkF ((List.range m).foldl wkF f0) m a x = true → wkF ((List.range m).foldl wkF f0) m x b = true → wkF ((List.range m).foldl wkF f0) m a b = true) ∧ (∀ a b, wkF ((List.range m).foldl wkF f0) m a b = true → a = b ∨ ∃ c : Nat, [(c : Int), (b : Int)] ∈ ps ∧ wkF ((List.range m).foldl wkF f0) m a c = true)
      generalize (List.range m).foldl wkF f0 = f at ih
      obtain ⟨i1, i2, i3, i4⟩ := ih
      refine ⟨fun a => wk_true.2 (.inl (i1 a)), fun a b h => wk_true.2 (.inl (i2 a b h)), fun a x b hx h1 h2 => ?_, fun a b h => ?_⟩
      · rw [wk_true] at h1 h2 ⊢
        by_cases e : x = m
        · subst e
          have g1 : f a x = true := h1.elim id And.left
          have g2 : f x b = true := h2.elim id And.right
          exact .inr ⟨g1, g2⟩
        · have hx' : x < m := by omega
          rcases h1 with h1 | ⟨h1, h1'⟩
          · rcases h2 with h2 | ⟨h2, h2'⟩
            · exact .inl (i3 a x b hx' h1 h2)
            · exact .inr ⟨i3 a x m hx' h1 h2, h2'⟩
          · rcases h2 with h2 | ⟨h2, h2'⟩
            · exact .inr ⟨h1, i3 m x b hx' h1' h2⟩
            · exact .inr ⟨h1, h2'⟩
      · have q : ∀ c b, f c b = true → ∀ a, (f a c = true) → c = m ∨ a = c → a = b ∨ ∃ d : Nat, [(d : Int), (b : Int)] ∈ ps ∧ wkF f m a d = true := by
          intro c b h a hac hcm
          rcases i4 c b h with e | ⟨d, h1, h2⟩
          · subst e
            rcases i4 a c hac with e | ⟨d, h1, h2⟩
            · exact .inl e
            · exact .inr ⟨d, h1, wk_true.2 (.inl h2)⟩
          · rcases hcm with e | e
            · subst e; exact .inr ⟨d, h1, wk_true.2 (.inr ⟨hac, h2⟩)⟩
            · subst e; exact .inr ⟨d, h1, wk_true.2 (.inl h2)⟩
        rcases wk_true.1 h with h | ⟨h1, h2⟩
        · exact q a b h a (i1 a) (.inr rfl)
        · exact q m b h2 a h1 (.inl rfl)
  obtain ⟨m1, m2, m3, m4⟩ := main n
  exact ⟨m1, m2, m3, m4⟩
theorem within_ok (n a b : Int) : impl_within n a b = some (decide (a ≤ n ∧ n ≤ b)) := by
  unfold impl_within
  by_cases h : a ≤ n <;> simp [h]
theorem l00In_ok (n a b : Int) : spec_l00In n a b = some (decide (a ≤ n ∧ n ≤ b)) := by
  unfold spec_l00In
  by_cases h : a ≤ n <;> simp [h]
theorem idxP_nonneg {α : Type} (p : α → Bool) (xs : List α) : decide (0 ≤ idxP p xs) = xs.any p := by
  unfold idxP
  cases h : xs.findIdx? p with
  | some i =>
    obtain ⟨hlt, hp, _⟩ := List.findIdx?_eq_some_iff_getElem.1 h
    have : xs.any p = true := List.any_eq_true.2 ⟨_, List.getElem_mem hlt, hp⟩
    rw [this]; simp
  | none =>
    rw [List.findIdx?_eq_none_iff] at h
    have : xs.any p = false := List.any_eq_false.2 fun x hx => by rw [h x hx]; simp
    rw [this]; simp
abbrev Mat := Int × Int × Int × List Int
theorem elements_ok {k : Nat} (hk : KK ≤ k) {v : List Int} (hv : v.length ≤ 1048576) {p : Int} (hp : -1000000 ≤ p ∧ p ≤ 1000000) : impl_areElements k v p = some (v.all (fun x => decide (0 ≤ x ∧ x ≤ p - 1))) := by
  have hK := KK_def
  have hw1 : w_i64 (p - 1) = p - 1 := w_id (by omega) (by omega)
  unfold impl_areElements slices_ContainsFunc_int64__impl_areElements_1 slices_IndexFunc_int64__impl_areElements_1
  rw [loop_find (L := fun n i => slices_IndexFunc_int64__impl_areElements_1_l0 k n v p (v.length : Int) i (some (-1))) (p := fun x => !decide (0 ≤ x ∧ x ≤ p - 1)) v ?_ ?_ (n := k) (by omega)]
  · simp only [Option.bind_some, idxP_nonneg]
    congr 1
    rw [← List.not_all_eq_any_not, Bool.not_not]
  · intro n i x hi hlt
    have hw := w_succ (i := i) (by omega)
    simp only [slices_IndexFunc_int64__impl_areElements_1_l0, impl_areElements_1, impl_isElement, within_ok, hw1, hlt, decide_true, if_true, Int.natCast_nonneg, Int.toNat_natCast, hi, Option.bind_some, hw]
  · intro n
    simp [slices_IndexFunc_int64__impl_areElements_1_l0]
/-- A matrix as stated. -/
structure MatP (m : Mat) (R C : Nat) : Prop where
  rows : m.2.1 = (R : Int)
  cols : m.2.2.1 = (C : Int)
  r32 : R ≤ 32
  c32 : C ≤ 32
  len : m.2.2.2.length = R * C
  prime : 2 ≤ m.1 ∧ m.1 ≤ 251
  cells : ∀ x ∈ m.2.2.2, 0 ≤ x ∧ x ≤ 250
abbrev Pos := Int × List (List Int)
theorem len_two {l : List Int} (h : l.length = 2) : ∃ x y, l = [x, y] := by
  match l, h with
  | [x, y], _ => exact ⟨x, y, rfl⟩
def pairB (n : Int) (p : List Int) : Bool := decide (p.length = 2) && p.all (fun x => decide (0 ≤ x ∧ x ≤ n - 1))
theorem pairB_ok {n : Nat} {p : List Int} (h : pairB (n : Int) p = true) : pairOk n p := by
  unfold pairB at h
  rw [Bool.and_eq_true, decide_eq_true_eq] at h
  obtain ⟨x, y, rfl⟩ := len_two h.1
  have := h.2
  simp only [List.all_cons, List.all_nil, Bool.and_true, Bool.and_eq_true, decide_eq_true_eq] at this
  refine ⟨x.toNat, y.toNat, by omega, by omega, ?_⟩
  rw [Int.toNat_of_nonneg (by omega), Int.toNat_of_nonneg (by omega)]
theorem specPairs_ok {k : Nat} (hk : KK ≤ k) {n : Int} (hn : 0 ≤ n ∧ n ≤ 12) {ps : List (List Int)} (hl : ps.length ≤ 30) : spec_l06Pairs k n ps = some (ps.all (pairB n)) := by
  have hK := KK_def
  have hw1 : w_i64 (n - 1) = n - 1 := w_id (by omega) (by omega)
  unfold spec_l06Pairs
  have := loop_all (L := fun m i => spec_l06Pairs_l0 k m n ps i (some true)) (p := pairB n) (r := some false) (e := some true) ps ?_ ?_ (n := k) (by omega)
  · refine this.trans ?_
    cases ps.all (pairB n) <;> rfl
  · intro m i p hp hlt
    have hw := w_succ (i := i) (by omega)
    simp only [spec_l06Pairs_l0, hlt, decide_true, if_true, Int.natCast_nonneg, Int.toNat_natCast, hp, Option.bind_some, hw1, hw, l00In_ok]
    by_cases c : p.length = 2
    · obtain ⟨x, y, rfl⟩ := len_two c
      have g0 : ([x, y] : List Int)[0]? = some x := rfl
      have g1 : ([x, y] : List Int)[1]? = some y := rfl
      rw [decide_eq_true (show (([x, y] : List Int).length : Int) = 2 from rfl), if_neg (by simp)]
      simp only [g0, g1, Option.bind_some, pairB, List.all_cons, List.all_nil, Bool.and_true, List.length_cons, List.length_nil]
      by_cases c1 : 0 ≤ x ∧ x ≤ n - 1 <;> by_cases c2 : 0 ≤ y ∧ y ≤ n - 1 <;> simp [c1, c2]
    · rw [decide_eq_false (show ¬ (p.length : Int) = 2 by omega), if_pos (by simp)]
      unfold pairB
      rw [decide_eq_false c, Bool.false_and, if_neg (by simp)]
  · intro m
    simp only [spec_l06Pairs_l0, Int.lt_irrefl, decide_false, Bool.false_eq_true, if_false]
theorem arePairs_ok {k : Nat} (hk : KK ≤ k) {n : Int} (hn : 0 ≤ n ∧ n ≤ 12) {ps : List (List Int)} (hl : ps.length ≤ 30) : impl_arePairs k n ps = some (ps.all (pairB n)) := by
  have hK := KK_def
  unfold impl_arePairs slices_ContainsFunc_int64__impl_arePairs_1 slices_IndexFunc_int64__impl_arePairs_1
  rw [loop_find (L := fun m i => slices_IndexFunc_int64__impl_arePairs_1_l0 k m ps n (ps.length : Int) i (some (-1))) (p := fun p => !pairB n p) ps ?_ ?_ (n := k) (by omega)]
  · simp only [Option.bind_some, idxP_nonneg]
    congr 1
    rw [← List.not_all_eq_any_not, Bool.not_not]
  · intro m i p hp hlt
    have hw := w_succ (i := i) (by omega)
    simp only [slices_IndexFunc_int64__impl_arePairs_1_l0, impl_arePairs_1, hlt, decide_true, if_true, Int.natCast_nonneg, Int.toNat_natCast, hp, Option.bind_some, hw]
    by_cases c : p.length = 2
    · rw [decide_eq_true (show (p.length : Int) = 2 by omega), if_neg (by simp), elements_ok hk (by omega) (by omega)]
      simp only [Option.bind_some]
      unfold pairB
      rw [decide_eq_true c, Bool.true_and]
    · rw [decide_eq_false (show ¬ (p.length : Int) = 2 by omega), if_pos (by simp)]
      unfold pairB
      rw [decide_eq_false c, Bool.false_and]; rfl
  · intro m
    simp only [slices_IndexFunc_int64__impl_arePairs_1_l0, Int.lt_irrefl, decide_false, Bool.false_eq_true, if_false]
def midB (T : Nat → Nat → Bool) (a b x : Nat) : Bool := (decide (x ≠ a) && decide (x ≠ b)) && (T a x && T x b)
def btwB (n : Nat) (T : Nat → Nat → Bool) (a b : Nat) : Bool := (List.range n).any (midB T a b)
def covR (n : Nat) (T : Nat → Nat → Bool) (a c : Nat) : List (List Int) := ((List.range c).filter fun b => decide (a ≠ b) && (T a b && !btwB n T a b)).map fun b : Nat => [(a : Int), (b : Int)]
def cov (n : Nat) (T : Nat → Nat → Bool) (m : Nat) : List (List Int) := (List.range m).flatMap fun a => covR n T a n
def badB (T : Nat → Nat → Bool) (a b : Nat) : Bool := decide (a ≠ b) && (T a b && T b a)
def badR (n : Nat) (T : Nat → Nat → Bool) (a : Nat) : Bool := (List.range n).any (badB T a)
theorem covR_len (n : Nat) (T : Nat → Nat → Bool) (a c : Nat) : (covR n T a c).length ≤ c := by
  unfold covR
  rw [List.length_map]
  exact Nat.le_trans (List.length_filter_le ..) (by rw [List.length_range]; exact Nat.le_refl _)
theorem covR_succ (n : Nat) (T : Nat → Nat → Bool) (a c : Nat) : covR n T a (c + 1) = covR n T a c ++ (if (decide (a ≠ c) && (T a c && !btwB n T a c)) = true then [[(a : Int), (c : Int)]] else []) := by
  unfold covR
  rw [List.range_succ, List.filter_append, List.map_append, List.filter_cons, List.filter_nil]
  split <;> rfl
theorem cov_succ (n : Nat) (T : Nat → Nat → Bool) (m : Nat) : cov n T (m + 1) = cov n T m ++ covR n T m n := by
  unfold cov; rw [List.range_succ, List.flatMap_append]; simp
theorem cov_len (n : Nat) (T : Nat → Nat → Bool) : ∀ m, (cov n T m).length ≤ m * n
  | 0 => by simp [cov]
  | m + 1 => by
    rw [cov_succ, List.length_append, Nat.succ_mul]
    have := cov_len n T m
    have := covR_len n T m n
    omega
theorem specBtw_ok {k : Nat} (hk : KK ≤ k) {n : Nat} (hn : n ≤ 12) (T : Nat → Nat → Bool) {a b : Nat} (ha : a < n) (hb : b < n) (q : List (List Int)) (E : List (List Bool) → Int → Int → Bool → List (List Int) → Option (List (List Int) × Bool)) : spec_l06Covers_l2 k k (tbl n T) (a : Int) (b : Int) false 0 q E = E (tbl n T) (a : Int) (b : Int) (btwB n T a b) q := by
  have hK := KK_def
  refine loop_list (α := Nat) (A := Bool) (L := fun m i z => spec_l06Covers_l2 k m (tbl n T) (a : Int) (b : Int) z i q E) (I := fun pre z => z = (List.range pre.length).any (midB T a b)) (G := fun _ _ => E (tbl n T) (a : Int) (b : Int) (btwB n T a b) q) (List.range n) ?_ ?_ k (by simp; omega) _ rfl |> fun h => h
  · intro m pre x post z _ hz ih _ hlt
    rw [List.length_range] at hlt
    have hx : pre.length < n := by omega
    have hw := w_succ (i := pre.length) (by omega)
    have hs : (List.range (pre ++ [x]).length).any (midB T a b) = (z || midB T a b pre.length) := by rw [List.length_append, List.length_singleton, List.range_succ, List.any_append, hz]; simp
    simp only [spec_l06Covers_l2, tbl_len, hlt, decide_true, if_true, Int.natCast_nonneg, Int.toNat_natCast, tbl_get _ ha, tbl_get _ hx, rowT_get _ _ hx, rowT_get _ _ hb, Option.bind_some, hw]
    cases z with
    | true => rw [if_pos rfl]; exact ih _ (by rw [hs]; rfl)
    | false =>
      rw [if_neg (by simp)]
      rw [Bool.false_or] at hs
      rw [show midB T a b pre.length = ((decide (pre.length ≠ a) && decide (pre.length ≠ b)) && (T a pre.length && T pre.length b)) from rfl] at hs
      by_cases c1 : pre.length = a
      · rw [decide_eq_true (show (pre.length : Int) = (a : Int) by omega), if_neg (by simp)]
        exact ih _ (by rw [hs, decide_eq_false (by simpa using c1)]; rfl)
      · rw [decide_eq_false (show ¬ (pre.length : Int) = (a : Int) by omega), if_pos (by simp)]
        by_cases c2 : pre.length = b
        · rw [decide_eq_true (show (pre.length : Int) = (b : Int) by omega), if_neg (by simp)]
          exact ih _ (by rw [hs, decide_eq_false (show ¬ pre.length ≠ b by simpa using c2)]; simp)
        · rw [decide_eq_false (show ¬ (pre.length : Int) = (b : Int) by omega), if_pos (by simp)]
          rw [decide_eq_true (show pre.length ≠ a from c1), decide_eq_true (show pre.length ≠ b from c2)] at hs
          cases c3 : T a pre.length with
          | false => rw [if_neg (by simp)]; exact ih _ (by rw [hs, c3]; rfl)
          | true => rw [if_pos rfl]; exact ih _ (by rw [hs, c3]; simp)
  · intro m z hz
    subst hz
    simp only [spec_l06Covers_l2, tbl_len, List.length_range, Int.lt_irrefl, decide_false, Bool.false_eq_true, if_false]
    rfl
def resCo (n : Nat) (T : Nat → Nat → Bool) (b : Bool) : List (List Int) × Bool := if b = true then ([], false) else (cov n T n, true)
theorem specCovers_ok {k : Nat} (hk : KK ≤ k) {n : Nat} (hn : n ≤ 12) (T : Nat → Nat → Bool) : spec_l06Covers k (tbl n T) = some (resCo n T ((List.range n).any (badR n T))) := by
  have hK := KK_def
  have hL := LIM_def
  unfold spec_l06Covers
  have := loop_list (α := Nat) (A := List (List Int)) (L := fun m i q => spec_l06Covers_l0 k m (tbl n T) i q (fun q_5 => some (q_5, true))) (I := fun pre q => q = cov n T pre.length ∧ pre = List.range pre.length) (G := fun post _ => some (resCo n T (post.any (badR n T)))) (List.range n) ?_ ?_ k (by simp; omega) [] ⟨rfl, rfl⟩
  · exact this
  · intro m pre a' post q hxp ⟨hq, hpre⟩ ih hga hlt
    rw [List.length_range] at hlt
    have ha : pre.length < n := by omega
    have hae : a' = pre.length := by rw [List.getElem?_range ha] at hga; simpa using hga.symm
    subst hae
    have hw := w_succ (i := pre.length) (by omega)
    have hpre' : pre ++ [pre.length] = List.range (pre ++ [pre.length]).length := by rw [List.length_append, List.length_singleton, List.range_succ, ← hpre]
    simp only [spec_l06Covers_l0, tbl_len, hlt, decide_true, if_true, List.any_cons]
    have hrow := loop_list (α := Nat) (A := List (List Int)) (L := fun m2 i r => spec_l06Covers_l1 k m2 (tbl n T) (pre.length : Int) i r (fun table_2 a_3 q_4 => spec_l06Covers_l0 k m table_2 (w_i64 (a_3 + 1)) q_4 (fun q_5 => some (q_5, true)))) (I := fun pre2 r => r = cov n T pre.length ++ covR n T pre.length pre2.length) (G := fun post2 _ => some (resCo n T (post2.any (badB T pre.length) || post.any (badR n T)))) (List.range n) ?_ ?_ k (by simp; omega) q (by simp [hq, covR])
    · exact hrow
    · intro m2 pre2 b' post2 r hxp2 hr ih2 hgb hlt2
      rw [List.length_range] at hlt2
      have hb : pre2.length < n := by omega
      have hbe : b' = pre2.length := by rw [List.getElem?_range hb] at hgb; simpa using hgb.symm
      subst hbe
      have hw2 := w_succ (i := pre2.length) (by omega)
      have hs := covR_succ n T pre.length pre2.length
      have hrl : r.length ≤ 200 := by
        have h1 := cov_len n T pre.length
        have h2 := covR_len n T pre.length pre2.length
        have h3 : pre.length * n ≤ 12 * 12 := Nat.mul_le_mul (by omega) (by omega)
        rw [hr, List.length_append]; omega
      have hlim : (r.length + 1) * 24 ≤ LIM := by omega
      have skip : (decide (pre.length ≠ pre2.length) && (T pre.length pre2.length && !btwB n T pre.length pre2.length)) = false → r = cov n T pre.length ++ covR n T pre.length (pre2 ++ [pre2.length]).length := fun h => by
        rw [List.length_append, List.length_singleton, hs, h, if_neg (by simp), List.append_nil]; exact hr
      simp only [spec_l06Covers_l1, tbl_len, hlt2, decide_true, if_true, Int.natCast_nonneg, Int.toNat_natCast, tbl_get _ ha, tbl_get _ hb, rowT_get _ _ ha, rowT_get _ _ hb, Option.bind_some, hw2, List.any_cons, specBtw_ok hk hn T ha hb, List.length_singleton, hlim]
      by_cases c1 : pre.length = pre2.length
      · rw [decide_eq_true (show (pre.length : Int) = (pre2.length : Int) by omega), if_pos rfl, ih2 _ (skip (by rw [decide_eq_false (by simpa using c1)]; rfl))]
        rw [show badB T pre.length pre2.length = false by unfold badB; rw [decide_eq_false (show ¬ pre.length ≠ pre2.length by simpa using c1)]; rfl, Bool.false_or]
      · rw [decide_eq_false (show ¬ (pre.length : Int) = (pre2.length : Int) by omega), if_neg (by simp)]
        have e1 : badB T pre.length pre2.length = (T pre.length pre2.length && T pre2.length pre.length) := by unfold badB; rw [decide_eq_true (show pre.length ≠ pre2.length from c1), Bool.true_and]
        rw [e1]
        cases c2 : T pre.length pre2.length with
        | false => rw [if_pos (by simp), ih2 _ (skip (by rw [c2]; simp)), Bool.false_and, Bool.false_or]
        | true =>
          rw [if_neg (by simp)]
          cases c3 : T pre2.length pre.length with
          | true => rw [if_pos rfl]; rfl
          | false =>
            rw [if_neg (by simp), Bool.true_and, Bool.false_or]
            cases c4 : btwB n T pre.length pre2.length with
            | true => rw [if_neg (by simp)]; exact ih2 _ (skip (by rw [c2, c4]; simp))
            | false =>
              rw [if_pos (by simp)]
              refine ih2 _ ?_
              rw [List.length_append, List.length_singleton, hs, decide_eq_true (show pre.length ≠ pre2.length from c1), c2, c4, if_pos (by simp), hr, List.append_assoc]
    · intro m2 r hr
      rw [List.length_range] at hr ⊢
      simp only [spec_l06Covers_l1, tbl_len, Int.lt_irrefl, decide_false, Bool.false_eq_true, if_false, hw, List.any_nil, Bool.false_or]
      exact ih _ ⟨by rw [hr, List.length_append, List.length_singleton, cov_succ], hpre'⟩
  · intro m q ⟨hq, _⟩
    rw [List.length_range] at hq ⊢
    subst hq
    simp only [spec_l06Covers_l0, tbl_len, Int.lt_irrefl, decide_false, Bool.false_eq_true, if_false, List.any_nil]
    rfl
def ordB (T : Nat → Nat → Bool) (n : Nat) : Bool := (List.range n).all fun x => (List.range x).all fun y => !(T x y && T y x)
theorem ordB_bad (T : Nat → Nat → Bool) (n : Nat) : ordB T n = !(List.range n).any (badR n T) := by
  rw [← Bool.not_eq_eq_eq_not, Bool.eq_iff_iff]
  rw [Bool.not_eq_true', List.any_eq_true]
  unfold ordB badR badB
  constructor
  · intro h
    apply Classical.byContradiction
    intro hn
    have : ((List.range n).all fun x => (List.range x).all fun y => !(T x y && T y x)) = true := by
      rw [List.all_eq_true]
      intro x hx
      rw [List.all_eq_true]
      intro y hy
      rw [List.mem_range] at hx hy
      cases c : (T x y && T y x) with
      | false => rfl
      | true => exact absurd ⟨x, List.mem_range.2 hx, by rw [List.any_eq_true]; exact ⟨y, List.mem_range.2 (by omega), by rw [c, decide_eq_true (by omega)]; rfl⟩⟩ hn
    rw [h] at this; cases this
  · rintro ⟨x, hx, h⟩
    rw [List.any_eq_true] at h
    obtain ⟨y, hy, h⟩ := h
    rw [List.mem_range] at hx hy
    simp only [Bool.and_eq_true, decide_eq_true_eq] at h
    obtain ⟨h1, h2, h3⟩ := h
    cases c : ((List.range n).all fun x => (List.range x).all fun y => !(T x y && T y x)) with
    | false => rfl
    | true =>
      rw [List.all_eq_true] at c
      rcases Nat.lt_or_ge y x with g | g
      · have := c x (List.mem_range.2 hx)
        rw [List.all_eq_true] at this
        have := this y (List.mem_range.2 g)
        rw [h2, h3] at this; cases this
      · have := c y (List.mem_range.2 hy)
        rw [List.all_eq_true] at this
        have := this x (List.mem_range.2 (by omega))
        rw [h2, h3] at this; cases this
theorem isOrder_ok {k : Nat} (hk : KK ≤ k) {n : Nat} (hn : n ≤ 12) (T : Nat → Nat → Bool) : impl_below_isOrder k (tbl n T) = some (ordB T n) := by
  have hK := KK_def
  unfold impl_below_isOrder ordB
  rw [tbl_len]
  have := loop_allN (L := fun m i => impl_below_isOrder_l0 k m (tbl n T) (n : Int) i (some true)) (b := n) (p := fun x => (List.range x).all fun y => !(T x y && T y x)) (r := some false) (e := some true) ?_ ?_ (n := k) (by omega)
  · refine this.trans ?_
    cases ((List.range n).all fun x => (List.range x).all fun y => !(T x y && T y x)) <;> rfl
  · intro m x hx
    have hlt : (x : Int) < (n : Int) := by omega
    have hw := w_succ (i := x) (by omega)
    simp only [impl_below_isOrder_l0, hlt, decide_true, if_true]
    have inner := loop_allN (L := fun m2 i => impl_below_isOrder_l1 k m2 (tbl n T) (x : Int) (n : Int) (x : Int) (x : Int) i (fun b_1 x_2 x_3 => impl_below_isOrder_l0 k m b_1 x_2 (w_i64 (x_3 + 1)) (some true))) (b := x) (p := fun y => !(T x y && T y x)) (r := some false) (e := impl_below_isOrder_l0 k m (tbl n T) (n : Int) ((x + 1 : Nat) : Int) (some true)) ?_ ?_ (n := k) (by omega)
    · exact inner
    · intro m2 y hy
      have hlt2 : (y : Int) < (x : Int) := by omega
      have hyn : y < n := by omega
      have hw2 := w_succ (i := y) (by omega)
      simp only [impl_below_isOrder_l1, hlt2, decide_true, if_true, Int.natCast_nonneg, Int.toNat_natCast, tbl_get _ hx, tbl_get _ hyn, rowT_get _ _ hx, rowT_get _ _ hyn, Option.bind_some, hw2]
      cases T x y <;> cases T y x <;> simp
    · intro m2
      simp only [impl_below_isOrder_l1, Int.lt_irrefl, decide_false, Bool.false_eq_true, if_false, hw]
  · intro m
    simp only [impl_below_isOrder_l0, Int.lt_irrefl, decide_false, Bool.false_eq_true, if_false]
theorem implBtw_ok {k : Nat} (hk : KK ≤ k) {n : Nat} (hn : n ≤ 12) (T : Nat → Nat → Bool) {a b : Nat} (ha : a < n) (hb : b < n) (x9 x10 x14 x15 : Int) (q : List (List Int)) (E : List (List Bool) → Int → Int → Bool → Int → Int → Int → Int → List (List Int) → Option (List (List Int))) : impl_below_covers_l2 k k (tbl n T) (a : Int) (b : Int) false x9 x10 x14 x15 (n : Int) 0 q E = E (tbl n T) (a : Int) (b : Int) (btwB n T a b) x9 x10 x14 x15 q := by
  have hK := KK_def
  refine loop_list (α := Nat) (A := Bool) (L := fun m i z => impl_below_covers_l2 k m (tbl n T) (a : Int) (b : Int) z x9 x10 x14 x15 (n : Int) i q E) (I := fun pre z => z = (List.range pre.length).any (midB T a b)) (G := fun _ _ => E (tbl n T) (a : Int) (b : Int) (btwB n T a b) x9 x10 x14 x15 q) (List.range n) ?_ ?_ k (by simp; omega) _ rfl |> fun h => h
  · intro m pre x post z _ hz ih _ hlt
    rw [List.length_range] at hlt
    have hx : pre.length < n := by omega
    have hw := w_succ (i := pre.length) (by omega)
    have hs : (List.range (pre ++ [x]).length).any (midB T a b) = (z || midB T a b pre.length) := by rw [List.length_append, List.length_singleton, List.range_succ, List.any_append, hz]; simp
    simp only [impl_below_covers_l2, hlt, decide_true, if_true, Int.natCast_nonneg, Int.toNat_natCast, tbl_get _ ha, tbl_get _ hx, rowT_get _ _ hx, rowT_get _ _ hb, Option.bind_some, hw]
    cases z with
    | true => rw [if_pos rfl]; exact ih _ (by rw [hs]; rfl)
    | false =>
      rw [if_neg (by simp)]
      rw [Bool.false_or] at hs
      rw [show midB T a b pre.length = ((decide (pre.length ≠ a) && decide (pre.length ≠ b)) && (T a pre.length && T pre.length b)) from rfl] at hs
      by_cases c1 : pre.length = a
      · rw [decide_eq_true (show (pre.length : Int) = (a : Int) by omega), if_neg (by simp)]
        exact ih _ (by rw [hs, decide_eq_false (by simpa using c1)]; rfl)
      · rw [decide_eq_false (show ¬ (pre.length : Int) = (a : Int) by omega), if_pos (by simp)]
        by_cases c2 : pre.length = b
        · rw [decide_eq_true (show (pre.length : Int) = (b : Int) by omega), if_neg (by simp)]
          exact ih _ (by rw [hs, decide_eq_false (show ¬ pre.length ≠ b by simpa using c2)]; simp)
        · rw [decide_eq_false (show ¬ (pre.length : Int) = (b : Int) by omega), if_pos (by simp)]
          rw [decide_eq_true (show pre.length ≠ a from c1), decide_eq_true (show pre.length ≠ b from c2)] at hs
          cases c3 : T a pre.length with
          | false => rw [if_neg (by simp)]; exact ih _ (by rw [hs, c3]; rfl)
          | true => rw [if_pos rfl]; exact ih _ (by rw [hs, c3]; simp)
  · intro m z hz
    subst hz
    simp only [impl_below_covers_l2, List.length_range, Int.lt_irrefl, decide_false, Bool.false_eq_true, if_false]
    rfl
theorem implCovers_ok {k : Nat} (hk : KK ≤ k) {n : Nat} (hn : n ≤ 12) (T : Nat → Nat → Bool) : impl_below_covers k (tbl n T) = some (cov n T n) := by
  have hK := KK_def
  have hL := LIM_def
  unfold impl_below_covers
  rw [tbl_len]
  have := loop_list (α := Nat) (A := List (List Int)) (L := fun m i q => impl_below_covers_l0 k m (tbl n T) (n : Int) i q (fun q_6 => some q_6)) (I := fun pre q => q = cov n T pre.length) (G := fun _ _ => some (cov n T n)) (List.range n) ?_ ?_ k (by simp; omega) [] rfl
  · exact this
  · intro m pre a' post q hxp hq ih hga hlt
    rw [List.length_range] at hlt
    have ha : pre.length < n := by omega
    have hw := w_succ (i := pre.length) (by omega)
    simp only [impl_below_covers_l0, tbl_len, hlt, decide_true, if_true]
    have hrow := loop_list (α := Nat) (A := List (List Int)) (L := fun m2 i r => impl_below_covers_l1 k m2 (tbl n T) (pre.length : Int) (n : Int) (pre.length : Int) (n : Int) i r (fun b_2 x_3 x_4 q_5 => impl_below_covers_l0 k m b_2 x_3 (w_i64 (x_4 + 1)) q_5 (fun q_6 => some q_6))) (I := fun pre2 r => r = cov n T pre.length ++ covR n T pre.length pre2.length) (G := fun _ _ => some (cov n T n)) (List.range n) ?_ ?_ k (by simp; omega) q (by simp [hq, covR])
    · exact hrow
    · intro m2 pre2 b' post2 r hxp2 hr ih2 hgb hlt2
      rw [List.length_range] at hlt2
      have hb : pre2.length < n := by omega
      have hw2 := w_succ (i := pre2.length) (by omega)
      have hs := covR_succ n T pre.length pre2.length
      have hrl : r.length ≤ 200 := by
        have h1 := cov_len n T pre.length
        have h2 := covR_len n T pre.length pre2.length
        have h3 : pre.length * n ≤ 12 * 12 := Nat.mul_le_mul (by omega) (by omega)
        rw [hr, List.length_append]; omega
      have hlim : (r.length + 1) * 24 ≤ LIM := by omega
      have skip : (decide (pre.length ≠ pre2.length) && (T pre.length pre2.length && !btwB n T pre.length pre2.length)) = false → r = cov n T pre.length ++ covR n T pre.length (pre2 ++ [b']).length := fun h => by
        rw [List.length_append, List.length_singleton, hs, h, if_neg (by simp), List.append_nil]; exact hr
      simp only [impl_below_covers_l1, tbl_len, hlt2, decide_true, if_true, Int.natCast_nonneg, Int.toNat_natCast, tbl_get _ ha, tbl_get _ hb, rowT_get _ _ ha, rowT_get _ _ hb, Option.bind_some, hw2, implBtw_ok hk hn T ha hb, List.length_singleton, hlim]
      by_cases c1 : pre.length = pre2.length
      · rw [decide_eq_true (show (pre.length : Int) = (pre2.length : Int) by omega), if_neg (by simp)]
        exact ih2 _ (skip (by rw [decide_eq_false (by simpa using c1)]; rfl))
      · rw [decide_eq_false (show ¬ (pre.length : Int) = (pre2.length : Int) by omega), if_pos (by simp)]
        cases c2 : T pre.length pre2.length with
        | false => rw [if_neg (by simp)]; exact ih2 _ (skip (by rw [c2]; simp))
        | true =>
          rw [if_pos rfl]
          cases c4 : btwB n T pre.length pre2.length with
          | true => rw [if_neg (by simp)]; exact ih2 _ (skip (by rw [c2, c4]; simp))
          | false =>
            rw [if_pos (by simp)]
            refine ih2 _ ?_
            rw [List.length_append, List.length_singleton, hs, decide_eq_true (show pre.length ≠ pre2.length from c1), c2, c4, if_pos (by simp), hr, List.append_assoc]
    · intro m2 r hr
      rw [List.length_range] at hr ⊢
      simp only [impl_below_covers_l1, Int.lt_irrefl, decide_false, Bool.false_eq_true, if_false, hw]
      exact ih _ (by rw [hr, List.length_append, List.length_singleton, cov_succ])
  · intro m q hq
    rw [List.length_range] at hq ⊢
    subst hq
    simp only [impl_below_covers_l0, Int.lt_irrefl, decide_false, Bool.false_eq_true, if_false]
theorem same1S_ok {k : Nat} (hk : KK ≤ k) {a b : List Int} (ha : a.length ≤ 1000000000) : spec_l00Same k a b = some (decide (a = b)) := by
  have hK := KK_def
  unfold spec_l00Same
  by_cases hl : a.length = b.length
  · rw [decide_eq_true (show (a.length : Int) = (b.length : Int) by omega), if_neg (by simp)]
    refine loop_eq (L := fun n i => spec_l00Same_l0 k n a b i (some true)) a b hl ?_ ?_ (n := k) (by omega)
    · intro n i x y hx hy hlt
      have hw := w_succ (i := i) (by omega)
      by_cases e : x = y <;> simp [spec_l00Same_l0, hlt, hx, hy, hw, e]
    · intro n
      simp [spec_l00Same_l0]
  · have h2 : a ≠ b := fun e => hl (by rw [e])
    rw [decide_eq_false (show ¬ (a.length : Int) = (b.length : Int) by omega), if_pos (by simp), decide_eq_false h2]
theorem same1I_ok {k : Nat} (hk : KK ≤ k) {a b : List Int} (ha : a.length ≤ 1000000000) : slices_Equal_int64 k a b = some (decide (a = b)) := by
  have hK := KK_def
  unfold slices_Equal_int64
  by_cases hl : a.length = b.length
  · rw [decide_eq_true (show (a.length : Int) = (b.length : Int) by omega), if_neg (by simp)]
    refine loop_eq (L := fun n i => slices_Equal_int64_l0 k n a b (a.length : Int) i (some true)) a b hl ?_ ?_ (n := k) (by omega)
    · intro n i x y hx hy hlt
      have hw := w_succ (i := i) (by omega)
      by_cases e : x = y <;> simp [slices_Equal_int64_l0, hlt, hx, hy, hw, e]
    · intro n
      simp [slices_Equal_int64_l0]
  · have h2 : a ≠ b := fun e => hl (by rw [e])
    rw [decide_eq_false (show ¬ (a.length : Int) = (b.length : Int) by omega), if_pos (by simp), decide_eq_false h2]
theorem samePairs_ok {k : Nat} (hk : KK ≤ k) {a b : List (List Int)} (hl0 : a.length ≤ 1000000) (ha : ∀ x ∈ a, x.length ≤ 1000000) : spec_l06SamePairs k a b = some (decide (a = b)) := by
  have hK := KK_def
  unfold spec_l06SamePairs
  by_cases hl : a.length = b.length
  · rw [decide_eq_true (show (a.length : Int) = (b.length : Int) by omega), if_neg (by simp)]
    refine loop_eq (L := fun n i => spec_l06SamePairs_l0 k n a b i (some true)) a b hl ?_ ?_ (n := k) (by omega)
    · intro n i x y hx hy hlt
      have hw := w_succ (i := i) (by omega)
      have := ha x (List.mem_of_getElem? hx)
      simp only [spec_l06SamePairs_l0, hlt, decide_true, if_true, Int.natCast_nonneg, Int.toNat_natCast, hx, hy, Option.bind_some, hw, same1S_ok hk (show x.length ≤ 1000000000 by omega)]
      by_cases e : x = y
      · rw [decide_eq_true e, if_pos e]; simp
      · rw [decide_eq_false e, if_neg e]; simp
    · intro n
      simp [spec_l06SamePairs_l0]
  · have h2 : a ≠ b := fun e => hl (by rw [e])
    rw [decide_eq_false (show ¬ (a.length : Int) = (b.length : Int) by omega), if_pos (by simp), decide_eq_false h2]
theorem areSameP_ok {k : Nat} (hk : KK ≤ k) {a b : List (List Int)} (hl0 : a.length ≤ 1000000) (ha : ∀ x ∈ a, x.length ≤ 1000000) : impl_areSame k a b = some (decide (a = b)) := by
  have hK := KK_def
  unfold impl_areSame slices_EqualFunc_int64__slices_Equal_int64
  by_cases hl : a.length = b.length
  · rw [decide_eq_true (show (a.length : Int) = (b.length : Int) by omega), if_neg (by simp)]
    have := loop_eq (L := fun n i => slices_EqualFunc_int64__slices_Equal_int64_l0 k n b () a (a.length : Int) i (some true)) a b hl ?_ ?_ (n := k) (by omega)
    · have h0 : slices_EqualFunc_int64__slices_Equal_int64_l0 k k b () a (a.length : Int) 0 (some true) = _ := this
      rw [h0]; rfl
    · intro n i x y hx hy hlt
      have hw := w_succ (i := i) (by omega)
      have := ha x (List.mem_of_getElem? hx)
      simp only [slices_EqualFunc_int64__slices_Equal_int64_l0, hlt, decide_true, if_true, Int.natCast_nonneg, Int.toNat_natCast, hx, hy, Option.bind_some, hw, same1I_ok hk (show x.length ≤ 1000000000 by omega)]
      by_cases e : x = y
      · rw [decide_eq_true e, if_pos e]; simp
      · rw [decide_eq_false e, if_neg e]; simp
    · intro n
      simp [slices_EqualFunc_int64__slices_Equal_int64_l0]
  · have h2 : a ≠ b := fun e => hl (by rw [e])
    rw [decide_eq_false (show ¬ (a.length : Int) = (b.length : Int) by omega), if_pos (by simp), decide_eq_false h2]; rfl
theorem cov_mem {n : Nat} {T : Nat → Nat → Bool} {m : Nat} {p : List Int} (h : p ∈ cov n T m) : ∃ a b : Nat, a < m ∧ b < n ∧ p = [(a : Int), (b : Int)] ∧ a ≠ b ∧ T a b = true := by
  unfold cov at h
  obtain ⟨a, ha, h⟩ := List.mem_flatMap.1 h
  unfold covR at h
  obtain ⟨b, hb, rfl⟩ := List.mem_map.1 h
  rw [List.mem_filter] at hb
  have h2 := hb.2
  simp only [Bool.and_eq_true, decide_eq_true_eq] at h2
  exact ⟨a, b, List.mem_range.1 ha, List.mem_range.1 hb.1, rfl, h2.1, h2.2.1⟩
/-- A poset as stated. -/
structure PosP (p : Pos) (n : Nat) : Prop where
  size : p.1 = (n : Int)
  n12 : n ≤ 12
  len : p.2.length ≤ 30
  pairs : ∀ q ∈ p.2, pairOk n q
  anti : ∀ a b, a < n → b < n → cloF n p.2 a b = true → cloF n p.2 b a = true → a = b
  covs : p.2 = cov n (cloF n p.2) n
theorem poset_ok {k : Nat} (hk : KK ≤ k) {p : Pos} : ∃ b, spec_l06Ok k p = some b ∧ impl_ValidPoset k p = some b ∧ (b = true → ∃ n, PosP p n) := by
  have hK := KK_def
  unfold spec_l06Ok impl_ValidPoset impl_isSize
  rw [l00In_ok, within_ok]
  by_cases c1 : 0 ≤ p.1 ∧ p.1 ≤ 12
  case neg => exact ⟨false, by simp [c1], by simp [c1], fun h => by cases h⟩
  rw [decide_eq_true c1]
  simp only [Option.bind_some, Bool.not_true, Bool.false_eq_true, if_false]
  by_cases c2 : p.2.length ≤ 30
  case neg => exact ⟨false, by rw [decide_eq_true (by omega), if_pos rfl], by rw [decide_eq_true (by omega), if_pos rfl], fun h => by cases h⟩
  rw [decide_eq_false (by omega), if_neg (by simp), if_neg (by simp), specPairs_ok hk c1 c2, arePairs_ok hk c1 c2]
  cases c3 : p.2.all (pairB p.1) with
  | false => exact ⟨false, by simp, by simp, fun h => by cases h⟩
  | true =>
  obtain ⟨n, hn⟩ := Int.eq_ofNat_of_zero_le c1.1
  have hp : ∀ q ∈ p.2, pairOk n q := fun q hq => by
    have := List.all_eq_true.1 c3 q hq
    rw [hn] at this
    exact pairB_ok this
  have hn12 : n ≤ 12 := by omega
  have hcl := cov_len n (cloF n p.2) n
  have h144 : n * n ≤ 12 * 12 := Nat.mul_le_mul hn12 hn12
  have hcx : ∀ x ∈ cov n (cloF n p.2) n, x.length ≤ 1000000 := fun x hx => by obtain ⟨a, b, _, _, rfl, _⟩ := cov_mem hx; simp
  rw [hn]
  simp only [Option.bind_some, Bool.not_true, Bool.false_eq_true, if_false, specTable_ok hk hn12 c2 hp, belowOf_ok hk hn12 c2 hp, specCovers_ok hk hn12, isOrder_ok hk hn12, implCovers_ok hk hn12, ordB_bad, areSameP_ok hk (show (cov n (cloF n p.2) n).length ≤ 1000000 by omega) hcx]
  cases c4 : (List.range n).any (badR n (cloF n p.2)) with
  | true => exact ⟨false, by simp [resCo], by simp, fun h => by cases h⟩
  | false =>
  refine ⟨decide (cov n (cloF n p.2) n = p.2), ?_, by simp, fun h => ⟨n, hn, hn12, c2, hp, fun a b ha hb h1 h2 => ?_, (of_decide_eq_true h).symm⟩⟩
  · simp only [resCo, Bool.false_eq_true, if_false, if_true, samePairs_ok hk (show (cov n (cloF n p.2) n).length ≤ 1000000 by omega) hcx, Option.bind_some]
  · apply Classical.byContradiction
    intro hne
    have : (List.range n).any (badR n (cloF n p.2)) = true := by
      rw [List.any_eq_true]
      refine ⟨a, List.mem_range.2 ha, ?_⟩
      unfold badR
      rw [List.any_eq_true]
      refine ⟨b, List.mem_range.2 hb, ?_⟩
      unfold badB
      rw [h1, h2, decide_eq_true hne]; rfl
    rw [c4] at this; cases this
theorem l00Has_ok {k : Nat} (hk : KK ≤ k) {l : List Int} (hl : l.length ≤ 1000000000) (x : Int) : spec_l00Has k l x = some (l.contains x) := by
  have hK := KK_def
  unfold spec_l00Has
  have := loop_all (L := fun n i => spec_l00Has_l0 k n l x i (some false)) (p := fun y => !decide (y = x)) (r := some true) (e := some false) l ?_ ?_ (n := k) (by omega)
  · refine Eq.trans this ?_
    by_cases h : l.contains x = true
    · rw [h, if_neg]
      rw [List.all_eq_true]
      intro q
      have := q x (List.contains_iff_mem.1 h)
      simp at this
    · have h' : l.contains x = false := by simpa using h
      rw [h', if_pos]
      rw [List.all_eq_true]
      intro y hy
      have : y ≠ x := fun e => h (List.contains_iff_mem.2 (e ▸ hy))
      simpa using this
  · intro n i y hi hlt
    have hw := w_succ (i := i) (by omega)
    simp only [spec_l00Has_l0, hlt, decide_true, if_true, Int.natCast_nonneg, Int.toNat_natCast, hi, Option.bind_some, hw]
    by_cases e : y = x <;> simp [e]
  · intro n
    simp only [spec_l00Has_l0, Int.lt_irrefl, decide_false, Bool.false_eq_true, if_false]
theorem contains64_ok {k : Nat} (hk : KK ≤ k) {l : List Int} (hl : l.length ≤ 1000000000) (x : Int) : slices_Contains_int64 k l x = some (l.contains x) := by
  have hK := KK_def
  unfold slices_Contains_int64 slices_Index_int64
  rw [loop_find (L := fun n i => slices_Index_int64_l0 k n l x (l.length : Int) i (some (-1))) (p := fun y => decide (x = y)) l ?_ ?_ (n := k) (by omega)]
  · rw [Option.bind_some, idxP_nonneg]
    congr 1
    rw [Bool.eq_iff_iff, List.any_eq_true, List.contains_iff_mem]
    constructor
    · rintro ⟨y, hy, h⟩; rw [of_decide_eq_true h]; exact hy
    · intro h; exact ⟨x, h, decide_eq_true rfl⟩
  · intro n i y hi hlt
    have hw := w_succ (i := i) (by omega)
    simp only [slices_Index_int64_l0, hlt, decide_true, if_true, Int.natCast_nonneg, Int.toNat_natCast, hi, Option.bind_some, hw]
  · intro n
    simp [slices_Index_int64_l0]
def intsL (l : List Nat) : List Int := l.map fun i : Nat => (i : Int)
theorem intsL_len (l : List Nat) : (intsL l).length = l.length := List.length_map ..
theorem intsL_has (l : List Nat) (x : Nat) : (intsL l).contains (x : Int) = l.contains x := by
  rw [Bool.eq_iff_iff, List.contains_iff_mem, List.contains_iff_mem]
  unfold intsL
  rw [List.mem_map]
  constructor
  · rintro ⟨y, hy, e⟩
    have : y = x := by omega
    exact this ▸ hy
  · intro h; exact ⟨x, h, rfl⟩
def clearB (T : Nat → Nat → Bool) (out : List Nat) (a b : Nat) : Bool := decide (b = a) || (!T b a || out.contains b)
def rdyB (n : Nat) (T : Nat → Nat → Bool) (out : List Nat) (a : Nat) : Bool := !out.contains a && (List.range n).all (clearB T out a)
def nextO (n : Nat) (T : Nat → Nat → Bool) (out : List Nat) : Option Nat := (List.range n).find? (rdyB n T out)
def fo (n : Nat) (T : Nat → Nat → Bool) : Nat → List Nat → List Nat
  | 0, out => out
  | d + 1, out => match nextO n T out with
    | some a => fo n T d (out ++ [a])
    | none => out
structure goodQ (n : Nat) (T : Nat → Nat → Bool) (out : List Nat) : Prop where
  nodup : out.Nodup
  lt : ∀ i ∈ out, i < n
  down : ∀ pre a post, out = pre ++ a :: post → a ∉ pre ∧ ∀ b, b < n → T b a = true → b ≠ a → b ∈ pre
theorem nextO_ok {n : Nat} {T : Nat → Nat → Bool} {out : List Nat} {a : Nat} (h : nextO n T out = some a) : a < n ∧ a ∉ out ∧ ∀ b, b < n → T b a = true → b ≠ a → b ∈ out := by
  unfold nextO at h
  have h1 := List.mem_range.1 (List.mem_of_find?_eq_some h)
  have h2 : rdyB n T out a = true := List.find?_some h
  unfold rdyB at h2
  simp only [Bool.and_eq_true, Bool.not_eq_true', List.all_eq_true, List.mem_range] at h2
  refine ⟨h1, fun hm => ?_, fun b hb ht hne => ?_⟩
  · have := List.contains_iff_mem.2 hm
    rw [h2.1] at this; cases this
  · have := h2.2 b hb
    unfold clearB at this
    rw [decide_eq_false hne, ht, Bool.not_true, Bool.false_or, Bool.false_or] at this
    exact List.contains_iff_mem.1 this
theorem goodQ_next {n : Nat} {T : Nat → Nat → Bool} {out : List Nat} (g : goodQ n T out) {a : Nat} (h : nextO n T out = some a) : goodQ n T (out ++ [a]) := by
  obtain ⟨h1, h2, h3⟩ := nextO_ok h
  refine ⟨?_, fun i hi => ?_, fun pre x post e => ?_⟩
  · rw [List.nodup_append]
    exact ⟨g.nodup, by simp, fun x hx y hy e => h2 (by rw [List.mem_singleton] at hy; subst hy; subst e; exact hx)⟩
  · rcases List.mem_append.1 hi with hi | hi
    · exact g.lt i hi
    · rw [List.mem_singleton.1 hi]; exact h1
  · rcases List.eq_nil_or_concat post with rfl | ⟨post', y, rfl⟩
    · have e2 := List.append_inj' e (by simp)
      obtain ⟨e3, e4⟩ := e2
      have e5 : a = x := by simpa using e4
      subst e3; subst e5
      exact ⟨h2, h3⟩
    · rw [List.concat_eq_append, ← List.cons_append, ← List.append_assoc] at e
      exact g.down pre x post' (List.append_inj' e (by simp)).1
theorem goodQ_nil (n : Nat) (T : Nat → Nat → Bool) : goodQ n T [] := ⟨List.nodup_nil, by simp, fun pre a post e => by simp at e⟩
theorem countP_lt {p q : Nat → Bool} : ∀ l : List Nat, (∀ x ∈ l, p x = true → q x = true) → (∃ x ∈ l, q x = true ∧ p x = false) → l.countP p < l.countP q
  | [], _, h => by obtain ⟨x, hx, _⟩ := h; cases hx
  | y :: l, h, ⟨x, hx, h1, h2⟩ => by
    have hm : l.countP p ≤ l.countP q := List.countP_mono_left fun x hx => h x (by simp [hx])
    rw [List.countP_cons, List.countP_cons]
    rcases List.mem_cons.1 hx with rfl | hx
    · rw [h1, h2]; simp; omega
    · have := countP_lt l (fun x hx => h x (by simp [hx])) ⟨x, hx, h1, h2⟩
      cases c : p y with
      | false => simp; omega
      | true => rw [h y (by simp) c]; simp; exact this
/-- Something is always next. -/
def progQ (n : Nat) (T : Nat → Nat → Bool) : Prop := ∀ out, goodQ n T out → out.length < n → ∃ a, nextO n T out = some a
theorem clear_ex {n : Nat} {T : Nat → Nat → Bool} (hlt : ∀ a b, a < n → b < n → T b a = true → b ≠ a → (List.range n).countP (fun x => T x b) < (List.range n).countP (fun x => T x a)) {out : List Nat} : ∀ (v a : Nat), a < n → a ∉ out → (List.range n).countP (fun x => T x a) ≤ v → ∃ c, c < n ∧ rdyB n T out c = true
  | v, a, ha, hn, hv => by
    by_cases c : rdyB n T out a = true
    · exact ⟨a, ha, c⟩
    · have hc : out.contains a = false := by simpa using hn
      unfold rdyB at c
      rw [hc] at c
      simp only [Bool.not_false, Bool.true_and, List.all_eq_true, List.mem_range] at c
      have : ∃ b, b < n ∧ clearB T out a b = false := by
        apply Classical.byContradiction
        intro q
        refine c fun b hb => ?_
        cases hcb : clearB T out a b with
        | true => rfl
        | false => exact absurd ⟨b, hb, hcb⟩ q
      obtain ⟨b, hb, hcb⟩ := this
      unfold clearB at hcb
      simp only [Bool.or_eq_false_iff, Bool.not_eq_false', decide_eq_false_iff_not] at hcb
      obtain ⟨z1, z2, z3⟩ := hcb
      have hlt' := hlt a b ha hb z2 z1
      match v with
      | 0 => omega
      | v + 1 => exact clear_ex hlt v b hb (fun hm => by rw [List.contains_iff_mem.2 hm] at z3; cases z3) (by omega)
theorem prog_ok {n : Nat} {ps : List (List Int)} {T : Nat → Nat → Bool} (o : Ord n ps T) (anti : ∀ a b, a < n → b < n → T a b = true → T b a = true → a = b) : progQ n T := by
  intro out g hl
  have hex : ∃ a, a < n ∧ a ∉ out := by
    apply Classical.byContradiction
    intro q
    have hs : (List.range n).Subset out := fun i hi => Classical.byContradiction fun q2 => q ⟨i, List.mem_range.1 hi, q2⟩
    have := List.nodup_range.length_le_of_subset hs
    rw [List.length_range] at this
    omega
  obtain ⟨a, ha, hn⟩ := hex
  obtain ⟨c, hc, hr⟩ := clear_ex (T := T) (n := n) (out := out) (fun a b ha hb ht hne => by
    refine countP_lt _ (fun x hx h => o.trans x b a hb h ht) ⟨a, List.mem_range.2 ha, o.refl a, ?_⟩
    cases hab : T a b with
    | false => rfl
    | true => exact absurd (anti b a hb ha ht hab) hne) _ a ha hn (Nat.le_refl _)
  unfold nextO
  cases hf : (List.range n).find? (rdyB n T out) with
  | some a => exact ⟨a, rfl⟩
  | none =>
    rw [List.find?_eq_none] at hf
    exact absurd hr (hf c (List.mem_range.2 hc))
theorem fo_good {n : Nat} {T : Nat → Nat → Bool} (hp : progQ n T) : ∀ (d : Nat) (out : List Nat), goodQ n T out → out.length + d = n → goodQ n T (fo n T d out) ∧ (fo n T d out).length = n
  | 0, out, g, h => ⟨g, by unfold fo; omega⟩
  | d + 1, out, g, h => by
    obtain ⟨a, ha⟩ := hp out g (by omega)
    unfold fo
    rw [ha]
    exact fo_good hp d _ (goodQ_next g ha) (by rw [List.length_append, List.length_singleton]; omega)
theorem range_at {n : Nat} {pre post : List Nat} {x : Nat} (h : (List.range n)[pre.length]? = some x) (hlt : (pre.length : Int) < ((List.range n).length : Int)) : x = pre.length ∧ pre.length < n := by
  rw [List.length_range] at hlt
  rw [List.getElem?_range (by omega)] at h
  exact ⟨by simpa using h.symm, by omega⟩
theorem specReady_ok {k : Nat} (hk : KK ≤ k) {n : Nat} (hn : n ≤ 12) (T : Nat → Nat → Bool) {out : List Nat} (hl : out.length ≤ 12) {a : Nat} (ha : a < n) (z : Bool) (E : List (List Bool) → Int → Bool → List Int → Option (List Int)) : spec_l06First_l2 k k (tbl n T) (a : Int) z 0 (intsL out) E = E (tbl n T) (a : Int) (z && (List.range n).all (clearB T out a)) (intsL out) := by
  have hK := KK_def
  have hcl := intsL_len out
  refine loop_list (α := Nat) (A := Bool) (L := fun m i z => spec_l06First_l2 k m (tbl n T) (a : Int) z i (intsL out) E) (I := fun _ _ => True) (G := fun post z => E (tbl n T) (a : Int) (z && post.all (clearB T out a)) (intsL out)) (List.range n) ?_ ?_ k (by simp; omega) z trivial
  · intro m pre b post z _ _ ih hg hlt
    obtain ⟨hbe, hb⟩ := range_at (post := post) hg hlt
    have hlt' : (b : Int) < (n : Int) := by omega
    have hw := w_succ (i := pre.length) (by omega)
    rw [← hbe] at ih hw ⊢
    have hb : b < n := by omega
    simp only [spec_l06First_l2, tbl_len, hlt', decide_true, if_true, Int.natCast_nonneg, Int.toNat_natCast, tbl_get _ hb, rowT_get _ _ ha, Option.bind_some, l00Has_ok hk (show (intsL out).length ≤ 1000000000 by omega), intsL_has, hw, List.all_cons]
    cases z with
    | false => rw [if_neg (by simp), Bool.false_and]
    | true =>
      rw [if_pos rfl, Bool.true_and]
      have hc : clearB T out a b = (decide (b = a) || (!T b a || out.contains b)) := rfl
      by_cases c1 : b = a
      · rw [decide_eq_true (show (b : Int) = (a : Int) by omega), if_pos rfl, ih _ trivial, hc, decide_eq_true c1, Bool.true_or]
      · rw [decide_eq_false (show ¬ (b : Int) = (a : Int) by omega), if_neg (by simp), hc, decide_eq_false c1, Bool.false_or]
        cases T b a with
        | false => rw [if_pos (by simp), ih _ trivial]; rfl
        | true => rw [if_neg (by simp), ih _ trivial]; rfl
  · intro m z _
    simp only [spec_l06First_l2, tbl_len, List.length_range, Int.lt_irrefl, decide_false, Bool.false_eq_true, if_false, List.all_nil, Bool.and_true]
def resN (n : Nat) (T : Nat → Nat → Bool) (out : List Nat) (o : Option Nat) (E : List (List Bool) → List Int → Option (List Int)) : Option (List Int) := match o with
  | some a => E (tbl n T) (intsL (out ++ [a]))
  | none => E (tbl n T) (intsL out)
theorem specFirst_in {k : Nat} (hk : KK ≤ k) {n : Nat} (hn : n ≤ 12) (T : Nat → Nat → Bool) {out : List Nat} (hl : out.length ≤ 12) (E : List (List Bool) → List Int → Option (List Int)) : spec_l06First_l1 k k (tbl n T) 0 (intsL out) E = resN n T out (nextO n T out) E := by
  have hK := KK_def
  have hL := LIM_def
  have hcl := intsL_len out
  refine loop_list (α := Nat) (A := Unit) (L := fun m i _ => spec_l06First_l1 k m (tbl n T) i (intsL out) E) (I := fun _ _ => True) (G := fun post _ => resN n T out (post.find? (rdyB n T out)) E) (List.range n) ?_ ?_ k (by simp; omega) () trivial
  · intro m pre a post _ _ _ ih hg hlt
    obtain ⟨hbe, hb⟩ := range_at (post := post) hg hlt
    have hlt' : (a : Int) < (n : Int) := by omega
    have hw := w_succ (i := pre.length) (by omega)
    rw [← hbe] at ih hw ⊢
    have ha : a < n := by omega
    have hlim : ((intsL out).length + 1) * 8 ≤ LIM := by omega
    have hr : rdyB n T out a = (!out.contains a && (List.range n).all (clearB T out a)) := rfl
    simp only [spec_l06First_l1, tbl_len, hlt', decide_true, if_true, Option.bind_some, l00Has_ok hk (show (intsL out).length ≤ 1000000000 by omega), intsL_has, specReady_ok hk hn T hl ha, ← hr, List.length_singleton, hlim, hw]
    rw [List.find?_cons]
    cases rdyB n T out a with
    | true =>
      rw [if_pos rfl]
      show _ = E (tbl n T) (intsL (out ++ [a]))
      unfold intsL
      rw [List.map_append]; rfl
    | false => rw [if_neg (by simp)]; exact ih () trivial
  · intro m _ _
    simp only [spec_l06First_l1, tbl_len, List.length_range, Int.lt_irrefl, decide_false, Bool.false_eq_true, if_false, List.find?_nil]
    rfl
theorem specFirst_loop {k : Nat} (hk : KK ≤ k) {n : Nat} (hn : n ≤ 12) (T : Nat → Nat → Bool) (hp : progQ n T) : ∀ (d m : Nat) (out : List Nat), goodQ n T out → out.length + d = n → d < m → spec_l06First_l0 k m (tbl n T) (intsL out) (fun q_4 => some q_4) = some (intsL (fo n T d out))
  | d, 0, out, _, _, h => by omega
  | 0, m + 1, out, g, h, _ => by
    have hcl := intsL_len out
    have : ¬ ((intsL out).length : Int) < ((tbl n T).length : Int) := by rw [tbl_len]; omega
    simp only [spec_l06First_l0, this, decide_false, Bool.false_eq_true, if_false, fo]
  | d + 1, m + 1, out, g, h, hm => by
    have hcl := intsL_len out
    have : ((intsL out).length : Int) < ((tbl n T).length : Int) := by rw [tbl_len]; omega
    obtain ⟨a, ha⟩ := hp out g (by omega)
    simp only [spec_l06First_l0, this, decide_true, if_true, specFirst_in hk hn T (show out.length ≤ 12 by omega), ha, resN, fo]
    exact specFirst_loop hk hn T hp d m _ (goodQ_next g ha) (by rw [List.length_append, List.length_singleton]; omega) (by omega)
theorem specFirst_ok {k : Nat} (hk : KK ≤ k) {n : Nat} (hn : n ≤ 12) (T : Nat → Nat → Bool) (hp : progQ n T) : spec_l06First k (tbl n T) = some (intsL (fo n T n [])) := by
  have hK := KK_def
  unfold spec_l06First
  exact specFirst_loop hk hn T hp n k [] (goodQ_nil n T) (by simp) (by omega)
theorem implReady_ok {k : Nat} (hk : KK ≤ k) {n : Nat} (hn : n ≤ 12) (T : Nat → Nat → Bool) {out : List Nat} (hl : out.length ≤ 12) {a : Nat} (ha : a < n) (z : Bool) (x15 x16 x19 x20 : Int) (v : Pos) (E : Int → Bool → Int → Int → Int → Int → List (List Bool) → List Int → Pos → Option (List Int × Int)) : impl_FirstExtension_l2 k k (a : Int) z x15 x16 x19 x20 (n : Int) 0 (tbl n T) (intsL out) v E = E (a : Int) (z && (List.range n).all (clearB T out a)) x15 x16 x19 x20 (tbl n T) (intsL out) v := by
  have hK := KK_def
  have hcl := intsL_len out
  refine loop_list (α := Nat) (A := Bool) (L := fun m i z => impl_FirstExtension_l2 k m (a : Int) z x15 x16 x19 x20 (n : Int) i (tbl n T) (intsL out) v E) (I := fun _ _ => True) (G := fun post z => E (a : Int) (z && post.all (clearB T out a)) x15 x16 x19 x20 (tbl n T) (intsL out) v) (List.range n) ?_ ?_ k (by simp; omega) z trivial
  · intro m pre b post z _ _ ih hg hlt
    obtain ⟨hbe, hb⟩ := range_at (post := post) hg hlt
    have hlt' : (b : Int) < (n : Int) := by omega
    have hw := w_succ (i := pre.length) (by omega)
    rw [← hbe] at ih hw ⊢
    have hb : b < n := by omega
    simp only [impl_FirstExtension_l2, tbl_len, rowT_len, ha, hb, and_self, hlt', decide_true, if_true, Int.natCast_nonneg, Int.toNat_natCast, tbl_get _ hb, rowT_get _ _ ha, Option.bind_some, contains64_ok hk (show (intsL out).length ≤ 1000000000 by omega), intsL_has, hw, List.all_cons]
    cases z with
    | false => rw [if_neg (by simp), ih _ trivial, Bool.false_and, Bool.false_and]
    | true =>
      rw [if_pos rfl, Bool.true_and]
      have hc : clearB T out a b = (decide (b = a) || (!T b a || out.contains b)) := rfl
      by_cases c1 : b = a
      · rw [decide_eq_true (show (a : Int) = (b : Int) by omega), if_pos rfl, ih _ trivial, hc, decide_eq_true c1, Bool.true_or]
      · rw [decide_eq_false (show ¬ (a : Int) = (b : Int) by omega), if_neg (by simp), hc, decide_eq_false c1, Bool.false_or]
        cases T b a with
        | false => rw [if_pos (by simp), ih _ trivial]; rfl
        | true => rw [if_neg (by simp), ih _ trivial]; rfl
  · intro m z _
    simp only [impl_FirstExtension_l2, List.length_range, Int.lt_irrefl, decide_false, Bool.false_eq_true, if_false, List.all_nil, Bool.and_true]
def resM (n : Nat) (T : Nat → Nat → Bool) (x15 x16 : Int) (v : Pos) (out : List Nat) (o : Option Nat) (E : Int → Int → List (List Bool) → List Int → Pos → Option (List Int × Int)) : Option (List Int × Int) := match o with
  | some a => E x15 x16 (tbl n T) (intsL (out ++ [a])) v
  | none => E x15 x16 (tbl n T) (intsL out) v
theorem implFirst_in {k : Nat} (hk : KK ≤ k) {n : Nat} (hn : n ≤ 12) (T : Nat → Nat → Bool) {out : List Nat} (hl : out.length ≤ 12) (x15 x16 : Int) {v : Pos} (hv : v.1 = (n : Int)) (E : Int → Int → List (List Bool) → List Int → Pos → Option (List Int × Int)) : impl_FirstExtension_l1 k k x15 x16 (n : Int) 0 (tbl n T) (intsL out) v E = resM n T x15 x16 v out (nextO n T out) E := by
  have hK := KK_def
  have hL := LIM_def
  have hcl := intsL_len out
  refine loop_list (α := Nat) (A := Unit) (L := fun m i _ => impl_FirstExtension_l1 k m x15 x16 (n : Int) i (tbl n T) (intsL out) v E) (I := fun _ _ => True) (G := fun post _ => resM n T x15 x16 v out (post.find? (rdyB n T out)) E) (List.range n) ?_ ?_ k (by simp; omega) () trivial
  · intro m pre a post _ _ _ ih hg hlt
    obtain ⟨hbe, hb⟩ := range_at (post := post) hg hlt
    have hlt' : (a : Int) < (n : Int) := by omega
    have hw := w_succ (i := pre.length) (by omega)
    rw [← hbe] at ih hw ⊢
    have ha : a < n := by omega
    have hlim : ((intsL out).length + 1) * 8 ≤ LIM := by omega
    have hr : rdyB n T out a = (!out.contains a && (List.range n).all (clearB T out a)) := rfl
    simp only [impl_FirstExtension_l1, hlt', decide_true, if_true, Option.bind_some, contains64_ok hk (show (intsL out).length ≤ 1000000000 by omega), intsL_has, hv, implReady_ok hk hn T hl ha, ← hr, List.length_singleton, hlim, hw]
    rw [List.find?_cons]
    cases rdyB n T out a with
    | true =>
      rw [if_pos rfl]
      show _ = E x15 x16 (tbl n T) (intsL (out ++ [a])) v
      unfold intsL
      rw [List.map_append]; rfl
    | false => rw [if_neg (by simp)]; exact ih () trivial
  · intro m _ _
    simp only [impl_FirstExtension_l1, List.length_range, Int.lt_irrefl, decide_false, Bool.false_eq_true, if_false, List.find?_nil]
    rfl
theorem implFirst_loop {k : Nat} (hk : KK ≤ k) {n : Nat} (hn : n ≤ 12) (T : Nat → Nat → Bool) (hp : progQ n T) {v : Pos} (hv : v.1 = (n : Int)) : ∀ (d m c : Nat) (out : List Nat), goodQ n T out → out.length + d = n → c + d = n → d < m → impl_FirstExtension_l0 k m (n : Int) (c : Int) (tbl n T) (intsL out) v (fun q_10 => some (q_10, 0)) = some (intsL (fo n T d out), 0)
  | d, 0, c, out, _, _, _, h => by omega
  | 0, m + 1, c, out, g, h, hc, _ => by
    have : ¬ (c : Int) < (n : Int) := by omega
    simp only [impl_FirstExtension_l0, this, decide_false, Bool.false_eq_true, if_false, fo]
  | d + 1, m + 1, c, out, g, h, hc, hm => by
    have : (c : Int) < (n : Int) := by omega
    have hw := w_succ (i := c) (by omega)
    obtain ⟨a, ha⟩ := hp out g (by omega)
    simp only [impl_FirstExtension_l0, this, decide_true, if_true, hv, implFirst_in hk hn T (show out.length ≤ 12 by omega) _ _ hv, ha, resM, fo, hw]
    exact implFirst_loop hk hn T hp hv d m (c + 1) _ (goodQ_next g ha) (by rw [List.length_append, List.length_singleton]; omega) (by omega) (by omega)
/-- A picture. -/
def wid (lines : List (List UInt8)) : Nat := (lines.headD []).length
def okC (c : UInt8) : Bool := decide (32 ≤ c.toNat ∧ c.toNat ≤ 126)
def okLine (w : Nat) (l : List UInt8) : Bool := decide (l.length = w) && (decide (l.length ≤ 80) && l.all okC)
def okPic (lines : List (List UInt8)) : Bool := lines.all (okLine (wid lines)) && decide (lines.length ≤ 60)
theorem wid_get {lines : List (List UInt8)} {i : Nat} {x : List UInt8} (h : lines[i]? = some x) : ∃ y, lines[0]? = some y ∧ y.length = wid lines := by
  cases lines with
  | nil => simp at h
  | cons y l => exact ⟨y, rfl, rfl⟩
theorem l30Ok_ok {k : Nat} (hk : KK ≤ k) {a : List (List UInt8)} (ha : a.length ≤ 1000000000000) (hx : ∀ x ∈ a, x.length ≤ 1000000000000) : spec_l30Ok k a = some (okPic a) := by
  unfold spec_l30Ok
  have hK := KK_def
  have := loop_all (L := fun n i => spec_l30Ok_l0 k n a i fun lines_6 => some (decide ((List.length lines_6 : Int) ≤ 60))) (p := okLine (wid a)) (r := some false) (e := some (decide (a.length ≤ 60))) a ?_ ?_ (n := k) (by omega)
  · refine Eq.trans this ?_
    unfold okPic
    cases a.all (okLine (wid a)) <;> rfl
  · intro n i x hi hlt
    have hxl := hx x (List.mem_of_getElem? hi)
    have hw := w_succ (i := i) (by omega)
    obtain ⟨y, h0, hy⟩ := wid_get hi
    have inner := loop_all (L := fun m j => spec_l30Ok_l1 k m a (i : Int) j fun lines_4 i_5 => spec_l30Ok_l0 k n lines_4 (w_i64 (i_5 + 1)) fun lines_6 => some (decide ((List.length lines_6 : Int) ≤ 60)))
      (p := okC) (r := some false) (e := spec_l30Ok_l0 k n a ((i + 1 : Nat) : Int) fun lines_6 => some (decide ((List.length lines_6 : Int) ≤ 60))) x ?_ ?_ (n := k) (by omega)
    · simp only [spec_l30Ok_l0, hlt, decide_true, if_true, Int.natCast_nonneg, Int.toNat_natCast, hi, h0, Option.bind_some]
      unfold okLine
      by_cases h1 : x.length = wid a
      · have h1' : (x.length : Int) = (y.length : Int) := by omega
        by_cases h2 : x.length ≤ 80
        · have h2' : ¬ (80 < (x.length : Int)) := by omega
          have e1 : (decide (x.length = wid a) && (decide (x.length ≤ 80) && x.all okC)) = x.all okC := by simp [h1, h2]; omega
          rw [decide_eq_true h1', if_neg (by simp), decide_eq_false h2', if_neg (by simp), e1]
          exact inner
        · have h2' : (80 < (x.length : Int)) := by omega
          rw [decide_eq_true h1', if_neg (by simp), decide_eq_true h2', if_pos rfl, decide_eq_false h2, if_neg (by simp)]
      · have h1' : ¬ (x.length : Int) = (y.length : Int) := by omega
        rw [decide_eq_false h1', if_pos (by simp), decide_eq_false h1, if_neg (by simp)]
    · intro m j c hj hjlt
      have hw2 := w_succ (i := j) (by omega)
      simp only [spec_l30Ok_l1, hjlt, decide_true, if_true, Int.natCast_nonneg, Int.toNat_natCast, hi, hj, Option.bind_some, hw2]
      unfold okC z_u8
      by_cases h3 : c.toNat < 32
      · rw [decide_eq_true (by omega), if_pos rfl, if_neg (by simp; omega)]
      · rw [decide_eq_false (by omega), if_neg (by simp)]
        by_cases h4 : 126 < c.toNat
        · rw [decide_eq_true (by omega), if_pos rfl, if_neg (by simp; omega)]
        · rw [decide_eq_false (by omega), if_neg (by simp), if_pos (by simp; omega)]
    · intro m
      simp [spec_l30Ok_l1, hi, hw]
  · intro n
    simp only [spec_l30Ok_l0, Int.lt_irrefl, decide_false, Bool.false_eq_true, if_false]
    exact congrArg some (decide_eq_decide.2 (by omega))
theorem repeatL_one' (b : UInt8) : ∀ n, Lib.repeatL [b] n = List.replicate n b
  | 0 => rfl
  | n + 1 => by simp [Lib.repeatL, repeatL_one' b n, List.replicate_succ]
theorem repeat_ok (b : UInt8) {n : Nat} (hn : n ≤ 1000000) : strings_Repeat [b] (n : Int) = some (List.replicate n b) := by
  unfold strings_Repeat
  rw [if_pos ⟨by omega, by omega, by simp; omega⟩, Int.toNat_natCast, repeatL_one']
abbrev Pic := List (List UInt8)
def doneP (q : Pic) : Pic × Int := if okPic q = true then (q, 0) else ([], 5)
theorem l30Times_ok {k : Nat} (hk : KK ≤ k) (b : UInt8) {n : Nat} (hn : n ≤ 1000000) : spec_l30Times k [b] (n : Int) = some (List.replicate n b) := by
  have hK := KK_def
  unfold spec_l30Times
  have := loop_list (L := fun m i q => spec_l30Times_l0 k m [b] (n : Int) q i (fun out_1 => some out_1)) (I := fun pre q => q = pre) (G := fun post q => some (q ++ post)) (List.replicate n b) ?_ ?_ k (by simp; omega) [] rfl
  · simpa using this
  · intro m pre x post q hx hq ih hg hlt
    subst hq
    rw [List.length_replicate] at hlt
    have hw := w_succ (i := q.length) (by omega)
    have hb : x = b := List.eq_of_mem_replicate (List.mem_of_getElem? hg)
    subst hb
    have ih := ih _ rfl
    simp only [spec_l30Times_l0, hlt, decide_true, if_true, hw]
    rw [if_pos (by simp only [List.length_singleton]; omega), ih]
    simp
  · intro m q hq
    simp [spec_l30Times_l0]
theorem l30Done_ok {k : Nat} (hk : KK ≤ k) {q : Pic} (ha : q.length ≤ 1000000000000) (hx : ∀ x ∈ q, x.length ≤ 1000000000000) : (spec_l30Done_g k q).bind (fun y => some (y.2.1.1, y.1.1.2.1)) = some (doneP q) := by
  unfold spec_l30Done_g doneP
  rw [l30Ok_ok hk ha hx]
  cases okPic q <;> simp
theorem okPic_same {q : Pic} {W : Nat} (h : ∀ l ∈ q, l.length = W ∧ l.all okC = true) : okPic q = (decide (q.length ≤ 60) && (q.isEmpty || decide (W ≤ 80))) := by
  unfold okPic
  cases q with
  | nil => simp
  | cons z zs =>
    have hw : wid (z :: zs) = W := (h z (by simp)).1
    rw [hw, List.isEmpty_cons, Bool.false_or, Bool.and_comm]
    congr 1
    by_cases h80 : W ≤ 80
    · rw [decide_eq_true h80, List.all_eq_true]
      intro l hl
      obtain ⟨h1, h2⟩ := h l hl
      unfold okLine
      simp [h1, h2, h80]
    · rw [decide_eq_false h80, List.all_eq_false]
      refine ⟨z, by simp, ?_⟩
      unfold okLine
      simp [(h z (by simp)).1, h80]
theorem pictured_done {k : Nat} (hk : KK ≤ k) {q : Pic} {W : Nat} (hq : q.length ≤ 1000000) (hW : W ≤ 1000000) (h : ∀ l ∈ q, l.length = W ∧ l.all okC = true) : impl_pictured k q = some (doneP q) := by
  have hK := KK_def
  have hL := LIM_def
  unfold impl_pictured
  let W' : Int := if q = [] then 0 else (W : Int)
  have h0 := loop_list (L := fun n i a => impl_pictured_l0 k n q a q (q.length : Int) i (fun lines_2 width_3 => impl_pictured_l1 k k width_3 lines_2 (List.length lines_2 : Int) 0 [] (fun width_7 q_8 => (if (decide (60 < (List.length q_8 : Int))) = true then some ([], 5) else (if (decide (80 < width_7)) = true then some ([], 5) else some (q_8, 0))))))
    (I := fun pre a => a = if pre = [] then 0 else (W : Int)) (G := fun _ _ => impl_pictured_l1 k k W' q (q.length : Int) 0 [] (fun width_7 q_8 => (if (decide (60 < (List.length q_8 : Int))) = true then some ([], 5) else (if (decide (80 < width_7)) = true then some ([], 5) else some (q_8, 0))))) q ?_ ?_ k (by omega) 0 (by simp)
  · refine Eq.trans h0 ?_
    have h1 := loop_list (L := fun n i r => impl_pictured_l1 k n W' q (q.length : Int) i r (fun width_7 q_8 => (if (decide (60 < (List.length q_8 : Int))) = true then some ([], 5) else (if (decide (80 < width_7)) = true then some ([], 5) else some (q_8, (0 : Int))))))
      (I := fun pre r => r = pre) (G := fun _ _ => some (doneP q)) q ?_ ?_ k (by omega) [] rfl
    · exact h1
    · intro n pre x post r hx hr ih hg hlt
      subst hr
      have hw := w_succ (i := r.length) (by omega)
      have hxl := (h x (List.mem_of_getElem? hg)).1
      have hne : q ≠ [] := by intro e; rw [e] at hg; simp at hg
      have hW' : W' = (W : Int) := by show (if q = [] then (0 : Int) else (W : Int)) = _; rw [if_neg hne]
      have hz : w_i64 (W' - (x.length : Int)) = ((0 : Nat) : Int) := by rw [hW', w_id (by omega) (by omega)]; omega
      have ih := ih _ rfl
      simp only [impl_pictured_l1, hlt, decide_true, if_true, Int.natCast_nonneg, Int.toNat_natCast, hg, Option.bind_some, hz, repeat_ok 32 (show 0 ≤ 1000000 by omega), hw, List.replicate_zero, List.append_nil]
      rw [if_pos (by simp only [List.length_nil]; omega), if_pos (by simp only [List.length_singleton]; omega), ih]
    · intro n r hr
      subst hr
      simp only [impl_pictured_l1, Int.lt_irrefl, decide_false, Bool.false_eq_true, if_false]
      unfold doneP
      rw [okPic_same h]
      by_cases h60 : r.length ≤ 60
      · rw [decide_eq_false (show ¬ (60 < (r.length : Int)) by omega), if_neg (by simp), decide_eq_true h60, Bool.true_and]
        cases r with
        | nil => simp [W']
        | cons z zs =>
          have hW' : W' = (W : Int) := rfl
          rw [hW', List.isEmpty_cons, Bool.false_or]
          by_cases h80 : W ≤ 80
          · rw [decide_eq_false (show ¬ (80 < (W : Int)) by omega), decide_eq_true h80]; rfl
          · rw [decide_eq_true (show (80 < (W : Int)) by omega), decide_eq_false h80]; rfl
      · rw [decide_eq_true (show (60 < (r.length : Int)) by omega), if_pos rfl, decide_eq_false h60]; rfl
  · intro n pre x post a hx ha ih hg hlt
    subst ha
    have hw := w_succ (i := pre.length) (by omega)
    have hxl := (h x (List.mem_of_getElem? hg)).1
    simp only [impl_pictured_l0, hlt, decide_true, if_true, Int.natCast_nonneg, Int.toNat_natCast, hg, Option.bind_some, hw]
    refine ih _ ?_
    rw [hxl, if_neg (show pre ++ [x] ≠ [] by simp)]
    by_cases hp : pre = []
    · rw [if_pos hp]; split <;> omega
    · rw [if_neg hp]; split <;> rfl
  · intro n a ha
    subst ha
    simp only [impl_pictured_l0, Int.lt_irrefl, decide_false, Bool.false_eq_true, if_false]
    rfl
theorem okC_dig {d : Nat} (h : d < 10) : okC (UInt8.ofNat (48 + d)) = true := by
  have : (UInt8.ofNat (48 + d)).toNat = 48 + d := by simp [UInt8.toNat_ofNat']; omega
  unfold okC
  rw [this]
  exact decide_eq_true (by omega)
theorem decDigits_okC (u : Nat) : (Lib.decDigits u).all okC = true := by
  induction u using Nat.strongRecOn with
  | _ u ih =>
    rw [Lib.decDigits]
    by_cases h : u < 10
    · rw [dif_pos h]
      simp only [List.all_cons, List.all_nil, Bool.and_true]
      exact okC_dig h
    · rw [dif_neg h, List.all_append, ih (u / 10) (by omega)]
      simp only [List.all_cons, List.all_nil, Bool.and_true, Bool.true_and]
      exact okC_dig (by omega)
theorem u8_dig {d : Nat} (h : d < 10) : z_u8 (UInt8.ofNat (48 + d)) = ((48 + d : Nat) : Int) := by
  have : (UInt8.ofNat (48 + d)).toNat = 48 + d := by simp [UInt8.toNat_ofNat']; omega
  show ((UInt8.ofNat (48 + d)).toNat : Int) = _
  rw [this]
theorem w_dig {d : Nat} (h : d < 10) : w_u8 (w_i64 (48 + (d : Int))) = ((48 + d : Nat) : Int) := by
  rw [w_id (by omega) (by omega)]
  unfold w_u8 IntKind.wrap
  simp [IntKind.bits, IntKind.signed]; omega
/-- The digits, the last one first. -/
def revD (u : Nat) : List Int := if u = 0 then [] else ((Lib.decDigits u).map z_u8).reverse
theorem revD_step {u : Nat} (h : u ≠ 0) : revD u = ((48 + u % 10 : Nat) : Int) :: revD (u / 10) := by
  unfold revD
  rw [if_neg h]
  by_cases h1 : u < 10
  · rw [Lib.decDigits, dif_pos h1, if_pos (by omega)]
    have := u8_dig h1
    rw [Nat.mod_eq_of_lt h1, List.map_cons, List.map_nil, this]
    rfl
  · rw [Lib.decDigits, dif_neg h1, if_neg (by omega)]
    have := u8_dig (d := u % 10) (by omega)
    rw [List.map_append, List.map_cons, List.map_nil, this, List.reverse_append]
    rfl
theorem revD_len : ∀ (j u : Nat), u < 10 ^ j → (revD u).length ≤ j
  | 0, u, h => by
    have : u = 0 := by simpa using h
    subst this; simp [revD]
  | j + 1, u, h => by
    by_cases h0 : u = 0
    · subst h0; simp [revD]
    · rw [revD_step h0, List.length_cons]
      have := revD_len j (u / 10) (by rw [Nat.pow_succ] at h; omega)
      omega
theorem dec_loop {k : Nat} {n0 : Int} {E : Int → List Int → Option (List UInt8)} : ∀ (j u n : Nat) (m : Int) (q : List Int), (m = (u : Int) ∨ m = -(u : Int)) → u < 10 ^ j → u ≤ 9223372036854775808 → -9223372036854775808 ≤ m → m ≤ 9223372036854775807 → q.length + j ≤ 100 → j < n → spec_l01Dec_l0 k n n0 m q E = E n0 (q ++ revD u)
  | j, u, 0, m, q, _, _, _, _, _, _, h => by omega
  | 0, u, n + 1, m, q, hm, hu, _, _, _, _, _ => by
    have h0 : u = 0 := by simpa using hu
    subst h0
    have hm0 : m = 0 := by omega
    subst hm0
    simp [spec_l01Dec_l0, revD]
  | j + 1, u, n + 1, m, q, hm, hu, hub, hm1, hm2, hq, hn => by
    have hL := LIM_def
    by_cases h0 : u = 0
    · subst h0
      have hm0 : m = 0 := by omega
      subst hm0
      simp [spec_l01Dec_l0, revD]
    · have hm0 : ¬ m = 0 := by omega
      have hlim : (q.length + 1) * 1 ≤ LIM := by omega
      have hd : u % 10 < 10 := by omega
      have hj : u / 10 < 10 ^ j := by rw [Nat.pow_succ] at hu; omega
      rcases hm with hm | hm
      · subst hm
        have t1 : Int.tmod (u : Int) 10 = ((u % 10 : Nat) : Int) := by rw [Int.tmod_eq_emod_of_nonneg (by omega)]; omega
        have t2 : Int.tdiv (u : Int) 10 = ((u / 10 : Nat) : Int) := by rw [Int.tdiv_eq_ediv_of_nonneg (by omega)]; omega
        have w2 : w_i64 ((u / 10 : Nat) : Int) = ((u / 10 : Nat) : Int) := w_id (by omega) (by omega)
        have hlt : ¬ (((u % 10 : Nat) : Int) < 0) := by omega
        have ih := dec_loop (k := k) (n0 := n0) (E := E) j (u / 10) n ((u / 10 : Nat) : Int) (q ++ [((48 + u % 10 : Nat) : Int)]) (.inl rfl) hj (by omega) (by omega) (by omega) (by simp; omega) (by omega)
        unfold spec_l01Dec_l0
        rw [decide_eq_false hm0, if_pos (by rfl), t1, t2, decide_eq_false hlt, if_neg (by simp), w_dig hd, w2, List.length_singleton, if_pos hlim, ih, List.append_assoc, revD_step h0]
        rfl
      · subst hm
        have t1 : Int.tmod (-(u : Int)) 10 = -((u % 10 : Nat) : Int) := by rw [Int.neg_tmod, Int.tmod_eq_emod_of_nonneg (by omega)]; omega
        have t2 : Int.tdiv (-(u : Int)) 10 = -((u / 10 : Nat) : Int) := by rw [Int.neg_tdiv, Int.tdiv_eq_ediv_of_nonneg (by omega)]; omega
        have w2 : w_i64 (-((u / 10 : Nat) : Int)) = -((u / 10 : Nat) : Int) := w_id (by omega) (by omega)
        have ih := dec_loop (k := k) (n0 := n0) (E := E) j (u / 10) n (-((u / 10 : Nat) : Int)) (q ++ [((48 + u % 10 : Nat) : Int)]) (.inr rfl) hj (by omega) (by omega) (by omega) (by simp; omega) (by omega)
        unfold spec_l01Dec_l0
        rw [decide_eq_false hm0, if_pos (by rfl), t1, t2, w2]
        by_cases hz : u % 10 = 0
        · have hlt : ¬ (-((u % 10 : Nat) : Int) < 0) := by omega
          have hw : w_u8 (w_i64 (48 + -((u % 10 : Nat) : Int))) = ((48 + u % 10 : Nat) : Int) := by
            rw [hz]
            exact w_dig (d := 0) (by omega)
          rw [decide_eq_false hlt, if_neg (by simp), hw, List.length_singleton, if_pos hlim, ih, List.append_assoc, revD_step h0]
          rfl
        · have hlt : -((u % 10 : Nat) : Int) < 0 := by omega
          have hw : w_u8 (w_i64 (48 + w_i64 (0 - -((u % 10 : Nat) : Int)))) = ((48 + u % 10 : Nat) : Int) := by
            rw [show (0 : Int) - -((u % 10 : Nat) : Int) = ((u % 10 : Nat) : Int) by omega, w_id (x := ((u % 10 : Nat) : Int)) (by omega) (by omega)]
            exact w_dig hd
          rw [decide_eq_true hlt, if_pos rfl, hw, List.length_singleton, if_pos hlim, ih, List.append_assoc, revD_step h0]
          rfl
theorem dec_back {k : Nat} {q : List Int} (hq : q.length ≤ 1000) {E : List Int → Option (List UInt8)} : ∀ (j n : Nat) (acc : List Int), j ≤ q.length → acc.length + j ≤ 1000 → j < n → spec_l01Dec_l1 k n ((j : Int) - 1) q acc E = E (acc ++ (q.take j).reverse)
  | j, 0, _, _, _, h => by omega
  | 0, n + 1, acc, _, _, _ => by
    have : ¬ (0 ≤ ((0 : Nat) : Int) - 1) := by omega
    simp only [spec_l01Dec_l1, this, decide_false, Bool.false_eq_true, if_false, List.take_zero, List.reverse_nil, List.append_nil]
  | j + 1, n + 1, acc, hj, ha, hn => by
    have hL := LIM_def
    have e0 : ((j + 1 : Nat) : Int) - 1 = (j : Int) := by omega
    have hjl : j < q.length := by omega
    have ew : w_i64 ((j : Int) - 1) = (j : Int) - 1 := w_id (by omega) (by omega)
    have hlim : (acc.length + 1) * 1 ≤ LIM := by omega
    have ih := dec_back (k := k) hq (E := E) j n (acc ++ [q[j]]) (by omega) (by simp; omega) (by omega)
    rw [e0]
    simp only [spec_l01Dec_l1, Int.natCast_nonneg, decide_true, if_true, Int.toNat_natCast, hjl, and_self, List.getElem?_eq_getElem hjl, Option.bind_some, List.length_singleton, hlim, ew, ih]
    rw [List.take_succ_eq_append_getElem hjl, List.reverse_append]
    simp
theorem toS_map (l : List UInt8) : to_S (l.map z_u8) = l := by
  unfold to_S
  rw [List.map_map]
  have : ((fun x : Int => x.toNat.toUInt8) ∘ z_u8) = id := by
    funext b
    simp [z_u8]
  simp [this]
theorem l01Dec_ok {k : Nat} (hk : KK ≤ k) {n : Int} (h1 : -9223372036854775808 ≤ n) (h2 : n ≤ 9223372036854775807) : spec_l01Dec k n = some (Lib.itoa n) := by
  have hK := KK_def
  have hL := LIM_def
  unfold spec_l01Dec Lib.itoa
  by_cases h0 : n = 0
  · subst h0
    rw [decide_eq_true rfl, if_pos rfl, if_neg (by omega)]
    rw [show (0 : Int).toNat = 0 from rfl, Lib.decDigits, dif_pos (by omega)]
    rfl
  · have hp : n.natAbs < 10 ^ 19 := by
      have : n.natAbs ≤ 9223372036854775808 := by omega
      exact Nat.lt_of_le_of_lt this (by decide)
    have hl := revD_len 19 n.natAbs hp
    have hu : n.natAbs ≠ 0 := by omega
    have hr : revD n.natAbs = ((Lib.decDigits n.natAbs).map z_u8).reverse := by unfold revD; rw [if_neg hu]
    rw [decide_eq_false h0, if_neg (by simp), dec_loop 19 n.natAbs k n [] (by omega) hp (by omega) h1 h2 (by simp) (by omega), List.nil_append]
    by_cases hn : n < 0
    · have hl1 : ((revD n.natAbs).length + 1) * 1 ≤ LIM := by omega
      have hb := dec_back (k := k) (q := revD n.natAbs ++ [45]) (by simp; omega) (E := fun q => some (to_S q)) (revD n.natAbs ++ [45]).length k [] (Nat.le_refl _) (by simp; omega) (by simp; omega)
      have hw : w_i64 (((revD n.natAbs ++ [45]).length : Int) - 1) = ((revD n.natAbs ++ [45]).length : Int) - 1 := w_id (by omega) (by simp; omega)
      rw [decide_eq_true hn, if_pos rfl, if_pos hn, List.length_singleton, if_pos hl1, hw, hb, List.take_length, List.nil_append, hr]
      congr 1
      have e : (((Lib.decDigits n.natAbs).map z_u8).reverse ++ [(45 : Int)]).reverse = ((45 : UInt8) :: Lib.decDigits n.natAbs).map z_u8 := by
        rw [List.reverse_append, List.reverse_reverse]; rfl
      rw [e, toS_map]
    · have hb := dec_back (k := k) (q := revD n.natAbs) (by omega) (E := fun q => some (to_S q)) (revD n.natAbs).length k [] (Nat.le_refl _) (by simp; omega) (by omega)
      have hw : w_i64 (((revD n.natAbs).length : Int) - 1) = ((revD n.natAbs).length : Int) - 1 := w_id (by omega) (by omega)
      have hna : n.natAbs = n.toNat := by omega
      rw [decide_eq_false hn, if_neg (by simp), if_neg hn, hw, hb, List.take_length, List.nil_append, hr, List.reverse_reverse, toS_map, hna]
theorem digits_len {u j : Nat} (h : u < 10 ^ j) (hj : 1 ≤ j) : (Lib.decDigits u).length ≤ j := by
  by_cases h0 : u = 0
  · subst h0; rw [Lib.decDigits, dif_pos (by omega)]; exact hj
  · have := revD_len j u h
    unfold revD at this
    rw [if_neg h0] at this
    simpa using this
theorem itoa_len5 {n : Nat} (h : n < 65536) : (Lib.itoa (n : Int)).length ≤ 5 := by
  unfold Lib.itoa
  rw [if_neg (by omega), Int.toNat_natCast]
  exact digits_len (by omega) (by omega)
theorem join_snoc {pre : List (List UInt8)} (h : pre ≠ []) (x sep : List UInt8) : Lib.join (pre ++ [x]) sep = Lib.join pre sep ++ sep ++ x := by
  cases pre with
  | nil => exact absurd rfl h
  | cons y r =>
    rw [List.cons_append, Lib.join_cons, Lib.join_cons]
    unfold Lib.joinTail
    simp
theorem decimal_ok {n : Int} (h1 : -9223372036854775808 ≤ n) (h2 : n ≤ 9223372036854775807) : impl_Decimal n = some (Lib.itoa n) := by
  unfold impl_Decimal strconv_FormatInt
  rw [if_pos ⟨rfl, h1, h2⟩]; rfl
def mxI (a b : Int) : Int := if a < b then b else a
theorem l00Max_ok (a b : Int) : spec_l00Max a b = some (mxI a b) := by
  unfold spec_l00Max mxI
  by_cases h : b < a
  · rw [decide_eq_true h, if_pos rfl, if_neg (by omega)]
  · rw [decide_eq_false h, if_neg (by simp)]
    split
    · rfl
    · congr 1; omega
theorem mxI_ok (a b : Int) : a ≤ mxI a b ∧ b ≤ mxI a b ∧ (mxI a b = a ∨ mxI a b = b) := by unfold mxI; split <;> omega
def mxF {α : Type} (p : α → Bool) (g : α → Int) (m : Int) (l : List α) : Int := l.foldl (fun m b => if p b = true then mxI m (g b) else m) m
theorem mxF_ok {α : Type} (p : α → Bool) (g : α → Int) : ∀ (l : List α) (m : Int), m ≤ mxF p g m l ∧ (∀ b ∈ l, p b = true → g b ≤ mxF p g m l) ∧ (mxF p g m l = m ∨ ∃ b ∈ l, p b = true ∧ mxF p g m l = g b)
  | [], m => ⟨Int.le_refl _, by simp, .inl rfl⟩
  | x :: l, m => by
    have e : mxF p g m (x :: l) = mxF p g (if p x = true then mxI m (g x) else m) l := rfl
    rw [e]
    obtain ⟨i1, i2, i3⟩ := mxF_ok p g l (if p x = true then mxI m (g x) else m)
    obtain ⟨j1, j2, j3⟩ := mxI_ok m (g x)
    by_cases c : p x = true
    · rw [if_pos c] at i1 i2 i3 ⊢
      refine ⟨by omega, fun b hb hp => ?_, ?_⟩
      · rcases List.mem_cons.1 hb with rfl | hb
        · omega
        · exact i2 b hb hp
      · rcases i3 with i3 | ⟨b, hb, hp, h⟩
        · rcases j3 with j3 | j3
          · exact .inl (by omega)
          · exact .inr ⟨x, by simp, c, by omega⟩
        · exact .inr ⟨b, by simp [hb], hp, h⟩
    · rw [if_neg c] at i1 i2 i3 ⊢
      refine ⟨i1, fun b hb hp => ?_, ?_⟩
      · rcases List.mem_cons.1 hb with rfl | hb
        · exact absurd hp c
        · exact i2 b hb hp
      · rcases i3 with i3 | ⟨b, hb, hp, h⟩
        · exact .inl i3
        · exact .inr ⟨b, by simp [hb], hp, h⟩
theorem mxF_snoc {α : Type} (p : α → Bool) (g : α → Int) (m : Int) (l : List α) (x : α) : mxF p g m (l ++ [x]) = if p x = true then mxI (mxF p g m l) (g x) else mxF p g m l := by unfold mxF; rw [List.foldl_append]; rfl
def updH (h : Nat → Int) (a : Nat) (v : Int) : Nat → Int := fun x => if x = a then v else h x
def hL (n : Nat) (h : Nat → Int) : List Int := (List.range n).map h
theorem hL_len (n : Nat) (h : Nat → Int) : (hL n h).length = n := by simp [hL]
theorem hL_get {n : Nat} (h : Nat → Int) {a : Nat} (ha : a < n) : (hL n h)[a]? = some (h a) := by unfold hL; rw [List.getElem?_map, List.getElem?_range ha]; rfl
theorem hL_set (n : Nat) (h : Nat → Int) (a : Nat) (v : Int) : (hL n h).set a v = hL n (updH h a v) := by
  refine List.ext_getElem? fun i => ?_
  rw [List.getElem?_set, hL_len]
  by_cases hi : i < n
  · rw [hL_get _ hi, hL_get _ hi]
    unfold updH
    by_cases e : a = i
    · subst e; rw [if_pos rfl, if_pos hi, if_pos rfl]
    · rw [if_neg e, if_neg (fun z => e z.symm)]
  · rw [List.getElem?_eq_none (l := hL n (updH h a v)) (by rw [hL_len]; omega), List.getElem?_eq_none (l := hL n h) (by rw [hL_len]; omega)]
    by_cases e : a = i
    · rw [if_pos e, if_neg (by omega)]
    · rw [if_neg e]
theorem updH_same (h : Nat → Int) (a : Nat) (v : Int) : updH h a v a = v := if_pos rfl
theorem updH_ne {h : Nat → Int} {a x : Nat} {v : Int} (e : x ≠ a) : updH h a v x = h x := if_neg e
theorem updH_upd (h : Nat → Int) (a : Nat) (v w : Int) : updH (updH h a v) a w = updH h a w := by
  funext x
  unfold updH
  split <;> rfl
/-- A height by all elements below; and by covers alone. -/
def hvF (T : Nat → Nat → Bool) (h : Nat → Int) (a : Nat) (pre : List Nat) : Int := mxF (fun b => T b a) (fun b => h b + 1) 1 pre
def hcF (ps : List (List Int)) (h : Nat → Int) (a : Nat) : Int := mxF (fun c : List Int => decide (c.getD 1 0 = (a : Int))) (fun c => h (c.getD 0 0).toNat + 1) 1 ps
def hst (T : Nat → Nat → Bool) : List Nat → List Nat → Int × (Nat → Int) → Int × (Nat → Int)
  | _, [], s => s
  | pre, a :: post, s => hst T (pre ++ [a]) post (mxI s.1 (hvF T s.2 a pre), updH s.2 a (hvF T s.2 a pre))
theorem hst_snoc (T : Nat → Nat → Bool) : ∀ (l p : List Nat) (s : Int × (Nat → Int)) (a : Nat), hst T p (l ++ [a]) s = (mxI (hst T p l s).1 (hvF T (hst T p l s).2 a (p ++ l)), updH (hst T p l s).2 a (hvF T (hst T p l s).2 a (p ++ l)))
  | [], p, s, a => by simp [hst]
  | x :: l, p, s, a => by
    show hst T (p ++ [x]) (l ++ [a]) _ = _
    rw [hst_snoc T l, List.append_assoc]
    rfl
def stA (T : Nat → Nat → Bool) (pre : List Nat) : Int × (Nat → Int) := hst T [] pre (0, fun _ => 0)
theorem stA_snoc (T : Nat → Nat → Bool) (pre : List Nat) (a : Nat) : stA T (pre ++ [a]) = (mxI (stA T pre).1 (hvF T (stA T pre).2 a pre), updH (stA T pre).2 a (hvF T (stA T pre).2 a pre)) := by
  unfold stA
  rw [hst_snoc, List.nil_append]
structure HInv (T : Nat → Nat → Bool) (pre : List Nat) (s : Int × (Nat → Int)) : Prop where
  pos : ∀ b ∈ pre, 1 ≤ s.2 b
  zero : ∀ b, b ∉ pre → s.2 b = 0
  ub : ∀ b, s.2 b ≤ pre.length
  mono : ∀ b c, b ∈ pre → c ∈ pre → T b c = true → b ≠ c → s.2 b + 1 ≤ s.2 c
  lev : ∀ c ∈ pre, s.2 c = 1 ∨ ∃ b ∈ pre, s.2 c = s.2 b + 1
  top : ∀ b ∈ pre, s.2 b ≤ s.1
  most : s.1 = 0 ∨ ∃ b ∈ pre, s.2 b = s.1
  nn : 0 ≤ s.1
theorem inv_step {n : Nat} {T : Nat → Nat → Bool} {pre post : List Nat} {a : Nat} {s : Int × (Nat → Int)} (g : goodQ n T (pre ++ a :: post)) (I : HInv T pre s) : HInv T (pre ++ [a]) (mxI s.1 (hvF T s.2 a pre), updH s.2 a (hvF T s.2 a pre)) := by
  obtain ⟨ha, _⟩ := g.down pre a post rfl
  obtain ⟨v1, v2, v3⟩ := mxF_ok (fun b => T b a) (fun b => s.2 b + 1) pre 1
  have hv : hvF T s.2 a pre = mxF (fun b => T b a) (fun b => s.2 b + 1) 1 pre := rfl
  rw [← hv] at v1 v2 v3
  generalize hvF T s.2 a pre = v at v1 v2 v3
  obtain ⟨m1, m2, m3⟩ := mxI_ok s.1 v
  have hne : ∀ b ∈ pre, b ≠ a := fun b hb e => ha (e ▸ hb)
  have hl : (pre ++ [a]).length = pre.length + 1 := by simp
  constructor
  · intro b hb
    rcases List.mem_append.1 hb with hb | hb
    · show 1 ≤ updH s.2 a v b; rw [updH_ne (hne b hb)]; exact I.pos b hb
    · rw [List.mem_singleton.1 hb]; show 1 ≤ updH s.2 a v a; rw [updH_same]; exact v1
  · intro b hb
    have h1 : b ∉ pre := fun h => hb (List.mem_append_left _ h)
    have h2 : b ≠ a := fun h => hb (by rw [h]; simp)
    show updH s.2 a v b = 0
    rw [updH_ne h2]; exact I.zero b h1
  · intro b
    show updH s.2 a v b ≤ _
    rw [hl]
    by_cases e : b = a
    · rw [e, updH_same]
      rcases v3 with v3 | ⟨c, _, _, h⟩
      · omega
      · have := I.ub c; omega
    · rw [updH_ne e]
      have := I.ub b; omega
  · intro b c hb hc ht hbc
    show updH s.2 a v b + 1 ≤ updH s.2 a v c
    rcases List.mem_append.1 hc with hc | hc
    · rw [updH_ne (hne c hc)]
      rcases List.mem_append.1 hb with hb | hb
      · rw [updH_ne (hne b hb)]; exact I.mono b c hb hc ht hbc
      · have hba := List.mem_singleton.1 hb
        obtain ⟨p1, p2, e⟩ := List.append_of_mem hc
        have := (g.down p1 c (p2 ++ a :: post) (by rw [e]; simp)).2 b (g.lt b (by rw [hba]; simp)) ht hbc
        exact absurd (by rw [e, ← hba]; simp [this]) ha
    · have hca := List.mem_singleton.1 hc
      subst hca
      rw [updH_same]
      rcases List.mem_append.1 hb with hb | hb
      · rw [updH_ne (hne b hb)]; exact v2 b hb ht
      · exact absurd (List.mem_singleton.1 hb) hbc
  · intro c hc
    show updH s.2 a v c = 1 ∨ ∃ b ∈ pre ++ [a], updH s.2 a v c = updH s.2 a v b + 1
    rcases List.mem_append.1 hc with hc | hc
    · rw [updH_ne (hne c hc)]
      rcases I.lev c hc with h | ⟨b, hb, h⟩
      · exact .inl h
      · exact .inr ⟨b, List.mem_append_left _ hb, by rw [updH_ne (hne b hb)]; exact h⟩
    · rw [List.mem_singleton.1 hc, updH_same]
      rcases v3 with h | ⟨b, hb, _, h⟩
      · exact .inl h
      · exact .inr ⟨b, List.mem_append_left _ hb, by rw [updH_ne (hne b hb)]; exact h⟩
  · intro b hb
    show updH s.2 a v b ≤ mxI s.1 v
    rcases List.mem_append.1 hb with hb | hb
    · rw [updH_ne (hne b hb)]; have := I.top b hb; omega
    · rw [List.mem_singleton.1 hb, updH_same]; exact m2
  · show mxI s.1 v = 0 ∨ ∃ b ∈ pre ++ [a], updH s.2 a v b = mxI s.1 v
    rcases m3 with m3 | m3
    · rw [m3]
      rcases I.most with h | ⟨b, hb, h⟩
      · exact .inl h
      · exact .inr ⟨b, List.mem_append_left _ hb, by rw [updH_ne (hne b hb)]; exact h⟩
    · exact .inr ⟨a, by simp, by rw [updH_same, m3]⟩
  · show 0 ≤ mxI s.1 v
    have := I.nn; omega
theorem inv_pre {n : Nat} {T : Nat → Nat → Bool} : ∀ (m : Nat) (pre post : List Nat), pre.length = m → goodQ n T (pre ++ post) → HInv T pre (stA T pre)
  | 0, pre, post, h, g => by
    have := List.length_eq_zero_iff.1 h
    subst this
    exact ⟨by simp, fun _ _ => rfl, fun _ => by simp [stA, hst], by simp, by simp, by simp, .inl rfl, Int.le_refl _⟩
  | m + 1, pre, post, h, g => by
    rcases List.eq_nil_or_concat pre with rfl | ⟨p, a, rfl⟩
    · simp at h
    · rw [List.concat_eq_append] at h g ⊢
      rw [List.append_assoc, List.singleton_append] at g
      rw [stA_snoc]
      exact inv_step g (inv_pre m p (a :: post) (by simpa using h) g)
theorem hv_hc {n : Nat} {ps : List (List Int)} {T : Nat → Nat → Bool} (o : Ord n ps T) (hp : ∀ p ∈ ps, pairOk n p) (hne : ∀ x y : Nat, [(x : Int), (y : Int)] ∈ ps → x ≠ y) {pre post : List Nat} {a : Nat} {s : Int × (Nat → Int)} (g : goodQ n T (pre ++ a :: post)) (I : HInv T pre s) : hcF ps s.2 a = hvF T s.2 a pre := by
  obtain ⟨ha, hd⟩ := g.down pre a post rfl
  obtain ⟨v1, v2, v3⟩ := mxF_ok (fun b => T b a) (fun b => s.2 b + 1) pre 1
  obtain ⟨c1, c2, c3⟩ := mxF_ok (fun c : List Int => decide (c.getD 1 0 = (a : Int))) (fun c => s.2 (c.getD 0 0).toNat + 1) ps 1
  show mxF (fun c : List Int => decide (c.getD 1 0 = (a : Int))) (fun c => s.2 (c.getD 0 0).toNat + 1) 1 ps = mxF (fun b => T b a) (fun b => s.2 b + 1) 1 pre
  have cov2 : ∀ x : Nat, [(x : Int), (a : Int)] ∈ ps → s.2 x + 1 ≤ mxF (fun c : List Int => decide (c.getD 1 0 = (a : Int))) (fun c => s.2 (c.getD 0 0).toNat + 1) 1 ps := fun x hx => c2 _ hx (decide_eq_true rfl)
  generalize mxF (fun c : List Int => decide (c.getD 1 0 = (a : Int))) (fun c => s.2 (c.getD 0 0).toNat + 1) 1 ps = C at c1 c3 cov2
  generalize mxF (fun b => T b a) (fun b => s.2 b + 1) 1 pre = V at v1 v2 v3
  have covPre : ∀ x : Nat, [(x : Int), (a : Int)] ∈ ps → x ∈ pre ∧ T x a = true := fun x hx => by
    obtain ⟨x', y', h1, h2, e⟩ := hp _ hx
    have e1 : x = x' := by simp at e; omega
    subst e1
    exact ⟨hd x h1 (o.pair x a hx) (hne x a hx), o.pair x a hx⟩
  have le1 : C ≤ V := by
    rcases c3 with c3 | ⟨c, hc, h1, h2⟩
    · omega
    · obtain ⟨x, y, hx, hy, rfl⟩ := hp c hc
      have e : y = a := by
        have : ([(x : Int), (y : Int)] : List Int).getD 1 0 = (y : Int) := rfl
        rw [this, decide_eq_true_eq] at h1; omega
      subst e
      obtain ⟨p1, p2⟩ := covPre x hc
      have := v2 x p1 p2
      have e2 : C = s.2 x + 1 := h2
      omega
  have le2 : V ≤ C := by
    rcases v3 with v3 | ⟨b, hb, h1, h2⟩
    · omega
    · rcases o.last b a h1 with e | ⟨c, hc, h3⟩
      · exact absurd (e ▸ hb) ha
      · obtain ⟨p1, p2⟩ := covPre c hc
        have h4 := cov2 c hc
        have h5 : V = s.2 b + 1 := h2
        by_cases e : b = c
        · subst e; omega
        · have := I.mono b c hb p1 h3 e
          omega
  omega
theorem bnd_ok {T : Nat → Nat → Bool} {pre : List Nat} {s : Int × (Nat → Int)} (I : HInv T pre s) (hl : pre.length ≤ 12) : ∀ x, 0 ≤ s.2 x ∧ s.2 x ≤ 100 := fun x => by
  have h1 := I.ub x
  by_cases h : x ∈ pre
  · have := I.pos x h; omega
  · have := I.zero x h; omega
theorem specH_in {k : Nat} (hk : KK ≤ k) {n : Nat} {T : Nat → Nat → Bool} {o pre post : List Nat} {a : Nat} (ho : o = pre ++ a :: post) (g : goodQ n T o) (hl : o.length ≤ 12) {h : Nat → Int} (hb : ∀ x, 0 ≤ h x ∧ h x ≤ 100) (most : Int) (v : Pos) (E : Int → Int → Int → List (List Bool) → List Int → List Int → Pos → Option (List (List UInt8) × Int)) : spec_PosetPicture_l1 k k most (pre.length : Int) (a : Int) 0 (tbl n T) (intsL o) (hL n (updH h a 1)) v E = E most (pre.length : Int) (a : Int) (tbl n T) (intsL o) (hL n (updH h a (hvF T h a pre))) v := by
  have hK := KK_def
  have hol := intsL_len o
  have hpl : pre.length ≤ 12 := by rw [ho, List.length_append] at hl; omega
  have han : a < n := g.lt a (by rw [ho]; simp)
  obtain ⟨ha, _⟩ := g.down pre a post ho
  refine loop_list (α := Nat) (A := List Int) (L := fun m i q => spec_PosetPicture_l1 k m most (pre.length : Int) (a : Int) i (tbl n T) (intsL o) q v E) (I := fun pre2 q => q = hL n (updH h a (hvF T h a pre2))) (G := fun _ _ => E most (pre.length : Int) (a : Int) (tbl n T) (intsL o) (hL n (updH h a (hvF T h a pre))) v) pre ?_ ?_ k (by omega) _ rfl
  · intro m pre2 b post2 q hx hq ih hg hlt
    have hw := w_succ (i := pre2.length) (by omega)
    have hbm := List.mem_of_getElem? hg
    have hbn : b < n := g.lt b (by rw [ho]; simp [hbm])
    have hba : b ≠ a := fun e => ha (e ▸ hbm)
    have hp2 : pre2.length < o.length := by rw [ho, List.length_append]; omega
    have hob : (intsL o)[pre2.length]? = some (b : Int) := by
      have e : o[pre2.length]? = some b := by rw [ho, List.getElem?_append_left (by omega)]; exact hg
      unfold intsL
      rw [List.getElem?_map, e]; rfl
    have hp3 : pre2.length < (intsL o).length := by omega
    have hbb := hb b
    have hw2 : w_i64 (h b + 1) = h b + 1 := w_id (by omega) (by omega)
    have hs : hvF T h a (pre2 ++ [b]) = if T b a = true then mxI (hvF T h a pre2) (h b + 1) else hvF T h a pre2 := mxF_snoc ..
    subst hq
    simp only [spec_PosetPicture_l1, hlt, decide_true, if_true, Int.natCast_nonneg, Int.toNat_natCast, hp3, and_self, hob, Option.bind_some, tbl_len, rowT_len, hbn, han, tbl_get _ hbn, rowT_get _ _ han, hL_len, hL_get _ han, hL_get _ hbn, updH_same, updH_ne hba, hw, hw2, l00Max_ok, hL_set, updH_upd]
    cases c : T b a with
    | true => rw [if_pos rfl]; exact ih _ (by rw [hs, c, if_pos rfl])
    | false => rw [if_neg (by simp)]; exact ih _ (by rw [hs, c, if_neg (by simp)])
  · intro m q hq
    subst hq
    simp only [spec_PosetPicture_l1, Int.lt_irrefl, decide_false, Bool.false_eq_true, if_false]
theorem zero_hL (n : Nat) : List.replicate n (0 : Int) = hL n (fun _ => 0) := by
  unfold hL
  refine List.ext_getElem? fun i => ?_
  rw [List.getElem?_replicate, List.getElem?_map]
  by_cases h : i < n
  · rw [if_pos h, List.getElem?_range h]; rfl
  · rw [if_neg h, List.getElem?_eq_none (by simp; omega)]; rfl
theorem specH_ok {k : Nat} (hk : KK ≤ k) {n : Nat} {T : Nat → Nat → Bool} {o : List Nat} (g : goodQ n T o) (hl : o.length ≤ 12) (v : Pos) (E : Int → List Int → Pos → Option (List (List UInt8) × Int)) : spec_PosetPicture_l0 k k 0 0 (tbl n T) (intsL o) (List.replicate n 0) v E = E (stA T o).1 (hL n (stA T o).2) v := by
  have hK := KK_def
  have hol := intsL_len o
  rw [zero_hL]
  have := loop_list (α := Nat) (A := Int × List Int) (L := fun m i s => spec_PosetPicture_l0 k m s.1 i (tbl n T) (intsL o) s.2 v E) (I := fun pre s => s = ((stA T pre).1, hL n (stA T pre).2)) (G := fun _ _ => E (stA T o).1 (hL n (stA T o).2) v) o ?_ ?_ k (by omega) (0, hL n fun _ => 0) rfl
  · exact this
  · intro m pre a post s hx hs ih hg hlt
    have hw := w_succ (i := pre.length) (by omega)
    have han : a < n := g.lt a (List.mem_of_getElem? hg)
    have hpl : pre.length < (intsL o).length := by omega
    have hlt' : (pre.length : Int) < ((intsL o).length : Int) := by omega
    have hoa : (intsL o)[pre.length]? = some (a : Int) := by unfold intsL; rw [List.getElem?_map, hg]; rfl
    have I := inv_pre pre.length pre (a :: post) rfl (hx ▸ g)
    have hpl2 : pre.length ≤ 12 := by omega
    subst hs
    simp only [spec_PosetPicture_l0, hlt', decide_true, if_true, Int.natCast_nonneg, Int.toNat_natCast, hpl, and_self, hoa, Option.bind_some, hL_len, han, hL_get _ han, hL_set, specH_in hk hx g hl (bnd_ok I hpl2), updH_same, l00Max_ok, hw]
    exact ih (mxI (stA T pre).1 (hvF T (stA T pre).2 a pre), hL n (updH (stA T pre).2 a (hvF T (stA T pre).2 a pre))) (by rw [stA_snoc])
  · intro m s hs
    subst hs
    have : ¬ (o.length : Int) < ((intsL o).length : Int) := by omega
    simp only [spec_PosetPicture_l0, this, decide_false, Bool.false_eq_true, if_false]
theorem implH_in {k : Nat} (hk : KK ≤ k) {n : Nat} {ps : List (List Int)} (hps : ps.length ≤ 30) (hp : ∀ p ∈ ps, pairOk n p) (hne : ∀ x y : Nat, [(x : Int), (y : Int)] ∈ ps → x ≠ y) {a : Nat} (han : a < n) {h : Nat → Int} (hb : ∀ x, 0 ≤ h x ∧ h x ≤ 100) (x28 x29 : Int) (q9 : List Int) (v : Pos) (E : Int → Int → List Int → List Int → Pos → Option (List (List UInt8) × Int)) : impl_PosetPicture_l1 k k (a : Int) x28 x29 ps (ps.length : Int) 0 (hL n (updH h a 1)) q9 v E = E x28 x29 (hL n (updH h a (hcF ps h a))) q9 v := by
  have hK := KK_def
  refine loop_list (A := List Int) (L := fun m i q => impl_PosetPicture_l1 k m (a : Int) x28 x29 ps (ps.length : Int) i q q9 v E) (I := fun pre q => q = hL n (updH h a (hcF pre h a))) (G := fun _ _ => E x28 x29 (hL n (updH h a (hcF ps h a))) q9 v) ps ?_ ?_ k (by omega) _ rfl
  · intro m pre c post q hx hq ih hg hlt
    have hw := w_succ (i := pre.length) (by omega)
    have hcm : c ∈ ps := List.mem_of_getElem? hg
    obtain ⟨x, y, hxn, hyn, rfl⟩ := hp c hcm
    have hxy := hne x y hcm
    have hs : hcF (pre ++ [[(x : Int), (y : Int)]]) h a = if decide ((y : Int) = (a : Int)) = true then mxI (hcF pre h a) (h x + 1) else hcF pre h a := mxF_snoc ..
    have g0 : ([(x : Int), (y : Int)] : List Int)[0]? = some (x : Int) := rfl
    have g1 : ([(x : Int), (y : Int)] : List Int)[1]? = some (y : Int) := rfl
    have hbx := hb x
    have hw2 : w_i64 (h x + 1) = h x + 1 := w_id (by omega) (by omega)
    subst hq
    by_cases e : y = a
    · have hxa : x ≠ a := fun z => hxy (z.trans e.symm)
      have hd : decide ((y : Int) = (a : Int)) = true := decide_eq_true (by omega)
      rw [hd, if_pos rfl] at hs
      have hmx : (if hcF pre h a < h x + 1 then h x + 1 else hcF pre h a) = mxI (hcF pre h a) (h x + 1) := rfl
      simp only [impl_PosetPicture_l1, hlt, decide_true, if_true, Int.natCast_nonneg, Int.toNat_natCast, hg, g0, g1, Option.bind_some, hd, hL_len, han, hxn, and_self, hL_get _ han, hL_get _ hxn, updH_same, updH_ne hxa, hw, hw2, hL_set, updH_upd, hmx]
      exact ih _ (by rw [hs])
    · have hd : decide ((y : Int) = (a : Int)) = false := decide_eq_false (by omega)
      rw [hd, if_neg (by simp)] at hs
      simp only [impl_PosetPicture_l1, hlt, decide_true, if_true, Int.natCast_nonneg, Int.toNat_natCast, hg, g1, Option.bind_some, hd, Bool.false_eq_true, if_false, hw]
      exact ih _ (by rw [hs])
  · intro m q hq
    subst hq
    simp only [impl_PosetPicture_l1, Int.lt_irrefl, decide_false, Bool.false_eq_true, if_false]
theorem implH_ok {k : Nat} (hk : KK ≤ k) {n : Nat} {T : Nat → Nat → Bool} {o : List Nat} (g : goodQ n T o) (hl : o.length ≤ 12) {v : Pos} (hps : v.2.length ≤ 30) (hp : ∀ p ∈ v.2, pairOk n p) (hne : ∀ x y : Nat, [(x : Int), (y : Int)] ∈ v.2 → x ≠ y) (od : Ord n v.2 T) (E : List Int → Pos → Option (List (List UInt8) × Int)) : impl_PosetPicture_l0 k k (o.length : Int) 0 (List.replicate n 0) (intsL o) v E = E (hL n (stA T o).2) v := by
  have hK := KK_def
  have hol := intsL_len o
  rw [zero_hL]
  refine loop_list (α := Nat) (A := List Int) (L := fun m i q => impl_PosetPicture_l0 k m (o.length : Int) i q (intsL o) v E) (I := fun pre q => q = hL n (stA T pre).2) (G := fun _ _ => E (hL n (stA T o).2) v) o ?_ ?_ k (by omega) (hL n fun _ => 0) rfl
  · intro m pre a post q hx hq ih hg hlt
    have hw := w_succ (i := pre.length) (by omega)
    have han : a < n := g.lt a (List.mem_of_getElem? hg)
    have hpl : pre.length < (intsL o).length := by omega
    have hoa : (intsL o)[pre.length]? = some (a : Int) := by unfold intsL; rw [List.getElem?_map, hg]; rfl
    have g' : goodQ n T (pre ++ a :: post) := hx ▸ g
    have I := inv_pre pre.length pre (a :: post) rfl g'
    have hpl2 : pre.length ≤ 12 := by omega
    subst hq
    simp only [impl_PosetPicture_l0, hlt, decide_true, if_true, Int.natCast_nonneg, Int.toNat_natCast, hpl, and_self, hoa, Option.bind_some, hL_len, han, hL_get _ han, hL_set, implH_in hk hps hp hne han (bnd_ok I hpl2), hv_hc od hp hne g' I, hw]
    exact ih _ (by rw [stA_snoc])
  · intro m q hq
    subst hq
    simp only [impl_PosetPicture_l0, Int.lt_irrefl, decide_false, Bool.false_eq_true, if_false]
def wordC (h : Nat → Int) (v : Int) (c : Nat) : List (List UInt8) := ((List.range c).filter fun a => decide (h a = v)).map fun a : Nat => Lib.itoa (a : Int)
theorem wordC_succ (h : Nat → Int) (v : Int) (c : Nat) : wordC h v (c + 1) = wordC h v c ++ (if h c = v then [Lib.itoa (c : Int)] else []) := by
  unfold wordC
  rw [List.range_succ, List.filter_append, List.map_append, List.filter_cons, List.filter_nil]
  by_cases e : h c = v
  · rw [decide_eq_true e, if_pos rfl, if_pos e]; rfl
  · rw [decide_eq_false e, if_neg (by simp), if_neg e]; rfl
theorem decDigits_ne (u : Nat) : Lib.decDigits u ≠ [] := by
  rw [Lib.decDigits]
  split
  · simp
  · simp
theorem itoa_small {a : Nat} (h : a < 65536) : (Lib.itoa (a : Int)) ≠ [] ∧ (Lib.itoa (a : Int)).length ≤ 5 ∧ (Lib.itoa (a : Int)).all okC = true := by
  refine ⟨?_, itoa_len5 h, ?_⟩
  · unfold Lib.itoa; rw [if_neg (by omega)]; exact decDigits_ne _
  · unfold Lib.itoa; rw [if_neg (by omega)]; exact decDigits_okC _
theorem wordC_ok {h : Nat → Int} {v : Int} {c : Nat} (hc : c ≤ 12) : (wordC h v c).length ≤ c ∧ ∀ w ∈ wordC h v c, w ≠ [] ∧ w.length ≤ 5 ∧ w.all okC = true := by
  unfold wordC
  refine ⟨by rw [List.length_map]; exact Nat.le_trans (List.length_filter_le ..) (by simp), fun w hw => ?_⟩
  obtain ⟨a, ha, rfl⟩ := List.mem_map.1 hw
  have := List.mem_range.1 (List.mem_filter.1 ha).1
  exact itoa_small (by omega)
theorem join_ok : ∀ (ws : List (List UInt8)), (∀ w ∈ ws, w ≠ [] ∧ w.length ≤ 5 ∧ w.all okC = true) → (Lib.join ws [32]).length ≤ ws.length * 6 ∧ (Lib.join ws [32]).all okC = true ∧ (Lib.join ws [32] = [] ↔ ws = []) := by
  have tail : ∀ (r : List (List UInt8)), (∀ x ∈ r, x ≠ [] ∧ x.length ≤ 5 ∧ x.all okC = true) → (Lib.joinTail [32] r).length ≤ r.length * 6 ∧ (Lib.joinTail [32] r).all okC = true := by
    intro r
    induction r with
    | nil => intro _; simp [Lib.joinTail]
    | cons y r ih =>
      intro h
      obtain ⟨i1, i2⟩ := ih (fun x hx => h x (by simp [hx]))
      obtain ⟨_, j1, j2⟩ := h y (by simp)
      have e : Lib.joinTail [32] (y :: r) = [32] ++ y ++ Lib.joinTail [32] r := by simp [Lib.joinTail]
      have e2 : (y :: r).length * 6 = r.length * 6 + 6 := by rw [List.length_cons, Nat.succ_mul]
      rw [e, List.length_append, List.length_append, List.all_append, List.all_append, i2, j2, e2]
      refine ⟨?_, by decide⟩
      simp only [List.length_singleton]
      omega
  intro xs h
  cases xs with
  | nil => rw [Lib.join_nil]; simp
  | cons y r =>
    obtain ⟨i1, i2⟩ := tail r (fun x hx => h x (by simp [hx]))
    obtain ⟨j0, j1, j2⟩ := h y (by simp)
    have e2 : (y :: r).length * 6 = r.length * 6 + 6 := by rw [List.length_cons, Nat.succ_mul]
    rw [Lib.join_cons, List.length_append, List.all_append, i2, j2, e2]
    exact ⟨by omega, rfl, ⟨fun z => absurd (List.append_eq_nil_iff.1 z).1 j0, fun z => by cases z⟩⟩
def lineH (n : Nat) (h : Nat → Int) (v : Int) : List UInt8 := Lib.join (wordC h v n) [32]
theorem lineH_ok {n : Nat} (hn : n ≤ 12) (h : Nat → Int) (v : Int) : (lineH n h v).length ≤ 72 ∧ (lineH n h v).all okC = true := by
  obtain ⟨w1, w2⟩ := wordC_ok (h := h) (v := v) hn
  obtain ⟨j1, j2, _⟩ := join_ok _ w2
  exact ⟨by unfold lineH; omega, j2⟩
theorem specLine_ok {k : Nat} (hk : KK ≤ k) {n : Nat} (hn : n ≤ 12) (h : Nat → Int) (vv : Int) (q : List (List UInt8)) {v : Pos} (hv : v.1 = (n : Int)) (E : Int → List UInt8 → List Int → List (List UInt8) → Pos → Option (List (List UInt8) × Int)) : spec_PosetPicture_l3 k k vv [] 0 (hL n h) q v E = E vv (lineH n h vv) (hL n h) q v := by
  have hK := KK_def
  refine loop_list (α := Nat) (A := List UInt8) (L := fun m i line => spec_PosetPicture_l3 k m vv line i (hL n h) q v E) (I := fun pre line => line = Lib.join (wordC h vv pre.length) [32]) (G := fun _ _ => E vv (lineH n h vv) (hL n h) q v) (List.range n) ?_ ?_ k (by simp; omega) [] rfl |> fun h => h
  · intro m pre x post line _ hq ih _ hlt
    rw [List.length_range] at hlt
    have hb : pre.length < n := by omega
    have hw := w_succ (i := pre.length) (by omega)
    obtain ⟨w1, w2⟩ := wordC_ok (h := h) (v := vv) (show pre.length ≤ 12 by omega)
    obtain ⟨j1, _, j3⟩ := join_ok _ w2
    have hll : line.length ≤ 72 := by rw [hq]; omega
    have hit := (itoa_small (show pre.length < 65536 by omega)).2.1
    have hs := wordC_succ h vv pre.length
    have b1 : line.length + ([32] : List Nat).length ≤ 9223372036854775807 := by rw [List.length_singleton]; omega
    have b2 : (line ++ [(32 : UInt8)]).length + (Lib.itoa (pre.length : Int)).length ≤ 9223372036854775807 := by rw [List.length_append, List.length_singleton]; omega
    have b3 : line.length + (Lib.itoa (pre.length : Int)).length ≤ 9223372036854775807 := by omega
    have hlen : (pre ++ [x]).length = pre.length + 1 := by simp
    simp only [spec_PosetPicture_l3, hv, hlt, decide_true, if_true, Int.natCast_nonneg, Int.toNat_natCast, hL_len, hb, and_self, hL_get _ hb, Option.bind_some, l01Dec_ok hk (show -9223372036854775808 ≤ (pre.length : Int) by omega) (show (pre.length : Int) ≤ 9223372036854775807 by omega), b1, b2, b3, hw]
    by_cases e : h pre.length = vv
    · rw [if_pos e] at hs
      rw [decide_eq_true e, if_neg (by simp)]
      by_cases e2 : line = []
      · rw [decide_eq_true e2, if_neg (by simp)]
        refine ih _ ?_
        rw [hlen, hs, j3.1 (hq ▸ e2), e2]
        simp [Lib.join_cons, Lib.joinTail]
      · rw [decide_eq_false e2, if_pos (by simp)]
        refine ih _ ?_
        have : wordC h vv pre.length ≠ [] := fun z => e2 (by rw [hq]; exact j3.2 z)
        rw [hlen, hs, join_snoc this, ← hq]
    · rw [if_neg e, List.append_nil] at hs
      rw [decide_eq_false e, if_pos (by simp)]
      exact ih _ (by rw [hlen, hs, hq])
  · intro m line hq
    subst hq
    simp only [spec_PosetPicture_l3, hv, List.length_range, Int.lt_irrefl, decide_false, Bool.false_eq_true, if_false]
    rfl
def downL : Nat → List Nat
  | 0 => []
  | d + 1 => (d + 1) :: downL d
theorem downL_len : ∀ d, (downL d).length = d
  | 0 => rfl
  | d + 1 => by show (downL d).length + 1 = d + 1; rw [downL_len d]
theorem specLines_ok {k : Nat} (hk : KK ≤ k) {n : Nat} (hn : n ≤ 12) (h : Nat → Int) {v : Pos} (hv : v.1 = (n : Int)) (E : List (List UInt8) → Option (List (List UInt8) × Int)) : ∀ (d m : Nat) (q : List (List UInt8)), d < m → q.length + d ≤ 1000 → spec_PosetPicture_l2 k m (d : Int) (hL n h) q v E = E (q ++ (downL d).map fun u : Nat => lineH n h (u : Int))
  | d, 0, q, hd, _ => by omega
  | 0, m + 1, q, _, _ => by simp [spec_PosetPicture_l2, downL]
  | d + 1, m + 1, q, hd, hq => by
    have hL' := LIM_def
    have hlt : (0 : Int) < ((d + 1 : Nat) : Int) := by omega
    have hw : w_i64 (((d + 1 : Nat) : Int) - 1) = (d : Int) := by rw [w_id (by omega) (by omega)]; omega
    have hlim : (q.length + 1) * 16 ≤ LIM := by omega
    simp only [spec_PosetPicture_l2, hlt, decide_true, if_true, specLine_ok hk hn h _ q hv, List.length_singleton, hlim, hw]
    rw [specLines_ok hk hn h hv E d m _ (by omega) (by rw [List.length_append, List.length_singleton]; omega), List.append_assoc]
    rfl
theorem implWords_ok {k : Nat} (hk : KK ≤ k) {n : Nat} (hn : n ≤ 12) (h : Nat → Int) (vv : Int) (q : List (List UInt8)) (E : Int → List Int → List (List UInt8) → List (List UInt8) → Option (List (List UInt8) × Int)) : impl_PosetPicture_l3 k k vv (n : Int) 0 (hL n h) q [] E = E vv (hL n h) q (wordC h vv n) := by
  have hK := KK_def
  have hL' := LIM_def
  refine loop_list (α := Nat) (A := List (List UInt8)) (L := fun m i ws => impl_PosetPicture_l3 k m vv (n : Int) i (hL n h) q ws E) (I := fun pre ws => ws = wordC h vv pre.length) (G := fun _ _ => E vv (hL n h) q (wordC h vv n)) (List.range n) ?_ ?_ k (by simp; omega) [] rfl |> fun h => h
  · intro m pre x post ws _ hq ih _ hlt
    rw [List.length_range] at hlt
    have hb : pre.length < n := by omega
    have hw := w_succ (i := pre.length) (by omega)
    obtain ⟨w1, w2⟩ := wordC_ok (h := h) (v := vv) (show pre.length ≤ 12 by omega)
    have hs := wordC_succ h vv pre.length
    have hlim : (ws.length + 1) * 16 ≤ LIM := by rw [hq]; omega
    have hlen : (pre ++ [x]).length = pre.length + 1 := by simp
    simp only [impl_PosetPicture_l3, hlt, decide_true, if_true, Int.natCast_nonneg, Int.toNat_natCast, hL_len, hb, and_self, hL_get _ hb, Option.bind_some, decimal_ok (show -9223372036854775808 ≤ (pre.length : Int) by omega) (show (pre.length : Int) ≤ 9223372036854775807 by omega), List.length_singleton, hlim, hw]
    by_cases e : h pre.length = vv
    · rw [if_pos e] at hs
      rw [decide_eq_true e, if_pos rfl]
      exact ih _ (by rw [hlen, hs, hq])
    · rw [if_neg e, List.append_nil] at hs
      rw [decide_eq_false e, if_neg (by simp)]
      exact ih _ (by rw [hlen, hs, hq])
  · intro m ws hq
    subst hq
    simp only [impl_PosetPicture_l3, List.length_range, Int.lt_irrefl, decide_false, Bool.false_eq_true, if_false]
theorem implLines_ok {k : Nat} (hk : KK ≤ k) {n : Nat} (hn : n ≤ 12) (h : Nat → Int) (E : List (List UInt8) → Option (List (List UInt8) × Int)) : ∀ (d m : Nat) (q : List (List UInt8)), d < m → q.length + d ≤ 1000 → impl_PosetPicture_l2 k m (d : Int) (hL n h) q E = E (q ++ ((downL d).filter fun u : Nat => !(wordC h (u : Int) n).isEmpty).map fun u : Nat => lineH n h (u : Int))
  | d, 0, q, hd, _ => by omega
  | 0, m + 1, q, _, _ => by simp [impl_PosetPicture_l2, downL]
  | d + 1, m + 1, q, hd, hq => by
    have hL' := LIM_def
    have hlt : (1 : Int) ≤ ((d + 1 : Nat) : Int) := by omega
    have hw : w_i64 (((d + 1 : Nat) : Int) - 1) = (d : Int) := by rw [w_id (by omega) (by omega)]; omega
    have hlim : (q.length + 1) * 16 ≤ LIM := by omega
    obtain ⟨w1, w2⟩ := wordC_ok (h := h) (v := ((d + 1 : Nat) : Int)) hn
    obtain ⟨j1, _, _⟩ := join_ok _ w2
    have hjoin : strings_Join_s [32] (wordC h ((d + 1 : Nat) : Int) n) = some ((lineH n h ((d + 1 : Nat) : Int), ()), (wordC h ((d + 1 : Nat) : Int) n, ()), ()) := by
      unfold strings_Join_s
      rw [if_pos ⟨by omega, by omega⟩]
      rfl
    have hd2 : downL (d + 1) = (d + 1) :: downL d := rfl
    simp only [impl_PosetPicture_l2, hlt, decide_true, if_true, hL_len, implWords_ok hk hn h, hjoin, Option.bind_some, List.length_singleton, hlim, hw, hd2]
    rw [List.filter_cons]
    by_cases e : wordC h ((d + 1 : Nat) : Int) n = []
    · rw [e, decide_eq_false (by simp), if_neg (by simp), if_neg (by simp)]
      exact implLines_ok hk hn h E d m q (by omega) (by omega)
    · have hpos : 0 < (wordC h ((d + 1 : Nat) : Int) n).length := List.length_pos_iff.2 e
      have hem : (!(wordC h ((d + 1 : Nat) : Int) n).isEmpty) = true := by
        cases hc : wordC h ((d + 1 : Nat) : Int) n with
        | nil => exact absurd hc e
        | cons => rfl
      rw [decide_eq_true (by omega), if_pos rfl, if_pos hem, implLines_ok hk hn h E d m _ (by omega) (by rw [List.length_append, List.length_singleton]; omega), List.append_assoc]
      rfl
theorem down_filter (p : Nat → Bool) (m : Nat) : ∀ d, (∀ u, 1 ≤ u → u ≤ d → (p u = true ↔ u ≤ m)) → (downL d).filter p = downL (min d m)
  | 0, _ => by simp [downL]
  | d + 1, h => by
    have ih := down_filter p m d fun u h1 h2 => h u h1 (by omega)
    show List.filter p ((d + 1) :: downL d) = _
    rw [List.filter_cons, ih]
    have h1 := h (d + 1) (by omega) (by omega)
    by_cases c : d + 1 ≤ m
    · rw [if_pos (h1.2 c), show min (d + 1) m = d + 1 by omega, show min d m = d by omega]; rfl
    · rw [if_neg (fun z => c (h1.1 z)), show min (d + 1) m = m by omega, show min d m = m by omega]
/-- All levels are there, up to the highest. -/
theorem levels {T : Nat → Nat → Bool} {o : List Nat} {s : Int × (Nat → Int)} (I : HInv T o s) : ∀ (j : Nat) (v : Int), 1 ≤ v → v + j = s.1 → ∃ b ∈ o, s.2 b = v
  | 0, v, h1, h2 => by
    rcases I.most with h | ⟨b, hb, h⟩
    · omega
    · exact ⟨b, hb, by omega⟩
  | j + 1, v, h1, h2 => by
    obtain ⟨c, hc, h⟩ := levels I j (v + 1) (by omega) (by omega)
    rcases I.lev c hc with h3 | ⟨b, hb, h3⟩
    · omega
    · exact ⟨b, hb, by omega⟩
theorem words_level {n : Nat} {T : Nat → Nat → Bool} {o : List Nat} {s : Int × (Nat → Int)} (g : goodQ n T o) (I : HInv T o s) (u : Nat) (h1 : 1 ≤ u) : (!(wordC s.2 (u : Int) n).isEmpty) = true ↔ u ≤ s.1.toNat := by
  have hnn := I.nn
  have e : (!(wordC s.2 (u : Int) n).isEmpty) = true ↔ ∃ a, a < n ∧ s.2 a = (u : Int) := by
    unfold wordC
    rw [Bool.not_eq_true', ← Bool.not_eq_true, List.isEmpty_iff, List.map_eq_nil_iff, List.filter_eq_nil_iff]
    constructor
    · intro h
      apply Classical.byContradiction
      intro q
      refine h fun a ha hd => q ⟨a, List.mem_range.1 ha, of_decide_eq_true hd⟩
    · rintro ⟨a, ha, h⟩ q
      exact q a (List.mem_range.2 ha) (decide_eq_true h)
  rw [e]
  constructor
  · rintro ⟨a, _, h⟩
    by_cases hm : a ∈ o
    · have := I.top a hm; omega
    · have := I.zero a hm; omega
  · intro h
    obtain ⟨b, hb, h⟩ := levels I (s.1 - (u : Int)).toNat (u : Int) (by omega) (by omega)
    exact ⟨b, g.lt b hb, h⟩
def maxL (q : Pic) (w : Nat) : Nat := q.foldl (fun w l => if w < l.length then l.length else w) w
theorem maxL_ok : ∀ (q : Pic) (w : Nat), w ≤ maxL q w ∧ (∀ l ∈ q, l.length ≤ maxL q w) ∧ (∀ B, w ≤ B → (∀ l ∈ q, l.length ≤ B) → maxL q w ≤ B)
  | [], w => ⟨Nat.le_refl _, by simp, fun _ h _ => h⟩
  | x :: q, w => by
    have e : maxL (x :: q) w = maxL q (if w < x.length then x.length else w) := rfl
    obtain ⟨h1, h2, h3⟩ := maxL_ok q (if w < x.length then x.length else w)
    rw [e]
    have hw : w ≤ (if w < x.length then x.length else w) ∧ x.length ≤ (if w < x.length then x.length else w) := by split <;> omega
    refine ⟨by omega, fun l hl => ?_, fun B h4 h5 => h3 B ?_ fun l hl => h5 l (by simp [hl])⟩
    · rcases List.mem_cons.1 hl with rfl | hl
      · omega
      · exact h2 l hl
    · have := h5 x (by simp)
      split <;> omega
def padL (W : Nat) (l : List UInt8) : List UInt8 := l ++ List.replicate (W - l.length) 32
def evenP (q : Pic) : Pic := q.map (padL (maxL q 0))
theorem l30Even_ok {k : Nat} (hk : KK ≤ k) {q : Pic} (hq : q.length ≤ 1000) (hl : ∀ l ∈ q, l.length ≤ 1000) : spec_l30Even k q = some (evenP q) := by
  have hK := KK_def
  have hL' := LIM_def
  obtain ⟨_, m2, m3⟩ := maxL_ok q 0
  have hM := m3 1000 (by omega) hl
  unfold spec_l30Even
  have h0 : ∀ E : Pic → Int → Option Pic, spec_l30Even_l0 k k q 0 0 E = E q ((maxL q 0 : Nat) : Int) := by
    intro E
    refine loop_list (A := Nat) (L := fun n i w => spec_l30Even_l0 k n q (w : Int) i E) (I := fun _ _ => True) (G := fun post w => E q ((maxL post w : Nat) : Int)) q ?_ ?_ k (by omega) 0 trivial
    · intro n pre x post w hx _ ih hg hlt
      have hw := w_succ (i := pre.length) (by omega)
      have ih' := ih (if w < x.length then x.length else w) trivial
      simp only [spec_l30Even_l0, hlt, decide_true, if_true, Int.natCast_nonneg, Int.toNat_natCast, hg, Option.bind_some, hw]
      by_cases c : w < x.length
      · rw [if_pos c] at ih'
        rw [decide_eq_true (show (w : Int) < (x.length : Int) by omega), if_pos rfl, ih']
        show _ = E q ((maxL post (if w < x.length then x.length else w) : Nat) : Int)
        rw [if_pos c]
      · rw [if_neg c] at ih'
        rw [decide_eq_false (show ¬ (w : Int) < (x.length : Int) by omega), if_neg (by simp), ih']
        show _ = E q ((maxL post (if w < x.length then x.length else w) : Nat) : Int)
        rw [if_neg c]
    · intro n w _
      simp only [spec_l30Even_l0, Int.lt_irrefl, decide_false, Bool.false_eq_true, if_false]
      rfl
  rw [h0]
  refine loop_list (A := Pic) (L := fun n i r => spec_l30Even_l1 k n q ((maxL q 0 : Nat) : Int) i r (fun q_9 => some q_9)) (I := fun pre r => r = pre.map (padL (maxL q 0))) (G := fun _ _ => some (evenP q)) q ?_ ?_ k (by omega) [] rfl
  · intro n pre x post r hx hr ih hg hlt
    have hw := w_succ (i := pre.length) (by omega)
    have hxl := m2 x (List.mem_of_getElem? hg)
    have hz : w_i64 (((maxL q 0 : Nat) : Int) - (x.length : Int)) = ((maxL q 0 - x.length : Nat) : Int) := by rw [w_id (by omega) (by omega)]; omega
    have b1 : x.length + (List.replicate (maxL q 0 - x.length) (32 : UInt8)).length ≤ 9223372036854775807 := by rw [List.length_replicate]; omega
    have hrl : r.length = pre.length := by rw [hr, List.length_map]
    have b2 : (r.length + 1) * 16 ≤ LIM := by omega
    simp only [spec_l30Even_l1, hlt, decide_true, if_true, Int.natCast_nonneg, Int.toNat_natCast, hg, Option.bind_some, hz, l30Times_ok hk 32 (show maxL q 0 - x.length ≤ 1000000 by omega), b1, List.length_singleton, b2, hw]
    exact ih _ (by rw [hr, List.map_append]; rfl)
  · intro n r hr
    subst hr
    simp only [spec_l30Even_l1, Int.lt_irrefl, decide_false, Bool.false_eq_true, if_false]
    rfl
theorem evenP_same {q : Pic} (hc : ∀ l ∈ q, l.all okC = true) : ∀ l ∈ evenP q, l.length = maxL q 0 ∧ l.all okC = true := by
  obtain ⟨_, m2, _⟩ := maxL_ok q 0
  intro l hl
  obtain ⟨x, hx, rfl⟩ := List.mem_map.1 hl
  have := m2 x hx
  unfold padL
  refine ⟨by rw [List.length_append, List.length_replicate]; omega, ?_⟩
  rw [List.all_append, hc x hx, Bool.true_and, List.all_eq_true]
  intro y hy
  rw [List.eq_of_mem_replicate hy]
  decide
theorem picturedPad_ok {k : Nat} (hk : KK ≤ k) {q : Pic} (hq : q.length ≤ 1000) (hl : ∀ l ∈ q, l.length ≤ 1000) (hc : ∀ l ∈ q, l.all okC = true) : impl_pictured k q = some (doneP (evenP q)) := by
  have hK := KK_def
  have hL' := LIM_def
  obtain ⟨_, m2, m3⟩ := maxL_ok q 0
  have hM := m3 1000 (by omega) hl
  have hel : (evenP q).length = q.length := List.length_map ..
  unfold impl_pictured
  have h0 : ∀ E : Pic → Int → Option (Pic × Int), impl_pictured_l0 k k q 0 q (q.length : Int) 0 E = E q ((maxL q 0 : Nat) : Int) := by
    intro E
    refine loop_list (A := Nat) (L := fun n i w => impl_pictured_l0 k n q (w : Int) q (q.length : Int) i E) (I := fun _ _ => True) (G := fun post w => E q ((maxL post w : Nat) : Int)) q ?_ ?_ k (by omega) 0 trivial
    · intro n pre x post w hx _ ih hg hlt
      have hw := w_succ (i := pre.length) (by omega)
      have ih' := ih (if w < x.length then x.length else w) trivial
      have hm : (if (w : Int) < (x.length : Int) then (x.length : Int) else (w : Int)) = ((if w < x.length then x.length else w : Nat) : Int) := by split <;> split <;> omega
      simp only [impl_pictured_l0, hlt, decide_true, if_true, Int.natCast_nonneg, Int.toNat_natCast, hg, Option.bind_some, hw, hm, ih']
      rfl
    · intro n w _
      simp only [impl_pictured_l0, Int.lt_irrefl, decide_false, Bool.false_eq_true, if_false]
      rfl
  rw [h0]
  refine loop_list (A := Pic) (L := fun n i r => impl_pictured_l1 k n ((maxL q 0 : Nat) : Int) q (q.length : Int) i r (fun width_7 q_8 => (if (decide (60 < (List.length q_8 : Int))) = true then some ([], 5) else (if (decide (80 < width_7)) = true then some ([], 5) else some (q_8, (0 : Int)))))) (I := fun pre r => r = pre.map (padL (maxL q 0))) (G := fun _ _ => some (doneP (evenP q))) q ?_ ?_ k (by omega) [] rfl
  · intro n pre x post r hx hr ih hg hlt
    have hw := w_succ (i := pre.length) (by omega)
    have hxl := m2 x (List.mem_of_getElem? hg)
    have hz : w_i64 (((maxL q 0 : Nat) : Int) - (x.length : Int)) = ((maxL q 0 - x.length : Nat) : Int) := by rw [w_id (by omega) (by omega)]; omega
    have b1 : x.length + (List.replicate (maxL q 0 - x.length) (32 : UInt8)).length ≤ 9223372036854775807 := by rw [List.length_replicate]; omega
    have hrl : r.length = pre.length := by rw [hr, List.length_map]
    have b2 : (r.length + 1) * 16 ≤ LIM := by omega
    simp only [impl_pictured_l1, hlt, decide_true, if_true, Int.natCast_nonneg, Int.toNat_natCast, hg, Option.bind_some, hz, repeat_ok 32 (show maxL q 0 - x.length ≤ 1000000 by omega), b1, List.length_singleton, b2, hw]
    exact ih _ (by rw [hr, List.map_append]; rfl)
  · intro n r hr
    have hr' : r = evenP q := hr
    subst hr'
    simp only [impl_pictured_l1, Int.lt_irrefl, decide_false, Bool.false_eq_true, if_false]
    unfold doneP
    rw [okPic_same (evenP_same hc)]
    by_cases h60 : (evenP q).length ≤ 60
    · rw [decide_eq_false (show ¬ (60 < ((evenP q).length : Int)) by omega), if_neg (by simp), decide_eq_true h60, Bool.true_and]
      cases hz : q with
      | nil => simp [evenP, maxL]
      | cons z zs =>
        rw [← hz]
        have hne : (evenP q).isEmpty = false := by rw [hz]; rfl
        rw [hne, Bool.false_or]
        by_cases h80 : maxL q 0 ≤ 80
        · rw [decide_eq_false (show ¬ (80 < ((maxL q 0 : Nat) : Int)) by omega), decide_eq_true h80]; rfl
        · rw [decide_eq_true (show (80 < ((maxL q 0 : Nat) : Int)) by omega), decide_eq_false h80]; rfl
    · rw [decide_eq_true (show (60 < ((evenP q).length : Int)) by omega), if_pos rfl, decide_eq_false h60]; rfl
theorem posPic_ok {k : Nat} (hk : KK ≤ k) {p : Pos} : ∃ r : List (List UInt8) × Int, spec_PosetPicture k p = some r ∧ impl_PosetPicture k p = some r ∧ r.1.length ≤ 100000 := by
  have hK := KK_def
  have hL' := LIM_def
  obtain ⟨b, h1, h2, h3⟩ := poset_ok hk (p := p)
  unfold spec_PosetPicture impl_PosetPicture spec_l06Order
  have hFE : impl_FirstExtension k p = (impl_ValidPoset k p).bind fun r_1 => (if (!r_1) = true then some ([], 1) else (impl_Poset_order k p).bind fun r_2 => impl_FirstExtension_l0 k k p.1 0 r_2 [] p (fun q_10 => some (q_10, 0))) := rfl
  rw [h1, h2]
  cases b
  · exact ⟨([], 1), by simp, by simp, by simp⟩
  · obtain ⟨n, P⟩ := h3 rfl
    have hn := P.n12
    have od := clo_ok P.pairs
    have hp := prog_ok od P.anti
    obtain ⟨g, hol⟩ := fo_good hp n [] (goodQ_nil n _) (by simp)
    have hne : ∀ x y : Nat, [(x : Int), (y : Int)] ∈ p.2 → x ≠ y := fun x y h => by
      rw [P.covs] at h
      obtain ⟨a, b, _, _, e, h4, _⟩ := cov_mem h
      simp at e
      omega
    have hT : spec_l06Table k p.1 p.2 = some (tbl n (cloF n p.2)) := by rw [P.size]; exact specTable_ok hk hn P.len P.pairs
    have hB : impl_Poset_order k p = some (tbl n (cloF n p.2)) := by unfold impl_Poset_order; rw [P.size, belowOf_ok hk hn P.len P.pairs]; rfl
    have hF : impl_FirstExtension k p = some (intsL (fo n (cloF n p.2) n []), 0) := by
      rw [hFE, h2, hB]
      simp only [Option.bind_some, Bool.not_true, Bool.false_eq_true, if_false]
      rw [P.size]
      exact implFirst_loop hk hn _ hp P.size n k 0 [] (goodQ_nil n _) (by simp) (by omega) (by omega)
    generalize hT' : cloF n p.2 = T at *
    generalize ho : fo n T n [] = o at *
    have hol' : (intsL o).length = o.length := intsL_len o
    have I := inv_pre o.length o [] rfl (by rw [List.append_nil]; exact g)
    have hnn := I.nn
    have hmost : (stA T o).1 ≤ (n : Int) := by
      rcases I.most with h | ⟨b, _, h⟩
      · omega
      · have := I.ub b; omega
    obtain ⟨M, hM⟩ := Int.eq_ofNat_of_zero_le hnn
    have g0 : (0 : Int) ≤ p.1 ∧ p.1 ≤ p.1 ∧ p.1 * 8 ≤ LIM := by rw [P.size]; exact ⟨by omega, by omega, by omega⟩
    have hMn : M ≤ n := by omega
    have hfil : ((downL n).filter fun u : Nat => !(wordC (stA T o).2 (u : Int) n).isEmpty) = downL M := by
      rw [down_filter _ M n fun u h1 _ => (by
        have := words_level g I u h1
        rw [hM] at this
        exact this)]
      rw [show min n M = M by omega]
    have hlines : ∀ l ∈ (downL M).map fun u : Nat => lineH n (stA T o).2 (u : Int), l.length ≤ 1000 ∧ l.all okC = true := fun l hl => by
      obtain ⟨u, _, rfl⟩ := List.mem_map.1 hl
      have := lineH_ok hn (stA T o).2 (u : Int)
      exact ⟨by omega, this.2⟩
    have hll : ((downL M).map fun u : Nat => lineH n (stA T o).2 (u : Int)).length ≤ 1000 := by rw [List.length_map, downL_len]; omega
    refine ⟨doneP (evenP ((downL M).map fun u : Nat => lineH n (stA T o).2 (u : Int))), ?_, ?_, ?_⟩
    · simp only [Option.bind_some, Bool.not_true, Bool.false_eq_true, if_false, hT, specFirst_ok hk hn T hp, ho, g0, and_self, if_true]
      rw [P.size, Int.toNat_natCast, specH_ok hk g (by omega), hM]
      have := specLines_ok hk hn (stA T o).2 P.size (fun q_29 => (spec_l30Even k q_29).bind fun r_30 => (spec_l30Done_g k r_30).bind fun y_31 => some (y_31.2.1.1, y_31.1.1.2.1)) M k [] (by omega) (by simp; omega)
      refine this.trans ?_
      rw [List.nil_append, l30Even_ok hk hll (fun l hl => (hlines l hl).1)]
      simp only [Option.bind_some]
      refine l30Done_ok hk (by unfold evenP; rw [List.length_map]; omega) fun x hx => ?_
      have h5 := (evenP_same (fun l hl => (hlines l hl).2) x hx).1
      have h6 := (maxL_ok ((downL M).map fun u : Nat => lineH n (stA T o).2 (u : Int)) 0).2.2 1000 (by omega) (fun l hl => (hlines l hl).1)
      omega
    · simp only [Option.bind_some, Bool.not_true, Bool.false_eq_true, if_false, hF, g0, and_self, if_true]
      rw [P.size, Int.toNat_natCast, hol', implH_ok hk g (by omega) P.len P.pairs hne od, P.size]
      have := implLines_ok hk hn (stA T o).2 (fun q_22 => (impl_pictured k q_22).bind fun r_23 => some (r_23.1, r_23.2)) n k [] (by omega) (by simp; omega)
      refine this.trans ?_
      rw [List.nil_append, hfil, picturedPad_ok hk hll (fun l hl => (hlines l hl).1) (fun l hl => (hlines l hl).2)]
      rfl
    · unfold doneP
      split
      · unfold evenP; rw [List.length_map]; omega
      · simp
def sumL {α : Type} (f : α → Nat) (l : List α) : Nat := (l.map f).sum
theorem sumL_nil {α : Type} (f : α → Nat) : sumL f [] = 0 := rfl
theorem sumL_cons {α : Type} (f : α → Nat) (x : α) (l : List α) : sumL f (x :: l) = f x + sumL f l := by simp [sumL]
theorem sumL_append {α : Type} (f : α → Nat) (l m : List α) : sumL f (l ++ m) = sumL f l + sumL f m := by simp [sumL]
theorem sumL_mem {α : Type} (f : α → Nat) {x : α} {l : List α} (h : x ∈ l) : f x ≤ sumL f l := by
  induction l with
  | nil => cases h
  | cons y l ih =>
    rw [sumL_cons]
    rcases List.mem_cons.1 h with rfl | h
    · omega
    · have := ih h; omega
/-- Sizes gathered, until they are too great. -/
theorem loop_sz {α : Type} (xs : List α) {s : α → Nat} {L : Nat → Int → Int → Option Int}
    (h1 : ∀ n (i : Nat) x r, xs[i]? = some x → (i : Int) < xs.length → x ∈ xs → 0 ≤ r → r ≤ 1048576 → L (n + 1) (i : Int) r = if (s x : Int) ≤ r then L n ((i + 1 : Nat) : Int) (r - (s x : Int)) else some (-1))
    (h2 : ∀ n r, L (n + 1) (xs.length : Int) r = some r) {n : Nat} (hn : xs.length < n) {r : Int} (h0 : 0 ≤ r) (hr : r ≤ 1048576) : L n 0 r = some (if (sumL s xs : Int) ≤ r then r - (sumL s xs : Int) else -1) := by
  refine loop_list (L := L) (I := fun _ r => 0 ≤ r ∧ r ≤ 1048576) (G := fun post r => some (if (sumL s post : Int) ≤ r then r - (sumL s post : Int) else -1)) xs ?_ ?_ n hn r ⟨h0, hr⟩
  · intro n pre x post r hx hI ih hg hlt
    rw [h1 n pre.length x r hg hlt (List.mem_of_getElem? hg) hI.1 hI.2]
    have hc : sumL s (x :: post) = s x + sumL s post := sumL_cons _ _ _
    by_cases c : (s x : Int) ≤ r
    · rw [if_pos c, ih (r - (s x : Int)) ⟨by omega, by omega⟩]
      by_cases c2 : (sumL s post : Int) ≤ r - (s x : Int)
      · rw [if_pos c2, if_pos (by omega)]; congr 1; omega
      · rw [if_neg c2, if_neg (by omega)]
    · rw [if_neg c, if_neg (by omega)]
  · intro n r hI
    rw [h2, sumL_nil, if_pos (by simpa using hI.1)]; simp
/-- A mark is a text. -/
theorem markText_ok {k : Nat} (hk : KK ≤ k) {n : Int} (h : n ≤ 9223372036854775807) : ∃ t, laws_markText k n = some t := by
  unfold laws_markText
  by_cases h0 : n ≤ 0
  · exact ⟨[109, 48], by simp [h0]⟩
  · simp only [decide_eq_true_eq, h0, if_false]
    have key : ∀ (m : Nat) (n : Int) (out : List UInt8), 0 ≤ n → n < 10 ^ m → n ≤ 9223372036854775807 → out.length + m ≤ 100 → ∀ q, m < q → ∃ t, laws_markText_l0 k q n out (fun out_1 => (if [109].length + out_1.length ≤ 9223372036854775807 then some ([109] ++ out_1) else none)) = some t := by
      intro m
      induction m with
      | zero =>
        intro n out h1 h2 h3 h4 q hq
        obtain ⟨q, rfl⟩ : ∃ p, q = p + 1 := ⟨q - 1, by omega⟩
        have : ¬ 0 < n := by simp at h2; omega
        have h5 : 1 + out.length ≤ 9223372036854775807 := by omega
        exact ⟨[109] ++ out, by simp only [laws_markText_l0, decide_eq_true_eq, this, if_false, List.length_singleton, h5, if_true]⟩
      | succ m ih =>
        intro n out h1 h2 h3 h4 q hq
        obtain ⟨q, rfl⟩ : ∃ p, q = p + 1 := ⟨q - 1, by omega⟩
        by_cases hn : 0 < n
        · have hd : Int.tdiv n 10 = n / 10 := Int.tdiv_eq_ediv_of_nonneg h1
          have hw : w_i64 (Int.tdiv n 10) = n / 10 := by rw [hd, w_id (by omega) (by omega)]
          have h5 : 1 + out.length ≤ 9223372036854775807 := by omega
          have h6 : n / 10 < 10 ^ m := by
            rw [Int.pow_succ] at h2
            omega
          obtain ⟨t, ht⟩ := ih (n / 10) ((to_S [(w_u8 ((w_i64 (48 + (Int.tmod n 10)))))]) ++ out) (by omega) h6 (by omega) (by simp; omega) q (by omega)
          refine ⟨t, ?_⟩
          simp only [laws_markText_l0, decide_eq_true_eq, hn, if_true, hw]
          rw [if_pos (by simp; omega)]
          exact ht
        · have h5 : 1 + out.length ≤ 9223372036854775807 := by omega
          exact ⟨[109] ++ out, by simp only [laws_markText_l0, decide_eq_true_eq, hn, if_false, List.length_singleton, h5, if_true]⟩
    exact key 20 n [] (by omega) (by omega) h (by simp) k (by have := KK_def; omega)
noncomputable def tM (k : Nat) (m : Int) : List UInt8 := (laws_markText k m).getD []
theorem tM_ok {k : Nat} (hk : KK ≤ k) {m : Int} (h : m ≤ 9223372036854775807) : laws_markText k m = some (tM k m) := by
  obtain ⟨t, ht⟩ := markText_ok hk h
  unfold tM
  rw [ht]; rfl
/-- Marks along a list: f puts marks from m on into an element and says which is next. -/
def mkL {α : Type} (f : α → Int → α × Int) : List α → Int → List α × Int
  | [], m => ([], m)
  | x :: l, m => ((f x m).1 :: (mkL f l (f x m).2).1, (mkL f l (f x m).2).2)
theorem mkL_length {α : Type} (f : α → Int → α × Int) : ∀ (l : List α) (m : Int), (mkL f l m).1.length = l.length
  | [], _ => rfl
  | x :: l, m => by simp [mkL, mkL_length f l]
theorem mkL_snd {α : Type} {f : α → Int → α × Int} {c : α → Nat} (hc : ∀ x m, (f x m).2 = m + (c x : Int)) : ∀ (l : List α) (m : Int), (mkL f l m).2 = m + (sumL c l : Int)
  | [], m => by simp [mkL, sumL_nil]
  | x :: l, m => by
    have h1 := sumL_cons c x l
    show (mkL f l (f x m).2).2 = _
    rw [mkL_snd hc l, hc]; omega
theorem mkL_append {α : Type} {f : α → Int → α × Int} : ∀ (l r : List α) (m : Int), (mkL f (l ++ r) m).1 = (mkL f l m).1 ++ (mkL f r (mkL f l m).2).1
  | [], r, m => rfl
  | x :: l, r, m => by simp [mkL, mkL_append l r]
/-- A loop that marks: S tells the state by the list that is marked. -/
theorem loop_mark {α Q R : Type} {f : α → Int → α × Int} {c : α → Nat} (hc : ∀ x m, (f x m).2 = m + (c x : Int)) (xs : List α) {m0 B : Int} (hB : m0 + (sumL c xs : Int) ≤ B) {S : List α → Q} {L : Nat → Int → Int → Q → R} {G : R}
    (h1 : ∀ n (i : Nat) m l y, l.length = xs.length → l[i]? = some y → y ∈ xs → m0 ≤ m → m + (c y : Int) ≤ B → (i : Int) < l.length → i < l.length → L (n + 1) m (i : Int) (S l) = L n (m + (c y : Int)) ((i + 1 : Nat) : Int) (S (l.set i (f y m).1)))
    (h2 : ∀ n l, l = (mkL f xs m0).1 → l.length = xs.length → L (n + 1) (m0 + (sumL c xs : Int)) (xs.length : Int) (S l) = G) {n : Nat} (hn : xs.length < n) : L n m0 0 (S xs) = G := by
  have main : ∀ (post pre : List α) (n : Nat), xs = pre ++ post → post.length < n → L n (m0 + (sumL c pre : Int)) (pre.length : Int) (S ((mkL f pre m0).1 ++ post)) = G := by
    intro post
    induction post with
    | nil =>
      intro pre n hx hn
      obtain ⟨m, rfl⟩ : ∃ m, n = m + 1 := ⟨n - 1, by simp at hn; omega⟩
      rw [List.append_nil] at hx ⊢
      subst hx
      exact h2 m _ rfl (mkL_length f _ _)
    | cons x post ih =>
      intro pre n hx hn
      obtain ⟨m, rfl⟩ : ∃ m, n = m + 1 := ⟨n - 1, by simp at hn; omega⟩
      have hl : (mkL f pre m0).1.length = pre.length := mkL_length f _ _
      have hs : sumL c xs = sumL c pre + (c x + sumL c post) := by rw [hx, sumL_append, sumL_cons]
      rw [h1 m pre.length (m0 + (sumL c pre : Int)) ((mkL f pre m0).1 ++ x :: post) x (by rw [hx]; simp [hl]) (by rw [List.getElem?_append_right (by omega), hl]; simp) (by rw [hx]; simp) (by omega) (by omega) (by simp [hl]; omega) (by simp [hl])]
      have := ih (pre ++ [x]) m (by rw [hx]; simp) (by simp at hn; omega)
      have e1 : ((mkL f pre m0).1 ++ x :: post).set pre.length (f x (m0 + (sumL c pre : Int))).1 = (mkL f (pre ++ [x]) m0).1 ++ post := by
        rw [List.set_append_right _ _ (by omega), hl, Nat.sub_self, List.set_cons_zero, mkL_append, mkL_snd hc]
        simp [mkL]
      have e2 : m0 + (sumL c pre : Int) + (c x : Int) = m0 + (sumL c (pre ++ [x]) : Int) := by rw [sumL_append, sumL_cons, sumL_nil]; omega
      rw [e1, e2]
      rw [List.length_append] at this
      simpa using this
  have := main xs [] n rfl hn
  simpa [sumL_nil, mkL] using this
/-- A loop that looks whether marks are held. -/
theorem loop_held {α R : Type} {f : α → Int → α × Int} {c : α → Nat} (hc : ∀ x m, (f x m).2 = m + (c x : Int)) (xs : List α) {m0 B : Int} (hB : m0 + (sumL c xs : Int) ≤ B) {L : Nat → Int → Int → R} {G : R}
    (h1 : ∀ n (i : Nat) m y, (mkL f xs m0).1[i]? = some (f y m).1 → y ∈ xs → m0 ≤ m → m + (c y : Int) ≤ B → (i : Int) < (mkL f xs m0).1.length → i < (mkL f xs m0).1.length → L (n + 1) m (i : Int) = L n (m + (c y : Int)) ((i + 1 : Nat) : Int))
    (h2 : ∀ n, L (n + 1) (m0 + (sumL c xs : Int)) ((mkL f xs m0).1.length : Int) = G) {n : Nat} (hn : xs.length < n) : L n m0 0 = G := by
  have hlen : (mkL f xs m0).1.length = xs.length := mkL_length f _ _
  have main : ∀ (post pre : List α) (n : Nat), xs = pre ++ post → post.length < n → L n (m0 + (sumL c pre : Int)) (pre.length : Int) = G := by
    intro post
    induction post with
    | nil =>
      intro pre n hx hn
      obtain ⟨m, rfl⟩ : ∃ m, n = m + 1 := ⟨n - 1, by simp at hn; omega⟩
      rw [List.append_nil] at hx
      have := h2 m
      rw [hlen] at this
      rw [← hx]; exact this
    | cons x post ih =>
      intro pre n hx hn
      obtain ⟨m, rfl⟩ : ∃ m, n = m + 1 := ⟨n - 1, by simp at hn; omega⟩
      have hl : (mkL f pre m0).1.length = pre.length := mkL_length f _ _
      have hs : sumL c xs = sumL c pre + (c x + sumL c post) := by rw [hx, sumL_append, sumL_cons]
      have hlx : pre.length < xs.length := by rw [hx]; simp
      have hg : (mkL f xs m0).1[pre.length]? = some (f x (m0 + (sumL c pre : Int))).1 := by
        rw [hx, mkL_append, List.getElem?_append_right (by omega), hl, Nat.sub_self, mkL_snd hc]
        rfl
      rw [h1 m pre.length (m0 + (sumL c pre : Int)) x hg (by rw [hx]; simp) (by omega) (by omega) (by omega) (by omega)]
      have := ih (pre ++ [x]) m (by rw [hx]; simp) (by simp at hn; omega)
      have e2 : m0 + (sumL c pre : Int) + (c x : Int) = m0 + (sumL c (pre ++ [x]) : Int) := by rw [sumL_append, sumL_cons, sumL_nil]; omega
      rw [e2]
      rw [List.length_append] at this
      simpa using this
  have := main xs [] n rfl hn
  simpa [sumL_nil] using this
theorem sumL_one {α : Type} : ∀ l : List α, sumL (fun _ => 1) l = l.length
  | [] => rfl
  | x :: l => by rw [sumL_cons, sumL_one l, List.length_cons]; omega
/-- A text marked. -/
noncomputable def mkS (k : Nat) (_ : List UInt8) (m : Int) : List UInt8 × Int := (tM k m, m + ((1 : Nat) : Int))
theorem mkS_snd (k : Nat) : ∀ (x : List UInt8) (m : Int), (mkS k x m).2 = m + (((fun _ : List UInt8 => 1) x : Nat) : Int) := fun _ _ => rfl
def mkI (_ : Int) (m : Int) : Int × Int := (m, m + ((1 : Nat) : Int))
theorem mkI_snd : ∀ (x : Int) (m : Int), (mkI x m).2 = m + (((fun _ : Int => 1) x : Nat) : Int) := fun _ _ => rfl
theorem markIntI_eq {k : Nat} (hk : KK ≤ k) {q : List (List Int)} {a : Nat} {z : List Int} (hz : q[a]? = some z) {m : Int} (h0 : 0 ≤ m) (h1 : m ≤ 1000000000000000000) (hl : z.length ≤ 1000000000000) :
    laws_markInt64S_o_i_LI k a m q = some ((m + (z.length : Int), ()), (q.set a (mkL mkI z m).1, ()), ()) := by
  have hK := KK_def
  have ha := (List.getElem?_eq_some_iff.1 hz).1
  have hs := sumL_one z
  unfold laws_markInt64S_o_i_LI
  have e : q = q.set a z := by
    obtain ⟨h, rfl⟩ := List.getElem?_eq_some_iff.1 hz
    exact (List.set_getElem_self h).symm
  have := loop_mark mkI_snd z (m0 := m) (B := 2000000000000000000) (by omega) (S := fun l => q.set a l) (L := fun n m i q => laws_markInt64S_o_i_LI_l0 k n a m i q (fun k_10 q_11 => some ((k_10, ()), (q_11, ()), ())))
    (G := some ((m + (z.length : Int), ()), (q.set a (mkL mkI z m).1, ()), ())) ?_ ?_ (n := k) (by omega)
  · rw [← e] at this
    exact this
  · intro n i m l y hll hg hy m0 m1 hlt hlt'
    have hw := w_succ (i := i) (by omega)
    have hm : w_i64 (m + 1) = m + ((1 : Nat) : Int) := w_id (by omega) (by omega)
    simp only [laws_markInt64S_o_i_LI_l0, List.getElem?_set_self ha, Option.bind_some, hlt, hlt', decide_true, if_true, Int.natCast_nonneg, Int.toNat_natCast, and_self, List.getElem?_eq_getElem hlt', hm, hw, List.set_set, mkI]
  · intro n l hl2 hll
    have : ¬ (z.length : Int) < (l.length : Int) := by omega
    simp only [laws_markInt64S_o_i_LI_l0, List.getElem?_set_self ha, Option.bind_some, this, decide_false, Bool.false_eq_true, if_false, hs]
    rw [hl2]
def mkIS (z : List Int) (m : Int) : List Int × Int := ((mkL mkI z m).1, m + (z.length : Int))
theorem mkIS_snd (z : List Int) (m : Int) : (mkIS z m).2 = m + (z.length : Int) := rfl
theorem markIntSS_eq {k : Nat} (hk : KK ≤ k) {L : List (List Int)} {m : Int} (h0 : 0 ≤ m) (h1 : m + (sumL List.length L : Int) ≤ 100000000000000000) (hx : ∀ x ∈ L, x.length ≤ 1000000000000) (hL : L.length ≤ 1000000000000) :
    laws_markInt64SS_o k m L = some ((m + (sumL List.length L : Int), ()), ((mkL mkIS L m).1, ()), ()) := by
  have hK := KK_def
  unfold laws_markInt64SS_o
  refine loop_mark mkIS_snd L (m0 := m) (B := 100000000000000000) h1 (S := fun l => l) (L := fun n m i q => laws_markInt64SS_o_l0 k n m i q (fun k_5 q_6 => some ((k_5, ()), (q_6, ()), ()))) ?_ ?_ (n := k) (by omega)
  · intro n i m' l y hll hg hy m0 m1 hlt hlt'
    have hw := w_succ (i := i) (by omega)
    have st := markIntI_eq hk hg (m := m') (by omega) (by omega) (hx y hy)
    simp only [laws_markInt64SS_o_l0, hlt, hlt', decide_true, if_true, Option.bind_some, Int.natCast_nonneg, Int.toNat_natCast, and_self, hg, st, hw]
    rfl
  · intro n l hl2 hll
    have : ¬ (L.length : Int) < (l.length : Int) := by omega
    simp only [laws_markInt64SS_o_l0, this, decide_false, Bool.false_eq_true, if_false]
    rw [hl2]
instance dec_Int64S : DecidableEq (List Int) := inferInstance
def sz_Int64S (a : List Int) : Nat := a.length
theorem szInt64S_ok {a : List Int} {e0 : TypeId} {left : Int} (h0 : 0 ≤ left) (h1 : left ≤ 1048576) (h : InR (.sl e0 (.int .i64)) a) : laws_szInt64S a left = some (if (sz_Int64S a : Int) ≤ left then left - (sz_Int64S a : Int) else -1) := by
  have hl : a.length ≤ 140737488351232 := h.1
  have hs : sz_Int64S a = a.length := rfl
  unfold laws_szInt64S
  rw [hs, w_id (by omega) (by omega)]
  by_cases c : (a.length : Int) ≤ left
  · rw [decide_eq_false (by omega), if_neg (by simp), if_pos c]
  · rw [decide_eq_true (by omega), if_pos rfl, if_neg c]
instance dec_Int64SS : DecidableEq (List (List Int)) := inferInstance
def sz_Int64SS (a : List (List Int)) : Nat := a.length + sumL sz_Int64S a
theorem szInt64SS_ok {k : Nat} (hk : KK ≤ k) {a : List (List Int)} {e0 e1 : TypeId} {left : Int} (h0 : 0 ≤ left) (h1 : left ≤ 1048576) (h : InR (.sl e0 (.sl e1 (.int .i64))) a) : laws_szInt64SS k a left = some (if (sz_Int64SS a : Int) ≤ left then left - (sz_Int64SS a : Int) else -1) := by
  have hl : a.length ≤ 140737488351232 := h.1
  have hs : sz_Int64SS a = a.length + sumL sz_Int64S a := rfl
  have hK := KK_def
  unfold laws_szInt64SS
  rw [hs, w_id (by omega) (by omega)]
  by_cases c : (a.length : Int) ≤ left
  · rw [decide_eq_false (by omega), if_neg (by simp)]
    refine Eq.trans (loop_sz (L := fun n i r => laws_szInt64SS_l0 k n a r i fun r => some r) (s := sz_Int64S) a ?_ ?_ (n := k) (by omega) (r := left - (a.length : Int)) (by omega) (by omega)) ?_
    · intro n i x r hi hlt hm r0 r1
      have hw := w_succ (i := i) (by omega)
      have hx := szInt64S_ok (a := x) r0 r1 (h.2 x hm)
      simp only [laws_szInt64SS_l0, hlt, decide_true, if_true, Int.natCast_nonneg, Int.toNat_natCast, hi, Option.bind_some, hw, hx]
      by_cases c2 : (sz_Int64S x : Int) ≤ r
      · rw [if_pos c2, decide_eq_false (by omega), if_neg (by simp), if_pos c2]
      · rw [if_neg c2, decide_eq_true (by omega), if_pos rfl, if_neg c2]
    · intro n r
      simp [laws_szInt64SS_l0]
    · by_cases c2 : (sumL sz_Int64S a : Int) ≤ left - (a.length : Int)
      · rw [if_pos c2, if_pos (by omega)]; congr 1; omega
      · rw [if_neg c2, if_neg (by omega)]
  · rw [decide_eq_true (by omega), if_pos rfl, if_neg (by omega)]
instance dec_Poset : DecidableEq (Int × List (List Int)) := inferInstance
def sz_Poset (a : Int × List (List Int)) : Nat := (sz_Int64SS (a.2))
theorem szPoset_ok {k : Nat} (hk : KK ≤ k) {a : Int × List (List Int)} {e0 e1 : TypeId} {left : Int} (h0 : 0 ≤ left) (h1 : left ≤ 1048576) (h : InR (.st (.pr (.int .i64) (.sl e0 (.sl e1 (.int .i64))))) a) : laws_szPoset k a left = some (if (sz_Poset a : Int) ≤ left then left - (sz_Poset a : Int) else -1) := by
  have hs : sz_Poset a = (sz_Int64SS (a.2)) := rfl
  unfold laws_szPoset
  rw [hs]
  have q0 := szInt64SS_ok hk (a := a.2) (left := left) (by omega) (by omega) h.2
  rw [q0]
  by_cases c0 : ((sz_Int64SS (a.2)) : Int) ≤ left
  case neg => rw [if_neg c0]; simp only [Option.bind_some]; rw [decide_eq_true (by omega), if_pos rfl]
  rw [if_pos c0]; simp only [Option.bind_some]
  rw [decide_eq_false (by omega), if_neg (by simp)]
theorem toInt64S_ok {k : Nat} (hk : KK ≤ k) {a : List Int} (h : sz_Int64S a ≤ 10000000000) : laws_toInt64S k a = some a := by
  have hl : a.length ≤ 10000000000 := Nat.le_trans (show a.length ≤ sz_Int64S a by unfold sz_Int64S; omega) h
  unfold laws_toInt64S
  have hL := LIM_def
  rw [if_pos ⟨by omega, Int.le_refl _, by omega⟩]
  refine loop_copy (L := fun n i q => laws_toInt64S_l0 k n a i q fun q_5 => some q_5) (e := fun q => some q) a _ (by simp) ?_ ?_ (n := k) (by have := KK_def; omega)
  · intro n i x q hx hlt hq
    have hw := w_succ (i := i) (by omega)
    have hi : i < q.length := by omega
    simp [laws_toInt64S_l0, hlt, hx, hw, hi]
  · intro n q
    simp [laws_toInt64S_l0]
theorem toInt64SS_ok {k : Nat} (hk : KK ≤ k) {a : List (List Int)} (h : sz_Int64SS a ≤ 10000000000) : laws_toInt64SS k a = some a := by
  have hl : a.length ≤ 10000000000 := Nat.le_trans (show a.length ≤ sz_Int64SS a by unfold sz_Int64SS; omega) h
  unfold laws_toInt64SS
  have hL := LIM_def
  rw [if_pos ⟨by omega, Int.le_refl _, by omega⟩]
  refine loop_copy (L := fun n i q => laws_toInt64SS_l0 k n a i q fun q_5 => some q_5) (e := fun q => some q) a _ (by simp) ?_ ?_ (n := k) (by have := KK_def; omega)
  · intro n i x q hx hlt hq
    have hw := w_succ (i := i) (by omega)
    have hi : i < q.length := by omega
    have hm := sumL_mem sz_Int64S (List.mem_of_getElem? hx)
    have hb : sz_Int64S x ≤ 10000000000 := by unfold sz_Int64SS at h; omega
    simp [laws_toInt64SS_l0, toInt64S_ok hk hb, hlt, hx, hw, hi]
  · intro n q
    simp [laws_toInt64SS_l0]
theorem toPoset_ok {k : Nat} (hk : KK ≤ k) {a : Int × List (List Int)} (h : sz_Poset a ≤ 10000000000) : laws_toPoset k a = some a := by
  have b1 : (sz_Int64SS (a.2)) ≤ 10000000000 := by unfold sz_Poset at h; omega
  unfold laws_toPoset
  simp only [toInt64SS_ok hk b1, Option.bind_some] <;> rfl
theorem eqInt64S_ok {k : Nat} (hk : KK ≤ k) {a b : List Int} (h : sz_Int64S a ≤ 10000000000) : laws_eqInt64S k a b = some (decide (a = b)) := by
  have hle : a.length ≤ 10000000000 := Nat.le_trans (show a.length ≤ sz_Int64S a by unfold sz_Int64S; omega) h
  unfold laws_eqInt64S
  by_cases hl : a.length = b.length
  · rw [if_neg (by simp [hl])]
    refine loop_eq (L := fun n i => laws_eqInt64S_l0 k n a b i (some true)) a b hl ?_ ?_ (n := k) (by have := KK_def; omega)
    · intro n i x y hx hy hlt
      have hw := w_succ (i := i) (by omega)
      by_cases e : x = y <;> simp [laws_eqInt64S_l0, hlt, hx, hy, hw, e]
    · intro n
      simp [laws_eqInt64S_l0]
  · have h2 : a ≠ b := fun e => hl (by rw [e])
    have h3 : ¬ (a.length : Int) = b.length := by omega
    simp [h3, h2]
theorem eqInt64SS_ok {k : Nat} (hk : KK ≤ k) {a b : List (List Int)} (h : sz_Int64SS a ≤ 10000000000) : laws_eqInt64SS k a b = some (decide (a = b)) := by
  have hle : a.length ≤ 10000000000 := Nat.le_trans (show a.length ≤ sz_Int64SS a by unfold sz_Int64SS; omega) h
  unfold laws_eqInt64SS
  by_cases hl : a.length = b.length
  · rw [if_neg (by simp [hl])]
    refine loop_eq (L := fun n i => laws_eqInt64SS_l0 k n a b i (some true)) a b hl ?_ ?_ (n := k) (by have := KK_def; omega)
    · intro n i x y hx hy hlt
      have hw := w_succ (i := i) (by omega)
      have hm := sumL_mem sz_Int64S (List.mem_of_getElem? hx)
      have hb : sz_Int64S x ≤ 10000000000 := by unfold sz_Int64SS at h; omega
      simp only [laws_eqInt64SS_l0, hlt, decide_true, if_true, Int.natCast_nonneg, Int.toNat_natCast, hx, hy, Option.bind_some, hw, eqInt64S_ok hk hb]
      by_cases e : x = y
      · rw [decide_eq_true e, if_pos e]; simp
      · rw [decide_eq_false e, if_neg e]; simp
    · intro n
      simp [laws_eqInt64SS_l0]
  · have h2 : a ≠ b := fun e => hl (by rw [e])
    have h3 : ¬ (a.length : Int) = b.length := by omega
    simp [h3, h2]
theorem eqPoset_ok {k : Nat} (hk : KK ≤ k) {a b : Int × List (List Int)} (h : sz_Poset a ≤ 10000000000) : laws_eqPoset k a b = some (decide (a = b)) := by
  obtain ⟨a0, a1⟩ := a
  obtain ⟨b0, b1⟩ := b
  have c1 : (sz_Int64SS a1) ≤ 10000000000 := by unfold sz_Poset at h; simp only at h; omega
  unfold laws_eqPoset
  simp only [eqInt64SS_ok hk c1, Option.bind_some, Prod.mk.injEq]
  by_cases x0 : a0 = b0
  case neg => simp [x0]
  subst x0
  by_cases x1 : a1 = b1
  case neg => simp [x1]
  subst x1
  simp
theorem eta_Poset (x : Int × List (List Int)) : (x.1, x.2) = x := rfl
/-- What was marked is held. -/
theorem markStringS_ok {k : Nat} (hk : KK ≤ k) {a : List (List UInt8)} {m : Int} (h0 : 0 ≤ m) (h1 : m ≤ 1000000000000) (ha : a.length ≤ 1000000000000) :
    ∃ q, laws_markStringS_o k m a = some ((m + a.length, ()), (q, ()), ()) ∧ laws_heldStringS k q m = some (m + a.length) := by
  have mt : ∀ i : Nat, i ≤ 2000000000000 → ∃ t, laws_markText k (m + i) = some t := fun i hi => markText_ok hk (by omega)
  let T : Nat → List UInt8 := fun i => (laws_markText k (m + i)).getD []
  have hT : ∀ i : Nat, i ≤ 2000000000000 → laws_markText k (m + i) = some (T i) := fun i hi => by
    obtain ⟨t, ht⟩ := mt i hi
    show _ = some ((laws_markText k (m + i)).getD [])
    rw [ht]; rfl
  refine ⟨(List.range a.length).map T, ?_, ?_⟩
  · unfold laws_markStringS_o
    have := loop_list (α := Nat) (A := List (List UInt8)) (L := fun n i q => laws_markStringS_o_l0 k n (m + i) i q fun k_6 q_7 => some ((k_6, ()), (q_7, ()), ()))
      (I := fun pre q => q.length = a.length ∧ q.take pre.length = (List.range pre.length).map T) (G := fun _ _ => some ((m + a.length, ()), ((List.range a.length).map T, ()), ())) (List.range a.length) ?_ ?_ k (by have := KK_def; simp; omega) a ⟨rfl, by simp⟩
    · simpa using this
    · intro n pre x post q hx hq ih hg hlt
      rw [List.length_range] at hlt
      have hw := w_succ (i := pre.length) (by omega)
      have hl : pre.length < q.length := by omega
      have hm : w_i64 (m + (pre.length : Int) + 1) = m + ((pre.length + 1 : Nat) : Int) := by rw [w_id (by omega) (by omega)]; omega
      have hlt' : (pre.length : Int) < (q.length : Int) := by omega
      simp only [laws_markStringS_o_l0, hlt', decide_true, if_true, hT pre.length (by omega), Option.bind_some, Int.natCast_nonneg, Int.toNat_natCast, hl, and_self, List.getElem?_eq_getElem hl, hm, hw]
      refine ih _ ⟨by rw [List.length_set]; exact hq.1, ?_⟩
      rw [List.length_append, List.length_singleton, List.take_succ_eq_append_getElem (by simpa using hl), List.getElem_set_self, List.take_set_of_le (Nat.le_refl _), hq.2, List.range_succ]
      simp
    · intro n q hq
      have : ¬ ((List.range a.length).length : Int) < (q.length : Int) := by rw [hq.1]; simp
      have h2 := hq.2
      rw [List.length_range, ← hq.1, List.take_length, hq.1] at h2
      simp only [laws_markStringS_o_l0, this, decide_false, Bool.false_eq_true, if_false]
      simp [h2]
  · unfold laws_heldStringS
    have := loop_list (α := List UInt8) (A := Unit) (L := fun n i _ => laws_heldStringS_l0 k n ((List.range a.length).map T) (m + i) i fun k_3 => some k_3) (I := fun _ _ => True) (G := fun _ _ => some (m + a.length)) ((List.range a.length).map T) ?_ ?_ k (by have := KK_def; simp; omega) () trivial
    · simpa using this
    · intro n pre x post _ hx _ ih hg hlt
      rw [List.length_map, List.length_range] at hlt
      have hw := w_succ (i := pre.length) (by omega)
      have hm : w_i64 (m + (pre.length : Int) + 1) = m + ((pre.length + 1 : Nat) : Int) := by rw [w_id (by omega) (by omega)]; omega
      have hxT : x = T pre.length := by
        rw [List.getElem?_map, List.getElem?_range (by omega)] at hg
        simpa using hg.symm
      have hlt' : (pre.length : Int) < (((List.range a.length).map T).length : Int) := by simp; omega
      simp only [laws_heldStringS_l0, hlt', decide_true, if_true, Int.natCast_nonneg, Int.toNat_natCast, hg, Option.bind_some, hT pre.length (by omega), hxT, Bool.not_true, Bool.false_eq_true, if_false, hm, hw]
      exact ih () trivial
    · intro n _ _
      simp [laws_heldStringS_l0]
theorem eqStringS_ok {k : Nat} (hk : KK ≤ k) {a b : List (List UInt8)} (ha : a.length < 4611686018427387904) : laws_eqStringS k a b = some (decide (a = b)) := by
  unfold laws_eqStringS
  by_cases hl : a.length = b.length
  · rw [if_neg (by simp [hl])]
    refine loop_eq (L := fun n i => laws_eqStringS_l0 k n a b i (some true)) a b hl ?_ ?_ (n := k) (by have := KK_def; omega)
    · intro n i x y hx hy hlt
      have hw := w_succ (i := i) (by omega)
      by_cases e : x = y <;> simp [laws_eqStringS_l0, hlt, hx, hy, hw, e]
    · intro n
      simp [laws_eqStringS_l0]
  · have h2 : a ≠ b := fun e => hl (by rw [e])
    have h3 : ¬ (a.length : Int) = b.length := by omega
    simp [h3, h2]
theorem pure_FnExactPosetPicture {e0 e1 : TypeId} (a0 : Pos) (h0 : InR (.st (.pr (.int .i64) (.sl e0 (.sl e1 (.int .i64))))) a0) : ∃ k : Nat, laws_FnExactPosetPicture k a0 = some true := by
  have hk := Nat.le_refl KK
  refine ⟨KK, ?_⟩
  have q0 := szPoset_ok hk (a := a0) (left := 1048576) (by omega) (by omega) h0
  unfold laws_FnExactPosetPicture
  rw [q0]
  by_cases c0 : (sz_Poset a0 : Int) ≤ 1048576
  case neg => rw [if_neg c0]; simp only [Option.bind_some]; rw [decide_eq_true (by omega), if_pos rfl]
  rw [if_pos c0]; simp only [Option.bind_some]
  rw [decide_eq_false (by omega), if_neg (by simp)]
  have b0 : sz_Poset a0 ≤ 10000000000 := by omega
  have e : sz_Poset a0 = a0.2.length + sumL List.length a0.2 := rfl
  obtain ⟨r, hs, hi, hl⟩ := posPic_ok hk (p := a0)
  have hm := markIntSS_eq hk (L := a0.2) (m := 1) (by omega) (by omega) (fun x hx => by have := sumL_mem List.length hx; omega) (by omega)
  have hmn : ¬ (1 + (sumL List.length a0.2 : Int) < 0) := by omega
  obtain ⟨q2, hq2, hh2⟩ := markStringS_ok hk (a := r.1) (m := 1) (by omega) (by omega) (by omega)
  have hmn2 : ¬ (1 + (r.1.length : Int) < 0) := by omega
  unfold laws_markPoset_o
  simp only [toPoset_ok hk b0, Option.bind_some, eta_Poset, hs, hi, eqPoset_ok hk b0, eqStringS_ok hk (show r.1.length < 4611686018427387904 by omega), hm, hmn, hq2, hh2, hmn2, decide_true, Bool.not_true, Bool.false_eq_true, if_false, decide_false]
end Go.Proofs.YtpliblemabkikaaDoor.Ev
