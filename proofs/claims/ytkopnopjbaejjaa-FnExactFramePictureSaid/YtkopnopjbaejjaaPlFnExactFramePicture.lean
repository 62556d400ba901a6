/- Plain laws of the printed functions. No conditions but those in each statement. -/
import Derived.Test.YtkopnopjbaejjaaEv4
import Derived.Test.YtkopnopjbaejjaaG5
set_option linter.unusedVariables false
set_option linter.unusedSimpArgs false
namespace Go.Proofs.Ytkopnopjbaejjaa.Ev
open Go.RowKit
theorem eqStringS_ok {k : Nat} (hk : KK ≤ k) {a b : List (List UInt8)} (ha : a.length < 4611686018427387904) : laws_eqStringS k a b = some (decide (a = b)) := by
  unfold laws_eqStringS
  by_cases hl : a.length = b.length
  · rw [if_neg (by simp [hl])]
    refine loop_eq (L := fun n i => laws_eqStringS_l0 k n a b i (some true)) a b hl ?_ ?_ (n := k) (by have := KK_def; omega)
    · intro n i x y hx hy hlt
      have hw := w_succ (i := i) (by omega)
      by_cases e : x = y <;> simp [laws_eqStringS_l0, hlt, hx, hy, hw, e]
    · intro n
      simp [laws_eqStringS_l0]
  · have h2 : a ≠ b := fun e => hl (by rw [e])
    have h3 : ¬ (a.length : Int) = b.length := by omega
    simp [h3, h2]
theorem toStringS_ok {k : Nat} (hk : KK ≤ k) {a : List (List UInt8)} (ha : a.length ≤ 1048576) : laws_toStringS k a = some a := by
  unfold laws_toStringS
  have hL := LIM_def
  rw [if_pos ⟨by omega, Int.le_refl _, by omega⟩]
  refine loop_copy (L := fun n i q => laws_toStringS_l0 k n a i q fun q_5 => some q_5) (e := fun q => some q) a _ (by simp) ?_ ?_ (n := k) (by have := KK_def; omega)
  · intro n i x q hx hlt hq
    have hw := w_succ (i := i) (by omega)
    have hi : i < q.length := by omega
    simp [laws_toStringS_l0, hlt, hx, hw, hi]
  · intro n q
    simp [laws_toStringS_l0]
/-- The size asked for: it fits and leaves something, or it does not. -/
theorem szStringS_ok {k : Nat} (hk : KK ≤ k) {a : List (List UInt8)} {e : TypeId} {left : Int} (h0 : 0 ≤ left) (h1 : left ≤ 1048576) (ha : InR (.sl e .str) a) : ∃ r, laws_szStringS k a left = some r ∧ (r < 0 ∨ (0 ≤ r ∧ r ≤ left ∧ a.length ≤ 1048576 ∧ ∀ x ∈ a, x.length ≤ 1048576)) := by
  obtain ⟨hl, hx⟩ := ha
  unfold laws_szStringS
  rw [w_id (by omega) (by omega)]
  by_cases h : left - (a.length : Int) < 0
  · exact ⟨-1, by simp [h], .inl (by omega)⟩
  · simp only [decide_eq_true_eq, h, if_false]
    let G : List (List UInt8) → Int → Option Int := fun l r => l.foldr (fun x k r => if r - (x.length : Int) < 0 then some (-1) else k (r - x.length)) (fun r => some r) r
    have := loop_list (L := fun n i r => laws_szStringS_l0 k n a r i fun left => some left) (I := fun pre r => r ≤ left ∧ 0 ≤ r) (G := G) a ?_ ?_ k (by have := KK_def; omega) (left - a.length) ⟨by omega, by omega⟩
    · rw [this]
      have key : ∀ (l : List (List UInt8)) (r : Int), 0 ≤ r → r ≤ left → ∃ q, G l r = some q ∧ (q < 0 ∨ (0 ≤ q ∧ q ≤ left ∧ ∀ x ∈ l, x.length ≤ 1048576)) := by
        intro l
        induction l with
        | nil => exact fun r h2 h3 => ⟨r, rfl, .inr ⟨h2, h3, by simp⟩⟩
        | cons x l ih =>
          intro r h2 h3
          show ∃ q, (if r - (x.length : Int) < 0 then some (-1) else G l (r - x.length)) = some q ∧ _
          by_cases hr : r - (x.length : Int) < 0
          · exact ⟨-1, by rw [if_pos hr], .inl (by omega)⟩
          · obtain ⟨q, q1, q2⟩ := ih (r - x.length) (by omega) (by omega)
            refine ⟨q, by rw [if_neg hr]; exact q1, q2.imp id fun q3 => ⟨q3.1, q3.2.1, fun y hy => ?_⟩⟩
            rcases List.mem_cons.1 hy with rfl | hy
            · omega
            · exact q3.2.2 y hy
      obtain ⟨q, q1, q2⟩ := key a (left - a.length) (by omega) (by omega)
      exact ⟨q, q1, q2.imp id fun q3 => ⟨q3.1, q3.2.1, by omega, q3.2.2⟩⟩
    · intro n pre x post r hax hr ih hg hlt
      have hw := w_succ (i := pre.length) (by omega)
      have hxl : x.length ≤ 140737488355328 := by have : List.length x ≤ 140737488351232 := hx x (by rw [hax]; simp); omega
      have hs : w_i64 (r - (x.length : Int)) = r - x.length := w_id (by omega) (by omega)
      show _ = (if r - (x.length : Int) < 0 then some (-1) else G post (r - x.length))
      by_cases hq : r - (x.length : Int) < 0
      · simp [laws_szStringS_l0, hlt, hg, hs, hq]
      · simp only [laws_szStringS_l0, hlt, hg, hs, hq, decide_true, if_true, Int.natCast_nonneg, Int.toNat_natCast, Option.bind_some, decide_false, Bool.false_eq_true, if_false, hw]
        exact ih _ ⟨by omega, by omega⟩
    · intro n r hr
      simp [laws_szStringS_l0, G]
/-- A mark is a text. -/
theorem markText_ok {k : Nat} (hk : KK ≤ k) {n : Int} (h : n ≤ 9223372036854775807) : ∃ t, laws_markText k n = some t := by
  unfold laws_markText
  by_cases h0 : n ≤ 0
  · exact ⟨[109, 48], by simp [h0]⟩
  · simp only [decide_eq_true_eq, h0, if_false]
    have key : ∀ (m : Nat) (n : Int) (out : List UInt8), 0 ≤ n → n < 10 ^ m → n ≤ 9223372036854775807 → out.length + m ≤ 100 → ∀ q, m < q → ∃ t, laws_markText_l0 k q n out (fun out_1 => (if [109].length + out_1.length ≤ 9223372036854775807 then some ([109] ++ out_1) else none)) = some t := by
      intro m
      induction m with
      | zero =>
        intro n out h1 h2 h3 h4 q hq
        obtain ⟨q, rfl⟩ : ∃ p, q = p + 1 := ⟨q - 1, by omega⟩
        have : ¬ 0 < n := by simp at h2; omega
        have h5 : 1 + out.length ≤ 9223372036854775807 := by omega
        exact ⟨[109] ++ out, by simp only [laws_markText_l0, decide_eq_true_eq, this, if_false, List.length_singleton, h5, if_true]⟩
      | succ m ih =>
        intro n out h1 h2 h3 h4 q hq
        obtain ⟨q, rfl⟩ : ∃ p, q = p + 1 := ⟨q - 1, by omega⟩
        by_cases hn : 0 < n
        · have hd : Int.tdiv n 10 = n / 10 := Int.tdiv_eq_ediv_of_nonneg h1
          have hw : w_i64 (Int.tdiv n 10) = n / 10 := by rw [hd, w_id (by omega) (by omega)]
          have h5 : 1 + out.length ≤ 9223372036854775807 := by omega
          have h6 : n / 10 < 10 ^ m := by
            rw [Int.pow_succ] at h2
            omega
          obtain ⟨t, ht⟩ := ih (n / 10) ((to_S [(w_u8 ((w_i64 (48 + (Int.tmod n 10)))))]) ++ out) (by omega) h6 (by omega) (by simp; omega) q (by omega)
          refine ⟨t, ?_⟩
          simp only [laws_markText_l0, decide_eq_true_eq, hn, if_true, hw]
          rw [if_pos (by simp; omega)]
          exact ht
        · have h5 : 1 + out.length ≤ 9223372036854775807 := by omega
          exact ⟨[109] ++ out, by simp only [laws_markText_l0, decide_eq_true_eq, hn, if_false, List.length_singleton, h5, if_true]⟩
    exact key 20 n [] (by omega) (by omega) h (by simp) k (by have := KK_def; omega)
/-- What was marked is held. -/
theorem markStringS_ok {k : Nat} (hk : KK ≤ k) {a : List (List UInt8)} {m : Int} (h0 : 0 ≤ m) (h1 : m ≤ 1000000000000) (ha : a.length ≤ 1000000000000) :
    ∃ q, laws_markStringS_o k m a = some ((m + a.length, ()), (q, ()), ()) ∧ laws_heldStringS k q m = some (m + a.length) := by
  have mt : ∀ i : Nat, i ≤ 2000000000000 → ∃ t, laws_markText k (m + i) = some t := fun i hi => markText_ok hk (by omega)
  let T : Nat → List UInt8 := fun i => (laws_markText k (m + i)).getD []
  have hT : ∀ i : Nat, i ≤ 2000000000000 → laws_markText k (m + i) = some (T i) := fun i hi => by
    obtain ⟨t, ht⟩ := mt i hi
    show _ = some ((laws_markText k (m + i)).getD [])
    rw [ht]; rfl
  refine ⟨(List.range a.length).map T, ?_, ?_⟩
  · unfold laws_markStringS_o
    have := loop_list (α := Nat) (A := List (List UInt8)) (L := fun n i q => laws_markStringS_o_l0 k n (m + i) i q fun k_6 q_7 => some ((k_6, ()), (q_7, ()), ()))
      (I := fun pre q => q.length = a.length ∧ q.take pre.length = (List.range pre.length).map T) (G := fun _ _ => some ((m + a.length, ()), ((List.range a.length).map T, ()), ())) (List.range a.length) ?_ ?_ k (by have := KK_def; simp; omega) a ⟨rfl, by simp⟩
    · simpa using this
    · intro n pre x post q hx hq ih hg hlt
      rw [List.length_range] at hlt
      have hw := w_succ (i := pre.length) (by omega)
      have hl : pre.length < q.length := by omega
      have hm : w_i64 (m + (pre.length : Int) + 1) = m + ((pre.length + 1 : Nat) : Int) := by rw [w_id (by omega) (by omega)]; omega
      have hlt' : (pre.length : Int) < (q.length : Int) := by omega
      simp only [laws_markStringS_o_l0, hlt', decide_true, if_true, hT pre.length (by omega), Option.bind_some, Int.natCast_nonneg, Int.toNat_natCast, hl, and_self, List.getElem?_eq_getElem hl, hm, hw]
      refine ih _ ⟨by rw [List.length_set]; exact hq.1, ?_⟩
      rw [List.length_append, List.length_singleton, List.take_succ_eq_append_getElem (by simpa using hl), List.getElem_set_self, List.take_set_of_le (Nat.le_refl _), hq.2, List.range_succ]
      simp
    · intro n q hq
      have : ¬ ((List.range a.length).length : Int) < (q.length : Int) := by rw [hq.1]; simp
      have h2 := hq.2
      rw [List.length_range, ← hq.1, List.take_length, hq.1] at h2
      simp only [laws_markStringS_o_l0, this, decide_false, Bool.false_eq_true, if_false]
      simp [h2]
  · unfold laws_heldStringS
    have := loop_list (α := List UInt8) (A := Unit) (L := fun n i _ => laws_heldStringS_l0 k n ((List.range a.length).map T) (m + i) i fun k_3 => some k_3) (I := fun _ _ => True) (G := fun _ _ => some (m + a.length)) ((List.range a.length).map T) ?_ ?_ k (by have := KK_def; simp; omega) () trivial
    · simpa using this
    · intro n pre x post _ hx _ ih hg hlt
      rw [List.length_map, List.length_range] at hlt
      have hw := w_succ (i := pre.length) (by omega)
      have hm : w_i64 (m + (pre.length : Int) + 1) = m + ((pre.length + 1 : Nat) : Int) := by rw [w_id (by omega) (by omega)]; omega
      have hxT : x = T pre.length := by
        rw [List.getElem?_map, List.getElem?_range (by omega)] at hg
        simpa using hg.symm
      have hlt' : (pre.length : Int) < (((List.range a.length).map T).length : Int) := by simp; omega
      simp only [laws_heldStringS_l0, hlt', decide_true, if_true, Int.natCast_nonneg, Int.toNat_natCast, hg, Option.bind_some, hT pre.length (by omega), hxT, Bool.not_true, Bool.false_eq_true, if_false, hm, hw]
      exact ih () trivial
    · intro n _ _
      simp [laws_heldStringS_l0]
/-- A picture. -/
def wid (lines : List (List UInt8)) : Nat := (lines.headD []).length
def okC (c : UInt8) : Bool := decide (32 ≤ c.toNat ∧ c.toNat ≤ 126)
def okLine (w : Nat) (l : List UInt8) : Bool := decide (l.length = w) && (decide (l.length ≤ 80) && l.all okC)
def okPic (lines : List (List UInt8)) : Bool := lines.all (okLine (wid lines)) && decide (lines.length ≤ 60)
theorem wid_get {lines : List (List UInt8)} {i : Nat} {x : List UInt8} (h : lines[i]? = some x) : ∃ y, lines[0]? = some y ∧ y.length = wid lines := by
  cases lines with
  | nil => simp at h
  | cons y l => exact ⟨y, rfl, rfl⟩
theorem l30Ok_ok {k : Nat} (hk : KK ≤ k) {a : List (List UInt8)} (ha : a.length ≤ 1000000000000) (hx : ∀ x ∈ a, x.length ≤ 1000000000000) : spec_l30Ok k a = some (okPic a) := by
  unfold spec_l30Ok
  have hK := KK_def
  have := loop_all (L := fun n i => spec_l30Ok_l0 k n a i fun lines_6 => some (decide ((List.length lines_6 : Int) ≤ 60))) (p := okLine (wid a)) (r := some false) (e := some (decide (a.length ≤ 60))) a ?_ ?_ (n := k) (by omega)
  · refine Eq.trans this ?_
    unfold okPic
    cases a.all (okLine (wid a)) <;> rfl
  · intro n i x hi hlt
    have hxl := hx x (List.mem_of_getElem? hi)
    have hw := w_succ (i := i) (by omega)
    obtain ⟨y, h0, hy⟩ := wid_get hi
    have inner := loop_all (L := fun m j => spec_l30Ok_l1 k m a (i : Int) j fun lines_4 i_5 => spec_l30Ok_l0 k n lines_4 (w_i64 (i_5 + 1)) fun lines_6 => some (decide ((List.length lines_6 : Int) ≤ 60)))
      (p := okC) (r := some false) (e := spec_l30Ok_l0 k n a ((i + 1 : Nat) : Int) fun lines_6 => some (decide ((List.length lines_6 : Int) ≤ 60))) x ?_ ?_ (n := k) (by omega)
    · simp only [spec_l30Ok_l0, hlt, decide_true, if_true, Int.natCast_nonneg, Int.toNat_natCast, hi, h0, Option.bind_some]
      unfold okLine
      by_cases h1 : x.length = wid a
      · have h1' : (x.length : Int) = (y.length : Int) := by omega
        by_cases h2 : x.length ≤ 80
        · have h2' : ¬ (80 < (x.length : Int)) := by omega
          have e1 : (decide (x.length = wid a) && (decide (x.length ≤ 80) && x.all okC)) = x.all okC := by simp [h1, h2]; omega
          rw [decide_eq_true h1', if_neg (by simp), decide_eq_false h2', if_neg (by simp), e1]
          exact inner
        · have h2' : (80 < (x.length : Int)) := by omega
          rw [decide_eq_true h1', if_neg (by simp), decide_eq_true h2', if_pos rfl, decide_eq_false h2, if_neg (by simp)]
      · have h1' : ¬ (x.length : Int) = (y.length : Int) := by omega
        rw [decide_eq_false h1', if_pos (by simp), decide_eq_false h1, if_neg (by simp)]
    · intro m j c hj hjlt
      have hw2 := w_succ (i := j) (by omega)
      simp only [spec_l30Ok_l1, hjlt, decide_true, if_true, Int.natCast_nonneg, Int.toNat_natCast, hi, hj, Option.bind_some, hw2]
      unfold okC z_u8
      by_cases h3 : c.toNat < 32
      · rw [decide_eq_true (by omega), if_pos rfl, if_neg (by simp; omega)]
      · rw [decide_eq_false (by omega), if_neg (by simp)]
        by_cases h4 : 126 < c.toNat
        · rw [decide_eq_true (by omega), if_pos rfl, if_neg (by simp; omega)]
        · rw [decide_eq_false (by omega), if_neg (by simp), if_pos (by simp; omega)]
    · intro m
      simp [spec_l30Ok_l1, hi, hw]
  · intro n
    simp only [spec_l30Ok_l0, Int.lt_irrefl, decide_false, Bool.false_eq_true, if_false]
    exact congrArg some (decide_eq_decide.2 (by omega))
theorem widthOf_ok (a : List (List UInt8)) : impl_widthOf a = some (wid a : Int) := by
  unfold impl_widthOf
  cases a with
  | nil => rfl
  | cons x l =>
    have : ¬ ((x :: l).length : Int) = 0 := by simp only [List.length_cons]; omega
    rw [decide_eq_false this, if_neg (by simp)]
    rfl
theorem badChar_ok {k : Nat} (hk : KK ≤ k) {s : List UInt8} (hs : s.length ≤ 1000000000000) : slices_ContainsFunc_byte__impl_ValidPicture_1 k (of_S s) () = some (!s.all okC) := by
  have hK := KK_def
  have hl : (of_S s).length = s.length := by simp [of_S]
  have key : slices_IndexFunc_byte__impl_ValidPicture_1 k (of_S s) () = some (idxP (fun c : Int => decide (c < 32 ∨ 126 < c)) (of_S s)) := by
    unfold slices_IndexFunc_byte__impl_ValidPicture_1
    refine loop_find (L := fun n i => slices_IndexFunc_byte__impl_ValidPicture_1_l0 k n (of_S s) () ((of_S s).length : Int) i (some (-1))) (of_S s) ?_ ?_ (n := k) (by omega)
    · intro n i x hi hlt
      have hw := w_succ (i := i) (by omega)
      simp only [slices_IndexFunc_byte__impl_ValidPicture_1_l0, impl_ValidPicture_1, hlt, decide_true, if_true, Int.natCast_nonneg, Int.toNat_natCast, hi, Option.bind_some, hw]
      by_cases h1 : x < 32
      · simp [h1]
      · by_cases h2 : 126 < x <;> simp [h1, h2]
    · intro n
      simp [slices_IndexFunc_byte__impl_ValidPicture_1_l0]
  unfold slices_ContainsFunc_byte__impl_ValidPicture_1
  rw [key]
  simp only [Option.bind_some, idxP_any, Option.some.injEq]
  clear key hl hs
  induction s with
  | nil => rfl
  | cons c s ih =>
    have h : of_S (c :: s) = z_u8 c :: of_S s := rfl
    rw [h, List.any_cons, List.all_cons, ih]
    have : (decide (z_u8 c < 32 ∨ 126 < z_u8 c)) = !okC c := by
      unfold z_u8 okC
      rw [← decide_not]
      exact decide_eq_decide.2 (by omega)
    rw [this, Bool.not_and]
theorem implValidPicture_ok {k : Nat} (hk : KK ≤ k) {a : List (List UInt8)} (ha : a.length ≤ 1000000000000) (hx : ∀ x ∈ a, x.length ≤ 1000000000000) : impl_ValidPicture k a = some (okPic a) := by
  have hK := KK_def
  have hL := LIM_def
  unfold impl_ValidPicture
  have := loop_all (L := fun n i => impl_ValidPicture_l0 k n a a (a.length : Int) i fun lines_4 => (if (decide ((List.length lines_4 : Int) ≤ 60)) = true then (impl_widthOf lines_4).bind fun r_5 => some (decide (r_5 ≤ 80)) else some false))
    (p := fun l => decide (l.length = wid a) && l.all okC) (r := some false) (e := some (decide (a.length ≤ 60) && decide (wid a ≤ 80))) a ?_ ?_ (n := k) (by omega)
  · refine Eq.trans this ?_
    have h1 : ∀ w : Nat, (a.all (okLine w)) = ((a.all fun l => decide (l.length = w) && l.all okC) && (a.isEmpty || decide (w ≤ 80))) := by
      intro w
      clear this ha hx
      induction a with
      | nil => rfl
      | cons x l ih =>
        simp only [List.all_cons, ih, List.isEmpty_cons, Bool.false_or, okLine]
        by_cases h1 : x.length = w
        · subst h1
          by_cases h2 : x.length ≤ 80
          · simp [h2]
          · simp [h2]
        · simp [h1]
    unfold okPic
    rw [h1]
    cases a with
    | nil => rfl
    | cons x l =>
      simp only [List.isEmpty_cons, Bool.false_or]
      cases ((x :: l).all fun l_1 => decide (l_1.length = wid (x :: l)) && l_1.all okC)
      · rfl
      · simp only [if_true, Bool.true_and]; rw [Bool.and_comm]
  · intro n i x hi hlt
    have hxl := hx x (List.mem_of_getElem? hi)
    have hw := w_succ (i := i) (by omega)
    have h2 : x.length ≤ LIM := by omega
    simp only [impl_ValidPicture_l0, hlt, decide_true, if_true, Int.natCast_nonneg, Int.toNat_natCast, hi, Option.bind_some, widthOf_ok, h2, badChar_ok hk hxl, hw]
    by_cases h1 : x.length = wid a
    · rw [decide_eq_true (show (x.length : Int) = (wid a : Int) by omega), if_neg (by simp), decide_eq_true h1, Bool.true_and]
      cases x.all okC <;> simp
    · rw [decide_eq_false (show ¬ (x.length : Int) = (wid a : Int) by omega), if_pos (by simp), decide_eq_false h1, if_neg (by simp)]
  · intro n
    simp only [impl_ValidPicture_l0, Int.lt_irrefl, decide_false, Bool.false_eq_true, if_false, widthOf_ok, Option.bind_some]
    have e2 : decide ((wid a : Int) ≤ 80) = decide (wid a ≤ 80) := decide_eq_decide.2 (by omega)
    by_cases h : a.length ≤ 60
    · rw [decide_eq_true (show (a.length : Int) ≤ 60 by omega), if_pos rfl, decide_eq_true h, Bool.true_and, e2]
    · rw [decide_eq_false (show ¬ (a.length : Int) ≤ 60 by omega), if_neg (by simp), decide_eq_false h, Bool.false_and]
theorem repeatL_one' (b : UInt8) : ∀ n, Lib.repeatL [b] n = List.replicate n b
  | 0 => rfl
  | n + 1 => by simp [Lib.repeatL, repeatL_one' b n, List.replicate_succ]
theorem repeat_ok (b : UInt8) {n : Nat} (hn : n ≤ 1000000) : strings_Repeat [b] (n : Int) = some (List.replicate n b) := by
  unfold strings_Repeat
  rw [if_pos ⟨by omega, by omega, by simp; omega⟩, Int.toNat_natCast, repeatL_one']
abbrev Pic := List (List UInt8)
def doneP (q : Pic) : Pic × Int := if okPic q = true then (q, 0) else ([], 5)
theorem l30Times_ok {k : Nat} (hk : KK ≤ k) (b : UInt8) {n : Nat} (hn : n ≤ 1000000) : spec_l30Times k [b] (n : Int) = some (List.replicate n b) := by
  have hK := KK_def
  unfold spec_l30Times
  have := loop_list (L := fun m i q => spec_l30Times_l0 k m [b] (n : Int) q i (fun out_1 => some out_1)) (I := fun pre q => q = pre) (G := fun post q => some (q ++ post)) (List.replicate n b) ?_ ?_ k (by simp; omega) [] rfl
  · simpa using this
  · intro m pre x post q hx hq ih hg hlt
    subst hq
    rw [List.length_replicate] at hlt
    have hw := w_succ (i := q.length) (by omega)
    have hb : x = b := List.eq_of_mem_replicate (List.mem_of_getElem? hg)
    subst hb
    have ih := ih _ rfl
    simp only [spec_l30Times_l0, hlt, decide_true, if_true, hw]
    rw [if_pos (by simp only [List.length_singleton]; omega), ih]
    simp
  · intro m q hq
    simp [spec_l30Times_l0]
theorem l30Done_ok {k : Nat} (hk : KK ≤ k) {q : Pic} (ha : q.length ≤ 1000000000000) (hx : ∀ x ∈ q, x.length ≤ 1000000000000) : (spec_l30Done_g k q).bind (fun y => some (y.2.1.1, y.1.1.2.1)) = some (doneP q) := by
  unfold spec_l30Done_g doneP
  rw [l30Ok_ok hk ha hx]
  cases okPic q <;> simp
theorem okPic_same {q : Pic} {W : Nat} (h : ∀ l ∈ q, l.length = W ∧ l.all okC = true) : okPic q = (decide (q.length ≤ 60) && (q.isEmpty || decide (W ≤ 80))) := by
  unfold okPic
  cases q with
  | nil => simp
  | cons z zs =>
    have hw : wid (z :: zs) = W := (h z (by simp)).1
    rw [hw, List.isEmpty_cons, Bool.false_or, Bool.and_comm]
    congr 1
    by_cases h80 : W ≤ 80
    · rw [decide_eq_true h80, List.all_eq_true]
      intro l hl
      obtain ⟨h1, h2⟩ := h l hl
      unfold okLine
      simp [h1, h2, h80]
    · rw [decide_eq_false h80, List.all_eq_false]
      refine ⟨z, by simp, ?_⟩
      unfold okLine
      simp [(h z (by simp)).1, h80]
theorem pictured_done {k : Nat} (hk : KK ≤ k) {q : Pic} {W : Nat} (hq : q.length ≤ 1000000) (hW : W ≤ 1000000) (h : ∀ l ∈ q, l.length = W ∧ l.all okC = true) : impl_pictured k q = some (doneP q) := by
  have hK := KK_def
  have hL := LIM_def
  unfold impl_pictured
  let W' : Int := if q = [] then 0 else (W : Int)
  have h0 := loop_list (L := fun n i a => impl_pictured_l0 k n q a q (q.length : Int) i (fun lines_2 width_3 => impl_pictured_l1 k k width_3 lines_2 (List.length lines_2 : Int) 0 [] (fun width_7 q_8 => (if (decide (60 < (List.length q_8 : Int))) = true then some ([], 5) else (if (decide (80 < width_7)) = true then some ([], 5) else some (q_8, 0))))))
    (I := fun pre a => a = if pre = [] then 0 else (W : Int)) (G := fun _ _ => impl_pictured_l1 k k W' q (q.length : Int) 0 [] (fun width_7 q_8 => (if (decide (60 < (List.length q_8 : Int))) = true then some ([], 5) else (if (decide (80 < width_7)) = true then some ([], 5) else some (q_8, 0))))) q ?_ ?_ k (by omega) 0 (by simp)
  · refine Eq.trans h0 ?_
    have h1 := loop_list (L := fun n i r => impl_pictured_l1 k n W' q (q.length : Int) i r (fun width_7 q_8 => (if (decide (60 < (List.length q_8 : Int))) = true then some ([], 5) else (if (decide (80 < width_7)) = true then some ([], 5) else some (q_8, (0 : Int))))))
      (I := fun pre r => r = pre) (G := fun _ _ => some (doneP q)) q ?_ ?_ k (by omega) [] rfl
    · exact h1
    · intro n pre x post r hx hr ih hg hlt
      subst hr
      have hw := w_succ (i := r.length) (by omega)
      have hxl := (h x (List.mem_of_getElem? hg)).1
      have hne : q ≠ [] := by intro e; rw [e] at hg; simp at hg
      have hW' : W' = (W : Int) := by show (if q = [] then (0 : Int) else (W : Int)) = _; rw [if_neg hne]
      have hz : w_i64 (W' - (x.length : Int)) = ((0 : Nat) : Int) := by rw [hW', w_id (by omega) (by omega)]; omega
      have ih := ih _ rfl
      simp only [impl_pictured_l1, hlt, decide_true, if_true, Int.natCast_nonneg, Int.toNat_natCast, hg, Option.bind_some, hz, repeat_ok 32 (show 0 ≤ 1000000 by omega), hw, List.replicate_zero, List.append_nil]
      rw [if_pos (by simp only [List.length_nil]; omega), if_pos (by simp only [List.length_singleton]; omega), ih]
    · intro n r hr
      subst hr
      simp only [impl_pictured_l1, Int.lt_irrefl, decide_false, Bool.false_eq_true, if_false]
      unfold doneP
      rw [okPic_same h]
      by_cases h60 : r.length ≤ 60
      · rw [decide_eq_false (show ¬ (60 < (r.length : Int)) by omega), if_neg (by simp), decide_eq_true h60, Bool.true_and]
        cases r with
        | nil => simp [W']
        | cons z zs =>
          have hW' : W' = (W : Int) := rfl
          rw [hW', List.isEmpty_cons, Bool.false_or]
          by_cases h80 : W ≤ 80
          · rw [decide_eq_false (show ¬ (80 < (W : Int)) by omega), decide_eq_true h80]; rfl
          · rw [decide_eq_true (show (80 < (W : Int)) by omega), decide_eq_false h80]; rfl
      · rw [decide_eq_true (show (60 < (r.length : Int)) by omega), if_pos rfl, decide_eq_false h60]; rfl
  · intro n pre x post a hx ha ih hg hlt
    subst ha
    have hw := w_succ (i := pre.length) (by omega)
    have hxl := (h x (List.mem_of_getElem? hg)).1
    simp only [impl_pictured_l0, hlt, decide_true, if_true, Int.natCast_nonneg, Int.toNat_natCast, hg, Option.bind_some, hw]
    refine ih _ ?_
    rw [hxl, if_neg (show pre ++ [x] ≠ [] by simp)]
    by_cases hp : pre = []
    · rw [if_pos hp]; split <;> omega
    · rw [if_neg hp]; split <;> rfl
  · intro n a ha
    subst ha
    simp only [impl_pictured_l0, Int.lt_irrefl, decide_false, Bool.false_eq_true, if_false]
    rfl
theorem okPic_spec {lines : List (List UInt8)} (h : okPic lines = true) : lines.length ≤ 60 ∧ ∀ l ∈ lines, l.length = wid lines ∧ l.length ≤ 80 := by
  unfold okPic okLine at h
  simp only [Bool.and_eq_true, List.all_eq_true, decide_eq_true_eq] at h
  exact ⟨h.2, fun l hl => ⟨(h.1 l hl).1, (h.1 l hl).2.1⟩⟩
def edgeL (w : Nat) : List UInt8 := ([43] ++ List.replicate w 45) ++ [43]
def barL (y : List UInt8) : List UInt8 := ([124] ++ y) ++ [124]
def frameL (a : Pic) : Pic := ([edgeL (wid a)] ++ a.map barL) ++ [edgeL (wid a)]
def frameP (a : Pic) : Pic × Int := if okPic a = true then doneP (frameL a) else ([], 1)
theorem frameL_same {a : Pic} (h : okPic a = true) : ∀ l ∈ frameL a, l.length = wid a + 2 ∧ l.all okC = true := by
  unfold okPic okLine at h
  simp only [Bool.and_eq_true, List.all_eq_true, decide_eq_true_eq] at h
  have he : (edgeL (wid a)).length = wid a + 2 ∧ (edgeL (wid a)).all okC = true := by
    refine ⟨by simp [edgeL], ?_⟩
    simp [edgeL, List.all_replicate, okC]
  intro l hl
  unfold frameL at hl
  simp only [List.mem_append, List.mem_singleton, List.mem_map] at hl
  rcases hl with (rfl | ⟨y, hy, rfl⟩) | rfl
  · exact he
  · obtain ⟨h1, h2, h3⟩ := h.1 y hy
    refine ⟨by simp [barL]; omega, ?_⟩
    simp only [barL, List.all_append, Bool.and_eq_true]
    exact ⟨⟨rfl, List.all_eq_true.2 h3⟩, rfl⟩
  · exact he
theorem wid_le {a : Pic} (h : okPic a = true) : wid a ≤ 80 := by
  obtain ⟨ho1, ho2⟩ := okPic_spec h
  cases a with
  | nil => exact Nat.zero_le _
  | cons z zs => have := ho2 z (by simp); omega
theorem frameL_len (a : Pic) : (frameL a).length = a.length + 2 := by simp [frameL]
theorem specFrame_loop {k : Nat} (hk : KK ≤ k) {a : Pic} (h : okPic a = true) {e : List UInt8 → Pic → Option (Pic × Int)} (E : List UInt8) : spec_FramePicture_l0 k k a E 0 [E] e = e E ([E] ++ a.map barL) := by
  have hK := KK_def
  have hL := LIM_def
  obtain ⟨ho1, ho2⟩ := okPic_spec h
  have := loop_list (L := fun n i q => spec_FramePicture_l0 k n a E i q e) (I := fun pre q => q = [E] ++ pre.map barL) (G := fun post q => e E (q ++ post.map barL)) a ?_ ?_ k (by omega) [E] (by simp)
  · exact this
  · intro n pre x post q hx hq ih hg hlt
    have hw := w_succ (i := pre.length) (by omega)
    have hl := ho2 x (List.mem_of_getElem? hg)
    have ih := ih (q ++ [([124] ++ x) ++ [124]]) (by rw [hq]; simp [barL])
    simp only [spec_FramePicture_l0, hlt, decide_true, if_true, Int.natCast_nonneg, Int.toNat_natCast, hg, Option.bind_some, hw]
    rw [if_pos (by simp only [List.length_singleton]; omega), if_pos (by simp only [List.length_append, List.length_singleton]; omega), if_pos (by rw [hq]; simp only [List.length_append, List.length_singleton, List.length_map]; omega), ih]
    simp [barL]
  · intro n q hq
    simp [spec_FramePicture_l0]
theorem implFrame_loop {k : Nat} (hk : KK ≤ k) {a : Pic} (h : okPic a = true) {e : List UInt8 → Pic → Option (Pic × Int)} (E : List UInt8) : impl_FramePicture_l0 k k E a (a.length : Int) 0 [E] e = e E ([E] ++ a.map barL) := by
  have hK := KK_def
  have hL := LIM_def
  obtain ⟨ho1, ho2⟩ := okPic_spec h
  have := loop_list (L := fun n i q => impl_FramePicture_l0 k n E a (a.length : Int) i q e) (I := fun pre q => q = [E] ++ pre.map barL) (G := fun post q => e E (q ++ post.map barL)) a ?_ ?_ k (by omega) [E] (by simp)
  · exact this
  · intro n pre x post q hx hq ih hg hlt
    have hw := w_succ (i := pre.length) (by omega)
    have hl := ho2 x (List.mem_of_getElem? hg)
    have ih := ih (q ++ [([124] ++ x) ++ [124]]) (by rw [hq]; simp [barL])
    simp only [impl_FramePicture_l0, hlt, decide_true, if_true, Int.natCast_nonneg, Int.toNat_natCast, hg, Option.bind_some, hw]
    rw [if_pos (by simp only [List.length_singleton]; omega), if_pos (by simp only [List.length_append, List.length_singleton]; omega), if_pos (by rw [hq]; simp only [List.length_append, List.length_singleton, List.length_map]; omega), ih]
    simp [barL]
  · intro n q hq
    simp [impl_FramePicture_l0]
theorem specFrame_ok {k : Nat} (hk : KK ≤ k) {a : Pic} (ha : a.length ≤ 1000000000000) (hx : ∀ x ∈ a, x.length ≤ 1000000000000) : spec_FramePicture k a = some (frameP a) := by
  have hL := LIM_def
  unfold spec_FramePicture frameP
  rw [l30Ok_ok hk ha hx]
  cases ho : okPic a with
  | false => simp
  | true =>
    obtain ⟨ho1, ho2⟩ := okPic_spec ho
    have hwl := wid_le ho
    have hs := frameL_same ho
    have hlen := frameL_len a
    have fin : (spec_l30Done_g k (([edgeL (wid a)] ++ a.map barL) ++ [edgeL (wid a)])).bind (fun y => some (y.2.1.1, y.1.1.2.1)) = some (doneP (frameL a)) :=
      l30Done_ok hk (q := frameL a) (by omega) (fun x hx => by have := (hs x hx).1; omega)
    have body : ∀ W0 : Int, W0 = (wid a : Int) → ((spec_l30Times k [45] W0).bind fun r_3 => (if [43].length + r_3.length ≤ 9223372036854775807 then (if ([43] ++ r_3).length + [43].length ≤ 9223372036854775807 then spec_FramePicture_l0 k k a (([43] ++ r_3) ++ [43]) 0 [(([43] ++ r_3) ++ [43])] (fun edge_6 q_7 => (if (q_7.length + [edge_6].length) * 16 ≤ LIM then (spec_l30Done_g k (q_7 ++ [edge_6])).bind fun y_8 => some (y_8.2.1.1, y_8.1.1.2.1) else none)) else none) else none)) = some (doneP (frameL a)) := by
      intro W0 hW
      subst hW
      rw [l30Times_ok hk 45 (n := wid a) (by omega)]
      simp only [Option.bind_some]
      rw [if_pos (by simp only [List.length_singleton, List.length_replicate]; omega), if_pos (by simp only [List.length_append, List.length_singleton, List.length_replicate]; omega), specFrame_loop hk ho, if_pos (by simp only [List.length_append, List.length_singleton, List.length_map]; omega)]
      exact fin
    simp only [Option.bind_some, Bool.not_true, Bool.false_eq_true, if_false, if_true]
    cases a with
    | nil =>
      have : ¬ (0 : Int) < (([] : Pic).length : Int) := by simp
      rw [decide_eq_false this, if_neg (by simp)]
      exact body 0 rfl
    | cons z zs =>
      have : (0 : Int) < ((z :: zs).length : Int) := by simp only [List.length_cons]; omega
      rw [decide_eq_true this, if_pos rfl]
      exact body _ rfl
theorem implFrame_ok {k : Nat} (hk : KK ≤ k) {a : Pic} (ha : a.length ≤ 1000000000000) (hx : ∀ x ∈ a, x.length ≤ 1000000000000) : impl_FramePicture k a = some (frameP a) := by
  have hL := LIM_def
  unfold impl_FramePicture frameP
  rw [implValidPicture_ok hk ha hx, widthOf_ok]
  cases ho : okPic a with
  | false => simp
  | true =>
    obtain ⟨ho1, ho2⟩ := okPic_spec ho
    have hwl := wid_le ho
    have hs := frameL_same ho
    have hlen := frameL_len a
    have fin : impl_pictured k (([edgeL (wid a)] ++ a.map barL) ++ [edgeL (wid a)]) = some (doneP (frameL a)) :=
      pictured_done hk (q := frameL a) (W := wid a + 2) (by omega) (by omega) hs
    simp only [Option.bind_some, Bool.not_true, Bool.false_eq_true, if_false, if_true, repeat_ok 45 (show wid a ≤ 1000000 by omega)]
    rw [if_pos (by simp only [List.length_singleton, List.length_replicate]; omega), if_pos (by simp only [List.length_append, List.length_singleton, List.length_replicate]; omega), implFrame_loop hk ho, if_pos (by simp only [List.length_append, List.length_singleton, List.length_map]; omega)]
    show (impl_pictured k (([edgeL (wid a)] ++ a.map barL) ++ [edgeL (wid a)])).bind _ = _
    rw [fin]; rfl
theorem frameP_len (a : Pic) : (frameP a).1.length ≤ a.length + 2 := by
  unfold frameP doneP
  have := frameL_len a
  split
  · split
    · show (frameL a).length ≤ _; omega
    · simp
  · simp
theorem pure_FnExactFramePicture {e : TypeId} (a0 : List (List UInt8)) (f0 : InR (.sl e .str) a0) : ∃ k : Nat, laws_FnExactFramePicture k a0 = some true := by
  have hk := Nat.le_refl KK
  refine ⟨KK, ?_⟩
  obtain ⟨r, hr, h⟩ := szStringS_ok hk (a := a0) (left := 1048576) (by omega) (by omega) f0
  unfold laws_FnExactFramePicture
  rw [hr]; simp only [Option.bind_some]
  rcases h with h | ⟨h1, h2, h3, h4⟩
  · rw [decide_eq_true h, if_pos rfl]
  · rw [decide_eq_false (by omega), if_neg (by simp)]
    have hx : ∀ x ∈ a0, x.length ≤ 1000000000000 := fun x hx => Nat.le_trans (h4 x hx) (by omega)
    have hl := frameP_len a0
    obtain ⟨q, q1, q2⟩ := markStringS_ok hk (a := a0) (m := 1) (by omega) (by omega) (by omega)
    obtain ⟨q', q1', q2'⟩ := markStringS_ok hk (a := (frameP a0).1) (m := 1) (by omega) (by omega) (by omega)
    have hn : ¬ (1 + (a0.length : Int) < 0) := by omega
    have hn' : ¬ (1 + ((frameP a0).1.length : Int) < 0) := by omega
    simp only [toStringS_ok hk h3, Option.bind_some, specFrame_ok hk (show a0.length ≤ 1000000000000 by omega) hx, implFrame_ok hk (show a0.length ≤ 1000000000000 by omega) hx, eqStringS_ok hk (show (frameP a0).1.length < 4611686018427387904 by omega), eqStringS_ok hk (show a0.length < 4611686018427387904 by omega), decide_true, Bool.not_true, Bool.false_eq_true, if_false, q1, q2, q1', q2', hn, hn', decide_false]
end Go.Proofs.Ytkopnopjbaejjaa.Ev
