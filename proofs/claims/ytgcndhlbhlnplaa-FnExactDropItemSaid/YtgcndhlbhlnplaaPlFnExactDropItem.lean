/- Plain laws of the printed functions. No conditions but those in each statement. -/
import Derived.Test.YtgcndhlbhlnplaaEv6
import Derived.Test.YtgcndhlbhlnplaaG4
set_option linter.unusedVariables false
set_option linter.unusedSimpArgs false
namespace Go.Proofs.Ytgcndhlbhlnplaa.Ev
open Go.RowKit
theorem bl_irrefl : ∀ x : List UInt8, Op.bytesLess x x = false
  | [] => rfl
  | a :: x => by simp [Op.bytesLess, bl_irrefl x]
theorem bl_trans : ∀ x y z : List UInt8, Op.bytesLess x y = true → Op.bytesLess y z = true → Op.bytesLess x z = true
  | _, [], _, h, _ => by simp [Op.bytesLess] at h
  | _, _ :: _, [], _, h => by simp [Op.bytesLess] at h
  | [], _ :: _, _ :: _, _, _ => rfl
  | a :: x, b :: y, c :: z, h1, h2 => by
    simp only [Op.bytesLess, Bool.or_eq_true, Bool.and_eq_true, decide_eq_true_eq, beq_iff_eq] at h1 h2 ⊢
    rcases h1 with h1 | ⟨rfl, h1⟩
    · rcases h2 with h2 | ⟨rfl, h2⟩
      · exact .inl (UInt8.lt_trans h1 h2)
      · exact .inl h1
    · rcases h2 with h2 | ⟨rfl, h2⟩
      · exact .inl h2
      · exact .inr ⟨rfl, bl_trans x y z h1 h2⟩
theorem bl_total : ∀ x y : List UInt8, Op.bytesLess x y = false → x ≠ y → Op.bytesLess y x = true
  | [], [], _, h => absurd rfl h
  | _ :: _, [], _, _ => rfl
  | [], _ :: _, h, _ => by simp [Op.bytesLess] at h
  | a :: x, b :: y, h1, h2 => by
    simp only [Op.bytesLess, Bool.or_eq_false_iff, decide_eq_false_iff_not, Bool.and_eq_false_iff, beq_eq_false_iff_ne] at h1
    simp only [Op.bytesLess, Bool.or_eq_true, Bool.and_eq_true, decide_eq_true_eq, beq_iff_eq]
    by_cases h : a = b
    · subst h
      refine .inr ⟨rfl, bl_total x y (h1.2.resolve_left (fun h => h rfl)) (fun e => h2 (by rw [e]))⟩
    · exact .inl (UInt8.lt_of_le_of_ne (UInt8.not_lt.1 h1.1) (Ne.symm h))
theorem bl_asymm {x y : List UInt8} (h : Op.bytesLess x y = true) : Op.bytesLess y x = false := by
  cases h' : Op.bytesLess y x
  · rfl
  · have := bl_trans x y x h h'
    rw [bl_irrefl] at this; cases this
def cmpS (x y : List UInt8) : Int := if Op.bytesLess x y = true then -1 else if x = y then 0 else 1
theorem cmpString_ok (x y : List UInt8) : cmp_Compare_string x y = some (cmpS x y) := by
  unfold cmp_Compare_string cmp_isNaN_string cmpS
  cases Op.bytesLess x y
  · by_cases h : x = y <;> simp [h]
  · simp
def lowI (y : Int) : Bool := decide (97 ≤ y) && decide (y ≤ 122)
def digI (y : Int) : Bool := decide (48 ≤ y) && decide (y ≤ 57)
def nameI (y : Int) : Bool := lowI y || digI y
/-- A name: one to ten small letters and digits, a letter first. -/
def nameOk (s : List UInt8) : Bool := match s with | [] => false | a :: l => decide ((a :: l).length ≤ 10) && (lowI (z_u8 a) && (a :: l).all fun b => nameI (z_u8 b))
theorem l01Small_ok (y : Int) : spec_l01Small y = some (lowI y) := by
  unfold spec_l01Small lowI
  by_cases h : 97 ≤ y <;> simp [h]
theorem l01Digit_ok (y : Int) : spec_l01Digit y = some (digI y) := by
  unfold spec_l01Digit digI
  by_cases h : 48 ≤ y <;> simp [h]
theorem nameOk_cons (a : UInt8) (l : List UInt8) : nameOk (a :: l) = (decide ((a :: l).length ≤ 10) && (lowI (z_u8 a) && (a :: l).all fun b => nameI (z_u8 b))) := rfl
theorem l01Name_loop {k : Nat} (hk : KK ≤ k) {s : List UInt8} (hs : s.length ≤ 1000000000000) : spec_l01Name_l0 k k s 0 (some true) = if s.all (fun b => nameI (z_u8 b)) = true then some true else some false := by
  have hK := KK_def
  refine loop_all (L := fun n i => spec_l01Name_l0 k n s i (some true)) s ?_ ?_ (n := k) (by omega)
  · intro n i x hx hlt
    have hw := w_succ (i := i) (by omega)
    simp only [spec_l01Name_l0, hlt, decide_true, if_true, Int.natCast_nonneg, Int.toNat_natCast, hx, Option.bind_some, l01Small_ok, l01Digit_ok, hw, nameI]
    by_cases h1 : lowI (z_u8 x) = true <;> by_cases h2 : digI (z_u8 x) = true <;> simp [h1, h2]
  · intro n
    simp [spec_l01Name_l0]
theorem l01Name_ok {k : Nat} (hk : KK ≤ k) {s : List UInt8} (hs : s.length ≤ 1000000000000) : spec_l01Name k s = some (nameOk s) := by
  unfold spec_l01Name
  cases s with
  | nil => simp [nameOk]
  | cons a l =>
    rw [l01Name_loop hk hs, nameOk_cons, decide_eq_false (show ¬ (a :: l = []) by simp), if_neg (by simp)]
    by_cases h : (a :: l).length ≤ 10
    · rw [decide_eq_false (show ¬ (10 < ((a :: l).length : Int)) by omega), if_neg (by simp), decide_eq_true h]
      simp only [List.getElem?_cons_zero, Option.bind_some, l01Small_ok, Bool.true_and]
      cases lowI (z_u8 a)
      · simp
      · cases (a :: l).all (fun b => nameI (z_u8 b)) <;> simp
    · rw [decide_eq_true (show (10 < ((a :: l).length : Int)) by omega), if_pos rfl, decide_eq_false h]
      rfl
theorem isName_loop {k : Nat} (hk : KK ≤ k) (q : List Int) (hq : q.length ≤ 1000000000000) : impl_IsName_l0 k k (q.length : Int) 0 q (some true) = some (q.all nameI && lowI (q.headD 97)) := by
  have hK := KK_def
  have := loop_list (A := Unit) (L := fun n i _ => impl_IsName_l0 k n (q.length : Int) i q (some true)) (I := fun _ _ => True) (G := fun post _ => some (post.all nameI && (decide (post.length ≠ q.length) || lowI (post.headD 97)))) q ?_ ?_ k (by omega) () trivial
  · refine Eq.trans this ?_
    simp
  · intro n pre x post _ hx _ ih hg hlt
    have hw := w_succ (i := pre.length) (by omega)
    have hlt' : pre.length < q.length := by omega
    have ih := ih () trivial
    have hne : decide (post.length ≠ q.length) = true := by rw [hx]; simp <;> omega
    simp only [hne, Bool.true_or, Bool.and_true] at ih
    simp only [impl_IsName_l0, hlt, hlt', decide_true, if_true, Int.natCast_nonneg, Int.toNat_natCast, hg, Option.bind_some, hw, ih, and_self]
    have h0 : decide ((x :: post).length ≠ q.length) = decide (pre.length ≠ 0) := decide_eq_decide.2 (by rw [hx]; simp <;> omega)
    rw [h0]
    simp only [List.all_cons, List.headD_cons, nameI, lowI, digI]
    have h1 : decide ((pre.length : Int) = 0) = decide (pre.length = 0) := decide_eq_decide.2 (by omega)
    rw [h1]
    by_cases g1 : 97 ≤ x <;> by_cases g2 : x ≤ 122 <;> by_cases g3 : 48 ≤ x <;> by_cases g4 : x ≤ 57 <;> by_cases g0 : pre.length = 0 <;> first | omega | simp [g0, g1, g2, g3, g4]
  · intro n _ _
    simp [impl_IsName_l0, lowI]
theorem isName_ok {k : Nat} (hk : KK ≤ k) {s : List UInt8} (hs : s.length ≤ 1000000000000) : impl_IsName k s = some (nameOk s) := by
  have hK := KK_def
  have hL := LIM_def
  unfold impl_IsName
  have hl : (of_S s).length = s.length := by simp [of_S]
  rw [isName_loop hk (of_S s) (by omega), if_pos (show s.length ≤ LIM by omega)]
  cases s with
  | nil => simp [nameOk]
  | cons a l =>
    rw [decide_eq_false (show ¬ (((a :: l).length : Int) < 1) by simp only [List.length_cons]; omega), if_neg (by simp)]
    rw [nameOk_cons]
    by_cases h : (a :: l).length ≤ 10
    · rw [decide_eq_false (show ¬ (10 < ((a :: l).length : Int)) by omega), if_neg (by simp), decide_eq_true h, Bool.true_and]
      have e : (of_S (a :: l)).all nameI = (a :: l).all fun b => nameI (z_u8 b) := by simp [of_S, z_u8, List.all_map, Function.comp_def]
      rw [e, Bool.and_comm]; rfl
    · rw [decide_eq_true (show (10 < ((a :: l).length : Int)) by omega), if_pos rfl, decide_eq_false h]; rfl
/-- Each is less than the next. -/
def prevLt (ns : List (List UInt8)) (i : Nat) : Bool := if 0 < i then (match ns[i - 1]? with | some z => (match ns[i]? with | some y => Op.bytesLess z y | none => false) | none => false) else true
def strictP (ns : List (List UInt8)) : Prop := ns.Pairwise (fun a b => Op.bytesLess a b = true)
theorem prevLt_strict {ns : List (List UInt8)} : (∀ i, i < ns.length → prevLt ns i = true) ↔ strictP ns := by
  constructor
  · intro h
    have step : ∀ i, (hi : i + 1 < ns.length) → Op.bytesLess ns[i] ns[i + 1] = true := by
      intro i hi
      have := h (i + 1) hi
      unfold prevLt at this
      rw [if_pos (by omega), Nat.add_sub_cancel, List.getElem?_eq_getElem (by omega), List.getElem?_eq_getElem hi] at this
      exact this
    refine List.pairwise_iff_getElem.2 ?_
    have main : ∀ d i, (hj : i + d + 1 < ns.length) → Op.bytesLess ns[i] ns[i + d + 1] = true := by
      intro d
      induction d with
      | zero => intro i hj; exact step i hj
      | succ d ih => intro i hj; exact bl_trans _ _ _ (ih i (by omega)) (step (i + d + 1) hj)
    intro i j hi hj hij
    have := main (j - i - 1) i (by omega)
    have e : i + (j - i - 1) + 1 = j := by omega
    simpa only [e] using this
  · intro h i hi
    unfold prevLt
    split
    · rw [List.getElem?_eq_getElem (by omega), List.getElem?_eq_getElem hi]
      exact List.pairwise_iff_getElem.1 h _ _ (by omega) hi (by omega)
    · rfl
theorem strict_nodup {ns : List (List UInt8)} (h : strictP ns) : ns.Nodup := h.imp (fun {a b} hab e => by rw [e, bl_irrefl] at hab; cases hab)
def namesB (ns : List (List UInt8)) (m : Int) : Bool := (List.range ns.length).all (fun i => (match ns[i]? with | some y => nameOk y | none => false) && prevLt ns i) && decide ((ns.length : Int) ≤ m)
theorem namesB_iff {ns : List (List UInt8)} {m : Int} : namesB ns m = true ↔ (∀ y ∈ ns, nameOk y = true) ∧ strictP ns ∧ (ns.length : Int) ≤ m := by
  unfold namesB
  simp only [Bool.and_eq_true, List.all_eq_true, List.mem_range, decide_eq_true_eq]
  rw [← prevLt_strict]
  constructor
  · rintro ⟨h, h2⟩
    refine ⟨fun y hy => ?_, fun i hi => (h i hi).2, h2⟩
    obtain ⟨i, hi, rfl⟩ := List.getElem_of_mem hy
    have := (h i hi).1
    rw [List.getElem?_eq_getElem hi] at this
    exact this
  · rintro ⟨h, h1, h2⟩
    refine ⟨fun i hi => ⟨?_, h1 i hi⟩, h2⟩
    rw [List.getElem?_eq_getElem hi]
    exact h _ (List.getElem_mem hi)
theorem leq_less (x y : List UInt8) : (Op.bytesLess y x || decide (y = x)) = !Op.bytesLess x y := by
  cases h : Op.bytesLess x y
  · by_cases e : y = x
    · simp [e]
    · rw [bl_total x y h (fun h => e h.symm)]; rfl
  · have h2 := bl_asymm h
    rw [h2]
    have : ¬ y = x := fun e => by rw [e, bl_irrefl] at h; cases h
    simp [this]
theorem areNames_ok {k : Nat} (hk : KK ≤ k) {ns : List (List UInt8)} (hl : ns.length ≤ 1048576) (hx : ∀ x ∈ ns, x.length ≤ 1048576) (m : Int) : impl_areNames k ns m = some (namesB ns m) := by
  have hK := KK_def
  unfold impl_areNames namesB
  have := loop_allN (L := fun n i => impl_areNames_l0 k n ns m ns (ns.length : Int) i (fun names_4 most_5 => some (decide ((List.length names_4 : Int) ≤ most_5)))) (b := ns.length) (p := fun i => (match ns[i]? with | some y => nameOk y | none => false) && prevLt ns i) (r := some false) (e := some (decide ((ns.length : Int) ≤ m))) ?_ ?_ (n := k) (by omega)
  · refine Eq.trans this ?_
    cases (List.range ns.length).all (fun i => (match ns[i]? with | some y => nameOk y | none => false) && prevLt ns i) <;> simp
  · intro n i hi
    have hlt : (i : Int) < (ns.length : Int) := by omega
    have hw := w_succ (i := i) (by omega)
    have hg : ns[i]? = some ns[i] := List.getElem?_eq_getElem hi
    have hxl := hx ns[i] (List.getElem_mem hi)
    simp only [impl_areNames_l0, hlt, decide_true, if_true, Int.natCast_nonneg, Int.toNat_natCast, hg, Option.bind_some, hw, isName_ok hk (show ns[i].length ≤ 1000000000000 by omega), prevLt]
    cases nameOk ns[i]
    · simp
    · by_cases h0 : 0 < i
      · have hw1 : w_i64 ((i : Int) - 1) = ((i - 1 : Nat) : Int) := by rw [w_id (by omega) (by omega)]; omega
        have hg1 : ns[i - 1]? = some ns[i - 1] := List.getElem?_eq_getElem (by omega)
        have h0' : (0 : Int) < (i : Int) := by omega
        simp only [hw1, Int.natCast_nonneg, Int.toNat_natCast, hg1, h0, h0', decide_true, if_true, Option.bind_some, leq_less]
        cases Op.bytesLess ns[i - 1] ns[i] <;> simp
      · have h0' : ¬ (0 : Int) < (i : Int) := by omega
        simp [h0, h0']
  · intro n
    simp only [impl_areNames_l0, Int.lt_irrefl, decide_false, Bool.false_eq_true, if_false]
theorem idxP_nonneg {α : Type} (p : α → Bool) (xs : List α) : decide (0 ≤ idxP p xs) = xs.any p := by
  unfold idxP
  cases h : xs.findIdx? p with
  | some i =>
    obtain ⟨hlt, hp, _⟩ := List.findIdx?_eq_some_iff_getElem.1 h
    have : xs.any p = true := List.any_eq_true.2 ⟨_, List.getElem_mem hlt, hp⟩
    rw [this]; simp
  | none =>
    rw [List.findIdx?_eq_none_iff] at h
    have : xs.any p = false := List.any_eq_false.2 fun x hx => by rw [h x hx]; simp
    rw [this]; simp
theorem contains_ok {k : Nat} (hk : KK ≤ k) {s : List (List UInt8)} (hs : s.length ≤ 1000000000000) (v : List UInt8) : slices_Contains_string k s v = some (s.contains v) := by
  have hK := KK_def
  unfold slices_Contains_string slices_Index_string
  rw [loop_find (L := fun n i => slices_Index_string_l0 k n s v (s.length : Int) i (some (-1))) (p := fun y => decide (v = y)) s ?_ ?_ (n := k) (by omega)]
  · simp only [Option.bind_some, idxP_nonneg]
    congr 1
    rw [Bool.eq_iff_iff]
    simp
  · intro n i x hi hlt
    have hw := w_succ (i := i) (by omega)
    simp only [slices_Index_string_l0, hlt, decide_true, if_true, Int.natCast_nonneg, Int.toNat_natCast, hi, Option.bind_some, hw]
  · intro n
    simp [slices_Index_string_l0]
theorem within_ok (n a b : Int) : impl_within n a b = some (decide (a ≤ n ∧ n ≤ b)) := by
  unfold impl_within
  by_cases h : a ≤ n <;> simp [h]
theorem l00In_ok (n a b : Int) : spec_l00In n a b = some (decide (a ≤ n ∧ n ≤ b)) := by
  unfold spec_l00In
  by_cases h : a ≤ n <;> simp [h]
/-- Rounds by number, with a condition that held before. -/
theorem loop_allN' {R : Type} {L : Nat → Int → R} {b : Nat} {p : Nat → Bool} {r e : R}
    (h1 : ∀ n (i : Nat), i < b → (∀ j, j < i → p j = true) → L (n + 1) (i : Int) = if p i = true then L n ((i + 1 : Nat) : Int) else r) (h2 : ∀ n, L (n + 1) (b : Int) = e) {n : Nat} (hn : b < n) : L n 0 = if (List.range b).all p = true then e else r := by
  refine loop_list (α := Nat) (A := Unit) (L := fun n i _ => L n i) (I := fun pre _ => ∀ j ∈ pre, p j = true) (G := fun l _ => if l.all p = true then e else r) (List.range b) ?_ ?_ n (by simpa using hn) () (by simp)
  · intro n pre x post _ hx hI ih hg hlt
    rw [List.length_range] at hlt
    have hxi : x = pre.length := by
      rw [List.getElem?_range (by omega)] at hg
      simpa using hg.symm
    subst hxi
    have hpre : pre = List.range pre.length := by
      have := congrArg (List.take pre.length) hx
      rw [List.take_left, List.take_range] at this
      rw [Nat.min_eq_left (by omega)] at this
      exact this.symm
    rw [h1 n pre.length (by omega) (fun j hj => hI j (by rw [hpre]; simpa using hj))]
    by_cases hp : p pre.length = true
    · rw [if_pos hp, ih () (fun j hj => by
        rcases List.mem_append.1 hj with hj | hj
        · exact hI j hj
        · rw [List.mem_singleton.1 hj]; exact hp)]
      simp [hp]
    · rw [if_neg hp]; simp [hp]
  · intro n _ _
    simpa using h2 n
abbrev It := List UInt8 × List (List UInt8) × Int × Int
def nmsI (L : List It) : List (List UInt8) := L.map (·.1)
/-- Where the item with a name stands; behind the end if there is none. -/
def atI (L : List It) (n : List UInt8) : Nat := L.findIdx (fun y => decide (y.1 = n))
def smallI (x : It) : Prop := x.1.length ≤ 1048576 ∧ x.2.1.length ≤ 1048576 ∧ ∀ y ∈ x.2.1, y.length ≤ 1048576
theorem atI_lt {L : List It} {n : List UInt8} (h : n ∈ nmsI L) : atI L n < L.length := by
  obtain ⟨x, hx, rfl⟩ := List.mem_map.1 h
  exact List.findIdx_lt_length.2 ⟨x, hx, by simp⟩
theorem atI_name {L : List It} {n : List UInt8} (h : atI L n < L.length) : (L[atI L n]).1 = n := by
  have : decide ((L[atI L n]).1 = n) = true := List.findIdx_getElem (xs := L) (p := fun y : It => decide (y.1 = n)) (w := h)
  exact of_decide_eq_true this
theorem l28Find_ok {k : Nat} (hk : KK ≤ k) {L : List It} (hL : L.length ≤ 1048576) (n : List UInt8) : spec_l28Find k L n = some (if atI L n < L.length then ((atI L n : Nat) : Int) else -1) := by
  have hK := KK_def
  unfold spec_l28Find
  rw [loop_find (L := fun m i => spec_l28Find_l0 k m L n i (some (-1))) (p := fun y => decide (y.1 = n)) L ?_ ?_ (n := k) (by omega)]
  · unfold idxP atI
    cases hf : L.findIdx? (fun y => decide (y.1 = n)) with
    | some i =>
      obtain ⟨hlt, hp⟩ := List.findIdx?_eq_some_iff_findIdx_eq.1 hf
      rw [hp, if_pos hlt]
    | none =>
      rw [List.findIdx?_eq_none_iff] at hf
      have : ¬ L.findIdx (fun y => decide (y.1 = n)) < L.length := fun h => by
        obtain ⟨x, hx, h2⟩ := List.findIdx_lt_length.1 h
        rw [hf x hx] at h2; cases h2
      rw [if_neg this]
  · intro m i x hi hlt
    have hw := w_succ (i := i) (by omega)
    simp only [spec_l28Find_l0, hlt, decide_true, if_true, Int.natCast_nonneg, Int.toNat_natCast, hi, Option.bind_some, hw]
  · intro m
    simp [spec_l28Find_l0]
theorem find_in {L : List It} {n : List UInt8} (h : n ∈ nmsI L) : (if atI L n < L.length then ((atI L n : Nat) : Int) else -1) = ((atI L n : Nat) : Int) := if_pos (atI_lt h)
theorem find_neg (L : List It) (n : List UInt8) : decide ((if atI L n < L.length then ((atI L n : Nat) : Int) else -1) < 0) = !(nmsI L).contains n := by
  by_cases h : n ∈ nmsI L
  · rw [find_in h]
    have : (nmsI L).contains n = true := by simpa using h
    rw [this, decide_eq_false (by omega)]; rfl
  · have h2 : ¬ atI L n < L.length := fun h2 => h (List.mem_map.2 ⟨_, List.getElem_mem h2, atI_name h2⟩)
    have : (nmsI L).contains n = false := by simpa using h
    rw [if_neg h2, this]; rfl
/-- One item, and that it comes behind the one before. -/
def itemB (L : List It) (i : Nat) (x : It) : Bool :=
  nameOk x.1 && (prevLt (nmsI L) i && (decide (0 ≤ x.2.2.1 ∧ x.2.2.1 ≤ 1000000) && (decide (0 ≤ x.2.2.2 ∧ x.2.2.2 ≤ 1000) && (List.range x.2.1.length).all fun j => (match x.2.1[j]? with | some n => (nmsI L).contains n | none => false) && prevLt x.2.1 j)))
def formB (L : List It) : Bool := (List.range L.length).all (fun i => match L[i]? with | some x => itemB L i x | none => false) && decide (L.length ≤ 16)
structure FormP (L : List It) : Prop where
  names : ∀ y ∈ nmsI L, nameOk y = true
  strict : strictP (nmsI L)
  made : ∀ x ∈ L, 0 ≤ x.2.2.1 ∧ x.2.2.1 ≤ 1000000
  cost : ∀ x ∈ L, 0 ≤ x.2.2.2 ∧ x.2.2.2 ≤ 1000
  known : ∀ x ∈ L, ∀ n ∈ x.2.1, n ∈ nmsI L
  needs : ∀ x ∈ L, strictP x.2.1
  len : L.length ≤ 16
theorem formB_iff {L : List It} : formB L = true ↔ FormP L := by
  unfold formB
  simp only [Bool.and_eq_true, List.all_eq_true, List.mem_range, decide_eq_true_eq]
  have nl : (nmsI L).length = L.length := List.length_map ..
  have nd : ∀ ns : List (List UInt8), (∀ j, j < ns.length → ((match ns[j]? with | some n => (nmsI L).contains n | none => false) && prevLt ns j) = true) ↔ (∀ n ∈ ns, n ∈ nmsI L) ∧ strictP ns := by
    intro ns
    rw [← prevLt_strict]
    constructor
    · intro h
      refine ⟨fun n hn => ?_, fun j hj => by have := h j hj; rw [Bool.and_eq_true] at this; exact this.2⟩
      obtain ⟨j, hj, rfl⟩ := List.getElem_of_mem hn
      have := h j hj
      rw [Bool.and_eq_true, List.getElem?_eq_getElem hj] at this
      simpa using this.1
    · rintro ⟨h1, h2⟩ j hj
      rw [Bool.and_eq_true, List.getElem?_eq_getElem hj]
      exact ⟨by simpa using h1 _ (List.getElem_mem hj), h2 j hj⟩
  constructor
  · rintro ⟨h, hl⟩
    have h' : ∀ i (hi : i < L.length), itemB L i L[i] = true := fun i hi => by have := h i hi; rw [List.getElem?_eq_getElem hi] at this; exact this
    have g : ∀ x ∈ L, nameOk x.1 = true ∧ (0 ≤ x.2.2.1 ∧ x.2.2.1 ≤ 1000000) ∧ (0 ≤ x.2.2.2 ∧ x.2.2.2 ≤ 1000) ∧ (∀ n ∈ x.2.1, n ∈ nmsI L) ∧ strictP x.2.1 := by
      intro x hx
      obtain ⟨i, hi, rfl⟩ := List.getElem_of_mem hx
      have := h' i hi
      unfold itemB at this
      simp only [Bool.and_eq_true, decide_eq_true_eq] at this
      obtain ⟨a, b, c, d, e⟩ := this
      simp only [List.all_eq_true, List.mem_range] at e
      exact ⟨a, c, d, ((nd _).1 e).1, ((nd _).1 e).2⟩
    refine ⟨fun y hy => ?_, prevLt_strict.1 fun i hi => ?_, fun x hx => (g x hx).2.1, fun x hx => (g x hx).2.2.1, fun x hx => (g x hx).2.2.2.1, fun x hx => (g x hx).2.2.2.2, hl⟩
    · obtain ⟨x, hx, rfl⟩ := List.mem_map.1 hy
      exact (g x hx).1
    · have := h' i (by omega)
      unfold itemB at this
      simp only [Bool.and_eq_true] at this
      exact this.2.1
  · intro f
    refine ⟨fun i hi => ?_, f.len⟩
    rw [List.getElem?_eq_getElem hi]
    have hm := List.getElem_mem hi
    show itemB L i L[i] = true
    unfold itemB
    simp only [Bool.and_eq_true, decide_eq_true_eq, List.all_eq_true, List.mem_range]
    refine ⟨f.names _ (List.mem_map.2 ⟨_, hm, rfl⟩), prevLt_strict.2 f.strict i (by omega), f.made _ hm, f.cost _ hm, ?_⟩
    have := (nd L[i].2.1).2 ⟨f.known _ hm, f.needs _ hm⟩
    intro j hj
    have := this j hj
    rwa [Bool.and_eq_true] at this
theorem form_in {k : Nat} (hk : KK ≤ k) {L : List It} (hL : L.length ≤ 1048576) {x : It} (hx : smallI x) (i : Nat) {E : List It → Int → Option Bool} : spec_l28Form_l1 k k L (i : Int) 0 x E = if ((List.range x.2.1.length).all fun j => (match x.2.1[j]? with | some n => (nmsI L).contains n | none => false) && prevLt x.2.1 j) = true then E L (i : Int) else some false := by
  have hK := KK_def
  obtain ⟨h1, h2, h3⟩ := hx
  refine loop_allN (L := fun n j => spec_l28Form_l1 k n L (i : Int) j x E) (b := x.2.1.length) ?_ ?_ (n := k) (by omega)
  · intro n j hj
    have hlt : (j : Int) < (x.2.1.length : Int) := by omega
    have hw := w_succ (i := j) (by omega)
    have hg : x.2.1[j]? = some x.2.1[j] := List.getElem?_eq_getElem hj
    simp only [spec_l28Form_l1, hlt, decide_true, if_true, Int.natCast_nonneg, Int.toNat_natCast, hg, Option.bind_some, hw, l28Find_ok hk hL, find_neg, prevLt]
    cases (nmsI L).contains x.2.1[j]
    · simp
    · by_cases h0 : 0 < j
      · have hw1 : w_i64 ((j : Int) - 1) = ((j - 1 : Nat) : Int) := by rw [w_id (by omega) (by omega)]; omega
        have hg1 : x.2.1[j - 1]? = some x.2.1[j - 1] := List.getElem?_eq_getElem (by omega)
        have h0' : (0 : Int) < (j : Int) := by omega
        simp only [hw1, Int.natCast_nonneg, Int.toNat_natCast, hg1, h0, h0', decide_true, if_true, Option.bind_some]
        cases Op.bytesLess x.2.1[j - 1] x.2.1[j] <;> simp
      · have h0' : ¬ (0 : Int) < (j : Int) := by omega
        simp [h0, h0']
  · intro n
    simp only [spec_l28Form_l1, Int.lt_irrefl, decide_false, Bool.false_eq_true, if_false]
theorem l28Form_ok {k : Nat} (hk : KK ≤ k) {L : List It} (hL : L.length ≤ 1048576) (hx : ∀ x ∈ L, smallI x) : spec_l28Form k L = some (formB L) := by
  have hK := KK_def
  unfold spec_l28Form formB
  have := loop_allN (L := fun n i => spec_l28Form_l0 k n L i (fun list_12 => some (decide ((List.length list_12 : Int) ≤ 16)))) (b := L.length) (p := fun i => match L[i]? with | some x => itemB L i x | none => false) (r := some false) (e := some (decide (L.length ≤ 16))) ?_ ?_ (n := k) (by omega)
  · refine Eq.trans this ?_
    cases (List.range L.length).all (fun i => match L[i]? with | some x => itemB L i x | none => false) <;> simp
  · intro n i hi
    have hlt : (i : Int) < (L.length : Int) := by omega
    have hw := w_succ (i := i) (by omega)
    have hg : L[i]? = some L[i] := List.getElem?_eq_getElem hi
    have hxi := hx L[i] (List.getElem_mem hi)
    have hxl := hxi.1
    have hin : ∀ E : List It → Int → Option Bool, _ := fun E => form_in hk hL hxi i (E := E)
    simp only [spec_l28Form_l0, hlt, decide_true, if_true, Int.natCast_nonneg, Int.toNat_natCast, hg, Option.bind_some, hw, l01Name_ok hk (show L[i].1.length ≤ 1000000000000 by omega), l00In_ok, hin, itemB, prevLt]
    cases nameOk L[i].1
    · simp
    · have gi : (nmsI L)[i]? = some L[i].1 := by unfold nmsI; rw [List.getElem?_map, hg]; rfl
      by_cases h0 : 0 < i
      · have hw1 : w_i64 ((i : Int) - 1) = ((i - 1 : Nat) : Int) := by rw [w_id (by omega) (by omega)]; omega
        have hg1 : L[i - 1]? = some L[i - 1] := List.getElem?_eq_getElem (by omega)
        have gi1 : (nmsI L)[i - 1]? = some L[i - 1].1 := by unfold nmsI; rw [List.getElem?_map, hg1]; rfl
        have h0' : (0 : Int) < (i : Int) := by omega
        simp only [hw1, Int.natCast_nonneg, Int.toNat_natCast, hg1, h0, h0', decide_true, if_true, Option.bind_some, gi, gi1]
        cases Op.bytesLess L[i - 1].1 L[i].1
        · simp
        · by_cases c1 : 0 ≤ L[i].2.2.1 ∧ L[i].2.2.1 ≤ 1000000 <;> by_cases c2 : 0 ≤ L[i].2.2.2 ∧ L[i].2.2.2 ≤ 1000 <;> simp [c1, c2]
      · have h0' : ¬ (0 : Int) < (i : Int) := by omega
        simp only [h0, h0', decide_false, Bool.false_eq_true, if_false]
        by_cases c1 : 0 ≤ L[i].2.2.1 ∧ L[i].2.2.1 ≤ 1000000 <;> by_cases c2 : 0 ≤ L[i].2.2.2 ∧ L[i].2.2.2 ≤ 1000 <;> simp [c1, c2]
  · intro n
    have e2 : decide ((L.length : Int) ≤ 16) = decide (L.length ≤ 16) := decide_eq_decide.2 (by omega)
    simp only [spec_l28Form_l0, Int.lt_irrefl, decide_false, Bool.false_eq_true, if_false, e2]
def nmI (L : List It) (i : Nat) : List UInt8 := match L[i]? with | some x => x.1 | none => []
theorem nmI_lt {L : List It} {i : Nat} (h : i < L.length) : nmI L i = (L[i]).1 := by unfold nmI; rw [List.getElem?_eq_getElem h]
theorem nmI_mem {L : List It} {i : Nat} (h : i < L.length) : nmI L i ∈ nmsI L := by rw [nmI_lt h]; exact List.mem_map.2 ⟨_, List.getElem_mem h, rfl⟩
theorem nmI_at {L : List It} {n : List UInt8} (h : n ∈ nmsI L) : nmI L (atI L n) = n := by rw [nmI_lt (atI_lt h)]; exact atI_name _
theorem atI_nm {L : List It} (hs : strictP (nmsI L)) {i : Nat} (h : i < L.length) : atI L (nmI L i) = i := by
  have hm := nmI_mem h
  have h1 := atI_lt hm
  have h2 := nmI_at hm
  have nl : (nmsI L).length = L.length := List.length_map ..
  have e : ∀ j (hj : j < L.length), (nmsI L)[j]'(by omega) = nmI L j := fun j hj => by rw [nmI_lt hj]; simp [nmsI]
  rcases Nat.lt_trichotomy (atI L (nmI L i)) i with hlt | heq | hgt
  · have := List.pairwise_iff_getElem.1 hs _ _ (by omega) (by omega) hlt
    rw [e _ h1, e _ h, h2, bl_irrefl] at this; cases this
  · exact heq
  · have := List.pairwise_iff_getElem.1 hs _ _ (by omega) (by omega) hgt
    rw [e _ h1, e _ h, h2, bl_irrefl] at this; cases this
/-- The first that answers, by its number; -1 if none does. -/
def nextF (p : Nat → It → Bool) : List It → Nat → Int
  | [], _ => -1
  | x :: r, i => if p i x = true then (i : Int) else nextF p r (i + 1)
theorem nextF_congr {p q : Nat → It → Bool} : ∀ (l : List It) (i : Nat), (∀ j x, l[j]? = some x → p (i + j) x = q (i + j) x) → nextF p l i = nextF q l i
  | [], _, _ => rfl
  | x :: r, i, h => by
    unfold nextF
    have h0 := h 0 x rfl
    rw [Nat.add_zero] at h0
    rw [h0, nextF_congr (p := p) (q := q) r (i + 1) (fun j y hy => by have := h (j + 1) y hy; rw [show i + (j + 1) = i + 1 + j by omega] at this; exact this)]
theorem nextF_spec {p : Nat → It → Bool} : ∀ (l : List It) (i : Nat), nextF p l i = -1 ∨ ∃ j x, l[j]? = some x ∧ nextF p l i = ((i + j : Nat) : Int) ∧ p (i + j) x = true
  | [], _ => .inl rfl
  | x :: r, i => by
    unfold nextF
    by_cases h : p i x = true
    · rw [if_pos h]; exact .inr ⟨0, x, rfl, rfl, h⟩
    · rw [if_neg h]
      rcases nextF_spec (p := p) r (i + 1) with h1 | ⟨j, y, h1, h2, h3⟩
      · exact .inl h1
      · exact .inr ⟨j + 1, y, by simpa using h1, by rw [h2]; congr 1; omega, by rw [show i + (j + 1) = i + 1 + j by omega]; exact h3⟩
def readyI (L : List It) (out : List Nat) (i : Nat) (x : It) : Bool := !out.contains i && x.2.1.all (fun n => out.contains (atI L n))
def ordI (L : List It) : Nat → List Nat → List Nat
  | 0, out => out
  | d + 1, out => if nextF (readyI L out) L 0 < 0 then out else ordI L d (out ++ [(nextF (readyI L out) L 0).toNat])
def orderI (L : List It) : List Nat := ordI L L.length []
/-- What an order holds: numbers, each once. -/
def goodO (L : List It) (out : List Nat) : Prop := out.Nodup ∧ ∀ i ∈ out, i < L.length
theorem next_good {L : List It} {out : List Nat} (h : goodO L out) : nextF (readyI L out) L 0 < 0 ∨ ∃ r : Nat, nextF (readyI L out) L 0 = (r : Int) ∧ r < L.length ∧ r ∉ out ∧ goodO L (out ++ [r]) := by
  rcases nextF_spec (p := readyI L out) L 0 with h1 | ⟨j, x, h1, h2, h3⟩
  · exact .inl (by omega)
  · rw [Nat.zero_add] at h2 h3
    have hj := (List.getElem?_eq_some_iff.1 h1).1
    have hn : j ∉ out := by unfold readyI at h3; simp only [Bool.and_eq_true, Bool.not_eq_true', List.contains_iff_mem] at h3; have := h3.1; simpa using this
    refine .inr ⟨j, h2, hj, hn, ?_, ?_⟩
    · rw [List.nodup_append]
      exact ⟨h.1, by simp, fun a ha b hb e => hn (by rw [List.mem_singleton] at hb; subst hb; subst e; exact ha)⟩
    · intro i hi
      rcases List.mem_append.1 hi with hi | hi
      · exact h.2 i hi
      · rw [List.mem_singleton.1 hi]; exact hj
theorem ordI_good {L : List It} : ∀ (d : Nat) (out : List Nat), goodO L out → goodO L (ordI L d out) ∧ (ordI L d out).length ≤ out.length + d
  | 0, out, h => ⟨h, Nat.le_refl _⟩
  | d + 1, out, h => by
    unfold ordI
    rcases next_good h with h1 | ⟨r, h1, _, _, h2⟩
    · rw [if_pos h1]; exact ⟨h, by omega⟩
    · rw [h1, if_neg (by omega), Int.toNat_natCast]
      have := ordI_good d _ h2
      rw [List.length_append, List.length_singleton] at this
      exact ⟨this.1, by omega⟩
theorem orderI_good (L : List It) : goodO L (orderI L) ∧ (orderI L).length ≤ L.length := by
  have := ordI_good (L := L) L.length [] ⟨List.nodup_nil, by simp⟩
  simpa [orderI] using this
/-- Marks by number. -/
def doneL (L : List It) (out : List Nat) : List Bool := (List.range L.length).map fun i => out.contains i
theorem doneL_len (L : List It) (out : List Nat) : (doneL L out).length = L.length := by simp [doneL]
theorem doneL_get {L : List It} {out : List Nat} {i : Nat} (h : i < L.length) : (doneL L out)[i]? = some (out.contains i) := by
  unfold doneL; rw [List.getElem?_map, List.getElem?_range h]; rfl
theorem doneL_nil (L : List It) : doneL L [] = List.replicate L.length false := by
  refine List.ext_getElem? fun i => ?_
  by_cases h : i < L.length
  · rw [doneL_get h, List.getElem?_replicate, if_pos h]; rfl
  · rw [List.getElem?_eq_none (by rw [doneL_len]; omega), List.getElem?_eq_none (by simp; omega)]
theorem doneL_add {L : List It} {out : List Nat} {r : Nat} (h : r < L.length) : (doneL L out).set r true = doneL L (out ++ [r]) := by
  refine List.ext_getElem? fun i => ?_
  by_cases hi : i < L.length
  · rw [doneL_get hi, List.getElem?_set]
    by_cases e : r = i
    · subst e; rw [if_pos rfl, if_pos (by rw [doneL_len]; exact h)]; simp
    · rw [if_neg e, doneL_get hi]
      congr 1
      rw [Bool.eq_iff_iff]
      simp [Ne.symm e]
  · rw [List.getElem?_eq_none (by rw [List.length_set, doneL_len]; omega), List.getElem?_eq_none (by rw [doneL_len]; omega)]
theorem order_in {k : Nat} (hk : KK ≤ k) {L : List It} (hL : L.length ≤ 1048576) (f : FormP L) {i : Nat} (hi : i < L.length) (next : Int) (out : List Int) (ds : List Nat) (b : Bool) {E : List It → Int → Int → Bool → List Int → List Bool → Option (List Int)} :
    spec_l28Order_l2 k k L next (i : Int) b 0 out (doneL L ds) E = E L next (i : Int) (b && (L[i]).2.1.all (fun n => ds.contains (atI L n))) out (doneL L ds) := by
  have hK := KK_def
  have hm := List.getElem_mem hi
  have hnl : (L[i]).2.1.length ≤ 1048576 := by
    have := (strict_nodup (f.needs _ hm)).length_le_of_subset (f.known _ hm)
    rw [show (nmsI L).length = L.length from List.length_map ..] at this
    omega
  have hg : L[i]? = some L[i] := List.getElem?_eq_getElem hi
  refine loop_list (α := List UInt8) (A := Bool) (L := fun n j b => spec_l28Order_l2 k n L next (i : Int) b j out (doneL L ds) E) (I := fun _ _ => True) (G := fun post b => E L next (i : Int) (b && post.all (fun n => ds.contains (atI L n))) out (doneL L ds)) (L[i]).2.1 ?_ ?_ k (by omega) b trivial
  · intro n pre x post b hx _ ih hgx hlt
    have hw := w_succ (i := pre.length) (by omega)
    have hxn : x ∈ nmsI L := f.known _ hm x (by rw [hx]; simp)
    simp only [spec_l28Order_l2, Int.natCast_nonneg, if_true, Int.toNat_natCast, hg, Option.bind_some, hlt, decide_true, hgx, l28Find_ok hk hL, find_in hxn, hw]
    cases b
    · simp
    · have ha := atI_lt hxn
      have hdl : ((atI L x : Nat) : Int) = atI L x ∧ atI L x < (doneL L ds).length := ⟨rfl, by rw [doneL_len]; exact ha⟩
      simp only [if_true, hdl.2, doneL_get ha, Option.bind_some, and_self]
      rw [ih _ trivial]; simp
  · intro n b _
    simp only [spec_l28Order_l2, Int.natCast_nonneg, if_true, Int.toNat_natCast, hg, Option.bind_some, Int.lt_irrefl, decide_false, Bool.false_eq_true, if_false]
    simp
theorem order_next {k : Nat} (hk : KK ≤ k) {L : List It} (hL : L.length ≤ 1048576) (f : FormP L) (out : List Int) (ds : List Nat) {E : List It → Int → List Int → List Bool → Option (List Int)} :
    spec_l28Order_l1 k k L (-1) 0 out (doneL L ds) E = E L (nextF (readyI L ds) L 0) out (doneL L ds) := by
  have hK := KK_def
  have := loop_list (α := It) (A := Int) (L := fun n j b => spec_l28Order_l1 k n L b j out (doneL L ds) E) (I := fun _ b => b = -1 ∨ 0 ≤ b) (G := fun post b => E L (if b < 0 then nextF (readyI L ds) post (L.length - post.length) else b) out (doneL L ds)) L ?_ ?_ k (by omega) (-1) (.inl rfl)
  · refine this.trans ?_
    rw [if_pos (by omega), Nat.sub_self]
  · intro n pre x post b hx hI ih hg hlt
    have hlt' : pre.length < L.length := by omega
    have hw := w_succ (i := pre.length) (by omega)
    have hxe : L[pre.length] = x := (List.getElem?_eq_some_iff.1 hg).2
    have hi : ∀ (E : List It → Int → Int → Bool → List Int → List Bool → Option (List Int)) c, _ := fun E c => order_in hk hL f hlt' b out ds c (E := E)
    have e0 : L.length - (x :: post).length = pre.length := by rw [hx]; simp
    have e1 : L.length - post.length = pre.length + 1 := by rw [hx]; simp; omega
    simp only [spec_l28Order_l1, hlt, decide_true, if_true]
    by_cases hb : b < 0
    · have hdl : pre.length < (doneL L ds).length := by rw [doneL_len]; exact hlt'
      simp only [hb, decide_true, if_true, Int.natCast_nonneg, Int.toNat_natCast, hdl, and_self, doneL_get hlt', Option.bind_some, hi, hxe, hw]
      rw [e0]
      unfold nextF
      by_cases hr : readyI L ds pre.length x = true
      · have hr' := hr
        unfold readyI at hr'
        rw [if_pos hr, hr', if_pos rfl]
        refine (ih _ (.inr (by omega))).trans ?_
        rw [if_neg (by omega)]
      · have hr' := hr
        unfold readyI at hr'
        rw [if_neg hr, if_neg hr']
        refine (ih _ hI).trans ?_
        rw [if_pos hb, e1]
    · simp only [hb, decide_false, Bool.false_eq_true, if_false]
  · intro n b hI
    simp only [spec_l28Order_l1, Int.lt_irrefl, decide_false, Bool.false_eq_true, if_false]
    rcases hI with rfl | hb
    · rfl
    · rw [if_neg (by omega)]
theorem l28Order_loop {k : Nat} (hk : KK ≤ k) {L : List It} (f : FormP L) : ∀ (d n : Nat) (ds : List Nat), goodO L ds → ds.length + d = L.length → d < n → spec_l28Order_l0 k n L (ds.map fun i : Nat => (i : Int)) (doneL L ds) (fun q => some q) = some ((ordI L d ds).map fun i : Nat => (i : Int))
  | d, 0, ds, _, _, h => by omega
  | 0, n + 1, ds, hg, hd, _ => by
    have : ¬ ((ds.map fun i : Nat => (i : Int)).length : Int) < (L.length : Int) := by rw [List.length_map]; omega
    simp only [spec_l28Order_l0, this, decide_false, Bool.false_eq_true, if_false, ordI]
  | d + 1, n + 1, ds, hg, hd, hn => by
    have hL := f.len
    have hLI := LIM_def
    have : ((ds.map fun i : Nat => (i : Int)).length : Int) < (L.length : Int) := by rw [List.length_map]; omega
    have h1 : ∀ E : List It → Int → List Int → List Bool → Option (List Int), _ := fun E => order_next hk (show L.length ≤ 1048576 by omega) f (ds.map fun i : Nat => (i : Int)) ds (E := E)
    simp only [spec_l28Order_l0, this, decide_true, if_true, h1, ordI]
    rcases next_good hg with h | ⟨r, h, hr, hn', hg'⟩
    · rw [decide_eq_true h, if_pos rfl, if_pos h]
    · have hdl : r < (doneL L ds).length := by rw [doneL_len]; exact hr
      rw [h, decide_eq_false (show ¬ ((r : Int) < 0) by omega), if_neg (show ¬ (false = true) by simp), if_neg (show ¬ ((r : Int) < 0) by omega)]
      simp only [Int.natCast_nonneg, Int.toNat_natCast, hdl, and_self, if_true, doneL_get hr, Option.bind_some]
      rw [if_pos (by simp only [List.length_map, List.length_singleton]; omega), doneL_add hr]
      have := l28Order_loop hk f d n (ds ++ [r]) hg' (by simp only [List.length_append, List.length_singleton]; omega) (by omega)
      rw [List.map_append] at this
      exact this
theorem l28Order_ok {k : Nat} (hk : KK ≤ k) {L : List It} (f : FormP L) : spec_l28Order k L = some ((orderI L).map fun i : Nat => (i : Int)) := by
  have hK := KK_def
  have hLI := LIM_def
  have hL := f.len
  unfold spec_l28Order orderI
  rw [if_pos ⟨by omega, Int.le_refl _, by omega⟩, ← doneL_nil]
  exact l28Order_loop hk f L.length k [] ⟨List.nodup_nil, by simp⟩ (by simp) (by omega)
/-- Items as stated, and an order of all. -/
def validB (L : List It) : Bool := formB L && decide ((orderI L).length = L.length)
theorem l28Ok_ok {k : Nat} (hk : KK ≤ k) {L : List It} (hL : L.length ≤ 1048576) (hx : ∀ x ∈ L, smallI x) : spec_l28Ok k L = some (validB L) := by
  unfold spec_l28Ok validB
  rw [l28Form_ok hk hL hx]
  cases h : formB L
  · simp
  · have f := formB_iff.1 h
    simp only [Option.bind_some, if_true, l28Order_ok hk f, List.length_map, Bool.true_and]
    congr 1
    exact decide_eq_decide.2 (by omega)
/-- By names what was by numbers. -/
theorem contains_nm {L : List It} (f : FormP L) {ds : List Nat} (hg : ∀ i ∈ ds, i < L.length) {n : List UInt8} (hn : n ∈ nmsI L) : (ds.map (nmI L)).contains n = ds.contains (atI L n) := by
  rw [Bool.eq_iff_iff, List.contains_iff_mem, List.contains_iff_mem, List.mem_map]
  constructor
  · rintro ⟨i, hi, rfl⟩
    rw [atI_nm f.strict (hg i hi)]; exact hi
  · intro h
    exact ⟨_, h, nmI_at hn⟩
theorem any_one {k : Nat} (hk : KK ≤ k) {s q : List (List UInt8)} (hs : s.length ≤ 1000000000000) (hq : q.length ≤ 1000000000000) : slices_ContainsFunc_string__impl_makeOrder_1_1 k s q = some (s.any fun n => !q.contains n) := by
  have hK := KK_def
  unfold slices_ContainsFunc_string__impl_makeOrder_1_1 slices_IndexFunc_string__impl_makeOrder_1_1
  rw [loop_find (L := fun n i => slices_IndexFunc_string__impl_makeOrder_1_1_l0 k n s q (s.length : Int) i (some (-1))) (p := fun n => !q.contains n) s ?_ ?_ (n := k) (by omega)]
  · simp only [Option.bind_some, idxP_nonneg]
  · intro n i x hi hlt
    have hw := w_succ (i := i) (by omega)
    simp only [slices_IndexFunc_string__impl_makeOrder_1_1_l0, impl_makeOrder_1_1, hlt, decide_true, if_true, Int.natCast_nonneg, Int.toNat_natCast, hi, Option.bind_some, hw, contains_ok hk hq]
  · intro n
    simp [slices_IndexFunc_string__impl_makeOrder_1_1_l0]
theorem any_two {k : Nat} (hk : KK ≤ k) {s q : List (List UInt8)} (hs : s.length ≤ 1000000000000) (hq : q.length ≤ 1000000000000) : slices_ContainsFunc_string__impl_ValidItems_1 k s q = some (s.any fun n => !q.contains n) := by
  have hK := KK_def
  unfold slices_ContainsFunc_string__impl_ValidItems_1 slices_IndexFunc_string__impl_ValidItems_1
  rw [loop_find (L := fun n i => slices_IndexFunc_string__impl_ValidItems_1_l0 k n s q (s.length : Int) i (some (-1))) (p := fun n => !q.contains n) s ?_ ?_ (n := k) (by omega)]
  · simp only [Option.bind_some, idxP_nonneg]
  · intro n i x hi hlt
    have hw := w_succ (i := i) (by omega)
    simp only [slices_IndexFunc_string__impl_ValidItems_1_l0, impl_ValidItems_1, hlt, decide_true, if_true, Int.natCast_nonneg, Int.toNat_natCast, hi, Option.bind_some, hw, contains_ok hk hq]
  · intro n
    simp [slices_IndexFunc_string__impl_ValidItems_1_l0]
theorem makeNext_ok {k : Nat} (hk : KK ≤ k) {L : List It} (f : FormP L) {ds : List Nat} (hg : goodO L ds) (hdl : ds.length ≤ L.length) : slices_IndexFunc_impl_Item__impl_makeOrder_1 k L (ds.map (nmI L)) = some (nextF (readyI L ds) L 0) := by
  have hK := KK_def
  have hL := f.len
  unfold slices_IndexFunc_impl_Item__impl_makeOrder_1
  have := loop_list (α := It) (A := Unit) (L := fun n i _ => slices_IndexFunc_impl_Item__impl_makeOrder_1_l0 k n L (ds.map (nmI L)) (L.length : Int) i (some (-1))) (I := fun _ _ => True) (G := fun post _ => some (nextF (readyI L ds) post (L.length - post.length))) L ?_ ?_ k (by omega) () trivial
  · refine this.trans ?_
    rw [Nat.sub_self]
  · intro n pre x post _ hx _ ih hgx hlt
    have hlt' : pre.length < L.length := by omega
    have hw := w_succ (i := pre.length) (by omega)
    have hxm : x ∈ L := by rw [hx]; simp
    have e0 : L.length - (x :: post).length = pre.length := by rw [hx]; simp
    have e1 : L.length - post.length = pre.length + 1 := by rw [hx]; simp; omega
    have hnl : x.2.1.length ≤ L.length := by
      have := (strict_nodup (f.needs _ hxm)).length_le_of_subset (f.known _ hxm)
      rwa [show (nmsI L).length = L.length from List.length_map ..] at this
    have hql : (ds.map (nmI L)).length ≤ 1000000000000 := by rw [List.length_map]; omega
    have hxn : x.1 ∈ nmsI L := List.mem_map.2 ⟨x, hxm, rfl⟩
    have hax : atI L x.1 = pre.length := by
      have := atI_nm f.strict hlt'
      rwa [nmI_lt hlt', (List.getElem?_eq_some_iff.1 hgx).2] at this
    have hr : impl_makeOrder_1 k x (ds.map (nmI L)) = some (readyI L ds pre.length x) := by
      unfold impl_makeOrder_1 readyI
      rw [contains_ok hk hql, contains_nm f hg.2 hxn, hax, any_one hk (by omega) hql]
      have e : (x.2.1.any fun n => !(ds.map (nmI L)).contains n) = !x.2.1.all fun n => ds.contains (atI L n) := by
        rw [List.not_all_eq_any_not, Bool.eq_iff_iff, List.any_eq_true, List.any_eq_true]
        exact ⟨fun ⟨n, hn, h⟩ => ⟨n, hn, by rwa [contains_nm f hg.2 (f.known _ hxm n hn)] at h⟩, fun ⟨n, hn, h⟩ => ⟨n, hn, by rwa [contains_nm f hg.2 (f.known _ hxm n hn)]⟩⟩
      rw [e]
      cases ds.contains pre.length <;> simp
    simp only [slices_IndexFunc_impl_Item__impl_makeOrder_1_l0, hlt, decide_true, if_true, Int.natCast_nonneg, Int.toNat_natCast, hgx, Option.bind_some, hw, hr]
    rw [e0]
    unfold nextF
    by_cases h : readyI L ds pre.length x = true
    · rw [if_pos h, if_pos h]
    · rw [if_neg h, if_neg h, ih () trivial, e1]
  · intro n _ _
    simp only [slices_IndexFunc_impl_Item__impl_makeOrder_1_l0, Int.lt_irrefl, decide_false, Bool.false_eq_true, if_false, nextF]
theorem makeOrder_loop {k : Nat} (hk : KK ≤ k) {L : List It} (f : FormP L) : ∀ (d n c : Nat) (ds : List Nat), goodO L ds → ds.length + d = L.length → c + d = L.length → d < n → impl_makeOrder_l0 k n L (L.length : Int) (c : Int) (ds.map (nmI L)) (fun q => some q) = some ((ordI L d ds).map (nmI L))
  | d, 0, c, ds, _, _, _, h => by omega
  | 0, n + 1, c, ds, hg, hd, hc, _ => by
    have : ¬ (c : Int) < (L.length : Int) := by omega
    simp only [impl_makeOrder_l0, this, decide_false, Bool.false_eq_true, if_false, ordI]
  | d + 1, n + 1, c, ds, hg, hd, hc, hn => by
    have hL := f.len
    have hLI := LIM_def
    have : (c : Int) < (L.length : Int) := by omega
    have hw := w_succ (i := c) (by omega)
    simp only [impl_makeOrder_l0, this, decide_true, if_true, makeNext_ok hk f hg (show ds.length ≤ L.length by omega), Option.bind_some, ordI, hw]
    rcases next_good hg with h | ⟨r, h, hr, hn', hg'⟩
    · rw [decide_eq_true h, if_pos rfl, if_pos h]
    · have e : L[r]? = some L[r] := List.getElem?_eq_getElem hr
      rw [h, decide_eq_false (show ¬ ((r : Int) < 0) by omega), if_neg (show ¬ (false = true) by simp), if_neg (show ¬ ((r : Int) < 0) by omega)]
      simp only [Int.natCast_nonneg, Int.toNat_natCast, if_true, e, Option.bind_some]
      rw [if_pos (by simp only [List.length_map, List.length_singleton]; omega)]
      have := makeOrder_loop hk f d n (c + 1) (ds ++ [r]) hg' (by simp only [List.length_append, List.length_singleton]; omega) (by omega) (by omega)
      rw [List.map_append] at this
      simp only [List.map_cons, List.map_nil, nmI_lt hr] at this
      exact this
theorem makeOrder_ok {k : Nat} (hk : KK ≤ k) {L : List It} (f : FormP L) : impl_makeOrder k L = some ((orderI L).map (nmI L)) := by
  have hK := KK_def
  have hL := f.len
  unfold impl_makeOrder orderI
  exact makeOrder_loop hk f L.length k 0 [] ⟨List.nodup_nil, by simp⟩ (by simp) (by omega) (by omega)
def implB (L : List It) (x : It) : Bool := namesB x.2.1 16 && (decide (0 ≤ x.2.2.1 ∧ x.2.2.1 ≤ 1000000) && (decide (0 ≤ x.2.2.2 ∧ x.2.2.2 ≤ 1000) && !x.2.1.any fun n => !(nmsI L).contains n))
theorem implB_form (L : List It) : (namesB (nmsI L) 16 && L.all (implB L)) = formB L := by
  rw [Bool.eq_iff_iff, formB_iff, Bool.and_eq_true, namesB_iff, List.all_eq_true]
  have nl : (nmsI L).length = L.length := List.length_map ..
  have hany : ∀ x : It, (!x.2.1.any fun n => !(nmsI L).contains n) = true ↔ ∀ n ∈ x.2.1, n ∈ nmsI L := by
    intro x
    simp
  unfold implB
  simp only [Bool.and_eq_true, namesB_iff, decide_eq_true_eq, hany]
  constructor
  · rintro ⟨⟨h1, h2, h3⟩, h⟩
    exact ⟨h1, h2, fun x hx => (h x hx).2.1, fun x hx => (h x hx).2.2.1, fun x hx => (h x hx).2.2.2, fun x hx => (h x hx).1.2.1, by omega⟩
  · intro f
    have hl := f.len
    refine ⟨⟨f.names, f.strict, by omega⟩, fun x hx => ⟨⟨fun y hy => f.names y (f.known x hx y hy), f.needs x hx, ?_⟩, f.made x hx, f.cost x hx, f.known x hx⟩⟩
    have := (strict_nodup (f.needs x hx)).length_le_of_subset (f.known x hx)
    omega
theorem four_ifs (b1 b2 b3 b4 : Bool) (A B : Option Bool) : (if (!b1) = true then B else if (!b2) = true then B else if (!b3) = true then B else if b4 = true then B else A) = if (b1 && (b2 && (b3 && !b4))) = true then A else B := by
  cases b1 <;> cases b2 <;> cases b3 <;> cases b4 <;> simp
theorem implValid_ok {k : Nat} (hk : KK ≤ k) {L : List It} (hL : L.length ≤ 1048576) (hx : ∀ x ∈ L, smallI x) : impl_ValidItems k L = some (validB L) := by
  have hK := KK_def
  have hLI := LIM_def
  have nl : (nmsI L).length = L.length := List.length_map ..
  have hn : ∀ y ∈ nmsI L, y.length ≤ 1048576 := fun y hy => by obtain ⟨x, hx', rfl⟩ := List.mem_map.1 hy; exact (hx x hx').1
  unfold impl_ValidItems validB
  have h0 : ∀ E : List It → List (List UInt8) → Option Bool, impl_ValidItems_l0 k k L L (L.length : Int) 0 [] E = E L (nmsI L) := by
    intro E
    refine loop_list (L := fun n i q => impl_ValidItems_l0 k n L L (L.length : Int) i q E) (I := fun pre q => q = nmsI pre) (G := fun _ _ => E L (nmsI L)) L ?_ ?_ k (by omega) [] rfl
    · intro n pre x post q hxp hq ih hg hlt
      subst hq
      have hw := w_succ (i := pre.length) (by omega)
      have hpl : (nmsI pre).length = pre.length := List.length_map ..
      simp only [impl_ValidItems_l0, hlt, decide_true, if_true, Int.natCast_nonneg, Int.toNat_natCast, hg, Option.bind_some, hw]
      rw [if_pos (by simp only [List.length_singleton]; omega)]
      exact ih _ (by simp [nmsI])
    · intro n q hq
      subst hq
      simp only [impl_ValidItems_l0, Int.lt_irrefl, decide_false, Bool.false_eq_true, if_false]
  rw [h0, areNames_ok hk (by omega) hn, ← implB_form]
  cases hb : namesB (nmsI L) 16
  · simp
  · simp only [Option.bind_some, Bool.not_true, Bool.false_eq_true, if_false, Bool.true_and]
    have := loop_all (L := fun n i => impl_ValidItems_l1 k n L L (L.length : Int) i (nmsI L) (fun list_12 => (impl_makeOrder k list_12).bind fun r_13 => some (decide ((List.length r_13 : Int) = (List.length list_12 : Int))))) (p := implB L) (r := some false) (e := (impl_makeOrder k L).bind fun r_13 => some (decide ((List.length r_13 : Int) = (List.length L : Int)))) L ?_ ?_ (n := k) (by omega)
    · refine this.trans ?_
      cases ha : L.all (implB L)
      · simp
      · have f : FormP L := by rw [← formB_iff, ← implB_form, hb, ha]; rfl
        rw [if_pos rfl, makeOrder_ok hk f]
        simp only [Option.bind_some, List.length_map, Bool.true_and]
        congr 1
        exact decide_eq_decide.2 (by omega)
    · intro n i x hg hlt
      have hw := w_succ (i := i) (by omega)
      have hxs := hx x (List.mem_of_getElem? hg)
      have hx2 := hxs.2.1
      simp only [impl_ValidItems_l1, hlt, decide_true, if_true, Int.natCast_nonneg, Int.toNat_natCast, hg, Option.bind_some, hw, areNames_ok hk hxs.2.1 hxs.2.2, within_ok, any_two hk (show x.2.1.length ≤ 1000000000000 by omega) (show (nmsI L).length ≤ 1000000000000 by omega), implB]
      exact four_ifs _ _ _ _ _ _
    · intro n
      simp only [impl_ValidItems_l1, Int.lt_irrefl, decide_false, Bool.false_eq_true, if_false]
theorem mid_ok {i j : Nat} (h : i + j < 4611686018427387904) : w_i64 (Int.fdiv (w_u64 (w_i64 ((i : Int) + (j : Int)))) (2 ^ 1)) = (((i + j) / 2 : Nat) : Int) := by
  rw [w_id (x := (i : Int) + j) (by omega) (by omega)]
  have hu : w_u64 ((i : Int) + (j : Int)) = (i : Int) + j := by unfold w_u64 IntKind.wrap; simp [IntKind.bits, IntKind.signed]; omega
  rw [hu, Int.fdiv_eq_ediv_of_nonneg _ (by omega), w_id (by omega) (by omega)]
  omega
theorem cmpS_neg (x y : List UInt8) : decide (cmpS x y < 0) = Op.bytesLess x y := by
  unfold cmpS
  cases Op.bytesLess x y
  · by_cases h : x = y <;> simp [h]
  · simp
theorem cmpS_zero (x y : List UInt8) : decide (cmpS x y = 0) = decide (x = y) := by
  unfold cmpS
  by_cases h : x = y
  · rw [h, bl_irrefl]; simp
  · cases Op.bytesLess x y <;> simp [h]
/-- The first place that is not before a name. -/
def lowI_ (L : List It) (n : List UInt8) : Nat := L.findIdx (fun y => !Op.bytesLess y.1 n)
theorem lowI_le (L : List It) (n : List UInt8) : lowI_ L n ≤ L.length := List.findIdx_le_length
theorem lowI_lt {L : List It} {n : List UInt8} {i : Nat} (h : i < lowI_ L n) (hi : i < L.length) : Op.bytesLess (L[i]).1 n = true := by
  have := List.not_of_lt_findIdx h
  simpa using this
theorem strict_get {L : List It} (hs : strictP (nmsI L)) {i j : Nat} (hij : i < j) (hj : j < L.length) : Op.bytesLess (L[i]).1 (L[j]).1 = true := by
  have nl : (nmsI L).length = L.length := List.length_map ..
  have := List.pairwise_iff_getElem.1 hs i j (by omega) (by omega) hij
  simpa [nmsI] using this
theorem lowI_ge {L : List It} {n : List UInt8} (hs : strictP (nmsI L)) {i : Nat} (h : lowI_ L n ≤ i) (hi : i < L.length) : Op.bytesLess (L[i]).1 n = false := by
  have hp : lowI_ L n < L.length := by omega
  have h0 : Op.bytesLess (L[lowI_ L n]).1 n = false := by
    have := List.findIdx_getElem (xs := L) (p := fun y : It => !Op.bytesLess y.1 n) (w := hp)
    simp only [Bool.not_eq_true'] at this
    exact this
  by_cases e : i = lowI_ L n
  · subst e; exact h0
  · cases hb : Op.bytesLess (L[i]).1 n
    · rfl
    · have h1 := strict_get hs (show lowI_ L n < i by omega) hi
      rw [bl_trans _ _ _ h1 hb] at h0; cases h0
theorem itemAt_loop {k : Nat} (hk : KK ≤ k) {L : List It} (hl : L.length ≤ 1048576) (hs : strictP (nmsI L)) (b : List UInt8) {e : List It → List UInt8 → Unit → Int → Int → Option (Int × Bool)} :
    ∀ (d : Nat) (i j n : Nat), j - i ≤ d → d < n → i ≤ lowI_ L b → lowI_ L b ≤ j → j ≤ L.length → slices_BinarySearchFunc_string__impl_itemAt_1_l0 k n L b () (L.length : Int) (i : Int) (j : Int) e = e L b () (L.length : Int) ((lowI_ L b : Nat) : Int) := by
  intro d
  induction d with
  | zero =>
    intro i j n h1 h2 h3 h4 h5
    obtain ⟨n, rfl⟩ : ∃ m, n = m + 1 := ⟨n - 1, by omega⟩
    have hlt : ¬ (i : Int) < (j : Int) := by omega
    simp only [slices_BinarySearchFunc_string__impl_itemAt_1_l0, hlt, decide_false, Bool.false_eq_true, if_false]
    rw [show i = lowI_ L b by omega]
  | succ d ih =>
    intro i j n h1 h2 h3 h4 h5
    obtain ⟨n, rfl⟩ : ∃ m, n = m + 1 := ⟨n - 1, by omega⟩
    by_cases hij : i < j
    · have hlt : (i : Int) < (j : Int) := by omega
      have hm : (i + j) / 2 < L.length := by omega
      have hw := w_succ (i := (i + j) / 2) (by omega)
      simp only [slices_BinarySearchFunc_string__impl_itemAt_1_l0, hlt, decide_true, if_true, mid_ok (show i + j < 4611686018427387904 by omega), Int.natCast_nonneg, Int.toNat_natCast, List.getElem?_eq_getElem hm, Option.bind_some, impl_itemAt_1, cmpString_ok, cmpS_neg, hw]
      by_cases hb : Op.bytesLess (L[(i + j) / 2]).1 b = true
      · rw [if_pos hb]
        refine ih _ _ _ (by omega) (by omega) ?_ h4 h5
        by_cases hq : lowI_ L b ≤ (i + j) / 2
        · rw [lowI_ge hs hq hm] at hb; cases hb
        · omega
      · rw [if_neg hb]
        refine ih _ _ _ (by omega) (by omega) h3 ?_ (by omega)
        by_cases hq : (i + j) / 2 < lowI_ L b
        · exact absurd (lowI_lt hq hm) hb
        · omega
    · have hlt : ¬ (i : Int) < (j : Int) := by omega
      simp only [slices_BinarySearchFunc_string__impl_itemAt_1_l0, hlt, decide_false, Bool.false_eq_true, if_false]
      rw [show i = lowI_ L b by omega]
theorem lowI_at {L : List It} (hs : strictP (nmsI L)) {n : List UInt8} (h : n ∈ nmsI L) : lowI_ L n = atI L n := by
  have ha := atI_lt h
  have hn := atI_name ha
  have h1 : ¬ atI L n < lowI_ L n := fun q => by have := lowI_lt q ha; rw [hn, bl_irrefl] at this; cases this
  have h2 : ¬ lowI_ L n < atI L n := fun q => by
    have h3 := strict_get hs q ha
    rw [hn] at h3
    rw [lowI_ge hs (Nat.le_refl _) (by omega)] at h3; cases h3
  omega
theorem itemAt_ok {k : Nat} (hk : KK ≤ k) {L : List It} (f : FormP L) (b : List UInt8) : impl_itemAt k L b = some (((lowI_ L b : Nat) : Int), (nmsI L).contains b) := by
  have hK := KK_def
  have hL := f.len
  unfold impl_itemAt slices_BinarySearchFunc_string__impl_itemAt_1
  have := lowI_le L b
  have h0 : ∀ e : List It → List UInt8 → Unit → Int → Int → Option (Int × Bool), slices_BinarySearchFunc_string__impl_itemAt_1_l0 k k L b () (L.length : Int) 0 (L.length : Int) e = e L b () (L.length : Int) ((lowI_ L b : Nat) : Int) :=
    fun e => itemAt_loop hk (by omega) f.strict b L.length 0 L.length k (by omega) (by omega) (by omega) (by omega) (by omega)
  rw [h0]
  by_cases h : lowI_ L b < L.length
  · have h' : ((lowI_ L b : Nat) : Int) < (L.length : Int) := by omega
    simp only [h', decide_true, if_true, Int.natCast_nonneg, Int.toNat_natCast, List.getElem?_eq_getElem h, Option.bind_some, impl_itemAt_1, cmpString_ok, cmpS_zero]
    congr 2
    by_cases hb : b ∈ nmsI L
    · have := lowI_at f.strict hb
      have h2 : (L[lowI_ L b]).1 = b := by
        have := nmI_at hb
        rw [← lowI_at f.strict hb, nmI_lt h] at this
        exact this
      rw [decide_eq_true h2]; symm; simpa using hb
    · have h2 : ¬ (L[lowI_ L b]).1 = b := fun e => hb (List.mem_map.2 ⟨_, List.getElem_mem h, e⟩)
      rw [decide_eq_false h2]; symm; simpa using hb
  · have h' : ¬ ((lowI_ L b : Nat) : Int) < (L.length : Int) := by omega
    have hb : ¬ b ∈ nmsI L := fun hb => h (by rw [lowI_at f.strict hb]; exact atI_lt hb)
    have : (nmsI L).contains b = false := by simpa using hb
    rw [decide_eq_false h', if_neg (by simp), this]
    rfl
theorem itemNamed_ok {k : Nat} (hk : KK ≤ k) {L : List It} (f : FormP L) {b : List UInt8} (hb : b ∈ nmsI L) : impl_itemNamed_r k L b = some (L[atI L b]'(atI_lt hb)) := by
  unfold impl_itemNamed_r
  have h := atI_lt hb
  rw [itemAt_ok hk f, lowI_at f.strict hb]
  simp only [Option.bind_some, Int.natCast_nonneg, Int.toNat_natCast, if_true, List.getElem?_eq_getElem h]
/-- The names of the numbers marked, in order. -/
def chosenI (L : List It) (c : Nat → Bool) : List (List UInt8) := ((List.range L.length).filter c).map (nmI L)
theorem chosen_mem {L : List It} (f : FormP L) {c : Nat → Bool} {n : List UInt8} : n ∈ chosenI L c ↔ n ∈ nmsI L ∧ c (atI L n) = true := by
  unfold chosenI
  rw [List.mem_map]
  constructor
  · rintro ⟨i, hi, rfl⟩
    rw [List.mem_filter, List.mem_range] at hi
    rw [atI_nm f.strict hi.1]
    exact ⟨nmI_mem hi.1, hi.2⟩
  · rintro ⟨h1, h2⟩
    exact ⟨_, List.mem_filter.2 ⟨List.mem_range.2 (atI_lt h1), h2⟩, nmI_at h1⟩
theorem chosen_strict {L : List It} (f : FormP L) (c : Nat → Bool) : strictP (chosenI L c) := by
  unfold chosenI strictP
  rw [List.pairwise_map]
  have h1 : (List.range L.length).Pairwise (fun i j => i < j ∧ j < L.length) := by
    refine List.pairwise_iff_getElem.2 fun i j hi hj hij => ?_
    simp only [List.length_range] at hi hj
    simp only [List.getElem_range]
    exact ⟨hij, hj⟩
  refine (h1.filter c).imp fun {i j} h => ?_
  rw [nmI_lt (by omega), nmI_lt h.2]
  exact strict_get f.strict h.1 h.2
/-- Sorted is what has the same members in order. -/
theorem sortS_eq {xs ys : List (List UInt8)} (hx : xs.Nodup) (hy : strictP ys) (h : ∀ a, a ∈ xs ↔ a ∈ ys) : sortS xs = ys := by
  have tot : ∀ a b : List UInt8, (decide (a ≤ b) || decide (b ≤ a)) = true := fun a b => by
    rcases List.le_total a b with h | h <;> simp [h]
  have trs : ∀ a b c : List UInt8, decide (a ≤ b) = true → decide (b ≤ c) = true → decide (a ≤ c) = true := fun a b c h1 h2 => by
    rw [decide_eq_true_eq] at *
    exact List.le_trans h1 h2
  have hp : (sortS xs).Perm ys := by
    unfold sortS
    exact (List.mergeSort_perm xs _).trans ((List.perm_ext_iff_of_nodup hx (strict_nodup hy)).2 h)
  have hs : (sortS xs).Pairwise (fun a b => decide (a ≤ b) = true) := by
    unfold sortS
    exact List.pairwise_mergeSort trs tot xs
  refine List.Perm.eq_of_pairwise (le := fun a b : List UInt8 => decide (a ≤ b) = true) ?_ hs (hy.imp fun {a b} hab => ?_) hp
  · intro a b _ _ h1 h2
    rw [decide_eq_true_eq] at h1 h2
    exact List.le_antisymm h1 h2
  · rw [Go.Proofs.bytesLess_eq, decide_eq_true_eq] at hab
    rw [decide_eq_true_eq]
    exact List.le_of_lt hab
theorem sort_ok {xs ys : List (List UInt8)} (hx : xs.Nodup) (hy : strictP ys) (h : ∀ a, a ∈ xs ↔ a ∈ ys) (hl : xs.length ≤ 1000000) : slices_Sort_string_s xs = some (((), ()), (ys, ()), ()) := by
  have hLI := LIM_def
  unfold slices_Sort_string_s
  rw [if_pos (by omega), sortS_eq hx hy h]
theorem valid_form {L : List It} (h : validB L = true) : FormP L := by
  unfold validB at h
  rw [Bool.and_eq_true] at h
  exact formB_iff.1 h.1
def rb (q : List Bool) (i : Nat) : Bool := q.getD i false
theorem rb_get {q : List Bool} {i : Nat} (h : i < q.length) : q[i]? = some (rb q i) := by
  unfold rb; rw [List.getD_eq_getElem?_getD, List.getElem?_eq_getElem h]; rfl
theorem rb_set (q : List Bool) (j i : Nat) : rb (q.set j true) i = true ↔ rb q i = true ∨ (i = j ∧ j < q.length) := by
  unfold rb
  rw [List.getD_eq_getElem?_getD, List.getD_eq_getElem?_getD, List.getElem?_set]
  by_cases e : j = i
  · subst e
    rw [if_pos rfl]
    by_cases h : j < q.length
    · rw [if_pos h]; simp [h]
    · rw [if_neg h, List.getElem?_eq_none (by omega)]; simp [h]
  · rw [if_neg e]
    simp [Ne.symm e]
def setsI (L : List It) (q : List Bool) (ns : List (List UInt8)) : List Bool := ns.foldl (fun q n => q.set (atI L n) true) q
def passI (L : List It) (a : Nat) (q : List Bool) (i : Nat) : List Bool := if (decide (i = a) || rb q i) = true then (match L[i]? with | some x => setsI L q x.2.1 | none => q) else q
def passL (L : List It) (a : Nat) (q : List Bool) : List Bool := (List.range L.length).foldl (passI L a) q
def reachN (L : List It) (a : Nat) : Nat → List Bool → List Bool
  | 0, q => q
  | n + 1, q => reachN L a n (passL L a q)
def reachI (L : List It) (a : Nat) : List Bool := reachN L a L.length (List.replicate L.length false)
theorem setsI_len (L : List It) : ∀ (ns : List (List UInt8)) (q : List Bool), (setsI L q ns).length = q.length
  | [], _ => rfl
  | n :: ns, q => by
    have := setsI_len L ns (q.set (atI L n) true)
    rw [List.length_set] at this
    exact this
theorem setsI_iff (L : List It) : ∀ (ns : List (List UInt8)) (q : List Bool) (i : Nat), rb (setsI L q ns) i = true ↔ rb q i = true ∨ ∃ n ∈ ns, i = atI L n ∧ i < q.length
  | [], q, i => by simp [setsI]
  | n :: ns, q, i => by
    have := setsI_iff L ns (q.set (atI L n) true) i
    rw [List.length_set, rb_set] at this
    show rb (setsI L (q.set (atI L n) true) ns) i = true ↔ _
    rw [this]
    constructor
    · rintro ((h | ⟨h1, h2⟩) | ⟨m, hm, h1, h2⟩)
      · exact .inl h
      · exact .inr ⟨n, by simp, h1, by omega⟩
      · exact .inr ⟨m, by simp [hm], h1, h2⟩
    · rintro (h | ⟨m, hm, h1, h2⟩)
      · exact .inl (.inl h)
      · rcases List.mem_cons.1 hm with rfl | hm
        · exact .inl (.inr ⟨h1, by omega⟩)
        · exact .inr ⟨m, hm, h1, h2⟩
theorem passI_len (L : List It) (a : Nat) (q : List Bool) (i : Nat) : (passI L a q i).length = q.length := by
  unfold passI
  split
  · split
    · exact setsI_len ..
    · rfl
  · rfl
theorem passI_mono (L : List It) (a : Nat) (q : List Bool) (i : Nat) {j : Nat} (h : rb q j = true) : rb (passI L a q i) j = true := by
  unfold passI
  split
  · split
    · exact (setsI_iff ..).2 (.inl h)
    · exact h
  · exact h
theorem passes_len (L : List It) (a : Nat) : ∀ (l : List Nat) (q : List Bool), (l.foldl (passI L a) q).length = q.length
  | [], _ => rfl
  | i :: l, q => (passes_len L a l _).trans (passI_len ..)
theorem passes_mono (L : List It) (a : Nat) : ∀ (l : List Nat) (q : List Bool) {j : Nat}, rb q j = true → rb (l.foldl (passI L a) q) j = true
  | [], _, _, h => h
  | i :: l, q, _, h => passes_mono L a l _ (passI_mono L a q i h)
theorem passes_has {L : List It} (f : FormP L) (a : Nat) : ∀ (l : List Nat) (q : List Bool), q.length = L.length → ∀ {i : Nat} (hi : i < L.length), i ∈ l → (i = a ∨ rb q i = true) → ∀ n ∈ (L[i]).2.1, rb (l.foldl (passI L a) q) (atI L n) = true
  | [], _, _, _, _, h, _, _, _ => by cases h
  | x :: l, q, hq, i, hi, h, hc, n, hn => by
    have hnn := f.known _ (List.getElem_mem hi) n hn
    rcases List.mem_cons.1 h with rfl | h
    · refine passes_mono L a l _ ?_
      unfold passI
      rw [if_pos (by rcases hc with hc | hc <;> simp [hc]), List.getElem?_eq_getElem hi]
      exact (setsI_iff ..).2 (.inr ⟨n, hn, rfl, by rw [hq]; exact atI_lt hnn⟩)
    · refine passes_has f a l (passI L a q x) ((passI_len ..).trans hq) hi h (hc.imp id fun hc => passI_mono L a q x hc) n hn
/-- Closed under needs, from one on. -/
def closedI (L : List It) (a : Nat) (S : Nat → Prop) : Prop := ∀ i (hi : i < L.length), (i = a ∨ S i) → ∀ n ∈ (L[i]).2.1, S (atI L n)
theorem passes_sound {L : List It} {a : Nat} {S : Nat → Prop} (hS : closedI L a S) : ∀ (l : List Nat) (q : List Bool), (∀ i, rb q i = true → S i) → ∀ i, rb (l.foldl (passI L a) q) i = true → S i
  | [], _, h => h
  | x :: l, q, h => passes_sound hS l (passI L a q x) fun i hi => by
    unfold passI at hi
    split at hi
    · rename_i hc
      split at hi
      · rename_i y hy
        obtain ⟨hx, rfl⟩ := List.getElem?_eq_some_iff.1 hy
        rcases (setsI_iff ..).1 hi with hi | ⟨n, hn, rfl, _⟩
        · exact h i hi
        · refine hS x hx ?_ n hn
          simp only [Bool.or_eq_true, decide_eq_true_eq] at hc
          exact hc.imp id (h x)
      · exact h i hi
    · exact h i hi
theorem le_cnt : ∀ (q r : List Bool), q.length = r.length → (∀ i, rb q i = true → rb r i = true) → q.count true ≤ r.count true ∧ (q = r ∨ q.count true < r.count true)
  | [], [], _, _ => ⟨Nat.le_refl _, .inl rfl⟩
  | [], _ :: _, h, _ => by cases h
  | _ :: _, [], h, _ => by cases h
  | b :: q, c :: r, h, hle => by
    have ih := le_cnt q r (by simpa using h) (fun i hi => hle (i + 1) hi)
    have h0 : b = true → c = true := fun hb => hle 0 hb
    cases b <;> cases c
    · simp only [List.count_cons, List.cons.injEq, true_and]; exact ih
    · simp only [List.count_cons]
      refine ⟨?_, .inr ?_⟩ <;> simp <;> omega
    · exact absurd (h0 rfl) (by simp)
    · simp only [List.count_cons, List.cons.injEq, true_and]
      exact ⟨by omega, ih.2.imp id fun h => by omega⟩
theorem reachN_fix {L : List It} {a : Nat} {q : List Bool} (h : passL L a q = q) : ∀ n, reachN L a n q = q
  | 0 => rfl
  | n + 1 => by unfold reachN; rw [h]; exact reachN_fix h n
theorem reachN_len (L : List It) (a : Nat) : ∀ n (q : List Bool), (reachN L a n q).length = q.length
  | 0, _ => rfl
  | n + 1, q => (reachN_len L a n _).trans (passes_len ..)
theorem reachN_sound {L : List It} {a : Nat} {S : Nat → Prop} (hS : closedI L a S) : ∀ n (q : List Bool), (∀ i, rb q i = true → S i) → ∀ i, rb (reachN L a n q) i = true → S i
  | 0, _, h => h
  | n + 1, q, h => reachN_sound hS n (passL L a q) (passes_sound hS _ q h)
theorem reachN_closed {L : List It} (f : FormP L) (a : Nat) : ∀ n (q : List Bool), q.length = L.length → L.length - q.count true ≤ n → closedI L a fun i => rb (reachN L a n q) i = true
  | 0, q, hq, hn => by
    intro i hi _ n hnn
    have hc : q.count true = q.length := by have := List.count_le_length (a := true) (l := q); omega
    have ha := atI_lt (f.known _ (List.getElem_mem hi) n hnn)
    have := List.count_eq_length.1 hc _ (List.getElem_mem (show atI L n < q.length by omega))
    show rb q (atI L n) = true
    have h2 := rb_get (q := q) (i := atI L n) (by omega)
    rw [List.getElem?_eq_getElem (by omega), ← this] at h2
    exact (Option.some.inj h2).symm
  | n + 1, q, hq, hn => by
    have hl : (passL L a q).length = L.length := (passes_len ..).trans hq
    rcases (le_cnt q (passL L a q) (by rw [hl, hq]) (fun i hi => passes_mono L a _ q hi)).2 with h | h
    · intro i hi hc m hm
      show rb (reachN L a n (passL L a q)) (atI L m) = true
      have hfix : reachN L a n (passL L a q) = q := by rw [← h]; exact reachN_fix h.symm n
      have hc' : i = a ∨ rb q i = true := hc.imp id fun hc => by
        have hc : rb (reachN L a n (passL L a q)) i = true := hc
        rwa [hfix] at hc
      rw [hfix]
      have := passes_has f a (List.range L.length) q hq hi (List.mem_range.2 hi) hc' m hm
      have h' : (List.range L.length).foldl (passI L a) q = q := h.symm
      rwa [h'] at this
    · exact reachN_closed f a n (passL L a q) hl (by omega)
theorem reachI_closed {L : List It} (f : FormP L) (a : Nat) : closedI L a fun i => rb (reachI L a) i = true := reachN_closed f a L.length _ (by simp) (by omega)
theorem reachI_least {L : List It} {a : Nat} {S : Nat → Prop} (hS : closedI L a S) {i : Nat} (h : rb (reachI L a) i = true) : S i := by
  refine reachN_sound hS L.length _ (fun i hi => ?_) i h
  unfold rb at hi
  rw [List.getD_eq_getElem?_getD, List.getElem?_replicate] at hi
  split at hi <;> cases hi
theorem reachI_len (L : List It) (a : Nat) : (reachI L a).length = L.length := (reachN_len ..).trans (by simp)
def needsOf (L : List It) (m : List UInt8) : List (List UInt8) := match L[atI L m]? with | some x => x.2.1 | none => []
theorem needsOf_eq {L : List It} {m : List UInt8} (h : m ∈ nmsI L) : needsOf L m = (L[atI L m]'(atI_lt h)).2.1 := by
  unfold needsOf; rw [List.getElem?_eq_getElem (atI_lt h)]
theorem needsOf_known {L : List It} (f : FormP L) {m n : List UInt8} (hm : m ∈ nmsI L) (hn : n ∈ needsOf L m) : n ∈ nmsI L := by
  rw [needsOf_eq hm] at hn
  exact f.known _ (List.getElem_mem _) n hn
def addN (all ns : List (List UInt8)) : List (List UInt8) := ns.foldl (fun all n => if all.contains n = true then all else all ++ [n]) all
def goodN (L : List It) (all : List (List UInt8)) : Prop := all.Nodup ∧ ∀ n ∈ all, n ∈ nmsI L
theorem goodN_len {L : List It} {all : List (List UInt8)} (h : goodN L all) : all.length ≤ L.length := by
  have := h.1.length_le_of_subset h.2
  rwa [show (nmsI L).length = L.length from List.length_map ..] at this
theorem goodN_add {L : List It} {all : List (List UInt8)} (h : goodN L all) {n : List UInt8} (hn : n ∈ nmsI L) : goodN L (if all.contains n = true then all else all ++ [n]) := by
  by_cases hc : all.contains n = true
  · rw [if_pos hc]; exact h
  · rw [if_neg hc]
    have hc' : n ∉ all := by simpa using hc
    refine ⟨?_, fun m hm => ?_⟩
    · rw [List.nodup_append]
      exact ⟨h.1, by simp, fun a ha b hb e => hc' (by rw [List.mem_singleton] at hb; subst hb; subst e; exact ha)⟩
    · rcases List.mem_append.1 hm with hm | hm
      · exact h.2 m hm
      · rw [List.mem_singleton.1 hm]; exact hn
theorem addN_good {L : List It} : ∀ (ns all : List (List UInt8)), goodN L all → (∀ n ∈ ns, n ∈ nmsI L) → goodN L (addN all ns)
  | [], _, h, _ => h
  | n :: ns, all, h, hn => addN_good ns _ (goodN_add h (hn n (by simp))) fun m hm => hn m (by simp [hm])
theorem addN_mem : ∀ (ns all : List (List UInt8)) (m : List UInt8), m ∈ addN all ns ↔ m ∈ all ∨ m ∈ ns
  | [], _, _ => by simp [addN]
  | n :: ns, all, m => by
    show m ∈ addN (if all.contains n = true then all else all ++ [n]) ns ↔ _
    rw [addN_mem ns]
    by_cases hc : all.contains n = true
    · rw [if_pos hc]
      have hc' : n ∈ all := by simpa using hc
      rw [List.mem_cons]
      constructor
      · rintro (h | h)
        · exact .inl h
        · exact .inr (.inr h)
      · rintro (h | rfl | h)
        · exact .inl h
        · exact .inl hc'
        · exact .inr h
    · rw [if_neg hc, List.mem_append, List.mem_singleton, List.mem_cons]
      constructor
      · rintro ((h | h) | h)
        · exact .inl h
        · exact .inr (.inl h)
        · exact .inr (.inr h)
      · rintro (h | h | h)
        · exact .inl (.inl h)
        · exact .inl (.inr h)
        · exact .inr h
theorem addN_pre : ∀ (ns all : List (List UInt8)), ∃ t, addN all ns = all ++ t
  | [], all => ⟨[], by simp [addN]⟩
  | n :: ns, all => by
    obtain ⟨t, ht⟩ := addN_pre ns (if all.contains n = true then all else all ++ [n])
    show ∃ t, addN (if all.contains n = true then all else all ++ [n]) ns = all ++ t
    rw [ht]
    by_cases hc : all.contains n = true
    · rw [if_pos hc]; exact ⟨t, rfl⟩
    · rw [if_neg hc]; exact ⟨[n] ++ t, by rw [List.append_assoc]⟩
def closedN (L : List It) (b : List UInt8) (S : List UInt8 → Prop) : Prop := ∀ m, m ∈ nmsI L → (m = b ∨ S m) → ∀ n ∈ needsOf L m, S n
theorem allNeeds_in {k : Nat} (hk : KK ≤ k) {L : List It} (f : FormP L) (b : List UInt8) (c : Int) {ns all : List (List UInt8)} (hns : ∀ n ∈ ns, n ∈ nmsI L) (hnl : ns.length ≤ 1000000) (hall : goodN L all) {E : List It → Int → List (List UInt8) → List (List UInt8) → Option (List (List UInt8))} :
    impl_allNeeds_l1 k k L c ns (ns.length : Int) 0 all (b :: all) E = E L c (addN all ns) (b :: addN all ns) := by
  have hK := KK_def
  have hLI := LIM_def
  have hL := f.len
  refine loop_list (α := List UInt8) (A := List (List UInt8)) (L := fun n j all => impl_allNeeds_l1 k n L c ns (ns.length : Int) j all (b :: all) E) (I := fun _ all => goodN L all) (G := fun post all => E L c (addN all post) (b :: addN all post)) ns ?_ ?_ k (by omega) all hall
  · intro n pre x post all hx hI ih hg hlt
    have hw := w_succ (i := pre.length) (by omega)
    have hxn : x ∈ nmsI L := hns x (by rw [hx]; simp)
    have hal := goodN_len hI
    have ih' := ih _ (goodN_add hI hxn)
    simp only [impl_allNeeds_l1, hlt, decide_true, if_true, Int.natCast_nonneg, Int.toNat_natCast, hg, Option.bind_some, contains_ok hk (show all.length ≤ 1000000000000 by omega), hw, List.length_cons, List.length_nil]
    show _ = E L c (addN (if all.contains x = true then all else all ++ [x]) post) (b :: addN (if all.contains x = true then all else all ++ [x]) post)
    rw [← ih']
    cases hc : all.contains x
    · rw [if_pos (by simp), if_pos (by omega), if_pos (by omega)]
      simp
    · rw [if_neg (by simp)]; simp
  · intro n all _
    simp only [impl_allNeeds_l1, Int.lt_irrefl, decide_false, Bool.false_eq_true, if_false]
    rfl
theorem allNeeds_loop {k : Nat} (hk : KK ≤ k) {L : List It} (f : FormP L) {b : List UInt8} (hb : b ∈ nmsI L) {E : List (List UInt8) → Option (List (List UInt8))} : ∀ (d n c : Nat) (all : List (List UInt8)), d < n → goodN L all → c ≤ all.length + 1 → L.length + 1 ≤ c + d →
    (∀ j, j < c → ∀ m, (b :: all)[j]? = some m → ∀ x ∈ needsOf L m, x ∈ all) → (∀ S, closedN L b S → ∀ m ∈ all, S m) →
    ∃ all', impl_allNeeds_l0 k n L (c : Int) all (b :: all) E = E all' ∧ goodN L all' ∧ closedN L b (fun m => m ∈ all') ∧ ∀ S, closedN L b S → ∀ m ∈ all', S m
  | d, 0, c, all, h, _, _, _, _, _ => by omega
  | d, n + 1, c, all, hd, hg, hc, hcd, hp, hS => by
    have hL := f.len
    have hal := goodN_len hg
    by_cases hlt : c < all.length + 1
    · obtain ⟨d, rfl⟩ : ∃ e, d = e + 1 := ⟨d - 1, by omega⟩
      have hw := w_succ (i := c) (by omega)
      have hq : c < (b :: all).length := by simpa using hlt
      have hq' : (c : Int) < ((b :: all).length : Int) := by omega
      have hgq : (b :: all)[c]? = some (b :: all)[c] := List.getElem?_eq_getElem hq
      generalize hmm : (b :: all)[c] = m at hgq
      have hmn : m ∈ nmsI L := by
        have := List.mem_of_getElem? hgq
        rcases List.mem_cons.1 this with h | h
        · rw [h]; exact hb
        · exact hg.2 m h
      have hkn : ∀ x ∈ needsOf L m, x ∈ nmsI L := fun x hx => needsOf_known f hmn hx
      have hnl : (needsOf L m).length ≤ 1000000 := by
        rw [needsOf_eq hmn]
        have := (strict_nodup (f.needs _ (List.getElem_mem (atI_lt hmn)))).length_le_of_subset (f.known _ (List.getElem_mem (atI_lt hmn)))
        rw [show (nmsI L).length = L.length from List.length_map ..] at this
        omega
      have hin : ∀ E : List It → Int → List (List UInt8) → List (List UInt8) → Option (List (List UInt8)), _ := fun E => allNeeds_in hk f b (c : Int) hkn hnl hg (E := E)
      obtain ⟨t, ht⟩ := addN_pre (needsOf L m) all
      have hag := addN_good (needsOf L m) all hg hkn
      obtain ⟨all', e1, e2, e3, e4⟩ := allNeeds_loop hk f hb (E := E) d n (c + 1) (addN all (needsOf L m)) (by omega) hag (by rw [ht, List.length_append]; omega) (by omega)
        (fun j hj m' hm' x hx => by
          by_cases hjc : j = c
          · subst hjc
            rw [ht, ← List.cons_append, List.getElem?_append_left hq, hgq] at hm'
            cases hm'
            exact (addN_mem ..).2 (.inr hx)
          · rw [ht, ← List.cons_append, List.getElem?_append_left (by omega)] at hm'
            exact (addN_mem ..).2 (.inl (hp j (by omega) m' hm' x hx)))
        (fun S hSc x hx => by
          rcases (addN_mem ..).1 hx with hx | hx
          · exact hS S hSc x hx
          · refine hSc m hmn ?_ x hx
            rcases List.mem_cons.1 (List.mem_of_getElem? hgq) with h | h
            · exact .inl h
            · exact .inr (hS S hSc m h))
      refine ⟨all', ?_, e2, e3, e4⟩
      rw [← e1]
      rw [needsOf_eq hmn] at hin ⊢
      simp only [impl_allNeeds_l0, hq, hq', decide_true, if_true, Int.natCast_nonneg, Int.toNat_natCast, and_self, hgq, Option.bind_some, itemNamed_ok hk f hmn, hin, hw]
    · have hq' : ¬ (c : Int) < ((b :: all).length : Int) := by simp only [List.length_cons]; omega
      refine ⟨all, ?_, hg, ?_, hS⟩
      · simp only [impl_allNeeds_l0, hq', decide_false, Bool.false_eq_true, if_false]
      · intro m _ hm x hx
        have : m ∈ b :: all := by
          rcases hm with h | h
          · rw [h]; simp
          · exact List.mem_cons.2 (.inr h)
        obtain ⟨j, hj⟩ := List.getElem?_of_mem this
        have hjl := (List.getElem?_eq_some_iff.1 hj).1
        simp only [List.length_cons] at hjl
        exact hp j (by omega) m hj x hx
def needsC (L : List It) (b : List UInt8) : List (List UInt8) := chosenI L fun i => (reachI L (atI L b)).getD i false
theorem allNeeds_ok {k : Nat} (hk : KK ≤ k) {L : List It} (f : FormP L) {b : List UInt8} (hb : b ∈ nmsI L) : impl_allNeeds k L b = some (needsC L b) := by
  have hK := KK_def
  have hL := f.len
  unfold impl_allNeeds
  obtain ⟨all, e1, e2, e3, e4⟩ := allNeeds_loop hk f hb (E := fun q_9 => (slices_Sort_string_s q_9).bind fun y_10 => some y_10.2.1.1) (L.length + 1) k 0 [] (by omega) ⟨List.nodup_nil, by simp⟩ (by omega) (by omega) (fun j hj => by omega) (fun S _ m hm => by cases hm)
  rw [show ((0 : Nat) : Int) = 0 from rfl] at e1
  rw [e1]
  have hal := goodN_len e2
  have hmem : ∀ a, a ∈ all ↔ a ∈ needsC L b := by
    intro a
    unfold needsC
    rw [chosen_mem f]
    constructor
    · refine fun ha => e4 (fun m => m ∈ nmsI L ∧ rb (reachI L (atI L b)) (atI L m) = true) ?_ a ha
      intro m hm hc n hn
      refine ⟨needsOf_known f hm hn, ?_⟩
      rw [needsOf_eq hm] at hn
      refine reachI_closed f (atI L b) (atI L m) (atI_lt hm) ?_ n hn
      rcases hc with rfl | hc
      · exact .inl rfl
      · exact .inr hc.2
    · rintro ⟨h1, h2⟩
      have := reachI_least (L := L) (a := atI L b) (S := fun i => nmI L i ∈ all) ?_ (i := atI L a) h2
      · rwa [nmI_at h1] at this
      · intro i hi hc n hn
        have hnn := f.known _ (List.getElem_mem hi) n hn
        show nmI L (atI L n) ∈ all
        rw [nmI_at hnn]
        refine e3 (nmI L i) (nmI_mem hi) ?_ n ?_
        · rcases hc with rfl | hc
          · exact .inl (nmI_at hb)
          · exact .inr hc
        · rw [needsOf_eq (nmI_mem hi)]
          have e := atI_nm f.strict hi
          simp only [e]
          exact hn
  rw [sort_ok e2.1 (chosen_strict f _) hmem (by omega)]
  rfl
def askI (L : List It) (b : List UInt8) : Int := if validB L = true then (if (nmsI L).contains b = true then 0 else 3) else 1
theorem l28Ask_ok {k : Nat} (hk : KK ≤ k) {L : List It} (hL : L.length ≤ 1048576) (hx : ∀ x ∈ L, smallI x) (b : List UInt8) : spec_l28Ask k L b = some (askI L b) := by
  unfold spec_l28Ask askI
  rw [l28Ok_ok hk hL hx]
  cases validB L
  · simp
  · simp only [Option.bind_some, Bool.not_true, Bool.false_eq_true, if_false, if_true, l28Find_ok hk hL, find_neg]
    cases (nmsI L).contains b <;> simp
theorem itemized_ok {k : Nat} (hk : KK ≤ k) {L : List It} (hL : L.length ≤ 1048576) (hx : ∀ x ∈ L, smallI x) (b : List UInt8) : impl_itemized k L b = some (askI L b) := by
  unfold impl_itemized askI
  rw [implValid_ok hk hL hx]
  cases h : validB L
  · simp
  · have f := valid_form h
    simp only [Option.bind_some, Bool.not_true, Bool.false_eq_true, if_false, if_true, itemAt_ok hk f]
    cases (nmsI L).contains b <;> simp
theorem askI_zero {L : List It} {b : List UInt8} (h : askI L b = 0) : FormP L ∧ b ∈ nmsI L := by
  unfold askI at h
  split at h
  · rename_i hv
    split at h
    · rename_i hc
      exact ⟨valid_form hv, by simpa using hc⟩
    · omega
  · omega
def usrB (L : List It) (a i : Nat) : Bool := rb (reachI L i) a
def usersL (L : List It) (a : Nat) : List Bool := (List.range L.length).map (usrB L a)
theorem usersL_len (L : List It) (a : Nat) : (usersL L a).length = L.length := by simp [usersL]
theorem usersL_get {L : List It} {a i : Nat} (h : i < L.length) : (usersL L a).getD i false = usrB L a i := by
  unfold usersL
  rw [List.getD_eq_getElem?_getD, List.getElem?_map, List.getElem?_range h]; rfl
def usersC (L : List It) (b : List UInt8) : List (List UInt8) := chosenI L fun i => (usersL L (atI L b)).getD i false
def usersP (L : List It) (b : List UInt8) : List (List UInt8) × Int := if askI L b = 0 then (usersC L b, 0) else ([], askI L b)
theorem implUsers_ok {k : Nat} (hk : KK ≤ k) {L : List It} (hL : L.length ≤ 1048576) (hx : ∀ x ∈ L, smallI x) (b : List UInt8) : impl_UsersOf k L b = some (usersP L b) := by
  have hK := KK_def
  have hLI := LIM_def
  unfold impl_UsersOf usersP
  rw [itemized_ok hk hL hx]
  by_cases h : askI L b = 0
  · obtain ⟨f, hb⟩ := askI_zero h
    have ha := atI_lt hb
    have hl := f.len
    simp only [Option.bind_some, h, decide_true, Bool.not_true, Bool.false_eq_true, if_false, if_true]
    have := loop_list (α := Nat) (L := fun n i r => impl_UsersOf_l0 k n L b L (L.length : Int) i r (fun q_6 => some (q_6, 0))) (I := fun pre r => r = (pre.filter fun i => (usersL L (atI L b)).getD i false).map (nmI L)) (G := fun _ _ => some (usersC L b, (0 : Int))) (List.range L.length) ?_ ?_ k (by rw [List.length_range]; omega) [] rfl
    · exact this
    · intro n pre x post r hxp hr ih hg hlt
      rw [List.length_range] at hlt
      have hlt' : pre.length < L.length := by omega
      have hxe : x = pre.length := by rw [List.getElem?_range hlt'] at hg; simpa using hg.symm
      have hw := w_succ (i := pre.length) (by omega)
      have hrl : r.length ≤ pre.length := by rw [hr, List.length_map]; exact List.length_filter_le ..
      have hLg : L[pre.length]? = some L[pre.length] := List.getElem?_eq_getElem hlt'
      have hnm := nmI_lt hlt'
      have hnn := nmI_mem hlt'
      have hself := atI_nm f.strict hlt'
      rw [hnm] at hnn hself
      have hc : (needsC L (L[pre.length]).1).contains b = (usersL L (atI L b)).getD pre.length false := by
        rw [usersL_get hlt', Bool.eq_iff_iff, List.contains_iff_mem]
        unfold needsC
        rw [chosen_mem f, hself]
        exact ⟨fun q => q.2, fun q => ⟨hb, q⟩⟩
      have hcl : (needsC L (L[pre.length]).1).length ≤ 1000000000000 := by
        unfold needsC chosenI
        rw [List.length_map]
        exact Nat.le_trans (List.length_filter_le ..) (by rw [List.length_range]; omega)
      simp only [impl_UsersOf_l0, hlt, decide_true, if_true, Int.natCast_nonneg, Int.toNat_natCast, hLg, Option.bind_some, hw, allNeeds_ok hk f hnn, contains_ok hk hcl, hc]
      subst hxe
      cases hbb : (usersL L (atI L b)).getD pre.length false
      · rw [if_neg (by simp)]
        exact ih _ (by rw [hr, List.filter_append]; simp only [List.filter_cons, hbb]; simp)
      · rw [if_pos rfl, if_pos (by simp only [List.length_singleton]; omega)]
        exact ih _ (by rw [hr, List.filter_append]; simp only [List.filter_cons, hbb]; simp [hnm])
    · intro n r hr
      subst hr
      simp only [impl_UsersOf_l0, List.length_range, Int.lt_irrefl, decide_false, Bool.false_eq_true, if_false]
      rfl
  · simp [h]
theorem nextF_pos {p : Nat → It → Bool} : ∀ (l : List It) (i j : Nat) (x : It), l[j]? = some x → p (i + j) x = true → 0 ≤ nextF p l i
  | [], i, j, x, h, _ => by simp at h
  | y :: r, i, 0, x, h, hp => by
    have : y = x := by simpa using h
    subst this
    unfold nextF
    rw [if_pos (by simpa using hp)]
    omega
  | y :: r, i, j + 1, x, h, hp => by
    unfold nextF
    split
    · omega
    · exact nextF_pos r (i + 1) j x (by simpa using h) (by rw [show i + 1 + j = i + (j + 1) by omega]; exact hp)
/-- In an order, all that an item needs stands before it. -/
def downO (L : List It) (out : List Nat) : Prop := ∀ i (hi : i < L.length), i ∈ out → ∀ n ∈ (L[i]).2.1, out.idxOf (atI L n) < out.idxOf i
theorem ordI_down {L : List It} : ∀ (d : Nat) (out : List Nat), goodO L out → downO L out → downO L (ordI L d out)
  | 0, out, _, h => h
  | d + 1, out, hg, h => by
    unfold ordI
    rcases next_good hg with h1 | ⟨r, h1, hr, hn, hg'⟩
    · rw [if_pos h1]; exact h
    · rw [h1, if_neg (by omega), Int.toNat_natCast]
      refine ordI_down d _ hg' fun i hi hm n hnn => ?_
      rcases List.mem_append.1 hm with hm | hm
      · have := h i hi hm n hnn
        have hm2 : atI L n ∈ out := by
          have := Nat.lt_of_lt_of_le this List.idxOf_le_length
          exact List.idxOf_lt_length_iff.1 this
        rw [List.idxOf_append, List.idxOf_append, if_pos hm, if_pos hm2]
        exact this
      · rw [List.mem_singleton] at hm
        subst hm
        rcases nextF_spec (p := readyI L out) L 0 with q | ⟨j, x, q1, q2, q3⟩
        · omega
        · have hj : j = i := by omega
          subst hj
          rw [Nat.zero_add] at q3
          have hx := (List.getElem?_eq_some_iff.1 q1).2
          rw [← hx] at q3
          unfold readyI at q3
          simp only [Bool.and_eq_true, List.all_eq_true, List.contains_iff_mem] at q3
          have hm2 : atI L n ∈ out := q3.2 n hnn
          rw [List.idxOf_append, List.idxOf_append, if_pos hm2, if_neg hn]
          have := List.idxOf_lt_length_iff.2 hm2
          omega
theorem orderI_down (L : List It) : downO L (orderI L) := ordI_down L.length [] ⟨List.nodup_nil, by simp⟩ (fun i _ h => by cases h)
theorem mem_of_full {n : Nat} {out : List Nat} (h1 : out.Nodup) (h2 : ∀ i ∈ out, i < n) (h3 : n ≤ out.length) {i : Nat} (hi : i < n) : i ∈ out := by
  apply Classical.byContradiction
  intro hn
  have hd : (i :: out).Nodup := List.nodup_cons.2 ⟨hn, h1⟩
  have := hd.length_le_of_subset (l₂ := List.range n) (fun j hj => by
    rcases List.mem_cons.1 hj with rfl | hj
    · exact List.mem_range.2 hi
    · exact List.mem_range.2 (h2 j hj))
  rw [List.length_cons, List.length_range] at this
  omega
theorem valid_rank {L : List It} (h : validB L = true) : ∃ rk : Nat → Nat, ∀ i (hi : i < L.length), ∀ n ∈ (L[i]).2.1, rk (atI L n) < rk i := by
  unfold validB at h
  rw [Bool.and_eq_true, decide_eq_true_eq] at h
  have hg := (orderI_good L).1
  exact ⟨fun i => (orderI L).idxOf i, fun i hi n hn => orderI_down L i hi (mem_of_full hg.1 hg.2 (by omega) hi) n hn⟩
theorem ready_of {M : List It} (f : FormP M) (rk : Nat → Nat) (hr : ∀ i (hi : i < M.length), ∀ n ∈ (M[i]).2.1, rk (atI M n) < rk i) {out : List Nat} : ∀ (v i : Nat), i < M.length → i ∉ out → rk i ≤ v → ∃ j x, M[j]? = some x ∧ readyI M out j x = true
  | v, i, hi, hn, hv => by
    by_cases c : readyI M out i M[i] = true
    · exact ⟨i, _, List.getElem?_eq_getElem hi, c⟩
    · unfold readyI at c
      have hc : out.contains i = false := by simpa using hn
      rw [hc] at c
      simp only [Bool.not_false, Bool.true_and, List.all_eq_true, List.contains_iff_mem] at c
      have : ∃ n ∈ (M[i]).2.1, atI M n ∉ out := by
        apply Classical.byContradiction
        intro q
        exact c fun n hnn => Classical.byContradiction fun q2 => q ⟨n, hnn, q2⟩
      obtain ⟨n, hnn, hno⟩ := this
      have h1 := hr i hi n hnn
      have h2 := atI_lt (f.known _ (List.getElem_mem hi) n hnn)
      match v with
      | 0 => omega
      | v + 1 => exact ready_of f rk hr v (atI M n) h2 hno (by omega)
theorem ordI_full {M : List It} (f : FormP M) (rk : Nat → Nat) (hr : ∀ i (hi : i < M.length), ∀ n ∈ (M[i]).2.1, rk (atI M n) < rk i) : ∀ (d : Nat) (out : List Nat), goodO M out → out.length + d = M.length → (ordI M d out).length = M.length
  | 0, out, _, h => h
  | d + 1, out, hg, h => by
    unfold ordI
    have hex : ∃ i, i < M.length ∧ i ∉ out := by
      apply Classical.byContradiction
      intro q
      have : (List.range M.length).Subset out := fun i hi => Classical.byContradiction fun q2 => q ⟨i, List.mem_range.1 hi, q2⟩
      have := List.nodup_range.length_le_of_subset this
      rw [List.length_range] at this
      omega
    obtain ⟨i, hi, hn⟩ := hex
    obtain ⟨j, x, hj, hx⟩ := ready_of f rk hr (rk i) i hi hn (Nat.le_refl _)
    have h0 : 0 ≤ nextF (readyI M out) M 0 := nextF_pos M 0 j x hj (by rw [Nat.zero_add]; exact hx)
    rcases next_good hg with h1 | ⟨r, h1, hr1, hn1, hg'⟩
    · omega
    · rw [h1, if_neg (by omega), Int.toNat_natCast]
      exact ordI_full f rk hr d _ hg' (by rw [List.length_append, List.length_singleton]; omega)
theorem valid_of_rank {M : List It} (f : FormP M) (rk : Nat → Nat) (hr : ∀ i (hi : i < M.length), ∀ n ∈ (M[i]).2.1, rk (atI M n) < rk i) : validB M = true := by
  unfold validB orderI
  rw [formB_iff.2 f, ordI_full f rk hr M.length [] ⟨List.nodup_nil, by simp⟩ (by simp)]
  simp
/-- Without one item. -/
def restI (L : List It) (b : List UInt8) : List It := L.filter fun x => decide (x.1 ≠ b)
theorem rest_mem {L : List It} {b : List UInt8} {x : It} : x ∈ restI L b ↔ x ∈ L ∧ x.1 ≠ b := by
  unfold restI
  rw [List.mem_filter, decide_eq_true_eq]
theorem rest_names {L : List It} {b n : List UInt8} : n ∈ nmsI (restI L b) ↔ n ∈ nmsI L ∧ n ≠ b := by
  unfold nmsI
  rw [List.mem_map, List.mem_map]
  constructor
  · rintro ⟨x, hx, rfl⟩
    have := rest_mem.1 hx
    exact ⟨⟨x, this.1, rfl⟩, this.2⟩
  · rintro ⟨⟨x, hx, rfl⟩, h⟩
    exact ⟨x, rest_mem.2 ⟨hx, h⟩, rfl⟩
theorem rest_form {L : List It} (f : FormP L) {b : List UInt8} (h : ∀ x ∈ L, x.1 ≠ b → b ∉ x.2.1) : FormP (restI L b) where
  names := fun y hy => f.names y (rest_names.1 hy).1
  strict := by
    have e : nmsI (restI L b) = (nmsI L).filter fun n => decide (n ≠ b) := by
      unfold nmsI restI
      rw [List.filter_map]; rfl
    rw [e]
    exact List.Pairwise.filter _ f.strict
  made := fun x hx => f.made x (rest_mem.1 hx).1
  cost := fun x hx => f.cost x (rest_mem.1 hx).1
  known := fun x hx n hn => rest_names.2 ⟨f.known x (rest_mem.1 hx).1 n hn, fun e => h x (rest_mem.1 hx).1 (rest_mem.1 hx).2 (e ▸ hn)⟩
  needs := fun x hx => f.needs x (rest_mem.1 hx).1
  len := Nat.le_trans (List.length_filter_le ..) f.len
theorem at_mem {L : List It} (f : FormP L) {x : It} (hx : x ∈ L) : ∃ h : atI L x.1 < L.length, L[atI L x.1] = x := by
  obtain ⟨i, hi, rfl⟩ := List.getElem_of_mem hx
  have h := atI_nm f.strict hi
  rw [nmI_lt hi] at h
  exact ⟨by omega, by simp only [h]⟩
theorem rest_valid {L : List It} (hv : validB L = true) {b : List UInt8} (hb : b ∈ nmsI L) : validB (restI L b) = true ↔ usersC L b = [] := by
  have f := valid_form hv
  obtain ⟨rk, hr⟩ := valid_rank hv
  have ha := atI_lt hb
  have hU : usersC L b = [] ↔ ∀ i, i < L.length → usrB L (atI L b) i = false := by
    unfold usersC chosenI
    rw [List.map_eq_nil_iff, List.filter_eq_nil_iff]
    constructor
    · intro h i hi
      have := h i (List.mem_range.2 hi)
      rw [usersL_get hi] at this
      simpa using this
    · intro h i hi
      rw [usersL_get (List.mem_range.1 hi), h i (List.mem_range.1 hi)]
      simp
  rw [hU]
  constructor
  · intro hM i hi
    have fM := valid_form hM
    have key : closedI L i fun j => j ≠ atI L b := by
      intro j hj _ n hn
      show atI L n ≠ atI L b
      have hnn := f.known _ (List.getElem_mem hj) n hn
      intro e
      have e2 : n = b := by rw [← nmI_at hnn, e, nmI_at hb]
      subst e2
      by_cases hjb : (L[j]).1 = n
      · have := hr j hj n hn
        have e3 := atI_nm f.strict hj
        rw [nmI_lt hj, hjb] at e3
        rw [e3] at this
        omega
      · have := fM.known L[j] (rest_mem.2 ⟨List.getElem_mem hj, hjb⟩) n hn
        exact (rest_names.1 this).2 rfl
    unfold usrB
    cases hc : rb (reachI L i) (atI L b) with
    | false => rfl
    | true =>
      have := reachN_sound key L.length (List.replicate L.length false) (fun j hj => by
        have : rb (List.replicate L.length false) j = false := by unfold rb; rw [List.getD_eq_getElem?_getD, List.getElem?_replicate]; split <;> rfl
        rw [this] at hj; cases hj) (atI L b) hc
      exact absurd rfl this
  · intro h
    have hno : ∀ x ∈ L, b ∉ x.2.1 := by
      intro x hx hn
      obtain ⟨h1, h2⟩ := at_mem f hx
      have := reachI_closed f (atI L x.1) (atI L x.1) h1 (.inl rfl) b (by rw [h2]; exact hn)
      have h3 := h _ h1
      unfold usrB at h3
      have this : rb (reachI L (atI L x.1)) (atI L b) = true := this
      rw [h3] at this; cases this
    have fM := rest_form f (b := b) fun x hx _ => hno x hx
    refine valid_of_rank fM (fun i => rk (atI L (nmI (restI L b) i))) fun i hi n hn => ?_
    have hx := List.getElem_mem hi
    obtain ⟨h1, h2⟩ := at_mem f (rest_mem.1 hx).1
    have hnn := fM.known _ hx n hn
    show rk (atI L (nmI (restI L b) (atI (restI L b) n))) < rk (atI L (nmI (restI L b) i))
    rw [nmI_at hnn, nmI_lt hi]
    exact hr _ h1 n (by rw [h2]; exact hn)
def mdI (L : List It) (i : Nat) : Int := match L[i]? with | some x => x.2.2.1 | none => 0
theorem mdI_lt {L : List It} {i : Nat} (h : i < L.length) : mdI L i = (L[i]).2.2.1 := by unfold mdI; rw [List.getElem?_eq_getElem h]
def needStale (L : List It) (st : List Nat) (x : It) (n : List UInt8) : Bool := st.contains (atI L n) || decide (x.2.2.1 < mdI L (atI L n))
def staleB (L : List It) (st : List Nat) (x : It) : Bool := decide (x.2.2.1 = 0) || x.2.1.any (needStale L st x)
def staleN (L : List It) (st : List Nat) (i : Nat) : List Nat := if (match L[i]? with | some x => staleB L st x | none => false) = true then st ++ [i] else st
def staleF (L : List It) : List Nat → List Nat → List Nat
  | [], st => st
  | i :: r, st => staleF L r (staleN L st i)
def staleI (L : List It) : List Nat := staleF L (orderI L) []
/-- What is stale so far: numbers met, each once. -/
def stOk (L : List It) (pre st : List Nat) : Prop := goodO L st ∧ (∀ i ∈ st, i ∈ pre) ∧ st.length ≤ pre.length
theorem staleN_ok {L : List It} {pre st : List Nat} {i : Nat} (h : stOk L pre st) (hi : i < L.length) (hp : i ∉ pre) : stOk L (pre ++ [i]) (staleN L st i) := by
  obtain ⟨⟨h1, h2⟩, h3, h4⟩ := h
  unfold staleN
  generalize (match L[i]? with | some x => staleB L st x | none => false) = b
  cases b
  · rw [if_neg (by simp)]
    exact ⟨⟨h1, h2⟩, fun j hj => List.mem_append_left _ (h3 j hj), by simp; omega⟩
  · rw [if_pos rfl]
    refine ⟨⟨?_, fun j hj => ?_⟩, fun j hj => ?_, by simp; omega⟩
    · rw [List.nodup_append]
      exact ⟨h1, by simp, fun a ha b hb e => hp (by rw [List.mem_singleton] at hb; subst hb; subst e; exact h3 _ ha)⟩
    · rcases List.mem_append.1 hj with hj | hj
      · exact h2 j hj
      · rw [List.mem_singleton.1 hj]; exact hi
    · rcases List.mem_append.1 hj with hj | hj
      · exact List.mem_append_left _ (h3 j hj)
      · exact List.mem_append_right _ hj
theorem staleF_ok {L : List It} : ∀ (post pre st : List Nat), stOk L pre st → (pre ++ post).Nodup → (∀ i ∈ post, i < L.length) → stOk L (pre ++ post) (staleF L post st)
  | [], pre, st, h, _, _ => by rw [List.append_nil]; exact h
  | i :: post, pre, st, h, hn, hl => by
    have hp : i ∉ pre := fun hp => by
      rw [List.nodup_append] at hn
      exact hn.2.2 i hp i (by simp) rfl
    have := staleF_ok post (pre ++ [i]) (staleN L st i) (staleN_ok h (hl i (by simp)) hp) (by simpa using hn) (fun j hj => hl j (by simp [hj]))
    rw [List.append_assoc] at this
    exact this
theorem staleI_ok (L : List It) : stOk L (orderI L) (staleI L) := by
  have h := orderI_good L
  have := staleF_ok (L := L) (orderI L) [] [] ⟨⟨List.nodup_nil, by simp⟩, by simp, by simp⟩ (by simpa using h.1.1) h.1.2
  simpa [staleI] using this
theorem doneL_same {L : List It} {st : List Nat} {a : Nat} (h : a ∉ st) : (doneL L st).set a false = doneL L st := by
  refine List.ext_getElem? fun i => ?_
  by_cases hi : i < L.length
  · rw [doneL_get hi, List.getElem?_set]
    by_cases e : a = i
    · subst e
      rw [if_pos rfl, if_pos (by rw [doneL_len]; exact hi)]
      have : st.contains a = false := by simpa using h
      rw [this]
    · rw [if_neg e, doneL_get hi]
  · rw [List.getElem?_eq_none (by rw [List.length_set, doneL_len]; omega), List.getElem?_eq_none (by rw [doneL_len]; omega)]
theorem doneL_set {L : List It} {st : List Nat} {a : Nat} (ha : a < L.length) (h : a ∉ st) : (doneL L st).set a (staleB L st L[a]) = doneL L (staleN L st a) := by
  unfold staleN
  rw [List.getElem?_eq_getElem ha]
  simp only []
  by_cases hb : staleB L st L[a] = true
  · rw [if_pos hb, hb]; exact doneL_add ha
  · rw [if_neg hb, Bool.eq_false_iff.2 hb]; exact doneL_same h
/-- Numbers, each once, and their names. -/
theorem nm_nodup {L : List It} (f : FormP L) {st : List Nat} (h : goodO L st) : (st.map (nmI L)).Nodup := by
  unfold List.Nodup
  rw [List.pairwise_map]
  refine (List.Pairwise.and_mem.1 h.1).imp fun {a b} hab e => hab.2.2 ?_
  rw [← atI_nm f.strict (h.2 a hab.1), ← atI_nm f.strict (h.2 b hab.2.1), e]
theorem chosen_len (L : List It) (c : Nat → Bool) : (chosenI L c).length ≤ L.length := by
  unfold chosenI
  rw [List.length_map]
  exact Nat.le_trans (List.length_filter_le ..) (by rw [List.length_range]; exact Nat.le_refl _)
theorem staleF_filter {L : List It} : ∀ (post pre st : List Nat), stOk L pre st → (pre ++ post).Nodup → (∀ i ∈ post, i < L.length) → staleF L post st = st ++ post.filter fun i => (staleF L post st).contains i
  | [], pre, st, _, _, _ => by simp [staleF]
  | i :: post, pre, st, h, hn, hl => by
    have hn' := hn
    rw [List.nodup_append] at hn'
    have hp : i ∉ pre := fun hp => hn'.2.2 i hp i (by simp) rfl
    have hip : i ∉ post := (List.nodup_cons.1 hn'.2.1).1
    have hil := hl i (by simp)
    have hst := staleN_ok h hil hp
    have hn2 : ((pre ++ [i]) ++ post).Nodup := by simpa using hn
    have ih := staleF_filter post (pre ++ [i]) (staleN L st i) hst hn2 (fun j hj => hl j (by simp [hj]))
    have hok := staleF_ok post (pre ++ [i]) (staleN L st i) hst hn2 (fun j hj => hl j (by simp [hj]))
    show staleF L post (staleN L st i) = st ++ (i :: post).filter fun j => (staleF L post (staleN L st i)).contains j
    generalize hF : staleF L post (staleN L st i) = F at ih hok
    unfold staleN at ih hF
    generalize (match L[i]? with | some x => staleB L st x | none => false) = b at ih hF
    cases b
    · simp only [Bool.false_eq_true, if_false] at ih
      have : F.contains i = false := by
        rw [Bool.eq_false_iff]
        intro hc
        have hm : i ∈ F := List.contains_iff_mem.1 hc
        rw [ih] at hm
        rcases List.mem_append.1 hm with q | q
        · exact hp (h.2.1 i q)
        · exact hip (List.mem_filter.1 q).1
      rw [List.filter_cons, this]
      exact ih
    · simp only [if_true] at ih
      have : F.contains i = true := by
        rw [ih]; simp
      rw [List.filter_cons, this, if_pos rfl]
      rw [List.append_assoc] at ih
      exact ih
theorem staleI_filter (L : List It) : staleI L = (orderI L).filter fun i => (staleI L).contains i := by
  have h := orderI_good L
  have := staleF_filter (L := L) (orderI L) [] [] ⟨⟨List.nodup_nil, by simp⟩, by simp, by simp⟩ (by simpa using h.1.1) h.1.2
  rw [List.nil_append] at this
  exact this
def wantB (L : List It) (a i : Nat) : Bool := ((reachI L a).set a true).getD i false
def planI (L : List It) (a : Nat) : List Nat := (orderI L).filter fun i => wantB L a i && (doneL L (staleI L)).getD i false
theorem planI_stale {L : List It} (a : Nat) : planI L a = (staleI L).filter (wantB L a) := by
  conv => rhs; rw [staleI_filter]
  rw [List.filter_filter]
  unfold planI
  refine List.filter_congr fun i hi => ?_
  have hl := (orderI_good L).1.2 i hi
  rw [List.getD_eq_getElem?_getD (l := doneL L (staleI L)), doneL_get hl]
  rfl
theorem wantB_iff {L : List It} {a i : Nat} (ha : a < L.length) : wantB L a i = true ↔ i = a ∨ rb (reachI L a) i = true := by
  have := rb_set (reachI L a) a i
  rw [reachI_len] at this
  show rb ((reachI L a).set a true) i = true ↔ _
  rw [this]
  constructor
  · rintro (h | h)
    · exact .inr h
    · exact .inl h.1
  · rintro (h | h)
    · exact .inr ⟨h, ha⟩
    · exact .inl h
/-- What is needed, by names. -/
theorem want_names {L : List It} (f : FormP L) {b : List UInt8} (hb : b ∈ nmsI L) {i : Nat} (hi : i < L.length) : (needsC L b ++ [b]).contains (nmI L i) = wantB L (atI L b) i := by
  rw [Bool.eq_iff_iff, List.contains_iff_mem, wantB_iff (atI_lt hb), List.mem_append, List.mem_singleton]
  unfold needsC
  rw [chosen_mem f, atI_nm f.strict hi]
  constructor
  · rintro (h | h)
    · exact .inr h.2
    · left; rw [← h, atI_nm f.strict hi]
  · rintro (h | h)
    · right; rw [h, nmI_at hb]
    · exact .inl ⟨nmI_mem hi, h⟩
theorem planI_good {L : List It} (a : Nat) : goodO L (planI L a) ∧ (planI L a).length ≤ L.length := by
  obtain ⟨⟨h1, h2⟩, h3⟩ := orderI_good L
  unfold planI
  exact ⟨⟨h1.sublist List.filter_sublist, fun i hi => h2 i ((List.mem_filter.1 hi).1)⟩, Nat.le_trans (List.length_filter_le ..) h3⟩
def costI (L : List It) (i : Nat) : Int := match L[i]? with | some x => x.2.2.2 | none => 0
def costSum (L : List It) (p : List Nat) : Int := (p.map (costI L)).sum
def makeP (L : List It) (b : List UInt8) : List (List UInt8) × Int × Int := if askI L b = 0 then ((planI L (atI L b)).map (nmI L), costSum L (planI L (atI L b)), 0) else ([], 0, askI L b)
theorem overL_takeS {α : Type} {q : List α} {i : Nat} {ys : List α} (h : i ≤ q.length) : (overL q i ys).take i = q.take i := by
  unfold overL
  rw [List.append_assoc, List.take_left' (by rw [List.length_take]; omega)]
theorem overL_lengthS {α : Type} {q : List α} {i : Nat} {z : α} (h : i ≤ q.length) : (overL q i (List.replicate (q.length - i) z)).length = q.length := by
  unfold overL; simp; omega
theorem costSum_add (L : List It) (p : List Nat) (i : Nat) : costSum L (p ++ [i]) = costSum L p + costI L i := by
  unfold costSum; simp
theorem cost_ok {L : List It} (f : FormP L) {i : Nat} (h : i < L.length) : costI L i = (L[i]).2.2.2 ∧ 0 ≤ (L[i]).2.2.2 ∧ (L[i]).2.2.2 ≤ 1000 := by
  have := f.cost _ (List.getElem_mem h)
  exact ⟨by unfold costI; rw [List.getElem?_eq_getElem h], this.1, this.2⟩
theorem cloneS_ok {a : List (List UInt8)} (ha : a.length ≤ 1048576) : slices_Clone_string a = some a := by
  have hL := LIM_def
  unfold slices_Clone_string
  have h : (([] : List Unit).length + a.length) * 16 ≤ LIM := by simp only [List.length_nil]; omega
  rw [if_pos h]
  cases a with
  | nil => simp [both]
  | cons x l => simp
theorem copyItems_ok {k : Nat} (hk : KK ≤ k) {L : List It} (hL : L.length ≤ 1048576) (hx : ∀ x ∈ L, smallI x) : impl_copyItems k L = some L := by
  have hK := KK_def
  have hLI := LIM_def
  unfold impl_copyItems
  refine loop_list (A := List It) (L := fun n i q => impl_copyItems_l0 k n L (L.length : Int) i q (fun q_4 => some q_4)) (I := fun pre q => q = pre) (G := fun _ _ => some L) L ?_ ?_ k (by omega) [] rfl
  · intro n pre x post q hxp hq ih hg hlt
    have hw := w_succ (i := pre.length) (by omega)
    have hm : x ∈ L := by rw [hxp]; simp
    have hlim : (q.length + 1) * 56 ≤ LIM := by rw [hq]; omega
    simp only [impl_copyItems_l0, hlt, decide_true, if_true, Int.natCast_nonneg, Int.toNat_natCast, hg, Option.bind_some, cloneS_ok (hx x hm).2.1, List.length_singleton, hlim, hw]
    exact ih _ (by rw [hq])
  · intro n q hq
    subst hq
    simp only [impl_copyItems_l0, Int.lt_irrefl, decide_false, Bool.false_eq_true, if_false]
def lateI (L : List It) (s : Int) : Bool := L.any fun x => decide (s ≤ x.2.2.1)
/-- One item's time set. -/
def timeI (L : List It) (i : Nat) (t : Int) : List It := match L[i]? with | some x => L.set i (x.1, x.2.1, t, x.2.2.2) | none => L
def runsI (L : List It) : Int → List Nat → List It
  | _, [] => L
  | t, i :: p => runsI (timeI L i t) (t + 1) p
theorem timeI_lt {L : List It} {i : Nat} (h : i < L.length) (t : Int) : timeI L i t = L.set i ((L[i]).1, (L[i]).2.1, t, (L[i]).2.2.2) := by
  unfold timeI; rw [List.getElem?_eq_getElem h]
theorem timeI_names (L : List It) (i : Nat) (t : Int) : nmsI (timeI L i t) = nmsI L := by
  unfold timeI
  cases h : L[i]? with
  | none => rfl
  | some x =>
    obtain ⟨h, rfl⟩ := List.getElem?_eq_some_iff.1 h
    unfold nmsI
    refine List.ext_getElem (by simp) fun j h1 h2 => ?_
    rw [List.getElem_map, List.getElem_map, List.getElem_set]
    split
    · next e => subst e; rfl
    · rfl
theorem timeI_len (L : List It) (i : Nat) (t : Int) : (timeI L i t).length = L.length := by
  have := congrArg List.length (timeI_names L i t)
  simpa [nmsI] using this
theorem runsI_len : ∀ (p : List Nat) (L : List It) (t : Int), (runsI L t p).length = L.length
  | [], L, t => rfl
  | i :: p, L, t => by show (runsI (timeI L i t) (t + 1) p).length = _; rw [runsI_len p, timeI_len]
theorem timeI_mem {L : List It} {i : Nat} {t : Int} {y : It} (h : y ∈ timeI L i t) : ∃ x ∈ L, y.1 = x.1 ∧ y.2.1 = x.2.1 := by
  unfold timeI at h
  cases hx : L[i]? with
  | none => rw [hx] at h; exact ⟨y, h, rfl, rfl⟩
  | some x =>
    rw [hx] at h
    simp only at h
    rcases List.mem_or_eq_of_mem_set h with h | h
    · exact ⟨y, h, rfl, rfl⟩
    · exact ⟨x, List.mem_of_getElem? hx, by rw [h], by rw [h]⟩
theorem runsI_mem : ∀ (p : List Nat) {L : List It} {t : Int} {y : It}, y ∈ runsI L t p → ∃ x ∈ L, y.1 = x.1 ∧ y.2.1 = x.2.1
  | [], L, t, y, h => ⟨y, h, rfl, rfl⟩
  | i :: p, L, t, y, h => by
    obtain ⟨x, hx, e1, e2⟩ := runsI_mem p h
    obtain ⟨z, hz, e3, e4⟩ := timeI_mem hx
    exact ⟨z, hz, e1.trans e3, e2.trans e4⟩
theorem runsI_small {L : List It} (hx : ∀ x ∈ L, smallI x) (t : Int) (p : List Nat) : ∀ y ∈ runsI L t p, smallI y := fun y hy => by
  obtain ⟨x, hx', e1, e2⟩ := runsI_mem p hy
  have := hx x hx'
  unfold smallI at *
  rw [e1, e2]; exact this
/-- Where an item stands hangs on the names alone. -/
theorem lowI_names {L M : List It} (h : nmsI L = nmsI M) (n : List UInt8) : lowI_ L n = lowI_ M n := by
  have e : ∀ L : List It, lowI_ L n = (nmsI L).findIdx (fun y => !Op.bytesLess y n) := fun L => by
    unfold lowI_ nmsI
    rw [List.findIdx_map]; rfl
  rw [e, e, h]
theorem itemAt_names {k : Nat} (hk : KK ≤ k) {L : List It} (f : FormP L) {M : List It} (h : nmsI M = nmsI L) {i : Nat} (hi : i < L.length) : impl_itemAt k M (nmI L i) = some ((i : Int), true) := by
  have hK := KK_def
  have hl : M.length = L.length := by have := congrArg List.length h; simpa [nmsI] using this
  have hs : strictP (nmsI M) := by rw [h]; exact f.strict
  have hL := f.len
  have hlow : lowI_ M (nmI L i) = i := by rw [lowI_names h, lowI_at f.strict (nmI_mem hi), atI_nm f.strict hi]
  unfold impl_itemAt slices_BinarySearchFunc_string__impl_itemAt_1
  have h0 : ∀ e : List It → List UInt8 → Unit → Int → Int → Option (Int × Bool), slices_BinarySearchFunc_string__impl_itemAt_1_l0 k k M (nmI L i) () (M.length : Int) 0 (M.length : Int) e = e M (nmI L i) () (M.length : Int) ((lowI_ M (nmI L i) : Nat) : Int) :=
    fun e => itemAt_loop hk (by omega) hs (nmI L i) M.length 0 M.length k (by omega) (by omega) (by omega) (lowI_le _ _) (by omega)
  rw [h0, hlow]
  have h' : (i : Int) < (M.length : Int) := by omega
  have hiM : i < M.length := by omega
  have hn : (M[i]).1 = nmI L i := by
    have e : (nmsI M)[i]? = (nmsI L)[i]? := by rw [h]
    unfold nmsI at e
    rw [List.getElem?_map, List.getElem?_map, List.getElem?_eq_getElem hiM, List.getElem?_eq_getElem hi] at e
    rw [nmI_lt hi]
    simpa using e
  simp only [h', decide_true, if_true, Int.natCast_nonneg, Int.toNat_natCast, List.getElem?_eq_getElem hiM, Option.bind_some, impl_itemAt_1, cmpString_ok, cmpS_zero, hn]
def runP (L : List It) (b : List UInt8) (s : Int) : List It × Int :=
  if validB L = true then (if 1 ≤ s ∧ s ≤ 999984 then (if askI L b = 0 then (if lateI L s = true then ([], 6) else (runsI L s (planI L (atI L b)), 0)) else ([], askI L b)) else ([], 2)) else ([], 1)
theorem runsI_append : ∀ (p : List Nat) (L : List It) (s : Int) (x : Nat), runsI L s (p ++ [x]) = timeI (runsI L s p) x (s + (p.length : Int))
  | [], L, s, x => by simp [runsI]
  | i :: p, L, s, x => by
    show runsI (timeI L i s) (s + 1) (p ++ [x]) = timeI (runsI (timeI L i s) (s + 1) p) x _
    rw [runsI_append p, List.length_cons]
    congr 1
    omega
theorem runsI_names : ∀ (p : List Nat) (L : List It) (s : Int), nmsI (runsI L s p) = nmsI L
  | [], L, s => rfl
  | i :: p, L, s => by show nmsI (runsI (timeI L i s) (s + 1) p) = _; rw [runsI_names p, timeI_names]
/-- A mark is a text. -/
theorem markText_ok {k : Nat} (hk : KK ≤ k) {n : Int} (h : n ≤ 9223372036854775807) : ∃ t, laws_markText k n = some t := by
  unfold laws_markText
  by_cases h0 : n ≤ 0
  · exact ⟨[109, 48], by simp [h0]⟩
  · simp only [decide_eq_true_eq, h0, if_false]
    have key : ∀ (m : Nat) (n : Int) (out : List UInt8), 0 ≤ n → n < 10 ^ m → n ≤ 9223372036854775807 → out.length + m ≤ 100 → ∀ q, m < q → ∃ t, laws_markText_l0 k q n out (fun out_1 => (if [109].length + out_1.length ≤ 9223372036854775807 then some ([109] ++ out_1) else none)) = some t := by
      intro m
      induction m with
      | zero =>
        intro n out h1 h2 h3 h4 q hq
        obtain ⟨q, rfl⟩ : ∃ p, q = p + 1 := ⟨q - 1, by omega⟩
        have : ¬ 0 < n := by simp at h2; omega
        have h5 : 1 + out.length ≤ 9223372036854775807 := by omega
        exact ⟨[109] ++ out, by simp only [laws_markText_l0, decide_eq_true_eq, this, if_false, List.length_singleton, h5, if_true]⟩
      | succ m ih =>
        intro n out h1 h2 h3 h4 q hq
        obtain ⟨q, rfl⟩ : ∃ p, q = p + 1 := ⟨q - 1, by omega⟩
        by_cases hn : 0 < n
        · have hd : Int.tdiv n 10 = n / 10 := Int.tdiv_eq_ediv_of_nonneg h1
          have hw : w_i64 (Int.tdiv n 10) = n / 10 := by rw [hd, w_id (by omega) (by omega)]
          have h5 : 1 + out.length ≤ 9223372036854775807 := by omega
          have h6 : n / 10 < 10 ^ m := by
            rw [Int.pow_succ] at h2
            omega
          obtain ⟨t, ht⟩ := ih (n / 10) ((to_S [(w_u8 ((w_i64 (48 + (Int.tmod n 10)))))]) ++ out) (by omega) h6 (by omega) (by simp; omega) q (by omega)
          refine ⟨t, ?_⟩
          simp only [laws_markText_l0, decide_eq_true_eq, hn, if_true, hw]
          rw [if_pos (by simp; omega)]
          exact ht
        · have h5 : 1 + out.length ≤ 9223372036854775807 := by omega
          exact ⟨[109] ++ out, by simp only [laws_markText_l0, decide_eq_true_eq, hn, if_false, List.length_singleton, h5, if_true]⟩
    exact key 20 n [] (by omega) (by omega) h (by simp) k (by have := KK_def; omega)
/-- Marks through a list's items go through, whatever they are. -/
theorem markStrI_ok {k : Nat} (hk : KK ≤ k) {q : List It} {a : Nat} {y : It} (hy : q[a]? = some y) {m : Int} (h0 : 0 ≤ m) (h1 : m ≤ 2000000000000) (hl : y.2.1.length ≤ 1048576) :
    ∃ q', laws_markStringS_o_i10_SLSII k a m q = some ((m + y.2.1.length, ()), (q', ()), ()) ∧ q'.length = q.length ∧ ∀ j, j ≠ a → q'[j]? = q[j]? := by
  have hK := KK_def
  have ha := (List.getElem?_eq_some_iff.1 hy).1
  unfold laws_markStringS_o_i10_SLSII
  have := loop_list (α := List UInt8) (A := List It) (R := Prop) (L := fun n i qc => ∃ q', laws_markStringS_o_i10_SLSII_l0 k n a (m + i) i qc (fun k_10 q_11 => some ((k_10, ()), (q_11, ()), ())) = some ((m + y.2.1.length, ()), (q', ()), ()) ∧ q'.length = q.length ∧ ∀ j, j ≠ a → q'[j]? = q[j]?)
    (I := fun pre qc => qc.length = q.length ∧ (∃ z, qc[a]? = some z ∧ z.2.1.length = y.2.1.length) ∧ ∀ j, j ≠ a → qc[j]? = q[j]?) (G := fun _ _ => True) y.2.1 ?_ ?_ k (by omega) q ⟨rfl, ⟨y, hy, rfl⟩, fun _ _ => rfl⟩
  · have := of_eq_true this
    simpa using this
  · rintro n pre x post qc hx ⟨i1, ⟨z, hz, hzl⟩, i3⟩ ih hg hlt
    have hw := w_succ (i := pre.length) (by omega)
    have hm : w_i64 (m + (pre.length : Int) + 1) = m + ((pre.length + 1 : Nat) : Int) := by rw [w_id (by omega) (by omega)]; omega
    obtain ⟨t, ht⟩ := markText_ok hk (n := m + (pre.length : Int)) (by omega)
    have hlz : pre.length < z.2.1.length := by omega
    have hlz' : (pre.length : Int) < (z.2.1.length : Int) := by omega
    have haq : a < qc.length := by omega
    simp only [laws_markStringS_o_i10_SLSII_l0, hz, Option.bind_some, hlz', decide_true, if_true, ht, Int.natCast_nonneg, Int.toNat_natCast, hlz, and_self, List.getElem?_eq_getElem hlz, hm, hw]
    refine ih (qc.set a (z.1, z.2.1.set pre.length t, z.2.2)) ⟨by rw [List.length_set]; exact i1, ⟨_, List.getElem?_set_self haq, by simp only [List.length_set]; exact hzl⟩, fun j hj => ?_⟩
    rw [List.getElem?_set_ne (Ne.symm hj)]
    exact i3 j hj
  · rintro n qc ⟨i1, ⟨z, hz, hzl⟩, i3⟩
    refine eq_true ⟨qc, ?_, i1, i3⟩
    simp only [laws_markStringS_o_i10_SLSII_l0, hz, Option.bind_some, hzl, Int.lt_irrefl, decide_false, Bool.false_eq_true, if_false]
theorem markItemS_ok {k : Nat} (hk : KK ≤ k) {L : List It} (hL : L.length ≤ 1048576) (hx : ∀ x ∈ L, smallI x) : ∃ q m, laws_markItemS_o k 1 L = some ((m, ()), (q, ()), ()) ∧ 0 ≤ m := by
  have hK := KK_def
  unfold laws_markItemS_o
  have := loop_list (α := It) (A := Int × List It) (R := Prop) (L := fun n i z => ∃ q m, laws_markItemS_o_l0 k n z.1 i z.2 (fun k_12 q_13 => some ((k_12, ()), (q_13, ()), ())) = some ((m, ()), (q, ()), ()) ∧ 0 ≤ m)
    (I := fun pre z => z.2.length = L.length ∧ 0 ≤ z.1 ∧ z.1 ≤ 1 + (pre.length : Int) * 1048580 ∧ ∀ (j : Nat), pre.length ≤ j → ∀ y : It, z.2[j]? = some y → y.2.1.length ≤ 1048576) (G := fun _ _ => True) L ?_ ?_ k (by omega) (1, L) ⟨rfl, by omega, by simp, fun j _ y hy => (hx y (List.mem_of_getElem? hy)).2.1⟩
  · exact of_eq_true this
  · rintro n pre x post ⟨m, qc⟩ hx ⟨i1, i2, i3, i4⟩ ih hg hlt
    simp only at i1 i2 i3 i4 ih
    have hw := w_succ (i := pre.length) (by omega)
    have hpc : pre.length < qc.length := by omega
    have hpc' : (pre.length : Int) < (qc.length : Int) := by omega
    have hpl : (pre.length : Int) * 1048580 ≤ 1048576 * 1048580 := by omega
    obtain ⟨t, ht⟩ := markText_ok hk (n := m) (by omega)
    have hz : qc[pre.length]? = some qc[pre.length] := List.getElem?_eq_getElem hpc
    have hzl := i4 pre.length (Nat.le_refl _) _ hz
    have w1 : w_i64 (m + 1) = m + 1 := w_id (by omega) (by omega)
    generalize hq1 : qc.set pre.length (t, (qc[pre.length]).2) = q1
    have l1 : q1.length = qc.length := by rw [← hq1, List.length_set]
    have g1 : q1[pre.length]? = some (t, (qc[pre.length]).2) := by rw [← hq1]; exact List.getElem?_set_self hpc
    obtain ⟨q2, e2, l2, o2⟩ := markStrI_ok hk g1 (m := m + 1) (by omega) (by omega) hzl
    have hp2 : pre.length < q2.length := by omega
    have g2 : q2[pre.length]? = some q2[pre.length] := List.getElem?_eq_getElem hp2
    have w2 : w_i64 (m + 1 + ((qc[pre.length]).2.1.length : Int) + 1) = m + 1 + ((qc[pre.length]).2.1.length : Int) + 1 := w_id (by omega) (by omega)
    have w3 : w_i64 (m + 1 + ((qc[pre.length]).2.1.length : Int) + 1 + 1) = m + 1 + ((qc[pre.length]).2.1.length : Int) + 1 + 1 := w_id (by omega) (by omega)
    have hp1 : pre.length < q1.length := by omega
    simp only [laws_markItemS_o_l0, hpc', decide_true, if_true, ht, Option.bind_some, Int.natCast_nonneg, Int.toNat_natCast, hpc, and_self, hz, hq1, hp1, g1, w1, e2, hp2, g2, w2, w3, hw, List.length_set, List.getElem?_set_self hp2, List.set_set]
    refine ih (_, _) ⟨?_, ?_, ?_, ?_⟩
    · simp only [List.length_set]; omega
    · simp only; omega
    · simp only [List.length_append, List.length_singleton]; omega
    · intro j hj y hy
      simp only [List.length_append, List.length_singleton] at hj
      simp only at hy
      rw [List.getElem?_set_ne (by omega), o2 j (by omega), ← hq1, List.getElem?_set_ne (by omega)] at hy
      exact i4 j (by omega) y hy
  · rintro n ⟨m, qc⟩ ⟨i1, i2, i3, i4⟩
    simp only at i1 i2
    have : ¬ (L.length : Int) < (qc.length : Int) := by omega
    refine eq_true ⟨qc, m, ?_, i2⟩
    simp only [laws_markItemS_o_l0, this, decide_false, Bool.false_eq_true, if_false]
def sumL {α : Type} (f : α → Nat) (l : List α) : Nat := (l.map f).sum
theorem sumL_nil {α : Type} (f : α → Nat) : sumL f [] = 0 := rfl
theorem sumL_cons {α : Type} (f : α → Nat) (x : α) (l : List α) : sumL f (x :: l) = f x + sumL f l := by simp [sumL]
theorem sumL_append {α : Type} (f : α → Nat) (l m : List α) : sumL f (l ++ m) = sumL f l + sumL f m := by simp [sumL]
theorem sumL_mem {α : Type} (f : α → Nat) {x : α} {l : List α} (h : x ∈ l) : f x ≤ sumL f l := by
  induction l with
  | nil => cases h
  | cons y l ih =>
    rw [sumL_cons]
    rcases List.mem_cons.1 h with rfl | h
    · omega
    · have := ih h; omega
/-- Sizes gathered, until they are too great. -/
theorem loop_sz {α : Type} (xs : List α) {s : α → Nat} {L : Nat → Int → Int → Option Int}
    (h1 : ∀ n (i : Nat) x r, xs[i]? = some x → (i : Int) < xs.length → x ∈ xs → 0 ≤ r → r ≤ 1048576 → L (n + 1) (i : Int) r = if (s x : Int) ≤ r then L n ((i + 1 : Nat) : Int) (r - (s x : Int)) else some (-1))
    (h2 : ∀ n r, L (n + 1) (xs.length : Int) r = some r) {n : Nat} (hn : xs.length < n) {r : Int} (h0 : 0 ≤ r) (hr : r ≤ 1048576) : L n 0 r = some (if (sumL s xs : Int) ≤ r then r - (sumL s xs : Int) else -1) := by
  refine loop_list (L := L) (I := fun _ r => 0 ≤ r ∧ r ≤ 1048576) (G := fun post r => some (if (sumL s post : Int) ≤ r then r - (sumL s post : Int) else -1)) xs ?_ ?_ n hn r ⟨h0, hr⟩
  · intro n pre x post r hx hI ih hg hlt
    rw [h1 n pre.length x r hg hlt (List.mem_of_getElem? hg) hI.1 hI.2]
    have hc : sumL s (x :: post) = s x + sumL s post := sumL_cons _ _ _
    by_cases c : (s x : Int) ≤ r
    · rw [if_pos c, ih (r - (s x : Int)) ⟨by omega, by omega⟩]
      by_cases c2 : (sumL s post : Int) ≤ r - (s x : Int)
      · rw [if_pos c2, if_pos (by omega)]; congr 1; omega
      · rw [if_neg c2, if_neg (by omega)]
    · rw [if_neg c, if_neg (by omega)]
  · intro n r hI
    rw [h2, sumL_nil, if_pos (by simpa using hI.1)]; simp
instance dec_StringS : DecidableEq (List (List UInt8)) := inferInstance
def sz_StringS (a : List (List UInt8)) : Nat := a.length + sumL List.length a
theorem szStringS_ok {k : Nat} (hk : KK ≤ k) {a : List (List UInt8)} {e0 : TypeId} {left : Int} (h0 : 0 ≤ left) (h1 : left ≤ 1048576) (h : InR (.sl e0 .str) a) : laws_szStringS k a left = some (if (sz_StringS a : Int) ≤ left then left - (sz_StringS a : Int) else -1) := by
  have hl : a.length ≤ 140737488351232 := h.1
  have hs : sz_StringS a = a.length + sumL List.length a := rfl
  have hK := KK_def
  unfold laws_szStringS
  rw [hs, w_id (by omega) (by omega)]
  by_cases c : (a.length : Int) ≤ left
  · rw [decide_eq_false (by omega), if_neg (by simp)]
    refine Eq.trans (loop_sz (L := fun n i r => laws_szStringS_l0 k n a r i fun r => some r) (s := List.length) a ?_ ?_ (n := k) (by omega) (r := left - (a.length : Int)) (by omega) (by omega)) ?_
    · intro n i x r hi hlt hm r0 r1
      have hw := w_succ (i := i) (by omega)
      have hxl : List.length x ≤ 140737488351232 := h.2 x hm
      have hs : w_i64 (r - (x.length : Int)) = r - x.length := w_id (by omega) (by omega)
      simp only [laws_szStringS_l0, hlt, decide_true, if_true, Int.natCast_nonneg, Int.toNat_natCast, hi, Option.bind_some, hw, hs]
      by_cases c2 : (x.length : Int) ≤ r
      · rw [decide_eq_false (by omega), if_neg (by simp), if_pos c2]
      · rw [decide_eq_true (by omega), if_pos rfl, if_neg c2]
    · intro n r
      simp [laws_szStringS_l0]
    · by_cases c2 : (sumL List.length a : Int) ≤ left - (a.length : Int)
      · rw [if_pos c2, if_pos (by omega)]; congr 1; omega
      · rw [if_neg c2, if_neg (by omega)]
  · rw [decide_eq_true (by omega), if_pos rfl, if_neg (by omega)]
instance dec_Item_2 : DecidableEq (Int × Int) := inferInstance
instance dec_Item_1 : DecidableEq (List (List UInt8) × Int × Int) := inferInstance
instance dec_Item : DecidableEq (List UInt8 × List (List UInt8) × Int × Int) := inferInstance
def sz_Item (a : List UInt8 × List (List UInt8) × Int × Int) : Nat := (List.length (a.1)) + (sz_StringS (a.2.1))
theorem szItem_ok {k : Nat} (hk : KK ≤ k) {a : List UInt8 × List (List UInt8) × Int × Int} {e0 : TypeId} {left : Int} (h0 : 0 ≤ left) (h1 : left ≤ 1048576) (h : InR (.st (.pr .str (.pr (.sl e0 .str) (.pr (.int .i64) (.int .i64))))) a) : laws_szItem k a left = some (if (sz_Item a : Int) ≤ left then left - (sz_Item a : Int) else -1) := by
  have hs : sz_Item a = (List.length (a.1)) + (sz_StringS (a.2.1)) := rfl
  unfold laws_szItem
  rw [hs]
  have hl0 : List.length (a.1) ≤ 140737488351232 := h.1
  rw [w_id (x := left - (List.length (a.1) : Int)) (by omega) (by omega)]
  by_cases c0 : (List.length (a.1) : Int) ≤ left
  case neg => rw [decide_eq_true (by omega), if_pos rfl, if_neg (by omega)]
  rw [decide_eq_false (by omega), if_neg (by simp)]
  have q1 := szStringS_ok hk (a := a.2.1) (left := left - ((List.length (a.1)) : Int)) (by omega) (by omega) h.2.1
  rw [q1]
  by_cases c1 : ((sz_StringS (a.2.1)) : Int) ≤ left - ((List.length (a.1)) : Int)
  case neg => rw [if_neg c1]; simp only [Option.bind_some]; rw [decide_eq_true (by omega), if_pos rfl, if_neg (by omega)]
  rw [if_pos c1]; simp only [Option.bind_some]
  rw [decide_eq_false (by omega), if_neg (by simp)]
  rw [if_pos (by omega)]; congr 1; omega
instance dec_ItemS : DecidableEq (List (List UInt8 × List (List UInt8) × Int × Int)) := inferInstance
def sz_ItemS (a : List (List UInt8 × List (List UInt8) × Int × Int)) : Nat := a.length + sumL sz_Item a
theorem szItemS_ok {k : Nat} (hk : KK ≤ k) {a : List (List UInt8 × List (List UInt8) × Int × Int)} {e0 e1 : TypeId} {left : Int} (h0 : 0 ≤ left) (h1 : left ≤ 1048576) (h : InR (.sl e0 (.st (.pr .str (.pr (.sl e1 .str) (.pr (.int .i64) (.int .i64)))))) a) : laws_szItemS k a left = some (if (sz_ItemS a : Int) ≤ left then left - (sz_ItemS a : Int) else -1) := by
  have hl : a.length ≤ 140737488351232 := h.1
  have hs : sz_ItemS a = a.length + sumL sz_Item a := rfl
  have hK := KK_def
  unfold laws_szItemS
  rw [hs, w_id (by omega) (by omega)]
  by_cases c : (a.length : Int) ≤ left
  · rw [decide_eq_false (by omega), if_neg (by simp)]
    refine Eq.trans (loop_sz (L := fun n i r => laws_szItemS_l0 k n a r i fun r => some r) (s := sz_Item) a ?_ ?_ (n := k) (by omega) (r := left - (a.length : Int)) (by omega) (by omega)) ?_
    · intro n i x r hi hlt hm r0 r1
      have hw := w_succ (i := i) (by omega)
      have hx := szItem_ok hk (a := x) r0 r1 (h.2 x hm)
      simp only [laws_szItemS_l0, hlt, decide_true, if_true, Int.natCast_nonneg, Int.toNat_natCast, hi, Option.bind_some, hw, hx]
      by_cases c2 : (sz_Item x : Int) ≤ r
      · rw [if_pos c2, decide_eq_false (by omega), if_neg (by simp), if_pos c2]
      · rw [if_neg c2, decide_eq_true (by omega), if_pos rfl, if_neg c2]
    · intro n r
      simp [laws_szItemS_l0]
    · by_cases c2 : (sumL sz_Item a : Int) ≤ left - (a.length : Int)
      · rw [if_pos c2, if_pos (by omega)]; congr 1; omega
      · rw [if_neg c2, if_neg (by omega)]
  · rw [decide_eq_true (by omega), if_pos rfl, if_neg (by omega)]
theorem toStringS_ok {k : Nat} (hk : KK ≤ k) {a : List (List UInt8)} (h : sz_StringS a ≤ 10000000000) : laws_toStringS k a = some a := by
  have hl : a.length ≤ 10000000000 := Nat.le_trans (show a.length ≤ sz_StringS a by unfold sz_StringS; omega) h
  unfold laws_toStringS
  have hL := LIM_def
  rw [if_pos ⟨by omega, Int.le_refl _, by omega⟩]
  refine loop_copy (L := fun n i q => laws_toStringS_l0 k n a i q fun q_5 => some q_5) (e := fun q => some q) a _ (by simp) ?_ ?_ (n := k) (by have := KK_def; omega)
  · intro n i x q hx hlt hq
    have hw := w_succ (i := i) (by omega)
    have hi : i < q.length := by omega
    simp [laws_toStringS_l0, hlt, hx, hw, hi]
  · intro n q
    simp [laws_toStringS_l0]
theorem toItem_ok {k : Nat} (hk : KK ≤ k) {a : List UInt8 × List (List UInt8) × Int × Int} (h : sz_Item a ≤ 10000000000) : laws_toItem k a = some a := by
  have b1 : (sz_StringS (a.2.1)) ≤ 10000000000 := by unfold sz_Item at h; omega
  unfold laws_toItem
  simp only [toStringS_ok hk b1, Option.bind_some] <;> rfl
theorem toItemS_ok {k : Nat} (hk : KK ≤ k) {a : List (List UInt8 × List (List UInt8) × Int × Int)} (h : sz_ItemS a ≤ 10000000000) : laws_toItemS k a = some a := by
  have hl : a.length ≤ 10000000000 := Nat.le_trans (show a.length ≤ sz_ItemS a by unfold sz_ItemS; omega) h
  unfold laws_toItemS
  have hL := LIM_def
  rw [if_pos ⟨by omega, Int.le_refl _, by omega⟩]
  refine loop_copy (L := fun n i q => laws_toItemS_l0 k n a i q fun q_5 => some q_5) (e := fun q => some q) a _ (by simp) ?_ ?_ (n := k) (by have := KK_def; omega)
  · intro n i x q hx hlt hq
    have hw := w_succ (i := i) (by omega)
    have hi : i < q.length := by omega
    have hm := sumL_mem sz_Item (List.mem_of_getElem? hx)
    have hb : sz_Item x ≤ 10000000000 := by unfold sz_ItemS at h; omega
    simp [laws_toItemS_l0, toItem_ok hk hb, hlt, hx, hw, hi]
  · intro n q
    simp [laws_toItemS_l0]
theorem eqStringS_ok {k : Nat} (hk : KK ≤ k) {a b : List (List UInt8)} (h : sz_StringS a ≤ 10000000000) : laws_eqStringS k a b = some (decide (a = b)) := by
  have hle : a.length ≤ 10000000000 := Nat.le_trans (show a.length ≤ sz_StringS a by unfold sz_StringS; omega) h
  unfold laws_eqStringS
  by_cases hl : a.length = b.length
  · rw [if_neg (by simp [hl])]
    refine loop_eq (L := fun n i => laws_eqStringS_l0 k n a b i (some true)) a b hl ?_ ?_ (n := k) (by have := KK_def; omega)
    · intro n i x y hx hy hlt
      have hw := w_succ (i := i) (by omega)
      by_cases e : x = y <;> simp [laws_eqStringS_l0, hlt, hx, hy, hw, e]
    · intro n
      simp [laws_eqStringS_l0]
  · have h2 : a ≠ b := fun e => hl (by rw [e])
    have h3 : ¬ (a.length : Int) = b.length := by omega
    simp [h3, h2]
theorem eqItem_ok {k : Nat} (hk : KK ≤ k) {a b : List UInt8 × List (List UInt8) × Int × Int} (h : sz_Item a ≤ 10000000000) : laws_eqItem k a b = some (decide (a = b)) := by
  obtain ⟨a0, a1, a2, a3⟩ := a
  obtain ⟨b0, b1, b2, b3⟩ := b
  have c1 : (sz_StringS a1) ≤ 10000000000 := by unfold sz_Item at h; simp only at h; omega
  unfold laws_eqItem
  simp only [eqStringS_ok hk c1, Option.bind_some, Prod.mk.injEq]
  by_cases x0 : a0 = b0
  case neg => simp [x0]
  subst x0
  by_cases x1 : a1 = b1
  case neg => simp [x1]
  subst x1
  by_cases x2 : a2 = b2
  case neg => simp [x2]
  subst x2
  by_cases x3 : a3 = b3
  case neg => simp [x3]
  subst x3
  simp
theorem eqItemS_ok {k : Nat} (hk : KK ≤ k) {a b : List (List UInt8 × List (List UInt8) × Int × Int)} (h : sz_ItemS a ≤ 10000000000) : laws_eqItemS k a b = some (decide (a = b)) := by
  have hle : a.length ≤ 10000000000 := Nat.le_trans (show a.length ≤ sz_ItemS a by unfold sz_ItemS; omega) h
  unfold laws_eqItemS
  by_cases hl : a.length = b.length
  · rw [if_neg (by simp [hl])]
    refine loop_eq (L := fun n i => laws_eqItemS_l0 k n a b i (some true)) a b hl ?_ ?_ (n := k) (by have := KK_def; omega)
    · intro n i x y hx hy hlt
      have hw := w_succ (i := i) (by omega)
      have hm := sumL_mem sz_Item (List.mem_of_getElem? hx)
      have hb : sz_Item x ≤ 10000000000 := by unfold sz_ItemS at h; omega
      simp only [laws_eqItemS_l0, hlt, decide_true, if_true, Int.natCast_nonneg, Int.toNat_natCast, hx, hy, Option.bind_some, hw, eqItem_ok hk hb]
      by_cases e : x = y
      · rw [decide_eq_true e, if_pos e]; simp
      · rw [decide_eq_false e, if_neg e]; simp
    · intro n
      simp [laws_eqItemS_l0]
  · have h2 : a ≠ b := fun e => hl (by rw [e])
    have h3 : ¬ (a.length : Int) = b.length := by omega
    simp [h3, h2]
theorem itemsSmall {L : List It} (h : sz_ItemS L ≤ 1048576) : L.length ≤ 1048576 ∧ ∀ x ∈ L, smallI x := by
  have e : sz_ItemS L = L.length + sumL sz_Item L := rfl
  refine ⟨by omega, fun x hx => ?_⟩
  have h1 := sumL_mem sz_Item hx
  have h2 : sz_Item x = x.1.length + (x.2.1.length + sumL List.length x.2.1) := rfl
  exact ⟨by omega, by omega, fun y hy => by have := sumL_mem List.length hy; omega⟩
theorem sumL_bound {α : Type} (g : α → Nat) (B : Nat) : ∀ l : List α, (∀ x ∈ l, g x ≤ B) → sumL g l ≤ l.length * B
  | [], _ => by rw [sumL_nil]; omega
  | x :: l, h => by
    have h1 := h x (by simp)
    have h2 := sumL_bound g B l (fun y hy => h y (by simp [hy]))
    rw [sumL_cons, List.length_cons, Nat.succ_mul]
    omega
theorem szOf_chosen {L : List It} (hL : L.length ≤ 16) (hx : ∀ x ∈ L, smallI x) (c : Nat → Bool) : sz_StringS (chosenI L c) ≤ 10000000000 := by
  have e : sz_StringS (chosenI L c) = (chosenI L c).length + sumL List.length (chosenI L c) := rfl
  have hl : (chosenI L c).length ≤ L.length := by
    unfold chosenI
    rw [List.length_map]
    exact Nat.le_trans (List.length_filter_le ..) (by rw [List.length_range]; exact Nat.le_refl _)
  have hb := sumL_bound List.length 1048576 (chosenI L c) (fun y hy => by
    unfold chosenI at hy
    obtain ⟨i, hi, rfl⟩ := List.mem_map.1 hy
    rw [List.mem_filter, List.mem_range] at hi
    rw [nmI_lt hi.1]
    exact (hx _ (List.getElem_mem hi.1)).1)
  have : (chosenI L c).length * 1048576 ≤ 16 * 1048576 := Nat.mul_le_mul_right _ (by omega)
  omega
/-- A result of names: its size, and that marks are held. -/
def okRes (L : List It) (r : List (List UInt8)) : Prop := r = [] ∨ (L.length ≤ 16 ∧ ∃ c, r = chosenI L c)
theorem okRes_sz {L : List It} (hx : ∀ x ∈ L, smallI x) {r : List (List UInt8)} (h : okRes L r) : sz_StringS r ≤ 10000000000 := by
  rcases h with rfl | ⟨h, c, rfl⟩
  · show 0 + sumL List.length ([] : List (List UInt8)) ≤ _
    rw [sumL_nil]; omega
  · exact szOf_chosen h hx c
theorem okRes_len {L : List It} {r : List (List UInt8)} (hx : ∀ x ∈ L, smallI x) (h : okRes L r) : r.length ≤ 1000000000000 := by
  have e : sz_StringS r = r.length + sumL List.length r := rfl
  have := okRes_sz hx h
  omega
theorem ownItems_ok {k : Nat} (hk : KK ≤ k) {L : List It} (hL : L.length ≤ 1048576) (hx : ∀ x ∈ L, smallI x) : spec_l28Own_o k L = some (((), ()), (L, L, ()), ()) := by
  have hK := KK_def
  have hLI := LIM_def
  unfold spec_l28Own_o
  refine loop_list (A := List It) (L := fun n i q => spec_l28Own_o_l0 k n i L q (fun q_6 q_7 => some (((), ()), (q_6, q_7, ()), ()))) (I := fun pre q => q = pre) (G := fun _ _ => some (((), ()), (L, L, ()), ())) L ?_ ?_ k (by omega) [] rfl
  · intro n pre x post q hxp hq ih hg hlt
    have hw := w_succ (i := pre.length) (by omega)
    have hm : x ∈ L := by rw [hxp]; simp
    have hxl := (hx x hm).2.1
    have hlim : (q.length + 1) * 56 ≤ LIM := by rw [hq]; omega
    have hl2 : (([] : List Unit).length + x.2.1.length) * 16 ≤ LIM := by simp only [List.length_nil]; omega
    have hin : pre.length < L.length := by omega
    simp only [spec_l28Own_o_l0, hlt, decide_true, if_true, Int.natCast_nonneg, Int.toNat_natCast, hin, and_self, hg, Option.bind_some, hl2, List.length_singleton, hlim, hw]
    exact ih _ (by rw [hq])
  · intro n q hq
    subst hq
    simp only [spec_l28Own_o_l0, Int.lt_irrefl, decide_false, Bool.false_eq_true, if_false]
def dropP (L : List It) (b : List UInt8) : List It × Int := if askI L b = 0 then (if usersC L b = [] then (restI L b, 0) else ([], 6)) else ([], askI L b)
theorem restI_len (L : List It) (b : List UInt8) : (restI L b).length ≤ L.length := List.length_filter_le ..
theorem restI_small {L : List It} (hx : ∀ x ∈ L, smallI x) (b : List UInt8) : ∀ x ∈ restI L b, smallI x := fun x h => hx x (rest_mem.1 h).1
theorem restI_snoc (pre : List It) (x : It) (b : List UInt8) : restI (pre ++ [x]) b = if x.1 = b then restI pre b else restI pre b ++ [x] := by
  unfold restI
  rw [List.filter_append]
  by_cases h : x.1 = b <;> simp [h]
theorem validAsk {L : List It} {b : List UInt8} (h : askI L b = 0) : validB L = true := by
  unfold askI at h
  by_cases c : validB L = true
  · exact c
  · rw [if_neg c] at h; omega
theorem specDrop_ok {k : Nat} (hk : KK ≤ k) {L : List It} (hL : L.length ≤ 1048576) (hx : ∀ x ∈ L, smallI x) (b : List UInt8) : spec_DropItem_o k b L = some ((((), ((dropP L b).2, ())), ()), (L, (dropP L b).1, ()), ()) := by
  have hK := KK_def
  have hLI := LIM_def
  unfold spec_DropItem_o dropP
  rw [l28Ask_ok hk hL hx]
  by_cases h : askI L b = 0
  case neg => simp [h]
  obtain ⟨f, hb⟩ := askI_zero h
  have hv := rest_valid (validAsk h) hb
  have hR : (restI L b).length ≤ 1048576 := Nat.le_trans (restI_len L b) hL
  simp only [Option.bind_some, h, decide_true, Bool.not_true, Bool.false_eq_true, if_false, if_true, ownItems_ok hk hL hx]
  refine loop_list (A := List It) (L := fun n i q => spec_DropItem_o_l0 k n b i L q L (fun q_11 q_12 => (spec_l28Ok k q_12).bind fun r_13 => (if (!r_13) = true then some ((((), (6, ())), ()), (q_11, [], ()), ()) else some ((((), (0, ())), ()), (q_11, q_12, ()), ())))) (I := fun pre q => q = restI pre b) (G := fun _ _ => some ((((), ((if usersC L b = [] then (restI L b, (0 : Int)) else ([], 6)).2, ())), ()), (L, (if usersC L b = [] then (restI L b, (0 : Int)) else ([], 6)).1, ()), ())) L ?_ ?_ k (by omega) [] rfl
  · intro n pre x post q hxp hq ih hg hlt
    have hw := w_succ (i := pre.length) (by omega)
    have hql : q.length ≤ pre.length := by rw [hq]; exact restI_len pre b
    have hlim : (q.length + 1) * 56 ≤ LIM := by omega
    have hin : pre.length < L.length := by omega
    simp only [spec_DropItem_o_l0, hlt, decide_true, if_true, Int.natCast_nonneg, Int.toNat_natCast, hin, and_self, hg, Option.bind_some, List.length_singleton, hlim, hw]
    by_cases c : x.1 = b
    · rw [decide_eq_true c, if_neg (by simp)]
      exact ih _ (by rw [hq, restI_snoc, if_pos c])
    · rw [decide_eq_false c, if_pos (by simp)]
      exact ih _ (by rw [hq, restI_snoc, if_neg c])
  · intro n q hq
    subst hq
    simp only [spec_DropItem_o_l0, Int.lt_irrefl, decide_false, Bool.false_eq_true, if_false, l28Ok_ok hk hR (restI_small hx b), Option.bind_some]
    by_cases c : usersC L b = []
    · rw [hv.2 c, if_neg (by simp), if_pos c]
    · cases e : validB (restI L b) with
      | true => exact absurd (hv.1 e) c
      | false => rw [if_pos (by simp), if_neg c]
theorem restI_take {L : List It} (f : FormP L) {b : List UInt8} (hb : b ∈ nmsI L) : L.take (atI L b) ++ L.drop (atI L b + 1) = restI L b := by
  have ha := atI_lt hb
  have hn : ∀ j (hj : j < L.length), (L[j]).1 = b → j = atI L b := fun j hj e => by
    have := atI_nm f.strict hj
    rw [nmI_lt hj, e] at this
    exact this.symm
  have hm : (L[atI L b]).1 = b := by have := nmI_at hb; rwa [nmI_lt ha] at this
  have e : L = L.take (atI L b) ++ L[atI L b] :: L.drop (atI L b + 1) := by simp
  have h1 : restI (L.take (atI L b)) b = L.take (atI L b) := List.filter_eq_self.2 fun x h => by
    obtain ⟨j, hj, rfl⟩ := List.getElem_of_mem h
    rw [List.length_take] at hj
    rw [List.getElem_take]
    exact decide_eq_true fun q => by have := hn j (by omega) q; omega
  have h2 : restI (L.drop (atI L b + 1)) b = L.drop (atI L b + 1) := List.filter_eq_self.2 fun x h => by
    obtain ⟨j, hj, rfl⟩ := List.getElem_of_mem h
    rw [List.length_drop] at hj
    rw [List.getElem_drop]
    exact decide_eq_true fun q => by have := hn (atI L b + 1 + j) (by omega) q; omega
  have h3 : restI L b = restI (L.take (atI L b)) b ++ restI (L[atI L b] :: L.drop (atI L b + 1)) b := by
    conv => lhs; rw [e]
    unfold restI
    rw [List.filter_append]
  have h4 : restI (L[atI L b] :: L.drop (atI L b + 1)) b = restI (L.drop (atI L b + 1)) b := by
    unfold restI
    rw [List.filter_cons, if_neg (by simp [hm])]
  rw [h3, h4, h1, h2]
theorem implDrop_ok {k : Nat} (hk : KK ≤ k) {L : List It} (hL : L.length ≤ 1048576) (hx : ∀ x ∈ L, smallI x) (b : List UInt8) : impl_DropItem k L b = some (dropP L b) := by
  unfold impl_DropItem dropP
  rw [implUsers_ok hk hL hx]
  unfold usersP
  by_cases h : askI L b = 0
  case neg => simp [h]
  obtain ⟨f, hb⟩ := askI_zero h
  have ha := atI_lt hb
  simp only [Option.bind_some, h, decide_true, Bool.not_true, Bool.false_eq_true, if_false, if_true]
  by_cases c : usersC L b = []
  case neg =>
    have : (0 : Int) < ((usersC L b).length : Int) := by have := List.length_pos_iff.2 c; omega
    rw [decide_eq_true this, if_pos rfl, if_neg c]
  have hw : w_i64 (((atI L b : Nat) : Int) + 1) = ((atI L b + 1 : Nat) : Int) := w_succ (i := atI L b) (by omega)
  rw [if_pos c, c]
  simp only [List.length_nil, Int.natCast_zero, Int.lt_irrefl, decide_false, Bool.false_eq_true, if_false, itemAt_ok hk f, lowI_at f.strict hb, Option.bind_some, copyItems_ok hk hL hx, hw]
  unfold slices_Delete_impl_Item_s
  rw [if_pos ⟨by omega, by omega, by omega⟩]
  simp only [Option.bind_some, Int.toNat_natCast, restI_take f hb]
theorem sz_restI (L : List It) (b : List UInt8) : sz_ItemS (restI L b) ≤ sz_ItemS L := by
  have key : ∀ l : List It, sumL sz_Item (restI l b) ≤ sumL sz_Item l := by
    intro l
    induction l with
    | nil => exact Nat.le_refl _
    | cons x l ih =>
      rw [sumL_cons]
      by_cases c : x.1 = b
      · have : restI (x :: l) b = restI l b := by unfold restI; rw [List.filter_cons, if_neg (by simp [c])]
        rw [this]; omega
      · have : restI (x :: l) b = x :: restI l b := by unfold restI; rw [List.filter_cons, if_pos (by simp [c])]
        rw [this, sumL_cons]; omega
  have h1 := key L
  have h2 := restI_len L b
  show (restI L b).length + sumL sz_Item (restI L b) ≤ L.length + sumL sz_Item L
  omega
noncomputable def tM (k : Nat) (m : Int) : List UInt8 := (laws_markText k m).getD []
theorem tM_ok {k : Nat} (hk : KK ≤ k) {m : Int} (h : m ≤ 9223372036854775807) : laws_markText k m = some (tM k m) := by
  obtain ⟨t, ht⟩ := markText_ok hk h
  unfold tM
  rw [ht]; rfl
/-- Marks along a list: f puts marks from m on into an element and says which is next. -/
def mkL {α : Type} (f : α → Int → α × Int) : List α → Int → List α × Int
  | [], m => ([], m)
  | x :: l, m => ((f x m).1 :: (mkL f l (f x m).2).1, (mkL f l (f x m).2).2)
theorem mkL_length {α : Type} (f : α → Int → α × Int) : ∀ (l : List α) (m : Int), (mkL f l m).1.length = l.length
  | [], _ => rfl
  | x :: l, m => by simp [mkL, mkL_length f l]
theorem mkL_snd {α : Type} {f : α → Int → α × Int} {c : α → Nat} (hc : ∀ x m, (f x m).2 = m + (c x : Int)) : ∀ (l : List α) (m : Int), (mkL f l m).2 = m + (sumL c l : Int)
  | [], m => by simp [mkL, sumL_nil]
  | x :: l, m => by
    have h1 := sumL_cons c x l
    show (mkL f l (f x m).2).2 = _
    rw [mkL_snd hc l, hc]; omega
theorem mkL_append {α : Type} {f : α → Int → α × Int} : ∀ (l r : List α) (m : Int), (mkL f (l ++ r) m).1 = (mkL f l m).1 ++ (mkL f r (mkL f l m).2).1
  | [], r, m => rfl
  | x :: l, r, m => by simp [mkL, mkL_append l r]
/-- A loop that marks: S tells the state by the list that is marked. -/
theorem loop_mark {α Q R : Type} {f : α → Int → α × Int} {c : α → Nat} (hc : ∀ x m, (f x m).2 = m + (c x : Int)) (xs : List α) {m0 B : Int} (hB : m0 + (sumL c xs : Int) ≤ B) {S : List α → Q} {L : Nat → Int → Int → Q → R} {G : R}
    (h1 : ∀ n (i : Nat) m l y, l.length = xs.length → l[i]? = some y → y ∈ xs → m0 ≤ m → m + (c y : Int) ≤ B → (i : Int) < l.length → i < l.length → L (n + 1) m (i : Int) (S l) = L n (m + (c y : Int)) ((i + 1 : Nat) : Int) (S (l.set i (f y m).1)))
    (h2 : ∀ n l, l = (mkL f xs m0).1 → l.length = xs.length → L (n + 1) (m0 + (sumL c xs : Int)) (xs.length : Int) (S l) = G) {n : Nat} (hn : xs.length < n) : L n m0 0 (S xs) = G := by
  have main : ∀ (post pre : List α) (n : Nat), xs = pre ++ post → post.length < n → L n (m0 + (sumL c pre : Int)) (pre.length : Int) (S ((mkL f pre m0).1 ++ post)) = G := by
    intro post
    induction post with
    | nil =>
      intro pre n hx hn
      obtain ⟨m, rfl⟩ : ∃ m, n = m + 1 := ⟨n - 1, by simp at hn; omega⟩
      rw [List.append_nil] at hx ⊢
      subst hx
      exact h2 m _ rfl (mkL_length f _ _)
    | cons x post ih =>
      intro pre n hx hn
      obtain ⟨m, rfl⟩ : ∃ m, n = m + 1 := ⟨n - 1, by simp at hn; omega⟩
      have hl : (mkL f pre m0).1.length = pre.length := mkL_length f _ _
      have hs : sumL c xs = sumL c pre + (c x + sumL c post) := by rw [hx, sumL_append, sumL_cons]
      rw [h1 m pre.length (m0 + (sumL c pre : Int)) ((mkL f pre m0).1 ++ x :: post) x (by rw [hx]; simp [hl]) (by rw [List.getElem?_append_right (by omega), hl]; simp) (by rw [hx]; simp) (by omega) (by omega) (by simp [hl]; omega) (by simp [hl])]
      have := ih (pre ++ [x]) m (by rw [hx]; simp) (by simp at hn; omega)
      have e1 : ((mkL f pre m0).1 ++ x :: post).set pre.length (f x (m0 + (sumL c pre : Int))).1 = (mkL f (pre ++ [x]) m0).1 ++ post := by
        rw [List.set_append_right _ _ (by omega), hl, Nat.sub_self, List.set_cons_zero, mkL_append, mkL_snd hc]
        simp [mkL]
      have e2 : m0 + (sumL c pre : Int) + (c x : Int) = m0 + (sumL c (pre ++ [x]) : Int) := by rw [sumL_append, sumL_cons, sumL_nil]; omega
      rw [e1, e2]
      rw [List.length_append] at this
      simpa using this
  have := main xs [] n rfl hn
  simpa [sumL_nil, mkL] using this
/-- A loop that looks whether marks are held. -/
theorem loop_held {α R : Type} {f : α → Int → α × Int} {c : α → Nat} (hc : ∀ x m, (f x m).2 = m + (c x : Int)) (xs : List α) {m0 B : Int} (hB : m0 + (sumL c xs : Int) ≤ B) {L : Nat → Int → Int → R} {G : R}
    (h1 : ∀ n (i : Nat) m y, (mkL f xs m0).1[i]? = some (f y m).1 → y ∈ xs → m0 ≤ m → m + (c y : Int) ≤ B → (i : Int) < (mkL f xs m0).1.length → i < (mkL f xs m0).1.length → L (n + 1) m (i : Int) = L n (m + (c y : Int)) ((i + 1 : Nat) : Int))
    (h2 : ∀ n, L (n + 1) (m0 + (sumL c xs : Int)) ((mkL f xs m0).1.length : Int) = G) {n : Nat} (hn : xs.length < n) : L n m0 0 = G := by
  have hlen : (mkL f xs m0).1.length = xs.length := mkL_length f _ _
  have main : ∀ (post pre : List α) (n : Nat), xs = pre ++ post → post.length < n → L n (m0 + (sumL c pre : Int)) (pre.length : Int) = G := by
    intro post
    induction post with
    | nil =>
      intro pre n hx hn
      obtain ⟨m, rfl⟩ : ∃ m, n = m + 1 := ⟨n - 1, by simp at hn; omega⟩
      rw [List.append_nil] at hx
      have := h2 m
      rw [hlen] at this
      rw [← hx]; exact this
    | cons x post ih =>
      intro pre n hx hn
      obtain ⟨m, rfl⟩ : ∃ m, n = m + 1 := ⟨n - 1, by simp at hn; omega⟩
      have hl : (mkL f pre m0).1.length = pre.length := mkL_length f _ _
      have hs : sumL c xs = sumL c pre + (c x + sumL c post) := by rw [hx, sumL_append, sumL_cons]
      have hlx : pre.length < xs.length := by rw [hx]; simp
      have hg : (mkL f xs m0).1[pre.length]? = some (f x (m0 + (sumL c pre : Int))).1 := by
        rw [hx, mkL_append, List.getElem?_append_right (by omega), hl, Nat.sub_self, mkL_snd hc]
        rfl
      rw [h1 m pre.length (m0 + (sumL c pre : Int)) x hg (by rw [hx]; simp) (by omega) (by omega) (by omega) (by omega)]
      have := ih (pre ++ [x]) m (by rw [hx]; simp) (by simp at hn; omega)
      have e2 : m0 + (sumL c pre : Int) + (c x : Int) = m0 + (sumL c (pre ++ [x]) : Int) := by rw [sumL_append, sumL_cons, sumL_nil]; omega
      rw [e2]
      rw [List.length_append] at this
      simpa using this
  have := main xs [] n rfl hn
  simpa [sumL_nil] using this
theorem sumL_one {α : Type} : ∀ l : List α, sumL (fun _ => 1) l = l.length
  | [] => rfl
  | x :: l => by rw [sumL_cons, sumL_one l, List.length_cons]; omega
/-- A text marked. -/
noncomputable def mkS (k : Nat) (_ : List UInt8) (m : Int) : List UInt8 × Int := (tM k m, m + ((1 : Nat) : Int))
theorem mkS_snd (k : Nat) : ∀ (x : List UInt8) (m : Int), (mkS k x m).2 = m + (((fun _ : List UInt8 => 1) x : Nat) : Int) := fun _ _ => rfl
theorem markStrI_eq {k : Nat} (hk : KK ≤ k) {q : List It} {a : Nat} {z : It} (hz : q[a]? = some z) {m : Int} (h0 : 0 ≤ m) (h1 : m ≤ 1000000000000000000) (hl : z.2.1.length ≤ 1000000000000) :
    laws_markStringS_o_i10_SLSII k a m q = some ((m + z.2.1.length, ()), (q.set a (z.1, (mkL (mkS k) z.2.1 m).1, z.2.2), ()), ()) := by
  have hK := KK_def
  have ha := (List.getElem?_eq_some_iff.1 hz).1
  have hs := sumL_one z.2.1
  unfold laws_markStringS_o_i10_SLSII
  have e : q = q.set a (z.1, z.2.1, z.2.2) := by
    obtain ⟨h, rfl⟩ := List.getElem?_eq_some_iff.1 hz
    exact (List.set_getElem_self h).symm
  have := loop_mark (mkS_snd k) z.2.1 (m0 := m) (B := 2000000000000000000) (by omega) (S := fun l => q.set a (z.1, l, z.2.2)) (L := fun n m i q => laws_markStringS_o_i10_SLSII_l0 k n a m i q (fun k_10 q_11 => some ((k_10, ()), (q_11, ()), ())))
    (G := some ((m + z.2.1.length, ()), (q.set a (z.1, (mkL (mkS k) z.2.1 m).1, z.2.2), ()), ())) ?_ ?_ (n := k) (by omega)
  · rw [← e] at this
    exact this
  · intro n i m l y hll hg hy m0 m1 hlt hlt'
    have hw := w_succ (i := i) (by omega)
    have hm : w_i64 (m + 1) = m + ((1 : Nat) : Int) := w_id (by omega) (by omega)
    simp only [laws_markStringS_o_i10_SLSII_l0, List.getElem?_set_self ha, Option.bind_some, hlt, hlt', decide_true, if_true, tM_ok hk (show m ≤ 9223372036854775807 by omega), Int.natCast_nonneg, Int.toNat_natCast, and_self, List.getElem?_eq_getElem hlt', hm, hw, List.set_set, mkS]
  · intro n l hl2 hll
    have : ¬ (z.2.1.length : Int) < (l.length : Int) := by omega
    simp only [laws_markStringS_o_i10_SLSII_l0, List.getElem?_set_self ha, Option.bind_some, this, decide_false, Bool.false_eq_true, if_false, hs]
    rw [hl2]
theorem heldStr_eq {k : Nat} (hk : KK ≤ k) {a : List (List UInt8)} {m : Int} (h0 : 0 ≤ m) (h1 : m ≤ 1000000000000000000) (hl : a.length ≤ 1000000000000) :
    laws_heldStringS k (mkL (mkS k) a m).1 m = some (m + a.length) := by
  have hK := KK_def
  have hs := sumL_one a
  unfold laws_heldStringS
  refine loop_held (mkS_snd k) a (m0 := m) (B := 2000000000000000000) (by omega) (L := fun n m' i => laws_heldStringS_l0 k n (mkL (mkS k) a m).1 m' i fun k_3 => some k_3) ?_ ?_ (n := k) (by omega)
  · intro n i m' y hg hy m0 m1 hlt hlt'
    have hw := w_succ (i := i) (by rw [mkL_length] at hlt'; omega)
    have hm : w_i64 (m' + 1) = m' + ((1 : Nat) : Int) := w_id (by omega) (by omega)
    simp only [laws_heldStringS_l0, hlt, decide_true, if_true, Int.natCast_nonneg, Int.toNat_natCast, hg, Option.bind_some, tM_ok hk (show m' ≤ 9223372036854775807 by omega), mkS, Bool.not_true, Bool.false_eq_true, if_false, hm, hw]
  · intro n
    simp only [laws_heldStringS_l0, Int.lt_irrefl, decide_false, Bool.false_eq_true, if_false, hs]
/-- An item marked. -/
noncomputable def mkIt (k : Nat) (x : It) (m : Int) : It × Int := ((tM k m, (mkL (mkS k) x.2.1 (m + 1)).1, m + 1 + x.2.1.length, m + 1 + x.2.1.length + 1), m + ((x.2.1.length + 3 : Nat) : Int))
def ctI (x : It) : Nat := x.2.1.length + 3
theorem mkIt_snd (k : Nat) (x : It) (m : Int) : (mkIt k x m).2 = m + (ctI x : Int) := rfl
theorem markItemS_eq {k : Nat} (hk : KK ≤ k) {L : List It} {m : Int} (h0 : 0 ≤ m) (h1 : m + (sumL ctI L : Int) ≤ 100000000000000000) (hx : ∀ x ∈ L, x.2.1.length ≤ 1000000000000) (hL : L.length ≤ 1000000000000) :
    laws_markItemS_o k m L = some ((m + (sumL ctI L : Int), ()), ((mkL (mkIt k) L m).1, ()), ()) := by
  have hK := KK_def
  unfold laws_markItemS_o
  refine loop_mark (mkIt_snd k) L (m0 := m) (B := 100000000000000000) h1 (S := fun l => l) (L := fun n m i q => laws_markItemS_o_l0 k n m i q (fun k_12 q_13 => some ((k_12, ()), (q_13, ()), ()))) ?_ ?_ (n := k) (by omega)
  · intro n i m' l y hll hg hy m0 m1 hlt hlt'
    have hw := w_succ (i := i) (by omega)
    have hc : ctI y = y.2.1.length + 3 := rfl
    have hyl := hx y hy
    have hm : w_i64 (m' + 1) = m' + 1 := w_id (by omega) (by omega)
    have g1 : (l.set i (tM k m', y.2))[i]? = some (tM k m', y.2) := List.getElem?_set_self hlt'
    have w2 : w_i64 (m' + 1 + (y.2.1.length : Int) + 1) = m' + 1 + (y.2.1.length : Int) + 1 := w_id (by omega) (by omega)
    have w3 : w_i64 (m' + 1 + (y.2.1.length : Int) + 1 + 1) = m' + (ctI y : Int) := by rw [w_id (by omega) (by omega)]; omega
    have st := markStrI_eq hk g1 (m := m' + 1) (by omega) (by omega) hyl
    simp only [laws_markItemS_o_l0, hlt, hlt', decide_true, if_true, tM_ok hk (show m' ≤ 9223372036854775807 by omega), Option.bind_some, Int.natCast_nonneg, Int.toNat_natCast, and_self, hg, List.length_set, List.getElem?_set_self hlt', hm, st, List.set_set, w2, w3, hw]
    rfl
  · intro n l hl2 hll
    have : ¬ (L.length : Int) < (l.length : Int) := by omega
    simp only [laws_markItemS_o_l0, this, decide_false, Bool.false_eq_true, if_false]
    rw [hl2]
theorem heldItemS_eq {k : Nat} (hk : KK ≤ k) {L : List It} {m : Int} (h0 : 0 ≤ m) (h1 : m + (sumL ctI L : Int) ≤ 100000000000000000) (hx : ∀ x ∈ L, x.2.1.length ≤ 1000000000000) (hL : L.length ≤ 1000000000000) :
    laws_heldItemS k (mkL (mkIt k) L m).1 m = some (m + (sumL ctI L : Int)) := by
  have hK := KK_def
  unfold laws_heldItemS
  refine loop_held (mkIt_snd k) L (m0 := m) (B := 100000000000000000) h1 (L := fun n m' i => laws_heldItemS_l0 k n (mkL (mkIt k) L m).1 m' i (fun k_7 => some k_7)) ?_ ?_ (n := k) (by omega)
  · intro n i m' y hg hy m0 m1 hlt hlt'
    have hw := w_succ (i := i) (by rw [mkL_length] at hlt'; omega)
    have hc : ctI y = y.2.1.length + 3 := rfl
    have hyl := hx y hy
    have hm : w_i64 (m' + 1) = m' + 1 := w_id (by omega) (by omega)
    have w2 : w_i64 (m' + 1 + (y.2.1.length : Int) + 1) = m' + 1 + (y.2.1.length : Int) + 1 := w_id (by omega) (by omega)
    have w3 : w_i64 (m' + 1 + (y.2.1.length : Int) + 1 + 1) = m' + (ctI y : Int) := by rw [w_id (by omega) (by omega)]; omega
    have n0 : ¬ (m' + 1 + (y.2.1.length : Int) < 0) := by omega
    have st := heldStr_eq hk (a := y.2.1) (m := m' + 1) (by omega) (by omega) hyl
    simp only [laws_heldItemS_l0, hlt, decide_true, if_true, Int.natCast_nonneg, Int.toNat_natCast, hg, Option.bind_some, tM_ok hk (show m' ≤ 9223372036854775807 by omega), mkIt, Bool.not_true, Bool.false_eq_true, if_false, hm, st, n0, decide_false, w2, w3, hw]
  · intro n
    simp only [laws_heldItemS_l0, Int.lt_irrefl, decide_false, Bool.false_eq_true, if_false]
theorem ctI_sum {L : List It} (h : sz_ItemS L ≤ 10000000000) : sumL ctI L ≤ 40000000000 := by
  have e : sz_ItemS L = L.length + sumL sz_Item L := rfl
  have key : ∀ l : List It, sumL ctI l ≤ 3 * l.length + sumL sz_Item l := by
    intro l
    induction l with
    | nil => simp [sumL_nil]
    | cons x l ih =>
      rw [sumL_cons, sumL_cons, List.length_cons]
      have h1 : sz_Item x = x.1.length + (x.2.1.length + sumL List.length x.2.1) := rfl
      have h2 : ctI x = x.2.1.length + 3 := rfl
      omega
  have := key L
  omega
theorem pure_FnExactDropItem {e0 e1 : TypeId} (a0 : List It) (a1 : List UInt8) (f0 : InR (.sl e0 (.st (.pr .str (.pr (.sl e1 .str) (.pr (.int .i64) (.int .i64)))))) a0) (f1 : InR .str a1) : ∃ k : Nat, laws_FnExactDropItem k a0 a1 = some true := by
  have hk := Nat.le_refl KK
  refine ⟨KK, ?_⟩
  have q0 := szItemS_ok hk (a := a0) (left := 1048576) (by omega) (by omega) f0
  unfold laws_FnExactDropItem
  by_cases n0 : 1048576 < (a1.length : Int)
  · rw [decide_eq_true n0, if_pos rfl]
  rw [decide_eq_false n0, if_neg (by simp), q0]
  by_cases c0 : (sz_ItemS a0 : Int) ≤ 1048576
  case neg => rw [if_neg c0]; simp only [Option.bind_some]; rw [decide_eq_true (by omega), if_pos rfl]
  rw [if_pos c0]; simp only [Option.bind_some]
  rw [decide_eq_false (by omega), if_neg (by simp)]
  have b0 : sz_ItemS a0 ≤ 10000000000 := by omega
  obtain ⟨hL, hx⟩ := itemsSmall (L := a0) (by omega)
  have hd : (dropP a0 a1).1 = [] ∨ (dropP a0 a1).1 = restI a0 a1 := by
    unfold dropP
    split
    · split
      · exact .inr rfl
      · exact .inl rfl
    · exact .inl rfl
  have hr : sz_ItemS (dropP a0 a1).1 ≤ 10000000000 := by
    rcases hd with h | h
    · rw [h]; show 0 + sumL sz_Item [] ≤ _; rw [sumL_nil]; omega
    · rw [h]; exact Nat.le_trans (sz_restI a0 a1) b0
  have hy : (dropP a0 a1).1.length ≤ 1048576 ∧ ∀ x ∈ (dropP a0 a1).1, smallI x := by
    rcases hd with h | h
    · rw [h]; exact ⟨by simp, by simp⟩
    · rw [h]; exact ⟨Nat.le_trans (restI_len a0 a1) hL, restI_small hx _⟩
  have cA := ctI_sum b0
  have cR := ctI_sum hr
  have mA := markItemS_eq hk (L := a0) (m := 1) (by omega) (by omega) (fun x h => by have := (hx x h).2.1; omega) (by omega)
  have mR := markItemS_eq hk (L := (dropP a0 a1).1) (m := 1) (by omega) (by omega) (fun x h => by have := (hy.2 x h).2.1; omega) (by omega)
  have hR := heldItemS_eq hk (L := (dropP a0 a1).1) (m := 1) (by omega) (by omega) (fun x h => by have := (hy.2 x h).2.1; omega) (by omega)
  have nA : ¬ (1 + (sumL ctI a0 : Int) < 0) := by omega
  have nR : ¬ (1 + (sumL ctI (dropP a0 a1).1 : Int) < 0) := by omega
  simp only [toItemS_ok hk b0, Option.bind_some, specDrop_ok hk hL hx, implDrop_ok hk hL hx, eqItemS_ok hk b0, eqItemS_ok hk hr, mA, mR, hR, nA, nR, decide_true, Bool.not_true, Bool.false_eq_true, if_false, decide_false]
end Go.Proofs.Ytgcndhlbhlnplaa.Ev
