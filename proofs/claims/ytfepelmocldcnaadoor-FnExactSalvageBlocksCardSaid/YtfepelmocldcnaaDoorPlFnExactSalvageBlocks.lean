/- Plain laws of the printed functions. No conditions but those in each statement. -/
import Derived.Test.YtfepelmocldcnaaDoorEv5
import Derived.Test.YtfepelmocldcnaaDoorG3
set_option linter.unusedVariables false
set_option linter.unusedSimpArgs false
namespace Go.Proofs.YtfepelmocldcnaaDoor.Ev
open Go.RowKit
def lowI (y : Int) : Bool := decide (97 ≤ y) && decide (y ≤ 122)
def digI (y : Int) : Bool := decide (48 ≤ y) && decide (y ≤ 57)
def nameI (y : Int) : Bool := lowI y || digI y
/-- A name: one to ten small letters and digits, a letter first. -/
def nameOk (s : List UInt8) : Bool := match s with | [] => false | a :: l => decide ((a :: l).length ≤ 10) && (lowI (z_u8 a) && (a :: l).all fun b => nameI (z_u8 b))
theorem l01Small_ok (y : Int) : spec_l01Small y = some (lowI y) := by
  unfold spec_l01Small lowI
  by_cases h : 97 ≤ y <;> simp [h]
theorem l01Digit_ok (y : Int) : spec_l01Digit y = some (digI y) := by
  unfold spec_l01Digit digI
  by_cases h : 48 ≤ y <;> simp [h]
theorem nameOk_cons (a : UInt8) (l : List UInt8) : nameOk (a :: l) = (decide ((a :: l).length ≤ 10) && (lowI (z_u8 a) && (a :: l).all fun b => nameI (z_u8 b))) := rfl
theorem l01Name_loop {k : Nat} (hk : KK ≤ k) {s : List UInt8} (hs : s.length ≤ 1000000000000) : spec_l01Name_l0 k k s 0 (some true) = if s.all (fun b => nameI (z_u8 b)) = true then some true else some false := by
  have hK := KK_def
  refine loop_all (L := fun n i => spec_l01Name_l0 k n s i (some true)) s ?_ ?_ (n := k) (by omega)
  · intro n i x hx hlt
    have hw := w_succ (i := i) (by omega)
    simp only [spec_l01Name_l0, hlt, decide_true, if_true, Int.natCast_nonneg, Int.toNat_natCast, hx, Option.bind_some, l01Small_ok, l01Digit_ok, hw, nameI]
    by_cases h1 : lowI (z_u8 x) = true <;> by_cases h2 : digI (z_u8 x) = true <;> simp [h1, h2]
  · intro n
    simp [spec_l01Name_l0]
theorem l01Name_ok {k : Nat} (hk : KK ≤ k) {s : List UInt8} (hs : s.length ≤ 1000000000000) : spec_l01Name k s = some (nameOk s) := by
  unfold spec_l01Name
  cases s with
  | nil => simp [nameOk]
  | cons a l =>
    rw [l01Name_loop hk hs, nameOk_cons, decide_eq_false (show ¬ (a :: l = []) by simp), if_neg (by simp)]
    by_cases h : (a :: l).length ≤ 10
    · rw [decide_eq_false (show ¬ (10 < ((a :: l).length : Int)) by omega), if_neg (by simp), decide_eq_true h]
      simp only [List.getElem?_cons_zero, Option.bind_some, l01Small_ok, Bool.true_and]
      cases lowI (z_u8 a)
      · simp
      · cases (a :: l).all (fun b => nameI (z_u8 b)) <;> simp
    · rw [decide_eq_true (show (10 < ((a :: l).length : Int)) by omega), if_pos rfl, decide_eq_false h]
      rfl
theorem isName_loop {k : Nat} (hk : KK ≤ k) (q : List Int) (hq : q.length ≤ 1000000000000) : impl_IsName_l0 k k (q.length : Int) 0 q (some true) = some (q.all nameI && lowI (q.headD 97)) := by
  have hK := KK_def
  have := loop_list (A := Unit) (L := fun n i _ => impl_IsName_l0 k n (q.length : Int) i q (some true)) (I := fun _ _ => True) (G := fun post _ => some (post.all nameI && (decide (post.length ≠ q.length) || lowI (post.headD 97)))) q ?_ ?_ k (by omega) () trivial
  · refine Eq.trans this ?_
    simp
  · intro n pre x post _ hx _ ih hg hlt
    have hw := w_succ (i := pre.length) (by omega)
    have hlt' : pre.length < q.length := by omega
    have ih := ih () trivial
    have hne : decide (post.length ≠ q.length) = true := by rw [hx]; simp <;> omega
    simp only [hne, Bool.true_or, Bool.and_true] at ih
    simp only [impl_IsName_l0, hlt, hlt', decide_true, if_true, Int.natCast_nonneg, Int.toNat_natCast, hg, Option.bind_some, hw, ih, and_self]
    have h0 : decide ((x :: post).length ≠ q.length) = decide (pre.length ≠ 0) := decide_eq_decide.2 (by rw [hx]; simp <;> omega)
    rw [h0]
    simp only [List.all_cons, List.headD_cons, nameI, lowI, digI]
    have h1 : decide ((pre.length : Int) = 0) = decide (pre.length = 0) := decide_eq_decide.2 (by omega)
    rw [h1]
    by_cases g1 : 97 ≤ x <;> by_cases g2 : x ≤ 122 <;> by_cases g3 : 48 ≤ x <;> by_cases g4 : x ≤ 57 <;> by_cases g0 : pre.length = 0 <;> first | omega | simp [g0, g1, g2, g3, g4]
  · intro n _ _
    simp [impl_IsName_l0, lowI]
theorem isName_ok {k : Nat} (hk : KK ≤ k) {s : List UInt8} (hs : s.length ≤ 1000000000000) : impl_IsName k s = some (nameOk s) := by
  have hK := KK_def
  have hL := LIM_def
  unfold impl_IsName
  have hl : (of_S s).length = s.length := by simp [of_S]
  rw [isName_loop hk (of_S s) (by omega), if_pos (show s.length ≤ LIM by omega)]
  cases s with
  | nil => simp [nameOk]
  | cons a l =>
    rw [decide_eq_false (show ¬ (((a :: l).length : Int) < 1) by simp only [List.length_cons]; omega), if_neg (by simp)]
    rw [nameOk_cons]
    by_cases h : (a :: l).length ≤ 10
    · rw [decide_eq_false (show ¬ (10 < ((a :: l).length : Int)) by omega), if_neg (by simp), decide_eq_true h, Bool.true_and]
      have e : (of_S (a :: l)).all nameI = (a :: l).all fun b => nameI (z_u8 b) := by simp [of_S, z_u8, List.all_map, Function.comp_def]
      rw [e, Bool.and_comm]; rfl
    · rw [decide_eq_true (show (10 < ((a :: l).length : Int)) by omega), if_pos rfl, decide_eq_false h]; rfl
theorem indexByte_mem : ∀ (l : List UInt8) (c : UInt8), (decide (0 ≤ Lib.indexByte l c)) = l.any (fun b => b == c)
  | [], c => rfl
  | b :: l, c => by
    have ih := indexByte_mem l c
    have hge := Lib.indexByte_ge l c
    unfold Lib.indexByte
    rw [List.any_cons, ← ih]
    by_cases h : (b == c) = true
    · simp [h]
    · rw [if_neg h]
      have h' : (b == c) = false := by simpa using h
      rw [h', Bool.false_or]
      by_cases h1 : Lib.indexByte l c = -1
      · simp [h1]
      · have h1' : (Lib.indexByte l c == -1) = false := by simpa using h1
        rw [h1', if_neg (by simp)]
        exact decide_eq_decide.2 (by omega)
theorem u8_back (c : UInt8) : (z_u8 c).toNat.toUInt8 = c := by simp [z_u8]
theorem containsOne_ok (s : List UInt8) (c : UInt8) : strings_Contains s [c] = some (s.any fun b => b == c) := by
  unfold strings_Contains strings_Index stringslite_Index stringslite_IndexByte bytealg_IndexByteString
  simp only [List.getElem?_cons_zero, Option.bind_some, u8_back]
  by_cases h : [c] = s
  · subst h; simp
  · rw [decide_eq_false h]
    simp [indexByte_mem]
abbrev Blk := List UInt8 × List UInt8 × List UInt8
theorem eqBlockS_ok {k : Nat} (hk : KK ≤ k) {a b : List Blk} (ha : a.length < 4611686018427387904) : laws_eqBlockS k a b = some (decide (a = b)) := by
  unfold laws_eqBlockS
  by_cases hl : a.length = b.length
  · rw [if_neg (by simp [hl])]
    refine loop_eq (L := fun n i => laws_eqBlockS_l0 k n a b i (some true)) a b hl ?_ ?_ (n := k) (by have := KK_def; omega)
    · intro n i x y hx hy hlt
      have hw := w_succ (i := i) (by omega)
      obtain ⟨x1, x2, x3⟩ := x
      obtain ⟨y1, y2, y3⟩ := y
      simp only [laws_eqBlockS_l0, laws_eqBlock, hlt, decide_true, if_true, Int.natCast_nonneg, Int.toNat_natCast, hx, hy, Option.bind_some, hw, Prod.mk.injEq]
      by_cases e1 : x1 = y1 <;> by_cases e2 : x2 = y2 <;> by_cases e3 : x3 = y3 <;> simp [e1, e2, e3]
    · intro n
      simp [laws_eqBlockS_l0]
  · have h2 : a ≠ b := fun e => hl (by rw [e])
    have h3 : ¬ (a.length : Int) = b.length := by omega
    simp [h3, h2]
def smallB (x : Blk) : Prop := x.1.length ≤ 1048576 ∧ x.2.1.length ≤ 1048576 ∧ x.2.2.length ≤ 1048576
def blkOk (b : Blk) : Bool := nameOk b.1 && (nameOk b.2.1 && (decide (b.2.2.length ≤ 400) && !b.2.2.any fun c => c == 10))
theorem l29One_ok {k : Nat} (hk : KK ≤ k) {b : Blk} (hb : smallB b) : spec_l29One k b = some (blkOk b) := by
  have hK := KK_def
  obtain ⟨h1, h2, h3⟩ := hb
  unfold spec_l29One
  have := loop_all (L := fun n i => spec_l29One_l0 k n b i (fun b_2 => (spec_l01Name k b_2.1).bind fun r_3 => (if r_3 = true then (spec_l01Name k b_2.2.1).bind fun r_4 => (if r_4 = true then some (decide ((List.length b_2.2.2 : Int) ≤ 400)) else some false) else some false)))
    (p := fun c => !(c == 10)) (r := some false) (e := some (nameOk b.1 && (nameOk b.2.1 && decide (b.2.2.length ≤ 400)))) b.2.2 ?_ ?_ (n := k) (by omega)
  · refine Eq.trans this ?_
    unfold blkOk
    have e : (b.2.2.all fun c => !(c == 10)) = !b.2.2.any fun c => c == 10 := by rw [List.not_any_eq_all_not]
    rw [e]
    cases (b.2.2.any fun c => c == 10) <;> cases nameOk b.1 <;> cases nameOk b.2.1 <;> simp
  · intro n i x hx hlt
    have hw := w_succ (i := i) (by omega)
    simp only [spec_l29One_l0, hlt, decide_true, if_true, Int.natCast_nonneg, Int.toNat_natCast, hx, Option.bind_some, hw]
    by_cases h : x = 10
    · subst h; rw [decide_eq_true (show z_u8 10 = 10 from rfl), if_pos rfl]; simp
    · have h' : ¬ z_u8 x = 10 := fun e => h (by have e : (x.toNat : Int) = 10 := e; apply UInt8.toNat.inj; show x.toNat = 10; omega)
      rw [decide_eq_false h', if_neg (by simp), if_pos (by simpa using h)]
  · intro n
    have e2 : decide ((b.2.2.length : Int) ≤ 400) = decide (b.2.2.length ≤ 400) := decide_eq_decide.2 (by omega)
    simp only [spec_l29One_l0, Int.lt_irrefl, decide_false, Bool.false_eq_true, if_false, l01Name_ok hk (show b.1.length ≤ 1000000000000 by omega), l01Name_ok hk (show b.2.1.length ≤ 1000000000000 by omega), Option.bind_some, e2]
    cases nameOk b.1 <;> cases nameOk b.2.1 <;> simp
theorem implValidBlock_ok {k : Nat} (hk : KK ≤ k) {b : Blk} (hb : smallB b) : impl_ValidBlock k b = some (blkOk b) := by
  obtain ⟨h1, h2, h3⟩ := hb
  unfold impl_ValidBlock blkOk
  rw [isName_ok hk (show b.1.length ≤ 1000000000000 by omega), isName_ok hk (show b.2.1.length ≤ 1000000000000 by omega), containsOne_ok]
  have e2 : decide ((b.2.2.length : Int) ≤ 400) = decide (b.2.2.length ≤ 400) := decide_eq_decide.2 (by omega)
  rw [e2]
  cases nameOk b.1 <;> cases nameOk b.2.1 <;> cases decide (b.2.2.length ≤ 400) <;> simp
theorem bl_irrefl : ∀ x : List UInt8, Op.bytesLess x x = false
  | [] => rfl
  | a :: x => by simp [Op.bytesLess, bl_irrefl x]
theorem bl_trans : ∀ x y z : List UInt8, Op.bytesLess x y = true → Op.bytesLess y z = true → Op.bytesLess x z = true
  | _, [], _, h, _ => by simp [Op.bytesLess] at h
  | _, _ :: _, [], _, h => by simp [Op.bytesLess] at h
  | [], _ :: _, _ :: _, _, _ => rfl
  | a :: x, b :: y, c :: z, h1, h2 => by
    simp only [Op.bytesLess, Bool.or_eq_true, Bool.and_eq_true, decide_eq_true_eq, beq_iff_eq] at h1 h2 ⊢
    rcases h1 with h1 | ⟨rfl, h1⟩
    · rcases h2 with h2 | ⟨rfl, h2⟩
      · exact .inl (UInt8.lt_trans h1 h2)
      · exact .inl h1
    · rcases h2 with h2 | ⟨rfl, h2⟩
      · exact .inl h2
      · exact .inr ⟨rfl, bl_trans x y z h1 h2⟩
theorem bl_total : ∀ x y : List UInt8, Op.bytesLess x y = false → x ≠ y → Op.bytesLess y x = true
  | [], [], _, h => absurd rfl h
  | _ :: _, [], _, _ => rfl
  | [], _ :: _, h, _ => by simp [Op.bytesLess] at h
  | a :: x, b :: y, h1, h2 => by
    simp only [Op.bytesLess, Bool.or_eq_false_iff, decide_eq_false_iff_not, Bool.and_eq_false_iff, beq_eq_false_iff_ne] at h1
    simp only [Op.bytesLess, Bool.or_eq_true, Bool.and_eq_true, decide_eq_true_eq, beq_iff_eq]
    by_cases h : a = b
    · subst h
      refine .inr ⟨rfl, bl_total x y (h1.2.resolve_left (fun h => h rfl)) (fun e => h2 (by rw [e]))⟩
    · exact .inl (UInt8.lt_of_le_of_ne (UInt8.not_lt.1 h1.1) (Ne.symm h))
theorem bl_asymm {x y : List UInt8} (h : Op.bytesLess x y = true) : Op.bytesLess y x = false := by
  cases h' : Op.bytesLess y x
  · rfl
  · have := bl_trans x y x h h'
    rw [bl_irrefl] at this; cases this
def cmpS (x y : List UInt8) : Int := if Op.bytesLess x y = true then -1 else if x = y then 0 else 1
theorem cmpString_ok (x y : List UInt8) : cmp_Compare_string x y = some (cmpS x y) := by
  unfold cmp_Compare_string cmp_isNaN_string cmpS
  cases Op.bytesLess x y
  · by_cases h : x = y <;> simp [h]
  · simp
theorem cmpOr2_ok {k : Nat} (hk : KK ≤ k) (a b : Int) : cmp_Or_int k [a, b] = some (if a = 0 then b else a) := by
  have hK := KK_def
  obtain ⟨m, rfl⟩ : ∃ m, k = m + 3 := ⟨k - 3, by omega⟩
  generalize hf : m + 3 = k
  have hw0 : w_i64 1 = 1 := w_id (by omega) (by omega)
  have hw1 : w_i64 2 = 2 := w_id (by omega) (by omega)
  show cmp_Or_int_l0 k k 0 [a, b] 2 0 (fun zero_2 => some zero_2) = _
  conv => lhs; arg 2; rw [← hf]
  by_cases h : a = 0
  · by_cases h' : b = 0
    · subst h; subst h'; simp [cmp_Or_int_l0, hw0, hw1]
    · subst h; simp [cmp_Or_int_l0, hw0, hw1, h']
  · simp [cmp_Or_int_l0, h]
def before (a b : Blk) : Bool := Op.bytesLess a.1 b.1 || (decide (a.1 = b.1) && Op.bytesLess a.2.1 b.2.1)
def cmpB (a b : Blk) : Int := if cmpS a.1 b.1 = 0 then cmpS a.2.1 b.2.1 else cmpS a.1 b.1
theorem l29Before_ok (a b : Blk) : spec_l29Before a b = some (before a b) := by
  unfold spec_l29Before before
  cases Op.bytesLess a.1 b.1
  · by_cases h : a.1 = b.1 <;> simp [h]
  · simp
theorem compareBlocks_ok {k : Nat} (hk : KK ≤ k) (a b : Blk) : impl_compareBlocks k a b = some (cmpB a b) := by
  unfold impl_compareBlocks cmpB
  simp only [cmpString_ok, Option.bind_some, cmpOr2_ok hk]
theorem cmpB_before (a b : Blk) : decide (0 ≤ cmpB a b) = !before a b := by
  unfold cmpB cmpS before
  cases Op.bytesLess a.1 b.1
  · by_cases h : a.1 = b.1
    · cases Op.bytesLess a.2.1 b.2.1
      · by_cases h' : a.2.1 = b.2.1 <;> simp [h, h']
      · simp [h]
    · simp [h]
  · simp
/-- A list of blocks in order. -/
def okAt (l : List Blk) (i : Nat) : Bool := match l[i]? with
  | none => false
  | some y => blkOk y && (if 0 < i then (match l[i - 1]? with | some z => before z y | none => false) else true)
def okBlocks (l : List Blk) : Bool := (List.range l.length).all (okAt l) && decide (l.length ≤ 32)
theorem implValidBlocks_ok {k : Nat} (hk : KK ≤ k) {a : List Blk} (ha : a.length ≤ 1048576) (hx : ∀ x ∈ a, smallB x) : impl_ValidBlocks k a = some (okBlocks a) := by
  have hK := KK_def
  unfold impl_ValidBlocks okBlocks
  have := loop_allN (L := fun n i => impl_ValidBlocks_l0 k n a a (a.length : Int) i (fun list_5 => some (decide ((List.length list_5 : Int) ≤ 32)))) (b := a.length) (p := okAt a) (r := some false) (e := some (decide (a.length ≤ 32))) ?_ ?_ (n := k) (by omega)
  · refine Eq.trans this ?_
    cases (List.range a.length).all (okAt a) <;> simp
  · intro n i hi
    have hlt : (i : Int) < (a.length : Int) := by omega
    have hw := w_succ (i := i) (by omega)
    have hg : a[i]? = some a[i] := List.getElem?_eq_getElem hi
    simp only [impl_ValidBlocks_l0, hlt, decide_true, if_true, Int.natCast_nonneg, Int.toNat_natCast, hg, Option.bind_some, hw, implValidBlock_ok hk (hx a[i] (List.getElem_mem hi)), compareBlocks_ok hk, cmpB_before, okAt]
    cases blkOk a[i]
    · simp
    · by_cases h0 : 0 < i
      · have hw1 : w_i64 ((i : Int) - 1) = ((i - 1 : Nat) : Int) := by rw [w_id (by omega) (by omega)]; omega
        have hg1 : a[i - 1]? = some a[i - 1] := List.getElem?_eq_getElem (by omega)
        have h0' : (0 : Int) < (i : Int) := by omega
        simp only [hw1, Int.natCast_nonneg, Int.toNat_natCast, hg1, h0, h0', decide_true, if_true, Option.bind_some]
        cases before a[i - 1] a[i] <;> simp
      · have h0' : ¬ (0 : Int) < (i : Int) := by omega
        simp [h0, h0']
  · intro n
    have e2 : decide ((a.length : Int) ≤ 32) = decide (a.length ≤ 32) := decide_eq_decide.2 (by omega)
    simp only [impl_ValidBlocks_l0, Int.lt_irrefl, decide_false, Bool.false_eq_true, if_false, e2]
theorem before_iff {a b : Blk} : before a b = true ↔ Op.bytesLess a.1 b.1 = true ∨ (a.1 = b.1 ∧ Op.bytesLess a.2.1 b.2.1 = true) := by
  unfold before; simp
theorem before_irrefl (a : Blk) : before a a = false := by unfold before; simp [bl_irrefl]
theorem before_trans {a b c : Blk} (h1 : before a b = true) (h2 : before b c = true) : before a c = true := by
  rw [before_iff] at *
  rcases h1 with h1 | ⟨e1, h1⟩
  · rcases h2 with h2 | ⟨e2, h2⟩
    · exact .inl (bl_trans _ _ _ h1 h2)
    · exact .inl (e2 ▸ h1)
  · rcases h2 with h2 | ⟨e2, h2⟩
    · exact .inl (e1 ▸ h2)
    · exact .inr ⟨e1.trans e2, bl_trans _ _ _ h1 h2⟩
theorem before_total {a b : Blk} (h1 : before a b = false) (h2 : ¬ (a.1 = b.1 ∧ a.2.1 = b.2.1)) : before b a = true := by
  rw [before_iff]
  have h1' : ¬ (before a b = true) := by simp [h1]
  rw [before_iff] at h1'
  by_cases h : a.1 = b.1
  · right
    refine ⟨h.symm, bl_total _ _ ?_ (fun e => h2 ⟨h, e⟩)⟩
    cases hb : Op.bytesLess a.2.1 b.2.1
    · rfl
    · exact absurd (.inr ⟨h, hb⟩) h1'
  · left
    refine bl_total _ _ ?_ h
    cases hb : Op.bytesLess a.1 b.1
    · rfl
    · exact absurd (.inl hb) h1'
theorem cmpB_neg (a b : Blk) : decide (cmpB a b < 0) = before a b := by
  have := cmpB_before a b
  have h2 : decide (cmpB a b < 0) = !decide (0 ≤ cmpB a b) := by rw [← decide_not]; exact decide_eq_decide.2 (by omega)
  rw [h2, this, Bool.not_not]
theorem cmpB_zero (a b : Blk) : cmpB a b = 0 ↔ (a.1 = b.1 ∧ a.2.1 = b.2.1) := by
  unfold cmpB cmpS
  by_cases h1 : a.1 = b.1
  · rw [h1, bl_irrefl]
    by_cases h2 : a.2.1 = b.2.1
    · rw [h2, bl_irrefl]; simp
    · simp only [Bool.false_eq_true, if_false, if_true, h2, and_false, iff_false]
      split <;> omega
  · have h0 : ¬ (if Op.bytesLess a.1 b.1 = true then (-1 : Int) else if a.1 = b.1 then 0 else 1) = 0 := by
      rw [if_neg h1]; split <;> omega
    rw [if_neg h0]
    exact ⟨fun h => absurd h h0, fun h => absurd h.1 h1⟩
/-- Blocks in order lie so far apart as one likes. -/
theorem okBlocks_sorted {l : List Blk} (h : okBlocks l = true) : l.length ≤ 32 ∧ (∀ x ∈ l, blkOk x = true) ∧ l.Pairwise (fun a b => before a b = true) := by
  unfold okBlocks at h
  simp only [Bool.and_eq_true, List.all_eq_true, List.mem_range, decide_eq_true_eq] at h
  obtain ⟨h1, h2⟩ := h
  refine ⟨h2, fun x hx => ?_, ?_⟩
  · obtain ⟨i, hi⟩ := List.getElem?_of_mem hx
    have hlt := (List.getElem?_eq_some_iff.1 hi).1
    have := h1 i hlt
    unfold okAt at this
    rw [hi] at this
    simp only [Bool.and_eq_true] at this
    exact this.1
  · have step : ∀ i, (hi : i + 1 < l.length) → before l[i] l[i + 1] = true := by
      intro i hi
      have := h1 (i + 1) hi
      unfold okAt at this
      rw [List.getElem?_eq_getElem hi, Nat.add_sub_cancel, List.getElem?_eq_getElem (show i < l.length by omega)] at this
      simp only [Bool.and_eq_true, Nat.succ_pos, if_true, Nat.zero_lt_succ] at this
      exact this.2
    rw [List.pairwise_iff_getElem]
    intro i j hi hj hij
    induction j with
    | zero => omega
    | succ j ih =>
      by_cases e : i = j
      · subst e; exact step i hj
      · exact before_trans (ih (by omega) (by omega)) (step j hj)
theorem mid_ok {i j : Nat} (h : i + j < 4611686018427387904) : w_i64 (Int.fdiv (w_u64 (w_i64 ((i : Int) + (j : Int)))) (2 ^ 1)) = (((i + j) / 2 : Nat) : Int) := by
  rw [w_id (x := (i : Int) + j) (by omega) (by omega)]
  have hu : w_u64 ((i : Int) + (j : Int)) = (i : Int) + j := by unfold w_u64 IntKind.wrap; simp [IntKind.bits, IntKind.signed]; omega
  rw [hu, Int.fdiv_eq_ediv_of_nonneg _ (by omega), w_id (by omega) (by omega)]
  omega
def lowB (l : List Blk) (b : Blk) : Nat := l.findIdx (fun y => !before y b)
theorem lowB_le (l : List Blk) (b : Blk) : lowB l b ≤ l.length := List.findIdx_le_length
theorem lowB_lt {l : List Blk} {b : Blk} {i : Nat} (h : i < lowB l b) (hi : i < l.length) : before l[i] b = true := by
  have := List.not_of_lt_findIdx h
  simpa using this
theorem lowB_ge {l : List Blk} {b : Blk} (hs : l.Pairwise (fun a b => before a b = true)) {i : Nat} (h : lowB l b ≤ i) (hi : i < l.length) : before l[i] b = false := by
  have hp : lowB l b < l.length := by omega
  have h0 : before l[lowB l b] b = false := by
    have := List.findIdx_getElem (xs := l) (p := fun y => !before y b) (w := hp)
    simp only [Bool.not_eq_true'] at this
    exact this
  by_cases e : i = lowB l b
  · subst e; exact h0
  · cases hb : before l[i] b
    · rfl
    · have h1 := List.pairwise_iff_getElem.1 hs (lowB l b) i hp hi (by omega)
      rw [before_trans h1 hb] at h0; cases h0
theorem binSearch_loop {k : Nat} (hk : KK ≤ k) {l : List Blk} (hl : l.length ≤ 1048576) (hs : l.Pairwise (fun a b => before a b = true)) (b : Blk) {e : List Blk → Unit → Int → Int → Blk → Option (Int × Bool)} :
    ∀ (d : Nat) (i j n : Nat), j - i ≤ d → d < n → i ≤ lowB l b → lowB l b ≤ j → j ≤ l.length → slices_BinarySearchFunc_impl_Block__impl_compareBlocks_l0 k n l () (l.length : Int) (i : Int) (j : Int) b e = e l () (l.length : Int) ((lowB l b : Nat) : Int) b := by
  intro d
  induction d with
  | zero =>
    intro i j n h1 h2 h3 h4 h5
    obtain ⟨n, rfl⟩ : ∃ m, n = m + 1 := ⟨n - 1, by omega⟩
    have hlt : ¬ (i : Int) < (j : Int) := by omega
    simp only [slices_BinarySearchFunc_impl_Block__impl_compareBlocks_l0, hlt, decide_false, Bool.false_eq_true, if_false]
    rw [show i = lowB l b by omega]
  | succ d ih =>
    intro i j n h1 h2 h3 h4 h5
    obtain ⟨n, rfl⟩ : ∃ m, n = m + 1 := ⟨n - 1, by omega⟩
    by_cases hij : i < j
    · have hlt : (i : Int) < (j : Int) := by omega
      have hm : (i + j) / 2 < l.length := by omega
      have hw := w_succ (i := (i + j) / 2) (by omega)
      simp only [slices_BinarySearchFunc_impl_Block__impl_compareBlocks_l0, hlt, decide_true, if_true, mid_ok (show i + j < 4611686018427387904 by omega), Int.natCast_nonneg, Int.toNat_natCast, List.getElem?_eq_getElem hm, Option.bind_some, compareBlocks_ok hk, cmpB_neg, hw]
      by_cases hb : before l[(i + j) / 2] b = true
      · rw [if_pos hb]
        refine ih _ _ _ (by omega) (by omega) ?_ h4 h5
        by_cases hq : lowB l b ≤ (i + j) / 2
        · rw [lowB_ge hs hq hm] at hb; cases hb
        · omega
      · rw [if_neg hb]
        refine ih _ _ _ (by omega) (by omega) h3 ?_ (by omega)
        by_cases hq : (i + j) / 2 < lowB l b
        · exact absurd (lowB_lt hq hm) hb
        · omega
    · have hlt : ¬ (i : Int) < (j : Int) := by omega
      simp only [slices_BinarySearchFunc_impl_Block__impl_compareBlocks_l0, hlt, decide_false, Bool.false_eq_true, if_false]
      rw [show i = lowB l b by omega]
def hereB (l : List Blk) (b : Blk) : Bool := match l[lowB l b]? with | some y => decide (y.1 = b.1 ∧ y.2.1 = b.2.1) | none => false
theorem blockAt_ok {k : Nat} (hk : KK ≤ k) {l : List Blk} (hl : l.length ≤ 1048576) (hs : l.Pairwise (fun a b => before a b = true)) (b : Blk) : impl_blockAt k l b = some (((lowB l b : Nat) : Int), hereB l b) := by
  have hK := KK_def
  unfold impl_blockAt slices_BinarySearchFunc_impl_Block__impl_compareBlocks
  have := lowB_le l b
  have h0 : ∀ e : List Blk → Unit → Int → Int → Blk → Option (Int × Bool), slices_BinarySearchFunc_impl_Block__impl_compareBlocks_l0 k k l () (l.length : Int) 0 (l.length : Int) b e = e l () (l.length : Int) ((lowB l b : Nat) : Int) b :=
    fun e => binSearch_loop hk hl hs b l.length 0 l.length k (by omega) (by omega) (by omega) (by omega) (by omega)
  rw [h0]
  unfold hereB
  by_cases h : lowB l b < l.length
  · have h' : ((lowB l b : Nat) : Int) < (l.length : Int) := by omega
    simp only [h', decide_true, if_true, Int.natCast_nonneg, Int.toNat_natCast, List.getElem?_eq_getElem h, Option.bind_some, compareBlocks_ok hk, cmpB_zero]
  · have h' : ¬ ((lowB l b : Nat) : Int) < (l.length : Int) := by omega
    rw [decide_eq_false h', if_neg (by simp), List.getElem?_eq_none (by omega)]
    rfl
/-- In order, the first with a key is the one at its place. -/
theorem find_low {l : List Blk} (hs : l.Pairwise (fun a b => before a b = true)) (b : Blk) : idxP (fun y : Blk => decide (y.1 = b.1 ∧ y.2.1 = b.2.1)) l = if hereB l b = true then ((lowB l b : Nat) : Int) else -1 := by
  unfold idxP hereB
  have key : ∀ i (hi : i < l.length), (l[i].1 = b.1 ∧ l[i].2.1 = b.2.1) → lowB l b = i := by
    intro i hi hkey
    have c0 : ∀ z : Blk, before z l[i] = before z b := by intro z; unfold before; rw [hkey.1, hkey.2]
    have c1 : before l[i] b = false := by rw [← c0]; exact before_irrefl _
    have a1 : lowB l b ≤ i := by
      by_cases h : i < lowB l b
      · rw [lowB_lt h hi] at c1; cases c1
      · omega
    by_cases h : lowB l b = i
    · exact h
    · have h1 := List.pairwise_iff_getElem.1 hs (lowB l b) i (by omega) hi (by omega)
      rw [c0] at h1
      rw [lowB_ge hs (Nat.le_refl _) (by omega)] at h1; cases h1
  cases hf : l.findIdx? (fun y : Blk => decide (y.1 = b.1 ∧ y.2.1 = b.2.1)) with
  | some i =>
    obtain ⟨hlt, hp, _⟩ := List.findIdx?_eq_some_iff_getElem.1 hf
    have hp' : l[i].1 = b.1 ∧ l[i].2.1 = b.2.1 := by simpa using hp
    rw [key i hlt hp', List.getElem?_eq_getElem hlt]
    simp [hp'.1, hp'.2]
  | none =>
    rw [List.findIdx?_eq_none_iff] at hf
    cases hg : l[lowB l b]? with
    | none => simp
    | some y =>
      have := hf y (List.mem_of_getElem? hg)
      simp only [this]; simp
theorem cloneB_ok {a : List Blk} (ha : a.length ≤ 1048576) : slices_Clone_impl_Block a = some a := by
  have hL := LIM_def
  unfold slices_Clone_impl_Block
  have h : (([] : List Unit).length + a.length) * 48 ≤ LIM := by simp only [List.length_nil]; omega
  rw [if_pos h]
  cases a with
  | nil => simp [both]
  | cons x l => simp
def sameK (y b : Blk) : Bool := decide (y.1 = b.1) && decide (y.2.1 = b.2.1)
/-- A block at its place, the one with its key taken out. -/
def putR (b : Blk) : Bool → List Blk → List Blk
  | done, [] => if done then [] else [b]
  | done, y :: l => (if done then [] else if before y b then [] else [b]) ++ ((if sameK y b then [] else [y]) ++ putR b (done || !before y b) l)
theorem putR_len (b : Blk) : ∀ (l : List Blk) (d : Bool), (putR b d l).length ≤ l.length + 1
  | [], d => by unfold putR; split <;> simp
  | y :: l, d => by
    have h1 := putR_len b l true
    have h0 := putR_len b l d
    have hd : ∀ l : List Blk, (putR b true l).length ≤ l.length := by
      intro l
      induction l with
      | nil => simp [putR]
      | cons y l ih => simp only [putR, Bool.true_or, if_true, List.nil_append, List.length_append, List.length_cons]; split <;> simp <;> omega
    have h2 := hd l
    unfold putR
    cases d
    · cases before y b
      · simp only [Bool.false_eq_true, if_false, Bool.not_false, Bool.or_true, List.length_append, List.length_cons, List.length_nil]
        split <;> simp <;> omega
      · simp only [Bool.false_eq_true, if_false, if_true, Bool.not_true, Bool.or_false, List.nil_append, List.length_append, List.length_cons]
        split <;> simp <;> omega
    · simp only [if_true, Bool.true_or, List.nil_append, List.length_append, List.length_cons]
      split <;> simp <;> omega
theorem c48 {n : Nat} (h : n ≤ 200000000000) : (n + 1) * 48 ≤ LIM := by have := LIM_def; omega
theorem l29Put_ok {k : Nat} (hk : KK ≤ k) {l : List Blk} (hl : l.length ≤ 100000000000) (b : Blk) : spec_l29Put k l b = some (putR b false l) := by
  have hK := KK_def
  unfold spec_l29Put
  obtain ⟨E, hE⟩ : ∃ E : Bool → List Blk → Blk → Option (List Blk), E = fun done_16 q_17 v_18 => (if (!done_16) = true then (if (q_17.length + [v_18].length) * 48 ≤ LIM then some (q_17 ++ [v_18]) else none) else some q_17) := ⟨_, rfl⟩
  rw [← hE]
  have := loop_list (A := Bool × List Blk) (L := fun n i q => spec_l29Put_l0 k n l q.1 i q.2 b E)
    (I := fun pre q => q.2.length ≤ pre.length + (if q.1 = true then 1 else 0)) (G := fun post q => some (q.2 ++ putR b q.1 post)) l ?_ ?_ k (by omega) (false, []) (by simp)
  · exact this
  · intro n pre x post q hx hq ih hg hlt
    have hw := w_succ (i := pre.length) (by omega)
    obtain ⟨d, q⟩ := q
    simp only at hq ih ⊢
    have hpl : pre.length < l.length := by omega
    have hq1 : q.length ≤ pre.length + 1 := by split at hq <;> omega
    have c1 : (q.length + [b].length) * 48 ≤ LIM := c48 (by omega)
    have c3 : (q.length + [x].length) * 48 ≤ LIM := c48 (by clear c1; omega)
    have c2 : ((q ++ [b]).length + [x].length) * 48 ≤ LIM := by rw [List.length_append]; exact c48 (n := q.length + 1) (by clear c1 c3; omega)
    have ih' : ∀ (d' : Bool) (q' : List Blk), q'.length ≤ pre.length + 1 + (if d' = true then 1 else 0) → spec_l29Put_l0 k n l d' ((pre.length + 1 : Nat) : Int) q' b E = some (q' ++ putR b d' post) := fun d' q' h => ih (d', q') (by simpa using h)
    clear ih
    simp only [spec_l29Put_l0, hlt, decide_true, if_true, Int.natCast_nonneg, Int.toNat_natCast, hg, Option.bind_some, hw, l29Before_ok, c1, c2, c3]
    clear c1 c2 c3
    generalize ((pre.length + 1 : Nat) : Int) = j at ih' ⊢
    cases d
    · have hq' : q.length ≤ pre.length := by simpa using hq
      cases hb : before x b
      · have i1 := ih' true (q ++ [b] ++ [x]) (by simp; omega)
        have i2 := ih' true (q ++ [b]) (by simp; omega)
        simp only [Bool.not_false, if_true, putR, hb, Bool.or_true, Bool.false_eq_true, if_false]
        by_cases h1 : x.1 = b.1
        · by_cases h2 : x.2.1 = b.2.1
          · simp only [h1, h2, decide_true, Bool.not_true, Bool.false_eq_true, if_false, i2, sameK, Bool.and_self, if_true]
            simp
          · simp only [h1, h2, decide_true, decide_false, Bool.not_true, Bool.not_false, Bool.false_eq_true, if_false, if_true, i1, sameK, Bool.and_false]
            simp
        · simp only [h1, decide_false, Bool.not_false, if_true, i1, sameK, Bool.false_and, Bool.false_eq_true, if_false]
          simp
      · have i1 := ih' false (q ++ [x]) (by simp; omega)
        have i2 := ih' false q (by simp; omega)
        simp only [Bool.not_false, if_true, putR, hb, Bool.not_true, Bool.or_false, Bool.false_eq_true, if_false]
        by_cases h1 : x.1 = b.1
        · by_cases h2 : x.2.1 = b.2.1
          · simp only [h1, h2, decide_true, Bool.not_true, Bool.false_eq_true, if_false, i2, sameK, Bool.and_self, if_true]
            simp
          · simp only [h1, h2, decide_true, decide_false, Bool.not_true, Bool.not_false, Bool.false_eq_true, if_false, if_true, i1, sameK, Bool.and_false]
            simp
        · simp only [h1, decide_false, Bool.not_false, if_true, i1, sameK, Bool.false_and, Bool.false_eq_true, if_false]
          simp
    · have i1 := ih' true (q ++ [x]) (by simp; omega)
      have i2 := ih' true q (by simp; omega)
      simp only [Bool.not_true, Bool.false_eq_true, if_false, putR, if_true, Bool.true_or]
      by_cases h1 : x.1 = b.1
      · by_cases h2 : x.2.1 = b.2.1
        · simp only [h1, h2, decide_true, Bool.not_true, Bool.false_eq_true, if_false, i2, sameK, Bool.and_self, if_true]
          simp
        · simp only [h1, h2, decide_true, decide_false, Bool.not_true, Bool.not_false, Bool.false_eq_true, if_false, if_true, i1, sameK, Bool.and_false]
          simp
      · simp only [h1, decide_false, Bool.not_false, if_true, i1, sameK, Bool.false_and, Bool.false_eq_true, if_false]
        simp
  · intro n q hq
    obtain ⟨d, q⟩ := q
    simp only at hq ⊢
    have hq1 : q.length ≤ l.length + 1 := by split at hq <;> omega
    have c1 : (q.length + [b].length) * 48 ≤ LIM := c48 (by omega)
    simp only [spec_l29Put_l0, Int.lt_irrefl, decide_false, Bool.false_eq_true, if_false]
    subst hE
    cases d
    · simp only [Bool.not_false, if_true, if_pos c1, putR, Bool.false_eq_true, if_false]
    · simp only [Bool.not_true, Bool.false_eq_true, if_false, putR, if_true, List.append_nil]
/-- In order: what is ahead, the block, what is behind. -/
def putS (l : List Blk) (b : Blk) : List Blk := l.take (lowB l b) ++ (b :: l.drop (if hereB l b = true then lowB l b + 1 else lowB l b))
theorem putR_true {b : Blk} : ∀ {l : List Blk}, (∀ y ∈ l, sameK y b = false) → putR b true l = l
  | [], _ => rfl
  | y :: l, h => by
    have := putR_true (b := b) (l := l) fun z hz => h z (by simp [hz])
    simp [putR, h y (by simp), this]
theorem sameK_iff {y b : Blk} : sameK y b = true ↔ y.1 = b.1 ∧ y.2.1 = b.2.1 := by simp [sameK]
theorem putR_sorted {b : Blk} : ∀ {l : List Blk}, l.Pairwise (fun a b => before a b = true) → putR b false l = putS l b
  | [], _ => by simp [putR, putS, lowB, hereB]
  | y :: l, h => by
    obtain ⟨h1, h2⟩ := List.pairwise_cons.1 h
    cases hb : before y b
    · have hlow : lowB (y :: l) b = 0 := by simp [lowB, List.findIdx_cons, hb]
      have hrest : ∀ z ∈ l, sameK z b = false := by
        intro z hz
        cases hs : sameK z b
        · rfl
        · obtain ⟨e1, e2⟩ := sameK_iff.1 hs
          have := h1 z hz
          unfold before at this hb
          rw [e1, e2] at this
          rw [this] at hb; cases hb
      have hh : hereB (y :: l) b = sameK y b := by
        unfold hereB
        rw [hlow]
        simp only [List.getElem?_cons_zero, sameK]
        by_cases e1 : y.1 = b.1 <;> by_cases e2 : y.2.1 = b.2.1 <;> simp [e1, e2]
      unfold putS
      rw [hlow, hh]
      simp only [putR, hb, Bool.not_false, Bool.or_true, putR_true hrest, Bool.false_eq_true, if_false]
      cases sameK y b <;> simp
    · have hlow : lowB (y :: l) b = lowB l b + 1 := by simp [lowB, List.findIdx_cons, hb]
      have hs : sameK y b = false := by
        cases hs : sameK y b
        · rfl
        · obtain ⟨e1, e2⟩ := sameK_iff.1 hs
          have e : before y b = before b b := by unfold before; rw [e1, e2]
          rw [e, before_irrefl] at hb; cases hb
      have hh : hereB (y :: l) b = hereB l b := by unfold hereB; rw [hlow]; simp
      have ih := putR_sorted (b := b) h2
      simp only [putR, hb, hs, Bool.not_true, Bool.or_false, ih, Bool.false_eq_true, if_false, if_true]
      unfold putS
      rw [hlow, hh]
      cases hereB l b <;> simp
theorem hereB_lt' {a : List Blk} {b : Blk} (h : hereB a b = true) : lowB a b < a.length := by
  unfold hereB at h
  cases hg : a[lowB a b]? with
  | none => rw [hg] at h; cases h
  | some y => exact (List.getElem?_eq_some_iff.1 hg).1
theorem putBlock_ok {k : Nat} (hk : KK ≤ k) {l : List Blk} (hl : l.length ≤ 1048576) (hs : l.Pairwise (fun a b => before a b = true)) (b : Blk) : impl_putBlock k l b = some (putS l b) := by
  have hL := LIM_def
  have hle := lowB_le l b
  unfold impl_putBlock putS
  rw [cloneB_ok hl, Option.bind_some, blockAt_ok hk hl hs, Option.bind_some]
  cases hh : hereB l b
  · have c : 0 ≤ ((lowB l b : Nat) : Int) ∧ ((lowB l b : Nat) : Int) ≤ (l.length : Int) ∧ 0 < List.length [b] ∧ (l.length + List.length [b]) * 48 ≤ LIM := ⟨by omega, by omega, by simp, by simp only [List.length_singleton]; omega⟩
    simp only [Bool.false_eq_true, if_false, slices_Insert_impl_Block_s, if_pos c, Option.bind_some, Int.toNat_natCast, List.append_assoc, List.singleton_append]
  · have hlt := hereB_lt' hh
    have c : (0 : Int) ≤ ((lowB l b : Nat) : Int) ∧ lowB l b < l.length := ⟨by omega, hlt⟩
    simp only [if_true, Int.toNat_natCast, List.getElem?_eq_getElem hlt, Option.bind_some]
    rw [if_pos c]
    rw [List.set_eq_take_append_cons_drop, if_pos hlt]
theorem putS_len (l : List Blk) (b : Blk) : (putS l b).length ≤ l.length + 1 := by
  unfold putS
  simp only [List.length_append, List.length_take, List.length_cons, List.length_drop]
  split <;> omega
/-- What is put in order stays in order. -/
theorem putS_sorted {l : List Blk} (hs : l.Pairwise (fun a b => before a b = true)) (b : Blk) : (putS l b).Pairwise (fun a b => before a b = true) := by
  have hsub : (l.take (lowB l b) ++ l.drop (if hereB l b = true then lowB l b + 1 else lowB l b)).Pairwise (fun a b => before a b = true) := by
    refine hs.sublist ?_
    conv => rhs; rw [← List.take_append_drop (lowB l b) l]
    refine List.Sublist.append (List.Sublist.refl _) ?_
    split
    · rw [← List.drop_drop]; exact List.drop_sublist _ _
    · exact List.Sublist.refl _
  obtain ⟨p1, p2, p3⟩ := List.pairwise_append.1 hsub
  unfold putS
  refine List.pairwise_append.2 ⟨p1, List.pairwise_cons.2 ⟨fun y hy => ?_, p2⟩, fun x hx y hy => ?_⟩
  · obtain ⟨i, hi⟩ := List.getElem?_of_mem hy
    rw [List.getElem?_drop] at hi
    obtain ⟨hlt, he⟩ := List.getElem?_eq_some_iff.1 hi
    have hge : lowB l b ≤ (if hereB l b = true then lowB l b + 1 else lowB l b) + i := by split <;> omega
    have h1 := lowB_ge hs hge hlt
    rw [he] at h1
    refine before_total h1 fun hkey => ?_
    -- same key: then it is the one at its place, which is taken out
    have h0 : lowB l b < l.length := by omega
    have hb0 := lowB_ge hs (Nat.le_refl _) h0
    by_cases e : (if hereB l b = true then lowB l b + 1 else lowB l b) + i = lowB l b
    · have hn : hereB l b = false := by
        cases hh : hereB l b
        · rfl
        · rw [hh] at e; simp only [if_true] at e; omega
      have hle : l[lowB l b] = y := by rw [← he]; congr 1; exact e.symm
      have : hereB l b = true := by unfold hereB; rw [List.getElem?_eq_getElem h0, hle]; simp [hkey.1, hkey.2]
      rw [hn] at this; cases this
    · have h2 := List.pairwise_iff_getElem.1 hs (lowB l b) _ h0 hlt (by omega)
      rw [he] at h2
      have c : before l[lowB l b] y = before l[lowB l b] b := by unfold before; rw [hkey.1, hkey.2]
      rw [c, hb0] at h2; cases h2
  · rcases List.mem_cons.1 hy with rfl | hy
    · obtain ⟨i, hi⟩ := List.getElem?_of_mem hx
      obtain ⟨hlt, he⟩ := List.getElem?_eq_some_iff.1 hi
      rw [List.length_take] at hlt
      rw [List.getElem_take] at he
      rw [← he]
      exact lowB_lt (by omega) (by omega)
    · exact p3 x hx y hy
theorem putS_mem {l : List Blk} {b y : Blk} (h : y ∈ putS l b) : y = b ∨ y ∈ l := by
  unfold putS at h
  rcases List.mem_append.1 h with h | h
  · exact .inr (List.mem_of_mem_take h)
  · rcases List.mem_cons.1 h with h | h
    · exact .inl h
    · exact .inr (List.mem_of_mem_drop h)
/-- A text divided at each byte; cur: what stands ahead of it since the last one. -/
def splitA (b : UInt8) : List UInt8 → List UInt8 → List (List UInt8)
  | cur, [] => [cur]
  | cur, x :: l => if x = b then cur :: splitA b [] l else splitA b (cur ++ [x]) l
def splitL (b : UInt8) (s : List UInt8) : List (List UInt8) := splitA b [] s
theorem splitA_pos (b : UInt8) : ∀ (l cur : List UInt8), 0 < (splitA b cur l).length
  | [], cur => by simp [splitA]
  | x :: l, cur => by
    unfold splitA
    split
    · simp
    · exact splitA_pos b l _
theorem splitA_len (b : UInt8) : ∀ (l cur : List UInt8), (splitA b cur l).length = l.count b + 1
  | [], cur => by simp [splitA]
  | x :: l, cur => by
    unfold splitA
    by_cases h : x = b
    · rw [if_pos h, List.length_cons, splitA_len b l, h, List.count_cons_self]
    · rw [if_neg h, splitA_len b l, List.count_cons_of_ne h]
theorem splitA_le (b : UInt8) : ∀ (l cur : List UInt8), (splitA b cur l).length ≤ l.length + 1 := fun l cur => by
  rw [splitA_len]; have := List.count_le_length (a := b) (l := l); omega
theorem splitA_mem (b : UInt8) : ∀ (l cur x : List UInt8), x ∈ splitA b cur l → x.length ≤ cur.length + l.length
  | [], cur, x, h => by
    simp [splitA] at h
    subst h; simp
  | y :: l, cur, x, h => by
    unfold splitA at h
    split at h
    · rcases List.mem_cons.1 h with rfl | h
      · simp
      · have := splitA_mem b l [] x h; simp at this ⊢; omega
    · have := splitA_mem b l _ x h; simp at this ⊢; omega
theorem splitA_none {b : UInt8} : ∀ (l cur : List UInt8), b ∉ l → splitA b cur l = [cur ++ l]
  | [], cur, _ => by simp [splitA]
  | x :: l, cur, h => by
    have h1 : ¬ x = b := fun e => h (by simp [e])
    unfold splitA
    rw [if_neg h1, splitA_none l _ (fun e => h (by simp [e]))]
    simp
theorem splitA_at {b : UInt8} : ∀ (pre cur l : List UInt8), b ∉ pre → splitA b cur (pre ++ b :: l) = (cur ++ pre) :: splitA b [] l
  | [], cur, l, _ => by simp [splitA]
  | x :: pre, cur, l, h => by
    have h1 : ¬ x = b := fun e => h (by simp [e])
    show splitA b cur (x :: (pre ++ b :: l)) = _
    rw [splitA, if_neg h1, splitA_at pre _ l (fun e => h (by simp [e]))]
    simp
theorem z_u8_eq (x c : UInt8) : decide (z_u8 x = z_u8 c) = decide (x = c) := by
  refine decide_eq_decide.2 ⟨fun e => ?_, fun e => by rw [e]⟩
  have e : (x.toNat : Int) = (c.toNat : Int) := e
  apply UInt8.toNat.inj
  omega
theorem l01Split_ok {k : Nat} (hk : KK ≤ k) {s : List UInt8} (hs : s.length ≤ 1000000000) (c : UInt8) : spec_l01Split k s (z_u8 c) = some (splitL c s) := by
  have hK := KK_def
  have hL := LIM_def
  unfold spec_l01Split
  have := loop_list (α := UInt8) (A := Int × List (List UInt8)) (L := fun n i z => spec_l01Split_l0 k n s (z_u8 c) z.1 i z.2 (fun s_3 from_4 q_5 => (if 0 ≤ from_4 ∧ from_4 ≤ (s_3.length : Int) ∧ (s_3.length : Int) ≤ s_3.length then (if (q_5.length + [((s_3.drop from_4.toNat).take (s_3.length - from_4.toNat))].length) * 16 ≤ LIM then some (q_5 ++ [((s_3.drop from_4.toNat).take (s_3.length - from_4.toNat))]) else none) else none)))
    (I := fun pre z => ∃ f : Nat, z.1 = (f : Int) ∧ f ≤ pre.length ∧ z.2.length ≤ pre.length ∧ z.2 ++ splitA c ((s.drop f).take (pre.length - f)) (s.drop pre.length) = splitL c s) (G := fun _ _ => some (splitL c s)) s ?_ ?_ k (by omega) (0, []) ⟨0, rfl, by simp, by simp, by simp [splitL]⟩
  · exact this
  · rintro n pre x post ⟨f0, q⟩ hx ⟨f, e1, e2, e3, e4⟩ ih hg hlt
    simp only at e1 e3 e4 ih
    subst e1
    have hw := w_succ (i := pre.length) (by omega)
    have hpl : pre.length < s.length := by rw [hx]; simp
    have hd : s.drop pre.length = x :: s.drop (pre.length + 1) := by rw [hx]; simp
    rw [hd] at e4
    unfold splitA at e4
    simp only [spec_l01Split_l0, hlt, decide_true, if_true, Int.natCast_nonneg, Int.toNat_natCast, hg, Option.bind_some, z_u8_eq, hw]
    by_cases h : x = c
    · have b1 : (f : Int) ≤ (pre.length : Int) := by omega
      have b2 : (pre.length : Int) ≤ (s.length : Int) := by omega
      have hlim : (q.length + 1) * 16 ≤ LIM := by omega
      rw [if_pos h] at e4
      simp only [h, decide_true, if_true, b1, b2, and_self, List.length_singleton, hlim]
      refine ih (_, _) ⟨pre.length + 1, rfl, by simp, by simp; omega, ?_⟩
      simp only [List.length_append, List.length_singleton, Nat.sub_self, List.take_zero, List.append_assoc, List.singleton_append]
      exact e4
    · rw [if_neg h] at e4
      simp only [h, decide_false, Bool.false_eq_true, if_false]
      refine ih (_, _) ⟨f, rfl, by simp; omega, by simp; omega, ?_⟩
      simp only [List.length_append, List.length_singleton]
      rw [← e4]
      congr 1
      have e5 : (s.drop f).take (pre.length + 1 - f) = (s.drop f).take (pre.length - f) ++ [x] := by
        rw [show pre.length + 1 - f = (pre.length - f) + 1 by omega, List.take_succ_eq_append_getElem (by rw [List.length_drop]; omega)]
        congr 1
        rw [List.getElem_drop]
        have : s[f + (pre.length - f)]? = some x := by rw [show f + (pre.length - f) = pre.length by omega]; exact hg
        obtain ⟨_, e⟩ := List.getElem?_eq_some_iff.1 this
        simp [e]
      rw [e5]
  · rintro n ⟨f0, q⟩ ⟨f, e1, e2, e3, e4⟩
    simp only at e1 e3 e4
    subst e1
    rw [List.drop_length] at e4
    unfold splitA at e4
    have b1 : (f : Int) ≤ (s.length : Int) := by omega
    have hlim : (q.length + 1) * 16 ≤ LIM := by omega
    simp only [spec_l01Split_l0, Int.lt_irrefl, decide_false, Bool.false_eq_true, if_false, Int.natCast_nonneg, b1, Int.le_refl, and_self, if_true, Int.toNat_natCast, List.length_singleton, hlim]
    rw [e4]
/-- Where a byte stands first. -/
theorem indexByte_none {c : UInt8} : ∀ {l : List UInt8}, Lib.indexByte l c = -1 → c ∉ l
  | [], _ => by simp
  | b :: l, h => by
    have hge := Lib.indexByte_ge l c
    unfold Lib.indexByte at h
    by_cases h1 : (b == c) = true
    · rw [if_pos h1] at h; omega
    · rw [if_neg h1] at h
      by_cases h2 : (Lib.indexByte l c == -1) = true
      · have := indexByte_none (l := l) (by simpa using h2)
        intro hm
        rcases List.mem_cons.1 hm with e | e
        · subst e; simp at h1
        · exact this e
      · rw [if_neg h2] at h; omega
theorem indexByte_some {c : UInt8} : ∀ {l : List UInt8}, Lib.indexByte l c ≠ -1 → ∃ (pre post : List UInt8), l = pre ++ c :: post ∧ c ∉ pre ∧ Lib.indexByte l c = (pre.length : Int)
  | [], h => absurd rfl h
  | b :: l, h => by
    unfold Lib.indexByte at h ⊢
    by_cases h1 : (b == c) = true
    · rw [if_pos h1] at h ⊢
      have : b = c := by simpa using h1
      exact ⟨[], l, by rw [this]; rfl, by simp, rfl⟩
    · rw [if_neg h1] at h ⊢
      by_cases h2 : (Lib.indexByte l c == -1) = true
      · rw [if_pos h2] at h; exact absurd rfl h
      · rw [if_neg h2] at h ⊢
        obtain ⟨pre, post, e1, e2, e3⟩ := indexByte_some (l := l) (by simpa using h2)
        refine ⟨b :: pre, post, by rw [e1]; rfl, ?_, by rw [e3]; simp⟩
        intro hm
        rcases List.mem_cons.1 hm with e | e
        · subst e; simp at h1
        · exact e2 e
theorem indexOne_ok (s : List UInt8) (c : UInt8) : strings_Index s [c] = some (Lib.indexByte s c) := by
  unfold strings_Index stringslite_Index stringslite_IndexByte bytealg_IndexByteString
  simp only [List.getElem?_cons_zero, Option.bind_some, u8_back]
  by_cases h : [c] = s
  · subst h; simp [Lib.indexByte]
  · rw [decide_eq_false h]; simp
theorem countOne_ok {k : Nat} (s : List UInt8) (c : UInt8) : strings_Count k s [c] = some ((s.count c : Nat) : Int) := by
  unfold strings_Count bytealg_CountString
  simp [u8_back, Lib.countByte]
theorem gen_loop {k : Nat} {c : UInt8} {s0 : List UInt8} {N : Nat} (hN : N = s0.count c) (hs0 : s0.length ≤ 1000000000) {E : List UInt8 → Int → List (List UInt8) → Option (List (List UInt8))} :
    ∀ (d n i : Nat) (s : List UInt8) (q : List (List UInt8)), d = s.count c → d < n → i + d = N → q.length = N + 1 → s.length ≤ s0.length → q.take i ++ splitA c [] s = splitL c s0 →
    ∃ s' q', c ∉ s' ∧ q'.length = N + 1 ∧ q'.take N ++ [s'] = splitL c s0 ∧ strings_genSplit_l0 k n s [c] 0 (N : Int) (i : Int) q E = E s' (N : Int) q'
  | d, 0, i, s, q, _, h, _, _, _, _ => by omega
  | 0, n + 1, i, s, q, hd, hn, hi, hq, hsl, hI => by
    have hlt : ¬ (i : Int) < (N : Int) := by omega
    have hc : c ∉ s := by rw [← List.count_eq_zero]; exact hd.symm
    refine ⟨s, q, hc, hq, ?_, ?_⟩
    · rw [splitA_none s [] hc, List.nil_append] at hI
      rw [show N = i by omega]; exact hI
    · simp only [strings_genSplit_l0, hlt, decide_false, Bool.false_eq_true, if_false]
      rw [show i = N by omega]
  | d + 1, n + 1, i, s, q, hd, hn, hi, hq, hsl, hI => by
    have hL := LIM_def
    have hlt : (i : Int) < (N : Int) := by omega
    have hne : Lib.indexByte s c ≠ -1 := fun h => by
      have := List.count_eq_zero.2 (indexByte_none h)
      omega
    obtain ⟨pre, post, e1, e2, e3⟩ := indexByte_some hne
    have hw := w_succ (i := i) (by have := List.count_le_length (a := c) (l := s0); omega)
    have hpl : s.length = pre.length + (post.length + 1) := by rw [e1]; simp
    have w1 : w_i64 ((pre.length : Int) + 0) = (pre.length : Int) := by rw [w_id (by omega) (by omega)]; omega
    have w2 : w_i64 ((pre.length : Int) + (([c] : List UInt8).length : Int)) = ((pre.length + 1 : Nat) : Int) := by rw [List.length_singleton, w_id (by omega) (by omega)]; rfl
    have hneg : ¬ ((pre.length : Int) < 0) := by omega
    have b1 : (pre.length : Int) ≤ (s.length : Int) := by omega
    have b2 : ((pre.length + 1 : Nat) : Int) ≤ (s.length : Int) := by omega
    have hiq : i < q.length := by omega
    have hcnt : post.count c = d := by
      rw [e1, List.count_append, List.count_cons_self, List.count_eq_zero.2 e2] at hd; omega
    have hdr : (s.drop (pre.length + 1)).take (s.length - (pre.length + 1)) = post := by
      rw [List.take_of_length_le (by rw [List.length_drop]; exact Nat.le_refl _), e1]; simp
    have htk : s.take pre.length = pre := by rw [e1]; simp
    obtain ⟨s', q', g1, g2, g3, g4⟩ := gen_loop (k := k) (E := E) hN hs0 d n (i + 1) post (q.set i pre) hcnt.symm (by omega) (by omega) (by rw [List.length_set]; exact hq) (by omega) (by
      rw [List.take_succ_eq_append_getElem (by rw [List.length_set]; exact hiq), List.getElem_set_self, List.take_set_of_le (Nat.le_refl _), List.append_assoc]
      rw [e1, splitA_at pre [] post e2] at hI
      exact hI)
    refine ⟨s', q', g1, g2, g3, ?_⟩
    rw [← g4]
    simp only [strings_genSplit_l0, hlt, decide_true, if_true, indexOne_ok, e3, Option.bind_some, hneg, decide_false, Bool.false_eq_true, if_false, w1, w2, Int.natCast_nonneg, Int.le_refl, b1, b2, and_self, hiq, Int.toNat_natCast, List.getElem?_eq_getElem hiq, hw, hdr, htk]
theorem stringsSplit_ok {k : Nat} (hk : KK ≤ k) {s : List UInt8} (hs : s.length ≤ 1000000000) (c : UInt8) : strings_Split k s [c] = some (splitL c s) := by
  have hK := KK_def
  have hL := LIM_def
  have hcl := List.count_le_length (a := c) (l := s)
  have w1 : w_i64 ((s.length : Int) + 1) = ((s.length + 1 : Nat) : Int) := by rw [w_id (by omega) (by omega)]; rfl
  have w2 : w_i64 (((s.count c : Nat) : Int) + 1) = ((s.count c + 1 : Nat) : Int) := by rw [w_id (by omega) (by omega)]; rfl
  have hmn : (if (((s.length + 1 : Nat) : Int) < ((s.count c + 1 : Nat) : Int)) then ((s.length + 1 : Nat) : Int) else ((s.count c + 1 : Nat) : Int)) = ((s.count c + 1 : Nat) : Int) := if_neg (by omega)
  have w3 : w_i64 (((s.count c + 1 : Nat) : Int) - 1) = ((s.count c : Nat) : Int) := by rw [w_id (by omega) (by omega)]; omega
  have hb : ((s.count c + 1 : Nat) : Int) * 16 ≤ (LIM : Int) := by omega
  unfold strings_Split strings_genSplit
  rw [decide_eq_false (show ¬ ((-1 : Int) = 0) by omega), if_neg (by simp), decide_eq_false (show ¬ ([c] = ([] : List UInt8)) by simp), if_neg (by simp), decide_eq_true (show (-1 : Int) < 0 by omega), if_pos rfl, countOne_ok]
  simp only [Option.bind_some, w1, w2, hmn, Int.natCast_nonneg, Int.le_refl, true_and, w3]
  rw [if_pos hb, Int.toNat_natCast]
  obtain ⟨s', q', g1, g2, g3, g4⟩ := gen_loop (k := k) (c := c) (s0 := s) (N := s.count c) rfl hs (E := fun s_6 i_7 q_8 => (if 0 ≤ i_7 ∧ i_7.toNat < List.length q_8 then (q_8[i_7.toNat]?).bind fun y_9 => (q_8[i_7.toNat]?).bind fun y_10 => (if (0 : Int) ≤ (w_i64 (i_7 + 1)) ∧ (w_i64 (i_7 + 1)) ≤ (q_8.set i_7.toNat s_6).length then some ((q_8.set i_7.toNat s_6).take ((w_i64 (i_7 + 1)).toNat)) else none) else none)) (s.count c) k 0 s (List.replicate (s.count c + 1) []) rfl (by omega) (by omega) (by simp) (Nat.le_refl _) (by simp [splitL])
  have h0 : ((0 : Nat) : Int) = 0 := rfl
  rw [h0] at g4
  rw [g4]
  have hlt : s.count c < q'.length := by omega
  have b3 : ((s.count c + 1 : Nat) : Int) ≤ ((q'.set (s.count c) s').length : Int) := by rw [List.length_set]; omega
  simp only [Int.natCast_nonneg, Int.toNat_natCast, hlt, and_self, if_true, List.getElem?_eq_getElem hlt, Option.bind_some, w2, Int.le_refl, b3]
  rw [List.take_succ_eq_append_getElem (by rw [List.length_set]; exact hlt), List.getElem_set_self, List.take_set_of_le (Nat.le_refl _), g3]
/-- The lines of a text that are ended, and what is behind the last of them. -/
def endedP (s : List UInt8) : List (List UInt8) × List UInt8 := ((splitL 10 s).take ((splitL 10 s).length - 1), (splitL 10 s).getLastD [])
theorem splitL_last {c : UInt8} (s : List UInt8) : (splitL c s)[(splitL c s).length - 1]? = some ((splitL c s).getLastD []) := by
  have h := splitA_pos c s []
  have hne : splitL c s ≠ [] := fun e => by unfold splitL at e; rw [e] at h; simp at h
  rw [← List.getLast?_eq_getElem?, List.getLast?_eq_some_getLast hne, List.getLastD_eq_getLast?, List.getLast?_eq_some_getLast hne]
  rfl
theorem ended_len {s : List UInt8} : (endedP s).1.length ≤ s.length := by
  have := splitA_le 10 s []
  unfold endedP splitL
  rw [List.length_take]; omega
theorem ended_mem {s : List UInt8} : ∀ x ∈ (endedP s).1, x.length ≤ s.length := fun x hx => by
  have := splitA_mem 10 s [] x (List.mem_of_mem_take hx)
  simpa using this
theorem l29Lines_ok {k : Nat} (hk : KK ≤ k) {s : List UInt8} (hs : s.length ≤ 100000000) : spec_l29Lines k s = some ((endedP s).1, decide ((endedP s).2 = [])) := by
  have hp := splitA_pos 10 s []
  have hl := splitA_le 10 s []
  have hlast := splitL_last (c := 10) s
  have e10 : z_u8 10 = 10 := rfl
  have hsp := l01Split_ok hk (show s.length ≤ 1000000000 by omega) 10
  rw [e10] at hsp
  unfold spec_l29Lines endedP
  rw [hsp]
  have hp' : 0 < (splitL 10 s).length := hp
  have hl' : (splitL 10 s).length ≤ s.length + 1 := hl
  have w1 : w_i64 (((splitL 10 s).length : Int) - 1) = (((splitL 10 s).length - 1 : Nat) : Int) := by rw [w_id (by omega) (by omega)]; omega
  have b1 : (((splitL 10 s).length - 1 : Nat) : Int) ≤ ((splitL 10 s).length : Int) := by omega
  have b2 : (splitL 10 s).length - 1 < (splitL 10 s).length := by omega
  simp only [Option.bind_some, w1, Int.natCast_nonneg, Int.le_refl, b1, b2, and_self, if_true, Int.toNat_natCast, hlast]
theorem endedLines_ok {k : Nat} (hk : KK ≤ k) {s : List UInt8} (hs : s.length ≤ 100000000) : impl_endedLines k s = some (endedP s) := by
  have hp := splitA_pos 10 s []
  have hl := splitA_le 10 s []
  have hlast := splitL_last (c := 10) s
  unfold impl_endedLines endedP
  rw [stringsSplit_ok hk (by omega)]
  have hp' : 0 < (splitL 10 s).length := hp
  have hl' : (splitL 10 s).length ≤ s.length + 1 := hl
  have w1 : w_i64 (((splitL 10 s).length : Int) - 1) = (((splitL 10 s).length - 1 : Nat) : Int) := by rw [w_id (by omega) (by omega)]; omega
  have b1 : (((splitL 10 s).length - 1 : Nat) : Int) ≤ ((splitL 10 s).length : Int) := by omega
  have b2 : (splitL 10 s).length - 1 < (splitL 10 s).length := by omega
  simp only [Option.bind_some, w1, Int.natCast_nonneg, Int.le_refl, b1, b2, and_self, if_true, Int.toNat_natCast, hlast]
/-- A text cut at a byte. -/
def cutL (c : UInt8) : List UInt8 → Option (List UInt8 × List UInt8)
  | [] => none
  | x :: l => if x = c then some ([], l) else match cutL c l with | some p => some (x :: p.1, p.2) | none => none
theorem cutL_none {c : UInt8} : ∀ {l : List UInt8}, cutL c l = none ↔ c ∉ l
  | [] => by simp [cutL]
  | x :: l => by
    have ih := cutL_none (c := c) (l := l)
    unfold cutL
    by_cases h : x = c
    · rw [if_pos h]; simp [h]
    · rw [if_neg h]
      cases hc : cutL c l with
      | none =>
        have := ih.1 hc
        simp only [true_iff]
        intro hm
        rcases List.mem_cons.1 hm with e | e
        · exact h e.symm
        · exact this e
      | some p =>
        simp only [reduceCtorEq, false_iff]
        intro hm
        have : c ∉ l := fun e => hm (by simp [e])
        rw [ih.2 this] at hc; cases hc
theorem cutL_some {c : UInt8} : ∀ {l pre post : List UInt8}, cutL c l = some (pre, post) ↔ l = pre ++ c :: post ∧ c ∉ pre
  | [], pre, post => by simp [cutL]
  | x :: l, pre, post => by
    unfold cutL
    by_cases h : x = c
    · rw [if_pos h]
      constructor
      · intro e; cases e; exact ⟨by rw [h]; rfl, by simp⟩
      · rintro ⟨e1, e2⟩
        cases pre with
        | nil => simp at e1; rw [e1.2]
        | cons y pre => simp at e1; exact absurd (by simp [← e1.1, h]) e2
    · rw [if_neg h]
      have ih := fun pre => cutL_some (c := c) (l := l) (pre := pre) (post := post)
      constructor
      · intro e
        cases hc : cutL c l with
        | none => rw [hc] at e; cases e
        | some p =>
          rw [hc] at e
          cases e
          obtain ⟨e1, e2⟩ := (ih p.1).1 hc
          refine ⟨by rw [e1]; rfl, fun hm => ?_⟩
          rcases List.mem_cons.1 hm with e | e
          · exact h e.symm
          · exact e2 e
      · rintro ⟨e1, e2⟩
        cases pre with
        | nil => simp at e1; exact absurd e1.1 h
        | cons y pre =>
          simp at e1
          rw [(ih pre).2 ⟨e1.2, fun hm => e2 (by simp [hm])⟩, e1.1]
theorem cut_ok {s : List UInt8} (hs : s.length ≤ 1000000000) (c : UInt8) : strings_Cut s [c] = some (match cutL c s with | some p => (p.1, p.2, true) | none => (s, [], false)) := by
  have hi : stringslite_Index s [c] = some (Lib.indexByte s c) := by
    have := indexOne_ok s c
    unfold strings_Index at this
    cases h : stringslite_Index s [c] with
    | none => rw [h] at this; cases this
    | some r => rw [h] at this; exact this
  unfold strings_Cut stringslite_Cut
  rw [hi]
  simp only [Option.bind_some]
  by_cases h : Lib.indexByte s c = -1
  · rw [h, decide_eq_false (by omega), if_neg (by simp), cutL_none.2 (indexByte_none h)]; rfl
  · obtain ⟨pre, post, e1, e2, e3⟩ := indexByte_some h
    have hl : s.length = pre.length + (post.length + 1) := by rw [e1]; simp
    have w2 : w_i64 ((pre.length : Int) + (([c] : List UInt8).length : Int)) = ((pre.length + 1 : Nat) : Int) := by rw [List.length_singleton, w_id (by omega) (by omega)]; rfl
    have b1 : (pre.length : Int) ≤ (s.length : Int) := by omega
    have b2 : ((pre.length + 1 : Nat) : Int) ≤ (s.length : Int) := by omega
    have hdr : (s.drop (pre.length + 1)).take (s.length - (pre.length + 1)) = post := by
      rw [List.take_of_length_le (by rw [List.length_drop]; exact Nat.le_refl _), e1]; simp
    have htk : s.take pre.length = pre := by rw [e1]; simp
    rw [e3, decide_eq_true (by omega), if_pos rfl, w2, cutL_some.2 ⟨e1, e2⟩]
    simp only [Int.natCast_nonneg, Int.le_refl, b1, b2, and_self, if_true, Int.toNat_natCast, hdr, htk, Option.bind_some]
theorem ibits_nat {f : (a b : BitVec 64) → BitVec 64} {g : Nat → Nat → Nat} (hf : ∀ a b : BitVec 64, (f a b).toNat = g a.toNat b.toNat) {x y : Nat} (hx : x < 9223372036854775808) (hy : y < 9223372036854775808) (hg : g x y < 9223372036854775808) : ibits .i64 f (x : Int) (y : Int) = ((g x y : Nat) : Int) := by
  have h1 : (BitVec.ofInt 64 (x : Int)).toNat = x := by rw [BitVec.toNat_ofInt]; omega
  have h2 : (BitVec.ofInt 64 (y : Int)).toNat = y := by rw [BitVec.toNat_ofInt]; omega
  have h3 := hf (BitVec.ofInt 64 (x : Int)) (BitVec.ofInt 64 (y : Int))
  rw [h1, h2] at h3
  show w_i64 ((f (BitVec.ofInt 64 (x : Int)) (BitVec.ofInt 64 (y : Int))).toNat : Int) = _
  rw [h3]
  exact w_id (by omega) (by omega)
theorem xor_lt {x y : Nat} (n : Nat) (hx : x < 2 ^ n) (hy : y < 2 ^ n) : x ^^^ y < 2 ^ n := Nat.xor_lt_two_pow hx hy
theorem b_xor {x y : Nat} (hx : x < 4611686018427387904) (hy : y < 4611686018427387904) : b_Xor .i64 (x : Int) (y : Int) = ((x ^^^ y : Nat) : Int) :=
  ibits_nat (g := fun a b => a ^^^ b) (fun a b => BitVec.toNat_xor a b) (by omega) (by omega) (by have := xor_lt 62 (x := x) (y := y) (by omega) (by omega); show x ^^^ y < _; omega)
theorem b_and {x y : Nat} (hx : x < 4611686018427387904) (hy : y < 4611686018427387904) : b_And .i64 (x : Int) (y : Int) = ((x &&& y : Nat) : Int) :=
  ibits_nat (g := fun a b => a &&& b) (fun a b => BitVec.toNat_and a b) (by omega) (by omega) (by have := Nat.and_le_left (n := x) (m := y); show x &&& y < _; omega)
theorem and_mask16 (x : Nat) : x &&& 65535 = x % 65536 := Nat.and_two_pow_sub_one_eq_mod x 16
/-- The check value: one bit, one byte, a text. -/
def crcS (s : Nat) : Nat := if 65535 < 2 * s then ((2 * s) % 65536) ^^^ 4129 else 2 * s
def crc8 : Nat → Nat → Nat
  | 0, s => s
  | n + 1, s => crc8 n (crcS s)
def crcB (s : Nat) (b : UInt8) : Nat := crc8 8 (s ^^^ (b.toNat * 256))
def crcL : List UInt8 → Nat → Nat
  | [], s => s
  | b :: l, s => crcL l (crcB s b)
theorem crcS_lt {s : Nat} (h : s < 65536) : crcS s < 65536 := by
  unfold crcS
  split
  · have := xor_lt 16 (x := (2 * s) % 65536) (y := 4129) (by omega) (by omega); omega
  · omega
theorem crc8_lt : ∀ (n : Nat) {s : Nat}, s < 65536 → crc8 n s < 65536
  | 0, s, h => h
  | n + 1, s, h => crc8_lt n (crcS_lt h)
theorem feed_lt {s : Nat} (h : s < 65536) (b : UInt8) : s ^^^ (b.toNat * 256) < 65536 := by
  have := b.toNat_lt
  have := xor_lt 16 (x := s) (y := b.toNat * 256) (by omega) (by omega); omega
theorem crcB_lt {s : Nat} (h : s < 65536) (b : UInt8) : crcB s b < 65536 := crc8_lt 8 (feed_lt h b)
theorem crcL_lt : ∀ (l : List UInt8) {s : Nat}, s < 65536 → crcL l s < 65536
  | [], s, h => h
  | b :: l, s, h => crcL_lt l (crcB_lt h b)
theorem crcL_append : ∀ (l r : List UInt8) (s : Nat), crcL (l ++ r) s = crcL r (crcL l s)
  | [], r, s => rfl
  | b :: l, r, s => crcL_append l r (crcB s b)
theorem within_ok (n a b : Int) : impl_within n a b = some (decide (a ≤ n ∧ n ≤ b)) := by
  unfold impl_within
  by_cases h : a ≤ n <;> simp [h]
theorem bit_ok {s : Nat} (h : s < 65536) : w_i64 ((s : Int) * 2 ^ 1) = ((2 * s : Nat) : Int) := by
  have : (2 : Int) ^ 1 = 2 := rfl
  rw [this, w_id (by omega) (by omega)]; omega
theorem fold_ok {s : Nat} (h : s < 65536) : b_Xor .i64 (b_And .i64 ((2 * s : Nat) : Int) 65535) 4129 = (((2 * s) % 65536 ^^^ 4129 : Nat) : Int) := by
  have h1 : b_And .i64 ((2 * s : Nat) : Int) 65535 = (((2 * s) % 65536 : Nat) : Int) := by
    have := b_and (x := 2 * s) (y := 65535) (by omega) (by omega)
    rw [and_mask16] at this
    exact this
  rw [h1]
  exact b_xor (x := (2 * s) % 65536) (y := 4129) (by omega) (by omega)
theorem feed_ok {s : Nat} (h : s < 65536) (b : UInt8) : b_Xor .i64 (s : Int) (w_i64 ((w_i64 (z_u8 b)) * 2 ^ 8)) = ((s ^^^ (b.toNat * 256) : Nat) : Int) := by
  have hb := b.toNat_lt
  have e1 : z_u8 b = (b.toNat : Int) := rfl
  have e2 : (2 : Int) ^ 8 = 256 := rfl
  have e3 : w_i64 ((w_i64 (z_u8 b)) * 2 ^ 8) = ((b.toNat * 256 : Nat) : Int) := by
    rw [e1, e2, w_id (x := (b.toNat : Int)) (by omega) (by omega), w_id (by omega) (by omega)]; omega
  rw [e3]
  exact b_xor (by omega) (by omega)
theorem crc_in {k : Nat} {t : List UInt8} {i : Int} {E : List UInt8 → Int → Int → Option Int} : ∀ (m j n s : Nat), j + m = 8 → m < n → s < 65536 → spec_l01Crc_l1 k n t (s : Int) i (j : Int) E = E t (crc8 m s : Nat) i
  | m, j, 0, s, _, h, _ => by omega
  | 0, j, n + 1, s, hj, _, _ => by
    have : ¬ (j : Int) < 8 := by omega
    simp only [spec_l01Crc_l1, this, decide_false, Bool.false_eq_true, if_false, crc8]
  | m + 1, j, n + 1, s, hj, hn, hs => by
    have hlt : (j : Int) < 8 := by omega
    have hw := w_succ (i := j) (by omega)
    have ih := crc_in (k := k) (t := t) (i := i) (E := E) m (j + 1) n (crcS s) (by omega) (by omega) (crcS_lt hs)
    simp only [spec_l01Crc_l1, hlt, decide_true, if_true, bit_ok hs, hw]
    unfold crc8
    by_cases c : 65535 < 2 * s
    · have c' : (65535 : Int) < ((2 * s : Nat) : Int) := by omega
      have e : crcS s = (2 * s) % 65536 ^^^ 4129 := by unfold crcS; rw [if_pos c]
      rw [decide_eq_true c', if_pos rfl, fold_ok hs, ← e]
      exact ih
    · have c' : ¬ (65535 : Int) < ((2 * s : Nat) : Int) := by omega
      have e : crcS s = 2 * s := by unfold crcS; rw [if_neg c]
      rw [decide_eq_false c', if_neg (by simp), ← e]
      exact ih
theorem l01Crc_ok {k : Nat} (hk : KK ≤ k) {t : List UInt8} (ht : t.length ≤ 1000000000000) {s : Nat} (hs : s < 65536) : spec_l01Crc k t (s : Int) = some ((crcL t s : Nat) : Int) := by
  have hK := KK_def
  unfold spec_l01Crc
  have := loop_list (α := UInt8) (A := Int) (L := fun n i z => spec_l01Crc_l0 k n t z i (fun s => some s)) (I := fun pre z => z = (crcL pre s : Nat)) (G := fun _ _ => some ((crcL t s : Nat) : Int)) t ?_ ?_ k (by omega) (s : Int) rfl
  · exact this
  · intro n pre x post z hx hz ih hg hlt
    have hw := w_succ (i := pre.length) (by omega)
    have hl := crcL_lt pre hs
    subst hz
    simp only [spec_l01Crc_l0, hlt, decide_true, if_true, Int.natCast_nonneg, Int.toNat_natCast, hg, Option.bind_some, feed_ok hl]
    have hin := crc_in (k := k) (t := t) (i := (pre.length : Int)) (E := fun s_2 sum_3 i_4 => spec_l01Crc_l0 k n s_2 sum_3 (w_i64 (i_4 + 1)) (fun s => some s)) 8 0 k (crcL pre s ^^^ (x.toNat * 256)) (by omega) (by omega) (feed_lt hl x)
    have h0 : ((0 : Nat) : Int) = 0 := rfl
    rw [h0] at hin
    rw [hin, hw]
    exact ih _ (by rw [crcL_append]; rfl)
  · intro n z hz
    simp only [spec_l01Crc_l0, Int.lt_irrefl, decide_false, Bool.false_eq_true, if_false, hz]
theorem icrc_in {k : Nat} {t : List Int} {a b : Int} {E : Int → Int → Int → List Int → Option Int} : ∀ (m j n s : Nat), j + m = 8 → m < n → s < 65536 → impl_Crc16_l1 k n (s : Int) a b (j : Int) t E = E (crc8 m s : Nat) a b t
  | m, j, 0, s, _, h, _ => by omega
  | 0, j, n + 1, s, hj, _, _ => by
    have : ¬ (j : Int) < 8 := by omega
    simp only [impl_Crc16_l1, this, decide_false, Bool.false_eq_true, if_false, crc8]
  | m + 1, j, n + 1, s, hj, hn, hs => by
    have hlt : (j : Int) < 8 := by omega
    have hw := w_succ (i := j) (by omega)
    have ih := icrc_in (k := k) (t := t) (a := a) (b := b) (E := E) m (j + 1) n (crcS s) (by omega) (by omega) (crcS_lt hs)
    simp only [impl_Crc16_l1, hlt, decide_true, if_true, bit_ok hs, hw]
    unfold crc8
    by_cases c : 65535 < 2 * s
    · have c' : (65535 : Int) < ((2 * s : Nat) : Int) := by omega
      have e : crcS s = (2 * s) % 65536 ^^^ 4129 := by unfold crcS; rw [if_pos c]
      rw [decide_eq_true c', if_pos rfl, fold_ok hs, ← e]
      exact ih
    · have c' : ¬ (65535 : Int) < ((2 * s : Nat) : Int) := by omega
      have e : crcS s = 2 * s := by unfold crcS; rw [if_neg c]
      rw [decide_eq_false c', if_neg (by simp), ← e]
      exact ih
theorem crc16_ok {k : Nat} (hk : KK ≤ k) {t : List UInt8} (ht : t.length ≤ 1000000000000) {s : Nat} (hs : s < 65536) : impl_Crc16 k t (s : Int) = some ((crcL t s : Nat) : Int) := by
  have hK := KK_def
  have hL := LIM_def
  unfold impl_Crc16
  rw [within_ok, decide_eq_true ⟨by omega, by omega⟩]
  simp only [Option.bind_some, Bool.not_true, Bool.false_eq_true, if_false]
  rw [if_pos (by omega)]
  have hlen : (of_S t).length = t.length := by simp [of_S]
  rw [hlen]
  have := loop_list (α := UInt8) (A := Int) (L := fun n i z => impl_Crc16_l0 k n z (t.length : Int) i (of_S t) (fun s => some s)) (I := fun pre z => z = (crcL pre s : Nat)) (G := fun _ _ => some ((crcL t s : Nat) : Int)) t ?_ ?_ k (by omega) (s : Int) rfl
  · exact this
  · intro n pre x post z hx hz ih hg hlt
    have hw := w_succ (i := pre.length) (by omega)
    have hl := crcL_lt pre hs
    have hg2 : (of_S t)[pre.length]? = some (z_u8 x) := by unfold of_S; rw [List.getElem?_map, hg]; rfl
    have hlt' : pre.length < (of_S t).length := by rw [hlen]; omega
    subst hz
    simp only [impl_Crc16_l0, hlt, hlt', decide_true, if_true, Int.natCast_nonneg, Int.toNat_natCast, and_self, hg2, Option.bind_some, feed_ok hl]
    have hin := icrc_in (k := k) (t := of_S t) (a := (t.length : Int)) (b := (pre.length : Int)) (E := fun sum_4 x_5 x_6 q_7 => impl_Crc16_l0 k n sum_4 x_5 (w_i64 (x_6 + 1)) q_7 (fun s => some s)) 8 0 k (crcL pre s ^^^ (x.toNat * 256)) (by omega) (by omega) (feed_lt hl x)
    have h0 : ((0 : Nat) : Int) = 0 := rfl
    rw [h0] at hin
    rw [hin, hw]
    exact ih _ (by rw [crcL_append]; rfl)
  · intro n z hz
    simp only [impl_Crc16_l0, Int.lt_irrefl, decide_false, Bool.false_eq_true, if_false, hz]
theorem u8_dig {d : Nat} (h : d < 10) : z_u8 (UInt8.ofNat (48 + d)) = ((48 + d : Nat) : Int) := by
  have : (UInt8.ofNat (48 + d)).toNat = 48 + d := by simp [UInt8.toNat_ofNat']; omega
  show ((UInt8.ofNat (48 + d)).toNat : Int) = _
  rw [this]
theorem w_dig {d : Nat} (h : d < 10) : w_u8 (w_i64 (48 + (d : Int))) = ((48 + d : Nat) : Int) := by
  rw [w_id (by omega) (by omega)]
  unfold w_u8 IntKind.wrap
  simp [IntKind.bits, IntKind.signed]; omega
/-- The digits, the last one first. -/
def revD (u : Nat) : List Int := if u = 0 then [] else ((Lib.decDigits u).map z_u8).reverse
theorem revD_step {u : Nat} (h : u ≠ 0) : revD u = ((48 + u % 10 : Nat) : Int) :: revD (u / 10) := by
  unfold revD
  rw [if_neg h]
  by_cases h1 : u < 10
  · rw [Lib.decDigits, dif_pos h1, if_pos (by omega)]
    have := u8_dig h1
    rw [Nat.mod_eq_of_lt h1, List.map_cons, List.map_nil, this]
    rfl
  · rw [Lib.decDigits, dif_neg h1, if_neg (by omega)]
    have := u8_dig (d := u % 10) (by omega)
    rw [List.map_append, List.map_cons, List.map_nil, this, List.reverse_append]
    rfl
theorem revD_len : ∀ (j u : Nat), u < 10 ^ j → (revD u).length ≤ j
  | 0, u, h => by
    have : u = 0 := by simpa using h
    subst this; simp [revD]
  | j + 1, u, h => by
    by_cases h0 : u = 0
    · subst h0; simp [revD]
    · rw [revD_step h0, List.length_cons]
      have := revD_len j (u / 10) (by rw [Nat.pow_succ] at h; omega)
      omega
theorem dec_loop {k : Nat} {n0 : Int} {E : Int → List Int → Option (List UInt8)} : ∀ (j u n : Nat) (m : Int) (q : List Int), (m = (u : Int) ∨ m = -(u : Int)) → u < 10 ^ j → u ≤ 9223372036854775808 → -9223372036854775808 ≤ m → m ≤ 9223372036854775807 → q.length + j ≤ 100 → j < n → spec_l01Dec_l0 k n n0 m q E = E n0 (q ++ revD u)
  | j, u, 0, m, q, _, _, _, _, _, _, h => by omega
  | 0, u, n + 1, m, q, hm, hu, _, _, _, _, _ => by
    have h0 : u = 0 := by simpa using hu
    subst h0
    have hm0 : m = 0 := by omega
    subst hm0
    simp [spec_l01Dec_l0, revD]
  | j + 1, u, n + 1, m, q, hm, hu, hub, hm1, hm2, hq, hn => by
    have hL := LIM_def
    by_cases h0 : u = 0
    · subst h0
      have hm0 : m = 0 := by omega
      subst hm0
      simp [spec_l01Dec_l0, revD]
    · have hm0 : ¬ m = 0 := by omega
      have hlim : (q.length + 1) * 1 ≤ LIM := by omega
      have hd : u % 10 < 10 := by omega
      have hj : u / 10 < 10 ^ j := by rw [Nat.pow_succ] at hu; omega
      rcases hm with hm | hm
      · subst hm
        have t1 : Int.tmod (u : Int) 10 = ((u % 10 : Nat) : Int) := by rw [Int.tmod_eq_emod_of_nonneg (by omega)]; omega
        have t2 : Int.tdiv (u : Int) 10 = ((u / 10 : Nat) : Int) := by rw [Int.tdiv_eq_ediv_of_nonneg (by omega)]; omega
        have w2 : w_i64 ((u / 10 : Nat) : Int) = ((u / 10 : Nat) : Int) := w_id (by omega) (by omega)
        have hlt : ¬ (((u % 10 : Nat) : Int) < 0) := by omega
        have ih := dec_loop (k := k) (n0 := n0) (E := E) j (u / 10) n ((u / 10 : Nat) : Int) (q ++ [((48 + u % 10 : Nat) : Int)]) (.inl rfl) hj (by omega) (by omega) (by omega) (by simp; omega) (by omega)
        unfold spec_l01Dec_l0
        rw [decide_eq_false hm0, if_pos (by rfl), t1, t2, decide_eq_false hlt, if_neg (by simp), w_dig hd, w2, List.length_singleton, if_pos hlim, ih, List.append_assoc, revD_step h0]
        rfl
      · subst hm
        have t1 : Int.tmod (-(u : Int)) 10 = -((u % 10 : Nat) : Int) := by rw [Int.neg_tmod, Int.tmod_eq_emod_of_nonneg (by omega)]; omega
        have t2 : Int.tdiv (-(u : Int)) 10 = -((u / 10 : Nat) : Int) := by rw [Int.neg_tdiv, Int.tdiv_eq_ediv_of_nonneg (by omega)]; omega
        have w2 : w_i64 (-((u / 10 : Nat) : Int)) = -((u / 10 : Nat) : Int) := w_id (by omega) (by omega)
        have ih := dec_loop (k := k) (n0 := n0) (E := E) j (u / 10) n (-((u / 10 : Nat) : Int)) (q ++ [((48 + u % 10 : Nat) : Int)]) (.inr rfl) hj (by omega) (by omega) (by omega) (by simp; omega) (by omega)
        unfold spec_l01Dec_l0
        rw [decide_eq_false hm0, if_pos (by rfl), t1, t2, w2]
        by_cases hz : u % 10 = 0
        · have hlt : ¬ (-((u % 10 : Nat) : Int) < 0) := by omega
          have hw : w_u8 (w_i64 (48 + -((u % 10 : Nat) : Int))) = ((48 + u % 10 : Nat) : Int) := by
            rw [hz]
            exact w_dig (d := 0) (by omega)
          rw [decide_eq_false hlt, if_neg (by simp), hw, List.length_singleton, if_pos hlim, ih, List.append_assoc, revD_step h0]
          rfl
        · have hlt : -((u % 10 : Nat) : Int) < 0 := by omega
          have hw : w_u8 (w_i64 (48 + w_i64 (0 - -((u % 10 : Nat) : Int)))) = ((48 + u % 10 : Nat) : Int) := by
            rw [show (0 : Int) - -((u % 10 : Nat) : Int) = ((u % 10 : Nat) : Int) by omega, w_id (x := ((u % 10 : Nat) : Int)) (by omega) (by omega)]
            exact w_dig hd
          rw [decide_eq_true hlt, if_pos rfl, hw, List.length_singleton, if_pos hlim, ih, List.append_assoc, revD_step h0]
          rfl
theorem dec_back {k : Nat} {q : List Int} (hq : q.length ≤ 1000) {E : List Int → Option (List UInt8)} : ∀ (j n : Nat) (acc : List Int), j ≤ q.length → acc.length + j ≤ 1000 → j < n → spec_l01Dec_l1 k n ((j : Int) - 1) q acc E = E (acc ++ (q.take j).reverse)
  | j, 0, _, _, _, h => by omega
  | 0, n + 1, acc, _, _, _ => by
    have : ¬ (0 ≤ ((0 : Nat) : Int) - 1) := by omega
    simp only [spec_l01Dec_l1, this, decide_false, Bool.false_eq_true, if_false, List.take_zero, List.reverse_nil, List.append_nil]
  | j + 1, n + 1, acc, hj, ha, hn => by
    have hL := LIM_def
    have e0 : ((j + 1 : Nat) : Int) - 1 = (j : Int) := by omega
    have hjl : j < q.length := by omega
    have ew : w_i64 ((j : Int) - 1) = (j : Int) - 1 := w_id (by omega) (by omega)
    have hlim : (acc.length + 1) * 1 ≤ LIM := by omega
    have ih := dec_back (k := k) hq (E := E) j n (acc ++ [q[j]]) (by omega) (by simp; omega) (by omega)
    rw [e0]
    simp only [spec_l01Dec_l1, Int.natCast_nonneg, decide_true, if_true, Int.toNat_natCast, hjl, and_self, List.getElem?_eq_getElem hjl, Option.bind_some, List.length_singleton, hlim, ew, ih]
    rw [List.take_succ_eq_append_getElem hjl, List.reverse_append]
    simp
theorem toS_map (l : List UInt8) : to_S (l.map z_u8) = l := by
  unfold to_S
  rw [List.map_map]
  have : ((fun x : Int => x.toNat.toUInt8) ∘ z_u8) = id := by
    funext b
    simp [z_u8]
  simp [this]
theorem l01Dec_ok {k : Nat} (hk : KK ≤ k) {n : Int} (h1 : -9223372036854775808 ≤ n) (h2 : n ≤ 9223372036854775807) : spec_l01Dec k n = some (Lib.itoa n) := by
  have hK := KK_def
  have hL := LIM_def
  unfold spec_l01Dec Lib.itoa
  by_cases h0 : n = 0
  · subst h0
    rw [decide_eq_true rfl, if_pos rfl, if_neg (by omega)]
    rw [show (0 : Int).toNat = 0 from rfl, Lib.decDigits, dif_pos (by omega)]
    rfl
  · have hp : n.natAbs < 10 ^ 19 := by
      have : n.natAbs ≤ 9223372036854775808 := by omega
      exact Nat.lt_of_le_of_lt this (by decide)
    have hl := revD_len 19 n.natAbs hp
    have hu : n.natAbs ≠ 0 := by omega
    have hr : revD n.natAbs = ((Lib.decDigits n.natAbs).map z_u8).reverse := by unfold revD; rw [if_neg hu]
    rw [decide_eq_false h0, if_neg (by simp), dec_loop 19 n.natAbs k n [] (by omega) hp (by omega) h1 h2 (by simp) (by omega), List.nil_append]
    by_cases hn : n < 0
    · have hl1 : ((revD n.natAbs).length + 1) * 1 ≤ LIM := by omega
      have hb := dec_back (k := k) (q := revD n.natAbs ++ [45]) (by simp; omega) (E := fun q => some (to_S q)) (revD n.natAbs ++ [45]).length k [] (Nat.le_refl _) (by simp; omega) (by simp; omega)
      have hw : w_i64 (((revD n.natAbs ++ [45]).length : Int) - 1) = ((revD n.natAbs ++ [45]).length : Int) - 1 := w_id (by omega) (by simp; omega)
      rw [decide_eq_true hn, if_pos rfl, if_pos hn, List.length_singleton, if_pos hl1, hw, hb, List.take_length, List.nil_append, hr]
      congr 1
      have e : (((Lib.decDigits n.natAbs).map z_u8).reverse ++ [(45 : Int)]).reverse = ((45 : UInt8) :: Lib.decDigits n.natAbs).map z_u8 := by
        rw [List.reverse_append, List.reverse_reverse]; rfl
      rw [e, toS_map]
    · have hb := dec_back (k := k) (q := revD n.natAbs) (by omega) (E := fun q => some (to_S q)) (revD n.natAbs).length k [] (Nat.le_refl _) (by simp; omega) (by omega)
      have hw : w_i64 (((revD n.natAbs).length : Int) - 1) = ((revD n.natAbs).length : Int) - 1 := w_id (by omega) (by omega)
      have hna : n.natAbs = n.toNat := by omega
      rw [decide_eq_false hn, if_neg (by simp), if_neg hn, hw, hb, List.take_length, List.nil_append, hr, List.reverse_reverse, toS_map, hna]
theorem repeatL_one' (b : UInt8) : ∀ n, Lib.repeatL [b] n = List.replicate n b
  | 0 => rfl
  | n + 1 => by simp [Lib.repeatL, repeatL_one' b n, List.replicate_succ]
theorem repeat_ok (b : UInt8) {n : Nat} (hn : n ≤ 1000000) : strings_Repeat [b] (n : Int) = some (List.replicate n b) := by
  unfold strings_Repeat
  rw [if_pos ⟨by omega, by omega, by simp; omega⟩, Int.toNat_natCast, repeatL_one']
theorem digits_len {u j : Nat} (h : u < 10 ^ j) (hj : 1 ≤ j) : (Lib.decDigits u).length ≤ j := by
  by_cases h0 : u = 0
  · subst h0; rw [Lib.decDigits, dif_pos (by omega)]; exact hj
  · have := revD_len j u h
    unfold revD at this
    rw [if_neg h0] at this
    simpa using this
theorem itoa_len5 {n : Nat} (h : n < 65536) : (Lib.itoa (n : Int)).length ≤ 5 := by
  unfold Lib.itoa
  rw [if_neg (by omega), Int.toNat_natCast]
  exact digits_len (by omega) (by omega)
/-- A number in five digits. -/
def five (n : Nat) : List UInt8 := List.replicate (5 - (Lib.itoa (n : Int)).length) 48 ++ Lib.itoa (n : Int)
theorem five_len {n : Nat} (h : n < 65536) : (five n).length = 5 := by
  have := itoa_len5 h
  unfold five
  rw [List.length_append, List.length_replicate]; omega
theorem decimal_ok {n : Int} (h1 : -9223372036854775808 ≤ n) (h2 : n ≤ 9223372036854775807) : impl_Decimal n = some (Lib.itoa n) := by
  unfold impl_Decimal strconv_FormatInt
  rw [if_pos ⟨rfl, h1, h2⟩]; rfl
theorem five_loop {k : Nat} : ∀ (d n : Nat) (s : List UInt8), 5 - s.length = d → d < n → spec_l29Five_l0 k n s (fun s => some s) = some (List.replicate d 48 ++ s)
  | d, 0, s, _, h => by omega
  | 0, n + 1, s, hd, _ => by
    have : ¬ ((s.length : Int) < 5) := by omega
    simp only [spec_l29Five_l0, this, decide_false, Bool.false_eq_true, if_false, List.replicate_zero, List.nil_append]
  | d + 1, n + 1, s, hd, hn => by
    have hlt : (s.length : Int) < 5 := by omega
    have hl : [(48 : UInt8)].length + s.length ≤ 9223372036854775807 := by simp; omega
    have ih := five_loop (k := k) d n (48 :: s) (by simp; omega) (by omega)
    simp only [spec_l29Five_l0, hlt, decide_true, if_true, List.singleton_append, ih]
    rw [if_pos (by simp; omega), List.replicate_succ', List.append_assoc]; rfl
theorem l29Five_ok {k : Nat} (hk : KK ≤ k) {n : Nat} (h : n < 65536) : spec_l29Five k (n : Int) = some (five n) := by
  have hK := KK_def
  unfold spec_l29Five
  rw [l01Dec_ok hk (by omega) (by omega)]
  simp only [Option.bind_some]
  exact five_loop _ k _ rfl (by omega)
/-- The noughts ahead of it. -/
theorem noughts_ok {n : Nat} (h : n < 65536) : strings_Repeat [48] (w_i64 (5 - ((Lib.itoa (n : Int)).length : Int))) = some (List.replicate (5 - (Lib.itoa (n : Int)).length) 48) := by
  have := itoa_len5 h
  have e : w_i64 (5 - ((Lib.itoa (n : Int)).length : Int)) = ((5 - (Lib.itoa (n : Int)).length : Nat) : Int) := by rw [w_id (by omega) (by omega)]; omega
  rw [e]
  exact repeat_ok 48 (by omega)
def restP (r : List UInt8) : Blk × Int := match cutL 32 r with
  | none => (([], [], []), 9)
  | some (kind, r2) => match cutL 32 r2 with
    | none => (([], [], []), 9)
    | some (name, text) => if blkOk (kind, name, text) = true then ((kind, name, text), 0) else (([], [], []), 9)
/-- The block of a line. -/
def parseP (line : List UInt8) : Blk × Int :=
  if line.length < 6 then (([], [], []), 9) else
  if line[5]? ≠ some 32 then (([], [], []), 9) else
  if line.take 5 ≠ five (crcL (line.drop 6) 65535) then (([], [], []), 10) else restP (line.drop 6)
theorem scan_find {c : UInt8} {R : Type} {L : Nat → Int → R} {s : List UInt8} {E : Int → R} (h1 : ∀ n (i : Nat) x, s[i]? = some x → (i : Int) < s.length → L (n + 1) (i : Int) = if x = c then E (i : Int) else L n ((i + 1 : Nat) : Int)) (h2 : ∀ n (i : Nat), s.length ≤ i → L (n + 1) (i : Int) = E (i : Int)) :
    ∀ (d n j : Nat), s.length - j = d → d < n → L n (j : Int) = E ((j + (s.drop j).findIdx (· == c) : Nat) : Int)
  | d, 0, j, _, h => by omega
  | 0, n + 1, j, hd, _ => by
    rw [h2 n j (by omega), List.drop_of_length_le (by omega)]; rfl
  | d + 1, n + 1, j, hd, hn => by
    have hj : j < s.length := by omega
    have hdr : s.drop j = s[j] :: s.drop (j + 1) := (List.drop_eq_getElem_cons hj)
    rw [h1 n j s[j] (List.getElem?_eq_getElem hj) (by omega), hdr, List.findIdx_cons]
    by_cases h : s[j] = c
    · rw [if_pos h]; simp [h]
    · have hb : (s[j] == c) = false := by simpa using h
      rw [if_neg h, scan_find h1 h2 d n (j + 1) (by omega) (by omega), hb]
      simp only [cond_false]
      congr 2
      omega
theorem find_none {c : UInt8} {l : List UInt8} (h : c ∉ l) : l.findIdx (· == c) = l.length := by
  rw [List.findIdx_eq_length]
  intro x hx
  have : x ≠ c := fun e => h (e ▸ hx)
  simpa using this
theorem find_at {c : UInt8} : ∀ {pre post : List UInt8}, c ∉ pre → (pre ++ c :: post).findIdx (· == c) = pre.length
  | [], post, _ => by simp [List.findIdx_cons]
  | x :: pre, post, h => by
    have h1 : (x == c) = false := by
      have : x ≠ c := fun e => h (by simp [e])
      simpa using this
    rw [List.cons_append, List.findIdx_cons, h1, find_at (fun e => h (by simp [e]))]
    rfl
theorem byte_at {line : List UInt8} (h : ¬ line.length < 6) : line[5]? = some (line[5]'(by omega)) := List.getElem?_eq_getElem (by omega)
theorem u8_32 (x : UInt8) : (z_u8 x = 32) = (x = 32) := by
  have := z_u8_eq x 32
  have e : z_u8 32 = 32 := rfl
  rw [e] at this
  exact propext ⟨fun h => by simpa [h] using this.symm, fun h => by simpa [h] using this⟩
theorem blk_small {r a b c : List UInt8} (hr : r.length ≤ 1048576) (h : r = a ++ 32 :: (b ++ 32 :: c)) : smallB (a, b, c) := by
  have : r.length = a.length + (b.length + (c.length + 1) + 1) := by rw [h]; simp
  exact ⟨by show a.length ≤ _; omega, by show b.length ≤ _; omega, by show c.length ≤ _; omega⟩
theorem l29Parse_ok {k : Nat} (hk : KK ≤ k) {line : List UInt8} (hl : line.length ≤ 1048576) : spec_l29Parse k line = some (parseP line) := by
  have hK := KK_def
  unfold spec_l29Parse parseP
  by_cases h6 : line.length < 6
  · rw [decide_eq_true (by omega), if_pos rfl, if_pos h6]
  rw [decide_eq_false (by omega), if_neg (by simp), if_neg h6, byte_at h6]
  simp only [Option.bind_some, u8_32]
  by_cases h5 : line[5]'(by omega) = 32
  case neg => simp [h5]
  rw [h5]
  have b1 : (6 : Int) ≤ (line.length : Int) := by omega
  have b2 : (5 : Int) ≤ (line.length : Int) := by omega
  have hdr : (line.drop 6).take (line.length - 6) = line.drop 6 := List.take_of_length_le (by rw [List.length_drop]; exact Nat.le_refl _)
  have hcr := l01Crc_ok hk (t := line.drop 6) (s := 65535) (by rw [List.length_drop]; omega) (by omega)
  have hlt := crcL_lt (line.drop 6) (s := 65535) (by omega)
  have hlr : (line.drop 6).length ≤ 1048576 := by rw [List.length_drop]; omega
  have n65 : ((65535 : Nat) : Int) = 65535 := rfl
  rw [n65] at hcr
  simp only [decide_true, Bool.not_true, Bool.false_eq_true, if_false, b1, b2, Int.le_refl, and_self, if_true, hdr, hcr, Option.bind_some, l29Five_ok hk hlt, ne_eq, not_true_eq_false, show (0 : Int) ≤ 6 by omega, show (0 : Int) ≤ 5 by omega]
  by_cases hs : line.take 5 = five (crcL (line.drop 6) 65535)
  case neg => simp [hs]
  simp only [hs, decide_true, Bool.not_true, Bool.false_eq_true, if_false, not_true_eq_false]
  generalize line.drop 6 = r at hlr
  clear hcr hlt hs hdr b1 b2 n65
  have s0 := fun E v => scan_find (c := 32) (s := r) (L := fun n i => spec_l29Parse_l0 k n r i v E) (E := fun i => E r i v) (fun n i x hx hlt => by
    have hw := w_succ (i := i) (by omega)
    simp only [spec_l29Parse_l0, hlt, decide_true, if_true, Int.natCast_nonneg, Int.toNat_natCast, hx, Option.bind_some, u8_32, hw]
    by_cases e : x = 32 <;> simp [e]) (fun n i hi => by
    have : ¬ (i : Int) < (r.length : Int) := by omega
    simp only [spec_l29Parse_l0, this, decide_false, Bool.false_eq_true, if_false]) r.length k 0 (by omega) (by omega)
  have s1 := fun E v i j => scan_find (c := 32) (s := r) (L := fun n k6 => spec_l29Parse_l1 k n r i k6 v E) (E := fun k6 => E r i k6 v) (fun n i x hx hlt => by
    have hw := w_succ (i := i) (by omega)
    simp only [spec_l29Parse_l1, hlt, decide_true, if_true, Int.natCast_nonneg, Int.toNat_natCast, hx, Option.bind_some, u8_32, hw]
    by_cases e : x = 32 <;> simp [e]) (fun n i hi => by
    have : ¬ (i : Int) < (r.length : Int) := by omega
    simp only [spec_l29Parse_l1, this, decide_false, Bool.false_eq_true, if_false]) (r.length - j) k j rfl (by omega)
  have h0 : ((0 : Nat) : Int) = 0 := rfl
  rw [h0] at s0
  rw [s0]
  simp only [Nat.zero_add, List.drop_zero]
  have hfl : r.findIdx (· == 32) ≤ r.length := List.findIdx_le_length
  rw [w_succ (by omega), s1]
  unfold restP
  cases hc : cutL 32 r with
  | none =>
    have hn := find_none (cutL_none.1 hc)
    rw [hn, List.drop_of_length_le (by omega)]
    simp only [List.findIdx_nil, Nat.add_zero]
    exact if_pos (decide_eq_true (by omega))
  | some p =>
    obtain ⟨kind, r2⟩ := p
    obtain ⟨e1, e2⟩ := cutL_some.1 hc
    have hf : r.findIdx (· == 32) = kind.length := by rw [e1]; exact find_at e2
    have hd2 : r.drop (kind.length + 1) = r2 := by rw [e1]; simp
    have hl2 : r.length = kind.length + (r2.length + 1) := by rw [e1]; simp
    rw [hf, hd2]
    cases hc2 : cutL 32 r2 with
    | none =>
      have hn := find_none (cutL_none.1 hc2)
      rw [hn]
      refine Eq.trans (if_pos (decide_eq_true (by omega))) ?_
      simp only [hc2]
    | some q =>
      obtain ⟨name, text⟩ := q
      obtain ⟨e3, e4⟩ := cutL_some.1 hc2
      have hf2 : r2.findIdx (· == 32) = name.length := by rw [e3]; exact find_at e4
      have hl3 : r2.length = name.length + (text.length + 1) := by rw [e3]; simp
      have w1 := w_succ (i := kind.length) (by omega)
      have w2 := w_succ (i := kind.length + 1 + name.length) (by omega)
      have hnle : ¬ (r.length : Int) ≤ ((kind.length + 1 + name.length : Nat) : Int) := by omega
      rw [hf2, if_neg (by rw [decide_eq_false hnle]; simp), w1, w2]
      have c1 : (kind.length : Int) ≤ (r.length : Int) := by omega
      have c2 : ((kind.length + 1 : Nat) : Int) ≤ ((kind.length + 1 + name.length : Nat) : Int) := by omega
      have c3 : ((kind.length + 1 + name.length : Nat) : Int) ≤ (r.length : Int) := by omega
      have c4 : ((kind.length + 1 + name.length + 1 : Nat) : Int) ≤ (r.length : Int) := by omega
      have t1 : r.take kind.length = kind := by rw [e1]; simp
      have t2 : (r.drop (kind.length + 1)).take (kind.length + 1 + name.length - (kind.length + 1)) = name := by
        rw [hd2, e3, show kind.length + 1 + name.length - (kind.length + 1) = name.length by omega]; simp
      have t3 : (r.drop (kind.length + 1 + name.length + 1)).take (r.length - (kind.length + 1 + name.length + 1)) = text := by
        rw [List.take_of_length_le (by rw [List.length_drop]; exact Nat.le_refl _), show kind.length + 1 + name.length + 1 = (kind.length + 1) + (name.length + 1) by omega, ← List.drop_drop, hd2, e3]; simp
      have hsm : smallB (kind, name, text) := blk_small hlr (by rw [e1, e3])
      simp only [Int.natCast_nonneg, Int.toNat_natCast, c1, c2, c3, c4, Int.le_refl, and_self, if_true, t1, t2, t3, l29One_ok hk hsm, Option.bind_some, hc2]
      cases blkOk (kind, name, text) <;> simp
/-- A block's line. -/
def lineP (b : Blk) : List UInt8 := five (crcL (b.1 ++ [32] ++ b.2.1 ++ [32] ++ b.2.2) 65535) ++ [32] ++ (b.1 ++ [32] ++ b.2.1 ++ [32] ++ b.2.2)
theorem lineOfBlock_ok {k : Nat} (hk : KK ≤ k) {b : Blk} (hb : smallB b) : impl_lineOfBlock k b = some (lineP b) := by
  obtain ⟨h1, h2, h3⟩ := hb
  unfold impl_lineOfBlock
  rw [if_pos (by simp; omega), if_pos (by simp; omega), if_pos (by simp; omega), if_pos (by simp; omega)]
  have hlr : (b.1 ++ [32] ++ b.2.1 ++ [32] ++ b.2.2).length ≤ 10000000 := by simp; omega
  unfold lineP
  generalize b.1 ++ [32] ++ b.2.1 ++ [32] ++ b.2.2 = r at hlr ⊢
  have hcr := crc16_ok hk (t := r) (s := 65535) (by omega) (by omega)
  have hlt := crcL_lt r (s := 65535) (by omega)
  have n65 : ((65535 : Nat) : Int) = 65535 := rfl
  rw [n65] at hcr
  have h5 := itoa_len5 hlt
  rw [hcr]
  simp only [Option.bind_some, decimal_ok (n := ((crcL r 65535 : Nat) : Int)) (by omega) (by omega), noughts_ok hlt]
  rw [if_pos (by simp; omega), if_pos (by simp; omega), if_pos (by simp; omega)]
  rfl
theorem line_five {a l r : List UInt8} (h6 : ¬ l.length < 6) (h5 : l[5]? = some 32) (ht : l.take 5 = a) : a ++ [32] ++ r = l ↔ r = l.drop 6 := by
  have e : l = l.take 5 ++ [32] ++ l.drop 6 := by
    have h7 : l.take 6 = l.take 5 ++ [32] := by
      rw [List.take_succ_eq_append_getElem (by omega)]
      obtain ⟨_, e⟩ := List.getElem?_eq_some_iff.1 h5
      rw [e]
    rw [← h7, List.take_append_drop]
  rw [ht] at e
  constructor
  · intro h
    rw [e] at h
    exact List.append_cancel_left h
  · intro h
    rw [h]; exact e.symm
theorem blockOfLine_ok {k : Nat} (hk : KK ≤ k) {line : List UInt8} (hl : line.length ≤ 1048576) : impl_blockOfLine k line = some (parseP line) := by
  have hK := KK_def
  unfold impl_blockOfLine parseP
  by_cases h6 : line.length < 6
  · rw [decide_eq_true (by omega), if_pos rfl, if_pos h6]
  rw [decide_eq_false (by omega), if_neg (by simp), if_neg h6]
  have h5s := byte_at h6
  rw [h5s]
  simp only [Option.bind_some, u8_32]
  by_cases h5 : line[5]'(by omega) = 32
  case neg => simp [h5]
  rw [h5] at h5s ⊢
  have b1 : (6 : Int) ≤ (line.length : Int) := by omega
  have b2 : (5 : Int) ≤ (line.length : Int) := by omega
  have hdr : (line.drop 6).take (line.length - 6) = line.drop 6 := List.take_of_length_le (by rw [List.length_drop]; exact Nat.le_refl _)
  have hcr := crc16_ok hk (t := line.drop 6) (s := 65535) (by rw [List.length_drop]; omega) (by omega)
  have hlt := crcL_lt (line.drop 6) (s := 65535) (by omega)
  have hlr : (line.drop 6).length ≤ 1048576 := by rw [List.length_drop]; omega
  have n65 : ((65535 : Nat) : Int) = 65535 := rfl
  have h5' := itoa_len5 hlt
  rw [n65] at hcr
  have hfive : List.replicate (5 - (Lib.itoa ((crcL (line.drop 6) 65535 : Nat) : Int)).length) 48 ++ Lib.itoa ((crcL (line.drop 6) 65535 : Nat) : Int) = five (crcL (line.drop 6) 65535) := rfl
  have hll : (List.replicate (5 - (Lib.itoa ((crcL (line.drop 6) 65535 : Nat) : Int)).length) (48 : UInt8)).length + (Lib.itoa ((crcL (line.drop 6) 65535 : Nat) : Int)).length ≤ 9223372036854775807 := by simp; omega
  have hr2 : ∀ p : List UInt8 × List UInt8, cutL 32 (line.drop 6) = some p → p.2.length ≤ 1000000000 := fun p hp => by
    obtain ⟨e1, _⟩ := cutL_some.1 (show cutL 32 (line.drop 6) = some (p.1, p.2) from hp)
    have := congrArg List.length e1
    simp at this; omega
  have hmid : ∀ z : List UInt8 × List UInt8 × Bool, z = (match cutL 32 (line.drop 6) with | some p => (p.1, p.2, true) | none => (line.drop 6, [], false)) → z.2.1.length ≤ 1000000000 := fun z hz => by
    cases hc : cutL 32 (line.drop 6) with
    | none => rw [hc] at hz; rw [hz]; simp
    | some p => rw [hc] at hz; rw [hz]; exact hr2 p hc
  simp only [decide_true, Bool.not_true, Bool.false_eq_true, if_false, b1, b2, Int.le_refl, and_self, if_true, hdr, cut_ok (s := line.drop 6) (by omega) 32, Option.bind_some, cut_ok (hmid _ rfl) 32, hcr, decimal_ok (n := ((crcL (line.drop 6) 65535 : Nat) : Int)) (by omega) (by omega), noughts_ok hlt, hll, hfive, ne_eq, not_true_eq_false, show (0 : Int) ≤ 6 by omega, show (0 : Int) ≤ 5 by omega]
  by_cases hs : line.take 5 = five (crcL (line.drop 6) 65535)
  case neg => simp [hs]
  simp only [hs, decide_true, Bool.not_true, Bool.false_eq_true, if_false, not_true_eq_false]
  unfold restP
  cases hc : cutL 32 (line.drop 6) with
  | none =>
    have hsm : smallB (line.drop 6, [], []) := ⟨hlr, by simp, by simp⟩
    have e1 : cutL 32 [] = none := rfl
    have e2 : blkOk (line.drop 6, [], []) = false := by unfold blkOk; simp [nameOk]
    simp only [e1, implValidBlock_ok hk hsm, e2, Option.bind_some, Bool.not_false, if_true]
  | some p =>
    obtain ⟨kind, r2⟩ := p
    obtain ⟨e1, e2⟩ := cutL_some.1 hc
    have hl2 : (line.drop 6).length = kind.length + (r2.length + 1) := by rw [e1]; simp
    simp only []
    cases hc2 : cutL 32 r2 with
    | none =>
      have hsm : smallB (kind, r2, []) := ⟨by show kind.length ≤ _; omega, by show r2.length ≤ _; omega, by simp⟩
      simp only [implValidBlock_ok hk hsm, Option.bind_some]
      cases blkOk (kind, r2, []) with
      | false => simp
      | true =>
        simp only [Bool.not_true, Bool.false_eq_true, if_false, lineOfBlock_ok hk hsm, Option.bind_some]
        have hne : ¬ lineP (kind, r2, []) = line := fun h => by
          have := congrArg List.length h
          have hf := five_len (crcL_lt (kind ++ [32] ++ r2 ++ [32] ++ []) (s := 65535) (by omega))
          unfold lineP at this
          simp only [List.length_append, hf, List.length_singleton, List.length_nil] at this
          rw [List.length_drop] at hl2
          omega
        rw [decide_eq_false hne]; rfl
    | some q =>
      obtain ⟨name, text⟩ := q
      obtain ⟨e3, e4⟩ := cutL_some.1 hc2
      have er : line.drop 6 = kind ++ [32] ++ name ++ [32] ++ text := by rw [e1, e3]; simp
      have hsm : smallB (kind, name, text) := blk_small hlr (by rw [e1, e3])
      simp only [implValidBlock_ok hk hsm, Option.bind_some]
      cases blkOk (kind, name, text) with
      | false => simp
      | true =>
        simp only [Bool.not_true, Bool.false_eq_true, if_false, lineOfBlock_ok hk hsm, Option.bind_some, if_true]
        have : lineP (kind, name, text) = line := by
          unfold lineP
          show five (crcL (kind ++ [32] ++ name ++ [32] ++ text) 65535) ++ [32] ++ (kind ++ [32] ++ name ++ [32] ++ text) = line
          rw [← er]
          exact (line_five h6 h5s hs).2 rfl
        rw [decide_eq_true this]; rfl
theorem okBlocks_of {l : List Blk} (h1 : l.length ≤ 32) (h2 : ∀ x ∈ l, blkOk x = true) (h3 : l.Pairwise (fun a b => before a b = true)) : okBlocks l = true := by
  unfold okBlocks
  rw [Bool.and_eq_true, decide_eq_true_eq, List.all_eq_true]
  refine ⟨fun i hi => ?_, h1⟩
  rw [List.mem_range] at hi
  unfold okAt
  rw [List.getElem?_eq_getElem hi]
  simp only [h2 _ (List.getElem_mem hi), Bool.true_and]
  by_cases h0 : 0 < i
  · rw [if_pos h0, List.getElem?_eq_getElem (show i - 1 < l.length by omega)]
    exact List.pairwise_iff_getElem.1 h3 (i - 1) i (by omega) hi (by omega)
  · rw [if_neg h0]
theorem blkOk_small {b : Blk} (h : blkOk b = true) : smallB b := by
  unfold blkOk at h
  simp only [Bool.and_eq_true, decide_eq_true_eq] at h
  obtain ⟨h1, h2, h3, _⟩ := h
  have nm : ∀ s : List UInt8, nameOk s = true → s.length ≤ 10 := fun s hs => by
    cases s with
    | nil => simp
    | cons a l => rw [nameOk_cons] at hs; simp only [Bool.and_eq_true, decide_eq_true_eq] at hs; exact hs.1
  exact ⟨by have := nm _ h1; omega, by have := nm _ h2; omega, by omega⟩
theorem parse_ok {x : List UInt8} (h : (parseP x).2 = 0) : blkOk (parseP x).1 = true := by
  unfold parseP at h ⊢
  by_cases c1 : x.length < 6
  · rw [if_pos c1] at h; cases h
  · rw [if_neg c1] at h ⊢
    by_cases c2 : x[5]? ≠ some 32
    · rw [if_pos c2] at h; cases h
    · rw [if_neg c2] at h ⊢
      by_cases c3 : x.take 5 ≠ five (crcL (x.drop 6) 65535)
      · rw [if_pos c3] at h; cases h
      · rw [if_neg c3] at h ⊢
        unfold restP at h ⊢
        cases h1 : cutL 32 (x.drop 6) with
        | none => simp only [h1] at h; cases h
        | some p =>
          obtain ⟨a, r⟩ := p
          simp only [h1] at h ⊢
          cases h2 : cutL 32 r with
          | none => simp only [h2] at h; cases h
          | some q =>
            obtain ⟨b, c⟩ := q
            simp only [h2] at h ⊢
            by_cases c4 : blkOk (a, b, c) = true
            · rw [if_pos c4]; exact c4
            · rw [if_neg c4] at h; cases h
def keepB (q : List Blk) (x : List UInt8) : List Blk := if (parseP x).2 = 0 then (if (putS q (parseP x).1).length ≤ 32 then putS q (parseP x).1 else q) else q
/-- What is kept is valid. -/
theorem keepB_ok {q : List Blk} (h : okBlocks q = true) (x : List UInt8) : okBlocks (keepB q x) = true := by
  obtain ⟨h1, h2, h3⟩ := okBlocks_sorted h
  unfold keepB
  by_cases c : (parseP x).2 = 0
  · rw [if_pos c]
    by_cases c2 : (putS q (parseP x).1).length ≤ 32
    · rw [if_pos c2]
      refine okBlocks_of c2 (fun y hy => ?_) (putS_sorted h3 _)
      rcases putS_mem hy with rfl | hy
      · exact parse_ok c
      · exact h2 y hy
    · rw [if_neg c2]; exact h
  · rw [if_neg c]; exact h
theorem okBlocks_nil : okBlocks [] = true := rfl
def salvP (s : List UInt8) : List Blk := ((endedP s).1.drop 1).foldl keepB []
theorem keepAll_ok : ∀ (l : List (List UInt8)) {q : List Blk}, okBlocks q = true → okBlocks (l.foldl keepB q) = true
  | [], q, h => h
  | x :: l, q, h => keepAll_ok l (keepB_ok h x)
theorem implPutB_ok {k : Nat} (hk : KK ≤ k) {q : List Blk} (h : okBlocks q = true) {b : Blk} (hb : blkOk b = true) : impl_PutBlock k q b = some (if 32 < (putS q b).length then ([], 5) else (putS q b, 0)) := by
  obtain ⟨h1, h2, h3⟩ := okBlocks_sorted h
  have hx : ∀ x ∈ q, smallB x := fun x hx => blkOk_small (h2 x hx)
  have hl := putS_len q b
  unfold impl_PutBlock
  rw [implValidBlocks_ok hk (by omega) hx, h]
  simp only [Option.bind_some, Bool.not_true, Bool.false_eq_true, if_false, implValidBlock_ok hk (blkOk_small hb), hb, putBlock_ok hk (show q.length ≤ 1048576 by omega) h3]
  by_cases c : 32 < (putS q b).length
  · rw [if_pos c, decide_eq_true (by omega), if_pos rfl]
  · rw [if_neg c, decide_eq_false (by omega), if_neg (by simp)]
theorem specSal_loop {k : Nat} (hk : KK ≤ k) {W : List (List UInt8)} (hW : W.length ≤ 100000000) (hx : ∀ x ∈ W, x.length ≤ 1048576) {E : List Blk → Option (List Blk)} : ∀ (d n i : Nat) (q : List Blk), W.length - i = d → d < n → okBlocks q = true → i ≤ 100000001 → spec_SalvageBlocks_l0 k n (i : Int) W q E = E ((W.drop i).foldl keepB q)
  | d, 0, i, q, _, h, _, _ => by omega
  | 0, n + 1, i, q, hd, _, _, _ => by
    have : ¬ (i : Int) < (W.length : Int) := by omega
    rw [List.drop_of_length_le (by omega)]
    simp only [spec_SalvageBlocks_l0, this, decide_false, Bool.false_eq_true, if_false, List.foldl_nil]
  | d + 1, n + 1, i, q, hd, hn, hq, hi => by
    have hil : i < W.length := by omega
    have hlt : (i : Int) < (W.length : Int) := by omega
    have hw := w_succ (i := i) (by omega)
    have hdr : W.drop i = W[i] :: W.drop (i + 1) := List.drop_eq_getElem_cons hil
    have hp := l29Parse_ok hk (hx W[i] (List.getElem_mem hil))
    have ih := specSal_loop hk hW hx (E := E) d n (i + 1) (keepB q W[i]) (by omega) (by omega) (keepB_ok hq _) (by omega)
    obtain ⟨q1, q2, q3⟩ := okBlocks_sorted hq
    rw [hdr, List.foldl_cons, ← ih]
    simp only [spec_SalvageBlocks_l0, hlt, hil, decide_true, if_true, Int.natCast_nonneg, Int.toNat_natCast, and_self, List.getElem?_eq_getElem hil, Option.bind_some, hp, hw, l29Put_ok hk (show q.length ≤ 100000000000 by omega), putR_sorted q3]
    unfold keepB
    by_cases h : (parseP W[i]).2 = 0
    · rw [decide_eq_true h, if_pos h, if_neg (by simp)]
      by_cases c : (putS q (parseP W[i]).1).length ≤ 32
      · rw [if_pos c, decide_eq_true (by omega), if_pos rfl]
      · rw [if_neg c, decide_eq_false (by omega), if_neg (by simp)]
    · rw [decide_eq_false h, if_neg h, if_pos (by simp)]
theorem implSal_loop {k : Nat} (hk : KK ≤ k) {W : List (List UInt8)} (hW : W.length ≤ 100000000) (hx : ∀ x ∈ W, x.length ≤ 1048576) {E : List Blk → Option (List Blk)} : ∀ (d n i : Nat) (q : List Blk), W.length - i = d → d < n → okBlocks q = true → 0 < i → i ≤ 100000001 → impl_SalvageBlocks_l0 k n (W.length : Int) (i : Int) q W E = E ((W.drop i).foldl keepB q)
  | d, 0, i, q, _, h, _, _, _ => by omega
  | 0, n + 1, i, q, hd, _, _, _, _ => by
    have : ¬ (i : Int) < (W.length : Int) := by omega
    rw [List.drop_of_length_le (by omega)]
    simp only [impl_SalvageBlocks_l0, this, decide_false, Bool.false_eq_true, if_false, List.foldl_nil]
  | d + 1, n + 1, i, q, hd, hn, hq, h0, hi => by
    have hil : i < W.length := by omega
    have hlt : (i : Int) < (W.length : Int) := by omega
    have h0' : ¬ (i : Int) = 0 := by omega
    have hw := w_succ (i := i) (by omega)
    have hdr : W.drop i = W[i] :: W.drop (i + 1) := List.drop_eq_getElem_cons hil
    have hp := blockOfLine_ok hk (hx W[i] (List.getElem_mem hil))
    have ih := implSal_loop hk hW hx (E := E) d n (i + 1) (keepB q W[i]) (by omega) (by omega) (keepB_ok hq _) (by omega) (by omega)
    rw [hdr, List.foldl_cons, ← ih]
    simp only [impl_SalvageBlocks_l0, hlt, hil, h0', decide_true, decide_false, Bool.false_eq_true, if_false, if_true, Int.natCast_nonneg, Int.toNat_natCast, and_self, List.getElem?_eq_getElem hil, Option.bind_some, hp, hw]
    unfold keepB
    by_cases h : (parseP W[i]).2 = 0
    · rw [decide_eq_true h, if_pos h, if_neg (by simp), implPutB_ok hk hq (parse_ok h)]
      by_cases c : (putS q (parseP W[i]).1).length ≤ 32
      · rw [if_pos c, if_neg (by omega)]; simp
      · rw [if_neg c, if_pos (by omega)]; simp
    · rw [decide_eq_false h, if_neg h, if_pos (by simp)]
theorem specSal_ok {k : Nat} (hk : KK ≤ k) {s : List UInt8} (hs : s.length ≤ 1048576) : spec_SalvageBlocks k s = some (salvP s) := by
  have hK := KK_def
  have hl := ended_len (s := s)
  have hm := ended_mem (s := s)
  unfold spec_SalvageBlocks salvP
  rw [l29Lines_ok hk (by omega)]
  simp only [Option.bind_some]
  exact specSal_loop hk (W := (endedP s).1) (by omega) (fun x hx => by have := hm x hx; omega) ((endedP s).1.length - 1) k 1 [] rfl (by omega) okBlocks_nil (by omega)
theorem implSal_ok {k : Nat} (hk : KK ≤ k) {s : List UInt8} (hs : s.length ≤ 1048576) : impl_SalvageBlocks k s = some (salvP s) := by
  have hK := KK_def
  have hl := ended_len (s := s)
  have hm := ended_mem (s := s)
  unfold impl_SalvageBlocks salvP
  rw [endedLines_ok hk (by omega)]
  simp only [Option.bind_some]
  obtain ⟨n, rfl⟩ : ∃ n, k = n + 1 := ⟨k - 1, by omega⟩
  have hx : ∀ x ∈ (endedP s).1, x.length ≤ 1048576 := fun x hx => by have := hm x hx; omega
  generalize (endedP s).1 = W at hl hx
  by_cases h0 : W.length = 0
  · have : W = [] := List.length_eq_zero_iff.1 h0
    subst this
    simp [impl_SalvageBlocks_l0]
  · have hil : 0 < W.length := by omega
    have hlt : (0 : Int) < (W.length : Int) := by omega
    have hp := blockOfLine_ok hk (hx W[0] (List.getElem_mem hil))
    have hw : w_i64 ((0 : Int) + 1) = ((1 : Nat) : Int) := w_succ (i := 0) (by omega)
    have := implSal_loop hk (W := W) (by omega) hx (E := fun q => some q) (W.length - 1) n 1 [] rfl (by omega) okBlocks_nil (by omega) (by omega)
    simp only [impl_SalvageBlocks_l0, hlt, hil, decide_true, if_true, Int.le_refl, Int.toNat_zero, and_self, List.getElem?_eq_getElem hil, Option.bind_some, hp, hw]
    exact this
/-- A mark is a text. -/
theorem markText_ok {k : Nat} (hk : KK ≤ k) {n : Int} (h : n ≤ 9223372036854775807) : ∃ t, laws_markText k n = some t := by
  unfold laws_markText
  by_cases h0 : n ≤ 0
  · exact ⟨[109, 48], by simp [h0]⟩
  · simp only [decide_eq_true_eq, h0, if_false]
    have key : ∀ (m : Nat) (n : Int) (out : List UInt8), 0 ≤ n → n < 10 ^ m → n ≤ 9223372036854775807 → out.length + m ≤ 100 → ∀ q, m < q → ∃ t, laws_markText_l0 k q n out (fun out_1 => (if [109].length + out_1.length ≤ 9223372036854775807 then some ([109] ++ out_1) else none)) = some t := by
      intro m
      induction m with
      | zero =>
        intro n out h1 h2 h3 h4 q hq
        obtain ⟨q, rfl⟩ : ∃ p, q = p + 1 := ⟨q - 1, by omega⟩
        have : ¬ 0 < n := by simp at h2; omega
        have h5 : 1 + out.length ≤ 9223372036854775807 := by omega
        exact ⟨[109] ++ out, by simp only [laws_markText_l0, decide_eq_true_eq, this, if_false, List.length_singleton, h5, if_true]⟩
      | succ m ih =>
        intro n out h1 h2 h3 h4 q hq
        obtain ⟨q, rfl⟩ : ∃ p, q = p + 1 := ⟨q - 1, by omega⟩
        by_cases hn : 0 < n
        · have hd : Int.tdiv n 10 = n / 10 := Int.tdiv_eq_ediv_of_nonneg h1
          have hw : w_i64 (Int.tdiv n 10) = n / 10 := by rw [hd, w_id (by omega) (by omega)]
          have h5 : 1 + out.length ≤ 9223372036854775807 := by omega
          have h6 : n / 10 < 10 ^ m := by
            rw [Int.pow_succ] at h2
            omega
          obtain ⟨t, ht⟩ := ih (n / 10) ((to_S [(w_u8 ((w_i64 (48 + (Int.tmod n 10)))))]) ++ out) (by omega) h6 (by omega) (by simp; omega) q (by omega)
          refine ⟨t, ?_⟩
          simp only [laws_markText_l0, decide_eq_true_eq, hn, if_true, hw]
          rw [if_pos (by simp; omega)]
          exact ht
        · have h5 : 1 + out.length ≤ 9223372036854775807 := by omega
          exact ⟨[109] ++ out, by simp only [laws_markText_l0, decide_eq_true_eq, hn, if_false, List.length_singleton, h5, if_true]⟩
    exact key 20 n [] (by omega) (by omega) h (by simp) k (by have := KK_def; omega)
noncomputable def mT (k : Nat) (m : Int) (j : Nat) : List UInt8 := (laws_markText k (m + j)).getD []
theorem mT_ok {k : Nat} (hk : KK ≤ k) {m : Int} (h1 : m ≤ 1000000000000) {j : Nat} (hj : j ≤ 4000000000000) : laws_markText k (m + j) = some (mT k m j) := by
  obtain ⟨t, ht⟩ := markText_ok hk (n := m + j) (by omega)
  unfold mT
  rw [ht]; rfl
noncomputable def mB (k : Nat) (m : Int) (i : Nat) : Blk := (mT k m (3 * i), mT k m (3 * i + 1), mT k m (3 * i + 2))
theorem markBlockS_ok {k : Nat} (hk : KK ≤ k) {a : List Blk} {m : Int} (h0 : 0 ≤ m) (h1 : m ≤ 1000000000000) (ha : a.length ≤ 1000000000000) :
    laws_markBlockS_o k m a = some ((m + ((3 * a.length : Nat) : Int), ()), ((List.range a.length).map (mB k m), ()), ()) := by
  unfold laws_markBlockS_o
  have := loop_list (α := Nat) (A := List Blk) (L := fun n i q => laws_markBlockS_o_l0 k n (m + 3 * i) i q fun k_12 q_13 => some ((k_12, ()), (q_13, ()), ()))
    (I := fun pre q => q.length = a.length ∧ q.take pre.length = (List.range pre.length).map (mB k m)) (G := fun _ _ => some ((m + ((3 * a.length : Nat) : Int), ()), ((List.range a.length).map (mB k m), ()), ())) (List.range a.length) ?_ ?_ k (by have := KK_def; simp; omega) a ⟨rfl, by simp⟩
  · simpa using this
  · intro n pre x post q hx hq ih hg hlt
    rw [List.length_range] at hlt
    have hw := w_succ (i := pre.length) (by omega)
    have hl : pre.length < q.length := by omega
    have e0 : m + 3 * (pre.length : Int) = m + ((3 * pre.length : Nat) : Int) := by omega
    have e1 : w_i64 (m + 3 * (pre.length : Int) + 1) = m + ((3 * pre.length + 1 : Nat) : Int) := by rw [w_id (by omega) (by omega)]; omega
    have e2 : w_i64 (m + ((3 * pre.length + 1 : Nat) : Int) + 1) = m + ((3 * pre.length + 2 : Nat) : Int) := by rw [w_id (by omega) (by omega)]; omega
    have e3 : w_i64 (m + ((3 * pre.length + 2 : Nat) : Int) + 1) = m + 3 * ((pre.length + 1 : Nat) : Int) := by rw [w_id (by omega) (by omega)]; omega
    have hlt' : (pre.length : Int) < (q.length : Int) := by omega
    have t0 : laws_markText k (m + 3 * (pre.length : Int)) = some (mT k m (3 * pre.length)) := by rw [e0]; exact mT_ok hk h1 (by omega)
    simp only [laws_markBlockS_o_l0, hlt', decide_true, if_true, t0, e1, e2, e3, mT_ok hk h1 (show 3 * pre.length + 1 ≤ 4000000000000 by omega), mT_ok hk h1 (show 3 * pre.length + 2 ≤ 4000000000000 by omega), Option.bind_some, Int.natCast_nonneg, Int.toNat_natCast, hl, and_self, List.getElem?_eq_getElem hl, List.length_set, List.getElem?_set_self, List.set_set, hw]
    refine ih _ ⟨by rw [List.length_set]; exact hq.1, ?_⟩
    rw [List.length_append, List.length_singleton, List.take_succ_eq_append_getElem (by simpa using hl), List.getElem_set_self, List.take_set_of_le (Nat.le_refl _), hq.2, List.range_succ]
    simp [mB]
  · intro n q hq
    have : ¬ ((List.range a.length).length : Int) < (q.length : Int) := by rw [hq.1]; simp
    have h2 := hq.2
    rw [List.length_range, ← hq.1, List.take_length, hq.1] at h2
    simp only [laws_markBlockS_o_l0, this, decide_false, Bool.false_eq_true, if_false]
    simp [h2]
theorem heldBlockS_ok {k : Nat} (hk : KK ≤ k) {N : Nat} {m : Int} (h0 : 0 ≤ m) (h1 : m ≤ 1000000000000) (hN : N ≤ 1000000000000) : laws_heldBlockS k ((List.range N).map (mB k m)) m = some (m + ((3 * N : Nat) : Int)) := by
  unfold laws_heldBlockS
  have := loop_list (α := Blk) (A := Unit) (L := fun n i _ => laws_heldBlockS_l0 k n ((List.range N).map (mB k m)) (m + 3 * i) i fun k_3 => some k_3) (I := fun _ _ => True) (G := fun _ _ => some (m + ((3 * N : Nat) : Int))) ((List.range N).map (mB k m)) ?_ ?_ k (by have := KK_def; simp; omega) () trivial
  · simpa using this
  · intro n pre x post _ hx _ ih hg hlt
    have hpl : pre.length < N := by simpa using hlt
    have hw := w_succ (i := pre.length) (by omega)
    have e0 : m + 3 * (pre.length : Int) = m + ((3 * pre.length : Nat) : Int) := by omega
    have e1 : w_i64 (m + 3 * (pre.length : Int) + 1) = m + ((3 * pre.length + 1 : Nat) : Int) := by rw [w_id (by omega) (by omega)]; omega
    have e2 : w_i64 (m + ((3 * pre.length + 1 : Nat) : Int) + 1) = m + ((3 * pre.length + 2 : Nat) : Int) := by rw [w_id (by omega) (by omega)]; omega
    have e3 : w_i64 (m + ((3 * pre.length + 2 : Nat) : Int) + 1) = m + 3 * ((pre.length + 1 : Nat) : Int) := by rw [w_id (by omega) (by omega)]; omega
    have t0 : laws_markText k (m + 3 * (pre.length : Int)) = some (mT k m (3 * pre.length)) := by rw [e0]; exact mT_ok hk h1 (by omega)
    have hxT : x = mB k m pre.length := by
      rw [List.getElem?_map, List.getElem?_range hpl] at hg
      simpa using hg.symm
    subst hxT
    simp only [laws_heldBlockS_l0, hlt, decide_true, if_true, Int.natCast_nonneg, Int.toNat_natCast, hg, Option.bind_some, t0, e1, e2, e3, mB, mT_ok hk h1 (show 3 * pre.length + 1 ≤ 4000000000000 by omega), mT_ok hk h1 (show 3 * pre.length + 2 ≤ 4000000000000 by omega), Bool.not_true, Bool.false_eq_true, if_false, hw]
    exact ih () trivial
  · intro n _ _
    simp [laws_heldBlockS_l0]
theorem pure_FnExactSalvageBlocks (a0 : List UInt8) (f0 : InR .str a0) : ∃ k : Nat, laws_FnExactSalvageBlocks k a0 = some true := by
  have hk := Nat.le_refl KK
  refine ⟨KK, ?_⟩
  unfold laws_FnExactSalvageBlocks
  by_cases n0 : 1048576 < (a0.length : Int)
  · rw [decide_eq_true n0, if_pos rfl]
  rw [decide_eq_false n0, if_neg (by simp)]
  have hs : a0.length ≤ 1048576 := by omega
  have hl := (okBlocks_sorted (keepAll_ok ((endedP a0).1.drop 1) okBlocks_nil)).1
  have hl : (salvP a0).length ≤ 32 := hl
  have hn : ¬ (1 + ((3 * (salvP a0).length : Nat) : Int) < 0) := by omega
  simp only [specSal_ok hk hs, implSal_ok hk hs, Option.bind_some, eqBlockS_ok hk (show (salvP a0).length < 4611686018427387904 by omega), markBlockS_ok hk (show (0 : Int) ≤ 1 by omega) (show (1 : Int) ≤ 1000000000000 by omega) (show (salvP a0).length ≤ 1000000000000 by omega), heldBlockS_ok hk (show (0 : Int) ≤ 1 by omega) (show (1 : Int) ≤ 1000000000000 by omega) (show (salvP a0).length ≤ 1000000000000 by omega), hn, decide_true, Bool.not_true, Bool.false_eq_true, if_false, decide_false]
end Go.Proofs.YtfepelmocldcnaaDoor.Ev
