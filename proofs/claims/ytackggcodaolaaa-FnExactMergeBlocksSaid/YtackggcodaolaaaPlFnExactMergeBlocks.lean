/- Plain laws of the printed functions. No conditions but those in each statement. -/
import Derived.Test.YtackggcodaolaaaEv5
import Derived.Test.YtackggcodaolaaaG11
set_option linter.unusedVariables false
set_option linter.unusedSimpArgs false
namespace Go.Proofs.Ytackggcodaolaaa.Ev
open Go.RowKit
def lowI (y : Int) : Bool := decide (97 ≤ y) && decide (y ≤ 122)
def digI (y : Int) : Bool := decide (48 ≤ y) && decide (y ≤ 57)
def nameI (y : Int) : Bool := lowI y || digI y
/-- A name: one to ten small letters and digits, a letter first. -/
def nameOk (s : List UInt8) : Bool := match s with | [] => false | a :: l => decide ((a :: l).length ≤ 10) && (lowI (z_u8 a) && (a :: l).all fun b => nameI (z_u8 b))
theorem l01Small_ok (y : Int) : spec_l01Small y = some (lowI y) := by
  unfold spec_l01Small lowI
  by_cases h : 97 ≤ y <;> simp [h]
theorem l01Digit_ok (y : Int) : spec_l01Digit y = some (digI y) := by
  unfold spec_l01Digit digI
  by_cases h : 48 ≤ y <;> simp [h]
theorem nameOk_cons (a : UInt8) (l : List UInt8) : nameOk (a :: l) = (decide ((a :: l).length ≤ 10) && (lowI (z_u8 a) && (a :: l).all fun b => nameI (z_u8 b))) := rfl
theorem l01Name_loop {k : Nat} (hk : KK ≤ k) {s : List UInt8} (hs : s.length ≤ 1000000000000) : spec_l01Name_l0 k k s 0 (some true) = if s.all (fun b => nameI (z_u8 b)) = true then some true else some false := by
  have hK := KK_def
  refine loop_all (L := fun n i => spec_l01Name_l0 k n s i (some true)) s ?_ ?_ (n := k) (by omega)
  · intro n i x hx hlt
    have hw := w_succ (i := i) (by omega)
    simp only [spec_l01Name_l0, hlt, decide_true, if_true, Int.natCast_nonneg, Int.toNat_natCast, hx, Option.bind_some, l01Small_ok, l01Digit_ok, hw, nameI]
    by_cases h1 : lowI (z_u8 x) = true <;> by_cases h2 : digI (z_u8 x) = true <;> simp [h1, h2]
  · intro n
    simp [spec_l01Name_l0]
theorem l01Name_ok {k : Nat} (hk : KK ≤ k) {s : List UInt8} (hs : s.length ≤ 1000000000000) : spec_l01Name k s = some (nameOk s) := by
  unfold spec_l01Name
  cases s with
  | nil => simp [nameOk]
  | cons a l =>
    rw [l01Name_loop hk hs, nameOk_cons, decide_eq_false (show ¬ (a :: l = []) by simp), if_neg (by simp)]
    by_cases h : (a :: l).length ≤ 10
    · rw [decide_eq_false (show ¬ (10 < ((a :: l).length : Int)) by omega), if_neg (by simp), decide_eq_true h]
      simp only [List.getElem?_cons_zero, Option.bind_some, l01Small_ok, Bool.true_and]
      cases lowI (z_u8 a)
      · simp
      · cases (a :: l).all (fun b => nameI (z_u8 b)) <;> simp
    · rw [decide_eq_true (show (10 < ((a :: l).length : Int)) by omega), if_pos rfl, decide_eq_false h]
      rfl
theorem isName_loop {k : Nat} (hk : KK ≤ k) (q : List Int) (hq : q.length ≤ 1000000000000) : impl_IsName_l0 k k (q.length : Int) 0 q (some true) = some (q.all nameI && lowI (q.headD 97)) := by
  have hK := KK_def
  have := loop_list (A := Unit) (L := fun n i _ => impl_IsName_l0 k n (q.length : Int) i q (some true)) (I := fun _ _ => True) (G := fun post _ => some (post.all nameI && (decide (post.length ≠ q.length) || lowI (post.headD 97)))) q ?_ ?_ k (by omega) () trivial
  · refine Eq.trans this ?_
    simp
  · intro n pre x post _ hx _ ih hg hlt
    have hw := w_succ (i := pre.length) (by omega)
    have hlt' : pre.length < q.length := by omega
    have ih := ih () trivial
    have hne : decide (post.length ≠ q.length) = true := by rw [hx]; simp <;> omega
    simp only [hne, Bool.true_or, Bool.and_true] at ih
    simp only [impl_IsName_l0, hlt, hlt', decide_true, if_true, Int.natCast_nonneg, Int.toNat_natCast, hg, Option.bind_some, hw, ih, and_self]
    have h0 : decide ((x :: post).length ≠ q.length) = decide (pre.length ≠ 0) := decide_eq_decide.2 (by rw [hx]; simp <;> omega)
    rw [h0]
    simp only [List.all_cons, List.headD_cons, nameI, lowI, digI]
    have h1 : decide ((pre.length : Int) = 0) = decide (pre.length = 0) := decide_eq_decide.2 (by omega)
    rw [h1]
    by_cases g1 : 97 ≤ x <;> by_cases g2 : x ≤ 122 <;> by_cases g3 : 48 ≤ x <;> by_cases g4 : x ≤ 57 <;> by_cases g0 : pre.length = 0 <;> first | omega | simp [g0, g1, g2, g3, g4]
  · intro n _ _
    simp [impl_IsName_l0, lowI]
theorem isName_ok {k : Nat} (hk : KK ≤ k) {s : List UInt8} (hs : s.length ≤ 1000000000000) : impl_IsName k s = some (nameOk s) := by
  have hK := KK_def
  have hL := LIM_def
  unfold impl_IsName
  have hl : (of_S s).length = s.length := by simp [of_S]
  rw [isName_loop hk (of_S s) (by omega), if_pos (show s.length ≤ LIM by omega)]
  cases s with
  | nil => simp [nameOk]
  | cons a l =>
    rw [decide_eq_false (show ¬ (((a :: l).length : Int) < 1) by simp only [List.length_cons]; omega), if_neg (by simp)]
    rw [nameOk_cons]
    by_cases h : (a :: l).length ≤ 10
    · rw [decide_eq_false (show ¬ (10 < ((a :: l).length : Int)) by omega), if_neg (by simp), decide_eq_true h, Bool.true_and]
      have e : (of_S (a :: l)).all nameI = (a :: l).all fun b => nameI (z_u8 b) := by simp [of_S, z_u8, List.all_map, Function.comp_def]
      rw [e, Bool.and_comm]; rfl
    · rw [decide_eq_true (show (10 < ((a :: l).length : Int)) by omega), if_pos rfl, decide_eq_false h]; rfl
theorem indexByte_mem : ∀ (l : List UInt8) (c : UInt8), (decide (0 ≤ Lib.indexByte l c)) = l.any (fun b => b == c)
  | [], c => rfl
  | b :: l, c => by
    have ih := indexByte_mem l c
    have hge := Lib.indexByte_ge l c
    unfold Lib.indexByte
    rw [List.any_cons, ← ih]
    by_cases h : (b == c) = true
    · simp [h]
    · rw [if_neg h]
      have h' : (b == c) = false := by simpa using h
      rw [h', Bool.false_or]
      by_cases h1 : Lib.indexByte l c = -1
      · simp [h1]
      · have h1' : (Lib.indexByte l c == -1) = false := by simpa using h1
        rw [h1', if_neg (by simp)]
        exact decide_eq_decide.2 (by omega)
theorem u8_back (c : UInt8) : (z_u8 c).toNat.toUInt8 = c := by simp [z_u8]
theorem containsOne_ok (s : List UInt8) (c : UInt8) : strings_Contains s [c] = some (s.any fun b => b == c) := by
  unfold strings_Contains strings_Index stringslite_Index stringslite_IndexByte bytealg_IndexByteString
  simp only [List.getElem?_cons_zero, Option.bind_some, u8_back]
  by_cases h : [c] = s
  · subst h; simp
  · rw [decide_eq_false h]
    simp [indexByte_mem]
abbrev Blk := List UInt8 × List UInt8 × List UInt8
theorem eqBlockS_ok {k : Nat} (hk : KK ≤ k) {a b : List Blk} (ha : a.length < 4611686018427387904) : laws_eqBlockS k a b = some (decide (a = b)) := by
  unfold laws_eqBlockS
  by_cases hl : a.length = b.length
  · rw [if_neg (by simp [hl])]
    refine loop_eq (L := fun n i => laws_eqBlockS_l0 k n a b i (some true)) a b hl ?_ ?_ (n := k) (by have := KK_def; omega)
    · intro n i x y hx hy hlt
      have hw := w_succ (i := i) (by omega)
      obtain ⟨x1, x2, x3⟩ := x
      obtain ⟨y1, y2, y3⟩ := y
      simp only [laws_eqBlockS_l0, laws_eqBlock, hlt, decide_true, if_true, Int.natCast_nonneg, Int.toNat_natCast, hx, hy, Option.bind_some, hw, Prod.mk.injEq]
      by_cases e1 : x1 = y1 <;> by_cases e2 : x2 = y2 <;> by_cases e3 : x3 = y3 <;> simp [e1, e2, e3]
    · intro n
      simp [laws_eqBlockS_l0]
  · have h2 : a ≠ b := fun e => hl (by rw [e])
    have h3 : ¬ (a.length : Int) = b.length := by omega
    simp [h3, h2]
theorem toBlockS_ok {k : Nat} (hk : KK ≤ k) {a : List Blk} (ha : a.length ≤ 1048576) : laws_toBlockS k a = some a := by
  unfold laws_toBlockS
  have hL := LIM_def
  rw [if_pos ⟨by omega, Int.le_refl _, by omega⟩]
  refine loop_copy (L := fun n i q => laws_toBlockS_l0 k n a i q fun q_5 => some q_5) (e := fun q => some q) a _ (by simp) ?_ ?_ (n := k) (by have := KK_def; omega)
  · intro n i x q hx hlt hq
    have hw := w_succ (i := i) (by omega)
    have hi : i < q.length := by omega
    simp [laws_toBlockS_l0, laws_toBlock, hlt, hx, hw, hi]
  · intro n q
    simp [laws_toBlockS_l0]
theorem szBlock_ok {x : Blk} {left : Int} (h0 : 0 ≤ left) (h1 : left ≤ 1048576) (h2 : x.1.length ≤ 140737488355328) (h3 : x.2.1.length ≤ 140737488355328) (h4 : x.2.2.length ≤ 140737488355328) :
    ∃ r, laws_szBlock x left = some r ∧ (r < 0 ∨ (0 ≤ r ∧ r ≤ left ∧ x.1.length ≤ 1048576 ∧ x.2.1.length ≤ 1048576 ∧ x.2.2.length ≤ 1048576)) := by
  unfold laws_szBlock
  rw [w_id (x := left - (x.1.length : Int)) (by omega) (by omega)]
  by_cases q1 : left - (x.1.length : Int) < 0
  · exact ⟨-1, by simp [q1], .inl (by omega)⟩
  · rw [decide_eq_false q1, if_neg (by simp), w_id (x := left - (x.1.length : Int) - (x.2.1.length : Int)) (by omega) (by omega)]
    by_cases q2 : left - (x.1.length : Int) - (x.2.1.length : Int) < 0
    · exact ⟨-1, by simp [q2], .inl (by omega)⟩
    · rw [decide_eq_false q2, if_neg (by simp), w_id (x := left - (x.1.length : Int) - (x.2.1.length : Int) - (x.2.2.length : Int)) (by omega) (by omega)]
      by_cases q3 : left - (x.1.length : Int) - (x.2.1.length : Int) - (x.2.2.length : Int) < 0
      · exact ⟨-1, by simp [q3], .inl (by omega)⟩
      · exact ⟨_, by rw [decide_eq_false q3, if_neg (by simp)], .inr ⟨by omega, by omega, by omega, by omega, by omega⟩⟩
def smallB (x : Blk) : Prop := x.1.length ≤ 1048576 ∧ x.2.1.length ≤ 1048576 ∧ x.2.2.length ≤ 1048576
theorem szBlockS_ok {k : Nat} (hk : KK ≤ k) {a : List Blk} {e : TypeId} {left : Int} (h0 : 0 ≤ left) (h1 : left ≤ 1048576) (ha : InR (.sl e (.st (.pr .str (.pr .str .str)))) a) : ∃ r, laws_szBlockS k a left = some r ∧ (r < 0 ∨ (0 ≤ r ∧ r ≤ left ∧ a.length ≤ 1048576 ∧ ∀ x ∈ a, smallB x)) := by
  obtain ⟨hl, hx⟩ := ha
  unfold laws_szBlockS
  rw [w_id (by omega) (by omega)]
  by_cases h : left - (a.length : Int) < 0
  · exact ⟨-1, by simp [h], .inl (by omega)⟩
  · simp only [decide_eq_true_eq, h, if_false]
    let G : List Blk → Int → Option Int := fun l r => l.foldr (fun x k r => (laws_szBlock x r).bind fun q => if q < 0 then some (-1) else k q) (fun r => some r) r
    have hsz : ∀ x ∈ a, ∀ r : Int, 0 ≤ r → r ≤ left → _ := fun x hx' r hr1 hr2 => szBlock_ok (x := x) (left := r) hr1 (by omega) (by have : InR (.st (.pr .str (.pr .str .str))) x := hx x hx'; have := this.1; exact Nat.le_trans this (by omega)) (by have : InR (.st (.pr .str (.pr .str .str))) x := hx x hx'; have := this.2.1; exact Nat.le_trans this (by omega)) (by have : InR (.st (.pr .str (.pr .str .str))) x := hx x hx'; have := this.2.2; exact Nat.le_trans this (by omega))
    have := loop_list (L := fun n i r => laws_szBlockS_l0 k n a r i fun left => some left) (I := fun pre r => r ≤ left ∧ 0 ≤ r) (G := G) a ?_ ?_ k (by have := KK_def; omega) (left - a.length) ⟨by omega, by omega⟩
    · rw [this]
      have key : ∀ (l : List Blk) (r : Int), (∀ x ∈ l, x ∈ a) → 0 ≤ r → r ≤ left → ∃ q, G l r = some q ∧ (q < 0 ∨ (0 ≤ q ∧ q ≤ left ∧ ∀ x ∈ l, smallB x)) := by
        intro l
        induction l with
        | nil => exact fun r _ h2 h3 => ⟨r, rfl, .inr ⟨h2, h3, by simp⟩⟩
        | cons x l ih =>
          intro r hm h2 h3
          obtain ⟨q0, e1, e2⟩ := hsz x (hm x (by simp)) r h2 h3
          show ∃ q, (laws_szBlock x r).bind (fun q => if q < 0 then some (-1) else G l q) = some q ∧ _
          rw [e1]
          simp only [Option.bind_some]
          rcases e2 with e2 | ⟨e2, e3, e4⟩
          · exact ⟨-1, by rw [if_pos e2], .inl (by omega)⟩
          · obtain ⟨q, q1, q2⟩ := ih q0 (fun y hy => hm y (by simp [hy])) e2 (by omega)
            refine ⟨q, by rw [if_neg (by omega)]; exact q1, q2.imp id fun q3 => ⟨q3.1, q3.2.1, fun y hy => ?_⟩⟩
            rcases List.mem_cons.1 hy with rfl | hy
            · exact e4
            · exact q3.2.2 y hy
      obtain ⟨q, q1, q2⟩ := key a (left - a.length) (fun _ h => h) (by omega) (by omega)
      exact ⟨q, q1, q2.imp id fun q3 => ⟨q3.1, q3.2.1, by omega, q3.2.2⟩⟩
    · intro n pre x post r hax hr ih hg hlt
      have hw := w_succ (i := pre.length) (by omega)
      obtain ⟨q0, e1, e2⟩ := hsz x (by rw [hax]; simp) r hr.2 hr.1
      show _ = (laws_szBlock x r).bind (fun q => if q < 0 then some (-1) else G post q)
      simp only [laws_szBlockS_l0, hlt, hg, decide_true, if_true, Int.natCast_nonneg, Int.toNat_natCast, Option.bind_some, hw, e1]
      by_cases hq : q0 < 0
      · rw [decide_eq_true hq, if_pos rfl, if_pos hq]
      · rw [decide_eq_false hq, if_neg (by simp), if_neg hq]
        refine ih _ ⟨?_, by omega⟩
        rcases e2 with e2 | ⟨_, e3, _⟩
        · omega
        · omega
    · intro n r hr
      simp [laws_szBlockS_l0, G]
def blkOk (b : Blk) : Bool := nameOk b.1 && (nameOk b.2.1 && (decide (b.2.2.length ≤ 400) && !b.2.2.any fun c => c == 10))
theorem l29One_ok {k : Nat} (hk : KK ≤ k) {b : Blk} (hb : smallB b) : spec_l29One k b = some (blkOk b) := by
  have hK := KK_def
  obtain ⟨h1, h2, h3⟩ := hb
  unfold spec_l29One
  have := loop_all (L := fun n i => spec_l29One_l0 k n b i (fun b_2 => (spec_l01Name k b_2.1).bind fun r_3 => (if r_3 = true then (spec_l01Name k b_2.2.1).bind fun r_4 => (if r_4 = true then some (decide ((List.length b_2.2.2 : Int) ≤ 400)) else some false) else some false)))
    (p := fun c => !(c == 10)) (r := some false) (e := some (nameOk b.1 && (nameOk b.2.1 && decide (b.2.2.length ≤ 400)))) b.2.2 ?_ ?_ (n := k) (by omega)
  · refine Eq.trans this ?_
    unfold blkOk
    have e : (b.2.2.all fun c => !(c == 10)) = !b.2.2.any fun c => c == 10 := by rw [List.not_any_eq_all_not]
    rw [e]
    cases (b.2.2.any fun c => c == 10) <;> cases nameOk b.1 <;> cases nameOk b.2.1 <;> simp
  · intro n i x hx hlt
    have hw := w_succ (i := i) (by omega)
    simp only [spec_l29One_l0, hlt, decide_true, if_true, Int.natCast_nonneg, Int.toNat_natCast, hx, Option.bind_some, hw]
    by_cases h : x = 10
    · subst h; rw [decide_eq_true (show z_u8 10 = 10 from rfl), if_pos rfl]; simp
    · have h' : ¬ z_u8 x = 10 := fun e => h (by have e : (x.toNat : Int) = 10 := e; apply UInt8.toNat.inj; show x.toNat = 10; omega)
      rw [decide_eq_false h', if_neg (by simp), if_pos (by simpa using h)]
  · intro n
    have e2 : decide ((b.2.2.length : Int) ≤ 400) = decide (b.2.2.length ≤ 400) := decide_eq_decide.2 (by omega)
    simp only [spec_l29One_l0, Int.lt_irrefl, decide_false, Bool.false_eq_true, if_false, l01Name_ok hk (show b.1.length ≤ 1000000000000 by omega), l01Name_ok hk (show b.2.1.length ≤ 1000000000000 by omega), Option.bind_some, e2]
    cases nameOk b.1 <;> cases nameOk b.2.1 <;> simp
theorem implValidBlock_ok {k : Nat} (hk : KK ≤ k) {b : Blk} (hb : smallB b) : impl_ValidBlock k b = some (blkOk b) := by
  obtain ⟨h1, h2, h3⟩ := hb
  unfold impl_ValidBlock blkOk
  rw [isName_ok hk (show b.1.length ≤ 1000000000000 by omega), isName_ok hk (show b.2.1.length ≤ 1000000000000 by omega), containsOne_ok]
  have e2 : decide ((b.2.2.length : Int) ≤ 400) = decide (b.2.2.length ≤ 400) := decide_eq_decide.2 (by omega)
  rw [e2]
  cases nameOk b.1 <;> cases nameOk b.2.1 <;> cases decide (b.2.2.length ≤ 400) <;> simp
def before (a b : Blk) : Bool := Op.bytesLess a.1 b.1 || (decide (a.1 = b.1) && Op.bytesLess a.2.1 b.2.1)
def cmpS (x y : List UInt8) : Int := if Op.bytesLess x y = true then -1 else if x = y then 0 else 1
def cmpB (a b : Blk) : Int := if cmpS a.1 b.1 = 0 then cmpS a.2.1 b.2.1 else cmpS a.1 b.1
theorem l29Before_ok (a b : Blk) : spec_l29Before a b = some (before a b) := by
  unfold spec_l29Before before
  cases Op.bytesLess a.1 b.1
  · by_cases h : a.1 = b.1 <;> simp [h]
  · simp
theorem cmpString_ok (x y : List UInt8) : cmp_Compare_string x y = some (cmpS x y) := by
  unfold cmp_Compare_string cmp_isNaN_string cmpS
  cases Op.bytesLess x y
  · by_cases h : x = y <;> simp [h]
  · simp
theorem cmpOr2_ok {k : Nat} (hk : KK ≤ k) (a b : Int) : cmp_Or_int k [a, b] = some (if a = 0 then b else a) := by
  have hK := KK_def
  obtain ⟨m, rfl⟩ : ∃ m, k = m + 3 := ⟨k - 3, by omega⟩
  generalize hf : m + 3 = k
  have hw0 : w_i64 1 = 1 := w_id (by omega) (by omega)
  have hw1 : w_i64 2 = 2 := w_id (by omega) (by omega)
  show cmp_Or_int_l0 k k 0 [a, b] 2 0 (fun zero_2 => some zero_2) = _
  conv => lhs; arg 2; rw [← hf]
  by_cases h : a = 0
  · by_cases h' : b = 0
    · subst h; subst h'; simp [cmp_Or_int_l0, hw0, hw1]
    · subst h; simp [cmp_Or_int_l0, hw0, hw1, h']
  · simp [cmp_Or_int_l0, h]
theorem compareBlocks_ok {k : Nat} (hk : KK ≤ k) (a b : Blk) : impl_compareBlocks k a b = some (cmpB a b) := by
  unfold impl_compareBlocks cmpB
  simp only [cmpString_ok, Option.bind_some, cmpOr2_ok hk]
theorem cmpB_before (a b : Blk) : decide (0 ≤ cmpB a b) = !before a b := by
  unfold cmpB cmpS before
  cases Op.bytesLess a.1 b.1
  · by_cases h : a.1 = b.1
    · cases Op.bytesLess a.2.1 b.2.1
      · by_cases h' : a.2.1 = b.2.1 <;> simp [h, h']
      · simp [h]
    · simp [h]
  · simp
/-- A list of blocks in order. -/
def okAt (l : List Blk) (i : Nat) : Bool := match l[i]? with
  | none => false
  | some y => blkOk y && (if 0 < i then (match l[i - 1]? with | some z => before z y | none => false) else true)
def okBlocks (l : List Blk) : Bool := (List.range l.length).all (okAt l) && decide (l.length ≤ 32)
theorem l29Ok_ok {k : Nat} (hk : KK ≤ k) {a : List Blk} (ha : a.length ≤ 1048576) (hx : ∀ x ∈ a, smallB x) : spec_l29Ok k a = some (okBlocks a) := by
  have hK := KK_def
  unfold spec_l29Ok okBlocks
  have := loop_allN (L := fun n i => spec_l29Ok_l0 k n a i (fun list_6 => some (decide ((List.length list_6 : Int) ≤ 32)))) (b := a.length) (p := okAt a) (r := some false) (e := some (decide (a.length ≤ 32))) ?_ ?_ (n := k) (by omega)
  · refine Eq.trans this ?_
    cases (List.range a.length).all (okAt a) <;> simp
  · intro n i hi
    have hlt : (i : Int) < (a.length : Int) := by omega
    have hw := w_succ (i := i) (by omega)
    have hg : a[i]? = some a[i] := List.getElem?_eq_getElem hi
    simp only [spec_l29Ok_l0, hlt, decide_true, if_true, Int.natCast_nonneg, Int.toNat_natCast, hg, Option.bind_some, hw, l29One_ok hk (hx a[i] (List.getElem_mem hi)), l29Before_ok, okAt]
    cases blkOk a[i]
    · simp
    · by_cases h0 : 0 < i
      · have hw1 : w_i64 ((i : Int) - 1) = ((i - 1 : Nat) : Int) := by rw [w_id (by omega) (by omega)]; omega
        have hg1 : a[i - 1]? = some a[i - 1] := List.getElem?_eq_getElem (by omega)
        have h0' : (0 : Int) < (i : Int) := by omega
        simp only [hw1, Int.natCast_nonneg, Int.toNat_natCast, hg1, h0, h0', decide_true, if_true, Option.bind_some]
        cases before a[i - 1] a[i] <;> simp
      · have h0' : ¬ (0 : Int) < (i : Int) := by omega
        simp [h0, h0']
  · intro n
    have e2 : decide ((a.length : Int) ≤ 32) = decide (a.length ≤ 32) := decide_eq_decide.2 (by omega)
    simp only [spec_l29Ok_l0, Int.lt_irrefl, decide_false, Bool.false_eq_true, if_false, e2]
theorem implValidBlocks_ok {k : Nat} (hk : KK ≤ k) {a : List Blk} (ha : a.length ≤ 1048576) (hx : ∀ x ∈ a, smallB x) : impl_ValidBlocks k a = some (okBlocks a) := by
  have hK := KK_def
  unfold impl_ValidBlocks okBlocks
  have := loop_allN (L := fun n i => impl_ValidBlocks_l0 k n a a (a.length : Int) i (fun list_5 => some (decide ((List.length list_5 : Int) ≤ 32)))) (b := a.length) (p := okAt a) (r := some false) (e := some (decide (a.length ≤ 32))) ?_ ?_ (n := k) (by omega)
  · refine Eq.trans this ?_
    cases (List.range a.length).all (okAt a) <;> simp
  · intro n i hi
    have hlt : (i : Int) < (a.length : Int) := by omega
    have hw := w_succ (i := i) (by omega)
    have hg : a[i]? = some a[i] := List.getElem?_eq_getElem hi
    simp only [impl_ValidBlocks_l0, hlt, decide_true, if_true, Int.natCast_nonneg, Int.toNat_natCast, hg, Option.bind_some, hw, implValidBlock_ok hk (hx a[i] (List.getElem_mem hi)), compareBlocks_ok hk, cmpB_before, okAt]
    cases blkOk a[i]
    · simp
    · by_cases h0 : 0 < i
      · have hw1 : w_i64 ((i : Int) - 1) = ((i - 1 : Nat) : Int) := by rw [w_id (by omega) (by omega)]; omega
        have hg1 : a[i - 1]? = some a[i - 1] := List.getElem?_eq_getElem (by omega)
        have h0' : (0 : Int) < (i : Int) := by omega
        simp only [hw1, Int.natCast_nonneg, Int.toNat_natCast, hg1, h0, h0', decide_true, if_true, Option.bind_some]
        cases before a[i - 1] a[i] <;> simp
      · have h0' : ¬ (0 : Int) < (i : Int) := by omega
        simp [h0, h0']
  · intro n
    have e2 : decide ((a.length : Int) ≤ 32) = decide (a.length ≤ 32) := decide_eq_decide.2 (by omega)
    simp only [impl_ValidBlocks_l0, Int.lt_irrefl, decide_false, Bool.false_eq_true, if_false, e2]
theorem bl_irrefl : ∀ x : List UInt8, Op.bytesLess x x = false
  | [] => rfl
  | a :: x => by simp [Op.bytesLess, bl_irrefl x]
theorem bl_trans : ∀ x y z : List UInt8, Op.bytesLess x y = true → Op.bytesLess y z = true → Op.bytesLess x z = true
  | _, [], _, h, _ => by simp [Op.bytesLess] at h
  | _, _ :: _, [], _, h => by simp [Op.bytesLess] at h
  | [], _ :: _, _ :: _, _, _ => rfl
  | a :: x, b :: y, c :: z, h1, h2 => by
    simp only [Op.bytesLess, Bool.or_eq_true, Bool.and_eq_true, decide_eq_true_eq, beq_iff_eq] at h1 h2 ⊢
    rcases h1 with h1 | ⟨rfl, h1⟩
    · rcases h2 with h2 | ⟨rfl, h2⟩
      · exact .inl (UInt8.lt_trans h1 h2)
      · exact .inl h1
    · rcases h2 with h2 | ⟨rfl, h2⟩
      · exact .inl h2
      · exact .inr ⟨rfl, bl_trans x y z h1 h2⟩
theorem bl_total : ∀ x y : List UInt8, Op.bytesLess x y = false → x ≠ y → Op.bytesLess y x = true
  | [], [], _, h => absurd rfl h
  | _ :: _, [], _, _ => rfl
  | [], _ :: _, h, _ => by simp [Op.bytesLess] at h
  | a :: x, b :: y, h1, h2 => by
    simp only [Op.bytesLess, Bool.or_eq_false_iff, decide_eq_false_iff_not, Bool.and_eq_false_iff, beq_eq_false_iff_ne] at h1
    simp only [Op.bytesLess, Bool.or_eq_true, Bool.and_eq_true, decide_eq_true_eq, beq_iff_eq]
    by_cases h : a = b
    · subst h
      refine .inr ⟨rfl, bl_total x y (h1.2.resolve_left (fun h => h rfl)) (fun e => h2 (by rw [e]))⟩
    · exact .inl (UInt8.lt_of_le_of_ne (UInt8.not_lt.1 h1.1) (Ne.symm h))
theorem bl_asymm {x y : List UInt8} (h : Op.bytesLess x y = true) : Op.bytesLess y x = false := by
  cases h' : Op.bytesLess y x
  · rfl
  · have := bl_trans x y x h h'
    rw [bl_irrefl] at this; cases this
theorem before_iff {a b : Blk} : before a b = true ↔ Op.bytesLess a.1 b.1 = true ∨ (a.1 = b.1 ∧ Op.bytesLess a.2.1 b.2.1 = true) := by
  unfold before; simp
theorem before_irrefl (a : Blk) : before a a = false := by unfold before; simp [bl_irrefl]
theorem before_trans {a b c : Blk} (h1 : before a b = true) (h2 : before b c = true) : before a c = true := by
  rw [before_iff] at *
  rcases h1 with h1 | ⟨e1, h1⟩
  · rcases h2 with h2 | ⟨e2, h2⟩
    · exact .inl (bl_trans _ _ _ h1 h2)
    · exact .inl (e2 ▸ h1)
  · rcases h2 with h2 | ⟨e2, h2⟩
    · exact .inl (e1 ▸ h2)
    · exact .inr ⟨e1.trans e2, bl_trans _ _ _ h1 h2⟩
theorem before_total {a b : Blk} (h1 : before a b = false) (h2 : ¬ (a.1 = b.1 ∧ a.2.1 = b.2.1)) : before b a = true := by
  rw [before_iff]
  have h1' : ¬ (before a b = true) := by simp [h1]
  rw [before_iff] at h1'
  by_cases h : a.1 = b.1
  · right
    refine ⟨h.symm, bl_total _ _ ?_ (fun e => h2 ⟨h, e⟩)⟩
    cases hb : Op.bytesLess a.2.1 b.2.1
    · rfl
    · exact absurd (.inr ⟨h, hb⟩) h1'
  · left
    refine bl_total _ _ ?_ h
    cases hb : Op.bytesLess a.1 b.1
    · rfl
    · exact absurd (.inl hb) h1'
theorem cmpB_neg (a b : Blk) : decide (cmpB a b < 0) = before a b := by
  have := cmpB_before a b
  have h2 : decide (cmpB a b < 0) = !decide (0 ≤ cmpB a b) := by rw [← decide_not]; exact decide_eq_decide.2 (by omega)
  rw [h2, this, Bool.not_not]
theorem cmpB_zero (a b : Blk) : cmpB a b = 0 ↔ (a.1 = b.1 ∧ a.2.1 = b.2.1) := by
  unfold cmpB cmpS
  by_cases h1 : a.1 = b.1
  · rw [h1, bl_irrefl]
    by_cases h2 : a.2.1 = b.2.1
    · rw [h2, bl_irrefl]; simp
    · simp only [Bool.false_eq_true, if_false, if_true, h2, and_false, iff_false]
      split <;> omega
  · have h0 : ¬ (if Op.bytesLess a.1 b.1 = true then (-1 : Int) else if a.1 = b.1 then 0 else 1) = 0 := by
      rw [if_neg h1]; split <;> omega
    rw [if_neg h0]
    exact ⟨fun h => absurd h h0, fun h => absurd h.1 h1⟩
/-- Blocks in order lie so far apart as one likes. -/
theorem okBlocks_sorted {l : List Blk} (h : okBlocks l = true) : l.length ≤ 32 ∧ (∀ x ∈ l, blkOk x = true) ∧ l.Pairwise (fun a b => before a b = true) := by
  unfold okBlocks at h
  simp only [Bool.and_eq_true, List.all_eq_true, List.mem_range, decide_eq_true_eq] at h
  obtain ⟨h1, h2⟩ := h
  refine ⟨h2, fun x hx => ?_, ?_⟩
  · obtain ⟨i, hi⟩ := List.getElem?_of_mem hx
    have hlt := (List.getElem?_eq_some_iff.1 hi).1
    have := h1 i hlt
    unfold okAt at this
    rw [hi] at this
    simp only [Bool.and_eq_true] at this
    exact this.1
  · have step : ∀ i, (hi : i + 1 < l.length) → before l[i] l[i + 1] = true := by
      intro i hi
      have := h1 (i + 1) hi
      unfold okAt at this
      rw [List.getElem?_eq_getElem hi, Nat.add_sub_cancel, List.getElem?_eq_getElem (show i < l.length by omega)] at this
      simp only [Bool.and_eq_true, Nat.succ_pos, if_true, Nat.zero_lt_succ] at this
      exact this.2
    rw [List.pairwise_iff_getElem]
    intro i j hi hj hij
    induction j with
    | zero => omega
    | succ j ih =>
      by_cases e : i = j
      · subst e; exact step i hj
      · exact before_trans (ih (by omega) (by omega)) (step j hj)
def lowB (l : List Blk) (b : Blk) : Nat := l.findIdx (fun y => !before y b)
theorem lowB_le (l : List Blk) (b : Blk) : lowB l b ≤ l.length := List.findIdx_le_length
theorem lowB_lt {l : List Blk} {b : Blk} {i : Nat} (h : i < lowB l b) (hi : i < l.length) : before l[i] b = true := by
  have := List.not_of_lt_findIdx h
  simpa using this
theorem lowB_ge {l : List Blk} {b : Blk} (hs : l.Pairwise (fun a b => before a b = true)) {i : Nat} (h : lowB l b ≤ i) (hi : i < l.length) : before l[i] b = false := by
  have hp : lowB l b < l.length := by omega
  have h0 : before l[lowB l b] b = false := by
    have := List.findIdx_getElem (xs := l) (p := fun y => !before y b) (w := hp)
    simp only [Bool.not_eq_true'] at this
    exact this
  by_cases e : i = lowB l b
  · subst e; exact h0
  · cases hb : before l[i] b
    · rfl
    · have h1 := List.pairwise_iff_getElem.1 hs (lowB l b) i hp hi (by omega)
      rw [before_trans h1 hb] at h0; cases h0
theorem mid_ok {i j : Nat} (h : i + j < 4611686018427387904) : w_i64 (Int.fdiv (w_u64 (w_i64 ((i : Int) + (j : Int)))) (2 ^ 1)) = (((i + j) / 2 : Nat) : Int) := by
  rw [w_id (x := (i : Int) + j) (by omega) (by omega)]
  have hu : w_u64 ((i : Int) + (j : Int)) = (i : Int) + j := by unfold w_u64 IntKind.wrap; simp [IntKind.bits, IntKind.signed]; omega
  rw [hu, Int.fdiv_eq_ediv_of_nonneg _ (by omega), w_id (by omega) (by omega)]
  omega
theorem binSearch_loop {k : Nat} (hk : KK ≤ k) {l : List Blk} (hl : l.length ≤ 1048576) (hs : l.Pairwise (fun a b => before a b = true)) (b : Blk) {e : List Blk → Unit → Int → Int → Blk → Option (Int × Bool)} :
    ∀ (d : Nat) (i j n : Nat), j - i ≤ d → d < n → i ≤ lowB l b → lowB l b ≤ j → j ≤ l.length → slices_BinarySearchFunc_impl_Block__impl_compareBlocks_l0 k n l () (l.length : Int) (i : Int) (j : Int) b e = e l () (l.length : Int) ((lowB l b : Nat) : Int) b := by
  intro d
  induction d with
  | zero =>
    intro i j n h1 h2 h3 h4 h5
    obtain ⟨n, rfl⟩ : ∃ m, n = m + 1 := ⟨n - 1, by omega⟩
    have hlt : ¬ (i : Int) < (j : Int) := by omega
    simp only [slices_BinarySearchFunc_impl_Block__impl_compareBlocks_l0, hlt, decide_false, Bool.false_eq_true, if_false]
    rw [show i = lowB l b by omega]
  | succ d ih =>
    intro i j n h1 h2 h3 h4 h5
    obtain ⟨n, rfl⟩ : ∃ m, n = m + 1 := ⟨n - 1, by omega⟩
    by_cases hij : i < j
    · have hlt : (i : Int) < (j : Int) := by omega
      have hm : (i + j) / 2 < l.length := by omega
      have hw := w_succ (i := (i + j) / 2) (by omega)
      simp only [slices_BinarySearchFunc_impl_Block__impl_compareBlocks_l0, hlt, decide_true, if_true, mid_ok (show i + j < 4611686018427387904 by omega), Int.natCast_nonneg, Int.toNat_natCast, List.getElem?_eq_getElem hm, Option.bind_some, compareBlocks_ok hk, cmpB_neg, hw]
      by_cases hb : before l[(i + j) / 2] b = true
      · rw [if_pos hb]
        refine ih _ _ _ (by omega) (by omega) ?_ h4 h5
        by_cases hq : lowB l b ≤ (i + j) / 2
        · rw [lowB_ge hs hq hm] at hb; cases hb
        · omega
      · rw [if_neg hb]
        refine ih _ _ _ (by omega) (by omega) h3 ?_ (by omega)
        by_cases hq : (i + j) / 2 < lowB l b
        · exact absurd (lowB_lt hq hm) hb
        · omega
    · have hlt : ¬ (i : Int) < (j : Int) := by omega
      simp only [slices_BinarySearchFunc_impl_Block__impl_compareBlocks_l0, hlt, decide_false, Bool.false_eq_true, if_false]
      rw [show i = lowB l b by omega]
def hereB (l : List Blk) (b : Blk) : Bool := match l[lowB l b]? with | some y => decide (y.1 = b.1 ∧ y.2.1 = b.2.1) | none => false
theorem blockAt_ok {k : Nat} (hk : KK ≤ k) {l : List Blk} (hl : l.length ≤ 1048576) (hs : l.Pairwise (fun a b => before a b = true)) (b : Blk) : impl_blockAt k l b = some (((lowB l b : Nat) : Int), hereB l b) := by
  have hK := KK_def
  unfold impl_blockAt slices_BinarySearchFunc_impl_Block__impl_compareBlocks
  have := lowB_le l b
  have h0 : ∀ e : List Blk → Unit → Int → Int → Blk → Option (Int × Bool), slices_BinarySearchFunc_impl_Block__impl_compareBlocks_l0 k k l () (l.length : Int) 0 (l.length : Int) b e = e l () (l.length : Int) ((lowB l b : Nat) : Int) b :=
    fun e => binSearch_loop hk hl hs b l.length 0 l.length k (by omega) (by omega) (by omega) (by omega) (by omega)
  rw [h0]
  unfold hereB
  by_cases h : lowB l b < l.length
  · have h' : ((lowB l b : Nat) : Int) < (l.length : Int) := by omega
    simp only [h', decide_true, if_true, Int.natCast_nonneg, Int.toNat_natCast, List.getElem?_eq_getElem h, Option.bind_some, compareBlocks_ok hk, cmpB_zero]
  · have h' : ¬ ((lowB l b : Nat) : Int) < (l.length : Int) := by omega
    rw [decide_eq_false h', if_neg (by simp), List.getElem?_eq_none (by omega)]
    rfl
/-- In order, the first with a key is the one at its place. -/
theorem find_low {l : List Blk} (hs : l.Pairwise (fun a b => before a b = true)) (b : Blk) : idxP (fun y : Blk => decide (y.1 = b.1 ∧ y.2.1 = b.2.1)) l = if hereB l b = true then ((lowB l b : Nat) : Int) else -1 := by
  unfold idxP hereB
  have key : ∀ i (hi : i < l.length), (l[i].1 = b.1 ∧ l[i].2.1 = b.2.1) → lowB l b = i := by
    intro i hi hkey
    have c0 : ∀ z : Blk, before z l[i] = before z b := by intro z; unfold before; rw [hkey.1, hkey.2]
    have c1 : before l[i] b = false := by rw [← c0]; exact before_irrefl _
    have a1 : lowB l b ≤ i := by
      by_cases h : i < lowB l b
      · rw [lowB_lt h hi] at c1; cases c1
      · omega
    by_cases h : lowB l b = i
    · exact h
    · have h1 := List.pairwise_iff_getElem.1 hs (lowB l b) i (by omega) hi (by omega)
      rw [c0] at h1
      rw [lowB_ge hs (Nat.le_refl _) (by omega)] at h1; cases h1
  cases hf : l.findIdx? (fun y : Blk => decide (y.1 = b.1 ∧ y.2.1 = b.2.1)) with
  | some i =>
    obtain ⟨hlt, hp, _⟩ := List.findIdx?_eq_some_iff_getElem.1 hf
    have hp' : l[i].1 = b.1 ∧ l[i].2.1 = b.2.1 := by simpa using hp
    rw [key i hlt hp', List.getElem?_eq_getElem hlt]
    simp [hp'.1, hp'.2]
  | none =>
    rw [List.findIdx?_eq_none_iff] at hf
    cases hg : l[lowB l b]? with
    | none => simp
    | some y =>
      have := hf y (List.mem_of_getElem? hg)
      simp only [this]; simp
theorem cloneB_ok {a : List Blk} (ha : a.length ≤ 1048576) : slices_Clone_impl_Block a = some a := by
  have hL := LIM_def
  unfold slices_Clone_impl_Block
  have h : (([] : List Unit).length + a.length) * 48 ≤ LIM := by simp only [List.length_nil]; omega
  rw [if_pos h]
  cases a with
  | nil => simp [both]
  | cons x l => simp
def sameK (y b : Blk) : Bool := decide (y.1 = b.1) && decide (y.2.1 = b.2.1)
/-- A block at its place, the one with its key taken out. -/
def putR (b : Blk) : Bool → List Blk → List Blk
  | done, [] => if done then [] else [b]
  | done, y :: l => (if done then [] else if before y b then [] else [b]) ++ ((if sameK y b then [] else [y]) ++ putR b (done || !before y b) l)
theorem putR_len (b : Blk) : ∀ (l : List Blk) (d : Bool), (putR b d l).length ≤ l.length + 1
  | [], d => by unfold putR; split <;> simp
  | y :: l, d => by
    have h1 := putR_len b l true
    have h0 := putR_len b l d
    have hd : ∀ l : List Blk, (putR b true l).length ≤ l.length := by
      intro l
      induction l with
      | nil => simp [putR]
      | cons y l ih => simp only [putR, Bool.true_or, if_true, List.nil_append, List.length_append, List.length_cons]; split <;> simp <;> omega
    have h2 := hd l
    unfold putR
    cases d
    · cases before y b
      · simp only [Bool.false_eq_true, if_false, Bool.not_false, Bool.or_true, List.length_append, List.length_cons, List.length_nil]
        split <;> simp <;> omega
      · simp only [Bool.false_eq_true, if_false, if_true, Bool.not_true, Bool.or_false, List.nil_append, List.length_append, List.length_cons]
        split <;> simp <;> omega
    · simp only [if_true, Bool.true_or, List.nil_append, List.length_append, List.length_cons]
      split <;> simp <;> omega
theorem c48 {n : Nat} (h : n ≤ 200000000000) : (n + 1) * 48 ≤ LIM := by have := LIM_def; omega
theorem l29Put_ok {k : Nat} (hk : KK ≤ k) {l : List Blk} (hl : l.length ≤ 100000000000) (b : Blk) : spec_l29Put k l b = some (putR b false l) := by
  have hK := KK_def
  unfold spec_l29Put
  obtain ⟨E, hE⟩ : ∃ E : Bool → List Blk → Blk → Option (List Blk), E = fun done_16 q_17 v_18 => (if (!done_16) = true then (if (q_17.length + [v_18].length) * 48 ≤ LIM then some (q_17 ++ [v_18]) else none) else some q_17) := ⟨_, rfl⟩
  rw [← hE]
  have := loop_list (A := Bool × List Blk) (L := fun n i q => spec_l29Put_l0 k n l q.1 i q.2 b E)
    (I := fun pre q => q.2.length ≤ pre.length + (if q.1 = true then 1 else 0)) (G := fun post q => some (q.2 ++ putR b q.1 post)) l ?_ ?_ k (by omega) (false, []) (by simp)
  · exact this
  · intro n pre x post q hx hq ih hg hlt
    have hw := w_succ (i := pre.length) (by omega)
    obtain ⟨d, q⟩ := q
    simp only at hq ih ⊢
    have hpl : pre.length < l.length := by omega
    have hq1 : q.length ≤ pre.length + 1 := by split at hq <;> omega
    have c1 : (q.length + [b].length) * 48 ≤ LIM := c48 (by omega)
    have c3 : (q.length + [x].length) * 48 ≤ LIM := c48 (by clear c1; omega)
    have c2 : ((q ++ [b]).length + [x].length) * 48 ≤ LIM := by rw [List.length_append]; exact c48 (n := q.length + 1) (by clear c1 c3; omega)
    have ih' : ∀ (d' : Bool) (q' : List Blk), q'.length ≤ pre.length + 1 + (if d' = true then 1 else 0) → spec_l29Put_l0 k n l d' ((pre.length + 1 : Nat) : Int) q' b E = some (q' ++ putR b d' post) := fun d' q' h => ih (d', q') (by simpa using h)
    clear ih
    simp only [spec_l29Put_l0, hlt, decide_true, if_true, Int.natCast_nonneg, Int.toNat_natCast, hg, Option.bind_some, hw, l29Before_ok, c1, c2, c3]
    clear c1 c2 c3
    generalize ((pre.length + 1 : Nat) : Int) = j at ih' ⊢
    cases d
    · have hq' : q.length ≤ pre.length := by simpa using hq
      cases hb : before x b
      · have i1 := ih' true (q ++ [b] ++ [x]) (by simp; omega)
        have i2 := ih' true (q ++ [b]) (by simp; omega)
        simp only [Bool.not_false, if_true, putR, hb, Bool.or_true, Bool.false_eq_true, if_false]
        by_cases h1 : x.1 = b.1
        · by_cases h2 : x.2.1 = b.2.1
          · simp only [h1, h2, decide_true, Bool.not_true, Bool.false_eq_true, if_false, i2, sameK, Bool.and_self, if_true]
            simp
          · simp only [h1, h2, decide_true, decide_false, Bool.not_true, Bool.not_false, Bool.false_eq_true, if_false, if_true, i1, sameK, Bool.and_false]
            simp
        · simp only [h1, decide_false, Bool.not_false, if_true, i1, sameK, Bool.false_and, Bool.false_eq_true, if_false]
          simp
      · have i1 := ih' false (q ++ [x]) (by simp; omega)
        have i2 := ih' false q (by simp; omega)
        simp only [Bool.not_false, if_true, putR, hb, Bool.not_true, Bool.or_false, Bool.false_eq_true, if_false]
        by_cases h1 : x.1 = b.1
        · by_cases h2 : x.2.1 = b.2.1
          · simp only [h1, h2, decide_true, Bool.not_true, Bool.false_eq_true, if_false, i2, sameK, Bool.and_self, if_true]
            simp
          · simp only [h1, h2, decide_true, decide_false, Bool.not_true, Bool.not_false, Bool.false_eq_true, if_false, if_true, i1, sameK, Bool.and_false]
            simp
        · simp only [h1, decide_false, Bool.not_false, if_true, i1, sameK, Bool.false_and, Bool.false_eq_true, if_false]
          simp
    · have i1 := ih' true (q ++ [x]) (by simp; omega)
      have i2 := ih' true q (by simp; omega)
      simp only [Bool.not_true, Bool.false_eq_true, if_false, putR, if_true, Bool.true_or]
      by_cases h1 : x.1 = b.1
      · by_cases h2 : x.2.1 = b.2.1
        · simp only [h1, h2, decide_true, Bool.not_true, Bool.false_eq_true, if_false, i2, sameK, Bool.and_self, if_true]
          simp
        · simp only [h1, h2, decide_true, decide_false, Bool.not_true, Bool.not_false, Bool.false_eq_true, if_false, if_true, i1, sameK, Bool.and_false]
          simp
      · simp only [h1, decide_false, Bool.not_false, if_true, i1, sameK, Bool.false_and, Bool.false_eq_true, if_false]
        simp
  · intro n q hq
    obtain ⟨d, q⟩ := q
    simp only at hq ⊢
    have hq1 : q.length ≤ l.length + 1 := by split at hq <;> omega
    have c1 : (q.length + [b].length) * 48 ≤ LIM := c48 (by omega)
    simp only [spec_l29Put_l0, Int.lt_irrefl, decide_false, Bool.false_eq_true, if_false]
    subst hE
    cases d
    · simp only [Bool.not_false, if_true, if_pos c1, putR, Bool.false_eq_true, if_false]
    · simp only [Bool.not_true, Bool.false_eq_true, if_false, putR, if_true, List.append_nil]
/-- In order: what is ahead, the block, what is behind. -/
def putS (l : List Blk) (b : Blk) : List Blk := l.take (lowB l b) ++ (b :: l.drop (if hereB l b = true then lowB l b + 1 else lowB l b))
theorem putR_true {b : Blk} : ∀ {l : List Blk}, (∀ y ∈ l, sameK y b = false) → putR b true l = l
  | [], _ => rfl
  | y :: l, h => by
    have := putR_true (b := b) (l := l) fun z hz => h z (by simp [hz])
    simp [putR, h y (by simp), this]
theorem sameK_iff {y b : Blk} : sameK y b = true ↔ y.1 = b.1 ∧ y.2.1 = b.2.1 := by simp [sameK]
theorem putR_sorted {b : Blk} : ∀ {l : List Blk}, l.Pairwise (fun a b => before a b = true) → putR b false l = putS l b
  | [], _ => by simp [putR, putS, lowB, hereB]
  | y :: l, h => by
    obtain ⟨h1, h2⟩ := List.pairwise_cons.1 h
    cases hb : before y b
    · have hlow : lowB (y :: l) b = 0 := by simp [lowB, List.findIdx_cons, hb]
      have hrest : ∀ z ∈ l, sameK z b = false := by
        intro z hz
        cases hs : sameK z b
        · rfl
        · obtain ⟨e1, e2⟩ := sameK_iff.1 hs
          have := h1 z hz
          unfold before at this hb
          rw [e1, e2] at this
          rw [this] at hb; cases hb
      have hh : hereB (y :: l) b = sameK y b := by
        unfold hereB
        rw [hlow]
        simp only [List.getElem?_cons_zero, sameK]
        by_cases e1 : y.1 = b.1 <;> by_cases e2 : y.2.1 = b.2.1 <;> simp [e1, e2]
      unfold putS
      rw [hlow, hh]
      simp only [putR, hb, Bool.not_false, Bool.or_true, putR_true hrest, Bool.false_eq_true, if_false]
      cases sameK y b <;> simp
    · have hlow : lowB (y :: l) b = lowB l b + 1 := by simp [lowB, List.findIdx_cons, hb]
      have hs : sameK y b = false := by
        cases hs : sameK y b
        · rfl
        · obtain ⟨e1, e2⟩ := sameK_iff.1 hs
          have e : before y b = before b b := by unfold before; rw [e1, e2]
          rw [e, before_irrefl] at hb; cases hb
      have hh : hereB (y :: l) b = hereB l b := by unfold hereB; rw [hlow]; simp
      have ih := putR_sorted (b := b) h2
      simp only [putR, hb, hs, Bool.not_true, Bool.or_false, ih, Bool.false_eq_true, if_false, if_true]
      unfold putS
      rw [hlow, hh]
      cases hereB l b <;> simp
theorem hereB_lt' {a : List Blk} {b : Blk} (h : hereB a b = true) : lowB a b < a.length := by
  unfold hereB at h
  cases hg : a[lowB a b]? with
  | none => rw [hg] at h; cases h
  | some y => exact (List.getElem?_eq_some_iff.1 hg).1
theorem putBlock_ok {k : Nat} (hk : KK ≤ k) {l : List Blk} (hl : l.length ≤ 1048576) (hs : l.Pairwise (fun a b => before a b = true)) (b : Blk) : impl_putBlock k l b = some (putS l b) := by
  have hL := LIM_def
  have hle := lowB_le l b
  unfold impl_putBlock putS
  rw [cloneB_ok hl, Option.bind_some, blockAt_ok hk hl hs, Option.bind_some]
  cases hh : hereB l b
  · have c : 0 ≤ ((lowB l b : Nat) : Int) ∧ ((lowB l b : Nat) : Int) ≤ (l.length : Int) ∧ 0 < List.length [b] ∧ (l.length + List.length [b]) * 48 ≤ LIM := ⟨by omega, by omega, by simp, by simp only [List.length_singleton]; omega⟩
    simp only [Bool.false_eq_true, if_false, slices_Insert_impl_Block_s, if_pos c, Option.bind_some, Int.toNat_natCast, List.append_assoc, List.singleton_append]
  · have hlt := hereB_lt' hh
    have c : (0 : Int) ≤ ((lowB l b : Nat) : Int) ∧ lowB l b < l.length := ⟨by omega, hlt⟩
    simp only [if_true, Int.toNat_natCast, List.getElem?_eq_getElem hlt, Option.bind_some]
    rw [if_pos c]
    rw [List.set_eq_take_append_cons_drop, if_pos hlt]
theorem putS_len (l : List Blk) (b : Blk) : (putS l b).length ≤ l.length + 1 := by
  unfold putS
  simp only [List.length_append, List.length_take, List.length_cons, List.length_drop]
  split <;> omega
/-- What is put in order stays in order. -/
theorem putS_sorted {l : List Blk} (hs : l.Pairwise (fun a b => before a b = true)) (b : Blk) : (putS l b).Pairwise (fun a b => before a b = true) := by
  have hsub : (l.take (lowB l b) ++ l.drop (if hereB l b = true then lowB l b + 1 else lowB l b)).Pairwise (fun a b => before a b = true) := by
    refine hs.sublist ?_
    conv => rhs; rw [← List.take_append_drop (lowB l b) l]
    refine List.Sublist.append (List.Sublist.refl _) ?_
    split
    · rw [← List.drop_drop]; exact List.drop_sublist _ _
    · exact List.Sublist.refl _
  obtain ⟨p1, p2, p3⟩ := List.pairwise_append.1 hsub
  unfold putS
  refine List.pairwise_append.2 ⟨p1, List.pairwise_cons.2 ⟨fun y hy => ?_, p2⟩, fun x hx y hy => ?_⟩
  · obtain ⟨i, hi⟩ := List.getElem?_of_mem hy
    rw [List.getElem?_drop] at hi
    obtain ⟨hlt, he⟩ := List.getElem?_eq_some_iff.1 hi
    have hge : lowB l b ≤ (if hereB l b = true then lowB l b + 1 else lowB l b) + i := by split <;> omega
    have h1 := lowB_ge hs hge hlt
    rw [he] at h1
    refine before_total h1 fun hkey => ?_
    -- same key: then it is the one at its place, which is taken out
    have h0 : lowB l b < l.length := by omega
    have hb0 := lowB_ge hs (Nat.le_refl _) h0
    by_cases e : (if hereB l b = true then lowB l b + 1 else lowB l b) + i = lowB l b
    · have hn : hereB l b = false := by
        cases hh : hereB l b
        · rfl
        · rw [hh] at e; simp only [if_true] at e; omega
      have hle : l[lowB l b] = y := by rw [← he]; congr 1; exact e.symm
      have : hereB l b = true := by unfold hereB; rw [List.getElem?_eq_getElem h0, hle]; simp [hkey.1, hkey.2]
      rw [hn] at this; cases this
    · have h2 := List.pairwise_iff_getElem.1 hs (lowB l b) _ h0 hlt (by omega)
      rw [he] at h2
      have c : before l[lowB l b] y = before l[lowB l b] b := by unfold before; rw [hkey.1, hkey.2]
      rw [c, hb0] at h2; cases h2
  · rcases List.mem_cons.1 hy with rfl | hy
    · obtain ⟨i, hi⟩ := List.getElem?_of_mem hx
      obtain ⟨hlt, he⟩ := List.getElem?_eq_some_iff.1 hi
      rw [List.length_take] at hlt
      rw [List.getElem_take] at he
      rw [← he]
      exact lowB_lt (by omega) (by omega)
    · exact p3 x hx y hy
theorem putS_mem {l : List Blk} {b y : Blk} (h : y ∈ putS l b) : y = b ∨ y ∈ l := by
  unfold putS at h
  rcases List.mem_append.1 h with h | h
  · exact .inr (List.mem_of_mem_take h)
  · rcases List.mem_cons.1 h with h | h
    · exact .inl h
    · exact .inr (List.mem_of_mem_drop h)
def mergeS (a b : List Blk) : List Blk := b.foldl putS a
theorem mergeS_sorted : ∀ {b a : List Blk}, a.Pairwise (fun a b => before a b = true) → (mergeS a b).Pairwise (fun a b => before a b = true)
  | [], _, h => h
  | x :: b, a, h => mergeS_sorted (b := b) (putS_sorted h x)
theorem mergeS_len : ∀ (b a : List Blk), (mergeS a b).length ≤ a.length + b.length
  | [], a => Nat.le_refl _
  | x :: b, a => by
    have h1 := mergeS_len b (putS a x)
    have h2 := putS_len a x
    show (mergeS (putS a x) b).length ≤ a.length + (b.length + 1)
    omega
theorem mergeS_add (a b : List Blk) (x : Blk) : mergeS a (b ++ [x]) = putS (mergeS a b) x := by unfold mergeS; rw [List.foldl_append]; rfl
def mergeP (a b : List Blk) : List Blk × Int := if okBlocks a = true then (if okBlocks b = true then (if 32 < (mergeS a b).length then ([], 5) else (mergeS a b, 0)) else ([], 1)) else ([], 1)
theorem mergeP_len (a b : List Blk) : (mergeP a b).1.length ≤ a.length + b.length := by
  have := mergeS_len b a
  unfold mergeP
  split
  · split
    · split
      · simp
      · exact this
    · simp
  · simp
theorem specMerge_ok {k : Nat} (hk : KK ≤ k) {a b : List Blk} (ha : a.length ≤ 1048576) (hx : ∀ x ∈ a, smallB x) (hb : b.length ≤ 1048576) (hy : ∀ x ∈ b, smallB x) : spec_MergeBlocks k a b = some (mergeP a b) := by
  have hK := KK_def
  have hL := LIM_def
  unfold spec_MergeBlocks mergeP
  rw [l29Ok_ok hk ha hx]
  cases ho : okBlocks a
  · simp
  · rw [l29Ok_ok hk hb hy]
    cases hbo : okBlocks b
    · simp
    · obtain ⟨h1, h2, h3⟩ := okBlocks_sorted ho
      obtain ⟨g1, g2, g3⟩ := okBlocks_sorted hbo
      simp only [Option.bind_some, Bool.not_true, Bool.false_eq_true, if_false, if_true]
      rw [if_pos (by simp only [List.length_nil]; omega)]
      have := loop_list (L := fun n i q => spec_MergeBlocks_l0 k n b i q (fun q_6 => (if (decide (32 < (List.length q_6 : Int))) = true then some ([], 5) else some (q_6, 0)))) (I := fun pre q => q = mergeS a pre) (G := fun _ _ => some (if 32 < (mergeS a b).length then ([], 5) else (mergeS a b, (0 : Int)))) b ?_ ?_ k (by omega) a rfl
      · exact this
      · intro n pre x post q hp hq ih hg hlt
        subst hq
        have hw := w_succ (i := pre.length) (by omega)
        have hpl : pre.length < b.length := by omega
        have hl := mergeS_len pre a
        simp only [spec_MergeBlocks_l0, hlt, decide_true, if_true, Int.natCast_nonneg, Int.toNat_natCast, hg, Option.bind_some, hw, l29Put_ok hk (show (mergeS a pre).length ≤ 100000000000 by omega), putR_sorted (mergeS_sorted (b := pre) h3)]
        exact ih _ (mergeS_add a pre x).symm
      · intro n q hq
        subst hq
        simp only [spec_MergeBlocks_l0, Int.lt_irrefl, decide_false, Bool.false_eq_true, if_false]
        by_cases h : 32 < (mergeS a b).length
        · rw [decide_eq_true (by omega), if_pos rfl, if_pos h]
        · rw [decide_eq_false (by omega), if_neg (by simp), if_neg h]
theorem implMerge_ok {k : Nat} (hk : KK ≤ k) {a b : List Blk} (ha : a.length ≤ 1048576) (hx : ∀ x ∈ a, smallB x) (hb : b.length ≤ 1048576) (hy : ∀ x ∈ b, smallB x) : impl_MergeBlocks k a b = some (mergeP a b) := by
  have hK := KK_def
  unfold impl_MergeBlocks mergeP
  rw [implValidBlocks_ok hk ha hx]
  cases ho : okBlocks a
  · simp
  · rw [implValidBlocks_ok hk hb hy]
    cases hbo : okBlocks b
    · simp
    · obtain ⟨h1, h2, h3⟩ := okBlocks_sorted ho
      obtain ⟨g1, g2, g3⟩ := okBlocks_sorted hbo
      simp only [Option.bind_some, Bool.not_true, Bool.false_eq_true, if_false, if_true, cloneB_ok ha]
      have := loop_list (L := fun n i q => impl_MergeBlocks_l0 k n b (b.length : Int) i q (fun q_6 => (if (decide (32 < (List.length q_6 : Int))) = true then some ([], 5) else some (q_6, 0)))) (I := fun pre q => q = mergeS a pre) (G := fun _ _ => some (if 32 < (mergeS a b).length then ([], 5) else (mergeS a b, (0 : Int)))) b ?_ ?_ k (by omega) a rfl
      · exact this
      · intro n pre x post q hp hq ih hg hlt
        subst hq
        have hw := w_succ (i := pre.length) (by omega)
        have hpl : pre.length < b.length := by omega
        have hl := mergeS_len pre a
        simp only [impl_MergeBlocks_l0, hlt, decide_true, if_true, Int.natCast_nonneg, Int.toNat_natCast, hg, Option.bind_some, hw, putBlock_ok hk (show (mergeS a pre).length ≤ 1048576 by omega) (mergeS_sorted (b := pre) h3)]
        exact ih _ (mergeS_add a pre x).symm
      · intro n q hq
        subst hq
        simp only [impl_MergeBlocks_l0, Int.lt_irrefl, decide_false, Bool.false_eq_true, if_false]
        by_cases h : 32 < (mergeS a b).length
        · rw [decide_eq_true (by omega), if_pos rfl, if_pos h]
        · rw [decide_eq_false (by omega), if_neg (by simp), if_neg h]
/-- A mark is a text. -/
theorem markText_ok {k : Nat} (hk : KK ≤ k) {n : Int} (h : n ≤ 9223372036854775807) : ∃ t, laws_markText k n = some t := by
  unfold laws_markText
  by_cases h0 : n ≤ 0
  · exact ⟨[109, 48], by simp [h0]⟩
  · simp only [decide_eq_true_eq, h0, if_false]
    have key : ∀ (m : Nat) (n : Int) (out : List UInt8), 0 ≤ n → n < 10 ^ m → n ≤ 9223372036854775807 → out.length + m ≤ 100 → ∀ q, m < q → ∃ t, laws_markText_l0 k q n out (fun out_1 => (if [109].length + out_1.length ≤ 9223372036854775807 then some ([109] ++ out_1) else none)) = some t := by
      intro m
      induction m with
      | zero =>
        intro n out h1 h2 h3 h4 q hq
        obtain ⟨q, rfl⟩ : ∃ p, q = p + 1 := ⟨q - 1, by omega⟩
        have : ¬ 0 < n := by simp at h2; omega
        have h5 : 1 + out.length ≤ 9223372036854775807 := by omega
        exact ⟨[109] ++ out, by simp only [laws_markText_l0, decide_eq_true_eq, this, if_false, List.length_singleton, h5, if_true]⟩
      | succ m ih =>
        intro n out h1 h2 h3 h4 q hq
        obtain ⟨q, rfl⟩ : ∃ p, q = p + 1 := ⟨q - 1, by omega⟩
        by_cases hn : 0 < n
        · have hd : Int.tdiv n 10 = n / 10 := Int.tdiv_eq_ediv_of_nonneg h1
          have hw : w_i64 (Int.tdiv n 10) = n / 10 := by rw [hd, w_id (by omega) (by omega)]
          have h5 : 1 + out.length ≤ 9223372036854775807 := by omega
          have h6 : n / 10 < 10 ^ m := by
            rw [Int.pow_succ] at h2
            omega
          obtain ⟨t, ht⟩ := ih (n / 10) ((to_S [(w_u8 ((w_i64 (48 + (Int.tmod n 10)))))]) ++ out) (by omega) h6 (by omega) (by simp; omega) q (by omega)
          refine ⟨t, ?_⟩
          simp only [laws_markText_l0, decide_eq_true_eq, hn, if_true, hw]
          rw [if_pos (by simp; omega)]
          exact ht
        · have h5 : 1 + out.length ≤ 9223372036854775807 := by omega
          exact ⟨[109] ++ out, by simp only [laws_markText_l0, decide_eq_true_eq, hn, if_false, List.length_singleton, h5, if_true]⟩
    exact key 20 n [] (by omega) (by omega) h (by simp) k (by have := KK_def; omega)
noncomputable def mT (k : Nat) (m : Int) (j : Nat) : List UInt8 := (laws_markText k (m + j)).getD []
theorem mT_ok {k : Nat} (hk : KK ≤ k) {m : Int} (h1 : m ≤ 1000000000000) {j : Nat} (hj : j ≤ 4000000000000) : laws_markText k (m + j) = some (mT k m j) := by
  obtain ⟨t, ht⟩ := markText_ok hk (n := m + j) (by omega)
  unfold mT
  rw [ht]; rfl
noncomputable def mB (k : Nat) (m : Int) (i : Nat) : Blk := (mT k m (3 * i), mT k m (3 * i + 1), mT k m (3 * i + 2))
theorem markBlockS_ok {k : Nat} (hk : KK ≤ k) {a : List Blk} {m : Int} (h0 : 0 ≤ m) (h1 : m ≤ 1000000000000) (ha : a.length ≤ 1000000000000) :
    laws_markBlockS_o k m a = some ((m + ((3 * a.length : Nat) : Int), ()), ((List.range a.length).map (mB k m), ()), ()) := by
  unfold laws_markBlockS_o
  have := loop_list (α := Nat) (A := List Blk) (L := fun n i q => laws_markBlockS_o_l0 k n (m + 3 * i) i q fun k_12 q_13 => some ((k_12, ()), (q_13, ()), ()))
    (I := fun pre q => q.length = a.length ∧ q.take pre.length = (List.range pre.length).map (mB k m)) (G := fun _ _ => some ((m + ((3 * a.length : Nat) : Int), ()), ((List.range a.length).map (mB k m), ()), ())) (List.range a.length) ?_ ?_ k (by have := KK_def; simp; omega) a ⟨rfl, by simp⟩
  · simpa using this
  · intro n pre x post q hx hq ih hg hlt
    rw [List.length_range] at hlt
    have hw := w_succ (i := pre.length) (by omega)
    have hl : pre.length < q.length := by omega
    have e0 : m + 3 * (pre.length : Int) = m + ((3 * pre.length : Nat) : Int) := by omega
    have e1 : w_i64 (m + 3 * (pre.length : Int) + 1) = m + ((3 * pre.length + 1 : Nat) : Int) := by rw [w_id (by omega) (by omega)]; omega
    have e2 : w_i64 (m + ((3 * pre.length + 1 : Nat) : Int) + 1) = m + ((3 * pre.length + 2 : Nat) : Int) := by rw [w_id (by omega) (by omega)]; omega
    have e3 : w_i64 (m + ((3 * pre.length + 2 : Nat) : Int) + 1) = m + 3 * ((pre.length + 1 : Nat) : Int) := by rw [w_id (by omega) (by omega)]; omega
    have hlt' : (pre.length : Int) < (q.length : Int) := by omega
    have t0 : laws_markText k (m + 3 * (pre.length : Int)) = some (mT k m (3 * pre.length)) := by rw [e0]; exact mT_ok hk h1 (by omega)
    simp only [laws_markBlockS_o_l0, hlt', decide_true, if_true, t0, e1, e2, e3, mT_ok hk h1 (show 3 * pre.length + 1 ≤ 4000000000000 by omega), mT_ok hk h1 (show 3 * pre.length + 2 ≤ 4000000000000 by omega), Option.bind_some, Int.natCast_nonneg, Int.toNat_natCast, hl, and_self, List.getElem?_eq_getElem hl, List.length_set, List.getElem?_set_self, List.set_set, hw]
    refine ih _ ⟨by rw [List.length_set]; exact hq.1, ?_⟩
    rw [List.length_append, List.length_singleton, List.take_succ_eq_append_getElem (by simpa using hl), List.getElem_set_self, List.take_set_of_le (Nat.le_refl _), hq.2, List.range_succ]
    simp [mB]
  · intro n q hq
    have : ¬ ((List.range a.length).length : Int) < (q.length : Int) := by rw [hq.1]; simp
    have h2 := hq.2
    rw [List.length_range, ← hq.1, List.take_length, hq.1] at h2
    simp only [laws_markBlockS_o_l0, this, decide_false, Bool.false_eq_true, if_false]
    simp [h2]
theorem heldBlockS_ok {k : Nat} (hk : KK ≤ k) {N : Nat} {m : Int} (h0 : 0 ≤ m) (h1 : m ≤ 1000000000000) (hN : N ≤ 1000000000000) : laws_heldBlockS k ((List.range N).map (mB k m)) m = some (m + ((3 * N : Nat) : Int)) := by
  unfold laws_heldBlockS
  have := loop_list (α := Blk) (A := Unit) (L := fun n i _ => laws_heldBlockS_l0 k n ((List.range N).map (mB k m)) (m + 3 * i) i fun k_3 => some k_3) (I := fun _ _ => True) (G := fun _ _ => some (m + ((3 * N : Nat) : Int))) ((List.range N).map (mB k m)) ?_ ?_ k (by have := KK_def; simp; omega) () trivial
  · simpa using this
  · intro n pre x post _ hx _ ih hg hlt
    have hpl : pre.length < N := by simpa using hlt
    have hw := w_succ (i := pre.length) (by omega)
    have e0 : m + 3 * (pre.length : Int) = m + ((3 * pre.length : Nat) : Int) := by omega
    have e1 : w_i64 (m + 3 * (pre.length : Int) + 1) = m + ((3 * pre.length + 1 : Nat) : Int) := by rw [w_id (by omega) (by omega)]; omega
    have e2 : w_i64 (m + ((3 * pre.length + 1 : Nat) : Int) + 1) = m + ((3 * pre.length + 2 : Nat) : Int) := by rw [w_id (by omega) (by omega)]; omega
    have e3 : w_i64 (m + ((3 * pre.length + 2 : Nat) : Int) + 1) = m + 3 * ((pre.length + 1 : Nat) : Int) := by rw [w_id (by omega) (by omega)]; omega
    have t0 : laws_markText k (m + 3 * (pre.length : Int)) = some (mT k m (3 * pre.length)) := by rw [e0]; exact mT_ok hk h1 (by omega)
    have hxT : x = mB k m pre.length := by
      rw [List.getElem?_map, List.getElem?_range hpl] at hg
      simpa using hg.symm
    subst hxT
    simp only [laws_heldBlockS_l0, hlt, decide_true, if_true, Int.natCast_nonneg, Int.toNat_natCast, hg, Option.bind_some, t0, e1, e2, e3, mB, mT_ok hk h1 (show 3 * pre.length + 1 ≤ 4000000000000 by omega), mT_ok hk h1 (show 3 * pre.length + 2 ≤ 4000000000000 by omega), Bool.not_true, Bool.false_eq_true, if_false, hw]
    exact ih () trivial
  · intro n _ _
    simp [laws_heldBlockS_l0]
theorem toBlock1_ok (b : Blk) : laws_toBlock b = some b := rfl
theorem pure_FnExactMergeBlocks {e e' : TypeId} (a0 a1 : List (List UInt8 × List UInt8 × List UInt8)) (f0 : InR (.sl e (.st (.pr .str (.pr .str .str)))) a0) (f1 : InR (.sl e' (.st (.pr .str (.pr .str .str)))) a1) : ∃ k : Nat, laws_FnExactMergeBlocks k a0 a1 = some true := by
  have hk := Nat.le_refl KK
  refine ⟨KK, ?_⟩
  obtain ⟨r, hr, h⟩ := szBlockS_ok hk (a := a0) (left := 1048576) (by omega) (by omega) f0
  unfold laws_FnExactMergeBlocks
  rw [hr]; simp only [Option.bind_some]
  rcases h with h | ⟨h1, h2, h3, h4⟩
  · rw [decide_eq_true h, if_pos rfl]
  · rw [decide_eq_false (by omega), if_neg (by simp)]
    obtain ⟨r', hr', h'⟩ := szBlockS_ok hk (a := a1) (left := r) (by omega) (by omega) f1
    rw [hr']; simp only [Option.bind_some]
    rcases h' with h' | ⟨i1, i2, i3, i4⟩
    · rw [decide_eq_true h', if_pos rfl]
    · rw [decide_eq_false (by omega), if_neg (by simp)]
      have hl := mergeP_len a0 a1
      have hn : ¬ (1 + ((3 * (mergeP a0 a1).1.length : Nat) : Int) < 0) := by omega
      have hn' : ¬ (1 + ((3 * a0.length : Nat) : Int) + ((3 * a1.length : Nat) : Int) < 0) := by omega
      simp only [toBlockS_ok hk h3, toBlockS_ok hk i3, Option.bind_some, specMerge_ok hk h3 h4 i3 i4, implMerge_ok hk h3 h4 i3 i4, eqBlockS_ok hk (show a0.length < 4611686018427387904 by omega), eqBlockS_ok hk (show a1.length < 4611686018427387904 by omega), eqBlockS_ok hk (show (mergeP a0 a1).1.length < 4611686018427387904 by omega), markBlockS_ok hk (show (0 : Int) ≤ 1 by omega) (show (1 : Int) ≤ 1000000000000 by omega) (show a0.length ≤ 1000000000000 by omega), markBlockS_ok hk (show (0 : Int) ≤ 1 + ((3 * a0.length : Nat) : Int) by omega) (show 1 + ((3 * a0.length : Nat) : Int) ≤ 1000000000000 by omega) (show a1.length ≤ 1000000000000 by omega), markBlockS_ok hk (show (0 : Int) ≤ 1 by omega) (show (1 : Int) ≤ 1000000000000 by omega) (show (mergeP a0 a1).1.length ≤ 1000000000000 by omega), heldBlockS_ok hk (show (0 : Int) ≤ 1 by omega) (show (1 : Int) ≤ 1000000000000 by omega) (show (mergeP a0 a1).1.length ≤ 1000000000000 by omega), decide_true, Bool.not_true, Bool.false_eq_true, if_false, hn, hn', decide_false]
end Go.Proofs.Ytackggcodaolaaa.Ev
