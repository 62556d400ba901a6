/- Plain values for a program that runs on a machine: an evaluator of loaded code and the proof that it tells what the machine does (part 6 of 6). No conditions: definitions and lemmas over any program. -/
import Derived.Test.YtgcndhlbhlnplaaEv5
import Derived.Shelf.Sort.Plain
import Derived.Shelf.Strconv.Itoa4
import Derived.Shelf.Strings.OnBuilder
import Derived.Laws.BitsLemmas
set_option linter.unusedVariables false
set_option linter.unusedSimpArgs false
/- slices.Sort as a call that is handed a row: its contract, out of the shelf's. Over any program. -/
namespace Go.Proofs.Ytgcndhlbhlnplaa.Ev
open Go.RowKit Go.Sort

noncomputable def sortS (xs : List (List UInt8)) : List (List UInt8) := xs.mergeSort fun x y => decide (x ≤ y)
noncomputable def sortI (xs : List Int) : List Int := xs.mergeSort fun x y => decide (x ≤ y)
/-- A row put in order. -/
def oc_sort (e : TypeId) (t : Ty) (S : List t.T → List t.T) : OC := ⟨⟨[(0, .ref PIN [])], [(PIN, e, t, false)], []⟩, ⟨[(0, .tup .nl)], [(PIN, e, t, false)], []⟩,
  fun x => if List.length x.2.1.1 ≤ LIM then some (((), ()), (S x.2.1.1, ()), ()) else none, false⟩
theorem putRow_heap {α : Type} {enc : α → Value} {w : World} {b : Nat} {cur : Array Value} {e : TypeId} {fz : Nat × Nat} (hg : w.heap[b]? = some (.cells cur e fz)) {d : List α} [Inhabited α] (hl : d.length ≤ cur.size) :
    (putRow enc w b 0 d.toArray).heap[b]? = some (.cells (d.map enc ++ cur.toList.drop d.length).toArray e fz) ∧ (∀ k, k ≠ b → (putRow enc w b 0 d.toArray).heap[k]? = w.heap[k]?) ∧ (putRow enc w b 0 d.toArray).heap.size = w.heap.size := by
  refine ⟨?_, fun k hk => ?_, by simp [putRow, mapBlock]⟩
  · show (w.heap.modify b (onCells (putCells enc 0 d.toArray)))[b]? = _
    rw [Array.getElem?_modify, if_pos rfl, hg]
    simp only [Option.map_some, onCells]
    congr 2
    apply Array.ext
    · simp [putCells]; omega
    · intro i h1 h2
      simp only [putCells, Array.getElem_mapIdx, Nat.zero_le, true_and, Nat.zero_add, List.size_toArray, Nat.sub_zero, List.getElem_toArray]
      by_cases hi : i < d.length
      · rw [if_pos hi, List.getElem_append_left (by simpa using hi), List.getElem_map]
        congr 1
        rw [getElem!_pos _ _ (by simpa using hi)]; simp
      · rw [if_neg hi, List.getElem_append_right (by simpa using hi)]
        simp only [List.length_map, List.getElem_drop, Array.getElem_toList]
        congr 1; omega
  · show (w.heap.modify b _)[k]? = _
    rw [Array.getElem?_modify, if_neg (fun h => hk h.symm)]
theorem ok_sort_gen {P : Program} [Glob P] {ti : List TI} {g : FuncId} {fn : Func} {cd : Code} (hf : P.funcs[g]? = some fn) (hb : fn.body = some cd) (hname : (fn.name == "runtime.NumGoroutine") = false)
    {e : TypeId} {t : Ty} (hflat : t.flat = true) (h1 : t.sz = 1) (enc : L t → Value) (hcells : ∀ x : L t, cellsL t x = [enc x]) {S : List t.T → List t.T} (SL : List (L t) → List (L t)) (hlen : ∀ l, (SL l).length = l.length) (her : ∀ l : List (L t), (SL l).map (erase t) = S (l.map (erase t))) [Inhabited (L t)]
    (H : ∀ (b cap : Nat) (l : List (L t)) (w : World), Holds enc w b 0 l.toArray → b < w.heap.size → l.length < 4611686018427387904 → Calls P g #[.slice (some ⟨b, 0, none⟩) l.length cap] w fun e w' => e = .returned (.tuple #[]) ∧ ∃ n os, w' = grow (putRow enc (Go.Sort.ahead w n) b 0 (SL l).toArray) os)
    (Hn : ∀ w, Calls P g #[.slice none 0 0] w fun e w' => e = .returned (.tuple #[]) ∧ w' = w) : OpenOK P ti g (oc_sort e t S) := by
  refine ⟨rfl, fun E hE x y hF w ok O M vs hvl G R => ?_⟩
  obtain ⟨⟨⟨⟩, ⟨⟩⟩, ⟨xs, ⟨⟩⟩, ⟨⟩⟩ := x
  simp only [oc_sort] at hF
  split at hF
  · rename_i hle
    cases hF
    have hLIM : LIM = 140737488355328 := rfl
    obtain ⟨lx, mx, ex, hx, px, sx⟩ := row_parts (P := P) R (j := PIN) (e := e) (t := t) (xs := xs) rfl (s := 0) rfl
    match vs, hvl with
    | [v0], _ =>
    have ev0 : v0 = .slice (lx.1.map fun g => ⟨g, 0, none⟩) lx.2.2.length lx.2.1 := by simpa using sx
    subst ev0
    have hxl : xs.length = lx.2.2.length := by rw [← ex, List.length_map]
    unfold Does
    rw [run_enter hf hb hname]
    have fin : ∀ (w' : World) (M' : Map), Rep E w ok O (⟨[(0, .ref PIN [])], [(PIN, ⟨e, t, S xs, false⟩)], []⟩ : St) #[.slice (lx.1.map fun g => ⟨g, 0, none⟩) lx.2.2.length lx.2.1] w' M' → ∃ M' w2 ok2 O2, ChgB (oc_sort e t S).ch w ok O w2 ok2 O2 ∧ Rep E w2 ok2 O2 ((oc_sort e t S).ho.fill (((), ()), (S xs, ()), ())) #[.tuple #[]] w' M' := by
      intro w' M' R'
      refine ⟨M', _, _, _, .refl, R'.slotsTo (σ := ⟨[(0, .ref PIN [])], [(PIN, ⟨e, t, S xs, false⟩)], []⟩) (tm' := #[.tuple #[]]) (sl := [(0, .tup .nl)]) fun s v hv => ?_⟩
      rw [lk_cons] at hv
      split at hv
      · rename_i h
        subst h
        cases hv
        exact ⟨⟨_, rfl, _, rfl, rfl⟩, ⟨by simp [SV.roots], by simp [SV.boxes]⟩⟩
      · cases hv
    cases hg : lx.1 with
    | none =>
      have h0 := hx.1
      rw [hg] at h0
      have hnil : xs = [] := by rw [← ex, h0.1]; rfl
      have hS : S xs = xs := by
        rw [hnil]
        have := her []
        rw [show SL [] = [] from List.eq_nil_of_length_eq_zero (by rw [hlen]; rfl)] at this
        simpa using this.symm
      have hl0 : lx.2.2.length = 0 := by rw [h0.1]; rfl
      have h1' : lx.2.1 = 0 := h0.2
      rw [hl0, h1']
      refine (Hn w).mono fun ee w' ⟨he, hw⟩ => ?_
      subst he
      subst hw
      exact fin _ M (by rw [hS]; exact R)
    | some b =>
      have h0 := hx.1
      rw [hg] at h0
      obtain ⟨cB, fz, q1, q2, q3, q4, q5, q6⟩ := h0
      obtain ⟨cB', e', q7, q8⟩ := px.1 b hg
      rw [q1] at q7
      cases q7
      rw [h1, Nat.mul_one] at q4 q5
      have hfm : ∀ l : List (L t), l.flatMap (cellsL t) = l.map enc := fun l => by
        induction l with
        | nil => rfl
        | cons a l ih => rw [List.flatMap_cons, ih, hcells]; rfl
      rw [hfm] at q5
      have hsz : lx.2.2.length ≤ cB.size := by omega
      have hH : Holds enc w b 0 lx.2.2.toArray := fun j hj => by
        have hj' : j < lx.2.2.length := by simpa using hj
        refine ⟨?_, by simp [World.frozen?, q1]⟩
        rw [cell_of_row w b _ cB e (0, 0) q1, Nat.zero_add, ← Array.getElem?_toList]
        have := congrArg (fun l => l[j]?) q5
        simp only [List.getElem?_take_of_lt hj', List.getElem?_map] at this
        rw [this, List.getElem?_eq_getElem hj', getElem!_pos lx.2.2.toArray j hj]
        simp
      refine (H b lx.2.1 lx.2.2 w hH (Array.getElem?_eq_some_iff.1 q1).1 (by omega)).mono fun ee w' ⟨he, n, os, hw⟩ => ?_
      subst he
      have hl2 : (SL lx.2.2).length = lx.2.2.length := hlen _
      obtain ⟨p1, p2, p3⟩ := putRow_heap (enc := enc) (w := Go.Sort.ahead w n) (b := b) (cur := cB) (e := e) (fz := (0, 0)) q1 (d := SL lx.2.2) (by rw [hl2]; exact hsz)
      obtain ⟨cur, fz, o1, o2, o3, o4⟩ := over_rep R (j := PIN) rfl mx hg hflat (lo := 0) (ys := SL lx.2.2) (by rw [hl2]; omega)
      rw [q1] at o1
      cases o1
      have hkept : Kept (fun k => k = b) w (putRow enc (Go.Sort.ahead w n) b 0 (SL lx.2.2).toArray) := ⟨rfl, rfl, rfl, by rw [p3]; exact Nat.le_refl _, fun k hk ho => p2 k ho⟩
      have R2 := o4 _ (by
        rw [p1, hfm, h1, hl2]
        simp) p2 hkept
      have R3 := R2.freeWorld (w' := w') (bs := []) Free.nil (by
        rw [hw]
        refine ⟨rfl, rfl, rfl, by simp [grow], fun k hk _ => ?_⟩
        simp only [grow]
        rw [Array.getElem?_append_left hk])
      have hov : overL (lx.2.2.map (erase t)) 0 ((SL lx.2.2).map (erase t)) = S xs := by
        unfold overL
        rw [her, ex]
        have hll : (S xs).length = xs.length := by rw [← ex, ← her, List.length_map, hlen, List.length_map]
        simp [hll]
      rw [hov] at R3
      exact fin w' _ R3
  · cases hF
theorem ok_sortS {P : Program} [Glob P] {ti : List TI} {g : FuncId} {fn : Func} {cd : Code} (hf : P.funcs[g]? = some fn) (hb : fn.body = some cd) (hname : (fn.name == "runtime.NumGoroutine") = false) {e : TypeId}
    (H : ∀ (b off cap : Nat) (l : List (List UInt8)) (w : World), Holds encStr w b off l.toArray → b < w.heap.size → l.length < 4611686018427387904 → Calls P g #[.slice (some ⟨b, off, none⟩) l.length cap] w fun e w' => e = .returned (.tuple #[]) ∧ ∃ n os, w' = grow (putRow encStr (Go.Sort.ahead w n) b off (l.mergeSort fun x y => decide (x ≤ y)).toArray) os)
    (Hn : ∀ (p : Option Addr) (cap : Nat) w, Calls P g #[.slice p 0 cap] w fun e w' => e = .returned (.tuple #[]) ∧ w' = w) : OpenOK P ti g (oc_sort e .str sortS) :=
  ok_sort_gen (t := .str) (S := sortS) hf hb hname rfl rfl (fun s : List UInt8 => .string ⟨s.toArray⟩) (fun _ => rfl) sortS (fun l => by unfold sortS; exact List.length_mergeSort _) (fun l => by
    have : ∀ m : List (List UInt8), m.map (erase .str) = m := fun m => List.map_id m
    rw [this, this]) (by unfold sortS; exact fun b cap l w h1 h2 h3 => H b 0 cap l w h1 h2 h3) (fun w => Hn none 0 w)
theorem ok_sortI {P : Program} [Glob P] {ti : List TI} {g : FuncId} {fn : Func} {cd : Code} (hf : P.funcs[g]? = some fn) (hb : fn.body = some cd) (hname : (fn.name == "runtime.NumGoroutine") = false) {e : TypeId}
    (H : ∀ (b off cap : Nat) (l : List Int) (w : World), Holds (Value.int .i64) w b off l.toArray → b < w.heap.size → l.length < 4611686018427387904 → Calls P g #[.slice (some ⟨b, off, none⟩) l.length cap] w fun e w' => e = .returned (.tuple #[]) ∧ ∃ n os, w' = grow (putRow (Value.int .i64) (Go.Sort.ahead w n) b off (l.mergeSort fun x y => decide (x ≤ y)).toArray) os)
    (Hn : ∀ (p : Option Addr) (cap : Nat) w, Calls P g #[.slice p 0 cap] w fun e w' => e = .returned (.tuple #[]) ∧ w' = w) : OpenOK P ti g (oc_sort e (.int .i64) sortI) :=
  ok_sort_gen (t := .int .i64) (S := sortI) hf hb hname rfl rfl (fun s : Int => .int .i64 s) (fun _ => rfl) sortI (fun l => by unfold sortI; exact List.length_mergeSort _) (fun l => by
    have : ∀ m : List Int, m.map (erase (.int .i64)) = m := fun m => List.map_id m
    rw [this, this]) (by unfold sortI; exact fun b cap l w h1 h2 h3 => H b 0 cap l w h1 h2 h3) (fun w => Hn none 0 w)
end Go.Proofs.Ytgcndhlbhlnplaa.Ev

/- strconv.FormatInt at the base 10, and strings.Join at a row of the call's own: their contracts, out of the shelf's. Over any program. -/
namespace Go.Proofs.Ytgcndhlbhlnplaa.Ev
open Go.RowKit Go.Sort

/-- One table of whole numbers. -/
@[reducible] def tabGlob (P : Program) (name : String) (k : IntKind) (zs : List Int) : Glob P where
  ok := fun w => Lib.TabIs P w name k zs
  blk := fun g => P.globalNamed name = some g
  lt := fun w h g hg => by
    unfold Lib.TabIs World.var? at h
    rw [hg] at h
    simp only [Option.bind_some] at h
    cases hh : w.heap[g]? with
    | none => rw [hh] at h; cases h
    | some o => exact (Array.getElem?_eq_some_iff.1 hh).1
  move := fun w w' h hb => by
    unfold Lib.TabIs World.var? at h ⊢
    cases hg : P.globalNamed name with
    | none => rw [hg] at h; cases h
    | some g =>
      rw [hg] at h
      simp only [Option.bind_some] at h ⊢
      rw [hb g hg]
      exact h
theorem pack_ii {i j : IntKind} {args : List SVal} {x : (Ty.pr (.int i) (.int j)).T} (h : packC (.pr (.int i) (.int j)) args some = some x) : args = [⟨.int i, x.1⟩, ⟨.int j, x.2⟩] := by
  match args with
  | [] => cases h
  | [a] =>
    simp only [packC, castC] at h
    split at h <;> cases h
  | [a, b] =>
    simp only [packC, castC] at h
    split at h
    · rename_i e1
      split at h
      · rename_i e2
        obtain ⟨ta, xa⟩ := a
        obtain ⟨tb, xb⟩ := b
        simp only at e1 e2 h
        subst e1
        subst e2
        cases h
        rfl
      · cases h
    · cases h
  | a :: b :: c :: l =>
    simp only [packC, castC] at h
    split at h <;> cases h
theorem args_ii {i j : IntKind} {n m : Int} {w : World} {vs : List Value} (h : Args w [⟨.int i, n⟩, ⟨.int j, m⟩] vs) : vs = [.int i n, .int j m] := by
  match vs with
  | [] => exact h.elim
  | [a] => exact h.2.elim
  | [a, b] =>
    obtain ⟨⟨cs, h1, h2⟩, ⟨ds, h3, h4⟩, _⟩ := h
    obtain rfl : cs = [.int i n] := h1
    obtain rfl : ds = [.int j m] := h3
    rcases h2 with ⟨h, _⟩ | ⟨_, h2⟩
    · cases h
    rcases h4 with ⟨h, _⟩ | ⟨_, h4⟩
    · cases h
    cases h2; cases h4; rfl
  | a :: b :: c :: l => exact h.2.2.elim
/-- strconv.FormatInt. -/
def fe_formatInt : FE := ⟨.pr (.int .i64) (.int .i64), 1, .str, fun x => if x.2 = 10 ∧ -9223372036854775808 ≤ x.1 ∧ x.1 ≤ 9223372036854775807 then some (Lib.itoa x.1) else none⟩
theorem ok_formatInt {P : Program} [Glob P] {g : FuncId} {fn : Func} {cd : Code} (hf : P.funcs[g]? = some fn) (hb : fn.body = some cd) (hname : (fn.name == "runtime.NumGoroutine") = false)
    (H : ∀ (n : Int), -9223372036854775808 ≤ n → n ≤ 9223372036854775807 → ∀ w, Glob.ok P w → Calls P g #[.int .i64 n, .int .i64 10] w fun e w' => e = .returned (.string ⟨(Lib.itoa n).toArray⟩) ∧ ∃ k os, w' = grow (w.drewN k) os) : FnOK P g fe_formatInt := by
  refine FnOK.new rfl fun args vs w x r hG ha hx hr => ?_
  have e := pack_ii hx
  subst e
  have e := args_ii ha
  subst e
  obtain ⟨n, m⟩ := x
  simp only [fe_formatInt] at hr
  split at hr
  · rename_i hc
    cases hr
    obtain ⟨hm, h0, h1⟩ := hc
    have hm : m = 10 := hm
    subst hm
    unfold Does
    rw [run_enter hf hb hname]
    refine (H n h0 h1 w hG).mono fun e w' ⟨he, k, os, hw⟩ => ?_
    subst he
    have hB : Below w.heap.size w w' := by
      rw [hw]
      refine ⟨rfl, rfl, rfl, by simp [grow, World.drewN], fun k hk => ?_⟩
      show ((w.drewN _).heap ++ os)[k]? = _
      rw [Array.getElem?_append_left (show k < (w.drewN _).heap.size from hk)]
      rfl
    exact ret_str _ hB
  · cases hr
/-- strings.Join. -/
def oc_join (e : TypeId) : OC := ⟨⟨[(0, .ref PIN []), (1, .val .str)], [(PIN, e, .str, false)], []⟩, ⟨[(0, .val .str)], [(PIN, e, .str, false)], []⟩,
  fun x => if List.length x.2.1.1 ≤ LIM ∧ (Lib.join x.2.1.1 x.1.2.1).length ≤ LIM then some ((Lib.join x.2.1.1 x.1.2.1, ()), (x.2.1.1, ()), ()) else none, false⟩
theorem ok_join {P : Program} [Glob P] {ti : List TI} {g : FuncId} {fn : Func} {cd : Code} (hf : P.funcs[g]? = some fn) (hb : fn.body = some cd) (hname : (fn.name == "runtime.NumGoroutine") = false) {e : TypeId}
    (H : ∀ (bk o c : Nat) (xs : List ByteArray) (sep : ByteArray) (w : World), (∀ (j : Nat) x, xs[j]? = some x → w.cell? ⟨bk, o + j, none⟩ = some (.string x)) → bk < w.heap.size → xs.length ≤ 140737488355328 → xs.length ≤ c → (Lib.join (xs.map (·.data.toList)) sep.data.toList).length ≤ 140737488355328 →
      Calls P g #[.slice (some ⟨bk, o, none⟩) xs.length c, .string sep] w fun e w' => e = .returned (.string ⟨(Lib.join (xs.map (·.data.toList)) sep.data.toList).toArray⟩) ∧ Below w.heap.size w w')
    (Hn : ∀ (a : Option Addr) (c : Nat) (sep : ByteArray) (w : World), Calls P g #[.slice a 0 c, .string sep] w fun e w' => e = .returned (.string ⟨#[]⟩) ∧ w' = w) : OpenOK P ti g (oc_join e) := by
  refine ⟨rfl, fun E hE x y hF w ok O M vs hvl G R => ?_⟩
  obtain ⟨⟨⟨⟩, sep, ⟨⟩⟩, ⟨xs, ⟨⟩⟩, ⟨⟩⟩ := x
  simp only [oc_join] at hF
  split at hF
  · rename_i hc
    cases hF
    have hLIM : LIM = 140737488355328 := rfl
    obtain ⟨hle, hjl⟩ := hc
    obtain ⟨lx, mx, ex, hx, px, sx⟩ := row_parts (P := P) R (j := PIN) (e := e) (t := .str) (xs := xs) rfl (s := 0) rfl
    obtain ⟨u1, s1, r1⟩ := R.slots 1 _ rfl
    match vs, hvl with
    | [v0, v1], _ =>
    have ev0 : v0 = .slice (lx.1.map fun g => ⟨g, 0, none⟩) lx.2.2.length lx.2.1 := by simpa using sx
    have s1 : v1 = u1 := by simpa using s1
    obtain ⟨cs, h1, h2⟩ := r1
    have h1 : cs = [.string ⟨sep.toArray⟩] := h1
    subst h1
    have hv1 : v1 = .string ⟨sep.toArray⟩ := by
      rw [s1]
      rcases h2 with ⟨h, _⟩ | ⟨_, h⟩
      · cases h
      · cases h; rfl
    subst ev0
    subst hv1
    clear s1 h2
    have hid : ∀ m : List (List UInt8), m.map (erase .str) = m := fun m => List.map_id m
    have ex : lx.2.2 = xs := by rw [← ex]; exact (hid _).symm
    unfold Does
    rw [run_enter hf hb hname]
    have fin : ∀ (w' : World), Below w.heap.size w w' → ∃ M' w2 ok2 O2, ChgB (oc_join e).ch w ok O w2 ok2 O2 ∧ Rep E w2 ok2 O2 ((oc_join e).ho.fill ((Lib.join xs sep, ()), (xs, ()), ())) #[.string ⟨(Lib.join xs sep).toArray⟩] w' M' := by
      intro w' hb'
      have R2 := R.freeWorld (w' := w') (bs := []) Free.nil (Kept.of_below hb' _)
      refine ⟨M, _, _, _, .refl, R2.slotsTo (σ := ⟨[(0, .ref PIN []), (1, .val .str sep)], [(PIN, ⟨e, .str, xs, false⟩)], []⟩) (tm' := #[.string ⟨(Lib.join xs sep).toArray⟩]) (sl := [(0, .val .str (Lib.join xs sep))]) fun s v hv => ?_⟩
      rw [lk_cons] at hv
      split at hv
      · rename_i h
        subst h
        cases hv
        exact ⟨⟨_, rfl, [.string ⟨(Lib.join xs sep).toArray⟩], rfl, .inr ⟨rfl, rfl⟩⟩, ⟨by simp [SV.roots], by simp [SV.boxes]⟩⟩
      · cases hv
    cases hg : lx.1 with
    | none =>
      have h0 := hx.1
      rw [hg] at h0
      have hnil : xs = [] := by rw [← ex]; exact h0.1
      have hl0 : lx.2.2.length = 0 := by rw [h0.1]; rfl
      rw [hl0]
      refine (Hn none lx.2.1 ⟨sep.toArray⟩ w).mono fun ee w' ⟨he, hw⟩ => ?_
      subst he
      subst hw
      have := fin w' (Below.refl _ _)
      rw [hnil] at this ⊢
      exact this
    | some b =>
      have h0 := hx.1
      rw [hg] at h0
      obtain ⟨cB, fz, q1, q2, q3, q4, q5, q6⟩ := h0
      have hfm : ∀ l : List (List UInt8), l.flatMap (cellsL .str) = l.map fun s => Value.string ⟨s.toArray⟩ := fun l => by
        induction l with
        | nil => rfl
        | cons a l ih => rw [List.flatMap_cons, ih]; rfl
      have h1' : (Ty.str).sz = 1 := rfl
      rw [h1', Nat.mul_one, hfm] at q5
      have := H b 0 lx.2.1 (xs.map fun s => (⟨s.toArray⟩ : ByteArray)) ⟨sep.toArray⟩ w (fun j x hj => by
        rw [List.getElem?_map, Option.map_eq_some_iff] at hj
        obtain ⟨s, hs, rfl⟩ := hj
        have hj' : j < lx.2.2.length := by rw [ex]; exact (List.getElem?_eq_some_iff.1 hs).1
        rw [cell_of_row w b _ cB e fz q1, Nat.zero_add, ← Array.getElem?_toList]
        have := congrArg (fun l => l[j]?) q5
        simp only [List.getElem?_take_of_lt hj', List.getElem?_map] at this
        rw [this, ex, hs]; rfl) (Array.getElem?_eq_some_iff.1 q1).1 (by rw [List.length_map]; omega) (by rw [List.length_map, ← ex]; exact q2) (by simp only [List.map_map]; rw [← hLIM]; simpa [Function.comp_def] using hjl)
      rw [List.length_map, ← ex] at this
      refine this.mono fun ee w' ⟨he, hw⟩ => ?_
      subst he
      have hj2 : Lib.join ((lx.2.2.map fun s => (⟨s.toArray⟩ : ByteArray)).map (·.data.toList)) sep.toArray.toList = Lib.join xs sep := by
        rw [ex, List.map_map]; simp [Function.comp_def]
      rw [hj2]
      have := fin w' hw
      exact this
  · cases hF
end Go.Proofs.Ytgcndhlbhlnplaa.Ev

/- Plain lemmas for the printed functions: numbers, rounds of loops. No program in sight. -/
namespace Go.Proofs.Ytgcndhlbhlnplaa.Ev
open Go.RowKit

/-- Rounds enough for every loop here. -/
theorem kk_ex : ∃ k : Nat, k = 18446744073709551616 := ⟨_, rfl⟩
noncomputable def KK : Nat := Classical.choose kk_ex
theorem KK_def : KK = 18446744073709551616 := Classical.choose_spec kk_ex

theorem w_id {x : Int} (h1 : -9223372036854775808 ≤ x) (h2 : x ≤ 9223372036854775807) : w_i64 x = x := by
  unfold w_i64; rw [IntKind.wrap_i64]; omega
theorem w_succ {i : Nat} (h : i < 9223372036854775807) : w_i64 ((i : Int) + 1) = ((i + 1 : Nat) : Int) := by
  rw [w_id (by omega) (by omega)]; rfl
theorem i64_wf {n : Int} (h : (Lit.int .i64 n).wf = true) : -9223372036854775808 ≤ n ∧ n ≤ 9223372036854775807 := by
  have e : IntKind.i64.min = -9223372036854775808 := by decide
  simpa [Lit.wf, e] using h
theorem LIM_def : LIM = 140737488355328 := rfl

section
variable {α A R : Type}

/-- A loop over a list, from its head to its end: what it comes to, by what is left. -/
theorem loop_list (xs : List α) {L : Nat → Int → A → R} {I : List α → A → Prop} {G : List α → A → R}
    (h1 : ∀ n pre x post a, xs = pre ++ x :: post → I pre a → (∀ a', I (pre ++ [x]) a' → L n ((pre.length + 1 : Nat) : Int) a' = G post a') → xs[pre.length]? = some x → (pre.length : Int) < xs.length → L (n + 1) (pre.length : Int) a = G (x :: post) a)
    (h2 : ∀ n a, I xs a → L (n + 1) (xs.length : Int) a = G [] a) : ∀ n, xs.length < n → ∀ a, I [] a → L n 0 a = G xs a := by
  have main : ∀ (post pre : List α) (n : Nat), xs = pre ++ post → post.length < n → ∀ a, I pre a → L n (pre.length : Int) a = G post a := by
    intro post
    induction post with
    | nil =>
      intro pre n hx hn a ha
      obtain ⟨m, rfl⟩ : ∃ m, n = m + 1 := ⟨n - 1, by simp at hn; omega⟩
      rw [List.append_nil] at hx
      subst hx
      exact h2 m a ha
    | cons x post ih =>
      intro pre n hx hn a ha
      obtain ⟨m, rfl⟩ : ∃ m, n = m + 1 := ⟨n - 1, by simp at hn; omega⟩
      refine h1 m pre x post a hx ha (fun a' ha' => ?_) (by rw [hx]; simp) (by rw [hx]; simp; omega)
      have := ih (pre ++ [x]) m (by rw [hx]; simp) (by simp at hn; omega) a' ha'
      rw [List.length_append] at this
      simpa using this
  intro n hn a ha
  exact main xs [] n rfl hn a ha

/-- A loop that asks the same of all elements. -/
theorem loop_all (xs : List α) {L : Nat → Int → R} {p : α → Bool} {r e : R}
    (h1 : ∀ n (i : Nat) x, xs[i]? = some x → (i : Int) < xs.length → L (n + 1) (i : Int) = if p x = true then L n ((i + 1 : Nat) : Int) else r)
    (h2 : ∀ n, L (n + 1) (xs.length : Int) = e) {n : Nat} (hn : xs.length < n) : L n 0 = if xs.all p = true then e else r := by
  refine loop_list (A := Unit) (L := fun n i _ => L n i) (I := fun _ _ => True) (G := fun l _ => if l.all p = true then e else r) xs ?_ ?_ n hn () trivial
  · intro n pre x post _ hx _ ih hg hlt
    rw [h1 n pre.length x hg hlt]
    have := ih () trivial
    by_cases hp : p x = true
    · rw [if_pos hp, this]; simp [hp]
    · rw [if_neg hp]; simp [hp]
  · intro n _ _
    simpa using h2 n
/-- One that gathers. -/
theorem loop_fold (xs : List α) {L : Nat → Int → A → R} {f : A → α → A} {e : A → R}
    (h1 : ∀ n (i : Nat) x a, xs[i]? = some x → (i : Int) < xs.length → L (n + 1) (i : Int) a = L n ((i + 1 : Nat) : Int) (f a x))
    (h2 : ∀ n a, L (n + 1) (xs.length : Int) a = e a) {n : Nat} (hn : xs.length < n) (a : A) : L n 0 a = e (xs.foldl f a) := by
  refine loop_list (L := L) (I := fun _ _ => True) (G := fun l a => e (l.foldl f a)) xs ?_ ?_ n hn a trivial
  · intro n pre x post a hx _ ih hg hlt
    rw [h1 n pre.length x a hg hlt]
    exact ih _ trivial
  · intro n a _
    exact h2 n a
/-- Rounds by number, with a condition. -/
theorem loop_allN {L : Nat → Int → R} {b : Nat} {p : Nat → Bool} {r e : R}
    (h1 : ∀ n (i : Nat), i < b → L (n + 1) (i : Int) = if p i = true then L n ((i + 1 : Nat) : Int) else r) (h2 : ∀ n, L (n + 1) (b : Int) = e) {n : Nat} (hn : b < n) : L n 0 = if (List.range b).all p = true then e else r := by
  have := loop_all (List.range b) (L := L) (p := p) (r := r) (e := e) (fun n i x hx hlt => by
    rw [List.getElem?_range (by simpa using hlt)] at hx
    cases hx
    exact h1 n i (by simpa using hlt)) (by simpa using h2) (n := n) (by simpa using hn)
  exact this

/-- Two lists compared element by element. -/
theorem loop_eq [DecidableEq α] (a b : List α) (hl : a.length = b.length) {L : Nat → Int → Option Bool}
    (h1 : ∀ n (i : Nat) x y, a[i]? = some x → b[i]? = some y → (i : Int) < a.length → L (n + 1) (i : Int) = if x = y then L n ((i + 1 : Nat) : Int) else some false)
    (h2 : ∀ n, L (n + 1) (a.length : Int) = some true) {n : Nat} (hn : a.length < n) : L n 0 = some (decide (a = b)) := by
  have hz : (a.zip b).length = a.length := by simp [hl]
  have := loop_all (a.zip b) (L := L) (p := fun z => decide (z.1 = z.2)) (r := some false) (e := some true) (fun n i z hz' hlt => by
    obtain ⟨x, y⟩ := z
    rw [List.getElem?_zip_eq_some] at hz'
    rw [h1 n i x y hz'.1 hz'.2 (by rw [← hz]; exact hlt)]
    by_cases e : x = y <;> simp [e]) (by rw [hz]; exact h2) (n := n) (by rw [hz]; exact hn)
  rw [this]
  have key : ∀ (a b : List α), a.length = b.length → ((a.zip b).all fun z => decide (z.1 = z.2)) = decide (a = b) := by
    intro a
    induction a with
    | nil => intro b hb; cases b with | nil => rfl | cons => cases hb
    | cons x a ih =>
      intro b hb
      cases b with
      | nil => cases hb
      | cons y b =>
        simp only [List.zip_cons_cons, List.all_cons, ih b (by simpa using hb)]
        by_cases h : x = y <;> by_cases h' : a = b <;> simp [h, h']
  rw [key a b hl]
  by_cases h : a = b <;> simp [h]

/-- A list copied into a new one. -/
theorem loop_copy (xs : List α) (z : List α) (hz : z.length = xs.length) {L : Nat → Int → List α → R} {e : List α → R}
    (h1 : ∀ n (i : Nat) x q, xs[i]? = some x → (i : Int) < xs.length → q.length = xs.length → L (n + 1) (i : Int) q = L n ((i + 1 : Nat) : Int) (q.set i x))
    (h2 : ∀ n q, L (n + 1) (xs.length : Int) q = e q) {n : Nat} (hn : xs.length < n) : L n 0 z = e xs := by
  refine loop_list (L := L) (I := fun pre q => q.length = xs.length ∧ q.take pre.length = pre) (G := fun post _ => e xs) xs ?_ ?_ n hn z ⟨hz, by simp⟩
  · intro n pre x post q hx hq ih hg hlt
    rw [h1 n pre.length x q hg hlt hq.1]
    refine ih _ ⟨by rw [List.length_set]; exact hq.1, ?_⟩
    have hl : pre.length < q.length := by rw [hq.1]; simpa using hlt
    rw [List.length_append, List.length_singleton, List.take_succ_eq_append_getElem (by simpa using hl)]
    rw [List.getElem_set_self, List.take_set_of_le (Nat.le_refl _), hq.2]
  · intro n q hq
    rw [h2 n q]
    have := hq.2
    rw [← hq.1, List.take_length] at this
    rw [this]
/-- The first place, or -1. -/
def idxP (p : α → Bool) (xs : List α) : Int := match xs.findIdx? p with | some i => (i : Int) | none => -1
theorem loop_find (xs : List α) {L : Nat → Int → Option Int} {p : α → Bool}
    (h1 : ∀ n (i : Nat) x, xs[i]? = some x → (i : Int) < xs.length → L (n + 1) (i : Int) = if p x = true then some (i : Int) else L n ((i + 1 : Nat) : Int))
    (h2 : ∀ n, L (n + 1) (xs.length : Int) = some (-1)) {n : Nat} (hn : xs.length < n) : L n 0 = some (idxP p xs) := by
  have := loop_list (A := Unit) (L := fun n i _ => L n i) (I := fun _ _ => True) (G := fun post _ => some (match post.findIdx? p with | some j => ((xs.length - post.length + j : Nat) : Int) | none => -1)) xs ?_ ?_ n hn () trivial
  · rw [this]
    unfold idxP
    cases xs.findIdx? p <;> simp
  · intro n pre x post _ hx _ ih hg hlt
    have h := ih () trivial
    rw [h1 n pre.length x hg hlt, List.findIdx?_cons]
    by_cases hp : p x = true
    · rw [if_pos hp, if_pos hp]
      simp only [hx, List.length_append, List.length_cons]
      congr 2
      omega
    · rw [if_neg hp, if_neg hp, h]
      cases post.findIdx? p with
      | none => rfl
      | some j =>
        simp only [hx, List.length_append, List.length_cons, Option.map_some]
        congr 2
        omega
  · intro n _ _
    exact h2 n
theorem idxP_any (p : α → Bool) (xs : List α) : (decide (0 ≤ idxP p xs)) = xs.any p := by
  unfold idxP
  cases h : xs.findIdx? p with
  | none =>
    rw [List.findIdx?_eq_none_iff] at h
    have : xs.any p = false := by
      rw [List.any_eq_false]
      intro x hx; rw [h x hx]; simp
    simp [this]
  | some i =>
    have : xs.any p = true := by
      obtain ⟨hlt, hp, _⟩ := List.findIdx?_eq_some_iff_getElem.1 h
      exact List.any_eq_true.2 ⟨xs[i], List.getElem_mem hlt, hp⟩
    simp [this]
end
end Go.Proofs.Ytgcndhlbhlnplaa.Ev
