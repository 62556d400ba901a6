/- Plain values for a program that runs on a machine: an evaluator of loaded code and the proof that it tells what the machine does (part 4 of 6). No conditions: definitions and lemmas over any program. -/
import Derived.Test.YtgcndhlbhlnplaaEv3
import Derived.Laws.Cover3
import Derived.Orders
import Derived.Deep.LoopGhost
set_option linter.unusedVariables false
set_option linter.unusedSimpArgs false
/- A stretch of a row's flat elements, written over. Over any program. -/
namespace Go.Proofs.Ytgcndhlbhlnplaa.Ev
open Go.RowKit

section
variable {P : Program} {E : Env} {w0 : World} {ok O : Nat → Prop} {σ σ' : St} {tm : Array Value} {w w' : World} {M : Map} {a : Act}

theorem zero_cells {t : Ty} {l : L t} {v : Value} (hv : v.cells = (cellsL t l).toArray) (hsz : t.sz ≠ 0) (n : Nat) : (Builtin.zeroCells v.cells n).toList = (List.replicate n l).flatMap (cellsL t) := by
  have hvs : v.cells.size = t.sz := by rw [hv]; simp [cellsL_len]
  have : Builtin.zeroCells v.cells n = ((List.replicate n l).flatMap (cellsL t)).toArray := by
    apply Array.ext
    · rw [size_zeroCells, hvs, List.size_toArray, flat_len, List.length_replicate]
    · intro k hk1 hk2
      rw [size_zeroCells, hvs] at hk1
      simp only [Builtin.zeroCells, Array.getElem_map, Array.getElem_range, hvs]
      have hm : k % t.sz < t.sz := Nat.mod_lt _ (by omega)
      rw [getElem!_pos _ _ (by rw [hvs]; exact hm)]
      have hq : k / t.sz < n := by rw [Nat.div_lt_iff_lt_mul (by omega)]; exact hk1
      have hf := flat_at t (List.replicate n l) (k / t.sz) l (by simp [hq]) (k % t.sz) hm
      rw [Nat.mul_comm, Nat.div_add_mod] at hf
      have h7 : ((List.replicate n l).flatMap (cellsL t))[k]? = some v.cells[k % t.sz] := by
        rw [hf, List.getElem?_eq_getElem (by rw [cellsL_len]; exact hm)]
        simp only [hv, List.getElem_toArray]
      rw [List.getElem?_eq_some_iff] at h7
      obtain ⟨_, h7⟩ := h7
      rw [List.getElem_toArray]
      exact h7.symm
  rw [this]

theorem Rep.same (R : Rep E w0 ok O σ tm w M) {j : Nat} {r : Row} (hr : lk σ.rows j = some r) : ∃ M', Rep E w0 ok O (σ.setRow j r) tm w M' := by
  obtain ⟨l, hl, he, hh, hnd, hpl⟩ := R.rows j r hr
  have := R.upd (bs := []) (l' := l) hr hl (Kept.refl _ _) hh hnd hpl rfl (fun k hk => .inl hk) Free.nil (fun _ _ _ p _ => HeadEq.refl _ _ _) (fun _ _ _ p _ => HeadEq.refl _ _ _)
  rw [he] at this
  exact ⟨_, this⟩

theorem clearC_sound {R0 : Type} {res : R0} (R : Rep E w0 ok O σ tm w M) (hat : a.tmps = tm) (T : tabOK P E.ti = true) {xt ty : TypeId} {x : Operand} {k : St → Option R0} (h : clearC E σ xt x k = some res) :
    ∃ w' σ' M', (Builtin.clear_ #[xt] ty #[a.eval x]).run P w = .ok (.tuple #[]) w' ∧ k σ' = some res ∧ Rep E w0 ok O σ' tm w' M' := by
  unfold clearC at h
  split at h
  · rename_i e e' u b j lo n hti hx
    obtain ⟨hu, hty⟩ := tab_sl T hti
    obtain ⟨⟨cs, ⟨e1, t1, l1, hl1, hln, A, c, rfl, hc, hA⟩, hw⟩, hlive⟩ := opd_sound R hat hx
    have hv : a.eval x = .slice A n c := by
      rcases hw with ⟨h5, _⟩ | ⟨_, h5⟩
      · cases h5
      · simp only [List.cons.injEq, and_true] at h5; exact h5.symm
    split at h
    · rename_i r hr
      split at h
      · rename_i z hz
        cases hb : ((Nat.beq r.e e && decide (r.t = E.tyOf e)) && r.t.flat) <;> rw [hb] at h
        · cases h
        · simp only [cond_true] at h
          simp only [Bool.and_eq_true, decide_eq_true_eq] at hb
          obtain ⟨⟨b1, b2⟩, b3⟩ := hb
          have b1 := Nat.eq_of_beq_eq_true b1
          obtain ⟨l, hl, he, hh, hnd, hpl⟩ := R.rows j r hr
          rw [hl] at hl1
          cases hl1
          rw [hv]
          by_cases hn : n = 0
          · subst hn
            obtain ⟨M', R'⟩ := R.same hr
            refine ⟨w, _, M', ?_, h, ?_⟩
            · cases A <;> simp [Builtin.clear_, run_underlying hu]
            · have : overL r.xs lo (List.replicate 0 z) = r.xs := by simp [overL]
              rw [this]; exact R'
          · have hA := hA (.inl (by omega))
            cases hg : l.1 with
            | none =>
              have := hh.1
              rw [hg] at this
              rw [this.1] at hln
              simp at hln
              omega
            | some g =>
              rw [hg] at hA
              obtain ⟨zl, z1, z2, z3, z4⟩ := zeroL_sound r.t hz
              have hz' : (E.tyOf e).zero = some (b2 ▸ z) := by
                have key : ∀ (t : Ty) (e2 : r.t = t), t.zero = some (e2 ▸ z) := by intro t e2; subst e2; exact hz
                exact key _ b2
              obtain ⟨ti, v, i1, i2, i3, i4⟩ := tab_zero T hz'
              have hcz : cellsZ (E.tyOf e) = cellsZ r.t := by rw [b2]
              have hvc : v.cells = (cellsL r.t zl).toArray := by apply Array.ext'; rw [i3, hcz, ← z2]
              have hsz : r.t.sz ≠ 0 := flat_sz b3
              have hys := zero_cells hvc hsz n
              obtain ⟨cur, fz, k1, k2, k3, k4⟩ := over_rep R hr hl hg b3 (lo := lo) (ys := List.replicate n zl) (by rw [List.length_replicate]; exact hln)
              have hyl : ((List.replicate n zl).flatMap (cellsL r.t)).length = n * r.t.sz := by rw [flat_len, List.length_replicate]
              rw [List.length_replicate] at k2 k3 k4
              have hone := one_cells (List.replicate n zl)
              obtain ⟨w', e1, e2, e3, e4⟩ := run_put P g r.e fz ((List.replicate n zl).flatMap (cellsL r.t)) (lo * r.t.sz) 0 cur w k1 (by rw [hyl]; simpa using k2) (by rw [hyl]; simpa using k3) hone
              rw [hyl, Nat.add_zero] at e2
              have R2 := k4 w' e2 e3 e4
              have hex : l.2.2.map (erase r.t) = r.xs := he
              rw [List.map_replicate, z1, hex] at R2
              refine ⟨w', _, _, ?_, h, R2⟩
              · rw [hA]
                have hzv : (zeroValue e).run P w = .ok v w := by simp [zeroValue, typeInfo, i1, i2]
                obtain ⟨m, rfl⟩ : ∃ m, n = m + 1 := ⟨n - 1, by omega⟩
                have e1' : (storeCells ⟨g, lo * r.t.sz, none⟩ (Builtin.zeroCells v.cells (m + 1)).toList).run P w = .ok () w' := by rw [hys]; exact e1
                simp [Builtin.clear_, run_underlying hu, hzv, e1']
      · cases h
    · cases h
  · cases h
end
end Go.Proofs.Ytgcndhlbhlnplaa.Ev

/- A region's operations, in the text's order. Over any program. -/
namespace Go.Proofs.Ytgcndhlbhlnplaa.Ev
open Go.RowKit

/-- Calls that are handed rows and variables. -/
def KeptOK (P : Program) (E : Env) (w0 : World) (O : Nat → Prop) : Prop := ∀ (w1 : World) (O1 : Nat → Prop), Mov w0 O w1 O1 → ∀ {R0 : Type} {res : R0} {ok : Nat → Prop} {σ : St} {a : Act} {w : World} {M : Map} {o : Oper} {g : FuncId} {c : OC} {f : Operand} {args : Array Operand} {ts : Array TypeId} {k : St → Option R0},
  E.opn (slotOf o) = some (g, c) → Rep E w1 ok O1 σ a.tmps w M → o.op = .call ⟨.value f, args, ts⟩ → inB o.dst a.tmps → a.defers = [] → openC E σ (slotOf o) o.dst g c f args.toList ts.toList k = some res →
  ∀ {next : Act → World → Prop} {Q : Exit → Act → World → Prop}, Then E w1 ok O1 res a.tmps.size k next → o.wp P a w next Q
theorem KeptOK.none {P : Program} {E : Env} {w0 : World} {O : Nat → Prop} (h : ∀ g, E.opn g = .none) : KeptOK P E w0 O := fun _ _ _ _ _ _ _ _ _ _ _ _ _ _ _ _ _ hk => by rw [h] at hk; cases hk
theorem KeptOK.chg {P : Program} {E : Env} {w0 : World} {ok O : Nat → Prop} (K : KeptOK P E w0 O) {w1 : World} {ok1 O1 : Nat → Prop} (hc : Chg E w0 ok O w1 ok1 O1) : KeptOK P E w1 O1 := fun _ _ m => K _ _ (hc.mov.trans m)

theorem both_some {R : Type} {a b : Option R} {r : R} (h : both a b = some r) : a = some r ∧ b = some r := by
  unfold both at h
  split at h
  · rename_i e; exact ⟨h, e ▸ h⟩
  · cases h

section
variable {P : Program} {E : Env} {w0 : World} {ok O : Nat → Prop} {σ σ' : St} {tm : Array Value} {w w' : World} {M : Map} {a : Act}

theorem nilC_sound {R0 : Type} {res : R0} (R : Rep E w0 ok O σ a.tmps w M) (T : tabOK P E.ti = true) {xt yt : TypeId} {x : Operand} {k : Bool → Option R0} (h : nilC E σ xt x k = some res) (op : BinOp) (hop : op = .eql ∨ op = .neq) :
    ∃ b, k b = some res ∧ (do eqGuard op xt x (.const (.slice none 0 0)) (a.eval x) (.slice none 0 0); binOp op xt (a.eval x) (.slice none 0 0) : Sem Value).run P w = .ok (.bool (if op = .eql then b else !b)) w := by
  unfold nilC at h
  cases hk : E.isSl xt <;> rw [hk] at h
  · cases h
  · simp only [Bool.not_true, cond_false] at h
    obtain ⟨e, hu⟩ := isSl_under T hk
    split at h
    · rename_i s hs
      rw [resC_bind] at h
      obtain ⟨⟨t, xs⟩, h1, h⟩ := Option.bind_eq_some_iff.1 h
      obtain ⟨cs, hr, hw⟩ := res2 R rfl hs h1
      cases t with
      | sl e' t' =>
        simp only [] at h hr hw
        obtain ⟨A, c, rfl, hl, hx⟩ := hr
        have hv : a.eval x = .slice A (List.length xs) c := by
          rcases hw with ⟨h5, _⟩ | ⟨_, h5⟩
          · cases h5
          · simp only [List.cons.injEq, and_true] at h5; exact h5.symm
        have hrun : (do eqGuard op xt x (.const (.slice none 0 0)) (a.eval x) (.slice none 0 0); binOp op xt (a.eval x) (.slice none 0 0) : Sem Value).run P w = .ok (.bool (if op = .eql then A.isNone else !A.isNone)) w := by
          rw [hv]
          have hg : eqGuard op xt x (.const (.slice none 0 0)) (.slice A (List.length xs) c) (.slice none 0 0) = pure () := by cases op <;> rfl
          rw [hg]
          simp only [Sem.run_bind, Sem.run_pure, Result.andThen_ok]
          rcases hop with rfl | rfl
          · simp only [binOp, if_true]
            simp [Go.run_equal_slice_nil w xt e A _ c hu]
          · simp only [reduceCtorEq, if_false]
            exact Go.run_neq_slice_nil w xt e A _ c hu
        refine ⟨A.isNone, ?_, hrun⟩
        split at h
        · obtain ⟨g1, g2⟩ := both_some h
          cases A <;> assumption
        · rename_i hne
          have : xs ≠ [] := fun e => hne (by rw [e]; rfl)
          obtain ⟨ad, rfl, _⟩ := hx this
          exact h
      | _ => cases h
    · cases h

/-- A slot known better. -/
theorem Rep.reput (R : Rep E w0 ok O σ tm w M) {d : Tmp} {s : SV} {v : Value} (hv : tm[d]? = some v) (hs : RepS w0 ok M s v) (hl : Live σ s) : Rep E w0 ok O (σ.put (some d) s) tm w M := by
  have hd : d < tm.size := (Array.getElem?_eq_some_iff.1 hv).1
  have := R.putV (d := some d) hs hl (fun x hx => by cases hx; exact hd)
  have e : putT tm (some d) v = tm := by
    simp only [putT]
    apply Array.ext_getElem?
    intro i
    by_cases hi : d = i
    · subst hi; rw [hv]; simp [hd]
    · rw [Array.getElem?_setIfInBounds_ne hi]
  rw [e] at this
  exact this

theorem promC_sound {R0 : Type} {res : R0} (R : Rep E w0 ok O σ tm w M) {d : Nat} {dst : Option Tmp} {ty : TypeId} {k : St → Option R0} (h : promC E σ d dst ty k = some res) : ∃ σ' M', k σ' = some res ∧ Rep E w0 ok O σ' tm w M' := by
  unfold promC at h
  split at h
  · exact ⟨σ, M, h, R⟩
  · rename_i s
    split at h
    · rename_i j hj
      split at h
      · rename_i b hb
        cases hk : ((E.tyOf b.ty).flat || Nat.beq b.c.count 0) <;> rw [hk] at h
        · exact ⟨σ, M, h, R⟩
        · simp only [cond_true] at h
          obtain ⟨u, h1, cs, h2, h3⟩ := R.slots s _ hj
          obtain ⟨σ1, t, l, g1, g2, g3, g4, g5, g6⟩ := eat_sound depth w0 ok O σ tm w M _ cs _ R h2 h
          cases t with
          | sl e t =>
            simp only [] at g1
            cases hp : Nat.blt (32 * d) PIN <;> rw [hp] at g1
            · cases g1
            · simp only [cond_true] at g1
              have fin : ∀ (t' : Ty) (l' : L (.sl e t')), holds (Rd w0 ok) w (.sl e t') l' → plain w (.sl e t') l' → blocksL (.sl e t') l' = blocksL (.sl e t) l → cellsL (.sl e t') l' = cs → k ((σ1.addRow (32 * d) ⟨e, t', erase (.sl e t') l', false⟩).put (some s) (.ref (32 * d) [])) = some res → ∃ σ' M', k σ' = some res ∧ Rep E w0 ok O σ' tm w M' := by
                intro t' l' b1 b2 b3 b4 b5
                have R2 := g6.rep.addOwn (32 * d) (Nat.le_of_ble_eq_true hp) l' b1 b2 (b3 ▸ g6.free)
                refine ⟨_, _, b5, R2.reput h1 ⟨cs, ⟨e, t', l', (congrArg (fun z : Loc => subL z.1 z.2 []) (updF_same M.loc (32 * d) ⟨.sl e t', l'⟩)).trans rfl, b4.symm⟩, h3⟩ ⟨fun i hi => ?_, by simp [SV.boxes]⟩⟩
                simp [SV.roots] at hi
                subst hi
                exact ⟨_, lk_self _ _ _⟩
              split at g1
              · rename_i e2 u' b2 hty hx
                cases hsz : Nat.beq u'.sz t.sz <;> rw [hsz] at g1
                · cases g1
                · have hsz := Nat.eq_of_beq_eq_true hsz
                  simp only [cond_true] at g1
                  obtain ⟨lb, lc, lx⟩ := l
                  have hl0 : lx = [] := List.map_eq_nil_iff.1 hx
                  subst hl0
                  refine fin (.rd u') (lb, lc, []) ⟨?_, by simp⟩ ⟨?_, by simp⟩ (by simp [blocksL]) g4 g1
                  · have h8 := g2.1
                    cases lb with
                    | none => exact ⟨rfl, h8.2⟩
                    | some g =>
                      obtain ⟨cur, fz, c1, c2, c3, c4, c5, c6⟩ := h8
                      exact ⟨cur, fz, c1, Nat.zero_le _, c3, by show lc * u'.sz ≤ _; rw [hsz]; exact c4, by simp, .inr (by simp)⟩
                  · intro b hb
                    obtain ⟨cur, e3, c1, c2⟩ := g3.1 b hb
                    exact ⟨cur, e3, c1, by show _ = lc * u'.sz; rw [hsz]; exact c2⟩
              · exact fin t l g2 g3 rfl g4 g1
          | _ => cases g1
      · cases h
    · cases h

theorem seqC_sound [Glob P] {R0 : Type} {res : R0} (R : Rep E w0 ok O σ a.tmps w M) (T : tabOK P E.ti = true) (EQ : EqOK P E) (S : SpecOK P E w0 O) (K : KeptOK P E w0 O) {o : Oper} (hin : inB o.dst a.tmps) (hd : a.defers = []) {k : St → Option R0} (h : seqC E σ o k = some res)
    {next : Act → World → Prop} {Q : Exit → Act → World → Prop} (hn : Then E w0 ok O res a.tmps.size k next) : o.wp P a w next Q := by
  have nil : ∀ {op : BinOp} {xt yt : TypeId} {x : Operand} {k' : Bool → Option R0}, o.op = .binOp op xt x (.const (.slice none 0 0)) yt → (op = .eql ∨ op = .neq) → nilC E σ xt x k' = some res → (∀ b, k' b = k (σ.put o.dst (.val .bool (if op = .eql then b else !b)))) → o.wp P a w next Q := by
    intro op xt yt x k' hop ho h hk
    obtain ⟨b, h1, h2⟩ := nilC_sound R T h op ho (yt := yt)
    unfold Oper.wp execOp
    rw [hop]
    have he : a.eval (.const (.slice none 0 0)) = .slice none 0 0 := rfl
    simp only [he]
    rw [Sem.run_bind, h2]
    simp only [Result.andThen_ok, Sem.run_pure, Oper.upon_value]
    rw [hk] at h1
    refine hn.at _ _ w M h1 ?_ (by rw [put_tmps, putT_size]) (by rw [put_defers]; exact hd)
    rw [put_tmps]
    exact R.putV (s := .val .bool _) ⟨_, rfl, .inr ⟨rfl, rfl⟩⟩ (live_val _ _) hin
  unfold seqC at h
  split at h
  · rename_i t x y hop
    obtain ⟨w', σ', M', w2, ok2, O2, hc, h1, h2, h3⟩ := storeC_sound (P := P) R rfl T h
    unfold Oper.wp execOp
    rw [hop]
    simp only [Sem.run_bind, h1, Result.andThen_ok, Sem.run_pure]
    refine hn _ _ _ hc _ _ w' M' h2 ?_ (by rw [put_tmps, putT_size]) (by rw [put_defers]; exact hd)
    rw [put_tmps]
    exact h3.putUn undef hin
  · rename_i args ts hop
    split at h
    · rename_i x y t tx hargs hts
      have ha : args = #[x, y] := by apply Array.ext'; rw [hargs]
      have ht : ts = #[t, tx] := by apply Array.ext'; rw [hts]
      obtain ⟨v, w', σ', M', w2, ok2, O2, hc, h1, h2, h3⟩ := appendC_sound (P := P) (ty := o.type) R rfl T hin h
      unfold Oper.wp execOp
      rw [hop, ha, ht]
      simp only [resolve, invoke, builtin, Sem.run_bind, Sem.run_pure, Result.andThen_ok]
      have hm : (#[x, y].map a.eval) = #[a.eval x, a.eval y] := by simp
      rw [hm, h1]
      simp only [Result.andThen_ok, Oper.upon_value]
      refine hn _ _ _ hc _ _ w' M' h2 ?_ (by rw [put_tmps, putT_size]) (by rw [put_defers]; exact hd)
      rw [put_tmps]
      exact h3
    · cases h
  · rename_i args ts hop
    split at h
    · rename_i x t hargs hts
      have ha : args = #[x] := by apply Array.ext'; rw [hargs]
      have ht : ts = #[t] := by apply Array.ext'; rw [hts]
      obtain ⟨w', σ', M', h1, h2, h3⟩ := clearC_sound (P := P) (ty := o.type) R rfl T h
      unfold Oper.wp execOp
      rw [hop, ha, ht]
      simp only [resolve, invoke, builtin, Sem.run_bind, Sem.run_pure, Result.andThen_ok]
      have hm : (#[x].map a.eval) = #[a.eval x] := by simp
      rw [hm, h1]
      simp only [Result.andThen_ok, Oper.upon_value]
      refine hn.at _ _ w' M' h2 ?_ (by rw [put_tmps, putT_size]) (by rw [put_defers]; exact hd)
      rw [put_tmps]
      exact h3.putUn (.tuple #[]) hin
    · cases h
  · rename_i bt bn bp hop
    refine cleanC_sound R T EQ S hin hd h fun w2 ok2 O2 hc σ1 a1 w1 M1 h1 R1 hn1 hd1 => ?_
    obtain ⟨σ2, M2, h2, R2⟩ := promC_sound R1 h1
    exact hn _ _ _ hc _ _ w1 M2 h2 R2 hn1 hd1
  · rename_i xt x yt hop
    exact nil hop (.inl rfl) h (fun b => by simp)
  · rename_i xt x yt hop
    exact nil hop (.inr rfl) h (fun b => by simp)
  · rename_i f args ts hop
    split at h
    · exact cleanC_sound R T EQ S hin hd h hn
    · rename_i g c hk
      exact K _ _ .refl hk R hop hin hd h hn
  · exact cleanC_sound R T EQ S hin hd h hn

theorem bool_slot (R : Rep E w0 ok O σ tm w M) {d : Tmp} {b : Bool} (h : lk σ.sl d = some (.val .bool b)) : tm[d]? = some (.bool b) := by
  obtain ⟨u, h1, cs, h2, h3⟩ := R.slots d _ h
  have := rd_bool h2 (h3 : WholeT .bool u cs)
  rw [h1, this]

theorem splitC_sound {R0 : Type} {res : R0} (R : Rep E w0 ok O σ tm w M) {all : List Oper} {i : Nat} {o : Oper} {k : St → Option R0} (h : splitC all i o σ k = some res) : ∃ σ', k σ' = some res ∧ Rep E w0 ok O σ' tm w M := by
  unfold splitC at h
  cases hg : guards all i <;> rw [hg] at h
  · exact ⟨σ, h, R⟩
  · simp only [cond_true] at h
    split at h
    · rename_i d hd
      split at h
      · rename_i b hb
        have hv := bool_slot R hb
        split at h
        · rename_i hbt
          subst hbt
          exact ⟨_, h, R.reput hv ⟨_, rfl, .inr ⟨rfl, rfl⟩⟩ (live_val _ _)⟩
        · rename_i hbf
          have : b = false := by simpa using hbf
          subst this
          exact ⟨_, h, R.reput hv ⟨_, rfl, .inr ⟨rfl, rfl⟩⟩ (live_val _ _)⟩
      · cases h
    · cases h

/-- Is it wanted? -/
theorem wantC_sound {R0 : Type} {res : R0} (R : Rep E w0 ok O σ tm w M) {all : List Oper} {o : Oper} {yes no : Option R0} (h : wantC all o σ yes no = some res) :
    (Region.wanted o (yielded all.toArray tm) = true ∧ yes = some res) ∨ (Region.wanted o (yielded all.toArray tm) = false ∧ no = some res) := by
  unfold wantC at h
  split at h
  · rename_i hg; exact .inl ⟨by simp [Region.wanted, hg], h⟩
  · rename_i g want hg
    split at h
    · rename_i d hd
      split at h
      · rename_i b hb
        have hv := bool_slot R hb
        have hy : yielded all.toArray tm g = some b := by
          unfold dstOf at hd
          split at hd
          · rename_i q hq
            have : all.toArray[g]? = some q := by simpa using hq
            simp [yielded, this, hd, hv]
          · cases hd
        split at h
        · rename_i e; exact .inl ⟨by simp [Region.wanted, hg, hy, e], h⟩
        · rename_i e; exact .inr ⟨by simp [Region.wanted, hg, hy, e], h⟩
      · rename_i hb
        obtain ⟨u, h1, vs, h2, h3⟩ := R.slots d _ hb
        have hy : yielded all.toArray tm g = none := by
          unfold dstOf at hd
          split at hd
          · rename_i q hq
            have : all.toArray[g]? = some q := by simpa using hq
            simp [yielded, this, hd, h1, h2]
          · cases hd
        exact .inr ⟨by simp [Region.wanted, hg, hy], h⟩
      · cases h
    · cases h

theorem opsC_sound [Glob P] {R0 : Type} {res : R0} {w0 : World} {ok O : Nat → Prop} (T : tabOK P E.ti = true) (EQ : EqOK P E) (S : SpecOK P E w0 O) (K : KeptOK P E w0 O) {all : List Oper} {n : Nat} (hB : ∀ o ∈ all, ∀ d, o.dst = some d → d < n) {k : St → Option R0} {Q : Exit → Act → World → Prop} (hQ : Then E w0 ok O res n k (Q .normal)) :
    ∀ (l : List Oper) (i : Nat) (σ : St) (a : Act) (w : World) (M : Map), all.drop i = l → opsC E all i l σ k = some res → Rep E w0 ok O σ a.tmps w M → a.tmps.size = n → a.defers = [] → wpOps P all.toArray Q (List.range' i l.length) a w
  | [], i, σ, a, w, M, hl, h, R, hn, hd => by
    simp only [List.length_nil, List.range'_zero, wpOps]
    exact hQ.at σ a w M h R hn hd
  | o :: l, i, σ, a, w, M, hl, h, R, hn, hd => by
    have hi : all[i]? = some o := by
      have : (all.drop i)[0]? = some o := by rw [hl]; rfl
      rwa [List.getElem?_drop, Nat.add_zero] at this
    have hl' : all.drop (i + 1) = l := by
      have : (all.drop i).drop 1 = l := by rw [hl]; rfl
      rwa [List.drop_drop] at this
    have hia : all.toArray[i]? = some o := by simpa using hi
    have hin : inB o.dst a.tmps := fun d hd => by rw [hn]; exact hB o (List.mem_of_getElem? hi) d hd
    rw [List.length_cons, List.range'_succ]
    simp only [wpOps, hia]
    simp only [opsC] at h
    rcases wantC_sound R h with ⟨hw, h⟩ | ⟨hw, h⟩
    · rw [if_pos hw]
      refine .inl (seqC_sound R T EQ S K hin hd h ?_)
      intro w2 ok2 O2 hc σ1 a1 w1 M1 h1 R1 hn1 hd1
      obtain ⟨σ2, h2, R2⟩ := splitC_sound R1 h1
      exact opsC_sound T EQ (S.chg hc) (K.chg hc) hB (hQ.chg hc) l (i + 1) σ2 a1 w1 M1 hl' h2 R2 (by rw [hn1, hn]) hd1
    · rw [if_neg (by rw [hw]; simp)]
      refine opsC_sound T EQ S K hB hQ l (i + 1) _ _ w M hl' h ?_ (by rw [put_tmps, putT_size, hn]) (by rw [put_defers]; exact hd)
      rw [put_tmps]
      exact R.putSkip hin
end
end Go.Proofs.Ytgcndhlbhlnplaa.Ev

/- A region that draws its order. Over any program. -/
namespace Go.Proofs.Ytgcndhlbhlnplaa.Ev
open Go.RowKit

section
variable {P : Program} {E : Env} {w0 : World} {ok O : Nat → Prop} {σ σ' : St} {tm : Array Value} {w w' : World} {M : Map} {a : Act}

def outApp (σ : St) (o : Oper) (x : Out) : St := (σ.add x.2.1 x.2.2).put o.dst x.1
/-- What an operation of the free part came to, in the text's order. -/
def TrOK (E : Env) (all : List Oper) (p i : Nat) (σ : St) (o : Oper) (x : Out) : Prop :=
  (wantC all o (σ.hide (hidden all p i)) (some true) (some false) = some true ∧ pureN E (σ.hide (hidden all p i)) o = some x ∧ σ.fresh (slotOf o) x.2.1 x.2.2 = true) ∨
  (wantC all o (σ.hide (hidden all p i)) (some true) (some false) = some false ∧ x = (.tup .nl, [], []))
inductive Trace (E : Env) (all : List Oper) : List Nat → Nat → List Oper → St → List Out → St → Prop where
  | nil (i : Nat) (l : List Oper) (σ : St) : Trace E all [] i l σ [] σ
  | cons {p : Nat} {ps : List Nat} {i : Nat} {o : Oper} {l : List Oper} {σ σ' : St} {x : Out} {xs : List Out} : TrOK E all p i σ o x → Trace E all ps (i + 1) l (outApp σ o x) xs σ' → Trace E all (p :: ps) i (o :: l) σ (x :: xs) σ'

theorem want_split {R0 : Type} {res : R0} {all : List Oper} {o : Oper} {yes no : Option R0} (h : wantC all o σ yes no = some res) :
    (wantC all o σ (some true) (some false) = some true ∧ yes = some res) ∨ (wantC all o σ (some true) (some false) = some false ∧ no = some res) := by
  cases hg : o.guard with
  | none => simp only [wantC, hg] at h ⊢; exact .inl ⟨trivial, h⟩
  | some gw =>
    obtain ⟨g, want⟩ := gw
    simp only [wantC, hg] at h ⊢
    cases hd : dstOf all g with
    | none => simp only [hd] at h; cases h
    | some d =>
      simp only [hd] at h ⊢
      split at h
      · rename_i b hb
        by_cases e : b = want
        · rw [if_pos e] at h; exact .inl ⟨by rw [if_pos e], h⟩
        · rw [if_neg e] at h; exact .inr ⟨by rw [if_neg e], h⟩
      · exact .inr ⟨rfl, h⟩
      · cases h
theorem split_S {R0 : Type} {res : R0} {all : List Oper} {i : Nat} {s : SV} {k : SV → Option R0} (h : splitS all i s k = some res) : k s = some res := by
  unfold splitS at h
  cases hg : guards all i <;> rw [hg] at h
  · exact h
  · simp only [cond_true] at h
    split at h
    · split at h
      · rename_i b hb; subst hb; exact h
      · rename_i b hb
        have : b = false := by simpa using hb
        subst this; exact h
    · cases h

theorem draw_trace {R0 : Type} {res : R0} {all : List Oper} {k : St → Option R0} : ∀ (ps : List Nat) (i : Nat) (l : List Oper) (σ : St), drawC E all ps i l σ k = some res →
    ∃ outs σ', Trace E all ps i l σ outs σ' ∧ outs.length = ps.length ∧ ps.length ≤ l.length ∧ opsC E all (i + ps.length) (l.drop ps.length) (σ'.promAll E) k = some res
  | [], i, l, σ, h => ⟨[], σ, .nil i l σ, rfl, Nat.zero_le _, by simpa [drawC] using h⟩
  | p :: ps, i, [], σ, h => by cases h
  | p :: ps, i, o :: l, σ, h => by
    simp only [drawC] at h
    rcases want_split h with ⟨hw, h⟩ | ⟨hw, h⟩
    · rw [pureC_bind] at h
      obtain ⟨out, h1, h2⟩ := Option.bind_eq_some_iff.1 h
      cases hf : σ.fresh (slotOf o) out.2.1 out.2.2 <;> rw [hf] at h2
      · cases h2
      · simp only [cond_true] at h2
        obtain ⟨outs, σ', g1, g2, g3, g4⟩ := draw_trace ps (i + 1) l _ (split_S h2)
        exact ⟨out :: outs, σ', .cons (.inl ⟨hw, h1, hf⟩) g1, by simp [g2], by simp; exact g3, by rw [List.length_cons, List.drop_succ_cons, show i + (ps.length + 1) = i + 1 + ps.length by omega]; exact g4⟩
    · obtain ⟨outs, σ', g1, g2, g3, g4⟩ := draw_trace ps (i + 1) l _ h
      exact ⟨(.tup .nl, [], []) :: outs, σ', .cons (.inr ⟨hw, rfl⟩) g1, by simp [g2], by simp; exact g3, by rw [List.length_cons, List.drop_succ_cons, show i + (ps.length + 1) = i + 1 + ps.length by omega]; exact g4⟩

/-- What a state along the text knows. -/
structure Chars (base : St) (l : List Oper) (outs : List Out) (j : Nat) (σ : St) : Prop where
  sl : ∀ s v, lk σ.sl s = some v → lk base.sl s = some v ∨ ∃ t o x, t < j ∧ l[t]? = some o ∧ outs[t]? = some x ∧ o.dst = some s ∧ v = x.1
  rows : ∀ i r, lk σ.rows i = some r → lk base.rows i = some r ∨ ∃ t x, t < j ∧ outs[t]? = some x ∧ lk x.2.1 i = some r
  bx : ∀ i b, lk σ.bx i = some b → lk base.bx i = some b ∨ ∃ t x, t < j ∧ outs[t]? = some x ∧ lk x.2.2 i = some b
  rows' : ∀ i, (∃ r, lk base.rows i = some r) → ∃ r, lk σ.rows i = some r
  bx' : ∀ i, (∃ r, lk base.bx i = some r) → ∃ r, lk σ.bx i = some r
  rowsO : ∀ t x i, t < j → outs[t]? = some x → (∃ r, lk x.2.1 i = some r) → ∃ r, lk σ.rows i = some r
  bxO : ∀ t x i, t < j → outs[t]? = some x → (∃ r, lk x.2.2 i = some r) → ∃ r, lk σ.bx i = some r

theorem outApp_lk {o : Oper} {x : Out} (s : Nat) (v : SV) (h : lk (outApp σ o x).sl s = some v) : (o.dst = some s ∧ v = x.1) ∨ lk σ.sl s = some v := by
  unfold outApp at h
  cases hd : o.dst with
  | none => rw [hd] at h; exact .inr h
  | some d =>
    rw [hd] at h
    simp only [St.put, lk_cons] at h
    split at h
    · rename_i e; cases h; exact .inl ⟨by rw [e], rfl⟩
    · exact .inr h
theorem outApp_rows {o : Oper} {x : Out} : (outApp σ o x).rows = x.2.1 ++ σ.rows := put_rows _ _
theorem outApp_bx {o : Oper} {x : Out} : (outApp σ o x).bx = x.2.2 ++ σ.bx := put_bx _ _

theorem trace_at {all : List Oper} : ∀ {ps : List Nat} {i : Nat} {l : List Oper} {σ : St} {outs : List Out} {σ' : St}, Trace E all ps i l σ outs σ' →
    (∀ j, j < outs.length → ∃ σj o x p, l[j]? = some o ∧ outs[j]? = some x ∧ ps[j]? = some p ∧ TrOK E all p (i + j) σj o x ∧ Chars σ l outs j σj) ∧ Chars σ l outs outs.length σ' := by
  intro ps i l σ outs σ' h
  induction h with
  | nil i l σ => exact ⟨fun j hj => absurd hj (Nat.not_lt_zero _), ⟨fun s v h => .inl h, fun i r h => .inl h, fun i b h => .inl h, fun i h => h, fun i h => h, fun t x i ht => absurd ht (Nat.not_lt_zero _), fun t x i ht => absurd ht (Nat.not_lt_zero _)⟩⟩
  | @cons p ps i o l σ σ' x xs h1 h2 ih =>
    obtain ⟨ih1, ih2⟩ := ih
    have up : ∀ {j σj}, Chars (outApp σ o x) l xs j σj → Chars σ (o :: l) (x :: xs) (j + 1) σj := by
      intro j σj hc
      refine ⟨fun s v h => ?_, fun k r h => ?_, fun k b h => ?_, fun k hk => hc.rows' k ?_, fun k hk => hc.bx' k ?_, fun t x' k ht hx' hk => ?_, fun t x' k ht hx' hk => ?_⟩
      · rcases hc.sl s v h with h | ⟨t, o', x', ht, h3, h4, h5, h6⟩
        · rcases outApp_lk s v h with ⟨h3, h4⟩ | h
          · exact .inr ⟨0, o, x, Nat.succ_pos _, rfl, rfl, h3, h4⟩
          · exact .inl h
        · exact .inr ⟨t + 1, o', x', Nat.succ_lt_succ ht, h3, h4, h5, h6⟩
      · rcases hc.rows k r h with h | ⟨t, x', ht, h4, h5⟩
        · rw [outApp_rows, lk_append] at h
          cases hq : lk x.2.1 k with
          | some r' => rw [hq] at h; cases h; exact .inr ⟨0, x, Nat.succ_pos _, rfl, hq⟩
          | none => rw [hq] at h; exact .inl h
        · exact .inr ⟨t + 1, x', Nat.succ_lt_succ ht, h4, h5⟩
      · rcases hc.bx k b h with h | ⟨t, x', ht, h4, h5⟩
        · rw [outApp_bx, lk_append] at h
          cases hq : lk x.2.2 k with
          | some r' => rw [hq] at h; cases h; exact .inr ⟨0, x, Nat.succ_pos _, rfl, hq⟩
          | none => rw [hq] at h; exact .inl h
        · exact .inr ⟨t + 1, x', Nat.succ_lt_succ ht, h4, h5⟩
      · obtain ⟨r, hr⟩ := hk
        rw [outApp_rows, lk_append, hr]
        cases lk x.2.1 k with
        | some r' => exact ⟨r', rfl⟩
        | none => exact ⟨r, rfl⟩
      · obtain ⟨r, hr⟩ := hk
        rw [outApp_bx, lk_append, hr]
        cases lk x.2.2 k with
        | some r' => exact ⟨r', rfl⟩
        | none => exact ⟨r, rfl⟩
      · cases t with
        | zero =>
          cases hx'
          obtain ⟨r, hr⟩ := hk
          exact hc.rows' k ⟨r, by rw [outApp_rows, lk_append, hr]; rfl⟩
        | succ t => exact hc.rowsO t x' k (Nat.lt_of_succ_lt_succ ht) hx' hk
      · cases t with
        | zero =>
          cases hx'
          obtain ⟨r, hr⟩ := hk
          exact hc.bx' k ⟨r, by rw [outApp_bx, lk_append, hr]; rfl⟩
        | succ t => exact hc.bxO t x' k (Nat.lt_of_succ_lt_succ ht) hx' hk
    refine ⟨fun j hj => ?_, up ih2⟩
    cases j with
    | zero => exact ⟨σ, o, x, p, rfl, rfl, rfl, h1, ⟨fun s v h => .inl h, fun i r h => .inl h, fun i b h => .inl h, fun i h => h, fun i h => h, fun t x i ht => absurd ht (Nat.not_lt_zero _), fun t x i ht => absurd ht (Nat.not_lt_zero _)⟩⟩
    | succ j =>
      obtain ⟨σj, o', x', p', g1, g2, g3, g4, g5⟩ := ih1 j (by simpa using hj)
      exact ⟨σj, o', x', p', g1, g2, g3, by rw [show i + (j + 1) = i + 1 + j by omega]; exact g4, up g5⟩

/-- A state in which the operations of D have run. -/
structure Done (base : St) (all : List Oper) (outs : List Out) (D : Nat → Prop) (σ : St) : Prop where
  sl : ∀ s v, lk base.sl s = some v → lk σ.sl s = some v
  out : ∀ j o x d, D j → all[j]? = some o → outs[j]? = some x → o.dst = some d → lk σ.sl d = some x.1
  rows : ∀ i r, lk base.rows i = some r → lk σ.rows i = some r
  rowsO : ∀ j x i r, D j → outs[j]? = some x → lk x.2.1 i = some r → lk σ.rows i = some r
  bx : ∀ i r, lk base.bx i = some r → lk σ.bx i = some r
  bxO : ∀ j x i r, D j → outs[j]? = some x → lk x.2.2 i = some r → lk σ.bx i = some r
  rowsB : ∀ i r, lk σ.rows i = some r → lk base.rows i = some r ∨ ∃ j x r', D j ∧ outs[j]? = some x ∧ lk x.2.1 i = some r'
  bxB : ∀ i r, lk σ.bx i = some r → lk base.bx i = some r ∨ ∃ j x r', D j ∧ outs[j]? = some x ∧ lk x.2.2 i = some r'

theorem lk_filter {α : Type} (q : Nat → Bool) : ∀ (l : List (Nat × α)) (n : Nat), lk (l.filter fun x => q x.1) n = if q n = true then lk l n else none
  | [], n => by simp [lk]
  | (k, v) :: l, n => by
    rw [List.filter_cons]
    by_cases hk : q k = true
    · rw [if_pos hk, lk_cons, lk_cons, lk_filter q l n]
      by_cases hkn : k = n
      · subst hkn; simp [hk]
      · simp [hkn]
    · rw [if_neg hk, lk_filter q l n, lk_cons]
      by_cases hkn : k = n
      · subst hkn; simp [hk]
      · simp [hkn]
theorem not_any {ds : List Nat} {n : Nat} : (!(ds.any (Nat.beq n))) = true ↔ n ∉ ds := by
  simp only [Bool.not_eq_true', List.any_eq_false]
  constructor
  · intro h hm; have := h n hm; simp at this
  · intro h x hx hb; exact h (Nat.eq_of_beq_eq_true hb ▸ hx)

theorem mem_hidden {all : List Oper} {p i j d : Nat} (hj : j < i) (hp : p.testBit j = false) (hd : dstOf all j = some d) : d ∈ hidden all p i := by
  unfold hidden
  exact List.mem_filterMap.2 ⟨j, List.mem_range.2 hj, by rw [hp]; exact hd⟩
end
end Go.Proofs.Ytgcndhlbhlnplaa.Ev

/- A region that draws its order: all orders. Over any program. -/
namespace Go.Proofs.Ytgcndhlbhlnplaa.Ev
open Go.RowKit

/-! ### What stands ahead -/
theorem predsAll_pre : ∀ (l : List Oper) (acc : List Nat), ∃ r, predsAll l acc = acc ++ r ∧ r.length = l.length
  | [], acc => ⟨[], by simp [predsAll], rfl⟩
  | o :: l, acc => by
    obtain ⟨r, h1, h2⟩ := predsAll_pre l (acc ++ [preds acc o])
    exact ⟨preds acc o :: r, by simp only [predsAll]; rw [h1]; simp, by simp [h2]⟩
theorem predsAll_get : ∀ (l : List Oper) (acc : List Nat) (j : Nat) (o : Oper), l[j]? = some o → ∃ acc', (predsAll l acc)[acc.length + j]? = some (preds acc' o) ∧ acc' = (predsAll l acc).take (acc.length + j)
  | [], acc, j, o, h => by simp at h
  | o' :: l, acc, j, o, h => by
    obtain ⟨r, h1, h2⟩ := predsAll_pre l (acc ++ [preds acc o'])
    cases j with
    | zero =>
      simp at h
      subst h
      refine ⟨acc, ?_, ?_⟩
      · simp only [predsAll]; rw [h1]; simp
      · simp only [predsAll]; rw [h1]; simp
    | succ j =>
      simp only [List.getElem?_cons_succ] at h
      obtain ⟨acc', h3, h4⟩ := predsAll_get l (acc ++ [preds acc o']) j o h
      refine ⟨acc', ?_, ?_⟩
      · simp only [predsAll]
        rw [show acc.length + (j + 1) = (acc ++ [preds acc o']).length + j by simp; omega]
        exact h3
      · rw [h4]
        simp only [predsAll]
        congr 1
        simp; omega
theorem preds_bit (before : List Nat) (o : Oper) (t : Nat) (h : (preds before o).testBit t = true) : ∃ e ∈ o.after.toList, Region.binds .any e = true ∧ (t = e.on ∨ (before.getD e.on 0).testBit t = true) := by
  have key : ∀ (l : List Edge) (s : Nat), (l.foldl (fun s e => bif Region.binds .any e then Nat.lor s (Nat.lor (2 ^ e.on) (before.getD e.on 0)) else s) s).testBit t = true → s.testBit t = true ∨ ∃ e ∈ l, Region.binds .any e = true ∧ (t = e.on ∨ (before.getD e.on 0).testBit t = true) := by
    intro l
    induction l with
    | nil => intro s h; exact .inl h
    | cons e l ih =>
      intro s h
      rw [List.foldl_cons] at h
      rcases ih _ h with h | ⟨e', h1, h2⟩
      · cases hb : Region.binds .any e <;> rw [hb] at h
        · exact .inl h
        · simp only [cond_true] at h
          have h' : (s ||| (2 ^ e.on ||| before.getD e.on 0)).testBit t = true := h
          rw [Nat.testBit_or, Nat.testBit_or, Bool.or_eq_true, Bool.or_eq_true] at h'
          rcases h' with h | h | h
          · exact .inl h
          · refine .inr ⟨e, by simp, hb, .inl ?_⟩
            rw [Nat.testBit_two_pow] at h
            exact (of_decide_eq_true h).symm
          · exact .inr ⟨e, by simp, hb, .inr h⟩
      · exact .inr ⟨e', by simp [h1], h2⟩
  rcases key _ 0 h with h | h
  · simp at h
  · exact h
theorem edges_lt : ∀ {l : List Oper} {i : Nat}, edgesOk i l = true → ∀ (j : Nat) (o : Oper), l[j]? = some o → ∀ e ∈ o.after.toList, Region.binds .any e = true → e.on < i + j
  | [], i, h, j, o, hj, e, he, hb => by simp at hj
  | o' :: l, i, h, j, o, hj, e, he, hb => by
    simp only [edgesOk, Bool.and_eq_true, List.all_eq_true] at h
    cases j with
    | zero =>
      simp at hj
      subst hj
      have := h.1 e he
      rw [hb] at this
      simp only [Bool.not_true, Bool.false_or] at this
      have := Nat.le_of_ble_eq_true this
      omega
    | succ j =>
      simp only [List.getElem?_cons_succ] at hj
      have := edges_lt h.2 j o hj e he hb
      omega
theorem tail_bit {n p : Nat} (h : tailOk n p = true) {j : Nat} (hj : j < n) : p.testBit j = true := by
  have e := Nat.eq_of_beq_eq_true h
  have h1 : (p % 2 ^ n).testBit j = true := by rw [e, Nat.testBit_two_pow_sub_one]; simp [hj]
  rw [Nat.testBit_mod_two_pow] at h1
  simp only [Bool.and_eq_true] at h1
  exact h1.2
theorem freeN_tail : ∀ (ps : List Nat) (i j p : Nat), freeN ps i ≤ j → ps[j]? = some p → tailOk (i + j) p = true
  | [], i, j, p, _, h => by simp at h
  | q :: ps, i, j, p, hj, h => by
    simp only [freeN] at hj
    cases hf : freeN ps (i + 1) with
    | zero =>
      rw [hf] at hj
      simp only [] at hj
      cases j with
      | zero =>
        simp at h
        subst h
        cases ht : tailOk i q <;> rw [ht] at hj
        · simp at hj
      | succ j =>
        simp only [List.getElem?_cons_succ] at h
        have := freeN_tail ps (i + 1) j p (by omega) h
        rw [show i + (j + 1) = i + 1 + j by omega]; exact this
    | succ n =>
      rw [hf] at hj
      simp only [] at hj
      cases j with
      | zero => omega
      | succ j =>
        simp only [List.getElem?_cons_succ] at h
        have := freeN_tail ps (i + 1) j p (by omega) h
        rw [show i + (j + 1) = i + 1 + j by omega]; exact this

/-- A set of operations that holds with each what it waits for. -/
def Closed (all : List Oper) (D : Nat → Prop) : Prop := ∀ j o, D j → all[j]? = some o → ∀ e ∈ o.after.toList, Region.binds .any e = true → D e.on
theorem preds_in {all : List Oper} (hE : edgesOk 0 all = true) {D : Nat → Prop} (hD : Closed all D) : ∀ (j : Nat) (o : Oper), all[j]? = some o → (∀ e ∈ o.after.toList, Region.binds .any e = true → D e.on) → ∀ t, ((predsAll all []).getD j 0).testBit t = true → D t := by
  intro j
  induction j using Nat.strongRecOn with
  | _ j ih =>
    intro o ho he t ht
    obtain ⟨acc', h1, h2⟩ := predsAll_get all [] j o ho
    rw [List.length_nil, Nat.zero_add] at h1 h2
    rw [List.getD_eq_getElem?_getD, h1] at ht
    obtain ⟨e, e1, e2, e3⟩ := preds_bit acc' o t ht
    rcases e3 with rfl | e3
    · exact he e e1 e2
    · have hlt := edges_lt hE j o ho e e1 e2
      rw [Nat.zero_add] at hlt
      rw [h2, List.getD_eq_getElem?_getD, List.getElem?_take_of_lt hlt, ← List.getD_eq_getElem?_getD] at e3
      have hol : e.on < all.length := Nat.lt_trans hlt (List.getElem?_eq_some_iff.1 ho).1
      have hdon := he e e1 e2
      exact ih e.on hlt all[e.on] (List.getElem?_eq_getElem hol) (fun e' h3 h4 => hD e.on _ hdon (List.getElem?_eq_getElem hol) e' h3 h4) t e3

section
variable {P : Program} {E : Env} {w0 : World} {ok O : Nat → Prop} {σ σ' : St} {tm : Array Value} {w w' : World} {M : Map} {a : Act}

theorem lk_of_mem {α : Type} : ∀ {l : List (Nat × α)} {x : Nat × α}, x ∈ l → ∃ v, lk l x.1 = some v
  | (k, v) :: l, x, h => by
    rw [lk_cons]
    by_cases hk : k = x.1
    · exact ⟨v, by rw [if_pos hk]⟩
    · rw [if_neg hk]
      rcases List.mem_cons.1 h with rfl | h
      · exact absurd rfl hk
      · exact lk_of_mem h
theorem fresh_id {d : Nat} {nr : List (Nat × Row)} {nb : List (Nat × Bx)} (h : σ.fresh d nr nb = true) : (∀ i, (∃ r, lk nr i = some r) → i / 32 = d) ∧ (∀ i, (∃ r, lk nb i = some r) → i = d) := by
  simp only [St.fresh, Bool.and_eq_true, List.all_eq_true] at h
  refine ⟨fun i ⟨r, hr⟩ => Nat.eq_of_beq_eq_true (h.1.1 _ (lk_mem hr)).1.1, fun i hi => ?_⟩
  obtain ⟨r, hr⟩ := hi
  have h2 := h.2
  split at h2
  · cases hr
  · rename_i x
    simp only [Bool.and_eq_true] at h2
    rw [show ([x] : List (Nat × Bx)) = [(x.1, x.2)] from rfl] at hr
    rw [(lk_one hr).1]
    exact Nat.eq_of_beq_eq_true h2.1.1
  · cases h2
theorem fresh_move {d : Nat} {nr : List (Nat × Row)} {nb : List (Nat × Bx)} (h : σ.fresh d nr nb = true) (hr : ∀ i, (∃ r, lk nr i = some r) → lk σ'.rows i = none) (hb : ∀ i, (∃ r, lk nb i = some r) → lk σ'.bx i = none) : σ'.fresh d nr nb = true := by
  simp only [St.fresh, Bool.and_eq_true, List.all_eq_true] at h ⊢
  refine ⟨⟨fun x hx => ⟨(h.1.1 x hx).1, ?_⟩, h.1.2⟩, ?_⟩
  · rw [hr x.1 (lk_of_mem hx)]
  · have h2 := h.2
    split at h2
    · rfl
    · rename_i x
      simp only [Bool.and_eq_true] at h2 ⊢
      exact ⟨h2.1, by rw [hb x.1 ⟨x.2, lk_self _ _ _⟩]⟩
    · cases h2

/-- The free part. -/
structure FreeP (E : Env) (all : List Oper) (m : Nat) (base : St) (outs : List Out) : Prop where
  len : outs.length = m
  le : m ≤ all.length
  edges : edgesOk 0 all = true
  dst : ∀ j o, j < m → all[j]? = some o → ∃ d, o.dst = some d ∧ lk base.sl d = none
  dist : ∀ i j o o' d, i < m → j < m → all[i]? = some o → all[j]? = some o' → o.dst = some d → o'.dst = some d → i = j
  at_ : ∀ j, j < m → ∃ σj o x, all[j]? = some o ∧ outs[j]? = some x ∧ TrOK E all ((predsAll all []).getD j 0) j σj o x ∧ Chars base all outs j σj

theorem TrOK.ids {all : List Oper} {p i : Nat} {o : Oper} {x : Out} (h : TrOK E all p i σ o x) : (∀ k, (∃ r, lk x.2.1 k = some r) → k / 32 = slotOf o) ∧ (∀ k, (∃ r, lk x.2.2 k = some r) → k = slotOf o) := by
  rcases h with ⟨_, _, h⟩ | ⟨_, rfl⟩
  · exact fresh_id h
  · exact ⟨fun k ⟨r, hr⟩ => (nomatch hr), fun k ⟨r, hr⟩ => (nomatch hr)⟩
theorem FreeP.ids {all : List Oper} {m : Nat} {base : St} {outs : List Out} (F : FreeP E all m base outs) {t : Nat} {x : Out} (ht : t < m) (hx : outs[t]? = some x) :
    ∃ o d, all[t]? = some o ∧ o.dst = some d ∧ (∀ k, (∃ r, lk x.2.1 k = some r) → k / 32 = d) ∧ (∀ k, (∃ r, lk x.2.2 k = some r) → k = d) := by
  obtain ⟨σj, o, x', h1, h2, h3, _⟩ := F.at_ t ht
  rw [hx] at h2
  cases h2
  obtain ⟨d, hd, _⟩ := F.dst t o ht h1
  have := h3.ids
  have hs : slotOf o = d := by simp [slotOf, hd]
  rw [hs] at this
  exact ⟨o, d, h1, hd, this.1, this.2⟩

theorem hidden_le {all : List Oper} {m : Nat} {base : St} {outs : List Out} (F : FreeP E all m base outs) {D : Nat → Prop} {σD σj : St} (hD : Done base all outs D σD) {j p : Nat} (hj : j < m) (hp : ∀ t, p.testBit t = true → D t) (hc : Chars base all outs j σj) : Le (σj.hide (hidden all p j)) σD := by
  have tin : ∀ t o d, t < j → all[t]? = some o → o.dst = some d → d ∉ hidden all p j → D t := by
    intro t o d ht ho hd hn
    cases hb : p.testBit t with
    | true => exact hp t hb
    | false => exact absurd (mem_hidden ht hb (by simp [dstOf, ho, hd])) hn
  constructor
  · intro s v h
    have h : lk (σj.sl.filter (fun x => !((hidden all p j).any (Nat.beq x.1)))) s = some v := h
    rw [lk_filter (fun n => !((hidden all p j).any (Nat.beq n)))] at h
    split at h
    · rename_i hs
      have hs := not_any.1 hs
      rcases hc.sl s v h with h | ⟨t, o, x, ht, ho, hx, hd, rfl⟩
      · exact hD.sl s v h
      · exact hD.out t o x s (tin t o s ht ho hd hs) ho hx hd
    · cases h
  · intro s v h
    have h : lk (σj.rows.filter (fun x => !((hidden all p j).any (Nat.beq (x.1 / 32))))) s = some v := h
    rw [lk_filter (fun n => !((hidden all p j).any (Nat.beq (n / 32))))] at h
    split at h
    · rename_i hs
      have hs := not_any.1 hs
      rcases hc.rows s v h with h | ⟨t, x, ht, hx, h⟩
      · exact hD.rows s v h
      · obtain ⟨o, d, ho, hd, h1, _⟩ := F.ids (Nat.lt_trans ht hj) hx
        exact hD.rowsO t x s v (tin t o d ht ho hd (by rw [← h1 s ⟨v, h⟩]; exact hs)) hx h
    · cases h
  · intro s v h
    have h : lk (σj.bx.filter (fun x => !((hidden all p j).any (Nat.beq x.1)))) s = some v := h
    rw [lk_filter (fun n => !((hidden all p j).any (Nat.beq n)))] at h
    split at h
    · rename_i hs
      have hs := not_any.1 hs
      rcases hc.bx s v h with h | ⟨t, x, ht, hx, h⟩
      · exact hD.bx s v h
      · obtain ⟨o, d, ho, hd, _, h1⟩ := F.ids (Nat.lt_trans ht hj) hx
        exact hD.bxO t x s v (tin t o d ht ho hd (by rw [← h1 s ⟨v, h⟩]; exact hs)) hx h
    · cases h

/-- One more has run. -/
theorem Done.step {all : List Oper} {m : Nat} {base : St} {outs : List Out} (F : FreeP E all m base outs) {D : Nat → Prop} {σD : St} (hD : Done base all outs D σD) (hDm : ∀ t, D t → t < m) {j : Nat} (hj : j < m) {o : Oper} {x : Out} (ho : all[j]? = some o) (hx : outs[j]? = some x)
    (hfr : (∀ k, (∃ r, lk x.2.1 k = some r) → lk σD.rows k = none) ∧ (∀ k, (∃ r, lk x.2.2 k = some r) → lk σD.bx k = none)) : Done base all outs (fun t => t = j ∨ D t) (outApp σD o x) := by
  obtain ⟨d, hd, hb⟩ := F.dst j o hj ho
  have hsl : ∀ s, lk (outApp σD o x).sl s = if d = s then some x.1 else lk σD.sl s := by
    intro s
    unfold outApp
    rw [hd]
    simp only [St.put, lk_cons]
    rfl
  have hrow : ∀ k, lk (outApp σD o x).rows k = (lk x.2.1 k).or (lk σD.rows k) := fun k => by rw [outApp_rows, lk_append]
  have hbx : ∀ k, lk (outApp σD o x).bx k = (lk x.2.2 k).or (lk σD.bx k) := fun k => by rw [outApp_bx, lk_append]
  have orR : ∀ k r, lk σD.rows k = some r → lk (outApp σD o x).rows k = some r := by
    intro k r h
    rw [hrow]
    cases hq : lk x.2.1 k with
    | some r' => have := hfr.1 k ⟨r', hq⟩; rw [h] at this; cases this
    | none => exact h
  have orB : ∀ k r, lk σD.bx k = some r → lk (outApp σD o x).bx k = some r := by
    intro k r h
    rw [hbx]
    cases hq : lk x.2.2 k with
    | some r' => have := hfr.2 k ⟨r', hq⟩; rw [h] at this; cases this
    | none => exact h
  constructor
  · intro s v h
    rw [hsl]
    split
    · rename_i e; subst e; rw [hb] at h; cases h
    · exact hD.sl s v h
  · intro t o' x' d' ht ho' hx' hd'
    rw [hsl]
    by_cases htj : t = j
    · subst htj
      rw [ho] at ho'
      rw [hx] at hx'
      cases ho'; cases hx'
      rw [hd] at hd'
      cases hd'
      rw [if_pos rfl]
    · rcases ht with h | ht
      · exact absurd h htj
      · rw [if_neg (fun e => htj (F.dist t j o' o d' (hDm t ht) hj ho' ho hd' (by rw [hd, e])))]
        exact hD.out t o' x' d' ht ho' hx' hd'
  · exact fun k r h => orR k r (hD.rows k r h)
  · intro t x' k r ht hx' h
    by_cases htj : t = j
    · subst htj
      rw [hx] at hx'
      cases hx'
      rw [hrow, h]; rfl
    · rcases ht with h2 | ht
      · exact absurd h2 htj
      · exact orR k r (hD.rowsO t x' k r ht hx' h)
  · exact fun k r h => orB k r (hD.bx k r h)
  · intro t x' k r ht hx' h
    by_cases htj : t = j
    · subst htj
      rw [hx] at hx'
      cases hx'
      rw [hbx, h]; rfl
    · rcases ht with h2 | ht
      · exact absurd h2 htj
      · exact orB k r (hD.bxO t x' k r ht hx' h)
  · intro k r h
    rw [hrow] at h
    cases hq : lk x.2.1 k with
    | some r' => exact .inr ⟨j, x, r', .inl rfl, hx, hq⟩
    | none =>
      rw [hq] at h
      rcases hD.rowsB k r h with h | ⟨t, x', r', ht, h1, h2⟩
      · exact .inl h
      · exact .inr ⟨t, x', r', .inr ht, h1, h2⟩
  · intro k r h
    rw [hbx] at h
    cases hq : lk x.2.2 k with
    | some r' => exact .inr ⟨j, x, r', .inl rfl, hx, hq⟩
    | none =>
      rw [hq] at h
      rcases hD.bxB k r h with h | ⟨t, x', r', ht, h1, h2⟩
      · exact .inl h
      · exact .inr ⟨t, x', r', .inr ht, h1, h2⟩

/-- An operation of the free part, whenever it comes. -/
theorem free_step [Glob P] {all : List Oper} {m n : Nat} {base : St} {outs : List Out} (T : tabOK P E.ti = true) (EQ : EqOK P E) (S : SpecOK P E w0 O) (F : FreeP E all m base outs) {D : Nat → Prop} {σD : St} (hD : Done base all outs D σD) (hDm : ∀ t, D t → t < m) {j : Nat} (hj : j < m) (hnj : ¬ D j)
    (hp : ∀ t, ((predsAll all []).getD j 0).testBit t = true → D t) (hB : ∀ o ∈ all, ∀ d, o.dst = some d → d < n) {a : Act} {w : World} {M : Map} (R : Rep E w0 ok O σD a.tmps w M) (hn : a.tmps.size = n) (hd : a.defers = []) {K : Act → World → Prop} {Q : Exit → Act → World → Prop}
    (hK : ∀ σ' a' w' M', Done base all outs (fun t => t = j ∨ D t) σ' → Rep E w0 ok O σ' a'.tmps w' M' → a'.tmps.size = n → a'.defers = [] → K a' w') : wpOp P all.toArray Q j K a w := by
  obtain ⟨σj, o, x, ho, hx, htr, hc⟩ := F.at_ j hj
  have hle := hidden_le F hD hj hp hc
  have hin : inB o.dst a.tmps := fun d hd => by rw [hn]; exact hB o (List.mem_of_getElem? ho) d hd
  have hoa : all.toArray[j]? = some o := by simpa using ho
  have hfr : (∀ k, (∃ r, lk x.2.1 k = some r) → lk σD.rows k = none) ∧ (∀ k, (∃ r, lk x.2.2 k = some r) → lk σD.bx k = none) := by
    obtain ⟨o', d, ho', hd', i1, i2⟩ := F.ids hj hx
    rcases htr with ⟨_, _, hf⟩ | ⟨_, rfl⟩
    · refine ⟨fun k hk => ?_, fun k hk => ?_⟩
      · cases hq : lk σD.rows k with
        | none => rfl
        | some r =>
          exfalso
          rcases hD.rowsB k r hq with h | ⟨t, x', r', ht, h1, h2⟩
          · obtain ⟨r2, hr2⟩ := hc.rows' k ⟨r, h⟩
            rw [fresh_rows hf hk] at hr2; cases hr2
          · obtain ⟨o2, d2, ho2, hd2, i3, _⟩ := F.ids (hDm t ht) h1
            have e : d2 = d := (i3 k ⟨r', h2⟩).symm.trans (i1 k hk)
            subst e
            have := F.dist t j o2 o' d2 (hDm t ht) hj ho2 ho' hd2 hd'
            exact hnj (this ▸ ht)
      · cases hq : lk σD.bx k with
        | none => rfl
        | some r =>
          exfalso
          rcases hD.bxB k r hq with h | ⟨t, x', r', ht, h1, h2⟩
          · obtain ⟨r2, hr2⟩ := hc.bx' k ⟨r, h⟩
            rw [fresh_boxes hf hk] at hr2; cases hr2
          · obtain ⟨o2, d2, ho2, hd2, _, i3⟩ := F.ids (hDm t ht) h1
            have e : d2 = d := (i3 k ⟨r', h2⟩).symm.trans (i2 k hk)
            subst e
            have := F.dist t j o2 o' d2 (hDm t ht) hj ho2 ho' hd2 hd'
            exact hnj (this ▸ ht)
    · exact ⟨fun k ⟨r, hr⟩ => (nomatch hr), fun k ⟨r, hr⟩ => (nomatch hr)⟩
  have hnext := Done.step F hD hDm hj ho hx hfr
  have wm : ∀ {b : Bool}, wantC all o (σj.hide (hidden all ((predsAll all []).getD j 0) j)) (some true) (some false) = some b → wantC all o σD (some true) (some false) = some b := by
    intro b h
    unfold wantC at h ⊢
    cases hg : o.guard with
    | none => rw [hg] at h; exact h
    | some gw =>
      rw [hg] at h
      simp only [] at h ⊢
      cases hdd : dstOf all gw.1 with
      | none => rw [hdd] at h; cases h
      | some dd =>
        rw [hdd] at h
        simp only [] at h ⊢
        cases hq : lk (σj.hide (hidden all ((predsAll all []).getD j 0) j)).sl dd with
        | none => rw [hq] at h; cases h
        | some v => rw [hle.sl dd v hq]; rw [hq] at h; exact h
  unfold wpOp
  rw [hoa]
  simp only []
  rcases htr with ⟨hw, hpu, hf⟩ | ⟨hw, rfl⟩
  · rcases wantC_sound R (wm hw) with ⟨hw1, _⟩ | ⟨_, h2⟩
    · rw [if_pos hw1]
      have hpu' : pureN E σD o = some x := pureC_mono hle hpu
      have hf' : σD.fresh (slotOf o) x.2.1 x.2.2 = true := fresh_move hf hfr.1 hfr.2
      refine .inl (pure_sound R rfl T EQ S hpu' hf' K Q fun v w' M' X => ?_)
      refine hK _ _ w' M' hnext ?_ (by rw [put_tmps, putT_size, hn]) (by rw [put_defers]; exact hd)
      rw [put_tmps]
      exact R.add hf' X hin
    · cases h2
  · rcases wantC_sound R (wm hw) with ⟨_, h2⟩ | ⟨hw1, _⟩
    · cases h2
    · rw [if_neg (by rw [hw1]; simp)]
      refine hK _ _ w M hnext ?_ (by rw [put_tmps, putT_size, hn]) (by rw [put_defers]; exact hd)
      rw [put_tmps]
      exact R.putSkip hin
end
end Go.Proofs.Ytgcndhlbhlnplaa.Ev

/- Literals of flat elements become rows of their own. Over any program. -/
namespace Go.Proofs.Ytgcndhlbhlnplaa.Ev
open Go.RowKit

section
variable {P : Program} {E : Env} {w0 : World} {ok O : Nat → Prop} {σ σ' : St} {tm : Array Value} {w w' : World} {M M' : Map} {a : Act}

theorem chainV_sound {t : Ty} (hf : t.flat = true) : ∀ {s : SV} {cs : List Value} {xs : List t.T}, RepB w0 ok M s cs → chainV t s = some xs → ∃ ls : List (L t), ls.map (erase t) = xs ∧ ls.flatMap (cellsL t) = cs ∧ ls.length = s.count
  | .nl, cs, xs, h, hx => by
    simp only [RepB] at h
    subst h
    cases hx
    exact ⟨[], rfl, rfl, rfl⟩
  | .cns a b, cs, xs, h, hx => by
    obtain ⟨c1, c2, rfl, h1, h2⟩ := h
    simp only [chainV] at hx
    split at hx
    · rename_i u x ys hy
      split at hx
      · rename_i e
        subst e
        cases hx
        obtain ⟨ls, g1, g2, g3⟩ := chainV_sound hf h2 hy
        obtain ⟨l, k1, k2, _⟩ := flat_L hf h1
        exact ⟨l :: ls, by simp [g1, k1], by simp [g2, k2], by simp [g3, SV.count]⟩
      · cases hx
    · cases hx
  | .val _ _, _, _, _, hx => by cases hx
  | .ref _ _, _, _, _, hx => by cases hx
  | .vw _ _ _, _, _, _, hx => by cases hx
  | .ls _, _, _, _, hx => by cases hx
  | .st _, _, _, _, hx => by cases hx
  | .pr _ _, _, _, _, hx => by cases hx
  | .bp _ _ _, _, _, _, hx => by cases hx
  | .ep _ _ _ _ _, _, _, _, hx => by cases hx
  | .lp _ _, _, _, _, hx => by cases hx
  | .clo _ _, _, _, _, hx => by cases hx
  | .tup _, _, _, _, hx => by cases hx
  | .no, _, _, _, hx => by cases hx
  | .un, _, _, _, hx => by cases hx

theorem lsRef_form (j i : Nat) (s : SV) : (s.lsRef j i).isSt = s.isSt ∧ (s.lsRef j i).count = s.count ∧ (s.lsRef j i).isCh = s.isCh ∧ (∀ k ∈ (s.lsRef j i).roots, k ∈ s.roots ∨ (k = i ∧ j ∈ s.boxes)) ∧ ∀ k ∈ (s.lsRef j i).boxes, k ∈ s.boxes ∧ k ≠ j := by
  induction s with
  | st s ih => exact ⟨rfl, rfl, rfl, ih.2.2.2.1, ih.2.2.2.2⟩
  | tup s ih => exact ⟨rfl, rfl, rfl, ih.2.2.2.1, ih.2.2.2.2⟩
  | clo g s ih => exact ⟨rfl, rfl, rfl, ih.2.2.2.1, ih.2.2.2.2⟩
  | pr a b iha ihb =>
    refine ⟨rfl, rfl, rfl, fun k hk => ?_, fun k hk => ?_⟩
    · simp only [SV.lsRef, SV.roots, SV.boxes, List.mem_append] at hk ⊢
      rcases hk with hk | hk
      · exact (iha.2.2.2.1 k hk).elim (fun h => .inl (.inl h)) fun h => .inr ⟨h.1, .inl h.2⟩
      · exact (ihb.2.2.2.1 k hk).elim (fun h => .inl (.inr h)) fun h => .inr ⟨h.1, .inr h.2⟩
    · simp only [SV.lsRef, SV.boxes, List.mem_append] at hk ⊢
      rcases hk with hk | hk
      · exact ⟨.inl (iha.2.2.2.2 k hk).1, (iha.2.2.2.2 k hk).2⟩
      · exact ⟨.inr (ihb.2.2.2.2 k hk).1, (ihb.2.2.2.2 k hk).2⟩
  | cns a b iha ihb =>
    refine ⟨rfl, by simp [SV.lsRef, SV.count, ihb.2.1], rfl, fun k hk => ?_, fun k hk => ?_⟩
    · simp only [SV.lsRef, SV.roots, SV.boxes, List.mem_append] at hk ⊢
      rcases hk with hk | hk
      · exact (iha.2.2.2.1 k hk).elim (fun h => .inl (.inl h)) fun h => .inr ⟨h.1, .inl h.2⟩
      · exact (ihb.2.2.2.1 k hk).elim (fun h => .inl (.inr h)) fun h => .inr ⟨h.1, .inr h.2⟩
    · simp only [SV.lsRef, SV.boxes, List.mem_append] at hk ⊢
      rcases hk with hk | hk
      · exact ⟨.inl (iha.2.2.2.2 k hk).1, (iha.2.2.2.2 k hk).2⟩
      · exact ⟨.inr (ihb.2.2.2.2 k hk).1, (ihb.2.2.2.2 k hk).2⟩
  | ls k =>
    simp only [SV.lsRef]
    cases h : Nat.beq j k
    · refine ⟨rfl, rfl, rfl, by simp [SV.roots], fun q hq => ?_⟩
      simp only [cond_false, SV.boxes, List.mem_singleton] at hq ⊢
      subst hq
      exact ⟨rfl, fun e => beq_ne h e.symm⟩
    · have := Nat.eq_of_beq_eq_true h
      subst this
      exact ⟨rfl, rfl, rfl, by simp [SV.roots, SV.boxes], by simp [SV.boxes]⟩
  | lp k n =>
    simp only [SV.lsRef]
    cases h : Nat.beq j k
    · refine ⟨rfl, rfl, rfl, by simp [SV.roots], fun q hq => ?_⟩
      simp only [cond_false, SV.boxes, List.mem_singleton] at hq ⊢
      subst hq
      exact ⟨rfl, fun e => beq_ne h e.symm⟩
    · exact ⟨rfl, rfl, rfl, by simp [SV.roots], by simp [SV.boxes]⟩
  | bp k p o =>
    simp only [SV.lsRef]
    cases h : Nat.beq j k
    · refine ⟨rfl, rfl, rfl, by simp [SV.roots], fun q hq => ?_⟩
      simp only [cond_false, SV.boxes, List.mem_singleton] at hq ⊢
      subst hq
      exact ⟨rfl, fun e => beq_ne h e.symm⟩
    · exact ⟨rfl, rfl, rfl, by simp [SV.roots], by simp [SV.boxes]⟩
  | _ => exact ⟨rfl, rfl, rfl, fun k hk => .inl hk, fun k hk => absurd hk (by simp [SV.lsRef, SV.boxes])⟩
/-- The row stands where the literal stood. -/
structure Turned (M M' : Map) (j i : Nat) : Prop where
  loc : ∀ k, k ≠ i → M'.loc k = M.loc k
  blk : ∀ k, M'.blk k = M.blk k ∧ M'.bn k = M.bn k ∧ M'.bw k = M.bw k
  row : ∃ e t, ∃ l : L (.sl e t), M'.loc i = ⟨.sl e t, l⟩ ∧ l.1 = some (M.blk j) ∧ l.2.1 = M.bn j ∧ l.2.2.length = M.bn j
theorem RepV_turn {j i : Nat} (H : Turned M M' j i) : ∀ {s : SV} {cs : List Value}, (∀ k ∈ s.roots, k ≠ i) → RepV w0 ok M s cs → RepV w0 ok M' (s.lsRef j i) cs
  | .val t x, cs, _, h => h
  | .ref k p, cs, hr, h => by
    obtain ⟨e, t, l, h1, h2⟩ := h
    exact ⟨e, t, l, by rw [H.loc k (hr k (by simp [SV.roots]))]; exact h1, h2⟩
  | .vw k lo n, cs, hr, h => by
    obtain ⟨e, t, l, h1, h2⟩ := h
    exact ⟨e, t, l, by rw [H.loc k (hr k (by simp [SV.roots]))]; exact h1, h2⟩
  | .ls k, cs, hr, h => by
    simp only [RepV] at h
    subst h
    simp only [SV.lsRef]
    cases hb : Nat.beq j k
    · show [_] = [_]
      rw [(H.blk k).1, (H.blk k).2.1]
    · have := Nat.eq_of_beq_eq_true hb
      subst this
      obtain ⟨e, t, l, h1, h2, h3, h4⟩ := H.row
      refine ⟨e, t, l, (congrArg (fun z : Loc => subL z.1 z.2 []) h1).trans rfl, ?_⟩
      simp only [cellsL, h2, h3, h4, Option.map_some]
  | .st s, cs, hr, h => RepV_turn H (s := s) hr h
  | .pr a b, cs, hr, h => by
    obtain ⟨c1, c2, rfl, h1, h2⟩ := h
    exact ⟨c1, c2, rfl, RepV_turn H (fun k hk => hr k (by simp [SV.roots, hk])) h1, RepV_turn H (fun k hk => hr k (by simp [SV.roots, hk])) h2⟩
  | .bp k p o, cs, hr, h => by
    simp only [RepV] at h
    subst h
    simp only [SV.lsRef]
    cases hb : Nat.beq j k
    · show [_] = [_]
      rw [(H.blk k).1]
    · exact ⟨_, rfl, rfl⟩
  | .ep k p n f o, cs, hr, h => by
    obtain ⟨e, t, l, g, h1, h2⟩ := h
    exact ⟨e, t, l, g, by rw [H.loc k (hr k (by simp [SV.roots]))]; exact h1, h2⟩
  | .lp k n, cs, hr, h => by
    obtain ⟨h1, rfl⟩ := h
    simp only [SV.lsRef]
    cases hb : Nat.beq j k
    · refine ⟨by rw [(H.blk k).2.1]; exact h1, ?_⟩
      rw [(H.blk k).1, (H.blk k).2.2]
    · exact ⟨_, rfl, rfl⟩
  | .clo g c, cs, hr, h => by
    obtain ⟨caps, rfl, h1⟩ := h
    exact ⟨caps, rfl, RepV_turn H (s := c) hr h1⟩
  | .no, cs, hr, h => h
  | .un, cs, hr, h => h
  | .tup _, _, _, h => h.elim
  | .cns _ _, _, _, h => h.elim
  | .nl, _, _, h => h.elim
theorem RepB_turn {j i : Nat} (H : Turned M M' j i) {s : SV} : ∀ {cs : List Value}, (∀ k ∈ s.roots, k ≠ i) → RepB w0 ok M s cs → RepB w0 ok M' (s.lsRef j i) cs := by
  induction s with
  | cns a b iha ihb =>
    intro cs hr h
    obtain ⟨c1, c2, rfl, h1, h2⟩ := h
    exact ⟨c1, c2, rfl, RepV_turn H (fun k hk => hr k (by simp [SV.roots, hk])) h1, ihb (fun k hk => hr k (by simp [SV.roots, hk])) h2⟩
  | nl => intro cs hr h; exact h
  | tup s _ => intro cs hr h; exact h.elim
  | ls k => intro cs hr h; exact RepB_of_V (RepV_turn H (s := .ls k) hr h)
  | val t x => intro cs hr h; exact RepB_of_V (RepV_turn H (s := .val t x) hr h)
  | ref k p => intro cs hr h; exact RepB_of_V (RepV_turn H (s := .ref k p) hr h)
  | vw k a b => intro cs hr h; exact RepB_of_V (RepV_turn H (s := .vw k a b) hr h)
  | st s _ => intro cs hr h; exact RepB_of_V (RepV_turn H (s := .st s) hr h)
  | pr a b _ _ => intro cs hr h; exact RepB_of_V (RepV_turn H (s := .pr a b) hr h)
  | bp k p o => intro cs hr h; exact RepB_of_V (RepV_turn H (s := .bp k p o) hr h)
  | ep k p n f o => intro cs hr h; exact RepB_of_V (RepV_turn H (s := .ep k p n f o) hr h)
  | lp k n => intro cs hr h; exact RepB_of_V (RepV_turn H (s := .lp k n) hr h)
  | clo g s _ => intro cs hr h; exact RepB_of_V (RepV_turn H (s := .clo g s) hr h)
  | no => intro cs hr h; exact h
  | un => intro cs hr h; exact h
theorem RepT_turn {j i : Nat} (H : Turned M M' j i) {s : SV} : ∀ {vs : List Value}, (∀ k ∈ s.roots, k ≠ i) → RepT w0 ok M s vs → RepT w0 ok M' (s.lsRef j i) vs := by
  induction s with
  | cns a b iha ihb =>
    intro vs hr h
    obtain ⟨v, vs', rfl, ⟨cs, h1, h3⟩, h2⟩ := h
    exact ⟨v, vs', rfl, ⟨cs, RepV_turn H (fun k hk => hr k (by simp [SV.roots, hk])) h1, by rw [(lsRef_form j i a).1]; exact h3⟩, ihb (fun k hk => hr k (by simp [SV.roots, hk])) h2⟩
  | nl => intro vs hr h; exact h
  | _ => intro vs hr h; exact h.elim
theorem RepS_turn {j i : Nat} (H : Turned M M' j i) {s : SV} {v : Value} (hr : ∀ k ∈ s.roots, k ≠ i) (h : RepS w0 ok M s v) : RepS w0 ok M' (s.lsRef j i) v := by
  rcases RepS_cases h with rfl | ⟨c, vs, rfl, rfl, h1⟩ | ⟨cs, h1, h2⟩
  · trivial
  · exact ⟨vs, rfl, RepT_turn H hr h1⟩
  · refine RepS_of (RepV_turn H hr h1) ?_
    unfold Whole
    rw [(lsRef_form j i s).1]
    exact h2
/-- Other contents for the same places. -/
theorem Rep.recontent (R : Rep E w0 ok O σ tm w M) {sl : List (Nat × SV)} {bx : List (Nat × Bx)} (hs : ∀ s v, lk sl s = some v → (∃ u, tm[s]? = some u ∧ RepS w0 ok M v u) ∧ Live ⟨sl, σ.rows, bx⟩ v)
    (hb : ∀ i b, lk bx i = some b → (∃ b0, lk σ.bx i = some b0) ∧ (∃ cs, RepB w0 ok M b.c cs ∧ w.heap[M.blk i]? = some (.cells cs.toArray b.ty (0, 0)) ∧ (b.c.isCh = true → M.bn i = b.c.count ∧ M.bw i = (E.tyOf b.ty).sz ∧ b.c.count ≤ 16777216)) ∧ Live ⟨sl, σ.rows, bx⟩ b.c) : Rep E w0 ok O ⟨sl, σ.rows, bx⟩ tm w M where
  slots := fun s v h => (hs s v h).1
  rows := R.rows
  boxes := fun i b h => (hb i b h).2.1
  rr := R.rr
  bb := fun i j hij ⟨b, h⟩ ⟨b', h'⟩ => R.bb i j hij (hb i b h).1 (hb j b' h').1
  rb := fun i j hi ⟨b, h⟩ => R.rb i j hi (hb j b h).1
  ownR := R.ownR
  ownB := fun i ⟨b, h⟩ => R.ownB i (hb i b h).1
  okB := R.okB
  liveS := fun s v h => (hs s v h).2
  liveB := fun i b h => (hb i b h).2.2
  kept := R.kept
  pin := R.pin
  pinB := fun i hi ⟨b, h⟩ => R.pinB i hi (hb i b h).1
theorem turn_sound (R : Rep E w0 ok O σ tm w M) {j : Nat} {b : Bx} (hb : lk σ.bx j = some b) (hch : b.c.isCh = true) {i : Nat} (hi : i < PIN) (hn : lk σ.rows i = none) {t : Ty} {ls : List (L t)} {cs : List Value} (hsz : t.sz = (E.tyOf b.ty).sz) (hlen : ls.length = b.c.count)
    (hcs : RepB w0 ok M b.c cs) (hw : w.heap[M.blk j]? = some (.cells cs.toArray b.ty (0, 0))) (hfc : ls.flatMap (cellsL t) = cs) (hh : ∀ y ∈ ls, holds (Rd w0 ok) w t y ∧ plain w t y) (hbl : ls.flatMap (blocksL t) = []) :
    ∃ M', Rep E w0 ok O (σ.turn j i ⟨b.ty, t, ls.map (erase t), false⟩) tm w M' := by
  obtain ⟨cs2, h1, h2, h3⟩ := R.boxes j b hb
  obtain ⟨n1, n2, n3⟩ := h3 hch
  have hlc : cs.length = ls.length * t.sz := by rw [← hfc, flat_len]
  let l : L (.sl b.ty t) := (some (M.blk j), M.bn j, ls)
  have hbs : blocksL (.sl b.ty t) l = [M.blk j] := by simp only [l, blocksL, hbl, Option.toList_some, List.append_nil]
  have hholds : holds (Rd w0 ok) w (.sl b.ty t) l := by
    refine ⟨⟨cs.toArray, (0, 0), hw, ?_, ?_, ?_, ?_, .inl rfl⟩, fun y hy => (hh y hy).1⟩
    · simp only [l, hlen, n1]; exact Nat.le_refl _
    · simp only [l, n1, maxLen]; omega
    · simp only [l, n1, List.size_toArray, hlc, hlen]; exact Nat.le_refl _
    · simp only [l]
      rw [← hlc, List.take_length, hfc]
  have hplain : plain w (.sl b.ty t) l := by
    refine ⟨fun q hq => ?_, fun y hy => (hh y hy).2⟩
    cases hq
    exact ⟨_, _, hw, by simp only [l, List.size_toArray, hlc, hlen, n1]⟩
  have hdropno : lk (σ.dropB j).rows i = none := hn
  have hfree : Free w0 ok O (σ.dropB j) M (blocksL (.sl b.ty t) l) := by
    rw [hbs]
    refine ⟨by simp, fun k hk => ?_, fun i' hi' k hk hk2 => ?_, fun i' hi' hk => ?_⟩
    · simp only [List.mem_singleton] at hk; subst hk; exact R.ownB j ⟨b, hb⟩
    · simp only [List.mem_singleton] at hk; subst hk; exact R.rb i' j hi' ⟨b, hb⟩ hk2
    · simp only [List.mem_singleton] at hk
      have hne := dropB_gone hi'
      obtain ⟨b1, hb1⟩ := hi'
      exact R.bb i' j hne ((Sub.dropB σ j).bx i' b1 hb1) ⟨b, hb⟩ hk
  have R2 := (R.dropB j).addOwn i hi l hholds hplain hfree
  have hT : Turned M (updM M i ⟨.sl b.ty t, l⟩) j i := ⟨fun k hk => updF_ne _ _ hk, fun k => ⟨rfl, rfl, rfl⟩, ⟨b.ty, t, l, updF_same _ _ _, rfl, rfl, by rw [n1]; exact hlen⟩⟩
  have hrows : ((σ.dropB j).addRow i ⟨b.ty, t, erase (.sl b.ty t) l, false⟩).rows = (i, (⟨b.ty, t, ls.map (erase t), false⟩ : Row)) :: σ.rows := by
    unfold St.addRow
    simp only [hdropno]
    rfl
  have hbx : ((σ.dropB j).addRow i ⟨b.ty, t, erase (.sl b.ty t) l, false⟩).bx = mapV (fun b : Bx => (⟨b.ty, b.c.killB j⟩ : Bx)) (rm σ.bx j) := by
    unfold St.addRow
    simp only [hdropno]
    rfl
  have rootsNe : ∀ u, Live σ u → ∀ k ∈ u.roots, k ≠ i := fun u hu k hk e => by
    obtain ⟨r, hr⟩ := hu.rows k hk
    rw [e, hn] at hr; cases hr
  have lkb : ∀ k b', lk (mapV (fun b : Bx => (⟨b.ty, b.c.lsRef j i⟩ : Bx)) (rm σ.bx j)) k = some b' → k ≠ j ∧ ∃ b0, lk σ.bx k = some b0 ∧ b' = ⟨b0.ty, b0.c.lsRef j i⟩ := by
    intro k b' h
    rw [lk_mapV, lk_rm] at h
    obtain ⟨b0, h0, rfl⟩ := Option.map_eq_some_iff.1 h
    split at h0
    · cases h0
    · rename_i hne; exact ⟨fun e => hne e.symm, b0, h0, rfl⟩
  have live : ∀ u, Live σ u → Live ⟨mapV (SV.lsRef j i) σ.sl, ((σ.dropB j).addRow i ⟨b.ty, t, erase (.sl b.ty t) l, false⟩).rows, mapV (fun b : Bx => (⟨b.ty, b.c.lsRef j i⟩ : Bx)) (rm σ.bx j)⟩ (u.lsRef j i) := by
    intro u hu
    obtain ⟨_, _, _, g4, g5⟩ := lsRef_form j i u
    refine ⟨fun k hk => ?_, fun k hk => ?_⟩
    · show ∃ r, lk (St.addRow _ _ _).rows k = some r
      rw [hrows, lk_cons]
      rcases g4 k hk with h | ⟨rfl, _⟩
      · split
        · exact ⟨_, rfl⟩
        · exact hu.rows k h
      · rw [if_pos rfl]; exact ⟨_, rfl⟩
    · obtain ⟨h1, h2⟩ := g5 k hk
      obtain ⟨b0, h0⟩ := hu.boxes k h1
      exact ⟨_, by show lk (mapV _ (rm σ.bx j)) k = _; rw [lk_mapV, lk_rm, if_neg (fun e => h2 e.symm), h0]; rfl⟩
  have hst : σ.turn j i ⟨b.ty, t, ls.map (erase t), false⟩ = ⟨mapV (SV.lsRef j i) σ.sl, ((σ.dropB j).addRow i ⟨b.ty, t, erase (.sl b.ty t) l, false⟩).rows, mapV (fun b : Bx => (⟨b.ty, b.c.lsRef j i⟩ : Bx)) (rm σ.bx j)⟩ := by
    unfold St.turn
    rw [hrows]
  rw [hst]
  refine ⟨_, R2.recontent (fun s v h => ?_) (fun k b' h => ?_)⟩
  · rw [lk_mapV] at h
    obtain ⟨u, hu, rfl⟩ := Option.map_eq_some_iff.1 h
    obtain ⟨z, z1, z2⟩ := R.slots s u hu
    exact ⟨⟨z, z1, RepS_turn hT (rootsNe u (R.liveS s u hu)) z2⟩, live u (R.liveS s u hu)⟩
  · obtain ⟨hne, b0, h0, rfl⟩ := lkb k b' h
    obtain ⟨cs', q1, q2, q3⟩ := R.boxes k b0 h0
    obtain ⟨_, f2, f3, _, _⟩ := lsRef_form j i b0.c
    refine ⟨⟨⟨b0.ty, b0.c.killB j⟩, by rw [hbx, lk_mapV, lk_rm, if_neg (fun e => hne e.symm), h0]; rfl⟩, ⟨cs', RepB_turn hT (rootsNe b0.c (R.liveB k b0 h0)) q1, q2, fun hc => ?_⟩, live b0.c (R.liveB k b0 h0)⟩
    rw [f3] at hc
    rw [f2]
    exact q3 hc
theorem prom_sound (R : Rep E w0 ok O σ tm w M) (j : Nat) : ∃ M', Rep E w0 ok O (σ.prom E j) tm w M' := by
  unfold St.prom
  split
  · rename_i b hb
    cases hk : (b.c.isCh && (Nat.blt (promId j) PIN && (match lk σ.rows (promId j) with | none => true | some _ => false)))
    · exact ⟨M, R⟩
    · simp only [cond_true]
      simp only [Bool.and_eq_true] at hk
      obtain ⟨k1, k2, k3⟩ := hk
      have hn : lk σ.rows (promId j) = none := by
        split at k3
        · assumption
        · cases k3
      obtain ⟨cs, h1, h2, h3⟩ := R.boxes j b hb
      cases hf : (E.tyOf b.ty).flat
      · simp only [cond_false]
        cases hc : Nat.beq b.c.count 0
        · exact ⟨M, R⟩
        · have hc := Nat.eq_of_beq_eq_true hc
          have hcs : cs = [] := by
            cases hbc : b.c with
            | nl => rw [hbc] at h1; exact h1
            | cns x y => rw [hbc] at hc; simp [SV.count] at hc
            | _ => rw [hbc] at k1; cases k1
          subst hcs
          simp only [cond_true]
          have fin : ∀ t : Ty, t.sz = (E.tyOf b.ty).sz → ∃ M', Rep E w0 ok O (σ.turn j (promId j) ⟨b.ty, t, [], false⟩) tm w M' := fun t ht =>
            turn_sound R hb k1 (Nat.le_of_ble_eq_true k2) hn (t := t) (ls := []) ht (by simp [hc]) h1 h2 rfl (by simp) rfl
          cases E.rdm
          · exact fin _ rfl
          · exact fin _ (strip_sz _)
      · simp only [cond_true]
        split
        · rename_i xs hx
          obtain ⟨ls, g1, g2, g3⟩ := chainV_sound hf h1 hx
          rw [← g1]
          exact turn_sound R hb k1 (Nat.le_of_ble_eq_true k2) hn rfl g3 h1 h2 g2 (fun y _ => flat_ho y hf _ w) (List.flatMap_eq_nil_iff.2 fun y _ => flat_bl y hf)
        · exact ⟨M, R⟩
  · exact ⟨M, R⟩
theorem promAll_sound (R : Rep E w0 ok O σ tm w M) : ∃ M', Rep E w0 ok O (σ.promAll E) tm w M' := by
  unfold St.promAll
  generalize σ.bx.filterMap (fun x => bif x.2.c.isCh then some x.1 else none) = l
  induction l generalizing σ M with
  | nil => exact ⟨M, R⟩
  | cons j l ih =>
    obtain ⟨M1, R1⟩ := prom_sound R j
    exact ih R1
end
end Go.Proofs.Ytgcndhlbhlnplaa.Ev

/- A region that draws its order: whole. Over any program. -/
namespace Go.Proofs.Ytgcndhlbhlnplaa.Ev
open Go.RowKit

theorem pigeon : ∀ (n : Nat) (l : List Nat), l.Nodup → (∀ x ∈ l, x < n) → l.length ≤ n
  | 0, l, _, h => by
    cases l with
    | nil => exact Nat.le_refl _
    | cons a l => exact absurd (h a (by simp)) (Nat.not_lt_zero _)
  | n + 1, l, hn, h => by
    have h1 := pigeon n (l.erase n) (hn.erase n) (fun x hx => by
      have := (hn.mem_erase_iff).1 hx
      have h2 := h x this.2
      have := this.1
      omega)
    by_cases hm : n ∈ l
    · rw [List.length_erase_of_mem hm] at h1; omega
    · rw [List.erase_of_not_mem hm] at h1; omega
theorem nodup_inj : ∀ {l : List Nat}, l.Nodup → ∀ {i j : Nat} (hi : i < l.length) (hj : j < l.length), l[i] = l[j] → i = j
  | [], _, i, j, hi, _, _ => by simp at hi
  | a :: l, hn, 0, 0, _, _, _ => rfl
  | a :: l, hn, 0, j + 1, hi, hj, h => by
    have h1 := (List.nodup_cons.1 hn).1
    simp only [List.getElem_cons_zero, List.getElem_cons_succ] at h
    exact absurd (h ▸ List.getElem_mem _) h1
  | a :: l, hn, i + 1, 0, hi, hj, h => by
    have h1 := (List.nodup_cons.1 hn).1
    simp only [List.getElem_cons_zero, List.getElem_cons_succ] at h
    exact absurd (h ▸ List.getElem_mem _) h1
  | a :: l, hn, i + 1, j + 1, hi, hj, h => by
    have h2 := (List.nodup_cons.1 hn).2
    simp only [List.getElem_cons_succ] at h
    rw [nodup_inj h2 (by simpa using hi) (by simpa using hj) h]
theorem least {D : Nat → Prop} : ∀ t, ¬ D t → ∃ s, s ≤ t ∧ ¬ D s ∧ ∀ u, u < s → D u := by
  intro t
  induction t using Nat.strongRecOn with
  | _ t ih =>
    intro ht
    by_cases h : ∀ u, u < t → D u
    · exact ⟨t, Nat.le_refl _, ht, h⟩
    · have : ∃ u, u < t ∧ ¬ D u := Classical.byContradiction fun hne => h fun u hu => Classical.byContradiction fun hd => hne ⟨u, hu, hd⟩
      obtain ⟨u, hu, hd⟩ := this
      obtain ⟨s, h1, h2, h3⟩ := ih u hu hd
      exact ⟨s, by omega, h2, h3⟩

theorem ready_iff {all : List Oper} {L : Array Bool} {i : Nat} : i ∈ Region.ready .any all.toArray L ↔ i < all.length ∧ L.getD i true = false ∧ ∀ o, all[i]? = some o → ∀ e ∈ o.after.toList, Region.binds .any e = true → L.getD e.on false = true := by
  unfold Region.ready
  rw [List.mem_filter, List.mem_range]
  simp only [List.size_toArray, Bool.and_eq_true, Bool.not_eq_true']
  refine and_congr_right fun hi => and_congr_right fun _ => ?_
  have ho : all.toArray[i]? = some all[i] := by simp [hi]
  rw [ho]
  simp only [Option.map_some, Option.getD_some]
  constructor
  · intro h o ho' e he hb
    rw [List.getElem?_eq_getElem hi] at ho'
    cases ho'
    have := Array.all_eq_true_iff_forall_mem.1 h e (Array.mem_toList_iff.1 he)
    rw [hb] at this
    simpa using this
  · intro h
    refine Array.all_eq_true_iff_forall_mem.2 fun e he => ?_
    cases hb : Region.binds .any e with
    | false => rfl
    | true =>
      have := h all[i] (List.getElem?_eq_getElem hi) e (Array.mem_toList_iff.2 he) hb
      rw [this]; rfl
theorem getD_flip {L : Array Bool} {i : Nat} (h : i < L.size) : L.getD i true = L.getD i false := by
  simp [Array.getD_eq_getD_getElem?, h]
theorem getD_set {L : Array Bool} {i t : Nat} (h : i < L.size) : (L.setIfInBounds i true).getD t false = true ↔ t = i ∨ L.getD t false = true := by
  simp only [Array.getD_eq_getD_getElem?]
  by_cases hti : i = t
  · subst hti; simp [h]
  · rw [Array.getElem?_setIfInBounds_ne hti]
    constructor
    · exact fun h => .inr h
    · rintro (h | h)
      · exact absurd h.symm hti
      · exact h

section
variable {P : Program} {E : Env} {w0 : World} {ok O : Nat → Prop} {σ σ' : St} {tm : Array Value} {w w' : World} {M : Map} {a : Act}

theorem tail_any [Glob P] {R0 : Type} {res : R0} (T : tabOK P E.ti = true) (EQ : EqOK P E) {all : List Oper} {m n : Nat} (hE : edgesOk 0 all = true) (hT : ∀ j, m ≤ j → j < all.length → tailOk j ((predsAll all []).getD j 0) = true)
    (hB : ∀ o ∈ all, ∀ d, o.dst = some d → d < n) {k : St → Option R0} {Q : Exit → Act → World → Prop} :
    ∀ (fuel : Nat) {w0 : World} {ok O : Nat → Prop}, SpecOK P E w0 O → KeptOK P E w0 O → Then E w0 ok O res n k (Q .normal) → ∀ (i : Nat) (L : Array Bool) (σ : St) (a : Act) (w : World) (M : Map), L.size = all.length → (∀ t, L.getD t false = true ↔ t < i) → m ≤ i → i ≤ all.length → all.length ≤ fuel + i → opsC E all i (all.drop i) σ k = some res →
      Rep E w0 ok O σ a.tmps w M → a.tmps.size = n → a.defers = [] → wpAny P .any all.toArray Q fuel L a w := by
  have hdone : ∀ (i : Nat) (L : Array Bool), L.size = all.length → (∀ t, L.getD t false = true ↔ t < i) → i = all.length → Region.ready .any all.toArray L = [] := by
    intro i L hs hL hi
    refine List.eq_nil_iff_forall_not_mem.2 fun j hj => ?_
    obtain ⟨h1, h2, _⟩ := ready_iff.1 hj
    rw [getD_flip (by omega)] at h2
    have := (hL j).2 (by omega)
    rw [this] at h2; cases h2
  intro fuel
  induction fuel with
  | zero =>
    intro w0 ok O S K hQ i L σ a w M hs hL hm hi hf h R hn hd
    have he : i = all.length := by omega
    subst he
    rw [List.drop_length] at h
    exact ⟨hdone _ L hs hL rfl, hQ.at σ a w M h R hn hd⟩
  | succ fuel ih =>
    intro w0 ok O S K hQ i L σ a w M hs hL hm hi hf h R hn hd
    rcases Nat.lt_or_ge i all.length with hlt | hge
    · have hcl : Closed all (fun t => t < i) := fun j o hj ho e he hb => by
        have := edges_lt hE j o ho e he hb
        omega
      have hmem : i ∈ Region.ready .any all.toArray L := ready_iff.2 ⟨hlt, by
        rw [getD_flip (by omega)]
        cases hq : L.getD i false with
        | false => rfl
        | true => have := (hL i).1 hq; omega, fun o ho e he hb => (hL _).2 (by have := edges_lt hE i o ho e he hb; omega)⟩
      refine ⟨fun h0 => absurd hmem (by rw [h0]; simp), fun i' hi' => ?_⟩
      obtain ⟨r1, r2, r3⟩ := ready_iff.1 hi'
      rw [getD_flip (by omega)] at r2
      have hge' : i ≤ i' := by
        rcases Nat.lt_or_ge i' i with h | h
        · rw [(hL i').2 h] at r2; cases r2
        · exact h
      have : i' = i := by
        rcases Nat.lt_or_ge i i' with h | h
        · exfalso
          have := preds_in hE hcl i' all[i'] (List.getElem?_eq_getElem r1) (fun e he hb => (hL _).1 (r3 _ (List.getElem?_eq_getElem r1) e he hb)) i (tail_bit (hT i' (by omega) r1) h)
          exact Nat.lt_irrefl _ this
        · omega
      subst this
      have hdrop : all.drop i' = all[i'] :: all.drop (i' + 1) := List.drop_eq_getElem_cons hlt
      rw [hdrop] at h
      have hia : all.toArray[i']? = some all[i'] := by simp [hlt]
      have hin : inB all[i'].dst a.tmps := fun d hd => by rw [hn]; exact hB _ (List.getElem_mem hlt) d hd
      have hL' : ∀ t, (L.setIfInBounds i' true).getD t false = true ↔ t < i' + 1 := fun t => by
        rw [getD_set (by omega), hL t]; omega
      unfold wpOp
      rw [hia]
      simp only []
      simp only [opsC] at h
      rcases wantC_sound R h with ⟨hw, h⟩ | ⟨hw, h⟩
      · rw [if_pos hw]
        refine .inl (seqC_sound R T EQ S K hin hd h ?_)
        intro w2 ok2 O2 hc σ1 a1 w1 M1 h1 R1 hn1 hd1
        obtain ⟨σ2, h2, R2⟩ := splitC_sound R1 h1
        exact ih (S.chg hc) (K.chg hc) (hQ.chg hc) (i' + 1) _ σ2 a1 w1 M1 (by simpa using hs) hL' (by omega) (by omega) (by omega) h2 R2 (by rw [hn1, hn]) hd1
      · rw [if_neg (by rw [hw]; simp)]
        refine ih S K hQ (i' + 1) _ _ _ w M (by simpa using hs) hL' (by omega) (by omega) (by omega) h ?_ (by rw [put_tmps, putT_size, hn]) (by rw [put_defers]; exact hd)
        rw [put_tmps]
        exact R.putSkip hin
    · have he : i = all.length := by omega
      subst he
      rw [List.drop_length] at h
      have h0 := hdone _ L hs hL rfl
      exact ⟨fun _ => hQ.at σ a w M h R hn hd, fun i' hi' => by rw [h0] at hi'; cases hi'⟩

theorem free_any [Glob P] {R0 : Type} {res : R0} (T : tabOK P E.ti = true) (EQ : EqOK P E) (S : SpecOK P E w0 O) (K : KeptOK P E w0 O) {all : List Oper} {m n : Nat} {base σ' : St} {outs : List Out} (F : FreeP E all m base outs) (hc : Chars base all outs m σ')
    (hT : ∀ j, m ≤ j → j < all.length → tailOk j ((predsAll all []).getD j 0) = true) (hB : ∀ o ∈ all, ∀ d, o.dst = some d → d < n) {k : St → Option R0} {Q : Exit → Act → World → Prop} (hQ : Then E w0 ok O res n k (Q .normal))
    (hk : opsC E all m (all.drop m) (σ'.promAll E) k = some res) :
    ∀ (fuel : Nat) (ds : List Nat) (L : Array Bool) (σD : St) (a : Act) (w : World) (M : Map), L.size = all.length → (∀ t, L.getD t false = true ↔ t ∈ ds) → ds.Nodup → (∀ t ∈ ds, t < m) → all.length ≤ fuel + ds.length → Closed all (· ∈ ds) → Done base all outs (· ∈ ds) σD →
      Rep E w0 ok O σD a.tmps w M → a.tmps.size = n → a.defers = [] → wpAny P .any all.toArray Q fuel L a w := by
  intro fuel
  induction fuel with
  | zero =>
    intro ds L σD a w M hs hL hnd hdm hf hcl hD R hn hd
    by_cases hall : ∀ t, t < m → t ∈ ds
    · have hiff : ∀ t, L.getD t false = true ↔ t < m := fun t => (hL t).trans ⟨hdm t, hall t⟩
      obtain ⟨M2, R2⟩ := promAll_sound (final_rep F hc hD hall R)
      exact tail_any T EQ F.edges hT hB 0 S K hQ m L _ a w M2 hs hiff (Nat.le_refl _) F.le (by
        have := pigeon m ds hnd hdm
        omega) hk R2 hn hd
    · exfalso
      have : ∃ t, t < m ∧ t ∉ ds := Classical.byContradiction fun hne => hall fun t ht => Classical.byContradiction fun h => hne ⟨t, ht, h⟩
      obtain ⟨t, ht, hn'⟩ := this
      have := pigeon m (t :: ds) (List.nodup_cons.2 ⟨hn', hnd⟩) (fun x hx => by rcases List.mem_cons.1 hx with rfl | hx; exact ht; exact hdm x hx)
      have := F.le
      simp only [List.length_cons] at *
      omega
  | succ fuel ih =>
    intro ds L σD a w M hs hL hnd hdm hf hcl hD R hn hd
    by_cases hall : ∀ t, t < m → t ∈ ds
    · have hiff : ∀ t, L.getD t false = true ↔ t < m := fun t => (hL t).trans ⟨hdm t, hall t⟩
      obtain ⟨M2, R2⟩ := promAll_sound (final_rep F hc hD hall R)
      exact tail_any T EQ F.edges hT hB (fuel + 1) S K hQ m L _ a w M2 hs hiff (Nat.le_refl _) F.le (by
        have := pigeon m ds hnd hdm
        omega) hk R2 hn hd
    · have : ∃ t, t < m ∧ t ∉ ds := Classical.byContradiction fun hne => hall fun t ht => Classical.byContradiction fun h => hne ⟨t, ht, h⟩
      obtain ⟨t, ht, hnt⟩ := this
      obtain ⟨s, s1, s2, s3⟩ := least (D := (· ∈ ds)) t hnt
      have hsm : s < m := by omega
      have hsl : s < all.length := Nat.lt_of_lt_of_le hsm F.le
      have hmem : s ∈ Region.ready .any all.toArray L := ready_iff.2 ⟨hsl, by
        rw [getD_flip (by omega)]
        cases hq : L.getD s false with
        | false => rfl
        | true => exact absurd ((hL s).1 hq) s2, fun o ho e he hb => (hL _).2 (s3 _ (by have := edges_lt F.edges s o ho e he hb; omega))⟩
      refine ⟨fun h0 => absurd hmem (by rw [h0]; simp), fun i hi => ?_⟩
      obtain ⟨r1, r2, r3⟩ := ready_iff.1 hi
      rw [getD_flip (by omega)] at r2
      have hni : i ∉ ds := fun h => by rw [(hL i).2 h] at r2; cases r2
      have hp := preds_in F.edges hcl i all[i] (List.getElem?_eq_getElem r1) (fun e he hb => (hL _).1 (r3 _ (List.getElem?_eq_getElem r1) e he hb))
      rcases Nat.lt_or_ge i m with him | him
      · refine free_step T EQ S F hD hdm him hni hp hB R hn hd fun σ1 a1 w1 M1 hD1 R1 hn1 hd1 => ?_
        have hD2 : Done base all outs (· ∈ i :: ds) σ1 := by
          have e : (fun t => t = i ∨ t ∈ ds) = (· ∈ i :: ds) := by funext t; simp
          rw [← e]; exact hD1
        refine ih (i :: ds) _ σ1 a1 w1 M1 (by simpa using hs) (fun t => ?_) (List.nodup_cons.2 ⟨hni, hnd⟩) (fun x hx => ?_) (by simp only [List.length_cons]; omega) ?_ hD2 R1 hn1 hd1
        · rw [getD_set (by omega), hL t]; simp
        · rcases List.mem_cons.1 hx with rfl | hx
          · exact him
          · exact hdm x hx
        · intro j o hj ho e he hb
          rcases List.mem_cons.1 hj with rfl | hj
          · exact List.mem_cons_of_mem _ ((hL _).1 (r3 o ho e he hb))
          · exact List.mem_cons_of_mem _ (hcl j o hj ho e he hb)
      · exact absurd (hp t (tail_bit (hT i him r1) (by omega))) hnt
where
  final_rep {all : List Oper} {m : Nat} {base σ' σD : St} {outs : List Out} {ds : List Nat} {a : Act} {w : World} {M : Map} (F : FreeP E all m base outs) (hc : Chars base all outs m σ') (hD : Done base all outs (· ∈ ds) σD) (hall : ∀ t, t < m → t ∈ ds) (R : Rep E w0 ok O σD a.tmps w M) : Rep E w0 ok O σ' a.tmps w M := by
    have hle : Le σ' σD := by
      constructor
      · intro s v h
        rcases hc.sl s v h with h | ⟨t, o, x, ht, ho, hx, hd, rfl⟩
        · exact hD.sl s v h
        · exact hD.out t o x s (hall t ht) ho hx hd
      · intro s v h
        rcases hc.rows s v h with h | ⟨t, x, ht, hx, h⟩
        · exact hD.rows s v h
        · exact hD.rowsO t x s v (hall t ht) hx h
      · intro s v h
        rcases hc.bx s v h with h | ⟨t, x, ht, hx, h⟩
        · exact hD.bx s v h
        · exact hD.bxO t x s v (hall t ht) hx h
    have live : ∀ u, Live σD u → Live σ' u := fun u hu => ⟨fun i hi => by
      obtain ⟨r, hr⟩ := hu.rows i hi
      rcases hD.rowsB i r hr with h | ⟨j, x, r', hj, hx, h⟩
      · exact hc.rows' i ⟨r, h⟩
      · have hjm : j < m := by
          have := (List.getElem?_eq_some_iff.1 hx).1
          rw [F.len] at this; exact this
        exact hc.rowsO j x i hjm hx ⟨r', h⟩, fun i hi => by
      obtain ⟨r, hr⟩ := hu.boxes i hi
      rcases hD.bxB i r hr with h | ⟨j, x, r', hj, hx, h⟩
      · exact hc.bx' i ⟨r, h⟩
      · have hjm : j < m := by
          have := (List.getElem?_eq_some_iff.1 hx).1
          rw [F.len] at this; exact this
        exact hc.bxO j x i hjm hx ⟨r', h⟩⟩
    exact R.le hle (fun s v h => live v (R.liveS s v (hle.sl s v h))) (fun i b h => live b.c (R.liveB i b (hle.bx i b h)))

theorem dstsOf_get : ∀ {l : List Oper} {ds : List Nat}, dstsOf l = some ds → ds.length = l.length ∧ ∀ (j : Nat) (o : Oper), l[j]? = some o → ∃ d, o.dst = some d ∧ ds[j]? = some d
  | [], ds, h => by cases h; exact ⟨rfl, fun j o hj => by simp at hj⟩
  | o :: l, ds, h => by
    simp only [dstsOf] at h
    split at h
    · rename_i d ds' h1 h2
      cases h
      obtain ⟨e1, e2⟩ := dstsOf_get h2
      refine ⟨by simp [e1], fun j o' hj => ?_⟩
      cases j with
      | zero => simp at hj; subst hj; exact ⟨d, h1, rfl⟩
      | succ j => simp only [List.getElem?_cons_succ] at hj ⊢; exact e2 j o' hj
    · cases h

theorem reg_sound [Glob P] {R0 : Type} {res : R0} (T : tabOK P E.ti = true) (EQ : EqOK P E) (S : SpecOK P E w0 O) (K : KeptOK P E w0 O) (hmix : P.follows .mixedOrders = true) {all : List Oper} {n id : Nat} (hB : ∀ o ∈ all, ∀ d, o.dst = some d → d < n) {k : St → Option R0} {Q : Exit → Act → World → Prop} (hQ : Then E w0 ok O res n k (Q .normal))
    {σ : St} {a : Act} {w : World} {M : Map} (h : regC E all σ k = some res) (R : Rep E w0 ok O σ a.tmps w M) (hn : a.tmps.size = n) (hd : a.defers = []) : (Code.region id all.toArray true).wp P Q a w := by
  unfold regC at h
  simp only [] at h
  split at h
  · rename_i ds hds
    cases hb : (nodupB ds && edgesOk 0 all) <;> rw [hb] at h
    · cases h
    · simp only [Bool.and_eq_true] at hb
      have hnd := nodupB_iff hb.1
      simp only [cond_true] at h
      obtain ⟨outs, σ', g1, g2, g3, g4⟩ := draw_trace _ _ _ _ h
      obtain ⟨t1, t2⟩ := trace_at g1
      obtain ⟨d1, d2⟩ := dstsOf_get hds
      obtain ⟨pr, pr1, pr2⟩ := predsAll_pre all []
      have hlen : (predsAll all []).length = all.length := by rw [pr1]; simp [pr2]
      have hfl : ∀ (ps : List Nat) (i : Nat), freeN ps i ≤ ps.length := by
        intro ps
        induction ps with
        | nil => intro i; exact Nat.le_refl _
        | cons p ps ih =>
          intro i
          simp only [freeN]
          have := ih (i + 1)
          split
          · cases tailOk i p <;> simp
          · rename_i n hn; rw [hn] at this; simp; omega
      have hmle : freeN (predsAll all []) 0 ≤ all.length := by rw [← hlen]; exact hfl _ _
      have hplen : ((predsAll all []).take (freeN (predsAll all []) 0)).length = freeN (predsAll all []) 0 := by rw [List.length_take, hlen]; omega
      rw [hplen] at g2 g3 g4
      rw [Nat.zero_add] at g4
      have hdtake : ds.length = freeN (predsAll all []) 0 := by rw [d1, List.length_take]; omega
      have F : FreeP E all (freeN (predsAll all []) 0) (σ.hideS ds) outs := by
        refine ⟨g2, hmle, hb.2, fun j o hj ho => ?_, fun i j o o' d hi hj ho ho' hd hd' => ?_, fun j hj => ?_⟩
        · obtain ⟨d, e1, e2⟩ := d2 j o (by rw [List.getElem?_take_of_lt hj]; exact ho)
          refine ⟨d, e1, ?_⟩
          show lk (σ.sl.filter (fun x => !(ds.any (Nat.beq x.1)))) d = none
          rw [lk_filter (fun n => !(ds.any (Nat.beq n))), if_neg (fun hh => not_any.1 hh (List.mem_of_getElem? e2))]
        · obtain ⟨d3, e1, e2⟩ := d2 i o (by rw [List.getElem?_take_of_lt hi]; exact ho)
          obtain ⟨d4, e3, e4⟩ := d2 j o' (by rw [List.getElem?_take_of_lt hj]; exact ho')
          rw [hd] at e1; rw [hd'] at e3
          cases e1; cases e3
          have hi' : i < ds.length := by omega
          have hj' : j < ds.length := by omega
          have := (List.getElem?_eq_some_iff.1 e2).2.trans (List.getElem?_eq_some_iff.1 e4).2.symm
          exact nodup_inj hnd hi' hj' this
        · obtain ⟨σj, o, x, p, h1, h2, h3, h4, h5⟩ := t1 j (by rw [g2]; exact hj)
          rw [Nat.zero_add] at h4
          have : (predsAll all []).getD j 0 = p := by
            rw [List.getElem?_take_of_lt hj] at h3
            rw [List.getD_eq_getElem?_getD, h3]; rfl
          rw [this]
          exact ⟨σj, o, x, h1, h2, h4, h5⟩
      have hT : ∀ j, freeN (predsAll all []) 0 ≤ j → j < all.length → tailOk j ((predsAll all []).getD j 0) = true := by
        intro j hj hlt
        have hget : (predsAll all [])[j]? = some (predsAll all [])[j] := List.getElem?_eq_getElem (by omega)
        have := freeN_tail (predsAll all []) 0 j _ hj hget
        rw [Nat.zero_add] at this
        rw [List.getD_eq_getElem?_getD, hget]; exact this
      have R1 : Rep E w0 ok O (σ.hideS ds) a.tmps { w with drawn := w.drawn + 1 } M := by
        refine Rep.world (w := w) ?_ rfl rfl rfl rfl
        refine R.fewer (sl := σ.sl.filter (fun x => !(ds.any (Nat.beq x.1)))) fun s v h => ?_
        rw [lk_filter (fun n => !(ds.any (Nat.beq n)))] at h
        split at h
        · exact h
        · cases h
      rw [g2] at t2
      refine wp_region_any hmix ?_
      have hD0 : Done (σ.hideS ds) all outs (· ∈ ([] : List Nat)) (σ.hideS ds) :=
        ⟨fun _ _ h => h, fun j o x d hj => absurd hj (by simp), fun _ _ h => h, fun j x i r hj => absurd hj (by simp), fun _ _ h => h, fun j x i r hj => absurd hj (by simp), fun _ _ h => .inl h, fun _ _ h => .inl h⟩
      exact free_any T EQ S K F t2 hT hB hQ g4 all.toArray.size [] (Array.replicate all.toArray.size false) (σ.hideS ds) a _ M (by simp) (fun t => by
        simp only [Array.getD_eq_getD_getElem?, Array.getElem?_replicate]
        split <;> simp) List.nodup_nil (by simp) (by simp) (fun j o hj => by cases hj) hD0 R1 hn hd
  · cases h
end
end Go.Proofs.Ytgcndhlbhlnplaa.Ev

/- A state brought to a head's form. Over any program. -/
namespace Go.Proofs.Ytgcndhlbhlnplaa.Ev
open Go.RowKit

theorem indexOf_spec : ∀ (l : List Nat) (i n : Nat), i ∈ l → ∃ k, indexOf i l n = n + k ∧ l[k]? = some i
  | [], i, n, h => by cases h
  | j :: l, i, n, h => by
    simp only [indexOf, nbeq]
    by_cases hij : i = j
    · subst hij; exact ⟨0, by simp, rfl⟩
    · simp only [hij, decide_false, cond_false]
      obtain ⟨k, h1, h2⟩ := indexOf_spec l i (n + 1) ((List.mem_cons.1 h).resolve_left hij)
      exact ⟨k + 1, by rw [h1]; omega, h2⟩
theorem mem_dedup : ∀ (l acc : List Nat) (i : Nat), i ∈ l ∨ i ∈ acc → i ∈ dedup l acc
  | [], acc, i, h => by simp [dedup]; simpa using h
  | j :: l, acc, i, h => by
    simp only [dedup]
    cases hb : acc.any (Nat.beq j)
    · simp only [cond_false]
      refine mem_dedup l _ i ?_
      rcases h with h | h
      · rcases List.mem_cons.1 h with rfl | h
        · exact .inr (by simp)
        · exact .inl h
      · exact .inr (by simp [h])
    · simp only [cond_true]
      refine mem_dedup l _ i ?_
      rcases h with h | h
      · rcases List.mem_cons.1 h with rfl | h
        · obtain ⟨x, hx, hb⟩ := List.any_eq_true.1 hb
          rw [Nat.eq_of_beq_eq_true hb]; exact .inr hx
        · exact .inl h
      · exact .inr h
theorem newId_inj {ids : List Nat} (hl : ids.length < 1000) {i j : Nat} (hi : i ∈ ids) (hj : j ∈ ids) (h : newId ids i = newId ids j) : i = j := by
  have key : ∀ i, i ∈ ids → i < PIN → newId ids i < PIN ∧ ∃ k, newId ids i = NB + k ∧ ids[k]? = some i := by
    intro i hi hp
    obtain ⟨k, h1, h2⟩ := indexOf_spec ids i 0 hi
    have hb : Nat.blt i PIN = true := Nat.ble_eq_true_of_le hp
    have e : newId ids i = NB + k := by simp only [newId, hb, cond_true, h1, Nat.zero_add]
    have hk := (List.getElem?_eq_some_iff.1 h2).1
    refine ⟨?_, k, e, h2⟩
    rw [e]; simp only [NB, PIN]; omega
  have big : ∀ i, ¬ i < PIN → newId ids i = i := by
    intro i hp
    have hb : Nat.blt i PIN = false := by
      cases hq : Nat.blt i PIN with
      | false => rfl
      | true => exact absurd (Nat.le_of_ble_eq_true hq) hp
    simp only [newId, hb, cond_false]
  by_cases h1 : i < PIN <;> by_cases h2 : j < PIN
  · obtain ⟨_, k, e1, e2⟩ := key i hi h1
    obtain ⟨_, k', e3, e4⟩ := key j hj h2
    have : k = k' := by omega
    subst this
    rw [e2] at e4
    exact Option.some.inj e4
  · have := (key i hi h1).1
    rw [h, big j h2] at this; omega
  · have := (key j hj h2).1
    rw [← h, big i h1] at this; omega
  · rw [big i h1, big j h2] at h; exact h
theorem newId_pin {ids : List Nat} (hl : ids.length < 1000) {i : Nat} (hi : i ∈ ids) (h : PIN ≤ newId ids i) : newId ids i = i := by
  by_cases h1 : i < PIN
  · exfalso
    obtain ⟨k, h2, h3⟩ := indexOf_spec ids i 0 hi
    have hb : Nat.blt i PIN = true := Nat.ble_eq_true_of_le h1
    have e : newId ids i = NB + k := by simp only [newId, hb, cond_true, h2, Nat.zero_add]
    have hk := (List.getElem?_eq_some_iff.1 h3).1
    rw [e] at h
    simp only [NB, PIN] at h
    omega
  · have hb : Nat.blt i PIN = false := by
      cases hq : Nat.blt i PIN with
      | false => rfl
      | true => exact absurd (Nat.le_of_ble_eq_true hq) h1
    simp only [newId, hb, cond_false]

theorem ren_roots (f : Nat → Nat) (s : SV) : (s.ren f).roots = s.roots.map f ∧ (s.ren f).boxes = s.boxes ∧ (s.ren f).isSt = s.isSt ∧ (s.ren f).count = s.count ∧ (s.ren f).isCh = s.isCh := by
  induction s with
  | st s ih => exact ⟨ih.1, ih.2.1, rfl, rfl, rfl⟩
  | pr a b iha ihb => exact ⟨by simp [SV.ren, SV.roots, iha.1, ihb.1], by simp [SV.ren, SV.boxes, iha.2.1, ihb.2.1], rfl, rfl, rfl⟩
  | clo g s ih => exact ⟨ih.1, ih.2.1, rfl, rfl, rfl⟩
  | tup s ih => exact ⟨ih.1, ih.2.1, rfl, rfl, rfl⟩
  | cns a b iha ihb => exact ⟨by simp [SV.ren, SV.roots, iha.1, ihb.1], by simp [SV.ren, SV.boxes, iha.2.1, ihb.2.1], rfl, by simp [SV.ren, SV.count, ihb.2.2.2.1], rfl⟩
  | val t x => cases t <;> exact ⟨rfl, rfl, rfl, rfl, rfl⟩
  | _ => exact ⟨rfl, rfl, rfl, rfl, rfl⟩

section
variable {P : Program} {E : Env} {w0 : World} {ok O : Nat → Prop} {σ σ' : St} {tm : Array Value} {w w' : World} {M M' : Map} {a : Act}

structure Renm (M M' : Map) (f : Nat → Nat) (ids : List Nat) : Prop where
  loc : ∀ i ∈ ids, M'.loc (f i) = M.loc i
  blk : M'.blk = M.blk
  bn : M'.bn = M.bn
  bw : M'.bw = M.bw
theorem RepV_ren {f : Nat → Nat} {ids : List Nat} (H : Renm M M' f ids) : ∀ {s : SV} {cs : List Value}, (∀ i ∈ s.roots, i ∈ ids) → RepV w0 ok M s cs → RepV w0 ok M' (s.ren f) cs
  | .val t x, cs, h, hs => by cases t <;> exact hs
  | .ref i p, cs, h, hs => by
    have e := H.loc i (h i (by simp [SV.roots]))
    simp only [SV.ren, RepV] at hs ⊢
    rw [e]; exact hs
  | .vw i lo n, cs, h, hs => by
    have e := H.loc i (h i (by simp [SV.roots]))
    simp only [SV.ren, RepV] at hs ⊢
    rw [e]; exact hs
  | .ls i, cs, h, hs => by simp only [SV.ren, RepV, H.blk, H.bn] at hs ⊢; exact hs
  | .st s, cs, h, hs => RepV_ren H (s := s) h hs
  | .pr a b, cs, h, hs => by
    obtain ⟨c1, c2, rfl, h1, h2⟩ := hs
    exact ⟨c1, c2, rfl, RepV_ren H (fun i hi => h i (by simp [SV.roots, hi])) h1, RepV_ren H (fun i hi => h i (by simp [SV.roots, hi])) h2⟩
  | .bp i p o, cs, h, hs => by simp only [SV.ren, RepV, H.blk] at hs ⊢; exact hs
  | .ep i p n f' o, cs, h, hs => by
    have e := H.loc i (h i (by simp [SV.roots]))
    simp only [SV.ren, RepV] at hs ⊢
    rw [e]; exact hs
  | .lp i n, cs, h, hs => by simp only [SV.ren, RepV, H.blk, H.bn, H.bw] at hs ⊢; exact hs
  | .clo g c, cs, h, hs => by
    obtain ⟨caps, rfl, h1⟩ := hs
    exact ⟨caps, rfl, RepV_ren H (s := c) h h1⟩
  | .no, cs, h, hs => hs
  | .un, cs, h, hs => hs
  | .tup _, _, _, h => h.elim
  | .cns _ _, _, _, h => h.elim
  | .nl, _, _, h => h.elim
theorem RepB_ren {f : Nat → Nat} {ids : List Nat} (H : Renm M M' f ids) {s : SV} : ∀ {cs : List Value}, (∀ i ∈ s.roots, i ∈ ids) → RepB w0 ok M s cs → RepB w0 ok M' (s.ren f) cs := by
  induction s with
  | cns a b iha ihb =>
    intro cs h hs
    obtain ⟨c1, c2, rfl, h1, h2⟩ := hs
    exact ⟨c1, c2, rfl, RepV_ren H (fun i hi => h i (by simp [SV.roots, hi])) h1, ihb (fun i hi => h i (by simp [SV.roots, hi])) h2⟩
  | nl => intro cs h hs; exact hs
  | val t x => intro cs h hs; exact RepB_of_V (RepV_ren H h hs)
  | ref i p => intro cs h hs; exact RepB_of_V (RepV_ren H h hs)
  | vw i lo n => intro cs h hs; exact RepB_of_V (RepV_ren H h hs)
  | ls i => intro cs h hs; exact RepB_of_V (RepV_ren H h hs)
  | st s _ => intro cs h hs; exact RepB_of_V (RepV_ren H (s := .st s) h hs)
  | pr a b _ _ => intro cs h hs; exact RepB_of_V (RepV_ren H (s := .pr a b) h hs)
  | bp i p o => intro cs h hs; exact RepB_of_V (RepV_ren H h hs)
  | ep i p n f o => intro cs h hs; exact RepB_of_V (RepV_ren H h hs)
  | lp i n => intro cs h hs; exact RepB_of_V (RepV_ren H h hs)
  | clo g s _ => intro cs h hs; exact RepB_of_V (RepV_ren H (s := .clo g s) h hs)
  | no => intro cs h hs; exact hs
  | un => intro cs h hs; exact hs
  | tup s _ => intro cs h hs; exact hs.elim
theorem RepT_ren {f : Nat → Nat} {ids : List Nat} (H : Renm M M' f ids) {s : SV} : ∀ {vs : List Value}, (∀ i ∈ s.roots, i ∈ ids) → RepT w0 ok M s vs → RepT w0 ok M' (s.ren f) vs := by
  induction s with
  | cns a b iha ihb =>
    intro vs h hs
    obtain ⟨v, vs', rfl, ⟨cs, h1, h3⟩, h2⟩ := hs
    exact ⟨v, vs', rfl, ⟨cs, RepV_ren H (fun i hi => h i (by simp [SV.roots, hi])) h1, by rw [(ren_roots f a).2.2.1]; exact h3⟩, ihb (fun i hi => h i (by simp [SV.roots, hi])) h2⟩
  | nl => intro vs h hs; exact hs
  | _ => intro vs h hs; exact hs.elim
theorem RepS_ren {f : Nat → Nat} {ids : List Nat} (H : Renm M M' f ids) {s : SV} {v : Value} (h : ∀ i ∈ s.roots, i ∈ ids) (hs : RepS w0 ok M s v) : RepS w0 ok M' (s.ren f) v := by
  rcases RepS_cases hs with rfl | ⟨c, vs, rfl, rfl, h1⟩ | ⟨cs, h1, h2⟩
  · trivial
  · exact ⟨vs, rfl, RepT_ren H h h1⟩
  · exact RepS_of (RepV_ren H h h1) (by unfold Whole; rw [(ren_roots f s).2.2.1]; exact h2)

theorem keepRows_lk {rows : List (Nat × Row)} {f : Nat → Nat} : ∀ {l : List Nat} {j : Nat} {r : Row}, lk (keepRows rows f l) j = some r → ∃ i ∈ l, f i = j ∧ lk rows i = some r
  | [], j, r, h => by cases h
  | i :: l, j, r, h => by
    simp only [keepRows] at h
    split at h
    · rename_i r' hr
      rw [lk_cons] at h
      split at h
      · rename_i e; cases h; exact ⟨i, by simp, e, hr⟩
      · obtain ⟨i', h1, h2⟩ := keepRows_lk h; exact ⟨i', by simp [h1], h2⟩
    · obtain ⟨i', h1, h2⟩ := keepRows_lk h; exact ⟨i', by simp [h1], h2⟩
theorem keepRows_ex {rows : List (Nat × Row)} {f : Nat → Nat} : ∀ {l : List Nat} {i : Nat} {r : Row}, i ∈ l → lk rows i = some r → ∃ r', lk (keepRows rows f l) (f i) = some r'
  | [], i, r, h, _ => by cases h
  | j :: l, i, r, h, hr => by
    simp only [keepRows]
    by_cases hij : i = j
    · subst hij; rw [hr]; exact ⟨r, lk_self _ _ _⟩
    · obtain ⟨r', hr'⟩ := keepRows_ex (f := f) ((List.mem_cons.1 h).resolve_left hij) hr
      split
      · rw [lk_cons]; split; exact ⟨_, rfl⟩; exact ⟨r', hr'⟩
      · exact ⟨r', hr'⟩

theorem Rep.ren (R : Rep E w0 ok O σ tm w M) {f : Nat → Nat} {ids : List Nat} (hS : ∀ s v, lk σ.sl s = some v → ∀ i ∈ v.roots, i ∈ ids) (hB : ∀ j b, lk σ.bx j = some b → ∀ i ∈ b.c.roots, i ∈ ids) (hinj : ∀ i j, i ∈ ids → j ∈ ids → f i = f j → i = j) (hpin : ∀ i ∈ ids, PIN ≤ f i → f i = i) :
    ∃ M', Rep E w0 ok O ⟨mapV (SV.ren f) σ.sl, keepRows σ.rows f ids, mapV (fun b => ⟨b.ty, b.c.ren f⟩) σ.bx⟩ tm w M' := by
  let g : Nat → Loc := fun j => match ids.find? (fun i => Nat.beq (f i) j) with | some i => M.loc i | none => M.loc j
  have hg : ∀ i ∈ ids, g (f i) = M.loc i := by
    intro i hi
    show (match ids.find? (fun k => Nat.beq (f k) (f i)) with | some i => M.loc i | none => M.loc (f i)) = M.loc i
    cases hq : ids.find? (fun k => Nat.beq (f k) (f i)) with
    | none => have := List.find?_eq_none.1 hq i hi; simp at this
    | some k =>
      have h1 := List.mem_of_find?_eq_some hq
      have h2 : f k = f i := by have := List.find?_some hq; exact Nat.eq_of_beq_eq_true this
      rw [hinj k i h1 hi h2]
  have H : Renm M { M with loc := g } f ids := ⟨hg, rfl, rfl, rfl⟩
  have hrow : ∀ j, (∃ r, lk (keepRows σ.rows f ids) j = some r) → ∃ i ∈ ids, f i = j ∧ ∃ r, lk σ.rows i = some r := fun j ⟨r, hr⟩ => by
    obtain ⟨i, h1, h2, h3⟩ := keepRows_lk hr; exact ⟨i, h1, h2, r, h3⟩
  have hbx : ∀ j b, lk (mapV (fun b : Bx => (⟨b.ty, b.c.ren f⟩ : Bx)) σ.bx) j = some b → ∃ u, lk σ.bx j = some u ∧ b = ⟨u.ty, u.c.ren f⟩ := fun j b h => by
    rw [lk_mapV] at h
    obtain ⟨u, h1, rfl⟩ := Option.map_eq_some_iff.1 h
    exact ⟨u, h1, rfl⟩
  have hbx1 : ∀ j, (∃ b, lk (mapV (fun b : Bx => (⟨b.ty, b.c.ren f⟩ : Bx)) σ.bx) j = some b) → ∃ b, lk σ.bx j = some b := fun j ⟨b, h⟩ => by
    obtain ⟨u, h1, _⟩ := hbx j b h; exact ⟨u, h1⟩
  have live : ∀ u, Live σ u → (∀ i ∈ u.roots, i ∈ ids) → Live ⟨mapV (SV.ren f) σ.sl, keepRows σ.rows f ids, mapV (fun b => ⟨b.ty, b.c.ren f⟩) σ.bx⟩ (u.ren f) := fun u hu hin => ⟨fun j hj => by
      rw [(ren_roots f u).1] at hj
      obtain ⟨i, hi, rfl⟩ := List.mem_map.1 hj
      obtain ⟨r, hr⟩ := hu.rows i hi
      exact keepRows_ex (hin i hi) hr, fun j hj => by
      rw [(ren_roots f u).2.1] at hj
      obtain ⟨b, hb⟩ := hu.boxes j hj
      exact ⟨_, by show lk (mapV _ σ.bx) j = _; rw [lk_mapV, hb]; rfl⟩⟩
  refine ⟨{ M with loc := g }, ?_⟩
  constructor
  · intro s v h
    have h : lk (mapV (SV.ren f) σ.sl) s = some v := h
    rw [lk_mapV] at h
    obtain ⟨u, h1, rfl⟩ := Option.map_eq_some_iff.1 h
    obtain ⟨z, h2, h3⟩ := R.slots s u h1
    exact ⟨z, h2, RepS_ren H (hS s u h1) h3⟩
  · intro j r h
    obtain ⟨i, h1, rfl, h3⟩ := keepRows_lk h
    obtain ⟨l, e1, e2⟩ := R.rows i r h3
    exact ⟨l, (hg i h1).trans e1, e2⟩
  · intro j b h
    obtain ⟨u, h1, rfl⟩ := hbx j b h
    obtain ⟨cs, h2, h3, h4⟩ := R.boxes j u h1
    exact ⟨cs, RepB_ren H (hB j u h1) h2, h3, fun hc => by
      rw [(ren_roots f u.c).2.2.2.2] at hc
      rw [(ren_roots f u.c).2.2.2.1]
      exact h4 hc⟩
  · intro i j hij hi hj k hk
    obtain ⟨i', i1, rfl, i3⟩ := hrow i hi
    obtain ⟨j', j1, rfl, j3⟩ := hrow j hj
    show k ∉ blocksL (g (f j')).1 (g (f j')).2
    have hk : k ∈ blocksL (g (f i')).1 (g (f i')).2 := hk
    rw [hg i' i1] at hk
    rw [hg j' j1]
    exact R.rr i' j' (fun e => hij (by rw [e])) i3 j3 k hk
  · exact fun i j hij hi hj => R.bb i j hij (hbx1 i hi) (hbx1 j hj)
  · intro i j hi hj
    obtain ⟨i', i1, rfl, i3⟩ := hrow i hi
    show M.blk j ∉ blocksL (g (f i')).1 (g (f i')).2
    rw [hg i' i1]
    exact R.rb i' j i3 (hbx1 j hj)
  · intro i hi k hk
    obtain ⟨i', i1, rfl, i3⟩ := hrow i hi
    have hk : k ∈ blocksL (g (f i')).1 (g (f i')).2 := hk
    rw [hg i' i1] at hk
    exact R.ownR i' i3 k hk
  · exact fun i hi => R.ownB i (hbx1 i hi)
  · exact R.okB
  · intro s v h
    have h : lk (mapV (SV.ren f) σ.sl) s = some v := h
    rw [lk_mapV] at h
    obtain ⟨u, h1, rfl⟩ := Option.map_eq_some_iff.1 h
    exact live u (R.liveS s u h1) (hS s u h1)
  · intro j b h
    obtain ⟨u, h1, rfl⟩ := hbx j b h
    exact live u.c (R.liveB j u h1) (hB j u h1)
  · exact R.kept
  · intro i hi hr
    obtain ⟨i', i1, rfl, i3⟩ := hrow i hr
    show cellsL (g (f i')).1 (g (f i')).2 = _
    rw [hg i' i1]
    have e := hpin i' i1 hi
    rw [e] at hi ⊢
    exact R.pin i' hi i3
  · exact fun i hi hq => R.pinB i hi (hbx1 i hq)

theorem keepSl_lk {sl : List (Nat × SV)} : ∀ {L : List Nat} {s : Nat} {v : SV}, lk (keepSl sl L) s = some v → lk sl s = some v
  | [], s, v, h => by cases h
  | i :: L, s, v, h => by
    simp only [keepSl] at h
    split at h
    · rename_i u hu
      rw [lk_cons] at h
      split at h
      · rename_i e; subst e; cases h; exact hu
      · exact keepSl_lk h
    · exact keepSl_lk h
theorem keepBx_lk {bx : List (Nat × Bx)} : ∀ {L : List Nat} {s : Nat} {v : Bx}, lk (keepBx bx L) s = some v → s ∈ L ∧ lk bx s = some v
  | [], s, v, h => by cases h
  | i :: L, s, v, h => by
    simp only [keepBx] at h
    split at h
    · rename_i u hu
      rw [lk_cons] at h
      split at h
      · rename_i e; subst e; cases h; exact ⟨by simp, hu⟩
      · obtain ⟨h1, h2⟩ := keepBx_lk h; exact ⟨by simp [h1], h2⟩
    · obtain ⟨h1, h2⟩ := keepBx_lk h; exact ⟨by simp [h1], h2⟩
theorem keepBx_ex {bx : List (Nat × Bx)} : ∀ {L : List Nat} {s : Nat} {v : Bx}, s ∈ L → lk bx s = some v → ∃ v', lk (keepBx bx L) s = some v'
  | [], s, v, h, _ => by cases h
  | i :: L, s, v, h, hv => by
    simp only [keepBx]
    by_cases e : s = i
    · subst e; rw [hv]; exact ⟨v, lk_self _ _ _⟩
    · obtain ⟨v', h'⟩ := keepBx_ex ((List.mem_cons.1 h).resolve_left e) hv
      split
      · rw [lk_cons]; split; exact ⟨_, rfl⟩; exact ⟨v', h'⟩
      · exact ⟨v', h'⟩

theorem dropsB_gone (l : List Nat) : ∀ {σ : St} {j : Nat}, (∃ b, lk (l.foldl St.dropB σ).bx j = some b) → j ∉ l ∧ ∃ b, lk σ.bx j = some b := by
  induction l with
  | nil => intro σ j h; exact ⟨by simp, h⟩
  | cons i l ih =>
    intro σ j h
    obtain ⟨h1, b, h2⟩ := ih (σ := σ.dropB i) h
    refine ⟨?_, (Sub.dropB σ i).bx j b h2⟩
    simp only [List.mem_cons, not_or]
    exact ⟨dropB_gone ⟨b, h2⟩, h1⟩

theorem norm_sound (R : Rep E w0 ok O σ tm w M) (L B : List Nat) : ∃ M', Rep E w0 ok O (σ.norm L B) tm w M' := by
  have R1 := R.dropsB (σ.bx.filterMap (fun x => bif B.any (Nat.beq x.1) then none else some x.1))
  have hin : ∀ j, (∃ b, lk ((σ.bx.filterMap (fun x => bif B.any (Nat.beq x.1) then none else some x.1)).foldl St.dropB σ).bx j = some b) → j ∈ B := by
    intro j hj
    obtain ⟨h1, b, h2⟩ := dropsB_gone _ hj
    refine Classical.byContradiction fun hn => h1 (List.mem_filterMap.2 ⟨(j, b), lk_mem h2, ?_⟩)
    have : B.any (Nat.beq j) = false := by
      cases hq : B.any (Nat.beq j) with
      | false => rfl
      | true =>
        obtain ⟨x, hx, hb⟩ := List.any_eq_true.1 hq
        exact absurd (Nat.eq_of_beq_eq_true hb ▸ hx) hn
    simp [this]
  unfold St.norm
  simp only []
  generalize (σ.bx.filterMap (fun x => bif B.any (Nat.beq x.1) then none else some x.1)).foldl St.dropB σ = σ1 at R1 hin ⊢
  have R2 : Rep E w0 ok O ⟨keepSl σ1.sl L, σ1.rows, keepBx σ1.bx B⟩ tm w M := by
    have live : ∀ u, Live σ1 u → Live ⟨keepSl σ1.sl L, σ1.rows, keepBx σ1.bx B⟩ u := fun u hu => ⟨hu.rows, fun i hi => by
      obtain ⟨b, hb⟩ := hu.boxes i hi
      exact keepBx_ex (hin i ⟨b, hb⟩) hb⟩
    exact R1.weaken (fun s v h => ⟨⟨v, keepSl_lk h, .same v⟩, live v (R1.liveS s v (keepSl_lk h))⟩) (fun i r h => h) (fun i b h => ⟨⟨b, (keepBx_lk h).2, rfl, .same _⟩, live b.c (R1.liveB i b (keepBx_lk h).2)⟩)
  generalize hids : dedup (σ1.rows.filterMap (fun x => bif Nat.blt x.1 PIN then none else some x.1) ++ ((keepSl σ1.sl L).flatMap (fun x => x.2.roots) ++ (keepBx σ1.bx B).flatMap (fun x => x.2.c.roots))) [] = ids
  cases hl : Nat.blt ids.length 1000
  · exact ⟨M, R.weaken (fun s v h => by cases h) (fun i r h => by cases h) (fun i b h => by cases h)⟩
  · have hlen : ids.length < 1000 := Nat.le_of_ble_eq_true hl
    exact R2.ren (fun s v h i hi => by
      rw [← hids]
      exact mem_dedup _ _ _ (.inl (List.mem_append.2 (.inr (List.mem_append.2 (.inl (List.mem_flatMap.2 ⟨(s, v), lk_mem h, hi⟩))))))) (fun j b h i hi => by
      rw [← hids]
      exact mem_dedup _ _ _ (.inl (List.mem_append.2 (.inr (List.mem_append.2 (.inr (List.mem_flatMap.2 ⟨(j, b), lk_mem h, hi⟩))))))) (fun i j hi hj h => newId_inj hlen hi hj h) (fun i hi h => newId_pin hlen hi h)
end
end Go.Proofs.Ytgcndhlbhlnplaa.Ev

/- Heads read and filled; code as a whole. Over any program. -/
namespace Go.Proofs.Ytgcndhlbhlnplaa.Ev
open Go.RowKit

section
variable {R0 : Type} {res : R0}

theorem getP_sound : ∀ {p : List PK} {q : List Step} {k : PT p → Option R0}, getP p q k = some res → ∃ x, fillP p x = q ∧ k x = some res
  | [], [], k, h => ⟨(), rfl, h⟩
  | .ix :: p, .ix n :: q, k, h => by
    obtain ⟨x, h1, h2⟩ := getP_sound (p := p) (k := fun x => k (n, x)) h
    exact ⟨(n, x), by simp [fillP, h1], h2⟩
  | .f b :: p, .f c :: q, k, h => by
    simp only [getP] at h
    cases hb : (b == c) <;> rw [hb] at h
    · cases h
    · obtain ⟨x, h1, h2⟩ := getP_sound (p := p) (k := k) h
      exact ⟨x, by simp only [fillP, h1, eq_of_beq hb], h2⟩
  | .u :: p, .u :: q, k, h => by
    obtain ⟨x, h1, h2⟩ := getP_sound (p := p) (k := k) h
    exact ⟨x, by simp [fillP, h1], h2⟩
  | [], _ :: _, k, h => by cases h
  | .ix :: p, [], k, h => by cases h
  | .ix :: p, .f _ :: _, k, h => by cases h
  | .ix :: p, .u :: _, k, h => by cases h
  | .f b :: p, [], k, h => by cases h
  | .f b :: p, .ix _ :: _, k, h => by cases h
  | .f b :: p, .u :: _, k, h => by cases h
  | .u :: p, [], k, h => by cases h
  | .u :: p, .ix _ :: _, k, h => by cases h
  | .u :: p, .f _ :: _, k, h => by cases h
theorem boolsEq_eq : ∀ {l m : List Bool}, boolsEq l m = true → l = m
  | [], [], _ => rfl
  | a :: l, b :: m, h => by
    simp only [boolsEq, Bool.and_eq_true] at h
    rw [eq_of_beq h.1, boolsEq_eq h.2]
  | [], _ :: _, h => by cases h
  | _ :: _, [], h => by cases h
theorem castC_some {u t : Ty} {x : u.T} {k : t.T → Option R0} (h : castC u t x k = some res) : ∃ e : u = t, k (e ▸ x) = some res := by
  unfold castC at h
  split at h
  · rename_i e; exact ⟨e, h⟩
  · cases h
theorem sk_sound : ∀ {s : SK} {v : SV} {k : s.T → Option R0}, s.get v k = some res → ∃ x, s.fill x = v ∧ k x = some res
  | .val t, v, k, h => by
    simp only [SK.get] at h
    split at h
    · obtain ⟨e, h⟩ := castC_some h; subst e; exact ⟨_, rfl, h⟩
    · cases h
  | .ref i p, v, k, h => by
    simp only [SK.get] at h
    split at h
    · rename_i j q
      cases hb : Nat.beq i j <;> rw [hb] at h
      · cases h
      · obtain ⟨x, h1, h2⟩ := getP_sound h
        exact ⟨x, by simp only [SK.fill, h1, Nat.eq_of_beq_eq_true hb], h2⟩
    · cases h
  | .vw i, v, k, h => by
    simp only [SK.get] at h
    split at h
    · rename_i j a b
      cases hb : Nat.beq i j <;> rw [hb] at h
      · cases h
      · exact ⟨(a, b), by simp only [SK.fill, Nat.eq_of_beq_eq_true hb], h⟩
    · cases h
  | .ls i, v, k, h => by
    simp only [SK.get] at h
    split at h
    · rename_i j
      cases hb : Nat.beq i j <;> rw [hb] at h
      · cases h
      · exact ⟨(), by simp only [SK.fill, Nat.eq_of_beq_eq_true hb], h⟩
    · cases h
  | .st s, v, k, h => by
    simp only [SK.get] at h
    split at h
    · obtain ⟨x, h1, h2⟩ := sk_sound (s := s) (k := k) h
      exact ⟨x, by simp only [SK.fill, h1], h2⟩
    · cases h
  | .pr a b, v, k, h => by
    simp only [SK.get] at h
    split at h
    · obtain ⟨x, h1, h⟩ := sk_sound (s := a) h
      obtain ⟨y, h2, h⟩ := sk_sound (s := b) h
      exact ⟨(x, y), by simp only [SK.fill, h1, h2], h⟩
    · cases h
  | .bp i p o, v, k, h => by
    simp only [SK.get] at h
    split at h
    · rename_i j q c
      cases hb : (Nat.beq i j && (boolsEq p q && Nat.beq o c)) <;> rw [hb] at h
      · cases h
      · simp only [Bool.and_eq_true] at hb
        exact ⟨(), by simp only [SK.fill, Nat.eq_of_beq_eq_true hb.1, boolsEq_eq hb.2.1, Nat.eq_of_beq_eq_true hb.2.2], h⟩
    · cases h
  | .clo g s, v, k, h => by
    simp only [SK.get] at h
    split at h
    · rename_i g' w
      cases hb : Nat.beq g g' <;> rw [hb] at h
      · cases h
      · obtain ⟨x, h1, h2⟩ := sk_sound (s := s) (k := k) h
        exact ⟨x, by simp only [SK.fill, h1, Nat.eq_of_beq_eq_true hb], h2⟩
    · cases h
  | .tup s, v, k, h => by
    simp only [SK.get] at h
    split at h
    · obtain ⟨x, h1, h2⟩ := sk_sound (s := s) (k := k) h
      exact ⟨x, by simp only [SK.fill, h1], h2⟩
    · cases h
  | .cns a b, v, k, h => by
    simp only [SK.get] at h
    split at h
    · obtain ⟨x, h1, h⟩ := sk_sound (s := a) h
      obtain ⟨y, h2, h⟩ := sk_sound (s := b) h
      exact ⟨(x, y), by simp only [SK.fill, h1, h2], h⟩
    · cases h
  | .nl, v, k, h => by
    simp only [SK.get] at h
    split at h
    · exact ⟨(), rfl, h⟩
    · cases h
  | .no, v, k, h => by
    simp only [SK.get] at h
    split at h
    · exact ⟨(), rfl, h⟩
    · cases h
  | .un, v, k, h => by
    simp only [SK.get] at h
    split at h
    · exact ⟨(), rfl, h⟩
    · cases h

theorem getSl_sound {σ : List (Nat × SV)} : ∀ {l : List (Nat × SK)} {k : slT l → Option R0}, getSl σ l k = some res → ∃ x, k x = some res ∧ ∀ i v, (i, v) ∈ fillSl l x → lk σ i = some v
  | [], k, h => ⟨(), h, by simp [fillSl]⟩
  | (i, s) :: l, k, h => by
    simp only [getSl] at h
    split at h
    · rename_i v hv
      obtain ⟨x, h1, h⟩ := sk_sound h
      obtain ⟨y, h2, h3⟩ := getSl_sound h
      refine ⟨(x, y), h2, fun j u hj => ?_⟩
      rcases List.mem_cons.1 hj with e | hj
      · cases e; rw [hv, h1]
      · exact h3 j u hj
    · cases h
theorem getRows_sound {σ : List (Nat × Row)} : ∀ {l : List (Nat × TypeId × Ty × Bool)} {k : rowsT l → Option R0}, getRows σ l k = some res → ∃ x, k x = some res ∧ ∀ i v, (i, v) ∈ fillRows l x → lk σ i = some v
  | [], k, h => ⟨(), h, by simp [fillRows]⟩
  | (i, e, t, z) :: l, k, h => by
    simp only [getRows] at h
    split at h
    · rename_i r hr
      cases hb : (Nat.beq r.e e && (r.z == z)) <;> rw [hb] at h
      · cases h
      · simp only [Bool.and_eq_true] at hb
        simp only [cond_true] at h
        obtain ⟨he, h⟩ := castC_some h
        obtain ⟨y, h2, h3⟩ := getRows_sound h
        obtain ⟨re, rt, rx, rz⟩ := r
        have e1 : re = e := Nat.eq_of_beq_eq_true hb.1
        have e2 : rz = z := eq_of_beq hb.2
        have e3 : rt = t := by injection he
        subst e1; subst e2; subst e3
        refine ⟨(rx, y), h2, fun j u hj => ?_⟩
        rcases List.mem_cons.1 hj with q | hj
        · cases q; exact hr
        · exact h3 j u hj
    · cases h
theorem getBx_sound {σ : List (Nat × Bx)} : ∀ {l : List (Nat × TypeId × SK)} {k : bxT l → Option R0}, getBx σ l k = some res → ∃ x, k x = some res ∧ ∀ i v, (i, v) ∈ fillBx l x → lk σ i = some v
  | [], k, h => ⟨(), h, by simp [fillBx]⟩
  | (i, t, s) :: l, k, h => by
    simp only [getBx] at h
    split at h
    · rename_i b hb'
      cases hb : Nat.beq b.ty t <;> rw [hb] at h
      · cases h
      · simp only [cond_true] at h
        obtain ⟨x, h1, h⟩ := sk_sound h
        obtain ⟨y, h2, h3⟩ := getBx_sound h
        refine ⟨(x, y), h2, fun j u hj => ?_⟩
        rcases List.mem_cons.1 hj with q | hj
        · cases q
          rw [hb', h1, ← Nat.eq_of_beq_eq_true hb]
        · exact h3 j u hj
    · cases h

theorem sk_roots : ∀ (s : SK) (x : s.T), (s.fill x).roots = s.roots ∧ (s.fill x).boxes = s.boxes
  | .val t, x => ⟨rfl, rfl⟩
  | .ref i p, x => ⟨rfl, rfl⟩
  | .vw i, x => ⟨rfl, rfl⟩
  | .ls i, x => ⟨rfl, rfl⟩
  | .st s, x => sk_roots s x
  | .pr a b, x => ⟨by simp [SK.fill, SV.roots, SK.roots, (sk_roots a x.1).1, (sk_roots b x.2).1], by simp [SK.fill, SV.boxes, SK.boxes, (sk_roots a x.1).2, (sk_roots b x.2).2]⟩
  | .bp i p o, x => ⟨rfl, rfl⟩
  | .clo g s, x => sk_roots s x
  | .tup s, x => sk_roots s x
  | .cns a b, x => ⟨by simp [SK.fill, SV.roots, SK.roots, (sk_roots a x.1).1, (sk_roots b x.2).1], by simp [SK.fill, SV.boxes, SK.boxes, (sk_roots a x.1).2, (sk_roots b x.2).2]⟩
  | .nl, x => ⟨rfl, rfl⟩
  | .no, x => ⟨rfl, rfl⟩
  | .un, x => ⟨rfl, rfl⟩
theorem fillRows_ex : ∀ {l : List (Nat × TypeId × Ty × Bool)} {x : rowsT l} {i : Nat}, (l.any fun r => Nat.beq r.1 i) = true → ∃ r, lk (fillRows l x) i = some r
  | (j, e, t, z) :: l, x, i, h => by
    simp only [List.any_cons, Bool.or_eq_true] at h
    simp only [fillRows]
    rw [lk_cons]
    split
    · exact ⟨_, rfl⟩
    · rename_i hne
      rcases h with h | h
      · exact absurd (Nat.eq_of_beq_eq_true h) hne
      · exact fillRows_ex h
theorem fillBx_ex : ∀ {l : List (Nat × TypeId × SK)} {x : bxT l} {i : Nat}, (l.any fun r => Nat.beq r.1 i) = true → ∃ r, lk (fillBx l x) i = some r
  | (j, e, t) :: l, x, i, h => by
    simp only [List.any_cons, Bool.or_eq_true] at h
    simp only [fillBx]
    rw [lk_cons]
    split
    · exact ⟨_, rfl⟩
    · rename_i hne
      rcases h with h | h
      · exact absurd (Nat.eq_of_beq_eq_true h) hne
      · exact fillBx_ex h
theorem fillSl_mem : ∀ {l : List (Nat × SK)} {x : slT l} {i : Nat} {v : SV}, (i, v) ∈ fillSl l x → ∃ s y, (i, s) ∈ l ∧ v = SK.fill s y
  | (j, s) :: l, x, i, v, h => by
    rcases List.mem_cons.1 h with e | h
    · cases e; exact ⟨s, x.1, by simp, rfl⟩
    · obtain ⟨s', y, h1, h2⟩ := fillSl_mem h; exact ⟨s', y, by simp [h1], h2⟩
theorem fillBx_mem : ∀ {l : List (Nat × TypeId × SK)} {x : bxT l} {i : Nat} {b : Bx}, (i, b) ∈ fillBx l x → ∃ t s y, (i, t, s) ∈ l ∧ b = ⟨t, SK.fill s y⟩
  | (j, t, s) :: l, x, i, v, h => by
    rcases List.mem_cons.1 h with e | h
    · cases e; exact ⟨t, s, x.1, by simp, rfl⟩
    · obtain ⟨t', s', y, h1, h2⟩ := fillBx_mem h; exact ⟨t', s', y, by simp [h1], h2⟩
end

section
variable {P : Program} {E : Env} {w0 : World} {ok O : Nat → Prop} {σ σ' : St} {tm : Array Value} {w w' : World} {M M' : Map} {a : Act} {R0 : Type} {res : R0}

theorem okIn_live {h : Head} {x : h.T} {s : SK} {y : s.T} (hk : s.okIn h = true) : Live (h.fill x) (s.fill y) := by
  simp only [SK.okIn, Bool.and_eq_true, List.all_eq_true] at hk
  exact ⟨fun i hi => by rw [(sk_roots s y).1] at hi; exact fillRows_ex (hk.1 i hi), fun i hi => by rw [(sk_roots s y).2] at hi; exact fillBx_ex (hk.2 i hi)⟩

theorem get_sound (R : Rep E w0 ok O σ tm w M) {h : Head} (hk : h.ok = true) {k : h.T → Option R0} (hg : h.get σ k = some res) : ∃ x M', k x = some res ∧ Rep E w0 ok O (h.fill x) tm w M' := by
  unfold Head.get at hg
  simp only [] at hg
  obtain ⟨M', R'⟩ := norm_sound R (h.sl.map (·.1)) (h.bx.map (·.1))
  generalize σ.norm (h.sl.map (·.1)) (h.bx.map (·.1)) = σ1 at hg R'
  obtain ⟨x, hg, hx⟩ := getSl_sound hg
  obtain ⟨y, hg, hy⟩ := getRows_sound hg
  obtain ⟨z, hg, hz⟩ := getBx_sound hg
  simp only [Head.ok, Bool.and_eq_true, List.all_eq_true] at hk
  refine ⟨(x, y, z), M', hg, R'.le ⟨fun s v hv => hx s v (lk_mem hv), fun s v hv => hy s v (lk_mem hv), fun s v hv => hz s v (lk_mem hv)⟩ (fun s v hv => ?_) (fun i b hb => ?_)⟩
  · obtain ⟨sk, y', h1, rfl⟩ := fillSl_mem (lk_mem hv)
    exact okIn_live (hk.1 _ h1)
  · obtain ⟨t, sk, y', h1, rfl⟩ := fillBx_mem (lk_mem hb)
    exact okIn_live (hk.2 _ h1)

theorem exit_sound {n : Nat} {ex : List (Nat × Head)} (hex : ex.all (fun x => x.2.ok) = true) {kx : Nat → St → Option R0} {Q : Exit → Act → World → Prop} {id : Nat} (h : Then E w0 ok O res n (kx id) (Q (.exit id))) : Then E w0 ok O res n (exitC ex kx id) (Q (.exit id)) := by
  intro w2 ok2 O2 hc σ a w M hk R hn hd
  unfold exitC at hk
  split at hk
  · rename_i hh hl
    have hok := List.all_eq_true.1 hex _ (lk_mem hl)
    obtain ⟨x, M', h1, R'⟩ := get_sound R hok hk
    exact h _ _ _ hc _ a w M' h1 R' hn hd
  · cases hk

/-! ### Code -/
def opsB (n : Nat) (ops : Array Oper) : Bool := ops.toList.all fun o => match o.dst with | some d => Nat.blt d n | none => true
def codeB (n : Nat) : Code → Bool
  | .region _ ops _ => opsB n ops
  | .seq a b => codeB n a && codeB n b
  | .cond _ a b => codeB n a && codeB n b
  | .block _ c => codeB n c
  | .loop c => codeB n c
  | _ => true
def loopsOf : Code → List Code
  | .seq a b => loopsOf a ++ loopsOf b
  | .cond _ a b => loopsOf a ++ loopsOf b
  | .block _ c => loopsOf c
  | .loop c => c :: loopsOf c
  | _ => []
def cutsOf : Code → List Code
  | .seq a b => b :: (cutsOf a ++ cutsOf b)
  | .cond _ a b => cutsOf a ++ cutsOf b
  | .block _ c => cutsOf c
  | .loop c => cutsOf c
  | _ => []
/-- A loop's oracle is right. -/
def LoopOK (E : Env) (LO : Oracles R0) (rd : St → Option R0) (b : Code) (f : St → (Nat → St → Option R0) → Option R0) : Prop :=
  ∃ (h : Head) (ex : List (Nat × Head)) (F : Nat → h.T → (Nat → St → Option R0) → Option R0) (N : Nat), h.ok = true ∧ ex.all (fun x => x.2.ok) = true ∧ (∀ x kx, F 0 x kx = none) ∧
    (∀ n x kx, F (n + 1) x kx = evC E LO rd b (h.fill x) (fun σ => h.get σ fun x' => F n x' kx) (exitC ex kx)) ∧ (∀ σ kx, f σ kx = h.get σ fun x => F N x kx)
def CutOK (E : Env) (LO : Oracles R0) (rd : St → Option R0) (b : Code) (f : St → (St → Option R0) → (Nat → St → Option R0) → Option R0) : Prop :=
  ∃ (h hn : Head) (ex : List (Nat × Head)) (F : h.T → (St → Option R0) → (Nat → St → Option R0) → Option R0), h.ok = true ∧ hn.ok = true ∧ ex.all (fun x => x.2.ok) = true ∧
    (∀ x kn kx, F x kn kx = evC E LO rd b (h.fill x) (fun σ => hn.get σ fun y => kn (hn.fill y)) (exitC ex kx)) ∧ (∀ σ kn kx, f σ kn kx = h.get σ fun x => F x kn kx)
structure CodeOK (E : Env) (LO : Oracles R0) (rd : St → Option R0) (n : Nat) (c : Code) : Prop where
  dst : codeB n c = true
  loops : ∀ b ∈ loopsOf c, ∀ f, LO.loop (firstRegion b) = some f → LoopOK E LO rd b f
  cuts : ∀ b ∈ cutsOf c, ∀ f, LO.cut (firstRegion b) = some f → CutOK E LO rd b f

theorem opsB_dst {n : Nat} {ops : Array Oper} (h : opsB n ops = true) : ∀ o ∈ ops.toList, ∀ d, o.dst = some d → d < n := by
  intro o ho d hd
  simp only [opsB, List.all_eq_true] at h
  have := h o ho
  rw [hd] at this
  exact Nat.le_of_ble_eq_true this

theorem Then.mono {n : Nat} {k : St → Option R0} {N N' : Act → World → Prop} (h : Then E w0 ok O res n k N) (hh : ∀ a w, N a w → N' a w) : Then E w0 ok O res n k N' :=
  fun w1 ok1 O1 hc σ a w M h1 R hn hd => hh a w (h w1 ok1 O1 hc σ a w M h1 R hn hd)

theorem evC_sound' [Glob P] (T : tabOK P E.ti = true) (EQ : EqOK P E) (hmix : P.follows .mixedOrders = true) {LO : Oracles R0} {rd : St → Option R0} {n : Nat} : ∀ {c : Code}, CodeOK E LO rd n c → ∀ {w0 : World} {ok O : Nat → Prop}, SpecOK P E w0 O → KeptOK P E w0 O → ∀ {kn : St → Option R0} {kx : Nat → St → Option R0} {Q : Exit → Act → World → Prop} {σ : St} {a : Act} {w : World} {M : Map},
    evC E LO rd c σ kn kx = some res → Rep E w0 ok O σ a.tmps w M → a.tmps.size = n → a.defers = [] → Then E w0 ok O res n kn (Q .normal) → (∀ id, Then E w0 ok O res n (kx id) (Q (.exit id))) → Then E w0 ok O res n rd (Q .ret) → c.wp P Q a w
  | .skip, C, w0, ok, O, S, K, kn, kx, Q, σ, a, w, M, h, R, hn, hd, hkn, hkx, hrd => wp_skip (hkn.at σ a w M h R hn hd)
  | .region id ops dr, C, w0, ok, O, S, K, kn, kx, Q, σ, a, w, M, h, R, hn, hd, hkn, hkx, hrd => by
    have hB := opsB_dst C.dst
    cases dr with
    | false =>
      simp only [evC, cond_false] at h
      refine wp_region ?_
      have := opsC_sound (P := P) T EQ S K hB hkn ops.toList 0 σ a w M rfl h R hn hd
      rw [List.range_eq_range', ← Array.length_toList]
      simpa using this
    | true =>
      simp only [evC, cond_true] at h
      have := reg_sound (P := P) (id := id) T EQ S K hmix hB hkn h R hn hd
      simpa using this
  | .seq x y, C, w0, ok, O, S, K, kn, kx, Q, σ, a, w, M, h, R, hn, hd, hkn, hkx, hrd => by
    have hC : codeB n x = true ∧ codeB n y = true := by simpa [codeB] using C.dst
    have Cx : CodeOK E LO rd n x := ⟨hC.1, fun b hb => C.loops b (by simp [loopsOf, hb]), fun b hb => C.cuts b (by simp [cutsOf, hb])⟩
    have Cy : CodeOK E LO rd n y := ⟨hC.2, fun b hb => C.loops b (by simp [loopsOf, hb]), fun b hb => C.cuts b (by simp [cutsOf, hb])⟩
    simp only [evC] at h
    refine wp_seq ?_
    cases hc : LO.cut (firstRegion y) with
    | none =>
      rw [hc] at h
      simp only [] at h
      exact evC_sound' T EQ hmix Cx S K h R hn hd (fun w2 ok2 O2 hc σ1 a1 w1 M1 h1 R1 hn1 hd1 => evC_sound' T EQ hmix Cy (S.chg hc) (K.chg hc) h1 R1 hn1 hd1 (hkn.chg hc) (fun id => (hkx id).chg hc) (hrd.chg hc)) hkx hrd
    | some f =>
      rw [hc] at h
      simp only [] at h
      obtain ⟨hh, hk, ex, F, c1, c4, c5, c2, c3⟩ := C.cuts y (by simp [cutsOf]) f hc
      refine evC_sound' T EQ hmix Cx S K h R hn hd (fun w2 ok2 O2 hc σ1 a1 w1 M1 h1 R1 hn1 hd1 => ?_) hkx hrd
      rw [c3] at h1
      obtain ⟨x1, M2, h2, R2⟩ := get_sound R1 c1 h1
      rw [c2] at h2
      refine evC_sound' T EQ hmix Cy (S.chg hc) (K.chg hc) h2 R2 hn1 hd1 (fun w5 ok5 O5 hc5 σ3 a3 w3 M3 h3 R3 hn3 hd3 => ?_) (fun id => exit_sound c5 ((hkx id).chg hc)) (hrd.chg hc)
      obtain ⟨x4, M4, h4, R4⟩ := get_sound R3 c4 h3
      exact hkn _ _ _ (hc.trans hc5) _ a3 w3 M4 h4 R4 hn3 hd3
  | .cond x c1 c2, C, w0, ok, O, S, K, kn, kx, Q, σ, a, w, M, h, R, hn, hd, hkn, hkx, hrd => by
    have hC : codeB n c1 = true ∧ codeB n c2 = true := by simpa [codeB] using C.dst
    have Cx : CodeOK E LO rd n c1 := ⟨hC.1, fun b hb => C.loops b (by simp [loopsOf, hb]), fun b hb => C.cuts b (by simp [cutsOf, hb])⟩
    have Cy : CodeOK E LO rd n c2 := ⟨hC.2, fun b hb => C.loops b (by simp [loopsOf, hb]), fun b hb => C.cuts b (by simp [cutsOf, hb])⟩
    simp only [evC] at h
    split at h
    · rename_i p hp
      have hv := evBool R rfl hp
      refine wp_cond hv ?_
      split at h
      · rename_i hpt
        rw [hpt]
        exact evC_sound' T EQ hmix Cx S K h R hn hd hkn hkx hrd
      · rename_i hpf
        rw [if_neg hpf]
        exact evC_sound' T EQ hmix Cy S K h R hn hd hkn hkx hrd
    · cases h
  | .block id c, C, w0, ok, O, S, K, kn, kx, Q, σ, a, w, M, h, R, hn, hd, hkn, hkx, hrd => by
    have Cx : CodeOK E LO rd n c := ⟨C.dst, C.loops, C.cuts⟩
    simp only [evC] at h
    refine wp_block (evC_sound' T EQ hmix Cx S K h R hn hd hkn (fun j w2 ok2 O2 hc σ1 a1 w1 M1 h1 R1 hn1 hd1 => ?_) hrd)
    simp only [nbeq] at h1
    show if j = id then Q .normal a1 w1 else Q (.exit j) a1 w1
    by_cases hj : j = id
    · rw [if_pos hj]
      simp only [hj, decide_true, cond_true] at h1
      exact hkn _ _ _ hc σ1 a1 w1 M1 h1 R1 hn1 hd1
    · rw [if_neg hj]
      simp only [hj, decide_false, cond_false] at h1
      exact hkx j _ _ _ hc σ1 a1 w1 M1 h1 R1 hn1 hd1
  | .loop c, C, w0, ok, O, S, K, kn, kx, Q, σ, a, w, M, h, R, hn, hd, hkn, hkx, hrd => by
    have Cx : CodeOK E LO rd n c := ⟨C.dst, fun b hb => C.loops b (by simp [loopsOf, hb]), C.cuts⟩
    simp only [evC] at h
    split at h
    · rename_i f hf
      obtain ⟨hh, ex, F, N, l1, l2, l3, l4, l5⟩ := C.loops c (by simp [loopsOf]) f hf
      rw [l5] at h
      obtain ⟨x, M', h1, R1⟩ := get_sound R l1 h
      refine wp_loop_ghost (fun m a w => ∃ x M w2 ok2 O2, F m x kx = some res ∧ Chg E w0 ok O w2 ok2 O2 ∧ Rep E w2 ok2 O2 (hh.fill x) a.tmps w M ∧ a.tmps.size = n ∧ a.defers = []) N ⟨x, M', _, _, _, h1, .refl, R1, hn, hd⟩ ?_
      intro m a1 w1 ⟨x1, M1, w2, ok2, O2, h2, hc, R2, hn2, hd2⟩
      cases m with
      | zero => rw [l3] at h2; cases h2
      | succ m =>
        rw [l4] at h2
        refine evC_sound' T EQ hmix Cx (S.chg hc) (K.chg hc) h2 R2 hn2 hd2 (fun w5 ok5 O5 hc5 σ3 a3 w3 M3 h3 R3 hn3 hd3 => ?_) (fun id => exit_sound l2 ((hkx id).chg hc)) (hrd.chg hc)
        obtain ⟨x4, M4, h4, R4⟩ := get_sound R3 l1 h3
        exact ⟨m, Nat.lt_succ_self m, x4, M4, _, _, _, h4, hc.trans hc5, R4, hn3, hd3⟩
    · cases h
  | .exit id, C, w0, ok, O, S, K, kn, kx, Q, σ, a, w, M, h, R, hn, hd, hkn, hkx, hrd => wp_exit ((hkx id).at σ a w M h R hn hd)
  | .ret, C, w0, ok, O, S, K, kn, kx, Q, σ, a, w, M, h, R, hn, hd, hkn, hkx, hrd => wp_ret (hrd.at σ a w M h R hn hd)
  | .goto l, C, w0, ok, O, S, K, kn, kx, Q, σ, a, w, M, h, R, hn, hd, hkn, hkx, hrd => by cases h
  | .label l, C, w0, ok, O, S, K, kn, kx, Q, σ, a, w, M, h, R, hn, hd, hkn, hkx, hrd => by cases h
theorem evC_sound [Glob P] (T : tabOK P E.ti = true) (EQ : EqOK P E) (S : SpecOK P E w0 O) (K : KeptOK P E w0 O) (hmix : P.follows .mixedOrders = true) {LO : Oracles R0} {rd : St → Option R0} {n : Nat} {c : Code} (C : CodeOK E LO rd n c) {kn : St → Option R0} {kx : Nat → St → Option R0} {Q : Exit → Act → World → Prop} {σ : St} {a : Act} {w : World} {M : Map}
    (h : evC E LO rd c σ kn kx = some res) (R : Rep E w0 ok O σ a.tmps w M) (hn : a.tmps.size = n) (hd : a.defers = []) (hkn : Then E w0 ok O res n kn (Q .normal)) (hkx : ∀ id, Then E w0 ok O res n (kx id) (Q (.exit id))) (hrd : Then E w0 ok O res n rd (Q .ret)) : c.wp P Q a w :=
  evC_sound' T EQ hmix C S K h R hn hd hkn hkx hrd
end
end Go.Proofs.Ytgcndhlbhlnplaa.Ev

/- Functions that leave their arguments alone. Over any program. -/
namespace Go.Proofs.Ytgcndhlbhlnplaa.Ev
open Go.RowKit

section
variable {P : Program} {E : Env} {w0 : World} {ok O : Nat → Prop} {σ σ' : St} {tm : Array Value} {w w' : World} {M M' : Map} {a : Act} {R0 : Type} {res : R0}

/-! ### Arguments -/
def argN : Ty → Nat
  | .un => 0
  | .pr _ b => argN b + 1
  | _ => 1
theorem pack_one {t : Ty} {l : List SVal} {k : t.T → Option R0} (h1 : ∀ s, packC t [s] k = castC s.t t s.x k) (h0 : packC t [] k = none) (h2 : ∀ s s' l, packC t (s :: s' :: l) k = none) (hn : argN t = 1) (hs : ∀ (x : t.T) i, argSl t x i = [(i, .val t x)])
    (h : packC t l k = some res) {vs : List Value} (ha : ArgsR w ok l vs) : ∃ x, k x = some res ∧ vs.length = argN t ∧ ∀ i j s, lk (argSl t x i) j = some s → ∃ y, i ≤ j ∧ j < i + argN t ∧ vs[j - i]? = some y ∧ (∃ u z, s = .val u z ∧ ∃ cs, Rd w ok u z cs ∧ WholeT u y cs) := by
  match l, vs, ha with
  | [], _, _ => rw [h0] at h; cases h
  | s :: s' :: l, _, _ => rw [h2] at h; cases h
  | [s], [v], ha =>
    rw [h1] at h
    obtain ⟨e, h⟩ := castC_some h
    obtain ⟨st, sx⟩ := s
    dsimp only at e
    subst e
    refine ⟨sx, h, by rw [hn]; rfl, fun i j s' hj => ?_⟩
    rw [hs] at hj
    obtain ⟨rfl, rfl⟩ := lk_one hj
    exact ⟨v, Nat.le_refl _, by omega, by simp, _, _, rfl, ha.1⟩
theorem pack_sound : ∀ {t : Ty} {l : List SVal} {k : t.T → Option R0} {vs : List Value}, packC t l k = some res → ArgsR w ok l vs → ∃ x, k x = some res ∧ vs.length = argN t ∧ ∀ i j s, lk (argSl t x i) j = some s → ∃ y, i ≤ j ∧ j < i + argN t ∧ vs[j - i]? = some y ∧ (∃ u z, s = .val u z ∧ ∃ cs, Rd w ok u z cs ∧ WholeT u y cs)
  | .un, l, k, vs, h, ha => by
    match l, vs, ha with
    | [], [], _ => exact ⟨(), h, rfl, fun i j s hj => by cases hj⟩
    | _ :: _, _, _ => cases h
  | .pr a b, l, k, vs, h, ha => by
    match l, vs, ha with
    | [], _, _ => cases h
    | s :: l, v :: vs, ha =>
      simp only [packC] at h
      obtain ⟨e, h⟩ := castC_some h
      obtain ⟨st, sx⟩ := s
      dsimp only at e
      subst e
      obtain ⟨y, h1, h2, h3⟩ := pack_sound (t := b) h ha.2
      refine ⟨(sx, y), h1, by simp [argN, h2], fun i j s' hj => ?_⟩
      simp only [argSl, lk_cons] at hj
      split at hj
      · rename_i e2
        subst e2
        cases hj
        exact ⟨v, Nat.le_refl _, by simp only [argN]; omega, by simp, _, _, rfl, ha.1⟩
      · obtain ⟨y', g1, g2, g3, g4⟩ := h3 (i + 1) j s' hj
        refine ⟨y', by omega, by simp only [argN]; omega, ?_, g4⟩
        rw [show j - i = (j - (i + 1)) + 1 by omega, List.getElem?_cons_succ]
        exact g3
  | .int i, l, k, vs, h, ha => pack_one (fun _ => rfl) rfl (fun _ _ _ => rfl) rfl (fun _ _ => rfl) h ha
  | .bool, l, k, vs, h, ha => pack_one (fun _ => rfl) rfl (fun _ _ _ => rfl) rfl (fun _ _ => rfl) h ha
  | .str, l, k, vs, h, ha => pack_one (fun _ => rfl) rfl (fun _ _ _ => rfl) rfl (fun _ _ => rfl) h ha
  | .sl e t, l, k, vs, h, ha => pack_one (fun _ => rfl) rfl (fun _ _ _ => rfl) rfl (fun _ _ => rfl) h ha
  | .st t, l, k, vs, h, ha => pack_one (fun _ => rfl) rfl (fun _ _ _ => rfl) rfl (fun _ _ => rfl) h ha
  | .ptr t, l, k, vs, h, ha => pack_one (fun _ => rfl) rfl (fun _ _ _ => rfl) rfl (fun _ _ => rfl) h ha
  | .fn g c, l, k, vs, h, ha => pack_one (fun _ => rfl) rfl (fun _ _ _ => rfl) rfl (fun _ _ => rfl) h ha
  | .fs ids, l, k, vs, h, ha => pack_one (fun _ => rfl) rfl (fun _ _ _ => rfl) rfl (fun _ _ => rfl) h ha

/-! ### Results -/
def Rv (P : Program) (tm : Array Value) (w : World) (r : ResultVar) (v : Value) : Prop := match r with
  | .tmp t => tm.getD t undef = v
  | .cell a t => ∃ ad, tm.getD a undef = .pointer (some ad) ∧ (loadVar t ad).run P w = .ok v w
def Rvs (P : Program) (tm : Array Value) (w : World) : List ResultVar → List Value → Prop
  | [], [] => True
  | r :: l, v :: vs => Rv P tm w r v ∧ Rvs P tm w l vs
  | _, _ => False
theorem getD_of {tm : Array Value} {i : Nat} {u : Value} (h : tm[i]? = some u) : tm.getD i undef = u := by rw [Array.getD_eq_getD_getElem?, h]; rfl

theorem fit_live (t : Ty) : ∀ s : SV, Live σ s → Live σ (s.fit t) := by
  intro s hl
  induction s with
  | val u x => cases u <;> simp only [SV.fit] <;> first | exact live_val _ _ | (cases t.isSt <;> exact live_val _ _)
  | st s ih =>
    simp only [SV.fit]
    cases t.isSt
    · exact ih ⟨hl.rows, hl.boxes⟩
    · exact hl
  | _ => exact hl

theorem resV_sound (T : tabOK P E.ti = true) (R : Rep E w0 ok O σ tm w M) {r : ResultVar} {s : SV} (h : resV E σ r = some s) : ∃ v, Rv P tm w r v ∧ RepS w0 ok M s v := by
  cases r with
  | tmp t =>
    obtain ⟨u, hu, hS⟩ := R.slots t s h
    exact ⟨u, getD_of hu, hS⟩
  | cell a t =>
    simp only [resV] at h
    split at h
    · rename_i j q o hs
      split at h
      · rename_i b hb
        split at h
        · rename_i s' hp
          cases hk : (Nat.beq (b.c.offP q) o && (s'.fit (E.tyOf t)).okW (E.tyOf t)) <;> rw [hk] at h
          · cases h
          · cases h
            simp only [Bool.and_eq_true] at hk
            obtain ⟨k1, k2⟩ := hk
            have k1 := Nat.eq_of_beq_eq_true k1
            obtain ⟨k3, k4, k5, _⟩ := okW_iff k2
            obtain ⟨cs', g1, g2, g3⟩ := R.boxes j b hb
            obtain ⟨u, hu, cs, h3, h4⟩ := R.slots a _ hs
            simp only [RepV] at h3
            subst h3
            have hv : u = .pointer (some ⟨M.blk j, o, none⟩) := by
              rcases h4 with ⟨h5, _⟩ | ⟨_, h5⟩
              · cases h5
              · simp only [List.cons.injEq, and_true] at h5; exact h5.symm
            have hnc : b.c.isCh = false := by
              cases hc : b.c with
              | nl =>
                rw [hc] at hp
                cases q with
                | nil => cases hp; exact absurd k4.symm k5
                | cons x y => cases hp
              | cns x y =>
                rw [hc] at hp
                cases q with
                | nil => cases hp; exact absurd k4.symm k5
                | cons x y => cases hp
              | _ => rfl
            obtain ⟨p1, p2, ds, rfl, e1, e2⟩ := part_sound (RepB_V g1 hnc) hp
            have hf := fit_sound (t := E.tyOf t) e2
            have hcell := (block_cells g2).mid
            rw [e1, k1, Nat.zero_add] at hcell
            obtain ⟨z, hz, hw⟩ := load_run (P := P) T hf k3 (by rw [RepV.len hf, k4]) k5 hcell
            exact ⟨z, ⟨_, by rw [getD_of hu, hv], hz⟩, RepS_of hf hw⟩
        · cases h
      · cases h
    · cases h

theorem out_sound (T : tabOK P E.ti = true) : ∀ {rs : List ResultVar} {t : Ty} {σ : St} {k : St → t.T → Option R0}, Rep E w0 ok O σ tm w M → outC E rs t σ k = some res →
    ∃ σ' l vs, k σ' (erase t l) = some res ∧ holds (Rd w0 ok) w t l ∧ plain w t l ∧ Eaten E w0 ok O σ σ' tm w M (blocksL t l) ∧ Rvs P tm w rs vs ∧ (rs.length = 0 ∧ t = .un ∨ 0 < rs.length ∧ Parts rs.length t l vs)
  | [], t, σ, k, R, h => by
    cases t with
    | un => exact ⟨σ, (), [], h, trivial, trivial, ⟨R, Free.nil, From.nil, Sub.refl σ⟩, trivial, .inl ⟨rfl, rfl⟩⟩
    | _ => cases h
  | r :: l, t, σ, k, R, h => by
    simp only [outC] at h
    split at h
    · rename_i s hs
      obtain ⟨u, hu, hS⟩ := resV_sound T R hs
      match l, h with
      | [], h =>
        rcases RepS_cases hS with rfl | ⟨c, vs, rfl, _, _⟩ | ⟨cs, h4, h5⟩
        · cases h
        · cases h
        · obtain ⟨σ1, v, x, g1, g2, g3, g4, g5, g6⟩ := eat_sound depth w0 ok O σ tm w M s cs _ R h4 h
          obtain ⟨e, g1⟩ := castC_some g1
          subst e
          refine ⟨σ1, x, [u], g1, g2, g3, g6, ⟨hu, trivial⟩, .inr ⟨Nat.succ_pos _, u, rfl, ?_⟩⟩
          unfold WholeT
          rw [← g5, g4]; exact h5
      | r2 :: l2, h =>
        cases t with
        | pr a b =>
          rcases RepS_cases hS with rfl | ⟨c, vs, rfl, _, _⟩ | ⟨cs, h4, h5⟩
          · cases h
          · cases h
          · obtain ⟨σ1, v, x, g1, g2, g3, g4, g5, g6⟩ := eat_sound depth w0 ok O σ tm w M s cs _ R h4 h
            obtain ⟨e, g1⟩ := castC_some g1
            subst e
            obtain ⟨σ2, y, vs, k1, k2, k3, k4, k7, k5⟩ := out_sound T (rs := r2 :: l2) (t := b) g6.rep g1
            refine ⟨σ2, (x, y), u :: vs, k1, ⟨g2, k2⟩, ⟨g3, k3⟩, ⟨k4.rep, g6.free.append k4.free k4.sub k4.src, g6.src.append k4.src g6.sub, k4.sub.trans g6.sub⟩, ⟨hu, k7⟩, .inr ⟨Nat.succ_pos _, ?_⟩⟩
            rcases k5 with ⟨h9, _⟩ | ⟨_, k6⟩
            · simp at h9
            · refine ⟨u, vs, rfl, ?_, k6⟩
              unfold WholeT
              rw [← g5, g4]; exact h5
        | _ => cases h
    · cases h

theorem run_results {fn : Func} {rs : List ResultVar} (h : fn.results.toList = rs) {tm : Array Value} {w : World} {vs : List Value} (hv : Rvs P tm w rs vs) : (results fn tm).run P w = .ok (if h : vs.toArray.size = 1 then vs.toArray[0] else .tuple vs.toArray) w := by
  have hm : ∀ (l : List ResultVar) (vs : List Value), Rvs P tm w l vs → (l.mapM (m := Sem) fun | .tmp t => pure (tm.getD t undef) | .cell a t => do loadVar t (← asAddr (tm.getD a undef))).run P w = .ok vs w := by
    intro l
    induction l with
    | nil => intro vs hv; match vs, hv with | [], _ => rfl
    | cons r l ih =>
      intro vs hv
      match vs, hv with
      | v :: vs, hv =>
        have e := ih vs hv.2
        have hr : ((fun | .tmp t => pure (tm.getD t undef) | .cell a t => do loadVar t (← asAddr (tm.getD a undef)) : ResultVar → Sem Value) r).run P w = .ok v w := by
          cases r with
          | tmp t => have h1 : tm.getD t undef = v := hv.1; simp only [h1]; rfl
          | cell a t =>
            obtain ⟨ad, h1, h2⟩ := hv.1
            simp only [h1, asAddr, Sem.run_bind, Sem.run_pure, Result.andThen_ok]
            exact h2
        simp only [List.mapM_cons, Sem.run_bind, hr, Result.andThen_ok, e, Sem.run_pure]
  have hA : (fn.results.mapM (m := Sem) fun | .tmp t => pure (tm.getD t undef) | .cell a t => do loadVar t (← asAddr (tm.getD a undef))).run P w = .ok vs.toArray w := by
    rw [Array.mapM_eq_mapM_toList, h]
    have e := hm rs vs hv
    show (Sem.bind _ _).run P w = _
    rw [show ∀ (x : Sem (List Value)) (f : List Value → Sem (Array Value)), (Sem.bind x f).run P w = (x.run P w).andThen fun a w' => (f a).run P w' from fun x f => Sem.run_bind (P := P) (x := x) (f := f) (w := w), e]
    rfl
  unfold results
  rw [Sem.run_bind]
  exact (congrArg (fun z => Result.andThen z _) hA).trans rfl
end
end Go.Proofs.Ytgcndhlbhlnplaa.Ev

/- A function's contract from its equation. Over any program. -/
namespace Go.Proofs.Ytgcndhlbhlnplaa.Ev
open Go.RowKit

section
variable {P : Program} {E : Env} {w0 : World} {ok O : Nat → Prop} {σ σ' : St} {tm : Array Value} {w w' : World} {M M' : Map} {a : Act} {R0 : Type} {res : R0}

theorem run_enter {g : FuncId} {fn : Func} {c : Code} (hf : P.funcs[g]? = some fn) (hb : fn.body = some c) (hn : (fn.name == "runtime.NumGoroutine") = false) (vs : Array Value) (w : World) : (callFunc g vs).run P w = .ok (.enter g vs) w := by
  have hp : (program : Sem Program).run P w = .ok P w := rfl
  unfold callFunc
  rw [Sem.run_bind, hp]
  simp only [Result.andThen_ok, hf, hn, hb, Option.isNone_some, Bool.false_eq_true, if_false]
  rfl

/-- What a function's text must say for its line of the table: own memory is made, nothing else is changed. -/
structure FnR (P : Program) (E : Env) (g : FuncId) (ts : Ty) (n : Nat) (t : Ty) (F : ts.T → Option t.T) : Prop where
  ex : ∃ (fn : Func) (c : Code) (rs : List ResultVar) (LO : Oracles t.T), P.funcs[g]? = some fn ∧ fn.body = some c ∧ (fn.name == "runtime.NumGoroutine") = false ∧ fn.results.toList = rs ∧ rs.length = n ∧ argN ts ≤ fn.ntmps ∧
    CodeOK E LO (rdC E rs t) fn.ntmps c ∧ ∀ x, evC E LO (rdC E rs t) c ⟨argSl ts x 0, [], []⟩ (rdC E rs t) (fun _ _ => none) = F x

theorem init_repR (hok : ∀ k, ok k → k < w.heap.size) {ts : Ty} {x : ts.T} {vs : List Value} (h : ∀ i j s, lk (argSl ts x i) j = some s → ∃ y, i ≤ j ∧ j < i + argN ts ∧ vs[j - i]? = some y ∧ (∃ u z, s = .val u z ∧ ∃ cs, Rd w ok u z cs ∧ WholeT u y cs)) (m : Nat) :
    Rep E w ok (fun _ => False) ⟨argSl ts x 0, [], []⟩ (vs.toArray ++ Array.replicate m undef) w ⟨fun _ => ⟨.un, ()⟩, fun _ => 0, fun _ => 0, fun _ => 0⟩ where
  slots := fun s v hv => by
    obtain ⟨y, _, h2, h3, u, z, rfl, cs, h5, h6⟩ := h 0 s v hv
    rw [Nat.sub_zero] at h3
    have hlt := (List.getElem?_eq_some_iff.1 h3).1
    refine ⟨y, ?_, RepS_of (s := .val u z) h5 (by unfold Whole; rw [val_isSt]; exact h6)⟩
    rw [Array.getElem?_append_left (by simpa using hlt)]
    simpa using h3
  rows := fun i r hr => by cases hr
  boxes := fun i b hb => by cases hb
  rr := fun i j _ ⟨r, hr⟩ => by cases hr
  bb := fun i j _ ⟨r, hr⟩ => by cases hr
  rb := fun i j ⟨r, hr⟩ => by cases hr
  ownR := fun i ⟨r, hr⟩ => by cases hr
  ownB := fun i ⟨r, hr⟩ => by cases hr
  okB := fun k hk => ⟨hok k hk, fun h => h⟩
  liveS := fun s v hv => by
    obtain ⟨y, _, _, _, u, z, rfl, _⟩ := h 0 s v hv
    exact live_val u z
  liveB := fun i b hb => by cases hb
  kept := Kept.refl _ _
  pin := fun i _ ⟨r, hr⟩ => by cases hr
  pinB := fun i _ ⟨r, hr⟩ => by cases hr

theorem init_rep {ts : Ty} {x : ts.T} {vs : List Value} (h : ∀ i j s, lk (argSl ts x i) j = some s → ∃ y, i ≤ j ∧ j < i + argN ts ∧ vs[j - i]? = some y ∧ (∃ u z, s = .val u z ∧ ∃ cs, Rd w (Lt w) u z cs ∧ WholeT u y cs)) (m : Nat) :
    Rep E w (Lt w) (fun _ => False) ⟨argSl ts x 0, [], []⟩ (vs.toArray ++ Array.replicate m undef) w ⟨fun _ => ⟨.un, ()⟩, fun _ => 0, fun _ => 0, fun _ => 0⟩ where
  slots := fun s v hv => by
    obtain ⟨y, _, h2, h3, u, z, rfl, cs, h5, h6⟩ := h 0 s v hv
    rw [Nat.sub_zero] at h3
    have hlt := (List.getElem?_eq_some_iff.1 h3).1
    refine ⟨y, ?_, RepS_of (s := .val u z) h5 (by unfold Whole; rw [val_isSt]; exact h6)⟩
    rw [Array.getElem?_append_left (by simpa using hlt)]
    simpa using h3
  rows := fun i r hr => by cases hr
  boxes := fun i b hb => by cases hb
  rr := fun i j _ ⟨r, hr⟩ => by cases hr
  bb := fun i j _ ⟨r, hr⟩ => by cases hr
  rb := fun i j ⟨r, hr⟩ => by cases hr
  ownR := fun i ⟨r, hr⟩ => by cases hr
  ownB := fun i ⟨r, hr⟩ => by cases hr
  okB := fun k hk => ⟨hk, fun h => h⟩
  liveS := fun s v hv => by
    obtain ⟨y, _, _, _, u, z, rfl, _⟩ := h 0 s v hv
    exact live_val u z
  liveB := fun i b hb => by cases hb
  kept := Kept.refl _ _
  pin := fun i _ ⟨r, hr⟩ => by cases hr
  pinB := fun i _ ⟨r, hr⟩ => by cases hr

theorem rvs_len {tm : Array Value} : ∀ {rs : List ResultVar} {vs : List Value}, Rvs P tm w rs vs → vs.length = rs.length
  | [], [], _ => rfl
  | r :: l, v :: vs, h => by simp [rvs_len h.2]
  | [], _ :: _, h => h.elim
  | _ :: _, [], h => h.elim
theorem answer_of {n m : Nat} {t : Ty} {l : L t} {vs : List Value} (hl : vs.length = m) (hn : m = n) (h : m = 0 ∧ t = .un ∨ 0 < m ∧ Parts m t l vs) :
    Answer n t l (if h : vs.toArray.size = 1 then vs.toArray[0] else .tuple vs.toArray) := by
  subst hn
  subst hl
  unfold Answer
  match vs, h with
  | [], h => exact ⟨_, rfl, rfl⟩
  | [v], .inr ⟨_, v', hv, hw⟩ =>
    cases hv
    exact hw
  | [v], .inl h => simp at h
  | v :: v2 :: vs, .inr ⟨_, h⟩ =>
    rw [if_neg (by simp)]
    refine ⟨_, dif_neg (by simp), by simpa using h⟩
  | v :: v2 :: vs, .inl h => simp at h

theorem FnR.does [Glob P] (T : tabOK P E.ti = true) (EQ : EqOK P E) {w : World} (S : SpecOK P E w (fun _ => False)) (K : KeptOK P E w (fun _ => False)) (hmix : P.follows .mixedOrders = true) {g : FuncId} {ts : Ty} {n : Nat} {t : Ty} {F : ts.T → Option t.T} (H : FnR P E g ts n t F)
    {args : List SVal} {vs : List Value} (ha : Args w args vs) {x : ts.T} (hx : packC ts args some = some x) {r : t.T} (hr : F x = some r) : Does P g vs.toArray w (Ret w n t r) := by
  obtain ⟨fn, c, rs, LO, h1, h2, h3, h4, h5, h6, h7, h8⟩ := H.ex
  unfold Does
  rw [run_enter h1 h2 h3]
  simp only []
  obtain ⟨x', hx', hlen, hsl⟩ := pack_sound hx ha
  cases hx'
  refine calls_of_wp h1 h2 ?_
  have hrd : ∀ e : Exit, (e = .normal ∨ e = .ret) → Then E w (Lt w) (fun _ => False) r fn.ntmps (rdC E rs t) (bodyPost P fn (fun | .returned v, w'' => Ret w n t r v w'' | _, _ => False) e) := by
    intro e he w2 ok2 O2 hc σ1 a1 w1 M1 hk R1 hn1 hd1
    unfold rdC at hk
    cases hnr : t.noRd <;> rw [hnr] at hk
    · cases hk
    simp only [cond_true] at hk
    obtain ⟨σ2, l, vs2, g1, g2, g3, g4, g6, g5⟩ := out_sound T R1 hk
    have hb : a1.defers = [] ∧ ∃ v, (results fn a1.tmps).run P w1 = .ok v w1 ∧ Ret w n t r v w1 := by
      refine ⟨hd1, _, run_results h4 g6, l, ?_, fun F => holds_noRd hnr g2, g3, g4.free.nd, fun k hk => ?_, answer_of (rvs_len g6) h5 g5, hc.kept R1.kept⟩
      · have := Option.some.inj g1
        rw [← this]
      · rcases (g4.free.own k hk).2 with h | h
        · exact (hc.own h).elim False.elim id
        · exact Nat.le_trans (hc.kept (.refl _ _)).size h
    rcases he with rfl | rfl
    · exact hb
    · exact hb
  have hev := h8 x
  rw [hr] at hev
  refine evC_sound T EQ S K hmix h7 hev (init_rep hsl (fn.ntmps - vs.toArray.size)) (by simp only [Array.size_append, Array.size_replicate, List.size_toArray, hlen]; omega) rfl (hrd _ (.inl rfl)) (fun id => ?_) (hrd _ (.inr rfl))
  intro w2 ok2 O2 hc σ1 a1 w1 M1 hk
  cases hk
end
end Go.Proofs.Ytgcndhlbhlnplaa.Ev

/- Contracts of a table of functions, one after the other. Over any program. -/
namespace Go.Proofs.Ytgcndhlbhlnplaa.Ev
open Go.RowKit

section
variable {P : Program} {R0 : Type} {res : R0}

theorem pack_bind : ∀ (t : Ty) (l : List SVal) {R : Type} (k : t.T → Option R), packC t l k = (packC t l some).bind k
  | .un, [], R, k => rfl
  | .un, _ :: _, R, k => rfl
  | .pr a b, [], R, k => rfl
  | .pr a b, s :: l, R, k => by
    simp only [packC]
    rw [castC_bind, castC_bind s.t a s.x (fun x => packC b l fun y => some (x, y)), Option.bind_assoc]
    congr 1
    funext x
    rw [pack_bind b l, pack_bind b l (fun y => some (x, y)), Option.bind_assoc]
    rfl
  | .int i, l, R, k => by match l with | [] => rfl | [s] => exact castC_bind _ _ _ _ | _ :: _ :: _ => rfl
  | .bool, l, R, k => by match l with | [] => rfl | [s] => exact castC_bind _ _ _ _ | _ :: _ :: _ => rfl
  | .str, l, R, k => by match l with | [] => rfl | [s] => exact castC_bind _ _ _ _ | _ :: _ :: _ => rfl
  | .sl e t, l, R, k => by match l with | [] => rfl | [s] => exact castC_bind _ _ _ _ | _ :: _ :: _ => rfl
  | .st t, l, R, k => by match l with | [] => rfl | [s] => exact castC_bind _ _ _ _ | _ :: _ :: _ => rfl
  | .ptr t, l, R, k => by match l with | [] => rfl | [s] => exact castC_bind _ _ _ _ | _ :: _ :: _ => rfl
  | .fn g c, l, R, k => by match l with | [] => rfl | [s] => exact castC_bind _ _ _ _ | _ :: _ :: _ => rfl
  | .fs ids, l, R, k => by match l with | [] => rfl | [s] => exact castC_bind _ _ _ _ | _ :: _ :: _ => rfl
  | .rd t, l, R, k => by match l with | [] => rfl | [s] => rfl | _ :: _ :: _ => rfl

/-- What a line of the table says is so. -/
def FnOK (P : Program) [Glob P] (g : FuncId) (fe : FE) : Prop := (fe.n ≠ RON → ∀ args vs w x r, Glob.ok P w → Args w args vs → packC fe.ts args some = some x → fe.F x = some r → Does P g vs.toArray w (Ret w fe.n fe.t r)) ∧
  (fe.n = RON → ∀ args vs w ok x r, Glob.ok P w → (∀ k, ok k → k < w.heap.size) → ArgsR w ok args vs → packC fe.ts args some = some x → fe.F x = some r → Does P g vs.toArray w (RetR w ok fe.t r))
theorem FnOK.new {P : Program} [Glob P] {g : FuncId} {fe : FE} (hn : Nat.beq fe.n RON = false) (h : ∀ args vs w x r, Glob.ok P w → Args w args vs → packC fe.ts args some = some x → fe.F x = some r → Does P g vs.toArray w (Ret w fe.n fe.t r)) : FnOK P g fe :=
  ⟨fun _ => h, fun e => by rw [e] at hn; simp at hn⟩
theorem callT_sound [Glob P] : ∀ {tab : List (Nat × FE)}, (∀ e ∈ tab, FnOK P e.1 e.2) → ∀ {g : Nat} {args : List SVal} {n : Nat} {t : Ty} {r : t.T}, callT tab g args = some ⟨n, t, some r⟩ → ∃ fe x, FnOK P g fe ∧ fe.n = n ∧ ∃ e : fe.t = t, packC fe.ts args some = some x ∧ fe.F x = some (e ▸ r)
  | [], _, g, args, n, t, r, h => by cases h
  | (g', fe) :: l, H, g, args, n, t, r, h => by
    simp only [callT] at h
    have ih : callT l g args = some ⟨n, t, some r⟩ → _ := fun h => callT_sound (tab := l) (fun e he => H e (List.mem_cons_of_mem _ he)) h
    cases hb : Nat.beq g' g <;> rw [hb] at h
    · exact ih h
    · have hg := Nat.eq_of_beq_eq_true hb
      subst hg
      simp only [cond_true] at h
      rw [pack_bind] at h
      cases hx : packC fe.ts args some with
      | none => rw [hx] at h; exact ih h
      | some x =>
        rw [hx] at h
        simp only [Option.bind_some, Option.some.injEq] at h
        have e1 : fe.n = n := congrArg CR.n h
        have e2 : fe.t = t := congrArg CR.t h
        subst e1; subst e2
        injection h with _ _ h4
        exact ⟨fe, x, H (g', fe) (List.mem_cons_self), rfl, rfl, hx, h4⟩
theorem SpecOK.of [Glob P] {ti : List TI} {tab : List (Nat × FE)} {opn : Nat → Option (FuncId × OC)} {pins : Nat → Value} {pinB : Nat → Nat} (H : ∀ e ∈ tab, FnOK P e.1 e.2)  {w0 : World} {O : Nat → Prop} (G : GlobAt P w0 O) : SpecOK P (mkEnv ti tab opn pins pinB) w0 O :=
  ⟨fun g args n t r hc hn w vs hkp ha => by
      obtain ⟨fe, x, h1, h2, h3, h4, h5⟩ := callT_sound H hc
      subst h2
      subst h3
      exact h1.1 hn args vs w x r (G.now hkp) ha h4 h5,
    fun g args t r hc w ok vs hkp hk ha => by
      obtain ⟨fe, x, h1, h2, h3, h4, h5⟩ := callT_sound H hc
      subst h3
      exact h1.2 h2 args vs w ok x r (G.now hkp) hk ha h4 h5⟩
/-- One function, by its equation. -/
theorem FnR.contract [Glob P] {ti : List TI} {tab : List (Nat × FE)} {opn : Nat → Option (FuncId × OC)} {pins : Nat → Value} {pinB : Nat → Nat} (T : tabOK P ti = true) (EQ : EqOK P (mkEnv ti tab opn pins pinB)) (K : ∀ w, GlobAt P w (fun _ => False) → KeptOK P (mkEnv ti tab opn pins pinB) w (fun _ => False)) (hmix : P.follows .mixedOrders = true) (S : ∀ e ∈ tab, FnOK P e.1 e.2) {g : FuncId} {ts : Ty} {n : Nat} {t : Ty} {F : ts.T → Option t.T}
    (H : FnR P (mkEnv ti tab opn pins pinB) g ts n t F) (hn : Nat.beq n RON = false) : FnOK P g ⟨ts, n, t, F⟩ :=
  ⟨fun _ args vs w x r G ha hx hr => H.does T EQ (SpecOK.of S (.new G)) (K w (.new G)) hmix ha hx hr, fun e => by have e : n = RON := e; rw [e] at hn; simp at hn⟩
end
end Go.Proofs.Ytgcndhlbhlnplaa.Ev

/- '==' of flat structs. Over any program. -/
namespace Go.Proofs.Ytgcndhlbhlnplaa.Ev
open Go.RowKit

def Ty.ht : Ty → Nat
  | .st t => t.ht + 1
  | .pr a b => max a.ht b.ht
  | _ => 1
section
variable {P : Program} {E : Env} {w : World}

theorem part_run (T : tabOK P E.ti = true) {f : TypeId} (h0 : (E.tyOf f).sz ≠ 0) {w1 : World} {okk : Nat → Prop} {x : (E.tyOf f).T} {p a c : List Value} (hr : Rd w1 okk (E.tyOf f) x a) : ∃ v, (part f (p ++ a ++ c).toArray p.length).run P w = .ok v w ∧ WholeT (E.tyOf f) v a := by
  obtain ⟨ti, k1, k2, k3⟩ := tab_known T h0
  obtain ⟨m1, m2, _⟩ := tab_agg T k1 k3 w
  rw [k2] at m1 m2
  have hl := Rd.len hr
  unfold part
  cases hst : (E.tyOf f).isSt with
  | true =>
    rw [hst] at m1
    refine ⟨.agg a.toArray, ?_, .inl ⟨hst, rfl⟩⟩
    simp only [Sem.run_bind, m1, Result.andThen_ok, if_true, m2, Sem.run_pure]
    congr 2
    rw [← hl]
    apply Array.ext'
    simp
  | false =>
    rw [hst] at m1
    have h1 := tab_one T h0 hst
    rw [h1] at hl
    match a, hl with
    | [v], _ =>
      refine ⟨v, ?_, .inr ⟨hst, rfl⟩⟩
      simp only [Sem.run_bind, m1, Result.andThen_ok, Bool.false_eq_true, if_false]
      have : (p ++ [v] ++ c).toArray[p.length]? = some v := by simp
      rw [this]
      rfl

/-- What is asked of one field. -/
def EqAt (P : Program) (E : Env) (d : Nat) : Prop := ∀ (t : TypeId), (E.tyOf t).flat = true → (E.tyOf t).ht ≤ d → ∀ (w : World) (x y : (E.tyOf t).T) (cs ds : List Value) (ok ok' : Nat → Prop) (vx vy : Value),
  Rd w ok (E.tyOf t) x cs → Rd w ok' (E.tyOf t) y ds → WholeT (E.tyOf t) vx cs → WholeT (E.tyOf t) vy ds → ∃ b, (Op.equalIn d t vx vy).run P w = .ok b w ∧ (b = true ↔ x = y)

theorem eqFields_run (T : tabOK P E.ti = true) {d : Nat} (H : EqAt P E d) {w : World} {ok ok' : Nat → Prop} : ∀ (fl : List Field) (n : Nat) (u : Ty), fieldsCode E.ti (fl.map fun f => (f.type, f.offset)) n = some u → u.flat = true → u.ht ≤ d → (∀ f ∈ fl, f.name ≠ "_") →
    ∀ (x y : u.T) (p p' cs ds : List Value), p.length = n → p'.length = n → Rd w ok u x cs → Rd w ok' u y ds → ∃ b, (Op.eqFields d (p ++ cs).toArray (p' ++ ds).toArray fl).run P w = .ok b w ∧ (b = true ↔ x = y)
  | [], n, u, h, _, _, _, _, _, _, _, _, _, _, _, _, _ => by cases h
  | [f], n, u, h, hf, hh, hnm, x, y, p, p', cs, ds, hp, hp', hx, hy => by
    simp only [List.map_cons, List.map_nil, fieldsCode] at h
    cases hb : (Nat.beq f.offset n && !Nat.beq (tyAt E.ti f.type).sz 0) <;> rw [hb] at h
    · cases h
    · cases h
      simp only [Bool.and_eq_true, Bool.not_eq_true'] at hb
      have ho := Nat.eq_of_beq_eq_true hb.1
      have h0 : (E.tyOf f.type).sz ≠ 0 := beq_ne hb.2
      obtain ⟨v1, e1, e2⟩ := part_run (w := w) (p := p) (c := []) T h0 hx
      obtain ⟨v2, e3, e4⟩ := part_run (w := w) (p := p') (c := []) T h0 hy
      rw [List.append_nil, hp, ← ho] at e1
      rw [List.append_nil, hp', ← ho] at e3
      obtain ⟨b, e5, e6⟩ := H f.type hf hh w x y cs ds ok ok' v1 v2 hx hy e2 e4
      refine ⟨b, ?_, e6⟩
      simp only [Op.eqFields]
      rw [if_pos (hnm f (by simp))]
      simp only [Sem.run_bind, e1, Result.andThen_ok, e3, e5]
      cases b <;> simp
  | f :: f2 :: fl, n, u, h, hf, hh, hnm, x, y, p, p', cs, ds, hp, hp', hx, hy => by
    simp only [List.map_cons, fieldsCode] at h
    cases hb : (Nat.beq f.offset n && !Nat.beq (tyAt E.ti f.type).sz 0) <;> rw [hb] at h
    · cases h
    · simp only [cond_true] at h
      split at h
      · rename_i u' hu
        cases h
        simp only [Bool.and_eq_true, Bool.not_eq_true'] at hb
        simp only [Ty.flat, Bool.and_eq_true] at hf
        simp only [Ty.ht] at hh
        have ho := Nat.eq_of_beq_eq_true hb.1
        have h0 : (E.tyOf f.type).sz ≠ 0 := beq_ne hb.2
        obtain ⟨c1, c2, rfl, x1, x2⟩ := hx
        obtain ⟨d1, d2, rfl, y1, y2⟩ := hy
        obtain ⟨v1, e1, e2⟩ := part_run (w := w) (p := p) (c := c2) T h0 x1
        obtain ⟨v2, e3, e4⟩ := part_run (w := w) (p := p') (c := d2) T h0 y1
        rw [hp, ← ho, List.append_assoc] at e1
        rw [hp', ← ho, List.append_assoc] at e3
        obtain ⟨b, e5, e6⟩ := H f.type hf.1 (Nat.le_trans (Nat.le_max_left _ _) hh) w x.1 y.1 c1 d1 ok ok' v1 v2 x1 y1 e2 e4
        have l1 : (p ++ c1).length = n + (tyAt E.ti f.type).sz := by rw [List.length_append, hp, Rd.len x1]
        have l2 : (p' ++ d1).length = n + (tyAt E.ti f.type).sz := by rw [List.length_append, hp', Rd.len y1]
        obtain ⟨b2, g1, g2⟩ := eqFields_run T H (f2 :: fl) (n + (tyAt E.ti f.type).sz) u' hu hf.2 (Nat.le_trans (Nat.le_max_right _ _) hh) (fun q hq => hnm q (by simp only [List.mem_cons] at hq ⊢; exact .inr hq)) x.2 y.2 (p ++ c1) (p' ++ d1) c2 d2 l1 l2 x2 y2
        rw [List.append_assoc, List.append_assoc] at g1
        refine ⟨b && b2, ?_, ?_⟩
        · rw [Op.eqFields, if_pos (hnm f (by simp))]
          simp only [Sem.run_bind, e1, Result.andThen_ok, e3, e5]
          cases b with
          | false => simp
          | true => simp only [Bool.not_true, Bool.false_eq_true, if_false, Bool.true_and]; exact g1
        · rw [Bool.and_eq_true, e6, g2]
          constructor
          · rintro ⟨h1, h2⟩; exact Prod.ext h1 h2
          · intro h; rw [h]; exact ⟨rfl, rfl⟩
      · cases h

theorem flat_ht {t : Ty} (h : t.flat = true) : 0 < t.ht := by
  induction t with
  | pr a b iha ihb => simp only [Ty.flat, Bool.and_eq_true] at h; have := iha h.1; simp only [Ty.ht]; omega
  | st t ih => simp only [Ty.ht]; omega
  | _ => simp [Ty.ht]

theorem eq_at (T : tabOK P E.ti = true) : ∀ d, EqAt P E d
  | 0 => fun t hf hh => by have := flat_ht hf; omega
  | d + 1 => by
    intro t hf hh w x y cs ds ok ok' vx vy hx hy wx wy
    obtain ⟨ti, k1, k2, k3⟩ := tab_known T (flat_sz hf)
    obtain ⟨sh, ty, b⟩ := ti
    dsimp only at k2 k3
    have hsh := (tab_sized T k1 k3).2
    have key : ∀ (τ : Ty) (e : ty = τ) (hτ : E.tyOf t = τ), τ.flat = true → τ.ht ≤ d + 1 → ∀ (x y : τ.T), Rd w ok τ x cs → Rd w ok' τ y ds → WholeT τ vx cs → WholeT τ vy ds → ∃ b, (Op.equalIn (d + 1) t vx vy).run P w = .ok b w ∧ (b = true ↔ x = y) := by
      intro τ e hτ hf hh x y hx hy wx wy
      unfold shOK at hsh
      split at hsh <;> rename_i g1 g2 g3
      · have g3' : ty = _ := g3
        rw [g3'] at e
        subst e
        rw [rd_int hx wx, rd_int hy wy]
        exact ⟨_, run_equalIn_int (P := P) w d t _ _ _ _ g2, by simp⟩
      · have g3' : ty = _ := g3
        rw [g3'] at e
        subst e
        rw [rd_bool hx wx, rd_bool hy wy]
        exact ⟨_, run_equalIn_bool' (P := P) w d t _ _ g2, by simp⟩
      · have g3' : ty = _ := g3
        rw [g3'] at e
        subst e
        rw [rd_str hx wx, rd_str hy wy]
        refine ⟨_, run_equalIn_string (P := P) w d t _ _ g2, ?_⟩
        simp
      · have g3' : ty = _ := g3
        rw [g3'] at e
        subst e
        cases hf
      · have g3' : ty = _ := g3
        rw [g3'] at e
        subst e
        cases hf
      · have g3' : ty = _ := g3
        rw [g3'] at e
        subst e
        cases hf
      · have g3' : ty = _ := g3
        rw [g3'] at e
        subst e
        rename_i fs fields u
        have g1' : sh = .st fs := g1
        subst g1'
        subst g3'
        obtain ⟨fields', u', h1, h2, h3, h4, h5⟩ := tab_st T k1
        cases h3
        obtain ⟨h6, h7, h8⟩ := h5 hf
        have hfo : P.fieldsOf t = fields' := by unfold Program.fieldsOf; rw [h1]
        rcases wx with ⟨_, rfl⟩ | ⟨h, _⟩
        · rcases wy with ⟨_, rfl⟩ | ⟨h, _⟩
          · rw [run_equalIn_struct w d t _ _ (by rw [h1, hfo]) h6, hfo]
            simp only [Ty.ht] at hh
            have := eqFields_run T (eq_at T d) (w := w) fields'.toList 0 u (by rw [h2]; exact h4) hf (by omega) h8 x y [] [] cs ds rfl rfl hx hy
            simpa using this
          · cases h
        · cases h
      · cases hsh
    exact key _ k2 rfl hf hh x y hx hy wx wy

/-- Types are not nested too deep for '=='. -/
def htOK (ti : List TI) : Bool := ti.all fun i => Nat.ble i.ty.ht 9999
theorem EqOK.of (T : tabOK P E.ti = true) (H : htOK E.ti = true) : EqOK P E := by
  intro t fs u b hf ht w x y cs ds ok ok' hx hy
  have htyof : E.tyOf t = .st u := by simp [Env.tyOf, ht]
  have hht : (Ty.st u).ht ≤ 10000 := by
    simp only [htOK, List.all_eq_true] at H
    have := Nat.le_of_ble_eq_true (H _ (List.mem_of_getElem? ht))
    have h2 : (Ty.st u).ht ≤ 9999 := this
    omega
  have key : ∀ (τ : Ty) (e : E.tyOf t = τ) (hf : τ.flat = true) (hh : τ.ht ≤ 10000) (x y : τ.T), Rd w ok τ x cs → Rd w ok' τ y ds → WholeT τ (.agg cs.toArray) cs → WholeT τ (.agg ds.toArray) ds → ∃ b, (Op.equalIn 10000 t (.agg cs.toArray) (.agg ds.toArray)).run P w = .ok b w ∧ (b = true ↔ x = y) := by
    intro τ e
    subst e
    intro hf hh x y hx hy w1 w2
    exact eq_at T 10000 t hf hh w x y cs ds ok ok' _ _ hx hy w1 w2
  obtain ⟨b, h1, h2⟩ := key (.st u) htyof hf hht x y hx hy (.inl ⟨rfl, rfl⟩) (.inl ⟨rfl, rfl⟩)
  rw [h1]
  congr 1
  rw [Bool.eq_iff_iff, h2]
  simp
end
end Go.Proofs.Ytgcndhlbhlnplaa.Ev

/- Names of rows and variables turned, on the way into a call and back. Over any program. -/
namespace Go.Proofs.Ytgcndhlbhlnplaa.Ev
open Go.RowKit

theorem ren2_roots (f fb : Nat → Nat) (s : SV) : (s.ren2 f fb).roots = s.roots.map f ∧ (s.ren2 f fb).boxes = s.boxes.map fb ∧ (s.ren2 f fb).isSt = s.isSt ∧ (s.ren2 f fb).count = s.count ∧ (s.ren2 f fb).isCh = s.isCh := by
  induction s with
  | st s ih => exact ⟨ih.1, ih.2.1, rfl, rfl, rfl⟩
  | pr a b iha ihb => exact ⟨by simp [SV.ren2, SV.roots, iha.1, ihb.1], by simp [SV.ren2, SV.boxes, iha.2.1, ihb.2.1], rfl, rfl, rfl⟩
  | clo g s ih => exact ⟨ih.1, ih.2.1, rfl, rfl, rfl⟩
  | tup s ih => exact ⟨ih.1, ih.2.1, rfl, rfl, rfl⟩
  | cns a b iha ihb => exact ⟨by simp [SV.ren2, SV.roots, iha.1, ihb.1], by simp [SV.ren2, SV.boxes, iha.2.1, ihb.2.1], rfl, by simp [SV.ren2, SV.count, ihb.2.2.2.1], rfl⟩
  | val t x => cases t <;> exact ⟨rfl, rfl, rfl, rfl, rfl⟩
  | _ => exact ⟨rfl, rfl, rfl, rfl, rfl⟩

section
variable {P : Program} {E E' : Env} {w0 w1 : World} {ok ok1 O : Nat → Prop} {σ σ' : St} {tm tm' : Array Value} {w w' : World} {M M' : Map} {a : Act}

/-- Rows and variables under other names. -/
structure Renm2 (M M' : Map) (f fb : Nat → Nat) (I B : Nat → Prop) : Prop where
  loc : ∀ i, I i → M'.loc (f i) = M.loc i
  blk : ∀ i, B i → M'.blk (fb i) = M.blk i ∧ M'.bn (fb i) = M.bn i ∧ M'.bw (fb i) = M.bw i
theorem RepV_ren2 {f fb : Nat → Nat} {I B : Nat → Prop} (H : Renm2 M M' f fb I B) : ∀ {s : SV} {cs : List Value}, (∀ i ∈ s.roots, I i) → (∀ i ∈ s.boxes, B i) → RepV w0 ok M s cs → RepV w0 ok M' (s.ren2 f fb) cs
  | .val t x, cs, _, _, hs => by cases t <;> exact hs
  | .ref i p, cs, h, _, hs => by
    have e := H.loc i (h i (by simp [SV.roots]))
    simp only [SV.ren2, RepV] at hs ⊢
    rw [e]; exact hs
  | .vw i lo n, cs, h, _, hs => by
    have e := H.loc i (h i (by simp [SV.roots]))
    simp only [SV.ren2, RepV] at hs ⊢
    rw [e]; exact hs
  | .ls i, cs, _, h, hs => by
    obtain ⟨e1, e2, _⟩ := H.blk i (h i (by simp [SV.boxes]))
    simp only [SV.ren2, RepV] at hs ⊢
    rw [e1, e2]; exact hs
  | .st s, cs, h, hb, hs => RepV_ren2 H (s := s) h hb hs
  | .pr a b, cs, h, hb, hs => by
    obtain ⟨c1, c2, rfl, h1, h2⟩ := hs
    exact ⟨c1, c2, rfl, RepV_ren2 H (fun i hi => h i (by simp [SV.roots, hi])) (fun i hi => hb i (by simp [SV.boxes, hi])) h1, RepV_ren2 H (fun i hi => h i (by simp [SV.roots, hi])) (fun i hi => hb i (by simp [SV.boxes, hi])) h2⟩
  | .bp i p o, cs, _, h, hs => by
    obtain ⟨e1, _, _⟩ := H.blk i (h i (by simp [SV.boxes]))
    simp only [SV.ren2, RepV] at hs ⊢
    rw [e1]; exact hs
  | .ep i p n f' o, cs, h, _, hs => by
    have e := H.loc i (h i (by simp [SV.roots]))
    simp only [SV.ren2, RepV] at hs ⊢
    rw [e]; exact hs
  | .lp i n, cs, _, h, hs => by
    obtain ⟨e1, e2, e3⟩ := H.blk i (h i (by simp [SV.boxes]))
    simp only [SV.ren2, RepV] at hs ⊢
    rw [e1, e2, e3]; exact hs
  | .clo g c, cs, h, hb, hs => by
    obtain ⟨caps, rfl, h1⟩ := hs
    exact ⟨caps, rfl, RepV_ren2 H (s := c) h hb h1⟩
  | .no, cs, _, _, hs => hs
  | .un, cs, _, _, hs => hs
  | .tup _, _, _, _, h => h.elim
  | .cns _ _, _, _, _, h => h.elim
  | .nl, _, _, _, h => h.elim
theorem RepB_ren2 {f fb : Nat → Nat} {I B : Nat → Prop} (H : Renm2 M M' f fb I B) {s : SV} : ∀ {cs : List Value}, (∀ i ∈ s.roots, I i) → (∀ i ∈ s.boxes, B i) → RepB w0 ok M s cs → RepB w0 ok M' (s.ren2 f fb) cs := by
  induction s with
  | cns a b iha ihb =>
    intro cs h hb hs
    obtain ⟨c1, c2, rfl, h1, h2⟩ := hs
    exact ⟨c1, c2, rfl, RepV_ren2 H (fun i hi => h i (by simp [SV.roots, hi])) (fun i hi => hb i (by simp [SV.boxes, hi])) h1, ihb (fun i hi => h i (by simp [SV.roots, hi])) (fun i hi => hb i (by simp [SV.boxes, hi])) h2⟩
  | nl => intro cs _ _ hs; exact hs
  | val t x => intro cs h hb hs; exact RepB_of_V (RepV_ren2 H (s := .val t x) h hb hs)
  | ref i p => intro cs h hb hs; exact RepB_of_V (RepV_ren2 H (s := .ref i p) h hb hs)
  | vw i lo n => intro cs h hb hs; exact RepB_of_V (RepV_ren2 H (s := .vw i lo n) h hb hs)
  | ls i => intro cs h hb hs; exact RepB_of_V (RepV_ren2 H (s := .ls i) h hb hs)
  | st s _ => intro cs h hb hs; exact RepB_of_V (RepV_ren2 H (s := .st s) h hb hs)
  | pr a b _ _ => intro cs h hb hs; exact RepB_of_V (RepV_ren2 H (s := .pr a b) h hb hs)
  | bp i p o => intro cs h hb hs; exact RepB_of_V (RepV_ren2 H (s := .bp i p o) h hb hs)
  | ep i p n f o => intro cs h hb hs; exact RepB_of_V (RepV_ren2 H (s := .ep i p n f o) h hb hs)
  | lp i n => intro cs h hb hs; exact RepB_of_V (RepV_ren2 H (s := .lp i n) h hb hs)
  | clo g s _ => intro cs h hb hs; exact RepB_of_V (RepV_ren2 H (s := .clo g s) h hb hs)
  | no => intro cs _ _ hs; exact hs
  | un => intro cs _ _ hs; exact hs
  | tup s _ => intro cs _ _ hs; exact hs.elim
theorem RepT_ren2 {f fb : Nat → Nat} {I B : Nat → Prop} (H : Renm2 M M' f fb I B) {s : SV} : ∀ {vs : List Value}, (∀ i ∈ s.roots, I i) → (∀ i ∈ s.boxes, B i) → RepT w0 ok M s vs → RepT w0 ok M' (s.ren2 f fb) vs := by
  induction s with
  | cns a b iha ihb =>
    intro vs h hb hs
    obtain ⟨v, vs', rfl, ⟨cs, h1, h3⟩, h2⟩ := hs
    exact ⟨v, vs', rfl, ⟨cs, RepV_ren2 H (fun i hi => h i (by simp [SV.roots, hi])) (fun i hi => hb i (by simp [SV.boxes, hi])) h1, by rw [(ren2_roots f fb a).2.2.1]; exact h3⟩, ihb (fun i hi => h i (by simp [SV.roots, hi])) (fun i hi => hb i (by simp [SV.boxes, hi])) h2⟩
  | nl => intro vs _ _ hs; exact hs
  | _ => intro vs _ _ hs; exact hs.elim
theorem RepS_ren2 {f fb : Nat → Nat} {I B : Nat → Prop} (H : Renm2 M M' f fb I B) {s : SV} {v : Value} (h : ∀ i ∈ s.roots, I i) (hb : ∀ i ∈ s.boxes, B i) (hs : RepS w0 ok M s v) : RepS w0 ok M' (s.ren2 f fb) v := by
  rcases RepS_cases hs with rfl | ⟨c, vs, rfl, rfl, h1⟩ | ⟨cs, h1, h2⟩
  · trivial
  · exact ⟨vs, rfl, RepT_ren2 H h hb h1⟩
  · exact RepS_of (RepV_ren2 H h hb h1) (by unfold Whole; rw [(ren2_roots f fb s).2.2.1]; exact h2)

/-- Rows whose inside may be another, under the same header. -/
def SameHd (x y : Loc) : Prop := ∃ e t, ∃ l l' : L (.sl e t), x = ⟨.sl e t, l⟩ ∧ y = ⟨.sl e t, l'⟩ ∧ l'.1 = l.1 ∧ l'.2.1 = l.2.1 ∧ l'.2.2.length = l.2.2.length
structure Near (M M' : Map) (gr dp gb db : Nat → Bool) (S : SV) : Prop where
  loc : ∀ i ∈ S.roots, gr i = false → (dp i = false → M'.loc i = M.loc i) ∧ SameHd (M.loc i) (M'.loc i)
  blk : ∀ i ∈ S.boxes, gb i = false → M'.blk i = M.blk i ∧ (db i = false → M'.bn i = M.bn i ∧ M'.bw i = M.bw i)
  gd : ∀ i, gb i = true → db i = true
theorem Near.mono {gr dp gb db : Nat → Bool} {s s' : SV} (h : Near M M' gr dp gb db s) (h1 : ∀ i ∈ s'.roots, i ∈ s.roots) (h2 : ∀ i ∈ s'.boxes, i ∈ s.boxes) : Near M M' gr dp gb db s' :=
  ⟨fun i hi => h.loc i (h1 i hi), fun i hi => h.blk i (h2 i hi), h.gd⟩
theorem ixs_zero_sl {p : List Step} {e : TypeId} {t : Ty} {l : L (.sl e t)} {y : Loc} (h : subL (.sl e t) l p = some y) (hp : Nat.blt 0 (ixs p) = false) : p = [] := by
  match p with
  | [] => rfl
  | .ix n :: p =>
    have : Nat.blt 0 (ixs (.ix n :: p)) = true := Nat.ble_eq_true_of_le (by simp [ixs])
    rw [this] at hp; cases hp
  | .f _ :: _ => cases h
  | .u :: _ => cases h
theorem un_of {s : SV} {cs : List Value} (hw : Wk s .un) (h : RepV w0 ok M s cs) : RepV w0 ok M' .un cs :=
  have q : RepV w0 ok M .un cs := hw.V h
  q
theorem RepV_cut {gr dp gb db : Nat → Bool} : ∀ {s : SV} {cs : List Value}, Near M M' gr dp gb db s → RepV w0 ok M s cs → RepV w0 ok M' (s.cutR gr dp gb db) cs
  | .val t x, cs, _, hs => by cases t <;> exact hs
  | .ref i p, cs, h, hs => by
    obtain ⟨h1, _, _⟩ := h
    have h1 := h1 i (by simp [SV.roots])
    simp only [SV.cutR]
    cases hg : gr i with
    | true => simp only [Bool.true_or, cond_true]; exact un_of (Wk.ref i p) hs
    | false =>
      obtain ⟨e1, e, t, l, l', e2, e3, e4, e5, e6⟩ := h1 hg
      cases hd : dp i with
      | false => simp only [Bool.false_and, Bool.or_false, cond_false]; simp only [RepV] at hs ⊢; rw [e1 hd]; exact hs
      | true =>
        cases hp : Nat.blt 0 (ixs p) with
        | true => simp only [Bool.false_or, Bool.and_self, cond_true]; exact un_of (Wk.ref i p) hs
        | false =>
          simp only [Bool.and_false, Bool.or_false, cond_false]
          obtain ⟨e', t', q, h2, rfl⟩ := hs
          rw [e2] at h2
          have := ixs_zero_sl h2 hp
          subst this
          cases h2
          exact ⟨e, t, l', by rw [e3]; rfl, by simp [cellsL, e4, e5, e6]⟩
  | .vw i lo n, cs, h, hs => by
    obtain ⟨h1, _, _⟩ := h
    have h1 := h1 i (by simp [SV.roots])
    simp only [SV.cutR]
    cases hg : gr i with
    | true => simp only [cond_true]; exact un_of (Wk.vw i lo n) hs
    | false =>
      simp only [cond_false]
      obtain ⟨e1, e, t, l, l', e2, e3, e4, e5, e6⟩ := h1 hg
      obtain ⟨e', t', q, h2, h3, A, c, rfl, h4, h5⟩ := hs
      rw [e2] at h2
      cases h2
      exact ⟨e, t, l', e3, by rw [e6]; exact h3, A, c, rfl, by rw [e5]; exact h4, by rw [e4]; exact h5⟩
  | .ls i, cs, h, hs => by
    obtain ⟨_, h1, gd⟩ := h
    have h1 := h1 i (by simp [SV.boxes])
    simp only [SV.cutR]
    cases hd : db i with
    | true => simp only [cond_true]; exact un_of (Wk.ls i) hs
    | false =>
      simp only [cond_false]
      cases hg : gb i with
      | true => rw [gd i hg] at hd; cases hd
      | false =>
        obtain ⟨e1, e2⟩ := h1 hg
        simp only [RepV] at hs ⊢
        rw [e1, (e2 hd).1]; exact hs
  | .st s, cs, h, hs => RepV_cut (s := s) (h.mono (fun _ hi => hi) (fun _ hi => hi)) hs
  | .pr a b, cs, h, hs => by
    obtain ⟨c1, c2, rfl, h1, h2⟩ := hs
    exact ⟨c1, c2, rfl, RepV_cut (h.mono (fun i hi => by simp [SV.roots, hi]) (fun i hi => by simp [SV.boxes, hi])) h1, RepV_cut (h.mono (fun i hi => by simp [SV.roots, hi]) (fun i hi => by simp [SV.boxes, hi])) h2⟩
  | .bp i p o, cs, h, hs => by
    obtain ⟨_, h1, gd⟩ := h
    have h1 := h1 i (by simp [SV.boxes])
    simp only [SV.cutR]
    cases hg : gb i with
    | true => simp only [cond_true]; exact un_of (Wk.bp i p o) hs
    | false => simp only [cond_false]; simp only [RepV] at hs ⊢; rw [(h1 hg).1]; exact hs
  | .ep i p n f o, cs, h, hs => by
    obtain ⟨h1, _, _⟩ := h
    have h1 := h1 i (by simp [SV.roots])
    simp only [SV.cutR]
    cases hg : gr i with
    | true => simp only [Bool.true_or, cond_true]; exact un_of (Wk.ep i p n f o) hs
    | false =>
      obtain ⟨e1, e, t, l, l', e2, e3, e4, e5, e6⟩ := h1 hg
      cases hd : dp i with
      | false => simp only [Bool.false_and, Bool.or_false, cond_false]; simp only [RepV] at hs ⊢; rw [e1 hd]; exact hs
      | true =>
        cases hp : Nat.blt 0 (ixs p) with
        | true => simp only [Bool.false_or, Bool.and_self, cond_true]; exact un_of (Wk.ep i p n f o) hs
        | false =>
          simp only [Bool.and_false, Bool.or_false, cond_false]
          obtain ⟨e', t', q, g, h2, h3, h4, rfl⟩ := hs
          rw [e2] at h2
          have := ixs_zero_sl h2 hp
          subst this
          cases h2
          exact ⟨e, t, l', g, by rw [e3]; rfl, by rw [e4]; exact h3, by rw [e6]; exact h4, rfl⟩
  | .lp i n, cs, h, hs => by
    obtain ⟨_, h1, gd⟩ := h
    have h1 := h1 i (by simp [SV.boxes])
    simp only [SV.cutR]
    cases hd : db i with
    | true => simp only [cond_true]; exact un_of (Wk.lp i n) hs
    | false =>
      simp only [cond_false]
      cases hg : gb i with
      | true => rw [gd i hg] at hd; cases hd
      | false =>
        obtain ⟨e1, e2⟩ := h1 hg
        simp only [RepV] at hs ⊢
        rw [e1, (e2 hd).1, (e2 hd).2]; exact hs
  | .clo g c, cs, h, hs => by
    obtain ⟨caps, rfl, h1⟩ := hs
    exact ⟨caps, rfl, RepV_cut (s := c) (h.mono (fun _ hi => hi) (fun _ hi => hi)) h1⟩
  | .no, cs, _, hs => hs
  | .un, cs, _, hs => hs
  | .tup _, _, _, h => h.elim
  | .cns _ _, _, _, h => h.elim
  | .nl, _, _, h => h.elim
end
end Go.Proofs.Ytgcndhlbhlnplaa.Ev

/- Into a call that is handed rows and variables, and back. Over any program. -/
namespace Go.Proofs.Ytgcndhlbhlnplaa.Ev
open Go.RowKit

theorem has_iff {l : List Nat} {i : Nat} : has l i = true ↔ i ∈ l := by
  unfold has
  rw [List.any_eq_true]
  constructor
  · rintro ⟨j, hj, h⟩; exact Nat.eq_of_beq_eq_true h ▸ hj
  · intro h; exact ⟨i, h, by simp⟩
theorem has_not {l : List Nat} {i : Nat} : has l i = false ↔ i ∉ l := by
  rw [← has_iff]; simp
theorem nodup_of : ∀ {l : List Nat}, nodupB l = true → l.Nodup
  | [], _ => List.nodup_nil
  | i :: l, h => by
    simp only [nodupB, Bool.and_eq_true] at h
    refine List.nodup_cons.2 ⟨fun hm => ?_, nodup_of h.2⟩
    have : l.any (Nat.beq i) = true := List.any_eq_true.2 ⟨i, hm, by simp⟩
    rw [this] at h
    simp at h
theorem nthD_get : ∀ {l : List Nat} {k i : Nat}, l[k]? = some i → nthD l k = i
  | [], k, i, h => by simp at h
  | j :: l, 0, i, h => by simpa [nthD] using h
  | j :: l, k + 1, i, h => by simp only [List.getElem?_cons_succ] at h; exact nthD_get (l := l) (k := k) h
theorem nthD_mem {l : List Nat} {k : Nat} (h : k < l.length) : ∃ i, l[k]? = some i ∧ nthD l k = i ∧ i ∈ l := by
  have := List.getElem?_eq_getElem h
  exact ⟨_, this, nthD_get this, List.getElem_mem h⟩
theorem nodup_ix {l : List Nat} (h : l.Nodup) {k m i : Nat} (h1 : l[k]? = some i) (h2 : l[m]? = some i) : k = m := by
  obtain ⟨k1, e1⟩ := List.getElem?_eq_some_iff.1 h1
  obtain ⟨k2, e2⟩ := List.getElem?_eq_some_iff.1 h2
  exact nodup_inj h k1 k2 (e1.trans e2.symm)
theorem pinId_spec {ids : List Nat} {i : Nat} (h : i ∈ ids) : ∃ k, pinId ids i = PIN + k ∧ ids[k]? = some i := by
  obtain ⟨k, h1, h2⟩ := indexOf_spec ids i 0 h
  exact ⟨k, by unfold pinId; rw [h1, Nat.zero_add], h2⟩
theorem nth_pin {ids : List Nat} {i : Nat} (h : i ∈ ids) : nthD ids (pinId ids i - PIN) = i := by
  obtain ⟨k, h1, h2⟩ := pinId_spec h
  rw [h1, Nat.add_sub_cancel_left]
  exact nthD_get h2
theorem lk_memN {α : Type} : ∀ {l : List (Nat × α)} {j : Nat} {r : α}, (l.map (·.1)).Nodup → (j, r) ∈ l → lk l j = some r
  | [], j, r, _, h => by cases h
  | (i, x) :: l, j, r, hn, h => by
    rw [lk_cons]
    simp only [List.map_cons, List.nodup_cons] at hn
    rcases List.mem_cons.1 h with e | h
    · cases e; rw [if_pos rfl]
    · rw [if_neg (fun e => hn.1 (List.mem_map.2 ⟨(j, r), h, e.symm⟩))]
      exact lk_memN hn.2 h
theorem lk_key {α : Type} {l : List (Nat × α)} {j : Nat} {r : α} (h : lk l j = some r) : j ∈ l.map (·.1) := List.mem_map.2 ⟨(j, r), lk_mem h, rfl⟩
theorem key_lk {α : Type} : ∀ {l : List (Nat × α)} {j : Nat}, j ∈ l.map (·.1) → ∃ r, lk l j = some r
  | [], j, h => by cases h
  | (i, x) :: l, j, h => by
    rw [lk_cons]
    by_cases e : i = j
    · exact ⟨x, by rw [if_pos e]⟩
    · rw [if_neg e]
      simp only [List.map_cons, List.mem_cons] at h
      exact key_lk (h.resolve_left (fun q => e q.symm))
theorem lk_sans {α : Type} (ids : List Nat) : ∀ (l : List (Nat × α)) (i : Nat), lk (sans ids l) i = if i ∈ ids then none else lk l i
  | [], i => by simp [sans, lk]
  | (j, x) :: l, i => by
    simp only [sans]
    cases h : has ids j with
    | true =>
      have := has_iff.1 h
      simp only [cond_true]
      rw [lk_sans ids l i, lk_cons]
      by_cases e : j = i
      · subst e; rw [if_pos this, if_pos this]
      · rw [if_neg e]
    | false =>
      have := has_not.1 h
      simp only [cond_false]
      rw [lk_cons, lk_cons, lk_sans ids l i]
      by_cases e : j = i
      · subst e; rw [if_pos rfl, if_neg this, if_pos rfl]
      · rw [if_neg e, if_neg e]
theorem reRows_mem {f : Nat → Nat} : ∀ {l : List (Nat × Row)} {i : Nat} {r : Row}, (i, r) ∈ reRows f l ↔ ∃ j, f j = i ∧ (j, r) ∈ l
  | [], i, r => by simp [reRows]
  | (k, x) :: l, i, r => by
    simp only [reRows, List.mem_cons, reRows_mem (l := l), Prod.mk.injEq]
    constructor
    · rintro (⟨rfl, rfl⟩ | ⟨j, h1, h2⟩)
      · exact ⟨k, rfl, .inl ⟨rfl, rfl⟩⟩
      · exact ⟨j, h1, .inr h2⟩
    · rintro ⟨j, h1, ⟨rfl, rfl⟩ | h2⟩
      · exact .inl ⟨h1.symm, rfl⟩
      · exact .inr ⟨j, h1, h2⟩
theorem reBx_mem {f fb : Nat → Nat} : ∀ {l : List (Nat × Bx)} {i : Nat} {b : Bx}, (i, b) ∈ reBx f fb l ↔ ∃ j b0, fb j = i ∧ (j, b0) ∈ l ∧ b = ⟨b0.ty, b0.c.ren2 f fb⟩
  | [], i, r => by simp [reBx]
  | (k, x) :: l, i, r => by
    simp only [reBx, List.mem_cons, reBx_mem (l := l), Prod.mk.injEq]
    constructor
    · rintro (⟨rfl, rfl⟩ | ⟨j, b0, h1, h2, h3⟩)
      · exact ⟨k, x, rfl, .inl ⟨rfl, rfl⟩, rfl⟩
      · exact ⟨j, b0, h1, .inr h2, h3⟩
    · rintro ⟨j, b0, h1, ⟨rfl, rfl⟩ | h2, h3⟩
      · exact .inl ⟨h1.symm, h3⟩
      · exact .inr ⟨j, b0, h1, h2, h3⟩
theorem reRows_keys (f : Nat → Nat) : ∀ l : List (Nat × Row), (reRows f l).map (·.1) = (l.map (·.1)).map f
  | [] => rfl
  | (k, x) :: l => by simp [reRows, reRows_keys f l]
theorem reBx_keys (f fb : Nat → Nat) : ∀ l : List (Nat × Bx), (reBx f fb l).map (·.1) = (l.map (·.1)).map fb
  | [] => rfl
  | (k, x) :: l => by simp [reBx, reBx_keys f fb l]
theorem slotsOf_lk : ∀ {l : List SV} {n j : Nat} {s : SV}, lk (slotsOf l n) j = some s → ∃ k, j = n + k ∧ l[k]? = some s
  | [], n, j, s, h => by cases h
  | x :: l, n, j, s, h => by
    simp only [slotsOf, lk_cons] at h
    split at h
    · rename_i e; cases h; exact ⟨0, by omega, rfl⟩
    · obtain ⟨k, h1, h2⟩ := slotsOf_lk h
      exact ⟨k + 1, by omega, by simpa using h2⟩
theorem pickRows_lk {rows : List (Nat × Row)} : ∀ {ids : List Nat} {n j : Nat} {r : Row}, lk (pickRows rows ids n) j = some r → ∃ k i, j = n + k ∧ ids[k]? = some i ∧ lk rows i = some r
  | [], n, j, r, h => by cases h
  | i :: l, n, j, r, h => by
    have ih : lk (pickRows rows l (n + 1)) j = some r → ∃ k i', j = n + k ∧ (i :: l)[k]? = some i' ∧ lk rows i' = some r := fun h => by
      obtain ⟨k, i', h1, h2, h3⟩ := pickRows_lk h
      exact ⟨k + 1, i', by omega, by simpa using h2, h3⟩
    simp only [pickRows] at h
    split at h
    · rename_i x hx
      rw [lk_cons] at h
      split at h
      · rename_i e; cases h; exact ⟨0, i, by omega, rfl, hx⟩
      · exact ih h
    · exact ih h
theorem pickRows_ge {rows : List (Nat × Row)} {ids : List Nat} {n j : Nat} (h : j < n) : lk (pickRows rows ids n) j = none := by
  cases hq : lk (pickRows rows ids n) j with
  | none => rfl
  | some r => obtain ⟨k, i, h1, _⟩ := pickRows_lk hq; omega
theorem pickRows_ex {rows : List (Nat × Row)} : ∀ {ids : List Nat} {n k i : Nat} {r : Row}, ids[k]? = some i → lk rows i = some r → lk (pickRows rows ids n) (n + k) = some r
  | [], n, k, i, r, h, _ => by simp at h
  | j :: l, n, 0, i, r, h, hr => by
    simp at h; subst h
    simp only [pickRows, hr, Nat.add_zero]
    exact lk_self _ _ _
  | j :: l, n, k + 1, i, r, h, hr => by
    simp only [List.getElem?_cons_succ] at h
    have := pickRows_ex (n := n + 1) h hr
    simp only [pickRows]
    split
    · rw [lk_cons, if_neg (by omega), show n + (k + 1) = n + 1 + k by omega]; exact this
    · rw [show n + (k + 1) = n + 1 + k by omega]; exact this
theorem pickBx_lk {bx : List (Nat × Bx)} {f fb : Nat → Nat} : ∀ {ids : List Nat} {n j : Nat} {b : Bx}, lk (pickBx bx f fb ids n) j = some b → ∃ k i b0, j = n + k ∧ ids[k]? = some i ∧ lk bx i = some b0 ∧ b = ⟨b0.ty, b0.c.ren2 f fb⟩
  | [], n, j, r, h => by cases h
  | i :: l, n, j, r, h => by
    have ih : lk (pickBx bx f fb l (n + 1)) j = some r → ∃ k i' b0, j = n + k ∧ (i :: l)[k]? = some i' ∧ lk bx i' = some b0 ∧ r = ⟨b0.ty, b0.c.ren2 f fb⟩ := fun h => by
      obtain ⟨k, i', b0, h1, h2, h3⟩ := pickBx_lk h
      exact ⟨k + 1, i', b0, by omega, by simpa using h2, h3⟩
    simp only [pickBx] at h
    split at h
    · rename_i x hx
      rw [lk_cons] at h
      split at h
      · rename_i e; cases h; exact ⟨0, i, x, by omega, rfl, hx, rfl⟩
      · exact ih h
    · exact ih h
theorem pickBx_ex {bx : List (Nat × Bx)} {f fb : Nat → Nat} : ∀ {ids : List Nat} {n k i : Nat} {b : Bx}, ids[k]? = some i → lk bx i = some b → lk (pickBx bx f fb ids n) (n + k) = some ⟨b.ty, b.c.ren2 f fb⟩
  | [], n, k, i, r, h, _ => by simp at h
  | j :: l, n, 0, i, r, h, hr => by
    simp at h; subst h
    simp only [pickBx, hr, Nat.add_zero]
    exact lk_self _ _ _
  | j :: l, n, k + 1, i, r, h, hr => by
    simp only [List.getElem?_cons_succ] at h
    have := pickBx_ex (f := f) (fb := fb) (n := n + 1) h hr
    simp only [pickBx]
    split
    · rw [lk_cons, if_neg (by omega), show n + (k + 1) = n + 1 + k by omega]; exact this
    · rw [show n + (k + 1) = n + 1 + k by omega]; exact this
theorem cutR_roots (gr dp gb db : Nat → Bool) (gd : ∀ i, gb i = true → db i = true) (s : SV) : (∀ i ∈ (s.cutR gr dp gb db).roots, i ∈ s.roots ∧ gr i = false) ∧ (∀ i ∈ (s.cutR gr dp gb db).boxes, i ∈ s.boxes ∧ gb i = false) ∧ (s.cutR gr dp gb db).isSt = s.isSt ∧ (s.cutR gr dp gb db).count = s.count ∧ (s.cutR gr dp gb db).isCh = s.isCh := by
  induction s with
  | st s ih => exact ⟨ih.1, ih.2.1, rfl, rfl, rfl⟩
  | pr a b iha ihb =>
    refine ⟨fun i hi => ?_, fun i hi => ?_, rfl, rfl, rfl⟩
    · simp only [SV.cutR, SV.roots, List.mem_append] at hi ⊢
      rcases hi with h | h
      · exact ⟨.inl (iha.1 i h).1, (iha.1 i h).2⟩
      · exact ⟨.inr (ihb.1 i h).1, (ihb.1 i h).2⟩
    · simp only [SV.cutR, SV.boxes, List.mem_append] at hi ⊢
      rcases hi with h | h
      · exact ⟨.inl (iha.2.1 i h).1, (iha.2.1 i h).2⟩
      · exact ⟨.inr (ihb.2.1 i h).1, (ihb.2.1 i h).2⟩
  | clo g s ih => exact ⟨ih.1, ih.2.1, rfl, rfl, rfl⟩
  | tup s ih => exact ⟨ih.1, ih.2.1, rfl, rfl, rfl⟩
  | cns a b iha ihb =>
    refine ⟨fun i hi => ?_, fun i hi => ?_, rfl, by simp [SV.cutR, SV.count, ihb.2.2.2.1], rfl⟩
    · simp only [SV.cutR, SV.roots, List.mem_append] at hi ⊢
      rcases hi with h | h
      · exact ⟨.inl (iha.1 i h).1, (iha.1 i h).2⟩
      · exact ⟨.inr (ihb.1 i h).1, (ihb.1 i h).2⟩
    · simp only [SV.cutR, SV.boxes, List.mem_append] at hi ⊢
      rcases hi with h | h
      · exact ⟨.inl (iha.2.1 i h).1, (iha.2.1 i h).2⟩
      · exact ⟨.inr (ihb.2.1 i h).1, (ihb.2.1 i h).2⟩
  | ref j p =>
    simp only [SV.cutR]
    cases hg : gr j with
    | true => exact ⟨by simp [SV.roots], by simp [SV.boxes], rfl, rfl, rfl⟩
    | false =>
      cases hq : (dp j && Nat.blt 0 (ixs p)) with
      | true => exact ⟨by simp [SV.roots], by simp [SV.boxes], rfl, rfl, rfl⟩
      | false => exact ⟨fun i hi => by simp [SV.roots] at hi ⊢; subst hi; exact ⟨rfl, hg⟩, by simp [SV.boxes], rfl, rfl, rfl⟩
  | vw j p n =>
    simp only [SV.cutR]
    cases hg : gr j with
    | true => exact ⟨by simp [SV.roots], by simp [SV.boxes], rfl, rfl, rfl⟩
    | false => exact ⟨fun i hi => by simp [SV.roots] at hi ⊢; subst hi; exact ⟨rfl, hg⟩, by simp [SV.boxes], rfl, rfl, rfl⟩
  | ep j p n f o =>
    simp only [SV.cutR]
    cases hg : gr j with
    | true => exact ⟨by simp [SV.roots], by simp [SV.boxes], rfl, rfl, rfl⟩
    | false =>
      cases hq : (dp j && Nat.blt 0 (ixs p)) with
      | true => exact ⟨by simp [SV.roots], by simp [SV.boxes], rfl, rfl, rfl⟩
      | false => exact ⟨fun i hi => by simp [SV.roots] at hi ⊢; subst hi; exact ⟨rfl, hg⟩, by simp [SV.boxes], rfl, rfl, rfl⟩
  | bp j p o =>
    simp only [SV.cutR]
    cases hg : gb j with
    | true => exact ⟨by simp [SV.roots], by simp [SV.boxes], rfl, rfl, rfl⟩
    | false => exact ⟨by simp [SV.roots], fun i hi => by simp [SV.boxes] at hi ⊢; subst hi; exact ⟨rfl, hg⟩, rfl, rfl, rfl⟩
  | ls j =>
    simp only [SV.cutR]
    cases hg : db j with
    | true => exact ⟨by simp [SV.roots], by simp [SV.boxes], rfl, rfl, rfl⟩
    | false => exact ⟨by simp [SV.roots], fun i hi => by
        simp [SV.boxes] at hi ⊢; subst hi
        exact ⟨rfl, by cases hq : gb i with | false => rfl | true => rw [gd i hq] at hg; cases hg⟩, rfl, rfl, rfl⟩
  | lp j n =>
    simp only [SV.cutR]
    cases hg : db j with
    | true => exact ⟨by simp [SV.roots], by simp [SV.boxes], rfl, rfl, rfl⟩
    | false => exact ⟨by simp [SV.roots], fun i hi => by
        simp [SV.boxes] at hi ⊢; subst hi
        exact ⟨rfl, by cases hq : gb i with | false => rfl | true => rw [gd i hq] at hg; cases hg⟩, rfl, rfl, rfl⟩
  | val t x => cases t <;> exact ⟨by simp [SV.cutR, SV.roots], by simp [SV.cutR, SV.boxes], rfl, rfl, rfl⟩
  | _ => exact ⟨by simp [SV.cutR, SV.roots], by simp [SV.cutR, SV.boxes], rfl, rfl, rfl⟩

section
variable {P : Program} {E E' : Env} {w0 w1 : World} {ok ok1 O : Nat → Prop} {σ σ' τ : St} {tm tm' : Array Value} {w w' : World} {M M' : Map} {a : Act}

theorem RepB_cut {gr dp gb db : Nat → Bool} {s : SV} : ∀ {cs : List Value}, Near M M' gr dp gb db s → RepB w0 ok M s cs → RepB w0 ok M' (s.cutR gr dp gb db) cs := by
  induction s with
  | cns a b iha ihb =>
    intro cs h hs
    obtain ⟨c1, c2, rfl, h1, h2⟩ := hs
    exact ⟨c1, c2, rfl, RepV_cut (h.mono (fun i hi => by simp [SV.roots, hi]) (fun i hi => by simp [SV.boxes, hi])) h1, ihb (h.mono (fun i hi => by simp [SV.roots, hi]) (fun i hi => by simp [SV.boxes, hi])) h2⟩
  | nl => intro cs _ hs; exact hs
  | val t x => intro cs h hs; exact RepB_of_V (RepV_cut (s := .val t x) h hs)
  | ref i p => intro cs h hs; exact RepB_of_V (RepV_cut (s := .ref i p) h hs)
  | vw i lo n => intro cs h hs; exact RepB_of_V (RepV_cut (s := .vw i lo n) h hs)
  | ls i => intro cs h hs; exact RepB_of_V (RepV_cut (s := .ls i) h hs)
  | st s _ => intro cs h hs; exact RepB_of_V (RepV_cut (s := .st s) h hs)
  | pr a b _ _ => intro cs h hs; exact RepB_of_V (RepV_cut (s := .pr a b) h hs)
  | bp i p o => intro cs h hs; exact RepB_of_V (RepV_cut (s := .bp i p o) h hs)
  | ep i p n f o => intro cs h hs; exact RepB_of_V (RepV_cut (s := .ep i p n f o) h hs)
  | lp i n => intro cs h hs; exact RepB_of_V (RepV_cut (s := .lp i n) h hs)
  | clo g s _ => intro cs h hs; exact RepB_of_V (RepV_cut (s := .clo g s) h hs)
  | no => intro cs _ hs; exact hs
  | un => intro cs _ hs; exact hs
  | tup s _ => intro cs _ hs; exact hs.elim
theorem RepT_cut {gr dp gb db : Nat → Bool} (gd : ∀ i, gb i = true → db i = true) {s : SV} : ∀ {vs : List Value}, Near M M' gr dp gb db s → RepT w0 ok M s vs → RepT w0 ok M' (s.cutR gr dp gb db) vs := by
  induction s with
  | cns a b iha ihb =>
    intro vs h hs
    obtain ⟨v, vs', rfl, ⟨cs, h1, h3⟩, h2⟩ := hs
    exact ⟨v, vs', rfl, ⟨cs, RepV_cut (h.mono (fun i hi => by simp [SV.roots, hi]) (fun i hi => by simp [SV.boxes, hi])) h1, by rw [(cutR_roots gr dp gb db gd a).2.2.1]; exact h3⟩, ihb (h.mono (fun i hi => by simp [SV.roots, hi]) (fun i hi => by simp [SV.boxes, hi])) h2⟩
  | nl => intro vs _ hs; exact hs
  | _ => intro vs _ hs; exact hs.elim
theorem RepS_cut {gr dp gb db : Nat → Bool} {s : SV} {v : Value} (h : Near M M' gr dp gb db s) (hs : RepS w0 ok M s v) : RepS w0 ok M' (s.cutR gr dp gb db) v := by
  rcases RepS_cases hs with rfl | ⟨c, vs, rfl, rfl, h1⟩ | ⟨cs, h1, h2⟩
  · trivial
  · exact ⟨vs, rfl, RepT_cut h.gd (s := c) (h.mono (fun i hi => hi) (fun i hi => hi)) h1⟩
  · exact RepS_of (RepV_cut h h1) (by unfold Whole; rw [(cutR_roots gr dp gb db h.gd s).2.2.1]; exact h2)

/-- Where what is handed over lies. -/
def Own (M : Map) (ids bids : List Nat) (k : Nat) : Prop := (∃ i ∈ ids, k ∈ blocksL (M.loc i).1 (M.loc i).2) ∨ ∃ b ∈ bids, k = M.blk b
def mapIn (M : Map) (ids bids : List Nat) : Map := ⟨fun j => M.loc (nthD ids (j - PIN)), fun j => M.blk (nthD bids (j - PIN)), fun j => M.bn (nthD bids (j - PIN)), fun j => M.bw (nthD bids (j - PIN))⟩
def hdL (x : Loc) : Value := (cellsL x.1 x.2).headD undef
def envIn (E : Env) (M : Map) (ids bids : List Nat) : Env := { E with pins := fun j => hdL (M.loc (nthD ids (j - PIN))), pinB := fun j => M.blk (nthD bids (j - PIN)) }

structure InOK (σ : St) (l : List SV) (ids bids : List Nat) : Prop where
  nd : ids.Nodup
  ndB : bids.Nodup
  args : ∀ s ∈ l, (∀ i ∈ s.roots, i ∈ ids) ∧ ∀ i ∈ s.boxes, i ∈ bids
  bx : ∀ b ∈ bids, ∃ x, lk σ.bx b = some x ∧ (∀ i ∈ x.c.boxes, i ∈ bids) ∧ ∀ i ∈ x.c.roots, i ∈ ids
  rows : ∀ i ∈ ids, ∃ r, lk σ.rows i = some r
theorem okIn_spec {l : List SV} {ids bids : List Nat} (h : σ.okIn l ids bids = true) : InOK σ l ids bids := by
  simp only [St.okIn, Bool.and_eq_true, List.all_eq_true] at h
  obtain ⟨h1, h2, h3, h4, h5⟩ := h
  refine ⟨nodup_of h1, nodup_of h2, fun s hs => ⟨fun i hi => has_iff.1 ((h3 s hs).1 i hi), fun i hi => has_iff.1 ((h3 s hs).2 i hi)⟩, fun b hb => ?_, fun i hi => ?_⟩
  · obtain ⟨k1, k2, k3⟩ := h4 b hb
    unfold boxOf at k2
    unfold rootOf at k3
    cases hq : lk σ.bx b with
    | none => rw [hq] at k1; cases k1
    | some x => rw [hq] at k2 k3; exact ⟨x, rfl, fun i hi => has_iff.1 (k2 i hi), fun i hi => has_iff.1 (k3 i hi)⟩
  · have := h5 i hi
    cases hq : lk σ.rows i with
    | none => rw [hq] at this; cases this
    | some r => exact ⟨r, rfl⟩

theorem cellsL_hd {x : Loc} {e : TypeId} {t : Ty} {l : L (.sl e t)} (h : x = ⟨.sl e t, l⟩) : cellsL x.1 x.2 = [hdL x] := by subst h; rfl

theorem enter_rep (R : Rep E w0 ok O σ tm w M) {l : List SV} {vs : List Value} {ids bids : List Nat} (H : InOK σ l ids bids) (hl : l.length = vs.length) (hs : ∀ (k : Nat) s v, l[k]? = some s → vs[k]? = some v → RepS w0 ok M s v) :
    Rep (envIn E M ids bids) w ok (Own M ids bids) ⟨slotsOf (l.map (SV.ren2 (pinId ids) (pinId bids))) 0, pickRows σ.rows ids PIN, pickBx σ.bx (pinId ids) (pinId bids) bids PIN⟩ vs.toArray w (mapIn M ids bids) := by
  have HR : Renm2 M (mapIn M ids bids) (pinId ids) (pinId bids) (· ∈ ids) (· ∈ bids) :=
    ⟨fun i hi => by show M.loc (nthD ids (pinId ids i - PIN)) = _; rw [nth_pin hi], fun i hi => by
      refine ⟨?_, ?_, ?_⟩
      · show M.blk (nthD bids (pinId bids i - PIN)) = _; rw [nth_pin hi]
      · show M.bn (nthD bids (pinId bids i - PIN)) = _; rw [nth_pin hi]
      · show M.bw (nthD bids (pinId bids i - PIN)) = _; rw [nth_pin hi]⟩
  have row : ∀ j r, lk (pickRows σ.rows ids PIN) j = some r → ∃ k i, j = PIN + k ∧ ids[k]? = some i ∧ i ∈ ids ∧ lk σ.rows i = some r ∧ (mapIn M ids bids).loc j = M.loc i := fun j r h => by
    obtain ⟨k, i, rfl, h2, h3⟩ := pickRows_lk h
    exact ⟨k, i, rfl, h2, List.mem_of_getElem? h2, h3, by show M.loc (nthD ids (PIN + k - PIN)) = _; rw [Nat.add_sub_cancel_left, nthD_get h2]⟩
  have box : ∀ j b, lk (pickBx σ.bx (pinId ids) (pinId bids) bids PIN) j = some b → ∃ k i b0, j = PIN + k ∧ bids[k]? = some i ∧ i ∈ bids ∧ lk σ.bx i = some b0 ∧ b = ⟨b0.ty, b0.c.ren2 (pinId ids) (pinId bids)⟩ ∧ (mapIn M ids bids).blk j = M.blk i ∧ (mapIn M ids bids).bn j = M.bn i ∧ (mapIn M ids bids).bw j = M.bw i := fun j b h => by
    obtain ⟨k, i, b0, rfl, h2, h3, h4⟩ := pickBx_lk h
    refine ⟨k, i, b0, rfl, h2, List.mem_of_getElem? h2, h3, h4, ?_, ?_, ?_⟩
    · show M.blk (nthD bids (PIN + k - PIN)) = _; rw [Nat.add_sub_cancel_left, nthD_get h2]
    · show M.bn (nthD bids (PIN + k - PIN)) = _; rw [Nat.add_sub_cancel_left, nthD_get h2]
    · show M.bw (nthD bids (PIN + k - PIN)) = _; rw [Nat.add_sub_cancel_left, nthD_get h2]
  have live : ∀ s : SV, (∀ i ∈ s.roots, i ∈ ids) → (∀ i ∈ s.boxes, i ∈ bids) → Live ⟨slotsOf (l.map (SV.ren2 (pinId ids) (pinId bids))) 0, pickRows σ.rows ids PIN, pickBx σ.bx (pinId ids) (pinId bids) bids PIN⟩ (s.ren2 (pinId ids) (pinId bids)) := fun s h1 h2 => by
    refine ⟨fun j hj => ?_, fun j hj => ?_⟩
    · rw [(ren2_roots _ _ s).1] at hj
      obtain ⟨i, hi, rfl⟩ := List.mem_map.1 hj
      obtain ⟨k, e1, e2⟩ := pinId_spec (h1 i hi)
      obtain ⟨r, hr⟩ := H.rows i (h1 i hi)
      rw [e1]
      exact ⟨r, pickRows_ex e2 hr⟩
    · rw [(ren2_roots _ _ s).2.1] at hj
      obtain ⟨i, hi, rfl⟩ := List.mem_map.1 hj
      obtain ⟨k, e1, e2⟩ := pinId_spec (h2 i hi)
      obtain ⟨b, hb, _⟩ := H.bx i (h2 i hi)
      rw [e1]
      exact ⟨_, pickBx_ex e2 hb⟩
  have base : ∀ (t : Ty) (x : t.T) (cs : List Value), Rd w0 ok t x cs → Rd w ok t x cs := fun t x cs h => R.rd h
  have notOk : ∀ k, Own M ids bids k → ¬ ok k := fun k h => by
    rcases h with ⟨i, hi, hk⟩ | ⟨b, hb, rfl⟩
    · obtain ⟨r, hr⟩ := H.rows i hi
      exact (R.ownR i ⟨r, hr⟩ k hk).1
    · obtain ⟨x, hx, _⟩ := H.bx b hb
      exact (R.ownB b ⟨x, hx⟩).1
  constructor
  · intro s v h
    obtain ⟨k, e, h2⟩ := slotsOf_lk h
    rw [Nat.zero_add] at e
    subst e
    rw [List.getElem?_map, Option.map_eq_some_iff] at h2
    obtain ⟨u, h2, rfl⟩ := h2
    have hlt : s < vs.length := by rw [← hl]; exact (List.getElem?_eq_some_iff.1 h2).1
    have hm := List.mem_of_getElem? h2
    refine ⟨vs[s], by simp [hlt], ?_⟩
    exact RepS_ren2 HR (H.args u hm).1 (H.args u hm).2 (RepS_base base (hs s u _ h2 (List.getElem?_eq_getElem hlt)))
  · intro j r h
    obtain ⟨k, i, rfl, h2, h3, h4, h5⟩ := row j r h
    obtain ⟨q, e1, e2⟩ := R.rows i r h4
    exact ⟨q, h5.trans e1, e2.1, holds_mono (fun _ _ _ h => R.rd h) e2.2.1, e2.2.2⟩
  · intro j b h
    obtain ⟨k, i, b0, rfl, h2, h3, h4, rfl, h5, h6, h7⟩ := box j b h
    obtain ⟨cs, e1, e2, e3⟩ := R.boxes i b0 h4
    obtain ⟨b1, g1, g2, g3⟩ := H.bx i h3
    rw [h4] at g1
    cases g1
    refine ⟨cs, RepB_ren2 HR g3 g2 (RepB_base base e1), by rw [h5]; exact e2, fun hc => ?_⟩
    rw [(ren2_roots _ _ b0.c).2.2.2.2] at hc
    obtain ⟨f1, f2, f3⟩ := e3 hc
    rw [h6, h7]
    exact ⟨by rw [(ren2_roots _ _ b0.c).2.2.2.1]; exact f1, f2, by rw [(ren2_roots _ _ b0.c).2.2.2.1]; exact f3⟩
  · rintro i j hij ⟨r, hr⟩ ⟨r', hr'⟩ k hk
    obtain ⟨m, i', rfl, h2, h3, h4, h5⟩ := row i r hr
    obtain ⟨m', j', rfl, g2, g3, g4, g5⟩ := row j r' hr'
    rw [h5] at hk
    rw [g5]
    refine R.rr i' j' (fun e => ?_) ⟨r, h4⟩ ⟨r', g4⟩ k hk
    subst e
    exact hij (by rw [nodup_ix H.nd h2 g2])
  · rintro i j hij ⟨r, hr⟩ ⟨r', hr'⟩
    obtain ⟨m, i', b, rfl, h2, h3, h4, _, h5, _⟩ := box i r hr
    obtain ⟨m', j', b', rfl, g2, g3, g4, _, g5, _⟩ := box j r' hr'
    rw [h5, g5]
    refine R.bb i' j' (fun e => ?_) ⟨b, h4⟩ ⟨b', g4⟩
    subst e
    exact hij (by rw [nodup_ix H.ndB h2 g2])
  · rintro i j ⟨r, hr⟩ ⟨r', hr'⟩
    obtain ⟨m, i', rfl, h2, h3, h4, h5⟩ := row i r hr
    obtain ⟨m', j', b', rfl, g2, g3, g4, _, g5, _⟩ := box j r' hr'
    rw [h5, g5]
    exact R.rb i' j' ⟨r, h4⟩ ⟨b', g4⟩
  · rintro i ⟨r, hr⟩ k hk
    obtain ⟨m, i', rfl, h2, h3, h4, h5⟩ := row i r hr
    rw [h5] at hk
    exact ⟨(R.ownR i' ⟨r, h4⟩ k hk).1, .inl (.inl ⟨i', h3, hk⟩)⟩
  · rintro i ⟨r, hr⟩
    obtain ⟨m, i', b, rfl, h2, h3, h4, _, h5, _⟩ := box i r hr
    rw [h5]
    exact ⟨(R.ownB i' ⟨b, h4⟩).1, .inl (.inr ⟨i', h3, rfl⟩)⟩
  · exact fun k hk => ⟨R.ok_lt hk, fun h => notOk k h hk⟩
  · intro s v h
    obtain ⟨k, e, h2⟩ := slotsOf_lk h
    rw [List.getElem?_map, Option.map_eq_some_iff] at h2
    obtain ⟨u, h2, rfl⟩ := h2
    have hm := List.mem_of_getElem? h2
    exact live u (H.args u hm).1 (H.args u hm).2
  · intro j b h
    obtain ⟨k, i, b0, rfl, h2, h3, h4, rfl, _⟩ := box j b h
    obtain ⟨b1, g1, g2, g3⟩ := H.bx i h3
    rw [h4] at g1
    cases g1
    exact live b0.c g3 g2
  · exact Kept.refl _ _
  · rintro i hi ⟨r, hr⟩
    obtain ⟨m, i', rfl, h2, h3, h4, h5⟩ := row i r hr
    obtain ⟨q, e1, _⟩ := R.rows i' r h4
    rw [h5]
    show _ = [hdL (M.loc (nthD ids (PIN + m - PIN)))]
    rw [Nat.add_sub_cancel_left, nthD_get h2]
    exact cellsL_hd e1
  · rintro i hi ⟨r, hr⟩
    rfl
end
end Go.Proofs.Ytgcndhlbhlnplaa.Ev
