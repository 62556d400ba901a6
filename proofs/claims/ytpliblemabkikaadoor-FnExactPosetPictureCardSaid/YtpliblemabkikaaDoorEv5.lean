/- Plain values for a program that runs on a machine: an evaluator of loaded code and the proof that it tells what the machine does (part 5 of 5). No conditions: definitions and lemmas over any program. -/
import Derived.Test.YtpliblemabkikaaDoorEv4
import Derived.Shelf.Spec.SlicesInsert
import Derived.Shelf.SlGeneric
import Derived.Lib.AppendZerosOnto
import Derived.Shelf.Spec.SlicesGrow
import Derived.Shelf.SlLaysN
import Derived.Lib.SliceRun
import Derived.Deep.RegionLaw
import Derived.Shelf.Sort.Plain
import Derived.Shelf.Strconv.Itoa4
import Derived.Shelf.Strings.OnBuilder
import Derived.Laws.BitsLemmas
set_option linter.unusedVariables false
set_option linter.unusedSimpArgs false
/- slices.Insert at elements of any flat make: its roads, walked once. Over any program. -/
namespace Go.Proofs.YtpliblemabkikaaDoor.Ev
open Go.Shelf Go.RowKit Go.Lib Go.Proofs
variable {P : Program} {ρ : Ren}

theorem run_copy_K (w : World) (dT sT ty elem : TypeId) (K b o dLen dCap : Nat) (a : Addr) (sLen sCap : Nat) (cs : List Value)
    (hu : P.underlying dT = some (.slice elem)) (hs : (P.info? elem).map (·.size) = some K) (hn : cs.length = Nat.min sLen dLen * K)
    (hsrc : ∀ j v, cs[j]? = some v → w.cell? (a.add j) = some v) (hc : ∀ j, j < cs.length → (w.cell? ⟨b, o + j, none⟩).isSome = true) (hf : ∀ j, j < cs.length → w.frozen? ⟨b, o + j, none⟩ = false) (h1 : ∀ v ∈ cs, v.oneCell' = true) :
    (Builtin.copy_ #[dT, sT] ty #[.slice (some ⟨b, o, none⟩) dLen dCap, .slice (some a) sLen sCap]).run P w = .ok (goInt (Nat.min sLen dLen)) (w.setCells b o cs) := by
  have hl := run_loadCells_list (P := P) w a cs hsrc
  have hst := run_storeCells_cells (P := P) b o cs 0 w (by simpa using hc) (by simpa using hf) h1
  cases hq : P.info? elem with
  | none => simp [hq] at hs
  | some i =>
    have hi : i.size = K := by simpa [hq] using hs
    simp [Builtin.copy_, run_underlying hu, Builtin.lenOf, Builtin.firstCells, sizeOf, typeInfo, hq, hi, ← hn, hl, hst]
/-- What the program must say of the function and its types. -/
structure InsOK (P : Program) (ρ : Ren) (e : TypeId) (i0 : TypeInfo) (z : Value) : Prop where
  f22 : Bears P (ρ.f 22) (Body2.n22 ρ)
  ov : ∀ vs w, (callFunc (ρ.f 29) vs).run P w = ((Extern.SlicesOverlaps.overlaps #[ρ.t 24, ρ.t 24] #[ρ.t 4] vs).run P w).andThen fun v w' => .ok (.value v) w'
  mixed : P.follows .mixedOrders = true
  t3 : P.underlying (ρ.t 3) = some (TypeDesc.int IntKind.i64)
  a3 : ∀ w, (isAgg (ρ.t 3)).run P w = .ok false w
  t4 : P.underlying (ρ.t 4) = some (TypeDesc.bool)
  a4 : ∀ w, (isAgg (ρ.t 4)).run P w = .ok false w
  t24 : P.underlying (ρ.t 24) = some (TypeDesc.slice e)
  a24 : ∀ w, (isAgg (ρ.t 24)).run P w = .ok false w
  i9 : P.info? e = some i0
  z0 : i0.zero = some z
  sz : 0 < i0.size
  zs : z.cells.size = i0.size

set_option maxHeartbeats 4000000 in
set_option maxRecDepth 100000 in
theorem ins_shift {e : TypeId} {i0 : TypeInfo} {z : Value} (L : InsOK P ρ e i0 z) (K : Nat) (hK : i0.size = K) (b off n c i vb voff m vc : Nat) (cs vs : List Value) (w : World) (hi : i < n) (hm : 0 < m) (hroom : n + m ≤ c) (hc63 : c ≤ 9223372036854775807) (hvb : vb ≠ b)
    (hcl : cs.length = n * K) (hvl : vs.length = m * K)
    (hcs : ∀ j v, cs[j]? = some v → w.cell? ⟨b, off + j, none⟩ = some v) (hsp : ∀ j, j < (n + m) * K → (w.cell? ⟨b, off + j, none⟩).isSome = true) (hfz : ∀ j, j < (n + m) * K → w.frozen? ⟨b, off + j, none⟩ = false)
    (hvs : ∀ j v, vs[j]? = some v → w.cell? ⟨vb, voff + j, none⟩ = some v) (h1c : ∀ v ∈ cs, v.oneCell' = true) (h1v : ∀ v ∈ vs, v.oneCell' = true)
    (tA tB : TypeId) (kA kB : Nat) (hsa : w.shape? vb = some (tA, kA)) (hsb : w.shape? b = some (tB, kB)) (hkB : kB ≠ 0) (hfa : w.frozen? ⟨vb, voff, none⟩ = false) (hfe : w.frozen? ⟨vb, kA, none⟩ = false) :
    Calls P (ρ.f 22) #[.slice (some ⟨b, off, none⟩) n c, .int .i64 i, .slice (some ⟨vb, voff, none⟩) m vc] w fun e w' =>
      e = .returned (.slice (some ⟨b, off, none⟩) (n + m) c) ∧ w' = (w.drew.setCells b (off + (i + m) * K) (cs.drop (i * K))).setCells b (off + i * K) vs := by
  have t3 := L.t3; have a3 := L.a3; have t4 := L.t4; have a4 := L.a4; have t24 := L.t24; have a24 := L.a24
  have u3 := run_underlying L.t3; have u4 := run_underlying L.t4; have u24 := run_underlying L.t24
  have z9 : ∀ w, (Go.sizeOf e).run P w = .ok K w := fun w => by simp [sizeOf, typeInfo, L.i9, hK]
  have hz1 : ¬ ((m : Int) = 0) := by omega
  have hz2 : ¬ ((i : Int) = (n : Int)) := by omega
  have hsz : (P.info? e).map (·.size) = some K := by rw [L.i9]; simp [hK]
  have hov : ∀ lb cb, (callFunc (ρ.f 29) #[.slice (some ⟨vb, voff, none⟩) m vc, .slice (some ⟨b, off + (i + m) * K, none⟩) lb cb]).run P w = .ok (.value (.bool false)) w := fun lb cb => by
    rw [L.ov, Lib.run_overlaps_apart w (ρ.t 24) (ρ.t 4) e L.t24 K z9 ⟨vb, voff, none⟩ ⟨b, off + (i + m) * K, none⟩ m vc lb cb hvb tA tB kA kB hsa hsb hkB hfa hfe]
    rfl
  have hiK : i * K + (n - i) * K = n * K := by rw [← Nat.add_mul, Nat.add_sub_cancel' (Nat.le_of_lt hi)]
  have hdl : (cs.drop (i * K)).length = (n - i) * K := by rw [List.length_drop, hcl]; omega
  have hsum : (i + m) * K + (n - i) * K = (n + m) * K := by rw [← Nat.add_mul]; congr 1; omega
  have hsum2 : i * K + m * K ≤ (n + m) * K := by rw [← Nat.add_mul]; exact Nat.mul_le_mul_right _ (by omega)
  have mixed := L.mixed
  have hw1 : IntKind.i64.wrap ((i : Int) + (m : Int)) = (i : Int) + (m : Int) := by rw [IntKind.wrap_i64]; omega
  have hb1 : (0 : Int) ≤ (i : Int) + (m : Int) := by omega
  have hin : i ≤ n := by omega
  have htn : ((i : Int) + (m : Int)).toNat = i + m := by omega
  have hb2 : ¬ (c = i + m) := by omega
  have hb3 : (i : Int) ≤ (n : Int) + (m : Int) := by omega
  have hb4 : ¬ (c = i) := by omega
  have hcp1 : ∀ ty dc sc, (Builtin.copy_ #[(ρ.t 24), (ρ.t 24)] ty #[.slice (some ⟨b, off + (i + m) * K, none⟩) (n + m - (i + m)) dc, .slice (some ⟨b, off + i * K, none⟩) (n + m - i) sc]).run P w.drew = .ok (goInt ((n - i : Nat) : Int)) (w.drew.setCells b (off + (i + m) * K) (cs.drop (i * K))) := fun ty dc sc => by
    have hmin : Nat.min (n + m - i) (n + m - (i + m)) = n - i := by simp only [Nat.min_def]; split <;> omega
    have := run_copy_K w.drew (ρ.t 24) (ρ.t 24) ty e K b (off + (i + m) * K) (n + m - (i + m)) dc ⟨b, off + i * K, none⟩ (n + m - i) sc (cs.drop (i * K)) L.t24 hsz (by rw [hdl, hmin])
      (fun j v hj => by rw [Addr.add_lit, Nat.add_assoc]; exact hcs (i * K + j) v (by rwa [List.getElem?_drop] at hj))
      (fun j hj => by rw [Nat.add_assoc]; exact hsp _ (by rw [hdl] at hj; omega)) (fun j hj => by rw [Nat.add_assoc]; exact hfz _ (by rw [hdl] at hj; omega)) (fun v hv => h1c v (List.mem_of_mem_drop hv))
    rw [hmin] at this
    exact this
  obtain ⟨W1, hW1⟩ : ∃ W1, W1 = w.drew.setCells b (off + (i + m) * K) (cs.drop (i * K)) := ⟨_, rfl⟩
  have hsp1 : ∀ k, k < (n + m) * K → (W1.cell? ⟨b, off + k, none⟩).isSome = true := fun k hk => by
    rw [hW1]
    exact isSome_setCells b _ _ _ (fun j hj => by rw [Nat.add_assoc]; exact hsp _ (by rw [hdl] at hj; omega)) _ (hsp k hk)
  have hcp2 : ∀ (W : World), (∀ x, W.cell? x = W1.cell? x) → (∀ x, W.frozen? x = W1.frozen? x) → ∀ ty dc, (Builtin.copy_ #[(ρ.t 24), (ρ.t 24)] ty #[.slice (some ⟨b, off + i * K, none⟩) (n + m - i) dc, .slice (some ⟨vb, voff, none⟩) m vc]).run P W = .ok (goInt m) (W.setCells b (off + i * K) vs) := fun W hWc hWf ty dc => by
    have hmin : Nat.min m (n + m - i) = m := by simp only [Nat.min_def]; split <;> omega
    have := run_copy_K W (ρ.t 24) (ρ.t 24) ty e K b (off + i * K) (n + m - i) dc ⟨vb, voff, none⟩ m vc vs L.t24 hsz (by rw [hvl, hmin])
      (fun j v hj => by
        rw [Addr.add_lit, hWc, hW1, World.cell?_setCells_out b _ _ _ _ (fun h _ => absurd h hvb)]
        exact hvs j v hj)
      (fun j hj => by rw [hWc, Nat.add_assoc]; exact hsp1 _ (by omega)) (fun j hj => by rw [hWf, hW1, World.frozen?_setCells, Nat.add_assoc]; exact hfz _ (by omega)) h1v
    rw [hmin] at this
    exact this
  rw [← hW1] at hcp1
  obtain ⟨nm, hnm, F22⟩ := L.f22
  go_enter F22, Body2.n22_ntmps ρ
  go_wp2_with (simp only [hov])
  go_region_law_o (refine step_copy_runI rfl _ _ (ρ.t 24) (ρ.t 24) rfl _ _ (by simp [Act.eval, Act.put]) (by simp [Act.eval, Act.put]) (hcp1 _ _ _) ?_)
  go_wp2_with (at_builtin; refine wpList_copy_runI _ rfl _ _ (ρ.t 24) (ρ.t 24) rfl _ _ rfl rfl (hcp2 _ (fun _ => rfl) (fun _ => rfl) _ _) ?_)
  go_ret
  first | exact ⟨rfl, rfl⟩ | exact ⟨rfl, by rw [hW1]⟩

set_option maxHeartbeats 4000000 in
set_option maxRecDepth 100000 in
theorem ins_end_room {e : TypeId} {i0 : TypeInfo} {z : Value} (L : InsOK P ρ e i0 z) (K : Nat) (hK : i0.size = K) (b off n c vb voff m vc : Nat) (vs : List Value) (w : World) (hm : 0 < m) (hroom : n + m ≤ c) (hc63 : c ≤ 9223372036854775807)
    (hvl : vs.length = m * K) (hsp : ∀ j, j < m * K → (w.cell? ⟨b, off + n * K + j, none⟩).isSome = true) (hfz : ∀ j, j < m * K → w.frozen? ⟨b, off + n * K + j, none⟩ = false)
    (hvs : ∀ j v, vs[j]? = some v → w.cell? ⟨vb, voff + j, none⟩ = some v) (h1v : ∀ v ∈ vs, v.oneCell' = true) :
    Calls P (ρ.f 22) #[.slice (some ⟨b, off, none⟩) n c, .int .i64 n, .slice (some ⟨vb, voff, none⟩) m vc] w fun e w' =>
      e = .returned (.slice (some ⟨b, off, none⟩) (n + m) c) ∧ w' = w.setCells b (off + n * K) vs := by
  have t3 := L.t3; have a3 := L.a3; have t4 := L.t4; have a4 := L.a4; have t24 := L.t24; have a24 := L.a24
  have u3 := run_underlying L.t3; have u4 := run_underlying L.t4; have u24 := run_underlying L.t24
  have z9 : ∀ w, (Go.sizeOf e).run P w = .ok K w := fun w => by simp [sizeOf, typeInfo, L.i9, hK]
  have mixed := L.mixed
  have hz1 : ¬ ((m : Int) = 0) := by omega
  have hsrc : Src P i0.size (ρ.t 24) (.slice (some ⟨vb, voff, none⟩) m vc) m vs w := Src.ofSlice w L.t24 ⟨vb, voff, none⟩ m vc vs (by rw [hvl, hK]) (fun j u hj => by rw [Addr.add_lit]; exact hvs j u hj) h1v
  have hrun : ∀ ty, (Builtin.append_ #[(ρ.t 24), (ρ.t 24)] ty #[.slice (some ⟨b, off, none⟩) n c, .slice (some ⟨vb, voff, none⟩) m vc]).run P w = .ok (.slice (some ⟨b, off, none⟩) (n + m) c) (w.setCells b (off + n * K) vs) := fun ty => by
    have := run_append_room_src (P := P) w (ρ.t 24) (ρ.t 24) ty e i0 L.t24 L.i9 b off n c _ m vs hsrc hroom (by rw [hvl, hK]; exact hsp) (by rw [hvl, hK]; exact hfz)
    rw [hK] at this
    exact this
  obtain ⟨nm, hnm, F22⟩ := L.f22
  go_enter F22, Body2.n22_ntmps ρ
  go_wp2_with (at_builtin; refine Lib.wpList_append_run _ rfl _ _ _ _ rfl _ _ rfl rfl _ _ (hrun _) ?_)
  go_ret
  exact ⟨rfl, rfl⟩

set_option maxHeartbeats 4000000 in
set_option maxRecDepth 100000 in
theorem ins_end_grow {e : TypeId} {i0 : TypeInfo} {z : Value} (L : InsOK P ρ e i0 z) (K : Nat) (hK : i0.size = K) (base : Option Addr) (n c vb voff m vc : Nat) (cs vs : List Value) (w : World) (hm : 0 < m) (hnc : n ≤ c) (hroom : c < n + m) (hbig : (n + m) * i0.bytes ≤ 140737488355328) (hb0 : 0 < i0.bytes)
    (hcl : cs.length = n * K) (hvl : vs.length = m * K) (hnil : base = none → n = 0)
    (hcs : ∀ a, base = some a → ∀ j v, cs[j]? = some v → w.cell? (a.add j) = some v)
    (hvs : ∀ j v, vs[j]? = some v → w.cell? ⟨vb, voff + j, none⟩ = some v) (h1v : ∀ v ∈ vs, v.oneCell' = true) :
    Calls P (ρ.f 22) #[.slice base n c, .int .i64 n, .slice (some ⟨vb, voff, none⟩) m vc] w fun ex w' =>
      ex = .returned (.slice (some ⟨w.heap.size, 0, none⟩) (n + m) (grownCap w (n + m) c e)) ∧
      w' = w.drew.alloc (.cells ((cs ++ vs).toArray ++ Builtin.zeroCells z.cells (grownCap w (n + m) c e - (n + m))) e) := by
  have t3 := L.t3; have a3 := L.a3; have t4 := L.t4; have a4 := L.a4; have t24 := L.t24; have a24 := L.a24
  have u3 := run_underlying L.t3; have u4 := run_underlying L.t4; have u24 := run_underlying L.t24
  have z9 : ∀ w, (Go.sizeOf e).run P w = .ok K w := fun w => by simp [sizeOf, typeInfo, L.i9, hK]
  have mixed := L.mixed
  have hz1 : ¬ ((m : Int) = 0) := by omega
  have hnm63 : n + m ≤ 140737488355328 := Nat.le_trans (Nat.le_mul_of_pos_right _ hb0) hbig
  have hsrc : Src P i0.size (ρ.t 24) (.slice (some ⟨vb, voff, none⟩) m vc) m vs w := Src.ofSlice w L.t24 ⟨vb, voff, none⟩ m vc vs (by rw [hvl, hK]) (fun j u hj => by rw [Addr.add_lit]; exact hvs j u hj) h1v
  have hold : (Builtin.firstCells i0.size n (.slice base n c)).run P w.drew = .ok cs.toArray w.drew := by
    rw [hK]
    cases base with
    | none =>
      have h0 := hnil rfl
      subst h0
      have hcs0 : cs = [] := List.length_eq_zero_iff.1 (by rw [hcl, Nat.zero_mul])
      rw [hcs0]
      exact run_firstCells_none w.drew K 0 0 c
    | some a => exact run_firstCells_some w.drew K n a n c cs hcl (fun j v hj => hcs a rfl j v hj)
  have hrun : ∀ ty, (Builtin.append_ #[(ρ.t 24), (ρ.t 24)] ty #[.slice base n c, .slice (some ⟨vb, voff, none⟩) m vc]).run P w = _ := fun ty =>
    run_append_grow_src w (ρ.t 24) (ρ.t 24) ty e i0 _ L.t24 L.i9 L.z0 base n c cs hold _ m vs hsrc hroom (by omega) (growslice_fits hroom hbig)
  generalize z.cells = Z at hrun ⊢
  obtain ⟨nm, hnm, F22⟩ := L.f22
  go_enter F22, Body2.n22_ntmps ρ
  cases base with
  | none =>
    have h0 := hnil rfl
    subst h0
    go_wp2_with (at_builtin; refine Lib.wpList_append_run _ rfl _ _ _ _ rfl _ _ rfl rfl _ _ (hrun _) ?_)
    go_ret
    exact ⟨rfl, rfl⟩
  | some a =>
    obtain ⟨ab, ao, asp⟩ := a
    go_wp2_with (at_builtin; refine Lib.wpList_append_run _ rfl _ _ _ _ rfl _ _ rfl rfl _ _ (hrun _) ?_)
    all_goals (go_ret; exact ⟨rfl, rfl⟩)

set_option maxHeartbeats 4000000 in
set_option maxRecDepth 100000 in
theorem ins_grow {e : TypeId} {i0 : TypeInfo} {z : Value} (L : InsOK P ρ e i0 z) (K : Nat) (hK : i0.size = K) (b off n c i vb voff m vc : Nat) (cs vs : List Value) (w : World) (hi : i < n) (hm : 0 < m) (hnc : n ≤ c) (hroom : c < n + m) (hbig : (n + m) * i0.bytes ≤ 140737488355328) (hb0 : 0 < i0.bytes)
    (hcl : cs.length = n * K) (hvl : vs.length = m * K)
    (hcs : ∀ j v, cs[j]? = some v → w.cell? ⟨b, off + j, none⟩ = some v)
    (hvs : ∀ j v, vs[j]? = some v → w.cell? ⟨vb, voff + j, none⟩ = some v) (h1c : ∀ v ∈ cs, v.oneCell' = true) (h1v : ∀ v ∈ vs, v.oneCell' = true) :
    Calls P (ρ.f 22) #[.slice (some ⟨b, off, none⟩) n c, .int .i64 i, .slice (some ⟨vb, voff, none⟩) m vc] w fun ex w' =>
      ex = .returned (.slice (some ⟨w.heap.size, 0, none⟩) (n + m) (grownCap w (n + m) c e)) ∧
      w' = (((w.alloc (.cells ((cs.take (i * K)).toArray ++ Builtin.zeroCells z.cells (n + m - i) ++ Builtin.zeroCells z.cells (grownCap w (n + m) c e - (n + m))) e)).drew.setCells w.heap.size (i * K) vs).drew).setCells w.heap.size ((i + m) * K) (cs.drop (i * K)) := by
  have t3 := L.t3; have a3 := L.a3; have t4 := L.t4; have a4 := L.a4; have t24 := L.t24; have a24 := L.a24
  have u3 := run_underlying L.t3; have u4 := run_underlying L.t4; have u24 := run_underlying L.t24
  have z9 : ∀ w, (Go.sizeOf e).run P w = .ok K w := fun w => by simp [sizeOf, typeInfo, L.i9, hK]
  have mixed := L.mixed
  have hz1 : ¬ ((m : Int) = 0) := by omega
  have hz2 : ¬ ((i : Int) = (n : Int)) := by omega
  have hz3 : (c : Int) < (n : Int) + (m : Int) := by omega
  have hsz : (P.info? e).map (·.size) = some K := by rw [L.i9]; simp [hK]
  have hKp : 0 < K := by rw [← hK]; exact L.sz
  have hnm63 : n + m ≤ 140737488355328 := Nat.le_trans (Nat.le_mul_of_pos_right _ hb0) hbig
  have hiK : i * K + (n - i) * K = n * K := by rw [← Nat.add_mul, Nat.add_sub_cancel' (Nat.le_of_lt hi)]
  have hsum : (i + m) * K + (n - i) * K = (n + m) * K := by rw [← Nat.add_mul]; congr 1; omega
  have hsum2 : i * K + m * K ≤ (n + m) * K := by rw [← Nat.add_mul]; exact Nat.mul_le_mul_right _ (by omega)
  have hnK : 0 < n * K := Nat.mul_pos (by omega) hKp
  have hmK : 0 < m * K := Nat.mul_pos (by omega) hKp
  have hbw : b < w.heap.size := block_lt_of_cell (hcs 0 _ (List.getElem?_eq_getElem (by omega)))
  have hvw : vb < w.heap.size := block_lt_of_cell (hvs 0 _ (List.getElem?_eq_getElem (by omega)))
  have hkk : (n : Int) + (m : Int) - (i : Int) = ((n + m - i : Nat) : Int) := by omega
  have hik : i + (n + m - i) = n + m := by omega
  have hold : (Builtin.firstCells i0.size i (.slice (some ⟨b, off, none⟩) i c)).run P w.drew = .ok (cs.take (i * K)).toArray w.drew := by
    rw [hK]
    exact run_firstCells_some w.drew K i ⟨b, off, none⟩ i c (cs.take (i * K)) (by rw [List.length_take, hcl]; omega) (fun j v hj => by
      rw [Addr.add_lit]
      rw [List.getElem?_take] at hj
      split at hj
      · exact hcs j v hj
      · cases hj)
  have hrz : ∀ ty, (Builtin.append_ #[(ρ.t 24), (ρ.t 3)] ty #[.slice (some ⟨b, off, none⟩) i c, .int .i64 ((n : Int) + (m : Int) - (i : Int))]).run P w =
      .ok (.slice (some ⟨w.heap.size, 0, none⟩) (n + m) (grownCap w (n + m) c e)) (w.drew.alloc (.cells ((cs.take (i * K)).toArray ++ Builtin.zeroCells z.cells (n + m - i) ++ Builtin.zeroCells z.cells (grownCap w (n + m) c e - (n + m))) e)) := fun ty => by
    have h := Lib.run_append_grow_zeros w (ρ.t 24) (ρ.t 3) ty e i0 _ .i64 .i64 L.t24 L.t3 L.i9 L.z0 (some ⟨b, off, none⟩) i c (cs.take (i * K)) hold (n + m - i) (by omega) L.sz (by omega) (by omega) (Nat.le_trans (Nat.mul_le_mul_right _ (Nat.sub_le _ _)) (by omega)) (by rw [hik]; exact growslice_fits hroom hbig)
    rw [hik] at h
    rw [hkk]
    exact h
  obtain ⟨G, hG⟩ : ∃ G, G = grownCap w (n + m) c e := ⟨_, rfl⟩
  obtain ⟨ROW, hROW⟩ : ∃ ROW : Array Value, ROW = (cs.take (i * K)).toArray ++ Builtin.zeroCells z.cells (n + m - i) ++ Builtin.zeroCells z.cells (G - (n + m)) := ⟨_, rfl⟩
  rw [← hG] at hrz ⊢
  rw [← hROW] at hrz ⊢
  have hRl : (n + m) * K ≤ ROW.size := by
    rw [hROW]
    have : i * K + (n + m - i) * K = (n + m) * K := by rw [← Nat.add_mul, hik]
    simp only [Builtin.zeroCells, Array.size_append, List.size_toArray, List.length_take, Array.size_map, Array.size_range, L.zs, hK, hcl]
    omega
  obtain ⟨W1, hW1⟩ : ∃ W1, W1 = w.drew.alloc (.cells ROW e) := ⟨_, rfl⟩
  rw [← hW1] at hrz
  have hN : ∀ j, j < (n + m) * K → (W1.cell? ⟨w.heap.size, j, none⟩).isSome = true := fun j hj => by
    rw [hW1, World.cell?_alloc_at (w := w.drew) ROW _ w.heap.size j rfl, Array.getElem?_eq_getElem (by omega)]; rfl
  have hNf : ∀ j, W1.frozen? ⟨w.heap.size, j, none⟩ = false := fun j => by rw [hW1]; exact World.frozen?_alloc_at (w := w.drew) ROW _ w.heap.size j rfl
  have hOb : ∀ j v, w.cell? ⟨b, j, none⟩ = some v → W1.cell? ⟨b, j, none⟩ = some v := fun j v h => by rw [hW1, World.cell?_alloc_past (w := w.drew) _ b j hbw]; exact h
  have hOv : ∀ j v, w.cell? ⟨vb, j, none⟩ = some v → W1.cell? ⟨vb, j, none⟩ = some v := fun j v h => by rw [hW1, World.cell?_alloc_past (w := w.drew) _ vb j hvw]; exact h
  have hcpA : ∀ (W : World), (∀ x, W.cell? x = W1.cell? x) → (∀ x, W.frozen? x = W1.frozen? x) → ∀ ty dc, (Builtin.copy_ #[(ρ.t 24), (ρ.t 24)] ty #[.slice (some ⟨w.heap.size, i * K, none⟩) (n + m - i) dc, .slice (some ⟨vb, voff, none⟩) m vc]).run P W = .ok (goInt (m : Int)) (W.setCells w.heap.size (i * K) vs) := fun W hWc hWf ty dc => by
    have hmin : Nat.min m (n + m - i) = m := by simp only [Nat.min_def]; split <;> omega
    have := run_copy_K W (ρ.t 24) (ρ.t 24) ty e K w.heap.size (i * K) (n + m - i) dc ⟨vb, voff, none⟩ m vc vs L.t24 hsz (by rw [hvl, hmin])
      (fun j v hj => by rw [Addr.add_lit, hWc]; exact hOv _ v (hvs j v hj))
      (fun j hj => by rw [hWc]; exact hN _ (by omega)) (fun j hj => by rw [hWf]; exact hNf _) h1v
    rw [hmin] at this
    exact this
  have hGn : n + m ≤ G := by rw [hG]; exact grownCap_ge w _ _ _
  have hG63 : G ≤ 9223372036854775807 := by
    have := grownCap_le_maxLen w (n + m) c e (by unfold maxLen; omega)
    rw [← hG] at this
    unfold maxLen at this
    omega
  have hGi : ¬ (G = i) := by omega
  have hGim : ¬ (G = i + m) := by omega
  have hci : ¬ (c = i) := by omega
  have hbN : b ≠ w.heap.size := by omega
  have hdl : (cs.drop (i * K)).length = (n - i) * K := by rw [List.length_drop, hcl]; omega
  have hcpB : ∀ (W : World), (∀ x, W.cell? x = (W1.setCells w.heap.size (i * K) vs).cell? x) → (∀ x, W.frozen? x = (W1.setCells w.heap.size (i * K) vs).frozen? x) → ∀ ty dc sc, (Builtin.copy_ #[(ρ.t 24), (ρ.t 24)] ty #[.slice (some ⟨w.heap.size, (i + m) * K, none⟩) (n + m - (i + m)) dc, .slice (some ⟨b, off + i * K, none⟩) (n - i) sc]).run P W = .ok (goInt ((n - i : Nat) : Int)) (W.setCells w.heap.size ((i + m) * K) (cs.drop (i * K))) := fun W hWc hWf ty dc sc => by
    have hmin : Nat.min (n - i) (n + m - (i + m)) = n - i := by simp only [Nat.min_def]; split <;> omega
    have := run_copy_K W (ρ.t 24) (ρ.t 24) ty e K w.heap.size ((i + m) * K) (n + m - (i + m)) dc ⟨b, off + i * K, none⟩ (n - i) sc (cs.drop (i * K)) L.t24 hsz (by rw [hdl, hmin])
      (fun j v hj => by
        rw [Addr.add_lit, hWc, World.cell?_setCells_out _ _ _ _ _ (fun h _ => absurd h hbN), Nat.add_assoc]
        exact hOb _ v (hcs (i * K + j) v (by rwa [List.getElem?_drop] at hj)))
      (fun j hj => by rw [hWc]; exact isSome_setCells _ _ _ _ (fun t ht => hN _ (by omega)) _ (hN _ (by rw [hdl] at hj; omega)))
      (fun j hj => by rw [hWf, World.frozen?_setCells]; exact hNf _) (fun v hv => h1c v (List.mem_of_mem_drop hv))
    rw [hmin] at this
    exact this
  subst hW1
  have hE1 : ∀ x, ((w.alloc (.cells ROW e)).drew).cell? x = (w.drew.alloc (.cells ROW e)).cell? x := fun x => rfl
  have hE2 : ∀ x, ((w.alloc (.cells ROW e)).drew).frozen? x = (w.drew.alloc (.cells ROW e)).frozen? x := fun x => rfl
  have hF1 : ∀ x, (((w.alloc (.cells ROW e)).drew.setCells w.heap.size (i * K) vs).drew).cell? x = ((w.drew.alloc (.cells ROW e)).setCells w.heap.size (i * K) vs).cell? x := fun x => rfl
  have hF2 : ∀ x, (((w.alloc (.cells ROW e)).drew.setCells w.heap.size (i * K) vs).drew).frozen? x = ((w.drew.alloc (.cells ROW e)).setCells w.heap.size (i * K) vs).frozen? x := fun x => rfl
  have hw1 : IntKind.i64.wrap ((i : Int) + (m : Int)) = (i : Int) + (m : Int) := by rw [IntKind.wrap_i64]; omega
  have hb1 : (0 : Int) ≤ (i : Int) + (m : Int) := by omega
  have hin : i ≤ n := by omega
  have htn : ((i : Int) + (m : Int)).toNat = i + m := by omega
  have hb3 : (i : Int) ≤ (n : Int) := by omega
  clear hkk hik hold hROW hG hRl
  obtain ⟨nm, hnm, F22⟩ := L.f22
  go_enter F22, Body2.n22_ntmps ρ
  go_wp2_with (first
    | (at_builtin; refine Lib.wpList_append_run _ rfl _ _ _ _ rfl _ _ rfl rfl _ _ (hrz _) ?_)
    | (at_builtin; refine wpList_copy_runI _ rfl _ _ (ρ.t 24) (ρ.t 24) rfl _ _ rfl rfl (hcpA _ hE1 hE2 _ _) ?_)
    | (at_builtin; refine wpList_copy_runI _ rfl _ _ (ρ.t 24) (ρ.t 24) rfl _ _ rfl rfl (hcpB _ (fun _ => rfl) (fun _ => rfl) _ _ _) ?_))
  go_region_law_o (refine step_copy_runI rfl _ _ (ρ.t 24) (ρ.t 24) rfl (.slice (some ⟨w.heap.size, (i + m) * K, none⟩) (n + m - (i + m)) (G - (i + m))) (.slice (some ⟨b, off + i * K, none⟩) (n - i) (c - i)) (by simp [Act.eval, Act.put]) (by simp [Act.eval, Act.put]) (hcpB _ hF1 hF2 (ρ.t 3) (G - (i + m)) (c - i)) ?_)
  go_wp2
  go_ret
  exact ⟨rfl, rfl⟩

theorem set_two {A X vs : List Value} {p q : Nat} (hq : q + vs.length = p) (hp : p + X.length ≤ A.length) :
    let A1 := A.take p ++ X ++ A.drop (p + X.length)
    A1.take q ++ vs ++ A1.drop (q + vs.length) = A.take q ++ vs ++ (X ++ A.drop (p + X.length)) := by
  intro A1
  have hl : (A.take p).length = p := by rw [List.length_take]; omega
  have e1 : A1.drop (q + vs.length) = X ++ A.drop (p + X.length) := by
    rw [hq]
    show (A.take p ++ X ++ A.drop (p + X.length)).drop p = _
    rw [List.append_assoc, List.drop_left' hl]
  have e2 : A1.take q = A.take q := by
    show (A.take p ++ X ++ A.drop (p + X.length)).take q = _
    rw [List.append_assoc, List.take_append_of_le_length (by omega), List.take_take, Nat.min_eq_left (by omega)]
  rw [e1, e2]
theorem set_two' {A X vs : List Value} {p q : Nat} (hq : q + vs.length = p) (hp : p + X.length ≤ A.length) :
    let A1 := A.take q ++ vs ++ A.drop (q + vs.length)
    A1.take p ++ X ++ A1.drop (p + X.length) = A.take q ++ vs ++ (X ++ A.drop (p + X.length)) := by
  intro A1
  have hl : (A.take q ++ vs).length = p := by rw [List.length_append, List.length_take]; omega
  have e1 : A1.take p = A.take q ++ vs := by
    show (A.take q ++ vs ++ A.drop (q + vs.length)).take p = _
    rw [List.take_left' hl]
  have e2 : A1.drop (p + X.length) = A.drop (p + X.length) := by
    show (A.take q ++ vs ++ A.drop (q + vs.length)).drop (p + X.length) = _
    rw [← List.drop_drop, List.drop_left' hl, hq, List.drop_drop]
  rw [e1, e2, List.append_assoc, List.append_assoc]

/-- All roads at once, at rows of the call's own. -/
theorem ins_all {e : TypeId} {i0 : TypeInfo} {z : Value} (L : InsOK P ρ e i0 z) (K : Nat) (hK : i0.size = K) (hb0 : 0 < i0.bytes) (w : World) (A : Option Nat) (n c i vb m vc : Nat) (cs vs : List Value) (cV : Array Value)
    (hi : i ≤ n) (hm : 0 < m) (hnc : n ≤ c) (hcm : c ≤ maxLen) (hbig : (n + m) * i0.bytes ≤ 140737488355328)
    (hN : A = none → n = 0 ∧ c = 0) (hA : ∀ b, A = some b → b ≠ vb ∧ ∃ cB, w.heap[b]? = some (.cells cB e (0, 0)) ∧ cB.size = c * K ∧ cB.toList.take (n * K) = cs)
    (hcl : cs.length = n * K) (hV : w.heap[vb]? = some (.cells cV e (0, 0))) (hvs : cV.toList.take (m * K) = vs) (hvl : m * K ≤ cV.size) (h1c : ∀ v ∈ cs, v.oneCell' = true) (h1v : ∀ v ∈ vs, v.oneCell' = true) :
    Calls P (ρ.f 22) #[.slice (A.map fun g => ⟨g, 0, none⟩) n c, .int .i64 i, .slice (some ⟨vb, 0, none⟩) m vc] w fun ex w' => ∃ g cap cur, ex = .returned (.slice (some ⟨g, 0, none⟩) (n + m) cap) ∧
      w'.heap[g]? = some (.cells cur e (0, 0)) ∧ cur.size = cap * K ∧ n + m ≤ cap ∧ cap ≤ maxLen ∧ cur.toList.take ((n + m) * K) = cs.take (i * K) ++ vs ++ cs.drop (i * K) ∧ (A = some g ∨ g = w.heap.size) ∧ Kept (fun k => A = some k) w w' := by
  have hKp : 0 < K := by rw [← hK]; exact L.sz
  have hmx : maxLen ≤ 9223372036854775807 := by unfold maxLen; omega
  have hvll : vs.length = m * K := by rw [← hvs, List.length_take, Array.length_toList]; omega
  have hvc : ∀ j v, vs[j]? = some v → w.cell? ⟨vb, 0 + j, none⟩ = some v := fun j v hj => by
    rw [cell_of_row w vb _ cV e (0, 0) hV, ← Array.getElem?_toList, Nat.zero_add]
    rw [← hvs, List.getElem?_take] at hj
    split at hj
    · exact hj
    · cases hj
  have hnK : (n + m) * K = n * K + m * K := Nat.add_mul _ _ _
  have hiK : i * K ≤ n * K := Nat.mul_le_mul_right _ hi
  have himK : (i + m) * K = i * K + m * K := Nat.add_mul _ _ _
  have hmK : 0 < m * K := Nat.mul_pos hm hKp
  have hdl : (cs.drop (i * K)).length = (n - i) * K := by rw [List.length_drop, hcl, Nat.sub_mul]
  have hsum : (i + m) * K + (n - i) * K = (n + m) * K := by rw [← Nat.add_mul]; congr 1; omega
  have hztot : ∀ N : Nat, (Builtin.zeroCells z.cells N).size = N * K := fun N => by
    simp only [Builtin.zeroCells, Array.size_map, Array.size_range, L.zs, hK]
  have hold : ∀ k, k < w.heap.size → ∀ o, (w.drew.alloc o).heap[k]? = w.heap[k]? := fun k hk o => Below.heap_alloc w.drew o k (by simpa using hk)
  have hG1 := grownCap_ge w (n + m) c e
  have hG2 : grownCap w (n + m) c e ≤ maxLen := by
    have hnm63 : n + m ≤ 140737488355328 := Nat.le_trans (Nat.le_mul_of_pos_right _ hb0) hbig
    exact grownCap_le_maxLen w (n + m) c e (by unfold maxLen; omega)
  by_cases hroom : n + m ≤ c
  · cases A with
    | none => have := hN rfl; omega
    | some b =>
      obtain ⟨hbv, cB, hB, hBs, hBt⟩ := hA b rfl
      have hcK : (n + m) * K ≤ c * K := Nat.mul_le_mul_right _ hroom
      have hsp : ∀ j, j < (n + m) * K → (w.cell? ⟨b, 0 + j, none⟩).isSome = true := fun j hj => by
        rw [cell_of_row w b _ cB e (0, 0) hB, Nat.zero_add, Array.getElem?_eq_getElem (by omega)]; rfl
      have hfz : ∀ j, w.frozen? ⟨b, j, none⟩ = false := fun j => by simp [World.frozen?, hB]
      have hcc : ∀ j v, cs[j]? = some v → w.cell? ⟨b, 0 + j, none⟩ = some v := fun j v hj => by
        rw [cell_of_row w b _ cB e (0, 0) hB, ← Array.getElem?_toList, Nat.zero_add]
        rw [← hBt, List.getElem?_take] at hj
        split at hj
        · exact hj
        · cases hj
      by_cases hin : i < n
      · have h := ins_shift L K hK b 0 n c i vb 0 m vc cs vs w hin hm hroom (by omega) (Ne.symm hbv) hcl hvll hcc hsp (fun j _ => hfz _) hvc h1c h1v e e cV.size cB.size (by simp [World.shape?, hV]) (by simp [World.shape?, hB]) (by omega) (by simp [World.frozen?, hV]) (by simp [World.frozen?, hV])
        refine h.mono fun ex w' ⟨he, hw⟩ => ?_
        obtain ⟨c1, c2, c3⟩ := cells_set (w := w.drew) (g := b) (o := 0 + (i + m) * K) (vs := cs.drop (i * K)) (cur := cB) (t := e) hB (by rw [hdl]; omega) (fun v hv => h1c v (List.mem_of_mem_drop hv))
        obtain ⟨d1, d2, d3⟩ := cells_set (o := 0 + i * K) (vs := vs) c1 (by
          simp only [List.size_toArray, List.length_append, List.length_take, List.length_drop, Array.length_toList, hvll, hcl]
          have : i * K + (n - i) * K = n * K := by rw [← Nat.add_mul, Nat.add_sub_cancel' hi]
          omega) h1v
        refine ⟨b, c, _, he, by rw [hw]; exact d1, ?_, hroom, hcm, ?_, .inl rfl, ?_⟩
        · simp only [List.size_toArray, List.length_append, List.length_take, List.length_drop, Array.length_toList, hvll, hdl]
          have : i * K + (n - i) * K = n * K := by rw [← Nat.add_mul, Nat.add_sub_cancel' hi]
          omega
        · have hs := set_two (A := cB.toList) (X := cs.drop (i * K)) (vs := vs) (p := (i + m) * K) (q := i * K) (by rw [hvll, himK]) (by rw [hdl, Array.length_toList]; omega)
          simp only [Nat.zero_add] at hs ⊢
          rw [hs, ← List.append_assoc, List.take_left']
          · rw [← hBt, List.take_take, Nat.min_eq_left hiK]
          · rw [List.length_append, List.length_append, List.length_take, Array.length_toList, hvll, hdl]; omega
        · rw [hw]
          have k0 : Kept (fun k => some b = some k) w w.drew := Kept.drawn w _ _
          have c3' : Kept (fun k => some b = some k) w.drew (w.drew.setCells b (0 + (i + m) * K) (cs.drop (i * K))) := ⟨c3.os, c3.tape, c3.output, c3.size, fun k hk ho => c3.block k hk (fun h => ho (by rw [h]))⟩
          have d3' := d3
          exact (k0.trans c3' (fun _ _ h => h)).trans ⟨d3'.os, d3'.tape, d3'.output, d3'.size, fun k hk ho => d3'.block k hk (fun h => ho (by rw [h]))⟩ (fun _ _ h => h)
      · obtain rfl : i = n := by omega
        have h := ins_end_room L K hK b 0 i c vb 0 m vc vs w hm hroom (by omega) hvll (fun j hj => by rw [Nat.add_assoc]; exact hsp _ (by omega)) (fun j _ => hfz _) hvc h1v
        refine h.mono fun ex w' ⟨he, hw⟩ => ?_
        obtain ⟨c1, c2, c3⟩ := cells_set (w := w) (g := b) (o := 0 + i * K) (vs := vs) (cur := cB) (t := e) hB (by rw [hvll]; omega) h1v
        refine ⟨b, c, _, he, by rw [hw]; exact c1, ?_, hroom, hcm, ?_, .inl rfl, ?_⟩
        · simp only [List.size_toArray, List.length_append, List.length_take, List.length_drop, Array.length_toList, hvll]
          omega
        · simp only [Nat.zero_add]
          rw [List.take_left' (by rw [List.length_append, List.length_take, Array.length_toList, hvll]; omega), hBt, List.take_of_length_le (l := cs) (by omega), List.drop_of_length_le (l := cs) (by omega), List.append_nil]
        · rw [hw]
          exact ⟨c3.os, c3.tape, c3.output, c3.size, fun k hk ho => c3.block k hk (fun h => ho (by rw [h]))⟩
  · have hroom' : c < n + m := by omega
    by_cases hin : i < n
    · cases A with
      | none => have := hN rfl; omega
      | some b =>
        obtain ⟨hbv, cB, hB, hBs, hBt⟩ := hA b rfl
        have hcc : ∀ j v, cs[j]? = some v → w.cell? ⟨b, 0 + j, none⟩ = some v := fun j v hj => by
          rw [cell_of_row w b _ cB e (0, 0) hB, ← Array.getElem?_toList, Nat.zero_add]
          rw [← hBt, List.getElem?_take] at hj
          split at hj
          · exact hj
          · cases hj
        have h := ins_grow L K hK b 0 n c i vb 0 m vc cs vs w hin hm hnc hroom' hbig hb0 hcl hvll hcc hvc h1c h1v
        refine h.mono fun ex w' ⟨he, hw⟩ => ?_
        generalize grownCap w (n + m) c e = G at he hw hG1 hG2
        obtain ⟨ROW, hROW⟩ : ∃ ROW : Array Value, ROW = (cs.take (i * K)).toArray ++ Builtin.zeroCells z.cells (n + m - i) ++ Builtin.zeroCells z.cells (G - (n + m)) := ⟨_, rfl⟩
        rw [← hROW] at hw
        have hRs : ROW.size = G * K := by
          have h1 : i * K + (n + m - i) * K = (n + m) * K := by rw [← Nat.add_mul]; congr 1; omega
          have h2 : (n + m) * K + (G - (n + m)) * K = G * K := by rw [← Nat.add_mul]; congr 1; omega
          rw [hROW, Array.size_append, Array.size_append, List.size_toArray, hztot, hztot, List.length_take, hcl, Nat.min_eq_left hiK, h1, h2]
        have hRt : ROW.toList.take (i * K) = cs.take (i * K) := by
          rw [hROW, Array.toList_append, Array.toList_append, List.append_assoc, List.take_left' (by simp only [List.length_take, hcl]; omega)]
        have hGK : (n + m) * K ≤ G * K := Nat.mul_le_mul_right _ hG1
        obtain ⟨c1, c2, c3⟩ := cells_set (w := (w.alloc (.cells ROW e)).drew) (g := w.heap.size) (o := i * K) (vs := vs) (cur := ROW) (t := e) (heap_new w _) (by rw [hvll]; omega) h1v
        obtain ⟨d1, d2, d3⟩ := cells_set (w := ((w.alloc (.cells ROW e)).drew.setCells w.heap.size (i * K) vs).drew) (o := (i + m) * K) (vs := cs.drop (i * K)) c1 (by
          simp only [List.size_toArray, List.length_append, List.length_take, List.length_drop, Array.length_toList, hvll, hcl]
          have : i * K + (n - i) * K = n * K := by rw [← Nat.add_mul, Nat.add_sub_cancel' hi]
          omega) (fun v hv => h1c v (List.mem_of_mem_drop hv))
        refine ⟨w.heap.size, G, _, he, by rw [hw]; exact d1, ?_, hG1, hG2, ?_, .inr rfl, ?_⟩
        · simp only [List.size_toArray, List.length_append, List.length_take, List.length_drop, Array.length_toList, hvll, hdl]
          omega
        · have hs := set_two' (A := ROW.toList) (X := cs.drop (i * K)) (vs := vs) (p := (i + m) * K) (q := i * K) (by rw [hvll, himK]) (by rw [hdl, Array.length_toList]; omega)
          simp only [] at hs ⊢
          rw [hs, ← List.append_assoc, List.take_left']
          · rw [hRt]
          · rw [List.length_append, List.length_append, List.length_take, Array.length_toList, hvll, hdl]; omega
        · rw [hw]
          have hsz1 : (w.alloc (.cells ROW e)).heap.size = w.heap.size + 1 := by simp
          have k0 : Kept (fun k => some b = some k) w ((w.alloc (.cells ROW e)).drew) := (Kept.alloc w _ _).trans (Kept.drawn _ _ _) (fun _ _ h => h)
          have k1 := k0.trans (O' := fun k => k = w.heap.size) c3 (fun k hk h => absurd h (Nat.ne_of_lt hk))
          have k2 := k1.trans (O' := fun _ => False) (Kept.drawn _ (((w.alloc (.cells ROW e)).drew.setCells w.heap.size (i * K) vs).drawn + 1) _) (fun _ _ h => h.elim)
          exact k2.trans (O' := fun k => k = w.heap.size) d3 (fun k hk h => absurd h (Nat.ne_of_lt hk))
    · obtain rfl : i = n := by omega
      have h := ins_end_grow L K hK (A.map fun g => ⟨g, 0, none⟩) i c vb 0 m vc cs vs w hm hnc hroom' hbig hb0 hcl hvll (fun h => by
        cases A with
        | none => exact (hN rfl).1
        | some b => cases h) (fun a ha j v hj => by
        cases A with
        | none => cases ha
        | some b =>
          cases ha
          obtain ⟨hbv, cB, hB, hBs, hBt⟩ := hA b rfl
          rw [Addr.add_lit, cell_of_row w b _ cB e (0, 0) hB, ← Array.getElem?_toList, Nat.zero_add]
          rw [← hBt, List.getElem?_take] at hj
          split at hj
          · exact hj
          · cases hj) hvc h1v
      refine h.mono fun ex w' ⟨he, hw⟩ => ?_
      refine ⟨w.heap.size, _, _, he, by rw [hw]; exact heap_new w.drew _, ?_, hG1, hG2, ?_, .inr rfl, ?_⟩
      · have h2 : (i + m) * K + (grownCap w (i + m) c e - (i + m)) * K = grownCap w (i + m) c e * K := by rw [← Nat.add_mul]; congr 1; omega
        rw [Array.size_append, List.size_toArray, hztot, List.length_append, hcl, hvll, ← Nat.add_mul, h2]
      · rw [Array.toList_append, List.take_left' (by simp only [List.length_append, hcl, hvll]; omega), List.take_of_length_le (l := cs) (by omega), List.drop_of_length_le (l := cs) (by omega), List.append_nil]
      · rw [hw]
        exact (Kept.drawn w _ _).trans (Kept.alloc w.drew _ _) (fun _ _ h => h)
end Go.Proofs.YtpliblemabkikaaDoor.Ev

/- slices.Insert as a call that is handed rows: its contract. Over any program. -/
namespace Go.Proofs.YtpliblemabkikaaDoor.Ev
open Go.Shelf Go.RowKit Go.Lib Go.Proofs

/-- Rows xs and ys: ys at place i of xs. -/
def oc_insert (e : TypeId) (t : Ty) (bytes : Nat) : OC := ⟨⟨[(0, .ref PIN []), (1, .val (.int .i64)), (2, .ref (PIN + 1) [])], [(PIN, e, t, false), (PIN + 1, e, t, false)], []⟩, ⟨[(0, .ref NB [])], [(NB, e, t, false)], []⟩,
  fun x => if 0 ≤ x.1.2.1 ∧ x.1.2.1 ≤ (List.length x.2.1.1 : Int) ∧ 0 < List.length x.2.1.2.1 ∧ (List.length x.2.1.1 + List.length x.2.1.2.1) * bytes ≤ LIM then some (((), ()), (List.take x.1.2.1.toNat x.2.1.1 ++ x.2.1.2.1 ++ List.drop x.1.2.1.toNat x.2.1.1, ()), ()) else none⟩
theorem row_parts {P : Program} {E : Env} {w0 : World} {ok O : Nat → Prop} {σ : St} {tm : Array Value} {w : World} {M : Map} (R : Rep E w0 ok O σ tm w M) {j : Nat} {e : TypeId} {t : Ty} {xs : List t.T} (hr : lk σ.rows j = some ⟨e, t, xs, false⟩) {s : Nat} (hs : lk σ.sl s = some (.ref j [])) :
    ∃ l : L (.sl e t), M.loc j = ⟨.sl e t, l⟩ ∧ l.2.2.map (erase t) = xs ∧ holds w (.sl e t) l ∧ plain w (.sl e t) l ∧ tm[s]? = some (.slice (l.1.map fun g => ⟨g, 0, none⟩) l.2.2.length l.2.1) := by
  obtain ⟨l, h1, h2, h3, _, h5⟩ := R.rows j _ hr
  obtain ⟨u, h6, h7⟩ := R.slots s _ hs
  obtain ⟨cs, ⟨e', t', l', h8, rfl⟩, h9⟩ := h7
  rw [h1, subL_nil] at h8
  cases h8
  refine ⟨l, h1, h2, h3, h5 rfl, ?_⟩
  rcases h9 with ⟨h, _⟩ | ⟨_, h⟩
  · cases h
  · simp only [cellsL, List.cons.injEq, and_true] at h
    rw [h6, ← h]
theorem ok_insert {P : Program} [Glob P] {ρ : Ren} {ti : List TI} {e : TypeId} {t : Ty} {bytes : Nat} {i0 : TypeInfo} {z : Value} (H : InsOK P ρ e i0 z) (hK : i0.size = t.sz) (hb : i0.bytes = bytes) (hb0 : 0 < bytes) (hf : t.flat = true) : OpenOK P ti (ρ.f 22) (oc_insert e t bytes) := by
  refine ⟨rfl, fun E hE x y hF w ok O M vs hlen G R => ?_⟩
  obtain ⟨⟨⟨⟩, i, ⟨⟩, ⟨⟩⟩, ⟨xs, ys, ⟨⟩⟩, ⟨⟩⟩ := x
  simp only [oc_insert] at hF
  split at hF
  · rename_i hc
    cases hF
    obtain ⟨hi0, hi1, hm, hby⟩ := hc
    obtain ⟨n, rfl⟩ := Int.eq_ofNat_of_zero_le hi0
    have hi2 : n ≤ List.length xs := Int.ofNat_le.1 hi1
    clear hi0 hi1
    simp only [Int.toNat_natCast]
    obtain ⟨lx, mx, ex, hx, px, sx⟩ := row_parts (P := P) R (j := PIN) (e := e) (t := t) (xs := xs) rfl (s := 0) rfl
    obtain ⟨ly, my, ey, hy, py, sy⟩ := row_parts (P := P) R (j := PIN + 1) (e := e) (t := t) (xs := ys) rfl (s := 2) rfl
    obtain ⟨u1, s1, r1⟩ := R.slots 1 _ rfl
    match vs, hlen with
    | [v0, v1, v2], _ =>
    have ev0 : v0 = .slice (lx.1.map fun g => ⟨g, 0, none⟩) lx.2.2.length lx.2.1 := by simpa using sx
    have ev2 : v2 = .slice (ly.1.map fun g => ⟨g, 0, none⟩) ly.2.2.length ly.2.1 := by simpa using sy
    have s1 : v1 = u1 := by simpa using s1
    obtain ⟨cs, h1, h2⟩ := r1
    have h1 : cs = [.int .i64 n] := h1
    subst h1
    have hv1 : v1 = .int .i64 n := by
      rw [s1]
      rcases h2 with ⟨h, _⟩ | ⟨_, h⟩
      · cases h
      · cases h; rfl
    subst hv1
    have hxl : xs.length = lx.2.2.length := by rw [← ex, List.length_map]
    have hyl : ys.length = ly.2.2.length := by rw [← ey, List.length_map]
    have hfl : ∀ l : List (L t), l.flatMap (blocksL t) = [] := fun l => by rw [List.flatMap_eq_nil_iff]; exact fun q _ => flat_bl q hf
    have hLIM : LIM = 140737488355328 := rfl
    cases hg : ly.1 with
    | none =>
      have := hy.1
      rw [hg] at this
      have h0 : ly.2.2.length = 0 := by rw [this.1]; rfl
      omega
    | some vb =>
      have hy1 := hy.1
      rw [hg] at hy1
      obtain ⟨cV, fz, v1, v2', v3, v4, v5, v6⟩ := hy1
      obtain ⟨cV', e', w1, w2⟩ := py.1 vb hg
      rw [v1] at w1
      cases w1
      have hcx : lx.2.2.length ≤ lx.2.1 ∧ lx.2.1 ≤ maxLen := by
        have := hx.1
        cases hq : lx.1 with
        | none => rw [hq] at this; rw [this.1, this.2]; exact ⟨Nat.le_refl _, Nat.zero_le _⟩
        | some b => rw [hq] at this; obtain ⟨_, _, _, h3, h4, _⟩ := this; exact ⟨h3, h4⟩
      have hblk : ∀ g, lx.1 = some g → g ∈ blocksL (M.loc PIN).1 (M.loc PIN).2 := fun g h => by rw [mx]; simp [blocksL, h]
      have hown : ∀ g, lx.1 = some g → ¬ ok g ∧ O g := fun g h => by
        obtain ⟨h1, h2⟩ := R.ownR PIN ⟨_, rfl⟩ g (hblk g h)
        refine ⟨h1, h2.resolve_right fun h3 => ?_⟩
        have := hx.1
        rw [h] at this
        obtain ⟨_, _, h4, _⟩ := this
        have := (Array.getElem?_eq_some_iff.1 h4).1
        omega
      have key := ins_all H t.sz hK (by rw [hb]; exact hb0) w lx.1 lx.2.2.length lx.2.1 n vb ly.2.2.length ly.2.1 (lx.2.2.flatMap (cellsL t)) (ly.2.2.flatMap (cellsL t)) cV (by omega) (by omega) hcx.1 hcx.2 (by rw [hb, ← hLIM, ← hxl, ← hyl]; exact hby)
        (fun h => by have := hx.1; rw [h] at this; exact ⟨by rw [this.1]; rfl, this.2⟩)
        (fun b h => by
          refine ⟨fun hbv => ?_, ?_⟩
          · have := R.rr PIN (PIN + 1) (by simp) ⟨_, rfl⟩ ⟨_, rfl⟩ b (hblk b h)
            rw [my] at this
            exact this (by simp [blocksL, hg, hbv])
          · have := hx.1
            rw [h] at this
            obtain ⟨cB, fz, q1, q2, q3, q4, q5, q6⟩ := this
            obtain ⟨cB', e', q7, q8⟩ := px.1 b h
            rw [q1] at q7
            cases q7
            exact ⟨cB, q1, q8, q5⟩) (flat_len _ _) v1 v5 (Nat.le_trans (Nat.mul_le_mul_right _ v2') v4) (one_cells _) (one_cells _)
      obtain ⟨nm, hnm, F22⟩ := H.f22
      unfold Does
      rw [run_enter F22 (by rfl) hnm]
      rw [ev0, ev2, hg]
      refine key.mono fun ex w' ⟨g, cap, cur, he, k1, k2, k3, k4, k5, k6, k7⟩ => ?_
      subst he
      have hl' : (lx.2.2.take n ++ ly.2.2 ++ lx.2.2.drop n).length = lx.2.2.length + ly.2.2.length := by
        simp only [List.length_append, List.length_take, List.length_drop]; omega
      have hfm : (lx.2.2.take n ++ ly.2.2 ++ lx.2.2.drop n).flatMap (cellsL t) = (lx.2.2.flatMap (cellsL t)).take (n * t.sz) ++ ly.2.2.flatMap (cellsL t) ++ (lx.2.2.flatMap (cellsL t)).drop (n * t.sz) := by
        rw [List.flatMap_append, List.flatMap_append]
        have hq : lx.2.2.flatMap (cellsL t) = (lx.2.2.take n).flatMap (cellsL t) ++ (lx.2.2.drop n).flatMap (cellsL t) := by rw [← List.flatMap_append, List.take_append_drop]
        have hql : ((lx.2.2.take n).flatMap (cellsL t)).length = n * t.sz := by rw [flat_len, List.length_take, Nat.min_eq_left (by omega)]
        rw [hq, List.take_left' hql, List.drop_left' hql]
      have hOk : ¬ ok g ∧ (O g ∨ w.heap.size ≤ g) := by
        rcases k6 with k6 | k6
        · exact ⟨(hown g k6).1, .inl (hown g k6).2⟩
        · exact ⟨fun h => by have := (R.okB g h).1; omega, .inr (by omega)⟩
      have := newT_rep (E := E) (w0 := w) (ok := ok) (O := O) (n := 1) (t := .sl e t) (l := (some g, cap, lx.2.2.take n ++ ly.2.2 ++ lx.2.2.drop n)) (v := .slice (some ⟨g, 0, none⟩) (lx.2.2.length + ly.2.2.length) cap) (w := w')
        (show WholeT _ _ _ from .inr ⟨rfl, by simp only [cellsL, hl']; rfl⟩) (Nat.succ_pos 0) ⟨⟨cur, (0, 0), k1, by rw [hl']; exact k3, k4, Nat.le_of_eq k2.symm, by rw [hl', k5, hfm], .inl rfl⟩, fun q _ => (flat_ho q hf w').1⟩
        ⟨fun b hb => by cases hb; exact ⟨cur, e, k1, k2⟩, fun q _ => (flat_ho q hf w').2⟩ (by simp only [blocksL, hfl]; simp) (fun k hk => by
          simp only [blocksL, hfl, Option.toList_some, List.append_nil, List.mem_singleton] at hk
          subst hk
          exact hOk) R.okB ⟨k7.os, k7.tape, k7.output, k7.size, fun k hk ho => k7.block k hk fun h => ho (hown k h).2⟩ (by simp [newN, NB, PIN])
      obtain ⟨M', R'⟩ := this
      refine ⟨M', ?_⟩
      have hE2 : erase (.sl e t) (some g, cap, lx.2.2.take n ++ ly.2.2 ++ lx.2.2.drop n) = xs.take n ++ ys ++ xs.drop n := by
        simp only [erase, List.map_append, List.map_take, List.map_drop, ex, ey]
      rw [hE2] at R'
      exact R'
  · cases hF

theorem agg_no {P : Program} {t : TypeId} {d : TypeDesc} (h : P.underlying t = some d) (hd : (match d with | .struct _ => false | .array _ _ => false | .slice _ => true | .int _ => true | .bool => true | _ => false) = true) : ∀ w, (isAgg t).run P w = .ok false w := by
  intro w
  cases d <;> first | (unfold isAgg; simp only [Sem.run_bind, run_underlying h, Result.andThen_ok, Sem.run_pure]; done) | (cases hd; done)
theorem ok_insert_at {P : Program} [Glob P] {ρ : Ren} {ti : List TI} (T : tabOK P ti = true) {e : TypeId} {t : Ty} {bytes : Nat} (fe : Bears P (ρ.f 22) (Body2.n22 ρ))
    (ov : ∀ vs w, (callFunc (ρ.f 29) vs).run P w = ((Extern.SlicesOverlaps.overlaps #[ρ.t 24, ρ.t 24] #[ρ.t 4] vs).run P w).andThen fun v w' => .ok (.value v) w')
    (mixed : P.follows .mixedOrders = true) (t3 : P.underlying (ρ.t 3) = some (.int .i64)) (t4 : P.underlying (ρ.t 4) = some .bool) (t24 : P.underlying (ρ.t 24) = some (.slice e))
    {i : TI} (hi : ti[e]? = some i) (hty : i.ty = t) (hz : t.zero.isSome = true) (hb : i.bytes = bytes) (hf : t.flat = true) (hst : (match i.sh with | .oth => false | _ => true) = true) : OpenOK P ti (ρ.f 22) (oc_insert e t bytes) := by
  subst hty
  let E : Env := mkEnv ti [] (fun _ => none) pins0 pinB0
  have TE : tabOK P E.ti = true := T
  have hiE : E.ti[e]? = some i := hi
  have htE : E.tyOf e = i.ty := by rw [Env.tyOf, hiE]
  obtain ⟨z1, hz1⟩ : ∃ z, (E.tyOf e).zero = some z := by rw [htE]; exact Option.isSome_iff_exists.1 hz
  obtain ⟨ti', v, i1, i2, i3, i4⟩ := tab_zero TE hz1
  obtain ⟨⟨ti2, j1, j2, j3, j4, j5⟩, _⟩ := (tab_sized TE hiE (by intro hsh; rw [hsh] at hst; cases hst)).1
  rw [i1] at j1
  cases j1
  have hvs : v.cells.size = (E.tyOf e).sz := by rw [← Array.length_toList, i3, cellsZ_len _ hz1]
  have hpos : 0 < (E.tyOf e).sz := Nat.pos_of_ne_zero (zero_pos _ hz1)
  refine ok_insert (i0 := ti') (z := v) ⟨fe, ov, mixed, t3, agg_no t3 rfl, t4, agg_no t4 rfl, t24, agg_no t24 rfl, i1, i2, by rw [i4]; exact hpos, by rw [hvs, i4]⟩ (by rw [i4, htE]) (by rw [← hb, ← j3]) (by rw [← hb, ← j3]; exact j4) hf
end Go.Proofs.YtpliblemabkikaaDoor.Ev

/- slices.Grow as a call that is handed a row: its contract. Over any program. -/
namespace Go.Proofs.YtpliblemabkikaaDoor.Ev
open Go.Shelf Go.RowKit Go.Lib Go.Proofs
variable {P : Program} {ρ : Ren}

/-- A row, with room. -/
def oc_grow (e : TypeId) (t : Ty) (bytes : Nat) : OC := ⟨⟨[(0, .ref PIN []), (1, .val (.int .i64))], [(PIN, e, t, false)], []⟩, ⟨[(0, .ref NB [])], [(NB, e, t, false)], []⟩,
  fun x => if 0 ≤ x.1.2.1 ∧ (List.length x.2.1.1 + x.1.2.1.toNat) * bytes ≤ LIM then some (((), ()), (x.2.1.1, ()), ()) else none⟩

theorem grow_all (L : Lays8.n4 P ρ) {e : TypeId} {i0 : TypeInfo} {z : Value} (h25 : ρ.t 25 = e) (hi0 : P.info? e = some i0) (hz0 : i0.zero = some z) (hs0 : 0 < i0.size) (hzs : z.cells.size = i0.size) (K : Nat) (hK : i0.size = K) (hb0 : 0 < i0.bytes)
    (w : World) (A : Option Nat) (n c m : Nat) (cs : List Value) (hnc : n ≤ c) (hcm : c ≤ maxLen) (hbig : (n + m) * i0.bytes ≤ 140737488355328)
    (hN : A = none → n = 0 ∧ c = 0) (hA : ∀ b, A = some b → ∃ cB, w.heap[b]? = some (.cells cB e (0, 0)) ∧ cB.size = c * K ∧ cB.toList.take (n * K) = cs) (hcl : cs.length = n * K) :
    Calls P (ρ.f 4) #[.slice (A.map fun g => ⟨g, 0, none⟩) n c, .int .i64 m] w fun ex w' => ∃ A' cap, ex = .returned (.slice (A'.map fun g => ⟨g, 0, none⟩) n cap) ∧
      ((A' = none ∧ n = 0 ∧ cap = 0) ∨ ∃ g cur, A' = some g ∧ w'.heap[g]? = some (.cells cur e (0, 0)) ∧ cur.size = cap * K ∧ n ≤ cap ∧ cap ≤ maxLen ∧ cur.toList.take (n * K) = cs ∧ (A = some g ∨ g = w.heap.size)) ∧
      Kept (fun k => A = some k) w w' := by
  subst h25
  have hnm63 : n + m ≤ 140737488355328 := Nat.le_trans (Nat.le_mul_of_pos_right _ hb0) hbig
  have hmx : maxLen ≤ 9223372036854775807 := by unfold maxLen; omega
  by_cases hroom : n + m ≤ c
  · refine (Any8.slices_Grow_room L (A.map fun g => ⟨g, 0, none⟩) n c m w hnc (by omega) (by omega) hroom).mono fun ex w' ⟨he, hw⟩ => ?_
    subst hw
    refine ⟨A, c, he, ?_, Kept.refl _ _⟩
    cases A with
    | none => exact .inl ⟨rfl, (hN rfl).1, (hN rfl).2⟩
    | some b =>
      obtain ⟨cB, q1, q2, q3⟩ := hA b rfl
      exact .inr ⟨b, cB, rfl, q1, q2, hnc, hcm, q3, .inl rfl⟩
  · obtain ⟨all, hal, hat, hac⟩ : ∃ all : List Value, all.length = c * i0.size ∧ all.take (n * K) = cs ∧ ∀ a, (A.map fun g => (⟨g, 0, none⟩ : Addr)) = some a → ∀ j v, all[j]? = some v → w.cell? (a.add j) = some v := by
      cases A with
      | none =>
        obtain ⟨h1, h2⟩ := hN rfl
        subst h1; subst h2
        rw [Nat.zero_mul] at hcl
        exact ⟨[], by simp, by rw [List.length_eq_zero_iff.1 hcl]; simp, fun a h => by cases h⟩
      | some b =>
        obtain ⟨cB, q1, q2, q3⟩ := hA b rfl
        refine ⟨cB.toList, by rw [Array.length_toList, q2, hK], q3, fun a h j v hj => ?_⟩
        cases h
        rw [Addr.add_lit, cell_of_row w b _ cB _ (0, 0) q1, ← Array.getElem?_toList, Nat.zero_add]
        exact hj
    have hztot : ∀ N : Nat, (Builtin.zeroCells z.cells N).size = N * K := fun N => by
      simp only [Builtin.zeroCells, Array.size_map, Array.size_range, hzs, hK]
    refine (Any8.slices_Grow_grow L i0 z hi0 hz0 hs0 (A.map fun g => ⟨g, 0, none⟩) n c m all w hnc (by omega) hbig (by omega) hal (fun h => by
      cases A with
      | none => exact (hN rfl).2
      | some b => cases h) hac).mono fun ex w' ⟨he, hw⟩ => ?_
    have hG1 := grownCap_ge w (n + m) c (ρ.t 25)
    have hG2 : grownCap w (n + m) c (ρ.t 25) ≤ maxLen := grownCap_le_maxLen w (n + m) c (ρ.t 25) (by unfold maxLen; omega)
    generalize grownCap w (n + m) c (ρ.t 25) = G at he hw hG1 hG2
    refine ⟨some w.heap.size, G, he, .inr ⟨w.heap.size, _, rfl, by rw [hw]; exact heap_new w.drew _, ?_, by omega, hG2, ?_, .inr rfl⟩, ?_⟩
    · have h1 : c * K + (n + m - c) * K = (n + m) * K := by rw [← Nat.add_mul]; congr 1; omega
      have h2 : (n + m) * K + (G - (n + m)) * K = G * K := by rw [← Nat.add_mul]; congr 1; omega
      rw [Array.size_append, Array.size_append, List.size_toArray, hztot, hztot, hal, hK, h1, h2]
    · have h3 : n * K ≤ c * K := Nat.mul_le_mul_right _ hnc
      rw [Array.toList_append, Array.toList_append, List.append_assoc, List.take_append_of_le_length (by rw [hal, hK]; exact h3)]
      exact hat
    · rw [hw]
      exact (Kept.drawn w _ _).trans (Kept.alloc w.drew _ _) (fun _ _ h => h)

theorem ok_grow [Glob P] {ti : List TI} {e : TypeId} {t : Ty} {bytes : Nat} {i0 : TypeInfo} {z : Value} (H : Lays8.n4 P ρ) (h25 : ρ.t 25 = e) (hi0 : P.info? e = some i0) (hz0 : i0.zero = some z) (hs0 : 0 < i0.size) (hzs : z.cells.size = i0.size) (hK : i0.size = t.sz) (hb : i0.bytes = bytes) (hb0 : 0 < bytes) (hf : t.flat = true) : OpenOK P ti (ρ.f 4) (oc_grow e t bytes) := by
  refine ⟨rfl, fun E hE x y hF w ok O M vs hlen G R => ?_⟩
  obtain ⟨⟨⟨⟩, i, ⟨⟩⟩, ⟨xs, ⟨⟩⟩, ⟨⟩⟩ := x
  simp only [oc_grow] at hF
  split at hF
  · rename_i hc
    cases hF
    obtain ⟨hi0', hby⟩ := hc
    obtain ⟨m, rfl⟩ := Int.eq_ofNat_of_zero_le hi0'
    clear hi0'
    rw [Int.toNat_natCast] at hby
    obtain ⟨lx, mx, ex, hx, px, sx⟩ := row_parts (P := P) R (j := PIN) (e := e) (t := t) (xs := xs) rfl (s := 0) rfl
    obtain ⟨u1, s1, r1⟩ := R.slots 1 _ rfl
    match vs, hlen with
    | [v0, v1], _ =>
    have ev0 : v0 = .slice (lx.1.map fun g => ⟨g, 0, none⟩) lx.2.2.length lx.2.1 := by simpa using sx
    have s1 : v1 = u1 := by simpa using s1
    obtain ⟨cs, h1, h2⟩ := r1
    have h1 : cs = [.int .i64 m] := h1
    subst h1
    have hv1 : v1 = .int .i64 m := by
      rw [s1]
      rcases h2 with ⟨h, _⟩ | ⟨_, h⟩
      · cases h
      · cases h; rfl
    subst hv1
    have hxl : xs.length = lx.2.2.length := by rw [← ex, List.length_map]
    have hfl : ∀ l : List (L t), l.flatMap (blocksL t) = [] := fun l => by rw [List.flatMap_eq_nil_iff]; exact fun q _ => flat_bl q hf
    have hLIM : LIM = 140737488355328 := rfl
    have hcx : lx.2.2.length ≤ lx.2.1 ∧ lx.2.1 ≤ maxLen := by
      have := hx.1
      cases hq : lx.1 with
      | none => rw [hq] at this; rw [this.1, this.2]; exact ⟨Nat.le_refl _, Nat.zero_le _⟩
      | some b => rw [hq] at this; obtain ⟨_, _, _, h3, h4, _⟩ := this; exact ⟨h3, h4⟩
    have hblk : ∀ g, lx.1 = some g → g ∈ blocksL (M.loc PIN).1 (M.loc PIN).2 := fun g h => by rw [mx]; simp [blocksL, h]
    have hown : ∀ g, lx.1 = some g → ¬ ok g ∧ O g := fun g h => by
      obtain ⟨h1, h2⟩ := R.ownR PIN ⟨_, rfl⟩ g (hblk g h)
      refine ⟨h1, h2.resolve_right fun h3 => ?_⟩
      have := hx.1
      rw [h] at this
      obtain ⟨_, _, h4, _⟩ := this
      have := (Array.getElem?_eq_some_iff.1 h4).1
      omega
    have key := grow_all H h25 hi0 hz0 hs0 hzs t.sz hK (by rw [hb]; exact hb0) w lx.1 lx.2.2.length lx.2.1 m (lx.2.2.flatMap (cellsL t)) hcx.1 hcx.2 (by rw [hb, ← hLIM, ← hxl]; exact hby)
      (fun h => by have := hx.1; rw [h] at this; exact ⟨by rw [this.1]; rfl, this.2⟩)
      (fun b h => by
        have := hx.1
        rw [h] at this
        obtain ⟨cB, fz, q1, q2, q3, q4, q5, q6⟩ := this
        obtain ⟨cB', e', q7, q8⟩ := px.1 b h
        rw [q1] at q7
        cases q7
        exact ⟨cB, q1, q8, q5⟩) (flat_len _ _)
    obtain ⟨nm, hnm, F4⟩ := H.f4
    unfold Does
    rw [run_enter F4 (by rfl) hnm]
    rw [ev0]
    refine key.mono fun ex' w' ⟨A', cap, he, k1, k7⟩ => ?_
    subst he
    have hOk : ∀ g, A' = some g → ¬ ok g ∧ (O g ∨ w.heap.size ≤ g) := fun g hg => by
      rcases k1 with ⟨k1, _⟩ | ⟨g', cur, k1, _, _, _, _, _, k6⟩
      · rw [k1] at hg; cases hg
      · rw [k1] at hg
        cases hg
        rcases k6 with k6 | k6
        · exact ⟨(hown g k6).1, .inl (hown g k6).2⟩
        · exact ⟨fun h => by have := (R.okB g h).1; omega, .inr (by omega)⟩
    have hh : holds w' (.sl e t) (A', cap, lx.2.2) ∧ plain w' (.sl e t) (A', cap, lx.2.2) := by
      rcases k1 with ⟨rfl, k2, k3⟩ | ⟨g, cur, rfl, k2, k3, k4, k5, k6, _⟩
      · exact ⟨⟨⟨List.length_eq_zero_iff.1 k2, k3⟩, fun q _ => (flat_ho q hf w').1⟩, ⟨fun b hb => (nomatch hb), fun q _ => (flat_ho q hf w').2⟩⟩
      · exact ⟨⟨⟨cur, (0, 0), k2, k4, k5, Nat.le_of_eq k3.symm, k6, .inl rfl⟩, fun q _ => (flat_ho q hf w').1⟩, ⟨fun b hb => by cases hb; exact ⟨cur, e, k2, k3⟩, fun q _ => (flat_ho q hf w').2⟩⟩
    have := newT_rep (E := E) (w0 := w) (ok := ok) (O := O) (n := 1) (t := .sl e t) (l := (A', cap, lx.2.2)) (v := .slice (A'.map fun g => ⟨g, 0, none⟩) lx.2.2.length cap) (w := w')
      (show WholeT _ _ _ from .inr ⟨rfl, rfl⟩) (Nat.succ_pos 0) hh.1 hh.2 (by simp only [blocksL, hfl]; cases A' <;> simp) (fun k hk => by
        simp only [blocksL, hfl, List.append_nil, Option.mem_toList] at hk
        exact hOk k hk) R.okB ⟨k7.os, k7.tape, k7.output, k7.size, fun k hk ho => k7.block k hk fun h => ho (hown k h).2⟩ (by simp [newN, NB, PIN])
    obtain ⟨M', R'⟩ := this
    refine ⟨M', ?_⟩
    have hE2 : erase (.sl e t) (A', cap, lx.2.2) = xs := ex
    rw [hE2] at R'
    exact R'
  · cases hF
theorem ok_grow_at [Glob P] {ti : List TI} (T : tabOK P ti = true) {e : TypeId} {t : Ty} {bytes : Nat} (H : Lays8.n4 P ρ) (h25 : ρ.t 25 = e)
    {i : TI} (hi : ti[e]? = some i) (hty : i.ty = t) (hz : t.zero.isSome = true) (hb : i.bytes = bytes) (hf : t.flat = true) (hst : (match i.sh with | .oth => false | _ => true) = true) : OpenOK P ti (ρ.f 4) (oc_grow e t bytes) := by
  subst hty
  let E : Env := mkEnv ti [] (fun _ => none) pins0 pinB0
  have TE : tabOK P E.ti = true := T
  have hiE : E.ti[e]? = some i := hi
  have htE : E.tyOf e = i.ty := by rw [Env.tyOf, hiE]
  obtain ⟨z1, hz1⟩ : ∃ z, (E.tyOf e).zero = some z := by rw [htE]; exact Option.isSome_iff_exists.1 hz
  obtain ⟨ti', v, i1, i2, i3, i4⟩ := tab_zero TE hz1
  obtain ⟨⟨ti2, j1, j2, j3, j4, j5⟩, _⟩ := (tab_sized TE hiE (by intro hsh; rw [hsh] at hst; cases hst)).1
  rw [i1] at j1
  cases j1
  have hvs : v.cells.size = (E.tyOf e).sz := by rw [← Array.length_toList, i3, cellsZ_len _ hz1]
  have hpos : 0 < (E.tyOf e).sz := Nat.pos_of_ne_zero (zero_pos _ hz1)
  exact ok_grow (i0 := ti') (z := v) H h25 i1 i2 (by rw [i4]; exact hpos) (by rw [hvs, i4]) (by rw [i4, htE]) (by rw [← hb, ← j3]) (by rw [← hb, ← j3]; exact j4) hf
end Go.Proofs.YtpliblemabkikaaDoor.Ev

/- slices.Delete at elements of whatever make: walked once; as a call that is handed a row. Over any program. -/
namespace Go.Proofs.YtpliblemabkikaaDoor.Ev
open Go.Shelf Go.RowKit Go.Lib Go.Proofs
variable {P : Program} {ρ : Ren}

theorem run_clear_K (w : World) (t e ty : TypeId) (z : Value) (ht : P.underlying t = some (.slice e)) (hv : ∀ w, (zeroValue e).run P w = .ok z w) (b o n c : Nat) (hn : 0 < n)
    (hc : ∀ j, j < (Builtin.zeroCells z.cells n).size → (w.cell? ⟨b, o + j, none⟩).isSome = true) (hf : ∀ j, j < (Builtin.zeroCells z.cells n).size → w.frozen? ⟨b, o + j, none⟩ = false) (h1 : ∀ v ∈ (Builtin.zeroCells z.cells n).toList, v.oneCell' = true) :
    (Builtin.clear_ #[t] ty #[.slice (some ⟨b, o, none⟩) n c]).run P w = .ok (.tuple #[]) (w.setCells b o (Builtin.zeroCells z.cells n).toList) := by
  have hst := run_storeCells_cells (P := P) b o (Builtin.zeroCells z.cells n).toList 0 w (by simpa using hc) (by simpa using hf) h1
  simp only [Nat.add_zero] at hst
  obtain ⟨m, rfl⟩ : ∃ m, n = m + 1 := ⟨n - 1, by omega⟩
  simp [Builtin.clear_, run_underlying ht, hv, hst]

/-- What the program must say of the function and its types. -/
structure DelOK (P : Program) (ρ : Ren) (i0 : TypeInfo) (z : Value) : Prop where
  mixed : P.follows .mixedOrders = true
  f45 : Bears P (ρ.f 45) (SlBodyN.n45 ρ)
  t3 : P.underlying (ρ.t 3) = some (TypeDesc.int IntKind.i64)
  a3 : ∀ w, (isAgg (ρ.t 3)).run P w = .ok false w
  t4 : P.underlying (ρ.t 4) = some (TypeDesc.bool)
  a4 : ∀ w, (isAgg (ρ.t 4)).run P w = .ok false w
  t22 : P.underlying (ρ.t 22) = some (TypeDesc.slice (ρ.t 23))
  a22 : ∀ w, (isAgg (ρ.t 22)).run P w = .ok false w
  i23 : P.info? (ρ.t 23) = some i0
  z0 : i0.zero = some z
  sz : 0 < i0.size
  zs : z.cells.size = i0.size
  z1 : ∀ v ∈ z.cells.toList, v.oneCell' = true

theorem del_same {i0 : TypeInfo} {z : Value} (L : DelOK P ρ i0 z) (A : Option Addr) (n c i : Nat) (w : World) (hi : i ≤ n) (hnc : n ≤ c) (hc63 : c ≤ 9223372036854775807) :
    Calls P (ρ.f 45) #[.slice A n c, .int .i64 i, .int .i64 i] w fun e w' => e = .returned (.slice A n c) ∧ w' = w := by
  have mixed := L.mixed; have t3 := L.t3; have a3 := L.a3; have t4 := L.t4; have a4 := L.a4; have t22 := L.t22; have a22 := L.a22
  have u3 := run_underlying L.t3; have u4 := run_underlying L.t4; have u22 := run_underlying L.t22
  have z23 : ∀ w, (Go.sizeOf (ρ.t 23)).run P w = .ok i0.size w := fun w => by simp [Go.sizeOf, typeInfo, L.i23]
  obtain ⟨nm, hnm, FG⟩ := L.f45
  go_enter FG, SlBodyN.n45_ntmps ρ
  go_wp2
  all_goals (go_ret; exact ⟨rfl, rfl⟩)

set_option maxHeartbeats 4000000 in
set_option maxRecDepth 100000 in
theorem del_walk {i0 : TypeInfo} {z : Value} (L : DelOK P ρ i0 z) (K : Nat) (hK : i0.size = K) (b off n c i j : Nat) (cs : List Value) (w : World) (hij : i < j) (hj : j ≤ n) (hnc : n ≤ c) (hc63 : c ≤ 9223372036854775807) (hcl : cs.length = n * K)
    (hcs : ∀ t v, cs[t]? = some v → w.cell? ⟨b, off + t, none⟩ = some v) (hfz : ∀ t, t < n * K → w.frozen? ⟨b, off + t, none⟩ = false) (h1c : ∀ v ∈ cs, v.oneCell' = true) :
    Calls P (ρ.f 45) #[.slice (some ⟨b, off, none⟩) n c, .int .i64 i, .int .i64 j] w fun e w' => e = .returned (.slice (some ⟨b, off, none⟩) (i + (n - j)) c) ∧
      w' = (w.drew.setCells b (off + i * K) (cs.drop (j * K))).setCells b (off + (i + (n - j)) * K) (Builtin.zeroCells z.cells (n - (i + (n - j)))).toList := by
  have mixed := L.mixed; have t3 := L.t3; have a3 := L.a3; have t4 := L.t4; have a4 := L.a4; have t22 := L.t22; have a22 := L.a22
  have u3 := run_underlying L.t3; have u4 := run_underlying L.t4; have u22 := run_underlying L.t22
  have z23 : ∀ w, (Go.sizeOf (ρ.t 23)).run P w = .ok K w := fun w => by simp [Go.sizeOf, typeInfo, L.i23, hK]
  have v23 : ∀ w, (zeroValue (ρ.t 23)).run P w = .ok z w := fun w => by simp [zeroValue, typeInfo, L.i23, L.z0]
  obtain ⟨news, hnews⟩ : ∃ news, news = cs.drop (j * K) := ⟨_, rfl⟩
  have hjK : j * K ≤ n * K := Nat.mul_le_mul_right _ hj
  have hlen : news.length = (n - j) * K := by rw [hnews, List.length_drop, hcl, Nat.sub_mul]
  have hsum : i * K + (n - j) * K ≤ n * K := by rw [← Nat.add_mul]; exact Nat.mul_le_mul_right _ (by omega)
  have hcell : ∀ t, t < n * K → (w.cell? ⟨b, off + t, none⟩).isSome = true := fun t ht => by
    rw [hcs t _ (List.getElem?_eq_getElem (by omega : t < cs.length))]; rfl
  obtain ⟨A, hA, hsrc⟩ : ∃ A : Addr, (if c = j then some (⟨b, off, none⟩ : Addr) else some ⟨b, off + j * K, none⟩) = some A ∧ Hid (∀ t u, news[t]? = some u → w.drew.cell? (A.add t) = some u) := by
    by_cases h : c = j
    · refine ⟨⟨b, off, none⟩, by simp [h], fun t u hu => ?_⟩
      have h0 : news.length = 0 := by rw [hlen, show n - j = 0 by omega, Nat.zero_mul]
      rw [List.length_eq_zero_iff.1 h0] at hu
      simp at hu
    · refine ⟨⟨b, off + j * K, none⟩, by simp [h], fun t u hu => ?_⟩
      rw [hnews, List.getElem?_drop] at hu
      rw [Addr.add_lit, Nat.add_assoc]
      exact hcs _ _ hu
  have s1 : Hid (news.length = (n - j) * K) := hlen
  have s2 : Hid (∀ u ∈ news, u.oneCell' = true) := fun u hu => by
    rw [hnews] at hu
    exact h1c u (List.mem_of_mem_drop hu)
  have s3 : Hid (∀ t, t < news.length → (w.drew.cell? ⟨b, off + i * K + t, none⟩).isSome = true ∧ w.drew.frozen? ⟨b, off + i * K + t, none⟩ = false) := fun t ht => by
    rw [hlen] at ht
    rw [Nat.add_assoc]
    exact ⟨hcell _ (by omega), hfz _ (by omega)⟩
  obtain ⟨W1, hW1⟩ : ∃ W1, W1 = w.drew.setCells b (off + i * K) news := ⟨_, rfl⟩
  have hzc : (Builtin.zeroCells z.cells (n - (i + (n - j)))).size = (n - (i + (n - j))) * K := by
    simp only [Builtin.zeroCells, Array.size_map, Array.size_range, L.zs, hK]
  have hq : (i + (n - j)) * K + (n - (i + (n - j))) * K = n * K := by rw [← Nat.add_mul]; congr 1; omega
  have hz1 : ∀ v ∈ (Builtin.zeroCells z.cells (n - (i + (n - j)))).toList, v.oneCell' = true := fun v hv => by
    simp only [Builtin.zeroCells, Array.toList_map, List.mem_map] at hv
    obtain ⟨t, _, rfl⟩ := hv
    have hp : 0 < z.cells.size := by rw [L.zs]; exact L.sz
    have : t % z.cells.size < z.cells.size := Nat.mod_lt _ hp
    rw [getElem!_pos z.cells (t % z.cells.size) this]
    exact L.z1 _ (by simp)
  have hcl2 : ∀ ty, (Builtin.clear_ #[ρ.t 22] ty #[.slice (some ⟨b, off + (i + (n - j)) * K, none⟩) (n - (i + (n - j))) (c - (i + (n - j)))]).run P W1 = .ok (.tuple #[]) (W1.setCells b (off + (i + (n - j)) * K) (Builtin.zeroCells z.cells (n - (i + (n - j)))).toList) := fun ty =>
    run_clear_K W1 _ _ ty _ t22 v23 b _ _ _ (by omega) (fun t ht => by
      rw [hzc] at ht
      rw [hW1]
      exact isSome_setCells b _ _ _ (fun q hq' => by rw [Nat.add_assoc]; exact hcell _ (by rw [hlen] at hq'; omega)) _ (by rw [Nat.add_assoc]; exact hcell _ (by omega))) (fun t ht => by
      rw [hzc] at ht
      rw [hW1, World.frozen?_setCells, Nat.add_assoc]
      exact hfz _ (by omega)) hz1
  have hW : Hid (W1 = w.drew.setCells b (off + i * K) news) := hW1
  have hfin : Hid (∀ w', w' = W1.setCells b (off + (i + (n - j)) * K) (Builtin.zeroCells z.cells (n - (i + (n - j)))).toList → w' = (w.drew.setCells b (off + i * K) (cs.drop (j * K))).setCells b (off + (i + (n - j)) * K) (Builtin.zeroCells z.cells (n - (i + (n - j)))).toList) := fun w' h => by rw [h, hW1, hnews]
  have hi0 := L.i23
  have hic : i ≤ c := by omega
  have hjc : j ≤ c := by omega
  have hne : i ≠ j := by omega
  clear hW1 hnews hlen hzc hq hz1 hcell hcs hfz h1c hcl hsum hjK v23
  generalize z.cells = Z at hcl2 hfin ⊢
  obtain ⟨nm, hnm, FG⟩ := L.f45
  go_enter FG, SlBodyN.n45_ntmps ρ
  go_wp2_with fail
  go_region_law_o (refine step_append_room rfl (.tmp 22) (.tmp 25) (ρ.t 22) rfl (ρ.t 23) i0 K t22 hi0 hK b off i c (by simp [Act.eval, Act.put]) A (n - j) (c - j) news (by simp [Act.eval, Act.put]) s1.out hsrc.out s2.out (by omega) s3.out ?_; rw [← hW.out])
  go_wp2
  go_ret
  exact ⟨rfl, hfin.out _ rfl⟩

theorem del_all {i0 : TypeInfo} {z : Value} (L : DelOK P ρ i0 z) {e : TypeId} (he : ρ.t 23 = e) (K : Nat) (hK : i0.size = K) (w : World) (A : Option Nat) (n c i j : Nat) (cs : List Value) (hij : i ≤ j) (hj : j ≤ n) (hnc : n ≤ c) (hcm : c ≤ maxLen)
    (hN : A = none → n = 0) (hA : ∀ b, A = some b → ∃ cB, w.heap[b]? = some (.cells cB e (0, 0)) ∧ cB.size = c * K ∧ cB.toList.take (n * K) = cs) (hcl : cs.length = n * K) (h1c : ∀ v ∈ cs, v.oneCell' = true) :
    Calls P (ρ.f 45) #[.slice (A.map fun g => ⟨g, 0, none⟩) n c, .int .i64 i, .int .i64 j] w fun ex w' => ex = .returned (.slice (A.map fun g => ⟨g, 0, none⟩) (i + (n - j)) c) ∧
      (∀ b, A = some b → ∃ cur, w'.heap[b]? = some (.cells cur e (0, 0)) ∧ cur.size = c * K ∧ cur.toList.take ((i + (n - j)) * K) = cs.take (i * K) ++ cs.drop (j * K)) ∧ Kept (fun k => A = some k) w w' := by
  subst he
  have hmx : maxLen ≤ 9223372036854775807 := by unfold maxLen; omega
  by_cases heq : i = j
  · subst heq
    refine (del_same L (A.map fun g => ⟨g, 0, none⟩) n c i w hj hnc (by omega)).mono fun ex w' ⟨h1, h2⟩ => ?_
    subst h2
    refine ⟨by rw [h1, show i + (n - i) = n by omega], fun b hb => ?_, Kept.refl _ _⟩
    obtain ⟨cB, q1, q2, q3⟩ := hA b hb
    exact ⟨cB, q1, q2, by rw [show i + (n - i) = n by omega, q3, List.take_append_drop]⟩
  · have hlt : i < j := by omega
    cases A with
    | none => have := hN rfl; omega
    | some b =>
      obtain ⟨cB, hB, hBs, hBt⟩ := hA b rfl
      have hcK : n * K ≤ c * K := Nat.mul_le_mul_right _ hnc
      have hjK : j * K ≤ n * K := Nat.mul_le_mul_right _ hj
      have hiK : i * K ≤ j * K := Nat.mul_le_mul_right _ hij
      have hsum : (i + (n - j)) * K = i * K + (n - j) * K := Nat.add_mul _ _ _
      have hdl : (cs.drop (j * K)).length = (n - j) * K := by rw [List.length_drop, hcl, Nat.sub_mul]
      have hnj : n * K - j * K = (n - j) * K := (Nat.sub_mul ..).symm
      have hle : (i + (n - j)) * K ≤ n * K := Nat.mul_le_mul_right _ (by omega)
      have hcc : ∀ t v, cs[t]? = some v → w.cell? ⟨b, 0 + t, none⟩ = some v := fun t v ht => by
        rw [cell_of_row w b _ cB _ (0, 0) hB, ← Array.getElem?_toList, Nat.zero_add]
        rw [← hBt, List.getElem?_take] at ht
        split at ht
        · exact ht
        · cases ht
      have hfz : ∀ t, t < n * K → w.frozen? ⟨b, 0 + t, none⟩ = false := fun t _ => by simp [World.frozen?, hB]
      have hzc : (Builtin.zeroCells z.cells (n - (i + (n - j)))).toList.length = (n - (i + (n - j))) * K := by
        simp only [Builtin.zeroCells, Array.length_toList, Array.size_map, Array.size_range, L.zs, hK]
      have hq : (i + (n - j)) * K + (n - (i + (n - j))) * K = n * K := by rw [← Nat.add_mul]; congr 1; omega
      have hz1 : ∀ v ∈ (Builtin.zeroCells z.cells (n - (i + (n - j)))).toList, v.oneCell' = true := fun v hv => by
        simp only [Builtin.zeroCells, Array.toList_map, List.mem_map] at hv
        obtain ⟨t, _, rfl⟩ := hv
        have hp : 0 < z.cells.size := by rw [L.zs]; exact L.sz
        have : t % z.cells.size < z.cells.size := Nat.mod_lt _ hp
        rw [getElem!_pos z.cells (t % z.cells.size) this]
        exact L.z1 _ (by simp)
      refine (del_walk L K hK b 0 n c i j cs w hlt hj hnc (by omega) hcl hcc hfz h1c).mono fun ex w' ⟨h1, h2⟩ => ?_
      obtain ⟨c1, c2, c3⟩ := cells_set (w := w.drew) (g := b) (o := 0 + i * K) (vs := cs.drop (j * K)) (cur := cB) (t := ρ.t 23) hB (by rw [hdl]; omega) (fun v hv => h1c v (List.mem_of_mem_drop hv))
      obtain ⟨d1, d2, d3⟩ := cells_set (o := 0 + (i + (n - j)) * K) (vs := (Builtin.zeroCells z.cells (n - (i + (n - j)))).toList) c1 (by
        rw [hzc]
        simp only [List.size_toArray, List.length_append, List.length_take, List.length_drop, Array.length_toList, hcl]
        omega) hz1
      refine ⟨h1, fun b' hb' => ?_, ?_⟩
      · cases hb'
        refine ⟨_, by rw [h2]; exact d1, ?_, ?_⟩
        · simp only [List.size_toArray, List.length_append, List.length_take, List.length_drop, Array.length_toList, hzc, hcl]
          omega
        · simp only [Nat.zero_add]
          have e1 : ((cB.toList.take (i * K) ++ cs.drop (j * K)) ++ cB.toList.drop (i * K + (cs.drop (j * K)).length)).take ((i + (n - j)) * K) = cB.toList.take (i * K) ++ cs.drop (j * K) := by
            rw [List.take_left']
            rw [List.length_append, List.length_take, Array.length_toList, hdl]; omega
          have e2 : cB.toList.take (i * K) = cs.take (i * K) := by rw [← hBt, List.take_take, Nat.min_eq_left (by omega)]
          rw [List.append_assoc (List.take _ _), List.take_append_of_le_length (by simp only [List.length_take, List.length_append, List.length_drop, Array.length_toList, hcl, hnj]; omega), List.take_take, Nat.min_self, e1, e2]
      · rw [h2]
        have k0 : Kept (fun k => some b = some k) w w.drew := Kept.drawn w _ _
        have c3' : Kept (fun k => some b = some k) w.drew (w.drew.setCells b (0 + i * K) (cs.drop (j * K))) := ⟨c3.os, c3.tape, c3.output, c3.size, fun k hk ho => c3.block k hk (fun h => ho (by rw [h]))⟩
        exact (k0.trans c3' (fun _ _ h => h)).trans ⟨d3.os, d3.tape, d3.output, d3.size, fun k hk ho => d3.block k hk (fun h => ho (by rw [h]))⟩ (fun _ _ h => h)

/-- A row without the elements from i to j. -/
def oc_delete (e : TypeId) (t : Ty) : OC := ⟨⟨[(0, .ref PIN []), (1, .val (.int .i64)), (2, .val (.int .i64))], [(PIN, e, t, false)], []⟩, ⟨[(0, .ref NB [])], [(NB, e, t, false)], []⟩,
  fun x => if 0 ≤ x.1.2.1 ∧ x.1.2.1 ≤ x.1.2.2.1 ∧ x.1.2.2.1 ≤ (List.length x.2.1.1 : Int) then some (((), ()), (List.take x.1.2.1.toNat x.2.1.1 ++ List.drop x.1.2.2.1.toNat x.2.1.1, ()), ()) else none⟩
theorem sub_flatMap {α β : Type} (f : α → List β) {l m : List α} (h : List.Sublist l m) : List.Sublist (l.flatMap f) (m.flatMap f) := by
  induction h with
  | slnil => exact List.Sublist.refl _
  | cons a _ ih => rw [List.flatMap_cons]; exact ih.trans (List.sublist_append_right ..)
  | cons_cons a _ ih => rw [List.flatMap_cons, List.flatMap_cons]; exact (List.Sublist.refl _).append ih
theorem ok_delete [Glob P] {ti : List TI} {e : TypeId} {t : Ty} {i0 : TypeInfo} {z : Value} (H : DelOK P ρ i0 z) (h23 : ρ.t 23 = e) (hK : i0.size = t.sz) : OpenOK P ti (ρ.f 45) (oc_delete e t) := by
  refine ⟨rfl, fun E hE x y hF w ok O M vs hlen G R => ?_⟩
  obtain ⟨⟨⟨⟩, i', j', ⟨⟩⟩, ⟨xs, ⟨⟩⟩, ⟨⟩⟩ := x
  simp only [oc_delete] at hF
  split at hF
  · rename_i hc
    cases hF
    obtain ⟨hi0, hij, hj⟩ := hc
    obtain ⟨i, rfl⟩ := Int.eq_ofNat_of_zero_le hi0
    obtain ⟨j, rfl⟩ := Int.eq_ofNat_of_zero_le (Int.le_trans hi0 hij)
    have hij : i ≤ j := Int.ofNat_le.1 hij
    have hj : j ≤ List.length xs := Int.ofNat_le.1 hj
    clear hi0
    simp only [Int.toNat_natCast]
    obtain ⟨lx, mx, ex, hx, px, sx⟩ := row_parts (P := P) R (j := PIN) (e := e) (t := t) (xs := xs) rfl (s := 0) rfl
    obtain ⟨l2, m2, _, _, hnd, _⟩ := R.rows PIN _ rfl
    have hll : l2 = lx := by rw [mx] at m2; cases m2; rfl
    rw [hll] at hnd
    obtain ⟨u1, s1, r1⟩ := R.slots 1 _ rfl
    obtain ⟨u2, s2, r2⟩ := R.slots 2 _ rfl
    match vs, hlen with
    | [v0, v1, v2], _ =>
    have ev0 : v0 = .slice (lx.1.map fun g => ⟨g, 0, none⟩) lx.2.2.length lx.2.1 := by simpa using sx
    have s1 : v1 = u1 := by simpa using s1
    have s2 : v2 = u2 := by simpa using s2
    have int_of : ∀ {n : Nat} {v u : Value}, v = u → RepS w ok M (.val (.int .i64) (n : Int)) u → v = .int .i64 n := by
      intro n v u hvu hr
      obtain ⟨cs, h1, h2⟩ := hr
      have h1 : cs = [.int .i64 n] := h1
      subst h1
      rw [hvu]
      rcases h2 with ⟨h, _⟩ | ⟨_, h⟩
      · cases h
      · cases h; rfl
    have hv1 := int_of s1 r1
    have hv2 := int_of s2 r2
    subst hv1; subst hv2
    have hxl : xs.length = lx.2.2.length := by rw [← ex, List.length_map]
    have hcx : lx.2.2.length ≤ lx.2.1 ∧ lx.2.1 ≤ maxLen := by
      have := hx.1
      cases hq : lx.1 with
      | none => rw [hq] at this; rw [this.1, this.2]; exact ⟨Nat.le_refl _, Nat.zero_le _⟩
      | some b => rw [hq] at this; obtain ⟨_, _, _, h3, h4, _⟩ := this; exact ⟨h3, h4⟩
    have hlt : ∀ k ∈ blocksL (.sl e t) lx, k < w.heap.size := holds_lt hx
    have hown : ∀ k ∈ blocksL (.sl e t) lx, ¬ ok k ∧ O k := fun k hk => by
      obtain ⟨h1, h2⟩ := R.ownR PIN ⟨_, rfl⟩ k (by rw [mx]; exact hk)
      exact ⟨h1, h2.resolve_right fun h3 => by have := hlt k hk; omega⟩
    have hblk : ∀ g, lx.1 = some g → g ∈ blocksL (.sl e t) lx := fun g h => by simp [blocksL, h]
    have key := del_all H h23 t.sz hK w lx.1 lx.2.2.length lx.2.1 i j (lx.2.2.flatMap (cellsL t)) hij (by omega) hcx.1 hcx.2
      (fun h => by have := hx.1; rw [h] at this; rw [this.1]; rfl)
      (fun b h => by
        have := hx.1
        rw [h] at this
        obtain ⟨cB, fz, q1, q2, q3, q4, q5, q6⟩ := this
        obtain ⟨cB', e', q7, q8⟩ := px.1 b h
        rw [q1] at q7
        cases q7
        exact ⟨cB, q1, q8, q5⟩) (flat_len _ _) (one_cells _)
    obtain ⟨nm, hnm, F45⟩ := H.f45
    unfold Does
    rw [run_enter F45 (by rfl) hnm]
    rw [ev0]
    refine key.mono fun ex' w' ⟨he, k1, k7⟩ => ?_
    subst he
    have hsub : List.Sublist (lx.2.2.take i ++ lx.2.2.drop j) lx.2.2 := by
      have h1 : List.Sublist (lx.2.2.take i ++ lx.2.2.drop j) (lx.2.2.take i ++ lx.2.2.drop i) := (List.Sublist.refl _).append (by
        rw [show lx.2.2.drop j = (lx.2.2.drop i).drop (j - i) by rw [List.drop_drop]; congr 1; omega]
        exact List.drop_sublist ..)
      rwa [List.take_append_drop] at h1
    have hl' : (lx.2.2.take i ++ lx.2.2.drop j).length = i + (lx.2.2.length - j) := by
      simp only [List.length_append, List.length_take, List.length_drop]; omega
    have hfm : (lx.2.2.take i ++ lx.2.2.drop j).flatMap (cellsL t) = (lx.2.2.flatMap (cellsL t)).take (i * t.sz) ++ (lx.2.2.flatMap (cellsL t)).drop (j * t.sz) := by
      have tk : ∀ n, n ≤ lx.2.2.length → (lx.2.2.flatMap (cellsL t)).take (n * t.sz) = (lx.2.2.take n).flatMap (cellsL t) ∧ (lx.2.2.flatMap (cellsL t)).drop (n * t.sz) = (lx.2.2.drop n).flatMap (cellsL t) := fun n hn => by
        have hq : lx.2.2.flatMap (cellsL t) = (lx.2.2.take n).flatMap (cellsL t) ++ (lx.2.2.drop n).flatMap (cellsL t) := by rw [← List.flatMap_append, List.take_append_drop]
        have hql : ((lx.2.2.take n).flatMap (cellsL t)).length = n * t.sz := by rw [flat_len, List.length_take, Nat.min_eq_left hn]
        rw [hq, List.take_left' hql, List.drop_left' hql]
        exact ⟨rfl, rfl⟩
      rw [List.flatMap_append, (tk i (by omega)).1, (tk j (by omega)).2]
    have hbs : List.Sublist (blocksL (.sl e t) (lx.1, lx.2.1, lx.2.2.take i ++ lx.2.2.drop j)) (blocksL (.sl e t) lx) := by
      show List.Sublist (lx.1.toList ++ _) (lx.1.toList ++ _)
      exact (List.Sublist.refl _).append (sub_flatMap _ hsub)
    have hsame : ∀ y ∈ lx.2.2, ∀ k ∈ blocksL t y, w'.heap[k]? = w.heap[k]? := fun y hy k hk => by
      have hm : k ∈ lx.2.2.flatMap (blocksL t) := List.mem_flatMap.2 ⟨y, hy, hk⟩
      refine k7.block k (hlt k (by simp only [blocksL, List.mem_append]; exact .inr hm)) fun h => ?_
      have hnd' := hnd
      simp only [blocksL] at hnd'
      rw [List.nodup_append] at hnd'
      exact hnd'.2.2 k (by rw [h]; simp) k hm rfl
    have hh : holds w' (.sl e t) (lx.1, lx.2.1, lx.2.2.take i ++ lx.2.2.drop j) := by
      refine ⟨?_, fun y hy => holds_move (hsame y (hsub.subset hy)) (hx.2 y (hsub.subset hy))⟩
      cases hq : lx.1 with
      | none =>
        have := hx.1
        rw [hq] at this
        simp only []
        rw [this.1, this.2]
        simp
      | some b =>
        obtain ⟨cur, g1, g2, g3⟩ := k1 b hq
        exact ⟨cur, (0, 0), g1, by show (lx.2.2.take i ++ lx.2.2.drop j).length ≤ lx.2.1; rw [hl']; have := hcx.1; omega, hcx.2, Nat.le_of_eq g2.symm, by show cur.toList.take ((lx.2.2.take i ++ lx.2.2.drop j).length * t.sz) = _; rw [hl', g3, hfm], .inl rfl⟩
    have hp : plain w' (.sl e t) (lx.1, lx.2.1, lx.2.2.take i ++ lx.2.2.drop j) := by
      refine ⟨fun b hb => ?_, fun y hy => plain_move (hsame y (hsub.subset hy)) (px.2 y (hsub.subset hy))⟩
      obtain ⟨cur, g1, g2, _⟩ := k1 b hb
      exact ⟨cur, e, g1, g2⟩
    have := newT_rep (E := E) (w0 := w) (ok := ok) (O := O) (n := 1) (t := .sl e t) (l := (lx.1, lx.2.1, lx.2.2.take i ++ lx.2.2.drop j)) (v := .slice (lx.1.map fun g => ⟨g, 0, none⟩) (i + (lx.2.2.length - j)) lx.2.1) (w := w')
      (show WholeT _ _ _ from .inr ⟨rfl, by simp only [cellsL, hl']⟩) (Nat.succ_pos 0) hh hp (hnd.sublist hbs) (fun k hk => by
        obtain ⟨h1, h2⟩ := hown k (hbs.subset hk)
        exact ⟨h1, .inl h2⟩) R.okB ⟨k7.os, k7.tape, k7.output, k7.size, fun k hk ho => k7.block k hk fun h => ho (hown k (hblk k h)).2⟩ (by simp [newN, NB, PIN])
    obtain ⟨M', R'⟩ := this
    refine ⟨M', ?_⟩
    have hE2 : erase (.sl e t) (lx.1, lx.2.1, lx.2.2.take i ++ lx.2.2.drop j) = xs.take i ++ xs.drop j := by
      simp only [erase, List.map_append, List.map_take, List.map_drop, ex]
    rw [hE2] at R'
    exact R'
  · cases hF
theorem ok_delete_at [Glob P] {ti : List TI} (T : tabOK P ti = true) {e : TypeId} {t : Ty} (mixed : P.follows .mixedOrders = true) (f45 : Bears P (ρ.f 45) (SlBodyN.n45 ρ))
    (t3 : P.underlying (ρ.t 3) = some (TypeDesc.int IntKind.i64)) (a3 : ∀ w, (isAgg (ρ.t 3)).run P w = .ok false w) (t4 : P.underlying (ρ.t 4) = some (TypeDesc.bool)) (a4 : ∀ w, (isAgg (ρ.t 4)).run P w = .ok false w)
    (t22 : P.underlying (ρ.t 22) = some (TypeDesc.slice (ρ.t 23))) (a22 : ∀ w, (isAgg (ρ.t 22)).run P w = .ok false w) (h23 : ρ.t 23 = e)
    {i : TI} (hi : ti[e]? = some i) (hty : i.ty = t) (hz : t.zero.isSome = true) (hst : (match i.sh with | .oth => false | _ => true) = true) : OpenOK P ti (ρ.f 45) (oc_delete e t) := by
  subst hty
  let E : Env := mkEnv ti [] (fun _ => none) pins0 pinB0
  have TE : tabOK P E.ti = true := T
  have hiE : E.ti[e]? = some i := hi
  have htE : E.tyOf e = i.ty := by rw [Env.tyOf, hiE]
  obtain ⟨z1, hz1⟩ : ∃ z, (E.tyOf e).zero = some z := by rw [htE]; exact Option.isSome_iff_exists.1 hz
  obtain ⟨ti', v, i1, i2, i3, i4⟩ := tab_zero TE hz1
  have hvs : v.cells.size = (E.tyOf e).sz := by rw [← Array.length_toList, i3, cellsZ_len _ hz1]
  have hpos : 0 < (E.tyOf e).sz := Nat.pos_of_ne_zero (zero_pos _ hz1)
  exact ok_delete (i0 := ti') (z := v) ⟨mixed, f45, t3, a3, t4, a4, t22, a22, by rw [h23]; exact i1, i2, by rw [i4]; exact hpos, by rw [hvs, i4], by
    obtain ⟨l, _, e2, _⟩ := zeroL_sound _ hz1
    rw [i3, ← e2]
    have := one_cells [l]
    simpa using this⟩ h23 (by rw [i4, htE])
end Go.Proofs.YtpliblemabkikaaDoor.Ev

/- slices.Sort as a call that is handed a row: its contract, out of the shelf's. Over any program. -/
namespace Go.Proofs.YtpliblemabkikaaDoor.Ev
open Go.RowKit Go.Sort

noncomputable def sortS (xs : List (List UInt8)) : List (List UInt8) := xs.mergeSort fun x y => decide (x ≤ y)
noncomputable def sortI (xs : List Int) : List Int := xs.mergeSort fun x y => decide (x ≤ y)
/-- A row put in order. -/
def oc_sort (e : TypeId) (t : Ty) (S : List t.T → List t.T) : OC := ⟨⟨[(0, .ref PIN [])], [(PIN, e, t, false)], []⟩, ⟨[(0, .tup .nl)], [(PIN, e, t, false)], []⟩,
  fun x => if List.length x.2.1.1 ≤ LIM then some (((), ()), (S x.2.1.1, ()), ()) else none⟩
theorem putRow_heap {α : Type} {enc : α → Value} {w : World} {b : Nat} {cur : Array Value} {e : TypeId} {fz : Nat × Nat} (hg : w.heap[b]? = some (.cells cur e fz)) {d : List α} [Inhabited α] (hl : d.length ≤ cur.size) :
    (putRow enc w b 0 d.toArray).heap[b]? = some (.cells (d.map enc ++ cur.toList.drop d.length).toArray e fz) ∧ (∀ k, k ≠ b → (putRow enc w b 0 d.toArray).heap[k]? = w.heap[k]?) ∧ (putRow enc w b 0 d.toArray).heap.size = w.heap.size := by
  refine ⟨?_, fun k hk => ?_, by simp [putRow, mapBlock]⟩
  · show (w.heap.modify b (onCells (putCells enc 0 d.toArray)))[b]? = _
    rw [Array.getElem?_modify, if_pos rfl, hg]
    simp only [Option.map_some, onCells]
    congr 2
    apply Array.ext
    · simp [putCells]; omega
    · intro i h1 h2
      simp only [putCells, Array.getElem_mapIdx, Nat.zero_le, true_and, Nat.zero_add, List.size_toArray, Nat.sub_zero, List.getElem_toArray]
      by_cases hi : i < d.length
      · rw [if_pos hi, List.getElem_append_left (by simpa using hi), List.getElem_map]
        congr 1
        rw [getElem!_pos _ _ (by simpa using hi)]; simp
      · rw [if_neg hi, List.getElem_append_right (by simpa using hi)]
        simp only [List.length_map, List.getElem_drop, Array.getElem_toList]
        congr 1; omega
  · show (w.heap.modify b _)[k]? = _
    rw [Array.getElem?_modify, if_neg (fun h => hk h.symm)]
theorem ok_sort_gen {P : Program} [Glob P] {ti : List TI} {g : FuncId} {fn : Func} {cd : Code} (hf : P.funcs[g]? = some fn) (hb : fn.body = some cd) (hname : (fn.name == "runtime.NumGoroutine") = false)
    {e : TypeId} {t : Ty} (hflat : t.flat = true) (h1 : t.sz = 1) (enc : L t → Value) (hcells : ∀ x : L t, cellsL t x = [enc x]) {S : List t.T → List t.T} (SL : List (L t) → List (L t)) (hlen : ∀ l, (SL l).length = l.length) (her : ∀ l : List (L t), (SL l).map (erase t) = S (l.map (erase t))) [Inhabited (L t)]
    (H : ∀ (b cap : Nat) (l : List (L t)) (w : World), Holds enc w b 0 l.toArray → b < w.heap.size → l.length < 4611686018427387904 → Calls P g #[.slice (some ⟨b, 0, none⟩) l.length cap] w fun e w' => e = .returned (.tuple #[]) ∧ ∃ n os, w' = grow (putRow enc (Go.Sort.ahead w n) b 0 (SL l).toArray) os)
    (Hn : ∀ w, Calls P g #[.slice none 0 0] w fun e w' => e = .returned (.tuple #[]) ∧ w' = w) : OpenOK P ti g (oc_sort e t S) := by
  refine ⟨rfl, fun E hE x y hF w ok O M vs hvl G R => ?_⟩
  obtain ⟨⟨⟨⟩, ⟨⟩⟩, ⟨xs, ⟨⟩⟩, ⟨⟩⟩ := x
  simp only [oc_sort] at hF
  split at hF
  · rename_i hle
    cases hF
    have hLIM : LIM = 140737488355328 := rfl
    obtain ⟨lx, mx, ex, hx, px, sx⟩ := row_parts (P := P) R (j := PIN) (e := e) (t := t) (xs := xs) rfl (s := 0) rfl
    match vs, hvl with
    | [v0], _ =>
    have ev0 : v0 = .slice (lx.1.map fun g => ⟨g, 0, none⟩) lx.2.2.length lx.2.1 := by simpa using sx
    subst ev0
    have hxl : xs.length = lx.2.2.length := by rw [← ex, List.length_map]
    unfold Does
    rw [run_enter hf hb hname]
    have fin : ∀ (w' : World) (M' : Map), Rep E w ok O (⟨[(0, .ref PIN [])], [(PIN, ⟨e, t, S xs, false⟩)], []⟩ : St) #[.slice (lx.1.map fun g => ⟨g, 0, none⟩) lx.2.2.length lx.2.1] w' M' → ∃ M', Rep E w ok O ((oc_sort e t S).ho.fill (((), ()), (S xs, ()), ())) #[.tuple #[]] w' M' := by
      intro w' M' R'
      refine ⟨M', R'.slotsTo (σ := ⟨[(0, .ref PIN [])], [(PIN, ⟨e, t, S xs, false⟩)], []⟩) (tm' := #[.tuple #[]]) (sl := [(0, .tup .nl)]) fun s v hv => ?_⟩
      rw [lk_cons] at hv
      split at hv
      · rename_i h
        subst h
        cases hv
        exact ⟨⟨_, rfl, _, rfl, rfl⟩, ⟨by simp [SV.roots], by simp [SV.boxes]⟩⟩
      · cases hv
    cases hg : lx.1 with
    | none =>
      have h0 := hx.1
      rw [hg] at h0
      have hnil : xs = [] := by rw [← ex, h0.1]; rfl
      have hS : S xs = xs := by
        rw [hnil]
        have := her []
        rw [show SL [] = [] from List.eq_nil_of_length_eq_zero (by rw [hlen]; rfl)] at this
        simpa using this.symm
      have hl0 : lx.2.2.length = 0 := by rw [h0.1]; rfl
      have h1' : lx.2.1 = 0 := h0.2
      rw [hl0, h1']
      refine (Hn w).mono fun ee w' ⟨he, hw⟩ => ?_
      subst he
      subst hw
      exact fin _ M (by rw [hS]; exact R)
    | some b =>
      have h0 := hx.1
      rw [hg] at h0
      obtain ⟨cB, fz, q1, q2, q3, q4, q5, q6⟩ := h0
      obtain ⟨cB', e', q7, q8⟩ := px.1 b hg
      rw [q1] at q7
      cases q7
      rw [h1, Nat.mul_one] at q4 q5
      have hfm : ∀ l : List (L t), l.flatMap (cellsL t) = l.map enc := fun l => by
        induction l with
        | nil => rfl
        | cons a l ih => rw [List.flatMap_cons, ih, hcells]; rfl
      rw [hfm] at q5
      have hsz : lx.2.2.length ≤ cB.size := by omega
      have hH : Holds enc w b 0 lx.2.2.toArray := fun j hj => by
        have hj' : j < lx.2.2.length := by simpa using hj
        refine ⟨?_, by simp [World.frozen?, q1]⟩
        rw [cell_of_row w b _ cB e (0, 0) q1, Nat.zero_add, ← Array.getElem?_toList]
        have := congrArg (fun l => l[j]?) q5
        simp only [List.getElem?_take_of_lt hj', List.getElem?_map] at this
        rw [this, List.getElem?_eq_getElem hj', getElem!_pos lx.2.2.toArray j hj]
        simp
      refine (H b lx.2.1 lx.2.2 w hH (Array.getElem?_eq_some_iff.1 q1).1 (by omega)).mono fun ee w' ⟨he, n, os, hw⟩ => ?_
      subst he
      have hl2 : (SL lx.2.2).length = lx.2.2.length := hlen _
      obtain ⟨p1, p2, p3⟩ := putRow_heap (enc := enc) (w := Go.Sort.ahead w n) (b := b) (cur := cB) (e := e) (fz := (0, 0)) q1 (d := SL lx.2.2) (by rw [hl2]; exact hsz)
      obtain ⟨cur, fz, o1, o2, o3, o4⟩ := over_rep R (j := PIN) rfl mx hg hflat (lo := 0) (ys := SL lx.2.2) (by rw [hl2]; omega)
      rw [q1] at o1
      cases o1
      have hkept : Kept (fun k => k = b) w (putRow enc (Go.Sort.ahead w n) b 0 (SL lx.2.2).toArray) := ⟨rfl, rfl, rfl, by rw [p3]; exact Nat.le_refl _, fun k hk ho => p2 k ho⟩
      have R2 := o4 _ (by
        rw [p1, hfm, h1, hl2]
        simp) p2 hkept
      have R3 := R2.freeWorld (w' := w') (bs := []) Free.nil (by
        rw [hw]
        refine ⟨rfl, rfl, rfl, by simp [grow], fun k hk _ => ?_⟩
        simp only [grow]
        rw [Array.getElem?_append_left hk])
      have hov : overL (lx.2.2.map (erase t)) 0 ((SL lx.2.2).map (erase t)) = S xs := by
        unfold overL
        rw [her, ex]
        have hll : (S xs).length = xs.length := by rw [← ex, ← her, List.length_map, hlen, List.length_map]
        simp [hll]
      rw [hov] at R3
      exact fin w' _ R3
  · cases hF
theorem ok_sortS {P : Program} [Glob P] {ti : List TI} {g : FuncId} {fn : Func} {cd : Code} (hf : P.funcs[g]? = some fn) (hb : fn.body = some cd) (hname : (fn.name == "runtime.NumGoroutine") = false) {e : TypeId}
    (H : ∀ (b off cap : Nat) (l : List (List UInt8)) (w : World), Holds encStr w b off l.toArray → b < w.heap.size → l.length < 4611686018427387904 → Calls P g #[.slice (some ⟨b, off, none⟩) l.length cap] w fun e w' => e = .returned (.tuple #[]) ∧ ∃ n os, w' = grow (putRow encStr (Go.Sort.ahead w n) b off (l.mergeSort fun x y => decide (x ≤ y)).toArray) os)
    (Hn : ∀ (p : Option Addr) (cap : Nat) w, Calls P g #[.slice p 0 cap] w fun e w' => e = .returned (.tuple #[]) ∧ w' = w) : OpenOK P ti g (oc_sort e .str sortS) :=
  ok_sort_gen (t := .str) (S := sortS) hf hb hname rfl rfl (fun s : List UInt8 => .string ⟨s.toArray⟩) (fun _ => rfl) sortS (fun l => by unfold sortS; exact List.length_mergeSort _) (fun l => by
    have : ∀ m : List (List UInt8), m.map (erase .str) = m := fun m => List.map_id m
    rw [this, this]) (by unfold sortS; exact fun b cap l w h1 h2 h3 => H b 0 cap l w h1 h2 h3) (fun w => Hn none 0 w)
theorem ok_sortI {P : Program} [Glob P] {ti : List TI} {g : FuncId} {fn : Func} {cd : Code} (hf : P.funcs[g]? = some fn) (hb : fn.body = some cd) (hname : (fn.name == "runtime.NumGoroutine") = false) {e : TypeId}
    (H : ∀ (b off cap : Nat) (l : List Int) (w : World), Holds (Value.int .i64) w b off l.toArray → b < w.heap.size → l.length < 4611686018427387904 → Calls P g #[.slice (some ⟨b, off, none⟩) l.length cap] w fun e w' => e = .returned (.tuple #[]) ∧ ∃ n os, w' = grow (putRow (Value.int .i64) (Go.Sort.ahead w n) b off (l.mergeSort fun x y => decide (x ≤ y)).toArray) os)
    (Hn : ∀ (p : Option Addr) (cap : Nat) w, Calls P g #[.slice p 0 cap] w fun e w' => e = .returned (.tuple #[]) ∧ w' = w) : OpenOK P ti g (oc_sort e (.int .i64) sortI) :=
  ok_sort_gen (t := .int .i64) (S := sortI) hf hb hname rfl rfl (fun s : Int => .int .i64 s) (fun _ => rfl) sortI (fun l => by unfold sortI; exact List.length_mergeSort _) (fun l => by
    have : ∀ m : List Int, m.map (erase (.int .i64)) = m := fun m => List.map_id m
    rw [this, this]) (by unfold sortI; exact fun b cap l w h1 h2 h3 => H b 0 cap l w h1 h2 h3) (fun w => Hn none 0 w)
end Go.Proofs.YtpliblemabkikaaDoor.Ev

/- strconv.FormatInt at the base 10, and strings.Join at a row of the call's own: their contracts, out of the shelf's. Over any program. -/
namespace Go.Proofs.YtpliblemabkikaaDoor.Ev
open Go.RowKit Go.Sort

/-- One table of whole numbers. -/
@[reducible] def tabGlob (P : Program) (name : String) (k : IntKind) (zs : List Int) : Glob P where
  ok := fun w => Lib.TabIs P w name k zs
  blk := fun g => P.globalNamed name = some g
  lt := fun w h g hg => by
    unfold Lib.TabIs World.var? at h
    rw [hg] at h
    simp only [Option.bind_some] at h
    cases hh : w.heap[g]? with
    | none => rw [hh] at h; cases h
    | some o => exact (Array.getElem?_eq_some_iff.1 hh).1
  move := fun w w' h hb => by
    unfold Lib.TabIs World.var? at h ⊢
    cases hg : P.globalNamed name with
    | none => rw [hg] at h; cases h
    | some g =>
      rw [hg] at h
      simp only [Option.bind_some] at h ⊢
      rw [hb g hg]
      exact h
theorem pack_ii {i j : IntKind} {args : List SVal} {x : (Ty.pr (.int i) (.int j)).T} (h : packC (.pr (.int i) (.int j)) args some = some x) : args = [⟨.int i, x.1⟩, ⟨.int j, x.2⟩] := by
  match args with
  | [] => cases h
  | [a] =>
    simp only [packC, castC] at h
    split at h <;> cases h
  | [a, b] =>
    simp only [packC, castC] at h
    split at h
    · rename_i e1
      split at h
      · rename_i e2
        obtain ⟨ta, xa⟩ := a
        obtain ⟨tb, xb⟩ := b
        simp only at e1 e2 h
        subst e1
        subst e2
        cases h
        rfl
      · cases h
    · cases h
  | a :: b :: c :: l =>
    simp only [packC, castC] at h
    split at h <;> cases h
theorem args_ii {i j : IntKind} {n m : Int} {w : World} {vs : List Value} (h : Args w [⟨.int i, n⟩, ⟨.int j, m⟩] vs) : vs = [.int i n, .int j m] := by
  match vs with
  | [] => exact h.elim
  | [a] => exact h.2.elim
  | [a, b] =>
    obtain ⟨⟨cs, h1, h2⟩, ⟨ds, h3, h4⟩, _⟩ := h
    obtain rfl : cs = [.int i n] := h1
    obtain rfl : ds = [.int j m] := h3
    rcases h2 with ⟨h, _⟩ | ⟨_, h2⟩
    · cases h
    rcases h4 with ⟨h, _⟩ | ⟨_, h4⟩
    · cases h
    cases h2; cases h4; rfl
  | a :: b :: c :: l => exact h.2.2.elim
/-- strconv.FormatInt. -/
def fe_formatInt : FE := ⟨.pr (.int .i64) (.int .i64), 1, .str, fun x => if x.2 = 10 ∧ -9223372036854775808 ≤ x.1 ∧ x.1 ≤ 9223372036854775807 then some (Lib.itoa x.1) else none⟩
theorem ok_formatInt {P : Program} [Glob P] {g : FuncId} {fn : Func} {cd : Code} (hf : P.funcs[g]? = some fn) (hb : fn.body = some cd) (hname : (fn.name == "runtime.NumGoroutine") = false)
    (H : ∀ (n : Int), -9223372036854775808 ≤ n → n ≤ 9223372036854775807 → ∀ w, Glob.ok P w → Calls P g #[.int .i64 n, .int .i64 10] w fun e w' => e = .returned (.string ⟨(Lib.itoa n).toArray⟩) ∧ ∃ k os, w' = grow (w.drewN k) os) : FnOK P g fe_formatInt := by
  refine FnOK.new rfl fun args vs w x r hG ha hx hr => ?_
  have e := pack_ii hx
  subst e
  have e := args_ii ha
  subst e
  obtain ⟨n, m⟩ := x
  simp only [fe_formatInt] at hr
  split at hr
  · rename_i hc
    cases hr
    obtain ⟨hm, h0, h1⟩ := hc
    have hm : m = 10 := hm
    subst hm
    unfold Does
    rw [run_enter hf hb hname]
    refine (H n h0 h1 w hG).mono fun e w' ⟨he, k, os, hw⟩ => ?_
    subst he
    have hB : Below w.heap.size w w' := by
      rw [hw]
      refine ⟨rfl, rfl, rfl, by simp [grow, World.drewN], fun k hk => ?_⟩
      show ((w.drewN _).heap ++ os)[k]? = _
      rw [Array.getElem?_append_left (show k < (w.drewN _).heap.size from hk)]
      rfl
    exact ret_str _ hB
  · cases hr
/-- strings.Join. -/
def oc_join (e : TypeId) : OC := ⟨⟨[(0, .ref PIN []), (1, .val .str)], [(PIN, e, .str, false)], []⟩, ⟨[(0, .val .str)], [(PIN, e, .str, false)], []⟩,
  fun x => if List.length x.2.1.1 ≤ LIM ∧ (Lib.join x.2.1.1 x.1.2.1).length ≤ LIM then some ((Lib.join x.2.1.1 x.1.2.1, ()), (x.2.1.1, ()), ()) else none⟩
theorem ok_join {P : Program} [Glob P] {ti : List TI} {g : FuncId} {fn : Func} {cd : Code} (hf : P.funcs[g]? = some fn) (hb : fn.body = some cd) (hname : (fn.name == "runtime.NumGoroutine") = false) {e : TypeId}
    (H : ∀ (bk o c : Nat) (xs : List ByteArray) (sep : ByteArray) (w : World), (∀ (j : Nat) x, xs[j]? = some x → w.cell? ⟨bk, o + j, none⟩ = some (.string x)) → bk < w.heap.size → xs.length ≤ 140737488355328 → xs.length ≤ c → (Lib.join (xs.map (·.data.toList)) sep.data.toList).length ≤ 140737488355328 →
      Calls P g #[.slice (some ⟨bk, o, none⟩) xs.length c, .string sep] w fun e w' => e = .returned (.string ⟨(Lib.join (xs.map (·.data.toList)) sep.data.toList).toArray⟩) ∧ Below w.heap.size w w')
    (Hn : ∀ (a : Option Addr) (c : Nat) (sep : ByteArray) (w : World), Calls P g #[.slice a 0 c, .string sep] w fun e w' => e = .returned (.string ⟨#[]⟩) ∧ w' = w) : OpenOK P ti g (oc_join e) := by
  refine ⟨rfl, fun E hE x y hF w ok O M vs hvl G R => ?_⟩
  obtain ⟨⟨⟨⟩, sep, ⟨⟩⟩, ⟨xs, ⟨⟩⟩, ⟨⟩⟩ := x
  simp only [oc_join] at hF
  split at hF
  · rename_i hc
    cases hF
    have hLIM : LIM = 140737488355328 := rfl
    obtain ⟨hle, hjl⟩ := hc
    obtain ⟨lx, mx, ex, hx, px, sx⟩ := row_parts (P := P) R (j := PIN) (e := e) (t := .str) (xs := xs) rfl (s := 0) rfl
    obtain ⟨u1, s1, r1⟩ := R.slots 1 _ rfl
    match vs, hvl with
    | [v0, v1], _ =>
    have ev0 : v0 = .slice (lx.1.map fun g => ⟨g, 0, none⟩) lx.2.2.length lx.2.1 := by simpa using sx
    have s1 : v1 = u1 := by simpa using s1
    obtain ⟨cs, h1, h2⟩ := r1
    have h1 : cs = [.string ⟨sep.toArray⟩] := h1
    subst h1
    have hv1 : v1 = .string ⟨sep.toArray⟩ := by
      rw [s1]
      rcases h2 with ⟨h, _⟩ | ⟨_, h⟩
      · cases h
      · cases h; rfl
    subst ev0
    subst hv1
    clear s1 h2
    have hid : ∀ m : List (List UInt8), m.map (erase .str) = m := fun m => List.map_id m
    have ex : lx.2.2 = xs := by rw [← ex]; exact (hid _).symm
    unfold Does
    rw [run_enter hf hb hname]
    have fin : ∀ (w' : World), Below w.heap.size w w' → ∃ M', Rep E w ok O ((oc_join e).ho.fill ((Lib.join xs sep, ()), (xs, ()), ())) #[.string ⟨(Lib.join xs sep).toArray⟩] w' M' := by
      intro w' hb'
      have R2 := R.freeWorld (w' := w') (bs := []) Free.nil (Kept.of_below hb' _)
      refine ⟨M, R2.slotsTo (σ := ⟨[(0, .ref PIN []), (1, .val .str sep)], [(PIN, ⟨e, .str, xs, false⟩)], []⟩) (tm' := #[.string ⟨(Lib.join xs sep).toArray⟩]) (sl := [(0, .val .str (Lib.join xs sep))]) fun s v hv => ?_⟩
      rw [lk_cons] at hv
      split at hv
      · rename_i h
        subst h
        cases hv
        exact ⟨⟨_, rfl, [.string ⟨(Lib.join xs sep).toArray⟩], rfl, .inr ⟨rfl, rfl⟩⟩, ⟨by simp [SV.roots], by simp [SV.boxes]⟩⟩
      · cases hv
    cases hg : lx.1 with
    | none =>
      have h0 := hx.1
      rw [hg] at h0
      have hnil : xs = [] := by rw [← ex]; exact h0.1
      have hl0 : lx.2.2.length = 0 := by rw [h0.1]; rfl
      rw [hl0]
      refine (Hn none lx.2.1 ⟨sep.toArray⟩ w).mono fun ee w' ⟨he, hw⟩ => ?_
      subst he
      subst hw
      have := fin w' (Below.refl _ _)
      rw [hnil] at this ⊢
      exact this
    | some b =>
      have h0 := hx.1
      rw [hg] at h0
      obtain ⟨cB, fz, q1, q2, q3, q4, q5, q6⟩ := h0
      have hfm : ∀ l : List (List UInt8), l.flatMap (cellsL .str) = l.map fun s => Value.string ⟨s.toArray⟩ := fun l => by
        induction l with
        | nil => rfl
        | cons a l ih => rw [List.flatMap_cons, ih]; rfl
      have h1' : (Ty.str).sz = 1 := rfl
      rw [h1', Nat.mul_one, hfm] at q5
      have := H b 0 lx.2.1 (xs.map fun s => (⟨s.toArray⟩ : ByteArray)) ⟨sep.toArray⟩ w (fun j x hj => by
        rw [List.getElem?_map, Option.map_eq_some_iff] at hj
        obtain ⟨s, hs, rfl⟩ := hj
        have hj' : j < lx.2.2.length := by rw [ex]; exact (List.getElem?_eq_some_iff.1 hs).1
        rw [cell_of_row w b _ cB e fz q1, Nat.zero_add, ← Array.getElem?_toList]
        have := congrArg (fun l => l[j]?) q5
        simp only [List.getElem?_take_of_lt hj', List.getElem?_map] at this
        rw [this, ex, hs]; rfl) (Array.getElem?_eq_some_iff.1 q1).1 (by rw [List.length_map]; omega) (by rw [List.length_map, ← ex]; exact q2) (by simp only [List.map_map]; rw [← hLIM]; simpa [Function.comp_def] using hjl)
      rw [List.length_map, ← ex] at this
      refine this.mono fun ee w' ⟨he, hw⟩ => ?_
      subst he
      have hj2 : Lib.join ((lx.2.2.map fun s => (⟨s.toArray⟩ : ByteArray)).map (·.data.toList)) sep.toArray.toList = Lib.join xs sep := by
        rw [ex, List.map_map]; simp [Function.comp_def]
      rw [hj2]
      have := fin w' hw
      exact this
  · cases hF
end Go.Proofs.YtpliblemabkikaaDoor.Ev

/- Plain lemmas for the printed functions: numbers, rounds of loops. No program in sight. -/
namespace Go.Proofs.YtpliblemabkikaaDoor.Ev
open Go.RowKit

/-- Rounds enough for every loop here. -/
theorem kk_ex : ∃ k : Nat, k = 18446744073709551616 := ⟨_, rfl⟩
noncomputable def KK : Nat := Classical.choose kk_ex
theorem KK_def : KK = 18446744073709551616 := Classical.choose_spec kk_ex

theorem w_id {x : Int} (h1 : -9223372036854775808 ≤ x) (h2 : x ≤ 9223372036854775807) : w_i64 x = x := by
  unfold w_i64; rw [IntKind.wrap_i64]; omega
theorem w_succ {i : Nat} (h : i < 9223372036854775807) : w_i64 ((i : Int) + 1) = ((i + 1 : Nat) : Int) := by
  rw [w_id (by omega) (by omega)]; rfl
theorem i64_wf {n : Int} (h : (Lit.int .i64 n).wf = true) : -9223372036854775808 ≤ n ∧ n ≤ 9223372036854775807 := by
  have e : IntKind.i64.min = -9223372036854775808 := by decide
  simpa [Lit.wf, e] using h
theorem LIM_def : LIM = 140737488355328 := rfl

section
variable {α A R : Type}

/-- A loop over a list, from its head to its end: what it comes to, by what is left. -/
theorem loop_list (xs : List α) {L : Nat → Int → A → R} {I : List α → A → Prop} {G : List α → A → R}
    (h1 : ∀ n pre x post a, xs = pre ++ x :: post → I pre a → (∀ a', I (pre ++ [x]) a' → L n ((pre.length + 1 : Nat) : Int) a' = G post a') → xs[pre.length]? = some x → (pre.length : Int) < xs.length → L (n + 1) (pre.length : Int) a = G (x :: post) a)
    (h2 : ∀ n a, I xs a → L (n + 1) (xs.length : Int) a = G [] a) : ∀ n, xs.length < n → ∀ a, I [] a → L n 0 a = G xs a := by
  have main : ∀ (post pre : List α) (n : Nat), xs = pre ++ post → post.length < n → ∀ a, I pre a → L n (pre.length : Int) a = G post a := by
    intro post
    induction post with
    | nil =>
      intro pre n hx hn a ha
      obtain ⟨m, rfl⟩ : ∃ m, n = m + 1 := ⟨n - 1, by simp at hn; omega⟩
      rw [List.append_nil] at hx
      subst hx
      exact h2 m a ha
    | cons x post ih =>
      intro pre n hx hn a ha
      obtain ⟨m, rfl⟩ : ∃ m, n = m + 1 := ⟨n - 1, by simp at hn; omega⟩
      refine h1 m pre x post a hx ha (fun a' ha' => ?_) (by rw [hx]; simp) (by rw [hx]; simp; omega)
      have := ih (pre ++ [x]) m (by rw [hx]; simp) (by simp at hn; omega) a' ha'
      rw [List.length_append] at this
      simpa using this
  intro n hn a ha
  exact main xs [] n rfl hn a ha

/-- A loop that asks the same of all elements. -/
theorem loop_all (xs : List α) {L : Nat → Int → R} {p : α → Bool} {r e : R}
    (h1 : ∀ n (i : Nat) x, xs[i]? = some x → (i : Int) < xs.length → L (n + 1) (i : Int) = if p x = true then L n ((i + 1 : Nat) : Int) else r)
    (h2 : ∀ n, L (n + 1) (xs.length : Int) = e) {n : Nat} (hn : xs.length < n) : L n 0 = if xs.all p = true then e else r := by
  refine loop_list (A := Unit) (L := fun n i _ => L n i) (I := fun _ _ => True) (G := fun l _ => if l.all p = true then e else r) xs ?_ ?_ n hn () trivial
  · intro n pre x post _ hx _ ih hg hlt
    rw [h1 n pre.length x hg hlt]
    have := ih () trivial
    by_cases hp : p x = true
    · rw [if_pos hp, this]; simp [hp]
    · rw [if_neg hp]; simp [hp]
  · intro n _ _
    simpa using h2 n
/-- One that gathers. -/
theorem loop_fold (xs : List α) {L : Nat → Int → A → R} {f : A → α → A} {e : A → R}
    (h1 : ∀ n (i : Nat) x a, xs[i]? = some x → (i : Int) < xs.length → L (n + 1) (i : Int) a = L n ((i + 1 : Nat) : Int) (f a x))
    (h2 : ∀ n a, L (n + 1) (xs.length : Int) a = e a) {n : Nat} (hn : xs.length < n) (a : A) : L n 0 a = e (xs.foldl f a) := by
  refine loop_list (L := L) (I := fun _ _ => True) (G := fun l a => e (l.foldl f a)) xs ?_ ?_ n hn a trivial
  · intro n pre x post a hx _ ih hg hlt
    rw [h1 n pre.length x a hg hlt]
    exact ih _ trivial
  · intro n a _
    exact h2 n a
/-- Rounds by number, with a condition. -/
theorem loop_allN {L : Nat → Int → R} {b : Nat} {p : Nat → Bool} {r e : R}
    (h1 : ∀ n (i : Nat), i < b → L (n + 1) (i : Int) = if p i = true then L n ((i + 1 : Nat) : Int) else r) (h2 : ∀ n, L (n + 1) (b : Int) = e) {n : Nat} (hn : b < n) : L n 0 = if (List.range b).all p = true then e else r := by
  have := loop_all (List.range b) (L := L) (p := p) (r := r) (e := e) (fun n i x hx hlt => by
    rw [List.getElem?_range (by simpa using hlt)] at hx
    cases hx
    exact h1 n i (by simpa using hlt)) (by simpa using h2) (n := n) (by simpa using hn)
  exact this

/-- Two lists compared element by element. -/
theorem loop_eq [DecidableEq α] (a b : List α) (hl : a.length = b.length) {L : Nat → Int → Option Bool}
    (h1 : ∀ n (i : Nat) x y, a[i]? = some x → b[i]? = some y → (i : Int) < a.length → L (n + 1) (i : Int) = if x = y then L n ((i + 1 : Nat) : Int) else some false)
    (h2 : ∀ n, L (n + 1) (a.length : Int) = some true) {n : Nat} (hn : a.length < n) : L n 0 = some (decide (a = b)) := by
  have hz : (a.zip b).length = a.length := by simp [hl]
  have := loop_all (a.zip b) (L := L) (p := fun z => decide (z.1 = z.2)) (r := some false) (e := some true) (fun n i z hz' hlt => by
    obtain ⟨x, y⟩ := z
    rw [List.getElem?_zip_eq_some] at hz'
    rw [h1 n i x y hz'.1 hz'.2 (by rw [← hz]; exact hlt)]
    by_cases e : x = y <;> simp [e]) (by rw [hz]; exact h2) (n := n) (by rw [hz]; exact hn)
  rw [this]
  have key : ∀ (a b : List α), a.length = b.length → ((a.zip b).all fun z => decide (z.1 = z.2)) = decide (a = b) := by
    intro a
    induction a with
    | nil => intro b hb; cases b with | nil => rfl | cons => cases hb
    | cons x a ih =>
      intro b hb
      cases b with
      | nil => cases hb
      | cons y b =>
        simp only [List.zip_cons_cons, List.all_cons, ih b (by simpa using hb)]
        by_cases h : x = y <;> by_cases h' : a = b <;> simp [h, h']
  rw [key a b hl]
  by_cases h : a = b <;> simp [h]

/-- A list copied into a new one. -/
theorem loop_copy (xs : List α) (z : List α) (hz : z.length = xs.length) {L : Nat → Int → List α → R} {e : List α → R}
    (h1 : ∀ n (i : Nat) x q, xs[i]? = some x → (i : Int) < xs.length → q.length = xs.length → L (n + 1) (i : Int) q = L n ((i + 1 : Nat) : Int) (q.set i x))
    (h2 : ∀ n q, L (n + 1) (xs.length : Int) q = e q) {n : Nat} (hn : xs.length < n) : L n 0 z = e xs := by
  refine loop_list (L := L) (I := fun pre q => q.length = xs.length ∧ q.take pre.length = pre) (G := fun post _ => e xs) xs ?_ ?_ n hn z ⟨hz, by simp⟩
  · intro n pre x post q hx hq ih hg hlt
    rw [h1 n pre.length x q hg hlt hq.1]
    refine ih _ ⟨by rw [List.length_set]; exact hq.1, ?_⟩
    have hl : pre.length < q.length := by rw [hq.1]; simpa using hlt
    rw [List.length_append, List.length_singleton, List.take_succ_eq_append_getElem (by simpa using hl)]
    rw [List.getElem_set_self, List.take_set_of_le (Nat.le_refl _), hq.2]
  · intro n q hq
    rw [h2 n q]
    have := hq.2
    rw [← hq.1, List.take_length] at this
    rw [this]
/-- The first place, or -1. -/
def idxP (p : α → Bool) (xs : List α) : Int := match xs.findIdx? p with | some i => (i : Int) | none => -1
theorem loop_find (xs : List α) {L : Nat → Int → Option Int} {p : α → Bool}
    (h1 : ∀ n (i : Nat) x, xs[i]? = some x → (i : Int) < xs.length → L (n + 1) (i : Int) = if p x = true then some (i : Int) else L n ((i + 1 : Nat) : Int))
    (h2 : ∀ n, L (n + 1) (xs.length : Int) = some (-1)) {n : Nat} (hn : xs.length < n) : L n 0 = some (idxP p xs) := by
  have := loop_list (A := Unit) (L := fun n i _ => L n i) (I := fun _ _ => True) (G := fun post _ => some (match post.findIdx? p with | some j => ((xs.length - post.length + j : Nat) : Int) | none => -1)) xs ?_ ?_ n hn () trivial
  · rw [this]
    unfold idxP
    cases xs.findIdx? p <;> simp
  · intro n pre x post _ hx _ ih hg hlt
    have h := ih () trivial
    rw [h1 n pre.length x hg hlt, List.findIdx?_cons]
    by_cases hp : p x = true
    · rw [if_pos hp, if_pos hp]
      simp only [hx, List.length_append, List.length_cons]
      congr 2
      omega
    · rw [if_neg hp, if_neg hp, h]
      cases post.findIdx? p with
      | none => rfl
      | some j =>
        simp only [hx, List.length_append, List.length_cons, Option.map_some]
        congr 2
        omega
  · intro n _ _
    exact h2 n
theorem idxP_any (p : α → Bool) (xs : List α) : (decide (0 ≤ idxP p xs)) = xs.any p := by
  unfold idxP
  cases h : xs.findIdx? p with
  | none =>
    rw [List.findIdx?_eq_none_iff] at h
    have : xs.any p = false := by
      rw [List.any_eq_false]
      intro x hx; rw [h x hx]; simp
    simp [this]
  | some i =>
    have : xs.any p = true := by
      obtain ⟨hlt, hp, _⟩ := List.findIdx?_eq_some_iff_getElem.1 h
      exact List.any_eq_true.2 ⟨xs[i], List.getElem_mem hlt, hp⟩
    simp [this]
end
end Go.Proofs.YtpliblemabkikaaDoor.Ev
