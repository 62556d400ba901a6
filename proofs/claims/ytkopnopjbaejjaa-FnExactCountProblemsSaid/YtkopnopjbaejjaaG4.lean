/- Functions of the program, as plain ones. No conditions. -/
import Derived.Test.YtkopnopjbaejjaaG3
import Derived.KernelRfl
set_option linter.unusedVariables false
set_option maxRecDepth 100000
namespace Go.Proofs.Ytkopnopjbaejjaa.Ev
open Go.RowKit
noncomputable section
/- 85 loop.example/g01005/impl.blockAt -/
def impl_blockAt (k : Nat) (list0 : List (List UInt8 × List UInt8 × List UInt8)) (b1 : List UInt8 × List UInt8 × List UInt8) : Option (Int × Bool) := (slices_BinarySearchFunc_impl_Block__impl_compareBlocks k list0 b1 ()).bind fun r_1 => some (r_1.1, r_1.2)
def fe_impl_blockAt (k : Nat) : FE := ⟨(.pr (.sl 69 (.st (.pr .str (.pr .str .str)))) (.st (.pr .str (.pr .str .str)))), 2, (.pr (.int .i64) .bool), fun x => impl_blockAt k x.1 x.2⟩
theorem ok_impl_blockAt (k : Nat) : FnOK Try.prog 85 (fe_impl_blockAt k) := by
  refine closed_ok (tab := [(122, fe_slices_BinarySearchFunc_impl_Block__impl_compareBlocks k)]) (l := []) ti_ok ti_ht mix (List.forall_mem_cons.2 ⟨ok_slices_BinarySearchFunc_impl_Block__impl_compareBlocks k, (List.forall_mem_nil _)⟩) (List.forall_mem_nil _) ⟨⟨Try.f85, (codeOf Try.f85), [.tmp 4, .tmp 5], (LOn (Int × Bool)), by kernel_rfl, by kernel_rfl, by kernel_rfl, by kernel_rfl, rfl, by decide, ⟨by kernel_rfl, ?_, ?_⟩, ?_⟩⟩
  · exact no_loops (by kernel_rfl)
  · exact no_cuts (by kernel_rfl)
  · rintro ⟨list0, b1⟩
    kernel_rfl
/- 36 loop.example/g01005/impl.BlockNamed -/
def impl_BlockNamed (k : Nat) (list0 : List (List UInt8 × List UInt8 × List UInt8)) (kind1 : List UInt8) (name2 : List UInt8) : Option (List UInt8 × Int) := (impl_ValidBlocks k list0).bind fun r_1 => (if (!r_1) = true then some ([], 1) else (impl_blockAt k list0 (kind1, (name2, []))).bind fun r_2 => (if (!r_2.2) = true then some ([], 3) else (if 0 ≤ r_2.1 then (list0[r_2.1.toNat]?).bind fun y_3 => some (y_3.2.2, 0) else none)))
def fe_impl_BlockNamed (k : Nat) : FE := ⟨(.pr (.sl 69 (.st (.pr .str (.pr .str .str)))) (.pr .str .str)), 2, (.pr .str (.int .i64)), fun x => impl_BlockNamed k x.1 x.2.1 x.2.2⟩
theorem ok_impl_BlockNamed (k : Nat) : FnOK Try.prog 36 (fe_impl_BlockNamed k) := by
  refine closed_ok (tab := [(26, fe_impl_ValidBlocks k), (85, fe_impl_blockAt k)]) (l := []) ti_ok ti_ht mix (List.forall_mem_cons.2 ⟨ok_impl_ValidBlocks k, (List.forall_mem_cons.2 ⟨ok_impl_blockAt k, (List.forall_mem_nil _)⟩)⟩) (List.forall_mem_nil _) ⟨⟨Try.f36, (codeOf Try.f36), [.tmp 6, .tmp 7], (LOn (List UInt8 × Int)), by kernel_rfl, by kernel_rfl, by kernel_rfl, by kernel_rfl, rfl, by decide, ⟨by kernel_rfl, ?_, ?_⟩, ?_⟩⟩
  · exact no_loops (by kernel_rfl)
  · exact no_cuts (by kernel_rfl)
  · rintro ⟨list0, kind1, name2⟩
    kernel_rfl
/- 6 loop.example/g01005/laws.FnExactBlockNamed -/
def laws_FnExactBlockNamed (k : Nat) (aList0 : List (List UInt8 × List UInt8 × List UInt8)) (aKind1 : List UInt8) (aName2 : List UInt8) : Option Bool := (if (decide (1048576 < (List.length aKind1 : Int))) = true then some true else (if (decide (1048576 < (List.length aName2 : Int))) = true then some true else (laws_szBlockS k aList0 1048576).bind fun r_1 => (if (decide (r_1 < 0)) = true then some true else (laws_toBlockS k aList0).bind fun r_2 => (spec_BlockNamed k r_2 aKind1 aName2).bind fun r_3 => (laws_toBlockS k aList0).bind fun r_4 => (impl_BlockNamed k r_4 aKind1 aName2).bind fun r_5 => (if (!(decide (r_5.1 = r_3.1))) = true then some false else (if (!(decide (r_5.2 = r_3.2))) = true then some false else (laws_toBlockS k aList0).bind fun r_6 => (laws_eqBlockS k r_4 r_6).bind fun r_7 => (if (!r_7) = true then some false else some true))))))
def fe_laws_FnExactBlockNamed (k : Nat) : FE := ⟨(.pr (.sl 66 (.st (.pr .str (.pr .str .str)))) (.pr .str .str)), 1, .bool, fun x => laws_FnExactBlockNamed k x.1 x.2.1 x.2.2⟩
theorem ok_laws_FnExactBlockNamed (k : Nat) : FnOK Try.prog 6 (fe_laws_FnExactBlockNamed k) := by
  refine closed_ok (tab := [(23, fe_laws_szBlockS k), (25, fe_laws_toBlockS k), (35, fe_spec_BlockNamed k), (36, fe_impl_BlockNamed k), (27, fe_laws_eqBlockS k)]) (l := []) ti_ok ti_ht mix (List.forall_mem_cons.2 ⟨ok_laws_szBlockS k, (List.forall_mem_cons.2 ⟨ok_laws_toBlockS k, (List.forall_mem_cons.2 ⟨ok_spec_BlockNamed k, (List.forall_mem_cons.2 ⟨ok_impl_BlockNamed k, (List.forall_mem_cons.2 ⟨ok_laws_eqBlockS k, (List.forall_mem_nil _)⟩)⟩)⟩)⟩)⟩) (List.forall_mem_nil _) ⟨⟨Try.f6, (codeOf Try.f6), [.tmp 6], (LOn Bool), by kernel_rfl, by kernel_rfl, by kernel_rfl, by kernel_rfl, rfl, by decide, ⟨by kernel_rfl, ?_, ?_⟩, ?_⟩⟩
  · exact no_loops (by kernel_rfl)
  · exact no_cuts (by kernel_rfl)
  · rintro ⟨aList0, aKind1, aName2⟩
    kernel_rfl
/- 39 loop.example/g01005/spec.BlocksOfKind -/
def spec_BlocksOfKind_l0 (k : Nat) : Nat → (List (List UInt8 × List UInt8 × List UInt8)) → (List UInt8) → Int → (List (List UInt8)) → ((List (List UInt8)) → Option (List (List UInt8) × Int)) → Option (List (List UInt8) × Int)
  | 0, _, _, _, _, _ => none
  | n + 1, list0, kind1, i7, q_2, e_0 => (if (decide (i7 < (List.length list0 : Int))) = true then (if 0 ≤ i7 then (list0[i7.toNat]?).bind fun y_3 => (if (decide (y_3.1 = kind1)) = true then (if 0 ≤ i7 then (list0[i7.toNat]?).bind fun y_4 => (if (q_2.length + [y_4.2.1].length) * 16 ≤ LIM then spec_BlocksOfKind_l0 k n list0 kind1 (w_i64 (i7 + 1)) (q_2 ++ [y_4.2.1]) e_0 else none) else none) else spec_BlocksOfKind_l0 k n list0 kind1 (w_i64 (i7 + 1)) q_2 e_0) else none) else e_0 q_2)
def spec_BlocksOfKind (k : Nat) (list0 : List (List UInt8 × List UInt8 × List UInt8)) (kind1 : List UInt8) : Option (List (List UInt8) × Int) := (spec_l29Ok k list0).bind fun r_1 => (if (!r_1) = true then some ([], 1) else spec_BlocksOfKind_l0 k k list0 kind1 0 [] (fun q_5 => some (q_5, 0)))
def spec_BlocksOfKind_l0_h : Head := ⟨[(0, (.val (.sl 69 (.st (.pr .str (.pr .str .str)))))), (1, (.val .str)), (6, (.ref 64000000 [])), (7, (.val (.int .i64)))], [(64000000, 9, .str, false)], []⟩
def spec_BlocksOfKind_l0_x0 : Head := ⟨[(6, (.ref 64000000 []))], [(64000000, 9, .str, false)], []⟩
def spec_BlocksOfKind_l0_F (k n : Nat) (x : spec_BlocksOfKind_l0_h.T) (kx : Nat → St → Option (List (List UInt8) × Int)) : Option (List (List UInt8) × Int) := spec_BlocksOfKind_l0 k n x.1.1 x.1.2.1 x.1.2.2.2.1 x.2.1.1 (fun (q_5 : List (List UInt8)) => kx 0 (spec_BlocksOfKind_l0_x0.fill (((), ()), (q_5, ()), ())))
def spec_BlocksOfKind_O (k : Nat) : Oracles (List (List UInt8) × Int) := ⟨fun n => bif Nat.beq n 5 then some (fun σ kx => spec_BlocksOfKind_l0_h.get σ fun x => spec_BlocksOfKind_l0_F k k x kx) else none, fun _ => none⟩
def fe_spec_BlocksOfKind (k : Nat) : FE := ⟨(.pr (.sl 69 (.st (.pr .str (.pr .str .str)))) .str), 2, (.pr (.sl 9 .str) (.int .i64)), fun x => spec_BlocksOfKind k x.1 x.2⟩
theorem spec_BlocksOfKind_l0_ok (k : Nat) : LoopOK (mkEnv ti [(73, fe_spec_l29Ok k)] (lk []) pins0 pinB0) (spec_BlocksOfKind_O k) (rdC (mkEnv ti [(73, fe_spec_l29Ok k)] (lk []) pins0 pinB0) [.tmp 4, .tmp 5] (.pr (.sl 9 .str) (.int .i64))) ((loopsOf (codeOf Try.f39)).getD 0 .skip) (fun σ kx => spec_BlocksOfKind_l0_h.get σ fun x => spec_BlocksOfKind_l0_F k k x kx) := by
  refine ⟨spec_BlocksOfKind_l0_h, [(0, spec_BlocksOfKind_l0_x0)], fun n x kx => spec_BlocksOfKind_l0_F k n x kx, k, by kernel_rfl, by kernel_rfl, fun x kx => by kernel_rfl, ?_, fun σ kx => rfl⟩
  rintro n ⟨⟨list0, kind1, ⟨⟩, i7, ⟨⟩⟩, ⟨q_2, ⟨⟩⟩, ⟨⟩⟩ kx
  kernel_rfl
theorem ok_spec_BlocksOfKind (k : Nat) : FnOK Try.prog 39 (fe_spec_BlocksOfKind k) := by
  refine closed_ok (tab := [(73, fe_spec_l29Ok k)]) (l := []) ti_ok ti_ht mix (List.forall_mem_cons.2 ⟨ok_spec_l29Ok k, (List.forall_mem_nil _)⟩) (List.forall_mem_nil _) ⟨⟨Try.f39, (codeOf Try.f39), [.tmp 4, .tmp 5], (spec_BlocksOfKind_O k), by kernel_rfl, by kernel_rfl, by kernel_rfl, by kernel_rfl, rfl, by decide, ⟨by kernel_rfl, ?_, ?_⟩, ?_⟩⟩
  · refine loops_of (n := 1) (by kernel_rfl) fun i hi => ?_
    match i, hi with
    | 0, _ => exact loop_of (by kernel_rfl) (spec_BlocksOfKind_l0_ok k)
    | n + 1, hi => omega
  · exact no_cuts (by kernel_rfl)
  · rintro ⟨list0, kind1⟩
    kernel_rfl
/- 40 loop.example/g01005/impl.BlocksOfKind -/
def impl_BlocksOfKind_l0 (k : Nat) : Nat → (List UInt8) → (List (List UInt8 × List UInt8 × List UInt8)) → Int → Int → (List (List UInt8)) → ((List (List UInt8)) → Option (List (List UInt8) × Int)) → Option (List (List UInt8) × Int)
  | 0, _, _, _, _, _, _ => none
  | n + 1, kind1, x12, x13, x14, q_2, e_0 => (if (decide (x14 < x13)) = true then (if 0 ≤ x14 then (x12[x14.toNat]?).bind fun y_3 => (if (decide (y_3.1 = kind1)) = true then (if (q_2.length + [y_3.2.1].length) * 16 ≤ LIM then impl_BlocksOfKind_l0 k n kind1 x12 x13 (w_i64 (x14 + 1)) (q_2 ++ [y_3.2.1]) e_0 else none) else impl_BlocksOfKind_l0 k n kind1 x12 x13 (w_i64 (x14 + 1)) q_2 e_0) else none) else e_0 q_2)
def impl_BlocksOfKind (k : Nat) (list0 : List (List UInt8 × List UInt8 × List UInt8)) (kind1 : List UInt8) : Option (List (List UInt8) × Int) := (impl_ValidBlocks k list0).bind fun r_1 => (if (!r_1) = true then some ([], 1) else impl_BlocksOfKind_l0 k k kind1 list0 (List.length list0 : Int) 0 [] (fun q_4 => some (q_4, 0)))
def impl_BlocksOfKind_l0_h : Head := ⟨[(1, (.val .str)), (6, (.ref 64000000 [])), (12, (.val (.sl 69 (.st (.pr .str (.pr .str .str)))))), (13, (.val (.int .i64))), (14, (.val (.int .i64)))], [(64000000, 9, .str, false)], []⟩
def impl_BlocksOfKind_l0_x0 : Head := ⟨[(6, (.ref 64000000 []))], [(64000000, 9, .str, false)], []⟩
def impl_BlocksOfKind_l0_F (k n : Nat) (x : impl_BlocksOfKind_l0_h.T) (kx : Nat → St → Option (List (List UInt8) × Int)) : Option (List (List UInt8) × Int) := impl_BlocksOfKind_l0 k n x.1.1 x.1.2.2.1 x.1.2.2.2.1 x.1.2.2.2.2.1 x.2.1.1 (fun (q_4 : List (List UInt8)) => kx 0 (impl_BlocksOfKind_l0_x0.fill (((), ()), (q_4, ()), ())))
def impl_BlocksOfKind_O (k : Nat) : Oracles (List (List UInt8) × Int) := ⟨fun n => bif Nat.beq n 5 then some (fun σ kx => impl_BlocksOfKind_l0_h.get σ fun x => impl_BlocksOfKind_l0_F k k x kx) else none, fun _ => none⟩
def fe_impl_BlocksOfKind (k : Nat) : FE := ⟨(.pr (.sl 69 (.st (.pr .str (.pr .str .str)))) .str), 2, (.pr (.sl 9 .str) (.int .i64)), fun x => impl_BlocksOfKind k x.1 x.2⟩
theorem impl_BlocksOfKind_l0_ok (k : Nat) : LoopOK (mkEnv ti [(26, fe_impl_ValidBlocks k)] (lk []) pins0 pinB0) (impl_BlocksOfKind_O k) (rdC (mkEnv ti [(26, fe_impl_ValidBlocks k)] (lk []) pins0 pinB0) [.tmp 4, .tmp 5] (.pr (.sl 9 .str) (.int .i64))) ((loopsOf (codeOf Try.f40)).getD 0 .skip) (fun σ kx => impl_BlocksOfKind_l0_h.get σ fun x => impl_BlocksOfKind_l0_F k k x kx) := by
  refine ⟨impl_BlocksOfKind_l0_h, [(0, impl_BlocksOfKind_l0_x0)], fun n x kx => impl_BlocksOfKind_l0_F k n x kx, k, by kernel_rfl, by kernel_rfl, fun x kx => by kernel_rfl, ?_, fun σ kx => rfl⟩
  rintro n ⟨⟨kind1, ⟨⟩, x12, x13, x14, ⟨⟩⟩, ⟨q_2, ⟨⟩⟩, ⟨⟩⟩ kx
  kernel_rfl
theorem ok_impl_BlocksOfKind (k : Nat) : FnOK Try.prog 40 (fe_impl_BlocksOfKind k) := by
  refine closed_ok (tab := [(26, fe_impl_ValidBlocks k)]) (l := []) ti_ok ti_ht mix (List.forall_mem_cons.2 ⟨ok_impl_ValidBlocks k, (List.forall_mem_nil _)⟩) (List.forall_mem_nil _) ⟨⟨Try.f40, (codeOf Try.f40), [.tmp 4, .tmp 5], (impl_BlocksOfKind_O k), by kernel_rfl, by kernel_rfl, by kernel_rfl, by kernel_rfl, rfl, by decide, ⟨by kernel_rfl, ?_, ?_⟩, ?_⟩⟩
  · refine loops_of (n := 1) (by kernel_rfl) fun i hi => ?_
    match i, hi with
    | 0, _ => exact loop_of (by kernel_rfl) (impl_BlocksOfKind_l0_ok k)
    | n + 1, hi => omega
  · exact no_cuts (by kernel_rfl)
  · rintro ⟨list0, kind1⟩
    kernel_rfl
/- 32 loop.example/g01005/laws.eqStringS -/
def laws_eqStringS_l0 (k : Nat) : Nat → (List (List UInt8)) → (List (List UInt8)) → Int → (Option Bool) → Option Bool
  | 0, _, _, _, _ => none
  | n + 1, a0, b1, i5, e_0 => (if (decide (i5 < (List.length a0 : Int))) = true then (if 0 ≤ i5 then (a0[i5.toNat]?).bind fun y_1 => (if 0 ≤ i5 then (b1[i5.toNat]?).bind fun y_2 => (if (!(decide (y_1 = y_2))) = true then some false else laws_eqStringS_l0 k n a0 b1 (w_i64 (i5 + 1)) e_0) else none) else none) else e_0)
def laws_eqStringS (k : Nat) (a0 : List (List UInt8)) (b1 : List (List UInt8)) : Option Bool := (if (!(decide ((List.length a0 : Int) = (List.length b1 : Int)))) = true then some false else laws_eqStringS_l0 k k a0 b1 0 (some true))
def laws_eqStringS_l0_h : Head := ⟨[(0, (.val (.sl 9 .str))), (1, (.val (.sl 9 .str))), (5, (.val (.int .i64)))], [], []⟩
def laws_eqStringS_l0_x0 : Head := ⟨[], [], []⟩
def laws_eqStringS_l0_F (k n : Nat) (x : laws_eqStringS_l0_h.T) (kx : Nat → St → Option Bool) : Option Bool := laws_eqStringS_l0 k n x.1.1 x.1.2.1 x.1.2.2.1 (kx 0 (laws_eqStringS_l0_x0.fill ((), (), ())))
def laws_eqStringS_O (k : Nat) : Oracles Bool := ⟨fun n => bif Nat.beq n 4 then some (fun σ kx => laws_eqStringS_l0_h.get σ fun x => laws_eqStringS_l0_F k k x kx) else none, fun _ => none⟩
def fe_laws_eqStringS (k : Nat) : FE := ⟨(.pr (.sl 9 .str) (.sl 9 .str)), 1, .bool, fun x => laws_eqStringS k x.1 x.2⟩
theorem laws_eqStringS_l0_ok (k : Nat) : LoopOK (mkEnv ti [] (lk []) pins0 pinB0) (laws_eqStringS_O k) (rdC (mkEnv ti [] (lk []) pins0 pinB0) [.tmp 4] .bool) ((loopsOf (codeOf Try.f32)).getD 0 .skip) (fun σ kx => laws_eqStringS_l0_h.get σ fun x => laws_eqStringS_l0_F k k x kx) := by
  refine ⟨laws_eqStringS_l0_h, [(0, laws_eqStringS_l0_x0)], fun n x kx => laws_eqStringS_l0_F k n x kx, k, by kernel_rfl, by kernel_rfl, fun x kx => by kernel_rfl, ?_, fun σ kx => rfl⟩
  rintro n ⟨⟨a0, b1, i5, ⟨⟩⟩, ⟨⟩, ⟨⟩⟩ kx
  kernel_rfl
theorem ok_laws_eqStringS (k : Nat) : FnOK Try.prog 32 (fe_laws_eqStringS k) := by
  refine closed_ok (tab := []) (l := []) ti_ok ti_ht mix (List.forall_mem_nil _) (List.forall_mem_nil _) ⟨⟨Try.f32, (codeOf Try.f32), [.tmp 4], (laws_eqStringS_O k), by kernel_rfl, by kernel_rfl, by kernel_rfl, by kernel_rfl, rfl, by decide, ⟨by kernel_rfl, ?_, ?_⟩, ?_⟩⟩
  · refine loops_of (n := 1) (by kernel_rfl) fun i hi => ?_
    match i, hi with
    | 0, _ => exact loop_of (by kernel_rfl) (laws_eqStringS_l0_ok k)
    | n + 1, hi => omega
  · exact no_cuts (by kernel_rfl)
  · rintro ⟨a0, b1⟩
    kernel_rfl
/- 41 loop.example/g01005/laws.markBlockS (open) -/
def laws_markBlockS_o_l0 (k : Nat) : Nat → Int → Int → (List (List UInt8 × List UInt8 × List UInt8)) → (Int → (List (List UInt8 × List UInt8 × List UInt8)) → Option (((Int × Unit) × ((List (List UInt8 × List UInt8 × List UInt8)) × Unit) × Unit))) → Option (((Int × Unit) × ((List (List UInt8 × List UInt8 × List UInt8)) × Unit) × Unit))
  | 0, _, _, _, _ => none
  | n + 1, k1, i5, q_2, e_0 => (if (decide (i5 < (List.length q_2 : Int))) = true then (laws_markText k k1).bind fun r_3 => (if 0 ≤ i5 ∧ i5.toNat < List.length q_2 then (q_2[i5.toNat]?).bind fun y_4 => (q_2[i5.toNat]?).bind fun y_5 => (laws_markText k (w_i64 (k1 + 1))).bind fun r_6 => (if 0 ≤ i5 ∧ i5.toNat < List.length (q_2.set i5.toNat (r_3, y_4.2)) then ((q_2.set i5.toNat (r_3, y_4.2))[i5.toNat]?).bind fun y_7 => ((q_2.set i5.toNat (r_3, y_4.2))[i5.toNat]?).bind fun y_8 => (laws_markText k (w_i64 ((w_i64 (k1 + 1)) + 1))).bind fun r_9 => (if 0 ≤ i5 ∧ i5.toNat < List.length ((q_2.set i5.toNat (r_3, y_4.2)).set i5.toNat (y_7.1, (r_6, y_7.2.2))) then (((q_2.set i5.toNat (r_3, y_4.2)).set i5.toNat (y_7.1, (r_6, y_7.2.2)))[i5.toNat]?).bind fun y_10 => (((q_2.set i5.toNat (r_3, y_4.2)).set i5.toNat (y_7.1, (r_6, y_7.2.2)))[i5.toNat]?).bind fun y_11 => laws_markBlockS_o_l0 k n (w_i64 ((w_i64 ((w_i64 (k1 + 1)) + 1)) + 1)) (w_i64 (i5 + 1)) (((q_2.set i5.toNat (r_3, y_4.2)).set i5.toNat (y_7.1, (r_6, y_7.2.2))).set i5.toNat (y_10.1, (y_10.2.1, r_9))) e_0 else none) else none) else none) else e_0 k1 q_2)
def laws_markBlockS_o (k : Nat) (k1 : Int) (q_1 : List (List UInt8 × List UInt8 × List UInt8)) : Option (((Int × Unit) × ((List (List UInt8 × List UInt8 × List UInt8)) × Unit) × Unit)) := laws_markBlockS_o_l0 k k k1 0 q_1 (fun k_12 q_13 => some ((k_12, ()), (q_13, ()), ()))
def laws_markBlockS_o_l0_h : Head := ⟨[(0, (.ref 1000000000 [])), (1, (.val (.int .i64))), (5, (.val (.int .i64)))], [(1000000000, 69, (.st (.pr .str (.pr .str .str))), false)], []⟩
def laws_markBlockS_o_l0_x0 : Head := ⟨[(1, (.val (.int .i64)))], [(1000000000, 69, (.st (.pr .str (.pr .str .str))), false)], []⟩
def laws_markBlockS_o_l0_F (k n : Nat) (x : laws_markBlockS_o_l0_h.T) (kx : Nat → St → Option (((Int × Unit) × ((List (List UInt8 × List UInt8 × List UInt8)) × Unit) × Unit))) : Option (((Int × Unit) × ((List (List UInt8 × List UInt8 × List UInt8)) × Unit) × Unit)) := laws_markBlockS_o_l0 k n x.1.2.1 x.1.2.2.1 x.2.1.1 (fun (k1 : Int) (q_12 : List (List UInt8 × List UInt8 × List UInt8)) => kx 0 (laws_markBlockS_o_l0_x0.fill ((k1, ()), (q_12, ()), ())))
def laws_markBlockS_o_O (k : Nat) : Oracles (((Int × Unit) × ((List (List UInt8 × List UInt8 × List UInt8)) × Unit) × Unit)) := ⟨fun n => bif Nat.beq n 2 then some (fun σ kx => laws_markBlockS_o_l0_h.get σ fun x => laws_markBlockS_o_l0_F k k x kx) else none, fun _ => none⟩
def laws_markBlockS_o_hi : Head := ⟨[(0, (.ref 1000000000 [])), (1, (.val (.int .i64)))], [(1000000000, 69, (.st (.pr .str (.pr .str .str))), false)], []⟩
def laws_markBlockS_o_ho : Head := ⟨[(0, (.val (.int .i64)))], [(1000000000, 69, (.st (.pr .str (.pr .str .str))), false)], []⟩
def oc_laws_markBlockS_o (k : Nat) : OC := ⟨laws_markBlockS_o_hi, laws_markBlockS_o_ho, fun x => laws_markBlockS_o k x.1.2.1 x.2.1.1⟩
theorem laws_markBlockS_o_l0_ok (k : Nat) (pins : Nat → Value) (pinB : Nat → Nat) : LoopOK (mkEnv ti [(72, fe_laws_markText k)] (lk []) pins pinB) (laws_markBlockS_o_O k) (rdO (mkEnv ti [(72, fe_laws_markText k)] (lk []) pins pinB) [.tmp 4] laws_markBlockS_o_ho) ((loopsOf (codeOf Try.f41)).getD 0 .skip) (fun σ kx => laws_markBlockS_o_l0_h.get σ fun x => laws_markBlockS_o_l0_F k k x kx) := by
  refine ⟨laws_markBlockS_o_l0_h, [(0, laws_markBlockS_o_l0_x0)], fun n x kx => laws_markBlockS_o_l0_F k n x kx, k, by kernel_rfl, by kernel_rfl, fun x kx => by kernel_rfl, ?_, fun σ kx => rfl⟩
  rintro n ⟨⟨⟨⟩, k1, i5, ⟨⟩⟩, ⟨q_2, ⟨⟩⟩, ⟨⟩⟩ kx
  kernel_rfl
theorem ok_laws_markBlockS_o (k : Nat) : OpenOK Try.prog ti 41 (oc_laws_markBlockS_o k) := by
  refine open_ok (tab := [(72, fe_laws_markText k)]) (l := []) ti_ok ti_ht mix (List.forall_mem_cons.2 ⟨ok_laws_markText k, (List.forall_mem_nil _)⟩) (List.forall_mem_nil _) ⟨by kernel_rfl, by kernel_rfl, Try.f41, (codeOf Try.f41), [.tmp 4], (laws_markBlockS_o_O k), by kernel_rfl, by kernel_rfl, by kernel_rfl, by kernel_rfl, Nat.le_of_ble_eq_true (by kernel_rfl), fun pins pinB => ⟨⟨by kernel_rfl, ?_, ?_⟩, ?_⟩⟩
  · refine loops_of (n := 1) (by kernel_rfl) fun i hi => ?_
    match i, hi with
    | 0, _ => exact loop_of (by kernel_rfl) (laws_markBlockS_o_l0_ok k pins pinB)
    | n + 1, hi => omega
  · exact no_cuts (by kernel_rfl)
  · rintro ⟨⟨⟨⟩, k1, ⟨⟩⟩, ⟨q_1, ⟨⟩⟩, ⟨⟩⟩
    kernel_rfl
/- 33 loop.example/g01005/laws.markStringS (open) -/
def laws_markStringS_o_l0 (k : Nat) : Nat → Int → Int → (List (List UInt8)) → (Int → (List (List UInt8)) → Option (((Int × Unit) × ((List (List UInt8)) × Unit) × Unit))) → Option (((Int × Unit) × ((List (List UInt8)) × Unit) × Unit))
  | 0, _, _, _, _ => none
  | n + 1, k1, i5, q_2, e_0 => (if (decide (i5 < (List.length q_2 : Int))) = true then (laws_markText k k1).bind fun r_3 => (if 0 ≤ i5 ∧ i5.toNat < List.length q_2 then (q_2[i5.toNat]?).bind fun y_4 => (q_2[i5.toNat]?).bind fun y_5 => laws_markStringS_o_l0 k n (w_i64 (k1 + 1)) (w_i64 (i5 + 1)) (q_2.set i5.toNat r_3) e_0 else none) else e_0 k1 q_2)
def laws_markStringS_o (k : Nat) (k1 : Int) (q_1 : List (List UInt8)) : Option (((Int × Unit) × ((List (List UInt8)) × Unit) × Unit)) := laws_markStringS_o_l0 k k k1 0 q_1 (fun k_6 q_7 => some ((k_6, ()), (q_7, ()), ()))
def laws_markStringS_o_l0_h : Head := ⟨[(0, (.ref 1000000000 [])), (1, (.val (.int .i64))), (5, (.val (.int .i64)))], [(1000000000, 9, .str, false)], []⟩
def laws_markStringS_o_l0_x0 : Head := ⟨[(1, (.val (.int .i64)))], [(1000000000, 9, .str, false)], []⟩
def laws_markStringS_o_l0_F (k n : Nat) (x : laws_markStringS_o_l0_h.T) (kx : Nat → St → Option (((Int × Unit) × ((List (List UInt8)) × Unit) × Unit))) : Option (((Int × Unit) × ((List (List UInt8)) × Unit) × Unit)) := laws_markStringS_o_l0 k n x.1.2.1 x.1.2.2.1 x.2.1.1 (fun (k1 : Int) (q_6 : List (List UInt8)) => kx 0 (laws_markStringS_o_l0_x0.fill ((k1, ()), (q_6, ()), ())))
def laws_markStringS_o_O (k : Nat) : Oracles (((Int × Unit) × ((List (List UInt8)) × Unit) × Unit)) := ⟨fun n => bif Nat.beq n 2 then some (fun σ kx => laws_markStringS_o_l0_h.get σ fun x => laws_markStringS_o_l0_F k k x kx) else none, fun _ => none⟩
def laws_markStringS_o_hi : Head := ⟨[(0, (.ref 1000000000 [])), (1, (.val (.int .i64)))], [(1000000000, 9, .str, false)], []⟩
def laws_markStringS_o_ho : Head := ⟨[(0, (.val (.int .i64)))], [(1000000000, 9, .str, false)], []⟩
def oc_laws_markStringS_o (k : Nat) : OC := ⟨laws_markStringS_o_hi, laws_markStringS_o_ho, fun x => laws_markStringS_o k x.1.2.1 x.2.1.1⟩
theorem laws_markStringS_o_l0_ok (k : Nat) (pins : Nat → Value) (pinB : Nat → Nat) : LoopOK (mkEnv ti [(72, fe_laws_markText k)] (lk []) pins pinB) (laws_markStringS_o_O k) (rdO (mkEnv ti [(72, fe_laws_markText k)] (lk []) pins pinB) [.tmp 4] laws_markStringS_o_ho) ((loopsOf (codeOf Try.f33)).getD 0 .skip) (fun σ kx => laws_markStringS_o_l0_h.get σ fun x => laws_markStringS_o_l0_F k k x kx) := by
  refine ⟨laws_markStringS_o_l0_h, [(0, laws_markStringS_o_l0_x0)], fun n x kx => laws_markStringS_o_l0_F k n x kx, k, by kernel_rfl, by kernel_rfl, fun x kx => by kernel_rfl, ?_, fun σ kx => rfl⟩
  rintro n ⟨⟨⟨⟩, k1, i5, ⟨⟩⟩, ⟨q_2, ⟨⟩⟩, ⟨⟩⟩ kx
  kernel_rfl
theorem ok_laws_markStringS_o (k : Nat) : OpenOK Try.prog ti 33 (oc_laws_markStringS_o k) := by
  refine open_ok (tab := [(72, fe_laws_markText k)]) (l := []) ti_ok ti_ht mix (List.forall_mem_cons.2 ⟨ok_laws_markText k, (List.forall_mem_nil _)⟩) (List.forall_mem_nil _) ⟨by kernel_rfl, by kernel_rfl, Try.f33, (codeOf Try.f33), [.tmp 4], (laws_markStringS_o_O k), by kernel_rfl, by kernel_rfl, by kernel_rfl, by kernel_rfl, Nat.le_of_ble_eq_true (by kernel_rfl), fun pins pinB => ⟨⟨by kernel_rfl, ?_, ?_⟩, ?_⟩⟩
  · refine loops_of (n := 1) (by kernel_rfl) fun i hi => ?_
    match i, hi with
    | 0, _ => exact loop_of (by kernel_rfl) (laws_markStringS_o_l0_ok k pins pinB)
    | n + 1, hi => omega
  · exact no_cuts (by kernel_rfl)
  · rintro ⟨⟨⟨⟩, k1, ⟨⟩⟩, ⟨q_1, ⟨⟩⟩, ⟨⟩⟩
    kernel_rfl
/- 34 loop.example/g01005/laws.heldStringS -/
def laws_heldStringS_l0 (k : Nat) : Nat → (List (List UInt8)) → Int → Int → (Int → Option Int) → Option Int
  | 0, _, _, _, _ => none
  | n + 1, a0, k1, i5, e_0 => (if (decide (i5 < (List.length a0 : Int))) = true then (if 0 ≤ i5 then (a0[i5.toNat]?).bind fun y_1 => (laws_markText k k1).bind fun r_2 => (if (!(decide (y_1 = r_2))) = true then some (-1) else laws_heldStringS_l0 k n a0 (w_i64 (k1 + 1)) (w_i64 (i5 + 1)) e_0) else none) else e_0 k1)
def laws_heldStringS (k : Nat) (a0 : List (List UInt8)) (k1 : Int) : Option Int := laws_heldStringS_l0 k k a0 k1 0 (fun k_3 => some k_3)
def laws_heldStringS_l0_h : Head := ⟨[(0, (.val (.sl 9 .str))), (1, (.val (.int .i64))), (5, (.val (.int .i64)))], [], []⟩
def laws_heldStringS_l0_x0 : Head := ⟨[(1, (.val (.int .i64)))], [], []⟩
def laws_heldStringS_l0_F (k n : Nat) (x : laws_heldStringS_l0_h.T) (kx : Nat → St → Option Int) : Option Int := laws_heldStringS_l0 k n x.1.1 x.1.2.1 x.1.2.2.1 (fun (k1 : Int) => kx 0 (laws_heldStringS_l0_x0.fill ((k1, ()), (), ())))
def laws_heldStringS_O (k : Nat) : Oracles Int := ⟨fun n => bif Nat.beq n 2 then some (fun σ kx => laws_heldStringS_l0_h.get σ fun x => laws_heldStringS_l0_F k k x kx) else none, fun _ => none⟩
def fe_laws_heldStringS (k : Nat) : FE := ⟨(.pr (.sl 9 .str) (.int .i64)), 1, (.int .i64), fun x => laws_heldStringS k x.1 x.2⟩
theorem laws_heldStringS_l0_ok (k : Nat) : LoopOK (mkEnv ti [(72, fe_laws_markText k)] (lk []) pins0 pinB0) (laws_heldStringS_O k) (rdC (mkEnv ti [(72, fe_laws_markText k)] (lk []) pins0 pinB0) [.tmp 4] (.int .i64)) ((loopsOf (codeOf Try.f34)).getD 0 .skip) (fun σ kx => laws_heldStringS_l0_h.get σ fun x => laws_heldStringS_l0_F k k x kx) := by
  refine ⟨laws_heldStringS_l0_h, [(0, laws_heldStringS_l0_x0)], fun n x kx => laws_heldStringS_l0_F k n x kx, k, by kernel_rfl, by kernel_rfl, fun x kx => by kernel_rfl, ?_, fun σ kx => rfl⟩
  rintro n ⟨⟨a0, k1, i5, ⟨⟩⟩, ⟨⟩, ⟨⟩⟩ kx
  kernel_rfl
theorem ok_laws_heldStringS (k : Nat) : FnOK Try.prog 34 (fe_laws_heldStringS k) := by
  refine closed_ok (tab := [(72, fe_laws_markText k)]) (l := []) ti_ok ti_ht mix (List.forall_mem_cons.2 ⟨ok_laws_markText k, (List.forall_mem_nil _)⟩) (List.forall_mem_nil _) ⟨⟨Try.f34, (codeOf Try.f34), [.tmp 4], (laws_heldStringS_O k), by kernel_rfl, by kernel_rfl, by kernel_rfl, by kernel_rfl, rfl, by decide, ⟨by kernel_rfl, ?_, ?_⟩, ?_⟩⟩
  · refine loops_of (n := 1) (by kernel_rfl) fun i hi => ?_
    match i, hi with
    | 0, _ => exact loop_of (by kernel_rfl) (laws_heldStringS_l0_ok k)
    | n + 1, hi => omega
  · exact no_cuts (by kernel_rfl)
  · rintro ⟨a0, k1⟩
    kernel_rfl
/- 8 loop.example/g01005/laws.FnExactBlocksOfKind -/
def laws_FnExactBlocksOfKind (k : Nat) (aList0 : List (List UInt8 × List UInt8 × List UInt8)) (aKind1 : List UInt8) : Option Bool := (if (decide (1048576 < (List.length aKind1 : Int))) = true then some true else (laws_szBlockS k aList0 1048576).bind fun r_1 => (if (decide (r_1 < 0)) = true then some true else (laws_toBlockS k aList0).bind fun r_2 => (spec_BlocksOfKind k r_2 aKind1).bind fun r_3 => (laws_toBlockS k aList0).bind fun r_4 => (impl_BlocksOfKind k r_4 aKind1).bind fun r_5 => (laws_eqStringS k r_5.1 r_3.1).bind fun r_6 => (if (!r_6) = true then some false else (if (!(decide (r_5.2 = r_3.2))) = true then some false else (laws_toBlockS k aList0).bind fun r_7 => (laws_eqBlockS k r_4 r_7).bind fun r_8 => (if (!r_8) = true then some false else (laws_markBlockS_o k 1 r_4).bind fun y_9 => (if (decide (y_9.1.1 < 0)) = true then some false else (laws_eqStringS k r_5.1 r_3.1).bind fun r_10 => (if (!r_10) = true then some false else (if (!(decide (r_5.2 = r_3.2))) = true then some false else (laws_markStringS_o k 1 r_5.1).bind fun y_11 => (laws_heldStringS k y_11.2.1.1 1).bind fun r_12 => (if (decide (r_12 < 0)) = true then some false else (if (!(decide (r_12 = y_11.1.1))) = true then some false else (laws_toBlockS k aList0).bind fun r_13 => (impl_BlocksOfKind k r_13 aKind1).bind fun r_14 => (laws_eqStringS k r_14.1 r_3.1).bind fun r_15 => (if (!r_15) = true then some false else (if (!(decide (r_14.2 = r_3.2))) = true then some false else (laws_heldStringS k y_11.2.1.1 1).bind fun r_16 => (if (decide (r_16 < 0)) = true then some false else (if (!(decide (r_16 = y_11.1.1))) = true then some false else some true))))))))))))))
def fe_laws_FnExactBlocksOfKind (k : Nat) : FE := ⟨(.pr (.sl 66 (.st (.pr .str (.pr .str .str)))) .str), 1, .bool, fun x => laws_FnExactBlocksOfKind k x.1 x.2⟩
theorem ok_laws_FnExactBlocksOfKind (k : Nat) : FnOK Try.prog 8 (fe_laws_FnExactBlocksOfKind k) := by
  refine closed_ok (tab := [(23, fe_laws_szBlockS k), (25, fe_laws_toBlockS k), (39, fe_spec_BlocksOfKind k), (40, fe_impl_BlocksOfKind k), (32, fe_laws_eqStringS k), (27, fe_laws_eqBlockS k), (34, fe_laws_heldStringS k)]) (l := [(55, 41, oc_laws_markBlockS_o k), (71, 33, oc_laws_markStringS_o k)]) ti_ok ti_ht mix (List.forall_mem_cons.2 ⟨ok_laws_szBlockS k, (List.forall_mem_cons.2 ⟨ok_laws_toBlockS k, (List.forall_mem_cons.2 ⟨ok_spec_BlocksOfKind k, (List.forall_mem_cons.2 ⟨ok_impl_BlocksOfKind k, (List.forall_mem_cons.2 ⟨ok_laws_eqStringS k, (List.forall_mem_cons.2 ⟨ok_laws_eqBlockS k, (List.forall_mem_cons.2 ⟨ok_laws_heldStringS k, (List.forall_mem_nil _)⟩)⟩)⟩)⟩)⟩)⟩)⟩) (List.forall_mem_cons.2 ⟨ok_laws_markBlockS_o k, (List.forall_mem_cons.2 ⟨ok_laws_markStringS_o k, (List.forall_mem_nil _)⟩)⟩) ⟨⟨Try.f8, (codeOf Try.f8), [.tmp 4], (LOn Bool), by kernel_rfl, by kernel_rfl, by kernel_rfl, by kernel_rfl, rfl, by decide, ⟨by kernel_rfl, ?_, ?_⟩, ?_⟩⟩
  · exact no_loops (by kernel_rfl)
  · exact no_cuts (by kernel_rfl)
  · rintro ⟨aList0, aKind1⟩
    kernel_rfl
/- 28 loop.example/g01005/laws.szStringS -/
def laws_szStringS_l0 (k : Nat) : Nat → (List (List UInt8)) → Int → Int → (Int → Option Int) → Option Int
  | 0, _, _, _, _ => none
  | n + 1, a0, left1, i5, e_0 => (if (decide (i5 < (List.length a0 : Int))) = true then (if 0 ≤ i5 then (a0[i5.toNat]?).bind fun y_1 => (if (decide ((w_i64 (left1 - (List.length y_1 : Int))) < 0)) = true then some (-1) else laws_szStringS_l0 k n a0 (w_i64 (left1 - (List.length y_1 : Int))) (w_i64 (i5 + 1)) e_0) else none) else e_0 left1)
def laws_szStringS (k : Nat) (a0 : List (List UInt8)) (left1 : Int) : Option Int := (if (decide ((w_i64 (left1 - (List.length a0 : Int))) < 0)) = true then some (-1) else laws_szStringS_l0 k k a0 (w_i64 (left1 - (List.length a0 : Int))) 0 (fun left_2 => some left_2))
def laws_szStringS_l0_h : Head := ⟨[(0, (.val (.sl 9 .str))), (1, (.val (.int .i64))), (5, (.val (.int .i64)))], [], []⟩
def laws_szStringS_l0_x0 : Head := ⟨[(1, (.val (.int .i64)))], [], []⟩
def laws_szStringS_l0_F (k n : Nat) (x : laws_szStringS_l0_h.T) (kx : Nat → St → Option Int) : Option Int := laws_szStringS_l0 k n x.1.1 x.1.2.1 x.1.2.2.1 (fun (left1 : Int) => kx 0 (laws_szStringS_l0_x0.fill ((left1, ()), (), ())))
def laws_szStringS_O (k : Nat) : Oracles Int := ⟨fun n => bif Nat.beq n 5 then some (fun σ kx => laws_szStringS_l0_h.get σ fun x => laws_szStringS_l0_F k k x kx) else none, fun _ => none⟩
def fe_laws_szStringS (k : Nat) : FE := ⟨(.pr (.sl 9 .str) (.int .i64)), 1, (.int .i64), fun x => laws_szStringS k x.1 x.2⟩
theorem laws_szStringS_l0_ok (k : Nat) : LoopOK (mkEnv ti [] (lk []) pins0 pinB0) (laws_szStringS_O k) (rdC (mkEnv ti [] (lk []) pins0 pinB0) [.tmp 4] (.int .i64)) ((loopsOf (codeOf Try.f28)).getD 0 .skip) (fun σ kx => laws_szStringS_l0_h.get σ fun x => laws_szStringS_l0_F k k x kx) := by
  refine ⟨laws_szStringS_l0_h, [(0, laws_szStringS_l0_x0)], fun n x kx => laws_szStringS_l0_F k n x kx, k, by kernel_rfl, by kernel_rfl, fun x kx => by kernel_rfl, ?_, fun σ kx => rfl⟩
  rintro n ⟨⟨a0, left1, i5, ⟨⟩⟩, ⟨⟩, ⟨⟩⟩ kx
  kernel_rfl
theorem ok_laws_szStringS (k : Nat) : FnOK Try.prog 28 (fe_laws_szStringS k) := by
  refine closed_ok (tab := []) (l := []) ti_ok ti_ht mix (List.forall_mem_nil _) (List.forall_mem_nil _) ⟨⟨Try.f28, (codeOf Try.f28), [.tmp 4], (laws_szStringS_O k), by kernel_rfl, by kernel_rfl, by kernel_rfl, by kernel_rfl, rfl, by decide, ⟨by kernel_rfl, ?_, ?_⟩, ?_⟩⟩
  · refine loops_of (n := 1) (by kernel_rfl) fun i hi => ?_
    match i, hi with
    | 0, _ => exact loop_of (by kernel_rfl) (laws_szStringS_l0_ok k)
    | n + 1, hi => omega
  · exact no_cuts (by kernel_rfl)
  · rintro ⟨a0, left1⟩
    kernel_rfl
/- 30 loop.example/g01005/laws.toStringS -/
def laws_toStringS_l0 (k : Nat) : Nat → (List (List UInt8)) → Int → (List (List UInt8)) → ((List (List UInt8)) → Option (List (List UInt8))) → Option (List (List UInt8))
  | 0, _, _, _, _ => none
  | n + 1, a0, i4, q_1, e_0 => (if (decide (i4 < (List.length a0 : Int))) = true then (if 0 ≤ i4 then (a0[i4.toNat]?).bind fun y_2 => (if 0 ≤ i4 ∧ i4.toNat < List.length q_1 then (q_1[i4.toNat]?).bind fun y_3 => (q_1[i4.toNat]?).bind fun y_4 => laws_toStringS_l0 k n a0 (w_i64 (i4 + 1)) (q_1.set i4.toNat y_2) e_0 else none) else none) else e_0 q_1)
def laws_toStringS (k : Nat) (a0 : List (List UInt8)) : Option (List (List UInt8)) := (if 0 ≤ (List.length a0 : Int) ∧ (List.length a0 : Int) ≤ (List.length a0 : Int) ∧ (List.length a0 : Int) * 16 ≤ LIM then laws_toStringS_l0 k k a0 0 (List.replicate (List.length a0) []) (fun q_5 => some q_5) else none)
def laws_toStringS_l0_h : Head := ⟨[(0, (.val (.sl 9 .str))), (3, (.ref 64000000 [])), (4, (.val (.int .i64)))], [(64000000, 9, .str, false)], []⟩
def laws_toStringS_l0_x0 : Head := ⟨[(3, (.ref 64000000 []))], [(64000000, 9, .str, false)], []⟩
def laws_toStringS_l0_F (k n : Nat) (x : laws_toStringS_l0_h.T) (kx : Nat → St → Option (List (List UInt8))) : Option (List (List UInt8)) := laws_toStringS_l0 k n x.1.1 x.1.2.2.1 x.2.1.1 (fun (q_5 : List (List UInt8)) => kx 0 (laws_toStringS_l0_x0.fill (((), ()), (q_5, ()), ())))
def laws_toStringS_O (k : Nat) : Oracles (List (List UInt8)) := ⟨fun n => bif Nat.beq n 3 then some (fun σ kx => laws_toStringS_l0_h.get σ fun x => laws_toStringS_l0_F k k x kx) else none, fun _ => none⟩
def fe_laws_toStringS (k : Nat) : FE := ⟨(.sl 9 .str), 1, (.sl 9 .str), fun x => laws_toStringS k x⟩
theorem laws_toStringS_l0_ok (k : Nat) : LoopOK (mkEnv ti [] (lk []) pins0 pinB0) (laws_toStringS_O k) (rdC (mkEnv ti [] (lk []) pins0 pinB0) [.tmp 2] (.sl 9 .str)) ((loopsOf (codeOf Try.f30)).getD 0 .skip) (fun σ kx => laws_toStringS_l0_h.get σ fun x => laws_toStringS_l0_F k k x kx) := by
  refine ⟨laws_toStringS_l0_h, [(0, laws_toStringS_l0_x0)], fun n x kx => laws_toStringS_l0_F k n x kx, k, by kernel_rfl, by kernel_rfl, fun x kx => by kernel_rfl, ?_, fun σ kx => rfl⟩
  rintro n ⟨⟨a0, ⟨⟩, i4, ⟨⟩⟩, ⟨q_1, ⟨⟩⟩, ⟨⟩⟩ kx
  kernel_rfl
theorem ok_laws_toStringS (k : Nat) : FnOK Try.prog 30 (fe_laws_toStringS k) := by
  refine closed_ok (tab := []) (l := []) ti_ok ti_ht mix (List.forall_mem_nil _) (List.forall_mem_nil _) ⟨⟨Try.f30, (codeOf Try.f30), [.tmp 2], (laws_toStringS_O k), by kernel_rfl, by kernel_rfl, by kernel_rfl, by kernel_rfl, rfl, by decide, ⟨by kernel_rfl, ?_, ?_⟩, ?_⟩⟩
  · refine loops_of (n := 1) (by kernel_rfl) fun i hi => ?_
    match i, hi with
    | 0, _ => exact loop_of (by kernel_rfl) (laws_toStringS_l0_ok k)
    | n + 1, hi => omega
  · exact no_cuts (by kernel_rfl)
  · rintro a0
    kernel_rfl
/- 77 loop.example/g01005/spec.l30Ok -/
def spec_l30Ok_l1 (k : Nat) : Nat → (List (List UInt8)) → Int → Int → ((List (List UInt8)) → Int → Option Bool) → Option Bool
  | 0, _, _, _, _ => none
  | n + 1, lines0, i3, k4, e_2 => (if 0 ≤ i3 then (lines0[i3.toNat]?).bind fun y_4 => (if (decide (k4 < (List.length y_4 : Int))) = true then (if 0 ≤ i3 then (lines0[i3.toNat]?).bind fun y_5 => (if 0 ≤ k4 then (y_5[k4.toNat]?).bind fun b_6 => (if (decide ((z_u8 b_6) < 32)) = true then some false else (if 0 ≤ i3 then (lines0[i3.toNat]?).bind fun y_7 => (if 0 ≤ k4 then (y_7[k4.toNat]?).bind fun b_8 => (if (decide (126 < (z_u8 b_8))) = true then some false else spec_l30Ok_l1 k n lines0 i3 (w_i64 (k4 + 1)) e_2) else none) else none)) else none) else none) else e_2 lines0 i3) else none)
def spec_l30Ok_l0 (k : Nat) : Nat → (List (List UInt8)) → Int → ((List (List UInt8)) → Option Bool) → Option Bool
  | 0, _, _, _ => none
  | n + 1, lines0, i3, e_0 => (if (decide (i3 < (List.length lines0 : Int))) = true then (if 0 ≤ i3 then (lines0[i3.toNat]?).bind fun y_1 => (lines0[0]?).bind fun y_2 => (if (!(decide ((List.length y_1 : Int) = (List.length y_2 : Int)))) = true then some false else (if 0 ≤ i3 then (lines0[i3.toNat]?).bind fun y_3 => (if (decide (80 < (List.length y_3 : Int))) = true then some false else spec_l30Ok_l1 k k lines0 i3 0 (fun lines_4 i_5 => spec_l30Ok_l0 k n lines_4 (w_i64 (i_5 + 1)) e_0)) else none)) else none) else e_0 lines0)
def spec_l30Ok (k : Nat) (lines0 : List (List UInt8)) : Option Bool := spec_l30Ok_l0 k k lines0 0 (fun lines_6 => some (decide ((List.length lines_6 : Int) ≤ 60)))
def spec_l30Ok_l1_h : Head := ⟨[(0, (.val (.sl 9 .str))), (3, (.val (.int .i64))), (4, (.val (.int .i64)))], [], []⟩
def spec_l30Ok_l1_x2 : Head := ⟨[(0, (.val (.sl 9 .str))), (3, (.val (.int .i64)))], [], []⟩
def spec_l30Ok_l1_F (k n : Nat) (x : spec_l30Ok_l1_h.T) (kx : Nat → St → Option Bool) : Option Bool := spec_l30Ok_l1 k n x.1.1 x.1.2.1 x.1.2.2.1 (fun (lines0 : List (List UInt8)) (i3 : Int) => kx 2 (spec_l30Ok_l1_x2.fill ((lines0, i3, ()), (), ())))
def spec_l30Ok_l0_h : Head := ⟨[(0, (.val (.sl 9 .str))), (3, (.val (.int .i64)))], [], []⟩
def spec_l30Ok_l0_x0 : Head := ⟨[(0, (.val (.sl 9 .str)))], [], []⟩
def spec_l30Ok_l0_F (k n : Nat) (x : spec_l30Ok_l0_h.T) (kx : Nat → St → Option Bool) : Option Bool := spec_l30Ok_l0 k n x.1.1 x.1.2.1 (fun (lines0 : List (List UInt8)) => kx 0 (spec_l30Ok_l0_x0.fill ((lines0, ()), (), ())))
def spec_l30Ok_O (k : Nat) : Oracles Bool := ⟨fun n => bif Nat.beq n 7 then some (fun σ kx => spec_l30Ok_l1_h.get σ fun x => spec_l30Ok_l1_F k k x kx) else bif Nat.beq n 2 then some (fun σ kx => spec_l30Ok_l0_h.get σ fun x => spec_l30Ok_l0_F k k x kx) else none, fun _ => none⟩
def fe_spec_l30Ok (k : Nat) : FE := ⟨(.sl 9 .str), 1, .bool, fun x => spec_l30Ok k x⟩
theorem spec_l30Ok_l1_ok (k : Nat) : LoopOK (mkEnv ti [] (lk []) pins0 pinB0) (spec_l30Ok_O k) (rdC (mkEnv ti [] (lk []) pins0 pinB0) [.tmp 2] .bool) ((loopsOf (codeOf Try.f77)).getD 1 .skip) (fun σ kx => spec_l30Ok_l1_h.get σ fun x => spec_l30Ok_l1_F k k x kx) := by
  refine ⟨spec_l30Ok_l1_h, [(2, spec_l30Ok_l1_x2)], fun n x kx => spec_l30Ok_l1_F k n x kx, k, by kernel_rfl, by kernel_rfl, fun x kx => by kernel_rfl, ?_, fun σ kx => rfl⟩
  rintro n ⟨⟨lines0, i3, k4, ⟨⟩⟩, ⟨⟩, ⟨⟩⟩ kx
  kernel_rfl
theorem spec_l30Ok_l0_ok (k : Nat) : LoopOK (mkEnv ti [] (lk []) pins0 pinB0) (spec_l30Ok_O k) (rdC (mkEnv ti [] (lk []) pins0 pinB0) [.tmp 2] .bool) ((loopsOf (codeOf Try.f77)).getD 0 .skip) (fun σ kx => spec_l30Ok_l0_h.get σ fun x => spec_l30Ok_l0_F k k x kx) := by
  refine ⟨spec_l30Ok_l0_h, [(0, spec_l30Ok_l0_x0)], fun n x kx => spec_l30Ok_l0_F k n x kx, k, by kernel_rfl, by kernel_rfl, fun x kx => by kernel_rfl, ?_, fun σ kx => rfl⟩
  rintro n ⟨⟨lines0, i3, ⟨⟩⟩, ⟨⟩, ⟨⟩⟩ kx
  kernel_rfl
theorem ok_spec_l30Ok (k : Nat) : FnOK Try.prog 77 (fe_spec_l30Ok k) := by
  refine closed_ok (tab := []) (l := []) ti_ok ti_ht mix (List.forall_mem_nil _) (List.forall_mem_nil _) ⟨⟨Try.f77, (codeOf Try.f77), [.tmp 2], (spec_l30Ok_O k), by kernel_rfl, by kernel_rfl, by kernel_rfl, by kernel_rfl, rfl, by decide, ⟨by kernel_rfl, ?_, ?_⟩, ?_⟩⟩
  · refine loops_of (n := 2) (by kernel_rfl) fun i hi => ?_
    match i, hi with
    | 0, _ => exact loop_of (by kernel_rfl) (spec_l30Ok_l0_ok k)
    | 1, _ => exact loop_of (by kernel_rfl) (spec_l30Ok_l1_ok k)
    | n + 2, hi => omega
  · exact no_cuts (by kernel_rfl)
  · rintro lines0
    kernel_rfl
end
end Go.Proofs.Ytkopnopjbaejjaa.Ev
