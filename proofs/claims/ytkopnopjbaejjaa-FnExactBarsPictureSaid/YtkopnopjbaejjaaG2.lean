/- Functions of the program, as plain ones. No conditions. -/
import Derived.Test.YtkopnopjbaejjaaG1
import Derived.KernelRfl
set_option linter.unusedVariables false
set_option maxRecDepth 100000
namespace Go.Proofs.Ytkopnopjbaejjaa.Ev
open Go.RowKit
/- 27 loop.example/g01005/laws.eqBlockS -/
def laws_eqBlockS_l0 (k : Nat) : Nat → (List (List UInt8 × List UInt8 × List UInt8)) → (List (List UInt8 × List UInt8 × List UInt8)) → Int → (Option Bool) → Option Bool
  | 0, _, _, _, _ => none
  | n + 1, a0, b1, i5, e_0 => (if (decide (i5 < (List.length a0 : Int))) = true then (if 0 ≤ i5 then (a0[i5.toNat]?).bind fun y_1 => (if 0 ≤ i5 then (b1[i5.toNat]?).bind fun y_2 => (laws_eqBlock y_1 y_2).bind fun r_3 => (if (!r_3) = true then some false else laws_eqBlockS_l0 k n a0 b1 (w_i64 (i5 + 1)) e_0) else none) else none) else e_0)
def laws_eqBlockS (k : Nat) (a0 : List (List UInt8 × List UInt8 × List UInt8)) (b1 : List (List UInt8 × List UInt8 × List UInt8)) : Option Bool := (if (!(decide ((List.length a0 : Int) = (List.length b1 : Int)))) = true then some false else laws_eqBlockS_l0 k k a0 b1 0 (some true))
def laws_eqBlockS_l0_h : Head := ⟨[(0, (.val (.sl 69 (.st (.pr .str (.pr .str .str)))))), (1, (.val (.sl 69 (.st (.pr .str (.pr .str .str)))))), (5, (.val (.int .i64)))], [], []⟩
def laws_eqBlockS_l0_x0 : Head := ⟨[], [], []⟩
def laws_eqBlockS_l0_F (k n : Nat) (x : laws_eqBlockS_l0_h.T) (kx : Nat → St → Option Bool) : Option Bool := laws_eqBlockS_l0 k n x.1.1 x.1.2.1 x.1.2.2.1 (kx 0 (laws_eqBlockS_l0_x0.fill ((), (), ())))
def laws_eqBlockS_O (k : Nat) : Oracles Bool := ⟨fun n => bif Nat.beq n 4 then some (fun σ kx => laws_eqBlockS_l0_h.get σ fun x => laws_eqBlockS_l0_F k k x kx) else none, fun _ => none⟩
def fe_laws_eqBlockS (k : Nat) : FE := ⟨(.pr (.sl 69 (.st (.pr .str (.pr .str .str)))) (.sl 69 (.st (.pr .str (.pr .str .str))))), 1, .bool, fun x => laws_eqBlockS k x.1 x.2⟩
theorem laws_eqBlockS_l0_ok (k : Nat) : LoopOK (mkEnv ti [(76, fe_laws_eqBlock)] (lk []) pins0 pinB0) (laws_eqBlockS_O k) (rdC (mkEnv ti [(76, fe_laws_eqBlock)] (lk []) pins0 pinB0) [.tmp 4] .bool) ((loopsOf (codeOf Try.f27)).getD 0 .skip) (fun σ kx => laws_eqBlockS_l0_h.get σ fun x => laws_eqBlockS_l0_F k k x kx) := by
  refine ⟨laws_eqBlockS_l0_h, [(0, laws_eqBlockS_l0_x0)], fun n x kx => laws_eqBlockS_l0_F k n x kx, k, by kernel_rfl, by kernel_rfl, fun x kx => by kernel_rfl, ?_, fun σ kx => rfl⟩
  rintro n ⟨⟨a0, b1, i5, ⟨⟩⟩, ⟨⟩, ⟨⟩⟩ kx
  kernel_rfl
theorem ok_laws_eqBlockS (k : Nat) : FnOK Try.prog 27 (fe_laws_eqBlockS k) := by
  refine closed_ok (tab := [(76, fe_laws_eqBlock)]) (l := []) ti_ok ti_ht mix (List.forall_mem_cons.2 ⟨ok_laws_eqBlock, (List.forall_mem_nil _)⟩) (List.forall_mem_nil _) ⟨⟨Try.f27, (codeOf Try.f27), [.tmp 4], (laws_eqBlockS_O k), by kernel_rfl, by kernel_rfl, by kernel_rfl, by kernel_rfl, rfl, by decide, ⟨by kernel_rfl, ?_, ?_⟩, ?_⟩⟩
  · refine loops_of (n := 1) (by kernel_rfl) fun i hi => ?_
    match i, hi with
    | 0, _ => exact loop_of (by kernel_rfl) (laws_eqBlockS_l0_ok k)
    | n + 1, hi => omega
  · exact no_cuts (by kernel_rfl)
  · rintro ⟨a0, b1⟩
    kernel_rfl
/- 4 loop.example/g01005/laws.FnExactValidBlocks -/
def laws_FnExactValidBlocks (k : Nat) (aList0 : List (List UInt8 × List UInt8 × List UInt8)) : Option Bool := (laws_szBlockS k aList0 1048576).bind fun r_1 => (if (decide (r_1 < 0)) = true then some true else (laws_toBlockS k aList0).bind fun r_2 => (spec_ValidBlocks k r_2).bind fun r_3 => (laws_toBlockS k aList0).bind fun r_4 => (impl_ValidBlocks k r_4).bind fun r_5 => (if (!(r_5 == r_3)) = true then some false else (laws_toBlockS k aList0).bind fun r_6 => (laws_eqBlockS k r_4 r_6).bind fun r_7 => (if (!r_7) = true then some false else some true)))
def fe_laws_FnExactValidBlocks (k : Nat) : FE := ⟨(.sl 66 (.st (.pr .str (.pr .str .str)))), 1, .bool, fun x => laws_FnExactValidBlocks k x⟩
theorem ok_laws_FnExactValidBlocks (k : Nat) : FnOK Try.prog 4 (fe_laws_FnExactValidBlocks k) := by
  refine closed_ok (tab := [(23, fe_laws_szBlockS k), (25, fe_laws_toBlockS k), (24, fe_spec_ValidBlocks k), (26, fe_impl_ValidBlocks k), (27, fe_laws_eqBlockS k)]) (l := []) ti_ok ti_ht mix (List.forall_mem_cons.2 ⟨ok_laws_szBlockS k, (List.forall_mem_cons.2 ⟨ok_laws_toBlockS k, (List.forall_mem_cons.2 ⟨ok_spec_ValidBlocks k, (List.forall_mem_cons.2 ⟨ok_impl_ValidBlocks k, (List.forall_mem_cons.2 ⟨ok_laws_eqBlockS k, (List.forall_mem_nil _)⟩)⟩)⟩)⟩)⟩) (List.forall_mem_nil _) ⟨⟨Try.f4, (codeOf Try.f4), [.tmp 2], (LOn Bool), by kernel_rfl, by kernel_rfl, by kernel_rfl, by kernel_rfl, rfl, by decide, ⟨by kernel_rfl, ?_, ?_⟩, ?_⟩⟩
  · exact no_loops (by kernel_rfl)
  · exact no_cuts (by kernel_rfl)
  · rintro aList0
    kernel_rfl
/- 84 loop.example/g01005/spec.l29Find -/
def spec_l29Find_l0 (k : Nat) : Nat → (List (List UInt8 × List UInt8 × List UInt8)) → (List UInt8) → (List UInt8) → Int → (Option Int) → Option Int
  | 0, _, _, _, _, _ => none
  | n + 1, list0, kind1, name2, i7, e_0 => (if (decide (i7 < (List.length list0 : Int))) = true then (if 0 ≤ i7 then (list0[i7.toNat]?).bind fun y_1 => (if (decide (y_1.1 = kind1)) = true then (if 0 ≤ i7 then (list0[i7.toNat]?).bind fun y_2 => (if (decide (y_2.2.1 = name2)) = true then some i7 else spec_l29Find_l0 k n list0 kind1 name2 (w_i64 (i7 + 1)) e_0) else none) else spec_l29Find_l0 k n list0 kind1 name2 (w_i64 (i7 + 1)) e_0) else none) else e_0)
def spec_l29Find (k : Nat) (list0 : List (List UInt8 × List UInt8 × List UInt8)) (kind1 : List UInt8) (name2 : List UInt8) : Option Int := spec_l29Find_l0 k k list0 kind1 name2 0 (some (-1))
def spec_l29Find_l0_h : Head := ⟨[(0, (.val (.sl 69 (.st (.pr .str (.pr .str .str)))))), (1, (.val .str)), (2, (.val .str)), (7, (.val (.int .i64)))], [], []⟩
def spec_l29Find_l0_x0 : Head := ⟨[], [], []⟩
def spec_l29Find_l0_F (k n : Nat) (x : spec_l29Find_l0_h.T) (kx : Nat → St → Option Int) : Option Int := spec_l29Find_l0 k n x.1.1 x.1.2.1 x.1.2.2.1 x.1.2.2.2.1 (kx 0 (spec_l29Find_l0_x0.fill ((), (), ())))
def spec_l29Find_O (k : Nat) : Oracles Int := ⟨fun n => bif Nat.beq n 2 then some (fun σ kx => spec_l29Find_l0_h.get σ fun x => spec_l29Find_l0_F k k x kx) else none, fun _ => none⟩
def fe_spec_l29Find (k : Nat) : FE := ⟨(.pr (.sl 69 (.st (.pr .str (.pr .str .str)))) (.pr .str .str)), 1, (.int .i64), fun x => spec_l29Find k x.1 x.2.1 x.2.2⟩
theorem spec_l29Find_l0_ok (k : Nat) : LoopOK (mkEnv ti [] (lk []) pins0 pinB0) (spec_l29Find_O k) (rdC (mkEnv ti [] (lk []) pins0 pinB0) [.tmp 6] (.int .i64)) ((loopsOf (codeOf Try.f84)).getD 0 .skip) (fun σ kx => spec_l29Find_l0_h.get σ fun x => spec_l29Find_l0_F k k x kx) := by
  refine ⟨spec_l29Find_l0_h, [(0, spec_l29Find_l0_x0)], fun n x kx => spec_l29Find_l0_F k n x kx, k, by kernel_rfl, by kernel_rfl, fun x kx => by kernel_rfl, ?_, fun σ kx => rfl⟩
  rintro n ⟨⟨list0, kind1, name2, i7, ⟨⟩⟩, ⟨⟩, ⟨⟩⟩ kx
  kernel_rfl
theorem ok_spec_l29Find (k : Nat) : FnOK Try.prog 84 (fe_spec_l29Find k) := by
  refine closed_ok (tab := []) (l := []) ti_ok ti_ht mix (List.forall_mem_nil _) (List.forall_mem_nil _) ⟨⟨Try.f84, (codeOf Try.f84), [.tmp 6], (spec_l29Find_O k), by kernel_rfl, by kernel_rfl, by kernel_rfl, by kernel_rfl, rfl, by decide, ⟨by kernel_rfl, ?_, ?_⟩, ?_⟩⟩
  · refine loops_of (n := 1) (by kernel_rfl) fun i hi => ?_
    match i, hi with
    | 0, _ => exact loop_of (by kernel_rfl) (spec_l29Find_l0_ok k)
    | n + 1, hi => omega
  · exact no_cuts (by kernel_rfl)
  · rintro ⟨list0, kind1, name2⟩
    kernel_rfl
/- 35 loop.example/g01005/spec.BlockNamed -/
def spec_BlockNamed (k : Nat) (list0 : List (List UInt8 × List UInt8 × List UInt8)) (kind1 : List UInt8) (name2 : List UInt8) : Option (List UInt8 × Int) := (spec_l29Ok k list0).bind fun r_1 => (if (!r_1) = true then some ([], 1) else (spec_l29Find k list0 kind1 name2).bind fun r_2 => (if (decide (r_2 < 0)) = true then some ([], 3) else (if 0 ≤ r_2 then (list0[r_2.toNat]?).bind fun y_3 => some (y_3.2.2, 0) else none)))
def fe_spec_BlockNamed (k : Nat) : FE := ⟨(.pr (.sl 69 (.st (.pr .str (.pr .str .str)))) (.pr .str .str)), 2, (.pr .str (.int .i64)), fun x => spec_BlockNamed k x.1 x.2.1 x.2.2⟩
theorem ok_spec_BlockNamed (k : Nat) : FnOK Try.prog 35 (fe_spec_BlockNamed k) := by
  refine closed_ok (tab := [(73, fe_spec_l29Ok k), (84, fe_spec_l29Find k)]) (l := []) ti_ok ti_ht mix (List.forall_mem_cons.2 ⟨ok_spec_l29Ok k, (List.forall_mem_cons.2 ⟨ok_spec_l29Find k, (List.forall_mem_nil _)⟩)⟩) (List.forall_mem_nil _) ⟨⟨Try.f35, (codeOf Try.f35), [.tmp 6, .tmp 7], (LOn (List UInt8 × Int)), by kernel_rfl, by kernel_rfl, by kernel_rfl, by kernel_rfl, rfl, by decide, ⟨by kernel_rfl, ?_, ?_⟩, ?_⟩⟩
  · exact no_loops (by kernel_rfl)
  · exact no_cuts (by kernel_rfl)
  · rintro ⟨list0, kind1, name2⟩
    kernel_rfl
/- 122 slices.BinarySearchFunc[[]loop.example/g01005/impl.Block,loop.example/g01005/impl.Block,loop.example/g01005/impl.Block] -/
def slices_BinarySearchFunc_impl_Block__impl_compareBlocks_l0 (k : Nat) : Nat → (List (List UInt8 × List UInt8 × List UInt8)) → Unit → Int → Int → Int → (List UInt8 × List UInt8 × List UInt8) → ((List (List UInt8 × List UInt8 × List UInt8)) → Unit → Int → Int → (List UInt8 × List UInt8 × List UInt8) → Option (Int × Bool)) → Option (Int × Bool)
  | 0, _, _, _, _, _, _, _ => none
  | n + 1, x0, cmp2, n8, i9, j10, v_4, e_0 => (if (decide (i9 < j10)) = true then (if 0 ≤ (w_i64 ((Int.fdiv (w_u64 ((w_i64 (i9 + j10)))) (2 ^ 1)))) then (x0[(w_i64 ((Int.fdiv (w_u64 ((w_i64 (i9 + j10)))) (2 ^ 1)))).toNat]?).bind fun y_1 => (impl_compareBlocks k y_1 v_4).bind fun r_2 => (if (decide (r_2 < 0)) = true then slices_BinarySearchFunc_impl_Block__impl_compareBlocks_l0 k n x0 cmp2 n8 (w_i64 ((w_i64 ((Int.fdiv (w_u64 ((w_i64 (i9 + j10)))) (2 ^ 1)))) + 1)) j10 v_4 e_0 else slices_BinarySearchFunc_impl_Block__impl_compareBlocks_l0 k n x0 cmp2 n8 i9 (w_i64 ((Int.fdiv (w_u64 ((w_i64 (i9 + j10)))) (2 ^ 1)))) v_4 e_0) else none) else e_0 x0 cmp2 n8 i9 v_4)
def slices_BinarySearchFunc_impl_Block__impl_compareBlocks (k : Nat) (x0 : List (List UInt8 × List UInt8 × List UInt8)) (target1 : List UInt8 × List UInt8 × List UInt8) (cmp2 : Unit) : Option (Int × Bool) := slices_BinarySearchFunc_impl_Block__impl_compareBlocks_l0 k k x0 cmp2 (List.length x0 : Int) 0 (List.length x0 : Int) target1 (fun x_3 cmp_4 n_5 i_6 v_7 => (if (decide (i_6 < n_5)) = true then (if 0 ≤ i_6 then (x_3[i_6.toNat]?).bind fun y_8 => (impl_compareBlocks k y_8 v_7).bind fun r_9 => some (i_6, (decide (r_9 = 0))) else none) else some (i_6, false)))
def slices_BinarySearchFunc_impl_Block__impl_compareBlocks_l0_h : Head := ⟨[(0, (.val (.sl 69 (.st (.pr .str (.pr .str .str)))))), (2, (.val (.fn 75 .un))), (4, (.bp 4 [] 0)), (8, (.val (.int .i64))), (9, (.val (.int .i64))), (10, (.val (.int .i64)))], [], [(4, 69, (.val (.st (.pr .str (.pr .str .str)))))]⟩
def slices_BinarySearchFunc_impl_Block__impl_compareBlocks_l0_x0 : Head := ⟨[(0, (.val (.sl 69 (.st (.pr .str (.pr .str .str)))))), (2, (.val (.fn 75 .un))), (4, (.bp 4 [] 0)), (8, (.val (.int .i64))), (9, (.val (.int .i64)))], [], [(4, 69, (.val (.st (.pr .str (.pr .str .str)))))]⟩
def slices_BinarySearchFunc_impl_Block__impl_compareBlocks_l0_F (k n : Nat) (x : slices_BinarySearchFunc_impl_Block__impl_compareBlocks_l0_h.T) (kx : Nat → St → Option (Int × Bool)) : Option (Int × Bool) := slices_BinarySearchFunc_impl_Block__impl_compareBlocks_l0 k n x.1.1 x.1.2.1 x.1.2.2.2.1 x.1.2.2.2.2.1 x.1.2.2.2.2.2.1 x.2.2.1 (fun (x0 : List (List UInt8 × List UInt8 × List UInt8)) (cmp2 : Unit) (n8 : Int) (i9 : Int) (v_4 : List UInt8 × List UInt8 × List UInt8) => kx 0 (slices_BinarySearchFunc_impl_Block__impl_compareBlocks_l0_x0.fill ((x0, cmp2, (), n8, i9, ()), (), (v_4, ()))))
def slices_BinarySearchFunc_impl_Block__impl_compareBlocks_O (k : Nat) : Oracles (Int × Bool) := ⟨fun n => bif Nat.beq n 3 then some (fun σ kx => slices_BinarySearchFunc_impl_Block__impl_compareBlocks_l0_h.get σ fun x => slices_BinarySearchFunc_impl_Block__impl_compareBlocks_l0_F k k x kx) else none, fun _ => none⟩
def fe_slices_BinarySearchFunc_impl_Block__impl_compareBlocks (k : Nat) : FE := ⟨(.pr (.sl 69 (.st (.pr .str (.pr .str .str)))) (.pr (.st (.pr .str (.pr .str .str))) (.fn 75 .un))), 2, (.pr (.int .i64) .bool), fun x => slices_BinarySearchFunc_impl_Block__impl_compareBlocks k x.1 x.2.1 x.2.2⟩
theorem slices_BinarySearchFunc_impl_Block__impl_compareBlocks_l0_ok (k : Nat) : LoopOK (mkEnv ti [(75, fe_impl_compareBlocks k)] (lk []) pins0 pinB0) (slices_BinarySearchFunc_impl_Block__impl_compareBlocks_O k) (rdC (mkEnv ti [(75, fe_impl_compareBlocks k)] (lk []) pins0 pinB0) [.tmp 6, .tmp 7] (.pr (.int .i64) .bool)) ((loopsOf (codeOf Try.f122)).getD 0 .skip) (fun σ kx => slices_BinarySearchFunc_impl_Block__impl_compareBlocks_l0_h.get σ fun x => slices_BinarySearchFunc_impl_Block__impl_compareBlocks_l0_F k k x kx) := by
  refine ⟨slices_BinarySearchFunc_impl_Block__impl_compareBlocks_l0_h, [(0, slices_BinarySearchFunc_impl_Block__impl_compareBlocks_l0_x0)], fun n x kx => slices_BinarySearchFunc_impl_Block__impl_compareBlocks_l0_F k n x kx, k, by kernel_rfl, by kernel_rfl, fun x kx => by kernel_rfl, ?_, fun σ kx => rfl⟩
  rintro n ⟨⟨x0, cmp2, ⟨⟩, n8, i9, j10, ⟨⟩⟩, ⟨⟩, ⟨v_4, ⟨⟩⟩⟩ kx
  kernel_rfl
theorem ok_slices_BinarySearchFunc_impl_Block__impl_compareBlocks (k : Nat) : FnOK Try.prog 122 (fe_slices_BinarySearchFunc_impl_Block__impl_compareBlocks k) := by
  refine closed_ok (tab := [(75, fe_impl_compareBlocks k)]) (l := []) ti_ok ti_ht mix (List.forall_mem_cons.2 ⟨ok_impl_compareBlocks k, (List.forall_mem_nil _)⟩) (List.forall_mem_nil _) ⟨⟨Try.f122, (codeOf Try.f122), [.tmp 6, .tmp 7], (slices_BinarySearchFunc_impl_Block__impl_compareBlocks_O k), by kernel_rfl, by kernel_rfl, by kernel_rfl, by kernel_rfl, rfl, by decide, ⟨by kernel_rfl, ?_, ?_⟩, ?_⟩⟩
  · refine loops_of (n := 1) (by kernel_rfl) fun i hi => ?_
    match i, hi with
    | 0, _ => exact loop_of (by kernel_rfl) (slices_BinarySearchFunc_impl_Block__impl_compareBlocks_l0_ok k)
    | n + 1, hi => omega
  · exact no_cuts (by kernel_rfl)
  · rintro ⟨x0, target1, cmp2⟩
    kernel_rfl
/- 85 loop.example/g01005/impl.blockAt -/
def impl_blockAt (k : Nat) (list0 : List (List UInt8 × List UInt8 × List UInt8)) (b1 : List UInt8 × List UInt8 × List UInt8) : Option (Int × Bool) := (slices_BinarySearchFunc_impl_Block__impl_compareBlocks k list0 b1 ()).bind fun r_1 => some (r_1.1, r_1.2)
def fe_impl_blockAt (k : Nat) : FE := ⟨(.pr (.sl 69 (.st (.pr .str (.pr .str .str)))) (.st (.pr .str (.pr .str .str)))), 2, (.pr (.int .i64) .bool), fun x => impl_blockAt k x.1 x.2⟩
theorem ok_impl_blockAt (k : Nat) : FnOK Try.prog 85 (fe_impl_blockAt k) := by
  refine closed_ok (tab := [(122, fe_slices_BinarySearchFunc_impl_Block__impl_compareBlocks k)]) (l := []) ti_ok ti_ht mix (List.forall_mem_cons.2 ⟨ok_slices_BinarySearchFunc_impl_Block__impl_compareBlocks k, (List.forall_mem_nil _)⟩) (List.forall_mem_nil _) ⟨⟨Try.f85, (codeOf Try.f85), [.tmp 4, .tmp 5], (LOn (Int × Bool)), by kernel_rfl, by kernel_rfl, by kernel_rfl, by kernel_rfl, rfl, by decide, ⟨by kernel_rfl, ?_, ?_⟩, ?_⟩⟩
  · exact no_loops (by kernel_rfl)
  · exact no_cuts (by kernel_rfl)
  · rintro ⟨list0, b1⟩
    kernel_rfl
/- 36 loop.example/g01005/impl.BlockNamed -/
def impl_BlockNamed (k : Nat) (list0 : List (List UInt8 × List UInt8 × List UInt8)) (kind1 : List UInt8) (name2 : List UInt8) : Option (List UInt8 × Int) := (impl_ValidBlocks k list0).bind fun r_1 => (if (!r_1) = true then some ([], 1) else (impl_blockAt k list0 (kind1, (name2, []))).bind fun r_2 => (if (!r_2.2) = true then some ([], 3) else (if 0 ≤ r_2.1 then (list0[r_2.1.toNat]?).bind fun y_3 => some (y_3.2.2, 0) else none)))
def fe_impl_BlockNamed (k : Nat) : FE := ⟨(.pr (.sl 69 (.st (.pr .str (.pr .str .str)))) (.pr .str .str)), 2, (.pr .str (.int .i64)), fun x => impl_BlockNamed k x.1 x.2.1 x.2.2⟩
theorem ok_impl_BlockNamed (k : Nat) : FnOK Try.prog 36 (fe_impl_BlockNamed k) := by
  refine closed_ok (tab := [(26, fe_impl_ValidBlocks k), (85, fe_impl_blockAt k)]) (l := []) ti_ok ti_ht mix (List.forall_mem_cons.2 ⟨ok_impl_ValidBlocks k, (List.forall_mem_cons.2 ⟨ok_impl_blockAt k, (List.forall_mem_nil _)⟩)⟩) (List.forall_mem_nil _) ⟨⟨Try.f36, (codeOf Try.f36), [.tmp 6, .tmp 7], (LOn (List UInt8 × Int)), by kernel_rfl, by kernel_rfl, by kernel_rfl, by kernel_rfl, rfl, by decide, ⟨by kernel_rfl, ?_, ?_⟩, ?_⟩⟩
  · exact no_loops (by kernel_rfl)
  · exact no_cuts (by kernel_rfl)
  · rintro ⟨list0, kind1, name2⟩
    kernel_rfl
/- 6 loop.example/g01005/laws.FnExactBlockNamed -/
def laws_FnExactBlockNamed (k : Nat) (aList0 : List (List UInt8 × List UInt8 × List UInt8)) (aKind1 : List UInt8) (aName2 : List UInt8) : Option Bool := (if (decide (1048576 < (List.length aKind1 : Int))) = true then some true else (if (decide (1048576 < (List.length aName2 : Int))) = true then some true else (laws_szBlockS k aList0 1048576).bind fun r_1 => (if (decide (r_1 < 0)) = true then some true else (laws_toBlockS k aList0).bind fun r_2 => (spec_BlockNamed k r_2 aKind1 aName2).bind fun r_3 => (laws_toBlockS k aList0).bind fun r_4 => (impl_BlockNamed k r_4 aKind1 aName2).bind fun r_5 => (if (!(decide (r_5.1 = r_3.1))) = true then some false else (if (!(decide (r_5.2 = r_3.2))) = true then some false else (laws_toBlockS k aList0).bind fun r_6 => (laws_eqBlockS k r_4 r_6).bind fun r_7 => (if (!r_7) = true then some false else some true))))))
def fe_laws_FnExactBlockNamed (k : Nat) : FE := ⟨(.pr (.sl 66 (.st (.pr .str (.pr .str .str)))) (.pr .str .str)), 1, .bool, fun x => laws_FnExactBlockNamed k x.1 x.2.1 x.2.2⟩
theorem ok_laws_FnExactBlockNamed (k : Nat) : FnOK Try.prog 6 (fe_laws_FnExactBlockNamed k) := by
  refine closed_ok (tab := [(23, fe_laws_szBlockS k), (25, fe_laws_toBlockS k), (35, fe_spec_BlockNamed k), (36, fe_impl_BlockNamed k), (27, fe_laws_eqBlockS k)]) (l := []) ti_ok ti_ht mix (List.forall_mem_cons.2 ⟨ok_laws_szBlockS k, (List.forall_mem_cons.2 ⟨ok_laws_toBlockS k, (List.forall_mem_cons.2 ⟨ok_spec_BlockNamed k, (List.forall_mem_cons.2 ⟨ok_impl_BlockNamed k, (List.forall_mem_cons.2 ⟨ok_laws_eqBlockS k, (List.forall_mem_nil _)⟩)⟩)⟩)⟩)⟩) (List.forall_mem_nil _) ⟨⟨Try.f6, (codeOf Try.f6), [.tmp 6], (LOn Bool), by kernel_rfl, by kernel_rfl, by kernel_rfl, by kernel_rfl, rfl, by decide, ⟨by kernel_rfl, ?_, ?_⟩, ?_⟩⟩
  · exact no_loops (by kernel_rfl)
  · exact no_cuts (by kernel_rfl)
  · rintro ⟨aList0, aKind1, aName2⟩
    kernel_rfl
/- 39 loop.example/g01005/spec.BlocksOfKind -/
def spec_BlocksOfKind_l0 (k : Nat) : Nat → (List (List UInt8 × List UInt8 × List UInt8)) → (List UInt8) → Int → (List (List UInt8)) → ((List (List UInt8)) → Option (List (List UInt8) × Int)) → Option (List (List UInt8) × Int)
  | 0, _, _, _, _, _ => none
  | n + 1, list0, kind1, i7, q_2, e_0 => (if (decide (i7 < (List.length list0 : Int))) = true then (if 0 ≤ i7 then (list0[i7.toNat]?).bind fun y_3 => (if (decide (y_3.1 = kind1)) = true then (if 0 ≤ i7 then (list0[i7.toNat]?).bind fun y_4 => (if (q_2.length + [y_4.2.1].length) * 16 ≤ LIM then spec_BlocksOfKind_l0 k n list0 kind1 (w_i64 (i7 + 1)) (q_2 ++ [y_4.2.1]) e_0 else none) else none) else spec_BlocksOfKind_l0 k n list0 kind1 (w_i64 (i7 + 1)) q_2 e_0) else none) else e_0 q_2)
def spec_BlocksOfKind (k : Nat) (list0 : List (List UInt8 × List UInt8 × List UInt8)) (kind1 : List UInt8) : Option (List (List UInt8) × Int) := (spec_l29Ok k list0).bind fun r_1 => (if (!r_1) = true then some ([], 1) else spec_BlocksOfKind_l0 k k list0 kind1 0 [] (fun q_5 => some (q_5, 0)))
def spec_BlocksOfKind_l0_h : Head := ⟨[(0, (.val (.sl 69 (.st (.pr .str (.pr .str .str)))))), (1, (.val .str)), (6, (.ref 64000000 [])), (7, (.val (.int .i64)))], [(64000000, 9, .str, false)], []⟩
def spec_BlocksOfKind_l0_x0 : Head := ⟨[(6, (.ref 64000000 []))], [(64000000, 9, .str, false)], []⟩
def spec_BlocksOfKind_l0_F (k n : Nat) (x : spec_BlocksOfKind_l0_h.T) (kx : Nat → St → Option (List (List UInt8) × Int)) : Option (List (List UInt8) × Int) := spec_BlocksOfKind_l0 k n x.1.1 x.1.2.1 x.1.2.2.2.1 x.2.1.1 (fun (q_5 : List (List UInt8)) => kx 0 (spec_BlocksOfKind_l0_x0.fill (((), ()), (q_5, ()), ())))
def spec_BlocksOfKind_O (k : Nat) : Oracles (List (List UInt8) × Int) := ⟨fun n => bif Nat.beq n 5 then some (fun σ kx => spec_BlocksOfKind_l0_h.get σ fun x => spec_BlocksOfKind_l0_F k k x kx) else none, fun _ => none⟩
def fe_spec_BlocksOfKind (k : Nat) : FE := ⟨(.pr (.sl 69 (.st (.pr .str (.pr .str .str)))) .str), 2, (.pr (.sl 9 .str) (.int .i64)), fun x => spec_BlocksOfKind k x.1 x.2⟩
theorem spec_BlocksOfKind_l0_ok (k : Nat) : LoopOK (mkEnv ti [(73, fe_spec_l29Ok k)] (lk []) pins0 pinB0) (spec_BlocksOfKind_O k) (rdC (mkEnv ti [(73, fe_spec_l29Ok k)] (lk []) pins0 pinB0) [.tmp 4, .tmp 5] (.pr (.sl 9 .str) (.int .i64))) ((loopsOf (codeOf Try.f39)).getD 0 .skip) (fun σ kx => spec_BlocksOfKind_l0_h.get σ fun x => spec_BlocksOfKind_l0_F k k x kx) := by
  refine ⟨spec_BlocksOfKind_l0_h, [(0, spec_BlocksOfKind_l0_x0)], fun n x kx => spec_BlocksOfKind_l0_F k n x kx, k, by kernel_rfl, by kernel_rfl, fun x kx => by kernel_rfl, ?_, fun σ kx => rfl⟩
  rintro n ⟨⟨list0, kind1, ⟨⟩, i7, ⟨⟩⟩, ⟨q_2, ⟨⟩⟩, ⟨⟩⟩ kx
  kernel_rfl
theorem ok_spec_BlocksOfKind (k : Nat) : FnOK Try.prog 39 (fe_spec_BlocksOfKind k) := by
  refine closed_ok (tab := [(73, fe_spec_l29Ok k)]) (l := []) ti_ok ti_ht mix (List.forall_mem_cons.2 ⟨ok_spec_l29Ok k, (List.forall_mem_nil _)⟩) (List.forall_mem_nil _) ⟨⟨Try.f39, (codeOf Try.f39), [.tmp 4, .tmp 5], (spec_BlocksOfKind_O k), by kernel_rfl, by kernel_rfl, by kernel_rfl, by kernel_rfl, rfl, by decide, ⟨by kernel_rfl, ?_, ?_⟩, ?_⟩⟩
  · refine loops_of (n := 1) (by kernel_rfl) fun i hi => ?_
    match i, hi with
    | 0, _ => exact loop_of (by kernel_rfl) (spec_BlocksOfKind_l0_ok k)
    | n + 1, hi => omega
  · exact no_cuts (by kernel_rfl)
  · rintro ⟨list0, kind1⟩
    kernel_rfl
/- 40 loop.example/g01005/impl.BlocksOfKind -/
def impl_BlocksOfKind_l0 (k : Nat) : Nat → (List UInt8) → (List (List UInt8 × List UInt8 × List UInt8)) → Int → Int → (List (List UInt8)) → ((List (List UInt8)) → Option (List (List UInt8) × Int)) → Option (List (List UInt8) × Int)
  | 0, _, _, _, _, _, _ => none
  | n + 1, kind1, x12, x13, x14, q_2, e_0 => (if (decide (x14 < x13)) = true then (if 0 ≤ x14 then (x12[x14.toNat]?).bind fun y_3 => (if (decide (y_3.1 = kind1)) = true then (if (q_2.length + [y_3.2.1].length) * 16 ≤ LIM then impl_BlocksOfKind_l0 k n kind1 x12 x13 (w_i64 (x14 + 1)) (q_2 ++ [y_3.2.1]) e_0 else none) else impl_BlocksOfKind_l0 k n kind1 x12 x13 (w_i64 (x14 + 1)) q_2 e_0) else none) else e_0 q_2)
def impl_BlocksOfKind (k : Nat) (list0 : List (List UInt8 × List UInt8 × List UInt8)) (kind1 : List UInt8) : Option (List (List UInt8) × Int) := (impl_ValidBlocks k list0).bind fun r_1 => (if (!r_1) = true then some ([], 1) else impl_BlocksOfKind_l0 k k kind1 list0 (List.length list0 : Int) 0 [] (fun q_4 => some (q_4, 0)))
def impl_BlocksOfKind_l0_h : Head := ⟨[(1, (.val .str)), (6, (.ref 64000000 [])), (12, (.val (.sl 69 (.st (.pr .str (.pr .str .str)))))), (13, (.val (.int .i64))), (14, (.val (.int .i64)))], [(64000000, 9, .str, false)], []⟩
def impl_BlocksOfKind_l0_x0 : Head := ⟨[(6, (.ref 64000000 []))], [(64000000, 9, .str, false)], []⟩
def impl_BlocksOfKind_l0_F (k n : Nat) (x : impl_BlocksOfKind_l0_h.T) (kx : Nat → St → Option (List (List UInt8) × Int)) : Option (List (List UInt8) × Int) := impl_BlocksOfKind_l0 k n x.1.1 x.1.2.2.1 x.1.2.2.2.1 x.1.2.2.2.2.1 x.2.1.1 (fun (q_4 : List (List UInt8)) => kx 0 (impl_BlocksOfKind_l0_x0.fill (((), ()), (q_4, ()), ())))
def impl_BlocksOfKind_O (k : Nat) : Oracles (List (List UInt8) × Int) := ⟨fun n => bif Nat.beq n 5 then some (fun σ kx => impl_BlocksOfKind_l0_h.get σ fun x => impl_BlocksOfKind_l0_F k k x kx) else none, fun _ => none⟩
def fe_impl_BlocksOfKind (k : Nat) : FE := ⟨(.pr (.sl 69 (.st (.pr .str (.pr .str .str)))) .str), 2, (.pr (.sl 9 .str) (.int .i64)), fun x => impl_BlocksOfKind k x.1 x.2⟩
theorem impl_BlocksOfKind_l0_ok (k : Nat) : LoopOK (mkEnv ti [(26, fe_impl_ValidBlocks k)] (lk []) pins0 pinB0) (impl_BlocksOfKind_O k) (rdC (mkEnv ti [(26, fe_impl_ValidBlocks k)] (lk []) pins0 pinB0) [.tmp 4, .tmp 5] (.pr (.sl 9 .str) (.int .i64))) ((loopsOf (codeOf Try.f40)).getD 0 .skip) (fun σ kx => impl_BlocksOfKind_l0_h.get σ fun x => impl_BlocksOfKind_l0_F k k x kx) := by
  refine ⟨impl_BlocksOfKind_l0_h, [(0, impl_BlocksOfKind_l0_x0)], fun n x kx => impl_BlocksOfKind_l0_F k n x kx, k, by kernel_rfl, by kernel_rfl, fun x kx => by kernel_rfl, ?_, fun σ kx => rfl⟩
  rintro n ⟨⟨kind1, ⟨⟩, x12, x13, x14, ⟨⟩⟩, ⟨q_2, ⟨⟩⟩, ⟨⟩⟩ kx
  kernel_rfl
theorem ok_impl_BlocksOfKind (k : Nat) : FnOK Try.prog 40 (fe_impl_BlocksOfKind k) := by
  refine closed_ok (tab := [(26, fe_impl_ValidBlocks k)]) (l := []) ti_ok ti_ht mix (List.forall_mem_cons.2 ⟨ok_impl_ValidBlocks k, (List.forall_mem_nil _)⟩) (List.forall_mem_nil _) ⟨⟨Try.f40, (codeOf Try.f40), [.tmp 4, .tmp 5], (impl_BlocksOfKind_O k), by kernel_rfl, by kernel_rfl, by kernel_rfl, by kernel_rfl, rfl, by decide, ⟨by kernel_rfl, ?_, ?_⟩, ?_⟩⟩
  · refine loops_of (n := 1) (by kernel_rfl) fun i hi => ?_
    match i, hi with
    | 0, _ => exact loop_of (by kernel_rfl) (impl_BlocksOfKind_l0_ok k)
    | n + 1, hi => omega
  · exact no_cuts (by kernel_rfl)
  · rintro ⟨list0, kind1⟩
    kernel_rfl
/- 32 loop.example/g01005/laws.eqStringS -/
def laws_eqStringS_l0 (k : Nat) : Nat → (List (List UInt8)) → (List (List UInt8)) → Int → (Option Bool) → Option Bool
  | 0, _, _, _, _ => none
  | n + 1, a0, b1, i5, e_0 => (if (decide (i5 < (List.length a0 : Int))) = true then (if 0 ≤ i5 then (a0[i5.toNat]?).bind fun y_1 => (if 0 ≤ i5 then (b1[i5.toNat]?).bind fun y_2 => (if (!(decide (y_1 = y_2))) = true then some false else laws_eqStringS_l0 k n a0 b1 (w_i64 (i5 + 1)) e_0) else none) else none) else e_0)
def laws_eqStringS (k : Nat) (a0 : List (List UInt8)) (b1 : List (List UInt8)) : Option Bool := (if (!(decide ((List.length a0 : Int) = (List.length b1 : Int)))) = true then some false else laws_eqStringS_l0 k k a0 b1 0 (some true))
def laws_eqStringS_l0_h : Head := ⟨[(0, (.val (.sl 9 .str))), (1, (.val (.sl 9 .str))), (5, (.val (.int .i64)))], [], []⟩
def laws_eqStringS_l0_x0 : Head := ⟨[], [], []⟩
def laws_eqStringS_l0_F (k n : Nat) (x : laws_eqStringS_l0_h.T) (kx : Nat → St → Option Bool) : Option Bool := laws_eqStringS_l0 k n x.1.1 x.1.2.1 x.1.2.2.1 (kx 0 (laws_eqStringS_l0_x0.fill ((), (), ())))
def laws_eqStringS_O (k : Nat) : Oracles Bool := ⟨fun n => bif Nat.beq n 4 then some (fun σ kx => laws_eqStringS_l0_h.get σ fun x => laws_eqStringS_l0_F k k x kx) else none, fun _ => none⟩
def fe_laws_eqStringS (k : Nat) : FE := ⟨(.pr (.sl 9 .str) (.sl 9 .str)), 1, .bool, fun x => laws_eqStringS k x.1 x.2⟩
theorem laws_eqStringS_l0_ok (k : Nat) : LoopOK (mkEnv ti [] (lk []) pins0 pinB0) (laws_eqStringS_O k) (rdC (mkEnv ti [] (lk []) pins0 pinB0) [.tmp 4] .bool) ((loopsOf (codeOf Try.f32)).getD 0 .skip) (fun σ kx => laws_eqStringS_l0_h.get σ fun x => laws_eqStringS_l0_F k k x kx) := by
  refine ⟨laws_eqStringS_l0_h, [(0, laws_eqStringS_l0_x0)], fun n x kx => laws_eqStringS_l0_F k n x kx, k, by kernel_rfl, by kernel_rfl, fun x kx => by kernel_rfl, ?_, fun σ kx => rfl⟩
  rintro n ⟨⟨a0, b1, i5, ⟨⟩⟩, ⟨⟩, ⟨⟩⟩ kx
  kernel_rfl
theorem ok_laws_eqStringS (k : Nat) : FnOK Try.prog 32 (fe_laws_eqStringS k) := by
  refine closed_ok (tab := []) (l := []) ti_ok ti_ht mix (List.forall_mem_nil _) (List.forall_mem_nil _) ⟨⟨Try.f32, (codeOf Try.f32), [.tmp 4], (laws_eqStringS_O k), by kernel_rfl, by kernel_rfl, by kernel_rfl, by kernel_rfl, rfl, by decide, ⟨by kernel_rfl, ?_, ?_⟩, ?_⟩⟩
  · refine loops_of (n := 1) (by kernel_rfl) fun i hi => ?_
    match i, hi with
    | 0, _ => exact loop_of (by kernel_rfl) (laws_eqStringS_l0_ok k)
    | n + 1, hi => omega
  · exact no_cuts (by kernel_rfl)
  · rintro ⟨a0, b1⟩
    kernel_rfl
/- 72 loop.example/g01005/laws.markText -/
def laws_markText_l0 (k : Nat) : Nat → Int → (List UInt8) → ((List UInt8) → Option (List UInt8)) → Option (List UInt8)
  | 0, _, _, _ => none
  | n + 1, k0, out3, e_0 => (if (decide (0 < k0)) = true then (if (to_S [(w_u8 ((w_i64 (48 + (Int.tmod k0 10)))))]).length + out3.length ≤ 9223372036854775807 then laws_markText_l0 k n (w_i64 (Int.tdiv k0 10)) ((to_S [(w_u8 ((w_i64 (48 + (Int.tmod k0 10)))))]) ++ out3) e_0 else none) else e_0 out3)
def laws_markText (k : Nat) (k0 : Int) : Option (List UInt8) := (if (decide (k0 ≤ 0)) = true then some [109, 48] else laws_markText_l0 k k k0 [] (fun out_1 => (if [109].length + out_1.length ≤ 9223372036854775807 then some ([109] ++ out_1) else none)))
def laws_markText_l0_h : Head := ⟨[(0, (.val (.int .i64))), (3, (.val .str))], [], []⟩
def laws_markText_l0_x0 : Head := ⟨[(3, (.val .str))], [], []⟩
def laws_markText_l0_F (k n : Nat) (x : laws_markText_l0_h.T) (kx : Nat → St → Option (List UInt8)) : Option (List UInt8) := laws_markText_l0 k n x.1.1 x.1.2.1 (fun (out3 : List UInt8) => kx 0 (laws_markText_l0_x0.fill ((out3, ()), (), ())))
def laws_markText_O (k : Nat) : Oracles (List UInt8) := ⟨fun n => bif Nat.beq n 4 then some (fun σ kx => laws_markText_l0_h.get σ fun x => laws_markText_l0_F k k x kx) else none, fun _ => none⟩
def fe_laws_markText (k : Nat) : FE := ⟨(.int .i64), 1, .str, fun x => laws_markText k x⟩
theorem laws_markText_l0_ok (k : Nat) : LoopOK (mkEnv ti [] (lk []) pins0 pinB0) (laws_markText_O k) (rdC (mkEnv ti [] (lk []) pins0 pinB0) [.tmp 2] .str) ((loopsOf (codeOf Try.f72)).getD 0 .skip) (fun σ kx => laws_markText_l0_h.get σ fun x => laws_markText_l0_F k k x kx) := by
  refine ⟨laws_markText_l0_h, [(0, laws_markText_l0_x0)], fun n x kx => laws_markText_l0_F k n x kx, k, by kernel_rfl, by kernel_rfl, fun x kx => by kernel_rfl, ?_, fun σ kx => rfl⟩
  rintro n ⟨⟨k0, out3, ⟨⟩⟩, ⟨⟩, ⟨⟩⟩ kx
  kernel_rfl
theorem ok_laws_markText (k : Nat) : FnOK Try.prog 72 (fe_laws_markText k) := by
  refine closed_ok (tab := []) (l := []) ti_ok ti_ht mix (List.forall_mem_nil _) (List.forall_mem_nil _) ⟨⟨Try.f72, (codeOf Try.f72), [.tmp 2], (laws_markText_O k), by kernel_rfl, by kernel_rfl, by kernel_rfl, by kernel_rfl, rfl, by decide, ⟨by kernel_rfl, ?_, ?_⟩, ?_⟩⟩
  · refine loops_of (n := 1) (by kernel_rfl) fun i hi => ?_
    match i, hi with
    | 0, _ => exact loop_of (by kernel_rfl) (laws_markText_l0_ok k)
    | n + 1, hi => omega
  · exact no_cuts (by kernel_rfl)
  · rintro k0
    kernel_rfl
/- 41 loop.example/g01005/laws.markBlockS (open) -/
def laws_markBlockS_o_l0 (k : Nat) : Nat → Int → Int → (List (List UInt8 × List UInt8 × List UInt8)) → (Int → (List (List UInt8 × List UInt8 × List UInt8)) → Option (((Int × Unit) × ((List (List UInt8 × List UInt8 × List UInt8)) × Unit) × Unit))) → Option (((Int × Unit) × ((List (List UInt8 × List UInt8 × List UInt8)) × Unit) × Unit))
  | 0, _, _, _, _ => none
  | n + 1, k1, i5, q_2, e_0 => (if (decide (i5 < (List.length q_2 : Int))) = true then (laws_markText k k1).bind fun r_3 => (if 0 ≤ i5 ∧ i5.toNat < List.length q_2 then (q_2[i5.toNat]?).bind fun y_4 => (q_2[i5.toNat]?).bind fun y_5 => (laws_markText k (w_i64 (k1 + 1))).bind fun r_6 => (if 0 ≤ i5 ∧ i5.toNat < List.length (q_2.set i5.toNat (r_3, y_4.2)) then ((q_2.set i5.toNat (r_3, y_4.2))[i5.toNat]?).bind fun y_7 => ((q_2.set i5.toNat (r_3, y_4.2))[i5.toNat]?).bind fun y_8 => (laws_markText k (w_i64 ((w_i64 (k1 + 1)) + 1))).bind fun r_9 => (if 0 ≤ i5 ∧ i5.toNat < List.length ((q_2.set i5.toNat (r_3, y_4.2)).set i5.toNat (y_7.1, (r_6, y_7.2.2))) then (((q_2.set i5.toNat (r_3, y_4.2)).set i5.toNat (y_7.1, (r_6, y_7.2.2)))[i5.toNat]?).bind fun y_10 => (((q_2.set i5.toNat (r_3, y_4.2)).set i5.toNat (y_7.1, (r_6, y_7.2.2)))[i5.toNat]?).bind fun y_11 => laws_markBlockS_o_l0 k n (w_i64 ((w_i64 ((w_i64 (k1 + 1)) + 1)) + 1)) (w_i64 (i5 + 1)) (((q_2.set i5.toNat (r_3, y_4.2)).set i5.toNat (y_7.1, (r_6, y_7.2.2))).set i5.toNat (y_10.1, (y_10.2.1, r_9))) e_0 else none) else none) else none) else e_0 k1 q_2)
def laws_markBlockS_o (k : Nat) (k1 : Int) (q_1 : List (List UInt8 × List UInt8 × List UInt8)) : Option (((Int × Unit) × ((List (List UInt8 × List UInt8 × List UInt8)) × Unit) × Unit)) := laws_markBlockS_o_l0 k k k1 0 q_1 (fun k_12 q_13 => some ((k_12, ()), (q_13, ()), ()))
def laws_markBlockS_o_l0_h : Head := ⟨[(0, (.ref 1000000000 [])), (1, (.val (.int .i64))), (5, (.val (.int .i64)))], [(1000000000, 69, (.st (.pr .str (.pr .str .str))), false)], []⟩
def laws_markBlockS_o_l0_x0 : Head := ⟨[(1, (.val (.int .i64)))], [(1000000000, 69, (.st (.pr .str (.pr .str .str))), false)], []⟩
def laws_markBlockS_o_l0_F (k n : Nat) (x : laws_markBlockS_o_l0_h.T) (kx : Nat → St → Option (((Int × Unit) × ((List (List UInt8 × List UInt8 × List UInt8)) × Unit) × Unit))) : Option (((Int × Unit) × ((List (List UInt8 × List UInt8 × List UInt8)) × Unit) × Unit)) := laws_markBlockS_o_l0 k n x.1.2.1 x.1.2.2.1 x.2.1.1 (fun (k1 : Int) (q_12 : List (List UInt8 × List UInt8 × List UInt8)) => kx 0 (laws_markBlockS_o_l0_x0.fill ((k1, ()), (q_12, ()), ())))
def laws_markBlockS_o_O (k : Nat) : Oracles (((Int × Unit) × ((List (List UInt8 × List UInt8 × List UInt8)) × Unit) × Unit)) := ⟨fun n => bif Nat.beq n 2 then some (fun σ kx => laws_markBlockS_o_l0_h.get σ fun x => laws_markBlockS_o_l0_F k k x kx) else none, fun _ => none⟩
def laws_markBlockS_o_hi : Head := ⟨[(0, (.ref 1000000000 [])), (1, (.val (.int .i64)))], [(1000000000, 69, (.st (.pr .str (.pr .str .str))), false)], []⟩
def laws_markBlockS_o_ho : Head := ⟨[(0, (.val (.int .i64)))], [(1000000000, 69, (.st (.pr .str (.pr .str .str))), false)], []⟩
def oc_laws_markBlockS_o (k : Nat) : OC := ⟨laws_markBlockS_o_hi, laws_markBlockS_o_ho, fun x => laws_markBlockS_o k x.1.2.1 x.2.1.1⟩
theorem laws_markBlockS_o_l0_ok (k : Nat) (pins : Nat → Value) (pinB : Nat → Nat) : LoopOK (mkEnv ti [(72, fe_laws_markText k)] (lk []) pins pinB) (laws_markBlockS_o_O k) (rdO (mkEnv ti [(72, fe_laws_markText k)] (lk []) pins pinB) [.tmp 4] laws_markBlockS_o_ho) ((loopsOf (codeOf Try.f41)).getD 0 .skip) (fun σ kx => laws_markBlockS_o_l0_h.get σ fun x => laws_markBlockS_o_l0_F k k x kx) := by
  refine ⟨laws_markBlockS_o_l0_h, [(0, laws_markBlockS_o_l0_x0)], fun n x kx => laws_markBlockS_o_l0_F k n x kx, k, by kernel_rfl, by kernel_rfl, fun x kx => by kernel_rfl, ?_, fun σ kx => rfl⟩
  rintro n ⟨⟨⟨⟩, k1, i5, ⟨⟩⟩, ⟨q_2, ⟨⟩⟩, ⟨⟩⟩ kx
  kernel_rfl
theorem ok_laws_markBlockS_o (k : Nat) : OpenOK Try.prog ti 41 (oc_laws_markBlockS_o k) := by
  refine open_ok (tab := [(72, fe_laws_markText k)]) (l := []) ti_ok ti_ht mix (List.forall_mem_cons.2 ⟨ok_laws_markText k, (List.forall_mem_nil _)⟩) (List.forall_mem_nil _) ⟨by kernel_rfl, by kernel_rfl, Try.f41, (codeOf Try.f41), [.tmp 4], (laws_markBlockS_o_O k), by kernel_rfl, by kernel_rfl, by kernel_rfl, by kernel_rfl, Nat.le_of_ble_eq_true (by kernel_rfl), fun pins pinB => ⟨⟨by kernel_rfl, ?_, ?_⟩, ?_⟩⟩
  · refine loops_of (n := 1) (by kernel_rfl) fun i hi => ?_
    match i, hi with
    | 0, _ => exact loop_of (by kernel_rfl) (laws_markBlockS_o_l0_ok k pins pinB)
    | n + 1, hi => omega
  · exact no_cuts (by kernel_rfl)
  · rintro ⟨⟨⟨⟩, k1, ⟨⟩⟩, ⟨q_1, ⟨⟩⟩, ⟨⟩⟩
    kernel_rfl
/- 33 loop.example/g01005/laws.markStringS (open) -/
def laws_markStringS_o_l0 (k : Nat) : Nat → Int → Int → (List (List UInt8)) → (Int → (List (List UInt8)) → Option (((Int × Unit) × ((List (List UInt8)) × Unit) × Unit))) → Option (((Int × Unit) × ((List (List UInt8)) × Unit) × Unit))
  | 0, _, _, _, _ => none
  | n + 1, k1, i5, q_2, e_0 => (if (decide (i5 < (List.length q_2 : Int))) = true then (laws_markText k k1).bind fun r_3 => (if 0 ≤ i5 ∧ i5.toNat < List.length q_2 then (q_2[i5.toNat]?).bind fun y_4 => (q_2[i5.toNat]?).bind fun y_5 => laws_markStringS_o_l0 k n (w_i64 (k1 + 1)) (w_i64 (i5 + 1)) (q_2.set i5.toNat r_3) e_0 else none) else e_0 k1 q_2)
def laws_markStringS_o (k : Nat) (k1 : Int) (q_1 : List (List UInt8)) : Option (((Int × Unit) × ((List (List UInt8)) × Unit) × Unit)) := laws_markStringS_o_l0 k k k1 0 q_1 (fun k_6 q_7 => some ((k_6, ()), (q_7, ()), ()))
def laws_markStringS_o_l0_h : Head := ⟨[(0, (.ref 1000000000 [])), (1, (.val (.int .i64))), (5, (.val (.int .i64)))], [(1000000000, 9, .str, false)], []⟩
def laws_markStringS_o_l0_x0 : Head := ⟨[(1, (.val (.int .i64)))], [(1000000000, 9, .str, false)], []⟩
def laws_markStringS_o_l0_F (k n : Nat) (x : laws_markStringS_o_l0_h.T) (kx : Nat → St → Option (((Int × Unit) × ((List (List UInt8)) × Unit) × Unit))) : Option (((Int × Unit) × ((List (List UInt8)) × Unit) × Unit)) := laws_markStringS_o_l0 k n x.1.2.1 x.1.2.2.1 x.2.1.1 (fun (k1 : Int) (q_6 : List (List UInt8)) => kx 0 (laws_markStringS_o_l0_x0.fill ((k1, ()), (q_6, ()), ())))
def laws_markStringS_o_O (k : Nat) : Oracles (((Int × Unit) × ((List (List UInt8)) × Unit) × Unit)) := ⟨fun n => bif Nat.beq n 2 then some (fun σ kx => laws_markStringS_o_l0_h.get σ fun x => laws_markStringS_o_l0_F k k x kx) else none, fun _ => none⟩
def laws_markStringS_o_hi : Head := ⟨[(0, (.ref 1000000000 [])), (1, (.val (.int .i64)))], [(1000000000, 9, .str, false)], []⟩
def laws_markStringS_o_ho : Head := ⟨[(0, (.val (.int .i64)))], [(1000000000, 9, .str, false)], []⟩
def oc_laws_markStringS_o (k : Nat) : OC := ⟨laws_markStringS_o_hi, laws_markStringS_o_ho, fun x => laws_markStringS_o k x.1.2.1 x.2.1.1⟩
theorem laws_markStringS_o_l0_ok (k : Nat) (pins : Nat → Value) (pinB : Nat → Nat) : LoopOK (mkEnv ti [(72, fe_laws_markText k)] (lk []) pins pinB) (laws_markStringS_o_O k) (rdO (mkEnv ti [(72, fe_laws_markText k)] (lk []) pins pinB) [.tmp 4] laws_markStringS_o_ho) ((loopsOf (codeOf Try.f33)).getD 0 .skip) (fun σ kx => laws_markStringS_o_l0_h.get σ fun x => laws_markStringS_o_l0_F k k x kx) := by
  refine ⟨laws_markStringS_o_l0_h, [(0, laws_markStringS_o_l0_x0)], fun n x kx => laws_markStringS_o_l0_F k n x kx, k, by kernel_rfl, by kernel_rfl, fun x kx => by kernel_rfl, ?_, fun σ kx => rfl⟩
  rintro n ⟨⟨⟨⟩, k1, i5, ⟨⟩⟩, ⟨q_2, ⟨⟩⟩, ⟨⟩⟩ kx
  kernel_rfl
theorem ok_laws_markStringS_o (k : Nat) : OpenOK Try.prog ti 33 (oc_laws_markStringS_o k) := by
  refine open_ok (tab := [(72, fe_laws_markText k)]) (l := []) ti_ok ti_ht mix (List.forall_mem_cons.2 ⟨ok_laws_markText k, (List.forall_mem_nil _)⟩) (List.forall_mem_nil _) ⟨by kernel_rfl, by kernel_rfl, Try.f33, (codeOf Try.f33), [.tmp 4], (laws_markStringS_o_O k), by kernel_rfl, by kernel_rfl, by kernel_rfl, by kernel_rfl, Nat.le_of_ble_eq_true (by kernel_rfl), fun pins pinB => ⟨⟨by kernel_rfl, ?_, ?_⟩, ?_⟩⟩
  · refine loops_of (n := 1) (by kernel_rfl) fun i hi => ?_
    match i, hi with
    | 0, _ => exact loop_of (by kernel_rfl) (laws_markStringS_o_l0_ok k pins pinB)
    | n + 1, hi => omega
  · exact no_cuts (by kernel_rfl)
  · rintro ⟨⟨⟨⟩, k1, ⟨⟩⟩, ⟨q_1, ⟨⟩⟩, ⟨⟩⟩
    kernel_rfl
end Go.Proofs.Ytkopnopjbaejjaa.Ev
