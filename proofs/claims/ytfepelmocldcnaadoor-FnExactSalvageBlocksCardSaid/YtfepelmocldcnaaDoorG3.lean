/- Functions of the program, as plain ones. No conditions. -/
import Derived.Test.YtfepelmocldcnaaDoorG2
import Derived.KernelRfl
set_option linter.unusedVariables false
set_option maxRecDepth 100000
namespace Go.Proofs.YtfepelmocldcnaaDoor.Ev
open Go.RowKit
noncomputable section
/- 61 cmp.Or[int] -/
def cmp_Or_int_l0 (k : Nat) : Nat → Int → (List Int) → Int → Int → (Int → Option Int) → Option Int
  | 0, _, _, _, _, _ => none
  | n + 1, zero3, x6, x7, x8, e_0 => (if (decide (x8 < x7)) = true then (if 0 ≤ x8 then (x6[x8.toNat]?).bind fun y_1 => (if (!(decide (y_1 = zero3))) = true then some y_1 else cmp_Or_int_l0 k n zero3 x6 x7 (w_i64 (x8 + 1)) e_0) else none) else e_0 zero3)
def cmp_Or_int (k : Nat) (vals0 : List Int) : Option Int := cmp_Or_int_l0 k k 0 vals0 (List.length vals0 : Int) 0 (fun zero_2 => some zero_2)
def cmp_Or_int_l0_h : Head := ⟨[(3, (.val (.int .i64))), (6, (.val (.sl 3 (.int .i64)))), (7, (.val (.int .i64))), (8, (.val (.int .i64)))], [], []⟩
def cmp_Or_int_l0_x0 : Head := ⟨[(3, (.val (.int .i64)))], [], []⟩
def cmp_Or_int_l0_F (k n : Nat) (x : cmp_Or_int_l0_h.T) (kx : Nat → St → Option Int) : Option Int := cmp_Or_int_l0 k n x.1.1 x.1.2.1 x.1.2.2.1 x.1.2.2.2.1 (fun (zero3 : Int) => kx 0 (cmp_Or_int_l0_x0.fill ((zero3, ()), (), ())))
def cmp_Or_int_O (k : Nat) : Oracles Int := ⟨fun n => bif Nat.beq n 3 then some (fun σ kx => cmp_Or_int_l0_h.get σ fun x => cmp_Or_int_l0_F k k x kx) else none, fun _ => none⟩
def fe_cmp_Or_int (k : Nat) : FE := ⟨(.sl 3 (.int .i64)), 1, (.int .i64), fun x => cmp_Or_int k x⟩
theorem cmp_Or_int_l0_ok (k : Nat) : LoopOK (mkEnv ti [] (lk []) pins0 pinB0) (cmp_Or_int_O k) (rdC (mkEnv ti [] (lk []) pins0 pinB0) [.tmp 2] (.int .i64)) ((loopsOf (codeOf Tryd.f61)).getD 0 .skip) (fun σ kx => cmp_Or_int_l0_h.get σ fun x => cmp_Or_int_l0_F k k x kx) := by
  refine ⟨cmp_Or_int_l0_h, [(0, cmp_Or_int_l0_x0)], fun n x kx => cmp_Or_int_l0_F k n x kx, k, by kernel_rfl, by kernel_rfl, fun x kx => by kernel_rfl, ?_, fun σ kx => rfl⟩
  rintro n ⟨⟨zero3, x6, x7, x8, ⟨⟩⟩, ⟨⟩, ⟨⟩⟩ kx
  kernel_rfl
theorem ok_cmp_Or_int (k : Nat) : FnOK Tryd.prog 61 (fe_cmp_Or_int k) := by
  refine closed_ok (tab := []) (l := []) ti_ok ti_ht mix (List.forall_mem_nil _) (List.forall_mem_nil _) ⟨⟨Tryd.f61, (codeOf Tryd.f61), [.tmp 2], (cmp_Or_int_O k), by kernel_rfl, by kernel_rfl, by kernel_rfl, by kernel_rfl, rfl, by decide, ⟨by kernel_rfl, ?_, ?_⟩, ?_⟩⟩
  · refine loops_of (n := 1) (by kernel_rfl) fun i hi => ?_
    match i, hi with
    | 0, _ => exact loop_of (by kernel_rfl) (cmp_Or_int_l0_ok k)
    | n + 1, hi => omega
  · exact no_cuts (by kernel_rfl)
  · rintro vals0
    kernel_rfl
/- 45 loop.example/g01005/impl.compareBlocks -/
def impl_compareBlocks (k : Nat) (a0 : List UInt8 × List UInt8 × List UInt8) (b1 : List UInt8 × List UInt8 × List UInt8) : Option Int := (cmp_Compare_string a0.1 b1.1).bind fun r_1 => (cmp_Compare_string a0.2.1 b1.2.1).bind fun r_2 => (cmp_Or_int k [r_1, r_2]).bind fun r_3 => some r_3
def fe_impl_compareBlocks (k : Nat) : FE := ⟨(.pr (.st (.pr .str (.pr .str .str))) (.st (.pr .str (.pr .str .str)))), 1, (.int .i64), fun x => impl_compareBlocks k x.1 x.2⟩
theorem ok_impl_compareBlocks (k : Nat) : FnOK Tryd.prog 45 (fe_impl_compareBlocks k) := by
  refine closed_ok (tab := [(62, fe_cmp_Compare_string), (61, fe_cmp_Or_int k)]) (l := []) ti_ok ti_ht mix (List.forall_mem_cons.2 ⟨ok_cmp_Compare_string, (List.forall_mem_cons.2 ⟨ok_cmp_Or_int k, (List.forall_mem_nil _)⟩)⟩) (List.forall_mem_nil _) ⟨⟨Tryd.f45, (codeOf Tryd.f45), [.tmp 4], (LOn Int), by kernel_rfl, by kernel_rfl, by kernel_rfl, by kernel_rfl, rfl, by decide, ⟨by kernel_rfl, ?_, ?_⟩, ?_⟩⟩
  · exact no_loops (by kernel_rfl)
  · exact no_cuts (by kernel_rfl)
  · rintro ⟨a0, b1⟩
    kernel_rfl
/- 29 loop.example/g01005/impl.ValidBlocks -/
def impl_ValidBlocks_l0 (k : Nat) : Nat → (List (List UInt8 × List UInt8 × List UInt8)) → (List (List UInt8 × List UInt8 × List UInt8)) → Int → Int → ((List (List UInt8 × List UInt8 × List UInt8)) → Option Bool) → Option Bool
  | 0, _, _, _, _, _ => none
  | n + 1, list0, x5, x6, x7, e_0 => (if (decide (x7 < x6)) = true then (if 0 ≤ x7 then (x5[x7.toNat]?).bind fun y_1 => (impl_ValidBlock k y_1).bind fun r_2 => (if (!r_2) = true then some false else (if (decide (0 < x7)) = true then (if 0 ≤ (w_i64 (x7 - 1)) then (list0[(w_i64 (x7 - 1)).toNat]?).bind fun y_3 => (impl_compareBlocks k y_3 y_1).bind fun r_4 => (if (decide (0 ≤ r_4)) = true then some false else impl_ValidBlocks_l0 k n list0 x5 x6 (w_i64 (x7 + 1)) e_0) else none) else impl_ValidBlocks_l0 k n list0 x5 x6 (w_i64 (x7 + 1)) e_0)) else none) else e_0 list0)
def impl_ValidBlocks (k : Nat) (list0 : List (List UInt8 × List UInt8 × List UInt8)) : Option Bool := impl_ValidBlocks_l0 k k list0 list0 (List.length list0 : Int) 0 (fun list_5 => some (decide ((List.length list_5 : Int) ≤ 32)))
def impl_ValidBlocks_l0_h : Head := ⟨[(0, (.val (.sl 31 (.st (.pr .str (.pr .str .str)))))), (5, (.val (.sl 31 (.st (.pr .str (.pr .str .str)))))), (6, (.val (.int .i64))), (7, (.val (.int .i64)))], [], []⟩
def impl_ValidBlocks_l0_x0 : Head := ⟨[(0, (.val (.sl 31 (.st (.pr .str (.pr .str .str))))))], [], []⟩
def impl_ValidBlocks_l0_F (k n : Nat) (x : impl_ValidBlocks_l0_h.T) (kx : Nat → St → Option Bool) : Option Bool := impl_ValidBlocks_l0 k n x.1.1 x.1.2.1 x.1.2.2.1 x.1.2.2.2.1 (fun (list0 : List (List UInt8 × List UInt8 × List UInt8)) => kx 0 (impl_ValidBlocks_l0_x0.fill ((list0, ()), (), ())))
def impl_ValidBlocks_O (k : Nat) : Oracles Bool := ⟨fun n => bif Nat.beq n 2 then some (fun σ kx => impl_ValidBlocks_l0_h.get σ fun x => impl_ValidBlocks_l0_F k k x kx) else none, fun _ => none⟩
def fe_impl_ValidBlocks (k : Nat) : FE := ⟨(.sl 31 (.st (.pr .str (.pr .str .str)))), 1, .bool, fun x => impl_ValidBlocks k x⟩
theorem impl_ValidBlocks_l0_ok (k : Nat) : LoopOK (mkEnv ti [(27, fe_impl_ValidBlock k), (45, fe_impl_compareBlocks k)] (lk []) pins0 pinB0) (impl_ValidBlocks_O k) (rdC (mkEnv ti [(27, fe_impl_ValidBlock k), (45, fe_impl_compareBlocks k)] (lk []) pins0 pinB0) [.tmp 2] .bool) ((loopsOf (codeOf Tryd.f29)).getD 0 .skip) (fun σ kx => impl_ValidBlocks_l0_h.get σ fun x => impl_ValidBlocks_l0_F k k x kx) := by
  refine ⟨impl_ValidBlocks_l0_h, [(0, impl_ValidBlocks_l0_x0)], fun n x kx => impl_ValidBlocks_l0_F k n x kx, k, by kernel_rfl, by kernel_rfl, fun x kx => by kernel_rfl, ?_, fun σ kx => rfl⟩
  rintro n ⟨⟨list0, x5, x6, x7, ⟨⟩⟩, ⟨⟩, ⟨⟩⟩ kx
  kernel_rfl
theorem ok_impl_ValidBlocks (k : Nat) : FnOK Tryd.prog 29 (fe_impl_ValidBlocks k) := by
  refine closed_ok (tab := [(27, fe_impl_ValidBlock k), (45, fe_impl_compareBlocks k)]) (l := []) ti_ok ti_ht mix (List.forall_mem_cons.2 ⟨ok_impl_ValidBlock k, (List.forall_mem_cons.2 ⟨ok_impl_compareBlocks k, (List.forall_mem_nil _)⟩)⟩) (List.forall_mem_nil _) ⟨⟨Tryd.f29, (codeOf Tryd.f29), [.tmp 2], (impl_ValidBlocks_O k), by kernel_rfl, by kernel_rfl, by kernel_rfl, by kernel_rfl, rfl, by decide, ⟨by kernel_rfl, ?_, ?_⟩, ?_⟩⟩
  · refine loops_of (n := 1) (by kernel_rfl) fun i hi => ?_
    match i, hi with
    | 0, _ => exact loop_of (by kernel_rfl) (impl_ValidBlocks_l0_ok k)
    | n + 1, hi => omega
  · exact no_cuts (by kernel_rfl)
  · rintro list0
    kernel_rfl
/- 46 slices.Clone[[]loop.example/g01005/impl.Block,loop.example/g01005/impl.Block] -/
def slices_Clone_impl_Block (s0 : List (List UInt8 × List UInt8 × List UInt8)) : Option (List (List UInt8 × List UInt8 × List UInt8)) := (if List.isEmpty s0 = true then both (some []) ((if (([] : List Unit).length + s0.length) * 48 ≤ LIM then some s0 else none)) else (if (([] : List Unit).length + s0.length) * 48 ≤ LIM then some s0 else none))
def fe_slices_Clone_impl_Block : FE := ⟨(.sl 31 (.st (.pr .str (.pr .str .str)))), 1, (.sl 31 (.st (.pr .str (.pr .str .str)))), fun x => slices_Clone_impl_Block x⟩
theorem ok_slices_Clone_impl_Block : FnOK Tryd.prog 46 (fe_slices_Clone_impl_Block) := by
  refine closed_ok (tab := []) (l := []) ti_ok ti_ht mix (List.forall_mem_nil _) (List.forall_mem_nil _) ⟨⟨Tryd.f46, (codeOf Tryd.f46), [.tmp 2], (LOn (List (List UInt8 × List UInt8 × List UInt8))), by kernel_rfl, by kernel_rfl, by kernel_rfl, by kernel_rfl, rfl, by decide, ⟨by kernel_rfl, ?_, ?_⟩, ?_⟩⟩
  · exact no_loops (by kernel_rfl)
  · exact no_cuts (by kernel_rfl)
  · rintro s0
    kernel_rfl
/- 63 slices.BinarySearchFunc[[]loop.example/g01005/impl.Block,loop.example/g01005/impl.Block,loop.example/g01005/impl.Block] -/
def slices_BinarySearchFunc_impl_Block__impl_compareBlocks_l0 (k : Nat) : Nat → (List (List UInt8 × List UInt8 × List UInt8)) → Unit → Int → Int → Int → (List UInt8 × List UInt8 × List UInt8) → ((List (List UInt8 × List UInt8 × List UInt8)) → Unit → Int → Int → (List UInt8 × List UInt8 × List UInt8) → Option (Int × Bool)) → Option (Int × Bool)
  | 0, _, _, _, _, _, _, _ => none
  | n + 1, x0, cmp2, n8, i9, j10, v_4, e_0 => (if (decide (i9 < j10)) = true then (if 0 ≤ (w_i64 ((Int.fdiv (w_u64 ((w_i64 (i9 + j10)))) (2 ^ 1)))) then (x0[(w_i64 ((Int.fdiv (w_u64 ((w_i64 (i9 + j10)))) (2 ^ 1)))).toNat]?).bind fun y_1 => (impl_compareBlocks k y_1 v_4).bind fun r_2 => (if (decide (r_2 < 0)) = true then slices_BinarySearchFunc_impl_Block__impl_compareBlocks_l0 k n x0 cmp2 n8 (w_i64 ((w_i64 ((Int.fdiv (w_u64 ((w_i64 (i9 + j10)))) (2 ^ 1)))) + 1)) j10 v_4 e_0 else slices_BinarySearchFunc_impl_Block__impl_compareBlocks_l0 k n x0 cmp2 n8 i9 (w_i64 ((Int.fdiv (w_u64 ((w_i64 (i9 + j10)))) (2 ^ 1)))) v_4 e_0) else none) else e_0 x0 cmp2 n8 i9 v_4)
def slices_BinarySearchFunc_impl_Block__impl_compareBlocks (k : Nat) (x0 : List (List UInt8 × List UInt8 × List UInt8)) (target1 : List UInt8 × List UInt8 × List UInt8) (cmp2 : Unit) : Option (Int × Bool) := slices_BinarySearchFunc_impl_Block__impl_compareBlocks_l0 k k x0 cmp2 (List.length x0 : Int) 0 (List.length x0 : Int) target1 (fun x_3 cmp_4 n_5 i_6 v_7 => (if (decide (i_6 < n_5)) = true then (if 0 ≤ i_6 then (x_3[i_6.toNat]?).bind fun y_8 => (impl_compareBlocks k y_8 v_7).bind fun r_9 => some (i_6, (decide (r_9 = 0))) else none) else some (i_6, false)))
def slices_BinarySearchFunc_impl_Block__impl_compareBlocks_l0_h : Head := ⟨[(0, (.val (.sl 31 (.st (.pr .str (.pr .str .str)))))), (2, (.val (.fn 45 .un))), (4, (.bp 4 [] 0)), (8, (.val (.int .i64))), (9, (.val (.int .i64))), (10, (.val (.int .i64)))], [], [(4, 31, (.val (.st (.pr .str (.pr .str .str)))))]⟩
def slices_BinarySearchFunc_impl_Block__impl_compareBlocks_l0_x0 : Head := ⟨[(0, (.val (.sl 31 (.st (.pr .str (.pr .str .str)))))), (2, (.val (.fn 45 .un))), (4, (.bp 4 [] 0)), (8, (.val (.int .i64))), (9, (.val (.int .i64)))], [], [(4, 31, (.val (.st (.pr .str (.pr .str .str)))))]⟩
def slices_BinarySearchFunc_impl_Block__impl_compareBlocks_l0_F (k n : Nat) (x : slices_BinarySearchFunc_impl_Block__impl_compareBlocks_l0_h.T) (kx : Nat → St → Option (Int × Bool)) : Option (Int × Bool) := slices_BinarySearchFunc_impl_Block__impl_compareBlocks_l0 k n x.1.1 x.1.2.1 x.1.2.2.2.1 x.1.2.2.2.2.1 x.1.2.2.2.2.2.1 x.2.2.1 (fun (x0 : List (List UInt8 × List UInt8 × List UInt8)) (cmp2 : Unit) (n8 : Int) (i9 : Int) (v_4 : List UInt8 × List UInt8 × List UInt8) => kx 0 (slices_BinarySearchFunc_impl_Block__impl_compareBlocks_l0_x0.fill ((x0, cmp2, (), n8, i9, ()), (), (v_4, ()))))
def slices_BinarySearchFunc_impl_Block__impl_compareBlocks_O (k : Nat) : Oracles (Int × Bool) := ⟨fun n => bif Nat.beq n 3 then some (fun σ kx => slices_BinarySearchFunc_impl_Block__impl_compareBlocks_l0_h.get σ fun x => slices_BinarySearchFunc_impl_Block__impl_compareBlocks_l0_F k k x kx) else none, fun _ => none⟩
def fe_slices_BinarySearchFunc_impl_Block__impl_compareBlocks (k : Nat) : FE := ⟨(.pr (.sl 31 (.st (.pr .str (.pr .str .str)))) (.pr (.st (.pr .str (.pr .str .str))) (.fn 45 .un))), 2, (.pr (.int .i64) .bool), fun x => slices_BinarySearchFunc_impl_Block__impl_compareBlocks k x.1 x.2.1 x.2.2⟩
theorem slices_BinarySearchFunc_impl_Block__impl_compareBlocks_l0_ok (k : Nat) : LoopOK (mkEnv ti [(45, fe_impl_compareBlocks k)] (lk []) pins0 pinB0) (slices_BinarySearchFunc_impl_Block__impl_compareBlocks_O k) (rdC (mkEnv ti [(45, fe_impl_compareBlocks k)] (lk []) pins0 pinB0) [.tmp 6, .tmp 7] (.pr (.int .i64) .bool)) ((loopsOf (codeOf Tryd.f63)).getD 0 .skip) (fun σ kx => slices_BinarySearchFunc_impl_Block__impl_compareBlocks_l0_h.get σ fun x => slices_BinarySearchFunc_impl_Block__impl_compareBlocks_l0_F k k x kx) := by
  refine ⟨slices_BinarySearchFunc_impl_Block__impl_compareBlocks_l0_h, [(0, slices_BinarySearchFunc_impl_Block__impl_compareBlocks_l0_x0)], fun n x kx => slices_BinarySearchFunc_impl_Block__impl_compareBlocks_l0_F k n x kx, k, by kernel_rfl, by kernel_rfl, fun x kx => by kernel_rfl, ?_, fun σ kx => rfl⟩
  rintro n ⟨⟨x0, cmp2, ⟨⟩, n8, i9, j10, ⟨⟩⟩, ⟨⟩, ⟨v_4, ⟨⟩⟩⟩ kx
  kernel_rfl
theorem ok_slices_BinarySearchFunc_impl_Block__impl_compareBlocks (k : Nat) : FnOK Tryd.prog 63 (fe_slices_BinarySearchFunc_impl_Block__impl_compareBlocks k) := by
  refine closed_ok (tab := [(45, fe_impl_compareBlocks k)]) (l := []) ti_ok ti_ht mix (List.forall_mem_cons.2 ⟨ok_impl_compareBlocks k, (List.forall_mem_nil _)⟩) (List.forall_mem_nil _) ⟨⟨Tryd.f63, (codeOf Tryd.f63), [.tmp 6, .tmp 7], (slices_BinarySearchFunc_impl_Block__impl_compareBlocks_O k), by kernel_rfl, by kernel_rfl, by kernel_rfl, by kernel_rfl, rfl, by decide, ⟨by kernel_rfl, ?_, ?_⟩, ?_⟩⟩
  · refine loops_of (n := 1) (by kernel_rfl) fun i hi => ?_
    match i, hi with
    | 0, _ => exact loop_of (by kernel_rfl) (slices_BinarySearchFunc_impl_Block__impl_compareBlocks_l0_ok k)
    | n + 1, hi => omega
  · exact no_cuts (by kernel_rfl)
  · rintro ⟨x0, target1, cmp2⟩
    kernel_rfl
/- 47 loop.example/g01005/impl.blockAt -/
def impl_blockAt (k : Nat) (list0 : List (List UInt8 × List UInt8 × List UInt8)) (b1 : List UInt8 × List UInt8 × List UInt8) : Option (Int × Bool) := (slices_BinarySearchFunc_impl_Block__impl_compareBlocks k list0 b1 ()).bind fun r_1 => some (r_1.1, r_1.2)
def fe_impl_blockAt (k : Nat) : FE := ⟨(.pr (.sl 31 (.st (.pr .str (.pr .str .str)))) (.st (.pr .str (.pr .str .str)))), 2, (.pr (.int .i64) .bool), fun x => impl_blockAt k x.1 x.2⟩
theorem ok_impl_blockAt (k : Nat) : FnOK Tryd.prog 47 (fe_impl_blockAt k) := by
  refine closed_ok (tab := [(63, fe_slices_BinarySearchFunc_impl_Block__impl_compareBlocks k)]) (l := []) ti_ok ti_ht mix (List.forall_mem_cons.2 ⟨ok_slices_BinarySearchFunc_impl_Block__impl_compareBlocks k, (List.forall_mem_nil _)⟩) (List.forall_mem_nil _) ⟨⟨Tryd.f47, (codeOf Tryd.f47), [.tmp 4, .tmp 5], (LOn (Int × Bool)), by kernel_rfl, by kernel_rfl, by kernel_rfl, by kernel_rfl, rfl, by decide, ⟨by kernel_rfl, ?_, ?_⟩, ?_⟩⟩
  · exact no_loops (by kernel_rfl)
  · exact no_cuts (by kernel_rfl)
  · rintro ⟨list0, b1⟩
    kernel_rfl
/- 48 slices.Insert[[]loop.example/g01005/impl.Block,loop.example/g01005/impl.Block] (by hand) -/
def slices_Insert_impl_Block_s (i1 : Int) (q_1 q_2 : List (List UInt8 × List UInt8 × List UInt8)) : Option ((Unit × Unit) × (List (List UInt8 × List UInt8 × List UInt8) × Unit) × Unit) := if 0 ≤ i1 ∧ i1 ≤ (List.length q_1 : Int) ∧ 0 < List.length q_2 ∧ (List.length q_1 + List.length q_2) * 48 ≤ LIM then some (((), ()), (List.take i1.toNat q_1 ++ q_2 ++ List.drop i1.toNat q_1, ()), ()) else none
def oc_slices_Insert_impl_Block_s : OC := oc_insert 31 (.st (.pr .str (.pr .str .str))) 48
theorem ok_slices_Insert_impl_Block_s : OpenOK Tryd.prog ti 48 oc_slices_Insert_impl_Block_s :=
  ok_insert_at (ρ := (⟨fun n => bif Nat.beq n 22 then 48 else bif Nat.beq n 29 then 64 else bif Nat.beq n 30 then 65 else n, fun n => bif Nat.beq n 24 then 22 else bif Nat.beq n 3 then 3 else bif Nat.beq n 4 then 4 else bif Nat.beq n 9 then 31 else bif Nat.beq n 0 then 0 else n, fun n => n⟩ : Go.Shelf.Ren)) ti_ok (e := 31) (t := (.st (.pr .str (.pr .str .str)))) (bytes := 48) ⟨Tryd.f48.name, by kernel_rfl, (Tryd.func48).trans (congrArg some (by kernel_rfl))⟩ (fun vs w => Go.run_callFunc_extern (Tryd.func64) (by kernel_rfl) (by kernel_rfl) (by kernel_rfl) (e := Go.Extern.SlicesOverlaps.overlaps #[22, 22] #[4]) (by kernel_rfl) vs w) mix Tryd.underlying3 Tryd.underlying4 Tryd.underlying22 (i := (ti[31]?).getD ⟨.oth, .un, 0⟩) (by kernel_rfl) (by kernel_rfl) (by kernel_rfl) (by kernel_rfl) (by kernel_rfl) (by kernel_rfl)
/- 30 loop.example/g01005/impl.putBlock -/
def impl_putBlock (k : Nat) (list0 : List (List UInt8 × List UInt8 × List UInt8)) (b1 : List UInt8 × List UInt8 × List UInt8) : Option (List (List UInt8 × List UInt8 × List UInt8)) := (slices_Clone_impl_Block list0).bind fun r_1 => (impl_blockAt k r_1 b1).bind fun r_2 => (if r_2.2 = true then (if 0 ≤ r_2.1 ∧ r_2.1.toNat < List.length r_1 then (r_1[r_2.1.toNat]?).bind fun y_3 => (r_1[r_2.1.toNat]?).bind fun y_4 => some (r_1.set r_2.1.toNat b1) else none) else (slices_Insert_impl_Block_s r_2.1 r_1 [b1]).bind fun y_5 => some y_5.2.1.1)
def fe_impl_putBlock (k : Nat) : FE := ⟨(.pr (.sl 31 (.st (.pr .str (.pr .str .str)))) (.st (.pr .str (.pr .str .str)))), 1, (.sl 31 (.st (.pr .str (.pr .str .str)))), fun x => impl_putBlock k x.1 x.2⟩
theorem ok_impl_putBlock (k : Nat) : FnOK Tryd.prog 30 (fe_impl_putBlock k) := by
  refine closed_ok (tab := [(46, fe_slices_Clone_impl_Block), (47, fe_impl_blockAt k)]) (l := [(26, 48, oc_slices_Insert_impl_Block_s)]) ti_ok ti_ht mix (List.forall_mem_cons.2 ⟨ok_slices_Clone_impl_Block, (List.forall_mem_cons.2 ⟨ok_impl_blockAt k, (List.forall_mem_nil _)⟩)⟩) (List.forall_mem_cons.2 ⟨ok_slices_Insert_impl_Block_s, (List.forall_mem_nil _)⟩) ⟨⟨Tryd.f30, (codeOf Tryd.f30), [.tmp 4], (LOn (List (List UInt8 × List UInt8 × List UInt8))), by kernel_rfl, by kernel_rfl, by kernel_rfl, by kernel_rfl, rfl, by decide, ⟨by kernel_rfl, ?_, ?_⟩, ?_⟩⟩
  · exact no_loops (by kernel_rfl)
  · exact no_cuts (by kernel_rfl)
  · rintro ⟨list0, b1⟩
    kernel_rfl
/- 14 loop.example/g01005/impl.PutBlock -/
def impl_PutBlock (k : Nat) (list0 : List (List UInt8 × List UInt8 × List UInt8)) (b1 : List UInt8 × List UInt8 × List UInt8) : Option ((List (List UInt8 × List UInt8 × List UInt8)) × Int) := (impl_ValidBlocks k list0).bind fun r_1 => (if (!r_1) = true then some ([], 1) else (impl_ValidBlock k b1).bind fun r_2 => (if (!r_2) = true then some ([], 1) else (impl_putBlock k list0 b1).bind fun r_3 => (if (decide (32 < (List.length r_3 : Int))) = true then some ([], 5) else some (r_3, 0))))
def fe_impl_PutBlock (k : Nat) : FE := ⟨(.pr (.sl 31 (.st (.pr .str (.pr .str .str)))) (.st (.pr .str (.pr .str .str)))), 2, (.pr (.sl 31 (.st (.pr .str (.pr .str .str)))) (.int .i64)), fun x => impl_PutBlock k x.1 x.2⟩
theorem ok_impl_PutBlock (k : Nat) : FnOK Tryd.prog 14 (fe_impl_PutBlock k) := by
  refine closed_ok (tab := [(29, fe_impl_ValidBlocks k), (27, fe_impl_ValidBlock k), (30, fe_impl_putBlock k)]) (l := []) ti_ok ti_ht mix (List.forall_mem_cons.2 ⟨ok_impl_ValidBlocks k, (List.forall_mem_cons.2 ⟨ok_impl_ValidBlock k, (List.forall_mem_cons.2 ⟨ok_impl_putBlock k, (List.forall_mem_nil _)⟩)⟩)⟩) (List.forall_mem_nil _) ⟨⟨Tryd.f14, (codeOf Tryd.f14), [.tmp 4, .tmp 5], (LOn ((List (List UInt8 × List UInt8 × List UInt8)) × Int)), by kernel_rfl, by kernel_rfl, by kernel_rfl, by kernel_rfl, rfl, by decide, ⟨by kernel_rfl, ?_, ?_⟩, ?_⟩⟩
  · exact no_loops (by kernel_rfl)
  · exact no_cuts (by kernel_rfl)
  · rintro ⟨list0, b1⟩
    kernel_rfl
/- 5 loop.example/g01005/impl.SalvageBlocks -/
def impl_SalvageBlocks_l0 (k : Nat) : Nat → Int → Int → (List (List UInt8 × List UInt8 × List UInt8)) → (List (List UInt8)) → ((List (List UInt8 × List UInt8 × List UInt8)) → Option (List (List UInt8 × List UInt8 × List UInt8))) → Option (List (List UInt8 × List UInt8 × List UInt8))
  | 0, _, _, _, _, _ => none
  | n + 1, x18, x19, q_2, q_3, e_0 => (if (decide (x19 < x18)) = true then (if 0 ≤ x19 ∧ x19.toNat < List.length q_3 then (q_3[x19.toNat]?).bind fun y_4 => (impl_blockOfLine k y_4).bind fun r_5 => (if (decide (x19 = 0)) = true then impl_SalvageBlocks_l0 k n x18 (w_i64 (x19 + 1)) q_2 q_3 e_0 else (if (!(decide (r_5.2 = 0))) = true then impl_SalvageBlocks_l0 k n x18 (w_i64 (x19 + 1)) q_2 q_3 e_0 else (impl_PutBlock k q_2 r_5.1).bind fun r_6 => (if (decide (r_6.2 = 0)) = true then impl_SalvageBlocks_l0 k n x18 (w_i64 (x19 + 1)) r_6.1 q_3 e_0 else impl_SalvageBlocks_l0 k n x18 (w_i64 (x19 + 1)) q_2 q_3 e_0))) else none) else e_0 q_2)
def impl_SalvageBlocks (k : Nat) (s0 : List UInt8) : Option (List (List UInt8 × List UInt8 × List UInt8)) := (impl_endedLines k s0).bind fun r_1 => impl_SalvageBlocks_l0 k k (List.length r_1.1 : Int) 0 [] r_1.1 (fun q_7 => some q_7)
def impl_SalvageBlocks_l0_h : Head := ⟨[(5, (.ref 64000000 [])), (17, (.ref 64000001 [])), (18, (.val (.int .i64))), (19, (.val (.int .i64)))], [(64000000, 31, (.st (.pr .str (.pr .str .str))), false), (64000001, 9, .str, false)], []⟩
def impl_SalvageBlocks_l0_x0 : Head := ⟨[(5, (.ref 64000000 []))], [(64000000, 31, (.st (.pr .str (.pr .str .str))), false)], []⟩
def impl_SalvageBlocks_l0_F (k n : Nat) (x : impl_SalvageBlocks_l0_h.T) (kx : Nat → St → Option (List (List UInt8 × List UInt8 × List UInt8))) : Option (List (List UInt8 × List UInt8 × List UInt8)) := impl_SalvageBlocks_l0 k n x.1.2.2.1 x.1.2.2.2.1 x.2.1.1 x.2.1.2.1 (fun (q_7 : List (List UInt8 × List UInt8 × List UInt8)) => kx 0 (impl_SalvageBlocks_l0_x0.fill (((), ()), (q_7, ()), ())))
def impl_SalvageBlocks_O (k : Nat) : Oracles (List (List UInt8 × List UInt8 × List UInt8)) := ⟨fun n => bif Nat.beq n 4 then some (fun σ kx => impl_SalvageBlocks_l0_h.get σ fun x => impl_SalvageBlocks_l0_F k k x kx) else none, fun _ => none⟩
def fe_impl_SalvageBlocks (k : Nat) : FE := ⟨.str, 1, (.sl 31 (.st (.pr .str (.pr .str .str)))), fun x => impl_SalvageBlocks k x⟩
theorem impl_SalvageBlocks_l0_ok (k : Nat) : LoopOK (mkEnv ti [(12, fe_impl_endedLines k), (13, fe_impl_blockOfLine k), (14, fe_impl_PutBlock k)] (lk []) pins0 pinB0) (impl_SalvageBlocks_O k) (rdC (mkEnv ti [(12, fe_impl_endedLines k), (13, fe_impl_blockOfLine k), (14, fe_impl_PutBlock k)] (lk []) pins0 pinB0) [.tmp 2] (.sl 31 (.st (.pr .str (.pr .str .str))))) ((loopsOf (codeOf Tryd.f5)).getD 0 .skip) (fun σ kx => impl_SalvageBlocks_l0_h.get σ fun x => impl_SalvageBlocks_l0_F k k x kx) := by
  refine ⟨impl_SalvageBlocks_l0_h, [(0, impl_SalvageBlocks_l0_x0)], fun n x kx => impl_SalvageBlocks_l0_F k n x kx, k, by kernel_rfl, by kernel_rfl, fun x kx => by kernel_rfl, ?_, fun σ kx => rfl⟩
  rintro n ⟨⟨⟨⟩, ⟨⟩, x18, x19, ⟨⟩⟩, ⟨q_2, q_3, ⟨⟩⟩, ⟨⟩⟩ kx
  kernel_rfl
theorem ok_impl_SalvageBlocks (k : Nat) : FnOK Tryd.prog 5 (fe_impl_SalvageBlocks k) := by
  refine closed_ok (tab := [(12, fe_impl_endedLines k), (13, fe_impl_blockOfLine k), (14, fe_impl_PutBlock k)]) (l := []) ti_ok ti_ht mix (List.forall_mem_cons.2 ⟨ok_impl_endedLines k, (List.forall_mem_cons.2 ⟨ok_impl_blockOfLine k, (List.forall_mem_cons.2 ⟨ok_impl_PutBlock k, (List.forall_mem_nil _)⟩)⟩)⟩) (List.forall_mem_nil _) ⟨⟨Tryd.f5, (codeOf Tryd.f5), [.tmp 2], (impl_SalvageBlocks_O k), by kernel_rfl, by kernel_rfl, by kernel_rfl, by kernel_rfl, rfl, by decide, ⟨by kernel_rfl, ?_, ?_⟩, ?_⟩⟩
  · refine loops_of (n := 1) (by kernel_rfl) fun i hi => ?_
    match i, hi with
    | 0, _ => exact loop_of (by kernel_rfl) (impl_SalvageBlocks_l0_ok k)
    | n + 1, hi => omega
  · exact no_cuts (by kernel_rfl)
  · rintro s0
    kernel_rfl
/- 15 loop.example/g01005/laws.eqBlock -/
def laws_eqBlock (a0 : List UInt8 × List UInt8 × List UInt8) (b1 : List UInt8 × List UInt8 × List UInt8) : Option Bool := (if (!(decide (a0.1 = b1.1))) = true then some false else (if (!(decide (a0.2.1 = b1.2.1))) = true then some false else (if (!(decide (a0.2.2 = b1.2.2))) = true then some false else some true)))
def fe_laws_eqBlock : FE := ⟨(.pr (.st (.pr .str (.pr .str .str))) (.st (.pr .str (.pr .str .str)))), 1, .bool, fun x => laws_eqBlock x.1 x.2⟩
theorem ok_laws_eqBlock : FnOK Tryd.prog 15 (fe_laws_eqBlock) := by
  refine closed_ok (tab := []) (l := []) ti_ok ti_ht mix (List.forall_mem_nil _) (List.forall_mem_nil _) ⟨⟨Tryd.f15, (codeOf Tryd.f15), [.tmp 4], (LOn Bool), by kernel_rfl, by kernel_rfl, by kernel_rfl, by kernel_rfl, rfl, by decide, ⟨by kernel_rfl, ?_, ?_⟩, ?_⟩⟩
  · exact no_loops (by kernel_rfl)
  · exact no_cuts (by kernel_rfl)
  · rintro ⟨a0, b1⟩
    kernel_rfl
/- 6 loop.example/g01005/laws.eqBlockS -/
def laws_eqBlockS_l0 (k : Nat) : Nat → (List (List UInt8 × List UInt8 × List UInt8)) → (List (List UInt8 × List UInt8 × List UInt8)) → Int → (Option Bool) → Option Bool
  | 0, _, _, _, _ => none
  | n + 1, a0, b1, i5, e_0 => (if (decide (i5 < (List.length a0 : Int))) = true then (if 0 ≤ i5 then (a0[i5.toNat]?).bind fun y_1 => (if 0 ≤ i5 then (b1[i5.toNat]?).bind fun y_2 => (laws_eqBlock y_1 y_2).bind fun r_3 => (if (!r_3) = true then some false else laws_eqBlockS_l0 k n a0 b1 (w_i64 (i5 + 1)) e_0) else none) else none) else e_0)
def laws_eqBlockS (k : Nat) (a0 : List (List UInt8 × List UInt8 × List UInt8)) (b1 : List (List UInt8 × List UInt8 × List UInt8)) : Option Bool := (if (!(decide ((List.length a0 : Int) = (List.length b1 : Int)))) = true then some false else laws_eqBlockS_l0 k k a0 b1 0 (some true))
def laws_eqBlockS_l0_h : Head := ⟨[(0, (.val (.sl 31 (.st (.pr .str (.pr .str .str)))))), (1, (.val (.sl 31 (.st (.pr .str (.pr .str .str)))))), (5, (.val (.int .i64)))], [], []⟩
def laws_eqBlockS_l0_x0 : Head := ⟨[], [], []⟩
def laws_eqBlockS_l0_F (k n : Nat) (x : laws_eqBlockS_l0_h.T) (kx : Nat → St → Option Bool) : Option Bool := laws_eqBlockS_l0 k n x.1.1 x.1.2.1 x.1.2.2.1 (kx 0 (laws_eqBlockS_l0_x0.fill ((), (), ())))
def laws_eqBlockS_O (k : Nat) : Oracles Bool := ⟨fun n => bif Nat.beq n 4 then some (fun σ kx => laws_eqBlockS_l0_h.get σ fun x => laws_eqBlockS_l0_F k k x kx) else none, fun _ => none⟩
def fe_laws_eqBlockS (k : Nat) : FE := ⟨(.pr (.sl 31 (.st (.pr .str (.pr .str .str)))) (.sl 31 (.st (.pr .str (.pr .str .str))))), 1, .bool, fun x => laws_eqBlockS k x.1 x.2⟩
theorem laws_eqBlockS_l0_ok (k : Nat) : LoopOK (mkEnv ti [(15, fe_laws_eqBlock)] (lk []) pins0 pinB0) (laws_eqBlockS_O k) (rdC (mkEnv ti [(15, fe_laws_eqBlock)] (lk []) pins0 pinB0) [.tmp 4] .bool) ((loopsOf (codeOf Tryd.f6)).getD 0 .skip) (fun σ kx => laws_eqBlockS_l0_h.get σ fun x => laws_eqBlockS_l0_F k k x kx) := by
  refine ⟨laws_eqBlockS_l0_h, [(0, laws_eqBlockS_l0_x0)], fun n x kx => laws_eqBlockS_l0_F k n x kx, k, by kernel_rfl, by kernel_rfl, fun x kx => by kernel_rfl, ?_, fun σ kx => rfl⟩
  rintro n ⟨⟨a0, b1, i5, ⟨⟩⟩, ⟨⟩, ⟨⟩⟩ kx
  kernel_rfl
theorem ok_laws_eqBlockS (k : Nat) : FnOK Tryd.prog 6 (fe_laws_eqBlockS k) := by
  refine closed_ok (tab := [(15, fe_laws_eqBlock)]) (l := []) ti_ok ti_ht mix (List.forall_mem_cons.2 ⟨ok_laws_eqBlock, (List.forall_mem_nil _)⟩) (List.forall_mem_nil _) ⟨⟨Tryd.f6, (codeOf Tryd.f6), [.tmp 4], (laws_eqBlockS_O k), by kernel_rfl, by kernel_rfl, by kernel_rfl, by kernel_rfl, rfl, by decide, ⟨by kernel_rfl, ?_, ?_⟩, ?_⟩⟩
  · refine loops_of (n := 1) (by kernel_rfl) fun i hi => ?_
    match i, hi with
    | 0, _ => exact loop_of (by kernel_rfl) (laws_eqBlockS_l0_ok k)
    | n + 1, hi => omega
  · exact no_cuts (by kernel_rfl)
  · rintro ⟨a0, b1⟩
    kernel_rfl
/- 16 loop.example/g01005/laws.markText -/
def laws_markText_l0 (k : Nat) : Nat → Int → (List UInt8) → ((List UInt8) → Option (List UInt8)) → Option (List UInt8)
  | 0, _, _, _ => none
  | n + 1, k0, out3, e_0 => (if (decide (0 < k0)) = true then (if (to_S [(w_u8 ((w_i64 (48 + (Int.tmod k0 10)))))]).length + out3.length ≤ 9223372036854775807 then laws_markText_l0 k n (w_i64 (Int.tdiv k0 10)) ((to_S [(w_u8 ((w_i64 (48 + (Int.tmod k0 10)))))]) ++ out3) e_0 else none) else e_0 out3)
def laws_markText (k : Nat) (k0 : Int) : Option (List UInt8) := (if (decide (k0 ≤ 0)) = true then some [109, 48] else laws_markText_l0 k k k0 [] (fun out_1 => (if [109].length + out_1.length ≤ 9223372036854775807 then some ([109] ++ out_1) else none)))
def laws_markText_l0_h : Head := ⟨[(0, (.val (.int .i64))), (3, (.val .str))], [], []⟩
def laws_markText_l0_x0 : Head := ⟨[(3, (.val .str))], [], []⟩
def laws_markText_l0_F (k n : Nat) (x : laws_markText_l0_h.T) (kx : Nat → St → Option (List UInt8)) : Option (List UInt8) := laws_markText_l0 k n x.1.1 x.1.2.1 (fun (out3 : List UInt8) => kx 0 (laws_markText_l0_x0.fill ((out3, ()), (), ())))
def laws_markText_O (k : Nat) : Oracles (List UInt8) := ⟨fun n => bif Nat.beq n 4 then some (fun σ kx => laws_markText_l0_h.get σ fun x => laws_markText_l0_F k k x kx) else none, fun _ => none⟩
def fe_laws_markText (k : Nat) : FE := ⟨(.int .i64), 1, .str, fun x => laws_markText k x⟩
theorem laws_markText_l0_ok (k : Nat) : LoopOK (mkEnv ti [] (lk []) pins0 pinB0) (laws_markText_O k) (rdC (mkEnv ti [] (lk []) pins0 pinB0) [.tmp 2] .str) ((loopsOf (codeOf Tryd.f16)).getD 0 .skip) (fun σ kx => laws_markText_l0_h.get σ fun x => laws_markText_l0_F k k x kx) := by
  refine ⟨laws_markText_l0_h, [(0, laws_markText_l0_x0)], fun n x kx => laws_markText_l0_F k n x kx, k, by kernel_rfl, by kernel_rfl, fun x kx => by kernel_rfl, ?_, fun σ kx => rfl⟩
  rintro n ⟨⟨k0, out3, ⟨⟩⟩, ⟨⟩, ⟨⟩⟩ kx
  kernel_rfl
theorem ok_laws_markText (k : Nat) : FnOK Tryd.prog 16 (fe_laws_markText k) := by
  refine closed_ok (tab := []) (l := []) ti_ok ti_ht mix (List.forall_mem_nil _) (List.forall_mem_nil _) ⟨⟨Tryd.f16, (codeOf Tryd.f16), [.tmp 2], (laws_markText_O k), by kernel_rfl, by kernel_rfl, by kernel_rfl, by kernel_rfl, rfl, by decide, ⟨by kernel_rfl, ?_, ?_⟩, ?_⟩⟩
  · refine loops_of (n := 1) (by kernel_rfl) fun i hi => ?_
    match i, hi with
    | 0, _ => exact loop_of (by kernel_rfl) (laws_markText_l0_ok k)
    | n + 1, hi => omega
  · exact no_cuts (by kernel_rfl)
  · rintro k0
    kernel_rfl
/- 7 loop.example/g01005/laws.markBlockS (open) -/
def laws_markBlockS_o_l0 (k : Nat) : Nat → Int → Int → (List (List UInt8 × List UInt8 × List UInt8)) → (Int → (List (List UInt8 × List UInt8 × List UInt8)) → Option (((Int × Unit) × ((List (List UInt8 × List UInt8 × List UInt8)) × Unit) × Unit))) → Option (((Int × Unit) × ((List (List UInt8 × List UInt8 × List UInt8)) × Unit) × Unit))
  | 0, _, _, _, _ => none
  | n + 1, k1, i5, q_2, e_0 => (if (decide (i5 < (List.length q_2 : Int))) = true then (laws_markText k k1).bind fun r_3 => (if 0 ≤ i5 ∧ i5.toNat < List.length q_2 then (q_2[i5.toNat]?).bind fun y_4 => (q_2[i5.toNat]?).bind fun y_5 => (laws_markText k (w_i64 (k1 + 1))).bind fun r_6 => (if 0 ≤ i5 ∧ i5.toNat < List.length (q_2.set i5.toNat (r_3, y_4.2)) then ((q_2.set i5.toNat (r_3, y_4.2))[i5.toNat]?).bind fun y_7 => ((q_2.set i5.toNat (r_3, y_4.2))[i5.toNat]?).bind fun y_8 => (laws_markText k (w_i64 ((w_i64 (k1 + 1)) + 1))).bind fun r_9 => (if 0 ≤ i5 ∧ i5.toNat < List.length ((q_2.set i5.toNat (r_3, y_4.2)).set i5.toNat (y_7.1, (r_6, y_7.2.2))) then (((q_2.set i5.toNat (r_3, y_4.2)).set i5.toNat (y_7.1, (r_6, y_7.2.2)))[i5.toNat]?).bind fun y_10 => (((q_2.set i5.toNat (r_3, y_4.2)).set i5.toNat (y_7.1, (r_6, y_7.2.2)))[i5.toNat]?).bind fun y_11 => laws_markBlockS_o_l0 k n (w_i64 ((w_i64 ((w_i64 (k1 + 1)) + 1)) + 1)) (w_i64 (i5 + 1)) (((q_2.set i5.toNat (r_3, y_4.2)).set i5.toNat (y_7.1, (r_6, y_7.2.2))).set i5.toNat (y_10.1, (y_10.2.1, r_9))) e_0 else none) else none) else none) else e_0 k1 q_2)
def laws_markBlockS_o (k : Nat) (k1 : Int) (q_1 : List (List UInt8 × List UInt8 × List UInt8)) : Option (((Int × Unit) × ((List (List UInt8 × List UInt8 × List UInt8)) × Unit) × Unit)) := laws_markBlockS_o_l0 k k k1 0 q_1 (fun k_12 q_13 => some ((k_12, ()), (q_13, ()), ()))
def laws_markBlockS_o_l0_h : Head := ⟨[(0, (.ref 1000000000 [])), (1, (.val (.int .i64))), (5, (.val (.int .i64)))], [(1000000000, 31, (.st (.pr .str (.pr .str .str))), false)], []⟩
def laws_markBlockS_o_l0_x0 : Head := ⟨[(1, (.val (.int .i64)))], [(1000000000, 31, (.st (.pr .str (.pr .str .str))), false)], []⟩
def laws_markBlockS_o_l0_F (k n : Nat) (x : laws_markBlockS_o_l0_h.T) (kx : Nat → St → Option (((Int × Unit) × ((List (List UInt8 × List UInt8 × List UInt8)) × Unit) × Unit))) : Option (((Int × Unit) × ((List (List UInt8 × List UInt8 × List UInt8)) × Unit) × Unit)) := laws_markBlockS_o_l0 k n x.1.2.1 x.1.2.2.1 x.2.1.1 (fun (k1 : Int) (q_12 : List (List UInt8 × List UInt8 × List UInt8)) => kx 0 (laws_markBlockS_o_l0_x0.fill ((k1, ()), (q_12, ()), ())))
def laws_markBlockS_o_O (k : Nat) : Oracles (((Int × Unit) × ((List (List UInt8 × List UInt8 × List UInt8)) × Unit) × Unit)) := ⟨fun n => bif Nat.beq n 2 then some (fun σ kx => laws_markBlockS_o_l0_h.get σ fun x => laws_markBlockS_o_l0_F k k x kx) else none, fun _ => none⟩
def laws_markBlockS_o_hi : Head := ⟨[(0, (.ref 1000000000 [])), (1, (.val (.int .i64)))], [(1000000000, 31, (.st (.pr .str (.pr .str .str))), false)], []⟩
def laws_markBlockS_o_ho : Head := ⟨[(0, (.val (.int .i64)))], [(1000000000, 31, (.st (.pr .str (.pr .str .str))), false)], []⟩
def oc_laws_markBlockS_o (k : Nat) : OC := ⟨laws_markBlockS_o_hi, laws_markBlockS_o_ho, fun x => laws_markBlockS_o k x.1.2.1 x.2.1.1⟩
theorem laws_markBlockS_o_l0_ok (k : Nat) (pins : Nat → Value) (pinB : Nat → Nat) : LoopOK (mkEnv ti [(16, fe_laws_markText k)] (lk []) pins pinB) (laws_markBlockS_o_O k) (rdO (mkEnv ti [(16, fe_laws_markText k)] (lk []) pins pinB) [.tmp 4] laws_markBlockS_o_ho) ((loopsOf (codeOf Tryd.f7)).getD 0 .skip) (fun σ kx => laws_markBlockS_o_l0_h.get σ fun x => laws_markBlockS_o_l0_F k k x kx) := by
  refine ⟨laws_markBlockS_o_l0_h, [(0, laws_markBlockS_o_l0_x0)], fun n x kx => laws_markBlockS_o_l0_F k n x kx, k, by kernel_rfl, by kernel_rfl, fun x kx => by kernel_rfl, ?_, fun σ kx => rfl⟩
  rintro n ⟨⟨⟨⟩, k1, i5, ⟨⟩⟩, ⟨q_2, ⟨⟩⟩, ⟨⟩⟩ kx
  kernel_rfl
theorem ok_laws_markBlockS_o (k : Nat) : OpenOK Tryd.prog ti 7 (oc_laws_markBlockS_o k) := by
  refine open_ok (tab := [(16, fe_laws_markText k)]) (l := []) ti_ok ti_ht mix (List.forall_mem_cons.2 ⟨ok_laws_markText k, (List.forall_mem_nil _)⟩) (List.forall_mem_nil _) ⟨by kernel_rfl, by kernel_rfl, Tryd.f7, (codeOf Tryd.f7), [.tmp 4], (laws_markBlockS_o_O k), by kernel_rfl, by kernel_rfl, by kernel_rfl, by kernel_rfl, Nat.le_of_ble_eq_true (by kernel_rfl), fun pins pinB => ⟨⟨by kernel_rfl, ?_, ?_⟩, ?_⟩⟩
  · refine loops_of (n := 1) (by kernel_rfl) fun i hi => ?_
    match i, hi with
    | 0, _ => exact loop_of (by kernel_rfl) (laws_markBlockS_o_l0_ok k pins pinB)
    | n + 1, hi => omega
  · exact no_cuts (by kernel_rfl)
  · rintro ⟨⟨⟨⟩, k1, ⟨⟩⟩, ⟨q_1, ⟨⟩⟩, ⟨⟩⟩
    kernel_rfl
/- 8 loop.example/g01005/laws.heldBlockS -/
def laws_heldBlockS_l0 (k : Nat) : Nat → (List (List UInt8 × List UInt8 × List UInt8)) → Int → Int → (Int → Option Int) → Option Int
  | 0, _, _, _, _ => none
  | n + 1, a0, k1, i5, e_0 => (if (decide (i5 < (List.length a0 : Int))) = true then (if 0 ≤ i5 then (a0[i5.toNat]?).bind fun y_1 => (laws_markText k k1).bind fun r_2 => (if (!(decide (y_1.1 = r_2))) = true then some (-1) else (if 0 ≤ i5 then (a0[i5.toNat]?).bind fun y_3 => (laws_markText k (w_i64 (k1 + 1))).bind fun r_4 => (if (!(decide (y_3.2.1 = r_4))) = true then some (-1) else (if 0 ≤ i5 then (a0[i5.toNat]?).bind fun y_5 => (laws_markText k (w_i64 ((w_i64 (k1 + 1)) + 1))).bind fun r_6 => (if (!(decide (y_5.2.2 = r_6))) = true then some (-1) else laws_heldBlockS_l0 k n a0 (w_i64 ((w_i64 ((w_i64 (k1 + 1)) + 1)) + 1)) (w_i64 (i5 + 1)) e_0) else none)) else none)) else none) else e_0 k1)
def laws_heldBlockS (k : Nat) (a0 : List (List UInt8 × List UInt8 × List UInt8)) (k1 : Int) : Option Int := laws_heldBlockS_l0 k k a0 k1 0 (fun k_7 => some k_7)
def laws_heldBlockS_l0_h : Head := ⟨[(0, (.val (.sl 31 (.st (.pr .str (.pr .str .str)))))), (1, (.val (.int .i64))), (5, (.val (.int .i64)))], [], []⟩
def laws_heldBlockS_l0_x0 : Head := ⟨[(1, (.val (.int .i64)))], [], []⟩
def laws_heldBlockS_l0_F (k n : Nat) (x : laws_heldBlockS_l0_h.T) (kx : Nat → St → Option Int) : Option Int := laws_heldBlockS_l0 k n x.1.1 x.1.2.1 x.1.2.2.1 (fun (k1 : Int) => kx 0 (laws_heldBlockS_l0_x0.fill ((k1, ()), (), ())))
def laws_heldBlockS_O (k : Nat) : Oracles Int := ⟨fun n => bif Nat.beq n 2 then some (fun σ kx => laws_heldBlockS_l0_h.get σ fun x => laws_heldBlockS_l0_F k k x kx) else none, fun _ => none⟩
def fe_laws_heldBlockS (k : Nat) : FE := ⟨(.pr (.sl 31 (.st (.pr .str (.pr .str .str)))) (.int .i64)), 1, (.int .i64), fun x => laws_heldBlockS k x.1 x.2⟩
theorem laws_heldBlockS_l0_ok (k : Nat) : LoopOK (mkEnv ti [(16, fe_laws_markText k)] (lk []) pins0 pinB0) (laws_heldBlockS_O k) (rdC (mkEnv ti [(16, fe_laws_markText k)] (lk []) pins0 pinB0) [.tmp 4] (.int .i64)) ((loopsOf (codeOf Tryd.f8)).getD 0 .skip) (fun σ kx => laws_heldBlockS_l0_h.get σ fun x => laws_heldBlockS_l0_F k k x kx) := by
  refine ⟨laws_heldBlockS_l0_h, [(0, laws_heldBlockS_l0_x0)], fun n x kx => laws_heldBlockS_l0_F k n x kx, k, by kernel_rfl, by kernel_rfl, fun x kx => by kernel_rfl, ?_, fun σ kx => rfl⟩
  rintro n ⟨⟨a0, k1, i5, ⟨⟩⟩, ⟨⟩, ⟨⟩⟩ kx
  kernel_rfl
theorem ok_laws_heldBlockS (k : Nat) : FnOK Tryd.prog 8 (fe_laws_heldBlockS k) := by
  refine closed_ok (tab := [(16, fe_laws_markText k)]) (l := []) ti_ok ti_ht mix (List.forall_mem_cons.2 ⟨ok_laws_markText k, (List.forall_mem_nil _)⟩) (List.forall_mem_nil _) ⟨⟨Tryd.f8, (codeOf Tryd.f8), [.tmp 4], (laws_heldBlockS_O k), by kernel_rfl, by kernel_rfl, by kernel_rfl, by kernel_rfl, rfl, by decide, ⟨by kernel_rfl, ?_, ?_⟩, ?_⟩⟩
  · refine loops_of (n := 1) (by kernel_rfl) fun i hi => ?_
    match i, hi with
    | 0, _ => exact loop_of (by kernel_rfl) (laws_heldBlockS_l0_ok k)
    | n + 1, hi => omega
  · exact no_cuts (by kernel_rfl)
  · rintro ⟨a0, k1⟩
    kernel_rfl
/- 3 loop.example/g01005/laws.FnExactSalvageBlocks -/
def laws_FnExactSalvageBlocks (k : Nat) (aS0 : List UInt8) : Option Bool := (if (decide (1048576 < (List.length aS0 : Int))) = true then some true else (spec_SalvageBlocks k aS0).bind fun r_1 => (impl_SalvageBlocks k aS0).bind fun r_2 => (laws_eqBlockS k r_2 r_1).bind fun r_3 => (if (!r_3) = true then some false else (laws_markBlockS_o k 1 r_2).bind fun y_4 => (laws_heldBlockS k y_4.2.1.1 1).bind fun r_5 => (if (decide (r_5 < 0)) = true then some false else (if (!(decide (r_5 = y_4.1.1))) = true then some false else (impl_SalvageBlocks k aS0).bind fun r_6 => (laws_eqBlockS k r_6 r_1).bind fun r_7 => (if (!r_7) = true then some false else (laws_heldBlockS k y_4.2.1.1 1).bind fun r_8 => (if (decide (r_8 < 0)) = true then some false else (if (!(decide (r_8 = y_4.1.1))) = true then some false else some true)))))))
def fe_laws_FnExactSalvageBlocks (k : Nat) : FE := ⟨.str, 1, .bool, fun x => laws_FnExactSalvageBlocks k x⟩
theorem ok_laws_FnExactSalvageBlocks (k : Nat) : FnOK Tryd.prog 3 (fe_laws_FnExactSalvageBlocks k) := by
  refine closed_ok (tab := [(4, fe_spec_SalvageBlocks k), (5, fe_impl_SalvageBlocks k), (6, fe_laws_eqBlockS k), (8, fe_laws_heldBlockS k)]) (l := [(21, 7, oc_laws_markBlockS_o k)]) ti_ok ti_ht mix (List.forall_mem_cons.2 ⟨ok_spec_SalvageBlocks k, (List.forall_mem_cons.2 ⟨ok_impl_SalvageBlocks k, (List.forall_mem_cons.2 ⟨ok_laws_eqBlockS k, (List.forall_mem_cons.2 ⟨ok_laws_heldBlockS k, (List.forall_mem_nil _)⟩)⟩)⟩)⟩) (List.forall_mem_cons.2 ⟨ok_laws_markBlockS_o k, (List.forall_mem_nil _)⟩) ⟨⟨Tryd.f3, (codeOf Tryd.f3), [.tmp 2], (LOn Bool), by kernel_rfl, by kernel_rfl, by kernel_rfl, by kernel_rfl, rfl, by decide, ⟨by kernel_rfl, ?_, ?_⟩, ?_⟩⟩
  · exact no_loops (by kernel_rfl)
  · exact no_cuts (by kernel_rfl)
  · rintro aS0
    kernel_rfl
end
end Go.Proofs.YtfepelmocldcnaaDoor.Ev
