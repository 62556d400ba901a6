/- Functions of the program, as plain ones. No conditions. -/
import Derived.Test.YtackggcodaolaaaG3
import Derived.KernelRfl
set_option linter.unusedVariables false
set_option maxRecDepth 100000
namespace Go.Proofs.Ytackggcodaolaaa.Ev
open Go.RowKit
noncomputable section
/- 102 slices.EqualFunc[[]loop.example/g01005/impl.Table,[]loop.example/g01005/impl.Table,loop.example/g01005/impl.Table,loop.example/g01005/impl.Table] -/
def slices_EqualFunc_impl_Table__impl_SameTable_l0 (k : Nat) : Nat → (List (List Int × List (List Int))) → Unit → (List (List Int × List (List Int))) → Int → Int → (Option Bool) → Option Bool
  | 0, _, _, _, _, _, _ => none
  | n + 1, s21, eq2, x15, x16, x17, e_0 => (if (decide (x17 < x16)) = true then (if 0 ≤ x17 then (x15[x17.toNat]?).bind fun y_1 => (if 0 ≤ x17 then (s21[x17.toNat]?).bind fun y_2 => (impl_SameTable k y_1 y_2).bind fun r_3 => (if (!r_3) = true then some false else slices_EqualFunc_impl_Table__impl_SameTable_l0 k n s21 eq2 x15 x16 (w_i64 (x17 + 1)) e_0) else none) else none) else e_0)
def slices_EqualFunc_impl_Table__impl_SameTable (k : Nat) (s10 : List (List Int × List (List Int))) (s21 : List (List Int × List (List Int))) (eq2 : Unit) : Option Bool := (if (!(decide ((List.length s10 : Int) = (List.length s21 : Int)))) = true then some false else slices_EqualFunc_impl_Table__impl_SameTable_l0 k k s21 eq2 s10 (List.length s10 : Int) 0 (some true))
def slices_EqualFunc_impl_Table__impl_SameTable_l0_h : Head := ⟨[(1, (.val (.sl 135 (.st (.pr (.sl 2 (.int .i64)) (.sl 54 (.sl 2 (.int .i64)))))))), (2, (.val (.fn 103 .un))), (15, (.val (.sl 135 (.st (.pr (.sl 2 (.int .i64)) (.sl 54 (.sl 2 (.int .i64)))))))), (16, (.val (.int .i64))), (17, (.val (.int .i64)))], [], []⟩
def slices_EqualFunc_impl_Table__impl_SameTable_l0_x0 : Head := ⟨[], [], []⟩
def slices_EqualFunc_impl_Table__impl_SameTable_l0_F (k n : Nat) (x : slices_EqualFunc_impl_Table__impl_SameTable_l0_h.T) (kx : Nat → St → Option Bool) : Option Bool := slices_EqualFunc_impl_Table__impl_SameTable_l0 k n x.1.1 x.1.2.1 x.1.2.2.1 x.1.2.2.2.1 x.1.2.2.2.2.1 (kx 0 (slices_EqualFunc_impl_Table__impl_SameTable_l0_x0.fill ((), (), ())))
def slices_EqualFunc_impl_Table__impl_SameTable_O (k : Nat) : Oracles Bool := ⟨fun n => bif Nat.beq n 4 then some (fun σ kx => slices_EqualFunc_impl_Table__impl_SameTable_l0_h.get σ fun x => slices_EqualFunc_impl_Table__impl_SameTable_l0_F k k x kx) else none, fun _ => none⟩
def fe_slices_EqualFunc_impl_Table__impl_SameTable (k : Nat) : FE := ⟨(.pr (.sl 135 (.st (.pr (.sl 2 (.int .i64)) (.sl 54 (.sl 2 (.int .i64)))))) (.pr (.sl 135 (.st (.pr (.sl 2 (.int .i64)) (.sl 54 (.sl 2 (.int .i64)))))) (.fn 103 .un))), 1, .bool, fun x => slices_EqualFunc_impl_Table__impl_SameTable k x.1 x.2.1 x.2.2⟩
theorem slices_EqualFunc_impl_Table__impl_SameTable_l0_ok (k : Nat) : LoopOK (mkEnv ti [(103, fe_impl_SameTable k)] (lk []) pins0 pinB0) (slices_EqualFunc_impl_Table__impl_SameTable_O k) (rdC (mkEnv ti [(103, fe_impl_SameTable k)] (lk []) pins0 pinB0) [.tmp 6] .bool) ((loopsOf (codeOf Try.f102)).getD 0 .skip) (fun σ kx => slices_EqualFunc_impl_Table__impl_SameTable_l0_h.get σ fun x => slices_EqualFunc_impl_Table__impl_SameTable_l0_F k k x kx) := by
  refine ⟨slices_EqualFunc_impl_Table__impl_SameTable_l0_h, [(0, slices_EqualFunc_impl_Table__impl_SameTable_l0_x0)], fun n x kx => slices_EqualFunc_impl_Table__impl_SameTable_l0_F k n x kx, k, by kernel_rfl, by kernel_rfl, fun x kx => by kernel_rfl, ?_, fun σ kx => rfl⟩
  rintro n ⟨⟨s21, eq2, x15, x16, x17, ⟨⟩⟩, ⟨⟩, ⟨⟩⟩ kx
  kernel_rfl
theorem ok_slices_EqualFunc_impl_Table__impl_SameTable (k : Nat) : FnOK Try.prog 102 (fe_slices_EqualFunc_impl_Table__impl_SameTable k) := by
  refine closed_ok (tab := [(103, fe_impl_SameTable k)]) (l := []) ti_ok ti_ht mix (List.forall_mem_cons.2 ⟨ok_impl_SameTable k, (List.forall_mem_nil _)⟩) (List.forall_mem_nil _) ⟨⟨Try.f102, (codeOf Try.f102), [.tmp 6], (slices_EqualFunc_impl_Table__impl_SameTable_O k), by kernel_rfl, by kernel_rfl, by kernel_rfl, by kernel_rfl, rfl, by decide, ⟨by kernel_rfl, ?_, ?_⟩, ?_⟩⟩
  · refine loops_of (n := 1) (by kernel_rfl) fun i hi => ?_
    match i, hi with
    | 0, _ => exact loop_of (by kernel_rfl) (slices_EqualFunc_impl_Table__impl_SameTable_l0_ok k)
    | n + 1, hi => omega
  · exact no_cuts (by kernel_rfl)
  · rintro ⟨s10, s21, eq2⟩
    kernel_rfl
/- 174 slices.Equal[[]string,string] -/
def slices_Equal_string_l0 (k : Nat) : Nat → (List (List UInt8)) → (List (List UInt8)) → Int → Int → (Option Bool) → Option Bool
  | 0, _, _, _, _, _ => none
  | n + 1, s10, s21, x12, x13, e_0 => (if (decide (x13 < x12)) = true then (if 0 ≤ x13 then (s10[x13.toNat]?).bind fun y_1 => (if 0 ≤ x13 then (s21[x13.toNat]?).bind fun y_2 => (if (!(decide (y_1 = y_2))) = true then some false else slices_Equal_string_l0 k n s10 s21 x12 (w_i64 (x13 + 1)) e_0) else none) else none) else e_0)
def slices_Equal_string (k : Nat) (s10 : List (List UInt8)) (s21 : List (List UInt8)) : Option Bool := (if (!(decide ((List.length s10 : Int) = (List.length s21 : Int)))) = true then some false else slices_Equal_string_l0 k k s10 s21 (List.length s10 : Int) 0 (some true))
def slices_Equal_string_l0_h : Head := ⟨[(0, (.val (.sl 9 .str))), (1, (.val (.sl 9 .str))), (12, (.val (.int .i64))), (13, (.val (.int .i64)))], [], []⟩
def slices_Equal_string_l0_x0 : Head := ⟨[], [], []⟩
def slices_Equal_string_l0_F (k n : Nat) (x : slices_Equal_string_l0_h.T) (kx : Nat → St → Option Bool) : Option Bool := slices_Equal_string_l0 k n x.1.1 x.1.2.1 x.1.2.2.1 x.1.2.2.2.1 (kx 0 (slices_Equal_string_l0_x0.fill ((), (), ())))
def slices_Equal_string_O (k : Nat) : Oracles Bool := ⟨fun n => bif Nat.beq n 4 then some (fun σ kx => slices_Equal_string_l0_h.get σ fun x => slices_Equal_string_l0_F k k x kx) else none, fun _ => none⟩
def fe_slices_Equal_string (k : Nat) : FE := ⟨(.pr (.sl 9 .str) (.sl 9 .str)), 1, .bool, fun x => slices_Equal_string k x.1 x.2⟩
theorem slices_Equal_string_l0_ok (k : Nat) : LoopOK (mkEnv ti [] (lk []) pins0 pinB0) (slices_Equal_string_O k) (rdC (mkEnv ti [] (lk []) pins0 pinB0) [.tmp 4] .bool) ((loopsOf (codeOf Try.f174)).getD 0 .skip) (fun σ kx => slices_Equal_string_l0_h.get σ fun x => slices_Equal_string_l0_F k k x kx) := by
  refine ⟨slices_Equal_string_l0_h, [(0, slices_Equal_string_l0_x0)], fun n x kx => slices_Equal_string_l0_F k n x kx, k, by kernel_rfl, by kernel_rfl, fun x kx => by kernel_rfl, ?_, fun σ kx => rfl⟩
  rintro n ⟨⟨s10, s21, x12, x13, ⟨⟩⟩, ⟨⟩, ⟨⟩⟩ kx
  kernel_rfl
theorem ok_slices_Equal_string (k : Nat) : FnOK Try.prog 174 (fe_slices_Equal_string k) := by
  refine closed_ok (tab := []) (l := []) ti_ok ti_ht mix (List.forall_mem_nil _) (List.forall_mem_nil _) ⟨⟨Try.f174, (codeOf Try.f174), [.tmp 4], (slices_Equal_string_O k), by kernel_rfl, by kernel_rfl, by kernel_rfl, by kernel_rfl, rfl, by decide, ⟨by kernel_rfl, ?_, ?_⟩, ?_⟩⟩
  · refine loops_of (n := 1) (by kernel_rfl) fun i hi => ?_
    match i, hi with
    | 0, _ => exact loop_of (by kernel_rfl) (slices_Equal_string_l0_ok k)
    | n + 1, hi => omega
  · exact no_cuts (by kernel_rfl)
  · rintro ⟨s10, s21⟩
    kernel_rfl
/- 173 loop.example/g01005/impl.SameItems$1 -/
def impl_SameItems_1 (k : Nat) (x0 : List UInt8 × List (List UInt8) × Int × Int) (y1 : List UInt8 × List (List UInt8) × Int × Int) : Option Bool := (if (decide (x0.1 = y1.1)) = true then (slices_Equal_string k x0.2.1 y1.2.1).bind fun r_1 => (if r_1 = true then (if (decide (x0.2.2.1 = y1.2.2.1)) = true then some (decide (x0.2.2.2 = y1.2.2.2)) else some false) else some false) else some false)
def fe_impl_SameItems_1 (k : Nat) : FE := ⟨(.pr (.st (.pr .str (.pr (.sl 9 .str) (.pr (.int .i64) (.int .i64))))) (.st (.pr .str (.pr (.sl 9 .str) (.pr (.int .i64) (.int .i64)))))), 1, .bool, fun x => impl_SameItems_1 k x.1 x.2⟩
theorem ok_impl_SameItems_1 (k : Nat) : FnOK Try.prog 173 (fe_impl_SameItems_1 k) := by
  refine closed_ok (tab := [(174, fe_slices_Equal_string k)]) (l := []) ti_ok ti_ht mix (List.forall_mem_cons.2 ⟨ok_slices_Equal_string k, (List.forall_mem_nil _)⟩) (List.forall_mem_nil _) ⟨⟨Try.f173, (codeOf Try.f173), [.tmp 4], (LOn Bool), by kernel_rfl, by kernel_rfl, by kernel_rfl, by kernel_rfl, rfl, by decide, ⟨by kernel_rfl, ?_, ?_⟩, ?_⟩⟩
  · exact no_loops (by kernel_rfl)
  · exact no_cuts (by kernel_rfl)
  · rintro ⟨x0, y1⟩
    kernel_rfl
/- 172 slices.EqualFunc[[]loop.example/g01005/impl.Item,[]loop.example/g01005/impl.Item,loop.example/g01005/impl.Item,loop.example/g01005/impl.Item] -/
def slices_EqualFunc_impl_Item__impl_SameItems_1_l0 (k : Nat) : Nat → (List (List UInt8 × List (List UInt8) × Int × Int)) → Unit → (List (List UInt8 × List (List UInt8) × Int × Int)) → Int → Int → (Option Bool) → Option Bool
  | 0, _, _, _, _, _, _ => none
  | n + 1, s21, eq2, x15, x16, x17, e_0 => (if (decide (x17 < x16)) = true then (if 0 ≤ x17 then (x15[x17.toNat]?).bind fun y_1 => (if 0 ≤ x17 then (s21[x17.toNat]?).bind fun y_2 => (impl_SameItems_1 k y_1 y_2).bind fun r_3 => (if (!r_3) = true then some false else slices_EqualFunc_impl_Item__impl_SameItems_1_l0 k n s21 eq2 x15 x16 (w_i64 (x17 + 1)) e_0) else none) else none) else e_0)
def slices_EqualFunc_impl_Item__impl_SameItems_1 (k : Nat) (s10 : List (List UInt8 × List (List UInt8) × Int × Int)) (s21 : List (List UInt8 × List (List UInt8) × Int × Int)) (eq2 : Unit) : Option Bool := (if (!(decide ((List.length s10 : Int) = (List.length s21 : Int)))) = true then some false else slices_EqualFunc_impl_Item__impl_SameItems_1_l0 k k s21 eq2 s10 (List.length s10 : Int) 0 (some true))
def slices_EqualFunc_impl_Item__impl_SameItems_1_l0_h : Head := ⟨[(1, (.val (.sl 156 (.st (.pr .str (.pr (.sl 9 .str) (.pr (.int .i64) (.int .i64)))))))), (2, (.val (.fn 173 .un))), (15, (.val (.sl 156 (.st (.pr .str (.pr (.sl 9 .str) (.pr (.int .i64) (.int .i64)))))))), (16, (.val (.int .i64))), (17, (.val (.int .i64)))], [], []⟩
def slices_EqualFunc_impl_Item__impl_SameItems_1_l0_x0 : Head := ⟨[], [], []⟩
def slices_EqualFunc_impl_Item__impl_SameItems_1_l0_F (k n : Nat) (x : slices_EqualFunc_impl_Item__impl_SameItems_1_l0_h.T) (kx : Nat → St → Option Bool) : Option Bool := slices_EqualFunc_impl_Item__impl_SameItems_1_l0 k n x.1.1 x.1.2.1 x.1.2.2.1 x.1.2.2.2.1 x.1.2.2.2.2.1 (kx 0 (slices_EqualFunc_impl_Item__impl_SameItems_1_l0_x0.fill ((), (), ())))
def slices_EqualFunc_impl_Item__impl_SameItems_1_O (k : Nat) : Oracles Bool := ⟨fun n => bif Nat.beq n 4 then some (fun σ kx => slices_EqualFunc_impl_Item__impl_SameItems_1_l0_h.get σ fun x => slices_EqualFunc_impl_Item__impl_SameItems_1_l0_F k k x kx) else none, fun _ => none⟩
def fe_slices_EqualFunc_impl_Item__impl_SameItems_1 (k : Nat) : FE := ⟨(.pr (.sl 156 (.st (.pr .str (.pr (.sl 9 .str) (.pr (.int .i64) (.int .i64)))))) (.pr (.sl 156 (.st (.pr .str (.pr (.sl 9 .str) (.pr (.int .i64) (.int .i64)))))) (.fn 173 .un))), 1, .bool, fun x => slices_EqualFunc_impl_Item__impl_SameItems_1 k x.1 x.2.1 x.2.2⟩
theorem slices_EqualFunc_impl_Item__impl_SameItems_1_l0_ok (k : Nat) : LoopOK (mkEnv ti [(173, fe_impl_SameItems_1 k)] (lk []) pins0 pinB0) (slices_EqualFunc_impl_Item__impl_SameItems_1_O k) (rdC (mkEnv ti [(173, fe_impl_SameItems_1 k)] (lk []) pins0 pinB0) [.tmp 6] .bool) ((loopsOf (codeOf Try.f172)).getD 0 .skip) (fun σ kx => slices_EqualFunc_impl_Item__impl_SameItems_1_l0_h.get σ fun x => slices_EqualFunc_impl_Item__impl_SameItems_1_l0_F k k x kx) := by
  refine ⟨slices_EqualFunc_impl_Item__impl_SameItems_1_l0_h, [(0, slices_EqualFunc_impl_Item__impl_SameItems_1_l0_x0)], fun n x kx => slices_EqualFunc_impl_Item__impl_SameItems_1_l0_F k n x kx, k, by kernel_rfl, by kernel_rfl, fun x kx => by kernel_rfl, ?_, fun σ kx => rfl⟩
  rintro n ⟨⟨s21, eq2, x15, x16, x17, ⟨⟩⟩, ⟨⟩, ⟨⟩⟩ kx
  kernel_rfl
theorem ok_slices_EqualFunc_impl_Item__impl_SameItems_1 (k : Nat) : FnOK Try.prog 172 (fe_slices_EqualFunc_impl_Item__impl_SameItems_1 k) := by
  refine closed_ok (tab := [(173, fe_impl_SameItems_1 k)]) (l := []) ti_ok ti_ht mix (List.forall_mem_cons.2 ⟨ok_impl_SameItems_1 k, (List.forall_mem_nil _)⟩) (List.forall_mem_nil _) ⟨⟨Try.f172, (codeOf Try.f172), [.tmp 6], (slices_EqualFunc_impl_Item__impl_SameItems_1_O k), by kernel_rfl, by kernel_rfl, by kernel_rfl, by kernel_rfl, rfl, by decide, ⟨by kernel_rfl, ?_, ?_⟩, ?_⟩⟩
  · refine loops_of (n := 1) (by kernel_rfl) fun i hi => ?_
    match i, hi with
    | 0, _ => exact loop_of (by kernel_rfl) (slices_EqualFunc_impl_Item__impl_SameItems_1_l0_ok k)
    | n + 1, hi => omega
  · exact no_cuts (by kernel_rfl)
  · rintro ⟨s10, s21, eq2⟩
    kernel_rfl
/- 104 loop.example/g01005/impl.SameItems -/
def impl_SameItems (k : Nat) (a0 : List (List UInt8 × List (List UInt8) × Int × Int)) (b1 : List (List UInt8 × List (List UInt8) × Int × Int)) : Option Bool := (slices_EqualFunc_impl_Item__impl_SameItems_1 k a0 b1 ()).bind fun r_1 => some r_1
def fe_impl_SameItems (k : Nat) : FE := ⟨(.pr (.sl 156 (.st (.pr .str (.pr (.sl 9 .str) (.pr (.int .i64) (.int .i64)))))) (.sl 156 (.st (.pr .str (.pr (.sl 9 .str) (.pr (.int .i64) (.int .i64))))))), 1, .bool, fun x => impl_SameItems k x.1 x.2⟩
theorem ok_impl_SameItems (k : Nat) : FnOK Try.prog 104 (fe_impl_SameItems k) := by
  refine closed_ok (tab := [(172, fe_slices_EqualFunc_impl_Item__impl_SameItems_1 k)]) (l := []) ti_ok ti_ht mix (List.forall_mem_cons.2 ⟨ok_slices_EqualFunc_impl_Item__impl_SameItems_1 k, (List.forall_mem_nil _)⟩) (List.forall_mem_nil _) ⟨⟨Try.f104, (codeOf Try.f104), [.tmp 4], (LOn Bool), by kernel_rfl, by kernel_rfl, by kernel_rfl, by kernel_rfl, rfl, by decide, ⟨by kernel_rfl, ?_, ?_⟩, ?_⟩⟩
  · exact no_loops (by kernel_rfl)
  · exact no_cuts (by kernel_rfl)
  · rintro ⟨a0, b1⟩
    kernel_rfl
/- 37 loop.example/g01005/impl.SameDesk -/
def impl_SameDesk (k : Nat) (a0 : (List (List Int) × Int × List Int × List (Int × Int × Int × List Int)) × List Int × (Int × List (Int × Int × Int)) × List Int × (Int × Int × Int × List Int) × (List (List Int × List (List Int))) × (List (List Int) × List Int) × List (List UInt8 × List (List UInt8) × Int × Int)) (b1 : (List (List Int) × Int × List Int × List (Int × Int × Int × List Int)) × List Int × (Int × List (Int × Int × Int)) × List Int × (Int × Int × Int × List Int) × (List (List Int × List (List Int))) × (List (List Int) × List Int) × List (List UInt8 × List (List UInt8) × Int × Int)) : Option Bool := (impl_SameSheaf k a0.1 b1.1).bind fun r_1 => (if (!r_1) = true then some false else (slices_Equal_int64 k a0.2.1 b1.2.1).bind fun r_2 => (if (!r_2) = true then some false else (impl_SameGraph k a0.2.2.1 b1.2.2.1).bind fun r_3 => (if (!r_3) = true then some false else (slices_Equal_int64 k a0.2.2.2.1 b1.2.2.2.1).bind fun r_4 => (if (!r_4) = true then some false else (impl_SameComplex k a0.2.2.2.2.2.2.1.1 b1.2.2.2.2.2.2.1.1).bind fun r_5 => (if r_5 = true then (slices_Equal_int64 k a0.2.2.2.2.2.2.1.2 b1.2.2.2.2.2.2.1.2).bind fun r_6 => (impl_SameMatrix k a0.2.2.2.2.1 b1.2.2.2.2.1).bind fun r_7 => (if r_7 = true then (slices_EqualFunc_impl_Table__impl_SameTable k a0.2.2.2.2.2.1 b1.2.2.2.2.2.1 ()).bind fun r_8 => (if r_8 = true then (if r_6 = true then (impl_SameItems k a0.2.2.2.2.2.2.2 b1.2.2.2.2.2.2.2).bind fun r_9 => some r_9 else some false) else some false) else some false) else (impl_SameMatrix k a0.2.2.2.2.1 b1.2.2.2.2.1).bind fun r_10 => (if r_10 = true then (slices_EqualFunc_impl_Table__impl_SameTable k a0.2.2.2.2.2.1 b1.2.2.2.2.2.1 ()).bind fun r_11 => (if r_11 = true then some false else some false) else some false))))))
def fe_impl_SameDesk (k : Nat) : FE := ⟨(.pr (.st (.pr (.st (.pr (.st (.sl 54 (.sl 2 (.int .i64)))) (.pr (.int .i64) (.pr (.sl 2 (.int .i64)) (.sl 77 (.st (.pr (.int .i64) (.pr (.int .i64) (.pr (.int .i64) (.sl 2 (.int .i64))))))))))) (.pr (.sl 2 (.int .i64)) (.pr (.st (.pr (.int .i64) (.sl 204 (.st (.pr (.int .i64) (.pr (.int .i64) (.int .i64))))))) (.pr (.sl 2 (.int .i64)) (.pr (.st (.pr (.int .i64) (.pr (.int .i64) (.pr (.int .i64) (.sl 2 (.int .i64)))))) (.pr (.sl 135 (.st (.pr (.sl 2 (.int .i64)) (.sl 54 (.sl 2 (.int .i64)))))) (.pr (.st (.pr (.st (.sl 54 (.sl 2 (.int .i64)))) (.sl 2 (.int .i64)))) (.sl 156 (.st (.pr .str (.pr (.sl 9 .str) (.pr (.int .i64) (.int .i64)))))))))))))) (.st (.pr (.st (.pr (.st (.sl 54 (.sl 2 (.int .i64)))) (.pr (.int .i64) (.pr (.sl 2 (.int .i64)) (.sl 77 (.st (.pr (.int .i64) (.pr (.int .i64) (.pr (.int .i64) (.sl 2 (.int .i64))))))))))) (.pr (.sl 2 (.int .i64)) (.pr (.st (.pr (.int .i64) (.sl 204 (.st (.pr (.int .i64) (.pr (.int .i64) (.int .i64))))))) (.pr (.sl 2 (.int .i64)) (.pr (.st (.pr (.int .i64) (.pr (.int .i64) (.pr (.int .i64) (.sl 2 (.int .i64)))))) (.pr (.sl 135 (.st (.pr (.sl 2 (.int .i64)) (.sl 54 (.sl 2 (.int .i64)))))) (.pr (.st (.pr (.st (.sl 54 (.sl 2 (.int .i64)))) (.sl 2 (.int .i64)))) (.sl 156 (.st (.pr .str (.pr (.sl 9 .str) (.pr (.int .i64) (.int .i64))))))))))))))), 1, .bool, fun x => impl_SameDesk k x.1 x.2⟩
theorem ok_impl_SameDesk (k : Nat) : FnOK Try.prog 37 (fe_impl_SameDesk k) := by
  refine closed_ok (tab := [(97, fe_impl_SameSheaf k), (98, fe_slices_Equal_int64 k), (99, fe_impl_SameGraph k), (100, fe_impl_SameComplex k), (101, fe_impl_SameMatrix k), (102, fe_slices_EqualFunc_impl_Table__impl_SameTable k), (104, fe_impl_SameItems k)]) (l := []) ti_ok ti_ht mix (List.forall_mem_cons.2 ⟨ok_impl_SameSheaf k, (List.forall_mem_cons.2 ⟨ok_slices_Equal_int64 k, (List.forall_mem_cons.2 ⟨ok_impl_SameGraph k, (List.forall_mem_cons.2 ⟨ok_impl_SameComplex k, (List.forall_mem_cons.2 ⟨ok_impl_SameMatrix k, (List.forall_mem_cons.2 ⟨ok_slices_EqualFunc_impl_Table__impl_SameTable k, (List.forall_mem_cons.2 ⟨ok_impl_SameItems k, (List.forall_mem_nil _)⟩)⟩)⟩)⟩)⟩)⟩)⟩) (List.forall_mem_nil _) ⟨⟨Try.f37, (codeOf Try.f37), [.tmp 4], (LOn Bool), by kernel_rfl, by kernel_rfl, by kernel_rfl, by kernel_rfl, rfl, by decide, ⟨by kernel_rfl, ?_, ?_⟩, ?_⟩⟩
  · exact no_loops (by kernel_rfl)
  · exact no_cuts (by kernel_rfl)
  · rintro ⟨a0, b1⟩
    kernel_rfl
/- 106 loop.example/g01005/laws.eqInt64S -/
def laws_eqInt64S_l0 (k : Nat) : Nat → (List Int) → (List Int) → Int → (Option Bool) → Option Bool
  | 0, _, _, _, _ => none
  | n + 1, a0, b1, i5, e_0 => (if (decide (i5 < (List.length a0 : Int))) = true then (if 0 ≤ i5 then (a0[i5.toNat]?).bind fun y_1 => (if 0 ≤ i5 then (b1[i5.toNat]?).bind fun y_2 => (if (!(decide (y_1 = y_2))) = true then some false else laws_eqInt64S_l0 k n a0 b1 (w_i64 (i5 + 1)) e_0) else none) else none) else e_0)
def laws_eqInt64S (k : Nat) (a0 : List Int) (b1 : List Int) : Option Bool := (if (!(decide ((List.length a0 : Int) = (List.length b1 : Int)))) = true then some false else laws_eqInt64S_l0 k k a0 b1 0 (some true))
def laws_eqInt64S_l0_h : Head := ⟨[(0, (.val (.sl 2 (.int .i64)))), (1, (.val (.sl 2 (.int .i64)))), (5, (.val (.int .i64)))], [], []⟩
def laws_eqInt64S_l0_x0 : Head := ⟨[], [], []⟩
def laws_eqInt64S_l0_F (k n : Nat) (x : laws_eqInt64S_l0_h.T) (kx : Nat → St → Option Bool) : Option Bool := laws_eqInt64S_l0 k n x.1.1 x.1.2.1 x.1.2.2.1 (kx 0 (laws_eqInt64S_l0_x0.fill ((), (), ())))
def laws_eqInt64S_O (k : Nat) : Oracles Bool := ⟨fun n => bif Nat.beq n 4 then some (fun σ kx => laws_eqInt64S_l0_h.get σ fun x => laws_eqInt64S_l0_F k k x kx) else none, fun _ => none⟩
def fe_laws_eqInt64S (k : Nat) : FE := ⟨(.pr (.sl 2 (.int .i64)) (.sl 2 (.int .i64))), 1, .bool, fun x => laws_eqInt64S k x.1 x.2⟩
theorem laws_eqInt64S_l0_ok (k : Nat) : LoopOK (mkEnv ti [] (lk []) pins0 pinB0) (laws_eqInt64S_O k) (rdC (mkEnv ti [] (lk []) pins0 pinB0) [.tmp 4] .bool) ((loopsOf (codeOf Try.f106)).getD 0 .skip) (fun σ kx => laws_eqInt64S_l0_h.get σ fun x => laws_eqInt64S_l0_F k k x kx) := by
  refine ⟨laws_eqInt64S_l0_h, [(0, laws_eqInt64S_l0_x0)], fun n x kx => laws_eqInt64S_l0_F k n x kx, k, by kernel_rfl, by kernel_rfl, fun x kx => by kernel_rfl, ?_, fun σ kx => rfl⟩
  rintro n ⟨⟨a0, b1, i5, ⟨⟩⟩, ⟨⟩, ⟨⟩⟩ kx
  kernel_rfl
theorem ok_laws_eqInt64S (k : Nat) : FnOK Try.prog 106 (fe_laws_eqInt64S k) := by
  refine closed_ok (tab := []) (l := []) ti_ok ti_ht mix (List.forall_mem_nil _) (List.forall_mem_nil _) ⟨⟨Try.f106, (codeOf Try.f106), [.tmp 4], (laws_eqInt64S_O k), by kernel_rfl, by kernel_rfl, by kernel_rfl, by kernel_rfl, rfl, by decide, ⟨by kernel_rfl, ?_, ?_⟩, ?_⟩⟩
  · refine loops_of (n := 1) (by kernel_rfl) fun i hi => ?_
    match i, hi with
    | 0, _ => exact loop_of (by kernel_rfl) (laws_eqInt64S_l0_ok k)
    | n + 1, hi => omega
  · exact no_cuts (by kernel_rfl)
  · rintro ⟨a0, b1⟩
    kernel_rfl
/- 76 loop.example/g01005/laws.eqInt64SS -/
def laws_eqInt64SS_l0 (k : Nat) : Nat → (List (List Int)) → (List (List Int)) → Int → (Option Bool) → Option Bool
  | 0, _, _, _, _ => none
  | n + 1, a0, b1, i5, e_0 => (if (decide (i5 < (List.length a0 : Int))) = true then (if 0 ≤ i5 then (a0[i5.toNat]?).bind fun y_1 => (if 0 ≤ i5 then (b1[i5.toNat]?).bind fun y_2 => (laws_eqInt64S k y_1 y_2).bind fun r_3 => (if (!r_3) = true then some false else laws_eqInt64SS_l0 k n a0 b1 (w_i64 (i5 + 1)) e_0) else none) else none) else e_0)
def laws_eqInt64SS (k : Nat) (a0 : List (List Int)) (b1 : List (List Int)) : Option Bool := (if (!(decide ((List.length a0 : Int) = (List.length b1 : Int)))) = true then some false else laws_eqInt64SS_l0 k k a0 b1 0 (some true))
def laws_eqInt64SS_l0_h : Head := ⟨[(0, (.val (.sl 54 (.sl 2 (.int .i64))))), (1, (.val (.sl 54 (.sl 2 (.int .i64))))), (5, (.val (.int .i64)))], [], []⟩
def laws_eqInt64SS_l0_x0 : Head := ⟨[], [], []⟩
def laws_eqInt64SS_l0_F (k n : Nat) (x : laws_eqInt64SS_l0_h.T) (kx : Nat → St → Option Bool) : Option Bool := laws_eqInt64SS_l0 k n x.1.1 x.1.2.1 x.1.2.2.1 (kx 0 (laws_eqInt64SS_l0_x0.fill ((), (), ())))
def laws_eqInt64SS_O (k : Nat) : Oracles Bool := ⟨fun n => bif Nat.beq n 4 then some (fun σ kx => laws_eqInt64SS_l0_h.get σ fun x => laws_eqInt64SS_l0_F k k x kx) else none, fun _ => none⟩
def fe_laws_eqInt64SS (k : Nat) : FE := ⟨(.pr (.sl 54 (.sl 2 (.int .i64))) (.sl 54 (.sl 2 (.int .i64)))), 1, .bool, fun x => laws_eqInt64SS k x.1 x.2⟩
theorem laws_eqInt64SS_l0_ok (k : Nat) : LoopOK (mkEnv ti [(106, fe_laws_eqInt64S k)] (lk []) pins0 pinB0) (laws_eqInt64SS_O k) (rdC (mkEnv ti [(106, fe_laws_eqInt64S k)] (lk []) pins0 pinB0) [.tmp 4] .bool) ((loopsOf (codeOf Try.f76)).getD 0 .skip) (fun σ kx => laws_eqInt64SS_l0_h.get σ fun x => laws_eqInt64SS_l0_F k k x kx) := by
  refine ⟨laws_eqInt64SS_l0_h, [(0, laws_eqInt64SS_l0_x0)], fun n x kx => laws_eqInt64SS_l0_F k n x kx, k, by kernel_rfl, by kernel_rfl, fun x kx => by kernel_rfl, ?_, fun σ kx => rfl⟩
  rintro n ⟨⟨a0, b1, i5, ⟨⟩⟩, ⟨⟩, ⟨⟩⟩ kx
  kernel_rfl
theorem ok_laws_eqInt64SS (k : Nat) : FnOK Try.prog 76 (fe_laws_eqInt64SS k) := by
  refine closed_ok (tab := [(106, fe_laws_eqInt64S k)]) (l := []) ti_ok ti_ht mix (List.forall_mem_cons.2 ⟨ok_laws_eqInt64S k, (List.forall_mem_nil _)⟩) (List.forall_mem_nil _) ⟨⟨Try.f76, (codeOf Try.f76), [.tmp 4], (laws_eqInt64SS_O k), by kernel_rfl, by kernel_rfl, by kernel_rfl, by kernel_rfl, rfl, by decide, ⟨by kernel_rfl, ?_, ?_⟩, ?_⟩⟩
  · refine loops_of (n := 1) (by kernel_rfl) fun i hi => ?_
    match i, hi with
    | 0, _ => exact loop_of (by kernel_rfl) (laws_eqInt64SS_l0_ok k)
    | n + 1, hi => omega
  · exact no_cuts (by kernel_rfl)
  · rintro ⟨a0, b1⟩
    kernel_rfl
/- 30 loop.example/g01005/laws.eqComplex -/
def laws_eqComplex (k : Nat) (a0 : List (List Int)) (b1 : List (List Int)) : Option Bool := (laws_eqInt64SS k a0 b1).bind fun r_1 => (if (!r_1) = true then some false else some true)
def fe_laws_eqComplex (k : Nat) : FE := ⟨(.pr (.st (.sl 54 (.sl 2 (.int .i64)))) (.st (.sl 54 (.sl 2 (.int .i64))))), 1, .bool, fun x => laws_eqComplex k x.1 x.2⟩
theorem ok_laws_eqComplex (k : Nat) : FnOK Try.prog 30 (fe_laws_eqComplex k) := by
  refine closed_ok (tab := [(76, fe_laws_eqInt64SS k)]) (l := []) ti_ok ti_ht mix (List.forall_mem_cons.2 ⟨ok_laws_eqInt64SS k, (List.forall_mem_nil _)⟩) (List.forall_mem_nil _) ⟨⟨Try.f30, (codeOf Try.f30), [.tmp 4], (LOn Bool), by kernel_rfl, by kernel_rfl, by kernel_rfl, by kernel_rfl, rfl, by decide, ⟨by kernel_rfl, ?_, ?_⟩, ?_⟩⟩
  · exact no_loops (by kernel_rfl)
  · exact no_cuts (by kernel_rfl)
  · rintro ⟨a0, b1⟩
    kernel_rfl
/- 108 loop.example/g01005/laws.eqMatrix -/
def laws_eqMatrix (k : Nat) (a0 : Int × Int × Int × List Int) (b1 : Int × Int × Int × List Int) : Option Bool := (if (!(decide (a0.1 = b1.1))) = true then some false else (if (!(decide (a0.2.1 = b1.2.1))) = true then some false else (if (!(decide (a0.2.2.1 = b1.2.2.1))) = true then some false else (laws_eqInt64S k a0.2.2.2 b1.2.2.2).bind fun r_1 => (if (!r_1) = true then some false else some true))))
def fe_laws_eqMatrix (k : Nat) : FE := ⟨(.pr (.st (.pr (.int .i64) (.pr (.int .i64) (.pr (.int .i64) (.sl 2 (.int .i64)))))) (.st (.pr (.int .i64) (.pr (.int .i64) (.pr (.int .i64) (.sl 2 (.int .i64))))))), 1, .bool, fun x => laws_eqMatrix k x.1 x.2⟩
theorem ok_laws_eqMatrix (k : Nat) : FnOK Try.prog 108 (fe_laws_eqMatrix k) := by
  refine closed_ok (tab := [(106, fe_laws_eqInt64S k)]) (l := []) ti_ok ti_ht mix (List.forall_mem_cons.2 ⟨ok_laws_eqInt64S k, (List.forall_mem_nil _)⟩) (List.forall_mem_nil _) ⟨⟨Try.f108, (codeOf Try.f108), [.tmp 4], (LOn Bool), by kernel_rfl, by kernel_rfl, by kernel_rfl, by kernel_rfl, rfl, by decide, ⟨by kernel_rfl, ?_, ?_⟩, ?_⟩⟩
  · exact no_loops (by kernel_rfl)
  · exact no_cuts (by kernel_rfl)
  · rintro ⟨a0, b1⟩
    kernel_rfl
/- 175 loop.example/g01005/laws.eqMatrixS -/
def laws_eqMatrixS_l0 (k : Nat) : Nat → (List (Int × Int × Int × List Int)) → (List (Int × Int × Int × List Int)) → Int → (Option Bool) → Option Bool
  | 0, _, _, _, _ => none
  | n + 1, a0, b1, i5, e_0 => (if (decide (i5 < (List.length a0 : Int))) = true then (if 0 ≤ i5 then (a0[i5.toNat]?).bind fun y_1 => (if 0 ≤ i5 then (b1[i5.toNat]?).bind fun y_2 => (laws_eqMatrix k y_1 y_2).bind fun r_3 => (if (!r_3) = true then some false else laws_eqMatrixS_l0 k n a0 b1 (w_i64 (i5 + 1)) e_0) else none) else none) else e_0)
def laws_eqMatrixS (k : Nat) (a0 : List (Int × Int × Int × List Int)) (b1 : List (Int × Int × Int × List Int)) : Option Bool := (if (!(decide ((List.length a0 : Int) = (List.length b1 : Int)))) = true then some false else laws_eqMatrixS_l0 k k a0 b1 0 (some true))
def laws_eqMatrixS_l0_h : Head := ⟨[(0, (.val (.sl 77 (.st (.pr (.int .i64) (.pr (.int .i64) (.pr (.int .i64) (.sl 2 (.int .i64))))))))), (1, (.val (.sl 77 (.st (.pr (.int .i64) (.pr (.int .i64) (.pr (.int .i64) (.sl 2 (.int .i64))))))))), (5, (.val (.int .i64)))], [], []⟩
def laws_eqMatrixS_l0_x0 : Head := ⟨[], [], []⟩
def laws_eqMatrixS_l0_F (k n : Nat) (x : laws_eqMatrixS_l0_h.T) (kx : Nat → St → Option Bool) : Option Bool := laws_eqMatrixS_l0 k n x.1.1 x.1.2.1 x.1.2.2.1 (kx 0 (laws_eqMatrixS_l0_x0.fill ((), (), ())))
def laws_eqMatrixS_O (k : Nat) : Oracles Bool := ⟨fun n => bif Nat.beq n 4 then some (fun σ kx => laws_eqMatrixS_l0_h.get σ fun x => laws_eqMatrixS_l0_F k k x kx) else none, fun _ => none⟩
def fe_laws_eqMatrixS (k : Nat) : FE := ⟨(.pr (.sl 77 (.st (.pr (.int .i64) (.pr (.int .i64) (.pr (.int .i64) (.sl 2 (.int .i64))))))) (.sl 77 (.st (.pr (.int .i64) (.pr (.int .i64) (.pr (.int .i64) (.sl 2 (.int .i64)))))))), 1, .bool, fun x => laws_eqMatrixS k x.1 x.2⟩
theorem laws_eqMatrixS_l0_ok (k : Nat) : LoopOK (mkEnv ti [(108, fe_laws_eqMatrix k)] (lk []) pins0 pinB0) (laws_eqMatrixS_O k) (rdC (mkEnv ti [(108, fe_laws_eqMatrix k)] (lk []) pins0 pinB0) [.tmp 4] .bool) ((loopsOf (codeOf Try.f175)).getD 0 .skip) (fun σ kx => laws_eqMatrixS_l0_h.get σ fun x => laws_eqMatrixS_l0_F k k x kx) := by
  refine ⟨laws_eqMatrixS_l0_h, [(0, laws_eqMatrixS_l0_x0)], fun n x kx => laws_eqMatrixS_l0_F k n x kx, k, by kernel_rfl, by kernel_rfl, fun x kx => by kernel_rfl, ?_, fun σ kx => rfl⟩
  rintro n ⟨⟨a0, b1, i5, ⟨⟩⟩, ⟨⟩, ⟨⟩⟩ kx
  kernel_rfl
theorem ok_laws_eqMatrixS (k : Nat) : FnOK Try.prog 175 (fe_laws_eqMatrixS k) := by
  refine closed_ok (tab := [(108, fe_laws_eqMatrix k)]) (l := []) ti_ok ti_ht mix (List.forall_mem_cons.2 ⟨ok_laws_eqMatrix k, (List.forall_mem_nil _)⟩) (List.forall_mem_nil _) ⟨⟨Try.f175, (codeOf Try.f175), [.tmp 4], (laws_eqMatrixS_O k), by kernel_rfl, by kernel_rfl, by kernel_rfl, by kernel_rfl, rfl, by decide, ⟨by kernel_rfl, ?_, ?_⟩, ?_⟩⟩
  · refine loops_of (n := 1) (by kernel_rfl) fun i hi => ?_
    match i, hi with
    | 0, _ => exact loop_of (by kernel_rfl) (laws_eqMatrixS_l0_ok k)
    | n + 1, hi => omega
  · exact no_cuts (by kernel_rfl)
  · rintro ⟨a0, b1⟩
    kernel_rfl
/- 105 loop.example/g01005/laws.eqSheaf -/
def laws_eqSheaf (k : Nat) (a0 : List (List Int) × Int × List Int × List (Int × Int × Int × List Int)) (b1 : List (List Int) × Int × List Int × List (Int × Int × Int × List Int)) : Option Bool := (laws_eqComplex k a0.1 b1.1).bind fun r_1 => (if (!r_1) = true then some false else (if (!(decide (a0.2.1 = b1.2.1))) = true then some false else (laws_eqInt64S k a0.2.2.1 b1.2.2.1).bind fun r_2 => (if (!r_2) = true then some false else (laws_eqMatrixS k a0.2.2.2 b1.2.2.2).bind fun r_3 => (if (!r_3) = true then some false else some true))))
def fe_laws_eqSheaf (k : Nat) : FE := ⟨(.pr (.st (.pr (.st (.sl 54 (.sl 2 (.int .i64)))) (.pr (.int .i64) (.pr (.sl 2 (.int .i64)) (.sl 77 (.st (.pr (.int .i64) (.pr (.int .i64) (.pr (.int .i64) (.sl 2 (.int .i64))))))))))) (.st (.pr (.st (.sl 54 (.sl 2 (.int .i64)))) (.pr (.int .i64) (.pr (.sl 2 (.int .i64)) (.sl 77 (.st (.pr (.int .i64) (.pr (.int .i64) (.pr (.int .i64) (.sl 2 (.int .i64)))))))))))), 1, .bool, fun x => laws_eqSheaf k x.1 x.2⟩
theorem ok_laws_eqSheaf (k : Nat) : FnOK Try.prog 105 (fe_laws_eqSheaf k) := by
  refine closed_ok (tab := [(30, fe_laws_eqComplex k), (106, fe_laws_eqInt64S k), (175, fe_laws_eqMatrixS k)]) (l := []) ti_ok ti_ht mix (List.forall_mem_cons.2 ⟨ok_laws_eqComplex k, (List.forall_mem_cons.2 ⟨ok_laws_eqInt64S k, (List.forall_mem_cons.2 ⟨ok_laws_eqMatrixS k, (List.forall_mem_nil _)⟩)⟩)⟩) (List.forall_mem_nil _) ⟨⟨Try.f105, (codeOf Try.f105), [.tmp 4], (LOn Bool), by kernel_rfl, by kernel_rfl, by kernel_rfl, by kernel_rfl, rfl, by decide, ⟨by kernel_rfl, ?_, ?_⟩, ?_⟩⟩
  · exact no_loops (by kernel_rfl)
  · exact no_cuts (by kernel_rfl)
  · rintro ⟨a0, b1⟩
    kernel_rfl
/- 223 loop.example/g01005/laws.eqEdge -/
def laws_eqEdge (a0 : Int × Int × Int) (b1 : Int × Int × Int) : Option Bool := (if (!(decide (a0.1 = b1.1))) = true then some false else (if (!(decide (a0.2.1 = b1.2.1))) = true then some false else (if (!(decide (a0.2.2 = b1.2.2))) = true then some false else some true)))
def fe_laws_eqEdge : FE := ⟨(.pr (.st (.pr (.int .i64) (.pr (.int .i64) (.int .i64)))) (.st (.pr (.int .i64) (.pr (.int .i64) (.int .i64))))), 1, .bool, fun x => laws_eqEdge x.1 x.2⟩
theorem ok_laws_eqEdge : FnOK Try.prog 223 (fe_laws_eqEdge) := by
  refine closed_ok (tab := []) (l := []) ti_ok ti_ht mix (List.forall_mem_nil _) (List.forall_mem_nil _) ⟨⟨Try.f223, (codeOf Try.f223), [.tmp 4], (LOn Bool), by kernel_rfl, by kernel_rfl, by kernel_rfl, by kernel_rfl, rfl, by decide, ⟨by kernel_rfl, ?_, ?_⟩, ?_⟩⟩
  · exact no_loops (by kernel_rfl)
  · exact no_cuts (by kernel_rfl)
  · rintro ⟨a0, b1⟩
    kernel_rfl
/- 176 loop.example/g01005/laws.eqEdgeS -/
def laws_eqEdgeS_l0 (k : Nat) : Nat → (List (Int × Int × Int)) → (List (Int × Int × Int)) → Int → (Option Bool) → Option Bool
  | 0, _, _, _, _ => none
  | n + 1, a0, b1, i5, e_0 => (if (decide (i5 < (List.length a0 : Int))) = true then (if 0 ≤ i5 then (a0[i5.toNat]?).bind fun y_1 => (if 0 ≤ i5 then (b1[i5.toNat]?).bind fun y_2 => (laws_eqEdge y_1 y_2).bind fun r_3 => (if (!r_3) = true then some false else laws_eqEdgeS_l0 k n a0 b1 (w_i64 (i5 + 1)) e_0) else none) else none) else e_0)
def laws_eqEdgeS (k : Nat) (a0 : List (Int × Int × Int)) (b1 : List (Int × Int × Int)) : Option Bool := (if (!(decide ((List.length a0 : Int) = (List.length b1 : Int)))) = true then some false else laws_eqEdgeS_l0 k k a0 b1 0 (some true))
def laws_eqEdgeS_l0_h : Head := ⟨[(0, (.val (.sl 204 (.st (.pr (.int .i64) (.pr (.int .i64) (.int .i64))))))), (1, (.val (.sl 204 (.st (.pr (.int .i64) (.pr (.int .i64) (.int .i64))))))), (5, (.val (.int .i64)))], [], []⟩
def laws_eqEdgeS_l0_x0 : Head := ⟨[], [], []⟩
def laws_eqEdgeS_l0_F (k n : Nat) (x : laws_eqEdgeS_l0_h.T) (kx : Nat → St → Option Bool) : Option Bool := laws_eqEdgeS_l0 k n x.1.1 x.1.2.1 x.1.2.2.1 (kx 0 (laws_eqEdgeS_l0_x0.fill ((), (), ())))
def laws_eqEdgeS_O (k : Nat) : Oracles Bool := ⟨fun n => bif Nat.beq n 4 then some (fun σ kx => laws_eqEdgeS_l0_h.get σ fun x => laws_eqEdgeS_l0_F k k x kx) else none, fun _ => none⟩
def fe_laws_eqEdgeS (k : Nat) : FE := ⟨(.pr (.sl 204 (.st (.pr (.int .i64) (.pr (.int .i64) (.int .i64))))) (.sl 204 (.st (.pr (.int .i64) (.pr (.int .i64) (.int .i64)))))), 1, .bool, fun x => laws_eqEdgeS k x.1 x.2⟩
theorem laws_eqEdgeS_l0_ok (k : Nat) : LoopOK (mkEnv ti [(223, fe_laws_eqEdge)] (lk []) pins0 pinB0) (laws_eqEdgeS_O k) (rdC (mkEnv ti [(223, fe_laws_eqEdge)] (lk []) pins0 pinB0) [.tmp 4] .bool) ((loopsOf (codeOf Try.f176)).getD 0 .skip) (fun σ kx => laws_eqEdgeS_l0_h.get σ fun x => laws_eqEdgeS_l0_F k k x kx) := by
  refine ⟨laws_eqEdgeS_l0_h, [(0, laws_eqEdgeS_l0_x0)], fun n x kx => laws_eqEdgeS_l0_F k n x kx, k, by kernel_rfl, by kernel_rfl, fun x kx => by kernel_rfl, ?_, fun σ kx => rfl⟩
  rintro n ⟨⟨a0, b1, i5, ⟨⟩⟩, ⟨⟩, ⟨⟩⟩ kx
  kernel_rfl
theorem ok_laws_eqEdgeS (k : Nat) : FnOK Try.prog 176 (fe_laws_eqEdgeS k) := by
  refine closed_ok (tab := [(223, fe_laws_eqEdge)]) (l := []) ti_ok ti_ht mix (List.forall_mem_cons.2 ⟨ok_laws_eqEdge, (List.forall_mem_nil _)⟩) (List.forall_mem_nil _) ⟨⟨Try.f176, (codeOf Try.f176), [.tmp 4], (laws_eqEdgeS_O k), by kernel_rfl, by kernel_rfl, by kernel_rfl, by kernel_rfl, rfl, by decide, ⟨by kernel_rfl, ?_, ?_⟩, ?_⟩⟩
  · refine loops_of (n := 1) (by kernel_rfl) fun i hi => ?_
    match i, hi with
    | 0, _ => exact loop_of (by kernel_rfl) (laws_eqEdgeS_l0_ok k)
    | n + 1, hi => omega
  · exact no_cuts (by kernel_rfl)
  · rintro ⟨a0, b1⟩
    kernel_rfl
/- 107 loop.example/g01005/laws.eqGraph -/
def laws_eqGraph (k : Nat) (a0 : Int × List (Int × Int × Int)) (b1 : Int × List (Int × Int × Int)) : Option Bool := (if (!(decide (a0.1 = b1.1))) = true then some false else (laws_eqEdgeS k a0.2 b1.2).bind fun r_1 => (if (!r_1) = true then some false else some true))
def fe_laws_eqGraph (k : Nat) : FE := ⟨(.pr (.st (.pr (.int .i64) (.sl 204 (.st (.pr (.int .i64) (.pr (.int .i64) (.int .i64))))))) (.st (.pr (.int .i64) (.sl 204 (.st (.pr (.int .i64) (.pr (.int .i64) (.int .i64)))))))), 1, .bool, fun x => laws_eqGraph k x.1 x.2⟩
theorem ok_laws_eqGraph (k : Nat) : FnOK Try.prog 107 (fe_laws_eqGraph k) := by
  refine closed_ok (tab := [(176, fe_laws_eqEdgeS k)]) (l := []) ti_ok ti_ht mix (List.forall_mem_cons.2 ⟨ok_laws_eqEdgeS k, (List.forall_mem_nil _)⟩) (List.forall_mem_nil _) ⟨⟨Try.f107, (codeOf Try.f107), [.tmp 4], (LOn Bool), by kernel_rfl, by kernel_rfl, by kernel_rfl, by kernel_rfl, rfl, by decide, ⟨by kernel_rfl, ?_, ?_⟩, ?_⟩⟩
  · exact no_loops (by kernel_rfl)
  · exact no_cuts (by kernel_rfl)
  · rintro ⟨a0, b1⟩
    kernel_rfl
/- 177 loop.example/g01005/laws.eqTable -/
def laws_eqTable (k : Nat) (a0 : List Int × List (List Int)) (b1 : List Int × List (List Int)) : Option Bool := (laws_eqInt64S k a0.1 b1.1).bind fun r_1 => (if (!r_1) = true then some false else (laws_eqInt64SS k a0.2 b1.2).bind fun r_2 => (if (!r_2) = true then some false else some true))
def fe_laws_eqTable (k : Nat) : FE := ⟨(.pr (.st (.pr (.sl 2 (.int .i64)) (.sl 54 (.sl 2 (.int .i64))))) (.st (.pr (.sl 2 (.int .i64)) (.sl 54 (.sl 2 (.int .i64)))))), 1, .bool, fun x => laws_eqTable k x.1 x.2⟩
theorem ok_laws_eqTable (k : Nat) : FnOK Try.prog 177 (fe_laws_eqTable k) := by
  refine closed_ok (tab := [(106, fe_laws_eqInt64S k), (76, fe_laws_eqInt64SS k)]) (l := []) ti_ok ti_ht mix (List.forall_mem_cons.2 ⟨ok_laws_eqInt64S k, (List.forall_mem_cons.2 ⟨ok_laws_eqInt64SS k, (List.forall_mem_nil _)⟩)⟩) (List.forall_mem_nil _) ⟨⟨Try.f177, (codeOf Try.f177), [.tmp 4], (LOn Bool), by kernel_rfl, by kernel_rfl, by kernel_rfl, by kernel_rfl, rfl, by decide, ⟨by kernel_rfl, ?_, ?_⟩, ?_⟩⟩
  · exact no_loops (by kernel_rfl)
  · exact no_cuts (by kernel_rfl)
  · rintro ⟨a0, b1⟩
    kernel_rfl
/- 109 loop.example/g01005/laws.eqTableS -/
def laws_eqTableS_l0 (k : Nat) : Nat → (List (List Int × List (List Int))) → (List (List Int × List (List Int))) → Int → (Option Bool) → Option Bool
  | 0, _, _, _, _ => none
  | n + 1, a0, b1, i5, e_0 => (if (decide (i5 < (List.length a0 : Int))) = true then (if 0 ≤ i5 then (a0[i5.toNat]?).bind fun y_1 => (if 0 ≤ i5 then (b1[i5.toNat]?).bind fun y_2 => (laws_eqTable k y_1 y_2).bind fun r_3 => (if (!r_3) = true then some false else laws_eqTableS_l0 k n a0 b1 (w_i64 (i5 + 1)) e_0) else none) else none) else e_0)
def laws_eqTableS (k : Nat) (a0 : List (List Int × List (List Int))) (b1 : List (List Int × List (List Int))) : Option Bool := (if (!(decide ((List.length a0 : Int) = (List.length b1 : Int)))) = true then some false else laws_eqTableS_l0 k k a0 b1 0 (some true))
def laws_eqTableS_l0_h : Head := ⟨[(0, (.val (.sl 135 (.st (.pr (.sl 2 (.int .i64)) (.sl 54 (.sl 2 (.int .i64)))))))), (1, (.val (.sl 135 (.st (.pr (.sl 2 (.int .i64)) (.sl 54 (.sl 2 (.int .i64)))))))), (5, (.val (.int .i64)))], [], []⟩
def laws_eqTableS_l0_x0 : Head := ⟨[], [], []⟩
def laws_eqTableS_l0_F (k n : Nat) (x : laws_eqTableS_l0_h.T) (kx : Nat → St → Option Bool) : Option Bool := laws_eqTableS_l0 k n x.1.1 x.1.2.1 x.1.2.2.1 (kx 0 (laws_eqTableS_l0_x0.fill ((), (), ())))
def laws_eqTableS_O (k : Nat) : Oracles Bool := ⟨fun n => bif Nat.beq n 4 then some (fun σ kx => laws_eqTableS_l0_h.get σ fun x => laws_eqTableS_l0_F k k x kx) else none, fun _ => none⟩
def fe_laws_eqTableS (k : Nat) : FE := ⟨(.pr (.sl 135 (.st (.pr (.sl 2 (.int .i64)) (.sl 54 (.sl 2 (.int .i64)))))) (.sl 135 (.st (.pr (.sl 2 (.int .i64)) (.sl 54 (.sl 2 (.int .i64))))))), 1, .bool, fun x => laws_eqTableS k x.1 x.2⟩
theorem laws_eqTableS_l0_ok (k : Nat) : LoopOK (mkEnv ti [(177, fe_laws_eqTable k)] (lk []) pins0 pinB0) (laws_eqTableS_O k) (rdC (mkEnv ti [(177, fe_laws_eqTable k)] (lk []) pins0 pinB0) [.tmp 4] .bool) ((loopsOf (codeOf Try.f109)).getD 0 .skip) (fun σ kx => laws_eqTableS_l0_h.get σ fun x => laws_eqTableS_l0_F k k x kx) := by
  refine ⟨laws_eqTableS_l0_h, [(0, laws_eqTableS_l0_x0)], fun n x kx => laws_eqTableS_l0_F k n x kx, k, by kernel_rfl, by kernel_rfl, fun x kx => by kernel_rfl, ?_, fun σ kx => rfl⟩
  rintro n ⟨⟨a0, b1, i5, ⟨⟩⟩, ⟨⟩, ⟨⟩⟩ kx
  kernel_rfl
theorem ok_laws_eqTableS (k : Nat) : FnOK Try.prog 109 (fe_laws_eqTableS k) := by
  refine closed_ok (tab := [(177, fe_laws_eqTable k)]) (l := []) ti_ok ti_ht mix (List.forall_mem_cons.2 ⟨ok_laws_eqTable k, (List.forall_mem_nil _)⟩) (List.forall_mem_nil _) ⟨⟨Try.f109, (codeOf Try.f109), [.tmp 4], (laws_eqTableS_O k), by kernel_rfl, by kernel_rfl, by kernel_rfl, by kernel_rfl, rfl, by decide, ⟨by kernel_rfl, ?_, ?_⟩, ?_⟩⟩
  · refine loops_of (n := 1) (by kernel_rfl) fun i hi => ?_
    match i, hi with
    | 0, _ => exact loop_of (by kernel_rfl) (laws_eqTableS_l0_ok k)
    | n + 1, hi => omega
  · exact no_cuts (by kernel_rfl)
  · rintro ⟨a0, b1⟩
    kernel_rfl
/- 110 loop.example/g01005/laws.eqFiltration -/
def laws_eqFiltration (k : Nat) (a0 : List (List Int) × List Int) (b1 : List (List Int) × List Int) : Option Bool := (laws_eqComplex k a0.1 b1.1).bind fun r_1 => (if (!r_1) = true then some false else (laws_eqInt64S k a0.2 b1.2).bind fun r_2 => (if (!r_2) = true then some false else some true))
def fe_laws_eqFiltration (k : Nat) : FE := ⟨(.pr (.st (.pr (.st (.sl 54 (.sl 2 (.int .i64)))) (.sl 2 (.int .i64)))) (.st (.pr (.st (.sl 54 (.sl 2 (.int .i64)))) (.sl 2 (.int .i64))))), 1, .bool, fun x => laws_eqFiltration k x.1 x.2⟩
theorem ok_laws_eqFiltration (k : Nat) : FnOK Try.prog 110 (fe_laws_eqFiltration k) := by
  refine closed_ok (tab := [(30, fe_laws_eqComplex k), (106, fe_laws_eqInt64S k)]) (l := []) ti_ok ti_ht mix (List.forall_mem_cons.2 ⟨ok_laws_eqComplex k, (List.forall_mem_cons.2 ⟨ok_laws_eqInt64S k, (List.forall_mem_nil _)⟩)⟩) (List.forall_mem_nil _) ⟨⟨Try.f110, (codeOf Try.f110), [.tmp 4], (LOn Bool), by kernel_rfl, by kernel_rfl, by kernel_rfl, by kernel_rfl, rfl, by decide, ⟨by kernel_rfl, ?_, ?_⟩, ?_⟩⟩
  · exact no_loops (by kernel_rfl)
  · exact no_cuts (by kernel_rfl)
  · rintro ⟨a0, b1⟩
    kernel_rfl
end
end Go.Proofs.Ytackggcodaolaaa.Ev
