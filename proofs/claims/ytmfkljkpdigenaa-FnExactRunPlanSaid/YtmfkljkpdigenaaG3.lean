/- Functions of the program, as plain ones. No conditions. -/
import Derived.Test.YtmfkljkpdigenaaG2
import Derived.KernelRfl
set_option linter.unusedVariables false
set_option maxRecDepth 100000
namespace Go.Proofs.Ytmfkljkpdigenaa.Ev
open Go.RowKit
noncomputable section
/- 39 slices.Contains[[]string,string] -/
def slices_Contains_string (k : Nat) (s0 : List (List UInt8)) (v1 : List UInt8) : Option Bool := (slices_Index_string k s0 v1).bind fun r_1 => some (decide (0 ≤ r_1))
def fe_slices_Contains_string (k : Nat) : FE := ⟨(.pr (.sl 9 .str) .str), 1, .bool, fun x => slices_Contains_string k x.1 x.2⟩
theorem ok_slices_Contains_string (k : Nat) : FnOK Try.prog 39 (fe_slices_Contains_string k) := by
  refine closed_ok (tab := [(54, fe_slices_Index_string k)]) (l := []) ti_ok ti_ht mix (List.forall_mem_cons.2 ⟨ok_slices_Index_string k, (List.forall_mem_nil _)⟩) (List.forall_mem_nil _) ⟨⟨Try.f39, (codeOf Try.f39), [.tmp 4], (LOn Bool), by kernel_rfl, by kernel_rfl, by kernel_rfl, by kernel_rfl, rfl, by decide, ⟨by kernel_rfl, ?_, ?_⟩, ?_⟩⟩
  · exact no_loops (by kernel_rfl)
  · exact no_cuts (by kernel_rfl)
  · rintro ⟨s0, v1⟩
    kernel_rfl
/- 38 loop.example/g01005/impl.ValidItems$1 -/
def impl_ValidItems_1 (k : Nat) (n0 : List UInt8) (x1 : List (List UInt8)) : Option Bool := (slices_Contains_string k x1 n0).bind fun r_1 => some (!r_1)
def fe_impl_ValidItems_1 (k : Nat) : FE := ⟨(.pr .str (.ptr (.sl 9 .str))), 1, .bool, fun x => impl_ValidItems_1 k x.1 x.2⟩
theorem ok_impl_ValidItems_1 (k : Nat) : FnOK Try.prog 38 (fe_impl_ValidItems_1 k) := by
  refine closed_ok (tab := [(39, fe_slices_Contains_string k)]) (l := []) ti_ok ti_ht mix (List.forall_mem_cons.2 ⟨ok_slices_Contains_string k, (List.forall_mem_nil _)⟩) (List.forall_mem_nil _) ⟨⟨Try.f38, (codeOf Try.f38), [.tmp 3], (LOn Bool), by kernel_rfl, by kernel_rfl, by kernel_rfl, by kernel_rfl, rfl, by decide, ⟨by kernel_rfl, ?_, ?_⟩, ?_⟩⟩
  · exact no_loops (by kernel_rfl)
  · exact no_cuts (by kernel_rfl)
  · rintro ⟨n0, x1⟩
    kernel_rfl
/- 53 slices.IndexFunc[[]string,string] -/
def slices_IndexFunc_string__impl_ValidItems_1_l0 (k : Nat) : Nat → (List (List UInt8)) → (List (List UInt8)) → Int → Int → (Option Int) → Option Int
  | 0, _, _, _, _, _ => none
  | n + 1, s0, f1, x7, x8, e_0 => (if (decide (x8 < x7)) = true then (if 0 ≤ x8 then (s0[x8.toNat]?).bind fun y_1 => (impl_ValidItems_1 k y_1 f1).bind fun r_2 => (if r_2 = true then some x8 else slices_IndexFunc_string__impl_ValidItems_1_l0 k n s0 f1 x7 (w_i64 (x8 + 1)) e_0) else none) else e_0)
def slices_IndexFunc_string__impl_ValidItems_1 (k : Nat) (s0 : List (List UInt8)) (f1 : List (List UInt8)) : Option Int := slices_IndexFunc_string__impl_ValidItems_1_l0 k k s0 f1 (List.length s0 : Int) 0 (some (-1))
def slices_IndexFunc_string__impl_ValidItems_1_l0_h : Head := ⟨[(0, (.val (.sl 9 .str))), (1, (.val (.fn 38 (.ptr (.sl 9 .str))))), (7, (.val (.int .i64))), (8, (.val (.int .i64)))], [], []⟩
def slices_IndexFunc_string__impl_ValidItems_1_l0_x0 : Head := ⟨[], [], []⟩
def slices_IndexFunc_string__impl_ValidItems_1_l0_F (k n : Nat) (x : slices_IndexFunc_string__impl_ValidItems_1_l0_h.T) (kx : Nat → St → Option Int) : Option Int := slices_IndexFunc_string__impl_ValidItems_1_l0 k n x.1.1 x.1.2.1 x.1.2.2.1 x.1.2.2.2.1 (kx 0 (slices_IndexFunc_string__impl_ValidItems_1_l0_x0.fill ((), (), ())))
def slices_IndexFunc_string__impl_ValidItems_1_O (k : Nat) : Oracles Int := ⟨fun n => bif Nat.beq n 2 then some (fun σ kx => slices_IndexFunc_string__impl_ValidItems_1_l0_h.get σ fun x => slices_IndexFunc_string__impl_ValidItems_1_l0_F k k x kx) else none, fun _ => none⟩
def fe_slices_IndexFunc_string__impl_ValidItems_1 (k : Nat) : FE := ⟨(.pr (.sl 9 .str) (.fn 38 (.ptr (.sl 9 .str)))), 1, (.int .i64), fun x => slices_IndexFunc_string__impl_ValidItems_1 k x.1 x.2⟩
theorem slices_IndexFunc_string__impl_ValidItems_1_l0_ok (k : Nat) : LoopOK (mkEnv ti [(38, fe_impl_ValidItems_1 k)] (lk []) pins0 pinB0) (slices_IndexFunc_string__impl_ValidItems_1_O k) (rdC (mkEnv ti [(38, fe_impl_ValidItems_1 k)] (lk []) pins0 pinB0) [.tmp 4] (.int .i64)) ((loopsOf (codeOf Try.f53)).getD 0 .skip) (fun σ kx => slices_IndexFunc_string__impl_ValidItems_1_l0_h.get σ fun x => slices_IndexFunc_string__impl_ValidItems_1_l0_F k k x kx) := by
  refine ⟨slices_IndexFunc_string__impl_ValidItems_1_l0_h, [(0, slices_IndexFunc_string__impl_ValidItems_1_l0_x0)], fun n x kx => slices_IndexFunc_string__impl_ValidItems_1_l0_F k n x kx, k, by kernel_rfl, by kernel_rfl, fun x kx => by kernel_rfl, ?_, fun σ kx => rfl⟩
  rintro n ⟨⟨s0, f1, x7, x8, ⟨⟩⟩, ⟨⟩, ⟨⟩⟩ kx
  kernel_rfl
theorem ok_slices_IndexFunc_string__impl_ValidItems_1 (k : Nat) : FnOK Try.prog 53 (fe_slices_IndexFunc_string__impl_ValidItems_1 k) := by
  refine closed_ok (tab := [(38, fe_impl_ValidItems_1 k)]) (l := []) ti_ok ti_ht mix (List.forall_mem_cons.2 ⟨ok_impl_ValidItems_1 k, (List.forall_mem_nil _)⟩) (List.forall_mem_nil _) ⟨⟨Try.f53, (codeOf Try.f53), [.tmp 4], (slices_IndexFunc_string__impl_ValidItems_1_O k), by kernel_rfl, by kernel_rfl, by kernel_rfl, by kernel_rfl, rfl, by decide, ⟨by kernel_rfl, ?_, ?_⟩, ?_⟩⟩
  · refine loops_of (n := 1) (by kernel_rfl) fun i hi => ?_
    match i, hi with
    | 0, _ => exact loop_of (by kernel_rfl) (slices_IndexFunc_string__impl_ValidItems_1_l0_ok k)
    | n + 1, hi => omega
  · exact no_cuts (by kernel_rfl)
  · rintro ⟨s0, f1⟩
    kernel_rfl
/- 37 slices.ContainsFunc[[]string,string] -/
def slices_ContainsFunc_string__impl_ValidItems_1 (k : Nat) (s0 : List (List UInt8)) (f1 : List (List UInt8)) : Option Bool := (slices_IndexFunc_string__impl_ValidItems_1 k s0 f1).bind fun r_1 => some (decide (0 ≤ r_1))
def fe_slices_ContainsFunc_string__impl_ValidItems_1 (k : Nat) : FE := ⟨(.pr (.sl 9 .str) (.fn 38 (.ptr (.sl 9 .str)))), 1, .bool, fun x => slices_ContainsFunc_string__impl_ValidItems_1 k x.1 x.2⟩
theorem ok_slices_ContainsFunc_string__impl_ValidItems_1 (k : Nat) : FnOK Try.prog 37 (fe_slices_ContainsFunc_string__impl_ValidItems_1 k) := by
  refine closed_ok (tab := [(53, fe_slices_IndexFunc_string__impl_ValidItems_1 k)]) (l := []) ti_ok ti_ht mix (List.forall_mem_cons.2 ⟨ok_slices_IndexFunc_string__impl_ValidItems_1 k, (List.forall_mem_nil _)⟩) (List.forall_mem_nil _) ⟨⟨Try.f37, (codeOf Try.f37), [.tmp 4], (LOn Bool), by kernel_rfl, by kernel_rfl, by kernel_rfl, by kernel_rfl, rfl, by decide, ⟨by kernel_rfl, ?_, ?_⟩, ?_⟩⟩
  · exact no_loops (by kernel_rfl)
  · exact no_cuts (by kernel_rfl)
  · rintro ⟨s0, f1⟩
    kernel_rfl
/- 56 loop.example/g01005/impl.makeOrder$1$1 -/
def impl_makeOrder_1_1 (k : Nat) (n0 : List UInt8) (x1 : List (List UInt8)) : Option Bool := (slices_Contains_string k x1 n0).bind fun r_1 => some (!r_1)
def fe_impl_makeOrder_1_1 (k : Nat) : FE := ⟨(.pr .str (.ptr (.sl 9 .str))), 1, .bool, fun x => impl_makeOrder_1_1 k x.1 x.2⟩
theorem ok_impl_makeOrder_1_1 (k : Nat) : FnOK Try.prog 56 (fe_impl_makeOrder_1_1 k) := by
  refine closed_ok (tab := [(39, fe_slices_Contains_string k)]) (l := []) ti_ok ti_ht mix (List.forall_mem_cons.2 ⟨ok_slices_Contains_string k, (List.forall_mem_nil _)⟩) (List.forall_mem_nil _) ⟨⟨Try.f56, (codeOf Try.f56), [.tmp 3], (LOn Bool), by kernel_rfl, by kernel_rfl, by kernel_rfl, by kernel_rfl, rfl, by decide, ⟨by kernel_rfl, ?_, ?_⟩, ?_⟩⟩
  · exact no_loops (by kernel_rfl)
  · exact no_cuts (by kernel_rfl)
  · rintro ⟨n0, x1⟩
    kernel_rfl
/- 53 slices.IndexFunc[[]string,string] -/
def slices_IndexFunc_string__impl_makeOrder_1_1_l0 (k : Nat) : Nat → (List (List UInt8)) → (List (List UInt8)) → Int → Int → (Option Int) → Option Int
  | 0, _, _, _, _, _ => none
  | n + 1, s0, f1, x7, x8, e_0 => (if (decide (x8 < x7)) = true then (if 0 ≤ x8 then (s0[x8.toNat]?).bind fun y_1 => (impl_makeOrder_1_1 k y_1 f1).bind fun r_2 => (if r_2 = true then some x8 else slices_IndexFunc_string__impl_makeOrder_1_1_l0 k n s0 f1 x7 (w_i64 (x8 + 1)) e_0) else none) else e_0)
def slices_IndexFunc_string__impl_makeOrder_1_1 (k : Nat) (s0 : List (List UInt8)) (f1 : List (List UInt8)) : Option Int := slices_IndexFunc_string__impl_makeOrder_1_1_l0 k k s0 f1 (List.length s0 : Int) 0 (some (-1))
def slices_IndexFunc_string__impl_makeOrder_1_1_l0_h : Head := ⟨[(0, (.val (.sl 9 .str))), (1, (.val (.fn 56 (.ptr (.sl 9 .str))))), (7, (.val (.int .i64))), (8, (.val (.int .i64)))], [], []⟩
def slices_IndexFunc_string__impl_makeOrder_1_1_l0_x0 : Head := ⟨[], [], []⟩
def slices_IndexFunc_string__impl_makeOrder_1_1_l0_F (k n : Nat) (x : slices_IndexFunc_string__impl_makeOrder_1_1_l0_h.T) (kx : Nat → St → Option Int) : Option Int := slices_IndexFunc_string__impl_makeOrder_1_1_l0 k n x.1.1 x.1.2.1 x.1.2.2.1 x.1.2.2.2.1 (kx 0 (slices_IndexFunc_string__impl_makeOrder_1_1_l0_x0.fill ((), (), ())))
def slices_IndexFunc_string__impl_makeOrder_1_1_O (k : Nat) : Oracles Int := ⟨fun n => bif Nat.beq n 2 then some (fun σ kx => slices_IndexFunc_string__impl_makeOrder_1_1_l0_h.get σ fun x => slices_IndexFunc_string__impl_makeOrder_1_1_l0_F k k x kx) else none, fun _ => none⟩
def fe_slices_IndexFunc_string__impl_makeOrder_1_1 (k : Nat) : FE := ⟨(.pr (.sl 9 .str) (.fn 56 (.ptr (.sl 9 .str)))), 1, (.int .i64), fun x => slices_IndexFunc_string__impl_makeOrder_1_1 k x.1 x.2⟩
theorem slices_IndexFunc_string__impl_makeOrder_1_1_l0_ok (k : Nat) : LoopOK (mkEnv ti [(56, fe_impl_makeOrder_1_1 k)] (lk []) pins0 pinB0) (slices_IndexFunc_string__impl_makeOrder_1_1_O k) (rdC (mkEnv ti [(56, fe_impl_makeOrder_1_1 k)] (lk []) pins0 pinB0) [.tmp 4] (.int .i64)) ((loopsOf (codeOf Try.f53)).getD 0 .skip) (fun σ kx => slices_IndexFunc_string__impl_makeOrder_1_1_l0_h.get σ fun x => slices_IndexFunc_string__impl_makeOrder_1_1_l0_F k k x kx) := by
  refine ⟨slices_IndexFunc_string__impl_makeOrder_1_1_l0_h, [(0, slices_IndexFunc_string__impl_makeOrder_1_1_l0_x0)], fun n x kx => slices_IndexFunc_string__impl_makeOrder_1_1_l0_F k n x kx, k, by kernel_rfl, by kernel_rfl, fun x kx => by kernel_rfl, ?_, fun σ kx => rfl⟩
  rintro n ⟨⟨s0, f1, x7, x8, ⟨⟩⟩, ⟨⟩, ⟨⟩⟩ kx
  kernel_rfl
theorem ok_slices_IndexFunc_string__impl_makeOrder_1_1 (k : Nat) : FnOK Try.prog 53 (fe_slices_IndexFunc_string__impl_makeOrder_1_1 k) := by
  refine closed_ok (tab := [(56, fe_impl_makeOrder_1_1 k)]) (l := []) ti_ok ti_ht mix (List.forall_mem_cons.2 ⟨ok_impl_makeOrder_1_1 k, (List.forall_mem_nil _)⟩) (List.forall_mem_nil _) ⟨⟨Try.f53, (codeOf Try.f53), [.tmp 4], (slices_IndexFunc_string__impl_makeOrder_1_1_O k), by kernel_rfl, by kernel_rfl, by kernel_rfl, by kernel_rfl, rfl, by decide, ⟨by kernel_rfl, ?_, ?_⟩, ?_⟩⟩
  · refine loops_of (n := 1) (by kernel_rfl) fun i hi => ?_
    match i, hi with
    | 0, _ => exact loop_of (by kernel_rfl) (slices_IndexFunc_string__impl_makeOrder_1_1_l0_ok k)
    | n + 1, hi => omega
  · exact no_cuts (by kernel_rfl)
  · rintro ⟨s0, f1⟩
    kernel_rfl
/- 37 slices.ContainsFunc[[]string,string] -/
def slices_ContainsFunc_string__impl_makeOrder_1_1 (k : Nat) (s0 : List (List UInt8)) (f1 : List (List UInt8)) : Option Bool := (slices_IndexFunc_string__impl_makeOrder_1_1 k s0 f1).bind fun r_1 => some (decide (0 ≤ r_1))
def fe_slices_ContainsFunc_string__impl_makeOrder_1_1 (k : Nat) : FE := ⟨(.pr (.sl 9 .str) (.fn 56 (.ptr (.sl 9 .str)))), 1, .bool, fun x => slices_ContainsFunc_string__impl_makeOrder_1_1 k x.1 x.2⟩
theorem ok_slices_ContainsFunc_string__impl_makeOrder_1_1 (k : Nat) : FnOK Try.prog 37 (fe_slices_ContainsFunc_string__impl_makeOrder_1_1 k) := by
  refine closed_ok (tab := [(53, fe_slices_IndexFunc_string__impl_makeOrder_1_1 k)]) (l := []) ti_ok ti_ht mix (List.forall_mem_cons.2 ⟨ok_slices_IndexFunc_string__impl_makeOrder_1_1 k, (List.forall_mem_nil _)⟩) (List.forall_mem_nil _) ⟨⟨Try.f37, (codeOf Try.f37), [.tmp 4], (LOn Bool), by kernel_rfl, by kernel_rfl, by kernel_rfl, by kernel_rfl, rfl, by decide, ⟨by kernel_rfl, ?_, ?_⟩, ?_⟩⟩
  · exact no_loops (by kernel_rfl)
  · exact no_cuts (by kernel_rfl)
  · rintro ⟨s0, f1⟩
    kernel_rfl
/- 55 loop.example/g01005/impl.makeOrder$1 -/
def impl_makeOrder_1 (k : Nat) (x0 : List UInt8 × List (List UInt8) × Int × Int) (x1 : List (List UInt8)) : Option Bool := (slices_Contains_string k x1 x0.1).bind fun r_1 => (if (!r_1) = true then (slices_ContainsFunc_string__impl_makeOrder_1_1 k x0.2.1 x1).bind fun r_2 => some (!r_2) else some false)
def fe_impl_makeOrder_1 (k : Nat) : FE := ⟨(.pr (.st (.pr .str (.pr (.sl 9 .str) (.pr (.int .i64) (.int .i64))))) (.ptr (.sl 9 .str))), 1, .bool, fun x => impl_makeOrder_1 k x.1 x.2⟩
theorem ok_impl_makeOrder_1 (k : Nat) : FnOK Try.prog 55 (fe_impl_makeOrder_1 k) := by
  refine closed_ok (tab := [(39, fe_slices_Contains_string k), (37, fe_slices_ContainsFunc_string__impl_makeOrder_1_1 k)]) (l := []) ti_ok ti_ht mix (List.forall_mem_cons.2 ⟨ok_slices_Contains_string k, (List.forall_mem_cons.2 ⟨ok_slices_ContainsFunc_string__impl_makeOrder_1_1 k, (List.forall_mem_nil _)⟩)⟩) (List.forall_mem_nil _) ⟨⟨Try.f55, (codeOf Try.f55), [.tmp 3], (LOn Bool), by kernel_rfl, by kernel_rfl, by kernel_rfl, by kernel_rfl, rfl, by decide, ⟨by kernel_rfl, ?_, ?_⟩, ?_⟩⟩
  · exact no_loops (by kernel_rfl)
  · exact no_cuts (by kernel_rfl)
  · rintro ⟨x0, x1⟩
    kernel_rfl
/- 41 slices.IndexFunc[[]loop.example/g01005/impl.Item,loop.example/g01005/impl.Item] -/
def slices_IndexFunc_impl_Item__impl_makeOrder_1_l0 (k : Nat) : Nat → (List (List UInt8 × List (List UInt8) × Int × Int)) → (List (List UInt8)) → Int → Int → (Option Int) → Option Int
  | 0, _, _, _, _, _ => none
  | n + 1, s0, f1, x7, x8, e_0 => (if (decide (x8 < x7)) = true then (if 0 ≤ x8 then (s0[x8.toNat]?).bind fun y_1 => (impl_makeOrder_1 k y_1 f1).bind fun r_2 => (if r_2 = true then some x8 else slices_IndexFunc_impl_Item__impl_makeOrder_1_l0 k n s0 f1 x7 (w_i64 (x8 + 1)) e_0) else none) else e_0)
def slices_IndexFunc_impl_Item__impl_makeOrder_1 (k : Nat) (s0 : List (List UInt8 × List (List UInt8) × Int × Int)) (f1 : List (List UInt8)) : Option Int := slices_IndexFunc_impl_Item__impl_makeOrder_1_l0 k k s0 f1 (List.length s0 : Int) 0 (some (-1))
def slices_IndexFunc_impl_Item__impl_makeOrder_1_l0_h : Head := ⟨[(0, (.val (.sl 38 (.st (.pr .str (.pr (.sl 9 .str) (.pr (.int .i64) (.int .i64)))))))), (1, (.val (.fn 55 (.ptr (.sl 9 .str))))), (7, (.val (.int .i64))), (8, (.val (.int .i64)))], [], []⟩
def slices_IndexFunc_impl_Item__impl_makeOrder_1_l0_x0 : Head := ⟨[], [], []⟩
def slices_IndexFunc_impl_Item__impl_makeOrder_1_l0_F (k n : Nat) (x : slices_IndexFunc_impl_Item__impl_makeOrder_1_l0_h.T) (kx : Nat → St → Option Int) : Option Int := slices_IndexFunc_impl_Item__impl_makeOrder_1_l0 k n x.1.1 x.1.2.1 x.1.2.2.1 x.1.2.2.2.1 (kx 0 (slices_IndexFunc_impl_Item__impl_makeOrder_1_l0_x0.fill ((), (), ())))
def slices_IndexFunc_impl_Item__impl_makeOrder_1_O (k : Nat) : Oracles Int := ⟨fun n => bif Nat.beq n 2 then some (fun σ kx => slices_IndexFunc_impl_Item__impl_makeOrder_1_l0_h.get σ fun x => slices_IndexFunc_impl_Item__impl_makeOrder_1_l0_F k k x kx) else none, fun _ => none⟩
def fe_slices_IndexFunc_impl_Item__impl_makeOrder_1 (k : Nat) : FE := ⟨(.pr (.sl 38 (.st (.pr .str (.pr (.sl 9 .str) (.pr (.int .i64) (.int .i64)))))) (.fn 55 (.ptr (.sl 9 .str)))), 1, (.int .i64), fun x => slices_IndexFunc_impl_Item__impl_makeOrder_1 k x.1 x.2⟩
theorem slices_IndexFunc_impl_Item__impl_makeOrder_1_l0_ok (k : Nat) : LoopOK (mkEnv ti [(55, fe_impl_makeOrder_1 k)] (lk []) pins0 pinB0) (slices_IndexFunc_impl_Item__impl_makeOrder_1_O k) (rdC (mkEnv ti [(55, fe_impl_makeOrder_1 k)] (lk []) pins0 pinB0) [.tmp 4] (.int .i64)) ((loopsOf (codeOf Try.f41)).getD 0 .skip) (fun σ kx => slices_IndexFunc_impl_Item__impl_makeOrder_1_l0_h.get σ fun x => slices_IndexFunc_impl_Item__impl_makeOrder_1_l0_F k k x kx) := by
  refine ⟨slices_IndexFunc_impl_Item__impl_makeOrder_1_l0_h, [(0, slices_IndexFunc_impl_Item__impl_makeOrder_1_l0_x0)], fun n x kx => slices_IndexFunc_impl_Item__impl_makeOrder_1_l0_F k n x kx, k, by kernel_rfl, by kernel_rfl, fun x kx => by kernel_rfl, ?_, fun σ kx => rfl⟩
  rintro n ⟨⟨s0, f1, x7, x8, ⟨⟩⟩, ⟨⟩, ⟨⟩⟩ kx
  kernel_rfl
theorem ok_slices_IndexFunc_impl_Item__impl_makeOrder_1 (k : Nat) : FnOK Try.prog 41 (fe_slices_IndexFunc_impl_Item__impl_makeOrder_1 k) := by
  refine closed_ok (tab := [(55, fe_impl_makeOrder_1 k)]) (l := []) ti_ok ti_ht mix (List.forall_mem_cons.2 ⟨ok_impl_makeOrder_1 k, (List.forall_mem_nil _)⟩) (List.forall_mem_nil _) ⟨⟨Try.f41, (codeOf Try.f41), [.tmp 4], (slices_IndexFunc_impl_Item__impl_makeOrder_1_O k), by kernel_rfl, by kernel_rfl, by kernel_rfl, by kernel_rfl, rfl, by decide, ⟨by kernel_rfl, ?_, ?_⟩, ?_⟩⟩
  · refine loops_of (n := 1) (by kernel_rfl) fun i hi => ?_
    match i, hi with
    | 0, _ => exact loop_of (by kernel_rfl) (slices_IndexFunc_impl_Item__impl_makeOrder_1_l0_ok k)
    | n + 1, hi => omega
  · exact no_cuts (by kernel_rfl)
  · rintro ⟨s0, f1⟩
    kernel_rfl
/- 40 loop.example/g01005/impl.makeOrder -/
def impl_makeOrder_l0 (k : Nat) : Nat → (List (List UInt8 × List (List UInt8) × Int × Int)) → Int → Int → (List (List UInt8)) → ((List (List UInt8)) → Option (List (List UInt8))) → Option (List (List UInt8))
  | 0, _, _, _, _, _ => none
  | n + 1, list0, x6, x7, q_1, e_0 => (if (decide (x7 < x6)) = true then (slices_IndexFunc_impl_Item__impl_makeOrder_1 k list0 q_1).bind fun r_2 => (if (decide (r_2 < 0)) = true then e_0 q_1 else (if 0 ≤ r_2 then (list0[r_2.toNat]?).bind fun y_3 => (if (q_1.length + [y_3.1].length) * 16 ≤ LIM then impl_makeOrder_l0 k n list0 x6 (w_i64 (x7 + 1)) (q_1 ++ [y_3.1]) e_0 else none) else none)) else e_0 q_1)
def impl_makeOrder (k : Nat) (list0 : List (List UInt8 × List (List UInt8) × Int × Int)) : Option (List (List UInt8)) := impl_makeOrder_l0 k k list0 (List.length list0 : Int) 0 [] (fun q_4 => some q_4)
def impl_makeOrder_l0_h : Head := ⟨[(0, (.val (.sl 38 (.st (.pr .str (.pr (.sl 9 .str) (.pr (.int .i64) (.int .i64)))))))), (3, (.bp 3 [] 0)), (6, (.val (.int .i64))), (7, (.val (.int .i64)))], [(64000000, 9, .str, false)], [(3, 32, (.ref 64000000 []))]⟩
def impl_makeOrder_l0_x0 : Head := ⟨[(3, (.bp 3 [] 0))], [(64000000, 9, .str, false)], [(3, 32, (.ref 64000000 []))]⟩
def impl_makeOrder_l0_F (k n : Nat) (x : impl_makeOrder_l0_h.T) (kx : Nat → St → Option (List (List UInt8))) : Option (List (List UInt8)) := impl_makeOrder_l0 k n x.1.1 x.1.2.2.1 x.1.2.2.2.1 x.2.1.1 (fun (q_3 : List (List UInt8)) => kx 0 (impl_makeOrder_l0_x0.fill (((), ()), (q_3, ()), ((), ()))))
def impl_makeOrder_O (k : Nat) : Oracles (List (List UInt8)) := ⟨fun n => bif Nat.beq n 3 then some (fun σ kx => impl_makeOrder_l0_h.get σ fun x => impl_makeOrder_l0_F k k x kx) else none, fun _ => none⟩
def fe_impl_makeOrder (k : Nat) : FE := ⟨(.sl 38 (.st (.pr .str (.pr (.sl 9 .str) (.pr (.int .i64) (.int .i64)))))), 1, (.sl 9 .str), fun x => impl_makeOrder k x⟩
theorem impl_makeOrder_l0_ok (k : Nat) : LoopOK (mkEnv ti [(41, fe_slices_IndexFunc_impl_Item__impl_makeOrder_1 k)] (lk []) pins0 pinB0) (impl_makeOrder_O k) (rdC (mkEnv ti [(41, fe_slices_IndexFunc_impl_Item__impl_makeOrder_1 k)] (lk []) pins0 pinB0) [.tmp 2] (.sl 9 .str)) ((loopsOf (codeOf Try.f40)).getD 0 .skip) (fun σ kx => impl_makeOrder_l0_h.get σ fun x => impl_makeOrder_l0_F k k x kx) := by
  refine ⟨impl_makeOrder_l0_h, [(0, impl_makeOrder_l0_x0)], fun n x kx => impl_makeOrder_l0_F k n x kx, k, by kernel_rfl, by kernel_rfl, fun x kx => by kernel_rfl, ?_, fun σ kx => rfl⟩
  rintro n ⟨⟨list0, ⟨⟩, x6, x7, ⟨⟩⟩, ⟨q_1, ⟨⟩⟩, ⟨⟨⟩, ⟨⟩⟩⟩ kx
  kernel_rfl
theorem ok_impl_makeOrder (k : Nat) : FnOK Try.prog 40 (fe_impl_makeOrder k) := by
  refine closed_ok (tab := [(41, fe_slices_IndexFunc_impl_Item__impl_makeOrder_1 k)]) (l := []) ti_ok ti_ht mix (List.forall_mem_cons.2 ⟨ok_slices_IndexFunc_impl_Item__impl_makeOrder_1 k, (List.forall_mem_nil _)⟩) (List.forall_mem_nil _) ⟨⟨Try.f40, (codeOf Try.f40), [.tmp 2], (impl_makeOrder_O k), by kernel_rfl, by kernel_rfl, by kernel_rfl, by kernel_rfl, rfl, by decide, ⟨by kernel_rfl, ?_, ?_⟩, ?_⟩⟩
  · refine loops_of (n := 1) (by kernel_rfl) fun i hi => ?_
    match i, hi with
    | 0, _ => exact loop_of (by kernel_rfl) (impl_makeOrder_l0_ok k)
    | n + 1, hi => omega
  · exact no_cuts (by kernel_rfl)
  · rintro list0
    kernel_rfl
/- 18 loop.example/g01005/impl.ValidItems -/
def impl_ValidItems_l0 (k : Nat) : Nat → (List (List UInt8 × List (List UInt8) × Int × Int)) → (List (List UInt8 × List (List UInt8) × Int × Int)) → Int → Int → (List (List UInt8)) → ((List (List UInt8 × List (List UInt8) × Int × Int)) → (List (List UInt8)) → Option Bool) → Option Bool
  | 0, _, _, _, _, _, _ => none
  | n + 1, list0, x8, x9, x10, q_1, e_0 => (if (decide (x10 < x9)) = true then (if 0 ≤ x10 then (x8[x10.toNat]?).bind fun y_2 => (if (q_1.length + [y_2.1].length) * 16 ≤ LIM then impl_ValidItems_l0 k n list0 x8 x9 (w_i64 (x10 + 1)) (q_1 ++ [y_2.1]) e_0 else none) else none) else e_0 list0 q_1)
def impl_ValidItems_l1 (k : Nat) : Nat → (List (List UInt8 × List (List UInt8) × Int × Int)) → (List (List UInt8 × List (List UInt8) × Int × Int)) → Int → Int → (List (List UInt8)) → ((List (List UInt8 × List (List UInt8) × Int × Int)) → Option Bool) → Option Bool
  | 0, _, _, _, _, _, _ => none
  | n + 1, list0, x23, x24, x25, q_6, e_2 => (if (decide (x25 < x24)) = true then (if 0 ≤ x25 then (x23[x25.toNat]?).bind fun y_7 => (impl_areNames k y_7.2.1 16).bind fun r_8 => (if (!r_8) = true then some false else (impl_within y_7.2.2.1 0 1000000).bind fun r_9 => (if (!r_9) = true then some false else (impl_within y_7.2.2.2 0 1000).bind fun r_10 => (if (!r_10) = true then some false else (slices_ContainsFunc_string__impl_ValidItems_1 k y_7.2.1 q_6).bind fun r_11 => (if r_11 = true then some false else impl_ValidItems_l1 k n list0 x23 x24 (w_i64 (x25 + 1)) q_6 e_2)))) else none) else e_2 list0)
def impl_ValidItems (k : Nat) (list0 : List (List UInt8 × List (List UInt8) × Int × Int)) : Option Bool := impl_ValidItems_l0 k k list0 list0 (List.length list0 : Int) 0 [] (fun list_3 q_4 => (impl_areNames k q_4 16).bind fun r_5 => (if (!r_5) = true then some false else impl_ValidItems_l1 k k list_3 list_3 (List.length list_3 : Int) 0 q_4 (fun list_12 => (impl_makeOrder k list_12).bind fun r_13 => some (decide ((List.length r_13 : Int) = (List.length list_12 : Int))))))
def impl_ValidItems_l0_h : Head := ⟨[(0, (.val (.sl 38 (.st (.pr .str (.pr (.sl 9 .str) (.pr (.int .i64) (.int .i64)))))))), (3, (.bp 3 [] 0)), (8, (.val (.sl 38 (.st (.pr .str (.pr (.sl 9 .str) (.pr (.int .i64) (.int .i64)))))))), (9, (.val (.int .i64))), (10, (.val (.int .i64)))], [(64000000, 9, .str, false)], [(3, 32, (.ref 64000000 []))]⟩
def impl_ValidItems_l0_x0 : Head := ⟨[(0, (.val (.sl 38 (.st (.pr .str (.pr (.sl 9 .str) (.pr (.int .i64) (.int .i64)))))))), (3, (.bp 3 [] 0))], [(64000000, 9, .str, false)], [(3, 32, (.ref 64000000 []))]⟩
def impl_ValidItems_l0_F (k n : Nat) (x : impl_ValidItems_l0_h.T) (kx : Nat → St → Option Bool) : Option Bool := impl_ValidItems_l0 k n x.1.1 x.1.2.2.1 x.1.2.2.2.1 x.1.2.2.2.2.1 x.2.1.1 (fun (list0 : List (List UInt8 × List (List UInt8) × Int × Int)) (q_3 : List (List UInt8)) => kx 0 (impl_ValidItems_l0_x0.fill ((list0, (), ()), (q_3, ()), ((), ()))))
def impl_ValidItems_l1_h : Head := ⟨[(0, (.val (.sl 38 (.st (.pr .str (.pr (.sl 9 .str) (.pr (.int .i64) (.int .i64)))))))), (3, (.bp 3 [] 0)), (23, (.val (.sl 38 (.st (.pr .str (.pr (.sl 9 .str) (.pr (.int .i64) (.int .i64)))))))), (24, (.val (.int .i64))), (25, (.val (.int .i64)))], [(64000000, 9, .str, false)], [(3, 32, (.ref 64000000 []))]⟩
def impl_ValidItems_l1_x2 : Head := ⟨[(0, (.val (.sl 38 (.st (.pr .str (.pr (.sl 9 .str) (.pr (.int .i64) (.int .i64))))))))], [], []⟩
def impl_ValidItems_l1_F (k n : Nat) (x : impl_ValidItems_l1_h.T) (kx : Nat → St → Option Bool) : Option Bool := impl_ValidItems_l1 k n x.1.1 x.1.2.2.1 x.1.2.2.2.1 x.1.2.2.2.2.1 x.2.1.1 (fun (list0 : List (List UInt8 × List (List UInt8) × Int × Int)) => kx 2 (impl_ValidItems_l1_x2.fill ((list0, ()), (), ())))
def impl_ValidItems_O (k : Nat) : Oracles Bool := ⟨fun n => bif Nat.beq n 3 then some (fun σ kx => impl_ValidItems_l0_h.get σ fun x => impl_ValidItems_l0_F k k x kx) else bif Nat.beq n 10 then some (fun σ kx => impl_ValidItems_l1_h.get σ fun x => impl_ValidItems_l1_F k k x kx) else none, fun _ => none⟩
def fe_impl_ValidItems (k : Nat) : FE := ⟨(.sl 38 (.st (.pr .str (.pr (.sl 9 .str) (.pr (.int .i64) (.int .i64)))))), 1, .bool, fun x => impl_ValidItems k x⟩
theorem impl_ValidItems_l0_ok (k : Nat) : LoopOK (mkEnv ti [(36, fe_impl_areNames k), (19, fe_impl_within), (37, fe_slices_ContainsFunc_string__impl_ValidItems_1 k), (40, fe_impl_makeOrder k)] (lk []) pins0 pinB0) (impl_ValidItems_O k) (rdC (mkEnv ti [(36, fe_impl_areNames k), (19, fe_impl_within), (37, fe_slices_ContainsFunc_string__impl_ValidItems_1 k), (40, fe_impl_makeOrder k)] (lk []) pins0 pinB0) [.tmp 2] .bool) ((loopsOf (codeOf Try.f18)).getD 0 .skip) (fun σ kx => impl_ValidItems_l0_h.get σ fun x => impl_ValidItems_l0_F k k x kx) := by
  refine ⟨impl_ValidItems_l0_h, [(0, impl_ValidItems_l0_x0)], fun n x kx => impl_ValidItems_l0_F k n x kx, k, by kernel_rfl, by kernel_rfl, fun x kx => by kernel_rfl, ?_, fun σ kx => rfl⟩
  rintro n ⟨⟨list0, ⟨⟩, x8, x9, x10, ⟨⟩⟩, ⟨q_1, ⟨⟩⟩, ⟨⟨⟩, ⟨⟩⟩⟩ kx
  kernel_rfl
theorem impl_ValidItems_l1_ok (k : Nat) : LoopOK (mkEnv ti [(36, fe_impl_areNames k), (19, fe_impl_within), (37, fe_slices_ContainsFunc_string__impl_ValidItems_1 k), (40, fe_impl_makeOrder k)] (lk []) pins0 pinB0) (impl_ValidItems_O k) (rdC (mkEnv ti [(36, fe_impl_areNames k), (19, fe_impl_within), (37, fe_slices_ContainsFunc_string__impl_ValidItems_1 k), (40, fe_impl_makeOrder k)] (lk []) pins0 pinB0) [.tmp 2] .bool) ((loopsOf (codeOf Try.f18)).getD 1 .skip) (fun σ kx => impl_ValidItems_l1_h.get σ fun x => impl_ValidItems_l1_F k k x kx) := by
  refine ⟨impl_ValidItems_l1_h, [(2, impl_ValidItems_l1_x2)], fun n x kx => impl_ValidItems_l1_F k n x kx, k, by kernel_rfl, by kernel_rfl, fun x kx => by kernel_rfl, ?_, fun σ kx => rfl⟩
  rintro n ⟨⟨list0, ⟨⟩, x23, x24, x25, ⟨⟩⟩, ⟨q_6, ⟨⟩⟩, ⟨⟨⟩, ⟨⟩⟩⟩ kx
  kernel_rfl
theorem ok_impl_ValidItems (k : Nat) : FnOK Try.prog 18 (fe_impl_ValidItems k) := by
  refine closed_ok (tab := [(36, fe_impl_areNames k), (19, fe_impl_within), (37, fe_slices_ContainsFunc_string__impl_ValidItems_1 k), (40, fe_impl_makeOrder k)]) (l := []) ti_ok ti_ht mix (List.forall_mem_cons.2 ⟨ok_impl_areNames k, (List.forall_mem_cons.2 ⟨ok_impl_within, (List.forall_mem_cons.2 ⟨ok_slices_ContainsFunc_string__impl_ValidItems_1 k, (List.forall_mem_cons.2 ⟨ok_impl_makeOrder k, (List.forall_mem_nil _)⟩)⟩)⟩)⟩) (List.forall_mem_nil _) ⟨⟨Try.f18, (codeOf Try.f18), [.tmp 2], (impl_ValidItems_O k), by kernel_rfl, by kernel_rfl, by kernel_rfl, by kernel_rfl, rfl, by decide, ⟨by kernel_rfl, ?_, ?_⟩, ?_⟩⟩
  · refine loops_of (n := 2) (by kernel_rfl) fun i hi => ?_
    match i, hi with
    | 0, _ => exact loop_of (by kernel_rfl) (impl_ValidItems_l0_ok k)
    | 1, _ => exact loop_of (by kernel_rfl) (impl_ValidItems_l1_ok k)
    | n + 2, hi => omega
  · exact no_cuts (by kernel_rfl)
  · rintro list0
    kernel_rfl
/- 60 cmp.isNaN[string] -/
def cmp_isNaN_string (x0 : List UInt8) : Option Bool := some (!(decide (x0 = x0)))
def fe_cmp_isNaN_string : FE := ⟨.str, 1, .bool, fun x => cmp_isNaN_string x⟩
theorem ok_cmp_isNaN_string : FnOK Try.prog 60 (fe_cmp_isNaN_string) := by
  refine closed_ok (tab := []) (l := []) ti_ok ti_ht mix (List.forall_mem_nil _) (List.forall_mem_nil _) ⟨⟨Try.f60, (codeOf Try.f60), [.tmp 2], (LOn Bool), by kernel_rfl, by kernel_rfl, by kernel_rfl, by kernel_rfl, rfl, by decide, ⟨by kernel_rfl, ?_, ?_⟩, ?_⟩⟩
  · exact no_loops (by kernel_rfl)
  · exact no_cuts (by kernel_rfl)
  · rintro x0
    kernel_rfl
/- 49 cmp.Compare[string] -/
def cmp_Compare_string (x0 : List UInt8) (y1 : List UInt8) : Option Int := (cmp_isNaN_string x0).bind fun r_1 => (cmp_isNaN_string y1).bind fun r_2 => (if r_1 = true then (if r_2 = true then some 0 else some (-1)) else (if r_2 = true then some 1 else (if (Op.bytesLess x0 y1) = true then some (-1) else (if (!(Op.bytesLess x0 y1 || decide (x0 = y1))) = true then some 1 else some 0))))
def fe_cmp_Compare_string : FE := ⟨(.pr .str .str), 1, (.int .i64), fun x => cmp_Compare_string x.1 x.2⟩
theorem ok_cmp_Compare_string : FnOK Try.prog 49 (fe_cmp_Compare_string) := by
  refine closed_ok (tab := [(60, fe_cmp_isNaN_string)]) (l := []) ti_ok ti_ht mix (List.forall_mem_cons.2 ⟨ok_cmp_isNaN_string, (List.forall_mem_nil _)⟩) (List.forall_mem_nil _) ⟨⟨Try.f49, (codeOf Try.f49), [.tmp 4], (LOn Int), by kernel_rfl, by kernel_rfl, by kernel_rfl, by kernel_rfl, rfl, by decide, ⟨by kernel_rfl, ?_, ?_⟩, ?_⟩⟩
  · exact no_loops (by kernel_rfl)
  · exact no_cuts (by kernel_rfl)
  · rintro ⟨x0, y1⟩
    kernel_rfl
/- 48 loop.example/g01005/impl.itemAt$1 -/
def impl_itemAt_1 (x0 : List UInt8 × List (List UInt8) × Int × Int) (name1 : List UInt8) : Option Int := (cmp_Compare_string x0.1 name1).bind fun r_1 => some r_1
def fe_impl_itemAt_1 : FE := ⟨(.pr (.st (.pr .str (.pr (.sl 9 .str) (.pr (.int .i64) (.int .i64))))) .str), 1, (.int .i64), fun x => impl_itemAt_1 x.1 x.2⟩
theorem ok_impl_itemAt_1 : FnOK Try.prog 48 (fe_impl_itemAt_1) := by
  refine closed_ok (tab := [(49, fe_cmp_Compare_string)]) (l := []) ti_ok ti_ht mix (List.forall_mem_cons.2 ⟨ok_cmp_Compare_string, (List.forall_mem_nil _)⟩) (List.forall_mem_nil _) ⟨⟨Try.f48, (codeOf Try.f48), [.tmp 4], (LOn Int), by kernel_rfl, by kernel_rfl, by kernel_rfl, by kernel_rfl, rfl, by decide, ⟨by kernel_rfl, ?_, ?_⟩, ?_⟩⟩
  · exact no_loops (by kernel_rfl)
  · exact no_cuts (by kernel_rfl)
  · rintro ⟨x0, name1⟩
    kernel_rfl
/- 47 slices.BinarySearchFunc[[]loop.example/g01005/impl.Item,loop.example/g01005/impl.Item,string] -/
def slices_BinarySearchFunc_string__impl_itemAt_1_l0 (k : Nat) : Nat → (List (List UInt8 × List (List UInt8) × Int × Int)) → (List UInt8) → Unit → Int → Int → Int → ((List (List UInt8 × List (List UInt8) × Int × Int)) → (List UInt8) → Unit → Int → Int → Option (Int × Bool)) → Option (Int × Bool)
  | 0, _, _, _, _, _, _, _ => none
  | n + 1, x0, target1, cmp2, n8, i9, j10, e_0 => (if (decide (i9 < j10)) = true then (if 0 ≤ (w_i64 ((Int.fdiv (w_u64 ((w_i64 (i9 + j10)))) (2 ^ 1)))) then (x0[(w_i64 ((Int.fdiv (w_u64 ((w_i64 (i9 + j10)))) (2 ^ 1)))).toNat]?).bind fun y_1 => (impl_itemAt_1 y_1 target1).bind fun r_2 => (if (decide (r_2 < 0)) = true then slices_BinarySearchFunc_string__impl_itemAt_1_l0 k n x0 target1 cmp2 n8 (w_i64 ((w_i64 ((Int.fdiv (w_u64 ((w_i64 (i9 + j10)))) (2 ^ 1)))) + 1)) j10 e_0 else slices_BinarySearchFunc_string__impl_itemAt_1_l0 k n x0 target1 cmp2 n8 i9 (w_i64 ((Int.fdiv (w_u64 ((w_i64 (i9 + j10)))) (2 ^ 1)))) e_0) else none) else e_0 x0 target1 cmp2 n8 i9)
def slices_BinarySearchFunc_string__impl_itemAt_1 (k : Nat) (x0 : List (List UInt8 × List (List UInt8) × Int × Int)) (target1 : List UInt8) (cmp2 : Unit) : Option (Int × Bool) := slices_BinarySearchFunc_string__impl_itemAt_1_l0 k k x0 target1 cmp2 (List.length x0 : Int) 0 (List.length x0 : Int) (fun x_3 target_4 cmp_5 n_6 i_7 => (if (decide (i_7 < n_6)) = true then (if 0 ≤ i_7 then (x_3[i_7.toNat]?).bind fun y_8 => (impl_itemAt_1 y_8 target_4).bind fun r_9 => some (i_7, (decide (r_9 = 0))) else none) else some (i_7, false)))
def slices_BinarySearchFunc_string__impl_itemAt_1_l0_h : Head := ⟨[(0, (.val (.sl 38 (.st (.pr .str (.pr (.sl 9 .str) (.pr (.int .i64) (.int .i64)))))))), (1, (.val .str)), (2, (.val (.fn 48 .un))), (8, (.val (.int .i64))), (9, (.val (.int .i64))), (10, (.val (.int .i64)))], [], []⟩
def slices_BinarySearchFunc_string__impl_itemAt_1_l0_x0 : Head := ⟨[(0, (.val (.sl 38 (.st (.pr .str (.pr (.sl 9 .str) (.pr (.int .i64) (.int .i64)))))))), (1, (.val .str)), (2, (.val (.fn 48 .un))), (8, (.val (.int .i64))), (9, (.val (.int .i64)))], [], []⟩
def slices_BinarySearchFunc_string__impl_itemAt_1_l0_F (k n : Nat) (x : slices_BinarySearchFunc_string__impl_itemAt_1_l0_h.T) (kx : Nat → St → Option (Int × Bool)) : Option (Int × Bool) := slices_BinarySearchFunc_string__impl_itemAt_1_l0 k n x.1.1 x.1.2.1 x.1.2.2.1 x.1.2.2.2.1 x.1.2.2.2.2.1 x.1.2.2.2.2.2.1 (fun (x0 : List (List UInt8 × List (List UInt8) × Int × Int)) (target1 : List UInt8) (cmp2 : Unit) (n8 : Int) (i9 : Int) => kx 0 (slices_BinarySearchFunc_string__impl_itemAt_1_l0_x0.fill ((x0, target1, cmp2, n8, i9, ()), (), ())))
def slices_BinarySearchFunc_string__impl_itemAt_1_O (k : Nat) : Oracles (Int × Bool) := ⟨fun n => bif Nat.beq n 3 then some (fun σ kx => slices_BinarySearchFunc_string__impl_itemAt_1_l0_h.get σ fun x => slices_BinarySearchFunc_string__impl_itemAt_1_l0_F k k x kx) else none, fun _ => none⟩
def fe_slices_BinarySearchFunc_string__impl_itemAt_1 (k : Nat) : FE := ⟨(.pr (.sl 38 (.st (.pr .str (.pr (.sl 9 .str) (.pr (.int .i64) (.int .i64)))))) (.pr .str (.fn 48 .un))), 2, (.pr (.int .i64) .bool), fun x => slices_BinarySearchFunc_string__impl_itemAt_1 k x.1 x.2.1 x.2.2⟩
theorem slices_BinarySearchFunc_string__impl_itemAt_1_l0_ok (k : Nat) : LoopOK (mkEnv ti [(48, fe_impl_itemAt_1)] (lk []) pins0 pinB0) (slices_BinarySearchFunc_string__impl_itemAt_1_O k) (rdC (mkEnv ti [(48, fe_impl_itemAt_1)] (lk []) pins0 pinB0) [.tmp 6, .tmp 7] (.pr (.int .i64) .bool)) ((loopsOf (codeOf Try.f47)).getD 0 .skip) (fun σ kx => slices_BinarySearchFunc_string__impl_itemAt_1_l0_h.get σ fun x => slices_BinarySearchFunc_string__impl_itemAt_1_l0_F k k x kx) := by
  refine ⟨slices_BinarySearchFunc_string__impl_itemAt_1_l0_h, [(0, slices_BinarySearchFunc_string__impl_itemAt_1_l0_x0)], fun n x kx => slices_BinarySearchFunc_string__impl_itemAt_1_l0_F k n x kx, k, by kernel_rfl, by kernel_rfl, fun x kx => by kernel_rfl, ?_, fun σ kx => rfl⟩
  rintro n ⟨⟨x0, target1, cmp2, n8, i9, j10, ⟨⟩⟩, ⟨⟩, ⟨⟩⟩ kx
  kernel_rfl
theorem ok_slices_BinarySearchFunc_string__impl_itemAt_1 (k : Nat) : FnOK Try.prog 47 (fe_slices_BinarySearchFunc_string__impl_itemAt_1 k) := by
  refine closed_ok (tab := [(48, fe_impl_itemAt_1)]) (l := []) ti_ok ti_ht mix (List.forall_mem_cons.2 ⟨ok_impl_itemAt_1, (List.forall_mem_nil _)⟩) (List.forall_mem_nil _) ⟨⟨Try.f47, (codeOf Try.f47), [.tmp 6, .tmp 7], (slices_BinarySearchFunc_string__impl_itemAt_1_O k), by kernel_rfl, by kernel_rfl, by kernel_rfl, by kernel_rfl, rfl, by decide, ⟨by kernel_rfl, ?_, ?_⟩, ?_⟩⟩
  · refine loops_of (n := 1) (by kernel_rfl) fun i hi => ?_
    match i, hi with
    | 0, _ => exact loop_of (by kernel_rfl) (slices_BinarySearchFunc_string__impl_itemAt_1_l0_ok k)
    | n + 1, hi => omega
  · exact no_cuts (by kernel_rfl)
  · rintro ⟨x0, target1, cmp2⟩
    kernel_rfl
/- 25 loop.example/g01005/impl.itemAt -/
def impl_itemAt (k : Nat) (list0 : List (List UInt8 × List (List UInt8) × Int × Int)) (name1 : List UInt8) : Option (Int × Bool) := (slices_BinarySearchFunc_string__impl_itemAt_1 k list0 name1 ()).bind fun r_1 => some (r_1.1, r_1.2)
def fe_impl_itemAt (k : Nat) : FE := ⟨(.pr (.sl 38 (.st (.pr .str (.pr (.sl 9 .str) (.pr (.int .i64) (.int .i64)))))) .str), 2, (.pr (.int .i64) .bool), fun x => impl_itemAt k x.1 x.2⟩
theorem ok_impl_itemAt (k : Nat) : FnOK Try.prog 25 (fe_impl_itemAt k) := by
  refine closed_ok (tab := [(47, fe_slices_BinarySearchFunc_string__impl_itemAt_1 k)]) (l := []) ti_ok ti_ht mix (List.forall_mem_cons.2 ⟨ok_slices_BinarySearchFunc_string__impl_itemAt_1 k, (List.forall_mem_nil _)⟩) (List.forall_mem_nil _) ⟨⟨Try.f25, (codeOf Try.f25), [.tmp 4, .tmp 5], (LOn (Int × Bool)), by kernel_rfl, by kernel_rfl, by kernel_rfl, by kernel_rfl, rfl, by decide, ⟨by kernel_rfl, ?_, ?_⟩, ?_⟩⟩
  · exact no_loops (by kernel_rfl)
  · exact no_cuts (by kernel_rfl)
  · rintro ⟨list0, name1⟩
    kernel_rfl
/- 20 loop.example/g01005/impl.itemized -/
def impl_itemized (k : Nat) (list0 : List (List UInt8 × List (List UInt8) × Int × Int)) (name1 : List UInt8) : Option Int := (impl_ValidItems k list0).bind fun r_1 => (if (!r_1) = true then some 1 else (impl_itemAt k list0 name1).bind fun r_2 => (if (!r_2.2) = true then some 3 else some 0))
def fe_impl_itemized (k : Nat) : FE := ⟨(.pr (.sl 38 (.st (.pr .str (.pr (.sl 9 .str) (.pr (.int .i64) (.int .i64)))))) .str), 1, (.int .i64), fun x => impl_itemized k x.1 x.2⟩
theorem ok_impl_itemized (k : Nat) : FnOK Try.prog 20 (fe_impl_itemized k) := by
  refine closed_ok (tab := [(18, fe_impl_ValidItems k), (25, fe_impl_itemAt k)]) (l := []) ti_ok ti_ht mix (List.forall_mem_cons.2 ⟨ok_impl_ValidItems k, (List.forall_mem_cons.2 ⟨ok_impl_itemAt k, (List.forall_mem_nil _)⟩)⟩) (List.forall_mem_nil _) ⟨⟨Try.f20, (codeOf Try.f20), [.tmp 4], (LOn Int), by kernel_rfl, by kernel_rfl, by kernel_rfl, by kernel_rfl, rfl, by decide, ⟨by kernel_rfl, ?_, ?_⟩, ?_⟩⟩
  · exact no_loops (by kernel_rfl)
  · exact no_cuts (by kernel_rfl)
  · rintro ⟨list0, name1⟩
    kernel_rfl
/- 22 loop.example/g01005/impl.RunPlan$1 -/
def impl_RunPlan_1 (x0 : List UInt8 × List (List UInt8) × Int × Int) (x1 : Int) : Option Bool := some (decide (x1 ≤ x0.2.2.1))
def fe_impl_RunPlan_1 : FE := ⟨(.pr (.st (.pr .str (.pr (.sl 9 .str) (.pr (.int .i64) (.int .i64))))) (.ptr (.int .i64))), 1, .bool, fun x => impl_RunPlan_1 x.1 x.2⟩
theorem ok_impl_RunPlan_1 : FnOK Try.prog 22 (fe_impl_RunPlan_1) := by
  refine closed_ok (tab := []) (l := []) ti_ok ti_ht mix (List.forall_mem_nil _) (List.forall_mem_nil _) ⟨⟨Try.f22, (codeOf Try.f22), [.tmp 3], (LOn Bool), by kernel_rfl, by kernel_rfl, by kernel_rfl, by kernel_rfl, rfl, by decide, ⟨by kernel_rfl, ?_, ?_⟩, ?_⟩⟩
  · exact no_loops (by kernel_rfl)
  · exact no_cuts (by kernel_rfl)
  · rintro ⟨x0, x1⟩
    kernel_rfl
end
end Go.Proofs.Ytmfkljkpdigenaa.Ev
