/- Functions of the program, as plain ones. No conditions. -/
import Derived.Test.YtgcndhlbhlnplaaG1
import Derived.KernelRfl
set_option linter.unusedVariables false
set_option maxRecDepth 100000
namespace Go.Proofs.Ytgcndhlbhlnplaa.Ev
open Go.RowKit
noncomputable section
/- 13 loop.example/g01005/spec.l28Own (open) -/
def spec_l28Own_o_l0 (k : Nat) : Nat → Int → (List (List UInt8 × List (List UInt8) × Int × Int)) → (List (List UInt8 × List (List UInt8) × Int × Int)) → ((List (List UInt8 × List (List UInt8) × Int × Int)) → (List (List UInt8 × List (List UInt8) × Int × Int)) → Option (((Unit × Unit) × ((List (List UInt8 × List (List UInt8) × Int × Int)) × (List (List UInt8 × List (List UInt8) × Int × Int)) × Unit) × Unit))) → Option (((Unit × Unit) × ((List (List UInt8 × List (List UInt8) × Int × Int)) × (List (List UInt8 × List (List UInt8) × Int × Int)) × Unit) × Unit))
  | 0, _, _, _, _ => none
  | n + 1, i4, q_2, q_3, e_0 => (if (decide (i4 < (List.length q_2 : Int))) = true then (if 0 ≤ i4 ∧ i4.toNat < List.length q_2 then (q_2[i4.toNat]?).bind fun y_4 => (q_2[i4.toNat]?).bind fun y_5 => (if (([] : List Unit).length + y_5.2.1.length) * 16 ≤ LIM then (if (q_3.length + [(y_4.1, (y_5.2.1, (y_4.2.2.1, y_4.2.2.2)))].length) * 56 ≤ LIM then spec_l28Own_o_l0 k n (w_i64 (i4 + 1)) q_2 (q_3 ++ [(y_4.1, (y_5.2.1, (y_4.2.2.1, y_4.2.2.2)))]) e_0 else none) else none) else none) else e_0 q_2 q_3)
def spec_l28Own_o (k : Nat) (q_1 : List (List UInt8 × List (List UInt8) × Int × Int)) : Option (((Unit × Unit) × ((List (List UInt8 × List (List UInt8) × Int × Int)) × (List (List UInt8 × List (List UInt8) × Int × Int)) × Unit) × Unit)) := spec_l28Own_o_l0 k k 0 q_1 [] (fun q_6 q_7 => some (((), ()), (q_6, q_7, ()), ()))
def spec_l28Own_o_l0_h : Head := ⟨[(0, (.ref 1000000000 [])), (3, (.ref 64000001 [])), (4, (.val (.int .i64)))], [(1000000000, 37, (.st (.pr .str (.pr (.sl 9 .str) (.pr (.int .i64) (.int .i64))))), false), (64000001, 37, (.rd (.st (.pr .str (.pr (.sl 9 .str) (.pr (.int .i64) (.int .i64)))))), false)], []⟩
def spec_l28Own_o_l0_x0 : Head := ⟨[(3, (.ref 64000001 []))], [(1000000000, 37, (.st (.pr .str (.pr (.sl 9 .str) (.pr (.int .i64) (.int .i64))))), false), (64000001, 37, (.rd (.st (.pr .str (.pr (.sl 9 .str) (.pr (.int .i64) (.int .i64)))))), false)], []⟩
def spec_l28Own_o_l0_F (k n : Nat) (x : spec_l28Own_o_l0_h.T) (kx : Nat → St → Option (((Unit × Unit) × ((List (List UInt8 × List (List UInt8) × Int × Int)) × (List (List UInt8 × List (List UInt8) × Int × Int)) × Unit) × Unit))) : Option (((Unit × Unit) × ((List (List UInt8 × List (List UInt8) × Int × Int)) × (List (List UInt8 × List (List UInt8) × Int × Int)) × Unit) × Unit)) := spec_l28Own_o_l0 k n x.1.2.2.1 x.2.1.1 x.2.1.2.1 (fun (q_6 : List (List UInt8 × List (List UInt8) × Int × Int)) (q_7 : List (List UInt8 × List (List UInt8) × Int × Int)) => kx 0 (spec_l28Own_o_l0_x0.fill (((), ()), (q_6, q_7, ()), ())))
def spec_l28Own_o_O (k : Nat) : Oracles (((Unit × Unit) × ((List (List UInt8 × List (List UInt8) × Int × Int)) × (List (List UInt8 × List (List UInt8) × Int × Int)) × Unit) × Unit)) := ⟨fun n => bif Nat.beq n 3 then some (fun σ kx => spec_l28Own_o_l0_h.get σ fun x => spec_l28Own_o_l0_F k k x kx) else none, fun _ => none⟩
def spec_l28Own_o_hi : Head := ⟨[(0, (.ref 1000000000 []))], [(1000000000, 37, (.st (.pr .str (.pr (.sl 9 .str) (.pr (.int .i64) (.int .i64))))), false)], []⟩
def spec_l28Own_o_ho : Head := ⟨[(0, (.ref 64000001 []))], [(1000000000, 37, (.st (.pr .str (.pr (.sl 9 .str) (.pr (.int .i64) (.int .i64))))), false), (64000001, 37, (.rd (.st (.pr .str (.pr (.sl 9 .str) (.pr (.int .i64) (.int .i64)))))), false)], []⟩
def oc_spec_l28Own_o (k : Nat) : OC := ⟨spec_l28Own_o_hi, spec_l28Own_o_ho, fun x => spec_l28Own_o k x.2.1.1, true⟩
theorem spec_l28Own_o_l0_ok (k : Nat) (pins : Nat → Value) (pinB : Nat → Nat) : LoopOK (mkEnv tiR [] (lk []) pins pinB) (spec_l28Own_o_O k) (rdO (mkEnv tiR [] (lk []) pins pinB) [.tmp 2] spec_l28Own_o_ho) ((loopsOf (codeOf Try.f13)).getD 0 .skip) (fun σ kx => spec_l28Own_o_l0_h.get σ fun x => spec_l28Own_o_l0_F k k x kx) := by
  refine ⟨spec_l28Own_o_l0_h, [(0, spec_l28Own_o_l0_x0)], fun n x kx => spec_l28Own_o_l0_F k n x kx, k, by kernel_rfl, by kernel_rfl, fun x kx => by kernel_rfl, ?_, fun σ kx => rfl⟩
  rintro n ⟨⟨⟨⟩, ⟨⟩, i4, ⟨⟩⟩, ⟨q_2, q_3, ⟨⟩⟩, ⟨⟩⟩ kx
  kernel_rfl
theorem ok_spec_l28Own_o (k : Nat) : OpenOK Try.prog tiR 13 (oc_spec_l28Own_o k) := by
  refine open_ok (tab := []) (l := []) tiR_ok tiR_ht mix (List.forall_mem_nil _) (List.forall_mem_nil _) ⟨by kernel_rfl, by kernel_rfl, by kernel_rfl, Try.f13, (codeOf Try.f13), [.tmp 2], (spec_l28Own_o_O k), by kernel_rfl, by kernel_rfl, by kernel_rfl, by kernel_rfl, Nat.le_of_ble_eq_true (by kernel_rfl), fun pins pinB => ⟨⟨by kernel_rfl, ?_, ?_⟩, ?_⟩⟩
  · refine loops_of (n := 1) (by kernel_rfl) fun i hi => ?_
    match i, hi with
    | 0, _ => exact loop_of (by kernel_rfl) (spec_l28Own_o_l0_ok k pins pinB)
    | n + 1, hi => omega
  · exact no_cuts (by kernel_rfl)
  · rintro ⟨⟨⟨⟩, ⟨⟩⟩, ⟨q_1, ⟨⟩⟩, ⟨⟩⟩
    kernel_rfl
/- 5 loop.example/g01005/spec.DropItem (open) -/
def spec_DropItem_o_l0 (k : Nat) : Nat → (List UInt8) → Int → (List (List UInt8 × List (List UInt8) × Int × Int)) → (List (List UInt8 × List (List UInt8) × Int × Int)) → (List (List UInt8 × List (List UInt8) × Int × Int)) → ((List (List UInt8 × List (List UInt8) × Int × Int)) → (List (List UInt8 × List (List UInt8) × Int × Int)) → Option ((((Unit × (Int × Unit)) × Unit) × ((List (List UInt8 × List (List UInt8) × Int × Int)) × (List (List UInt8 × List (List UInt8) × Int × Int)) × Unit) × Unit))) → Option ((((Unit × (Int × Unit)) × Unit) × ((List (List UInt8 × List (List UInt8) × Int × Int)) × (List (List UInt8 × List (List UInt8) × Int × Int)) × Unit) × Unit))
  | 0, _, _, _, _, _, _ => none
  | n + 1, name1, i9, q_6, q_7, q_8, e_0 => (if (decide (i9 < (List.length q_8 : Int))) = true then (if 0 ≤ i9 ∧ i9.toNat < List.length q_8 then (q_8[i9.toNat]?).bind fun y_9 => (if (!(decide (y_9.1 = name1))) = true then (if 0 ≤ i9 ∧ i9.toNat < List.length q_8 then (q_8[i9.toNat]?).bind fun y_10 => (if (q_7.length + [y_10].length) * 56 ≤ LIM then spec_DropItem_o_l0 k n name1 (w_i64 (i9 + 1)) q_6 (q_7 ++ [y_10]) q_8 e_0 else none) else none) else spec_DropItem_o_l0 k n name1 (w_i64 (i9 + 1)) q_6 q_7 q_8 e_0) else none) else e_0 q_6 q_7)
def spec_DropItem_o (k : Nat) (name1 : List UInt8) (q_1 : List (List UInt8 × List (List UInt8) × Int × Int)) : Option ((((Unit × (Int × Unit)) × Unit) × ((List (List UInt8 × List (List UInt8) × Int × Int)) × (List (List UInt8 × List (List UInt8) × Int × Int)) × Unit) × Unit)) := (spec_l28Ask k q_1 name1).bind fun r_2 => (if (!(decide (r_2 = 0))) = true then some ((((), (r_2, ())), ()), (q_1, [], ()), ()) else (spec_l28Own_o k q_1).bind fun y_5 => spec_DropItem_o_l0 k k name1 0 y_5.2.1.1 [] y_5.2.1.2.1 (fun q_11 q_12 => (spec_l28Ok k q_12).bind fun r_13 => (if (!r_13) = true then some ((((), (6, ())), ()), (q_11, [], ()), ()) else some ((((), (0, ())), ()), (q_11, q_12, ()), ()))))
def spec_DropItem_o_l0_h : Head := ⟨[(1, (.val .str)), (7, (.ref 64000001 [])), (8, (.ref 64000002 [])), (9, (.val (.int .i64)))], [(1000000000, 37, (.st (.pr .str (.pr (.sl 9 .str) (.pr (.int .i64) (.int .i64))))), false), (64000001, 37, (.rd (.st (.pr .str (.pr (.sl 9 .str) (.pr (.int .i64) (.int .i64)))))), false), (64000002, 37, (.rd (.st (.pr .str (.pr (.sl 9 .str) (.pr (.int .i64) (.int .i64)))))), false)], []⟩
def spec_DropItem_o_l0_x0 : Head := ⟨[(7, (.ref 64000001 []))], [(1000000000, 37, (.st (.pr .str (.pr (.sl 9 .str) (.pr (.int .i64) (.int .i64))))), false), (64000001, 37, (.rd (.st (.pr .str (.pr (.sl 9 .str) (.pr (.int .i64) (.int .i64)))))), false)], []⟩
def spec_DropItem_o_l0_F (k n : Nat) (x : spec_DropItem_o_l0_h.T) (kx : Nat → St → Option ((((Unit × (Int × Unit)) × Unit) × ((List (List UInt8 × List (List UInt8) × Int × Int)) × (List (List UInt8 × List (List UInt8) × Int × Int)) × Unit) × Unit))) : Option ((((Unit × (Int × Unit)) × Unit) × ((List (List UInt8 × List (List UInt8) × Int × Int)) × (List (List UInt8 × List (List UInt8) × Int × Int)) × Unit) × Unit)) := spec_DropItem_o_l0 k n x.1.1 x.1.2.2.2.1 x.2.1.1 x.2.1.2.1 x.2.1.2.2.1 (fun (q_11 : List (List UInt8 × List (List UInt8) × Int × Int)) (q_12 : List (List UInt8 × List (List UInt8) × Int × Int)) => kx 0 (spec_DropItem_o_l0_x0.fill (((), ()), (q_11, q_12, ()), ())))
def spec_DropItem_o_O (k : Nat) : Oracles ((((Unit × (Int × Unit)) × Unit) × ((List (List UInt8 × List (List UInt8) × Int × Int)) × (List (List UInt8 × List (List UInt8) × Int × Int)) × Unit) × Unit)) := ⟨fun n => bif Nat.beq n 7 then some (fun σ kx => spec_DropItem_o_l0_h.get σ fun x => spec_DropItem_o_l0_F k k x kx) else none, fun _ => none⟩
def spec_DropItem_o_hi : Head := ⟨[(0, (.ref 1000000000 [])), (1, (.val .str))], [(1000000000, 37, (.st (.pr .str (.pr (.sl 9 .str) (.pr (.int .i64) (.int .i64))))), false)], []⟩
def spec_DropItem_o_ho : Head := ⟨[(0, (.tup (.cns (.ref 64000001 []) (.cns (.val (.int .i64)) .nl))))], [(1000000000, 37, (.st (.pr .str (.pr (.sl 9 .str) (.pr (.int .i64) (.int .i64))))), false), (64000001, 37, (.rd (.st (.pr .str (.pr (.sl 9 .str) (.pr (.int .i64) (.int .i64)))))), false)], []⟩
def oc_spec_DropItem_o (k : Nat) : OC := ⟨spec_DropItem_o_hi, spec_DropItem_o_ho, fun x => spec_DropItem_o k x.1.2.1 x.2.1.1, true⟩
theorem spec_DropItem_o_l0_ok (k : Nat) (pins : Nat → Value) (pinB : Nat → Nat) : LoopOK (mkEnv tiR [(12, fe_spec_l28Ask k), (14, fe_spec_l28Ok k)] (lk [(18, 13, oc_spec_l28Own_o k)]) pins pinB) (spec_DropItem_o_O k) (rdO (mkEnv tiR [(12, fe_spec_l28Ask k), (14, fe_spec_l28Ok k)] (lk [(18, 13, oc_spec_l28Own_o k)]) pins pinB) [.tmp 4, .tmp 5] spec_DropItem_o_ho) ((loopsOf (codeOf Try.f5)).getD 0 .skip) (fun σ kx => spec_DropItem_o_l0_h.get σ fun x => spec_DropItem_o_l0_F k k x kx) := by
  refine ⟨spec_DropItem_o_l0_h, [(0, spec_DropItem_o_l0_x0)], fun n x kx => spec_DropItem_o_l0_F k n x kx, k, by kernel_rfl, by kernel_rfl, fun x kx => by kernel_rfl, ?_, fun σ kx => rfl⟩
  rintro n ⟨⟨name1, ⟨⟩, ⟨⟩, i9, ⟨⟩⟩, ⟨q_6, q_7, q_8, ⟨⟩⟩, ⟨⟩⟩ kx
  kernel_rfl
theorem ok_spec_DropItem_o (k : Nat) : OpenOK Try.prog tiR 5 (oc_spec_DropItem_o k) := by
  refine open_ok (tab := [(12, fe_spec_l28Ask k), (14, fe_spec_l28Ok k)]) (l := [(18, 13, oc_spec_l28Own_o k)]) tiR_ok tiR_ht mix (List.forall_mem_cons.2 ⟨ok_spec_l28Ask k, (List.forall_mem_cons.2 ⟨ok_spec_l28Ok k, (List.forall_mem_nil _)⟩)⟩) (List.forall_mem_cons.2 ⟨ok_spec_l28Own_o k, (List.forall_mem_nil _)⟩) ⟨by kernel_rfl, by kernel_rfl, by kernel_rfl, Try.f5, (codeOf Try.f5), [.tmp 4, .tmp 5], (spec_DropItem_o_O k), by kernel_rfl, by kernel_rfl, by kernel_rfl, by kernel_rfl, Nat.le_of_ble_eq_true (by kernel_rfl), fun pins pinB => ⟨⟨by kernel_rfl, ?_, ?_⟩, ?_⟩⟩
  · refine loops_of (n := 1) (by kernel_rfl) fun i hi => ?_
    match i, hi with
    | 0, _ => exact loop_of (by kernel_rfl) (spec_DropItem_o_l0_ok k pins pinB)
    | n + 1, hi => omega
  · exact no_cuts (by kernel_rfl)
  · rintro ⟨⟨⟨⟩, name1, ⟨⟩⟩, ⟨q_1, ⟨⟩⟩, ⟨⟩⟩
    kernel_rfl
/- 53 loop.example/g01005/impl.IsName -/
def impl_IsName_l0 (k : Nat) : Nat → Int → Int → (List Int) → (Option Bool) → Option Bool
  | 0, _, _, _, _ => none
  | n + 1, x17, x18, q_1, e_0 => (if (decide (x18 < x17)) = true then (if 0 ≤ x18 ∧ x18.toNat < List.length q_1 then (q_1[x18.toNat]?).bind fun y_2 => (if (decide (97 ≤ y_2)) = true then (if (decide (48 ≤ y_2)) = true then (if (!(decide (y_2 ≤ 122))) = true then (if (decide (x18 = 0)) = true then some false else (if (!(decide (y_2 ≤ 57))) = true then some false else impl_IsName_l0 k n x17 (w_i64 (x18 + 1)) q_1 e_0)) else impl_IsName_l0 k n x17 (w_i64 (x18 + 1)) q_1 e_0) else (if (!(decide (y_2 ≤ 122))) = true then (if (decide (x18 = 0)) = true then some false else some false) else impl_IsName_l0 k n x17 (w_i64 (x18 + 1)) q_1 e_0)) else (if (decide (48 ≤ y_2)) = true then (if (decide (x18 = 0)) = true then some false else (if (!(decide (y_2 ≤ 57))) = true then some false else impl_IsName_l0 k n x17 (w_i64 (x18 + 1)) q_1 e_0)) else (if (decide (x18 = 0)) = true then some false else some false))) else none) else e_0)
def impl_IsName (k : Nat) (s0 : List UInt8) : Option Bool := (if (decide ((List.length s0 : Int) < 1)) = true then some false else (if (decide (10 < (List.length s0 : Int))) = true then some false else (if s0.length ≤ LIM then impl_IsName_l0 k k (List.length (of_S s0) : Int) 0 (of_S s0) (some true) else none)))
def impl_IsName_l0_h : Head := ⟨[(16, (.ref 64000000 [])), (17, (.val (.int .i64))), (18, (.val (.int .i64)))], [(64000000, 5, (.int .u8), true)], []⟩
def impl_IsName_l0_x0 : Head := ⟨[], [], []⟩
def impl_IsName_l0_F (k n : Nat) (x : impl_IsName_l0_h.T) (kx : Nat → St → Option Bool) : Option Bool := impl_IsName_l0 k n x.1.2.1 x.1.2.2.1 x.2.1.1 (kx 0 (impl_IsName_l0_x0.fill ((), (), ())))
def impl_IsName_O (k : Nat) : Oracles Bool := ⟨fun n => bif Nat.beq n 4 then some (fun σ kx => impl_IsName_l0_h.get σ fun x => impl_IsName_l0_F k k x kx) else none, fun _ => none⟩
def fe_impl_IsName (k : Nat) : FE := ⟨.str, 1, .bool, fun x => impl_IsName k x⟩
theorem impl_IsName_l0_ok (k : Nat) : LoopOK (mkEnv ti [] (lk []) pins0 pinB0) (impl_IsName_O k) (rdC (mkEnv ti [] (lk []) pins0 pinB0) [.tmp 2] .bool) ((loopsOf (codeOf Try.f53)).getD 0 .skip) (fun σ kx => impl_IsName_l0_h.get σ fun x => impl_IsName_l0_F k k x kx) := by
  refine ⟨impl_IsName_l0_h, [(0, impl_IsName_l0_x0)], fun n x kx => impl_IsName_l0_F k n x kx, k, by kernel_rfl, by kernel_rfl, fun x kx => by kernel_rfl, ?_, fun σ kx => rfl⟩
  rintro n ⟨⟨⟨⟩, x17, x18, ⟨⟩⟩, ⟨q_1, ⟨⟩⟩, ⟨⟩⟩ kx
  kernel_rfl
theorem ok_impl_IsName (k : Nat) : FnOK Try.prog 53 (fe_impl_IsName k) := by
  refine closed_ok (tab := []) (l := []) ti_ok ti_ht mix (List.forall_mem_nil _) (List.forall_mem_nil _) ⟨⟨Try.f53, (codeOf Try.f53), [.tmp 2], (impl_IsName_O k), by kernel_rfl, by kernel_rfl, by kernel_rfl, by kernel_rfl, rfl, by decide, ⟨by kernel_rfl, ?_, ?_⟩, ?_⟩⟩
  · refine loops_of (n := 1) (by kernel_rfl) fun i hi => ?_
    match i, hi with
    | 0, _ => exact loop_of (by kernel_rfl) (impl_IsName_l0_ok k)
    | n + 1, hi => omega
  · exact no_cuts (by kernel_rfl)
  · rintro s0
    kernel_rfl
/- 46 loop.example/g01005/impl.areNames -/
def impl_areNames_l0 (k : Nat) : Nat → (List (List UInt8)) → Int → (List (List UInt8)) → Int → Int → ((List (List UInt8)) → Int → Option Bool) → Option Bool
  | 0, _, _, _, _, _, _ => none
  | n + 1, names0, most1, x7, x8, x9, e_0 => (if (decide (x9 < x8)) = true then (if 0 ≤ x9 then (x7[x9.toNat]?).bind fun y_1 => (impl_IsName k y_1).bind fun r_2 => (if (!r_2) = true then some false else (if (decide (0 < x9)) = true then (if 0 ≤ (w_i64 (x9 - 1)) then (names0[(w_i64 (x9 - 1)).toNat]?).bind fun y_3 => (if (Op.bytesLess y_1 y_3 || decide (y_1 = y_3)) = true then some false else impl_areNames_l0 k n names0 most1 x7 x8 (w_i64 (x9 + 1)) e_0) else none) else impl_areNames_l0 k n names0 most1 x7 x8 (w_i64 (x9 + 1)) e_0)) else none) else e_0 names0 most1)
def impl_areNames (k : Nat) (names0 : List (List UInt8)) (most1 : Int) : Option Bool := impl_areNames_l0 k k names0 most1 names0 (List.length names0 : Int) 0 (fun names_4 most_5 => some (decide ((List.length names_4 : Int) ≤ most_5)))
def impl_areNames_l0_h : Head := ⟨[(0, (.val (.sl 9 .str))), (1, (.val (.int .i64))), (7, (.val (.sl 9 .str))), (8, (.val (.int .i64))), (9, (.val (.int .i64)))], [], []⟩
def impl_areNames_l0_x0 : Head := ⟨[(0, (.val (.sl 9 .str))), (1, (.val (.int .i64)))], [], []⟩
def impl_areNames_l0_F (k n : Nat) (x : impl_areNames_l0_h.T) (kx : Nat → St → Option Bool) : Option Bool := impl_areNames_l0 k n x.1.1 x.1.2.1 x.1.2.2.1 x.1.2.2.2.1 x.1.2.2.2.2.1 (fun (names0 : List (List UInt8)) (most1 : Int) => kx 0 (impl_areNames_l0_x0.fill ((names0, most1, ()), (), ())))
def impl_areNames_O (k : Nat) : Oracles Bool := ⟨fun n => bif Nat.beq n 2 then some (fun σ kx => impl_areNames_l0_h.get σ fun x => impl_areNames_l0_F k k x kx) else none, fun _ => none⟩
def fe_impl_areNames (k : Nat) : FE := ⟨(.pr (.sl 9 .str) (.int .i64)), 1, .bool, fun x => impl_areNames k x.1 x.2⟩
theorem impl_areNames_l0_ok (k : Nat) : LoopOK (mkEnv ti [(53, fe_impl_IsName k)] (lk []) pins0 pinB0) (impl_areNames_O k) (rdC (mkEnv ti [(53, fe_impl_IsName k)] (lk []) pins0 pinB0) [.tmp 4] .bool) ((loopsOf (codeOf Try.f46)).getD 0 .skip) (fun σ kx => impl_areNames_l0_h.get σ fun x => impl_areNames_l0_F k k x kx) := by
  refine ⟨impl_areNames_l0_h, [(0, impl_areNames_l0_x0)], fun n x kx => impl_areNames_l0_F k n x kx, k, by kernel_rfl, by kernel_rfl, fun x kx => by kernel_rfl, ?_, fun σ kx => rfl⟩
  rintro n ⟨⟨names0, most1, x7, x8, x9, ⟨⟩⟩, ⟨⟩, ⟨⟩⟩ kx
  kernel_rfl
theorem ok_impl_areNames (k : Nat) : FnOK Try.prog 46 (fe_impl_areNames k) := by
  refine closed_ok (tab := [(53, fe_impl_IsName k)]) (l := []) ti_ok ti_ht mix (List.forall_mem_cons.2 ⟨ok_impl_IsName k, (List.forall_mem_nil _)⟩) (List.forall_mem_nil _) ⟨⟨Try.f46, (codeOf Try.f46), [.tmp 4], (impl_areNames_O k), by kernel_rfl, by kernel_rfl, by kernel_rfl, by kernel_rfl, rfl, by decide, ⟨by kernel_rfl, ?_, ?_⟩, ?_⟩⟩
  · refine loops_of (n := 1) (by kernel_rfl) fun i hi => ?_
    match i, hi with
    | 0, _ => exact loop_of (by kernel_rfl) (impl_areNames_l0_ok k)
    | n + 1, hi => omega
  · exact no_cuts (by kernel_rfl)
  · rintro ⟨names0, most1⟩
    kernel_rfl
/- 47 loop.example/g01005/impl.within -/
def impl_within (n0 : Int) (low1 : Int) (high2 : Int) : Option Bool := (if (decide (low1 ≤ n0)) = true then some (decide (n0 ≤ high2)) else some false)
def fe_impl_within : FE := ⟨(.pr (.int .i64) (.pr (.int .i64) (.int .i64))), 1, .bool, fun x => impl_within x.1 x.2.1 x.2.2⟩
theorem ok_impl_within : FnOK Try.prog 47 (fe_impl_within) := by
  refine closed_ok (tab := []) (l := []) ti_ok ti_ht mix (List.forall_mem_nil _) (List.forall_mem_nil _) ⟨⟨Try.f47, (codeOf Try.f47), [.tmp 6], (LOn Bool), by kernel_rfl, by kernel_rfl, by kernel_rfl, by kernel_rfl, rfl, by decide, ⟨by kernel_rfl, ?_, ?_⟩, ?_⟩⟩
  · exact no_loops (by kernel_rfl)
  · exact no_cuts (by kernel_rfl)
  · rintro ⟨n0, low1, high2⟩
    kernel_rfl
/- 40 slices.Index[[]string,string] -/
def slices_Index_string_l0 (k : Nat) : Nat → (List (List UInt8)) → (List UInt8) → Int → Int → (Option Int) → Option Int
  | 0, _, _, _, _, _ => none
  | n + 1, s0, v1, x7, x8, e_0 => (if (decide (x8 < x7)) = true then (if 0 ≤ x8 then (s0[x8.toNat]?).bind fun y_1 => (if (decide (v1 = y_1)) = true then some x8 else slices_Index_string_l0 k n s0 v1 x7 (w_i64 (x8 + 1)) e_0) else none) else e_0)
def slices_Index_string (k : Nat) (s0 : List (List UInt8)) (v1 : List UInt8) : Option Int := slices_Index_string_l0 k k s0 v1 (List.length s0 : Int) 0 (some (-1))
def slices_Index_string_l0_h : Head := ⟨[(0, (.val (.sl 9 .str))), (1, (.val .str)), (7, (.val (.int .i64))), (8, (.val (.int .i64)))], [], []⟩
def slices_Index_string_l0_x0 : Head := ⟨[], [], []⟩
def slices_Index_string_l0_F (k n : Nat) (x : slices_Index_string_l0_h.T) (kx : Nat → St → Option Int) : Option Int := slices_Index_string_l0 k n x.1.1 x.1.2.1 x.1.2.2.1 x.1.2.2.2.1 (kx 0 (slices_Index_string_l0_x0.fill ((), (), ())))
def slices_Index_string_O (k : Nat) : Oracles Int := ⟨fun n => bif Nat.beq n 2 then some (fun σ kx => slices_Index_string_l0_h.get σ fun x => slices_Index_string_l0_F k k x kx) else none, fun _ => none⟩
def fe_slices_Index_string (k : Nat) : FE := ⟨(.pr (.sl 9 .str) .str), 1, (.int .i64), fun x => slices_Index_string k x.1 x.2⟩
theorem slices_Index_string_l0_ok (k : Nat) : LoopOK (mkEnv ti [] (lk []) pins0 pinB0) (slices_Index_string_O k) (rdC (mkEnv ti [] (lk []) pins0 pinB0) [.tmp 4] (.int .i64)) ((loopsOf (codeOf Try.f40)).getD 0 .skip) (fun σ kx => slices_Index_string_l0_h.get σ fun x => slices_Index_string_l0_F k k x kx) := by
  refine ⟨slices_Index_string_l0_h, [(0, slices_Index_string_l0_x0)], fun n x kx => slices_Index_string_l0_F k n x kx, k, by kernel_rfl, by kernel_rfl, fun x kx => by kernel_rfl, ?_, fun σ kx => rfl⟩
  rintro n ⟨⟨s0, v1, x7, x8, ⟨⟩⟩, ⟨⟩, ⟨⟩⟩ kx
  kernel_rfl
theorem ok_slices_Index_string (k : Nat) : FnOK Try.prog 40 (fe_slices_Index_string k) := by
  refine closed_ok (tab := []) (l := []) ti_ok ti_ht mix (List.forall_mem_nil _) (List.forall_mem_nil _) ⟨⟨Try.f40, (codeOf Try.f40), [.tmp 4], (slices_Index_string_O k), by kernel_rfl, by kernel_rfl, by kernel_rfl, by kernel_rfl, rfl, by decide, ⟨by kernel_rfl, ?_, ?_⟩, ?_⟩⟩
  · refine loops_of (n := 1) (by kernel_rfl) fun i hi => ?_
    match i, hi with
    | 0, _ => exact loop_of (by kernel_rfl) (slices_Index_string_l0_ok k)
    | n + 1, hi => omega
  · exact no_cuts (by kernel_rfl)
  · rintro ⟨s0, v1⟩
    kernel_rfl
/- 30 slices.Contains[[]string,string] -/
def slices_Contains_string (k : Nat) (s0 : List (List UInt8)) (v1 : List UInt8) : Option Bool := (slices_Index_string k s0 v1).bind fun r_1 => some (decide (0 ≤ r_1))
def fe_slices_Contains_string (k : Nat) : FE := ⟨(.pr (.sl 9 .str) .str), 1, .bool, fun x => slices_Contains_string k x.1 x.2⟩
theorem ok_slices_Contains_string (k : Nat) : FnOK Try.prog 30 (fe_slices_Contains_string k) := by
  refine closed_ok (tab := [(40, fe_slices_Index_string k)]) (l := []) ti_ok ti_ht mix (List.forall_mem_cons.2 ⟨ok_slices_Index_string k, (List.forall_mem_nil _)⟩) (List.forall_mem_nil _) ⟨⟨Try.f30, (codeOf Try.f30), [.tmp 4], (LOn Bool), by kernel_rfl, by kernel_rfl, by kernel_rfl, by kernel_rfl, rfl, by decide, ⟨by kernel_rfl, ?_, ?_⟩, ?_⟩⟩
  · exact no_loops (by kernel_rfl)
  · exact no_cuts (by kernel_rfl)
  · rintro ⟨s0, v1⟩
    kernel_rfl
/- 49 loop.example/g01005/impl.ValidItems$1 -/
def impl_ValidItems_1 (k : Nat) (n0 : List UInt8) (x1 : List (List UInt8)) : Option Bool := (slices_Contains_string k x1 n0).bind fun r_1 => some (!r_1)
def fe_impl_ValidItems_1 (k : Nat) : FE := ⟨(.pr .str (.ptr (.sl 9 .str))), 1, .bool, fun x => impl_ValidItems_1 k x.1 x.2⟩
theorem ok_impl_ValidItems_1 (k : Nat) : FnOK Try.prog 49 (fe_impl_ValidItems_1 k) := by
  refine closed_ok (tab := [(30, fe_slices_Contains_string k)]) (l := []) ti_ok ti_ht mix (List.forall_mem_cons.2 ⟨ok_slices_Contains_string k, (List.forall_mem_nil _)⟩) (List.forall_mem_nil _) ⟨⟨Try.f49, (codeOf Try.f49), [.tmp 3], (LOn Bool), by kernel_rfl, by kernel_rfl, by kernel_rfl, by kernel_rfl, rfl, by decide, ⟨by kernel_rfl, ?_, ?_⟩, ?_⟩⟩
  · exact no_loops (by kernel_rfl)
  · exact no_cuts (by kernel_rfl)
  · rintro ⟨n0, x1⟩
    kernel_rfl
/- 54 slices.IndexFunc[[]string,string] -/
def slices_IndexFunc_string__impl_ValidItems_1_l0 (k : Nat) : Nat → (List (List UInt8)) → (List (List UInt8)) → Int → Int → (Option Int) → Option Int
  | 0, _, _, _, _, _ => none
  | n + 1, s0, f1, x7, x8, e_0 => (if (decide (x8 < x7)) = true then (if 0 ≤ x8 then (s0[x8.toNat]?).bind fun y_1 => (impl_ValidItems_1 k y_1 f1).bind fun r_2 => (if r_2 = true then some x8 else slices_IndexFunc_string__impl_ValidItems_1_l0 k n s0 f1 x7 (w_i64 (x8 + 1)) e_0) else none) else e_0)
def slices_IndexFunc_string__impl_ValidItems_1 (k : Nat) (s0 : List (List UInt8)) (f1 : List (List UInt8)) : Option Int := slices_IndexFunc_string__impl_ValidItems_1_l0 k k s0 f1 (List.length s0 : Int) 0 (some (-1))
def slices_IndexFunc_string__impl_ValidItems_1_l0_h : Head := ⟨[(0, (.val (.sl 9 .str))), (1, (.val (.fn 49 (.ptr (.sl 9 .str))))), (7, (.val (.int .i64))), (8, (.val (.int .i64)))], [], []⟩
def slices_IndexFunc_string__impl_ValidItems_1_l0_x0 : Head := ⟨[], [], []⟩
def slices_IndexFunc_string__impl_ValidItems_1_l0_F (k n : Nat) (x : slices_IndexFunc_string__impl_ValidItems_1_l0_h.T) (kx : Nat → St → Option Int) : Option Int := slices_IndexFunc_string__impl_ValidItems_1_l0 k n x.1.1 x.1.2.1 x.1.2.2.1 x.1.2.2.2.1 (kx 0 (slices_IndexFunc_string__impl_ValidItems_1_l0_x0.fill ((), (), ())))
def slices_IndexFunc_string__impl_ValidItems_1_O (k : Nat) : Oracles Int := ⟨fun n => bif Nat.beq n 2 then some (fun σ kx => slices_IndexFunc_string__impl_ValidItems_1_l0_h.get σ fun x => slices_IndexFunc_string__impl_ValidItems_1_l0_F k k x kx) else none, fun _ => none⟩
def fe_slices_IndexFunc_string__impl_ValidItems_1 (k : Nat) : FE := ⟨(.pr (.sl 9 .str) (.fn 49 (.ptr (.sl 9 .str)))), 1, (.int .i64), fun x => slices_IndexFunc_string__impl_ValidItems_1 k x.1 x.2⟩
theorem slices_IndexFunc_string__impl_ValidItems_1_l0_ok (k : Nat) : LoopOK (mkEnv ti [(49, fe_impl_ValidItems_1 k)] (lk []) pins0 pinB0) (slices_IndexFunc_string__impl_ValidItems_1_O k) (rdC (mkEnv ti [(49, fe_impl_ValidItems_1 k)] (lk []) pins0 pinB0) [.tmp 4] (.int .i64)) ((loopsOf (codeOf Try.f54)).getD 0 .skip) (fun σ kx => slices_IndexFunc_string__impl_ValidItems_1_l0_h.get σ fun x => slices_IndexFunc_string__impl_ValidItems_1_l0_F k k x kx) := by
  refine ⟨slices_IndexFunc_string__impl_ValidItems_1_l0_h, [(0, slices_IndexFunc_string__impl_ValidItems_1_l0_x0)], fun n x kx => slices_IndexFunc_string__impl_ValidItems_1_l0_F k n x kx, k, by kernel_rfl, by kernel_rfl, fun x kx => by kernel_rfl, ?_, fun σ kx => rfl⟩
  rintro n ⟨⟨s0, f1, x7, x8, ⟨⟩⟩, ⟨⟩, ⟨⟩⟩ kx
  kernel_rfl
theorem ok_slices_IndexFunc_string__impl_ValidItems_1 (k : Nat) : FnOK Try.prog 54 (fe_slices_IndexFunc_string__impl_ValidItems_1 k) := by
  refine closed_ok (tab := [(49, fe_impl_ValidItems_1 k)]) (l := []) ti_ok ti_ht mix (List.forall_mem_cons.2 ⟨ok_impl_ValidItems_1 k, (List.forall_mem_nil _)⟩) (List.forall_mem_nil _) ⟨⟨Try.f54, (codeOf Try.f54), [.tmp 4], (slices_IndexFunc_string__impl_ValidItems_1_O k), by kernel_rfl, by kernel_rfl, by kernel_rfl, by kernel_rfl, rfl, by decide, ⟨by kernel_rfl, ?_, ?_⟩, ?_⟩⟩
  · refine loops_of (n := 1) (by kernel_rfl) fun i hi => ?_
    match i, hi with
    | 0, _ => exact loop_of (by kernel_rfl) (slices_IndexFunc_string__impl_ValidItems_1_l0_ok k)
    | n + 1, hi => omega
  · exact no_cuts (by kernel_rfl)
  · rintro ⟨s0, f1⟩
    kernel_rfl
/- 48 slices.ContainsFunc[[]string,string] -/
def slices_ContainsFunc_string__impl_ValidItems_1 (k : Nat) (s0 : List (List UInt8)) (f1 : List (List UInt8)) : Option Bool := (slices_IndexFunc_string__impl_ValidItems_1 k s0 f1).bind fun r_1 => some (decide (0 ≤ r_1))
def fe_slices_ContainsFunc_string__impl_ValidItems_1 (k : Nat) : FE := ⟨(.pr (.sl 9 .str) (.fn 49 (.ptr (.sl 9 .str)))), 1, .bool, fun x => slices_ContainsFunc_string__impl_ValidItems_1 k x.1 x.2⟩
theorem ok_slices_ContainsFunc_string__impl_ValidItems_1 (k : Nat) : FnOK Try.prog 48 (fe_slices_ContainsFunc_string__impl_ValidItems_1 k) := by
  refine closed_ok (tab := [(54, fe_slices_IndexFunc_string__impl_ValidItems_1 k)]) (l := []) ti_ok ti_ht mix (List.forall_mem_cons.2 ⟨ok_slices_IndexFunc_string__impl_ValidItems_1 k, (List.forall_mem_nil _)⟩) (List.forall_mem_nil _) ⟨⟨Try.f48, (codeOf Try.f48), [.tmp 4], (LOn Bool), by kernel_rfl, by kernel_rfl, by kernel_rfl, by kernel_rfl, rfl, by decide, ⟨by kernel_rfl, ?_, ?_⟩, ?_⟩⟩
  · exact no_loops (by kernel_rfl)
  · exact no_cuts (by kernel_rfl)
  · rintro ⟨s0, f1⟩
    kernel_rfl
/- 57 loop.example/g01005/impl.makeOrder$1$1 -/
def impl_makeOrder_1_1 (k : Nat) (n0 : List UInt8) (x1 : List (List UInt8)) : Option Bool := (slices_Contains_string k x1 n0).bind fun r_1 => some (!r_1)
def fe_impl_makeOrder_1_1 (k : Nat) : FE := ⟨(.pr .str (.ptr (.sl 9 .str))), 1, .bool, fun x => impl_makeOrder_1_1 k x.1 x.2⟩
theorem ok_impl_makeOrder_1_1 (k : Nat) : FnOK Try.prog 57 (fe_impl_makeOrder_1_1 k) := by
  refine closed_ok (tab := [(30, fe_slices_Contains_string k)]) (l := []) ti_ok ti_ht mix (List.forall_mem_cons.2 ⟨ok_slices_Contains_string k, (List.forall_mem_nil _)⟩) (List.forall_mem_nil _) ⟨⟨Try.f57, (codeOf Try.f57), [.tmp 3], (LOn Bool), by kernel_rfl, by kernel_rfl, by kernel_rfl, by kernel_rfl, rfl, by decide, ⟨by kernel_rfl, ?_, ?_⟩, ?_⟩⟩
  · exact no_loops (by kernel_rfl)
  · exact no_cuts (by kernel_rfl)
  · rintro ⟨n0, x1⟩
    kernel_rfl
/- 54 slices.IndexFunc[[]string,string] -/
def slices_IndexFunc_string__impl_makeOrder_1_1_l0 (k : Nat) : Nat → (List (List UInt8)) → (List (List UInt8)) → Int → Int → (Option Int) → Option Int
  | 0, _, _, _, _, _ => none
  | n + 1, s0, f1, x7, x8, e_0 => (if (decide (x8 < x7)) = true then (if 0 ≤ x8 then (s0[x8.toNat]?).bind fun y_1 => (impl_makeOrder_1_1 k y_1 f1).bind fun r_2 => (if r_2 = true then some x8 else slices_IndexFunc_string__impl_makeOrder_1_1_l0 k n s0 f1 x7 (w_i64 (x8 + 1)) e_0) else none) else e_0)
def slices_IndexFunc_string__impl_makeOrder_1_1 (k : Nat) (s0 : List (List UInt8)) (f1 : List (List UInt8)) : Option Int := slices_IndexFunc_string__impl_makeOrder_1_1_l0 k k s0 f1 (List.length s0 : Int) 0 (some (-1))
def slices_IndexFunc_string__impl_makeOrder_1_1_l0_h : Head := ⟨[(0, (.val (.sl 9 .str))), (1, (.val (.fn 57 (.ptr (.sl 9 .str))))), (7, (.val (.int .i64))), (8, (.val (.int .i64)))], [], []⟩
def slices_IndexFunc_string__impl_makeOrder_1_1_l0_x0 : Head := ⟨[], [], []⟩
def slices_IndexFunc_string__impl_makeOrder_1_1_l0_F (k n : Nat) (x : slices_IndexFunc_string__impl_makeOrder_1_1_l0_h.T) (kx : Nat → St → Option Int) : Option Int := slices_IndexFunc_string__impl_makeOrder_1_1_l0 k n x.1.1 x.1.2.1 x.1.2.2.1 x.1.2.2.2.1 (kx 0 (slices_IndexFunc_string__impl_makeOrder_1_1_l0_x0.fill ((), (), ())))
def slices_IndexFunc_string__impl_makeOrder_1_1_O (k : Nat) : Oracles Int := ⟨fun n => bif Nat.beq n 2 then some (fun σ kx => slices_IndexFunc_string__impl_makeOrder_1_1_l0_h.get σ fun x => slices_IndexFunc_string__impl_makeOrder_1_1_l0_F k k x kx) else none, fun _ => none⟩
def fe_slices_IndexFunc_string__impl_makeOrder_1_1 (k : Nat) : FE := ⟨(.pr (.sl 9 .str) (.fn 57 (.ptr (.sl 9 .str)))), 1, (.int .i64), fun x => slices_IndexFunc_string__impl_makeOrder_1_1 k x.1 x.2⟩
theorem slices_IndexFunc_string__impl_makeOrder_1_1_l0_ok (k : Nat) : LoopOK (mkEnv ti [(57, fe_impl_makeOrder_1_1 k)] (lk []) pins0 pinB0) (slices_IndexFunc_string__impl_makeOrder_1_1_O k) (rdC (mkEnv ti [(57, fe_impl_makeOrder_1_1 k)] (lk []) pins0 pinB0) [.tmp 4] (.int .i64)) ((loopsOf (codeOf Try.f54)).getD 0 .skip) (fun σ kx => slices_IndexFunc_string__impl_makeOrder_1_1_l0_h.get σ fun x => slices_IndexFunc_string__impl_makeOrder_1_1_l0_F k k x kx) := by
  refine ⟨slices_IndexFunc_string__impl_makeOrder_1_1_l0_h, [(0, slices_IndexFunc_string__impl_makeOrder_1_1_l0_x0)], fun n x kx => slices_IndexFunc_string__impl_makeOrder_1_1_l0_F k n x kx, k, by kernel_rfl, by kernel_rfl, fun x kx => by kernel_rfl, ?_, fun σ kx => rfl⟩
  rintro n ⟨⟨s0, f1, x7, x8, ⟨⟩⟩, ⟨⟩, ⟨⟩⟩ kx
  kernel_rfl
theorem ok_slices_IndexFunc_string__impl_makeOrder_1_1 (k : Nat) : FnOK Try.prog 54 (fe_slices_IndexFunc_string__impl_makeOrder_1_1 k) := by
  refine closed_ok (tab := [(57, fe_impl_makeOrder_1_1 k)]) (l := []) ti_ok ti_ht mix (List.forall_mem_cons.2 ⟨ok_impl_makeOrder_1_1 k, (List.forall_mem_nil _)⟩) (List.forall_mem_nil _) ⟨⟨Try.f54, (codeOf Try.f54), [.tmp 4], (slices_IndexFunc_string__impl_makeOrder_1_1_O k), by kernel_rfl, by kernel_rfl, by kernel_rfl, by kernel_rfl, rfl, by decide, ⟨by kernel_rfl, ?_, ?_⟩, ?_⟩⟩
  · refine loops_of (n := 1) (by kernel_rfl) fun i hi => ?_
    match i, hi with
    | 0, _ => exact loop_of (by kernel_rfl) (slices_IndexFunc_string__impl_makeOrder_1_1_l0_ok k)
    | n + 1, hi => omega
  · exact no_cuts (by kernel_rfl)
  · rintro ⟨s0, f1⟩
    kernel_rfl
/- 48 slices.ContainsFunc[[]string,string] -/
def slices_ContainsFunc_string__impl_makeOrder_1_1 (k : Nat) (s0 : List (List UInt8)) (f1 : List (List UInt8)) : Option Bool := (slices_IndexFunc_string__impl_makeOrder_1_1 k s0 f1).bind fun r_1 => some (decide (0 ≤ r_1))
def fe_slices_ContainsFunc_string__impl_makeOrder_1_1 (k : Nat) : FE := ⟨(.pr (.sl 9 .str) (.fn 57 (.ptr (.sl 9 .str)))), 1, .bool, fun x => slices_ContainsFunc_string__impl_makeOrder_1_1 k x.1 x.2⟩
theorem ok_slices_ContainsFunc_string__impl_makeOrder_1_1 (k : Nat) : FnOK Try.prog 48 (fe_slices_ContainsFunc_string__impl_makeOrder_1_1 k) := by
  refine closed_ok (tab := [(54, fe_slices_IndexFunc_string__impl_makeOrder_1_1 k)]) (l := []) ti_ok ti_ht mix (List.forall_mem_cons.2 ⟨ok_slices_IndexFunc_string__impl_makeOrder_1_1 k, (List.forall_mem_nil _)⟩) (List.forall_mem_nil _) ⟨⟨Try.f48, (codeOf Try.f48), [.tmp 4], (LOn Bool), by kernel_rfl, by kernel_rfl, by kernel_rfl, by kernel_rfl, rfl, by decide, ⟨by kernel_rfl, ?_, ?_⟩, ?_⟩⟩
  · exact no_loops (by kernel_rfl)
  · exact no_cuts (by kernel_rfl)
  · rintro ⟨s0, f1⟩
    kernel_rfl
/- 56 loop.example/g01005/impl.makeOrder$1 -/
def impl_makeOrder_1 (k : Nat) (x0 : List UInt8 × List (List UInt8) × Int × Int) (x1 : List (List UInt8)) : Option Bool := (slices_Contains_string k x1 x0.1).bind fun r_1 => (if (!r_1) = true then (slices_ContainsFunc_string__impl_makeOrder_1_1 k x0.2.1 x1).bind fun r_2 => some (!r_2) else some false)
def fe_impl_makeOrder_1 (k : Nat) : FE := ⟨(.pr (.st (.pr .str (.pr (.sl 9 .str) (.pr (.int .i64) (.int .i64))))) (.ptr (.sl 9 .str))), 1, .bool, fun x => impl_makeOrder_1 k x.1 x.2⟩
theorem ok_impl_makeOrder_1 (k : Nat) : FnOK Try.prog 56 (fe_impl_makeOrder_1 k) := by
  refine closed_ok (tab := [(30, fe_slices_Contains_string k), (48, fe_slices_ContainsFunc_string__impl_makeOrder_1_1 k)]) (l := []) ti_ok ti_ht mix (List.forall_mem_cons.2 ⟨ok_slices_Contains_string k, (List.forall_mem_cons.2 ⟨ok_slices_ContainsFunc_string__impl_makeOrder_1_1 k, (List.forall_mem_nil _)⟩)⟩) (List.forall_mem_nil _) ⟨⟨Try.f56, (codeOf Try.f56), [.tmp 3], (LOn Bool), by kernel_rfl, by kernel_rfl, by kernel_rfl, by kernel_rfl, rfl, by decide, ⟨by kernel_rfl, ?_, ?_⟩, ?_⟩⟩
  · exact no_loops (by kernel_rfl)
  · exact no_cuts (by kernel_rfl)
  · rintro ⟨x0, x1⟩
    kernel_rfl
/- 55 slices.IndexFunc[[]loop.example/g01005/impl.Item,loop.example/g01005/impl.Item] -/
def slices_IndexFunc_impl_Item__impl_makeOrder_1_l0 (k : Nat) : Nat → (List (List UInt8 × List (List UInt8) × Int × Int)) → (List (List UInt8)) → Int → Int → (Option Int) → Option Int
  | 0, _, _, _, _, _ => none
  | n + 1, s0, f1, x7, x8, e_0 => (if (decide (x8 < x7)) = true then (if 0 ≤ x8 then (s0[x8.toNat]?).bind fun y_1 => (impl_makeOrder_1 k y_1 f1).bind fun r_2 => (if r_2 = true then some x8 else slices_IndexFunc_impl_Item__impl_makeOrder_1_l0 k n s0 f1 x7 (w_i64 (x8 + 1)) e_0) else none) else e_0)
def slices_IndexFunc_impl_Item__impl_makeOrder_1 (k : Nat) (s0 : List (List UInt8 × List (List UInt8) × Int × Int)) (f1 : List (List UInt8)) : Option Int := slices_IndexFunc_impl_Item__impl_makeOrder_1_l0 k k s0 f1 (List.length s0 : Int) 0 (some (-1))
def slices_IndexFunc_impl_Item__impl_makeOrder_1_l0_h : Head := ⟨[(0, (.val (.sl 37 (.st (.pr .str (.pr (.sl 9 .str) (.pr (.int .i64) (.int .i64)))))))), (1, (.val (.fn 56 (.ptr (.sl 9 .str))))), (7, (.val (.int .i64))), (8, (.val (.int .i64)))], [], []⟩
def slices_IndexFunc_impl_Item__impl_makeOrder_1_l0_x0 : Head := ⟨[], [], []⟩
def slices_IndexFunc_impl_Item__impl_makeOrder_1_l0_F (k n : Nat) (x : slices_IndexFunc_impl_Item__impl_makeOrder_1_l0_h.T) (kx : Nat → St → Option Int) : Option Int := slices_IndexFunc_impl_Item__impl_makeOrder_1_l0 k n x.1.1 x.1.2.1 x.1.2.2.1 x.1.2.2.2.1 (kx 0 (slices_IndexFunc_impl_Item__impl_makeOrder_1_l0_x0.fill ((), (), ())))
def slices_IndexFunc_impl_Item__impl_makeOrder_1_O (k : Nat) : Oracles Int := ⟨fun n => bif Nat.beq n 2 then some (fun σ kx => slices_IndexFunc_impl_Item__impl_makeOrder_1_l0_h.get σ fun x => slices_IndexFunc_impl_Item__impl_makeOrder_1_l0_F k k x kx) else none, fun _ => none⟩
def fe_slices_IndexFunc_impl_Item__impl_makeOrder_1 (k : Nat) : FE := ⟨(.pr (.sl 37 (.st (.pr .str (.pr (.sl 9 .str) (.pr (.int .i64) (.int .i64)))))) (.fn 56 (.ptr (.sl 9 .str)))), 1, (.int .i64), fun x => slices_IndexFunc_impl_Item__impl_makeOrder_1 k x.1 x.2⟩
theorem slices_IndexFunc_impl_Item__impl_makeOrder_1_l0_ok (k : Nat) : LoopOK (mkEnv ti [(56, fe_impl_makeOrder_1 k)] (lk []) pins0 pinB0) (slices_IndexFunc_impl_Item__impl_makeOrder_1_O k) (rdC (mkEnv ti [(56, fe_impl_makeOrder_1 k)] (lk []) pins0 pinB0) [.tmp 4] (.int .i64)) ((loopsOf (codeOf Try.f55)).getD 0 .skip) (fun σ kx => slices_IndexFunc_impl_Item__impl_makeOrder_1_l0_h.get σ fun x => slices_IndexFunc_impl_Item__impl_makeOrder_1_l0_F k k x kx) := by
  refine ⟨slices_IndexFunc_impl_Item__impl_makeOrder_1_l0_h, [(0, slices_IndexFunc_impl_Item__impl_makeOrder_1_l0_x0)], fun n x kx => slices_IndexFunc_impl_Item__impl_makeOrder_1_l0_F k n x kx, k, by kernel_rfl, by kernel_rfl, fun x kx => by kernel_rfl, ?_, fun σ kx => rfl⟩
  rintro n ⟨⟨s0, f1, x7, x8, ⟨⟩⟩, ⟨⟩, ⟨⟩⟩ kx
  kernel_rfl
theorem ok_slices_IndexFunc_impl_Item__impl_makeOrder_1 (k : Nat) : FnOK Try.prog 55 (fe_slices_IndexFunc_impl_Item__impl_makeOrder_1 k) := by
  refine closed_ok (tab := [(56, fe_impl_makeOrder_1 k)]) (l := []) ti_ok ti_ht mix (List.forall_mem_cons.2 ⟨ok_impl_makeOrder_1 k, (List.forall_mem_nil _)⟩) (List.forall_mem_nil _) ⟨⟨Try.f55, (codeOf Try.f55), [.tmp 4], (slices_IndexFunc_impl_Item__impl_makeOrder_1_O k), by kernel_rfl, by kernel_rfl, by kernel_rfl, by kernel_rfl, rfl, by decide, ⟨by kernel_rfl, ?_, ?_⟩, ?_⟩⟩
  · refine loops_of (n := 1) (by kernel_rfl) fun i hi => ?_
    match i, hi with
    | 0, _ => exact loop_of (by kernel_rfl) (slices_IndexFunc_impl_Item__impl_makeOrder_1_l0_ok k)
    | n + 1, hi => omega
  · exact no_cuts (by kernel_rfl)
  · rintro ⟨s0, f1⟩
    kernel_rfl
end
end Go.Proofs.Ytgcndhlbhlnplaa.Ev
