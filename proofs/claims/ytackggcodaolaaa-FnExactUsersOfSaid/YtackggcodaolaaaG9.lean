/- Functions of the program, as plain ones. No conditions. -/
import Derived.Test.YtackggcodaolaaaG8
import Derived.KernelRfl
set_option linter.unusedVariables false
set_option maxRecDepth 100000
namespace Go.Proofs.Ytackggcodaolaaa.Ev
open Go.RowKit
noncomputable section
/- 9 loop.example/g01005/laws.FnExactStaleItems -/
def laws_FnExactStaleItems (k : Nat) (aList0 : List (List UInt8 × List (List UInt8) × Int × Int)) : Option Bool := (laws_szItemS k aList0 1048576).bind fun r_1 => (if (decide (r_1 < 0)) = true then some true else (laws_toItemS k aList0).bind fun r_2 => (spec_StaleItems k r_2).bind fun r_3 => (laws_toItemS k aList0).bind fun r_4 => (impl_StaleItems k r_4).bind fun r_5 => (laws_eqStringS k r_5.1 r_3.1).bind fun r_6 => (if (!r_6) = true then some false else (if (!(decide (r_5.2 = r_3.2))) = true then some false else (laws_toItemS k aList0).bind fun r_7 => (laws_eqItemS k r_4 r_7).bind fun r_8 => (if (!r_8) = true then some false else (laws_markItemS_o k 1 r_4).bind fun y_9 => (if (decide (y_9.1.1 < 0)) = true then some false else (laws_eqStringS k r_5.1 r_3.1).bind fun r_10 => (if (!r_10) = true then some false else (if (!(decide (r_5.2 = r_3.2))) = true then some false else (laws_markStringS_o k 1 r_5.1).bind fun y_11 => (laws_heldStringS k y_11.2.1.1 1).bind fun r_12 => (if (decide (r_12 < 0)) = true then some false else (if (!(decide (r_12 = y_11.1.1))) = true then some false else (laws_toItemS k aList0).bind fun r_13 => (impl_StaleItems k r_13).bind fun r_14 => (laws_eqStringS k r_14.1 r_3.1).bind fun r_15 => (if (!r_15) = true then some false else (if (!(decide (r_14.2 = r_3.2))) = true then some false else (laws_heldStringS k y_11.2.1.1 1).bind fun r_16 => (if (decide (r_16 < 0)) = true then some false else (if (!(decide (r_16 = y_11.1.1))) = true then some false else some true)))))))))))))
def fe_laws_FnExactStaleItems (k : Nat) : FE := ⟨(.sl 151 (.st (.pr .str (.pr (.sl 9 .str) (.pr (.int .i64) (.int .i64)))))), 1, .bool, fun x => laws_FnExactStaleItems k x⟩
theorem ok_laws_FnExactStaleItems (k : Nat) : FnOK Try.prog 9 (fe_laws_FnExactStaleItems k) := by
  refine closed_ok (tab := [(45, fe_laws_szItemS k), (47, fe_laws_toItemS k), (46, fe_spec_StaleItems k), (48, fe_impl_StaleItems k), (29, fe_laws_eqStringS k), (49, fe_laws_eqItemS k), (33, fe_laws_heldStringS k)]) (l := [(48, 50, oc_laws_markItemS_o k), (64, 32, oc_laws_markStringS_o k)]) ti_ok ti_ht mix (List.forall_mem_cons.2 ⟨ok_laws_szItemS k, (List.forall_mem_cons.2 ⟨ok_laws_toItemS k, (List.forall_mem_cons.2 ⟨ok_spec_StaleItems k, (List.forall_mem_cons.2 ⟨ok_impl_StaleItems k, (List.forall_mem_cons.2 ⟨ok_laws_eqStringS k, (List.forall_mem_cons.2 ⟨ok_laws_eqItemS k, (List.forall_mem_cons.2 ⟨ok_laws_heldStringS k, (List.forall_mem_nil _)⟩)⟩)⟩)⟩)⟩)⟩)⟩) (List.forall_mem_cons.2 ⟨ok_laws_markItemS_o k, (List.forall_mem_cons.2 ⟨ok_laws_markStringS_o k, (List.forall_mem_nil _)⟩)⟩) ⟨⟨Try.f9, (codeOf Try.f9), [.tmp 2], (LOn Bool), by kernel_rfl, by kernel_rfl, by kernel_rfl, by kernel_rfl, rfl, by decide, ⟨by kernel_rfl, ?_, ?_⟩, ?_⟩⟩
  · exact no_loops (by kernel_rfl)
  · exact no_cuts (by kernel_rfl)
  · rintro aList0
    kernel_rfl
/- 53 loop.example/g01005/spec.UsersOf -/
def spec_UsersOf_l0 (k : Nat) : Nat → (List (List UInt8 × List (List UInt8) × Int × Int)) → (List UInt8) → Int → (List Bool) → ((List (List UInt8 × List (List UInt8) × Int × Int)) → (List Bool) → Option (List (List UInt8) × Int)) → Option (List (List UInt8) × Int)
  | 0, _, _, _, _, _ => none
  | n + 1, list0, name1, i8, q_2, e_0 => (if (decide (i8 < (List.length list0 : Int))) = true then (spec_l28Reach k list0 i8).bind fun r_3 => (spec_l28Find k list0 name1).bind fun r_4 => (if 0 ≤ r_4 ∧ r_4.toNat < List.length r_3 then (r_3[r_4.toNat]?).bind fun y_5 => (if 0 ≤ i8 ∧ i8.toNat < List.length q_2 then (q_2[i8.toNat]?).bind fun y_6 => (q_2[i8.toNat]?).bind fun y_7 => spec_UsersOf_l0 k n list0 name1 (w_i64 (i8 + 1)) (q_2.set i8.toNat y_5) e_0 else none) else none) else e_0 list0 q_2)
def spec_UsersOf (k : Nat) (list0 : List (List UInt8 × List (List UInt8) × Int × Int)) (name1 : List UInt8) : Option (List (List UInt8) × Int) := (spec_l28Ask k list0 name1).bind fun r_1 => (if (!(decide (r_1 = 0))) = true then some ([], r_1) else (if 0 ≤ (List.length list0 : Int) ∧ (List.length list0 : Int) ≤ (List.length list0 : Int) ∧ (List.length list0 : Int) * 1 ≤ LIM then spec_UsersOf_l0 k k list0 name1 0 (List.replicate (List.length list0) false) (fun list_8 q_9 => (spec_l28Names k list_8 q_9).bind fun r_10 => some (r_10, 0)) else none))
def spec_UsersOf_l0_h : Head := ⟨[(0, (.val (.sl 156 (.st (.pr .str (.pr (.sl 9 .str) (.pr (.int .i64) (.int .i64)))))))), (1, (.val .str)), (7, (.ref 64000000 [])), (8, (.val (.int .i64)))], [(64000000, 4, .bool, false)], []⟩
def spec_UsersOf_l0_x0 : Head := ⟨[(0, (.val (.sl 156 (.st (.pr .str (.pr (.sl 9 .str) (.pr (.int .i64) (.int .i64)))))))), (7, (.ref 64000000 []))], [(64000000, 4, .bool, false)], []⟩
def spec_UsersOf_l0_F (k n : Nat) (x : spec_UsersOf_l0_h.T) (kx : Nat → St → Option (List (List UInt8) × Int)) : Option (List (List UInt8) × Int) := spec_UsersOf_l0 k n x.1.1 x.1.2.1 x.1.2.2.2.1 x.2.1.1 (fun (list0 : List (List UInt8 × List (List UInt8) × Int × Int)) (q_8 : List Bool) => kx 0 (spec_UsersOf_l0_x0.fill ((list0, (), ()), (q_8, ()), ())))
def spec_UsersOf_O (k : Nat) : Oracles (List (List UInt8) × Int) := ⟨fun n => bif Nat.beq n 6 then some (fun σ kx => spec_UsersOf_l0_h.get σ fun x => spec_UsersOf_l0_F k k x kx) else none, fun _ => none⟩
def fe_spec_UsersOf (k : Nat) : FE := ⟨(.pr (.sl 156 (.st (.pr .str (.pr (.sl 9 .str) (.pr (.int .i64) (.int .i64)))))) .str), 2, (.pr (.sl 9 .str) (.int .i64)), fun x => spec_UsersOf k x.1 x.2⟩
theorem spec_UsersOf_l0_ok (k : Nat) : LoopOK (mkEnv ti [(123, fe_spec_l28Ask k), (124, fe_spec_l28Reach k), (125, fe_spec_l28Find k), (116, fe_spec_l28Names k)] (lk []) pins0 pinB0) (spec_UsersOf_O k) (rdC (mkEnv ti [(123, fe_spec_l28Ask k), (124, fe_spec_l28Reach k), (125, fe_spec_l28Find k), (116, fe_spec_l28Names k)] (lk []) pins0 pinB0) [.tmp 4, .tmp 5] (.pr (.sl 9 .str) (.int .i64))) ((loopsOf (codeOf Try.f53)).getD 0 .skip) (fun σ kx => spec_UsersOf_l0_h.get σ fun x => spec_UsersOf_l0_F k k x kx) := by
  refine ⟨spec_UsersOf_l0_h, [(0, spec_UsersOf_l0_x0)], fun n x kx => spec_UsersOf_l0_F k n x kx, k, by kernel_rfl, by kernel_rfl, fun x kx => by kernel_rfl, ?_, fun σ kx => rfl⟩
  rintro n ⟨⟨list0, name1, ⟨⟩, i8, ⟨⟩⟩, ⟨q_2, ⟨⟩⟩, ⟨⟩⟩ kx
  kernel_rfl
theorem ok_spec_UsersOf (k : Nat) : FnOK Try.prog 53 (fe_spec_UsersOf k) := by
  refine closed_ok (tab := [(123, fe_spec_l28Ask k), (124, fe_spec_l28Reach k), (125, fe_spec_l28Find k), (116, fe_spec_l28Names k)]) (l := []) ti_ok ti_ht mix (List.forall_mem_cons.2 ⟨ok_spec_l28Ask k, (List.forall_mem_cons.2 ⟨ok_spec_l28Reach k, (List.forall_mem_cons.2 ⟨ok_spec_l28Find k, (List.forall_mem_cons.2 ⟨ok_spec_l28Names k, (List.forall_mem_nil _)⟩)⟩)⟩)⟩) (List.forall_mem_nil _) ⟨⟨Try.f53, (codeOf Try.f53), [.tmp 4, .tmp 5], (spec_UsersOf_O k), by kernel_rfl, by kernel_rfl, by kernel_rfl, by kernel_rfl, rfl, by decide, ⟨by kernel_rfl, ?_, ?_⟩, ?_⟩⟩
  · refine loops_of (n := 1) (by kernel_rfl) fun i hi => ?_
    match i, hi with
    | 0, _ => exact loop_of (by kernel_rfl) (spec_UsersOf_l0_ok k)
    | n + 1, hi => omega
  · exact no_cuts (by kernel_rfl)
  · rintro ⟨list0, name1⟩
    kernel_rfl
/- 54 loop.example/g01005/impl.UsersOf -/
def impl_UsersOf_l0 (k : Nat) : Nat → (List (List UInt8 × List (List UInt8) × Int × Int)) → (List UInt8) → (List (List UInt8 × List (List UInt8) × Int × Int)) → Int → Int → (List (List UInt8)) → ((List (List UInt8)) → Option (List (List UInt8) × Int)) → Option (List (List UInt8) × Int)
  | 0, _, _, _, _, _, _, _ => none
  | n + 1, list0, name1, x16, x17, x18, q_2, e_0 => (if (decide (x18 < x17)) = true then (if 0 ≤ x18 then (x16[x18.toNat]?).bind fun y_3 => (impl_allNeeds k list0 y_3.1).bind fun r_4 => (slices_Contains_string k r_4 name1).bind fun r_5 => (if r_5 = true then (if (q_2.length + [y_3.1].length) * 16 ≤ LIM then impl_UsersOf_l0 k n list0 name1 x16 x17 (w_i64 (x18 + 1)) (q_2 ++ [y_3.1]) e_0 else none) else impl_UsersOf_l0 k n list0 name1 x16 x17 (w_i64 (x18 + 1)) q_2 e_0) else none) else e_0 q_2)
def impl_UsersOf (k : Nat) (list0 : List (List UInt8 × List (List UInt8) × Int × Int)) (name1 : List UInt8) : Option (List (List UInt8) × Int) := (impl_itemized k list0 name1).bind fun r_1 => (if (!(decide (r_1 = 0))) = true then some ([], r_1) else impl_UsersOf_l0 k k list0 name1 list0 (List.length list0 : Int) 0 [] (fun q_6 => some (q_6, 0)))
def impl_UsersOf_l0_h : Head := ⟨[(0, (.val (.sl 156 (.st (.pr .str (.pr (.sl 9 .str) (.pr (.int .i64) (.int .i64)))))))), (1, (.val .str)), (7, (.ref 64000000 [])), (16, (.val (.sl 156 (.st (.pr .str (.pr (.sl 9 .str) (.pr (.int .i64) (.int .i64)))))))), (17, (.val (.int .i64))), (18, (.val (.int .i64)))], [(64000000, 9, .str, false)], []⟩
def impl_UsersOf_l0_x0 : Head := ⟨[(7, (.ref 64000000 []))], [(64000000, 9, .str, false)], []⟩
def impl_UsersOf_l0_F (k n : Nat) (x : impl_UsersOf_l0_h.T) (kx : Nat → St → Option (List (List UInt8) × Int)) : Option (List (List UInt8) × Int) := impl_UsersOf_l0 k n x.1.1 x.1.2.1 x.1.2.2.2.1 x.1.2.2.2.2.1 x.1.2.2.2.2.2.1 x.2.1.1 (fun (q_6 : List (List UInt8)) => kx 0 (impl_UsersOf_l0_x0.fill (((), ()), (q_6, ()), ())))
def impl_UsersOf_O (k : Nat) : Oracles (List (List UInt8) × Int) := ⟨fun n => bif Nat.beq n 6 then some (fun σ kx => impl_UsersOf_l0_h.get σ fun x => impl_UsersOf_l0_F k k x kx) else none, fun _ => none⟩
def fe_impl_UsersOf (k : Nat) : FE := ⟨(.pr (.sl 156 (.st (.pr .str (.pr (.sl 9 .str) (.pr (.int .i64) (.int .i64)))))) .str), 2, (.pr (.sl 9 .str) (.int .i64)), fun x => impl_UsersOf k x.1 x.2⟩
theorem impl_UsersOf_l0_ok (k : Nat) : LoopOK (mkEnv ti [(126, fe_impl_itemized k), (127, fe_impl_allNeeds k), (128, fe_slices_Contains_string k)] (lk []) pins0 pinB0) (impl_UsersOf_O k) (rdC (mkEnv ti [(126, fe_impl_itemized k), (127, fe_impl_allNeeds k), (128, fe_slices_Contains_string k)] (lk []) pins0 pinB0) [.tmp 4, .tmp 5] (.pr (.sl 9 .str) (.int .i64))) ((loopsOf (codeOf Try.f54)).getD 0 .skip) (fun σ kx => impl_UsersOf_l0_h.get σ fun x => impl_UsersOf_l0_F k k x kx) := by
  refine ⟨impl_UsersOf_l0_h, [(0, impl_UsersOf_l0_x0)], fun n x kx => impl_UsersOf_l0_F k n x kx, k, by kernel_rfl, by kernel_rfl, fun x kx => by kernel_rfl, ?_, fun σ kx => rfl⟩
  rintro n ⟨⟨list0, name1, ⟨⟩, x16, x17, x18, ⟨⟩⟩, ⟨q_2, ⟨⟩⟩, ⟨⟩⟩ kx
  kernel_rfl
theorem ok_impl_UsersOf (k : Nat) : FnOK Try.prog 54 (fe_impl_UsersOf k) := by
  refine closed_ok (tab := [(126, fe_impl_itemized k), (127, fe_impl_allNeeds k), (128, fe_slices_Contains_string k)]) (l := []) ti_ok ti_ht mix (List.forall_mem_cons.2 ⟨ok_impl_itemized k, (List.forall_mem_cons.2 ⟨ok_impl_allNeeds k, (List.forall_mem_cons.2 ⟨ok_slices_Contains_string k, (List.forall_mem_nil _)⟩)⟩)⟩) (List.forall_mem_nil _) ⟨⟨Try.f54, (codeOf Try.f54), [.tmp 4, .tmp 5], (impl_UsersOf_O k), by kernel_rfl, by kernel_rfl, by kernel_rfl, by kernel_rfl, rfl, by decide, ⟨by kernel_rfl, ?_, ?_⟩, ?_⟩⟩
  · refine loops_of (n := 1) (by kernel_rfl) fun i hi => ?_
    match i, hi with
    | 0, _ => exact loop_of (by kernel_rfl) (impl_UsersOf_l0_ok k)
    | n + 1, hi => omega
  · exact no_cuts (by kernel_rfl)
  · rintro ⟨list0, name1⟩
    kernel_rfl
/- 11 loop.example/g01005/laws.FnExactUsersOf -/
def laws_FnExactUsersOf (k : Nat) (aList0 : List (List UInt8 × List (List UInt8) × Int × Int)) (aName1 : List UInt8) : Option Bool := (if (decide (1048576 < (List.length aName1 : Int))) = true then some true else (laws_szItemS k aList0 1048576).bind fun r_1 => (if (decide (r_1 < 0)) = true then some true else (laws_toItemS k aList0).bind fun r_2 => (spec_UsersOf k r_2 aName1).bind fun r_3 => (laws_toItemS k aList0).bind fun r_4 => (impl_UsersOf k r_4 aName1).bind fun r_5 => (laws_eqStringS k r_5.1 r_3.1).bind fun r_6 => (if (!r_6) = true then some false else (if (!(decide (r_5.2 = r_3.2))) = true then some false else (laws_toItemS k aList0).bind fun r_7 => (laws_eqItemS k r_4 r_7).bind fun r_8 => (if (!r_8) = true then some false else (laws_markItemS_o k 1 r_4).bind fun y_9 => (if (decide (y_9.1.1 < 0)) = true then some false else (laws_eqStringS k r_5.1 r_3.1).bind fun r_10 => (if (!r_10) = true then some false else (if (!(decide (r_5.2 = r_3.2))) = true then some false else (laws_markStringS_o k 1 r_5.1).bind fun y_11 => (laws_heldStringS k y_11.2.1.1 1).bind fun r_12 => (if (decide (r_12 < 0)) = true then some false else (if (!(decide (r_12 = y_11.1.1))) = true then some false else (laws_toItemS k aList0).bind fun r_13 => (impl_UsersOf k r_13 aName1).bind fun r_14 => (laws_eqStringS k r_14.1 r_3.1).bind fun r_15 => (if (!r_15) = true then some false else (if (!(decide (r_14.2 = r_3.2))) = true then some false else (laws_heldStringS k y_11.2.1.1 1).bind fun r_16 => (if (decide (r_16 < 0)) = true then some false else (if (!(decide (r_16 = y_11.1.1))) = true then some false else some true))))))))))))))
def fe_laws_FnExactUsersOf (k : Nat) : FE := ⟨(.pr (.sl 151 (.st (.pr .str (.pr (.sl 9 .str) (.pr (.int .i64) (.int .i64)))))) .str), 1, .bool, fun x => laws_FnExactUsersOf k x.1 x.2⟩
theorem ok_laws_FnExactUsersOf (k : Nat) : FnOK Try.prog 11 (fe_laws_FnExactUsersOf k) := by
  refine closed_ok (tab := [(45, fe_laws_szItemS k), (47, fe_laws_toItemS k), (53, fe_spec_UsersOf k), (54, fe_impl_UsersOf k), (29, fe_laws_eqStringS k), (49, fe_laws_eqItemS k), (33, fe_laws_heldStringS k)]) (l := [(55, 50, oc_laws_markItemS_o k), (71, 32, oc_laws_markStringS_o k)]) ti_ok ti_ht mix (List.forall_mem_cons.2 ⟨ok_laws_szItemS k, (List.forall_mem_cons.2 ⟨ok_laws_toItemS k, (List.forall_mem_cons.2 ⟨ok_spec_UsersOf k, (List.forall_mem_cons.2 ⟨ok_impl_UsersOf k, (List.forall_mem_cons.2 ⟨ok_laws_eqStringS k, (List.forall_mem_cons.2 ⟨ok_laws_eqItemS k, (List.forall_mem_cons.2 ⟨ok_laws_heldStringS k, (List.forall_mem_nil _)⟩)⟩)⟩)⟩)⟩)⟩)⟩) (List.forall_mem_cons.2 ⟨ok_laws_markItemS_o k, (List.forall_mem_cons.2 ⟨ok_laws_markStringS_o k, (List.forall_mem_nil _)⟩)⟩) ⟨⟨Try.f11, (codeOf Try.f11), [.tmp 4], (LOn Bool), by kernel_rfl, by kernel_rfl, by kernel_rfl, by kernel_rfl, rfl, by decide, ⟨by kernel_rfl, ?_, ?_⟩, ?_⟩⟩
  · exact no_loops (by kernel_rfl)
  · exact no_cuts (by kernel_rfl)
  · rintro ⟨aList0, aName1⟩
    kernel_rfl
end
end Go.Proofs.Ytackggcodaolaaa.Ev
