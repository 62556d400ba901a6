/- Functions of the program, as plain ones. No conditions. -/
import Derived.Test.YtfepelmocldcnaaDoorG1
import Derived.KernelRfl
set_option linter.unusedVariables false
set_option maxRecDepth 100000
namespace Go.Proofs.YtfepelmocldcnaaDoor.Ev
open Go.RowKit
noncomputable section
/- 4 loop.example/g01005/spec.SalvageBlocks -/
def spec_SalvageBlocks_l0 (k : Nat) : Nat → Int → (List (List UInt8)) → (List (List UInt8 × List UInt8 × List UInt8)) → ((List (List UInt8 × List UInt8 × List UInt8)) → Option (List (List UInt8 × List UInt8 × List UInt8))) → Option (List (List UInt8 × List UInt8 × List UInt8))
  | 0, _, _, _, _ => none
  | n + 1, i6, q_2, q_3, e_0 => (if (decide (i6 < (List.length q_2 : Int))) = true then (if 0 ≤ i6 ∧ i6.toNat < List.length q_2 then (q_2[i6.toNat]?).bind fun y_4 => (spec_l29Parse k y_4).bind fun r_5 => (if (!(decide (r_5.2 = 0))) = true then spec_SalvageBlocks_l0 k n (w_i64 (i6 + 1)) q_2 q_3 e_0 else (spec_l29Put k q_3 r_5.1).bind fun r_6 => (if (decide ((List.length r_6 : Int) ≤ 32)) = true then spec_SalvageBlocks_l0 k n (w_i64 (i6 + 1)) q_2 r_6 e_0 else spec_SalvageBlocks_l0 k n (w_i64 (i6 + 1)) q_2 q_3 e_0)) else none) else e_0 q_3)
def spec_SalvageBlocks (k : Nat) (s0 : List UInt8) : Option (List (List UInt8 × List UInt8 × List UInt8)) := (spec_l29Lines k s0).bind fun r_1 => spec_SalvageBlocks_l0 k k 1 r_1.1 [] (fun q_7 => some q_7)
def spec_SalvageBlocks_l0_h : Head := ⟨[(3, (.ref 64000000 [])), (5, (.ref 64000001 [])), (6, (.val (.int .i64)))], [(64000000, 9, .str, false), (64000001, 31, (.st (.pr .str (.pr .str .str))), false)], []⟩
def spec_SalvageBlocks_l0_x0 : Head := ⟨[(5, (.ref 64000000 []))], [(64000000, 31, (.st (.pr .str (.pr .str .str))), false)], []⟩
def spec_SalvageBlocks_l0_F (k n : Nat) (x : spec_SalvageBlocks_l0_h.T) (kx : Nat → St → Option (List (List UInt8 × List UInt8 × List UInt8))) : Option (List (List UInt8 × List UInt8 × List UInt8)) := spec_SalvageBlocks_l0 k n x.1.2.2.1 x.2.1.1 x.2.1.2.1 (fun (q_7 : List (List UInt8 × List UInt8 × List UInt8)) => kx 0 (spec_SalvageBlocks_l0_x0.fill (((), ()), (q_7, ()), ())))
def spec_SalvageBlocks_O (k : Nat) : Oracles (List (List UInt8 × List UInt8 × List UInt8)) := ⟨fun n => bif Nat.beq n 4 then some (fun σ kx => spec_SalvageBlocks_l0_h.get σ fun x => spec_SalvageBlocks_l0_F k k x kx) else none, fun _ => none⟩
def fe_spec_SalvageBlocks (k : Nat) : FE := ⟨.str, 1, (.sl 31 (.st (.pr .str (.pr .str .str)))), fun x => spec_SalvageBlocks k x⟩
theorem spec_SalvageBlocks_l0_ok (k : Nat) : LoopOK (mkEnv ti [(9, fe_spec_l29Lines k), (10, fe_spec_l29Parse k), (11, fe_spec_l29Put k)] (lk []) pins0 pinB0) (spec_SalvageBlocks_O k) (rdC (mkEnv ti [(9, fe_spec_l29Lines k), (10, fe_spec_l29Parse k), (11, fe_spec_l29Put k)] (lk []) pins0 pinB0) [.tmp 2] (.sl 31 (.st (.pr .str (.pr .str .str))))) ((loopsOf (codeOf Tryd.f4)).getD 0 .skip) (fun σ kx => spec_SalvageBlocks_l0_h.get σ fun x => spec_SalvageBlocks_l0_F k k x kx) := by
  refine ⟨spec_SalvageBlocks_l0_h, [(0, spec_SalvageBlocks_l0_x0)], fun n x kx => spec_SalvageBlocks_l0_F k n x kx, k, by kernel_rfl, by kernel_rfl, fun x kx => by kernel_rfl, ?_, fun σ kx => rfl⟩
  rintro n ⟨⟨⟨⟩, ⟨⟩, i6, ⟨⟩⟩, ⟨q_2, q_3, ⟨⟩⟩, ⟨⟩⟩ kx
  kernel_rfl
theorem ok_spec_SalvageBlocks (k : Nat) : FnOK Tryd.prog 4 (fe_spec_SalvageBlocks k) := by
  refine closed_ok (tab := [(9, fe_spec_l29Lines k), (10, fe_spec_l29Parse k), (11, fe_spec_l29Put k)]) (l := []) ti_ok ti_ht mix (List.forall_mem_cons.2 ⟨ok_spec_l29Lines k, (List.forall_mem_cons.2 ⟨ok_spec_l29Parse k, (List.forall_mem_cons.2 ⟨ok_spec_l29Put k, (List.forall_mem_nil _)⟩)⟩)⟩) (List.forall_mem_nil _) ⟨⟨Tryd.f4, (codeOf Tryd.f4), [.tmp 2], (spec_SalvageBlocks_O k), by kernel_rfl, by kernel_rfl, by kernel_rfl, by kernel_rfl, rfl, by decide, ⟨by kernel_rfl, ?_, ?_⟩, ?_⟩⟩
  · refine loops_of (n := 1) (by kernel_rfl) fun i hi => ?_
    match i, hi with
    | 0, _ => exact loop_of (by kernel_rfl) (spec_SalvageBlocks_l0_ok k)
    | n + 1, hi => omega
  · exact no_cuts (by kernel_rfl)
  · rintro s0
    kernel_rfl
/- 68 internal/bytealg.CountString (by hand) -/
def bytealg_CountString (s : List UInt8) (c : Int) : Option Int := some ((Lib.countByte s (c.toNat.toUInt8) : Nat) : Int)
abbrev fe_bytealg_CountString : FE := fe_countString
theorem ok_bytealg_CountString : FnOK Tryd.prog 68 fe_bytealg_CountString := ok_countString (fn := Tryd.f68) (by kernel_rfl) (by kernel_rfl) (by kernel_rfl) (by kernel_rfl) (by kernel_rfl)
/- 82 internal/bytealg.IndexByteString (by hand) -/
def bytealg_IndexByteString (s : List UInt8) (c : Int) : Option Int := some (Lib.indexByte s (c.toNat.toUInt8))
abbrev fe_bytealg_IndexByteString : FE := fe_indexByteString
theorem ok_bytealg_IndexByteString : FnOK Tryd.prog 82 fe_bytealg_IndexByteString := ok_indexByteString (fn := Tryd.f82) (by kernel_rfl) (by kernel_rfl) (by kernel_rfl) (by kernel_rfl) (by kernel_rfl)
/- 69 internal/stringslite.IndexByte -/
def stringslite_IndexByte (s0 : List UInt8) (c1 : Int) : Option Int := (bytealg_IndexByteString s0 c1).bind fun r_1 => some r_1
def fe_stringslite_IndexByte : FE := ⟨(.pr .str (.int .u8)), 1, (.int .i64), fun x => stringslite_IndexByte x.1 x.2⟩
theorem ok_stringslite_IndexByte : FnOK Tryd.prog 69 (fe_stringslite_IndexByte) := by
  refine closed_ok (tab := [(82, fe_bytealg_IndexByteString)]) (l := []) ti_ok ti_ht mix (List.forall_mem_cons.2 ⟨ok_bytealg_IndexByteString, (List.forall_mem_nil _)⟩) (List.forall_mem_nil _) ⟨⟨Tryd.f69, (codeOf Tryd.f69), [.tmp 4], (LOn Int), by kernel_rfl, by kernel_rfl, by kernel_rfl, by kernel_rfl, rfl, by decide, ⟨by kernel_rfl, ?_, ?_⟩, ?_⟩⟩
  · exact no_loops (by kernel_rfl)
  · exact no_cuts (by kernel_rfl)
  · rintro ⟨s0, c1⟩
    kernel_rfl
/- 54 internal/stringslite.Index -/
def stringslite_Index (s0 : List UInt8) (substr1 : List UInt8) : Option Int := (if (decide ((List.length substr1 : Int) = 0)) = true then some 0 else (if (decide (substr1 = s0)) = true then some 0 else (if (decide ((List.length substr1 : Int) = 1)) = true then (substr1[0]?).bind fun b_1 => (stringslite_IndexByte s0 (z_u8 b_1)).bind fun r_2 => some r_2 else (if (decide ((List.length s0 : Int) ≤ (List.length substr1 : Int))) = true then some (-1) else none))))
def fe_stringslite_Index : FE := ⟨(.pr .str .str), 1, (.int .i64), fun x => stringslite_Index x.1 x.2⟩
theorem ok_stringslite_Index : FnOK Tryd.prog 54 (fe_stringslite_Index) := by
  refine closed_ok (tab := [(69, fe_stringslite_IndexByte)]) (l := []) ti_ok ti_ht mix (List.forall_mem_cons.2 ⟨ok_stringslite_IndexByte, (List.forall_mem_nil _)⟩) (List.forall_mem_nil _) ⟨⟨Tryd.f54, (codeOf Tryd.f54), [.tmp 4], (LOn Int), by kernel_rfl, by kernel_rfl, by kernel_rfl, by kernel_rfl, rfl, by decide, ⟨by kernel_rfl, ?_, ?_⟩, ?_⟩⟩
  · exact no_loops (by kernel_rfl)
  · exact no_cuts (by kernel_rfl)
  · rintro ⟨s0, substr1⟩
    kernel_rfl
/- 53 strings.Index -/
def strings_Index (s0 : List UInt8) (substr1 : List UInt8) : Option Int := (stringslite_Index s0 substr1).bind fun r_1 => some r_1
def fe_strings_Index : FE := ⟨(.pr .str .str), 1, (.int .i64), fun x => strings_Index x.1 x.2⟩
theorem ok_strings_Index : FnOK Tryd.prog 53 (fe_strings_Index) := by
  refine closed_ok (tab := [(54, fe_stringslite_Index)]) (l := []) ti_ok ti_ht mix (List.forall_mem_cons.2 ⟨ok_stringslite_Index, (List.forall_mem_nil _)⟩) (List.forall_mem_nil _) ⟨⟨Tryd.f53, (codeOf Tryd.f53), [.tmp 4], (LOn Int), by kernel_rfl, by kernel_rfl, by kernel_rfl, by kernel_rfl, rfl, by decide, ⟨by kernel_rfl, ?_, ?_⟩, ?_⟩⟩
  · exact no_loops (by kernel_rfl)
  · exact no_cuts (by kernel_rfl)
  · rintro ⟨s0, substr1⟩
    kernel_rfl
/- 52 strings.Count -/
def strings_Count_l0 (k : Nat) : Nat → (List UInt8) → (List UInt8) → Int → Option Int
  | 0, _, _, _ => none
  | n + 1, s0, substr1, n5 => (strings_Index s0 substr1).bind fun r_3 => (if (decide (r_3 = (-1))) = true then some n5 else (if 0 ≤ (w_i64 (r_3 + (List.length substr1 : Int))) ∧ (w_i64 (r_3 + (List.length substr1 : Int))) ≤ (s0.length : Int) ∧ (s0.length : Int) ≤ s0.length then strings_Count_l0 k n ((s0.drop ((w_i64 (r_3 + (List.length substr1 : Int))).toNat)).take (s0.length - (w_i64 (r_3 + (List.length substr1 : Int))).toNat)) substr1 (w_i64 (n5 + 1)) else none))
def strings_Count (k : Nat) (s0 : List UInt8) (substr1 : List UInt8) : Option Int := (if (decide ((List.length substr1 : Int) = 0)) = true then none else (if (decide ((List.length substr1 : Int) = 1)) = true then (substr1[0]?).bind fun b_1 => (bytealg_CountString s0 (z_u8 b_1)).bind fun r_2 => some r_2 else strings_Count_l0 k k s0 substr1 0))
def strings_Count_l0_h : Head := ⟨[(0, (.val .str)), (1, (.val .str)), (5, (.val (.int .i64)))], [], []⟩
def strings_Count_l0_F (k n : Nat) (x : strings_Count_l0_h.T) (kx : Nat → St → Option Int) : Option Int := strings_Count_l0 k n x.1.1 x.1.2.1 x.1.2.2.1
def strings_Count_O (k : Nat) : Oracles Int := ⟨fun n => bif Nat.beq n 6 then some (fun σ kx => strings_Count_l0_h.get σ fun x => strings_Count_l0_F k k x kx) else none, fun _ => none⟩
def fe_strings_Count (k : Nat) : FE := ⟨(.pr .str .str), 1, (.int .i64), fun x => strings_Count k x.1 x.2⟩
theorem strings_Count_l0_ok (k : Nat) : LoopOK (mkEnv ti [(68, fe_bytealg_CountString), (53, fe_strings_Index)] (lk []) pins0 pinB0) (strings_Count_O k) (rdC (mkEnv ti [(68, fe_bytealg_CountString), (53, fe_strings_Index)] (lk []) pins0 pinB0) [.tmp 4] (.int .i64)) ((loopsOf (codeOf Tryd.f52)).getD 0 .skip) (fun σ kx => strings_Count_l0_h.get σ fun x => strings_Count_l0_F k k x kx) := by
  refine ⟨strings_Count_l0_h, [], fun n x kx => strings_Count_l0_F k n x kx, k, by kernel_rfl, by kernel_rfl, fun x kx => by kernel_rfl, ?_, fun σ kx => rfl⟩
  rintro n ⟨⟨s0, substr1, n5, ⟨⟩⟩, ⟨⟩, ⟨⟩⟩ kx
  kernel_rfl
theorem ok_strings_Count (k : Nat) : FnOK Tryd.prog 52 (fe_strings_Count k) := by
  refine closed_ok (tab := [(68, fe_bytealg_CountString), (53, fe_strings_Index)]) (l := []) ti_ok ti_ht mix (List.forall_mem_cons.2 ⟨ok_bytealg_CountString, (List.forall_mem_cons.2 ⟨ok_strings_Index, (List.forall_mem_nil _)⟩)⟩) (List.forall_mem_nil _) ⟨⟨Tryd.f52, (codeOf Tryd.f52), [.tmp 4], (strings_Count_O k), by kernel_rfl, by kernel_rfl, by kernel_rfl, by kernel_rfl, rfl, by decide, ⟨by kernel_rfl, ?_, ?_⟩, ?_⟩⟩
  · refine loops_of (n := 1) (by kernel_rfl) fun i hi => ?_
    match i, hi with
    | 0, _ => exact loop_of (by kernel_rfl) (strings_Count_l0_ok k)
    | n + 1, hi => omega
  · exact no_cuts (by kernel_rfl)
  · rintro ⟨s0, substr1⟩
    kernel_rfl
/- 33 strings.genSplit -/
def strings_genSplit_l0 (k : Nat) : Nat → (List UInt8) → (List UInt8) → Int → Int → Int → (List (List UInt8)) → ((List UInt8) → Int → (List (List UInt8)) → Option (List (List UInt8))) → Option (List (List UInt8))
  | 0, _, _, _, _, _, _, _ => none
  | n + 1, s0, sep1, sepSave2, n3, i10, q_2, e_0 => (if (decide (i10 < n3)) = true then (strings_Index s0 sep1).bind fun r_3 => (if (decide (r_3 < 0)) = true then e_0 s0 i10 q_2 else (if 0 ≤ (0 : Int) ∧ (0 : Int) ≤ (w_i64 (r_3 + sepSave2)) ∧ (w_i64 (r_3 + sepSave2)) ≤ s0.length then (if 0 ≤ i10 ∧ i10.toNat < List.length q_2 then (q_2[i10.toNat]?).bind fun y_4 => (q_2[i10.toNat]?).bind fun y_5 => (if 0 ≤ (w_i64 (r_3 + (List.length sep1 : Int))) ∧ (w_i64 (r_3 + (List.length sep1 : Int))) ≤ (s0.length : Int) ∧ (s0.length : Int) ≤ s0.length then strings_genSplit_l0 k n ((s0.drop ((w_i64 (r_3 + (List.length sep1 : Int))).toNat)).take (s0.length - (w_i64 (r_3 + (List.length sep1 : Int))).toNat)) sep1 sepSave2 n3 (w_i64 (i10 + 1)) (q_2.set i10.toNat (s0.take ((w_i64 (r_3 + sepSave2)).toNat))) e_0 else none) else none) else none)) else e_0 s0 i10 q_2)
def strings_genSplit (k : Nat) (s0 : List UInt8) (sep1 : List UInt8) (sepSave2 : Int) (n3 : Int) : Option (List (List UInt8)) := (if (decide (n3 = 0)) = true then some [] else (if (decide (sep1 = [])) = true then none else (if (decide (n3 < 0)) = true then (strings_Count k s0 sep1).bind fun r_1 => (if 0 ≤ (if (w_i64 ((List.length s0 : Int) + 1)) < (w_i64 (r_1 + 1)) then (w_i64 ((List.length s0 : Int) + 1)) else (w_i64 (r_1 + 1))) ∧ (if (w_i64 ((List.length s0 : Int) + 1)) < (w_i64 (r_1 + 1)) then (w_i64 ((List.length s0 : Int) + 1)) else (w_i64 (r_1 + 1))) ≤ (if (w_i64 ((List.length s0 : Int) + 1)) < (w_i64 (r_1 + 1)) then (w_i64 ((List.length s0 : Int) + 1)) else (w_i64 (r_1 + 1))) ∧ (if (w_i64 ((List.length s0 : Int) + 1)) < (w_i64 (r_1 + 1)) then (w_i64 ((List.length s0 : Int) + 1)) else (w_i64 (r_1 + 1))) * 16 ≤ LIM then strings_genSplit_l0 k k s0 sep1 sepSave2 (w_i64 ((if (w_i64 ((List.length s0 : Int) + 1)) < (w_i64 (r_1 + 1)) then (w_i64 ((List.length s0 : Int) + 1)) else (w_i64 (r_1 + 1))) - 1)) 0 (List.replicate (if (w_i64 ((List.length s0 : Int) + 1)) < (w_i64 (r_1 + 1)) then (w_i64 ((List.length s0 : Int) + 1)) else (w_i64 (r_1 + 1))).toNat ([] : List UInt8)) (fun s_6 i_7 q_8 => (if 0 ≤ i_7 ∧ i_7.toNat < List.length q_8 then (q_8[i_7.toNat]?).bind fun y_9 => (q_8[i_7.toNat]?).bind fun y_10 => (if 0 ≤ (0 : Int) ∧ (0 : Int) ≤ (w_i64 (i_7 + 1)) ∧ (w_i64 (i_7 + 1)) ≤ (q_8.set i_7.toNat s_6).length then some ((q_8.set i_7.toNat s_6).take ((w_i64 (i_7 + 1)).toNat)) else none) else none)) else none) else (if 0 ≤ (if (w_i64 ((List.length s0 : Int) + 1)) < n3 then (w_i64 ((List.length s0 : Int) + 1)) else n3) ∧ (if (w_i64 ((List.length s0 : Int) + 1)) < n3 then (w_i64 ((List.length s0 : Int) + 1)) else n3) ≤ (if (w_i64 ((List.length s0 : Int) + 1)) < n3 then (w_i64 ((List.length s0 : Int) + 1)) else n3) ∧ (if (w_i64 ((List.length s0 : Int) + 1)) < n3 then (w_i64 ((List.length s0 : Int) + 1)) else n3) * 16 ≤ LIM then strings_genSplit_l0 k k s0 sep1 sepSave2 (w_i64 ((if (w_i64 ((List.length s0 : Int) + 1)) < n3 then (w_i64 ((List.length s0 : Int) + 1)) else n3) - 1)) 0 (List.replicate (if (w_i64 ((List.length s0 : Int) + 1)) < n3 then (w_i64 ((List.length s0 : Int) + 1)) else n3).toNat ([] : List UInt8)) (fun s_11 i_12 q_13 => (if 0 ≤ i_12 ∧ i_12.toNat < List.length q_13 then (q_13[i_12.toNat]?).bind fun y_14 => (q_13[i_12.toNat]?).bind fun y_15 => (if 0 ≤ (0 : Int) ∧ (0 : Int) ≤ (w_i64 (i_12 + 1)) ∧ (w_i64 (i_12 + 1)) ≤ (q_13.set i_12.toNat s_11).length then some ((q_13.set i_12.toNat s_11).take ((w_i64 (i_12 + 1)).toNat)) else none) else none)) else none))))
def strings_genSplit_l0_h : Head := ⟨[(0, (.val .str)), (1, (.val .str)), (2, (.val (.int .i64))), (3, (.val (.int .i64))), (9, (.ref 64000000 [])), (10, (.val (.int .i64)))], [(64000000, 9, .str, false)], []⟩
def strings_genSplit_l0_x0 : Head := ⟨[(0, (.val .str)), (9, (.ref 64000000 [])), (10, (.val (.int .i64)))], [(64000000, 9, .str, false)], []⟩
def strings_genSplit_l0_F (k n : Nat) (x : strings_genSplit_l0_h.T) (kx : Nat → St → Option (List (List UInt8))) : Option (List (List UInt8)) := strings_genSplit_l0 k n x.1.1 x.1.2.1 x.1.2.2.1 x.1.2.2.2.1 x.1.2.2.2.2.2.1 x.2.1.1 (fun (s0 : List UInt8) (i10 : Int) (q_4 : List (List UInt8)) => kx 0 (strings_genSplit_l0_x0.fill ((s0, (), i10, ()), (q_4, ()), ())))
def strings_genSplit_O (k : Nat) : Oracles (List (List UInt8)) := ⟨fun n => bif Nat.beq n 11 then some (fun σ kx => strings_genSplit_l0_h.get σ fun x => strings_genSplit_l0_F k k x kx) else none, fun _ => none⟩
def fe_strings_genSplit (k : Nat) : FE := ⟨(.pr .str (.pr .str (.pr (.int .i64) (.int .i64)))), 1, (.sl 9 .str), fun x => strings_genSplit k x.1 x.2.1 x.2.2.1 x.2.2.2⟩
theorem strings_genSplit_l0_ok (k : Nat) : LoopOK (mkEnv ti [(52, fe_strings_Count k), (53, fe_strings_Index)] (lk []) pins0 pinB0) (strings_genSplit_O k) (rdC (mkEnv ti [(52, fe_strings_Count k), (53, fe_strings_Index)] (lk []) pins0 pinB0) [.tmp 8] (.sl 9 .str)) ((loopsOf (codeOf Tryd.f33)).getD 0 .skip) (fun σ kx => strings_genSplit_l0_h.get σ fun x => strings_genSplit_l0_F k k x kx) := by
  refine ⟨strings_genSplit_l0_h, [(0, strings_genSplit_l0_x0)], fun n x kx => strings_genSplit_l0_F k n x kx, k, by kernel_rfl, by kernel_rfl, fun x kx => by kernel_rfl, ?_, fun σ kx => rfl⟩
  rintro n ⟨⟨s0, sep1, sepSave2, n3, ⟨⟩, i10, ⟨⟩⟩, ⟨q_2, ⟨⟩⟩, ⟨⟩⟩ kx
  kernel_rfl
theorem ok_strings_genSplit (k : Nat) : FnOK Tryd.prog 33 (fe_strings_genSplit k) := by
  refine closed_ok (tab := [(52, fe_strings_Count k), (53, fe_strings_Index)]) (l := []) ti_ok ti_ht mix (List.forall_mem_cons.2 ⟨ok_strings_Count k, (List.forall_mem_cons.2 ⟨ok_strings_Index, (List.forall_mem_nil _)⟩)⟩) (List.forall_mem_nil _) ⟨⟨Tryd.f33, (codeOf Tryd.f33), [.tmp 8], (strings_genSplit_O k), by kernel_rfl, by kernel_rfl, by kernel_rfl, by kernel_rfl, rfl, by decide, ⟨by kernel_rfl, ?_, ?_⟩, ?_⟩⟩
  · refine loops_of (n := 1) (by kernel_rfl) fun i hi => ?_
    match i, hi with
    | 0, _ => exact loop_of (by kernel_rfl) (strings_genSplit_l0_ok k)
    | n + 1, hi => omega
  · exact no_cuts (by kernel_rfl)
  · rintro ⟨s0, sep1, sepSave2, n3⟩
    kernel_rfl
/- 22 strings.Split -/
def strings_Split (k : Nat) (s0 : List UInt8) (sep1 : List UInt8) : Option (List (List UInt8)) := (strings_genSplit k s0 sep1 0 (-1)).bind fun r_1 => some r_1
def fe_strings_Split (k : Nat) : FE := ⟨(.pr .str .str), 1, (.sl 9 .str), fun x => strings_Split k x.1 x.2⟩
theorem ok_strings_Split (k : Nat) : FnOK Tryd.prog 22 (fe_strings_Split k) := by
  refine closed_ok (tab := [(33, fe_strings_genSplit k)]) (l := []) ti_ok ti_ht mix (List.forall_mem_cons.2 ⟨ok_strings_genSplit k, (List.forall_mem_nil _)⟩) (List.forall_mem_nil _) ⟨⟨Tryd.f22, (codeOf Tryd.f22), [.tmp 4], (LOn (List (List UInt8))), by kernel_rfl, by kernel_rfl, by kernel_rfl, by kernel_rfl, rfl, by decide, ⟨by kernel_rfl, ?_, ?_⟩, ?_⟩⟩
  · exact no_loops (by kernel_rfl)
  · exact no_cuts (by kernel_rfl)
  · rintro ⟨s0, sep1⟩
    kernel_rfl
/- 12 loop.example/g01005/impl.endedLines -/
def impl_endedLines (k : Nat) (s0 : List UInt8) : Option (List (List UInt8) × List UInt8) := (strings_Split k s0 [10]).bind fun r_1 => (if 0 ≤ (0 : Int) ∧ (0 : Int) ≤ (w_i64 ((List.length r_1 : Int) - 1)) ∧ (w_i64 ((List.length r_1 : Int) - 1)) ≤ r_1.length then (if 0 ≤ (w_i64 ((List.length r_1 : Int) - 1)) ∧ (w_i64 ((List.length r_1 : Int) - 1)).toNat < List.length r_1 then (r_1[(w_i64 ((List.length r_1 : Int) - 1)).toNat]?).bind fun y_2 => some ((r_1.take ((w_i64 ((List.length r_1 : Int) - 1)).toNat)), y_2) else none) else none)
def fe_impl_endedLines (k : Nat) : FE := ⟨.str, 2, (.pr (.sl 9 .str) .str), fun x => impl_endedLines k x⟩
theorem ok_impl_endedLines (k : Nat) : FnOK Tryd.prog 12 (fe_impl_endedLines k) := by
  refine closed_ok (tab := [(22, fe_strings_Split k)]) (l := []) ti_ok ti_ht mix (List.forall_mem_cons.2 ⟨ok_strings_Split k, (List.forall_mem_nil _)⟩) (List.forall_mem_nil _) ⟨⟨Tryd.f12, (codeOf Tryd.f12), [.tmp 2, .tmp 3], (LOn (List (List UInt8) × List UInt8)), by kernel_rfl, by kernel_rfl, by kernel_rfl, by kernel_rfl, rfl, by decide, ⟨by kernel_rfl, ?_, ?_⟩, ?_⟩⟩
  · exact no_loops (by kernel_rfl)
  · exact no_cuts (by kernel_rfl)
  · rintro s0
    kernel_rfl
/- 34 internal/stringslite.Cut -/
def stringslite_Cut (s0 : List UInt8) (sep1 : List UInt8) : Option (List UInt8 × List UInt8 × Bool) := (stringslite_Index s0 sep1).bind fun r_1 => (if (decide (0 ≤ r_1)) = true then (if 0 ≤ (0 : Int) ∧ (0 : Int) ≤ r_1 ∧ r_1 ≤ s0.length then (if 0 ≤ (w_i64 (r_1 + (List.length sep1 : Int))) ∧ (w_i64 (r_1 + (List.length sep1 : Int))) ≤ (s0.length : Int) ∧ (s0.length : Int) ≤ s0.length then some ((s0.take r_1.toNat), ((s0.drop ((w_i64 (r_1 + (List.length sep1 : Int))).toNat)).take (s0.length - (w_i64 (r_1 + (List.length sep1 : Int))).toNat)), true) else none) else none) else some (s0, [], false))
def fe_stringslite_Cut : FE := ⟨(.pr .str .str), 3, (.pr .str (.pr .str .bool)), fun x => stringslite_Cut x.1 x.2⟩
theorem ok_stringslite_Cut : FnOK Tryd.prog 34 (fe_stringslite_Cut) := by
  refine closed_ok (tab := [(54, fe_stringslite_Index)]) (l := []) ti_ok ti_ht mix (List.forall_mem_cons.2 ⟨ok_stringslite_Index, (List.forall_mem_nil _)⟩) (List.forall_mem_nil _) ⟨⟨Tryd.f34, (codeOf Tryd.f34), [.tmp 4, .tmp 5, .tmp 6], (LOn (List UInt8 × List UInt8 × Bool)), by kernel_rfl, by kernel_rfl, by kernel_rfl, by kernel_rfl, rfl, by decide, ⟨by kernel_rfl, ?_, ?_⟩, ?_⟩⟩
  · exact no_loops (by kernel_rfl)
  · exact no_cuts (by kernel_rfl)
  · rintro ⟨s0, sep1⟩
    kernel_rfl
/- 23 strings.Cut -/
def strings_Cut (s0 : List UInt8) (sep1 : List UInt8) : Option (List UInt8 × List UInt8 × Bool) := (stringslite_Cut s0 sep1).bind fun r_1 => some (r_1.1, r_1.2.1, r_1.2.2)
def fe_strings_Cut : FE := ⟨(.pr .str .str), 3, (.pr .str (.pr .str .bool)), fun x => strings_Cut x.1 x.2⟩
theorem ok_strings_Cut : FnOK Tryd.prog 23 (fe_strings_Cut) := by
  refine closed_ok (tab := [(34, fe_stringslite_Cut)]) (l := []) ti_ok ti_ht mix (List.forall_mem_cons.2 ⟨ok_stringslite_Cut, (List.forall_mem_nil _)⟩) (List.forall_mem_nil _) ⟨⟨Tryd.f23, (codeOf Tryd.f23), [.tmp 4, .tmp 5, .tmp 6], (LOn (List UInt8 × List UInt8 × Bool)), by kernel_rfl, by kernel_rfl, by kernel_rfl, by kernel_rfl, rfl, by decide, ⟨by kernel_rfl, ?_, ?_⟩, ?_⟩⟩
  · exact no_loops (by kernel_rfl)
  · exact no_cuts (by kernel_rfl)
  · rintro ⟨s0, sep1⟩
    kernel_rfl
/- 36 loop.example/g01005/impl.within -/
def impl_within (n0 : Int) (low1 : Int) (high2 : Int) : Option Bool := (if (decide (low1 ≤ n0)) = true then some (decide (n0 ≤ high2)) else some false)
def fe_impl_within : FE := ⟨(.pr (.int .i64) (.pr (.int .i64) (.int .i64))), 1, .bool, fun x => impl_within x.1 x.2.1 x.2.2⟩
theorem ok_impl_within : FnOK Tryd.prog 36 (fe_impl_within) := by
  refine closed_ok (tab := []) (l := []) ti_ok ti_ht mix (List.forall_mem_nil _) (List.forall_mem_nil _) ⟨⟨Tryd.f36, (codeOf Tryd.f36), [.tmp 6], (LOn Bool), by kernel_rfl, by kernel_rfl, by kernel_rfl, by kernel_rfl, rfl, by decide, ⟨by kernel_rfl, ?_, ?_⟩, ?_⟩⟩
  · exact no_loops (by kernel_rfl)
  · exact no_cuts (by kernel_rfl)
  · rintro ⟨n0, low1, high2⟩
    kernel_rfl
/- 25 loop.example/g01005/impl.Crc16 -/
def impl_Crc16_l1 (k : Nat) : Nat → Int → Int → Int → Int → (List Int) → (Int → Int → Int → (List Int) → Option Int) → Option Int
  | 0, _, _, _, _, _, _ => none
  | n + 1, sum5, x14, x15, x24, q_4, e_2 => (if (decide (x24 < 8)) = true then (if (decide (65535 < (w_i64 (sum5 * 2 ^ 1)))) = true then impl_Crc16_l1 k n (b_Xor .i64 (b_And .i64 (w_i64 (sum5 * 2 ^ 1)) 65535) 4129) x14 x15 (w_i64 (x24 + 1)) q_4 e_2 else impl_Crc16_l1 k n (w_i64 (sum5 * 2 ^ 1)) x14 x15 (w_i64 (x24 + 1)) q_4 e_2) else e_2 sum5 x14 x15 q_4)
def impl_Crc16_l0 (k : Nat) : Nat → Int → Int → Int → (List Int) → (Int → Option Int) → Option Int
  | 0, _, _, _, _, _ => none
  | n + 1, sum5, x14, x15, q_2, e_0 => (if (decide (x15 < x14)) = true then (if 0 ≤ x15 ∧ x15.toNat < List.length q_2 then (q_2[x15.toNat]?).bind fun y_3 => impl_Crc16_l1 k k (b_Xor .i64 sum5 (w_i64 ((w_i64 (y_3)) * 2 ^ 8))) x14 x15 0 q_2 (fun sum_4 x_5 x_6 q_7 => impl_Crc16_l0 k n sum_4 x_5 (w_i64 (x_6 + 1)) q_7 e_0) else none) else e_0 sum5)
def impl_Crc16 (k : Nat) (s0 : List UInt8) (start1 : Int) : Option Int := (impl_within start1 0 65535).bind fun r_1 => (if (!r_1) = true then some 0 else (if s0.length ≤ LIM then impl_Crc16_l0 k k start1 (List.length (of_S s0) : Int) 0 (of_S s0) (fun sum_8 => some sum_8) else none))
def impl_Crc16_l1_h : Head := ⟨[(5, (.val (.int .i64))), (13, (.ref 64000000 [])), (14, (.val (.int .i64))), (15, (.val (.int .i64))), (24, (.val (.int .i64)))], [(64000000, 5, (.int .u8), true)], []⟩
def impl_Crc16_l1_x2 : Head := ⟨[(5, (.val (.int .i64))), (13, (.ref 64000000 [])), (14, (.val (.int .i64))), (15, (.val (.int .i64)))], [(64000000, 5, (.int .u8), true)], []⟩
def impl_Crc16_l1_F (k n : Nat) (x : impl_Crc16_l1_h.T) (kx : Nat → St → Option Int) : Option Int := impl_Crc16_l1 k n x.1.1 x.1.2.2.1 x.1.2.2.2.1 x.1.2.2.2.2.1 x.2.1.1 (fun (sum5 : Int) (x14 : Int) (x15 : Int) (q_5 : List Int) => kx 2 (impl_Crc16_l1_x2.fill ((sum5, (), x14, x15, ()), (q_5, ()), ())))
def impl_Crc16_l0_h : Head := ⟨[(5, (.val (.int .i64))), (13, (.ref 64000000 [])), (14, (.val (.int .i64))), (15, (.val (.int .i64)))], [(64000000, 5, (.int .u8), true)], []⟩
def impl_Crc16_l0_x0 : Head := ⟨[(5, (.val (.int .i64)))], [], []⟩
def impl_Crc16_l0_F (k n : Nat) (x : impl_Crc16_l0_h.T) (kx : Nat → St → Option Int) : Option Int := impl_Crc16_l0 k n x.1.1 x.1.2.2.1 x.1.2.2.2.1 x.2.1.1 (fun (sum5 : Int) => kx 0 (impl_Crc16_l0_x0.fill ((sum5, ()), (), ())))
def impl_Crc16_O (k : Nat) : Oracles Int := ⟨fun n => bif Nat.beq n 9 then some (fun σ kx => impl_Crc16_l1_h.get σ fun x => impl_Crc16_l1_F k k x kx) else bif Nat.beq n 5 then some (fun σ kx => impl_Crc16_l0_h.get σ fun x => impl_Crc16_l0_F k k x kx) else none, fun _ => none⟩
def fe_impl_Crc16 (k : Nat) : FE := ⟨(.pr .str (.int .i64)), 1, (.int .i64), fun x => impl_Crc16 k x.1 x.2⟩
theorem impl_Crc16_l1_ok (k : Nat) : LoopOK (mkEnv ti [(36, fe_impl_within)] (lk []) pins0 pinB0) (impl_Crc16_O k) (rdC (mkEnv ti [(36, fe_impl_within)] (lk []) pins0 pinB0) [.tmp 4] (.int .i64)) ((loopsOf (codeOf Tryd.f25)).getD 1 .skip) (fun σ kx => impl_Crc16_l1_h.get σ fun x => impl_Crc16_l1_F k k x kx) := by
  refine ⟨impl_Crc16_l1_h, [(2, impl_Crc16_l1_x2)], fun n x kx => impl_Crc16_l1_F k n x kx, k, by kernel_rfl, by kernel_rfl, fun x kx => by kernel_rfl, ?_, fun σ kx => rfl⟩
  rintro n ⟨⟨sum5, ⟨⟩, x14, x15, x24, ⟨⟩⟩, ⟨q_4, ⟨⟩⟩, ⟨⟩⟩ kx
  kernel_rfl
theorem impl_Crc16_l0_ok (k : Nat) : LoopOK (mkEnv ti [(36, fe_impl_within)] (lk []) pins0 pinB0) (impl_Crc16_O k) (rdC (mkEnv ti [(36, fe_impl_within)] (lk []) pins0 pinB0) [.tmp 4] (.int .i64)) ((loopsOf (codeOf Tryd.f25)).getD 0 .skip) (fun σ kx => impl_Crc16_l0_h.get σ fun x => impl_Crc16_l0_F k k x kx) := by
  refine ⟨impl_Crc16_l0_h, [(0, impl_Crc16_l0_x0)], fun n x kx => impl_Crc16_l0_F k n x kx, k, by kernel_rfl, by kernel_rfl, fun x kx => by kernel_rfl, ?_, fun σ kx => rfl⟩
  rintro n ⟨⟨sum5, ⟨⟩, x14, x15, ⟨⟩⟩, ⟨q_2, ⟨⟩⟩, ⟨⟩⟩ kx
  kernel_rfl
theorem ok_impl_Crc16 (k : Nat) : FnOK Tryd.prog 25 (fe_impl_Crc16 k) := by
  refine closed_ok (tab := [(36, fe_impl_within)]) (l := []) ti_ok ti_ht mix (List.forall_mem_cons.2 ⟨ok_impl_within, (List.forall_mem_nil _)⟩) (List.forall_mem_nil _) ⟨⟨Tryd.f25, (codeOf Tryd.f25), [.tmp 4], (impl_Crc16_O k), by kernel_rfl, by kernel_rfl, by kernel_rfl, by kernel_rfl, rfl, by decide, ⟨by kernel_rfl, ?_, ?_⟩, ?_⟩⟩
  · refine loops_of (n := 2) (by kernel_rfl) fun i hi => ?_
    match i, hi with
    | 0, _ => exact loop_of (by kernel_rfl) (impl_Crc16_l0_ok k)
    | 1, _ => exact loop_of (by kernel_rfl) (impl_Crc16_l1_ok k)
    | n + 2, hi => omega
  · exact no_cuts (by kernel_rfl)
  · rintro ⟨s0, start1⟩
    kernel_rfl
/- 35 strconv.FormatInt (off the shelf) -/
def strconv_FormatInt (n : Int) (b : Int) : Option (List UInt8) := if b = 10 ∧ -9223372036854775808 ≤ n ∧ n ≤ 9223372036854775807 then some (Lib.itoa n) else none
abbrev fe_strconv_FormatInt : FE := fe_formatInt
theorem ok_strconv_FormatInt : FnOK Tryd.prog 35 fe_strconv_FormatInt := ok_formatInt (fn := Tryd.f35) (cd := codeOf Tryd.f35) (by kernel_rfl) (by kernel_rfl) (by kernel_rfl) (fun n h0 h1 w hG => Go.Proofs.Tryd.strconv_FormatInt_10 n h0 h1 w hG)
/- 24 loop.example/g01005/impl.Decimal -/
def impl_Decimal (n0 : Int) : Option (List UInt8) := (strconv_FormatInt n0 10).bind fun r_1 => some r_1
def fe_impl_Decimal : FE := ⟨(.int .i64), 1, .str, fun x => impl_Decimal x⟩
theorem ok_impl_Decimal : FnOK Tryd.prog 24 (fe_impl_Decimal) := by
  refine closed_ok (tab := [(35, fe_strconv_FormatInt)]) (l := []) ti_ok ti_ht mix (List.forall_mem_cons.2 ⟨ok_strconv_FormatInt, (List.forall_mem_nil _)⟩) (List.forall_mem_nil _) ⟨⟨Tryd.f24, (codeOf Tryd.f24), [.tmp 2], (LOn (List UInt8)), by kernel_rfl, by kernel_rfl, by kernel_rfl, by kernel_rfl, rfl, by decide, ⟨by kernel_rfl, ?_, ?_⟩, ?_⟩⟩
  · exact no_loops (by kernel_rfl)
  · exact no_cuts (by kernel_rfl)
  · rintro n0
    kernel_rfl
/- 26 strings.Repeat (off the shelf) -/
def strings_Repeat (s : List UInt8) (c : Int) : Option (List UInt8) := if 0 ≤ c ∧ c ≤ 9223372036854775807 ∧ List.length s * c.toNat ≤ 140737488355328 then some (Lib.repeatL s c.toNat) else none
abbrev fe_strings_Repeat : FE := fe_repeat
theorem ok_strings_Repeat : FnOK Tryd.prog 26 fe_strings_Repeat := ok_repeat (fn := Tryd.f26) (cd := codeOf Tryd.f26) (by kernel_rfl) (by kernel_rfl) (by kernel_rfl) (fun s c w h1 h2 => Go.Proofs.Tryd.strings_Repeat s c w h1 h2)
/- 43 loop.example/g01005/impl.IsName -/
def impl_IsName_l0 (k : Nat) : Nat → Int → Int → (List Int) → (Option Bool) → Option Bool
  | 0, _, _, _, _ => none
  | n + 1, x17, x18, q_1, e_0 => (if (decide (x18 < x17)) = true then (if 0 ≤ x18 ∧ x18.toNat < List.length q_1 then (q_1[x18.toNat]?).bind fun y_2 => (if (decide (97 ≤ y_2)) = true then (if (decide (48 ≤ y_2)) = true then (if (!(decide (y_2 ≤ 122))) = true then (if (decide (x18 = 0)) = true then some false else (if (!(decide (y_2 ≤ 57))) = true then some false else impl_IsName_l0 k n x17 (w_i64 (x18 + 1)) q_1 e_0)) else impl_IsName_l0 k n x17 (w_i64 (x18 + 1)) q_1 e_0) else (if (!(decide (y_2 ≤ 122))) = true then (if (decide (x18 = 0)) = true then some false else some false) else impl_IsName_l0 k n x17 (w_i64 (x18 + 1)) q_1 e_0)) else (if (decide (48 ≤ y_2)) = true then (if (decide (x18 = 0)) = true then some false else (if (!(decide (y_2 ≤ 57))) = true then some false else impl_IsName_l0 k n x17 (w_i64 (x18 + 1)) q_1 e_0)) else (if (decide (x18 = 0)) = true then some false else some false))) else none) else e_0)
def impl_IsName (k : Nat) (s0 : List UInt8) : Option Bool := (if (decide ((List.length s0 : Int) < 1)) = true then some false else (if (decide (10 < (List.length s0 : Int))) = true then some false else (if s0.length ≤ LIM then impl_IsName_l0 k k (List.length (of_S s0) : Int) 0 (of_S s0) (some true) else none)))
def impl_IsName_l0_h : Head := ⟨[(16, (.ref 64000000 [])), (17, (.val (.int .i64))), (18, (.val (.int .i64)))], [(64000000, 5, (.int .u8), true)], []⟩
def impl_IsName_l0_x0 : Head := ⟨[], [], []⟩
def impl_IsName_l0_F (k n : Nat) (x : impl_IsName_l0_h.T) (kx : Nat → St → Option Bool) : Option Bool := impl_IsName_l0 k n x.1.2.1 x.1.2.2.1 x.2.1.1 (kx 0 (impl_IsName_l0_x0.fill ((), (), ())))
def impl_IsName_O (k : Nat) : Oracles Bool := ⟨fun n => bif Nat.beq n 4 then some (fun σ kx => impl_IsName_l0_h.get σ fun x => impl_IsName_l0_F k k x kx) else none, fun _ => none⟩
def fe_impl_IsName (k : Nat) : FE := ⟨.str, 1, .bool, fun x => impl_IsName k x⟩
theorem impl_IsName_l0_ok (k : Nat) : LoopOK (mkEnv ti [] (lk []) pins0 pinB0) (impl_IsName_O k) (rdC (mkEnv ti [] (lk []) pins0 pinB0) [.tmp 2] .bool) ((loopsOf (codeOf Tryd.f43)).getD 0 .skip) (fun σ kx => impl_IsName_l0_h.get σ fun x => impl_IsName_l0_F k k x kx) := by
  refine ⟨impl_IsName_l0_h, [(0, impl_IsName_l0_x0)], fun n x kx => impl_IsName_l0_F k n x kx, k, by kernel_rfl, by kernel_rfl, fun x kx => by kernel_rfl, ?_, fun σ kx => rfl⟩
  rintro n ⟨⟨⟨⟩, x17, x18, ⟨⟩⟩, ⟨q_1, ⟨⟩⟩, ⟨⟩⟩ kx
  kernel_rfl
theorem ok_impl_IsName (k : Nat) : FnOK Tryd.prog 43 (fe_impl_IsName k) := by
  refine closed_ok (tab := []) (l := []) ti_ok ti_ht mix (List.forall_mem_nil _) (List.forall_mem_nil _) ⟨⟨Tryd.f43, (codeOf Tryd.f43), [.tmp 2], (impl_IsName_O k), by kernel_rfl, by kernel_rfl, by kernel_rfl, by kernel_rfl, rfl, by decide, ⟨by kernel_rfl, ?_, ?_⟩, ?_⟩⟩
  · refine loops_of (n := 1) (by kernel_rfl) fun i hi => ?_
    match i, hi with
    | 0, _ => exact loop_of (by kernel_rfl) (impl_IsName_l0_ok k)
    | n + 1, hi => omega
  · exact no_cuts (by kernel_rfl)
  · rintro s0
    kernel_rfl
/- 44 strings.Contains -/
def strings_Contains (s0 : List UInt8) (substr1 : List UInt8) : Option Bool := (strings_Index s0 substr1).bind fun r_1 => some (decide (0 ≤ r_1))
def fe_strings_Contains : FE := ⟨(.pr .str .str), 1, .bool, fun x => strings_Contains x.1 x.2⟩
theorem ok_strings_Contains : FnOK Tryd.prog 44 (fe_strings_Contains) := by
  refine closed_ok (tab := [(53, fe_strings_Index)]) (l := []) ti_ok ti_ht mix (List.forall_mem_cons.2 ⟨ok_strings_Index, (List.forall_mem_nil _)⟩) (List.forall_mem_nil _) ⟨⟨Tryd.f44, (codeOf Tryd.f44), [.tmp 4], (LOn Bool), by kernel_rfl, by kernel_rfl, by kernel_rfl, by kernel_rfl, rfl, by decide, ⟨by kernel_rfl, ?_, ?_⟩, ?_⟩⟩
  · exact no_loops (by kernel_rfl)
  · exact no_cuts (by kernel_rfl)
  · rintro ⟨s0, substr1⟩
    kernel_rfl
/- 27 loop.example/g01005/impl.ValidBlock -/
def impl_ValidBlock (k : Nat) (b0 : List UInt8 × List UInt8 × List UInt8) : Option Bool := (impl_IsName k b0.1).bind fun r_1 => (if r_1 = true then (impl_IsName k b0.2.1).bind fun r_2 => (if r_2 = true then (if (decide ((List.length b0.2.2 : Int) ≤ 400)) = true then (strings_Contains b0.2.2 [10]).bind fun r_3 => some (!r_3) else some false) else some false) else some false)
def fe_impl_ValidBlock (k : Nat) : FE := ⟨(.st (.pr .str (.pr .str .str))), 1, .bool, fun x => impl_ValidBlock k x⟩
theorem ok_impl_ValidBlock (k : Nat) : FnOK Tryd.prog 27 (fe_impl_ValidBlock k) := by
  refine closed_ok (tab := [(43, fe_impl_IsName k), (44, fe_strings_Contains)]) (l := []) ti_ok ti_ht mix (List.forall_mem_cons.2 ⟨ok_impl_IsName k, (List.forall_mem_cons.2 ⟨ok_strings_Contains, (List.forall_mem_nil _)⟩)⟩) (List.forall_mem_nil _) ⟨⟨Tryd.f27, (codeOf Tryd.f27), [.tmp 2], (LOn Bool), by kernel_rfl, by kernel_rfl, by kernel_rfl, by kernel_rfl, rfl, by decide, ⟨by kernel_rfl, ?_, ?_⟩, ?_⟩⟩
  · exact no_loops (by kernel_rfl)
  · exact no_cuts (by kernel_rfl)
  · rintro b0
    kernel_rfl
/- 28 loop.example/g01005/impl.lineOfBlock -/
def impl_lineOfBlock (k : Nat) (b0 : List UInt8 × List UInt8 × List UInt8) : Option (List UInt8) := (if b0.1.length + [32].length ≤ 9223372036854775807 then (if (b0.1 ++ [32]).length + b0.2.1.length ≤ 9223372036854775807 then (if ((b0.1 ++ [32]) ++ b0.2.1).length + [32].length ≤ 9223372036854775807 then (if (((b0.1 ++ [32]) ++ b0.2.1) ++ [32]).length + b0.2.2.length ≤ 9223372036854775807 then (impl_Crc16 k ((((b0.1 ++ [32]) ++ b0.2.1) ++ [32]) ++ b0.2.2) 65535).bind fun r_1 => (impl_Decimal r_1).bind fun r_2 => (strings_Repeat [48] (w_i64 (5 - (List.length r_2 : Int)))).bind fun r_3 => (if r_3.length + r_2.length ≤ 9223372036854775807 then (if (r_3 ++ r_2).length + [32].length ≤ 9223372036854775807 then (if ((r_3 ++ r_2) ++ [32]).length + ((((b0.1 ++ [32]) ++ b0.2.1) ++ [32]) ++ b0.2.2).length ≤ 9223372036854775807 then some (((r_3 ++ r_2) ++ [32]) ++ ((((b0.1 ++ [32]) ++ b0.2.1) ++ [32]) ++ b0.2.2)) else none) else none) else none) else none) else none) else none) else none)
def fe_impl_lineOfBlock (k : Nat) : FE := ⟨(.st (.pr .str (.pr .str .str))), 1, .str, fun x => impl_lineOfBlock k x⟩
theorem ok_impl_lineOfBlock (k : Nat) : FnOK Tryd.prog 28 (fe_impl_lineOfBlock k) := by
  refine closed_ok (tab := [(25, fe_impl_Crc16 k), (24, fe_impl_Decimal), (26, fe_strings_Repeat)]) (l := []) ti_ok ti_ht mix (List.forall_mem_cons.2 ⟨ok_impl_Crc16 k, (List.forall_mem_cons.2 ⟨ok_impl_Decimal, (List.forall_mem_cons.2 ⟨ok_strings_Repeat, (List.forall_mem_nil _)⟩)⟩)⟩) (List.forall_mem_nil _) ⟨⟨Tryd.f28, (codeOf Tryd.f28), [.tmp 2], (LOn (List UInt8)), by kernel_rfl, by kernel_rfl, by kernel_rfl, by kernel_rfl, rfl, by decide, ⟨by kernel_rfl, ?_, ?_⟩, ?_⟩⟩
  · exact no_loops (by kernel_rfl)
  · exact no_cuts (by kernel_rfl)
  · rintro b0
    kernel_rfl
/- 13 loop.example/g01005/impl.blockOfLine -/
def impl_blockOfLine (k : Nat) (line0 : List UInt8) : Option ((List UInt8 × List UInt8 × List UInt8) × Int) := (if (decide ((List.length line0 : Int) < 6)) = true then some (([], ([], [])), 9) else (line0[5]?).bind fun b_1 => (if (!(decide ((z_u8 b_1) = 32))) = true then some (([], ([], [])), 9) else (if 0 ≤ (6 : Int) ∧ (6 : Int) ≤ (line0.length : Int) ∧ (line0.length : Int) ≤ line0.length then (strings_Cut ((line0.drop 6).take (line0.length - 6)) [32]).bind fun r_2 => (strings_Cut r_2.2.1 [32]).bind fun r_3 => (if 0 ≤ (6 : Int) ∧ (6 : Int) ≤ (line0.length : Int) ∧ (line0.length : Int) ≤ line0.length then (impl_Crc16 k ((line0.drop 6).take (line0.length - 6)) 65535).bind fun r_4 => (impl_Decimal r_4).bind fun r_5 => (if 0 ≤ (0 : Int) ∧ (0 : Int) ≤ 5 ∧ (5 : Int) ≤ line0.length then (strings_Repeat [48] (w_i64 (5 - (List.length r_5 : Int)))).bind fun r_6 => (if r_6.length + r_5.length ≤ 9223372036854775807 then (if (!(decide ((line0.take 5) = (r_6 ++ r_5)))) = true then some (([], ([], [])), 10) else (impl_ValidBlock k (r_2.1, (r_3.1, r_3.2.1))).bind fun r_7 => (if (!r_7) = true then some (([], ([], [])), 9) else (impl_lineOfBlock k (r_2.1, (r_3.1, r_3.2.1))).bind fun r_8 => (if (!(decide (r_8 = line0))) = true then some (([], ([], [])), 9) else some ((r_2.1, (r_3.1, r_3.2.1)), 0)))) else none) else none) else none) else none)))
def fe_impl_blockOfLine (k : Nat) : FE := ⟨.str, 2, (.pr (.st (.pr .str (.pr .str .str))) (.int .i64)), fun x => impl_blockOfLine k x⟩
theorem ok_impl_blockOfLine (k : Nat) : FnOK Tryd.prog 13 (fe_impl_blockOfLine k) := by
  refine closed_ok (tab := [(23, fe_strings_Cut), (25, fe_impl_Crc16 k), (24, fe_impl_Decimal), (26, fe_strings_Repeat), (27, fe_impl_ValidBlock k), (28, fe_impl_lineOfBlock k)]) (l := []) ti_ok ti_ht mix (List.forall_mem_cons.2 ⟨ok_strings_Cut, (List.forall_mem_cons.2 ⟨ok_impl_Crc16 k, (List.forall_mem_cons.2 ⟨ok_impl_Decimal, (List.forall_mem_cons.2 ⟨ok_strings_Repeat, (List.forall_mem_cons.2 ⟨ok_impl_ValidBlock k, (List.forall_mem_cons.2 ⟨ok_impl_lineOfBlock k, (List.forall_mem_nil _)⟩)⟩)⟩)⟩)⟩)⟩) (List.forall_mem_nil _) ⟨⟨Tryd.f13, (codeOf Tryd.f13), [.cell 2 31, .tmp 3], (LOn ((List UInt8 × List UInt8 × List UInt8) × Int)), by kernel_rfl, by kernel_rfl, by kernel_rfl, by kernel_rfl, rfl, by decide, ⟨by kernel_rfl, ?_, ?_⟩, ?_⟩⟩
  · exact no_loops (by kernel_rfl)
  · exact no_cuts (by kernel_rfl)
  · rintro line0
    kernel_rfl
/- 79 cmp.isNaN[string] -/
def cmp_isNaN_string (x0 : List UInt8) : Option Bool := some (!(decide (x0 = x0)))
def fe_cmp_isNaN_string : FE := ⟨.str, 1, .bool, fun x => cmp_isNaN_string x⟩
theorem ok_cmp_isNaN_string : FnOK Tryd.prog 79 (fe_cmp_isNaN_string) := by
  refine closed_ok (tab := []) (l := []) ti_ok ti_ht mix (List.forall_mem_nil _) (List.forall_mem_nil _) ⟨⟨Tryd.f79, (codeOf Tryd.f79), [.tmp 2], (LOn Bool), by kernel_rfl, by kernel_rfl, by kernel_rfl, by kernel_rfl, rfl, by decide, ⟨by kernel_rfl, ?_, ?_⟩, ?_⟩⟩
  · exact no_loops (by kernel_rfl)
  · exact no_cuts (by kernel_rfl)
  · rintro x0
    kernel_rfl
/- 62 cmp.Compare[string] -/
def cmp_Compare_string (x0 : List UInt8) (y1 : List UInt8) : Option Int := (cmp_isNaN_string x0).bind fun r_1 => (cmp_isNaN_string y1).bind fun r_2 => (if r_1 = true then (if r_2 = true then some 0 else some (-1)) else (if r_2 = true then some 1 else (if (Op.bytesLess x0 y1) = true then some (-1) else (if (!(Op.bytesLess x0 y1 || decide (x0 = y1))) = true then some 1 else some 0))))
def fe_cmp_Compare_string : FE := ⟨(.pr .str .str), 1, (.int .i64), fun x => cmp_Compare_string x.1 x.2⟩
theorem ok_cmp_Compare_string : FnOK Tryd.prog 62 (fe_cmp_Compare_string) := by
  refine closed_ok (tab := [(79, fe_cmp_isNaN_string)]) (l := []) ti_ok ti_ht mix (List.forall_mem_cons.2 ⟨ok_cmp_isNaN_string, (List.forall_mem_nil _)⟩) (List.forall_mem_nil _) ⟨⟨Tryd.f62, (codeOf Tryd.f62), [.tmp 4], (LOn Int), by kernel_rfl, by kernel_rfl, by kernel_rfl, by kernel_rfl, rfl, by decide, ⟨by kernel_rfl, ?_, ?_⟩, ?_⟩⟩
  · exact no_loops (by kernel_rfl)
  · exact no_cuts (by kernel_rfl)
  · rintro ⟨x0, y1⟩
    kernel_rfl
end
end Go.Proofs.YtfepelmocldcnaaDoor.Ev
