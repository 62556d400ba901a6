/- Functions of the program, as plain ones. No conditions. -/
import Derived.Test.YtackggcodaolaaaG0
import Derived.KernelRfl
set_option linter.unusedVariables false
set_option maxRecDepth 100000
namespace Go.Proofs.Ytackggcodaolaaa.Ev
open Go.RowKit
noncomputable section
/- 19 loop.example/g01005/laws.szBlock -/
def laws_szBlock (a0 : List UInt8 × List UInt8 × List UInt8) (left1 : Int) : Option Int := (if (decide ((w_i64 (left1 - (List.length a0.1 : Int))) < 0)) = true then some (-1) else (if (decide ((w_i64 ((w_i64 (left1 - (List.length a0.1 : Int))) - (List.length a0.2.1 : Int))) < 0)) = true then some (-1) else (if (decide ((w_i64 ((w_i64 ((w_i64 (left1 - (List.length a0.1 : Int))) - (List.length a0.2.1 : Int))) - (List.length a0.2.2 : Int))) < 0)) = true then some (-1) else some (w_i64 ((w_i64 ((w_i64 (left1 - (List.length a0.1 : Int))) - (List.length a0.2.1 : Int))) - (List.length a0.2.2 : Int))))))
def fe_laws_szBlock : FE := ⟨(.pr (.st (.pr .str (.pr .str .str))) (.int .i64)), 1, (.int .i64), fun x => laws_szBlock x.1 x.2⟩
theorem ok_laws_szBlock : FnOK Try.prog 19 (fe_laws_szBlock) := by
  refine closed_ok (tab := []) (l := []) ti_ok ti_ht mix (List.forall_mem_nil _) (List.forall_mem_nil _) ⟨⟨Try.f19, (codeOf Try.f19), [.tmp 4], (LOn Int), by kernel_rfl, by kernel_rfl, by kernel_rfl, by kernel_rfl, rfl, by decide, ⟨by kernel_rfl, ?_, ?_⟩, ?_⟩⟩
  · exact no_loops (by kernel_rfl)
  · exact no_cuts (by kernel_rfl)
  · rintro ⟨a0, left1⟩
    kernel_rfl
/- 12 loop.example/g01005/laws.szBlockS -/
def laws_szBlockS_l0 (k : Nat) : Nat → (List (List UInt8 × List UInt8 × List UInt8)) → Int → Int → (Int → Option Int) → Option Int
  | 0, _, _, _, _ => none
  | n + 1, a0, left1, i5, e_0 => (if (decide (i5 < (List.length a0 : Int))) = true then (if 0 ≤ i5 then (a0[i5.toNat]?).bind fun y_1 => (laws_szBlock y_1 left1).bind fun r_2 => (if (decide (r_2 < 0)) = true then some (-1) else laws_szBlockS_l0 k n a0 r_2 (w_i64 (i5 + 1)) e_0) else none) else e_0 left1)
def laws_szBlockS (k : Nat) (a0 : List (List UInt8 × List UInt8 × List UInt8)) (left1 : Int) : Option Int := (if (decide ((w_i64 (left1 - (List.length a0 : Int))) < 0)) = true then some (-1) else laws_szBlockS_l0 k k a0 (w_i64 (left1 - (List.length a0 : Int))) 0 (fun left_3 => some left_3))
def laws_szBlockS_l0_h : Head := ⟨[(0, (.val (.sl 32 (.st (.pr .str (.pr .str .str)))))), (1, (.val (.int .i64))), (5, (.val (.int .i64)))], [], []⟩
def laws_szBlockS_l0_x0 : Head := ⟨[(1, (.val (.int .i64)))], [], []⟩
def laws_szBlockS_l0_F (k n : Nat) (x : laws_szBlockS_l0_h.T) (kx : Nat → St → Option Int) : Option Int := laws_szBlockS_l0 k n x.1.1 x.1.2.1 x.1.2.2.1 (fun (left1 : Int) => kx 0 (laws_szBlockS_l0_x0.fill ((left1, ()), (), ())))
def laws_szBlockS_O (k : Nat) : Oracles Int := ⟨fun n => bif Nat.beq n 5 then some (fun σ kx => laws_szBlockS_l0_h.get σ fun x => laws_szBlockS_l0_F k k x kx) else none, fun _ => none⟩
def fe_laws_szBlockS (k : Nat) : FE := ⟨(.pr (.sl 32 (.st (.pr .str (.pr .str .str)))) (.int .i64)), 1, (.int .i64), fun x => laws_szBlockS k x.1 x.2⟩
theorem laws_szBlockS_l0_ok (k : Nat) : LoopOK (mkEnv ti [(19, fe_laws_szBlock)] (lk []) pins0 pinB0) (laws_szBlockS_O k) (rdC (mkEnv ti [(19, fe_laws_szBlock)] (lk []) pins0 pinB0) [.tmp 4] (.int .i64)) ((loopsOf (codeOf Try.f12)).getD 0 .skip) (fun σ kx => laws_szBlockS_l0_h.get σ fun x => laws_szBlockS_l0_F k k x kx) := by
  refine ⟨laws_szBlockS_l0_h, [(0, laws_szBlockS_l0_x0)], fun n x kx => laws_szBlockS_l0_F k n x kx, k, by kernel_rfl, by kernel_rfl, fun x kx => by kernel_rfl, ?_, fun σ kx => rfl⟩
  rintro n ⟨⟨a0, left1, i5, ⟨⟩⟩, ⟨⟩, ⟨⟩⟩ kx
  kernel_rfl
theorem ok_laws_szBlockS (k : Nat) : FnOK Try.prog 12 (fe_laws_szBlockS k) := by
  refine closed_ok (tab := [(19, fe_laws_szBlock)]) (l := []) ti_ok ti_ht mix (List.forall_mem_cons.2 ⟨ok_laws_szBlock, (List.forall_mem_nil _)⟩) (List.forall_mem_nil _) ⟨⟨Try.f12, (codeOf Try.f12), [.tmp 4], (laws_szBlockS_O k), by kernel_rfl, by kernel_rfl, by kernel_rfl, by kernel_rfl, rfl, by decide, ⟨by kernel_rfl, ?_, ?_⟩, ?_⟩⟩
  · refine loops_of (n := 1) (by kernel_rfl) fun i hi => ?_
    match i, hi with
    | 0, _ => exact loop_of (by kernel_rfl) (laws_szBlockS_l0_ok k)
    | n + 1, hi => omega
  · exact no_cuts (by kernel_rfl)
  · rintro ⟨a0, left1⟩
    kernel_rfl
/- 21 loop.example/g01005/laws.toBlock -/
def laws_toBlock (a0 : List UInt8 × List UInt8 × List UInt8) : Option (List UInt8 × List UInt8 × List UInt8) := some (a0.1, (a0.2.1, a0.2.2))
def fe_laws_toBlock : FE := ⟨(.st (.pr .str (.pr .str .str))), 1, (.st (.pr .str (.pr .str .str))), fun x => laws_toBlock x⟩
theorem ok_laws_toBlock : FnOK Try.prog 21 (fe_laws_toBlock) := by
  refine closed_ok (tab := []) (l := []) ti_ok ti_ht mix (List.forall_mem_nil _) (List.forall_mem_nil _) ⟨⟨Try.f21, (codeOf Try.f21), [.cell 2 35], (LOn (List UInt8 × List UInt8 × List UInt8)), by kernel_rfl, by kernel_rfl, by kernel_rfl, by kernel_rfl, rfl, by decide, ⟨by kernel_rfl, ?_, ?_⟩, ?_⟩⟩
  · exact no_loops (by kernel_rfl)
  · exact no_cuts (by kernel_rfl)
  · rintro a0
    kernel_rfl
/- 14 loop.example/g01005/laws.toBlockS -/
def laws_toBlockS_l0 (k : Nat) : Nat → (List (List UInt8 × List UInt8 × List UInt8)) → Int → (List (List UInt8 × List UInt8 × List UInt8)) → ((List (List UInt8 × List UInt8 × List UInt8)) → Option (List (List UInt8 × List UInt8 × List UInt8))) → Option (List (List UInt8 × List UInt8 × List UInt8))
  | 0, _, _, _, _ => none
  | n + 1, a0, i4, q_1, e_0 => (if (decide (i4 < (List.length a0 : Int))) = true then (if 0 ≤ i4 then (a0[i4.toNat]?).bind fun y_2 => (laws_toBlock y_2).bind fun r_3 => (if 0 ≤ i4 ∧ i4.toNat < List.length q_1 then (q_1[i4.toNat]?).bind fun y_4 => (q_1[i4.toNat]?).bind fun y_5 => laws_toBlockS_l0 k n a0 (w_i64 (i4 + 1)) (q_1.set i4.toNat r_3) e_0 else none) else none) else e_0 q_1)
def laws_toBlockS (k : Nat) (a0 : List (List UInt8 × List UInt8 × List UInt8)) : Option (List (List UInt8 × List UInt8 × List UInt8)) := (if 0 ≤ (List.length a0 : Int) ∧ (List.length a0 : Int) ≤ (List.length a0 : Int) ∧ (List.length a0 : Int) * 48 ≤ LIM then laws_toBlockS_l0 k k a0 0 (List.replicate (List.length a0) ([], ([], []))) (fun q_6 => some q_6) else none)
def laws_toBlockS_l0_h : Head := ⟨[(0, (.val (.sl 32 (.st (.pr .str (.pr .str .str)))))), (3, (.ref 64000000 [])), (4, (.val (.int .i64)))], [(64000000, 35, (.st (.pr .str (.pr .str .str))), false)], []⟩
def laws_toBlockS_l0_x0 : Head := ⟨[(3, (.ref 64000000 []))], [(64000000, 35, (.st (.pr .str (.pr .str .str))), false)], []⟩
def laws_toBlockS_l0_F (k n : Nat) (x : laws_toBlockS_l0_h.T) (kx : Nat → St → Option (List (List UInt8 × List UInt8 × List UInt8))) : Option (List (List UInt8 × List UInt8 × List UInt8)) := laws_toBlockS_l0 k n x.1.1 x.1.2.2.1 x.2.1.1 (fun (q_6 : List (List UInt8 × List UInt8 × List UInt8)) => kx 0 (laws_toBlockS_l0_x0.fill (((), ()), (q_6, ()), ())))
def laws_toBlockS_O (k : Nat) : Oracles (List (List UInt8 × List UInt8 × List UInt8)) := ⟨fun n => bif Nat.beq n 3 then some (fun σ kx => laws_toBlockS_l0_h.get σ fun x => laws_toBlockS_l0_F k k x kx) else none, fun _ => none⟩
def fe_laws_toBlockS (k : Nat) : FE := ⟨(.sl 32 (.st (.pr .str (.pr .str .str)))), 1, (.sl 35 (.st (.pr .str (.pr .str .str)))), fun x => laws_toBlockS k x⟩
theorem laws_toBlockS_l0_ok (k : Nat) : LoopOK (mkEnv ti [(21, fe_laws_toBlock)] (lk []) pins0 pinB0) (laws_toBlockS_O k) (rdC (mkEnv ti [(21, fe_laws_toBlock)] (lk []) pins0 pinB0) [.tmp 2] (.sl 35 (.st (.pr .str (.pr .str .str))))) ((loopsOf (codeOf Try.f14)).getD 0 .skip) (fun σ kx => laws_toBlockS_l0_h.get σ fun x => laws_toBlockS_l0_F k k x kx) := by
  refine ⟨laws_toBlockS_l0_h, [(0, laws_toBlockS_l0_x0)], fun n x kx => laws_toBlockS_l0_F k n x kx, k, by kernel_rfl, by kernel_rfl, fun x kx => by kernel_rfl, ?_, fun σ kx => rfl⟩
  rintro n ⟨⟨a0, ⟨⟩, i4, ⟨⟩⟩, ⟨q_1, ⟨⟩⟩, ⟨⟩⟩ kx
  kernel_rfl
theorem ok_laws_toBlockS (k : Nat) : FnOK Try.prog 14 (fe_laws_toBlockS k) := by
  refine closed_ok (tab := [(21, fe_laws_toBlock)]) (l := []) ti_ok ti_ht mix (List.forall_mem_cons.2 ⟨ok_laws_toBlock, (List.forall_mem_nil _)⟩) (List.forall_mem_nil _) ⟨⟨Try.f14, (codeOf Try.f14), [.tmp 2], (laws_toBlockS_O k), by kernel_rfl, by kernel_rfl, by kernel_rfl, by kernel_rfl, rfl, by decide, ⟨by kernel_rfl, ?_, ?_⟩, ?_⟩⟩
  · refine loops_of (n := 1) (by kernel_rfl) fun i hi => ?_
    match i, hi with
    | 0, _ => exact loop_of (by kernel_rfl) (laws_toBlockS_l0_ok k)
    | n + 1, hi => omega
  · exact no_cuts (by kernel_rfl)
  · rintro a0
    kernel_rfl
/- 197 loop.example/g01005/spec.l01Small -/
def spec_l01Small (c0 : Int) : Option Bool := (if (decide (97 ≤ c0)) = true then some (decide (c0 ≤ 122)) else some false)
def fe_spec_l01Small : FE := ⟨(.int .u8), 1, .bool, fun x => spec_l01Small x⟩
theorem ok_spec_l01Small : FnOK Try.prog 197 (fe_spec_l01Small) := by
  refine closed_ok (tab := []) (l := []) ti_ok ti_ht mix (List.forall_mem_nil _) (List.forall_mem_nil _) ⟨⟨Try.f197, (codeOf Try.f197), [.tmp 2], (LOn Bool), by kernel_rfl, by kernel_rfl, by kernel_rfl, by kernel_rfl, rfl, by decide, ⟨by kernel_rfl, ?_, ?_⟩, ?_⟩⟩
  · exact no_loops (by kernel_rfl)
  · exact no_cuts (by kernel_rfl)
  · rintro c0
    kernel_rfl
/- 198 loop.example/g01005/spec.l01Digit -/
def spec_l01Digit (c0 : Int) : Option Bool := (if (decide (48 ≤ c0)) = true then some (decide (c0 ≤ 57)) else some false)
def fe_spec_l01Digit : FE := ⟨(.int .u8), 1, .bool, fun x => spec_l01Digit x⟩
theorem ok_spec_l01Digit : FnOK Try.prog 198 (fe_spec_l01Digit) := by
  refine closed_ok (tab := []) (l := []) ti_ok ti_ht mix (List.forall_mem_nil _) (List.forall_mem_nil _) ⟨⟨Try.f198, (codeOf Try.f198), [.tmp 2], (LOn Bool), by kernel_rfl, by kernel_rfl, by kernel_rfl, by kernel_rfl, rfl, by decide, ⟨by kernel_rfl, ?_, ?_⟩, ?_⟩⟩
  · exact no_loops (by kernel_rfl)
  · exact no_cuts (by kernel_rfl)
  · rintro c0
    kernel_rfl
/- 132 loop.example/g01005/spec.l01Name -/
def spec_l01Name_l0 (k : Nat) : Nat → (List UInt8) → Int → (Option Bool) → Option Bool
  | 0, _, _, _ => none
  | n + 1, s0, i3, e_0 => (if (decide (i3 < (List.length s0 : Int))) = true then (if 0 ≤ i3 then (s0[i3.toNat]?).bind fun b_3 => (spec_l01Small (z_u8 b_3)).bind fun r_4 => (if (!r_4) = true then (if 0 ≤ i3 then (s0[i3.toNat]?).bind fun b_5 => (spec_l01Digit (z_u8 b_5)).bind fun r_6 => (if (!r_6) = true then some false else spec_l01Name_l0 k n s0 (w_i64 (i3 + 1)) e_0) else none) else spec_l01Name_l0 k n s0 (w_i64 (i3 + 1)) e_0) else none) else e_0)
def spec_l01Name (k : Nat) (s0 : List UInt8) : Option Bool := (if (decide (s0 = [])) = true then some false else (if (decide (10 < (List.length s0 : Int))) = true then some false else (s0[0]?).bind fun b_1 => (spec_l01Small (z_u8 b_1)).bind fun r_2 => (if (!r_2) = true then some false else spec_l01Name_l0 k k s0 0 (some true))))
def spec_l01Name_l0_h : Head := ⟨[(0, (.val .str)), (3, (.val (.int .i64)))], [], []⟩
def spec_l01Name_l0_x0 : Head := ⟨[], [], []⟩
def spec_l01Name_l0_F (k n : Nat) (x : spec_l01Name_l0_h.T) (kx : Nat → St → Option Bool) : Option Bool := spec_l01Name_l0 k n x.1.1 x.1.2.1 (kx 0 (spec_l01Name_l0_x0.fill ((), (), ())))
def spec_l01Name_O (k : Nat) : Oracles Bool := ⟨fun n => bif Nat.beq n 4 then some (fun σ kx => spec_l01Name_l0_h.get σ fun x => spec_l01Name_l0_F k k x kx) else none, fun _ => none⟩
def fe_spec_l01Name (k : Nat) : FE := ⟨.str, 1, .bool, fun x => spec_l01Name k x⟩
theorem spec_l01Name_l0_ok (k : Nat) : LoopOK (mkEnv ti [(197, fe_spec_l01Small), (198, fe_spec_l01Digit)] (lk []) pins0 pinB0) (spec_l01Name_O k) (rdC (mkEnv ti [(197, fe_spec_l01Small), (198, fe_spec_l01Digit)] (lk []) pins0 pinB0) [.tmp 2] .bool) ((loopsOf (codeOf Try.f132)).getD 0 .skip) (fun σ kx => spec_l01Name_l0_h.get σ fun x => spec_l01Name_l0_F k k x kx) := by
  refine ⟨spec_l01Name_l0_h, [(0, spec_l01Name_l0_x0)], fun n x kx => spec_l01Name_l0_F k n x kx, k, by kernel_rfl, by kernel_rfl, fun x kx => by kernel_rfl, ?_, fun σ kx => rfl⟩
  rintro n ⟨⟨s0, i3, ⟨⟩⟩, ⟨⟩, ⟨⟩⟩ kx
  kernel_rfl
theorem ok_spec_l01Name (k : Nat) : FnOK Try.prog 132 (fe_spec_l01Name k) := by
  refine closed_ok (tab := [(197, fe_spec_l01Small), (198, fe_spec_l01Digit)]) (l := []) ti_ok ti_ht mix (List.forall_mem_cons.2 ⟨ok_spec_l01Small, (List.forall_mem_cons.2 ⟨ok_spec_l01Digit, (List.forall_mem_nil _)⟩)⟩) (List.forall_mem_nil _) ⟨⟨Try.f132, (codeOf Try.f132), [.tmp 2], (spec_l01Name_O k), by kernel_rfl, by kernel_rfl, by kernel_rfl, by kernel_rfl, rfl, by decide, ⟨by kernel_rfl, ?_, ?_⟩, ?_⟩⟩
  · refine loops_of (n := 1) (by kernel_rfl) fun i hi => ?_
    match i, hi with
    | 0, _ => exact loop_of (by kernel_rfl) (spec_l01Name_l0_ok k)
    | n + 1, hi => omega
  · exact no_cuts (by kernel_rfl)
  · rintro s0
    kernel_rfl
/- 63 loop.example/g01005/spec.l29One -/
def spec_l29One_l0 (k : Nat) : Nat → (List UInt8 × List UInt8 × List UInt8) → Int → ((List UInt8 × List UInt8 × List UInt8) → Option Bool) → Option Bool
  | 0, _, _, _ => none
  | n + 1, b0, i3, e_0 => (if (decide (i3 < (List.length b0.2.2 : Int))) = true then (if 0 ≤ i3 then (b0.2.2[i3.toNat]?).bind fun b_1 => (if (decide ((z_u8 b_1) = 10)) = true then some false else spec_l29One_l0 k n b0 (w_i64 (i3 + 1)) e_0) else none) else e_0 b0)
def spec_l29One (k : Nat) (b0 : List UInt8 × List UInt8 × List UInt8) : Option Bool := spec_l29One_l0 k k b0 0 (fun b_2 => (spec_l01Name k b_2.1).bind fun r_3 => (if r_3 = true then (spec_l01Name k b_2.2.1).bind fun r_4 => (if r_4 = true then some (decide ((List.length b_2.2.2 : Int) ≤ 400)) else some false) else some false))
def spec_l29One_l0_h : Head := ⟨[(0, (.val (.ptr (.st (.pr .str (.pr .str .str)))))), (3, (.val (.int .i64)))], [], []⟩
def spec_l29One_l0_x0 : Head := ⟨[(0, (.val (.ptr (.st (.pr .str (.pr .str .str))))))], [], []⟩
def spec_l29One_l0_F (k n : Nat) (x : spec_l29One_l0_h.T) (kx : Nat → St → Option Bool) : Option Bool := spec_l29One_l0 k n x.1.1 x.1.2.1 (fun (b0 : List UInt8 × List UInt8 × List UInt8) => kx 0 (spec_l29One_l0_x0.fill ((b0, ()), (), ())))
def spec_l29One_O (k : Nat) : Oracles Bool := ⟨fun n => bif Nat.beq n 2 then some (fun σ kx => spec_l29One_l0_h.get σ fun x => spec_l29One_l0_F k k x kx) else none, fun _ => none⟩
def fe_spec_l29One (k : Nat) : FE := ⟨(.ptr (.st (.pr .str (.pr .str .str)))), 1, .bool, fun x => spec_l29One k x⟩
theorem spec_l29One_l0_ok (k : Nat) : LoopOK (mkEnv ti [(132, fe_spec_l01Name k)] (lk []) pins0 pinB0) (spec_l29One_O k) (rdC (mkEnv ti [(132, fe_spec_l01Name k)] (lk []) pins0 pinB0) [.tmp 2] .bool) ((loopsOf (codeOf Try.f63)).getD 0 .skip) (fun σ kx => spec_l29One_l0_h.get σ fun x => spec_l29One_l0_F k k x kx) := by
  refine ⟨spec_l29One_l0_h, [(0, spec_l29One_l0_x0)], fun n x kx => spec_l29One_l0_F k n x kx, k, by kernel_rfl, by kernel_rfl, fun x kx => by kernel_rfl, ?_, fun σ kx => rfl⟩
  rintro n ⟨⟨b0, i3, ⟨⟩⟩, ⟨⟩, ⟨⟩⟩ kx
  kernel_rfl
theorem ok_spec_l29One (k : Nat) : FnOK Try.prog 63 (fe_spec_l29One k) := by
  refine closed_ok (tab := [(132, fe_spec_l01Name k)]) (l := []) ti_ok ti_ht mix (List.forall_mem_cons.2 ⟨ok_spec_l01Name k, (List.forall_mem_nil _)⟩) (List.forall_mem_nil _) ⟨⟨Try.f63, (codeOf Try.f63), [.tmp 2], (spec_l29One_O k), by kernel_rfl, by kernel_rfl, by kernel_rfl, by kernel_rfl, rfl, by decide, ⟨by kernel_rfl, ?_, ?_⟩, ?_⟩⟩
  · refine loops_of (n := 1) (by kernel_rfl) fun i hi => ?_
    match i, hi with
    | 0, _ => exact loop_of (by kernel_rfl) (spec_l29One_l0_ok k)
    | n + 1, hi => omega
  · exact no_cuts (by kernel_rfl)
  · rintro b0
    kernel_rfl
/- 129 loop.example/g01005/spec.l29Before -/
def spec_l29Before (a0 : List UInt8 × List UInt8 × List UInt8) (b1 : List UInt8 × List UInt8 × List UInt8) : Option Bool := (if (Op.bytesLess a0.1 b1.1) = true then some true else (if (decide (a0.1 = b1.1)) = true then some (Op.bytesLess a0.2.1 b1.2.1) else some false))
def fe_spec_l29Before : FE := ⟨(.pr (.ptr (.st (.pr .str (.pr .str .str)))) (.ptr (.st (.pr .str (.pr .str .str))))), 1, .bool, fun x => spec_l29Before x.1 x.2⟩
theorem ok_spec_l29Before : FnOK Try.prog 129 (fe_spec_l29Before) := by
  refine closed_ok (tab := []) (l := []) ti_ok ti_ht mix (List.forall_mem_nil _) (List.forall_mem_nil _) ⟨⟨Try.f129, (codeOf Try.f129), [.tmp 4], (LOn Bool), by kernel_rfl, by kernel_rfl, by kernel_rfl, by kernel_rfl, rfl, by decide, ⟨by kernel_rfl, ?_, ?_⟩, ?_⟩⟩
  · exact no_loops (by kernel_rfl)
  · exact no_cuts (by kernel_rfl)
  · rintro ⟨a0, b1⟩
    kernel_rfl
/- 55 loop.example/g01005/spec.l29Ok -/
def spec_l29Ok_l0 (k : Nat) : Nat → (List (List UInt8 × List UInt8 × List UInt8)) → Int → ((List (List UInt8 × List UInt8 × List UInt8)) → Option Bool) → Option Bool
  | 0, _, _, _ => none
  | n + 1, list0, i3, e_0 => (if (decide (i3 < (List.length list0 : Int))) = true then (if 0 ≤ i3 then (list0[i3.toNat]?).bind fun y_1 => (spec_l29One k y_1).bind fun r_2 => (if (!r_2) = true then some false else (if (decide (0 < i3)) = true then (if 0 ≤ (w_i64 (i3 - 1)) then (list0[(w_i64 (i3 - 1)).toNat]?).bind fun y_3 => (if 0 ≤ i3 then (list0[i3.toNat]?).bind fun y_4 => (spec_l29Before y_3 y_4).bind fun r_5 => (if (!r_5) = true then some false else spec_l29Ok_l0 k n list0 (w_i64 (i3 + 1)) e_0) else none) else none) else spec_l29Ok_l0 k n list0 (w_i64 (i3 + 1)) e_0)) else none) else e_0 list0)
def spec_l29Ok (k : Nat) (list0 : List (List UInt8 × List UInt8 × List UInt8)) : Option Bool := spec_l29Ok_l0 k k list0 0 (fun list_6 => some (decide ((List.length list_6 : Int) ≤ 32)))
def spec_l29Ok_l0_h : Head := ⟨[(0, (.val (.sl 35 (.st (.pr .str (.pr .str .str)))))), (3, (.val (.int .i64)))], [], []⟩
def spec_l29Ok_l0_x0 : Head := ⟨[(0, (.val (.sl 35 (.st (.pr .str (.pr .str .str))))))], [], []⟩
def spec_l29Ok_l0_F (k n : Nat) (x : spec_l29Ok_l0_h.T) (kx : Nat → St → Option Bool) : Option Bool := spec_l29Ok_l0 k n x.1.1 x.1.2.1 (fun (list0 : List (List UInt8 × List UInt8 × List UInt8)) => kx 0 (spec_l29Ok_l0_x0.fill ((list0, ()), (), ())))
def spec_l29Ok_O (k : Nat) : Oracles Bool := ⟨fun n => bif Nat.beq n 2 then some (fun σ kx => spec_l29Ok_l0_h.get σ fun x => spec_l29Ok_l0_F k k x kx) else none, fun _ => none⟩
def fe_spec_l29Ok (k : Nat) : FE := ⟨(.sl 35 (.st (.pr .str (.pr .str .str)))), 1, .bool, fun x => spec_l29Ok k x⟩
theorem spec_l29Ok_l0_ok (k : Nat) : LoopOK (mkEnv ti [(63, fe_spec_l29One k), (129, fe_spec_l29Before)] (lk []) pins0 pinB0) (spec_l29Ok_O k) (rdC (mkEnv ti [(63, fe_spec_l29One k), (129, fe_spec_l29Before)] (lk []) pins0 pinB0) [.tmp 2] .bool) ((loopsOf (codeOf Try.f55)).getD 0 .skip) (fun σ kx => spec_l29Ok_l0_h.get σ fun x => spec_l29Ok_l0_F k k x kx) := by
  refine ⟨spec_l29Ok_l0_h, [(0, spec_l29Ok_l0_x0)], fun n x kx => spec_l29Ok_l0_F k n x kx, k, by kernel_rfl, by kernel_rfl, fun x kx => by kernel_rfl, ?_, fun σ kx => rfl⟩
  rintro n ⟨⟨list0, i3, ⟨⟩⟩, ⟨⟩, ⟨⟩⟩ kx
  kernel_rfl
theorem ok_spec_l29Ok (k : Nat) : FnOK Try.prog 55 (fe_spec_l29Ok k) := by
  refine closed_ok (tab := [(63, fe_spec_l29One k), (129, fe_spec_l29Before)]) (l := []) ti_ok ti_ht mix (List.forall_mem_cons.2 ⟨ok_spec_l29One k, (List.forall_mem_cons.2 ⟨ok_spec_l29Before, (List.forall_mem_nil _)⟩)⟩) (List.forall_mem_nil _) ⟨⟨Try.f55, (codeOf Try.f55), [.tmp 2], (spec_l29Ok_O k), by kernel_rfl, by kernel_rfl, by kernel_rfl, by kernel_rfl, rfl, by decide, ⟨by kernel_rfl, ?_, ?_⟩, ?_⟩⟩
  · refine loops_of (n := 1) (by kernel_rfl) fun i hi => ?_
    match i, hi with
    | 0, _ => exact loop_of (by kernel_rfl) (spec_l29Ok_l0_ok k)
    | n + 1, hi => omega
  · exact no_cuts (by kernel_rfl)
  · rintro list0
    kernel_rfl
/- 64 loop.example/g01005/spec.l29Put -/
def spec_l29Put_l0 (k : Nat) : Nat → (List (List UInt8 × List UInt8 × List UInt8)) → Bool → Int → (List (List UInt8 × List UInt8 × List UInt8)) → (List UInt8 × List UInt8 × List UInt8) → (Bool → (List (List UInt8 × List UInt8 × List UInt8)) → (List UInt8 × List UInt8 × List UInt8) → Option (List (List UInt8 × List UInt8 × List UInt8))) → Option (List (List UInt8 × List UInt8 × List UInt8))
  | 0, _, _, _, _, _, _ => none
  | n + 1, list0, done6, i7, q_1, v_3, e_0 => (if (decide (i7 < (List.length list0 : Int))) = true then (if (!done6) = true then (if 0 ≤ i7 then (list0[i7.toNat]?).bind fun y_2 => (spec_l29Before y_2 v_3).bind fun r_3 => (if (!r_3) = true then (if (q_1.length + [v_3].length) * 48 ≤ LIM then (if 0 ≤ i7 then (list0[i7.toNat]?).bind fun y_4 => (if (!(decide (y_4.1 = v_3.1))) = true then (if 0 ≤ i7 then (list0[i7.toNat]?).bind fun y_5 => (if ((q_1 ++ [v_3]).length + [y_5].length) * 48 ≤ LIM then spec_l29Put_l0 k n list0 true (w_i64 (i7 + 1)) ((q_1 ++ [v_3]) ++ [y_5]) v_3 e_0 else none) else none) else (if 0 ≤ i7 then (list0[i7.toNat]?).bind fun y_6 => (if (!(decide (y_6.2.1 = v_3.2.1))) = true then (if 0 ≤ i7 then (list0[i7.toNat]?).bind fun y_7 => (if ((q_1 ++ [v_3]).length + [y_7].length) * 48 ≤ LIM then spec_l29Put_l0 k n list0 true (w_i64 (i7 + 1)) ((q_1 ++ [v_3]) ++ [y_7]) v_3 e_0 else none) else none) else spec_l29Put_l0 k n list0 true (w_i64 (i7 + 1)) (q_1 ++ [v_3]) v_3 e_0) else none)) else none) else none) else (if 0 ≤ i7 then (list0[i7.toNat]?).bind fun y_8 => (if (!(decide (y_8.1 = v_3.1))) = true then (if 0 ≤ i7 then (list0[i7.toNat]?).bind fun y_9 => (if (q_1.length + [y_9].length) * 48 ≤ LIM then spec_l29Put_l0 k n list0 done6 (w_i64 (i7 + 1)) (q_1 ++ [y_9]) v_3 e_0 else none) else none) else (if 0 ≤ i7 then (list0[i7.toNat]?).bind fun y_10 => (if (!(decide (y_10.2.1 = v_3.2.1))) = true then (if 0 ≤ i7 then (list0[i7.toNat]?).bind fun y_11 => (if (q_1.length + [y_11].length) * 48 ≤ LIM then spec_l29Put_l0 k n list0 done6 (w_i64 (i7 + 1)) (q_1 ++ [y_11]) v_3 e_0 else none) else none) else spec_l29Put_l0 k n list0 done6 (w_i64 (i7 + 1)) q_1 v_3 e_0) else none)) else none)) else none) else (if 0 ≤ i7 then (list0[i7.toNat]?).bind fun y_12 => (if (!(decide (y_12.1 = v_3.1))) = true then (if 0 ≤ i7 then (list0[i7.toNat]?).bind fun y_13 => (if (q_1.length + [y_13].length) * 48 ≤ LIM then spec_l29Put_l0 k n list0 done6 (w_i64 (i7 + 1)) (q_1 ++ [y_13]) v_3 e_0 else none) else none) else (if 0 ≤ i7 then (list0[i7.toNat]?).bind fun y_14 => (if (!(decide (y_14.2.1 = v_3.2.1))) = true then (if 0 ≤ i7 then (list0[i7.toNat]?).bind fun y_15 => (if (q_1.length + [y_15].length) * 48 ≤ LIM then spec_l29Put_l0 k n list0 done6 (w_i64 (i7 + 1)) (q_1 ++ [y_15]) v_3 e_0 else none) else none) else spec_l29Put_l0 k n list0 done6 (w_i64 (i7 + 1)) q_1 v_3 e_0) else none)) else none)) else e_0 done6 q_1 v_3)
def spec_l29Put (k : Nat) (list0 : List (List UInt8 × List UInt8 × List UInt8)) (b1 : List UInt8 × List UInt8 × List UInt8) : Option (List (List UInt8 × List UInt8 × List UInt8)) := spec_l29Put_l0 k k list0 false 0 [] b1 (fun done_16 q_17 v_18 => (if (!done_16) = true then (if (q_17.length + [v_18].length) * 48 ≤ LIM then some (q_17 ++ [v_18]) else none) else some q_17))
def spec_l29Put_l0_h : Head := ⟨[(0, (.val (.sl 35 (.st (.pr .str (.pr .str .str)))))), (3, (.bp 3 [] 0)), (5, (.ref 64000000 [])), (6, (.val .bool)), (7, (.val (.int .i64)))], [(64000000, 35, (.st (.pr .str (.pr .str .str))), false)], [(3, 35, (.val (.st (.pr .str (.pr .str .str)))))]⟩
def spec_l29Put_l0_x0 : Head := ⟨[(3, (.bp 3 [] 0)), (5, (.ref 64000000 [])), (6, (.val .bool))], [(64000000, 35, (.st (.pr .str (.pr .str .str))), false)], [(3, 35, (.val (.st (.pr .str (.pr .str .str)))))]⟩
def spec_l29Put_l0_F (k n : Nat) (x : spec_l29Put_l0_h.T) (kx : Nat → St → Option (List (List UInt8 × List UInt8 × List UInt8))) : Option (List (List UInt8 × List UInt8 × List UInt8)) := spec_l29Put_l0 k n x.1.1 x.1.2.2.2.1 x.1.2.2.2.2.1 x.2.1.1 x.2.2.1 (fun (done6 : Bool) (q_16 : List (List UInt8 × List UInt8 × List UInt8)) (v_3 : List UInt8 × List UInt8 × List UInt8) => kx 0 (spec_l29Put_l0_x0.fill (((), (), done6, ()), (q_16, ()), (v_3, ()))))
def spec_l29Put_O (k : Nat) : Oracles (List (List UInt8 × List UInt8 × List UInt8)) := ⟨fun n => bif Nat.beq n 4 then some (fun σ kx => spec_l29Put_l0_h.get σ fun x => spec_l29Put_l0_F k k x kx) else none, fun _ => none⟩
def fe_spec_l29Put (k : Nat) : FE := ⟨(.pr (.sl 35 (.st (.pr .str (.pr .str .str)))) (.st (.pr .str (.pr .str .str)))), 1, (.sl 35 (.st (.pr .str (.pr .str .str)))), fun x => spec_l29Put k x.1 x.2⟩
theorem spec_l29Put_l0_ok (k : Nat) : LoopOK (mkEnv ti [(129, fe_spec_l29Before)] (lk []) pins0 pinB0) (spec_l29Put_O k) (rdC (mkEnv ti [(129, fe_spec_l29Before)] (lk []) pins0 pinB0) [.tmp 4] (.sl 35 (.st (.pr .str (.pr .str .str))))) ((loopsOf (codeOf Try.f64)).getD 0 .skip) (fun σ kx => spec_l29Put_l0_h.get σ fun x => spec_l29Put_l0_F k k x kx) := by
  refine ⟨spec_l29Put_l0_h, [(0, spec_l29Put_l0_x0)], fun n x kx => spec_l29Put_l0_F k n x kx, k, by kernel_rfl, by kernel_rfl, fun x kx => by kernel_rfl, ?_, fun σ kx => rfl⟩
  rintro n ⟨⟨list0, ⟨⟩, ⟨⟩, done6, i7, ⟨⟩⟩, ⟨q_1, ⟨⟩⟩, ⟨v_3, ⟨⟩⟩⟩ kx
  kernel_rfl
theorem ok_spec_l29Put (k : Nat) : FnOK Try.prog 64 (fe_spec_l29Put k) := by
  refine closed_ok (tab := [(129, fe_spec_l29Before)]) (l := []) ti_ok ti_ht mix (List.forall_mem_cons.2 ⟨ok_spec_l29Before, (List.forall_mem_nil _)⟩) (List.forall_mem_nil _) ⟨⟨Try.f64, (codeOf Try.f64), [.tmp 4], (spec_l29Put_O k), by kernel_rfl, by kernel_rfl, by kernel_rfl, by kernel_rfl, rfl, by decide, ⟨by kernel_rfl, ?_, ?_⟩, ?_⟩⟩
  · refine loops_of (n := 1) (by kernel_rfl) fun i hi => ?_
    match i, hi with
    | 0, _ => exact loop_of (by kernel_rfl) (spec_l29Put_l0_ok k)
    | n + 1, hi => omega
  · exact no_cuts (by kernel_rfl)
  · rintro ⟨list0, b1⟩
    kernel_rfl
/- 20 loop.example/g01005/spec.PutBlock -/
def spec_PutBlock (k : Nat) (list0 : List (List UInt8 × List UInt8 × List UInt8)) (b1 : List UInt8 × List UInt8 × List UInt8) : Option ((List (List UInt8 × List UInt8 × List UInt8)) × Int) := (spec_l29Ok k list0).bind fun r_1 => (if (!r_1) = true then some ([], 1) else (spec_l29One k b1).bind fun r_2 => (if (!r_2) = true then some ([], 1) else (spec_l29Put k list0 b1).bind fun r_3 => (if (decide (32 < (List.length r_3 : Int))) = true then some ([], 5) else some (r_3, 0))))
def fe_spec_PutBlock (k : Nat) : FE := ⟨(.pr (.sl 35 (.st (.pr .str (.pr .str .str)))) (.st (.pr .str (.pr .str .str)))), 2, (.pr (.sl 35 (.st (.pr .str (.pr .str .str)))) (.int .i64)), fun x => spec_PutBlock k x.1 x.2⟩
theorem ok_spec_PutBlock (k : Nat) : FnOK Try.prog 20 (fe_spec_PutBlock k) := by
  refine closed_ok (tab := [(55, fe_spec_l29Ok k), (63, fe_spec_l29One k), (64, fe_spec_l29Put k)]) (l := []) ti_ok ti_ht mix (List.forall_mem_cons.2 ⟨ok_spec_l29Ok k, (List.forall_mem_cons.2 ⟨ok_spec_l29One k, (List.forall_mem_cons.2 ⟨ok_spec_l29Put k, (List.forall_mem_nil _)⟩)⟩)⟩) (List.forall_mem_nil _) ⟨⟨Try.f20, (codeOf Try.f20), [.tmp 4, .tmp 5], (LOn ((List (List UInt8 × List UInt8 × List UInt8)) × Int)), by kernel_rfl, by kernel_rfl, by kernel_rfl, by kernel_rfl, rfl, by decide, ⟨by kernel_rfl, ?_, ?_⟩, ?_⟩⟩
  · exact no_loops (by kernel_rfl)
  · exact no_cuts (by kernel_rfl)
  · rintro ⟨list0, b1⟩
    kernel_rfl
/- 133 loop.example/g01005/impl.IsName -/
def impl_IsName_l0 (k : Nat) : Nat → Int → Int → (List Int) → (Option Bool) → Option Bool
  | 0, _, _, _, _ => none
  | n + 1, x17, x18, q_1, e_0 => (if (decide (x18 < x17)) = true then (if 0 ≤ x18 ∧ x18.toNat < List.length q_1 then (q_1[x18.toNat]?).bind fun y_2 => (if (decide (97 ≤ y_2)) = true then (if (decide (48 ≤ y_2)) = true then (if (!(decide (y_2 ≤ 122))) = true then (if (decide (x18 = 0)) = true then some false else (if (!(decide (y_2 ≤ 57))) = true then some false else impl_IsName_l0 k n x17 (w_i64 (x18 + 1)) q_1 e_0)) else impl_IsName_l0 k n x17 (w_i64 (x18 + 1)) q_1 e_0) else (if (!(decide (y_2 ≤ 122))) = true then (if (decide (x18 = 0)) = true then some false else some false) else impl_IsName_l0 k n x17 (w_i64 (x18 + 1)) q_1 e_0)) else (if (decide (48 ≤ y_2)) = true then (if (decide (x18 = 0)) = true then some false else (if (!(decide (y_2 ≤ 57))) = true then some false else impl_IsName_l0 k n x17 (w_i64 (x18 + 1)) q_1 e_0)) else (if (decide (x18 = 0)) = true then some false else some false))) else none) else e_0)
def impl_IsName (k : Nat) (s0 : List UInt8) : Option Bool := (if (decide ((List.length s0 : Int) < 1)) = true then some false else (if (decide (10 < (List.length s0 : Int))) = true then some false else (if s0.length ≤ LIM then impl_IsName_l0 k k (List.length (of_S s0) : Int) 0 (of_S s0) (some true) else none)))
def impl_IsName_l0_h : Head := ⟨[(16, (.ref 64000000 [])), (17, (.val (.int .i64))), (18, (.val (.int .i64)))], [(64000000, 5, (.int .u8), true)], []⟩
def impl_IsName_l0_x0 : Head := ⟨[], [], []⟩
def impl_IsName_l0_F (k n : Nat) (x : impl_IsName_l0_h.T) (kx : Nat → St → Option Bool) : Option Bool := impl_IsName_l0 k n x.1.2.1 x.1.2.2.1 x.2.1.1 (kx 0 (impl_IsName_l0_x0.fill ((), (), ())))
def impl_IsName_O (k : Nat) : Oracles Bool := ⟨fun n => bif Nat.beq n 4 then some (fun σ kx => impl_IsName_l0_h.get σ fun x => impl_IsName_l0_F k k x kx) else none, fun _ => none⟩
def fe_impl_IsName (k : Nat) : FE := ⟨.str, 1, .bool, fun x => impl_IsName k x⟩
theorem impl_IsName_l0_ok (k : Nat) : LoopOK (mkEnv ti [] (lk []) pins0 pinB0) (impl_IsName_O k) (rdC (mkEnv ti [] (lk []) pins0 pinB0) [.tmp 2] .bool) ((loopsOf (codeOf Try.f133)).getD 0 .skip) (fun σ kx => impl_IsName_l0_h.get σ fun x => impl_IsName_l0_F k k x kx) := by
  refine ⟨impl_IsName_l0_h, [(0, impl_IsName_l0_x0)], fun n x kx => impl_IsName_l0_F k n x kx, k, by kernel_rfl, by kernel_rfl, fun x kx => by kernel_rfl, ?_, fun σ kx => rfl⟩
  rintro n ⟨⟨⟨⟩, x17, x18, ⟨⟩⟩, ⟨q_1, ⟨⟩⟩, ⟨⟩⟩ kx
  kernel_rfl
theorem ok_impl_IsName (k : Nat) : FnOK Try.prog 133 (fe_impl_IsName k) := by
  refine closed_ok (tab := []) (l := []) ti_ok ti_ht mix (List.forall_mem_nil _) (List.forall_mem_nil _) ⟨⟨Try.f133, (codeOf Try.f133), [.tmp 2], (impl_IsName_O k), by kernel_rfl, by kernel_rfl, by kernel_rfl, by kernel_rfl, rfl, by decide, ⟨by kernel_rfl, ?_, ?_⟩, ?_⟩⟩
  · refine loops_of (n := 1) (by kernel_rfl) fun i hi => ?_
    match i, hi with
    | 0, _ => exact loop_of (by kernel_rfl) (impl_IsName_l0_ok k)
    | n + 1, hi => omega
  · exact no_cuts (by kernel_rfl)
  · rintro s0
    kernel_rfl
/- 278 internal/bytealg.IndexByteString (by hand) -/
def bytealg_IndexByteString (s : List UInt8) (c : Int) : Option Int := some (Lib.indexByte s (c.toNat.toUInt8))
abbrev fe_bytealg_IndexByteString : FE := fe_indexByteString
theorem ok_bytealg_IndexByteString : FnOK Try.prog 278 fe_bytealg_IndexByteString := ok_indexByteString (fn := Try.f278) (by kernel_rfl) (by kernel_rfl) (by kernel_rfl) (by kernel_rfl) (by kernel_rfl)
/- 267 internal/stringslite.IndexByte -/
def stringslite_IndexByte (s0 : List UInt8) (c1 : Int) : Option Int := (bytealg_IndexByteString s0 c1).bind fun r_1 => some r_1
def fe_stringslite_IndexByte : FE := ⟨(.pr .str (.int .u8)), 1, (.int .i64), fun x => stringslite_IndexByte x.1 x.2⟩
theorem ok_stringslite_IndexByte : FnOK Try.prog 267 (fe_stringslite_IndexByte) := by
  refine closed_ok (tab := [(278, fe_bytealg_IndexByteString)]) (l := []) ti_ok ti_ht mix (List.forall_mem_cons.2 ⟨ok_bytealg_IndexByteString, (List.forall_mem_nil _)⟩) (List.forall_mem_nil _) ⟨⟨Try.f267, (codeOf Try.f267), [.tmp 4], (LOn Int), by kernel_rfl, by kernel_rfl, by kernel_rfl, by kernel_rfl, rfl, by decide, ⟨by kernel_rfl, ?_, ?_⟩, ?_⟩⟩
  · exact no_loops (by kernel_rfl)
  · exact no_cuts (by kernel_rfl)
  · rintro ⟨s0, c1⟩
    kernel_rfl
/- 248 internal/stringslite.Index -/
def stringslite_Index (s0 : List UInt8) (substr1 : List UInt8) : Option Int := (if (decide ((List.length substr1 : Int) = 0)) = true then some 0 else (if (decide (substr1 = s0)) = true then some 0 else (if (decide ((List.length substr1 : Int) = 1)) = true then (substr1[0]?).bind fun b_1 => (stringslite_IndexByte s0 (z_u8 b_1)).bind fun r_2 => some r_2 else (if (decide ((List.length s0 : Int) ≤ (List.length substr1 : Int))) = true then some (-1) else none))))
def fe_stringslite_Index : FE := ⟨(.pr .str .str), 1, (.int .i64), fun x => stringslite_Index x.1 x.2⟩
theorem ok_stringslite_Index : FnOK Try.prog 248 (fe_stringslite_Index) := by
  refine closed_ok (tab := [(267, fe_stringslite_IndexByte)]) (l := []) ti_ok ti_ht mix (List.forall_mem_cons.2 ⟨ok_stringslite_IndexByte, (List.forall_mem_nil _)⟩) (List.forall_mem_nil _) ⟨⟨Try.f248, (codeOf Try.f248), [.tmp 4], (LOn Int), by kernel_rfl, by kernel_rfl, by kernel_rfl, by kernel_rfl, rfl, by decide, ⟨by kernel_rfl, ?_, ?_⟩, ?_⟩⟩
  · exact no_loops (by kernel_rfl)
  · exact no_cuts (by kernel_rfl)
  · rintro ⟨s0, substr1⟩
    kernel_rfl
/- 199 strings.Index -/
def strings_Index (s0 : List UInt8) (substr1 : List UInt8) : Option Int := (stringslite_Index s0 substr1).bind fun r_1 => some r_1
def fe_strings_Index : FE := ⟨(.pr .str .str), 1, (.int .i64), fun x => strings_Index x.1 x.2⟩
theorem ok_strings_Index : FnOK Try.prog 199 (fe_strings_Index) := by
  refine closed_ok (tab := [(248, fe_stringslite_Index)]) (l := []) ti_ok ti_ht mix (List.forall_mem_cons.2 ⟨ok_stringslite_Index, (List.forall_mem_nil _)⟩) (List.forall_mem_nil _) ⟨⟨Try.f199, (codeOf Try.f199), [.tmp 4], (LOn Int), by kernel_rfl, by kernel_rfl, by kernel_rfl, by kernel_rfl, rfl, by decide, ⟨by kernel_rfl, ?_, ?_⟩, ?_⟩⟩
  · exact no_loops (by kernel_rfl)
  · exact no_cuts (by kernel_rfl)
  · rintro ⟨s0, substr1⟩
    kernel_rfl
/- 134 strings.Contains -/
def strings_Contains (s0 : List UInt8) (substr1 : List UInt8) : Option Bool := (strings_Index s0 substr1).bind fun r_1 => some (decide (0 ≤ r_1))
def fe_strings_Contains : FE := ⟨(.pr .str .str), 1, .bool, fun x => strings_Contains x.1 x.2⟩
theorem ok_strings_Contains : FnOK Try.prog 134 (fe_strings_Contains) := by
  refine closed_ok (tab := [(199, fe_strings_Index)]) (l := []) ti_ok ti_ht mix (List.forall_mem_cons.2 ⟨ok_strings_Index, (List.forall_mem_nil _)⟩) (List.forall_mem_nil _) ⟨⟨Try.f134, (codeOf Try.f134), [.tmp 4], (LOn Bool), by kernel_rfl, by kernel_rfl, by kernel_rfl, by kernel_rfl, rfl, by decide, ⟨by kernel_rfl, ?_, ?_⟩, ?_⟩⟩
  · exact no_loops (by kernel_rfl)
  · exact no_cuts (by kernel_rfl)
  · rintro ⟨s0, substr1⟩
    kernel_rfl
/- 65 loop.example/g01005/impl.ValidBlock -/
def impl_ValidBlock (k : Nat) (b0 : List UInt8 × List UInt8 × List UInt8) : Option Bool := (impl_IsName k b0.1).bind fun r_1 => (if r_1 = true then (impl_IsName k b0.2.1).bind fun r_2 => (if r_2 = true then (if (decide ((List.length b0.2.2 : Int) ≤ 400)) = true then (strings_Contains b0.2.2 [10]).bind fun r_3 => some (!r_3) else some false) else some false) else some false)
def fe_impl_ValidBlock (k : Nat) : FE := ⟨(.st (.pr .str (.pr .str .str))), 1, .bool, fun x => impl_ValidBlock k x⟩
theorem ok_impl_ValidBlock (k : Nat) : FnOK Try.prog 65 (fe_impl_ValidBlock k) := by
  refine closed_ok (tab := [(133, fe_impl_IsName k), (134, fe_strings_Contains)]) (l := []) ti_ok ti_ht mix (List.forall_mem_cons.2 ⟨ok_impl_IsName k, (List.forall_mem_cons.2 ⟨ok_strings_Contains, (List.forall_mem_nil _)⟩)⟩) (List.forall_mem_nil _) ⟨⟨Try.f65, (codeOf Try.f65), [.tmp 2], (LOn Bool), by kernel_rfl, by kernel_rfl, by kernel_rfl, by kernel_rfl, rfl, by decide, ⟨by kernel_rfl, ?_, ?_⟩, ?_⟩⟩
  · exact no_loops (by kernel_rfl)
  · exact no_cuts (by kernel_rfl)
  · rintro b0
    kernel_rfl
/- 247 cmp.isNaN[string] -/
def cmp_isNaN_string (x0 : List UInt8) : Option Bool := some (!(decide (x0 = x0)))
def fe_cmp_isNaN_string : FE := ⟨.str, 1, .bool, fun x => cmp_isNaN_string x⟩
theorem ok_cmp_isNaN_string : FnOK Try.prog 247 (fe_cmp_isNaN_string) := by
  refine closed_ok (tab := []) (l := []) ti_ok ti_ht mix (List.forall_mem_nil _) (List.forall_mem_nil _) ⟨⟨Try.f247, (codeOf Try.f247), [.tmp 2], (LOn Bool), by kernel_rfl, by kernel_rfl, by kernel_rfl, by kernel_rfl, rfl, by decide, ⟨by kernel_rfl, ?_, ?_⟩, ?_⟩⟩
  · exact no_loops (by kernel_rfl)
  · exact no_cuts (by kernel_rfl)
  · rintro x0
    kernel_rfl
/- 196 cmp.Compare[string] -/
def cmp_Compare_string (x0 : List UInt8) (y1 : List UInt8) : Option Int := (cmp_isNaN_string x0).bind fun r_1 => (cmp_isNaN_string y1).bind fun r_2 => (if r_1 = true then (if r_2 = true then some 0 else some (-1)) else (if r_2 = true then some 1 else (if (Op.bytesLess x0 y1) = true then some (-1) else (if (!(Op.bytesLess x0 y1 || decide (x0 = y1))) = true then some 1 else some 0))))
def fe_cmp_Compare_string : FE := ⟨(.pr .str .str), 1, (.int .i64), fun x => cmp_Compare_string x.1 x.2⟩
theorem ok_cmp_Compare_string : FnOK Try.prog 196 (fe_cmp_Compare_string) := by
  refine closed_ok (tab := [(247, fe_cmp_isNaN_string)]) (l := []) ti_ok ti_ht mix (List.forall_mem_cons.2 ⟨ok_cmp_isNaN_string, (List.forall_mem_nil _)⟩) (List.forall_mem_nil _) ⟨⟨Try.f196, (codeOf Try.f196), [.tmp 4], (LOn Int), by kernel_rfl, by kernel_rfl, by kernel_rfl, by kernel_rfl, rfl, by decide, ⟨by kernel_rfl, ?_, ?_⟩, ?_⟩⟩
  · exact no_loops (by kernel_rfl)
  · exact no_cuts (by kernel_rfl)
  · rintro ⟨x0, y1⟩
    kernel_rfl
/- 195 cmp.Or[int] -/
def cmp_Or_int_l0 (k : Nat) : Nat → Int → (List Int) → Int → Int → (Int → Option Int) → Option Int
  | 0, _, _, _, _, _ => none
  | n + 1, zero3, x6, x7, x8, e_0 => (if (decide (x8 < x7)) = true then (if 0 ≤ x8 then (x6[x8.toNat]?).bind fun y_1 => (if (!(decide (y_1 = zero3))) = true then some y_1 else cmp_Or_int_l0 k n zero3 x6 x7 (w_i64 (x8 + 1)) e_0) else none) else e_0 zero3)
def cmp_Or_int (k : Nat) (vals0 : List Int) : Option Int := cmp_Or_int_l0 k k 0 vals0 (List.length vals0 : Int) 0 (fun zero_2 => some zero_2)
def cmp_Or_int_l0_h : Head := ⟨[(3, (.val (.int .i64))), (6, (.val (.sl 3 (.int .i64)))), (7, (.val (.int .i64))), (8, (.val (.int .i64)))], [], []⟩
def cmp_Or_int_l0_x0 : Head := ⟨[(3, (.val (.int .i64)))], [], []⟩
def cmp_Or_int_l0_F (k n : Nat) (x : cmp_Or_int_l0_h.T) (kx : Nat → St → Option Int) : Option Int := cmp_Or_int_l0 k n x.1.1 x.1.2.1 x.1.2.2.1 x.1.2.2.2.1 (fun (zero3 : Int) => kx 0 (cmp_Or_int_l0_x0.fill ((zero3, ()), (), ())))
def cmp_Or_int_O (k : Nat) : Oracles Int := ⟨fun n => bif Nat.beq n 3 then some (fun σ kx => cmp_Or_int_l0_h.get σ fun x => cmp_Or_int_l0_F k k x kx) else none, fun _ => none⟩
def fe_cmp_Or_int (k : Nat) : FE := ⟨(.sl 3 (.int .i64)), 1, (.int .i64), fun x => cmp_Or_int k x⟩
theorem cmp_Or_int_l0_ok (k : Nat) : LoopOK (mkEnv ti [] (lk []) pins0 pinB0) (cmp_Or_int_O k) (rdC (mkEnv ti [] (lk []) pins0 pinB0) [.tmp 2] (.int .i64)) ((loopsOf (codeOf Try.f195)).getD 0 .skip) (fun σ kx => cmp_Or_int_l0_h.get σ fun x => cmp_Or_int_l0_F k k x kx) := by
  refine ⟨cmp_Or_int_l0_h, [(0, cmp_Or_int_l0_x0)], fun n x kx => cmp_Or_int_l0_F k n x kx, k, by kernel_rfl, by kernel_rfl, fun x kx => by kernel_rfl, ?_, fun σ kx => rfl⟩
  rintro n ⟨⟨zero3, x6, x7, x8, ⟨⟩⟩, ⟨⟩, ⟨⟩⟩ kx
  kernel_rfl
theorem ok_cmp_Or_int (k : Nat) : FnOK Try.prog 195 (fe_cmp_Or_int k) := by
  refine closed_ok (tab := []) (l := []) ti_ok ti_ht mix (List.forall_mem_nil _) (List.forall_mem_nil _) ⟨⟨Try.f195, (codeOf Try.f195), [.tmp 2], (cmp_Or_int_O k), by kernel_rfl, by kernel_rfl, by kernel_rfl, by kernel_rfl, rfl, by decide, ⟨by kernel_rfl, ?_, ?_⟩, ?_⟩⟩
  · refine loops_of (n := 1) (by kernel_rfl) fun i hi => ?_
    match i, hi with
    | 0, _ => exact loop_of (by kernel_rfl) (cmp_Or_int_l0_ok k)
    | n + 1, hi => omega
  · exact no_cuts (by kernel_rfl)
  · rintro vals0
    kernel_rfl
/- 130 loop.example/g01005/impl.compareBlocks -/
def impl_compareBlocks (k : Nat) (a0 : List UInt8 × List UInt8 × List UInt8) (b1 : List UInt8 × List UInt8 × List UInt8) : Option Int := (cmp_Compare_string a0.1 b1.1).bind fun r_1 => (cmp_Compare_string a0.2.1 b1.2.1).bind fun r_2 => (cmp_Or_int k [r_1, r_2]).bind fun r_3 => some r_3
def fe_impl_compareBlocks (k : Nat) : FE := ⟨(.pr (.st (.pr .str (.pr .str .str))) (.st (.pr .str (.pr .str .str)))), 1, (.int .i64), fun x => impl_compareBlocks k x.1 x.2⟩
theorem ok_impl_compareBlocks (k : Nat) : FnOK Try.prog 130 (fe_impl_compareBlocks k) := by
  refine closed_ok (tab := [(196, fe_cmp_Compare_string), (195, fe_cmp_Or_int k)]) (l := []) ti_ok ti_ht mix (List.forall_mem_cons.2 ⟨ok_cmp_Compare_string, (List.forall_mem_cons.2 ⟨ok_cmp_Or_int k, (List.forall_mem_nil _)⟩)⟩) (List.forall_mem_nil _) ⟨⟨Try.f130, (codeOf Try.f130), [.tmp 4], (LOn Int), by kernel_rfl, by kernel_rfl, by kernel_rfl, by kernel_rfl, rfl, by decide, ⟨by kernel_rfl, ?_, ?_⟩, ?_⟩⟩
  · exact no_loops (by kernel_rfl)
  · exact no_cuts (by kernel_rfl)
  · rintro ⟨a0, b1⟩
    kernel_rfl
end
end Go.Proofs.Ytackggcodaolaaa.Ev
