/- Functions of the program, as plain ones. No conditions. -/
import Derived.Test.YtackggcodaolaaaG2
import Derived.KernelRfl
set_option linter.unusedVariables false
set_option maxRecDepth 100000
namespace Go.Proofs.Ytackggcodaolaaa.Ev
open Go.RowKit
noncomputable section
/- 163 loop.example/g01005/spec.l28Words -/
def spec_l28Words_l0 (k : Nat) : Nat → (List (List UInt8)) → (List (List UInt8)) → Int → (Option Bool) → Option Bool
  | 0, _, _, _, _ => none
  | n + 1, a0, b1, i5, e_0 => (if (decide (i5 < (List.length a0 : Int))) = true then (if 0 ≤ i5 then (a0[i5.toNat]?).bind fun y_1 => (if 0 ≤ i5 then (b1[i5.toNat]?).bind fun y_2 => (if (!(decide (y_1 = y_2))) = true then some false else spec_l28Words_l0 k n a0 b1 (w_i64 (i5 + 1)) e_0) else none) else none) else e_0)
def spec_l28Words (k : Nat) (a0 : List (List UInt8)) (b1 : List (List UInt8)) : Option Bool := (if (!(decide ((List.length a0 : Int) = (List.length b1 : Int)))) = true then some false else spec_l28Words_l0 k k a0 b1 0 (some true))
def spec_l28Words_l0_h : Head := ⟨[(0, (.val (.sl 9 .str))), (1, (.val (.sl 9 .str))), (5, (.val (.int .i64)))], [], []⟩
def spec_l28Words_l0_x0 : Head := ⟨[], [], []⟩
def spec_l28Words_l0_F (k n : Nat) (x : spec_l28Words_l0_h.T) (kx : Nat → St → Option Bool) : Option Bool := spec_l28Words_l0 k n x.1.1 x.1.2.1 x.1.2.2.1 (kx 0 (spec_l28Words_l0_x0.fill ((), (), ())))
def spec_l28Words_O (k : Nat) : Oracles Bool := ⟨fun n => bif Nat.beq n 4 then some (fun σ kx => spec_l28Words_l0_h.get σ fun x => spec_l28Words_l0_F k k x kx) else none, fun _ => none⟩
def fe_spec_l28Words (k : Nat) : FE := ⟨(.pr (.sl 9 .str) (.sl 9 .str)), 1, .bool, fun x => spec_l28Words k x.1 x.2⟩
theorem spec_l28Words_l0_ok (k : Nat) : LoopOK (mkEnv ti [] (lk []) pins0 pinB0) (spec_l28Words_O k) (rdC (mkEnv ti [] (lk []) pins0 pinB0) [.tmp 4] .bool) ((loopsOf (codeOf Try.f163)).getD 0 .skip) (fun σ kx => spec_l28Words_l0_h.get σ fun x => spec_l28Words_l0_F k k x kx) := by
  refine ⟨spec_l28Words_l0_h, [(0, spec_l28Words_l0_x0)], fun n x kx => spec_l28Words_l0_F k n x kx, k, by kernel_rfl, by kernel_rfl, fun x kx => by kernel_rfl, ?_, fun σ kx => rfl⟩
  rintro n ⟨⟨a0, b1, i5, ⟨⟩⟩, ⟨⟩, ⟨⟩⟩ kx
  kernel_rfl
theorem ok_spec_l28Words (k : Nat) : FnOK Try.prog 163 (fe_spec_l28Words k) := by
  refine closed_ok (tab := []) (l := []) ti_ok ti_ht mix (List.forall_mem_nil _) (List.forall_mem_nil _) ⟨⟨Try.f163, (codeOf Try.f163), [.tmp 4], (spec_l28Words_O k), by kernel_rfl, by kernel_rfl, by kernel_rfl, by kernel_rfl, rfl, by decide, ⟨by kernel_rfl, ?_, ?_⟩, ?_⟩⟩
  · refine loops_of (n := 1) (by kernel_rfl) fun i hi => ?_
    match i, hi with
    | 0, _ => exact loop_of (by kernel_rfl) (spec_l28Words_l0_ok k)
    | n + 1, hi => omega
  · exact no_cuts (by kernel_rfl)
  · rintro ⟨a0, b1⟩
    kernel_rfl
/- 88 loop.example/g01005/spec.SameItems -/
def spec_SameItems_l0 (k : Nat) : Nat → (List (List UInt8 × List (List UInt8) × Int × Int)) → (List (List UInt8 × List (List UInt8) × Int × Int)) → Int → (Option Bool) → Option Bool
  | 0, _, _, _, _ => none
  | n + 1, a0, b1, i5, e_0 => (if (decide (i5 < (List.length a0 : Int))) = true then (if 0 ≤ i5 then (a0[i5.toNat]?).bind fun y_1 => (if 0 ≤ i5 then (b1[i5.toNat]?).bind fun y_2 => (if (!(decide (y_1.1 = y_2.1))) = true then some false else (if 0 ≤ i5 then (a0[i5.toNat]?).bind fun y_3 => (if 0 ≤ i5 then (b1[i5.toNat]?).bind fun y_4 => (if (!(decide (y_3.2.2.1 = y_4.2.2.1))) = true then some false else (if 0 ≤ i5 then (a0[i5.toNat]?).bind fun y_5 => (if 0 ≤ i5 then (b1[i5.toNat]?).bind fun y_6 => (if (!(decide (y_5.2.2.2 = y_6.2.2.2))) = true then some false else (if 0 ≤ i5 then (a0[i5.toNat]?).bind fun y_7 => (if 0 ≤ i5 then (b1[i5.toNat]?).bind fun y_8 => (spec_l28Words k y_7.2.1 y_8.2.1).bind fun r_9 => (if (!r_9) = true then some false else spec_SameItems_l0 k n a0 b1 (w_i64 (i5 + 1)) e_0) else none) else none)) else none) else none)) else none) else none)) else none) else none) else e_0)
def spec_SameItems (k : Nat) (a0 : List (List UInt8 × List (List UInt8) × Int × Int)) (b1 : List (List UInt8 × List (List UInt8) × Int × Int)) : Option Bool := (if (!(decide ((List.length a0 : Int) = (List.length b1 : Int)))) = true then some false else spec_SameItems_l0 k k a0 b1 0 (some true))
def spec_SameItems_l0_h : Head := ⟨[(0, (.val (.sl 156 (.st (.pr .str (.pr (.sl 9 .str) (.pr (.int .i64) (.int .i64)))))))), (1, (.val (.sl 156 (.st (.pr .str (.pr (.sl 9 .str) (.pr (.int .i64) (.int .i64)))))))), (5, (.val (.int .i64)))], [], []⟩
def spec_SameItems_l0_x0 : Head := ⟨[], [], []⟩
def spec_SameItems_l0_F (k n : Nat) (x : spec_SameItems_l0_h.T) (kx : Nat → St → Option Bool) : Option Bool := spec_SameItems_l0 k n x.1.1 x.1.2.1 x.1.2.2.1 (kx 0 (spec_SameItems_l0_x0.fill ((), (), ())))
def spec_SameItems_O (k : Nat) : Oracles Bool := ⟨fun n => bif Nat.beq n 4 then some (fun σ kx => spec_SameItems_l0_h.get σ fun x => spec_SameItems_l0_F k k x kx) else none, fun _ => none⟩
def fe_spec_SameItems (k : Nat) : FE := ⟨(.pr (.sl 156 (.st (.pr .str (.pr (.sl 9 .str) (.pr (.int .i64) (.int .i64)))))) (.sl 156 (.st (.pr .str (.pr (.sl 9 .str) (.pr (.int .i64) (.int .i64))))))), 1, .bool, fun x => spec_SameItems k x.1 x.2⟩
theorem spec_SameItems_l0_ok (k : Nat) : LoopOK (mkEnv ti [(163, fe_spec_l28Words k)] (lk []) pins0 pinB0) (spec_SameItems_O k) (rdC (mkEnv ti [(163, fe_spec_l28Words k)] (lk []) pins0 pinB0) [.tmp 4] .bool) ((loopsOf (codeOf Try.f88)).getD 0 .skip) (fun σ kx => spec_SameItems_l0_h.get σ fun x => spec_SameItems_l0_F k k x kx) := by
  refine ⟨spec_SameItems_l0_h, [(0, spec_SameItems_l0_x0)], fun n x kx => spec_SameItems_l0_F k n x kx, k, by kernel_rfl, by kernel_rfl, fun x kx => by kernel_rfl, ?_, fun σ kx => rfl⟩
  rintro n ⟨⟨a0, b1, i5, ⟨⟩⟩, ⟨⟩, ⟨⟩⟩ kx
  kernel_rfl
theorem ok_spec_SameItems (k : Nat) : FnOK Try.prog 88 (fe_spec_SameItems k) := by
  refine closed_ok (tab := [(163, fe_spec_l28Words k)]) (l := []) ti_ok ti_ht mix (List.forall_mem_cons.2 ⟨ok_spec_l28Words k, (List.forall_mem_nil _)⟩) (List.forall_mem_nil _) ⟨⟨Try.f88, (codeOf Try.f88), [.tmp 4], (spec_SameItems_O k), by kernel_rfl, by kernel_rfl, by kernel_rfl, by kernel_rfl, rfl, by decide, ⟨by kernel_rfl, ?_, ?_⟩, ?_⟩⟩
  · refine loops_of (n := 1) (by kernel_rfl) fun i hi => ?_
    match i, hi with
    | 0, _ => exact loop_of (by kernel_rfl) (spec_SameItems_l0_ok k)
    | n + 1, hi => omega
  · exact no_cuts (by kernel_rfl)
  · rintro ⟨a0, b1⟩
    kernel_rfl
/- 89 loop.example/g01005/spec.SameComplex -/
def spec_SameComplex (k : Nat) (a0 : List (List Int)) (b1 : List (List Int)) : Option Bool := (spec_l05Same k a0 b1).bind fun r_1 => some r_1
def fe_spec_SameComplex (k : Nat) : FE := ⟨(.pr (.st (.sl 54 (.sl 2 (.int .i64)))) (.st (.sl 54 (.sl 2 (.int .i64))))), 1, .bool, fun x => spec_SameComplex k x.1 x.2⟩
theorem ok_spec_SameComplex (k : Nat) : FnOK Try.prog 89 (fe_spec_SameComplex k) := by
  refine closed_ok (tab := [(164, fe_spec_l05Same k)]) (l := []) ti_ok ti_ht mix (List.forall_mem_cons.2 ⟨ok_spec_l05Same k, (List.forall_mem_nil _)⟩) (List.forall_mem_nil _) ⟨⟨Try.f89, (codeOf Try.f89), [.tmp 4], (LOn Bool), by kernel_rfl, by kernel_rfl, by kernel_rfl, by kernel_rfl, rfl, by decide, ⟨by kernel_rfl, ?_, ?_⟩, ?_⟩⟩
  · exact no_loops (by kernel_rfl)
  · exact no_cuts (by kernel_rfl)
  · rintro ⟨a0, b1⟩
    kernel_rfl
/- 165 loop.example/g01005/spec.l04SameRows -/
def spec_l04SameRows_l0 (k : Nat) : Nat → (List (List Int)) → (List (List Int)) → Int → (Option Bool) → Option Bool
  | 0, _, _, _, _ => none
  | n + 1, a0, b1, i5, e_0 => (if (decide (i5 < (List.length a0 : Int))) = true then (if 0 ≤ i5 then (a0[i5.toNat]?).bind fun y_1 => (if 0 ≤ i5 then (b1[i5.toNat]?).bind fun y_2 => (spec_l00Same k y_1 y_2).bind fun r_3 => (if (!r_3) = true then some false else spec_l04SameRows_l0 k n a0 b1 (w_i64 (i5 + 1)) e_0) else none) else none) else e_0)
def spec_l04SameRows (k : Nat) (a0 : List (List Int)) (b1 : List (List Int)) : Option Bool := (if (!(decide ((List.length a0 : Int) = (List.length b1 : Int)))) = true then some false else spec_l04SameRows_l0 k k a0 b1 0 (some true))
def spec_l04SameRows_l0_h : Head := ⟨[(0, (.val (.sl 54 (.sl 2 (.int .i64))))), (1, (.val (.sl 54 (.sl 2 (.int .i64))))), (5, (.val (.int .i64)))], [], []⟩
def spec_l04SameRows_l0_x0 : Head := ⟨[], [], []⟩
def spec_l04SameRows_l0_F (k n : Nat) (x : spec_l04SameRows_l0_h.T) (kx : Nat → St → Option Bool) : Option Bool := spec_l04SameRows_l0 k n x.1.1 x.1.2.1 x.1.2.2.1 (kx 0 (spec_l04SameRows_l0_x0.fill ((), (), ())))
def spec_l04SameRows_O (k : Nat) : Oracles Bool := ⟨fun n => bif Nat.beq n 4 then some (fun σ kx => spec_l04SameRows_l0_h.get σ fun x => spec_l04SameRows_l0_F k k x kx) else none, fun _ => none⟩
def fe_spec_l04SameRows (k : Nat) : FE := ⟨(.pr (.sl 54 (.sl 2 (.int .i64))) (.sl 54 (.sl 2 (.int .i64)))), 1, .bool, fun x => spec_l04SameRows k x.1 x.2⟩
theorem spec_l04SameRows_l0_ok (k : Nat) : LoopOK (mkEnv ti [(85, fe_spec_l00Same k)] (lk []) pins0 pinB0) (spec_l04SameRows_O k) (rdC (mkEnv ti [(85, fe_spec_l00Same k)] (lk []) pins0 pinB0) [.tmp 4] .bool) ((loopsOf (codeOf Try.f165)).getD 0 .skip) (fun σ kx => spec_l04SameRows_l0_h.get σ fun x => spec_l04SameRows_l0_F k k x kx) := by
  refine ⟨spec_l04SameRows_l0_h, [(0, spec_l04SameRows_l0_x0)], fun n x kx => spec_l04SameRows_l0_F k n x kx, k, by kernel_rfl, by kernel_rfl, fun x kx => by kernel_rfl, ?_, fun σ kx => rfl⟩
  rintro n ⟨⟨a0, b1, i5, ⟨⟩⟩, ⟨⟩, ⟨⟩⟩ kx
  kernel_rfl
theorem ok_spec_l04SameRows (k : Nat) : FnOK Try.prog 165 (fe_spec_l04SameRows k) := by
  refine closed_ok (tab := [(85, fe_spec_l00Same k)]) (l := []) ti_ok ti_ht mix (List.forall_mem_cons.2 ⟨ok_spec_l00Same k, (List.forall_mem_nil _)⟩) (List.forall_mem_nil _) ⟨⟨Try.f165, (codeOf Try.f165), [.tmp 4], (spec_l04SameRows_O k), by kernel_rfl, by kernel_rfl, by kernel_rfl, by kernel_rfl, rfl, by decide, ⟨by kernel_rfl, ?_, ?_⟩, ?_⟩⟩
  · refine loops_of (n := 1) (by kernel_rfl) fun i hi => ?_
    match i, hi with
    | 0, _ => exact loop_of (by kernel_rfl) (spec_l04SameRows_l0_ok k)
    | n + 1, hi => omega
  · exact no_cuts (by kernel_rfl)
  · rintro ⟨a0, b1⟩
    kernel_rfl
/- 90 loop.example/g01005/spec.l20Same -/
def spec_l20Same (k : Nat) (a0 : List Int × List (List Int)) (b1 : List Int × List (List Int)) : Option Bool := (spec_l00Same k a0.1 b1.1).bind fun r_1 => (if r_1 = true then (spec_l04SameRows k a0.2 b1.2).bind fun r_2 => some r_2 else some false)
def fe_spec_l20Same (k : Nat) : FE := ⟨(.pr (.ptr (.st (.pr (.sl 2 (.int .i64)) (.sl 54 (.sl 2 (.int .i64)))))) (.ptr (.st (.pr (.sl 2 (.int .i64)) (.sl 54 (.sl 2 (.int .i64))))))), 1, .bool, fun x => spec_l20Same k x.1 x.2⟩
theorem ok_spec_l20Same (k : Nat) : FnOK Try.prog 90 (fe_spec_l20Same k) := by
  refine closed_ok (tab := [(85, fe_spec_l00Same k), (165, fe_spec_l04SameRows k)]) (l := []) ti_ok ti_ht mix (List.forall_mem_cons.2 ⟨ok_spec_l00Same k, (List.forall_mem_cons.2 ⟨ok_spec_l04SameRows k, (List.forall_mem_nil _)⟩)⟩) (List.forall_mem_nil _) ⟨⟨Try.f90, (codeOf Try.f90), [.tmp 4], (LOn Bool), by kernel_rfl, by kernel_rfl, by kernel_rfl, by kernel_rfl, rfl, by decide, ⟨by kernel_rfl, ?_, ?_⟩, ?_⟩⟩
  · exact no_loops (by kernel_rfl)
  · exact no_cuts (by kernel_rfl)
  · rintro ⟨a0, b1⟩
    kernel_rfl
/- 35 loop.example/g01005/spec.SameDesk -/
def spec_SameDesk_l0 (k : Nat) : Nat → Int → ((List (List Int) × Int × List Int × List (Int × Int × Int × List Int)) × List Int × (Int × List (Int × Int × Int)) × List Int × (Int × Int × Int × List Int) × (List (List Int × List (List Int))) × (List (List Int) × List Int) × List (List UInt8 × List (List UInt8) × Int × Int)) → ((List (List Int) × Int × List Int × List (Int × Int × Int × List Int)) × List Int × (Int × List (Int × Int × Int)) × List Int × (Int × Int × Int × List Int) × (List (List Int × List (List Int))) × (List (List Int) × List Int) × List (List UInt8 × List (List UInt8) × Int × Int)) → (Option Bool) → Option Bool
  | 0, _, _, _, _ => none
  | n + 1, i5, v_2, v_3, e_0 => (if (decide (i5 < (List.length v_2.2.2.2.2.2.1 : Int))) = true then (if 0 ≤ i5 then (v_2.2.2.2.2.2.1[i5.toNat]?).bind fun y_9 => (if 0 ≤ i5 then (v_3.2.2.2.2.2.1[i5.toNat]?).bind fun y_10 => (spec_l20Same k y_9 y_10).bind fun r_11 => (if (!r_11) = true then some false else spec_SameDesk_l0 k n (w_i64 (i5 + 1)) v_2 v_3 e_0) else none) else none) else e_0)
def spec_SameDesk (k : Nat) (a0 : (List (List Int) × Int × List Int × List (Int × Int × Int × List Int)) × List Int × (Int × List (Int × Int × Int)) × List Int × (Int × Int × Int × List Int) × (List (List Int × List (List Int))) × (List (List Int) × List Int) × List (List UInt8 × List (List UInt8) × Int × Int)) (b1 : (List (List Int) × Int × List Int × List (Int × Int × Int × List Int)) × List Int × (Int × List (Int × Int × Int)) × List Int × (Int × Int × Int × List Int) × (List (List Int × List (List Int))) × (List (List Int) × List Int) × List (List UInt8 × List (List UInt8) × Int × Int)) : Option Bool := (spec_SameSheaf k a0.1 b1.1).bind fun r_1 => (if (!r_1) = true then some false else (spec_l00Same k a0.2.1 b1.2.1).bind fun r_2 => (if (!r_2) = true then some false else (spec_SameGraph k a0.2.2.1 b1.2.2.1).bind fun r_3 => (if (!r_3) = true then some false else (spec_l00Same k a0.2.2.2.1 b1.2.2.2.1).bind fun r_4 => (if (!r_4) = true then some false else (spec_SameMatrix k a0.2.2.2.2.1 b1.2.2.2.2.1).bind fun r_5 => (if (!r_5) = true then some false else (spec_SameItems k a0.2.2.2.2.2.2.2 b1.2.2.2.2.2.2.2).bind fun r_6 => (if (!r_6) = true then some false else (spec_SameComplex k a0.2.2.2.2.2.2.1.1 b1.2.2.2.2.2.2.1.1).bind fun r_7 => (if (!r_7) = true then some false else (spec_l00Same k a0.2.2.2.2.2.2.1.2 b1.2.2.2.2.2.2.1.2).bind fun r_8 => (if (!r_8) = true then some false else (if (!(decide ((List.length a0.2.2.2.2.2.1 : Int) = (List.length b1.2.2.2.2.2.1 : Int)))) = true then some false else spec_SameDesk_l0 k k 0 a0 b1 (some true))))))))))
def spec_SameDesk_l0_h : Head := ⟨[(2, (.bp 2 [] 0)), (3, (.bp 3 [] 0)), (5, (.val (.int .i64)))], [], [(2, 83, (.val (.st (.pr (.st (.pr (.st (.sl 54 (.sl 2 (.int .i64)))) (.pr (.int .i64) (.pr (.sl 2 (.int .i64)) (.sl 77 (.st (.pr (.int .i64) (.pr (.int .i64) (.pr (.int .i64) (.sl 2 (.int .i64))))))))))) (.pr (.sl 2 (.int .i64)) (.pr (.st (.pr (.int .i64) (.sl 204 (.st (.pr (.int .i64) (.pr (.int .i64) (.int .i64))))))) (.pr (.sl 2 (.int .i64)) (.pr (.st (.pr (.int .i64) (.pr (.int .i64) (.pr (.int .i64) (.sl 2 (.int .i64)))))) (.pr (.sl 135 (.st (.pr (.sl 2 (.int .i64)) (.sl 54 (.sl 2 (.int .i64)))))) (.pr (.st (.pr (.st (.sl 54 (.sl 2 (.int .i64)))) (.sl 2 (.int .i64)))) (.sl 156 (.st (.pr .str (.pr (.sl 9 .str) (.pr (.int .i64) (.int .i64)))))))))))))))), (3, 83, (.val (.st (.pr (.st (.pr (.st (.sl 54 (.sl 2 (.int .i64)))) (.pr (.int .i64) (.pr (.sl 2 (.int .i64)) (.sl 77 (.st (.pr (.int .i64) (.pr (.int .i64) (.pr (.int .i64) (.sl 2 (.int .i64))))))))))) (.pr (.sl 2 (.int .i64)) (.pr (.st (.pr (.int .i64) (.sl 204 (.st (.pr (.int .i64) (.pr (.int .i64) (.int .i64))))))) (.pr (.sl 2 (.int .i64)) (.pr (.st (.pr (.int .i64) (.pr (.int .i64) (.pr (.int .i64) (.sl 2 (.int .i64)))))) (.pr (.sl 135 (.st (.pr (.sl 2 (.int .i64)) (.sl 54 (.sl 2 (.int .i64)))))) (.pr (.st (.pr (.st (.sl 54 (.sl 2 (.int .i64)))) (.sl 2 (.int .i64)))) (.sl 156 (.st (.pr .str (.pr (.sl 9 .str) (.pr (.int .i64) (.int .i64))))))))))))))))]⟩
def spec_SameDesk_l0_x0 : Head := ⟨[], [], []⟩
def spec_SameDesk_l0_F (k n : Nat) (x : spec_SameDesk_l0_h.T) (kx : Nat → St → Option Bool) : Option Bool := spec_SameDesk_l0 k n x.1.2.2.1 x.2.2.1 x.2.2.2.1 (kx 0 (spec_SameDesk_l0_x0.fill ((), (), ())))
def spec_SameDesk_O (k : Nat) : Oracles Bool := ⟨fun n => bif Nat.beq n 6 then some (fun σ kx => spec_SameDesk_l0_h.get σ fun x => spec_SameDesk_l0_F k k x kx) else none, fun _ => none⟩
def fe_spec_SameDesk (k : Nat) : FE := ⟨(.pr (.st (.pr (.st (.pr (.st (.sl 54 (.sl 2 (.int .i64)))) (.pr (.int .i64) (.pr (.sl 2 (.int .i64)) (.sl 77 (.st (.pr (.int .i64) (.pr (.int .i64) (.pr (.int .i64) (.sl 2 (.int .i64))))))))))) (.pr (.sl 2 (.int .i64)) (.pr (.st (.pr (.int .i64) (.sl 204 (.st (.pr (.int .i64) (.pr (.int .i64) (.int .i64))))))) (.pr (.sl 2 (.int .i64)) (.pr (.st (.pr (.int .i64) (.pr (.int .i64) (.pr (.int .i64) (.sl 2 (.int .i64)))))) (.pr (.sl 135 (.st (.pr (.sl 2 (.int .i64)) (.sl 54 (.sl 2 (.int .i64)))))) (.pr (.st (.pr (.st (.sl 54 (.sl 2 (.int .i64)))) (.sl 2 (.int .i64)))) (.sl 156 (.st (.pr .str (.pr (.sl 9 .str) (.pr (.int .i64) (.int .i64)))))))))))))) (.st (.pr (.st (.pr (.st (.sl 54 (.sl 2 (.int .i64)))) (.pr (.int .i64) (.pr (.sl 2 (.int .i64)) (.sl 77 (.st (.pr (.int .i64) (.pr (.int .i64) (.pr (.int .i64) (.sl 2 (.int .i64))))))))))) (.pr (.sl 2 (.int .i64)) (.pr (.st (.pr (.int .i64) (.sl 204 (.st (.pr (.int .i64) (.pr (.int .i64) (.int .i64))))))) (.pr (.sl 2 (.int .i64)) (.pr (.st (.pr (.int .i64) (.pr (.int .i64) (.pr (.int .i64) (.sl 2 (.int .i64)))))) (.pr (.sl 135 (.st (.pr (.sl 2 (.int .i64)) (.sl 54 (.sl 2 (.int .i64)))))) (.pr (.st (.pr (.st (.sl 54 (.sl 2 (.int .i64)))) (.sl 2 (.int .i64)))) (.sl 156 (.st (.pr .str (.pr (.sl 9 .str) (.pr (.int .i64) (.int .i64))))))))))))))), 1, .bool, fun x => spec_SameDesk k x.1 x.2⟩
theorem spec_SameDesk_l0_ok (k : Nat) : LoopOK (mkEnv ti [(84, fe_spec_SameSheaf k), (85, fe_spec_l00Same k), (86, fe_spec_SameGraph k), (87, fe_spec_SameMatrix k), (88, fe_spec_SameItems k), (89, fe_spec_SameComplex k), (90, fe_spec_l20Same k)] (lk []) pins0 pinB0) (spec_SameDesk_O k) (rdC (mkEnv ti [(84, fe_spec_SameSheaf k), (85, fe_spec_l00Same k), (86, fe_spec_SameGraph k), (87, fe_spec_SameMatrix k), (88, fe_spec_SameItems k), (89, fe_spec_SameComplex k), (90, fe_spec_l20Same k)] (lk []) pins0 pinB0) [.tmp 4] .bool) ((loopsOf (codeOf Try.f35)).getD 0 .skip) (fun σ kx => spec_SameDesk_l0_h.get σ fun x => spec_SameDesk_l0_F k k x kx) := by
  refine ⟨spec_SameDesk_l0_h, [(0, spec_SameDesk_l0_x0)], fun n x kx => spec_SameDesk_l0_F k n x kx, k, by kernel_rfl, by kernel_rfl, fun x kx => by kernel_rfl, ?_, fun σ kx => rfl⟩
  rintro n ⟨⟨⟨⟩, ⟨⟩, i5, ⟨⟩⟩, ⟨⟩, ⟨v_2, v_3, ⟨⟩⟩⟩ kx
  kernel_rfl
theorem ok_spec_SameDesk (k : Nat) : FnOK Try.prog 35 (fe_spec_SameDesk k) := by
  refine closed_ok (tab := [(84, fe_spec_SameSheaf k), (85, fe_spec_l00Same k), (86, fe_spec_SameGraph k), (87, fe_spec_SameMatrix k), (88, fe_spec_SameItems k), (89, fe_spec_SameComplex k), (90, fe_spec_l20Same k)]) (l := []) ti_ok ti_ht mix (List.forall_mem_cons.2 ⟨ok_spec_SameSheaf k, (List.forall_mem_cons.2 ⟨ok_spec_l00Same k, (List.forall_mem_cons.2 ⟨ok_spec_SameGraph k, (List.forall_mem_cons.2 ⟨ok_spec_SameMatrix k, (List.forall_mem_cons.2 ⟨ok_spec_SameItems k, (List.forall_mem_cons.2 ⟨ok_spec_SameComplex k, (List.forall_mem_cons.2 ⟨ok_spec_l20Same k, (List.forall_mem_nil _)⟩)⟩)⟩)⟩)⟩)⟩)⟩) (List.forall_mem_nil _) ⟨⟨Try.f35, (codeOf Try.f35), [.tmp 4], (spec_SameDesk_O k), by kernel_rfl, by kernel_rfl, by kernel_rfl, by kernel_rfl, rfl, by decide, ⟨by kernel_rfl, ?_, ?_⟩, ?_⟩⟩
  · refine loops_of (n := 1) (by kernel_rfl) fun i hi => ?_
    match i, hi with
    | 0, _ => exact loop_of (by kernel_rfl) (spec_SameDesk_l0_ok k)
    | n + 1, hi => omega
  · exact no_cuts (by kernel_rfl)
  · rintro ⟨a0, b1⟩
    kernel_rfl
/- 98 slices.Equal[[]int64,int64] -/
def slices_Equal_int64_l0 (k : Nat) : Nat → (List Int) → (List Int) → Int → Int → (Option Bool) → Option Bool
  | 0, _, _, _, _, _ => none
  | n + 1, s10, s21, x12, x13, e_0 => (if (decide (x13 < x12)) = true then (if 0 ≤ x13 then (s10[x13.toNat]?).bind fun y_1 => (if 0 ≤ x13 then (s21[x13.toNat]?).bind fun y_2 => (if (!(decide (y_1 = y_2))) = true then some false else slices_Equal_int64_l0 k n s10 s21 x12 (w_i64 (x13 + 1)) e_0) else none) else none) else e_0)
def slices_Equal_int64 (k : Nat) (s10 : List Int) (s21 : List Int) : Option Bool := (if (!(decide ((List.length s10 : Int) = (List.length s21 : Int)))) = true then some false else slices_Equal_int64_l0 k k s10 s21 (List.length s10 : Int) 0 (some true))
def slices_Equal_int64_l0_h : Head := ⟨[(0, (.val (.sl 2 (.int .i64)))), (1, (.val (.sl 2 (.int .i64)))), (12, (.val (.int .i64))), (13, (.val (.int .i64)))], [], []⟩
def slices_Equal_int64_l0_x0 : Head := ⟨[], [], []⟩
def slices_Equal_int64_l0_F (k n : Nat) (x : slices_Equal_int64_l0_h.T) (kx : Nat → St → Option Bool) : Option Bool := slices_Equal_int64_l0 k n x.1.1 x.1.2.1 x.1.2.2.1 x.1.2.2.2.1 (kx 0 (slices_Equal_int64_l0_x0.fill ((), (), ())))
def slices_Equal_int64_O (k : Nat) : Oracles Bool := ⟨fun n => bif Nat.beq n 4 then some (fun σ kx => slices_Equal_int64_l0_h.get σ fun x => slices_Equal_int64_l0_F k k x kx) else none, fun _ => none⟩
def fe_slices_Equal_int64 (k : Nat) : FE := ⟨(.pr (.sl 2 (.int .i64)) (.sl 2 (.int .i64))), 1, .bool, fun x => slices_Equal_int64 k x.1 x.2⟩
theorem slices_Equal_int64_l0_ok (k : Nat) : LoopOK (mkEnv ti [] (lk []) pins0 pinB0) (slices_Equal_int64_O k) (rdC (mkEnv ti [] (lk []) pins0 pinB0) [.tmp 4] .bool) ((loopsOf (codeOf Try.f98)).getD 0 .skip) (fun σ kx => slices_Equal_int64_l0_h.get σ fun x => slices_Equal_int64_l0_F k k x kx) := by
  refine ⟨slices_Equal_int64_l0_h, [(0, slices_Equal_int64_l0_x0)], fun n x kx => slices_Equal_int64_l0_F k n x kx, k, by kernel_rfl, by kernel_rfl, fun x kx => by kernel_rfl, ?_, fun σ kx => rfl⟩
  rintro n ⟨⟨s10, s21, x12, x13, ⟨⟩⟩, ⟨⟩, ⟨⟩⟩ kx
  kernel_rfl
theorem ok_slices_Equal_int64 (k : Nat) : FnOK Try.prog 98 (fe_slices_Equal_int64 k) := by
  refine closed_ok (tab := []) (l := []) ti_ok ti_ht mix (List.forall_mem_nil _) (List.forall_mem_nil _) ⟨⟨Try.f98, (codeOf Try.f98), [.tmp 4], (slices_Equal_int64_O k), by kernel_rfl, by kernel_rfl, by kernel_rfl, by kernel_rfl, rfl, by decide, ⟨by kernel_rfl, ?_, ?_⟩, ?_⟩⟩
  · refine loops_of (n := 1) (by kernel_rfl) fun i hi => ?_
    match i, hi with
    | 0, _ => exact loop_of (by kernel_rfl) (slices_Equal_int64_l0_ok k)
    | n + 1, hi => omega
  · exact no_cuts (by kernel_rfl)
  · rintro ⟨s10, s21⟩
    kernel_rfl
/- 222 slices.EqualFunc[[][]int64,[][]int64,[]int64,[]int64] -/
def slices_EqualFunc_int64__slices_Equal_int64_l0 (k : Nat) : Nat → (List (List Int)) → Unit → (List (List Int)) → Int → Int → (Option Bool) → Option Bool
  | 0, _, _, _, _, _, _ => none
  | n + 1, s21, eq2, x15, x16, x17, e_0 => (if (decide (x17 < x16)) = true then (if 0 ≤ x17 then (x15[x17.toNat]?).bind fun y_1 => (if 0 ≤ x17 then (s21[x17.toNat]?).bind fun y_2 => (slices_Equal_int64 k y_1 y_2).bind fun r_3 => (if (!r_3) = true then some false else slices_EqualFunc_int64__slices_Equal_int64_l0 k n s21 eq2 x15 x16 (w_i64 (x17 + 1)) e_0) else none) else none) else e_0)
def slices_EqualFunc_int64__slices_Equal_int64 (k : Nat) (s10 : List (List Int)) (s21 : List (List Int)) (eq2 : Unit) : Option Bool := (if (!(decide ((List.length s10 : Int) = (List.length s21 : Int)))) = true then some false else slices_EqualFunc_int64__slices_Equal_int64_l0 k k s21 eq2 s10 (List.length s10 : Int) 0 (some true))
def slices_EqualFunc_int64__slices_Equal_int64_l0_h : Head := ⟨[(1, (.val (.sl 54 (.sl 2 (.int .i64))))), (2, (.val (.fn 98 .un))), (15, (.val (.sl 54 (.sl 2 (.int .i64))))), (16, (.val (.int .i64))), (17, (.val (.int .i64)))], [], []⟩
def slices_EqualFunc_int64__slices_Equal_int64_l0_x0 : Head := ⟨[], [], []⟩
def slices_EqualFunc_int64__slices_Equal_int64_l0_F (k n : Nat) (x : slices_EqualFunc_int64__slices_Equal_int64_l0_h.T) (kx : Nat → St → Option Bool) : Option Bool := slices_EqualFunc_int64__slices_Equal_int64_l0 k n x.1.1 x.1.2.1 x.1.2.2.1 x.1.2.2.2.1 x.1.2.2.2.2.1 (kx 0 (slices_EqualFunc_int64__slices_Equal_int64_l0_x0.fill ((), (), ())))
def slices_EqualFunc_int64__slices_Equal_int64_O (k : Nat) : Oracles Bool := ⟨fun n => bif Nat.beq n 4 then some (fun σ kx => slices_EqualFunc_int64__slices_Equal_int64_l0_h.get σ fun x => slices_EqualFunc_int64__slices_Equal_int64_l0_F k k x kx) else none, fun _ => none⟩
def fe_slices_EqualFunc_int64__slices_Equal_int64 (k : Nat) : FE := ⟨(.pr (.sl 54 (.sl 2 (.int .i64))) (.pr (.sl 54 (.sl 2 (.int .i64))) (.fn 98 .un))), 1, .bool, fun x => slices_EqualFunc_int64__slices_Equal_int64 k x.1 x.2.1 x.2.2⟩
theorem slices_EqualFunc_int64__slices_Equal_int64_l0_ok (k : Nat) : LoopOK (mkEnv ti [(98, fe_slices_Equal_int64 k)] (lk []) pins0 pinB0) (slices_EqualFunc_int64__slices_Equal_int64_O k) (rdC (mkEnv ti [(98, fe_slices_Equal_int64 k)] (lk []) pins0 pinB0) [.tmp 6] .bool) ((loopsOf (codeOf Try.f222)).getD 0 .skip) (fun σ kx => slices_EqualFunc_int64__slices_Equal_int64_l0_h.get σ fun x => slices_EqualFunc_int64__slices_Equal_int64_l0_F k k x kx) := by
  refine ⟨slices_EqualFunc_int64__slices_Equal_int64_l0_h, [(0, slices_EqualFunc_int64__slices_Equal_int64_l0_x0)], fun n x kx => slices_EqualFunc_int64__slices_Equal_int64_l0_F k n x kx, k, by kernel_rfl, by kernel_rfl, fun x kx => by kernel_rfl, ?_, fun σ kx => rfl⟩
  rintro n ⟨⟨s21, eq2, x15, x16, x17, ⟨⟩⟩, ⟨⟩, ⟨⟩⟩ kx
  kernel_rfl
theorem ok_slices_EqualFunc_int64__slices_Equal_int64 (k : Nat) : FnOK Try.prog 222 (fe_slices_EqualFunc_int64__slices_Equal_int64 k) := by
  refine closed_ok (tab := [(98, fe_slices_Equal_int64 k)]) (l := []) ti_ok ti_ht mix (List.forall_mem_cons.2 ⟨ok_slices_Equal_int64 k, (List.forall_mem_nil _)⟩) (List.forall_mem_nil _) ⟨⟨Try.f222, (codeOf Try.f222), [.tmp 6], (slices_EqualFunc_int64__slices_Equal_int64_O k), by kernel_rfl, by kernel_rfl, by kernel_rfl, by kernel_rfl, rfl, by decide, ⟨by kernel_rfl, ?_, ?_⟩, ?_⟩⟩
  · refine loops_of (n := 1) (by kernel_rfl) fun i hi => ?_
    match i, hi with
    | 0, _ => exact loop_of (by kernel_rfl) (slices_EqualFunc_int64__slices_Equal_int64_l0_ok k)
    | n + 1, hi => omega
  · exact no_cuts (by kernel_rfl)
  · rintro ⟨s10, s21, eq2⟩
    kernel_rfl
/- 171 loop.example/g01005/impl.areSame -/
def impl_areSame (k : Nat) (a0 : List (List Int)) (b1 : List (List Int)) : Option Bool := (slices_EqualFunc_int64__slices_Equal_int64 k a0 b1 ()).bind fun r_1 => some r_1
def fe_impl_areSame (k : Nat) : FE := ⟨(.pr (.sl 54 (.sl 2 (.int .i64))) (.sl 54 (.sl 2 (.int .i64)))), 1, .bool, fun x => impl_areSame k x.1 x.2⟩
theorem ok_impl_areSame (k : Nat) : FnOK Try.prog 171 (fe_impl_areSame k) := by
  refine closed_ok (tab := [(222, fe_slices_EqualFunc_int64__slices_Equal_int64 k)]) (l := []) ti_ok ti_ht mix (List.forall_mem_cons.2 ⟨ok_slices_EqualFunc_int64__slices_Equal_int64 k, (List.forall_mem_nil _)⟩) (List.forall_mem_nil _) ⟨⟨Try.f171, (codeOf Try.f171), [.tmp 4], (LOn Bool), by kernel_rfl, by kernel_rfl, by kernel_rfl, by kernel_rfl, rfl, by decide, ⟨by kernel_rfl, ?_, ?_⟩, ?_⟩⟩
  · exact no_loops (by kernel_rfl)
  · exact no_cuts (by kernel_rfl)
  · rintro ⟨a0, b1⟩
    kernel_rfl
/- 100 loop.example/g01005/impl.SameComplex -/
def impl_SameComplex (k : Nat) (a0 : List (List Int)) (b1 : List (List Int)) : Option Bool := (impl_areSame k a0 b1).bind fun r_1 => some r_1
def fe_impl_SameComplex (k : Nat) : FE := ⟨(.pr (.st (.sl 54 (.sl 2 (.int .i64)))) (.st (.sl 54 (.sl 2 (.int .i64))))), 1, .bool, fun x => impl_SameComplex k x.1 x.2⟩
theorem ok_impl_SameComplex (k : Nat) : FnOK Try.prog 100 (fe_impl_SameComplex k) := by
  refine closed_ok (tab := [(171, fe_impl_areSame k)]) (l := []) ti_ok ti_ht mix (List.forall_mem_cons.2 ⟨ok_impl_areSame k, (List.forall_mem_nil _)⟩) (List.forall_mem_nil _) ⟨⟨Try.f100, (codeOf Try.f100), [.tmp 4], (LOn Bool), by kernel_rfl, by kernel_rfl, by kernel_rfl, by kernel_rfl, rfl, by decide, ⟨by kernel_rfl, ?_, ?_⟩, ?_⟩⟩
  · exact no_loops (by kernel_rfl)
  · exact no_cuts (by kernel_rfl)
  · rintro ⟨a0, b1⟩
    kernel_rfl
/- 101 loop.example/g01005/impl.SameMatrix -/
def impl_SameMatrix (k : Nat) (a0 : Int × Int × Int × List Int) (b1 : Int × Int × Int × List Int) : Option Bool := (if (decide (a0.1 = b1.1)) = true then (if (decide (a0.2.1 = b1.2.1)) = true then (if (decide (a0.2.2.1 = b1.2.2.1)) = true then (slices_Equal_int64 k a0.2.2.2 b1.2.2.2).bind fun r_1 => some r_1 else some false) else some false) else some false)
def fe_impl_SameMatrix (k : Nat) : FE := ⟨(.pr (.st (.pr (.int .i64) (.pr (.int .i64) (.pr (.int .i64) (.sl 2 (.int .i64)))))) (.st (.pr (.int .i64) (.pr (.int .i64) (.pr (.int .i64) (.sl 2 (.int .i64))))))), 1, .bool, fun x => impl_SameMatrix k x.1 x.2⟩
theorem ok_impl_SameMatrix (k : Nat) : FnOK Try.prog 101 (fe_impl_SameMatrix k) := by
  refine closed_ok (tab := [(98, fe_slices_Equal_int64 k)]) (l := []) ti_ok ti_ht mix (List.forall_mem_cons.2 ⟨ok_slices_Equal_int64 k, (List.forall_mem_nil _)⟩) (List.forall_mem_nil _) ⟨⟨Try.f101, (codeOf Try.f101), [.tmp 4], (LOn Bool), by kernel_rfl, by kernel_rfl, by kernel_rfl, by kernel_rfl, rfl, by decide, ⟨by kernel_rfl, ?_, ?_⟩, ?_⟩⟩
  · exact no_loops (by kernel_rfl)
  · exact no_cuts (by kernel_rfl)
  · rintro ⟨a0, b1⟩
    kernel_rfl
/- 169 slices.EqualFunc[[]loop.example/g01005/impl.Matrix,[]loop.example/g01005/impl.Matrix,loop.example/g01005/impl.Matrix,loop.example/g01005/impl.Matrix] -/
def slices_EqualFunc_impl_Matrix__impl_SameMatrix_l0 (k : Nat) : Nat → (List (Int × Int × Int × List Int)) → Unit → (List (Int × Int × Int × List Int)) → Int → Int → (Option Bool) → Option Bool
  | 0, _, _, _, _, _, _ => none
  | n + 1, s21, eq2, x15, x16, x17, e_0 => (if (decide (x17 < x16)) = true then (if 0 ≤ x17 then (x15[x17.toNat]?).bind fun y_1 => (if 0 ≤ x17 then (s21[x17.toNat]?).bind fun y_2 => (impl_SameMatrix k y_1 y_2).bind fun r_3 => (if (!r_3) = true then some false else slices_EqualFunc_impl_Matrix__impl_SameMatrix_l0 k n s21 eq2 x15 x16 (w_i64 (x17 + 1)) e_0) else none) else none) else e_0)
def slices_EqualFunc_impl_Matrix__impl_SameMatrix (k : Nat) (s10 : List (Int × Int × Int × List Int)) (s21 : List (Int × Int × Int × List Int)) (eq2 : Unit) : Option Bool := (if (!(decide ((List.length s10 : Int) = (List.length s21 : Int)))) = true then some false else slices_EqualFunc_impl_Matrix__impl_SameMatrix_l0 k k s21 eq2 s10 (List.length s10 : Int) 0 (some true))
def slices_EqualFunc_impl_Matrix__impl_SameMatrix_l0_h : Head := ⟨[(1, (.val (.sl 77 (.st (.pr (.int .i64) (.pr (.int .i64) (.pr (.int .i64) (.sl 2 (.int .i64))))))))), (2, (.val (.fn 101 .un))), (15, (.val (.sl 77 (.st (.pr (.int .i64) (.pr (.int .i64) (.pr (.int .i64) (.sl 2 (.int .i64))))))))), (16, (.val (.int .i64))), (17, (.val (.int .i64)))], [], []⟩
def slices_EqualFunc_impl_Matrix__impl_SameMatrix_l0_x0 : Head := ⟨[], [], []⟩
def slices_EqualFunc_impl_Matrix__impl_SameMatrix_l0_F (k n : Nat) (x : slices_EqualFunc_impl_Matrix__impl_SameMatrix_l0_h.T) (kx : Nat → St → Option Bool) : Option Bool := slices_EqualFunc_impl_Matrix__impl_SameMatrix_l0 k n x.1.1 x.1.2.1 x.1.2.2.1 x.1.2.2.2.1 x.1.2.2.2.2.1 (kx 0 (slices_EqualFunc_impl_Matrix__impl_SameMatrix_l0_x0.fill ((), (), ())))
def slices_EqualFunc_impl_Matrix__impl_SameMatrix_O (k : Nat) : Oracles Bool := ⟨fun n => bif Nat.beq n 4 then some (fun σ kx => slices_EqualFunc_impl_Matrix__impl_SameMatrix_l0_h.get σ fun x => slices_EqualFunc_impl_Matrix__impl_SameMatrix_l0_F k k x kx) else none, fun _ => none⟩
def fe_slices_EqualFunc_impl_Matrix__impl_SameMatrix (k : Nat) : FE := ⟨(.pr (.sl 77 (.st (.pr (.int .i64) (.pr (.int .i64) (.pr (.int .i64) (.sl 2 (.int .i64))))))) (.pr (.sl 77 (.st (.pr (.int .i64) (.pr (.int .i64) (.pr (.int .i64) (.sl 2 (.int .i64))))))) (.fn 101 .un))), 1, .bool, fun x => slices_EqualFunc_impl_Matrix__impl_SameMatrix k x.1 x.2.1 x.2.2⟩
theorem slices_EqualFunc_impl_Matrix__impl_SameMatrix_l0_ok (k : Nat) : LoopOK (mkEnv ti [(101, fe_impl_SameMatrix k)] (lk []) pins0 pinB0) (slices_EqualFunc_impl_Matrix__impl_SameMatrix_O k) (rdC (mkEnv ti [(101, fe_impl_SameMatrix k)] (lk []) pins0 pinB0) [.tmp 6] .bool) ((loopsOf (codeOf Try.f169)).getD 0 .skip) (fun σ kx => slices_EqualFunc_impl_Matrix__impl_SameMatrix_l0_h.get σ fun x => slices_EqualFunc_impl_Matrix__impl_SameMatrix_l0_F k k x kx) := by
  refine ⟨slices_EqualFunc_impl_Matrix__impl_SameMatrix_l0_h, [(0, slices_EqualFunc_impl_Matrix__impl_SameMatrix_l0_x0)], fun n x kx => slices_EqualFunc_impl_Matrix__impl_SameMatrix_l0_F k n x kx, k, by kernel_rfl, by kernel_rfl, fun x kx => by kernel_rfl, ?_, fun σ kx => rfl⟩
  rintro n ⟨⟨s21, eq2, x15, x16, x17, ⟨⟩⟩, ⟨⟩, ⟨⟩⟩ kx
  kernel_rfl
theorem ok_slices_EqualFunc_impl_Matrix__impl_SameMatrix (k : Nat) : FnOK Try.prog 169 (fe_slices_EqualFunc_impl_Matrix__impl_SameMatrix k) := by
  refine closed_ok (tab := [(101, fe_impl_SameMatrix k)]) (l := []) ti_ok ti_ht mix (List.forall_mem_cons.2 ⟨ok_impl_SameMatrix k, (List.forall_mem_nil _)⟩) (List.forall_mem_nil _) ⟨⟨Try.f169, (codeOf Try.f169), [.tmp 6], (slices_EqualFunc_impl_Matrix__impl_SameMatrix_O k), by kernel_rfl, by kernel_rfl, by kernel_rfl, by kernel_rfl, rfl, by decide, ⟨by kernel_rfl, ?_, ?_⟩, ?_⟩⟩
  · refine loops_of (n := 1) (by kernel_rfl) fun i hi => ?_
    match i, hi with
    | 0, _ => exact loop_of (by kernel_rfl) (slices_EqualFunc_impl_Matrix__impl_SameMatrix_l0_ok k)
    | n + 1, hi => omega
  · exact no_cuts (by kernel_rfl)
  · rintro ⟨s10, s21, eq2⟩
    kernel_rfl
/- 97 loop.example/g01005/impl.SameSheaf -/
def impl_SameSheaf (k : Nat) (a0 : List (List Int) × Int × List Int × List (Int × Int × Int × List Int)) (b1 : List (List Int) × Int × List Int × List (Int × Int × Int × List Int)) : Option Bool := (impl_SameComplex k a0.1 b1.1).bind fun r_1 => (if r_1 = true then (if (decide (a0.2.1 = b1.2.1)) = true then (slices_Equal_int64 k a0.2.2.1 b1.2.2.1).bind fun r_2 => (if r_2 = true then (slices_EqualFunc_impl_Matrix__impl_SameMatrix k a0.2.2.2 b1.2.2.2 ()).bind fun r_3 => some r_3 else some false) else some false) else some false)
def fe_impl_SameSheaf (k : Nat) : FE := ⟨(.pr (.st (.pr (.st (.sl 54 (.sl 2 (.int .i64)))) (.pr (.int .i64) (.pr (.sl 2 (.int .i64)) (.sl 77 (.st (.pr (.int .i64) (.pr (.int .i64) (.pr (.int .i64) (.sl 2 (.int .i64))))))))))) (.st (.pr (.st (.sl 54 (.sl 2 (.int .i64)))) (.pr (.int .i64) (.pr (.sl 2 (.int .i64)) (.sl 77 (.st (.pr (.int .i64) (.pr (.int .i64) (.pr (.int .i64) (.sl 2 (.int .i64)))))))))))), 1, .bool, fun x => impl_SameSheaf k x.1 x.2⟩
theorem ok_impl_SameSheaf (k : Nat) : FnOK Try.prog 97 (fe_impl_SameSheaf k) := by
  refine closed_ok (tab := [(100, fe_impl_SameComplex k), (98, fe_slices_Equal_int64 k), (169, fe_slices_EqualFunc_impl_Matrix__impl_SameMatrix k)]) (l := []) ti_ok ti_ht mix (List.forall_mem_cons.2 ⟨ok_impl_SameComplex k, (List.forall_mem_cons.2 ⟨ok_slices_Equal_int64 k, (List.forall_mem_cons.2 ⟨ok_slices_EqualFunc_impl_Matrix__impl_SameMatrix k, (List.forall_mem_nil _)⟩)⟩)⟩) (List.forall_mem_nil _) ⟨⟨Try.f97, (codeOf Try.f97), [.tmp 4], (LOn Bool), by kernel_rfl, by kernel_rfl, by kernel_rfl, by kernel_rfl, rfl, by decide, ⟨by kernel_rfl, ?_, ?_⟩, ?_⟩⟩
  · exact no_loops (by kernel_rfl)
  · exact no_cuts (by kernel_rfl)
  · rintro ⟨a0, b1⟩
    kernel_rfl
/- 170 slices.Equal[[]loop.example/g01005/impl.Edge,loop.example/g01005/impl.Edge] -/
def slices_Equal_impl_Edge_l0 (k : Nat) : Nat → (List (Int × Int × Int)) → (List (Int × Int × Int)) → Int → Int → (Option Bool) → Option Bool
  | 0, _, _, _, _, _ => none
  | n + 1, s10, s21, x12, x13, e_0 => (if (decide (x13 < x12)) = true then (if 0 ≤ x13 then (s10[x13.toNat]?).bind fun y_1 => (if 0 ≤ x13 then (s21[x13.toNat]?).bind fun y_2 => (if (!(decide (y_1 = y_2))) = true then some false else slices_Equal_impl_Edge_l0 k n s10 s21 x12 (w_i64 (x13 + 1)) e_0) else none) else none) else e_0)
def slices_Equal_impl_Edge (k : Nat) (s10 : List (Int × Int × Int)) (s21 : List (Int × Int × Int)) : Option Bool := (if (!(decide ((List.length s10 : Int) = (List.length s21 : Int)))) = true then some false else slices_Equal_impl_Edge_l0 k k s10 s21 (List.length s10 : Int) 0 (some true))
def slices_Equal_impl_Edge_l0_h : Head := ⟨[(0, (.val (.sl 204 (.st (.pr (.int .i64) (.pr (.int .i64) (.int .i64))))))), (1, (.val (.sl 204 (.st (.pr (.int .i64) (.pr (.int .i64) (.int .i64))))))), (12, (.val (.int .i64))), (13, (.val (.int .i64)))], [], []⟩
def slices_Equal_impl_Edge_l0_x0 : Head := ⟨[], [], []⟩
def slices_Equal_impl_Edge_l0_F (k n : Nat) (x : slices_Equal_impl_Edge_l0_h.T) (kx : Nat → St → Option Bool) : Option Bool := slices_Equal_impl_Edge_l0 k n x.1.1 x.1.2.1 x.1.2.2.1 x.1.2.2.2.1 (kx 0 (slices_Equal_impl_Edge_l0_x0.fill ((), (), ())))
def slices_Equal_impl_Edge_O (k : Nat) : Oracles Bool := ⟨fun n => bif Nat.beq n 4 then some (fun σ kx => slices_Equal_impl_Edge_l0_h.get σ fun x => slices_Equal_impl_Edge_l0_F k k x kx) else none, fun _ => none⟩
def fe_slices_Equal_impl_Edge (k : Nat) : FE := ⟨(.pr (.sl 204 (.st (.pr (.int .i64) (.pr (.int .i64) (.int .i64))))) (.sl 204 (.st (.pr (.int .i64) (.pr (.int .i64) (.int .i64)))))), 1, .bool, fun x => slices_Equal_impl_Edge k x.1 x.2⟩
theorem slices_Equal_impl_Edge_l0_ok (k : Nat) : LoopOK (mkEnv ti [] (lk []) pins0 pinB0) (slices_Equal_impl_Edge_O k) (rdC (mkEnv ti [] (lk []) pins0 pinB0) [.tmp 4] .bool) ((loopsOf (codeOf Try.f170)).getD 0 .skip) (fun σ kx => slices_Equal_impl_Edge_l0_h.get σ fun x => slices_Equal_impl_Edge_l0_F k k x kx) := by
  refine ⟨slices_Equal_impl_Edge_l0_h, [(0, slices_Equal_impl_Edge_l0_x0)], fun n x kx => slices_Equal_impl_Edge_l0_F k n x kx, k, by kernel_rfl, by kernel_rfl, fun x kx => by kernel_rfl, ?_, fun σ kx => rfl⟩
  rintro n ⟨⟨s10, s21, x12, x13, ⟨⟩⟩, ⟨⟩, ⟨⟩⟩ kx
  kernel_rfl
theorem ok_slices_Equal_impl_Edge (k : Nat) : FnOK Try.prog 170 (fe_slices_Equal_impl_Edge k) := by
  refine closed_ok (tab := []) (l := []) ti_ok ti_ht mix (List.forall_mem_nil _) (List.forall_mem_nil _) ⟨⟨Try.f170, (codeOf Try.f170), [.tmp 4], (slices_Equal_impl_Edge_O k), by kernel_rfl, by kernel_rfl, by kernel_rfl, by kernel_rfl, rfl, by decide, ⟨by kernel_rfl, ?_, ?_⟩, ?_⟩⟩
  · refine loops_of (n := 1) (by kernel_rfl) fun i hi => ?_
    match i, hi with
    | 0, _ => exact loop_of (by kernel_rfl) (slices_Equal_impl_Edge_l0_ok k)
    | n + 1, hi => omega
  · exact no_cuts (by kernel_rfl)
  · rintro ⟨s10, s21⟩
    kernel_rfl
/- 99 loop.example/g01005/impl.SameGraph -/
def impl_SameGraph (k : Nat) (a0 : Int × List (Int × Int × Int)) (b1 : Int × List (Int × Int × Int)) : Option Bool := (if (decide (a0.1 = b1.1)) = true then (slices_Equal_impl_Edge k a0.2 b1.2).bind fun r_1 => some r_1 else some false)
def fe_impl_SameGraph (k : Nat) : FE := ⟨(.pr (.st (.pr (.int .i64) (.sl 204 (.st (.pr (.int .i64) (.pr (.int .i64) (.int .i64))))))) (.st (.pr (.int .i64) (.sl 204 (.st (.pr (.int .i64) (.pr (.int .i64) (.int .i64)))))))), 1, .bool, fun x => impl_SameGraph k x.1 x.2⟩
theorem ok_impl_SameGraph (k : Nat) : FnOK Try.prog 99 (fe_impl_SameGraph k) := by
  refine closed_ok (tab := [(170, fe_slices_Equal_impl_Edge k)]) (l := []) ti_ok ti_ht mix (List.forall_mem_cons.2 ⟨ok_slices_Equal_impl_Edge k, (List.forall_mem_nil _)⟩) (List.forall_mem_nil _) ⟨⟨Try.f99, (codeOf Try.f99), [.tmp 4], (LOn Bool), by kernel_rfl, by kernel_rfl, by kernel_rfl, by kernel_rfl, rfl, by decide, ⟨by kernel_rfl, ?_, ?_⟩, ?_⟩⟩
  · exact no_loops (by kernel_rfl)
  · exact no_cuts (by kernel_rfl)
  · rintro ⟨a0, b1⟩
    kernel_rfl
/- 103 loop.example/g01005/impl.SameTable -/
def impl_SameTable (k : Nat) (a0 : List Int × List (List Int)) (b1 : List Int × List (List Int)) : Option Bool := (slices_Equal_int64 k a0.1 b1.1).bind fun r_1 => (if r_1 = true then (impl_areSame k a0.2 b1.2).bind fun r_2 => some r_2 else some false)
def fe_impl_SameTable (k : Nat) : FE := ⟨(.pr (.st (.pr (.sl 2 (.int .i64)) (.sl 54 (.sl 2 (.int .i64))))) (.st (.pr (.sl 2 (.int .i64)) (.sl 54 (.sl 2 (.int .i64)))))), 1, .bool, fun x => impl_SameTable k x.1 x.2⟩
theorem ok_impl_SameTable (k : Nat) : FnOK Try.prog 103 (fe_impl_SameTable k) := by
  refine closed_ok (tab := [(98, fe_slices_Equal_int64 k), (171, fe_impl_areSame k)]) (l := []) ti_ok ti_ht mix (List.forall_mem_cons.2 ⟨ok_slices_Equal_int64 k, (List.forall_mem_cons.2 ⟨ok_impl_areSame k, (List.forall_mem_nil _)⟩)⟩) (List.forall_mem_nil _) ⟨⟨Try.f103, (codeOf Try.f103), [.tmp 4], (LOn Bool), by kernel_rfl, by kernel_rfl, by kernel_rfl, by kernel_rfl, rfl, by decide, ⟨by kernel_rfl, ?_, ?_⟩, ?_⟩⟩
  · exact no_loops (by kernel_rfl)
  · exact no_cuts (by kernel_rfl)
  · rintro ⟨a0, b1⟩
    kernel_rfl
end
end Go.Proofs.Ytackggcodaolaaa.Ev
