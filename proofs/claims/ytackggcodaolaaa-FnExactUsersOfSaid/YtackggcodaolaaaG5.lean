/- Functions of the program, as plain ones. No conditions. -/
import Derived.Test.YtackggcodaolaaaG4
import Derived.KernelRfl
set_option linter.unusedVariables false
set_option maxRecDepth 100000
namespace Go.Proofs.Ytackggcodaolaaa.Ev
open Go.RowKit
noncomputable section
/- 29 loop.example/g01005/laws.eqStringS -/
def laws_eqStringS_l0 (k : Nat) : Nat → (List (List UInt8)) → (List (List UInt8)) → Int → (Option Bool) → Option Bool
  | 0, _, _, _, _ => none
  | n + 1, a0, b1, i5, e_0 => (if (decide (i5 < (List.length a0 : Int))) = true then (if 0 ≤ i5 then (a0[i5.toNat]?).bind fun y_1 => (if 0 ≤ i5 then (b1[i5.toNat]?).bind fun y_2 => (if (!(decide (y_1 = y_2))) = true then some false else laws_eqStringS_l0 k n a0 b1 (w_i64 (i5 + 1)) e_0) else none) else none) else e_0)
def laws_eqStringS (k : Nat) (a0 : List (List UInt8)) (b1 : List (List UInt8)) : Option Bool := (if (!(decide ((List.length a0 : Int) = (List.length b1 : Int)))) = true then some false else laws_eqStringS_l0 k k a0 b1 0 (some true))
def laws_eqStringS_l0_h : Head := ⟨[(0, (.val (.sl 9 .str))), (1, (.val (.sl 9 .str))), (5, (.val (.int .i64)))], [], []⟩
def laws_eqStringS_l0_x0 : Head := ⟨[], [], []⟩
def laws_eqStringS_l0_F (k n : Nat) (x : laws_eqStringS_l0_h.T) (kx : Nat → St → Option Bool) : Option Bool := laws_eqStringS_l0 k n x.1.1 x.1.2.1 x.1.2.2.1 (kx 0 (laws_eqStringS_l0_x0.fill ((), (), ())))
def laws_eqStringS_O (k : Nat) : Oracles Bool := ⟨fun n => bif Nat.beq n 4 then some (fun σ kx => laws_eqStringS_l0_h.get σ fun x => laws_eqStringS_l0_F k k x kx) else none, fun _ => none⟩
def fe_laws_eqStringS (k : Nat) : FE := ⟨(.pr (.sl 9 .str) (.sl 9 .str)), 1, .bool, fun x => laws_eqStringS k x.1 x.2⟩
theorem laws_eqStringS_l0_ok (k : Nat) : LoopOK (mkEnv ti [] (lk []) pins0 pinB0) (laws_eqStringS_O k) (rdC (mkEnv ti [] (lk []) pins0 pinB0) [.tmp 4] .bool) ((loopsOf (codeOf Try.f29)).getD 0 .skip) (fun σ kx => laws_eqStringS_l0_h.get σ fun x => laws_eqStringS_l0_F k k x kx) := by
  refine ⟨laws_eqStringS_l0_h, [(0, laws_eqStringS_l0_x0)], fun n x kx => laws_eqStringS_l0_F k n x kx, k, by kernel_rfl, by kernel_rfl, fun x kx => by kernel_rfl, ?_, fun σ kx => rfl⟩
  rintro n ⟨⟨a0, b1, i5, ⟨⟩⟩, ⟨⟩, ⟨⟩⟩ kx
  kernel_rfl
theorem ok_laws_eqStringS (k : Nat) : FnOK Try.prog 29 (fe_laws_eqStringS k) := by
  refine closed_ok (tab := []) (l := []) ti_ok ti_ht mix (List.forall_mem_nil _) (List.forall_mem_nil _) ⟨⟨Try.f29, (codeOf Try.f29), [.tmp 4], (laws_eqStringS_O k), by kernel_rfl, by kernel_rfl, by kernel_rfl, by kernel_rfl, rfl, by decide, ⟨by kernel_rfl, ?_, ?_⟩, ?_⟩⟩
  · refine loops_of (n := 1) (by kernel_rfl) fun i hi => ?_
    match i, hi with
    | 0, _ => exact loop_of (by kernel_rfl) (laws_eqStringS_l0_ok k)
    | n + 1, hi => omega
  · exact no_cuts (by kernel_rfl)
  · rintro ⟨a0, b1⟩
    kernel_rfl
/- 122 loop.example/g01005/laws.eqItem -/
def laws_eqItem (k : Nat) (a0 : List UInt8 × List (List UInt8) × Int × Int) (b1 : List UInt8 × List (List UInt8) × Int × Int) : Option Bool := (if (!(decide (a0.1 = b1.1))) = true then some false else (laws_eqStringS k a0.2.1 b1.2.1).bind fun r_1 => (if (!r_1) = true then some false else (if (!(decide (a0.2.2.1 = b1.2.2.1))) = true then some false else (if (!(decide (a0.2.2.2 = b1.2.2.2))) = true then some false else some true))))
def fe_laws_eqItem (k : Nat) : FE := ⟨(.pr (.st (.pr .str (.pr (.sl 9 .str) (.pr (.int .i64) (.int .i64))))) (.st (.pr .str (.pr (.sl 9 .str) (.pr (.int .i64) (.int .i64)))))), 1, .bool, fun x => laws_eqItem k x.1 x.2⟩
theorem ok_laws_eqItem (k : Nat) : FnOK Try.prog 122 (fe_laws_eqItem k) := by
  refine closed_ok (tab := [(29, fe_laws_eqStringS k)]) (l := []) ti_ok ti_ht mix (List.forall_mem_cons.2 ⟨ok_laws_eqStringS k, (List.forall_mem_nil _)⟩) (List.forall_mem_nil _) ⟨⟨Try.f122, (codeOf Try.f122), [.tmp 4], (LOn Bool), by kernel_rfl, by kernel_rfl, by kernel_rfl, by kernel_rfl, rfl, by decide, ⟨by kernel_rfl, ?_, ?_⟩, ?_⟩⟩
  · exact no_loops (by kernel_rfl)
  · exact no_cuts (by kernel_rfl)
  · rintro ⟨a0, b1⟩
    kernel_rfl
/- 49 loop.example/g01005/laws.eqItemS -/
def laws_eqItemS_l0 (k : Nat) : Nat → (List (List UInt8 × List (List UInt8) × Int × Int)) → (List (List UInt8 × List (List UInt8) × Int × Int)) → Int → (Option Bool) → Option Bool
  | 0, _, _, _, _ => none
  | n + 1, a0, b1, i5, e_0 => (if (decide (i5 < (List.length a0 : Int))) = true then (if 0 ≤ i5 then (a0[i5.toNat]?).bind fun y_1 => (if 0 ≤ i5 then (b1[i5.toNat]?).bind fun y_2 => (laws_eqItem k y_1 y_2).bind fun r_3 => (if (!r_3) = true then some false else laws_eqItemS_l0 k n a0 b1 (w_i64 (i5 + 1)) e_0) else none) else none) else e_0)
def laws_eqItemS (k : Nat) (a0 : List (List UInt8 × List (List UInt8) × Int × Int)) (b1 : List (List UInt8 × List (List UInt8) × Int × Int)) : Option Bool := (if (!(decide ((List.length a0 : Int) = (List.length b1 : Int)))) = true then some false else laws_eqItemS_l0 k k a0 b1 0 (some true))
def laws_eqItemS_l0_h : Head := ⟨[(0, (.val (.sl 156 (.st (.pr .str (.pr (.sl 9 .str) (.pr (.int .i64) (.int .i64)))))))), (1, (.val (.sl 156 (.st (.pr .str (.pr (.sl 9 .str) (.pr (.int .i64) (.int .i64)))))))), (5, (.val (.int .i64)))], [], []⟩
def laws_eqItemS_l0_x0 : Head := ⟨[], [], []⟩
def laws_eqItemS_l0_F (k n : Nat) (x : laws_eqItemS_l0_h.T) (kx : Nat → St → Option Bool) : Option Bool := laws_eqItemS_l0 k n x.1.1 x.1.2.1 x.1.2.2.1 (kx 0 (laws_eqItemS_l0_x0.fill ((), (), ())))
def laws_eqItemS_O (k : Nat) : Oracles Bool := ⟨fun n => bif Nat.beq n 4 then some (fun σ kx => laws_eqItemS_l0_h.get σ fun x => laws_eqItemS_l0_F k k x kx) else none, fun _ => none⟩
def fe_laws_eqItemS (k : Nat) : FE := ⟨(.pr (.sl 156 (.st (.pr .str (.pr (.sl 9 .str) (.pr (.int .i64) (.int .i64)))))) (.sl 156 (.st (.pr .str (.pr (.sl 9 .str) (.pr (.int .i64) (.int .i64))))))), 1, .bool, fun x => laws_eqItemS k x.1 x.2⟩
theorem laws_eqItemS_l0_ok (k : Nat) : LoopOK (mkEnv ti [(122, fe_laws_eqItem k)] (lk []) pins0 pinB0) (laws_eqItemS_O k) (rdC (mkEnv ti [(122, fe_laws_eqItem k)] (lk []) pins0 pinB0) [.tmp 4] .bool) ((loopsOf (codeOf Try.f49)).getD 0 .skip) (fun σ kx => laws_eqItemS_l0_h.get σ fun x => laws_eqItemS_l0_F k k x kx) := by
  refine ⟨laws_eqItemS_l0_h, [(0, laws_eqItemS_l0_x0)], fun n x kx => laws_eqItemS_l0_F k n x kx, k, by kernel_rfl, by kernel_rfl, fun x kx => by kernel_rfl, ?_, fun σ kx => rfl⟩
  rintro n ⟨⟨a0, b1, i5, ⟨⟩⟩, ⟨⟩, ⟨⟩⟩ kx
  kernel_rfl
theorem ok_laws_eqItemS (k : Nat) : FnOK Try.prog 49 (fe_laws_eqItemS k) := by
  refine closed_ok (tab := [(122, fe_laws_eqItem k)]) (l := []) ti_ok ti_ht mix (List.forall_mem_cons.2 ⟨ok_laws_eqItem k, (List.forall_mem_nil _)⟩) (List.forall_mem_nil _) ⟨⟨Try.f49, (codeOf Try.f49), [.tmp 4], (laws_eqItemS_O k), by kernel_rfl, by kernel_rfl, by kernel_rfl, by kernel_rfl, rfl, by decide, ⟨by kernel_rfl, ?_, ?_⟩, ?_⟩⟩
  · refine loops_of (n := 1) (by kernel_rfl) fun i hi => ?_
    match i, hi with
    | 0, _ => exact loop_of (by kernel_rfl) (laws_eqItemS_l0_ok k)
    | n + 1, hi => omega
  · exact no_cuts (by kernel_rfl)
  · rintro ⟨a0, b1⟩
    kernel_rfl
/- 38 loop.example/g01005/laws.eqDesk -/
def laws_eqDesk (k : Nat) (a0 : (List (List Int) × Int × List Int × List (Int × Int × Int × List Int)) × List Int × (Int × List (Int × Int × Int)) × List Int × (Int × Int × Int × List Int) × (List (List Int × List (List Int))) × (List (List Int) × List Int) × List (List UInt8 × List (List UInt8) × Int × Int)) (b1 : (List (List Int) × Int × List Int × List (Int × Int × Int × List Int)) × List Int × (Int × List (Int × Int × Int)) × List Int × (Int × Int × Int × List Int) × (List (List Int × List (List Int))) × (List (List Int) × List Int) × List (List UInt8 × List (List UInt8) × Int × Int)) : Option Bool := (laws_eqSheaf k a0.1 b1.1).bind fun r_1 => (if (!r_1) = true then some false else (laws_eqInt64S k a0.2.1 b1.2.1).bind fun r_2 => (if (!r_2) = true then some false else (laws_eqGraph k a0.2.2.1 b1.2.2.1).bind fun r_3 => (if (!r_3) = true then some false else (laws_eqInt64S k a0.2.2.2.1 b1.2.2.2.1).bind fun r_4 => (if (!r_4) = true then some false else (laws_eqMatrix k a0.2.2.2.2.1 b1.2.2.2.2.1).bind fun r_5 => (if (!r_5) = true then some false else (laws_eqTableS k a0.2.2.2.2.2.1 b1.2.2.2.2.2.1).bind fun r_6 => (if (!r_6) = true then some false else (laws_eqFiltration k a0.2.2.2.2.2.2.1 b1.2.2.2.2.2.2.1).bind fun r_7 => (if (!r_7) = true then some false else (laws_eqItemS k a0.2.2.2.2.2.2.2 b1.2.2.2.2.2.2.2).bind fun r_8 => (if (!r_8) = true then some false else some true))))))))
def fe_laws_eqDesk (k : Nat) : FE := ⟨(.pr (.st (.pr (.st (.pr (.st (.sl 54 (.sl 2 (.int .i64)))) (.pr (.int .i64) (.pr (.sl 2 (.int .i64)) (.sl 77 (.st (.pr (.int .i64) (.pr (.int .i64) (.pr (.int .i64) (.sl 2 (.int .i64))))))))))) (.pr (.sl 2 (.int .i64)) (.pr (.st (.pr (.int .i64) (.sl 204 (.st (.pr (.int .i64) (.pr (.int .i64) (.int .i64))))))) (.pr (.sl 2 (.int .i64)) (.pr (.st (.pr (.int .i64) (.pr (.int .i64) (.pr (.int .i64) (.sl 2 (.int .i64)))))) (.pr (.sl 135 (.st (.pr (.sl 2 (.int .i64)) (.sl 54 (.sl 2 (.int .i64)))))) (.pr (.st (.pr (.st (.sl 54 (.sl 2 (.int .i64)))) (.sl 2 (.int .i64)))) (.sl 156 (.st (.pr .str (.pr (.sl 9 .str) (.pr (.int .i64) (.int .i64)))))))))))))) (.st (.pr (.st (.pr (.st (.sl 54 (.sl 2 (.int .i64)))) (.pr (.int .i64) (.pr (.sl 2 (.int .i64)) (.sl 77 (.st (.pr (.int .i64) (.pr (.int .i64) (.pr (.int .i64) (.sl 2 (.int .i64))))))))))) (.pr (.sl 2 (.int .i64)) (.pr (.st (.pr (.int .i64) (.sl 204 (.st (.pr (.int .i64) (.pr (.int .i64) (.int .i64))))))) (.pr (.sl 2 (.int .i64)) (.pr (.st (.pr (.int .i64) (.pr (.int .i64) (.pr (.int .i64) (.sl 2 (.int .i64)))))) (.pr (.sl 135 (.st (.pr (.sl 2 (.int .i64)) (.sl 54 (.sl 2 (.int .i64)))))) (.pr (.st (.pr (.st (.sl 54 (.sl 2 (.int .i64)))) (.sl 2 (.int .i64)))) (.sl 156 (.st (.pr .str (.pr (.sl 9 .str) (.pr (.int .i64) (.int .i64))))))))))))))), 1, .bool, fun x => laws_eqDesk k x.1 x.2⟩
theorem ok_laws_eqDesk (k : Nat) : FnOK Try.prog 38 (fe_laws_eqDesk k) := by
  refine closed_ok (tab := [(105, fe_laws_eqSheaf k), (106, fe_laws_eqInt64S k), (107, fe_laws_eqGraph k), (108, fe_laws_eqMatrix k), (109, fe_laws_eqTableS k), (110, fe_laws_eqFiltration k), (49, fe_laws_eqItemS k)]) (l := []) ti_ok ti_ht mix (List.forall_mem_cons.2 ⟨ok_laws_eqSheaf k, (List.forall_mem_cons.2 ⟨ok_laws_eqInt64S k, (List.forall_mem_cons.2 ⟨ok_laws_eqGraph k, (List.forall_mem_cons.2 ⟨ok_laws_eqMatrix k, (List.forall_mem_cons.2 ⟨ok_laws_eqTableS k, (List.forall_mem_cons.2 ⟨ok_laws_eqFiltration k, (List.forall_mem_cons.2 ⟨ok_laws_eqItemS k, (List.forall_mem_nil _)⟩)⟩)⟩)⟩)⟩)⟩)⟩) (List.forall_mem_nil _) ⟨⟨Try.f38, (codeOf Try.f38), [.tmp 4], (LOn Bool), by kernel_rfl, by kernel_rfl, by kernel_rfl, by kernel_rfl, rfl, by decide, ⟨by kernel_rfl, ?_, ?_⟩, ?_⟩⟩
  · exact no_loops (by kernel_rfl)
  · exact no_cuts (by kernel_rfl)
  · rintro ⟨a0, b1⟩
    kernel_rfl
/- 7 loop.example/g01005/laws.FnExactSameDesk -/
def laws_FnExactSameDesk (k : Nat) (aA0 : (List (List Int) × Int × List Int × List (Int × Int × Int × List Int)) × List Int × (Int × List (Int × Int × Int)) × List Int × (Int × Int × Int × List Int) × (List (List Int × List (List Int))) × (List (List Int) × List Int) × List (List UInt8 × List (List UInt8) × Int × Int)) (aB1 : (List (List Int) × Int × List Int × List (Int × Int × Int × List Int)) × List Int × (Int × List (Int × Int × Int)) × List Int × (Int × Int × Int × List Int) × (List (List Int × List (List Int))) × (List (List Int) × List Int) × List (List UInt8 × List (List UInt8) × Int × Int)) : Option Bool := (laws_szDesk k aA0 1048576).bind fun r_1 => (if (decide (r_1 < 0)) = true then some true else (laws_szDesk k aB1 r_1).bind fun r_2 => (if (decide (r_2 < 0)) = true then some true else (laws_toDesk k aA0).bind fun r_3 => (laws_toDesk k aB1).bind fun r_4 => (spec_SameDesk k ((r_3.1.1, (r_3.1.2.1, (r_3.1.2.2.1, r_3.1.2.2.2))), (r_3.2.1, ((r_3.2.2.1.1, r_3.2.2.1.2), (r_3.2.2.2.1, ((r_3.2.2.2.2.1.1, (r_3.2.2.2.2.1.2.1, (r_3.2.2.2.2.1.2.2.1, r_3.2.2.2.2.1.2.2.2))), (r_3.2.2.2.2.2.1, ((r_3.2.2.2.2.2.2.1.1, r_3.2.2.2.2.2.2.1.2), r_3.2.2.2.2.2.2.2))))))) ((r_4.1.1, (r_4.1.2.1, (r_4.1.2.2.1, r_4.1.2.2.2))), (r_4.2.1, ((r_4.2.2.1.1, r_4.2.2.1.2), (r_4.2.2.2.1, ((r_4.2.2.2.2.1.1, (r_4.2.2.2.2.1.2.1, (r_4.2.2.2.2.1.2.2.1, r_4.2.2.2.2.1.2.2.2))), (r_4.2.2.2.2.2.1, ((r_4.2.2.2.2.2.2.1.1, r_4.2.2.2.2.2.2.1.2), r_4.2.2.2.2.2.2.2)))))))).bind fun r_5 => (laws_toDesk k aA0).bind fun r_6 => (laws_toDesk k aB1).bind fun r_7 => (impl_SameDesk k ((r_6.1.1, (r_6.1.2.1, (r_6.1.2.2.1, r_6.1.2.2.2))), (r_6.2.1, ((r_6.2.2.1.1, r_6.2.2.1.2), (r_6.2.2.2.1, ((r_6.2.2.2.2.1.1, (r_6.2.2.2.2.1.2.1, (r_6.2.2.2.2.1.2.2.1, r_6.2.2.2.2.1.2.2.2))), (r_6.2.2.2.2.2.1, ((r_6.2.2.2.2.2.2.1.1, r_6.2.2.2.2.2.2.1.2), r_6.2.2.2.2.2.2.2))))))) ((r_7.1.1, (r_7.1.2.1, (r_7.1.2.2.1, r_7.1.2.2.2))), (r_7.2.1, ((r_7.2.2.1.1, r_7.2.2.1.2), (r_7.2.2.2.1, ((r_7.2.2.2.2.1.1, (r_7.2.2.2.2.1.2.1, (r_7.2.2.2.2.1.2.2.1, r_7.2.2.2.2.1.2.2.2))), (r_7.2.2.2.2.2.1, ((r_7.2.2.2.2.2.2.1.1, r_7.2.2.2.2.2.2.1.2), r_7.2.2.2.2.2.2.2)))))))).bind fun r_8 => (if (!(r_8 == r_5)) = true then some false else (laws_toDesk k aA0).bind fun r_9 => (laws_eqDesk k ((r_6.1.1, (r_6.1.2.1, (r_6.1.2.2.1, r_6.1.2.2.2))), (r_6.2.1, ((r_6.2.2.1.1, r_6.2.2.1.2), (r_6.2.2.2.1, ((r_6.2.2.2.2.1.1, (r_6.2.2.2.2.1.2.1, (r_6.2.2.2.2.1.2.2.1, r_6.2.2.2.2.1.2.2.2))), (r_6.2.2.2.2.2.1, ((r_6.2.2.2.2.2.2.1.1, r_6.2.2.2.2.2.2.1.2), r_6.2.2.2.2.2.2.2))))))) ((r_9.1.1, (r_9.1.2.1, (r_9.1.2.2.1, r_9.1.2.2.2))), (r_9.2.1, ((r_9.2.2.1.1, r_9.2.2.1.2), (r_9.2.2.2.1, ((r_9.2.2.2.2.1.1, (r_9.2.2.2.2.1.2.1, (r_9.2.2.2.2.1.2.2.1, r_9.2.2.2.2.1.2.2.2))), (r_9.2.2.2.2.2.1, ((r_9.2.2.2.2.2.2.1.1, r_9.2.2.2.2.2.2.1.2), r_9.2.2.2.2.2.2.2)))))))).bind fun r_10 => (if (!r_10) = true then some false else (laws_toDesk k aB1).bind fun r_11 => (laws_eqDesk k ((r_7.1.1, (r_7.1.2.1, (r_7.1.2.2.1, r_7.1.2.2.2))), (r_7.2.1, ((r_7.2.2.1.1, r_7.2.2.1.2), (r_7.2.2.2.1, ((r_7.2.2.2.2.1.1, (r_7.2.2.2.2.1.2.1, (r_7.2.2.2.2.1.2.2.1, r_7.2.2.2.2.1.2.2.2))), (r_7.2.2.2.2.2.1, ((r_7.2.2.2.2.2.2.1.1, r_7.2.2.2.2.2.2.1.2), r_7.2.2.2.2.2.2.2))))))) ((r_11.1.1, (r_11.1.2.1, (r_11.1.2.2.1, r_11.1.2.2.2))), (r_11.2.1, ((r_11.2.2.1.1, r_11.2.2.1.2), (r_11.2.2.2.1, ((r_11.2.2.2.2.1.1, (r_11.2.2.2.2.1.2.1, (r_11.2.2.2.2.1.2.2.1, r_11.2.2.2.2.1.2.2.2))), (r_11.2.2.2.2.2.1, ((r_11.2.2.2.2.2.2.1.1, r_11.2.2.2.2.2.2.1.2), r_11.2.2.2.2.2.2.2)))))))).bind fun r_12 => (if (!r_12) = true then some false else some true)))))
def fe_laws_FnExactSameDesk (k : Nat) : FE := ⟨(.pr (.st (.pr (.st (.pr (.st (.sl 54 (.sl 2 (.int .i64)))) (.pr (.int .i64) (.pr (.sl 2 (.int .i64)) (.sl 62 (.st (.pr (.int .i64) (.pr (.int .i64) (.pr (.int .i64) (.sl 2 (.int .i64))))))))))) (.pr (.sl 2 (.int .i64)) (.pr (.st (.pr (.int .i64) (.sl 250 (.st (.pr (.int .i64) (.pr (.int .i64) (.int .i64))))))) (.pr (.sl 2 (.int .i64)) (.pr (.st (.pr (.int .i64) (.pr (.int .i64) (.pr (.int .i64) (.sl 2 (.int .i64)))))) (.pr (.sl 200 (.st (.pr (.sl 2 (.int .i64)) (.sl 54 (.sl 2 (.int .i64)))))) (.pr (.st (.pr (.st (.sl 54 (.sl 2 (.int .i64)))) (.sl 2 (.int .i64)))) (.sl 151 (.st (.pr .str (.pr (.sl 9 .str) (.pr (.int .i64) (.int .i64)))))))))))))) (.st (.pr (.st (.pr (.st (.sl 54 (.sl 2 (.int .i64)))) (.pr (.int .i64) (.pr (.sl 2 (.int .i64)) (.sl 62 (.st (.pr (.int .i64) (.pr (.int .i64) (.pr (.int .i64) (.sl 2 (.int .i64))))))))))) (.pr (.sl 2 (.int .i64)) (.pr (.st (.pr (.int .i64) (.sl 250 (.st (.pr (.int .i64) (.pr (.int .i64) (.int .i64))))))) (.pr (.sl 2 (.int .i64)) (.pr (.st (.pr (.int .i64) (.pr (.int .i64) (.pr (.int .i64) (.sl 2 (.int .i64)))))) (.pr (.sl 200 (.st (.pr (.sl 2 (.int .i64)) (.sl 54 (.sl 2 (.int .i64)))))) (.pr (.st (.pr (.st (.sl 54 (.sl 2 (.int .i64)))) (.sl 2 (.int .i64)))) (.sl 151 (.st (.pr .str (.pr (.sl 9 .str) (.pr (.int .i64) (.int .i64))))))))))))))), 1, .bool, fun x => laws_FnExactSameDesk k x.1 x.2⟩
theorem ok_laws_FnExactSameDesk (k : Nat) : FnOK Try.prog 7 (fe_laws_FnExactSameDesk k) := by
  refine closed_ok (tab := [(34, fe_laws_szDesk k), (36, fe_laws_toDesk k), (35, fe_spec_SameDesk k), (37, fe_impl_SameDesk k), (38, fe_laws_eqDesk k)]) (l := []) ti_ok ti_ht mix (List.forall_mem_cons.2 ⟨ok_laws_szDesk k, (List.forall_mem_cons.2 ⟨ok_laws_toDesk k, (List.forall_mem_cons.2 ⟨ok_spec_SameDesk k, (List.forall_mem_cons.2 ⟨ok_impl_SameDesk k, (List.forall_mem_cons.2 ⟨ok_laws_eqDesk k, (List.forall_mem_nil _)⟩)⟩)⟩)⟩)⟩) (List.forall_mem_nil _) ⟨⟨Try.f7, (codeOf Try.f7), [.tmp 4], (LOn Bool), by kernel_rfl, by kernel_rfl, by kernel_rfl, by kernel_rfl, rfl, by decide, ⟨by kernel_rfl, ?_, ?_⟩, ?_⟩⟩
  · exact no_loops (by kernel_rfl)
  · exact no_cuts (by kernel_rfl)
  · rintro ⟨aA0, aB1⟩
    kernel_rfl
/- 197 loop.example/g01005/spec.l01Small -/
def spec_l01Small (c0 : Int) : Option Bool := (if (decide (97 ≤ c0)) = true then some (decide (c0 ≤ 122)) else some false)
def fe_spec_l01Small : FE := ⟨(.int .u8), 1, .bool, fun x => spec_l01Small x⟩
theorem ok_spec_l01Small : FnOK Try.prog 197 (fe_spec_l01Small) := by
  refine closed_ok (tab := []) (l := []) ti_ok ti_ht mix (List.forall_mem_nil _) (List.forall_mem_nil _) ⟨⟨Try.f197, (codeOf Try.f197), [.tmp 2], (LOn Bool), by kernel_rfl, by kernel_rfl, by kernel_rfl, by kernel_rfl, rfl, by decide, ⟨by kernel_rfl, ?_, ?_⟩, ?_⟩⟩
  · exact no_loops (by kernel_rfl)
  · exact no_cuts (by kernel_rfl)
  · rintro c0
    kernel_rfl
/- 198 loop.example/g01005/spec.l01Digit -/
def spec_l01Digit (c0 : Int) : Option Bool := (if (decide (48 ≤ c0)) = true then some (decide (c0 ≤ 57)) else some false)
def fe_spec_l01Digit : FE := ⟨(.int .u8), 1, .bool, fun x => spec_l01Digit x⟩
theorem ok_spec_l01Digit : FnOK Try.prog 198 (fe_spec_l01Digit) := by
  refine closed_ok (tab := []) (l := []) ti_ok ti_ht mix (List.forall_mem_nil _) (List.forall_mem_nil _) ⟨⟨Try.f198, (codeOf Try.f198), [.tmp 2], (LOn Bool), by kernel_rfl, by kernel_rfl, by kernel_rfl, by kernel_rfl, rfl, by decide, ⟨by kernel_rfl, ?_, ?_⟩, ?_⟩⟩
  · exact no_loops (by kernel_rfl)
  · exact no_cuts (by kernel_rfl)
  · rintro c0
    kernel_rfl
/- 132 loop.example/g01005/spec.l01Name -/
def spec_l01Name_l0 (k : Nat) : Nat → (List UInt8) → Int → (Option Bool) → Option Bool
  | 0, _, _, _ => none
  | n + 1, s0, i3, e_0 => (if (decide (i3 < (List.length s0 : Int))) = true then (if 0 ≤ i3 then (s0[i3.toNat]?).bind fun b_3 => (spec_l01Small (z_u8 b_3)).bind fun r_4 => (if (!r_4) = true then (if 0 ≤ i3 then (s0[i3.toNat]?).bind fun b_5 => (spec_l01Digit (z_u8 b_5)).bind fun r_6 => (if (!r_6) = true then some false else spec_l01Name_l0 k n s0 (w_i64 (i3 + 1)) e_0) else none) else spec_l01Name_l0 k n s0 (w_i64 (i3 + 1)) e_0) else none) else e_0)
def spec_l01Name (k : Nat) (s0 : List UInt8) : Option Bool := (if (decide (s0 = [])) = true then some false else (if (decide (10 < (List.length s0 : Int))) = true then some false else (s0[0]?).bind fun b_1 => (spec_l01Small (z_u8 b_1)).bind fun r_2 => (if (!r_2) = true then some false else spec_l01Name_l0 k k s0 0 (some true))))
def spec_l01Name_l0_h : Head := ⟨[(0, (.val .str)), (3, (.val (.int .i64)))], [], []⟩
def spec_l01Name_l0_x0 : Head := ⟨[], [], []⟩
def spec_l01Name_l0_F (k n : Nat) (x : spec_l01Name_l0_h.T) (kx : Nat → St → Option Bool) : Option Bool := spec_l01Name_l0 k n x.1.1 x.1.2.1 (kx 0 (spec_l01Name_l0_x0.fill ((), (), ())))
def spec_l01Name_O (k : Nat) : Oracles Bool := ⟨fun n => bif Nat.beq n 4 then some (fun σ kx => spec_l01Name_l0_h.get σ fun x => spec_l01Name_l0_F k k x kx) else none, fun _ => none⟩
def fe_spec_l01Name (k : Nat) : FE := ⟨.str, 1, .bool, fun x => spec_l01Name k x⟩
theorem spec_l01Name_l0_ok (k : Nat) : LoopOK (mkEnv ti [(197, fe_spec_l01Small), (198, fe_spec_l01Digit)] (lk []) pins0 pinB0) (spec_l01Name_O k) (rdC (mkEnv ti [(197, fe_spec_l01Small), (198, fe_spec_l01Digit)] (lk []) pins0 pinB0) [.tmp 2] .bool) ((loopsOf (codeOf Try.f132)).getD 0 .skip) (fun σ kx => spec_l01Name_l0_h.get σ fun x => spec_l01Name_l0_F k k x kx) := by
  refine ⟨spec_l01Name_l0_h, [(0, spec_l01Name_l0_x0)], fun n x kx => spec_l01Name_l0_F k n x kx, k, by kernel_rfl, by kernel_rfl, fun x kx => by kernel_rfl, ?_, fun σ kx => rfl⟩
  rintro n ⟨⟨s0, i3, ⟨⟩⟩, ⟨⟩, ⟨⟩⟩ kx
  kernel_rfl
theorem ok_spec_l01Name (k : Nat) : FnOK Try.prog 132 (fe_spec_l01Name k) := by
  refine closed_ok (tab := [(197, fe_spec_l01Small), (198, fe_spec_l01Digit)]) (l := []) ti_ok ti_ht mix (List.forall_mem_cons.2 ⟨ok_spec_l01Small, (List.forall_mem_cons.2 ⟨ok_spec_l01Digit, (List.forall_mem_nil _)⟩)⟩) (List.forall_mem_nil _) ⟨⟨Try.f132, (codeOf Try.f132), [.tmp 2], (spec_l01Name_O k), by kernel_rfl, by kernel_rfl, by kernel_rfl, by kernel_rfl, rfl, by decide, ⟨by kernel_rfl, ?_, ?_⟩, ?_⟩⟩
  · refine loops_of (n := 1) (by kernel_rfl) fun i hi => ?_
    match i, hi with
    | 0, _ => exact loop_of (by kernel_rfl) (spec_l01Name_l0_ok k)
    | n + 1, hi => omega
  · exact no_cuts (by kernel_rfl)
  · rintro s0
    kernel_rfl
/- 202 loop.example/g01005/spec.l00In -/
def spec_l00In (n0 : Int) (low1 : Int) (high2 : Int) : Option Bool := (if (decide (low1 ≤ n0)) = true then some (decide (n0 ≤ high2)) else some false)
def fe_spec_l00In : FE := ⟨(.pr (.int .i64) (.pr (.int .i64) (.int .i64))), 1, .bool, fun x => spec_l00In x.1 x.2.1 x.2.2⟩
theorem ok_spec_l00In : FnOK Try.prog 202 (fe_spec_l00In) := by
  refine closed_ok (tab := []) (l := []) ti_ok ti_ht mix (List.forall_mem_nil _) (List.forall_mem_nil _) ⟨⟨Try.f202, (codeOf Try.f202), [.tmp 6], (LOn Bool), by kernel_rfl, by kernel_rfl, by kernel_rfl, by kernel_rfl, rfl, by decide, ⟨by kernel_rfl, ?_, ?_⟩, ?_⟩⟩
  · exact no_loops (by kernel_rfl)
  · exact no_cuts (by kernel_rfl)
  · rintro ⟨n0, low1, high2⟩
    kernel_rfl
/- 125 loop.example/g01005/spec.l28Find -/
def spec_l28Find_l0 (k : Nat) : Nat → (List (List UInt8 × List (List UInt8) × Int × Int)) → (List UInt8) → Int → (Option Int) → Option Int
  | 0, _, _, _, _ => none
  | n + 1, list0, name1, i5, e_0 => (if (decide (i5 < (List.length list0 : Int))) = true then (if 0 ≤ i5 then (list0[i5.toNat]?).bind fun y_1 => (if (decide (y_1.1 = name1)) = true then some i5 else spec_l28Find_l0 k n list0 name1 (w_i64 (i5 + 1)) e_0) else none) else e_0)
def spec_l28Find (k : Nat) (list0 : List (List UInt8 × List (List UInt8) × Int × Int)) (name1 : List UInt8) : Option Int := spec_l28Find_l0 k k list0 name1 0 (some (-1))
def spec_l28Find_l0_h : Head := ⟨[(0, (.val (.sl 156 (.st (.pr .str (.pr (.sl 9 .str) (.pr (.int .i64) (.int .i64)))))))), (1, (.val .str)), (5, (.val (.int .i64)))], [], []⟩
def spec_l28Find_l0_x0 : Head := ⟨[], [], []⟩
def spec_l28Find_l0_F (k n : Nat) (x : spec_l28Find_l0_h.T) (kx : Nat → St → Option Int) : Option Int := spec_l28Find_l0 k n x.1.1 x.1.2.1 x.1.2.2.1 (kx 0 (spec_l28Find_l0_x0.fill ((), (), ())))
def spec_l28Find_O (k : Nat) : Oracles Int := ⟨fun n => bif Nat.beq n 2 then some (fun σ kx => spec_l28Find_l0_h.get σ fun x => spec_l28Find_l0_F k k x kx) else none, fun _ => none⟩
def fe_spec_l28Find (k : Nat) : FE := ⟨(.pr (.sl 156 (.st (.pr .str (.pr (.sl 9 .str) (.pr (.int .i64) (.int .i64)))))) .str), 1, (.int .i64), fun x => spec_l28Find k x.1 x.2⟩
theorem spec_l28Find_l0_ok (k : Nat) : LoopOK (mkEnv ti [] (lk []) pins0 pinB0) (spec_l28Find_O k) (rdC (mkEnv ti [] (lk []) pins0 pinB0) [.tmp 4] (.int .i64)) ((loopsOf (codeOf Try.f125)).getD 0 .skip) (fun σ kx => spec_l28Find_l0_h.get σ fun x => spec_l28Find_l0_F k k x kx) := by
  refine ⟨spec_l28Find_l0_h, [(0, spec_l28Find_l0_x0)], fun n x kx => spec_l28Find_l0_F k n x kx, k, by kernel_rfl, by kernel_rfl, fun x kx => by kernel_rfl, ?_, fun σ kx => rfl⟩
  rintro n ⟨⟨list0, name1, i5, ⟨⟩⟩, ⟨⟩, ⟨⟩⟩ kx
  kernel_rfl
theorem ok_spec_l28Find (k : Nat) : FnOK Try.prog 125 (fe_spec_l28Find k) := by
  refine closed_ok (tab := []) (l := []) ti_ok ti_ht mix (List.forall_mem_nil _) (List.forall_mem_nil _) ⟨⟨Try.f125, (codeOf Try.f125), [.tmp 4], (spec_l28Find_O k), by kernel_rfl, by kernel_rfl, by kernel_rfl, by kernel_rfl, rfl, by decide, ⟨by kernel_rfl, ?_, ?_⟩, ?_⟩⟩
  · refine loops_of (n := 1) (by kernel_rfl) fun i hi => ?_
    match i, hi with
    | 0, _ => exact loop_of (by kernel_rfl) (spec_l28Find_l0_ok k)
    | n + 1, hi => omega
  · exact no_cuts (by kernel_rfl)
  · rintro ⟨list0, name1⟩
    kernel_rfl
/- 181 loop.example/g01005/spec.l28Form -/
def spec_l28Form_l1 (k : Nat) : Nat → (List (List UInt8 × List (List UInt8) × Int × Int)) → Int → Int → (List UInt8 × List (List UInt8) × Int × Int) → ((List (List UInt8 × List (List UInt8) × Int × Int)) → Int → Option Bool) → Option Bool
  | 0, _, _, _, _, _ => none
  | n + 1, list0, i3, k5, v_4, e_2 => (if (decide (k5 < (List.length v_4.2.1 : Int))) = true then (if 0 ≤ k5 then (v_4.2.1[k5.toNat]?).bind fun y_6 => (spec_l28Find k list0 y_6).bind fun r_7 => (if (decide (r_7 < 0)) = true then some false else (if (decide (0 < k5)) = true then (if 0 ≤ (w_i64 (k5 - 1)) then (v_4.2.1[(w_i64 (k5 - 1)).toNat]?).bind fun y_8 => (if 0 ≤ k5 then (v_4.2.1[k5.toNat]?).bind fun y_9 => (if (!(Op.bytesLess y_8 y_9)) = true then some false else spec_l28Form_l1 k n list0 i3 (w_i64 (k5 + 1)) v_4 e_2) else none) else none) else spec_l28Form_l1 k n list0 i3 (w_i64 (k5 + 1)) v_4 e_2)) else none) else e_2 list0 i3)
def spec_l28Form_l0 (k : Nat) : Nat → (List (List UInt8 × List (List UInt8) × Int × Int)) → Int → ((List (List UInt8 × List (List UInt8) × Int × Int)) → Option Bool) → Option Bool
  | 0, _, _, _ => none
  | n + 1, list0, i3, e_0 => (if (decide (i3 < (List.length list0 : Int))) = true then (if 0 ≤ i3 then (list0[i3.toNat]?).bind fun y_1 => (spec_l01Name k y_1.1).bind fun r_2 => (if (!r_2) = true then some false else (if (decide (0 < i3)) = true then (if 0 ≤ (w_i64 (i3 - 1)) then (list0[(w_i64 (i3 - 1)).toNat]?).bind fun y_3 => (if (!(Op.bytesLess y_3.1 y_1.1)) = true then some false else (spec_l00In y_1.2.2.1 0 1000000).bind fun r_4 => (if (!r_4) = true then some false else (spec_l00In y_1.2.2.2 0 1000).bind fun r_5 => (if (!r_5) = true then some false else spec_l28Form_l1 k k list0 i3 0 y_1 (fun list_6 i_7 => spec_l28Form_l0 k n list_6 (w_i64 (i_7 + 1)) e_0)))) else none) else (spec_l00In y_1.2.2.1 0 1000000).bind fun r_8 => (if (!r_8) = true then some false else (spec_l00In y_1.2.2.2 0 1000).bind fun r_9 => (if (!r_9) = true then some false else spec_l28Form_l1 k k list0 i3 0 y_1 (fun list_10 i_11 => spec_l28Form_l0 k n list_10 (w_i64 (i_11 + 1)) e_0))))) else none) else e_0 list0)
def spec_l28Form (k : Nat) (list0 : List (List UInt8 × List (List UInt8) × Int × Int)) : Option Bool := spec_l28Form_l0 k k list0 0 (fun list_12 => some (decide ((List.length list_12 : Int) ≤ 16)))
def spec_l28Form_l1_h : Head := ⟨[(0, (.val (.sl 156 (.st (.pr .str (.pr (.sl 9 .str) (.pr (.int .i64) (.int .i64)))))))), (3, (.val (.int .i64))), (4, (.bp 4 [] 0)), (5, (.val (.int .i64)))], [], [(4, 156, (.val (.st (.pr .str (.pr (.sl 9 .str) (.pr (.int .i64) (.int .i64)))))))]⟩
def spec_l28Form_l1_x2 : Head := ⟨[(0, (.val (.sl 156 (.st (.pr .str (.pr (.sl 9 .str) (.pr (.int .i64) (.int .i64)))))))), (3, (.val (.int .i64)))], [], []⟩
def spec_l28Form_l1_F (k n : Nat) (x : spec_l28Form_l1_h.T) (kx : Nat → St → Option Bool) : Option Bool := spec_l28Form_l1 k n x.1.1 x.1.2.1 x.1.2.2.2.1 x.2.2.1 (fun (list0 : List (List UInt8 × List (List UInt8) × Int × Int)) (i3 : Int) => kx 2 (spec_l28Form_l1_x2.fill ((list0, i3, ()), (), ())))
def spec_l28Form_l0_h : Head := ⟨[(0, (.val (.sl 156 (.st (.pr .str (.pr (.sl 9 .str) (.pr (.int .i64) (.int .i64)))))))), (3, (.val (.int .i64)))], [], []⟩
def spec_l28Form_l0_x0 : Head := ⟨[(0, (.val (.sl 156 (.st (.pr .str (.pr (.sl 9 .str) (.pr (.int .i64) (.int .i64))))))))], [], []⟩
def spec_l28Form_l0_F (k n : Nat) (x : spec_l28Form_l0_h.T) (kx : Nat → St → Option Bool) : Option Bool := spec_l28Form_l0 k n x.1.1 x.1.2.1 (fun (list0 : List (List UInt8 × List (List UInt8) × Int × Int)) => kx 0 (spec_l28Form_l0_x0.fill ((list0, ()), (), ())))
def spec_l28Form_O (k : Nat) : Oracles Bool := ⟨fun n => bif Nat.beq n 8 then some (fun σ kx => spec_l28Form_l1_h.get σ fun x => spec_l28Form_l1_F k k x kx) else bif Nat.beq n 2 then some (fun σ kx => spec_l28Form_l0_h.get σ fun x => spec_l28Form_l0_F k k x kx) else none, fun _ => none⟩
def fe_spec_l28Form (k : Nat) : FE := ⟨(.sl 156 (.st (.pr .str (.pr (.sl 9 .str) (.pr (.int .i64) (.int .i64)))))), 1, .bool, fun x => spec_l28Form k x⟩
theorem spec_l28Form_l1_ok (k : Nat) : LoopOK (mkEnv ti [(132, fe_spec_l01Name k), (202, fe_spec_l00In), (125, fe_spec_l28Find k)] (lk []) pins0 pinB0) (spec_l28Form_O k) (rdC (mkEnv ti [(132, fe_spec_l01Name k), (202, fe_spec_l00In), (125, fe_spec_l28Find k)] (lk []) pins0 pinB0) [.tmp 2] .bool) ((loopsOf (codeOf Try.f181)).getD 1 .skip) (fun σ kx => spec_l28Form_l1_h.get σ fun x => spec_l28Form_l1_F k k x kx) := by
  refine ⟨spec_l28Form_l1_h, [(2, spec_l28Form_l1_x2)], fun n x kx => spec_l28Form_l1_F k n x kx, k, by kernel_rfl, by kernel_rfl, fun x kx => by kernel_rfl, ?_, fun σ kx => rfl⟩
  rintro n ⟨⟨list0, i3, ⟨⟩, k5, ⟨⟩⟩, ⟨⟩, ⟨v_4, ⟨⟩⟩⟩ kx
  kernel_rfl
theorem spec_l28Form_l0_ok (k : Nat) : LoopOK (mkEnv ti [(132, fe_spec_l01Name k), (202, fe_spec_l00In), (125, fe_spec_l28Find k)] (lk []) pins0 pinB0) (spec_l28Form_O k) (rdC (mkEnv ti [(132, fe_spec_l01Name k), (202, fe_spec_l00In), (125, fe_spec_l28Find k)] (lk []) pins0 pinB0) [.tmp 2] .bool) ((loopsOf (codeOf Try.f181)).getD 0 .skip) (fun σ kx => spec_l28Form_l0_h.get σ fun x => spec_l28Form_l0_F k k x kx) := by
  refine ⟨spec_l28Form_l0_h, [(0, spec_l28Form_l0_x0)], fun n x kx => spec_l28Form_l0_F k n x kx, k, by kernel_rfl, by kernel_rfl, fun x kx => by kernel_rfl, ?_, fun σ kx => rfl⟩
  rintro n ⟨⟨list0, i3, ⟨⟩⟩, ⟨⟩, ⟨⟩⟩ kx
  kernel_rfl
theorem ok_spec_l28Form (k : Nat) : FnOK Try.prog 181 (fe_spec_l28Form k) := by
  refine closed_ok (tab := [(132, fe_spec_l01Name k), (202, fe_spec_l00In), (125, fe_spec_l28Find k)]) (l := []) ti_ok ti_ht mix (List.forall_mem_cons.2 ⟨ok_spec_l01Name k, (List.forall_mem_cons.2 ⟨ok_spec_l00In, (List.forall_mem_cons.2 ⟨ok_spec_l28Find k, (List.forall_mem_nil _)⟩)⟩)⟩) (List.forall_mem_nil _) ⟨⟨Try.f181, (codeOf Try.f181), [.tmp 2], (spec_l28Form_O k), by kernel_rfl, by kernel_rfl, by kernel_rfl, by kernel_rfl, rfl, by decide, ⟨by kernel_rfl, ?_, ?_⟩, ?_⟩⟩
  · refine loops_of (n := 2) (by kernel_rfl) fun i hi => ?_
    match i, hi with
    | 0, _ => exact loop_of (by kernel_rfl) (spec_l28Form_l0_ok k)
    | 1, _ => exact loop_of (by kernel_rfl) (spec_l28Form_l1_ok k)
    | n + 2, hi => omega
  · exact no_cuts (by kernel_rfl)
  · rintro list0
    kernel_rfl
/- 182 loop.example/g01005/spec.l28Order -/
def spec_l28Order_l2 (k : Nat) : Nat → (List (List UInt8 × List (List UInt8) × Int × Int)) → Int → Int → Bool → Int → (List Int) → (List Bool) → ((List (List UInt8 × List (List UInt8) × Int × Int)) → Int → Int → Bool → (List Int) → (List Bool) → Option (List Int)) → Option (List Int)
  | 0, _, _, _, _, _, _, _, _ => none
  | n + 1, list0, next5, i6, ready7, k8, q_6, q_7, e_4 => (if 0 ≤ i6 then (list0[i6.toNat]?).bind fun y_8 => (if (decide (k8 < (List.length y_8.2.1 : Int))) = true then (if ready7 = true then (if 0 ≤ i6 then (list0[i6.toNat]?).bind fun y_9 => (if 0 ≤ k8 then (y_9.2.1[k8.toNat]?).bind fun y_10 => (spec_l28Find k list0 y_10).bind fun r_11 => (if 0 ≤ r_11 ∧ r_11.toNat < List.length q_7 then (q_7[r_11.toNat]?).bind fun y_12 => spec_l28Order_l2 k n list0 next5 i6 y_12 (w_i64 (k8 + 1)) q_6 q_7 e_4 else none) else none) else none) else e_4 list0 next5 i6 ready7 q_6 q_7) else e_4 list0 next5 i6 ready7 q_6 q_7) else none)
def spec_l28Order_l1 (k : Nat) : Nat → (List (List UInt8 × List (List UInt8) × Int × Int)) → Int → Int → (List Int) → (List Bool) → ((List (List UInt8 × List (List UInt8) × Int × Int)) → Int → (List Int) → (List Bool) → Option (List Int)) → Option (List Int)
  | 0, _, _, _, _, _, _ => none
  | n + 1, list0, next5, i6, q_3, q_4, e_2 => (if (decide (i6 < (List.length list0 : Int))) = true then (if (decide (next5 < 0)) = true then (if 0 ≤ i6 ∧ i6.toNat < List.length q_4 then (q_4[i6.toNat]?).bind fun y_5 => spec_l28Order_l2 k k list0 next5 i6 (!y_5) 0 q_3 q_4 (fun list_6 next_7 i_8 ready_9 q_10 q_11 => (if ready_9 = true then spec_l28Order_l1 k n list_6 i_8 (w_i64 (i_8 + 1)) q_10 q_11 e_2 else spec_l28Order_l1 k n list_6 next_7 (w_i64 (i_8 + 1)) q_10 q_11 e_2)) else none) else e_2 list0 next5 q_3 q_4) else e_2 list0 next5 q_3 q_4)
def spec_l28Order_l0 (k : Nat) : Nat → (List (List UInt8 × List (List UInt8) × Int × Int)) → (List Int) → (List Bool) → ((List Int) → Option (List Int)) → Option (List Int)
  | 0, _, _, _, _ => none
  | n + 1, list0, q_1, q_2, e_0 => (if (decide ((List.length q_1 : Int) < (List.length list0 : Int))) = true then spec_l28Order_l1 k k list0 (-1) 0 q_1 q_2 (fun list_3 next_4 q_5 q_6 => (if (decide (next_4 < 0)) = true then some q_5 else (if 0 ≤ next_4 ∧ next_4.toNat < List.length q_6 then (q_6[next_4.toNat]?).bind fun y_7 => (q_6[next_4.toNat]?).bind fun y_8 => (if (q_5.length + [next_4].length) * 8 ≤ LIM then spec_l28Order_l0 k n list_3 (q_5 ++ [next_4]) (q_6.set next_4.toNat true) e_0 else none) else none))) else e_0 q_1)
def spec_l28Order (k : Nat) (list0 : List (List UInt8 × List (List UInt8) × Int × Int)) : Option (List Int) := (if 0 ≤ (List.length list0 : Int) ∧ (List.length list0 : Int) ≤ (List.length list0 : Int) ∧ (List.length list0 : Int) * 1 ≤ LIM then spec_l28Order_l0 k k list0 [] (List.replicate (List.length list0) false) (fun q_9 => some q_9) else none)
def spec_l28Order_l2_h : Head := ⟨[(0, (.val (.sl 156 (.st (.pr .str (.pr (.sl 9 .str) (.pr (.int .i64) (.int .i64)))))))), (3, (.ref 64000000 [])), (4, (.ref 64000001 [])), (5, (.val (.int .i64))), (6, (.val (.int .i64))), (7, (.val .bool)), (8, (.val (.int .i64)))], [(64000000, 3, (.int .i64), false), (64000001, 4, .bool, false)], []⟩
def spec_l28Order_l2_x4 : Head := ⟨[(0, (.val (.sl 156 (.st (.pr .str (.pr (.sl 9 .str) (.pr (.int .i64) (.int .i64)))))))), (3, (.ref 64000000 [])), (4, (.ref 64000001 [])), (5, (.val (.int .i64))), (6, (.val (.int .i64))), (7, (.val .bool))], [(64000000, 3, (.int .i64), false), (64000001, 4, .bool, false)], []⟩
def spec_l28Order_l2_F (k n : Nat) (x : spec_l28Order_l2_h.T) (kx : Nat → St → Option (List Int)) : Option (List Int) := spec_l28Order_l2 k n x.1.1 x.1.2.2.2.1 x.1.2.2.2.2.1 x.1.2.2.2.2.2.1 x.1.2.2.2.2.2.2.1 x.2.1.1 x.2.1.2.1 (fun (list0 : List (List UInt8 × List (List UInt8) × Int × Int)) (next5 : Int) (i6 : Int) (ready7 : Bool) (q_13 : List Int) (q_14 : List Bool) => kx 4 (spec_l28Order_l2_x4.fill ((list0, (), (), next5, i6, ready7, ()), (q_13, q_14, ()), ())))
def spec_l28Order_l1_h : Head := ⟨[(0, (.val (.sl 156 (.st (.pr .str (.pr (.sl 9 .str) (.pr (.int .i64) (.int .i64)))))))), (3, (.ref 64000000 [])), (4, (.ref 64000001 [])), (5, (.val (.int .i64))), (6, (.val (.int .i64)))], [(64000000, 3, (.int .i64), false), (64000001, 4, .bool, false)], []⟩
def spec_l28Order_l1_x2 : Head := ⟨[(0, (.val (.sl 156 (.st (.pr .str (.pr (.sl 9 .str) (.pr (.int .i64) (.int .i64)))))))), (3, (.ref 64000000 [])), (4, (.ref 64000001 [])), (5, (.val (.int .i64)))], [(64000000, 3, (.int .i64), false), (64000001, 4, .bool, false)], []⟩
def spec_l28Order_l1_F (k n : Nat) (x : spec_l28Order_l1_h.T) (kx : Nat → St → Option (List Int)) : Option (List Int) := spec_l28Order_l1 k n x.1.1 x.1.2.2.2.1 x.1.2.2.2.2.1 x.2.1.1 x.2.1.2.1 (fun (list0 : List (List UInt8 × List (List UInt8) × Int × Int)) (next5 : Int) (q_19 : List Int) (q_20 : List Bool) => kx 2 (spec_l28Order_l1_x2.fill ((list0, (), (), next5, ()), (q_19, q_20, ()), ())))
def spec_l28Order_l0_h : Head := ⟨[(0, (.val (.sl 156 (.st (.pr .str (.pr (.sl 9 .str) (.pr (.int .i64) (.int .i64)))))))), (3, (.ref 64000000 [])), (4, (.ref 64000001 []))], [(64000000, 3, (.int .i64), false), (64000001, 4, .bool, false)], []⟩
def spec_l28Order_l0_x0 : Head := ⟨[(3, (.ref 64000000 []))], [(64000000, 3, (.int .i64), false)], []⟩
def spec_l28Order_l0_F (k n : Nat) (x : spec_l28Order_l0_h.T) (kx : Nat → St → Option (List Int)) : Option (List Int) := spec_l28Order_l0 k n x.1.1 x.2.1.1 x.2.1.2.1 (fun (q_18 : List Int) => kx 0 (spec_l28Order_l0_x0.fill (((), ()), (q_18, ()), ())))
def spec_l28Order_O (k : Nat) : Oracles (List Int) := ⟨fun n => bif Nat.beq n 10 then some (fun σ kx => spec_l28Order_l2_h.get σ fun x => spec_l28Order_l2_F k k x kx) else bif Nat.beq n 6 then some (fun σ kx => spec_l28Order_l1_h.get σ fun x => spec_l28Order_l1_F k k x kx) else bif Nat.beq n 3 then some (fun σ kx => spec_l28Order_l0_h.get σ fun x => spec_l28Order_l0_F k k x kx) else none, fun _ => none⟩
def fe_spec_l28Order (k : Nat) : FE := ⟨(.sl 156 (.st (.pr .str (.pr (.sl 9 .str) (.pr (.int .i64) (.int .i64)))))), 1, (.sl 3 (.int .i64)), fun x => spec_l28Order k x⟩
theorem spec_l28Order_l2_ok (k : Nat) : LoopOK (mkEnv ti [(125, fe_spec_l28Find k)] (lk []) pins0 pinB0) (spec_l28Order_O k) (rdC (mkEnv ti [(125, fe_spec_l28Find k)] (lk []) pins0 pinB0) [.tmp 2] (.sl 3 (.int .i64))) ((loopsOf (codeOf Try.f182)).getD 2 .skip) (fun σ kx => spec_l28Order_l2_h.get σ fun x => spec_l28Order_l2_F k k x kx) := by
  refine ⟨spec_l28Order_l2_h, [(4, spec_l28Order_l2_x4)], fun n x kx => spec_l28Order_l2_F k n x kx, k, by kernel_rfl, by kernel_rfl, fun x kx => by kernel_rfl, ?_, fun σ kx => rfl⟩
  rintro n ⟨⟨list0, ⟨⟩, ⟨⟩, next5, i6, ready7, k8, ⟨⟩⟩, ⟨q_6, q_7, ⟨⟩⟩, ⟨⟩⟩ kx
  kernel_rfl
theorem spec_l28Order_l1_ok (k : Nat) : LoopOK (mkEnv ti [(125, fe_spec_l28Find k)] (lk []) pins0 pinB0) (spec_l28Order_O k) (rdC (mkEnv ti [(125, fe_spec_l28Find k)] (lk []) pins0 pinB0) [.tmp 2] (.sl 3 (.int .i64))) ((loopsOf (codeOf Try.f182)).getD 1 .skip) (fun σ kx => spec_l28Order_l1_h.get σ fun x => spec_l28Order_l1_F k k x kx) := by
  refine ⟨spec_l28Order_l1_h, [(2, spec_l28Order_l1_x2)], fun n x kx => spec_l28Order_l1_F k n x kx, k, by kernel_rfl, by kernel_rfl, fun x kx => by kernel_rfl, ?_, fun σ kx => rfl⟩
  rintro n ⟨⟨list0, ⟨⟩, ⟨⟩, next5, i6, ⟨⟩⟩, ⟨q_3, q_4, ⟨⟩⟩, ⟨⟩⟩ kx
  kernel_rfl
theorem spec_l28Order_l0_ok (k : Nat) : LoopOK (mkEnv ti [(125, fe_spec_l28Find k)] (lk []) pins0 pinB0) (spec_l28Order_O k) (rdC (mkEnv ti [(125, fe_spec_l28Find k)] (lk []) pins0 pinB0) [.tmp 2] (.sl 3 (.int .i64))) ((loopsOf (codeOf Try.f182)).getD 0 .skip) (fun σ kx => spec_l28Order_l0_h.get σ fun x => spec_l28Order_l0_F k k x kx) := by
  refine ⟨spec_l28Order_l0_h, [(0, spec_l28Order_l0_x0)], fun n x kx => spec_l28Order_l0_F k n x kx, k, by kernel_rfl, by kernel_rfl, fun x kx => by kernel_rfl, ?_, fun σ kx => rfl⟩
  rintro n ⟨⟨list0, ⟨⟩, ⟨⟩, ⟨⟩⟩, ⟨q_1, q_2, ⟨⟩⟩, ⟨⟩⟩ kx
  kernel_rfl
theorem ok_spec_l28Order (k : Nat) : FnOK Try.prog 182 (fe_spec_l28Order k) := by
  refine closed_ok (tab := [(125, fe_spec_l28Find k)]) (l := []) ti_ok ti_ht mix (List.forall_mem_cons.2 ⟨ok_spec_l28Find k, (List.forall_mem_nil _)⟩) (List.forall_mem_nil _) ⟨⟨Try.f182, (codeOf Try.f182), [.tmp 2], (spec_l28Order_O k), by kernel_rfl, by kernel_rfl, by kernel_rfl, by kernel_rfl, rfl, by decide, ⟨by kernel_rfl, ?_, ?_⟩, ?_⟩⟩
  · refine loops_of (n := 3) (by kernel_rfl) fun i hi => ?_
    match i, hi with
    | 0, _ => exact loop_of (by kernel_rfl) (spec_l28Order_l0_ok k)
    | 1, _ => exact loop_of (by kernel_rfl) (spec_l28Order_l1_ok k)
    | 2, _ => exact loop_of (by kernel_rfl) (spec_l28Order_l2_ok k)
    | n + 3, hi => omega
  · exact no_cuts (by kernel_rfl)
  · rintro list0
    kernel_rfl
/- 115 loop.example/g01005/spec.l28Ok -/
def spec_l28Ok (k : Nat) (list0 : List (List UInt8 × List (List UInt8) × Int × Int)) : Option Bool := (spec_l28Form k list0).bind fun r_1 => (if r_1 = true then (spec_l28Order k list0).bind fun r_2 => some (decide ((List.length r_2 : Int) = (List.length list0 : Int))) else some false)
def fe_spec_l28Ok (k : Nat) : FE := ⟨(.sl 156 (.st (.pr .str (.pr (.sl 9 .str) (.pr (.int .i64) (.int .i64)))))), 1, .bool, fun x => spec_l28Ok k x⟩
theorem ok_spec_l28Ok (k : Nat) : FnOK Try.prog 115 (fe_spec_l28Ok k) := by
  refine closed_ok (tab := [(181, fe_spec_l28Form k), (182, fe_spec_l28Order k)]) (l := []) ti_ok ti_ht mix (List.forall_mem_cons.2 ⟨ok_spec_l28Form k, (List.forall_mem_cons.2 ⟨ok_spec_l28Order k, (List.forall_mem_nil _)⟩)⟩) (List.forall_mem_nil _) ⟨⟨Try.f115, (codeOf Try.f115), [.tmp 2], (LOn Bool), by kernel_rfl, by kernel_rfl, by kernel_rfl, by kernel_rfl, rfl, by decide, ⟨by kernel_rfl, ?_, ?_⟩, ?_⟩⟩
  · exact no_loops (by kernel_rfl)
  · exact no_cuts (by kernel_rfl)
  · rintro list0
    kernel_rfl
end
end Go.Proofs.Ytackggcodaolaaa.Ev
