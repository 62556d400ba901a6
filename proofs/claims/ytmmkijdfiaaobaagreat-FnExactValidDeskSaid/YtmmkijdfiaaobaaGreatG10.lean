/- Functions of the program, as plain ones. No conditions. -/
import Derived.Test.YtmmkijdfiaaobaaGreatG9
import Derived.KernelRfl
set_option linter.unusedVariables false
set_option maxRecDepth 100000
namespace Go.Proofs.YtmmkijdfiaaobaaGreat.Ev
open Go.RowKit
noncomputable section
/- 37 loop.example/g01005/laws.eqTableS -/
def laws_eqTableS_l0 (k : Nat) : Nat → (List (List Int × List (List Int))) → (List (List Int × List (List Int))) → Int → (Option Bool) → Option Bool
  | 0, _, _, _, _ => none
  | n + 1, a0, b1, i5, e_0 => (if (decide (i5 < (List.length a0 : Int))) = true then (if 0 ≤ i5 then (a0[i5.toNat]?).bind fun y_1 => (if 0 ≤ i5 then (b1[i5.toNat]?).bind fun y_2 => (laws_eqTable k y_1 y_2).bind fun r_3 => (if (!r_3) = true then some false else laws_eqTableS_l0 k n a0 b1 (w_i64 (i5 + 1)) e_0) else none) else none) else e_0)
def laws_eqTableS (k : Nat) (a0 : List (List Int × List (List Int))) (b1 : List (List Int × List (List Int))) : Option Bool := (if (!(decide ((List.length a0 : Int) = (List.length b1 : Int)))) = true then some false else laws_eqTableS_l0 k k a0 b1 0 (some true))
def laws_eqTableS_l0_h : Head := ⟨[(0, (.val (.sl 115 (.st (.pr (.sl 2 (.int .i64)) (.sl 25 (.sl 2 (.int .i64)))))))), (1, (.val (.sl 115 (.st (.pr (.sl 2 (.int .i64)) (.sl 25 (.sl 2 (.int .i64)))))))), (5, (.val (.int .i64)))], [], []⟩
def laws_eqTableS_l0_x0 : Head := ⟨[], [], []⟩
def laws_eqTableS_l0_F (k n : Nat) (x : laws_eqTableS_l0_h.T) (kx : Nat → St → Option Bool) : Option Bool := laws_eqTableS_l0 k n x.1.1 x.1.2.1 x.1.2.2.1 (kx 0 (laws_eqTableS_l0_x0.fill ((), (), ())))
def laws_eqTableS_O (k : Nat) : Oracles Bool := ⟨fun n => bif Nat.beq n 4 then some (fun σ kx => laws_eqTableS_l0_h.get σ fun x => laws_eqTableS_l0_F k k x kx) else none, fun _ => none⟩
def fe_laws_eqTableS (k : Nat) : FE := ⟨(.pr (.sl 115 (.st (.pr (.sl 2 (.int .i64)) (.sl 25 (.sl 2 (.int .i64)))))) (.sl 115 (.st (.pr (.sl 2 (.int .i64)) (.sl 25 (.sl 2 (.int .i64))))))), 1, .bool, fun x => laws_eqTableS k x.1 x.2⟩
theorem laws_eqTableS_l0_ok (k : Nat) : LoopOK (mkEnv ti [(87, fe_laws_eqTable k)] (lk []) pins0 pinB0) (laws_eqTableS_O k) (rdC (mkEnv ti [(87, fe_laws_eqTable k)] (lk []) pins0 pinB0) [.tmp 4] .bool) ((loopsOf (codeOf Tryz.f37)).getD 0 .skip) (fun σ kx => laws_eqTableS_l0_h.get σ fun x => laws_eqTableS_l0_F k k x kx) := by
  refine ⟨laws_eqTableS_l0_h, [(0, laws_eqTableS_l0_x0)], fun n x kx => laws_eqTableS_l0_F k n x kx, k, by kernel_rfl, by kernel_rfl, fun x kx => by kernel_rfl, ?_, fun σ kx => rfl⟩
  rintro n ⟨⟨a0, b1, i5, ⟨⟩⟩, ⟨⟩, ⟨⟩⟩ kx
  kernel_rfl
theorem ok_laws_eqTableS (k : Nat) : FnOK Tryz.prog 37 (fe_laws_eqTableS k) := by
  refine closed_ok (tab := [(87, fe_laws_eqTable k)]) (l := []) ti_ok ti_ht mix (List.forall_mem_cons.2 ⟨ok_laws_eqTable k, (List.forall_mem_nil _)⟩) (List.forall_mem_nil _) ⟨⟨Tryz.f37, (codeOf Tryz.f37), [.tmp 4], (laws_eqTableS_O k), by kernel_rfl, by kernel_rfl, by kernel_rfl, by kernel_rfl, rfl, by decide, ⟨by kernel_rfl, ?_, ?_⟩, ?_⟩⟩
  · refine loops_of (n := 1) (by kernel_rfl) fun i hi => ?_
    match i, hi with
    | 0, _ => exact loop_of (by kernel_rfl) (laws_eqTableS_l0_ok k)
    | n + 1, hi => omega
  · exact no_cuts (by kernel_rfl)
  · rintro ⟨a0, b1⟩
    kernel_rfl
/- 38 loop.example/g01005/laws.eqFiltration -/
def laws_eqFiltration (k : Nat) (a0 : List (List Int) × List Int) (b1 : List (List Int) × List Int) : Option Bool := (laws_eqComplex k a0.1 b1.1).bind fun r_1 => (if (!r_1) = true then some false else (laws_eqInt64S k a0.2 b1.2).bind fun r_2 => (if (!r_2) = true then some false else some true))
def fe_laws_eqFiltration (k : Nat) : FE := ⟨(.pr (.st (.pr (.st (.sl 25 (.sl 2 (.int .i64)))) (.sl 2 (.int .i64)))) (.st (.pr (.st (.sl 25 (.sl 2 (.int .i64)))) (.sl 2 (.int .i64))))), 1, .bool, fun x => laws_eqFiltration k x.1 x.2⟩
theorem ok_laws_eqFiltration (k : Nat) : FnOK Tryz.prog 38 (fe_laws_eqFiltration k) := by
  refine closed_ok (tab := [(84, fe_laws_eqComplex k), (34, fe_laws_eqInt64S k)]) (l := []) ti_ok ti_ht mix (List.forall_mem_cons.2 ⟨ok_laws_eqComplex k, (List.forall_mem_cons.2 ⟨ok_laws_eqInt64S k, (List.forall_mem_nil _)⟩)⟩) (List.forall_mem_nil _) ⟨⟨Tryz.f38, (codeOf Tryz.f38), [.tmp 4], (LOn Bool), by kernel_rfl, by kernel_rfl, by kernel_rfl, by kernel_rfl, rfl, by decide, ⟨by kernel_rfl, ?_, ?_⟩, ?_⟩⟩
  · exact no_loops (by kernel_rfl)
  · exact no_cuts (by kernel_rfl)
  · rintro ⟨a0, b1⟩
    kernel_rfl
/- 134 loop.example/g01005/laws.eqStringS -/
def laws_eqStringS_l0 (k : Nat) : Nat → (List (List UInt8)) → (List (List UInt8)) → Int → (Option Bool) → Option Bool
  | 0, _, _, _, _ => none
  | n + 1, a0, b1, i5, e_0 => (if (decide (i5 < (List.length a0 : Int))) = true then (if 0 ≤ i5 then (a0[i5.toNat]?).bind fun y_1 => (if 0 ≤ i5 then (b1[i5.toNat]?).bind fun y_2 => (if (!(decide (y_1 = y_2))) = true then some false else laws_eqStringS_l0 k n a0 b1 (w_i64 (i5 + 1)) e_0) else none) else none) else e_0)
def laws_eqStringS (k : Nat) (a0 : List (List UInt8)) (b1 : List (List UInt8)) : Option Bool := (if (!(decide ((List.length a0 : Int) = (List.length b1 : Int)))) = true then some false else laws_eqStringS_l0 k k a0 b1 0 (some true))
def laws_eqStringS_l0_h : Head := ⟨[(0, (.val (.sl 9 .str))), (1, (.val (.sl 9 .str))), (5, (.val (.int .i64)))], [], []⟩
def laws_eqStringS_l0_x0 : Head := ⟨[], [], []⟩
def laws_eqStringS_l0_F (k n : Nat) (x : laws_eqStringS_l0_h.T) (kx : Nat → St → Option Bool) : Option Bool := laws_eqStringS_l0 k n x.1.1 x.1.2.1 x.1.2.2.1 (kx 0 (laws_eqStringS_l0_x0.fill ((), (), ())))
def laws_eqStringS_O (k : Nat) : Oracles Bool := ⟨fun n => bif Nat.beq n 4 then some (fun σ kx => laws_eqStringS_l0_h.get σ fun x => laws_eqStringS_l0_F k k x kx) else none, fun _ => none⟩
def fe_laws_eqStringS (k : Nat) : FE := ⟨(.pr (.sl 9 .str) (.sl 9 .str)), 1, .bool, fun x => laws_eqStringS k x.1 x.2⟩
theorem laws_eqStringS_l0_ok (k : Nat) : LoopOK (mkEnv ti [] (lk []) pins0 pinB0) (laws_eqStringS_O k) (rdC (mkEnv ti [] (lk []) pins0 pinB0) [.tmp 4] .bool) ((loopsOf (codeOf Tryz.f134)).getD 0 .skip) (fun σ kx => laws_eqStringS_l0_h.get σ fun x => laws_eqStringS_l0_F k k x kx) := by
  refine ⟨laws_eqStringS_l0_h, [(0, laws_eqStringS_l0_x0)], fun n x kx => laws_eqStringS_l0_F k n x kx, k, by kernel_rfl, by kernel_rfl, fun x kx => by kernel_rfl, ?_, fun σ kx => rfl⟩
  rintro n ⟨⟨a0, b1, i5, ⟨⟩⟩, ⟨⟩, ⟨⟩⟩ kx
  kernel_rfl
theorem ok_laws_eqStringS (k : Nat) : FnOK Tryz.prog 134 (fe_laws_eqStringS k) := by
  refine closed_ok (tab := []) (l := []) ti_ok ti_ht mix (List.forall_mem_nil _) (List.forall_mem_nil _) ⟨⟨Tryz.f134, (codeOf Tryz.f134), [.tmp 4], (laws_eqStringS_O k), by kernel_rfl, by kernel_rfl, by kernel_rfl, by kernel_rfl, rfl, by decide, ⟨by kernel_rfl, ?_, ?_⟩, ?_⟩⟩
  · refine loops_of (n := 1) (by kernel_rfl) fun i hi => ?_
    match i, hi with
    | 0, _ => exact loop_of (by kernel_rfl) (laws_eqStringS_l0_ok k)
    | n + 1, hi => omega
  · exact no_cuts (by kernel_rfl)
  · rintro ⟨a0, b1⟩
    kernel_rfl
/- 88 loop.example/g01005/laws.eqItem -/
def laws_eqItem (k : Nat) (a0 : List UInt8 × List (List UInt8) × Int × Int) (b1 : List UInt8 × List (List UInt8) × Int × Int) : Option Bool := (if (!(decide (a0.1 = b1.1))) = true then some false else (laws_eqStringS k a0.2.1 b1.2.1).bind fun r_1 => (if (!r_1) = true then some false else (if (!(decide (a0.2.2.1 = b1.2.2.1))) = true then some false else (if (!(decide (a0.2.2.2 = b1.2.2.2))) = true then some false else some true))))
def fe_laws_eqItem (k : Nat) : FE := ⟨(.pr (.st (.pr .str (.pr (.sl 9 .str) (.pr (.int .i64) (.int .i64))))) (.st (.pr .str (.pr (.sl 9 .str) (.pr (.int .i64) (.int .i64)))))), 1, .bool, fun x => laws_eqItem k x.1 x.2⟩
theorem ok_laws_eqItem (k : Nat) : FnOK Tryz.prog 88 (fe_laws_eqItem k) := by
  refine closed_ok (tab := [(134, fe_laws_eqStringS k)]) (l := []) ti_ok ti_ht mix (List.forall_mem_cons.2 ⟨ok_laws_eqStringS k, (List.forall_mem_nil _)⟩) (List.forall_mem_nil _) ⟨⟨Tryz.f88, (codeOf Tryz.f88), [.tmp 4], (LOn Bool), by kernel_rfl, by kernel_rfl, by kernel_rfl, by kernel_rfl, rfl, by decide, ⟨by kernel_rfl, ?_, ?_⟩, ?_⟩⟩
  · exact no_loops (by kernel_rfl)
  · exact no_cuts (by kernel_rfl)
  · rintro ⟨a0, b1⟩
    kernel_rfl
/- 39 loop.example/g01005/laws.eqItemS -/
def laws_eqItemS_l0 (k : Nat) : Nat → (List (List UInt8 × List (List UInt8) × Int × Int)) → (List (List UInt8 × List (List UInt8) × Int × Int)) → Int → (Option Bool) → Option Bool
  | 0, _, _, _, _ => none
  | n + 1, a0, b1, i5, e_0 => (if (decide (i5 < (List.length a0 : Int))) = true then (if 0 ≤ i5 then (a0[i5.toNat]?).bind fun y_1 => (if 0 ≤ i5 then (b1[i5.toNat]?).bind fun y_2 => (laws_eqItem k y_1 y_2).bind fun r_3 => (if (!r_3) = true then some false else laws_eqItemS_l0 k n a0 b1 (w_i64 (i5 + 1)) e_0) else none) else none) else e_0)
def laws_eqItemS (k : Nat) (a0 : List (List UInt8 × List (List UInt8) × Int × Int)) (b1 : List (List UInt8 × List (List UInt8) × Int × Int)) : Option Bool := (if (!(decide ((List.length a0 : Int) = (List.length b1 : Int)))) = true then some false else laws_eqItemS_l0 k k a0 b1 0 (some true))
def laws_eqItemS_l0_h : Head := ⟨[(0, (.val (.sl 117 (.st (.pr .str (.pr (.sl 9 .str) (.pr (.int .i64) (.int .i64)))))))), (1, (.val (.sl 117 (.st (.pr .str (.pr (.sl 9 .str) (.pr (.int .i64) (.int .i64)))))))), (5, (.val (.int .i64)))], [], []⟩
def laws_eqItemS_l0_x0 : Head := ⟨[], [], []⟩
def laws_eqItemS_l0_F (k n : Nat) (x : laws_eqItemS_l0_h.T) (kx : Nat → St → Option Bool) : Option Bool := laws_eqItemS_l0 k n x.1.1 x.1.2.1 x.1.2.2.1 (kx 0 (laws_eqItemS_l0_x0.fill ((), (), ())))
def laws_eqItemS_O (k : Nat) : Oracles Bool := ⟨fun n => bif Nat.beq n 4 then some (fun σ kx => laws_eqItemS_l0_h.get σ fun x => laws_eqItemS_l0_F k k x kx) else none, fun _ => none⟩
def fe_laws_eqItemS (k : Nat) : FE := ⟨(.pr (.sl 117 (.st (.pr .str (.pr (.sl 9 .str) (.pr (.int .i64) (.int .i64)))))) (.sl 117 (.st (.pr .str (.pr (.sl 9 .str) (.pr (.int .i64) (.int .i64))))))), 1, .bool, fun x => laws_eqItemS k x.1 x.2⟩
theorem laws_eqItemS_l0_ok (k : Nat) : LoopOK (mkEnv ti [(88, fe_laws_eqItem k)] (lk []) pins0 pinB0) (laws_eqItemS_O k) (rdC (mkEnv ti [(88, fe_laws_eqItem k)] (lk []) pins0 pinB0) [.tmp 4] .bool) ((loopsOf (codeOf Tryz.f39)).getD 0 .skip) (fun σ kx => laws_eqItemS_l0_h.get σ fun x => laws_eqItemS_l0_F k k x kx) := by
  refine ⟨laws_eqItemS_l0_h, [(0, laws_eqItemS_l0_x0)], fun n x kx => laws_eqItemS_l0_F k n x kx, k, by kernel_rfl, by kernel_rfl, fun x kx => by kernel_rfl, ?_, fun σ kx => rfl⟩
  rintro n ⟨⟨a0, b1, i5, ⟨⟩⟩, ⟨⟩, ⟨⟩⟩ kx
  kernel_rfl
theorem ok_laws_eqItemS (k : Nat) : FnOK Tryz.prog 39 (fe_laws_eqItemS k) := by
  refine closed_ok (tab := [(88, fe_laws_eqItem k)]) (l := []) ti_ok ti_ht mix (List.forall_mem_cons.2 ⟨ok_laws_eqItem k, (List.forall_mem_nil _)⟩) (List.forall_mem_nil _) ⟨⟨Tryz.f39, (codeOf Tryz.f39), [.tmp 4], (laws_eqItemS_O k), by kernel_rfl, by kernel_rfl, by kernel_rfl, by kernel_rfl, rfl, by decide, ⟨by kernel_rfl, ?_, ?_⟩, ?_⟩⟩
  · refine loops_of (n := 1) (by kernel_rfl) fun i hi => ?_
    match i, hi with
    | 0, _ => exact loop_of (by kernel_rfl) (laws_eqItemS_l0_ok k)
    | n + 1, hi => omega
  · exact no_cuts (by kernel_rfl)
  · rintro ⟨a0, b1⟩
    kernel_rfl
/- 8 loop.example/g01005/laws.eqDesk -/
def laws_eqDesk (k : Nat) (a0 : (List (List Int) × Int × List Int × List (Int × Int × Int × List Int)) × List Int × (Int × List (Int × Int × Int)) × List Int × (Int × Int × Int × List Int) × (List (List Int × List (List Int))) × (List (List Int) × List Int) × List (List UInt8 × List (List UInt8) × Int × Int)) (b1 : (List (List Int) × Int × List Int × List (Int × Int × Int × List Int)) × List Int × (Int × List (Int × Int × Int)) × List Int × (Int × Int × Int × List Int) × (List (List Int × List (List Int))) × (List (List Int) × List Int) × List (List UInt8 × List (List UInt8) × Int × Int)) : Option Bool := (laws_eqSheaf k a0.1 b1.1).bind fun r_1 => (if (!r_1) = true then some false else (laws_eqInt64S k a0.2.1 b1.2.1).bind fun r_2 => (if (!r_2) = true then some false else (laws_eqGraph k a0.2.2.1 b1.2.2.1).bind fun r_3 => (if (!r_3) = true then some false else (laws_eqInt64S k a0.2.2.2.1 b1.2.2.2.1).bind fun r_4 => (if (!r_4) = true then some false else (laws_eqMatrix k a0.2.2.2.2.1 b1.2.2.2.2.1).bind fun r_5 => (if (!r_5) = true then some false else (laws_eqTableS k a0.2.2.2.2.2.1 b1.2.2.2.2.2.1).bind fun r_6 => (if (!r_6) = true then some false else (laws_eqFiltration k a0.2.2.2.2.2.2.1 b1.2.2.2.2.2.2.1).bind fun r_7 => (if (!r_7) = true then some false else (laws_eqItemS k a0.2.2.2.2.2.2.2 b1.2.2.2.2.2.2.2).bind fun r_8 => (if (!r_8) = true then some false else some true))))))))
def fe_laws_eqDesk (k : Nat) : FE := ⟨(.pr (.st (.pr (.st (.pr (.st (.sl 25 (.sl 2 (.int .i64)))) (.pr (.int .i64) (.pr (.sl 2 (.int .i64)) (.sl 49 (.st (.pr (.int .i64) (.pr (.int .i64) (.pr (.int .i64) (.sl 2 (.int .i64))))))))))) (.pr (.sl 2 (.int .i64)) (.pr (.st (.pr (.int .i64) (.sl 128 (.st (.pr (.int .i64) (.pr (.int .i64) (.int .i64))))))) (.pr (.sl 2 (.int .i64)) (.pr (.st (.pr (.int .i64) (.pr (.int .i64) (.pr (.int .i64) (.sl 2 (.int .i64)))))) (.pr (.sl 115 (.st (.pr (.sl 2 (.int .i64)) (.sl 25 (.sl 2 (.int .i64)))))) (.pr (.st (.pr (.st (.sl 25 (.sl 2 (.int .i64)))) (.sl 2 (.int .i64)))) (.sl 117 (.st (.pr .str (.pr (.sl 9 .str) (.pr (.int .i64) (.int .i64)))))))))))))) (.st (.pr (.st (.pr (.st (.sl 25 (.sl 2 (.int .i64)))) (.pr (.int .i64) (.pr (.sl 2 (.int .i64)) (.sl 49 (.st (.pr (.int .i64) (.pr (.int .i64) (.pr (.int .i64) (.sl 2 (.int .i64))))))))))) (.pr (.sl 2 (.int .i64)) (.pr (.st (.pr (.int .i64) (.sl 128 (.st (.pr (.int .i64) (.pr (.int .i64) (.int .i64))))))) (.pr (.sl 2 (.int .i64)) (.pr (.st (.pr (.int .i64) (.pr (.int .i64) (.pr (.int .i64) (.sl 2 (.int .i64)))))) (.pr (.sl 115 (.st (.pr (.sl 2 (.int .i64)) (.sl 25 (.sl 2 (.int .i64)))))) (.pr (.st (.pr (.st (.sl 25 (.sl 2 (.int .i64)))) (.sl 2 (.int .i64)))) (.sl 117 (.st (.pr .str (.pr (.sl 9 .str) (.pr (.int .i64) (.int .i64))))))))))))))), 1, .bool, fun x => laws_eqDesk k x.1 x.2⟩
theorem ok_laws_eqDesk (k : Nat) : FnOK Tryz.prog 8 (fe_laws_eqDesk k) := by
  refine closed_ok (tab := [(33, fe_laws_eqSheaf k), (34, fe_laws_eqInt64S k), (35, fe_laws_eqGraph k), (36, fe_laws_eqMatrix k), (37, fe_laws_eqTableS k), (38, fe_laws_eqFiltration k), (39, fe_laws_eqItemS k)]) (l := []) ti_ok ti_ht mix (List.forall_mem_cons.2 ⟨ok_laws_eqSheaf k, (List.forall_mem_cons.2 ⟨ok_laws_eqInt64S k, (List.forall_mem_cons.2 ⟨ok_laws_eqGraph k, (List.forall_mem_cons.2 ⟨ok_laws_eqMatrix k, (List.forall_mem_cons.2 ⟨ok_laws_eqTableS k, (List.forall_mem_cons.2 ⟨ok_laws_eqFiltration k, (List.forall_mem_cons.2 ⟨ok_laws_eqItemS k, (List.forall_mem_nil _)⟩)⟩)⟩)⟩)⟩)⟩)⟩) (List.forall_mem_nil _) ⟨⟨Tryz.f8, (codeOf Tryz.f8), [.tmp 4], (LOn Bool), by kernel_rfl, by kernel_rfl, by kernel_rfl, by kernel_rfl, rfl, by decide, ⟨by kernel_rfl, ?_, ?_⟩, ?_⟩⟩
  · exact no_loops (by kernel_rfl)
  · exact no_cuts (by kernel_rfl)
  · rintro ⟨a0, b1⟩
    kernel_rfl
/- 3 loop.example/g01005/laws.FnExactValidDesk -/
def laws_FnExactValidDesk (k : Nat) (aD0 : (List (List Int) × Int × List Int × List (Int × Int × Int × List Int)) × List Int × (Int × List (Int × Int × Int)) × List Int × (Int × Int × Int × List Int) × (List (List Int × List (List Int))) × (List (List Int) × List Int) × List (List UInt8 × List (List UInt8) × Int × Int)) : Option Bool := (laws_szDesk k aD0 1048576).bind fun r_1 => (if (decide (r_1 < 0)) = true then some true else (laws_toDesk k aD0).bind fun r_2 => (spec_ValidDesk k ((r_2.1.1, (r_2.1.2.1, (r_2.1.2.2.1, r_2.1.2.2.2))), (r_2.2.1, ((r_2.2.2.1.1, r_2.2.2.1.2), (r_2.2.2.2.1, ((r_2.2.2.2.2.1.1, (r_2.2.2.2.2.1.2.1, (r_2.2.2.2.2.1.2.2.1, r_2.2.2.2.2.1.2.2.2))), (r_2.2.2.2.2.2.1, ((r_2.2.2.2.2.2.2.1.1, r_2.2.2.2.2.2.2.1.2), r_2.2.2.2.2.2.2.2)))))))).bind fun r_3 => (laws_toDesk k aD0).bind fun r_4 => (impl_ValidDesk k ((r_4.1.1, (r_4.1.2.1, (r_4.1.2.2.1, r_4.1.2.2.2))), (r_4.2.1, ((r_4.2.2.1.1, r_4.2.2.1.2), (r_4.2.2.2.1, ((r_4.2.2.2.2.1.1, (r_4.2.2.2.2.1.2.1, (r_4.2.2.2.2.1.2.2.1, r_4.2.2.2.2.1.2.2.2))), (r_4.2.2.2.2.2.1, ((r_4.2.2.2.2.2.2.1.1, r_4.2.2.2.2.2.2.1.2), r_4.2.2.2.2.2.2.2)))))))).bind fun r_5 => (if (!(r_5 == r_3)) = true then some false else (laws_toDesk k aD0).bind fun r_6 => (laws_eqDesk k ((r_4.1.1, (r_4.1.2.1, (r_4.1.2.2.1, r_4.1.2.2.2))), (r_4.2.1, ((r_4.2.2.1.1, r_4.2.2.1.2), (r_4.2.2.2.1, ((r_4.2.2.2.2.1.1, (r_4.2.2.2.2.1.2.1, (r_4.2.2.2.2.1.2.2.1, r_4.2.2.2.2.1.2.2.2))), (r_4.2.2.2.2.2.1, ((r_4.2.2.2.2.2.2.1.1, r_4.2.2.2.2.2.2.1.2), r_4.2.2.2.2.2.2.2))))))) ((r_6.1.1, (r_6.1.2.1, (r_6.1.2.2.1, r_6.1.2.2.2))), (r_6.2.1, ((r_6.2.2.1.1, r_6.2.2.1.2), (r_6.2.2.2.1, ((r_6.2.2.2.2.1.1, (r_6.2.2.2.2.1.2.1, (r_6.2.2.2.2.1.2.2.1, r_6.2.2.2.2.1.2.2.2))), (r_6.2.2.2.2.2.1, ((r_6.2.2.2.2.2.2.1.1, r_6.2.2.2.2.2.2.1.2), r_6.2.2.2.2.2.2.2)))))))).bind fun r_7 => (if (!r_7) = true then some false else some true)))
def fe_laws_FnExactValidDesk (k : Nat) : FE := ⟨(.st (.pr (.st (.pr (.st (.sl 25 (.sl 2 (.int .i64)))) (.pr (.int .i64) (.pr (.sl 2 (.int .i64)) (.sl 33 (.st (.pr (.int .i64) (.pr (.int .i64) (.pr (.int .i64) (.sl 2 (.int .i64))))))))))) (.pr (.sl 2 (.int .i64)) (.pr (.st (.pr (.int .i64) (.sl 165 (.st (.pr (.int .i64) (.pr (.int .i64) (.int .i64))))))) (.pr (.sl 2 (.int .i64)) (.pr (.st (.pr (.int .i64) (.pr (.int .i64) (.pr (.int .i64) (.sl 2 (.int .i64)))))) (.pr (.sl 96 (.st (.pr (.sl 2 (.int .i64)) (.sl 25 (.sl 2 (.int .i64)))))) (.pr (.st (.pr (.st (.sl 25 (.sl 2 (.int .i64)))) (.sl 2 (.int .i64)))) (.sl 100 (.st (.pr .str (.pr (.sl 9 .str) (.pr (.int .i64) (.int .i64)))))))))))))), 1, .bool, fun x => laws_FnExactValidDesk k x⟩
theorem ok_laws_FnExactValidDesk (k : Nat) : FnOK Tryz.prog 3 (fe_laws_FnExactValidDesk k) := by
  refine closed_ok (tab := [(4, fe_laws_szDesk k), (6, fe_laws_toDesk k), (5, fe_spec_ValidDesk k), (7, fe_impl_ValidDesk k), (8, fe_laws_eqDesk k)]) (l := []) ti_ok ti_ht mix (List.forall_mem_cons.2 ⟨ok_laws_szDesk k, (List.forall_mem_cons.2 ⟨ok_laws_toDesk k, (List.forall_mem_cons.2 ⟨ok_spec_ValidDesk k, (List.forall_mem_cons.2 ⟨ok_impl_ValidDesk k, (List.forall_mem_cons.2 ⟨ok_laws_eqDesk k, (List.forall_mem_nil _)⟩)⟩)⟩)⟩)⟩) (List.forall_mem_nil _) ⟨⟨Tryz.f3, (codeOf Tryz.f3), [.tmp 2], (LOn Bool), by kernel_rfl, by kernel_rfl, by kernel_rfl, by kernel_rfl, rfl, by decide, ⟨by kernel_rfl, ?_, ?_⟩, ?_⟩⟩
  · exact no_loops (by kernel_rfl)
  · exact no_cuts (by kernel_rfl)
  · rintro aD0
    kernel_rfl
end
end Go.Proofs.YtmmkijdfiaaobaaGreat.Ev
