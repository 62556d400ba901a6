/- Functions of the program, as plain ones. No conditions. -/
import Derived.Test.YtibiofjkgdidmaaGreatDoorG10
import Derived.KernelRfl
set_option linter.unusedVariables false
set_option maxRecDepth 100000
namespace Go.Proofs.YtibiofjkgdidmaaGreatDoor.Ev
open Go.RowKit
noncomputable section
def z95_ (k : Nat) : Nat → zT4 → zT4 → Int → (Option Bool) → Option Bool
  | 0, _, _, _, _ => none
  | n + 1, a0, b1, i5, e_0 => (if (decide (i5 < (List.length a0 : Int))) = true then (if 0 ≤ i5 then (a0[i5.toNat]?).bind fun y_1 => (if 0 ≤ i5 then (b1[i5.toNat]?).bind fun y_2 => (z94_ k y_1 y_2).bind fun r_3 => (if (!r_3) = true then some false else z95_ k n a0 b1 (z0_ (i5 + 1)) e_0) else none) else none) else e_0)
def zej_ (k : Nat) (a0 : List (List Int)) (b1 : List (List Int)) : Option Bool := (if (!(decide ((List.length a0 : Int) = (List.length b1 : Int)))) = true then some false else z95_ k k a0 b1 0 (some true))
def qle_ : Head := ⟨[(0, (.val (.sl 68 (.sl 2 (.int .i64))))), (1, (.val (.sl 68 (.sl 2 (.int .i64))))), (5, (.val (.int .i64)))], [], []⟩
def qlf_ : Head := ⟨[], [], []⟩
def qlg_ (k n : Nat) (x : qle_.T) (kx : Nat → St → Option Bool) : Option Bool := z95_ k n x.1.1 x.1.2.1 x.1.2.2.1 (kx 0 (qlf_.fill ((), (), ())))
def qlh_ (k : Nat) : Oracles Bool := ⟨fun n => bif Nat.beq n 4 then some (fun σ kx => qle_.get σ fun x => qlg_ k k x kx) else none, fun _ => none⟩
def qli_ (k : Nat) : FE := ⟨(.pr (.sl 68 (.sl 2 (.int .i64))) (.sl 68 (.sl 2 (.int .i64)))), 1, .bool, fun x => zej_ k x.1 x.2⟩
theorem qlj_ (k : Nat) : zc_ (z3_ ti [(136, qlb_ k)] (lk []) z4_ z5_) (qlh_ k) (rdC (z3_ ti [(136, qlb_ k)] (lk []) z4_ z5_) [.tmp 4] .bool) ((zb_ (z2_ Tryz.f135)).getD 0 .skip) (fun σ kx => qle_.get σ fun x => qlg_ k k x kx) := by
  refine ⟨qle_, [(0, qlf_)], fun n x kx => qlg_ k n x kx, k, by kernel_rfl, by kernel_rfl, fun x kx => by kernel_rfl, ?_, fun σ kx => rfl⟩
  rintro n ⟨⟨a0, b1, i5, ⟨⟩⟩, ⟨⟩, ⟨⟩⟩ kx
  kernel_rfl
theorem qlk_ (k : Nat) : FnOK Tryz.prog 135 (qli_ k) := by
  refine za_ (tab := [(136, qlb_ k)]) (l := []) z6_ z9_ mix (List.forall_mem_cons.2 ⟨qld_ k, (List.forall_mem_nil _)⟩) (List.forall_mem_nil _) ⟨⟨Tryz.f135, (z2_ Tryz.f135), [.tmp 4], (qlh_ k), by kernel_rfl, by kernel_rfl, by kernel_rfl, by kernel_rfl, rfl, by decide, ⟨by kernel_rfl, ?_, ?_⟩, ?_⟩⟩
  · refine zf_ (n := 1) (by kernel_rfl) fun i hi => ?_
    match i, hi with
    | 0, _ => exact zd_ (by kernel_rfl) (qlj_ k)
    | n + 1, hi => omega
  · exact z8_ (by kernel_rfl)
  · rintro ⟨a0, b1⟩
    kernel_rfl
def zbq_ (k : Nat) (a0 : List (List Int)) (b1 : List (List Int)) : Option Bool := (zej_ k a0 b1).bind fun r_1 => (if (!r_1) = true then some false else some true)
def qll_ (k : Nat) : FE := ⟨(.pr (.st (.sl 68 (.sl 2 (.int .i64)))) (.st (.sl 68 (.sl 2 (.int .i64))))), 1, .bool, fun x => zbq_ k x.1 x.2⟩
theorem qlm_ (k : Nat) : FnOK Tryz.prog 92 (qll_ k) := by
  refine za_ (tab := [(135, qli_ k)]) (l := []) z6_ z9_ mix (List.forall_mem_cons.2 ⟨qlk_ k, (List.forall_mem_nil _)⟩) (List.forall_mem_nil _) ⟨⟨Tryz.f92, (z2_ Tryz.f92), [.tmp 4], (LOn Bool), by kernel_rfl, by kernel_rfl, by kernel_rfl, by kernel_rfl, rfl, by decide, ⟨by kernel_rfl, ?_, ?_⟩, ?_⟩⟩
  · exact zh_ (by kernel_rfl)
  · exact z8_ (by kernel_rfl)
  · rintro ⟨a0, b1⟩
    kernel_rfl
def zek_ (k : Nat) (a0 : List UInt8 × List (List Int)) (b1 : List UInt8 × List (List Int)) : Option Bool := (if (!(decide (a0.1 = b1.1))) = true then some false else (zbq_ k a0.2 b1.2).bind fun r_1 => (if (!r_1) = true then some false else some true))
def qln_ (k : Nat) : FE := ⟨(.pr (.st (.pr .str (.st (.sl 68 (.sl 2 (.int .i64)))))) (.st (.pr .str (.st (.sl 68 (.sl 2 (.int .i64))))))), 1, .bool, fun x => zek_ k x.1 x.2⟩
theorem qlo_ (k : Nat) : FnOK Tryz.prog 51 (qln_ k) := by
  refine za_ (tab := [(92, qll_ k)]) (l := []) z6_ z9_ mix (List.forall_mem_cons.2 ⟨qlm_ k, (List.forall_mem_nil _)⟩) (List.forall_mem_nil _) ⟨⟨Tryz.f51, (z2_ Tryz.f51), [.tmp 4], (LOn Bool), by kernel_rfl, by kernel_rfl, by kernel_rfl, by kernel_rfl, rfl, by decide, ⟨by kernel_rfl, ?_, ?_⟩, ?_⟩⟩
  · exact zh_ (by kernel_rfl)
  · exact z8_ (by kernel_rfl)
  · rintro ⟨a0, b1⟩
    kernel_rfl
def z96_ (k : Nat) : Nat → zT1 → zT1 → Int → (Option Bool) → Option Bool
  | 0, _, _, _, _ => none
  | n + 1, a0, b1, i5, e_0 => (if (decide (i5 < (List.length a0 : Int))) = true then (if 0 ≤ i5 then (a0[i5.toNat]?).bind fun y_1 => (if 0 ≤ i5 then (b1[i5.toNat]?).bind fun y_2 => (zek_ k y_1 y_2).bind fun r_3 => (if (!r_3) = true then some false else z96_ k n a0 b1 (z0_ (i5 + 1)) e_0) else none) else none) else e_0)
def zel_ (k : Nat) (a0 : List (List UInt8 × List (List Int))) (b1 : List (List UInt8 × List (List Int))) : Option Bool := (if (!(decide ((List.length a0 : Int) = (List.length b1 : Int)))) = true then some false else z96_ k k a0 b1 0 (some true))
def qlp_ : Head := ⟨[(0, (.val (.sl 48 (.st (.pr .str (.st (.sl 68 (.sl 2 (.int .i64))))))))), (1, (.val (.sl 48 (.st (.pr .str (.st (.sl 68 (.sl 2 (.int .i64))))))))), (5, (.val (.int .i64)))], [], []⟩
def qlq_ : Head := ⟨[], [], []⟩
def qlr_ (k n : Nat) (x : qlp_.T) (kx : Nat → St → Option Bool) : Option Bool := z96_ k n x.1.1 x.1.2.1 x.1.2.2.1 (kx 0 (qlq_.fill ((), (), ())))
def qls_ (k : Nat) : Oracles Bool := ⟨fun n => bif Nat.beq n 4 then some (fun σ kx => qlp_.get σ fun x => qlr_ k k x kx) else none, fun _ => none⟩
def qlt_ (k : Nat) : FE := ⟨(.pr (.sl 48 (.st (.pr .str (.st (.sl 68 (.sl 2 (.int .i64))))))) (.sl 48 (.st (.pr .str (.st (.sl 68 (.sl 2 (.int .i64)))))))), 1, .bool, fun x => zel_ k x.1 x.2⟩
theorem qlu_ (k : Nat) : zc_ (z3_ ti [(51, qln_ k)] (lk []) z4_ z5_) (qls_ k) (rdC (z3_ ti [(51, qln_ k)] (lk []) z4_ z5_) [.tmp 4] .bool) ((zb_ (z2_ Tryz.f22)).getD 0 .skip) (fun σ kx => qlp_.get σ fun x => qlr_ k k x kx) := by
  refine ⟨qlp_, [(0, qlq_)], fun n x kx => qlr_ k n x kx, k, by kernel_rfl, by kernel_rfl, fun x kx => by kernel_rfl, ?_, fun σ kx => rfl⟩
  rintro n ⟨⟨a0, b1, i5, ⟨⟩⟩, ⟨⟩, ⟨⟩⟩ kx
  kernel_rfl
theorem qlv_ (k : Nat) : FnOK Tryz.prog 22 (qlt_ k) := by
  refine za_ (tab := [(51, qln_ k)]) (l := []) z6_ z9_ mix (List.forall_mem_cons.2 ⟨qlo_ k, (List.forall_mem_nil _)⟩) (List.forall_mem_nil _) ⟨⟨Tryz.f22, (z2_ Tryz.f22), [.tmp 4], (qls_ k), by kernel_rfl, by kernel_rfl, by kernel_rfl, by kernel_rfl, rfl, by decide, ⟨by kernel_rfl, ?_, ?_⟩, ?_⟩⟩
  · refine zf_ (n := 1) (by kernel_rfl) fun i hi => ?_
    match i, hi with
    | 0, _ => exact zd_ (by kernel_rfl) (qlu_ k)
    | n + 1, hi => omega
  · exact z8_ (by kernel_rfl)
  · rintro ⟨a0, b1⟩
    kernel_rfl
def zem_ (k : Nat) (a0 : Int × Int × Int × List Int) (b1 : Int × Int × Int × List Int) : Option Bool := (if (!(decide (a0.1 = b1.1))) = true then some false else (if (!(decide (a0.2.1 = b1.2.1))) = true then some false else (if (!(decide (a0.2.2.1 = b1.2.2.1))) = true then some false else (z94_ k a0.2.2.2 b1.2.2.2).bind fun r_1 => (if (!r_1) = true then some false else some true))))
def qlw_ (k : Nat) : FE := ⟨(.pr (.st (.pr (.int .i64) (.pr (.int .i64) (.pr (.int .i64) (.sl 2 (.int .i64)))))) (.st (.pr (.int .i64) (.pr (.int .i64) (.pr (.int .i64) (.sl 2 (.int .i64))))))), 1, .bool, fun x => zem_ k x.1 x.2⟩
theorem qlx_ (k : Nat) : FnOK Tryz.prog 166 (qlw_ k) := by
  refine za_ (tab := [(136, qlb_ k)]) (l := []) z6_ z9_ mix (List.forall_mem_cons.2 ⟨qld_ k, (List.forall_mem_nil _)⟩) (List.forall_mem_nil _) ⟨⟨Tryz.f166, (z2_ Tryz.f166), [.tmp 4], (LOn Bool), by kernel_rfl, by kernel_rfl, by kernel_rfl, by kernel_rfl, rfl, by decide, ⟨by kernel_rfl, ?_, ?_⟩, ?_⟩⟩
  · exact zh_ (by kernel_rfl)
  · exact z8_ (by kernel_rfl)
  · rintro ⟨a0, b1⟩
    kernel_rfl
def z97_ (k : Nat) : Nat → zT5 → zT5 → Int → (Option Bool) → Option Bool
  | 0, _, _, _, _ => none
  | n + 1, a0, b1, i5, e_0 => (if (decide (i5 < (List.length a0 : Int))) = true then (if 0 ≤ i5 then (a0[i5.toNat]?).bind fun y_1 => (if 0 ≤ i5 then (b1[i5.toNat]?).bind fun y_2 => (zem_ k y_1 y_2).bind fun r_3 => (if (!r_3) = true then some false else z97_ k n a0 b1 (z0_ (i5 + 1)) e_0) else none) else none) else e_0)
def zen_ (k : Nat) (a0 : List (Int × Int × Int × List Int)) (b1 : List (Int × Int × Int × List Int)) : Option Bool := (if (!(decide ((List.length a0 : Int) = (List.length b1 : Int)))) = true then some false else z97_ k k a0 b1 0 (some true))
def qly_ : Head := ⟨[(0, (.val (.sl 147 (.st (.pr (.int .i64) (.pr (.int .i64) (.pr (.int .i64) (.sl 2 (.int .i64))))))))), (1, (.val (.sl 147 (.st (.pr (.int .i64) (.pr (.int .i64) (.pr (.int .i64) (.sl 2 (.int .i64))))))))), (5, (.val (.int .i64)))], [], []⟩
def qlz_ : Head := ⟨[], [], []⟩
def qm0_ (k n : Nat) (x : qly_.T) (kx : Nat → St → Option Bool) : Option Bool := z97_ k n x.1.1 x.1.2.1 x.1.2.2.1 (kx 0 (qlz_.fill ((), (), ())))
def qm1_ (k : Nat) : Oracles Bool := ⟨fun n => bif Nat.beq n 4 then some (fun σ kx => qly_.get σ fun x => qm0_ k k x kx) else none, fun _ => none⟩
def qm2_ (k : Nat) : FE := ⟨(.pr (.sl 147 (.st (.pr (.int .i64) (.pr (.int .i64) (.pr (.int .i64) (.sl 2 (.int .i64))))))) (.sl 147 (.st (.pr (.int .i64) (.pr (.int .i64) (.pr (.int .i64) (.sl 2 (.int .i64)))))))), 1, .bool, fun x => zen_ k x.1 x.2⟩
theorem qm3_ (k : Nat) : zc_ (z3_ ti [(166, qlw_ k)] (lk []) z4_ z5_) (qm1_ k) (rdC (z3_ ti [(166, qlw_ k)] (lk []) z4_ z5_) [.tmp 4] .bool) ((zb_ (z2_ Tryz.f137)).getD 0 .skip) (fun σ kx => qly_.get σ fun x => qm0_ k k x kx) := by
  refine ⟨qly_, [(0, qlz_)], fun n x kx => qm0_ k n x kx, k, by kernel_rfl, by kernel_rfl, fun x kx => by kernel_rfl, ?_, fun σ kx => rfl⟩
  rintro n ⟨⟨a0, b1, i5, ⟨⟩⟩, ⟨⟩, ⟨⟩⟩ kx
  kernel_rfl
theorem qm4_ (k : Nat) : FnOK Tryz.prog 137 (qm2_ k) := by
  refine za_ (tab := [(166, qlw_ k)]) (l := []) z6_ z9_ mix (List.forall_mem_cons.2 ⟨qlx_ k, (List.forall_mem_nil _)⟩) (List.forall_mem_nil _) ⟨⟨Tryz.f137, (z2_ Tryz.f137), [.tmp 4], (qm1_ k), by kernel_rfl, by kernel_rfl, by kernel_rfl, by kernel_rfl, rfl, by decide, ⟨by kernel_rfl, ?_, ?_⟩, ?_⟩⟩
  · refine zf_ (n := 1) (by kernel_rfl) fun i hi => ?_
    match i, hi with
    | 0, _ => exact zd_ (by kernel_rfl) (qm3_ k)
    | n + 1, hi => omega
  · exact z8_ (by kernel_rfl)
  · rintro ⟨a0, b1⟩
    kernel_rfl
def zeo_ (k : Nat) (a0 : List (List Int) × Int × List Int × List (Int × Int × Int × List Int)) (b1 : List (List Int) × Int × List Int × List (Int × Int × Int × List Int)) : Option Bool := (zbq_ k a0.1 b1.1).bind fun r_1 => (if (!r_1) = true then some false else (if (!(decide (a0.2.1 = b1.2.1))) = true then some false else (z94_ k a0.2.2.1 b1.2.2.1).bind fun r_2 => (if (!r_2) = true then some false else (zen_ k a0.2.2.2 b1.2.2.2).bind fun r_3 => (if (!r_3) = true then some false else some true))))
def qm5_ (k : Nat) : FE := ⟨(.pr (.st (.pr (.st (.sl 68 (.sl 2 (.int .i64)))) (.pr (.int .i64) (.pr (.sl 2 (.int .i64)) (.sl 147 (.st (.pr (.int .i64) (.pr (.int .i64) (.pr (.int .i64) (.sl 2 (.int .i64))))))))))) (.st (.pr (.st (.sl 68 (.sl 2 (.int .i64)))) (.pr (.int .i64) (.pr (.sl 2 (.int .i64)) (.sl 147 (.st (.pr (.int .i64) (.pr (.int .i64) (.pr (.int .i64) (.sl 2 (.int .i64)))))))))))), 1, .bool, fun x => zeo_ k x.1 x.2⟩
theorem qm6_ (k : Nat) : FnOK Tryz.prog 93 (qm5_ k) := by
  refine za_ (tab := [(92, qll_ k), (136, qlb_ k), (137, qm2_ k)]) (l := []) z6_ z9_ mix (List.forall_mem_cons.2 ⟨qlm_ k, (List.forall_mem_cons.2 ⟨qld_ k, (List.forall_mem_cons.2 ⟨qm4_ k, (List.forall_mem_nil _)⟩)⟩)⟩) (List.forall_mem_nil _) ⟨⟨Tryz.f93, (z2_ Tryz.f93), [.tmp 4], (LOn Bool), by kernel_rfl, by kernel_rfl, by kernel_rfl, by kernel_rfl, rfl, by decide, ⟨by kernel_rfl, ?_, ?_⟩, ?_⟩⟩
  · exact zh_ (by kernel_rfl)
  · exact z8_ (by kernel_rfl)
  · rintro ⟨a0, b1⟩
    kernel_rfl
def zep_ (k : Nat) (a0 : List UInt8 × List (List Int) × Int × List Int × List (Int × Int × Int × List Int)) (b1 : List UInt8 × List (List Int) × Int × List Int × List (Int × Int × Int × List Int)) : Option Bool := (if (!(decide (a0.1 = b1.1))) = true then some false else (zeo_ k a0.2 b1.2).bind fun r_1 => (if (!r_1) = true then some false else some true))
def qm7_ (k : Nat) : FE := ⟨(.pr (.st (.pr .str (.st (.pr (.st (.sl 68 (.sl 2 (.int .i64)))) (.pr (.int .i64) (.pr (.sl 2 (.int .i64)) (.sl 147 (.st (.pr (.int .i64) (.pr (.int .i64) (.pr (.int .i64) (.sl 2 (.int .i64))))))))))))) (.st (.pr .str (.st (.pr (.st (.sl 68 (.sl 2 (.int .i64)))) (.pr (.int .i64) (.pr (.sl 2 (.int .i64)) (.sl 147 (.st (.pr (.int .i64) (.pr (.int .i64) (.pr (.int .i64) (.sl 2 (.int .i64)))))))))))))), 1, .bool, fun x => zep_ k x.1 x.2⟩
theorem qm8_ (k : Nat) : FnOK Tryz.prog 52 (qm7_ k) := by
  refine za_ (tab := [(93, qm5_ k)]) (l := []) z6_ z9_ mix (List.forall_mem_cons.2 ⟨qm6_ k, (List.forall_mem_nil _)⟩) (List.forall_mem_nil _) ⟨⟨Tryz.f52, (z2_ Tryz.f52), [.tmp 4], (LOn Bool), by kernel_rfl, by kernel_rfl, by kernel_rfl, by kernel_rfl, rfl, by decide, ⟨by kernel_rfl, ?_, ?_⟩, ?_⟩⟩
  · exact zh_ (by kernel_rfl)
  · exact z8_ (by kernel_rfl)
  · rintro ⟨a0, b1⟩
    kernel_rfl
def z98_ (k : Nat) : Nat → zT0 → zT0 → Int → (Option Bool) → Option Bool
  | 0, _, _, _, _ => none
  | n + 1, a0, b1, i5, e_0 => (if (decide (i5 < (List.length a0 : Int))) = true then (if 0 ≤ i5 then (a0[i5.toNat]?).bind fun y_1 => (if 0 ≤ i5 then (b1[i5.toNat]?).bind fun y_2 => (zep_ k y_1 y_2).bind fun r_3 => (if (!r_3) = true then some false else z98_ k n a0 b1 (z0_ (i5 + 1)) e_0) else none) else none) else e_0)
def zeq_ (k : Nat) (a0 : List (List UInt8 × List (List Int) × Int × List Int × List (Int × Int × Int × List Int))) (b1 : List (List UInt8 × List (List Int) × Int × List Int × List (Int × Int × Int × List Int))) : Option Bool := (if (!(decide ((List.length a0 : Int) = (List.length b1 : Int)))) = true then some false else z98_ k k a0 b1 0 (some true))
def qm9_ : Head := ⟨[(0, (.val (.sl 80 (.st (.pr .str (.st (.pr (.st (.sl 68 (.sl 2 (.int .i64)))) (.pr (.int .i64) (.pr (.sl 2 (.int .i64)) (.sl 147 (.st (.pr (.int .i64) (.pr (.int .i64) (.pr (.int .i64) (.sl 2 (.int .i64)))))))))))))))), (1, (.val (.sl 80 (.st (.pr .str (.st (.pr (.st (.sl 68 (.sl 2 (.int .i64)))) (.pr (.int .i64) (.pr (.sl 2 (.int .i64)) (.sl 147 (.st (.pr (.int .i64) (.pr (.int .i64) (.pr (.int .i64) (.sl 2 (.int .i64)))))))))))))))), (5, (.val (.int .i64)))], [], []⟩
def qma_ : Head := ⟨[], [], []⟩
def qmb_ (k n : Nat) (x : qm9_.T) (kx : Nat → St → Option Bool) : Option Bool := z98_ k n x.1.1 x.1.2.1 x.1.2.2.1 (kx 0 (qma_.fill ((), (), ())))
def qmc_ (k : Nat) : Oracles Bool := ⟨fun n => bif Nat.beq n 4 then some (fun σ kx => qm9_.get σ fun x => qmb_ k k x kx) else none, fun _ => none⟩
def qmd_ (k : Nat) : FE := ⟨(.pr (.sl 80 (.st (.pr .str (.st (.pr (.st (.sl 68 (.sl 2 (.int .i64)))) (.pr (.int .i64) (.pr (.sl 2 (.int .i64)) (.sl 147 (.st (.pr (.int .i64) (.pr (.int .i64) (.pr (.int .i64) (.sl 2 (.int .i64)))))))))))))) (.sl 80 (.st (.pr .str (.st (.pr (.st (.sl 68 (.sl 2 (.int .i64)))) (.pr (.int .i64) (.pr (.sl 2 (.int .i64)) (.sl 147 (.st (.pr (.int .i64) (.pr (.int .i64) (.pr (.int .i64) (.sl 2 (.int .i64))))))))))))))), 1, .bool, fun x => zeq_ k x.1 x.2⟩
theorem qme_ (k : Nat) : zc_ (z3_ ti [(52, qm7_ k)] (lk []) z4_ z5_) (qmc_ k) (rdC (z3_ ti [(52, qm7_ k)] (lk []) z4_ z5_) [.tmp 4] .bool) ((zb_ (z2_ Tryz.f23)).getD 0 .skip) (fun σ kx => qm9_.get σ fun x => qmb_ k k x kx) := by
  refine ⟨qm9_, [(0, qma_)], fun n x kx => qmb_ k n x kx, k, by kernel_rfl, by kernel_rfl, fun x kx => by kernel_rfl, ?_, fun σ kx => rfl⟩
  rintro n ⟨⟨a0, b1, i5, ⟨⟩⟩, ⟨⟩, ⟨⟩⟩ kx
  kernel_rfl
theorem qmf_ (k : Nat) : FnOK Tryz.prog 23 (qmd_ k) := by
  refine za_ (tab := [(52, qm7_ k)]) (l := []) z6_ z9_ mix (List.forall_mem_cons.2 ⟨qm8_ k, (List.forall_mem_nil _)⟩) (List.forall_mem_nil _) ⟨⟨Tryz.f23, (z2_ Tryz.f23), [.tmp 4], (qmc_ k), by kernel_rfl, by kernel_rfl, by kernel_rfl, by kernel_rfl, rfl, by decide, ⟨by kernel_rfl, ?_, ?_⟩, ?_⟩⟩
  · refine zf_ (n := 1) (by kernel_rfl) fun i hi => ?_
    match i, hi with
    | 0, _ => exact zd_ (by kernel_rfl) (qme_ k)
    | n + 1, hi => omega
  · exact z8_ (by kernel_rfl)
  · rintro ⟨a0, b1⟩
    kernel_rfl
def zer_ (k : Nat) (a0 : zT1 × List (List UInt8 × List (List Int) × Int × List Int × List (Int × Int × Int × List Int))) (b1 : zT1 × List (List UInt8 × List (List Int) × Int × List Int × List (Int × Int × Int × List Int))) : Option Bool := (zel_ k a0.1 b1.1).bind fun r_1 => (if (!r_1) = true then some false else (zeq_ k a0.2 b1.2).bind fun r_2 => (if (!r_2) = true then some false else some true))
def qmg_ (k : Nat) : FE := ⟨(.pr (.st (.pr (.sl 48 (.st (.pr .str (.st (.sl 68 (.sl 2 (.int .i64))))))) (.sl 80 (.st (.pr .str (.st (.pr (.st (.sl 68 (.sl 2 (.int .i64)))) (.pr (.int .i64) (.pr (.sl 2 (.int .i64)) (.sl 147 (.st (.pr (.int .i64) (.pr (.int .i64) (.pr (.int .i64) (.sl 2 (.int .i64)))))))))))))))) (.st (.pr (.sl 48 (.st (.pr .str (.st (.sl 68 (.sl 2 (.int .i64))))))) (.sl 80 (.st (.pr .str (.st (.pr (.st (.sl 68 (.sl 2 (.int .i64)))) (.pr (.int .i64) (.pr (.sl 2 (.int .i64)) (.sl 147 (.st (.pr (.int .i64) (.pr (.int .i64) (.pr (.int .i64) (.sl 2 (.int .i64))))))))))))))))), 1, .bool, fun x => zer_ k x.1 x.2⟩
theorem qmh_ (k : Nat) : FnOK Tryz.prog 9 (qmg_ k) := by
  refine za_ (tab := [(22, qlt_ k), (23, qmd_ k)]) (l := []) z6_ z9_ mix (List.forall_mem_cons.2 ⟨qlv_ k, (List.forall_mem_cons.2 ⟨qmf_ k, (List.forall_mem_nil _)⟩)⟩) (List.forall_mem_nil _) ⟨⟨Tryz.f9, (z2_ Tryz.f9), [.tmp 4], (LOn Bool), by kernel_rfl, by kernel_rfl, by kernel_rfl, by kernel_rfl, rfl, by decide, ⟨by kernel_rfl, ?_, ?_⟩, ?_⟩⟩
  · exact zh_ (by kernel_rfl)
  · exact z8_ (by kernel_rfl)
  · rintro ⟨a0, b1⟩
    kernel_rfl
def z6x_ (k : Nat) : Nat → Int → (List UInt8) → ((List UInt8) → Option (List UInt8)) → Option (List UInt8)
  | 0, _, _, _ => none
  | n + 1, k0, out3, e_0 => (if (decide (0 < k0)) = true then (if (to_S [(w_u8 ((z0_ (48 + (Int.tmod k0 10)))))]).length + out3.length ≤ 9223372036854775807 then z6x_ k n (z0_ (Int.tdiv k0 10)) ((to_S [(w_u8 ((z0_ (48 + (Int.tmod k0 10)))))]) ++ out3) e_0 else none) else e_0 out3)
def z2e_ (k : Nat) (k0 : Int) : Option (List UInt8) := (if (decide (k0 ≤ 0)) = true then some [109, 48] else z6x_ k k k0 [] (fun out_1 => (if [109].length + out_1.length ≤ 9223372036854775807 then some ([109] ++ out_1) else none)))
def qmi_ : Head := ⟨[(0, (.val (.int .i64))), (3, (.val .str))], [], []⟩
def qmj_ : Head := ⟨[(3, (.val .str))], [], []⟩
def qmk_ (k n : Nat) (x : qmi_.T) (kx : Nat → St → Option (List UInt8)) : Option (List UInt8) := z6x_ k n x.1.1 x.1.2.1 (fun (out3 : List UInt8) => kx 0 (qmj_.fill ((out3, ()), (), ())))
def qml_ (k : Nat) : Oracles (List UInt8) := ⟨fun n => bif Nat.beq n 4 then some (fun σ kx => qmi_.get σ fun x => qmk_ k k x kx) else none, fun _ => none⟩
def qmm_ (k : Nat) : FE := ⟨(.int .i64), 1, .str, fun x => z2e_ k x⟩
theorem qmn_ (k : Nat) : zc_ (z3_ ti [] (lk []) z4_ z5_) (qml_ k) (rdC (z3_ ti [] (lk []) z4_ z5_) [.tmp 2] .str) ((zb_ (z2_ Tryz.f26)).getD 0 .skip) (fun σ kx => qmi_.get σ fun x => qmk_ k k x kx) := by
  refine ⟨qmi_, [(0, qmj_)], fun n x kx => qmk_ k n x kx, k, by kernel_rfl, by kernel_rfl, fun x kx => by kernel_rfl, ?_, fun σ kx => rfl⟩
  rintro n ⟨⟨k0, out3, ⟨⟩⟩, ⟨⟩, ⟨⟩⟩ kx
  kernel_rfl
theorem qmo_ (k : Nat) : FnOK Tryz.prog 26 (qmm_ k) := by
  refine za_ (tab := []) (l := []) z6_ z9_ mix (List.forall_mem_nil _) (List.forall_mem_nil _) ⟨⟨Tryz.f26, (z2_ Tryz.f26), [.tmp 2], (qml_ k), by kernel_rfl, by kernel_rfl, by kernel_rfl, by kernel_rfl, rfl, by decide, ⟨by kernel_rfl, ?_, ?_⟩, ?_⟩⟩
  · refine zf_ (n := 1) (by kernel_rfl) fun i hi => ?_
    match i, hi with
    | 0, _ => exact zd_ (by kernel_rfl) (qmn_ k)
    | n + 1, hi => omega
  · exact z8_ (by kernel_rfl)
  · rintro k0
    kernel_rfl
def z99_ (k : Nat) : Nat → Nat → Int → Int → zT4 → (Int → zT4 → Option (((Int × Unit) × (zT4 × Unit) × Unit))) → Option (((Int × Unit) × (zT4 × Unit) × Unit))
  | 0, _, _, _, _, _ => none
  | n + 1, a0n0, k1, i5, q_2, e_0 => (q_2[a0n0]?).bind fun y_3 => (if (decide (i5 < (List.length y_3 : Int))) = true then (q_2[a0n0]?).bind fun y_4 => (if 0 ≤ i5 ∧ i5.toNat < List.length y_4 then (q_2[a0n0]?).bind fun y_5 => (y_5[i5.toNat]?).bind fun y_6 => (q_2[a0n0]?).bind fun y_7 => (y_7[i5.toNat]?).bind fun y_8 => z99_ k n a0n0 (z0_ (k1 + 1)) (z0_ (i5 + 1)) (q_2.set a0n0 (y_7.set i5.toNat k1)) e_0 else none) else e_0 k1 q_2)
def zes_ (k : Nat) (a0n0 : Nat) (k1 : Int) (q_1 : List (List Int)) : Option (((Int × Unit) × (zT4 × Unit) × Unit)) := z99_ k k a0n0 k1 0 q_1 (fun k_9 q_10 => some ((k_9, ()), (q_10, ()), ()))
def qmp_ : Head := ⟨[(0, (.ref 1000000000 [.ix])), (1, (.val (.int .i64))), (5, (.val (.int .i64)))], [(1000000000, 68, (.sl 2 (.int .i64)), false)], []⟩
def qmq_ : Head := ⟨[(1, (.val (.int .i64)))], [(1000000000, 68, (.sl 2 (.int .i64)), false)], []⟩
def qmr_ (k n : Nat) (x : qmp_.T) (kx : Nat → St → Option (((Int × Unit) × (zT4 × Unit) × Unit))) : Option (((Int × Unit) × (zT4 × Unit) × Unit)) := z99_ k n x.1.1.1 x.1.2.1 x.1.2.2.1 x.2.1.1 (fun (k1 : Int) (q_9 : List (List Int)) => kx 0 (qmq_.fill ((k1, ()), (q_9, ()), ())))
def qms_ (k : Nat) : Oracles (((Int × Unit) × (zT4 × Unit) × Unit)) := ⟨fun n => bif Nat.beq n 2 then some (fun σ kx => qmp_.get σ fun x => qmr_ k k x kx) else none, fun _ => none⟩
def qmt_ : Head := ⟨[(0, (.ref 1000000000 [.ix])), (1, (.val (.int .i64)))], [(1000000000, 68, (.sl 2 (.int .i64)), false)], []⟩
def qmu_ : Head := ⟨[(0, (.val (.int .i64)))], [(1000000000, 68, (.sl 2 (.int .i64)), false)], []⟩
def qmv_ (k : Nat) : OC := ⟨qmt_, qmu_, fun x => zes_ k x.1.1.1 x.1.2.1 x.2.1.1⟩
theorem qmw_ (k : Nat) (pins : Nat → Value) (pinB : Nat → Nat) : zc_ (z3_ ti [] (lk []) pins pinB) (qms_ k) (rdO (z3_ ti [] (lk []) pins pinB) [.tmp 4] qmu_) ((zb_ (z2_ Tryz.f54)).getD 0 .skip) (fun σ kx => qmp_.get σ fun x => qmr_ k k x kx) := by
  refine ⟨qmp_, [(0, qmq_)], fun n x kx => qmr_ k n x kx, k, by kernel_rfl, by kernel_rfl, fun x kx => by kernel_rfl, ?_, fun σ kx => rfl⟩
  rintro n ⟨⟨⟨a0n0, ⟨⟩⟩, k1, i5, ⟨⟩⟩, ⟨q_2, ⟨⟩⟩, ⟨⟩⟩ kx
  kernel_rfl
theorem qmx_ (k : Nat) : z1b_ Tryz.prog ti 54 (qmv_ k) := by
  refine z50_ (tab := []) (l := []) z6_ z9_ mix (List.forall_mem_nil _) (List.forall_mem_nil _) ⟨by kernel_rfl, by kernel_rfl, Tryz.f54, (z2_ Tryz.f54), [.tmp 4], (qms_ k), by kernel_rfl, by kernel_rfl, by kernel_rfl, by kernel_rfl, Nat.le_of_ble_eq_true (by kernel_rfl), fun pins pinB => ⟨⟨by kernel_rfl, ?_, ?_⟩, ?_⟩⟩
  · refine zf_ (n := 1) (by kernel_rfl) fun i hi => ?_
    match i, hi with
    | 0, _ => exact zd_ (by kernel_rfl) (qmw_ k pins pinB)
    | n + 1, hi => omega
  · exact z8_ (by kernel_rfl)
  · rintro ⟨⟨⟨a0n0, ⟨⟩⟩, k1, ⟨⟩⟩, ⟨q_1, ⟨⟩⟩, ⟨⟩⟩
    kernel_rfl
def z9a_ (k : Nat) : Nat → Int → Int → zT4 → (Int → zT4 → Option (((Int × Unit) × (zT4 × Unit) × Unit))) → Option (((Int × Unit) × (zT4 × Unit) × Unit))
  | 0, _, _, _, _ => none
  | n + 1, k1, i5, q_2, e_0 => (if (decide (i5 < (List.length q_2 : Int))) = true then (if 0 ≤ i5 ∧ i5.toNat < List.length q_2 then (q_2[i5.toNat]?).bind fun y_3 => (zes_ k i5.toNat k1 q_2).bind fun y_4 => z9a_ k n y_4.1.1 (z0_ (i5 + 1)) y_4.2.1.1 e_0 else none) else e_0 k1 q_2)
def zbr_ (k : Nat) (k1 : Int) (q_1 : List (List Int)) : Option (((Int × Unit) × (zT4 × Unit) × Unit)) := z9a_ k k k1 0 q_1 (fun k_5 q_6 => some ((k_5, ()), (q_6, ()), ()))
def qmy_ : Head := ⟨[(0, (.ref 1000000000 [])), (1, (.val (.int .i64))), (5, (.val (.int .i64)))], [(1000000000, 68, (.sl 2 (.int .i64)), false)], []⟩
def qmz_ : Head := ⟨[(1, (.val (.int .i64)))], [(1000000000, 68, (.sl 2 (.int .i64)), false)], []⟩
def qn0_ (k n : Nat) (x : qmy_.T) (kx : Nat → St → Option (((Int × Unit) × (zT4 × Unit) × Unit))) : Option (((Int × Unit) × (zT4 × Unit) × Unit)) := z9a_ k n x.1.2.1 x.1.2.2.1 x.2.1.1 (fun (k1 : Int) (q_6 : List (List Int)) => kx 0 (qmz_.fill ((k1, ()), (q_6, ()), ())))
def qn1_ (k : Nat) : Oracles (((Int × Unit) × (zT4 × Unit) × Unit)) := ⟨fun n => bif Nat.beq n 2 then some (fun σ kx => qmy_.get σ fun x => qn0_ k k x kx) else none, fun _ => none⟩
def qn2_ : Head := ⟨[(0, (.ref 1000000000 [])), (1, (.val (.int .i64)))], [(1000000000, 68, (.sl 2 (.int .i64)), false)], []⟩
def qn3_ : Head := ⟨[(0, (.val (.int .i64)))], [(1000000000, 68, (.sl 2 (.int .i64)), false)], []⟩
def qn4_ (k : Nat) : OC := ⟨qn2_, qn3_, fun x => zbr_ k x.1.2.1 x.2.1.1⟩
theorem qn5_ (k : Nat) (pins : Nat → Value) (pinB : Nat → Nat) : zc_ (z3_ ti [] (lk [(17, 54, qmv_ k)]) pins pinB) (qn1_ k) (rdO (z3_ ti [] (lk [(17, 54, qmv_ k)]) pins pinB) [.tmp 4] qn3_) ((zb_ (z2_ Tryz.f53)).getD 0 .skip) (fun σ kx => qmy_.get σ fun x => qn0_ k k x kx) := by
  refine ⟨qmy_, [(0, qmz_)], fun n x kx => qn0_ k n x kx, k, by kernel_rfl, by kernel_rfl, fun x kx => by kernel_rfl, ?_, fun σ kx => rfl⟩
  rintro n ⟨⟨⟨⟩, k1, i5, ⟨⟩⟩, ⟨q_2, ⟨⟩⟩, ⟨⟩⟩ kx
  kernel_rfl
theorem qn6_ (k : Nat) : z1b_ Tryz.prog ti 53 (qn4_ k) := by
  refine z50_ (tab := []) (l := [(17, 54, qmv_ k)]) z6_ z9_ mix (List.forall_mem_nil _) (List.forall_mem_cons.2 ⟨qmx_ k, (List.forall_mem_nil _)⟩) ⟨by kernel_rfl, by kernel_rfl, Tryz.f53, (z2_ Tryz.f53), [.tmp 4], (qn1_ k), by kernel_rfl, by kernel_rfl, by kernel_rfl, by kernel_rfl, Nat.le_of_ble_eq_true (by kernel_rfl), fun pins pinB => ⟨⟨by kernel_rfl, ?_, ?_⟩, ?_⟩⟩
  · refine zf_ (n := 1) (by kernel_rfl) fun i hi => ?_
    match i, hi with
    | 0, _ => exact zd_ (by kernel_rfl) (qn5_ k pins pinB)
    | n + 1, hi => omega
  · exact z8_ (by kernel_rfl)
  · rintro ⟨⟨⟨⟩, k1, ⟨⟩⟩, ⟨q_1, ⟨⟩⟩, ⟨⟩⟩
    kernel_rfl
def z9b_ (k : Nat) : Nat → Int → Int → zT1 → (Int → zT1 → Option (((Int × Unit) × (zT1 × Unit) × Unit))) → Option (((Int × Unit) × (zT1 × Unit) × Unit))
  | 0, _, _, _, _ => none
  | n + 1, k1, i5, q_2, e_0 => (if (decide (i5 < (List.length q_2 : Int))) = true then (z2e_ k k1).bind fun r_3 => (if 0 ≤ i5 ∧ i5.toNat < List.length q_2 then (q_2[i5.toNat]?).bind fun y_4 => (q_2[i5.toNat]?).bind fun y_5 => (if 0 ≤ i5 ∧ i5.toNat < List.length (q_2.set i5.toNat (r_3, y_4.2)) then ((q_2.set i5.toNat (r_3, y_4.2))[i5.toNat]?).bind fun y_6 => ((q_2.set i5.toNat (r_3, y_4.2))[i5.toNat]?).bind fun y_7 => (zbr_ k (z0_ (k1 + 1)) y_7.2).bind fun y_8 => ((q_2.set i5.toNat (r_3, y_4.2))[i5.toNat]?).bind fun y_9 => z9b_ k n y_8.1.1 (z0_ (i5 + 1)) ((q_2.set i5.toNat (r_3, y_4.2)).set i5.toNat (y_9.1, y_8.2.1.1)) e_0 else none) else none) else e_0 k1 q_2)
def zet_ (k : Nat) (k1 : Int) (q_1 : List (List UInt8 × List (List Int))) : Option (((Int × Unit) × (zT1 × Unit) × Unit)) := z9b_ k k k1 0 q_1 (fun k_10 q_11 => some ((k_10, ()), (q_11, ()), ()))
def qn7_ : Head := ⟨[(0, (.ref 1000000000 [])), (1, (.val (.int .i64))), (5, (.val (.int .i64)))], [(1000000000, 48, (.st (.pr .str (.st (.sl 68 (.sl 2 (.int .i64)))))), false)], []⟩
def qn8_ : Head := ⟨[(1, (.val (.int .i64)))], [(1000000000, 48, (.st (.pr .str (.st (.sl 68 (.sl 2 (.int .i64)))))), false)], []⟩
def qn9_ (k n : Nat) (x : qn7_.T) (kx : Nat → St → Option (((Int × Unit) × (zT1 × Unit) × Unit))) : Option (((Int × Unit) × (zT1 × Unit) × Unit)) := z9b_ k n x.1.2.1 x.1.2.2.1 x.2.1.1 (fun (k1 : Int) (q_11 : List (List UInt8 × List (List Int))) => kx 0 (qn8_.fill ((k1, ()), (q_11, ()), ())))
def qna_ (k : Nat) : Oracles (((Int × Unit) × (zT1 × Unit) × Unit)) := ⟨fun n => bif Nat.beq n 2 then some (fun σ kx => qn7_.get σ fun x => qn9_ k k x kx) else none, fun _ => none⟩
def qnb_ : Head := ⟨[(0, (.ref 1000000000 [])), (1, (.val (.int .i64)))], [(1000000000, 48, (.st (.pr .str (.st (.sl 68 (.sl 2 (.int .i64)))))), false)], []⟩
def qnc_ : Head := ⟨[(0, (.val (.int .i64)))], [(1000000000, 48, (.st (.pr .str (.st (.sl 68 (.sl 2 (.int .i64)))))), false)], []⟩
def qnd_ (k : Nat) : OC := ⟨qnb_, qnc_, fun x => zet_ k x.1.2.1 x.2.1.1⟩
theorem qne_ (k : Nat) (pins : Nat → Value) (pinB : Nat → Nat) : zc_ (z3_ ti [(26, qmm_ k)] (lk [(27, 53, qn4_ k)]) pins pinB) (qna_ k) (rdO (z3_ ti [(26, qmm_ k)] (lk [(27, 53, qn4_ k)]) pins pinB) [.tmp 4] qnc_) ((zb_ (z2_ Tryz.f24)).getD 0 .skip) (fun σ kx => qn7_.get σ fun x => qn9_ k k x kx) := by
  refine ⟨qn7_, [(0, qn8_)], fun n x kx => qn9_ k n x kx, k, by kernel_rfl, by kernel_rfl, fun x kx => by kernel_rfl, ?_, fun σ kx => rfl⟩
  rintro n ⟨⟨⟨⟩, k1, i5, ⟨⟩⟩, ⟨q_2, ⟨⟩⟩, ⟨⟩⟩ kx
  kernel_rfl
theorem qnf_ (k : Nat) : z1b_ Tryz.prog ti 24 (qnd_ k) := by
  refine z50_ (tab := [(26, qmm_ k)]) (l := [(27, 53, qn4_ k)]) z6_ z9_ mix (List.forall_mem_cons.2 ⟨qmo_ k, (List.forall_mem_nil _)⟩) (List.forall_mem_cons.2 ⟨qn6_ k, (List.forall_mem_nil _)⟩) ⟨by kernel_rfl, by kernel_rfl, Tryz.f24, (z2_ Tryz.f24), [.tmp 4], (qna_ k), by kernel_rfl, by kernel_rfl, by kernel_rfl, by kernel_rfl, Nat.le_of_ble_eq_true (by kernel_rfl), fun pins pinB => ⟨⟨by kernel_rfl, ?_, ?_⟩, ?_⟩⟩
  · refine zf_ (n := 1) (by kernel_rfl) fun i hi => ?_
    match i, hi with
    | 0, _ => exact zd_ (by kernel_rfl) (qne_ k pins pinB)
    | n + 1, hi => omega
  · exact z8_ (by kernel_rfl)
  · rintro ⟨⟨⟨⟩, k1, ⟨⟩⟩, ⟨q_1, ⟨⟩⟩, ⟨⟩⟩
    kernel_rfl
end
end Go.Proofs.YtibiofjkgdidmaaGreatDoor.Ev
