/- Functions of the program, as zl_ ones. No conditions. -/
import Derived.Test.YtckbclbmkklaoaaGreatDoorG1
import Derived.KernelRfl
set_option linter.unusedVariables false
set_option maxRecDepth 100000
namespace Go.Proofs.YtckbclbmkklaoaaGreatDoor.Ev
open Go.RowKit
noncomputable section
def z9k_ (k : Nat) : Nat → (List (Int × Int × Int)) → Int → (List (Int × Int × Int)) → ((List (Int × Int × Int)) → Option (List (Int × Int × Int))) → Option (List (Int × Int × Int))
  | 0, _, _, _, _ => none
  | n + 1, a0, i4, q_1, e_0 => (if (decide (i4 < (List.length a0 : Int))) = true then (if 0 ≤ i4 then (a0[i4.toNat]?).bind fun y_2 => (zep_ y_2).bind fun r_3 => (if 0 ≤ i4 ∧ i4.toNat < List.length q_1 then (q_1[i4.toNat]?).bind fun y_4 => (q_1[i4.toNat]?).bind fun y_5 => z9k_ k n a0 (z0_ (i4 + 1)) (q_1.set i4.toNat r_3) e_0 else none) else none) else e_0 q_1)
def zfd_ (k : Nat) (a0 : List (Int × Int × Int)) : Option (List (Int × Int × Int)) := (if 0 ≤ (List.length a0 : Int) ∧ (List.length a0 : Int) ≤ (List.length a0 : Int) ∧ (List.length a0 : Int) * 24 ≤ LIM then z9k_ k k a0 0 (List.replicate (List.length a0) (0, (0, 0))) (fun q_6 => some q_6) else none)
def q2c_ : Head := ⟨[(0, (.val (.sl 166 (.st (.pr (.int .i64) (.pr (.int .i64) (.int .i64))))))), (3, (.ref 64000000 [])), (4, (.val (.int .i64)))], [(64000000, 157, (.st (.pr (.int .i64) (.pr (.int .i64) (.int .i64)))), false)], []⟩
def q2d_ : Head := ⟨[(3, (.ref 64000000 []))], [(64000000, 157, (.st (.pr (.int .i64) (.pr (.int .i64) (.int .i64)))), false)], []⟩
def q2e_ (k n : Nat) (x : q2c_.T) (kx : Nat → St → Option (List (Int × Int × Int))) : Option (List (Int × Int × Int)) := z9k_ k n x.1.1 x.1.2.2.1 x.2.1.1 (fun (q_6 : List (Int × Int × Int)) => kx 0 (q2d_.fill (((), ()), (q_6, ()), ())))
def q2f_ (k : Nat) : Oracles (List (Int × Int × Int)) := ⟨fun n => bif Nat.beq n 3 then some (fun σ kx => q2c_.get σ fun x => q2e_ k k x kx) else none, fun _ => none⟩
def q2g_ (k : Nat) : FE := ⟨(.sl 166 (.st (.pr (.int .i64) (.pr (.int .i64) (.int .i64))))), 1, (.sl 157 (.st (.pr (.int .i64) (.pr (.int .i64) (.int .i64))))), fun x => zfd_ k x⟩
theorem q2h_ (k : Nat) : zd_ (z3_ ti [(105, q2a_)] (lk []) z7_ z8_) (q2f_ k) (rdC (z3_ ti [(105, q2a_)] (lk []) z7_ z8_) [.tmp 2] (.sl 157 (.st (.pr (.int .i64) (.pr (.int .i64) (.int .i64)))))) ((zc_ (z2_ Tryz.f66)).getD 0 .skip) (fun σ kx => q2c_.get σ fun x => q2e_ k k x kx) := by
  refine ⟨q2c_, [(0, q2d_)], fun n x kx => q2e_ k n x kx, k, by kernel_rfl, by kernel_rfl, fun x kx => by kernel_rfl, ?_, fun σ kx => rfl⟩
  rintro n ⟨⟨a0, ⟨⟩, i4, ⟨⟩⟩, ⟨q_1, ⟨⟩⟩, ⟨⟩⟩ kx
  kernel_rfl
theorem q2i_ (k : Nat) : FnOK Tryz.prog 66 (q2g_ k) := by
  refine za_ (tab := [(105, q2a_)]) (l := []) z4_ z6_ mix (List.forall_mem_cons.2 ⟨q2b_, (List.forall_mem_nil _)⟩) (List.forall_mem_nil _) ⟨⟨Tryz.f66, (z2_ Tryz.f66), [.tmp 2], (q2f_ k), by kernel_rfl, by kernel_rfl, by kernel_rfl, by kernel_rfl, rfl, by decide, ⟨by kernel_rfl, ?_, ?_⟩, ?_⟩⟩
  · refine zi_ (n := 1) (by kernel_rfl) fun i hi => ?_
    match i, hi with
    | 0, _ => exact ze_ (by kernel_rfl) (q2h_ k)
    | n + 1, hi => omega
  · exact z5_ (by kernel_rfl)
  · rintro a0
    kernel_rfl
def zfe_ (k : Nat) (a0 : Int × List (Int × Int × Int)) : Option (Int × List (Int × Int × Int)) := (zfd_ k a0.2).bind fun r_1 => some (a0.1, r_1)
def q2j_ (k : Nat) : FE := ⟨(.st (.pr (.int .i64) (.sl 166 (.st (.pr (.int .i64) (.pr (.int .i64) (.int .i64))))))), 1, (.st (.pr (.int .i64) (.sl 157 (.st (.pr (.int .i64) (.pr (.int .i64) (.int .i64))))))), fun x => zfe_ k x⟩
theorem q2k_ (k : Nat) : FnOK Tryz.prog 24 (q2j_ k) := by
  refine za_ (tab := [(66, q2g_ k)]) (l := []) z4_ z6_ mix (List.forall_mem_cons.2 ⟨q2i_ k, (List.forall_mem_nil _)⟩) (List.forall_mem_nil _) ⟨⟨Tryz.f24, (z2_ Tryz.f24), [.cell 2 50], (LOn (Int × List (Int × Int × Int))), by kernel_rfl, by kernel_rfl, by kernel_rfl, by kernel_rfl, rfl, by decide, ⟨by kernel_rfl, ?_, ?_⟩, ?_⟩⟩
  · exact zf_ (by kernel_rfl)
  · exact z5_ (by kernel_rfl)
  · rintro a0
    kernel_rfl
def zff_ (k : Nat) (a0 : List Int × List (List Int)) : Option (List Int × List (List Int)) := (z4r_ k a0.1).bind fun r_1 => (zbx_ k a0.2).bind fun r_2 => some (r_1, r_2)
def q2l_ (k : Nat) : FE := ⟨(.st (.pr (.sl 2 (.int .i64)) (.sl 25 (.sl 2 (.int .i64))))), 1, (.st (.pr (.sl 2 (.int .i64)) (.sl 25 (.sl 2 (.int .i64))))), fun x => zff_ k x⟩
theorem q2m_ (k : Nat) : FnOK Tryz.prog 67 (q2l_ k) := by
  refine za_ (tab := [(23, q1n_ k), (104, q1u_ k)]) (l := []) z4_ z6_ mix (List.forall_mem_cons.2 ⟨q1p_ k, (List.forall_mem_cons.2 ⟨q1w_ k, (List.forall_mem_nil _)⟩)⟩) (List.forall_mem_nil _) ⟨⟨Tryz.f67, (z2_ Tryz.f67), [.cell 2 87], (LOn (List Int × List (List Int))), by kernel_rfl, by kernel_rfl, by kernel_rfl, by kernel_rfl, rfl, by decide, ⟨by kernel_rfl, ?_, ?_⟩, ?_⟩⟩
  · exact zf_ (by kernel_rfl)
  · exact z5_ (by kernel_rfl)
  · rintro a0
    kernel_rfl
def z9l_ (k : Nat) : Nat → (List (List Int × List (List Int))) → Int → (List (List Int × List (List Int))) → ((List (List Int × List (List Int))) → Option (List (List Int × List (List Int)))) → Option (List (List Int × List (List Int)))
  | 0, _, _, _, _ => none
  | n + 1, a0, i4, q_1, e_0 => (if (decide (i4 < (List.length a0 : Int))) = true then (if 0 ≤ i4 then (a0[i4.toNat]?).bind fun y_2 => (zff_ k y_2).bind fun r_3 => (if 0 ≤ i4 ∧ i4.toNat < List.length q_1 then (q_1[i4.toNat]?).bind fun y_4 => (q_1[i4.toNat]?).bind fun y_5 => z9l_ k n a0 (z0_ (i4 + 1)) (q_1.set i4.toNat (r_3.1, r_3.2)) e_0 else none) else none) else e_0 q_1)
def zfg_ (k : Nat) (a0 : List (List Int × List (List Int))) : Option (List (List Int × List (List Int))) := (if 0 ≤ (List.length a0 : Int) ∧ (List.length a0 : Int) ≤ (List.length a0 : Int) ∧ (List.length a0 : Int) * 48 ≤ LIM then z9l_ k k a0 0 (List.replicate (List.length a0) ([], [])) (fun q_6 => some q_6) else none)
def q2n_ : Head := ⟨[(0, (.val (.sl 109 (.st (.pr (.sl 2 (.int .i64)) (.sl 25 (.sl 2 (.int .i64)))))))), (3, (.ref 64000000 [])), (4, (.val (.int .i64)))], [(64000000, 87, (.st (.pr (.sl 2 (.int .i64)) (.sl 25 (.sl 2 (.int .i64))))), false)], []⟩
def q2o_ : Head := ⟨[(3, (.ref 64000000 []))], [(64000000, 87, (.st (.pr (.sl 2 (.int .i64)) (.sl 25 (.sl 2 (.int .i64))))), false)], []⟩
def q2p_ (k n : Nat) (x : q2n_.T) (kx : Nat → St → Option (List (List Int × List (List Int)))) : Option (List (List Int × List (List Int))) := z9l_ k n x.1.1 x.1.2.2.1 x.2.1.1 (fun (q_6 : List (List Int × List (List Int))) => kx 0 (q2o_.fill (((), ()), (q_6, ()), ())))
def q2q_ (k : Nat) : Oracles (List (List Int × List (List Int))) := ⟨fun n => bif Nat.beq n 3 then some (fun σ kx => q2n_.get σ fun x => q2p_ k k x kx) else none, fun _ => none⟩
def q2r_ (k : Nat) : FE := ⟨(.sl 109 (.st (.pr (.sl 2 (.int .i64)) (.sl 25 (.sl 2 (.int .i64)))))), 1, (.sl 87 (.st (.pr (.sl 2 (.int .i64)) (.sl 25 (.sl 2 (.int .i64)))))), fun x => zfg_ k x⟩
theorem q2s_ (k : Nat) : zd_ (z3_ ti [(67, q2l_ k)] (lk []) z7_ z8_) (q2q_ k) (rdC (z3_ ti [(67, q2l_ k)] (lk []) z7_ z8_) [.tmp 2] (.sl 87 (.st (.pr (.sl 2 (.int .i64)) (.sl 25 (.sl 2 (.int .i64))))))) ((zc_ (z2_ Tryz.f26)).getD 0 .skip) (fun σ kx => q2n_.get σ fun x => q2p_ k k x kx) := by
  refine ⟨q2n_, [(0, q2o_)], fun n x kx => q2p_ k n x kx, k, by kernel_rfl, by kernel_rfl, fun x kx => by kernel_rfl, ?_, fun σ kx => rfl⟩
  rintro n ⟨⟨a0, ⟨⟩, i4, ⟨⟩⟩, ⟨q_1, ⟨⟩⟩, ⟨⟩⟩ kx
  kernel_rfl
theorem q2t_ (k : Nat) : FnOK Tryz.prog 26 (q2r_ k) := by
  refine za_ (tab := [(67, q2l_ k)]) (l := []) z4_ z6_ mix (List.forall_mem_cons.2 ⟨q2m_ k, (List.forall_mem_nil _)⟩) (List.forall_mem_nil _) ⟨⟨Tryz.f26, (z2_ Tryz.f26), [.tmp 2], (q2q_ k), by kernel_rfl, by kernel_rfl, by kernel_rfl, by kernel_rfl, rfl, by decide, ⟨by kernel_rfl, ?_, ?_⟩, ?_⟩⟩
  · refine zi_ (n := 1) (by kernel_rfl) fun i hi => ?_
    match i, hi with
    | 0, _ => exact ze_ (by kernel_rfl) (q2s_ k)
    | n + 1, hi => omega
  · exact z5_ (by kernel_rfl)
  · rintro a0
    kernel_rfl
def zfh_ (k : Nat) (a0 : List (List Int) × List Int) : Option (List (List Int) × List Int) := (zby_ k a0.1).bind fun r_1 => (z4r_ k a0.2).bind fun r_2 => some (r_1, r_2)
def q2u_ (k : Nat) : FE := ⟨(.st (.pr (.st (.sl 25 (.sl 2 (.int .i64)))) (.sl 2 (.int .i64)))), 1, (.st (.pr (.st (.sl 25 (.sl 2 (.int .i64)))) (.sl 2 (.int .i64)))), fun x => zfh_ k x⟩
theorem q2v_ (k : Nat) : FnOK Tryz.prog 27 (q2u_ k) := by
  refine za_ (tab := [(64, q1x_ k), (23, q1n_ k)]) (l := []) z4_ z6_ mix (List.forall_mem_cons.2 ⟨q1y_ k, (List.forall_mem_cons.2 ⟨q1p_ k, (List.forall_mem_nil _)⟩)⟩) (List.forall_mem_nil _) ⟨⟨Tryz.f27, (z2_ Tryz.f27), [.cell 2 54], (LOn (List (List Int) × List Int)), by kernel_rfl, by kernel_rfl, by kernel_rfl, by kernel_rfl, rfl, by decide, ⟨by kernel_rfl, ?_, ?_⟩, ?_⟩⟩
  · exact zf_ (by kernel_rfl)
  · exact z5_ (by kernel_rfl)
  · rintro a0
    kernel_rfl
def z9m_ (k : Nat) : Nat → (List (List UInt8)) → Int → (List (List UInt8)) → ((List (List UInt8)) → Option (List (List UInt8))) → Option (List (List UInt8))
  | 0, _, _, _, _ => none
  | n + 1, a0, i4, q_1, e_0 => (if (decide (i4 < (List.length a0 : Int))) = true then (if 0 ≤ i4 then (a0[i4.toNat]?).bind fun y_2 => (if 0 ≤ i4 ∧ i4.toNat < List.length q_1 then (q_1[i4.toNat]?).bind fun y_3 => (q_1[i4.toNat]?).bind fun y_4 => z9m_ k n a0 (z0_ (i4 + 1)) (q_1.set i4.toNat y_2) e_0 else none) else none) else e_0 q_1)
def zfi_ (k : Nat) (a0 : List (List UInt8)) : Option (List (List UInt8)) := (if 0 ≤ (List.length a0 : Int) ∧ (List.length a0 : Int) ≤ (List.length a0 : Int) ∧ (List.length a0 : Int) * 16 ≤ LIM then z9m_ k k a0 0 (List.replicate (List.length a0) ([] : List UInt8)) (fun q_5 => some q_5) else none)
def q2w_ : Head := ⟨[(0, (.val (.sl 9 .str))), (3, (.ref 64000000 [])), (4, (.val (.int .i64)))], [(64000000, 9, .str, false)], []⟩
def q2x_ : Head := ⟨[(3, (.ref 64000000 []))], [(64000000, 9, .str, false)], []⟩
def q2y_ (k n : Nat) (x : q2w_.T) (kx : Nat → St → Option (List (List UInt8))) : Option (List (List UInt8)) := z9m_ k n x.1.1 x.1.2.2.1 x.2.1.1 (fun (q_5 : List (List UInt8)) => kx 0 (q2x_.fill (((), ()), (q_5, ()), ())))
def q2z_ (k : Nat) : Oracles (List (List UInt8)) := ⟨fun n => bif Nat.beq n 3 then some (fun σ kx => q2w_.get σ fun x => q2y_ k k x kx) else none, fun _ => none⟩
def q30_ (k : Nat) : FE := ⟨(.sl 9 .str), 1, (.sl 9 .str), fun x => zfi_ k x⟩
theorem q31_ (k : Nat) : zd_ (z3_ ti [] (lk []) z7_ z8_) (q2z_ k) (rdC (z3_ ti [] (lk []) z7_ z8_) [.tmp 2] (.sl 9 .str)) ((zc_ (z2_ Tryz.f106)).getD 0 .skip) (fun σ kx => q2w_.get σ fun x => q2y_ k k x kx) := by
  refine ⟨q2w_, [(0, q2x_)], fun n x kx => q2y_ k n x kx, k, by kernel_rfl, by kernel_rfl, fun x kx => by kernel_rfl, ?_, fun σ kx => rfl⟩
  rintro n ⟨⟨a0, ⟨⟩, i4, ⟨⟩⟩, ⟨q_1, ⟨⟩⟩, ⟨⟩⟩ kx
  kernel_rfl
theorem q32_ (k : Nat) : FnOK Tryz.prog 106 (q30_ k) := by
  refine za_ (tab := []) (l := []) z4_ z6_ mix (List.forall_mem_nil _) (List.forall_mem_nil _) ⟨⟨Tryz.f106, (z2_ Tryz.f106), [.tmp 2], (q2z_ k), by kernel_rfl, by kernel_rfl, by kernel_rfl, by kernel_rfl, rfl, by decide, ⟨by kernel_rfl, ?_, ?_⟩, ?_⟩⟩
  · refine zi_ (n := 1) (by kernel_rfl) fun i hi => ?_
    match i, hi with
    | 0, _ => exact ze_ (by kernel_rfl) (q31_ k)
    | n + 1, hi => omega
  · exact z5_ (by kernel_rfl)
  · rintro a0
    kernel_rfl
def zfj_ (k : Nat) (a0 : List UInt8 × List (List UInt8) × Int × Int) : Option (List UInt8 × List (List UInt8) × Int × Int) := (zfi_ k a0.2.1).bind fun r_1 => some (a0.1, (r_1, (a0.2.2.1, a0.2.2.2)))
def q33_ (k : Nat) : FE := ⟨(.st (.pr .str (.pr (.sl 9 .str) (.pr (.int .i64) (.int .i64))))), 1, (.st (.pr .str (.pr (.sl 9 .str) (.pr (.int .i64) (.int .i64))))), fun x => zfj_ k x⟩
theorem q34_ (k : Nat) : FnOK Tryz.prog 68 (q33_ k) := by
  refine za_ (tab := [(106, q30_ k)]) (l := []) z4_ z6_ mix (List.forall_mem_cons.2 ⟨q32_ k, (List.forall_mem_nil _)⟩) (List.forall_mem_nil _) ⟨⟨Tryz.f68, (z2_ Tryz.f68), [.cell 2 90], (LOn (List UInt8 × List (List UInt8) × Int × Int)), by kernel_rfl, by kernel_rfl, by kernel_rfl, by kernel_rfl, rfl, by decide, ⟨by kernel_rfl, ?_, ?_⟩, ?_⟩⟩
  · exact zf_ (by kernel_rfl)
  · exact z5_ (by kernel_rfl)
  · rintro a0
    kernel_rfl
def z9n_ (k : Nat) : Nat → (List (List UInt8 × List (List UInt8) × Int × Int)) → Int → (List (List UInt8 × List (List UInt8) × Int × Int)) → ((List (List UInt8 × List (List UInt8) × Int × Int)) → Option (List (List UInt8 × List (List UInt8) × Int × Int))) → Option (List (List UInt8 × List (List UInt8) × Int × Int))
  | 0, _, _, _, _ => none
  | n + 1, a0, i4, q_1, e_0 => (if (decide (i4 < (List.length a0 : Int))) = true then (if 0 ≤ i4 then (a0[i4.toNat]?).bind fun y_2 => (zfj_ k y_2).bind fun r_3 => (if 0 ≤ i4 ∧ i4.toNat < List.length q_1 then (q_1[i4.toNat]?).bind fun y_4 => (q_1[i4.toNat]?).bind fun y_5 => z9n_ k n a0 (z0_ (i4 + 1)) (q_1.set i4.toNat (r_3.1, (r_3.2.1, (r_3.2.2.1, r_3.2.2.2)))) e_0 else none) else none) else e_0 q_1)
def zfk_ (k : Nat) (a0 : List (List UInt8 × List (List UInt8) × Int × Int)) : Option (List (List UInt8 × List (List UInt8) × Int × Int)) := (if 0 ≤ (List.length a0 : Int) ∧ (List.length a0 : Int) ≤ (List.length a0 : Int) ∧ (List.length a0 : Int) * 56 ≤ LIM then z9n_ k k a0 0 (List.replicate (List.length a0) ([], ([], (0, 0)))) (fun q_6 => some q_6) else none)
def q35_ : Head := ⟨[(0, (.val (.sl 111 (.st (.pr .str (.pr (.sl 9 .str) (.pr (.int .i64) (.int .i64)))))))), (3, (.ref 64000000 [])), (4, (.val (.int .i64)))], [(64000000, 90, (.st (.pr .str (.pr (.sl 9 .str) (.pr (.int .i64) (.int .i64))))), false)], []⟩
def q36_ : Head := ⟨[(3, (.ref 64000000 []))], [(64000000, 90, (.st (.pr .str (.pr (.sl 9 .str) (.pr (.int .i64) (.int .i64))))), false)], []⟩
def q37_ (k n : Nat) (x : q35_.T) (kx : Nat → St → Option (List (List UInt8 × List (List UInt8) × Int × Int))) : Option (List (List UInt8 × List (List UInt8) × Int × Int)) := z9n_ k n x.1.1 x.1.2.2.1 x.2.1.1 (fun (q_6 : List (List UInt8 × List (List UInt8) × Int × Int)) => kx 0 (q36_.fill (((), ()), (q_6, ()), ())))
def q38_ (k : Nat) : Oracles (List (List UInt8 × List (List UInt8) × Int × Int)) := ⟨fun n => bif Nat.beq n 3 then some (fun σ kx => q35_.get σ fun x => q37_ k k x kx) else none, fun _ => none⟩
def q39_ (k : Nat) : FE := ⟨(.sl 111 (.st (.pr .str (.pr (.sl 9 .str) (.pr (.int .i64) (.int .i64)))))), 1, (.sl 90 (.st (.pr .str (.pr (.sl 9 .str) (.pr (.int .i64) (.int .i64)))))), fun x => zfk_ k x⟩
theorem q3a_ (k : Nat) : zd_ (z3_ ti [(68, q33_ k)] (lk []) z7_ z8_) (q38_ k) (rdC (z3_ ti [(68, q33_ k)] (lk []) z7_ z8_) [.tmp 2] (.sl 90 (.st (.pr .str (.pr (.sl 9 .str) (.pr (.int .i64) (.int .i64))))))) ((zc_ (z2_ Tryz.f28)).getD 0 .skip) (fun σ kx => q35_.get σ fun x => q37_ k k x kx) := by
  refine ⟨q35_, [(0, q36_)], fun n x kx => q37_ k n x kx, k, by kernel_rfl, by kernel_rfl, fun x kx => by kernel_rfl, ?_, fun σ kx => rfl⟩
  rintro n ⟨⟨a0, ⟨⟩, i4, ⟨⟩⟩, ⟨q_1, ⟨⟩⟩, ⟨⟩⟩ kx
  kernel_rfl
theorem q3b_ (k : Nat) : FnOK Tryz.prog 28 (q39_ k) := by
  refine za_ (tab := [(68, q33_ k)]) (l := []) z4_ z6_ mix (List.forall_mem_cons.2 ⟨q34_ k, (List.forall_mem_nil _)⟩) (List.forall_mem_nil _) ⟨⟨Tryz.f28, (z2_ Tryz.f28), [.tmp 2], (q38_ k), by kernel_rfl, by kernel_rfl, by kernel_rfl, by kernel_rfl, rfl, by decide, ⟨by kernel_rfl, ?_, ?_⟩, ?_⟩⟩
  · refine zi_ (n := 1) (by kernel_rfl) fun i hi => ?_
    match i, hi with
    | 0, _ => exact ze_ (by kernel_rfl) (q3a_ k)
    | n + 1, hi => omega
  · exact z5_ (by kernel_rfl)
  · rintro a0
    kernel_rfl
def z79_ (k : Nat) (a0 : (List (List Int) × Int × List Int × List (Int × Int × Int × List Int)) × List Int × (Int × List (Int × Int × Int)) × List Int × (Int × Int × Int × List Int) × (List (List Int × List (List Int))) × (List (List Int) × List Int) × List (List UInt8 × List (List UInt8) × Int × Int)) : Option ((List (List Int) × Int × List Int × List (Int × Int × Int × List Int)) × List Int × (Int × List (Int × Int × Int)) × List Int × (Int × Int × Int × List Int) × (List (List Int × List (List Int))) × (List (List Int) × List Int) × List (List UInt8 × List (List UInt8) × Int × Int)) := (zeo_ k a0.1).bind fun r_1 => (z4r_ k a0.2.1).bind fun r_2 => (zfe_ k a0.2.2.1).bind fun r_3 => (z4r_ k a0.2.2.2.1).bind fun r_4 => (zbz_ k a0.2.2.2.2.1).bind fun r_5 => (zfg_ k a0.2.2.2.2.2.1).bind fun r_6 => (zfh_ k a0.2.2.2.2.2.2.1).bind fun r_7 => (zfk_ k a0.2.2.2.2.2.2.2).bind fun r_8 => some ((r_1.1, (r_1.2.1, (r_1.2.2.1, r_1.2.2.2))), (r_2, ((r_3.1, r_3.2), (r_4, ((r_5.1, (r_5.2.1, (r_5.2.2.1, r_5.2.2.2))), (r_6, ((r_7.1, r_7.2), r_8)))))))
def q3c_ (k : Nat) : FE := ⟨(.st (.pr (.st (.pr (.st (.sl 25 (.sl 2 (.int .i64)))) (.pr (.int .i64) (.pr (.sl 2 (.int .i64)) (.sl 33 (.st (.pr (.int .i64) (.pr (.int .i64) (.pr (.int .i64) (.sl 2 (.int .i64))))))))))) (.pr (.sl 2 (.int .i64)) (.pr (.st (.pr (.int .i64) (.sl 166 (.st (.pr (.int .i64) (.pr (.int .i64) (.int .i64))))))) (.pr (.sl 2 (.int .i64)) (.pr (.st (.pr (.int .i64) (.pr (.int .i64) (.pr (.int .i64) (.sl 2 (.int .i64)))))) (.pr (.sl 109 (.st (.pr (.sl 2 (.int .i64)) (.sl 25 (.sl 2 (.int .i64)))))) (.pr (.st (.pr (.st (.sl 25 (.sl 2 (.int .i64)))) (.sl 2 (.int .i64)))) (.sl 111 (.st (.pr .str (.pr (.sl 9 .str) (.pr (.int .i64) (.int .i64)))))))))))))), 1, (.st (.pr (.st (.pr (.st (.sl 25 (.sl 2 (.int .i64)))) (.pr (.int .i64) (.pr (.sl 2 (.int .i64)) (.sl 51 (.st (.pr (.int .i64) (.pr (.int .i64) (.pr (.int .i64) (.sl 2 (.int .i64))))))))))) (.pr (.sl 2 (.int .i64)) (.pr (.st (.pr (.int .i64) (.sl 157 (.st (.pr (.int .i64) (.pr (.int .i64) (.int .i64))))))) (.pr (.sl 2 (.int .i64)) (.pr (.st (.pr (.int .i64) (.pr (.int .i64) (.pr (.int .i64) (.sl 2 (.int .i64)))))) (.pr (.sl 87 (.st (.pr (.sl 2 (.int .i64)) (.sl 25 (.sl 2 (.int .i64)))))) (.pr (.st (.pr (.st (.sl 25 (.sl 2 (.int .i64)))) (.sl 2 (.int .i64)))) (.sl 90 (.st (.pr .str (.pr (.sl 9 .str) (.pr (.int .i64) (.int .i64)))))))))))))), fun x => z79_ k x⟩
theorem q3d_ (k : Nat) : FnOK Tryz.prog 6 (q3c_ k) := by
  refine za_ (tab := [(22, q28_ k), (23, q1n_ k), (24, q2j_ k), (25, q1z_ k), (26, q2r_ k), (27, q2u_ k), (28, q39_ k)]) (l := []) z4_ z6_ mix (List.forall_mem_cons.2 ⟨q29_ k, (List.forall_mem_cons.2 ⟨q1p_ k, (List.forall_mem_cons.2 ⟨q2k_ k, (List.forall_mem_cons.2 ⟨q20_ k, (List.forall_mem_cons.2 ⟨q2t_ k, (List.forall_mem_cons.2 ⟨q2v_ k, (List.forall_mem_cons.2 ⟨q3b_ k, (List.forall_mem_nil _)⟩)⟩)⟩)⟩)⟩)⟩)⟩) (List.forall_mem_nil _) ⟨⟨Tryz.f6, (z2_ Tryz.f6), [.cell 2 57], (LOn ((List (List Int) × Int × List Int × List (Int × Int × Int × List Int)) × List Int × (Int × List (Int × Int × Int)) × List Int × (Int × Int × Int × List Int) × (List (List Int × List (List Int))) × (List (List Int) × List Int) × List (List UInt8 × List (List UInt8) × Int × Int))), by kernel_rfl, by kernel_rfl, by kernel_rfl, by kernel_rfl, rfl, by decide, ⟨by kernel_rfl, ?_, ?_⟩, ?_⟩⟩
  · exact zf_ (by kernel_rfl)
  · exact z5_ (by kernel_rfl)
  · rintro a0
    kernel_rfl
def z21_ (n0 : Int) (low1 : Int) (high2 : Int) : Option Bool := (if (decide (low1 ≤ n0)) = true then some (decide (n0 ≤ high2)) else some false)
def q3e_ : FE := ⟨(.pr (.int .i64) (.pr (.int .i64) (.int .i64))), 1, .bool, fun x => z21_ x.1 x.2.1 x.2.2⟩
theorem q3f_ : FnOK Tryz.prog 96 (q3e_) := by
  refine za_ (tab := []) (l := []) z4_ z6_ mix (List.forall_mem_nil _) (List.forall_mem_nil _) ⟨⟨Tryz.f96, (z2_ Tryz.f96), [.tmp 6], (LOn Bool), by kernel_rfl, by kernel_rfl, by kernel_rfl, by kernel_rfl, rfl, by decide, ⟨by kernel_rfl, ?_, ?_⟩, ?_⟩⟩
  · exact zf_ (by kernel_rfl)
  · exact z5_ (by kernel_rfl)
  · rintro ⟨n0, low1, high2⟩
    kernel_rfl
def z7a_ (k : Nat) : Nat → (List Int) → Int → Int → Int → (Option Bool) → Option Bool
  | 0, _, _, _, _, _ => none
  | n + 1, list0, low1, high2, i7, e_0 => (if (decide (i7 < (List.length list0 : Int))) = true then (if 0 ≤ i7 then (list0[i7.toNat]?).bind fun y_1 => (z21_ y_1 low1 high2).bind fun r_2 => (if (!r_2) = true then some false else (if (decide (0 < i7)) = true then (if 0 ≤ (z0_ (i7 - 1)) then (list0[(z0_ (i7 - 1)).toNat]?).bind fun y_3 => (if 0 ≤ i7 then (list0[i7.toNat]?).bind fun y_4 => (if (decide (y_4 ≤ y_3)) = true then some false else z7a_ k n list0 low1 high2 (z0_ (i7 + 1)) e_0) else none) else none) else z7a_ k n list0 low1 high2 (z0_ (i7 + 1)) e_0)) else none) else e_0)
def z9o_ (k : Nat) (list0 : List Int) (low1 : Int) (high2 : Int) : Option Bool := z7a_ k k list0 low1 high2 0 (some true)
def q3g_ : Head := ⟨[(0, (.val (.sl 2 (.int .i64)))), (1, (.val (.int .i64))), (2, (.val (.int .i64))), (7, (.val (.int .i64)))], [], []⟩
def q3h_ : Head := ⟨[], [], []⟩
def q3i_ (k n : Nat) (x : q3g_.T) (kx : Nat → St → Option Bool) : Option Bool := z7a_ k n x.1.1 x.1.2.1 x.1.2.2.1 x.1.2.2.2.1 (kx 0 (q3h_.fill ((), (), ())))
def q3j_ (k : Nat) : Oracles Bool := ⟨fun n => bif Nat.beq n 2 then some (fun σ kx => q3g_.get σ fun x => q3i_ k k x kx) else none, fun _ => none⟩
def q3k_ (k : Nat) : FE := ⟨(.pr (.sl 2 (.int .i64)) (.pr (.int .i64) (.int .i64))), 1, .bool, fun x => z9o_ k x.1 x.2.1 x.2.2⟩
theorem q3l_ (k : Nat) : zd_ (z3_ ti [(96, q3e_)] (lk []) z7_ z8_) (q3j_ k) (rdC (z3_ ti [(96, q3e_)] (lk []) z7_ z8_) [.tmp 6] .bool) ((zc_ (z2_ Tryz.f139)).getD 0 .skip) (fun σ kx => q3g_.get σ fun x => q3i_ k k x kx) := by
  refine ⟨q3g_, [(0, q3h_)], fun n x kx => q3i_ k n x kx, k, by kernel_rfl, by kernel_rfl, fun x kx => by kernel_rfl, ?_, fun σ kx => rfl⟩
  rintro n ⟨⟨list0, low1, high2, i7, ⟨⟩⟩, ⟨⟩, ⟨⟩⟩ kx
  kernel_rfl
theorem q3m_ (k : Nat) : FnOK Tryz.prog 139 (q3k_ k) := by
  refine za_ (tab := [(96, q3e_)]) (l := []) z4_ z6_ mix (List.forall_mem_cons.2 ⟨q3f_, (List.forall_mem_nil _)⟩) (List.forall_mem_nil _) ⟨⟨Tryz.f139, (z2_ Tryz.f139), [.tmp 6], (q3j_ k), by kernel_rfl, by kernel_rfl, by kernel_rfl, by kernel_rfl, rfl, by decide, ⟨by kernel_rfl, ?_, ?_⟩, ?_⟩⟩
  · refine zi_ (n := 1) (by kernel_rfl) fun i hi => ?_
    match i, hi with
    | 0, _ => exact ze_ (by kernel_rfl) (q3l_ k)
    | n + 1, hi => omega
  · exact z5_ (by kernel_rfl)
  · rintro ⟨list0, low1, high2⟩
    kernel_rfl
def zfl_ (k : Nat) (s0 : List Int) : Option Bool := (z21_ (List.length s0 : Int) 1 4).bind fun r_1 => (if r_1 = true then (z9o_ k s0 0 9).bind fun r_2 => some r_2 else some false)
def q3n_ (k : Nat) : FE := ⟨(.sl 2 (.int .i64)), 1, .bool, fun x => zfl_ k x⟩
theorem q3o_ (k : Nat) : FnOK Tryz.prog 134 (q3n_ k) := by
  refine za_ (tab := [(96, q3e_), (139, q3k_ k)]) (l := []) z4_ z6_ mix (List.forall_mem_cons.2 ⟨q3f_, (List.forall_mem_cons.2 ⟨q3m_ k, (List.forall_mem_nil _)⟩)⟩) (List.forall_mem_nil _) ⟨⟨Tryz.f134, (z2_ Tryz.f134), [.tmp 2], (LOn Bool), by kernel_rfl, by kernel_rfl, by kernel_rfl, by kernel_rfl, rfl, by decide, ⟨by kernel_rfl, ?_, ?_⟩, ?_⟩⟩
  · exact zf_ (by kernel_rfl)
  · exact z5_ (by kernel_rfl)
  · rintro s0
    kernel_rfl
def z9p_ (k : Nat) : Nat → (List Int) → (List Int) → Int → (Option Bool) → Option Bool
  | 0, _, _, _, _ => none
  | n + 1, a0, b1, i5, e_0 => (if (decide (i5 < (List.length a0 : Int))) = true then (if 0 ≤ i5 then (a0[i5.toNat]?).bind fun y_1 => (if 0 ≤ i5 then (b1[i5.toNat]?).bind fun y_2 => (if (!(decide (y_1 = y_2))) = true then (if 0 ≤ i5 then (a0[i5.toNat]?).bind fun y_3 => (if 0 ≤ i5 then (b1[i5.toNat]?).bind fun y_4 => some (decide (y_3 < y_4)) else none) else none) else z9p_ k n a0 b1 (z0_ (i5 + 1)) e_0) else none) else none) else e_0)
def zfm_ (k : Nat) (a0 : List Int) (b1 : List Int) : Option Bool := (if (!(decide ((List.length a0 : Int) = (List.length b1 : Int)))) = true then some (decide ((List.length a0 : Int) < (List.length b1 : Int))) else z9p_ k k a0 b1 0 (some false))
def q3p_ : Head := ⟨[(0, (.val (.sl 2 (.int .i64)))), (1, (.val (.sl 2 (.int .i64)))), (5, (.val (.int .i64)))], [], []⟩
def q3q_ : Head := ⟨[], [], []⟩
def q3r_ (k n : Nat) (x : q3p_.T) (kx : Nat → St → Option Bool) : Option Bool := z9p_ k n x.1.1 x.1.2.1 x.1.2.2.1 (kx 0 (q3q_.fill ((), (), ())))
def q3s_ (k : Nat) : Oracles Bool := ⟨fun n => bif Nat.beq n 4 then some (fun σ kx => q3p_.get σ fun x => q3r_ k k x kx) else none, fun _ => none⟩
def q3t_ (k : Nat) : FE := ⟨(.pr (.sl 2 (.int .i64)) (.sl 2 (.int .i64))), 1, .bool, fun x => zfm_ k x.1 x.2⟩
theorem q3u_ (k : Nat) : zd_ (z3_ ti [] (lk []) z7_ z8_) (q3s_ k) (rdC (z3_ ti [] (lk []) z7_ z8_) [.tmp 4] .bool) ((zc_ (z2_ Tryz.f135)).getD 0 .skip) (fun σ kx => q3p_.get σ fun x => q3r_ k k x kx) := by
  refine ⟨q3p_, [(0, q3q_)], fun n x kx => q3r_ k n x kx, k, by kernel_rfl, by kernel_rfl, fun x kx => by kernel_rfl, ?_, fun σ kx => rfl⟩
  rintro n ⟨⟨a0, b1, i5, ⟨⟩⟩, ⟨⟩, ⟨⟩⟩ kx
  kernel_rfl
theorem q3v_ (k : Nat) : FnOK Tryz.prog 135 (q3t_ k) := by
  refine za_ (tab := []) (l := []) z4_ z6_ mix (List.forall_mem_nil _) (List.forall_mem_nil _) ⟨⟨Tryz.f135, (z2_ Tryz.f135), [.tmp 4], (q3s_ k), by kernel_rfl, by kernel_rfl, by kernel_rfl, by kernel_rfl, rfl, by decide, ⟨by kernel_rfl, ?_, ?_⟩, ?_⟩⟩
  · refine zi_ (n := 1) (by kernel_rfl) fun i hi => ?_
    match i, hi with
    | 0, _ => exact ze_ (by kernel_rfl) (q3u_ k)
    | n + 1, hi => omega
  · exact z5_ (by kernel_rfl)
  · rintro ⟨a0, b1⟩
    kernel_rfl
def zj7_ (list0 : List Int) : Option (List Int) := (if (([] : List Unit).length + list0.length) * 8 ≤ LIM then some list0 else none)
def q3w_ : FE := ⟨(.sl 2 (.int .i64)), 1, (.sl 2 (.int .i64)), fun x => zj7_ x⟩
theorem q3x_ : FnOK Tryz.prog 172 (q3w_) := by
  refine za_ (tab := []) (l := []) z4_ z6_ mix (List.forall_mem_nil _) (List.forall_mem_nil _) ⟨⟨Tryz.f172, (z2_ Tryz.f172), [.tmp 2], (LOn (List Int)), by kernel_rfl, by kernel_rfl, by kernel_rfl, by kernel_rfl, rfl, by decide, ⟨by kernel_rfl, ?_, ?_⟩, ?_⟩⟩
  · exact zf_ (by kernel_rfl)
  · exact z5_ (by kernel_rfl)
  · rintro list0
    kernel_rfl
def zc7_ (s0 : List Int) (k1 : Int) : Option (List Int) := (if 0 ≤ (0 : Int) ∧ (0 : Int) ≤ k1 ∧ k1 ≤ s0.length then (zj7_ (s0.take k1.toNat)).bind fun r_1 => (if 0 ≤ (z0_ (k1 + 1)) ∧ (z0_ (k1 + 1)) ≤ (s0.length : Int) ∧ (s0.length : Int) ≤ s0.length then (if (r_1.length + ((s0.drop ((z0_ (k1 + 1)).toNat)).take (s0.length - (z0_ (k1 + 1)).toNat)).length) * 8 ≤ LIM then some (r_1 ++ ((s0.drop ((z0_ (k1 + 1)).toNat)).take (s0.length - (z0_ (k1 + 1)).toNat))) else none) else none) else none)
def q3y_ : FE := ⟨(.pr (.sl 2 (.int .i64)) (.int .i64)), 1, (.sl 2 (.int .i64)), fun x => zc7_ x.1 x.2⟩
theorem q3z_ : FnOK Tryz.prog 137 (q3y_) := by
  refine za_ (tab := [(172, q3w_)]) (l := []) z4_ z6_ mix (List.forall_mem_cons.2 ⟨q3x_, (List.forall_mem_nil _)⟩) (List.forall_mem_nil _) ⟨⟨Tryz.f137, (z2_ Tryz.f137), [.tmp 4], (LOn (List Int)), by kernel_rfl, by kernel_rfl, by kernel_rfl, by kernel_rfl, rfl, by decide, ⟨by kernel_rfl, ?_, ?_⟩, ?_⟩⟩
  · exact zf_ (by kernel_rfl)
  · exact z5_ (by kernel_rfl)
  · rintro ⟨s0, k1⟩
    kernel_rfl
def z9q_ (k : Nat) : Nat → (List Int) → (List Int) → Int → (Option Bool) → Option Bool
  | 0, _, _, _, _ => none
  | n + 1, a0, b1, i5, e_0 => (if (decide (i5 < (List.length a0 : Int))) = true then (if 0 ≤ i5 then (a0[i5.toNat]?).bind fun y_1 => (if 0 ≤ i5 then (b1[i5.toNat]?).bind fun y_2 => (if (!(decide (y_1 = y_2))) = true then some false else z9q_ k n a0 b1 (z0_ (i5 + 1)) e_0) else none) else none) else e_0)
def zfn_ (k : Nat) (a0 : List Int) (b1 : List Int) : Option Bool := (if (!(decide ((List.length a0 : Int) = (List.length b1 : Int)))) = true then some false else z9q_ k k a0 b1 0 (some true))
def q40_ : Head := ⟨[(0, (.val (.sl 2 (.int .i64)))), (1, (.val (.sl 2 (.int .i64)))), (5, (.val (.int .i64)))], [], []⟩
def q41_ : Head := ⟨[], [], []⟩
def q42_ (k n : Nat) (x : q40_.T) (kx : Nat → St → Option Bool) : Option Bool := z9q_ k n x.1.1 x.1.2.1 x.1.2.2.1 (kx 0 (q41_.fill ((), (), ())))
def q43_ (k : Nat) : Oracles Bool := ⟨fun n => bif Nat.beq n 4 then some (fun σ kx => q40_.get σ fun x => q42_ k k x kx) else none, fun _ => none⟩
def q44_ (k : Nat) : FE := ⟨(.pr (.sl 2 (.int .i64)) (.sl 2 (.int .i64))), 1, .bool, fun x => zfn_ k x.1 x.2⟩
theorem q45_ (k : Nat) : zd_ (z3_ ti [] (lk []) z7_ z8_) (q43_ k) (rdC (z3_ ti [] (lk []) z7_ z8_) [.tmp 4] .bool) ((zc_ (z2_ Tryz.f171)).getD 0 .skip) (fun σ kx => q40_.get σ fun x => q42_ k k x kx) := by
  refine ⟨q40_, [(0, q41_)], fun n x kx => q42_ k n x kx, k, by kernel_rfl, by kernel_rfl, fun x kx => by kernel_rfl, ?_, fun σ kx => rfl⟩
  rintro n ⟨⟨a0, b1, i5, ⟨⟩⟩, ⟨⟩, ⟨⟩⟩ kx
  kernel_rfl
theorem q46_ (k : Nat) : FnOK Tryz.prog 171 (q44_ k) := by
  refine za_ (tab := []) (l := []) z4_ z6_ mix (List.forall_mem_nil _) (List.forall_mem_nil _) ⟨⟨Tryz.f171, (z2_ Tryz.f171), [.tmp 4], (q43_ k), by kernel_rfl, by kernel_rfl, by kernel_rfl, by kernel_rfl, rfl, by decide, ⟨by kernel_rfl, ?_, ?_⟩, ?_⟩⟩
  · refine zi_ (n := 1) (by kernel_rfl) fun i hi => ?_
    match i, hi with
    | 0, _ => exact ze_ (by kernel_rfl) (q45_ k)
    | n + 1, hi => omega
  · exact z5_ (by kernel_rfl)
  · rintro ⟨a0, b1⟩
    kernel_rfl
def z9r_ (k : Nat) : Nat → (List (List Int)) → (List Int) → Int → (Option Int) → Option Int
  | 0, _, _, _, _ => none
  | n + 1, c0, s1, i5, e_0 => (if (decide (i5 < (List.length c0 : Int))) = true then (if 0 ≤ i5 then (c0[i5.toNat]?).bind fun y_1 => (zfn_ k y_1 s1).bind fun r_2 => (if r_2 = true then some i5 else z9r_ k n c0 s1 (z0_ (i5 + 1)) e_0) else none) else e_0)
def zc8_ (k : Nat) (c0 : List (List Int)) (s1 : List Int) : Option Int := z9r_ k k c0 s1 0 (some (-1))
def q47_ : Head := ⟨[(0, (.val (.ptr (.st (.sl 25 (.sl 2 (.int .i64))))))), (1, (.val (.sl 2 (.int .i64)))), (5, (.val (.int .i64)))], [], []⟩
def q48_ : Head := ⟨[], [], []⟩
def q49_ (k n : Nat) (x : q47_.T) (kx : Nat → St → Option Int) : Option Int := z9r_ k n x.1.1 x.1.2.1 x.1.2.2.1 (kx 0 (q48_.fill ((), (), ())))
def q4a_ (k : Nat) : Oracles Int := ⟨fun n => bif Nat.beq n 2 then some (fun σ kx => q47_.get σ fun x => q49_ k k x kx) else none, fun _ => none⟩
def q4b_ (k : Nat) : FE := ⟨(.pr (.ptr (.st (.sl 25 (.sl 2 (.int .i64))))) (.sl 2 (.int .i64))), 1, (.int .i64), fun x => zc8_ k x.1 x.2⟩
theorem q4c_ (k : Nat) : zd_ (z3_ ti [(171, q44_ k)] (lk []) z7_ z8_) (q4a_ k) (rdC (z3_ ti [(171, q44_ k)] (lk []) z7_ z8_) [.tmp 4] (.int .i64)) ((zc_ (z2_ Tryz.f136)).getD 0 .skip) (fun σ kx => q47_.get σ fun x => q49_ k k x kx) := by
  refine ⟨q47_, [(0, q48_)], fun n x kx => q49_ k n x kx, k, by kernel_rfl, by kernel_rfl, fun x kx => by kernel_rfl, ?_, fun σ kx => rfl⟩
  rintro n ⟨⟨c0, s1, i5, ⟨⟩⟩, ⟨⟩, ⟨⟩⟩ kx
  kernel_rfl
theorem q4d_ (k : Nat) : FnOK Tryz.prog 136 (q4b_ k) := by
  refine za_ (tab := [(171, q44_ k)]) (l := []) z4_ z6_ mix (List.forall_mem_cons.2 ⟨q46_ k, (List.forall_mem_nil _)⟩) (List.forall_mem_nil _) ⟨⟨Tryz.f136, (z2_ Tryz.f136), [.tmp 4], (q4a_ k), by kernel_rfl, by kernel_rfl, by kernel_rfl, by kernel_rfl, rfl, by decide, ⟨by kernel_rfl, ?_, ?_⟩, ?_⟩⟩
  · refine zi_ (n := 1) (by kernel_rfl) fun i hi => ?_
    match i, hi with
    | 0, _ => exact ze_ (by kernel_rfl) (q4c_ k)
    | n + 1, hi => omega
  · exact z5_ (by kernel_rfl)
  · rintro ⟨c0, s1⟩
    kernel_rfl
end
end Go.Proofs.YtckbclbmkklaoaaGreatDoor.Ev
