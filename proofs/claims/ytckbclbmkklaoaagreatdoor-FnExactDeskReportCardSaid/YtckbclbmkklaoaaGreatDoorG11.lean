/- Functions of the program, as zl_ ones. No conditions. -/
import Derived.Test.YtckbclbmkklaoaaGreatDoorG10
import Derived.KernelRfl
set_option linter.unusedVariables false
set_option maxRecDepth 100000
namespace Go.Proofs.YtckbclbmkklaoaaGreatDoor.Ev
open Go.RowKit
noncomputable section
def z99_ (k : Nat) : Nat → Int → Int → (List (List Int)) → (Int → (List (List Int)) → Option (((Int × Unit) × ((List (List Int)) × Unit) × Unit))) → Option (((Int × Unit) × ((List (List Int)) × Unit) × Unit))
  | 0, _, _, _, _ => none
  | n + 1, k1, i5, q_2, e_0 => (if (decide (i5 < (List.length q_2 : Int))) = true then (if 0 ≤ i5 ∧ i5.toNat < List.length q_2 then (q_2[i5.toNat]?).bind fun y_3 => (zf1_ k i5.toNat k1 q_2).bind fun y_4 => z99_ k n y_4.1.1 (z0_ (i5 + 1)) y_4.2.1.1 e_0 else none) else e_0 k1 q_2)
def zc3_ (k : Nat) (k1 : Int) (q_1 : List (List Int)) : Option (((Int × Unit) × ((List (List Int)) × Unit) × Unit)) := z99_ k k k1 0 q_1 (fun k_5 q_6 => some ((k_5, ()), (q_6, ()), ()))
def qlr_ : Head := ⟨[(0, (.ref 1000000000 [])), (1, (.val (.int .i64))), (5, (.val (.int .i64)))], [(1000000000, 25, (.sl 2 (.int .i64)), false)], []⟩
def qls_ : Head := ⟨[(1, (.val (.int .i64)))], [(1000000000, 25, (.sl 2 (.int .i64)), false)], []⟩
def qlt_ (k n : Nat) (x : qlr_.T) (kx : Nat → St → Option (((Int × Unit) × ((List (List Int)) × Unit) × Unit))) : Option (((Int × Unit) × ((List (List Int)) × Unit) × Unit)) := z99_ k n x.1.2.1 x.1.2.2.1 x.2.1.1 (fun (k1 : Int) (q_6 : List (List Int)) => kx 0 (qls_.fill ((k1, ()), (q_6, ()), ())))
def qlu_ (k : Nat) : Oracles (((Int × Unit) × ((List (List Int)) × Unit) × Unit)) := ⟨fun n => bif Nat.beq n 2 then some (fun σ kx => qlr_.get σ fun x => qlt_ k k x kx) else none, fun _ => none⟩
def qlv_ : Head := ⟨[(0, (.ref 1000000000 [])), (1, (.val (.int .i64)))], [(1000000000, 25, (.sl 2 (.int .i64)), false)], []⟩
def qlw_ : Head := ⟨[(0, (.val (.int .i64)))], [(1000000000, 25, (.sl 2 (.int .i64)), false)], []⟩
def qlx_ (k : Nat) : OC := ⟨qlv_, qlw_, fun x => zc3_ k x.1.2.1 x.2.1.1⟩
theorem qly_ (k : Nat) (pins : Nat → Value) (pinB : Nat → Nat) : zd_ (z3_ ti [] (lk [(17, 43, qlo_ k)]) pins pinB) (qlu_ k) (rdO (z3_ ti [] (lk [(17, 43, qlo_ k)]) pins pinB) [.tmp 4] qlw_) ((zc_ (z2_ Tryz.f87)).getD 0 .skip) (fun σ kx => qlr_.get σ fun x => qlt_ k k x kx) := by
  refine ⟨qlr_, [(0, qls_)], fun n x kx => qlt_ k n x kx, k, by kernel_rfl, by kernel_rfl, fun x kx => by kernel_rfl, ?_, fun σ kx => rfl⟩
  rintro n ⟨⟨⟨⟩, k1, i5, ⟨⟩⟩, ⟨q_2, ⟨⟩⟩, ⟨⟩⟩ kx
  kernel_rfl
theorem qlz_ (k : Nat) : z14_ Tryz.prog ti 87 (qlx_ k) := by
  refine z2l_ (tab := []) (l := [(17, 43, qlo_ k)]) z4_ z6_ mix (List.forall_mem_nil _) (List.forall_mem_cons.2 ⟨qlq_ k, (List.forall_mem_nil _)⟩) ⟨by kernel_rfl, by kernel_rfl, Tryz.f87, (z2_ Tryz.f87), [.tmp 4], (qlu_ k), by kernel_rfl, by kernel_rfl, by kernel_rfl, by kernel_rfl, Nat.le_of_ble_eq_true (by kernel_rfl), fun pins pinB => ⟨⟨by kernel_rfl, ?_, ?_⟩, ?_⟩⟩
  · refine zi_ (n := 1) (by kernel_rfl) fun i hi => ?_
    match i, hi with
    | 0, _ => exact ze_ (by kernel_rfl) (qly_ k pins pinB)
    | n + 1, hi => omega
  · exact z5_ (by kernel_rfl)
  · rintro ⟨⟨⟨⟩, k1, ⟨⟩⟩, ⟨q_1, ⟨⟩⟩, ⟨⟩⟩
    kernel_rfl
def zc4_ (k : Nat) (k1 : Int) (q_1 : List (List Int)) : Option (((Int × Unit) × ((List (List Int)) × Unit) × Unit)) := (zc3_ k k1 q_1).bind fun y_2 => some ((y_2.1.1, ()), (y_2.2.1.1, ()), ())
def qm0_ : Head := ⟨[(0, (.st (.ref 1000000000 []))), (1, (.val (.int .i64)))], [(1000000000, 25, (.sl 2 (.int .i64)), false)], []⟩
def qm1_ : Head := ⟨[(0, (.val (.int .i64)))], [(1000000000, 25, (.sl 2 (.int .i64)), false)], []⟩
def qm2_ (k : Nat) : OC := ⟨qm0_, qm1_, fun x => zc4_ k x.1.2.1 x.2.1.1⟩
theorem qm3_ (k : Nat) : z14_ Tryz.prog ti 84 (qm2_ k) := by
  refine z2l_ (tab := []) (l := [(8, 87, qlx_ k)]) z4_ z6_ mix (List.forall_mem_nil _) (List.forall_mem_cons.2 ⟨qlz_ k, (List.forall_mem_nil _)⟩) ⟨by kernel_rfl, by kernel_rfl, Tryz.f84, (z2_ Tryz.f84), [.tmp 4], (LOn (((Int × Unit) × ((List (List Int)) × Unit) × Unit))), by kernel_rfl, by kernel_rfl, by kernel_rfl, by kernel_rfl, Nat.le_of_ble_eq_true (by kernel_rfl), fun pins pinB => ⟨⟨by kernel_rfl, ?_, ?_⟩, ?_⟩⟩
  · exact zf_ (by kernel_rfl)
  · exact z5_ (by kernel_rfl)
  · rintro ⟨⟨⟨⟩, k1, ⟨⟩⟩, ⟨q_1, ⟨⟩⟩, ⟨⟩⟩
    kernel_rfl
def z9a_ (k : Nat) : Nat → Int → Int → (List Int) → (Int → (List Int) → Option (((Int × Unit) × ((List Int) × Unit) × Unit))) → Option (((Int × Unit) × ((List Int) × Unit) × Unit))
  | 0, _, _, _, _ => none
  | n + 1, k1, i5, q_2, e_0 => (if (decide (i5 < (List.length q_2 : Int))) = true then (if 0 ≤ i5 ∧ i5.toNat < List.length q_2 then (q_2[i5.toNat]?).bind fun y_3 => (q_2[i5.toNat]?).bind fun y_4 => z9a_ k n (z0_ (k1 + 1)) (z0_ (i5 + 1)) (q_2.set i5.toNat k1) e_0 else none) else e_0 k1 q_2)
def z67_ (k : Nat) (k1 : Int) (q_1 : List Int) : Option (((Int × Unit) × ((List Int) × Unit) × Unit)) := z9a_ k k k1 0 q_1 (fun k_5 q_6 => some ((k_5, ()), (q_6, ()), ()))
def qm4_ : Head := ⟨[(0, (.ref 1000000000 [])), (1, (.val (.int .i64))), (5, (.val (.int .i64)))], [(1000000000, 2, (.int .i64), false)], []⟩
def qm5_ : Head := ⟨[(1, (.val (.int .i64)))], [(1000000000, 2, (.int .i64), false)], []⟩
def qm6_ (k n : Nat) (x : qm4_.T) (kx : Nat → St → Option (((Int × Unit) × ((List Int) × Unit) × Unit))) : Option (((Int × Unit) × ((List Int) × Unit) × Unit)) := z9a_ k n x.1.2.1 x.1.2.2.1 x.2.1.1 (fun (k1 : Int) (q_5 : List Int) => kx 0 (qm5_.fill ((k1, ()), (q_5, ()), ())))
def qm7_ (k : Nat) : Oracles (((Int × Unit) × ((List Int) × Unit) × Unit)) := ⟨fun n => bif Nat.beq n 2 then some (fun σ kx => qm4_.get σ fun x => qm6_ k k x kx) else none, fun _ => none⟩
def qm8_ : Head := ⟨[(0, (.ref 1000000000 [])), (1, (.val (.int .i64)))], [(1000000000, 2, (.int .i64), false)], []⟩
def qm9_ : Head := ⟨[(0, (.val (.int .i64)))], [(1000000000, 2, (.int .i64), false)], []⟩
def qma_ (k : Nat) : OC := ⟨qm8_, qm9_, fun x => z67_ k x.1.2.1 x.2.1.1⟩
theorem qmb_ (k : Nat) (pins : Nat → Value) (pinB : Nat → Nat) : zd_ (z3_ ti [] (lk []) pins pinB) (qm7_ k) (rdO (z3_ ti [] (lk []) pins pinB) [.tmp 4] qm9_) ((zc_ (z2_ Tryz.f43)).getD 0 .skip) (fun σ kx => qm4_.get σ fun x => qm6_ k k x kx) := by
  refine ⟨qm4_, [(0, qm5_)], fun n x kx => qm6_ k n x kx, k, by kernel_rfl, by kernel_rfl, fun x kx => by kernel_rfl, ?_, fun σ kx => rfl⟩
  rintro n ⟨⟨⟨⟩, k1, i5, ⟨⟩⟩, ⟨q_2, ⟨⟩⟩, ⟨⟩⟩ kx
  kernel_rfl
theorem qmc_ (k : Nat) : z14_ Tryz.prog ti 43 (qma_ k) := by
  refine z2l_ (tab := []) (l := []) z4_ z6_ mix (List.forall_mem_nil _) (List.forall_mem_nil _) ⟨by kernel_rfl, by kernel_rfl, Tryz.f43, (z2_ Tryz.f43), [.tmp 4], (qm7_ k), by kernel_rfl, by kernel_rfl, by kernel_rfl, by kernel_rfl, Nat.le_of_ble_eq_true (by kernel_rfl), fun pins pinB => ⟨⟨by kernel_rfl, ?_, ?_⟩, ?_⟩⟩
  · refine zi_ (n := 1) (by kernel_rfl) fun i hi => ?_
    match i, hi with
    | 0, _ => exact ze_ (by kernel_rfl) (qmb_ k pins pinB)
    | n + 1, hi => omega
  · exact z5_ (by kernel_rfl)
  · rintro ⟨⟨⟨⟩, k1, ⟨⟩⟩, ⟨q_1, ⟨⟩⟩, ⟨⟩⟩
    kernel_rfl
def z9b_ (k : Nat) : Nat → Nat → Int → Int → (List (Int × Int × Int × List Int)) → (Int → (List (Int × Int × Int × List Int)) → Option (((Int × Unit) × ((List (Int × Int × Int × List Int)) × Unit) × Unit))) → Option (((Int × Unit) × ((List (Int × Int × Int × List Int)) × Unit) × Unit))
  | 0, _, _, _, _, _ => none
  | n + 1, a0n0, k1, i5, q_2, e_0 => (q_2[a0n0]?).bind fun y_3 => (if (decide (i5 < (List.length y_3.2.2.2 : Int))) = true then (q_2[a0n0]?).bind fun y_4 => (if 0 ≤ i5 ∧ i5.toNat < List.length y_4.2.2.2 then (q_2[a0n0]?).bind fun y_5 => (y_5.2.2.2[i5.toNat]?).bind fun y_6 => (q_2[a0n0]?).bind fun y_7 => (y_7.2.2.2[i5.toNat]?).bind fun y_8 => z9b_ k n a0n0 (z0_ (k1 + 1)) (z0_ (i5 + 1)) (q_2.set a0n0 (y_7.1, (y_7.2.1, (y_7.2.2.1, (y_7.2.2.2.set i5.toNat k1))))) e_0 else none) else e_0 k1 q_2)
def zf2_ (k : Nat) (a0n0 : Nat) (k1 : Int) (q_1 : List (Int × Int × Int × List Int)) : Option (((Int × Unit) × ((List (Int × Int × Int × List Int)) × Unit) × Unit)) := z9b_ k k a0n0 k1 0 q_1 (fun k_9 q_10 => some ((k_9, ()), (q_10, ()), ()))
def qmd_ : Head := ⟨[(0, (.ref 1000000000 [.ix, .f true, .f true, .f true])), (1, (.val (.int .i64))), (5, (.val (.int .i64)))], [(1000000000, 51, (.st (.pr (.int .i64) (.pr (.int .i64) (.pr (.int .i64) (.sl 2 (.int .i64)))))), false)], []⟩
def qme_ : Head := ⟨[(1, (.val (.int .i64)))], [(1000000000, 51, (.st (.pr (.int .i64) (.pr (.int .i64) (.pr (.int .i64) (.sl 2 (.int .i64)))))), false)], []⟩
def qmf_ (k n : Nat) (x : qmd_.T) (kx : Nat → St → Option (((Int × Unit) × ((List (Int × Int × Int × List Int)) × Unit) × Unit))) : Option (((Int × Unit) × ((List (Int × Int × Int × List Int)) × Unit) × Unit)) := z9b_ k n x.1.1.1 x.1.2.1 x.1.2.2.1 x.2.1.1 (fun (k1 : Int) (q_9 : List (Int × Int × Int × List Int)) => kx 0 (qme_.fill ((k1, ()), (q_9, ()), ())))
def qmg_ (k : Nat) : Oracles (((Int × Unit) × ((List (Int × Int × Int × List Int)) × Unit) × Unit)) := ⟨fun n => bif Nat.beq n 2 then some (fun σ kx => qmd_.get σ fun x => qmf_ k k x kx) else none, fun _ => none⟩
def qmh_ : Head := ⟨[(0, (.ref 1000000000 [.ix, .f true, .f true, .f true])), (1, (.val (.int .i64)))], [(1000000000, 51, (.st (.pr (.int .i64) (.pr (.int .i64) (.pr (.int .i64) (.sl 2 (.int .i64)))))), false)], []⟩
def qmi_ : Head := ⟨[(0, (.val (.int .i64)))], [(1000000000, 51, (.st (.pr (.int .i64) (.pr (.int .i64) (.pr (.int .i64) (.sl 2 (.int .i64)))))), false)], []⟩
def qmj_ (k : Nat) : OC := ⟨qmh_, qmi_, fun x => zf2_ k x.1.1.1 x.1.2.1 x.2.1.1⟩
theorem qmk_ (k : Nat) (pins : Nat → Value) (pinB : Nat → Nat) : zd_ (z3_ ti [] (lk []) pins pinB) (qmg_ k) (rdO (z3_ ti [] (lk []) pins pinB) [.tmp 4] qmi_) ((zc_ (z2_ Tryz.f43)).getD 0 .skip) (fun σ kx => qmd_.get σ fun x => qmf_ k k x kx) := by
  refine ⟨qmd_, [(0, qme_)], fun n x kx => qmf_ k n x kx, k, by kernel_rfl, by kernel_rfl, fun x kx => by kernel_rfl, ?_, fun σ kx => rfl⟩
  rintro n ⟨⟨⟨a0n0, ⟨⟩⟩, k1, i5, ⟨⟩⟩, ⟨q_2, ⟨⟩⟩, ⟨⟩⟩ kx
  kernel_rfl
theorem qml_ (k : Nat) : z14_ Tryz.prog ti 43 (qmj_ k) := by
  refine z2l_ (tab := []) (l := []) z4_ z6_ mix (List.forall_mem_nil _) (List.forall_mem_nil _) ⟨by kernel_rfl, by kernel_rfl, Tryz.f43, (z2_ Tryz.f43), [.tmp 4], (qmg_ k), by kernel_rfl, by kernel_rfl, by kernel_rfl, by kernel_rfl, Nat.le_of_ble_eq_true (by kernel_rfl), fun pins pinB => ⟨⟨by kernel_rfl, ?_, ?_⟩, ?_⟩⟩
  · refine zi_ (n := 1) (by kernel_rfl) fun i hi => ?_
    match i, hi with
    | 0, _ => exact ze_ (by kernel_rfl) (qmk_ k pins pinB)
    | n + 1, hi => omega
  · exact z5_ (by kernel_rfl)
  · rintro ⟨⟨⟨a0n0, ⟨⟩⟩, k1, ⟨⟩⟩, ⟨q_1, ⟨⟩⟩, ⟨⟩⟩
    kernel_rfl
def z9c_ (k : Nat) : Nat → Int → Int → (List (Int × Int × Int × List Int)) → (Int → (List (Int × Int × Int × List Int)) → Option (((Int × Unit) × ((List (Int × Int × Int × List Int)) × Unit) × Unit))) → Option (((Int × Unit) × ((List (Int × Int × Int × List Int)) × Unit) × Unit))
  | 0, _, _, _, _ => none
  | n + 1, k1, i5, q_2, e_0 => (if (decide (i5 < (List.length q_2 : Int))) = true then (if 0 ≤ i5 ∧ i5.toNat < List.length q_2 then (q_2[i5.toNat]?).bind fun y_3 => (q_2[i5.toNat]?).bind fun y_4 => (if 0 ≤ i5 ∧ i5.toNat < List.length (q_2.set i5.toNat (k1, y_3.2)) then ((q_2.set i5.toNat (k1, y_3.2))[i5.toNat]?).bind fun y_5 => ((q_2.set i5.toNat (k1, y_3.2))[i5.toNat]?).bind fun y_6 => (if 0 ≤ i5 ∧ i5.toNat < List.length ((q_2.set i5.toNat (k1, y_3.2)).set i5.toNat (y_5.1, ((z0_ (k1 + 1)), y_5.2.2))) then (((q_2.set i5.toNat (k1, y_3.2)).set i5.toNat (y_5.1, ((z0_ (k1 + 1)), y_5.2.2)))[i5.toNat]?).bind fun y_7 => (((q_2.set i5.toNat (k1, y_3.2)).set i5.toNat (y_5.1, ((z0_ (k1 + 1)), y_5.2.2)))[i5.toNat]?).bind fun y_8 => (if 0 ≤ i5 ∧ i5.toNat < List.length (((q_2.set i5.toNat (k1, y_3.2)).set i5.toNat (y_5.1, ((z0_ (k1 + 1)), y_5.2.2))).set i5.toNat (y_7.1, (y_7.2.1, ((z0_ ((z0_ (k1 + 1)) + 1)), y_7.2.2.2)))) then ((((q_2.set i5.toNat (k1, y_3.2)).set i5.toNat (y_5.1, ((z0_ (k1 + 1)), y_5.2.2))).set i5.toNat (y_7.1, (y_7.2.1, ((z0_ ((z0_ (k1 + 1)) + 1)), y_7.2.2.2))))[i5.toNat]?).bind fun y_9 => (zf2_ k i5.toNat (z0_ ((z0_ ((z0_ (k1 + 1)) + 1)) + 1)) (((q_2.set i5.toNat (k1, y_3.2)).set i5.toNat (y_5.1, ((z0_ (k1 + 1)), y_5.2.2))).set i5.toNat (y_7.1, (y_7.2.1, ((z0_ ((z0_ (k1 + 1)) + 1)), y_7.2.2.2))))).bind fun y_10 => z9c_ k n y_10.1.1 (z0_ (i5 + 1)) y_10.2.1.1 e_0 else none) else none) else none) else none) else e_0 k1 q_2)
def zf3_ (k : Nat) (k1 : Int) (q_1 : List (Int × Int × Int × List Int)) : Option (((Int × Unit) × ((List (Int × Int × Int × List Int)) × Unit) × Unit)) := z9c_ k k k1 0 q_1 (fun k_11 q_12 => some ((k_11, ()), (q_12, ()), ()))
def qmm_ : Head := ⟨[(0, (.ref 1000000000 [])), (1, (.val (.int .i64))), (5, (.val (.int .i64)))], [(1000000000, 51, (.st (.pr (.int .i64) (.pr (.int .i64) (.pr (.int .i64) (.sl 2 (.int .i64)))))), false)], []⟩
def qmn_ : Head := ⟨[(1, (.val (.int .i64)))], [(1000000000, 51, (.st (.pr (.int .i64) (.pr (.int .i64) (.pr (.int .i64) (.sl 2 (.int .i64)))))), false)], []⟩
def qmo_ (k n : Nat) (x : qmm_.T) (kx : Nat → St → Option (((Int × Unit) × ((List (Int × Int × Int × List Int)) × Unit) × Unit))) : Option (((Int × Unit) × ((List (Int × Int × Int × List Int)) × Unit) × Unit)) := z9c_ k n x.1.2.1 x.1.2.2.1 x.2.1.1 (fun (k1 : Int) (q_12 : List (Int × Int × Int × List Int)) => kx 0 (qmn_.fill ((k1, ()), (q_12, ()), ())))
def qmp_ (k : Nat) : Oracles (((Int × Unit) × ((List (Int × Int × Int × List Int)) × Unit) × Unit)) := ⟨fun n => bif Nat.beq n 2 then some (fun σ kx => qmm_.get σ fun x => qmo_ k k x kx) else none, fun _ => none⟩
def qmq_ : Head := ⟨[(0, (.ref 1000000000 [])), (1, (.val (.int .i64)))], [(1000000000, 51, (.st (.pr (.int .i64) (.pr (.int .i64) (.pr (.int .i64) (.sl 2 (.int .i64)))))), false)], []⟩
def qmr_ : Head := ⟨[(0, (.val (.int .i64)))], [(1000000000, 51, (.st (.pr (.int .i64) (.pr (.int .i64) (.pr (.int .i64) (.sl 2 (.int .i64)))))), false)], []⟩
def qms_ (k : Nat) : OC := ⟨qmq_, qmr_, fun x => zf3_ k x.1.2.1 x.2.1.1⟩
theorem qmt_ (k : Nat) (pins : Nat → Value) (pinB : Nat → Nat) : zd_ (z3_ ti [] (lk [(39, 43, qmj_ k)]) pins pinB) (qmp_ k) (rdO (z3_ ti [] (lk [(39, 43, qmj_ k)]) pins pinB) [.tmp 4] qmr_) ((zc_ (z2_ Tryz.f85)).getD 0 .skip) (fun σ kx => qmm_.get σ fun x => qmo_ k k x kx) := by
  refine ⟨qmm_, [(0, qmn_)], fun n x kx => qmo_ k n x kx, k, by kernel_rfl, by kernel_rfl, fun x kx => by kernel_rfl, ?_, fun σ kx => rfl⟩
  rintro n ⟨⟨⟨⟩, k1, i5, ⟨⟩⟩, ⟨q_2, ⟨⟩⟩, ⟨⟩⟩ kx
  kernel_rfl
theorem qmu_ (k : Nat) : z14_ Tryz.prog ti 85 (qms_ k) := by
  refine z2l_ (tab := []) (l := [(39, 43, qmj_ k)]) z4_ z6_ mix (List.forall_mem_nil _) (List.forall_mem_cons.2 ⟨qml_ k, (List.forall_mem_nil _)⟩) ⟨by kernel_rfl, by kernel_rfl, Tryz.f85, (z2_ Tryz.f85), [.tmp 4], (qmp_ k), by kernel_rfl, by kernel_rfl, by kernel_rfl, by kernel_rfl, Nat.le_of_ble_eq_true (by kernel_rfl), fun pins pinB => ⟨⟨by kernel_rfl, ?_, ?_⟩, ?_⟩⟩
  · refine zi_ (n := 1) (by kernel_rfl) fun i hi => ?_
    match i, hi with
    | 0, _ => exact ze_ (by kernel_rfl) (qmt_ k pins pinB)
    | n + 1, hi => omega
  · exact z5_ (by kernel_rfl)
  · rintro ⟨⟨⟨⟩, k1, ⟨⟩⟩, ⟨q_1, ⟨⟩⟩, ⟨⟩⟩
    kernel_rfl
def zj3_ (k : Nat) (a0ba : Int) (k1 : Int) (q_1 : List (List Int)) (q_2 : List Int) (q_3 : List (Int × Int × Int × List Int)) : Option (((Int × Unit) × ((List (Int × Int × Int × List Int)) × (List Int) × (List (List Int)) × Unit) × Unit)) := (zc4_ k k1 q_1).bind fun y_4 => (z67_ k y_4.1.1 q_2).bind fun y_5 => (zf3_ k y_5.1.1 q_3).bind fun y_6 => some ((y_6.1.1, ()), (y_6.2.1.1, y_5.2.1.1, y_4.2.1.1, ()), ())
def qmv_ : Head := ⟨[(0, (.st (.pr (.st (.ref 1000000000 [])) (.pr (.val (.int .i64)) (.pr (.ref 1000000001 []) (.ref 1000000002 [])))))), (1, (.val (.int .i64)))], [(1000000000, 25, (.sl 2 (.int .i64)), false), (1000000001, 2, (.int .i64), false), (1000000002, 51, (.st (.pr (.int .i64) (.pr (.int .i64) (.pr (.int .i64) (.sl 2 (.int .i64)))))), false)], []⟩
def qmw_ : Head := ⟨[(0, (.val (.int .i64)))], [(1000000002, 51, (.st (.pr (.int .i64) (.pr (.int .i64) (.pr (.int .i64) (.sl 2 (.int .i64)))))), false), (1000000001, 2, (.int .i64), false), (1000000000, 25, (.sl 2 (.int .i64)), false)], []⟩
def qmx_ (k : Nat) : OC := ⟨qmv_, qmw_, fun x => zj3_ k x.1.1.2.1 x.1.2.1 x.2.1.1 x.2.1.2.1 x.2.1.2.2.1⟩
theorem qmy_ (k : Nat) : z14_ Tryz.prog ti 42 (qmx_ k) := by
  refine z2l_ (tab := []) (l := [(8, 84, qm2_ k), (12, 43, qma_ k), (16, 85, qms_ k)]) z4_ z6_ mix (List.forall_mem_nil _) (List.forall_mem_cons.2 ⟨qm3_ k, (List.forall_mem_cons.2 ⟨qmc_ k, (List.forall_mem_cons.2 ⟨qmu_ k, (List.forall_mem_nil _)⟩)⟩)⟩) ⟨by kernel_rfl, by kernel_rfl, Tryz.f42, (z2_ Tryz.f42), [.tmp 4], (LOn (((Int × Unit) × ((List (Int × Int × Int × List Int)) × (List Int) × (List (List Int)) × Unit) × Unit))), by kernel_rfl, by kernel_rfl, by kernel_rfl, by kernel_rfl, Nat.le_of_ble_eq_true (by kernel_rfl), fun pins pinB => ⟨⟨by kernel_rfl, ?_, ?_⟩, ?_⟩⟩
  · exact zf_ (by kernel_rfl)
  · exact z5_ (by kernel_rfl)
  · rintro ⟨⟨⟨⟨⟩, ⟨a0ba, ⟨⟨⟩, ⟨⟩⟩⟩⟩, k1, ⟨⟩⟩, ⟨q_1, q_2, q_3, ⟨⟩⟩, ⟨⟩⟩
    kernel_rfl
def z9d_ (k : Nat) : Nat → Int → Int → (List (Int × Int × Int)) → (Int → (List (Int × Int × Int)) → Option (((Int × Unit) × ((List (Int × Int × Int)) × Unit) × Unit))) → Option (((Int × Unit) × ((List (Int × Int × Int)) × Unit) × Unit))
  | 0, _, _, _, _ => none
  | n + 1, k1, i5, q_2, e_0 => (if (decide (i5 < (List.length q_2 : Int))) = true then (if 0 ≤ i5 ∧ i5.toNat < List.length q_2 then (q_2[i5.toNat]?).bind fun y_3 => (q_2[i5.toNat]?).bind fun y_4 => (if 0 ≤ i5 ∧ i5.toNat < List.length (q_2.set i5.toNat (k1, y_3.2)) then ((q_2.set i5.toNat (k1, y_3.2))[i5.toNat]?).bind fun y_5 => ((q_2.set i5.toNat (k1, y_3.2))[i5.toNat]?).bind fun y_6 => (if 0 ≤ i5 ∧ i5.toNat < List.length ((q_2.set i5.toNat (k1, y_3.2)).set i5.toNat (y_5.1, ((z0_ (k1 + 1)), y_5.2.2))) then (((q_2.set i5.toNat (k1, y_3.2)).set i5.toNat (y_5.1, ((z0_ (k1 + 1)), y_5.2.2)))[i5.toNat]?).bind fun y_7 => (((q_2.set i5.toNat (k1, y_3.2)).set i5.toNat (y_5.1, ((z0_ (k1 + 1)), y_5.2.2)))[i5.toNat]?).bind fun y_8 => z9d_ k n (z0_ ((z0_ ((z0_ (k1 + 1)) + 1)) + 1)) (z0_ (i5 + 1)) (((q_2.set i5.toNat (k1, y_3.2)).set i5.toNat (y_5.1, ((z0_ (k1 + 1)), y_5.2.2))).set i5.toNat (y_7.1, (y_7.2.1, (z0_ ((z0_ (k1 + 1)) + 1))))) e_0 else none) else none) else none) else e_0 k1 q_2)
def zf4_ (k : Nat) (k1 : Int) (q_1 : List (Int × Int × Int)) : Option (((Int × Unit) × ((List (Int × Int × Int)) × Unit) × Unit)) := z9d_ k k k1 0 q_1 (fun k_9 q_10 => some ((k_9, ()), (q_10, ()), ()))
def qmz_ : Head := ⟨[(0, (.ref 1000000000 [])), (1, (.val (.int .i64))), (5, (.val (.int .i64)))], [(1000000000, 157, (.st (.pr (.int .i64) (.pr (.int .i64) (.int .i64)))), false)], []⟩
def qn0_ : Head := ⟨[(1, (.val (.int .i64)))], [(1000000000, 157, (.st (.pr (.int .i64) (.pr (.int .i64) (.int .i64)))), false)], []⟩
def qn1_ (k n : Nat) (x : qmz_.T) (kx : Nat → St → Option (((Int × Unit) × ((List (Int × Int × Int)) × Unit) × Unit))) : Option (((Int × Unit) × ((List (Int × Int × Int)) × Unit) × Unit)) := z9d_ k n x.1.2.1 x.1.2.2.1 x.2.1.1 (fun (k1 : Int) (q_9 : List (Int × Int × Int)) => kx 0 (qn0_.fill ((k1, ()), (q_9, ()), ())))
def qn2_ (k : Nat) : Oracles (((Int × Unit) × ((List (Int × Int × Int)) × Unit) × Unit)) := ⟨fun n => bif Nat.beq n 2 then some (fun σ kx => qmz_.get σ fun x => qn1_ k k x kx) else none, fun _ => none⟩
def qn3_ : Head := ⟨[(0, (.ref 1000000000 [])), (1, (.val (.int .i64)))], [(1000000000, 157, (.st (.pr (.int .i64) (.pr (.int .i64) (.int .i64)))), false)], []⟩
def qn4_ : Head := ⟨[(0, (.val (.int .i64)))], [(1000000000, 157, (.st (.pr (.int .i64) (.pr (.int .i64) (.int .i64)))), false)], []⟩
def qn5_ (k : Nat) : OC := ⟨qn3_, qn4_, fun x => zf4_ k x.1.2.1 x.2.1.1⟩
theorem qn6_ (k : Nat) (pins : Nat → Value) (pinB : Nat → Nat) : zd_ (z3_ ti [] (lk []) pins pinB) (qn2_ k) (rdO (z3_ ti [] (lk []) pins pinB) [.tmp 4] qn4_) ((zc_ (z2_ Tryz.f86)).getD 0 .skip) (fun σ kx => qmz_.get σ fun x => qn1_ k k x kx) := by
  refine ⟨qmz_, [(0, qn0_)], fun n x kx => qn1_ k n x kx, k, by kernel_rfl, by kernel_rfl, fun x kx => by kernel_rfl, ?_, fun σ kx => rfl⟩
  rintro n ⟨⟨⟨⟩, k1, i5, ⟨⟩⟩, ⟨q_2, ⟨⟩⟩, ⟨⟩⟩ kx
  kernel_rfl
theorem qn7_ (k : Nat) : z14_ Tryz.prog ti 86 (qn5_ k) := by
  refine z2l_ (tab := []) (l := []) z4_ z6_ mix (List.forall_mem_nil _) (List.forall_mem_nil _) ⟨by kernel_rfl, by kernel_rfl, Tryz.f86, (z2_ Tryz.f86), [.tmp 4], (qn2_ k), by kernel_rfl, by kernel_rfl, by kernel_rfl, by kernel_rfl, Nat.le_of_ble_eq_true (by kernel_rfl), fun pins pinB => ⟨⟨by kernel_rfl, ?_, ?_⟩, ?_⟩⟩
  · refine zi_ (n := 1) (by kernel_rfl) fun i hi => ?_
    match i, hi with
    | 0, _ => exact ze_ (by kernel_rfl) (qn6_ k pins pinB)
    | n + 1, hi => omega
  · exact z5_ (by kernel_rfl)
  · rintro ⟨⟨⟨⟩, k1, ⟨⟩⟩, ⟨q_1, ⟨⟩⟩, ⟨⟩⟩
    kernel_rfl
def zj4_ (k : Nat) (a0a : Int) (k1 : Int) (q_1 : List (Int × Int × Int)) : Option (((Int × Unit) × ((List (Int × Int × Int)) × Unit) × Unit)) := (zf4_ k k1 q_1).bind fun y_2 => some ((y_2.1.1, ()), (y_2.2.1.1, ()), ())
def qn8_ : Head := ⟨[(0, (.st (.pr (.val (.int .i64)) (.ref 1000000000 [])))), (1, (.val (.int .i64)))], [(1000000000, 157, (.st (.pr (.int .i64) (.pr (.int .i64) (.int .i64)))), false)], []⟩
def qn9_ : Head := ⟨[(0, (.val (.int .i64)))], [(1000000000, 157, (.st (.pr (.int .i64) (.pr (.int .i64) (.int .i64)))), false)], []⟩
def qna_ (k : Nat) : OC := ⟨qn8_, qn9_, fun x => zj4_ k x.1.1.1 x.1.2.1 x.2.1.1⟩
theorem qnb_ (k : Nat) : z14_ Tryz.prog ti 44 (qna_ k) := by
  refine z2l_ (tab := []) (l := [(8, 86, qn5_ k)]) z4_ z6_ mix (List.forall_mem_nil _) (List.forall_mem_cons.2 ⟨qn7_ k, (List.forall_mem_nil _)⟩) ⟨by kernel_rfl, by kernel_rfl, Tryz.f44, (z2_ Tryz.f44), [.tmp 4], (LOn (((Int × Unit) × ((List (Int × Int × Int)) × Unit) × Unit))), by kernel_rfl, by kernel_rfl, by kernel_rfl, by kernel_rfl, Nat.le_of_ble_eq_true (by kernel_rfl), fun pins pinB => ⟨⟨by kernel_rfl, ?_, ?_⟩, ?_⟩⟩
  · exact zf_ (by kernel_rfl)
  · exact z5_ (by kernel_rfl)
  · rintro ⟨⟨⟨a0a, ⟨⟩⟩, k1, ⟨⟩⟩, ⟨q_1, ⟨⟩⟩, ⟨⟩⟩
    kernel_rfl
def zj5_ (k : Nat) (a0a : Int) (a0ba : Int) (a0bba : Int) (k1 : Int) (q_1 : List Int) : Option (((Int × Unit) × ((List Int) × Unit) × Unit)) := (z67_ k k1 q_1).bind fun y_2 => some ((y_2.1.1, ()), (y_2.2.1.1, ()), ())
def qnc_ : Head := ⟨[(0, (.st (.pr (.val (.int .i64)) (.pr (.val (.int .i64)) (.pr (.val (.int .i64)) (.ref 1000000000 [])))))), (1, (.val (.int .i64)))], [(1000000000, 2, (.int .i64), false)], []⟩
def qnd_ : Head := ⟨[(0, (.val (.int .i64)))], [(1000000000, 2, (.int .i64), false)], []⟩
def qne_ (k : Nat) : OC := ⟨qnc_, qnd_, fun x => zj5_ k x.1.1.1 x.1.1.2.1 x.1.1.2.2.1 x.1.2.1 x.2.1.1⟩
theorem qnf_ (k : Nat) : z14_ Tryz.prog ti 45 (qne_ k) := by
  refine z2l_ (tab := []) (l := [(8, 43, qma_ k)]) z4_ z6_ mix (List.forall_mem_nil _) (List.forall_mem_cons.2 ⟨qmc_ k, (List.forall_mem_nil _)⟩) ⟨by kernel_rfl, by kernel_rfl, Tryz.f45, (z2_ Tryz.f45), [.tmp 4], (LOn (((Int × Unit) × ((List Int) × Unit) × Unit))), by kernel_rfl, by kernel_rfl, by kernel_rfl, by kernel_rfl, Nat.le_of_ble_eq_true (by kernel_rfl), fun pins pinB => ⟨⟨by kernel_rfl, ?_, ?_⟩, ?_⟩⟩
  · exact zf_ (by kernel_rfl)
  · exact z5_ (by kernel_rfl)
  · rintro ⟨⟨⟨a0a, ⟨a0ba, ⟨a0bba, ⟨⟩⟩⟩⟩, k1, ⟨⟩⟩, ⟨q_1, ⟨⟩⟩, ⟨⟩⟩
    kernel_rfl
def z9e_ (k : Nat) : Nat → Nat → Int → Int → (List (List Int × List (List Int))) → (Int → (List (List Int × List (List Int))) → Option (((Int × Unit) × ((List (List Int × List (List Int))) × Unit) × Unit))) → Option (((Int × Unit) × ((List (List Int × List (List Int))) × Unit) × Unit))
  | 0, _, _, _, _, _ => none
  | n + 1, a0n0, k1, i5, q_2, e_0 => (q_2[a0n0]?).bind fun y_3 => (if (decide (i5 < (List.length y_3.1 : Int))) = true then (q_2[a0n0]?).bind fun y_4 => (if 0 ≤ i5 ∧ i5.toNat < List.length y_4.1 then (q_2[a0n0]?).bind fun y_5 => (y_5.1[i5.toNat]?).bind fun y_6 => (q_2[a0n0]?).bind fun y_7 => (y_7.1[i5.toNat]?).bind fun y_8 => z9e_ k n a0n0 (z0_ (k1 + 1)) (z0_ (i5 + 1)) (q_2.set a0n0 ((y_7.1.set i5.toNat k1), y_7.2)) e_0 else none) else e_0 k1 q_2)
def zf5_ (k : Nat) (a0n0 : Nat) (k1 : Int) (q_1 : List (List Int × List (List Int))) : Option (((Int × Unit) × ((List (List Int × List (List Int))) × Unit) × Unit)) := z9e_ k k a0n0 k1 0 q_1 (fun k_9 q_10 => some ((k_9, ()), (q_10, ()), ()))
def qng_ : Head := ⟨[(0, (.ref 1000000000 [.ix, .f false])), (1, (.val (.int .i64))), (5, (.val (.int .i64)))], [(1000000000, 87, (.st (.pr (.sl 2 (.int .i64)) (.sl 25 (.sl 2 (.int .i64))))), false)], []⟩
def qnh_ : Head := ⟨[(1, (.val (.int .i64)))], [(1000000000, 87, (.st (.pr (.sl 2 (.int .i64)) (.sl 25 (.sl 2 (.int .i64))))), false)], []⟩
def qni_ (k n : Nat) (x : qng_.T) (kx : Nat → St → Option (((Int × Unit) × ((List (List Int × List (List Int))) × Unit) × Unit))) : Option (((Int × Unit) × ((List (List Int × List (List Int))) × Unit) × Unit)) := z9e_ k n x.1.1.1 x.1.2.1 x.1.2.2.1 x.2.1.1 (fun (k1 : Int) (q_9 : List (List Int × List (List Int))) => kx 0 (qnh_.fill ((k1, ()), (q_9, ()), ())))
def qnj_ (k : Nat) : Oracles (((Int × Unit) × ((List (List Int × List (List Int))) × Unit) × Unit)) := ⟨fun n => bif Nat.beq n 2 then some (fun σ kx => qng_.get σ fun x => qni_ k k x kx) else none, fun _ => none⟩
def qnk_ : Head := ⟨[(0, (.ref 1000000000 [.ix, .f false])), (1, (.val (.int .i64)))], [(1000000000, 87, (.st (.pr (.sl 2 (.int .i64)) (.sl 25 (.sl 2 (.int .i64))))), false)], []⟩
def qnl_ : Head := ⟨[(0, (.val (.int .i64)))], [(1000000000, 87, (.st (.pr (.sl 2 (.int .i64)) (.sl 25 (.sl 2 (.int .i64))))), false)], []⟩
def qnm_ (k : Nat) : OC := ⟨qnk_, qnl_, fun x => zf5_ k x.1.1.1 x.1.2.1 x.2.1.1⟩
theorem qnn_ (k : Nat) (pins : Nat → Value) (pinB : Nat → Nat) : zd_ (z3_ ti [] (lk []) pins pinB) (qnj_ k) (rdO (z3_ ti [] (lk []) pins pinB) [.tmp 4] qnl_) ((zc_ (z2_ Tryz.f43)).getD 0 .skip) (fun σ kx => qng_.get σ fun x => qni_ k k x kx) := by
  refine ⟨qng_, [(0, qnh_)], fun n x kx => qni_ k n x kx, k, by kernel_rfl, by kernel_rfl, fun x kx => by kernel_rfl, ?_, fun σ kx => rfl⟩
  rintro n ⟨⟨⟨a0n0, ⟨⟩⟩, k1, i5, ⟨⟩⟩, ⟨q_2, ⟨⟩⟩, ⟨⟩⟩ kx
  kernel_rfl
theorem qno_ (k : Nat) : z14_ Tryz.prog ti 43 (qnm_ k) := by
  refine z2l_ (tab := []) (l := []) z4_ z6_ mix (List.forall_mem_nil _) (List.forall_mem_nil _) ⟨by kernel_rfl, by kernel_rfl, Tryz.f43, (z2_ Tryz.f43), [.tmp 4], (qnj_ k), by kernel_rfl, by kernel_rfl, by kernel_rfl, by kernel_rfl, Nat.le_of_ble_eq_true (by kernel_rfl), fun pins pinB => ⟨⟨by kernel_rfl, ?_, ?_⟩, ?_⟩⟩
  · refine zi_ (n := 1) (by kernel_rfl) fun i hi => ?_
    match i, hi with
    | 0, _ => exact ze_ (by kernel_rfl) (qnn_ k pins pinB)
    | n + 1, hi => omega
  · exact z5_ (by kernel_rfl)
  · rintro ⟨⟨⟨a0n0, ⟨⟩⟩, k1, ⟨⟩⟩, ⟨q_1, ⟨⟩⟩, ⟨⟩⟩
    kernel_rfl
def z9f_ (k : Nat) : Nat → Int → Int → (List (List Int × List (List Int))) → (Int → (List (List Int × List (List Int))) → Option (((Int × Unit) × ((List (List Int × List (List Int))) × Unit) × Unit))) → Option (((Int × Unit) × ((List (List Int × List (List Int))) × Unit) × Unit))
  | 0, _, _, _, _ => none
  | n + 1, k1, i5, q_2, e_0 => (if (decide (i5 < (List.length q_2 : Int))) = true then (if 0 ≤ i5 ∧ i5.toNat < List.length q_2 then (q_2[i5.toNat]?).bind fun y_3 => (zf5_ k i5.toNat k1 q_2).bind fun y_4 => (if 0 ≤ i5 ∧ i5.toNat < List.length y_4.2.1.1 then (y_4.2.1.1[i5.toNat]?).bind fun y_5 => (y_4.2.1.1[i5.toNat]?).bind fun y_6 => (zc3_ k y_4.1.1 y_6.2).bind fun y_7 => (y_4.2.1.1[i5.toNat]?).bind fun y_8 => z9f_ k n y_7.1.1 (z0_ (i5 + 1)) (y_4.2.1.1.set i5.toNat (y_8.1, y_7.2.1.1)) e_0 else none) else none) else e_0 k1 q_2)
def zf6_ (k : Nat) (k1 : Int) (q_1 : List (List Int × List (List Int))) : Option (((Int × Unit) × ((List (List Int × List (List Int))) × Unit) × Unit)) := z9f_ k k k1 0 q_1 (fun k_9 q_10 => some ((k_9, ()), (q_10, ()), ()))
def qnp_ : Head := ⟨[(0, (.ref 1000000000 [])), (1, (.val (.int .i64))), (5, (.val (.int .i64)))], [(1000000000, 87, (.st (.pr (.sl 2 (.int .i64)) (.sl 25 (.sl 2 (.int .i64))))), false)], []⟩
def qnq_ : Head := ⟨[(1, (.val (.int .i64)))], [(1000000000, 87, (.st (.pr (.sl 2 (.int .i64)) (.sl 25 (.sl 2 (.int .i64))))), false)], []⟩
def qnr_ (k n : Nat) (x : qnp_.T) (kx : Nat → St → Option (((Int × Unit) × ((List (List Int × List (List Int))) × Unit) × Unit))) : Option (((Int × Unit) × ((List (List Int × List (List Int))) × Unit) × Unit)) := z9f_ k n x.1.2.1 x.1.2.2.1 x.2.1.1 (fun (k1 : Int) (q_11 : List (List Int × List (List Int))) => kx 0 (qnq_.fill ((k1, ()), (q_11, ()), ())))
def qns_ (k : Nat) : Oracles (((Int × Unit) × ((List (List Int × List (List Int))) × Unit) × Unit)) := ⟨fun n => bif Nat.beq n 2 then some (fun σ kx => qnp_.get σ fun x => qnr_ k k x kx) else none, fun _ => none⟩
def qnt_ : Head := ⟨[(0, (.ref 1000000000 [])), (1, (.val (.int .i64)))], [(1000000000, 87, (.st (.pr (.sl 2 (.int .i64)) (.sl 25 (.sl 2 (.int .i64))))), false)], []⟩
def qnu_ : Head := ⟨[(0, (.val (.int .i64)))], [(1000000000, 87, (.st (.pr (.sl 2 (.int .i64)) (.sl 25 (.sl 2 (.int .i64))))), false)], []⟩
def qnv_ (k : Nat) : OC := ⟨qnt_, qnu_, fun x => zf6_ k x.1.2.1 x.2.1.1⟩
theorem qnw_ (k : Nat) (pins : Nat → Value) (pinB : Nat → Nat) : zd_ (z3_ ti [] (lk [(18, 43, qnm_ k), (25, 87, qlx_ k)]) pins pinB) (qns_ k) (rdO (z3_ ti [] (lk [(18, 43, qnm_ k), (25, 87, qlx_ k)]) pins pinB) [.tmp 4] qnu_) ((zc_ (z2_ Tryz.f46)).getD 0 .skip) (fun σ kx => qnp_.get σ fun x => qnr_ k k x kx) := by
  refine ⟨qnp_, [(0, qnq_)], fun n x kx => qnr_ k n x kx, k, by kernel_rfl, by kernel_rfl, fun x kx => by kernel_rfl, ?_, fun σ kx => rfl⟩
  rintro n ⟨⟨⟨⟩, k1, i5, ⟨⟩⟩, ⟨q_2, ⟨⟩⟩, ⟨⟩⟩ kx
  kernel_rfl
theorem qnx_ (k : Nat) : z14_ Tryz.prog ti 46 (qnv_ k) := by
  refine z2l_ (tab := []) (l := [(18, 43, qnm_ k), (25, 87, qlx_ k)]) z4_ z6_ mix (List.forall_mem_nil _) (List.forall_mem_cons.2 ⟨qno_ k, (List.forall_mem_cons.2 ⟨qlz_ k, (List.forall_mem_nil _)⟩)⟩) ⟨by kernel_rfl, by kernel_rfl, Tryz.f46, (z2_ Tryz.f46), [.tmp 4], (qns_ k), by kernel_rfl, by kernel_rfl, by kernel_rfl, by kernel_rfl, Nat.le_of_ble_eq_true (by kernel_rfl), fun pins pinB => ⟨⟨by kernel_rfl, ?_, ?_⟩, ?_⟩⟩
  · refine zi_ (n := 1) (by kernel_rfl) fun i hi => ?_
    match i, hi with
    | 0, _ => exact ze_ (by kernel_rfl) (qnw_ k pins pinB)
    | n + 1, hi => omega
  · exact z5_ (by kernel_rfl)
  · rintro ⟨⟨⟨⟩, k1, ⟨⟩⟩, ⟨q_1, ⟨⟩⟩, ⟨⟩⟩
    kernel_rfl
def zj6_ (k : Nat) (k1 : Int) (q_1 : List (List Int)) (q_2 : List Int) : Option (((Int × Unit) × ((List Int) × (List (List Int)) × Unit) × Unit)) := (zc4_ k k1 q_1).bind fun y_3 => (z67_ k y_3.1.1 q_2).bind fun y_4 => some ((y_4.1.1, ()), (y_4.2.1.1, y_3.2.1.1, ()), ())
def qny_ : Head := ⟨[(0, (.st (.pr (.st (.ref 1000000000 [])) (.ref 1000000001 [])))), (1, (.val (.int .i64)))], [(1000000000, 25, (.sl 2 (.int .i64)), false), (1000000001, 2, (.int .i64), false)], []⟩
def qnz_ : Head := ⟨[(0, (.val (.int .i64)))], [(1000000001, 2, (.int .i64), false), (1000000000, 25, (.sl 2 (.int .i64)), false)], []⟩
def qo0_ (k : Nat) : OC := ⟨qny_, qnz_, fun x => zj6_ k x.1.2.1 x.2.1.1 x.2.1.2.1⟩
theorem qo1_ (k : Nat) : z14_ Tryz.prog ti 47 (qo0_ k) := by
  refine z2l_ (tab := []) (l := [(8, 84, qm2_ k), (12, 43, qma_ k)]) z4_ z6_ mix (List.forall_mem_nil _) (List.forall_mem_cons.2 ⟨qm3_ k, (List.forall_mem_cons.2 ⟨qmc_ k, (List.forall_mem_nil _)⟩)⟩) ⟨by kernel_rfl, by kernel_rfl, Tryz.f47, (z2_ Tryz.f47), [.tmp 4], (LOn (((Int × Unit) × ((List Int) × (List (List Int)) × Unit) × Unit))), by kernel_rfl, by kernel_rfl, by kernel_rfl, by kernel_rfl, Nat.le_of_ble_eq_true (by kernel_rfl), fun pins pinB => ⟨⟨by kernel_rfl, ?_, ?_⟩, ?_⟩⟩
  · exact zf_ (by kernel_rfl)
  · exact z5_ (by kernel_rfl)
  · rintro ⟨⟨⟨⟨⟩, ⟨⟩⟩, k1, ⟨⟩⟩, ⟨q_1, q_2, ⟨⟩⟩, ⟨⟩⟩
    kernel_rfl
end
end Go.Proofs.YtckbclbmkklaoaaGreatDoor.Ev
