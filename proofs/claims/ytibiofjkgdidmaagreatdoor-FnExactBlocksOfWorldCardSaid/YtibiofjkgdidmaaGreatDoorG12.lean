/- Functions of the program, as plain ones. No conditions. -/
import Derived.Test.YtibiofjkgdidmaaGreatDoorG11
import Derived.KernelRfl
set_option linter.unusedVariables false
set_option maxRecDepth 100000
namespace Go.Proofs.YtibiofjkgdidmaaGreatDoor.Ev
open Go.RowKit
noncomputable section
def z9c_ (k : Nat) : Nat → Nat → Int → Int → zT0 → (Int → zT0 → Option (((Int × Unit) × (zT0 × Unit) × Unit))) → Option (((Int × Unit) × (zT0 × Unit) × Unit))
  | 0, _, _, _, _, _ => none
  | n + 1, a0n0, k1, i5, q_2, e_0 => (q_2[a0n0]?).bind fun y_3 => (if (decide (i5 < (List.length y_3.2.2.2.1 : Int))) = true then (q_2[a0n0]?).bind fun y_4 => (if 0 ≤ i5 ∧ i5.toNat < List.length y_4.2.2.2.1 then (q_2[a0n0]?).bind fun y_5 => (y_5.2.2.2.1[i5.toNat]?).bind fun y_6 => (q_2[a0n0]?).bind fun y_7 => (y_7.2.2.2.1[i5.toNat]?).bind fun y_8 => z9c_ k n a0n0 (z0_ (k1 + 1)) (z0_ (i5 + 1)) (q_2.set a0n0 (y_7.1, (y_7.2.1, (y_7.2.2.1, ((y_7.2.2.2.1.set i5.toNat k1), y_7.2.2.2.2))))) e_0 else none) else e_0 k1 q_2)
def zeu_ (k : Nat) (a0n0 : Nat) (k1 : Int) (q_1 : List (List UInt8 × List (List Int) × Int × List Int × List (Int × Int × Int × List Int))) : Option (((Int × Unit) × (zT0 × Unit) × Unit)) := z9c_ k k a0n0 k1 0 q_1 (fun k_9 q_10 => some ((k_9, ()), (q_10, ()), ()))
def qng_ : Head := ⟨[(0, (.ref 1000000000 [.ix, .f true, .f true, .f true, .f false])), (1, (.val (.int .i64))), (5, (.val (.int .i64)))], [(1000000000, 80, (.st (.pr .str (.st (.pr (.st (.sl 68 (.sl 2 (.int .i64)))) (.pr (.int .i64) (.pr (.sl 2 (.int .i64)) (.sl 147 (.st (.pr (.int .i64) (.pr (.int .i64) (.pr (.int .i64) (.sl 2 (.int .i64))))))))))))), false)], []⟩
def qnh_ : Head := ⟨[(1, (.val (.int .i64)))], [(1000000000, 80, (.st (.pr .str (.st (.pr (.st (.sl 68 (.sl 2 (.int .i64)))) (.pr (.int .i64) (.pr (.sl 2 (.int .i64)) (.sl 147 (.st (.pr (.int .i64) (.pr (.int .i64) (.pr (.int .i64) (.sl 2 (.int .i64))))))))))))), false)], []⟩
def qni_ (k n : Nat) (x : qng_.T) (kx : Nat → St → Option (((Int × Unit) × (zT0 × Unit) × Unit))) : Option (((Int × Unit) × (zT0 × Unit) × Unit)) := z9c_ k n x.1.1.1 x.1.2.1 x.1.2.2.1 x.2.1.1 (fun (k1 : Int) (q_9 : List (List UInt8 × List (List Int) × Int × List Int × List (Int × Int × Int × List Int))) => kx 0 (qnh_.fill ((k1, ()), (q_9, ()), ())))
def qnj_ (k : Nat) : Oracles (((Int × Unit) × (zT0 × Unit) × Unit)) := ⟨fun n => bif Nat.beq n 2 then some (fun σ kx => qng_.get σ fun x => qni_ k k x kx) else none, fun _ => none⟩
def qnk_ : Head := ⟨[(0, (.ref 1000000000 [.ix, .f true, .f true, .f true, .f false])), (1, (.val (.int .i64)))], [(1000000000, 80, (.st (.pr .str (.st (.pr (.st (.sl 68 (.sl 2 (.int .i64)))) (.pr (.int .i64) (.pr (.sl 2 (.int .i64)) (.sl 147 (.st (.pr (.int .i64) (.pr (.int .i64) (.pr (.int .i64) (.sl 2 (.int .i64))))))))))))), false)], []⟩
def qnl_ : Head := ⟨[(0, (.val (.int .i64)))], [(1000000000, 80, (.st (.pr .str (.st (.pr (.st (.sl 68 (.sl 2 (.int .i64)))) (.pr (.int .i64) (.pr (.sl 2 (.int .i64)) (.sl 147 (.st (.pr (.int .i64) (.pr (.int .i64) (.pr (.int .i64) (.sl 2 (.int .i64))))))))))))), false)], []⟩
def qnm_ (k : Nat) : OC := ⟨qnk_, qnl_, fun x => zeu_ k x.1.1.1 x.1.2.1 x.2.1.1⟩
theorem qnn_ (k : Nat) (pins : Nat → Value) (pinB : Nat → Nat) : zc_ (z3_ ti [] (lk []) pins pinB) (qnj_ k) (rdO (z3_ ti [] (lk []) pins pinB) [.tmp 4] qnl_) ((zb_ (z2_ Tryz.f54)).getD 0 .skip) (fun σ kx => qng_.get σ fun x => qni_ k k x kx) := by
  refine ⟨qng_, [(0, qnh_)], fun n x kx => qni_ k n x kx, k, by kernel_rfl, by kernel_rfl, fun x kx => by kernel_rfl, ?_, fun σ kx => rfl⟩
  rintro n ⟨⟨⟨a0n0, ⟨⟩⟩, k1, i5, ⟨⟩⟩, ⟨q_2, ⟨⟩⟩, ⟨⟩⟩ kx
  kernel_rfl
theorem qno_ (k : Nat) : z1b_ Tryz.prog ti 54 (qnm_ k) := by
  refine z50_ (tab := []) (l := []) z6_ z9_ mix (List.forall_mem_nil _) (List.forall_mem_nil _) ⟨by kernel_rfl, by kernel_rfl, Tryz.f54, (z2_ Tryz.f54), [.tmp 4], (qnj_ k), by kernel_rfl, by kernel_rfl, by kernel_rfl, by kernel_rfl, Nat.le_of_ble_eq_true (by kernel_rfl), fun pins pinB => ⟨⟨by kernel_rfl, ?_, ?_⟩, ?_⟩⟩
  · refine zf_ (n := 1) (by kernel_rfl) fun i hi => ?_
    match i, hi with
    | 0, _ => exact zd_ (by kernel_rfl) (qnn_ k pins pinB)
    | n + 1, hi => omega
  · exact z8_ (by kernel_rfl)
  · rintro ⟨⟨⟨a0n0, ⟨⟩⟩, k1, ⟨⟩⟩, ⟨q_1, ⟨⟩⟩, ⟨⟩⟩
    kernel_rfl
def z9d_ (k : Nat) : Nat → Nat → Int → Int → zT5 → (Int → zT5 → Option (((Int × Unit) × (zT5 × Unit) × Unit))) → Option (((Int × Unit) × (zT5 × Unit) × Unit))
  | 0, _, _, _, _, _ => none
  | n + 1, a0n0, k1, i5, q_2, e_0 => (q_2[a0n0]?).bind fun y_3 => (if (decide (i5 < (List.length y_3.2.2.2 : Int))) = true then (q_2[a0n0]?).bind fun y_4 => (if 0 ≤ i5 ∧ i5.toNat < List.length y_4.2.2.2 then (q_2[a0n0]?).bind fun y_5 => (y_5.2.2.2[i5.toNat]?).bind fun y_6 => (q_2[a0n0]?).bind fun y_7 => (y_7.2.2.2[i5.toNat]?).bind fun y_8 => z9d_ k n a0n0 (z0_ (k1 + 1)) (z0_ (i5 + 1)) (q_2.set a0n0 (y_7.1, (y_7.2.1, (y_7.2.2.1, (y_7.2.2.2.set i5.toNat k1))))) e_0 else none) else e_0 k1 q_2)
def zev_ (k : Nat) (a0n0 : Nat) (k1 : Int) (q_1 : List (Int × Int × Int × List Int)) : Option (((Int × Unit) × (zT5 × Unit) × Unit)) := z9d_ k k a0n0 k1 0 q_1 (fun k_9 q_10 => some ((k_9, ()), (q_10, ()), ()))
def qnp_ : Head := ⟨[(0, (.ref 1000000000 [.ix, .f true, .f true, .f true])), (1, (.val (.int .i64))), (5, (.val (.int .i64)))], [(1000000000, 147, (.st (.pr (.int .i64) (.pr (.int .i64) (.pr (.int .i64) (.sl 2 (.int .i64)))))), false)], []⟩
def qnq_ : Head := ⟨[(1, (.val (.int .i64)))], [(1000000000, 147, (.st (.pr (.int .i64) (.pr (.int .i64) (.pr (.int .i64) (.sl 2 (.int .i64)))))), false)], []⟩
def qnr_ (k n : Nat) (x : qnp_.T) (kx : Nat → St → Option (((Int × Unit) × (zT5 × Unit) × Unit))) : Option (((Int × Unit) × (zT5 × Unit) × Unit)) := z9d_ k n x.1.1.1 x.1.2.1 x.1.2.2.1 x.2.1.1 (fun (k1 : Int) (q_9 : List (Int × Int × Int × List Int)) => kx 0 (qnq_.fill ((k1, ()), (q_9, ()), ())))
def qns_ (k : Nat) : Oracles (((Int × Unit) × (zT5 × Unit) × Unit)) := ⟨fun n => bif Nat.beq n 2 then some (fun σ kx => qnp_.get σ fun x => qnr_ k k x kx) else none, fun _ => none⟩
def qnt_ : Head := ⟨[(0, (.ref 1000000000 [.ix, .f true, .f true, .f true])), (1, (.val (.int .i64)))], [(1000000000, 147, (.st (.pr (.int .i64) (.pr (.int .i64) (.pr (.int .i64) (.sl 2 (.int .i64)))))), false)], []⟩
def qnu_ : Head := ⟨[(0, (.val (.int .i64)))], [(1000000000, 147, (.st (.pr (.int .i64) (.pr (.int .i64) (.pr (.int .i64) (.sl 2 (.int .i64)))))), false)], []⟩
def qnv_ (k : Nat) : OC := ⟨qnt_, qnu_, fun x => zev_ k x.1.1.1 x.1.2.1 x.2.1.1⟩
theorem qnw_ (k : Nat) (pins : Nat → Value) (pinB : Nat → Nat) : zc_ (z3_ ti [] (lk []) pins pinB) (qns_ k) (rdO (z3_ ti [] (lk []) pins pinB) [.tmp 4] qnu_) ((zb_ (z2_ Tryz.f54)).getD 0 .skip) (fun σ kx => qnp_.get σ fun x => qnr_ k k x kx) := by
  refine ⟨qnp_, [(0, qnq_)], fun n x kx => qnr_ k n x kx, k, by kernel_rfl, by kernel_rfl, fun x kx => by kernel_rfl, ?_, fun σ kx => rfl⟩
  rintro n ⟨⟨⟨a0n0, ⟨⟩⟩, k1, i5, ⟨⟩⟩, ⟨q_2, ⟨⟩⟩, ⟨⟩⟩ kx
  kernel_rfl
theorem qnx_ (k : Nat) : z1b_ Tryz.prog ti 54 (qnv_ k) := by
  refine z50_ (tab := []) (l := []) z6_ z9_ mix (List.forall_mem_nil _) (List.forall_mem_nil _) ⟨by kernel_rfl, by kernel_rfl, Tryz.f54, (z2_ Tryz.f54), [.tmp 4], (qns_ k), by kernel_rfl, by kernel_rfl, by kernel_rfl, by kernel_rfl, Nat.le_of_ble_eq_true (by kernel_rfl), fun pins pinB => ⟨⟨by kernel_rfl, ?_, ?_⟩, ?_⟩⟩
  · refine zf_ (n := 1) (by kernel_rfl) fun i hi => ?_
    match i, hi with
    | 0, _ => exact zd_ (by kernel_rfl) (qnw_ k pins pinB)
    | n + 1, hi => omega
  · exact z8_ (by kernel_rfl)
  · rintro ⟨⟨⟨a0n0, ⟨⟩⟩, k1, ⟨⟩⟩, ⟨q_1, ⟨⟩⟩, ⟨⟩⟩
    kernel_rfl
def z9e_ (k : Nat) : Nat → Int → Int → zT5 → (Int → zT5 → Option (((Int × Unit) × (zT5 × Unit) × Unit))) → Option (((Int × Unit) × (zT5 × Unit) × Unit))
  | 0, _, _, _, _ => none
  | n + 1, k1, i5, q_2, e_0 => (if (decide (i5 < (List.length q_2 : Int))) = true then (if 0 ≤ i5 ∧ i5.toNat < List.length q_2 then (q_2[i5.toNat]?).bind fun y_3 => (q_2[i5.toNat]?).bind fun y_4 => (if 0 ≤ i5 ∧ i5.toNat < List.length (q_2.set i5.toNat (k1, y_3.2)) then ((q_2.set i5.toNat (k1, y_3.2))[i5.toNat]?).bind fun y_5 => ((q_2.set i5.toNat (k1, y_3.2))[i5.toNat]?).bind fun y_6 => (if 0 ≤ i5 ∧ i5.toNat < List.length ((q_2.set i5.toNat (k1, y_3.2)).set i5.toNat (y_5.1, ((z0_ (k1 + 1)), y_5.2.2))) then (((q_2.set i5.toNat (k1, y_3.2)).set i5.toNat (y_5.1, ((z0_ (k1 + 1)), y_5.2.2)))[i5.toNat]?).bind fun y_7 => (((q_2.set i5.toNat (k1, y_3.2)).set i5.toNat (y_5.1, ((z0_ (k1 + 1)), y_5.2.2)))[i5.toNat]?).bind fun y_8 => (if 0 ≤ i5 ∧ i5.toNat < List.length (((q_2.set i5.toNat (k1, y_3.2)).set i5.toNat (y_5.1, ((z0_ (k1 + 1)), y_5.2.2))).set i5.toNat (y_7.1, (y_7.2.1, ((z0_ ((z0_ (k1 + 1)) + 1)), y_7.2.2.2)))) then ((((q_2.set i5.toNat (k1, y_3.2)).set i5.toNat (y_5.1, ((z0_ (k1 + 1)), y_5.2.2))).set i5.toNat (y_7.1, (y_7.2.1, ((z0_ ((z0_ (k1 + 1)) + 1)), y_7.2.2.2))))[i5.toNat]?).bind fun y_9 => (zev_ k i5.toNat (z0_ ((z0_ ((z0_ (k1 + 1)) + 1)) + 1)) (((q_2.set i5.toNat (k1, y_3.2)).set i5.toNat (y_5.1, ((z0_ (k1 + 1)), y_5.2.2))).set i5.toNat (y_7.1, (y_7.2.1, ((z0_ ((z0_ (k1 + 1)) + 1)), y_7.2.2.2))))).bind fun y_10 => z9e_ k n y_10.1.1 (z0_ (i5 + 1)) y_10.2.1.1 e_0 else none) else none) else none) else none) else e_0 k1 q_2)
def zew_ (k : Nat) (k1 : Int) (q_1 : List (Int × Int × Int × List Int)) : Option (((Int × Unit) × (zT5 × Unit) × Unit)) := z9e_ k k k1 0 q_1 (fun k_11 q_12 => some ((k_11, ()), (q_12, ()), ()))
def qny_ : Head := ⟨[(0, (.ref 1000000000 [])), (1, (.val (.int .i64))), (5, (.val (.int .i64)))], [(1000000000, 147, (.st (.pr (.int .i64) (.pr (.int .i64) (.pr (.int .i64) (.sl 2 (.int .i64)))))), false)], []⟩
def qnz_ : Head := ⟨[(1, (.val (.int .i64)))], [(1000000000, 147, (.st (.pr (.int .i64) (.pr (.int .i64) (.pr (.int .i64) (.sl 2 (.int .i64)))))), false)], []⟩
def qo0_ (k n : Nat) (x : qny_.T) (kx : Nat → St → Option (((Int × Unit) × (zT5 × Unit) × Unit))) : Option (((Int × Unit) × (zT5 × Unit) × Unit)) := z9e_ k n x.1.2.1 x.1.2.2.1 x.2.1.1 (fun (k1 : Int) (q_12 : List (Int × Int × Int × List Int)) => kx 0 (qnz_.fill ((k1, ()), (q_12, ()), ())))
def qo1_ (k : Nat) : Oracles (((Int × Unit) × (zT5 × Unit) × Unit)) := ⟨fun n => bif Nat.beq n 2 then some (fun σ kx => qny_.get σ fun x => qo0_ k k x kx) else none, fun _ => none⟩
def qo2_ : Head := ⟨[(0, (.ref 1000000000 [])), (1, (.val (.int .i64)))], [(1000000000, 147, (.st (.pr (.int .i64) (.pr (.int .i64) (.pr (.int .i64) (.sl 2 (.int .i64)))))), false)], []⟩
def qo3_ : Head := ⟨[(0, (.val (.int .i64)))], [(1000000000, 147, (.st (.pr (.int .i64) (.pr (.int .i64) (.pr (.int .i64) (.sl 2 (.int .i64)))))), false)], []⟩
def qo4_ (k : Nat) : OC := ⟨qo2_, qo3_, fun x => zew_ k x.1.2.1 x.2.1.1⟩
theorem qo5_ (k : Nat) (pins : Nat → Value) (pinB : Nat → Nat) : zc_ (z3_ ti [] (lk [(39, 54, qnv_ k)]) pins pinB) (qo1_ k) (rdO (z3_ ti [] (lk [(39, 54, qnv_ k)]) pins pinB) [.tmp 4] qo3_) ((zb_ (z2_ Tryz.f55)).getD 0 .skip) (fun σ kx => qny_.get σ fun x => qo0_ k k x kx) := by
  refine ⟨qny_, [(0, qnz_)], fun n x kx => qo0_ k n x kx, k, by kernel_rfl, by kernel_rfl, fun x kx => by kernel_rfl, ?_, fun σ kx => rfl⟩
  rintro n ⟨⟨⟨⟩, k1, i5, ⟨⟩⟩, ⟨q_2, ⟨⟩⟩, ⟨⟩⟩ kx
  kernel_rfl
theorem qo6_ (k : Nat) : z1b_ Tryz.prog ti 55 (qo4_ k) := by
  refine z50_ (tab := []) (l := [(39, 54, qnv_ k)]) z6_ z9_ mix (List.forall_mem_nil _) (List.forall_mem_cons.2 ⟨qnx_ k, (List.forall_mem_nil _)⟩) ⟨by kernel_rfl, by kernel_rfl, Tryz.f55, (z2_ Tryz.f55), [.tmp 4], (qo1_ k), by kernel_rfl, by kernel_rfl, by kernel_rfl, by kernel_rfl, Nat.le_of_ble_eq_true (by kernel_rfl), fun pins pinB => ⟨⟨by kernel_rfl, ?_, ?_⟩, ?_⟩⟩
  · refine zf_ (n := 1) (by kernel_rfl) fun i hi => ?_
    match i, hi with
    | 0, _ => exact zd_ (by kernel_rfl) (qo5_ k pins pinB)
    | n + 1, hi => omega
  · exact z8_ (by kernel_rfl)
  · rintro ⟨⟨⟨⟩, k1, ⟨⟩⟩, ⟨q_1, ⟨⟩⟩, ⟨⟩⟩
    kernel_rfl
def z9f_ (k : Nat) : Nat → Int → Int → zT0 → (Int → zT0 → Option (((Int × Unit) × (zT0 × Unit) × Unit))) → Option (((Int × Unit) × (zT0 × Unit) × Unit))
  | 0, _, _, _, _ => none
  | n + 1, k1, i5, q_2, e_0 => (if (decide (i5 < (List.length q_2 : Int))) = true then (z2e_ k k1).bind fun r_3 => (if 0 ≤ i5 ∧ i5.toNat < List.length q_2 then (q_2[i5.toNat]?).bind fun y_4 => (q_2[i5.toNat]?).bind fun y_5 => (if 0 ≤ i5 ∧ i5.toNat < List.length (q_2.set i5.toNat (r_3, y_4.2)) then ((q_2.set i5.toNat (r_3, y_4.2))[i5.toNat]?).bind fun y_6 => ((q_2.set i5.toNat (r_3, y_4.2))[i5.toNat]?).bind fun y_7 => (zbr_ k (z0_ (k1 + 1)) y_7.2.1).bind fun y_8 => ((q_2.set i5.toNat (r_3, y_4.2))[i5.toNat]?).bind fun y_9 => (if 0 ≤ i5 ∧ i5.toNat < List.length ((q_2.set i5.toNat (r_3, y_4.2)).set i5.toNat (y_9.1, (y_8.2.1.1, y_9.2.2))) then (((q_2.set i5.toNat (r_3, y_4.2)).set i5.toNat (y_9.1, (y_8.2.1.1, y_9.2.2)))[i5.toNat]?).bind fun y_10 => (((q_2.set i5.toNat (r_3, y_4.2)).set i5.toNat (y_9.1, (y_8.2.1.1, y_9.2.2)))[i5.toNat]?).bind fun y_11 => (if 0 ≤ i5 ∧ i5.toNat < List.length (((q_2.set i5.toNat (r_3, y_4.2)).set i5.toNat (y_9.1, (y_8.2.1.1, y_9.2.2))).set i5.toNat (y_10.1, (y_10.2.1, (y_8.1.1, y_10.2.2.2)))) then ((((q_2.set i5.toNat (r_3, y_4.2)).set i5.toNat (y_9.1, (y_8.2.1.1, y_9.2.2))).set i5.toNat (y_10.1, (y_10.2.1, (y_8.1.1, y_10.2.2.2))))[i5.toNat]?).bind fun y_12 => (zeu_ k i5.toNat (z0_ (y_8.1.1 + 1)) (((q_2.set i5.toNat (r_3, y_4.2)).set i5.toNat (y_9.1, (y_8.2.1.1, y_9.2.2))).set i5.toNat (y_10.1, (y_10.2.1, (y_8.1.1, y_10.2.2.2))))).bind fun y_13 => (if 0 ≤ i5 ∧ i5.toNat < List.length y_13.2.1.1 then (y_13.2.1.1[i5.toNat]?).bind fun y_14 => (y_13.2.1.1[i5.toNat]?).bind fun y_15 => (zew_ k y_13.1.1 y_15.2.2.2.2).bind fun y_16 => (y_13.2.1.1[i5.toNat]?).bind fun y_17 => z9f_ k n y_16.1.1 (z0_ (i5 + 1)) (y_13.2.1.1.set i5.toNat (y_17.1, (y_17.2.1, (y_17.2.2.1, (y_17.2.2.2.1, y_16.2.1.1))))) e_0 else none) else none) else none) else none) else none) else e_0 k1 q_2)
def zex_ (k : Nat) (k1 : Int) (q_1 : List (List UInt8 × List (List Int) × Int × List Int × List (Int × Int × Int × List Int))) : Option (((Int × Unit) × (zT0 × Unit) × Unit)) := z9f_ k k k1 0 q_1 (fun k_18 q_19 => some ((k_18, ()), (q_19, ()), ()))
def qo7_ : Head := ⟨[(0, (.ref 1000000000 [])), (1, (.val (.int .i64))), (5, (.val (.int .i64)))], [(1000000000, 80, (.st (.pr .str (.st (.pr (.st (.sl 68 (.sl 2 (.int .i64)))) (.pr (.int .i64) (.pr (.sl 2 (.int .i64)) (.sl 147 (.st (.pr (.int .i64) (.pr (.int .i64) (.pr (.int .i64) (.sl 2 (.int .i64))))))))))))), false)], []⟩
def qo8_ : Head := ⟨[(1, (.val (.int .i64)))], [(1000000000, 80, (.st (.pr .str (.st (.pr (.st (.sl 68 (.sl 2 (.int .i64)))) (.pr (.int .i64) (.pr (.sl 2 (.int .i64)) (.sl 147 (.st (.pr (.int .i64) (.pr (.int .i64) (.pr (.int .i64) (.sl 2 (.int .i64))))))))))))), false)], []⟩
def qo9_ (k n : Nat) (x : qo7_.T) (kx : Nat → St → Option (((Int × Unit) × (zT0 × Unit) × Unit))) : Option (((Int × Unit) × (zT0 × Unit) × Unit)) := z9f_ k n x.1.2.1 x.1.2.2.1 x.2.1.1 (fun (k1 : Int) (q_21 : List (List UInt8 × List (List Int) × Int × List Int × List (Int × Int × Int × List Int))) => kx 0 (qo8_.fill ((k1, ()), (q_21, ()), ())))
def qoa_ (k : Nat) : Oracles (((Int × Unit) × (zT0 × Unit) × Unit)) := ⟨fun n => bif Nat.beq n 2 then some (fun σ kx => qo7_.get σ fun x => qo9_ k k x kx) else none, fun _ => none⟩
def qob_ : Head := ⟨[(0, (.ref 1000000000 [])), (1, (.val (.int .i64)))], [(1000000000, 80, (.st (.pr .str (.st (.pr (.st (.sl 68 (.sl 2 (.int .i64)))) (.pr (.int .i64) (.pr (.sl 2 (.int .i64)) (.sl 147 (.st (.pr (.int .i64) (.pr (.int .i64) (.pr (.int .i64) (.sl 2 (.int .i64))))))))))))), false)], []⟩
def qoc_ : Head := ⟨[(0, (.val (.int .i64)))], [(1000000000, 80, (.st (.pr .str (.st (.pr (.st (.sl 68 (.sl 2 (.int .i64)))) (.pr (.int .i64) (.pr (.sl 2 (.int .i64)) (.sl 147 (.st (.pr (.int .i64) (.pr (.int .i64) (.pr (.int .i64) (.sl 2 (.int .i64))))))))))))), false)], []⟩
def qod_ (k : Nat) : OC := ⟨qob_, qoc_, fun x => zex_ k x.1.2.1 x.2.1.1⟩
theorem qoe_ (k : Nat) (pins : Nat → Value) (pinB : Nat → Nat) : zc_ (z3_ ti [(26, qmm_ k)] (lk [(28, 53, qn4_ k), (44, 54, qnm_ k), (52, 55, qo4_ k)]) pins pinB) (qoa_ k) (rdO (z3_ ti [(26, qmm_ k)] (lk [(28, 53, qn4_ k), (44, 54, qnm_ k), (52, 55, qo4_ k)]) pins pinB) [.tmp 4] qoc_) ((zb_ (z2_ Tryz.f25)).getD 0 .skip) (fun σ kx => qo7_.get σ fun x => qo9_ k k x kx) := by
  refine ⟨qo7_, [(0, qo8_)], fun n x kx => qo9_ k n x kx, k, by kernel_rfl, by kernel_rfl, fun x kx => by kernel_rfl, ?_, fun σ kx => rfl⟩
  rintro n ⟨⟨⟨⟩, k1, i5, ⟨⟩⟩, ⟨q_2, ⟨⟩⟩, ⟨⟩⟩ kx
  kernel_rfl
theorem qof_ (k : Nat) : z1b_ Tryz.prog ti 25 (qod_ k) := by
  refine z50_ (tab := [(26, qmm_ k)]) (l := [(28, 53, qn4_ k), (44, 54, qnm_ k), (52, 55, qo4_ k)]) z6_ z9_ mix (List.forall_mem_cons.2 ⟨qmo_ k, (List.forall_mem_nil _)⟩) (List.forall_mem_cons.2 ⟨qn6_ k, (List.forall_mem_cons.2 ⟨qno_ k, (List.forall_mem_cons.2 ⟨qo6_ k, (List.forall_mem_nil _)⟩)⟩)⟩) ⟨by kernel_rfl, by kernel_rfl, Tryz.f25, (z2_ Tryz.f25), [.tmp 4], (qoa_ k), by kernel_rfl, by kernel_rfl, by kernel_rfl, by kernel_rfl, Nat.le_of_ble_eq_true (by kernel_rfl), fun pins pinB => ⟨⟨by kernel_rfl, ?_, ?_⟩, ?_⟩⟩
  · refine zf_ (n := 1) (by kernel_rfl) fun i hi => ?_
    match i, hi with
    | 0, _ => exact zd_ (by kernel_rfl) (qoe_ k pins pinB)
    | n + 1, hi => omega
  · exact z8_ (by kernel_rfl)
  · rintro ⟨⟨⟨⟩, k1, ⟨⟩⟩, ⟨q_1, ⟨⟩⟩, ⟨⟩⟩
    kernel_rfl
def zey_ (k : Nat) (k1 : Int) (q_1 : List (List UInt8 × List (List Int))) (q_2 : List (List UInt8 × List (List Int) × Int × List Int × List (Int × Int × Int × List Int))) : Option (((Int × Unit) × (zT0 × zT1 × Unit) × Unit)) := (zet_ k k1 q_1).bind fun y_3 => (zex_ k y_3.1.1 q_2).bind fun y_4 => some ((y_4.1.1, ()), (y_4.2.1.1, y_3.2.1.1, ()), ())
def qog_ : Head := ⟨[(0, (.st (.pr (.ref 1000000000 []) (.ref 1000000001 [])))), (1, (.val (.int .i64)))], [(1000000000, 48, (.st (.pr .str (.st (.sl 68 (.sl 2 (.int .i64)))))), false), (1000000001, 80, (.st (.pr .str (.st (.pr (.st (.sl 68 (.sl 2 (.int .i64)))) (.pr (.int .i64) (.pr (.sl 2 (.int .i64)) (.sl 147 (.st (.pr (.int .i64) (.pr (.int .i64) (.pr (.int .i64) (.sl 2 (.int .i64))))))))))))), false)], []⟩
def qoh_ : Head := ⟨[(0, (.val (.int .i64)))], [(1000000001, 80, (.st (.pr .str (.st (.pr (.st (.sl 68 (.sl 2 (.int .i64)))) (.pr (.int .i64) (.pr (.sl 2 (.int .i64)) (.sl 147 (.st (.pr (.int .i64) (.pr (.int .i64) (.pr (.int .i64) (.sl 2 (.int .i64))))))))))))), false), (1000000000, 48, (.st (.pr .str (.st (.sl 68 (.sl 2 (.int .i64)))))), false)], []⟩
def qoi_ (k : Nat) : OC := ⟨qog_, qoh_, fun x => zey_ k x.1.2.1 x.2.1.1 x.2.1.2.1⟩
theorem qoj_ (k : Nat) : z1b_ Tryz.prog ti 10 (qoi_ k) := by
  refine z50_ (tab := []) (l := [(8, 24, qnd_ k), (12, 25, qod_ k)]) z6_ z9_ mix (List.forall_mem_nil _) (List.forall_mem_cons.2 ⟨qnf_ k, (List.forall_mem_cons.2 ⟨qof_ k, (List.forall_mem_nil _)⟩)⟩) ⟨by kernel_rfl, by kernel_rfl, Tryz.f10, (z2_ Tryz.f10), [.tmp 4], (LOn (((Int × Unit) × (zT0 × zT1 × Unit) × Unit))), by kernel_rfl, by kernel_rfl, by kernel_rfl, by kernel_rfl, Nat.le_of_ble_eq_true (by kernel_rfl), fun pins pinB => ⟨⟨by kernel_rfl, ?_, ?_⟩, ?_⟩⟩
  · exact zh_ (by kernel_rfl)
  · exact z8_ (by kernel_rfl)
  · rintro ⟨⟨⟨⟨⟩, ⟨⟩⟩, k1, ⟨⟩⟩, ⟨q_1, q_2, ⟨⟩⟩, ⟨⟩⟩
    kernel_rfl
def z9g_ (k : Nat) : Nat → Int → Int → zT3 → (Int → zT3 → Option (((Int × Unit) × (zT3 × Unit) × Unit))) → Option (((Int × Unit) × (zT3 × Unit) × Unit))
  | 0, _, _, _, _ => none
  | n + 1, k1, i5, q_2, e_0 => (if (decide (i5 < (List.length q_2 : Int))) = true then (z2e_ k k1).bind fun r_3 => (if 0 ≤ i5 ∧ i5.toNat < List.length q_2 then (q_2[i5.toNat]?).bind fun y_4 => (q_2[i5.toNat]?).bind fun y_5 => (z2e_ k (z0_ (k1 + 1))).bind fun r_6 => (if 0 ≤ i5 ∧ i5.toNat < List.length (q_2.set i5.toNat (r_3, y_4.2)) then ((q_2.set i5.toNat (r_3, y_4.2))[i5.toNat]?).bind fun y_7 => ((q_2.set i5.toNat (r_3, y_4.2))[i5.toNat]?).bind fun y_8 => (z2e_ k (z0_ ((z0_ (k1 + 1)) + 1))).bind fun r_9 => (if 0 ≤ i5 ∧ i5.toNat < List.length ((q_2.set i5.toNat (r_3, y_4.2)).set i5.toNat (y_7.1, (r_6, y_7.2.2))) then (((q_2.set i5.toNat (r_3, y_4.2)).set i5.toNat (y_7.1, (r_6, y_7.2.2)))[i5.toNat]?).bind fun y_10 => (((q_2.set i5.toNat (r_3, y_4.2)).set i5.toNat (y_7.1, (r_6, y_7.2.2)))[i5.toNat]?).bind fun y_11 => z9g_ k n (z0_ ((z0_ ((z0_ (k1 + 1)) + 1)) + 1)) (z0_ (i5 + 1)) (((q_2.set i5.toNat (r_3, y_4.2)).set i5.toNat (y_7.1, (r_6, y_7.2.2))).set i5.toNat (y_10.1, (y_10.2.1, r_9))) e_0 else none) else none) else none) else e_0 k1 q_2)
def zez_ (k : Nat) (k1 : Int) (q_1 : List (List UInt8 × List UInt8 × List UInt8)) : Option (((Int × Unit) × (zT3 × Unit) × Unit)) := z9g_ k k k1 0 q_1 (fun k_12 q_13 => some ((k_12, ()), (q_13, ()), ()))
def qok_ : Head := ⟨[(0, (.ref 1000000000 [])), (1, (.val (.int .i64))), (5, (.val (.int .i64)))], [(1000000000, 52, (.st (.pr .str (.pr .str .str))), false)], []⟩
def qol_ : Head := ⟨[(1, (.val (.int .i64)))], [(1000000000, 52, (.st (.pr .str (.pr .str .str))), false)], []⟩
def qom_ (k n : Nat) (x : qok_.T) (kx : Nat → St → Option (((Int × Unit) × (zT3 × Unit) × Unit))) : Option (((Int × Unit) × (zT3 × Unit) × Unit)) := z9g_ k n x.1.2.1 x.1.2.2.1 x.2.1.1 (fun (k1 : Int) (q_12 : List (List UInt8 × List UInt8 × List UInt8)) => kx 0 (qol_.fill ((k1, ()), (q_12, ()), ())))
def qon_ (k : Nat) : Oracles (((Int × Unit) × (zT3 × Unit) × Unit)) := ⟨fun n => bif Nat.beq n 2 then some (fun σ kx => qok_.get σ fun x => qom_ k k x kx) else none, fun _ => none⟩
def qoo_ : Head := ⟨[(0, (.ref 1000000000 [])), (1, (.val (.int .i64)))], [(1000000000, 52, (.st (.pr .str (.pr .str .str))), false)], []⟩
def qop_ : Head := ⟨[(0, (.val (.int .i64)))], [(1000000000, 52, (.st (.pr .str (.pr .str .str))), false)], []⟩
def qoq_ (k : Nat) : OC := ⟨qoo_, qop_, fun x => zez_ k x.1.2.1 x.2.1.1⟩
theorem qor_ (k : Nat) (pins : Nat → Value) (pinB : Nat → Nat) : zc_ (z3_ ti [(26, qmm_ k)] (lk []) pins pinB) (qon_ k) (rdO (z3_ ti [(26, qmm_ k)] (lk []) pins pinB) [.tmp 4] qop_) ((zb_ (z2_ Tryz.f11)).getD 0 .skip) (fun σ kx => qok_.get σ fun x => qom_ k k x kx) := by
  refine ⟨qok_, [(0, qol_)], fun n x kx => qom_ k n x kx, k, by kernel_rfl, by kernel_rfl, fun x kx => by kernel_rfl, ?_, fun σ kx => rfl⟩
  rintro n ⟨⟨⟨⟩, k1, i5, ⟨⟩⟩, ⟨q_2, ⟨⟩⟩, ⟨⟩⟩ kx
  kernel_rfl
theorem qos_ (k : Nat) : z1b_ Tryz.prog ti 11 (qoq_ k) := by
  refine z50_ (tab := [(26, qmm_ k)]) (l := []) z6_ z9_ mix (List.forall_mem_cons.2 ⟨qmo_ k, (List.forall_mem_nil _)⟩) (List.forall_mem_nil _) ⟨by kernel_rfl, by kernel_rfl, Tryz.f11, (z2_ Tryz.f11), [.tmp 4], (qon_ k), by kernel_rfl, by kernel_rfl, by kernel_rfl, by kernel_rfl, Nat.le_of_ble_eq_true (by kernel_rfl), fun pins pinB => ⟨⟨by kernel_rfl, ?_, ?_⟩, ?_⟩⟩
  · refine zf_ (n := 1) (by kernel_rfl) fun i hi => ?_
    match i, hi with
    | 0, _ => exact zd_ (by kernel_rfl) (qor_ k pins pinB)
    | n + 1, hi => omega
  · exact z8_ (by kernel_rfl)
  · rintro ⟨⟨⟨⟩, k1, ⟨⟩⟩, ⟨q_1, ⟨⟩⟩, ⟨⟩⟩
    kernel_rfl
def z9h_ (k : Nat) : Nat → zT3 → Int → Int → (Int → Option Int) → Option Int
  | 0, _, _, _, _ => none
  | n + 1, a0, k1, i5, e_0 => (if (decide (i5 < (List.length a0 : Int))) = true then (if 0 ≤ i5 then (a0[i5.toNat]?).bind fun y_1 => (z2e_ k k1).bind fun r_2 => (if (!(decide (y_1.1 = r_2))) = true then some (-1) else (if 0 ≤ i5 then (a0[i5.toNat]?).bind fun y_3 => (z2e_ k (z0_ (k1 + 1))).bind fun r_4 => (if (!(decide (y_3.2.1 = r_4))) = true then some (-1) else (if 0 ≤ i5 then (a0[i5.toNat]?).bind fun y_5 => (z2e_ k (z0_ ((z0_ (k1 + 1)) + 1))).bind fun r_6 => (if (!(decide (y_5.2.2 = r_6))) = true then some (-1) else z9h_ k n a0 (z0_ ((z0_ ((z0_ (k1 + 1)) + 1)) + 1)) (z0_ (i5 + 1)) e_0) else none)) else none)) else none) else e_0 k1)
def zbs_ (k : Nat) (a0 : List (List UInt8 × List UInt8 × List UInt8)) (k1 : Int) : Option Int := z9h_ k k a0 k1 0 (fun k_7 => some k_7)
def qot_ : Head := ⟨[(0, (.val (.sl 52 (.st (.pr .str (.pr .str .str)))))), (1, (.val (.int .i64))), (5, (.val (.int .i64)))], [], []⟩
def qou_ : Head := ⟨[(1, (.val (.int .i64)))], [], []⟩
def qov_ (k n : Nat) (x : qot_.T) (kx : Nat → St → Option Int) : Option Int := z9h_ k n x.1.1 x.1.2.1 x.1.2.2.1 (fun (k1 : Int) => kx 0 (qou_.fill ((k1, ()), (), ())))
def qow_ (k : Nat) : Oracles Int := ⟨fun n => bif Nat.beq n 2 then some (fun σ kx => qot_.get σ fun x => qov_ k k x kx) else none, fun _ => none⟩
def qox_ (k : Nat) : FE := ⟨(.pr (.sl 52 (.st (.pr .str (.pr .str .str)))) (.int .i64)), 1, (.int .i64), fun x => zbs_ k x.1 x.2⟩
theorem qoy_ (k : Nat) : zc_ (z3_ ti [(26, qmm_ k)] (lk []) z4_ z5_) (qow_ k) (rdC (z3_ ti [(26, qmm_ k)] (lk []) z4_ z5_) [.tmp 4] (.int .i64)) ((zb_ (z2_ Tryz.f12)).getD 0 .skip) (fun σ kx => qot_.get σ fun x => qov_ k k x kx) := by
  refine ⟨qot_, [(0, qou_)], fun n x kx => qov_ k n x kx, k, by kernel_rfl, by kernel_rfl, fun x kx => by kernel_rfl, ?_, fun σ kx => rfl⟩
  rintro n ⟨⟨a0, k1, i5, ⟨⟩⟩, ⟨⟩, ⟨⟩⟩ kx
  kernel_rfl
theorem qoz_ (k : Nat) : FnOK Tryz.prog 12 (qox_ k) := by
  refine za_ (tab := [(26, qmm_ k)]) (l := []) z6_ z9_ mix (List.forall_mem_cons.2 ⟨qmo_ k, (List.forall_mem_nil _)⟩) (List.forall_mem_nil _) ⟨⟨Tryz.f12, (z2_ Tryz.f12), [.tmp 4], (qow_ k), by kernel_rfl, by kernel_rfl, by kernel_rfl, by kernel_rfl, rfl, by decide, ⟨by kernel_rfl, ?_, ?_⟩, ?_⟩⟩
  · refine zf_ (n := 1) (by kernel_rfl) fun i hi => ?_
    match i, hi with
    | 0, _ => exact zd_ (by kernel_rfl) (qoy_ k)
    | n + 1, hi => omega
  · exact z8_ (by kernel_rfl)
  · rintro ⟨a0, k1⟩
    kernel_rfl
def zf0_ (k : Nat) (aW0 : zT1 × List (List UInt8 × List (List Int) × Int × List Int × List (Int × Int × Int × List Int))) : Option Bool := (ze1_ k aW0 1048576).bind fun r_1 => (if (decide (r_1 < 0)) = true then some true else (z6y_ k aW0).bind fun r_2 => (zf1_ k (r_2.1, r_2.2)).bind fun r_3 => (z6y_ k aW0).bind fun r_4 => (zbp_ k (r_4.1, r_4.2)).bind fun r_5 => (z92_ k r_5.1 r_3.1).bind fun r_6 => (if (!r_6) = true then some false else (if (!(decide (r_5.2 = r_3.2))) = true then some false else (z6y_ k aW0).bind fun r_7 => (zer_ k (r_4.1, r_4.2) (r_7.1, r_7.2)).bind fun r_8 => (if (!r_8) = true then some false else (zey_ k 1 r_4.1 r_4.2).bind fun y_9 => (if (decide (y_9.1.1 < 0)) = true then some false else (z92_ k r_5.1 r_3.1).bind fun r_10 => (if (!r_10) = true then some false else (if (!(decide (r_5.2 = r_3.2))) = true then some false else (zez_ k 1 r_5.1).bind fun y_11 => (zbs_ k y_11.2.1.1 1).bind fun r_12 => (if (decide (r_12 < 0)) = true then some false else (if (!(decide (r_12 = y_11.1.1))) = true then some false else (z6y_ k aW0).bind fun r_13 => (zbp_ k (r_13.1, r_13.2)).bind fun r_14 => (z92_ k r_14.1 r_3.1).bind fun r_15 => (if (!r_15) = true then some false else (if (!(decide (r_14.2 = r_3.2))) = true then some false else (zbs_ k y_11.2.1.1 1).bind fun r_16 => (if (decide (r_16 < 0)) = true then some false else (if (!(decide (r_16 = y_11.1.1))) = true then some false else some true)))))))))))))
def qp0_ (k : Nat) : FE := ⟨(.st (.pr (.sl 66 (.st (.pr .str (.st (.sl 68 (.sl 2 (.int .i64))))))) (.sl 73 (.st (.pr .str (.st (.pr (.st (.sl 68 (.sl 2 (.int .i64)))) (.pr (.int .i64) (.pr (.sl 2 (.int .i64)) (.sl 182 (.st (.pr (.int .i64) (.pr (.int .i64) (.pr (.int .i64) (.sl 2 (.int .i64)))))))))))))))), 1, .bool, fun x => zf0_ k x⟩
theorem zto_ (k : Nat) : FnOK Tryz.prog 3 (qp0_ k) := by
  refine za_ (tab := [(4, q14_ k), (6, q2f_ k), (5, q9b_ k), (7, qkv_ k), (8, ql4_ k), (9, qmg_ k), (12, qox_ k)]) (l := [(48, 10, qoi_ k), (64, 11, qoq_ k)]) z6_ z9_ mix (List.forall_mem_cons.2 ⟨q15_ k, (List.forall_mem_cons.2 ⟨q2g_ k, (List.forall_mem_cons.2 ⟨q9d_ k, (List.forall_mem_cons.2 ⟨qkx_ k, (List.forall_mem_cons.2 ⟨ql6_ k, (List.forall_mem_cons.2 ⟨qmh_ k, (List.forall_mem_cons.2 ⟨qoz_ k, (List.forall_mem_nil _)⟩)⟩)⟩)⟩)⟩)⟩)⟩) (List.forall_mem_cons.2 ⟨qoj_ k, (List.forall_mem_cons.2 ⟨qos_ k, (List.forall_mem_nil _)⟩)⟩) ⟨⟨Tryz.f3, (z2_ Tryz.f3), [.tmp 2], (LOn Bool), by kernel_rfl, by kernel_rfl, by kernel_rfl, by kernel_rfl, rfl, by decide, ⟨by kernel_rfl, ?_, ?_⟩, ?_⟩⟩
  · exact zh_ (by kernel_rfl)
  · exact z8_ (by kernel_rfl)
  · rintro aW0
    kernel_rfl
end
end Go.Proofs.YtibiofjkgdidmaaGreatDoor.Ev
