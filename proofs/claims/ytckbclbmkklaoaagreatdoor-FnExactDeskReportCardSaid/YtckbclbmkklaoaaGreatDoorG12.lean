/- Functions of the program, as zl_ ones. No conditions. -/
import Derived.Test.YtckbclbmkklaoaaGreatDoorG11
import Derived.KernelRfl
set_option linter.unusedVariables false
set_option maxRecDepth 100000
namespace Go.Proofs.YtckbclbmkklaoaaGreatDoor.Ev
open Go.RowKit
noncomputable section
def z78_ (k : Nat) : Nat → Int → (List UInt8) → ((List UInt8) → Option (List UInt8)) → Option (List UInt8)
  | 0, _, _, _ => none
  | n + 1, k0, out3, e_0 => (if (decide (0 < k0)) = true then (if (to_S [(w_u8 ((z0_ (48 + (Int.tmod k0 10)))))]).length + out3.length ≤ 9223372036854775807 then z78_ k n (z0_ (Int.tdiv k0 10)) ((to_S [(w_u8 ((z0_ (48 + (Int.tmod k0 10)))))]) ++ out3) e_0 else none) else e_0 out3)
def z3r_ (k : Nat) (k0 : Int) : Option (List UInt8) := (if (decide (k0 ≤ 0)) = true then some [109, 48] else z78_ k k k0 [] (fun out_1 => (if [109].length + out_1.length ≤ 9223372036854775807 then some ([109] ++ out_1) else none)))
def qo2_ : Head := ⟨[(0, (.val (.int .i64))), (3, (.val .str))], [], []⟩
def qo3_ : Head := ⟨[(3, (.val .str))], [], []⟩
def qo4_ (k n : Nat) (x : qo2_.T) (kx : Nat → St → Option (List UInt8)) : Option (List UInt8) := z78_ k n x.1.1 x.1.2.1 (fun (out3 : List UInt8) => kx 0 (qo3_.fill ((out3, ()), (), ())))
def qo5_ (k : Nat) : Oracles (List UInt8) := ⟨fun n => bif Nat.beq n 4 then some (fun σ kx => qo2_.get σ fun x => qo4_ k k x kx) else none, fun _ => none⟩
def qo6_ (k : Nat) : FE := ⟨(.int .i64), 1, .str, fun x => z3r_ k x⟩
theorem qo7_ (k : Nat) : zd_ (z3_ ti [] (lk []) z7_ z8_) (qo5_ k) (rdC (z3_ ti [] (lk []) z7_ z8_) [.tmp 2] .str) ((zc_ (z2_ Tryz.f49)).getD 0 .skip) (fun σ kx => qo2_.get σ fun x => qo4_ k k x kx) := by
  refine ⟨qo2_, [(0, qo3_)], fun n x kx => qo4_ k n x kx, k, by kernel_rfl, by kernel_rfl, fun x kx => by kernel_rfl, ?_, fun σ kx => rfl⟩
  rintro n ⟨⟨k0, out3, ⟨⟩⟩, ⟨⟩, ⟨⟩⟩ kx
  kernel_rfl
theorem qo8_ (k : Nat) : FnOK Tryz.prog 49 (qo6_ k) := by
  refine za_ (tab := []) (l := []) z4_ z6_ mix (List.forall_mem_nil _) (List.forall_mem_nil _) ⟨⟨Tryz.f49, (z2_ Tryz.f49), [.tmp 2], (qo5_ k), by kernel_rfl, by kernel_rfl, by kernel_rfl, by kernel_rfl, rfl, by decide, ⟨by kernel_rfl, ?_, ?_⟩, ?_⟩⟩
  · refine zi_ (n := 1) (by kernel_rfl) fun i hi => ?_
    match i, hi with
    | 0, _ => exact ze_ (by kernel_rfl) (qo7_ k)
    | n + 1, hi => omega
  · exact z5_ (by kernel_rfl)
  · rintro k0
    kernel_rfl
def z9g_ (k : Nat) : Nat → Nat → Int → Int → (List (List UInt8 × List (List UInt8) × Int × Int)) → (Int → (List (List UInt8 × List (List UInt8) × Int × Int)) → Option (((Int × Unit) × ((List (List UInt8 × List (List UInt8) × Int × Int)) × Unit) × Unit))) → Option (((Int × Unit) × ((List (List UInt8 × List (List UInt8) × Int × Int)) × Unit) × Unit))
  | 0, _, _, _, _, _ => none
  | n + 1, a0n0, k1, i5, q_2, e_0 => (q_2[a0n0]?).bind fun y_3 => (if (decide (i5 < (List.length y_3.2.1 : Int))) = true then (z3r_ k k1).bind fun r_4 => (q_2[a0n0]?).bind fun y_5 => (if 0 ≤ i5 ∧ i5.toNat < List.length y_5.2.1 then (q_2[a0n0]?).bind fun y_6 => (y_6.2.1[i5.toNat]?).bind fun y_7 => (q_2[a0n0]?).bind fun y_8 => (y_8.2.1[i5.toNat]?).bind fun y_9 => z9g_ k n a0n0 (z0_ (k1 + 1)) (z0_ (i5 + 1)) (q_2.set a0n0 (y_8.1, ((y_8.2.1.set i5.toNat r_4), y_8.2.2))) e_0 else none) else e_0 k1 q_2)
def zf7_ (k : Nat) (a0n0 : Nat) (k1 : Int) (q_1 : List (List UInt8 × List (List UInt8) × Int × Int)) : Option (((Int × Unit) × ((List (List UInt8 × List (List UInt8) × Int × Int)) × Unit) × Unit)) := z9g_ k k a0n0 k1 0 q_1 (fun k_10 q_11 => some ((k_10, ()), (q_11, ()), ()))
def qo9_ : Head := ⟨[(0, (.ref 1000000000 [.ix, .f true, .f false])), (1, (.val (.int .i64))), (5, (.val (.int .i64)))], [(1000000000, 90, (.st (.pr .str (.pr (.sl 9 .str) (.pr (.int .i64) (.int .i64))))), false)], []⟩
def qoa_ : Head := ⟨[(1, (.val (.int .i64)))], [(1000000000, 90, (.st (.pr .str (.pr (.sl 9 .str) (.pr (.int .i64) (.int .i64))))), false)], []⟩
def qob_ (k n : Nat) (x : qo9_.T) (kx : Nat → St → Option (((Int × Unit) × ((List (List UInt8 × List (List UInt8) × Int × Int)) × Unit) × Unit))) : Option (((Int × Unit) × ((List (List UInt8 × List (List UInt8) × Int × Int)) × Unit) × Unit)) := z9g_ k n x.1.1.1 x.1.2.1 x.1.2.2.1 x.2.1.1 (fun (k1 : Int) (q_10 : List (List UInt8 × List (List UInt8) × Int × Int)) => kx 0 (qoa_.fill ((k1, ()), (q_10, ()), ())))
def qoc_ (k : Nat) : Oracles (((Int × Unit) × ((List (List UInt8 × List (List UInt8) × Int × Int)) × Unit) × Unit)) := ⟨fun n => bif Nat.beq n 2 then some (fun σ kx => qo9_.get σ fun x => qob_ k k x kx) else none, fun _ => none⟩
def qod_ : Head := ⟨[(0, (.ref 1000000000 [.ix, .f true, .f false])), (1, (.val (.int .i64)))], [(1000000000, 90, (.st (.pr .str (.pr (.sl 9 .str) (.pr (.int .i64) (.int .i64))))), false)], []⟩
def qoe_ : Head := ⟨[(0, (.val (.int .i64)))], [(1000000000, 90, (.st (.pr .str (.pr (.sl 9 .str) (.pr (.int .i64) (.int .i64))))), false)], []⟩
def qof_ (k : Nat) : OC := ⟨qod_, qoe_, fun x => zf7_ k x.1.1.1 x.1.2.1 x.2.1.1⟩
theorem qog_ (k : Nat) (pins : Nat → Value) (pinB : Nat → Nat) : zd_ (z3_ ti [(49, qo6_ k)] (lk []) pins pinB) (qoc_ k) (rdO (z3_ ti [(49, qo6_ k)] (lk []) pins pinB) [.tmp 4] qoe_) ((zc_ (z2_ Tryz.f11)).getD 0 .skip) (fun σ kx => qo9_.get σ fun x => qob_ k k x kx) := by
  refine ⟨qo9_, [(0, qoa_)], fun n x kx => qob_ k n x kx, k, by kernel_rfl, by kernel_rfl, fun x kx => by kernel_rfl, ?_, fun σ kx => rfl⟩
  rintro n ⟨⟨⟨a0n0, ⟨⟩⟩, k1, i5, ⟨⟩⟩, ⟨q_2, ⟨⟩⟩, ⟨⟩⟩ kx
  kernel_rfl
theorem qoh_ (k : Nat) : z14_ Tryz.prog ti 11 (qof_ k) := by
  refine z2l_ (tab := [(49, qo6_ k)]) (l := []) z4_ z6_ mix (List.forall_mem_cons.2 ⟨qo8_ k, (List.forall_mem_nil _)⟩) (List.forall_mem_nil _) ⟨by kernel_rfl, by kernel_rfl, Tryz.f11, (z2_ Tryz.f11), [.tmp 4], (qoc_ k), by kernel_rfl, by kernel_rfl, by kernel_rfl, by kernel_rfl, Nat.le_of_ble_eq_true (by kernel_rfl), fun pins pinB => ⟨⟨by kernel_rfl, ?_, ?_⟩, ?_⟩⟩
  · refine zi_ (n := 1) (by kernel_rfl) fun i hi => ?_
    match i, hi with
    | 0, _ => exact ze_ (by kernel_rfl) (qog_ k pins pinB)
    | n + 1, hi => omega
  · exact z5_ (by kernel_rfl)
  · rintro ⟨⟨⟨a0n0, ⟨⟩⟩, k1, ⟨⟩⟩, ⟨q_1, ⟨⟩⟩, ⟨⟩⟩
    kernel_rfl
def z9h_ (k : Nat) : Nat → Int → Int → (List (List UInt8 × List (List UInt8) × Int × Int)) → (Int → (List (List UInt8 × List (List UInt8) × Int × Int)) → Option (((Int × Unit) × ((List (List UInt8 × List (List UInt8) × Int × Int)) × Unit) × Unit))) → Option (((Int × Unit) × ((List (List UInt8 × List (List UInt8) × Int × Int)) × Unit) × Unit))
  | 0, _, _, _, _ => none
  | n + 1, k1, i5, q_2, e_0 => (if (decide (i5 < (List.length q_2 : Int))) = true then (z3r_ k k1).bind fun r_3 => (if 0 ≤ i5 ∧ i5.toNat < List.length q_2 then (q_2[i5.toNat]?).bind fun y_4 => (q_2[i5.toNat]?).bind fun y_5 => (if 0 ≤ i5 ∧ i5.toNat < List.length (q_2.set i5.toNat (r_3, y_4.2)) then ((q_2.set i5.toNat (r_3, y_4.2))[i5.toNat]?).bind fun y_6 => (zf7_ k i5.toNat (z0_ (k1 + 1)) (q_2.set i5.toNat (r_3, y_4.2))).bind fun y_7 => (if 0 ≤ i5 ∧ i5.toNat < List.length y_7.2.1.1 then (y_7.2.1.1[i5.toNat]?).bind fun y_8 => (y_7.2.1.1[i5.toNat]?).bind fun y_9 => (if 0 ≤ i5 ∧ i5.toNat < List.length (y_7.2.1.1.set i5.toNat (y_8.1, (y_8.2.1, (y_7.1.1, y_8.2.2.2)))) then ((y_7.2.1.1.set i5.toNat (y_8.1, (y_8.2.1, (y_7.1.1, y_8.2.2.2))))[i5.toNat]?).bind fun y_10 => ((y_7.2.1.1.set i5.toNat (y_8.1, (y_8.2.1, (y_7.1.1, y_8.2.2.2))))[i5.toNat]?).bind fun y_11 => z9h_ k n (z0_ ((z0_ (y_7.1.1 + 1)) + 1)) (z0_ (i5 + 1)) ((y_7.2.1.1.set i5.toNat (y_8.1, (y_8.2.1, (y_7.1.1, y_8.2.2.2)))).set i5.toNat (y_10.1, (y_10.2.1, (y_10.2.2.1, (z0_ (y_7.1.1 + 1)))))) e_0 else none) else none) else none) else none) else e_0 k1 q_2)
def zf8_ (k : Nat) (k1 : Int) (q_1 : List (List UInt8 × List (List UInt8) × Int × Int)) : Option (((Int × Unit) × ((List (List UInt8 × List (List UInt8) × Int × Int)) × Unit) × Unit)) := z9h_ k k k1 0 q_1 (fun k_12 q_13 => some ((k_12, ()), (q_13, ()), ()))
def qoi_ : Head := ⟨[(0, (.ref 1000000000 [])), (1, (.val (.int .i64))), (5, (.val (.int .i64)))], [(1000000000, 90, (.st (.pr .str (.pr (.sl 9 .str) (.pr (.int .i64) (.int .i64))))), false)], []⟩
def qoj_ : Head := ⟨[(1, (.val (.int .i64)))], [(1000000000, 90, (.st (.pr .str (.pr (.sl 9 .str) (.pr (.int .i64) (.int .i64))))), false)], []⟩
def qok_ (k n : Nat) (x : qoi_.T) (kx : Nat → St → Option (((Int × Unit) × ((List (List UInt8 × List (List UInt8) × Int × Int)) × Unit) × Unit))) : Option (((Int × Unit) × ((List (List UInt8 × List (List UInt8) × Int × Int)) × Unit) × Unit)) := z9h_ k n x.1.2.1 x.1.2.2.1 x.2.1.1 (fun (k1 : Int) (q_13 : List (List UInt8 × List (List UInt8) × Int × Int)) => kx 0 (qoj_.fill ((k1, ()), (q_13, ()), ())))
def qol_ (k : Nat) : Oracles (((Int × Unit) × ((List (List UInt8 × List (List UInt8) × Int × Int)) × Unit) × Unit)) := ⟨fun n => bif Nat.beq n 2 then some (fun σ kx => qoi_.get σ fun x => qok_ k k x kx) else none, fun _ => none⟩
def qom_ : Head := ⟨[(0, (.ref 1000000000 [])), (1, (.val (.int .i64)))], [(1000000000, 90, (.st (.pr .str (.pr (.sl 9 .str) (.pr (.int .i64) (.int .i64))))), false)], []⟩
def qon_ : Head := ⟨[(0, (.val (.int .i64)))], [(1000000000, 90, (.st (.pr .str (.pr (.sl 9 .str) (.pr (.int .i64) (.int .i64))))), false)], []⟩
def qoo_ (k : Nat) : OC := ⟨qom_, qon_, fun x => zf8_ k x.1.2.1 x.2.1.1⟩
theorem qop_ (k : Nat) (pins : Nat → Value) (pinB : Nat → Nat) : zd_ (z3_ ti [(49, qo6_ k)] (lk [(26, 11, qof_ k)]) pins pinB) (qol_ k) (rdO (z3_ ti [(49, qo6_ k)] (lk [(26, 11, qof_ k)]) pins pinB) [.tmp 4] qon_) ((zc_ (z2_ Tryz.f48)).getD 0 .skip) (fun σ kx => qoi_.get σ fun x => qok_ k k x kx) := by
  refine ⟨qoi_, [(0, qoj_)], fun n x kx => qok_ k n x kx, k, by kernel_rfl, by kernel_rfl, fun x kx => by kernel_rfl, ?_, fun σ kx => rfl⟩
  rintro n ⟨⟨⟨⟩, k1, i5, ⟨⟩⟩, ⟨q_2, ⟨⟩⟩, ⟨⟩⟩ kx
  kernel_rfl
theorem qoq_ (k : Nat) : z14_ Tryz.prog ti 48 (qoo_ k) := by
  refine z2l_ (tab := [(49, qo6_ k)]) (l := [(26, 11, qof_ k)]) z4_ z6_ mix (List.forall_mem_cons.2 ⟨qo8_ k, (List.forall_mem_nil _)⟩) (List.forall_mem_cons.2 ⟨qoh_ k, (List.forall_mem_nil _)⟩) ⟨by kernel_rfl, by kernel_rfl, Tryz.f48, (z2_ Tryz.f48), [.tmp 4], (qol_ k), by kernel_rfl, by kernel_rfl, by kernel_rfl, by kernel_rfl, Nat.le_of_ble_eq_true (by kernel_rfl), fun pins pinB => ⟨⟨by kernel_rfl, ?_, ?_⟩, ?_⟩⟩
  · refine zi_ (n := 1) (by kernel_rfl) fun i hi => ?_
    match i, hi with
    | 0, _ => exact ze_ (by kernel_rfl) (qop_ k pins pinB)
    | n + 1, hi => omega
  · exact z5_ (by kernel_rfl)
  · rintro ⟨⟨⟨⟩, k1, ⟨⟩⟩, ⟨q_1, ⟨⟩⟩, ⟨⟩⟩
    kernel_rfl
def zf9_ (k : Nat) (a0aba : Int) (a0bbaa : Int) (a0bbbbaa : Int) (a0bbbbaba : Int) (a0bbbbabba : Int) (k1 : Int) (q_1 : List (List Int)) (q_2 : List Int) (q_3 : List (Int × Int × Int × List Int)) (q_4 : List Int) (q_5 : List (Int × Int × Int)) (q_6 : List Int) (q_7 : List Int) (q_8 : List (List Int × List (List Int))) (q_9 : List (List Int)) (q_10 : List Int) (q_11 : List (List UInt8 × List (List UInt8) × Int × Int)) : Option (((Int × Unit) × ((List (List UInt8 × List (List UInt8) × Int × Int)) × (List Int) × (List (List Int)) × (List (List Int × List (List Int))) × (List Int) × (List Int) × (List (Int × Int × Int)) × (List Int) × (List (Int × Int × Int × List Int)) × (List Int) × (List (List Int)) × Unit) × Unit)) := (zj3_ k a0aba k1 q_1 q_2 q_3).bind fun y_12 => (z67_ k y_12.1.1 q_4).bind fun y_13 => (zj4_ k a0bbaa y_13.1.1 q_5).bind fun y_14 => (z67_ k y_14.1.1 q_6).bind fun y_15 => (zj5_ k a0bbbbaa a0bbbbaba a0bbbbabba y_15.1.1 q_7).bind fun y_16 => (zf6_ k y_16.1.1 q_8).bind fun y_17 => (zj6_ k y_17.1.1 q_9 q_10).bind fun y_18 => (zf8_ k y_18.1.1 q_11).bind fun y_19 => some ((y_19.1.1, ()), (y_19.2.1.1, y_18.2.1.1, y_18.2.1.2.1, y_17.2.1.1, y_16.2.1.1, y_15.2.1.1, y_14.2.1.1, y_13.2.1.1, y_12.2.1.1, y_12.2.1.2.1, y_12.2.1.2.2.1, ()), ())
def qor_ : Head := ⟨[(0, (.st (.pr (.st (.pr (.st (.ref 1000000000 [])) (.pr (.val (.int .i64)) (.pr (.ref 1000000001 []) (.ref 1000000002 []))))) (.pr (.ref 1000000003 []) (.pr (.st (.pr (.val (.int .i64)) (.ref 1000000004 []))) (.pr (.ref 1000000005 []) (.pr (.st (.pr (.val (.int .i64)) (.pr (.val (.int .i64)) (.pr (.val (.int .i64)) (.ref 1000000006 []))))) (.pr (.ref 1000000007 []) (.pr (.st (.pr (.st (.ref 1000000008 [])) (.ref 1000000009 []))) (.ref 1000000010 [])))))))))), (1, (.val (.int .i64)))], [(1000000000, 25, (.sl 2 (.int .i64)), false), (1000000001, 2, (.int .i64), false), (1000000002, 51, (.st (.pr (.int .i64) (.pr (.int .i64) (.pr (.int .i64) (.sl 2 (.int .i64)))))), false), (1000000003, 2, (.int .i64), false), (1000000004, 157, (.st (.pr (.int .i64) (.pr (.int .i64) (.int .i64)))), false), (1000000005, 2, (.int .i64), false), (1000000006, 2, (.int .i64), false), (1000000007, 87, (.st (.pr (.sl 2 (.int .i64)) (.sl 25 (.sl 2 (.int .i64))))), false), (1000000008, 25, (.sl 2 (.int .i64)), false), (1000000009, 2, (.int .i64), false), (1000000010, 90, (.st (.pr .str (.pr (.sl 9 .str) (.pr (.int .i64) (.int .i64))))), false)], []⟩
def qos_ : Head := ⟨[(0, (.val (.int .i64)))], [(1000000010, 90, (.st (.pr .str (.pr (.sl 9 .str) (.pr (.int .i64) (.int .i64))))), false), (1000000009, 2, (.int .i64), false), (1000000008, 25, (.sl 2 (.int .i64)), false), (1000000007, 87, (.st (.pr (.sl 2 (.int .i64)) (.sl 25 (.sl 2 (.int .i64))))), false), (1000000006, 2, (.int .i64), false), (1000000005, 2, (.int .i64), false), (1000000004, 157, (.st (.pr (.int .i64) (.pr (.int .i64) (.int .i64)))), false), (1000000003, 2, (.int .i64), false), (1000000002, 51, (.st (.pr (.int .i64) (.pr (.int .i64) (.pr (.int .i64) (.sl 2 (.int .i64)))))), false), (1000000001, 2, (.int .i64), false), (1000000000, 25, (.sl 2 (.int .i64)), false)], []⟩
def qot_ (k : Nat) : OC := ⟨qor_, qos_, fun x => zf9_ k x.1.1.1.2.1 x.1.1.2.2.1.1 x.1.1.2.2.2.2.1.1 x.1.1.2.2.2.2.1.2.1 x.1.1.2.2.2.2.1.2.2.1 x.1.2.1 x.2.1.1 x.2.1.2.1 x.2.1.2.2.1 x.2.1.2.2.2.1 x.2.1.2.2.2.2.1 x.2.1.2.2.2.2.2.1 x.2.1.2.2.2.2.2.2.1 x.2.1.2.2.2.2.2.2.2.1 x.2.1.2.2.2.2.2.2.2.2.1 x.2.1.2.2.2.2.2.2.2.2.2.1 x.2.1.2.2.2.2.2.2.2.2.2.2.1⟩
theorem qou_ (k : Nat) : z14_ Tryz.prog ti 10 (qot_ k) := by
  refine z2l_ (tab := []) (l := [(8, 42, qmx_ k), (12, 43, qma_ k), (16, 44, qna_ k), (20, 43, qma_ k), (24, 45, qne_ k), (28, 46, qnv_ k), (32, 47, qo0_ k), (36, 48, qoo_ k)]) z4_ z6_ mix (List.forall_mem_nil _) (List.forall_mem_cons.2 ⟨qmy_ k, (List.forall_mem_cons.2 ⟨qmc_ k, (List.forall_mem_cons.2 ⟨qnb_ k, (List.forall_mem_cons.2 ⟨qmc_ k, (List.forall_mem_cons.2 ⟨qnf_ k, (List.forall_mem_cons.2 ⟨qnx_ k, (List.forall_mem_cons.2 ⟨qo1_ k, (List.forall_mem_cons.2 ⟨qoq_ k, (List.forall_mem_nil _)⟩)⟩)⟩)⟩)⟩)⟩)⟩)⟩) ⟨by kernel_rfl, by kernel_rfl, Tryz.f10, (z2_ Tryz.f10), [.tmp 4], (LOn (((Int × Unit) × ((List (List UInt8 × List (List UInt8) × Int × Int)) × (List Int) × (List (List Int)) × (List (List Int × List (List Int))) × (List Int) × (List Int) × (List (Int × Int × Int)) × (List Int) × (List (Int × Int × Int × List Int)) × (List Int) × (List (List Int)) × Unit) × Unit))), by kernel_rfl, by kernel_rfl, by kernel_rfl, by kernel_rfl, Nat.le_of_ble_eq_true (by kernel_rfl), fun pins pinB => ⟨⟨by kernel_rfl, ?_, ?_⟩, ?_⟩⟩
  · exact zf_ (by kernel_rfl)
  · exact z5_ (by kernel_rfl)
  · rintro ⟨⟨⟨⟨⟨⟩, ⟨a0aba, ⟨⟨⟩, ⟨⟩⟩⟩⟩, ⟨⟨⟩, ⟨⟨a0bbaa, ⟨⟩⟩, ⟨⟨⟩, ⟨⟨a0bbbbaa, ⟨a0bbbbaba, ⟨a0bbbbabba, ⟨⟩⟩⟩⟩, ⟨⟨⟩, ⟨⟨⟨⟩, ⟨⟩⟩, ⟨⟩⟩⟩⟩⟩⟩⟩⟩, k1, ⟨⟩⟩, ⟨q_1, q_2, q_3, q_4, q_5, q_6, q_7, q_8, q_9, q_10, q_11, ⟨⟩⟩, ⟨⟩⟩
    kernel_rfl
def z9i_ (k : Nat) : Nat → Int → Int → (List (List UInt8)) → (Int → (List (List UInt8)) → Option (((Int × Unit) × ((List (List UInt8)) × Unit) × Unit))) → Option (((Int × Unit) × ((List (List UInt8)) × Unit) × Unit))
  | 0, _, _, _, _ => none
  | n + 1, k1, i5, q_2, e_0 => (if (decide (i5 < (List.length q_2 : Int))) = true then (z3r_ k k1).bind fun r_3 => (if 0 ≤ i5 ∧ i5.toNat < List.length q_2 then (q_2[i5.toNat]?).bind fun y_4 => (q_2[i5.toNat]?).bind fun y_5 => z9i_ k n (z0_ (k1 + 1)) (z0_ (i5 + 1)) (q_2.set i5.toNat r_3) e_0 else none) else e_0 k1 q_2)
def zfa_ (k : Nat) (k1 : Int) (q_1 : List (List UInt8)) : Option (((Int × Unit) × ((List (List UInt8)) × Unit) × Unit)) := z9i_ k k k1 0 q_1 (fun k_6 q_7 => some ((k_6, ()), (q_7, ()), ()))
def qov_ : Head := ⟨[(0, (.ref 1000000000 [])), (1, (.val (.int .i64))), (5, (.val (.int .i64)))], [(1000000000, 9, .str, false)], []⟩
def qow_ : Head := ⟨[(1, (.val (.int .i64)))], [(1000000000, 9, .str, false)], []⟩
def qox_ (k n : Nat) (x : qov_.T) (kx : Nat → St → Option (((Int × Unit) × ((List (List UInt8)) × Unit) × Unit))) : Option (((Int × Unit) × ((List (List UInt8)) × Unit) × Unit)) := z9i_ k n x.1.2.1 x.1.2.2.1 x.2.1.1 (fun (k1 : Int) (q_6 : List (List UInt8)) => kx 0 (qow_.fill ((k1, ()), (q_6, ()), ())))
def qoy_ (k : Nat) : Oracles (((Int × Unit) × ((List (List UInt8)) × Unit) × Unit)) := ⟨fun n => bif Nat.beq n 2 then some (fun σ kx => qov_.get σ fun x => qox_ k k x kx) else none, fun _ => none⟩
def qoz_ : Head := ⟨[(0, (.ref 1000000000 [])), (1, (.val (.int .i64)))], [(1000000000, 9, .str, false)], []⟩
def qp0_ : Head := ⟨[(0, (.val (.int .i64)))], [(1000000000, 9, .str, false)], []⟩
def qp1_ (k : Nat) : OC := ⟨qoz_, qp0_, fun x => zfa_ k x.1.2.1 x.2.1.1⟩
theorem qp2_ (k : Nat) (pins : Nat → Value) (pinB : Nat → Nat) : zd_ (z3_ ti [(49, qo6_ k)] (lk []) pins pinB) (qoy_ k) (rdO (z3_ ti [(49, qo6_ k)] (lk []) pins pinB) [.tmp 4] qp0_) ((zc_ (z2_ Tryz.f11)).getD 0 .skip) (fun σ kx => qov_.get σ fun x => qox_ k k x kx) := by
  refine ⟨qov_, [(0, qow_)], fun n x kx => qox_ k n x kx, k, by kernel_rfl, by kernel_rfl, fun x kx => by kernel_rfl, ?_, fun σ kx => rfl⟩
  rintro n ⟨⟨⟨⟩, k1, i5, ⟨⟩⟩, ⟨q_2, ⟨⟩⟩, ⟨⟩⟩ kx
  kernel_rfl
theorem qp3_ (k : Nat) : z14_ Tryz.prog ti 11 (qp1_ k) := by
  refine z2l_ (tab := [(49, qo6_ k)]) (l := []) z4_ z6_ mix (List.forall_mem_cons.2 ⟨qo8_ k, (List.forall_mem_nil _)⟩) (List.forall_mem_nil _) ⟨by kernel_rfl, by kernel_rfl, Tryz.f11, (z2_ Tryz.f11), [.tmp 4], (qoy_ k), by kernel_rfl, by kernel_rfl, by kernel_rfl, by kernel_rfl, Nat.le_of_ble_eq_true (by kernel_rfl), fun pins pinB => ⟨⟨by kernel_rfl, ?_, ?_⟩, ?_⟩⟩
  · refine zi_ (n := 1) (by kernel_rfl) fun i hi => ?_
    match i, hi with
    | 0, _ => exact ze_ (by kernel_rfl) (qp2_ k pins pinB)
    | n + 1, hi => omega
  · exact z5_ (by kernel_rfl)
  · rintro ⟨⟨⟨⟩, k1, ⟨⟩⟩, ⟨q_1, ⟨⟩⟩, ⟨⟩⟩
    kernel_rfl
def z9j_ (k : Nat) : Nat → (List (List UInt8)) → Int → Int → (Int → Option Int) → Option Int
  | 0, _, _, _, _ => none
  | n + 1, a0, k1, i5, e_0 => (if (decide (i5 < (List.length a0 : Int))) = true then (if 0 ≤ i5 then (a0[i5.toNat]?).bind fun y_1 => (z3r_ k k1).bind fun r_2 => (if (!(decide (y_1 = r_2))) = true then some (-1) else z9j_ k n a0 (z0_ (k1 + 1)) (z0_ (i5 + 1)) e_0) else none) else e_0 k1)
def zc5_ (k : Nat) (a0 : List (List UInt8)) (k1 : Int) : Option Int := z9j_ k k a0 k1 0 (fun k_3 => some k_3)
def qp4_ : Head := ⟨[(0, (.val (.sl 9 .str))), (1, (.val (.int .i64))), (5, (.val (.int .i64)))], [], []⟩
def qp5_ : Head := ⟨[(1, (.val (.int .i64)))], [], []⟩
def qp6_ (k n : Nat) (x : qp4_.T) (kx : Nat → St → Option Int) : Option Int := z9j_ k n x.1.1 x.1.2.1 x.1.2.2.1 (fun (k1 : Int) => kx 0 (qp5_.fill ((k1, ()), (), ())))
def qp7_ (k : Nat) : Oracles Int := ⟨fun n => bif Nat.beq n 2 then some (fun σ kx => qp4_.get σ fun x => qp6_ k k x kx) else none, fun _ => none⟩
def qp8_ (k : Nat) : FE := ⟨(.pr (.sl 9 .str) (.int .i64)), 1, (.int .i64), fun x => zc5_ k x.1 x.2⟩
theorem qp9_ (k : Nat) : zd_ (z3_ ti [(49, qo6_ k)] (lk []) z7_ z8_) (qp7_ k) (rdC (z3_ ti [(49, qo6_ k)] (lk []) z7_ z8_) [.tmp 4] (.int .i64)) ((zc_ (z2_ Tryz.f12)).getD 0 .skip) (fun σ kx => qp4_.get σ fun x => qp6_ k k x kx) := by
  refine ⟨qp4_, [(0, qp5_)], fun n x kx => qp6_ k n x kx, k, by kernel_rfl, by kernel_rfl, fun x kx => by kernel_rfl, ?_, fun σ kx => rfl⟩
  rintro n ⟨⟨a0, k1, i5, ⟨⟩⟩, ⟨⟩, ⟨⟩⟩ kx
  kernel_rfl
theorem qpa_ (k : Nat) : FnOK Tryz.prog 12 (qp8_ k) := by
  refine za_ (tab := [(49, qo6_ k)]) (l := []) z4_ z6_ mix (List.forall_mem_cons.2 ⟨qo8_ k, (List.forall_mem_nil _)⟩) (List.forall_mem_nil _) ⟨⟨Tryz.f12, (z2_ Tryz.f12), [.tmp 4], (qp7_ k), by kernel_rfl, by kernel_rfl, by kernel_rfl, by kernel_rfl, rfl, by decide, ⟨by kernel_rfl, ?_, ?_⟩, ?_⟩⟩
  · refine zi_ (n := 1) (by kernel_rfl) fun i hi => ?_
    match i, hi with
    | 0, _ => exact ze_ (by kernel_rfl) (qp9_ k)
    | n + 1, hi => omega
  · exact z5_ (by kernel_rfl)
  · rintro ⟨a0, k1⟩
    kernel_rfl
def zfb_ (k : Nat) (aD0 : (List (List Int) × Int × List Int × List (Int × Int × Int × List Int)) × List Int × (Int × List (Int × Int × Int)) × List Int × (Int × Int × Int × List Int) × (List (List Int × List (List Int))) × (List (List Int) × List Int) × List (List UInt8 × List (List UInt8) × Int × Int)) : Option Bool := (zem_ k aD0 1048576).bind fun r_1 => (if (decide (r_1 < 0)) = true then some true else (z79_ k aD0).bind fun r_2 => (zfc_ k ((r_2.1.1, (r_2.1.2.1, (r_2.1.2.2.1, r_2.1.2.2.2))), (r_2.2.1, ((r_2.2.2.1.1, r_2.2.2.1.2), (r_2.2.2.2.1, ((r_2.2.2.2.2.1.1, (r_2.2.2.2.2.1.2.1, (r_2.2.2.2.2.1.2.2.1, r_2.2.2.2.2.1.2.2.2))), (r_2.2.2.2.2.2.1, ((r_2.2.2.2.2.2.2.1.1, r_2.2.2.2.2.2.2.1.2), r_2.2.2.2.2.2.2.2)))))))).bind fun r_3 => (z79_ k aD0).bind fun r_4 => (zc6_ k ((r_4.1.1, (r_4.1.2.1, (r_4.1.2.2.1, r_4.1.2.2.2))), (r_4.2.1, ((r_4.2.2.1.1, r_4.2.2.1.2), (r_4.2.2.2.1, ((r_4.2.2.2.2.1.1, (r_4.2.2.2.2.1.2.1, (r_4.2.2.2.2.1.2.2.1, r_4.2.2.2.2.1.2.2.2))), (r_4.2.2.2.2.2.1, ((r_4.2.2.2.2.2.2.1.1, r_4.2.2.2.2.2.2.1.2), r_4.2.2.2.2.2.2.2)))))))).bind fun r_5 => (z77_ k r_5.1 r_3.1).bind fun r_6 => (if (!r_6) = true then some false else (if (!(decide (r_5.2 = r_3.2))) = true then some false else (z79_ k aD0).bind fun r_7 => (zf0_ k ((r_4.1.1, (r_4.1.2.1, (r_4.1.2.2.1, r_4.1.2.2.2))), (r_4.2.1, ((r_4.2.2.1.1, r_4.2.2.1.2), (r_4.2.2.2.1, ((r_4.2.2.2.2.1.1, (r_4.2.2.2.2.1.2.1, (r_4.2.2.2.2.1.2.2.1, r_4.2.2.2.2.1.2.2.2))), (r_4.2.2.2.2.2.1, ((r_4.2.2.2.2.2.2.1.1, r_4.2.2.2.2.2.2.1.2), r_4.2.2.2.2.2.2.2))))))) ((r_7.1.1, (r_7.1.2.1, (r_7.1.2.2.1, r_7.1.2.2.2))), (r_7.2.1, ((r_7.2.2.1.1, r_7.2.2.1.2), (r_7.2.2.2.1, ((r_7.2.2.2.2.1.1, (r_7.2.2.2.2.1.2.1, (r_7.2.2.2.2.1.2.2.1, r_7.2.2.2.2.1.2.2.2))), (r_7.2.2.2.2.2.1, ((r_7.2.2.2.2.2.2.1.1, r_7.2.2.2.2.2.2.1.2), r_7.2.2.2.2.2.2.2)))))))).bind fun r_8 => (if (!r_8) = true then some false else (zf9_ k r_4.1.2.1 r_4.2.2.1.1 r_4.2.2.2.2.1.1 r_4.2.2.2.2.1.2.1 r_4.2.2.2.2.1.2.2.1 1 r_4.1.1 r_4.1.2.2.1 r_4.1.2.2.2 r_4.2.1 r_4.2.2.1.2 r_4.2.2.2.1 r_4.2.2.2.2.1.2.2.2 r_4.2.2.2.2.2.1 r_4.2.2.2.2.2.2.1.1 r_4.2.2.2.2.2.2.1.2 r_4.2.2.2.2.2.2.2).bind fun y_9 => (if (decide (y_9.1.1 < 0)) = true then some false else (z77_ k r_5.1 r_3.1).bind fun r_10 => (if (!r_10) = true then some false else (if (!(decide (r_5.2 = r_3.2))) = true then some false else (zfa_ k 1 r_5.1).bind fun y_11 => (zc5_ k y_11.2.1.1 1).bind fun r_12 => (if (decide (r_12 < 0)) = true then some false else (if (!(decide (r_12 = y_11.1.1))) = true then some false else (z79_ k aD0).bind fun r_13 => (zc6_ k ((r_13.1.1, (r_13.1.2.1, (r_13.1.2.2.1, r_13.1.2.2.2))), (r_13.2.1, ((r_13.2.2.1.1, r_13.2.2.1.2), (r_13.2.2.2.1, ((r_13.2.2.2.2.1.1, (r_13.2.2.2.2.1.2.1, (r_13.2.2.2.2.1.2.2.1, r_13.2.2.2.2.1.2.2.2))), (r_13.2.2.2.2.2.1, ((r_13.2.2.2.2.2.2.1.1, r_13.2.2.2.2.2.2.1.2), r_13.2.2.2.2.2.2.2)))))))).bind fun r_14 => (z77_ k r_14.1 r_3.1).bind fun r_15 => (if (!r_15) = true then some false else (if (!(decide (r_14.2 = r_3.2))) = true then some false else (zc5_ k y_11.2.1.1 1).bind fun r_16 => (if (decide (r_16 < 0)) = true then some false else (if (!(decide (r_16 = y_11.1.1))) = true then some false else some true)))))))))))))
def qpb_ (k : Nat) : FE := ⟨(.st (.pr (.st (.pr (.st (.sl 25 (.sl 2 (.int .i64)))) (.pr (.int .i64) (.pr (.sl 2 (.int .i64)) (.sl 33 (.st (.pr (.int .i64) (.pr (.int .i64) (.pr (.int .i64) (.sl 2 (.int .i64))))))))))) (.pr (.sl 2 (.int .i64)) (.pr (.st (.pr (.int .i64) (.sl 166 (.st (.pr (.int .i64) (.pr (.int .i64) (.int .i64))))))) (.pr (.sl 2 (.int .i64)) (.pr (.st (.pr (.int .i64) (.pr (.int .i64) (.pr (.int .i64) (.sl 2 (.int .i64)))))) (.pr (.sl 109 (.st (.pr (.sl 2 (.int .i64)) (.sl 25 (.sl 2 (.int .i64)))))) (.pr (.st (.pr (.st (.sl 25 (.sl 2 (.int .i64)))) (.sl 2 (.int .i64)))) (.sl 111 (.st (.pr .str (.pr (.sl 9 .str) (.pr (.int .i64) (.int .i64)))))))))))))), 1, .bool, fun x => zfb_ k x⟩
theorem zu1_ (k : Nat) : FnOK Tryz.prog 3 (qpb_ k) := by
  refine za_ (tab := [(4, q1h_ k), (6, q3c_ k), (5, qa1_ k), (7, qjk_ k), (8, qjr_ k), (9, qlg_ k), (12, qp8_ k)]) (l := [(48, 10, qot_ k), (64, 11, qp1_ k)]) z4_ z6_ mix (List.forall_mem_cons.2 ⟨q1i_ k, (List.forall_mem_cons.2 ⟨q3d_ k, (List.forall_mem_cons.2 ⟨qa3_ k, (List.forall_mem_cons.2 ⟨qjm_ k, (List.forall_mem_cons.2 ⟨qjt_ k, (List.forall_mem_cons.2 ⟨qlh_ k, (List.forall_mem_cons.2 ⟨qpa_ k, (List.forall_mem_nil _)⟩)⟩)⟩)⟩)⟩)⟩)⟩) (List.forall_mem_cons.2 ⟨qou_ k, (List.forall_mem_cons.2 ⟨qp3_ k, (List.forall_mem_nil _)⟩)⟩) ⟨⟨Tryz.f3, (z2_ Tryz.f3), [.tmp 2], (LOn Bool), by kernel_rfl, by kernel_rfl, by kernel_rfl, by kernel_rfl, rfl, by decide, ⟨by kernel_rfl, ?_, ?_⟩, ?_⟩⟩
  · exact zf_ (by kernel_rfl)
  · exact z5_ (by kernel_rfl)
  · rintro aD0
    kernel_rfl
end
end Go.Proofs.YtckbclbmkklaoaaGreatDoor.Ev
