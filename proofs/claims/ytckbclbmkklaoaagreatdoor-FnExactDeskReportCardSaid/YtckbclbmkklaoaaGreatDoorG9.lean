/- Functions of the program, as zl_ ones. No conditions. -/
import Derived.Test.YtckbclbmkklaoaaGreatDoorG8
import Derived.KernelRfl
set_option linter.unusedVariables false
set_option maxRecDepth 100000
namespace Go.Proofs.YtckbclbmkklaoaaGreatDoor.Ev
open Go.RowKit
noncomputable section
def zk2_ (k : Nat) (n0 : List UInt8) (x1 : List (List UInt8)) : Option Bool := (zal_ k x1 n0).bind fun r_1 => some (!r_1)
def qhp_ (k : Nat) : FE := ⟨(.pr .str (.ptr (.sl 9 .str))), 1, .bool, fun x => zk2_ k x.1 x.2⟩
theorem qhq_ (k : Nat) : FnOK Tryz.prog 166 (qhp_ k) := by
  refine za_ (tab := [(127, qhc_ k)]) (l := []) z4_ z6_ mix (List.forall_mem_cons.2 ⟨qhd_ k, (List.forall_mem_nil _)⟩) (List.forall_mem_nil _) ⟨⟨Tryz.f166, (z2_ Tryz.f166), [.tmp 3], (LOn Bool), by kernel_rfl, by kernel_rfl, by kernel_rfl, by kernel_rfl, rfl, by decide, ⟨by kernel_rfl, ?_, ?_⟩, ?_⟩⟩
  · exact zf_ (by kernel_rfl)
  · exact z5_ (by kernel_rfl)
  · rintro ⟨n0, x1⟩
    kernel_rfl
def zan_ (k : Nat) : Nat → (List (List UInt8)) → (List (List UInt8)) → Int → Int → (Option Int) → Option Int
  | 0, _, _, _, _, _ => none
  | n + 1, s0, f1, x7, x8, e_0 => (if (decide (x8 < x7)) = true then (if 0 ≤ x8 then (s0[x8.toNat]?).bind fun y_1 => (zk2_ k y_1 f1).bind fun r_2 => (if r_2 = true then some x8 else zan_ k n s0 f1 x7 (z0_ (x8 + 1)) e_0) else none) else e_0)
def zk3_ (k : Nat) (s0 : List (List UInt8)) (f1 : List (List UInt8)) : Option Int := zan_ k k s0 f1 (List.length s0 : Int) 0 (some (-1))
def qhr_ : Head := ⟨[(0, (.val (.sl 9 .str))), (1, (.val (.fn 166 (.ptr (.sl 9 .str))))), (7, (.val (.int .i64))), (8, (.val (.int .i64)))], [], []⟩
def qhs_ : Head := ⟨[], [], []⟩
def qht_ (k n : Nat) (x : qhr_.T) (kx : Nat → St → Option Int) : Option Int := zan_ k n x.1.1 x.1.2.1 x.1.2.2.1 x.1.2.2.2.1 (kx 0 (qhs_.fill ((), (), ())))
def qhu_ (k : Nat) : Oracles Int := ⟨fun n => bif Nat.beq n 2 then some (fun σ kx => qhr_.get σ fun x => qht_ k k x kx) else none, fun _ => none⟩
def qhv_ (k : Nat) : FE := ⟨(.pr (.sl 9 .str) (.fn 166 (.ptr (.sl 9 .str)))), 1, (.int .i64), fun x => zk3_ k x.1 x.2⟩
theorem qhw_ (k : Nat) : zd_ (z3_ ti [(166, qhp_ k)] (lk []) z7_ z8_) (qhu_ k) (rdC (z3_ ti [(166, qhp_ k)] (lk []) z7_ z8_) [.tmp 4] (.int .i64)) ((zc_ (z2_ Tryz.f162)).getD 0 .skip) (fun σ kx => qhr_.get σ fun x => qht_ k k x kx) := by
  refine ⟨qhr_, [(0, qhs_)], fun n x kx => qht_ k n x kx, k, by kernel_rfl, by kernel_rfl, fun x kx => by kernel_rfl, ?_, fun σ kx => rfl⟩
  rintro n ⟨⟨s0, f1, x7, x8, ⟨⟩⟩, ⟨⟩, ⟨⟩⟩ kx
  kernel_rfl
theorem qhx_ (k : Nat) : FnOK Tryz.prog 162 (qhv_ k) := by
  refine za_ (tab := [(166, qhp_ k)]) (l := []) z4_ z6_ mix (List.forall_mem_cons.2 ⟨qhq_ k, (List.forall_mem_nil _)⟩) (List.forall_mem_nil _) ⟨⟨Tryz.f162, (z2_ Tryz.f162), [.tmp 4], (qhu_ k), by kernel_rfl, by kernel_rfl, by kernel_rfl, by kernel_rfl, rfl, by decide, ⟨by kernel_rfl, ?_, ?_⟩, ?_⟩⟩
  · refine zi_ (n := 1) (by kernel_rfl) fun i hi => ?_
    match i, hi with
    | 0, _ => exact ze_ (by kernel_rfl) (qhw_ k)
    | n + 1, hi => omega
  · exact z5_ (by kernel_rfl)
  · rintro ⟨s0, f1⟩
    kernel_rfl
def zgs_ (k : Nat) (s0 : List (List UInt8)) (f1 : List (List UInt8)) : Option Bool := (zk3_ k s0 f1).bind fun r_1 => some (decide (0 ≤ r_1))
def qhy_ (k : Nat) : FE := ⟨(.pr (.sl 9 .str) (.fn 166 (.ptr (.sl 9 .str)))), 1, .bool, fun x => zgs_ k x.1 x.2⟩
theorem qhz_ (k : Nat) : FnOK Tryz.prog 125 (qhy_ k) := by
  refine za_ (tab := [(162, qhv_ k)]) (l := []) z4_ z6_ mix (List.forall_mem_cons.2 ⟨qhx_ k, (List.forall_mem_nil _)⟩) (List.forall_mem_nil _) ⟨⟨Tryz.f125, (z2_ Tryz.f125), [.tmp 4], (LOn Bool), by kernel_rfl, by kernel_rfl, by kernel_rfl, by kernel_rfl, rfl, by decide, ⟨by kernel_rfl, ?_, ?_⟩, ?_⟩⟩
  · exact zf_ (by kernel_rfl)
  · exact z5_ (by kernel_rfl)
  · rintro ⟨s0, f1⟩
    kernel_rfl
def zgt_ (k : Nat) (x0 : List UInt8 × List (List UInt8) × Int × Int) (x1 : List (List UInt8)) : Option Bool := (zal_ k x1 x0.1).bind fun r_1 => (if (!r_1) = true then (zgs_ k x0.2.1 x1).bind fun r_2 => some (!r_2) else some false)
def qi0_ (k : Nat) : FE := ⟨(.pr (.st (.pr .str (.pr (.sl 9 .str) (.pr (.int .i64) (.int .i64))))) (.ptr (.sl 9 .str))), 1, .bool, fun x => zgt_ k x.1 x.2⟩
theorem qi1_ (k : Nat) : FnOK Tryz.prog 165 (qi0_ k) := by
  refine za_ (tab := [(127, qhc_ k), (125, qhy_ k)]) (l := []) z4_ z6_ mix (List.forall_mem_cons.2 ⟨qhd_ k, (List.forall_mem_cons.2 ⟨qhz_ k, (List.forall_mem_nil _)⟩)⟩) (List.forall_mem_nil _) ⟨⟨Tryz.f165, (z2_ Tryz.f165), [.tmp 3], (LOn Bool), by kernel_rfl, by kernel_rfl, by kernel_rfl, by kernel_rfl, rfl, by decide, ⟨by kernel_rfl, ?_, ?_⟩, ?_⟩⟩
  · exact zf_ (by kernel_rfl)
  · exact z5_ (by kernel_rfl)
  · rintro ⟨x0, x1⟩
    kernel_rfl
def zao_ (k : Nat) : Nat → (List (List UInt8 × List (List UInt8) × Int × Int)) → (List (List UInt8)) → Int → Int → (Option Int) → Option Int
  | 0, _, _, _, _, _ => none
  | n + 1, s0, f1, x7, x8, e_0 => (if (decide (x8 < x7)) = true then (if 0 ≤ x8 then (s0[x8.toNat]?).bind fun y_1 => (zgt_ k y_1 f1).bind fun r_2 => (if r_2 = true then some x8 else zao_ k n s0 f1 x7 (z0_ (x8 + 1)) e_0) else none) else e_0)
def zgu_ (k : Nat) (s0 : List (List UInt8 × List (List UInt8) × Int × Int)) (f1 : List (List UInt8)) : Option Int := zao_ k k s0 f1 (List.length s0 : Int) 0 (some (-1))
def qi2_ : Head := ⟨[(0, (.val (.sl 90 (.st (.pr .str (.pr (.sl 9 .str) (.pr (.int .i64) (.int .i64)))))))), (1, (.val (.fn 165 (.ptr (.sl 9 .str))))), (7, (.val (.int .i64))), (8, (.val (.int .i64)))], [], []⟩
def qi3_ : Head := ⟨[], [], []⟩
def qi4_ (k n : Nat) (x : qi2_.T) (kx : Nat → St → Option Int) : Option Int := zao_ k n x.1.1 x.1.2.1 x.1.2.2.1 x.1.2.2.2.1 (kx 0 (qi3_.fill ((), (), ())))
def qi5_ (k : Nat) : Oracles Int := ⟨fun n => bif Nat.beq n 2 then some (fun σ kx => qi2_.get σ fun x => qi4_ k k x kx) else none, fun _ => none⟩
def qi6_ (k : Nat) : FE := ⟨(.pr (.sl 90 (.st (.pr .str (.pr (.sl 9 .str) (.pr (.int .i64) (.int .i64)))))) (.fn 165 (.ptr (.sl 9 .str)))), 1, (.int .i64), fun x => zgu_ k x.1 x.2⟩
theorem qi7_ (k : Nat) : zd_ (z3_ ti [(165, qi0_ k)] (lk []) z7_ z8_) (qi5_ k) (rdC (z3_ ti [(165, qi0_ k)] (lk []) z7_ z8_) [.tmp 4] (.int .i64)) ((zc_ (z2_ Tryz.f164)).getD 0 .skip) (fun σ kx => qi2_.get σ fun x => qi4_ k k x kx) := by
  refine ⟨qi2_, [(0, qi3_)], fun n x kx => qi4_ k n x kx, k, by kernel_rfl, by kernel_rfl, fun x kx => by kernel_rfl, ?_, fun σ kx => rfl⟩
  rintro n ⟨⟨s0, f1, x7, x8, ⟨⟩⟩, ⟨⟩, ⟨⟩⟩ kx
  kernel_rfl
theorem qi8_ (k : Nat) : FnOK Tryz.prog 164 (qi6_ k) := by
  refine za_ (tab := [(165, qi0_ k)]) (l := []) z4_ z6_ mix (List.forall_mem_cons.2 ⟨qi1_ k, (List.forall_mem_nil _)⟩) (List.forall_mem_nil _) ⟨⟨Tryz.f164, (z2_ Tryz.f164), [.tmp 4], (qi5_ k), by kernel_rfl, by kernel_rfl, by kernel_rfl, by kernel_rfl, rfl, by decide, ⟨by kernel_rfl, ?_, ?_⟩, ?_⟩⟩
  · refine zi_ (n := 1) (by kernel_rfl) fun i hi => ?_
    match i, hi with
    | 0, _ => exact ze_ (by kernel_rfl) (qi7_ k)
    | n + 1, hi => omega
  · exact z5_ (by kernel_rfl)
  · rintro ⟨s0, f1⟩
    kernel_rfl
def zap_ (k : Nat) : Nat → (List (List UInt8 × List (List UInt8) × Int × Int)) → Int → Int → (List (List UInt8)) → ((List (List UInt8)) → Option (List (List UInt8))) → Option (List (List UInt8))
  | 0, _, _, _, _, _ => none
  | n + 1, list0, x6, x7, q_1, e_0 => (if (decide (x7 < x6)) = true then (zgu_ k list0 q_1).bind fun r_2 => (if (decide (r_2 < 0)) = true then e_0 q_1 else (if 0 ≤ r_2 then (list0[r_2.toNat]?).bind fun y_3 => (if (q_1.length + [y_3.1].length) * 16 ≤ LIM then zap_ k n list0 x6 (z0_ (x7 + 1)) (q_1 ++ [y_3.1]) e_0 else none) else none)) else e_0 q_1)
def zaq_ (k : Nat) (list0 : List (List UInt8 × List (List UInt8) × Int × Int)) : Option (List (List UInt8)) := zap_ k k list0 (List.length list0 : Int) 0 [] (fun q_4 => some q_4)
def qi9_ : Head := ⟨[(0, (.val (.sl 90 (.st (.pr .str (.pr (.sl 9 .str) (.pr (.int .i64) (.int .i64)))))))), (3, (.bp 3 [] 0)), (6, (.val (.int .i64))), (7, (.val (.int .i64)))], [(64000000, 9, .str, false)], [(3, 41, (.ref 64000000 []))]⟩
def qia_ : Head := ⟨[(3, (.bp 3 [] 0))], [(64000000, 9, .str, false)], [(3, 41, (.ref 64000000 []))]⟩
def qib_ (k n : Nat) (x : qi9_.T) (kx : Nat → St → Option (List (List UInt8))) : Option (List (List UInt8)) := zap_ k n x.1.1 x.1.2.2.1 x.1.2.2.2.1 x.2.1.1 (fun (q_3 : List (List UInt8)) => kx 0 (qia_.fill (((), ()), (q_3, ()), ((), ()))))
def qic_ (k : Nat) : Oracles (List (List UInt8)) := ⟨fun n => bif Nat.beq n 3 then some (fun σ kx => qi9_.get σ fun x => qib_ k k x kx) else none, fun _ => none⟩
def qid_ (k : Nat) : FE := ⟨(.sl 90 (.st (.pr .str (.pr (.sl 9 .str) (.pr (.int .i64) (.int .i64)))))), 1, (.sl 9 .str), fun x => zaq_ k x⟩
theorem qie_ (k : Nat) : zd_ (z3_ ti [(164, qi6_ k)] (lk []) z7_ z8_) (qic_ k) (rdC (z3_ ti [(164, qi6_ k)] (lk []) z7_ z8_) [.tmp 2] (.sl 9 .str)) ((zc_ (z2_ Tryz.f128)).getD 0 .skip) (fun σ kx => qi9_.get σ fun x => qib_ k k x kx) := by
  refine ⟨qi9_, [(0, qia_)], fun n x kx => qib_ k n x kx, k, by kernel_rfl, by kernel_rfl, fun x kx => by kernel_rfl, ?_, fun σ kx => rfl⟩
  rintro n ⟨⟨list0, ⟨⟩, x6, x7, ⟨⟩⟩, ⟨q_1, ⟨⟩⟩, ⟨⟨⟩, ⟨⟩⟩⟩ kx
  kernel_rfl
theorem qif_ (k : Nat) : FnOK Tryz.prog 128 (qid_ k) := by
  refine za_ (tab := [(164, qi6_ k)]) (l := []) z4_ z6_ mix (List.forall_mem_cons.2 ⟨qi8_ k, (List.forall_mem_nil _)⟩) (List.forall_mem_nil _) ⟨⟨Tryz.f128, (z2_ Tryz.f128), [.tmp 2], (qic_ k), by kernel_rfl, by kernel_rfl, by kernel_rfl, by kernel_rfl, rfl, by decide, ⟨by kernel_rfl, ?_, ?_⟩, ?_⟩⟩
  · refine zi_ (n := 1) (by kernel_rfl) fun i hi => ?_
    match i, hi with
    | 0, _ => exact ze_ (by kernel_rfl) (qie_ k)
    | n + 1, hi => omega
  · exact z5_ (by kernel_rfl)
  · rintro list0
    kernel_rfl
def z7w_ (k : Nat) : Nat → (List (List UInt8 × List (List UInt8) × Int × Int)) → (List (List UInt8 × List (List UInt8) × Int × Int)) → Int → Int → (List (List UInt8)) → ((List (List UInt8 × List (List UInt8) × Int × Int)) → (List (List UInt8)) → Option Bool) → Option Bool
  | 0, _, _, _, _, _, _ => none
  | n + 1, list0, x8, x9, x10, q_1, e_0 => (if (decide (x10 < x9)) = true then (if 0 ≤ x10 then (x8[x10.toNat]?).bind fun y_2 => (if (q_1.length + [y_2.1].length) * 16 ≤ LIM then z7w_ k n list0 x8 x9 (z0_ (x10 + 1)) (q_1 ++ [y_2.1]) e_0 else none) else none) else e_0 list0 q_1)
def zar_ (k : Nat) : Nat → (List (List UInt8 × List (List UInt8) × Int × Int)) → (List (List UInt8 × List (List UInt8) × Int × Int)) → Int → Int → (List (List UInt8)) → ((List (List UInt8 × List (List UInt8) × Int × Int)) → Option Bool) → Option Bool
  | 0, _, _, _, _, _, _ => none
  | n + 1, list0, x23, x24, x25, q_6, e_2 => (if (decide (x25 < x24)) = true then (if 0 ≤ x25 then (x23[x25.toNat]?).bind fun y_7 => (zcn_ k y_7.2.1 16).bind fun r_8 => (if (!r_8) = true then some false else (z32_ y_7.2.2.1 0 1000000).bind fun r_9 => (if (!r_9) = true then some false else (z32_ y_7.2.2.2 0 1000).bind fun r_10 => (if (!r_10) = true then some false else (zgr_ k y_7.2.1 q_6).bind fun r_11 => (if r_11 = true then some false else zar_ k n list0 x23 x24 (z0_ (x25 + 1)) q_6 e_2)))) else none) else e_2 list0)
def zgv_ (k : Nat) (list0 : List (List UInt8 × List (List UInt8) × Int × Int)) : Option Bool := z7w_ k k list0 list0 (List.length list0 : Int) 0 [] (fun list_3 q_4 => (zcn_ k q_4 16).bind fun r_5 => (if (!r_5) = true then some false else zar_ k k list_3 list_3 (List.length list_3 : Int) 0 q_4 (fun list_12 => (zaq_ k list_12).bind fun r_13 => some (decide ((List.length r_13 : Int) = (List.length list_12 : Int))))))
def qig_ : Head := ⟨[(0, (.val (.sl 90 (.st (.pr .str (.pr (.sl 9 .str) (.pr (.int .i64) (.int .i64)))))))), (3, (.bp 3 [] 0)), (8, (.val (.sl 90 (.st (.pr .str (.pr (.sl 9 .str) (.pr (.int .i64) (.int .i64)))))))), (9, (.val (.int .i64))), (10, (.val (.int .i64)))], [(64000000, 9, .str, false)], [(3, 41, (.ref 64000000 []))]⟩
def qih_ : Head := ⟨[(0, (.val (.sl 90 (.st (.pr .str (.pr (.sl 9 .str) (.pr (.int .i64) (.int .i64)))))))), (3, (.bp 3 [] 0))], [(64000000, 9, .str, false)], [(3, 41, (.ref 64000000 []))]⟩
def qii_ (k n : Nat) (x : qig_.T) (kx : Nat → St → Option Bool) : Option Bool := z7w_ k n x.1.1 x.1.2.2.1 x.1.2.2.2.1 x.1.2.2.2.2.1 x.2.1.1 (fun (list0 : List (List UInt8 × List (List UInt8) × Int × Int)) (q_3 : List (List UInt8)) => kx 0 (qih_.fill ((list0, (), ()), (q_3, ()), ((), ()))))
def qij_ : Head := ⟨[(0, (.val (.sl 90 (.st (.pr .str (.pr (.sl 9 .str) (.pr (.int .i64) (.int .i64)))))))), (3, (.bp 3 [] 0)), (23, (.val (.sl 90 (.st (.pr .str (.pr (.sl 9 .str) (.pr (.int .i64) (.int .i64)))))))), (24, (.val (.int .i64))), (25, (.val (.int .i64)))], [(64000000, 9, .str, false)], [(3, 41, (.ref 64000000 []))]⟩
def qik_ : Head := ⟨[(0, (.val (.sl 90 (.st (.pr .str (.pr (.sl 9 .str) (.pr (.int .i64) (.int .i64))))))))], [], []⟩
def qil_ (k n : Nat) (x : qij_.T) (kx : Nat → St → Option Bool) : Option Bool := zar_ k n x.1.1 x.1.2.2.1 x.1.2.2.2.1 x.1.2.2.2.2.1 x.2.1.1 (fun (list0 : List (List UInt8 × List (List UInt8) × Int × Int)) => kx 2 (qik_.fill ((list0, ()), (), ())))
def qim_ (k : Nat) : Oracles Bool := ⟨fun n => bif Nat.beq n 3 then some (fun σ kx => qig_.get σ fun x => qii_ k k x kx) else bif Nat.beq n 10 then some (fun σ kx => qij_.get σ fun x => qil_ k k x kx) else none, fun _ => none⟩
def qin_ (k : Nat) : FE := ⟨(.sl 90 (.st (.pr .str (.pr (.sl 9 .str) (.pr (.int .i64) (.int .i64)))))), 1, .bool, fun x => zgv_ k x⟩
theorem qio_ (k : Nat) : zd_ (z3_ ti [(124, qh2_ k), (112, qab_), (125, qhn_ k), (128, qid_ k)] (lk []) z7_ z8_) (qim_ k) (rdC (z3_ ti [(124, qh2_ k), (112, qab_), (125, qhn_ k), (128, qid_ k)] (lk []) z7_ z8_) [.tmp 2] .bool) ((zc_ (z2_ Tryz.f74)).getD 0 .skip) (fun σ kx => qig_.get σ fun x => qii_ k k x kx) := by
  refine ⟨qig_, [(0, qih_)], fun n x kx => qii_ k n x kx, k, by kernel_rfl, by kernel_rfl, fun x kx => by kernel_rfl, ?_, fun σ kx => rfl⟩
  rintro n ⟨⟨list0, ⟨⟩, x8, x9, x10, ⟨⟩⟩, ⟨q_1, ⟨⟩⟩, ⟨⟨⟩, ⟨⟩⟩⟩ kx
  kernel_rfl
theorem qip_ (k : Nat) : zd_ (z3_ ti [(124, qh2_ k), (112, qab_), (125, qhn_ k), (128, qid_ k)] (lk []) z7_ z8_) (qim_ k) (rdC (z3_ ti [(124, qh2_ k), (112, qab_), (125, qhn_ k), (128, qid_ k)] (lk []) z7_ z8_) [.tmp 2] .bool) ((zc_ (z2_ Tryz.f74)).getD 1 .skip) (fun σ kx => qij_.get σ fun x => qil_ k k x kx) := by
  refine ⟨qij_, [(2, qik_)], fun n x kx => qil_ k n x kx, k, by kernel_rfl, by kernel_rfl, fun x kx => by kernel_rfl, ?_, fun σ kx => rfl⟩
  rintro n ⟨⟨list0, ⟨⟩, x23, x24, x25, ⟨⟩⟩, ⟨q_6, ⟨⟩⟩, ⟨⟨⟩, ⟨⟩⟩⟩ kx
  kernel_rfl
theorem qiq_ (k : Nat) : FnOK Tryz.prog 74 (qin_ k) := by
  refine za_ (tab := [(124, qh2_ k), (112, qab_), (125, qhn_ k), (128, qid_ k)]) (l := []) z4_ z6_ mix (List.forall_mem_cons.2 ⟨qh4_ k, (List.forall_mem_cons.2 ⟨qac_, (List.forall_mem_cons.2 ⟨qho_ k, (List.forall_mem_cons.2 ⟨qif_ k, (List.forall_mem_nil _)⟩)⟩)⟩)⟩) (List.forall_mem_nil _) ⟨⟨Tryz.f74, (z2_ Tryz.f74), [.tmp 2], (qim_ k), by kernel_rfl, by kernel_rfl, by kernel_rfl, by kernel_rfl, rfl, by decide, ⟨by kernel_rfl, ?_, ?_⟩, ?_⟩⟩
  · refine zi_ (n := 2) (by kernel_rfl) fun i hi => ?_
    match i, hi with
    | 0, _ => exact ze_ (by kernel_rfl) (qio_ k)
    | 1, _ => exact ze_ (by kernel_rfl) (qip_ k)
    | n + 2, hi => omega
  · exact z5_ (by kernel_rfl)
  · rintro list0
    kernel_rfl
def zgw_ (k : Nat) (x0 : List Int) (length1 : Int) (p2 : Int) : Option Bool := (z3s_ x0).bind fun r_1 => (if (decide (r_1 = length1)) = true then (z6f_ k x0 p2).bind fun r_2 => some r_2 else some false)
def qir_ (k : Nat) : FE := ⟨(.pr (.sl 2 (.int .i64)) (.pr (.int .i64) (.int .i64))), 1, .bool, fun x => zgw_ k x.1 x.2.1 x.2.2⟩
theorem qis_ (k : Nat) : FnOK Tryz.prog 75 (qir_ k) := by
  refine za_ (tab := [(31, qd9_), (115, qev_ k)]) (l := []) z4_ z6_ mix (List.forall_mem_cons.2 ⟨qda_, (List.forall_mem_cons.2 ⟨qew_ k, (List.forall_mem_nil _)⟩)⟩) (List.forall_mem_nil _) ⟨⟨Tryz.f75, (z2_ Tryz.f75), [.tmp 6], (LOn Bool), by kernel_rfl, by kernel_rfl, by kernel_rfl, by kernel_rfl, rfl, by decide, ⟨by kernel_rfl, ?_, ?_⟩, ?_⟩⟩
  · exact zf_ (by kernel_rfl)
  · exact z5_ (by kernel_rfl)
  · rintro ⟨x0, length1, p2⟩
    kernel_rfl
def zk4_ (n0 : Int) : Option Bool := (z32_ n0 (-1000000) 1000000).bind fun r_1 => some (!r_1)
def qit_ : FE := ⟨(.int .i64), 1, .bool, fun x => zk4_ x⟩
theorem qiu_ : FnOK Tryz.prog 130 (qit_) := by
  refine za_ (tab := [(112, qab_)]) (l := []) z4_ z6_ mix (List.forall_mem_cons.2 ⟨qac_, (List.forall_mem_nil _)⟩) (List.forall_mem_nil _) ⟨⟨Tryz.f130, (z2_ Tryz.f130), [.tmp 2], (LOn Bool), by kernel_rfl, by kernel_rfl, by kernel_rfl, by kernel_rfl, rfl, by decide, ⟨by kernel_rfl, ?_, ?_⟩, ?_⟩⟩
  · exact zf_ (by kernel_rfl)
  · exact z5_ (by kernel_rfl)
  · rintro n0
    kernel_rfl
def zas_ (k : Nat) : Nat → (List Int) → Unit → Int → Int → (Option Int) → Option Int
  | 0, _, _, _, _, _ => none
  | n + 1, s0, f1, x7, x8, e_0 => (if (decide (x8 < x7)) = true then (if 0 ≤ x8 then (s0[x8.toNat]?).bind fun y_1 => (zk4_ y_1).bind fun r_2 => (if r_2 = true then some x8 else zas_ k n s0 f1 x7 (z0_ (x8 + 1)) e_0) else none) else e_0)
def zk5_ (k : Nat) (s0 : List Int) (f1 : Unit) : Option Int := zas_ k k s0 f1 (List.length s0 : Int) 0 (some (-1))
def qiv_ : Head := ⟨[(0, (.val (.sl 2 (.int .i64)))), (1, (.val (.fn 130 .un))), (7, (.val (.int .i64))), (8, (.val (.int .i64)))], [], []⟩
def qiw_ : Head := ⟨[], [], []⟩
def qix_ (k n : Nat) (x : qiv_.T) (kx : Nat → St → Option Int) : Option Int := zas_ k n x.1.1 x.1.2.1 x.1.2.2.1 x.1.2.2.2.1 (kx 0 (qiw_.fill ((), (), ())))
def qiy_ (k : Nat) : Oracles Int := ⟨fun n => bif Nat.beq n 2 then some (fun σ kx => qiv_.get σ fun x => qix_ k k x kx) else none, fun _ => none⟩
def qiz_ (k : Nat) : FE := ⟨(.pr (.sl 2 (.int .i64)) (.fn 130 .un)), 1, (.int .i64), fun x => zk5_ k x.1 x.2⟩
theorem qj0_ (k : Nat) : zd_ (z3_ ti [(130, qit_)] (lk []) z7_ z8_) (qiy_ k) (rdC (z3_ ti [(130, qit_)] (lk []) z7_ z8_) [.tmp 4] (.int .i64)) ((zc_ (z2_ Tryz.f159)).getD 0 .skip) (fun σ kx => qiv_.get σ fun x => qix_ k k x kx) := by
  refine ⟨qiv_, [(0, qiw_)], fun n x kx => qix_ k n x kx, k, by kernel_rfl, by kernel_rfl, fun x kx => by kernel_rfl, ?_, fun σ kx => rfl⟩
  rintro n ⟨⟨s0, f1, x7, x8, ⟨⟩⟩, ⟨⟩, ⟨⟩⟩ kx
  kernel_rfl
theorem qj1_ (k : Nat) : FnOK Tryz.prog 159 (qiz_ k) := by
  refine za_ (tab := [(130, qit_)]) (l := []) z4_ z6_ mix (List.forall_mem_cons.2 ⟨qiu_, (List.forall_mem_nil _)⟩) (List.forall_mem_nil _) ⟨⟨Tryz.f159, (z2_ Tryz.f159), [.tmp 4], (qiy_ k), by kernel_rfl, by kernel_rfl, by kernel_rfl, by kernel_rfl, rfl, by decide, ⟨by kernel_rfl, ?_, ?_⟩, ?_⟩⟩
  · refine zi_ (n := 1) (by kernel_rfl) fun i hi => ?_
    match i, hi with
    | 0, _ => exact ze_ (by kernel_rfl) (qj0_ k)
    | n + 1, hi => omega
  · exact z5_ (by kernel_rfl)
  · rintro ⟨s0, f1⟩
    kernel_rfl
def zk6_ (k : Nat) (s0 : List Int) (f1 : Unit) : Option Bool := (zk5_ k s0 f1).bind fun r_1 => some (decide (0 ≤ r_1))
def qj2_ (k : Nat) : FE := ⟨(.pr (.sl 2 (.int .i64)) (.fn 130 .un)), 1, .bool, fun x => zk6_ k x.1 x.2⟩
theorem qj3_ (k : Nat) : FnOK Tryz.prog 119 (qj2_ k) := by
  refine za_ (tab := [(159, qiz_ k)]) (l := []) z4_ z6_ mix (List.forall_mem_cons.2 ⟨qj1_ k, (List.forall_mem_nil _)⟩) (List.forall_mem_nil _) ⟨⟨Tryz.f119, (z2_ Tryz.f119), [.tmp 4], (LOn Bool), by kernel_rfl, by kernel_rfl, by kernel_rfl, by kernel_rfl, rfl, by decide, ⟨by kernel_rfl, ?_, ?_⟩, ?_⟩⟩
  · exact zf_ (by kernel_rfl)
  · exact z5_ (by kernel_rfl)
  · rintro ⟨s0, f1⟩
    kernel_rfl
def zgx_ (k : Nat) (g0 : Int × List (Int × Int × Int)) (x1 : List Int) : Option Bool := (z3s_ x1).bind fun r_1 => (if (decide (r_1 = g0.1)) = true then (zk6_ k x1 ()).bind fun r_2 => some (!r_2) else some false)
def qj4_ (k : Nat) : FE := ⟨(.pr (.st (.pr (.int .i64) (.sl 157 (.st (.pr (.int .i64) (.pr (.int .i64) (.int .i64))))))) (.sl 2 (.int .i64))), 1, .bool, fun x => zgx_ k x.1 x.2⟩
theorem qj5_ (k : Nat) : FnOK Tryz.prog 77 (qj4_ k) := by
  refine za_ (tab := [(31, qd9_), (119, qj2_ k)]) (l := []) z4_ z6_ mix (List.forall_mem_cons.2 ⟨qda_, (List.forall_mem_cons.2 ⟨qj3_ k, (List.forall_mem_nil _)⟩)⟩) (List.forall_mem_nil _) ⟨⟨Tryz.f77, (z2_ Tryz.f77), [.tmp 4], (LOn Bool), by kernel_rfl, by kernel_rfl, by kernel_rfl, by kernel_rfl, rfl, by decide, ⟨by kernel_rfl, ?_, ?_⟩, ?_⟩⟩
  · exact zf_ (by kernel_rfl)
  · exact z5_ (by kernel_rfl)
  · rintro ⟨g0, x1⟩
    kernel_rfl
def zgy_ (k : Nat) (d0 : (List (List Int) × Int × List Int × List (Int × Int × Int × List Int)) × List Int × (Int × List (Int × Int × Int)) × List Int × (Int × Int × Int × List Int) × (List (List Int × List (List Int))) × (List (List Int) × List Int) × List (List UInt8 × List (List UInt8) × Int × Int)) : Option Bool := (zgk_ k d0.1).bind fun r_1 => (if (!r_1) = true then some false else (zgm_ k d0.2.2.1).bind fun r_2 => (if (!r_2) = true then some false else (zaf_ k d0.2.2.2.2.1).bind fun r_3 => (if (!r_3) = true then some false else (zgo_ k d0.2.2.2.2.2.1).bind fun r_4 => (if (!r_4) = true then some false else (zgp_ k d0.2.2.2.2.2.2.1).bind fun r_5 => (if (!r_5) = true then some false else (zgv_ k d0.2.2.2.2.2.2.2).bind fun r_6 => (if (!r_6) = true then some false else (zck_ k d0.1 0).bind fun r_7 => (zgw_ k d0.2.1 r_7 d0.1.2.1).bind fun r_8 => (if r_8 = true then (zgx_ k d0.2.2.1 d0.2.2.2.1).bind fun r_9 => some r_9 else some false)))))))
def qj6_ (k : Nat) : FE := ⟨(.st (.pr (.st (.pr (.st (.sl 25 (.sl 2 (.int .i64)))) (.pr (.int .i64) (.pr (.sl 2 (.int .i64)) (.sl 51 (.st (.pr (.int .i64) (.pr (.int .i64) (.pr (.int .i64) (.sl 2 (.int .i64))))))))))) (.pr (.sl 2 (.int .i64)) (.pr (.st (.pr (.int .i64) (.sl 157 (.st (.pr (.int .i64) (.pr (.int .i64) (.int .i64))))))) (.pr (.sl 2 (.int .i64)) (.pr (.st (.pr (.int .i64) (.pr (.int .i64) (.pr (.int .i64) (.sl 2 (.int .i64)))))) (.pr (.sl 87 (.st (.pr (.sl 2 (.int .i64)) (.sl 25 (.sl 2 (.int .i64)))))) (.pr (.st (.pr (.st (.sl 25 (.sl 2 (.int .i64)))) (.sl 2 (.int .i64)))) (.sl 90 (.st (.pr .str (.pr (.sl 9 .str) (.pr (.int .i64) (.int .i64)))))))))))))), 1, .bool, fun x => zgy_ k x⟩
theorem qj7_ (k : Nat) : FnOK Tryz.prog 29 (qj6_ k) := by
  refine za_ (tab := [(69, qf5_ k), (70, qfe_ k), (71, qex_ k), (72, qfz_ k), (73, qgp_ k), (74, qin_ k), (76, qdm_ k), (75, qir_ k), (77, qj4_ k)]) (l := []) z4_ z6_ mix (List.forall_mem_cons.2 ⟨qf7_ k, (List.forall_mem_cons.2 ⟨qfg_ k, (List.forall_mem_cons.2 ⟨qey_ k, (List.forall_mem_cons.2 ⟨qg0_ k, (List.forall_mem_cons.2 ⟨qgq_ k, (List.forall_mem_cons.2 ⟨qiq_ k, (List.forall_mem_cons.2 ⟨qdo_ k, (List.forall_mem_cons.2 ⟨qis_ k, (List.forall_mem_cons.2 ⟨qj5_ k, (List.forall_mem_nil _)⟩)⟩)⟩)⟩)⟩)⟩)⟩)⟩)⟩) (List.forall_mem_nil _) ⟨⟨Tryz.f29, (z2_ Tryz.f29), [.tmp 2], (LOn Bool), by kernel_rfl, by kernel_rfl, by kernel_rfl, by kernel_rfl, rfl, by decide, ⟨by kernel_rfl, ?_, ?_⟩, ?_⟩⟩
  · exact zf_ (by kernel_rfl)
  · exact z5_ (by kernel_rfl)
  · rintro d0
    kernel_rfl
def zk7_ (list0 : List (List Int × List (List Int))) : Option Int := some (List.length list0 : Int)
def qj8_ : FE := ⟨(.sl 87 (.st (.pr (.sl 2 (.int .i64)) (.sl 25 (.sl 2 (.int .i64)))))), 1, (.int .i64), fun x => zk7_ x⟩
theorem qj9_ : FnOK Tryz.prog 32 (qj8_) := by
  refine za_ (tab := []) (l := []) z4_ z6_ mix (List.forall_mem_nil _) (List.forall_mem_nil _) ⟨⟨Tryz.f32, (z2_ Tryz.f32), [.tmp 2], (LOn Int), by kernel_rfl, by kernel_rfl, by kernel_rfl, by kernel_rfl, rfl, by decide, ⟨by kernel_rfl, ?_, ?_⟩, ?_⟩⟩
  · exact zf_ (by kernel_rfl)
  · exact z5_ (by kernel_rfl)
  · rintro list0
    kernel_rfl
def zk8_ (list0 : List (List UInt8 × List (List UInt8) × Int × Int)) : Option Int := some (List.length list0 : Int)
def qja_ : FE := ⟨(.sl 90 (.st (.pr .str (.pr (.sl 9 .str) (.pr (.int .i64) (.int .i64)))))), 1, (.int .i64), fun x => zk8_ x⟩
theorem qjb_ : FnOK Tryz.prog 33 (qja_) := by
  refine za_ (tab := []) (l := []) z4_ z6_ mix (List.forall_mem_nil _) (List.forall_mem_nil _) ⟨⟨Tryz.f33, (z2_ Tryz.f33), [.tmp 2], (LOn Int), by kernel_rfl, by kernel_rfl, by kernel_rfl, by kernel_rfl, rfl, by decide, ⟨by kernel_rfl, ?_, ?_⟩, ?_⟩⟩
  · exact zf_ (by kernel_rfl)
  · exact z5_ (by kernel_rfl)
  · rintro list0
    kernel_rfl
def znw_ (n : Int) (b : Int) : Option (List UInt8) := if b = 10 ∧ -9223372036854775808 ≤ n ∧ n ≤ 9223372036854775807 then some (Lib.itoa n) else none
abbrev qjc_ : FE := fe_formatInt
theorem qjd_ : FnOK Tryz.prog 78 qjc_ := zu0_ (fn := Tryz.f78) (cd := z2_ Tryz.f78) (by kernel_rfl) (by kernel_rfl) (by kernel_rfl) (fun n h0 h1 w hG => Go.Proofs.Tryz.strconv_FormatInt_10 n h0 h1 w hG)
def zgz_ (n0 : Int) : Option (List UInt8) := (znw_ n0 10).bind fun r_1 => some r_1
def qje_ : FE := ⟨(.int .i64), 1, .str, fun x => zgz_ x⟩
theorem qjf_ : FnOK Tryz.prog 34 (qje_) := by
  refine za_ (tab := [(78, qjc_)]) (l := []) z4_ z6_ mix (List.forall_mem_cons.2 ⟨qjd_, (List.forall_mem_nil _)⟩) (List.forall_mem_nil _) ⟨⟨Tryz.f34, (z2_ Tryz.f34), [.tmp 2], (LOn (List UInt8)), by kernel_rfl, by kernel_rfl, by kernel_rfl, by kernel_rfl, rfl, by decide, ⟨by kernel_rfl, ?_, ?_⟩, ?_⟩⟩
  · exact zf_ (by kernel_rfl)
  · exact z5_ (by kernel_rfl)
  · rintro n0
    kernel_rfl
def z7x_ (k : Nat) : Nat → Int → Int → (List Int) → (List (List UInt8)) → (List (List UInt8)) → ((List (List UInt8)) → Option (List (List UInt8) × Int)) → Option (List (List UInt8) × Int)
  | 0, _, _, _, _, _, _ => none
  | n + 1, x40, x41, q_8, q_9, q_10, e_0 => (if (decide (x41 < x40)) = true then (if 0 ≤ x41 ∧ x41.toNat < List.length q_10 then (q_10[x41.toNat]?).bind fun y_11 => (if y_11.length + [32].length ≤ 9223372036854775807 then (if 0 ≤ x41 ∧ x41.toNat < List.length q_8 then (q_8[x41.toNat]?).bind fun y_12 => (zgz_ y_12).bind fun r_13 => (if (y_11 ++ [32]).length + r_13.length ≤ 9223372036854775807 then (if (q_9.length + [((y_11 ++ [32]) ++ r_13)].length) * 16 ≤ LIM then z7x_ k n x40 (z0_ (x41 + 1)) q_8 (q_9 ++ [((y_11 ++ [32]) ++ r_13)]) q_10 e_0 else none) else none) else none) else none) else none) else e_0 q_9)
def zc6_ (k : Nat) (d0 : (List (List Int) × Int × List Int × List (Int × Int × Int × List Int)) × List Int × (Int × List (Int × Int × Int)) × List Int × (Int × Int × Int × List Int) × (List (List Int × List (List Int))) × (List (List Int) × List Int) × List (List UInt8 × List (List UInt8) × Int × Int)) : Option (List (List UInt8) × Int) := (zgy_ k d0).bind fun r_1 => (if (!r_1) = true then some ([], 1) else (zcl_ d0.1.1).bind fun r_2 => (z3s_ d0.2.1).bind fun r_3 => (z3s_ d0.2.2.2.2.1.2.2.2).bind fun r_4 => (zk7_ d0.2.2.2.2.2.1).bind fun r_5 => (z3s_ d0.2.2.2.2.2.2.1.2).bind fun r_6 => (zk8_ d0.2.2.2.2.2.2.2).bind fun r_7 => z7x_ k k (List.length [[115, 105, 109, 112, 108, 105, 99, 101, 115], [114, 101, 97, 100, 105, 110, 103, 115], [110, 111, 100, 101, 115], [99, 101, 108, 108, 115], [116, 97, 98, 108, 101, 115], [116, 105, 109, 101, 115], [105, 116, 101, 109, 115]] : Int) 0 [r_2, r_3, d0.2.2.1.1, r_4, r_5, r_6, r_7] [] [[115, 105, 109, 112, 108, 105, 99, 101, 115], [114, 101, 97, 100, 105, 110, 103, 115], [110, 111, 100, 101, 115], [99, 101, 108, 108, 115], [116, 97, 98, 108, 101, 115], [116, 105, 109, 101, 115], [105, 116, 101, 109, 115]] (fun q_14 => some (q_14, 0)))
def qjg_ : Head := ⟨[(5, (.ref 64000000 [])), (6, (.ref 64000001 [])), (39, (.ref 64000002 [])), (40, (.val (.int .i64))), (41, (.val (.int .i64)))], [(64000000, 2, (.int .i64), false), (64000001, 9, .str, false), (64000002, 9, .str, false)], []⟩
def qjh_ : Head := ⟨[(6, (.ref 64000000 []))], [(64000000, 9, .str, false)], []⟩
def qji_ (k n : Nat) (x : qjg_.T) (kx : Nat → St → Option (List (List UInt8) × Int)) : Option (List (List UInt8) × Int) := z7x_ k n x.1.2.2.2.1 x.1.2.2.2.2.1 x.2.1.1 x.2.1.2.1 x.2.1.2.2.1 (fun (q_14 : List (List UInt8)) => kx 0 (qjh_.fill (((), ()), (q_14, ()), ())))
def qjj_ (k : Nat) : Oracles (List (List UInt8) × Int) := ⟨fun n => bif Nat.beq n 7 then some (fun σ kx => qjg_.get σ fun x => qji_ k k x kx) else none, fun _ => none⟩
def qjk_ (k : Nat) : FE := ⟨(.st (.pr (.st (.pr (.st (.sl 25 (.sl 2 (.int .i64)))) (.pr (.int .i64) (.pr (.sl 2 (.int .i64)) (.sl 51 (.st (.pr (.int .i64) (.pr (.int .i64) (.pr (.int .i64) (.sl 2 (.int .i64))))))))))) (.pr (.sl 2 (.int .i64)) (.pr (.st (.pr (.int .i64) (.sl 157 (.st (.pr (.int .i64) (.pr (.int .i64) (.int .i64))))))) (.pr (.sl 2 (.int .i64)) (.pr (.st (.pr (.int .i64) (.pr (.int .i64) (.pr (.int .i64) (.sl 2 (.int .i64)))))) (.pr (.sl 87 (.st (.pr (.sl 2 (.int .i64)) (.sl 25 (.sl 2 (.int .i64)))))) (.pr (.st (.pr (.st (.sl 25 (.sl 2 (.int .i64)))) (.sl 2 (.int .i64)))) (.sl 90 (.st (.pr .str (.pr (.sl 9 .str) (.pr (.int .i64) (.int .i64)))))))))))))), 2, (.pr (.sl 9 .str) (.int .i64)), fun x => zc6_ k x⟩
theorem qjl_ (k : Nat) : zd_ (z3_ ti [(29, qj6_ k), (30, qdw_), (31, qd9_), (32, qj8_), (33, qja_), (34, qje_)] (lk []) z7_ z8_) (qjj_ k) (rdC (z3_ ti [(29, qj6_ k), (30, qdw_), (31, qd9_), (32, qj8_), (33, qja_), (34, qje_)] (lk []) z7_ z8_) [.tmp 2, .tmp 3] (.pr (.sl 9 .str) (.int .i64))) ((zc_ (z2_ Tryz.f7)).getD 0 .skip) (fun σ kx => qjg_.get σ fun x => qji_ k k x kx) := by
  refine ⟨qjg_, [(0, qjh_)], fun n x kx => qji_ k n x kx, k, by kernel_rfl, by kernel_rfl, fun x kx => by kernel_rfl, ?_, fun σ kx => rfl⟩
  rintro n ⟨⟨⟨⟩, ⟨⟩, ⟨⟩, x40, x41, ⟨⟩⟩, ⟨q_8, q_9, q_10, ⟨⟩⟩, ⟨⟩⟩ kx
  kernel_rfl
theorem qjm_ (k : Nat) : FnOK Tryz.prog 7 (qjk_ k) := by
  refine za_ (tab := [(29, qj6_ k), (30, qdw_), (31, qd9_), (32, qj8_), (33, qja_), (34, qje_)]) (l := []) z4_ z6_ mix (List.forall_mem_cons.2 ⟨qj7_ k, (List.forall_mem_cons.2 ⟨qdx_, (List.forall_mem_cons.2 ⟨qda_, (List.forall_mem_cons.2 ⟨qj9_, (List.forall_mem_cons.2 ⟨qjb_, (List.forall_mem_cons.2 ⟨qjf_, (List.forall_mem_nil _)⟩)⟩)⟩)⟩)⟩)⟩) (List.forall_mem_nil _) ⟨⟨Tryz.f7, (z2_ Tryz.f7), [.tmp 2, .tmp 3], (qjj_ k), by kernel_rfl, by kernel_rfl, by kernel_rfl, by kernel_rfl, rfl, by decide, ⟨by kernel_rfl, ?_, ?_⟩, ?_⟩⟩
  · refine zi_ (n := 1) (by kernel_rfl) fun i hi => ?_
    match i, hi with
    | 0, _ => exact ze_ (by kernel_rfl) (qjl_ k)
    | n + 1, hi => omega
  · exact z5_ (by kernel_rfl)
  · rintro d0
    kernel_rfl
end
end Go.Proofs.YtckbclbmkklaoaaGreatDoor.Ev
