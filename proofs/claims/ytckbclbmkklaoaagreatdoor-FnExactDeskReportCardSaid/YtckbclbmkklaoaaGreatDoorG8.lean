/- Functions of the program, as zl_ ones. No conditions. -/
import Derived.Test.YtckbclbmkklaoaaGreatDoorG7
import Derived.KernelRfl
set_option linter.unusedVariables false
set_option maxRecDepth 100000
namespace Go.Proofs.YtckbclbmkklaoaaGreatDoor.Ev
open Go.RowKit
noncomputable section
def z7u_ (k : Nat) : Nat → (List (List Int)) → Int → Int → (List Int × List (List Int)) → (Option Bool) → Option Bool
  | 0, _, _, _, _, _ => none
  | n + 1, x22, x23, x24, v_1, e_0 => (if (decide (x24 < x23)) = true then (if 0 ≤ x24 then (x22[x24.toNat]?).bind fun y_3 => (if (!(decide ((List.length y_3 : Int) = (List.length v_1.1 : Int)))) = true then some false else (z6f_ k y_3 4).bind fun r_4 => (if (!r_4) = true then some false else (if (decide (0 < x24)) = true then (if 0 ≤ (z0_ (x24 - 1)) then (v_1.2[(z0_ (x24 - 1)).toNat]?).bind fun y_5 => (zcg_ k y_5 y_3).bind fun r_6 => (if (decide (0 ≤ r_6)) = true then some false else z7u_ k n x22 x23 (z0_ (x24 + 1)) v_1 e_0) else none) else z7u_ k n x22 x23 (z0_ (x24 + 1)) v_1 e_0))) else none) else e_0)
def zgn_ (k : Nat) (t0 : List Int × List (List Int)) : Option Bool := (zcf_ k t0.1).bind fun r_1 => (if (!r_1) = true then some false else (z6f_ k t0.1 8).bind fun r_2 => (if (!r_2) = true then some false else (if (decide (24 < (List.length t0.2 : Int))) = true then some false else z7u_ k k t0.2 (List.length t0.2 : Int) 0 t0 (some true))))
def qfh_ : Head := ⟨[(1, (.bp 1 [] 0)), (22, (.val (.sl 25 (.sl 2 (.int .i64))))), (23, (.val (.int .i64))), (24, (.val (.int .i64)))], [], [(1, 87, (.val (.st (.pr (.sl 2 (.int .i64)) (.sl 25 (.sl 2 (.int .i64)))))))]⟩
def qfi_ : Head := ⟨[], [], []⟩
def qfj_ (k n : Nat) (x : qfh_.T) (kx : Nat → St → Option Bool) : Option Bool := z7u_ k n x.1.2.1 x.1.2.2.1 x.1.2.2.2.1 x.2.2.1 (kx 0 (qfi_.fill ((), (), ())))
def qfk_ (k : Nat) : Oracles Bool := ⟨fun n => bif Nat.beq n 4 then some (fun σ kx => qfh_.get σ fun x => qfj_ k k x kx) else none, fun _ => none⟩
def qfl_ (k : Nat) : FE := ⟨(.st (.pr (.sl 2 (.int .i64)) (.sl 25 (.sl 2 (.int .i64))))), 1, .bool, fun x => zgn_ k x⟩
theorem qfm_ (k : Nat) : zd_ (z3_ ti [(157, qa8_ k), (115, qev_ k), (158, qb4_ k)] (lk []) z7_ z8_) (qfk_ k) (rdC (z3_ ti [(157, qa8_ k), (115, qev_ k), (158, qb4_ k)] (lk []) z7_ z8_) [.tmp 2] .bool) ((zc_ (z2_ Tryz.f118)).getD 0 .skip) (fun σ kx => qfh_.get σ fun x => qfj_ k k x kx) := by
  refine ⟨qfh_, [(0, qfi_)], fun n x kx => qfj_ k n x kx, k, by kernel_rfl, by kernel_rfl, fun x kx => by kernel_rfl, ?_, fun σ kx => rfl⟩
  rintro n ⟨⟨⟨⟩, x22, x23, x24, ⟨⟩⟩, ⟨⟩, ⟨v_1, ⟨⟩⟩⟩ kx
  kernel_rfl
theorem qfn_ (k : Nat) : FnOK Tryz.prog 118 (qfl_ k) := by
  refine za_ (tab := [(157, qa8_ k), (115, qev_ k), (158, qb4_ k)]) (l := []) z4_ z6_ mix (List.forall_mem_cons.2 ⟨qaa_ k, (List.forall_mem_cons.2 ⟨qew_ k, (List.forall_mem_cons.2 ⟨qb6_ k, (List.forall_mem_nil _)⟩)⟩)⟩) (List.forall_mem_nil _) ⟨⟨Tryz.f118, (z2_ Tryz.f118), [.tmp 2], (qfk_ k), by kernel_rfl, by kernel_rfl, by kernel_rfl, by kernel_rfl, rfl, by decide, ⟨by kernel_rfl, ?_, ?_⟩, ?_⟩⟩
  · refine zi_ (n := 1) (by kernel_rfl) fun i hi => ?_
    match i, hi with
    | 0, _ => exact ze_ (by kernel_rfl) (qfm_ k)
    | n + 1, hi => omega
  · exact z5_ (by kernel_rfl)
  · rintro t0
    kernel_rfl
def zjp_ (k : Nat) (t0 : List Int × List (List Int)) : Option Bool := (zgn_ k t0).bind fun r_1 => some (!r_1)
def qfo_ (k : Nat) : FE := ⟨(.st (.pr (.sl 2 (.int .i64)) (.sl 25 (.sl 2 (.int .i64))))), 1, .bool, fun x => zjp_ k x⟩
theorem qfp_ (k : Nat) : FnOK Tryz.prog 117 (qfo_ k) := by
  refine za_ (tab := [(118, qfl_ k)]) (l := []) z4_ z6_ mix (List.forall_mem_cons.2 ⟨qfn_ k, (List.forall_mem_nil _)⟩) (List.forall_mem_nil _) ⟨⟨Tryz.f117, (z2_ Tryz.f117), [.tmp 2], (LOn Bool), by kernel_rfl, by kernel_rfl, by kernel_rfl, by kernel_rfl, rfl, by decide, ⟨by kernel_rfl, ?_, ?_⟩, ?_⟩⟩
  · exact zf_ (by kernel_rfl)
  · exact z5_ (by kernel_rfl)
  · rintro t0
    kernel_rfl
def zah_ (k : Nat) : Nat → (List (List Int × List (List Int))) → Unit → Int → Int → (Option Int) → Option Int
  | 0, _, _, _, _, _ => none
  | n + 1, s0, f1, x7, x8, e_0 => (if (decide (x8 < x7)) = true then (if 0 ≤ x8 then (s0[x8.toNat]?).bind fun y_1 => (zjp_ k y_1).bind fun r_2 => (if r_2 = true then some x8 else zah_ k n s0 f1 x7 (z0_ (x8 + 1)) e_0) else none) else e_0)
def zjq_ (k : Nat) (s0 : List (List Int × List (List Int))) (f1 : Unit) : Option Int := zah_ k k s0 f1 (List.length s0 : Int) 0 (some (-1))
def qfq_ : Head := ⟨[(0, (.val (.sl 87 (.st (.pr (.sl 2 (.int .i64)) (.sl 25 (.sl 2 (.int .i64)))))))), (1, (.val (.fn 117 .un))), (7, (.val (.int .i64))), (8, (.val (.int .i64)))], [], []⟩
def qfr_ : Head := ⟨[], [], []⟩
def qfs_ (k n : Nat) (x : qfq_.T) (kx : Nat → St → Option Int) : Option Int := zah_ k n x.1.1 x.1.2.1 x.1.2.2.1 x.1.2.2.2.1 (kx 0 (qfr_.fill ((), (), ())))
def qft_ (k : Nat) : Oracles Int := ⟨fun n => bif Nat.beq n 2 then some (fun σ kx => qfq_.get σ fun x => qfs_ k k x kx) else none, fun _ => none⟩
def qfu_ (k : Nat) : FE := ⟨(.pr (.sl 87 (.st (.pr (.sl 2 (.int .i64)) (.sl 25 (.sl 2 (.int .i64)))))) (.fn 117 .un)), 1, (.int .i64), fun x => zjq_ k x.1 x.2⟩
theorem qfv_ (k : Nat) : zd_ (z3_ ti [(117, qfo_ k)] (lk []) z7_ z8_) (qft_ k) (rdC (z3_ ti [(117, qfo_ k)] (lk []) z7_ z8_) [.tmp 4] (.int .i64)) ((zc_ (z2_ Tryz.f156)).getD 0 .skip) (fun σ kx => qfq_.get σ fun x => qfs_ k k x kx) := by
  refine ⟨qfq_, [(0, qfr_)], fun n x kx => qfs_ k n x kx, k, by kernel_rfl, by kernel_rfl, fun x kx => by kernel_rfl, ?_, fun σ kx => rfl⟩
  rintro n ⟨⟨s0, f1, x7, x8, ⟨⟩⟩, ⟨⟩, ⟨⟩⟩ kx
  kernel_rfl
theorem qfw_ (k : Nat) : FnOK Tryz.prog 156 (qfu_ k) := by
  refine za_ (tab := [(117, qfo_ k)]) (l := []) z4_ z6_ mix (List.forall_mem_cons.2 ⟨qfp_ k, (List.forall_mem_nil _)⟩) (List.forall_mem_nil _) ⟨⟨Tryz.f156, (z2_ Tryz.f156), [.tmp 4], (qft_ k), by kernel_rfl, by kernel_rfl, by kernel_rfl, by kernel_rfl, rfl, by decide, ⟨by kernel_rfl, ?_, ?_⟩, ?_⟩⟩
  · refine zi_ (n := 1) (by kernel_rfl) fun i hi => ?_
    match i, hi with
    | 0, _ => exact ze_ (by kernel_rfl) (qfv_ k)
    | n + 1, hi => omega
  · exact z5_ (by kernel_rfl)
  · rintro ⟨s0, f1⟩
    kernel_rfl
def zjr_ (k : Nat) (s0 : List (List Int × List (List Int))) (f1 : Unit) : Option Bool := (zjq_ k s0 f1).bind fun r_1 => some (decide (0 ≤ r_1))
def qfx_ (k : Nat) : FE := ⟨(.pr (.sl 87 (.st (.pr (.sl 2 (.int .i64)) (.sl 25 (.sl 2 (.int .i64)))))) (.fn 117 .un)), 1, .bool, fun x => zjr_ k x.1 x.2⟩
theorem qfy_ (k : Nat) : FnOK Tryz.prog 116 (qfx_ k) := by
  refine za_ (tab := [(156, qfu_ k)]) (l := []) z4_ z6_ mix (List.forall_mem_cons.2 ⟨qfw_ k, (List.forall_mem_nil _)⟩) (List.forall_mem_nil _) ⟨⟨Tryz.f116, (z2_ Tryz.f116), [.tmp 4], (LOn Bool), by kernel_rfl, by kernel_rfl, by kernel_rfl, by kernel_rfl, rfl, by decide, ⟨by kernel_rfl, ?_, ?_⟩, ?_⟩⟩
  · exact zf_ (by kernel_rfl)
  · exact z5_ (by kernel_rfl)
  · rintro ⟨s0, f1⟩
    kernel_rfl
def zgo_ (k : Nat) (list0 : List (List Int × List (List Int))) : Option Bool := (if (decide ((List.length list0 : Int) ≤ 6)) = true then (zjr_ k list0 ()).bind fun r_1 => some (!r_1) else some false)
def qfz_ (k : Nat) : FE := ⟨(.sl 87 (.st (.pr (.sl 2 (.int .i64)) (.sl 25 (.sl 2 (.int .i64)))))), 1, .bool, fun x => zgo_ k x⟩
theorem qg0_ (k : Nat) : FnOK Tryz.prog 72 (qfz_ k) := by
  refine za_ (tab := [(116, qfx_ k)]) (l := []) z4_ z6_ mix (List.forall_mem_cons.2 ⟨qfy_ k, (List.forall_mem_nil _)⟩) (List.forall_mem_nil _) ⟨⟨Tryz.f72, (z2_ Tryz.f72), [.tmp 2], (LOn Bool), by kernel_rfl, by kernel_rfl, by kernel_rfl, by kernel_rfl, rfl, by decide, ⟨by kernel_rfl, ?_, ?_⟩, ?_⟩⟩
  · exact zf_ (by kernel_rfl)
  · exact z5_ (by kernel_rfl)
  · rintro list0
    kernel_rfl
def zjs_ (t0 : Int) : Option Bool := (z32_ t0 0 1000).bind fun r_1 => some r_1
def qg1_ : FE := ⟨(.int .i64), 1, .bool, fun x => zjs_ x⟩
theorem qg2_ : FnOK Tryz.prog 121 (qg1_) := by
  refine za_ (tab := [(112, qab_)]) (l := []) z4_ z6_ mix (List.forall_mem_cons.2 ⟨qac_, (List.forall_mem_nil _)⟩) (List.forall_mem_nil _) ⟨⟨Tryz.f121, (z2_ Tryz.f121), [.tmp 2], (LOn Bool), by kernel_rfl, by kernel_rfl, by kernel_rfl, by kernel_rfl, rfl, by decide, ⟨by kernel_rfl, ?_, ?_⟩, ?_⟩⟩
  · exact zf_ (by kernel_rfl)
  · exact z5_ (by kernel_rfl)
  · rintro t0
    kernel_rfl
def zjt_ (t0 : Int) : Option Bool := (zjs_ t0).bind fun r_1 => some (!r_1)
def qg3_ : FE := ⟨(.int .i64), 1, .bool, fun x => zjt_ x⟩
theorem qg4_ : FnOK Tryz.prog 120 (qg3_) := by
  refine za_ (tab := [(121, qg1_)]) (l := []) z4_ z6_ mix (List.forall_mem_cons.2 ⟨qg2_, (List.forall_mem_nil _)⟩) (List.forall_mem_nil _) ⟨⟨Tryz.f120, (z2_ Tryz.f120), [.tmp 2], (LOn Bool), by kernel_rfl, by kernel_rfl, by kernel_rfl, by kernel_rfl, rfl, by decide, ⟨by kernel_rfl, ?_, ?_⟩, ?_⟩⟩
  · exact zf_ (by kernel_rfl)
  · exact z5_ (by kernel_rfl)
  · rintro t0
    kernel_rfl
def zai_ (k : Nat) : Nat → (List Int) → Unit → Int → Int → (Option Int) → Option Int
  | 0, _, _, _, _, _ => none
  | n + 1, s0, f1, x7, x8, e_0 => (if (decide (x8 < x7)) = true then (if 0 ≤ x8 then (s0[x8.toNat]?).bind fun y_1 => (zjt_ y_1).bind fun r_2 => (if r_2 = true then some x8 else zai_ k n s0 f1 x7 (z0_ (x8 + 1)) e_0) else none) else e_0)
def zju_ (k : Nat) (s0 : List Int) (f1 : Unit) : Option Int := zai_ k k s0 f1 (List.length s0 : Int) 0 (some (-1))
def qg5_ : Head := ⟨[(0, (.val (.sl 2 (.int .i64)))), (1, (.val (.fn 120 .un))), (7, (.val (.int .i64))), (8, (.val (.int .i64)))], [], []⟩
def qg6_ : Head := ⟨[], [], []⟩
def qg7_ (k n : Nat) (x : qg5_.T) (kx : Nat → St → Option Int) : Option Int := zai_ k n x.1.1 x.1.2.1 x.1.2.2.1 x.1.2.2.2.1 (kx 0 (qg6_.fill ((), (), ())))
def qg8_ (k : Nat) : Oracles Int := ⟨fun n => bif Nat.beq n 2 then some (fun σ kx => qg5_.get σ fun x => qg7_ k k x kx) else none, fun _ => none⟩
def qg9_ (k : Nat) : FE := ⟨(.pr (.sl 2 (.int .i64)) (.fn 120 .un)), 1, (.int .i64), fun x => zju_ k x.1 x.2⟩
theorem qga_ (k : Nat) : zd_ (z3_ ti [(120, qg3_)] (lk []) z7_ z8_) (qg8_ k) (rdC (z3_ ti [(120, qg3_)] (lk []) z7_ z8_) [.tmp 4] (.int .i64)) ((zc_ (z2_ Tryz.f159)).getD 0 .skip) (fun σ kx => qg5_.get σ fun x => qg7_ k k x kx) := by
  refine ⟨qg5_, [(0, qg6_)], fun n x kx => qg7_ k n x kx, k, by kernel_rfl, by kernel_rfl, fun x kx => by kernel_rfl, ?_, fun σ kx => rfl⟩
  rintro n ⟨⟨s0, f1, x7, x8, ⟨⟩⟩, ⟨⟩, ⟨⟩⟩ kx
  kernel_rfl
theorem qgb_ (k : Nat) : FnOK Tryz.prog 159 (qg9_ k) := by
  refine za_ (tab := [(120, qg3_)]) (l := []) z4_ z6_ mix (List.forall_mem_cons.2 ⟨qg4_, (List.forall_mem_nil _)⟩) (List.forall_mem_nil _) ⟨⟨Tryz.f159, (z2_ Tryz.f159), [.tmp 4], (qg8_ k), by kernel_rfl, by kernel_rfl, by kernel_rfl, by kernel_rfl, rfl, by decide, ⟨by kernel_rfl, ?_, ?_⟩, ?_⟩⟩
  · refine zi_ (n := 1) (by kernel_rfl) fun i hi => ?_
    match i, hi with
    | 0, _ => exact ze_ (by kernel_rfl) (qga_ k)
    | n + 1, hi => omega
  · exact z5_ (by kernel_rfl)
  · rintro ⟨s0, f1⟩
    kernel_rfl
def zjv_ (k : Nat) (s0 : List Int) (f1 : Unit) : Option Bool := (zju_ k s0 f1).bind fun r_1 => some (decide (0 ≤ r_1))
def qgc_ (k : Nat) : FE := ⟨(.pr (.sl 2 (.int .i64)) (.fn 120 .un)), 1, .bool, fun x => zjv_ k x.1 x.2⟩
theorem qgd_ (k : Nat) : FnOK Tryz.prog 119 (qgc_ k) := by
  refine za_ (tab := [(159, qg9_ k)]) (l := []) z4_ z6_ mix (List.forall_mem_cons.2 ⟨qgb_ k, (List.forall_mem_nil _)⟩) (List.forall_mem_nil _) ⟨⟨Tryz.f119, (z2_ Tryz.f119), [.tmp 4], (LOn Bool), by kernel_rfl, by kernel_rfl, by kernel_rfl, by kernel_rfl, rfl, by decide, ⟨by kernel_rfl, ?_, ?_⟩, ?_⟩⟩
  · exact zf_ (by kernel_rfl)
  · exact z5_ (by kernel_rfl)
  · rintro ⟨s0, f1⟩
    kernel_rfl
def zjw_ (a0 : Int × Int × Int) (x1 : List (List Int) × List Int) : Option Bool := (if 0 ≤ a0.2.2 then (x1.2[a0.2.2.toNat]?).bind fun y_1 => (if 0 ≤ a0.1 then (x1.2[a0.1.toNat]?).bind fun y_2 => some (decide (y_2 < y_1)) else none) else none)
def qge_ : FE := ⟨(.pr (.st (.pr (.int .i64) (.pr (.int .i64) (.int .i64)))) (.ptr (.st (.pr (.st (.sl 25 (.sl 2 (.int .i64)))) (.sl 2 (.int .i64)))))), 1, .bool, fun x => zjw_ x.1 x.2⟩
theorem qgf_ : FnOK Tryz.prog 123 (qge_) := by
  refine za_ (tab := []) (l := []) z4_ z6_ mix (List.forall_mem_nil _) (List.forall_mem_nil _) ⟨⟨Tryz.f123, (z2_ Tryz.f123), [.tmp 3], (LOn Bool), by kernel_rfl, by kernel_rfl, by kernel_rfl, by kernel_rfl, rfl, by decide, ⟨by kernel_rfl, ?_, ?_⟩, ?_⟩⟩
  · exact zf_ (by kernel_rfl)
  · exact z5_ (by kernel_rfl)
  · rintro ⟨a0, x1⟩
    kernel_rfl
def zaj_ (k : Nat) : Nat → (List (Int × Int × Int)) → (List (List Int) × List Int) → Int → Int → (Option Int) → Option Int
  | 0, _, _, _, _, _ => none
  | n + 1, s0, f1, x7, x8, e_0 => (if (decide (x8 < x7)) = true then (if 0 ≤ x8 then (s0[x8.toNat]?).bind fun y_1 => (zjw_ y_1 f1).bind fun r_2 => (if r_2 = true then some x8 else zaj_ k n s0 f1 x7 (z0_ (x8 + 1)) e_0) else none) else e_0)
def zjx_ (k : Nat) (s0 : List (Int × Int × Int)) (f1 : List (List Int) × List Int) : Option Int := zaj_ k k s0 f1 (List.length s0 : Int) 0 (some (-1))
def qgg_ : Head := ⟨[(0, (.val (.sl 173 (.st (.pr (.int .i64) (.pr (.int .i64) (.int .i64))))))), (1, (.val (.fn 123 (.ptr (.st (.pr (.st (.sl 25 (.sl 2 (.int .i64)))) (.sl 2 (.int .i64)))))))), (7, (.val (.int .i64))), (8, (.val (.int .i64)))], [], []⟩
def qgh_ : Head := ⟨[], [], []⟩
def qgi_ (k n : Nat) (x : qgg_.T) (kx : Nat → St → Option Int) : Option Int := zaj_ k n x.1.1 x.1.2.1 x.1.2.2.1 x.1.2.2.2.1 (kx 0 (qgh_.fill ((), (), ())))
def qgj_ (k : Nat) : Oracles Int := ⟨fun n => bif Nat.beq n 2 then some (fun σ kx => qgg_.get σ fun x => qgi_ k k x kx) else none, fun _ => none⟩
def qgk_ (k : Nat) : FE := ⟨(.pr (.sl 173 (.st (.pr (.int .i64) (.pr (.int .i64) (.int .i64))))) (.fn 123 (.ptr (.st (.pr (.st (.sl 25 (.sl 2 (.int .i64)))) (.sl 2 (.int .i64))))))), 1, (.int .i64), fun x => zjx_ k x.1 x.2⟩
theorem qgl_ (k : Nat) : zd_ (z3_ ti [(123, qge_)] (lk []) z7_ z8_) (qgj_ k) (rdC (z3_ ti [(123, qge_)] (lk []) z7_ z8_) [.tmp 4] (.int .i64)) ((zc_ (z2_ Tryz.f160)).getD 0 .skip) (fun σ kx => qgg_.get σ fun x => qgi_ k k x kx) := by
  refine ⟨qgg_, [(0, qgh_)], fun n x kx => qgi_ k n x kx, k, by kernel_rfl, by kernel_rfl, fun x kx => by kernel_rfl, ?_, fun σ kx => rfl⟩
  rintro n ⟨⟨s0, f1, x7, x8, ⟨⟩⟩, ⟨⟩, ⟨⟩⟩ kx
  kernel_rfl
theorem qgm_ (k : Nat) : FnOK Tryz.prog 160 (qgk_ k) := by
  refine za_ (tab := [(123, qge_)]) (l := []) z4_ z6_ mix (List.forall_mem_cons.2 ⟨qgf_, (List.forall_mem_nil _)⟩) (List.forall_mem_nil _) ⟨⟨Tryz.f160, (z2_ Tryz.f160), [.tmp 4], (qgj_ k), by kernel_rfl, by kernel_rfl, by kernel_rfl, by kernel_rfl, rfl, by decide, ⟨by kernel_rfl, ?_, ?_⟩, ?_⟩⟩
  · refine zi_ (n := 1) (by kernel_rfl) fun i hi => ?_
    match i, hi with
    | 0, _ => exact ze_ (by kernel_rfl) (qgl_ k)
    | n + 1, hi => omega
  · exact z5_ (by kernel_rfl)
  · rintro ⟨s0, f1⟩
    kernel_rfl
def zjy_ (k : Nat) (s0 : List (Int × Int × Int)) (f1 : List (List Int) × List Int) : Option Bool := (zjx_ k s0 f1).bind fun r_1 => some (decide (0 ≤ r_1))
def qgn_ (k : Nat) : FE := ⟨(.pr (.sl 173 (.st (.pr (.int .i64) (.pr (.int .i64) (.int .i64))))) (.fn 123 (.ptr (.st (.pr (.st (.sl 25 (.sl 2 (.int .i64)))) (.sl 2 (.int .i64))))))), 1, .bool, fun x => zjy_ k x.1 x.2⟩
theorem qgo_ (k : Nat) : FnOK Tryz.prog 122 (qgn_ k) := by
  refine za_ (tab := [(160, qgk_ k)]) (l := []) z4_ z6_ mix (List.forall_mem_cons.2 ⟨qgm_ k, (List.forall_mem_nil _)⟩) (List.forall_mem_nil _) ⟨⟨Tryz.f122, (z2_ Tryz.f122), [.tmp 4], (LOn Bool), by kernel_rfl, by kernel_rfl, by kernel_rfl, by kernel_rfl, rfl, by decide, ⟨by kernel_rfl, ?_, ?_⟩, ?_⟩⟩
  · exact zf_ (by kernel_rfl)
  · exact z5_ (by kernel_rfl)
  · rintro ⟨s0, f1⟩
    kernel_rfl
def zgp_ (k : Nat) (f0 : List (List Int) × List Int) : Option Bool := (zcj_ k f0.1).bind fun r_1 => (if (!r_1) = true then some false else (if (!(decide ((List.length f0.2 : Int) = (List.length f0.1 : Int)))) = true then some false else (zjv_ k f0.2 ()).bind fun r_2 => (if r_2 = true then some false else (zcm_ k f0.1).bind fun r_3 => (zjy_ k r_3 f0).bind fun r_4 => some (!r_4))))
def qgp_ (k : Nat) : FE := ⟨(.st (.pr (.st (.sl 25 (.sl 2 (.int .i64)))) (.sl 2 (.int .i64)))), 1, .bool, fun x => zgp_ k x⟩
theorem qgq_ (k : Nat) : FnOK Tryz.prog 73 (qgp_ k) := by
  refine za_ (tab := [(107, qco_ k), (119, qgc_ k), (110, qec_ k), (122, qgn_ k)]) (l := []) z4_ z6_ mix (List.forall_mem_cons.2 ⟨qcq_ k, (List.forall_mem_cons.2 ⟨qgd_ k, (List.forall_mem_cons.2 ⟨qef_ k, (List.forall_mem_cons.2 ⟨qgo_ k, (List.forall_mem_nil _)⟩)⟩)⟩)⟩) (List.forall_mem_nil _) ⟨⟨Tryz.f73, (z2_ Tryz.f73), [.tmp 2], (LOn Bool), by kernel_rfl, by kernel_rfl, by kernel_rfl, by kernel_rfl, rfl, by decide, ⟨by kernel_rfl, ?_, ?_⟩, ?_⟩⟩
  · exact zf_ (by kernel_rfl)
  · exact z5_ (by kernel_rfl)
  · rintro f0
    kernel_rfl
def z4t_ (k : Nat) : Nat → Int → Int → (List Int) → (Option Bool) → Option Bool
  | 0, _, _, _, _ => none
  | n + 1, x17, x18, q_1, e_0 => (if (decide (x18 < x17)) = true then (if 0 ≤ x18 ∧ x18.toNat < List.length q_1 then (q_1[x18.toNat]?).bind fun y_2 => (if (decide (97 ≤ y_2)) = true then (if (decide (48 ≤ y_2)) = true then (if (!(decide (y_2 ≤ 122))) = true then (if (decide (x18 = 0)) = true then some false else (if (!(decide (y_2 ≤ 57))) = true then some false else z4t_ k n x17 (z0_ (x18 + 1)) q_1 e_0)) else z4t_ k n x17 (z0_ (x18 + 1)) q_1 e_0) else (if (!(decide (y_2 ≤ 122))) = true then (if (decide (x18 = 0)) = true then some false else some false) else z4t_ k n x17 (z0_ (x18 + 1)) q_1 e_0)) else (if (decide (48 ≤ y_2)) = true then (if (decide (x18 = 0)) = true then some false else (if (!(decide (y_2 ≤ 57))) = true then some false else z4t_ k n x17 (z0_ (x18 + 1)) q_1 e_0)) else (if (decide (x18 = 0)) = true then some false else some false))) else none) else e_0)
def zgq_ (k : Nat) (s0 : List UInt8) : Option Bool := (if (decide ((List.length s0 : Int) < 1)) = true then some false else (if (decide (10 < (List.length s0 : Int))) = true then some false else (if s0.length ≤ LIM then z4t_ k k (List.length (of_S s0) : Int) 0 (of_S s0) (some true) else none)))
def qgr_ : Head := ⟨[(16, (.ref 64000000 [])), (17, (.val (.int .i64))), (18, (.val (.int .i64)))], [(64000000, 5, (.int .u8), true)], []⟩
def qgs_ : Head := ⟨[], [], []⟩
def qgt_ (k n : Nat) (x : qgr_.T) (kx : Nat → St → Option Bool) : Option Bool := z4t_ k n x.1.2.1 x.1.2.2.1 x.2.1.1 (kx 0 (qgs_.fill ((), (), ())))
def qgu_ (k : Nat) : Oracles Bool := ⟨fun n => bif Nat.beq n 4 then some (fun σ kx => qgr_.get σ fun x => qgt_ k k x kx) else none, fun _ => none⟩
def qgv_ (k : Nat) : FE := ⟨.str, 1, .bool, fun x => zgq_ k x⟩
theorem qgw_ (k : Nat) : zd_ (z3_ ti [] (lk []) z7_ z8_) (qgu_ k) (rdC (z3_ ti [] (lk []) z7_ z8_) [.tmp 2] .bool) ((zc_ (z2_ Tryz.f161)).getD 0 .skip) (fun σ kx => qgr_.get σ fun x => qgt_ k k x kx) := by
  refine ⟨qgr_, [(0, qgs_)], fun n x kx => qgt_ k n x kx, k, by kernel_rfl, by kernel_rfl, fun x kx => by kernel_rfl, ?_, fun σ kx => rfl⟩
  rintro n ⟨⟨⟨⟩, x17, x18, ⟨⟩⟩, ⟨q_1, ⟨⟩⟩, ⟨⟩⟩ kx
  kernel_rfl
theorem qgx_ (k : Nat) : FnOK Tryz.prog 161 (qgv_ k) := by
  refine za_ (tab := []) (l := []) z4_ z6_ mix (List.forall_mem_nil _) (List.forall_mem_nil _) ⟨⟨Tryz.f161, (z2_ Tryz.f161), [.tmp 2], (qgu_ k), by kernel_rfl, by kernel_rfl, by kernel_rfl, by kernel_rfl, rfl, by decide, ⟨by kernel_rfl, ?_, ?_⟩, ?_⟩⟩
  · refine zi_ (n := 1) (by kernel_rfl) fun i hi => ?_
    match i, hi with
    | 0, _ => exact ze_ (by kernel_rfl) (qgw_ k)
    | n + 1, hi => omega
  · exact z5_ (by kernel_rfl)
  · rintro s0
    kernel_rfl
def z7v_ (k : Nat) : Nat → (List (List UInt8)) → Int → (List (List UInt8)) → Int → Int → ((List (List UInt8)) → Int → Option Bool) → Option Bool
  | 0, _, _, _, _, _, _ => none
  | n + 1, names0, most1, x7, x8, x9, e_0 => (if (decide (x9 < x8)) = true then (if 0 ≤ x9 then (x7[x9.toNat]?).bind fun y_1 => (zgq_ k y_1).bind fun r_2 => (if (!r_2) = true then some false else (if (decide (0 < x9)) = true then (if 0 ≤ (z0_ (x9 - 1)) then (names0[(z0_ (x9 - 1)).toNat]?).bind fun y_3 => (if (Op.bytesLess y_1 y_3 || decide (y_1 = y_3)) = true then some false else z7v_ k n names0 most1 x7 x8 (z0_ (x9 + 1)) e_0) else none) else z7v_ k n names0 most1 x7 x8 (z0_ (x9 + 1)) e_0)) else none) else e_0 names0 most1)
def zcn_ (k : Nat) (names0 : List (List UInt8)) (most1 : Int) : Option Bool := z7v_ k k names0 most1 names0 (List.length names0 : Int) 0 (fun names_4 most_5 => some (decide ((List.length names_4 : Int) ≤ most_5)))
def qgy_ : Head := ⟨[(0, (.val (.sl 9 .str))), (1, (.val (.int .i64))), (7, (.val (.sl 9 .str))), (8, (.val (.int .i64))), (9, (.val (.int .i64)))], [], []⟩
def qgz_ : Head := ⟨[(0, (.val (.sl 9 .str))), (1, (.val (.int .i64)))], [], []⟩
def qh0_ (k n : Nat) (x : qgy_.T) (kx : Nat → St → Option Bool) : Option Bool := z7v_ k n x.1.1 x.1.2.1 x.1.2.2.1 x.1.2.2.2.1 x.1.2.2.2.2.1 (fun (names0 : List (List UInt8)) (most1 : Int) => kx 0 (qgz_.fill ((names0, most1, ()), (), ())))
def qh1_ (k : Nat) : Oracles Bool := ⟨fun n => bif Nat.beq n 2 then some (fun σ kx => qgy_.get σ fun x => qh0_ k k x kx) else none, fun _ => none⟩
def qh2_ (k : Nat) : FE := ⟨(.pr (.sl 9 .str) (.int .i64)), 1, .bool, fun x => zcn_ k x.1 x.2⟩
theorem qh3_ (k : Nat) : zd_ (z3_ ti [(161, qgv_ k)] (lk []) z7_ z8_) (qh1_ k) (rdC (z3_ ti [(161, qgv_ k)] (lk []) z7_ z8_) [.tmp 4] .bool) ((zc_ (z2_ Tryz.f124)).getD 0 .skip) (fun σ kx => qgy_.get σ fun x => qh0_ k k x kx) := by
  refine ⟨qgy_, [(0, qgz_)], fun n x kx => qh0_ k n x kx, k, by kernel_rfl, by kernel_rfl, fun x kx => by kernel_rfl, ?_, fun σ kx => rfl⟩
  rintro n ⟨⟨names0, most1, x7, x8, x9, ⟨⟩⟩, ⟨⟩, ⟨⟩⟩ kx
  kernel_rfl
theorem qh4_ (k : Nat) : FnOK Tryz.prog 124 (qh2_ k) := by
  refine za_ (tab := [(161, qgv_ k)]) (l := []) z4_ z6_ mix (List.forall_mem_cons.2 ⟨qgx_ k, (List.forall_mem_nil _)⟩) (List.forall_mem_nil _) ⟨⟨Tryz.f124, (z2_ Tryz.f124), [.tmp 4], (qh1_ k), by kernel_rfl, by kernel_rfl, by kernel_rfl, by kernel_rfl, rfl, by decide, ⟨by kernel_rfl, ?_, ?_⟩, ?_⟩⟩
  · refine zi_ (n := 1) (by kernel_rfl) fun i hi => ?_
    match i, hi with
    | 0, _ => exact ze_ (by kernel_rfl) (qh3_ k)
    | n + 1, hi => omega
  · exact z5_ (by kernel_rfl)
  · rintro ⟨names0, most1⟩
    kernel_rfl
def zak_ (k : Nat) : Nat → (List (List UInt8)) → (List UInt8) → Int → Int → (Option Int) → Option Int
  | 0, _, _, _, _, _ => none
  | n + 1, s0, v1, x7, x8, e_0 => (if (decide (x8 < x7)) = true then (if 0 ≤ x8 then (s0[x8.toNat]?).bind fun y_1 => (if (decide (v1 = y_1)) = true then some x8 else zak_ k n s0 v1 x7 (z0_ (x8 + 1)) e_0) else none) else e_0)
def zjz_ (k : Nat) (s0 : List (List UInt8)) (v1 : List UInt8) : Option Int := zak_ k k s0 v1 (List.length s0 : Int) 0 (some (-1))
def qh5_ : Head := ⟨[(0, (.val (.sl 9 .str))), (1, (.val .str)), (7, (.val (.int .i64))), (8, (.val (.int .i64)))], [], []⟩
def qh6_ : Head := ⟨[], [], []⟩
def qh7_ (k n : Nat) (x : qh5_.T) (kx : Nat → St → Option Int) : Option Int := zak_ k n x.1.1 x.1.2.1 x.1.2.2.1 x.1.2.2.2.1 (kx 0 (qh6_.fill ((), (), ())))
def qh8_ (k : Nat) : Oracles Int := ⟨fun n => bif Nat.beq n 2 then some (fun σ kx => qh5_.get σ fun x => qh7_ k k x kx) else none, fun _ => none⟩
def qh9_ (k : Nat) : FE := ⟨(.pr (.sl 9 .str) .str), 1, (.int .i64), fun x => zjz_ k x.1 x.2⟩
theorem qha_ (k : Nat) : zd_ (z3_ ti [] (lk []) z7_ z8_) (qh8_ k) (rdC (z3_ ti [] (lk []) z7_ z8_) [.tmp 4] (.int .i64)) ((zc_ (z2_ Tryz.f163)).getD 0 .skip) (fun σ kx => qh5_.get σ fun x => qh7_ k k x kx) := by
  refine ⟨qh5_, [(0, qh6_)], fun n x kx => qh7_ k n x kx, k, by kernel_rfl, by kernel_rfl, fun x kx => by kernel_rfl, ?_, fun σ kx => rfl⟩
  rintro n ⟨⟨s0, v1, x7, x8, ⟨⟩⟩, ⟨⟩, ⟨⟩⟩ kx
  kernel_rfl
theorem qhb_ (k : Nat) : FnOK Tryz.prog 163 (qh9_ k) := by
  refine za_ (tab := []) (l := []) z4_ z6_ mix (List.forall_mem_nil _) (List.forall_mem_nil _) ⟨⟨Tryz.f163, (z2_ Tryz.f163), [.tmp 4], (qh8_ k), by kernel_rfl, by kernel_rfl, by kernel_rfl, by kernel_rfl, rfl, by decide, ⟨by kernel_rfl, ?_, ?_⟩, ?_⟩⟩
  · refine zi_ (n := 1) (by kernel_rfl) fun i hi => ?_
    match i, hi with
    | 0, _ => exact ze_ (by kernel_rfl) (qha_ k)
    | n + 1, hi => omega
  · exact z5_ (by kernel_rfl)
  · rintro ⟨s0, v1⟩
    kernel_rfl
def zal_ (k : Nat) (s0 : List (List UInt8)) (v1 : List UInt8) : Option Bool := (zjz_ k s0 v1).bind fun r_1 => some (decide (0 ≤ r_1))
def qhc_ (k : Nat) : FE := ⟨(.pr (.sl 9 .str) .str), 1, .bool, fun x => zal_ k x.1 x.2⟩
theorem qhd_ (k : Nat) : FnOK Tryz.prog 127 (qhc_ k) := by
  refine za_ (tab := [(163, qh9_ k)]) (l := []) z4_ z6_ mix (List.forall_mem_cons.2 ⟨qhb_ k, (List.forall_mem_nil _)⟩) (List.forall_mem_nil _) ⟨⟨Tryz.f127, (z2_ Tryz.f127), [.tmp 4], (LOn Bool), by kernel_rfl, by kernel_rfl, by kernel_rfl, by kernel_rfl, rfl, by decide, ⟨by kernel_rfl, ?_, ?_⟩, ?_⟩⟩
  · exact zf_ (by kernel_rfl)
  · exact z5_ (by kernel_rfl)
  · rintro ⟨s0, v1⟩
    kernel_rfl
def zk0_ (k : Nat) (n0 : List UInt8) (x1 : List (List UInt8)) : Option Bool := (zal_ k x1 n0).bind fun r_1 => some (!r_1)
def qhe_ (k : Nat) : FE := ⟨(.pr .str (.ptr (.sl 9 .str))), 1, .bool, fun x => zk0_ k x.1 x.2⟩
theorem qhf_ (k : Nat) : FnOK Tryz.prog 126 (qhe_ k) := by
  refine za_ (tab := [(127, qhc_ k)]) (l := []) z4_ z6_ mix (List.forall_mem_cons.2 ⟨qhd_ k, (List.forall_mem_nil _)⟩) (List.forall_mem_nil _) ⟨⟨Tryz.f126, (z2_ Tryz.f126), [.tmp 3], (LOn Bool), by kernel_rfl, by kernel_rfl, by kernel_rfl, by kernel_rfl, rfl, by decide, ⟨by kernel_rfl, ?_, ?_⟩, ?_⟩⟩
  · exact zf_ (by kernel_rfl)
  · exact z5_ (by kernel_rfl)
  · rintro ⟨n0, x1⟩
    kernel_rfl
def zam_ (k : Nat) : Nat → (List (List UInt8)) → (List (List UInt8)) → Int → Int → (Option Int) → Option Int
  | 0, _, _, _, _, _ => none
  | n + 1, s0, f1, x7, x8, e_0 => (if (decide (x8 < x7)) = true then (if 0 ≤ x8 then (s0[x8.toNat]?).bind fun y_1 => (zk0_ k y_1 f1).bind fun r_2 => (if r_2 = true then some x8 else zam_ k n s0 f1 x7 (z0_ (x8 + 1)) e_0) else none) else e_0)
def zk1_ (k : Nat) (s0 : List (List UInt8)) (f1 : List (List UInt8)) : Option Int := zam_ k k s0 f1 (List.length s0 : Int) 0 (some (-1))
def qhg_ : Head := ⟨[(0, (.val (.sl 9 .str))), (1, (.val (.fn 126 (.ptr (.sl 9 .str))))), (7, (.val (.int .i64))), (8, (.val (.int .i64)))], [], []⟩
def qhh_ : Head := ⟨[], [], []⟩
def qhi_ (k n : Nat) (x : qhg_.T) (kx : Nat → St → Option Int) : Option Int := zam_ k n x.1.1 x.1.2.1 x.1.2.2.1 x.1.2.2.2.1 (kx 0 (qhh_.fill ((), (), ())))
def qhj_ (k : Nat) : Oracles Int := ⟨fun n => bif Nat.beq n 2 then some (fun σ kx => qhg_.get σ fun x => qhi_ k k x kx) else none, fun _ => none⟩
def qhk_ (k : Nat) : FE := ⟨(.pr (.sl 9 .str) (.fn 126 (.ptr (.sl 9 .str)))), 1, (.int .i64), fun x => zk1_ k x.1 x.2⟩
theorem qhl_ (k : Nat) : zd_ (z3_ ti [(126, qhe_ k)] (lk []) z7_ z8_) (qhj_ k) (rdC (z3_ ti [(126, qhe_ k)] (lk []) z7_ z8_) [.tmp 4] (.int .i64)) ((zc_ (z2_ Tryz.f162)).getD 0 .skip) (fun σ kx => qhg_.get σ fun x => qhi_ k k x kx) := by
  refine ⟨qhg_, [(0, qhh_)], fun n x kx => qhi_ k n x kx, k, by kernel_rfl, by kernel_rfl, fun x kx => by kernel_rfl, ?_, fun σ kx => rfl⟩
  rintro n ⟨⟨s0, f1, x7, x8, ⟨⟩⟩, ⟨⟩, ⟨⟩⟩ kx
  kernel_rfl
theorem qhm_ (k : Nat) : FnOK Tryz.prog 162 (qhk_ k) := by
  refine za_ (tab := [(126, qhe_ k)]) (l := []) z4_ z6_ mix (List.forall_mem_cons.2 ⟨qhf_ k, (List.forall_mem_nil _)⟩) (List.forall_mem_nil _) ⟨⟨Tryz.f162, (z2_ Tryz.f162), [.tmp 4], (qhj_ k), by kernel_rfl, by kernel_rfl, by kernel_rfl, by kernel_rfl, rfl, by decide, ⟨by kernel_rfl, ?_, ?_⟩, ?_⟩⟩
  · refine zi_ (n := 1) (by kernel_rfl) fun i hi => ?_
    match i, hi with
    | 0, _ => exact ze_ (by kernel_rfl) (qhl_ k)
    | n + 1, hi => omega
  · exact z5_ (by kernel_rfl)
  · rintro ⟨s0, f1⟩
    kernel_rfl
def zgr_ (k : Nat) (s0 : List (List UInt8)) (f1 : List (List UInt8)) : Option Bool := (zk1_ k s0 f1).bind fun r_1 => some (decide (0 ≤ r_1))
def qhn_ (k : Nat) : FE := ⟨(.pr (.sl 9 .str) (.fn 126 (.ptr (.sl 9 .str)))), 1, .bool, fun x => zgr_ k x.1 x.2⟩
theorem qho_ (k : Nat) : FnOK Tryz.prog 125 (qhn_ k) := by
  refine za_ (tab := [(162, qhk_ k)]) (l := []) z4_ z6_ mix (List.forall_mem_cons.2 ⟨qhm_ k, (List.forall_mem_nil _)⟩) (List.forall_mem_nil _) ⟨⟨Tryz.f125, (z2_ Tryz.f125), [.tmp 4], (LOn Bool), by kernel_rfl, by kernel_rfl, by kernel_rfl, by kernel_rfl, rfl, by decide, ⟨by kernel_rfl, ?_, ?_⟩, ?_⟩⟩
  · exact zf_ (by kernel_rfl)
  · exact z5_ (by kernel_rfl)
  · rintro ⟨s0, f1⟩
    kernel_rfl
end
end Go.Proofs.YtckbclbmkklaoaaGreatDoor.Ev
