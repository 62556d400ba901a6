/- Functions of the program, as plain ones. No conditions. -/
import Derived.Test.YtibiofjkgdidmaaGreatDoorG5
import Derived.KernelRfl
set_option linter.unusedVariables false
set_option maxRecDepth 100000
namespace Go.Proofs.YtibiofjkgdidmaaGreatDoor.Ev
open Go.RowKit
noncomputable section
def za2_ (k : Nat) : Nat → (List Int) → Unit → Int → Int → (Option Int) → Option Int
  | 0, _, _, _, _, _ => none
  | n + 1, s0, f1, x7, x8, e_0 => (if (decide (x8 < x7)) = true then (if 0 ≤ x8 then (s0[x8.toNat]?).bind fun y_1 => (zj8_ y_1).bind fun r_2 => (if r_2 = true then some x8 else za2_ k n s0 f1 x7 (z0_ (x8 + 1)) e_0) else none) else e_0)
def zj9_ (k : Nat) (s0 : List Int) (f1 : Unit) : Option Int := za2_ k k s0 f1 (List.length s0 : Int) 0 (some (-1))
def qb0_ : Head := ⟨[(0, (.val (.sl 2 (.int .i64)))), (1, (.val (.fn 113 .un))), (7, (.val (.int .i64))), (8, (.val (.int .i64)))], [], []⟩
def qb1_ : Head := ⟨[], [], []⟩
def qb2_ (k n : Nat) (x : qb0_.T) (kx : Nat → St → Option Int) : Option Int := za2_ k n x.1.1 x.1.2.1 x.1.2.2.1 x.1.2.2.2.1 (kx 0 (qb1_.fill ((), (), ())))
def qb3_ (k : Nat) : Oracles Int := ⟨fun n => bif Nat.beq n 2 then some (fun σ kx => qb0_.get σ fun x => qb2_ k k x kx) else none, fun _ => none⟩
def qb4_ (k : Nat) : FE := ⟨(.pr (.sl 2 (.int .i64)) (.fn 113 .un)), 1, (.int .i64), fun x => zj9_ k x.1 x.2⟩
theorem qb5_ (k : Nat) : zc_ (z3_ ti [(113, qay_)] (lk []) z4_ z5_) (qb3_ k) (rdC (z3_ ti [(113, qay_)] (lk []) z4_ z5_) [.tmp 4] (.int .i64)) ((zb_ (z2_ Tryz.f130)).getD 0 .skip) (fun σ kx => qb0_.get σ fun x => qb2_ k k x kx) := by
  refine ⟨qb0_, [(0, qb1_)], fun n x kx => qb2_ k n x kx, k, by kernel_rfl, by kernel_rfl, fun x kx => by kernel_rfl, ?_, fun σ kx => rfl⟩
  rintro n ⟨⟨s0, f1, x7, x8, ⟨⟩⟩, ⟨⟩, ⟨⟩⟩ kx
  kernel_rfl
theorem qb6_ (k : Nat) : FnOK Tryz.prog 130 (qb4_ k) := by
  refine za_ (tab := [(113, qay_)]) (l := []) z6_ z9_ mix (List.forall_mem_cons.2 ⟨qaz_, (List.forall_mem_nil _)⟩) (List.forall_mem_nil _) ⟨⟨Tryz.f130, (z2_ Tryz.f130), [.tmp 4], (qb3_ k), by kernel_rfl, by kernel_rfl, by kernel_rfl, by kernel_rfl, rfl, by decide, ⟨by kernel_rfl, ?_, ?_⟩, ?_⟩⟩
  · refine zf_ (n := 1) (by kernel_rfl) fun i hi => ?_
    match i, hi with
    | 0, _ => exact zd_ (by kernel_rfl) (qb5_ k)
    | n + 1, hi => omega
  · exact z8_ (by kernel_rfl)
  · rintro ⟨s0, f1⟩
    kernel_rfl
def zfq_ (k : Nat) (s0 : List Int) (f1 : Unit) : Option Bool := (zj9_ k s0 f1).bind fun r_1 => some (decide (0 ≤ r_1))
def qb7_ (k : Nat) : FE := ⟨(.pr (.sl 2 (.int .i64)) (.fn 113 .un)), 1, .bool, fun x => zfq_ k x.1 x.2⟩
theorem qb8_ (k : Nat) : FnOK Tryz.prog 85 (qb7_ k) := by
  refine za_ (tab := [(130, qb4_ k)]) (l := []) z6_ z9_ mix (List.forall_mem_cons.2 ⟨qb6_ k, (List.forall_mem_nil _)⟩) (List.forall_mem_nil _) ⟨⟨Tryz.f85, (z2_ Tryz.f85), [.tmp 4], (LOn Bool), by kernel_rfl, by kernel_rfl, by kernel_rfl, by kernel_rfl, rfl, by decide, ⟨by kernel_rfl, ?_, ?_⟩, ?_⟩⟩
  · exact zh_ (by kernel_rfl)
  · exact z8_ (by kernel_rfl)
  · rintro ⟨s0, f1⟩
    kernel_rfl
def zfr_ (k : Nat) (s0 : List Int) : Option Bool := (if (decide (1 ≤ (List.length s0 : Int))) = true then (if (decide ((List.length s0 : Int) ≤ 4)) = true then (zfp_ k s0).bind fun r_1 => (if r_1 = true then (zfq_ k s0 ()).bind fun r_2 => some (!r_2) else some false) else some false) else some false)
def qb9_ (k : Nat) : FE := ⟨(.sl 2 (.int .i64)), 1, .bool, fun x => zfr_ k x⟩
theorem qba_ (k : Nat) : FnOK Tryz.prog 74 (qb9_ k) := by
  refine za_ (tab := [(112, qar_ k), (85, qb7_ k)]) (l := []) z6_ z9_ mix (List.forall_mem_cons.2 ⟨qat_ k, (List.forall_mem_cons.2 ⟨qb8_ k, (List.forall_mem_nil _)⟩)⟩) (List.forall_mem_nil _) ⟨⟨Tryz.f74, (z2_ Tryz.f74), [.tmp 2], (LOn Bool), by kernel_rfl, by kernel_rfl, by kernel_rfl, by kernel_rfl, rfl, by decide, ⟨by kernel_rfl, ?_, ?_⟩, ?_⟩⟩
  · exact zh_ (by kernel_rfl)
  · exact z8_ (by kernel_rfl)
  · rintro s0
    kernel_rfl
def zfs_ (x0 : Int) : Option Bool := some (!(decide (x0 = x0)))
def qbb_ : FE := ⟨(.int .i64), 1, .bool, fun x => zfs_ x⟩
theorem qbc_ : FnOK Tryz.prog 148 (qbb_) := by
  refine za_ (tab := []) (l := []) z6_ z9_ mix (List.forall_mem_nil _) (List.forall_mem_nil _) ⟨⟨Tryz.f148, (z2_ Tryz.f148), [.tmp 2], (LOn Bool), by kernel_rfl, by kernel_rfl, by kernel_rfl, by kernel_rfl, rfl, by decide, ⟨by kernel_rfl, ?_, ?_⟩, ?_⟩⟩
  · exact zh_ (by kernel_rfl)
  · exact z8_ (by kernel_rfl)
  · rintro x0
    kernel_rfl
def zft_ (x0 : Int) (y1 : Int) : Option Int := (zfs_ x0).bind fun r_1 => (zfs_ y1).bind fun r_2 => (if r_1 = true then (if r_2 = true then some 0 else some (-1)) else (if r_2 = true then some 1 else (if (decide (x0 < y1)) = true then some (-1) else (if (decide (y1 < x0)) = true then some 1 else some 0))))
def qbd_ : FE := ⟨(.pr (.int .i64) (.int .i64)), 1, (.int .i64), fun x => zft_ x.1 x.2⟩
theorem qbe_ : FnOK Tryz.prog 116 (qbd_) := by
  refine za_ (tab := [(148, qbb_)]) (l := []) z6_ z9_ mix (List.forall_mem_cons.2 ⟨qbc_, (List.forall_mem_nil _)⟩) (List.forall_mem_nil _) ⟨⟨Tryz.f116, (z2_ Tryz.f116), [.tmp 4], (LOn Int), by kernel_rfl, by kernel_rfl, by kernel_rfl, by kernel_rfl, rfl, by decide, ⟨by kernel_rfl, ?_, ?_⟩, ?_⟩⟩
  · exact zh_ (by kernel_rfl)
  · exact z8_ (by kernel_rfl)
  · rintro ⟨x0, y1⟩
    kernel_rfl
def zfu_ (x0 : Int) : Option Bool := some (!(decide (x0 = x0)))
def qbf_ : FE := ⟨(.int .i64), 1, .bool, fun x => zfu_ x⟩
theorem qbg_ : FnOK Tryz.prog 169 (qbf_) := by
  refine za_ (tab := []) (l := []) z6_ z9_ mix (List.forall_mem_nil _) (List.forall_mem_nil _) ⟨⟨Tryz.f169, (z2_ Tryz.f169), [.tmp 2], (LOn Bool), by kernel_rfl, by kernel_rfl, by kernel_rfl, by kernel_rfl, rfl, by decide, ⟨by kernel_rfl, ?_, ?_⟩, ?_⟩⟩
  · exact zh_ (by kernel_rfl)
  · exact z8_ (by kernel_rfl)
  · rintro x0
    kernel_rfl
def zfv_ (x0 : Int) (y1 : Int) : Option Int := (zfu_ x0).bind fun r_1 => (zfu_ y1).bind fun r_2 => (if r_1 = true then (if r_2 = true then some 0 else some (-1)) else (if r_2 = true then some 1 else (if (decide (x0 < y1)) = true then some (-1) else (if (decide (y1 < x0)) = true then some 1 else some 0))))
def qbh_ : FE := ⟨(.pr (.int .i64) (.int .i64)), 1, (.int .i64), fun x => zfv_ x.1 x.2⟩
theorem qbi_ : FnOK Tryz.prog 149 (qbh_) := by
  refine za_ (tab := [(169, qbf_)]) (l := []) z6_ z9_ mix (List.forall_mem_cons.2 ⟨qbg_, (List.forall_mem_nil _)⟩) (List.forall_mem_nil _) ⟨⟨Tryz.f149, (z2_ Tryz.f149), [.tmp 4], (LOn Int), by kernel_rfl, by kernel_rfl, by kernel_rfl, by kernel_rfl, rfl, by decide, ⟨by kernel_rfl, ?_, ?_⟩, ?_⟩⟩
  · exact zh_ (by kernel_rfl)
  · exact z8_ (by kernel_rfl)
  · rintro ⟨x0, y1⟩
    kernel_rfl
def za3_ (k : Nat) : Nat → (List Int) → (List Int) → (List Int) → Int → Int → ((List Int) → (List Int) → Option Int) → Option Int
  | 0, _, _, _, _, _, _ => none
  | n + 1, s10, s21, x9, x10, x11, e_0 => (if (decide (x11 < x10)) = true then (if 0 ≤ x11 then (x9[x11.toNat]?).bind fun y_1 => (if (decide ((List.length s21 : Int) ≤ x11)) = true then some 1 else (if 0 ≤ x11 then (s21[x11.toNat]?).bind fun y_2 => (zfv_ y_1 y_2).bind fun r_3 => (if (!(decide (r_3 = 0))) = true then some r_3 else za3_ k n s10 s21 x9 x10 (z0_ (x11 + 1)) e_0) else none)) else none) else e_0 s10 s21)
def zfw_ (k : Nat) (s10 : List Int) (s21 : List Int) : Option Int := za3_ k k s10 s21 s10 (List.length s10 : Int) 0 (fun s_4 s_5 => (if (decide ((List.length s_4 : Int) < (List.length s_5 : Int))) = true then some (-1) else some 0))
def qbj_ : Head := ⟨[(0, (.val (.sl 2 (.int .i64)))), (1, (.val (.sl 2 (.int .i64)))), (9, (.val (.sl 2 (.int .i64)))), (10, (.val (.int .i64))), (11, (.val (.int .i64)))], [], []⟩
def qbk_ : Head := ⟨[(0, (.val (.sl 2 (.int .i64)))), (1, (.val (.sl 2 (.int .i64))))], [], []⟩
def qbl_ (k n : Nat) (x : qbj_.T) (kx : Nat → St → Option Int) : Option Int := za3_ k n x.1.1 x.1.2.1 x.1.2.2.1 x.1.2.2.2.1 x.1.2.2.2.2.1 (fun (s10 : List Int) (s21 : List Int) => kx 0 (qbk_.fill ((s10, s21, ()), (), ())))
def qbm_ (k : Nat) : Oracles Int := ⟨fun n => bif Nat.beq n 2 then some (fun σ kx => qbj_.get σ fun x => qbl_ k k x kx) else none, fun _ => none⟩
def qbn_ (k : Nat) : FE := ⟨(.pr (.sl 2 (.int .i64)) (.sl 2 (.int .i64))), 1, (.int .i64), fun x => zfw_ k x.1 x.2⟩
theorem qbo_ (k : Nat) : zc_ (z3_ ti [(149, qbh_)] (lk []) z4_ z5_) (qbm_ k) (rdC (z3_ ti [(149, qbh_)] (lk []) z4_ z5_) [.tmp 4] (.int .i64)) ((zb_ (z2_ Tryz.f117)).getD 0 .skip) (fun σ kx => qbj_.get σ fun x => qbl_ k k x kx) := by
  refine ⟨qbj_, [(0, qbk_)], fun n x kx => qbl_ k n x kx, k, by kernel_rfl, by kernel_rfl, fun x kx => by kernel_rfl, ?_, fun σ kx => rfl⟩
  rintro n ⟨⟨s10, s21, x9, x10, x11, ⟨⟩⟩, ⟨⟩, ⟨⟩⟩ kx
  kernel_rfl
theorem qbp_ (k : Nat) : FnOK Tryz.prog 117 (qbn_ k) := by
  refine za_ (tab := [(149, qbh_)]) (l := []) z6_ z9_ mix (List.forall_mem_cons.2 ⟨qbi_, (List.forall_mem_nil _)⟩) (List.forall_mem_nil _) ⟨⟨Tryz.f117, (z2_ Tryz.f117), [.tmp 4], (qbm_ k), by kernel_rfl, by kernel_rfl, by kernel_rfl, by kernel_rfl, rfl, by decide, ⟨by kernel_rfl, ?_, ?_⟩, ?_⟩⟩
  · refine zf_ (n := 1) (by kernel_rfl) fun i hi => ?_
    match i, hi with
    | 0, _ => exact zd_ (by kernel_rfl) (qbo_ k)
    | n + 1, hi => omega
  · exact z8_ (by kernel_rfl)
  · rintro ⟨s10, s21⟩
    kernel_rfl
def z7e_ (k : Nat) : Nat → Int → (List Int) → Int → Int → (Int → Option Int) → Option Int
  | 0, _, _, _, _, _ => none
  | n + 1, zero3, x6, x7, x8, e_0 => (if (decide (x8 < x7)) = true then (if 0 ≤ x8 then (x6[x8.toNat]?).bind fun y_1 => (if (!(decide (y_1 = zero3))) = true then some y_1 else z7e_ k n zero3 x6 x7 (z0_ (x8 + 1)) e_0) else none) else e_0 zero3)
def zja_ (k : Nat) (vals0 : List Int) : Option Int := z7e_ k k 0 vals0 (List.length vals0 : Int) 0 (fun zero_2 => some zero_2)
def qbq_ : Head := ⟨[(3, (.val (.int .i64))), (6, (.val (.sl 3 (.int .i64)))), (7, (.val (.int .i64))), (8, (.val (.int .i64)))], [], []⟩
def qbr_ : Head := ⟨[(3, (.val (.int .i64)))], [], []⟩
def qbs_ (k n : Nat) (x : qbq_.T) (kx : Nat → St → Option Int) : Option Int := z7e_ k n x.1.1 x.1.2.1 x.1.2.2.1 x.1.2.2.2.1 (fun (zero3 : Int) => kx 0 (qbr_.fill ((zero3, ()), (), ())))
def qbt_ (k : Nat) : Oracles Int := ⟨fun n => bif Nat.beq n 3 then some (fun σ kx => qbq_.get σ fun x => qbs_ k k x kx) else none, fun _ => none⟩
def qbu_ (k : Nat) : FE := ⟨(.sl 3 (.int .i64)), 1, (.int .i64), fun x => zja_ k x⟩
theorem qbv_ (k : Nat) : zc_ (z3_ ti [] (lk []) z4_ z5_) (qbt_ k) (rdC (z3_ ti [] (lk []) z4_ z5_) [.tmp 2] (.int .i64)) ((zb_ (z2_ Tryz.f115)).getD 0 .skip) (fun σ kx => qbq_.get σ fun x => qbs_ k k x kx) := by
  refine ⟨qbq_, [(0, qbr_)], fun n x kx => qbs_ k n x kx, k, by kernel_rfl, by kernel_rfl, fun x kx => by kernel_rfl, ?_, fun σ kx => rfl⟩
  rintro n ⟨⟨zero3, x6, x7, x8, ⟨⟩⟩, ⟨⟩, ⟨⟩⟩ kx
  kernel_rfl
theorem qbw_ (k : Nat) : FnOK Tryz.prog 115 (qbu_ k) := by
  refine za_ (tab := []) (l := []) z6_ z9_ mix (List.forall_mem_nil _) (List.forall_mem_nil _) ⟨⟨Tryz.f115, (z2_ Tryz.f115), [.tmp 2], (qbt_ k), by kernel_rfl, by kernel_rfl, by kernel_rfl, by kernel_rfl, rfl, by decide, ⟨by kernel_rfl, ?_, ?_⟩, ?_⟩⟩
  · refine zf_ (n := 1) (by kernel_rfl) fun i hi => ?_
    match i, hi with
    | 0, _ => exact zd_ (by kernel_rfl) (qbv_ k)
    | n + 1, hi => omega
  · exact z8_ (by kernel_rfl)
  · rintro vals0
    kernel_rfl
def z7f_ (k : Nat) (a0 : List Int) (b1 : List Int) : Option Int := (zft_ (List.length a0 : Int) (List.length b1 : Int)).bind fun r_1 => (zfw_ k a0 b1).bind fun r_2 => (zja_ k [r_1, r_2]).bind fun r_3 => some r_3
def qbx_ (k : Nat) : FE := ⟨(.pr (.sl 2 (.int .i64)) (.sl 2 (.int .i64))), 1, (.int .i64), fun x => z7f_ k x.1 x.2⟩
theorem qby_ (k : Nat) : FnOK Tryz.prog 75 (qbx_ k) := by
  refine za_ (tab := [(116, qbd_), (117, qbn_ k), (115, qbu_ k)]) (l := []) z6_ z9_ mix (List.forall_mem_cons.2 ⟨qbe_, (List.forall_mem_cons.2 ⟨qbp_ k, (List.forall_mem_cons.2 ⟨qbw_ k, (List.forall_mem_nil _)⟩)⟩)⟩) (List.forall_mem_nil _) ⟨⟨Tryz.f75, (z2_ Tryz.f75), [.tmp 4], (LOn Int), by kernel_rfl, by kernel_rfl, by kernel_rfl, by kernel_rfl, rfl, by decide, ⟨by kernel_rfl, ?_, ?_⟩, ?_⟩⟩
  · exact zh_ (by kernel_rfl)
  · exact z8_ (by kernel_rfl)
  · rintro ⟨a0, b1⟩
    kernel_rfl
def znp_ (n1 : Int) (q_1 : List Int) : Option ((Unit × Unit) × (List Int × Unit) × Unit) := if 0 ≤ n1 ∧ (List.length q_1 + (n1).toNat) * 8 ≤ LIM then some (((), ()), (q_1, ()), ()) else none
def qbz_ : OC := zdr_ 2 (.int .i64) 8
theorem qc0_ : z1b_ Tryz.prog ti 150 qbz_ :=
  zti_ (ρ := (⟨fun n => bif Nat.beq n 4 then 150 else n, fun n => bif Nat.beq n 22 then 68 else bif Nat.beq n 25 then 2 else n, fun n => n⟩ : Go.Shelf.Ren)) z6_ (e := 2) (t := (.int .i64)) (bytes := 8) { mixed := mix, f4 := ⟨Tryz.f150.name, by kernel_rfl, (Tryz.func150).trans (congrArg some (by kernel_rfl))⟩, t0 := Tryz.underlying0, a0 := Tryz.isAgg0, z0 := Tryz.sizeOf0, v0 := Tryz.zeroValue0, t3 := Tryz.underlying3, a3 := Tryz.isAgg3, z3 := Tryz.sizeOf3, v3 := Tryz.zeroValue3, t4 := Tryz.underlying4, a4 := Tryz.isAgg4, z4 := Tryz.sizeOf4, v4 := Tryz.zeroValue4, t9 := Tryz.underlying9, a9 := Tryz.isAgg9, z9 := Tryz.sizeOf9, v9 := Tryz.zeroValue9, t20 := Tryz.underlying20, a20 := Tryz.isAgg20, z20 := Tryz.sizeOf20, v20 := Tryz.zeroValue20, t22 := Tryz.underlying68, a22 := Tryz.isAgg68, z22 := Tryz.sizeOf68, v22 := Tryz.zeroValue68 } rfl (i := (ti[2]?).getD ⟨.oth, .un, 0⟩) (by kernel_rfl) (by kernel_rfl) (by kernel_rfl) (by kernel_rfl) (by kernel_rfl) (by kernel_rfl)
def zfx_ (k : Nat) : Nat → zT4 → Int → zT4 → Int → Int → (zT4 → Int → Option (List Int)) → Option (List Int)
  | 0, _, _, _, _, _, _ => none
  | n + 1, slices0, size3, x9, x10, x11, e_0 => (if (decide (x11 < x10)) = true then (if 0 ≤ x11 then (x9[x11.toNat]?).bind fun y_1 => (if (decide ((z0_ (size3 + (List.length y_1 : Int))) < 0)) = true then none else zfx_ k n slices0 (z0_ (size3 + (List.length y_1 : Int))) x9 x10 (z0_ (x11 + 1)) e_0) else none) else e_0 slices0 size3)
def zfy_ (k : Nat) : Nat → zT4 → Int → Int → (List Int) → ((List Int) → Option (List Int)) → Option (List Int)
  | 0, _, _, _, _, _ => none
  | n + 1, x25, x26, x27, q_5, e_2 => (if (decide (x27 < x26)) = true then (if 0 ≤ x27 then (x25[x27.toNat]?).bind fun y_6 => (if (q_5.length + y_6.length) * 8 ≤ LIM then zfy_ k n x25 x26 (z0_ (x27 + 1)) (q_5 ++ y_6) e_2 else none) else none) else e_2 q_5)
def zfz_ (k : Nat) (slices0 : List (List Int)) : Option (List Int) := zfx_ k k slices0 0 slices0 (List.length slices0 : Int) 0 (fun slices_2 size_3 => (znp_ size_3 []).bind fun y_4 => zfy_ k k slices_2 (List.length slices_2 : Int) 0 y_4.2.1.1 (fun q_7 => some q_7))
def qc1_ : Head := ⟨[(0, (.val (.sl 68 (.sl 2 (.int .i64))))), (3, (.val (.int .i64))), (9, (.val (.sl 68 (.sl 2 (.int .i64))))), (10, (.val (.int .i64))), (11, (.val (.int .i64)))], [], []⟩
def qc2_ : Head := ⟨[(0, (.val (.sl 68 (.sl 2 (.int .i64))))), (3, (.val (.int .i64)))], [], []⟩
def qc3_ (k n : Nat) (x : qc1_.T) (kx : Nat → St → Option (List Int)) : Option (List Int) := zfx_ k n x.1.1 x.1.2.1 x.1.2.2.1 x.1.2.2.2.1 x.1.2.2.2.2.1 (fun (slices0 : List (List Int)) (size3 : Int) => kx 0 (qc2_.fill ((slices0, size3, ()), (), ())))
def qc4_ : Head := ⟨[(6, (.ref 64000000 [])), (25, (.val (.sl 68 (.sl 2 (.int .i64))))), (26, (.val (.int .i64))), (27, (.val (.int .i64)))], [(64000000, 2, (.int .i64), false)], []⟩
def qc5_ : Head := ⟨[(6, (.ref 64000000 []))], [(64000000, 2, (.int .i64), false)], []⟩
def qc6_ (k n : Nat) (x : qc4_.T) (kx : Nat → St → Option (List Int)) : Option (List Int) := zfy_ k n x.1.2.1 x.1.2.2.1 x.1.2.2.2.1 x.2.1.1 (fun (q_7 : List Int) => kx 2 (qc5_.fill (((), ()), (q_7, ()), ())))
def qc7_ (k : Nat) : Oracles (List Int) := ⟨fun n => bif Nat.beq n 3 then some (fun σ kx => qc1_.get σ fun x => qc3_ k k x kx) else bif Nat.beq n 11 then some (fun σ kx => qc4_.get σ fun x => qc6_ k k x kx) else none, fun _ => none⟩
def qc8_ (k : Nat) : FE := ⟨(.sl 68 (.sl 2 (.int .i64))), 1, (.sl 2 (.int .i64)), fun x => zfz_ k x⟩
theorem qc9_ (k : Nat) : zc_ (z3_ ti [] (lk [(24, 150, qbz_)]) z4_ z5_) (qc7_ k) (rdC (z3_ ti [] (lk [(24, 150, qbz_)]) z4_ z5_) [.tmp 2] (.sl 2 (.int .i64))) ((zb_ (z2_ Tryz.f119)).getD 0 .skip) (fun σ kx => qc1_.get σ fun x => qc3_ k k x kx) := by
  refine ⟨qc1_, [(0, qc2_)], fun n x kx => qc3_ k n x kx, k, by kernel_rfl, by kernel_rfl, fun x kx => by kernel_rfl, ?_, fun σ kx => rfl⟩
  rintro n ⟨⟨slices0, size3, x9, x10, x11, ⟨⟩⟩, ⟨⟩, ⟨⟩⟩ kx
  kernel_rfl
theorem qca_ (k : Nat) : zc_ (z3_ ti [] (lk [(24, 150, qbz_)]) z4_ z5_) (qc7_ k) (rdC (z3_ ti [] (lk [(24, 150, qbz_)]) z4_ z5_) [.tmp 2] (.sl 2 (.int .i64))) ((zb_ (z2_ Tryz.f119)).getD 1 .skip) (fun σ kx => qc4_.get σ fun x => qc6_ k k x kx) := by
  refine ⟨qc4_, [(2, qc5_)], fun n x kx => qc6_ k n x kx, k, by kernel_rfl, by kernel_rfl, fun x kx => by kernel_rfl, ?_, fun σ kx => rfl⟩
  rintro n ⟨⟨⟨⟩, x25, x26, x27, ⟨⟩⟩, ⟨q_5, ⟨⟩⟩, ⟨⟩⟩ kx
  kernel_rfl
theorem qcb_ (k : Nat) : FnOK Tryz.prog 119 (qc8_ k) := by
  refine za_ (tab := []) (l := [(24, 150, qbz_)]) z6_ z9_ mix (List.forall_mem_nil _) (List.forall_mem_cons.2 ⟨qc0_, (List.forall_mem_nil _)⟩) ⟨⟨Tryz.f119, (z2_ Tryz.f119), [.tmp 2], (qc7_ k), by kernel_rfl, by kernel_rfl, by kernel_rfl, by kernel_rfl, rfl, by decide, ⟨by kernel_rfl, ?_, ?_⟩, ?_⟩⟩
  · refine zf_ (n := 2) (by kernel_rfl) fun i hi => ?_
    match i, hi with
    | 0, _ => exact zd_ (by kernel_rfl) (qc9_ k)
    | 1, _ => exact zd_ (by kernel_rfl) (qca_ k)
    | n + 2, hi => omega
  · exact z8_ (by kernel_rfl)
  · rintro slices0
    kernel_rfl
def z7g_ (k : Nat) : Nat → (List Int) → Int → Int → zT4 → (zT4 → Option zT4) → Option zT4
  | 0, _, _, _, _, _ => none
  | n + 1, s0, x6, x7, q_1, e_0 => (if (decide (x7 < x6)) = true then (if (decide (1 < (List.length s0 : Int))) = true then (if 0 ≤ (0 : Int) ∧ (0 : Int) ≤ x7 ∧ x7 ≤ s0.length then (if 0 ≤ (z0_ (x7 + 1)) ∧ (z0_ (x7 + 1)) ≤ (s0.length : Int) ∧ (s0.length : Int) ≤ s0.length then (zfz_ k [(s0.take x7.toNat), ((s0.drop ((z0_ (x7 + 1)).toNat)).take (s0.length - (z0_ (x7 + 1)).toNat))]).bind fun r_2 => (if (q_1.length + [r_2].length) * 24 ≤ LIM then z7g_ k n s0 x6 (z0_ (x7 + 1)) (q_1 ++ [r_2]) e_0 else none) else none) else none) else z7g_ k n s0 x6 (z0_ (x7 + 1)) q_1 e_0) else e_0 q_1)
def za4_ (k : Nat) (s0 : List Int) : Option zT4 := z7g_ k k s0 (List.length s0 : Int) 0 [] (fun q_3 => some q_3)
def qcc_ : Head := ⟨[(0, (.val (.sl 2 (.int .i64)))), (3, (.ref 64000000 [])), (6, (.val (.int .i64))), (7, (.val (.int .i64)))], [(64000000, 68, (.sl 2 (.int .i64)), false)], []⟩
def qcd_ : Head := ⟨[(3, (.ref 64000000 []))], [(64000000, 68, (.sl 2 (.int .i64)), false)], []⟩
def qce_ (k n : Nat) (x : qcc_.T) (kx : Nat → St → Option zT4) : Option zT4 := z7g_ k n x.1.1 x.1.2.2.1 x.1.2.2.2.1 x.2.1.1 (fun (q_3 : List (List Int)) => kx 0 (qcd_.fill (((), ()), (q_3, ()), ())))
def qcf_ (k : Nat) : Oracles zT4 := ⟨fun n => bif Nat.beq n 3 then some (fun σ kx => qcc_.get σ fun x => qce_ k k x kx) else none, fun _ => none⟩
def qcg_ (k : Nat) : FE := ⟨(.sl 2 (.int .i64)), 1, (.sl 68 (.sl 2 (.int .i64))), fun x => za4_ k x⟩
theorem qch_ (k : Nat) : zc_ (z3_ ti [(119, qc8_ k)] (lk []) z4_ z5_) (qcf_ k) (rdC (z3_ ti [(119, qc8_ k)] (lk []) z4_ z5_) [.tmp 2] (.sl 68 (.sl 2 (.int .i64)))) ((zb_ (z2_ Tryz.f77)).getD 0 .skip) (fun σ kx => qcc_.get σ fun x => qce_ k k x kx) := by
  refine ⟨qcc_, [(0, qcd_)], fun n x kx => qce_ k n x kx, k, by kernel_rfl, by kernel_rfl, fun x kx => by kernel_rfl, ?_, fun σ kx => rfl⟩
  rintro n ⟨⟨s0, ⟨⟩, x6, x7, ⟨⟩⟩, ⟨q_1, ⟨⟩⟩, ⟨⟩⟩ kx
  kernel_rfl
theorem qci_ (k : Nat) : FnOK Tryz.prog 77 (qcg_ k) := by
  refine za_ (tab := [(119, qc8_ k)]) (l := []) z6_ z9_ mix (List.forall_mem_cons.2 ⟨qcb_ k, (List.forall_mem_nil _)⟩) (List.forall_mem_nil _) ⟨⟨Tryz.f77, (z2_ Tryz.f77), [.tmp 2], (qcf_ k), by kernel_rfl, by kernel_rfl, by kernel_rfl, by kernel_rfl, rfl, by decide, ⟨by kernel_rfl, ?_, ?_⟩, ?_⟩⟩
  · refine zf_ (n := 1) (by kernel_rfl) fun i hi => ?_
    match i, hi with
    | 0, _ => exact zd_ (by kernel_rfl) (qch_ k)
    | n + 1, hi => omega
  · exact z8_ (by kernel_rfl)
  · rintro s0
    kernel_rfl
def z68_ (k : Nat) : Nat → zT4 → (List Int) → Unit → Int → Int → Int → (zT4 → (List Int) → Unit → Int → Int → Option (Int × Bool)) → Option (Int × Bool)
  | 0, _, _, _, _, _, _, _ => none
  | n + 1, x0, target1, cmp2, n8, i9, j10, e_0 => (if (decide (i9 < j10)) = true then (if 0 ≤ (z0_ ((Int.fdiv (z6u_ ((z0_ (i9 + j10)))) (2 ^ 1)))) then (x0[(z0_ ((Int.fdiv (z6u_ ((z0_ (i9 + j10)))) (2 ^ 1)))).toNat]?).bind fun y_1 => (z7f_ k y_1 target1).bind fun r_2 => (if (decide (r_2 < 0)) = true then z68_ k n x0 target1 cmp2 n8 (z0_ ((z0_ ((Int.fdiv (z6u_ ((z0_ (i9 + j10)))) (2 ^ 1)))) + 1)) j10 e_0 else z68_ k n x0 target1 cmp2 n8 i9 (z0_ ((Int.fdiv (z6u_ ((z0_ (i9 + j10)))) (2 ^ 1)))) e_0) else none) else e_0 x0 target1 cmp2 n8 i9)
def zjb_ (k : Nat) (x0 : List (List Int)) (target1 : List Int) (cmp2 : Unit) : Option (Int × Bool) := z68_ k k x0 target1 cmp2 (List.length x0 : Int) 0 (List.length x0 : Int) (fun x_3 target_4 cmp_5 n_6 i_7 => (if (decide (i_7 < n_6)) = true then (if 0 ≤ i_7 then (x_3[i_7.toNat]?).bind fun y_8 => (z7f_ k y_8 target_4).bind fun r_9 => some (i_7, (decide (r_9 = 0))) else none) else some (i_7, false)))
def qcj_ : Head := ⟨[(0, (.val (.sl 68 (.sl 2 (.int .i64))))), (1, (.val (.sl 2 (.int .i64)))), (2, (.val (.fn 75 .un))), (8, (.val (.int .i64))), (9, (.val (.int .i64))), (10, (.val (.int .i64)))], [], []⟩
def qck_ : Head := ⟨[(0, (.val (.sl 68 (.sl 2 (.int .i64))))), (1, (.val (.sl 2 (.int .i64)))), (2, (.val (.fn 75 .un))), (8, (.val (.int .i64))), (9, (.val (.int .i64)))], [], []⟩
def qcl_ (k n : Nat) (x : qcj_.T) (kx : Nat → St → Option (Int × Bool)) : Option (Int × Bool) := z68_ k n x.1.1 x.1.2.1 x.1.2.2.1 x.1.2.2.2.1 x.1.2.2.2.2.1 x.1.2.2.2.2.2.1 (fun (x0 : List (List Int)) (target1 : List Int) (cmp2 : Unit) (n8 : Int) (i9 : Int) => kx 0 (qck_.fill ((x0, target1, cmp2, n8, i9, ()), (), ())))
def qcm_ (k : Nat) : Oracles (Int × Bool) := ⟨fun n => bif Nat.beq n 3 then some (fun σ kx => qcj_.get σ fun x => qcl_ k k x kx) else none, fun _ => none⟩
def qcn_ (k : Nat) : FE := ⟨(.pr (.sl 68 (.sl 2 (.int .i64))) (.pr (.sl 2 (.int .i64)) (.fn 75 .un))), 2, (.pr (.int .i64) .bool), fun x => zjb_ k x.1 x.2.1 x.2.2⟩
theorem qco_ (k : Nat) : zc_ (z3_ ti [(75, qbx_ k)] (lk []) z4_ z5_) (qcm_ k) (rdC (z3_ ti [(75, qbx_ k)] (lk []) z4_ z5_) [.tmp 6, .tmp 7] (.pr (.int .i64) .bool)) ((zb_ (z2_ Tryz.f120)).getD 0 .skip) (fun σ kx => qcj_.get σ fun x => qcl_ k k x kx) := by
  refine ⟨qcj_, [(0, qck_)], fun n x kx => qcl_ k n x kx, k, by kernel_rfl, by kernel_rfl, fun x kx => by kernel_rfl, ?_, fun σ kx => rfl⟩
  rintro n ⟨⟨x0, target1, cmp2, n8, i9, j10, ⟨⟩⟩, ⟨⟩, ⟨⟩⟩ kx
  kernel_rfl
theorem qcp_ (k : Nat) : FnOK Tryz.prog 120 (qcn_ k) := by
  refine za_ (tab := [(75, qbx_ k)]) (l := []) z6_ z9_ mix (List.forall_mem_cons.2 ⟨qby_ k, (List.forall_mem_nil _)⟩) (List.forall_mem_nil _) ⟨⟨Tryz.f120, (z2_ Tryz.f120), [.tmp 6, .tmp 7], (qcm_ k), by kernel_rfl, by kernel_rfl, by kernel_rfl, by kernel_rfl, rfl, by decide, ⟨by kernel_rfl, ?_, ?_⟩, ?_⟩⟩
  · refine zf_ (n := 1) (by kernel_rfl) fun i hi => ?_
    match i, hi with
    | 0, _ => exact zd_ (by kernel_rfl) (qco_ k)
    | n + 1, hi => omega
  · exact z8_ (by kernel_rfl)
  · rintro ⟨x0, target1, cmp2⟩
    kernel_rfl
def zc6_ (k : Nat) (c0 : List (List Int)) (s1 : List Int) : Option Int := (zjb_ k c0 s1 ()).bind fun r_1 => (if (!r_1.2) = true then some (-1) else some r_1.1)
def qcq_ (k : Nat) : FE := ⟨(.pr (.st (.sl 68 (.sl 2 (.int .i64)))) (.sl 2 (.int .i64))), 1, (.int .i64), fun x => zc6_ k x.1 x.2⟩
theorem qcr_ (k : Nat) : FnOK Tryz.prog 79 (qcq_ k) := by
  refine za_ (tab := [(120, qcn_ k)]) (l := []) z6_ z9_ mix (List.forall_mem_cons.2 ⟨qcp_ k, (List.forall_mem_nil _)⟩) (List.forall_mem_nil _) ⟨⟨Tryz.f79, (z2_ Tryz.f79), [.tmp 4], (LOn Int), by kernel_rfl, by kernel_rfl, by kernel_rfl, by kernel_rfl, rfl, by decide, ⟨by kernel_rfl, ?_, ?_⟩, ?_⟩⟩
  · exact zh_ (by kernel_rfl)
  · exact z8_ (by kernel_rfl)
  · rintro ⟨c0, s1⟩
    kernel_rfl
def zjc_ (k : Nat) (f0 : List Int) (x1 : List (List Int)) (x2 : Int) : Option Bool := (if 0 ≤ (0 : Int) ∧ (0 : Int) ≤ x2 ∧ x2 ≤ x1.length then (zc6_ k (x1.take x2.toNat) f0).bind fun r_1 => some (decide (r_1 < 0)) else none)
def qcs_ (k : Nat) : FE := ⟨(.pr (.sl 2 (.int .i64)) (.pr (.ptr (.st (.sl 68 (.sl 2 (.int .i64))))) (.ptr (.int .i64)))), 1, .bool, fun x => zjc_ k x.1 x.2.1 x.2.2⟩
theorem qct_ (k : Nat) : FnOK Tryz.prog 78 (qcs_ k) := by
  refine za_ (tab := [(79, qcq_ k)]) (l := []) z6_ z9_ mix (List.forall_mem_cons.2 ⟨qcr_ k, (List.forall_mem_nil _)⟩) (List.forall_mem_nil _) ⟨⟨Tryz.f78, (z2_ Tryz.f78), [.tmp 4], (LOn Bool), by kernel_rfl, by kernel_rfl, by kernel_rfl, by kernel_rfl, rfl, by decide, ⟨by kernel_rfl, ?_, ?_⟩, ?_⟩⟩
  · exact zh_ (by kernel_rfl)
  · exact z8_ (by kernel_rfl)
  · rintro ⟨f0, x1, x2⟩
    kernel_rfl
def za5_ (k : Nat) : Nat → zT4 → (List (List Int) × Int) → Int → Int → (Option Int) → Option Int
  | 0, _, _, _, _, _ => none
  | n + 1, s0, f1, x7, x8, e_0 => (if (decide (x8 < x7)) = true then (if 0 ≤ x8 then (s0[x8.toNat]?).bind fun y_1 => (zjc_ k y_1 f1.1 f1.2).bind fun r_2 => (if r_2 = true then some x8 else za5_ k n s0 f1 x7 (z0_ (x8 + 1)) e_0) else none) else e_0)
def zjd_ (k : Nat) (s0 : List (List Int)) (f1 : List (List Int) × Int) : Option Int := za5_ k k s0 f1 (List.length s0 : Int) 0 (some (-1))
def qcu_ : Head := ⟨[(0, (.val (.sl 68 (.sl 2 (.int .i64))))), (1, (.val (.fn 78 (.pr (.ptr (.st (.sl 68 (.sl 2 (.int .i64))))) (.ptr (.int .i64)))))), (7, (.val (.int .i64))), (8, (.val (.int .i64)))], [], []⟩
def qcv_ : Head := ⟨[], [], []⟩
def qcw_ (k n : Nat) (x : qcu_.T) (kx : Nat → St → Option Int) : Option Int := za5_ k n x.1.1 x.1.2.1 x.1.2.2.1 x.1.2.2.2.1 (kx 0 (qcv_.fill ((), (), ())))
def qcx_ (k : Nat) : Oracles Int := ⟨fun n => bif Nat.beq n 2 then some (fun σ kx => qcu_.get σ fun x => qcw_ k k x kx) else none, fun _ => none⟩
def qcy_ (k : Nat) : FE := ⟨(.pr (.sl 68 (.sl 2 (.int .i64))) (.fn 78 (.pr (.ptr (.st (.sl 68 (.sl 2 (.int .i64))))) (.ptr (.int .i64))))), 1, (.int .i64), fun x => zjd_ k x.1 x.2⟩
theorem qcz_ (k : Nat) : zc_ (z3_ ti [(78, qcs_ k)] (lk []) z4_ z5_) (qcx_ k) (rdC (z3_ ti [(78, qcs_ k)] (lk []) z4_ z5_) [.tmp 4] (.int .i64)) ((zb_ (z2_ Tryz.f118)).getD 0 .skip) (fun σ kx => qcu_.get σ fun x => qcw_ k k x kx) := by
  refine ⟨qcu_, [(0, qcv_)], fun n x kx => qcw_ k n x kx, k, by kernel_rfl, by kernel_rfl, fun x kx => by kernel_rfl, ?_, fun σ kx => rfl⟩
  rintro n ⟨⟨s0, f1, x7, x8, ⟨⟩⟩, ⟨⟩, ⟨⟩⟩ kx
  kernel_rfl
theorem qd0_ (k : Nat) : FnOK Tryz.prog 118 (qcy_ k) := by
  refine za_ (tab := [(78, qcs_ k)]) (l := []) z6_ z9_ mix (List.forall_mem_cons.2 ⟨qct_ k, (List.forall_mem_nil _)⟩) (List.forall_mem_nil _) ⟨⟨Tryz.f118, (z2_ Tryz.f118), [.tmp 4], (qcx_ k), by kernel_rfl, by kernel_rfl, by kernel_rfl, by kernel_rfl, rfl, by decide, ⟨by kernel_rfl, ?_, ?_⟩, ?_⟩⟩
  · refine zf_ (n := 1) (by kernel_rfl) fun i hi => ?_
    match i, hi with
    | 0, _ => exact zd_ (by kernel_rfl) (qcz_ k)
    | n + 1, hi => omega
  · exact z8_ (by kernel_rfl)
  · rintro ⟨s0, f1⟩
    kernel_rfl
def zc7_ (k : Nat) (s0 : List (List Int)) (f1 : List (List Int) × Int) : Option Bool := (zjd_ k s0 f1).bind fun r_1 => some (decide (0 ≤ r_1))
def qd1_ (k : Nat) : FE := ⟨(.pr (.sl 68 (.sl 2 (.int .i64))) (.fn 78 (.pr (.ptr (.st (.sl 68 (.sl 2 (.int .i64))))) (.ptr (.int .i64))))), 1, .bool, fun x => zc7_ k x.1 x.2⟩
theorem qd2_ (k : Nat) : FnOK Tryz.prog 76 (qd1_ k) := by
  refine za_ (tab := [(118, qcy_ k)]) (l := []) z6_ z9_ mix (List.forall_mem_cons.2 ⟨qd0_ k, (List.forall_mem_nil _)⟩) (List.forall_mem_nil _) ⟨⟨Tryz.f76, (z2_ Tryz.f76), [.tmp 4], (LOn Bool), by kernel_rfl, by kernel_rfl, by kernel_rfl, by kernel_rfl, rfl, by decide, ⟨by kernel_rfl, ?_, ?_⟩, ?_⟩⟩
  · exact zh_ (by kernel_rfl)
  · exact z8_ (by kernel_rfl)
  · rintro ⟨s0, f1⟩
    kernel_rfl
end
end Go.Proofs.YtibiofjkgdidmaaGreatDoor.Ev
