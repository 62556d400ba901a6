/- Functions of the program, as zl_ ones. No conditions. -/
import Derived.Test.YtckbclbmkklaoaaGreatDoorG5
import Derived.KernelRfl
set_option linter.unusedVariables false
set_option maxRecDepth 100000
namespace Go.Proofs.YtckbclbmkklaoaaGreatDoor.Ev
open Go.RowKit
noncomputable section
def znv_ (n1 : Int) (q_1 : List Int) : Option ((Unit × Unit) × (List Int × Unit) × Unit) := if 0 ≤ n1 ∧ (List.length q_1 + (n1).toNat) * 8 ≤ LIM then some (((), ()), (q_1, ()), ()) else none
def qbg_ : OC := zeb_ 2 (.int .i64) 8
theorem qbh_ : z14_ Tryz.prog ti 188 qbg_ :=
  ztw_ (ρ := (⟨fun n => bif Nat.beq n 4 then 188 else n, fun n => bif Nat.beq n 22 then 25 else bif Nat.beq n 25 then 2 else n, fun n => n⟩ : Go.Shelf.Ren)) z4_ (e := 2) (t := (.int .i64)) (bytes := 8) { mixed := mix, f4 := ⟨Tryz.f188.name, by kernel_rfl, (Tryz.func188).trans (congrArg some (by kernel_rfl))⟩, t0 := Tryz.underlying0, a0 := Tryz.isAgg0, z0 := Tryz.sizeOf0, v0 := Tryz.zeroValue0, t3 := Tryz.underlying3, a3 := Tryz.isAgg3, z3 := Tryz.sizeOf3, v3 := Tryz.zeroValue3, t4 := Tryz.underlying4, a4 := Tryz.isAgg4, z4 := Tryz.sizeOf4, v4 := Tryz.zeroValue4, t9 := Tryz.underlying9, a9 := Tryz.isAgg9, z9 := Tryz.sizeOf9, v9 := Tryz.zeroValue9, t20 := Tryz.underlying20, a20 := Tryz.isAgg20, z20 := Tryz.sizeOf20, v20 := Tryz.zeroValue20, t22 := Tryz.underlying25, a22 := Tryz.isAgg25, z22 := Tryz.sizeOf25, v22 := Tryz.zeroValue25 } rfl (i := (ti[2]?).getD ⟨.oth, .un, 0⟩) (by kernel_rfl) (by kernel_rfl) (by kernel_rfl) (by kernel_rfl) (by kernel_rfl) (by kernel_rfl)
def zgc_ (k : Nat) : Nat → (List (List Int)) → Int → (List (List Int)) → Int → Int → ((List (List Int)) → Int → Option (List Int)) → Option (List Int)
  | 0, _, _, _, _, _, _ => none
  | n + 1, slices0, size3, x9, x10, x11, e_0 => (if (decide (x11 < x10)) = true then (if 0 ≤ x11 then (x9[x11.toNat]?).bind fun y_1 => (if (decide ((z0_ (size3 + (List.length y_1 : Int))) < 0)) = true then none else zgc_ k n slices0 (z0_ (size3 + (List.length y_1 : Int))) x9 x10 (z0_ (x11 + 1)) e_0) else none) else e_0 slices0 size3)
def zgd_ (k : Nat) : Nat → (List (List Int)) → Int → Int → (List Int) → ((List Int) → Option (List Int)) → Option (List Int)
  | 0, _, _, _, _, _ => none
  | n + 1, x25, x26, x27, q_5, e_2 => (if (decide (x27 < x26)) = true then (if 0 ≤ x27 then (x25[x27.toNat]?).bind fun y_6 => (if (q_5.length + y_6.length) * 8 ≤ LIM then zgd_ k n x25 x26 (z0_ (x27 + 1)) (q_5 ++ y_6) e_2 else none) else none) else e_2 q_5)
def zge_ (k : Nat) (slices0 : List (List Int)) : Option (List Int) := zgc_ k k slices0 0 slices0 (List.length slices0 : Int) 0 (fun slices_2 size_3 => (znv_ size_3 []).bind fun y_4 => zgd_ k k slices_2 (List.length slices_2 : Int) 0 y_4.2.1.1 (fun q_7 => some q_7))
def qbi_ : Head := ⟨[(0, (.val (.sl 25 (.sl 2 (.int .i64))))), (3, (.val (.int .i64))), (9, (.val (.sl 25 (.sl 2 (.int .i64))))), (10, (.val (.int .i64))), (11, (.val (.int .i64)))], [], []⟩
def qbj_ : Head := ⟨[(0, (.val (.sl 25 (.sl 2 (.int .i64))))), (3, (.val (.int .i64)))], [], []⟩
def qbk_ (k n : Nat) (x : qbi_.T) (kx : Nat → St → Option (List Int)) : Option (List Int) := zgc_ k n x.1.1 x.1.2.1 x.1.2.2.1 x.1.2.2.2.1 x.1.2.2.2.2.1 (fun (slices0 : List (List Int)) (size3 : Int) => kx 0 (qbj_.fill ((slices0, size3, ()), (), ())))
def qbl_ : Head := ⟨[(6, (.ref 64000000 [])), (25, (.val (.sl 25 (.sl 2 (.int .i64))))), (26, (.val (.int .i64))), (27, (.val (.int .i64)))], [(64000000, 2, (.int .i64), false)], []⟩
def qbm_ : Head := ⟨[(6, (.ref 64000000 []))], [(64000000, 2, (.int .i64), false)], []⟩
def qbn_ (k n : Nat) (x : qbl_.T) (kx : Nat → St → Option (List Int)) : Option (List Int) := zgd_ k n x.1.2.1 x.1.2.2.1 x.1.2.2.2.1 x.2.1.1 (fun (q_7 : List Int) => kx 2 (qbm_.fill (((), ()), (q_7, ()), ())))
def qbo_ (k : Nat) : Oracles (List Int) := ⟨fun n => bif Nat.beq n 3 then some (fun σ kx => qbi_.get σ fun x => qbk_ k k x kx) else bif Nat.beq n 11 then some (fun σ kx => qbl_.get σ fun x => qbn_ k k x kx) else none, fun _ => none⟩
def qbp_ (k : Nat) : FE := ⟨(.sl 25 (.sl 2 (.int .i64))), 1, (.sl 2 (.int .i64)), fun x => zge_ k x⟩
theorem qbq_ (k : Nat) : zd_ (z3_ ti [] (lk [(24, 188, qbg_)]) z7_ z8_) (qbo_ k) (rdC (z3_ ti [] (lk [(24, 188, qbg_)]) z7_ z8_) [.tmp 2] (.sl 2 (.int .i64))) ((zc_ (z2_ Tryz.f179)).getD 0 .skip) (fun σ kx => qbi_.get σ fun x => qbk_ k k x kx) := by
  refine ⟨qbi_, [(0, qbj_)], fun n x kx => qbk_ k n x kx, k, by kernel_rfl, by kernel_rfl, fun x kx => by kernel_rfl, ?_, fun σ kx => rfl⟩
  rintro n ⟨⟨slices0, size3, x9, x10, x11, ⟨⟩⟩, ⟨⟩, ⟨⟩⟩ kx
  kernel_rfl
theorem qbr_ (k : Nat) : zd_ (z3_ ti [] (lk [(24, 188, qbg_)]) z7_ z8_) (qbo_ k) (rdC (z3_ ti [] (lk [(24, 188, qbg_)]) z7_ z8_) [.tmp 2] (.sl 2 (.int .i64))) ((zc_ (z2_ Tryz.f179)).getD 1 .skip) (fun σ kx => qbl_.get σ fun x => qbn_ k k x kx) := by
  refine ⟨qbl_, [(2, qbm_)], fun n x kx => qbn_ k n x kx, k, by kernel_rfl, by kernel_rfl, fun x kx => by kernel_rfl, ?_, fun σ kx => rfl⟩
  rintro n ⟨⟨⟨⟩, x25, x26, x27, ⟨⟩⟩, ⟨q_5, ⟨⟩⟩, ⟨⟩⟩ kx
  kernel_rfl
theorem qbs_ (k : Nat) : FnOK Tryz.prog 179 (qbp_ k) := by
  refine za_ (tab := []) (l := [(24, 188, qbg_)]) z4_ z6_ mix (List.forall_mem_nil _) (List.forall_mem_cons.2 ⟨qbh_, (List.forall_mem_nil _)⟩) ⟨⟨Tryz.f179, (z2_ Tryz.f179), [.tmp 2], (qbo_ k), by kernel_rfl, by kernel_rfl, by kernel_rfl, by kernel_rfl, rfl, by decide, ⟨by kernel_rfl, ?_, ?_⟩, ?_⟩⟩
  · refine zi_ (n := 2) (by kernel_rfl) fun i hi => ?_
    match i, hi with
    | 0, _ => exact ze_ (by kernel_rfl) (qbq_ k)
    | 1, _ => exact ze_ (by kernel_rfl) (qbr_ k)
    | n + 2, hi => omega
  · exact z5_ (by kernel_rfl)
  · rintro slices0
    kernel_rfl
def z7p_ (k : Nat) : Nat → (List Int) → Int → Int → (List (List Int)) → ((List (List Int)) → Option (List (List Int))) → Option (List (List Int))
  | 0, _, _, _, _, _ => none
  | n + 1, s0, x6, x7, q_1, e_0 => (if (decide (x7 < x6)) = true then (if (decide (1 < (List.length s0 : Int))) = true then (if 0 ≤ (0 : Int) ∧ (0 : Int) ≤ x7 ∧ x7 ≤ s0.length then (if 0 ≤ (z0_ (x7 + 1)) ∧ (z0_ (x7 + 1)) ≤ (s0.length : Int) ∧ (s0.length : Int) ≤ s0.length then (zge_ k [(s0.take x7.toNat), ((s0.drop ((z0_ (x7 + 1)).toNat)).take (s0.length - (z0_ (x7 + 1)).toNat))]).bind fun r_2 => (if (q_1.length + [r_2].length) * 24 ≤ LIM then z7p_ k n s0 x6 (z0_ (x7 + 1)) (q_1 ++ [r_2]) e_0 else none) else none) else none) else z7p_ k n s0 x6 (z0_ (x7 + 1)) q_1 e_0) else e_0 q_1)
def za6_ (k : Nat) (s0 : List Int) : Option (List (List Int)) := z7p_ k k s0 (List.length s0 : Int) 0 [] (fun q_3 => some q_3)
def qbt_ : Head := ⟨[(0, (.val (.sl 2 (.int .i64)))), (3, (.ref 64000000 [])), (6, (.val (.int .i64))), (7, (.val (.int .i64)))], [(64000000, 25, (.sl 2 (.int .i64)), false)], []⟩
def qbu_ : Head := ⟨[(3, (.ref 64000000 []))], [(64000000, 25, (.sl 2 (.int .i64)), false)], []⟩
def qbv_ (k n : Nat) (x : qbt_.T) (kx : Nat → St → Option (List (List Int))) : Option (List (List Int)) := z7p_ k n x.1.1 x.1.2.2.1 x.1.2.2.2.1 x.2.1.1 (fun (q_3 : List (List Int)) => kx 0 (qbu_.fill (((), ()), (q_3, ()), ())))
def qbw_ (k : Nat) : Oracles (List (List Int)) := ⟨fun n => bif Nat.beq n 3 then some (fun σ kx => qbt_.get σ fun x => qbv_ k k x kx) else none, fun _ => none⟩
def qbx_ (k : Nat) : FE := ⟨(.sl 2 (.int .i64)), 1, (.sl 25 (.sl 2 (.int .i64))), fun x => za6_ k x⟩
theorem qby_ (k : Nat) : zd_ (z3_ ti [(179, qbp_ k)] (lk []) z7_ z8_) (qbw_ k) (rdC (z3_ ti [(179, qbp_ k)] (lk []) z7_ z8_) [.tmp 2] (.sl 25 (.sl 2 (.int .i64)))) ((zc_ (z2_ Tryz.f147)).getD 0 .skip) (fun σ kx => qbt_.get σ fun x => qbv_ k k x kx) := by
  refine ⟨qbt_, [(0, qbu_)], fun n x kx => qbv_ k n x kx, k, by kernel_rfl, by kernel_rfl, fun x kx => by kernel_rfl, ?_, fun σ kx => rfl⟩
  rintro n ⟨⟨s0, ⟨⟩, x6, x7, ⟨⟩⟩, ⟨q_1, ⟨⟩⟩, ⟨⟩⟩ kx
  kernel_rfl
theorem qbz_ (k : Nat) : FnOK Tryz.prog 147 (qbx_ k) := by
  refine za_ (tab := [(179, qbp_ k)]) (l := []) z4_ z6_ mix (List.forall_mem_cons.2 ⟨qbs_ k, (List.forall_mem_nil _)⟩) (List.forall_mem_nil _) ⟨⟨Tryz.f147, (z2_ Tryz.f147), [.tmp 2], (qbw_ k), by kernel_rfl, by kernel_rfl, by kernel_rfl, by kernel_rfl, rfl, by decide, ⟨by kernel_rfl, ?_, ?_⟩, ?_⟩⟩
  · refine zi_ (n := 1) (by kernel_rfl) fun i hi => ?_
    match i, hi with
    | 0, _ => exact ze_ (by kernel_rfl) (qby_ k)
    | n + 1, hi => omega
  · exact z5_ (by kernel_rfl)
  · rintro s0
    kernel_rfl
def z6e_ (k : Nat) : Nat → (List (List Int)) → (List Int) → Unit → Int → Int → Int → ((List (List Int)) → (List Int) → Unit → Int → Int → Option (Int × Bool)) → Option (Int × Bool)
  | 0, _, _, _, _, _, _, _ => none
  | n + 1, x0, target1, cmp2, n8, i9, j10, e_0 => (if (decide (i9 < j10)) = true then (if 0 ≤ (z0_ ((Int.fdiv (z74_ ((z0_ (i9 + j10)))) (2 ^ 1)))) then (x0[(z0_ ((Int.fdiv (z74_ ((z0_ (i9 + j10)))) (2 ^ 1)))).toNat]?).bind fun y_1 => (z7o_ k y_1 target1).bind fun r_2 => (if (decide (r_2 < 0)) = true then z6e_ k n x0 target1 cmp2 n8 (z0_ ((z0_ ((Int.fdiv (z74_ ((z0_ (i9 + j10)))) (2 ^ 1)))) + 1)) j10 e_0 else z6e_ k n x0 target1 cmp2 n8 i9 (z0_ ((Int.fdiv (z74_ ((z0_ (i9 + j10)))) (2 ^ 1)))) e_0) else none) else e_0 x0 target1 cmp2 n8 i9)
def zjf_ (k : Nat) (x0 : List (List Int)) (target1 : List Int) (cmp2 : Unit) : Option (Int × Bool) := z6e_ k k x0 target1 cmp2 (List.length x0 : Int) 0 (List.length x0 : Int) (fun x_3 target_4 cmp_5 n_6 i_7 => (if (decide (i_7 < n_6)) = true then (if 0 ≤ i_7 then (x_3[i_7.toNat]?).bind fun y_8 => (z7o_ k y_8 target_4).bind fun r_9 => some (i_7, (decide (r_9 = 0))) else none) else some (i_7, false)))
def qc0_ : Head := ⟨[(0, (.val (.sl 25 (.sl 2 (.int .i64))))), (1, (.val (.sl 2 (.int .i64)))), (2, (.val (.fn 145 .un))), (8, (.val (.int .i64))), (9, (.val (.int .i64))), (10, (.val (.int .i64)))], [], []⟩
def qc1_ : Head := ⟨[(0, (.val (.sl 25 (.sl 2 (.int .i64))))), (1, (.val (.sl 2 (.int .i64)))), (2, (.val (.fn 145 .un))), (8, (.val (.int .i64))), (9, (.val (.int .i64)))], [], []⟩
def qc2_ (k n : Nat) (x : qc0_.T) (kx : Nat → St → Option (Int × Bool)) : Option (Int × Bool) := z6e_ k n x.1.1 x.1.2.1 x.1.2.2.1 x.1.2.2.2.1 x.1.2.2.2.2.1 x.1.2.2.2.2.2.1 (fun (x0 : List (List Int)) (target1 : List Int) (cmp2 : Unit) (n8 : Int) (i9 : Int) => kx 0 (qc1_.fill ((x0, target1, cmp2, n8, i9, ()), (), ())))
def qc3_ (k : Nat) : Oracles (Int × Bool) := ⟨fun n => bif Nat.beq n 3 then some (fun σ kx => qc0_.get σ fun x => qc2_ k k x kx) else none, fun _ => none⟩
def qc4_ (k : Nat) : FE := ⟨(.pr (.sl 25 (.sl 2 (.int .i64))) (.pr (.sl 2 (.int .i64)) (.fn 145 .un))), 2, (.pr (.int .i64) .bool), fun x => zjf_ k x.1 x.2.1 x.2.2⟩
theorem qc5_ (k : Nat) : zd_ (z3_ ti [(145, qbe_ k)] (lk []) z7_ z8_) (qc3_ k) (rdC (z3_ ti [(145, qbe_ k)] (lk []) z7_ z8_) [.tmp 6, .tmp 7] (.pr (.int .i64) .bool)) ((zc_ (z2_ Tryz.f180)).getD 0 .skip) (fun σ kx => qc0_.get σ fun x => qc2_ k k x kx) := by
  refine ⟨qc0_, [(0, qc1_)], fun n x kx => qc2_ k n x kx, k, by kernel_rfl, by kernel_rfl, fun x kx => by kernel_rfl, ?_, fun σ kx => rfl⟩
  rintro n ⟨⟨x0, target1, cmp2, n8, i9, j10, ⟨⟩⟩, ⟨⟩, ⟨⟩⟩ kx
  kernel_rfl
theorem qc6_ (k : Nat) : FnOK Tryz.prog 180 (qc4_ k) := by
  refine za_ (tab := [(145, qbe_ k)]) (l := []) z4_ z6_ mix (List.forall_mem_cons.2 ⟨qbf_ k, (List.forall_mem_nil _)⟩) (List.forall_mem_nil _) ⟨⟨Tryz.f180, (z2_ Tryz.f180), [.tmp 6, .tmp 7], (qc3_ k), by kernel_rfl, by kernel_rfl, by kernel_rfl, by kernel_rfl, rfl, by decide, ⟨by kernel_rfl, ?_, ?_⟩, ?_⟩⟩
  · refine zi_ (n := 1) (by kernel_rfl) fun i hi => ?_
    match i, hi with
    | 0, _ => exact ze_ (by kernel_rfl) (qc5_ k)
    | n + 1, hi => omega
  · exact z5_ (by kernel_rfl)
  · rintro ⟨x0, target1, cmp2⟩
    kernel_rfl
def zch_ (k : Nat) (c0 : List (List Int)) (s1 : List Int) : Option Int := (zjf_ k c0 s1 ()).bind fun r_1 => (if (!r_1.2) = true then some (-1) else some r_1.1)
def qc7_ (k : Nat) : FE := ⟨(.pr (.st (.sl 25 (.sl 2 (.int .i64)))) (.sl 2 (.int .i64))), 1, (.int .i64), fun x => zch_ k x.1 x.2⟩
theorem qc8_ (k : Nat) : FnOK Tryz.prog 149 (qc7_ k) := by
  refine za_ (tab := [(180, qc4_ k)]) (l := []) z4_ z6_ mix (List.forall_mem_cons.2 ⟨qc6_ k, (List.forall_mem_nil _)⟩) (List.forall_mem_nil _) ⟨⟨Tryz.f149, (z2_ Tryz.f149), [.tmp 4], (LOn Int), by kernel_rfl, by kernel_rfl, by kernel_rfl, by kernel_rfl, rfl, by decide, ⟨by kernel_rfl, ?_, ?_⟩, ?_⟩⟩
  · exact zf_ (by kernel_rfl)
  · exact z5_ (by kernel_rfl)
  · rintro ⟨c0, s1⟩
    kernel_rfl
def zjg_ (k : Nat) (f0 : List Int) (x1 : List (List Int)) (x2 : Int) : Option Bool := (if 0 ≤ (0 : Int) ∧ (0 : Int) ≤ x2 ∧ x2 ≤ x1.length then (zch_ k (x1.take x2.toNat) f0).bind fun r_1 => some (decide (r_1 < 0)) else none)
def qc9_ (k : Nat) : FE := ⟨(.pr (.sl 2 (.int .i64)) (.pr (.ptr (.st (.sl 25 (.sl 2 (.int .i64))))) (.ptr (.int .i64)))), 1, .bool, fun x => zjg_ k x.1 x.2.1 x.2.2⟩
theorem qca_ (k : Nat) : FnOK Tryz.prog 148 (qc9_ k) := by
  refine za_ (tab := [(149, qc7_ k)]) (l := []) z4_ z6_ mix (List.forall_mem_cons.2 ⟨qc8_ k, (List.forall_mem_nil _)⟩) (List.forall_mem_nil _) ⟨⟨Tryz.f148, (z2_ Tryz.f148), [.tmp 4], (LOn Bool), by kernel_rfl, by kernel_rfl, by kernel_rfl, by kernel_rfl, rfl, by decide, ⟨by kernel_rfl, ?_, ?_⟩, ?_⟩⟩
  · exact zf_ (by kernel_rfl)
  · exact z5_ (by kernel_rfl)
  · rintro ⟨f0, x1, x2⟩
    kernel_rfl
def za7_ (k : Nat) : Nat → (List (List Int)) → (List (List Int) × Int) → Int → Int → (Option Int) → Option Int
  | 0, _, _, _, _, _ => none
  | n + 1, s0, f1, x7, x8, e_0 => (if (decide (x8 < x7)) = true then (if 0 ≤ x8 then (s0[x8.toNat]?).bind fun y_1 => (zjg_ k y_1 f1.1 f1.2).bind fun r_2 => (if r_2 = true then some x8 else za7_ k n s0 f1 x7 (z0_ (x8 + 1)) e_0) else none) else e_0)
def zjh_ (k : Nat) (s0 : List (List Int)) (f1 : List (List Int) × Int) : Option Int := za7_ k k s0 f1 (List.length s0 : Int) 0 (some (-1))
def qcb_ : Head := ⟨[(0, (.val (.sl 25 (.sl 2 (.int .i64))))), (1, (.val (.fn 148 (.pr (.ptr (.st (.sl 25 (.sl 2 (.int .i64))))) (.ptr (.int .i64)))))), (7, (.val (.int .i64))), (8, (.val (.int .i64)))], [], []⟩
def qcc_ : Head := ⟨[], [], []⟩
def qcd_ (k n : Nat) (x : qcb_.T) (kx : Nat → St → Option Int) : Option Int := za7_ k n x.1.1 x.1.2.1 x.1.2.2.1 x.1.2.2.2.1 (kx 0 (qcc_.fill ((), (), ())))
def qce_ (k : Nat) : Oracles Int := ⟨fun n => bif Nat.beq n 2 then some (fun σ kx => qcb_.get σ fun x => qcd_ k k x kx) else none, fun _ => none⟩
def qcf_ (k : Nat) : FE := ⟨(.pr (.sl 25 (.sl 2 (.int .i64))) (.fn 148 (.pr (.ptr (.st (.sl 25 (.sl 2 (.int .i64))))) (.ptr (.int .i64))))), 1, (.int .i64), fun x => zjh_ k x.1 x.2⟩
theorem qcg_ (k : Nat) : zd_ (z3_ ti [(148, qc9_ k)] (lk []) z7_ z8_) (qce_ k) (rdC (z3_ ti [(148, qc9_ k)] (lk []) z7_ z8_) [.tmp 4] (.int .i64)) ((zc_ (z2_ Tryz.f178)).getD 0 .skip) (fun σ kx => qcb_.get σ fun x => qcd_ k k x kx) := by
  refine ⟨qcb_, [(0, qcc_)], fun n x kx => qcd_ k n x kx, k, by kernel_rfl, by kernel_rfl, fun x kx => by kernel_rfl, ?_, fun σ kx => rfl⟩
  rintro n ⟨⟨s0, f1, x7, x8, ⟨⟩⟩, ⟨⟩, ⟨⟩⟩ kx
  kernel_rfl
theorem qch_ (k : Nat) : FnOK Tryz.prog 178 (qcf_ k) := by
  refine za_ (tab := [(148, qc9_ k)]) (l := []) z4_ z6_ mix (List.forall_mem_cons.2 ⟨qca_ k, (List.forall_mem_nil _)⟩) (List.forall_mem_nil _) ⟨⟨Tryz.f178, (z2_ Tryz.f178), [.tmp 4], (qce_ k), by kernel_rfl, by kernel_rfl, by kernel_rfl, by kernel_rfl, rfl, by decide, ⟨by kernel_rfl, ?_, ?_⟩, ?_⟩⟩
  · refine zi_ (n := 1) (by kernel_rfl) fun i hi => ?_
    match i, hi with
    | 0, _ => exact ze_ (by kernel_rfl) (qcg_ k)
    | n + 1, hi => omega
  · exact z5_ (by kernel_rfl)
  · rintro ⟨s0, f1⟩
    kernel_rfl
def zci_ (k : Nat) (s0 : List (List Int)) (f1 : List (List Int) × Int) : Option Bool := (zjh_ k s0 f1).bind fun r_1 => some (decide (0 ≤ r_1))
def qci_ (k : Nat) : FE := ⟨(.pr (.sl 25 (.sl 2 (.int .i64))) (.fn 148 (.pr (.ptr (.st (.sl 25 (.sl 2 (.int .i64))))) (.ptr (.int .i64))))), 1, .bool, fun x => zci_ k x.1 x.2⟩
theorem qcj_ (k : Nat) : FnOK Tryz.prog 146 (qci_ k) := by
  refine za_ (tab := [(178, qcf_ k)]) (l := []) z4_ z6_ mix (List.forall_mem_cons.2 ⟨qch_ k, (List.forall_mem_nil _)⟩) (List.forall_mem_nil _) ⟨⟨Tryz.f146, (z2_ Tryz.f146), [.tmp 4], (LOn Bool), by kernel_rfl, by kernel_rfl, by kernel_rfl, by kernel_rfl, rfl, by decide, ⟨by kernel_rfl, ?_, ?_⟩, ?_⟩⟩
  · exact zf_ (by kernel_rfl)
  · exact z5_ (by kernel_rfl)
  · rintro ⟨s0, f1⟩
    kernel_rfl
def z7q_ (k : Nat) : Nat → (List (List Int)) → Int → Int → (List (List Int)) → ((List (List Int)) → Option Bool) → Option Bool
  | 0, _, _, _, _, _ => none
  | n + 1, x6, x7, x8, v_1, e_0 => (if (decide (x8 < x7)) = true then (if 0 ≤ x8 then (x6[x8.toNat]?).bind fun y_1 => (zg7_ k y_1).bind fun r_2 => (if (!r_2) = true then some false else (if (decide (0 < x8)) = true then (if 0 ≤ (z0_ (x8 - 1)) then (v_1[(z0_ (x8 - 1)).toNat]?).bind fun y_3 => (z7o_ k y_3 y_1).bind fun r_4 => (if (decide (0 ≤ r_4)) = true then some false else (za6_ k y_1).bind fun r_5 => (zci_ k r_5 (v_1, x8)).bind fun r_6 => (if r_6 = true then some false else z7q_ k n x6 x7 (z0_ (x8 + 1)) v_1 e_0)) else none) else (za6_ k y_1).bind fun r_7 => (zci_ k r_7 (v_1, x8)).bind fun r_8 => (if r_8 = true then some false else z7q_ k n x6 x7 (z0_ (x8 + 1)) v_1 e_0))) else none) else e_0 v_1)
def zcj_ (k : Nat) (c0 : List (List Int)) : Option Bool := z7q_ k k c0 (List.length c0 : Int) 0 c0 (fun v_9 => some (decide ((List.length v_9 : Int) ≤ 48)))
def qck_ : Head := ⟨[(1, (.bp 1 [] 0)), (6, (.val (.sl 25 (.sl 2 (.int .i64))))), (7, (.val (.int .i64))), (8, (.val (.int .i64)))], [], [(1, 44, (.val (.st (.sl 25 (.sl 2 (.int .i64))))))]⟩
def qcl_ : Head := ⟨[(1, (.bp 1 [] 0))], [], [(1, 44, (.val (.st (.sl 25 (.sl 2 (.int .i64))))))]⟩
def qcm_ (k n : Nat) (x : qck_.T) (kx : Nat → St → Option Bool) : Option Bool := z7q_ k n x.1.2.1 x.1.2.2.1 x.1.2.2.2.1 x.2.2.1 (fun (v_1 : List (List Int)) => kx 0 (qcl_.fill (((), ()), (), (v_1, ()))))
def qcn_ (k : Nat) : Oracles Bool := ⟨fun n => bif Nat.beq n 2 then some (fun σ kx => qck_.get σ fun x => qcm_ k k x kx) else none, fun _ => none⟩
def qco_ (k : Nat) : FE := ⟨(.st (.sl 25 (.sl 2 (.int .i64)))), 1, .bool, fun x => zcj_ k x⟩
theorem qcp_ (k : Nat) : zd_ (z3_ ti [(144, qaq_ k), (145, qbe_ k), (147, qbx_ k), (146, qci_ k)] (lk []) z7_ z8_) (qcn_ k) (rdC (z3_ ti [(144, qaq_ k), (145, qbe_ k), (147, qbx_ k), (146, qci_ k)] (lk []) z7_ z8_) [.tmp 2] .bool) ((zc_ (z2_ Tryz.f107)).getD 0 .skip) (fun σ kx => qck_.get σ fun x => qcm_ k k x kx) := by
  refine ⟨qck_, [(0, qcl_)], fun n x kx => qcm_ k n x kx, k, by kernel_rfl, by kernel_rfl, fun x kx => by kernel_rfl, ?_, fun σ kx => rfl⟩
  rintro n ⟨⟨⟨⟩, x6, x7, x8, ⟨⟩⟩, ⟨⟩, ⟨v_1, ⟨⟩⟩⟩ kx
  kernel_rfl
theorem qcq_ (k : Nat) : FnOK Tryz.prog 107 (qco_ k) := by
  refine za_ (tab := [(144, qaq_ k), (145, qbe_ k), (147, qbx_ k), (146, qci_ k)]) (l := []) z4_ z6_ mix (List.forall_mem_cons.2 ⟨qar_ k, (List.forall_mem_cons.2 ⟨qbf_ k, (List.forall_mem_cons.2 ⟨qbz_ k, (List.forall_mem_cons.2 ⟨qcj_ k, (List.forall_mem_nil _)⟩)⟩)⟩)⟩) (List.forall_mem_nil _) ⟨⟨Tryz.f107, (z2_ Tryz.f107), [.tmp 2], (qcn_ k), by kernel_rfl, by kernel_rfl, by kernel_rfl, by kernel_rfl, rfl, by decide, ⟨by kernel_rfl, ?_, ?_⟩, ?_⟩⟩
  · refine zi_ (n := 1) (by kernel_rfl) fun i hi => ?_
    match i, hi with
    | 0, _ => exact ze_ (by kernel_rfl) (qcp_ k)
    | n + 1, hi => omega
  · exact z5_ (by kernel_rfl)
  · rintro c0
    kernel_rfl
def z5f_ (k : Nat) : Nat → Int → Int → (Option Bool) → Option Bool
  | 0, _, _, _ => none
  | n + 1, p0, d3, e_0 => (if (decide ((z0_ (d3 * d3)) ≤ p0)) = true then (if d3 = 0 then none else (if (decide ((Int.tmod p0 d3) = 0)) = true then some false else z5f_ k n p0 (z0_ (d3 + 1)) e_0)) else e_0)
def za8_ (k : Nat) (p0 : Int) : Option Bool := (z32_ p0 2 251).bind fun r_1 => (if (!r_1) = true then some false else z5f_ k k p0 2 (some true))
def qcr_ : Head := ⟨[(0, (.val (.int .i64))), (3, (.val (.int .i64)))], [], []⟩
def qcs_ : Head := ⟨[], [], []⟩
def qct_ (k n : Nat) (x : qcr_.T) (kx : Nat → St → Option Bool) : Option Bool := z5f_ k n x.1.1 x.1.2.1 (kx 0 (qcs_.fill ((), (), ())))
def qcu_ (k : Nat) : Oracles Bool := ⟨fun n => bif Nat.beq n 4 then some (fun σ kx => qcr_.get σ fun x => qct_ k k x kx) else none, fun _ => none⟩
def qcv_ (k : Nat) : FE := ⟨(.int .i64), 1, .bool, fun x => za8_ k x⟩
theorem qcw_ (k : Nat) : zd_ (z3_ ti [(112, qab_)] (lk []) z7_ z8_) (qcu_ k) (rdC (z3_ ti [(112, qab_)] (lk []) z7_ z8_) [.tmp 2] .bool) ((zc_ (z2_ Tryz.f108)).getD 0 .skip) (fun σ kx => qcr_.get σ fun x => qct_ k k x kx) := by
  refine ⟨qcr_, [(0, qcs_)], fun n x kx => qct_ k n x kx, k, by kernel_rfl, by kernel_rfl, fun x kx => by kernel_rfl, ?_, fun σ kx => rfl⟩
  rintro n ⟨⟨p0, d3, ⟨⟩⟩, ⟨⟩, ⟨⟩⟩ kx
  kernel_rfl
theorem qcx_ (k : Nat) : FnOK Tryz.prog 108 (qcv_ k) := by
  refine za_ (tab := [(112, qab_)]) (l := []) z4_ z6_ mix (List.forall_mem_cons.2 ⟨qac_, (List.forall_mem_nil _)⟩) (List.forall_mem_nil _) ⟨⟨Tryz.f108, (z2_ Tryz.f108), [.tmp 2], (qcu_ k), by kernel_rfl, by kernel_rfl, by kernel_rfl, by kernel_rfl, rfl, by decide, ⟨by kernel_rfl, ?_, ?_⟩, ?_⟩⟩
  · refine zi_ (n := 1) (by kernel_rfl) fun i hi => ?_
    match i, hi with
    | 0, _ => exact ze_ (by kernel_rfl) (qcw_ k)
    | n + 1, hi => omega
  · exact z5_ (by kernel_rfl)
  · rintro p0
    kernel_rfl
def zji_ (n0 : Int) : Option Bool := (z32_ n0 0 3).bind fun r_1 => some (!r_1)
def qcy_ : FE := ⟨(.int .i64), 1, .bool, fun x => zji_ x⟩
theorem qcz_ : FnOK Tryz.prog 150 (qcy_) := by
  refine za_ (tab := [(112, qab_)]) (l := []) z4_ z6_ mix (List.forall_mem_cons.2 ⟨qac_, (List.forall_mem_nil _)⟩) (List.forall_mem_nil _) ⟨⟨Tryz.f150, (z2_ Tryz.f150), [.tmp 2], (LOn Bool), by kernel_rfl, by kernel_rfl, by kernel_rfl, by kernel_rfl, rfl, by decide, ⟨by kernel_rfl, ?_, ?_⟩, ?_⟩⟩
  · exact zf_ (by kernel_rfl)
  · exact z5_ (by kernel_rfl)
  · rintro n0
    kernel_rfl
def za9_ (k : Nat) : Nat → (List Int) → Unit → Int → Int → (Option Int) → Option Int
  | 0, _, _, _, _, _ => none
  | n + 1, s0, f1, x7, x8, e_0 => (if (decide (x8 < x7)) = true then (if 0 ≤ x8 then (s0[x8.toNat]?).bind fun y_1 => (zji_ y_1).bind fun r_2 => (if r_2 = true then some x8 else za9_ k n s0 f1 x7 (z0_ (x8 + 1)) e_0) else none) else e_0)
def zjj_ (k : Nat) (s0 : List Int) (f1 : Unit) : Option Int := za9_ k k s0 f1 (List.length s0 : Int) 0 (some (-1))
def qd0_ : Head := ⟨[(0, (.val (.sl 2 (.int .i64)))), (1, (.val (.fn 150 .un))), (7, (.val (.int .i64))), (8, (.val (.int .i64)))], [], []⟩
def qd1_ : Head := ⟨[], [], []⟩
def qd2_ (k n : Nat) (x : qd0_.T) (kx : Nat → St → Option Int) : Option Int := za9_ k n x.1.1 x.1.2.1 x.1.2.2.1 x.1.2.2.2.1 (kx 0 (qd1_.fill ((), (), ())))
def qd3_ (k : Nat) : Oracles Int := ⟨fun n => bif Nat.beq n 2 then some (fun σ kx => qd0_.get σ fun x => qd2_ k k x kx) else none, fun _ => none⟩
def qd4_ (k : Nat) : FE := ⟨(.pr (.sl 2 (.int .i64)) (.fn 150 .un)), 1, (.int .i64), fun x => zjj_ k x.1 x.2⟩
theorem qd5_ (k : Nat) : zd_ (z3_ ti [(150, qcy_)] (lk []) z7_ z8_) (qd3_ k) (rdC (z3_ ti [(150, qcy_)] (lk []) z7_ z8_) [.tmp 4] (.int .i64)) ((zc_ (z2_ Tryz.f159)).getD 0 .skip) (fun σ kx => qd0_.get σ fun x => qd2_ k k x kx) := by
  refine ⟨qd0_, [(0, qd1_)], fun n x kx => qd2_ k n x kx, k, by kernel_rfl, by kernel_rfl, fun x kx => by kernel_rfl, ?_, fun σ kx => rfl⟩
  rintro n ⟨⟨s0, f1, x7, x8, ⟨⟩⟩, ⟨⟩, ⟨⟩⟩ kx
  kernel_rfl
theorem qd6_ (k : Nat) : FnOK Tryz.prog 159 (qd4_ k) := by
  refine za_ (tab := [(150, qcy_)]) (l := []) z4_ z6_ mix (List.forall_mem_cons.2 ⟨qcz_, (List.forall_mem_nil _)⟩) (List.forall_mem_nil _) ⟨⟨Tryz.f159, (z2_ Tryz.f159), [.tmp 4], (qd3_ k), by kernel_rfl, by kernel_rfl, by kernel_rfl, by kernel_rfl, rfl, by decide, ⟨by kernel_rfl, ?_, ?_⟩, ?_⟩⟩
  · refine zi_ (n := 1) (by kernel_rfl) fun i hi => ?_
    match i, hi with
    | 0, _ => exact ze_ (by kernel_rfl) (qd5_ k)
    | n + 1, hi => omega
  · exact z5_ (by kernel_rfl)
  · rintro ⟨s0, f1⟩
    kernel_rfl
def zgf_ (k : Nat) (s0 : List Int) (f1 : Unit) : Option Bool := (zjj_ k s0 f1).bind fun r_1 => some (decide (0 ≤ r_1))
def qd7_ (k : Nat) : FE := ⟨(.pr (.sl 2 (.int .i64)) (.fn 150 .un)), 1, .bool, fun x => zgf_ k x.1 x.2⟩
theorem qd8_ (k : Nat) : FnOK Tryz.prog 119 (qd7_ k) := by
  refine za_ (tab := [(159, qd4_ k)]) (l := []) z4_ z6_ mix (List.forall_mem_cons.2 ⟨qd6_ k, (List.forall_mem_nil _)⟩) (List.forall_mem_nil _) ⟨⟨Tryz.f119, (z2_ Tryz.f119), [.tmp 4], (LOn Bool), by kernel_rfl, by kernel_rfl, by kernel_rfl, by kernel_rfl, rfl, by decide, ⟨by kernel_rfl, ?_, ?_⟩, ?_⟩⟩
  · exact zf_ (by kernel_rfl)
  · exact z5_ (by kernel_rfl)
  · rintro ⟨s0, f1⟩
    kernel_rfl
def z3s_ (list0 : List Int) : Option Int := some (List.length list0 : Int)
def qd9_ : FE := ⟨(.sl 2 (.int .i64)), 1, (.int .i64), fun x => z3s_ x⟩
theorem qda_ : FnOK Tryz.prog 31 (qd9_) := by
  refine za_ (tab := []) (l := []) z4_ z6_ mix (List.forall_mem_nil _) (List.forall_mem_nil _) ⟨⟨Tryz.f31, (z2_ Tryz.f31), [.tmp 2], (LOn Int), by kernel_rfl, by kernel_rfl, by kernel_rfl, by kernel_rfl, rfl, by decide, ⟨by kernel_rfl, ?_, ?_⟩, ?_⟩⟩
  · exact zf_ (by kernel_rfl)
  · exact z5_ (by kernel_rfl)
  · rintro list0
    kernel_rfl
def z7r_ (k : Nat) : Nat → Int → (List (List Int)) → Int → Int → (List Int) → ((List Int) → Option (List Int)) → Option (List Int)
  | 0, _, _, _, _, _, _ => none
  | n + 1, dimension1, x9, x10, x11, q_1, e_0 => (if (decide (x11 < x10)) = true then (if 0 ≤ x11 then (x9[x11.toNat]?).bind fun y_2 => (z3s_ y_2).bind fun r_3 => (if (decide (r_3 = (z0_ (dimension1 + 1)))) = true then (if (q_1.length + [x11].length) * 8 ≤ LIM then z7r_ k n dimension1 x9 x10 (z0_ (x11 + 1)) (q_1 ++ [x11]) e_0 else none) else z7r_ k n dimension1 x9 x10 (z0_ (x11 + 1)) q_1 e_0) else none) else e_0 q_1)
def zgg_ (k : Nat) (c0 : List (List Int)) (dimension1 : Int) : Option (List Int) := z7r_ k k dimension1 c0 (List.length c0 : Int) 0 [] (fun q_4 => some q_4)
def qdb_ : Head := ⟨[(1, (.val (.int .i64))), (5, (.ref 64000000 [])), (9, (.val (.sl 25 (.sl 2 (.int .i64))))), (10, (.val (.int .i64))), (11, (.val (.int .i64)))], [(64000000, 2, (.int .i64), false)], []⟩
def qdc_ : Head := ⟨[(5, (.ref 64000000 []))], [(64000000, 2, (.int .i64), false)], []⟩
def qdd_ (k n : Nat) (x : qdb_.T) (kx : Nat → St → Option (List Int)) : Option (List Int) := z7r_ k n x.1.1 x.1.2.2.1 x.1.2.2.2.1 x.1.2.2.2.2.1 x.2.1.1 (fun (q_4 : List Int) => kx 0 (qdc_.fill (((), ()), (q_4, ()), ())))
def qde_ (k : Nat) : Oracles (List Int) := ⟨fun n => bif Nat.beq n 3 then some (fun σ kx => qdb_.get σ fun x => qdd_ k k x kx) else none, fun _ => none⟩
def qdf_ (k : Nat) : FE := ⟨(.pr (.st (.sl 25 (.sl 2 (.int .i64)))) (.int .i64)), 1, (.sl 2 (.int .i64)), fun x => zgg_ k x.1 x.2⟩
theorem qdg_ (k : Nat) : zd_ (z3_ ti [(31, qd9_)] (lk []) z7_ z8_) (qde_ k) (rdC (z3_ ti [(31, qd9_)] (lk []) z7_ z8_) [.tmp 4] (.sl 2 (.int .i64))) ((zc_ (z2_ Tryz.f129)).getD 0 .skip) (fun σ kx => qdb_.get σ fun x => qdd_ k k x kx) := by
  refine ⟨qdb_, [(0, qdc_)], fun n x kx => qdd_ k n x kx, k, by kernel_rfl, by kernel_rfl, fun x kx => by kernel_rfl, ?_, fun σ kx => rfl⟩
  rintro n ⟨⟨dimension1, ⟨⟩, x9, x10, x11, ⟨⟩⟩, ⟨q_1, ⟨⟩⟩, ⟨⟩⟩ kx
  kernel_rfl
theorem qdh_ (k : Nat) : FnOK Tryz.prog 129 (qdf_ k) := by
  refine za_ (tab := [(31, qd9_)]) (l := []) z4_ z6_ mix (List.forall_mem_cons.2 ⟨qda_, (List.forall_mem_nil _)⟩) (List.forall_mem_nil _) ⟨⟨Tryz.f129, (z2_ Tryz.f129), [.tmp 4], (qde_ k), by kernel_rfl, by kernel_rfl, by kernel_rfl, by kernel_rfl, rfl, by decide, ⟨by kernel_rfl, ?_, ?_⟩, ?_⟩⟩
  · refine zi_ (n := 1) (by kernel_rfl) fun i hi => ?_
    match i, hi with
    | 0, _ => exact ze_ (by kernel_rfl) (qdg_ k)
    | n + 1, hi => omega
  · exact z5_ (by kernel_rfl)
  · rintro ⟨c0, dimension1⟩
    kernel_rfl
end
end Go.Proofs.YtckbclbmkklaoaaGreatDoor.Ev
