/- Functions of the program, as plain ones. No conditions. -/
import Derived.Test.YtibiofjkgdidmaaGreatDoorG0
import Derived.KernelRfl
set_option linter.unusedVariables false
set_option maxRecDepth 100000
namespace Go.Proofs.YtibiofjkgdidmaaGreatDoor.Ev
open Go.RowKit
noncomputable section
def z8k_ (a0 : List Int) (left1 : Int) : Option Int := (if (decide ((z0_ (left1 - (List.length a0 : Int))) < 0)) = true then some (-1) else some (z0_ (left1 - (List.length a0 : Int))))
def q0_ : FE := ⟨(.pr (.sl 2 (.int .i64)) (.int .i64)), 1, (.int .i64), fun x => z8k_ x.1 x.2⟩
theorem q1_ : FnOK Tryz.prog 95 (q0_) := by
  refine za_ (tab := []) (l := []) z6_ z9_ mix (List.forall_mem_nil _) (List.forall_mem_nil _) ⟨⟨Tryz.f95, (z2_ Tryz.f95), [.tmp 4], (LOn Int), by kernel_rfl, by kernel_rfl, by kernel_rfl, by kernel_rfl, rfl, by decide, ⟨by kernel_rfl, ?_, ?_⟩, ?_⟩⟩
  · exact zh_ (by kernel_rfl)
  · exact z8_ (by kernel_rfl)
  · rintro ⟨a0, left1⟩
    kernel_rfl
def z8l_ (k : Nat) : Nat → zT4 → Int → Int → (Int → Option Int) → Option Int
  | 0, _, _, _, _ => none
  | n + 1, a0, left1, i5, e_0 => (if (decide (i5 < (List.length a0 : Int))) = true then (if 0 ≤ i5 then (a0[i5.toNat]?).bind fun y_1 => (z8k_ y_1 left1).bind fun r_2 => (if (decide (r_2 < 0)) = true then some (-1) else z8l_ k n a0 r_2 (z0_ (i5 + 1)) e_0) else none) else e_0 left1)
def zdt_ (k : Nat) (a0 : List (List Int)) (left1 : Int) : Option Int := (if (decide ((z0_ (left1 - (List.length a0 : Int))) < 0)) = true then some (-1) else z8l_ k k a0 (z0_ (left1 - (List.length a0 : Int))) 0 (fun left_3 => some left_3))
def q2_ : Head := ⟨[(0, (.val (.sl 68 (.sl 2 (.int .i64))))), (1, (.val (.int .i64))), (5, (.val (.int .i64)))], [], []⟩
def q3_ : Head := ⟨[(1, (.val (.int .i64)))], [], []⟩
def q4_ (k n : Nat) (x : q2_.T) (kx : Nat → St → Option Int) : Option Int := z8l_ k n x.1.1 x.1.2.1 x.1.2.2.1 (fun (left1 : Int) => kx 0 (q3_.fill ((left1, ()), (), ())))
def q5_ (k : Nat) : Oracles Int := ⟨fun n => bif Nat.beq n 5 then some (fun σ kx => q2_.get σ fun x => q4_ k k x kx) else none, fun _ => none⟩
def q6_ (k : Nat) : FE := ⟨(.pr (.sl 68 (.sl 2 (.int .i64))) (.int .i64)), 1, (.int .i64), fun x => zdt_ k x.1 x.2⟩
theorem q7_ (k : Nat) : zc_ (z3_ ti [(95, q0_)] (lk []) z4_ z5_) (q5_ k) (rdC (z3_ ti [(95, q0_)] (lk []) z4_ z5_) [.tmp 4] (.int .i64)) ((zb_ (z2_ Tryz.f94)).getD 0 .skip) (fun σ kx => q2_.get σ fun x => q4_ k k x kx) := by
  refine ⟨q2_, [(0, q3_)], fun n x kx => q4_ k n x kx, k, by kernel_rfl, by kernel_rfl, fun x kx => by kernel_rfl, ?_, fun σ kx => rfl⟩
  rintro n ⟨⟨a0, left1, i5, ⟨⟩⟩, ⟨⟩, ⟨⟩⟩ kx
  kernel_rfl
theorem q8_ (k : Nat) : FnOK Tryz.prog 94 (q6_ k) := by
  refine za_ (tab := [(95, q0_)]) (l := []) z6_ z9_ mix (List.forall_mem_cons.2 ⟨q1_, (List.forall_mem_nil _)⟩) (List.forall_mem_nil _) ⟨⟨Tryz.f94, (z2_ Tryz.f94), [.tmp 4], (q5_ k), by kernel_rfl, by kernel_rfl, by kernel_rfl, by kernel_rfl, rfl, by decide, ⟨by kernel_rfl, ?_, ?_⟩, ?_⟩⟩
  · refine zf_ (n := 1) (by kernel_rfl) fun i hi => ?_
    match i, hi with
    | 0, _ => exact zd_ (by kernel_rfl) (q7_ k)
    | n + 1, hi => omega
  · exact z8_ (by kernel_rfl)
  · rintro ⟨a0, left1⟩
    kernel_rfl
def zbn_ (k : Nat) (a0 : List (List Int)) (left1 : Int) : Option Int := (zdt_ k a0 left1).bind fun r_1 => (if (decide (r_1 < 0)) = true then some (-1) else some r_1)
def q9_ (k : Nat) : FE := ⟨(.pr (.st (.sl 68 (.sl 2 (.int .i64)))) (.int .i64)), 1, (.int .i64), fun x => zbn_ k x.1 x.2⟩
theorem qa_ (k : Nat) : FnOK Tryz.prog 56 (q9_ k) := by
  refine za_ (tab := [(94, q6_ k)]) (l := []) z6_ z9_ mix (List.forall_mem_cons.2 ⟨q8_ k, (List.forall_mem_nil _)⟩) (List.forall_mem_nil _) ⟨⟨Tryz.f56, (z2_ Tryz.f56), [.tmp 4], (LOn Int), by kernel_rfl, by kernel_rfl, by kernel_rfl, by kernel_rfl, rfl, by decide, ⟨by kernel_rfl, ?_, ?_⟩, ?_⟩⟩
  · exact zh_ (by kernel_rfl)
  · exact z8_ (by kernel_rfl)
  · rintro ⟨a0, left1⟩
    kernel_rfl
def zdu_ (k : Nat) (a0 : List UInt8 × List (List Int)) (left1 : Int) : Option Int := (if (decide ((z0_ (left1 - (List.length a0.1 : Int))) < 0)) = true then some (-1) else (zbn_ k a0.2 (z0_ (left1 - (List.length a0.1 : Int)))).bind fun r_1 => (if (decide (r_1 < 0)) = true then some (-1) else some r_1))
def qb_ (k : Nat) : FE := ⟨(.pr (.st (.pr .str (.st (.sl 68 (.sl 2 (.int .i64)))))) (.int .i64)), 1, (.int .i64), fun x => zdu_ k x.1 x.2⟩
theorem qc_ (k : Nat) : FnOK Tryz.prog 27 (qb_ k) := by
  refine za_ (tab := [(56, q9_ k)]) (l := []) z6_ z9_ mix (List.forall_mem_cons.2 ⟨qa_ k, (List.forall_mem_nil _)⟩) (List.forall_mem_nil _) ⟨⟨Tryz.f27, (z2_ Tryz.f27), [.tmp 4], (LOn Int), by kernel_rfl, by kernel_rfl, by kernel_rfl, by kernel_rfl, rfl, by decide, ⟨by kernel_rfl, ?_, ?_⟩, ?_⟩⟩
  · exact zh_ (by kernel_rfl)
  · exact z8_ (by kernel_rfl)
  · rintro ⟨a0, left1⟩
    kernel_rfl
def z8m_ (k : Nat) : Nat → zT1 → Int → Int → (Int → Option Int) → Option Int
  | 0, _, _, _, _ => none
  | n + 1, a0, left1, i5, e_0 => (if (decide (i5 < (List.length a0 : Int))) = true then (if 0 ≤ i5 then (a0[i5.toNat]?).bind fun y_1 => (zdu_ k y_1 left1).bind fun r_2 => (if (decide (r_2 < 0)) = true then some (-1) else z8m_ k n a0 r_2 (z0_ (i5 + 1)) e_0) else none) else e_0 left1)
def zdv_ (k : Nat) (a0 : List (List UInt8 × List (List Int))) (left1 : Int) : Option Int := (if (decide ((z0_ (left1 - (List.length a0 : Int))) < 0)) = true then some (-1) else z8m_ k k a0 (z0_ (left1 - (List.length a0 : Int))) 0 (fun left_3 => some left_3))
def qd_ : Head := ⟨[(0, (.val (.sl 66 (.st (.pr .str (.st (.sl 68 (.sl 2 (.int .i64))))))))), (1, (.val (.int .i64))), (5, (.val (.int .i64)))], [], []⟩
def qe_ : Head := ⟨[(1, (.val (.int .i64)))], [], []⟩
def qf_ (k n : Nat) (x : qd_.T) (kx : Nat → St → Option Int) : Option Int := z8m_ k n x.1.1 x.1.2.1 x.1.2.2.1 (fun (left1 : Int) => kx 0 (qe_.fill ((left1, ()), (), ())))
def qg_ (k : Nat) : Oracles Int := ⟨fun n => bif Nat.beq n 5 then some (fun σ kx => qd_.get σ fun x => qf_ k k x kx) else none, fun _ => none⟩
def qh_ (k : Nat) : FE := ⟨(.pr (.sl 66 (.st (.pr .str (.st (.sl 68 (.sl 2 (.int .i64))))))) (.int .i64)), 1, (.int .i64), fun x => zdv_ k x.1 x.2⟩
theorem qi_ (k : Nat) : zc_ (z3_ ti [(27, qb_ k)] (lk []) z4_ z5_) (qg_ k) (rdC (z3_ ti [(27, qb_ k)] (lk []) z4_ z5_) [.tmp 4] (.int .i64)) ((zb_ (z2_ Tryz.f13)).getD 0 .skip) (fun σ kx => qd_.get σ fun x => qf_ k k x kx) := by
  refine ⟨qd_, [(0, qe_)], fun n x kx => qf_ k n x kx, k, by kernel_rfl, by kernel_rfl, fun x kx => by kernel_rfl, ?_, fun σ kx => rfl⟩
  rintro n ⟨⟨a0, left1, i5, ⟨⟩⟩, ⟨⟩, ⟨⟩⟩ kx
  kernel_rfl
theorem qj_ (k : Nat) : FnOK Tryz.prog 13 (qh_ k) := by
  refine za_ (tab := [(27, qb_ k)]) (l := []) z6_ z9_ mix (List.forall_mem_cons.2 ⟨qc_ k, (List.forall_mem_nil _)⟩) (List.forall_mem_nil _) ⟨⟨Tryz.f13, (z2_ Tryz.f13), [.tmp 4], (qg_ k), by kernel_rfl, by kernel_rfl, by kernel_rfl, by kernel_rfl, rfl, by decide, ⟨by kernel_rfl, ?_, ?_⟩, ?_⟩⟩
  · refine zf_ (n := 1) (by kernel_rfl) fun i hi => ?_
    match i, hi with
    | 0, _ => exact zd_ (by kernel_rfl) (qi_ k)
    | n + 1, hi => omega
  · exact z8_ (by kernel_rfl)
  · rintro ⟨a0, left1⟩
    kernel_rfl
def zdw_ (a0 : Int × Int × Int × List Int) (left1 : Int) : Option Int := (z8k_ a0.2.2.2 left1).bind fun r_1 => (if (decide (r_1 < 0)) = true then some (-1) else some r_1)
def qk_ : FE := ⟨(.pr (.st (.pr (.int .i64) (.pr (.int .i64) (.pr (.int .i64) (.sl 2 (.int .i64)))))) (.int .i64)), 1, (.int .i64), fun x => zdw_ x.1 x.2⟩
theorem ql_ : FnOK Tryz.prog 138 (qk_) := by
  refine za_ (tab := [(95, q0_)]) (l := []) z6_ z9_ mix (List.forall_mem_cons.2 ⟨q1_, (List.forall_mem_nil _)⟩) (List.forall_mem_nil _) ⟨⟨Tryz.f138, (z2_ Tryz.f138), [.tmp 4], (LOn Int), by kernel_rfl, by kernel_rfl, by kernel_rfl, by kernel_rfl, rfl, by decide, ⟨by kernel_rfl, ?_, ?_⟩, ?_⟩⟩
  · exact zh_ (by kernel_rfl)
  · exact z8_ (by kernel_rfl)
  · rintro ⟨a0, left1⟩
    kernel_rfl
def z8n_ (k : Nat) : Nat → zT5 → Int → Int → (Int → Option Int) → Option Int
  | 0, _, _, _, _ => none
  | n + 1, a0, left1, i5, e_0 => (if (decide (i5 < (List.length a0 : Int))) = true then (if 0 ≤ i5 then (a0[i5.toNat]?).bind fun y_1 => (zdw_ y_1 left1).bind fun r_2 => (if (decide (r_2 < 0)) = true then some (-1) else z8n_ k n a0 r_2 (z0_ (i5 + 1)) e_0) else none) else e_0 left1)
def zdx_ (k : Nat) (a0 : List (Int × Int × Int × List Int)) (left1 : Int) : Option Int := (if (decide ((z0_ (left1 - (List.length a0 : Int))) < 0)) = true then some (-1) else z8n_ k k a0 (z0_ (left1 - (List.length a0 : Int))) 0 (fun left_3 => some left_3))
def qm_ : Head := ⟨[(0, (.val (.sl 182 (.st (.pr (.int .i64) (.pr (.int .i64) (.pr (.int .i64) (.sl 2 (.int .i64))))))))), (1, (.val (.int .i64))), (5, (.val (.int .i64)))], [], []⟩
def qn_ : Head := ⟨[(1, (.val (.int .i64)))], [], []⟩
def qo_ (k n : Nat) (x : qm_.T) (kx : Nat → St → Option Int) : Option Int := z8n_ k n x.1.1 x.1.2.1 x.1.2.2.1 (fun (left1 : Int) => kx 0 (qn_.fill ((left1, ()), (), ())))
def qp_ (k : Nat) : Oracles Int := ⟨fun n => bif Nat.beq n 5 then some (fun σ kx => qm_.get σ fun x => qo_ k k x kx) else none, fun _ => none⟩
def qq_ (k : Nat) : FE := ⟨(.pr (.sl 182 (.st (.pr (.int .i64) (.pr (.int .i64) (.pr (.int .i64) (.sl 2 (.int .i64))))))) (.int .i64)), 1, (.int .i64), fun x => zdx_ k x.1 x.2⟩
theorem qr_ (k : Nat) : zc_ (z3_ ti [(138, qk_)] (lk []) z4_ z5_) (qp_ k) (rdC (z3_ ti [(138, qk_)] (lk []) z4_ z5_) [.tmp 4] (.int .i64)) ((zb_ (z2_ Tryz.f96)).getD 0 .skip) (fun σ kx => qm_.get σ fun x => qo_ k k x kx) := by
  refine ⟨qm_, [(0, qn_)], fun n x kx => qo_ k n x kx, k, by kernel_rfl, by kernel_rfl, fun x kx => by kernel_rfl, ?_, fun σ kx => rfl⟩
  rintro n ⟨⟨a0, left1, i5, ⟨⟩⟩, ⟨⟩, ⟨⟩⟩ kx
  kernel_rfl
theorem qs_ (k : Nat) : FnOK Tryz.prog 96 (qq_ k) := by
  refine za_ (tab := [(138, qk_)]) (l := []) z6_ z9_ mix (List.forall_mem_cons.2 ⟨ql_, (List.forall_mem_nil _)⟩) (List.forall_mem_nil _) ⟨⟨Tryz.f96, (z2_ Tryz.f96), [.tmp 4], (qp_ k), by kernel_rfl, by kernel_rfl, by kernel_rfl, by kernel_rfl, rfl, by decide, ⟨by kernel_rfl, ?_, ?_⟩, ?_⟩⟩
  · refine zf_ (n := 1) (by kernel_rfl) fun i hi => ?_
    match i, hi with
    | 0, _ => exact zd_ (by kernel_rfl) (qr_ k)
    | n + 1, hi => omega
  · exact z8_ (by kernel_rfl)
  · rintro ⟨a0, left1⟩
    kernel_rfl
def zdy_ (k : Nat) (a0 : List (List Int) × Int × List Int × List (Int × Int × Int × List Int)) (left1 : Int) : Option Int := (zbn_ k a0.1 left1).bind fun r_1 => (if (decide (r_1 < 0)) = true then some (-1) else (z8k_ a0.2.2.1 r_1).bind fun r_2 => (if (decide (r_2 < 0)) = true then some (-1) else (zdx_ k a0.2.2.2 r_2).bind fun r_3 => (if (decide (r_3 < 0)) = true then some (-1) else some r_3)))
def qt_ (k : Nat) : FE := ⟨(.pr (.st (.pr (.st (.sl 68 (.sl 2 (.int .i64)))) (.pr (.int .i64) (.pr (.sl 2 (.int .i64)) (.sl 182 (.st (.pr (.int .i64) (.pr (.int .i64) (.pr (.int .i64) (.sl 2 (.int .i64))))))))))) (.int .i64)), 1, (.int .i64), fun x => zdy_ k x.1 x.2⟩
theorem qu_ (k : Nat) : FnOK Tryz.prog 57 (qt_ k) := by
  refine za_ (tab := [(56, q9_ k), (95, q0_), (96, qq_ k)]) (l := []) z6_ z9_ mix (List.forall_mem_cons.2 ⟨qa_ k, (List.forall_mem_cons.2 ⟨q1_, (List.forall_mem_cons.2 ⟨qs_ k, (List.forall_mem_nil _)⟩)⟩)⟩) (List.forall_mem_nil _) ⟨⟨Tryz.f57, (z2_ Tryz.f57), [.tmp 4], (LOn Int), by kernel_rfl, by kernel_rfl, by kernel_rfl, by kernel_rfl, rfl, by decide, ⟨by kernel_rfl, ?_, ?_⟩, ?_⟩⟩
  · exact zh_ (by kernel_rfl)
  · exact z8_ (by kernel_rfl)
  · rintro ⟨a0, left1⟩
    kernel_rfl
def zdz_ (k : Nat) (a0 : List UInt8 × List (List Int) × Int × List Int × List (Int × Int × Int × List Int)) (left1 : Int) : Option Int := (if (decide ((z0_ (left1 - (List.length a0.1 : Int))) < 0)) = true then some (-1) else (zdy_ k a0.2 (z0_ (left1 - (List.length a0.1 : Int)))).bind fun r_1 => (if (decide (r_1 < 0)) = true then some (-1) else some r_1))
def qv_ (k : Nat) : FE := ⟨(.pr (.st (.pr .str (.st (.pr (.st (.sl 68 (.sl 2 (.int .i64)))) (.pr (.int .i64) (.pr (.sl 2 (.int .i64)) (.sl 182 (.st (.pr (.int .i64) (.pr (.int .i64) (.pr (.int .i64) (.sl 2 (.int .i64))))))))))))) (.int .i64)), 1, (.int .i64), fun x => zdz_ k x.1 x.2⟩
theorem qw_ (k : Nat) : FnOK Tryz.prog 28 (qv_ k) := by
  refine za_ (tab := [(57, qt_ k)]) (l := []) z6_ z9_ mix (List.forall_mem_cons.2 ⟨qu_ k, (List.forall_mem_nil _)⟩) (List.forall_mem_nil _) ⟨⟨Tryz.f28, (z2_ Tryz.f28), [.tmp 4], (LOn Int), by kernel_rfl, by kernel_rfl, by kernel_rfl, by kernel_rfl, rfl, by decide, ⟨by kernel_rfl, ?_, ?_⟩, ?_⟩⟩
  · exact zh_ (by kernel_rfl)
  · exact z8_ (by kernel_rfl)
  · rintro ⟨a0, left1⟩
    kernel_rfl
def z8o_ (k : Nat) : Nat → zT0 → Int → Int → (Int → Option Int) → Option Int
  | 0, _, _, _, _ => none
  | n + 1, a0, left1, i5, e_0 => (if (decide (i5 < (List.length a0 : Int))) = true then (if 0 ≤ i5 then (a0[i5.toNat]?).bind fun y_1 => (zdz_ k y_1 left1).bind fun r_2 => (if (decide (r_2 < 0)) = true then some (-1) else z8o_ k n a0 r_2 (z0_ (i5 + 1)) e_0) else none) else e_0 left1)
def ze0_ (k : Nat) (a0 : List (List UInt8 × List (List Int) × Int × List Int × List (Int × Int × Int × List Int))) (left1 : Int) : Option Int := (if (decide ((z0_ (left1 - (List.length a0 : Int))) < 0)) = true then some (-1) else z8o_ k k a0 (z0_ (left1 - (List.length a0 : Int))) 0 (fun left_3 => some left_3))
def qx_ : Head := ⟨[(0, (.val (.sl 73 (.st (.pr .str (.st (.pr (.st (.sl 68 (.sl 2 (.int .i64)))) (.pr (.int .i64) (.pr (.sl 2 (.int .i64)) (.sl 182 (.st (.pr (.int .i64) (.pr (.int .i64) (.pr (.int .i64) (.sl 2 (.int .i64)))))))))))))))), (1, (.val (.int .i64))), (5, (.val (.int .i64)))], [], []⟩
def qy_ : Head := ⟨[(1, (.val (.int .i64)))], [], []⟩
def qz_ (k n : Nat) (x : qx_.T) (kx : Nat → St → Option Int) : Option Int := z8o_ k n x.1.1 x.1.2.1 x.1.2.2.1 (fun (left1 : Int) => kx 0 (qy_.fill ((left1, ()), (), ())))
def q10_ (k : Nat) : Oracles Int := ⟨fun n => bif Nat.beq n 5 then some (fun σ kx => qx_.get σ fun x => qz_ k k x kx) else none, fun _ => none⟩
def q11_ (k : Nat) : FE := ⟨(.pr (.sl 73 (.st (.pr .str (.st (.pr (.st (.sl 68 (.sl 2 (.int .i64)))) (.pr (.int .i64) (.pr (.sl 2 (.int .i64)) (.sl 182 (.st (.pr (.int .i64) (.pr (.int .i64) (.pr (.int .i64) (.sl 2 (.int .i64)))))))))))))) (.int .i64)), 1, (.int .i64), fun x => ze0_ k x.1 x.2⟩
theorem q12_ (k : Nat) : zc_ (z3_ ti [(28, qv_ k)] (lk []) z4_ z5_) (q10_ k) (rdC (z3_ ti [(28, qv_ k)] (lk []) z4_ z5_) [.tmp 4] (.int .i64)) ((zb_ (z2_ Tryz.f14)).getD 0 .skip) (fun σ kx => qx_.get σ fun x => qz_ k k x kx) := by
  refine ⟨qx_, [(0, qy_)], fun n x kx => qz_ k n x kx, k, by kernel_rfl, by kernel_rfl, fun x kx => by kernel_rfl, ?_, fun σ kx => rfl⟩
  rintro n ⟨⟨a0, left1, i5, ⟨⟩⟩, ⟨⟩, ⟨⟩⟩ kx
  kernel_rfl
theorem q13_ (k : Nat) : FnOK Tryz.prog 14 (q11_ k) := by
  refine za_ (tab := [(28, qv_ k)]) (l := []) z6_ z9_ mix (List.forall_mem_cons.2 ⟨qw_ k, (List.forall_mem_nil _)⟩) (List.forall_mem_nil _) ⟨⟨Tryz.f14, (z2_ Tryz.f14), [.tmp 4], (q10_ k), by kernel_rfl, by kernel_rfl, by kernel_rfl, by kernel_rfl, rfl, by decide, ⟨by kernel_rfl, ?_, ?_⟩, ?_⟩⟩
  · refine zf_ (n := 1) (by kernel_rfl) fun i hi => ?_
    match i, hi with
    | 0, _ => exact zd_ (by kernel_rfl) (q12_ k)
    | n + 1, hi => omega
  · exact z8_ (by kernel_rfl)
  · rintro ⟨a0, left1⟩
    kernel_rfl
def ze1_ (k : Nat) (a0 : zT1 × List (List UInt8 × List (List Int) × Int × List Int × List (Int × Int × Int × List Int))) (left1 : Int) : Option Int := (zdv_ k a0.1 left1).bind fun r_1 => (if (decide (r_1 < 0)) = true then some (-1) else (ze0_ k a0.2 r_1).bind fun r_2 => (if (decide (r_2 < 0)) = true then some (-1) else some r_2))
def q14_ (k : Nat) : FE := ⟨(.pr (.st (.pr (.sl 66 (.st (.pr .str (.st (.sl 68 (.sl 2 (.int .i64))))))) (.sl 73 (.st (.pr .str (.st (.pr (.st (.sl 68 (.sl 2 (.int .i64)))) (.pr (.int .i64) (.pr (.sl 2 (.int .i64)) (.sl 182 (.st (.pr (.int .i64) (.pr (.int .i64) (.pr (.int .i64) (.sl 2 (.int .i64)))))))))))))))) (.int .i64)), 1, (.int .i64), fun x => ze1_ k x.1 x.2⟩
theorem q15_ (k : Nat) : FnOK Tryz.prog 4 (q14_ k) := by
  refine za_ (tab := [(13, qh_ k), (14, q11_ k)]) (l := []) z6_ z9_ mix (List.forall_mem_cons.2 ⟨qj_ k, (List.forall_mem_cons.2 ⟨q13_ k, (List.forall_mem_nil _)⟩)⟩) (List.forall_mem_nil _) ⟨⟨Tryz.f4, (z2_ Tryz.f4), [.tmp 4], (LOn Int), by kernel_rfl, by kernel_rfl, by kernel_rfl, by kernel_rfl, rfl, by decide, ⟨by kernel_rfl, ?_, ?_⟩, ?_⟩⟩
  · exact zh_ (by kernel_rfl)
  · exact z8_ (by kernel_rfl)
  · rintro ⟨a0, left1⟩
    kernel_rfl
def z8p_ (k : Nat) : Nat → (List Int) → Int → (List Int) → ((List Int) → Option (List Int)) → Option (List Int)
  | 0, _, _, _, _ => none
  | n + 1, a0, i4, q_1, e_0 => (if (decide (i4 < (List.length a0 : Int))) = true then (if 0 ≤ i4 then (a0[i4.toNat]?).bind fun y_2 => (if 0 ≤ i4 ∧ i4.toNat < List.length q_1 then (q_1[i4.toNat]?).bind fun y_3 => (q_1[i4.toNat]?).bind fun y_4 => z8p_ k n a0 (z0_ (i4 + 1)) (q_1.set i4.toNat y_2) e_0 else none) else none) else e_0 q_1)
def z8q_ (k : Nat) (a0 : List Int) : Option (List Int) := (if 0 ≤ (List.length a0 : Int) ∧ (List.length a0 : Int) ≤ (List.length a0 : Int) ∧ (List.length a0 : Int) * 8 ≤ LIM then z8p_ k k a0 0 (List.replicate (List.length a0) 0) (fun q_5 => some q_5) else none)
def q16_ : Head := ⟨[(0, (.val (.sl 2 (.int .i64)))), (3, (.ref 64000000 [])), (4, (.val (.int .i64)))], [(64000000, 2, (.int .i64), false)], []⟩
def q17_ : Head := ⟨[(3, (.ref 64000000 []))], [(64000000, 2, (.int .i64), false)], []⟩
def q18_ (k n : Nat) (x : q16_.T) (kx : Nat → St → Option (List Int)) : Option (List Int) := z8p_ k n x.1.1 x.1.2.2.1 x.2.1.1 (fun (q_5 : List Int) => kx 0 (q17_.fill (((), ()), (q_5, ()), ())))
def q19_ (k : Nat) : Oracles (List Int) := ⟨fun n => bif Nat.beq n 3 then some (fun σ kx => q16_.get σ fun x => q18_ k k x kx) else none, fun _ => none⟩
def q1a_ (k : Nat) : FE := ⟨(.sl 2 (.int .i64)), 1, (.sl 2 (.int .i64)), fun x => z8q_ k x⟩
theorem q1b_ (k : Nat) : zc_ (z3_ ti [] (lk []) z4_ z5_) (q19_ k) (rdC (z3_ ti [] (lk []) z4_ z5_) [.tmp 2] (.sl 2 (.int .i64))) ((zb_ (z2_ Tryz.f110)).getD 0 .skip) (fun σ kx => q16_.get σ fun x => q18_ k k x kx) := by
  refine ⟨q16_, [(0, q17_)], fun n x kx => q18_ k n x kx, k, by kernel_rfl, by kernel_rfl, fun x kx => by kernel_rfl, ?_, fun σ kx => rfl⟩
  rintro n ⟨⟨a0, ⟨⟩, i4, ⟨⟩⟩, ⟨q_1, ⟨⟩⟩, ⟨⟩⟩ kx
  kernel_rfl
theorem q1c_ (k : Nat) : FnOK Tryz.prog 110 (q1a_ k) := by
  refine za_ (tab := []) (l := []) z6_ z9_ mix (List.forall_mem_nil _) (List.forall_mem_nil _) ⟨⟨Tryz.f110, (z2_ Tryz.f110), [.tmp 2], (q19_ k), by kernel_rfl, by kernel_rfl, by kernel_rfl, by kernel_rfl, rfl, by decide, ⟨by kernel_rfl, ?_, ?_⟩, ?_⟩⟩
  · refine zf_ (n := 1) (by kernel_rfl) fun i hi => ?_
    match i, hi with
    | 0, _ => exact zd_ (by kernel_rfl) (q1b_ k)
    | n + 1, hi => omega
  · exact z8_ (by kernel_rfl)
  · rintro a0
    kernel_rfl
def z8r_ (k : Nat) : Nat → zT4 → Int → zT4 → (zT4 → Option zT4) → Option zT4
  | 0, _, _, _, _ => none
  | n + 1, a0, i4, q_1, e_0 => (if (decide (i4 < (List.length a0 : Int))) = true then (if 0 ≤ i4 then (a0[i4.toNat]?).bind fun y_2 => (z8q_ k y_2).bind fun r_3 => (if 0 ≤ i4 ∧ i4.toNat < List.length q_1 then (q_1[i4.toNat]?).bind fun y_4 => (q_1[i4.toNat]?).bind fun y_5 => z8r_ k n a0 (z0_ (i4 + 1)) (q_1.set i4.toNat r_3) e_0 else none) else none) else e_0 q_1)
def ze2_ (k : Nat) (a0 : List (List Int)) : Option zT4 := (if 0 ≤ (List.length a0 : Int) ∧ (List.length a0 : Int) ≤ (List.length a0 : Int) ∧ (List.length a0 : Int) * 24 ≤ LIM then z8r_ k k a0 0 (List.replicate (List.length a0) ([] : List Int)) (fun q_6 => some q_6) else none)
def q1d_ : Head := ⟨[(0, (.val (.sl 68 (.sl 2 (.int .i64))))), (3, (.ref 64000000 [])), (4, (.val (.int .i64)))], [(64000000, 68, (.sl 2 (.int .i64)), false)], []⟩
def q1e_ : Head := ⟨[(3, (.ref 64000000 []))], [(64000000, 68, (.sl 2 (.int .i64)), false)], []⟩
def q1f_ (k n : Nat) (x : q1d_.T) (kx : Nat → St → Option zT4) : Option zT4 := z8r_ k n x.1.1 x.1.2.2.1 x.2.1.1 (fun (q_6 : List (List Int)) => kx 0 (q1e_.fill (((), ()), (q_6, ()), ())))
def q1g_ (k : Nat) : Oracles zT4 := ⟨fun n => bif Nat.beq n 3 then some (fun σ kx => q1d_.get σ fun x => q1f_ k k x kx) else none, fun _ => none⟩
def q1h_ (k : Nat) : FE := ⟨(.sl 68 (.sl 2 (.int .i64))), 1, (.sl 68 (.sl 2 (.int .i64))), fun x => ze2_ k x⟩
theorem q1i_ (k : Nat) : zc_ (z3_ ti [(110, q1a_ k)] (lk []) z4_ z5_) (q1g_ k) (rdC (z3_ ti [(110, q1a_ k)] (lk []) z4_ z5_) [.tmp 2] (.sl 68 (.sl 2 (.int .i64)))) ((zb_ (z2_ Tryz.f109)).getD 0 .skip) (fun σ kx => q1d_.get σ fun x => q1f_ k k x kx) := by
  refine ⟨q1d_, [(0, q1e_)], fun n x kx => q1f_ k n x kx, k, by kernel_rfl, by kernel_rfl, fun x kx => by kernel_rfl, ?_, fun σ kx => rfl⟩
  rintro n ⟨⟨a0, ⟨⟩, i4, ⟨⟩⟩, ⟨q_1, ⟨⟩⟩, ⟨⟩⟩ kx
  kernel_rfl
theorem q1j_ (k : Nat) : FnOK Tryz.prog 109 (q1h_ k) := by
  refine za_ (tab := [(110, q1a_ k)]) (l := []) z6_ z9_ mix (List.forall_mem_cons.2 ⟨q1c_ k, (List.forall_mem_nil _)⟩) (List.forall_mem_nil _) ⟨⟨Tryz.f109, (z2_ Tryz.f109), [.tmp 2], (q1g_ k), by kernel_rfl, by kernel_rfl, by kernel_rfl, by kernel_rfl, rfl, by decide, ⟨by kernel_rfl, ?_, ?_⟩, ?_⟩⟩
  · refine zf_ (n := 1) (by kernel_rfl) fun i hi => ?_
    match i, hi with
    | 0, _ => exact zd_ (by kernel_rfl) (q1i_ k)
    | n + 1, hi => omega
  · exact z8_ (by kernel_rfl)
  · rintro a0
    kernel_rfl
def zbo_ (k : Nat) (a0 : List (List Int)) : Option zT4 := (ze2_ k a0).bind fun r_1 => some r_1
def q1k_ (k : Nat) : FE := ⟨(.st (.sl 68 (.sl 2 (.int .i64)))), 1, (.st (.sl 68 (.sl 2 (.int .i64)))), fun x => zbo_ k x⟩
theorem q1l_ (k : Nat) : FnOK Tryz.prog 68 (q1k_ k) := by
  refine za_ (tab := [(109, q1h_ k)]) (l := []) z6_ z9_ mix (List.forall_mem_cons.2 ⟨q1j_ k, (List.forall_mem_nil _)⟩) (List.forall_mem_nil _) ⟨⟨Tryz.f68, (z2_ Tryz.f68), [.cell 2 46], (LOn zT4), by kernel_rfl, by kernel_rfl, by kernel_rfl, by kernel_rfl, rfl, by decide, ⟨by kernel_rfl, ?_, ?_⟩, ?_⟩⟩
  · exact zh_ (by kernel_rfl)
  · exact z8_ (by kernel_rfl)
  · rintro a0
    kernel_rfl
def ze3_ (k : Nat) (a0 : List UInt8 × List (List Int)) : Option (List UInt8 × List (List Int)) := (zbo_ k a0.2).bind fun r_1 => some (a0.1, r_1)
def q1m_ (k : Nat) : FE := ⟨(.st (.pr .str (.st (.sl 68 (.sl 2 (.int .i64)))))), 1, (.st (.pr .str (.st (.sl 68 (.sl 2 (.int .i64)))))), fun x => ze3_ k x⟩
theorem q1n_ (k : Nat) : FnOK Tryz.prog 35 (q1m_ k) := by
  refine za_ (tab := [(68, q1k_ k)]) (l := []) z6_ z9_ mix (List.forall_mem_cons.2 ⟨q1l_ k, (List.forall_mem_nil _)⟩) (List.forall_mem_nil _) ⟨⟨Tryz.f35, (z2_ Tryz.f35), [.cell 2 48], (LOn (List UInt8 × List (List Int))), by kernel_rfl, by kernel_rfl, by kernel_rfl, by kernel_rfl, rfl, by decide, ⟨by kernel_rfl, ?_, ?_⟩, ?_⟩⟩
  · exact zh_ (by kernel_rfl)
  · exact z8_ (by kernel_rfl)
  · rintro a0
    kernel_rfl
def z8s_ (k : Nat) : Nat → zT1 → Int → zT1 → (zT1 → Option zT1) → Option zT1
  | 0, _, _, _, _ => none
  | n + 1, a0, i4, q_1, e_0 => (if (decide (i4 < (List.length a0 : Int))) = true then (if 0 ≤ i4 then (a0[i4.toNat]?).bind fun y_2 => (ze3_ k y_2).bind fun r_3 => (if 0 ≤ i4 ∧ i4.toNat < List.length q_1 then (q_1[i4.toNat]?).bind fun y_4 => (q_1[i4.toNat]?).bind fun y_5 => z8s_ k n a0 (z0_ (i4 + 1)) (q_1.set i4.toNat (r_3.1, r_3.2)) e_0 else none) else none) else e_0 q_1)
def ze4_ (k : Nat) (a0 : List (List UInt8 × List (List Int))) : Option zT1 := (if 0 ≤ (List.length a0 : Int) ∧ (List.length a0 : Int) ≤ (List.length a0 : Int) ∧ (List.length a0 : Int) * 40 ≤ LIM then z8s_ k k a0 0 (List.replicate (List.length a0) ([], [])) (fun q_6 => some q_6) else none)
def q1o_ : Head := ⟨[(0, (.val (.sl 66 (.st (.pr .str (.st (.sl 68 (.sl 2 (.int .i64))))))))), (3, (.ref 64000000 [])), (4, (.val (.int .i64)))], [(64000000, 48, (.st (.pr .str (.st (.sl 68 (.sl 2 (.int .i64)))))), false)], []⟩
def q1p_ : Head := ⟨[(3, (.ref 64000000 []))], [(64000000, 48, (.st (.pr .str (.st (.sl 68 (.sl 2 (.int .i64)))))), false)], []⟩
def q1q_ (k n : Nat) (x : q1o_.T) (kx : Nat → St → Option zT1) : Option zT1 := z8s_ k n x.1.1 x.1.2.2.1 x.2.1.1 (fun (q_6 : List (List UInt8 × List (List Int))) => kx 0 (q1p_.fill (((), ()), (q_6, ()), ())))
def q1r_ (k : Nat) : Oracles zT1 := ⟨fun n => bif Nat.beq n 3 then some (fun σ kx => q1o_.get σ fun x => q1q_ k k x kx) else none, fun _ => none⟩
def q1s_ (k : Nat) : FE := ⟨(.sl 66 (.st (.pr .str (.st (.sl 68 (.sl 2 (.int .i64))))))), 1, (.sl 48 (.st (.pr .str (.st (.sl 68 (.sl 2 (.int .i64))))))), fun x => ze4_ k x⟩
theorem q1t_ (k : Nat) : zc_ (z3_ ti [(35, q1m_ k)] (lk []) z4_ z5_) (q1r_ k) (rdC (z3_ ti [(35, q1m_ k)] (lk []) z4_ z5_) [.tmp 2] (.sl 48 (.st (.pr .str (.st (.sl 68 (.sl 2 (.int .i64)))))))) ((zb_ (z2_ Tryz.f17)).getD 0 .skip) (fun σ kx => q1o_.get σ fun x => q1q_ k k x kx) := by
  refine ⟨q1o_, [(0, q1p_)], fun n x kx => q1q_ k n x kx, k, by kernel_rfl, by kernel_rfl, fun x kx => by kernel_rfl, ?_, fun σ kx => rfl⟩
  rintro n ⟨⟨a0, ⟨⟩, i4, ⟨⟩⟩, ⟨q_1, ⟨⟩⟩, ⟨⟩⟩ kx
  kernel_rfl
theorem q1u_ (k : Nat) : FnOK Tryz.prog 17 (q1s_ k) := by
  refine za_ (tab := [(35, q1m_ k)]) (l := []) z6_ z9_ mix (List.forall_mem_cons.2 ⟨q1n_ k, (List.forall_mem_nil _)⟩) (List.forall_mem_nil _) ⟨⟨Tryz.f17, (z2_ Tryz.f17), [.tmp 2], (q1r_ k), by kernel_rfl, by kernel_rfl, by kernel_rfl, by kernel_rfl, rfl, by decide, ⟨by kernel_rfl, ?_, ?_⟩, ?_⟩⟩
  · refine zf_ (n := 1) (by kernel_rfl) fun i hi => ?_
    match i, hi with
    | 0, _ => exact zd_ (by kernel_rfl) (q1t_ k)
    | n + 1, hi => omega
  · exact z8_ (by kernel_rfl)
  · rintro a0
    kernel_rfl
def ze5_ (k : Nat) (a0 : Int × Int × Int × List Int) : Option (Int × Int × Int × List Int) := (z8q_ k a0.2.2.2).bind fun r_1 => some (a0.1, (a0.2.1, (a0.2.2.1, r_1)))
def q1v_ (k : Nat) : FE := ⟨(.st (.pr (.int .i64) (.pr (.int .i64) (.pr (.int .i64) (.sl 2 (.int .i64)))))), 1, (.st (.pr (.int .i64) (.pr (.int .i64) (.pr (.int .i64) (.sl 2 (.int .i64)))))), fun x => ze5_ k x⟩
theorem q1w_ (k : Nat) : FnOK Tryz.prog 147 (q1v_ k) := by
  refine za_ (tab := [(110, q1a_ k)]) (l := []) z6_ z9_ mix (List.forall_mem_cons.2 ⟨q1c_ k, (List.forall_mem_nil _)⟩) (List.forall_mem_nil _) ⟨⟨Tryz.f147, (z2_ Tryz.f147), [.cell 2 147], (LOn (Int × Int × Int × List Int)), by kernel_rfl, by kernel_rfl, by kernel_rfl, by kernel_rfl, rfl, by decide, ⟨by kernel_rfl, ?_, ?_⟩, ?_⟩⟩
  · exact zh_ (by kernel_rfl)
  · exact z8_ (by kernel_rfl)
  · rintro a0
    kernel_rfl
def z8t_ (k : Nat) : Nat → zT5 → Int → zT5 → (zT5 → Option zT5) → Option zT5
  | 0, _, _, _, _ => none
  | n + 1, a0, i4, q_1, e_0 => (if (decide (i4 < (List.length a0 : Int))) = true then (if 0 ≤ i4 then (a0[i4.toNat]?).bind fun y_2 => (ze5_ k y_2).bind fun r_3 => (if 0 ≤ i4 ∧ i4.toNat < List.length q_1 then (q_1[i4.toNat]?).bind fun y_4 => (q_1[i4.toNat]?).bind fun y_5 => z8t_ k n a0 (z0_ (i4 + 1)) (q_1.set i4.toNat (r_3.1, (r_3.2.1, (r_3.2.2.1, r_3.2.2.2)))) e_0 else none) else none) else e_0 q_1)
def ze6_ (k : Nat) (a0 : List (Int × Int × Int × List Int)) : Option zT5 := (if 0 ≤ (List.length a0 : Int) ∧ (List.length a0 : Int) ≤ (List.length a0 : Int) ∧ (List.length a0 : Int) * 48 ≤ LIM then z8t_ k k a0 0 (List.replicate (List.length a0) (0, (0, (0, [])))) (fun q_6 => some q_6) else none)
def q1x_ : Head := ⟨[(0, (.val (.sl 182 (.st (.pr (.int .i64) (.pr (.int .i64) (.pr (.int .i64) (.sl 2 (.int .i64))))))))), (3, (.ref 64000000 [])), (4, (.val (.int .i64)))], [(64000000, 147, (.st (.pr (.int .i64) (.pr (.int .i64) (.pr (.int .i64) (.sl 2 (.int .i64)))))), false)], []⟩
def q1y_ : Head := ⟨[(3, (.ref 64000000 []))], [(64000000, 147, (.st (.pr (.int .i64) (.pr (.int .i64) (.pr (.int .i64) (.sl 2 (.int .i64)))))), false)], []⟩
def q1z_ (k n : Nat) (x : q1x_.T) (kx : Nat → St → Option zT5) : Option zT5 := z8t_ k n x.1.1 x.1.2.2.1 x.2.1.1 (fun (q_6 : List (Int × Int × Int × List Int)) => kx 0 (q1y_.fill (((), ()), (q_6, ()), ())))
def q20_ (k : Nat) : Oracles zT5 := ⟨fun n => bif Nat.beq n 3 then some (fun σ kx => q1x_.get σ fun x => q1z_ k k x kx) else none, fun _ => none⟩
def q21_ (k : Nat) : FE := ⟨(.sl 182 (.st (.pr (.int .i64) (.pr (.int .i64) (.pr (.int .i64) (.sl 2 (.int .i64))))))), 1, (.sl 147 (.st (.pr (.int .i64) (.pr (.int .i64) (.pr (.int .i64) (.sl 2 (.int .i64))))))), fun x => ze6_ k x⟩
theorem q22_ (k : Nat) : zc_ (z3_ ti [(147, q1v_ k)] (lk []) z4_ z5_) (q20_ k) (rdC (z3_ ti [(147, q1v_ k)] (lk []) z4_ z5_) [.tmp 2] (.sl 147 (.st (.pr (.int .i64) (.pr (.int .i64) (.pr (.int .i64) (.sl 2 (.int .i64)))))))) ((zb_ (z2_ Tryz.f111)).getD 0 .skip) (fun σ kx => q1x_.get σ fun x => q1z_ k k x kx) := by
  refine ⟨q1x_, [(0, q1y_)], fun n x kx => q1z_ k n x kx, k, by kernel_rfl, by kernel_rfl, fun x kx => by kernel_rfl, ?_, fun σ kx => rfl⟩
  rintro n ⟨⟨a0, ⟨⟩, i4, ⟨⟩⟩, ⟨q_1, ⟨⟩⟩, ⟨⟩⟩ kx
  kernel_rfl
theorem q23_ (k : Nat) : FnOK Tryz.prog 111 (q21_ k) := by
  refine za_ (tab := [(147, q1v_ k)]) (l := []) z6_ z9_ mix (List.forall_mem_cons.2 ⟨q1w_ k, (List.forall_mem_nil _)⟩) (List.forall_mem_nil _) ⟨⟨Tryz.f111, (z2_ Tryz.f111), [.tmp 2], (q20_ k), by kernel_rfl, by kernel_rfl, by kernel_rfl, by kernel_rfl, rfl, by decide, ⟨by kernel_rfl, ?_, ?_⟩, ?_⟩⟩
  · refine zf_ (n := 1) (by kernel_rfl) fun i hi => ?_
    match i, hi with
    | 0, _ => exact zd_ (by kernel_rfl) (q22_ k)
    | n + 1, hi => omega
  · exact z8_ (by kernel_rfl)
  · rintro a0
    kernel_rfl
def ze7_ (k : Nat) (a0 : List (List Int) × Int × List Int × List (Int × Int × Int × List Int)) : Option zT2 := (zbo_ k a0.1).bind fun r_1 => (z8q_ k a0.2.2.1).bind fun r_2 => (ze6_ k a0.2.2.2).bind fun r_3 => some (r_1, (a0.2.1, (r_2, r_3)))
def q24_ (k : Nat) : FE := ⟨(.st (.pr (.st (.sl 68 (.sl 2 (.int .i64)))) (.pr (.int .i64) (.pr (.sl 2 (.int .i64)) (.sl 182 (.st (.pr (.int .i64) (.pr (.int .i64) (.pr (.int .i64) (.sl 2 (.int .i64))))))))))), 1, (.st (.pr (.st (.sl 68 (.sl 2 (.int .i64)))) (.pr (.int .i64) (.pr (.sl 2 (.int .i64)) (.sl 147 (.st (.pr (.int .i64) (.pr (.int .i64) (.pr (.int .i64) (.sl 2 (.int .i64))))))))))), fun x => ze7_ k x⟩
theorem q25_ (k : Nat) : FnOK Tryz.prog 69 (q24_ k) := by
  refine za_ (tab := [(68, q1k_ k), (110, q1a_ k), (111, q21_ k)]) (l := []) z6_ z9_ mix (List.forall_mem_cons.2 ⟨q1l_ k, (List.forall_mem_cons.2 ⟨q1c_ k, (List.forall_mem_cons.2 ⟨q23_ k, (List.forall_mem_nil _)⟩)⟩)⟩) (List.forall_mem_nil _) ⟨⟨Tryz.f69, (z2_ Tryz.f69), [.cell 2 78], (LOn zT2), by kernel_rfl, by kernel_rfl, by kernel_rfl, by kernel_rfl, rfl, by decide, ⟨by kernel_rfl, ?_, ?_⟩, ?_⟩⟩
  · exact zh_ (by kernel_rfl)
  · exact z8_ (by kernel_rfl)
  · rintro a0
    kernel_rfl
def ze8_ (k : Nat) (a0 : List UInt8 × List (List Int) × Int × List Int × List (Int × Int × Int × List Int)) : Option (List UInt8 × List (List Int) × Int × List Int × List (Int × Int × Int × List Int)) := (ze7_ k a0.2).bind fun r_1 => some (a0.1, (r_1.1, (r_1.2.1, (r_1.2.2.1, r_1.2.2.2))))
def q26_ (k : Nat) : FE := ⟨(.st (.pr .str (.st (.pr (.st (.sl 68 (.sl 2 (.int .i64)))) (.pr (.int .i64) (.pr (.sl 2 (.int .i64)) (.sl 182 (.st (.pr (.int .i64) (.pr (.int .i64) (.pr (.int .i64) (.sl 2 (.int .i64))))))))))))), 1, (.st (.pr .str (.st (.pr (.st (.sl 68 (.sl 2 (.int .i64)))) (.pr (.int .i64) (.pr (.sl 2 (.int .i64)) (.sl 147 (.st (.pr (.int .i64) (.pr (.int .i64) (.pr (.int .i64) (.sl 2 (.int .i64))))))))))))), fun x => ze8_ k x⟩
theorem q27_ (k : Nat) : FnOK Tryz.prog 36 (q26_ k) := by
  refine za_ (tab := [(69, q24_ k)]) (l := []) z6_ z9_ mix (List.forall_mem_cons.2 ⟨q25_ k, (List.forall_mem_nil _)⟩) (List.forall_mem_nil _) ⟨⟨Tryz.f36, (z2_ Tryz.f36), [.cell 2 80], (LOn (List UInt8 × List (List Int) × Int × List Int × List (Int × Int × Int × List Int))), by kernel_rfl, by kernel_rfl, by kernel_rfl, by kernel_rfl, rfl, by decide, ⟨by kernel_rfl, ?_, ?_⟩, ?_⟩⟩
  · exact zh_ (by kernel_rfl)
  · exact z8_ (by kernel_rfl)
  · rintro a0
    kernel_rfl
end
end Go.Proofs.YtibiofjkgdidmaaGreatDoor.Ev
