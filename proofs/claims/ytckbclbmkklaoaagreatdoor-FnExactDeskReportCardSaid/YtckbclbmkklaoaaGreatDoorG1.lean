/- Functions of the program, as zl_ ones. No conditions. -/
import Derived.Test.YtckbclbmkklaoaaGreatDoorG0
import Derived.KernelRfl
set_option linter.unusedVariables false
set_option maxRecDepth 100000
namespace Go.Proofs.YtckbclbmkklaoaaGreatDoor.Ev
open Go.RowKit
noncomputable section
def z4q_ (a0 : List Int) (left1 : Int) : Option Int := (if (decide ((z0_ (left1 - (List.length a0 : Int))) < 0)) = true then some (-1) else some (z0_ (left1 - (List.length a0 : Int))))
def q0_ : FE := ⟨(.pr (.sl 2 (.int .i64)) (.int .i64)), 1, (.int .i64), fun x => z4q_ x.1 x.2⟩
theorem q1_ : FnOK Tryz.prog 14 (q0_) := by
  refine za_ (tab := []) (l := []) z4_ z6_ mix (List.forall_mem_nil _) (List.forall_mem_nil _) ⟨⟨Tryz.f14, (z2_ Tryz.f14), [.tmp 4], (LOn Int), by kernel_rfl, by kernel_rfl, by kernel_rfl, by kernel_rfl, rfl, by decide, ⟨by kernel_rfl, ?_, ?_⟩, ?_⟩⟩
  · exact zf_ (by kernel_rfl)
  · exact z5_ (by kernel_rfl)
  · rintro ⟨a0, left1⟩
    kernel_rfl
def z8t_ (k : Nat) : Nat → (List (List Int)) → Int → Int → (Int → Option Int) → Option Int
  | 0, _, _, _, _ => none
  | n + 1, a0, left1, i5, e_0 => (if (decide (i5 < (List.length a0 : Int))) = true then (if 0 ≤ i5 then (a0[i5.toNat]?).bind fun y_1 => (z4q_ y_1 left1).bind fun r_2 => (if (decide (r_2 < 0)) = true then some (-1) else z8t_ k n a0 r_2 (z0_ (i5 + 1)) e_0) else none) else e_0 left1)
def zbu_ (k : Nat) (a0 : List (List Int)) (left1 : Int) : Option Int := (if (decide ((z0_ (left1 - (List.length a0 : Int))) < 0)) = true then some (-1) else z8t_ k k a0 (z0_ (left1 - (List.length a0 : Int))) 0 (fun left_3 => some left_3))
def q2_ : Head := ⟨[(0, (.val (.sl 25 (.sl 2 (.int .i64))))), (1, (.val (.int .i64))), (5, (.val (.int .i64)))], [], []⟩
def q3_ : Head := ⟨[(1, (.val (.int .i64)))], [], []⟩
def q4_ (k n : Nat) (x : q2_.T) (kx : Nat → St → Option Int) : Option Int := z8t_ k n x.1.1 x.1.2.1 x.1.2.2.1 (fun (left1 : Int) => kx 0 (q3_.fill ((left1, ()), (), ())))
def q5_ (k : Nat) : Oracles Int := ⟨fun n => bif Nat.beq n 5 then some (fun σ kx => q2_.get σ fun x => q4_ k k x kx) else none, fun _ => none⟩
def q6_ (k : Nat) : FE := ⟨(.pr (.sl 25 (.sl 2 (.int .i64))) (.int .i64)), 1, (.int .i64), fun x => zbu_ k x.1 x.2⟩
theorem q7_ (k : Nat) : zd_ (z3_ ti [(14, q0_)] (lk []) z7_ z8_) (q5_ k) (rdC (z3_ ti [(14, q0_)] (lk []) z7_ z8_) [.tmp 4] (.int .i64)) ((zc_ (z2_ Tryz.f88)).getD 0 .skip) (fun σ kx => q2_.get σ fun x => q4_ k k x kx) := by
  refine ⟨q2_, [(0, q3_)], fun n x kx => q4_ k n x kx, k, by kernel_rfl, by kernel_rfl, fun x kx => by kernel_rfl, ?_, fun σ kx => rfl⟩
  rintro n ⟨⟨a0, left1, i5, ⟨⟩⟩, ⟨⟩, ⟨⟩⟩ kx
  kernel_rfl
theorem q8_ (k : Nat) : FnOK Tryz.prog 88 (q6_ k) := by
  refine za_ (tab := [(14, q0_)]) (l := []) z4_ z6_ mix (List.forall_mem_cons.2 ⟨q1_, (List.forall_mem_nil _)⟩) (List.forall_mem_nil _) ⟨⟨Tryz.f88, (z2_ Tryz.f88), [.tmp 4], (q5_ k), by kernel_rfl, by kernel_rfl, by kernel_rfl, by kernel_rfl, rfl, by decide, ⟨by kernel_rfl, ?_, ?_⟩, ?_⟩⟩
  · refine zi_ (n := 1) (by kernel_rfl) fun i hi => ?_
    match i, hi with
    | 0, _ => exact ze_ (by kernel_rfl) (q7_ k)
    | n + 1, hi => omega
  · exact z5_ (by kernel_rfl)
  · rintro ⟨a0, left1⟩
    kernel_rfl
def zbv_ (k : Nat) (a0 : List (List Int)) (left1 : Int) : Option Int := (zbu_ k a0 left1).bind fun r_1 => (if (decide (r_1 < 0)) = true then some (-1) else some r_1)
def q9_ (k : Nat) : FE := ⟨(.pr (.st (.sl 25 (.sl 2 (.int .i64)))) (.int .i64)), 1, (.int .i64), fun x => zbv_ k x.1 x.2⟩
theorem qa_ (k : Nat) : FnOK Tryz.prog 50 (q9_ k) := by
  refine za_ (tab := [(88, q6_ k)]) (l := []) z4_ z6_ mix (List.forall_mem_cons.2 ⟨q8_ k, (List.forall_mem_nil _)⟩) (List.forall_mem_nil _) ⟨⟨Tryz.f50, (z2_ Tryz.f50), [.tmp 4], (LOn Int), by kernel_rfl, by kernel_rfl, by kernel_rfl, by kernel_rfl, rfl, by decide, ⟨by kernel_rfl, ?_, ?_⟩, ?_⟩⟩
  · exact zf_ (by kernel_rfl)
  · exact z5_ (by kernel_rfl)
  · rintro ⟨a0, left1⟩
    kernel_rfl
def zbw_ (a0 : Int × Int × Int × List Int) (left1 : Int) : Option Int := (z4q_ a0.2.2.2 left1).bind fun r_1 => (if (decide (r_1 < 0)) = true then some (-1) else some r_1)
def qb_ : FE := ⟨(.pr (.st (.pr (.int .i64) (.pr (.int .i64) (.pr (.int .i64) (.sl 2 (.int .i64)))))) (.int .i64)), 1, (.int .i64), fun x => zbw_ x.1 x.2⟩
theorem qc_ : FnOK Tryz.prog 16 (qb_) := by
  refine za_ (tab := [(14, q0_)]) (l := []) z4_ z6_ mix (List.forall_mem_cons.2 ⟨q1_, (List.forall_mem_nil _)⟩) (List.forall_mem_nil _) ⟨⟨Tryz.f16, (z2_ Tryz.f16), [.tmp 4], (LOn Int), by kernel_rfl, by kernel_rfl, by kernel_rfl, by kernel_rfl, rfl, by decide, ⟨by kernel_rfl, ?_, ?_⟩, ?_⟩⟩
  · exact zf_ (by kernel_rfl)
  · exact z5_ (by kernel_rfl)
  · rintro ⟨a0, left1⟩
    kernel_rfl
def z8u_ (k : Nat) : Nat → (List (Int × Int × Int × List Int)) → Int → Int → (Int → Option Int) → Option Int
  | 0, _, _, _, _ => none
  | n + 1, a0, left1, i5, e_0 => (if (decide (i5 < (List.length a0 : Int))) = true then (if 0 ≤ i5 then (a0[i5.toNat]?).bind fun y_1 => (zbw_ y_1 left1).bind fun r_2 => (if (decide (r_2 < 0)) = true then some (-1) else z8u_ k n a0 r_2 (z0_ (i5 + 1)) e_0) else none) else e_0 left1)
def zec_ (k : Nat) (a0 : List (Int × Int × Int × List Int)) (left1 : Int) : Option Int := (if (decide ((z0_ (left1 - (List.length a0 : Int))) < 0)) = true then some (-1) else z8u_ k k a0 (z0_ (left1 - (List.length a0 : Int))) 0 (fun left_3 => some left_3))
def qd_ : Head := ⟨[(0, (.val (.sl 33 (.st (.pr (.int .i64) (.pr (.int .i64) (.pr (.int .i64) (.sl 2 (.int .i64))))))))), (1, (.val (.int .i64))), (5, (.val (.int .i64)))], [], []⟩
def qe_ : Head := ⟨[(1, (.val (.int .i64)))], [], []⟩
def qf_ (k n : Nat) (x : qd_.T) (kx : Nat → St → Option Int) : Option Int := z8u_ k n x.1.1 x.1.2.1 x.1.2.2.1 (fun (left1 : Int) => kx 0 (qe_.fill ((left1, ()), (), ())))
def qg_ (k : Nat) : Oracles Int := ⟨fun n => bif Nat.beq n 5 then some (fun σ kx => qd_.get σ fun x => qf_ k k x kx) else none, fun _ => none⟩
def qh_ (k : Nat) : FE := ⟨(.pr (.sl 33 (.st (.pr (.int .i64) (.pr (.int .i64) (.pr (.int .i64) (.sl 2 (.int .i64))))))) (.int .i64)), 1, (.int .i64), fun x => zec_ k x.1 x.2⟩
theorem qi_ (k : Nat) : zd_ (z3_ ti [(16, qb_)] (lk []) z7_ z8_) (qg_ k) (rdC (z3_ ti [(16, qb_)] (lk []) z7_ z8_) [.tmp 4] (.int .i64)) ((zc_ (z2_ Tryz.f51)).getD 0 .skip) (fun σ kx => qd_.get σ fun x => qf_ k k x kx) := by
  refine ⟨qd_, [(0, qe_)], fun n x kx => qf_ k n x kx, k, by kernel_rfl, by kernel_rfl, fun x kx => by kernel_rfl, ?_, fun σ kx => rfl⟩
  rintro n ⟨⟨a0, left1, i5, ⟨⟩⟩, ⟨⟩, ⟨⟩⟩ kx
  kernel_rfl
theorem qj_ (k : Nat) : FnOK Tryz.prog 51 (qh_ k) := by
  refine za_ (tab := [(16, qb_)]) (l := []) z4_ z6_ mix (List.forall_mem_cons.2 ⟨qc_, (List.forall_mem_nil _)⟩) (List.forall_mem_nil _) ⟨⟨Tryz.f51, (z2_ Tryz.f51), [.tmp 4], (qg_ k), by kernel_rfl, by kernel_rfl, by kernel_rfl, by kernel_rfl, rfl, by decide, ⟨by kernel_rfl, ?_, ?_⟩, ?_⟩⟩
  · refine zi_ (n := 1) (by kernel_rfl) fun i hi => ?_
    match i, hi with
    | 0, _ => exact ze_ (by kernel_rfl) (qi_ k)
    | n + 1, hi => omega
  · exact z5_ (by kernel_rfl)
  · rintro ⟨a0, left1⟩
    kernel_rfl
def zed_ (k : Nat) (a0 : List (List Int) × Int × List Int × List (Int × Int × Int × List Int)) (left1 : Int) : Option Int := (zbv_ k a0.1 left1).bind fun r_1 => (if (decide (r_1 < 0)) = true then some (-1) else (z4q_ a0.2.2.1 r_1).bind fun r_2 => (if (decide (r_2 < 0)) = true then some (-1) else (zec_ k a0.2.2.2 r_2).bind fun r_3 => (if (decide (r_3 < 0)) = true then some (-1) else some r_3)))
def qk_ (k : Nat) : FE := ⟨(.pr (.st (.pr (.st (.sl 25 (.sl 2 (.int .i64)))) (.pr (.int .i64) (.pr (.sl 2 (.int .i64)) (.sl 33 (.st (.pr (.int .i64) (.pr (.int .i64) (.pr (.int .i64) (.sl 2 (.int .i64))))))))))) (.int .i64)), 1, (.int .i64), fun x => zed_ k x.1 x.2⟩
theorem ql_ (k : Nat) : FnOK Tryz.prog 13 (qk_ k) := by
  refine za_ (tab := [(50, q9_ k), (14, q0_), (51, qh_ k)]) (l := []) z4_ z6_ mix (List.forall_mem_cons.2 ⟨qa_ k, (List.forall_mem_cons.2 ⟨q1_, (List.forall_mem_cons.2 ⟨qj_ k, (List.forall_mem_nil _)⟩)⟩)⟩) (List.forall_mem_nil _) ⟨⟨Tryz.f13, (z2_ Tryz.f13), [.tmp 4], (LOn Int), by kernel_rfl, by kernel_rfl, by kernel_rfl, by kernel_rfl, rfl, by decide, ⟨by kernel_rfl, ?_, ?_⟩, ?_⟩⟩
  · exact zf_ (by kernel_rfl)
  · exact z5_ (by kernel_rfl)
  · rintro ⟨a0, left1⟩
    kernel_rfl
def zee_ (a0 : List (Int × Int × Int)) (left1 : Int) : Option Int := (if (decide ((z0_ (left1 - (List.length a0 : Int))) < 0)) = true then some (-1) else some (z0_ (left1 - (List.length a0 : Int))))
def qm_ : FE := ⟨(.pr (.sl 166 (.st (.pr (.int .i64) (.pr (.int .i64) (.int .i64))))) (.int .i64)), 1, (.int .i64), fun x => zee_ x.1 x.2⟩
theorem qn_ : FnOK Tryz.prog 52 (qm_) := by
  refine za_ (tab := []) (l := []) z4_ z6_ mix (List.forall_mem_nil _) (List.forall_mem_nil _) ⟨⟨Tryz.f52, (z2_ Tryz.f52), [.tmp 4], (LOn Int), by kernel_rfl, by kernel_rfl, by kernel_rfl, by kernel_rfl, rfl, by decide, ⟨by kernel_rfl, ?_, ?_⟩, ?_⟩⟩
  · exact zf_ (by kernel_rfl)
  · exact z5_ (by kernel_rfl)
  · rintro ⟨a0, left1⟩
    kernel_rfl
def zef_ (a0 : Int × List (Int × Int × Int)) (left1 : Int) : Option Int := (zee_ a0.2 left1).bind fun r_1 => (if (decide (r_1 < 0)) = true then some (-1) else some r_1)
def qo_ : FE := ⟨(.pr (.st (.pr (.int .i64) (.sl 166 (.st (.pr (.int .i64) (.pr (.int .i64) (.int .i64))))))) (.int .i64)), 1, (.int .i64), fun x => zef_ x.1 x.2⟩
theorem qp_ : FnOK Tryz.prog 15 (qo_) := by
  refine za_ (tab := [(52, qm_)]) (l := []) z4_ z6_ mix (List.forall_mem_cons.2 ⟨qn_, (List.forall_mem_nil _)⟩) (List.forall_mem_nil _) ⟨⟨Tryz.f15, (z2_ Tryz.f15), [.tmp 4], (LOn Int), by kernel_rfl, by kernel_rfl, by kernel_rfl, by kernel_rfl, rfl, by decide, ⟨by kernel_rfl, ?_, ?_⟩, ?_⟩⟩
  · exact zf_ (by kernel_rfl)
  · exact z5_ (by kernel_rfl)
  · rintro ⟨a0, left1⟩
    kernel_rfl
def zeg_ (k : Nat) (a0 : List Int × List (List Int)) (left1 : Int) : Option Int := (z4q_ a0.1 left1).bind fun r_1 => (if (decide (r_1 < 0)) = true then some (-1) else (zbu_ k a0.2 r_1).bind fun r_2 => (if (decide (r_2 < 0)) = true then some (-1) else some r_2))
def qq_ (k : Nat) : FE := ⟨(.pr (.st (.pr (.sl 2 (.int .i64)) (.sl 25 (.sl 2 (.int .i64))))) (.int .i64)), 1, (.int .i64), fun x => zeg_ k x.1 x.2⟩
theorem qr_ (k : Nat) : FnOK Tryz.prog 53 (qq_ k) := by
  refine za_ (tab := [(14, q0_), (88, q6_ k)]) (l := []) z4_ z6_ mix (List.forall_mem_cons.2 ⟨q1_, (List.forall_mem_cons.2 ⟨q8_ k, (List.forall_mem_nil _)⟩)⟩) (List.forall_mem_nil _) ⟨⟨Tryz.f53, (z2_ Tryz.f53), [.tmp 4], (LOn Int), by kernel_rfl, by kernel_rfl, by kernel_rfl, by kernel_rfl, rfl, by decide, ⟨by kernel_rfl, ?_, ?_⟩, ?_⟩⟩
  · exact zf_ (by kernel_rfl)
  · exact z5_ (by kernel_rfl)
  · rintro ⟨a0, left1⟩
    kernel_rfl
def z8v_ (k : Nat) : Nat → (List (List Int × List (List Int))) → Int → Int → (Int → Option Int) → Option Int
  | 0, _, _, _, _ => none
  | n + 1, a0, left1, i5, e_0 => (if (decide (i5 < (List.length a0 : Int))) = true then (if 0 ≤ i5 then (a0[i5.toNat]?).bind fun y_1 => (zeg_ k y_1 left1).bind fun r_2 => (if (decide (r_2 < 0)) = true then some (-1) else z8v_ k n a0 r_2 (z0_ (i5 + 1)) e_0) else none) else e_0 left1)
def zeh_ (k : Nat) (a0 : List (List Int × List (List Int))) (left1 : Int) : Option Int := (if (decide ((z0_ (left1 - (List.length a0 : Int))) < 0)) = true then some (-1) else z8v_ k k a0 (z0_ (left1 - (List.length a0 : Int))) 0 (fun left_3 => some left_3))
def qs_ : Head := ⟨[(0, (.val (.sl 109 (.st (.pr (.sl 2 (.int .i64)) (.sl 25 (.sl 2 (.int .i64)))))))), (1, (.val (.int .i64))), (5, (.val (.int .i64)))], [], []⟩
def qt_ : Head := ⟨[(1, (.val (.int .i64)))], [], []⟩
def qu_ (k n : Nat) (x : qs_.T) (kx : Nat → St → Option Int) : Option Int := z8v_ k n x.1.1 x.1.2.1 x.1.2.2.1 (fun (left1 : Int) => kx 0 (qt_.fill ((left1, ()), (), ())))
def qv_ (k : Nat) : Oracles Int := ⟨fun n => bif Nat.beq n 5 then some (fun σ kx => qs_.get σ fun x => qu_ k k x kx) else none, fun _ => none⟩
def qw_ (k : Nat) : FE := ⟨(.pr (.sl 109 (.st (.pr (.sl 2 (.int .i64)) (.sl 25 (.sl 2 (.int .i64)))))) (.int .i64)), 1, (.int .i64), fun x => zeh_ k x.1 x.2⟩
theorem qx_ (k : Nat) : zd_ (z3_ ti [(53, qq_ k)] (lk []) z7_ z8_) (qv_ k) (rdC (z3_ ti [(53, qq_ k)] (lk []) z7_ z8_) [.tmp 4] (.int .i64)) ((zc_ (z2_ Tryz.f17)).getD 0 .skip) (fun σ kx => qs_.get σ fun x => qu_ k k x kx) := by
  refine ⟨qs_, [(0, qt_)], fun n x kx => qu_ k n x kx, k, by kernel_rfl, by kernel_rfl, fun x kx => by kernel_rfl, ?_, fun σ kx => rfl⟩
  rintro n ⟨⟨a0, left1, i5, ⟨⟩⟩, ⟨⟩, ⟨⟩⟩ kx
  kernel_rfl
theorem qy_ (k : Nat) : FnOK Tryz.prog 17 (qw_ k) := by
  refine za_ (tab := [(53, qq_ k)]) (l := []) z4_ z6_ mix (List.forall_mem_cons.2 ⟨qr_ k, (List.forall_mem_nil _)⟩) (List.forall_mem_nil _) ⟨⟨Tryz.f17, (z2_ Tryz.f17), [.tmp 4], (qv_ k), by kernel_rfl, by kernel_rfl, by kernel_rfl, by kernel_rfl, rfl, by decide, ⟨by kernel_rfl, ?_, ?_⟩, ?_⟩⟩
  · refine zi_ (n := 1) (by kernel_rfl) fun i hi => ?_
    match i, hi with
    | 0, _ => exact ze_ (by kernel_rfl) (qx_ k)
    | n + 1, hi => omega
  · exact z5_ (by kernel_rfl)
  · rintro ⟨a0, left1⟩
    kernel_rfl
def zei_ (k : Nat) (a0 : List (List Int) × List Int) (left1 : Int) : Option Int := (zbv_ k a0.1 left1).bind fun r_1 => (if (decide (r_1 < 0)) = true then some (-1) else (z4q_ a0.2 r_1).bind fun r_2 => (if (decide (r_2 < 0)) = true then some (-1) else some r_2))
def qz_ (k : Nat) : FE := ⟨(.pr (.st (.pr (.st (.sl 25 (.sl 2 (.int .i64)))) (.sl 2 (.int .i64)))) (.int .i64)), 1, (.int .i64), fun x => zei_ k x.1 x.2⟩
theorem q10_ (k : Nat) : FnOK Tryz.prog 18 (qz_ k) := by
  refine za_ (tab := [(50, q9_ k), (14, q0_)]) (l := []) z4_ z6_ mix (List.forall_mem_cons.2 ⟨qa_ k, (List.forall_mem_cons.2 ⟨q1_, (List.forall_mem_nil _)⟩)⟩) (List.forall_mem_nil _) ⟨⟨Tryz.f18, (z2_ Tryz.f18), [.tmp 4], (LOn Int), by kernel_rfl, by kernel_rfl, by kernel_rfl, by kernel_rfl, rfl, by decide, ⟨by kernel_rfl, ?_, ?_⟩, ?_⟩⟩
  · exact zf_ (by kernel_rfl)
  · exact z5_ (by kernel_rfl)
  · rintro ⟨a0, left1⟩
    kernel_rfl
def z8w_ (k : Nat) : Nat → (List (List UInt8)) → Int → Int → (Int → Option Int) → Option Int
  | 0, _, _, _, _ => none
  | n + 1, a0, left1, i5, e_0 => (if (decide (i5 < (List.length a0 : Int))) = true then (if 0 ≤ i5 then (a0[i5.toNat]?).bind fun y_1 => (if (decide ((z0_ (left1 - (List.length y_1 : Int))) < 0)) = true then some (-1) else z8w_ k n a0 (z0_ (left1 - (List.length y_1 : Int))) (z0_ (i5 + 1)) e_0) else none) else e_0 left1)
def zej_ (k : Nat) (a0 : List (List UInt8)) (left1 : Int) : Option Int := (if (decide ((z0_ (left1 - (List.length a0 : Int))) < 0)) = true then some (-1) else z8w_ k k a0 (z0_ (left1 - (List.length a0 : Int))) 0 (fun left_2 => some left_2))
def q11_ : Head := ⟨[(0, (.val (.sl 9 .str))), (1, (.val (.int .i64))), (5, (.val (.int .i64)))], [], []⟩
def q12_ : Head := ⟨[(1, (.val (.int .i64)))], [], []⟩
def q13_ (k n : Nat) (x : q11_.T) (kx : Nat → St → Option Int) : Option Int := z8w_ k n x.1.1 x.1.2.1 x.1.2.2.1 (fun (left1 : Int) => kx 0 (q12_.fill ((left1, ()), (), ())))
def q14_ (k : Nat) : Oracles Int := ⟨fun n => bif Nat.beq n 5 then some (fun σ kx => q11_.get σ fun x => q13_ k k x kx) else none, fun _ => none⟩
def q15_ (k : Nat) : FE := ⟨(.pr (.sl 9 .str) (.int .i64)), 1, (.int .i64), fun x => zej_ k x.1 x.2⟩
theorem q16_ (k : Nat) : zd_ (z3_ ti [] (lk []) z7_ z8_) (q14_ k) (rdC (z3_ ti [] (lk []) z7_ z8_) [.tmp 4] (.int .i64)) ((zc_ (z2_ Tryz.f89)).getD 0 .skip) (fun σ kx => q11_.get σ fun x => q13_ k k x kx) := by
  refine ⟨q11_, [(0, q12_)], fun n x kx => q13_ k n x kx, k, by kernel_rfl, by kernel_rfl, fun x kx => by kernel_rfl, ?_, fun σ kx => rfl⟩
  rintro n ⟨⟨a0, left1, i5, ⟨⟩⟩, ⟨⟩, ⟨⟩⟩ kx
  kernel_rfl
theorem q17_ (k : Nat) : FnOK Tryz.prog 89 (q15_ k) := by
  refine za_ (tab := []) (l := []) z4_ z6_ mix (List.forall_mem_nil _) (List.forall_mem_nil _) ⟨⟨Tryz.f89, (z2_ Tryz.f89), [.tmp 4], (q14_ k), by kernel_rfl, by kernel_rfl, by kernel_rfl, by kernel_rfl, rfl, by decide, ⟨by kernel_rfl, ?_, ?_⟩, ?_⟩⟩
  · refine zi_ (n := 1) (by kernel_rfl) fun i hi => ?_
    match i, hi with
    | 0, _ => exact ze_ (by kernel_rfl) (q16_ k)
    | n + 1, hi => omega
  · exact z5_ (by kernel_rfl)
  · rintro ⟨a0, left1⟩
    kernel_rfl
def zek_ (k : Nat) (a0 : List UInt8 × List (List UInt8) × Int × Int) (left1 : Int) : Option Int := (if (decide ((z0_ (left1 - (List.length a0.1 : Int))) < 0)) = true then some (-1) else (zej_ k a0.2.1 (z0_ (left1 - (List.length a0.1 : Int)))).bind fun r_1 => (if (decide (r_1 < 0)) = true then some (-1) else some r_1))
def q18_ (k : Nat) : FE := ⟨(.pr (.st (.pr .str (.pr (.sl 9 .str) (.pr (.int .i64) (.int .i64))))) (.int .i64)), 1, (.int .i64), fun x => zek_ k x.1 x.2⟩
theorem q19_ (k : Nat) : FnOK Tryz.prog 54 (q18_ k) := by
  refine za_ (tab := [(89, q15_ k)]) (l := []) z4_ z6_ mix (List.forall_mem_cons.2 ⟨q17_ k, (List.forall_mem_nil _)⟩) (List.forall_mem_nil _) ⟨⟨Tryz.f54, (z2_ Tryz.f54), [.tmp 4], (LOn Int), by kernel_rfl, by kernel_rfl, by kernel_rfl, by kernel_rfl, rfl, by decide, ⟨by kernel_rfl, ?_, ?_⟩, ?_⟩⟩
  · exact zf_ (by kernel_rfl)
  · exact z5_ (by kernel_rfl)
  · rintro ⟨a0, left1⟩
    kernel_rfl
def z8x_ (k : Nat) : Nat → (List (List UInt8 × List (List UInt8) × Int × Int)) → Int → Int → (Int → Option Int) → Option Int
  | 0, _, _, _, _ => none
  | n + 1, a0, left1, i5, e_0 => (if (decide (i5 < (List.length a0 : Int))) = true then (if 0 ≤ i5 then (a0[i5.toNat]?).bind fun y_1 => (zek_ k y_1 left1).bind fun r_2 => (if (decide (r_2 < 0)) = true then some (-1) else z8x_ k n a0 r_2 (z0_ (i5 + 1)) e_0) else none) else e_0 left1)
def zel_ (k : Nat) (a0 : List (List UInt8 × List (List UInt8) × Int × Int)) (left1 : Int) : Option Int := (if (decide ((z0_ (left1 - (List.length a0 : Int))) < 0)) = true then some (-1) else z8x_ k k a0 (z0_ (left1 - (List.length a0 : Int))) 0 (fun left_3 => some left_3))
def q1a_ : Head := ⟨[(0, (.val (.sl 111 (.st (.pr .str (.pr (.sl 9 .str) (.pr (.int .i64) (.int .i64)))))))), (1, (.val (.int .i64))), (5, (.val (.int .i64)))], [], []⟩
def q1b_ : Head := ⟨[(1, (.val (.int .i64)))], [], []⟩
def q1c_ (k n : Nat) (x : q1a_.T) (kx : Nat → St → Option Int) : Option Int := z8x_ k n x.1.1 x.1.2.1 x.1.2.2.1 (fun (left1 : Int) => kx 0 (q1b_.fill ((left1, ()), (), ())))
def q1d_ (k : Nat) : Oracles Int := ⟨fun n => bif Nat.beq n 5 then some (fun σ kx => q1a_.get σ fun x => q1c_ k k x kx) else none, fun _ => none⟩
def q1e_ (k : Nat) : FE := ⟨(.pr (.sl 111 (.st (.pr .str (.pr (.sl 9 .str) (.pr (.int .i64) (.int .i64)))))) (.int .i64)), 1, (.int .i64), fun x => zel_ k x.1 x.2⟩
theorem q1f_ (k : Nat) : zd_ (z3_ ti [(54, q18_ k)] (lk []) z7_ z8_) (q1d_ k) (rdC (z3_ ti [(54, q18_ k)] (lk []) z7_ z8_) [.tmp 4] (.int .i64)) ((zc_ (z2_ Tryz.f19)).getD 0 .skip) (fun σ kx => q1a_.get σ fun x => q1c_ k k x kx) := by
  refine ⟨q1a_, [(0, q1b_)], fun n x kx => q1c_ k n x kx, k, by kernel_rfl, by kernel_rfl, fun x kx => by kernel_rfl, ?_, fun σ kx => rfl⟩
  rintro n ⟨⟨a0, left1, i5, ⟨⟩⟩, ⟨⟩, ⟨⟩⟩ kx
  kernel_rfl
theorem q1g_ (k : Nat) : FnOK Tryz.prog 19 (q1e_ k) := by
  refine za_ (tab := [(54, q18_ k)]) (l := []) z4_ z6_ mix (List.forall_mem_cons.2 ⟨q19_ k, (List.forall_mem_nil _)⟩) (List.forall_mem_nil _) ⟨⟨Tryz.f19, (z2_ Tryz.f19), [.tmp 4], (q1d_ k), by kernel_rfl, by kernel_rfl, by kernel_rfl, by kernel_rfl, rfl, by decide, ⟨by kernel_rfl, ?_, ?_⟩, ?_⟩⟩
  · refine zi_ (n := 1) (by kernel_rfl) fun i hi => ?_
    match i, hi with
    | 0, _ => exact ze_ (by kernel_rfl) (q1f_ k)
    | n + 1, hi => omega
  · exact z5_ (by kernel_rfl)
  · rintro ⟨a0, left1⟩
    kernel_rfl
def zem_ (k : Nat) (a0 : (List (List Int) × Int × List Int × List (Int × Int × Int × List Int)) × List Int × (Int × List (Int × Int × Int)) × List Int × (Int × Int × Int × List Int) × (List (List Int × List (List Int))) × (List (List Int) × List Int) × List (List UInt8 × List (List UInt8) × Int × Int)) (left1 : Int) : Option Int := (zed_ k a0.1 left1).bind fun r_1 => (if (decide (r_1 < 0)) = true then some (-1) else (z4q_ a0.2.1 r_1).bind fun r_2 => (if (decide (r_2 < 0)) = true then some (-1) else (zef_ a0.2.2.1 r_2).bind fun r_3 => (if (decide (r_3 < 0)) = true then some (-1) else (z4q_ a0.2.2.2.1 r_3).bind fun r_4 => (if (decide (r_4 < 0)) = true then some (-1) else (zbw_ a0.2.2.2.2.1 r_4).bind fun r_5 => (if (decide (r_5 < 0)) = true then some (-1) else (zeh_ k a0.2.2.2.2.2.1 r_5).bind fun r_6 => (if (decide (r_6 < 0)) = true then some (-1) else (zei_ k a0.2.2.2.2.2.2.1 r_6).bind fun r_7 => (if (decide (r_7 < 0)) = true then some (-1) else (zel_ k a0.2.2.2.2.2.2.2 r_7).bind fun r_8 => (if (decide (r_8 < 0)) = true then some (-1) else some r_8))))))))
def q1h_ (k : Nat) : FE := ⟨(.pr (.st (.pr (.st (.pr (.st (.sl 25 (.sl 2 (.int .i64)))) (.pr (.int .i64) (.pr (.sl 2 (.int .i64)) (.sl 33 (.st (.pr (.int .i64) (.pr (.int .i64) (.pr (.int .i64) (.sl 2 (.int .i64))))))))))) (.pr (.sl 2 (.int .i64)) (.pr (.st (.pr (.int .i64) (.sl 166 (.st (.pr (.int .i64) (.pr (.int .i64) (.int .i64))))))) (.pr (.sl 2 (.int .i64)) (.pr (.st (.pr (.int .i64) (.pr (.int .i64) (.pr (.int .i64) (.sl 2 (.int .i64)))))) (.pr (.sl 109 (.st (.pr (.sl 2 (.int .i64)) (.sl 25 (.sl 2 (.int .i64)))))) (.pr (.st (.pr (.st (.sl 25 (.sl 2 (.int .i64)))) (.sl 2 (.int .i64)))) (.sl 111 (.st (.pr .str (.pr (.sl 9 .str) (.pr (.int .i64) (.int .i64)))))))))))))) (.int .i64)), 1, (.int .i64), fun x => zem_ k x.1 x.2⟩
theorem q1i_ (k : Nat) : FnOK Tryz.prog 4 (q1h_ k) := by
  refine za_ (tab := [(13, qk_ k), (14, q0_), (15, qo_), (16, qb_), (17, qw_ k), (18, qz_ k), (19, q1e_ k)]) (l := []) z4_ z6_ mix (List.forall_mem_cons.2 ⟨ql_ k, (List.forall_mem_cons.2 ⟨q1_, (List.forall_mem_cons.2 ⟨qp_, (List.forall_mem_cons.2 ⟨qc_, (List.forall_mem_cons.2 ⟨qy_ k, (List.forall_mem_cons.2 ⟨q10_ k, (List.forall_mem_cons.2 ⟨q1g_ k, (List.forall_mem_nil _)⟩)⟩)⟩)⟩)⟩)⟩)⟩) (List.forall_mem_nil _) ⟨⟨Tryz.f4, (z2_ Tryz.f4), [.tmp 4], (LOn Int), by kernel_rfl, by kernel_rfl, by kernel_rfl, by kernel_rfl, rfl, by decide, ⟨by kernel_rfl, ?_, ?_⟩, ?_⟩⟩
  · exact zf_ (by kernel_rfl)
  · exact z5_ (by kernel_rfl)
  · rintro ⟨a0, left1⟩
    kernel_rfl
def z8y_ (k : Nat) : Nat → (List Int) → Int → (List Int) → ((List Int) → Option (List Int)) → Option (List Int)
  | 0, _, _, _, _ => none
  | n + 1, a0, i4, q_1, e_0 => (if (decide (i4 < (List.length a0 : Int))) = true then (if 0 ≤ i4 then (a0[i4.toNat]?).bind fun y_2 => (if 0 ≤ i4 ∧ i4.toNat < List.length q_1 then (q_1[i4.toNat]?).bind fun y_3 => (q_1[i4.toNat]?).bind fun y_4 => z8y_ k n a0 (z0_ (i4 + 1)) (q_1.set i4.toNat y_2) e_0 else none) else none) else e_0 q_1)
def z4r_ (k : Nat) (a0 : List Int) : Option (List Int) := (if 0 ≤ (List.length a0 : Int) ∧ (List.length a0 : Int) ≤ (List.length a0 : Int) ∧ (List.length a0 : Int) * 8 ≤ LIM then z8y_ k k a0 0 (List.replicate (List.length a0) 0) (fun q_5 => some q_5) else none)
def q1j_ : Head := ⟨[(0, (.val (.sl 2 (.int .i64)))), (3, (.ref 64000000 [])), (4, (.val (.int .i64)))], [(64000000, 2, (.int .i64), false)], []⟩
def q1k_ : Head := ⟨[(3, (.ref 64000000 []))], [(64000000, 2, (.int .i64), false)], []⟩
def q1l_ (k n : Nat) (x : q1j_.T) (kx : Nat → St → Option (List Int)) : Option (List Int) := z8y_ k n x.1.1 x.1.2.2.1 x.2.1.1 (fun (q_5 : List Int) => kx 0 (q1k_.fill (((), ()), (q_5, ()), ())))
def q1m_ (k : Nat) : Oracles (List Int) := ⟨fun n => bif Nat.beq n 3 then some (fun σ kx => q1j_.get σ fun x => q1l_ k k x kx) else none, fun _ => none⟩
def q1n_ (k : Nat) : FE := ⟨(.sl 2 (.int .i64)), 1, (.sl 2 (.int .i64)), fun x => z4r_ k x⟩
theorem q1o_ (k : Nat) : zd_ (z3_ ti [] (lk []) z7_ z8_) (q1m_ k) (rdC (z3_ ti [] (lk []) z7_ z8_) [.tmp 2] (.sl 2 (.int .i64))) ((zc_ (z2_ Tryz.f23)).getD 0 .skip) (fun σ kx => q1j_.get σ fun x => q1l_ k k x kx) := by
  refine ⟨q1j_, [(0, q1k_)], fun n x kx => q1l_ k n x kx, k, by kernel_rfl, by kernel_rfl, fun x kx => by kernel_rfl, ?_, fun σ kx => rfl⟩
  rintro n ⟨⟨a0, ⟨⟩, i4, ⟨⟩⟩, ⟨q_1, ⟨⟩⟩, ⟨⟩⟩ kx
  kernel_rfl
theorem q1p_ (k : Nat) : FnOK Tryz.prog 23 (q1n_ k) := by
  refine za_ (tab := []) (l := []) z4_ z6_ mix (List.forall_mem_nil _) (List.forall_mem_nil _) ⟨⟨Tryz.f23, (z2_ Tryz.f23), [.tmp 2], (q1m_ k), by kernel_rfl, by kernel_rfl, by kernel_rfl, by kernel_rfl, rfl, by decide, ⟨by kernel_rfl, ?_, ?_⟩, ?_⟩⟩
  · refine zi_ (n := 1) (by kernel_rfl) fun i hi => ?_
    match i, hi with
    | 0, _ => exact ze_ (by kernel_rfl) (q1o_ k)
    | n + 1, hi => omega
  · exact z5_ (by kernel_rfl)
  · rintro a0
    kernel_rfl
def z8z_ (k : Nat) : Nat → (List (List Int)) → Int → (List (List Int)) → ((List (List Int)) → Option (List (List Int))) → Option (List (List Int))
  | 0, _, _, _, _ => none
  | n + 1, a0, i4, q_1, e_0 => (if (decide (i4 < (List.length a0 : Int))) = true then (if 0 ≤ i4 then (a0[i4.toNat]?).bind fun y_2 => (z4r_ k y_2).bind fun r_3 => (if 0 ≤ i4 ∧ i4.toNat < List.length q_1 then (q_1[i4.toNat]?).bind fun y_4 => (q_1[i4.toNat]?).bind fun y_5 => z8z_ k n a0 (z0_ (i4 + 1)) (q_1.set i4.toNat r_3) e_0 else none) else none) else e_0 q_1)
def zbx_ (k : Nat) (a0 : List (List Int)) : Option (List (List Int)) := (if 0 ≤ (List.length a0 : Int) ∧ (List.length a0 : Int) ≤ (List.length a0 : Int) ∧ (List.length a0 : Int) * 24 ≤ LIM then z8z_ k k a0 0 (List.replicate (List.length a0) ([] : List Int)) (fun q_6 => some q_6) else none)
def q1q_ : Head := ⟨[(0, (.val (.sl 25 (.sl 2 (.int .i64))))), (3, (.ref 64000000 [])), (4, (.val (.int .i64)))], [(64000000, 25, (.sl 2 (.int .i64)), false)], []⟩
def q1r_ : Head := ⟨[(3, (.ref 64000000 []))], [(64000000, 25, (.sl 2 (.int .i64)), false)], []⟩
def q1s_ (k n : Nat) (x : q1q_.T) (kx : Nat → St → Option (List (List Int))) : Option (List (List Int)) := z8z_ k n x.1.1 x.1.2.2.1 x.2.1.1 (fun (q_6 : List (List Int)) => kx 0 (q1r_.fill (((), ()), (q_6, ()), ())))
def q1t_ (k : Nat) : Oracles (List (List Int)) := ⟨fun n => bif Nat.beq n 3 then some (fun σ kx => q1q_.get σ fun x => q1s_ k k x kx) else none, fun _ => none⟩
def q1u_ (k : Nat) : FE := ⟨(.sl 25 (.sl 2 (.int .i64))), 1, (.sl 25 (.sl 2 (.int .i64))), fun x => zbx_ k x⟩
theorem q1v_ (k : Nat) : zd_ (z3_ ti [(23, q1n_ k)] (lk []) z7_ z8_) (q1t_ k) (rdC (z3_ ti [(23, q1n_ k)] (lk []) z7_ z8_) [.tmp 2] (.sl 25 (.sl 2 (.int .i64)))) ((zc_ (z2_ Tryz.f104)).getD 0 .skip) (fun σ kx => q1q_.get σ fun x => q1s_ k k x kx) := by
  refine ⟨q1q_, [(0, q1r_)], fun n x kx => q1s_ k n x kx, k, by kernel_rfl, by kernel_rfl, fun x kx => by kernel_rfl, ?_, fun σ kx => rfl⟩
  rintro n ⟨⟨a0, ⟨⟩, i4, ⟨⟩⟩, ⟨q_1, ⟨⟩⟩, ⟨⟩⟩ kx
  kernel_rfl
theorem q1w_ (k : Nat) : FnOK Tryz.prog 104 (q1u_ k) := by
  refine za_ (tab := [(23, q1n_ k)]) (l := []) z4_ z6_ mix (List.forall_mem_cons.2 ⟨q1p_ k, (List.forall_mem_nil _)⟩) (List.forall_mem_nil _) ⟨⟨Tryz.f104, (z2_ Tryz.f104), [.tmp 2], (q1t_ k), by kernel_rfl, by kernel_rfl, by kernel_rfl, by kernel_rfl, rfl, by decide, ⟨by kernel_rfl, ?_, ?_⟩, ?_⟩⟩
  · refine zi_ (n := 1) (by kernel_rfl) fun i hi => ?_
    match i, hi with
    | 0, _ => exact ze_ (by kernel_rfl) (q1v_ k)
    | n + 1, hi => omega
  · exact z5_ (by kernel_rfl)
  · rintro a0
    kernel_rfl
def zby_ (k : Nat) (a0 : List (List Int)) : Option (List (List Int)) := (zbx_ k a0).bind fun r_1 => some r_1
def q1x_ (k : Nat) : FE := ⟨(.st (.sl 25 (.sl 2 (.int .i64)))), 1, (.st (.sl 25 (.sl 2 (.int .i64)))), fun x => zby_ k x⟩
theorem q1y_ (k : Nat) : FnOK Tryz.prog 64 (q1x_ k) := by
  refine za_ (tab := [(104, q1u_ k)]) (l := []) z4_ z6_ mix (List.forall_mem_cons.2 ⟨q1w_ k, (List.forall_mem_nil _)⟩) (List.forall_mem_nil _) ⟨⟨Tryz.f64, (z2_ Tryz.f64), [.cell 2 44], (LOn (List (List Int))), by kernel_rfl, by kernel_rfl, by kernel_rfl, by kernel_rfl, rfl, by decide, ⟨by kernel_rfl, ?_, ?_⟩, ?_⟩⟩
  · exact zf_ (by kernel_rfl)
  · exact z5_ (by kernel_rfl)
  · rintro a0
    kernel_rfl
def zbz_ (k : Nat) (a0 : Int × Int × Int × List Int) : Option (Int × Int × Int × List Int) := (z4r_ k a0.2.2.2).bind fun r_1 => some (a0.1, (a0.2.1, (a0.2.2.1, r_1)))
def q1z_ (k : Nat) : FE := ⟨(.st (.pr (.int .i64) (.pr (.int .i64) (.pr (.int .i64) (.sl 2 (.int .i64)))))), 1, (.st (.pr (.int .i64) (.pr (.int .i64) (.pr (.int .i64) (.sl 2 (.int .i64)))))), fun x => zbz_ k x⟩
theorem q20_ (k : Nat) : FnOK Tryz.prog 25 (q1z_ k) := by
  refine za_ (tab := [(23, q1n_ k)]) (l := []) z4_ z6_ mix (List.forall_mem_cons.2 ⟨q1p_ k, (List.forall_mem_nil _)⟩) (List.forall_mem_nil _) ⟨⟨Tryz.f25, (z2_ Tryz.f25), [.cell 2 51], (LOn (Int × Int × Int × List Int)), by kernel_rfl, by kernel_rfl, by kernel_rfl, by kernel_rfl, rfl, by decide, ⟨by kernel_rfl, ?_, ?_⟩, ?_⟩⟩
  · exact zf_ (by kernel_rfl)
  · exact z5_ (by kernel_rfl)
  · rintro a0
    kernel_rfl
def z90_ (k : Nat) : Nat → (List (Int × Int × Int × List Int)) → Int → (List (Int × Int × Int × List Int)) → ((List (Int × Int × Int × List Int)) → Option (List (Int × Int × Int × List Int))) → Option (List (Int × Int × Int × List Int))
  | 0, _, _, _, _ => none
  | n + 1, a0, i4, q_1, e_0 => (if (decide (i4 < (List.length a0 : Int))) = true then (if 0 ≤ i4 then (a0[i4.toNat]?).bind fun y_2 => (zbz_ k y_2).bind fun r_3 => (if 0 ≤ i4 ∧ i4.toNat < List.length q_1 then (q_1[i4.toNat]?).bind fun y_4 => (q_1[i4.toNat]?).bind fun y_5 => z90_ k n a0 (z0_ (i4 + 1)) (q_1.set i4.toNat (r_3.1, (r_3.2.1, (r_3.2.2.1, r_3.2.2.2)))) e_0 else none) else none) else e_0 q_1)
def zen_ (k : Nat) (a0 : List (Int × Int × Int × List Int)) : Option (List (Int × Int × Int × List Int)) := (if 0 ≤ (List.length a0 : Int) ∧ (List.length a0 : Int) ≤ (List.length a0 : Int) ∧ (List.length a0 : Int) * 48 ≤ LIM then z90_ k k a0 0 (List.replicate (List.length a0) (0, (0, (0, [])))) (fun q_6 => some q_6) else none)
def q21_ : Head := ⟨[(0, (.val (.sl 33 (.st (.pr (.int .i64) (.pr (.int .i64) (.pr (.int .i64) (.sl 2 (.int .i64))))))))), (3, (.ref 64000000 [])), (4, (.val (.int .i64)))], [(64000000, 51, (.st (.pr (.int .i64) (.pr (.int .i64) (.pr (.int .i64) (.sl 2 (.int .i64)))))), false)], []⟩
def q22_ : Head := ⟨[(3, (.ref 64000000 []))], [(64000000, 51, (.st (.pr (.int .i64) (.pr (.int .i64) (.pr (.int .i64) (.sl 2 (.int .i64)))))), false)], []⟩
def q23_ (k n : Nat) (x : q21_.T) (kx : Nat → St → Option (List (Int × Int × Int × List Int))) : Option (List (Int × Int × Int × List Int)) := z90_ k n x.1.1 x.1.2.2.1 x.2.1.1 (fun (q_6 : List (Int × Int × Int × List Int)) => kx 0 (q22_.fill (((), ()), (q_6, ()), ())))
def q24_ (k : Nat) : Oracles (List (Int × Int × Int × List Int)) := ⟨fun n => bif Nat.beq n 3 then some (fun σ kx => q21_.get σ fun x => q23_ k k x kx) else none, fun _ => none⟩
def q25_ (k : Nat) : FE := ⟨(.sl 33 (.st (.pr (.int .i64) (.pr (.int .i64) (.pr (.int .i64) (.sl 2 (.int .i64))))))), 1, (.sl 51 (.st (.pr (.int .i64) (.pr (.int .i64) (.pr (.int .i64) (.sl 2 (.int .i64))))))), fun x => zen_ k x⟩
theorem q26_ (k : Nat) : zd_ (z3_ ti [(25, q1z_ k)] (lk []) z7_ z8_) (q24_ k) (rdC (z3_ ti [(25, q1z_ k)] (lk []) z7_ z8_) [.tmp 2] (.sl 51 (.st (.pr (.int .i64) (.pr (.int .i64) (.pr (.int .i64) (.sl 2 (.int .i64)))))))) ((zc_ (z2_ Tryz.f65)).getD 0 .skip) (fun σ kx => q21_.get σ fun x => q23_ k k x kx) := by
  refine ⟨q21_, [(0, q22_)], fun n x kx => q23_ k n x kx, k, by kernel_rfl, by kernel_rfl, fun x kx => by kernel_rfl, ?_, fun σ kx => rfl⟩
  rintro n ⟨⟨a0, ⟨⟩, i4, ⟨⟩⟩, ⟨q_1, ⟨⟩⟩, ⟨⟩⟩ kx
  kernel_rfl
theorem q27_ (k : Nat) : FnOK Tryz.prog 65 (q25_ k) := by
  refine za_ (tab := [(25, q1z_ k)]) (l := []) z4_ z6_ mix (List.forall_mem_cons.2 ⟨q20_ k, (List.forall_mem_nil _)⟩) (List.forall_mem_nil _) ⟨⟨Tryz.f65, (z2_ Tryz.f65), [.tmp 2], (q24_ k), by kernel_rfl, by kernel_rfl, by kernel_rfl, by kernel_rfl, rfl, by decide, ⟨by kernel_rfl, ?_, ?_⟩, ?_⟩⟩
  · refine zi_ (n := 1) (by kernel_rfl) fun i hi => ?_
    match i, hi with
    | 0, _ => exact ze_ (by kernel_rfl) (q26_ k)
    | n + 1, hi => omega
  · exact z5_ (by kernel_rfl)
  · rintro a0
    kernel_rfl
def zeo_ (k : Nat) (a0 : List (List Int) × Int × List Int × List (Int × Int × Int × List Int)) : Option (List (List Int) × Int × List Int × List (Int × Int × Int × List Int)) := (zby_ k a0.1).bind fun r_1 => (z4r_ k a0.2.2.1).bind fun r_2 => (zen_ k a0.2.2.2).bind fun r_3 => some (r_1, (a0.2.1, (r_2, r_3)))
def q28_ (k : Nat) : FE := ⟨(.st (.pr (.st (.sl 25 (.sl 2 (.int .i64)))) (.pr (.int .i64) (.pr (.sl 2 (.int .i64)) (.sl 33 (.st (.pr (.int .i64) (.pr (.int .i64) (.pr (.int .i64) (.sl 2 (.int .i64))))))))))), 1, (.st (.pr (.st (.sl 25 (.sl 2 (.int .i64)))) (.pr (.int .i64) (.pr (.sl 2 (.int .i64)) (.sl 51 (.st (.pr (.int .i64) (.pr (.int .i64) (.pr (.int .i64) (.sl 2 (.int .i64))))))))))), fun x => zeo_ k x⟩
theorem q29_ (k : Nat) : FnOK Tryz.prog 22 (q28_ k) := by
  refine za_ (tab := [(64, q1x_ k), (23, q1n_ k), (65, q25_ k)]) (l := []) z4_ z6_ mix (List.forall_mem_cons.2 ⟨q1y_ k, (List.forall_mem_cons.2 ⟨q1p_ k, (List.forall_mem_cons.2 ⟨q27_ k, (List.forall_mem_nil _)⟩)⟩)⟩) (List.forall_mem_nil _) ⟨⟨Tryz.f22, (z2_ Tryz.f22), [.cell 2 47], (LOn (List (List Int) × Int × List Int × List (Int × Int × Int × List Int))), by kernel_rfl, by kernel_rfl, by kernel_rfl, by kernel_rfl, rfl, by decide, ⟨by kernel_rfl, ?_, ?_⟩, ?_⟩⟩
  · exact zf_ (by kernel_rfl)
  · exact z5_ (by kernel_rfl)
  · rintro a0
    kernel_rfl
def zep_ (a0 : Int × Int × Int) : Option (Int × Int × Int) := some (a0.1, (a0.2.1, a0.2.2))
def q2a_ : FE := ⟨(.st (.pr (.int .i64) (.pr (.int .i64) (.int .i64)))), 1, (.st (.pr (.int .i64) (.pr (.int .i64) (.int .i64)))), fun x => zep_ x⟩
theorem q2b_ : FnOK Tryz.prog 105 (q2a_) := by
  refine za_ (tab := []) (l := []) z4_ z6_ mix (List.forall_mem_nil _) (List.forall_mem_nil _) ⟨⟨Tryz.f105, (z2_ Tryz.f105), [.cell 2 157], (LOn (Int × Int × Int)), by kernel_rfl, by kernel_rfl, by kernel_rfl, by kernel_rfl, rfl, by decide, ⟨by kernel_rfl, ?_, ?_⟩, ?_⟩⟩
  · exact zf_ (by kernel_rfl)
  · exact z5_ (by kernel_rfl)
  · rintro a0
    kernel_rfl
end
end Go.Proofs.YtckbclbmkklaoaaGreatDoor.Ev
