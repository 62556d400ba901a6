/- Functions of the program, as zl_ ones. No conditions. -/
import Derived.Test.YtckbclbmkklaoaaGreatDoorG9
import Derived.KernelRfl
set_option linter.unusedVariables false
set_option maxRecDepth 100000
namespace Go.Proofs.YtckbclbmkklaoaaGreatDoor.Ev
open Go.RowKit
noncomputable section
def z91_ (k : Nat) : Nat → (List (List UInt8)) → (List (List UInt8)) → Int → (Option Bool) → Option Bool
  | 0, _, _, _, _ => none
  | n + 1, a0, b1, i5, e_0 => (if (decide (i5 < (List.length a0 : Int))) = true then (if 0 ≤ i5 then (a0[i5.toNat]?).bind fun y_1 => (if 0 ≤ i5 then (b1[i5.toNat]?).bind fun y_2 => (if (!(decide (y_1 = y_2))) = true then some false else z91_ k n a0 b1 (z0_ (i5 + 1)) e_0) else none) else none) else e_0)
def z77_ (k : Nat) (a0 : List (List UInt8)) (b1 : List (List UInt8)) : Option Bool := (if (!(decide ((List.length a0 : Int) = (List.length b1 : Int)))) = true then some false else z91_ k k a0 b1 0 (some true))
def qjn_ : Head := ⟨[(0, (.val (.sl 9 .str))), (1, (.val (.sl 9 .str))), (5, (.val (.int .i64)))], [], []⟩
def qjo_ : Head := ⟨[], [], []⟩
def qjp_ (k n : Nat) (x : qjn_.T) (kx : Nat → St → Option Bool) : Option Bool := z91_ k n x.1.1 x.1.2.1 x.1.2.2.1 (kx 0 (qjo_.fill ((), (), ())))
def qjq_ (k : Nat) : Oracles Bool := ⟨fun n => bif Nat.beq n 4 then some (fun σ kx => qjn_.get σ fun x => qjp_ k k x kx) else none, fun _ => none⟩
def qjr_ (k : Nat) : FE := ⟨(.pr (.sl 9 .str) (.sl 9 .str)), 1, .bool, fun x => z77_ k x.1 x.2⟩
theorem qjs_ (k : Nat) : zd_ (z3_ ti [] (lk []) z7_ z8_) (qjq_ k) (rdC (z3_ ti [] (lk []) z7_ z8_) [.tmp 4] .bool) ((zc_ (z2_ Tryz.f8)).getD 0 .skip) (fun σ kx => qjn_.get σ fun x => qjp_ k k x kx) := by
  refine ⟨qjn_, [(0, qjo_)], fun n x kx => qjp_ k n x kx, k, by kernel_rfl, by kernel_rfl, fun x kx => by kernel_rfl, ?_, fun σ kx => rfl⟩
  rintro n ⟨⟨a0, b1, i5, ⟨⟩⟩, ⟨⟩, ⟨⟩⟩ kx
  kernel_rfl
theorem qjt_ (k : Nat) : FnOK Tryz.prog 8 (qjr_ k) := by
  refine za_ (tab := []) (l := []) z4_ z6_ mix (List.forall_mem_nil _) (List.forall_mem_nil _) ⟨⟨Tryz.f8, (z2_ Tryz.f8), [.tmp 4], (qjq_ k), by kernel_rfl, by kernel_rfl, by kernel_rfl, by kernel_rfl, rfl, by decide, ⟨by kernel_rfl, ?_, ?_⟩, ?_⟩⟩
  · refine zi_ (n := 1) (by kernel_rfl) fun i hi => ?_
    match i, hi with
    | 0, _ => exact ze_ (by kernel_rfl) (qjs_ k)
    | n + 1, hi => omega
  · exact z5_ (by kernel_rfl)
  · rintro ⟨a0, b1⟩
    kernel_rfl
def z92_ (k : Nat) : Nat → (List Int) → (List Int) → Int → (Option Bool) → Option Bool
  | 0, _, _, _, _ => none
  | n + 1, a0, b1, i5, e_0 => (if (decide (i5 < (List.length a0 : Int))) = true then (if 0 ≤ i5 then (a0[i5.toNat]?).bind fun y_1 => (if 0 ≤ i5 then (b1[i5.toNat]?).bind fun y_2 => (if (!(decide (y_1 = y_2))) = true then some false else z92_ k n a0 b1 (z0_ (i5 + 1)) e_0) else none) else none) else e_0)
def z4s_ (k : Nat) (a0 : List Int) (b1 : List Int) : Option Bool := (if (!(decide ((List.length a0 : Int) = (List.length b1 : Int)))) = true then some false else z92_ k k a0 b1 0 (some true))
def qju_ : Head := ⟨[(0, (.val (.sl 2 (.int .i64)))), (1, (.val (.sl 2 (.int .i64)))), (5, (.val (.int .i64)))], [], []⟩
def qjv_ : Head := ⟨[], [], []⟩
def qjw_ (k n : Nat) (x : qju_.T) (kx : Nat → St → Option Bool) : Option Bool := z92_ k n x.1.1 x.1.2.1 x.1.2.2.1 (kx 0 (qjv_.fill ((), (), ())))
def qjx_ (k : Nat) : Oracles Bool := ⟨fun n => bif Nat.beq n 4 then some (fun σ kx => qju_.get σ fun x => qjw_ k k x kx) else none, fun _ => none⟩
def qjy_ (k : Nat) : FE := ⟨(.pr (.sl 2 (.int .i64)) (.sl 2 (.int .i64))), 1, .bool, fun x => z4s_ k x.1 x.2⟩
theorem qjz_ (k : Nat) : zd_ (z3_ ti [] (lk []) z7_ z8_) (qjx_ k) (rdC (z3_ ti [] (lk []) z7_ z8_) [.tmp 4] .bool) ((zc_ (z2_ Tryz.f36)).getD 0 .skip) (fun σ kx => qju_.get σ fun x => qjw_ k k x kx) := by
  refine ⟨qju_, [(0, qjv_)], fun n x kx => qjw_ k n x kx, k, by kernel_rfl, by kernel_rfl, fun x kx => by kernel_rfl, ?_, fun σ kx => rfl⟩
  rintro n ⟨⟨a0, b1, i5, ⟨⟩⟩, ⟨⟩, ⟨⟩⟩ kx
  kernel_rfl
theorem qk0_ (k : Nat) : FnOK Tryz.prog 36 (qjy_ k) := by
  refine za_ (tab := []) (l := []) z4_ z6_ mix (List.forall_mem_nil _) (List.forall_mem_nil _) ⟨⟨Tryz.f36, (z2_ Tryz.f36), [.tmp 4], (qjx_ k), by kernel_rfl, by kernel_rfl, by kernel_rfl, by kernel_rfl, rfl, by decide, ⟨by kernel_rfl, ?_, ?_⟩, ?_⟩⟩
  · refine zi_ (n := 1) (by kernel_rfl) fun i hi => ?_
    match i, hi with
    | 0, _ => exact ze_ (by kernel_rfl) (qjz_ k)
    | n + 1, hi => omega
  · exact z5_ (by kernel_rfl)
  · rintro ⟨a0, b1⟩
    kernel_rfl
def z93_ (k : Nat) : Nat → (List (List Int)) → (List (List Int)) → Int → (Option Bool) → Option Bool
  | 0, _, _, _, _ => none
  | n + 1, a0, b1, i5, e_0 => (if (decide (i5 < (List.length a0 : Int))) = true then (if 0 ≤ i5 then (a0[i5.toNat]?).bind fun y_1 => (if 0 ≤ i5 then (b1[i5.toNat]?).bind fun y_2 => (z4s_ k y_1 y_2).bind fun r_3 => (if (!r_3) = true then some false else z93_ k n a0 b1 (z0_ (i5 + 1)) e_0) else none) else none) else e_0)
def zc0_ (k : Nat) (a0 : List (List Int)) (b1 : List (List Int)) : Option Bool := (if (!(decide ((List.length a0 : Int) = (List.length b1 : Int)))) = true then some false else z93_ k k a0 b1 0 (some true))
def qk1_ : Head := ⟨[(0, (.val (.sl 25 (.sl 2 (.int .i64))))), (1, (.val (.sl 25 (.sl 2 (.int .i64))))), (5, (.val (.int .i64)))], [], []⟩
def qk2_ : Head := ⟨[], [], []⟩
def qk3_ (k n : Nat) (x : qk1_.T) (kx : Nat → St → Option Bool) : Option Bool := z93_ k n x.1.1 x.1.2.1 x.1.2.2.1 (kx 0 (qk2_.fill ((), (), ())))
def qk4_ (k : Nat) : Oracles Bool := ⟨fun n => bif Nat.beq n 4 then some (fun σ kx => qk1_.get σ fun x => qk3_ k k x kx) else none, fun _ => none⟩
def qk5_ (k : Nat) : FE := ⟨(.pr (.sl 25 (.sl 2 (.int .i64))) (.sl 25 (.sl 2 (.int .i64)))), 1, .bool, fun x => zc0_ k x.1 x.2⟩
theorem qk6_ (k : Nat) : zd_ (z3_ ti [(36, qjy_ k)] (lk []) z7_ z8_) (qk4_ k) (rdC (z3_ ti [(36, qjy_ k)] (lk []) z7_ z8_) [.tmp 4] .bool) ((zc_ (z2_ Tryz.f132)).getD 0 .skip) (fun σ kx => qk1_.get σ fun x => qk3_ k k x kx) := by
  refine ⟨qk1_, [(0, qk2_)], fun n x kx => qk3_ k n x kx, k, by kernel_rfl, by kernel_rfl, fun x kx => by kernel_rfl, ?_, fun σ kx => rfl⟩
  rintro n ⟨⟨a0, b1, i5, ⟨⟩⟩, ⟨⟩, ⟨⟩⟩ kx
  kernel_rfl
theorem qk7_ (k : Nat) : FnOK Tryz.prog 132 (qk5_ k) := by
  refine za_ (tab := [(36, qjy_ k)]) (l := []) z4_ z6_ mix (List.forall_mem_cons.2 ⟨qk0_ k, (List.forall_mem_nil _)⟩) (List.forall_mem_nil _) ⟨⟨Tryz.f132, (z2_ Tryz.f132), [.tmp 4], (qk4_ k), by kernel_rfl, by kernel_rfl, by kernel_rfl, by kernel_rfl, rfl, by decide, ⟨by kernel_rfl, ?_, ?_⟩, ?_⟩⟩
  · refine zi_ (n := 1) (by kernel_rfl) fun i hi => ?_
    match i, hi with
    | 0, _ => exact ze_ (by kernel_rfl) (qk6_ k)
    | n + 1, hi => omega
  · exact z5_ (by kernel_rfl)
  · rintro ⟨a0, b1⟩
    kernel_rfl
def zc1_ (k : Nat) (a0 : List (List Int)) (b1 : List (List Int)) : Option Bool := (zc0_ k a0 b1).bind fun r_1 => (if (!r_1) = true then some false else some true)
def qk8_ (k : Nat) : FE := ⟨(.pr (.st (.sl 25 (.sl 2 (.int .i64)))) (.st (.sl 25 (.sl 2 (.int .i64))))), 1, .bool, fun x => zc1_ k x.1 x.2⟩
theorem qk9_ (k : Nat) : FnOK Tryz.prog 79 (qk8_ k) := by
  refine za_ (tab := [(132, qk5_ k)]) (l := []) z4_ z6_ mix (List.forall_mem_cons.2 ⟨qk7_ k, (List.forall_mem_nil _)⟩) (List.forall_mem_nil _) ⟨⟨Tryz.f79, (z2_ Tryz.f79), [.tmp 4], (LOn Bool), by kernel_rfl, by kernel_rfl, by kernel_rfl, by kernel_rfl, rfl, by decide, ⟨by kernel_rfl, ?_, ?_⟩, ?_⟩⟩
  · exact zf_ (by kernel_rfl)
  · exact z5_ (by kernel_rfl)
  · rintro ⟨a0, b1⟩
    kernel_rfl
def zc2_ (k : Nat) (a0 : Int × Int × Int × List Int) (b1 : Int × Int × Int × List Int) : Option Bool := (if (!(decide (a0.1 = b1.1))) = true then some false else (if (!(decide (a0.2.1 = b1.2.1))) = true then some false else (if (!(decide (a0.2.2.1 = b1.2.2.1))) = true then some false else (z4s_ k a0.2.2.2 b1.2.2.2).bind fun r_1 => (if (!r_1) = true then some false else some true))))
def qka_ (k : Nat) : FE := ⟨(.pr (.st (.pr (.int .i64) (.pr (.int .i64) (.pr (.int .i64) (.sl 2 (.int .i64)))))) (.st (.pr (.int .i64) (.pr (.int .i64) (.pr (.int .i64) (.sl 2 (.int .i64))))))), 1, .bool, fun x => zc2_ k x.1 x.2⟩
theorem qkb_ (k : Nat) : FnOK Tryz.prog 38 (qka_ k) := by
  refine za_ (tab := [(36, qjy_ k)]) (l := []) z4_ z6_ mix (List.forall_mem_cons.2 ⟨qk0_ k, (List.forall_mem_nil _)⟩) (List.forall_mem_nil _) ⟨⟨Tryz.f38, (z2_ Tryz.f38), [.tmp 4], (LOn Bool), by kernel_rfl, by kernel_rfl, by kernel_rfl, by kernel_rfl, rfl, by decide, ⟨by kernel_rfl, ?_, ?_⟩, ?_⟩⟩
  · exact zf_ (by kernel_rfl)
  · exact z5_ (by kernel_rfl)
  · rintro ⟨a0, b1⟩
    kernel_rfl
def z94_ (k : Nat) : Nat → (List (Int × Int × Int × List Int)) → (List (Int × Int × Int × List Int)) → Int → (Option Bool) → Option Bool
  | 0, _, _, _, _ => none
  | n + 1, a0, b1, i5, e_0 => (if (decide (i5 < (List.length a0 : Int))) = true then (if 0 ≤ i5 then (a0[i5.toNat]?).bind fun y_1 => (if 0 ≤ i5 then (b1[i5.toNat]?).bind fun y_2 => (zc2_ k y_1 y_2).bind fun r_3 => (if (!r_3) = true then some false else z94_ k n a0 b1 (z0_ (i5 + 1)) e_0) else none) else none) else e_0)
def zeq_ (k : Nat) (a0 : List (Int × Int × Int × List Int)) (b1 : List (Int × Int × Int × List Int)) : Option Bool := (if (!(decide ((List.length a0 : Int) = (List.length b1 : Int)))) = true then some false else z94_ k k a0 b1 0 (some true))
def qkc_ : Head := ⟨[(0, (.val (.sl 51 (.st (.pr (.int .i64) (.pr (.int .i64) (.pr (.int .i64) (.sl 2 (.int .i64))))))))), (1, (.val (.sl 51 (.st (.pr (.int .i64) (.pr (.int .i64) (.pr (.int .i64) (.sl 2 (.int .i64))))))))), (5, (.val (.int .i64)))], [], []⟩
def qkd_ : Head := ⟨[], [], []⟩
def qke_ (k n : Nat) (x : qkc_.T) (kx : Nat → St → Option Bool) : Option Bool := z94_ k n x.1.1 x.1.2.1 x.1.2.2.1 (kx 0 (qkd_.fill ((), (), ())))
def qkf_ (k : Nat) : Oracles Bool := ⟨fun n => bif Nat.beq n 4 then some (fun σ kx => qkc_.get σ fun x => qke_ k k x kx) else none, fun _ => none⟩
def qkg_ (k : Nat) : FE := ⟨(.pr (.sl 51 (.st (.pr (.int .i64) (.pr (.int .i64) (.pr (.int .i64) (.sl 2 (.int .i64))))))) (.sl 51 (.st (.pr (.int .i64) (.pr (.int .i64) (.pr (.int .i64) (.sl 2 (.int .i64)))))))), 1, .bool, fun x => zeq_ k x.1 x.2⟩
theorem qkh_ (k : Nat) : zd_ (z3_ ti [(38, qka_ k)] (lk []) z7_ z8_) (qkf_ k) (rdC (z3_ ti [(38, qka_ k)] (lk []) z7_ z8_) [.tmp 4] .bool) ((zc_ (z2_ Tryz.f80)).getD 0 .skip) (fun σ kx => qkc_.get σ fun x => qke_ k k x kx) := by
  refine ⟨qkc_, [(0, qkd_)], fun n x kx => qke_ k n x kx, k, by kernel_rfl, by kernel_rfl, fun x kx => by kernel_rfl, ?_, fun σ kx => rfl⟩
  rintro n ⟨⟨a0, b1, i5, ⟨⟩⟩, ⟨⟩, ⟨⟩⟩ kx
  kernel_rfl
theorem qki_ (k : Nat) : FnOK Tryz.prog 80 (qkg_ k) := by
  refine za_ (tab := [(38, qka_ k)]) (l := []) z4_ z6_ mix (List.forall_mem_cons.2 ⟨qkb_ k, (List.forall_mem_nil _)⟩) (List.forall_mem_nil _) ⟨⟨Tryz.f80, (z2_ Tryz.f80), [.tmp 4], (qkf_ k), by kernel_rfl, by kernel_rfl, by kernel_rfl, by kernel_rfl, rfl, by decide, ⟨by kernel_rfl, ?_, ?_⟩, ?_⟩⟩
  · refine zi_ (n := 1) (by kernel_rfl) fun i hi => ?_
    match i, hi with
    | 0, _ => exact ze_ (by kernel_rfl) (qkh_ k)
    | n + 1, hi => omega
  · exact z5_ (by kernel_rfl)
  · rintro ⟨a0, b1⟩
    kernel_rfl
def zer_ (k : Nat) (a0 : List (List Int) × Int × List Int × List (Int × Int × Int × List Int)) (b1 : List (List Int) × Int × List Int × List (Int × Int × Int × List Int)) : Option Bool := (zc1_ k a0.1 b1.1).bind fun r_1 => (if (!r_1) = true then some false else (if (!(decide (a0.2.1 = b1.2.1))) = true then some false else (z4s_ k a0.2.2.1 b1.2.2.1).bind fun r_2 => (if (!r_2) = true then some false else (zeq_ k a0.2.2.2 b1.2.2.2).bind fun r_3 => (if (!r_3) = true then some false else some true))))
def qkj_ (k : Nat) : FE := ⟨(.pr (.st (.pr (.st (.sl 25 (.sl 2 (.int .i64)))) (.pr (.int .i64) (.pr (.sl 2 (.int .i64)) (.sl 51 (.st (.pr (.int .i64) (.pr (.int .i64) (.pr (.int .i64) (.sl 2 (.int .i64))))))))))) (.st (.pr (.st (.sl 25 (.sl 2 (.int .i64)))) (.pr (.int .i64) (.pr (.sl 2 (.int .i64)) (.sl 51 (.st (.pr (.int .i64) (.pr (.int .i64) (.pr (.int .i64) (.sl 2 (.int .i64)))))))))))), 1, .bool, fun x => zer_ k x.1 x.2⟩
theorem qkk_ (k : Nat) : FnOK Tryz.prog 35 (qkj_ k) := by
  refine za_ (tab := [(79, qk8_ k), (36, qjy_ k), (80, qkg_ k)]) (l := []) z4_ z6_ mix (List.forall_mem_cons.2 ⟨qk9_ k, (List.forall_mem_cons.2 ⟨qk0_ k, (List.forall_mem_cons.2 ⟨qki_ k, (List.forall_mem_nil _)⟩)⟩)⟩) (List.forall_mem_nil _) ⟨⟨Tryz.f35, (z2_ Tryz.f35), [.tmp 4], (LOn Bool), by kernel_rfl, by kernel_rfl, by kernel_rfl, by kernel_rfl, rfl, by decide, ⟨by kernel_rfl, ?_, ?_⟩, ?_⟩⟩
  · exact zf_ (by kernel_rfl)
  · exact z5_ (by kernel_rfl)
  · rintro ⟨a0, b1⟩
    kernel_rfl
def zes_ (a0 : Int × Int × Int) (b1 : Int × Int × Int) : Option Bool := (if (!(decide (a0.1 = b1.1))) = true then some false else (if (!(decide (a0.2.1 = b1.2.1))) = true then some false else (if (!(decide (a0.2.2 = b1.2.2))) = true then some false else some true)))
def qkl_ : FE := ⟨(.pr (.st (.pr (.int .i64) (.pr (.int .i64) (.int .i64)))) (.st (.pr (.int .i64) (.pr (.int .i64) (.int .i64))))), 1, .bool, fun x => zes_ x.1 x.2⟩
theorem qkm_ : FnOK Tryz.prog 133 (qkl_) := by
  refine za_ (tab := []) (l := []) z4_ z6_ mix (List.forall_mem_nil _) (List.forall_mem_nil _) ⟨⟨Tryz.f133, (z2_ Tryz.f133), [.tmp 4], (LOn Bool), by kernel_rfl, by kernel_rfl, by kernel_rfl, by kernel_rfl, rfl, by decide, ⟨by kernel_rfl, ?_, ?_⟩, ?_⟩⟩
  · exact zf_ (by kernel_rfl)
  · exact z5_ (by kernel_rfl)
  · rintro ⟨a0, b1⟩
    kernel_rfl
def z95_ (k : Nat) : Nat → (List (Int × Int × Int)) → (List (Int × Int × Int)) → Int → (Option Bool) → Option Bool
  | 0, _, _, _, _ => none
  | n + 1, a0, b1, i5, e_0 => (if (decide (i5 < (List.length a0 : Int))) = true then (if 0 ≤ i5 then (a0[i5.toNat]?).bind fun y_1 => (if 0 ≤ i5 then (b1[i5.toNat]?).bind fun y_2 => (zes_ y_1 y_2).bind fun r_3 => (if (!r_3) = true then some false else z95_ k n a0 b1 (z0_ (i5 + 1)) e_0) else none) else none) else e_0)
def zet_ (k : Nat) (a0 : List (Int × Int × Int)) (b1 : List (Int × Int × Int)) : Option Bool := (if (!(decide ((List.length a0 : Int) = (List.length b1 : Int)))) = true then some false else z95_ k k a0 b1 0 (some true))
def qkn_ : Head := ⟨[(0, (.val (.sl 157 (.st (.pr (.int .i64) (.pr (.int .i64) (.int .i64))))))), (1, (.val (.sl 157 (.st (.pr (.int .i64) (.pr (.int .i64) (.int .i64))))))), (5, (.val (.int .i64)))], [], []⟩
def qko_ : Head := ⟨[], [], []⟩
def qkp_ (k n : Nat) (x : qkn_.T) (kx : Nat → St → Option Bool) : Option Bool := z95_ k n x.1.1 x.1.2.1 x.1.2.2.1 (kx 0 (qko_.fill ((), (), ())))
def qkq_ (k : Nat) : Oracles Bool := ⟨fun n => bif Nat.beq n 4 then some (fun σ kx => qkn_.get σ fun x => qkp_ k k x kx) else none, fun _ => none⟩
def qkr_ (k : Nat) : FE := ⟨(.pr (.sl 157 (.st (.pr (.int .i64) (.pr (.int .i64) (.int .i64))))) (.sl 157 (.st (.pr (.int .i64) (.pr (.int .i64) (.int .i64)))))), 1, .bool, fun x => zet_ k x.1 x.2⟩
theorem qks_ (k : Nat) : zd_ (z3_ ti [(133, qkl_)] (lk []) z7_ z8_) (qkq_ k) (rdC (z3_ ti [(133, qkl_)] (lk []) z7_ z8_) [.tmp 4] .bool) ((zc_ (z2_ Tryz.f81)).getD 0 .skip) (fun σ kx => qkn_.get σ fun x => qkp_ k k x kx) := by
  refine ⟨qkn_, [(0, qko_)], fun n x kx => qkp_ k n x kx, k, by kernel_rfl, by kernel_rfl, fun x kx => by kernel_rfl, ?_, fun σ kx => rfl⟩
  rintro n ⟨⟨a0, b1, i5, ⟨⟩⟩, ⟨⟩, ⟨⟩⟩ kx
  kernel_rfl
theorem qkt_ (k : Nat) : FnOK Tryz.prog 81 (qkr_ k) := by
  refine za_ (tab := [(133, qkl_)]) (l := []) z4_ z6_ mix (List.forall_mem_cons.2 ⟨qkm_, (List.forall_mem_nil _)⟩) (List.forall_mem_nil _) ⟨⟨Tryz.f81, (z2_ Tryz.f81), [.tmp 4], (qkq_ k), by kernel_rfl, by kernel_rfl, by kernel_rfl, by kernel_rfl, rfl, by decide, ⟨by kernel_rfl, ?_, ?_⟩, ?_⟩⟩
  · refine zi_ (n := 1) (by kernel_rfl) fun i hi => ?_
    match i, hi with
    | 0, _ => exact ze_ (by kernel_rfl) (qks_ k)
    | n + 1, hi => omega
  · exact z5_ (by kernel_rfl)
  · rintro ⟨a0, b1⟩
    kernel_rfl
def zeu_ (k : Nat) (a0 : Int × List (Int × Int × Int)) (b1 : Int × List (Int × Int × Int)) : Option Bool := (if (!(decide (a0.1 = b1.1))) = true then some false else (zet_ k a0.2 b1.2).bind fun r_1 => (if (!r_1) = true then some false else some true))
def qku_ (k : Nat) : FE := ⟨(.pr (.st (.pr (.int .i64) (.sl 157 (.st (.pr (.int .i64) (.pr (.int .i64) (.int .i64))))))) (.st (.pr (.int .i64) (.sl 157 (.st (.pr (.int .i64) (.pr (.int .i64) (.int .i64)))))))), 1, .bool, fun x => zeu_ k x.1 x.2⟩
theorem qkv_ (k : Nat) : FnOK Tryz.prog 37 (qku_ k) := by
  refine za_ (tab := [(81, qkr_ k)]) (l := []) z4_ z6_ mix (List.forall_mem_cons.2 ⟨qkt_ k, (List.forall_mem_nil _)⟩) (List.forall_mem_nil _) ⟨⟨Tryz.f37, (z2_ Tryz.f37), [.tmp 4], (LOn Bool), by kernel_rfl, by kernel_rfl, by kernel_rfl, by kernel_rfl, rfl, by decide, ⟨by kernel_rfl, ?_, ?_⟩, ?_⟩⟩
  · exact zf_ (by kernel_rfl)
  · exact z5_ (by kernel_rfl)
  · rintro ⟨a0, b1⟩
    kernel_rfl
def zev_ (k : Nat) (a0 : List Int × List (List Int)) (b1 : List Int × List (List Int)) : Option Bool := (z4s_ k a0.1 b1.1).bind fun r_1 => (if (!r_1) = true then some false else (zc0_ k a0.2 b1.2).bind fun r_2 => (if (!r_2) = true then some false else some true))
def qkw_ (k : Nat) : FE := ⟨(.pr (.st (.pr (.sl 2 (.int .i64)) (.sl 25 (.sl 2 (.int .i64))))) (.st (.pr (.sl 2 (.int .i64)) (.sl 25 (.sl 2 (.int .i64)))))), 1, .bool, fun x => zev_ k x.1 x.2⟩
theorem qkx_ (k : Nat) : FnOK Tryz.prog 82 (qkw_ k) := by
  refine za_ (tab := [(36, qjy_ k), (132, qk5_ k)]) (l := []) z4_ z6_ mix (List.forall_mem_cons.2 ⟨qk0_ k, (List.forall_mem_cons.2 ⟨qk7_ k, (List.forall_mem_nil _)⟩)⟩) (List.forall_mem_nil _) ⟨⟨Tryz.f82, (z2_ Tryz.f82), [.tmp 4], (LOn Bool), by kernel_rfl, by kernel_rfl, by kernel_rfl, by kernel_rfl, rfl, by decide, ⟨by kernel_rfl, ?_, ?_⟩, ?_⟩⟩
  · exact zf_ (by kernel_rfl)
  · exact z5_ (by kernel_rfl)
  · rintro ⟨a0, b1⟩
    kernel_rfl
def z96_ (k : Nat) : Nat → (List (List Int × List (List Int))) → (List (List Int × List (List Int))) → Int → (Option Bool) → Option Bool
  | 0, _, _, _, _ => none
  | n + 1, a0, b1, i5, e_0 => (if (decide (i5 < (List.length a0 : Int))) = true then (if 0 ≤ i5 then (a0[i5.toNat]?).bind fun y_1 => (if 0 ≤ i5 then (b1[i5.toNat]?).bind fun y_2 => (zev_ k y_1 y_2).bind fun r_3 => (if (!r_3) = true then some false else z96_ k n a0 b1 (z0_ (i5 + 1)) e_0) else none) else none) else e_0)
def zew_ (k : Nat) (a0 : List (List Int × List (List Int))) (b1 : List (List Int × List (List Int))) : Option Bool := (if (!(decide ((List.length a0 : Int) = (List.length b1 : Int)))) = true then some false else z96_ k k a0 b1 0 (some true))
def qky_ : Head := ⟨[(0, (.val (.sl 87 (.st (.pr (.sl 2 (.int .i64)) (.sl 25 (.sl 2 (.int .i64)))))))), (1, (.val (.sl 87 (.st (.pr (.sl 2 (.int .i64)) (.sl 25 (.sl 2 (.int .i64)))))))), (5, (.val (.int .i64)))], [], []⟩
def qkz_ : Head := ⟨[], [], []⟩
def ql0_ (k n : Nat) (x : qky_.T) (kx : Nat → St → Option Bool) : Option Bool := z96_ k n x.1.1 x.1.2.1 x.1.2.2.1 (kx 0 (qkz_.fill ((), (), ())))
def ql1_ (k : Nat) : Oracles Bool := ⟨fun n => bif Nat.beq n 4 then some (fun σ kx => qky_.get σ fun x => ql0_ k k x kx) else none, fun _ => none⟩
def ql2_ (k : Nat) : FE := ⟨(.pr (.sl 87 (.st (.pr (.sl 2 (.int .i64)) (.sl 25 (.sl 2 (.int .i64)))))) (.sl 87 (.st (.pr (.sl 2 (.int .i64)) (.sl 25 (.sl 2 (.int .i64))))))), 1, .bool, fun x => zew_ k x.1 x.2⟩
theorem ql3_ (k : Nat) : zd_ (z3_ ti [(82, qkw_ k)] (lk []) z7_ z8_) (ql1_ k) (rdC (z3_ ti [(82, qkw_ k)] (lk []) z7_ z8_) [.tmp 4] .bool) ((zc_ (z2_ Tryz.f39)).getD 0 .skip) (fun σ kx => qky_.get σ fun x => ql0_ k k x kx) := by
  refine ⟨qky_, [(0, qkz_)], fun n x kx => ql0_ k n x kx, k, by kernel_rfl, by kernel_rfl, fun x kx => by kernel_rfl, ?_, fun σ kx => rfl⟩
  rintro n ⟨⟨a0, b1, i5, ⟨⟩⟩, ⟨⟩, ⟨⟩⟩ kx
  kernel_rfl
theorem ql4_ (k : Nat) : FnOK Tryz.prog 39 (ql2_ k) := by
  refine za_ (tab := [(82, qkw_ k)]) (l := []) z4_ z6_ mix (List.forall_mem_cons.2 ⟨qkx_ k, (List.forall_mem_nil _)⟩) (List.forall_mem_nil _) ⟨⟨Tryz.f39, (z2_ Tryz.f39), [.tmp 4], (ql1_ k), by kernel_rfl, by kernel_rfl, by kernel_rfl, by kernel_rfl, rfl, by decide, ⟨by kernel_rfl, ?_, ?_⟩, ?_⟩⟩
  · refine zi_ (n := 1) (by kernel_rfl) fun i hi => ?_
    match i, hi with
    | 0, _ => exact ze_ (by kernel_rfl) (ql3_ k)
    | n + 1, hi => omega
  · exact z5_ (by kernel_rfl)
  · rintro ⟨a0, b1⟩
    kernel_rfl
def zex_ (k : Nat) (a0 : List (List Int) × List Int) (b1 : List (List Int) × List Int) : Option Bool := (zc1_ k a0.1 b1.1).bind fun r_1 => (if (!r_1) = true then some false else (z4s_ k a0.2 b1.2).bind fun r_2 => (if (!r_2) = true then some false else some true))
def ql5_ (k : Nat) : FE := ⟨(.pr (.st (.pr (.st (.sl 25 (.sl 2 (.int .i64)))) (.sl 2 (.int .i64)))) (.st (.pr (.st (.sl 25 (.sl 2 (.int .i64)))) (.sl 2 (.int .i64))))), 1, .bool, fun x => zex_ k x.1 x.2⟩
theorem ql6_ (k : Nat) : FnOK Tryz.prog 40 (ql5_ k) := by
  refine za_ (tab := [(79, qk8_ k), (36, qjy_ k)]) (l := []) z4_ z6_ mix (List.forall_mem_cons.2 ⟨qk9_ k, (List.forall_mem_cons.2 ⟨qk0_ k, (List.forall_mem_nil _)⟩)⟩) (List.forall_mem_nil _) ⟨⟨Tryz.f40, (z2_ Tryz.f40), [.tmp 4], (LOn Bool), by kernel_rfl, by kernel_rfl, by kernel_rfl, by kernel_rfl, rfl, by decide, ⟨by kernel_rfl, ?_, ?_⟩, ?_⟩⟩
  · exact zf_ (by kernel_rfl)
  · exact z5_ (by kernel_rfl)
  · rintro ⟨a0, b1⟩
    kernel_rfl
def zey_ (k : Nat) (a0 : List UInt8 × List (List UInt8) × Int × Int) (b1 : List UInt8 × List (List UInt8) × Int × Int) : Option Bool := (if (!(decide (a0.1 = b1.1))) = true then some false else (z77_ k a0.2.1 b1.2.1).bind fun r_1 => (if (!r_1) = true then some false else (if (!(decide (a0.2.2.1 = b1.2.2.1))) = true then some false else (if (!(decide (a0.2.2.2 = b1.2.2.2))) = true then some false else some true))))
def ql7_ (k : Nat) : FE := ⟨(.pr (.st (.pr .str (.pr (.sl 9 .str) (.pr (.int .i64) (.int .i64))))) (.st (.pr .str (.pr (.sl 9 .str) (.pr (.int .i64) (.int .i64)))))), 1, .bool, fun x => zey_ k x.1 x.2⟩
theorem ql8_ (k : Nat) : FnOK Tryz.prog 83 (ql7_ k) := by
  refine za_ (tab := [(8, qjr_ k)]) (l := []) z4_ z6_ mix (List.forall_mem_cons.2 ⟨qjt_ k, (List.forall_mem_nil _)⟩) (List.forall_mem_nil _) ⟨⟨Tryz.f83, (z2_ Tryz.f83), [.tmp 4], (LOn Bool), by kernel_rfl, by kernel_rfl, by kernel_rfl, by kernel_rfl, rfl, by decide, ⟨by kernel_rfl, ?_, ?_⟩, ?_⟩⟩
  · exact zf_ (by kernel_rfl)
  · exact z5_ (by kernel_rfl)
  · rintro ⟨a0, b1⟩
    kernel_rfl
def z97_ (k : Nat) : Nat → (List (List UInt8 × List (List UInt8) × Int × Int)) → (List (List UInt8 × List (List UInt8) × Int × Int)) → Int → (Option Bool) → Option Bool
  | 0, _, _, _, _ => none
  | n + 1, a0, b1, i5, e_0 => (if (decide (i5 < (List.length a0 : Int))) = true then (if 0 ≤ i5 then (a0[i5.toNat]?).bind fun y_1 => (if 0 ≤ i5 then (b1[i5.toNat]?).bind fun y_2 => (zey_ k y_1 y_2).bind fun r_3 => (if (!r_3) = true then some false else z97_ k n a0 b1 (z0_ (i5 + 1)) e_0) else none) else none) else e_0)
def zez_ (k : Nat) (a0 : List (List UInt8 × List (List UInt8) × Int × Int)) (b1 : List (List UInt8 × List (List UInt8) × Int × Int)) : Option Bool := (if (!(decide ((List.length a0 : Int) = (List.length b1 : Int)))) = true then some false else z97_ k k a0 b1 0 (some true))
def ql9_ : Head := ⟨[(0, (.val (.sl 90 (.st (.pr .str (.pr (.sl 9 .str) (.pr (.int .i64) (.int .i64)))))))), (1, (.val (.sl 90 (.st (.pr .str (.pr (.sl 9 .str) (.pr (.int .i64) (.int .i64)))))))), (5, (.val (.int .i64)))], [], []⟩
def qla_ : Head := ⟨[], [], []⟩
def qlb_ (k n : Nat) (x : ql9_.T) (kx : Nat → St → Option Bool) : Option Bool := z97_ k n x.1.1 x.1.2.1 x.1.2.2.1 (kx 0 (qla_.fill ((), (), ())))
def qlc_ (k : Nat) : Oracles Bool := ⟨fun n => bif Nat.beq n 4 then some (fun σ kx => ql9_.get σ fun x => qlb_ k k x kx) else none, fun _ => none⟩
def qld_ (k : Nat) : FE := ⟨(.pr (.sl 90 (.st (.pr .str (.pr (.sl 9 .str) (.pr (.int .i64) (.int .i64)))))) (.sl 90 (.st (.pr .str (.pr (.sl 9 .str) (.pr (.int .i64) (.int .i64))))))), 1, .bool, fun x => zez_ k x.1 x.2⟩
theorem qle_ (k : Nat) : zd_ (z3_ ti [(83, ql7_ k)] (lk []) z7_ z8_) (qlc_ k) (rdC (z3_ ti [(83, ql7_ k)] (lk []) z7_ z8_) [.tmp 4] .bool) ((zc_ (z2_ Tryz.f41)).getD 0 .skip) (fun σ kx => ql9_.get σ fun x => qlb_ k k x kx) := by
  refine ⟨ql9_, [(0, qla_)], fun n x kx => qlb_ k n x kx, k, by kernel_rfl, by kernel_rfl, fun x kx => by kernel_rfl, ?_, fun σ kx => rfl⟩
  rintro n ⟨⟨a0, b1, i5, ⟨⟩⟩, ⟨⟩, ⟨⟩⟩ kx
  kernel_rfl
theorem qlf_ (k : Nat) : FnOK Tryz.prog 41 (qld_ k) := by
  refine za_ (tab := [(83, ql7_ k)]) (l := []) z4_ z6_ mix (List.forall_mem_cons.2 ⟨ql8_ k, (List.forall_mem_nil _)⟩) (List.forall_mem_nil _) ⟨⟨Tryz.f41, (z2_ Tryz.f41), [.tmp 4], (qlc_ k), by kernel_rfl, by kernel_rfl, by kernel_rfl, by kernel_rfl, rfl, by decide, ⟨by kernel_rfl, ?_, ?_⟩, ?_⟩⟩
  · refine zi_ (n := 1) (by kernel_rfl) fun i hi => ?_
    match i, hi with
    | 0, _ => exact ze_ (by kernel_rfl) (qle_ k)
    | n + 1, hi => omega
  · exact z5_ (by kernel_rfl)
  · rintro ⟨a0, b1⟩
    kernel_rfl
def zf0_ (k : Nat) (a0 : (List (List Int) × Int × List Int × List (Int × Int × Int × List Int)) × List Int × (Int × List (Int × Int × Int)) × List Int × (Int × Int × Int × List Int) × (List (List Int × List (List Int))) × (List (List Int) × List Int) × List (List UInt8 × List (List UInt8) × Int × Int)) (b1 : (List (List Int) × Int × List Int × List (Int × Int × Int × List Int)) × List Int × (Int × List (Int × Int × Int)) × List Int × (Int × Int × Int × List Int) × (List (List Int × List (List Int))) × (List (List Int) × List Int) × List (List UInt8 × List (List UInt8) × Int × Int)) : Option Bool := (zer_ k a0.1 b1.1).bind fun r_1 => (if (!r_1) = true then some false else (z4s_ k a0.2.1 b1.2.1).bind fun r_2 => (if (!r_2) = true then some false else (zeu_ k a0.2.2.1 b1.2.2.1).bind fun r_3 => (if (!r_3) = true then some false else (z4s_ k a0.2.2.2.1 b1.2.2.2.1).bind fun r_4 => (if (!r_4) = true then some false else (zc2_ k a0.2.2.2.2.1 b1.2.2.2.2.1).bind fun r_5 => (if (!r_5) = true then some false else (zew_ k a0.2.2.2.2.2.1 b1.2.2.2.2.2.1).bind fun r_6 => (if (!r_6) = true then some false else (zex_ k a0.2.2.2.2.2.2.1 b1.2.2.2.2.2.2.1).bind fun r_7 => (if (!r_7) = true then some false else (zez_ k a0.2.2.2.2.2.2.2 b1.2.2.2.2.2.2.2).bind fun r_8 => (if (!r_8) = true then some false else some true))))))))
def qlg_ (k : Nat) : FE := ⟨(.pr (.st (.pr (.st (.pr (.st (.sl 25 (.sl 2 (.int .i64)))) (.pr (.int .i64) (.pr (.sl 2 (.int .i64)) (.sl 51 (.st (.pr (.int .i64) (.pr (.int .i64) (.pr (.int .i64) (.sl 2 (.int .i64))))))))))) (.pr (.sl 2 (.int .i64)) (.pr (.st (.pr (.int .i64) (.sl 157 (.st (.pr (.int .i64) (.pr (.int .i64) (.int .i64))))))) (.pr (.sl 2 (.int .i64)) (.pr (.st (.pr (.int .i64) (.pr (.int .i64) (.pr (.int .i64) (.sl 2 (.int .i64)))))) (.pr (.sl 87 (.st (.pr (.sl 2 (.int .i64)) (.sl 25 (.sl 2 (.int .i64)))))) (.pr (.st (.pr (.st (.sl 25 (.sl 2 (.int .i64)))) (.sl 2 (.int .i64)))) (.sl 90 (.st (.pr .str (.pr (.sl 9 .str) (.pr (.int .i64) (.int .i64)))))))))))))) (.st (.pr (.st (.pr (.st (.sl 25 (.sl 2 (.int .i64)))) (.pr (.int .i64) (.pr (.sl 2 (.int .i64)) (.sl 51 (.st (.pr (.int .i64) (.pr (.int .i64) (.pr (.int .i64) (.sl 2 (.int .i64))))))))))) (.pr (.sl 2 (.int .i64)) (.pr (.st (.pr (.int .i64) (.sl 157 (.st (.pr (.int .i64) (.pr (.int .i64) (.int .i64))))))) (.pr (.sl 2 (.int .i64)) (.pr (.st (.pr (.int .i64) (.pr (.int .i64) (.pr (.int .i64) (.sl 2 (.int .i64)))))) (.pr (.sl 87 (.st (.pr (.sl 2 (.int .i64)) (.sl 25 (.sl 2 (.int .i64)))))) (.pr (.st (.pr (.st (.sl 25 (.sl 2 (.int .i64)))) (.sl 2 (.int .i64)))) (.sl 90 (.st (.pr .str (.pr (.sl 9 .str) (.pr (.int .i64) (.int .i64))))))))))))))), 1, .bool, fun x => zf0_ k x.1 x.2⟩
theorem qlh_ (k : Nat) : FnOK Tryz.prog 9 (qlg_ k) := by
  refine za_ (tab := [(35, qkj_ k), (36, qjy_ k), (37, qku_ k), (38, qka_ k), (39, ql2_ k), (40, ql5_ k), (41, qld_ k)]) (l := []) z4_ z6_ mix (List.forall_mem_cons.2 ⟨qkk_ k, (List.forall_mem_cons.2 ⟨qk0_ k, (List.forall_mem_cons.2 ⟨qkv_ k, (List.forall_mem_cons.2 ⟨qkb_ k, (List.forall_mem_cons.2 ⟨ql4_ k, (List.forall_mem_cons.2 ⟨ql6_ k, (List.forall_mem_cons.2 ⟨qlf_ k, (List.forall_mem_nil _)⟩)⟩)⟩)⟩)⟩)⟩)⟩) (List.forall_mem_nil _) ⟨⟨Tryz.f9, (z2_ Tryz.f9), [.tmp 4], (LOn Bool), by kernel_rfl, by kernel_rfl, by kernel_rfl, by kernel_rfl, rfl, by decide, ⟨by kernel_rfl, ?_, ?_⟩, ?_⟩⟩
  · exact zf_ (by kernel_rfl)
  · exact z5_ (by kernel_rfl)
  · rintro ⟨a0, b1⟩
    kernel_rfl
def z98_ (k : Nat) : Nat → Nat → Int → Int → (List (List Int)) → (Int → (List (List Int)) → Option (((Int × Unit) × ((List (List Int)) × Unit) × Unit))) → Option (((Int × Unit) × ((List (List Int)) × Unit) × Unit))
  | 0, _, _, _, _, _ => none
  | n + 1, a0n0, k1, i5, q_2, e_0 => (q_2[a0n0]?).bind fun y_3 => (if (decide (i5 < (List.length y_3 : Int))) = true then (q_2[a0n0]?).bind fun y_4 => (if 0 ≤ i5 ∧ i5.toNat < List.length y_4 then (q_2[a0n0]?).bind fun y_5 => (y_5[i5.toNat]?).bind fun y_6 => (q_2[a0n0]?).bind fun y_7 => (y_7[i5.toNat]?).bind fun y_8 => z98_ k n a0n0 (z0_ (k1 + 1)) (z0_ (i5 + 1)) (q_2.set a0n0 (y_7.set i5.toNat k1)) e_0 else none) else e_0 k1 q_2)
def zf1_ (k : Nat) (a0n0 : Nat) (k1 : Int) (q_1 : List (List Int)) : Option (((Int × Unit) × ((List (List Int)) × Unit) × Unit)) := z98_ k k a0n0 k1 0 q_1 (fun k_9 q_10 => some ((k_9, ()), (q_10, ()), ()))
def qli_ : Head := ⟨[(0, (.ref 1000000000 [.ix])), (1, (.val (.int .i64))), (5, (.val (.int .i64)))], [(1000000000, 25, (.sl 2 (.int .i64)), false)], []⟩
def qlj_ : Head := ⟨[(1, (.val (.int .i64)))], [(1000000000, 25, (.sl 2 (.int .i64)), false)], []⟩
def qlk_ (k n : Nat) (x : qli_.T) (kx : Nat → St → Option (((Int × Unit) × ((List (List Int)) × Unit) × Unit))) : Option (((Int × Unit) × ((List (List Int)) × Unit) × Unit)) := z98_ k n x.1.1.1 x.1.2.1 x.1.2.2.1 x.2.1.1 (fun (k1 : Int) (q_9 : List (List Int)) => kx 0 (qlj_.fill ((k1, ()), (q_9, ()), ())))
def qll_ (k : Nat) : Oracles (((Int × Unit) × ((List (List Int)) × Unit) × Unit)) := ⟨fun n => bif Nat.beq n 2 then some (fun σ kx => qli_.get σ fun x => qlk_ k k x kx) else none, fun _ => none⟩
def qlm_ : Head := ⟨[(0, (.ref 1000000000 [.ix])), (1, (.val (.int .i64)))], [(1000000000, 25, (.sl 2 (.int .i64)), false)], []⟩
def qln_ : Head := ⟨[(0, (.val (.int .i64)))], [(1000000000, 25, (.sl 2 (.int .i64)), false)], []⟩
def qlo_ (k : Nat) : OC := ⟨qlm_, qln_, fun x => zf1_ k x.1.1.1 x.1.2.1 x.2.1.1⟩
theorem qlp_ (k : Nat) (pins : Nat → Value) (pinB : Nat → Nat) : zd_ (z3_ ti [] (lk []) pins pinB) (qll_ k) (rdO (z3_ ti [] (lk []) pins pinB) [.tmp 4] qln_) ((zc_ (z2_ Tryz.f43)).getD 0 .skip) (fun σ kx => qli_.get σ fun x => qlk_ k k x kx) := by
  refine ⟨qli_, [(0, qlj_)], fun n x kx => qlk_ k n x kx, k, by kernel_rfl, by kernel_rfl, fun x kx => by kernel_rfl, ?_, fun σ kx => rfl⟩
  rintro n ⟨⟨⟨a0n0, ⟨⟩⟩, k1, i5, ⟨⟩⟩, ⟨q_2, ⟨⟩⟩, ⟨⟩⟩ kx
  kernel_rfl
theorem qlq_ (k : Nat) : z14_ Tryz.prog ti 43 (qlo_ k) := by
  refine z2l_ (tab := []) (l := []) z4_ z6_ mix (List.forall_mem_nil _) (List.forall_mem_nil _) ⟨by kernel_rfl, by kernel_rfl, Tryz.f43, (z2_ Tryz.f43), [.tmp 4], (qll_ k), by kernel_rfl, by kernel_rfl, by kernel_rfl, by kernel_rfl, Nat.le_of_ble_eq_true (by kernel_rfl), fun pins pinB => ⟨⟨by kernel_rfl, ?_, ?_⟩, ?_⟩⟩
  · refine zi_ (n := 1) (by kernel_rfl) fun i hi => ?_
    match i, hi with
    | 0, _ => exact ze_ (by kernel_rfl) (qlp_ k pins pinB)
    | n + 1, hi => omega
  · exact z5_ (by kernel_rfl)
  · rintro ⟨⟨⟨a0n0, ⟨⟩⟩, k1, ⟨⟩⟩, ⟨q_1, ⟨⟩⟩, ⟨⟩⟩
    kernel_rfl
end
end Go.Proofs.YtckbclbmkklaoaaGreatDoor.Ev
