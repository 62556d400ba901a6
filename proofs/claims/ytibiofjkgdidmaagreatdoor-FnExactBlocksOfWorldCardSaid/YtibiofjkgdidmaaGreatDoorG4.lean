/- Functions of the program, as plain ones. No conditions. -/
import Derived.Test.YtibiofjkgdidmaaGreatDoorG3
import Derived.KernelRfl
set_option linter.unusedVariables false
set_option maxRecDepth 100000
namespace Go.Proofs.YtibiofjkgdidmaaGreatDoor.Ev
open Go.RowKit
noncomputable section
def z9t_ (k : Nat) : Nat → (Int × Int × Int × List Int) → (Int × Int × Int × List Int) → Int → (Option Bool) → Option Bool
  | 0, _, _, _, _ => none
  | n + 1, a0, b1, i5, e_0 => (if (decide (i5 < (List.length a0.2.2.2 : Int))) = true then (if 0 ≤ i5 then (a0.2.2.2[i5.toNat]?).bind fun y_1 => (if 0 ≤ i5 then (b1.2.2.2[i5.toNat]?).bind fun y_2 => (if (!(decide (y_1 = y_2))) = true then some false else z9t_ k n a0 b1 (z0_ (i5 + 1)) e_0) else none) else none) else e_0)
def zfd_ (k : Nat) (a0 : Int × Int × Int × List Int) (b1 : Int × Int × Int × List Int) : Option Bool := (if (!(decide (a0.1 = b1.1))) = true then some false else (if (!(decide (a0.2.1 = b1.2.1))) = true then some false else (if (!(decide (a0.2.2.1 = b1.2.2.1))) = true then some false else (if (!(decide ((List.length a0.2.2.2 : Int) = (List.length b1.2.2.2 : Int)))) = true then some false else z9t_ k k a0 b1 0 (some true)))))
def q6k_ : Head := ⟨[(0, (.val (.ptr (.st (.pr (.int .i64) (.pr (.int .i64) (.pr (.int .i64) (.sl 2 (.int .i64))))))))), (1, (.val (.ptr (.st (.pr (.int .i64) (.pr (.int .i64) (.pr (.int .i64) (.sl 2 (.int .i64))))))))), (5, (.val (.int .i64)))], [], []⟩
def q6l_ : Head := ⟨[], [], []⟩
def q6m_ (k n : Nat) (x : q6k_.T) (kx : Nat → St → Option Bool) : Option Bool := z9t_ k n x.1.1 x.1.2.1 x.1.2.2.1 (kx 0 (q6l_.fill ((), (), ())))
def q6n_ (k : Nat) : Oracles Bool := ⟨fun n => bif Nat.beq n 4 then some (fun σ kx => q6k_.get σ fun x => q6m_ k k x kx) else none, fun _ => none⟩
def q6o_ (k : Nat) : FE := ⟨(.pr (.ptr (.st (.pr (.int .i64) (.pr (.int .i64) (.pr (.int .i64) (.sl 2 (.int .i64))))))) (.ptr (.st (.pr (.int .i64) (.pr (.int .i64) (.pr (.int .i64) (.sl 2 (.int .i64)))))))), 1, .bool, fun x => zfd_ k x.1 x.2⟩
theorem q6p_ (k : Nat) : zc_ (z3_ ti [] (lk []) z4_ z5_) (q6n_ k) (rdC (z3_ ti [] (lk []) z4_ z5_) [.tmp 4] .bool) ((zb_ (z2_ Tryz.f107)).getD 0 .skip) (fun σ kx => q6k_.get σ fun x => q6m_ k k x kx) := by
  refine ⟨q6k_, [(0, q6l_)], fun n x kx => q6m_ k n x kx, k, by kernel_rfl, by kernel_rfl, fun x kx => by kernel_rfl, ?_, fun σ kx => rfl⟩
  rintro n ⟨⟨a0, b1, i5, ⟨⟩⟩, ⟨⟩, ⟨⟩⟩ kx
  kernel_rfl
theorem q6q_ (k : Nat) : FnOK Tryz.prog 107 (q6o_ k) := by
  refine za_ (tab := []) (l := []) z6_ z9_ mix (List.forall_mem_nil _) (List.forall_mem_nil _) ⟨⟨Tryz.f107, (z2_ Tryz.f107), [.tmp 4], (q6n_ k), by kernel_rfl, by kernel_rfl, by kernel_rfl, by kernel_rfl, rfl, by decide, ⟨by kernel_rfl, ?_, ?_⟩, ?_⟩⟩
  · refine zf_ (n := 1) (by kernel_rfl) fun i hi => ?_
    match i, hi with
    | 0, _ => exact zd_ (by kernel_rfl) (q6p_ k)
    | n + 1, hi => omega
  · exact z8_ (by kernel_rfl)
  · rintro ⟨a0, b1⟩
    kernel_rfl
def z3j_ (k : Nat) : Nat → zT2 → Int → Int → Int → Int → (zT2 → Int → Int → Int → Option (Int × Int × Int)) → Option (Int × Int × Int)
  | 0, _, _, _, _, _, _ => none
  | n + 1, s0, k5, n6, i7, j8, e_4 => (if (decide (j8 < n6)) = true then (zc1_ k s0 k5 i7 j8).bind fun r_2 => (zc1_ k s0 k5 j8 i7).bind fun r_3 => (zfd_ k (r_2.1, (r_2.2.1, (r_2.2.2.1, r_2.2.2.2))) (r_3.1, (r_3.2.1, (r_3.2.2.1, r_3.2.2.2)))).bind fun r_4 => (if (!r_4) = true then some (k5, i7, j8) else z3j_ k n s0 k5 n6 i7 (z0_ (j8 + 1)) e_4) else e_4 s0 k5 n6 i7)
def z3u_ (k : Nat) : Nat → zT2 → Int → Int → Int → (zT2 → Int → Option (Int × Int × Int)) → Option (Int × Int × Int)
  | 0, _, _, _, _, _ => none
  | n + 1, s0, k5, n6, i7, e_2 => (if (decide (i7 < n6)) = true then (if (decide (2 < n6)) = true then z3j_ k k s0 k5 n6 i7 (z0_ (i7 + 1)) (fun s_2 k_3 n_4 i_5 => z3u_ k n s_2 k_3 n_4 (z0_ (i_5 + 1)) e_2) else e_2 s0 k5) else e_2 s0 k5)
def z65_ (k : Nat) : Nat → zT2 → Int → (Option (Int × Int × Int)) → Option (Int × Int × Int)
  | 0, _, _, _ => none
  | n + 1, s0, k5, e_0 => (if (decide (k5 < (List.length s0.1 : Int))) = true then (if 0 ≤ k5 then (s0.1[k5.toNat]?).bind fun y_1 => z3u_ k k s0 k5 (List.length y_1 : Int) 0 (fun s_2 k_3 => z65_ k n s_2 (z0_ (k_3 + 1)) e_0) else none) else e_0)
def zj3_ (k : Nat) (s0 : List (List Int) × Int × List Int × List (Int × Int × Int × List Int)) : Option (Int × Int × Int) := z65_ k k s0 0 (some ((-1), 0, 0))
def q6r_ : Head := ⟨[(0, (.val (.ptr (.st (.pr (.st (.sl 68 (.sl 2 (.int .i64)))) (.pr (.int .i64) (.pr (.sl 2 (.int .i64)) (.sl 147 (.st (.pr (.int .i64) (.pr (.int .i64) (.pr (.int .i64) (.sl 2 (.int .i64)))))))))))))), (5, (.val (.int .i64))), (6, (.val (.int .i64))), (7, (.val (.int .i64))), (8, (.val (.int .i64)))], [], []⟩
def q6s_ : Head := ⟨[(0, (.val (.ptr (.st (.pr (.st (.sl 68 (.sl 2 (.int .i64)))) (.pr (.int .i64) (.pr (.sl 2 (.int .i64)) (.sl 147 (.st (.pr (.int .i64) (.pr (.int .i64) (.pr (.int .i64) (.sl 2 (.int .i64)))))))))))))), (5, (.val (.int .i64))), (6, (.val (.int .i64))), (7, (.val (.int .i64)))], [], []⟩
def q6t_ (k n : Nat) (x : q6r_.T) (kx : Nat → St → Option (Int × Int × Int)) : Option (Int × Int × Int) := z3j_ k n x.1.1 x.1.2.1 x.1.2.2.1 x.1.2.2.2.1 x.1.2.2.2.2.1 (fun (s0 : List (List Int) × Int × List Int × List (Int × Int × Int × List Int)) (k5 : Int) (n6 : Int) (i7 : Int) => kx 4 (q6s_.fill ((s0, k5, n6, i7, ()), (), ())))
def q6u_ : Head := ⟨[(0, (.val (.ptr (.st (.pr (.st (.sl 68 (.sl 2 (.int .i64)))) (.pr (.int .i64) (.pr (.sl 2 (.int .i64)) (.sl 147 (.st (.pr (.int .i64) (.pr (.int .i64) (.pr (.int .i64) (.sl 2 (.int .i64)))))))))))))), (5, (.val (.int .i64))), (6, (.val (.int .i64))), (7, (.val (.int .i64)))], [], []⟩
def q6v_ : Head := ⟨[(0, (.val (.ptr (.st (.pr (.st (.sl 68 (.sl 2 (.int .i64)))) (.pr (.int .i64) (.pr (.sl 2 (.int .i64)) (.sl 147 (.st (.pr (.int .i64) (.pr (.int .i64) (.pr (.int .i64) (.sl 2 (.int .i64)))))))))))))), (5, (.val (.int .i64)))], [], []⟩
def q6w_ (k n : Nat) (x : q6u_.T) (kx : Nat → St → Option (Int × Int × Int)) : Option (Int × Int × Int) := z3u_ k n x.1.1 x.1.2.1 x.1.2.2.1 x.1.2.2.2.1 (fun (s0 : List (List Int) × Int × List Int × List (Int × Int × Int × List Int)) (k5 : Int) => kx 2 (q6v_.fill ((s0, k5, ()), (), ())))
def q6x_ : Head := ⟨[(0, (.val (.ptr (.st (.pr (.st (.sl 68 (.sl 2 (.int .i64)))) (.pr (.int .i64) (.pr (.sl 2 (.int .i64)) (.sl 147 (.st (.pr (.int .i64) (.pr (.int .i64) (.pr (.int .i64) (.sl 2 (.int .i64)))))))))))))), (5, (.val (.int .i64)))], [], []⟩
def q6y_ : Head := ⟨[], [], []⟩
def q6z_ (k n : Nat) (x : q6x_.T) (kx : Nat → St → Option (Int × Int × Int)) : Option (Int × Int × Int) := z65_ k n x.1.1 x.1.2.1 (kx 0 (q6y_.fill ((), (), ())))
def q70_ (k : Nat) : Oracles (Int × Int × Int) := ⟨fun n => bif Nat.beq n 9 then some (fun σ kx => q6r_.get σ fun x => q6t_ k k x kx) else bif Nat.beq n 6 then some (fun σ kx => q6u_.get σ fun x => q6w_ k k x kx) else bif Nat.beq n 2 then some (fun σ kx => q6x_.get σ fun x => q6z_ k k x kx) else none, fun _ => none⟩
def q71_ (k : Nat) : FE := ⟨(.ptr (.st (.pr (.st (.sl 68 (.sl 2 (.int .i64)))) (.pr (.int .i64) (.pr (.sl 2 (.int .i64)) (.sl 147 (.st (.pr (.int .i64) (.pr (.int .i64) (.pr (.int .i64) (.sl 2 (.int .i64)))))))))))), 3, (.pr (.int .i64) (.pr (.int .i64) (.int .i64))), fun x => zj3_ k x⟩
theorem q72_ (k : Nat) : zc_ (z3_ ti [(106, q6i_ k), (107, q6o_ k)] (lk []) z4_ z5_) (q70_ k) (rdC (z3_ ti [(106, q6i_ k), (107, q6o_ k)] (lk []) z4_ z5_) [.tmp 2, .tmp 3, .tmp 4] (.pr (.int .i64) (.pr (.int .i64) (.int .i64)))) ((zb_ (z2_ Tryz.f65)).getD 2 .skip) (fun σ kx => q6r_.get σ fun x => q6t_ k k x kx) := by
  refine ⟨q6r_, [(4, q6s_)], fun n x kx => q6t_ k n x kx, k, by kernel_rfl, by kernel_rfl, fun x kx => by kernel_rfl, ?_, fun σ kx => rfl⟩
  rintro n ⟨⟨s0, k5, n6, i7, j8, ⟨⟩⟩, ⟨⟩, ⟨⟩⟩ kx
  kernel_rfl
theorem q73_ (k : Nat) : zc_ (z3_ ti [(106, q6i_ k), (107, q6o_ k)] (lk []) z4_ z5_) (q70_ k) (rdC (z3_ ti [(106, q6i_ k), (107, q6o_ k)] (lk []) z4_ z5_) [.tmp 2, .tmp 3, .tmp 4] (.pr (.int .i64) (.pr (.int .i64) (.int .i64)))) ((zb_ (z2_ Tryz.f65)).getD 1 .skip) (fun σ kx => q6u_.get σ fun x => q6w_ k k x kx) := by
  refine ⟨q6u_, [(2, q6v_)], fun n x kx => q6w_ k n x kx, k, by kernel_rfl, by kernel_rfl, fun x kx => by kernel_rfl, ?_, fun σ kx => rfl⟩
  rintro n ⟨⟨s0, k5, n6, i7, ⟨⟩⟩, ⟨⟩, ⟨⟩⟩ kx
  kernel_rfl
theorem q74_ (k : Nat) : zc_ (z3_ ti [(106, q6i_ k), (107, q6o_ k)] (lk []) z4_ z5_) (q70_ k) (rdC (z3_ ti [(106, q6i_ k), (107, q6o_ k)] (lk []) z4_ z5_) [.tmp 2, .tmp 3, .tmp 4] (.pr (.int .i64) (.pr (.int .i64) (.int .i64)))) ((zb_ (z2_ Tryz.f65)).getD 0 .skip) (fun σ kx => q6x_.get σ fun x => q6z_ k k x kx) := by
  refine ⟨q6x_, [(0, q6y_)], fun n x kx => q6z_ k n x kx, k, by kernel_rfl, by kernel_rfl, fun x kx => by kernel_rfl, ?_, fun σ kx => rfl⟩
  rintro n ⟨⟨s0, k5, ⟨⟩⟩, ⟨⟩, ⟨⟩⟩ kx
  kernel_rfl
theorem q75_ (k : Nat) : FnOK Tryz.prog 65 (q71_ k) := by
  refine za_ (tab := [(106, q6i_ k), (107, q6o_ k)]) (l := []) z6_ z9_ mix (List.forall_mem_cons.2 ⟨q6j_ k, (List.forall_mem_cons.2 ⟨q6q_ k, (List.forall_mem_nil _)⟩)⟩) (List.forall_mem_nil _) ⟨⟨Tryz.f65, (z2_ Tryz.f65), [.tmp 2, .tmp 3, .tmp 4], (q70_ k), by kernel_rfl, by kernel_rfl, by kernel_rfl, by kernel_rfl, rfl, by decide, ⟨by kernel_rfl, ?_, ?_⟩, ?_⟩⟩
  · refine zf_ (n := 3) (by kernel_rfl) fun i hi => ?_
    match i, hi with
    | 0, _ => exact zd_ (by kernel_rfl) (q74_ k)
    | 1, _ => exact zd_ (by kernel_rfl) (q73_ k)
    | 2, _ => exact zd_ (by kernel_rfl) (q72_ k)
    | n + 3, hi => omega
  · exact z8_ (by kernel_rfl)
  · rintro s0
    kernel_rfl
def zfe_ (k : Nat) (s0 : List (List Int) × Int × List Int × List (Int × Int × Int × List Int)) : Option Bool := (zfc_ k s0).bind fun r_1 => (if (!r_1) = true then some false else (zj3_ k s0).bind fun r_2 => some (decide (r_2.1 < 0)))
def q76_ (k : Nat) : FE := ⟨(.ptr (.st (.pr (.st (.sl 68 (.sl 2 (.int .i64)))) (.pr (.int .i64) (.pr (.sl 2 (.int .i64)) (.sl 147 (.st (.pr (.int .i64) (.pr (.int .i64) (.pr (.int .i64) (.sl 2 (.int .i64)))))))))))), 1, .bool, fun x => zfe_ k x⟩
theorem q77_ (k : Nat) : FnOK Tryz.prog 31 (q76_ k) := by
  refine za_ (tab := [(64, q5v_ k), (65, q71_ k)]) (l := []) z6_ z9_ mix (List.forall_mem_cons.2 ⟨q5y_ k, (List.forall_mem_cons.2 ⟨q75_ k, (List.forall_mem_nil _)⟩)⟩) (List.forall_mem_nil _) ⟨⟨Tryz.f31, (z2_ Tryz.f31), [.tmp 2], (LOn Bool), by kernel_rfl, by kernel_rfl, by kernel_rfl, by kernel_rfl, rfl, by decide, ⟨by kernel_rfl, ?_, ?_⟩, ?_⟩⟩
  · exact zh_ (by kernel_rfl)
  · exact z8_ (by kernel_rfl)
  · rintro s0
    kernel_rfl
def z9u_ (k : Nat) : Nat → (zT1 × List (List UInt8 × List (List Int) × Int × List Int × List (Int × Int × Int × List Int))) → (List UInt8) → Int → (Option Int) → Option Int
  | 0, _, _, _, _ => none
  | n + 1, w0, name1, i5, e_0 => (if (decide (i5 < (List.length w0.1 : Int))) = true then (if 0 ≤ i5 then (w0.1[i5.toNat]?).bind fun y_1 => (if (decide (y_1.1 = name1)) = true then some i5 else z9u_ k n w0 name1 (z0_ (i5 + 1)) e_0) else none) else e_0)
def zc2_ (k : Nat) (w0 : zT1 × List (List UInt8 × List (List Int) × Int × List Int × List (Int × Int × Int × List Int))) (name1 : List UInt8) : Option Int := z9u_ k k w0 name1 0 (some (-1))
def q78_ : Head := ⟨[(0, (.val (.ptr (.st (.pr (.sl 48 (.st (.pr .str (.st (.sl 68 (.sl 2 (.int .i64))))))) (.sl 80 (.st (.pr .str (.st (.pr (.st (.sl 68 (.sl 2 (.int .i64)))) (.pr (.int .i64) (.pr (.sl 2 (.int .i64)) (.sl 147 (.st (.pr (.int .i64) (.pr (.int .i64) (.pr (.int .i64) (.sl 2 (.int .i64))))))))))))))))))), (1, (.val .str)), (5, (.val (.int .i64)))], [], []⟩
def q79_ : Head := ⟨[], [], []⟩
def q7a_ (k n : Nat) (x : q78_.T) (kx : Nat → St → Option Int) : Option Int := z9u_ k n x.1.1 x.1.2.1 x.1.2.2.1 (kx 0 (q79_.fill ((), (), ())))
def q7b_ (k : Nat) : Oracles Int := ⟨fun n => bif Nat.beq n 2 then some (fun σ kx => q78_.get σ fun x => q7a_ k k x kx) else none, fun _ => none⟩
def q7c_ (k : Nat) : FE := ⟨(.pr (.ptr (.st (.pr (.sl 48 (.st (.pr .str (.st (.sl 68 (.sl 2 (.int .i64))))))) (.sl 80 (.st (.pr .str (.st (.pr (.st (.sl 68 (.sl 2 (.int .i64)))) (.pr (.int .i64) (.pr (.sl 2 (.int .i64)) (.sl 147 (.st (.pr (.int .i64) (.pr (.int .i64) (.pr (.int .i64) (.sl 2 (.int .i64))))))))))))))))) .str), 1, (.int .i64), fun x => zc2_ k x.1 x.2⟩
theorem q7d_ (k : Nat) : zc_ (z3_ ti [] (lk []) z4_ z5_) (q7b_ k) (rdC (z3_ ti [] (lk []) z4_ z5_) [.tmp 4] (.int .i64)) ((zb_ (z2_ Tryz.f32)).getD 0 .skip) (fun σ kx => q78_.get σ fun x => q7a_ k k x kx) := by
  refine ⟨q78_, [(0, q79_)], fun n x kx => q7a_ k n x kx, k, by kernel_rfl, by kernel_rfl, fun x kx => by kernel_rfl, ?_, fun σ kx => rfl⟩
  rintro n ⟨⟨w0, name1, i5, ⟨⟩⟩, ⟨⟩, ⟨⟩⟩ kx
  kernel_rfl
theorem q7e_ (k : Nat) : FnOK Tryz.prog 32 (q7c_ k) := by
  refine za_ (tab := []) (l := []) z6_ z9_ mix (List.forall_mem_nil _) (List.forall_mem_nil _) ⟨⟨Tryz.f32, (z2_ Tryz.f32), [.tmp 4], (q7b_ k), by kernel_rfl, by kernel_rfl, by kernel_rfl, by kernel_rfl, rfl, by decide, ⟨by kernel_rfl, ?_, ?_⟩, ?_⟩⟩
  · refine zf_ (n := 1) (by kernel_rfl) fun i hi => ?_
    match i, hi with
    | 0, _ => exact zd_ (by kernel_rfl) (q7d_ k)
    | n + 1, hi => omega
  · exact z8_ (by kernel_rfl)
  · rintro ⟨w0, name1⟩
    kernel_rfl
def z66_ (k : Nat) : Nat → (zT1 × List (List UInt8 × List (List Int) × Int × List Int × List (Int × Int × Int × List Int))) → Int → ((zT1 × List (List UInt8 × List (List Int) × Int × List Int × List (Int × Int × Int × List Int))) → Option Bool) → Option Bool
  | 0, _, _, _ => none
  | n + 1, w0, i3, e_0 => (if (decide (i3 < (List.length w0.1 : Int))) = true then (if 0 ≤ i3 then (w0.1[i3.toNat]?).bind fun y_1 => (zbu_ k y_1.1).bind fun r_2 => (if (!r_2) = true then some false else (if 0 ≤ i3 then (w0.1[i3.toNat]?).bind fun y_3 => (zbx_ k y_3.2).bind fun r_4 => (if (!r_4) = true then some false else (if (decide (0 < i3)) = true then (if 0 ≤ (z0_ (i3 - 1)) then (w0.1[(z0_ (i3 - 1)).toNat]?).bind fun y_5 => (if 0 ≤ i3 then (w0.1[i3.toNat]?).bind fun y_6 => (if (!(Op.bytesLess y_5.1 y_6.1)) = true then some false else z66_ k n w0 (z0_ (i3 + 1)) e_0) else none) else none) else z66_ k n w0 (z0_ (i3 + 1)) e_0)) else none)) else none) else e_0 w0)
def z67_ (k : Nat) : Nat → (zT1 × List (List UInt8 × List (List Int) × Int × List Int × List (Int × Int × Int × List Int))) → Int → ((zT1 × List (List UInt8 × List (List Int) × Int × List Int × List (Int × Int × Int × List Int))) → Option Bool) → Option Bool
  | 0, _, _, _ => none
  | n + 1, w0, i4, e_2 => (if (decide (i4 < (List.length w0.2 : Int))) = true then (if 0 ≤ i4 then (w0.2[i4.toNat]?).bind fun y_8 => (zbu_ k y_8.1).bind fun r_9 => (if (!r_9) = true then some false else (if 0 ≤ i4 then (w0.2[i4.toNat]?).bind fun y_10 => (zfe_ k y_10.2).bind fun r_11 => (if (!r_11) = true then some false else (if (decide (0 < i4)) = true then (if 0 ≤ (z0_ (i4 - 1)) then (w0.2[(z0_ (i4 - 1)).toNat]?).bind fun y_12 => (if 0 ≤ i4 then (w0.2[i4.toNat]?).bind fun y_13 => (if (!(Op.bytesLess y_12.1 y_13.1)) = true then some false else (if 0 ≤ i4 then (w0.2[i4.toNat]?).bind fun y_14 => (zc2_ k w0 y_14.1).bind fun r_15 => (if (decide (0 ≤ r_15)) = true then some false else z67_ k n w0 (z0_ (i4 + 1)) e_2) else none)) else none) else none) else (if 0 ≤ i4 then (w0.2[i4.toNat]?).bind fun y_16 => (zc2_ k w0 y_16.1).bind fun r_17 => (if (decide (0 ≤ r_17)) = true then some false else z67_ k n w0 (z0_ (i4 + 1)) e_2) else none))) else none)) else none) else e_2 w0)
def zff_ (k : Nat) (w0 : zT1 × List (List UInt8 × List (List Int) × Int × List Int × List (Int × Int × Int × List Int))) : Option Bool := z66_ k k w0 0 (fun w_7 => z67_ k k w_7 0 (fun w_18 => (if (decide ((List.length w_18.1 : Int) ≤ 8)) = true then some (decide ((List.length w_18.2 : Int) ≤ 8)) else some false)))
def q7f_ : Head := ⟨[(0, (.val (.ptr (.st (.pr (.sl 48 (.st (.pr .str (.st (.sl 68 (.sl 2 (.int .i64))))))) (.sl 80 (.st (.pr .str (.st (.pr (.st (.sl 68 (.sl 2 (.int .i64)))) (.pr (.int .i64) (.pr (.sl 2 (.int .i64)) (.sl 147 (.st (.pr (.int .i64) (.pr (.int .i64) (.pr (.int .i64) (.sl 2 (.int .i64))))))))))))))))))), (3, (.val (.int .i64)))], [], []⟩
def q7g_ : Head := ⟨[(0, (.val (.ptr (.st (.pr (.sl 48 (.st (.pr .str (.st (.sl 68 (.sl 2 (.int .i64))))))) (.sl 80 (.st (.pr .str (.st (.pr (.st (.sl 68 (.sl 2 (.int .i64)))) (.pr (.int .i64) (.pr (.sl 2 (.int .i64)) (.sl 147 (.st (.pr (.int .i64) (.pr (.int .i64) (.pr (.int .i64) (.sl 2 (.int .i64)))))))))))))))))))], [], []⟩
def q7h_ (k n : Nat) (x : q7f_.T) (kx : Nat → St → Option Bool) : Option Bool := z66_ k n x.1.1 x.1.2.1 (fun (w0 : zT1 × List (List UInt8 × List (List Int) × Int × List Int × List (Int × Int × Int × List Int))) => kx 0 (q7g_.fill ((w0, ()), (), ())))
def q7i_ : Head := ⟨[(0, (.val (.ptr (.st (.pr (.sl 48 (.st (.pr .str (.st (.sl 68 (.sl 2 (.int .i64))))))) (.sl 80 (.st (.pr .str (.st (.pr (.st (.sl 68 (.sl 2 (.int .i64)))) (.pr (.int .i64) (.pr (.sl 2 (.int .i64)) (.sl 147 (.st (.pr (.int .i64) (.pr (.int .i64) (.pr (.int .i64) (.sl 2 (.int .i64))))))))))))))))))), (4, (.val (.int .i64)))], [], []⟩
def q7j_ : Head := ⟨[(0, (.val (.ptr (.st (.pr (.sl 48 (.st (.pr .str (.st (.sl 68 (.sl 2 (.int .i64))))))) (.sl 80 (.st (.pr .str (.st (.pr (.st (.sl 68 (.sl 2 (.int .i64)))) (.pr (.int .i64) (.pr (.sl 2 (.int .i64)) (.sl 147 (.st (.pr (.int .i64) (.pr (.int .i64) (.pr (.int .i64) (.sl 2 (.int .i64)))))))))))))))))))], [], []⟩
def q7k_ (k n : Nat) (x : q7i_.T) (kx : Nat → St → Option Bool) : Option Bool := z67_ k n x.1.1 x.1.2.1 (fun (w0 : zT1 × List (List UInt8 × List (List Int) × Int × List Int × List (Int × Int × Int × List Int))) => kx 2 (q7j_.fill ((w0, ()), (), ())))
def q7l_ (k : Nat) : Oracles Bool := ⟨fun n => bif Nat.beq n 2 then some (fun σ kx => q7f_.get σ fun x => q7h_ k k x kx) else bif Nat.beq n 7 then some (fun σ kx => q7i_.get σ fun x => q7k_ k k x kx) else none, fun _ => none⟩
def q7m_ (k : Nat) : FE := ⟨(.ptr (.st (.pr (.sl 48 (.st (.pr .str (.st (.sl 68 (.sl 2 (.int .i64))))))) (.sl 80 (.st (.pr .str (.st (.pr (.st (.sl 68 (.sl 2 (.int .i64)))) (.pr (.int .i64) (.pr (.sl 2 (.int .i64)) (.sl 147 (.st (.pr (.int .i64) (.pr (.int .i64) (.pr (.int .i64) (.sl 2 (.int .i64))))))))))))))))), 1, .bool, fun x => zff_ k x⟩
theorem q7n_ (k : Nat) : zc_ (z3_ ti [(29, q2p_ k), (30, q3z_ k), (31, q76_ k), (32, q7c_ k)] (lk []) z4_ z5_) (q7l_ k) (rdC (z3_ ti [(29, q2p_ k), (30, q3z_ k), (31, q76_ k), (32, q7c_ k)] (lk []) z4_ z5_) [.tmp 2] .bool) ((zb_ (z2_ Tryz.f15)).getD 0 .skip) (fun σ kx => q7f_.get σ fun x => q7h_ k k x kx) := by
  refine ⟨q7f_, [(0, q7g_)], fun n x kx => q7h_ k n x kx, k, by kernel_rfl, by kernel_rfl, fun x kx => by kernel_rfl, ?_, fun σ kx => rfl⟩
  rintro n ⟨⟨w0, i3, ⟨⟩⟩, ⟨⟩, ⟨⟩⟩ kx
  kernel_rfl
theorem q7o_ (k : Nat) : zc_ (z3_ ti [(29, q2p_ k), (30, q3z_ k), (31, q76_ k), (32, q7c_ k)] (lk []) z4_ z5_) (q7l_ k) (rdC (z3_ ti [(29, q2p_ k), (30, q3z_ k), (31, q76_ k), (32, q7c_ k)] (lk []) z4_ z5_) [.tmp 2] .bool) ((zb_ (z2_ Tryz.f15)).getD 1 .skip) (fun σ kx => q7i_.get σ fun x => q7k_ k k x kx) := by
  refine ⟨q7i_, [(2, q7j_)], fun n x kx => q7k_ k n x kx, k, by kernel_rfl, by kernel_rfl, fun x kx => by kernel_rfl, ?_, fun σ kx => rfl⟩
  rintro n ⟨⟨w0, i4, ⟨⟩⟩, ⟨⟩, ⟨⟩⟩ kx
  kernel_rfl
theorem q7p_ (k : Nat) : FnOK Tryz.prog 15 (q7m_ k) := by
  refine za_ (tab := [(29, q2p_ k), (30, q3z_ k), (31, q76_ k), (32, q7c_ k)]) (l := []) z6_ z9_ mix (List.forall_mem_cons.2 ⟨q2r_ k, (List.forall_mem_cons.2 ⟨q42_ k, (List.forall_mem_cons.2 ⟨q77_ k, (List.forall_mem_cons.2 ⟨q7e_ k, (List.forall_mem_nil _)⟩)⟩)⟩)⟩) (List.forall_mem_nil _) ⟨⟨Tryz.f15, (z2_ Tryz.f15), [.tmp 2], (q7l_ k), by kernel_rfl, by kernel_rfl, by kernel_rfl, by kernel_rfl, rfl, by decide, ⟨by kernel_rfl, ?_, ?_⟩, ?_⟩⟩
  · refine zf_ (n := 2) (by kernel_rfl) fun i hi => ?_
    match i, hi with
    | 0, _ => exact zd_ (by kernel_rfl) (q7n_ k)
    | 1, _ => exact zd_ (by kernel_rfl) (q7o_ k)
    | n + 2, hi => omega
  · exact z8_ (by kernel_rfl)
  · rintro w0
    kernel_rfl
def z9v_ (k : Nat) : Nat → (List Int) → Int → Int → (Option Bool) → Option Bool
  | 0, _, _, _, _ => none
  | n + 1, list0, n1, i5, e_0 => (if (decide (i5 < (List.length list0 : Int))) = true then (if 0 ≤ i5 then (list0[i5.toNat]?).bind fun y_1 => (if (decide (y_1 = n1)) = true then some true else z9v_ k n list0 n1 (z0_ (i5 + 1)) e_0) else none) else e_0)
def zfg_ (k : Nat) (list0 : List Int) (n1 : Int) : Option Bool := z9v_ k k list0 n1 0 (some false)
def q7q_ : Head := ⟨[(0, (.val (.sl 2 (.int .i64)))), (1, (.val (.int .i64))), (5, (.val (.int .i64)))], [], []⟩
def q7r_ : Head := ⟨[], [], []⟩
def q7s_ (k n : Nat) (x : q7q_.T) (kx : Nat → St → Option Bool) : Option Bool := z9v_ k n x.1.1 x.1.2.1 x.1.2.2.1 (kx 0 (q7r_.fill ((), (), ())))
def q7t_ (k : Nat) : Oracles Bool := ⟨fun n => bif Nat.beq n 2 then some (fun σ kx => q7q_.get σ fun x => q7s_ k k x kx) else none, fun _ => none⟩
def q7u_ (k : Nat) : FE := ⟨(.pr (.sl 2 (.int .i64)) (.int .i64)), 1, .bool, fun x => zfg_ k x.1 x.2⟩
theorem q7v_ (k : Nat) : zc_ (z3_ ti [] (lk []) z4_ z5_) (q7t_ k) (rdC (z3_ ti [] (lk []) z4_ z5_) [.tmp 4] .bool) ((zb_ (z2_ Tryz.f146)).getD 0 .skip) (fun σ kx => q7q_.get σ fun x => q7s_ k k x kx) := by
  refine ⟨q7q_, [(0, q7r_)], fun n x kx => q7s_ k n x kx, k, by kernel_rfl, by kernel_rfl, fun x kx => by kernel_rfl, ?_, fun σ kx => rfl⟩
  rintro n ⟨⟨list0, n1, i5, ⟨⟩⟩, ⟨⟩, ⟨⟩⟩ kx
  kernel_rfl
theorem q7w_ (k : Nat) : FnOK Tryz.prog 146 (q7u_ k) := by
  refine za_ (tab := []) (l := []) z6_ z9_ mix (List.forall_mem_nil _) (List.forall_mem_nil _) ⟨⟨Tryz.f146, (z2_ Tryz.f146), [.tmp 4], (q7t_ k), by kernel_rfl, by kernel_rfl, by kernel_rfl, by kernel_rfl, rfl, by decide, ⟨by kernel_rfl, ?_, ?_⟩, ?_⟩⟩
  · refine zf_ (n := 1) (by kernel_rfl) fun i hi => ?_
    match i, hi with
    | 0, _ => exact zd_ (by kernel_rfl) (q7v_ k)
    | n + 1, hi => omega
  · exact z8_ (by kernel_rfl)
  · rintro ⟨list0, n1⟩
    kernel_rfl
def z9w_ (k : Nat) : Nat → (List Int) → (List Int) → Int → (Option Bool) → Option Bool
  | 0, _, _, _, _ => none
  | n + 1, a0, b1, i5, e_0 => (if (decide (i5 < (List.length a0 : Int))) = true then (if 0 ≤ i5 then (a0[i5.toNat]?).bind fun y_1 => (zfg_ k b1 y_1).bind fun r_2 => (if (!r_2) = true then some false else z9w_ k n a0 b1 (z0_ (i5 + 1)) e_0) else none) else e_0)
def zfh_ (k : Nat) (a0 : List Int) (b1 : List Int) : Option Bool := z9w_ k k a0 b1 0 (some true)
def q7x_ : Head := ⟨[(0, (.val (.sl 2 (.int .i64)))), (1, (.val (.sl 2 (.int .i64)))), (5, (.val (.int .i64)))], [], []⟩
def q7y_ : Head := ⟨[], [], []⟩
def q7z_ (k n : Nat) (x : q7x_.T) (kx : Nat → St → Option Bool) : Option Bool := z9w_ k n x.1.1 x.1.2.1 x.1.2.2.1 (kx 0 (q7y_.fill ((), (), ())))
def q80_ (k : Nat) : Oracles Bool := ⟨fun n => bif Nat.beq n 2 then some (fun σ kx => q7x_.get σ fun x => q7z_ k k x kx) else none, fun _ => none⟩
def q81_ (k : Nat) : FE := ⟨(.pr (.sl 2 (.int .i64)) (.sl 2 (.int .i64))), 1, .bool, fun x => zfh_ k x.1 x.2⟩
theorem q82_ (k : Nat) : zc_ (z3_ ti [(146, q7u_ k)] (lk []) z4_ z5_) (q80_ k) (rdC (z3_ ti [(146, q7u_ k)] (lk []) z4_ z5_) [.tmp 4] .bool) ((zb_ (z2_ Tryz.f108)).getD 0 .skip) (fun σ kx => q7x_.get σ fun x => q7z_ k k x kx) := by
  refine ⟨q7x_, [(0, q7y_)], fun n x kx => q7z_ k n x kx, k, by kernel_rfl, by kernel_rfl, fun x kx => by kernel_rfl, ?_, fun σ kx => rfl⟩
  rintro n ⟨⟨a0, b1, i5, ⟨⟩⟩, ⟨⟩, ⟨⟩⟩ kx
  kernel_rfl
theorem q83_ (k : Nat) : FnOK Tryz.prog 108 (q81_ k) := by
  refine za_ (tab := [(146, q7u_ k)]) (l := []) z6_ z9_ mix (List.forall_mem_cons.2 ⟨q7w_ k, (List.forall_mem_nil _)⟩) (List.forall_mem_nil _) ⟨⟨Tryz.f108, (z2_ Tryz.f108), [.tmp 4], (q80_ k), by kernel_rfl, by kernel_rfl, by kernel_rfl, by kernel_rfl, rfl, by decide, ⟨by kernel_rfl, ?_, ?_⟩, ?_⟩⟩
  · refine zf_ (n := 1) (by kernel_rfl) fun i hi => ?_
    match i, hi with
    | 0, _ => exact zd_ (by kernel_rfl) (q82_ k)
    | n + 1, hi => omega
  · exact z8_ (by kernel_rfl)
  · rintro ⟨a0, b1⟩
    kernel_rfl
def z77_ (k : Nat) : Nat → zT4 → (List Int) → Int → (List Int) → ((List Int) → Option (List Int)) → Option (List Int)
  | 0, _, _, _, _, _ => none
  | n + 1, c0, s1, i6, q_1, e_0 => (if (decide (i6 < (List.length c0 : Int))) = true then (if 0 ≤ i6 then (c0[i6.toNat]?).bind fun y_2 => (zfh_ k s1 y_2).bind fun r_3 => (if r_3 = true then (if (q_1.length + [i6].length) * 8 ≤ LIM then z77_ k n c0 s1 (z0_ (i6 + 1)) (q_1 ++ [i6]) e_0 else none) else z77_ k n c0 s1 (z0_ (i6 + 1)) q_1 e_0) else none) else e_0 q_1)
def zfi_ (k : Nat) (c0 : List (List Int)) (s1 : List Int) : Option (List Int) := z77_ k k c0 s1 0 [] (fun q_4 => some q_4)
def q84_ : Head := ⟨[(0, (.val (.ptr (.st (.sl 68 (.sl 2 (.int .i64))))))), (1, (.val (.sl 2 (.int .i64)))), (5, (.ref 64000000 [])), (6, (.val (.int .i64)))], [(64000000, 2, (.int .i64), false)], []⟩
def q85_ : Head := ⟨[(5, (.ref 64000000 []))], [(64000000, 2, (.int .i64), false)], []⟩
def q86_ (k n : Nat) (x : q84_.T) (kx : Nat → St → Option (List Int)) : Option (List Int) := z77_ k n x.1.1 x.1.2.1 x.1.2.2.2.1 x.2.1.1 (fun (q_4 : List Int) => kx 0 (q85_.fill (((), ()), (q_4, ()), ())))
def q87_ (k : Nat) : Oracles (List Int) := ⟨fun n => bif Nat.beq n 3 then some (fun σ kx => q84_.get σ fun x => q86_ k k x kx) else none, fun _ => none⟩
def q88_ (k : Nat) : FE := ⟨(.pr (.ptr (.st (.sl 68 (.sl 2 (.int .i64))))) (.sl 2 (.int .i64))), 1, (.sl 2 (.int .i64)), fun x => zfi_ k x.1 x.2⟩
theorem q89_ (k : Nat) : zc_ (z3_ ti [(108, q81_ k)] (lk []) z4_ z5_) (q87_ k) (rdC (z3_ ti [(108, q81_ k)] (lk []) z4_ z5_) [.tmp 4] (.sl 2 (.int .i64))) ((zb_ (z2_ Tryz.f66)).getD 0 .skip) (fun σ kx => q84_.get σ fun x => q86_ k k x kx) := by
  refine ⟨q84_, [(0, q85_)], fun n x kx => q86_ k n x kx, k, by kernel_rfl, by kernel_rfl, fun x kx => by kernel_rfl, ?_, fun σ kx => rfl⟩
  rintro n ⟨⟨c0, s1, ⟨⟩, i6, ⟨⟩⟩, ⟨q_1, ⟨⟩⟩, ⟨⟩⟩ kx
  kernel_rfl
theorem q8a_ (k : Nat) : FnOK Tryz.prog 66 (q88_ k) := by
  refine za_ (tab := [(108, q81_ k)]) (l := []) z6_ z9_ mix (List.forall_mem_cons.2 ⟨q83_ k, (List.forall_mem_nil _)⟩) (List.forall_mem_nil _) ⟨⟨Tryz.f66, (z2_ Tryz.f66), [.tmp 4], (q87_ k), by kernel_rfl, by kernel_rfl, by kernel_rfl, by kernel_rfl, rfl, by decide, ⟨by kernel_rfl, ?_, ?_⟩, ?_⟩⟩
  · refine zf_ (n := 1) (by kernel_rfl) fun i hi => ?_
    match i, hi with
    | 0, _ => exact zd_ (by kernel_rfl) (q89_ k)
    | n + 1, hi => omega
  · exact z8_ (by kernel_rfl)
  · rintro ⟨c0, s1⟩
    kernel_rfl
def z78_ (k : Nat) : Nat → zT4 → Int → (List Int) → ((List Int) → Option (List Int)) → Option (List Int)
  | 0, _, _, _, _ => none
  | n + 1, c0, i4, q_1, e_0 => (if (decide (i4 < (List.length c0 : Int))) = true then (if 0 ≤ i4 then (c0[i4.toNat]?).bind fun y_2 => (zfi_ k c0 y_2).bind fun r_3 => (if (decide ((List.length r_3 : Int) = 1)) = true then (if (q_1.length + [i4].length) * 8 ≤ LIM then z78_ k n c0 (z0_ (i4 + 1)) (q_1 ++ [i4]) e_0 else none) else z78_ k n c0 (z0_ (i4 + 1)) q_1 e_0) else none) else e_0 q_1)
def zfj_ (k : Nat) (c0 : List (List Int)) : Option (List Int) := z78_ k k c0 0 [] (fun q_4 => some q_4)
def q8b_ : Head := ⟨[(0, (.val (.ptr (.st (.sl 68 (.sl 2 (.int .i64))))))), (3, (.ref 64000000 [])), (4, (.val (.int .i64)))], [(64000000, 2, (.int .i64), false)], []⟩
def q8c_ : Head := ⟨[(3, (.ref 64000000 []))], [(64000000, 2, (.int .i64), false)], []⟩
def q8d_ (k n : Nat) (x : q8b_.T) (kx : Nat → St → Option (List Int)) : Option (List Int) := z78_ k n x.1.1 x.1.2.2.1 x.2.1.1 (fun (q_4 : List Int) => kx 0 (q8c_.fill (((), ()), (q_4, ()), ())))
def q8e_ (k : Nat) : Oracles (List Int) := ⟨fun n => bif Nat.beq n 3 then some (fun σ kx => q8b_.get σ fun x => q8d_ k k x kx) else none, fun _ => none⟩
def q8f_ (k : Nat) : FE := ⟨(.ptr (.st (.sl 68 (.sl 2 (.int .i64))))), 1, (.sl 2 (.int .i64)), fun x => zfj_ k x⟩
theorem q8g_ (k : Nat) : zc_ (z3_ ti [(66, q88_ k)] (lk []) z4_ z5_) (q8e_ k) (rdC (z3_ ti [(66, q88_ k)] (lk []) z4_ z5_) [.tmp 2] (.sl 2 (.int .i64))) ((zb_ (z2_ Tryz.f33)).getD 0 .skip) (fun σ kx => q8b_.get σ fun x => q8d_ k k x kx) := by
  refine ⟨q8b_, [(0, q8c_)], fun n x kx => q8d_ k n x kx, k, by kernel_rfl, by kernel_rfl, fun x kx => by kernel_rfl, ?_, fun σ kx => rfl⟩
  rintro n ⟨⟨c0, ⟨⟩, i4, ⟨⟩⟩, ⟨q_1, ⟨⟩⟩, ⟨⟩⟩ kx
  kernel_rfl
theorem q8h_ (k : Nat) : FnOK Tryz.prog 33 (q8f_ k) := by
  refine za_ (tab := [(66, q88_ k)]) (l := []) z6_ z9_ mix (List.forall_mem_cons.2 ⟨q8a_ k, (List.forall_mem_nil _)⟩) (List.forall_mem_nil _) ⟨⟨Tryz.f33, (z2_ Tryz.f33), [.tmp 2], (q8e_ k), by kernel_rfl, by kernel_rfl, by kernel_rfl, by kernel_rfl, rfl, by decide, ⟨by kernel_rfl, ?_, ?_⟩, ?_⟩⟩
  · refine zf_ (n := 1) (by kernel_rfl) fun i hi => ?_
    match i, hi with
    | 0, _ => exact zd_ (by kernel_rfl) (q8g_ k)
    | n + 1, hi => omega
  · exact z8_ (by kernel_rfl)
  · rintro c0
    kernel_rfl
def z56_ (k : Nat) : Nat → Int → Int → (List Int) → (Int → (List Int) → Option (List UInt8)) → Option (List UInt8)
  | 0, _, _, _, _ => none
  | n + 1, n0, m4, q_1, e_0 => (if (!(decide (m4 = 0))) = true then (if (decide ((Int.tmod m4 10) < 0)) = true then (if (q_1.length + [(w_u8 ((z0_ (48 + (z0_ (0 - (Int.tmod m4 10)))))))].length) * 1 ≤ LIM then z56_ k n n0 (z0_ (Int.tdiv m4 10)) (q_1 ++ [(w_u8 ((z0_ (48 + (z0_ (0 - (Int.tmod m4 10)))))))]) e_0 else none) else (if (q_1.length + [(w_u8 ((z0_ (48 + (Int.tmod m4 10)))))].length) * 1 ≤ LIM then z56_ k n n0 (z0_ (Int.tdiv m4 10)) (q_1 ++ [(w_u8 ((z0_ (48 + (Int.tmod m4 10)))))]) e_0 else none)) else e_0 n0 q_1)
def z79_ (k : Nat) : Nat → Int → (List Int) → (List Int) → ((List Int) → Option (List UInt8)) → Option (List UInt8)
  | 0, _, _, _, _ => none
  | n + 1, i7, q_4, q_5, e_2 => (if (decide (0 ≤ i7)) = true then (if 0 ≤ i7 ∧ i7.toNat < List.length q_4 then (q_4[i7.toNat]?).bind fun y_6 => (if (q_5.length + [y_6].length) * 1 ≤ LIM then z79_ k n (z0_ (i7 - 1)) q_4 (q_5 ++ [y_6]) e_2 else none) else none) else e_2 q_5)
def zc3_ (k : Nat) (n0 : Int) : Option (List UInt8) := (if (decide (n0 = 0)) = true then some [48] else z56_ k k n0 n0 [] (fun n_2 q_3 => (if (decide (n_2 < 0)) = true then (if (q_3.length + [45].length) * 1 ≤ LIM then z79_ k k (z0_ ((List.length (q_3 ++ [45]) : Int) - 1)) (q_3 ++ [45]) [] (fun q_7 => some (to_S q_7)) else none) else z79_ k k (z0_ ((List.length q_3 : Int) - 1)) q_3 [] (fun q_8 => some (to_S q_8)))))
def q8i_ : Head := ⟨[(0, (.val (.int .i64))), (3, (.ref 64000000 [])), (4, (.val (.int .i64)))], [(64000000, 5, (.int .u8), false)], []⟩
def q8j_ : Head := ⟨[(0, (.val (.int .i64))), (3, (.ref 64000000 []))], [(64000000, 5, (.int .u8), false)], []⟩
def q8k_ (k n : Nat) (x : q8i_.T) (kx : Nat → St → Option (List UInt8)) : Option (List UInt8) := z56_ k n x.1.1 x.1.2.2.1 x.2.1.1 (fun (n0 : Int) (q_2 : List Int) => kx 0 (q8j_.fill ((n0, (), ()), (q_2, ()), ())))
def q8l_ : Head := ⟨[(3, (.ref 64000000 [])), (6, (.ref 64000001 [])), (7, (.val (.int .i64)))], [(64000000, 5, (.int .u8), false), (64000001, 5, (.int .u8), false)], []⟩
def q8m_ : Head := ⟨[(6, (.ref 64000000 []))], [(64000000, 5, (.int .u8), false)], []⟩
def q8n_ (k n : Nat) (x : q8l_.T) (kx : Nat → St → Option (List UInt8)) : Option (List UInt8) := z79_ k n x.1.2.2.1 x.2.1.1 x.2.1.2.1 (fun (q_7 : List Int) => kx 2 (q8m_.fill (((), ()), (q_7, ()), ())))
def q8o_ (k : Nat) : Oracles (List UInt8) := ⟨fun n => bif Nat.beq n 5 then some (fun σ kx => q8i_.get σ fun x => q8k_ k k x kx) else bif Nat.beq n 15 then some (fun σ kx => q8l_.get σ fun x => q8n_ k k x kx) else none, fun _ => none⟩
def q8p_ (k : Nat) : FE := ⟨(.int .i64), 1, .str, fun x => zc3_ k x⟩
theorem q8q_ (k : Nat) : zc_ (z3_ ti [] (lk []) z4_ z5_) (q8o_ k) (rdC (z3_ ti [] (lk []) z4_ z5_) [.tmp 2] .str) ((zb_ (z2_ Tryz.f67)).getD 0 .skip) (fun σ kx => q8i_.get σ fun x => q8k_ k k x kx) := by
  refine ⟨q8i_, [(0, q8j_)], fun n x kx => q8k_ k n x kx, k, by kernel_rfl, by kernel_rfl, fun x kx => by kernel_rfl, ?_, fun σ kx => rfl⟩
  rintro n ⟨⟨n0, ⟨⟩, m4, ⟨⟩⟩, ⟨q_1, ⟨⟩⟩, ⟨⟩⟩ kx
  kernel_rfl
theorem q8r_ (k : Nat) : zc_ (z3_ ti [] (lk []) z4_ z5_) (q8o_ k) (rdC (z3_ ti [] (lk []) z4_ z5_) [.tmp 2] .str) ((zb_ (z2_ Tryz.f67)).getD 1 .skip) (fun σ kx => q8l_.get σ fun x => q8n_ k k x kx) := by
  refine ⟨q8l_, [(2, q8m_)], fun n x kx => q8n_ k n x kx, k, by kernel_rfl, by kernel_rfl, fun x kx => by kernel_rfl, ?_, fun σ kx => rfl⟩
  rintro n ⟨⟨⟨⟩, ⟨⟩, i7, ⟨⟩⟩, ⟨q_4, q_5, ⟨⟩⟩, ⟨⟩⟩ kx
  kernel_rfl
theorem q8s_ (k : Nat) : FnOK Tryz.prog 67 (q8p_ k) := by
  refine za_ (tab := []) (l := []) z6_ z9_ mix (List.forall_mem_nil _) (List.forall_mem_nil _) ⟨⟨Tryz.f67, (z2_ Tryz.f67), [.tmp 2], (q8o_ k), by kernel_rfl, by kernel_rfl, by kernel_rfl, by kernel_rfl, rfl, by decide, ⟨by kernel_rfl, ?_, ?_⟩, ?_⟩⟩
  · refine zf_ (n := 2) (by kernel_rfl) fun i hi => ?_
    match i, hi with
    | 0, _ => exact zd_ (by kernel_rfl) (q8q_ k)
    | 1, _ => exact zd_ (by kernel_rfl) (q8r_ k)
    | n + 2, hi => omega
  · exact z8_ (by kernel_rfl)
  · rintro n0
    kernel_rfl
end
end Go.Proofs.YtibiofjkgdidmaaGreatDoor.Ev
