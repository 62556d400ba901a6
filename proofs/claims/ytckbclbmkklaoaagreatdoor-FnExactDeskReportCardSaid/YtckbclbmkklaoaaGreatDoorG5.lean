/- Functions of the program, as zl_ ones. No conditions. -/
import Derived.Test.YtckbclbmkklaoaaGreatDoorG4
import Derived.KernelRfl
set_option linter.unusedVariables false
set_option maxRecDepth 100000
namespace Go.Proofs.YtckbclbmkklaoaaGreatDoor.Ev
open Go.RowKit
noncomputable section
def z7k_ (k : Nat) : Nat → (List Int) → Int → Int → ((List Int) → Option Bool) → Option Bool
  | 0, _, _, _, _ => none
  | n + 1, v0, p1, i5, e_0 => (if (decide (i5 < (List.length v0 : Int))) = true then (if 0 ≤ i5 then (v0[i5.toNat]?).bind fun y_1 => (z21_ y_1 0 (z0_ (p1 - 1))).bind fun r_2 => (if (!r_2) = true then some false else z7k_ k n v0 p1 (z0_ (i5 + 1)) e_0) else none) else e_0 v0)
def zjb_ (k : Nat) (v0 : List Int) (p1 : Int) : Option Bool := z7k_ k k v0 p1 0 (fun v_3 => some (decide ((List.length v_3 : Int) ≤ 64)))
def q94_ : Head := ⟨[(0, (.val (.sl 2 (.int .i64)))), (1, (.val (.int .i64))), (5, (.val (.int .i64)))], [], []⟩
def q95_ : Head := ⟨[(0, (.val (.sl 2 (.int .i64))))], [], []⟩
def q96_ (k n : Nat) (x : q94_.T) (kx : Nat → St → Option Bool) : Option Bool := z7k_ k n x.1.1 x.1.2.1 x.1.2.2.1 (fun (v0 : List Int) => kx 0 (q95_.fill ((v0, ()), (), ())))
def q97_ (k : Nat) : Oracles Bool := ⟨fun n => bif Nat.beq n 2 then some (fun σ kx => q94_.get σ fun x => q96_ k k x kx) else none, fun _ => none⟩
def q98_ (k : Nat) : FE := ⟨(.pr (.sl 2 (.int .i64)) (.int .i64)), 1, .bool, fun x => zjb_ k x.1 x.2⟩
theorem q99_ (k : Nat) : zd_ (z3_ ti [(96, q3e_)] (lk []) z7_ z8_) (q97_ k) (rdC (z3_ ti [(96, q3e_)] (lk []) z7_ z8_) [.tmp 4] .bool) ((zc_ (z2_ Tryz.f102)).getD 0 .skip) (fun σ kx => q94_.get σ fun x => q96_ k k x kx) := by
  refine ⟨q94_, [(0, q95_)], fun n x kx => q96_ k n x kx, k, by kernel_rfl, by kernel_rfl, fun x kx => by kernel_rfl, ?_, fun σ kx => rfl⟩
  rintro n ⟨⟨v0, p1, i5, ⟨⟩⟩, ⟨⟩, ⟨⟩⟩ kx
  kernel_rfl
theorem q9a_ (k : Nat) : FnOK Tryz.prog 102 (q98_ k) := by
  refine za_ (tab := [(96, q3e_)]) (l := []) z4_ z6_ mix (List.forall_mem_cons.2 ⟨q3f_, (List.forall_mem_nil _)⟩) (List.forall_mem_nil _) ⟨⟨Tryz.f102, (z2_ Tryz.f102), [.tmp 4], (q97_ k), by kernel_rfl, by kernel_rfl, by kernel_rfl, by kernel_rfl, rfl, by decide, ⟨by kernel_rfl, ?_, ?_⟩, ?_⟩⟩
  · refine zi_ (n := 1) (by kernel_rfl) fun i hi => ?_
    match i, hi with
    | 0, _ => exact ze_ (by kernel_rfl) (q99_ k)
    | n + 1, hi => omega
  · exact z5_ (by kernel_rfl)
  · rintro ⟨v0, p1⟩
    kernel_rfl
def zg2_ (k : Nat) (p0 : Int) (length1 : Int) (x2 : List Int) : Option Bool := (zjb_ k x2 p0).bind fun r_1 => (if r_1 = true then some (decide ((List.length x2 : Int) = length1)) else some false)
def q9b_ (k : Nat) : FE := ⟨(.pr (.int .i64) (.pr (.int .i64) (.sl 2 (.int .i64)))), 1, .bool, fun x => zg2_ k x.1 x.2.1 x.2.2⟩
theorem q9c_ (k : Nat) : FnOK Tryz.prog 61 (q9b_ k) := by
  refine za_ (tab := [(102, q98_ k)]) (l := []) z4_ z6_ mix (List.forall_mem_cons.2 ⟨q9a_ k, (List.forall_mem_nil _)⟩) (List.forall_mem_nil _) ⟨⟨Tryz.f61, (z2_ Tryz.f61), [.tmp 6], (LOn Bool), by kernel_rfl, by kernel_rfl, by kernel_rfl, by kernel_rfl, rfl, by decide, ⟨by kernel_rfl, ?_, ?_⟩, ?_⟩⟩
  · exact zf_ (by kernel_rfl)
  · exact z5_ (by kernel_rfl)
  · rintro ⟨p0, length1, x2⟩
    kernel_rfl
def za1_ (k : Nat) : Nat → (Int × List (Int × Int × Int)) → (List Int) → Int → ((Int × List (Int × Int × Int)) → (List Int) → Option Bool) → Option Bool
  | 0, _, _, _, _ => none
  | n + 1, g0, x1, i5, e_0 => (if (decide (i5 < (List.length x1 : Int))) = true then (if 0 ≤ i5 then (x1[i5.toNat]?).bind fun y_1 => (z21_ y_1 (-1000000) 1000000).bind fun r_2 => (if (!r_2) = true then some false else za1_ k n g0 x1 (z0_ (i5 + 1)) e_0) else none) else e_0 g0 x1)
def zg3_ (k : Nat) (g0 : Int × List (Int × Int × Int)) (x1 : List Int) : Option Bool := za1_ k k g0 x1 0 (fun g_3 x_4 => some (decide ((List.length x_4 : Int) = g_3.1)))
def q9d_ : Head := ⟨[(0, (.val (.ptr (.st (.pr (.int .i64) (.sl 157 (.st (.pr (.int .i64) (.pr (.int .i64) (.int .i64)))))))))), (1, (.val (.sl 2 (.int .i64)))), (5, (.val (.int .i64)))], [], []⟩
def q9e_ : Head := ⟨[(0, (.val (.ptr (.st (.pr (.int .i64) (.sl 157 (.st (.pr (.int .i64) (.pr (.int .i64) (.int .i64)))))))))), (1, (.val (.sl 2 (.int .i64))))], [], []⟩
def q9f_ (k n : Nat) (x : q9d_.T) (kx : Nat → St → Option Bool) : Option Bool := za1_ k n x.1.1 x.1.2.1 x.1.2.2.1 (fun (g0 : Int × List (Int × Int × Int)) (x1 : List Int) => kx 0 (q9e_.fill ((g0, x1, ()), (), ())))
def q9g_ (k : Nat) : Oracles Bool := ⟨fun n => bif Nat.beq n 2 then some (fun σ kx => q9d_.get σ fun x => q9f_ k k x kx) else none, fun _ => none⟩
def q9h_ (k : Nat) : FE := ⟨(.pr (.ptr (.st (.pr (.int .i64) (.sl 157 (.st (.pr (.int .i64) (.pr (.int .i64) (.int .i64)))))))) (.sl 2 (.int .i64))), 1, .bool, fun x => zg3_ k x.1 x.2⟩
theorem q9i_ (k : Nat) : zd_ (z3_ ti [(96, q3e_)] (lk []) z7_ z8_) (q9g_ k) (rdC (z3_ ti [(96, q3e_)] (lk []) z7_ z8_) [.tmp 4] .bool) ((zc_ (z2_ Tryz.f63)).getD 0 .skip) (fun σ kx => q9d_.get σ fun x => q9f_ k k x kx) := by
  refine ⟨q9d_, [(0, q9e_)], fun n x kx => q9f_ k n x kx, k, by kernel_rfl, by kernel_rfl, fun x kx => by kernel_rfl, ?_, fun σ kx => rfl⟩
  rintro n ⟨⟨g0, x1, i5, ⟨⟩⟩, ⟨⟩, ⟨⟩⟩ kx
  kernel_rfl
theorem q9j_ (k : Nat) : FnOK Tryz.prog 63 (q9h_ k) := by
  refine za_ (tab := [(96, q3e_)]) (l := []) z4_ z6_ mix (List.forall_mem_cons.2 ⟨q3f_, (List.forall_mem_nil _)⟩) (List.forall_mem_nil _) ⟨⟨Tryz.f63, (z2_ Tryz.f63), [.tmp 4], (q9g_ k), by kernel_rfl, by kernel_rfl, by kernel_rfl, by kernel_rfl, rfl, by decide, ⟨by kernel_rfl, ?_, ?_⟩, ?_⟩⟩
  · refine zi_ (n := 1) (by kernel_rfl) fun i hi => ?_
    match i, hi with
    | 0, _ => exact ze_ (by kernel_rfl) (q9i_ k)
    | n + 1, hi => omega
  · exact z5_ (by kernel_rfl)
  · rintro ⟨g0, x1⟩
    kernel_rfl
def zg4_ (k : Nat) (d0 : (List (List Int) × Int × List Int × List (Int × Int × Int × List Int)) × List Int × (Int × List (Int × Int × Int)) × List Int × (Int × Int × Int × List Int) × (List (List Int × List (List Int))) × (List (List Int) × List Int) × List (List UInt8 × List (List UInt8) × Int × Int)) : Option Bool := (zfr_ k d0.1).bind fun r_1 => (if (!r_1) = true then some false else (zfs_ k d0.2.2.1).bind fun r_2 => (if (!r_2) = true then some false else (z7g_ k d0.2.2.2.2.1).bind fun r_3 => (if (!r_3) = true then some false else (zfv_ k d0.2.2.2.2.2.1).bind fun r_4 => (if (!r_4) = true then some false else (zfw_ k d0.2.2.2.2.2.2.1).bind fun r_5 => (if (!r_5) = true then some false else (zg1_ k d0.2.2.2.2.2.2.2).bind fun r_6 => (if (!r_6) = true then some false else (zja_ k d0.1).bind fun r_7 => (zg2_ k d0.1.2.1 r_7 d0.2.1).bind fun r_8 => (if r_8 = true then (zg3_ k d0.2.2.1 d0.2.2.2.1).bind fun r_9 => some r_9 else some false)))))))
def q9k_ (k : Nat) : FE := ⟨(.ptr (.st (.pr (.st (.pr (.st (.sl 25 (.sl 2 (.int .i64)))) (.pr (.int .i64) (.pr (.sl 2 (.int .i64)) (.sl 51 (.st (.pr (.int .i64) (.pr (.int .i64) (.pr (.int .i64) (.sl 2 (.int .i64))))))))))) (.pr (.sl 2 (.int .i64)) (.pr (.st (.pr (.int .i64) (.sl 157 (.st (.pr (.int .i64) (.pr (.int .i64) (.int .i64))))))) (.pr (.sl 2 (.int .i64)) (.pr (.st (.pr (.int .i64) (.pr (.int .i64) (.pr (.int .i64) (.sl 2 (.int .i64)))))) (.pr (.sl 87 (.st (.pr (.sl 2 (.int .i64)) (.sl 25 (.sl 2 (.int .i64)))))) (.pr (.st (.pr (.st (.sl 25 (.sl 2 (.int .i64)))) (.sl 2 (.int .i64)))) (.sl 90 (.st (.pr .str (.pr (.sl 9 .str) (.pr (.int .i64) (.int .i64))))))))))))))), 1, .bool, fun x => zg4_ k x⟩
theorem q9l_ (k : Nat) : FnOK Tryz.prog 20 (q9k_ k) := by
  refine za_ (tab := [(55, q6h_ k), (56, q6p_ k), (57, q66_ k), (58, q7e_ k), (59, q7o_ k), (60, q90_ k), (62, q92_ k), (61, q9b_ k), (63, q9h_ k)]) (l := []) z4_ z6_ mix (List.forall_mem_cons.2 ⟨q6k_ k, (List.forall_mem_cons.2 ⟨q6r_ k, (List.forall_mem_cons.2 ⟨q67_ k, (List.forall_mem_cons.2 ⟨q7g_ k, (List.forall_mem_cons.2 ⟨q7r_ k, (List.forall_mem_cons.2 ⟨q91_ k, (List.forall_mem_cons.2 ⟨q93_ k, (List.forall_mem_cons.2 ⟨q9c_ k, (List.forall_mem_cons.2 ⟨q9j_ k, (List.forall_mem_nil _)⟩)⟩)⟩)⟩)⟩)⟩)⟩)⟩)⟩) (List.forall_mem_nil _) ⟨⟨Tryz.f20, (z2_ Tryz.f20), [.tmp 2], (LOn Bool), by kernel_rfl, by kernel_rfl, by kernel_rfl, by kernel_rfl, rfl, by decide, ⟨by kernel_rfl, ?_, ?_⟩, ?_⟩⟩
  · exact zf_ (by kernel_rfl)
  · exact z5_ (by kernel_rfl)
  · rintro d0
    kernel_rfl
def z5e_ (k : Nat) : Nat → Int → Int → (List Int) → (Int → (List Int) → Option (List UInt8)) → Option (List UInt8)
  | 0, _, _, _, _ => none
  | n + 1, n0, m4, q_1, e_0 => (if (!(decide (m4 = 0))) = true then (if (decide ((Int.tmod m4 10) < 0)) = true then (if (q_1.length + [(w_u8 ((z0_ (48 + (z0_ (0 - (Int.tmod m4 10)))))))].length) * 1 ≤ LIM then z5e_ k n n0 (z0_ (Int.tdiv m4 10)) (q_1 ++ [(w_u8 ((z0_ (48 + (z0_ (0 - (Int.tmod m4 10)))))))]) e_0 else none) else (if (q_1.length + [(w_u8 ((z0_ (48 + (Int.tmod m4 10)))))].length) * 1 ≤ LIM then z5e_ k n n0 (z0_ (Int.tdiv m4 10)) (q_1 ++ [(w_u8 ((z0_ (48 + (Int.tmod m4 10)))))]) e_0 else none)) else e_0 n0 q_1)
def z7l_ (k : Nat) : Nat → Int → (List Int) → (List Int) → ((List Int) → Option (List UInt8)) → Option (List UInt8)
  | 0, _, _, _, _ => none
  | n + 1, i7, q_4, q_5, e_2 => (if (decide (0 ≤ i7)) = true then (if 0 ≤ i7 ∧ i7.toNat < List.length q_4 then (q_4[i7.toNat]?).bind fun y_6 => (if (q_5.length + [y_6].length) * 1 ≤ LIM then z7l_ k n (z0_ (i7 - 1)) q_4 (q_5 ++ [y_6]) e_2 else none) else none) else e_2 q_5)
def zg5_ (k : Nat) (n0 : Int) : Option (List UInt8) := (if (decide (n0 = 0)) = true then some [48] else z5e_ k k n0 n0 [] (fun n_2 q_3 => (if (decide (n_2 < 0)) = true then (if (q_3.length + [45].length) * 1 ≤ LIM then z7l_ k k (z0_ ((List.length (q_3 ++ [45]) : Int) - 1)) (q_3 ++ [45]) [] (fun q_7 => some (to_S q_7)) else none) else z7l_ k k (z0_ ((List.length q_3 : Int) - 1)) q_3 [] (fun q_8 => some (to_S q_8)))))
def q9m_ : Head := ⟨[(0, (.val (.int .i64))), (3, (.ref 64000000 [])), (4, (.val (.int .i64)))], [(64000000, 5, (.int .u8), false)], []⟩
def q9n_ : Head := ⟨[(0, (.val (.int .i64))), (3, (.ref 64000000 []))], [(64000000, 5, (.int .u8), false)], []⟩
def q9o_ (k n : Nat) (x : q9m_.T) (kx : Nat → St → Option (List UInt8)) : Option (List UInt8) := z5e_ k n x.1.1 x.1.2.2.1 x.2.1.1 (fun (n0 : Int) (q_2 : List Int) => kx 0 (q9n_.fill ((n0, (), ()), (q_2, ()), ())))
def q9p_ : Head := ⟨[(3, (.ref 64000000 [])), (6, (.ref 64000001 [])), (7, (.val (.int .i64)))], [(64000000, 5, (.int .u8), false), (64000001, 5, (.int .u8), false)], []⟩
def q9q_ : Head := ⟨[(6, (.ref 64000000 []))], [(64000000, 5, (.int .u8), false)], []⟩
def q9r_ (k n : Nat) (x : q9p_.T) (kx : Nat → St → Option (List UInt8)) : Option (List UInt8) := z7l_ k n x.1.2.2.1 x.2.1.1 x.2.1.2.1 (fun (q_7 : List Int) => kx 2 (q9q_.fill (((), ()), (q_7, ()), ())))
def q9s_ (k : Nat) : Oracles (List UInt8) := ⟨fun n => bif Nat.beq n 5 then some (fun σ kx => q9m_.get σ fun x => q9o_ k k x kx) else bif Nat.beq n 15 then some (fun σ kx => q9p_.get σ fun x => q9r_ k k x kx) else none, fun _ => none⟩
def q9t_ (k : Nat) : FE := ⟨(.int .i64), 1, .str, fun x => zg5_ k x⟩
theorem q9u_ (k : Nat) : zd_ (z3_ ti [] (lk []) z7_ z8_) (q9s_ k) (rdC (z3_ ti [] (lk []) z7_ z8_) [.tmp 2] .str) ((zc_ (z2_ Tryz.f21)).getD 0 .skip) (fun σ kx => q9m_.get σ fun x => q9o_ k k x kx) := by
  refine ⟨q9m_, [(0, q9n_)], fun n x kx => q9o_ k n x kx, k, by kernel_rfl, by kernel_rfl, fun x kx => by kernel_rfl, ?_, fun σ kx => rfl⟩
  rintro n ⟨⟨n0, ⟨⟩, m4, ⟨⟩⟩, ⟨q_1, ⟨⟩⟩, ⟨⟩⟩ kx
  kernel_rfl
theorem q9v_ (k : Nat) : zd_ (z3_ ti [] (lk []) z7_ z8_) (q9s_ k) (rdC (z3_ ti [] (lk []) z7_ z8_) [.tmp 2] .str) ((zc_ (z2_ Tryz.f21)).getD 1 .skip) (fun σ kx => q9p_.get σ fun x => q9r_ k k x kx) := by
  refine ⟨q9p_, [(2, q9q_)], fun n x kx => q9r_ k n x kx, k, by kernel_rfl, by kernel_rfl, fun x kx => by kernel_rfl, ?_, fun σ kx => rfl⟩
  rintro n ⟨⟨⟨⟩, ⟨⟩, i7, ⟨⟩⟩, ⟨q_4, q_5, ⟨⟩⟩, ⟨⟩⟩ kx
  kernel_rfl
theorem q9w_ (k : Nat) : FnOK Tryz.prog 21 (q9t_ k) := by
  refine za_ (tab := []) (l := []) z4_ z6_ mix (List.forall_mem_nil _) (List.forall_mem_nil _) ⟨⟨Tryz.f21, (z2_ Tryz.f21), [.tmp 2], (q9s_ k), by kernel_rfl, by kernel_rfl, by kernel_rfl, by kernel_rfl, rfl, by decide, ⟨by kernel_rfl, ?_, ?_⟩, ?_⟩⟩
  · refine zi_ (n := 2) (by kernel_rfl) fun i hi => ?_
    match i, hi with
    | 0, _ => exact ze_ (by kernel_rfl) (q9u_ k)
    | 1, _ => exact ze_ (by kernel_rfl) (q9v_ k)
    | n + 2, hi => omega
  · exact z5_ (by kernel_rfl)
  · rintro n0
    kernel_rfl
def z7m_ (k : Nat) : Nat → Int → (List (List UInt8)) → (List Int) → (List (List UInt8)) → ((List (List UInt8)) → Option (List (List UInt8) × Int)) → Option (List (List UInt8) × Int)
  | 0, _, _, _, _, _ => none
  | n + 1, i7, q_2, q_3, q_4, e_0 => (if (decide (i7 < (List.length q_2 : Int))) = true then (if 0 ≤ i7 ∧ i7.toNat < List.length q_2 then (q_2[i7.toNat]?).bind fun y_5 => (if y_5.length + [32].length ≤ 9223372036854775807 then (if 0 ≤ i7 ∧ i7.toNat < List.length q_3 then (q_3[i7.toNat]?).bind fun y_6 => (zg5_ k y_6).bind fun r_7 => (if (y_5 ++ [32]).length + r_7.length ≤ 9223372036854775807 then (if (q_4.length + [((y_5 ++ [32]) ++ r_7)].length) * 16 ≤ LIM then z7m_ k n (z0_ (i7 + 1)) q_2 q_3 (q_4 ++ [((y_5 ++ [32]) ++ r_7)]) e_0 else none) else none) else none) else none) else none) else e_0 q_4)
def zfc_ (k : Nat) (d0 : (List (List Int) × Int × List Int × List (Int × Int × Int × List Int)) × List Int × (Int × List (Int × Int × Int)) × List Int × (Int × Int × Int × List Int) × (List (List Int × List (List Int))) × (List (List Int) × List Int) × List (List UInt8 × List (List UInt8) × Int × Int)) : Option (List (List UInt8) × Int) := (zg4_ k d0).bind fun r_1 => (if (!r_1) = true then some ([], 1) else z7m_ k k 0 [[115, 105, 109, 112, 108, 105, 99, 101, 115], [114, 101, 97, 100, 105, 110, 103, 115], [110, 111, 100, 101, 115], [99, 101, 108, 108, 115], [116, 97, 98, 108, 101, 115], [116, 105, 109, 101, 115], [105, 116, 101, 109, 115]] [(List.length d0.1.1 : Int), (List.length d0.2.1 : Int), d0.2.2.1.1, (List.length d0.2.2.2.2.1.2.2.2 : Int), (List.length d0.2.2.2.2.2.1 : Int), (List.length d0.2.2.2.2.2.2.1.2 : Int), (List.length d0.2.2.2.2.2.2.2 : Int)] [] (fun q_8 => some (q_8, 0)))
def q9x_ : Head := ⟨[(4, (.ref 64000000 [])), (5, (.ref 64000001 [])), (6, (.ref 64000002 [])), (7, (.val (.int .i64)))], [(64000000, 9, .str, false), (64000001, 3, (.int .i64), false), (64000002, 9, .str, false)], []⟩
def q9y_ : Head := ⟨[(6, (.ref 64000000 []))], [(64000000, 9, .str, false)], []⟩
def q9z_ (k n : Nat) (x : q9x_.T) (kx : Nat → St → Option (List (List UInt8) × Int)) : Option (List (List UInt8) × Int) := z7m_ k n x.1.2.2.2.1 x.2.1.1 x.2.1.2.1 x.2.1.2.2.1 (fun (q_8 : List (List UInt8)) => kx 0 (q9y_.fill (((), ()), (q_8, ()), ())))
def qa0_ (k : Nat) : Oracles (List (List UInt8) × Int) := ⟨fun n => bif Nat.beq n 7 then some (fun σ kx => q9x_.get σ fun x => q9z_ k k x kx) else none, fun _ => none⟩
def qa1_ (k : Nat) : FE := ⟨(.st (.pr (.st (.pr (.st (.sl 25 (.sl 2 (.int .i64)))) (.pr (.int .i64) (.pr (.sl 2 (.int .i64)) (.sl 51 (.st (.pr (.int .i64) (.pr (.int .i64) (.pr (.int .i64) (.sl 2 (.int .i64))))))))))) (.pr (.sl 2 (.int .i64)) (.pr (.st (.pr (.int .i64) (.sl 157 (.st (.pr (.int .i64) (.pr (.int .i64) (.int .i64))))))) (.pr (.sl 2 (.int .i64)) (.pr (.st (.pr (.int .i64) (.pr (.int .i64) (.pr (.int .i64) (.sl 2 (.int .i64)))))) (.pr (.sl 87 (.st (.pr (.sl 2 (.int .i64)) (.sl 25 (.sl 2 (.int .i64)))))) (.pr (.st (.pr (.st (.sl 25 (.sl 2 (.int .i64)))) (.sl 2 (.int .i64)))) (.sl 90 (.st (.pr .str (.pr (.sl 9 .str) (.pr (.int .i64) (.int .i64)))))))))))))), 2, (.pr (.sl 9 .str) (.int .i64)), fun x => zfc_ k x⟩
theorem qa2_ (k : Nat) : zd_ (z3_ ti [(20, q9k_ k), (21, q9t_ k)] (lk []) z7_ z8_) (qa0_ k) (rdC (z3_ ti [(20, q9k_ k), (21, q9t_ k)] (lk []) z7_ z8_) [.tmp 2, .tmp 3] (.pr (.sl 9 .str) (.int .i64))) ((zc_ (z2_ Tryz.f5)).getD 0 .skip) (fun σ kx => q9x_.get σ fun x => q9z_ k k x kx) := by
  refine ⟨q9x_, [(0, q9y_)], fun n x kx => q9z_ k n x kx, k, by kernel_rfl, by kernel_rfl, fun x kx => by kernel_rfl, ?_, fun σ kx => rfl⟩
  rintro n ⟨⟨⟨⟩, ⟨⟩, ⟨⟩, i7, ⟨⟩⟩, ⟨q_2, q_3, q_4, ⟨⟩⟩, ⟨⟩⟩ kx
  kernel_rfl
theorem qa3_ (k : Nat) : FnOK Tryz.prog 5 (qa1_ k) := by
  refine za_ (tab := [(20, q9k_ k), (21, q9t_ k)]) (l := []) z4_ z6_ mix (List.forall_mem_cons.2 ⟨q9l_ k, (List.forall_mem_cons.2 ⟨q9w_ k, (List.forall_mem_nil _)⟩)⟩) (List.forall_mem_nil _) ⟨⟨Tryz.f5, (z2_ Tryz.f5), [.tmp 2, .tmp 3], (qa0_ k), by kernel_rfl, by kernel_rfl, by kernel_rfl, by kernel_rfl, rfl, by decide, ⟨by kernel_rfl, ?_, ?_⟩, ?_⟩⟩
  · refine zi_ (n := 1) (by kernel_rfl) fun i hi => ?_
    match i, hi with
    | 0, _ => exact ze_ (by kernel_rfl) (qa2_ k)
    | n + 1, hi => omega
  · exact z5_ (by kernel_rfl)
  · rintro d0
    kernel_rfl
def za2_ (k : Nat) : Nat → (List Int) → Int → (Option Bool) → Option Bool
  | 0, _, _, _ => none
  | n + 1, list0, k3, e_0 => (if (decide (k3 < (List.length list0 : Int))) = true then (if 0 ≤ (z0_ (k3 - 1)) then (list0[(z0_ (k3 - 1)).toNat]?).bind fun y_1 => (if 0 ≤ k3 then (list0[k3.toNat]?).bind fun y_2 => (if (decide (y_2 ≤ y_1)) = true then some false else za2_ k n list0 (z0_ (k3 + 1)) e_0) else none) else none) else e_0)
def zcf_ (k : Nat) (list0 : List Int) : Option Bool := za2_ k k list0 1 (some true)
def qa4_ : Head := ⟨[(0, (.val (.sl 2 (.int .i64)))), (3, (.val (.int .i64)))], [], []⟩
def qa5_ : Head := ⟨[], [], []⟩
def qa6_ (k n : Nat) (x : qa4_.T) (kx : Nat → St → Option Bool) : Option Bool := za2_ k n x.1.1 x.1.2.1 (kx 0 (qa5_.fill ((), (), ())))
def qa7_ (k : Nat) : Oracles Bool := ⟨fun n => bif Nat.beq n 2 then some (fun σ kx => qa4_.get σ fun x => qa6_ k k x kx) else none, fun _ => none⟩
def qa8_ (k : Nat) : FE := ⟨(.sl 2 (.int .i64)), 1, .bool, fun x => zcf_ k x⟩
theorem qa9_ (k : Nat) : zd_ (z3_ ti [] (lk []) z7_ z8_) (qa7_ k) (rdC (z3_ ti [] (lk []) z7_ z8_) [.tmp 2] .bool) ((zc_ (z2_ Tryz.f157)).getD 0 .skip) (fun σ kx => qa4_.get σ fun x => qa6_ k k x kx) := by
  refine ⟨qa4_, [(0, qa5_)], fun n x kx => qa6_ k n x kx, k, by kernel_rfl, by kernel_rfl, fun x kx => by kernel_rfl, ?_, fun σ kx => rfl⟩
  rintro n ⟨⟨list0, k3, ⟨⟩⟩, ⟨⟩, ⟨⟩⟩ kx
  kernel_rfl
theorem qaa_ (k : Nat) : FnOK Tryz.prog 157 (qa8_ k) := by
  refine za_ (tab := []) (l := []) z4_ z6_ mix (List.forall_mem_nil _) (List.forall_mem_nil _) ⟨⟨Tryz.f157, (z2_ Tryz.f157), [.tmp 2], (qa7_ k), by kernel_rfl, by kernel_rfl, by kernel_rfl, by kernel_rfl, rfl, by decide, ⟨by kernel_rfl, ?_, ?_⟩, ?_⟩⟩
  · refine zi_ (n := 1) (by kernel_rfl) fun i hi => ?_
    match i, hi with
    | 0, _ => exact ze_ (by kernel_rfl) (qa9_ k)
    | n + 1, hi => omega
  · exact z5_ (by kernel_rfl)
  · rintro list0
    kernel_rfl
def z32_ (n0 : Int) (low1 : Int) (high2 : Int) : Option Bool := (if (decide (low1 ≤ n0)) = true then some (decide (n0 ≤ high2)) else some false)
def qab_ : FE := ⟨(.pr (.int .i64) (.pr (.int .i64) (.int .i64))), 1, .bool, fun x => z32_ x.1 x.2.1 x.2.2⟩
theorem qac_ : FnOK Tryz.prog 112 (qab_) := by
  refine za_ (tab := []) (l := []) z4_ z6_ mix (List.forall_mem_nil _) (List.forall_mem_nil _) ⟨⟨Tryz.f112, (z2_ Tryz.f112), [.tmp 6], (LOn Bool), by kernel_rfl, by kernel_rfl, by kernel_rfl, by kernel_rfl, rfl, by decide, ⟨by kernel_rfl, ?_, ?_⟩, ?_⟩⟩
  · exact zf_ (by kernel_rfl)
  · exact z5_ (by kernel_rfl)
  · rintro ⟨n0, low1, high2⟩
    kernel_rfl
def zjc_ (v0 : Int) : Option Bool := (z32_ v0 0 9).bind fun r_1 => some r_1
def qad_ : FE := ⟨(.int .i64), 1, .bool, fun x => zjc_ x⟩
theorem qae_ : FnOK Tryz.prog 176 (qad_) := by
  refine za_ (tab := [(112, qab_)]) (l := []) z4_ z6_ mix (List.forall_mem_cons.2 ⟨qac_, (List.forall_mem_nil _)⟩) (List.forall_mem_nil _) ⟨⟨Tryz.f176, (z2_ Tryz.f176), [.tmp 2], (LOn Bool), by kernel_rfl, by kernel_rfl, by kernel_rfl, by kernel_rfl, rfl, by decide, ⟨by kernel_rfl, ?_, ?_⟩, ?_⟩⟩
  · exact zf_ (by kernel_rfl)
  · exact z5_ (by kernel_rfl)
  · rintro v0
    kernel_rfl
def zjd_ (v0 : Int) : Option Bool := (zjc_ v0).bind fun r_1 => some (!r_1)
def qaf_ : FE := ⟨(.int .i64), 1, .bool, fun x => zjd_ x⟩
theorem qag_ : FnOK Tryz.prog 175 (qaf_) := by
  refine za_ (tab := [(176, qad_)]) (l := []) z4_ z6_ mix (List.forall_mem_cons.2 ⟨qae_, (List.forall_mem_nil _)⟩) (List.forall_mem_nil _) ⟨⟨Tryz.f175, (z2_ Tryz.f175), [.tmp 2], (LOn Bool), by kernel_rfl, by kernel_rfl, by kernel_rfl, by kernel_rfl, rfl, by decide, ⟨by kernel_rfl, ?_, ?_⟩, ?_⟩⟩
  · exact zf_ (by kernel_rfl)
  · exact z5_ (by kernel_rfl)
  · rintro v0
    kernel_rfl
def za3_ (k : Nat) : Nat → (List Int) → Unit → Int → Int → (Option Int) → Option Int
  | 0, _, _, _, _, _ => none
  | n + 1, s0, f1, x7, x8, e_0 => (if (decide (x8 < x7)) = true then (if 0 ≤ x8 then (s0[x8.toNat]?).bind fun y_1 => (zjd_ y_1).bind fun r_2 => (if r_2 = true then some x8 else za3_ k n s0 f1 x7 (z0_ (x8 + 1)) e_0) else none) else e_0)
def zje_ (k : Nat) (s0 : List Int) (f1 : Unit) : Option Int := za3_ k k s0 f1 (List.length s0 : Int) 0 (some (-1))
def qah_ : Head := ⟨[(0, (.val (.sl 2 (.int .i64)))), (1, (.val (.fn 175 .un))), (7, (.val (.int .i64))), (8, (.val (.int .i64)))], [], []⟩
def qai_ : Head := ⟨[], [], []⟩
def qaj_ (k n : Nat) (x : qah_.T) (kx : Nat → St → Option Int) : Option Int := za3_ k n x.1.1 x.1.2.1 x.1.2.2.1 x.1.2.2.2.1 (kx 0 (qai_.fill ((), (), ())))
def qak_ (k : Nat) : Oracles Int := ⟨fun n => bif Nat.beq n 2 then some (fun σ kx => qah_.get σ fun x => qaj_ k k x kx) else none, fun _ => none⟩
def qal_ (k : Nat) : FE := ⟨(.pr (.sl 2 (.int .i64)) (.fn 175 .un)), 1, (.int .i64), fun x => zje_ k x.1 x.2⟩
theorem qam_ (k : Nat) : zd_ (z3_ ti [(175, qaf_)] (lk []) z7_ z8_) (qak_ k) (rdC (z3_ ti [(175, qaf_)] (lk []) z7_ z8_) [.tmp 4] (.int .i64)) ((zc_ (z2_ Tryz.f159)).getD 0 .skip) (fun σ kx => qah_.get σ fun x => qaj_ k k x kx) := by
  refine ⟨qah_, [(0, qai_)], fun n x kx => qaj_ k n x kx, k, by kernel_rfl, by kernel_rfl, fun x kx => by kernel_rfl, ?_, fun σ kx => rfl⟩
  rintro n ⟨⟨s0, f1, x7, x8, ⟨⟩⟩, ⟨⟩, ⟨⟩⟩ kx
  kernel_rfl
theorem qan_ (k : Nat) : FnOK Tryz.prog 159 (qal_ k) := by
  refine za_ (tab := [(175, qaf_)]) (l := []) z4_ z6_ mix (List.forall_mem_cons.2 ⟨qag_, (List.forall_mem_nil _)⟩) (List.forall_mem_nil _) ⟨⟨Tryz.f159, (z2_ Tryz.f159), [.tmp 4], (qak_ k), by kernel_rfl, by kernel_rfl, by kernel_rfl, by kernel_rfl, rfl, by decide, ⟨by kernel_rfl, ?_, ?_⟩, ?_⟩⟩
  · refine zi_ (n := 1) (by kernel_rfl) fun i hi => ?_
    match i, hi with
    | 0, _ => exact ze_ (by kernel_rfl) (qam_ k)
    | n + 1, hi => omega
  · exact z5_ (by kernel_rfl)
  · rintro ⟨s0, f1⟩
    kernel_rfl
def zg6_ (k : Nat) (s0 : List Int) (f1 : Unit) : Option Bool := (zje_ k s0 f1).bind fun r_1 => some (decide (0 ≤ r_1))
def qao_ (k : Nat) : FE := ⟨(.pr (.sl 2 (.int .i64)) (.fn 175 .un)), 1, .bool, fun x => zg6_ k x.1 x.2⟩
theorem qap_ (k : Nat) : FnOK Tryz.prog 119 (qao_ k) := by
  refine za_ (tab := [(159, qal_ k)]) (l := []) z4_ z6_ mix (List.forall_mem_cons.2 ⟨qan_ k, (List.forall_mem_nil _)⟩) (List.forall_mem_nil _) ⟨⟨Tryz.f119, (z2_ Tryz.f119), [.tmp 4], (LOn Bool), by kernel_rfl, by kernel_rfl, by kernel_rfl, by kernel_rfl, rfl, by decide, ⟨by kernel_rfl, ?_, ?_⟩, ?_⟩⟩
  · exact zf_ (by kernel_rfl)
  · exact z5_ (by kernel_rfl)
  · rintro ⟨s0, f1⟩
    kernel_rfl
def zg7_ (k : Nat) (s0 : List Int) : Option Bool := (if (decide (1 ≤ (List.length s0 : Int))) = true then (if (decide ((List.length s0 : Int) ≤ 4)) = true then (zcf_ k s0).bind fun r_1 => (if r_1 = true then (zg6_ k s0 ()).bind fun r_2 => some (!r_2) else some false) else some false) else some false)
def qaq_ (k : Nat) : FE := ⟨(.sl 2 (.int .i64)), 1, .bool, fun x => zg7_ k x⟩
theorem qar_ (k : Nat) : FnOK Tryz.prog 144 (qaq_ k) := by
  refine za_ (tab := [(157, qa8_ k), (119, qao_ k)]) (l := []) z4_ z6_ mix (List.forall_mem_cons.2 ⟨qaa_ k, (List.forall_mem_cons.2 ⟨qap_ k, (List.forall_mem_nil _)⟩)⟩) (List.forall_mem_nil _) ⟨⟨Tryz.f144, (z2_ Tryz.f144), [.tmp 2], (LOn Bool), by kernel_rfl, by kernel_rfl, by kernel_rfl, by kernel_rfl, rfl, by decide, ⟨by kernel_rfl, ?_, ?_⟩, ?_⟩⟩
  · exact zf_ (by kernel_rfl)
  · exact z5_ (by kernel_rfl)
  · rintro s0
    kernel_rfl
def zg8_ (x0 : Int) : Option Bool := some (!(decide (x0 = x0)))
def qas_ : FE := ⟨(.int .i64), 1, .bool, fun x => zg8_ x⟩
theorem qat_ : FnOK Tryz.prog 187 (qas_) := by
  refine za_ (tab := []) (l := []) z4_ z6_ mix (List.forall_mem_nil _) (List.forall_mem_nil _) ⟨⟨Tryz.f187, (z2_ Tryz.f187), [.tmp 2], (LOn Bool), by kernel_rfl, by kernel_rfl, by kernel_rfl, by kernel_rfl, rfl, by decide, ⟨by kernel_rfl, ?_, ?_⟩, ?_⟩⟩
  · exact zf_ (by kernel_rfl)
  · exact z5_ (by kernel_rfl)
  · rintro x0
    kernel_rfl
def zg9_ (x0 : Int) (y1 : Int) : Option Int := (zg8_ x0).bind fun r_1 => (zg8_ y1).bind fun r_2 => (if r_1 = true then (if r_2 = true then some 0 else some (-1)) else (if r_2 = true then some 1 else (if (decide (x0 < y1)) = true then some (-1) else (if (decide (y1 < x0)) = true then some 1 else some 0))))
def qau_ : FE := ⟨(.pr (.int .i64) (.int .i64)), 1, (.int .i64), fun x => zg9_ x.1 x.2⟩
theorem qav_ : FnOK Tryz.prog 177 (qau_) := by
  refine za_ (tab := [(187, qas_)]) (l := []) z4_ z6_ mix (List.forall_mem_cons.2 ⟨qat_, (List.forall_mem_nil _)⟩) (List.forall_mem_nil _) ⟨⟨Tryz.f177, (z2_ Tryz.f177), [.tmp 4], (LOn Int), by kernel_rfl, by kernel_rfl, by kernel_rfl, by kernel_rfl, rfl, by decide, ⟨by kernel_rfl, ?_, ?_⟩, ?_⟩⟩
  · exact zf_ (by kernel_rfl)
  · exact z5_ (by kernel_rfl)
  · rintro ⟨x0, y1⟩
    kernel_rfl
def zga_ (x0 : Int) : Option Bool := some (!(decide (x0 = x0)))
def qaw_ : FE := ⟨(.int .i64), 1, .bool, fun x => zga_ x⟩
theorem qax_ : FnOK Tryz.prog 181 (qaw_) := by
  refine za_ (tab := []) (l := []) z4_ z6_ mix (List.forall_mem_nil _) (List.forall_mem_nil _) ⟨⟨Tryz.f181, (z2_ Tryz.f181), [.tmp 2], (LOn Bool), by kernel_rfl, by kernel_rfl, by kernel_rfl, by kernel_rfl, rfl, by decide, ⟨by kernel_rfl, ?_, ?_⟩, ?_⟩⟩
  · exact zf_ (by kernel_rfl)
  · exact z5_ (by kernel_rfl)
  · rintro x0
    kernel_rfl
def za4_ (x0 : Int) (y1 : Int) : Option Int := (zga_ x0).bind fun r_1 => (zga_ y1).bind fun r_2 => (if r_1 = true then (if r_2 = true then some 0 else some (-1)) else (if r_2 = true then some 1 else (if (decide (x0 < y1)) = true then some (-1) else (if (decide (y1 < x0)) = true then some 1 else some 0))))
def qay_ : FE := ⟨(.pr (.int .i64) (.int .i64)), 1, (.int .i64), fun x => za4_ x.1 x.2⟩
theorem qaz_ : FnOK Tryz.prog 153 (qay_) := by
  refine za_ (tab := [(181, qaw_)]) (l := []) z4_ z6_ mix (List.forall_mem_cons.2 ⟨qax_, (List.forall_mem_nil _)⟩) (List.forall_mem_nil _) ⟨⟨Tryz.f153, (z2_ Tryz.f153), [.tmp 4], (LOn Int), by kernel_rfl, by kernel_rfl, by kernel_rfl, by kernel_rfl, rfl, by decide, ⟨by kernel_rfl, ?_, ?_⟩, ?_⟩⟩
  · exact zf_ (by kernel_rfl)
  · exact z5_ (by kernel_rfl)
  · rintro ⟨x0, y1⟩
    kernel_rfl
def za5_ (k : Nat) : Nat → (List Int) → (List Int) → (List Int) → Int → Int → ((List Int) → (List Int) → Option Int) → Option Int
  | 0, _, _, _, _, _, _ => none
  | n + 1, s10, s21, x9, x10, x11, e_0 => (if (decide (x11 < x10)) = true then (if 0 ≤ x11 then (x9[x11.toNat]?).bind fun y_1 => (if (decide ((List.length s21 : Int) ≤ x11)) = true then some 1 else (if 0 ≤ x11 then (s21[x11.toNat]?).bind fun y_2 => (za4_ y_1 y_2).bind fun r_3 => (if (!(decide (r_3 = 0))) = true then some r_3 else za5_ k n s10 s21 x9 x10 (z0_ (x11 + 1)) e_0) else none)) else none) else e_0 s10 s21)
def zcg_ (k : Nat) (s10 : List Int) (s21 : List Int) : Option Int := za5_ k k s10 s21 s10 (List.length s10 : Int) 0 (fun s_4 s_5 => (if (decide ((List.length s_4 : Int) < (List.length s_5 : Int))) = true then some (-1) else some 0))
def qb0_ : Head := ⟨[(0, (.val (.sl 2 (.int .i64)))), (1, (.val (.sl 2 (.int .i64)))), (9, (.val (.sl 2 (.int .i64)))), (10, (.val (.int .i64))), (11, (.val (.int .i64)))], [], []⟩
def qb1_ : Head := ⟨[(0, (.val (.sl 2 (.int .i64)))), (1, (.val (.sl 2 (.int .i64))))], [], []⟩
def qb2_ (k n : Nat) (x : qb0_.T) (kx : Nat → St → Option Int) : Option Int := za5_ k n x.1.1 x.1.2.1 x.1.2.2.1 x.1.2.2.2.1 x.1.2.2.2.2.1 (fun (s10 : List Int) (s21 : List Int) => kx 0 (qb1_.fill ((s10, s21, ()), (), ())))
def qb3_ (k : Nat) : Oracles Int := ⟨fun n => bif Nat.beq n 2 then some (fun σ kx => qb0_.get σ fun x => qb2_ k k x kx) else none, fun _ => none⟩
def qb4_ (k : Nat) : FE := ⟨(.pr (.sl 2 (.int .i64)) (.sl 2 (.int .i64))), 1, (.int .i64), fun x => zcg_ k x.1 x.2⟩
theorem qb5_ (k : Nat) : zd_ (z3_ ti [(153, qay_)] (lk []) z7_ z8_) (qb3_ k) (rdC (z3_ ti [(153, qay_)] (lk []) z7_ z8_) [.tmp 4] (.int .i64)) ((zc_ (z2_ Tryz.f158)).getD 0 .skip) (fun σ kx => qb0_.get σ fun x => qb2_ k k x kx) := by
  refine ⟨qb0_, [(0, qb1_)], fun n x kx => qb2_ k n x kx, k, by kernel_rfl, by kernel_rfl, fun x kx => by kernel_rfl, ?_, fun σ kx => rfl⟩
  rintro n ⟨⟨s10, s21, x9, x10, x11, ⟨⟩⟩, ⟨⟩, ⟨⟩⟩ kx
  kernel_rfl
theorem qb6_ (k : Nat) : FnOK Tryz.prog 158 (qb4_ k) := by
  refine za_ (tab := [(153, qay_)]) (l := []) z4_ z6_ mix (List.forall_mem_cons.2 ⟨qaz_, (List.forall_mem_nil _)⟩) (List.forall_mem_nil _) ⟨⟨Tryz.f158, (z2_ Tryz.f158), [.tmp 4], (qb3_ k), by kernel_rfl, by kernel_rfl, by kernel_rfl, by kernel_rfl, rfl, by decide, ⟨by kernel_rfl, ?_, ?_⟩, ?_⟩⟩
  · refine zi_ (n := 1) (by kernel_rfl) fun i hi => ?_
    match i, hi with
    | 0, _ => exact ze_ (by kernel_rfl) (qb5_ k)
    | n + 1, hi => omega
  · exact z5_ (by kernel_rfl)
  · rintro ⟨s10, s21⟩
    kernel_rfl
def z7n_ (k : Nat) : Nat → Int → (List Int) → Int → Int → (Int → Option Int) → Option Int
  | 0, _, _, _, _, _ => none
  | n + 1, zero3, x6, x7, x8, e_0 => (if (decide (x8 < x7)) = true then (if 0 ≤ x8 then (x6[x8.toNat]?).bind fun y_1 => (if (!(decide (y_1 = zero3))) = true then some y_1 else z7n_ k n zero3 x6 x7 (z0_ (x8 + 1)) e_0) else none) else e_0 zero3)
def zgb_ (k : Nat) (vals0 : List Int) : Option Int := z7n_ k k 0 vals0 (List.length vals0 : Int) 0 (fun zero_2 => some zero_2)
def qb7_ : Head := ⟨[(3, (.val (.int .i64))), (6, (.val (.sl 3 (.int .i64)))), (7, (.val (.int .i64))), (8, (.val (.int .i64)))], [], []⟩
def qb8_ : Head := ⟨[(3, (.val (.int .i64)))], [], []⟩
def qb9_ (k n : Nat) (x : qb7_.T) (kx : Nat → St → Option Int) : Option Int := z7n_ k n x.1.1 x.1.2.1 x.1.2.2.1 x.1.2.2.2.1 (fun (zero3 : Int) => kx 0 (qb8_.fill ((zero3, ()), (), ())))
def qba_ (k : Nat) : Oracles Int := ⟨fun n => bif Nat.beq n 3 then some (fun σ kx => qb7_.get σ fun x => qb9_ k k x kx) else none, fun _ => none⟩
def qbb_ (k : Nat) : FE := ⟨(.sl 3 (.int .i64)), 1, (.int .i64), fun x => zgb_ k x⟩
theorem qbc_ (k : Nat) : zd_ (z3_ ti [] (lk []) z7_ z8_) (qba_ k) (rdC (z3_ ti [] (lk []) z7_ z8_) [.tmp 2] (.int .i64)) ((zc_ (z2_ Tryz.f152)).getD 0 .skip) (fun σ kx => qb7_.get σ fun x => qb9_ k k x kx) := by
  refine ⟨qb7_, [(0, qb8_)], fun n x kx => qb9_ k n x kx, k, by kernel_rfl, by kernel_rfl, fun x kx => by kernel_rfl, ?_, fun σ kx => rfl⟩
  rintro n ⟨⟨zero3, x6, x7, x8, ⟨⟩⟩, ⟨⟩, ⟨⟩⟩ kx
  kernel_rfl
theorem qbd_ (k : Nat) : FnOK Tryz.prog 152 (qbb_ k) := by
  refine za_ (tab := []) (l := []) z4_ z6_ mix (List.forall_mem_nil _) (List.forall_mem_nil _) ⟨⟨Tryz.f152, (z2_ Tryz.f152), [.tmp 2], (qba_ k), by kernel_rfl, by kernel_rfl, by kernel_rfl, by kernel_rfl, rfl, by decide, ⟨by kernel_rfl, ?_, ?_⟩, ?_⟩⟩
  · refine zi_ (n := 1) (by kernel_rfl) fun i hi => ?_
    match i, hi with
    | 0, _ => exact ze_ (by kernel_rfl) (qbc_ k)
    | n + 1, hi => omega
  · exact z5_ (by kernel_rfl)
  · rintro vals0
    kernel_rfl
def z7o_ (k : Nat) (a0 : List Int) (b1 : List Int) : Option Int := (zg9_ (List.length a0 : Int) (List.length b1 : Int)).bind fun r_1 => (zcg_ k a0 b1).bind fun r_2 => (zgb_ k [r_1, r_2]).bind fun r_3 => some r_3
def qbe_ (k : Nat) : FE := ⟨(.pr (.sl 2 (.int .i64)) (.sl 2 (.int .i64))), 1, (.int .i64), fun x => z7o_ k x.1 x.2⟩
theorem qbf_ (k : Nat) : FnOK Tryz.prog 145 (qbe_ k) := by
  refine za_ (tab := [(177, qau_), (158, qb4_ k), (152, qbb_ k)]) (l := []) z4_ z6_ mix (List.forall_mem_cons.2 ⟨qav_, (List.forall_mem_cons.2 ⟨qb6_ k, (List.forall_mem_cons.2 ⟨qbd_ k, (List.forall_mem_nil _)⟩)⟩)⟩) (List.forall_mem_nil _) ⟨⟨Tryz.f145, (z2_ Tryz.f145), [.tmp 4], (LOn Int), by kernel_rfl, by kernel_rfl, by kernel_rfl, by kernel_rfl, rfl, by decide, ⟨by kernel_rfl, ?_, ?_⟩, ?_⟩⟩
  · exact zf_ (by kernel_rfl)
  · exact z5_ (by kernel_rfl)
  · rintro ⟨a0, b1⟩
    kernel_rfl
end
end Go.Proofs.YtckbclbmkklaoaaGreatDoor.Ev
