/- Functions of the program, as plain ones. No conditions. -/
import Derived.Test.YtibiofjkgdidmaaGreatDoorG4
import Derived.KernelRfl
set_option linter.unusedVariables false
set_option maxRecDepth 100000
namespace Go.Proofs.YtibiofjkgdidmaaGreatDoor.Ev
open Go.RowKit
noncomputable section
def z7a_ (k : Nat) : Nat → (List Int) → (List UInt8) → Int → ((List UInt8) → Option (List UInt8)) → Option (List UInt8)
  | 0, _, _, _, _ => none
  | n + 1, list0, out3, i4, e_0 => (if (decide (i4 < (List.length list0 : Int))) = true then (if (decide (0 < i4)) = true then (if out3.length + [44].length ≤ 9223372036854775807 then (if 0 ≤ i4 then (list0[i4.toNat]?).bind fun y_1 => (zc3_ k y_1).bind fun r_2 => (if (out3 ++ [44]).length + r_2.length ≤ 9223372036854775807 then z7a_ k n list0 ((out3 ++ [44]) ++ r_2) (z0_ (i4 + 1)) e_0 else none) else none) else none) else (if 0 ≤ i4 then (list0[i4.toNat]?).bind fun y_3 => (zc3_ k y_3).bind fun r_4 => (if out3.length + r_4.length ≤ 9223372036854775807 then z7a_ k n list0 (out3 ++ r_4) (z0_ (i4 + 1)) e_0 else none) else none)) else e_0 out3)
def zc4_ (k : Nat) (list0 : List Int) : Option (List UInt8) := (if (decide ((List.length list0 : Int) = 0)) = true then some [45] else z7a_ k k list0 [] 0 (fun out_5 => some out_5))
def q8t_ : Head := ⟨[(0, (.val (.sl 2 (.int .i64)))), (3, (.val .str)), (4, (.val (.int .i64)))], [], []⟩
def q8u_ : Head := ⟨[(3, (.val .str))], [], []⟩
def q8v_ (k n : Nat) (x : q8t_.T) (kx : Nat → St → Option (List UInt8)) : Option (List UInt8) := z7a_ k n x.1.1 x.1.2.1 x.1.2.2.1 (fun (out3 : List UInt8) => kx 0 (q8u_.fill ((out3, ()), (), ())))
def q8w_ (k : Nat) : Oracles (List UInt8) := ⟨fun n => bif Nat.beq n 5 then some (fun σ kx => q8t_.get σ fun x => q8v_ k k x kx) else none, fun _ => none⟩
def q8x_ (k : Nat) : FE := ⟨(.sl 2 (.int .i64)), 1, .str, fun x => zc4_ k x⟩
theorem q8y_ (k : Nat) : zc_ (z3_ ti [(67, q8p_ k)] (lk []) z4_ z5_) (q8w_ k) (rdC (z3_ ti [(67, q8p_ k)] (lk []) z4_ z5_) [.tmp 2] .str) ((zb_ (z2_ Tryz.f34)).getD 0 .skip) (fun σ kx => q8t_.get σ fun x => q8v_ k k x kx) := by
  refine ⟨q8t_, [(0, q8u_)], fun n x kx => q8v_ k n x kx, k, by kernel_rfl, by kernel_rfl, fun x kx => by kernel_rfl, ?_, fun σ kx => rfl⟩
  rintro n ⟨⟨list0, out3, i4, ⟨⟩⟩, ⟨⟩, ⟨⟩⟩ kx
  kernel_rfl
theorem q8z_ (k : Nat) : FnOK Tryz.prog 34 (q8x_ k) := by
  refine za_ (tab := [(67, q8p_ k)]) (l := []) z6_ z9_ mix (List.forall_mem_cons.2 ⟨q8s_ k, (List.forall_mem_nil _)⟩) (List.forall_mem_nil _) ⟨⟨Tryz.f34, (z2_ Tryz.f34), [.tmp 2], (q8w_ k), by kernel_rfl, by kernel_rfl, by kernel_rfl, by kernel_rfl, rfl, by decide, ⟨by kernel_rfl, ?_, ?_⟩, ?_⟩⟩
  · refine zf_ (n := 1) (by kernel_rfl) fun i hi => ?_
    match i, hi with
    | 0, _ => exact zd_ (by kernel_rfl) (q8y_ k)
    | n + 1, hi => omega
  · exact z8_ (by kernel_rfl)
  · rintro list0
    kernel_rfl
def z7b_ (k : Nat) : Nat → zT4 → (List UInt8) → Int → (List Int) → ((List UInt8) → Option (List UInt8)) → Option (List UInt8)
  | 0, _, _, _, _, _ => none
  | n + 1, c0, out4, i5, q_2, e_0 => (if (decide (i5 < (List.length q_2 : Int))) = true then (if (decide (0 < i5)) = true then (if out4.length + [47].length ≤ 9223372036854775807 then (if 0 ≤ i5 ∧ i5.toNat < List.length q_2 then (q_2[i5.toNat]?).bind fun y_3 => (if 0 ≤ y_3 then (c0[y_3.toNat]?).bind fun y_4 => (zc4_ k y_4).bind fun r_5 => (if (out4 ++ [47]).length + r_5.length ≤ 9223372036854775807 then z7b_ k n c0 ((out4 ++ [47]) ++ r_5) (z0_ (i5 + 1)) q_2 e_0 else none) else none) else none) else none) else (if 0 ≤ i5 ∧ i5.toNat < List.length q_2 then (q_2[i5.toNat]?).bind fun y_6 => (if 0 ≤ y_6 then (c0[y_6.toNat]?).bind fun y_7 => (zc4_ k y_7).bind fun r_8 => (if out4.length + r_8.length ≤ 9223372036854775807 then z7b_ k n c0 (out4 ++ r_8) (z0_ (i5 + 1)) q_2 e_0 else none) else none) else none)) else e_0 out4)
def zfk_ (k : Nat) (c0 : List (List Int)) : Option (List UInt8) := (zfj_ k c0).bind fun r_1 => z7b_ k k c0 [] 0 r_1 (fun out_9 => (if (decide (out_9 = [])) = true then some [45] else some out_9))
def q90_ : Head := ⟨[(0, (.val (.ptr (.st (.sl 68 (.sl 2 (.int .i64))))))), (3, (.ref 64000000 [])), (4, (.val .str)), (5, (.val (.int .i64)))], [(64000000, 2, (.int .i64), false)], []⟩
def q91_ : Head := ⟨[(4, (.val .str))], [], []⟩
def q92_ (k n : Nat) (x : q90_.T) (kx : Nat → St → Option (List UInt8)) : Option (List UInt8) := z7b_ k n x.1.1 x.1.2.2.1 x.1.2.2.2.1 x.2.1.1 (fun (out4 : List UInt8) => kx 0 (q91_.fill ((out4, ()), (), ())))
def q93_ (k : Nat) : Oracles (List UInt8) := ⟨fun n => bif Nat.beq n 4 then some (fun σ kx => q90_.get σ fun x => q92_ k k x kx) else none, fun _ => none⟩
def q94_ (k : Nat) : FE := ⟨(.ptr (.st (.sl 68 (.sl 2 (.int .i64))))), 1, .str, fun x => zfk_ k x⟩
theorem q95_ (k : Nat) : zc_ (z3_ ti [(33, q8f_ k), (34, q8x_ k)] (lk []) z4_ z5_) (q93_ k) (rdC (z3_ ti [(33, q8f_ k), (34, q8x_ k)] (lk []) z4_ z5_) [.tmp 2] .str) ((zb_ (z2_ Tryz.f16)).getD 0 .skip) (fun σ kx => q90_.get σ fun x => q92_ k k x kx) := by
  refine ⟨q90_, [(0, q91_)], fun n x kx => q92_ k n x kx, k, by kernel_rfl, by kernel_rfl, fun x kx => by kernel_rfl, ?_, fun σ kx => rfl⟩
  rintro n ⟨⟨c0, ⟨⟩, out4, i5, ⟨⟩⟩, ⟨q_2, ⟨⟩⟩, ⟨⟩⟩ kx
  kernel_rfl
theorem q96_ (k : Nat) : FnOK Tryz.prog 16 (q94_ k) := by
  refine za_ (tab := [(33, q8f_ k), (34, q8x_ k)]) (l := []) z6_ z9_ mix (List.forall_mem_cons.2 ⟨q8h_ k, (List.forall_mem_cons.2 ⟨q8z_ k, (List.forall_mem_nil _)⟩)⟩) (List.forall_mem_nil _) ⟨⟨Tryz.f16, (z2_ Tryz.f16), [.tmp 2], (q93_ k), by kernel_rfl, by kernel_rfl, by kernel_rfl, by kernel_rfl, rfl, by decide, ⟨by kernel_rfl, ?_, ?_⟩, ?_⟩⟩
  · refine zf_ (n := 1) (by kernel_rfl) fun i hi => ?_
    match i, hi with
    | 0, _ => exact zd_ (by kernel_rfl) (q95_ k)
    | n + 1, hi => omega
  · exact z8_ (by kernel_rfl)
  · rintro c0
    kernel_rfl
def z9x_ (k : Nat) : Nat → Int → zT3 → (zT1 × List (List UInt8 × List (List Int) × Int × List Int × List (Int × Int × Int × List Int))) → (zT3 → Option (zT3 × Int)) → Option (zT3 × Int)
  | 0, _, _, _, _ => none
  | n + 1, i5, q_2, v_1, e_0 => (if (decide (i5 < (List.length v_1.1 : Int))) = true then (if 0 ≤ i5 then (v_1.1[i5.toNat]?).bind fun y_3 => (if 0 ≤ i5 then (v_1.1[i5.toNat]?).bind fun y_4 => (zfk_ k y_4.2).bind fun r_5 => (if (q_2.length + [([99, 111, 109, 112, 108, 101, 120], (y_3.1, r_5))].length) * 48 ≤ LIM then z9x_ k n (z0_ (i5 + 1)) (q_2 ++ [([99, 111, 109, 112, 108, 101, 120], (y_3.1, r_5))]) v_1 e_0 else none) else none) else none) else e_0 q_2)
def zf1_ (k : Nat) (w0 : zT1 × List (List UInt8 × List (List Int) × Int × List Int × List (Int × Int × Int × List Int))) : Option (zT3 × Int) := (zff_ k w0).bind fun r_1 => (if (!r_1) = true then some ([], 1) else z9x_ k k 0 [] w0 (fun q_6 => some (q_6, 0)))
def q97_ : Head := ⟨[(1, (.bp 1 [] 0)), (4, (.ref 64000000 [])), (5, (.val (.int .i64)))], [(64000000, 52, (.st (.pr .str (.pr .str .str))), false)], [(1, 33, (.val (.st (.pr (.sl 48 (.st (.pr .str (.st (.sl 68 (.sl 2 (.int .i64))))))) (.sl 80 (.st (.pr .str (.st (.pr (.st (.sl 68 (.sl 2 (.int .i64)))) (.pr (.int .i64) (.pr (.sl 2 (.int .i64)) (.sl 147 (.st (.pr (.int .i64) (.pr (.int .i64) (.pr (.int .i64) (.sl 2 (.int .i64))))))))))))))))))]⟩
def q98_ : Head := ⟨[(4, (.ref 64000000 []))], [(64000000, 52, (.st (.pr .str (.pr .str .str))), false)], []⟩
def q99_ (k n : Nat) (x : q97_.T) (kx : Nat → St → Option (zT3 × Int)) : Option (zT3 × Int) := z9x_ k n x.1.2.2.1 x.2.1.1 x.2.2.1 (fun (q_6 : List (List UInt8 × List UInt8 × List UInt8)) => kx 0 (q98_.fill (((), ()), (q_6, ()), ())))
def q9a_ (k : Nat) : Oracles (zT3 × Int) := ⟨fun n => bif Nat.beq n 5 then some (fun σ kx => q97_.get σ fun x => q99_ k k x kx) else none, fun _ => none⟩
def q9b_ (k : Nat) : FE := ⟨(.st (.pr (.sl 48 (.st (.pr .str (.st (.sl 68 (.sl 2 (.int .i64))))))) (.sl 80 (.st (.pr .str (.st (.pr (.st (.sl 68 (.sl 2 (.int .i64)))) (.pr (.int .i64) (.pr (.sl 2 (.int .i64)) (.sl 147 (.st (.pr (.int .i64) (.pr (.int .i64) (.pr (.int .i64) (.sl 2 (.int .i64)))))))))))))))), 2, (.pr (.sl 52 (.st (.pr .str (.pr .str .str)))) (.int .i64)), fun x => zf1_ k x⟩
theorem q9c_ (k : Nat) : zc_ (z3_ ti [(15, q7m_ k), (16, q94_ k)] (lk []) z4_ z5_) (q9a_ k) (rdC (z3_ ti [(15, q7m_ k), (16, q94_ k)] (lk []) z4_ z5_) [.tmp 2, .tmp 3] (.pr (.sl 52 (.st (.pr .str (.pr .str .str)))) (.int .i64))) ((zb_ (z2_ Tryz.f5)).getD 0 .skip) (fun σ kx => q97_.get σ fun x => q99_ k k x kx) := by
  refine ⟨q97_, [(0, q98_)], fun n x kx => q99_ k n x kx, k, by kernel_rfl, by kernel_rfl, fun x kx => by kernel_rfl, ?_, fun σ kx => rfl⟩
  rintro n ⟨⟨⟨⟩, ⟨⟩, i5, ⟨⟩⟩, ⟨q_2, ⟨⟩⟩, ⟨v_1, ⟨⟩⟩⟩ kx
  kernel_rfl
theorem q9d_ (k : Nat) : FnOK Tryz.prog 5 (q9b_ k) := by
  refine za_ (tab := [(15, q7m_ k), (16, q94_ k)]) (l := []) z6_ z9_ mix (List.forall_mem_cons.2 ⟨q7p_ k, (List.forall_mem_cons.2 ⟨q96_ k, (List.forall_mem_nil _)⟩)⟩) (List.forall_mem_nil _) ⟨⟨Tryz.f5, (z2_ Tryz.f5), [.tmp 2, .tmp 3], (q9a_ k), by kernel_rfl, by kernel_rfl, by kernel_rfl, by kernel_rfl, rfl, by decide, ⟨by kernel_rfl, ?_, ?_⟩, ?_⟩⟩
  · refine zf_ (n := 1) (by kernel_rfl) fun i hi => ?_
    match i, hi with
    | 0, _ => exact zd_ (by kernel_rfl) (q9c_ k)
    | n + 1, hi => omega
  · exact z8_ (by kernel_rfl)
  · rintro w0
    kernel_rfl
def z7c_ (k : Nat) : Nat → zT1 → Int → Int → (List (List UInt8)) → (List (List UInt8)) → (zT1 × List (List UInt8 × List (List Int) × Int × List Int × List (Int × Int × Int × List Int))) → ((List (List UInt8)) → (List (List UInt8)) → (zT1 × List (List UInt8 × List (List Int) × Int × List Int × List (Int × Int × Int × List Int))) → Option (List (List UInt8) × List (List UInt8))) → Option (List (List UInt8) × List (List UInt8))
  | 0, _, _, _, _, _, _, _ => none
  | n + 1, x11, x12, x13, q_1, q_2, v_1, e_0 => (if (decide (x13 < x12)) = true then (if 0 ≤ x13 then (x11[x13.toNat]?).bind fun y_3 => (if (q_1.length + [y_3.1].length) * 16 ≤ LIM then z7c_ k n x11 x12 (z0_ (x13 + 1)) (q_1 ++ [y_3.1]) q_2 v_1 e_0 else none) else none) else e_0 q_1 q_2 v_1)
def z9y_ (k : Nat) : Nat → zT0 → Int → Int → (List (List UInt8)) → (List (List UInt8)) → ((List (List UInt8)) → (List (List UInt8)) → Option (List (List UInt8) × List (List UInt8))) → Option (List (List UInt8) × List (List UInt8))
  | 0, _, _, _, _, _, _ => none
  | n + 1, x24, x25, x26, q_7, q_8, e_2 => (if (decide (x26 < x25)) = true then (if 0 ≤ x26 then (x24[x26.toNat]?).bind fun y_9 => (if (q_8.length + [y_9.1].length) * 16 ≤ LIM then z9y_ k n x24 x25 (z0_ (x26 + 1)) q_7 (q_8 ++ [y_9.1]) e_2 else none) else none) else e_2 q_7 q_8)
def zfl_ (k : Nat) (w0 : zT1 × List (List UInt8 × List (List Int) × Int × List Int × List (Int × Int × Int × List Int))) : Option (List (List UInt8) × List (List UInt8)) := z7c_ k k w0.1 (List.length w0.1 : Int) 0 [] [] w0 (fun q_4 q_5 v_6 => z9y_ k k v_6.2 (List.length v_6.2 : Int) 0 q_4 q_5 (fun q_10 q_11 => some (q_10, q_11)))
def q9e_ : Head := ⟨[(1, (.bp 1 [] 0)), (4, (.ref 64000000 [])), (5, (.ref 64000001 [])), (11, (.val (.sl 48 (.st (.pr .str (.st (.sl 68 (.sl 2 (.int .i64))))))))), (12, (.val (.int .i64))), (13, (.val (.int .i64)))], [(64000000, 9, .str, false), (64000001, 9, .str, false)], [(1, 33, (.val (.st (.pr (.sl 48 (.st (.pr .str (.st (.sl 68 (.sl 2 (.int .i64))))))) (.sl 80 (.st (.pr .str (.st (.pr (.st (.sl 68 (.sl 2 (.int .i64)))) (.pr (.int .i64) (.pr (.sl 2 (.int .i64)) (.sl 147 (.st (.pr (.int .i64) (.pr (.int .i64) (.pr (.int .i64) (.sl 2 (.int .i64))))))))))))))))))]⟩
def q9f_ : Head := ⟨[(1, (.bp 1 [] 0)), (4, (.ref 64000000 [])), (5, (.ref 64000001 []))], [(64000000, 9, .str, false), (64000001, 9, .str, false)], [(1, 33, (.val (.st (.pr (.sl 48 (.st (.pr .str (.st (.sl 68 (.sl 2 (.int .i64))))))) (.sl 80 (.st (.pr .str (.st (.pr (.st (.sl 68 (.sl 2 (.int .i64)))) (.pr (.int .i64) (.pr (.sl 2 (.int .i64)) (.sl 147 (.st (.pr (.int .i64) (.pr (.int .i64) (.pr (.int .i64) (.sl 2 (.int .i64))))))))))))))))))]⟩
def q9g_ (k n : Nat) (x : q9e_.T) (kx : Nat → St → Option (List (List UInt8) × List (List UInt8))) : Option (List (List UInt8) × List (List UInt8)) := z7c_ k n x.1.2.2.2.1 x.1.2.2.2.2.1 x.1.2.2.2.2.2.1 x.2.1.1 x.2.1.2.1 x.2.2.1 (fun (q_4 : List (List UInt8)) (q_5 : List (List UInt8)) (v_1 : zT1 × List (List UInt8 × List (List Int) × Int × List Int × List (Int × Int × Int × List Int))) => kx 0 (q9f_.fill (((), (), (), ()), (q_4, q_5, ()), (v_1, ()))))
def q9h_ : Head := ⟨[(4, (.ref 64000000 [])), (5, (.ref 64000001 [])), (24, (.val (.sl 80 (.st (.pr .str (.st (.pr (.st (.sl 68 (.sl 2 (.int .i64)))) (.pr (.int .i64) (.pr (.sl 2 (.int .i64)) (.sl 147 (.st (.pr (.int .i64) (.pr (.int .i64) (.pr (.int .i64) (.sl 2 (.int .i64)))))))))))))))), (25, (.val (.int .i64))), (26, (.val (.int .i64)))], [(64000000, 9, .str, false), (64000001, 9, .str, false)], []⟩
def q9i_ : Head := ⟨[(4, (.ref 64000000 [])), (5, (.ref 64000001 []))], [(64000000, 9, .str, false), (64000001, 9, .str, false)], []⟩
def q9j_ (k n : Nat) (x : q9h_.T) (kx : Nat → St → Option (List (List UInt8) × List (List UInt8))) : Option (List (List UInt8) × List (List UInt8)) := z9y_ k n x.1.2.2.1 x.1.2.2.2.1 x.1.2.2.2.2.1 x.2.1.1 x.2.1.2.1 (fun (q_10 : List (List UInt8)) (q_11 : List (List UInt8)) => kx 2 (q9i_.fill (((), (), ()), (q_10, q_11, ()), ())))
def q9k_ (k : Nat) : Oracles (List (List UInt8) × List (List UInt8)) := ⟨fun n => bif Nat.beq n 3 then some (fun σ kx => q9e_.get σ fun x => q9g_ k k x kx) else bif Nat.beq n 8 then some (fun σ kx => q9h_.get σ fun x => q9j_ k k x kx) else none, fun _ => none⟩
def q9l_ (k : Nat) : FE := ⟨(.st (.pr (.sl 48 (.st (.pr .str (.st (.sl 68 (.sl 2 (.int .i64))))))) (.sl 80 (.st (.pr .str (.st (.pr (.st (.sl 68 (.sl 2 (.int .i64)))) (.pr (.int .i64) (.pr (.sl 2 (.int .i64)) (.sl 147 (.st (.pr (.int .i64) (.pr (.int .i64) (.pr (.int .i64) (.sl 2 (.int .i64)))))))))))))))), 2, (.pr (.sl 9 .str) (.sl 9 .str)), fun x => zfl_ k x⟩
theorem q9m_ (k : Nat) : zc_ (z3_ ti [] (lk []) z4_ z5_) (q9k_ k) (rdC (z3_ ti [] (lk []) z4_ z5_) [.tmp 2, .tmp 3] (.pr (.sl 9 .str) (.sl 9 .str))) ((zb_ (z2_ Tryz.f37)).getD 0 .skip) (fun σ kx => q9e_.get σ fun x => q9g_ k k x kx) := by
  refine ⟨q9e_, [(0, q9f_)], fun n x kx => q9g_ k n x kx, k, by kernel_rfl, by kernel_rfl, fun x kx => by kernel_rfl, ?_, fun σ kx => rfl⟩
  rintro n ⟨⟨⟨⟩, ⟨⟩, ⟨⟩, x11, x12, x13, ⟨⟩⟩, ⟨q_1, q_2, ⟨⟩⟩, ⟨v_1, ⟨⟩⟩⟩ kx
  kernel_rfl
theorem q9n_ (k : Nat) : zc_ (z3_ ti [] (lk []) z4_ z5_) (q9k_ k) (rdC (z3_ ti [] (lk []) z4_ z5_) [.tmp 2, .tmp 3] (.pr (.sl 9 .str) (.sl 9 .str))) ((zb_ (z2_ Tryz.f37)).getD 1 .skip) (fun σ kx => q9h_.get σ fun x => q9j_ k k x kx) := by
  refine ⟨q9h_, [(2, q9i_)], fun n x kx => q9j_ k n x kx, k, by kernel_rfl, by kernel_rfl, fun x kx => by kernel_rfl, ?_, fun σ kx => rfl⟩
  rintro n ⟨⟨⟨⟩, ⟨⟩, x24, x25, x26, ⟨⟩⟩, ⟨q_7, q_8, ⟨⟩⟩, ⟨⟩⟩ kx
  kernel_rfl
theorem q9o_ (k : Nat) : FnOK Tryz.prog 37 (q9l_ k) := by
  refine za_ (tab := []) (l := []) z6_ z9_ mix (List.forall_mem_nil _) (List.forall_mem_nil _) ⟨⟨Tryz.f37, (z2_ Tryz.f37), [.tmp 2, .tmp 3], (q9k_ k), by kernel_rfl, by kernel_rfl, by kernel_rfl, by kernel_rfl, rfl, by decide, ⟨by kernel_rfl, ?_, ?_⟩, ?_⟩⟩
  · refine zf_ (n := 2) (by kernel_rfl) fun i hi => ?_
    match i, hi with
    | 0, _ => exact zd_ (by kernel_rfl) (q9m_ k)
    | 1, _ => exact zd_ (by kernel_rfl) (q9n_ k)
    | n + 2, hi => omega
  · exact z8_ (by kernel_rfl)
  · rintro w0
    kernel_rfl
def z4j_ (k : Nat) : Nat → Int → Int → (List Int) → (Option Bool) → Option Bool
  | 0, _, _, _, _ => none
  | n + 1, x17, x18, q_1, e_0 => (if (decide (x18 < x17)) = true then (if 0 ≤ x18 ∧ x18.toNat < List.length q_1 then (q_1[x18.toNat]?).bind fun y_2 => (if (decide (97 ≤ y_2)) = true then (if (decide (48 ≤ y_2)) = true then (if (!(decide (y_2 ≤ 122))) = true then (if (decide (x18 = 0)) = true then some false else (if (!(decide (y_2 ≤ 57))) = true then some false else z4j_ k n x17 (z0_ (x18 + 1)) q_1 e_0)) else z4j_ k n x17 (z0_ (x18 + 1)) q_1 e_0) else (if (!(decide (y_2 ≤ 122))) = true then (if (decide (x18 = 0)) = true then some false else some false) else z4j_ k n x17 (z0_ (x18 + 1)) q_1 e_0)) else (if (decide (48 ≤ y_2)) = true then (if (decide (x18 = 0)) = true then some false else (if (!(decide (y_2 ≤ 57))) = true then some false else z4j_ k n x17 (z0_ (x18 + 1)) q_1 e_0)) else (if (decide (x18 = 0)) = true then some false else some false))) else none) else e_0)
def zfm_ (k : Nat) (s0 : List UInt8) : Option Bool := (if (decide ((List.length s0 : Int) < 1)) = true then some false else (if (decide (10 < (List.length s0 : Int))) = true then some false else (if s0.length ≤ LIM then z4j_ k k (List.length (of_S s0) : Int) 0 (of_S s0) (some true) else none)))
def q9p_ : Head := ⟨[(16, (.ref 64000000 [])), (17, (.val (.int .i64))), (18, (.val (.int .i64)))], [(64000000, 5, (.int .u8), true)], []⟩
def q9q_ : Head := ⟨[], [], []⟩
def q9r_ (k n : Nat) (x : q9p_.T) (kx : Nat → St → Option Bool) : Option Bool := z4j_ k n x.1.2.1 x.1.2.2.1 x.2.1.1 (kx 0 (q9q_.fill ((), (), ())))
def q9s_ (k : Nat) : Oracles Bool := ⟨fun n => bif Nat.beq n 4 then some (fun σ kx => q9p_.get σ fun x => q9r_ k k x kx) else none, fun _ => none⟩
def q9t_ (k : Nat) : FE := ⟨.str, 1, .bool, fun x => zfm_ k x⟩
theorem q9u_ (k : Nat) : zc_ (z3_ ti [] (lk []) z4_ z5_) (q9s_ k) (rdC (z3_ ti [] (lk []) z4_ z5_) [.tmp 2] .bool) ((zb_ (z2_ Tryz.f70)).getD 0 .skip) (fun σ kx => q9p_.get σ fun x => q9r_ k k x kx) := by
  refine ⟨q9p_, [(0, q9q_)], fun n x kx => q9r_ k n x kx, k, by kernel_rfl, by kernel_rfl, fun x kx => by kernel_rfl, ?_, fun σ kx => rfl⟩
  rintro n ⟨⟨⟨⟩, x17, x18, ⟨⟩⟩, ⟨q_1, ⟨⟩⟩, ⟨⟩⟩ kx
  kernel_rfl
theorem q9v_ (k : Nat) : FnOK Tryz.prog 70 (q9t_ k) := by
  refine za_ (tab := []) (l := []) z6_ z9_ mix (List.forall_mem_nil _) (List.forall_mem_nil _) ⟨⟨Tryz.f70, (z2_ Tryz.f70), [.tmp 2], (q9s_ k), by kernel_rfl, by kernel_rfl, by kernel_rfl, by kernel_rfl, rfl, by decide, ⟨by kernel_rfl, ?_, ?_⟩, ?_⟩⟩
  · refine zf_ (n := 1) (by kernel_rfl) fun i hi => ?_
    match i, hi with
    | 0, _ => exact zd_ (by kernel_rfl) (q9u_ k)
    | n + 1, hi => omega
  · exact z8_ (by kernel_rfl)
  · rintro s0
    kernel_rfl
def z7d_ (k : Nat) : Nat → (List (List UInt8)) → Int → (List (List UInt8)) → Int → Int → ((List (List UInt8)) → Int → Option Bool) → Option Bool
  | 0, _, _, _, _, _, _ => none
  | n + 1, names0, most1, x7, x8, x9, e_0 => (if (decide (x9 < x8)) = true then (if 0 ≤ x9 then (x7[x9.toNat]?).bind fun y_1 => (zfm_ k y_1).bind fun r_2 => (if (!r_2) = true then some false else (if (decide (0 < x9)) = true then (if 0 ≤ (z0_ (x9 - 1)) then (names0[(z0_ (x9 - 1)).toNat]?).bind fun y_3 => (if (Op.bytesLess y_1 y_3 || decide (y_1 = y_3)) = true then some false else z7d_ k n names0 most1 x7 x8 (z0_ (x9 + 1)) e_0) else none) else z7d_ k n names0 most1 x7 x8 (z0_ (x9 + 1)) e_0)) else none) else e_0 names0 most1)
def zc5_ (k : Nat) (names0 : List (List UInt8)) (most1 : Int) : Option Bool := z7d_ k k names0 most1 names0 (List.length names0 : Int) 0 (fun names_4 most_5 => some (decide ((List.length names_4 : Int) ≤ most_5)))
def q9w_ : Head := ⟨[(0, (.val (.sl 9 .str))), (1, (.val (.int .i64))), (7, (.val (.sl 9 .str))), (8, (.val (.int .i64))), (9, (.val (.int .i64)))], [], []⟩
def q9x_ : Head := ⟨[(0, (.val (.sl 9 .str))), (1, (.val (.int .i64)))], [], []⟩
def q9y_ (k n : Nat) (x : q9w_.T) (kx : Nat → St → Option Bool) : Option Bool := z7d_ k n x.1.1 x.1.2.1 x.1.2.2.1 x.1.2.2.2.1 x.1.2.2.2.2.1 (fun (names0 : List (List UInt8)) (most1 : Int) => kx 0 (q9x_.fill ((names0, most1, ()), (), ())))
def q9z_ (k : Nat) : Oracles Bool := ⟨fun n => bif Nat.beq n 2 then some (fun σ kx => q9w_.get σ fun x => q9y_ k k x kx) else none, fun _ => none⟩
def qa0_ (k : Nat) : FE := ⟨(.pr (.sl 9 .str) (.int .i64)), 1, .bool, fun x => zc5_ k x.1 x.2⟩
theorem qa1_ (k : Nat) : zc_ (z3_ ti [(70, q9t_ k)] (lk []) z4_ z5_) (q9z_ k) (rdC (z3_ ti [(70, q9t_ k)] (lk []) z4_ z5_) [.tmp 4] .bool) ((zb_ (z2_ Tryz.f38)).getD 0 .skip) (fun σ kx => q9w_.get σ fun x => q9y_ k k x kx) := by
  refine ⟨q9w_, [(0, q9x_)], fun n x kx => q9y_ k n x kx, k, by kernel_rfl, by kernel_rfl, fun x kx => by kernel_rfl, ?_, fun σ kx => rfl⟩
  rintro n ⟨⟨names0, most1, x7, x8, x9, ⟨⟩⟩, ⟨⟩, ⟨⟩⟩ kx
  kernel_rfl
theorem qa2_ (k : Nat) : FnOK Tryz.prog 38 (qa0_ k) := by
  refine za_ (tab := [(70, q9t_ k)]) (l := []) z6_ z9_ mix (List.forall_mem_cons.2 ⟨q9v_ k, (List.forall_mem_nil _)⟩) (List.forall_mem_nil _) ⟨⟨Tryz.f38, (z2_ Tryz.f38), [.tmp 4], (q9z_ k), by kernel_rfl, by kernel_rfl, by kernel_rfl, by kernel_rfl, rfl, by decide, ⟨by kernel_rfl, ?_, ?_⟩, ?_⟩⟩
  · refine zf_ (n := 1) (by kernel_rfl) fun i hi => ?_
    match i, hi with
    | 0, _ => exact zd_ (by kernel_rfl) (qa1_ k)
    | n + 1, hi => omega
  · exact z8_ (by kernel_rfl)
  · rintro ⟨names0, most1⟩
    kernel_rfl
def z9z_ (k : Nat) : Nat → (List (List UInt8)) → (List UInt8) → Int → Int → (Option Int) → Option Int
  | 0, _, _, _, _, _ => none
  | n + 1, s0, v1, x7, x8, e_0 => (if (decide (x8 < x7)) = true then (if 0 ≤ x8 then (s0[x8.toNat]?).bind fun y_1 => (if (decide (v1 = y_1)) = true then some x8 else z9z_ k n s0 v1 x7 (z0_ (x8 + 1)) e_0) else none) else e_0)
def zj4_ (k : Nat) (s0 : List (List UInt8)) (v1 : List UInt8) : Option Int := z9z_ k k s0 v1 (List.length s0 : Int) 0 (some (-1))
def qa3_ : Head := ⟨[(0, (.val (.sl 9 .str))), (1, (.val .str)), (7, (.val (.int .i64))), (8, (.val (.int .i64)))], [], []⟩
def qa4_ : Head := ⟨[], [], []⟩
def qa5_ (k n : Nat) (x : qa3_.T) (kx : Nat → St → Option Int) : Option Int := z9z_ k n x.1.1 x.1.2.1 x.1.2.2.1 x.1.2.2.2.1 (kx 0 (qa4_.fill ((), (), ())))
def qa6_ (k : Nat) : Oracles Int := ⟨fun n => bif Nat.beq n 2 then some (fun σ kx => qa3_.get σ fun x => qa5_ k k x kx) else none, fun _ => none⟩
def qa7_ (k : Nat) : FE := ⟨(.pr (.sl 9 .str) .str), 1, (.int .i64), fun x => zj4_ k x.1 x.2⟩
theorem qa8_ (k : Nat) : zc_ (z3_ ti [] (lk []) z4_ z5_) (qa6_ k) (rdC (z3_ ti [] (lk []) z4_ z5_) [.tmp 4] (.int .i64)) ((zb_ (z2_ Tryz.f72)).getD 0 .skip) (fun σ kx => qa3_.get σ fun x => qa5_ k k x kx) := by
  refine ⟨qa3_, [(0, qa4_)], fun n x kx => qa5_ k n x kx, k, by kernel_rfl, by kernel_rfl, fun x kx => by kernel_rfl, ?_, fun σ kx => rfl⟩
  rintro n ⟨⟨s0, v1, x7, x8, ⟨⟩⟩, ⟨⟩, ⟨⟩⟩ kx
  kernel_rfl
theorem qa9_ (k : Nat) : FnOK Tryz.prog 72 (qa7_ k) := by
  refine za_ (tab := []) (l := []) z6_ z9_ mix (List.forall_mem_nil _) (List.forall_mem_nil _) ⟨⟨Tryz.f72, (z2_ Tryz.f72), [.tmp 4], (qa6_ k), by kernel_rfl, by kernel_rfl, by kernel_rfl, by kernel_rfl, rfl, by decide, ⟨by kernel_rfl, ?_, ?_⟩, ?_⟩⟩
  · refine zf_ (n := 1) (by kernel_rfl) fun i hi => ?_
    match i, hi with
    | 0, _ => exact zd_ (by kernel_rfl) (qa8_ k)
    | n + 1, hi => omega
  · exact z8_ (by kernel_rfl)
  · rintro ⟨s0, v1⟩
    kernel_rfl
def zfn_ (k : Nat) (s0 : List (List UInt8)) (v1 : List UInt8) : Option Bool := (zj4_ k s0 v1).bind fun r_1 => some (decide (0 ≤ r_1))
def qaa_ (k : Nat) : FE := ⟨(.pr (.sl 9 .str) .str), 1, .bool, fun x => zfn_ k x.1 x.2⟩
theorem qab_ (k : Nat) : FnOK Tryz.prog 41 (qaa_ k) := by
  refine za_ (tab := [(72, qa7_ k)]) (l := []) z6_ z9_ mix (List.forall_mem_cons.2 ⟨qa9_ k, (List.forall_mem_nil _)⟩) (List.forall_mem_nil _) ⟨⟨Tryz.f41, (z2_ Tryz.f41), [.tmp 4], (LOn Bool), by kernel_rfl, by kernel_rfl, by kernel_rfl, by kernel_rfl, rfl, by decide, ⟨by kernel_rfl, ?_, ?_⟩, ?_⟩⟩
  · exact zh_ (by kernel_rfl)
  · exact z8_ (by kernel_rfl)
  · rintro ⟨s0, v1⟩
    kernel_rfl
def zj5_ (k : Nat) (name0 : List UInt8) (x1 : List (List UInt8)) : Option Bool := (zfn_ k x1 name0).bind fun r_1 => some r_1
def qac_ (k : Nat) : FE := ⟨(.pr .str (.ptr (.sl 9 .str))), 1, .bool, fun x => zj5_ k x.1 x.2⟩
theorem qad_ (k : Nat) : FnOK Tryz.prog 40 (qac_ k) := by
  refine za_ (tab := [(41, qaa_ k)]) (l := []) z6_ z9_ mix (List.forall_mem_cons.2 ⟨qab_ k, (List.forall_mem_nil _)⟩) (List.forall_mem_nil _) ⟨⟨Tryz.f40, (z2_ Tryz.f40), [.tmp 3], (LOn Bool), by kernel_rfl, by kernel_rfl, by kernel_rfl, by kernel_rfl, rfl, by decide, ⟨by kernel_rfl, ?_, ?_⟩, ?_⟩⟩
  · exact zh_ (by kernel_rfl)
  · exact z8_ (by kernel_rfl)
  · rintro ⟨name0, x1⟩
    kernel_rfl
def za0_ (k : Nat) : Nat → (List (List UInt8)) → (List (List UInt8)) → Int → Int → (Option Int) → Option Int
  | 0, _, _, _, _, _ => none
  | n + 1, s0, f1, x7, x8, e_0 => (if (decide (x8 < x7)) = true then (if 0 ≤ x8 then (s0[x8.toNat]?).bind fun y_1 => (zj5_ k y_1 f1).bind fun r_2 => (if r_2 = true then some x8 else za0_ k n s0 f1 x7 (z0_ (x8 + 1)) e_0) else none) else e_0)
def zj6_ (k : Nat) (s0 : List (List UInt8)) (f1 : List (List UInt8)) : Option Int := za0_ k k s0 f1 (List.length s0 : Int) 0 (some (-1))
def qae_ : Head := ⟨[(0, (.val (.sl 9 .str))), (1, (.val (.fn 40 (.ptr (.sl 9 .str))))), (7, (.val (.int .i64))), (8, (.val (.int .i64)))], [], []⟩
def qaf_ : Head := ⟨[], [], []⟩
def qag_ (k n : Nat) (x : qae_.T) (kx : Nat → St → Option Int) : Option Int := za0_ k n x.1.1 x.1.2.1 x.1.2.2.1 x.1.2.2.2.1 (kx 0 (qaf_.fill ((), (), ())))
def qah_ (k : Nat) : Oracles Int := ⟨fun n => bif Nat.beq n 2 then some (fun σ kx => qae_.get σ fun x => qag_ k k x kx) else none, fun _ => none⟩
def qai_ (k : Nat) : FE := ⟨(.pr (.sl 9 .str) (.fn 40 (.ptr (.sl 9 .str)))), 1, (.int .i64), fun x => zj6_ k x.1 x.2⟩
theorem qaj_ (k : Nat) : zc_ (z3_ ti [(40, qac_ k)] (lk []) z4_ z5_) (qah_ k) (rdC (z3_ ti [(40, qac_ k)] (lk []) z4_ z5_) [.tmp 4] (.int .i64)) ((zb_ (z2_ Tryz.f71)).getD 0 .skip) (fun σ kx => qae_.get σ fun x => qag_ k k x kx) := by
  refine ⟨qae_, [(0, qaf_)], fun n x kx => qag_ k n x kx, k, by kernel_rfl, by kernel_rfl, fun x kx => by kernel_rfl, ?_, fun σ kx => rfl⟩
  rintro n ⟨⟨s0, f1, x7, x8, ⟨⟩⟩, ⟨⟩, ⟨⟩⟩ kx
  kernel_rfl
theorem qak_ (k : Nat) : FnOK Tryz.prog 71 (qai_ k) := by
  refine za_ (tab := [(40, qac_ k)]) (l := []) z6_ z9_ mix (List.forall_mem_cons.2 ⟨qad_ k, (List.forall_mem_nil _)⟩) (List.forall_mem_nil _) ⟨⟨Tryz.f71, (z2_ Tryz.f71), [.tmp 4], (qah_ k), by kernel_rfl, by kernel_rfl, by kernel_rfl, by kernel_rfl, rfl, by decide, ⟨by kernel_rfl, ?_, ?_⟩, ?_⟩⟩
  · refine zf_ (n := 1) (by kernel_rfl) fun i hi => ?_
    match i, hi with
    | 0, _ => exact zd_ (by kernel_rfl) (qaj_ k)
    | n + 1, hi => omega
  · exact z8_ (by kernel_rfl)
  · rintro ⟨s0, f1⟩
    kernel_rfl
def zfo_ (k : Nat) (s0 : List (List UInt8)) (f1 : List (List UInt8)) : Option Bool := (zj6_ k s0 f1).bind fun r_1 => some (decide (0 ≤ r_1))
def qal_ (k : Nat) : FE := ⟨(.pr (.sl 9 .str) (.fn 40 (.ptr (.sl 9 .str)))), 1, .bool, fun x => zfo_ k x.1 x.2⟩
theorem qam_ (k : Nat) : FnOK Tryz.prog 39 (qal_ k) := by
  refine za_ (tab := [(71, qai_ k)]) (l := []) z6_ z9_ mix (List.forall_mem_cons.2 ⟨qak_ k, (List.forall_mem_nil _)⟩) (List.forall_mem_nil _) ⟨⟨Tryz.f39, (z2_ Tryz.f39), [.tmp 4], (LOn Bool), by kernel_rfl, by kernel_rfl, by kernel_rfl, by kernel_rfl, rfl, by decide, ⟨by kernel_rfl, ?_, ?_⟩, ?_⟩⟩
  · exact zh_ (by kernel_rfl)
  · exact z8_ (by kernel_rfl)
  · rintro ⟨s0, f1⟩
    kernel_rfl
def za1_ (k : Nat) : Nat → (List Int) → Int → (Option Bool) → Option Bool
  | 0, _, _, _ => none
  | n + 1, list0, k3, e_0 => (if (decide (k3 < (List.length list0 : Int))) = true then (if 0 ≤ (z0_ (k3 - 1)) then (list0[(z0_ (k3 - 1)).toNat]?).bind fun y_1 => (if 0 ≤ k3 then (list0[k3.toNat]?).bind fun y_2 => (if (decide (y_2 ≤ y_1)) = true then some false else za1_ k n list0 (z0_ (k3 + 1)) e_0) else none) else none) else e_0)
def zfp_ (k : Nat) (list0 : List Int) : Option Bool := za1_ k k list0 1 (some true)
def qan_ : Head := ⟨[(0, (.val (.sl 2 (.int .i64)))), (3, (.val (.int .i64)))], [], []⟩
def qao_ : Head := ⟨[], [], []⟩
def qap_ (k n : Nat) (x : qan_.T) (kx : Nat → St → Option Bool) : Option Bool := za1_ k n x.1.1 x.1.2.1 (kx 0 (qao_.fill ((), (), ())))
def qaq_ (k : Nat) : Oracles Bool := ⟨fun n => bif Nat.beq n 2 then some (fun σ kx => qan_.get σ fun x => qap_ k k x kx) else none, fun _ => none⟩
def qar_ (k : Nat) : FE := ⟨(.sl 2 (.int .i64)), 1, .bool, fun x => zfp_ k x⟩
theorem qas_ (k : Nat) : zc_ (z3_ ti [] (lk []) z4_ z5_) (qaq_ k) (rdC (z3_ ti [] (lk []) z4_ z5_) [.tmp 2] .bool) ((zb_ (z2_ Tryz.f112)).getD 0 .skip) (fun σ kx => qan_.get σ fun x => qap_ k k x kx) := by
  refine ⟨qan_, [(0, qao_)], fun n x kx => qap_ k n x kx, k, by kernel_rfl, by kernel_rfl, fun x kx => by kernel_rfl, ?_, fun σ kx => rfl⟩
  rintro n ⟨⟨list0, k3, ⟨⟩⟩, ⟨⟩, ⟨⟩⟩ kx
  kernel_rfl
theorem qat_ (k : Nat) : FnOK Tryz.prog 112 (qar_ k) := by
  refine za_ (tab := []) (l := []) z6_ z9_ mix (List.forall_mem_nil _) (List.forall_mem_nil _) ⟨⟨Tryz.f112, (z2_ Tryz.f112), [.tmp 2], (qaq_ k), by kernel_rfl, by kernel_rfl, by kernel_rfl, by kernel_rfl, rfl, by decide, ⟨by kernel_rfl, ?_, ?_⟩, ?_⟩⟩
  · refine zf_ (n := 1) (by kernel_rfl) fun i hi => ?_
    match i, hi with
    | 0, _ => exact zd_ (by kernel_rfl) (qas_ k)
    | n + 1, hi => omega
  · exact z8_ (by kernel_rfl)
  · rintro list0
    kernel_rfl
def z52_ (n0 : Int) (low1 : Int) (high2 : Int) : Option Bool := (if (decide (low1 ≤ n0)) = true then some (decide (n0 ≤ high2)) else some false)
def qau_ : FE := ⟨(.pr (.int .i64) (.pr (.int .i64) (.int .i64))), 1, .bool, fun x => z52_ x.1 x.2.1 x.2.2⟩
theorem qav_ : FnOK Tryz.prog 131 (qau_) := by
  refine za_ (tab := []) (l := []) z6_ z9_ mix (List.forall_mem_nil _) (List.forall_mem_nil _) ⟨⟨Tryz.f131, (z2_ Tryz.f131), [.tmp 6], (LOn Bool), by kernel_rfl, by kernel_rfl, by kernel_rfl, by kernel_rfl, rfl, by decide, ⟨by kernel_rfl, ?_, ?_⟩, ?_⟩⟩
  · exact zh_ (by kernel_rfl)
  · exact z8_ (by kernel_rfl)
  · rintro ⟨n0, low1, high2⟩
    kernel_rfl
def zj7_ (v0 : Int) : Option Bool := (z52_ v0 0 9).bind fun r_1 => some r_1
def qaw_ : FE := ⟨(.int .i64), 1, .bool, fun x => zj7_ x⟩
theorem qax_ : FnOK Tryz.prog 114 (qaw_) := by
  refine za_ (tab := [(131, qau_)]) (l := []) z6_ z9_ mix (List.forall_mem_cons.2 ⟨qav_, (List.forall_mem_nil _)⟩) (List.forall_mem_nil _) ⟨⟨Tryz.f114, (z2_ Tryz.f114), [.tmp 2], (LOn Bool), by kernel_rfl, by kernel_rfl, by kernel_rfl, by kernel_rfl, rfl, by decide, ⟨by kernel_rfl, ?_, ?_⟩, ?_⟩⟩
  · exact zh_ (by kernel_rfl)
  · exact z8_ (by kernel_rfl)
  · rintro v0
    kernel_rfl
def zj8_ (v0 : Int) : Option Bool := (zj7_ v0).bind fun r_1 => some (!r_1)
def qay_ : FE := ⟨(.int .i64), 1, .bool, fun x => zj8_ x⟩
theorem qaz_ : FnOK Tryz.prog 113 (qay_) := by
  refine za_ (tab := [(114, qaw_)]) (l := []) z6_ z9_ mix (List.forall_mem_cons.2 ⟨qax_, (List.forall_mem_nil _)⟩) (List.forall_mem_nil _) ⟨⟨Tryz.f113, (z2_ Tryz.f113), [.tmp 2], (LOn Bool), by kernel_rfl, by kernel_rfl, by kernel_rfl, by kernel_rfl, rfl, by decide, ⟨by kernel_rfl, ?_, ?_⟩, ?_⟩⟩
  · exact zh_ (by kernel_rfl)
  · exact z8_ (by kernel_rfl)
  · rintro v0
    kernel_rfl
end
end Go.Proofs.YtibiofjkgdidmaaGreatDoor.Ev
