/- Functions of the program, as plain ones. No conditions. -/
import Derived.Test.YtibiofjkgdidmaaGreatDoorG1
import Derived.KernelRfl
set_option linter.unusedVariables false
set_option maxRecDepth 100000
namespace Go.Proofs.YtibiofjkgdidmaaGreatDoor.Ev
open Go.RowKit
noncomputable section
def z9i_ (k : Nat) : Nat → zT0 → Int → zT0 → (zT0 → Option zT0) → Option zT0
  | 0, _, _, _, _ => none
  | n + 1, a0, i4, q_1, e_0 => (if (decide (i4 < (List.length a0 : Int))) = true then (if 0 ≤ i4 then (a0[i4.toNat]?).bind fun y_2 => (ze8_ k y_2).bind fun r_3 => (if 0 ≤ i4 ∧ i4.toNat < List.length q_1 then (q_1[i4.toNat]?).bind fun y_4 => (q_1[i4.toNat]?).bind fun y_5 => z9i_ k n a0 (z0_ (i4 + 1)) (q_1.set i4.toNat (r_3.1, (r_3.2.1, (r_3.2.2.1, (r_3.2.2.2.1, r_3.2.2.2.2))))) e_0 else none) else none) else e_0 q_1)
def zf2_ (k : Nat) (a0 : List (List UInt8 × List (List Int) × Int × List Int × List (Int × Int × Int × List Int))) : Option zT0 := (if 0 ≤ (List.length a0 : Int) ∧ (List.length a0 : Int) ≤ (List.length a0 : Int) ∧ (List.length a0 : Int) * 96 ≤ LIM then z9i_ k k a0 0 (List.replicate (List.length a0) ([], ([], (0, ([], []))))) (fun q_6 => some q_6) else none)
def q28_ : Head := ⟨[(0, (.val (.sl 73 (.st (.pr .str (.st (.pr (.st (.sl 68 (.sl 2 (.int .i64)))) (.pr (.int .i64) (.pr (.sl 2 (.int .i64)) (.sl 182 (.st (.pr (.int .i64) (.pr (.int .i64) (.pr (.int .i64) (.sl 2 (.int .i64)))))))))))))))), (3, (.ref 64000000 [])), (4, (.val (.int .i64)))], [(64000000, 80, (.st (.pr .str (.st (.pr (.st (.sl 68 (.sl 2 (.int .i64)))) (.pr (.int .i64) (.pr (.sl 2 (.int .i64)) (.sl 147 (.st (.pr (.int .i64) (.pr (.int .i64) (.pr (.int .i64) (.sl 2 (.int .i64))))))))))))), false)], []⟩
def q29_ : Head := ⟨[(3, (.ref 64000000 []))], [(64000000, 80, (.st (.pr .str (.st (.pr (.st (.sl 68 (.sl 2 (.int .i64)))) (.pr (.int .i64) (.pr (.sl 2 (.int .i64)) (.sl 147 (.st (.pr (.int .i64) (.pr (.int .i64) (.pr (.int .i64) (.sl 2 (.int .i64))))))))))))), false)], []⟩
def q2a_ (k n : Nat) (x : q28_.T) (kx : Nat → St → Option zT0) : Option zT0 := z9i_ k n x.1.1 x.1.2.2.1 x.2.1.1 (fun (q_6 : List (List UInt8 × List (List Int) × Int × List Int × List (Int × Int × Int × List Int))) => kx 0 (q29_.fill (((), ()), (q_6, ()), ())))
def q2b_ (k : Nat) : Oracles zT0 := ⟨fun n => bif Nat.beq n 3 then some (fun σ kx => q28_.get σ fun x => q2a_ k k x kx) else none, fun _ => none⟩
def q2c_ (k : Nat) : FE := ⟨(.sl 73 (.st (.pr .str (.st (.pr (.st (.sl 68 (.sl 2 (.int .i64)))) (.pr (.int .i64) (.pr (.sl 2 (.int .i64)) (.sl 182 (.st (.pr (.int .i64) (.pr (.int .i64) (.pr (.int .i64) (.sl 2 (.int .i64)))))))))))))), 1, (.sl 80 (.st (.pr .str (.st (.pr (.st (.sl 68 (.sl 2 (.int .i64)))) (.pr (.int .i64) (.pr (.sl 2 (.int .i64)) (.sl 147 (.st (.pr (.int .i64) (.pr (.int .i64) (.pr (.int .i64) (.sl 2 (.int .i64)))))))))))))), fun x => zf2_ k x⟩
theorem q2d_ (k : Nat) : zc_ (z3_ ti [(36, q26_ k)] (lk []) z4_ z5_) (q2b_ k) (rdC (z3_ ti [(36, q26_ k)] (lk []) z4_ z5_) [.tmp 2] (.sl 80 (.st (.pr .str (.st (.pr (.st (.sl 68 (.sl 2 (.int .i64)))) (.pr (.int .i64) (.pr (.sl 2 (.int .i64)) (.sl 147 (.st (.pr (.int .i64) (.pr (.int .i64) (.pr (.int .i64) (.sl 2 (.int .i64))))))))))))))) ((zb_ (z2_ Tryz.f18)).getD 0 .skip) (fun σ kx => q28_.get σ fun x => q2a_ k k x kx) := by
  refine ⟨q28_, [(0, q29_)], fun n x kx => q2a_ k n x kx, k, by kernel_rfl, by kernel_rfl, fun x kx => by kernel_rfl, ?_, fun σ kx => rfl⟩
  rintro n ⟨⟨a0, ⟨⟩, i4, ⟨⟩⟩, ⟨q_1, ⟨⟩⟩, ⟨⟩⟩ kx
  kernel_rfl
theorem q2e_ (k : Nat) : FnOK Tryz.prog 18 (q2c_ k) := by
  refine za_ (tab := [(36, q26_ k)]) (l := []) z6_ z9_ mix (List.forall_mem_cons.2 ⟨q27_ k, (List.forall_mem_nil _)⟩) (List.forall_mem_nil _) ⟨⟨Tryz.f18, (z2_ Tryz.f18), [.tmp 2], (q2b_ k), by kernel_rfl, by kernel_rfl, by kernel_rfl, by kernel_rfl, rfl, by decide, ⟨by kernel_rfl, ?_, ?_⟩, ?_⟩⟩
  · refine zf_ (n := 1) (by kernel_rfl) fun i hi => ?_
    match i, hi with
    | 0, _ => exact zd_ (by kernel_rfl) (q2d_ k)
    | n + 1, hi => omega
  · exact z8_ (by kernel_rfl)
  · rintro a0
    kernel_rfl
def z6y_ (k : Nat) (a0 : zT1 × List (List UInt8 × List (List Int) × Int × List Int × List (Int × Int × Int × List Int))) : Option (zT1 × List (List UInt8 × List (List Int) × Int × List Int × List (Int × Int × Int × List Int))) := (ze4_ k a0.1).bind fun r_1 => (zf2_ k a0.2).bind fun r_2 => some (r_1, r_2)
def q2f_ (k : Nat) : FE := ⟨(.st (.pr (.sl 66 (.st (.pr .str (.st (.sl 68 (.sl 2 (.int .i64))))))) (.sl 73 (.st (.pr .str (.st (.pr (.st (.sl 68 (.sl 2 (.int .i64)))) (.pr (.int .i64) (.pr (.sl 2 (.int .i64)) (.sl 182 (.st (.pr (.int .i64) (.pr (.int .i64) (.pr (.int .i64) (.sl 2 (.int .i64)))))))))))))))), 1, (.st (.pr (.sl 48 (.st (.pr .str (.st (.sl 68 (.sl 2 (.int .i64))))))) (.sl 80 (.st (.pr .str (.st (.pr (.st (.sl 68 (.sl 2 (.int .i64)))) (.pr (.int .i64) (.pr (.sl 2 (.int .i64)) (.sl 147 (.st (.pr (.int .i64) (.pr (.int .i64) (.pr (.int .i64) (.sl 2 (.int .i64)))))))))))))))), fun x => z6y_ k x⟩
theorem q2g_ (k : Nat) : FnOK Tryz.prog 6 (q2f_ k) := by
  refine za_ (tab := [(17, q1s_ k), (18, q2c_ k)]) (l := []) z6_ z9_ mix (List.forall_mem_cons.2 ⟨q1u_ k, (List.forall_mem_cons.2 ⟨q2e_ k, (List.forall_mem_nil _)⟩)⟩) (List.forall_mem_nil _) ⟨⟨Tryz.f6, (z2_ Tryz.f6), [.cell 2 33], (LOn (zT1 × List (List UInt8 × List (List Int) × Int × List Int × List (Int × Int × Int × List Int)))), by kernel_rfl, by kernel_rfl, by kernel_rfl, by kernel_rfl, rfl, by decide, ⟨by kernel_rfl, ?_, ?_⟩, ?_⟩⟩
  · exact zh_ (by kernel_rfl)
  · exact z8_ (by kernel_rfl)
  · rintro a0
    kernel_rfl
def zbt_ (c0 : Int) : Option Bool := (if (decide (97 ≤ c0)) = true then some (decide (c0 ≤ 122)) else some false)
def q2h_ : FE := ⟨(.int .u8), 1, .bool, fun x => zbt_ x⟩
theorem q2i_ : FnOK Tryz.prog 58 (q2h_) := by
  refine za_ (tab := []) (l := []) z6_ z9_ mix (List.forall_mem_nil _) (List.forall_mem_nil _) ⟨⟨Tryz.f58, (z2_ Tryz.f58), [.tmp 2], (LOn Bool), by kernel_rfl, by kernel_rfl, by kernel_rfl, by kernel_rfl, rfl, by decide, ⟨by kernel_rfl, ?_, ?_⟩, ?_⟩⟩
  · exact zh_ (by kernel_rfl)
  · exact z8_ (by kernel_rfl)
  · rintro c0
    kernel_rfl
def zf3_ (c0 : Int) : Option Bool := (if (decide (48 ≤ c0)) = true then some (decide (c0 ≤ 57)) else some false)
def q2j_ : FE := ⟨(.int .u8), 1, .bool, fun x => zf3_ x⟩
theorem q2k_ : FnOK Tryz.prog 59 (q2j_) := by
  refine za_ (tab := []) (l := []) z6_ z9_ mix (List.forall_mem_nil _) (List.forall_mem_nil _) ⟨⟨Tryz.f59, (z2_ Tryz.f59), [.tmp 2], (LOn Bool), by kernel_rfl, by kernel_rfl, by kernel_rfl, by kernel_rfl, rfl, by decide, ⟨by kernel_rfl, ?_, ?_⟩, ?_⟩⟩
  · exact zh_ (by kernel_rfl)
  · exact z8_ (by kernel_rfl)
  · rintro c0
    kernel_rfl
def z63_ (k : Nat) : Nat → (List UInt8) → Int → (Option Bool) → Option Bool
  | 0, _, _, _ => none
  | n + 1, s0, i3, e_0 => (if (decide (i3 < (List.length s0 : Int))) = true then (if 0 ≤ i3 then (s0[i3.toNat]?).bind fun b_3 => (zbt_ (z_u8 b_3)).bind fun r_4 => (if (!r_4) = true then (if 0 ≤ i3 then (s0[i3.toNat]?).bind fun b_5 => (zf3_ (z_u8 b_5)).bind fun r_6 => (if (!r_6) = true then some false else z63_ k n s0 (z0_ (i3 + 1)) e_0) else none) else z63_ k n s0 (z0_ (i3 + 1)) e_0) else none) else e_0)
def zbu_ (k : Nat) (s0 : List UInt8) : Option Bool := (if (decide (s0 = [])) = true then some false else (if (decide (10 < (List.length s0 : Int))) = true then some false else (s0[0]?).bind fun b_1 => (zbt_ (z_u8 b_1)).bind fun r_2 => (if (!r_2) = true then some false else z63_ k k s0 0 (some true))))
def q2l_ : Head := ⟨[(0, (.val .str)), (3, (.val (.int .i64)))], [], []⟩
def q2m_ : Head := ⟨[], [], []⟩
def q2n_ (k n : Nat) (x : q2l_.T) (kx : Nat → St → Option Bool) : Option Bool := z63_ k n x.1.1 x.1.2.1 (kx 0 (q2m_.fill ((), (), ())))
def q2o_ (k : Nat) : Oracles Bool := ⟨fun n => bif Nat.beq n 4 then some (fun σ kx => q2l_.get σ fun x => q2n_ k k x kx) else none, fun _ => none⟩
def q2p_ (k : Nat) : FE := ⟨.str, 1, .bool, fun x => zbu_ k x⟩
theorem q2q_ (k : Nat) : zc_ (z3_ ti [(58, q2h_), (59, q2j_)] (lk []) z4_ z5_) (q2o_ k) (rdC (z3_ ti [(58, q2h_), (59, q2j_)] (lk []) z4_ z5_) [.tmp 2] .bool) ((zb_ (z2_ Tryz.f29)).getD 0 .skip) (fun σ kx => q2l_.get σ fun x => q2n_ k k x kx) := by
  refine ⟨q2l_, [(0, q2m_)], fun n x kx => q2n_ k n x kx, k, by kernel_rfl, by kernel_rfl, fun x kx => by kernel_rfl, ?_, fun σ kx => rfl⟩
  rintro n ⟨⟨s0, i3, ⟨⟩⟩, ⟨⟩, ⟨⟩⟩ kx
  kernel_rfl
theorem q2r_ (k : Nat) : FnOK Tryz.prog 29 (q2p_ k) := by
  refine za_ (tab := [(58, q2h_), (59, q2j_)]) (l := []) z6_ z9_ mix (List.forall_mem_cons.2 ⟨q2i_, (List.forall_mem_cons.2 ⟨q2k_, (List.forall_mem_nil _)⟩)⟩) (List.forall_mem_nil _) ⟨⟨Tryz.f29, (z2_ Tryz.f29), [.tmp 2], (q2o_ k), by kernel_rfl, by kernel_rfl, by kernel_rfl, by kernel_rfl, rfl, by decide, ⟨by kernel_rfl, ?_, ?_⟩, ?_⟩⟩
  · refine zf_ (n := 1) (by kernel_rfl) fun i hi => ?_
    match i, hi with
    | 0, _ => exact zd_ (by kernel_rfl) (q2q_ k)
    | n + 1, hi => omega
  · exact z8_ (by kernel_rfl)
  · rintro s0
    kernel_rfl
def z53_ (n0 : Int) (low1 : Int) (high2 : Int) : Option Bool := (if (decide (low1 ≤ n0)) = true then some (decide (n0 ≤ high2)) else some false)
def q2s_ : FE := ⟨(.pr (.int .i64) (.pr (.int .i64) (.int .i64))), 1, .bool, fun x => z53_ x.1 x.2.1 x.2.2⟩
theorem q2t_ : FnOK Tryz.prog 97 (q2s_) := by
  refine za_ (tab := []) (l := []) z6_ z9_ mix (List.forall_mem_nil _) (List.forall_mem_nil _) ⟨⟨Tryz.f97, (z2_ Tryz.f97), [.tmp 6], (LOn Bool), by kernel_rfl, by kernel_rfl, by kernel_rfl, by kernel_rfl, rfl, by decide, ⟨by kernel_rfl, ?_, ?_⟩, ?_⟩⟩
  · exact zh_ (by kernel_rfl)
  · exact z8_ (by kernel_rfl)
  · rintro ⟨n0, low1, high2⟩
    kernel_rfl
def z6z_ (k : Nat) : Nat → (List Int) → Int → Int → Int → (Option Bool) → Option Bool
  | 0, _, _, _, _, _ => none
  | n + 1, list0, low1, high2, i7, e_0 => (if (decide (i7 < (List.length list0 : Int))) = true then (if 0 ≤ i7 then (list0[i7.toNat]?).bind fun y_1 => (z53_ y_1 low1 high2).bind fun r_2 => (if (!r_2) = true then some false else (if (decide (0 < i7)) = true then (if 0 ≤ (z0_ (i7 - 1)) then (list0[(z0_ (i7 - 1)).toNat]?).bind fun y_3 => (if 0 ≤ i7 then (list0[i7.toNat]?).bind fun y_4 => (if (decide (y_4 ≤ y_3)) = true then some false else z6z_ k n list0 low1 high2 (z0_ (i7 + 1)) e_0) else none) else none) else z6z_ k n list0 low1 high2 (z0_ (i7 + 1)) e_0)) else none) else e_0)
def zf4_ (k : Nat) (list0 : List Int) (low1 : Int) (high2 : Int) : Option Bool := z6z_ k k list0 low1 high2 0 (some true)
def q2u_ : Head := ⟨[(0, (.val (.sl 2 (.int .i64)))), (1, (.val (.int .i64))), (2, (.val (.int .i64))), (7, (.val (.int .i64)))], [], []⟩
def q2v_ : Head := ⟨[], [], []⟩
def q2w_ (k n : Nat) (x : q2u_.T) (kx : Nat → St → Option Bool) : Option Bool := z6z_ k n x.1.1 x.1.2.1 x.1.2.2.1 x.1.2.2.2.1 (kx 0 (q2v_.fill ((), (), ())))
def q2x_ (k : Nat) : Oracles Bool := ⟨fun n => bif Nat.beq n 2 then some (fun σ kx => q2u_.get σ fun x => q2w_ k k x kx) else none, fun _ => none⟩
def q2y_ (k : Nat) : FE := ⟨(.pr (.sl 2 (.int .i64)) (.pr (.int .i64) (.int .i64))), 1, .bool, fun x => zf4_ k x.1 x.2.1 x.2.2⟩
theorem q2z_ (k : Nat) : zc_ (z3_ ti [(97, q2s_)] (lk []) z4_ z5_) (q2x_ k) (rdC (z3_ ti [(97, q2s_)] (lk []) z4_ z5_) [.tmp 6] .bool) ((zb_ (z2_ Tryz.f98)).getD 0 .skip) (fun σ kx => q2u_.get σ fun x => q2w_ k k x kx) := by
  refine ⟨q2u_, [(0, q2v_)], fun n x kx => q2w_ k n x kx, k, by kernel_rfl, by kernel_rfl, fun x kx => by kernel_rfl, ?_, fun σ kx => rfl⟩
  rintro n ⟨⟨list0, low1, high2, i7, ⟨⟩⟩, ⟨⟩, ⟨⟩⟩ kx
  kernel_rfl
theorem q30_ (k : Nat) : FnOK Tryz.prog 98 (q2y_ k) := by
  refine za_ (tab := [(97, q2s_)]) (l := []) z6_ z9_ mix (List.forall_mem_cons.2 ⟨q2t_, (List.forall_mem_nil _)⟩) (List.forall_mem_nil _) ⟨⟨Tryz.f98, (z2_ Tryz.f98), [.tmp 6], (q2x_ k), by kernel_rfl, by kernel_rfl, by kernel_rfl, by kernel_rfl, rfl, by decide, ⟨by kernel_rfl, ?_, ?_⟩, ?_⟩⟩
  · refine zf_ (n := 1) (by kernel_rfl) fun i hi => ?_
    match i, hi with
    | 0, _ => exact zd_ (by kernel_rfl) (q2z_ k)
    | n + 1, hi => omega
  · exact z8_ (by kernel_rfl)
  · rintro ⟨list0, low1, high2⟩
    kernel_rfl
def zf5_ (k : Nat) (s0 : List Int) : Option Bool := (z53_ (List.length s0 : Int) 1 4).bind fun r_1 => (if r_1 = true then (zf4_ k s0 0 9).bind fun r_2 => some r_2 else some false)
def q31_ (k : Nat) : FE := ⟨(.sl 2 (.int .i64)), 1, .bool, fun x => zf5_ k x⟩
theorem q32_ (k : Nat) : FnOK Tryz.prog 60 (q31_ k) := by
  refine za_ (tab := [(97, q2s_), (98, q2y_ k)]) (l := []) z6_ z9_ mix (List.forall_mem_cons.2 ⟨q2t_, (List.forall_mem_cons.2 ⟨q30_ k, (List.forall_mem_nil _)⟩)⟩) (List.forall_mem_nil _) ⟨⟨Tryz.f60, (z2_ Tryz.f60), [.tmp 2], (LOn Bool), by kernel_rfl, by kernel_rfl, by kernel_rfl, by kernel_rfl, rfl, by decide, ⟨by kernel_rfl, ?_, ?_⟩, ?_⟩⟩
  · exact zh_ (by kernel_rfl)
  · exact z8_ (by kernel_rfl)
  · rintro s0
    kernel_rfl
def z9j_ (k : Nat) : Nat → (List Int) → (List Int) → Int → (Option Bool) → Option Bool
  | 0, _, _, _, _ => none
  | n + 1, a0, b1, i5, e_0 => (if (decide (i5 < (List.length a0 : Int))) = true then (if 0 ≤ i5 then (a0[i5.toNat]?).bind fun y_1 => (if 0 ≤ i5 then (b1[i5.toNat]?).bind fun y_2 => (if (!(decide (y_1 = y_2))) = true then (if 0 ≤ i5 then (a0[i5.toNat]?).bind fun y_3 => (if 0 ≤ i5 then (b1[i5.toNat]?).bind fun y_4 => some (decide (y_3 < y_4)) else none) else none) else z9j_ k n a0 b1 (z0_ (i5 + 1)) e_0) else none) else none) else e_0)
def zf6_ (k : Nat) (a0 : List Int) (b1 : List Int) : Option Bool := (if (!(decide ((List.length a0 : Int) = (List.length b1 : Int)))) = true then some (decide ((List.length a0 : Int) < (List.length b1 : Int))) else z9j_ k k a0 b1 0 (some false))
def q33_ : Head := ⟨[(0, (.val (.sl 2 (.int .i64)))), (1, (.val (.sl 2 (.int .i64)))), (5, (.val (.int .i64)))], [], []⟩
def q34_ : Head := ⟨[], [], []⟩
def q35_ (k n : Nat) (x : q33_.T) (kx : Nat → St → Option Bool) : Option Bool := z9j_ k n x.1.1 x.1.2.1 x.1.2.2.1 (kx 0 (q34_.fill ((), (), ())))
def q36_ (k : Nat) : Oracles Bool := ⟨fun n => bif Nat.beq n 4 then some (fun σ kx => q33_.get σ fun x => q35_ k k x kx) else none, fun _ => none⟩
def q37_ (k : Nat) : FE := ⟨(.pr (.sl 2 (.int .i64)) (.sl 2 (.int .i64))), 1, .bool, fun x => zf6_ k x.1 x.2⟩
theorem q38_ (k : Nat) : zc_ (z3_ ti [] (lk []) z4_ z5_) (q36_ k) (rdC (z3_ ti [] (lk []) z4_ z5_) [.tmp 4] .bool) ((zb_ (z2_ Tryz.f61)).getD 0 .skip) (fun σ kx => q33_.get σ fun x => q35_ k k x kx) := by
  refine ⟨q33_, [(0, q34_)], fun n x kx => q35_ k n x kx, k, by kernel_rfl, by kernel_rfl, fun x kx => by kernel_rfl, ?_, fun σ kx => rfl⟩
  rintro n ⟨⟨a0, b1, i5, ⟨⟩⟩, ⟨⟩, ⟨⟩⟩ kx
  kernel_rfl
theorem q39_ (k : Nat) : FnOK Tryz.prog 61 (q37_ k) := by
  refine za_ (tab := []) (l := []) z6_ z9_ mix (List.forall_mem_nil _) (List.forall_mem_nil _) ⟨⟨Tryz.f61, (z2_ Tryz.f61), [.tmp 4], (q36_ k), by kernel_rfl, by kernel_rfl, by kernel_rfl, by kernel_rfl, rfl, by decide, ⟨by kernel_rfl, ?_, ?_⟩, ?_⟩⟩
  · refine zf_ (n := 1) (by kernel_rfl) fun i hi => ?_
    match i, hi with
    | 0, _ => exact zd_ (by kernel_rfl) (q38_ k)
    | n + 1, hi => omega
  · exact z8_ (by kernel_rfl)
  · rintro ⟨a0, b1⟩
    kernel_rfl
def ziz_ (list0 : List Int) : Option (List Int) := (if (([] : List Unit).length + list0.length) * 8 ≤ LIM then some list0 else none)
def q3a_ : FE := ⟨(.sl 2 (.int .i64)), 1, (.sl 2 (.int .i64)), fun x => ziz_ x⟩
theorem q3b_ : FnOK Tryz.prog 100 (q3a_) := by
  refine za_ (tab := []) (l := []) z6_ z9_ mix (List.forall_mem_nil _) (List.forall_mem_nil _) ⟨⟨Tryz.f100, (z2_ Tryz.f100), [.tmp 2], (LOn (List Int)), by kernel_rfl, by kernel_rfl, by kernel_rfl, by kernel_rfl, rfl, by decide, ⟨by kernel_rfl, ?_, ?_⟩, ?_⟩⟩
  · exact zh_ (by kernel_rfl)
  · exact z8_ (by kernel_rfl)
  · rintro list0
    kernel_rfl
def zbv_ (s0 : List Int) (k1 : Int) : Option (List Int) := (if 0 ≤ (0 : Int) ∧ (0 : Int) ≤ k1 ∧ k1 ≤ s0.length then (ziz_ (s0.take k1.toNat)).bind fun r_1 => (if 0 ≤ (z0_ (k1 + 1)) ∧ (z0_ (k1 + 1)) ≤ (s0.length : Int) ∧ (s0.length : Int) ≤ s0.length then (if (r_1.length + ((s0.drop ((z0_ (k1 + 1)).toNat)).take (s0.length - (z0_ (k1 + 1)).toNat)).length) * 8 ≤ LIM then some (r_1 ++ ((s0.drop ((z0_ (k1 + 1)).toNat)).take (s0.length - (z0_ (k1 + 1)).toNat))) else none) else none) else none)
def q3c_ : FE := ⟨(.pr (.sl 2 (.int .i64)) (.int .i64)), 1, (.sl 2 (.int .i64)), fun x => zbv_ x.1 x.2⟩
theorem q3d_ : FnOK Tryz.prog 63 (q3c_) := by
  refine za_ (tab := [(100, q3a_)]) (l := []) z6_ z9_ mix (List.forall_mem_cons.2 ⟨q3b_, (List.forall_mem_nil _)⟩) (List.forall_mem_nil _) ⟨⟨Tryz.f63, (z2_ Tryz.f63), [.tmp 4], (LOn (List Int)), by kernel_rfl, by kernel_rfl, by kernel_rfl, by kernel_rfl, rfl, by decide, ⟨by kernel_rfl, ?_, ?_⟩, ?_⟩⟩
  · exact zh_ (by kernel_rfl)
  · exact z8_ (by kernel_rfl)
  · rintro ⟨s0, k1⟩
    kernel_rfl
def z9k_ (k : Nat) : Nat → (List Int) → (List Int) → Int → (Option Bool) → Option Bool
  | 0, _, _, _, _ => none
  | n + 1, a0, b1, i5, e_0 => (if (decide (i5 < (List.length a0 : Int))) = true then (if 0 ≤ i5 then (a0[i5.toNat]?).bind fun y_1 => (if 0 ≤ i5 then (b1[i5.toNat]?).bind fun y_2 => (if (!(decide (y_1 = y_2))) = true then some false else z9k_ k n a0 b1 (z0_ (i5 + 1)) e_0) else none) else none) else e_0)
def zf7_ (k : Nat) (a0 : List Int) (b1 : List Int) : Option Bool := (if (!(decide ((List.length a0 : Int) = (List.length b1 : Int)))) = true then some false else z9k_ k k a0 b1 0 (some true))
def q3e_ : Head := ⟨[(0, (.val (.sl 2 (.int .i64)))), (1, (.val (.sl 2 (.int .i64)))), (5, (.val (.int .i64)))], [], []⟩
def q3f_ : Head := ⟨[], [], []⟩
def q3g_ (k n : Nat) (x : q3e_.T) (kx : Nat → St → Option Bool) : Option Bool := z9k_ k n x.1.1 x.1.2.1 x.1.2.2.1 (kx 0 (q3f_.fill ((), (), ())))
def q3h_ (k : Nat) : Oracles Bool := ⟨fun n => bif Nat.beq n 4 then some (fun σ kx => q3e_.get σ fun x => q3g_ k k x kx) else none, fun _ => none⟩
def q3i_ (k : Nat) : FE := ⟨(.pr (.sl 2 (.int .i64)) (.sl 2 (.int .i64))), 1, .bool, fun x => zf7_ k x.1 x.2⟩
theorem q3j_ (k : Nat) : zc_ (z3_ ti [] (lk []) z4_ z5_) (q3h_ k) (rdC (z3_ ti [] (lk []) z4_ z5_) [.tmp 4] .bool) ((zb_ (z2_ Tryz.f99)).getD 0 .skip) (fun σ kx => q3e_.get σ fun x => q3g_ k k x kx) := by
  refine ⟨q3e_, [(0, q3f_)], fun n x kx => q3g_ k n x kx, k, by kernel_rfl, by kernel_rfl, fun x kx => by kernel_rfl, ?_, fun σ kx => rfl⟩
  rintro n ⟨⟨a0, b1, i5, ⟨⟩⟩, ⟨⟩, ⟨⟩⟩ kx
  kernel_rfl
theorem q3k_ (k : Nat) : FnOK Tryz.prog 99 (q3i_ k) := by
  refine za_ (tab := []) (l := []) z6_ z9_ mix (List.forall_mem_nil _) (List.forall_mem_nil _) ⟨⟨Tryz.f99, (z2_ Tryz.f99), [.tmp 4], (q3h_ k), by kernel_rfl, by kernel_rfl, by kernel_rfl, by kernel_rfl, rfl, by decide, ⟨by kernel_rfl, ?_, ?_⟩, ?_⟩⟩
  · refine zf_ (n := 1) (by kernel_rfl) fun i hi => ?_
    match i, hi with
    | 0, _ => exact zd_ (by kernel_rfl) (q3j_ k)
    | n + 1, hi => omega
  · exact z8_ (by kernel_rfl)
  · rintro ⟨a0, b1⟩
    kernel_rfl
def z9l_ (k : Nat) : Nat → zT4 → (List Int) → Int → (Option Int) → Option Int
  | 0, _, _, _, _ => none
  | n + 1, c0, s1, i5, e_0 => (if (decide (i5 < (List.length c0 : Int))) = true then (if 0 ≤ i5 then (c0[i5.toNat]?).bind fun y_1 => (zf7_ k y_1 s1).bind fun r_2 => (if r_2 = true then some i5 else z9l_ k n c0 s1 (z0_ (i5 + 1)) e_0) else none) else e_0)
def zbw_ (k : Nat) (c0 : List (List Int)) (s1 : List Int) : Option Int := z9l_ k k c0 s1 0 (some (-1))
def q3l_ : Head := ⟨[(0, (.val (.ptr (.st (.sl 68 (.sl 2 (.int .i64))))))), (1, (.val (.sl 2 (.int .i64)))), (5, (.val (.int .i64)))], [], []⟩
def q3m_ : Head := ⟨[], [], []⟩
def q3n_ (k n : Nat) (x : q3l_.T) (kx : Nat → St → Option Int) : Option Int := z9l_ k n x.1.1 x.1.2.1 x.1.2.2.1 (kx 0 (q3m_.fill ((), (), ())))
def q3o_ (k : Nat) : Oracles Int := ⟨fun n => bif Nat.beq n 2 then some (fun σ kx => q3l_.get σ fun x => q3n_ k k x kx) else none, fun _ => none⟩
def q3p_ (k : Nat) : FE := ⟨(.pr (.ptr (.st (.sl 68 (.sl 2 (.int .i64))))) (.sl 2 (.int .i64))), 1, (.int .i64), fun x => zbw_ k x.1 x.2⟩
theorem q3q_ (k : Nat) : zc_ (z3_ ti [(99, q3i_ k)] (lk []) z4_ z5_) (q3o_ k) (rdC (z3_ ti [(99, q3i_ k)] (lk []) z4_ z5_) [.tmp 4] (.int .i64)) ((zb_ (z2_ Tryz.f62)).getD 0 .skip) (fun σ kx => q3l_.get σ fun x => q3n_ k k x kx) := by
  refine ⟨q3l_, [(0, q3m_)], fun n x kx => q3n_ k n x kx, k, by kernel_rfl, by kernel_rfl, fun x kx => by kernel_rfl, ?_, fun σ kx => rfl⟩
  rintro n ⟨⟨c0, s1, i5, ⟨⟩⟩, ⟨⟩, ⟨⟩⟩ kx
  kernel_rfl
theorem q3r_ (k : Nat) : FnOK Tryz.prog 62 (q3p_ k) := by
  refine za_ (tab := [(99, q3i_ k)]) (l := []) z6_ z9_ mix (List.forall_mem_cons.2 ⟨q3k_ k, (List.forall_mem_nil _)⟩) (List.forall_mem_nil _) ⟨⟨Tryz.f62, (z2_ Tryz.f62), [.tmp 4], (q3o_ k), by kernel_rfl, by kernel_rfl, by kernel_rfl, by kernel_rfl, rfl, by decide, ⟨by kernel_rfl, ?_, ?_⟩, ?_⟩⟩
  · refine zf_ (n := 1) (by kernel_rfl) fun i hi => ?_
    match i, hi with
    | 0, _ => exact zd_ (by kernel_rfl) (q3q_ k)
    | n + 1, hi => omega
  · exact z8_ (by kernel_rfl)
  · rintro ⟨c0, s1⟩
    kernel_rfl
def z54_ (k : Nat) : Nat → zT4 → Int → (List Int) → Int → (zT4 → Int → Option Bool) → Option Bool
  | 0, _, _, _, _, _ => none
  | n + 1, c0, i3, s4, k5, e_2 => (if (decide (k5 < (List.length s4 : Int))) = true then (if (decide (1 < (List.length s4 : Int))) = true then (zbv_ s4 k5).bind fun r_5 => (zbw_ k c0 r_5).bind fun r_6 => (if (decide (r_6 < 0)) = true then some false else z54_ k n c0 i3 s4 (z0_ (k5 + 1)) e_2) else e_2 c0 i3) else e_2 c0 i3)
def z47_ (k : Nat) : Nat → zT4 → Int → (Option Bool) → Option Bool
  | 0, _, _, _ => none
  | n + 1, c0, i3, e_0 => (if (decide (i3 < (List.length c0 : Int))) = true then (if 0 ≤ i3 then (c0[i3.toNat]?).bind fun y_1 => (zf5_ k y_1).bind fun r_2 => (if (!r_2) = true then some false else (if (decide (0 < i3)) = true then (if 0 ≤ (z0_ (i3 - 1)) then (c0[(z0_ (i3 - 1)).toNat]?).bind fun y_3 => (zf6_ k y_3 y_1).bind fun r_4 => (if (!r_4) = true then some false else z54_ k k c0 i3 y_1 0 (fun c_5 i_6 => z47_ k n c_5 (z0_ (i_6 + 1)) e_0)) else none) else z54_ k k c0 i3 y_1 0 (fun c_7 i_8 => z47_ k n c_7 (z0_ (i_8 + 1)) e_0))) else none) else e_0)
def zbx_ (k : Nat) (c0 : List (List Int)) : Option Bool := (if (decide (48 < (List.length c0 : Int))) = true then some false else z47_ k k c0 0 (some true))
def q3s_ : Head := ⟨[(0, (.val (.ptr (.st (.sl 68 (.sl 2 (.int .i64))))))), (3, (.val (.int .i64))), (4, (.val (.sl 2 (.int .i64)))), (5, (.val (.int .i64)))], [], []⟩
def q3t_ : Head := ⟨[(0, (.val (.ptr (.st (.sl 68 (.sl 2 (.int .i64))))))), (3, (.val (.int .i64)))], [], []⟩
def q3u_ (k n : Nat) (x : q3s_.T) (kx : Nat → St → Option Bool) : Option Bool := z54_ k n x.1.1 x.1.2.1 x.1.2.2.1 x.1.2.2.2.1 (fun (c0 : List (List Int)) (i3 : Int) => kx 2 (q3t_.fill ((c0, i3, ()), (), ())))
def q3v_ : Head := ⟨[(0, (.val (.ptr (.st (.sl 68 (.sl 2 (.int .i64))))))), (3, (.val (.int .i64)))], [], []⟩
def q3w_ : Head := ⟨[], [], []⟩
def q3x_ (k n : Nat) (x : q3v_.T) (kx : Nat → St → Option Bool) : Option Bool := z47_ k n x.1.1 x.1.2.1 (kx 0 (q3w_.fill ((), (), ())))
def q3y_ (k : Nat) : Oracles Bool := ⟨fun n => bif Nat.beq n 10 then some (fun σ kx => q3s_.get σ fun x => q3u_ k k x kx) else bif Nat.beq n 4 then some (fun σ kx => q3v_.get σ fun x => q3x_ k k x kx) else none, fun _ => none⟩
def q3z_ (k : Nat) : FE := ⟨(.ptr (.st (.sl 68 (.sl 2 (.int .i64))))), 1, .bool, fun x => zbx_ k x⟩
theorem q40_ (k : Nat) : zc_ (z3_ ti [(60, q31_ k), (61, q37_ k), (63, q3c_), (62, q3p_ k)] (lk []) z4_ z5_) (q3y_ k) (rdC (z3_ ti [(60, q31_ k), (61, q37_ k), (63, q3c_), (62, q3p_ k)] (lk []) z4_ z5_) [.tmp 2] .bool) ((zb_ (z2_ Tryz.f30)).getD 1 .skip) (fun σ kx => q3s_.get σ fun x => q3u_ k k x kx) := by
  refine ⟨q3s_, [(2, q3t_)], fun n x kx => q3u_ k n x kx, k, by kernel_rfl, by kernel_rfl, fun x kx => by kernel_rfl, ?_, fun σ kx => rfl⟩
  rintro n ⟨⟨c0, i3, s4, k5, ⟨⟩⟩, ⟨⟩, ⟨⟩⟩ kx
  kernel_rfl
theorem q41_ (k : Nat) : zc_ (z3_ ti [(60, q31_ k), (61, q37_ k), (63, q3c_), (62, q3p_ k)] (lk []) z4_ z5_) (q3y_ k) (rdC (z3_ ti [(60, q31_ k), (61, q37_ k), (63, q3c_), (62, q3p_ k)] (lk []) z4_ z5_) [.tmp 2] .bool) ((zb_ (z2_ Tryz.f30)).getD 0 .skip) (fun σ kx => q3v_.get σ fun x => q3x_ k k x kx) := by
  refine ⟨q3v_, [(0, q3w_)], fun n x kx => q3x_ k n x kx, k, by kernel_rfl, by kernel_rfl, fun x kx => by kernel_rfl, ?_, fun σ kx => rfl⟩
  rintro n ⟨⟨c0, i3, ⟨⟩⟩, ⟨⟩, ⟨⟩⟩ kx
  kernel_rfl
theorem q42_ (k : Nat) : FnOK Tryz.prog 30 (q3z_ k) := by
  refine za_ (tab := [(60, q31_ k), (61, q37_ k), (63, q3c_), (62, q3p_ k)]) (l := []) z6_ z9_ mix (List.forall_mem_cons.2 ⟨q32_ k, (List.forall_mem_cons.2 ⟨q39_ k, (List.forall_mem_cons.2 ⟨q3d_, (List.forall_mem_cons.2 ⟨q3r_ k, (List.forall_mem_nil _)⟩)⟩)⟩)⟩) (List.forall_mem_nil _) ⟨⟨Tryz.f30, (z2_ Tryz.f30), [.tmp 2], (q3y_ k), by kernel_rfl, by kernel_rfl, by kernel_rfl, by kernel_rfl, rfl, by decide, ⟨by kernel_rfl, ?_, ?_⟩, ?_⟩⟩
  · refine zf_ (n := 2) (by kernel_rfl) fun i hi => ?_
    match i, hi with
    | 0, _ => exact zd_ (by kernel_rfl) (q41_ k)
    | 1, _ => exact zd_ (by kernel_rfl) (q40_ k)
    | n + 2, hi => omega
  · exact z8_ (by kernel_rfl)
  · rintro c0
    kernel_rfl
def z55_ (k : Nat) : Nat → Int → Int → (Option Bool) → Option Bool
  | 0, _, _, _ => none
  | n + 1, p0, k3, e_0 => (if (decide ((z0_ (k3 * k3)) ≤ p0)) = true then (if k3 = 0 then none else (if (decide ((Int.tmod p0 k3) = 0)) = true then some false else z55_ k n p0 (z0_ (k3 + 1)) e_0)) else e_0)
def zj0_ (k : Nat) (p0 : Int) : Option Bool := (z53_ p0 2 251).bind fun r_1 => (if (!r_1) = true then some false else z55_ k k p0 2 (some true))
def q43_ : Head := ⟨[(0, (.val (.int .i64))), (3, (.val (.int .i64)))], [], []⟩
def q44_ : Head := ⟨[], [], []⟩
def q45_ (k n : Nat) (x : q43_.T) (kx : Nat → St → Option Bool) : Option Bool := z55_ k n x.1.1 x.1.2.1 (kx 0 (q44_.fill ((), (), ())))
def q46_ (k : Nat) : Oracles Bool := ⟨fun n => bif Nat.beq n 4 then some (fun σ kx => q43_.get σ fun x => q45_ k k x kx) else none, fun _ => none⟩
def q47_ (k : Nat) : FE := ⟨(.int .i64), 1, .bool, fun x => zj0_ k x⟩
theorem q48_ (k : Nat) : zc_ (z3_ ti [(97, q2s_)] (lk []) z4_ z5_) (q46_ k) (rdC (z3_ ti [(97, q2s_)] (lk []) z4_ z5_) [.tmp 2] .bool) ((zb_ (z2_ Tryz.f139)).getD 0 .skip) (fun σ kx => q43_.get σ fun x => q45_ k k x kx) := by
  refine ⟨q43_, [(0, q44_)], fun n x kx => q45_ k n x kx, k, by kernel_rfl, by kernel_rfl, fun x kx => by kernel_rfl, ?_, fun σ kx => rfl⟩
  rintro n ⟨⟨p0, k3, ⟨⟩⟩, ⟨⟩, ⟨⟩⟩ kx
  kernel_rfl
theorem q49_ (k : Nat) : FnOK Tryz.prog 139 (q47_ k) := by
  refine za_ (tab := [(97, q2s_)]) (l := []) z6_ z9_ mix (List.forall_mem_cons.2 ⟨q2t_, (List.forall_mem_nil _)⟩) (List.forall_mem_nil _) ⟨⟨Tryz.f139, (z2_ Tryz.f139), [.tmp 2], (q46_ k), by kernel_rfl, by kernel_rfl, by kernel_rfl, by kernel_rfl, rfl, by decide, ⟨by kernel_rfl, ?_, ?_⟩, ?_⟩⟩
  · refine zf_ (n := 1) (by kernel_rfl) fun i hi => ?_
    match i, hi with
    | 0, _ => exact zd_ (by kernel_rfl) (q48_ k)
    | n + 1, hi => omega
  · exact z8_ (by kernel_rfl)
  · rintro p0
    kernel_rfl
def z70_ (k : Nat) (p0 : Int) : Option Bool := (zj0_ k p0).bind fun r_1 => some r_1
def q4a_ (k : Nat) : FE := ⟨(.int .i64), 1, .bool, fun x => z70_ k x⟩
theorem q4b_ (k : Nat) : FnOK Tryz.prog 101 (q4a_ k) := by
  refine za_ (tab := [(139, q47_ k)]) (l := []) z6_ z9_ mix (List.forall_mem_cons.2 ⟨q49_ k, (List.forall_mem_nil _)⟩) (List.forall_mem_nil _) ⟨⟨Tryz.f101, (z2_ Tryz.f101), [.tmp 2], (LOn Bool), by kernel_rfl, by kernel_rfl, by kernel_rfl, by kernel_rfl, rfl, by decide, ⟨by kernel_rfl, ?_, ?_⟩, ?_⟩⟩
  · exact zh_ (by kernel_rfl)
  · exact z8_ (by kernel_rfl)
  · rintro p0
    kernel_rfl
def z9m_ (k : Nat) : Nat → (List Int) → Int → Int → Int → ((List Int) → Int → Option Bool) → Option Bool
  | 0, _, _, _, _, _ => none
  | n + 1, v0, n1, p2, i7, e_0 => (if (decide (i7 < (List.length v0 : Int))) = true then (if 0 ≤ i7 then (v0[i7.toNat]?).bind fun y_1 => (z53_ y_1 0 (z0_ (p2 - 1))).bind fun r_2 => (if (!r_2) = true then some false else z9m_ k n v0 n1 p2 (z0_ (i7 + 1)) e_0) else none) else e_0 v0 n1)
def zby_ (k : Nat) (v0 : List Int) (n1 : Int) (p2 : Int) : Option Bool := z9m_ k k v0 n1 p2 0 (fun v_3 n_4 => some (decide ((List.length v_3 : Int) = n_4)))
def q4c_ : Head := ⟨[(0, (.val (.sl 2 (.int .i64)))), (1, (.val (.int .i64))), (2, (.val (.int .i64))), (7, (.val (.int .i64)))], [], []⟩
def q4d_ : Head := ⟨[(0, (.val (.sl 2 (.int .i64)))), (1, (.val (.int .i64)))], [], []⟩
def q4e_ (k n : Nat) (x : q4c_.T) (kx : Nat → St → Option Bool) : Option Bool := z9m_ k n x.1.1 x.1.2.1 x.1.2.2.1 x.1.2.2.2.1 (fun (v0 : List Int) (n1 : Int) => kx 0 (q4d_.fill ((v0, n1, ()), (), ())))
def q4f_ (k : Nat) : Oracles Bool := ⟨fun n => bif Nat.beq n 2 then some (fun σ kx => q4c_.get σ fun x => q4e_ k k x kx) else none, fun _ => none⟩
def q4g_ (k : Nat) : FE := ⟨(.pr (.sl 2 (.int .i64)) (.pr (.int .i64) (.int .i64))), 1, .bool, fun x => zby_ k x.1 x.2.1 x.2.2⟩
theorem q4h_ (k : Nat) : zc_ (z3_ ti [(97, q2s_)] (lk []) z4_ z5_) (q4f_ k) (rdC (z3_ ti [(97, q2s_)] (lk []) z4_ z5_) [.tmp 6] .bool) ((zb_ (z2_ Tryz.f140)).getD 0 .skip) (fun σ kx => q4c_.get σ fun x => q4e_ k k x kx) := by
  refine ⟨q4c_, [(0, q4d_)], fun n x kx => q4e_ k n x kx, k, by kernel_rfl, by kernel_rfl, fun x kx => by kernel_rfl, ?_, fun σ kx => rfl⟩
  rintro n ⟨⟨v0, n1, p2, i7, ⟨⟩⟩, ⟨⟩, ⟨⟩⟩ kx
  kernel_rfl
theorem q4i_ (k : Nat) : FnOK Tryz.prog 140 (q4g_ k) := by
  refine za_ (tab := [(97, q2s_)]) (l := []) z6_ z9_ mix (List.forall_mem_cons.2 ⟨q2t_, (List.forall_mem_nil _)⟩) (List.forall_mem_nil _) ⟨⟨Tryz.f140, (z2_ Tryz.f140), [.tmp 6], (q4f_ k), by kernel_rfl, by kernel_rfl, by kernel_rfl, by kernel_rfl, rfl, by decide, ⟨by kernel_rfl, ?_, ?_⟩, ?_⟩⟩
  · refine zf_ (n := 1) (by kernel_rfl) fun i hi => ?_
    match i, hi with
    | 0, _ => exact zd_ (by kernel_rfl) (q4h_ k)
    | n + 1, hi => omega
  · exact z8_ (by kernel_rfl)
  · rintro ⟨v0, n1, p2⟩
    kernel_rfl
def z71_ (k : Nat) : Nat → zT4 → Int → Int → (List Int) → ((List Int) → Option (List Int)) → Option (List Int)
  | 0, _, _, _, _, _ => none
  | n + 1, c0, dimension1, i6, q_1, e_0 => (if (decide (i6 < (List.length c0 : Int))) = true then (if 0 ≤ i6 then (c0[i6.toNat]?).bind fun y_2 => (if (decide ((List.length y_2 : Int) = (z0_ (dimension1 + 1)))) = true then (if (q_1.length + [i6].length) * 8 ≤ LIM then z71_ k n c0 dimension1 (z0_ (i6 + 1)) (q_1 ++ [i6]) e_0 else none) else z71_ k n c0 dimension1 (z0_ (i6 + 1)) q_1 e_0) else none) else e_0 q_1)
def zf8_ (k : Nat) (c0 : List (List Int)) (dimension1 : Int) : Option (List Int) := z71_ k k c0 dimension1 0 [] (fun q_3 => some q_3)
def q4j_ : Head := ⟨[(0, (.val (.ptr (.st (.sl 68 (.sl 2 (.int .i64))))))), (1, (.val (.int .i64))), (5, (.ref 64000000 [])), (6, (.val (.int .i64)))], [(64000000, 2, (.int .i64), false)], []⟩
def q4k_ : Head := ⟨[(5, (.ref 64000000 []))], [(64000000, 2, (.int .i64), false)], []⟩
def q4l_ (k n : Nat) (x : q4j_.T) (kx : Nat → St → Option (List Int)) : Option (List Int) := z71_ k n x.1.1 x.1.2.1 x.1.2.2.2.1 x.2.1.1 (fun (q_3 : List Int) => kx 0 (q4k_.fill (((), ()), (q_3, ()), ())))
def q4m_ (k : Nat) : Oracles (List Int) := ⟨fun n => bif Nat.beq n 3 then some (fun σ kx => q4j_.get σ fun x => q4l_ k k x kx) else none, fun _ => none⟩
def q4n_ (k : Nat) : FE := ⟨(.pr (.ptr (.st (.sl 68 (.sl 2 (.int .i64))))) (.int .i64)), 1, (.sl 2 (.int .i64)), fun x => zf8_ k x.1 x.2⟩
theorem q4o_ (k : Nat) : zc_ (z3_ ti [] (lk []) z4_ z5_) (q4m_ k) (rdC (z3_ ti [] (lk []) z4_ z5_) [.tmp 4] (.sl 2 (.int .i64))) ((zb_ (z2_ Tryz.f167)).getD 0 .skip) (fun σ kx => q4j_.get σ fun x => q4l_ k k x kx) := by
  refine ⟨q4j_, [(0, q4k_)], fun n x kx => q4l_ k n x kx, k, by kernel_rfl, by kernel_rfl, fun x kx => by kernel_rfl, ?_, fun σ kx => rfl⟩
  rintro n ⟨⟨c0, dimension1, ⟨⟩, i6, ⟨⟩⟩, ⟨q_1, ⟨⟩⟩, ⟨⟩⟩ kx
  kernel_rfl
theorem q4p_ (k : Nat) : FnOK Tryz.prog 167 (q4n_ k) := by
  refine za_ (tab := []) (l := []) z6_ z9_ mix (List.forall_mem_nil _) (List.forall_mem_nil _) ⟨⟨Tryz.f167, (z2_ Tryz.f167), [.tmp 4], (q4m_ k), by kernel_rfl, by kernel_rfl, by kernel_rfl, by kernel_rfl, rfl, by decide, ⟨by kernel_rfl, ?_, ?_⟩, ?_⟩⟩
  · refine zf_ (n := 1) (by kernel_rfl) fun i hi => ?_
    match i, hi with
    | 0, _ => exact zd_ (by kernel_rfl) (q4o_ k)
    | n + 1, hi => omega
  · exact z8_ (by kernel_rfl)
  · rintro ⟨c0, dimension1⟩
    kernel_rfl
end
end Go.Proofs.YtibiofjkgdidmaaGreatDoor.Ev
