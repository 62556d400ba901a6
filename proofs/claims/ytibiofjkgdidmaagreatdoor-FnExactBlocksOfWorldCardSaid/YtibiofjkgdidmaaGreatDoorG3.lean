/- Functions of the program, as plain ones. No conditions. -/
import Derived.Test.YtibiofjkgdidmaaGreatDoorG2
import Derived.KernelRfl
set_option linter.unusedVariables false
set_option maxRecDepth 100000
namespace Go.Proofs.YtibiofjkgdidmaaGreatDoor.Ev
open Go.RowKit
noncomputable section
def z9n_ (k : Nat) : Nat → (List Int) → Int → Int → (List Int) → (Int → Option Int) → Option Int
  | 0, _, _, _, _, _ => none
  | n + 1, stalks1, sum8, i9, q_2, e_0 => (if (decide (i9 < (List.length q_2 : Int))) = true then (if 0 ≤ i9 ∧ i9.toNat < List.length q_2 then (q_2[i9.toNat]?).bind fun y_3 => (if 0 ≤ y_3 then (stalks1[y_3.toNat]?).bind fun y_4 => z9n_ k n stalks1 (z0_ (sum8 + y_4)) (z0_ (i9 + 1)) q_2 e_0 else none) else none) else e_0 sum8)
def zf9_ (k : Nat) (c0 : List (List Int)) (stalks1 : List Int) (k2 : Int) : Option Int := (zf8_ k c0 k2).bind fun r_1 => z9n_ k k stalks1 0 0 r_1 (fun sum_5 => some sum_5)
def q4q_ : Head := ⟨[(1, (.val (.sl 2 (.int .i64)))), (7, (.ref 64000000 [])), (8, (.val (.int .i64))), (9, (.val (.int .i64)))], [(64000000, 2, (.int .i64), false)], []⟩
def q4r_ : Head := ⟨[(8, (.val (.int .i64)))], [], []⟩
def q4s_ (k n : Nat) (x : q4q_.T) (kx : Nat → St → Option Int) : Option Int := z9n_ k n x.1.1 x.1.2.2.1 x.1.2.2.2.1 x.2.1.1 (fun (sum8 : Int) => kx 0 (q4r_.fill ((sum8, ()), (), ())))
def q4t_ (k : Nat) : Oracles Int := ⟨fun n => bif Nat.beq n 4 then some (fun σ kx => q4q_.get σ fun x => q4s_ k k x kx) else none, fun _ => none⟩
def q4u_ (k : Nat) : FE := ⟨(.pr (.ptr (.st (.sl 68 (.sl 2 (.int .i64))))) (.pr (.sl 2 (.int .i64)) (.int .i64))), 1, (.int .i64), fun x => zf9_ k x.1 x.2.1 x.2.2⟩
theorem q4v_ (k : Nat) : zc_ (z3_ ti [(167, q4n_ k)] (lk []) z4_ z5_) (q4t_ k) (rdC (z3_ ti [(167, q4n_ k)] (lk []) z4_ z5_) [.tmp 6] (.int .i64)) ((zb_ (z2_ Tryz.f141)).getD 0 .skip) (fun σ kx => q4q_.get σ fun x => q4s_ k k x kx) := by
  refine ⟨q4q_, [(0, q4r_)], fun n x kx => q4s_ k n x kx, k, by kernel_rfl, by kernel_rfl, fun x kx => by kernel_rfl, ?_, fun σ kx => rfl⟩
  rintro n ⟨⟨stalks1, ⟨⟩, sum8, i9, ⟨⟩⟩, ⟨q_2, ⟨⟩⟩, ⟨⟩⟩ kx
  kernel_rfl
theorem q4w_ (k : Nat) : FnOK Tryz.prog 141 (q4u_ k) := by
  refine za_ (tab := [(167, q4n_ k)]) (l := []) z6_ z9_ mix (List.forall_mem_cons.2 ⟨q4p_ k, (List.forall_mem_nil _)⟩) (List.forall_mem_nil _) ⟨⟨Tryz.f141, (z2_ Tryz.f141), [.tmp 6], (q4t_ k), by kernel_rfl, by kernel_rfl, by kernel_rfl, by kernel_rfl, rfl, by decide, ⟨by kernel_rfl, ?_, ?_⟩, ?_⟩⟩
  · refine zf_ (n := 1) (by kernel_rfl) fun i hi => ?_
    match i, hi with
    | 0, _ => exact zd_ (by kernel_rfl) (q4v_ k)
    | n + 1, hi => omega
  · exact z8_ (by kernel_rfl)
  · rintro ⟨c0, stalks1, k2⟩
    kernel_rfl
def z9o_ (k : Nat) : Nat → zT4 → (List Int) → Int → (Option Bool) → Option Bool
  | 0, _, _, _, _ => none
  | n + 1, c0, stalks1, k5, e_0 => (if (decide (k5 ≤ 3)) = true then (zf9_ k c0 stalks1 k5).bind fun r_2 => (if (decide (32 < r_2)) = true then some false else z9o_ k n c0 stalks1 (z0_ (k5 + 1)) e_0) else e_0)
def zfa_ (k : Nat) (c0 : List (List Int)) (stalks1 : List Int) : Option Bool := (zby_ k stalks1 (List.length c0 : Int) 4).bind fun r_1 => (if (!r_1) = true then some false else z9o_ k k c0 stalks1 0 (some true))
def q4x_ : Head := ⟨[(0, (.val (.ptr (.st (.sl 68 (.sl 2 (.int .i64))))))), (1, (.val (.sl 2 (.int .i64)))), (5, (.val (.int .i64)))], [], []⟩
def q4y_ : Head := ⟨[], [], []⟩
def q4z_ (k n : Nat) (x : q4x_.T) (kx : Nat → St → Option Bool) : Option Bool := z9o_ k n x.1.1 x.1.2.1 x.1.2.2.1 (kx 0 (q4y_.fill ((), (), ())))
def q50_ (k : Nat) : Oracles Bool := ⟨fun n => bif Nat.beq n 4 then some (fun σ kx => q4x_.get σ fun x => q4z_ k k x kx) else none, fun _ => none⟩
def q51_ (k : Nat) : FE := ⟨(.pr (.ptr (.st (.sl 68 (.sl 2 (.int .i64))))) (.sl 2 (.int .i64))), 1, .bool, fun x => zfa_ k x.1 x.2⟩
theorem q52_ (k : Nat) : zc_ (z3_ ti [(140, q4g_ k), (141, q4u_ k)] (lk []) z4_ z5_) (q50_ k) (rdC (z3_ ti [(140, q4g_ k), (141, q4u_ k)] (lk []) z4_ z5_) [.tmp 4] .bool) ((zb_ (z2_ Tryz.f102)).getD 0 .skip) (fun σ kx => q4x_.get σ fun x => q4z_ k k x kx) := by
  refine ⟨q4x_, [(0, q4y_)], fun n x kx => q4z_ k n x kx, k, by kernel_rfl, by kernel_rfl, fun x kx => by kernel_rfl, ?_, fun σ kx => rfl⟩
  rintro n ⟨⟨c0, stalks1, k5, ⟨⟩⟩, ⟨⟩, ⟨⟩⟩ kx
  kernel_rfl
theorem q53_ (k : Nat) : FnOK Tryz.prog 102 (q51_ k) := by
  refine za_ (tab := [(140, q4g_ k), (141, q4u_ k)]) (l := []) z6_ z9_ mix (List.forall_mem_cons.2 ⟨q4i_ k, (List.forall_mem_cons.2 ⟨q4w_ k, (List.forall_mem_nil _)⟩)⟩) (List.forall_mem_nil _) ⟨⟨Tryz.f102, (z2_ Tryz.f102), [.tmp 4], (q50_ k), by kernel_rfl, by kernel_rfl, by kernel_rfl, by kernel_rfl, rfl, by decide, ⟨by kernel_rfl, ?_, ?_⟩, ?_⟩⟩
  · refine zf_ (n := 1) (by kernel_rfl) fun i hi => ?_
    match i, hi with
    | 0, _ => exact zd_ (by kernel_rfl) (q52_ k)
    | n + 1, hi => omega
  · exact z8_ (by kernel_rfl)
  · rintro ⟨c0, stalks1⟩
    kernel_rfl
def z72_ (k : Nat) : Nat → zT4 → Int → Int → Int → Int → (Int → Int → Option Int) → Option Int
  | 0, _, _, _, _, _, _ => none
  | n + 1, c0, simplex1, i2, at7, k8, e_0 => (if (decide (k8 < simplex1)) = true then (if 0 ≤ k8 then (c0[k8.toNat]?).bind fun y_1 => (if (decide (1 < (List.length y_1 : Int))) = true then (if 0 ≤ k8 then (c0[k8.toNat]?).bind fun y_2 => z72_ k n c0 simplex1 i2 (z0_ (at7 + (List.length y_2 : Int))) (z0_ (k8 + 1)) e_0 else none) else z72_ k n c0 simplex1 i2 at7 (z0_ (k8 + 1)) e_0) else none) else e_0 i2 at7)
def z9p_ (k : Nat) (c0 : List (List Int)) (simplex1 : Int) (i2 : Int) : Option Int := z72_ k k c0 simplex1 i2 0 0 (fun i_3 at_4 => some (z0_ (at_4 + i_3)))
def q54_ : Head := ⟨[(0, (.val (.ptr (.st (.sl 68 (.sl 2 (.int .i64))))))), (1, (.val (.int .i64))), (2, (.val (.int .i64))), (7, (.val (.int .i64))), (8, (.val (.int .i64)))], [], []⟩
def q55_ : Head := ⟨[(2, (.val (.int .i64))), (7, (.val (.int .i64)))], [], []⟩
def q56_ (k n : Nat) (x : q54_.T) (kx : Nat → St → Option Int) : Option Int := z72_ k n x.1.1 x.1.2.1 x.1.2.2.1 x.1.2.2.2.1 x.1.2.2.2.2.1 (fun (i2 : Int) (at7 : Int) => kx 0 (q55_.fill ((i2, at7, ()), (), ())))
def q57_ (k : Nat) : Oracles Int := ⟨fun n => bif Nat.beq n 3 then some (fun σ kx => q54_.get σ fun x => q56_ k k x kx) else none, fun _ => none⟩
def q58_ (k : Nat) : FE := ⟨(.pr (.ptr (.st (.sl 68 (.sl 2 (.int .i64))))) (.pr (.int .i64) (.int .i64))), 1, (.int .i64), fun x => z9p_ k x.1 x.2.1 x.2.2⟩
theorem q59_ (k : Nat) : zc_ (z3_ ti [] (lk []) z4_ z5_) (q57_ k) (rdC (z3_ ti [] (lk []) z4_ z5_) [.tmp 6] (.int .i64)) ((zb_ (z2_ Tryz.f105)).getD 0 .skip) (fun σ kx => q54_.get σ fun x => q56_ k k x kx) := by
  refine ⟨q54_, [(0, q55_)], fun n x kx => q56_ k n x kx, k, by kernel_rfl, by kernel_rfl, fun x kx => by kernel_rfl, ?_, fun σ kx => rfl⟩
  rintro n ⟨⟨c0, simplex1, i2, at7, k8, ⟨⟩⟩, ⟨⟩, ⟨⟩⟩ kx
  kernel_rfl
theorem q5a_ (k : Nat) : FnOK Tryz.prog 105 (q58_ k) := by
  refine za_ (tab := []) (l := []) z6_ z9_ mix (List.forall_mem_nil _) (List.forall_mem_nil _) ⟨⟨Tryz.f105, (z2_ Tryz.f105), [.tmp 6], (q57_ k), by kernel_rfl, by kernel_rfl, by kernel_rfl, by kernel_rfl, rfl, by decide, ⟨by kernel_rfl, ?_, ?_⟩, ?_⟩⟩
  · refine zf_ (n := 1) (by kernel_rfl) fun i hi => ?_
    match i, hi with
    | 0, _ => exact zd_ (by kernel_rfl) (q59_ k)
    | n + 1, hi => omega
  · exact z8_ (by kernel_rfl)
  · rintro ⟨c0, simplex1, i2⟩
    kernel_rfl
def zfb_ (k : Nat) (c0 : List (List Int)) : Option Int := (z9p_ k c0 (List.length c0 : Int) 0).bind fun r_1 => some r_1
def q5b_ (k : Nat) : FE := ⟨(.ptr (.st (.sl 68 (.sl 2 (.int .i64))))), 1, (.int .i64), fun x => zfb_ k x⟩
theorem q5c_ (k : Nat) : FnOK Tryz.prog 103 (q5b_ k) := by
  refine za_ (tab := [(105, q58_ k)]) (l := []) z6_ z9_ mix (List.forall_mem_cons.2 ⟨q5a_ k, (List.forall_mem_nil _)⟩) (List.forall_mem_nil _) ⟨⟨Tryz.f103, (z2_ Tryz.f103), [.tmp 2], (LOn Int), by kernel_rfl, by kernel_rfl, by kernel_rfl, by kernel_rfl, rfl, by decide, ⟨by kernel_rfl, ?_, ?_⟩, ?_⟩⟩
  · exact zh_ (by kernel_rfl)
  · exact z8_ (by kernel_rfl)
  · rintro c0
    kernel_rfl
def z73_ (k : Nat) : Nat → zT4 → (List Int) → Int → (List Int) → ((List Int) → Option (List Int)) → Option (List Int)
  | 0, _, _, _, _, _ => none
  | n + 1, c0, s5, i7, q_2, e_0 => (if (decide (i7 < (List.length s5 : Int))) = true then (if (decide (1 < (List.length s5 : Int))) = true then (zbv_ s5 i7).bind fun r_3 => (zbw_ k c0 r_3).bind fun r_4 => (if (q_2.length + [r_4].length) * 8 ≤ LIM then z73_ k n c0 s5 (z0_ (i7 + 1)) (q_2 ++ [r_4]) e_0 else none) else e_0 q_2) else e_0 q_2)
def zbz_ (k : Nat) (c0 : List (List Int)) (k1 : Int) : Option (List Int) := (if 0 ≤ k1 then (c0[k1.toNat]?).bind fun y_1 => z73_ k k c0 y_1 0 [] (fun q_5 => some q_5) else none)
def q5d_ : Head := ⟨[(0, (.val (.ptr (.st (.sl 68 (.sl 2 (.int .i64))))))), (5, (.val (.sl 2 (.int .i64)))), (6, (.ref 64000000 [])), (7, (.val (.int .i64)))], [(64000000, 2, (.int .i64), false)], []⟩
def q5e_ : Head := ⟨[(6, (.ref 64000000 []))], [(64000000, 2, (.int .i64), false)], []⟩
def q5f_ (k n : Nat) (x : q5d_.T) (kx : Nat → St → Option (List Int)) : Option (List Int) := z73_ k n x.1.1 x.1.2.1 x.1.2.2.2.1 x.2.1.1 (fun (q_5 : List Int) => kx 0 (q5e_.fill (((), ()), (q_5, ()), ())))
def q5g_ (k : Nat) : Oracles (List Int) := ⟨fun n => bif Nat.beq n 4 then some (fun σ kx => q5d_.get σ fun x => q5f_ k k x kx) else none, fun _ => none⟩
def q5h_ (k : Nat) : FE := ⟨(.pr (.ptr (.st (.sl 68 (.sl 2 (.int .i64))))) (.int .i64)), 1, (.sl 2 (.int .i64)), fun x => zbz_ k x.1 x.2⟩
theorem q5i_ (k : Nat) : zc_ (z3_ ti [(63, q3c_), (62, q3p_ k)] (lk []) z4_ z5_) (q5g_ k) (rdC (z3_ ti [(63, q3c_), (62, q3p_ k)] (lk []) z4_ z5_) [.tmp 4] (.sl 2 (.int .i64))) ((zb_ (z2_ Tryz.f142)).getD 0 .skip) (fun σ kx => q5d_.get σ fun x => q5f_ k k x kx) := by
  refine ⟨q5d_, [(0, q5e_)], fun n x kx => q5f_ k n x kx, k, by kernel_rfl, by kernel_rfl, fun x kx => by kernel_rfl, ?_, fun σ kx => rfl⟩
  rintro n ⟨⟨c0, s5, ⟨⟩, i7, ⟨⟩⟩, ⟨q_2, ⟨⟩⟩, ⟨⟩⟩ kx
  kernel_rfl
theorem q5j_ (k : Nat) : FnOK Tryz.prog 142 (q5h_ k) := by
  refine za_ (tab := [(63, q3c_), (62, q3p_ k)]) (l := []) z6_ z9_ mix (List.forall_mem_cons.2 ⟨q3d_, (List.forall_mem_cons.2 ⟨q3r_ k, (List.forall_mem_nil _)⟩)⟩) (List.forall_mem_nil _) ⟨⟨Tryz.f142, (z2_ Tryz.f142), [.tmp 4], (q5g_ k), by kernel_rfl, by kernel_rfl, by kernel_rfl, by kernel_rfl, rfl, by decide, ⟨by kernel_rfl, ?_, ?_⟩, ?_⟩⟩
  · refine zf_ (n := 1) (by kernel_rfl) fun i hi => ?_
    match i, hi with
    | 0, _ => exact zd_ (by kernel_rfl) (q5i_ k)
    | n + 1, hi => omega
  · exact z8_ (by kernel_rfl)
  · rintro ⟨c0, k1⟩
    kernel_rfl
def z9q_ (k : Nat) (m0 : Int × Int × Int × List Int) : Option Bool := (z70_ k m0.1).bind fun r_1 => (if r_1 = true then (z53_ m0.2.1 0 32).bind fun r_2 => (if r_2 = true then (z53_ m0.2.2.1 0 32).bind fun r_3 => (if r_3 = true then (zby_ k m0.2.2.2 (z0_ (m0.2.1 * m0.2.2.1)) m0.1).bind fun r_4 => some r_4 else some false) else some false) else some false)
def q5k_ (k : Nat) : FE := ⟨(.ptr (.st (.pr (.int .i64) (.pr (.int .i64) (.pr (.int .i64) (.sl 2 (.int .i64))))))), 1, .bool, fun x => z9q_ k x⟩
theorem q5l_ (k : Nat) : FnOK Tryz.prog 143 (q5k_ k) := by
  refine za_ (tab := [(101, q4a_ k), (97, q2s_), (140, q4g_ k)]) (l := []) z6_ z9_ mix (List.forall_mem_cons.2 ⟨q4b_ k, (List.forall_mem_cons.2 ⟨q2t_, (List.forall_mem_cons.2 ⟨q4i_ k, (List.forall_mem_nil _)⟩)⟩)⟩) (List.forall_mem_nil _) ⟨⟨Tryz.f143, (z2_ Tryz.f143), [.tmp 2], (LOn Bool), by kernel_rfl, by kernel_rfl, by kernel_rfl, by kernel_rfl, rfl, by decide, ⟨by kernel_rfl, ?_, ?_⟩, ?_⟩⟩
  · exact zh_ (by kernel_rfl)
  · exact z8_ (by kernel_rfl)
  · rintro m0
    kernel_rfl
def zj1_ (k : Nat) (s0 : List (List Int) × Int × List Int × List (Int × Int × Int × List Int)) (simplex1 : Int) (i2 : Int) (m3 : Int × Int × Int × List Int) : Option Bool := (zbz_ k s0.1 simplex1).bind fun r_1 => (if 0 ≤ i2 ∧ i2.toNat < List.length r_1 then (r_1[i2.toNat]?).bind fun y_2 => (z9q_ k m3).bind fun r_3 => (if r_3 = true then (if (decide (m3.1 = s0.2.1)) = true then (if 0 ≤ simplex1 then (s0.2.2.1[simplex1.toNat]?).bind fun y_4 => (if (decide (m3.2.1 = y_4)) = true then (if 0 ≤ y_2 then (s0.2.2.1[y_2.toNat]?).bind fun y_5 => some (decide (m3.2.2.1 = y_5)) else none) else some false) else none) else some false) else some false) else none)
def q5m_ (k : Nat) : FE := ⟨(.pr (.ptr (.st (.pr (.st (.sl 68 (.sl 2 (.int .i64)))) (.pr (.int .i64) (.pr (.sl 2 (.int .i64)) (.sl 147 (.st (.pr (.int .i64) (.pr (.int .i64) (.pr (.int .i64) (.sl 2 (.int .i64)))))))))))) (.pr (.int .i64) (.pr (.int .i64) (.ptr (.st (.pr (.int .i64) (.pr (.int .i64) (.pr (.int .i64) (.sl 2 (.int .i64)))))))))), 1, .bool, fun x => zj1_ k x.1 x.2.1 x.2.2.1 x.2.2.2⟩
theorem q5n_ (k : Nat) : FnOK Tryz.prog 104 (q5m_ k) := by
  refine za_ (tab := [(142, q5h_ k), (143, q5k_ k)]) (l := []) z6_ z9_ mix (List.forall_mem_cons.2 ⟨q5j_ k, (List.forall_mem_cons.2 ⟨q5l_ k, (List.forall_mem_nil _)⟩)⟩) (List.forall_mem_nil _) ⟨⟨Tryz.f104, (z2_ Tryz.f104), [.tmp 8], (LOn Bool), by kernel_rfl, by kernel_rfl, by kernel_rfl, by kernel_rfl, rfl, by decide, ⟨by kernel_rfl, ?_, ?_⟩, ?_⟩⟩
  · exact zh_ (by kernel_rfl)
  · exact z8_ (by kernel_rfl)
  · rintro ⟨s0, simplex1, i2, m3⟩
    kernel_rfl
def z9r_ (k : Nat) : Nat → zT2 → Int → Int → (zT2 → Int → Option Bool) → Option Bool
  | 0, _, _, _, _ => none
  | n + 1, s0, k3, i4, e_2 => (if 0 ≤ k3 then (s0.1[k3.toNat]?).bind fun y_5 => (if (decide (i4 < (List.length y_5 : Int))) = true then (if 0 ≤ k3 then (s0.1[k3.toNat]?).bind fun y_6 => (if (decide (1 < (List.length y_6 : Int))) = true then (z9p_ k s0.1 k3 i4).bind fun r_7 => (if 0 ≤ r_7 then (s0.2.2.2[r_7.toNat]?).bind fun y_8 => (zj1_ k s0 k3 i4 y_8).bind fun r_9 => (if (!r_9) = true then some false else z9r_ k n s0 k3 (z0_ (i4 + 1)) e_2) else none) else e_2 s0 k3) else none) else e_2 s0 k3) else none)
def z64_ (k : Nat) : Nat → zT2 → Int → (Option Bool) → Option Bool
  | 0, _, _, _ => none
  | n + 1, s0, k3, e_0 => (if (decide (k3 < (List.length s0.1 : Int))) = true then z9r_ k k s0 k3 0 (fun s_5 k_6 => z64_ k n s_5 (z0_ (k_6 + 1)) e_0) else e_0)
def zfc_ (k : Nat) (s0 : List (List Int) × Int × List Int × List (Int × Int × Int × List Int)) : Option Bool := (zbx_ k s0.1).bind fun r_1 => (if (!r_1) = true then some false else (z70_ k s0.2.1).bind fun r_2 => (if (!r_2) = true then some false else (zfa_ k s0.1 s0.2.2.1).bind fun r_3 => (if (!r_3) = true then some false else (zfb_ k s0.1).bind fun r_4 => (if (!(decide ((List.length s0.2.2.2 : Int) = r_4))) = true then some false else z64_ k k s0 0 (some true)))))
def q5o_ : Head := ⟨[(0, (.val (.ptr (.st (.pr (.st (.sl 68 (.sl 2 (.int .i64)))) (.pr (.int .i64) (.pr (.sl 2 (.int .i64)) (.sl 147 (.st (.pr (.int .i64) (.pr (.int .i64) (.pr (.int .i64) (.sl 2 (.int .i64)))))))))))))), (3, (.val (.int .i64))), (4, (.val (.int .i64)))], [], []⟩
def q5p_ : Head := ⟨[(0, (.val (.ptr (.st (.pr (.st (.sl 68 (.sl 2 (.int .i64)))) (.pr (.int .i64) (.pr (.sl 2 (.int .i64)) (.sl 147 (.st (.pr (.int .i64) (.pr (.int .i64) (.pr (.int .i64) (.sl 2 (.int .i64)))))))))))))), (3, (.val (.int .i64)))], [], []⟩
def q5q_ (k n : Nat) (x : q5o_.T) (kx : Nat → St → Option Bool) : Option Bool := z9r_ k n x.1.1 x.1.2.1 x.1.2.2.1 (fun (s0 : List (List Int) × Int × List Int × List (Int × Int × Int × List Int)) (k3 : Int) => kx 2 (q5p_.fill ((s0, k3, ()), (), ())))
def q5r_ : Head := ⟨[(0, (.val (.ptr (.st (.pr (.st (.sl 68 (.sl 2 (.int .i64)))) (.pr (.int .i64) (.pr (.sl 2 (.int .i64)) (.sl 147 (.st (.pr (.int .i64) (.pr (.int .i64) (.pr (.int .i64) (.sl 2 (.int .i64)))))))))))))), (3, (.val (.int .i64)))], [], []⟩
def q5s_ : Head := ⟨[], [], []⟩
def q5t_ (k n : Nat) (x : q5r_.T) (kx : Nat → St → Option Bool) : Option Bool := z64_ k n x.1.1 x.1.2.1 (kx 0 (q5s_.fill ((), (), ())))
def q5u_ (k : Nat) : Oracles Bool := ⟨fun n => bif Nat.beq n 7 then some (fun σ kx => q5o_.get σ fun x => q5q_ k k x kx) else bif Nat.beq n 4 then some (fun σ kx => q5r_.get σ fun x => q5t_ k k x kx) else none, fun _ => none⟩
def q5v_ (k : Nat) : FE := ⟨(.ptr (.st (.pr (.st (.sl 68 (.sl 2 (.int .i64)))) (.pr (.int .i64) (.pr (.sl 2 (.int .i64)) (.sl 147 (.st (.pr (.int .i64) (.pr (.int .i64) (.pr (.int .i64) (.sl 2 (.int .i64)))))))))))), 1, .bool, fun x => zfc_ k x⟩
theorem q5w_ (k : Nat) : zc_ (z3_ ti [(30, q3z_ k), (101, q4a_ k), (102, q51_ k), (103, q5b_ k), (105, q58_ k), (104, q5m_ k)] (lk []) z4_ z5_) (q5u_ k) (rdC (z3_ ti [(30, q3z_ k), (101, q4a_ k), (102, q51_ k), (103, q5b_ k), (105, q58_ k), (104, q5m_ k)] (lk []) z4_ z5_) [.tmp 2] .bool) ((zb_ (z2_ Tryz.f64)).getD 1 .skip) (fun σ kx => q5o_.get σ fun x => q5q_ k k x kx) := by
  refine ⟨q5o_, [(2, q5p_)], fun n x kx => q5q_ k n x kx, k, by kernel_rfl, by kernel_rfl, fun x kx => by kernel_rfl, ?_, fun σ kx => rfl⟩
  rintro n ⟨⟨s0, k3, i4, ⟨⟩⟩, ⟨⟩, ⟨⟩⟩ kx
  kernel_rfl
theorem q5x_ (k : Nat) : zc_ (z3_ ti [(30, q3z_ k), (101, q4a_ k), (102, q51_ k), (103, q5b_ k), (105, q58_ k), (104, q5m_ k)] (lk []) z4_ z5_) (q5u_ k) (rdC (z3_ ti [(30, q3z_ k), (101, q4a_ k), (102, q51_ k), (103, q5b_ k), (105, q58_ k), (104, q5m_ k)] (lk []) z4_ z5_) [.tmp 2] .bool) ((zb_ (z2_ Tryz.f64)).getD 0 .skip) (fun σ kx => q5r_.get σ fun x => q5t_ k k x kx) := by
  refine ⟨q5r_, [(0, q5s_)], fun n x kx => q5t_ k n x kx, k, by kernel_rfl, by kernel_rfl, fun x kx => by kernel_rfl, ?_, fun σ kx => rfl⟩
  rintro n ⟨⟨s0, k3, ⟨⟩⟩, ⟨⟩, ⟨⟩⟩ kx
  kernel_rfl
theorem q5y_ (k : Nat) : FnOK Tryz.prog 64 (q5v_ k) := by
  refine za_ (tab := [(30, q3z_ k), (101, q4a_ k), (102, q51_ k), (103, q5b_ k), (105, q58_ k), (104, q5m_ k)]) (l := []) z6_ z9_ mix (List.forall_mem_cons.2 ⟨q42_ k, (List.forall_mem_cons.2 ⟨q4b_ k, (List.forall_mem_cons.2 ⟨q53_ k, (List.forall_mem_cons.2 ⟨q5c_ k, (List.forall_mem_cons.2 ⟨q5a_ k, (List.forall_mem_cons.2 ⟨q5n_ k, (List.forall_mem_nil _)⟩)⟩)⟩)⟩)⟩)⟩) (List.forall_mem_nil _) ⟨⟨Tryz.f64, (z2_ Tryz.f64), [.tmp 2], (q5u_ k), by kernel_rfl, by kernel_rfl, by kernel_rfl, by kernel_rfl, rfl, by decide, ⟨by kernel_rfl, ?_, ?_⟩, ?_⟩⟩
  · refine zf_ (n := 2) (by kernel_rfl) fun i hi => ?_
    match i, hi with
    | 0, _ => exact zd_ (by kernel_rfl) (q5x_ k)
    | 1, _ => exact zd_ (by kernel_rfl) (q5w_ k)
    | n + 2, hi => omega
  · exact z8_ (by kernel_rfl)
  · rintro s0
    kernel_rfl
def z74_ (k : Nat) (s0 : List (List Int) × Int × List Int × List (Int × Int × Int × List Int)) (simplex1 : Int) (i2 : Int) : Option (Int × Int × Int × List Int) := (z9p_ k s0.1 simplex1 i2).bind fun r_1 => (if 0 ≤ r_1 then (s0.2.2.2[r_1.toNat]?).bind fun y_2 => some y_2 else none)
def q5z_ (k : Nat) : FE := ⟨(.pr (.ptr (.st (.pr (.st (.sl 68 (.sl 2 (.int .i64)))) (.pr (.int .i64) (.pr (.sl 2 (.int .i64)) (.sl 147 (.st (.pr (.int .i64) (.pr (.int .i64) (.pr (.int .i64) (.sl 2 (.int .i64)))))))))))) (.pr (.int .i64) (.int .i64))), RON, (.ptr (.st (.pr (.int .i64) (.pr (.int .i64) (.pr (.int .i64) (.sl 2 (.int .i64))))))), fun x => z74_ k x.1 x.2.1 x.2.2⟩
theorem q60_ (k : Nat) : FnOK Tryz.prog 145 (q5z_ k) := by
  refine ziq_ (tab := [(105, q58_ k)]) (l := []) z6_ z9_ mix (List.forall_mem_cons.2 ⟨q5a_ k, (List.forall_mem_nil _)⟩) (List.forall_mem_nil _) ⟨⟨Tryz.f145, (z2_ Tryz.f145), [.tmp 6], (LOn (Int × Int × Int × List Int)), by kernel_rfl, by kernel_rfl, by kernel_rfl, by kernel_rfl, by decide, ⟨by kernel_rfl, ?_, ?_⟩, ?_⟩⟩
  · exact zh_ (by kernel_rfl)
  · exact z8_ (by kernel_rfl)
  · rintro ⟨s0, simplex1, i2⟩
    kernel_rfl
def zj2_ (p0 : Int) (rows1 : Int) (columns2 : Int) : Option (Int × Int × Int × List Int) := (if 0 ≤ (z0_ (rows1 * columns2)) ∧ (z0_ (rows1 * columns2)) ≤ (z0_ (rows1 * columns2)) ∧ (z0_ (rows1 * columns2)) * 8 ≤ LIM then some (p0, (rows1, (columns2, (List.replicate (z0_ (rows1 * columns2)).toNat 0)))) else none)
def q61_ : FE := ⟨(.pr (.int .i64) (.pr (.int .i64) (.int .i64))), 1, (.st (.pr (.int .i64) (.pr (.int .i64) (.pr (.int .i64) (.sl 2 (.int .i64)))))), fun x => zj2_ x.1 x.2.1 x.2.2⟩
theorem q62_ : FnOK Tryz.prog 168 (q61_) := by
  refine za_ (tab := []) (l := []) z6_ z9_ mix (List.forall_mem_nil _) (List.forall_mem_nil _) ⟨⟨Tryz.f168, (z2_ Tryz.f168), [.cell 6 147], (LOn (Int × Int × Int × List Int)), by kernel_rfl, by kernel_rfl, by kernel_rfl, by kernel_rfl, rfl, by decide, ⟨by kernel_rfl, ?_, ?_⟩, ?_⟩⟩
  · exact zh_ (by kernel_rfl)
  · exact z8_ (by kernel_rfl)
  · rintro ⟨p0, rows1, columns2⟩
    kernel_rfl
def z75_ (k : Nat) : Nat → (Int × Int × Int × List Int) → (Int × Int × Int × List Int) → Int → Int → Int → Int → (List Int) → (List Int) → Int → Int → Int → Int → Int → Int → ((Int × Int × Int × List Int) → (Int × Int × Int × List Int) → Int → Int → Int → (List Int) → (List Int) → Int → Int → Int → Int → Int → Int → Option (Int × Int × Int × List Int)) → Option (Int × Int × Int × List Int)
  | 0, _, _, _, _, _, _, _, _, _, _, _, _, _, _, _ => none
  | n + 1, a0, b1, i6, k7, sum8, j9, q_6, q_7, v_4a, v_4ba, v_4bba, v_5a, v_5ba, v_5bba, e_4 => (if (decide (j9 < a0.2.2.1)) = true then (if 0 ≤ (z0_ ((z0_ (i6 * a0.2.2.1)) + j9)) then (a0.2.2.2[(z0_ ((z0_ (i6 * a0.2.2.1)) + j9)).toNat]?).bind fun y_8 => (if 0 ≤ (z0_ ((z0_ (j9 * b1.2.2.1)) + k7)) then (b1.2.2.2[(z0_ ((z0_ (j9 * b1.2.2.1)) + k7)).toNat]?).bind fun y_9 => z75_ k n a0 b1 i6 k7 (z0_ (sum8 + (z0_ (y_8 * y_9)))) (z0_ (j9 + 1)) q_6 q_7 v_4a v_4ba v_4bba v_5a v_5ba v_5bba e_4 else none) else none) else e_4 a0 b1 i6 k7 sum8 q_6 q_7 v_4a v_4ba v_4bba v_5a v_5ba v_5bba)
def z76_ (k : Nat) : Nat → (Int × Int × Int × List Int) → (Int × Int × Int × List Int) → Int → Int → (List Int) → (List Int) → Int → Int → Int → Int → Int → Int → ((Int × Int × Int × List Int) → (Int × Int × Int × List Int) → Int → (List Int) → (List Int) → Int → Int → Int → Int → Int → Int → Option (Int × Int × Int × List Int)) → Option (Int × Int × Int × List Int)
  | 0, _, _, _, _, _, _, _, _, _, _, _, _, _ => none
  | n + 1, a0, b1, i6, k7, q_4, q_5, v_4a, v_4ba, v_4bba, v_5a, v_5ba, v_5bba, e_2 => (if (decide (k7 < b1.2.2.1)) = true then z75_ k k a0 b1 i6 k7 0 0 q_4 q_5 v_4a v_4ba v_4bba v_5a v_5ba v_5bba (fun a_6 b_7 i_8 k_9 sum_10 q_11 q_12 v_4a_13 v_4ba_14 v_4bba_15 v_5a_16 v_5ba_17 v_5bba_18 => (if a_6.1 = 0 then none else (if 0 ≤ (z0_ ((z0_ (i_8 * b_7.2.2.1)) + k_9)) ∧ (z0_ ((z0_ (i_8 * b_7.2.2.1)) + k_9)).toNat < List.length q_12 then (q_12[(z0_ ((z0_ (i_8 * b_7.2.2.1)) + k_9)).toNat]?).bind fun y_19 => (q_12[(z0_ ((z0_ (i_8 * b_7.2.2.1)) + k_9)).toNat]?).bind fun y_20 => z76_ k n a_6 b_7 i_8 (z0_ (k_9 + 1)) q_11 (q_12.set ((z0_ ((z0_ (i_8 * b_7.2.2.1)) + k_9)).toNat) (Int.tmod sum_10 a_6.1)) v_4a_13 v_4ba_14 v_4bba_15 v_5a_16 v_5ba_17 v_5bba_18 e_2 else none))) else e_2 a0 b1 i6 q_4 q_5 v_4a v_4ba v_4bba v_5a v_5ba v_5bba)
def z9s_ (k : Nat) : Nat → (Int × Int × Int × List Int) → (Int × Int × Int × List Int) → Int → (List Int) → (List Int) → Int → Int → Int → Int → Int → Int → ((List Int) → (List Int) → Int → Int → Int → Int → Int → Int → Option (Int × Int × Int × List Int)) → Option (Int × Int × Int × List Int)
  | 0, _, _, _, _, _, _, _, _, _, _, _, _ => none
  | n + 1, a0, b1, i6, q_2, q_3, v_4a, v_4ba, v_4bba, v_5a, v_5ba, v_5bba, e_0 => (if (decide (i6 < a0.2.1)) = true then z76_ k k a0 b1 i6 0 q_2 q_3 v_4a v_4ba v_4bba v_5a v_5ba v_5bba (fun a_4 b_5 i_6 q_7 q_8 v_4a_9 v_4ba_10 v_4bba_11 v_5a_12 v_5ba_13 v_5bba_14 => z9s_ k n a_4 b_5 (z0_ (i_6 + 1)) q_7 q_8 v_4a_9 v_4ba_10 v_4bba_11 v_5a_12 v_5ba_13 v_5bba_14 e_0) else e_0 q_2 q_3 v_4a v_4ba v_4bba v_5a v_5ba v_5bba)
def zc0_ (k : Nat) (a0 : Int × Int × Int × List Int) (b1 : Int × Int × Int × List Int) : Option (Int × Int × Int × List Int) := (zj2_ a0.1 a0.2.1 b1.2.2.1).bind fun r_1 => z9s_ k k a0 b1 0 [] r_1.2.2.2 0 0 0 r_1.1 r_1.2.1 r_1.2.2.1 (fun q_15 q_16 v_4a_17 v_4ba_18 v_4bba_19 v_5a_20 v_5ba_21 v_5bba_22 => some (v_5a_20, (v_5ba_21, (v_5bba_22, q_16))))
def q63_ : Head := ⟨[(0, (.val (.ptr (.st (.pr (.int .i64) (.pr (.int .i64) (.pr (.int .i64) (.sl 2 (.int .i64))))))))), (1, (.val (.ptr (.st (.pr (.int .i64) (.pr (.int .i64) (.pr (.int .i64) (.sl 2 (.int .i64))))))))), (4, (.bp 4 [] 0)), (5, (.bp 5 [] 0)), (6, (.val (.int .i64))), (7, (.val (.int .i64))), (8, (.val (.int .i64))), (9, (.val (.int .i64)))], [(64000000, 2, (.int .i64), false), (64000001, 2, (.int .i64), false)], [(4, 147, (.st (.pr (.val (.int .i64)) (.pr (.val (.int .i64)) (.pr (.val (.int .i64)) (.ref 64000000 [])))))), (5, 147, (.st (.pr (.val (.int .i64)) (.pr (.val (.int .i64)) (.pr (.val (.int .i64)) (.ref 64000001 []))))))]⟩
def q64_ : Head := ⟨[(0, (.val (.ptr (.st (.pr (.int .i64) (.pr (.int .i64) (.pr (.int .i64) (.sl 2 (.int .i64))))))))), (1, (.val (.ptr (.st (.pr (.int .i64) (.pr (.int .i64) (.pr (.int .i64) (.sl 2 (.int .i64))))))))), (4, (.bp 4 [] 0)), (5, (.bp 5 [] 0)), (6, (.val (.int .i64))), (7, (.val (.int .i64))), (8, (.val (.int .i64)))], [(64000000, 2, (.int .i64), false), (64000001, 2, (.int .i64), false)], [(4, 147, (.st (.pr (.val (.int .i64)) (.pr (.val (.int .i64)) (.pr (.val (.int .i64)) (.ref 64000000 [])))))), (5, 147, (.st (.pr (.val (.int .i64)) (.pr (.val (.int .i64)) (.pr (.val (.int .i64)) (.ref 64000001 []))))))]⟩
def q65_ (k n : Nat) (x : q63_.T) (kx : Nat → St → Option (Int × Int × Int × List Int)) : Option (Int × Int × Int × List Int) := z75_ k n x.1.1 x.1.2.1 x.1.2.2.2.2.1 x.1.2.2.2.2.2.1 x.1.2.2.2.2.2.2.1 x.1.2.2.2.2.2.2.2.1 x.2.1.1 x.2.1.2.1 x.2.2.1.1 x.2.2.1.2.1 x.2.2.1.2.2.1 x.2.2.2.1.1 x.2.2.2.1.2.1 x.2.2.2.1.2.2.1 (fun (a0 : Int × Int × Int × List Int) (b1 : Int × Int × Int × List Int) (i6 : Int) (k7 : Int) (sum8 : Int) (q_10 : List Int) (q_11 : List Int) (v_4a : Int) (v_4ba : Int) (v_4bba : Int) (v_5a : Int) (v_5ba : Int) (v_5bba : Int) => kx 4 (q64_.fill ((a0, b1, (), (), i6, k7, sum8, ()), (q_10, q_11, ()), ((v_4a, (v_4ba, (v_4bba, ()))), (v_5a, (v_5ba, (v_5bba, ()))), ()))))
def q66_ : Head := ⟨[(0, (.val (.ptr (.st (.pr (.int .i64) (.pr (.int .i64) (.pr (.int .i64) (.sl 2 (.int .i64))))))))), (1, (.val (.ptr (.st (.pr (.int .i64) (.pr (.int .i64) (.pr (.int .i64) (.sl 2 (.int .i64))))))))), (4, (.bp 4 [] 0)), (5, (.bp 5 [] 0)), (6, (.val (.int .i64))), (7, (.val (.int .i64)))], [(64000000, 2, (.int .i64), false), (64000001, 2, (.int .i64), false)], [(4, 147, (.st (.pr (.val (.int .i64)) (.pr (.val (.int .i64)) (.pr (.val (.int .i64)) (.ref 64000000 [])))))), (5, 147, (.st (.pr (.val (.int .i64)) (.pr (.val (.int .i64)) (.pr (.val (.int .i64)) (.ref 64000001 []))))))]⟩
def q67_ : Head := ⟨[(0, (.val (.ptr (.st (.pr (.int .i64) (.pr (.int .i64) (.pr (.int .i64) (.sl 2 (.int .i64))))))))), (1, (.val (.ptr (.st (.pr (.int .i64) (.pr (.int .i64) (.pr (.int .i64) (.sl 2 (.int .i64))))))))), (4, (.bp 4 [] 0)), (5, (.bp 5 [] 0)), (6, (.val (.int .i64)))], [(64000000, 2, (.int .i64), false), (64000001, 2, (.int .i64), false)], [(4, 147, (.st (.pr (.val (.int .i64)) (.pr (.val (.int .i64)) (.pr (.val (.int .i64)) (.ref 64000000 [])))))), (5, 147, (.st (.pr (.val (.int .i64)) (.pr (.val (.int .i64)) (.pr (.val (.int .i64)) (.ref 64000001 []))))))]⟩
def q68_ (k n : Nat) (x : q66_.T) (kx : Nat → St → Option (Int × Int × Int × List Int)) : Option (Int × Int × Int × List Int) := z76_ k n x.1.1 x.1.2.1 x.1.2.2.2.2.1 x.1.2.2.2.2.2.1 x.2.1.1 x.2.1.2.1 x.2.2.1.1 x.2.2.1.2.1 x.2.2.1.2.2.1 x.2.2.2.1.1 x.2.2.2.1.2.1 x.2.2.2.1.2.2.1 (fun (a0 : Int × Int × Int × List Int) (b1 : Int × Int × Int × List Int) (i6 : Int) (q_25 : List Int) (q_26 : List Int) (v_4a : Int) (v_4ba : Int) (v_4bba : Int) (v_5a : Int) (v_5ba : Int) (v_5bba : Int) => kx 2 (q67_.fill ((a0, b1, (), (), i6, ()), (q_25, q_26, ()), ((v_4a, (v_4ba, (v_4bba, ()))), (v_5a, (v_5ba, (v_5bba, ()))), ()))))
def q69_ : Head := ⟨[(0, (.val (.ptr (.st (.pr (.int .i64) (.pr (.int .i64) (.pr (.int .i64) (.sl 2 (.int .i64))))))))), (1, (.val (.ptr (.st (.pr (.int .i64) (.pr (.int .i64) (.pr (.int .i64) (.sl 2 (.int .i64))))))))), (4, (.bp 4 [] 0)), (5, (.bp 5 [] 0)), (6, (.val (.int .i64)))], [(64000000, 2, (.int .i64), false), (64000001, 2, (.int .i64), false)], [(4, 147, (.st (.pr (.val (.int .i64)) (.pr (.val (.int .i64)) (.pr (.val (.int .i64)) (.ref 64000000 [])))))), (5, 147, (.st (.pr (.val (.int .i64)) (.pr (.val (.int .i64)) (.pr (.val (.int .i64)) (.ref 64000001 []))))))]⟩
def q6a_ : Head := ⟨[(4, (.bp 4 [] 0)), (5, (.bp 5 [] 0))], [(64000000, 2, (.int .i64), false), (64000001, 2, (.int .i64), false)], [(4, 147, (.st (.pr (.val (.int .i64)) (.pr (.val (.int .i64)) (.pr (.val (.int .i64)) (.ref 64000000 [])))))), (5, 147, (.st (.pr (.val (.int .i64)) (.pr (.val (.int .i64)) (.pr (.val (.int .i64)) (.ref 64000001 []))))))]⟩
def q6b_ (k n : Nat) (x : q69_.T) (kx : Nat → St → Option (Int × Int × Int × List Int)) : Option (Int × Int × Int × List Int) := z9s_ k n x.1.1 x.1.2.1 x.1.2.2.2.2.1 x.2.1.1 x.2.1.2.1 x.2.2.1.1 x.2.2.1.2.1 x.2.2.1.2.2.1 x.2.2.2.1.1 x.2.2.2.1.2.1 x.2.2.2.1.2.2.1 (fun (q_32 : List Int) (q_33 : List Int) (v_4a : Int) (v_4ba : Int) (v_4bba : Int) (v_5a : Int) (v_5ba : Int) (v_5bba : Int) => kx 0 (q6a_.fill (((), (), ()), (q_32, q_33, ()), ((v_4a, (v_4ba, (v_4bba, ()))), (v_5a, (v_5ba, (v_5bba, ()))), ()))))
def q6c_ (k : Nat) : Oracles (Int × Int × Int × List Int) := ⟨fun n => bif Nat.beq n 10 then some (fun σ kx => q63_.get σ fun x => q65_ k k x kx) else bif Nat.beq n 6 then some (fun σ kx => q66_.get σ fun x => q68_ k k x kx) else bif Nat.beq n 3 then some (fun σ kx => q69_.get σ fun x => q6b_ k k x kx) else none, fun _ => none⟩
def q6d_ (k : Nat) : FE := ⟨(.pr (.ptr (.st (.pr (.int .i64) (.pr (.int .i64) (.pr (.int .i64) (.sl 2 (.int .i64))))))) (.ptr (.st (.pr (.int .i64) (.pr (.int .i64) (.pr (.int .i64) (.sl 2 (.int .i64)))))))), 1, (.st (.pr (.int .i64) (.pr (.int .i64) (.pr (.int .i64) (.sl 2 (.int .i64)))))), fun x => zc0_ k x.1 x.2⟩
theorem q6e_ (k : Nat) : zc_ (z3_ ti [(168, q61_)] (lk []) z4_ z5_) (q6c_ k) (rdC (z3_ ti [(168, q61_)] (lk []) z4_ z5_) [.cell 4 147] (.st (.pr (.int .i64) (.pr (.int .i64) (.pr (.int .i64) (.sl 2 (.int .i64))))))) ((zb_ (z2_ Tryz.f144)).getD 2 .skip) (fun σ kx => q63_.get σ fun x => q65_ k k x kx) := by
  refine ⟨q63_, [(4, q64_)], fun n x kx => q65_ k n x kx, k, by kernel_rfl, by kernel_rfl, fun x kx => by kernel_rfl, ?_, fun σ kx => rfl⟩
  rintro n ⟨⟨a0, b1, ⟨⟩, ⟨⟩, i6, k7, sum8, j9, ⟨⟩⟩, ⟨q_6, q_7, ⟨⟩⟩, ⟨⟨v_4a, ⟨v_4ba, ⟨v_4bba, ⟨⟩⟩⟩⟩, ⟨v_5a, ⟨v_5ba, ⟨v_5bba, ⟨⟩⟩⟩⟩, ⟨⟩⟩⟩ kx
  kernel_rfl
theorem q6f_ (k : Nat) : zc_ (z3_ ti [(168, q61_)] (lk []) z4_ z5_) (q6c_ k) (rdC (z3_ ti [(168, q61_)] (lk []) z4_ z5_) [.cell 4 147] (.st (.pr (.int .i64) (.pr (.int .i64) (.pr (.int .i64) (.sl 2 (.int .i64))))))) ((zb_ (z2_ Tryz.f144)).getD 1 .skip) (fun σ kx => q66_.get σ fun x => q68_ k k x kx) := by
  refine ⟨q66_, [(2, q67_)], fun n x kx => q68_ k n x kx, k, by kernel_rfl, by kernel_rfl, fun x kx => by kernel_rfl, ?_, fun σ kx => rfl⟩
  rintro n ⟨⟨a0, b1, ⟨⟩, ⟨⟩, i6, k7, ⟨⟩⟩, ⟨q_4, q_5, ⟨⟩⟩, ⟨⟨v_4a, ⟨v_4ba, ⟨v_4bba, ⟨⟩⟩⟩⟩, ⟨v_5a, ⟨v_5ba, ⟨v_5bba, ⟨⟩⟩⟩⟩, ⟨⟩⟩⟩ kx
  kernel_rfl
theorem q6g_ (k : Nat) : zc_ (z3_ ti [(168, q61_)] (lk []) z4_ z5_) (q6c_ k) (rdC (z3_ ti [(168, q61_)] (lk []) z4_ z5_) [.cell 4 147] (.st (.pr (.int .i64) (.pr (.int .i64) (.pr (.int .i64) (.sl 2 (.int .i64))))))) ((zb_ (z2_ Tryz.f144)).getD 0 .skip) (fun σ kx => q69_.get σ fun x => q6b_ k k x kx) := by
  refine ⟨q69_, [(0, q6a_)], fun n x kx => q6b_ k n x kx, k, by kernel_rfl, by kernel_rfl, fun x kx => by kernel_rfl, ?_, fun σ kx => rfl⟩
  rintro n ⟨⟨a0, b1, ⟨⟩, ⟨⟩, i6, ⟨⟩⟩, ⟨q_2, q_3, ⟨⟩⟩, ⟨⟨v_4a, ⟨v_4ba, ⟨v_4bba, ⟨⟩⟩⟩⟩, ⟨v_5a, ⟨v_5ba, ⟨v_5bba, ⟨⟩⟩⟩⟩, ⟨⟩⟩⟩ kx
  kernel_rfl
theorem q6h_ (k : Nat) : FnOK Tryz.prog 144 (q6d_ k) := by
  refine za_ (tab := [(168, q61_)]) (l := []) z6_ z9_ mix (List.forall_mem_cons.2 ⟨q62_, (List.forall_mem_nil _)⟩) (List.forall_mem_nil _) ⟨⟨Tryz.f144, (z2_ Tryz.f144), [.cell 4 147], (q6c_ k), by kernel_rfl, by kernel_rfl, by kernel_rfl, by kernel_rfl, rfl, by decide, ⟨by kernel_rfl, ?_, ?_⟩, ?_⟩⟩
  · refine zf_ (n := 3) (by kernel_rfl) fun i hi => ?_
    match i, hi with
    | 0, _ => exact zd_ (by kernel_rfl) (q6g_ k)
    | 1, _ => exact zd_ (by kernel_rfl) (q6f_ k)
    | 2, _ => exact zd_ (by kernel_rfl) (q6e_ k)
    | n + 3, hi => omega
  · exact z8_ (by kernel_rfl)
  · rintro ⟨a0, b1⟩
    kernel_rfl
def zc1_ (k : Nat) (s0 : List (List Int) × Int × List Int × List (Int × Int × Int × List Int)) (simplex1 : Int) (i2 : Int) (j3 : Int) : Option (Int × Int × Int × List Int) := (zbz_ k s0.1 simplex1).bind fun r_1 => (if 0 ≤ i2 ∧ i2.toNat < List.length r_1 then (r_1[i2.toNat]?).bind fun y_2 => (if (decide (i2 < j3)) = true then (z74_ k s0 simplex1 i2).bind fun r_3 => (z74_ k s0 y_2 (z0_ (j3 - 1))).bind fun r_4 => (zc0_ k r_3 r_4).bind fun r_5 => some (r_5.1, (r_5.2.1, (r_5.2.2.1, r_5.2.2.2))) else (z74_ k s0 simplex1 i2).bind fun r_6 => (z74_ k s0 y_2 j3).bind fun r_7 => (zc0_ k r_6 r_7).bind fun r_8 => some (r_8.1, (r_8.2.1, (r_8.2.2.1, r_8.2.2.2)))) else none)
def q6i_ (k : Nat) : FE := ⟨(.pr (.ptr (.st (.pr (.st (.sl 68 (.sl 2 (.int .i64)))) (.pr (.int .i64) (.pr (.sl 2 (.int .i64)) (.sl 147 (.st (.pr (.int .i64) (.pr (.int .i64) (.pr (.int .i64) (.sl 2 (.int .i64)))))))))))) (.pr (.int .i64) (.pr (.int .i64) (.int .i64)))), 1, (.st (.pr (.int .i64) (.pr (.int .i64) (.pr (.int .i64) (.sl 2 (.int .i64)))))), fun x => zc1_ k x.1 x.2.1 x.2.2.1 x.2.2.2⟩
theorem q6j_ (k : Nat) : FnOK Tryz.prog 106 (q6i_ k) := by
  refine za_ (tab := [(142, q5h_ k), (145, q5z_ k), (144, q6d_ k)]) (l := []) z6_ z9_ mix (List.forall_mem_cons.2 ⟨q5j_ k, (List.forall_mem_cons.2 ⟨q60_ k, (List.forall_mem_cons.2 ⟨q6h_ k, (List.forall_mem_nil _)⟩)⟩)⟩) (List.forall_mem_nil _) ⟨⟨Tryz.f106, (z2_ Tryz.f106), [.cell 8 147], (LOn (Int × Int × Int × List Int)), by kernel_rfl, by kernel_rfl, by kernel_rfl, by kernel_rfl, rfl, by decide, ⟨by kernel_rfl, ?_, ?_⟩, ?_⟩⟩
  · exact zh_ (by kernel_rfl)
  · exact z8_ (by kernel_rfl)
  · rintro ⟨s0, simplex1, i2, j3⟩
    kernel_rfl
end
end Go.Proofs.YtibiofjkgdidmaaGreatDoor.Ev
