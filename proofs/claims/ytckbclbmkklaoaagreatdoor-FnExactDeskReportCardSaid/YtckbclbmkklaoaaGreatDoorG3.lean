/- Functions of the program, as zl_ ones. No conditions. -/
import Derived.Test.YtckbclbmkklaoaaGreatDoorG2
import Derived.KernelRfl
set_option linter.unusedVariables false
set_option maxRecDepth 100000
namespace Go.Proofs.YtckbclbmkklaoaaGreatDoor.Ev
open Go.RowKit
noncomputable section
def z5b_ (k : Nat) : Nat → (List (List Int)) → Int → (List Int) → Int → ((List (List Int)) → Int → Option Bool) → Option Bool
  | 0, _, _, _, _, _ => none
  | n + 1, c0, i3, s4, k5, e_2 => (if (decide (k5 < (List.length s4 : Int))) = true then (if (decide (1 < (List.length s4 : Int))) = true then (zc7_ s4 k5).bind fun r_5 => (zc8_ k c0 r_5).bind fun r_6 => (if (decide (r_6 < 0)) = true then some false else z5b_ k n c0 i3 s4 (z0_ (k5 + 1)) e_2) else e_2 c0 i3) else e_2 c0 i3)
def z4b_ (k : Nat) : Nat → (List (List Int)) → Int → (Option Bool) → Option Bool
  | 0, _, _, _ => none
  | n + 1, c0, i3, e_0 => (if (decide (i3 < (List.length c0 : Int))) = true then (if 0 ≤ i3 then (c0[i3.toNat]?).bind fun y_1 => (zfl_ k y_1).bind fun r_2 => (if (!r_2) = true then some false else (if (decide (0 < i3)) = true then (if 0 ≤ (z0_ (i3 - 1)) then (c0[(z0_ (i3 - 1)).toNat]?).bind fun y_3 => (zfm_ k y_3 y_1).bind fun r_4 => (if (!r_4) = true then some false else z5b_ k k c0 i3 y_1 0 (fun c_5 i_6 => z4b_ k n c_5 (z0_ (i_6 + 1)) e_0)) else none) else z5b_ k k c0 i3 y_1 0 (fun c_7 i_8 => z4b_ k n c_7 (z0_ (i_8 + 1)) e_0))) else none) else e_0)
def zc9_ (k : Nat) (c0 : List (List Int)) : Option Bool := (if (decide (48 < (List.length c0 : Int))) = true then some false else z4b_ k k c0 0 (some true))
def q4e_ : Head := ⟨[(0, (.val (.ptr (.st (.sl 25 (.sl 2 (.int .i64))))))), (3, (.val (.int .i64))), (4, (.val (.sl 2 (.int .i64)))), (5, (.val (.int .i64)))], [], []⟩
def q4f_ : Head := ⟨[(0, (.val (.ptr (.st (.sl 25 (.sl 2 (.int .i64))))))), (3, (.val (.int .i64)))], [], []⟩
def q4g_ (k n : Nat) (x : q4e_.T) (kx : Nat → St → Option Bool) : Option Bool := z5b_ k n x.1.1 x.1.2.1 x.1.2.2.1 x.1.2.2.2.1 (fun (c0 : List (List Int)) (i3 : Int) => kx 2 (q4f_.fill ((c0, i3, ()), (), ())))
def q4h_ : Head := ⟨[(0, (.val (.ptr (.st (.sl 25 (.sl 2 (.int .i64))))))), (3, (.val (.int .i64)))], [], []⟩
def q4i_ : Head := ⟨[], [], []⟩
def q4j_ (k n : Nat) (x : q4h_.T) (kx : Nat → St → Option Bool) : Option Bool := z4b_ k n x.1.1 x.1.2.1 (kx 0 (q4i_.fill ((), (), ())))
def q4k_ (k : Nat) : Oracles Bool := ⟨fun n => bif Nat.beq n 10 then some (fun σ kx => q4e_.get σ fun x => q4g_ k k x kx) else bif Nat.beq n 4 then some (fun σ kx => q4h_.get σ fun x => q4j_ k k x kx) else none, fun _ => none⟩
def q4l_ (k : Nat) : FE := ⟨(.ptr (.st (.sl 25 (.sl 2 (.int .i64))))), 1, .bool, fun x => zc9_ k x⟩
theorem q4m_ (k : Nat) : zd_ (z3_ ti [(134, q3n_ k), (135, q3t_ k), (137, q3y_), (136, q4b_ k)] (lk []) z7_ z8_) (q4k_ k) (rdC (z3_ ti [(134, q3n_ k), (135, q3t_ k), (137, q3y_), (136, q4b_ k)] (lk []) z7_ z8_) [.tmp 2] .bool) ((zc_ (z2_ Tryz.f90)).getD 1 .skip) (fun σ kx => q4e_.get σ fun x => q4g_ k k x kx) := by
  refine ⟨q4e_, [(2, q4f_)], fun n x kx => q4g_ k n x kx, k, by kernel_rfl, by kernel_rfl, fun x kx => by kernel_rfl, ?_, fun σ kx => rfl⟩
  rintro n ⟨⟨c0, i3, s4, k5, ⟨⟩⟩, ⟨⟩, ⟨⟩⟩ kx
  kernel_rfl
theorem q4n_ (k : Nat) : zd_ (z3_ ti [(134, q3n_ k), (135, q3t_ k), (137, q3y_), (136, q4b_ k)] (lk []) z7_ z8_) (q4k_ k) (rdC (z3_ ti [(134, q3n_ k), (135, q3t_ k), (137, q3y_), (136, q4b_ k)] (lk []) z7_ z8_) [.tmp 2] .bool) ((zc_ (z2_ Tryz.f90)).getD 0 .skip) (fun σ kx => q4h_.get σ fun x => q4j_ k k x kx) := by
  refine ⟨q4h_, [(0, q4i_)], fun n x kx => q4j_ k n x kx, k, by kernel_rfl, by kernel_rfl, fun x kx => by kernel_rfl, ?_, fun σ kx => rfl⟩
  rintro n ⟨⟨c0, i3, ⟨⟩⟩, ⟨⟩, ⟨⟩⟩ kx
  kernel_rfl
theorem q4o_ (k : Nat) : FnOK Tryz.prog 90 (q4l_ k) := by
  refine za_ (tab := [(134, q3n_ k), (135, q3t_ k), (137, q3y_), (136, q4b_ k)]) (l := []) z4_ z6_ mix (List.forall_mem_cons.2 ⟨q3o_ k, (List.forall_mem_cons.2 ⟨q3v_ k, (List.forall_mem_cons.2 ⟨q3z_, (List.forall_mem_cons.2 ⟨q4d_ k, (List.forall_mem_nil _)⟩)⟩)⟩)⟩) (List.forall_mem_nil _) ⟨⟨Tryz.f90, (z2_ Tryz.f90), [.tmp 2], (q4k_ k), by kernel_rfl, by kernel_rfl, by kernel_rfl, by kernel_rfl, rfl, by decide, ⟨by kernel_rfl, ?_, ?_⟩, ?_⟩⟩
  · refine zi_ (n := 2) (by kernel_rfl) fun i hi => ?_
    match i, hi with
    | 0, _ => exact ze_ (by kernel_rfl) (q4n_ k)
    | 1, _ => exact ze_ (by kernel_rfl) (q4m_ k)
    | n + 2, hi => omega
  · exact z5_ (by kernel_rfl)
  · rintro c0
    kernel_rfl
def z5c_ (k : Nat) : Nat → Int → Int → (Option Bool) → Option Bool
  | 0, _, _, _ => none
  | n + 1, p0, k3, e_0 => (if (decide ((z0_ (k3 * k3)) ≤ p0)) = true then (if k3 = 0 then none else (if (decide ((Int.tmod p0 k3) = 0)) = true then some false else z5c_ k n p0 (z0_ (k3 + 1)) e_0)) else e_0)
def zj8_ (k : Nat) (p0 : Int) : Option Bool := (z21_ p0 2 251).bind fun r_1 => (if (!r_1) = true then some false else z5c_ k k p0 2 (some true))
def q4p_ : Head := ⟨[(0, (.val (.int .i64))), (3, (.val (.int .i64)))], [], []⟩
def q4q_ : Head := ⟨[], [], []⟩
def q4r_ (k n : Nat) (x : q4p_.T) (kx : Nat → St → Option Bool) : Option Bool := z5c_ k n x.1.1 x.1.2.1 (kx 0 (q4q_.fill ((), (), ())))
def q4s_ (k : Nat) : Oracles Bool := ⟨fun n => bif Nat.beq n 4 then some (fun σ kx => q4p_.get σ fun x => q4r_ k k x kx) else none, fun _ => none⟩
def q4t_ (k : Nat) : FE := ⟨(.int .i64), 1, .bool, fun x => zj8_ k x⟩
theorem q4u_ (k : Nat) : zd_ (z3_ ti [(96, q3e_)] (lk []) z7_ z8_) (q4s_ k) (rdC (z3_ ti [(96, q3e_)] (lk []) z7_ z8_) [.tmp 2] .bool) ((zc_ (z2_ Tryz.f138)).getD 0 .skip) (fun σ kx => q4p_.get σ fun x => q4r_ k k x kx) := by
  refine ⟨q4p_, [(0, q4q_)], fun n x kx => q4r_ k n x kx, k, by kernel_rfl, by kernel_rfl, fun x kx => by kernel_rfl, ?_, fun σ kx => rfl⟩
  rintro n ⟨⟨p0, k3, ⟨⟩⟩, ⟨⟩, ⟨⟩⟩ kx
  kernel_rfl
theorem q4v_ (k : Nat) : FnOK Tryz.prog 138 (q4t_ k) := by
  refine za_ (tab := [(96, q3e_)]) (l := []) z4_ z6_ mix (List.forall_mem_cons.2 ⟨q3f_, (List.forall_mem_nil _)⟩) (List.forall_mem_nil _) ⟨⟨Tryz.f138, (z2_ Tryz.f138), [.tmp 2], (q4s_ k), by kernel_rfl, by kernel_rfl, by kernel_rfl, by kernel_rfl, rfl, by decide, ⟨by kernel_rfl, ?_, ?_⟩, ?_⟩⟩
  · refine zi_ (n := 1) (by kernel_rfl) fun i hi => ?_
    match i, hi with
    | 0, _ => exact ze_ (by kernel_rfl) (q4u_ k)
    | n + 1, hi => omega
  · exact z5_ (by kernel_rfl)
  · rintro p0
    kernel_rfl
def z7b_ (k : Nat) (p0 : Int) : Option Bool := (zj8_ k p0).bind fun r_1 => some r_1
def q4w_ (k : Nat) : FE := ⟨(.int .i64), 1, .bool, fun x => z7b_ k x⟩
theorem q4x_ (k : Nat) : FnOK Tryz.prog 91 (q4w_ k) := by
  refine za_ (tab := [(138, q4t_ k)]) (l := []) z4_ z6_ mix (List.forall_mem_cons.2 ⟨q4v_ k, (List.forall_mem_nil _)⟩) (List.forall_mem_nil _) ⟨⟨Tryz.f91, (z2_ Tryz.f91), [.tmp 2], (LOn Bool), by kernel_rfl, by kernel_rfl, by kernel_rfl, by kernel_rfl, rfl, by decide, ⟨by kernel_rfl, ?_, ?_⟩, ?_⟩⟩
  · exact zf_ (by kernel_rfl)
  · exact z5_ (by kernel_rfl)
  · rintro p0
    kernel_rfl
def z9s_ (k : Nat) : Nat → (List Int) → Int → Int → Int → ((List Int) → Int → Option Bool) → Option Bool
  | 0, _, _, _, _, _ => none
  | n + 1, v0, n1, p2, i7, e_0 => (if (decide (i7 < (List.length v0 : Int))) = true then (if 0 ≤ i7 then (v0[i7.toNat]?).bind fun y_1 => (z21_ y_1 0 (z0_ (p2 - 1))).bind fun r_2 => (if (!r_2) = true then some false else z9s_ k n v0 n1 p2 (z0_ (i7 + 1)) e_0) else none) else e_0 v0 n1)
def z7c_ (k : Nat) (v0 : List Int) (n1 : Int) (p2 : Int) : Option Bool := z9s_ k k v0 n1 p2 0 (fun v_3 n_4 => some (decide ((List.length v_3 : Int) = n_4)))
def q4y_ : Head := ⟨[(0, (.val (.sl 2 (.int .i64)))), (1, (.val (.int .i64))), (2, (.val (.int .i64))), (7, (.val (.int .i64)))], [], []⟩
def q4z_ : Head := ⟨[(0, (.val (.sl 2 (.int .i64)))), (1, (.val (.int .i64)))], [], []⟩
def q50_ (k n : Nat) (x : q4y_.T) (kx : Nat → St → Option Bool) : Option Bool := z9s_ k n x.1.1 x.1.2.1 x.1.2.2.1 x.1.2.2.2.1 (fun (v0 : List Int) (n1 : Int) => kx 0 (q4z_.fill ((v0, n1, ()), (), ())))
def q51_ (k : Nat) : Oracles Bool := ⟨fun n => bif Nat.beq n 2 then some (fun σ kx => q4y_.get σ fun x => q50_ k k x kx) else none, fun _ => none⟩
def q52_ (k : Nat) : FE := ⟨(.pr (.sl 2 (.int .i64)) (.pr (.int .i64) (.int .i64))), 1, .bool, fun x => z7c_ k x.1 x.2.1 x.2.2⟩
theorem q53_ (k : Nat) : zd_ (z3_ ti [(96, q3e_)] (lk []) z7_ z8_) (q51_ k) (rdC (z3_ ti [(96, q3e_)] (lk []) z7_ z8_) [.tmp 6] .bool) ((zc_ (z2_ Tryz.f97)).getD 0 .skip) (fun σ kx => q4y_.get σ fun x => q50_ k k x kx) := by
  refine ⟨q4y_, [(0, q4z_)], fun n x kx => q50_ k n x kx, k, by kernel_rfl, by kernel_rfl, fun x kx => by kernel_rfl, ?_, fun σ kx => rfl⟩
  rintro n ⟨⟨v0, n1, p2, i7, ⟨⟩⟩, ⟨⟩, ⟨⟩⟩ kx
  kernel_rfl
theorem q54_ (k : Nat) : FnOK Tryz.prog 97 (q52_ k) := by
  refine za_ (tab := [(96, q3e_)]) (l := []) z4_ z6_ mix (List.forall_mem_cons.2 ⟨q3f_, (List.forall_mem_nil _)⟩) (List.forall_mem_nil _) ⟨⟨Tryz.f97, (z2_ Tryz.f97), [.tmp 6], (q51_ k), by kernel_rfl, by kernel_rfl, by kernel_rfl, by kernel_rfl, rfl, by decide, ⟨by kernel_rfl, ?_, ?_⟩, ?_⟩⟩
  · refine zi_ (n := 1) (by kernel_rfl) fun i hi => ?_
    match i, hi with
    | 0, _ => exact ze_ (by kernel_rfl) (q53_ k)
    | n + 1, hi => omega
  · exact z5_ (by kernel_rfl)
  · rintro ⟨v0, n1, p2⟩
    kernel_rfl
def z7d_ (k : Nat) : Nat → (List (List Int)) → Int → Int → (List Int) → ((List Int) → Option (List Int)) → Option (List Int)
  | 0, _, _, _, _, _ => none
  | n + 1, c0, dimension1, i6, q_1, e_0 => (if (decide (i6 < (List.length c0 : Int))) = true then (if 0 ≤ i6 then (c0[i6.toNat]?).bind fun y_2 => (if (decide ((List.length y_2 : Int) = (z0_ (dimension1 + 1)))) = true then (if (q_1.length + [i6].length) * 8 ≤ LIM then z7d_ k n c0 dimension1 (z0_ (i6 + 1)) (q_1 ++ [i6]) e_0 else none) else z7d_ k n c0 dimension1 (z0_ (i6 + 1)) q_1 e_0) else none) else e_0 q_1)
def zfo_ (k : Nat) (c0 : List (List Int)) (dimension1 : Int) : Option (List Int) := z7d_ k k c0 dimension1 0 [] (fun q_3 => some q_3)
def q55_ : Head := ⟨[(0, (.val (.ptr (.st (.sl 25 (.sl 2 (.int .i64))))))), (1, (.val (.int .i64))), (5, (.ref 64000000 [])), (6, (.val (.int .i64)))], [(64000000, 2, (.int .i64), false)], []⟩
def q56_ : Head := ⟨[(5, (.ref 64000000 []))], [(64000000, 2, (.int .i64), false)], []⟩
def q57_ (k n : Nat) (x : q55_.T) (kx : Nat → St → Option (List Int)) : Option (List Int) := z7d_ k n x.1.1 x.1.2.1 x.1.2.2.2.1 x.2.1.1 (fun (q_3 : List Int) => kx 0 (q56_.fill (((), ()), (q_3, ()), ())))
def q58_ (k : Nat) : Oracles (List Int) := ⟨fun n => bif Nat.beq n 3 then some (fun σ kx => q55_.get σ fun x => q57_ k k x kx) else none, fun _ => none⟩
def q59_ (k : Nat) : FE := ⟨(.pr (.ptr (.st (.sl 25 (.sl 2 (.int .i64))))) (.int .i64)), 1, (.sl 2 (.int .i64)), fun x => zfo_ k x.1 x.2⟩
theorem q5a_ (k : Nat) : zd_ (z3_ ti [] (lk []) z7_ z8_) (q58_ k) (rdC (z3_ ti [] (lk []) z7_ z8_) [.tmp 4] (.sl 2 (.int .i64))) ((zc_ (z2_ Tryz.f143)).getD 0 .skip) (fun σ kx => q55_.get σ fun x => q57_ k k x kx) := by
  refine ⟨q55_, [(0, q56_)], fun n x kx => q57_ k n x kx, k, by kernel_rfl, by kernel_rfl, fun x kx => by kernel_rfl, ?_, fun σ kx => rfl⟩
  rintro n ⟨⟨c0, dimension1, ⟨⟩, i6, ⟨⟩⟩, ⟨q_1, ⟨⟩⟩, ⟨⟩⟩ kx
  kernel_rfl
theorem q5b_ (k : Nat) : FnOK Tryz.prog 143 (q59_ k) := by
  refine za_ (tab := []) (l := []) z4_ z6_ mix (List.forall_mem_nil _) (List.forall_mem_nil _) ⟨⟨Tryz.f143, (z2_ Tryz.f143), [.tmp 4], (q58_ k), by kernel_rfl, by kernel_rfl, by kernel_rfl, by kernel_rfl, rfl, by decide, ⟨by kernel_rfl, ?_, ?_⟩, ?_⟩⟩
  · refine zi_ (n := 1) (by kernel_rfl) fun i hi => ?_
    match i, hi with
    | 0, _ => exact ze_ (by kernel_rfl) (q5a_ k)
    | n + 1, hi => omega
  · exact z5_ (by kernel_rfl)
  · rintro ⟨c0, dimension1⟩
    kernel_rfl
def z9t_ (k : Nat) : Nat → (List Int) → Int → Int → (List Int) → (Int → Option Int) → Option Int
  | 0, _, _, _, _, _ => none
  | n + 1, stalks1, sum8, i9, q_2, e_0 => (if (decide (i9 < (List.length q_2 : Int))) = true then (if 0 ≤ i9 ∧ i9.toNat < List.length q_2 then (q_2[i9.toNat]?).bind fun y_3 => (if 0 ≤ y_3 then (stalks1[y_3.toNat]?).bind fun y_4 => z9t_ k n stalks1 (z0_ (sum8 + y_4)) (z0_ (i9 + 1)) q_2 e_0 else none) else none) else e_0 sum8)
def zca_ (k : Nat) (c0 : List (List Int)) (stalks1 : List Int) (k2 : Int) : Option Int := (zfo_ k c0 k2).bind fun r_1 => z9t_ k k stalks1 0 0 r_1 (fun sum_5 => some sum_5)
def q5c_ : Head := ⟨[(1, (.val (.sl 2 (.int .i64)))), (7, (.ref 64000000 [])), (8, (.val (.int .i64))), (9, (.val (.int .i64)))], [(64000000, 2, (.int .i64), false)], []⟩
def q5d_ : Head := ⟨[(8, (.val (.int .i64)))], [], []⟩
def q5e_ (k n : Nat) (x : q5c_.T) (kx : Nat → St → Option Int) : Option Int := z9t_ k n x.1.1 x.1.2.2.1 x.1.2.2.2.1 x.2.1.1 (fun (sum8 : Int) => kx 0 (q5d_.fill ((sum8, ()), (), ())))
def q5f_ (k : Nat) : Oracles Int := ⟨fun n => bif Nat.beq n 4 then some (fun σ kx => q5c_.get σ fun x => q5e_ k k x kx) else none, fun _ => none⟩
def q5g_ (k : Nat) : FE := ⟨(.pr (.ptr (.st (.sl 25 (.sl 2 (.int .i64))))) (.pr (.sl 2 (.int .i64)) (.int .i64))), 1, (.int .i64), fun x => zca_ k x.1 x.2.1 x.2.2⟩
theorem q5h_ (k : Nat) : zd_ (z3_ ti [(143, q59_ k)] (lk []) z7_ z8_) (q5f_ k) (rdC (z3_ ti [(143, q59_ k)] (lk []) z7_ z8_) [.tmp 6] (.int .i64)) ((zc_ (z2_ Tryz.f103)).getD 0 .skip) (fun σ kx => q5c_.get σ fun x => q5e_ k k x kx) := by
  refine ⟨q5c_, [(0, q5d_)], fun n x kx => q5e_ k n x kx, k, by kernel_rfl, by kernel_rfl, fun x kx => by kernel_rfl, ?_, fun σ kx => rfl⟩
  rintro n ⟨⟨stalks1, ⟨⟩, sum8, i9, ⟨⟩⟩, ⟨q_2, ⟨⟩⟩, ⟨⟩⟩ kx
  kernel_rfl
theorem q5i_ (k : Nat) : FnOK Tryz.prog 103 (q5g_ k) := by
  refine za_ (tab := [(143, q59_ k)]) (l := []) z4_ z6_ mix (List.forall_mem_cons.2 ⟨q5b_ k, (List.forall_mem_nil _)⟩) (List.forall_mem_nil _) ⟨⟨Tryz.f103, (z2_ Tryz.f103), [.tmp 6], (q5f_ k), by kernel_rfl, by kernel_rfl, by kernel_rfl, by kernel_rfl, rfl, by decide, ⟨by kernel_rfl, ?_, ?_⟩, ?_⟩⟩
  · refine zi_ (n := 1) (by kernel_rfl) fun i hi => ?_
    match i, hi with
    | 0, _ => exact ze_ (by kernel_rfl) (q5h_ k)
    | n + 1, hi => omega
  · exact z5_ (by kernel_rfl)
  · rintro ⟨c0, stalks1, k2⟩
    kernel_rfl
def z9u_ (k : Nat) : Nat → (List (List Int)) → (List Int) → Int → (Option Bool) → Option Bool
  | 0, _, _, _, _ => none
  | n + 1, c0, stalks1, k5, e_0 => (if (decide (k5 ≤ 3)) = true then (zca_ k c0 stalks1 k5).bind fun r_2 => (if (decide (32 < r_2)) = true then some false else z9u_ k n c0 stalks1 (z0_ (k5 + 1)) e_0) else e_0)
def zfp_ (k : Nat) (c0 : List (List Int)) (stalks1 : List Int) : Option Bool := (z7c_ k stalks1 (List.length c0 : Int) 4).bind fun r_1 => (if (!r_1) = true then some false else z9u_ k k c0 stalks1 0 (some true))
def q5j_ : Head := ⟨[(0, (.val (.ptr (.st (.sl 25 (.sl 2 (.int .i64))))))), (1, (.val (.sl 2 (.int .i64)))), (5, (.val (.int .i64)))], [], []⟩
def q5k_ : Head := ⟨[], [], []⟩
def q5l_ (k n : Nat) (x : q5j_.T) (kx : Nat → St → Option Bool) : Option Bool := z9u_ k n x.1.1 x.1.2.1 x.1.2.2.1 (kx 0 (q5k_.fill ((), (), ())))
def q5m_ (k : Nat) : Oracles Bool := ⟨fun n => bif Nat.beq n 4 then some (fun σ kx => q5j_.get σ fun x => q5l_ k k x kx) else none, fun _ => none⟩
def q5n_ (k : Nat) : FE := ⟨(.pr (.ptr (.st (.sl 25 (.sl 2 (.int .i64))))) (.sl 2 (.int .i64))), 1, .bool, fun x => zfp_ k x.1 x.2⟩
theorem q5o_ (k : Nat) : zd_ (z3_ ti [(97, q52_ k), (103, q5g_ k)] (lk []) z7_ z8_) (q5m_ k) (rdC (z3_ ti [(97, q52_ k), (103, q5g_ k)] (lk []) z7_ z8_) [.tmp 4] .bool) ((zc_ (z2_ Tryz.f92)).getD 0 .skip) (fun σ kx => q5j_.get σ fun x => q5l_ k k x kx) := by
  refine ⟨q5j_, [(0, q5k_)], fun n x kx => q5l_ k n x kx, k, by kernel_rfl, by kernel_rfl, fun x kx => by kernel_rfl, ?_, fun σ kx => rfl⟩
  rintro n ⟨⟨c0, stalks1, k5, ⟨⟩⟩, ⟨⟩, ⟨⟩⟩ kx
  kernel_rfl
theorem q5p_ (k : Nat) : FnOK Tryz.prog 92 (q5n_ k) := by
  refine za_ (tab := [(97, q52_ k), (103, q5g_ k)]) (l := []) z4_ z6_ mix (List.forall_mem_cons.2 ⟨q54_ k, (List.forall_mem_cons.2 ⟨q5i_ k, (List.forall_mem_nil _)⟩)⟩) (List.forall_mem_nil _) ⟨⟨Tryz.f92, (z2_ Tryz.f92), [.tmp 4], (q5m_ k), by kernel_rfl, by kernel_rfl, by kernel_rfl, by kernel_rfl, rfl, by decide, ⟨by kernel_rfl, ?_, ?_⟩, ?_⟩⟩
  · refine zi_ (n := 1) (by kernel_rfl) fun i hi => ?_
    match i, hi with
    | 0, _ => exact ze_ (by kernel_rfl) (q5o_ k)
    | n + 1, hi => omega
  · exact z5_ (by kernel_rfl)
  · rintro ⟨c0, stalks1⟩
    kernel_rfl
def z7e_ (k : Nat) : Nat → (List (List Int)) → Int → Int → Int → Int → (Int → Int → Option Int) → Option Int
  | 0, _, _, _, _, _, _ => none
  | n + 1, c0, simplex1, i2, at7, k8, e_0 => (if (decide (k8 < simplex1)) = true then (if 0 ≤ k8 then (c0[k8.toNat]?).bind fun y_1 => (if (decide (1 < (List.length y_1 : Int))) = true then (if 0 ≤ k8 then (c0[k8.toNat]?).bind fun y_2 => z7e_ k n c0 simplex1 i2 (z0_ (at7 + (List.length y_2 : Int))) (z0_ (k8 + 1)) e_0 else none) else z7e_ k n c0 simplex1 i2 at7 (z0_ (k8 + 1)) e_0) else none) else e_0 i2 at7)
def zcb_ (k : Nat) (c0 : List (List Int)) (simplex1 : Int) (i2 : Int) : Option Int := z7e_ k k c0 simplex1 i2 0 0 (fun i_3 at_4 => some (z0_ (at_4 + i_3)))
def q5q_ : Head := ⟨[(0, (.val (.ptr (.st (.sl 25 (.sl 2 (.int .i64))))))), (1, (.val (.int .i64))), (2, (.val (.int .i64))), (7, (.val (.int .i64))), (8, (.val (.int .i64)))], [], []⟩
def q5r_ : Head := ⟨[(2, (.val (.int .i64))), (7, (.val (.int .i64)))], [], []⟩
def q5s_ (k n : Nat) (x : q5q_.T) (kx : Nat → St → Option Int) : Option Int := z7e_ k n x.1.1 x.1.2.1 x.1.2.2.1 x.1.2.2.2.1 x.1.2.2.2.2.1 (fun (i2 : Int) (at7 : Int) => kx 0 (q5r_.fill ((i2, at7, ()), (), ())))
def q5t_ (k : Nat) : Oracles Int := ⟨fun n => bif Nat.beq n 3 then some (fun σ kx => q5q_.get σ fun x => q5s_ k k x kx) else none, fun _ => none⟩
def q5u_ (k : Nat) : FE := ⟨(.pr (.ptr (.st (.sl 25 (.sl 2 (.int .i64))))) (.pr (.int .i64) (.int .i64))), 1, (.int .i64), fun x => zcb_ k x.1 x.2.1 x.2.2⟩
theorem q5v_ (k : Nat) : zd_ (z3_ ti [] (lk []) z7_ z8_) (q5t_ k) (rdC (z3_ ti [] (lk []) z7_ z8_) [.tmp 6] (.int .i64)) ((zc_ (z2_ Tryz.f95)).getD 0 .skip) (fun σ kx => q5q_.get σ fun x => q5s_ k k x kx) := by
  refine ⟨q5q_, [(0, q5r_)], fun n x kx => q5s_ k n x kx, k, by kernel_rfl, by kernel_rfl, fun x kx => by kernel_rfl, ?_, fun σ kx => rfl⟩
  rintro n ⟨⟨c0, simplex1, i2, at7, k8, ⟨⟩⟩, ⟨⟩, ⟨⟩⟩ kx
  kernel_rfl
theorem q5w_ (k : Nat) : FnOK Tryz.prog 95 (q5u_ k) := by
  refine za_ (tab := []) (l := []) z4_ z6_ mix (List.forall_mem_nil _) (List.forall_mem_nil _) ⟨⟨Tryz.f95, (z2_ Tryz.f95), [.tmp 6], (q5t_ k), by kernel_rfl, by kernel_rfl, by kernel_rfl, by kernel_rfl, rfl, by decide, ⟨by kernel_rfl, ?_, ?_⟩, ?_⟩⟩
  · refine zi_ (n := 1) (by kernel_rfl) fun i hi => ?_
    match i, hi with
    | 0, _ => exact ze_ (by kernel_rfl) (q5v_ k)
    | n + 1, hi => omega
  · exact z5_ (by kernel_rfl)
  · rintro ⟨c0, simplex1, i2⟩
    kernel_rfl
def zfq_ (k : Nat) (c0 : List (List Int)) : Option Int := (zcb_ k c0 (List.length c0 : Int) 0).bind fun r_1 => some r_1
def q5x_ (k : Nat) : FE := ⟨(.ptr (.st (.sl 25 (.sl 2 (.int .i64))))), 1, (.int .i64), fun x => zfq_ k x⟩
theorem q5y_ (k : Nat) : FnOK Tryz.prog 93 (q5x_ k) := by
  refine za_ (tab := [(95, q5u_ k)]) (l := []) z4_ z6_ mix (List.forall_mem_cons.2 ⟨q5w_ k, (List.forall_mem_nil _)⟩) (List.forall_mem_nil _) ⟨⟨Tryz.f93, (z2_ Tryz.f93), [.tmp 2], (LOn Int), by kernel_rfl, by kernel_rfl, by kernel_rfl, by kernel_rfl, rfl, by decide, ⟨by kernel_rfl, ?_, ?_⟩, ?_⟩⟩
  · exact zf_ (by kernel_rfl)
  · exact z5_ (by kernel_rfl)
  · rintro c0
    kernel_rfl
def z7f_ (k : Nat) : Nat → (List (List Int)) → (List Int) → Int → (List Int) → ((List Int) → Option (List Int)) → Option (List Int)
  | 0, _, _, _, _, _ => none
  | n + 1, c0, s5, i7, q_2, e_0 => (if (decide (i7 < (List.length s5 : Int))) = true then (if (decide (1 < (List.length s5 : Int))) = true then (zc7_ s5 i7).bind fun r_3 => (zc8_ k c0 r_3).bind fun r_4 => (if (q_2.length + [r_4].length) * 8 ≤ LIM then z7f_ k n c0 s5 (z0_ (i7 + 1)) (q_2 ++ [r_4]) e_0 else none) else e_0 q_2) else e_0 q_2)
def zcc_ (k : Nat) (c0 : List (List Int)) (k1 : Int) : Option (List Int) := (if 0 ≤ k1 then (c0[k1.toNat]?).bind fun y_1 => z7f_ k k c0 y_1 0 [] (fun q_5 => some q_5) else none)
def q5z_ : Head := ⟨[(0, (.val (.ptr (.st (.sl 25 (.sl 2 (.int .i64))))))), (5, (.val (.sl 2 (.int .i64)))), (6, (.ref 64000000 [])), (7, (.val (.int .i64)))], [(64000000, 2, (.int .i64), false)], []⟩
def q60_ : Head := ⟨[(6, (.ref 64000000 []))], [(64000000, 2, (.int .i64), false)], []⟩
def q61_ (k n : Nat) (x : q5z_.T) (kx : Nat → St → Option (List Int)) : Option (List Int) := z7f_ k n x.1.1 x.1.2.1 x.1.2.2.2.1 x.2.1.1 (fun (q_5 : List Int) => kx 0 (q60_.fill (((), ()), (q_5, ()), ())))
def q62_ (k : Nat) : Oracles (List Int) := ⟨fun n => bif Nat.beq n 4 then some (fun σ kx => q5z_.get σ fun x => q61_ k k x kx) else none, fun _ => none⟩
def q63_ (k : Nat) : FE := ⟨(.pr (.ptr (.st (.sl 25 (.sl 2 (.int .i64))))) (.int .i64)), 1, (.sl 2 (.int .i64)), fun x => zcc_ k x.1 x.2⟩
theorem q64_ (k : Nat) : zd_ (z3_ ti [(137, q3y_), (136, q4b_ k)] (lk []) z7_ z8_) (q62_ k) (rdC (z3_ ti [(137, q3y_), (136, q4b_ k)] (lk []) z7_ z8_) [.tmp 4] (.sl 2 (.int .i64))) ((zc_ (z2_ Tryz.f99)).getD 0 .skip) (fun σ kx => q5z_.get σ fun x => q61_ k k x kx) := by
  refine ⟨q5z_, [(0, q60_)], fun n x kx => q61_ k n x kx, k, by kernel_rfl, by kernel_rfl, fun x kx => by kernel_rfl, ?_, fun σ kx => rfl⟩
  rintro n ⟨⟨c0, s5, ⟨⟩, i7, ⟨⟩⟩, ⟨q_2, ⟨⟩⟩, ⟨⟩⟩ kx
  kernel_rfl
theorem q65_ (k : Nat) : FnOK Tryz.prog 99 (q63_ k) := by
  refine za_ (tab := [(137, q3y_), (136, q4b_ k)]) (l := []) z4_ z6_ mix (List.forall_mem_cons.2 ⟨q3z_, (List.forall_mem_cons.2 ⟨q4d_ k, (List.forall_mem_nil _)⟩)⟩) (List.forall_mem_nil _) ⟨⟨Tryz.f99, (z2_ Tryz.f99), [.tmp 4], (q62_ k), by kernel_rfl, by kernel_rfl, by kernel_rfl, by kernel_rfl, rfl, by decide, ⟨by kernel_rfl, ?_, ?_⟩, ?_⟩⟩
  · refine zi_ (n := 1) (by kernel_rfl) fun i hi => ?_
    match i, hi with
    | 0, _ => exact ze_ (by kernel_rfl) (q64_ k)
    | n + 1, hi => omega
  · exact z5_ (by kernel_rfl)
  · rintro ⟨c0, k1⟩
    kernel_rfl
def z7g_ (k : Nat) (m0 : Int × Int × Int × List Int) : Option Bool := (z7b_ k m0.1).bind fun r_1 => (if r_1 = true then (z21_ m0.2.1 0 32).bind fun r_2 => (if r_2 = true then (z21_ m0.2.2.1 0 32).bind fun r_3 => (if r_3 = true then (z7c_ k m0.2.2.2 (z0_ (m0.2.1 * m0.2.2.1)) m0.1).bind fun r_4 => some r_4 else some false) else some false) else some false)
def q66_ (k : Nat) : FE := ⟨(.ptr (.st (.pr (.int .i64) (.pr (.int .i64) (.pr (.int .i64) (.sl 2 (.int .i64))))))), 1, .bool, fun x => z7g_ k x⟩
theorem q67_ (k : Nat) : FnOK Tryz.prog 57 (q66_ k) := by
  refine za_ (tab := [(91, q4w_ k), (96, q3e_), (97, q52_ k)]) (l := []) z4_ z6_ mix (List.forall_mem_cons.2 ⟨q4x_ k, (List.forall_mem_cons.2 ⟨q3f_, (List.forall_mem_cons.2 ⟨q54_ k, (List.forall_mem_nil _)⟩)⟩)⟩) (List.forall_mem_nil _) ⟨⟨Tryz.f57, (z2_ Tryz.f57), [.tmp 2], (LOn Bool), by kernel_rfl, by kernel_rfl, by kernel_rfl, by kernel_rfl, rfl, by decide, ⟨by kernel_rfl, ?_, ?_⟩, ?_⟩⟩
  · exact zf_ (by kernel_rfl)
  · exact z5_ (by kernel_rfl)
  · rintro m0
    kernel_rfl
def zj9_ (k : Nat) (s0 : List (List Int) × Int × List Int × List (Int × Int × Int × List Int)) (simplex1 : Int) (i2 : Int) (m3 : Int × Int × Int × List Int) : Option Bool := (zcc_ k s0.1 simplex1).bind fun r_1 => (if 0 ≤ i2 ∧ i2.toNat < List.length r_1 then (r_1[i2.toNat]?).bind fun y_2 => (z7g_ k m3).bind fun r_3 => (if r_3 = true then (if (decide (m3.1 = s0.2.1)) = true then (if 0 ≤ simplex1 then (s0.2.2.1[simplex1.toNat]?).bind fun y_4 => (if (decide (m3.2.1 = y_4)) = true then (if 0 ≤ y_2 then (s0.2.2.1[y_2.toNat]?).bind fun y_5 => some (decide (m3.2.2.1 = y_5)) else none) else some false) else none) else some false) else some false) else none)
def q68_ (k : Nat) : FE := ⟨(.pr (.ptr (.st (.pr (.st (.sl 25 (.sl 2 (.int .i64)))) (.pr (.int .i64) (.pr (.sl 2 (.int .i64)) (.sl 51 (.st (.pr (.int .i64) (.pr (.int .i64) (.pr (.int .i64) (.sl 2 (.int .i64)))))))))))) (.pr (.int .i64) (.pr (.int .i64) (.ptr (.st (.pr (.int .i64) (.pr (.int .i64) (.pr (.int .i64) (.sl 2 (.int .i64)))))))))), 1, .bool, fun x => zj9_ k x.1 x.2.1 x.2.2.1 x.2.2.2⟩
theorem q69_ (k : Nat) : FnOK Tryz.prog 94 (q68_ k) := by
  refine za_ (tab := [(99, q63_ k), (57, q66_ k)]) (l := []) z4_ z6_ mix (List.forall_mem_cons.2 ⟨q65_ k, (List.forall_mem_cons.2 ⟨q67_ k, (List.forall_mem_nil _)⟩)⟩) (List.forall_mem_nil _) ⟨⟨Tryz.f94, (z2_ Tryz.f94), [.tmp 8], (LOn Bool), by kernel_rfl, by kernel_rfl, by kernel_rfl, by kernel_rfl, rfl, by decide, ⟨by kernel_rfl, ?_, ?_⟩, ?_⟩⟩
  · exact zf_ (by kernel_rfl)
  · exact z5_ (by kernel_rfl)
  · rintro ⟨s0, simplex1, i2, m3⟩
    kernel_rfl
def z9v_ (k : Nat) : Nat → (List (List Int) × Int × List Int × List (Int × Int × Int × List Int)) → Int → Int → ((List (List Int) × Int × List Int × List (Int × Int × Int × List Int)) → Int → Option Bool) → Option Bool
  | 0, _, _, _, _ => none
  | n + 1, s0, k3, i4, e_2 => (if 0 ≤ k3 then (s0.1[k3.toNat]?).bind fun y_5 => (if (decide (i4 < (List.length y_5 : Int))) = true then (if 0 ≤ k3 then (s0.1[k3.toNat]?).bind fun y_6 => (if (decide (1 < (List.length y_6 : Int))) = true then (zcb_ k s0.1 k3 i4).bind fun r_7 => (if 0 ≤ r_7 then (s0.2.2.2[r_7.toNat]?).bind fun y_8 => (zj9_ k s0 k3 i4 y_8).bind fun r_9 => (if (!r_9) = true then some false else z9v_ k n s0 k3 (z0_ (i4 + 1)) e_2) else none) else e_2 s0 k3) else none) else e_2 s0 k3) else none)
def z68_ (k : Nat) : Nat → (List (List Int) × Int × List Int × List (Int × Int × Int × List Int)) → Int → (Option Bool) → Option Bool
  | 0, _, _, _ => none
  | n + 1, s0, k3, e_0 => (if (decide (k3 < (List.length s0.1 : Int))) = true then z9v_ k k s0 k3 0 (fun s_5 k_6 => z68_ k n s_5 (z0_ (k_6 + 1)) e_0) else e_0)
def zfr_ (k : Nat) (s0 : List (List Int) × Int × List Int × List (Int × Int × Int × List Int)) : Option Bool := (zc9_ k s0.1).bind fun r_1 => (if (!r_1) = true then some false else (z7b_ k s0.2.1).bind fun r_2 => (if (!r_2) = true then some false else (zfp_ k s0.1 s0.2.2.1).bind fun r_3 => (if (!r_3) = true then some false else (zfq_ k s0.1).bind fun r_4 => (if (!(decide ((List.length s0.2.2.2 : Int) = r_4))) = true then some false else z68_ k k s0 0 (some true)))))
def q6a_ : Head := ⟨[(0, (.val (.ptr (.st (.pr (.st (.sl 25 (.sl 2 (.int .i64)))) (.pr (.int .i64) (.pr (.sl 2 (.int .i64)) (.sl 51 (.st (.pr (.int .i64) (.pr (.int .i64) (.pr (.int .i64) (.sl 2 (.int .i64)))))))))))))), (3, (.val (.int .i64))), (4, (.val (.int .i64)))], [], []⟩
def q6b_ : Head := ⟨[(0, (.val (.ptr (.st (.pr (.st (.sl 25 (.sl 2 (.int .i64)))) (.pr (.int .i64) (.pr (.sl 2 (.int .i64)) (.sl 51 (.st (.pr (.int .i64) (.pr (.int .i64) (.pr (.int .i64) (.sl 2 (.int .i64)))))))))))))), (3, (.val (.int .i64)))], [], []⟩
def q6c_ (k n : Nat) (x : q6a_.T) (kx : Nat → St → Option Bool) : Option Bool := z9v_ k n x.1.1 x.1.2.1 x.1.2.2.1 (fun (s0 : List (List Int) × Int × List Int × List (Int × Int × Int × List Int)) (k3 : Int) => kx 2 (q6b_.fill ((s0, k3, ()), (), ())))
def q6d_ : Head := ⟨[(0, (.val (.ptr (.st (.pr (.st (.sl 25 (.sl 2 (.int .i64)))) (.pr (.int .i64) (.pr (.sl 2 (.int .i64)) (.sl 51 (.st (.pr (.int .i64) (.pr (.int .i64) (.pr (.int .i64) (.sl 2 (.int .i64)))))))))))))), (3, (.val (.int .i64)))], [], []⟩
def q6e_ : Head := ⟨[], [], []⟩
def q6f_ (k n : Nat) (x : q6d_.T) (kx : Nat → St → Option Bool) : Option Bool := z68_ k n x.1.1 x.1.2.1 (kx 0 (q6e_.fill ((), (), ())))
def q6g_ (k : Nat) : Oracles Bool := ⟨fun n => bif Nat.beq n 7 then some (fun σ kx => q6a_.get σ fun x => q6c_ k k x kx) else bif Nat.beq n 4 then some (fun σ kx => q6d_.get σ fun x => q6f_ k k x kx) else none, fun _ => none⟩
def q6h_ (k : Nat) : FE := ⟨(.ptr (.st (.pr (.st (.sl 25 (.sl 2 (.int .i64)))) (.pr (.int .i64) (.pr (.sl 2 (.int .i64)) (.sl 51 (.st (.pr (.int .i64) (.pr (.int .i64) (.pr (.int .i64) (.sl 2 (.int .i64)))))))))))), 1, .bool, fun x => zfr_ k x⟩
theorem q6i_ (k : Nat) : zd_ (z3_ ti [(90, q4l_ k), (91, q4w_ k), (92, q5n_ k), (93, q5x_ k), (95, q5u_ k), (94, q68_ k)] (lk []) z7_ z8_) (q6g_ k) (rdC (z3_ ti [(90, q4l_ k), (91, q4w_ k), (92, q5n_ k), (93, q5x_ k), (95, q5u_ k), (94, q68_ k)] (lk []) z7_ z8_) [.tmp 2] .bool) ((zc_ (z2_ Tryz.f55)).getD 1 .skip) (fun σ kx => q6a_.get σ fun x => q6c_ k k x kx) := by
  refine ⟨q6a_, [(2, q6b_)], fun n x kx => q6c_ k n x kx, k, by kernel_rfl, by kernel_rfl, fun x kx => by kernel_rfl, ?_, fun σ kx => rfl⟩
  rintro n ⟨⟨s0, k3, i4, ⟨⟩⟩, ⟨⟩, ⟨⟩⟩ kx
  kernel_rfl
theorem q6j_ (k : Nat) : zd_ (z3_ ti [(90, q4l_ k), (91, q4w_ k), (92, q5n_ k), (93, q5x_ k), (95, q5u_ k), (94, q68_ k)] (lk []) z7_ z8_) (q6g_ k) (rdC (z3_ ti [(90, q4l_ k), (91, q4w_ k), (92, q5n_ k), (93, q5x_ k), (95, q5u_ k), (94, q68_ k)] (lk []) z7_ z8_) [.tmp 2] .bool) ((zc_ (z2_ Tryz.f55)).getD 0 .skip) (fun σ kx => q6d_.get σ fun x => q6f_ k k x kx) := by
  refine ⟨q6d_, [(0, q6e_)], fun n x kx => q6f_ k n x kx, k, by kernel_rfl, by kernel_rfl, fun x kx => by kernel_rfl, ?_, fun σ kx => rfl⟩
  rintro n ⟨⟨s0, k3, ⟨⟩⟩, ⟨⟩, ⟨⟩⟩ kx
  kernel_rfl
theorem q6k_ (k : Nat) : FnOK Tryz.prog 55 (q6h_ k) := by
  refine za_ (tab := [(90, q4l_ k), (91, q4w_ k), (92, q5n_ k), (93, q5x_ k), (95, q5u_ k), (94, q68_ k)]) (l := []) z4_ z6_ mix (List.forall_mem_cons.2 ⟨q4o_ k, (List.forall_mem_cons.2 ⟨q4x_ k, (List.forall_mem_cons.2 ⟨q5p_ k, (List.forall_mem_cons.2 ⟨q5y_ k, (List.forall_mem_cons.2 ⟨q5w_ k, (List.forall_mem_cons.2 ⟨q69_ k, (List.forall_mem_nil _)⟩)⟩)⟩)⟩)⟩)⟩) (List.forall_mem_nil _) ⟨⟨Tryz.f55, (z2_ Tryz.f55), [.tmp 2], (q6g_ k), by kernel_rfl, by kernel_rfl, by kernel_rfl, by kernel_rfl, rfl, by decide, ⟨by kernel_rfl, ?_, ?_⟩, ?_⟩⟩
  · refine zi_ (n := 2) (by kernel_rfl) fun i hi => ?_
    match i, hi with
    | 0, _ => exact ze_ (by kernel_rfl) (q6j_ k)
    | 1, _ => exact ze_ (by kernel_rfl) (q6i_ k)
    | n + 2, hi => omega
  · exact z5_ (by kernel_rfl)
  · rintro s0
    kernel_rfl
def z69_ (k : Nat) : Nat → (Int × List (Int × Int × Int)) → Int → ((Int × List (Int × Int × Int)) → Option Bool) → Option Bool
  | 0, _, _, _ => none
  | n + 1, g0, i3, e_0 => (if (decide (i3 < (List.length g0.2 : Int))) = true then (if 0 ≤ i3 then (g0.2[i3.toNat]?).bind fun y_2 => (z21_ y_2.2.1 0 (z0_ (g0.1 - 1))).bind fun r_3 => (if (!r_3) = true then some false else (z21_ y_2.1 0 (z0_ (y_2.2.1 - 1))).bind fun r_4 => (if (!r_4) = true then some false else (z21_ y_2.2.2 1 9).bind fun r_5 => (if (!r_5) = true then some false else (if (decide (0 < i3)) = true then (if 0 ≤ (z0_ (i3 - 1)) then (g0.2[(z0_ (i3 - 1)).toNat]?).bind fun y_6 => (if (decide (y_2.1 < y_6.1)) = true then some false else (if 0 ≤ (z0_ (i3 - 1)) then (g0.2[(z0_ (i3 - 1)).toNat]?).bind fun y_7 => (if (decide (y_7.1 = y_2.1)) = true then (if 0 ≤ (z0_ (i3 - 1)) then (g0.2[(z0_ (i3 - 1)).toNat]?).bind fun y_8 => (if (decide (y_2.2.1 ≤ y_8.2.1)) = true then some false else z69_ k n g0 (z0_ (i3 + 1)) e_0) else none) else z69_ k n g0 (z0_ (i3 + 1)) e_0) else none)) else none) else z69_ k n g0 (z0_ (i3 + 1)) e_0)))) else none) else e_0 g0)
def zfs_ (k : Nat) (g0 : Int × List (Int × Int × Int)) : Option Bool := (z21_ g0.1 1 12).bind fun r_1 => (if (!r_1) = true then some false else z69_ k k g0 0 (fun g_9 => some (decide ((List.length g_9.2 : Int) ≤ 24))))
def q6l_ : Head := ⟨[(0, (.val (.ptr (.st (.pr (.int .i64) (.sl 157 (.st (.pr (.int .i64) (.pr (.int .i64) (.int .i64)))))))))), (3, (.val (.int .i64)))], [], []⟩
def q6m_ : Head := ⟨[(0, (.val (.ptr (.st (.pr (.int .i64) (.sl 157 (.st (.pr (.int .i64) (.pr (.int .i64) (.int .i64))))))))))], [], []⟩
def q6n_ (k n : Nat) (x : q6l_.T) (kx : Nat → St → Option Bool) : Option Bool := z69_ k n x.1.1 x.1.2.1 (fun (g0 : Int × List (Int × Int × Int)) => kx 0 (q6m_.fill ((g0, ()), (), ())))
def q6o_ (k : Nat) : Oracles Bool := ⟨fun n => bif Nat.beq n 4 then some (fun σ kx => q6l_.get σ fun x => q6n_ k k x kx) else none, fun _ => none⟩
def q6p_ (k : Nat) : FE := ⟨(.ptr (.st (.pr (.int .i64) (.sl 157 (.st (.pr (.int .i64) (.pr (.int .i64) (.int .i64)))))))), 1, .bool, fun x => zfs_ k x⟩
theorem q6q_ (k : Nat) : zd_ (z3_ ti [(96, q3e_)] (lk []) z7_ z8_) (q6o_ k) (rdC (z3_ ti [(96, q3e_)] (lk []) z7_ z8_) [.tmp 2] .bool) ((zc_ (z2_ Tryz.f56)).getD 0 .skip) (fun σ kx => q6l_.get σ fun x => q6n_ k k x kx) := by
  refine ⟨q6l_, [(0, q6m_)], fun n x kx => q6n_ k n x kx, k, by kernel_rfl, by kernel_rfl, fun x kx => by kernel_rfl, ?_, fun σ kx => rfl⟩
  rintro n ⟨⟨g0, i3, ⟨⟩⟩, ⟨⟩, ⟨⟩⟩ kx
  kernel_rfl
theorem q6r_ (k : Nat) : FnOK Tryz.prog 56 (q6p_ k) := by
  refine za_ (tab := [(96, q3e_)]) (l := []) z4_ z6_ mix (List.forall_mem_cons.2 ⟨q3f_, (List.forall_mem_nil _)⟩) (List.forall_mem_nil _) ⟨⟨Tryz.f56, (z2_ Tryz.f56), [.tmp 2], (q6o_ k), by kernel_rfl, by kernel_rfl, by kernel_rfl, by kernel_rfl, rfl, by decide, ⟨by kernel_rfl, ?_, ?_⟩, ?_⟩⟩
  · refine zi_ (n := 1) (by kernel_rfl) fun i hi => ?_
    match i, hi with
    | 0, _ => exact ze_ (by kernel_rfl) (q6q_ k)
    | n + 1, hi => omega
  · exact z5_ (by kernel_rfl)
  · rintro g0
    kernel_rfl
end
end Go.Proofs.YtckbclbmkklaoaaGreatDoor.Ev
