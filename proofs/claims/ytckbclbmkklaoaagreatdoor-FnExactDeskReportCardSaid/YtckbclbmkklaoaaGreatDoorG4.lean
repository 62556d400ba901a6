/- Functions of the program, as zl_ ones. No conditions. -/
import Derived.Test.YtckbclbmkklaoaaGreatDoorG3
import Derived.KernelRfl
set_option linter.unusedVariables false
set_option maxRecDepth 100000
namespace Go.Proofs.YtckbclbmkklaoaaGreatDoor.Ev
open Go.RowKit
noncomputable section
def z9w_ (k : Nat) : Nat → (List Int) → (List Int) → Int → ((List Int) → (List Int) → Option Bool) → Option Bool
  | 0, _, _, _, _ => none
  | n + 1, a0, b1, i5, e_0 => (if (decide (i5 < (List.length a0 : Int))) = true then (if (decide (i5 < (List.length b1 : Int))) = true then (if 0 ≤ i5 then (a0[i5.toNat]?).bind fun y_1 => (if 0 ≤ i5 then (b1[i5.toNat]?).bind fun y_2 => (if (!(decide (y_1 = y_2))) = true then (if 0 ≤ i5 then (a0[i5.toNat]?).bind fun y_3 => (if 0 ≤ i5 then (b1[i5.toNat]?).bind fun y_4 => some (decide (y_3 < y_4)) else none) else none) else z9w_ k n a0 b1 (z0_ (i5 + 1)) e_0) else none) else none) else e_0 a0 b1) else e_0 a0 b1)
def zft_ (k : Nat) (a0 : List Int) (b1 : List Int) : Option Bool := z9w_ k k a0 b1 0 (fun a_5 b_6 => some (decide ((List.length a_5 : Int) < (List.length b_6 : Int))))
def q6s_ : Head := ⟨[(0, (.val (.sl 2 (.int .i64)))), (1, (.val (.sl 2 (.int .i64)))), (5, (.val (.int .i64)))], [], []⟩
def q6t_ : Head := ⟨[(0, (.val (.sl 2 (.int .i64)))), (1, (.val (.sl 2 (.int .i64))))], [], []⟩
def q6u_ (k n : Nat) (x : q6s_.T) (kx : Nat → St → Option Bool) : Option Bool := z9w_ k n x.1.1 x.1.2.1 x.1.2.2.1 (fun (a0 : List Int) (b1 : List Int) => kx 0 (q6t_.fill ((a0, b1, ()), (), ())))
def q6v_ (k : Nat) : Oracles Bool := ⟨fun n => bif Nat.beq n 2 then some (fun σ kx => q6s_.get σ fun x => q6u_ k k x kx) else none, fun _ => none⟩
def q6w_ (k : Nat) : FE := ⟨(.pr (.sl 2 (.int .i64)) (.sl 2 (.int .i64))), 1, .bool, fun x => zft_ k x.1 x.2⟩
theorem q6x_ (k : Nat) : zd_ (z3_ ti [] (lk []) z7_ z8_) (q6v_ k) (rdC (z3_ ti [] (lk []) z7_ z8_) [.tmp 4] .bool) ((zc_ (z2_ Tryz.f140)).getD 0 .skip) (fun σ kx => q6s_.get σ fun x => q6u_ k k x kx) := by
  refine ⟨q6s_, [(0, q6t_)], fun n x kx => q6u_ k n x kx, k, by kernel_rfl, by kernel_rfl, fun x kx => by kernel_rfl, ?_, fun σ kx => rfl⟩
  rintro n ⟨⟨a0, b1, i5, ⟨⟩⟩, ⟨⟩, ⟨⟩⟩ kx
  kernel_rfl
theorem q6y_ (k : Nat) : FnOK Tryz.prog 140 (q6w_ k) := by
  refine za_ (tab := []) (l := []) z4_ z6_ mix (List.forall_mem_nil _) (List.forall_mem_nil _) ⟨⟨Tryz.f140, (z2_ Tryz.f140), [.tmp 4], (q6v_ k), by kernel_rfl, by kernel_rfl, by kernel_rfl, by kernel_rfl, rfl, by decide, ⟨by kernel_rfl, ?_, ?_⟩, ?_⟩⟩
  · refine zi_ (n := 1) (by kernel_rfl) fun i hi => ?_
    match i, hi with
    | 0, _ => exact ze_ (by kernel_rfl) (q6x_ k)
    | n + 1, hi => omega
  · exact z5_ (by kernel_rfl)
  · rintro ⟨a0, b1⟩
    kernel_rfl
def z6a_ (k : Nat) : Nat → (List Int × List (List Int)) → Int → Int → ((List Int × List (List Int)) → Int → Option Bool) → Option Bool
  | 0, _, _, _, _ => none
  | n + 1, t0, i3, k4, e_2 => (if 0 ≤ i3 then (t0.2[i3.toNat]?).bind fun y_6 => (if (decide (k4 < (List.length y_6 : Int))) = true then (if 0 ≤ i3 then (t0.2[i3.toNat]?).bind fun y_7 => (if 0 ≤ k4 then (y_7[k4.toNat]?).bind fun y_8 => (z21_ y_8 0 3).bind fun r_9 => (if (!r_9) = true then some false else z6a_ k n t0 i3 (z0_ (k4 + 1)) e_2) else none) else none) else e_2 t0 i3) else none)
def z7h_ (k : Nat) : Nat → (List Int × List (List Int)) → Int → (Option Bool) → Option Bool
  | 0, _, _, _ => none
  | n + 1, t0, i3, e_0 => (if (decide (i3 < (List.length t0.2 : Int))) = true then (if 0 ≤ i3 then (t0.2[i3.toNat]?).bind fun y_2 => (if (!(decide ((List.length y_2 : Int) = (List.length t0.1 : Int)))) = true then some false else (if (decide (0 < i3)) = true then (if 0 ≤ (z0_ (i3 - 1)) then (t0.2[(z0_ (i3 - 1)).toNat]?).bind fun y_3 => (if 0 ≤ i3 then (t0.2[i3.toNat]?).bind fun y_4 => (zft_ k y_3 y_4).bind fun r_5 => (if (!r_5) = true then some false else z6a_ k k t0 i3 0 (fun t_6 i_7 => z7h_ k n t_6 (z0_ (i_7 + 1)) e_0)) else none) else none) else z6a_ k k t0 i3 0 (fun t_8 i_9 => z7h_ k n t_8 (z0_ (i_9 + 1)) e_0))) else none) else e_0)
def zfu_ (k : Nat) (t0 : List Int × List (List Int)) : Option Bool := (z9o_ k t0.1 0 7).bind fun r_1 => (if (!r_1) = true then some false else (if (decide (24 < (List.length t0.2 : Int))) = true then some false else z7h_ k k t0 0 (some true)))
def q6z_ : Head := ⟨[(0, (.val (.ptr (.st (.pr (.sl 2 (.int .i64)) (.sl 25 (.sl 2 (.int .i64)))))))), (3, (.val (.int .i64))), (4, (.val (.int .i64)))], [], []⟩
def q70_ : Head := ⟨[(0, (.val (.ptr (.st (.pr (.sl 2 (.int .i64)) (.sl 25 (.sl 2 (.int .i64)))))))), (3, (.val (.int .i64)))], [], []⟩
def q71_ (k n : Nat) (x : q6z_.T) (kx : Nat → St → Option Bool) : Option Bool := z6a_ k n x.1.1 x.1.2.1 x.1.2.2.1 (fun (t0 : List Int × List (List Int)) (i3 : Int) => kx 2 (q70_.fill ((t0, i3, ()), (), ())))
def q72_ : Head := ⟨[(0, (.val (.ptr (.st (.pr (.sl 2 (.int .i64)) (.sl 25 (.sl 2 (.int .i64)))))))), (3, (.val (.int .i64)))], [], []⟩
def q73_ : Head := ⟨[], [], []⟩
def q74_ (k n : Nat) (x : q72_.T) (kx : Nat → St → Option Bool) : Option Bool := z7h_ k n x.1.1 x.1.2.1 (kx 0 (q73_.fill ((), (), ())))
def q75_ (k : Nat) : Oracles Bool := ⟨fun n => bif Nat.beq n 9 then some (fun σ kx => q6z_.get σ fun x => q71_ k k x kx) else bif Nat.beq n 4 then some (fun σ kx => q72_.get σ fun x => q74_ k k x kx) else none, fun _ => none⟩
def q76_ (k : Nat) : FE := ⟨(.ptr (.st (.pr (.sl 2 (.int .i64)) (.sl 25 (.sl 2 (.int .i64)))))), 1, .bool, fun x => zfu_ k x⟩
theorem q77_ (k : Nat) : zd_ (z3_ ti [(139, q3k_ k), (140, q6w_ k), (96, q3e_)] (lk []) z7_ z8_) (q75_ k) (rdC (z3_ ti [(139, q3k_ k), (140, q6w_ k), (96, q3e_)] (lk []) z7_ z8_) [.tmp 2] .bool) ((zc_ (z2_ Tryz.f98)).getD 1 .skip) (fun σ kx => q6z_.get σ fun x => q71_ k k x kx) := by
  refine ⟨q6z_, [(2, q70_)], fun n x kx => q71_ k n x kx, k, by kernel_rfl, by kernel_rfl, fun x kx => by kernel_rfl, ?_, fun σ kx => rfl⟩
  rintro n ⟨⟨t0, i3, k4, ⟨⟩⟩, ⟨⟩, ⟨⟩⟩ kx
  kernel_rfl
theorem q78_ (k : Nat) : zd_ (z3_ ti [(139, q3k_ k), (140, q6w_ k), (96, q3e_)] (lk []) z7_ z8_) (q75_ k) (rdC (z3_ ti [(139, q3k_ k), (140, q6w_ k), (96, q3e_)] (lk []) z7_ z8_) [.tmp 2] .bool) ((zc_ (z2_ Tryz.f98)).getD 0 .skip) (fun σ kx => q72_.get σ fun x => q74_ k k x kx) := by
  refine ⟨q72_, [(0, q73_)], fun n x kx => q74_ k n x kx, k, by kernel_rfl, by kernel_rfl, fun x kx => by kernel_rfl, ?_, fun σ kx => rfl⟩
  rintro n ⟨⟨t0, i3, ⟨⟩⟩, ⟨⟩, ⟨⟩⟩ kx
  kernel_rfl
theorem q79_ (k : Nat) : FnOK Tryz.prog 98 (q76_ k) := by
  refine za_ (tab := [(139, q3k_ k), (140, q6w_ k), (96, q3e_)]) (l := []) z4_ z6_ mix (List.forall_mem_cons.2 ⟨q3m_ k, (List.forall_mem_cons.2 ⟨q6y_ k, (List.forall_mem_cons.2 ⟨q3f_, (List.forall_mem_nil _)⟩)⟩)⟩) (List.forall_mem_nil _) ⟨⟨Tryz.f98, (z2_ Tryz.f98), [.tmp 2], (q75_ k), by kernel_rfl, by kernel_rfl, by kernel_rfl, by kernel_rfl, rfl, by decide, ⟨by kernel_rfl, ?_, ?_⟩, ?_⟩⟩
  · refine zi_ (n := 2) (by kernel_rfl) fun i hi => ?_
    match i, hi with
    | 0, _ => exact ze_ (by kernel_rfl) (q78_ k)
    | 1, _ => exact ze_ (by kernel_rfl) (q77_ k)
    | n + 2, hi => omega
  · exact z5_ (by kernel_rfl)
  · rintro t0
    kernel_rfl
def z9x_ (k : Nat) : Nat → (List (List Int × List (List Int))) → Int → ((List (List Int × List (List Int))) → Option Bool) → Option Bool
  | 0, _, _, _ => none
  | n + 1, list0, i3, e_0 => (if (decide (i3 < (List.length list0 : Int))) = true then (if 0 ≤ i3 then (list0[i3.toNat]?).bind fun y_1 => (zfu_ k y_1).bind fun r_2 => (if (!r_2) = true then some false else z9x_ k n list0 (z0_ (i3 + 1)) e_0) else none) else e_0 list0)
def zfv_ (k : Nat) (list0 : List (List Int × List (List Int))) : Option Bool := z9x_ k k list0 0 (fun list_3 => some (decide ((List.length list_3 : Int) ≤ 6)))
def q7a_ : Head := ⟨[(0, (.val (.sl 87 (.st (.pr (.sl 2 (.int .i64)) (.sl 25 (.sl 2 (.int .i64)))))))), (3, (.val (.int .i64)))], [], []⟩
def q7b_ : Head := ⟨[(0, (.val (.sl 87 (.st (.pr (.sl 2 (.int .i64)) (.sl 25 (.sl 2 (.int .i64))))))))], [], []⟩
def q7c_ (k n : Nat) (x : q7a_.T) (kx : Nat → St → Option Bool) : Option Bool := z9x_ k n x.1.1 x.1.2.1 (fun (list0 : List (List Int × List (List Int))) => kx 0 (q7b_.fill ((list0, ()), (), ())))
def q7d_ (k : Nat) : Oracles Bool := ⟨fun n => bif Nat.beq n 2 then some (fun σ kx => q7a_.get σ fun x => q7c_ k k x kx) else none, fun _ => none⟩
def q7e_ (k : Nat) : FE := ⟨(.sl 87 (.st (.pr (.sl 2 (.int .i64)) (.sl 25 (.sl 2 (.int .i64)))))), 1, .bool, fun x => zfv_ k x⟩
theorem q7f_ (k : Nat) : zd_ (z3_ ti [(98, q76_ k)] (lk []) z7_ z8_) (q7d_ k) (rdC (z3_ ti [(98, q76_ k)] (lk []) z7_ z8_) [.tmp 2] .bool) ((zc_ (z2_ Tryz.f58)).getD 0 .skip) (fun σ kx => q7a_.get σ fun x => q7c_ k k x kx) := by
  refine ⟨q7a_, [(0, q7b_)], fun n x kx => q7c_ k n x kx, k, by kernel_rfl, by kernel_rfl, fun x kx => by kernel_rfl, ?_, fun σ kx => rfl⟩
  rintro n ⟨⟨list0, i3, ⟨⟩⟩, ⟨⟩, ⟨⟩⟩ kx
  kernel_rfl
theorem q7g_ (k : Nat) : FnOK Tryz.prog 58 (q7e_ k) := by
  refine za_ (tab := [(98, q76_ k)]) (l := []) z4_ z6_ mix (List.forall_mem_cons.2 ⟨q79_ k, (List.forall_mem_nil _)⟩) (List.forall_mem_nil _) ⟨⟨Tryz.f58, (z2_ Tryz.f58), [.tmp 2], (q7d_ k), by kernel_rfl, by kernel_rfl, by kernel_rfl, by kernel_rfl, rfl, by decide, ⟨by kernel_rfl, ?_, ?_⟩, ?_⟩⟩
  · refine zi_ (n := 1) (by kernel_rfl) fun i hi => ?_
    match i, hi with
    | 0, _ => exact ze_ (by kernel_rfl) (q7f_ k)
    | n + 1, hi => omega
  · exact z5_ (by kernel_rfl)
  · rintro list0
    kernel_rfl
def z9y_ (k : Nat) : Nat → (List (List Int) × List Int) → Int → Int → (List Int) → ((List (List Int) × List Int) → Int → Option Bool) → Option Bool
  | 0, _, _, _, _, _ => none
  | n + 1, f0, k3, i5, q_4, e_2 => (if (decide (i5 < (List.length q_4 : Int))) = true then (if 0 ≤ i5 ∧ i5.toNat < List.length q_4 then (q_4[i5.toNat]?).bind fun y_5 => (if 0 ≤ y_5 then (f0.2[y_5.toNat]?).bind fun y_6 => (if 0 ≤ k3 then (f0.2[k3.toNat]?).bind fun y_7 => (if (decide (y_7 < y_6)) = true then some false else z9y_ k n f0 k3 (z0_ (i5 + 1)) q_4 e_2) else none) else none) else none) else e_2 f0 k3)
def z6b_ (k : Nat) : Nat → (List (List Int) × List Int) → Int → (Option Bool) → Option Bool
  | 0, _, _, _ => none
  | n + 1, f0, k3, e_0 => (if (decide (k3 < (List.length f0.2 : Int))) = true then (zcc_ k f0.1 k3).bind fun r_3 => z9y_ k k f0 k3 0 r_3 (fun f_4 k_5 => z6b_ k n f_4 (z0_ (k_5 + 1)) e_0) else e_0)
def zfw_ (k : Nat) (f0 : List (List Int) × List Int) : Option Bool := (zc9_ k f0.1).bind fun r_1 => (if (!r_1) = true then some false else (z7c_ k f0.2 (List.length f0.1 : Int) 1001).bind fun r_2 => (if (!r_2) = true then some false else z6b_ k k f0 0 (some true)))
def q7h_ : Head := ⟨[(0, (.val (.ptr (.st (.pr (.st (.sl 25 (.sl 2 (.int .i64)))) (.sl 2 (.int .i64))))))), (3, (.val (.int .i64))), (4, (.ref 64000000 [])), (5, (.val (.int .i64)))], [(64000000, 2, (.int .i64), false)], []⟩
def q7i_ : Head := ⟨[(0, (.val (.ptr (.st (.pr (.st (.sl 25 (.sl 2 (.int .i64)))) (.sl 2 (.int .i64))))))), (3, (.val (.int .i64)))], [], []⟩
def q7j_ (k n : Nat) (x : q7h_.T) (kx : Nat → St → Option Bool) : Option Bool := z9y_ k n x.1.1 x.1.2.1 x.1.2.2.2.1 x.2.1.1 (fun (f0 : List (List Int) × List Int) (k3 : Int) => kx 2 (q7i_.fill ((f0, k3, ()), (), ())))
def q7k_ : Head := ⟨[(0, (.val (.ptr (.st (.pr (.st (.sl 25 (.sl 2 (.int .i64)))) (.sl 2 (.int .i64))))))), (3, (.val (.int .i64)))], [], []⟩
def q7l_ : Head := ⟨[], [], []⟩
def q7m_ (k n : Nat) (x : q7k_.T) (kx : Nat → St → Option Bool) : Option Bool := z6b_ k n x.1.1 x.1.2.1 (kx 0 (q7l_.fill ((), (), ())))
def q7n_ (k : Nat) : Oracles Bool := ⟨fun n => bif Nat.beq n 8 then some (fun σ kx => q7h_.get σ fun x => q7j_ k k x kx) else bif Nat.beq n 4 then some (fun σ kx => q7k_.get σ fun x => q7m_ k k x kx) else none, fun _ => none⟩
def q7o_ (k : Nat) : FE := ⟨(.ptr (.st (.pr (.st (.sl 25 (.sl 2 (.int .i64)))) (.sl 2 (.int .i64))))), 1, .bool, fun x => zfw_ k x⟩
theorem q7p_ (k : Nat) : zd_ (z3_ ti [(90, q4l_ k), (97, q52_ k), (99, q63_ k)] (lk []) z7_ z8_) (q7n_ k) (rdC (z3_ ti [(90, q4l_ k), (97, q52_ k), (99, q63_ k)] (lk []) z7_ z8_) [.tmp 2] .bool) ((zc_ (z2_ Tryz.f59)).getD 1 .skip) (fun σ kx => q7h_.get σ fun x => q7j_ k k x kx) := by
  refine ⟨q7h_, [(2, q7i_)], fun n x kx => q7j_ k n x kx, k, by kernel_rfl, by kernel_rfl, fun x kx => by kernel_rfl, ?_, fun σ kx => rfl⟩
  rintro n ⟨⟨f0, k3, ⟨⟩, i5, ⟨⟩⟩, ⟨q_4, ⟨⟩⟩, ⟨⟩⟩ kx
  kernel_rfl
theorem q7q_ (k : Nat) : zd_ (z3_ ti [(90, q4l_ k), (97, q52_ k), (99, q63_ k)] (lk []) z7_ z8_) (q7n_ k) (rdC (z3_ ti [(90, q4l_ k), (97, q52_ k), (99, q63_ k)] (lk []) z7_ z8_) [.tmp 2] .bool) ((zc_ (z2_ Tryz.f59)).getD 0 .skip) (fun σ kx => q7k_.get σ fun x => q7m_ k k x kx) := by
  refine ⟨q7k_, [(0, q7l_)], fun n x kx => q7m_ k n x kx, k, by kernel_rfl, by kernel_rfl, fun x kx => by kernel_rfl, ?_, fun σ kx => rfl⟩
  rintro n ⟨⟨f0, k3, ⟨⟩⟩, ⟨⟩, ⟨⟩⟩ kx
  kernel_rfl
theorem q7r_ (k : Nat) : FnOK Tryz.prog 59 (q7o_ k) := by
  refine za_ (tab := [(90, q4l_ k), (97, q52_ k), (99, q63_ k)]) (l := []) z4_ z6_ mix (List.forall_mem_cons.2 ⟨q4o_ k, (List.forall_mem_cons.2 ⟨q54_ k, (List.forall_mem_cons.2 ⟨q65_ k, (List.forall_mem_nil _)⟩)⟩)⟩) (List.forall_mem_nil _) ⟨⟨Tryz.f59, (z2_ Tryz.f59), [.tmp 2], (q7n_ k), by kernel_rfl, by kernel_rfl, by kernel_rfl, by kernel_rfl, rfl, by decide, ⟨by kernel_rfl, ?_, ?_⟩, ?_⟩⟩
  · refine zi_ (n := 2) (by kernel_rfl) fun i hi => ?_
    match i, hi with
    | 0, _ => exact ze_ (by kernel_rfl) (q7q_ k)
    | 1, _ => exact ze_ (by kernel_rfl) (q7p_ k)
    | n + 2, hi => omega
  · exact z5_ (by kernel_rfl)
  · rintro f0
    kernel_rfl
def zcd_ (c0 : Int) : Option Bool := (if (decide (97 ≤ c0)) = true then some (decide (c0 ≤ 122)) else some false)
def q7s_ : FE := ⟨(.int .u8), 1, .bool, fun x => zcd_ x⟩
theorem q7t_ : FnOK Tryz.prog 173 (q7s_) := by
  refine za_ (tab := []) (l := []) z4_ z6_ mix (List.forall_mem_nil _) (List.forall_mem_nil _) ⟨⟨Tryz.f173, (z2_ Tryz.f173), [.tmp 2], (LOn Bool), by kernel_rfl, by kernel_rfl, by kernel_rfl, by kernel_rfl, rfl, by decide, ⟨by kernel_rfl, ?_, ?_⟩, ?_⟩⟩
  · exact zf_ (by kernel_rfl)
  · exact z5_ (by kernel_rfl)
  · rintro c0
    kernel_rfl
def zfx_ (c0 : Int) : Option Bool := (if (decide (48 ≤ c0)) = true then some (decide (c0 ≤ 57)) else some false)
def q7u_ : FE := ⟨(.int .u8), 1, .bool, fun x => zfx_ x⟩
theorem q7v_ : FnOK Tryz.prog 174 (q7u_) := by
  refine za_ (tab := []) (l := []) z4_ z6_ mix (List.forall_mem_nil _) (List.forall_mem_nil _) ⟨⟨Tryz.f174, (z2_ Tryz.f174), [.tmp 2], (LOn Bool), by kernel_rfl, by kernel_rfl, by kernel_rfl, by kernel_rfl, rfl, by decide, ⟨by kernel_rfl, ?_, ?_⟩, ?_⟩⟩
  · exact zf_ (by kernel_rfl)
  · exact z5_ (by kernel_rfl)
  · rintro c0
    kernel_rfl
def z6c_ (k : Nat) : Nat → (List UInt8) → Int → (Option Bool) → Option Bool
  | 0, _, _, _ => none
  | n + 1, s0, i3, e_0 => (if (decide (i3 < (List.length s0 : Int))) = true then (if 0 ≤ i3 then (s0[i3.toNat]?).bind fun b_3 => (zcd_ (z_u8 b_3)).bind fun r_4 => (if (!r_4) = true then (if 0 ≤ i3 then (s0[i3.toNat]?).bind fun b_5 => (zfx_ (z_u8 b_5)).bind fun r_6 => (if (!r_6) = true then some false else z6c_ k n s0 (z0_ (i3 + 1)) e_0) else none) else z6c_ k n s0 (z0_ (i3 + 1)) e_0) else none) else e_0)
def zfy_ (k : Nat) (s0 : List UInt8) : Option Bool := (if (decide (s0 = [])) = true then some false else (if (decide (10 < (List.length s0 : Int))) = true then some false else (s0[0]?).bind fun b_1 => (zcd_ (z_u8 b_1)).bind fun r_2 => (if (!r_2) = true then some false else z6c_ k k s0 0 (some true))))
def q7w_ : Head := ⟨[(0, (.val .str)), (3, (.val (.int .i64)))], [], []⟩
def q7x_ : Head := ⟨[], [], []⟩
def q7y_ (k n : Nat) (x : q7w_.T) (kx : Nat → St → Option Bool) : Option Bool := z6c_ k n x.1.1 x.1.2.1 (kx 0 (q7x_.fill ((), (), ())))
def q7z_ (k : Nat) : Oracles Bool := ⟨fun n => bif Nat.beq n 4 then some (fun σ kx => q7w_.get σ fun x => q7y_ k k x kx) else none, fun _ => none⟩
def q80_ (k : Nat) : FE := ⟨.str, 1, .bool, fun x => zfy_ k x⟩
theorem q81_ (k : Nat) : zd_ (z3_ ti [(173, q7s_), (174, q7u_)] (lk []) z7_ z8_) (q7z_ k) (rdC (z3_ ti [(173, q7s_), (174, q7u_)] (lk []) z7_ z8_) [.tmp 2] .bool) ((zc_ (z2_ Tryz.f141)).getD 0 .skip) (fun σ kx => q7w_.get σ fun x => q7y_ k k x kx) := by
  refine ⟨q7w_, [(0, q7x_)], fun n x kx => q7y_ k n x kx, k, by kernel_rfl, by kernel_rfl, fun x kx => by kernel_rfl, ?_, fun σ kx => rfl⟩
  rintro n ⟨⟨s0, i3, ⟨⟩⟩, ⟨⟩, ⟨⟩⟩ kx
  kernel_rfl
theorem q82_ (k : Nat) : FnOK Tryz.prog 141 (q80_ k) := by
  refine za_ (tab := [(173, q7s_), (174, q7u_)]) (l := []) z4_ z6_ mix (List.forall_mem_cons.2 ⟨q7t_, (List.forall_mem_cons.2 ⟨q7v_, (List.forall_mem_nil _)⟩)⟩) (List.forall_mem_nil _) ⟨⟨Tryz.f141, (z2_ Tryz.f141), [.tmp 2], (q7z_ k), by kernel_rfl, by kernel_rfl, by kernel_rfl, by kernel_rfl, rfl, by decide, ⟨by kernel_rfl, ?_, ?_⟩, ?_⟩⟩
  · refine zi_ (n := 1) (by kernel_rfl) fun i hi => ?_
    match i, hi with
    | 0, _ => exact ze_ (by kernel_rfl) (q81_ k)
    | n + 1, hi => omega
  · exact z5_ (by kernel_rfl)
  · rintro s0
    kernel_rfl
def z9z_ (k : Nat) : Nat → (List (List UInt8 × List (List UInt8) × Int × Int)) → (List UInt8) → Int → (Option Int) → Option Int
  | 0, _, _, _, _ => none
  | n + 1, list0, name1, i5, e_0 => (if (decide (i5 < (List.length list0 : Int))) = true then (if 0 ≤ i5 then (list0[i5.toNat]?).bind fun y_1 => (if (decide (y_1.1 = name1)) = true then some i5 else z9z_ k n list0 name1 (z0_ (i5 + 1)) e_0) else none) else e_0)
def zce_ (k : Nat) (list0 : List (List UInt8 × List (List UInt8) × Int × Int)) (name1 : List UInt8) : Option Int := z9z_ k k list0 name1 0 (some (-1))
def q83_ : Head := ⟨[(0, (.val (.sl 90 (.st (.pr .str (.pr (.sl 9 .str) (.pr (.int .i64) (.int .i64)))))))), (1, (.val .str)), (5, (.val (.int .i64)))], [], []⟩
def q84_ : Head := ⟨[], [], []⟩
def q85_ (k n : Nat) (x : q83_.T) (kx : Nat → St → Option Int) : Option Int := z9z_ k n x.1.1 x.1.2.1 x.1.2.2.1 (kx 0 (q84_.fill ((), (), ())))
def q86_ (k : Nat) : Oracles Int := ⟨fun n => bif Nat.beq n 2 then some (fun σ kx => q83_.get σ fun x => q85_ k k x kx) else none, fun _ => none⟩
def q87_ (k : Nat) : FE := ⟨(.pr (.sl 90 (.st (.pr .str (.pr (.sl 9 .str) (.pr (.int .i64) (.int .i64)))))) .str), 1, (.int .i64), fun x => zce_ k x.1 x.2⟩
theorem q88_ (k : Nat) : zd_ (z3_ ti [] (lk []) z7_ z8_) (q86_ k) (rdC (z3_ ti [] (lk []) z7_ z8_) [.tmp 4] (.int .i64)) ((zc_ (z2_ Tryz.f142)).getD 0 .skip) (fun σ kx => q83_.get σ fun x => q85_ k k x kx) := by
  refine ⟨q83_, [(0, q84_)], fun n x kx => q85_ k n x kx, k, by kernel_rfl, by kernel_rfl, fun x kx => by kernel_rfl, ?_, fun σ kx => rfl⟩
  rintro n ⟨⟨list0, name1, i5, ⟨⟩⟩, ⟨⟩, ⟨⟩⟩ kx
  kernel_rfl
theorem q89_ (k : Nat) : FnOK Tryz.prog 142 (q87_ k) := by
  refine za_ (tab := []) (l := []) z4_ z6_ mix (List.forall_mem_nil _) (List.forall_mem_nil _) ⟨⟨Tryz.f142, (z2_ Tryz.f142), [.tmp 4], (q86_ k), by kernel_rfl, by kernel_rfl, by kernel_rfl, by kernel_rfl, rfl, by decide, ⟨by kernel_rfl, ?_, ?_⟩, ?_⟩⟩
  · refine zi_ (n := 1) (by kernel_rfl) fun i hi => ?_
    match i, hi with
    | 0, _ => exact ze_ (by kernel_rfl) (q88_ k)
    | n + 1, hi => omega
  · exact z5_ (by kernel_rfl)
  · rintro ⟨list0, name1⟩
    kernel_rfl
def z5d_ (k : Nat) : Nat → (List (List UInt8 × List (List UInt8) × Int × Int)) → Int → Int → (List UInt8 × List (List UInt8) × Int × Int) → ((List (List UInt8 × List (List UInt8) × Int × Int)) → Int → Option Bool) → Option Bool
  | 0, _, _, _, _, _ => none
  | n + 1, list0, i3, k5, v_4, e_2 => (if (decide (k5 < (List.length v_4.2.1 : Int))) = true then (if 0 ≤ k5 then (v_4.2.1[k5.toNat]?).bind fun y_6 => (zce_ k list0 y_6).bind fun r_7 => (if (decide (r_7 < 0)) = true then some false else (if (decide (0 < k5)) = true then (if 0 ≤ (z0_ (k5 - 1)) then (v_4.2.1[(z0_ (k5 - 1)).toNat]?).bind fun y_8 => (if 0 ≤ k5 then (v_4.2.1[k5.toNat]?).bind fun y_9 => (if (!(Op.bytesLess y_8 y_9)) = true then some false else z5d_ k n list0 i3 (z0_ (k5 + 1)) v_4 e_2) else none) else none) else z5d_ k n list0 i3 (z0_ (k5 + 1)) v_4 e_2)) else none) else e_2 list0 i3)
def z7i_ (k : Nat) : Nat → (List (List UInt8 × List (List UInt8) × Int × Int)) → Int → ((List (List UInt8 × List (List UInt8) × Int × Int)) → Option Bool) → Option Bool
  | 0, _, _, _ => none
  | n + 1, list0, i3, e_0 => (if (decide (i3 < (List.length list0 : Int))) = true then (if 0 ≤ i3 then (list0[i3.toNat]?).bind fun y_1 => (zfy_ k y_1.1).bind fun r_2 => (if (!r_2) = true then some false else (if (decide (0 < i3)) = true then (if 0 ≤ (z0_ (i3 - 1)) then (list0[(z0_ (i3 - 1)).toNat]?).bind fun y_3 => (if (!(Op.bytesLess y_3.1 y_1.1)) = true then some false else (z21_ y_1.2.2.1 0 1000000).bind fun r_4 => (if (!r_4) = true then some false else (z21_ y_1.2.2.2 0 1000).bind fun r_5 => (if (!r_5) = true then some false else z5d_ k k list0 i3 0 y_1 (fun list_6 i_7 => z7i_ k n list_6 (z0_ (i_7 + 1)) e_0)))) else none) else (z21_ y_1.2.2.1 0 1000000).bind fun r_8 => (if (!r_8) = true then some false else (z21_ y_1.2.2.2 0 1000).bind fun r_9 => (if (!r_9) = true then some false else z5d_ k k list0 i3 0 y_1 (fun list_10 i_11 => z7i_ k n list_10 (z0_ (i_11 + 1)) e_0))))) else none) else e_0 list0)
def zfz_ (k : Nat) (list0 : List (List UInt8 × List (List UInt8) × Int × Int)) : Option Bool := z7i_ k k list0 0 (fun list_12 => some (decide ((List.length list_12 : Int) ≤ 16)))
def q8a_ : Head := ⟨[(0, (.val (.sl 90 (.st (.pr .str (.pr (.sl 9 .str) (.pr (.int .i64) (.int .i64)))))))), (3, (.val (.int .i64))), (4, (.bp 4 [] 0)), (5, (.val (.int .i64)))], [], [(4, 90, (.val (.st (.pr .str (.pr (.sl 9 .str) (.pr (.int .i64) (.int .i64)))))))]⟩
def q8b_ : Head := ⟨[(0, (.val (.sl 90 (.st (.pr .str (.pr (.sl 9 .str) (.pr (.int .i64) (.int .i64)))))))), (3, (.val (.int .i64)))], [], []⟩
def q8c_ (k n : Nat) (x : q8a_.T) (kx : Nat → St → Option Bool) : Option Bool := z5d_ k n x.1.1 x.1.2.1 x.1.2.2.2.1 x.2.2.1 (fun (list0 : List (List UInt8 × List (List UInt8) × Int × Int)) (i3 : Int) => kx 2 (q8b_.fill ((list0, i3, ()), (), ())))
def q8d_ : Head := ⟨[(0, (.val (.sl 90 (.st (.pr .str (.pr (.sl 9 .str) (.pr (.int .i64) (.int .i64)))))))), (3, (.val (.int .i64)))], [], []⟩
def q8e_ : Head := ⟨[(0, (.val (.sl 90 (.st (.pr .str (.pr (.sl 9 .str) (.pr (.int .i64) (.int .i64))))))))], [], []⟩
def q8f_ (k n : Nat) (x : q8d_.T) (kx : Nat → St → Option Bool) : Option Bool := z7i_ k n x.1.1 x.1.2.1 (fun (list0 : List (List UInt8 × List (List UInt8) × Int × Int)) => kx 0 (q8e_.fill ((list0, ()), (), ())))
def q8g_ (k : Nat) : Oracles Bool := ⟨fun n => bif Nat.beq n 8 then some (fun σ kx => q8a_.get σ fun x => q8c_ k k x kx) else bif Nat.beq n 2 then some (fun σ kx => q8d_.get σ fun x => q8f_ k k x kx) else none, fun _ => none⟩
def q8h_ (k : Nat) : FE := ⟨(.sl 90 (.st (.pr .str (.pr (.sl 9 .str) (.pr (.int .i64) (.int .i64)))))), 1, .bool, fun x => zfz_ k x⟩
theorem q8i_ (k : Nat) : zd_ (z3_ ti [(141, q80_ k), (96, q3e_), (142, q87_ k)] (lk []) z7_ z8_) (q8g_ k) (rdC (z3_ ti [(141, q80_ k), (96, q3e_), (142, q87_ k)] (lk []) z7_ z8_) [.tmp 2] .bool) ((zc_ (z2_ Tryz.f100)).getD 1 .skip) (fun σ kx => q8a_.get σ fun x => q8c_ k k x kx) := by
  refine ⟨q8a_, [(2, q8b_)], fun n x kx => q8c_ k n x kx, k, by kernel_rfl, by kernel_rfl, fun x kx => by kernel_rfl, ?_, fun σ kx => rfl⟩
  rintro n ⟨⟨list0, i3, ⟨⟩, k5, ⟨⟩⟩, ⟨⟩, ⟨v_4, ⟨⟩⟩⟩ kx
  kernel_rfl
theorem q8j_ (k : Nat) : zd_ (z3_ ti [(141, q80_ k), (96, q3e_), (142, q87_ k)] (lk []) z7_ z8_) (q8g_ k) (rdC (z3_ ti [(141, q80_ k), (96, q3e_), (142, q87_ k)] (lk []) z7_ z8_) [.tmp 2] .bool) ((zc_ (z2_ Tryz.f100)).getD 0 .skip) (fun σ kx => q8d_.get σ fun x => q8f_ k k x kx) := by
  refine ⟨q8d_, [(0, q8e_)], fun n x kx => q8f_ k n x kx, k, by kernel_rfl, by kernel_rfl, fun x kx => by kernel_rfl, ?_, fun σ kx => rfl⟩
  rintro n ⟨⟨list0, i3, ⟨⟩⟩, ⟨⟩, ⟨⟩⟩ kx
  kernel_rfl
theorem q8k_ (k : Nat) : FnOK Tryz.prog 100 (q8h_ k) := by
  refine za_ (tab := [(141, q80_ k), (96, q3e_), (142, q87_ k)]) (l := []) z4_ z6_ mix (List.forall_mem_cons.2 ⟨q82_ k, (List.forall_mem_cons.2 ⟨q3f_, (List.forall_mem_cons.2 ⟨q89_ k, (List.forall_mem_nil _)⟩)⟩)⟩) (List.forall_mem_nil _) ⟨⟨Tryz.f100, (z2_ Tryz.f100), [.tmp 2], (q8g_ k), by kernel_rfl, by kernel_rfl, by kernel_rfl, by kernel_rfl, rfl, by decide, ⟨by kernel_rfl, ?_, ?_⟩, ?_⟩⟩
  · refine zi_ (n := 2) (by kernel_rfl) fun i hi => ?_
    match i, hi with
    | 0, _ => exact ze_ (by kernel_rfl) (q8j_ k)
    | 1, _ => exact ze_ (by kernel_rfl) (q8i_ k)
    | n + 2, hi => omega
  · exact z5_ (by kernel_rfl)
  · rintro list0
    kernel_rfl
def z7j_ (k : Nat) : Nat → (List (List UInt8 × List (List UInt8) × Int × Int)) → Int → Int → Bool → Int → (List Int) → (List Bool) → ((List (List UInt8 × List (List UInt8) × Int × Int)) → Int → Int → Bool → (List Int) → (List Bool) → Option (List Int)) → Option (List Int)
  | 0, _, _, _, _, _, _, _, _ => none
  | n + 1, list0, next5, i6, ready7, k8, q_6, q_7, e_4 => (if 0 ≤ i6 then (list0[i6.toNat]?).bind fun y_8 => (if (decide (k8 < (List.length y_8.2.1 : Int))) = true then (if ready7 = true then (if 0 ≤ i6 then (list0[i6.toNat]?).bind fun y_9 => (if 0 ≤ k8 then (y_9.2.1[k8.toNat]?).bind fun y_10 => (zce_ k list0 y_10).bind fun r_11 => (if 0 ≤ r_11 ∧ r_11.toNat < List.length q_7 then (q_7[r_11.toNat]?).bind fun y_12 => z7j_ k n list0 next5 i6 y_12 (z0_ (k8 + 1)) q_6 q_7 e_4 else none) else none) else none) else e_4 list0 next5 i6 ready7 q_6 q_7) else e_4 list0 next5 i6 ready7 q_6 q_7) else none)
def z6d_ (k : Nat) : Nat → (List (List UInt8 × List (List UInt8) × Int × Int)) → Int → Int → (List Int) → (List Bool) → ((List (List UInt8 × List (List UInt8) × Int × Int)) → Int → (List Int) → (List Bool) → Option (List Int)) → Option (List Int)
  | 0, _, _, _, _, _, _ => none
  | n + 1, list0, next5, i6, q_3, q_4, e_2 => (if (decide (i6 < (List.length list0 : Int))) = true then (if (decide (next5 < 0)) = true then (if 0 ≤ i6 ∧ i6.toNat < List.length q_4 then (q_4[i6.toNat]?).bind fun y_5 => z7j_ k k list0 next5 i6 (!y_5) 0 q_3 q_4 (fun list_6 next_7 i_8 ready_9 q_10 q_11 => (if ready_9 = true then z6d_ k n list_6 i_8 (z0_ (i_8 + 1)) q_10 q_11 e_2 else z6d_ k n list_6 next_7 (z0_ (i_8 + 1)) q_10 q_11 e_2)) else none) else e_2 list0 next5 q_3 q_4) else e_2 list0 next5 q_3 q_4)
def za0_ (k : Nat) : Nat → (List (List UInt8 × List (List UInt8) × Int × Int)) → (List Int) → (List Bool) → ((List Int) → Option (List Int)) → Option (List Int)
  | 0, _, _, _, _ => none
  | n + 1, list0, q_1, q_2, e_0 => (if (decide ((List.length q_1 : Int) < (List.length list0 : Int))) = true then z6d_ k k list0 (-1) 0 q_1 q_2 (fun list_3 next_4 q_5 q_6 => (if (decide (next_4 < 0)) = true then some q_5 else (if 0 ≤ next_4 ∧ next_4.toNat < List.length q_6 then (q_6[next_4.toNat]?).bind fun y_7 => (q_6[next_4.toNat]?).bind fun y_8 => (if (q_5.length + [next_4].length) * 8 ≤ LIM then za0_ k n list_3 (q_5 ++ [next_4]) (q_6.set next_4.toNat true) e_0 else none) else none))) else e_0 q_1)
def zg0_ (k : Nat) (list0 : List (List UInt8 × List (List UInt8) × Int × Int)) : Option (List Int) := (if 0 ≤ (List.length list0 : Int) ∧ (List.length list0 : Int) ≤ (List.length list0 : Int) ∧ (List.length list0 : Int) * 1 ≤ LIM then za0_ k k list0 [] (List.replicate (List.length list0) false) (fun q_9 => some q_9) else none)
def q8l_ : Head := ⟨[(0, (.val (.sl 90 (.st (.pr .str (.pr (.sl 9 .str) (.pr (.int .i64) (.int .i64)))))))), (3, (.ref 64000000 [])), (4, (.ref 64000001 [])), (5, (.val (.int .i64))), (6, (.val (.int .i64))), (7, (.val .bool)), (8, (.val (.int .i64)))], [(64000000, 3, (.int .i64), false), (64000001, 4, .bool, false)], []⟩
def q8m_ : Head := ⟨[(0, (.val (.sl 90 (.st (.pr .str (.pr (.sl 9 .str) (.pr (.int .i64) (.int .i64)))))))), (3, (.ref 64000000 [])), (4, (.ref 64000001 [])), (5, (.val (.int .i64))), (6, (.val (.int .i64))), (7, (.val .bool))], [(64000000, 3, (.int .i64), false), (64000001, 4, .bool, false)], []⟩
def q8n_ (k n : Nat) (x : q8l_.T) (kx : Nat → St → Option (List Int)) : Option (List Int) := z7j_ k n x.1.1 x.1.2.2.2.1 x.1.2.2.2.2.1 x.1.2.2.2.2.2.1 x.1.2.2.2.2.2.2.1 x.2.1.1 x.2.1.2.1 (fun (list0 : List (List UInt8 × List (List UInt8) × Int × Int)) (next5 : Int) (i6 : Int) (ready7 : Bool) (q_13 : List Int) (q_14 : List Bool) => kx 4 (q8m_.fill ((list0, (), (), next5, i6, ready7, ()), (q_13, q_14, ()), ())))
def q8o_ : Head := ⟨[(0, (.val (.sl 90 (.st (.pr .str (.pr (.sl 9 .str) (.pr (.int .i64) (.int .i64)))))))), (3, (.ref 64000000 [])), (4, (.ref 64000001 [])), (5, (.val (.int .i64))), (6, (.val (.int .i64)))], [(64000000, 3, (.int .i64), false), (64000001, 4, .bool, false)], []⟩
def q8p_ : Head := ⟨[(0, (.val (.sl 90 (.st (.pr .str (.pr (.sl 9 .str) (.pr (.int .i64) (.int .i64)))))))), (3, (.ref 64000000 [])), (4, (.ref 64000001 [])), (5, (.val (.int .i64)))], [(64000000, 3, (.int .i64), false), (64000001, 4, .bool, false)], []⟩
def q8q_ (k n : Nat) (x : q8o_.T) (kx : Nat → St → Option (List Int)) : Option (List Int) := z6d_ k n x.1.1 x.1.2.2.2.1 x.1.2.2.2.2.1 x.2.1.1 x.2.1.2.1 (fun (list0 : List (List UInt8 × List (List UInt8) × Int × Int)) (next5 : Int) (q_19 : List Int) (q_20 : List Bool) => kx 2 (q8p_.fill ((list0, (), (), next5, ()), (q_19, q_20, ()), ())))
def q8r_ : Head := ⟨[(0, (.val (.sl 90 (.st (.pr .str (.pr (.sl 9 .str) (.pr (.int .i64) (.int .i64)))))))), (3, (.ref 64000000 [])), (4, (.ref 64000001 []))], [(64000000, 3, (.int .i64), false), (64000001, 4, .bool, false)], []⟩
def q8s_ : Head := ⟨[(3, (.ref 64000000 []))], [(64000000, 3, (.int .i64), false)], []⟩
def q8t_ (k n : Nat) (x : q8r_.T) (kx : Nat → St → Option (List Int)) : Option (List Int) := za0_ k n x.1.1 x.2.1.1 x.2.1.2.1 (fun (q_18 : List Int) => kx 0 (q8s_.fill (((), ()), (q_18, ()), ())))
def q8u_ (k : Nat) : Oracles (List Int) := ⟨fun n => bif Nat.beq n 10 then some (fun σ kx => q8l_.get σ fun x => q8n_ k k x kx) else bif Nat.beq n 6 then some (fun σ kx => q8o_.get σ fun x => q8q_ k k x kx) else bif Nat.beq n 3 then some (fun σ kx => q8r_.get σ fun x => q8t_ k k x kx) else none, fun _ => none⟩
def q8v_ (k : Nat) : FE := ⟨(.sl 90 (.st (.pr .str (.pr (.sl 9 .str) (.pr (.int .i64) (.int .i64)))))), 1, (.sl 3 (.int .i64)), fun x => zg0_ k x⟩
theorem q8w_ (k : Nat) : zd_ (z3_ ti [(142, q87_ k)] (lk []) z7_ z8_) (q8u_ k) (rdC (z3_ ti [(142, q87_ k)] (lk []) z7_ z8_) [.tmp 2] (.sl 3 (.int .i64))) ((zc_ (z2_ Tryz.f101)).getD 2 .skip) (fun σ kx => q8l_.get σ fun x => q8n_ k k x kx) := by
  refine ⟨q8l_, [(4, q8m_)], fun n x kx => q8n_ k n x kx, k, by kernel_rfl, by kernel_rfl, fun x kx => by kernel_rfl, ?_, fun σ kx => rfl⟩
  rintro n ⟨⟨list0, ⟨⟩, ⟨⟩, next5, i6, ready7, k8, ⟨⟩⟩, ⟨q_6, q_7, ⟨⟩⟩, ⟨⟩⟩ kx
  kernel_rfl
theorem q8x_ (k : Nat) : zd_ (z3_ ti [(142, q87_ k)] (lk []) z7_ z8_) (q8u_ k) (rdC (z3_ ti [(142, q87_ k)] (lk []) z7_ z8_) [.tmp 2] (.sl 3 (.int .i64))) ((zc_ (z2_ Tryz.f101)).getD 1 .skip) (fun σ kx => q8o_.get σ fun x => q8q_ k k x kx) := by
  refine ⟨q8o_, [(2, q8p_)], fun n x kx => q8q_ k n x kx, k, by kernel_rfl, by kernel_rfl, fun x kx => by kernel_rfl, ?_, fun σ kx => rfl⟩
  rintro n ⟨⟨list0, ⟨⟩, ⟨⟩, next5, i6, ⟨⟩⟩, ⟨q_3, q_4, ⟨⟩⟩, ⟨⟩⟩ kx
  kernel_rfl
theorem q8y_ (k : Nat) : zd_ (z3_ ti [(142, q87_ k)] (lk []) z7_ z8_) (q8u_ k) (rdC (z3_ ti [(142, q87_ k)] (lk []) z7_ z8_) [.tmp 2] (.sl 3 (.int .i64))) ((zc_ (z2_ Tryz.f101)).getD 0 .skip) (fun σ kx => q8r_.get σ fun x => q8t_ k k x kx) := by
  refine ⟨q8r_, [(0, q8s_)], fun n x kx => q8t_ k n x kx, k, by kernel_rfl, by kernel_rfl, fun x kx => by kernel_rfl, ?_, fun σ kx => rfl⟩
  rintro n ⟨⟨list0, ⟨⟩, ⟨⟩, ⟨⟩⟩, ⟨q_1, q_2, ⟨⟩⟩, ⟨⟩⟩ kx
  kernel_rfl
theorem q8z_ (k : Nat) : FnOK Tryz.prog 101 (q8v_ k) := by
  refine za_ (tab := [(142, q87_ k)]) (l := []) z4_ z6_ mix (List.forall_mem_cons.2 ⟨q89_ k, (List.forall_mem_nil _)⟩) (List.forall_mem_nil _) ⟨⟨Tryz.f101, (z2_ Tryz.f101), [.tmp 2], (q8u_ k), by kernel_rfl, by kernel_rfl, by kernel_rfl, by kernel_rfl, rfl, by decide, ⟨by kernel_rfl, ?_, ?_⟩, ?_⟩⟩
  · refine zi_ (n := 3) (by kernel_rfl) fun i hi => ?_
    match i, hi with
    | 0, _ => exact ze_ (by kernel_rfl) (q8y_ k)
    | 1, _ => exact ze_ (by kernel_rfl) (q8x_ k)
    | 2, _ => exact ze_ (by kernel_rfl) (q8w_ k)
    | n + 3, hi => omega
  · exact z5_ (by kernel_rfl)
  · rintro list0
    kernel_rfl
def zg1_ (k : Nat) (list0 : List (List UInt8 × List (List UInt8) × Int × Int)) : Option Bool := (zfz_ k list0).bind fun r_1 => (if r_1 = true then (zg0_ k list0).bind fun r_2 => some (decide ((List.length r_2 : Int) = (List.length list0 : Int))) else some false)
def q90_ (k : Nat) : FE := ⟨(.sl 90 (.st (.pr .str (.pr (.sl 9 .str) (.pr (.int .i64) (.int .i64)))))), 1, .bool, fun x => zg1_ k x⟩
theorem q91_ (k : Nat) : FnOK Tryz.prog 60 (q90_ k) := by
  refine za_ (tab := [(100, q8h_ k), (101, q8v_ k)]) (l := []) z4_ z6_ mix (List.forall_mem_cons.2 ⟨q8k_ k, (List.forall_mem_cons.2 ⟨q8z_ k, (List.forall_mem_nil _)⟩)⟩) (List.forall_mem_nil _) ⟨⟨Tryz.f60, (z2_ Tryz.f60), [.tmp 2], (LOn Bool), by kernel_rfl, by kernel_rfl, by kernel_rfl, by kernel_rfl, rfl, by decide, ⟨by kernel_rfl, ?_, ?_⟩, ?_⟩⟩
  · exact zf_ (by kernel_rfl)
  · exact z5_ (by kernel_rfl)
  · rintro list0
    kernel_rfl
def zja_ (k : Nat) (s0 : List (List Int) × Int × List Int × List (Int × Int × Int × List Int)) : Option Int := (zca_ k s0.1 s0.2.2.1 0).bind fun r_1 => some r_1
def q92_ (k : Nat) : FE := ⟨(.ptr (.st (.pr (.st (.sl 25 (.sl 2 (.int .i64)))) (.pr (.int .i64) (.pr (.sl 2 (.int .i64)) (.sl 51 (.st (.pr (.int .i64) (.pr (.int .i64) (.pr (.int .i64) (.sl 2 (.int .i64)))))))))))), 1, (.int .i64), fun x => zja_ k x⟩
theorem q93_ (k : Nat) : FnOK Tryz.prog 62 (q92_ k) := by
  refine za_ (tab := [(103, q5g_ k)]) (l := []) z4_ z6_ mix (List.forall_mem_cons.2 ⟨q5i_ k, (List.forall_mem_nil _)⟩) (List.forall_mem_nil _) ⟨⟨Tryz.f62, (z2_ Tryz.f62), [.tmp 2], (LOn Int), by kernel_rfl, by kernel_rfl, by kernel_rfl, by kernel_rfl, rfl, by decide, ⟨by kernel_rfl, ?_, ?_⟩, ?_⟩⟩
  · exact zf_ (by kernel_rfl)
  · exact z5_ (by kernel_rfl)
  · rintro s0
    kernel_rfl
end
end Go.Proofs.YtckbclbmkklaoaaGreatDoor.Ev
