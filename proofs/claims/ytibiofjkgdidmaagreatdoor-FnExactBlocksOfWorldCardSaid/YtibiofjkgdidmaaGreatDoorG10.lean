/- Functions of the program, as plain ones. No conditions. -/
import Derived.Test.YtibiofjkgdidmaaGreatDoorG9
import Derived.KernelRfl
set_option linter.unusedVariables false
set_option maxRecDepth 100000
namespace Go.Proofs.YtibiofjkgdidmaaGreatDoor.Ev
open Go.RowKit
noncomputable section
def zis_ (k : Nat) (v0 : Int) (x1 : List Int) : Option Bool := (ze9_ k x1 v0).bind fun r_1 => some (!r_1)
def qj3_ (k : Nat) : FE := ⟨(.pr (.int .i64) (.ptr (.sl 2 (.int .i64)))), 1, .bool, fun x => zis_ k x.1 x.2⟩
theorem qj4_ (k : Nat) : FnOK Tryz.prog 161 (qj3_ k) := by
  refine za_ (tab := [(162, qj1_ k)]) (l := []) z6_ z9_ mix (List.forall_mem_cons.2 ⟨qj2_ k, (List.forall_mem_nil _)⟩) (List.forall_mem_nil _) ⟨⟨Tryz.f161, (z2_ Tryz.f161), [.tmp 3], (LOn Bool), by kernel_rfl, by kernel_rfl, by kernel_rfl, by kernel_rfl, rfl, by decide, ⟨by kernel_rfl, ?_, ?_⟩, ?_⟩⟩
  · exact zh_ (by kernel_rfl)
  · exact z8_ (by kernel_rfl)
  · rintro ⟨v0, x1⟩
    kernel_rfl
def z8u_ (k : Nat) : Nat → (List Int) → (List Int) → Int → Int → (Option Int) → Option Int
  | 0, _, _, _, _, _ => none
  | n + 1, s0, f1, x7, x8, e_0 => (if (decide (x8 < x7)) = true then (if 0 ≤ x8 then (s0[x8.toNat]?).bind fun y_1 => (zis_ k y_1 f1).bind fun r_2 => (if r_2 = true then some x8 else z8u_ k n s0 f1 x7 (z0_ (x8 + 1)) e_0) else none) else e_0)
def zit_ (k : Nat) (s0 : List Int) (f1 : List Int) : Option Int := z8u_ k k s0 f1 (List.length s0 : Int) 0 (some (-1))
def qj5_ : Head := ⟨[(0, (.val (.sl 2 (.int .i64)))), (1, (.val (.fn 161 (.ptr (.sl 2 (.int .i64)))))), (7, (.val (.int .i64))), (8, (.val (.int .i64)))], [], []⟩
def qj6_ : Head := ⟨[], [], []⟩
def qj7_ (k n : Nat) (x : qj5_.T) (kx : Nat → St → Option Int) : Option Int := z8u_ k n x.1.1 x.1.2.1 x.1.2.2.1 x.1.2.2.2.1 (kx 0 (qj6_.fill ((), (), ())))
def qj8_ (k : Nat) : Oracles Int := ⟨fun n => bif Nat.beq n 2 then some (fun σ kx => qj5_.get σ fun x => qj7_ k k x kx) else none, fun _ => none⟩
def qj9_ (k : Nat) : FE := ⟨(.pr (.sl 2 (.int .i64)) (.fn 161 (.ptr (.sl 2 (.int .i64))))), 1, (.int .i64), fun x => zit_ k x.1 x.2⟩
theorem qja_ (k : Nat) : zc_ (z3_ ti [(161, qj3_ k)] (lk []) z4_ z5_) (qj8_ k) (rdC (z3_ ti [(161, qj3_ k)] (lk []) z4_ z5_) [.tmp 4] (.int .i64)) ((zb_ (z2_ Tryz.f130)).getD 0 .skip) (fun σ kx => qj5_.get σ fun x => qj7_ k k x kx) := by
  refine ⟨qj5_, [(0, qj6_)], fun n x kx => qj7_ k n x kx, k, by kernel_rfl, by kernel_rfl, fun x kx => by kernel_rfl, ?_, fun σ kx => rfl⟩
  rintro n ⟨⟨s0, f1, x7, x8, ⟨⟩⟩, ⟨⟩, ⟨⟩⟩ kx
  kernel_rfl
theorem qjb_ (k : Nat) : FnOK Tryz.prog 130 (qj9_ k) := by
  refine za_ (tab := [(161, qj3_ k)]) (l := []) z6_ z9_ mix (List.forall_mem_cons.2 ⟨qj4_ k, (List.forall_mem_nil _)⟩) (List.forall_mem_nil _) ⟨⟨Tryz.f130, (z2_ Tryz.f130), [.tmp 4], (qj8_ k), by kernel_rfl, by kernel_rfl, by kernel_rfl, by kernel_rfl, rfl, by decide, ⟨by kernel_rfl, ?_, ?_⟩, ?_⟩⟩
  · refine zf_ (n := 1) (by kernel_rfl) fun i hi => ?_
    match i, hi with
    | 0, _ => exact zd_ (by kernel_rfl) (qja_ k)
    | n + 1, hi => omega
  · exact z8_ (by kernel_rfl)
  · rintro ⟨s0, f1⟩
    kernel_rfl
def ziu_ (k : Nat) (s0 : List Int) (f1 : List Int) : Option Bool := (zit_ k s0 f1).bind fun r_1 => some (decide (0 ≤ r_1))
def qjc_ (k : Nat) : FE := ⟨(.pr (.sl 2 (.int .i64)) (.fn 161 (.ptr (.sl 2 (.int .i64))))), 1, .bool, fun x => ziu_ k x.1 x.2⟩
theorem qjd_ (k : Nat) : FnOK Tryz.prog 85 (qjc_ k) := by
  refine za_ (tab := [(130, qj9_ k)]) (l := []) z6_ z9_ mix (List.forall_mem_cons.2 ⟨qjb_ k, (List.forall_mem_nil _)⟩) (List.forall_mem_nil _) ⟨⟨Tryz.f85, (z2_ Tryz.f85), [.tmp 4], (LOn Bool), by kernel_rfl, by kernel_rfl, by kernel_rfl, by kernel_rfl, rfl, by decide, ⟨by kernel_rfl, ?_, ?_⟩, ?_⟩⟩
  · exact zh_ (by kernel_rfl)
  · exact z8_ (by kernel_rfl)
  · rintro ⟨s0, f1⟩
    kernel_rfl
def zea_ (k : Nat) (face0 : List Int) (s1 : List Int) : Option Bool := (ziu_ k face0 s1).bind fun r_1 => some (!r_1)
def qje_ (k : Nat) : FE := ⟨(.pr (.sl 2 (.int .i64)) (.sl 2 (.int .i64))), 1, .bool, fun x => zea_ k x.1 x.2⟩
theorem qjf_ (k : Nat) : FnOK Tryz.prog 129 (qje_ k) := by
  refine za_ (tab := [(85, qjc_ k)]) (l := []) z6_ z9_ mix (List.forall_mem_cons.2 ⟨qjd_ k, (List.forall_mem_nil _)⟩) (List.forall_mem_nil _) ⟨⟨Tryz.f129, (z2_ Tryz.f129), [.tmp 4], (LOn Bool), by kernel_rfl, by kernel_rfl, by kernel_rfl, by kernel_rfl, rfl, by decide, ⟨by kernel_rfl, ?_, ?_⟩, ?_⟩⟩
  · exact zh_ (by kernel_rfl)
  · exact z8_ (by kernel_rfl)
  · rintro ⟨face0, s1⟩
    kernel_rfl
def z6w_ (k : Nat) : Nat → Int → zT4 → Int → Int → (List Int) → zT4 → ((List Int) → Option (List Int)) → Option (List Int)
  | 0, _, _, _, _, _, _, _ => none
  | n + 1, k1, x9, x10, x11, q_1, v_2, e_0 => (if (decide (x11 < x10)) = true then (if 0 ≤ x11 then (x9[x11.toNat]?).bind fun y_2 => (if 0 ≤ k1 then (v_2[k1.toNat]?).bind fun y_3 => (zea_ k y_3 y_2).bind fun r_4 => (if r_4 = true then (if (q_1.length + [x11].length) * 8 ≤ LIM then z6w_ k n k1 x9 x10 (z0_ (x11 + 1)) (q_1 ++ [x11]) v_2 e_0 else none) else z6w_ k n k1 x9 x10 (z0_ (x11 + 1)) q_1 v_2 e_0) else none) else none) else e_0 q_1)
def zeb_ (k : Nat) (c0 : List (List Int)) (k1 : Int) : Option (List Int) := z6w_ k k k1 c0 (List.length c0 : Int) 0 [] c0 (fun q_5 => some q_5)
def qjg_ : Head := ⟨[(1, (.val (.int .i64))), (2, (.bp 2 [] 0)), (5, (.ref 64000000 [])), (9, (.val (.sl 68 (.sl 2 (.int .i64))))), (10, (.val (.int .i64))), (11, (.val (.int .i64)))], [(64000000, 2, (.int .i64), false)], [(2, 46, (.val (.st (.sl 68 (.sl 2 (.int .i64))))))]⟩
def qjh_ : Head := ⟨[(5, (.ref 64000000 []))], [(64000000, 2, (.int .i64), false)], []⟩
def qji_ (k n : Nat) (x : qjg_.T) (kx : Nat → St → Option (List Int)) : Option (List Int) := z6w_ k n x.1.1 x.1.2.2.2.1 x.1.2.2.2.2.1 x.1.2.2.2.2.2.1 x.2.1.1 x.2.2.1 (fun (q_5 : List Int) => kx 0 (qjh_.fill (((), ()), (q_5, ()), ())))
def qjj_ (k : Nat) : Oracles (List Int) := ⟨fun n => bif Nat.beq n 3 then some (fun σ kx => qjg_.get σ fun x => qji_ k k x kx) else none, fun _ => none⟩
def qjk_ (k : Nat) : FE := ⟨(.pr (.st (.sl 68 (.sl 2 (.int .i64)))) (.int .i64)), 1, (.sl 2 (.int .i64)), fun x => zeb_ k x.1 x.2⟩
theorem qjl_ (k : Nat) : zc_ (z3_ ti [(129, qje_ k)] (lk []) z4_ z5_) (qjj_ k) (rdC (z3_ ti [(129, qje_ k)] (lk []) z4_ z5_) [.tmp 4] (.sl 2 (.int .i64))) ((zb_ (z2_ Tryz.f84)).getD 0 .skip) (fun σ kx => qjg_.get σ fun x => qji_ k k x kx) := by
  refine ⟨qjg_, [(0, qjh_)], fun n x kx => qji_ k n x kx, k, by kernel_rfl, by kernel_rfl, fun x kx => by kernel_rfl, ?_, fun σ kx => rfl⟩
  rintro n ⟨⟨k1, ⟨⟩, ⟨⟩, x9, x10, x11, ⟨⟩⟩, ⟨q_1, ⟨⟩⟩, ⟨v_2, ⟨⟩⟩⟩ kx
  kernel_rfl
theorem qjm_ (k : Nat) : FnOK Tryz.prog 84 (qjk_ k) := by
  refine za_ (tab := [(129, qje_ k)]) (l := []) z6_ z9_ mix (List.forall_mem_cons.2 ⟨qjf_ k, (List.forall_mem_nil _)⟩) (List.forall_mem_nil _) ⟨⟨Tryz.f84, (z2_ Tryz.f84), [.tmp 4], (qjj_ k), by kernel_rfl, by kernel_rfl, by kernel_rfl, by kernel_rfl, rfl, by decide, ⟨by kernel_rfl, ?_, ?_⟩, ?_⟩⟩
  · refine zf_ (n := 1) (by kernel_rfl) fun i hi => ?_
    match i, hi with
    | 0, _ => exact zd_ (by kernel_rfl) (qjl_ k)
    | n + 1, hi => omega
  · exact z8_ (by kernel_rfl)
  · rintro ⟨c0, k1⟩
    kernel_rfl
def z62_ (k : Nat) : Nat → Int → Int → (List Int) → zT4 → ((List Int) → Option (List Int)) → Option (List Int)
  | 0, _, _, _, _, _ => none
  | n + 1, x7, x8, q_2, v_1, e_0 => (if (decide (x8 < x7)) = true then (zeb_ k v_1 x8).bind fun r_3 => (if (decide ((List.length r_3 : Int) = 1)) = true then (if (q_2.length + [x8].length) * 8 ≤ LIM then z62_ k n x7 (z0_ (x8 + 1)) (q_2 ++ [x8]) v_1 e_0 else none) else z62_ k n x7 (z0_ (x8 + 1)) q_2 v_1 e_0) else e_0 q_2)
def zec_ (k : Nat) (c0 : List (List Int)) : Option (List Int) := (zed_ c0).bind fun r_1 => z62_ k k r_1 0 [] c0 (fun q_4 => some q_4)
def qjn_ : Head := ⟨[(1, (.bp 1 [] 0)), (3, (.ref 64000000 [])), (7, (.val (.int .i64))), (8, (.val (.int .i64)))], [(64000000, 2, (.int .i64), false)], [(1, 46, (.val (.st (.sl 68 (.sl 2 (.int .i64))))))]⟩
def qjo_ : Head := ⟨[(3, (.ref 64000000 []))], [(64000000, 2, (.int .i64), false)], []⟩
def qjp_ (k n : Nat) (x : qjn_.T) (kx : Nat → St → Option (List Int)) : Option (List Int) := z62_ k n x.1.2.2.1 x.1.2.2.2.1 x.2.1.1 x.2.2.1 (fun (q_4 : List Int) => kx 0 (qjo_.fill (((), ()), (q_4, ()), ())))
def qjq_ (k : Nat) : Oracles (List Int) := ⟨fun n => bif Nat.beq n 3 then some (fun σ kx => qjn_.get σ fun x => qjp_ k k x kx) else none, fun _ => none⟩
def qjr_ (k : Nat) : FE := ⟨(.st (.sl 68 (.sl 2 (.int .i64)))), 1, (.sl 2 (.int .i64)), fun x => zec_ k x⟩
theorem qjs_ (k : Nat) : zc_ (z3_ ti [(83, qeq_), (84, qjk_ k)] (lk []) z4_ z5_) (qjq_ k) (rdC (z3_ ti [(83, qeq_), (84, qjk_ k)] (lk []) z4_ z5_) [.tmp 2] (.sl 2 (.int .i64))) ((zb_ (z2_ Tryz.f48)).getD 0 .skip) (fun σ kx => qjn_.get σ fun x => qjp_ k k x kx) := by
  refine ⟨qjn_, [(0, qjo_)], fun n x kx => qjp_ k n x kx, k, by kernel_rfl, by kernel_rfl, fun x kx => by kernel_rfl, ?_, fun σ kx => rfl⟩
  rintro n ⟨⟨⟨⟩, ⟨⟩, x7, x8, ⟨⟩⟩, ⟨q_2, ⟨⟩⟩, ⟨v_1, ⟨⟩⟩⟩ kx
  kernel_rfl
theorem qjt_ (k : Nat) : FnOK Tryz.prog 48 (qjr_ k) := by
  refine za_ (tab := [(83, qeq_), (84, qjk_ k)]) (l := []) z6_ z9_ mix (List.forall_mem_cons.2 ⟨qer_, (List.forall_mem_cons.2 ⟨qjm_ k, (List.forall_mem_nil _)⟩)⟩) (List.forall_mem_nil _) ⟨⟨Tryz.f48, (z2_ Tryz.f48), [.tmp 2], (qjq_ k), by kernel_rfl, by kernel_rfl, by kernel_rfl, by kernel_rfl, rfl, by decide, ⟨by kernel_rfl, ?_, ?_⟩, ?_⟩⟩
  · refine zf_ (n := 1) (by kernel_rfl) fun i hi => ?_
    match i, hi with
    | 0, _ => exact zd_ (by kernel_rfl) (qjs_ k)
    | n + 1, hi => omega
  · exact z8_ (by kernel_rfl)
  · rintro c0
    kernel_rfl
def ziv_ (n0 : Int) : Option Bool := (z52_ n0 (-1000000000000) 1000000000000).bind fun r_1 => some r_1
def qju_ : FE := ⟨(.int .i64), 1, .bool, fun x => ziv_ x⟩
theorem qjv_ : FnOK Tryz.prog 87 (qju_) := by
  refine za_ (tab := [(131, qau_)]) (l := []) z6_ z9_ mix (List.forall_mem_cons.2 ⟨qav_, (List.forall_mem_nil _)⟩) (List.forall_mem_nil _) ⟨⟨Tryz.f87, (z2_ Tryz.f87), [.tmp 2], (LOn Bool), by kernel_rfl, by kernel_rfl, by kernel_rfl, by kernel_rfl, rfl, by decide, ⟨by kernel_rfl, ?_, ?_⟩, ?_⟩⟩
  · exact zh_ (by kernel_rfl)
  · exact z8_ (by kernel_rfl)
  · rintro n0
    kernel_rfl
def ziw_ (n0 : Int) : Option Bool := (ziv_ n0).bind fun r_1 => some (!r_1)
def qjw_ : FE := ⟨(.int .i64), 1, .bool, fun x => ziw_ x⟩
theorem qjx_ : FnOK Tryz.prog 86 (qjw_) := by
  refine za_ (tab := [(87, qju_)]) (l := []) z6_ z9_ mix (List.forall_mem_cons.2 ⟨qjv_, (List.forall_mem_nil _)⟩) (List.forall_mem_nil _) ⟨⟨Tryz.f86, (z2_ Tryz.f86), [.tmp 2], (LOn Bool), by kernel_rfl, by kernel_rfl, by kernel_rfl, by kernel_rfl, rfl, by decide, ⟨by kernel_rfl, ?_, ?_⟩, ?_⟩⟩
  · exact zh_ (by kernel_rfl)
  · exact z8_ (by kernel_rfl)
  · rintro n0
    kernel_rfl
def z8v_ (k : Nat) : Nat → (List Int) → Unit → Int → Int → (Option Int) → Option Int
  | 0, _, _, _, _, _ => none
  | n + 1, s0, f1, x7, x8, e_0 => (if (decide (x8 < x7)) = true then (if 0 ≤ x8 then (s0[x8.toNat]?).bind fun y_1 => (ziw_ y_1).bind fun r_2 => (if r_2 = true then some x8 else z8v_ k n s0 f1 x7 (z0_ (x8 + 1)) e_0) else none) else e_0)
def zix_ (k : Nat) (s0 : List Int) (f1 : Unit) : Option Int := z8v_ k k s0 f1 (List.length s0 : Int) 0 (some (-1))
def qjy_ : Head := ⟨[(0, (.val (.sl 2 (.int .i64)))), (1, (.val (.fn 86 .un))), (7, (.val (.int .i64))), (8, (.val (.int .i64)))], [], []⟩
def qjz_ : Head := ⟨[], [], []⟩
def qk0_ (k n : Nat) (x : qjy_.T) (kx : Nat → St → Option Int) : Option Int := z8v_ k n x.1.1 x.1.2.1 x.1.2.2.1 x.1.2.2.2.1 (kx 0 (qjz_.fill ((), (), ())))
def qk1_ (k : Nat) : Oracles Int := ⟨fun n => bif Nat.beq n 2 then some (fun σ kx => qjy_.get σ fun x => qk0_ k k x kx) else none, fun _ => none⟩
def qk2_ (k : Nat) : FE := ⟨(.pr (.sl 2 (.int .i64)) (.fn 86 .un)), 1, (.int .i64), fun x => zix_ k x.1 x.2⟩
theorem qk3_ (k : Nat) : zc_ (z3_ ti [(86, qjw_)] (lk []) z4_ z5_) (qk1_ k) (rdC (z3_ ti [(86, qjw_)] (lk []) z4_ z5_) [.tmp 4] (.int .i64)) ((zb_ (z2_ Tryz.f130)).getD 0 .skip) (fun σ kx => qjy_.get σ fun x => qk0_ k k x kx) := by
  refine ⟨qjy_, [(0, qjz_)], fun n x kx => qk0_ k n x kx, k, by kernel_rfl, by kernel_rfl, fun x kx => by kernel_rfl, ?_, fun σ kx => rfl⟩
  rintro n ⟨⟨s0, f1, x7, x8, ⟨⟩⟩, ⟨⟩, ⟨⟩⟩ kx
  kernel_rfl
theorem qk4_ (k : Nat) : FnOK Tryz.prog 130 (qk2_ k) := by
  refine za_ (tab := [(86, qjw_)]) (l := []) z6_ z9_ mix (List.forall_mem_cons.2 ⟨qjx_, (List.forall_mem_nil _)⟩) (List.forall_mem_nil _) ⟨⟨Tryz.f130, (z2_ Tryz.f130), [.tmp 4], (qk1_ k), by kernel_rfl, by kernel_rfl, by kernel_rfl, by kernel_rfl, rfl, by decide, ⟨by kernel_rfl, ?_, ?_⟩, ?_⟩⟩
  · refine zf_ (n := 1) (by kernel_rfl) fun i hi => ?_
    match i, hi with
    | 0, _ => exact zd_ (by kernel_rfl) (qk3_ k)
    | n + 1, hi => omega
  · exact z8_ (by kernel_rfl)
  · rintro ⟨s0, f1⟩
    kernel_rfl
def zee_ (k : Nat) (s0 : List Int) (f1 : Unit) : Option Bool := (zix_ k s0 f1).bind fun r_1 => some (decide (0 ≤ r_1))
def qk5_ (k : Nat) : FE := ⟨(.pr (.sl 2 (.int .i64)) (.fn 86 .un)), 1, .bool, fun x => zee_ k x.1 x.2⟩
theorem qk6_ (k : Nat) : FnOK Tryz.prog 85 (qk5_ k) := by
  refine za_ (tab := [(130, qk2_ k)]) (l := []) z6_ z9_ mix (List.forall_mem_cons.2 ⟨qk4_ k, (List.forall_mem_nil _)⟩) (List.forall_mem_nil _) ⟨⟨Tryz.f85, (z2_ Tryz.f85), [.tmp 4], (LOn Bool), by kernel_rfl, by kernel_rfl, by kernel_rfl, by kernel_rfl, rfl, by decide, ⟨by kernel_rfl, ?_, ?_⟩, ?_⟩⟩
  · exact zh_ (by kernel_rfl)
  · exact z8_ (by kernel_rfl)
  · rintro ⟨s0, f1⟩
    kernel_rfl
def zno_ (n : Int) (b : Int) : Option (List UInt8) := if b = 10 ∧ -9223372036854775808 ≤ n ∧ n ≤ 9223372036854775807 then some (Lib.itoa n) else none
abbrev qk7_ : FE := fe_formatInt
theorem qk8_ : FnOK Tryz.prog 132 qk7_ := ztm_ (fn := Tryz.f132) (cd := z2_ Tryz.f132) (by kernel_rfl) (by kernel_rfl) (by kernel_rfl) (fun n h0 h1 w hG => Go.Proofs.Tryz.strconv_FormatInt_10 n h0 h1 w hG)
def zef_ (n0 : Int) : Option (List UInt8) := (zno_ n0 10).bind fun r_1 => some r_1
def qk9_ : FE := ⟨(.int .i64), 1, .str, fun x => zef_ x⟩
theorem qka_ : FnOK Tryz.prog 88 (qk9_) := by
  refine za_ (tab := [(132, qk7_)]) (l := []) z6_ z9_ mix (List.forall_mem_cons.2 ⟨qk8_, (List.forall_mem_nil _)⟩) (List.forall_mem_nil _) ⟨⟨Tryz.f88, (z2_ Tryz.f88), [.tmp 2], (LOn (List UInt8)), by kernel_rfl, by kernel_rfl, by kernel_rfl, by kernel_rfl, rfl, by decide, ⟨by kernel_rfl, ?_, ?_⟩, ?_⟩⟩
  · exact zh_ (by kernel_rfl)
  · exact z8_ (by kernel_rfl)
  · rintro n0
    kernel_rfl
def z8w_ (sep1 : List UInt8) (q_1 : List (List UInt8)) : Option ((List UInt8 × Unit) × (List (List UInt8) × Unit) × Unit) := if List.length q_1 ≤ LIM ∧ (Lib.join q_1 sep1).length ≤ LIM then some ((Lib.join q_1 sep1, ()), (q_1, ()), ()) else none
def qkb_ : OC := zds_ 9
theorem qkc_ : z1b_ Tryz.prog ti 50 qkb_ := ztn_ (fn := Tryz.f50) (cd := z2_ Tryz.f50) (by kernel_rfl) (by kernel_rfl) (by kernel_rfl) (fun bk o c xs sep w h1 h2 h3 h4 h5 => Go.Proofs.Tryz.strings_Join bk o c xs sep w h1 h2 h3 h4 h5) (fun a c sep w => Go.Proofs.Tryz.strings_Join_none a c sep w)
def z8x_ (k : Nat) : Nat → (List Int) → Int → Int → (List (List UInt8)) → ((List (List UInt8)) → Option (List UInt8)) → Option (List UInt8)
  | 0, _, _, _, _, _ => none
  | n + 1, x16, x17, x18, q_2, e_0 => (if (decide (x18 < x17)) = true then (if 0 ≤ x18 then (x16[x18.toNat]?).bind fun y_3 => (zef_ y_3).bind fun r_4 => (if (q_2.length + [r_4].length) * 16 ≤ LIM then z8x_ k n x16 x17 (z0_ (x18 + 1)) (q_2 ++ [r_4]) e_0 else none) else none) else e_0 q_2)
def zeg_ (k : Nat) (list0 : List Int) : Option (List UInt8) := (if (decide (64 < (List.length list0 : Int))) = true then some [] else (zee_ k list0 ()).bind fun r_1 => (if r_1 = true then some [] else (if (decide ((List.length list0 : Int) = 0)) = true then some [45] else z8x_ k k list0 (List.length list0 : Int) 0 [] (fun q_5 => (z8w_ [44] q_5).bind fun y_6 => some y_6.1.1))))
def qkd_ : Head := ⟨[(3, (.ref 64000000 [])), (16, (.val (.sl 2 (.int .i64)))), (17, (.val (.int .i64))), (18, (.val (.int .i64)))], [(64000000, 9, .str, false)], []⟩
def qke_ : Head := ⟨[(3, (.ref 64000000 []))], [(64000000, 9, .str, false)], []⟩
def qkf_ (k n : Nat) (x : qkd_.T) (kx : Nat → St → Option (List UInt8)) : Option (List UInt8) := z8x_ k n x.1.2.1 x.1.2.2.1 x.1.2.2.2.1 x.2.1.1 (fun (q_5 : List (List UInt8)) => kx 0 (qke_.fill (((), ()), (q_5, ()), ())))
def qkg_ (k : Nat) : Oracles (List UInt8) := ⟨fun n => bif Nat.beq n 7 then some (fun σ kx => qkd_.get σ fun x => qkf_ k k x kx) else none, fun _ => none⟩
def qkh_ (k : Nat) : FE := ⟨(.sl 2 (.int .i64)), 1, .str, fun x => zeg_ k x⟩
theorem qki_ (k : Nat) : zc_ (z3_ ti [(85, qk5_ k), (88, qk9_)] (lk [(29, 50, qkb_)]) z4_ z5_) (qkg_ k) (rdC (z3_ ti [(85, qk5_ k), (88, qk9_)] (lk [(29, 50, qkb_)]) z4_ z5_) [.tmp 2] .str) ((zb_ (z2_ Tryz.f49)).getD 0 .skip) (fun σ kx => qkd_.get σ fun x => qkf_ k k x kx) := by
  refine ⟨qkd_, [(0, qke_)], fun n x kx => qkf_ k n x kx, k, by kernel_rfl, by kernel_rfl, fun x kx => by kernel_rfl, ?_, fun σ kx => rfl⟩
  rintro n ⟨⟨⟨⟩, x16, x17, x18, ⟨⟩⟩, ⟨q_2, ⟨⟩⟩, ⟨⟩⟩ kx
  kernel_rfl
theorem qkj_ (k : Nat) : FnOK Tryz.prog 49 (qkh_ k) := by
  refine za_ (tab := [(85, qk5_ k), (88, qk9_)]) (l := [(29, 50, qkb_)]) z6_ z9_ mix (List.forall_mem_cons.2 ⟨qk6_ k, (List.forall_mem_cons.2 ⟨qka_, (List.forall_mem_nil _)⟩)⟩) (List.forall_mem_cons.2 ⟨qkc_, (List.forall_mem_nil _)⟩) ⟨⟨Tryz.f49, (z2_ Tryz.f49), [.tmp 2], (qkg_ k), by kernel_rfl, by kernel_rfl, by kernel_rfl, by kernel_rfl, rfl, by decide, ⟨by kernel_rfl, ?_, ?_⟩, ?_⟩⟩
  · refine zf_ (n := 1) (by kernel_rfl) fun i hi => ?_
    match i, hi with
    | 0, _ => exact zd_ (by kernel_rfl) (qki_ k)
    | n + 1, hi => omega
  · exact z8_ (by kernel_rfl)
  · rintro list0
    kernel_rfl
def z8y_ (k : Nat) : Nat → Int → Int → (List (List UInt8)) → (List Int) → zT4 → ((List (List UInt8)) → Option (List UInt8)) → Option (List UInt8)
  | 0, _, _, _, _, _, _ => none
  | n + 1, x11, x12, q_3, q_4, v_1, e_0 => (if (decide (x12 < x11)) = true then (if 0 ≤ x12 ∧ x12.toNat < List.length q_4 then (q_4[x12.toNat]?).bind fun y_5 => (if 0 ≤ y_5 then (v_1[y_5.toNat]?).bind fun y_6 => (zeg_ k y_6).bind fun r_7 => (if (q_3.length + [r_7].length) * 16 ≤ LIM then z8y_ k n x11 (z0_ (x12 + 1)) (q_3 ++ [r_7]) q_4 v_1 e_0 else none) else none) else none) else e_0 q_3)
def zeh_ (k : Nat) (c0 : List (List Int)) : Option (List UInt8) := (z8z_ k c0).bind fun r_1 => (if (!r_1) = true then some [] else (zec_ k c0).bind fun r_2 => z8y_ k k (List.length r_2 : Int) 0 [] r_2 c0 (fun q_8 => (if (decide ((List.length q_8 : Int) = 0)) = true then some [45] else (z8w_ [47] q_8).bind fun y_9 => some y_9.1.1)))
def qkk_ : Head := ⟨[(1, (.bp 1 [] 0)), (3, (.ref 64000000 [])), (10, (.ref 64000001 [])), (11, (.val (.int .i64))), (12, (.val (.int .i64)))], [(64000000, 9, .str, false), (64000001, 2, (.int .i64), false)], [(1, 46, (.val (.st (.sl 68 (.sl 2 (.int .i64))))))]⟩
def qkl_ : Head := ⟨[(3, (.ref 64000000 []))], [(64000000, 9, .str, false)], []⟩
def qkm_ (k n : Nat) (x : qkk_.T) (kx : Nat → St → Option (List UInt8)) : Option (List UInt8) := z8y_ k n x.1.2.2.2.1 x.1.2.2.2.2.1 x.2.1.1 x.2.1.2.1 x.2.2.1 (fun (q_8 : List (List UInt8)) => kx 0 (qkl_.fill (((), ()), (q_8, ()), ())))
def qkn_ (k : Nat) : Oracles (List UInt8) := ⟨fun n => bif Nat.beq n 5 then some (fun σ kx => qkk_.get σ fun x => qkm_ k k x kx) else none, fun _ => none⟩
def qko_ (k : Nat) : FE := ⟨(.st (.sl 68 (.sl 2 (.int .i64)))), 1, .str, fun x => zeh_ k x⟩
theorem qkp_ (k : Nat) : zc_ (z3_ ti [(44, qd7_ k), (48, qjr_ k), (49, qkh_ k)] (lk [(30, 50, qkb_)]) z4_ z5_) (qkn_ k) (rdC (z3_ ti [(44, qd7_ k), (48, qjr_ k), (49, qkh_ k)] (lk [(30, 50, qkb_)]) z4_ z5_) [.tmp 2] .str) ((zb_ (z2_ Tryz.f20)).getD 0 .skip) (fun σ kx => qkk_.get σ fun x => qkm_ k k x kx) := by
  refine ⟨qkk_, [(0, qkl_)], fun n x kx => qkm_ k n x kx, k, by kernel_rfl, by kernel_rfl, fun x kx => by kernel_rfl, ?_, fun σ kx => rfl⟩
  rintro n ⟨⟨⟨⟩, ⟨⟩, ⟨⟩, x11, x12, ⟨⟩⟩, ⟨q_3, q_4, ⟨⟩⟩, ⟨v_1, ⟨⟩⟩⟩ kx
  kernel_rfl
theorem qkq_ (k : Nat) : FnOK Tryz.prog 20 (qko_ k) := by
  refine za_ (tab := [(44, qd7_ k), (48, qjr_ k), (49, qkh_ k)]) (l := [(30, 50, qkb_)]) z6_ z9_ mix (List.forall_mem_cons.2 ⟨qd9_ k, (List.forall_mem_cons.2 ⟨qjt_ k, (List.forall_mem_cons.2 ⟨qkj_ k, (List.forall_mem_nil _)⟩)⟩)⟩) (List.forall_mem_cons.2 ⟨qkc_, (List.forall_mem_nil _)⟩) ⟨⟨Tryz.f20, (z2_ Tryz.f20), [.tmp 2], (qkn_ k), by kernel_rfl, by kernel_rfl, by kernel_rfl, by kernel_rfl, rfl, by decide, ⟨by kernel_rfl, ?_, ?_⟩, ?_⟩⟩
  · refine zf_ (n := 1) (by kernel_rfl) fun i hi => ?_
    match i, hi with
    | 0, _ => exact zd_ (by kernel_rfl) (qkp_ k)
    | n + 1, hi => omega
  · exact z8_ (by kernel_rfl)
  · rintro c0
    kernel_rfl
def z90_ (k : Nat) : Nat → zT1 → Int → Int → zT3 → (zT3 → Option (zT3 × Int)) → Option (zT3 × Int)
  | 0, _, _, _, _, _ => none
  | n + 1, x11, x12, x13, q_2, e_0 => (if (decide (x13 < x12)) = true then (if 0 ≤ x13 then (x11[x13.toNat]?).bind fun y_3 => (zeh_ k y_3.2).bind fun r_4 => (if (q_2.length + [([99, 111, 109, 112, 108, 101, 120], (y_3.1, r_4))].length) * 48 ≤ LIM then z90_ k n x11 x12 (z0_ (x13 + 1)) (q_2 ++ [([99, 111, 109, 112, 108, 101, 120], (y_3.1, r_4))]) e_0 else none) else none) else e_0 q_2)
def zbp_ (k : Nat) (w0 : zT1 × List (List UInt8 × List (List Int) × Int × List Int × List (Int × Int × Int × List Int))) : Option (zT3 × Int) := (zei_ k w0).bind fun r_1 => (if (!r_1) = true then some ([], 1) else z90_ k k w0.1 (List.length w0.1 : Int) 0 [] (fun q_5 => some (q_5, 0)))
def qkr_ : Head := ⟨[(4, (.ref 64000000 [])), (11, (.val (.sl 48 (.st (.pr .str (.st (.sl 68 (.sl 2 (.int .i64))))))))), (12, (.val (.int .i64))), (13, (.val (.int .i64)))], [(64000000, 52, (.st (.pr .str (.pr .str .str))), false)], []⟩
def qks_ : Head := ⟨[(4, (.ref 64000000 []))], [(64000000, 52, (.st (.pr .str (.pr .str .str))), false)], []⟩
def qkt_ (k n : Nat) (x : qkr_.T) (kx : Nat → St → Option (zT3 × Int)) : Option (zT3 × Int) := z90_ k n x.1.2.1 x.1.2.2.1 x.1.2.2.2.1 x.2.1.1 (fun (q_5 : List (List UInt8 × List UInt8 × List UInt8)) => kx 0 (qks_.fill (((), ()), (q_5, ()), ())))
def qku_ (k : Nat) : Oracles (zT3 × Int) := ⟨fun n => bif Nat.beq n 5 then some (fun σ kx => qkr_.get σ fun x => qkt_ k k x kx) else none, fun _ => none⟩
def qkv_ (k : Nat) : FE := ⟨(.st (.pr (.sl 48 (.st (.pr .str (.st (.sl 68 (.sl 2 (.int .i64))))))) (.sl 80 (.st (.pr .str (.st (.pr (.st (.sl 68 (.sl 2 (.int .i64)))) (.pr (.int .i64) (.pr (.sl 2 (.int .i64)) (.sl 147 (.st (.pr (.int .i64) (.pr (.int .i64) (.pr (.int .i64) (.sl 2 (.int .i64)))))))))))))))), 2, (.pr (.sl 52 (.st (.pr .str (.pr .str .str)))) (.int .i64)), fun x => zbp_ k x⟩
theorem qkw_ (k : Nat) : zc_ (z3_ ti [(19, qis_ k), (20, qko_ k)] (lk []) z4_ z5_) (qku_ k) (rdC (z3_ ti [(19, qis_ k), (20, qko_ k)] (lk []) z4_ z5_) [.tmp 2, .tmp 3] (.pr (.sl 52 (.st (.pr .str (.pr .str .str)))) (.int .i64))) ((zb_ (z2_ Tryz.f7)).getD 0 .skip) (fun σ kx => qkr_.get σ fun x => qkt_ k k x kx) := by
  refine ⟨qkr_, [(0, qks_)], fun n x kx => qkt_ k n x kx, k, by kernel_rfl, by kernel_rfl, fun x kx => by kernel_rfl, ?_, fun σ kx => rfl⟩
  rintro n ⟨⟨⟨⟩, x11, x12, x13, ⟨⟩⟩, ⟨q_2, ⟨⟩⟩, ⟨⟩⟩ kx
  kernel_rfl
theorem qkx_ (k : Nat) : FnOK Tryz.prog 7 (qkv_ k) := by
  refine za_ (tab := [(19, qis_ k), (20, qko_ k)]) (l := []) z6_ z9_ mix (List.forall_mem_cons.2 ⟨qit_ k, (List.forall_mem_cons.2 ⟨qkq_ k, (List.forall_mem_nil _)⟩)⟩) (List.forall_mem_nil _) ⟨⟨Tryz.f7, (z2_ Tryz.f7), [.tmp 2, .tmp 3], (qku_ k), by kernel_rfl, by kernel_rfl, by kernel_rfl, by kernel_rfl, rfl, by decide, ⟨by kernel_rfl, ?_, ?_⟩, ?_⟩⟩
  · refine zf_ (n := 1) (by kernel_rfl) fun i hi => ?_
    match i, hi with
    | 0, _ => exact zd_ (by kernel_rfl) (qkw_ k)
    | n + 1, hi => omega
  · exact z8_ (by kernel_rfl)
  · rintro w0
    kernel_rfl
def ziy_ (a0 : List UInt8 × List UInt8 × List UInt8) (b1 : List UInt8 × List UInt8 × List UInt8) : Option Bool := (if (!(decide (a0.1 = b1.1))) = true then some false else (if (!(decide (a0.2.1 = b1.2.1))) = true then some false else (if (!(decide (a0.2.2 = b1.2.2))) = true then some false else some true)))
def qky_ : FE := ⟨(.pr (.st (.pr .str (.pr .str .str))) (.st (.pr .str (.pr .str .str)))), 1, .bool, fun x => ziy_ x.1 x.2⟩
theorem qkz_ : FnOK Tryz.prog 21 (qky_) := by
  refine za_ (tab := []) (l := []) z6_ z9_ mix (List.forall_mem_nil _) (List.forall_mem_nil _) ⟨⟨Tryz.f21, (z2_ Tryz.f21), [.tmp 4], (LOn Bool), by kernel_rfl, by kernel_rfl, by kernel_rfl, by kernel_rfl, rfl, by decide, ⟨by kernel_rfl, ?_, ?_⟩, ?_⟩⟩
  · exact zh_ (by kernel_rfl)
  · exact z8_ (by kernel_rfl)
  · rintro ⟨a0, b1⟩
    kernel_rfl
def z91_ (k : Nat) : Nat → zT3 → zT3 → Int → (Option Bool) → Option Bool
  | 0, _, _, _, _ => none
  | n + 1, a0, b1, i5, e_0 => (if (decide (i5 < (List.length a0 : Int))) = true then (if 0 ≤ i5 then (a0[i5.toNat]?).bind fun y_1 => (if 0 ≤ i5 then (b1[i5.toNat]?).bind fun y_2 => (ziy_ y_1 y_2).bind fun r_3 => (if (!r_3) = true then some false else z91_ k n a0 b1 (z0_ (i5 + 1)) e_0) else none) else none) else e_0)
def z92_ (k : Nat) (a0 : List (List UInt8 × List UInt8 × List UInt8)) (b1 : List (List UInt8 × List UInt8 × List UInt8)) : Option Bool := (if (!(decide ((List.length a0 : Int) = (List.length b1 : Int)))) = true then some false else z91_ k k a0 b1 0 (some true))
def ql0_ : Head := ⟨[(0, (.val (.sl 52 (.st (.pr .str (.pr .str .str)))))), (1, (.val (.sl 52 (.st (.pr .str (.pr .str .str)))))), (5, (.val (.int .i64)))], [], []⟩
def ql1_ : Head := ⟨[], [], []⟩
def ql2_ (k n : Nat) (x : ql0_.T) (kx : Nat → St → Option Bool) : Option Bool := z91_ k n x.1.1 x.1.2.1 x.1.2.2.1 (kx 0 (ql1_.fill ((), (), ())))
def ql3_ (k : Nat) : Oracles Bool := ⟨fun n => bif Nat.beq n 4 then some (fun σ kx => ql0_.get σ fun x => ql2_ k k x kx) else none, fun _ => none⟩
def ql4_ (k : Nat) : FE := ⟨(.pr (.sl 52 (.st (.pr .str (.pr .str .str)))) (.sl 52 (.st (.pr .str (.pr .str .str))))), 1, .bool, fun x => z92_ k x.1 x.2⟩
theorem ql5_ (k : Nat) : zc_ (z3_ ti [(21, qky_)] (lk []) z4_ z5_) (ql3_ k) (rdC (z3_ ti [(21, qky_)] (lk []) z4_ z5_) [.tmp 4] .bool) ((zb_ (z2_ Tryz.f8)).getD 0 .skip) (fun σ kx => ql0_.get σ fun x => ql2_ k k x kx) := by
  refine ⟨ql0_, [(0, ql1_)], fun n x kx => ql2_ k n x kx, k, by kernel_rfl, by kernel_rfl, fun x kx => by kernel_rfl, ?_, fun σ kx => rfl⟩
  rintro n ⟨⟨a0, b1, i5, ⟨⟩⟩, ⟨⟩, ⟨⟩⟩ kx
  kernel_rfl
theorem ql6_ (k : Nat) : FnOK Tryz.prog 8 (ql4_ k) := by
  refine za_ (tab := [(21, qky_)]) (l := []) z6_ z9_ mix (List.forall_mem_cons.2 ⟨qkz_, (List.forall_mem_nil _)⟩) (List.forall_mem_nil _) ⟨⟨Tryz.f8, (z2_ Tryz.f8), [.tmp 4], (ql3_ k), by kernel_rfl, by kernel_rfl, by kernel_rfl, by kernel_rfl, rfl, by decide, ⟨by kernel_rfl, ?_, ?_⟩, ?_⟩⟩
  · refine zf_ (n := 1) (by kernel_rfl) fun i hi => ?_
    match i, hi with
    | 0, _ => exact zd_ (by kernel_rfl) (ql5_ k)
    | n + 1, hi => omega
  · exact z8_ (by kernel_rfl)
  · rintro ⟨a0, b1⟩
    kernel_rfl
def z93_ (k : Nat) : Nat → (List Int) → (List Int) → Int → (Option Bool) → Option Bool
  | 0, _, _, _, _ => none
  | n + 1, a0, b1, i5, e_0 => (if (decide (i5 < (List.length a0 : Int))) = true then (if 0 ≤ i5 then (a0[i5.toNat]?).bind fun y_1 => (if 0 ≤ i5 then (b1[i5.toNat]?).bind fun y_2 => (if (!(decide (y_1 = y_2))) = true then some false else z93_ k n a0 b1 (z0_ (i5 + 1)) e_0) else none) else none) else e_0)
def z94_ (k : Nat) (a0 : List Int) (b1 : List Int) : Option Bool := (if (!(decide ((List.length a0 : Int) = (List.length b1 : Int)))) = true then some false else z93_ k k a0 b1 0 (some true))
def ql7_ : Head := ⟨[(0, (.val (.sl 2 (.int .i64)))), (1, (.val (.sl 2 (.int .i64)))), (5, (.val (.int .i64)))], [], []⟩
def ql8_ : Head := ⟨[], [], []⟩
def ql9_ (k n : Nat) (x : ql7_.T) (kx : Nat → St → Option Bool) : Option Bool := z93_ k n x.1.1 x.1.2.1 x.1.2.2.1 (kx 0 (ql8_.fill ((), (), ())))
def qla_ (k : Nat) : Oracles Bool := ⟨fun n => bif Nat.beq n 4 then some (fun σ kx => ql7_.get σ fun x => ql9_ k k x kx) else none, fun _ => none⟩
def qlb_ (k : Nat) : FE := ⟨(.pr (.sl 2 (.int .i64)) (.sl 2 (.int .i64))), 1, .bool, fun x => z94_ k x.1 x.2⟩
theorem qlc_ (k : Nat) : zc_ (z3_ ti [] (lk []) z4_ z5_) (qla_ k) (rdC (z3_ ti [] (lk []) z4_ z5_) [.tmp 4] .bool) ((zb_ (z2_ Tryz.f136)).getD 0 .skip) (fun σ kx => ql7_.get σ fun x => ql9_ k k x kx) := by
  refine ⟨ql7_, [(0, ql8_)], fun n x kx => ql9_ k n x kx, k, by kernel_rfl, by kernel_rfl, fun x kx => by kernel_rfl, ?_, fun σ kx => rfl⟩
  rintro n ⟨⟨a0, b1, i5, ⟨⟩⟩, ⟨⟩, ⟨⟩⟩ kx
  kernel_rfl
theorem qld_ (k : Nat) : FnOK Tryz.prog 136 (qlb_ k) := by
  refine za_ (tab := []) (l := []) z6_ z9_ mix (List.forall_mem_nil _) (List.forall_mem_nil _) ⟨⟨Tryz.f136, (z2_ Tryz.f136), [.tmp 4], (qla_ k), by kernel_rfl, by kernel_rfl, by kernel_rfl, by kernel_rfl, rfl, by decide, ⟨by kernel_rfl, ?_, ?_⟩, ?_⟩⟩
  · refine zf_ (n := 1) (by kernel_rfl) fun i hi => ?_
    match i, hi with
    | 0, _ => exact zd_ (by kernel_rfl) (qlc_ k)
    | n + 1, hi => omega
  · exact z8_ (by kernel_rfl)
  · rintro ⟨a0, b1⟩
    kernel_rfl
end
end Go.Proofs.YtibiofjkgdidmaaGreatDoor.Ev
