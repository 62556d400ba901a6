/- Functions of the program, as plain ones. No conditions. -/
import Derived.Test.YtibiofjkgdidmaaGreatDoorG6
import Derived.KernelRfl
set_option linter.unusedVariables false
set_option maxRecDepth 100000
namespace Go.Proofs.YtibiofjkgdidmaaGreatDoor.Ev
open Go.RowKit
noncomputable section
def z7h_ (k : Nat) : Nat → zT4 → Int → Int → zT4 → (zT4 → Option Bool) → Option Bool
  | 0, _, _, _, _, _ => none
  | n + 1, x6, x7, x8, v_1, e_0 => (if (decide (x8 < x7)) = true then (if 0 ≤ x8 then (x6[x8.toNat]?).bind fun y_1 => (zfr_ k y_1).bind fun r_2 => (if (!r_2) = true then some false else (if (decide (0 < x8)) = true then (if 0 ≤ (z0_ (x8 - 1)) then (v_1[(z0_ (x8 - 1)).toNat]?).bind fun y_3 => (z7f_ k y_3 y_1).bind fun r_4 => (if (decide (0 ≤ r_4)) = true then some false else (za4_ k y_1).bind fun r_5 => (zc7_ k r_5 (v_1, x8)).bind fun r_6 => (if r_6 = true then some false else z7h_ k n x6 x7 (z0_ (x8 + 1)) v_1 e_0)) else none) else (za4_ k y_1).bind fun r_7 => (zc7_ k r_7 (v_1, x8)).bind fun r_8 => (if r_8 = true then some false else z7h_ k n x6 x7 (z0_ (x8 + 1)) v_1 e_0))) else none) else e_0 v_1)
def z8z_ (k : Nat) (c0 : List (List Int)) : Option Bool := z7h_ k k c0 (List.length c0 : Int) 0 c0 (fun v_9 => some (decide ((List.length v_9 : Int) ≤ 48)))
def qd3_ : Head := ⟨[(1, (.bp 1 [] 0)), (6, (.val (.sl 68 (.sl 2 (.int .i64))))), (7, (.val (.int .i64))), (8, (.val (.int .i64)))], [], [(1, 46, (.val (.st (.sl 68 (.sl 2 (.int .i64))))))]⟩
def qd4_ : Head := ⟨[(1, (.bp 1 [] 0))], [], [(1, 46, (.val (.st (.sl 68 (.sl 2 (.int .i64))))))]⟩
def qd5_ (k n : Nat) (x : qd3_.T) (kx : Nat → St → Option Bool) : Option Bool := z7h_ k n x.1.2.1 x.1.2.2.1 x.1.2.2.2.1 x.2.2.1 (fun (v_1 : List (List Int)) => kx 0 (qd4_.fill (((), ()), (), (v_1, ()))))
def qd6_ (k : Nat) : Oracles Bool := ⟨fun n => bif Nat.beq n 2 then some (fun σ kx => qd3_.get σ fun x => qd5_ k k x kx) else none, fun _ => none⟩
def qd7_ (k : Nat) : FE := ⟨(.st (.sl 68 (.sl 2 (.int .i64)))), 1, .bool, fun x => z8z_ k x⟩
theorem qd8_ (k : Nat) : zc_ (z3_ ti [(74, qb9_ k), (75, qbx_ k), (77, qcg_ k), (76, qd1_ k)] (lk []) z4_ z5_) (qd6_ k) (rdC (z3_ ti [(74, qb9_ k), (75, qbx_ k), (77, qcg_ k), (76, qd1_ k)] (lk []) z4_ z5_) [.tmp 2] .bool) ((zb_ (z2_ Tryz.f44)).getD 0 .skip) (fun σ kx => qd3_.get σ fun x => qd5_ k k x kx) := by
  refine ⟨qd3_, [(0, qd4_)], fun n x kx => qd5_ k n x kx, k, by kernel_rfl, by kernel_rfl, fun x kx => by kernel_rfl, ?_, fun σ kx => rfl⟩
  rintro n ⟨⟨⟨⟩, x6, x7, x8, ⟨⟩⟩, ⟨⟩, ⟨v_1, ⟨⟩⟩⟩ kx
  kernel_rfl
theorem qd9_ (k : Nat) : FnOK Tryz.prog 44 (qd7_ k) := by
  refine za_ (tab := [(74, qb9_ k), (75, qbx_ k), (77, qcg_ k), (76, qd1_ k)]) (l := []) z6_ z9_ mix (List.forall_mem_cons.2 ⟨qba_ k, (List.forall_mem_cons.2 ⟨qby_ k, (List.forall_mem_cons.2 ⟨qci_ k, (List.forall_mem_cons.2 ⟨qd2_ k, (List.forall_mem_nil _)⟩)⟩)⟩)⟩) (List.forall_mem_nil _) ⟨⟨Tryz.f44, (z2_ Tryz.f44), [.tmp 2], (qd6_ k), by kernel_rfl, by kernel_rfl, by kernel_rfl, by kernel_rfl, rfl, by decide, ⟨by kernel_rfl, ?_, ?_⟩, ?_⟩⟩
  · refine zf_ (n := 1) (by kernel_rfl) fun i hi => ?_
    match i, hi with
    | 0, _ => exact zd_ (by kernel_rfl) (qd8_ k)
    | n + 1, hi => omega
  · exact z8_ (by kernel_rfl)
  · rintro c0
    kernel_rfl
def zje_ (k : Nat) (c0 : List UInt8 × List (List Int)) : Option Bool := (z8z_ k c0.2).bind fun r_1 => some (!r_1)
def qda_ (k : Nat) : FE := ⟨(.st (.pr .str (.st (.sl 68 (.sl 2 (.int .i64)))))), 1, .bool, fun x => zje_ k x⟩
theorem qdb_ (k : Nat) : FnOK Tryz.prog 43 (qda_ k) := by
  refine za_ (tab := [(44, qd7_ k)]) (l := []) z6_ z9_ mix (List.forall_mem_cons.2 ⟨qd9_ k, (List.forall_mem_nil _)⟩) (List.forall_mem_nil _) ⟨⟨Tryz.f43, (z2_ Tryz.f43), [.tmp 2], (LOn Bool), by kernel_rfl, by kernel_rfl, by kernel_rfl, by kernel_rfl, rfl, by decide, ⟨by kernel_rfl, ?_, ?_⟩, ?_⟩⟩
  · exact zh_ (by kernel_rfl)
  · exact z8_ (by kernel_rfl)
  · rintro c0
    kernel_rfl
def za6_ (k : Nat) : Nat → zT1 → Unit → Int → Int → (Option Int) → Option Int
  | 0, _, _, _, _, _ => none
  | n + 1, s0, f1, x7, x8, e_0 => (if (decide (x8 < x7)) = true then (if 0 ≤ x8 then (s0[x8.toNat]?).bind fun y_1 => (zje_ k y_1).bind fun r_2 => (if r_2 = true then some x8 else za6_ k n s0 f1 x7 (z0_ (x8 + 1)) e_0) else none) else e_0)
def zjf_ (k : Nat) (s0 : List (List UInt8 × List (List Int))) (f1 : Unit) : Option Int := za6_ k k s0 f1 (List.length s0 : Int) 0 (some (-1))
def qdc_ : Head := ⟨[(0, (.val (.sl 48 (.st (.pr .str (.st (.sl 68 (.sl 2 (.int .i64))))))))), (1, (.val (.fn 43 .un))), (7, (.val (.int .i64))), (8, (.val (.int .i64)))], [], []⟩
def qdd_ : Head := ⟨[], [], []⟩
def qde_ (k n : Nat) (x : qdc_.T) (kx : Nat → St → Option Int) : Option Int := za6_ k n x.1.1 x.1.2.1 x.1.2.2.1 x.1.2.2.2.1 (kx 0 (qdd_.fill ((), (), ())))
def qdf_ (k : Nat) : Oracles Int := ⟨fun n => bif Nat.beq n 2 then some (fun σ kx => qdc_.get σ fun x => qde_ k k x kx) else none, fun _ => none⟩
def qdg_ (k : Nat) : FE := ⟨(.pr (.sl 48 (.st (.pr .str (.st (.sl 68 (.sl 2 (.int .i64))))))) (.fn 43 .un)), 1, (.int .i64), fun x => zjf_ k x.1 x.2⟩
theorem qdh_ (k : Nat) : zc_ (z3_ ti [(43, qda_ k)] (lk []) z4_ z5_) (qdf_ k) (rdC (z3_ ti [(43, qda_ k)] (lk []) z4_ z5_) [.tmp 4] (.int .i64)) ((zb_ (z2_ Tryz.f73)).getD 0 .skip) (fun σ kx => qdc_.get σ fun x => qde_ k k x kx) := by
  refine ⟨qdc_, [(0, qdd_)], fun n x kx => qde_ k n x kx, k, by kernel_rfl, by kernel_rfl, fun x kx => by kernel_rfl, ?_, fun σ kx => rfl⟩
  rintro n ⟨⟨s0, f1, x7, x8, ⟨⟩⟩, ⟨⟩, ⟨⟩⟩ kx
  kernel_rfl
theorem qdi_ (k : Nat) : FnOK Tryz.prog 73 (qdg_ k) := by
  refine za_ (tab := [(43, qda_ k)]) (l := []) z6_ z9_ mix (List.forall_mem_cons.2 ⟨qdb_ k, (List.forall_mem_nil _)⟩) (List.forall_mem_nil _) ⟨⟨Tryz.f73, (z2_ Tryz.f73), [.tmp 4], (qdf_ k), by kernel_rfl, by kernel_rfl, by kernel_rfl, by kernel_rfl, rfl, by decide, ⟨by kernel_rfl, ?_, ?_⟩, ?_⟩⟩
  · refine zf_ (n := 1) (by kernel_rfl) fun i hi => ?_
    match i, hi with
    | 0, _ => exact zd_ (by kernel_rfl) (qdh_ k)
    | n + 1, hi => omega
  · exact z8_ (by kernel_rfl)
  · rintro ⟨s0, f1⟩
    kernel_rfl
def zg0_ (k : Nat) (s0 : List (List UInt8 × List (List Int))) (f1 : Unit) : Option Bool := (zjf_ k s0 f1).bind fun r_1 => some (decide (0 ≤ r_1))
def qdj_ (k : Nat) : FE := ⟨(.pr (.sl 48 (.st (.pr .str (.st (.sl 68 (.sl 2 (.int .i64))))))) (.fn 43 .un)), 1, .bool, fun x => zg0_ k x.1 x.2⟩
theorem qdk_ (k : Nat) : FnOK Tryz.prog 42 (qdj_ k) := by
  refine za_ (tab := [(73, qdg_ k)]) (l := []) z6_ z9_ mix (List.forall_mem_cons.2 ⟨qdi_ k, (List.forall_mem_nil _)⟩) (List.forall_mem_nil _) ⟨⟨Tryz.f42, (z2_ Tryz.f42), [.tmp 4], (LOn Bool), by kernel_rfl, by kernel_rfl, by kernel_rfl, by kernel_rfl, rfl, by decide, ⟨by kernel_rfl, ?_, ?_⟩, ?_⟩⟩
  · exact zh_ (by kernel_rfl)
  · exact z8_ (by kernel_rfl)
  · rintro ⟨s0, f1⟩
    kernel_rfl
def z57_ (k : Nat) : Nat → Int → Int → (Option Bool) → Option Bool
  | 0, _, _, _ => none
  | n + 1, p0, d3, e_0 => (if (decide ((z0_ (d3 * d3)) ≤ p0)) = true then (if d3 = 0 then none else (if (decide ((Int.tmod p0 d3) = 0)) = true then some false else z57_ k n p0 (z0_ (d3 + 1)) e_0)) else e_0)
def za7_ (k : Nat) (p0 : Int) : Option Bool := (z52_ p0 2 251).bind fun r_1 => (if (!r_1) = true then some false else z57_ k k p0 2 (some true))
def qdl_ : Head := ⟨[(0, (.val (.int .i64))), (3, (.val (.int .i64)))], [], []⟩
def qdm_ : Head := ⟨[], [], []⟩
def qdn_ (k n : Nat) (x : qdl_.T) (kx : Nat → St → Option Bool) : Option Bool := z57_ k n x.1.1 x.1.2.1 (kx 0 (qdm_.fill ((), (), ())))
def qdo_ (k : Nat) : Oracles Bool := ⟨fun n => bif Nat.beq n 4 then some (fun σ kx => qdl_.get σ fun x => qdn_ k k x kx) else none, fun _ => none⟩
def qdp_ (k : Nat) : FE := ⟨(.int .i64), 1, .bool, fun x => za7_ k x⟩
theorem qdq_ (k : Nat) : zc_ (z3_ ti [(131, qau_)] (lk []) z4_ z5_) (qdo_ k) (rdC (z3_ ti [(131, qau_)] (lk []) z4_ z5_) [.tmp 2] .bool) ((zb_ (z2_ Tryz.f121)).getD 0 .skip) (fun σ kx => qdl_.get σ fun x => qdn_ k k x kx) := by
  refine ⟨qdl_, [(0, qdm_)], fun n x kx => qdn_ k n x kx, k, by kernel_rfl, by kernel_rfl, fun x kx => by kernel_rfl, ?_, fun σ kx => rfl⟩
  rintro n ⟨⟨p0, d3, ⟨⟩⟩, ⟨⟩, ⟨⟩⟩ kx
  kernel_rfl
theorem qdr_ (k : Nat) : FnOK Tryz.prog 121 (qdp_ k) := by
  refine za_ (tab := [(131, qau_)]) (l := []) z6_ z9_ mix (List.forall_mem_cons.2 ⟨qav_, (List.forall_mem_nil _)⟩) (List.forall_mem_nil _) ⟨⟨Tryz.f121, (z2_ Tryz.f121), [.tmp 2], (qdo_ k), by kernel_rfl, by kernel_rfl, by kernel_rfl, by kernel_rfl, rfl, by decide, ⟨by kernel_rfl, ?_, ?_⟩, ?_⟩⟩
  · refine zf_ (n := 1) (by kernel_rfl) fun i hi => ?_
    match i, hi with
    | 0, _ => exact zd_ (by kernel_rfl) (qdq_ k)
    | n + 1, hi => omega
  · exact z8_ (by kernel_rfl)
  · rintro p0
    kernel_rfl
def zjg_ (n0 : Int) : Option Bool := (z52_ n0 0 3).bind fun r_1 => some (!r_1)
def qds_ : FE := ⟨(.int .i64), 1, .bool, fun x => zjg_ x⟩
theorem qdt_ : FnOK Tryz.prog 151 (qds_) := by
  refine za_ (tab := [(131, qau_)]) (l := []) z6_ z9_ mix (List.forall_mem_cons.2 ⟨qav_, (List.forall_mem_nil _)⟩) (List.forall_mem_nil _) ⟨⟨Tryz.f151, (z2_ Tryz.f151), [.tmp 2], (LOn Bool), by kernel_rfl, by kernel_rfl, by kernel_rfl, by kernel_rfl, rfl, by decide, ⟨by kernel_rfl, ?_, ?_⟩, ?_⟩⟩
  · exact zh_ (by kernel_rfl)
  · exact z8_ (by kernel_rfl)
  · rintro n0
    kernel_rfl
def za8_ (k : Nat) : Nat → (List Int) → Unit → Int → Int → (Option Int) → Option Int
  | 0, _, _, _, _, _ => none
  | n + 1, s0, f1, x7, x8, e_0 => (if (decide (x8 < x7)) = true then (if 0 ≤ x8 then (s0[x8.toNat]?).bind fun y_1 => (zjg_ y_1).bind fun r_2 => (if r_2 = true then some x8 else za8_ k n s0 f1 x7 (z0_ (x8 + 1)) e_0) else none) else e_0)
def zjh_ (k : Nat) (s0 : List Int) (f1 : Unit) : Option Int := za8_ k k s0 f1 (List.length s0 : Int) 0 (some (-1))
def qdu_ : Head := ⟨[(0, (.val (.sl 2 (.int .i64)))), (1, (.val (.fn 151 .un))), (7, (.val (.int .i64))), (8, (.val (.int .i64)))], [], []⟩
def qdv_ : Head := ⟨[], [], []⟩
def qdw_ (k n : Nat) (x : qdu_.T) (kx : Nat → St → Option Int) : Option Int := za8_ k n x.1.1 x.1.2.1 x.1.2.2.1 x.1.2.2.2.1 (kx 0 (qdv_.fill ((), (), ())))
def qdx_ (k : Nat) : Oracles Int := ⟨fun n => bif Nat.beq n 2 then some (fun σ kx => qdu_.get σ fun x => qdw_ k k x kx) else none, fun _ => none⟩
def qdy_ (k : Nat) : FE := ⟨(.pr (.sl 2 (.int .i64)) (.fn 151 .un)), 1, (.int .i64), fun x => zjh_ k x.1 x.2⟩
theorem qdz_ (k : Nat) : zc_ (z3_ ti [(151, qds_)] (lk []) z4_ z5_) (qdx_ k) (rdC (z3_ ti [(151, qds_)] (lk []) z4_ z5_) [.tmp 4] (.int .i64)) ((zb_ (z2_ Tryz.f130)).getD 0 .skip) (fun σ kx => qdu_.get σ fun x => qdw_ k k x kx) := by
  refine ⟨qdu_, [(0, qdv_)], fun n x kx => qdw_ k n x kx, k, by kernel_rfl, by kernel_rfl, fun x kx => by kernel_rfl, ?_, fun σ kx => rfl⟩
  rintro n ⟨⟨s0, f1, x7, x8, ⟨⟩⟩, ⟨⟩, ⟨⟩⟩ kx
  kernel_rfl
theorem qe0_ (k : Nat) : FnOK Tryz.prog 130 (qdy_ k) := by
  refine za_ (tab := [(151, qds_)]) (l := []) z6_ z9_ mix (List.forall_mem_cons.2 ⟨qdt_, (List.forall_mem_nil _)⟩) (List.forall_mem_nil _) ⟨⟨Tryz.f130, (z2_ Tryz.f130), [.tmp 4], (qdx_ k), by kernel_rfl, by kernel_rfl, by kernel_rfl, by kernel_rfl, rfl, by decide, ⟨by kernel_rfl, ?_, ?_⟩, ?_⟩⟩
  · refine zf_ (n := 1) (by kernel_rfl) fun i hi => ?_
    match i, hi with
    | 0, _ => exact zd_ (by kernel_rfl) (qdz_ k)
    | n + 1, hi => omega
  · exact z8_ (by kernel_rfl)
  · rintro ⟨s0, f1⟩
    kernel_rfl
def zg1_ (k : Nat) (s0 : List Int) (f1 : Unit) : Option Bool := (zjh_ k s0 f1).bind fun r_1 => some (decide (0 ≤ r_1))
def qe1_ (k : Nat) : FE := ⟨(.pr (.sl 2 (.int .i64)) (.fn 151 .un)), 1, .bool, fun x => zg1_ k x.1 x.2⟩
theorem qe2_ (k : Nat) : FnOK Tryz.prog 85 (qe1_ k) := by
  refine za_ (tab := [(130, qdy_ k)]) (l := []) z6_ z9_ mix (List.forall_mem_cons.2 ⟨qe0_ k, (List.forall_mem_nil _)⟩) (List.forall_mem_nil _) ⟨⟨Tryz.f85, (z2_ Tryz.f85), [.tmp 4], (LOn Bool), by kernel_rfl, by kernel_rfl, by kernel_rfl, by kernel_rfl, rfl, by decide, ⟨by kernel_rfl, ?_, ?_⟩, ?_⟩⟩
  · exact zh_ (by kernel_rfl)
  · exact z8_ (by kernel_rfl)
  · rintro ⟨s0, f1⟩
    kernel_rfl
def za9_ (list0 : List Int) : Option Int := some (List.length list0 : Int)
def qe3_ : FE := ⟨(.sl 2 (.int .i64)), 1, (.int .i64), fun x => za9_ x⟩
theorem qe4_ : FnOK Tryz.prog 172 (qe3_) := by
  refine za_ (tab := []) (l := []) z6_ z9_ mix (List.forall_mem_nil _) (List.forall_mem_nil _) ⟨⟨Tryz.f172, (z2_ Tryz.f172), [.tmp 2], (LOn Int), by kernel_rfl, by kernel_rfl, by kernel_rfl, by kernel_rfl, rfl, by decide, ⟨by kernel_rfl, ?_, ?_⟩, ?_⟩⟩
  · exact zh_ (by kernel_rfl)
  · exact z8_ (by kernel_rfl)
  · rintro list0
    kernel_rfl
def z7i_ (k : Nat) : Nat → Int → zT4 → Int → Int → (List Int) → ((List Int) → Option (List Int)) → Option (List Int)
  | 0, _, _, _, _, _, _ => none
  | n + 1, dimension1, x9, x10, x11, q_1, e_0 => (if (decide (x11 < x10)) = true then (if 0 ≤ x11 then (x9[x11.toNat]?).bind fun y_2 => (za9_ y_2).bind fun r_3 => (if (decide (r_3 = (z0_ (dimension1 + 1)))) = true then (if (q_1.length + [x11].length) * 8 ≤ LIM then z7i_ k n dimension1 x9 x10 (z0_ (x11 + 1)) (q_1 ++ [x11]) e_0 else none) else z7i_ k n dimension1 x9 x10 (z0_ (x11 + 1)) q_1 e_0) else none) else e_0 q_1)
def zg2_ (k : Nat) (c0 : List (List Int)) (dimension1 : Int) : Option (List Int) := z7i_ k k dimension1 c0 (List.length c0 : Int) 0 [] (fun q_4 => some q_4)
def qe5_ : Head := ⟨[(1, (.val (.int .i64))), (5, (.ref 64000000 [])), (9, (.val (.sl 68 (.sl 2 (.int .i64))))), (10, (.val (.int .i64))), (11, (.val (.int .i64)))], [(64000000, 2, (.int .i64), false)], []⟩
def qe6_ : Head := ⟨[(5, (.ref 64000000 []))], [(64000000, 2, (.int .i64), false)], []⟩
def qe7_ (k n : Nat) (x : qe5_.T) (kx : Nat → St → Option (List Int)) : Option (List Int) := z7i_ k n x.1.1 x.1.2.2.1 x.1.2.2.2.1 x.1.2.2.2.2.1 x.2.1.1 (fun (q_4 : List Int) => kx 0 (qe6_.fill (((), ()), (q_4, ()), ())))
def qe8_ (k : Nat) : Oracles (List Int) := ⟨fun n => bif Nat.beq n 3 then some (fun σ kx => qe5_.get σ fun x => qe7_ k k x kx) else none, fun _ => none⟩
def qe9_ (k : Nat) : FE := ⟨(.pr (.st (.sl 68 (.sl 2 (.int .i64)))) (.int .i64)), 1, (.sl 2 (.int .i64)), fun x => zg2_ k x.1 x.2⟩
theorem qea_ (k : Nat) : zc_ (z3_ ti [(172, qe3_)] (lk []) z4_ z5_) (qe8_ k) (rdC (z3_ ti [(172, qe3_)] (lk []) z4_ z5_) [.tmp 4] (.sl 2 (.int .i64))) ((zb_ (z2_ Tryz.f170)).getD 0 .skip) (fun σ kx => qe5_.get σ fun x => qe7_ k k x kx) := by
  refine ⟨qe5_, [(0, qe6_)], fun n x kx => qe7_ k n x kx, k, by kernel_rfl, by kernel_rfl, fun x kx => by kernel_rfl, ?_, fun σ kx => rfl⟩
  rintro n ⟨⟨dimension1, ⟨⟩, x9, x10, x11, ⟨⟩⟩, ⟨q_1, ⟨⟩⟩, ⟨⟩⟩ kx
  kernel_rfl
theorem qeb_ (k : Nat) : FnOK Tryz.prog 170 (qe9_ k) := by
  refine za_ (tab := [(172, qe3_)]) (l := []) z6_ z9_ mix (List.forall_mem_cons.2 ⟨qe4_, (List.forall_mem_nil _)⟩) (List.forall_mem_nil _) ⟨⟨Tryz.f170, (z2_ Tryz.f170), [.tmp 4], (qe8_ k), by kernel_rfl, by kernel_rfl, by kernel_rfl, by kernel_rfl, rfl, by decide, ⟨by kernel_rfl, ?_, ?_⟩, ?_⟩⟩
  · refine zf_ (n := 1) (by kernel_rfl) fun i hi => ?_
    match i, hi with
    | 0, _ => exact zd_ (by kernel_rfl) (qea_ k)
    | n + 1, hi => omega
  · exact z8_ (by kernel_rfl)
  · rintro ⟨c0, dimension1⟩
    kernel_rfl
def zaa_ (k : Nat) : Nat → Int → Int → Int → (List Int) → zT2 → (Int → Option Int) → Option Int
  | 0, _, _, _, _, _, _ => none
  | n + 1, sum5, x12, x13, q_2, v_2, e_0 => (if (decide (x13 < x12)) = true then (if 0 ≤ x13 ∧ x13.toNat < List.length q_2 then (q_2[x13.toNat]?).bind fun y_3 => (if 0 ≤ y_3 then (v_2.2.2.1[y_3.toNat]?).bind fun y_4 => zaa_ k n (z0_ (sum5 + y_4)) x12 (z0_ (x13 + 1)) q_2 v_2 e_0 else none) else none) else e_0 sum5)
def zg3_ (k : Nat) (s0 : List (List Int) × Int × List Int × List (Int × Int × Int × List Int)) (k1 : Int) : Option Int := (zg2_ k s0.1 k1).bind fun r_1 => zaa_ k k 0 (List.length r_1 : Int) 0 r_1 s0 (fun sum_5 => some sum_5)
def qec_ : Head := ⟨[(2, (.bp 2 [] 0)), (5, (.val (.int .i64))), (11, (.ref 64000000 [])), (12, (.val (.int .i64))), (13, (.val (.int .i64)))], [(64000000, 2, (.int .i64), false)], [(2, 78, (.val (.st (.pr (.st (.sl 68 (.sl 2 (.int .i64)))) (.pr (.int .i64) (.pr (.sl 2 (.int .i64)) (.sl 147 (.st (.pr (.int .i64) (.pr (.int .i64) (.pr (.int .i64) (.sl 2 (.int .i64)))))))))))))]⟩
def qed_ : Head := ⟨[(5, (.val (.int .i64)))], [], []⟩
def qee_ (k n : Nat) (x : qec_.T) (kx : Nat → St → Option Int) : Option Int := zaa_ k n x.1.2.1 x.1.2.2.2.1 x.1.2.2.2.2.1 x.2.1.1 x.2.2.1 (fun (sum5 : Int) => kx 0 (qed_.fill ((sum5, ()), (), ())))
def qef_ (k : Nat) : Oracles Int := ⟨fun n => bif Nat.beq n 3 then some (fun σ kx => qec_.get σ fun x => qee_ k k x kx) else none, fun _ => none⟩
def qeg_ (k : Nat) : FE := ⟨(.pr (.st (.pr (.st (.sl 68 (.sl 2 (.int .i64)))) (.pr (.int .i64) (.pr (.sl 2 (.int .i64)) (.sl 147 (.st (.pr (.int .i64) (.pr (.int .i64) (.pr (.int .i64) (.sl 2 (.int .i64))))))))))) (.int .i64)), 1, (.int .i64), fun x => zg3_ k x.1 x.2⟩
theorem qeh_ (k : Nat) : zc_ (z3_ ti [(170, qe9_ k)] (lk []) z4_ z5_) (qef_ k) (rdC (z3_ ti [(170, qe9_ k)] (lk []) z4_ z5_) [.tmp 4] (.int .i64)) ((zb_ (z2_ Tryz.f152)).getD 0 .skip) (fun σ kx => qec_.get σ fun x => qee_ k k x kx) := by
  refine ⟨qec_, [(0, qed_)], fun n x kx => qee_ k n x kx, k, by kernel_rfl, by kernel_rfl, fun x kx => by kernel_rfl, ?_, fun σ kx => rfl⟩
  rintro n ⟨⟨⟨⟩, sum5, ⟨⟩, x12, x13, ⟨⟩⟩, ⟨q_2, ⟨⟩⟩, ⟨v_2, ⟨⟩⟩⟩ kx
  kernel_rfl
theorem qei_ (k : Nat) : FnOK Tryz.prog 152 (qeg_ k) := by
  refine za_ (tab := [(170, qe9_ k)]) (l := []) z6_ z9_ mix (List.forall_mem_cons.2 ⟨qeb_ k, (List.forall_mem_nil _)⟩) (List.forall_mem_nil _) ⟨⟨Tryz.f152, (z2_ Tryz.f152), [.tmp 4], (qef_ k), by kernel_rfl, by kernel_rfl, by kernel_rfl, by kernel_rfl, rfl, by decide, ⟨by kernel_rfl, ?_, ?_⟩, ?_⟩⟩
  · refine zf_ (n := 1) (by kernel_rfl) fun i hi => ?_
    match i, hi with
    | 0, _ => exact zd_ (by kernel_rfl) (qeh_ k)
    | n + 1, hi => omega
  · exact z8_ (by kernel_rfl)
  · rintro ⟨s0, k1⟩
    kernel_rfl
def zab_ (k : Nat) : Nat → (List Int) → Int → zT4 → (Option Bool) → Option Bool
  | 0, _, _, _, _ => none
  | n + 1, stalks1, x16, v_2, e_0 => (if (decide (x16 < 4)) = true then (zg3_ k (v_2, (0, (stalks1, []))) x16).bind fun r_2 => (if (decide (32 < r_2)) = true then some false else zab_ k n stalks1 (z0_ (x16 + 1)) v_2 e_0) else e_0)
def zg4_ (k : Nat) (c0 : List (List Int)) (stalks1 : List Int) : Option Bool := (if (!(decide ((List.length stalks1 : Int) = (List.length c0 : Int)))) = true then some false else (zg1_ k stalks1 ()).bind fun r_1 => (if r_1 = true then some false else zab_ k k stalks1 0 c0 (some true)))
def qej_ : Head := ⟨[(1, (.val (.sl 2 (.int .i64)))), (2, (.bp 2 [] 0)), (16, (.val (.int .i64)))], [], [(2, 46, (.val (.st (.sl 68 (.sl 2 (.int .i64))))))]⟩
def qek_ : Head := ⟨[], [], []⟩
def qel_ (k n : Nat) (x : qej_.T) (kx : Nat → St → Option Bool) : Option Bool := zab_ k n x.1.1 x.1.2.2.1 x.2.2.1 (kx 0 (qek_.fill ((), (), ())))
def qem_ (k : Nat) : Oracles Bool := ⟨fun n => bif Nat.beq n 4 then some (fun σ kx => qej_.get σ fun x => qel_ k k x kx) else none, fun _ => none⟩
def qen_ (k : Nat) : FE := ⟨(.pr (.st (.sl 68 (.sl 2 (.int .i64)))) (.sl 2 (.int .i64))), 1, .bool, fun x => zg4_ k x.1 x.2⟩
theorem qeo_ (k : Nat) : zc_ (z3_ ti [(85, qe1_ k), (152, qeg_ k)] (lk []) z4_ z5_) (qem_ k) (rdC (z3_ ti [(85, qe1_ k), (152, qeg_ k)] (lk []) z4_ z5_) [.tmp 4] .bool) ((zb_ (z2_ Tryz.f122)).getD 0 .skip) (fun σ kx => qej_.get σ fun x => qel_ k k x kx) := by
  refine ⟨qej_, [(0, qek_)], fun n x kx => qel_ k n x kx, k, by kernel_rfl, by kernel_rfl, fun x kx => by kernel_rfl, ?_, fun σ kx => rfl⟩
  rintro n ⟨⟨stalks1, ⟨⟩, x16, ⟨⟩⟩, ⟨⟩, ⟨v_2, ⟨⟩⟩⟩ kx
  kernel_rfl
theorem qep_ (k : Nat) : FnOK Tryz.prog 122 (qen_ k) := by
  refine za_ (tab := [(85, qe1_ k), (152, qeg_ k)]) (l := []) z6_ z9_ mix (List.forall_mem_cons.2 ⟨qe2_ k, (List.forall_mem_cons.2 ⟨qei_ k, (List.forall_mem_nil _)⟩)⟩) (List.forall_mem_nil _) ⟨⟨Tryz.f122, (z2_ Tryz.f122), [.tmp 4], (qem_ k), by kernel_rfl, by kernel_rfl, by kernel_rfl, by kernel_rfl, rfl, by decide, ⟨by kernel_rfl, ?_, ?_⟩, ?_⟩⟩
  · refine zf_ (n := 1) (by kernel_rfl) fun i hi => ?_
    match i, hi with
    | 0, _ => exact zd_ (by kernel_rfl) (qeo_ k)
    | n + 1, hi => omega
  · exact z8_ (by kernel_rfl)
  · rintro ⟨c0, stalks1⟩
    kernel_rfl
def zed_ (list0 : List (List Int)) : Option Int := some (List.length list0 : Int)
def qeq_ : FE := ⟨(.sl 68 (.sl 2 (.int .i64))), 1, (.int .i64), fun x => zed_ x⟩
theorem qer_ : FnOK Tryz.prog 83 (qeq_) := by
  refine za_ (tab := []) (l := []) z6_ z9_ mix (List.forall_mem_nil _) (List.forall_mem_nil _) ⟨⟨Tryz.f83, (z2_ Tryz.f83), [.tmp 2], (LOn Int), by kernel_rfl, by kernel_rfl, by kernel_rfl, by kernel_rfl, rfl, by decide, ⟨by kernel_rfl, ?_, ?_⟩, ?_⟩⟩
  · exact zh_ (by kernel_rfl)
  · exact z8_ (by kernel_rfl)
  · rintro list0
    kernel_rfl
def zac_ (k : Nat) : Nat → Int → Int → (List Int) → zT4 → zT4 → ((List Int) → Option (List Int)) → Option (List Int)
  | 0, _, _, _, _, _, _ => none
  | n + 1, x14, x15, q_3, q_4, v_2, e_0 => (if (decide (x15 < x14)) = true then (if 0 ≤ x15 ∧ x15.toNat < List.length q_4 then (q_4[x15.toNat]?).bind fun y_5 => (q_4[x15.toNat]?).bind fun y_6 => (zc6_ k v_2 y_6).bind fun r_7 => (if (q_3.length + [r_7].length) * 8 ≤ LIM then zac_ k n x14 (z0_ (x15 + 1)) (q_3 ++ [r_7]) q_4 v_2 e_0 else none) else none) else e_0 q_3)
def z7j_ (k : Nat) (c0 : List (List Int)) (k1 : Int) : Option (List Int) := (if 0 ≤ k1 then (c0[k1.toNat]?).bind fun y_1 => (za4_ k y_1).bind fun r_2 => zac_ k k (List.length r_2 : Int) 0 [] r_2 c0 (fun q_8 => some q_8) else none)
def qes_ : Head := ⟨[(2, (.bp 2 [] 0)), (5, (.ref 64000000 [])), (13, (.ref 64000001 [])), (14, (.val (.int .i64))), (15, (.val (.int .i64)))], [(64000000, 2, (.int .i64), false), (64000001, 68, (.sl 2 (.int .i64)), false)], [(2, 46, (.val (.st (.sl 68 (.sl 2 (.int .i64))))))]⟩
def qet_ : Head := ⟨[(5, (.ref 64000000 []))], [(64000000, 2, (.int .i64), false)], []⟩
def qeu_ (k n : Nat) (x : qes_.T) (kx : Nat → St → Option (List Int)) : Option (List Int) := zac_ k n x.1.2.2.2.1 x.1.2.2.2.2.1 x.2.1.1 x.2.1.2.1 x.2.2.1 (fun (q_9 : List Int) => kx 0 (qet_.fill (((), ()), (q_9, ()), ())))
def qev_ (k : Nat) : Oracles (List Int) := ⟨fun n => bif Nat.beq n 3 then some (fun σ kx => qes_.get σ fun x => qeu_ k k x kx) else none, fun _ => none⟩
def qew_ (k : Nat) : FE := ⟨(.pr (.st (.sl 68 (.sl 2 (.int .i64)))) (.int .i64)), 1, (.sl 2 (.int .i64)), fun x => z7j_ k x.1 x.2⟩
theorem qex_ (k : Nat) : zc_ (z3_ ti [(77, qcg_ k), (79, qcq_ k)] (lk []) z4_ z5_) (qev_ k) (rdC (z3_ ti [(77, qcg_ k), (79, qcq_ k)] (lk []) z4_ z5_) [.tmp 4] (.sl 2 (.int .i64))) ((zb_ (z2_ Tryz.f125)).getD 0 .skip) (fun σ kx => qes_.get σ fun x => qeu_ k k x kx) := by
  refine ⟨qes_, [(0, qet_)], fun n x kx => qeu_ k n x kx, k, by kernel_rfl, by kernel_rfl, fun x kx => by kernel_rfl, ?_, fun σ kx => rfl⟩
  rintro n ⟨⟨⟨⟩, ⟨⟩, ⟨⟩, x14, x15, ⟨⟩⟩, ⟨q_3, q_4, ⟨⟩⟩, ⟨v_2, ⟨⟩⟩⟩ kx
  kernel_rfl
theorem qey_ (k : Nat) : FnOK Tryz.prog 125 (qew_ k) := by
  refine za_ (tab := [(77, qcg_ k), (79, qcq_ k)]) (l := []) z6_ z9_ mix (List.forall_mem_cons.2 ⟨qci_ k, (List.forall_mem_cons.2 ⟨qcr_ k, (List.forall_mem_nil _)⟩)⟩) (List.forall_mem_nil _) ⟨⟨Tryz.f125, (z2_ Tryz.f125), [.tmp 4], (qev_ k), by kernel_rfl, by kernel_rfl, by kernel_rfl, by kernel_rfl, rfl, by decide, ⟨by kernel_rfl, ?_, ?_⟩, ?_⟩⟩
  · refine zf_ (n := 1) (by kernel_rfl) fun i hi => ?_
    match i, hi with
    | 0, _ => exact zd_ (by kernel_rfl) (qex_ k)
    | n + 1, hi => omega
  · exact z8_ (by kernel_rfl)
  · rintro ⟨c0, k1⟩
    kernel_rfl
def z7k_ (k : Nat) : Nat → Int → Int → Int → Int → Int → (List (Int × Int × Int)) → (List Int) → zT4 → (Int → Int → (List (Int × Int × Int)) → zT4 → Option (List (Int × Int × Int))) → Option (List (Int × Int × Int))
  | 0, _, _, _, _, _, _, _, _, _ => none
  | n + 1, k4, x9, x10, x16, x17, q_4, q_5, v_1, e_2 => (if (decide (x17 < x16)) = true then (if 0 ≤ x17 ∧ x17.toNat < List.length q_5 then (q_5[x17.toNat]?).bind fun y_6 => (if (q_4.length + [(k4, (x17, y_6))].length) * 24 ≤ LIM then z7k_ k n k4 x9 x10 x16 (z0_ (x17 + 1)) (q_4 ++ [(k4, (x17, y_6))]) q_5 v_1 e_2 else none) else none) else e_2 x9 x10 q_4 v_1)
def zad_ (k : Nat) : Nat → Int → Int → (List (Int × Int × Int)) → zT4 → ((List (Int × Int × Int)) → Option (List (Int × Int × Int))) → Option (List (Int × Int × Int))
  | 0, _, _, _, _, _ => none
  | n + 1, x9, x10, q_2, v_1, e_0 => (if (decide (x10 < x9)) = true then (z7j_ k v_1 x10).bind fun r_3 => z7k_ k k x10 x9 x10 (List.length r_3 : Int) 0 q_2 r_3 v_1 (fun x_4 x_5 q_6 v_7 => zad_ k n x_4 (z0_ (x_5 + 1)) q_6 v_7 e_0) else e_0 q_2)
def zg5_ (k : Nat) (c0 : List (List Int)) : Option (List (Int × Int × Int)) := (zed_ c0).bind fun r_1 => zad_ k k r_1 0 [] c0 (fun q_8 => some q_8)
def qez_ : Head := ⟨[(1, (.bp 1 [] 0)), (3, (.ref 64000000 [])), (4, (.val (.int .i64))), (9, (.val (.int .i64))), (10, (.val (.int .i64))), (15, (.ref 64000001 [])), (16, (.val (.int .i64))), (17, (.val (.int .i64)))], [(64000000, 171, (.st (.pr (.int .i64) (.pr (.int .i64) (.int .i64)))), false), (64000001, 2, (.int .i64), false)], [(1, 46, (.val (.st (.sl 68 (.sl 2 (.int .i64))))))]⟩
def qf0_ : Head := ⟨[(1, (.bp 1 [] 0)), (3, (.ref 64000000 [])), (9, (.val (.int .i64))), (10, (.val (.int .i64)))], [(64000000, 171, (.st (.pr (.int .i64) (.pr (.int .i64) (.int .i64)))), false)], [(1, 46, (.val (.st (.sl 68 (.sl 2 (.int .i64))))))]⟩
def qf1_ (k n : Nat) (x : qez_.T) (kx : Nat → St → Option (List (Int × Int × Int))) : Option (List (Int × Int × Int)) := z7k_ k n x.1.2.2.1 x.1.2.2.2.1 x.1.2.2.2.2.1 x.1.2.2.2.2.2.2.1 x.1.2.2.2.2.2.2.2.1 x.2.1.1 x.2.1.2.1 x.2.2.1 (fun (x9 : Int) (x10 : Int) (q_7 : List (Int × Int × Int)) (v_1 : List (List Int)) => kx 2 (qf0_.fill (((), (), x9, x10, ()), (q_7, ()), (v_1, ()))))
def qf2_ : Head := ⟨[(1, (.bp 1 [] 0)), (3, (.ref 64000000 [])), (9, (.val (.int .i64))), (10, (.val (.int .i64)))], [(64000000, 171, (.st (.pr (.int .i64) (.pr (.int .i64) (.int .i64)))), false)], [(1, 46, (.val (.st (.sl 68 (.sl 2 (.int .i64))))))]⟩
def qf3_ : Head := ⟨[(3, (.ref 64000000 []))], [(64000000, 171, (.st (.pr (.int .i64) (.pr (.int .i64) (.int .i64)))), false)], []⟩
def qf4_ (k n : Nat) (x : qf2_.T) (kx : Nat → St → Option (List (Int × Int × Int))) : Option (List (Int × Int × Int)) := zad_ k n x.1.2.2.1 x.1.2.2.2.1 x.2.1.1 x.2.2.1 (fun (q_11 : List (Int × Int × Int)) => kx 0 (qf3_.fill (((), ()), (q_11, ()), ())))
def qf5_ (k : Nat) : Oracles (List (Int × Int × Int)) := ⟨fun n => bif Nat.beq n 6 then some (fun σ kx => qez_.get σ fun x => qf1_ k k x kx) else bif Nat.beq n 3 then some (fun σ kx => qf2_.get σ fun x => qf4_ k k x kx) else none, fun _ => none⟩
def qf6_ (k : Nat) : FE := ⟨(.st (.sl 68 (.sl 2 (.int .i64)))), 1, (.sl 171 (.st (.pr (.int .i64) (.pr (.int .i64) (.int .i64))))), fun x => zg5_ k x⟩
theorem qf7_ (k : Nat) : zc_ (z3_ ti [(83, qeq_), (125, qew_ k)] (lk []) z4_ z5_) (qf5_ k) (rdC (z3_ ti [(83, qeq_), (125, qew_ k)] (lk []) z4_ z5_) [.tmp 2] (.sl 171 (.st (.pr (.int .i64) (.pr (.int .i64) (.int .i64)))))) ((zb_ (z2_ Tryz.f123)).getD 1 .skip) (fun σ kx => qez_.get σ fun x => qf1_ k k x kx) := by
  refine ⟨qez_, [(2, qf0_)], fun n x kx => qf1_ k n x kx, k, by kernel_rfl, by kernel_rfl, fun x kx => by kernel_rfl, ?_, fun σ kx => rfl⟩
  rintro n ⟨⟨⟨⟩, ⟨⟩, k4, x9, x10, ⟨⟩, x16, x17, ⟨⟩⟩, ⟨q_4, q_5, ⟨⟩⟩, ⟨v_1, ⟨⟩⟩⟩ kx
  kernel_rfl
theorem qf8_ (k : Nat) : zc_ (z3_ ti [(83, qeq_), (125, qew_ k)] (lk []) z4_ z5_) (qf5_ k) (rdC (z3_ ti [(83, qeq_), (125, qew_ k)] (lk []) z4_ z5_) [.tmp 2] (.sl 171 (.st (.pr (.int .i64) (.pr (.int .i64) (.int .i64)))))) ((zb_ (z2_ Tryz.f123)).getD 0 .skip) (fun σ kx => qf2_.get σ fun x => qf4_ k k x kx) := by
  refine ⟨qf2_, [(0, qf3_)], fun n x kx => qf4_ k n x kx, k, by kernel_rfl, by kernel_rfl, fun x kx => by kernel_rfl, ?_, fun σ kx => rfl⟩
  rintro n ⟨⟨⟨⟩, ⟨⟩, x9, x10, ⟨⟩⟩, ⟨q_2, ⟨⟩⟩, ⟨v_1, ⟨⟩⟩⟩ kx
  kernel_rfl
theorem qf9_ (k : Nat) : FnOK Tryz.prog 123 (qf6_ k) := by
  refine za_ (tab := [(83, qeq_), (125, qew_ k)]) (l := []) z6_ z9_ mix (List.forall_mem_cons.2 ⟨qer_, (List.forall_mem_cons.2 ⟨qey_ k, (List.forall_mem_nil _)⟩)⟩) (List.forall_mem_nil _) ⟨⟨Tryz.f123, (z2_ Tryz.f123), [.tmp 2], (qf5_ k), by kernel_rfl, by kernel_rfl, by kernel_rfl, by kernel_rfl, rfl, by decide, ⟨by kernel_rfl, ?_, ?_⟩, ?_⟩⟩
  · refine zf_ (n := 2) (by kernel_rfl) fun i hi => ?_
    match i, hi with
    | 0, _ => exact zd_ (by kernel_rfl) (qf8_ k)
    | 1, _ => exact zd_ (by kernel_rfl) (qf7_ k)
    | n + 2, hi => omega
  · exact z8_ (by kernel_rfl)
  · rintro c0
    kernel_rfl
def zg6_ (n0 : Int) : Option Bool := (z52_ n0 0 32).bind fun r_1 => some r_1
def qfa_ : FE := ⟨(.int .i64), 1, .bool, fun x => zg6_ x⟩
theorem qfb_ : FnOK Tryz.prog 171 (qfa_) := by
  refine za_ (tab := [(131, qau_)]) (l := []) z6_ z9_ mix (List.forall_mem_cons.2 ⟨qav_, (List.forall_mem_nil _)⟩) (List.forall_mem_nil _) ⟨⟨Tryz.f171, (z2_ Tryz.f171), [.tmp 2], (LOn Bool), by kernel_rfl, by kernel_rfl, by kernel_rfl, by kernel_rfl, rfl, by decide, ⟨by kernel_rfl, ?_, ?_⟩, ?_⟩⟩
  · exact zh_ (by kernel_rfl)
  · exact z8_ (by kernel_rfl)
  · rintro n0
    kernel_rfl
def zji_ (a0 : Int) (p1 : Int) : Option Bool := (z52_ a0 0 (z0_ (p1 - 1))).bind fun r_1 => some r_1
def qfc_ : FE := ⟨(.pr (.int .i64) (.int .i64)), 1, .bool, fun x => zji_ x.1 x.2⟩
theorem qfd_ : FnOK Tryz.prog 182 (qfc_) := by
  refine za_ (tab := [(131, qau_)]) (l := []) z6_ z9_ mix (List.forall_mem_cons.2 ⟨qav_, (List.forall_mem_nil _)⟩) (List.forall_mem_nil _) ⟨⟨Tryz.f182, (z2_ Tryz.f182), [.tmp 4], (LOn Bool), by kernel_rfl, by kernel_rfl, by kernel_rfl, by kernel_rfl, rfl, by decide, ⟨by kernel_rfl, ?_, ?_⟩, ?_⟩⟩
  · exact zh_ (by kernel_rfl)
  · exact z8_ (by kernel_rfl)
  · rintro ⟨a0, p1⟩
    kernel_rfl
def zjj_ (a0 : Int) (x1 : Int) : Option Bool := (zji_ a0 x1).bind fun r_1 => some (!r_1)
def qfe_ : FE := ⟨(.pr (.int .i64) (.ptr (.int .i64))), 1, .bool, fun x => zjj_ x.1 x.2⟩
theorem qff_ : FnOK Tryz.prog 181 (qfe_) := by
  refine za_ (tab := [(182, qfc_)]) (l := []) z6_ z9_ mix (List.forall_mem_cons.2 ⟨qfd_, (List.forall_mem_nil _)⟩) (List.forall_mem_nil _) ⟨⟨Tryz.f181, (z2_ Tryz.f181), [.tmp 3], (LOn Bool), by kernel_rfl, by kernel_rfl, by kernel_rfl, by kernel_rfl, rfl, by decide, ⟨by kernel_rfl, ?_, ?_⟩, ?_⟩⟩
  · exact zh_ (by kernel_rfl)
  · exact z8_ (by kernel_rfl)
  · rintro ⟨a0, x1⟩
    kernel_rfl
end
end Go.Proofs.YtibiofjkgdidmaaGreatDoor.Ev
