/- Functions of the program, as plain ones. No conditions. -/
import Derived.Test.YtibiofjkgdidmaaGreatDoorG7
import Derived.KernelRfl
set_option linter.unusedVariables false
set_option maxRecDepth 100000
namespace Go.Proofs.YtibiofjkgdidmaaGreatDoor.Ev
open Go.RowKit
noncomputable section
def zae_ (k : Nat) : Nat → (List Int) → Int → Int → Int → (Option Int) → Option Int
  | 0, _, _, _, _, _ => none
  | n + 1, s0, f1, x7, x8, e_0 => (if (decide (x8 < x7)) = true then (if 0 ≤ x8 then (s0[x8.toNat]?).bind fun y_1 => (zjj_ y_1 f1).bind fun r_2 => (if r_2 = true then some x8 else zae_ k n s0 f1 x7 (z0_ (x8 + 1)) e_0) else none) else e_0)
def zjk_ (k : Nat) (s0 : List Int) (f1 : Int) : Option Int := zae_ k k s0 f1 (List.length s0 : Int) 0 (some (-1))
def qfg_ : Head := ⟨[(0, (.val (.sl 2 (.int .i64)))), (1, (.val (.fn 181 (.ptr (.int .i64))))), (7, (.val (.int .i64))), (8, (.val (.int .i64)))], [], []⟩
def qfh_ : Head := ⟨[], [], []⟩
def qfi_ (k n : Nat) (x : qfg_.T) (kx : Nat → St → Option Int) : Option Int := zae_ k n x.1.1 x.1.2.1 x.1.2.2.1 x.1.2.2.2.1 (kx 0 (qfh_.fill ((), (), ())))
def qfj_ (k : Nat) : Oracles Int := ⟨fun n => bif Nat.beq n 2 then some (fun σ kx => qfg_.get σ fun x => qfi_ k k x kx) else none, fun _ => none⟩
def qfk_ (k : Nat) : FE := ⟨(.pr (.sl 2 (.int .i64)) (.fn 181 (.ptr (.int .i64)))), 1, (.int .i64), fun x => zjk_ k x.1 x.2⟩
theorem qfl_ (k : Nat) : zc_ (z3_ ti [(181, qfe_)] (lk []) z4_ z5_) (qfj_ k) (rdC (z3_ ti [(181, qfe_)] (lk []) z4_ z5_) [.tmp 4] (.int .i64)) ((zb_ (z2_ Tryz.f130)).getD 0 .skip) (fun σ kx => qfg_.get σ fun x => qfi_ k k x kx) := by
  refine ⟨qfg_, [(0, qfh_)], fun n x kx => qfi_ k n x kx, k, by kernel_rfl, by kernel_rfl, fun x kx => by kernel_rfl, ?_, fun σ kx => rfl⟩
  rintro n ⟨⟨s0, f1, x7, x8, ⟨⟩⟩, ⟨⟩, ⟨⟩⟩ kx
  kernel_rfl
theorem qfm_ (k : Nat) : FnOK Tryz.prog 130 (qfk_ k) := by
  refine za_ (tab := [(181, qfe_)]) (l := []) z6_ z9_ mix (List.forall_mem_cons.2 ⟨qff_, (List.forall_mem_nil _)⟩) (List.forall_mem_nil _) ⟨⟨Tryz.f130, (z2_ Tryz.f130), [.tmp 4], (qfj_ k), by kernel_rfl, by kernel_rfl, by kernel_rfl, by kernel_rfl, rfl, by decide, ⟨by kernel_rfl, ?_, ?_⟩, ?_⟩⟩
  · refine zf_ (n := 1) (by kernel_rfl) fun i hi => ?_
    match i, hi with
    | 0, _ => exact zd_ (by kernel_rfl) (qfl_ k)
    | n + 1, hi => omega
  · exact z8_ (by kernel_rfl)
  · rintro ⟨s0, f1⟩
    kernel_rfl
def zjl_ (k : Nat) (s0 : List Int) (f1 : Int) : Option Bool := (zjk_ k s0 f1).bind fun r_1 => some (decide (0 ≤ r_1))
def qfn_ (k : Nat) : FE := ⟨(.pr (.sl 2 (.int .i64)) (.fn 181 (.ptr (.int .i64)))), 1, .bool, fun x => zjl_ k x.1 x.2⟩
theorem qfo_ (k : Nat) : FnOK Tryz.prog 85 (qfn_ k) := by
  refine za_ (tab := [(130, qfk_ k)]) (l := []) z6_ z9_ mix (List.forall_mem_cons.2 ⟨qfm_ k, (List.forall_mem_nil _)⟩) (List.forall_mem_nil _) ⟨⟨Tryz.f85, (z2_ Tryz.f85), [.tmp 4], (LOn Bool), by kernel_rfl, by kernel_rfl, by kernel_rfl, by kernel_rfl, rfl, by decide, ⟨by kernel_rfl, ?_, ?_⟩, ?_⟩⟩
  · exact zh_ (by kernel_rfl)
  · exact z8_ (by kernel_rfl)
  · rintro ⟨s0, f1⟩
    kernel_rfl
def zg7_ (k : Nat) (list0 : List Int) (p1 : Int) : Option Bool := (zjl_ k list0 p1).bind fun r_1 => some (!r_1)
def qfp_ (k : Nat) : FE := ⟨(.pr (.sl 2 (.int .i64)) (.int .i64)), 1, .bool, fun x => zg7_ k x.1 x.2⟩
theorem qfq_ (k : Nat) : FnOK Tryz.prog 173 (qfp_ k) := by
  refine za_ (tab := [(85, qfn_ k)]) (l := []) z6_ z9_ mix (List.forall_mem_cons.2 ⟨qfo_ k, (List.forall_mem_nil _)⟩) (List.forall_mem_nil _) ⟨⟨Tryz.f173, (z2_ Tryz.f173), [.tmp 4], (LOn Bool), by kernel_rfl, by kernel_rfl, by kernel_rfl, by kernel_rfl, rfl, by decide, ⟨by kernel_rfl, ?_, ?_⟩, ?_⟩⟩
  · exact zh_ (by kernel_rfl)
  · exact z8_ (by kernel_rfl)
  · rintro ⟨list0, p1⟩
    kernel_rfl
def zc8_ (k : Nat) (m0 : Int × Int × Int × List Int) : Option Bool := (za7_ k m0.1).bind fun r_1 => (if r_1 = true then (zg6_ m0.2.1).bind fun r_2 => (if r_2 = true then (zg6_ m0.2.2.1).bind fun r_3 => (if r_3 = true then (za9_ m0.2.2.2).bind fun r_4 => (if (decide (r_4 = (z0_ (m0.2.1 * m0.2.2.1)))) = true then (zg7_ k m0.2.2.2 m0.1).bind fun r_5 => some r_5 else some false) else some false) else some false) else some false)
def qfr_ (k : Nat) : FE := ⟨(.st (.pr (.int .i64) (.pr (.int .i64) (.pr (.int .i64) (.sl 2 (.int .i64)))))), 1, .bool, fun x => zc8_ k x⟩
theorem qfs_ (k : Nat) : FnOK Tryz.prog 153 (qfr_ k) := by
  refine za_ (tab := [(121, qdp_ k), (171, qfa_), (172, qe3_), (173, qfp_ k)]) (l := []) z6_ z9_ mix (List.forall_mem_cons.2 ⟨qdr_ k, (List.forall_mem_cons.2 ⟨qfb_, (List.forall_mem_cons.2 ⟨qe4_, (List.forall_mem_cons.2 ⟨qfq_ k, (List.forall_mem_nil _)⟩)⟩)⟩)⟩) (List.forall_mem_nil _) ⟨⟨Tryz.f153, (z2_ Tryz.f153), [.tmp 2], (LOn Bool), by kernel_rfl, by kernel_rfl, by kernel_rfl, by kernel_rfl, rfl, by decide, ⟨by kernel_rfl, ?_, ?_⟩, ?_⟩⟩
  · exact zh_ (by kernel_rfl)
  · exact z8_ (by kernel_rfl)
  · rintro m0
    kernel_rfl
def zjm_ (k : Nat) (m0 : Int × Int × Int × List Int) (p1 : Int) (from2 : Int) (to3 : Int) : Option Bool := (zc8_ k m0).bind fun r_1 => (if r_1 = true then (if (decide (m0.1 = p1)) = true then (if (decide (m0.2.1 = to3)) = true then some (decide (m0.2.2.1 = from2)) else some false) else some false) else some false)
def qft_ (k : Nat) : FE := ⟨(.pr (.st (.pr (.int .i64) (.pr (.int .i64) (.pr (.int .i64) (.sl 2 (.int .i64)))))) (.pr (.int .i64) (.pr (.int .i64) (.int .i64)))), 1, .bool, fun x => zjm_ k x.1 x.2.1 x.2.2.1 x.2.2.2⟩
theorem qfu_ (k : Nat) : FnOK Tryz.prog 124 (qft_ k) := by
  refine za_ (tab := [(153, qfr_ k)]) (l := []) z6_ z9_ mix (List.forall_mem_cons.2 ⟨qfs_ k, (List.forall_mem_nil _)⟩) (List.forall_mem_nil _) ⟨⟨Tryz.f124, (z2_ Tryz.f124), [.tmp 8], (LOn Bool), by kernel_rfl, by kernel_rfl, by kernel_rfl, by kernel_rfl, rfl, by decide, ⟨by kernel_rfl, ?_, ?_⟩, ?_⟩⟩
  · exact zh_ (by kernel_rfl)
  · exact z8_ (by kernel_rfl)
  · rintro ⟨m0, p1, from2, to3⟩
    kernel_rfl
def zaf_ (k : Nat) : Nat → Int → Int → (List (Int × Int × Int)) → zT2 → ((List (Int × Int × Int)) → zT2 → Option Bool) → Option Bool
  | 0, _, _, _, _, _ => none
  | n + 1, x28, x29, q_5, v_1, e_0 => (if (decide (x29 < x28)) = true then (if 0 ≤ x29 ∧ x29.toNat < List.length q_5 then (q_5[x29.toNat]?).bind fun y_6 => (if (decide ((List.length v_1.2.2.2 : Int) ≤ x29)) = true then some false else (if 0 ≤ x29 then (v_1.2.2.2[x29.toNat]?).bind fun y_7 => (if 0 ≤ y_6.2.2 then (v_1.2.2.1[y_6.2.2.toNat]?).bind fun y_8 => (if 0 ≤ y_6.1 then (v_1.2.2.1[y_6.1.toNat]?).bind fun y_9 => (zjm_ k y_7 v_1.2.1 y_8 y_9).bind fun r_10 => (if (!r_10) = true then some false else zaf_ k n x28 (z0_ (x29 + 1)) q_5 v_1 e_0) else none) else none) else none)) else none) else e_0 q_5 v_1)
def zg8_ (k : Nat) (s0 : List (List Int) × Int × List Int × List (Int × Int × Int × List Int)) : Option Bool := (z8z_ k s0.1).bind fun r_1 => (if (!r_1) = true then some false else (za7_ k s0.2.1).bind fun r_2 => (if (!r_2) = true then some false else (zg4_ k s0.1 s0.2.2.1).bind fun r_3 => (if (!r_3) = true then some false else (zg5_ k s0.1).bind fun r_4 => zaf_ k k (List.length r_4 : Int) 0 r_4 s0 (fun q_11 v_12 => some (decide ((List.length q_11 : Int) = (List.length v_12.2.2.2 : Int)))))))
def qfv_ : Head := ⟨[(1, (.bp 1 [] 0)), (3, (.ref 64000000 [])), (27, (.ref 64000000 [])), (28, (.val (.int .i64))), (29, (.val (.int .i64)))], [(64000000, 171, (.st (.pr (.int .i64) (.pr (.int .i64) (.int .i64)))), false)], [(1, 78, (.val (.st (.pr (.st (.sl 68 (.sl 2 (.int .i64)))) (.pr (.int .i64) (.pr (.sl 2 (.int .i64)) (.sl 147 (.st (.pr (.int .i64) (.pr (.int .i64) (.pr (.int .i64) (.sl 2 (.int .i64)))))))))))))]⟩
def qfw_ : Head := ⟨[(1, (.bp 1 [] 0)), (3, (.ref 64000000 []))], [(64000000, 171, (.st (.pr (.int .i64) (.pr (.int .i64) (.int .i64)))), false)], [(1, 78, (.val (.st (.pr (.st (.sl 68 (.sl 2 (.int .i64)))) (.pr (.int .i64) (.pr (.sl 2 (.int .i64)) (.sl 147 (.st (.pr (.int .i64) (.pr (.int .i64) (.pr (.int .i64) (.sl 2 (.int .i64)))))))))))))]⟩
def qfx_ (k n : Nat) (x : qfv_.T) (kx : Nat → St → Option Bool) : Option Bool := zaf_ k n x.1.2.2.2.1 x.1.2.2.2.2.1 x.2.1.1 x.2.2.1 (fun (q_11 : List (Int × Int × Int)) (v_1 : List (List Int) × Int × List Int × List (Int × Int × Int × List Int)) => kx 0 (qfw_.fill (((), (), ()), (q_11, ()), (v_1, ()))))
def qfy_ (k : Nat) : Oracles Bool := ⟨fun n => bif Nat.beq n 5 then some (fun σ kx => qfv_.get σ fun x => qfx_ k k x kx) else none, fun _ => none⟩
def qfz_ (k : Nat) : FE := ⟨(.st (.pr (.st (.sl 68 (.sl 2 (.int .i64)))) (.pr (.int .i64) (.pr (.sl 2 (.int .i64)) (.sl 147 (.st (.pr (.int .i64) (.pr (.int .i64) (.pr (.int .i64) (.sl 2 (.int .i64))))))))))), 1, .bool, fun x => zg8_ k x⟩
theorem qg0_ (k : Nat) : zc_ (z3_ ti [(44, qd7_ k), (121, qdp_ k), (122, qen_ k), (123, qf6_ k), (124, qft_ k)] (lk []) z4_ z5_) (qfy_ k) (rdC (z3_ ti [(44, qd7_ k), (121, qdp_ k), (122, qen_ k), (123, qf6_ k), (124, qft_ k)] (lk []) z4_ z5_) [.tmp 2] .bool) ((zb_ (z2_ Tryz.f81)).getD 0 .skip) (fun σ kx => qfv_.get σ fun x => qfx_ k k x kx) := by
  refine ⟨qfv_, [(0, qfw_)], fun n x kx => qfx_ k n x kx, k, by kernel_rfl, by kernel_rfl, fun x kx => by kernel_rfl, ?_, fun σ kx => rfl⟩
  rintro n ⟨⟨⟨⟩, ⟨⟩, ⟨⟩, x28, x29, ⟨⟩⟩, ⟨q_5, ⟨⟩⟩, ⟨v_1, ⟨⟩⟩⟩ kx
  kernel_rfl
theorem qg1_ (k : Nat) : FnOK Tryz.prog 81 (qfz_ k) := by
  refine za_ (tab := [(44, qd7_ k), (121, qdp_ k), (122, qen_ k), (123, qf6_ k), (124, qft_ k)]) (l := []) z6_ z9_ mix (List.forall_mem_cons.2 ⟨qd9_ k, (List.forall_mem_cons.2 ⟨qdr_ k, (List.forall_mem_cons.2 ⟨qep_ k, (List.forall_mem_cons.2 ⟨qf9_ k, (List.forall_mem_cons.2 ⟨qfu_ k, (List.forall_mem_nil _)⟩)⟩)⟩)⟩)⟩) (List.forall_mem_nil _) ⟨⟨Tryz.f81, (z2_ Tryz.f81), [.tmp 2], (qfy_ k), by kernel_rfl, by kernel_rfl, by kernel_rfl, by kernel_rfl, rfl, by decide, ⟨by kernel_rfl, ?_, ?_⟩, ?_⟩⟩
  · refine zf_ (n := 1) (by kernel_rfl) fun i hi => ?_
    match i, hi with
    | 0, _ => exact zd_ (by kernel_rfl) (qg0_ k)
    | n + 1, hi => omega
  · exact z8_ (by kernel_rfl)
  · rintro s0
    kernel_rfl
def z69_ (k : Nat) : Nat → Int → zT4 → Int → Int → (Int → Option Int) → Option Int
  | 0, _, _, _, _, _ => none
  | n + 1, n5, x12, x13, x14, e_0 => (if (decide (x14 < x13)) = true then (if 0 ≤ x14 then (x12[x14.toNat]?).bind fun y_1 => (if (decide (1 < (List.length y_1 : Int))) = true then (za9_ y_1).bind fun r_2 => z69_ k n (z0_ (n5 + r_2)) x12 x13 (z0_ (x14 + 1)) e_0 else z69_ k n n5 x12 x13 (z0_ (x14 + 1)) e_0) else none) else e_0 n5)
def zg9_ (k : Nat) (s0 : List (List Int) × Int × List Int × List (Int × Int × Int × List Int)) (simplex1 : Int) : Option Int := (if 0 ≤ (0 : Int) ∧ (0 : Int) ≤ simplex1 ∧ simplex1 ≤ s0.1.length then z69_ k k 0 (s0.1.take simplex1.toNat) (List.length (s0.1.take simplex1.toNat) : Int) 0 (fun n_3 => some n_3) else none)
def qg2_ : Head := ⟨[(5, (.val (.int .i64))), (12, (.val (.sl 68 (.sl 2 (.int .i64))))), (13, (.val (.int .i64))), (14, (.val (.int .i64)))], [], []⟩
def qg3_ : Head := ⟨[(5, (.val (.int .i64)))], [], []⟩
def qg4_ (k n : Nat) (x : qg2_.T) (kx : Nat → St → Option Int) : Option Int := z69_ k n x.1.1 x.1.2.1 x.1.2.2.1 x.1.2.2.2.1 (fun (n5 : Int) => kx 0 (qg3_.fill ((n5, ()), (), ())))
def qg5_ (k : Nat) : Oracles Int := ⟨fun n => bif Nat.beq n 3 then some (fun σ kx => qg2_.get σ fun x => qg4_ k k x kx) else none, fun _ => none⟩
def qg6_ (k : Nat) : FE := ⟨(.pr (.st (.pr (.st (.sl 68 (.sl 2 (.int .i64)))) (.pr (.int .i64) (.pr (.sl 2 (.int .i64)) (.sl 147 (.st (.pr (.int .i64) (.pr (.int .i64) (.pr (.int .i64) (.sl 2 (.int .i64))))))))))) (.int .i64)), 1, (.int .i64), fun x => zg9_ k x.1 x.2⟩
theorem qg7_ (k : Nat) : zc_ (z3_ ti [(172, qe3_)] (lk []) z4_ z5_) (qg5_ k) (rdC (z3_ ti [(172, qe3_)] (lk []) z4_ z5_) [.tmp 4] (.int .i64)) ((zb_ (z2_ Tryz.f159)).getD 0 .skip) (fun σ kx => qg2_.get σ fun x => qg4_ k k x kx) := by
  refine ⟨qg2_, [(0, qg3_)], fun n x kx => qg4_ k n x kx, k, by kernel_rfl, by kernel_rfl, fun x kx => by kernel_rfl, ?_, fun σ kx => rfl⟩
  rintro n ⟨⟨n5, x12, x13, x14, ⟨⟩⟩, ⟨⟩, ⟨⟩⟩ kx
  kernel_rfl
theorem qg8_ (k : Nat) : FnOK Tryz.prog 159 (qg6_ k) := by
  refine za_ (tab := [(172, qe3_)]) (l := []) z6_ z9_ mix (List.forall_mem_cons.2 ⟨qe4_, (List.forall_mem_nil _)⟩) (List.forall_mem_nil _) ⟨⟨Tryz.f159, (z2_ Tryz.f159), [.tmp 4], (qg5_ k), by kernel_rfl, by kernel_rfl, by kernel_rfl, by kernel_rfl, rfl, by decide, ⟨by kernel_rfl, ?_, ?_⟩, ?_⟩⟩
  · refine zf_ (n := 1) (by kernel_rfl) fun i hi => ?_
    match i, hi with
    | 0, _ => exact zd_ (by kernel_rfl) (qg7_ k)
    | n + 1, hi => omega
  · exact z8_ (by kernel_rfl)
  · rintro ⟨s0, simplex1⟩
    kernel_rfl
def z58_ (k : Nat) (s0 : List (List Int) × Int × List Int × List (Int × Int × Int × List Int)) (simplex1 : Int) (place2 : Int) : Option (Int × Int × Int × List Int) := (zg9_ k s0 simplex1).bind fun r_1 => (if 0 ≤ (z0_ (r_1 + place2)) then (s0.2.2.2[(z0_ (r_1 + place2)).toNat]?).bind fun y_2 => some y_2 else none)
def qg9_ (k : Nat) : FE := ⟨(.pr (.st (.pr (.st (.sl 68 (.sl 2 (.int .i64)))) (.pr (.int .i64) (.pr (.sl 2 (.int .i64)) (.sl 147 (.st (.pr (.int .i64) (.pr (.int .i64) (.pr (.int .i64) (.sl 2 (.int .i64))))))))))) (.pr (.int .i64) (.int .i64))), RON, (.st (.pr (.int .i64) (.pr (.int .i64) (.pr (.int .i64) (.sl 2 (.int .i64)))))), fun x => z58_ k x.1 x.2.1 x.2.2⟩
theorem qga_ (k : Nat) : FnOK Tryz.prog 127 (qg9_ k) := by
  refine ziq_ (tab := [(159, qg6_ k)]) (l := []) z6_ z9_ mix (List.forall_mem_cons.2 ⟨qg8_ k, (List.forall_mem_nil _)⟩) (List.forall_mem_nil _) ⟨⟨Tryz.f127, (z2_ Tryz.f127), [.cell 6 147], (LOn (Int × Int × Int × List Int)), by kernel_rfl, by kernel_rfl, by kernel_rfl, by kernel_rfl, by decide, ⟨by kernel_rfl, ?_, ?_⟩, ?_⟩⟩
  · exact zh_ (by kernel_rfl)
  · exact z8_ (by kernel_rfl)
  · rintro ⟨s0, simplex1, place2⟩
    kernel_rfl
def zjn_ (m0 : Int × Int × Int × List Int) (i1 : Int) (j2 : Int) : Option Int := (if 0 ≤ (z0_ ((z0_ (i1 * m0.2.2.1)) + j2)) then (m0.2.2.2[(z0_ ((z0_ (i1 * m0.2.2.1)) + j2)).toNat]?).bind fun y_1 => some y_1 else none)
def qgb_ : FE := ⟨(.pr (.st (.pr (.int .i64) (.pr (.int .i64) (.pr (.int .i64) (.sl 2 (.int .i64)))))) (.pr (.int .i64) (.int .i64))), 1, (.int .i64), fun x => zjn_ x.1 x.2.1 x.2.2⟩
theorem qgc_ : FnOK Tryz.prog 185 (qgb_) := by
  refine za_ (tab := []) (l := []) z6_ z9_ mix (List.forall_mem_nil _) (List.forall_mem_nil _) ⟨⟨Tryz.f185, (z2_ Tryz.f185), [.tmp 6], (LOn Int), by kernel_rfl, by kernel_rfl, by kernel_rfl, by kernel_rfl, rfl, by decide, ⟨by kernel_rfl, ?_, ?_⟩, ?_⟩⟩
  · exact zh_ (by kernel_rfl)
  · exact z8_ (by kernel_rfl)
  · rintro ⟨m0, i1, j2⟩
    kernel_rfl
def zjo_ (i0 : Int) (j1 : Int) (x2 : Int × Int × Int × List Int) : Option Int := (zjn_ x2 j1 i0).bind fun r_1 => some r_1
def qgd_ : FE := ⟨(.pr (.int .i64) (.pr (.int .i64) (.ptr (.st (.pr (.int .i64) (.pr (.int .i64) (.pr (.int .i64) (.sl 2 (.int .i64))))))))), 1, (.int .i64), fun x => zjo_ x.1 x.2.1 x.2.2⟩
theorem qge_ : FnOK Tryz.prog 184 (qgd_) := by
  refine za_ (tab := [(185, qgb_)]) (l := []) z6_ z9_ mix (List.forall_mem_cons.2 ⟨qgc_, (List.forall_mem_nil _)⟩) (List.forall_mem_nil _) ⟨⟨Tryz.f184, (z2_ Tryz.f184), [.tmp 5], (LOn Int), by kernel_rfl, by kernel_rfl, by kernel_rfl, by kernel_rfl, rfl, by decide, ⟨by kernel_rfl, ?_, ?_⟩, ?_⟩⟩
  · exact zh_ (by kernel_rfl)
  · exact z8_ (by kernel_rfl)
  · rintro ⟨i0, j1, x2⟩
    kernel_rfl
def z7l_ (k : Nat) : Nat → Int → (Int × Int × Int × List Int) → Int → Int → Int → Int → Int → (List Int) → (List Int) → Int → Int → Int → Int → Int → Int → (Int → (Int × Int × Int × List Int) → Int → Int → (List Int) → (List Int) → Int → Int → Int → Int → Int → Int → Option (Int × Int × Int × List Int)) → Option (Int × Int × Int × List Int)
  | 0, _, _, _, _, _, _, _, _, _, _, _, _, _, _, _, _ => none
  | n + 1, columns2, cell3, i10, x16, x17, x20, x21, q_3, q_4, v_8a, v_8ba, v_8bba, v_9a, v_9ba, v_9bba, e_2 => (if (decide (x21 < x20)) = true then (zjo_ i10 x21 cell3).bind fun r_5 => (if (q_4.length + [r_5].length) * 8 ≤ LIM then z7l_ k n columns2 cell3 i10 x16 x17 x20 (z0_ (x21 + 1)) q_3 (q_4 ++ [r_5]) v_8a v_8ba v_8bba v_9a v_9ba v_9bba e_2 else none) else e_2 columns2 cell3 x16 x17 q_3 q_4 v_8a v_8ba v_8bba v_9a v_9ba v_9bba)
def z7m_ (k : Nat) : Nat → Int → (Int × Int × Int × List Int) → Int → Int → (List Int) → (List Int) → Int → Int → Int → Int → Int → Int → ((List Int) → (List Int) → Int → Int → Int → Int → Int → Int → Option (Int × Int × Int × List Int)) → Option (Int × Int × Int × List Int)
  | 0, _, _, _, _, _, _, _, _, _, _, _, _, _ => none
  | n + 1, columns2, cell3, x16, x17, q_1, q_2, v_8a, v_8ba, v_8bba, v_9a, v_9ba, v_9bba, e_0 => (if (decide (x17 < x16)) = true then z7l_ k k columns2 cell3 x17 x16 x17 columns2 0 q_1 q_2 v_8a v_8ba v_8bba v_9a v_9ba v_9bba (fun columns_3 cell_4 x_5 x_6 q_7 q_8 v_8a_9 v_8ba_10 v_8bba_11 v_9a_12 v_9ba_13 v_9bba_14 => z7m_ k n columns_3 cell_4 x_5 (z0_ (x_6 + 1)) q_7 q_8 v_8a_9 v_8ba_10 v_8bba_11 v_9a_12 v_9ba_13 v_9bba_14 e_0) else e_0 q_1 q_2 v_8a v_8ba v_8bba v_9a v_9ba v_9bba)
def zjp_ (k : Nat) (p0 : Int) (rows1 : Int) (columns2 : Int) (cell3 : Int × Int × Int × List Int) : Option (Int × Int × Int × List Int) := z7m_ k k columns2 cell3 rows1 0 [] [] 0 0 0 p0 rows1 columns2 (fun q_15 q_16 v_8a_17 v_8ba_18 v_8bba_19 v_9a_20 v_9ba_21 v_9bba_22 => some (v_9a_20, (v_9ba_21, (v_9bba_22, q_16))))
def qgf_ : Head := ⟨[(2, (.val (.int .i64))), (3, (.val (.fn 184 (.ptr (.st (.pr (.int .i64) (.pr (.int .i64) (.pr (.int .i64) (.sl 2 (.int .i64)))))))))), (8, (.bp 8 [] 0)), (9, (.bp 9 [] 0)), (10, (.val (.int .i64))), (16, (.val (.int .i64))), (17, (.val (.int .i64))), (20, (.val (.int .i64))), (21, (.val (.int .i64)))], [(64000000, 2, (.int .i64), false), (64000001, 2, (.int .i64), false)], [(8, 147, (.st (.pr (.val (.int .i64)) (.pr (.val (.int .i64)) (.pr (.val (.int .i64)) (.ref 64000000 [])))))), (9, 147, (.st (.pr (.val (.int .i64)) (.pr (.val (.int .i64)) (.pr (.val (.int .i64)) (.ref 64000001 []))))))]⟩
def qgg_ : Head := ⟨[(2, (.val (.int .i64))), (3, (.val (.fn 184 (.ptr (.st (.pr (.int .i64) (.pr (.int .i64) (.pr (.int .i64) (.sl 2 (.int .i64)))))))))), (8, (.bp 8 [] 0)), (9, (.bp 9 [] 0)), (16, (.val (.int .i64))), (17, (.val (.int .i64)))], [(64000000, 2, (.int .i64), false), (64000001, 2, (.int .i64), false)], [(8, 147, (.st (.pr (.val (.int .i64)) (.pr (.val (.int .i64)) (.pr (.val (.int .i64)) (.ref 64000000 [])))))), (9, 147, (.st (.pr (.val (.int .i64)) (.pr (.val (.int .i64)) (.pr (.val (.int .i64)) (.ref 64000001 []))))))]⟩
def qgh_ (k n : Nat) (x : qgf_.T) (kx : Nat → St → Option (Int × Int × Int × List Int)) : Option (Int × Int × Int × List Int) := z7l_ k n x.1.1 x.1.2.1 x.1.2.2.2.2.1 x.1.2.2.2.2.2.1 x.1.2.2.2.2.2.2.1 x.1.2.2.2.2.2.2.2.1 x.1.2.2.2.2.2.2.2.2.1 x.2.1.1 x.2.1.2.1 x.2.2.1.1 x.2.2.1.2.1 x.2.2.1.2.2.1 x.2.2.2.1.1 x.2.2.2.1.2.1 x.2.2.2.1.2.2.1 (fun (columns2 : Int) (cell3 : Int × Int × Int × List Int) (x16 : Int) (x17 : Int) (q_6 : List Int) (q_7 : List Int) (v_8a : Int) (v_8ba : Int) (v_8bba : Int) (v_9a : Int) (v_9ba : Int) (v_9bba : Int) => kx 2 (qgg_.fill ((columns2, cell3, (), (), x16, x17, ()), (q_6, q_7, ()), ((v_8a, (v_8ba, (v_8bba, ()))), (v_9a, (v_9ba, (v_9bba, ()))), ()))))
def qgi_ : Head := ⟨[(2, (.val (.int .i64))), (3, (.val (.fn 184 (.ptr (.st (.pr (.int .i64) (.pr (.int .i64) (.pr (.int .i64) (.sl 2 (.int .i64)))))))))), (8, (.bp 8 [] 0)), (9, (.bp 9 [] 0)), (16, (.val (.int .i64))), (17, (.val (.int .i64)))], [(64000000, 2, (.int .i64), false), (64000001, 2, (.int .i64), false)], [(8, 147, (.st (.pr (.val (.int .i64)) (.pr (.val (.int .i64)) (.pr (.val (.int .i64)) (.ref 64000000 [])))))), (9, 147, (.st (.pr (.val (.int .i64)) (.pr (.val (.int .i64)) (.pr (.val (.int .i64)) (.ref 64000001 []))))))]⟩
def qgj_ : Head := ⟨[(8, (.bp 8 [] 0)), (9, (.bp 9 [] 0))], [(64000000, 2, (.int .i64), false), (64000001, 2, (.int .i64), false)], [(8, 147, (.st (.pr (.val (.int .i64)) (.pr (.val (.int .i64)) (.pr (.val (.int .i64)) (.ref 64000000 [])))))), (9, 147, (.st (.pr (.val (.int .i64)) (.pr (.val (.int .i64)) (.pr (.val (.int .i64)) (.ref 64000001 []))))))]⟩
def qgk_ (k n : Nat) (x : qgi_.T) (kx : Nat → St → Option (Int × Int × Int × List Int)) : Option (Int × Int × Int × List Int) := z7m_ k n x.1.1 x.1.2.1 x.1.2.2.2.2.1 x.1.2.2.2.2.2.1 x.2.1.1 x.2.1.2.1 x.2.2.1.1 x.2.2.1.2.1 x.2.2.1.2.2.1 x.2.2.2.1.1 x.2.2.2.1.2.1 x.2.2.2.1.2.2.1 (fun (q_18 : List Int) (q_19 : List Int) (v_8a : Int) (v_8ba : Int) (v_8bba : Int) (v_9a : Int) (v_9ba : Int) (v_9bba : Int) => kx 0 (qgj_.fill (((), (), ()), (q_18, q_19, ()), ((v_8a, (v_8ba, (v_8bba, ()))), (v_9a, (v_9ba, (v_9bba, ()))), ()))))
def qgl_ (k : Nat) : Oracles (Int × Int × Int × List Int) := ⟨fun n => bif Nat.beq n 6 then some (fun σ kx => qgf_.get σ fun x => qgh_ k k x kx) else bif Nat.beq n 3 then some (fun σ kx => qgi_.get σ fun x => qgk_ k k x kx) else none, fun _ => none⟩
def qgm_ (k : Nat) : FE := ⟨(.pr (.int .i64) (.pr (.int .i64) (.pr (.int .i64) (.fn 184 (.ptr (.st (.pr (.int .i64) (.pr (.int .i64) (.pr (.int .i64) (.sl 2 (.int .i64))))))))))), 1, (.st (.pr (.int .i64) (.pr (.int .i64) (.pr (.int .i64) (.sl 2 (.int .i64)))))), fun x => zjp_ k x.1 x.2.1 x.2.2.1 x.2.2.2⟩
theorem qgn_ (k : Nat) : zc_ (z3_ ti [(184, qgd_)] (lk []) z4_ z5_) (qgl_ k) (rdC (z3_ ti [(184, qgd_)] (lk []) z4_ z5_) [.cell 8 147] (.st (.pr (.int .i64) (.pr (.int .i64) (.pr (.int .i64) (.sl 2 (.int .i64))))))) ((zb_ (z2_ Tryz.f155)).getD 1 .skip) (fun σ kx => qgf_.get σ fun x => qgh_ k k x kx) := by
  refine ⟨qgf_, [(2, qgg_)], fun n x kx => qgh_ k n x kx, k, by kernel_rfl, by kernel_rfl, fun x kx => by kernel_rfl, ?_, fun σ kx => rfl⟩
  rintro n ⟨⟨columns2, cell3, ⟨⟩, ⟨⟩, i10, x16, x17, x20, x21, ⟨⟩⟩, ⟨q_3, q_4, ⟨⟩⟩, ⟨⟨v_8a, ⟨v_8ba, ⟨v_8bba, ⟨⟩⟩⟩⟩, ⟨v_9a, ⟨v_9ba, ⟨v_9bba, ⟨⟩⟩⟩⟩, ⟨⟩⟩⟩ kx
  kernel_rfl
theorem qgo_ (k : Nat) : zc_ (z3_ ti [(184, qgd_)] (lk []) z4_ z5_) (qgl_ k) (rdC (z3_ ti [(184, qgd_)] (lk []) z4_ z5_) [.cell 8 147] (.st (.pr (.int .i64) (.pr (.int .i64) (.pr (.int .i64) (.sl 2 (.int .i64))))))) ((zb_ (z2_ Tryz.f155)).getD 0 .skip) (fun σ kx => qgi_.get σ fun x => qgk_ k k x kx) := by
  refine ⟨qgi_, [(0, qgj_)], fun n x kx => qgk_ k n x kx, k, by kernel_rfl, by kernel_rfl, fun x kx => by kernel_rfl, ?_, fun σ kx => rfl⟩
  rintro n ⟨⟨columns2, cell3, ⟨⟩, ⟨⟩, x16, x17, ⟨⟩⟩, ⟨q_1, q_2, ⟨⟩⟩, ⟨⟨v_8a, ⟨v_8ba, ⟨v_8bba, ⟨⟩⟩⟩⟩, ⟨v_9a, ⟨v_9ba, ⟨v_9bba, ⟨⟩⟩⟩⟩, ⟨⟩⟩⟩ kx
  kernel_rfl
theorem qgp_ (k : Nat) : FnOK Tryz.prog 155 (qgm_ k) := by
  refine za_ (tab := [(184, qgd_)]) (l := []) z6_ z9_ mix (List.forall_mem_cons.2 ⟨qge_, (List.forall_mem_nil _)⟩) (List.forall_mem_nil _) ⟨⟨Tryz.f155, (z2_ Tryz.f155), [.cell 8 147], (qgl_ k), by kernel_rfl, by kernel_rfl, by kernel_rfl, by kernel_rfl, rfl, by decide, ⟨by kernel_rfl, ?_, ?_⟩, ?_⟩⟩
  · refine zf_ (n := 2) (by kernel_rfl) fun i hi => ?_
    match i, hi with
    | 0, _ => exact zd_ (by kernel_rfl) (qgo_ k)
    | 1, _ => exact zd_ (by kernel_rfl) (qgn_ k)
    | n + 2, hi => omega
  · exact z8_ (by kernel_rfl)
  · rintro ⟨p0, rows1, columns2, cell3⟩
    kernel_rfl
def zga_ (k : Nat) (m0 : Int × Int × Int × List Int) : Option (Int × Int × Int × List Int) := (zjp_ k m0.1 m0.2.2.1 m0.2.1 m0).bind fun r_1 => some (r_1.1, (r_1.2.1, (r_1.2.2.1, r_1.2.2.2)))
def qgq_ (k : Nat) : FE := ⟨(.st (.pr (.int .i64) (.pr (.int .i64) (.pr (.int .i64) (.sl 2 (.int .i64)))))), 1, (.st (.pr (.int .i64) (.pr (.int .i64) (.pr (.int .i64) (.sl 2 (.int .i64)))))), fun x => zga_ k x⟩
theorem qgr_ (k : Nat) : FnOK Tryz.prog 175 (qgq_ k) := by
  refine za_ (tab := [(155, qgm_ k)]) (l := []) z6_ z9_ mix (List.forall_mem_cons.2 ⟨qgp_ k, (List.forall_mem_nil _)⟩) (List.forall_mem_nil _) ⟨⟨Tryz.f175, (z2_ Tryz.f175), [.cell 2 147], (LOn (Int × Int × Int × List Int)), by kernel_rfl, by kernel_rfl, by kernel_rfl, by kernel_rfl, rfl, by decide, ⟨by kernel_rfl, ?_, ?_⟩, ?_⟩⟩
  · exact zh_ (by kernel_rfl)
  · exact z8_ (by kernel_rfl)
  · rintro m0
    kernel_rfl
def z7n_ (m0 : Int × Int × Int × List Int) (i1 : Int) : Option (List Int) := (if 0 ≤ (z0_ (i1 * m0.2.2.1)) ∧ (z0_ (i1 * m0.2.2.1)) ≤ (z0_ ((z0_ (i1 + 1)) * m0.2.2.1)) ∧ (z0_ ((z0_ (i1 + 1)) * m0.2.2.1)) ≤ m0.2.2.2.length then some ((m0.2.2.2.drop ((z0_ (i1 * m0.2.2.1)).toNat)).take ((z0_ ((z0_ (i1 + 1)) * m0.2.2.1)).toNat - (z0_ (i1 * m0.2.2.1)).toNat)) else none)
def qgs_ : FE := ⟨(.pr (.st (.pr (.int .i64) (.pr (.int .i64) (.pr (.int .i64) (.sl 2 (.int .i64)))))) (.int .i64)), RON, (.sl 2 (.int .i64)), fun x => z7n_ x.1 x.2⟩
theorem qgt_ : FnOK Tryz.prog 158 (qgs_) := by
  refine ziq_ (tab := []) (l := []) z6_ z9_ mix (List.forall_mem_nil _) (List.forall_mem_nil _) ⟨⟨Tryz.f158, (z2_ Tryz.f158), [.tmp 4], (LOn (List Int)), by kernel_rfl, by kernel_rfl, by kernel_rfl, by kernel_rfl, by decide, ⟨by kernel_rfl, ?_, ?_⟩, ?_⟩⟩
  · exact zh_ (by kernel_rfl)
  · exact z8_ (by kernel_rfl)
  · rintro ⟨m0, i1⟩
    kernel_rfl
def zgb_ (s0 : List Int) : Option (List Int) := (if List.isEmpty s0 = true then both (some []) ((if (([] : List Unit).length + s0.length) * 8 ≤ LIM then some s0 else none)) else (if (([] : List Unit).length + s0.length) * 8 ≤ LIM then some s0 else none))
def qgu_ : FE := ⟨(.sl 2 (.int .i64)), 1, (.sl 2 (.int .i64)), fun x => zgb_ x⟩
theorem qgv_ : FnOK Tryz.prog 183 (qgu_) := by
  refine za_ (tab := []) (l := []) z6_ z9_ mix (List.forall_mem_nil _) (List.forall_mem_nil _) ⟨⟨Tryz.f183, (z2_ Tryz.f183), [.tmp 2], (LOn (List Int)), by kernel_rfl, by kernel_rfl, by kernel_rfl, by kernel_rfl, rfl, by decide, ⟨by kernel_rfl, ?_, ?_⟩, ?_⟩⟩
  · exact zh_ (by kernel_rfl)
  · exact z8_ (by kernel_rfl)
  · rintro s0
    kernel_rfl
def zag_ (k : Nat) : Nat → Int → Int → zT4 → (Int × Int × Int × List Int) → (zT4 → Option zT4) → Option zT4
  | 0, _, _, _, _, _ => none
  | n + 1, x6, x7, q_1, v_1, e_0 => (if (decide (x7 < x6)) = true then (z7n_ v_1 x7).bind fun r_2 => (zgb_ r_2).bind fun r_3 => (if (q_1.length + [r_3].length) * 24 ≤ LIM then zag_ k n x6 (z0_ (x7 + 1)) (q_1 ++ [r_3]) v_1 e_0 else none) else e_0 q_1)
def zgc_ (k : Nat) (m0 : Int × Int × Int × List Int) : Option zT4 := zag_ k k m0.2.1 0 [] m0 (fun q_4 => some q_4)
def qgw_ : Head := ⟨[(1, (.bp 1 [] 0)), (3, (.ref 64000000 [])), (6, (.val (.int .i64))), (7, (.val (.int .i64)))], [(64000000, 68, (.sl 2 (.int .i64)), false)], [(1, 147, (.val (.st (.pr (.int .i64) (.pr (.int .i64) (.pr (.int .i64) (.sl 2 (.int .i64))))))))]⟩
def qgx_ : Head := ⟨[(3, (.ref 64000000 []))], [(64000000, 68, (.sl 2 (.int .i64)), false)], []⟩
def qgy_ (k n : Nat) (x : qgw_.T) (kx : Nat → St → Option zT4) : Option zT4 := zag_ k n x.1.2.2.1 x.1.2.2.2.1 x.2.1.1 x.2.2.1 (fun (q_4 : List (List Int)) => kx 0 (qgx_.fill (((), ()), (q_4, ()), ())))
def qgz_ (k : Nat) : Oracles zT4 := ⟨fun n => bif Nat.beq n 3 then some (fun σ kx => qgw_.get σ fun x => qgy_ k k x kx) else none, fun _ => none⟩
def qh0_ (k : Nat) : FE := ⟨(.st (.pr (.int .i64) (.pr (.int .i64) (.pr (.int .i64) (.sl 2 (.int .i64)))))), 1, (.sl 68 (.sl 2 (.int .i64))), fun x => zgc_ k x⟩
theorem qh1_ (k : Nat) : zc_ (z3_ ti [(158, qgs_), (183, qgu_)] (lk []) z4_ z5_) (qgz_ k) (rdC (z3_ ti [(158, qgs_), (183, qgu_)] (lk []) z4_ z5_) [.tmp 2] (.sl 68 (.sl 2 (.int .i64)))) ((zb_ (z2_ Tryz.f174)).getD 0 .skip) (fun σ kx => qgw_.get σ fun x => qgy_ k k x kx) := by
  refine ⟨qgw_, [(0, qgx_)], fun n x kx => qgy_ k n x kx, k, by kernel_rfl, by kernel_rfl, fun x kx => by kernel_rfl, ?_, fun σ kx => rfl⟩
  rintro n ⟨⟨⟨⟩, ⟨⟩, x6, x7, ⟨⟩⟩, ⟨q_1, ⟨⟩⟩, ⟨v_1, ⟨⟩⟩⟩ kx
  kernel_rfl
theorem qh2_ (k : Nat) : FnOK Tryz.prog 174 (qh0_ k) := by
  refine za_ (tab := [(158, qgs_), (183, qgu_)]) (l := []) z6_ z9_ mix (List.forall_mem_cons.2 ⟨qgt_, (List.forall_mem_cons.2 ⟨qgv_, (List.forall_mem_nil _)⟩)⟩) (List.forall_mem_nil _) ⟨⟨Tryz.f174, (z2_ Tryz.f174), [.tmp 2], (qgz_ k), by kernel_rfl, by kernel_rfl, by kernel_rfl, by kernel_rfl, rfl, by decide, ⟨by kernel_rfl, ?_, ?_⟩, ?_⟩⟩
  · refine zf_ (n := 1) (by kernel_rfl) fun i hi => ?_
    match i, hi with
    | 0, _ => exact zd_ (by kernel_rfl) (qh1_ k)
    | n + 1, hi => omega
  · exact z8_ (by kernel_rfl)
  · rintro m0
    kernel_rfl
def zjq_ (k : Nat) (m0 : Int × Int × Int × List Int) : Option zT4 := (zga_ k m0).bind fun r_1 => (zgc_ k (r_1.1, (r_1.2.1, (r_1.2.2.1, r_1.2.2.2)))).bind fun r_2 => some r_2
def qh3_ (k : Nat) : FE := ⟨(.st (.pr (.int .i64) (.pr (.int .i64) (.pr (.int .i64) (.sl 2 (.int .i64)))))), 1, (.sl 68 (.sl 2 (.int .i64))), fun x => zjq_ k x⟩
theorem qh4_ (k : Nat) : FnOK Tryz.prog 154 (qh3_ k) := by
  refine za_ (tab := [(175, qgq_ k), (174, qh0_ k)]) (l := []) z6_ z9_ mix (List.forall_mem_cons.2 ⟨qgr_ k, (List.forall_mem_cons.2 ⟨qh2_ k, (List.forall_mem_nil _)⟩)⟩) (List.forall_mem_nil _) ⟨⟨Tryz.f154, (z2_ Tryz.f154), [.tmp 2], (LOn zT4), by kernel_rfl, by kernel_rfl, by kernel_rfl, by kernel_rfl, rfl, by decide, ⟨by kernel_rfl, ?_, ?_⟩, ?_⟩⟩
  · exact zh_ (by kernel_rfl)
  · exact z8_ (by kernel_rfl)
  · rintro m0
    kernel_rfl
def zah_ (k : Nat) : Nat → (List Int) → (List Int) → Int → Int → Int → Int → (Int → Option Int) → Option Int
  | 0, _, _, _, _, _, _, _ => none
  | n + 1, a0, b1, p2, sum7, x10, x11, e_0 => (if (decide (x11 < x10)) = true then (if 0 ≤ x11 then (a0[x11.toNat]?).bind fun y_1 => (if 0 ≤ x11 then (b1[x11.toNat]?).bind fun y_2 => (if p2 = 0 then none else zah_ k n a0 b1 p2 (Int.tmod (z0_ (sum7 + (z0_ (y_1 * y_2)))) p2) x10 (z0_ (x11 + 1)) e_0) else none) else none) else e_0 sum7)
def zgd_ (k : Nat) (a0 : List Int) (b1 : List Int) (p2 : Int) : Option Int := zah_ k k a0 b1 p2 0 (List.length a0 : Int) 0 (fun sum_3 => some sum_3)
def qh5_ : Head := ⟨[(0, (.val (.sl 2 (.int .i64)))), (1, (.val (.sl 2 (.int .i64)))), (2, (.val (.int .i64))), (7, (.val (.int .i64))), (10, (.val (.int .i64))), (11, (.val (.int .i64)))], [], []⟩
def qh6_ : Head := ⟨[(7, (.val (.int .i64)))], [], []⟩
def qh7_ (k n : Nat) (x : qh5_.T) (kx : Nat → St → Option Int) : Option Int := zah_ k n x.1.1 x.1.2.1 x.1.2.2.1 x.1.2.2.2.1 x.1.2.2.2.2.1 x.1.2.2.2.2.2.1 (fun (sum7 : Int) => kx 0 (qh6_.fill ((sum7, ()), (), ())))
def qh8_ (k : Nat) : Oracles Int := ⟨fun n => bif Nat.beq n 3 then some (fun σ kx => qh5_.get σ fun x => qh7_ k k x kx) else none, fun _ => none⟩
def qh9_ (k : Nat) : FE := ⟨(.pr (.sl 2 (.int .i64)) (.pr (.sl 2 (.int .i64)) (.int .i64))), 1, (.int .i64), fun x => zgd_ k x.1 x.2.1 x.2.2⟩
theorem qha_ (k : Nat) : zc_ (z3_ ti [] (lk []) z4_ z5_) (qh8_ k) (rdC (z3_ ti [] (lk []) z4_ z5_) [.tmp 6] (.int .i64)) ((zb_ (z2_ Tryz.f157)).getD 0 .skip) (fun σ kx => qh5_.get σ fun x => qh7_ k k x kx) := by
  refine ⟨qh5_, [(0, qh6_)], fun n x kx => qh7_ k n x kx, k, by kernel_rfl, by kernel_rfl, fun x kx => by kernel_rfl, ?_, fun σ kx => rfl⟩
  rintro n ⟨⟨a0, b1, p2, sum7, x10, x11, ⟨⟩⟩, ⟨⟩, ⟨⟩⟩ kx
  kernel_rfl
theorem qhb_ (k : Nat) : FnOK Tryz.prog 157 (qh9_ k) := by
  refine za_ (tab := []) (l := []) z6_ z9_ mix (List.forall_mem_nil _) (List.forall_mem_nil _) ⟨⟨Tryz.f157, (z2_ Tryz.f157), [.tmp 6], (qh8_ k), by kernel_rfl, by kernel_rfl, by kernel_rfl, by kernel_rfl, rfl, by decide, ⟨by kernel_rfl, ?_, ?_⟩, ?_⟩⟩
  · refine zf_ (n := 1) (by kernel_rfl) fun i hi => ?_
    match i, hi with
    | 0, _ => exact zd_ (by kernel_rfl) (qha_ k)
    | n + 1, hi => omega
  · exact z8_ (by kernel_rfl)
  · rintro ⟨a0, b1, p2⟩
    kernel_rfl
def zge_ (k : Nat) (i0 : Int) (j1 : Int) (x2 : Int × Int × Int × List Int) (x3 : List (List Int)) : Option Int := (z7n_ x2 i0).bind fun r_1 => (if 0 ≤ j1 then (x3[j1.toNat]?).bind fun y_2 => (zgd_ k r_1 y_2 x2.1).bind fun r_3 => some r_3 else none)
def qhc_ (k : Nat) : FE := ⟨(.pr (.int .i64) (.pr (.int .i64) (.pr (.ptr (.st (.pr (.int .i64) (.pr (.int .i64) (.pr (.int .i64) (.sl 2 (.int .i64))))))) (.ptr (.sl 68 (.sl 2 (.int .i64))))))), 1, (.int .i64), fun x => zge_ k x.1 x.2.1 x.2.2.1 x.2.2.2⟩
theorem qhd_ (k : Nat) : FnOK Tryz.prog 156 (qhc_ k) := by
  refine za_ (tab := [(158, qgs_), (157, qh9_ k)]) (l := []) z6_ z9_ mix (List.forall_mem_cons.2 ⟨qgt_, (List.forall_mem_cons.2 ⟨qhb_ k, (List.forall_mem_nil _)⟩)⟩) (List.forall_mem_nil _) ⟨⟨Tryz.f156, (z2_ Tryz.f156), [.tmp 6], (LOn Int), by kernel_rfl, by kernel_rfl, by kernel_rfl, by kernel_rfl, rfl, by decide, ⟨by kernel_rfl, ?_, ?_⟩, ?_⟩⟩
  · exact zh_ (by kernel_rfl)
  · exact z8_ (by kernel_rfl)
  · rintro ⟨i0, j1, x2, x3⟩
    kernel_rfl
end
end Go.Proofs.YtibiofjkgdidmaaGreatDoor.Ev
