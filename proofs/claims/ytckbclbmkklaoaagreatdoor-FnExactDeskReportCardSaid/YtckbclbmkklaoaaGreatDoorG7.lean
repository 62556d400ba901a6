/- Functions of the program, as zl_ ones. No conditions. -/
import Derived.Test.YtckbclbmkklaoaaGreatDoorG6
import Derived.KernelRfl
set_option linter.unusedVariables false
set_option maxRecDepth 100000
namespace Go.Proofs.YtckbclbmkklaoaaGreatDoor.Ev
open Go.RowKit
noncomputable section
def zaa_ (k : Nat) : Nat → Int → Int → Int → (List Int) → (List (List Int) × Int × List Int × List (Int × Int × Int × List Int)) → (Int → Option Int) → Option Int
  | 0, _, _, _, _, _, _ => none
  | n + 1, sum5, x12, x13, q_2, v_2, e_0 => (if (decide (x13 < x12)) = true then (if 0 ≤ x13 ∧ x13.toNat < List.length q_2 then (q_2[x13.toNat]?).bind fun y_3 => (if 0 ≤ y_3 then (v_2.2.2.1[y_3.toNat]?).bind fun y_4 => zaa_ k n (z0_ (sum5 + y_4)) x12 (z0_ (x13 + 1)) q_2 v_2 e_0 else none) else none) else e_0 sum5)
def zck_ (k : Nat) (s0 : List (List Int) × Int × List Int × List (Int × Int × Int × List Int)) (k1 : Int) : Option Int := (zgg_ k s0.1 k1).bind fun r_1 => zaa_ k k 0 (List.length r_1 : Int) 0 r_1 s0 (fun sum_5 => some sum_5)
def qdi_ : Head := ⟨[(2, (.bp 2 [] 0)), (5, (.val (.int .i64))), (11, (.ref 64000000 [])), (12, (.val (.int .i64))), (13, (.val (.int .i64)))], [(64000000, 2, (.int .i64), false)], [(2, 47, (.val (.st (.pr (.st (.sl 25 (.sl 2 (.int .i64)))) (.pr (.int .i64) (.pr (.sl 2 (.int .i64)) (.sl 51 (.st (.pr (.int .i64) (.pr (.int .i64) (.pr (.int .i64) (.sl 2 (.int .i64)))))))))))))]⟩
def qdj_ : Head := ⟨[(5, (.val (.int .i64)))], [], []⟩
def qdk_ (k n : Nat) (x : qdi_.T) (kx : Nat → St → Option Int) : Option Int := zaa_ k n x.1.2.1 x.1.2.2.2.1 x.1.2.2.2.2.1 x.2.1.1 x.2.2.1 (fun (sum5 : Int) => kx 0 (qdj_.fill ((sum5, ()), (), ())))
def qdl_ (k : Nat) : Oracles Int := ⟨fun n => bif Nat.beq n 3 then some (fun σ kx => qdi_.get σ fun x => qdk_ k k x kx) else none, fun _ => none⟩
def qdm_ (k : Nat) : FE := ⟨(.pr (.st (.pr (.st (.sl 25 (.sl 2 (.int .i64)))) (.pr (.int .i64) (.pr (.sl 2 (.int .i64)) (.sl 51 (.st (.pr (.int .i64) (.pr (.int .i64) (.pr (.int .i64) (.sl 2 (.int .i64))))))))))) (.int .i64)), 1, (.int .i64), fun x => zck_ k x.1 x.2⟩
theorem qdn_ (k : Nat) : zd_ (z3_ ti [(129, qdf_ k)] (lk []) z7_ z8_) (qdl_ k) (rdC (z3_ ti [(129, qdf_ k)] (lk []) z7_ z8_) [.tmp 4] (.int .i64)) ((zc_ (z2_ Tryz.f76)).getD 0 .skip) (fun σ kx => qdi_.get σ fun x => qdk_ k k x kx) := by
  refine ⟨qdi_, [(0, qdj_)], fun n x kx => qdk_ k n x kx, k, by kernel_rfl, by kernel_rfl, fun x kx => by kernel_rfl, ?_, fun σ kx => rfl⟩
  rintro n ⟨⟨⟨⟩, sum5, ⟨⟩, x12, x13, ⟨⟩⟩, ⟨q_2, ⟨⟩⟩, ⟨v_2, ⟨⟩⟩⟩ kx
  kernel_rfl
theorem qdo_ (k : Nat) : FnOK Tryz.prog 76 (qdm_ k) := by
  refine za_ (tab := [(129, qdf_ k)]) (l := []) z4_ z6_ mix (List.forall_mem_cons.2 ⟨qdh_ k, (List.forall_mem_nil _)⟩) (List.forall_mem_nil _) ⟨⟨Tryz.f76, (z2_ Tryz.f76), [.tmp 4], (qdl_ k), by kernel_rfl, by kernel_rfl, by kernel_rfl, by kernel_rfl, rfl, by decide, ⟨by kernel_rfl, ?_, ?_⟩, ?_⟩⟩
  · refine zi_ (n := 1) (by kernel_rfl) fun i hi => ?_
    match i, hi with
    | 0, _ => exact ze_ (by kernel_rfl) (qdn_ k)
    | n + 1, hi => omega
  · exact z5_ (by kernel_rfl)
  · rintro ⟨s0, k1⟩
    kernel_rfl
def zab_ (k : Nat) : Nat → (List Int) → Int → (List (List Int)) → (Option Bool) → Option Bool
  | 0, _, _, _, _ => none
  | n + 1, stalks1, x16, v_2, e_0 => (if (decide (x16 < 4)) = true then (zck_ k (v_2, (0, (stalks1, []))) x16).bind fun r_2 => (if (decide (32 < r_2)) = true then some false else zab_ k n stalks1 (z0_ (x16 + 1)) v_2 e_0) else e_0)
def zgh_ (k : Nat) (c0 : List (List Int)) (stalks1 : List Int) : Option Bool := (if (!(decide ((List.length stalks1 : Int) = (List.length c0 : Int)))) = true then some false else (zgf_ k stalks1 ()).bind fun r_1 => (if r_1 = true then some false else zab_ k k stalks1 0 c0 (some true)))
def qdp_ : Head := ⟨[(1, (.val (.sl 2 (.int .i64)))), (2, (.bp 2 [] 0)), (16, (.val (.int .i64)))], [], [(2, 44, (.val (.st (.sl 25 (.sl 2 (.int .i64))))))]⟩
def qdq_ : Head := ⟨[], [], []⟩
def qdr_ (k n : Nat) (x : qdp_.T) (kx : Nat → St → Option Bool) : Option Bool := zab_ k n x.1.1 x.1.2.2.1 x.2.2.1 (kx 0 (qdq_.fill ((), (), ())))
def qds_ (k : Nat) : Oracles Bool := ⟨fun n => bif Nat.beq n 4 then some (fun σ kx => qdp_.get σ fun x => qdr_ k k x kx) else none, fun _ => none⟩
def qdt_ (k : Nat) : FE := ⟨(.pr (.st (.sl 25 (.sl 2 (.int .i64)))) (.sl 2 (.int .i64))), 1, .bool, fun x => zgh_ k x.1 x.2⟩
theorem qdu_ (k : Nat) : zd_ (z3_ ti [(119, qd7_ k), (76, qdm_ k)] (lk []) z7_ z8_) (qds_ k) (rdC (z3_ ti [(119, qd7_ k), (76, qdm_ k)] (lk []) z7_ z8_) [.tmp 4] .bool) ((zc_ (z2_ Tryz.f109)).getD 0 .skip) (fun σ kx => qdp_.get σ fun x => qdr_ k k x kx) := by
  refine ⟨qdp_, [(0, qdq_)], fun n x kx => qdr_ k n x kx, k, by kernel_rfl, by kernel_rfl, fun x kx => by kernel_rfl, ?_, fun σ kx => rfl⟩
  rintro n ⟨⟨stalks1, ⟨⟩, x16, ⟨⟩⟩, ⟨⟩, ⟨v_2, ⟨⟩⟩⟩ kx
  kernel_rfl
theorem qdv_ (k : Nat) : FnOK Tryz.prog 109 (qdt_ k) := by
  refine za_ (tab := [(119, qd7_ k), (76, qdm_ k)]) (l := []) z4_ z6_ mix (List.forall_mem_cons.2 ⟨qd8_ k, (List.forall_mem_cons.2 ⟨qdo_ k, (List.forall_mem_nil _)⟩)⟩) (List.forall_mem_nil _) ⟨⟨Tryz.f109, (z2_ Tryz.f109), [.tmp 4], (qds_ k), by kernel_rfl, by kernel_rfl, by kernel_rfl, by kernel_rfl, rfl, by decide, ⟨by kernel_rfl, ?_, ?_⟩, ?_⟩⟩
  · refine zi_ (n := 1) (by kernel_rfl) fun i hi => ?_
    match i, hi with
    | 0, _ => exact ze_ (by kernel_rfl) (qdu_ k)
    | n + 1, hi => omega
  · exact z5_ (by kernel_rfl)
  · rintro ⟨c0, stalks1⟩
    kernel_rfl
def zcl_ (list0 : List (List Int)) : Option Int := some (List.length list0 : Int)
def qdw_ : FE := ⟨(.sl 25 (.sl 2 (.int .i64))), 1, (.int .i64), fun x => zcl_ x⟩
theorem qdx_ : FnOK Tryz.prog 30 (qdw_) := by
  refine za_ (tab := []) (l := []) z4_ z6_ mix (List.forall_mem_nil _) (List.forall_mem_nil _) ⟨⟨Tryz.f30, (z2_ Tryz.f30), [.tmp 2], (LOn Int), by kernel_rfl, by kernel_rfl, by kernel_rfl, by kernel_rfl, rfl, by decide, ⟨by kernel_rfl, ?_, ?_⟩, ?_⟩⟩
  · exact zf_ (by kernel_rfl)
  · exact z5_ (by kernel_rfl)
  · rintro list0
    kernel_rfl
def zac_ (k : Nat) : Nat → Int → Int → (List Int) → (List (List Int)) → (List (List Int)) → ((List Int) → Option (List Int)) → Option (List Int)
  | 0, _, _, _, _, _, _ => none
  | n + 1, x14, x15, q_3, q_4, v_2, e_0 => (if (decide (x15 < x14)) = true then (if 0 ≤ x15 ∧ x15.toNat < List.length q_4 then (q_4[x15.toNat]?).bind fun y_5 => (q_4[x15.toNat]?).bind fun y_6 => (zch_ k v_2 y_6).bind fun r_7 => (if (q_3.length + [r_7].length) * 8 ≤ LIM then zac_ k n x14 (z0_ (x15 + 1)) (q_3 ++ [r_7]) q_4 v_2 e_0 else none) else none) else e_0 q_3)
def zgi_ (k : Nat) (c0 : List (List Int)) (k1 : Int) : Option (List Int) := (if 0 ≤ k1 then (c0[k1.toNat]?).bind fun y_1 => (za6_ k y_1).bind fun r_2 => zac_ k k (List.length r_2 : Int) 0 [] r_2 c0 (fun q_8 => some q_8) else none)
def qdy_ : Head := ⟨[(2, (.bp 2 [] 0)), (5, (.ref 64000000 [])), (13, (.ref 64000001 [])), (14, (.val (.int .i64))), (15, (.val (.int .i64)))], [(64000000, 2, (.int .i64), false), (64000001, 25, (.sl 2 (.int .i64)), false)], [(2, 44, (.val (.st (.sl 25 (.sl 2 (.int .i64))))))]⟩
def qdz_ : Head := ⟨[(5, (.ref 64000000 []))], [(64000000, 2, (.int .i64), false)], []⟩
def qe0_ (k n : Nat) (x : qdy_.T) (kx : Nat → St → Option (List Int)) : Option (List Int) := zac_ k n x.1.2.2.2.1 x.1.2.2.2.2.1 x.2.1.1 x.2.1.2.1 x.2.2.1 (fun (q_9 : List Int) => kx 0 (qdz_.fill (((), ()), (q_9, ()), ())))
def qe1_ (k : Nat) : Oracles (List Int) := ⟨fun n => bif Nat.beq n 3 then some (fun σ kx => qdy_.get σ fun x => qe0_ k k x kx) else none, fun _ => none⟩
def qe2_ (k : Nat) : FE := ⟨(.pr (.st (.sl 25 (.sl 2 (.int .i64)))) (.int .i64)), 1, (.sl 2 (.int .i64)), fun x => zgi_ k x.1 x.2⟩
theorem qe3_ (k : Nat) : zd_ (z3_ ti [(147, qbx_ k), (149, qc7_ k)] (lk []) z7_ z8_) (qe1_ k) (rdC (z3_ ti [(147, qbx_ k), (149, qc7_ k)] (lk []) z7_ z8_) [.tmp 4] (.sl 2 (.int .i64))) ((zc_ (z2_ Tryz.f151)).getD 0 .skip) (fun σ kx => qdy_.get σ fun x => qe0_ k k x kx) := by
  refine ⟨qdy_, [(0, qdz_)], fun n x kx => qe0_ k n x kx, k, by kernel_rfl, by kernel_rfl, fun x kx => by kernel_rfl, ?_, fun σ kx => rfl⟩
  rintro n ⟨⟨⟨⟩, ⟨⟩, ⟨⟩, x14, x15, ⟨⟩⟩, ⟨q_3, q_4, ⟨⟩⟩, ⟨v_2, ⟨⟩⟩⟩ kx
  kernel_rfl
theorem qe4_ (k : Nat) : FnOK Tryz.prog 151 (qe2_ k) := by
  refine za_ (tab := [(147, qbx_ k), (149, qc7_ k)]) (l := []) z4_ z6_ mix (List.forall_mem_cons.2 ⟨qbz_ k, (List.forall_mem_cons.2 ⟨qc8_ k, (List.forall_mem_nil _)⟩)⟩) (List.forall_mem_nil _) ⟨⟨Tryz.f151, (z2_ Tryz.f151), [.tmp 4], (qe1_ k), by kernel_rfl, by kernel_rfl, by kernel_rfl, by kernel_rfl, rfl, by decide, ⟨by kernel_rfl, ?_, ?_⟩, ?_⟩⟩
  · refine zi_ (n := 1) (by kernel_rfl) fun i hi => ?_
    match i, hi with
    | 0, _ => exact ze_ (by kernel_rfl) (qe3_ k)
    | n + 1, hi => omega
  · exact z5_ (by kernel_rfl)
  · rintro ⟨c0, k1⟩
    kernel_rfl
def z7s_ (k : Nat) : Nat → Int → Int → Int → Int → Int → (List (Int × Int × Int)) → (List Int) → (List (List Int)) → (Int → Int → (List (Int × Int × Int)) → (List (List Int)) → Option (List (Int × Int × Int))) → Option (List (Int × Int × Int))
  | 0, _, _, _, _, _, _, _, _, _ => none
  | n + 1, k4, x9, x10, x16, x17, q_4, q_5, v_1, e_2 => (if (decide (x17 < x16)) = true then (if 0 ≤ x17 ∧ x17.toNat < List.length q_5 then (q_5[x17.toNat]?).bind fun y_6 => (if (q_4.length + [(k4, (x17, y_6))].length) * 24 ≤ LIM then z7s_ k n k4 x9 x10 x16 (z0_ (x17 + 1)) (q_4 ++ [(k4, (x17, y_6))]) q_5 v_1 e_2 else none) else none) else e_2 x9 x10 q_4 v_1)
def zad_ (k : Nat) : Nat → Int → Int → (List (Int × Int × Int)) → (List (List Int)) → ((List (Int × Int × Int)) → Option (List (Int × Int × Int))) → Option (List (Int × Int × Int))
  | 0, _, _, _, _, _ => none
  | n + 1, x9, x10, q_2, v_1, e_0 => (if (decide (x10 < x9)) = true then (zgi_ k v_1 x10).bind fun r_3 => z7s_ k k x10 x9 x10 (List.length r_3 : Int) 0 q_2 r_3 v_1 (fun x_4 x_5 q_6 v_7 => zad_ k n x_4 (z0_ (x_5 + 1)) q_6 v_7 e_0) else e_0 q_2)
def zcm_ (k : Nat) (c0 : List (List Int)) : Option (List (Int × Int × Int)) := (zcl_ c0).bind fun r_1 => zad_ k k r_1 0 [] c0 (fun q_8 => some q_8)
def qe5_ : Head := ⟨[(1, (.bp 1 [] 0)), (3, (.ref 64000000 [])), (4, (.val (.int .i64))), (9, (.val (.int .i64))), (10, (.val (.int .i64))), (15, (.ref 64000001 [])), (16, (.val (.int .i64))), (17, (.val (.int .i64)))], [(64000000, 173, (.st (.pr (.int .i64) (.pr (.int .i64) (.int .i64)))), false), (64000001, 2, (.int .i64), false)], [(1, 44, (.val (.st (.sl 25 (.sl 2 (.int .i64))))))]⟩
def qe6_ : Head := ⟨[(1, (.bp 1 [] 0)), (3, (.ref 64000000 [])), (9, (.val (.int .i64))), (10, (.val (.int .i64)))], [(64000000, 173, (.st (.pr (.int .i64) (.pr (.int .i64) (.int .i64)))), false)], [(1, 44, (.val (.st (.sl 25 (.sl 2 (.int .i64))))))]⟩
def qe7_ (k n : Nat) (x : qe5_.T) (kx : Nat → St → Option (List (Int × Int × Int))) : Option (List (Int × Int × Int)) := z7s_ k n x.1.2.2.1 x.1.2.2.2.1 x.1.2.2.2.2.1 x.1.2.2.2.2.2.2.1 x.1.2.2.2.2.2.2.2.1 x.2.1.1 x.2.1.2.1 x.2.2.1 (fun (x9 : Int) (x10 : Int) (q_7 : List (Int × Int × Int)) (v_1 : List (List Int)) => kx 2 (qe6_.fill (((), (), x9, x10, ()), (q_7, ()), (v_1, ()))))
def qe8_ : Head := ⟨[(1, (.bp 1 [] 0)), (3, (.ref 64000000 [])), (9, (.val (.int .i64))), (10, (.val (.int .i64)))], [(64000000, 173, (.st (.pr (.int .i64) (.pr (.int .i64) (.int .i64)))), false)], [(1, 44, (.val (.st (.sl 25 (.sl 2 (.int .i64))))))]⟩
def qe9_ : Head := ⟨[(3, (.ref 64000000 []))], [(64000000, 173, (.st (.pr (.int .i64) (.pr (.int .i64) (.int .i64)))), false)], []⟩
def qea_ (k n : Nat) (x : qe8_.T) (kx : Nat → St → Option (List (Int × Int × Int))) : Option (List (Int × Int × Int)) := zad_ k n x.1.2.2.1 x.1.2.2.2.1 x.2.1.1 x.2.2.1 (fun (q_11 : List (Int × Int × Int)) => kx 0 (qe9_.fill (((), ()), (q_11, ()), ())))
def qeb_ (k : Nat) : Oracles (List (Int × Int × Int)) := ⟨fun n => bif Nat.beq n 6 then some (fun σ kx => qe5_.get σ fun x => qe7_ k k x kx) else bif Nat.beq n 3 then some (fun σ kx => qe8_.get σ fun x => qea_ k k x kx) else none, fun _ => none⟩
def qec_ (k : Nat) : FE := ⟨(.st (.sl 25 (.sl 2 (.int .i64)))), 1, (.sl 173 (.st (.pr (.int .i64) (.pr (.int .i64) (.int .i64))))), fun x => zcm_ k x⟩
theorem qed_ (k : Nat) : zd_ (z3_ ti [(30, qdw_), (151, qe2_ k)] (lk []) z7_ z8_) (qeb_ k) (rdC (z3_ ti [(30, qdw_), (151, qe2_ k)] (lk []) z7_ z8_) [.tmp 2] (.sl 173 (.st (.pr (.int .i64) (.pr (.int .i64) (.int .i64)))))) ((zc_ (z2_ Tryz.f110)).getD 1 .skip) (fun σ kx => qe5_.get σ fun x => qe7_ k k x kx) := by
  refine ⟨qe5_, [(2, qe6_)], fun n x kx => qe7_ k n x kx, k, by kernel_rfl, by kernel_rfl, fun x kx => by kernel_rfl, ?_, fun σ kx => rfl⟩
  rintro n ⟨⟨⟨⟩, ⟨⟩, k4, x9, x10, ⟨⟩, x16, x17, ⟨⟩⟩, ⟨q_4, q_5, ⟨⟩⟩, ⟨v_1, ⟨⟩⟩⟩ kx
  kernel_rfl
theorem qee_ (k : Nat) : zd_ (z3_ ti [(30, qdw_), (151, qe2_ k)] (lk []) z7_ z8_) (qeb_ k) (rdC (z3_ ti [(30, qdw_), (151, qe2_ k)] (lk []) z7_ z8_) [.tmp 2] (.sl 173 (.st (.pr (.int .i64) (.pr (.int .i64) (.int .i64)))))) ((zc_ (z2_ Tryz.f110)).getD 0 .skip) (fun σ kx => qe8_.get σ fun x => qea_ k k x kx) := by
  refine ⟨qe8_, [(0, qe9_)], fun n x kx => qea_ k n x kx, k, by kernel_rfl, by kernel_rfl, fun x kx => by kernel_rfl, ?_, fun σ kx => rfl⟩
  rintro n ⟨⟨⟨⟩, ⟨⟩, x9, x10, ⟨⟩⟩, ⟨q_2, ⟨⟩⟩, ⟨v_1, ⟨⟩⟩⟩ kx
  kernel_rfl
theorem qef_ (k : Nat) : FnOK Tryz.prog 110 (qec_ k) := by
  refine za_ (tab := [(30, qdw_), (151, qe2_ k)]) (l := []) z4_ z6_ mix (List.forall_mem_cons.2 ⟨qdx_, (List.forall_mem_cons.2 ⟨qe4_ k, (List.forall_mem_nil _)⟩)⟩) (List.forall_mem_nil _) ⟨⟨Tryz.f110, (z2_ Tryz.f110), [.tmp 2], (qeb_ k), by kernel_rfl, by kernel_rfl, by kernel_rfl, by kernel_rfl, rfl, by decide, ⟨by kernel_rfl, ?_, ?_⟩, ?_⟩⟩
  · refine zi_ (n := 2) (by kernel_rfl) fun i hi => ?_
    match i, hi with
    | 0, _ => exact ze_ (by kernel_rfl) (qee_ k)
    | 1, _ => exact ze_ (by kernel_rfl) (qed_ k)
    | n + 2, hi => omega
  · exact z5_ (by kernel_rfl)
  · rintro c0
    kernel_rfl
def zgj_ (n0 : Int) : Option Bool := (z32_ n0 0 32).bind fun r_1 => some r_1
def qeg_ : FE := ⟨(.int .i64), 1, .bool, fun x => zgj_ x⟩
theorem qeh_ : FnOK Tryz.prog 114 (qeg_) := by
  refine za_ (tab := [(112, qab_)]) (l := []) z4_ z6_ mix (List.forall_mem_cons.2 ⟨qac_, (List.forall_mem_nil _)⟩) (List.forall_mem_nil _) ⟨⟨Tryz.f114, (z2_ Tryz.f114), [.tmp 2], (LOn Bool), by kernel_rfl, by kernel_rfl, by kernel_rfl, by kernel_rfl, rfl, by decide, ⟨by kernel_rfl, ?_, ?_⟩, ?_⟩⟩
  · exact zf_ (by kernel_rfl)
  · exact z5_ (by kernel_rfl)
  · rintro n0
    kernel_rfl
def zjk_ (a0 : Int) (p1 : Int) : Option Bool := (z32_ a0 0 (z0_ (p1 - 1))).bind fun r_1 => some r_1
def qei_ : FE := ⟨(.pr (.int .i64) (.int .i64)), 1, .bool, fun x => zjk_ x.1 x.2⟩
theorem qej_ : FnOK Tryz.prog 155 (qei_) := by
  refine za_ (tab := [(112, qab_)]) (l := []) z4_ z6_ mix (List.forall_mem_cons.2 ⟨qac_, (List.forall_mem_nil _)⟩) (List.forall_mem_nil _) ⟨⟨Tryz.f155, (z2_ Tryz.f155), [.tmp 4], (LOn Bool), by kernel_rfl, by kernel_rfl, by kernel_rfl, by kernel_rfl, rfl, by decide, ⟨by kernel_rfl, ?_, ?_⟩, ?_⟩⟩
  · exact zf_ (by kernel_rfl)
  · exact z5_ (by kernel_rfl)
  · rintro ⟨a0, p1⟩
    kernel_rfl
def zjl_ (a0 : Int) (x1 : Int) : Option Bool := (zjk_ a0 x1).bind fun r_1 => some (!r_1)
def qek_ : FE := ⟨(.pr (.int .i64) (.ptr (.int .i64))), 1, .bool, fun x => zjl_ x.1 x.2⟩
theorem qel_ : FnOK Tryz.prog 154 (qek_) := by
  refine za_ (tab := [(155, qei_)]) (l := []) z4_ z6_ mix (List.forall_mem_cons.2 ⟨qej_, (List.forall_mem_nil _)⟩) (List.forall_mem_nil _) ⟨⟨Tryz.f154, (z2_ Tryz.f154), [.tmp 3], (LOn Bool), by kernel_rfl, by kernel_rfl, by kernel_rfl, by kernel_rfl, rfl, by decide, ⟨by kernel_rfl, ?_, ?_⟩, ?_⟩⟩
  · exact zf_ (by kernel_rfl)
  · exact z5_ (by kernel_rfl)
  · rintro ⟨a0, x1⟩
    kernel_rfl
def zae_ (k : Nat) : Nat → (List Int) → Int → Int → Int → (Option Int) → Option Int
  | 0, _, _, _, _, _ => none
  | n + 1, s0, f1, x7, x8, e_0 => (if (decide (x8 < x7)) = true then (if 0 ≤ x8 then (s0[x8.toNat]?).bind fun y_1 => (zjl_ y_1 f1).bind fun r_2 => (if r_2 = true then some x8 else zae_ k n s0 f1 x7 (z0_ (x8 + 1)) e_0) else none) else e_0)
def zjm_ (k : Nat) (s0 : List Int) (f1 : Int) : Option Int := zae_ k k s0 f1 (List.length s0 : Int) 0 (some (-1))
def qem_ : Head := ⟨[(0, (.val (.sl 2 (.int .i64)))), (1, (.val (.fn 154 (.ptr (.int .i64))))), (7, (.val (.int .i64))), (8, (.val (.int .i64)))], [], []⟩
def qen_ : Head := ⟨[], [], []⟩
def qeo_ (k n : Nat) (x : qem_.T) (kx : Nat → St → Option Int) : Option Int := zae_ k n x.1.1 x.1.2.1 x.1.2.2.1 x.1.2.2.2.1 (kx 0 (qen_.fill ((), (), ())))
def qep_ (k : Nat) : Oracles Int := ⟨fun n => bif Nat.beq n 2 then some (fun σ kx => qem_.get σ fun x => qeo_ k k x kx) else none, fun _ => none⟩
def qeq_ (k : Nat) : FE := ⟨(.pr (.sl 2 (.int .i64)) (.fn 154 (.ptr (.int .i64)))), 1, (.int .i64), fun x => zjm_ k x.1 x.2⟩
theorem qer_ (k : Nat) : zd_ (z3_ ti [(154, qek_)] (lk []) z7_ z8_) (qep_ k) (rdC (z3_ ti [(154, qek_)] (lk []) z7_ z8_) [.tmp 4] (.int .i64)) ((zc_ (z2_ Tryz.f159)).getD 0 .skip) (fun σ kx => qem_.get σ fun x => qeo_ k k x kx) := by
  refine ⟨qem_, [(0, qen_)], fun n x kx => qeo_ k n x kx, k, by kernel_rfl, by kernel_rfl, fun x kx => by kernel_rfl, ?_, fun σ kx => rfl⟩
  rintro n ⟨⟨s0, f1, x7, x8, ⟨⟩⟩, ⟨⟩, ⟨⟩⟩ kx
  kernel_rfl
theorem qes_ (k : Nat) : FnOK Tryz.prog 159 (qeq_ k) := by
  refine za_ (tab := [(154, qek_)]) (l := []) z4_ z6_ mix (List.forall_mem_cons.2 ⟨qel_, (List.forall_mem_nil _)⟩) (List.forall_mem_nil _) ⟨⟨Tryz.f159, (z2_ Tryz.f159), [.tmp 4], (qep_ k), by kernel_rfl, by kernel_rfl, by kernel_rfl, by kernel_rfl, rfl, by decide, ⟨by kernel_rfl, ?_, ?_⟩, ?_⟩⟩
  · refine zi_ (n := 1) (by kernel_rfl) fun i hi => ?_
    match i, hi with
    | 0, _ => exact ze_ (by kernel_rfl) (qer_ k)
    | n + 1, hi => omega
  · exact z5_ (by kernel_rfl)
  · rintro ⟨s0, f1⟩
    kernel_rfl
def zjn_ (k : Nat) (s0 : List Int) (f1 : Int) : Option Bool := (zjm_ k s0 f1).bind fun r_1 => some (decide (0 ≤ r_1))
def qet_ (k : Nat) : FE := ⟨(.pr (.sl 2 (.int .i64)) (.fn 154 (.ptr (.int .i64)))), 1, .bool, fun x => zjn_ k x.1 x.2⟩
theorem qeu_ (k : Nat) : FnOK Tryz.prog 119 (qet_ k) := by
  refine za_ (tab := [(159, qeq_ k)]) (l := []) z4_ z6_ mix (List.forall_mem_cons.2 ⟨qes_ k, (List.forall_mem_nil _)⟩) (List.forall_mem_nil _) ⟨⟨Tryz.f119, (z2_ Tryz.f119), [.tmp 4], (LOn Bool), by kernel_rfl, by kernel_rfl, by kernel_rfl, by kernel_rfl, rfl, by decide, ⟨by kernel_rfl, ?_, ?_⟩, ?_⟩⟩
  · exact zf_ (by kernel_rfl)
  · exact z5_ (by kernel_rfl)
  · rintro ⟨s0, f1⟩
    kernel_rfl
def z6f_ (k : Nat) (list0 : List Int) (p1 : Int) : Option Bool := (zjn_ k list0 p1).bind fun r_1 => some (!r_1)
def qev_ (k : Nat) : FE := ⟨(.pr (.sl 2 (.int .i64)) (.int .i64)), 1, .bool, fun x => z6f_ k x.1 x.2⟩
theorem qew_ (k : Nat) : FnOK Tryz.prog 115 (qev_ k) := by
  refine za_ (tab := [(119, qet_ k)]) (l := []) z4_ z6_ mix (List.forall_mem_cons.2 ⟨qeu_ k, (List.forall_mem_nil _)⟩) (List.forall_mem_nil _) ⟨⟨Tryz.f115, (z2_ Tryz.f115), [.tmp 4], (LOn Bool), by kernel_rfl, by kernel_rfl, by kernel_rfl, by kernel_rfl, rfl, by decide, ⟨by kernel_rfl, ?_, ?_⟩, ?_⟩⟩
  · exact zf_ (by kernel_rfl)
  · exact z5_ (by kernel_rfl)
  · rintro ⟨list0, p1⟩
    kernel_rfl
def zaf_ (k : Nat) (m0 : Int × Int × Int × List Int) : Option Bool := (za8_ k m0.1).bind fun r_1 => (if r_1 = true then (zgj_ m0.2.1).bind fun r_2 => (if r_2 = true then (zgj_ m0.2.2.1).bind fun r_3 => (if r_3 = true then (z3s_ m0.2.2.2).bind fun r_4 => (if (decide (r_4 = (z0_ (m0.2.1 * m0.2.2.1)))) = true then (z6f_ k m0.2.2.2 m0.1).bind fun r_5 => some r_5 else some false) else some false) else some false) else some false)
def qex_ (k : Nat) : FE := ⟨(.st (.pr (.int .i64) (.pr (.int .i64) (.pr (.int .i64) (.sl 2 (.int .i64)))))), 1, .bool, fun x => zaf_ k x⟩
theorem qey_ (k : Nat) : FnOK Tryz.prog 71 (qex_ k) := by
  refine za_ (tab := [(108, qcv_ k), (114, qeg_), (31, qd9_), (115, qev_ k)]) (l := []) z4_ z6_ mix (List.forall_mem_cons.2 ⟨qcx_ k, (List.forall_mem_cons.2 ⟨qeh_, (List.forall_mem_cons.2 ⟨qda_, (List.forall_mem_cons.2 ⟨qew_ k, (List.forall_mem_nil _)⟩)⟩)⟩)⟩) (List.forall_mem_nil _) ⟨⟨Tryz.f71, (z2_ Tryz.f71), [.tmp 2], (LOn Bool), by kernel_rfl, by kernel_rfl, by kernel_rfl, by kernel_rfl, rfl, by decide, ⟨by kernel_rfl, ?_, ?_⟩, ?_⟩⟩
  · exact zf_ (by kernel_rfl)
  · exact z5_ (by kernel_rfl)
  · rintro m0
    kernel_rfl
def zjo_ (k : Nat) (m0 : Int × Int × Int × List Int) (p1 : Int) (from2 : Int) (to3 : Int) : Option Bool := (zaf_ k m0).bind fun r_1 => (if r_1 = true then (if (decide (m0.1 = p1)) = true then (if (decide (m0.2.1 = to3)) = true then some (decide (m0.2.2.1 = from2)) else some false) else some false) else some false)
def qez_ (k : Nat) : FE := ⟨(.pr (.st (.pr (.int .i64) (.pr (.int .i64) (.pr (.int .i64) (.sl 2 (.int .i64)))))) (.pr (.int .i64) (.pr (.int .i64) (.int .i64)))), 1, .bool, fun x => zjo_ k x.1 x.2.1 x.2.2.1 x.2.2.2⟩
theorem qf0_ (k : Nat) : FnOK Tryz.prog 111 (qez_ k) := by
  refine za_ (tab := [(71, qex_ k)]) (l := []) z4_ z6_ mix (List.forall_mem_cons.2 ⟨qey_ k, (List.forall_mem_nil _)⟩) (List.forall_mem_nil _) ⟨⟨Tryz.f111, (z2_ Tryz.f111), [.tmp 8], (LOn Bool), by kernel_rfl, by kernel_rfl, by kernel_rfl, by kernel_rfl, rfl, by decide, ⟨by kernel_rfl, ?_, ?_⟩, ?_⟩⟩
  · exact zf_ (by kernel_rfl)
  · exact z5_ (by kernel_rfl)
  · rintro ⟨m0, p1, from2, to3⟩
    kernel_rfl
def zag_ (k : Nat) : Nat → Int → Int → (List (Int × Int × Int)) → (List (List Int) × Int × List Int × List (Int × Int × Int × List Int)) → ((List (Int × Int × Int)) → (List (List Int) × Int × List Int × List (Int × Int × Int × List Int)) → Option Bool) → Option Bool
  | 0, _, _, _, _, _ => none
  | n + 1, x28, x29, q_5, v_1, e_0 => (if (decide (x29 < x28)) = true then (if 0 ≤ x29 ∧ x29.toNat < List.length q_5 then (q_5[x29.toNat]?).bind fun y_6 => (if (decide ((List.length v_1.2.2.2 : Int) ≤ x29)) = true then some false else (if 0 ≤ x29 then (v_1.2.2.2[x29.toNat]?).bind fun y_7 => (if 0 ≤ y_6.2.2 then (v_1.2.2.1[y_6.2.2.toNat]?).bind fun y_8 => (if 0 ≤ y_6.1 then (v_1.2.2.1[y_6.1.toNat]?).bind fun y_9 => (zjo_ k y_7 v_1.2.1 y_8 y_9).bind fun r_10 => (if (!r_10) = true then some false else zag_ k n x28 (z0_ (x29 + 1)) q_5 v_1 e_0) else none) else none) else none)) else none) else e_0 q_5 v_1)
def zgk_ (k : Nat) (s0 : List (List Int) × Int × List Int × List (Int × Int × Int × List Int)) : Option Bool := (zcj_ k s0.1).bind fun r_1 => (if (!r_1) = true then some false else (za8_ k s0.2.1).bind fun r_2 => (if (!r_2) = true then some false else (zgh_ k s0.1 s0.2.2.1).bind fun r_3 => (if (!r_3) = true then some false else (zcm_ k s0.1).bind fun r_4 => zag_ k k (List.length r_4 : Int) 0 r_4 s0 (fun q_11 v_12 => some (decide ((List.length q_11 : Int) = (List.length v_12.2.2.2 : Int)))))))
def qf1_ : Head := ⟨[(1, (.bp 1 [] 0)), (3, (.ref 64000000 [])), (27, (.ref 64000000 [])), (28, (.val (.int .i64))), (29, (.val (.int .i64)))], [(64000000, 173, (.st (.pr (.int .i64) (.pr (.int .i64) (.int .i64)))), false)], [(1, 47, (.val (.st (.pr (.st (.sl 25 (.sl 2 (.int .i64)))) (.pr (.int .i64) (.pr (.sl 2 (.int .i64)) (.sl 51 (.st (.pr (.int .i64) (.pr (.int .i64) (.pr (.int .i64) (.sl 2 (.int .i64)))))))))))))]⟩
def qf2_ : Head := ⟨[(1, (.bp 1 [] 0)), (3, (.ref 64000000 []))], [(64000000, 173, (.st (.pr (.int .i64) (.pr (.int .i64) (.int .i64)))), false)], [(1, 47, (.val (.st (.pr (.st (.sl 25 (.sl 2 (.int .i64)))) (.pr (.int .i64) (.pr (.sl 2 (.int .i64)) (.sl 51 (.st (.pr (.int .i64) (.pr (.int .i64) (.pr (.int .i64) (.sl 2 (.int .i64)))))))))))))]⟩
def qf3_ (k n : Nat) (x : qf1_.T) (kx : Nat → St → Option Bool) : Option Bool := zag_ k n x.1.2.2.2.1 x.1.2.2.2.2.1 x.2.1.1 x.2.2.1 (fun (q_11 : List (Int × Int × Int)) (v_1 : List (List Int) × Int × List Int × List (Int × Int × Int × List Int)) => kx 0 (qf2_.fill (((), (), ()), (q_11, ()), (v_1, ()))))
def qf4_ (k : Nat) : Oracles Bool := ⟨fun n => bif Nat.beq n 5 then some (fun σ kx => qf1_.get σ fun x => qf3_ k k x kx) else none, fun _ => none⟩
def qf5_ (k : Nat) : FE := ⟨(.st (.pr (.st (.sl 25 (.sl 2 (.int .i64)))) (.pr (.int .i64) (.pr (.sl 2 (.int .i64)) (.sl 51 (.st (.pr (.int .i64) (.pr (.int .i64) (.pr (.int .i64) (.sl 2 (.int .i64))))))))))), 1, .bool, fun x => zgk_ k x⟩
theorem qf6_ (k : Nat) : zd_ (z3_ ti [(107, qco_ k), (108, qcv_ k), (109, qdt_ k), (110, qec_ k), (111, qez_ k)] (lk []) z7_ z8_) (qf4_ k) (rdC (z3_ ti [(107, qco_ k), (108, qcv_ k), (109, qdt_ k), (110, qec_ k), (111, qez_ k)] (lk []) z7_ z8_) [.tmp 2] .bool) ((zc_ (z2_ Tryz.f69)).getD 0 .skip) (fun σ kx => qf1_.get σ fun x => qf3_ k k x kx) := by
  refine ⟨qf1_, [(0, qf2_)], fun n x kx => qf3_ k n x kx, k, by kernel_rfl, by kernel_rfl, fun x kx => by kernel_rfl, ?_, fun σ kx => rfl⟩
  rintro n ⟨⟨⟨⟩, ⟨⟩, ⟨⟩, x28, x29, ⟨⟩⟩, ⟨q_5, ⟨⟩⟩, ⟨v_1, ⟨⟩⟩⟩ kx
  kernel_rfl
theorem qf7_ (k : Nat) : FnOK Tryz.prog 69 (qf5_ k) := by
  refine za_ (tab := [(107, qco_ k), (108, qcv_ k), (109, qdt_ k), (110, qec_ k), (111, qez_ k)]) (l := []) z4_ z6_ mix (List.forall_mem_cons.2 ⟨qcq_ k, (List.forall_mem_cons.2 ⟨qcx_ k, (List.forall_mem_cons.2 ⟨qdv_ k, (List.forall_mem_cons.2 ⟨qef_ k, (List.forall_mem_cons.2 ⟨qf0_ k, (List.forall_mem_nil _)⟩)⟩)⟩)⟩)⟩) (List.forall_mem_nil _) ⟨⟨Tryz.f69, (z2_ Tryz.f69), [.tmp 2], (qf4_ k), by kernel_rfl, by kernel_rfl, by kernel_rfl, by kernel_rfl, rfl, by decide, ⟨by kernel_rfl, ?_, ?_⟩, ?_⟩⟩
  · refine zi_ (n := 1) (by kernel_rfl) fun i hi => ?_
    match i, hi with
    | 0, _ => exact ze_ (by kernel_rfl) (qf6_ k)
    | n + 1, hi => omega
  · exact z5_ (by kernel_rfl)
  · rintro s0
    kernel_rfl
def zgl_ (k : Nat) (a0 : Int × Int × Int) (b1 : Int × Int × Int) : Option Int := (za4_ a0.1 b1.1).bind fun r_1 => (za4_ a0.2.1 b1.2.1).bind fun r_2 => (zgb_ k [r_1, r_2]).bind fun r_3 => some r_3
def qf8_ (k : Nat) : FE := ⟨(.pr (.st (.pr (.int .i64) (.pr (.int .i64) (.int .i64)))) (.st (.pr (.int .i64) (.pr (.int .i64) (.int .i64))))), 1, (.int .i64), fun x => zgl_ k x.1 x.2⟩
theorem qf9_ (k : Nat) : FnOK Tryz.prog 113 (qf8_ k) := by
  refine za_ (tab := [(153, qay_), (152, qbb_ k)]) (l := []) z4_ z6_ mix (List.forall_mem_cons.2 ⟨qaz_, (List.forall_mem_cons.2 ⟨qbd_ k, (List.forall_mem_nil _)⟩)⟩) (List.forall_mem_nil _) ⟨⟨Tryz.f113, (z2_ Tryz.f113), [.tmp 4], (LOn Int), by kernel_rfl, by kernel_rfl, by kernel_rfl, by kernel_rfl, rfl, by decide, ⟨by kernel_rfl, ?_, ?_⟩, ?_⟩⟩
  · exact zf_ (by kernel_rfl)
  · exact z5_ (by kernel_rfl)
  · rintro ⟨a0, b1⟩
    kernel_rfl
def z7t_ (k : Nat) : Nat → (List (Int × Int × Int)) → Int → Int → (Int × List (Int × Int × Int)) → ((Int × List (Int × Int × Int)) → Option Bool) → Option Bool
  | 0, _, _, _, _, _ => none
  | n + 1, x6, x7, x8, v_1, e_0 => (if (decide (x8 < x7)) = true then (if 0 ≤ x8 then (x6[x8.toNat]?).bind fun y_1 => (if (decide (y_1.1 < 0)) = true then some false else (if (decide (y_1.2.1 ≤ y_1.1)) = true then some false else (if (decide (v_1.1 ≤ y_1.2.1)) = true then some false else (z32_ y_1.2.2 1 9).bind fun r_2 => (if (!r_2) = true then some false else (if (decide (0 < x8)) = true then (if 0 ≤ (z0_ (x8 - 1)) then (v_1.2[(z0_ (x8 - 1)).toNat]?).bind fun y_3 => (zgl_ k y_3 y_1).bind fun r_4 => (if (decide (0 ≤ r_4)) = true then some false else z7t_ k n x6 x7 (z0_ (x8 + 1)) v_1 e_0) else none) else z7t_ k n x6 x7 (z0_ (x8 + 1)) v_1 e_0))))) else none) else e_0 v_1)
def zgm_ (k : Nat) (g0 : Int × List (Int × Int × Int)) : Option Bool := z7t_ k k g0.2 (List.length g0.2 : Int) 0 g0 (fun v_5 => (z32_ v_5.1 1 12).bind fun r_6 => (if r_6 = true then some (decide ((List.length v_5.2 : Int) ≤ 24)) else some false))
def qfa_ : Head := ⟨[(1, (.bp 1 [] 0)), (6, (.val (.sl 157 (.st (.pr (.int .i64) (.pr (.int .i64) (.int .i64))))))), (7, (.val (.int .i64))), (8, (.val (.int .i64)))], [], [(1, 50, (.val (.st (.pr (.int .i64) (.sl 157 (.st (.pr (.int .i64) (.pr (.int .i64) (.int .i64)))))))))]⟩
def qfb_ : Head := ⟨[(1, (.bp 1 [] 0))], [], [(1, 50, (.val (.st (.pr (.int .i64) (.sl 157 (.st (.pr (.int .i64) (.pr (.int .i64) (.int .i64)))))))))]⟩
def qfc_ (k n : Nat) (x : qfa_.T) (kx : Nat → St → Option Bool) : Option Bool := z7t_ k n x.1.2.1 x.1.2.2.1 x.1.2.2.2.1 x.2.2.1 (fun (v_1 : Int × List (Int × Int × Int)) => kx 0 (qfb_.fill (((), ()), (), (v_1, ()))))
def qfd_ (k : Nat) : Oracles Bool := ⟨fun n => bif Nat.beq n 2 then some (fun σ kx => qfa_.get σ fun x => qfc_ k k x kx) else none, fun _ => none⟩
def qfe_ (k : Nat) : FE := ⟨(.st (.pr (.int .i64) (.sl 157 (.st (.pr (.int .i64) (.pr (.int .i64) (.int .i64))))))), 1, .bool, fun x => zgm_ k x⟩
theorem qff_ (k : Nat) : zd_ (z3_ ti [(112, qab_), (113, qf8_ k)] (lk []) z7_ z8_) (qfd_ k) (rdC (z3_ ti [(112, qab_), (113, qf8_ k)] (lk []) z7_ z8_) [.tmp 2] .bool) ((zc_ (z2_ Tryz.f70)).getD 0 .skip) (fun σ kx => qfa_.get σ fun x => qfc_ k k x kx) := by
  refine ⟨qfa_, [(0, qfb_)], fun n x kx => qfc_ k n x kx, k, by kernel_rfl, by kernel_rfl, fun x kx => by kernel_rfl, ?_, fun σ kx => rfl⟩
  rintro n ⟨⟨⟨⟩, x6, x7, x8, ⟨⟩⟩, ⟨⟩, ⟨v_1, ⟨⟩⟩⟩ kx
  kernel_rfl
theorem qfg_ (k : Nat) : FnOK Tryz.prog 70 (qfe_ k) := by
  refine za_ (tab := [(112, qab_), (113, qf8_ k)]) (l := []) z4_ z6_ mix (List.forall_mem_cons.2 ⟨qac_, (List.forall_mem_cons.2 ⟨qf9_ k, (List.forall_mem_nil _)⟩)⟩) (List.forall_mem_nil _) ⟨⟨Tryz.f70, (z2_ Tryz.f70), [.tmp 2], (qfd_ k), by kernel_rfl, by kernel_rfl, by kernel_rfl, by kernel_rfl, rfl, by decide, ⟨by kernel_rfl, ?_, ?_⟩, ?_⟩⟩
  · refine zi_ (n := 1) (by kernel_rfl) fun i hi => ?_
    match i, hi with
    | 0, _ => exact ze_ (by kernel_rfl) (qff_ k)
    | n + 1, hi => omega
  · exact z5_ (by kernel_rfl)
  · rintro g0
    kernel_rfl
end
end Go.Proofs.YtckbclbmkklaoaaGreatDoor.Ev
