/- Functions of the program, as plain ones. No conditions. -/
import Derived.Test.YtibiofjkgdidmaaGreatDoorG8
import Derived.KernelRfl
set_option linter.unusedVariables false
set_option maxRecDepth 100000
namespace Go.Proofs.YtibiofjkgdidmaaGreatDoor.Ev
open Go.RowKit
noncomputable section
def z7o_ (k : Nat) : Nat → Int → ((Int × Int × Int × List Int) × List (List Int)) → Int → Int → Int → Int → Int → (List Int) → (List Int) → Int → Int → Int → Int → Int → Int → (Int → ((Int × Int × Int × List Int) × List (List Int)) → Int → Int → (List Int) → (List Int) → Int → Int → Int → Int → Int → Int → Option (Int × Int × Int × List Int)) → Option (Int × Int × Int × List Int)
  | 0, _, _, _, _, _, _, _, _, _, _, _, _, _, _, _, _ => none
  | n + 1, columns2, cell3, i10, x16, x17, x20, x21, q_3, q_4, v_8a, v_8ba, v_8bba, v_9a, v_9ba, v_9bba, e_2 => (if (decide (x21 < x20)) = true then (zge_ k i10 x21 cell3.1 cell3.2).bind fun r_5 => (if (q_4.length + [r_5].length) * 8 ≤ LIM then z7o_ k n columns2 cell3 i10 x16 x17 x20 (z0_ (x21 + 1)) q_3 (q_4 ++ [r_5]) v_8a v_8ba v_8bba v_9a v_9ba v_9bba e_2 else none) else e_2 columns2 cell3 x16 x17 q_3 q_4 v_8a v_8ba v_8bba v_9a v_9ba v_9bba)
def z7p_ (k : Nat) : Nat → Int → ((Int × Int × Int × List Int) × List (List Int)) → Int → Int → (List Int) → (List Int) → Int → Int → Int → Int → Int → Int → ((List Int) → (List Int) → Int → Int → Int → Int → Int → Int → Option (Int × Int × Int × List Int)) → Option (Int × Int × Int × List Int)
  | 0, _, _, _, _, _, _, _, _, _, _, _, _, _ => none
  | n + 1, columns2, cell3, x16, x17, q_1, q_2, v_8a, v_8ba, v_8bba, v_9a, v_9ba, v_9bba, e_0 => (if (decide (x17 < x16)) = true then z7o_ k k columns2 cell3 x17 x16 x17 columns2 0 q_1 q_2 v_8a v_8ba v_8bba v_9a v_9ba v_9bba (fun columns_3 cell_4 x_5 x_6 q_7 q_8 v_8a_9 v_8ba_10 v_8bba_11 v_9a_12 v_9ba_13 v_9bba_14 => z7p_ k n columns_3 cell_4 x_5 (z0_ (x_6 + 1)) q_7 q_8 v_8a_9 v_8ba_10 v_8bba_11 v_9a_12 v_9ba_13 v_9bba_14 e_0) else e_0 q_1 q_2 v_8a v_8ba v_8bba v_9a v_9ba v_9bba)
def zjr_ (k : Nat) (p0 : Int) (rows1 : Int) (columns2 : Int) (cell3 : (Int × Int × Int × List Int) × List (List Int)) : Option (Int × Int × Int × List Int) := z7p_ k k columns2 cell3 rows1 0 [] [] 0 0 0 p0 rows1 columns2 (fun q_15 q_16 v_8a_17 v_8ba_18 v_8bba_19 v_9a_20 v_9ba_21 v_9bba_22 => some (v_9a_20, (v_9ba_21, (v_9bba_22, q_16))))
def qhe_ : Head := ⟨[(2, (.val (.int .i64))), (3, (.val (.fn 156 (.pr (.ptr (.st (.pr (.int .i64) (.pr (.int .i64) (.pr (.int .i64) (.sl 2 (.int .i64))))))) (.ptr (.sl 68 (.sl 2 (.int .i64)))))))), (8, (.bp 8 [] 0)), (9, (.bp 9 [] 0)), (10, (.val (.int .i64))), (16, (.val (.int .i64))), (17, (.val (.int .i64))), (20, (.val (.int .i64))), (21, (.val (.int .i64)))], [(64000000, 2, (.int .i64), false), (64000001, 2, (.int .i64), false)], [(8, 147, (.st (.pr (.val (.int .i64)) (.pr (.val (.int .i64)) (.pr (.val (.int .i64)) (.ref 64000000 [])))))), (9, 147, (.st (.pr (.val (.int .i64)) (.pr (.val (.int .i64)) (.pr (.val (.int .i64)) (.ref 64000001 []))))))]⟩
def qhf_ : Head := ⟨[(2, (.val (.int .i64))), (3, (.val (.fn 156 (.pr (.ptr (.st (.pr (.int .i64) (.pr (.int .i64) (.pr (.int .i64) (.sl 2 (.int .i64))))))) (.ptr (.sl 68 (.sl 2 (.int .i64)))))))), (8, (.bp 8 [] 0)), (9, (.bp 9 [] 0)), (16, (.val (.int .i64))), (17, (.val (.int .i64)))], [(64000000, 2, (.int .i64), false), (64000001, 2, (.int .i64), false)], [(8, 147, (.st (.pr (.val (.int .i64)) (.pr (.val (.int .i64)) (.pr (.val (.int .i64)) (.ref 64000000 [])))))), (9, 147, (.st (.pr (.val (.int .i64)) (.pr (.val (.int .i64)) (.pr (.val (.int .i64)) (.ref 64000001 []))))))]⟩
def qhg_ (k n : Nat) (x : qhe_.T) (kx : Nat → St → Option (Int × Int × Int × List Int)) : Option (Int × Int × Int × List Int) := z7o_ k n x.1.1 x.1.2.1 x.1.2.2.2.2.1 x.1.2.2.2.2.2.1 x.1.2.2.2.2.2.2.1 x.1.2.2.2.2.2.2.2.1 x.1.2.2.2.2.2.2.2.2.1 x.2.1.1 x.2.1.2.1 x.2.2.1.1 x.2.2.1.2.1 x.2.2.1.2.2.1 x.2.2.2.1.1 x.2.2.2.1.2.1 x.2.2.2.1.2.2.1 (fun (columns2 : Int) (cell3 : (Int × Int × Int × List Int) × List (List Int)) (x16 : Int) (x17 : Int) (q_6 : List Int) (q_7 : List Int) (v_8a : Int) (v_8ba : Int) (v_8bba : Int) (v_9a : Int) (v_9ba : Int) (v_9bba : Int) => kx 2 (qhf_.fill ((columns2, cell3, (), (), x16, x17, ()), (q_6, q_7, ()), ((v_8a, (v_8ba, (v_8bba, ()))), (v_9a, (v_9ba, (v_9bba, ()))), ()))))
def qhh_ : Head := ⟨[(2, (.val (.int .i64))), (3, (.val (.fn 156 (.pr (.ptr (.st (.pr (.int .i64) (.pr (.int .i64) (.pr (.int .i64) (.sl 2 (.int .i64))))))) (.ptr (.sl 68 (.sl 2 (.int .i64)))))))), (8, (.bp 8 [] 0)), (9, (.bp 9 [] 0)), (16, (.val (.int .i64))), (17, (.val (.int .i64)))], [(64000000, 2, (.int .i64), false), (64000001, 2, (.int .i64), false)], [(8, 147, (.st (.pr (.val (.int .i64)) (.pr (.val (.int .i64)) (.pr (.val (.int .i64)) (.ref 64000000 [])))))), (9, 147, (.st (.pr (.val (.int .i64)) (.pr (.val (.int .i64)) (.pr (.val (.int .i64)) (.ref 64000001 []))))))]⟩
def qhi_ : Head := ⟨[(8, (.bp 8 [] 0)), (9, (.bp 9 [] 0))], [(64000000, 2, (.int .i64), false), (64000001, 2, (.int .i64), false)], [(8, 147, (.st (.pr (.val (.int .i64)) (.pr (.val (.int .i64)) (.pr (.val (.int .i64)) (.ref 64000000 [])))))), (9, 147, (.st (.pr (.val (.int .i64)) (.pr (.val (.int .i64)) (.pr (.val (.int .i64)) (.ref 64000001 []))))))]⟩
def qhj_ (k n : Nat) (x : qhh_.T) (kx : Nat → St → Option (Int × Int × Int × List Int)) : Option (Int × Int × Int × List Int) := z7p_ k n x.1.1 x.1.2.1 x.1.2.2.2.2.1 x.1.2.2.2.2.2.1 x.2.1.1 x.2.1.2.1 x.2.2.1.1 x.2.2.1.2.1 x.2.2.1.2.2.1 x.2.2.2.1.1 x.2.2.2.1.2.1 x.2.2.2.1.2.2.1 (fun (q_18 : List Int) (q_19 : List Int) (v_8a : Int) (v_8ba : Int) (v_8bba : Int) (v_9a : Int) (v_9ba : Int) (v_9bba : Int) => kx 0 (qhi_.fill (((), (), ()), (q_18, q_19, ()), ((v_8a, (v_8ba, (v_8bba, ()))), (v_9a, (v_9ba, (v_9bba, ()))), ()))))
def qhk_ (k : Nat) : Oracles (Int × Int × Int × List Int) := ⟨fun n => bif Nat.beq n 6 then some (fun σ kx => qhe_.get σ fun x => qhg_ k k x kx) else bif Nat.beq n 3 then some (fun σ kx => qhh_.get σ fun x => qhj_ k k x kx) else none, fun _ => none⟩
def qhl_ (k : Nat) : FE := ⟨(.pr (.int .i64) (.pr (.int .i64) (.pr (.int .i64) (.fn 156 (.pr (.ptr (.st (.pr (.int .i64) (.pr (.int .i64) (.pr (.int .i64) (.sl 2 (.int .i64))))))) (.ptr (.sl 68 (.sl 2 (.int .i64))))))))), 1, (.st (.pr (.int .i64) (.pr (.int .i64) (.pr (.int .i64) (.sl 2 (.int .i64)))))), fun x => zjr_ k x.1 x.2.1 x.2.2.1 x.2.2.2⟩
theorem qhm_ (k : Nat) : zc_ (z3_ ti [(156, qhc_ k)] (lk []) z4_ z5_) (qhk_ k) (rdC (z3_ ti [(156, qhc_ k)] (lk []) z4_ z5_) [.cell 8 147] (.st (.pr (.int .i64) (.pr (.int .i64) (.pr (.int .i64) (.sl 2 (.int .i64))))))) ((zb_ (z2_ Tryz.f155)).getD 1 .skip) (fun σ kx => qhe_.get σ fun x => qhg_ k k x kx) := by
  refine ⟨qhe_, [(2, qhf_)], fun n x kx => qhg_ k n x kx, k, by kernel_rfl, by kernel_rfl, fun x kx => by kernel_rfl, ?_, fun σ kx => rfl⟩
  rintro n ⟨⟨columns2, cell3, ⟨⟩, ⟨⟩, i10, x16, x17, x20, x21, ⟨⟩⟩, ⟨q_3, q_4, ⟨⟩⟩, ⟨⟨v_8a, ⟨v_8ba, ⟨v_8bba, ⟨⟩⟩⟩⟩, ⟨v_9a, ⟨v_9ba, ⟨v_9bba, ⟨⟩⟩⟩⟩, ⟨⟩⟩⟩ kx
  kernel_rfl
theorem qhn_ (k : Nat) : zc_ (z3_ ti [(156, qhc_ k)] (lk []) z4_ z5_) (qhk_ k) (rdC (z3_ ti [(156, qhc_ k)] (lk []) z4_ z5_) [.cell 8 147] (.st (.pr (.int .i64) (.pr (.int .i64) (.pr (.int .i64) (.sl 2 (.int .i64))))))) ((zb_ (z2_ Tryz.f155)).getD 0 .skip) (fun σ kx => qhh_.get σ fun x => qhj_ k k x kx) := by
  refine ⟨qhh_, [(0, qhi_)], fun n x kx => qhj_ k n x kx, k, by kernel_rfl, by kernel_rfl, fun x kx => by kernel_rfl, ?_, fun σ kx => rfl⟩
  rintro n ⟨⟨columns2, cell3, ⟨⟩, ⟨⟩, x16, x17, ⟨⟩⟩, ⟨q_1, q_2, ⟨⟩⟩, ⟨⟨v_8a, ⟨v_8ba, ⟨v_8bba, ⟨⟩⟩⟩⟩, ⟨v_9a, ⟨v_9ba, ⟨v_9bba, ⟨⟩⟩⟩⟩, ⟨⟩⟩⟩ kx
  kernel_rfl
theorem qho_ (k : Nat) : FnOK Tryz.prog 155 (qhl_ k) := by
  refine za_ (tab := [(156, qhc_ k)]) (l := []) z6_ z9_ mix (List.forall_mem_cons.2 ⟨qhd_ k, (List.forall_mem_nil _)⟩) (List.forall_mem_nil _) ⟨⟨Tryz.f155, (z2_ Tryz.f155), [.cell 8 147], (qhk_ k), by kernel_rfl, by kernel_rfl, by kernel_rfl, by kernel_rfl, rfl, by decide, ⟨by kernel_rfl, ?_, ?_⟩, ?_⟩⟩
  · refine zf_ (n := 2) (by kernel_rfl) fun i hi => ?_
    match i, hi with
    | 0, _ => exact zd_ (by kernel_rfl) (qhn_ k)
    | 1, _ => exact zd_ (by kernel_rfl) (qhm_ k)
    | n + 2, hi => omega
  · exact z8_ (by kernel_rfl)
  · rintro ⟨p0, rows1, columns2, cell3⟩
    kernel_rfl
def zai_ (k : Nat) (a0 : Int × Int × Int × List Int) (b1 : Int × Int × Int × List Int) : Option (Int × Int × Int × List Int) := (zjq_ k b1).bind fun r_1 => (zjr_ k a0.1 a0.2.1 b1.2.2.1 (a0, r_1)).bind fun r_2 => some (r_2.1, (r_2.2.1, (r_2.2.2.1, r_2.2.2.2)))
def qhp_ (k : Nat) : FE := ⟨(.pr (.st (.pr (.int .i64) (.pr (.int .i64) (.pr (.int .i64) (.sl 2 (.int .i64)))))) (.st (.pr (.int .i64) (.pr (.int .i64) (.pr (.int .i64) (.sl 2 (.int .i64))))))), 1, (.st (.pr (.int .i64) (.pr (.int .i64) (.pr (.int .i64) (.sl 2 (.int .i64)))))), fun x => zai_ k x.1 x.2⟩
theorem qhq_ (k : Nat) : FnOK Tryz.prog 126 (qhp_ k) := by
  refine za_ (tab := [(154, qh3_ k), (155, qhl_ k)]) (l := []) z6_ z9_ mix (List.forall_mem_cons.2 ⟨qh4_ k, (List.forall_mem_cons.2 ⟨qho_ k, (List.forall_mem_nil _)⟩)⟩) (List.forall_mem_nil _) ⟨⟨Tryz.f126, (z2_ Tryz.f126), [.cell 4 147], (LOn (Int × Int × Int × List Int)), by kernel_rfl, by kernel_rfl, by kernel_rfl, by kernel_rfl, rfl, by decide, ⟨by kernel_rfl, ?_, ?_⟩, ?_⟩⟩
  · exact zh_ (by kernel_rfl)
  · exact z8_ (by kernel_rfl)
  · rintro ⟨a0, b1⟩
    kernel_rfl
def z7q_ (k : Nat) : Nat → (List Int) → (List Int) → Int → Int → (Option Bool) → Option Bool
  | 0, _, _, _, _, _ => none
  | n + 1, s10, s21, x12, x13, e_0 => (if (decide (x13 < x12)) = true then (if 0 ≤ x13 then (s10[x13.toNat]?).bind fun y_1 => (if 0 ≤ x13 then (s21[x13.toNat]?).bind fun y_2 => (if (!(decide (y_1 = y_2))) = true then some false else z7q_ k n s10 s21 x12 (z0_ (x13 + 1)) e_0) else none) else none) else e_0)
def zjs_ (k : Nat) (s10 : List Int) (s21 : List Int) : Option Bool := (if (!(decide ((List.length s10 : Int) = (List.length s21 : Int)))) = true then some false else z7q_ k k s10 s21 (List.length s10 : Int) 0 (some true))
def qhr_ : Head := ⟨[(0, (.val (.sl 2 (.int .i64)))), (1, (.val (.sl 2 (.int .i64)))), (12, (.val (.int .i64))), (13, (.val (.int .i64)))], [], []⟩
def qhs_ : Head := ⟨[], [], []⟩
def qht_ (k n : Nat) (x : qhr_.T) (kx : Nat → St → Option Bool) : Option Bool := z7q_ k n x.1.1 x.1.2.1 x.1.2.2.1 x.1.2.2.2.1 (kx 0 (qhs_.fill ((), (), ())))
def qhu_ (k : Nat) : Oracles Bool := ⟨fun n => bif Nat.beq n 4 then some (fun σ kx => qhr_.get σ fun x => qht_ k k x kx) else none, fun _ => none⟩
def qhv_ (k : Nat) : FE := ⟨(.pr (.sl 2 (.int .i64)) (.sl 2 (.int .i64))), 1, .bool, fun x => zjs_ k x.1 x.2⟩
theorem qhw_ (k : Nat) : zc_ (z3_ ti [] (lk []) z4_ z5_) (qhu_ k) (rdC (z3_ ti [] (lk []) z4_ z5_) [.tmp 4] .bool) ((zb_ (z2_ Tryz.f160)).getD 0 .skip) (fun σ kx => qhr_.get σ fun x => qht_ k k x kx) := by
  refine ⟨qhr_, [(0, qhs_)], fun n x kx => qht_ k n x kx, k, by kernel_rfl, by kernel_rfl, fun x kx => by kernel_rfl, ?_, fun σ kx => rfl⟩
  rintro n ⟨⟨s10, s21, x12, x13, ⟨⟩⟩, ⟨⟩, ⟨⟩⟩ kx
  kernel_rfl
theorem qhx_ (k : Nat) : FnOK Tryz.prog 160 (qhv_ k) := by
  refine za_ (tab := []) (l := []) z6_ z9_ mix (List.forall_mem_nil _) (List.forall_mem_nil _) ⟨⟨Tryz.f160, (z2_ Tryz.f160), [.tmp 4], (qhu_ k), by kernel_rfl, by kernel_rfl, by kernel_rfl, by kernel_rfl, rfl, by decide, ⟨by kernel_rfl, ?_, ?_⟩, ?_⟩⟩
  · refine zf_ (n := 1) (by kernel_rfl) fun i hi => ?_
    match i, hi with
    | 0, _ => exact zd_ (by kernel_rfl) (qhw_ k)
    | n + 1, hi => omega
  · exact z8_ (by kernel_rfl)
  · rintro ⟨s10, s21⟩
    kernel_rfl
def zgf_ (k : Nat) (a0 : Int × Int × Int × List Int) (b1 : Int × Int × Int × List Int) : Option Bool := (if (decide (a0.1 = b1.1)) = true then (if (decide (a0.2.1 = b1.2.1)) = true then (if (decide (a0.2.2.1 = b1.2.2.1)) = true then (zjs_ k a0.2.2.2 b1.2.2.2).bind fun r_1 => some r_1 else some false) else some false) else some false)
def qhy_ (k : Nat) : FE := ⟨(.pr (.st (.pr (.int .i64) (.pr (.int .i64) (.pr (.int .i64) (.sl 2 (.int .i64)))))) (.st (.pr (.int .i64) (.pr (.int .i64) (.pr (.int .i64) (.sl 2 (.int .i64))))))), 1, .bool, fun x => zgf_ k x.1 x.2⟩
theorem qhz_ (k : Nat) : FnOK Tryz.prog 128 (qhy_ k) := by
  refine za_ (tab := [(160, qhv_ k)]) (l := []) z6_ z9_ mix (List.forall_mem_cons.2 ⟨qhx_ k, (List.forall_mem_nil _)⟩) (List.forall_mem_nil _) ⟨⟨Tryz.f128, (z2_ Tryz.f128), [.tmp 4], (LOn Bool), by kernel_rfl, by kernel_rfl, by kernel_rfl, by kernel_rfl, rfl, by decide, ⟨by kernel_rfl, ?_, ?_⟩, ?_⟩⟩
  · exact zh_ (by kernel_rfl)
  · exact z8_ (by kernel_rfl)
  · rintro ⟨a0, b1⟩
    kernel_rfl
def z34_ (k : Nat) : Nat → (List Int) → Int → Int → Int → zT4 → Int → Int → Int → Int → (List Int) → zT2 → ((List Int) → Int → zT4 → Int → Int → Int → Int → (List Int) → zT2 → Option (Int × Int × Bool)) → Option (Int × Int × Bool)
  | 0, _, _, _, _, _, _, _, _, _, _, _, _ => none
  | n + 1, t6, simplex7, i9, j10, x15, x16, x17, x31, x32, q_4, v_1, e_4 => (if (decide (j10 < (List.length t6 : Int))) = true then (z58_ k v_1 simplex7 i9).bind fun r_5 => (if 0 ≤ i9 ∧ i9.toNat < List.length q_4 then (q_4[i9.toNat]?).bind fun y_6 => (z58_ k v_1 y_6 (z0_ (j10 - 1))).bind fun r_7 => (zai_ k r_5 r_7).bind fun r_8 => (z58_ k v_1 simplex7 j10).bind fun r_9 => (if 0 ≤ j10 ∧ j10.toNat < List.length q_4 then (q_4[j10.toNat]?).bind fun y_10 => (z58_ k v_1 y_10 i9).bind fun r_11 => (zai_ k r_9 r_11).bind fun r_12 => (zgf_ k (r_8.1, (r_8.2.1, (r_8.2.2.1, r_8.2.2.2))) (r_12.1, (r_12.2.1, (r_12.2.2.1, r_12.2.2.2)))).bind fun r_13 => (if (!r_13) = true then (if 0 ≤ i9 ∧ i9.toNat < List.length q_4 then (q_4[i9.toNat]?).bind fun y_14 => (z7j_ k v_1.1 y_14).bind fun r_15 => (if 0 ≤ (z0_ (j10 - 1)) ∧ (z0_ (j10 - 1)).toNat < List.length r_15 then (r_15[(z0_ (j10 - 1)).toNat]?).bind fun y_16 => some (simplex7, y_16, true) else none) else none) else z34_ k n t6 simplex7 i9 (z0_ (j10 + 1)) x15 x16 x17 x31 x32 q_4 v_1 e_4) else none) else none) else e_4 t6 simplex7 x15 x16 x17 x31 x32 q_4 v_1)
def z48_ (k : Nat) : Nat → (List Int) → Int → zT4 → Int → Int → Int → Int → (List Int) → zT2 → (zT4 → Int → Int → zT2 → Option (Int × Int × Bool)) → Option (Int × Int × Bool)
  | 0, _, _, _, _, _, _, _, _, _, _ => none
  | n + 1, t6, simplex7, x15, x16, x17, x31, x32, q_3, v_1, e_2 => (if (decide (x32 < x31)) = true then z34_ k k t6 simplex7 x32 (z0_ (x32 + 1)) x15 x16 x17 x31 x32 q_3 v_1 (fun t_4 simplex_5 x_6 x_7 x_8 x_9 x_10 q_11 v_12 => z48_ k n t_4 simplex_5 x_6 x_7 x_8 x_9 (z0_ (x_10 + 1)) q_11 v_12 e_2) else e_2 x15 x16 x17 v_1)
def z59_ (k : Nat) : Nat → zT4 → Int → Int → zT2 → (Option (Int × Int × Bool)) → Option (Int × Int × Bool)
  | 0, _, _, _, _, _ => none
  | n + 1, x15, x16, x17, v_1, e_0 => (if (decide (x17 < x16)) = true then (if 0 ≤ x17 then (x15[x17.toNat]?).bind fun y_1 => (if (decide ((List.length y_1 : Int) < 3)) = true then z59_ k n x15 x16 (z0_ (x17 + 1)) v_1 e_0 else (z7j_ k v_1.1 x17).bind fun r_2 => z48_ k k y_1 x17 x15 x16 x17 (List.length y_1 : Int) 0 r_2 v_1 (fun x_3 x_4 x_5 v_6 => z59_ k n x_3 x_4 (z0_ (x_5 + 1)) v_6 e_0)) else none) else e_0)
def zjt_ (k : Nat) (s0 : List (List Int) × Int × List Int × List (Int × Int × Int × List Int)) : Option (Int × Int × Bool) := z59_ k k s0.1 (List.length s0.1 : Int) 0 s0 (some (0, 0, false))
def qi0_ : Head := ⟨[(1, (.bp 1 [] 0)), (6, (.val (.sl 2 (.int .i64)))), (7, (.val (.int .i64))), (8, (.ref 64000000 [])), (9, (.val (.int .i64))), (10, (.val (.int .i64))), (15, (.val (.sl 68 (.sl 2 (.int .i64))))), (16, (.val (.int .i64))), (17, (.val (.int .i64))), (31, (.val (.int .i64))), (32, (.val (.int .i64)))], [(64000000, 2, (.int .i64), false)], [(1, 78, (.val (.st (.pr (.st (.sl 68 (.sl 2 (.int .i64)))) (.pr (.int .i64) (.pr (.sl 2 (.int .i64)) (.sl 147 (.st (.pr (.int .i64) (.pr (.int .i64) (.pr (.int .i64) (.sl 2 (.int .i64)))))))))))))]⟩
def qi1_ : Head := ⟨[(1, (.bp 1 [] 0)), (6, (.val (.sl 2 (.int .i64)))), (7, (.val (.int .i64))), (8, (.ref 64000000 [])), (15, (.val (.sl 68 (.sl 2 (.int .i64))))), (16, (.val (.int .i64))), (17, (.val (.int .i64))), (31, (.val (.int .i64))), (32, (.val (.int .i64)))], [(64000000, 2, (.int .i64), false)], [(1, 78, (.val (.st (.pr (.st (.sl 68 (.sl 2 (.int .i64)))) (.pr (.int .i64) (.pr (.sl 2 (.int .i64)) (.sl 147 (.st (.pr (.int .i64) (.pr (.int .i64) (.pr (.int .i64) (.sl 2 (.int .i64)))))))))))))]⟩
def qi2_ (k n : Nat) (x : qi0_.T) (kx : Nat → St → Option (Int × Int × Bool)) : Option (Int × Int × Bool) := z34_ k n x.1.2.1 x.1.2.2.1 x.1.2.2.2.2.1 x.1.2.2.2.2.2.1 x.1.2.2.2.2.2.2.1 x.1.2.2.2.2.2.2.2.1 x.1.2.2.2.2.2.2.2.2.1 x.1.2.2.2.2.2.2.2.2.2.1 x.1.2.2.2.2.2.2.2.2.2.2.1 x.2.1.1 x.2.2.1 (fun (t6 : List Int) (simplex7 : Int) (x15 : List (List Int)) (x16 : Int) (x17 : Int) (x31 : Int) (x32 : Int) (q_17 : List Int) (v_1 : List (List Int) × Int × List Int × List (Int × Int × Int × List Int)) => kx 4 (qi1_.fill (((), t6, simplex7, (), x15, x16, x17, x31, x32, ()), (q_17, ()), (v_1, ()))))
def qi3_ : Head := ⟨[(1, (.bp 1 [] 0)), (6, (.val (.sl 2 (.int .i64)))), (7, (.val (.int .i64))), (8, (.ref 64000000 [])), (15, (.val (.sl 68 (.sl 2 (.int .i64))))), (16, (.val (.int .i64))), (17, (.val (.int .i64))), (31, (.val (.int .i64))), (32, (.val (.int .i64)))], [(64000000, 2, (.int .i64), false)], [(1, 78, (.val (.st (.pr (.st (.sl 68 (.sl 2 (.int .i64)))) (.pr (.int .i64) (.pr (.sl 2 (.int .i64)) (.sl 147 (.st (.pr (.int .i64) (.pr (.int .i64) (.pr (.int .i64) (.sl 2 (.int .i64)))))))))))))]⟩
def qi4_ : Head := ⟨[(1, (.bp 1 [] 0)), (15, (.val (.sl 68 (.sl 2 (.int .i64))))), (16, (.val (.int .i64))), (17, (.val (.int .i64)))], [], [(1, 78, (.val (.st (.pr (.st (.sl 68 (.sl 2 (.int .i64)))) (.pr (.int .i64) (.pr (.sl 2 (.int .i64)) (.sl 147 (.st (.pr (.int .i64) (.pr (.int .i64) (.pr (.int .i64) (.sl 2 (.int .i64)))))))))))))]⟩
def qi5_ (k n : Nat) (x : qi3_.T) (kx : Nat → St → Option (Int × Int × Bool)) : Option (Int × Int × Bool) := z48_ k n x.1.2.1 x.1.2.2.1 x.1.2.2.2.2.1 x.1.2.2.2.2.2.1 x.1.2.2.2.2.2.2.1 x.1.2.2.2.2.2.2.2.1 x.1.2.2.2.2.2.2.2.2.1 x.2.1.1 x.2.2.1 (fun (x15 : List (List Int)) (x16 : Int) (x17 : Int) (v_1 : List (List Int) × Int × List Int × List (Int × Int × Int × List Int)) => kx 2 (qi4_.fill (((), x15, x16, x17, ()), (), (v_1, ()))))
def qi6_ : Head := ⟨[(1, (.bp 1 [] 0)), (15, (.val (.sl 68 (.sl 2 (.int .i64))))), (16, (.val (.int .i64))), (17, (.val (.int .i64)))], [], [(1, 78, (.val (.st (.pr (.st (.sl 68 (.sl 2 (.int .i64)))) (.pr (.int .i64) (.pr (.sl 2 (.int .i64)) (.sl 147 (.st (.pr (.int .i64) (.pr (.int .i64) (.pr (.int .i64) (.sl 2 (.int .i64)))))))))))))]⟩
def qi7_ : Head := ⟨[], [], []⟩
def qi8_ (k n : Nat) (x : qi6_.T) (kx : Nat → St → Option (Int × Int × Bool)) : Option (Int × Int × Bool) := z59_ k n x.1.2.1 x.1.2.2.1 x.1.2.2.2.1 x.2.2.1 (kx 0 (qi7_.fill ((), (), ())))
def qi9_ (k : Nat) : Oracles (Int × Int × Bool) := ⟨fun n => bif Nat.beq n 11 then some (fun σ kx => qi0_.get σ fun x => qi2_ k k x kx) else bif Nat.beq n 8 then some (fun σ kx => qi3_.get σ fun x => qi5_ k k x kx) else bif Nat.beq n 2 then some (fun σ kx => qi6_.get σ fun x => qi8_ k k x kx) else none, fun _ => none⟩
def qia_ (k : Nat) : FE := ⟨(.st (.pr (.st (.sl 68 (.sl 2 (.int .i64)))) (.pr (.int .i64) (.pr (.sl 2 (.int .i64)) (.sl 147 (.st (.pr (.int .i64) (.pr (.int .i64) (.pr (.int .i64) (.sl 2 (.int .i64))))))))))), 3, (.pr (.int .i64) (.pr (.int .i64) .bool)), fun x => zjt_ k x⟩
theorem qib_ (k : Nat) : zc_ (z3_ ti [(125, qew_ k), (127, qg9_ k), (126, qhp_ k), (128, qhy_ k)] (lk []) z4_ z5_) (qi9_ k) (rdC (z3_ ti [(125, qew_ k), (127, qg9_ k), (126, qhp_ k), (128, qhy_ k)] (lk []) z4_ z5_) [.tmp 2, .tmp 3, .tmp 4] (.pr (.int .i64) (.pr (.int .i64) .bool))) ((zb_ (z2_ Tryz.f82)).getD 2 .skip) (fun σ kx => qi0_.get σ fun x => qi2_ k k x kx) := by
  refine ⟨qi0_, [(4, qi1_)], fun n x kx => qi2_ k n x kx, k, by kernel_rfl, by kernel_rfl, fun x kx => by kernel_rfl, ?_, fun σ kx => rfl⟩
  rintro n ⟨⟨⟨⟩, t6, simplex7, ⟨⟩, i9, j10, x15, x16, x17, x31, x32, ⟨⟩⟩, ⟨q_4, ⟨⟩⟩, ⟨v_1, ⟨⟩⟩⟩ kx
  kernel_rfl
theorem qic_ (k : Nat) : zc_ (z3_ ti [(125, qew_ k), (127, qg9_ k), (126, qhp_ k), (128, qhy_ k)] (lk []) z4_ z5_) (qi9_ k) (rdC (z3_ ti [(125, qew_ k), (127, qg9_ k), (126, qhp_ k), (128, qhy_ k)] (lk []) z4_ z5_) [.tmp 2, .tmp 3, .tmp 4] (.pr (.int .i64) (.pr (.int .i64) .bool))) ((zb_ (z2_ Tryz.f82)).getD 1 .skip) (fun σ kx => qi3_.get σ fun x => qi5_ k k x kx) := by
  refine ⟨qi3_, [(2, qi4_)], fun n x kx => qi5_ k n x kx, k, by kernel_rfl, by kernel_rfl, fun x kx => by kernel_rfl, ?_, fun σ kx => rfl⟩
  rintro n ⟨⟨⟨⟩, t6, simplex7, ⟨⟩, x15, x16, x17, x31, x32, ⟨⟩⟩, ⟨q_3, ⟨⟩⟩, ⟨v_1, ⟨⟩⟩⟩ kx
  kernel_rfl
theorem qid_ (k : Nat) : zc_ (z3_ ti [(125, qew_ k), (127, qg9_ k), (126, qhp_ k), (128, qhy_ k)] (lk []) z4_ z5_) (qi9_ k) (rdC (z3_ ti [(125, qew_ k), (127, qg9_ k), (126, qhp_ k), (128, qhy_ k)] (lk []) z4_ z5_) [.tmp 2, .tmp 3, .tmp 4] (.pr (.int .i64) (.pr (.int .i64) .bool))) ((zb_ (z2_ Tryz.f82)).getD 0 .skip) (fun σ kx => qi6_.get σ fun x => qi8_ k k x kx) := by
  refine ⟨qi6_, [(0, qi7_)], fun n x kx => qi8_ k n x kx, k, by kernel_rfl, by kernel_rfl, fun x kx => by kernel_rfl, ?_, fun σ kx => rfl⟩
  rintro n ⟨⟨⟨⟩, x15, x16, x17, ⟨⟩⟩, ⟨⟩, ⟨v_1, ⟨⟩⟩⟩ kx
  kernel_rfl
theorem qie_ (k : Nat) : FnOK Tryz.prog 82 (qia_ k) := by
  refine za_ (tab := [(125, qew_ k), (127, qg9_ k), (126, qhp_ k), (128, qhy_ k)]) (l := []) z6_ z9_ mix (List.forall_mem_cons.2 ⟨qey_ k, (List.forall_mem_cons.2 ⟨qga_ k, (List.forall_mem_cons.2 ⟨qhq_ k, (List.forall_mem_cons.2 ⟨qhz_ k, (List.forall_mem_nil _)⟩)⟩)⟩)⟩) (List.forall_mem_nil _) ⟨⟨Tryz.f82, (z2_ Tryz.f82), [.tmp 2, .tmp 3, .tmp 4], (qi9_ k), by kernel_rfl, by kernel_rfl, by kernel_rfl, by kernel_rfl, rfl, by decide, ⟨by kernel_rfl, ?_, ?_⟩, ?_⟩⟩
  · refine zf_ (n := 3) (by kernel_rfl) fun i hi => ?_
    match i, hi with
    | 0, _ => exact zd_ (by kernel_rfl) (qid_ k)
    | 1, _ => exact zd_ (by kernel_rfl) (qic_ k)
    | 2, _ => exact zd_ (by kernel_rfl) (qib_ k)
    | n + 3, hi => omega
  · exact z8_ (by kernel_rfl)
  · rintro s0
    kernel_rfl
def zgg_ (k : Nat) (s0 : List (List Int) × Int × List Int × List (Int × Int × Int × List Int)) : Option Bool := (zg8_ k s0).bind fun r_1 => (if (!r_1) = true then some false else (zjt_ k s0).bind fun r_2 => some (!r_2.2.2))
def qif_ (k : Nat) : FE := ⟨(.st (.pr (.st (.sl 68 (.sl 2 (.int .i64)))) (.pr (.int .i64) (.pr (.sl 2 (.int .i64)) (.sl 147 (.st (.pr (.int .i64) (.pr (.int .i64) (.pr (.int .i64) (.sl 2 (.int .i64))))))))))), 1, .bool, fun x => zgg_ k x⟩
theorem qig_ (k : Nat) : FnOK Tryz.prog 47 (qif_ k) := by
  refine za_ (tab := [(81, qfz_ k), (82, qia_ k)]) (l := []) z6_ z9_ mix (List.forall_mem_cons.2 ⟨qg1_ k, (List.forall_mem_cons.2 ⟨qie_ k, (List.forall_mem_nil _)⟩)⟩) (List.forall_mem_nil _) ⟨⟨Tryz.f47, (z2_ Tryz.f47), [.tmp 2], (LOn Bool), by kernel_rfl, by kernel_rfl, by kernel_rfl, by kernel_rfl, rfl, by decide, ⟨by kernel_rfl, ?_, ?_⟩, ?_⟩⟩
  · exact zh_ (by kernel_rfl)
  · exact z8_ (by kernel_rfl)
  · rintro s0
    kernel_rfl
def zju_ (k : Nat) (s0 : List UInt8 × List (List Int) × Int × List Int × List (Int × Int × Int × List Int)) : Option Bool := (zgg_ k s0.2).bind fun r_1 => some (!r_1)
def qih_ (k : Nat) : FE := ⟨(.st (.pr .str (.st (.pr (.st (.sl 68 (.sl 2 (.int .i64)))) (.pr (.int .i64) (.pr (.sl 2 (.int .i64)) (.sl 147 (.st (.pr (.int .i64) (.pr (.int .i64) (.pr (.int .i64) (.sl 2 (.int .i64))))))))))))), 1, .bool, fun x => zju_ k x⟩
theorem qii_ (k : Nat) : FnOK Tryz.prog 46 (qih_ k) := by
  refine za_ (tab := [(47, qif_ k)]) (l := []) z6_ z9_ mix (List.forall_mem_cons.2 ⟨qig_ k, (List.forall_mem_nil _)⟩) (List.forall_mem_nil _) ⟨⟨Tryz.f46, (z2_ Tryz.f46), [.tmp 2], (LOn Bool), by kernel_rfl, by kernel_rfl, by kernel_rfl, by kernel_rfl, rfl, by decide, ⟨by kernel_rfl, ?_, ?_⟩, ?_⟩⟩
  · exact zh_ (by kernel_rfl)
  · exact z8_ (by kernel_rfl)
  · rintro s0
    kernel_rfl
def zaj_ (k : Nat) : Nat → zT0 → Unit → Int → Int → (Option Int) → Option Int
  | 0, _, _, _, _, _ => none
  | n + 1, s0, f1, x7, x8, e_0 => (if (decide (x8 < x7)) = true then (if 0 ≤ x8 then (s0[x8.toNat]?).bind fun y_1 => (zju_ k y_1).bind fun r_2 => (if r_2 = true then some x8 else zaj_ k n s0 f1 x7 (z0_ (x8 + 1)) e_0) else none) else e_0)
def zjv_ (k : Nat) (s0 : List (List UInt8 × List (List Int) × Int × List Int × List (Int × Int × Int × List Int))) (f1 : Unit) : Option Int := zaj_ k k s0 f1 (List.length s0 : Int) 0 (some (-1))
def qij_ : Head := ⟨[(0, (.val (.sl 80 (.st (.pr .str (.st (.pr (.st (.sl 68 (.sl 2 (.int .i64)))) (.pr (.int .i64) (.pr (.sl 2 (.int .i64)) (.sl 147 (.st (.pr (.int .i64) (.pr (.int .i64) (.pr (.int .i64) (.sl 2 (.int .i64)))))))))))))))), (1, (.val (.fn 46 .un))), (7, (.val (.int .i64))), (8, (.val (.int .i64)))], [], []⟩
def qik_ : Head := ⟨[], [], []⟩
def qil_ (k n : Nat) (x : qij_.T) (kx : Nat → St → Option Int) : Option Int := zaj_ k n x.1.1 x.1.2.1 x.1.2.2.1 x.1.2.2.2.1 (kx 0 (qik_.fill ((), (), ())))
def qim_ (k : Nat) : Oracles Int := ⟨fun n => bif Nat.beq n 2 then some (fun σ kx => qij_.get σ fun x => qil_ k k x kx) else none, fun _ => none⟩
def qin_ (k : Nat) : FE := ⟨(.pr (.sl 80 (.st (.pr .str (.st (.pr (.st (.sl 68 (.sl 2 (.int .i64)))) (.pr (.int .i64) (.pr (.sl 2 (.int .i64)) (.sl 147 (.st (.pr (.int .i64) (.pr (.int .i64) (.pr (.int .i64) (.sl 2 (.int .i64)))))))))))))) (.fn 46 .un)), 1, (.int .i64), fun x => zjv_ k x.1 x.2⟩
theorem qio_ (k : Nat) : zc_ (z3_ ti [(46, qih_ k)] (lk []) z4_ z5_) (qim_ k) (rdC (z3_ ti [(46, qih_ k)] (lk []) z4_ z5_) [.tmp 4] (.int .i64)) ((zb_ (z2_ Tryz.f80)).getD 0 .skip) (fun σ kx => qij_.get σ fun x => qil_ k k x kx) := by
  refine ⟨qij_, [(0, qik_)], fun n x kx => qil_ k n x kx, k, by kernel_rfl, by kernel_rfl, fun x kx => by kernel_rfl, ?_, fun σ kx => rfl⟩
  rintro n ⟨⟨s0, f1, x7, x8, ⟨⟩⟩, ⟨⟩, ⟨⟩⟩ kx
  kernel_rfl
theorem qip_ (k : Nat) : FnOK Tryz.prog 80 (qin_ k) := by
  refine za_ (tab := [(46, qih_ k)]) (l := []) z6_ z9_ mix (List.forall_mem_cons.2 ⟨qii_ k, (List.forall_mem_nil _)⟩) (List.forall_mem_nil _) ⟨⟨Tryz.f80, (z2_ Tryz.f80), [.tmp 4], (qim_ k), by kernel_rfl, by kernel_rfl, by kernel_rfl, by kernel_rfl, rfl, by decide, ⟨by kernel_rfl, ?_, ?_⟩, ?_⟩⟩
  · refine zf_ (n := 1) (by kernel_rfl) fun i hi => ?_
    match i, hi with
    | 0, _ => exact zd_ (by kernel_rfl) (qio_ k)
    | n + 1, hi => omega
  · exact z8_ (by kernel_rfl)
  · rintro ⟨s0, f1⟩
    kernel_rfl
def zgh_ (k : Nat) (s0 : List (List UInt8 × List (List Int) × Int × List Int × List (Int × Int × Int × List Int))) (f1 : Unit) : Option Bool := (zjv_ k s0 f1).bind fun r_1 => some (decide (0 ≤ r_1))
def qiq_ (k : Nat) : FE := ⟨(.pr (.sl 80 (.st (.pr .str (.st (.pr (.st (.sl 68 (.sl 2 (.int .i64)))) (.pr (.int .i64) (.pr (.sl 2 (.int .i64)) (.sl 147 (.st (.pr (.int .i64) (.pr (.int .i64) (.pr (.int .i64) (.sl 2 (.int .i64)))))))))))))) (.fn 46 .un)), 1, .bool, fun x => zgh_ k x.1 x.2⟩
theorem qir_ (k : Nat) : FnOK Tryz.prog 45 (qiq_ k) := by
  refine za_ (tab := [(80, qin_ k)]) (l := []) z6_ z9_ mix (List.forall_mem_cons.2 ⟨qip_ k, (List.forall_mem_nil _)⟩) (List.forall_mem_nil _) ⟨⟨Tryz.f45, (z2_ Tryz.f45), [.tmp 4], (LOn Bool), by kernel_rfl, by kernel_rfl, by kernel_rfl, by kernel_rfl, rfl, by decide, ⟨by kernel_rfl, ?_, ?_⟩, ?_⟩⟩
  · exact zh_ (by kernel_rfl)
  · exact z8_ (by kernel_rfl)
  · rintro ⟨s0, f1⟩
    kernel_rfl
def zei_ (k : Nat) (w0 : zT1 × List (List UInt8 × List (List Int) × Int × List Int × List (Int × Int × Int × List Int))) : Option Bool := (zfl_ k w0).bind fun r_1 => (zc5_ k r_1.1 8).bind fun r_2 => (if (!r_2) = true then some false else (zc5_ k r_1.2 8).bind fun r_3 => (if (!r_3) = true then some false else (zfo_ k r_1.1 r_1.2).bind fun r_4 => (if r_4 = true then some false else (zg0_ k w0.1 ()).bind fun r_5 => (if (!r_5) = true then (zgh_ k w0.2 ()).bind fun r_6 => some (!r_6) else some false))))
def qis_ (k : Nat) : FE := ⟨(.st (.pr (.sl 48 (.st (.pr .str (.st (.sl 68 (.sl 2 (.int .i64))))))) (.sl 80 (.st (.pr .str (.st (.pr (.st (.sl 68 (.sl 2 (.int .i64)))) (.pr (.int .i64) (.pr (.sl 2 (.int .i64)) (.sl 147 (.st (.pr (.int .i64) (.pr (.int .i64) (.pr (.int .i64) (.sl 2 (.int .i64)))))))))))))))), 1, .bool, fun x => zei_ k x⟩
theorem qit_ (k : Nat) : FnOK Tryz.prog 19 (qis_ k) := by
  refine za_ (tab := [(37, q9l_ k), (38, qa0_ k), (39, qal_ k), (42, qdj_ k), (45, qiq_ k)]) (l := []) z6_ z9_ mix (List.forall_mem_cons.2 ⟨q9o_ k, (List.forall_mem_cons.2 ⟨qa2_ k, (List.forall_mem_cons.2 ⟨qam_ k, (List.forall_mem_cons.2 ⟨qdk_ k, (List.forall_mem_cons.2 ⟨qir_ k, (List.forall_mem_nil _)⟩)⟩)⟩)⟩)⟩) (List.forall_mem_nil _) ⟨⟨Tryz.f19, (z2_ Tryz.f19), [.tmp 2], (LOn Bool), by kernel_rfl, by kernel_rfl, by kernel_rfl, by kernel_rfl, rfl, by decide, ⟨by kernel_rfl, ?_, ?_⟩, ?_⟩⟩
  · exact zh_ (by kernel_rfl)
  · exact z8_ (by kernel_rfl)
  · rintro w0
    kernel_rfl
def zak_ (k : Nat) : Nat → (List Int) → Int → Int → Int → (Option Int) → Option Int
  | 0, _, _, _, _, _ => none
  | n + 1, s0, v1, x7, x8, e_0 => (if (decide (x8 < x7)) = true then (if 0 ≤ x8 then (s0[x8.toNat]?).bind fun y_1 => (if (decide (v1 = y_1)) = true then some x8 else zak_ k n s0 v1 x7 (z0_ (x8 + 1)) e_0) else none) else e_0)
def zjw_ (k : Nat) (s0 : List Int) (v1 : Int) : Option Int := zak_ k k s0 v1 (List.length s0 : Int) 0 (some (-1))
def qiu_ : Head := ⟨[(0, (.val (.sl 2 (.int .i64)))), (1, (.val (.int .i64))), (7, (.val (.int .i64))), (8, (.val (.int .i64)))], [], []⟩
def qiv_ : Head := ⟨[], [], []⟩
def qiw_ (k n : Nat) (x : qiu_.T) (kx : Nat → St → Option Int) : Option Int := zak_ k n x.1.1 x.1.2.1 x.1.2.2.1 x.1.2.2.2.1 (kx 0 (qiv_.fill ((), (), ())))
def qix_ (k : Nat) : Oracles Int := ⟨fun n => bif Nat.beq n 2 then some (fun σ kx => qiu_.get σ fun x => qiw_ k k x kx) else none, fun _ => none⟩
def qiy_ (k : Nat) : FE := ⟨(.pr (.sl 2 (.int .i64)) (.int .i64)), 1, (.int .i64), fun x => zjw_ k x.1 x.2⟩
theorem qiz_ (k : Nat) : zc_ (z3_ ti [] (lk []) z4_ z5_) (qix_ k) (rdC (z3_ ti [] (lk []) z4_ z5_) [.tmp 4] (.int .i64)) ((zb_ (z2_ Tryz.f176)).getD 0 .skip) (fun σ kx => qiu_.get σ fun x => qiw_ k k x kx) := by
  refine ⟨qiu_, [(0, qiv_)], fun n x kx => qiw_ k n x kx, k, by kernel_rfl, by kernel_rfl, fun x kx => by kernel_rfl, ?_, fun σ kx => rfl⟩
  rintro n ⟨⟨s0, v1, x7, x8, ⟨⟩⟩, ⟨⟩, ⟨⟩⟩ kx
  kernel_rfl
theorem qj0_ (k : Nat) : FnOK Tryz.prog 176 (qiy_ k) := by
  refine za_ (tab := []) (l := []) z6_ z9_ mix (List.forall_mem_nil _) (List.forall_mem_nil _) ⟨⟨Tryz.f176, (z2_ Tryz.f176), [.tmp 4], (qix_ k), by kernel_rfl, by kernel_rfl, by kernel_rfl, by kernel_rfl, rfl, by decide, ⟨by kernel_rfl, ?_, ?_⟩, ?_⟩⟩
  · refine zf_ (n := 1) (by kernel_rfl) fun i hi => ?_
    match i, hi with
    | 0, _ => exact zd_ (by kernel_rfl) (qiz_ k)
    | n + 1, hi => omega
  · exact z8_ (by kernel_rfl)
  · rintro ⟨s0, v1⟩
    kernel_rfl
def ze9_ (k : Nat) (s0 : List Int) (v1 : Int) : Option Bool := (zjw_ k s0 v1).bind fun r_1 => some (decide (0 ≤ r_1))
def qj1_ (k : Nat) : FE := ⟨(.pr (.sl 2 (.int .i64)) (.int .i64)), 1, .bool, fun x => ze9_ k x.1 x.2⟩
theorem qj2_ (k : Nat) : FnOK Tryz.prog 162 (qj1_ k) := by
  refine za_ (tab := [(176, qiy_ k)]) (l := []) z6_ z9_ mix (List.forall_mem_cons.2 ⟨qj0_ k, (List.forall_mem_nil _)⟩) (List.forall_mem_nil _) ⟨⟨Tryz.f162, (z2_ Tryz.f162), [.tmp 4], (LOn Bool), by kernel_rfl, by kernel_rfl, by kernel_rfl, by kernel_rfl, rfl, by decide, ⟨by kernel_rfl, ?_, ?_⟩, ?_⟩⟩
  · exact zh_ (by kernel_rfl)
  · exact z8_ (by kernel_rfl)
  · rintro ⟨s0, v1⟩
    kernel_rfl
end
end Go.Proofs.YtibiofjkgdidmaaGreatDoor.Ev
