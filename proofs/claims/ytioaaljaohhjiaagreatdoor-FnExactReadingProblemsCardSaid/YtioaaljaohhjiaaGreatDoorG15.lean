/- Functions of the program, as plain ones. No conditions. -/
import Derived.Test.YtioaaljaohhjiaaGreatDoorG14
import Derived.KernelRfl
set_option linter.unusedVariables false
set_option maxRecDepth 100000
namespace Go.Proofs.YtioaaljaohhjiaaGreatDoor.Ev
open Go.RowKit
noncomputable section
def za1_ (k:Nat):Nat→Int→Int→zT3→(Int→zT3→Option (((Int×Unit)×(zT3×Unit)×Unit)))→Option (((Int×Unit)×(zT3×Unit)×Unit))
 | 0,_,_,_,_=>none
 | n+1,k1,i5,q_2,e_0=>(if (decide (i5<(List.length q_2:Int)))=true then (if 0≤i5∧i5.toNat<List.length q_2 then (q_2[i5.toNat]?).bind fun y_3=>(q_2[i5.toNat]?).bind fun y_4=>(if 0≤i5∧i5.toNat<List.length (q_2.set i5.toNat (k1,y_3.2)) then ((q_2.set i5.toNat (k1,y_3.2))[i5.toNat]?).bind fun y_5=>((q_2.set i5.toNat (k1,y_3.2))[i5.toNat]?).bind fun y_6=>(if 0≤i5∧i5.toNat<List.length ((q_2.set i5.toNat (k1,y_3.2)).set i5.toNat (y_5.1,((z0_ (k1+1)),y_5.2.2))) then (((q_2.set i5.toNat (k1,y_3.2)).set i5.toNat (y_5.1,((z0_ (k1+1)),y_5.2.2)))[i5.toNat]?).bind fun y_7=>(((q_2.set i5.toNat (k1,y_3.2)).set i5.toNat (y_5.1,((z0_ (k1+1)),y_5.2.2)))[i5.toNat]?).bind fun y_8=>(if 0≤i5∧i5.toNat<List.length (((q_2.set i5.toNat (k1,y_3.2)).set i5.toNat (y_5.1,((z0_ (k1+1)),y_5.2.2))).set i5.toNat (y_7.1,(y_7.2.1,((z0_ ((z0_ (k1+1))+1)),y_7.2.2.2)))) then ((((q_2.set i5.toNat (k1,y_3.2)).set i5.toNat (y_5.1,((z0_ (k1+1)),y_5.2.2))).set i5.toNat (y_7.1,(y_7.2.1,((z0_ ((z0_ (k1+1))+1)),y_7.2.2.2))))[i5.toNat]?).bind fun y_9=>(zg9_ k i5.toNat (z0_ ((z0_ ((z0_ (k1+1))+1))+1)) (((q_2.set i5.toNat (k1,y_3.2)).set i5.toNat (y_5.1,((z0_ (k1+1)),y_5.2.2))).set i5.toNat (y_7.1,(y_7.2.1,((z0_ ((z0_ (k1+1))+1)),y_7.2.2.2))))).bind fun y_10=>za1_ k n y_10.1.1 (z0_ (i5+1)) y_10.2.1.1 e_0 else none) else none) else none) else none) else e_0 k1 q_2)
def zga_ (k:Nat) (k1:Int) (q_1:List (Int×Int×Int×List Int)):Option (((Int×Unit)×(zT3×Unit)×Unit)):=za1_ k k k1 0 q_1 (fun k_11 q_12=>some ((k_11,()),(q_12,()),()))
def qor_:Head:=⟨[(0,(.ref 1000000000 [])),(1,(.val (.int .i64))),(5,(.val (.int .i64)))],[(1000000000,135,(.st (.pr (.int .i64) (.pr (.int .i64) (.pr (.int .i64) (.sl 2 (.int .i64)))))),false)],[]⟩
def qos_:Head:=⟨[(1,(.val (.int .i64)))],[(1000000000,135,(.st (.pr (.int .i64) (.pr (.int .i64) (.pr (.int .i64) (.sl 2 (.int .i64)))))),false)],[]⟩
def qot_ (k n:Nat) (x:qor_.T) (kx:Nat→St→Option (((Int×Unit)×(zT3×Unit)×Unit))):Option (((Int×Unit)×(zT3×Unit)×Unit)):=za1_ k n x.1.2.1 x.1.2.2.1 x.2.1.1 (fun (k1:Int) (q_12:List (Int×Int×Int×List Int))=>kx 0 (qos_.fill ((k1,()),(q_12,()),())))
def qou_ (k:Nat):Oracles (((Int×Unit)×(zT3×Unit)×Unit)):=⟨fun n=>bif Nat.beq n 2 then some (fun σ kx=>qor_.get σ fun x=>qot_ k k x kx) else none,fun _=>none⟩
def qov_:Head:=⟨[(0,(.ref 1000000000 [])),(1,(.val (.int .i64)))],[(1000000000,135,(.st (.pr (.int .i64) (.pr (.int .i64) (.pr (.int .i64) (.sl 2 (.int .i64)))))),false)],[]⟩
def qow_:Head:=⟨[(0,(.val (.int .i64)))],[(1000000000,135,(.st (.pr (.int .i64) (.pr (.int .i64) (.pr (.int .i64) (.sl 2 (.int .i64)))))),false)],[]⟩
def qox_ (k:Nat):OC:=⟨qov_,qow_,fun x=>zga_ k x.1.2.1 x.2.1.1,false⟩
theorem qoy_ (k:Nat) (pins:Nat→Value) (pinB:Nat→Nat):zc_ (z3_ ti [] (lk [(39,30,qoo_ k)]) pins pinB) (qou_ k) (rdO (z3_ ti [] (lk [(39,30,qoo_ k)]) pins pinB) [.tmp 4] qow_) ((zb_ (z2_ Tryz.f55)).getD 0 .skip) (fun σ kx=>qor_.get σ fun x=>qot_ k k x kx):=by
 refine ⟨qor_,[(0,qos_)],fun n x kx=>qot_ k n x kx,k,by kernel_rfl,by kernel_rfl,fun x kx=>by kernel_rfl,?_,fun σ kx=>rfl⟩
 rintro n ⟨⟨⟨⟩,k1,i5,⟨⟩⟩,⟨q_2,⟨⟩⟩,⟨⟩⟩ kx
 kernel_rfl
theorem qoz_ (k:Nat):z12_ Tryz.prog ti 55 (qox_ k):=by
 refine z3k_ (tab:=[]) (l:=[(39,30,qoo_ k)]) z7_ z9_ mix (List.forall_mem_nil _) (List.forall_mem_cons.2 ⟨qoq_ k,(List.forall_mem_nil _)⟩) ⟨by kernel_rfl,by kernel_rfl,by kernel_rfl,Tryz.f55,(z2_ Tryz.f55),[.tmp 4],(qou_ k),by kernel_rfl,by kernel_rfl,by kernel_rfl,by kernel_rfl,Nat.le_of_ble_eq_true (by kernel_rfl),fun pins pinB=>⟨⟨by kernel_rfl,?_,?_⟩,?_⟩⟩
 ·refine zf_ (n:=1) (by kernel_rfl) fun i hi=>?_
  match i,hi with
  | 0,_=>exact zd_ (by kernel_rfl) (qoy_ k pins pinB)
  | n+1,hi=>omega
 ·exact z8_ (by kernel_rfl)
 ·rintro ⟨⟨⟨⟩,k1,⟨⟩⟩,⟨q_1,⟨⟩⟩,⟨⟩⟩
  kernel_rfl
def zk1_ (k:Nat) (a0ba:Int) (k1:Int) (q_1:List (List Int)) (q_2:List Int) (q_3:List (Int×Int×Int×List Int)):Option (((Int×Unit)×(zT3×(List Int)×zT4×Unit)×Unit)):=(zk0_ k k1 q_1).bind fun y_4=>(z5b_ k y_4.1.1 q_2).bind fun y_5=>(zga_ k y_5.1.1 q_3).bind fun y_6=>some ((y_6.1.1,()),(y_6.2.1.1,y_5.2.1.1,y_4.2.1.1,()),())
def qp0_:Head:=⟨[(0,(.st (.pr (.st (.ref 1000000000 [])) (.pr (.val (.int .i64)) (.pr (.ref 1000000001 []) (.ref 1000000002 [])))))),(1,(.val (.int .i64)))],[(1000000000,25,(.sl 2 (.int .i64)),false),(1000000001,2,(.int .i64),false),(1000000002,135,(.st (.pr (.int .i64) (.pr (.int .i64) (.pr (.int .i64) (.sl 2 (.int .i64)))))),false)],[]⟩
def qp1_:Head:=⟨[(0,(.val (.int .i64)))],[(1000000002,135,(.st (.pr (.int .i64) (.pr (.int .i64) (.pr (.int .i64) (.sl 2 (.int .i64)))))),false),(1000000001,2,(.int .i64),false),(1000000000,25,(.sl 2 (.int .i64)),false)],[]⟩
def qp2_ (k:Nat):OC:=⟨qp0_,qp1_,fun x=>zk1_ k x.1.1.2.1 x.1.2.1 x.2.1.1 x.2.1.2.1 x.2.1.2.2.1,false⟩
theorem qp3_ (k:Nat):z12_ Tryz.prog ti 29 (qp2_ k):=by
 refine z3k_ (tab:=[]) (l:=[(8,54,qo7_ k),(12,30,qof_ k),(16,55,qox_ k)]) z7_ z9_ mix (List.forall_mem_nil _) (List.forall_mem_cons.2 ⟨qo8_ k,(List.forall_mem_cons.2 ⟨qoh_ k,(List.forall_mem_cons.2 ⟨qoz_ k,(List.forall_mem_nil _)⟩)⟩)⟩) ⟨by kernel_rfl,by kernel_rfl,by kernel_rfl,Tryz.f29,(z2_ Tryz.f29),[.tmp 4],(LOn (((Int×Unit)×(zT3×(List Int)×zT4×Unit)×Unit))),by kernel_rfl,by kernel_rfl,by kernel_rfl,by kernel_rfl,Nat.le_of_ble_eq_true (by kernel_rfl),fun pins pinB=>⟨⟨by kernel_rfl,?_,?_⟩,?_⟩⟩
 ·exact ze_ (by kernel_rfl)
 ·exact z8_ (by kernel_rfl)
 ·rintro ⟨⟨⟨⟨⟩,⟨a0ba,⟨⟨⟩,⟨⟩⟩⟩⟩,k1,⟨⟩⟩,⟨q_1,q_2,q_3,⟨⟩⟩,⟨⟩⟩
  kernel_rfl
def za2_ (k:Nat):Nat→Int→Int→zT2→(Int→zT2→Option (((Int×Unit)×(zT2×Unit)×Unit)))→Option (((Int×Unit)×(zT2×Unit)×Unit))
 | 0,_,_,_,_=>none
 | n+1,k1,i5,q_2,e_0=>(if (decide (i5<(List.length q_2:Int)))=true then (if 0≤i5∧i5.toNat<List.length q_2 then (q_2[i5.toNat]?).bind fun y_3=>(q_2[i5.toNat]?).bind fun y_4=>(if 0≤i5∧i5.toNat<List.length (q_2.set i5.toNat (k1,y_3.2)) then ((q_2.set i5.toNat (k1,y_3.2))[i5.toNat]?).bind fun y_5=>((q_2.set i5.toNat (k1,y_3.2))[i5.toNat]?).bind fun y_6=>(if 0≤i5∧i5.toNat<List.length ((q_2.set i5.toNat (k1,y_3.2)).set i5.toNat (y_5.1,((z0_ (k1+1)),y_5.2.2))) then (((q_2.set i5.toNat (k1,y_3.2)).set i5.toNat (y_5.1,((z0_ (k1+1)),y_5.2.2)))[i5.toNat]?).bind fun y_7=>(((q_2.set i5.toNat (k1,y_3.2)).set i5.toNat (y_5.1,((z0_ (k1+1)),y_5.2.2)))[i5.toNat]?).bind fun y_8=>za2_ k n (z0_ ((z0_ ((z0_ (k1+1))+1))+1)) (z0_ (i5+1)) (((q_2.set i5.toNat (k1,y_3.2)).set i5.toNat (y_5.1,((z0_ (k1+1)),y_5.2.2))).set i5.toNat (y_7.1,(y_7.2.1,(z0_ ((z0_ (k1+1))+1))))) e_0 else none) else none) else none) else e_0 k1 q_2)
def zgb_ (k:Nat) (k1:Int) (q_1:List (Int×Int×Int)):Option (((Int×Unit)×(zT2×Unit)×Unit)):=za2_ k k k1 0 q_1 (fun k_9 q_10=>some ((k_9,()),(q_10,()),()))
def qp4_:Head:=⟨[(0,(.ref 1000000000 [])),(1,(.val (.int .i64))),(5,(.val (.int .i64)))],[(1000000000,138,(.st (.pr (.int .i64) (.pr (.int .i64) (.int .i64)))),false)],[]⟩
def qp5_:Head:=⟨[(1,(.val (.int .i64)))],[(1000000000,138,(.st (.pr (.int .i64) (.pr (.int .i64) (.int .i64)))),false)],[]⟩
def qp6_ (k n:Nat) (x:qp4_.T) (kx:Nat→St→Option (((Int×Unit)×(zT2×Unit)×Unit))):Option (((Int×Unit)×(zT2×Unit)×Unit)):=za2_ k n x.1.2.1 x.1.2.2.1 x.2.1.1 (fun (k1:Int) (q_9:List (Int×Int×Int))=>kx 0 (qp5_.fill ((k1,()),(q_9,()),())))
def qp7_ (k:Nat):Oracles (((Int×Unit)×(zT2×Unit)×Unit)):=⟨fun n=>bif Nat.beq n 2 then some (fun σ kx=>qp4_.get σ fun x=>qp6_ k k x kx) else none,fun _=>none⟩
def qp8_:Head:=⟨[(0,(.ref 1000000000 [])),(1,(.val (.int .i64)))],[(1000000000,138,(.st (.pr (.int .i64) (.pr (.int .i64) (.int .i64)))),false)],[]⟩
def qp9_:Head:=⟨[(0,(.val (.int .i64)))],[(1000000000,138,(.st (.pr (.int .i64) (.pr (.int .i64) (.int .i64)))),false)],[]⟩
def qpa_ (k:Nat):OC:=⟨qp8_,qp9_,fun x=>zgb_ k x.1.2.1 x.2.1.1,false⟩
theorem qpb_ (k:Nat) (pins:Nat→Value) (pinB:Nat→Nat):zc_ (z3_ ti [] (lk []) pins pinB) (qp7_ k) (rdO (z3_ ti [] (lk []) pins pinB) [.tmp 4] qp9_) ((zb_ (z2_ Tryz.f56)).getD 0 .skip) (fun σ kx=>qp4_.get σ fun x=>qp6_ k k x kx):=by
 refine ⟨qp4_,[(0,qp5_)],fun n x kx=>qp6_ k n x kx,k,by kernel_rfl,by kernel_rfl,fun x kx=>by kernel_rfl,?_,fun σ kx=>rfl⟩
 rintro n ⟨⟨⟨⟩,k1,i5,⟨⟩⟩,⟨q_2,⟨⟩⟩,⟨⟩⟩ kx
 kernel_rfl
theorem qpc_ (k:Nat):z12_ Tryz.prog ti 56 (qpa_ k):=by
 refine z3k_ (tab:=[]) (l:=[]) z7_ z9_ mix (List.forall_mem_nil _) (List.forall_mem_nil _) ⟨by kernel_rfl,by kernel_rfl,by kernel_rfl,Tryz.f56,(z2_ Tryz.f56),[.tmp 4],(qp7_ k),by kernel_rfl,by kernel_rfl,by kernel_rfl,by kernel_rfl,Nat.le_of_ble_eq_true (by kernel_rfl),fun pins pinB=>⟨⟨by kernel_rfl,?_,?_⟩,?_⟩⟩
 ·refine zf_ (n:=1) (by kernel_rfl) fun i hi=>?_
  match i,hi with
  | 0,_=>exact zd_ (by kernel_rfl) (qpb_ k pins pinB)
  | n+1,hi=>omega
 ·exact z8_ (by kernel_rfl)
 ·rintro ⟨⟨⟨⟩,k1,⟨⟩⟩,⟨q_1,⟨⟩⟩,⟨⟩⟩
  kernel_rfl
def zk2_ (k:Nat) (a0a:Int) (a0ba:Int) (a0bba:Int) (k1:Int) (q_1:List (Int×Int×Int)):Option (((Int×Unit)×(zT2×Unit)×Unit)):=(zgb_ k k1 q_1).bind fun y_2=>some ((y_2.1.1,()),(y_2.2.1.1,()),())
def qpd_:Head:=⟨[(0,(.st (.pr (.val (.int .i64)) (.pr (.val (.int .i64)) (.pr (.val (.int .i64)) (.ref 1000000000 [])))))),(1,(.val (.int .i64)))],[(1000000000,138,(.st (.pr (.int .i64) (.pr (.int .i64) (.int .i64)))),false)],[]⟩
def qpe_:Head:=⟨[(0,(.val (.int .i64)))],[(1000000000,138,(.st (.pr (.int .i64) (.pr (.int .i64) (.int .i64)))),false)],[]⟩
def qpf_ (k:Nat):OC:=⟨qpd_,qpe_,fun x=>zk2_ k x.1.1.1 x.1.1.2.1 x.1.1.2.2.1 x.1.2.1 x.2.1.1,false⟩
theorem qpg_ (k:Nat):z12_ Tryz.prog ti 31 (qpf_ k):=by
 refine z3k_ (tab:=[]) (l:=[(8,56,qpa_ k)]) z7_ z9_ mix (List.forall_mem_nil _) (List.forall_mem_cons.2 ⟨qpc_ k,(List.forall_mem_nil _)⟩) ⟨by kernel_rfl,by kernel_rfl,by kernel_rfl,Tryz.f31,(z2_ Tryz.f31),[.tmp 4],(LOn (((Int×Unit)×(zT2×Unit)×Unit))),by kernel_rfl,by kernel_rfl,by kernel_rfl,by kernel_rfl,Nat.le_of_ble_eq_true (by kernel_rfl),fun pins pinB=>⟨⟨by kernel_rfl,?_,?_⟩,?_⟩⟩
 ·exact ze_ (by kernel_rfl)
 ·exact z8_ (by kernel_rfl)
 ·rintro ⟨⟨⟨a0a,⟨a0ba,⟨a0bba,⟨⟩⟩⟩⟩,k1,⟨⟩⟩,⟨q_1,⟨⟩⟩,⟨⟩⟩
  kernel_rfl
def za3_ (k:Nat):Nat→Int→Int→zT2→(Int→zT2→Option (((Int×Unit)×(zT2×Unit)×Unit)))→Option (((Int×Unit)×(zT2×Unit)×Unit))
 | 0,_,_,_,_=>none
 | n+1,k1,i5,q_2,e_0=>(if (decide (i5<(List.length q_2:Int)))=true then (if 0≤i5∧i5.toNat<List.length q_2 then (q_2[i5.toNat]?).bind fun y_3=>(q_2[i5.toNat]?).bind fun y_4=>(if 0≤i5∧i5.toNat<List.length (q_2.set i5.toNat (k1,y_3.2)) then ((q_2.set i5.toNat (k1,y_3.2))[i5.toNat]?).bind fun y_5=>((q_2.set i5.toNat (k1,y_3.2))[i5.toNat]?).bind fun y_6=>(if 0≤i5∧i5.toNat<List.length ((q_2.set i5.toNat (k1,y_3.2)).set i5.toNat (y_5.1,((z0_ (k1+1)),y_5.2.2))) then (((q_2.set i5.toNat (k1,y_3.2)).set i5.toNat (y_5.1,((z0_ (k1+1)),y_5.2.2)))[i5.toNat]?).bind fun y_7=>(((q_2.set i5.toNat (k1,y_3.2)).set i5.toNat (y_5.1,((z0_ (k1+1)),y_5.2.2)))[i5.toNat]?).bind fun y_8=>za3_ k n (z0_ ((z0_ ((z0_ (k1+1))+1))+1)) (z0_ (i5+1)) (((q_2.set i5.toNat (k1,y_3.2)).set i5.toNat (y_5.1,((z0_ (k1+1)),y_5.2.2))).set i5.toNat (y_7.1,(y_7.2.1,(z0_ ((z0_ (k1+1))+1))))) e_0 else none) else none) else none) else e_0 k1 q_2)
def zgc_ (k:Nat) (k1:Int) (q_1:List (Int×Int×Int)):Option (((Int×Unit)×(zT2×Unit)×Unit)):=za3_ k k k1 0 q_1 (fun k_9 q_10=>some ((k_9,()),(q_10,()),()))
def qph_:Head:=⟨[(0,(.ref 1000000000 [])),(1,(.val (.int .i64))),(5,(.val (.int .i64)))],[(1000000000,133,(.st (.pr (.int .i64) (.pr (.int .i64) (.int .i64)))),false)],[]⟩
def qpi_:Head:=⟨[(1,(.val (.int .i64)))],[(1000000000,133,(.st (.pr (.int .i64) (.pr (.int .i64) (.int .i64)))),false)],[]⟩
def qpj_ (k n:Nat) (x:qph_.T) (kx:Nat→St→Option (((Int×Unit)×(zT2×Unit)×Unit))):Option (((Int×Unit)×(zT2×Unit)×Unit)):=za3_ k n x.1.2.1 x.1.2.2.1 x.2.1.1 (fun (k1:Int) (q_9:List (Int×Int×Int))=>kx 0 (qpi_.fill ((k1,()),(q_9,()),())))
def qpk_ (k:Nat):Oracles (((Int×Unit)×(zT2×Unit)×Unit)):=⟨fun n=>bif Nat.beq n 2 then some (fun σ kx=>qph_.get σ fun x=>qpj_ k k x kx) else none,fun _=>none⟩
def qpl_:Head:=⟨[(0,(.ref 1000000000 [])),(1,(.val (.int .i64)))],[(1000000000,133,(.st (.pr (.int .i64) (.pr (.int .i64) (.int .i64)))),false)],[]⟩
def qpm_:Head:=⟨[(0,(.val (.int .i64)))],[(1000000000,133,(.st (.pr (.int .i64) (.pr (.int .i64) (.int .i64)))),false)],[]⟩
def qpn_ (k:Nat):OC:=⟨qpl_,qpm_,fun x=>zgc_ k x.1.2.1 x.2.1.1,false⟩
theorem qpo_ (k:Nat) (pins:Nat→Value) (pinB:Nat→Nat):zc_ (z3_ ti [] (lk []) pins pinB) (qpk_ k) (rdO (z3_ ti [] (lk []) pins pinB) [.tmp 4] qpm_) ((zb_ (z2_ Tryz.f57)).getD 0 .skip) (fun σ kx=>qph_.get σ fun x=>qpj_ k k x kx):=by
 refine ⟨qph_,[(0,qpi_)],fun n x kx=>qpj_ k n x kx,k,by kernel_rfl,by kernel_rfl,fun x kx=>by kernel_rfl,?_,fun σ kx=>rfl⟩
 rintro n ⟨⟨⟨⟩,k1,i5,⟨⟩⟩,⟨q_2,⟨⟩⟩,⟨⟩⟩ kx
 kernel_rfl
theorem qpp_ (k:Nat):z12_ Tryz.prog ti 57 (qpn_ k):=by
 refine z3k_ (tab:=[]) (l:=[]) z7_ z9_ mix (List.forall_mem_nil _) (List.forall_mem_nil _) ⟨by kernel_rfl,by kernel_rfl,by kernel_rfl,Tryz.f57,(z2_ Tryz.f57),[.tmp 4],(qpk_ k),by kernel_rfl,by kernel_rfl,by kernel_rfl,by kernel_rfl,Nat.le_of_ble_eq_true (by kernel_rfl),fun pins pinB=>⟨⟨by kernel_rfl,?_,?_⟩,?_⟩⟩
 ·refine zf_ (n:=1) (by kernel_rfl) fun i hi=>?_
  match i,hi with
  | 0,_=>exact zd_ (by kernel_rfl) (qpo_ k pins pinB)
  | n+1,hi=>omega
 ·exact z8_ (by kernel_rfl)
 ·rintro ⟨⟨⟨⟩,k1,⟨⟩⟩,⟨q_1,⟨⟩⟩,⟨⟩⟩
  kernel_rfl
def zk3_ (k:Nat) (a0a:Int) (a0ba:Int) (k1:Int) (q_1:List (Int×Int×Int)):Option (((Int×Unit)×(zT2×Unit)×Unit)):=(zgc_ k k1 q_1).bind fun y_2=>some ((y_2.1.1,()),(y_2.2.1.1,()),())
def qpq_:Head:=⟨[(0,(.st (.pr (.val (.int .i64)) (.pr (.val (.int .i64)) (.ref 1000000000 []))))),(1,(.val (.int .i64)))],[(1000000000,133,(.st (.pr (.int .i64) (.pr (.int .i64) (.int .i64)))),false)],[]⟩
def qpr_:Head:=⟨[(0,(.val (.int .i64)))],[(1000000000,133,(.st (.pr (.int .i64) (.pr (.int .i64) (.int .i64)))),false)],[]⟩
def qps_ (k:Nat):OC:=⟨qpq_,qpr_,fun x=>zk3_ k x.1.1.1 x.1.1.2.1 x.1.2.1 x.2.1.1,false⟩
theorem qpt_ (k:Nat):z12_ Tryz.prog ti 32 (qps_ k):=by
 refine z3k_ (tab:=[]) (l:=[(8,57,qpn_ k)]) z7_ z9_ mix (List.forall_mem_nil _) (List.forall_mem_cons.2 ⟨qpp_ k,(List.forall_mem_nil _)⟩) ⟨by kernel_rfl,by kernel_rfl,by kernel_rfl,Tryz.f32,(z2_ Tryz.f32),[.tmp 4],(LOn (((Int×Unit)×(zT2×Unit)×Unit))),by kernel_rfl,by kernel_rfl,by kernel_rfl,by kernel_rfl,Nat.le_of_ble_eq_true (by kernel_rfl),fun pins pinB=>⟨⟨by kernel_rfl,?_,?_⟩,?_⟩⟩
 ·exact ze_ (by kernel_rfl)
 ·exact z8_ (by kernel_rfl)
 ·rintro ⟨⟨⟨a0a,⟨a0ba,⟨⟩⟩⟩,k1,⟨⟩⟩,⟨q_1,⟨⟩⟩,⟨⟩⟩
  kernel_rfl
def zcb_ (k:Nat) (a0aba:Int) (a0ba:Int) (a0bbbbaa:Int) (a0bbbbaba:Int) (a0bbbbabba:Int) (a0bbbbbbbaa:Int) (a0bbbbbbbaba:Int) (k1:Int) (q_1:List (List Int)) (q_2:List Int) (q_3:List (Int×Int×Int×List Int)) (q_4:List Int) (q_5:List Int) (q_6:List (Int×Int×Int)) (q_7:List Int) (q_8:List Int) (q_9:List (Int×Int×Int)) (q_10:List Int):Option (((Int×Unit)×((List Int)×zT2×(List Int)×(List Int)×zT2×(List Int)×(List Int)×zT3×(List Int)×zT4×Unit)×Unit)):=(zk1_ k a0aba k1 q_1 q_2 q_3).bind fun y_11=>(z5b_ k y_11.1.1 q_4).bind fun y_12=>(z5b_ k y_12.1.1 q_5).bind fun y_13=>(zk2_ k a0bbbbaa a0bbbbaba a0bbbbabba y_13.1.1 q_6).bind fun y_14=>(z5b_ k y_14.1.1 q_7).bind fun y_15=>(z5b_ k y_15.1.1 q_8).bind fun y_16=>(zk3_ k a0bbbbbbbaa a0bbbbbbbaba y_16.1.1 q_9).bind fun y_17=>(z5b_ k y_17.1.1 q_10).bind fun y_18=>some ((y_18.1.1,()),(y_18.2.1.1,y_17.2.1.1,y_16.2.1.1,y_15.2.1.1,y_14.2.1.1,y_13.2.1.1,y_12.2.1.1,y_11.2.1.1,y_11.2.1.2.1,y_11.2.1.2.2.1,()),())
def qpu_:Head:=⟨[(0,(.st (.pr (.st (.pr (.st (.ref 1000000000 [])) (.pr (.val (.int .i64)) (.pr (.ref 1000000001 []) (.ref 1000000002 []))))) (.pr (.val (.int .i64)) (.pr (.ref 1000000003 []) (.pr (.ref 1000000004 []) (.pr (.st (.pr (.val (.int .i64)) (.pr (.val (.int .i64)) (.pr (.val (.int .i64)) (.ref 1000000005 []))))) (.pr (.ref 1000000006 []) (.pr (.ref 1000000007 []) (.pr (.st (.pr (.val (.int .i64)) (.pr (.val (.int .i64)) (.ref 1000000008 [])))) (.ref 1000000009 []))))))))))),(1,(.val (.int .i64)))],[(1000000000,25,(.sl 2 (.int .i64)),false),(1000000001,2,(.int .i64),false),(1000000002,135,(.st (.pr (.int .i64) (.pr (.int .i64) (.pr (.int .i64) (.sl 2 (.int .i64)))))),false),(1000000003,2,(.int .i64),false),(1000000004,2,(.int .i64),false),(1000000005,138,(.st (.pr (.int .i64) (.pr (.int .i64) (.int .i64)))),false),(1000000006,2,(.int .i64),false),(1000000007,2,(.int .i64),false),(1000000008,133,(.st (.pr (.int .i64) (.pr (.int .i64) (.int .i64)))),false),(1000000009,2,(.int .i64),false)],[]⟩
def qpv_:Head:=⟨[(0,(.val (.int .i64)))],[(1000000009,2,(.int .i64),false),(1000000008,133,(.st (.pr (.int .i64) (.pr (.int .i64) (.int .i64)))),false),(1000000007,2,(.int .i64),false),(1000000006,2,(.int .i64),false),(1000000005,138,(.st (.pr (.int .i64) (.pr (.int .i64) (.int .i64)))),false),(1000000004,2,(.int .i64),false),(1000000003,2,(.int .i64),false),(1000000002,135,(.st (.pr (.int .i64) (.pr (.int .i64) (.pr (.int .i64) (.sl 2 (.int .i64)))))),false),(1000000001,2,(.int .i64),false),(1000000000,25,(.sl 2 (.int .i64)),false)],[]⟩
def qpw_ (k:Nat):OC:=⟨qpu_,qpv_,fun x=>zcb_ k x.1.1.1.2.1 x.1.1.2.1 x.1.1.2.2.2.2.1.1 x.1.1.2.2.2.2.1.2.1 x.1.1.2.2.2.2.1.2.2.1 x.1.1.2.2.2.2.2.2.2.1.1 x.1.1.2.2.2.2.2.2.2.1.2.1 x.1.2.1 x.2.1.1 x.2.1.2.1 x.2.1.2.2.1 x.2.1.2.2.2.1 x.2.1.2.2.2.2.1 x.2.1.2.2.2.2.2.1 x.2.1.2.2.2.2.2.2.1 x.2.1.2.2.2.2.2.2.2.1 x.2.1.2.2.2.2.2.2.2.2.1 x.2.1.2.2.2.2.2.2.2.2.2.1,false⟩
theorem qpx_ (k:Nat):z12_ Tryz.prog ti 10 (qpw_ k):=by
 refine z3k_ (tab:=[]) (l:=[(8,29,qp2_ k),(12,30,qof_ k),(16,30,qof_ k),(20,31,qpf_ k),(24,30,qof_ k),(28,30,qof_ k),(32,32,qps_ k),(36,30,qof_ k)]) z7_ z9_ mix (List.forall_mem_nil _) (List.forall_mem_cons.2 ⟨qp3_ k,(List.forall_mem_cons.2 ⟨qoh_ k,(List.forall_mem_cons.2 ⟨qoh_ k,(List.forall_mem_cons.2 ⟨qpg_ k,(List.forall_mem_cons.2 ⟨qoh_ k,(List.forall_mem_cons.2 ⟨qoh_ k,(List.forall_mem_cons.2 ⟨qpt_ k,(List.forall_mem_cons.2 ⟨qoh_ k,(List.forall_mem_nil _)⟩)⟩)⟩)⟩)⟩)⟩)⟩)⟩) ⟨by kernel_rfl,by kernel_rfl,by kernel_rfl,Tryz.f10,(z2_ Tryz.f10),[.tmp 4],(LOn (((Int×Unit)×((List Int)×zT2×(List Int)×(List Int)×zT2×(List Int)×(List Int)×zT3×(List Int)×zT4×Unit)×Unit))),by kernel_rfl,by kernel_rfl,by kernel_rfl,by kernel_rfl,Nat.le_of_ble_eq_true (by kernel_rfl),fun pins pinB=>⟨⟨by kernel_rfl,?_,?_⟩,?_⟩⟩
 ·exact ze_ (by kernel_rfl)
 ·exact z8_ (by kernel_rfl)
 ·rintro ⟨⟨⟨⟨⟨⟩,⟨a0aba,⟨⟨⟩,⟨⟩⟩⟩⟩,⟨a0ba,⟨⟨⟩,⟨⟨⟩,⟨⟨a0bbbbaa,⟨a0bbbbaba,⟨a0bbbbabba,⟨⟩⟩⟩⟩,⟨⟨⟩,⟨⟨⟩,⟨⟨a0bbbbbbbaa,⟨a0bbbbbbbaba,⟨⟩⟩⟩,⟨⟩⟩⟩⟩⟩⟩⟩⟩⟩,k1,⟨⟩⟩,⟨q_1,q_2,q_3,q_4,q_5,q_6,q_7,q_8,q_9,q_10,⟨⟩⟩,⟨⟩⟩
  kernel_rfl
def z7n_ (k:Nat):Nat→Int→(List UInt8)→((List UInt8)→Option (List UInt8))→Option (List UInt8)
 | 0,_,_,_=>none
 | n+1,k0,out3,e_0=>(if (decide (0<k0))=true then (if (to_S [(w_u8 ((z0_ (48+(Int.tmod k0 10)))))]).length+out3.length≤9223372036854775807 then z7n_ k n (z0_ (Int.tdiv k0 10)) ((to_S [(w_u8 ((z0_ (48+(Int.tmod k0 10)))))])++out3) e_0 else none) else e_0 out3)
def z5c_ (k:Nat) (k0:Int):Option (List UInt8):=(if (decide (k0≤0))=true then some [109,48] else z7n_ k k k0 [] (fun out_1=>(if [109].length+out_1.length≤9223372036854775807 then some ([109]++out_1) else none)))
def qpy_:Head:=⟨[(0,(.val (.int .i64))),(3,(.val .str))],[],[]⟩
def qpz_:Head:=⟨[(3,(.val .str))],[],[]⟩
def qq0_ (k n:Nat) (x:qpy_.T) (kx:Nat→St→Option (List UInt8)):Option (List UInt8):=z7n_ k n x.1.1 x.1.2.1 (fun (out3:List UInt8)=>kx 0 (qpz_.fill ((out3,()),(),())))
def qq1_ (k:Nat):Oracles (List UInt8):=⟨fun n=>bif Nat.beq n 4 then some (fun σ kx=>qpy_.get σ fun x=>qq0_ k k x kx) else none,fun _=>none⟩
def qq2_ (k:Nat):FE:=⟨(.int .i64),1,.str,fun x=>z5c_ k x⟩
theorem qq3_ (k:Nat):zc_ (z3_ ti [] (lk []) z4_ z5_) (qq1_ k) (rdC (z3_ ti [] (lk []) z4_ z5_) [.tmp 2] .str) ((zb_ (z2_ Tryz.f33)).getD 0 .skip) (fun σ kx=>qpy_.get σ fun x=>qq0_ k k x kx):=by
 refine ⟨qpy_,[(0,qpz_)],fun n x kx=>qq0_ k n x kx,k,by kernel_rfl,by kernel_rfl,fun x kx=>by kernel_rfl,?_,fun σ kx=>rfl⟩
 rintro n ⟨⟨k0,out3,⟨⟩⟩,⟨⟩,⟨⟩⟩ kx
 kernel_rfl
theorem qq4_ (k:Nat):FnOK Tryz.prog 33 (qq2_ k):=by
 refine za_ (tab:=[]) (l:=[]) z7_ z9_ mix (List.forall_mem_nil _) (List.forall_mem_nil _) ⟨⟨Tryz.f33,(z2_ Tryz.f33),[.tmp 2],(qq1_ k),by kernel_rfl,by kernel_rfl,by kernel_rfl,by kernel_rfl,rfl,by decide,⟨by kernel_rfl,?_,?_⟩,?_⟩⟩
 ·refine zf_ (n:=1) (by kernel_rfl) fun i hi=>?_
  match i,hi with
  | 0,_=>exact zd_ (by kernel_rfl) (qq3_ k)
  | n+1,hi=>omega
 ·exact z8_ (by kernel_rfl)
 ·rintro k0
  kernel_rfl
def za4_ (k:Nat):Nat→Int→Int→zT1→(Int→zT1→Option (((Int×Unit)×(zT1×Unit)×Unit)))→Option (((Int×Unit)×(zT1×Unit)×Unit))
 | 0,_,_,_,_=>none
 | n+1,k1,i5,q_2,e_0=>(if (decide (i5<(List.length q_2:Int)))=true then (if 0≤i5∧i5.toNat<List.length q_2 then (q_2[i5.toNat]?).bind fun y_3=>(q_2[i5.toNat]?).bind fun y_4=>(z5c_ k (z0_ (k1+1))).bind fun r_5=>(if 0≤i5∧i5.toNat<List.length (q_2.set i5.toNat (k1,y_3.2)) then ((q_2.set i5.toNat (k1,y_3.2))[i5.toNat]?).bind fun y_6=>((q_2.set i5.toNat (k1,y_3.2))[i5.toNat]?).bind fun y_7=>(z5c_ k (z0_ ((z0_ (k1+1))+1))).bind fun r_8=>(if 0≤i5∧i5.toNat<List.length ((q_2.set i5.toNat (k1,y_3.2)).set i5.toNat (y_6.1,(r_5,y_6.2.2))) then (((q_2.set i5.toNat (k1,y_3.2)).set i5.toNat (y_6.1,(r_5,y_6.2.2)))[i5.toNat]?).bind fun y_9=>(((q_2.set i5.toNat (k1,y_3.2)).set i5.toNat (y_6.1,(r_5,y_6.2.2)))[i5.toNat]?).bind fun y_10=>za4_ k n (z0_ ((z0_ ((z0_ (k1+1))+1))+1)) (z0_ (i5+1)) (((q_2.set i5.toNat (k1,y_3.2)).set i5.toNat (y_6.1,(r_5,y_6.2.2))).set i5.toNat (y_9.1,(y_9.2.1,r_8))) e_0 else none) else none) else none) else e_0 k1 q_2)
def zcc_ (k:Nat) (k1:Int) (q_1:List (Int×List UInt8×List UInt8)):Option (((Int×Unit)×(zT1×Unit)×Unit)):=za4_ k k k1 0 q_1 (fun k_11 q_12=>some ((k_11,()),(q_12,()),()))
def qq5_:Head:=⟨[(0,(.ref 1000000000 [])),(1,(.val (.int .i64))),(5,(.val (.int .i64)))],[(1000000000,73,(.st (.pr (.int .i64) (.pr .str .str))),false)],[]⟩
def qq6_:Head:=⟨[(1,(.val (.int .i64)))],[(1000000000,73,(.st (.pr (.int .i64) (.pr .str .str))),false)],[]⟩
def qq7_ (k n:Nat) (x:qq5_.T) (kx:Nat→St→Option (((Int×Unit)×(zT1×Unit)×Unit))):Option (((Int×Unit)×(zT1×Unit)×Unit)):=za4_ k n x.1.2.1 x.1.2.2.1 x.2.1.1 (fun (k1:Int) (q_11:List (Int×List UInt8×List UInt8))=>kx 0 (qq6_.fill ((k1,()),(q_11,()),())))
def qq8_ (k:Nat):Oracles (((Int×Unit)×(zT1×Unit)×Unit)):=⟨fun n=>bif Nat.beq n 2 then some (fun σ kx=>qq5_.get σ fun x=>qq7_ k k x kx) else none,fun _=>none⟩
def qq9_:Head:=⟨[(0,(.ref 1000000000 [])),(1,(.val (.int .i64)))],[(1000000000,73,(.st (.pr (.int .i64) (.pr .str .str))),false)],[]⟩
def qqa_:Head:=⟨[(0,(.val (.int .i64)))],[(1000000000,73,(.st (.pr (.int .i64) (.pr .str .str))),false)],[]⟩
def qqb_ (k:Nat):OC:=⟨qq9_,qqa_,fun x=>zcc_ k x.1.2.1 x.2.1.1,false⟩
theorem qqc_ (k:Nat) (pins:Nat→Value) (pinB:Nat→Nat):zc_ (z3_ ti [(33,qq2_ k)] (lk []) pins pinB) (qq8_ k) (rdO (z3_ ti [(33,qq2_ k)] (lk []) pins pinB) [.tmp 4] qqa_) ((zb_ (z2_ Tryz.f11)).getD 0 .skip) (fun σ kx=>qq5_.get σ fun x=>qq7_ k k x kx):=by
 refine ⟨qq5_,[(0,qq6_)],fun n x kx=>qq7_ k n x kx,k,by kernel_rfl,by kernel_rfl,fun x kx=>by kernel_rfl,?_,fun σ kx=>rfl⟩
 rintro n ⟨⟨⟨⟩,k1,i5,⟨⟩⟩,⟨q_2,⟨⟩⟩,⟨⟩⟩ kx
 kernel_rfl
theorem qqd_ (k:Nat):z12_ Tryz.prog ti 11 (qqb_ k):=by
 refine z3k_ (tab:=[(33,qq2_ k)]) (l:=[]) z7_ z9_ mix (List.forall_mem_cons.2 ⟨qq4_ k,(List.forall_mem_nil _)⟩) (List.forall_mem_nil _) ⟨by kernel_rfl,by kernel_rfl,by kernel_rfl,Tryz.f11,(z2_ Tryz.f11),[.tmp 4],(qq8_ k),by kernel_rfl,by kernel_rfl,by kernel_rfl,by kernel_rfl,Nat.le_of_ble_eq_true (by kernel_rfl),fun pins pinB=>⟨⟨by kernel_rfl,?_,?_⟩,?_⟩⟩
 ·refine zf_ (n:=1) (by kernel_rfl) fun i hi=>?_
  match i,hi with
  | 0,_=>exact zd_ (by kernel_rfl) (qqc_ k pins pinB)
  | n+1,hi=>omega
 ·exact z8_ (by kernel_rfl)
 ·rintro ⟨⟨⟨⟩,k1,⟨⟩⟩,⟨q_1,⟨⟩⟩,⟨⟩⟩
  kernel_rfl
def za5_ (k:Nat):Nat→zT1→Int→Int→(Int→Option Int)→Option Int
 | 0,_,_,_,_=>none
 | n+1,a0,k1,i5,e_0=>(if (decide (i5<(List.length a0:Int)))=true then (if 0≤i5 then (a0[i5.toNat]?).bind fun y_1=>(if (!(decide (y_1.1=k1)))=true then some (-1) else (if 0≤i5 then (a0[i5.toNat]?).bind fun y_2=>(z5c_ k (z0_ (k1+1))).bind fun r_3=>(if (!(decide (y_2.2.1=r_3)))=true then some (-1) else (if 0≤i5 then (a0[i5.toNat]?).bind fun y_4=>(z5c_ k (z0_ ((z0_ (k1+1))+1))).bind fun r_5=>(if (!(decide (y_4.2.2=r_5)))=true then some (-1) else za5_ k n a0 (z0_ ((z0_ ((z0_ (k1+1))+1))+1)) (z0_ (i5+1)) e_0) else none)) else none)) else none) else e_0 k1)
def za6_ (k:Nat) (a0:List (Int×List UInt8×List UInt8)) (k1:Int):Option Int:=za5_ k k a0 k1 0 (fun k_6=>some k_6)
def qqe_:Head:=⟨[(0,(.val (.sl 73 (.st (.pr (.int .i64) (.pr .str .str)))))),(1,(.val (.int .i64))),(5,(.val (.int .i64)))],[],[]⟩
def qqf_:Head:=⟨[(1,(.val (.int .i64)))],[],[]⟩
def qqg_ (k n:Nat) (x:qqe_.T) (kx:Nat→St→Option Int):Option Int:=za5_ k n x.1.1 x.1.2.1 x.1.2.2.1 (fun (k1:Int)=>kx 0 (qqf_.fill ((k1,()),(),())))
def qqh_ (k:Nat):Oracles Int:=⟨fun n=>bif Nat.beq n 2 then some (fun σ kx=>qqe_.get σ fun x=>qqg_ k k x kx) else none,fun _=>none⟩
def qqi_ (k:Nat):FE:=⟨(.pr (.sl 73 (.st (.pr (.int .i64) (.pr .str .str)))) (.int .i64)),1,(.int .i64),fun x=>za6_ k x.1 x.2⟩
theorem qqj_ (k:Nat):zc_ (z3_ ti [(33,qq2_ k)] (lk []) z4_ z5_) (qqh_ k) (rdC (z3_ ti [(33,qq2_ k)] (lk []) z4_ z5_) [.tmp 4] (.int .i64)) ((zb_ (z2_ Tryz.f12)).getD 0 .skip) (fun σ kx=>qqe_.get σ fun x=>qqg_ k k x kx):=by
 refine ⟨qqe_,[(0,qqf_)],fun n x kx=>qqg_ k n x kx,k,by kernel_rfl,by kernel_rfl,fun x kx=>by kernel_rfl,?_,fun σ kx=>rfl⟩
 rintro n ⟨⟨a0,k1,i5,⟨⟩⟩,⟨⟩,⟨⟩⟩ kx
 kernel_rfl
theorem qqk_ (k:Nat):FnOK Tryz.prog 12 (qqi_ k):=by
 refine za_ (tab:=[(33,qq2_ k)]) (l:=[]) z7_ z9_ mix (List.forall_mem_cons.2 ⟨qq4_ k,(List.forall_mem_nil _)⟩) (List.forall_mem_nil _) ⟨⟨Tryz.f12,(z2_ Tryz.f12),[.tmp 4],(qqh_ k),by kernel_rfl,by kernel_rfl,by kernel_rfl,by kernel_rfl,rfl,by decide,⟨by kernel_rfl,?_,?_⟩,?_⟩⟩
 ·refine zf_ (n:=1) (by kernel_rfl) fun i hi=>?_
  match i,hi with
  | 0,_=>exact zd_ (by kernel_rfl) (qqj_ k)
  | n+1,hi=>omega
 ·exact z8_ (by kernel_rfl)
 ·rintro ⟨a0,k1⟩
  kernel_rfl
end
end Go.Proofs.YtioaaljaohhjiaaGreatDoor.Ev
