/- Functions of the program, as plain ones. No conditions. -/
import Derived.Test.YthbodbmcalfmaaaGreatDoorG11
import Derived.KernelRfl
set_option linter.unusedVariables false
set_option maxRecDepth 100000
namespace Go.Proofs.YthbodbmcalfmaaaGreatDoor.Ev
open Go.RowKit
noncomputable section
def zer_ (a0:Int×Int×Int) (b1:Int×Int×Int):Option Bool:=(if (!(decide (a0.1=b1.1)))=true then some false else (if (!(decide (a0.2.1=b1.2.1)))=true then some false else (if (!(decide (a0.2.2=b1.2.2)))=true then some false else some true)))
def qkx_:FE:=⟨(.pr (.st (.pr (.int .i64) (.pr (.int .i64) (.int .i64)))) (.st (.pr (.int .i64) (.pr (.int .i64) (.int .i64))))),1,.bool,fun x=>zer_ x.1 x.2⟩
theorem qky_:FnOK Tryz.prog 101 (qkx_):=by
 refine za_ (tab:=[]) (l:=[]) z7_ z9_ mix (List.forall_mem_nil _) (List.forall_mem_nil _) ⟨⟨Tryz.f101,(z2_ Tryz.f101),[.tmp 4],(LOn Bool),by kernel_rfl,by kernel_rfl,by kernel_rfl,by kernel_rfl,rfl,by decide,⟨by kernel_rfl,?_,?_⟩,?_⟩⟩
 ·exact ze_ (by kernel_rfl)
 ·exact z8_ (by kernel_rfl)
 ·rintro ⟨a0,b1⟩
  kernel_rfl
def z97_ (k:Nat):Nat→zT2→zT2→Int→(Option Bool)→Option Bool
 | 0,_,_,_,_=>none
 | n+1,a0,b1,i5,e_0=>(if (decide (i5<(List.length a0:Int)))=true then (if 0≤i5 then (a0[i5.toNat]?).bind fun y_1=>(if 0≤i5 then (b1[i5.toNat]?).bind fun y_2=>(zer_ y_1 y_2).bind fun r_3=>(if (!r_3)=true then some false else z97_ k n a0 b1 (z0_ (i5+1)) e_0) else none) else none) else e_0)
def zes_ (k:Nat) (a0:List (Int×Int×Int)) (b1:List (Int×Int×Int)):Option Bool:=(if (!(decide ((List.length a0:Int)=(List.length b1:Int))))=true then some false else z97_ k k a0 b1 0 (some true))
def qkz_:Head:=⟨[(0,(.val (.sl 135 (.st (.pr (.int .i64) (.pr (.int .i64) (.int .i64))))))),(1,(.val (.sl 135 (.st (.pr (.int .i64) (.pr (.int .i64) (.int .i64))))))),(5,(.val (.int .i64)))],[],[]⟩
def ql0_:Head:=⟨[],[],[]⟩
def ql1_ (k n:Nat) (x:qkz_.T) (kx:Nat→St→Option Bool):Option Bool:=z97_ k n x.1.1 x.1.2.1 x.1.2.2.1 (kx 0 (ql0_.fill ((),(),())))
def ql2_ (k:Nat):Oracles Bool:=⟨fun n=>bif Nat.beq n 4 then some (fun σ kx=>qkz_.get σ fun x=>ql1_ k k x kx) else none,fun _=>none⟩
def ql3_ (k:Nat):FE:=⟨(.pr (.sl 135 (.st (.pr (.int .i64) (.pr (.int .i64) (.int .i64))))) (.sl 135 (.st (.pr (.int .i64) (.pr (.int .i64) (.int .i64)))))),1,.bool,fun x=>zes_ k x.1 x.2⟩
theorem ql4_ (k:Nat):zc_ (z3_ ti [(101,qkx_)] (lk []) z4_ z5_) (ql2_ k) (rdC (z3_ ti [(101,qkx_)] (lk []) z4_ z5_) [.tmp 4] .bool) ((zb_ (z2_ Tryz.f56)).getD 0 .skip) (fun σ kx=>qkz_.get σ fun x=>ql1_ k k x kx):=by
 refine ⟨qkz_,[(0,ql0_)],fun n x kx=>ql1_ k n x kx,k,by kernel_rfl,by kernel_rfl,fun x kx=>by kernel_rfl,?_,fun σ kx=>rfl⟩
 rintro n ⟨⟨a0,b1,i5,⟨⟩⟩,⟨⟩,⟨⟩⟩ kx
 kernel_rfl
theorem ql5_ (k:Nat):FnOK Tryz.prog 56 (ql3_ k):=by
 refine za_ (tab:=[(101,qkx_)]) (l:=[]) z7_ z9_ mix (List.forall_mem_cons.2 ⟨qky_,(List.forall_mem_nil _)⟩) (List.forall_mem_nil _) ⟨⟨Tryz.f56,(z2_ Tryz.f56),[.tmp 4],(ql2_ k),by kernel_rfl,by kernel_rfl,by kernel_rfl,by kernel_rfl,rfl,by decide,⟨by kernel_rfl,?_,?_⟩,?_⟩⟩
 ·refine zh_ (n:=1) (by kernel_rfl) fun i hi=>?_
  match i,hi with
  | 0,_=>exact zd_ (by kernel_rfl) (ql4_ k)
  | n+1,hi=>omega
 ·exact z8_ (by kernel_rfl)
 ·rintro ⟨a0,b1⟩
  kernel_rfl
def zet_ (k:Nat) (a0:Int×Int×List (Int×Int×Int)) (b1:Int×Int×List (Int×Int×Int)):Option Bool:=(if (!(decide (a0.1=b1.1)))=true then some false else (if (!(decide (a0.2.1=b1.2.1)))=true then some false else (zes_ k a0.2.2 b1.2.2).bind fun r_1=>(if (!r_1)=true then some false else some true)))
def ql6_ (k:Nat):FE:=⟨(.pr (.st (.pr (.int .i64) (.pr (.int .i64) (.sl 135 (.st (.pr (.int .i64) (.pr (.int .i64) (.int .i64)))))))) (.st (.pr (.int .i64) (.pr (.int .i64) (.sl 135 (.st (.pr (.int .i64) (.pr (.int .i64) (.int .i64))))))))),1,.bool,fun x=>zet_ k x.1 x.2⟩
theorem ql7_ (k:Nat):FnOK Tryz.prog 28 (ql6_ k):=by
 refine za_ (tab:=[(56,ql3_ k)]) (l:=[]) z7_ z9_ mix (List.forall_mem_cons.2 ⟨ql5_ k,(List.forall_mem_nil _)⟩) (List.forall_mem_nil _) ⟨⟨Tryz.f28,(z2_ Tryz.f28),[.tmp 4],(LOn Bool),by kernel_rfl,by kernel_rfl,by kernel_rfl,by kernel_rfl,rfl,by decide,⟨by kernel_rfl,?_,?_⟩,?_⟩⟩
 ·exact ze_ (by kernel_rfl)
 ·exact z8_ (by kernel_rfl)
 ·rintro ⟨a0,b1⟩
  kernel_rfl
def zeu_ (k:Nat) (a0:zT0×Int×List Int×List Int×(Int×Int×Int×List (Int×Int×Int))×List Int×List Int×(Int×Int×List (Int×Int×Int))×List Int) (b1:zT0×Int×List Int×List Int×(Int×Int×Int×List (Int×Int×Int))×List Int×List Int×(Int×Int×List (Int×Int×Int))×List Int):Option Bool:=(zen_ k a0.1 b1.1).bind fun r_1=>(if (!r_1)=true then some false else (if (!(decide (a0.2.1=b1.2.1)))=true then some false else (z43_ k a0.2.2.1 b1.2.2.1).bind fun r_2=>(if (!r_2)=true then some false else (z43_ k a0.2.2.2.1 b1.2.2.2.1).bind fun r_3=>(if (!r_3)=true then some false else (zeq_ k a0.2.2.2.2.1 b1.2.2.2.2.1).bind fun r_4=>(if (!r_4)=true then some false else (z43_ k a0.2.2.2.2.2.1 b1.2.2.2.2.2.1).bind fun r_5=>(if (!r_5)=true then some false else (z43_ k a0.2.2.2.2.2.2.1 b1.2.2.2.2.2.2.1).bind fun r_6=>(if (!r_6)=true then some false else (zet_ k a0.2.2.2.2.2.2.2.1 b1.2.2.2.2.2.2.2.1).bind fun r_7=>(if (!r_7)=true then some false else (z43_ k a0.2.2.2.2.2.2.2.2 b1.2.2.2.2.2.2.2.2).bind fun r_8=>(if (!r_8)=true then some false else some true)))))))))
def ql8_ (k:Nat):FE:=⟨(.pr (.st (.pr (.st (.pr (.st (.sl 25 (.sl 2 (.int .i64)))) (.pr (.int .i64) (.pr (.sl 2 (.int .i64)) (.sl 137 (.st (.pr (.int .i64) (.pr (.int .i64) (.pr (.int .i64) (.sl 2 (.int .i64))))))))))) (.pr (.int .i64) (.pr (.sl 2 (.int .i64)) (.pr (.sl 2 (.int .i64)) (.pr (.st (.pr (.int .i64) (.pr (.int .i64) (.pr (.int .i64) (.sl 140 (.st (.pr (.int .i64) (.pr (.int .i64) (.int .i64))))))))) (.pr (.sl 2 (.int .i64)) (.pr (.sl 2 (.int .i64)) (.pr (.st (.pr (.int .i64) (.pr (.int .i64) (.sl 135 (.st (.pr (.int .i64) (.pr (.int .i64) (.int .i64)))))))) (.sl 2 (.int .i64))))))))))) (.st (.pr (.st (.pr (.st (.sl 25 (.sl 2 (.int .i64)))) (.pr (.int .i64) (.pr (.sl 2 (.int .i64)) (.sl 137 (.st (.pr (.int .i64) (.pr (.int .i64) (.pr (.int .i64) (.sl 2 (.int .i64))))))))))) (.pr (.int .i64) (.pr (.sl 2 (.int .i64)) (.pr (.sl 2 (.int .i64)) (.pr (.st (.pr (.int .i64) (.pr (.int .i64) (.pr (.int .i64) (.sl 140 (.st (.pr (.int .i64) (.pr (.int .i64) (.int .i64))))))))) (.pr (.sl 2 (.int .i64)) (.pr (.sl 2 (.int .i64)) (.pr (.st (.pr (.int .i64) (.pr (.int .i64) (.sl 135 (.st (.pr (.int .i64) (.pr (.int .i64) (.int .i64)))))))) (.sl 2 (.int .i64)))))))))))),1,.bool,fun x=>zeu_ k x.1 x.2⟩
theorem ql9_ (k:Nat):FnOK Tryz.prog 9 (ql8_ k):=by
 refine za_ (tab:=[(25,qkk_ k),(26,qjz_ k),(27,qkv_ k),(28,ql6_ k)]) (l:=[]) z7_ z9_ mix (List.forall_mem_cons.2 ⟨qkl_ k,(List.forall_mem_cons.2 ⟨qk1_ k,(List.forall_mem_cons.2 ⟨qkw_ k,(List.forall_mem_cons.2 ⟨ql7_ k,(List.forall_mem_nil _)⟩)⟩)⟩)⟩) (List.forall_mem_nil _) ⟨⟨Tryz.f9,(z2_ Tryz.f9),[.tmp 4],(LOn Bool),by kernel_rfl,by kernel_rfl,by kernel_rfl,by kernel_rfl,rfl,by decide,⟨by kernel_rfl,?_,?_⟩,?_⟩⟩
 ·exact ze_ (by kernel_rfl)
 ·exact z8_ (by kernel_rfl)
 ·rintro ⟨a0,b1⟩
  kernel_rfl
def z98_ (k:Nat):Nat→Nat→Int→Int→zT4→(Int→zT4→Option (((Int×Unit)×(zT4×Unit)×Unit)))→Option (((Int×Unit)×(zT4×Unit)×Unit))
 | 0,_,_,_,_,_=>none
 | n+1,a0n0,k1,i5,q_2,e_0=>(q_2[a0n0]?).bind fun y_3=>(if (decide (i5<(List.length y_3:Int)))=true then (q_2[a0n0]?).bind fun y_4=>(if 0≤i5∧i5.toNat<List.length y_4 then (q_2[a0n0]?).bind fun y_5=>(y_5[i5.toNat]?).bind fun y_6=>(q_2[a0n0]?).bind fun y_7=>(y_7[i5.toNat]?).bind fun y_8=>z98_ k n a0n0 (z0_ (k1+1)) (z0_ (i5+1)) (q_2.set a0n0 (y_7.set i5.toNat k1)) e_0 else none) else e_0 k1 q_2)
def zev_ (k:Nat) (a0n0:Nat) (k1:Int) (q_1:List (List Int)):Option (((Int×Unit)×(zT4×Unit)×Unit)):=z98_ k k a0n0 k1 0 q_1 (fun k_9 q_10=>some ((k_9,()),(q_10,()),()))
def qla_:Head:=⟨[(0,(.ref 1000000000 [.ix])),(1,(.val (.int .i64))),(5,(.val (.int .i64)))],[(1000000000,25,(.sl 2 (.int .i64)),false)],[]⟩
def qlb_:Head:=⟨[(1,(.val (.int .i64)))],[(1000000000,25,(.sl 2 (.int .i64)),false)],[]⟩
def qlc_ (k n:Nat) (x:qla_.T) (kx:Nat→St→Option (((Int×Unit)×(zT4×Unit)×Unit))):Option (((Int×Unit)×(zT4×Unit)×Unit)):=z98_ k n x.1.1.1 x.1.2.1 x.1.2.2.1 x.2.1.1 (fun (k1:Int) (q_9:List (List Int))=>kx 0 (qlb_.fill ((k1,()),(q_9,()),())))
def qld_ (k:Nat):Oracles (((Int×Unit)×(zT4×Unit)×Unit)):=⟨fun n=>bif Nat.beq n 2 then some (fun σ kx=>qla_.get σ fun x=>qlc_ k k x kx) else none,fun _=>none⟩
def qle_:Head:=⟨[(0,(.ref 1000000000 [.ix])),(1,(.val (.int .i64)))],[(1000000000,25,(.sl 2 (.int .i64)),false)],[]⟩
def qlf_:Head:=⟨[(0,(.val (.int .i64)))],[(1000000000,25,(.sl 2 (.int .i64)),false)],[]⟩
def qlg_ (k:Nat):OC:=⟨qle_,qlf_,fun x=>zev_ k x.1.1.1 x.1.2.1 x.2.1.1,false⟩
theorem qlh_ (k:Nat) (pins:Nat→Value) (pinB:Nat→Nat):zc_ (z3_ ti [] (lk []) pins pinB) (qld_ k) (rdO (z3_ ti [] (lk []) pins pinB) [.tmp 4] qlf_) ((zb_ (z2_ Tryz.f30)).getD 0 .skip) (fun σ kx=>qla_.get σ fun x=>qlc_ k k x kx):=by
 refine ⟨qla_,[(0,qlb_)],fun n x kx=>qlc_ k n x kx,k,by kernel_rfl,by kernel_rfl,fun x kx=>by kernel_rfl,?_,fun σ kx=>rfl⟩
 rintro n ⟨⟨⟨a0n0,⟨⟩⟩,k1,i5,⟨⟩⟩,⟨q_2,⟨⟩⟩,⟨⟩⟩ kx
 kernel_rfl
theorem qli_ (k:Nat):z16_ Tryz.prog ti 30 (qlg_ k):=by
 refine z3i_ (tab:=[]) (l:=[]) z7_ z9_ mix (List.forall_mem_nil _) (List.forall_mem_nil _) ⟨by kernel_rfl,by kernel_rfl,by kernel_rfl,Tryz.f30,(z2_ Tryz.f30),[.tmp 4],(qld_ k),by kernel_rfl,by kernel_rfl,by kernel_rfl,by kernel_rfl,Nat.le_of_ble_eq_true (by kernel_rfl),fun pins pinB=>⟨⟨by kernel_rfl,?_,?_⟩,?_⟩⟩
 ·refine zh_ (n:=1) (by kernel_rfl) fun i hi=>?_
  match i,hi with
  | 0,_=>exact zd_ (by kernel_rfl) (qlh_ k pins pinB)
  | n+1,hi=>omega
 ·exact z8_ (by kernel_rfl)
 ·rintro ⟨⟨⟨a0n0,⟨⟩⟩,k1,⟨⟩⟩,⟨q_1,⟨⟩⟩,⟨⟩⟩
  kernel_rfl
def z99_ (k:Nat):Nat→Int→Int→zT4→(Int→zT4→Option (((Int×Unit)×(zT4×Unit)×Unit)))→Option (((Int×Unit)×(zT4×Unit)×Unit))
 | 0,_,_,_,_=>none
 | n+1,k1,i5,q_2,e_0=>(if (decide (i5<(List.length q_2:Int)))=true then (if 0≤i5∧i5.toNat<List.length q_2 then (q_2[i5.toNat]?).bind fun y_3=>(zev_ k i5.toNat k1 q_2).bind fun y_4=>z99_ k n y_4.1.1 (z0_ (i5+1)) y_4.2.1.1 e_0 else none) else e_0 k1 q_2)
def zew_ (k:Nat) (k1:Int) (q_1:List (List Int)):Option (((Int×Unit)×(zT4×Unit)×Unit)):=z99_ k k k1 0 q_1 (fun k_5 q_6=>some ((k_5,()),(q_6,()),()))
def qlj_:Head:=⟨[(0,(.ref 1000000000 [])),(1,(.val (.int .i64))),(5,(.val (.int .i64)))],[(1000000000,25,(.sl 2 (.int .i64)),false)],[]⟩
def qlk_:Head:=⟨[(1,(.val (.int .i64)))],[(1000000000,25,(.sl 2 (.int .i64)),false)],[]⟩
def qll_ (k n:Nat) (x:qlj_.T) (kx:Nat→St→Option (((Int×Unit)×(zT4×Unit)×Unit))):Option (((Int×Unit)×(zT4×Unit)×Unit)):=z99_ k n x.1.2.1 x.1.2.2.1 x.2.1.1 (fun (k1:Int) (q_6:List (List Int))=>kx 0 (qlk_.fill ((k1,()),(q_6,()),())))
def qlm_ (k:Nat):Oracles (((Int×Unit)×(zT4×Unit)×Unit)):=⟨fun n=>bif Nat.beq n 2 then some (fun σ kx=>qlj_.get σ fun x=>qll_ k k x kx) else none,fun _=>none⟩
def qln_:Head:=⟨[(0,(.ref 1000000000 [])),(1,(.val (.int .i64)))],[(1000000000,25,(.sl 2 (.int .i64)),false)],[]⟩
def qlo_:Head:=⟨[(0,(.val (.int .i64)))],[(1000000000,25,(.sl 2 (.int .i64)),false)],[]⟩
def qlp_ (k:Nat):OC:=⟨qln_,qlo_,fun x=>zew_ k x.1.2.1 x.2.1.1,false⟩
theorem qlq_ (k:Nat) (pins:Nat→Value) (pinB:Nat→Nat):zc_ (z3_ ti [] (lk [(17,30,qlg_ k)]) pins pinB) (qlm_ k) (rdO (z3_ ti [] (lk [(17,30,qlg_ k)]) pins pinB) [.tmp 4] qlo_) ((zb_ (z2_ Tryz.f102)).getD 0 .skip) (fun σ kx=>qlj_.get σ fun x=>qll_ k k x kx):=by
 refine ⟨qlj_,[(0,qlk_)],fun n x kx=>qll_ k n x kx,k,by kernel_rfl,by kernel_rfl,fun x kx=>by kernel_rfl,?_,fun σ kx=>rfl⟩
 rintro n ⟨⟨⟨⟩,k1,i5,⟨⟩⟩,⟨q_2,⟨⟩⟩,⟨⟩⟩ kx
 kernel_rfl
theorem qlr_ (k:Nat):z16_ Tryz.prog ti 102 (qlp_ k):=by
 refine z3i_ (tab:=[]) (l:=[(17,30,qlg_ k)]) z7_ z9_ mix (List.forall_mem_nil _) (List.forall_mem_cons.2 ⟨qli_ k,(List.forall_mem_nil _)⟩) ⟨by kernel_rfl,by kernel_rfl,by kernel_rfl,Tryz.f102,(z2_ Tryz.f102),[.tmp 4],(qlm_ k),by kernel_rfl,by kernel_rfl,by kernel_rfl,by kernel_rfl,Nat.le_of_ble_eq_true (by kernel_rfl),fun pins pinB=>⟨⟨by kernel_rfl,?_,?_⟩,?_⟩⟩
 ·refine zh_ (n:=1) (by kernel_rfl) fun i hi=>?_
  match i,hi with
  | 0,_=>exact zd_ (by kernel_rfl) (qlq_ k pins pinB)
  | n+1,hi=>omega
 ·exact z8_ (by kernel_rfl)
 ·rintro ⟨⟨⟨⟩,k1,⟨⟩⟩,⟨q_1,⟨⟩⟩,⟨⟩⟩
  kernel_rfl
def zi9_ (k:Nat) (k1:Int) (q_1:List (List Int)):Option (((Int×Unit)×(zT4×Unit)×Unit)):=(zew_ k k1 q_1).bind fun y_2=>some ((y_2.1.1,()),(y_2.2.1.1,()),())
def qls_:Head:=⟨[(0,(.st (.ref 1000000000 []))),(1,(.val (.int .i64)))],[(1000000000,25,(.sl 2 (.int .i64)),false)],[]⟩
def qlt_:Head:=⟨[(0,(.val (.int .i64)))],[(1000000000,25,(.sl 2 (.int .i64)),false)],[]⟩
def qlu_ (k:Nat):OC:=⟨qls_,qlt_,fun x=>zi9_ k x.1.2.1 x.2.1.1,false⟩
theorem qlv_ (k:Nat):z16_ Tryz.prog ti 57 (qlu_ k):=by
 refine z3i_ (tab:=[]) (l:=[(8,102,qlp_ k)]) z7_ z9_ mix (List.forall_mem_nil _) (List.forall_mem_cons.2 ⟨qlr_ k,(List.forall_mem_nil _)⟩) ⟨by kernel_rfl,by kernel_rfl,by kernel_rfl,Tryz.f57,(z2_ Tryz.f57),[.tmp 4],(LOn (((Int×Unit)×(zT4×Unit)×Unit))),by kernel_rfl,by kernel_rfl,by kernel_rfl,by kernel_rfl,Nat.le_of_ble_eq_true (by kernel_rfl),fun pins pinB=>⟨⟨by kernel_rfl,?_,?_⟩,?_⟩⟩
 ·exact ze_ (by kernel_rfl)
 ·exact z8_ (by kernel_rfl)
 ·rintro ⟨⟨⟨⟩,k1,⟨⟩⟩,⟨q_1,⟨⟩⟩,⟨⟩⟩
  kernel_rfl
def z9a_ (k:Nat):Nat→Int→Int→(List Int)→(Int→(List Int)→Option (((Int×Unit)×((List Int)×Unit)×Unit)))→Option (((Int×Unit)×((List Int)×Unit)×Unit))
 | 0,_,_,_,_=>none
 | n+1,k1,i5,q_2,e_0=>(if (decide (i5<(List.length q_2:Int)))=true then (if 0≤i5∧i5.toNat<List.length q_2 then (q_2[i5.toNat]?).bind fun y_3=>(q_2[i5.toNat]?).bind fun y_4=>z9a_ k n (z0_ (k1+1)) (z0_ (i5+1)) (q_2.set i5.toNat k1) e_0 else none) else e_0 k1 q_2)
def z5b_ (k:Nat) (k1:Int) (q_1:List Int):Option (((Int×Unit)×((List Int)×Unit)×Unit)):=z9a_ k k k1 0 q_1 (fun k_5 q_6=>some ((k_5,()),(q_6,()),()))
def qlw_:Head:=⟨[(0,(.ref 1000000000 [])),(1,(.val (.int .i64))),(5,(.val (.int .i64)))],[(1000000000,2,(.int .i64),false)],[]⟩
def qlx_:Head:=⟨[(1,(.val (.int .i64)))],[(1000000000,2,(.int .i64),false)],[]⟩
def qly_ (k n:Nat) (x:qlw_.T) (kx:Nat→St→Option (((Int×Unit)×((List Int)×Unit)×Unit))):Option (((Int×Unit)×((List Int)×Unit)×Unit)):=z9a_ k n x.1.2.1 x.1.2.2.1 x.2.1.1 (fun (k1:Int) (q_5:List Int)=>kx 0 (qlx_.fill ((k1,()),(q_5,()),())))
def qlz_ (k:Nat):Oracles (((Int×Unit)×((List Int)×Unit)×Unit)):=⟨fun n=>bif Nat.beq n 2 then some (fun σ kx=>qlw_.get σ fun x=>qly_ k k x kx) else none,fun _=>none⟩
def qm0_:Head:=⟨[(0,(.ref 1000000000 [])),(1,(.val (.int .i64)))],[(1000000000,2,(.int .i64),false)],[]⟩
def qm1_:Head:=⟨[(0,(.val (.int .i64)))],[(1000000000,2,(.int .i64),false)],[]⟩
def qm2_ (k:Nat):OC:=⟨qm0_,qm1_,fun x=>z5b_ k x.1.2.1 x.2.1.1,false⟩
theorem qm3_ (k:Nat) (pins:Nat→Value) (pinB:Nat→Nat):zc_ (z3_ ti [] (lk []) pins pinB) (qlz_ k) (rdO (z3_ ti [] (lk []) pins pinB) [.tmp 4] qm1_) ((zb_ (z2_ Tryz.f30)).getD 0 .skip) (fun σ kx=>qlw_.get σ fun x=>qly_ k k x kx):=by
 refine ⟨qlw_,[(0,qlx_)],fun n x kx=>qly_ k n x kx,k,by kernel_rfl,by kernel_rfl,fun x kx=>by kernel_rfl,?_,fun σ kx=>rfl⟩
 rintro n ⟨⟨⟨⟩,k1,i5,⟨⟩⟩,⟨q_2,⟨⟩⟩,⟨⟩⟩ kx
 kernel_rfl
theorem qm4_ (k:Nat):z16_ Tryz.prog ti 30 (qm2_ k):=by
 refine z3i_ (tab:=[]) (l:=[]) z7_ z9_ mix (List.forall_mem_nil _) (List.forall_mem_nil _) ⟨by kernel_rfl,by kernel_rfl,by kernel_rfl,Tryz.f30,(z2_ Tryz.f30),[.tmp 4],(qlz_ k),by kernel_rfl,by kernel_rfl,by kernel_rfl,by kernel_rfl,Nat.le_of_ble_eq_true (by kernel_rfl),fun pins pinB=>⟨⟨by kernel_rfl,?_,?_⟩,?_⟩⟩
 ·refine zh_ (n:=1) (by kernel_rfl) fun i hi=>?_
  match i,hi with
  | 0,_=>exact zd_ (by kernel_rfl) (qm3_ k pins pinB)
  | n+1,hi=>omega
 ·exact z8_ (by kernel_rfl)
 ·rintro ⟨⟨⟨⟩,k1,⟨⟩⟩,⟨q_1,⟨⟩⟩,⟨⟩⟩
  kernel_rfl
def z9b_ (k:Nat):Nat→Nat→Int→Int→zT3→(Int→zT3→Option (((Int×Unit)×(zT3×Unit)×Unit)))→Option (((Int×Unit)×(zT3×Unit)×Unit))
 | 0,_,_,_,_,_=>none
 | n+1,a0n0,k1,i5,q_2,e_0=>(q_2[a0n0]?).bind fun y_3=>(if (decide (i5<(List.length y_3.2.2.2:Int)))=true then (q_2[a0n0]?).bind fun y_4=>(if 0≤i5∧i5.toNat<List.length y_4.2.2.2 then (q_2[a0n0]?).bind fun y_5=>(y_5.2.2.2[i5.toNat]?).bind fun y_6=>(q_2[a0n0]?).bind fun y_7=>(y_7.2.2.2[i5.toNat]?).bind fun y_8=>z9b_ k n a0n0 (z0_ (k1+1)) (z0_ (i5+1)) (q_2.set a0n0 (y_7.1,(y_7.2.1,(y_7.2.2.1,(y_7.2.2.2.set i5.toNat k1))))) e_0 else none) else e_0 k1 q_2)
def zex_ (k:Nat) (a0n0:Nat) (k1:Int) (q_1:List (Int×Int×Int×List Int)):Option (((Int×Unit)×(zT3×Unit)×Unit)):=z9b_ k k a0n0 k1 0 q_1 (fun k_9 q_10=>some ((k_9,()),(q_10,()),()))
def qm5_:Head:=⟨[(0,(.ref 1000000000 [.ix,.f true,.f true,.f true])),(1,(.val (.int .i64))),(5,(.val (.int .i64)))],[(1000000000,137,(.st (.pr (.int .i64) (.pr (.int .i64) (.pr (.int .i64) (.sl 2 (.int .i64)))))),false)],[]⟩
def qm6_:Head:=⟨[(1,(.val (.int .i64)))],[(1000000000,137,(.st (.pr (.int .i64) (.pr (.int .i64) (.pr (.int .i64) (.sl 2 (.int .i64)))))),false)],[]⟩
def qm7_ (k n:Nat) (x:qm5_.T) (kx:Nat→St→Option (((Int×Unit)×(zT3×Unit)×Unit))):Option (((Int×Unit)×(zT3×Unit)×Unit)):=z9b_ k n x.1.1.1 x.1.2.1 x.1.2.2.1 x.2.1.1 (fun (k1:Int) (q_9:List (Int×Int×Int×List Int))=>kx 0 (qm6_.fill ((k1,()),(q_9,()),())))
def qm8_ (k:Nat):Oracles (((Int×Unit)×(zT3×Unit)×Unit)):=⟨fun n=>bif Nat.beq n 2 then some (fun σ kx=>qm5_.get σ fun x=>qm7_ k k x kx) else none,fun _=>none⟩
def qm9_:Head:=⟨[(0,(.ref 1000000000 [.ix,.f true,.f true,.f true])),(1,(.val (.int .i64)))],[(1000000000,137,(.st (.pr (.int .i64) (.pr (.int .i64) (.pr (.int .i64) (.sl 2 (.int .i64)))))),false)],[]⟩
def qma_:Head:=⟨[(0,(.val (.int .i64)))],[(1000000000,137,(.st (.pr (.int .i64) (.pr (.int .i64) (.pr (.int .i64) (.sl 2 (.int .i64)))))),false)],[]⟩
def qmb_ (k:Nat):OC:=⟨qm9_,qma_,fun x=>zex_ k x.1.1.1 x.1.2.1 x.2.1.1,false⟩
theorem qmc_ (k:Nat) (pins:Nat→Value) (pinB:Nat→Nat):zc_ (z3_ ti [] (lk []) pins pinB) (qm8_ k) (rdO (z3_ ti [] (lk []) pins pinB) [.tmp 4] qma_) ((zb_ (z2_ Tryz.f30)).getD 0 .skip) (fun σ kx=>qm5_.get σ fun x=>qm7_ k k x kx):=by
 refine ⟨qm5_,[(0,qm6_)],fun n x kx=>qm7_ k n x kx,k,by kernel_rfl,by kernel_rfl,fun x kx=>by kernel_rfl,?_,fun σ kx=>rfl⟩
 rintro n ⟨⟨⟨a0n0,⟨⟩⟩,k1,i5,⟨⟩⟩,⟨q_2,⟨⟩⟩,⟨⟩⟩ kx
 kernel_rfl
theorem qmd_ (k:Nat):z16_ Tryz.prog ti 30 (qmb_ k):=by
 refine z3i_ (tab:=[]) (l:=[]) z7_ z9_ mix (List.forall_mem_nil _) (List.forall_mem_nil _) ⟨by kernel_rfl,by kernel_rfl,by kernel_rfl,Tryz.f30,(z2_ Tryz.f30),[.tmp 4],(qm8_ k),by kernel_rfl,by kernel_rfl,by kernel_rfl,by kernel_rfl,Nat.le_of_ble_eq_true (by kernel_rfl),fun pins pinB=>⟨⟨by kernel_rfl,?_,?_⟩,?_⟩⟩
 ·refine zh_ (n:=1) (by kernel_rfl) fun i hi=>?_
  match i,hi with
  | 0,_=>exact zd_ (by kernel_rfl) (qmc_ k pins pinB)
  | n+1,hi=>omega
 ·exact z8_ (by kernel_rfl)
 ·rintro ⟨⟨⟨a0n0,⟨⟩⟩,k1,⟨⟩⟩,⟨q_1,⟨⟩⟩,⟨⟩⟩
  kernel_rfl
def z9c_ (k:Nat):Nat→Int→Int→zT3→(Int→zT3→Option (((Int×Unit)×(zT3×Unit)×Unit)))→Option (((Int×Unit)×(zT3×Unit)×Unit))
 | 0,_,_,_,_=>none
 | n+1,k1,i5,q_2,e_0=>(if (decide (i5<(List.length q_2:Int)))=true then (if 0≤i5∧i5.toNat<List.length q_2 then (q_2[i5.toNat]?).bind fun y_3=>(q_2[i5.toNat]?).bind fun y_4=>(if 0≤i5∧i5.toNat<List.length (q_2.set i5.toNat (k1,y_3.2)) then ((q_2.set i5.toNat (k1,y_3.2))[i5.toNat]?).bind fun y_5=>((q_2.set i5.toNat (k1,y_3.2))[i5.toNat]?).bind fun y_6=>(if 0≤i5∧i5.toNat<List.length ((q_2.set i5.toNat (k1,y_3.2)).set i5.toNat (y_5.1,((z0_ (k1+1)),y_5.2.2))) then (((q_2.set i5.toNat (k1,y_3.2)).set i5.toNat (y_5.1,((z0_ (k1+1)),y_5.2.2)))[i5.toNat]?).bind fun y_7=>(((q_2.set i5.toNat (k1,y_3.2)).set i5.toNat (y_5.1,((z0_ (k1+1)),y_5.2.2)))[i5.toNat]?).bind fun y_8=>(if 0≤i5∧i5.toNat<List.length (((q_2.set i5.toNat (k1,y_3.2)).set i5.toNat (y_5.1,((z0_ (k1+1)),y_5.2.2))).set i5.toNat (y_7.1,(y_7.2.1,((z0_ ((z0_ (k1+1))+1)),y_7.2.2.2)))) then ((((q_2.set i5.toNat (k1,y_3.2)).set i5.toNat (y_5.1,((z0_ (k1+1)),y_5.2.2))).set i5.toNat (y_7.1,(y_7.2.1,((z0_ ((z0_ (k1+1))+1)),y_7.2.2.2))))[i5.toNat]?).bind fun y_9=>(zex_ k i5.toNat (z0_ ((z0_ ((z0_ (k1+1))+1))+1)) (((q_2.set i5.toNat (k1,y_3.2)).set i5.toNat (y_5.1,((z0_ (k1+1)),y_5.2.2))).set i5.toNat (y_7.1,(y_7.2.1,((z0_ ((z0_ (k1+1))+1)),y_7.2.2.2))))).bind fun y_10=>z9c_ k n y_10.1.1 (z0_ (i5+1)) y_10.2.1.1 e_0 else none) else none) else none) else none) else e_0 k1 q_2)
def zey_ (k:Nat) (k1:Int) (q_1:List (Int×Int×Int×List Int)):Option (((Int×Unit)×(zT3×Unit)×Unit)):=z9c_ k k k1 0 q_1 (fun k_11 q_12=>some ((k_11,()),(q_12,()),()))
def qme_:Head:=⟨[(0,(.ref 1000000000 [])),(1,(.val (.int .i64))),(5,(.val (.int .i64)))],[(1000000000,137,(.st (.pr (.int .i64) (.pr (.int .i64) (.pr (.int .i64) (.sl 2 (.int .i64)))))),false)],[]⟩
def qmf_:Head:=⟨[(1,(.val (.int .i64)))],[(1000000000,137,(.st (.pr (.int .i64) (.pr (.int .i64) (.pr (.int .i64) (.sl 2 (.int .i64)))))),false)],[]⟩
def qmg_ (k n:Nat) (x:qme_.T) (kx:Nat→St→Option (((Int×Unit)×(zT3×Unit)×Unit))):Option (((Int×Unit)×(zT3×Unit)×Unit)):=z9c_ k n x.1.2.1 x.1.2.2.1 x.2.1.1 (fun (k1:Int) (q_12:List (Int×Int×Int×List Int))=>kx 0 (qmf_.fill ((k1,()),(q_12,()),())))
def qmh_ (k:Nat):Oracles (((Int×Unit)×(zT3×Unit)×Unit)):=⟨fun n=>bif Nat.beq n 2 then some (fun σ kx=>qme_.get σ fun x=>qmg_ k k x kx) else none,fun _=>none⟩
def qmi_:Head:=⟨[(0,(.ref 1000000000 [])),(1,(.val (.int .i64)))],[(1000000000,137,(.st (.pr (.int .i64) (.pr (.int .i64) (.pr (.int .i64) (.sl 2 (.int .i64)))))),false)],[]⟩
def qmj_:Head:=⟨[(0,(.val (.int .i64)))],[(1000000000,137,(.st (.pr (.int .i64) (.pr (.int .i64) (.pr (.int .i64) (.sl 2 (.int .i64)))))),false)],[]⟩
def qmk_ (k:Nat):OC:=⟨qmi_,qmj_,fun x=>zey_ k x.1.2.1 x.2.1.1,false⟩
theorem qml_ (k:Nat) (pins:Nat→Value) (pinB:Nat→Nat):zc_ (z3_ ti [] (lk [(39,30,qmb_ k)]) pins pinB) (qmh_ k) (rdO (z3_ ti [] (lk [(39,30,qmb_ k)]) pins pinB) [.tmp 4] qmj_) ((zb_ (z2_ Tryz.f58)).getD 0 .skip) (fun σ kx=>qme_.get σ fun x=>qmg_ k k x kx):=by
 refine ⟨qme_,[(0,qmf_)],fun n x kx=>qmg_ k n x kx,k,by kernel_rfl,by kernel_rfl,fun x kx=>by kernel_rfl,?_,fun σ kx=>rfl⟩
 rintro n ⟨⟨⟨⟩,k1,i5,⟨⟩⟩,⟨q_2,⟨⟩⟩,⟨⟩⟩ kx
 kernel_rfl
theorem qmm_ (k:Nat):z16_ Tryz.prog ti 58 (qmk_ k):=by
 refine z3i_ (tab:=[]) (l:=[(39,30,qmb_ k)]) z7_ z9_ mix (List.forall_mem_nil _) (List.forall_mem_cons.2 ⟨qmd_ k,(List.forall_mem_nil _)⟩) ⟨by kernel_rfl,by kernel_rfl,by kernel_rfl,Tryz.f58,(z2_ Tryz.f58),[.tmp 4],(qmh_ k),by kernel_rfl,by kernel_rfl,by kernel_rfl,by kernel_rfl,Nat.le_of_ble_eq_true (by kernel_rfl),fun pins pinB=>⟨⟨by kernel_rfl,?_,?_⟩,?_⟩⟩
 ·refine zh_ (n:=1) (by kernel_rfl) fun i hi=>?_
  match i,hi with
  | 0,_=>exact zd_ (by kernel_rfl) (qml_ k pins pinB)
  | n+1,hi=>omega
 ·exact z8_ (by kernel_rfl)
 ·rintro ⟨⟨⟨⟩,k1,⟨⟩⟩,⟨q_1,⟨⟩⟩,⟨⟩⟩
  kernel_rfl
def zia_ (k:Nat) (a0ba:Int) (k1:Int) (q_1:List (List Int)) (q_2:List Int) (q_3:List (Int×Int×Int×List Int)):Option (((Int×Unit)×(zT3×(List Int)×zT4×Unit)×Unit)):=(zi9_ k k1 q_1).bind fun y_4=>(z5b_ k y_4.1.1 q_2).bind fun y_5=>(zey_ k y_5.1.1 q_3).bind fun y_6=>some ((y_6.1.1,()),(y_6.2.1.1,y_5.2.1.1,y_4.2.1.1,()),())
def qmn_:Head:=⟨[(0,(.st (.pr (.st (.ref 1000000000 [])) (.pr (.val (.int .i64)) (.pr (.ref 1000000001 []) (.ref 1000000002 [])))))),(1,(.val (.int .i64)))],[(1000000000,25,(.sl 2 (.int .i64)),false),(1000000001,2,(.int .i64),false),(1000000002,137,(.st (.pr (.int .i64) (.pr (.int .i64) (.pr (.int .i64) (.sl 2 (.int .i64)))))),false)],[]⟩
def qmo_:Head:=⟨[(0,(.val (.int .i64)))],[(1000000002,137,(.st (.pr (.int .i64) (.pr (.int .i64) (.pr (.int .i64) (.sl 2 (.int .i64)))))),false),(1000000001,2,(.int .i64),false),(1000000000,25,(.sl 2 (.int .i64)),false)],[]⟩
def qmp_ (k:Nat):OC:=⟨qmn_,qmo_,fun x=>zia_ k x.1.1.2.1 x.1.2.1 x.2.1.1 x.2.1.2.1 x.2.1.2.2.1,false⟩
theorem qmq_ (k:Nat):z16_ Tryz.prog ti 29 (qmp_ k):=by
 refine z3i_ (tab:=[]) (l:=[(8,57,qlu_ k),(12,30,qm2_ k),(16,58,qmk_ k)]) z7_ z9_ mix (List.forall_mem_nil _) (List.forall_mem_cons.2 ⟨qlv_ k,(List.forall_mem_cons.2 ⟨qm4_ k,(List.forall_mem_cons.2 ⟨qmm_ k,(List.forall_mem_nil _)⟩)⟩)⟩) ⟨by kernel_rfl,by kernel_rfl,by kernel_rfl,Tryz.f29,(z2_ Tryz.f29),[.tmp 4],(LOn (((Int×Unit)×(zT3×(List Int)×zT4×Unit)×Unit))),by kernel_rfl,by kernel_rfl,by kernel_rfl,by kernel_rfl,Nat.le_of_ble_eq_true (by kernel_rfl),fun pins pinB=>⟨⟨by kernel_rfl,?_,?_⟩,?_⟩⟩
 ·exact ze_ (by kernel_rfl)
 ·exact z8_ (by kernel_rfl)
 ·rintro ⟨⟨⟨⟨⟩,⟨a0ba,⟨⟨⟩,⟨⟩⟩⟩⟩,k1,⟨⟩⟩,⟨q_1,q_2,q_3,⟨⟩⟩,⟨⟩⟩
  kernel_rfl
def z9d_ (k:Nat):Nat→Int→Int→zT2→(Int→zT2→Option (((Int×Unit)×(zT2×Unit)×Unit)))→Option (((Int×Unit)×(zT2×Unit)×Unit))
 | 0,_,_,_,_=>none
 | n+1,k1,i5,q_2,e_0=>(if (decide (i5<(List.length q_2:Int)))=true then (if 0≤i5∧i5.toNat<List.length q_2 then (q_2[i5.toNat]?).bind fun y_3=>(q_2[i5.toNat]?).bind fun y_4=>(if 0≤i5∧i5.toNat<List.length (q_2.set i5.toNat (k1,y_3.2)) then ((q_2.set i5.toNat (k1,y_3.2))[i5.toNat]?).bind fun y_5=>((q_2.set i5.toNat (k1,y_3.2))[i5.toNat]?).bind fun y_6=>(if 0≤i5∧i5.toNat<List.length ((q_2.set i5.toNat (k1,y_3.2)).set i5.toNat (y_5.1,((z0_ (k1+1)),y_5.2.2))) then (((q_2.set i5.toNat (k1,y_3.2)).set i5.toNat (y_5.1,((z0_ (k1+1)),y_5.2.2)))[i5.toNat]?).bind fun y_7=>(((q_2.set i5.toNat (k1,y_3.2)).set i5.toNat (y_5.1,((z0_ (k1+1)),y_5.2.2)))[i5.toNat]?).bind fun y_8=>z9d_ k n (z0_ ((z0_ ((z0_ (k1+1))+1))+1)) (z0_ (i5+1)) (((q_2.set i5.toNat (k1,y_3.2)).set i5.toNat (y_5.1,((z0_ (k1+1)),y_5.2.2))).set i5.toNat (y_7.1,(y_7.2.1,(z0_ ((z0_ (k1+1))+1))))) e_0 else none) else none) else none) else e_0 k1 q_2)
def zez_ (k:Nat) (k1:Int) (q_1:List (Int×Int×Int)):Option (((Int×Unit)×(zT2×Unit)×Unit)):=z9d_ k k k1 0 q_1 (fun k_9 q_10=>some ((k_9,()),(q_10,()),()))
def qmr_:Head:=⟨[(0,(.ref 1000000000 [])),(1,(.val (.int .i64))),(5,(.val (.int .i64)))],[(1000000000,140,(.st (.pr (.int .i64) (.pr (.int .i64) (.int .i64)))),false)],[]⟩
def qms_:Head:=⟨[(1,(.val (.int .i64)))],[(1000000000,140,(.st (.pr (.int .i64) (.pr (.int .i64) (.int .i64)))),false)],[]⟩
def qmt_ (k n:Nat) (x:qmr_.T) (kx:Nat→St→Option (((Int×Unit)×(zT2×Unit)×Unit))):Option (((Int×Unit)×(zT2×Unit)×Unit)):=z9d_ k n x.1.2.1 x.1.2.2.1 x.2.1.1 (fun (k1:Int) (q_9:List (Int×Int×Int))=>kx 0 (qms_.fill ((k1,()),(q_9,()),())))
def qmu_ (k:Nat):Oracles (((Int×Unit)×(zT2×Unit)×Unit)):=⟨fun n=>bif Nat.beq n 2 then some (fun σ kx=>qmr_.get σ fun x=>qmt_ k k x kx) else none,fun _=>none⟩
def qmv_:Head:=⟨[(0,(.ref 1000000000 [])),(1,(.val (.int .i64)))],[(1000000000,140,(.st (.pr (.int .i64) (.pr (.int .i64) (.int .i64)))),false)],[]⟩
def qmw_:Head:=⟨[(0,(.val (.int .i64)))],[(1000000000,140,(.st (.pr (.int .i64) (.pr (.int .i64) (.int .i64)))),false)],[]⟩
def qmx_ (k:Nat):OC:=⟨qmv_,qmw_,fun x=>zez_ k x.1.2.1 x.2.1.1,false⟩
theorem qmy_ (k:Nat) (pins:Nat→Value) (pinB:Nat→Nat):zc_ (z3_ ti [] (lk []) pins pinB) (qmu_ k) (rdO (z3_ ti [] (lk []) pins pinB) [.tmp 4] qmw_) ((zb_ (z2_ Tryz.f59)).getD 0 .skip) (fun σ kx=>qmr_.get σ fun x=>qmt_ k k x kx):=by
 refine ⟨qmr_,[(0,qms_)],fun n x kx=>qmt_ k n x kx,k,by kernel_rfl,by kernel_rfl,fun x kx=>by kernel_rfl,?_,fun σ kx=>rfl⟩
 rintro n ⟨⟨⟨⟩,k1,i5,⟨⟩⟩,⟨q_2,⟨⟩⟩,⟨⟩⟩ kx
 kernel_rfl
theorem qmz_ (k:Nat):z16_ Tryz.prog ti 59 (qmx_ k):=by
 refine z3i_ (tab:=[]) (l:=[]) z7_ z9_ mix (List.forall_mem_nil _) (List.forall_mem_nil _) ⟨by kernel_rfl,by kernel_rfl,by kernel_rfl,Tryz.f59,(z2_ Tryz.f59),[.tmp 4],(qmu_ k),by kernel_rfl,by kernel_rfl,by kernel_rfl,by kernel_rfl,Nat.le_of_ble_eq_true (by kernel_rfl),fun pins pinB=>⟨⟨by kernel_rfl,?_,?_⟩,?_⟩⟩
 ·refine zh_ (n:=1) (by kernel_rfl) fun i hi=>?_
  match i,hi with
  | 0,_=>exact zd_ (by kernel_rfl) (qmy_ k pins pinB)
  | n+1,hi=>omega
 ·exact z8_ (by kernel_rfl)
 ·rintro ⟨⟨⟨⟩,k1,⟨⟩⟩,⟨q_1,⟨⟩⟩,⟨⟩⟩
  kernel_rfl
def zib_ (k:Nat) (a0a:Int) (a0ba:Int) (a0bba:Int) (k1:Int) (q_1:List (Int×Int×Int)):Option (((Int×Unit)×(zT2×Unit)×Unit)):=(zez_ k k1 q_1).bind fun y_2=>some ((y_2.1.1,()),(y_2.2.1.1,()),())
def qn0_:Head:=⟨[(0,(.st (.pr (.val (.int .i64)) (.pr (.val (.int .i64)) (.pr (.val (.int .i64)) (.ref 1000000000 [])))))),(1,(.val (.int .i64)))],[(1000000000,140,(.st (.pr (.int .i64) (.pr (.int .i64) (.int .i64)))),false)],[]⟩
def qn1_:Head:=⟨[(0,(.val (.int .i64)))],[(1000000000,140,(.st (.pr (.int .i64) (.pr (.int .i64) (.int .i64)))),false)],[]⟩
def qn2_ (k:Nat):OC:=⟨qn0_,qn1_,fun x=>zib_ k x.1.1.1 x.1.1.2.1 x.1.1.2.2.1 x.1.2.1 x.2.1.1,false⟩
theorem qn3_ (k:Nat):z16_ Tryz.prog ti 31 (qn2_ k):=by
 refine z3i_ (tab:=[]) (l:=[(8,59,qmx_ k)]) z7_ z9_ mix (List.forall_mem_nil _) (List.forall_mem_cons.2 ⟨qmz_ k,(List.forall_mem_nil _)⟩) ⟨by kernel_rfl,by kernel_rfl,by kernel_rfl,Tryz.f31,(z2_ Tryz.f31),[.tmp 4],(LOn (((Int×Unit)×(zT2×Unit)×Unit))),by kernel_rfl,by kernel_rfl,by kernel_rfl,by kernel_rfl,Nat.le_of_ble_eq_true (by kernel_rfl),fun pins pinB=>⟨⟨by kernel_rfl,?_,?_⟩,?_⟩⟩
 ·exact ze_ (by kernel_rfl)
 ·exact z8_ (by kernel_rfl)
 ·rintro ⟨⟨⟨a0a,⟨a0ba,⟨a0bba,⟨⟩⟩⟩⟩,k1,⟨⟩⟩,⟨q_1,⟨⟩⟩,⟨⟩⟩
  kernel_rfl
end
end Go.Proofs.YthbodbmcalfmaaaGreatDoor.Ev
