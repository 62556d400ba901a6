/- Functions of the program, as plain ones. No conditions. -/
import Derived.Test.YtbfbojmkmjhdcaaGreatDoorG11
import Derived.KernelRfl
set_option linter.unusedVariables false
set_option maxRecDepth 100000
namespace Go.Proofs.YtbfbojmkmjhdcaaGreatDoor.Ev
open Go.RowKit
noncomputable section
def z90_ (k:Nat):Nat→zT2→zT2→Int→(Option Bool)→Option Bool
 | 0,_,_,_,_=>none
 | n+1,a0,b1,i5,e_0=>(if (decide (i5<(List.length a0:Int)))=true then (if 0≤i5 then (a0[i5.toNat]?).bind fun y_1=>(if 0≤i5 then (b1[i5.toNat]?).bind fun y_2=>(zen_ y_1 y_2).bind fun r_3=>(if (!r_3)=true then some false else z90_ k n a0 b1 (z0_ (i5+1)) e_0) else none) else none) else e_0)
def zeo_ (k:Nat) (a0:List (Int×Int×Int)) (b1:List (Int×Int×Int)):Option Bool:=(if (!(decide ((List.length a0:Int)=(List.length b1:Int))))=true then some false else z90_ k k a0 b1 0 (some true))
def qkx_:Head:=⟨[(0,(.val (.sl 96 (.st (.pr (.int .i64) (.pr (.int .i64) (.int .i64))))))),(1,(.val (.sl 96 (.st (.pr (.int .i64) (.pr (.int .i64) (.int .i64))))))),(5,(.val (.int .i64)))],[],[]⟩
def qky_:Head:=⟨[],[],[]⟩
def qkz_ (k n:Nat) (x:qkx_.T) (kx:Nat→St→Option Bool):Option Bool:=z90_ k n x.1.1 x.1.2.1 x.1.2.2.1 (kx 0 (qky_.fill ((),(),())))
def ql0_ (k:Nat):Oracles Bool:=⟨fun n=>bif Nat.beq n 4 then some (fun σ kx=>qkx_.get σ fun x=>qkz_ k k x kx) else none,fun _=>none⟩
def ql1_ (k:Nat):FE:=⟨(.pr (.sl 96 (.st (.pr (.int .i64) (.pr (.int .i64) (.int .i64))))) (.sl 96 (.st (.pr (.int .i64) (.pr (.int .i64) (.int .i64)))))),1,.bool,fun x=>zeo_ k x.1 x.2⟩
theorem ql2_ (k:Nat):zc_ (z3_ ti [(98,qkv_)] (lk []) z4_ z5_) (ql0_ k) (rdC (z3_ ti [(98,qkv_)] (lk []) z4_ z5_) [.tmp 4] .bool) ((zb_ (z2_ Tryz.f53)).getD 0 .skip) (fun σ kx=>qkx_.get σ fun x=>qkz_ k k x kx):=by
 refine ⟨qkx_,[(0,qky_)],fun n x kx=>qkz_ k n x kx,k,by kernel_rfl,by kernel_rfl,fun x kx=>by kernel_rfl,?_,fun σ kx=>rfl⟩
 rintro n ⟨⟨a0,b1,i5,⟨⟩⟩,⟨⟩,⟨⟩⟩ kx
 kernel_rfl
theorem ql3_ (k:Nat):FnOK Tryz.prog 53 (ql1_ k):=by
 refine za_ (tab:=[(98,qkv_)]) (l:=[]) z7_ z9_ mix (List.forall_mem_cons.2 ⟨qkw_,(List.forall_mem_nil _)⟩) (List.forall_mem_nil _) ⟨⟨Tryz.f53,(z2_ Tryz.f53),[.tmp 4],(ql0_ k),by kernel_rfl,by kernel_rfl,by kernel_rfl,by kernel_rfl,rfl,by decide,⟨by kernel_rfl,?_,?_⟩,?_⟩⟩
 ·refine zh_ (n:=1) (by kernel_rfl) fun i hi=>?_
  match i,hi with
  | 0,_=>exact zd_ (by kernel_rfl) (ql2_ k)
  | n+1,hi=>omega
 ·exact z8_ (by kernel_rfl)
 ·rintro ⟨a0,b1⟩
  kernel_rfl
def zep_ (k:Nat) (a0:Int×Int×List (Int×Int×Int)) (b1:Int×Int×List (Int×Int×Int)):Option Bool:=(if (!(decide (a0.1=b1.1)))=true then some false else (if (!(decide (a0.2.1=b1.2.1)))=true then some false else (zeo_ k a0.2.2 b1.2.2).bind fun r_1=>(if (!r_1)=true then some false else some true)))
def ql4_ (k:Nat):FE:=⟨(.pr (.st (.pr (.int .i64) (.pr (.int .i64) (.sl 96 (.st (.pr (.int .i64) (.pr (.int .i64) (.int .i64)))))))) (.st (.pr (.int .i64) (.pr (.int .i64) (.sl 96 (.st (.pr (.int .i64) (.pr (.int .i64) (.int .i64))))))))),1,.bool,fun x=>zep_ k x.1 x.2⟩
theorem ql5_ (k:Nat):FnOK Tryz.prog 28 (ql4_ k):=by
 refine za_ (tab:=[(53,ql1_ k)]) (l:=[]) z7_ z9_ mix (List.forall_mem_cons.2 ⟨ql3_ k,(List.forall_mem_nil _)⟩) (List.forall_mem_nil _) ⟨⟨Tryz.f28,(z2_ Tryz.f28),[.tmp 4],(LOn Bool),by kernel_rfl,by kernel_rfl,by kernel_rfl,by kernel_rfl,rfl,by decide,⟨by kernel_rfl,?_,?_⟩,?_⟩⟩
 ·exact ze_ (by kernel_rfl)
 ·exact z8_ (by kernel_rfl)
 ·rintro ⟨a0,b1⟩
  kernel_rfl
def zeq_ (k:Nat) (a0:zT0×Int×List Int×List Int×(Int×Int×Int×List (Int×Int×Int))×List Int×List Int×(Int×Int×List (Int×Int×Int))×List Int) (b1:zT0×Int×List Int×List Int×(Int×Int×Int×List (Int×Int×Int))×List Int×List Int×(Int×Int×List (Int×Int×Int))×List Int):Option Bool:=(zej_ k a0.1 b1.1).bind fun r_1=>(if (!r_1)=true then some false else (if (!(decide (a0.2.1=b1.2.1)))=true then some false else (z42_ k a0.2.2.1 b1.2.2.1).bind fun r_2=>(if (!r_2)=true then some false else (z42_ k a0.2.2.2.1 b1.2.2.2.1).bind fun r_3=>(if (!r_3)=true then some false else (zem_ k a0.2.2.2.2.1 b1.2.2.2.2.1).bind fun r_4=>(if (!r_4)=true then some false else (z42_ k a0.2.2.2.2.2.1 b1.2.2.2.2.2.1).bind fun r_5=>(if (!r_5)=true then some false else (z42_ k a0.2.2.2.2.2.2.1 b1.2.2.2.2.2.2.1).bind fun r_6=>(if (!r_6)=true then some false else (zep_ k a0.2.2.2.2.2.2.2.1 b1.2.2.2.2.2.2.2.1).bind fun r_7=>(if (!r_7)=true then some false else (z42_ k a0.2.2.2.2.2.2.2.2 b1.2.2.2.2.2.2.2.2).bind fun r_8=>(if (!r_8)=true then some false else some true)))))))))
def ql6_ (k:Nat):FE:=⟨(.pr (.st (.pr (.st (.pr (.st (.sl 25 (.sl 2 (.int .i64)))) (.pr (.int .i64) (.pr (.sl 2 (.int .i64)) (.sl 135 (.st (.pr (.int .i64) (.pr (.int .i64) (.pr (.int .i64) (.sl 2 (.int .i64))))))))))) (.pr (.int .i64) (.pr (.sl 2 (.int .i64)) (.pr (.sl 2 (.int .i64)) (.pr (.st (.pr (.int .i64) (.pr (.int .i64) (.pr (.int .i64) (.sl 138 (.st (.pr (.int .i64) (.pr (.int .i64) (.int .i64))))))))) (.pr (.sl 2 (.int .i64)) (.pr (.sl 2 (.int .i64)) (.pr (.st (.pr (.int .i64) (.pr (.int .i64) (.sl 96 (.st (.pr (.int .i64) (.pr (.int .i64) (.int .i64)))))))) (.sl 2 (.int .i64))))))))))) (.st (.pr (.st (.pr (.st (.sl 25 (.sl 2 (.int .i64)))) (.pr (.int .i64) (.pr (.sl 2 (.int .i64)) (.sl 135 (.st (.pr (.int .i64) (.pr (.int .i64) (.pr (.int .i64) (.sl 2 (.int .i64))))))))))) (.pr (.int .i64) (.pr (.sl 2 (.int .i64)) (.pr (.sl 2 (.int .i64)) (.pr (.st (.pr (.int .i64) (.pr (.int .i64) (.pr (.int .i64) (.sl 138 (.st (.pr (.int .i64) (.pr (.int .i64) (.int .i64))))))))) (.pr (.sl 2 (.int .i64)) (.pr (.sl 2 (.int .i64)) (.pr (.st (.pr (.int .i64) (.pr (.int .i64) (.sl 96 (.st (.pr (.int .i64) (.pr (.int .i64) (.int .i64)))))))) (.sl 2 (.int .i64)))))))))))),1,.bool,fun x=>zeq_ k x.1 x.2⟩
theorem ql7_ (k:Nat):FnOK Tryz.prog 9 (ql6_ k):=by
 refine za_ (tab:=[(25,qki_ k),(26,qjx_ k),(27,qkt_ k),(28,ql4_ k)]) (l:=[]) z7_ z9_ mix (List.forall_mem_cons.2 ⟨qkj_ k,(List.forall_mem_cons.2 ⟨qjz_ k,(List.forall_mem_cons.2 ⟨qku_ k,(List.forall_mem_cons.2 ⟨ql5_ k,(List.forall_mem_nil _)⟩)⟩)⟩)⟩) (List.forall_mem_nil _) ⟨⟨Tryz.f9,(z2_ Tryz.f9),[.tmp 4],(LOn Bool),by kernel_rfl,by kernel_rfl,by kernel_rfl,by kernel_rfl,rfl,by decide,⟨by kernel_rfl,?_,?_⟩,?_⟩⟩
 ·exact ze_ (by kernel_rfl)
 ·exact z8_ (by kernel_rfl)
 ·rintro ⟨a0,b1⟩
  kernel_rfl
def z91_ (k:Nat):Nat→Nat→Int→Int→zT4→(Int→zT4→Option (((Int×Unit)×(zT4×Unit)×Unit)))→Option (((Int×Unit)×(zT4×Unit)×Unit))
 | 0,_,_,_,_,_=>none
 | n+1,a0n0,k1,i5,q_2,e_0=>(q_2[a0n0]?).bind fun y_3=>(if (decide (i5<(List.length y_3:Int)))=true then (q_2[a0n0]?).bind fun y_4=>(if 0≤i5∧i5.toNat<List.length y_4 then (q_2[a0n0]?).bind fun y_5=>(y_5[i5.toNat]?).bind fun y_6=>(q_2[a0n0]?).bind fun y_7=>(y_7[i5.toNat]?).bind fun y_8=>z91_ k n a0n0 (z0_ (k1+1)) (z0_ (i5+1)) (q_2.set a0n0 (y_7.set i5.toNat k1)) e_0 else none) else e_0 k1 q_2)
def zer_ (k:Nat) (a0n0:Nat) (k1:Int) (q_1:List (List Int)):Option (((Int×Unit)×(zT4×Unit)×Unit)):=z91_ k k a0n0 k1 0 q_1 (fun k_9 q_10=>some ((k_9,()),(q_10,()),()))
def ql8_:Head:=⟨[(0,(.ref 1000000000 [.ix])),(1,(.val (.int .i64))),(5,(.val (.int .i64)))],[(1000000000,25,(.sl 2 (.int .i64)),false)],[]⟩
def ql9_:Head:=⟨[(1,(.val (.int .i64)))],[(1000000000,25,(.sl 2 (.int .i64)),false)],[]⟩
def qla_ (k n:Nat) (x:ql8_.T) (kx:Nat→St→Option (((Int×Unit)×(zT4×Unit)×Unit))):Option (((Int×Unit)×(zT4×Unit)×Unit)):=z91_ k n x.1.1.1 x.1.2.1 x.1.2.2.1 x.2.1.1 (fun (k1:Int) (q_9:List (List Int))=>kx 0 (ql9_.fill ((k1,()),(q_9,()),())))
def qlb_ (k:Nat):Oracles (((Int×Unit)×(zT4×Unit)×Unit)):=⟨fun n=>bif Nat.beq n 2 then some (fun σ kx=>ql8_.get σ fun x=>qla_ k k x kx) else none,fun _=>none⟩
def qlc_:Head:=⟨[(0,(.ref 1000000000 [.ix])),(1,(.val (.int .i64)))],[(1000000000,25,(.sl 2 (.int .i64)),false)],[]⟩
def qld_:Head:=⟨[(0,(.val (.int .i64)))],[(1000000000,25,(.sl 2 (.int .i64)),false)],[]⟩
def qle_ (k:Nat):OC:=⟨qlc_,qld_,fun x=>zer_ k x.1.1.1 x.1.2.1 x.2.1.1,false⟩
theorem qlf_ (k:Nat) (pins:Nat→Value) (pinB:Nat→Nat):zc_ (z3_ ti [] (lk []) pins pinB) (qlb_ k) (rdO (z3_ ti [] (lk []) pins pinB) [.tmp 4] qld_) ((zb_ (z2_ Tryz.f30)).getD 0 .skip) (fun σ kx=>ql8_.get σ fun x=>qla_ k k x kx):=by
 refine ⟨ql8_,[(0,ql9_)],fun n x kx=>qla_ k n x kx,k,by kernel_rfl,by kernel_rfl,fun x kx=>by kernel_rfl,?_,fun σ kx=>rfl⟩
 rintro n ⟨⟨⟨a0n0,⟨⟩⟩,k1,i5,⟨⟩⟩,⟨q_2,⟨⟩⟩,⟨⟩⟩ kx
 kernel_rfl
theorem qlg_ (k:Nat):z12_ Tryz.prog ti 30 (qle_ k):=by
 refine z3j_ (tab:=[]) (l:=[]) z7_ z9_ mix (List.forall_mem_nil _) (List.forall_mem_nil _) ⟨by kernel_rfl,by kernel_rfl,by kernel_rfl,Tryz.f30,(z2_ Tryz.f30),[.tmp 4],(qlb_ k),by kernel_rfl,by kernel_rfl,by kernel_rfl,by kernel_rfl,Nat.le_of_ble_eq_true (by kernel_rfl),fun pins pinB=>⟨⟨by kernel_rfl,?_,?_⟩,?_⟩⟩
 ·refine zh_ (n:=1) (by kernel_rfl) fun i hi=>?_
  match i,hi with
  | 0,_=>exact zd_ (by kernel_rfl) (qlf_ k pins pinB)
  | n+1,hi=>omega
 ·exact z8_ (by kernel_rfl)
 ·rintro ⟨⟨⟨a0n0,⟨⟩⟩,k1,⟨⟩⟩,⟨q_1,⟨⟩⟩,⟨⟩⟩
  kernel_rfl
def z92_ (k:Nat):Nat→Int→Int→zT4→(Int→zT4→Option (((Int×Unit)×(zT4×Unit)×Unit)))→Option (((Int×Unit)×(zT4×Unit)×Unit))
 | 0,_,_,_,_=>none
 | n+1,k1,i5,q_2,e_0=>(if (decide (i5<(List.length q_2:Int)))=true then (if 0≤i5∧i5.toNat<List.length q_2 then (q_2[i5.toNat]?).bind fun y_3=>(zer_ k i5.toNat k1 q_2).bind fun y_4=>z92_ k n y_4.1.1 (z0_ (i5+1)) y_4.2.1.1 e_0 else none) else e_0 k1 q_2)
def zes_ (k:Nat) (k1:Int) (q_1:List (List Int)):Option (((Int×Unit)×(zT4×Unit)×Unit)):=z92_ k k k1 0 q_1 (fun k_5 q_6=>some ((k_5,()),(q_6,()),()))
def qlh_:Head:=⟨[(0,(.ref 1000000000 [])),(1,(.val (.int .i64))),(5,(.val (.int .i64)))],[(1000000000,25,(.sl 2 (.int .i64)),false)],[]⟩
def qli_:Head:=⟨[(1,(.val (.int .i64)))],[(1000000000,25,(.sl 2 (.int .i64)),false)],[]⟩
def qlj_ (k n:Nat) (x:qlh_.T) (kx:Nat→St→Option (((Int×Unit)×(zT4×Unit)×Unit))):Option (((Int×Unit)×(zT4×Unit)×Unit)):=z92_ k n x.1.2.1 x.1.2.2.1 x.2.1.1 (fun (k1:Int) (q_6:List (List Int))=>kx 0 (qli_.fill ((k1,()),(q_6,()),())))
def qlk_ (k:Nat):Oracles (((Int×Unit)×(zT4×Unit)×Unit)):=⟨fun n=>bif Nat.beq n 2 then some (fun σ kx=>qlh_.get σ fun x=>qlj_ k k x kx) else none,fun _=>none⟩
def qll_:Head:=⟨[(0,(.ref 1000000000 [])),(1,(.val (.int .i64)))],[(1000000000,25,(.sl 2 (.int .i64)),false)],[]⟩
def qlm_:Head:=⟨[(0,(.val (.int .i64)))],[(1000000000,25,(.sl 2 (.int .i64)),false)],[]⟩
def qln_ (k:Nat):OC:=⟨qll_,qlm_,fun x=>zes_ k x.1.2.1 x.2.1.1,false⟩
theorem qlo_ (k:Nat) (pins:Nat→Value) (pinB:Nat→Nat):zc_ (z3_ ti [] (lk [(17,30,qle_ k)]) pins pinB) (qlk_ k) (rdO (z3_ ti [] (lk [(17,30,qle_ k)]) pins pinB) [.tmp 4] qlm_) ((zb_ (z2_ Tryz.f99)).getD 0 .skip) (fun σ kx=>qlh_.get σ fun x=>qlj_ k k x kx):=by
 refine ⟨qlh_,[(0,qli_)],fun n x kx=>qlj_ k n x kx,k,by kernel_rfl,by kernel_rfl,fun x kx=>by kernel_rfl,?_,fun σ kx=>rfl⟩
 rintro n ⟨⟨⟨⟩,k1,i5,⟨⟩⟩,⟨q_2,⟨⟩⟩,⟨⟩⟩ kx
 kernel_rfl
theorem qlp_ (k:Nat):z12_ Tryz.prog ti 99 (qln_ k):=by
 refine z3j_ (tab:=[]) (l:=[(17,30,qle_ k)]) z7_ z9_ mix (List.forall_mem_nil _) (List.forall_mem_cons.2 ⟨qlg_ k,(List.forall_mem_nil _)⟩) ⟨by kernel_rfl,by kernel_rfl,by kernel_rfl,Tryz.f99,(z2_ Tryz.f99),[.tmp 4],(qlk_ k),by kernel_rfl,by kernel_rfl,by kernel_rfl,by kernel_rfl,Nat.le_of_ble_eq_true (by kernel_rfl),fun pins pinB=>⟨⟨by kernel_rfl,?_,?_⟩,?_⟩⟩
 ·refine zh_ (n:=1) (by kernel_rfl) fun i hi=>?_
  match i,hi with
  | 0,_=>exact zd_ (by kernel_rfl) (qlo_ k pins pinB)
  | n+1,hi=>omega
 ·exact z8_ (by kernel_rfl)
 ·rintro ⟨⟨⟨⟩,k1,⟨⟩⟩,⟨q_1,⟨⟩⟩,⟨⟩⟩
  kernel_rfl
def zi7_ (k:Nat) (k1:Int) (q_1:List (List Int)):Option (((Int×Unit)×(zT4×Unit)×Unit)):=(zes_ k k1 q_1).bind fun y_2=>some ((y_2.1.1,()),(y_2.2.1.1,()),())
def qlq_:Head:=⟨[(0,(.st (.ref 1000000000 []))),(1,(.val (.int .i64)))],[(1000000000,25,(.sl 2 (.int .i64)),false)],[]⟩
def qlr_:Head:=⟨[(0,(.val (.int .i64)))],[(1000000000,25,(.sl 2 (.int .i64)),false)],[]⟩
def qls_ (k:Nat):OC:=⟨qlq_,qlr_,fun x=>zi7_ k x.1.2.1 x.2.1.1,false⟩
theorem qlt_ (k:Nat):z12_ Tryz.prog ti 54 (qls_ k):=by
 refine z3j_ (tab:=[]) (l:=[(8,99,qln_ k)]) z7_ z9_ mix (List.forall_mem_nil _) (List.forall_mem_cons.2 ⟨qlp_ k,(List.forall_mem_nil _)⟩) ⟨by kernel_rfl,by kernel_rfl,by kernel_rfl,Tryz.f54,(z2_ Tryz.f54),[.tmp 4],(LOn (((Int×Unit)×(zT4×Unit)×Unit))),by kernel_rfl,by kernel_rfl,by kernel_rfl,by kernel_rfl,Nat.le_of_ble_eq_true (by kernel_rfl),fun pins pinB=>⟨⟨by kernel_rfl,?_,?_⟩,?_⟩⟩
 ·exact ze_ (by kernel_rfl)
 ·exact z8_ (by kernel_rfl)
 ·rintro ⟨⟨⟨⟩,k1,⟨⟩⟩,⟨q_1,⟨⟩⟩,⟨⟩⟩
  kernel_rfl
def z93_ (k:Nat):Nat→Int→Int→(List Int)→(Int→(List Int)→Option (((Int×Unit)×((List Int)×Unit)×Unit)))→Option (((Int×Unit)×((List Int)×Unit)×Unit))
 | 0,_,_,_,_=>none
 | n+1,k1,i5,q_2,e_0=>(if (decide (i5<(List.length q_2:Int)))=true then (if 0≤i5∧i5.toNat<List.length q_2 then (q_2[i5.toNat]?).bind fun y_3=>(q_2[i5.toNat]?).bind fun y_4=>z93_ k n (z0_ (k1+1)) (z0_ (i5+1)) (q_2.set i5.toNat k1) e_0 else none) else e_0 k1 q_2)
def z57_ (k:Nat) (k1:Int) (q_1:List Int):Option (((Int×Unit)×((List Int)×Unit)×Unit)):=z93_ k k k1 0 q_1 (fun k_5 q_6=>some ((k_5,()),(q_6,()),()))
def qlu_:Head:=⟨[(0,(.ref 1000000000 [])),(1,(.val (.int .i64))),(5,(.val (.int .i64)))],[(1000000000,2,(.int .i64),false)],[]⟩
def qlv_:Head:=⟨[(1,(.val (.int .i64)))],[(1000000000,2,(.int .i64),false)],[]⟩
def qlw_ (k n:Nat) (x:qlu_.T) (kx:Nat→St→Option (((Int×Unit)×((List Int)×Unit)×Unit))):Option (((Int×Unit)×((List Int)×Unit)×Unit)):=z93_ k n x.1.2.1 x.1.2.2.1 x.2.1.1 (fun (k1:Int) (q_5:List Int)=>kx 0 (qlv_.fill ((k1,()),(q_5,()),())))
def qlx_ (k:Nat):Oracles (((Int×Unit)×((List Int)×Unit)×Unit)):=⟨fun n=>bif Nat.beq n 2 then some (fun σ kx=>qlu_.get σ fun x=>qlw_ k k x kx) else none,fun _=>none⟩
def qly_:Head:=⟨[(0,(.ref 1000000000 [])),(1,(.val (.int .i64)))],[(1000000000,2,(.int .i64),false)],[]⟩
def qlz_:Head:=⟨[(0,(.val (.int .i64)))],[(1000000000,2,(.int .i64),false)],[]⟩
def qm0_ (k:Nat):OC:=⟨qly_,qlz_,fun x=>z57_ k x.1.2.1 x.2.1.1,false⟩
theorem qm1_ (k:Nat) (pins:Nat→Value) (pinB:Nat→Nat):zc_ (z3_ ti [] (lk []) pins pinB) (qlx_ k) (rdO (z3_ ti [] (lk []) pins pinB) [.tmp 4] qlz_) ((zb_ (z2_ Tryz.f30)).getD 0 .skip) (fun σ kx=>qlu_.get σ fun x=>qlw_ k k x kx):=by
 refine ⟨qlu_,[(0,qlv_)],fun n x kx=>qlw_ k n x kx,k,by kernel_rfl,by kernel_rfl,fun x kx=>by kernel_rfl,?_,fun σ kx=>rfl⟩
 rintro n ⟨⟨⟨⟩,k1,i5,⟨⟩⟩,⟨q_2,⟨⟩⟩,⟨⟩⟩ kx
 kernel_rfl
theorem qm2_ (k:Nat):z12_ Tryz.prog ti 30 (qm0_ k):=by
 refine z3j_ (tab:=[]) (l:=[]) z7_ z9_ mix (List.forall_mem_nil _) (List.forall_mem_nil _) ⟨by kernel_rfl,by kernel_rfl,by kernel_rfl,Tryz.f30,(z2_ Tryz.f30),[.tmp 4],(qlx_ k),by kernel_rfl,by kernel_rfl,by kernel_rfl,by kernel_rfl,Nat.le_of_ble_eq_true (by kernel_rfl),fun pins pinB=>⟨⟨by kernel_rfl,?_,?_⟩,?_⟩⟩
 ·refine zh_ (n:=1) (by kernel_rfl) fun i hi=>?_
  match i,hi with
  | 0,_=>exact zd_ (by kernel_rfl) (qm1_ k pins pinB)
  | n+1,hi=>omega
 ·exact z8_ (by kernel_rfl)
 ·rintro ⟨⟨⟨⟩,k1,⟨⟩⟩,⟨q_1,⟨⟩⟩,⟨⟩⟩
  kernel_rfl
def z94_ (k:Nat):Nat→Nat→Int→Int→zT3→(Int→zT3→Option (((Int×Unit)×(zT3×Unit)×Unit)))→Option (((Int×Unit)×(zT3×Unit)×Unit))
 | 0,_,_,_,_,_=>none
 | n+1,a0n0,k1,i5,q_2,e_0=>(q_2[a0n0]?).bind fun y_3=>(if (decide (i5<(List.length y_3.2.2.2:Int)))=true then (q_2[a0n0]?).bind fun y_4=>(if 0≤i5∧i5.toNat<List.length y_4.2.2.2 then (q_2[a0n0]?).bind fun y_5=>(y_5.2.2.2[i5.toNat]?).bind fun y_6=>(q_2[a0n0]?).bind fun y_7=>(y_7.2.2.2[i5.toNat]?).bind fun y_8=>z94_ k n a0n0 (z0_ (k1+1)) (z0_ (i5+1)) (q_2.set a0n0 (y_7.1,(y_7.2.1,(y_7.2.2.1,(y_7.2.2.2.set i5.toNat k1))))) e_0 else none) else e_0 k1 q_2)
def zet_ (k:Nat) (a0n0:Nat) (k1:Int) (q_1:List (Int×Int×Int×List Int)):Option (((Int×Unit)×(zT3×Unit)×Unit)):=z94_ k k a0n0 k1 0 q_1 (fun k_9 q_10=>some ((k_9,()),(q_10,()),()))
def qm3_:Head:=⟨[(0,(.ref 1000000000 [.ix,.f true,.f true,.f true])),(1,(.val (.int .i64))),(5,(.val (.int .i64)))],[(1000000000,135,(.st (.pr (.int .i64) (.pr (.int .i64) (.pr (.int .i64) (.sl 2 (.int .i64)))))),false)],[]⟩
def qm4_:Head:=⟨[(1,(.val (.int .i64)))],[(1000000000,135,(.st (.pr (.int .i64) (.pr (.int .i64) (.pr (.int .i64) (.sl 2 (.int .i64)))))),false)],[]⟩
def qm5_ (k n:Nat) (x:qm3_.T) (kx:Nat→St→Option (((Int×Unit)×(zT3×Unit)×Unit))):Option (((Int×Unit)×(zT3×Unit)×Unit)):=z94_ k n x.1.1.1 x.1.2.1 x.1.2.2.1 x.2.1.1 (fun (k1:Int) (q_9:List (Int×Int×Int×List Int))=>kx 0 (qm4_.fill ((k1,()),(q_9,()),())))
def qm6_ (k:Nat):Oracles (((Int×Unit)×(zT3×Unit)×Unit)):=⟨fun n=>bif Nat.beq n 2 then some (fun σ kx=>qm3_.get σ fun x=>qm5_ k k x kx) else none,fun _=>none⟩
def qm7_:Head:=⟨[(0,(.ref 1000000000 [.ix,.f true,.f true,.f true])),(1,(.val (.int .i64)))],[(1000000000,135,(.st (.pr (.int .i64) (.pr (.int .i64) (.pr (.int .i64) (.sl 2 (.int .i64)))))),false)],[]⟩
def qm8_:Head:=⟨[(0,(.val (.int .i64)))],[(1000000000,135,(.st (.pr (.int .i64) (.pr (.int .i64) (.pr (.int .i64) (.sl 2 (.int .i64)))))),false)],[]⟩
def qm9_ (k:Nat):OC:=⟨qm7_,qm8_,fun x=>zet_ k x.1.1.1 x.1.2.1 x.2.1.1,false⟩
theorem qma_ (k:Nat) (pins:Nat→Value) (pinB:Nat→Nat):zc_ (z3_ ti [] (lk []) pins pinB) (qm6_ k) (rdO (z3_ ti [] (lk []) pins pinB) [.tmp 4] qm8_) ((zb_ (z2_ Tryz.f30)).getD 0 .skip) (fun σ kx=>qm3_.get σ fun x=>qm5_ k k x kx):=by
 refine ⟨qm3_,[(0,qm4_)],fun n x kx=>qm5_ k n x kx,k,by kernel_rfl,by kernel_rfl,fun x kx=>by kernel_rfl,?_,fun σ kx=>rfl⟩
 rintro n ⟨⟨⟨a0n0,⟨⟩⟩,k1,i5,⟨⟩⟩,⟨q_2,⟨⟩⟩,⟨⟩⟩ kx
 kernel_rfl
theorem qmb_ (k:Nat):z12_ Tryz.prog ti 30 (qm9_ k):=by
 refine z3j_ (tab:=[]) (l:=[]) z7_ z9_ mix (List.forall_mem_nil _) (List.forall_mem_nil _) ⟨by kernel_rfl,by kernel_rfl,by kernel_rfl,Tryz.f30,(z2_ Tryz.f30),[.tmp 4],(qm6_ k),by kernel_rfl,by kernel_rfl,by kernel_rfl,by kernel_rfl,Nat.le_of_ble_eq_true (by kernel_rfl),fun pins pinB=>⟨⟨by kernel_rfl,?_,?_⟩,?_⟩⟩
 ·refine zh_ (n:=1) (by kernel_rfl) fun i hi=>?_
  match i,hi with
  | 0,_=>exact zd_ (by kernel_rfl) (qma_ k pins pinB)
  | n+1,hi=>omega
 ·exact z8_ (by kernel_rfl)
 ·rintro ⟨⟨⟨a0n0,⟨⟩⟩,k1,⟨⟩⟩,⟨q_1,⟨⟩⟩,⟨⟩⟩
  kernel_rfl
def z95_ (k:Nat):Nat→Int→Int→zT3→(Int→zT3→Option (((Int×Unit)×(zT3×Unit)×Unit)))→Option (((Int×Unit)×(zT3×Unit)×Unit))
 | 0,_,_,_,_=>none
 | n+1,k1,i5,q_2,e_0=>(if (decide (i5<(List.length q_2:Int)))=true then (if 0≤i5∧i5.toNat<List.length q_2 then (q_2[i5.toNat]?).bind fun y_3=>(q_2[i5.toNat]?).bind fun y_4=>(if 0≤i5∧i5.toNat<List.length (q_2.set i5.toNat (k1,y_3.2)) then ((q_2.set i5.toNat (k1,y_3.2))[i5.toNat]?).bind fun y_5=>((q_2.set i5.toNat (k1,y_3.2))[i5.toNat]?).bind fun y_6=>(if 0≤i5∧i5.toNat<List.length ((q_2.set i5.toNat (k1,y_3.2)).set i5.toNat (y_5.1,((z0_ (k1+1)),y_5.2.2))) then (((q_2.set i5.toNat (k1,y_3.2)).set i5.toNat (y_5.1,((z0_ (k1+1)),y_5.2.2)))[i5.toNat]?).bind fun y_7=>(((q_2.set i5.toNat (k1,y_3.2)).set i5.toNat (y_5.1,((z0_ (k1+1)),y_5.2.2)))[i5.toNat]?).bind fun y_8=>(if 0≤i5∧i5.toNat<List.length (((q_2.set i5.toNat (k1,y_3.2)).set i5.toNat (y_5.1,((z0_ (k1+1)),y_5.2.2))).set i5.toNat (y_7.1,(y_7.2.1,((z0_ ((z0_ (k1+1))+1)),y_7.2.2.2)))) then ((((q_2.set i5.toNat (k1,y_3.2)).set i5.toNat (y_5.1,((z0_ (k1+1)),y_5.2.2))).set i5.toNat (y_7.1,(y_7.2.1,((z0_ ((z0_ (k1+1))+1)),y_7.2.2.2))))[i5.toNat]?).bind fun y_9=>(zet_ k i5.toNat (z0_ ((z0_ ((z0_ (k1+1))+1))+1)) (((q_2.set i5.toNat (k1,y_3.2)).set i5.toNat (y_5.1,((z0_ (k1+1)),y_5.2.2))).set i5.toNat (y_7.1,(y_7.2.1,((z0_ ((z0_ (k1+1))+1)),y_7.2.2.2))))).bind fun y_10=>z95_ k n y_10.1.1 (z0_ (i5+1)) y_10.2.1.1 e_0 else none) else none) else none) else none) else e_0 k1 q_2)
def zeu_ (k:Nat) (k1:Int) (q_1:List (Int×Int×Int×List Int)):Option (((Int×Unit)×(zT3×Unit)×Unit)):=z95_ k k k1 0 q_1 (fun k_11 q_12=>some ((k_11,()),(q_12,()),()))
def qmc_:Head:=⟨[(0,(.ref 1000000000 [])),(1,(.val (.int .i64))),(5,(.val (.int .i64)))],[(1000000000,135,(.st (.pr (.int .i64) (.pr (.int .i64) (.pr (.int .i64) (.sl 2 (.int .i64)))))),false)],[]⟩
def qmd_:Head:=⟨[(1,(.val (.int .i64)))],[(1000000000,135,(.st (.pr (.int .i64) (.pr (.int .i64) (.pr (.int .i64) (.sl 2 (.int .i64)))))),false)],[]⟩
def qme_ (k n:Nat) (x:qmc_.T) (kx:Nat→St→Option (((Int×Unit)×(zT3×Unit)×Unit))):Option (((Int×Unit)×(zT3×Unit)×Unit)):=z95_ k n x.1.2.1 x.1.2.2.1 x.2.1.1 (fun (k1:Int) (q_12:List (Int×Int×Int×List Int))=>kx 0 (qmd_.fill ((k1,()),(q_12,()),())))
def qmf_ (k:Nat):Oracles (((Int×Unit)×(zT3×Unit)×Unit)):=⟨fun n=>bif Nat.beq n 2 then some (fun σ kx=>qmc_.get σ fun x=>qme_ k k x kx) else none,fun _=>none⟩
def qmg_:Head:=⟨[(0,(.ref 1000000000 [])),(1,(.val (.int .i64)))],[(1000000000,135,(.st (.pr (.int .i64) (.pr (.int .i64) (.pr (.int .i64) (.sl 2 (.int .i64)))))),false)],[]⟩
def qmh_:Head:=⟨[(0,(.val (.int .i64)))],[(1000000000,135,(.st (.pr (.int .i64) (.pr (.int .i64) (.pr (.int .i64) (.sl 2 (.int .i64)))))),false)],[]⟩
def qmi_ (k:Nat):OC:=⟨qmg_,qmh_,fun x=>zeu_ k x.1.2.1 x.2.1.1,false⟩
theorem qmj_ (k:Nat) (pins:Nat→Value) (pinB:Nat→Nat):zc_ (z3_ ti [] (lk [(39,30,qm9_ k)]) pins pinB) (qmf_ k) (rdO (z3_ ti [] (lk [(39,30,qm9_ k)]) pins pinB) [.tmp 4] qmh_) ((zb_ (z2_ Tryz.f55)).getD 0 .skip) (fun σ kx=>qmc_.get σ fun x=>qme_ k k x kx):=by
 refine ⟨qmc_,[(0,qmd_)],fun n x kx=>qme_ k n x kx,k,by kernel_rfl,by kernel_rfl,fun x kx=>by kernel_rfl,?_,fun σ kx=>rfl⟩
 rintro n ⟨⟨⟨⟩,k1,i5,⟨⟩⟩,⟨q_2,⟨⟩⟩,⟨⟩⟩ kx
 kernel_rfl
theorem qmk_ (k:Nat):z12_ Tryz.prog ti 55 (qmi_ k):=by
 refine z3j_ (tab:=[]) (l:=[(39,30,qm9_ k)]) z7_ z9_ mix (List.forall_mem_nil _) (List.forall_mem_cons.2 ⟨qmb_ k,(List.forall_mem_nil _)⟩) ⟨by kernel_rfl,by kernel_rfl,by kernel_rfl,Tryz.f55,(z2_ Tryz.f55),[.tmp 4],(qmf_ k),by kernel_rfl,by kernel_rfl,by kernel_rfl,by kernel_rfl,Nat.le_of_ble_eq_true (by kernel_rfl),fun pins pinB=>⟨⟨by kernel_rfl,?_,?_⟩,?_⟩⟩
 ·refine zh_ (n:=1) (by kernel_rfl) fun i hi=>?_
  match i,hi with
  | 0,_=>exact zd_ (by kernel_rfl) (qmj_ k pins pinB)
  | n+1,hi=>omega
 ·exact z8_ (by kernel_rfl)
 ·rintro ⟨⟨⟨⟩,k1,⟨⟩⟩,⟨q_1,⟨⟩⟩,⟨⟩⟩
  kernel_rfl
def zi8_ (k:Nat) (a0ba:Int) (k1:Int) (q_1:List (List Int)) (q_2:List Int) (q_3:List (Int×Int×Int×List Int)):Option (((Int×Unit)×(zT3×(List Int)×zT4×Unit)×Unit)):=(zi7_ k k1 q_1).bind fun y_4=>(z57_ k y_4.1.1 q_2).bind fun y_5=>(zeu_ k y_5.1.1 q_3).bind fun y_6=>some ((y_6.1.1,()),(y_6.2.1.1,y_5.2.1.1,y_4.2.1.1,()),())
def qml_:Head:=⟨[(0,(.st (.pr (.st (.ref 1000000000 [])) (.pr (.val (.int .i64)) (.pr (.ref 1000000001 []) (.ref 1000000002 [])))))),(1,(.val (.int .i64)))],[(1000000000,25,(.sl 2 (.int .i64)),false),(1000000001,2,(.int .i64),false),(1000000002,135,(.st (.pr (.int .i64) (.pr (.int .i64) (.pr (.int .i64) (.sl 2 (.int .i64)))))),false)],[]⟩
def qmm_:Head:=⟨[(0,(.val (.int .i64)))],[(1000000002,135,(.st (.pr (.int .i64) (.pr (.int .i64) (.pr (.int .i64) (.sl 2 (.int .i64)))))),false),(1000000001,2,(.int .i64),false),(1000000000,25,(.sl 2 (.int .i64)),false)],[]⟩
def qmn_ (k:Nat):OC:=⟨qml_,qmm_,fun x=>zi8_ k x.1.1.2.1 x.1.2.1 x.2.1.1 x.2.1.2.1 x.2.1.2.2.1,false⟩
theorem qmo_ (k:Nat):z12_ Tryz.prog ti 29 (qmn_ k):=by
 refine z3j_ (tab:=[]) (l:=[(8,54,qls_ k),(12,30,qm0_ k),(16,55,qmi_ k)]) z7_ z9_ mix (List.forall_mem_nil _) (List.forall_mem_cons.2 ⟨qlt_ k,(List.forall_mem_cons.2 ⟨qm2_ k,(List.forall_mem_cons.2 ⟨qmk_ k,(List.forall_mem_nil _)⟩)⟩)⟩) ⟨by kernel_rfl,by kernel_rfl,by kernel_rfl,Tryz.f29,(z2_ Tryz.f29),[.tmp 4],(LOn (((Int×Unit)×(zT3×(List Int)×zT4×Unit)×Unit))),by kernel_rfl,by kernel_rfl,by kernel_rfl,by kernel_rfl,Nat.le_of_ble_eq_true (by kernel_rfl),fun pins pinB=>⟨⟨by kernel_rfl,?_,?_⟩,?_⟩⟩
 ·exact ze_ (by kernel_rfl)
 ·exact z8_ (by kernel_rfl)
 ·rintro ⟨⟨⟨⟨⟩,⟨a0ba,⟨⟨⟩,⟨⟩⟩⟩⟩,k1,⟨⟩⟩,⟨q_1,q_2,q_3,⟨⟩⟩,⟨⟩⟩
  kernel_rfl
def z96_ (k:Nat):Nat→Int→Int→zT2→(Int→zT2→Option (((Int×Unit)×(zT2×Unit)×Unit)))→Option (((Int×Unit)×(zT2×Unit)×Unit))
 | 0,_,_,_,_=>none
 | n+1,k1,i5,q_2,e_0=>(if (decide (i5<(List.length q_2:Int)))=true then (if 0≤i5∧i5.toNat<List.length q_2 then (q_2[i5.toNat]?).bind fun y_3=>(q_2[i5.toNat]?).bind fun y_4=>(if 0≤i5∧i5.toNat<List.length (q_2.set i5.toNat (k1,y_3.2)) then ((q_2.set i5.toNat (k1,y_3.2))[i5.toNat]?).bind fun y_5=>((q_2.set i5.toNat (k1,y_3.2))[i5.toNat]?).bind fun y_6=>(if 0≤i5∧i5.toNat<List.length ((q_2.set i5.toNat (k1,y_3.2)).set i5.toNat (y_5.1,((z0_ (k1+1)),y_5.2.2))) then (((q_2.set i5.toNat (k1,y_3.2)).set i5.toNat (y_5.1,((z0_ (k1+1)),y_5.2.2)))[i5.toNat]?).bind fun y_7=>(((q_2.set i5.toNat (k1,y_3.2)).set i5.toNat (y_5.1,((z0_ (k1+1)),y_5.2.2)))[i5.toNat]?).bind fun y_8=>z96_ k n (z0_ ((z0_ ((z0_ (k1+1))+1))+1)) (z0_ (i5+1)) (((q_2.set i5.toNat (k1,y_3.2)).set i5.toNat (y_5.1,((z0_ (k1+1)),y_5.2.2))).set i5.toNat (y_7.1,(y_7.2.1,(z0_ ((z0_ (k1+1))+1))))) e_0 else none) else none) else none) else e_0 k1 q_2)
def zev_ (k:Nat) (k1:Int) (q_1:List (Int×Int×Int)):Option (((Int×Unit)×(zT2×Unit)×Unit)):=z96_ k k k1 0 q_1 (fun k_9 q_10=>some ((k_9,()),(q_10,()),()))
def qmp_:Head:=⟨[(0,(.ref 1000000000 [])),(1,(.val (.int .i64))),(5,(.val (.int .i64)))],[(1000000000,138,(.st (.pr (.int .i64) (.pr (.int .i64) (.int .i64)))),false)],[]⟩
def qmq_:Head:=⟨[(1,(.val (.int .i64)))],[(1000000000,138,(.st (.pr (.int .i64) (.pr (.int .i64) (.int .i64)))),false)],[]⟩
def qmr_ (k n:Nat) (x:qmp_.T) (kx:Nat→St→Option (((Int×Unit)×(zT2×Unit)×Unit))):Option (((Int×Unit)×(zT2×Unit)×Unit)):=z96_ k n x.1.2.1 x.1.2.2.1 x.2.1.1 (fun (k1:Int) (q_9:List (Int×Int×Int))=>kx 0 (qmq_.fill ((k1,()),(q_9,()),())))
def qms_ (k:Nat):Oracles (((Int×Unit)×(zT2×Unit)×Unit)):=⟨fun n=>bif Nat.beq n 2 then some (fun σ kx=>qmp_.get σ fun x=>qmr_ k k x kx) else none,fun _=>none⟩
def qmt_:Head:=⟨[(0,(.ref 1000000000 [])),(1,(.val (.int .i64)))],[(1000000000,138,(.st (.pr (.int .i64) (.pr (.int .i64) (.int .i64)))),false)],[]⟩
def qmu_:Head:=⟨[(0,(.val (.int .i64)))],[(1000000000,138,(.st (.pr (.int .i64) (.pr (.int .i64) (.int .i64)))),false)],[]⟩
def qmv_ (k:Nat):OC:=⟨qmt_,qmu_,fun x=>zev_ k x.1.2.1 x.2.1.1,false⟩
theorem qmw_ (k:Nat) (pins:Nat→Value) (pinB:Nat→Nat):zc_ (z3_ ti [] (lk []) pins pinB) (qms_ k) (rdO (z3_ ti [] (lk []) pins pinB) [.tmp 4] qmu_) ((zb_ (z2_ Tryz.f56)).getD 0 .skip) (fun σ kx=>qmp_.get σ fun x=>qmr_ k k x kx):=by
 refine ⟨qmp_,[(0,qmq_)],fun n x kx=>qmr_ k n x kx,k,by kernel_rfl,by kernel_rfl,fun x kx=>by kernel_rfl,?_,fun σ kx=>rfl⟩
 rintro n ⟨⟨⟨⟩,k1,i5,⟨⟩⟩,⟨q_2,⟨⟩⟩,⟨⟩⟩ kx
 kernel_rfl
theorem qmx_ (k:Nat):z12_ Tryz.prog ti 56 (qmv_ k):=by
 refine z3j_ (tab:=[]) (l:=[]) z7_ z9_ mix (List.forall_mem_nil _) (List.forall_mem_nil _) ⟨by kernel_rfl,by kernel_rfl,by kernel_rfl,Tryz.f56,(z2_ Tryz.f56),[.tmp 4],(qms_ k),by kernel_rfl,by kernel_rfl,by kernel_rfl,by kernel_rfl,Nat.le_of_ble_eq_true (by kernel_rfl),fun pins pinB=>⟨⟨by kernel_rfl,?_,?_⟩,?_⟩⟩
 ·refine zh_ (n:=1) (by kernel_rfl) fun i hi=>?_
  match i,hi with
  | 0,_=>exact zd_ (by kernel_rfl) (qmw_ k pins pinB)
  | n+1,hi=>omega
 ·exact z8_ (by kernel_rfl)
 ·rintro ⟨⟨⟨⟩,k1,⟨⟩⟩,⟨q_1,⟨⟩⟩,⟨⟩⟩
  kernel_rfl
def zi9_ (k:Nat) (a0a:Int) (a0ba:Int) (a0bba:Int) (k1:Int) (q_1:List (Int×Int×Int)):Option (((Int×Unit)×(zT2×Unit)×Unit)):=(zev_ k k1 q_1).bind fun y_2=>some ((y_2.1.1,()),(y_2.2.1.1,()),())
def qmy_:Head:=⟨[(0,(.st (.pr (.val (.int .i64)) (.pr (.val (.int .i64)) (.pr (.val (.int .i64)) (.ref 1000000000 [])))))),(1,(.val (.int .i64)))],[(1000000000,138,(.st (.pr (.int .i64) (.pr (.int .i64) (.int .i64)))),false)],[]⟩
def qmz_:Head:=⟨[(0,(.val (.int .i64)))],[(1000000000,138,(.st (.pr (.int .i64) (.pr (.int .i64) (.int .i64)))),false)],[]⟩
def qn0_ (k:Nat):OC:=⟨qmy_,qmz_,fun x=>zi9_ k x.1.1.1 x.1.1.2.1 x.1.1.2.2.1 x.1.2.1 x.2.1.1,false⟩
theorem qn1_ (k:Nat):z12_ Tryz.prog ti 31 (qn0_ k):=by
 refine z3j_ (tab:=[]) (l:=[(8,56,qmv_ k)]) z7_ z9_ mix (List.forall_mem_nil _) (List.forall_mem_cons.2 ⟨qmx_ k,(List.forall_mem_nil _)⟩) ⟨by kernel_rfl,by kernel_rfl,by kernel_rfl,Tryz.f31,(z2_ Tryz.f31),[.tmp 4],(LOn (((Int×Unit)×(zT2×Unit)×Unit))),by kernel_rfl,by kernel_rfl,by kernel_rfl,by kernel_rfl,Nat.le_of_ble_eq_true (by kernel_rfl),fun pins pinB=>⟨⟨by kernel_rfl,?_,?_⟩,?_⟩⟩
 ·exact ze_ (by kernel_rfl)
 ·exact z8_ (by kernel_rfl)
 ·rintro ⟨⟨⟨a0a,⟨a0ba,⟨a0bba,⟨⟩⟩⟩⟩,k1,⟨⟩⟩,⟨q_1,⟨⟩⟩,⟨⟩⟩
  kernel_rfl
end
end Go.Proofs.YtbfbojmkmjhdcaaGreatDoor.Ev
