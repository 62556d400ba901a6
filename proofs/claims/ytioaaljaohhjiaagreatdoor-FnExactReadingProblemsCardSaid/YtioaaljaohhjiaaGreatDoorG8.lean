/- Functions of the program, as plain ones. No conditions. -/
import Derived.Test.YtioaaljaohhjiaaGreatDoorG7
import Derived.KernelRfl
set_option linter.unusedVariables false
set_option maxRecDepth 100000
namespace Go.Proofs.YtioaaljaohhjiaaGreatDoor.Ev
open Go.RowKit
noncomputable section
def zh0_ (k:Nat):Nat→(Int×Int×List (Int×Int×Int))→(List Int)→Int→(List Int)→((List Int)→Option (List Int))→Option (List Int)
 | 0,_,_,_,_,_=>none
 | n+1,x0,phases1,i6,q_1,e_0=>(if (decide (i6<(List.length x0.2.2:Int)))=true then (if 0≤i6 then (x0.2.2[i6.toNat]?).bind fun y_2=>(if 0≤y_2.2.1 then (phases1[y_2.2.1.toNat]?).bind fun y_3=>(if 0≤y_2.1 then (phases1[y_2.1.toNat]?).bind fun y_4=>(zkg_ (z0_ ((z0_ (y_3-y_4))-y_2.2.2)) x0.2.1).bind fun r_5=>(if (!(decide (r_5=0)))=true then (if (q_1.length+[i6].length)*8≤LIM then zh0_ k n x0 phases1 (z0_ (i6+1)) (q_1++[i6]) e_0 else none) else zh0_ k n x0 phases1 (z0_ (i6+1)) q_1 e_0) else none) else none) else none) else e_0 q_1)
def zp6_ (k:Nat) (x0:Int×Int×List (Int×Int×Int)) (phases1:List Int):Option (List Int):=zh0_ k k x0 phases1 0 [] (fun q_6=>some q_6)
def qbz_:Head:=⟨[(0,(.val (.ptr (.st (.pr (.int .i64) (.pr (.int .i64) (.sl 133 (.st (.pr (.int .i64) (.pr (.int .i64) (.int .i64))))))))))),(1,(.val (.sl 2 (.int .i64)))),(5,(.ref 64000000 [])),(6,(.val (.int .i64)))],[(64000000,2,(.int .i64),false)],[]⟩
def qc0_:Head:=⟨[(5,(.ref 64000000 []))],[(64000000,2,(.int .i64),false)],[]⟩
def qc1_ (k n:Nat) (x:qbz_.T) (kx:Nat→St→Option (List Int)):Option (List Int):=zh0_ k n x.1.1 x.1.2.1 x.1.2.2.2.1 x.2.1.1 (fun (q_6:List Int)=>kx 0 (qc0_.fill (((),()),(q_6,()),())))
def qc2_ (k:Nat):Oracles (List Int):=⟨fun n=>bif Nat.beq n 3 then some (fun σ kx=>qbz_.get σ fun x=>qc1_ k k x kx) else none,fun _=>none⟩
def qc3_ (k:Nat):FE:=⟨(.pr (.ptr (.st (.pr (.int .i64) (.pr (.int .i64) (.sl 133 (.st (.pr (.int .i64) (.pr (.int .i64) (.int .i64))))))))) (.sl 2 (.int .i64))),1,(.sl 2 (.int .i64)),fun x=>zp6_ k x.1 x.2⟩
theorem qc4_ (k:Nat):zc_ (z3_ ti [(123,q9h_)] (lk []) z4_ z5_) (qc2_ k) (rdC (z3_ ti [(123,q9h_)] (lk []) z4_ z5_) [.tmp 4] (.sl 2 (.int .i64))) ((zb_ (z2_ Tryz.f78)).getD 0 .skip) (fun σ kx=>qbz_.get σ fun x=>qc1_ k k x kx):=by
 refine ⟨qbz_,[(0,qc0_)],fun n x kx=>qc1_ k n x kx,k,by kernel_rfl,by kernel_rfl,fun x kx=>by kernel_rfl,?_,fun σ kx=>rfl⟩
 rintro n ⟨⟨x0,phases1,⟨⟩,i6,⟨⟩⟩,⟨q_1,⟨⟩⟩,⟨⟩⟩ kx
 kernel_rfl
theorem qc5_ (k:Nat):FnOK Tryz.prog 78 (qc3_ k):=by
 refine za_ (tab:=[(123,q9h_)]) (l:=[]) z7_ z9_ mix (List.forall_mem_cons.2 ⟨q9i_,(List.forall_mem_nil _)⟩) (List.forall_mem_nil _) ⟨⟨Tryz.f78,(z2_ Tryz.f78),[.tmp 4],(qc2_ k),by kernel_rfl,by kernel_rfl,by kernel_rfl,by kernel_rfl,rfl,by decide,⟨by kernel_rfl,?_,?_⟩,?_⟩⟩
 ·refine zf_ (n:=1) (by kernel_rfl) fun i hi=>?_
  match i,hi with
  | 0,_=>exact zd_ (by kernel_rfl) (qc4_ k)
  | n+1,hi=>omega
 ·exact z8_ (by kernel_rfl)
 ·rintro ⟨x0,phases1⟩
  kernel_rfl
def zkk_ (k:Nat):Nat→(zT0×Int×List Int×List Int×(Int×Int×Int×List (Int×Int×Int))×List Int×List Int×(Int×Int×List (Int×Int×Int))×List Int)→Int→zT1→(List Int)→(zT1→Option zT1)→Option zT1
 | 0,_,_,_,_,_=>none
 | n+1,w0,i5,q_2,q_3,e_0=>(if (decide (i5<(List.length q_3:Int)))=true then (if 0≤i5∧i5.toNat<List.length q_3 then (q_3[i5.toNat]?).bind fun y_4=>(if 0≤y_4 then (w0.2.2.2.2.2.2.2.1.2.2[y_4.toNat]?).bind fun y_5=>(z7x_ k [y_5.1,y_5.2.1]).bind fun r_6=>(if (q_2.length+[(5,(r_6,[115,104,105,102,116]))].length)*40≤LIM then zkk_ k n w0 (z0_ (i5+1)) (q_2++[(5,(r_6,[115,104,105,102,116]))]) q_3 e_0 else none) else none) else none) else e_0 q_2)
def zp7_ (k:Nat) (w0:zT0×Int×List Int×List Int×(Int×Int×Int×List (Int×Int×Int))×List Int×List Int×(Int×Int×List (Int×Int×Int))×List Int):Option zT1:=(zp6_ k w0.2.2.2.2.2.2.2.1 w0.2.2.2.2.2.2.2.2).bind fun r_1=>zkk_ k k w0 0 [] r_1 (fun q_7=>some q_7)
def qc6_:Head:=⟨[(0,(.val (.ptr (.st (.pr (.st (.pr (.st (.sl 25 (.sl 2 (.int .i64)))) (.pr (.int .i64) (.pr (.sl 2 (.int .i64)) (.sl 135 (.st (.pr (.int .i64) (.pr (.int .i64) (.pr (.int .i64) (.sl 2 (.int .i64))))))))))) (.pr (.int .i64) (.pr (.sl 2 (.int .i64)) (.pr (.sl 2 (.int .i64)) (.pr (.st (.pr (.int .i64) (.pr (.int .i64) (.pr (.int .i64) (.sl 138 (.st (.pr (.int .i64) (.pr (.int .i64) (.int .i64))))))))) (.pr (.sl 2 (.int .i64)) (.pr (.sl 2 (.int .i64)) (.pr (.st (.pr (.int .i64) (.pr (.int .i64) (.sl 133 (.st (.pr (.int .i64) (.pr (.int .i64) (.int .i64)))))))) (.sl 2 (.int .i64)))))))))))))),(3,(.ref 64000000 [])),(4,(.ref 64000001 [])),(5,(.val (.int .i64)))],[(64000000,73,(.st (.pr (.int .i64) (.pr .str .str))),false),(64000001,2,(.int .i64),false)],[]⟩
def qc7_:Head:=⟨[(3,(.ref 64000000 []))],[(64000000,73,(.st (.pr (.int .i64) (.pr .str .str))),false)],[]⟩
def qc8_ (k n:Nat) (x:qc6_.T) (kx:Nat→St→Option zT1):Option zT1:=zkk_ k n x.1.1 x.1.2.2.2.1 x.2.1.1 x.2.1.2.1 (fun (q_7:List (Int×List UInt8×List UInt8))=>kx 0 (qc7_.fill (((),()),(q_7,()),())))
def qc9_ (k:Nat):Oracles zT1:=⟨fun n=>bif Nat.beq n 4 then some (fun σ kx=>qc6_.get σ fun x=>qc8_ k k x kx) else none,fun _=>none⟩
def qca_ (k:Nat):FE:=⟨(.ptr (.st (.pr (.st (.pr (.st (.sl 25 (.sl 2 (.int .i64)))) (.pr (.int .i64) (.pr (.sl 2 (.int .i64)) (.sl 135 (.st (.pr (.int .i64) (.pr (.int .i64) (.pr (.int .i64) (.sl 2 (.int .i64))))))))))) (.pr (.int .i64) (.pr (.sl 2 (.int .i64)) (.pr (.sl 2 (.int .i64)) (.pr (.st (.pr (.int .i64) (.pr (.int .i64) (.pr (.int .i64) (.sl 138 (.st (.pr (.int .i64) (.pr (.int .i64) (.int .i64))))))))) (.pr (.sl 2 (.int .i64)) (.pr (.sl 2 (.int .i64)) (.pr (.st (.pr (.int .i64) (.pr (.int .i64) (.sl 133 (.st (.pr (.int .i64) (.pr (.int .i64) (.int .i64)))))))) (.sl 2 (.int .i64)))))))))))),1,(.sl 73 (.st (.pr (.int .i64) (.pr .str .str)))),fun x=>zp7_ k x⟩
theorem qcb_ (k:Nat):zc_ (z3_ ti [(78,qc3_ k),(68,q7o_ k)] (lk []) z4_ z5_) (qc9_ k) (rdC (z3_ ti [(78,qc3_ k),(68,q7o_ k)] (lk []) z4_ z5_) [.tmp 2] (.sl 73 (.st (.pr (.int .i64) (.pr .str .str))))) ((zb_ (z2_ Tryz.f42)).getD 0 .skip) (fun σ kx=>qc6_.get σ fun x=>qc8_ k k x kx):=by
 refine ⟨qc6_,[(0,qc7_)],fun n x kx=>qc8_ k n x kx,k,by kernel_rfl,by kernel_rfl,fun x kx=>by kernel_rfl,?_,fun σ kx=>rfl⟩
 rintro n ⟨⟨w0,⟨⟩,⟨⟩,i5,⟨⟩⟩,⟨q_2,q_3,⟨⟩⟩,⟨⟩⟩ kx
 kernel_rfl
theorem qcc_ (k:Nat):FnOK Tryz.prog 42 (qca_ k):=by
 refine za_ (tab:=[(78,qc3_ k),(68,q7o_ k)]) (l:=[]) z7_ z9_ mix (List.forall_mem_cons.2 ⟨qc5_ k,(List.forall_mem_cons.2 ⟨q7q_ k,(List.forall_mem_nil _)⟩)⟩) (List.forall_mem_nil _) ⟨⟨Tryz.f42,(z2_ Tryz.f42),[.tmp 2],(qc9_ k),by kernel_rfl,by kernel_rfl,by kernel_rfl,by kernel_rfl,rfl,by decide,⟨by kernel_rfl,?_,?_⟩,?_⟩⟩
 ·refine zf_ (n:=1) (by kernel_rfl) fun i hi=>?_
  match i,hi with
  | 0,_=>exact zd_ (by kernel_rfl) (qcb_ k)
  | n+1,hi=>omega
 ·exact z8_ (by kernel_rfl)
 ·rintro w0
  kernel_rfl
def zkl_ (k:Nat) (w0:zT0×Int×List Int×List Int×(Int×Int×Int×List (Int×Int×Int))×List Int×List Int×(Int×Int×List (Int×Int×Int))×List Int) (part1:Int):Option (zT1×Int):=(zgp_ k w0).bind fun r_1=>(if (!r_1)=true then some ([],1) else (if (decide (part1=1))=true then (zp1_ k w0).bind fun r_2=>some (r_2,0) else (if (decide (part1=2))=true then (zgz_ k w0).bind fun r_3=>some (r_3,0) else (if (decide (part1=3))=true then (zp5_ k w0).bind fun r_4=>some (r_4,0) else (zp7_ k w0).bind fun r_5=>some (r_5,0)))))
def qcd_ (k:Nat):FE:=⟨(.pr (.ptr (.st (.pr (.st (.pr (.st (.sl 25 (.sl 2 (.int .i64)))) (.pr (.int .i64) (.pr (.sl 2 (.int .i64)) (.sl 135 (.st (.pr (.int .i64) (.pr (.int .i64) (.pr (.int .i64) (.sl 2 (.int .i64))))))))))) (.pr (.int .i64) (.pr (.sl 2 (.int .i64)) (.pr (.sl 2 (.int .i64)) (.pr (.st (.pr (.int .i64) (.pr (.int .i64) (.pr (.int .i64) (.sl 138 (.st (.pr (.int .i64) (.pr (.int .i64) (.int .i64))))))))) (.pr (.sl 2 (.int .i64)) (.pr (.sl 2 (.int .i64)) (.pr (.st (.pr (.int .i64) (.pr (.int .i64) (.sl 133 (.st (.pr (.int .i64) (.pr (.int .i64) (.int .i64)))))))) (.sl 2 (.int .i64)))))))))))) (.int .i64)),2,(.pr (.sl 73 (.st (.pr (.int .i64) (.pr .str .str)))) (.int .i64)),fun x=>zkl_ k x.1 x.2⟩
theorem qce_ (k:Nat):FnOK Tryz.prog 17 (qcd_ k):=by
 refine za_ (tab:=[(38,q60_ k),(39,qaj_ k),(40,qaw_ k),(41,qbx_ k),(42,qca_ k)]) (l:=[]) z7_ z9_ mix (List.forall_mem_cons.2 ⟨q61_ k,(List.forall_mem_cons.2 ⟨qak_ k,(List.forall_mem_cons.2 ⟨qay_ k,(List.forall_mem_cons.2 ⟨qby_ k,(List.forall_mem_cons.2 ⟨qcc_ k,(List.forall_mem_nil _)⟩)⟩)⟩)⟩)⟩) (List.forall_mem_nil _) ⟨⟨Tryz.f17,(z2_ Tryz.f17),[.tmp 4,.tmp 5],(LOn (zT1×Int)),by kernel_rfl,by kernel_rfl,by kernel_rfl,by kernel_rfl,rfl,by decide,⟨by kernel_rfl,?_,?_⟩,?_⟩⟩
 ·exact ze_ (by kernel_rfl)
 ·exact z8_ (by kernel_rfl)
 ·rintro ⟨w0,part1⟩
  kernel_rfl
def zge_ (k:Nat) (w0:zT0×Int×List Int×List Int×(Int×Int×Int×List (Int×Int×Int))×List Int×List Int×(Int×Int×List (Int×Int×Int))×List Int):Option (zT1×Int):=(zkl_ k w0 2).bind fun r_1=>some (r_1.1,r_1.2)
def qcf_ (k:Nat):FE:=⟨(.st (.pr (.st (.pr (.st (.sl 25 (.sl 2 (.int .i64)))) (.pr (.int .i64) (.pr (.sl 2 (.int .i64)) (.sl 135 (.st (.pr (.int .i64) (.pr (.int .i64) (.pr (.int .i64) (.sl 2 (.int .i64))))))))))) (.pr (.int .i64) (.pr (.sl 2 (.int .i64)) (.pr (.sl 2 (.int .i64)) (.pr (.st (.pr (.int .i64) (.pr (.int .i64) (.pr (.int .i64) (.sl 138 (.st (.pr (.int .i64) (.pr (.int .i64) (.int .i64))))))))) (.pr (.sl 2 (.int .i64)) (.pr (.sl 2 (.int .i64)) (.pr (.st (.pr (.int .i64) (.pr (.int .i64) (.sl 133 (.st (.pr (.int .i64) (.pr (.int .i64) (.int .i64)))))))) (.sl 2 (.int .i64))))))))))),2,(.pr (.sl 73 (.st (.pr (.int .i64) (.pr .str .str)))) (.int .i64)),fun x=>zge_ k x⟩
theorem qcg_ (k:Nat):FnOK Tryz.prog 5 (qcf_ k):=by
 refine za_ (tab:=[(17,qcd_ k)]) (l:=[]) z7_ z9_ mix (List.forall_mem_cons.2 ⟨qce_ k,(List.forall_mem_nil _)⟩) (List.forall_mem_nil _) ⟨⟨Tryz.f5,(z2_ Tryz.f5),[.tmp 2,.tmp 3],(LOn (zT1×Int)),by kernel_rfl,by kernel_rfl,by kernel_rfl,by kernel_rfl,rfl,by decide,⟨by kernel_rfl,?_,?_⟩,?_⟩⟩
 ·exact ze_ (by kernel_rfl)
 ·exact z8_ (by kernel_rfl)
 ·rintro w0
  kernel_rfl
def zaq_ (k:Nat):Nat→(List Int)→Int→(Option Bool)→Option Bool
 | 0,_,_,_=>none
 | n+1,list0,k3,e_0=>(if (decide (k3<(List.length list0:Int)))=true then (if 0≤(z0_ (k3-1)) then (list0[(z0_ (k3-1)).toNat]?).bind fun y_1=>(if 0≤k3 then (list0[k3.toNat]?).bind fun y_2=>(if (decide (y_2≤y_1))=true then some false else zaq_ k n list0 (z0_ (k3+1)) e_0) else none) else none) else e_0)
def zh1_ (k:Nat) (list0:List Int):Option Bool:=zaq_ k k list0 1 (some true)
def qch_:Head:=⟨[(0,(.val (.sl 2 (.int .i64)))),(3,(.val (.int .i64)))],[],[]⟩
def qci_:Head:=⟨[],[],[]⟩
def qcj_ (k n:Nat) (x:qch_.T) (kx:Nat→St→Option Bool):Option Bool:=zaq_ k n x.1.1 x.1.2.1 (kx 0 (qci_.fill ((),(),())))
def qck_ (k:Nat):Oracles Bool:=⟨fun n=>bif Nat.beq n 2 then some (fun σ kx=>qch_.get σ fun x=>qcj_ k k x kx) else none,fun _=>none⟩
def qcl_ (k:Nat):FE:=⟨(.sl 2 (.int .i64)),1,.bool,fun x=>zh1_ k x⟩
theorem qcm_ (k:Nat):zc_ (z3_ ti [] (lk []) z4_ z5_) (qck_ k) (rdC (z3_ ti [] (lk []) z4_ z5_) [.tmp 2] .bool) ((zb_ (z2_ Tryz.f181)).getD 0 .skip) (fun σ kx=>qch_.get σ fun x=>qcj_ k k x kx):=by
 refine ⟨qch_,[(0,qci_)],fun n x kx=>qcj_ k n x kx,k,by kernel_rfl,by kernel_rfl,fun x kx=>by kernel_rfl,?_,fun σ kx=>rfl⟩
 rintro n ⟨⟨list0,k3,⟨⟩⟩,⟨⟩,⟨⟩⟩ kx
 kernel_rfl
theorem qcn_ (k:Nat):FnOK Tryz.prog 181 (qcl_ k):=by
 refine za_ (tab:=[]) (l:=[]) z7_ z9_ mix (List.forall_mem_nil _) (List.forall_mem_nil _) ⟨⟨Tryz.f181,(z2_ Tryz.f181),[.tmp 2],(qck_ k),by kernel_rfl,by kernel_rfl,by kernel_rfl,by kernel_rfl,rfl,by decide,⟨by kernel_rfl,?_,?_⟩,?_⟩⟩
 ·refine zf_ (n:=1) (by kernel_rfl) fun i hi=>?_
  match i,hi with
  | 0,_=>exact zd_ (by kernel_rfl) (qcm_ k)
  | n+1,hi=>omega
 ·exact z8_ (by kernel_rfl)
 ·rintro list0
  kernel_rfl
def z2e_ (n0:Int) (low1:Int) (high2:Int):Option Bool:=(if (decide (low1≤n0))=true then some (decide (n0≤high2)) else some false)
def qco_:FE:=⟨(.pr (.int .i64) (.pr (.int .i64) (.int .i64))),1,.bool,fun x=>z2e_ x.1 x.2.1 x.2.2⟩
theorem qcp_:FnOK Tryz.prog 129 (qco_):=by
 refine za_ (tab:=[]) (l:=[]) z7_ z9_ mix (List.forall_mem_nil _) (List.forall_mem_nil _) ⟨⟨Tryz.f129,(z2_ Tryz.f129),[.tmp 6],(LOn Bool),by kernel_rfl,by kernel_rfl,by kernel_rfl,by kernel_rfl,rfl,by decide,⟨by kernel_rfl,?_,?_⟩,?_⟩⟩
 ·exact ze_ (by kernel_rfl)
 ·exact z8_ (by kernel_rfl)
 ·rintro ⟨n0,low1,high2⟩
  kernel_rfl
def zkm_ (v0:Int):Option Bool:=(z2e_ v0 0 9).bind fun r_1=>some r_1
def qcq_:FE:=⟨(.int .i64),1,.bool,fun x=>zkm_ x⟩
theorem qcr_:FnOK Tryz.prog 183 (qcq_):=by
 refine za_ (tab:=[(129,qco_)]) (l:=[]) z7_ z9_ mix (List.forall_mem_cons.2 ⟨qcp_,(List.forall_mem_nil _)⟩) (List.forall_mem_nil _) ⟨⟨Tryz.f183,(z2_ Tryz.f183),[.tmp 2],(LOn Bool),by kernel_rfl,by kernel_rfl,by kernel_rfl,by kernel_rfl,rfl,by decide,⟨by kernel_rfl,?_,?_⟩,?_⟩⟩
 ·exact ze_ (by kernel_rfl)
 ·exact z8_ (by kernel_rfl)
 ·rintro v0
  kernel_rfl
def zkn_ (v0:Int):Option Bool:=(zkm_ v0).bind fun r_1=>some (!r_1)
def qcs_:FE:=⟨(.int .i64),1,.bool,fun x=>zkn_ x⟩
theorem qct_:FnOK Tryz.prog 182 (qcs_):=by
 refine za_ (tab:=[(183,qcq_)]) (l:=[]) z7_ z9_ mix (List.forall_mem_cons.2 ⟨qcr_,(List.forall_mem_nil _)⟩) (List.forall_mem_nil _) ⟨⟨Tryz.f182,(z2_ Tryz.f182),[.tmp 2],(LOn Bool),by kernel_rfl,by kernel_rfl,by kernel_rfl,by kernel_rfl,rfl,by decide,⟨by kernel_rfl,?_,?_⟩,?_⟩⟩
 ·exact ze_ (by kernel_rfl)
 ·exact z8_ (by kernel_rfl)
 ·rintro v0
  kernel_rfl
def zar_ (k:Nat):Nat→(List Int)→Unit→Int→Int→(Option Int)→Option Int
 | 0,_,_,_,_,_=>none
 | n+1,s0,f1,x7,x8,e_0=>(if (decide (x8<x7))=true then (if 0≤x8 then (s0[x8.toNat]?).bind fun y_1=>(zkn_ y_1).bind fun r_2=>(if r_2=true then some x8 else zar_ k n s0 f1 x7 (z0_ (x8+1)) e_0) else none) else e_0)
def zko_ (k:Nat) (s0:List Int) (f1:Unit):Option Int:=zar_ k k s0 f1 (List.length s0:Int) 0 (some (-1))
def qcu_:Head:=⟨[(0,(.val (.sl 2 (.int .i64)))),(1,(.val (.fn 182 .un))),(7,(.val (.int .i64))),(8,(.val (.int .i64)))],[],[]⟩
def qcv_:Head:=⟨[],[],[]⟩
def qcw_ (k n:Nat) (x:qcu_.T) (kx:Nat→St→Option Int):Option Int:=zar_ k n x.1.1 x.1.2.1 x.1.2.2.1 x.1.2.2.2.1 (kx 0 (qcv_.fill ((),(),())))
def qcx_ (k:Nat):Oracles Int:=⟨fun n=>bif Nat.beq n 2 then some (fun σ kx=>qcu_.get σ fun x=>qcw_ k k x kx) else none,fun _=>none⟩
def qcy_ (k:Nat):FE:=⟨(.pr (.sl 2 (.int .i64)) (.fn 182 .un)),1,(.int .i64),fun x=>zko_ k x.1 x.2⟩
theorem qcz_ (k:Nat):zc_ (z3_ ti [(182,qcs_)] (lk []) z4_ z5_) (qcx_ k) (rdC (z3_ ti [(182,qcs_)] (lk []) z4_ z5_) [.tmp 4] (.int .i64)) ((zb_ (z2_ Tryz.f145)).getD 0 .skip) (fun σ kx=>qcu_.get σ fun x=>qcw_ k k x kx):=by
 refine ⟨qcu_,[(0,qcv_)],fun n x kx=>qcw_ k n x kx,k,by kernel_rfl,by kernel_rfl,fun x kx=>by kernel_rfl,?_,fun σ kx=>rfl⟩
 rintro n ⟨⟨s0,f1,x7,x8,⟨⟩⟩,⟨⟩,⟨⟩⟩ kx
 kernel_rfl
theorem qd0_ (k:Nat):FnOK Tryz.prog 145 (qcy_ k):=by
 refine za_ (tab:=[(182,qcs_)]) (l:=[]) z7_ z9_ mix (List.forall_mem_cons.2 ⟨qct_,(List.forall_mem_nil _)⟩) (List.forall_mem_nil _) ⟨⟨Tryz.f145,(z2_ Tryz.f145),[.tmp 4],(qcx_ k),by kernel_rfl,by kernel_rfl,by kernel_rfl,by kernel_rfl,rfl,by decide,⟨by kernel_rfl,?_,?_⟩,?_⟩⟩
 ·refine zf_ (n:=1) (by kernel_rfl) fun i hi=>?_
  match i,hi with
  | 0,_=>exact zd_ (by kernel_rfl) (qcz_ k)
  | n+1,hi=>omega
 ·exact z8_ (by kernel_rfl)
 ·rintro ⟨s0,f1⟩
  kernel_rfl
def zh2_ (k:Nat) (s0:List Int) (f1:Unit):Option Bool:=(zko_ k s0 f1).bind fun r_1=>some (decide (0≤r_1))
def qd1_ (k:Nat):FE:=⟨(.pr (.sl 2 (.int .i64)) (.fn 182 .un)),1,.bool,fun x=>zh2_ k x.1 x.2⟩
theorem qd2_ (k:Nat):FnOK Tryz.prog 95 (qd1_ k):=by
 refine za_ (tab:=[(145,qcy_ k)]) (l:=[]) z7_ z9_ mix (List.forall_mem_cons.2 ⟨qd0_ k,(List.forall_mem_nil _)⟩) (List.forall_mem_nil _) ⟨⟨Tryz.f95,(z2_ Tryz.f95),[.tmp 4],(LOn Bool),by kernel_rfl,by kernel_rfl,by kernel_rfl,by kernel_rfl,rfl,by decide,⟨by kernel_rfl,?_,?_⟩,?_⟩⟩
 ·exact ze_ (by kernel_rfl)
 ·exact z8_ (by kernel_rfl)
 ·rintro ⟨s0,f1⟩
  kernel_rfl
def zh3_ (k:Nat) (s0:List Int):Option Bool:=(if (decide (1≤(List.length s0:Int)))=true then (if (decide ((List.length s0:Int)≤4))=true then (zh1_ k s0).bind fun r_1=>(if r_1=true then (zh2_ k s0 ()).bind fun r_2=>some (!r_2) else some false) else some false) else some false)
def qd3_ (k:Nat):FE:=⟨(.sl 2 (.int .i64)),1,.bool,fun x=>zh3_ k x⟩
theorem qd4_ (k:Nat):FnOK Tryz.prog 162 (qd3_ k):=by
 refine za_ (tab:=[(181,qcl_ k),(95,qd1_ k)]) (l:=[]) z7_ z9_ mix (List.forall_mem_cons.2 ⟨qcn_ k,(List.forall_mem_cons.2 ⟨qd2_ k,(List.forall_mem_nil _)⟩)⟩) (List.forall_mem_nil _) ⟨⟨Tryz.f162,(z2_ Tryz.f162),[.tmp 2],(LOn Bool),by kernel_rfl,by kernel_rfl,by kernel_rfl,by kernel_rfl,rfl,by decide,⟨by kernel_rfl,?_,?_⟩,?_⟩⟩
 ·exact ze_ (by kernel_rfl)
 ·exact z8_ (by kernel_rfl)
 ·rintro s0
  kernel_rfl
def zh4_ (x0:Int):Option Bool:=some (!(decide (x0=x0)))
def qd5_:FE:=⟨(.int .i64),1,.bool,fun x=>zh4_ x⟩
theorem qd6_:FnOK Tryz.prog 196 (qd5_):=by
 refine za_ (tab:=[]) (l:=[]) z7_ z9_ mix (List.forall_mem_nil _) (List.forall_mem_nil _) ⟨⟨Tryz.f196,(z2_ Tryz.f196),[.tmp 2],(LOn Bool),by kernel_rfl,by kernel_rfl,by kernel_rfl,by kernel_rfl,rfl,by decide,⟨by kernel_rfl,?_,?_⟩,?_⟩⟩
 ·exact ze_ (by kernel_rfl)
 ·exact z8_ (by kernel_rfl)
 ·rintro x0
  kernel_rfl
def zh5_ (x0:Int) (y1:Int):Option Int:=(zh4_ x0).bind fun r_1=>(zh4_ y1).bind fun r_2=>(if r_1=true then (if r_2=true then some 0 else some (-1)) else (if r_2=true then some 1 else (if (decide (x0<y1))=true then some (-1) else (if (decide (y1<x0))=true then some 1 else some 0))))
def qd7_:FE:=⟨(.pr (.int .i64) (.int .i64)),1,(.int .i64),fun x=>zh5_ x.1 x.2⟩
theorem qd8_:FnOK Tryz.prog 184 (qd7_):=by
 refine za_ (tab:=[(196,qd5_)]) (l:=[]) z7_ z9_ mix (List.forall_mem_cons.2 ⟨qd6_,(List.forall_mem_nil _)⟩) (List.forall_mem_nil _) ⟨⟨Tryz.f184,(z2_ Tryz.f184),[.tmp 4],(LOn Int),by kernel_rfl,by kernel_rfl,by kernel_rfl,by kernel_rfl,rfl,by decide,⟨by kernel_rfl,?_,?_⟩,?_⟩⟩
 ·exact ze_ (by kernel_rfl)
 ·exact z8_ (by kernel_rfl)
 ·rintro ⟨x0,y1⟩
  kernel_rfl
def zh6_ (x0:Int):Option Bool:=some (!(decide (x0=x0)))
def qd9_:FE:=⟨(.int .i64),1,.bool,fun x=>zh6_ x⟩
theorem qda_:FnOK Tryz.prog 171 (qd9_):=by
 refine za_ (tab:=[]) (l:=[]) z7_ z9_ mix (List.forall_mem_nil _) (List.forall_mem_nil _) ⟨⟨Tryz.f171,(z2_ Tryz.f171),[.tmp 2],(LOn Bool),by kernel_rfl,by kernel_rfl,by kernel_rfl,by kernel_rfl,rfl,by decide,⟨by kernel_rfl,?_,?_⟩,?_⟩⟩
 ·exact ze_ (by kernel_rfl)
 ·exact z8_ (by kernel_rfl)
 ·rintro x0
  kernel_rfl
def z6a_ (x0:Int) (y1:Int):Option Int:=(zh6_ x0).bind fun r_1=>(zh6_ y1).bind fun r_2=>(if r_1=true then (if r_2=true then some 0 else some (-1)) else (if r_2=true then some 1 else (if (decide (x0<y1))=true then some (-1) else (if (decide (y1<x0))=true then some 1 else some 0))))
def qdb_:FE:=⟨(.pr (.int .i64) (.int .i64)),1,(.int .i64),fun x=>z6a_ x.1 x.2⟩
theorem qdc_:FnOK Tryz.prog 132 (qdb_):=by
 refine za_ (tab:=[(171,qd9_)]) (l:=[]) z7_ z9_ mix (List.forall_mem_cons.2 ⟨qda_,(List.forall_mem_nil _)⟩) (List.forall_mem_nil _) ⟨⟨Tryz.f132,(z2_ Tryz.f132),[.tmp 4],(LOn Int),by kernel_rfl,by kernel_rfl,by kernel_rfl,by kernel_rfl,rfl,by decide,⟨by kernel_rfl,?_,?_⟩,?_⟩⟩
 ·exact ze_ (by kernel_rfl)
 ·exact z8_ (by kernel_rfl)
 ·rintro ⟨x0,y1⟩
  kernel_rfl
def zas_ (k:Nat):Nat→(List Int)→(List Int)→(List Int)→Int→Int→((List Int)→(List Int)→Option Int)→Option Int
 | 0,_,_,_,_,_,_=>none
 | n+1,s10,s21,x9,x10,x11,e_0=>(if (decide (x11<x10))=true then (if 0≤x11 then (x9[x11.toNat]?).bind fun y_1=>(if (decide ((List.length s21:Int)≤x11))=true then some 1 else (if 0≤x11 then (s21[x11.toNat]?).bind fun y_2=>(z6a_ y_1 y_2).bind fun r_3=>(if (!(decide (r_3=0)))=true then some r_3 else zas_ k n s10 s21 x9 x10 (z0_ (x11+1)) e_0) else none)) else none) else e_0 s10 s21)
def zh7_ (k:Nat) (s10:List Int) (s21:List Int):Option Int:=zas_ k k s10 s21 s10 (List.length s10:Int) 0 (fun s_4 s_5=>(if (decide ((List.length s_4:Int)<(List.length s_5:Int)))=true then some (-1) else some 0))
def qdd_:Head:=⟨[(0,(.val (.sl 2 (.int .i64)))),(1,(.val (.sl 2 (.int .i64)))),(9,(.val (.sl 2 (.int .i64)))),(10,(.val (.int .i64))),(11,(.val (.int .i64)))],[],[]⟩
def qde_:Head:=⟨[(0,(.val (.sl 2 (.int .i64)))),(1,(.val (.sl 2 (.int .i64))))],[],[]⟩
def qdf_ (k n:Nat) (x:qdd_.T) (kx:Nat→St→Option Int):Option Int:=zas_ k n x.1.1 x.1.2.1 x.1.2.2.1 x.1.2.2.2.1 x.1.2.2.2.2.1 (fun (s10:List Int) (s21:List Int)=>kx 0 (qde_.fill ((s10,s21,()),(),())))
def qdg_ (k:Nat):Oracles Int:=⟨fun n=>bif Nat.beq n 2 then some (fun σ kx=>qdd_.get σ fun x=>qdf_ k k x kx) else none,fun _=>none⟩
def qdh_ (k:Nat):FE:=⟨(.pr (.sl 2 (.int .i64)) (.sl 2 (.int .i64))),1,(.int .i64),fun x=>zh7_ k x.1 x.2⟩
theorem qdi_ (k:Nat):zc_ (z3_ ti [(132,qdb_)] (lk []) z4_ z5_) (qdg_ k) (rdC (z3_ ti [(132,qdb_)] (lk []) z4_ z5_) [.tmp 4] (.int .i64)) ((zb_ (z2_ Tryz.f185)).getD 0 .skip) (fun σ kx=>qdd_.get σ fun x=>qdf_ k k x kx):=by
 refine ⟨qdd_,[(0,qde_)],fun n x kx=>qdf_ k n x kx,k,by kernel_rfl,by kernel_rfl,fun x kx=>by kernel_rfl,?_,fun σ kx=>rfl⟩
 rintro n ⟨⟨s10,s21,x9,x10,x11,⟨⟩⟩,⟨⟩,⟨⟩⟩ kx
 kernel_rfl
theorem qdj_ (k:Nat):FnOK Tryz.prog 185 (qdh_ k):=by
 refine za_ (tab:=[(132,qdb_)]) (l:=[]) z7_ z9_ mix (List.forall_mem_cons.2 ⟨qdc_,(List.forall_mem_nil _)⟩) (List.forall_mem_nil _) ⟨⟨Tryz.f185,(z2_ Tryz.f185),[.tmp 4],(qdg_ k),by kernel_rfl,by kernel_rfl,by kernel_rfl,by kernel_rfl,rfl,by decide,⟨by kernel_rfl,?_,?_⟩,?_⟩⟩
 ·refine zf_ (n:=1) (by kernel_rfl) fun i hi=>?_
  match i,hi with
  | 0,_=>exact zd_ (by kernel_rfl) (qdi_ k)
  | n+1,hi=>omega
 ·exact z8_ (by kernel_rfl)
 ·rintro ⟨s10,s21⟩
  kernel_rfl
def z83_ (k:Nat):Nat→Int→(List Int)→Int→Int→(Int→Option Int)→Option Int
 | 0,_,_,_,_,_=>none
 | n+1,zero3,x6,x7,x8,e_0=>(if (decide (x8<x7))=true then (if 0≤x8 then (x6[x8.toNat]?).bind fun y_1=>(if (!(decide (y_1=zero3)))=true then some y_1 else z83_ k n zero3 x6 x7 (z0_ (x8+1)) e_0) else none) else e_0 zero3)
def zc8_ (k:Nat) (vals0:List Int):Option Int:=z83_ k k 0 vals0 (List.length vals0:Int) 0 (fun zero_2=>some zero_2)
def qdk_:Head:=⟨[(3,(.val (.int .i64))),(6,(.val (.sl 3 (.int .i64)))),(7,(.val (.int .i64))),(8,(.val (.int .i64)))],[],[]⟩
def qdl_:Head:=⟨[(3,(.val (.int .i64)))],[],[]⟩
def qdm_ (k n:Nat) (x:qdk_.T) (kx:Nat→St→Option Int):Option Int:=z83_ k n x.1.1 x.1.2.1 x.1.2.2.1 x.1.2.2.2.1 (fun (zero3:Int)=>kx 0 (qdl_.fill ((zero3,()),(),())))
def qdn_ (k:Nat):Oracles Int:=⟨fun n=>bif Nat.beq n 3 then some (fun σ kx=>qdk_.get σ fun x=>qdm_ k k x kx) else none,fun _=>none⟩
def qdo_ (k:Nat):FE:=⟨(.sl 3 (.int .i64)),1,(.int .i64),fun x=>zc8_ k x⟩
theorem qdp_ (k:Nat):zc_ (z3_ ti [] (lk []) z4_ z5_) (qdn_ k) (rdC (z3_ ti [] (lk []) z4_ z5_) [.tmp 2] (.int .i64)) ((zb_ (z2_ Tryz.f131)).getD 0 .skip) (fun σ kx=>qdk_.get σ fun x=>qdm_ k k x kx):=by
 refine ⟨qdk_,[(0,qdl_)],fun n x kx=>qdm_ k n x kx,k,by kernel_rfl,by kernel_rfl,fun x kx=>by kernel_rfl,?_,fun σ kx=>rfl⟩
 rintro n ⟨⟨zero3,x6,x7,x8,⟨⟩⟩,⟨⟩,⟨⟩⟩ kx
 kernel_rfl
theorem qdq_ (k:Nat):FnOK Tryz.prog 131 (qdo_ k):=by
 refine za_ (tab:=[]) (l:=[]) z7_ z9_ mix (List.forall_mem_nil _) (List.forall_mem_nil _) ⟨⟨Tryz.f131,(z2_ Tryz.f131),[.tmp 2],(qdn_ k),by kernel_rfl,by kernel_rfl,by kernel_rfl,by kernel_rfl,rfl,by decide,⟨by kernel_rfl,?_,?_⟩,?_⟩⟩
 ·refine zf_ (n:=1) (by kernel_rfl) fun i hi=>?_
  match i,hi with
  | 0,_=>exact zd_ (by kernel_rfl) (qdp_ k)
  | n+1,hi=>omega
 ·exact z8_ (by kernel_rfl)
 ·rintro vals0
  kernel_rfl
def z84_ (k:Nat) (a0:List Int) (b1:List Int):Option Int:=(zh5_ (List.length a0:Int) (List.length b1:Int)).bind fun r_1=>(zh7_ k a0 b1).bind fun r_2=>(zc8_ k [r_1,r_2]).bind fun r_3=>some r_3
def qdr_ (k:Nat):FE:=⟨(.pr (.sl 2 (.int .i64)) (.sl 2 (.int .i64))),1,(.int .i64),fun x=>z84_ k x.1 x.2⟩
theorem qds_ (k:Nat):FnOK Tryz.prog 163 (qdr_ k):=by
 refine za_ (tab:=[(184,qd7_),(185,qdh_ k),(131,qdo_ k)]) (l:=[]) z7_ z9_ mix (List.forall_mem_cons.2 ⟨qd8_,(List.forall_mem_cons.2 ⟨qdj_ k,(List.forall_mem_cons.2 ⟨qdq_ k,(List.forall_mem_nil _)⟩)⟩)⟩) (List.forall_mem_nil _) ⟨⟨Tryz.f163,(z2_ Tryz.f163),[.tmp 4],(LOn Int),by kernel_rfl,by kernel_rfl,by kernel_rfl,by kernel_rfl,rfl,by decide,⟨by kernel_rfl,?_,?_⟩,?_⟩⟩
 ·exact ze_ (by kernel_rfl)
 ·exact z8_ (by kernel_rfl)
 ·rintro ⟨a0,b1⟩
  kernel_rfl
def zp8_ (n1:Int) (q_1:List Int):Option ((Unit×Unit)×(List Int×Unit)×Unit):=if 0≤n1∧(List.length q_1+(n1).toNat)*8≤LIM then some (((),()),(q_1,()),()) else none
def qdt_:OC:=zek_ 2 (.int .i64) 8
theorem qdu_:z12_ Tryz.prog ti 197 qdt_ :=
 zv0_ (ρ:=(⟨fun n=>bif Nat.beq n 4 then 197 else n,fun n=>bif Nat.beq n 22 then 25 else bif Nat.beq n 25 then 2 else n,fun n=>n⟩:Go.Shelf.Ren)) z7_ (e:=2) (t:=(.int .i64)) (bytes:=8) { mixed:=mix,f4:=⟨Tryz.f197.name,by kernel_rfl,(Tryz.func197).trans (congrArg some (by kernel_rfl))⟩,t0:=Tryz.underlying0,a0:=Tryz.isAgg0,z0:=Tryz.sizeOf0,v0:=Tryz.zeroValue0,t3:=Tryz.underlying3,a3:=Tryz.isAgg3,z3:=Tryz.sizeOf3,v3:=Tryz.zeroValue3,t4:=Tryz.underlying4,a4:=Tryz.isAgg4,z4:=Tryz.sizeOf4,v4:=Tryz.zeroValue4,t9:=Tryz.underlying9,a9:=Tryz.isAgg9,z9:=Tryz.sizeOf9,v9:=Tryz.zeroValue9,t20:=Tryz.underlying20,a20:=Tryz.isAgg20,z20:=Tryz.sizeOf20,v20:=Tryz.zeroValue20,t22:=Tryz.underlying25,a22:=Tryz.isAgg25,z22:=Tryz.sizeOf25,v22:=Tryz.zeroValue25 } rfl (i:=(ti[2]?).getD ⟨.oth,.un,0⟩) (by kernel_rfl) (by kernel_rfl) (by kernel_rfl) (by kernel_rfl) (by kernel_rfl) (by kernel_rfl)
def zh8_ (k:Nat):Nat→zT4→Int→zT4→Int→Int→(zT4→Int→Option (List Int))→Option (List Int)
 | 0,_,_,_,_,_,_=>none
 | n+1,slices0,size3,x9,x10,x11,e_0=>(if (decide (x11<x10))=true then (if 0≤x11 then (x9[x11.toNat]?).bind fun y_1=>(if (decide ((z0_ (size3+(List.length y_1:Int)))<0))=true then none else zh8_ k n slices0 (z0_ (size3+(List.length y_1:Int))) x9 x10 (z0_ (x11+1)) e_0) else none) else e_0 slices0 size3)
def zh9_ (k:Nat):Nat→zT4→Int→Int→(List Int)→((List Int)→Option (List Int))→Option (List Int)
 | 0,_,_,_,_,_=>none
 | n+1,x25,x26,x27,q_5,e_2=>(if (decide (x27<x26))=true then (if 0≤x27 then (x25[x27.toNat]?).bind fun y_6=>(if (q_5.length+y_6.length)*8≤LIM then zh9_ k n x25 x26 (z0_ (x27+1)) (q_5++y_6) e_2 else none) else none) else e_2 q_5)
def zha_ (k:Nat) (slices0:List (List Int)):Option (List Int):=zh8_ k k slices0 0 slices0 (List.length slices0:Int) 0 (fun slices_2 size_3=>(zp8_ size_3 []).bind fun y_4=>zh9_ k k slices_2 (List.length slices_2:Int) 0 y_4.2.1.1 (fun q_7=>some q_7))
def qdv_:Head:=⟨[(0,(.val (.sl 25 (.sl 2 (.int .i64))))),(3,(.val (.int .i64))),(9,(.val (.sl 25 (.sl 2 (.int .i64))))),(10,(.val (.int .i64))),(11,(.val (.int .i64)))],[],[]⟩
def qdw_:Head:=⟨[(0,(.val (.sl 25 (.sl 2 (.int .i64))))),(3,(.val (.int .i64)))],[],[]⟩
def qdx_ (k n:Nat) (x:qdv_.T) (kx:Nat→St→Option (List Int)):Option (List Int):=zh8_ k n x.1.1 x.1.2.1 x.1.2.2.1 x.1.2.2.2.1 x.1.2.2.2.2.1 (fun (slices0:List (List Int)) (size3:Int)=>kx 0 (qdw_.fill ((slices0,size3,()),(),())))
def qdy_:Head:=⟨[(6,(.ref 64000000 [])),(25,(.val (.sl 25 (.sl 2 (.int .i64))))),(26,(.val (.int .i64))),(27,(.val (.int .i64)))],[(64000000,2,(.int .i64),false)],[]⟩
def qdz_:Head:=⟨[(6,(.ref 64000000 []))],[(64000000,2,(.int .i64),false)],[]⟩
def qe0_ (k n:Nat) (x:qdy_.T) (kx:Nat→St→Option (List Int)):Option (List Int):=zh9_ k n x.1.2.1 x.1.2.2.1 x.1.2.2.2.1 x.2.1.1 (fun (q_7:List Int)=>kx 2 (qdz_.fill (((),()),(q_7,()),())))
def qe1_ (k:Nat):Oracles (List Int):=⟨fun n=>bif Nat.beq n 3 then some (fun σ kx=>qdv_.get σ fun x=>qdx_ k k x kx) else bif Nat.beq n 11 then some (fun σ kx=>qdy_.get σ fun x=>qe0_ k k x kx) else none,fun _=>none⟩
def qe2_ (k:Nat):FE:=⟨(.sl 25 (.sl 2 (.int .i64))),1,(.sl 2 (.int .i64)),fun x=>zha_ k x⟩
theorem qe3_ (k:Nat):zc_ (z3_ ti [] (lk [(24,197,qdt_)]) z4_ z5_) (qe1_ k) (rdC (z3_ ti [] (lk [(24,197,qdt_)]) z4_ z5_) [.tmp 2] (.sl 2 (.int .i64))) ((zb_ (z2_ Tryz.f187)).getD 0 .skip) (fun σ kx=>qdv_.get σ fun x=>qdx_ k k x kx):=by
 refine ⟨qdv_,[(0,qdw_)],fun n x kx=>qdx_ k n x kx,k,by kernel_rfl,by kernel_rfl,fun x kx=>by kernel_rfl,?_,fun σ kx=>rfl⟩
 rintro n ⟨⟨slices0,size3,x9,x10,x11,⟨⟩⟩,⟨⟩,⟨⟩⟩ kx
 kernel_rfl
theorem qe4_ (k:Nat):zc_ (z3_ ti [] (lk [(24,197,qdt_)]) z4_ z5_) (qe1_ k) (rdC (z3_ ti [] (lk [(24,197,qdt_)]) z4_ z5_) [.tmp 2] (.sl 2 (.int .i64))) ((zb_ (z2_ Tryz.f187)).getD 1 .skip) (fun σ kx=>qdy_.get σ fun x=>qe0_ k k x kx):=by
 refine ⟨qdy_,[(2,qdz_)],fun n x kx=>qe0_ k n x kx,k,by kernel_rfl,by kernel_rfl,fun x kx=>by kernel_rfl,?_,fun σ kx=>rfl⟩
 rintro n ⟨⟨⟨⟩,x25,x26,x27,⟨⟩⟩,⟨q_5,⟨⟩⟩,⟨⟩⟩ kx
 kernel_rfl
theorem qe5_ (k:Nat):FnOK Tryz.prog 187 (qe2_ k):=by
 refine za_ (tab:=[]) (l:=[(24,197,qdt_)]) z7_ z9_ mix (List.forall_mem_nil _) (List.forall_mem_cons.2 ⟨qdu_,(List.forall_mem_nil _)⟩) ⟨⟨Tryz.f187,(z2_ Tryz.f187),[.tmp 2],(qe1_ k),by kernel_rfl,by kernel_rfl,by kernel_rfl,by kernel_rfl,rfl,by decide,⟨by kernel_rfl,?_,?_⟩,?_⟩⟩
 ·refine zf_ (n:=2) (by kernel_rfl) fun i hi=>?_
  match i,hi with
  | 0,_=>exact zd_ (by kernel_rfl) (qe3_ k)
  | 1,_=>exact zd_ (by kernel_rfl) (qe4_ k)
  | n+2,hi=>omega
 ·exact z8_ (by kernel_rfl)
 ·rintro slices0
  kernel_rfl
end
end Go.Proofs.YtioaaljaohhjiaaGreatDoor.Ev
