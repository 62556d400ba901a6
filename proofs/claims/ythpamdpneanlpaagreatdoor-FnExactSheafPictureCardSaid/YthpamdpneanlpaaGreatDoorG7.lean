/- Functions of the program, as plain ones. No conditions. -/
import Derived.Test.YthpamdpneanlpaaGreatDoorG6
import Derived.KernelRfl
set_option linter.unusedVariables false
set_option maxRecDepth 100000
namespace Go.Proofs.YthpamdpneanlpaaGreatDoor.Ev
open Go.RowKit
noncomputable section
def z8h_ (k:Nat):Nat→Int→zT1→Int→Int→(List Int)→((List Int)→Option (List Int))→Option (List Int)
 | 0,_,_,_,_,_,_=>none
 | n+1,dimension1,x9,x10,x11,q_1,e_0=>(if (decide (x11<x10))=true then (if 0≤x11 then (x9[x11.toNat]?).bind fun y_2=>(z6u_ y_2).bind fun r_3=>(if (decide (r_3=(z0_ (dimension1+1))))=true then (if (q_1.length+[x11].length)*8≤LIM then z8h_ k n dimension1 x9 x10 (z0_ (x11+1)) (q_1++[x11]) e_0 else none) else z8h_ k n dimension1 x9 x10 (z0_ (x11+1)) q_1 e_0) else none) else e_0 q_1)
def zil_ (k:Nat) (c0:List (List Int)) (dimension1:Int):Option (List Int):=z8h_ k k dimension1 c0 (List.length c0:Int) 0 [] (fun q_4=>some q_4)
def zim_:Head:=⟨[(1,(.val (.int .i64))),(5,(.ref 64000000 [])),(9,(.val (.sl 25 (.sl 2 (.int .i64))))),(10,(.val (.int .i64))),(11,(.val (.int .i64)))],[(64000000,2,(.int .i64),false)],[]⟩
def zxg_:Head:=⟨[(5,(.ref 64000000 []))],[(64000000,2,(.int .i64),false)],[]⟩
def zof_ (k:Nat) (n:Nat) (x:zim_.T) (kx:Nat→St→Option (List Int)):Option (List Int):=z8h_ k n x.1.1 x.1.2.2.1 x.1.2.2.2.1 x.1.2.2.2.2.1 x.2.1.1 (fun (q_4:List Int)=>kx 0 (zxg_.fill (((),()),(q_4,()),())))
def zxh_ (k:Nat):Oracles (List Int):=⟨fun n=>bif Nat.beq n 3 then some (fun σ kx=>zim_.get σ fun x=>zof_ k k x kx) else none,fun _=>none⟩
def zin_ (k:Nat):FE:=⟨(.pr (.st (.sl 25 (.sl 2 (.int .i64)))) (.int .i64)),1,(.sl 2 (.int .i64)),fun x=>zil_ k x.1 x.2⟩
theorem z19j_ (k:Nat):zd_ (z4_ ti [(64,z5j_)] (lk []) z5_ z6_) (zxh_ k) (rdC (z4_ ti [(64,z5j_)] (lk []) z5_ z6_) [.tmp 4] (.sl 2 (.int .i64))) ((zb_ (z2_ Tryz.f116)).getD 0 .skip) (fun σ kx=>zim_.get σ fun x=>zof_ k k x kx):=by
 refine ⟨zim_,[(0,zxg_)],fun n x kx=>zof_ k n x kx,k,by kernel_rfl,by kernel_rfl,fun x kx=>by kernel_rfl,?_,fun σ kx=>rfl⟩
 rintro n ⟨⟨dimension1,⟨⟩,x9,x10,x11,⟨⟩⟩,⟨q_1,⟨⟩⟩,⟨⟩⟩ kx
 kernel_rfl
theorem z19k_ (k:Nat):FnOK Tryz.prog 116 (zin_ k):=by
 refine za_ (tab:=[(64,z5j_)]) (l:=[]) z8_ z9_ mix (List.forall_mem_cons.2 ⟨zik_,(List.forall_mem_nil _)⟩) (List.forall_mem_nil _) ⟨⟨Tryz.f116,(z2_ Tryz.f116),[.tmp 4],(zxh_ k),by kernel_rfl,by kernel_rfl,by kernel_rfl,by kernel_rfl,rfl,by decide,⟨by kernel_rfl,?_,?_⟩,?_⟩⟩
 ·refine zi_ (n:=1) (by kernel_rfl) fun i hi=>?_
  match i,hi with
  | 0,_=>exact ze_ (by kernel_rfl) (z19j_ k)
  | n+1,hi=>omega
 ·exact z7_ (by kernel_rfl)
 ·rintro ⟨c0,dimension1⟩
  kernel_rfl
def zaz_ (k:Nat):Nat→Int→Int→Int→(List Int)→zT0→(Int→Option Int)→Option Int
 | 0,_,_,_,_,_,_=>none
 | n+1,sum5,x12,x13,q_2,v_2,e_0=>(if (decide (x13<x12))=true then (if 0≤x13∧x13.toNat<List.length q_2 then (q_2[x13.toNat]?).bind fun y_3=>(if 0≤y_3 then (v_2.2.2.1[y_3.toNat]?).bind fun y_4=>zaz_ k n (z0_ (sum5+y_4)) x12 (z0_ (x13+1)) q_2 v_2 e_0 else none) else none) else e_0 sum5)
def zio_ (k:Nat) (s0:List (List Int)×Int×List Int×List (Int×Int×Int×List Int)) (k1:Int):Option Int:=(zil_ k s0.1 k1).bind fun r_1=>zaz_ k k 0 (List.length r_1:Int) 0 r_1 s0 (fun sum_5=>some sum_5)
def zip_:Head:=⟨[(2,(.bp 2 [] 0)),(5,(.val (.int .i64))),(11,(.ref 64000000 [])),(12,(.val (.int .i64))),(13,(.val (.int .i64)))],[(64000000,2,(.int .i64),false)],[(2,36,(.val (.st (.pr (.st (.sl 25 (.sl 2 (.int .i64)))) (.pr (.int .i64) (.pr (.sl 2 (.int .i64)) (.sl 63 (.st (.pr (.int .i64) (.pr (.int .i64) (.pr (.int .i64) (.sl 2 (.int .i64)))))))))))))]⟩
def zxi_:Head:=⟨[(5,(.val (.int .i64)))],[],[]⟩
def zog_ (k:Nat) (n:Nat) (x:zip_.T) (kx:Nat→St→Option Int):Option Int:=zaz_ k n x.1.2.1 x.1.2.2.2.1 x.1.2.2.2.2.1 x.2.1.1 x.2.2.1 (fun (sum5:Int)=>kx 0 (zxi_.fill ((sum5,()),(),())))
def zxj_ (k:Nat):Oracles Int:=⟨fun n=>bif Nat.beq n 3 then some (fun σ kx=>zip_.get σ fun x=>zog_ k k x kx) else none,fun _=>none⟩
def ziq_ (k:Nat):FE:=⟨(.pr (.st (.pr (.st (.sl 25 (.sl 2 (.int .i64)))) (.pr (.int .i64) (.pr (.sl 2 (.int .i64)) (.sl 63 (.st (.pr (.int .i64) (.pr (.int .i64) (.pr (.int .i64) (.sl 2 (.int .i64))))))))))) (.int .i64)),1,(.int .i64),fun x=>zio_ k x.1 x.2⟩
theorem z19l_ (k:Nat):zd_ (z4_ ti [(116,zin_ k)] (lk []) z5_ z6_) (zxj_ k) (rdC (z4_ ti [(116,zin_ k)] (lk []) z5_ z6_) [.tmp 4] (.int .i64)) ((zb_ (z2_ Tryz.f87)).getD 0 .skip) (fun σ kx=>zip_.get σ fun x=>zog_ k k x kx):=by
 refine ⟨zip_,[(0,zxi_)],fun n x kx=>zog_ k n x kx,k,by kernel_rfl,by kernel_rfl,fun x kx=>by kernel_rfl,?_,fun σ kx=>rfl⟩
 rintro n ⟨⟨⟨⟩,sum5,⟨⟩,x12,x13,⟨⟩⟩,⟨q_2,⟨⟩⟩,⟨v_2,⟨⟩⟩⟩ kx
 kernel_rfl
theorem z19m_ (k:Nat):FnOK Tryz.prog 87 (ziq_ k):=by
 refine za_ (tab:=[(116,zin_ k)]) (l:=[]) z8_ z9_ mix (List.forall_mem_cons.2 ⟨z19k_ k,(List.forall_mem_nil _)⟩) (List.forall_mem_nil _) ⟨⟨Tryz.f87,(z2_ Tryz.f87),[.tmp 4],(zxj_ k),by kernel_rfl,by kernel_rfl,by kernel_rfl,by kernel_rfl,rfl,by decide,⟨by kernel_rfl,?_,?_⟩,?_⟩⟩
 ·refine zi_ (n:=1) (by kernel_rfl) fun i hi=>?_
  match i,hi with
  | 0,_=>exact ze_ (by kernel_rfl) (z19l_ k)
  | n+1,hi=>omega
 ·exact z7_ (by kernel_rfl)
 ·rintro ⟨s0,k1⟩
  kernel_rfl
def zb0_ (k:Nat):Nat→(List Int)→Int→zT1→(Option Bool)→Option Bool
 | 0,_,_,_,_=>none
 | n+1,stalks1,x16,v_2,e_0=>(if (decide (x16<4))=true then (zio_ k (v_2,(0,(stalks1,[]))) x16).bind fun r_2=>(if (decide (32<r_2))=true then some false else zb0_ k n stalks1 (z0_ (x16+1)) v_2 e_0) else e_0)
def zir_ (k:Nat) (c0:List (List Int)) (stalks1:List Int):Option Bool:=(if (!(decide ((List.length stalks1:Int)=(List.length c0:Int))))=true then some false else (zii_ k stalks1 ()).bind fun r_1=>(if r_1=true then some false else zb0_ k k stalks1 0 c0 (some true)))
def zis_:Head:=⟨[(1,(.val (.sl 2 (.int .i64)))),(2,(.bp 2 [] 0)),(16,(.val (.int .i64)))],[],[(2,33,(.val (.st (.sl 25 (.sl 2 (.int .i64))))))]⟩
def zxk_:Head:=⟨[],[],[]⟩
def zoh_ (k:Nat) (n:Nat) (x:zis_.T) (kx:Nat→St→Option Bool):Option Bool:=zb0_ k n x.1.1 x.1.2.2.1 x.2.2.1 (kx 0 (zxk_.fill ((),(),())))
def zxl_ (k:Nat):Oracles Bool:=⟨fun n=>bif Nat.beq n 4 then some (fun σ kx=>zis_.get σ fun x=>zoh_ k k x kx) else none,fun _=>none⟩
def zit_ (k:Nat):FE:=⟨(.pr (.st (.sl 25 (.sl 2 (.int .i64)))) (.sl 2 (.int .i64))),1,.bool,fun x=>zir_ k x.1 x.2⟩
theorem z19n_ (k:Nat):zd_ (z4_ ti [(85,zij_ k),(87,ziq_ k)] (lk []) z5_ z6_) (zxl_ k) (rdC (z4_ ti [(85,zij_ k),(87,ziq_ k)] (lk []) z5_ z6_) [.tmp 4] .bool) ((zb_ (z2_ Tryz.f56)).getD 0 .skip) (fun σ kx=>zis_.get σ fun x=>zoh_ k k x kx):=by
 refine ⟨zis_,[(0,zxk_)],fun n x kx=>zoh_ k n x kx,k,by kernel_rfl,by kernel_rfl,fun x kx=>by kernel_rfl,?_,fun σ kx=>rfl⟩
 rintro n ⟨⟨stalks1,⟨⟩,x16,⟨⟩⟩,⟨⟩,⟨v_2,⟨⟩⟩⟩ kx
 kernel_rfl
theorem z19o_ (k:Nat):FnOK Tryz.prog 56 (zit_ k):=by
 refine za_ (tab:=[(85,zij_ k),(87,ziq_ k)]) (l:=[]) z8_ z9_ mix (List.forall_mem_cons.2 ⟨z19i_ k,(List.forall_mem_cons.2 ⟨z19m_ k,(List.forall_mem_nil _)⟩)⟩) (List.forall_mem_nil _) ⟨⟨Tryz.f56,(z2_ Tryz.f56),[.tmp 4],(zxl_ k),by kernel_rfl,by kernel_rfl,by kernel_rfl,by kernel_rfl,rfl,by decide,⟨by kernel_rfl,?_,?_⟩,?_⟩⟩
 ·refine zi_ (n:=1) (by kernel_rfl) fun i hi=>?_
  match i,hi with
  | 0,_=>exact ze_ (by kernel_rfl) (z19n_ k)
  | n+1,hi=>omega
 ·exact z7_ (by kernel_rfl)
 ·rintro ⟨c0,stalks1⟩
  kernel_rfl
def zoi_ (list0:List (List Int)):Option Int:=some (List.length list0:Int)
def zb1_:FE:=⟨(.sl 25 (.sl 2 (.int .i64))),1,(.int .i64),fun x=>zoi_ x⟩
theorem z19p_:FnOK Tryz.prog 88 (zb1_):=by
 refine za_ (tab:=[]) (l:=[]) z8_ z9_ mix (List.forall_mem_nil _) (List.forall_mem_nil _) ⟨⟨Tryz.f88,(z2_ Tryz.f88),[.tmp 2],(LOn Int),by kernel_rfl,by kernel_rfl,by kernel_rfl,by kernel_rfl,rfl,by decide,⟨by kernel_rfl,?_,?_⟩,?_⟩⟩
 ·exact zl_ (by kernel_rfl)
 ·exact z7_ (by kernel_rfl)
 ·rintro list0
  kernel_rfl
def zb2_ (k:Nat):Nat→Int→Int→(List Int)→zT1→zT1→((List Int)→Option (List Int))→Option (List Int)
 | 0,_,_,_,_,_,_=>none
 | n+1,x14,x15,q_3,q_4,v_2,e_0=>(if (decide (x15<x14))=true then (if 0≤x15∧x15.toNat<List.length q_4 then (q_4[x15.toNat]?).bind fun y_5=>(q_4[x15.toNat]?).bind fun y_6=>(zd6_ k v_2 y_6).bind fun r_7=>(if (q_3.length+[r_7].length)*8≤LIM then zb2_ k n x14 (z0_ (x15+1)) (q_3++[r_7]) q_4 v_2 e_0 else none) else none) else e_0 q_3)
def zda_ (k:Nat) (c0:List (List Int)) (k1:Int):Option (List Int):=(if 0≤k1 then (c0[k1.toNat]?).bind fun y_1=>(zav_ k y_1).bind fun r_2=>zb2_ k k (List.length r_2:Int) 0 [] r_2 c0 (fun q_8=>some q_8) else none)
def ziu_:Head:=⟨[(2,(.bp 2 [] 0)),(5,(.ref 64000000 [])),(13,(.ref 64000001 [])),(14,(.val (.int .i64))),(15,(.val (.int .i64)))],[(64000000,2,(.int .i64),false),(64000001,25,(.sl 2 (.int .i64)),false)],[(2,33,(.val (.st (.sl 25 (.sl 2 (.int .i64))))))]⟩
def zxm_:Head:=⟨[(5,(.ref 64000000 []))],[(64000000,2,(.int .i64),false)],[]⟩
def zoj_ (k:Nat) (n:Nat) (x:ziu_.T) (kx:Nat→St→Option (List Int)):Option (List Int):=zb2_ k n x.1.2.2.2.1 x.1.2.2.2.2.1 x.2.1.1 x.2.1.2.1 x.2.2.1 (fun (q_9:List Int)=>kx 0 (zxm_.fill (((),()),(q_9,()),())))
def zxn_ (k:Nat):Oracles (List Int):=⟨fun n=>bif Nat.beq n 3 then some (fun σ kx=>ziu_.get σ fun x=>zoj_ k k x kx) else none,fun _=>none⟩
def z3n_ (k:Nat):FE:=⟨(.pr (.st (.sl 25 (.sl 2 (.int .i64)))) (.int .i64)),1,(.sl 2 (.int .i64)),fun x=>zda_ k x.1 x.2⟩
theorem z19q_ (k:Nat):zd_ (z4_ ti [(60,z8f_ k),(61,zd7_ k)] (lk []) z5_ z6_) (zxn_ k) (rdC (z4_ ti [(60,z8f_ k),(61,zd7_ k)] (lk []) z5_ z6_) [.tmp 4] (.sl 2 (.int .i64))) ((zb_ (z2_ Tryz.f28)).getD 0 .skip) (fun σ kx=>ziu_.get σ fun x=>zoj_ k k x kx):=by
 refine ⟨ziu_,[(0,zxm_)],fun n x kx=>zoj_ k n x kx,k,by kernel_rfl,by kernel_rfl,fun x kx=>by kernel_rfl,?_,fun σ kx=>rfl⟩
 rintro n ⟨⟨⟨⟩,⟨⟩,⟨⟩,x14,x15,⟨⟩⟩,⟨q_3,q_4,⟨⟩⟩,⟨v_2,⟨⟩⟩⟩ kx
 kernel_rfl
theorem zxo_ (k:Nat):FnOK Tryz.prog 28 (z3n_ k):=by
 refine za_ (tab:=[(60,z8f_ k),(61,zd7_ k)]) (l:=[]) z8_ z9_ mix (List.forall_mem_cons.2 ⟨zx0_ k,(List.forall_mem_cons.2 ⟨zx4_ k,(List.forall_mem_nil _)⟩)⟩) (List.forall_mem_nil _) ⟨⟨Tryz.f28,(z2_ Tryz.f28),[.tmp 4],(zxn_ k),by kernel_rfl,by kernel_rfl,by kernel_rfl,by kernel_rfl,rfl,by decide,⟨by kernel_rfl,?_,?_⟩,?_⟩⟩
 ·refine zi_ (n:=1) (by kernel_rfl) fun i hi=>?_
  match i,hi with
  | 0,_=>exact ze_ (by kernel_rfl) (z19q_ k)
  | n+1,hi=>omega
 ·exact z7_ (by kernel_rfl)
 ·rintro ⟨c0,k1⟩
  kernel_rfl
def z6v_ (k:Nat):Nat→Int→Int→Int→Int→Int→(List (Int×Int×Int))→(List Int)→zT1→(Int→Int→(List (Int×Int×Int))→zT1→Option (List (Int×Int×Int)))→Option (List (Int×Int×Int))
 | 0,_,_,_,_,_,_,_,_,_=>none
 | n+1,k4,x9,x10,x16,x17,q_4,q_5,v_1,e_2=>(if (decide (x17<x16))=true then (if 0≤x17∧x17.toNat<List.length q_5 then (q_5[x17.toNat]?).bind fun y_6=>(if (q_4.length+[(k4,(x17,y_6))].length)*24≤LIM then z6v_ k n k4 x9 x10 x16 (z0_ (x17+1)) (q_4++[(k4,(x17,y_6))]) q_5 v_1 e_2 else none) else none) else e_2 x9 x10 q_4 v_1)
def zb3_ (k:Nat):Nat→Int→Int→(List (Int×Int×Int))→zT1→((List (Int×Int×Int))→Option (List (Int×Int×Int)))→Option (List (Int×Int×Int))
 | 0,_,_,_,_,_=>none
 | n+1,x9,x10,q_2,v_1,e_0=>(if (decide (x10<x9))=true then (zda_ k v_1 x10).bind fun r_3=>z6v_ k k x10 x9 x10 (List.length r_3:Int) 0 q_2 r_3 v_1 (fun x_4 x_5 q_6 v_7=>zb3_ k n x_4 (z0_ (x_5+1)) q_6 v_7 e_0) else e_0 q_2)
def ziv_ (k:Nat) (c0:List (List Int)):Option (List (Int×Int×Int)):=(zoi_ c0).bind fun r_1=>zb3_ k k r_1 0 [] c0 (fun q_8=>some q_8)
def ziw_:Head:=⟨[(1,(.bp 1 [] 0)),(3,(.ref 64000000 [])),(4,(.val (.int .i64))),(9,(.val (.int .i64))),(10,(.val (.int .i64))),(15,(.ref 64000001 [])),(16,(.val (.int .i64))),(17,(.val (.int .i64)))],[(64000000,94,(.st (.pr (.int .i64) (.pr (.int .i64) (.int .i64)))),false),(64000001,2,(.int .i64),false)],[(1,33,(.val (.st (.sl 25 (.sl 2 (.int .i64))))))]⟩
def zxp_:Head:=⟨[(1,(.bp 1 [] 0)),(3,(.ref 64000000 [])),(9,(.val (.int .i64))),(10,(.val (.int .i64)))],[(64000000,94,(.st (.pr (.int .i64) (.pr (.int .i64) (.int .i64)))),false)],[(1,33,(.val (.st (.sl 25 (.sl 2 (.int .i64))))))]⟩
def zok_ (k:Nat) (n:Nat) (x:ziw_.T) (kx:Nat→St→Option (List (Int×Int×Int))):Option (List (Int×Int×Int)):=z6v_ k n x.1.2.2.1 x.1.2.2.2.1 x.1.2.2.2.2.1 x.1.2.2.2.2.2.2.1 x.1.2.2.2.2.2.2.2.1 x.2.1.1 x.2.1.2.1 x.2.2.1 (fun (x9:Int) (x10:Int) (q_7:List (Int×Int×Int)) (v_1:List (List Int))=>kx 2 (zxp_.fill (((),(),x9,x10,()),(q_7,()),(v_1,()))))
def zix_:Head:=⟨[(1,(.bp 1 [] 0)),(3,(.ref 64000000 [])),(9,(.val (.int .i64))),(10,(.val (.int .i64)))],[(64000000,94,(.st (.pr (.int .i64) (.pr (.int .i64) (.int .i64)))),false)],[(1,33,(.val (.st (.sl 25 (.sl 2 (.int .i64))))))]⟩
def zxq_:Head:=⟨[(3,(.ref 64000000 []))],[(64000000,94,(.st (.pr (.int .i64) (.pr (.int .i64) (.int .i64)))),false)],[]⟩
def zol_ (k:Nat) (n:Nat) (x:zix_.T) (kx:Nat→St→Option (List (Int×Int×Int))):Option (List (Int×Int×Int)):=zb3_ k n x.1.2.2.1 x.1.2.2.2.1 x.2.1.1 x.2.2.1 (fun (q_11:List (Int×Int×Int))=>kx 0 (zxq_.fill (((),()),(q_11,()),())))
def zom_ (k:Nat):Oracles (List (Int×Int×Int)):=⟨fun n=>bif Nat.beq n 6 then some (fun σ kx=>ziw_.get σ fun x=>zok_ k k x kx) else bif Nat.beq n 3 then some (fun σ kx=>zix_.get σ fun x=>zol_ k k x kx) else none,fun _=>none⟩
def ziy_ (k:Nat):FE:=⟨(.st (.sl 25 (.sl 2 (.int .i64)))),1,(.sl 94 (.st (.pr (.int .i64) (.pr (.int .i64) (.int .i64))))),fun x=>ziv_ k x⟩
theorem z19r_ (k:Nat):zd_ (z4_ ti [(88,zb1_),(28,z3n_ k)] (lk []) z5_ z6_) (zom_ k) (rdC (z4_ ti [(88,zb1_),(28,z3n_ k)] (lk []) z5_ z6_) [.tmp 2] (.sl 94 (.st (.pr (.int .i64) (.pr (.int .i64) (.int .i64)))))) ((zb_ (z2_ Tryz.f57)).getD 1 .skip) (fun σ kx=>ziw_.get σ fun x=>zok_ k k x kx):=by
 refine ⟨ziw_,[(2,zxp_)],fun n x kx=>zok_ k n x kx,k,by kernel_rfl,by kernel_rfl,fun x kx=>by kernel_rfl,?_,fun σ kx=>rfl⟩
 rintro n ⟨⟨⟨⟩,⟨⟩,k4,x9,x10,⟨⟩,x16,x17,⟨⟩⟩,⟨q_4,q_5,⟨⟩⟩,⟨v_1,⟨⟩⟩⟩ kx
 refine id (α:=z6v_ k (n+1) k4 x9 x10 x16 x17 q_4 q_5 v_1 _=_) ?_
 kernel_rfl
theorem z19s_ (k:Nat):zd_ (z4_ ti [(88,zb1_),(28,z3n_ k)] (lk []) z5_ z6_) (zom_ k) (rdC (z4_ ti [(88,zb1_),(28,z3n_ k)] (lk []) z5_ z6_) [.tmp 2] (.sl 94 (.st (.pr (.int .i64) (.pr (.int .i64) (.int .i64)))))) ((zb_ (z2_ Tryz.f57)).getD 0 .skip) (fun σ kx=>zix_.get σ fun x=>zol_ k k x kx):=by
 refine ⟨zix_,[(0,zxq_)],fun n x kx=>zol_ k n x kx,k,by kernel_rfl,by kernel_rfl,fun x kx=>by kernel_rfl,?_,fun σ kx=>rfl⟩
 rintro n ⟨⟨⟨⟩,⟨⟩,x9,x10,⟨⟩⟩,⟨q_2,⟨⟩⟩,⟨v_1,⟨⟩⟩⟩ kx
 kernel_rfl
theorem z19t_ (k:Nat):FnOK Tryz.prog 57 (ziy_ k):=by
 refine za_ (tab:=[(88,zb1_),(28,z3n_ k)]) (l:=[]) z8_ z9_ mix (List.forall_mem_cons.2 ⟨z19p_,(List.forall_mem_cons.2 ⟨zxo_ k,(List.forall_mem_nil _)⟩)⟩) (List.forall_mem_nil _) ⟨⟨Tryz.f57,(z2_ Tryz.f57),[.tmp 2],(zom_ k),by kernel_rfl,by kernel_rfl,by kernel_rfl,by kernel_rfl,rfl,by decide,⟨by kernel_rfl,?_,?_⟩,?_⟩⟩
 ·refine zi_ (n:=2) (by kernel_rfl) fun i hi=>?_
  match i,hi with
  | 0,_=>exact ze_ (by kernel_rfl) (z19s_ k)
  | 1,_=>exact ze_ (by kernel_rfl) (z19r_ k)
  | n+2,hi=>omega
 ·exact z7_ (by kernel_rfl)
 ·rintro c0
  kernel_rfl
def ziz_ (n0:Int):Option Bool:=(z6r_ n0 0 32).bind fun r_1=>some r_1
def zxr_:FE:=⟨(.int .i64),1,.bool,fun x=>ziz_ x⟩
theorem z19u_:FnOK Tryz.prog 117 (zxr_):=by
 refine za_ (tab:=[(84,z6s_)]) (l:=[]) z8_ z9_ mix (List.forall_mem_cons.2 ⟨zd5_,(List.forall_mem_nil _)⟩) (List.forall_mem_nil _) ⟨⟨Tryz.f117,(z2_ Tryz.f117),[.tmp 2],(LOn Bool),by kernel_rfl,by kernel_rfl,by kernel_rfl,by kernel_rfl,rfl,by decide,⟨by kernel_rfl,?_,?_⟩,?_⟩⟩
 ·exact zl_ (by kernel_rfl)
 ·exact z7_ (by kernel_rfl)
 ·rintro n0
  kernel_rfl
def zon_ (a0:Int) (p1:Int):Option Bool:=(z6r_ a0 0 (z0_ (p1-1))).bind fun r_1=>some r_1
def zxs_:FE:=⟨(.pr (.int .i64) (.int .i64)),1,.bool,fun x=>zon_ x.1 x.2⟩
theorem z19v_:FnOK Tryz.prog 133 (zxs_):=by
 refine za_ (tab:=[(84,z6s_)]) (l:=[]) z8_ z9_ mix (List.forall_mem_cons.2 ⟨zd5_,(List.forall_mem_nil _)⟩) (List.forall_mem_nil _) ⟨⟨Tryz.f133,(z2_ Tryz.f133),[.tmp 4],(LOn Bool),by kernel_rfl,by kernel_rfl,by kernel_rfl,by kernel_rfl,rfl,by decide,⟨by kernel_rfl,?_,?_⟩,?_⟩⟩
 ·exact zl_ (by kernel_rfl)
 ·exact z7_ (by kernel_rfl)
 ·rintro ⟨a0,p1⟩
  kernel_rfl
def zoo_ (a0:Int) (x1:Int):Option Bool:=(zon_ a0 x1).bind fun r_1=>some (!r_1)
def zj0_:FE:=⟨(.pr (.int .i64) (.ptr (.int .i64))),1,.bool,fun x=>zoo_ x.1 x.2⟩
theorem z19w_:FnOK Tryz.prog 132 (zj0_):=by
 refine za_ (tab:=[(133,zxs_)]) (l:=[]) z8_ z9_ mix (List.forall_mem_cons.2 ⟨z19v_,(List.forall_mem_nil _)⟩) (List.forall_mem_nil _) ⟨⟨Tryz.f132,(z2_ Tryz.f132),[.tmp 3],(LOn Bool),by kernel_rfl,by kernel_rfl,by kernel_rfl,by kernel_rfl,rfl,by decide,⟨by kernel_rfl,?_,?_⟩,?_⟩⟩
 ·exact zl_ (by kernel_rfl)
 ·exact z7_ (by kernel_rfl)
 ·rintro ⟨a0,x1⟩
  kernel_rfl
def zb4_ (k:Nat):Nat→(List Int)→Int→Int→Int→(Option Int)→Option Int
 | 0,_,_,_,_,_=>none
 | n+1,s0,f1,x7,x8,e_0=>(if (decide (x8<x7))=true then (if 0≤x8 then (s0[x8.toNat]?).bind fun y_1=>(zoo_ y_1 f1).bind fun r_2=>(if r_2=true then some x8 else zb4_ k n s0 f1 x7 (z0_ (x8+1)) e_0) else none) else e_0)
def zop_ (k:Nat) (s0:List Int) (f1:Int):Option Int:=zb4_ k k s0 f1 (List.length s0:Int) 0 (some (-1))
def zj1_:Head:=⟨[(0,(.val (.sl 2 (.int .i64)))),(1,(.val (.fn 132 (.ptr (.int .i64))))),(7,(.val (.int .i64))),(8,(.val (.int .i64)))],[],[]⟩
def zxt_:Head:=⟨[],[],[]⟩
def zoq_ (k:Nat) (n:Nat) (x:zj1_.T) (kx:Nat→St→Option Int):Option Int:=zb4_ k n x.1.1 x.1.2.1 x.1.2.2.1 x.1.2.2.2.1 (kx 0 (zxt_.fill ((),(),())))
def zxu_ (k:Nat):Oracles Int:=⟨fun n=>bif Nat.beq n 2 then some (fun σ kx=>zj1_.get σ fun x=>zoq_ k k x kx) else none,fun _=>none⟩
def zxv_ (k:Nat):FE:=⟨(.pr (.sl 2 (.int .i64)) (.fn 132 (.ptr (.int .i64)))),1,(.int .i64),fun x=>zop_ k x.1 x.2⟩
theorem z19x_ (k:Nat):zd_ (z4_ ti [(132,zj0_)] (lk []) z5_ z6_) (zxu_ k) (rdC (z4_ ti [(132,zj0_)] (lk []) z5_ z6_) [.tmp 4] (.int .i64)) ((zb_ (z2_ Tryz.f115)).getD 0 .skip) (fun σ kx=>zj1_.get σ fun x=>zoq_ k k x kx):=by
 refine ⟨zj1_,[(0,zxt_)],fun n x kx=>zoq_ k n x kx,k,by kernel_rfl,by kernel_rfl,fun x kx=>by kernel_rfl,?_,fun σ kx=>rfl⟩
 rintro n ⟨⟨s0,f1,x7,x8,⟨⟩⟩,⟨⟩,⟨⟩⟩ kx
 kernel_rfl
theorem z19y_ (k:Nat):FnOK Tryz.prog 115 (zxv_ k):=by
 refine za_ (tab:=[(132,zj0_)]) (l:=[]) z8_ z9_ mix (List.forall_mem_cons.2 ⟨z19w_,(List.forall_mem_nil _)⟩) (List.forall_mem_nil _) ⟨⟨Tryz.f115,(z2_ Tryz.f115),[.tmp 4],(zxu_ k),by kernel_rfl,by kernel_rfl,by kernel_rfl,by kernel_rfl,rfl,by decide,⟨by kernel_rfl,?_,?_⟩,?_⟩⟩
 ·refine zi_ (n:=1) (by kernel_rfl) fun i hi=>?_
  match i,hi with
  | 0,_=>exact ze_ (by kernel_rfl) (z19x_ k)
  | n+1,hi=>omega
 ·exact z7_ (by kernel_rfl)
 ·rintro ⟨s0,f1⟩
  kernel_rfl
def zor_ (k:Nat) (s0:List Int) (f1:Int):Option Bool:=(zop_ k s0 f1).bind fun r_1=>some (decide (0≤r_1))
def zxw_ (k:Nat):FE:=⟨(.pr (.sl 2 (.int .i64)) (.fn 132 (.ptr (.int .i64)))),1,.bool,fun x=>zor_ k x.1 x.2⟩
theorem z19z_ (k:Nat):FnOK Tryz.prog 85 (zxw_ k):=by
 refine za_ (tab:=[(115,zxv_ k)]) (l:=[]) z8_ z9_ mix (List.forall_mem_cons.2 ⟨z19y_ k,(List.forall_mem_nil _)⟩) (List.forall_mem_nil _) ⟨⟨Tryz.f85,(z2_ Tryz.f85),[.tmp 4],(LOn Bool),by kernel_rfl,by kernel_rfl,by kernel_rfl,by kernel_rfl,rfl,by decide,⟨by kernel_rfl,?_,?_⟩,?_⟩⟩
 ·exact zl_ (by kernel_rfl)
 ·exact z7_ (by kernel_rfl)
 ·rintro ⟨s0,f1⟩
  kernel_rfl
def zj2_ (k:Nat) (list0:List Int) (p1:Int):Option Bool:=(zor_ k list0 p1).bind fun r_1=>some (!r_1)
def zxx_ (k:Nat):FE:=⟨(.pr (.sl 2 (.int .i64)) (.int .i64)),1,.bool,fun x=>zj2_ k x.1 x.2⟩
theorem z1a0_ (k:Nat):FnOK Tryz.prog 118 (zxx_ k):=by
 refine za_ (tab:=[(85,zxw_ k)]) (l:=[]) z8_ z9_ mix (List.forall_mem_cons.2 ⟨z19z_ k,(List.forall_mem_nil _)⟩) (List.forall_mem_nil _) ⟨⟨Tryz.f118,(z2_ Tryz.f118),[.tmp 4],(LOn Bool),by kernel_rfl,by kernel_rfl,by kernel_rfl,by kernel_rfl,rfl,by decide,⟨by kernel_rfl,?_,?_⟩,?_⟩⟩
 ·exact zl_ (by kernel_rfl)
 ·exact z7_ (by kernel_rfl)
 ·rintro ⟨list0,p1⟩
  kernel_rfl
def zdb_ (k:Nat) (m0:Int×Int×Int×List Int):Option Bool:=(zax_ k m0.1).bind fun r_1=>(if r_1=true then (ziz_ m0.2.1).bind fun r_2=>(if r_2=true then (ziz_ m0.2.2.1).bind fun r_3=>(if r_3=true then (z6u_ m0.2.2.2).bind fun r_4=>(if (decide (r_4=(z0_ (m0.2.1*m0.2.2.1))))=true then (zj2_ k m0.2.2.2 m0.1).bind fun r_5=>some r_5 else some false) else some false) else some false) else some false)
def zxy_ (k:Nat):FE:=⟨(.st (.pr (.int .i64) (.pr (.int .i64) (.pr (.int .i64) (.sl 2 (.int .i64)))))),1,.bool,fun x=>zdb_ k x⟩
theorem z1a1_ (k:Nat):FnOK Tryz.prog 89 (zxy_ k):=by
 refine za_ (tab:=[(55,zd9_ k),(117,zxr_),(64,z5j_),(118,zxx_ k)]) (l:=[]) z8_ z9_ mix (List.forall_mem_cons.2 ⟨zxc_ k,(List.forall_mem_cons.2 ⟨z19u_,(List.forall_mem_cons.2 ⟨zik_,(List.forall_mem_cons.2 ⟨z1a0_ k,(List.forall_mem_nil _)⟩)⟩)⟩)⟩) (List.forall_mem_nil _) ⟨⟨Tryz.f89,(z2_ Tryz.f89),[.tmp 2],(LOn Bool),by kernel_rfl,by kernel_rfl,by kernel_rfl,by kernel_rfl,rfl,by decide,⟨by kernel_rfl,?_,?_⟩,?_⟩⟩
 ·exact zl_ (by kernel_rfl)
 ·exact z7_ (by kernel_rfl)
 ·rintro m0
  kernel_rfl
def zos_ (k:Nat) (m0:Int×Int×Int×List Int) (p1:Int) (from2:Int) (to3:Int):Option Bool:=(zdb_ k m0).bind fun r_1=>(if r_1=true then (if (decide (m0.1=p1))=true then (if (decide (m0.2.1=to3))=true then some (decide (m0.2.2.1=from2)) else some false) else some false) else some false)
def zj3_ (k:Nat):FE:=⟨(.pr (.st (.pr (.int .i64) (.pr (.int .i64) (.pr (.int .i64) (.sl 2 (.int .i64)))))) (.pr (.int .i64) (.pr (.int .i64) (.int .i64)))),1,.bool,fun x=>zos_ k x.1 x.2.1 x.2.2.1 x.2.2.2⟩
theorem z1a2_ (k:Nat):FnOK Tryz.prog 58 (zj3_ k):=by
 refine za_ (tab:=[(89,zxy_ k)]) (l:=[]) z8_ z9_ mix (List.forall_mem_cons.2 ⟨z1a1_ k,(List.forall_mem_nil _)⟩) (List.forall_mem_nil _) ⟨⟨Tryz.f58,(z2_ Tryz.f58),[.tmp 8],(LOn Bool),by kernel_rfl,by kernel_rfl,by kernel_rfl,by kernel_rfl,rfl,by decide,⟨by kernel_rfl,?_,?_⟩,?_⟩⟩
 ·exact zl_ (by kernel_rfl)
 ·exact z7_ (by kernel_rfl)
 ·rintro ⟨m0,p1,from2,to3⟩
  kernel_rfl
def zb5_ (k:Nat):Nat→Int→Int→(List (Int×Int×Int))→zT0→((List (Int×Int×Int))→zT0→Option Bool)→Option Bool
 | 0,_,_,_,_,_=>none
 | n+1,x28,x29,q_5,v_1,e_0=>(if (decide (x29<x28))=true then (if 0≤x29∧x29.toNat<List.length q_5 then (q_5[x29.toNat]?).bind fun y_6=>(if (decide ((List.length v_1.2.2.2:Int)≤x29))=true then some false else (if 0≤x29 then (v_1.2.2.2[x29.toNat]?).bind fun y_7=>(if 0≤y_6.2.2 then (v_1.2.2.1[y_6.2.2.toNat]?).bind fun y_8=>(if 0≤y_6.1 then (v_1.2.2.1[y_6.1.toNat]?).bind fun y_9=>(zos_ k y_7 v_1.2.1 y_8 y_9).bind fun r_10=>(if (!r_10)=true then some false else zb5_ k n x28 (z0_ (x29+1)) q_5 v_1 e_0) else none) else none) else none)) else none) else e_0 q_5 v_1)
def zj4_ (k:Nat) (s0:List (List Int)×Int×List Int×List (Int×Int×Int×List Int)):Option Bool:=(zic_ k s0.1).bind fun r_1=>(if (!r_1)=true then some false else (zax_ k s0.2.1).bind fun r_2=>(if (!r_2)=true then some false else (zir_ k s0.1 s0.2.2.1).bind fun r_3=>(if (!r_3)=true then some false else (ziv_ k s0.1).bind fun r_4=>zb5_ k k (List.length r_4:Int) 0 r_4 s0 (fun q_11 v_12=>some (decide ((List.length q_11:Int)=(List.length v_12.2.2.2:Int)))))))
def zj5_:Head:=⟨[(1,(.bp 1 [] 0)),(3,(.ref 64000000 [])),(27,(.ref 64000000 [])),(28,(.val (.int .i64))),(29,(.val (.int .i64)))],[(64000000,94,(.st (.pr (.int .i64) (.pr (.int .i64) (.int .i64)))),false)],[(1,36,(.val (.st (.pr (.st (.sl 25 (.sl 2 (.int .i64)))) (.pr (.int .i64) (.pr (.sl 2 (.int .i64)) (.sl 63 (.st (.pr (.int .i64) (.pr (.int .i64) (.pr (.int .i64) (.sl 2 (.int .i64)))))))))))))]⟩
def zxz_:Head:=⟨[(1,(.bp 1 [] 0)),(3,(.ref 64000000 []))],[(64000000,94,(.st (.pr (.int .i64) (.pr (.int .i64) (.int .i64)))),false)],[(1,36,(.val (.st (.pr (.st (.sl 25 (.sl 2 (.int .i64)))) (.pr (.int .i64) (.pr (.sl 2 (.int .i64)) (.sl 63 (.st (.pr (.int .i64) (.pr (.int .i64) (.pr (.int .i64) (.sl 2 (.int .i64)))))))))))))]⟩
def zot_ (k:Nat) (n:Nat) (x:zj5_.T) (kx:Nat→St→Option Bool):Option Bool:=zb5_ k n x.1.2.2.2.1 x.1.2.2.2.2.1 x.2.1.1 x.2.2.1 (fun (q_11:List (Int×Int×Int)) (v_1:List (List Int)×Int×List Int×List (Int×Int×Int×List Int))=>kx 0 (zxz_.fill (((),(),()),(q_11,()),(v_1,()))))
def zy0_ (k:Nat):Oracles Bool:=⟨fun n=>bif Nat.beq n 5 then some (fun σ kx=>zj5_.get σ fun x=>zot_ k k x kx) else none,fun _=>none⟩
def z6w_ (k:Nat):FE:=⟨(.st (.pr (.st (.sl 25 (.sl 2 (.int .i64)))) (.pr (.int .i64) (.pr (.sl 2 (.int .i64)) (.sl 63 (.st (.pr (.int .i64) (.pr (.int .i64) (.pr (.int .i64) (.sl 2 (.int .i64))))))))))),1,.bool,fun x=>zj4_ k x⟩
theorem z1a3_ (k:Nat):zd_ (z4_ ti [(54,zie_ k),(55,zd9_ k),(56,zit_ k),(57,ziy_ k),(58,zj3_ k)] (lk []) z5_ z6_) (zy0_ k) (rdC (z4_ ti [(54,zie_ k),(55,zd9_ k),(56,zit_ k),(57,ziy_ k),(58,zj3_ k)] (lk []) z5_ z6_) [.tmp 2] .bool) ((zb_ (z2_ Tryz.f26)).getD 0 .skip) (fun σ kx=>zj5_.get σ fun x=>zot_ k k x kx):=by
 refine ⟨zj5_,[(0,zxz_)],fun n x kx=>zot_ k n x kx,k,by kernel_rfl,by kernel_rfl,fun x kx=>by kernel_rfl,?_,fun σ kx=>rfl⟩
 rintro n ⟨⟨⟨⟩,⟨⟩,⟨⟩,x28,x29,⟨⟩⟩,⟨q_5,⟨⟩⟩,⟨v_1,⟨⟩⟩⟩ kx
 kernel_rfl
theorem z1a4_ (k:Nat):FnOK Tryz.prog 26 (z6w_ k):=by
 refine za_ (tab:=[(54,zie_ k),(55,zd9_ k),(56,zit_ k),(57,ziy_ k),(58,zj3_ k)]) (l:=[]) z8_ z9_ mix (List.forall_mem_cons.2 ⟨z19d_ k,(List.forall_mem_cons.2 ⟨zxc_ k,(List.forall_mem_cons.2 ⟨z19o_ k,(List.forall_mem_cons.2 ⟨z19t_ k,(List.forall_mem_cons.2 ⟨z1a2_ k,(List.forall_mem_nil _)⟩)⟩)⟩)⟩)⟩) (List.forall_mem_nil _) ⟨⟨Tryz.f26,(z2_ Tryz.f26),[.tmp 2],(zy0_ k),by kernel_rfl,by kernel_rfl,by kernel_rfl,by kernel_rfl,rfl,by decide,⟨by kernel_rfl,?_,?_⟩,?_⟩⟩
 ·refine zi_ (n:=1) (by kernel_rfl) fun i hi=>?_
  match i,hi with
  | 0,_=>exact ze_ (by kernel_rfl) (z1a3_ k)
  | n+1,hi=>omega
 ·exact z7_ (by kernel_rfl)
 ·rintro s0
  kernel_rfl
def zy1_ (n:Int) (b:Int):Option (List UInt8):=if b=10 ∧ -9223372036854775808≤n∧n≤9223372036854775807 then some (Lib.itoa n) else none
abbrev fe_strconv_FormatInt:FE:=fe_formatInt
theorem z1a5_:FnOK Tryz.prog 59 fe_strconv_FormatInt:=z15p_ (fn:=Tryz.f59) (cd:=z2_ Tryz.f59) (by kernel_rfl) (by kernel_rfl) (by kernel_rfl) (fun n h0 h1 w hG=>Go.Proofs.Tryz.strconv_FormatInt_10 n h0 h1 w hG)
def zb6_ (n0:Int):Option (List UInt8):=(zy1_ n0 10).bind fun r_1=>some r_1
def z6x_:FE:=⟨(.int .i64),1,.str,fun x=>zb6_ x⟩
theorem z1a6_:FnOK Tryz.prog 27 (z6x_):=by
 refine za_ (tab:=[(59,fe_strconv_FormatInt)]) (l:=[]) z8_ z9_ mix (List.forall_mem_cons.2 ⟨z1a5_,(List.forall_mem_nil _)⟩) (List.forall_mem_nil _) ⟨⟨Tryz.f27,(z2_ Tryz.f27),[.tmp 2],(LOn (List UInt8)),by kernel_rfl,by kernel_rfl,by kernel_rfl,by kernel_rfl,rfl,by decide,⟨by kernel_rfl,?_,?_⟩,?_⟩⟩
 ·exact zl_ (by kernel_rfl)
 ·exact z7_ (by kernel_rfl)
 ·rintro n0
  kernel_rfl
def z6y_ (k:Nat):Nat→Int→zT1→Int→Int→(Int→Option Int)→Option Int
 | 0,_,_,_,_,_=>none
 | n+1,n5,x12,x13,x14,e_0=>(if (decide (x14<x13))=true then (if 0≤x14 then (x12[x14.toNat]?).bind fun y_1=>(if (decide (1<(List.length y_1:Int)))=true then (z6u_ y_1).bind fun r_2=>z6y_ k n (z0_ (n5+r_2)) x12 x13 (z0_ (x14+1)) e_0 else z6y_ k n n5 x12 x13 (z0_ (x14+1)) e_0) else none) else e_0 n5)
def zj6_ (k:Nat) (s0:List (List Int)×Int×List Int×List (Int×Int×Int×List Int)) (simplex1:Int):Option Int:=(if 0≤(0:Int)∧(0:Int)≤simplex1∧simplex1≤s0.1.length then z6y_ k k 0 (s0.1.take simplex1.toNat) (List.length (s0.1.take simplex1.toNat):Int) 0 (fun n_3=>some n_3) else none)
def zj7_:Head:=⟨[(5,(.val (.int .i64))),(12,(.val (.sl 25 (.sl 2 (.int .i64))))),(13,(.val (.int .i64))),(14,(.val (.int .i64)))],[],[]⟩
def zy2_:Head:=⟨[(5,(.val (.int .i64)))],[],[]⟩
def zou_ (k:Nat) (n:Nat) (x:zj7_.T) (kx:Nat→St→Option Int):Option Int:=z6y_ k n x.1.1 x.1.2.1 x.1.2.2.1 x.1.2.2.2.1 (fun (n5:Int)=>kx 0 (zy2_.fill ((n5,()),(),())))
def zy3_ (k:Nat):Oracles Int:=⟨fun n=>bif Nat.beq n 3 then some (fun σ kx=>zj7_.get σ fun x=>zou_ k k x kx) else none,fun _=>none⟩
def zy4_ (k:Nat):FE:=⟨(.pr (.st (.pr (.st (.sl 25 (.sl 2 (.int .i64)))) (.pr (.int .i64) (.pr (.sl 2 (.int .i64)) (.sl 63 (.st (.pr (.int .i64) (.pr (.int .i64) (.pr (.int .i64) (.sl 2 (.int .i64))))))))))) (.int .i64)),1,(.int .i64),fun x=>zj6_ k x.1 x.2⟩
theorem z1a7_ (k:Nat):zd_ (z4_ ti [(64,z5j_)] (lk []) z5_ z6_) (zy3_ k) (rdC (z4_ ti [(64,z5j_)] (lk []) z5_ z6_) [.tmp 4] (.int .i64)) ((zb_ (z2_ Tryz.f65)).getD 0 .skip) (fun σ kx=>zj7_.get σ fun x=>zou_ k k x kx):=by
 refine ⟨zj7_,[(0,zy2_)],fun n x kx=>zou_ k n x kx,k,by kernel_rfl,by kernel_rfl,fun x kx=>by kernel_rfl,?_,fun σ kx=>rfl⟩
 rintro n ⟨⟨n5,x12,x13,x14,⟨⟩⟩,⟨⟩,⟨⟩⟩ kx
 kernel_rfl
theorem z1a8_ (k:Nat):FnOK Tryz.prog 65 (zy4_ k):=by
 refine za_ (tab:=[(64,z5j_)]) (l:=[]) z8_ z9_ mix (List.forall_mem_cons.2 ⟨zik_,(List.forall_mem_nil _)⟩) (List.forall_mem_nil _) ⟨⟨Tryz.f65,(z2_ Tryz.f65),[.tmp 4],(zy3_ k),by kernel_rfl,by kernel_rfl,by kernel_rfl,by kernel_rfl,rfl,by decide,⟨by kernel_rfl,?_,?_⟩,?_⟩⟩
 ·refine zi_ (n:=1) (by kernel_rfl) fun i hi=>?_
  match i,hi with
  | 0,_=>exact ze_ (by kernel_rfl) (z1a7_ k)
  | n+1,hi=>omega
 ·exact z7_ (by kernel_rfl)
 ·rintro ⟨s0,simplex1⟩
  kernel_rfl
end
end Go.Proofs.YthpamdpneanlpaaGreatDoor.Ev
