/- Functions of the program, as plain ones. No conditions. -/
import Derived.Test.YthpamdpneanlpaaGreatDoorG8
import Derived.KernelRfl
set_option linter.unusedVariables false
set_option maxRecDepth 100000
namespace Go.Proofs.YthpamdpneanlpaaGreatDoor.Ev
open Go.RowKit
noncomputable section
def z73_ (k:Nat):Nat→Int→(List UInt8)→zT1→Int→Int→(List Int)→Int→Int→zT4→zT0→(Int→(List UInt8)→zT1→Int→Int→zT4→zT0→Option zT3)→Option zT3
 | 0,_,_,_,_,_,_,_,_,_,_,_=>none
 | n+1,k5,line7,x16,x17,x18,x23,x24,x25,q_4,v_1,e_2=>(if (decide (x25<x24))=true then (if 0≤x25 then (x23[x25.toNat]?).bind fun y_5=>(zb6_ y_5).bind fun r_6=>(if line7.length+r_6.length≤9223372036854775807 then z73_ k n k5 (line7++r_6) x16 x17 x18 x23 x24 (z0_ (x25+1)) q_4 v_1 e_2 else none) else none) else e_2 k5 line7 x16 x17 x18 q_4 v_1)
def z74_ (k:Nat):Nat→Int→(List UInt8)→zT1→Int→Int→Int→Int→zT4→zT0→((List UInt8)→zT1→Int→Int→zT4→zT0→Option zT3)→Option zT3
 | 0,_,_,_,_,_,_,_,_,_,_=>none
 | n+1,k5,line7,x16,x17,x18,x47,x48,q_17,v_1,e_4=>(if (decide (x48<x47))=true then (zj8_ k v_1 k5 x48).bind fun r_18=>(zjn_ k r_18).bind fun r_19=>(zb6_ r_19).bind fun r_20=>(if [32].length+r_20.length≤9223372036854775807 then (if line7.length+([32]++r_20).length≤9223372036854775807 then z74_ k n k5 (line7++([32]++r_20)) x16 x17 x18 x47 (z0_ (x48+1)) q_17 v_1 e_4 else none) else none) else e_4 line7 x16 x17 x18 q_17 v_1)
def zbf_ (k:Nat):Nat→zT1→Int→Int→zT4→zT0→(zT4→Option zT3)→Option zT3
 | 0,_,_,_,_,_,_=>none
 | n+1,x16,x17,x18,q_2,v_1,e_0=>(if (decide (x18<x17))=true then (if 0≤x18 then (x16[x18.toNat]?).bind fun y_3=>z73_ k k x18 [] x16 x17 x18 y_3 (List.length y_3:Int) 0 q_2 v_1 (fun k_4 line_5 x_6 x_7 x_8 q_9 v_10=>(if 0≤k_4 then (v_10.2.2.1[k_4.toNat]?).bind fun y_11=>(zb6_ y_11).bind fun r_12=>(if [58].length+r_12.length≤9223372036854775807 then (if line_5.length+([58]++r_12).length≤9223372036854775807 then (zda_ k v_10.1 k_4).bind fun r_13=>z74_ k k k_4 (line_5++([58]++r_12)) x_6 x_7 x_8 (List.length r_13:Int) 0 q_9 v_10 (fun line_14 x_15 x_16 x_17 q_18 v_19=>(if (q_18.length+[line_14].length)*16≤LIM then zbf_ k n x_15 x_16 (z0_ (x_17+1)) (q_18++[line_14]) v_19 e_0 else none)) else none) else none) else none)) else none) else e_0 q_2)
def zcy_ (k:Nat) (s0:List (List Int)×Int×List Int×List (Int×Int×Int×List Int)):Option zT3:=(zj4_ k s0).bind fun r_1=>(if (!r_1)=true then some ([],1) else zbf_ k k s0.1 (List.length s0.1:Int) 0 [] s0 (fun q_20=>(zdd_ k q_20).bind fun r_21=>some (r_21.1,r_21.2)))
def zjq_:Head:=⟨[(1,(.bp 1 [] 0)),(4,(.ref 64000000 [])),(5,(.val (.int .i64))),(7,(.val .str)),(16,(.val (.sl 25 (.sl 2 (.int .i64))))),(17,(.val (.int .i64))),(18,(.val (.int .i64))),(23,(.val (.sl 2 (.int .i64)))),(24,(.val (.int .i64))),(25,(.val (.int .i64)))],[(64000000,9,.str,false)],[(1,36,(.val (.st (.pr (.st (.sl 25 (.sl 2 (.int .i64)))) (.pr (.int .i64) (.pr (.sl 2 (.int .i64)) (.sl 63 (.st (.pr (.int .i64) (.pr (.int .i64) (.pr (.int .i64) (.sl 2 (.int .i64)))))))))))))]⟩
def zyk_:Head:=⟨[(1,(.bp 1 [] 0)),(4,(.ref 64000000 [])),(5,(.val (.int .i64))),(7,(.val .str)),(16,(.val (.sl 25 (.sl 2 (.int .i64))))),(17,(.val (.int .i64))),(18,(.val (.int .i64)))],[(64000000,9,.str,false)],[(1,36,(.val (.st (.pr (.st (.sl 25 (.sl 2 (.int .i64)))) (.pr (.int .i64) (.pr (.sl 2 (.int .i64)) (.sl 63 (.st (.pr (.int .i64) (.pr (.int .i64) (.pr (.int .i64) (.sl 2 (.int .i64)))))))))))))]⟩
def zp9_ (k:Nat) (n:Nat) (x:zjq_.T) (kx:Nat→St→Option zT3):Option zT3:=z73_ k n x.1.2.2.1 x.1.2.2.2.1 x.1.2.2.2.2.1 x.1.2.2.2.2.2.1 x.1.2.2.2.2.2.2.1 x.1.2.2.2.2.2.2.2.1 x.1.2.2.2.2.2.2.2.2.1 x.1.2.2.2.2.2.2.2.2.2.1 x.2.1.1 x.2.2.1 (fun (k5:Int) (line7:List UInt8) (x16:List (List Int)) (x17:Int) (x18:Int) (q_7:List (List UInt8)) (v_1:List (List Int)×Int×List Int×List (Int×Int×Int×List Int))=>kx 2 (zyk_.fill (((),(),k5,line7,x16,x17,x18,()),(q_7,()),(v_1,()))))
def zjr_:Head:=⟨[(1,(.bp 1 [] 0)),(4,(.ref 64000000 [])),(5,(.val (.int .i64))),(7,(.val .str)),(16,(.val (.sl 25 (.sl 2 (.int .i64))))),(17,(.val (.int .i64))),(18,(.val (.int .i64))),(47,(.val (.int .i64))),(48,(.val (.int .i64)))],[(64000000,9,.str,false)],[(1,36,(.val (.st (.pr (.st (.sl 25 (.sl 2 (.int .i64)))) (.pr (.int .i64) (.pr (.sl 2 (.int .i64)) (.sl 63 (.st (.pr (.int .i64) (.pr (.int .i64) (.pr (.int .i64) (.sl 2 (.int .i64)))))))))))))]⟩
def zyl_:Head:=⟨[(1,(.bp 1 [] 0)),(4,(.ref 64000000 [])),(7,(.val .str)),(16,(.val (.sl 25 (.sl 2 (.int .i64))))),(17,(.val (.int .i64))),(18,(.val (.int .i64)))],[(64000000,9,.str,false)],[(1,36,(.val (.st (.pr (.st (.sl 25 (.sl 2 (.int .i64)))) (.pr (.int .i64) (.pr (.sl 2 (.int .i64)) (.sl 63 (.st (.pr (.int .i64) (.pr (.int .i64) (.pr (.int .i64) (.sl 2 (.int .i64)))))))))))))]⟩
def zpa_ (k:Nat) (n:Nat) (x:zjr_.T) (kx:Nat→St→Option zT3):Option zT3:=z74_ k n x.1.2.2.1 x.1.2.2.2.1 x.1.2.2.2.2.1 x.1.2.2.2.2.2.1 x.1.2.2.2.2.2.2.1 x.1.2.2.2.2.2.2.2.1 x.1.2.2.2.2.2.2.2.2.1 x.2.1.1 x.2.2.1 (fun (line7:List UInt8) (x16:List (List Int)) (x17:Int) (x18:Int) (q_21:List (List UInt8)) (v_1:List (List Int)×Int×List Int×List (Int×Int×Int×List Int))=>kx 4 (zyl_.fill (((),(),line7,x16,x17,x18,()),(q_21,()),(v_1,()))))
def zjs_:Head:=⟨[(1,(.bp 1 [] 0)),(4,(.ref 64000000 [])),(16,(.val (.sl 25 (.sl 2 (.int .i64))))),(17,(.val (.int .i64))),(18,(.val (.int .i64)))],[(64000000,9,.str,false)],[(1,36,(.val (.st (.pr (.st (.sl 25 (.sl 2 (.int .i64)))) (.pr (.int .i64) (.pr (.sl 2 (.int .i64)) (.sl 63 (.st (.pr (.int .i64) (.pr (.int .i64) (.pr (.int .i64) (.sl 2 (.int .i64)))))))))))))]⟩
def zym_:Head:=⟨[(4,(.ref 64000000 []))],[(64000000,9,.str,false)],[]⟩
def zpb_ (k:Nat) (n:Nat) (x:zjs_.T) (kx:Nat→St→Option zT3):Option zT3:=zbf_ k n x.1.2.2.1 x.1.2.2.2.1 x.1.2.2.2.2.1 x.2.1.1 x.2.2.1 (fun (q_27:List (List UInt8))=>kx 0 (zym_.fill (((),()),(q_27,()),())))
def zjt_ (k:Nat):Oracles zT3:=⟨fun n=>bif Nat.beq n 9 then some (fun σ kx=>zjq_.get σ fun x=>zp9_ k k x kx) else bif Nat.beq n 15 then some (fun σ kx=>zjr_.get σ fun x=>zpa_ k k x kx) else bif Nat.beq n 5 then some (fun σ kx=>zjs_.get σ fun x=>zpb_ k k x kx) else none,fun _=>none⟩
def zv2_ (k:Nat):FE:=⟨(.st (.pr (.st (.sl 25 (.sl 2 (.int .i64)))) (.pr (.int .i64) (.pr (.sl 2 (.int .i64)) (.sl 63 (.st (.pr (.int .i64) (.pr (.int .i64) (.pr (.int .i64) (.sl 2 (.int .i64))))))))))),2,(.pr (.sl 9 .str) (.int .i64)),fun x=>zcy_ k x⟩
theorem z1aw_ (k:Nat):zd_ (z4_ ti [(26,z6w_ k),(27,z6x_),(28,z3n_ k),(30,z6z_ k),(29,z71_ k),(31,z72_ k)] (lk []) z5_ z6_) (zjt_ k) (rdC (z4_ ti [(26,z6w_ k),(27,z6x_),(28,z3n_ k),(30,z6z_ k),(29,z71_ k),(31,z72_ k)] (lk []) z5_ z6_) [.tmp 2,.tmp 3] (.pr (.sl 9 .str) (.int .i64))) ((zb_ (z2_ Tryz.f7)).getD 1 .skip) (fun σ kx=>zjq_.get σ fun x=>zp9_ k k x kx):=by
 refine ⟨zjq_,[(2,zyk_)],fun n x kx=>zp9_ k n x kx,k,by kernel_rfl,by kernel_rfl,fun x kx=>by kernel_rfl,?_,fun σ kx=>rfl⟩
 rintro n ⟨⟨⟨⟩,⟨⟩,k5,line7,x16,x17,x18,x23,x24,x25,⟨⟩⟩,⟨q_4,⟨⟩⟩,⟨v_1,⟨⟩⟩⟩ kx
 refine id (α:=z73_ k (n+1) k5 line7 x16 x17 x18 x23 x24 x25 q_4 v_1 _=_) ?_
 kernel_rfl
theorem z1ax_ (k:Nat):zd_ (z4_ ti [(26,z6w_ k),(27,z6x_),(28,z3n_ k),(30,z6z_ k),(29,z71_ k),(31,z72_ k)] (lk []) z5_ z6_) (zjt_ k) (rdC (z4_ ti [(26,z6w_ k),(27,z6x_),(28,z3n_ k),(30,z6z_ k),(29,z71_ k),(31,z72_ k)] (lk []) z5_ z6_) [.tmp 2,.tmp 3] (.pr (.sl 9 .str) (.int .i64))) ((zb_ (z2_ Tryz.f7)).getD 2 .skip) (fun σ kx=>zjr_.get σ fun x=>zpa_ k k x kx):=by
 refine ⟨zjr_,[(4,zyl_)],fun n x kx=>zpa_ k n x kx,k,by kernel_rfl,by kernel_rfl,fun x kx=>by kernel_rfl,?_,fun σ kx=>rfl⟩
 rintro n ⟨⟨⟨⟩,⟨⟩,k5,line7,x16,x17,x18,x47,x48,⟨⟩⟩,⟨q_17,⟨⟩⟩,⟨v_1,⟨⟩⟩⟩ kx
 refine id (α:=z74_ k (n+1) k5 line7 x16 x17 x18 x47 x48 q_17 v_1 _=_) ?_
 kernel_rfl
theorem z1ay_ (k:Nat):zd_ (z4_ ti [(26,z6w_ k),(27,z6x_),(28,z3n_ k),(30,z6z_ k),(29,z71_ k),(31,z72_ k)] (lk []) z5_ z6_) (zjt_ k) (rdC (z4_ ti [(26,z6w_ k),(27,z6x_),(28,z3n_ k),(30,z6z_ k),(29,z71_ k),(31,z72_ k)] (lk []) z5_ z6_) [.tmp 2,.tmp 3] (.pr (.sl 9 .str) (.int .i64))) ((zb_ (z2_ Tryz.f7)).getD 0 .skip) (fun σ kx=>zjs_.get σ fun x=>zpb_ k k x kx):=by
 refine ⟨zjs_,[(0,zym_)],fun n x kx=>zpb_ k n x kx,k,by kernel_rfl,by kernel_rfl,fun x kx=>by kernel_rfl,?_,fun σ kx=>rfl⟩
 rintro n ⟨⟨⟨⟩,⟨⟩,x16,x17,x18,⟨⟩⟩,⟨q_2,⟨⟩⟩,⟨v_1,⟨⟩⟩⟩ kx
 kernel_rfl
theorem z173_ (k:Nat):FnOK Tryz.prog 7 (zv2_ k):=by
 refine za_ (tab:=[(26,z6w_ k),(27,z6x_),(28,z3n_ k),(30,z6z_ k),(29,z71_ k),(31,z72_ k)]) (l:=[]) z8_ z9_ mix (List.forall_mem_cons.2 ⟨z1a4_ k,(List.forall_mem_cons.2 ⟨z1a6_,(List.forall_mem_cons.2 ⟨zxo_ k,(List.forall_mem_cons.2 ⟨z1a9_ k,(List.forall_mem_cons.2 ⟨z1ar_ k,(List.forall_mem_cons.2 ⟨z1av_ k,(List.forall_mem_nil _)⟩)⟩)⟩)⟩)⟩)⟩) (List.forall_mem_nil _) ⟨⟨Tryz.f7,(z2_ Tryz.f7),[.tmp 2,.tmp 3],(zjt_ k),by kernel_rfl,by kernel_rfl,by kernel_rfl,by kernel_rfl,rfl,by decide,⟨by kernel_rfl,?_,?_⟩,?_⟩⟩
 ·refine zi_ (n:=3) (by kernel_rfl) fun i hi=>?_
  match i,hi with
  | 0,_=>exact ze_ (by kernel_rfl) (z1ay_ k)
  | 1,_=>exact ze_ (by kernel_rfl) (z1aw_ k)
  | 2,_=>exact ze_ (by kernel_rfl) (z1ax_ k)
  | n+3,hi=>omega
 ·exact z7_ (by kernel_rfl)
 ·rintro s0
  kernel_rfl
def zbg_ (k:Nat):Nat→zT4→zT4→Int→(Option Bool)→Option Bool
 | 0,_,_,_,_=>none
 | n+1,a0,b1,i5,e_0=>(if (decide (i5<(List.length a0:Int)))=true then (if 0≤i5 then (a0[i5.toNat]?).bind fun y_1=>(if 0≤i5 then (b1[i5.toNat]?).bind fun y_2=>(if (!(decide (y_1=y_2)))=true then some false else zbg_ k n a0 b1 (z0_ (i5+1)) e_0) else none) else none) else e_0)
def zaa_ (k:Nat) (a0:List (List UInt8)) (b1:List (List UInt8)):Option Bool:=(if (!(decide ((List.length a0:Int)=(List.length b1:Int))))=true then some false else zbg_ k k a0 b1 0 (some true))
def zju_:Head:=⟨[(0,(.val (.sl 9 .str))),(1,(.val (.sl 9 .str))),(5,(.val (.int .i64)))],[],[]⟩
def zyn_:Head:=⟨[],[],[]⟩
def zpc_ (k:Nat) (n:Nat) (x:zju_.T) (kx:Nat→St→Option Bool):Option Bool:=zbg_ k n x.1.1 x.1.2.1 x.1.2.2.1 (kx 0 (zyn_.fill ((),(),())))
def zyo_ (k:Nat):Oracles Bool:=⟨fun n=>bif Nat.beq n 4 then some (fun σ kx=>zju_.get σ fun x=>zpc_ k k x kx) else none,fun _=>none⟩
def zv3_ (k:Nat):FE:=⟨(.pr (.sl 9 .str) (.sl 9 .str)),1,.bool,fun x=>zaa_ k x.1 x.2⟩
theorem z1az_ (k:Nat):zd_ (z4_ ti [] (lk []) z5_ z6_) (zyo_ k) (rdC (z4_ ti [] (lk []) z5_ z6_) [.tmp 4] .bool) ((zb_ (z2_ Tryz.f8)).getD 0 .skip) (fun σ kx=>zju_.get σ fun x=>zpc_ k k x kx):=by
 refine ⟨zju_,[(0,zyn_)],fun n x kx=>zpc_ k n x kx,k,by kernel_rfl,by kernel_rfl,fun x kx=>by kernel_rfl,?_,fun σ kx=>rfl⟩
 rintro n ⟨⟨a0,b1,i5,⟨⟩⟩,⟨⟩,⟨⟩⟩ kx
 kernel_rfl
theorem z174_ (k:Nat):FnOK Tryz.prog 8 (zv3_ k):=by
 refine za_ (tab:=[]) (l:=[]) z8_ z9_ mix (List.forall_mem_nil _) (List.forall_mem_nil _) ⟨⟨Tryz.f8,(z2_ Tryz.f8),[.tmp 4],(zyo_ k),by kernel_rfl,by kernel_rfl,by kernel_rfl,by kernel_rfl,rfl,by decide,⟨by kernel_rfl,?_,?_⟩,?_⟩⟩
 ·refine zi_ (n:=1) (by kernel_rfl) fun i hi=>?_
  match i,hi with
  | 0,_=>exact ze_ (by kernel_rfl) (z1az_ k)
  | n+1,hi=>omega
 ·exact z7_ (by kernel_rfl)
 ·rintro ⟨a0,b1⟩
  kernel_rfl
def zbh_ (k:Nat):Nat→(List Int)→(List Int)→Int→(Option Bool)→Option Bool
 | 0,_,_,_,_=>none
 | n+1,a0,b1,i5,e_0=>(if (decide (i5<(List.length a0:Int)))=true then (if 0≤i5 then (a0[i5.toNat]?).bind fun y_1=>(if 0≤i5 then (b1[i5.toNat]?).bind fun y_2=>(if (!(decide (y_1=y_2)))=true then some false else zbh_ k n a0 b1 (z0_ (i5+1)) e_0) else none) else none) else e_0)
def zbi_ (k:Nat) (a0:List Int) (b1:List Int):Option Bool:=(if (!(decide ((List.length a0:Int)=(List.length b1:Int))))=true then some false else zbh_ k k a0 b1 0 (some true))
def zjv_:Head:=⟨[(0,(.val (.sl 2 (.int .i64)))),(1,(.val (.sl 2 (.int .i64)))),(5,(.val (.int .i64)))],[],[]⟩
def zyp_:Head:=⟨[],[],[]⟩
def zpd_ (k:Nat) (n:Nat) (x:zjv_.T) (kx:Nat→St→Option Bool):Option Bool:=zbh_ k n x.1.1 x.1.2.1 x.1.2.2.1 (kx 0 (zyp_.fill ((),(),())))
def zyq_ (k:Nat):Oracles Bool:=⟨fun n=>bif Nat.beq n 4 then some (fun σ kx=>zjv_.get σ fun x=>zpd_ k k x kx) else none,fun _=>none⟩
def zbj_ (k:Nat):FE:=⟨(.pr (.sl 2 (.int .i64)) (.sl 2 (.int .i64))),1,.bool,fun x=>zbi_ k x.1 x.2⟩
theorem z1b0_ (k:Nat):zd_ (z4_ ti [] (lk []) z5_ z6_) (zyq_ k) (rdC (z4_ ti [] (lk []) z5_ z6_) [.tmp 4] .bool) ((zb_ (z2_ Tryz.f33)).getD 0 .skip) (fun σ kx=>zjv_.get σ fun x=>zpd_ k k x kx):=by
 refine ⟨zjv_,[(0,zyp_)],fun n x kx=>zpd_ k n x kx,k,by kernel_rfl,by kernel_rfl,fun x kx=>by kernel_rfl,?_,fun σ kx=>rfl⟩
 rintro n ⟨⟨a0,b1,i5,⟨⟩⟩,⟨⟩,⟨⟩⟩ kx
 kernel_rfl
theorem zpe_ (k:Nat):FnOK Tryz.prog 33 (zbj_ k):=by
 refine za_ (tab:=[]) (l:=[]) z8_ z9_ mix (List.forall_mem_nil _) (List.forall_mem_nil _) ⟨⟨Tryz.f33,(z2_ Tryz.f33),[.tmp 4],(zyq_ k),by kernel_rfl,by kernel_rfl,by kernel_rfl,by kernel_rfl,rfl,by decide,⟨by kernel_rfl,?_,?_⟩,?_⟩⟩
 ·refine zi_ (n:=1) (by kernel_rfl) fun i hi=>?_
  match i,hi with
  | 0,_=>exact ze_ (by kernel_rfl) (z1b0_ k)
  | n+1,hi=>omega
 ·exact z7_ (by kernel_rfl)
 ·rintro ⟨a0,b1⟩
  kernel_rfl
def zbk_ (k:Nat):Nat→zT1→zT1→Int→(Option Bool)→Option Bool
 | 0,_,_,_,_=>none
 | n+1,a0,b1,i5,e_0=>(if (decide (i5<(List.length a0:Int)))=true then (if 0≤i5 then (a0[i5.toNat]?).bind fun y_1=>(if 0≤i5 then (b1[i5.toNat]?).bind fun y_2=>(zbi_ k y_1 y_2).bind fun r_3=>(if (!r_3)=true then some false else zbk_ k n a0 b1 (z0_ (i5+1)) e_0) else none) else none) else e_0)
def zjw_ (k:Nat) (a0:List (List Int)) (b1:List (List Int)):Option Bool:=(if (!(decide ((List.length a0:Int)=(List.length b1:Int))))=true then some false else zbk_ k k a0 b1 0 (some true))
def zjx_:Head:=⟨[(0,(.val (.sl 25 (.sl 2 (.int .i64))))),(1,(.val (.sl 25 (.sl 2 (.int .i64))))),(5,(.val (.int .i64)))],[],[]⟩
def zyr_:Head:=⟨[],[],[]⟩
def zpf_ (k:Nat) (n:Nat) (x:zjx_.T) (kx:Nat→St→Option Bool):Option Bool:=zbk_ k n x.1.1 x.1.2.1 x.1.2.2.1 (kx 0 (zyr_.fill ((),(),())))
def zys_ (k:Nat):Oracles Bool:=⟨fun n=>bif Nat.beq n 4 then some (fun σ kx=>zjx_.get σ fun x=>zpf_ k k x kx) else none,fun _=>none⟩
def zyt_ (k:Nat):FE:=⟨(.pr (.sl 25 (.sl 2 (.int .i64))) (.sl 25 (.sl 2 (.int .i64)))),1,.bool,fun x=>zjw_ k x.1 x.2⟩
theorem z1b1_ (k:Nat):zd_ (z4_ ti [(33,zbj_ k)] (lk []) z5_ z6_) (zys_ k) (rdC (z4_ ti [(33,zbj_ k)] (lk []) z5_ z6_) [.tmp 4] .bool) ((zb_ (z2_ Tryz.f67)).getD 0 .skip) (fun σ kx=>zjx_.get σ fun x=>zpf_ k k x kx):=by
 refine ⟨zjx_,[(0,zyr_)],fun n x kx=>zpf_ k n x kx,k,by kernel_rfl,by kernel_rfl,fun x kx=>by kernel_rfl,?_,fun σ kx=>rfl⟩
 rintro n ⟨⟨a0,b1,i5,⟨⟩⟩,⟨⟩,⟨⟩⟩ kx
 kernel_rfl
theorem z1b2_ (k:Nat):FnOK Tryz.prog 67 (zyt_ k):=by
 refine za_ (tab:=[(33,zbj_ k)]) (l:=[]) z8_ z9_ mix (List.forall_mem_cons.2 ⟨zpe_ k,(List.forall_mem_nil _)⟩) (List.forall_mem_nil _) ⟨⟨Tryz.f67,(z2_ Tryz.f67),[.tmp 4],(zys_ k),by kernel_rfl,by kernel_rfl,by kernel_rfl,by kernel_rfl,rfl,by decide,⟨by kernel_rfl,?_,?_⟩,?_⟩⟩
 ·refine zi_ (n:=1) (by kernel_rfl) fun i hi=>?_
  match i,hi with
  | 0,_=>exact ze_ (by kernel_rfl) (z1b1_ k)
  | n+1,hi=>omega
 ·exact z7_ (by kernel_rfl)
 ·rintro ⟨a0,b1⟩
  kernel_rfl
def zjy_ (k:Nat) (a0:List (List Int)) (b1:List (List Int)):Option Bool:=(zjw_ k a0 b1).bind fun r_1=>(if (!r_1)=true then some false else some true)
def zyu_ (k:Nat):FE:=⟨(.pr (.st (.sl 25 (.sl 2 (.int .i64)))) (.st (.sl 25 (.sl 2 (.int .i64))))),1,.bool,fun x=>zjy_ k x.1 x.2⟩
theorem z1b3_ (k:Nat):FnOK Tryz.prog 32 (zyu_ k):=by
 refine za_ (tab:=[(67,zyt_ k)]) (l:=[]) z8_ z9_ mix (List.forall_mem_cons.2 ⟨z1b2_ k,(List.forall_mem_nil _)⟩) (List.forall_mem_nil _) ⟨⟨Tryz.f32,(z2_ Tryz.f32),[.tmp 4],(LOn Bool),by kernel_rfl,by kernel_rfl,by kernel_rfl,by kernel_rfl,rfl,by decide,⟨by kernel_rfl,?_,?_⟩,?_⟩⟩
 ·exact zl_ (by kernel_rfl)
 ·exact z7_ (by kernel_rfl)
 ·rintro ⟨a0,b1⟩
  kernel_rfl
def zjz_ (k:Nat) (a0:Int×Int×Int×List Int) (b1:Int×Int×Int×List Int):Option Bool:=(if (!(decide (a0.1=b1.1)))=true then some false else (if (!(decide (a0.2.1=b1.2.1)))=true then some false else (if (!(decide (a0.2.2.1=b1.2.2.1)))=true then some false else (zbi_ k a0.2.2.2 b1.2.2.2).bind fun r_1=>(if (!r_1)=true then some false else some true))))
def zk0_ (k:Nat):FE:=⟨(.pr (.st (.pr (.int .i64) (.pr (.int .i64) (.pr (.int .i64) (.sl 2 (.int .i64)))))) (.st (.pr (.int .i64) (.pr (.int .i64) (.pr (.int .i64) (.sl 2 (.int .i64))))))),1,.bool,fun x=>zjz_ k x.1 x.2⟩
theorem z1b4_ (k:Nat):FnOK Tryz.prog 68 (zk0_ k):=by
 refine za_ (tab:=[(33,zbj_ k)]) (l:=[]) z8_ z9_ mix (List.forall_mem_cons.2 ⟨zpe_ k,(List.forall_mem_nil _)⟩) (List.forall_mem_nil _) ⟨⟨Tryz.f68,(z2_ Tryz.f68),[.tmp 4],(LOn Bool),by kernel_rfl,by kernel_rfl,by kernel_rfl,by kernel_rfl,rfl,by decide,⟨by kernel_rfl,?_,?_⟩,?_⟩⟩
 ·exact zl_ (by kernel_rfl)
 ·exact z7_ (by kernel_rfl)
 ·rintro ⟨a0,b1⟩
  kernel_rfl
def zbl_ (k:Nat):Nat→zT2→zT2→Int→(Option Bool)→Option Bool
 | 0,_,_,_,_=>none
 | n+1,a0,b1,i5,e_0=>(if (decide (i5<(List.length a0:Int)))=true then (if 0≤i5 then (a0[i5.toNat]?).bind fun y_1=>(if 0≤i5 then (b1[i5.toNat]?).bind fun y_2=>(zjz_ k y_1 y_2).bind fun r_3=>(if (!r_3)=true then some false else zbl_ k n a0 b1 (z0_ (i5+1)) e_0) else none) else none) else e_0)
def zk1_ (k:Nat) (a0:List (Int×Int×Int×List Int)) (b1:List (Int×Int×Int×List Int)):Option Bool:=(if (!(decide ((List.length a0:Int)=(List.length b1:Int))))=true then some false else zbl_ k k a0 b1 0 (some true))
def zk2_:Head:=⟨[(0,(.val (.sl 63 (.st (.pr (.int .i64) (.pr (.int .i64) (.pr (.int .i64) (.sl 2 (.int .i64))))))))),(1,(.val (.sl 63 (.st (.pr (.int .i64) (.pr (.int .i64) (.pr (.int .i64) (.sl 2 (.int .i64))))))))),(5,(.val (.int .i64)))],[],[]⟩
def zyv_:Head:=⟨[],[],[]⟩
def zpg_ (k:Nat) (n:Nat) (x:zk2_.T) (kx:Nat→St→Option Bool):Option Bool:=zbl_ k n x.1.1 x.1.2.1 x.1.2.2.1 (kx 0 (zyv_.fill ((),(),())))
def zyw_ (k:Nat):Oracles Bool:=⟨fun n=>bif Nat.beq n 4 then some (fun σ kx=>zk2_.get σ fun x=>zpg_ k k x kx) else none,fun _=>none⟩
def zyx_ (k:Nat):FE:=⟨(.pr (.sl 63 (.st (.pr (.int .i64) (.pr (.int .i64) (.pr (.int .i64) (.sl 2 (.int .i64))))))) (.sl 63 (.st (.pr (.int .i64) (.pr (.int .i64) (.pr (.int .i64) (.sl 2 (.int .i64)))))))),1,.bool,fun x=>zk1_ k x.1 x.2⟩
theorem z1b5_ (k:Nat):zd_ (z4_ ti [(68,zk0_ k)] (lk []) z5_ z6_) (zyw_ k) (rdC (z4_ ti [(68,zk0_ k)] (lk []) z5_ z6_) [.tmp 4] .bool) ((zb_ (z2_ Tryz.f34)).getD 0 .skip) (fun σ kx=>zk2_.get σ fun x=>zpg_ k k x kx):=by
 refine ⟨zk2_,[(0,zyv_)],fun n x kx=>zpg_ k n x kx,k,by kernel_rfl,by kernel_rfl,fun x kx=>by kernel_rfl,?_,fun σ kx=>rfl⟩
 rintro n ⟨⟨a0,b1,i5,⟨⟩⟩,⟨⟩,⟨⟩⟩ kx
 kernel_rfl
theorem z1b6_ (k:Nat):FnOK Tryz.prog 34 (zyx_ k):=by
 refine za_ (tab:=[(68,zk0_ k)]) (l:=[]) z8_ z9_ mix (List.forall_mem_cons.2 ⟨z1b4_ k,(List.forall_mem_nil _)⟩) (List.forall_mem_nil _) ⟨⟨Tryz.f34,(z2_ Tryz.f34),[.tmp 4],(zyw_ k),by kernel_rfl,by kernel_rfl,by kernel_rfl,by kernel_rfl,rfl,by decide,⟨by kernel_rfl,?_,?_⟩,?_⟩⟩
 ·refine zi_ (n:=1) (by kernel_rfl) fun i hi=>?_
  match i,hi with
  | 0,_=>exact ze_ (by kernel_rfl) (z1b5_ k)
  | n+1,hi=>omega
 ·exact z7_ (by kernel_rfl)
 ·rintro ⟨a0,b1⟩
  kernel_rfl
def zge_ (k:Nat) (a0:List (List Int)×Int×List Int×List (Int×Int×Int×List Int)) (b1:List (List Int)×Int×List Int×List (Int×Int×Int×List Int)):Option Bool:=(zjy_ k a0.1 b1.1).bind fun r_1=>(if (!r_1)=true then some false else (if (!(decide (a0.2.1=b1.2.1)))=true then some false else (zbi_ k a0.2.2.1 b1.2.2.1).bind fun r_2=>(if (!r_2)=true then some false else (zk1_ k a0.2.2.2 b1.2.2.2).bind fun r_3=>(if (!r_3)=true then some false else some true))))
def zv4_ (k:Nat):FE:=⟨(.pr (.st (.pr (.st (.sl 25 (.sl 2 (.int .i64)))) (.pr (.int .i64) (.pr (.sl 2 (.int .i64)) (.sl 63 (.st (.pr (.int .i64) (.pr (.int .i64) (.pr (.int .i64) (.sl 2 (.int .i64))))))))))) (.st (.pr (.st (.sl 25 (.sl 2 (.int .i64)))) (.pr (.int .i64) (.pr (.sl 2 (.int .i64)) (.sl 63 (.st (.pr (.int .i64) (.pr (.int .i64) (.pr (.int .i64) (.sl 2 (.int .i64)))))))))))),1,.bool,fun x=>zge_ k x.1 x.2⟩
theorem z175_ (k:Nat):FnOK Tryz.prog 9 (zv4_ k):=by
 refine za_ (tab:=[(32,zyu_ k),(33,zbj_ k),(34,zyx_ k)]) (l:=[]) z8_ z9_ mix (List.forall_mem_cons.2 ⟨z1b3_ k,(List.forall_mem_cons.2 ⟨zpe_ k,(List.forall_mem_cons.2 ⟨z1b6_ k,(List.forall_mem_nil _)⟩)⟩)⟩) (List.forall_mem_nil _) ⟨⟨Tryz.f9,(z2_ Tryz.f9),[.tmp 4],(LOn Bool),by kernel_rfl,by kernel_rfl,by kernel_rfl,by kernel_rfl,rfl,by decide,⟨by kernel_rfl,?_,?_⟩,?_⟩⟩
 ·exact zl_ (by kernel_rfl)
 ·exact z7_ (by kernel_rfl)
 ·rintro ⟨a0,b1⟩
  kernel_rfl
def zbm_ (k:Nat):Nat→Nat→Int→Int→zT1→(Int→zT1→Option (((Int×Unit)×(zT1×Unit)×Unit)))→Option (((Int×Unit)×(zT1×Unit)×Unit))
 | 0,_,_,_,_,_=>none
 | n+1,a0n0,k1,i5,q_2,e_0=>(q_2[a0n0]?).bind fun y_3=>(if (decide (i5<(List.length y_3:Int)))=true then (q_2[a0n0]?).bind fun y_4=>(if 0≤i5∧i5.toNat<List.length y_4 then (q_2[a0n0]?).bind fun y_5=>(y_5[i5.toNat]?).bind fun y_6=>(q_2[a0n0]?).bind fun y_7=>(y_7[i5.toNat]?).bind fun y_8=>zbm_ k n a0n0 (z0_ (k1+1)) (z0_ (i5+1)) (q_2.set a0n0 (y_7.set i5.toNat k1)) e_0 else none) else e_0 k1 q_2)
def zk3_ (k:Nat) (a0n0:Nat) (k1:Int) (q_1:List (List Int)):Option (((Int×Unit)×(zT1×Unit)×Unit)):=zbm_ k k a0n0 k1 0 q_1 (fun k_9 q_10=>some ((k_9,()),(q_10,()),()))
def zk4_:Head:=⟨[(0,(.ref 1000000000 [.ix])),(1,(.val (.int .i64))),(5,(.val (.int .i64)))],[(1000000000,25,(.sl 2 (.int .i64)),false)],[]⟩
def zyy_:Head:=⟨[(1,(.val (.int .i64)))],[(1000000000,25,(.sl 2 (.int .i64)),false)],[]⟩
def zph_ (k:Nat) (n:Nat) (x:zk4_.T) (kx:Nat→St→Option (((Int×Unit)×(zT1×Unit)×Unit))):Option (((Int×Unit)×(zT1×Unit)×Unit)):=zbm_ k n x.1.1.1 x.1.2.1 x.1.2.2.1 x.2.1.1 (fun (k1:Int) (q_9:List (List Int))=>kx 0 (zyy_.fill ((k1,()),(q_9,()),())))
def zyz_ (k:Nat):Oracles (((Int×Unit)×(zT1×Unit)×Unit)):=⟨fun n=>bif Nat.beq n 2 then some (fun σ kx=>zk4_.get σ fun x=>zph_ k k x kx) else none,fun _=>none⟩
def z1b7_:Head:=⟨[(0,(.ref 1000000000 [.ix])),(1,(.val (.int .i64)))],[(1000000000,25,(.sl 2 (.int .i64)),false)],[]⟩
def zz0_:Head:=⟨[(0,(.val (.int .i64)))],[(1000000000,25,(.sl 2 (.int .i64)),false)],[]⟩
def zk5_ (k:Nat):OC:=⟨z1b7_,zz0_,fun x=>zk3_ k x.1.1.1 x.1.2.1 x.2.1.1,false⟩
theorem z1b8_ (k:Nat) (pins:Nat→Value) (pinB:Nat→Nat):zd_ (z4_ ti [] (lk []) pins pinB) (zyz_ k) (rdO (z4_ ti [] (lk []) pins pinB) [.tmp 4] zz0_) ((zb_ (z2_ Tryz.f36)).getD 0 .skip) (fun σ kx=>zk4_.get σ fun x=>zph_ k k x kx):=by
 refine ⟨zk4_,[(0,zyy_)],fun n x kx=>zph_ k n x kx,k,by kernel_rfl,by kernel_rfl,fun x kx=>by kernel_rfl,?_,fun σ kx=>rfl⟩
 rintro n ⟨⟨⟨a0n0,⟨⟩⟩,k1,i5,⟨⟩⟩,⟨q_2,⟨⟩⟩,⟨⟩⟩ kx
 kernel_rfl
theorem z1b9_ (k:Nat):z18_ Tryz.prog ti 36 (zk5_ k):=by
 refine z45_ (tab:=[]) (l:=[]) z8_ z9_ mix (List.forall_mem_nil _) (List.forall_mem_nil _) ⟨by kernel_rfl,by kernel_rfl,by kernel_rfl,Tryz.f36,(z2_ Tryz.f36),[.tmp 4],(zyz_ k),by kernel_rfl,by kernel_rfl,by kernel_rfl,by kernel_rfl,Nat.le_of_ble_eq_true (by kernel_rfl),fun pins pinB=>⟨⟨by kernel_rfl,?_,?_⟩,?_⟩⟩
 ·refine zi_ (n:=1) (by kernel_rfl) fun i hi=>?_
  match i,hi with
  | 0,_=>exact ze_ (by kernel_rfl) (z1b8_ k pins pinB)
  | n+1,hi=>omega
 ·exact z7_ (by kernel_rfl)
 ·rintro ⟨⟨⟨a0n0,⟨⟩⟩,k1,⟨⟩⟩,⟨q_1,⟨⟩⟩,⟨⟩⟩
  kernel_rfl
def zbn_ (k:Nat):Nat→Int→Int→zT1→(Int→zT1→Option (((Int×Unit)×(zT1×Unit)×Unit)))→Option (((Int×Unit)×(zT1×Unit)×Unit))
 | 0,_,_,_,_=>none
 | n+1,k1,i5,q_2,e_0=>(if (decide (i5<(List.length q_2:Int)))=true then (if 0≤i5∧i5.toNat<List.length q_2 then (q_2[i5.toNat]?).bind fun y_3=>(zk3_ k i5.toNat k1 q_2).bind fun y_4=>zbn_ k n y_4.1.1 (z0_ (i5+1)) y_4.2.1.1 e_0 else none) else e_0 k1 q_2)
def zk6_ (k:Nat) (k1:Int) (q_1:List (List Int)):Option (((Int×Unit)×(zT1×Unit)×Unit)):=zbn_ k k k1 0 q_1 (fun k_5 q_6=>some ((k_5,()),(q_6,()),()))
def zk7_:Head:=⟨[(0,(.ref 1000000000 [])),(1,(.val (.int .i64))),(5,(.val (.int .i64)))],[(1000000000,25,(.sl 2 (.int .i64)),false)],[]⟩
def zz1_:Head:=⟨[(1,(.val (.int .i64)))],[(1000000000,25,(.sl 2 (.int .i64)),false)],[]⟩
def zpi_ (k:Nat) (n:Nat) (x:zk7_.T) (kx:Nat→St→Option (((Int×Unit)×(zT1×Unit)×Unit))):Option (((Int×Unit)×(zT1×Unit)×Unit)):=zbn_ k n x.1.2.1 x.1.2.2.1 x.2.1.1 (fun (k1:Int) (q_6:List (List Int))=>kx 0 (zz1_.fill ((k1,()),(q_6,()),())))
def zz2_ (k:Nat):Oracles (((Int×Unit)×(zT1×Unit)×Unit)):=⟨fun n=>bif Nat.beq n 2 then some (fun σ kx=>zk7_.get σ fun x=>zpi_ k k x kx) else none,fun _=>none⟩
def z1ba_:Head:=⟨[(0,(.ref 1000000000 [])),(1,(.val (.int .i64)))],[(1000000000,25,(.sl 2 (.int .i64)),false)],[]⟩
def zz3_:Head:=⟨[(0,(.val (.int .i64)))],[(1000000000,25,(.sl 2 (.int .i64)),false)],[]⟩
def zz4_ (k:Nat):OC:=⟨z1ba_,zz3_,fun x=>zk6_ k x.1.2.1 x.2.1.1,false⟩
theorem z1bb_ (k:Nat) (pins:Nat→Value) (pinB:Nat→Nat):zd_ (z4_ ti [] (lk [(17,36,zk5_ k)]) pins pinB) (zz2_ k) (rdO (z4_ ti [] (lk [(17,36,zk5_ k)]) pins pinB) [.tmp 4] zz3_) ((zb_ (z2_ Tryz.f69)).getD 0 .skip) (fun σ kx=>zk7_.get σ fun x=>zpi_ k k x kx):=by
 refine ⟨zk7_,[(0,zz1_)],fun n x kx=>zpi_ k n x kx,k,by kernel_rfl,by kernel_rfl,fun x kx=>by kernel_rfl,?_,fun σ kx=>rfl⟩
 rintro n ⟨⟨⟨⟩,k1,i5,⟨⟩⟩,⟨q_2,⟨⟩⟩,⟨⟩⟩ kx
 kernel_rfl
theorem z1bc_ (k:Nat):z18_ Tryz.prog ti 69 (zz4_ k):=by
 refine z45_ (tab:=[]) (l:=[(17,36,zk5_ k)]) z8_ z9_ mix (List.forall_mem_nil _) (List.forall_mem_cons.2 ⟨z1b9_ k,(List.forall_mem_nil _)⟩) ⟨by kernel_rfl,by kernel_rfl,by kernel_rfl,Tryz.f69,(z2_ Tryz.f69),[.tmp 4],(zz2_ k),by kernel_rfl,by kernel_rfl,by kernel_rfl,by kernel_rfl,Nat.le_of_ble_eq_true (by kernel_rfl),fun pins pinB=>⟨⟨by kernel_rfl,?_,?_⟩,?_⟩⟩
 ·refine zi_ (n:=1) (by kernel_rfl) fun i hi=>?_
  match i,hi with
  | 0,_=>exact ze_ (by kernel_rfl) (z1bb_ k pins pinB)
  | n+1,hi=>omega
 ·exact z7_ (by kernel_rfl)
 ·rintro ⟨⟨⟨⟩,k1,⟨⟩⟩,⟨q_1,⟨⟩⟩,⟨⟩⟩
  kernel_rfl
def zmp_ (k:Nat) (k1:Int) (q_1:List (List Int)):Option (((Int×Unit)×(zT1×Unit)×Unit)):=(zk6_ k k1 q_1).bind fun y_2=>some ((y_2.1.1,()),(y_2.2.1.1,()),())
def z1bd_:Head:=⟨[(0,(.st (.ref 1000000000 []))),(1,(.val (.int .i64)))],[(1000000000,25,(.sl 2 (.int .i64)),false)],[]⟩
def z1be_:Head:=⟨[(0,(.val (.int .i64)))],[(1000000000,25,(.sl 2 (.int .i64)),false)],[]⟩
def zup_ (k:Nat):OC:=⟨z1bd_,z1be_,fun x=>zmp_ k x.1.2.1 x.2.1.1,false⟩
theorem z16s_ (k:Nat):z18_ Tryz.prog ti 35 (zup_ k):=by
 refine z45_ (tab:=[]) (l:=[(8,69,zz4_ k)]) z8_ z9_ mix (List.forall_mem_nil _) (List.forall_mem_cons.2 ⟨z1bc_ k,(List.forall_mem_nil _)⟩) ⟨by kernel_rfl,by kernel_rfl,by kernel_rfl,Tryz.f35,(z2_ Tryz.f35),[.tmp 4],(LOn (((Int×Unit)×(zT1×Unit)×Unit))),by kernel_rfl,by kernel_rfl,by kernel_rfl,by kernel_rfl,Nat.le_of_ble_eq_true (by kernel_rfl),fun pins pinB=>⟨⟨by kernel_rfl,?_,?_⟩,?_⟩⟩
 ·exact zl_ (by kernel_rfl)
 ·exact z7_ (by kernel_rfl)
 ·rintro ⟨⟨⟨⟩,k1,⟨⟩⟩,⟨q_1,⟨⟩⟩,⟨⟩⟩
  kernel_rfl
def zbo_ (k:Nat):Nat→Int→Int→(List Int)→(Int→(List Int)→Option (((Int×Unit)×((List Int)×Unit)×Unit)))→Option (((Int×Unit)×((List Int)×Unit)×Unit))
 | 0,_,_,_,_=>none
 | n+1,k1,i5,q_2,e_0=>(if (decide (i5<(List.length q_2:Int)))=true then (if 0≤i5∧i5.toNat<List.length q_2 then (q_2[i5.toNat]?).bind fun y_3=>(q_2[i5.toNat]?).bind fun y_4=>zbo_ k n (z0_ (k1+1)) (z0_ (i5+1)) (q_2.set i5.toNat k1) e_0 else none) else e_0 k1 q_2)
def zg7_ (k:Nat) (k1:Int) (q_1:List Int):Option (((Int×Unit)×((List Int)×Unit)×Unit)):=zbo_ k k k1 0 q_1 (fun k_5 q_6=>some ((k_5,()),(q_6,()),()))
def zk8_:Head:=⟨[(0,(.ref 1000000000 [])),(1,(.val (.int .i64))),(5,(.val (.int .i64)))],[(1000000000,2,(.int .i64),false)],[]⟩
def zz5_:Head:=⟨[(1,(.val (.int .i64)))],[(1000000000,2,(.int .i64),false)],[]⟩
def zpj_ (k:Nat) (n:Nat) (x:zk8_.T) (kx:Nat→St→Option (((Int×Unit)×((List Int)×Unit)×Unit))):Option (((Int×Unit)×((List Int)×Unit)×Unit)):=zbo_ k n x.1.2.1 x.1.2.2.1 x.2.1.1 (fun (k1:Int) (q_5:List Int)=>kx 0 (zz5_.fill ((k1,()),(q_5,()),())))
def zz6_ (k:Nat):Oracles (((Int×Unit)×((List Int)×Unit)×Unit)):=⟨fun n=>bif Nat.beq n 2 then some (fun σ kx=>zk8_.get σ fun x=>zpj_ k k x kx) else none,fun _=>none⟩
def z1bf_:Head:=⟨[(0,(.ref 1000000000 [])),(1,(.val (.int .i64)))],[(1000000000,2,(.int .i64),false)],[]⟩
def zz7_:Head:=⟨[(0,(.val (.int .i64)))],[(1000000000,2,(.int .i64),false)],[]⟩
def zuq_ (k:Nat):OC:=⟨z1bf_,zz7_,fun x=>zg7_ k x.1.2.1 x.2.1.1,false⟩
theorem z1bg_ (k:Nat) (pins:Nat→Value) (pinB:Nat→Nat):zd_ (z4_ ti [] (lk []) pins pinB) (zz6_ k) (rdO (z4_ ti [] (lk []) pins pinB) [.tmp 4] zz7_) ((zb_ (z2_ Tryz.f36)).getD 0 .skip) (fun σ kx=>zk8_.get σ fun x=>zpj_ k k x kx):=by
 refine ⟨zk8_,[(0,zz5_)],fun n x kx=>zpj_ k n x kx,k,by kernel_rfl,by kernel_rfl,fun x kx=>by kernel_rfl,?_,fun σ kx=>rfl⟩
 rintro n ⟨⟨⟨⟩,k1,i5,⟨⟩⟩,⟨q_2,⟨⟩⟩,⟨⟩⟩ kx
 kernel_rfl
theorem z16t_ (k:Nat):z18_ Tryz.prog ti 36 (zuq_ k):=by
 refine z45_ (tab:=[]) (l:=[]) z8_ z9_ mix (List.forall_mem_nil _) (List.forall_mem_nil _) ⟨by kernel_rfl,by kernel_rfl,by kernel_rfl,Tryz.f36,(z2_ Tryz.f36),[.tmp 4],(zz6_ k),by kernel_rfl,by kernel_rfl,by kernel_rfl,by kernel_rfl,Nat.le_of_ble_eq_true (by kernel_rfl),fun pins pinB=>⟨⟨by kernel_rfl,?_,?_⟩,?_⟩⟩
 ·refine zi_ (n:=1) (by kernel_rfl) fun i hi=>?_
  match i,hi with
  | 0,_=>exact ze_ (by kernel_rfl) (z1bg_ k pins pinB)
  | n+1,hi=>omega
 ·exact z7_ (by kernel_rfl)
 ·rintro ⟨⟨⟨⟩,k1,⟨⟩⟩,⟨q_1,⟨⟩⟩,⟨⟩⟩
  kernel_rfl
end
end Go.Proofs.YthpamdpneanlpaaGreatDoor.Ev
