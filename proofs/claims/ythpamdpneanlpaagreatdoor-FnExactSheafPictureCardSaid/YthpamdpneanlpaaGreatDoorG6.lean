/- Functions of the program, as plain ones. No conditions. -/
import Derived.Test.YthpamdpneanlpaaGreatDoorG5
import Derived.KernelRfl
set_option linter.unusedVariables false
set_option maxRecDepth 100000
namespace Go.Proofs.YthpamdpneanlpaaGreatDoor.Ev
open Go.RowKit
noncomputable section
def z8b_ (k:Nat):Nat→Int→(List Int)→Int→Int→(Int→Option Int)→Option Int
 | 0,_,_,_,_,_=>none
 | n+1,zero3,x6,x7,x8,e_0=>(if (decide (x8<x7))=true then (if 0≤x8 then (x6[x8.toNat]?).bind fun y_1=>(if (!(decide (y_1=zero3)))=true then some y_1 else z8b_ k n zero3 x6 x7 (z0_ (x8+1)) e_0) else none) else e_0 zero3)
def znz_ (k:Nat) (vals0:List Int):Option Int:=z8b_ k k 0 vals0 (List.length vals0:Int) 0 (fun zero_2=>some zero_2)
def zi0_:Head:=⟨[(3,(.val (.int .i64))),(6,(.val (.sl 3 (.int .i64)))),(7,(.val (.int .i64))),(8,(.val (.int .i64)))],[],[]⟩
def zwr_:Head:=⟨[(3,(.val (.int .i64)))],[],[]⟩
def zo0_ (k:Nat) (n:Nat) (x:zi0_.T) (kx:Nat→St→Option Int):Option Int:=z8b_ k n x.1.1 x.1.2.1 x.1.2.2.1 x.1.2.2.2.1 (fun (zero3:Int)=>kx 0 (zwr_.fill ((zero3,()),(),())))
def zws_ (k:Nat):Oracles Int:=⟨fun n=>bif Nat.beq n 3 then some (fun σ kx=>zi0_.get σ fun x=>zo0_ k k x kx) else none,fun _=>none⟩
def zwt_ (k:Nat):FE:=⟨(.sl 3 (.int .i64)),1,(.int .i64),fun x=>znz_ k x⟩
theorem z18z_ (k:Nat):zd_ (z4_ ti [] (lk []) z5_ z6_) (zws_ k) (rdC (z4_ ti [] (lk []) z5_ z6_) [.tmp 2] (.int .i64)) ((zb_ (z2_ Tryz.f112)).getD 0 .skip) (fun σ kx=>zi0_.get σ fun x=>zo0_ k k x kx):=by
 refine ⟨zi0_,[(0,zwr_)],fun n x kx=>zo0_ k n x kx,k,by kernel_rfl,by kernel_rfl,fun x kx=>by kernel_rfl,?_,fun σ kx=>rfl⟩
 rintro n ⟨⟨zero3,x6,x7,x8,⟨⟩⟩,⟨⟩,⟨⟩⟩ kx
 kernel_rfl
theorem z190_ (k:Nat):FnOK Tryz.prog 112 (zwt_ k):=by
 refine za_ (tab:=[]) (l:=[]) z8_ z9_ mix (List.forall_mem_nil _) (List.forall_mem_nil _) ⟨⟨Tryz.f112,(z2_ Tryz.f112),[.tmp 2],(zws_ k),by kernel_rfl,by kernel_rfl,by kernel_rfl,by kernel_rfl,rfl,by decide,⟨by kernel_rfl,?_,?_⟩,?_⟩⟩
 ·refine zi_ (n:=1) (by kernel_rfl) fun i hi=>?_
  match i,hi with
  | 0,_=>exact ze_ (by kernel_rfl) (z18z_ k)
  | n+1,hi=>omega
 ·exact z7_ (by kernel_rfl)
 ·rintro vals0
  kernel_rfl
def z8c_ (k:Nat) (a0:List Int) (b1:List Int):Option Int:=(zhu_ (List.length a0:Int) (List.length b1:Int)).bind fun r_1=>(zhy_ k a0 b1).bind fun r_2=>(znz_ k [r_1,r_2]).bind fun r_3=>some r_3
def z8d_ (k:Nat):FE:=⟨(.pr (.sl 2 (.int .i64)) (.sl 2 (.int .i64))),1,(.int .i64),fun x=>z8c_ k x.1 x.2⟩
theorem zwu_ (k:Nat):FnOK Tryz.prog 81 (z8d_ k):=by
 refine za_ (tab:=[(113,zwm_),(114,zwq_ k),(112,zwt_ k)]) (l:=[]) z8_ z9_ mix (List.forall_mem_cons.2 ⟨z18u_,(List.forall_mem_cons.2 ⟨z18y_ k,(List.forall_mem_cons.2 ⟨z190_ k,(List.forall_mem_nil _)⟩)⟩)⟩) (List.forall_mem_nil _) ⟨⟨Tryz.f81,(z2_ Tryz.f81),[.tmp 4],(LOn Int),by kernel_rfl,by kernel_rfl,by kernel_rfl,by kernel_rfl,rfl,by decide,⟨by kernel_rfl,?_,?_⟩,?_⟩⟩
 ·exact zl_ (by kernel_rfl)
 ·exact z7_ (by kernel_rfl)
 ·rintro ⟨a0,b1⟩
  kernel_rfl
def zwv_ (n1:Int) (q_1:List Int):Option ((Unit×Unit)×(List Int×Unit)×Unit):=if 0≤n1∧(List.length q_1+(n1).toNat)*8≤LIM then some (((),()),(q_1,()),()) else none
def oc_slices_Grow_int64_s:OC:=zfc_ 2 (.int .i64) 8
theorem z191_:z18_ Tryz.prog ti 123 oc_slices_Grow_int64_s :=
 z15l_ (ρ:=(⟨fun n=>bif Nat.beq n 4 then 123 else n,fun n=>bif Nat.beq n 22 then 25 else bif Nat.beq n 25 then 2 else n,fun n=>n⟩:Go.Shelf.Ren)) z8_ (e:=2) (t:=(.int .i64)) (bytes:=8) { mixed:=mix,f4:=⟨Tryz.f123.name,by kernel_rfl,(Tryz.func123).trans (congrArg some (by kernel_rfl))⟩,t0:=Tryz.underlying0,a0:=Tryz.isAgg0,z0:=Tryz.sizeOf0,v0:=Tryz.zeroValue0,t3:=Tryz.underlying3,a3:=Tryz.isAgg3,z3:=Tryz.sizeOf3,v3:=Tryz.zeroValue3,t4:=Tryz.underlying4,a4:=Tryz.isAgg4,z4:=Tryz.sizeOf4,v4:=Tryz.zeroValue4,t9:=Tryz.underlying9,a9:=Tryz.isAgg9,z9:=Tryz.sizeOf9,v9:=Tryz.zeroValue9,t20:=Tryz.underlying20,a20:=Tryz.isAgg20,z20:=Tryz.sizeOf20,v20:=Tryz.zeroValue20,t22:=Tryz.underlying25,a22:=Tryz.isAgg25,z22:=Tryz.sizeOf25,v22:=Tryz.zeroValue25 } rfl (i:=(ti[2]?).getD ⟨.oth,.un,0⟩) (by kernel_rfl) (by kernel_rfl) (by kernel_rfl) (by kernel_rfl) (by kernel_rfl) (by kernel_rfl)
def zi1_ (k:Nat):Nat→zT1→Int→zT1→Int→Int→(zT1→Int→Option (List Int))→Option (List Int)
 | 0,_,_,_,_,_,_=>none
 | n+1,slices0,size3,x9,x10,x11,e_0=>(if (decide (x11<x10))=true then (if 0≤x11 then (x9[x11.toNat]?).bind fun y_1=>(if (decide ((z0_ (size3+(List.length y_1:Int)))<0))=true then none else zi1_ k n slices0 (z0_ (size3+(List.length y_1:Int))) x9 x10 (z0_ (x11+1)) e_0) else none) else e_0 slices0 size3)
def zi2_ (k:Nat):Nat→zT1→Int→Int→(List Int)→((List Int)→Option (List Int))→Option (List Int)
 | 0,_,_,_,_,_=>none
 | n+1,x25,x26,x27,q_5,e_2=>(if (decide (x27<x26))=true then (if 0≤x27 then (x25[x27.toNat]?).bind fun y_6=>(if (q_5.length+y_6.length)*8≤LIM then zi2_ k n x25 x26 (z0_ (x27+1)) (q_5++y_6) e_2 else none) else none) else e_2 q_5)
def zi3_ (k:Nat) (slices0:List (List Int)):Option (List Int):=zi1_ k k slices0 0 slices0 (List.length slices0:Int) 0 (fun slices_2 size_3=>(zwv_ size_3 []).bind fun y_4=>zi2_ k k slices_2 (List.length slices_2:Int) 0 y_4.2.1.1 (fun q_7=>some q_7))
def zi4_:Head:=⟨[(0,(.val (.sl 25 (.sl 2 (.int .i64))))),(3,(.val (.int .i64))),(9,(.val (.sl 25 (.sl 2 (.int .i64))))),(10,(.val (.int .i64))),(11,(.val (.int .i64)))],[],[]⟩
def zww_:Head:=⟨[(0,(.val (.sl 25 (.sl 2 (.int .i64))))),(3,(.val (.int .i64)))],[],[]⟩
def zo1_ (k:Nat) (n:Nat) (x:zi4_.T) (kx:Nat→St→Option (List Int)):Option (List Int):=zi1_ k n x.1.1 x.1.2.1 x.1.2.2.1 x.1.2.2.2.1 x.1.2.2.2.2.1 (fun (slices0:List (List Int)) (size3:Int)=>kx 0 (zww_.fill ((slices0,size3,()),(),())))
def zi5_:Head:=⟨[(6,(.ref 64000000 [])),(25,(.val (.sl 25 (.sl 2 (.int .i64))))),(26,(.val (.int .i64))),(27,(.val (.int .i64)))],[(64000000,2,(.int .i64),false)],[]⟩
def zwx_:Head:=⟨[(6,(.ref 64000000 []))],[(64000000,2,(.int .i64),false)],[]⟩
def zo2_ (k:Nat) (n:Nat) (x:zi5_.T) (kx:Nat→St→Option (List Int)):Option (List Int):=zi2_ k n x.1.2.1 x.1.2.2.1 x.1.2.2.2.1 x.2.1.1 (fun (q_7:List Int)=>kx 2 (zwx_.fill (((),()),(q_7,()),())))
def zo3_ (k:Nat):Oracles (List Int):=⟨fun n=>bif Nat.beq n 3 then some (fun σ kx=>zi4_.get σ fun x=>zo1_ k k x kx) else bif Nat.beq n 11 then some (fun σ kx=>zi5_.get σ fun x=>zo2_ k k x kx) else none,fun _=>none⟩
def zi6_ (k:Nat):FE:=⟨(.sl 25 (.sl 2 (.int .i64))),1,(.sl 2 (.int .i64)),fun x=>zi3_ k x⟩
theorem z192_ (k:Nat):zd_ (z4_ ti [] (lk [(24,123,oc_slices_Grow_int64_s)]) z5_ z6_) (zo3_ k) (rdC (z4_ ti [] (lk [(24,123,oc_slices_Grow_int64_s)]) z5_ z6_) [.tmp 2] (.sl 2 (.int .i64))) ((zb_ (z2_ Tryz.f91)).getD 0 .skip) (fun σ kx=>zi4_.get σ fun x=>zo1_ k k x kx):=by
 refine ⟨zi4_,[(0,zww_)],fun n x kx=>zo1_ k n x kx,k,by kernel_rfl,by kernel_rfl,fun x kx=>by kernel_rfl,?_,fun σ kx=>rfl⟩
 rintro n ⟨⟨slices0,size3,x9,x10,x11,⟨⟩⟩,⟨⟩,⟨⟩⟩ kx
 kernel_rfl
theorem z193_ (k:Nat):zd_ (z4_ ti [] (lk [(24,123,oc_slices_Grow_int64_s)]) z5_ z6_) (zo3_ k) (rdC (z4_ ti [] (lk [(24,123,oc_slices_Grow_int64_s)]) z5_ z6_) [.tmp 2] (.sl 2 (.int .i64))) ((zb_ (z2_ Tryz.f91)).getD 1 .skip) (fun σ kx=>zi5_.get σ fun x=>zo2_ k k x kx):=by
 refine ⟨zi5_,[(2,zwx_)],fun n x kx=>zo2_ k n x kx,k,by kernel_rfl,by kernel_rfl,fun x kx=>by kernel_rfl,?_,fun σ kx=>rfl⟩
 rintro n ⟨⟨⟨⟩,x25,x26,x27,⟨⟩⟩,⟨q_5,⟨⟩⟩,⟨⟩⟩ kx
 kernel_rfl
theorem z194_ (k:Nat):FnOK Tryz.prog 91 (zi6_ k):=by
 refine za_ (tab:=[]) (l:=[(24,123,oc_slices_Grow_int64_s)]) z8_ z9_ mix (List.forall_mem_nil _) (List.forall_mem_cons.2 ⟨z191_,(List.forall_mem_nil _)⟩) ⟨⟨Tryz.f91,(z2_ Tryz.f91),[.tmp 2],(zo3_ k),by kernel_rfl,by kernel_rfl,by kernel_rfl,by kernel_rfl,rfl,by decide,⟨by kernel_rfl,?_,?_⟩,?_⟩⟩
 ·refine zi_ (n:=2) (by kernel_rfl) fun i hi=>?_
  match i,hi with
  | 0,_=>exact ze_ (by kernel_rfl) (z192_ k)
  | 1,_=>exact ze_ (by kernel_rfl) (z193_ k)
  | n+2,hi=>omega
 ·exact z7_ (by kernel_rfl)
 ·rintro slices0
  kernel_rfl
def z8e_ (k:Nat):Nat→(List Int)→Int→Int→zT1→(zT1→Option zT1)→Option zT1
 | 0,_,_,_,_,_=>none
 | n+1,s0,x6,x7,q_1,e_0=>(if (decide (x7<x6))=true then (if (decide (1<(List.length s0:Int)))=true then (if 0≤(0:Int)∧(0:Int)≤x7∧x7≤s0.length then (if 0≤(z0_ (x7+1))∧(z0_ (x7+1))≤(s0.length:Int)∧(s0.length:Int)≤s0.length then (zi3_ k [(s0.take x7.toNat),((s0.drop ((z0_ (x7+1)).toNat)).take (s0.length-(z0_ (x7+1)).toNat))]).bind fun r_2=>(if (q_1.length+[r_2].length)*24≤LIM then z8e_ k n s0 x6 (z0_ (x7+1)) (q_1++[r_2]) e_0 else none) else none) else none) else z8e_ k n s0 x6 (z0_ (x7+1)) q_1 e_0) else e_0 q_1)
def zav_ (k:Nat) (s0:List Int):Option zT1:=z8e_ k k s0 (List.length s0:Int) 0 [] (fun q_3=>some q_3)
def zi7_:Head:=⟨[(0,(.val (.sl 2 (.int .i64)))),(3,(.ref 64000000 [])),(6,(.val (.int .i64))),(7,(.val (.int .i64)))],[(64000000,25,(.sl 2 (.int .i64)),false)],[]⟩
def zwy_:Head:=⟨[(3,(.ref 64000000 []))],[(64000000,25,(.sl 2 (.int .i64)),false)],[]⟩
def zo4_ (k:Nat) (n:Nat) (x:zi7_.T) (kx:Nat→St→Option zT1):Option zT1:=z8e_ k n x.1.1 x.1.2.2.1 x.1.2.2.2.1 x.2.1.1 (fun (q_3:List (List Int))=>kx 0 (zwy_.fill (((),()),(q_3,()),())))
def zwz_ (k:Nat):Oracles zT1:=⟨fun n=>bif Nat.beq n 3 then some (fun σ kx=>zi7_.get σ fun x=>zo4_ k k x kx) else none,fun _=>none⟩
def z8f_ (k:Nat):FE:=⟨(.sl 2 (.int .i64)),1,(.sl 25 (.sl 2 (.int .i64))),fun x=>zav_ k x⟩
theorem z195_ (k:Nat):zd_ (z4_ ti [(91,zi6_ k)] (lk []) z5_ z6_) (zwz_ k) (rdC (z4_ ti [(91,zi6_ k)] (lk []) z5_ z6_) [.tmp 2] (.sl 25 (.sl 2 (.int .i64)))) ((zb_ (z2_ Tryz.f60)).getD 0 .skip) (fun σ kx=>zi7_.get σ fun x=>zo4_ k k x kx):=by
 refine ⟨zi7_,[(0,zwy_)],fun n x kx=>zo4_ k n x kx,k,by kernel_rfl,by kernel_rfl,fun x kx=>by kernel_rfl,?_,fun σ kx=>rfl⟩
 rintro n ⟨⟨s0,⟨⟩,x6,x7,⟨⟩⟩,⟨q_1,⟨⟩⟩,⟨⟩⟩ kx
 kernel_rfl
theorem zx0_ (k:Nat):FnOK Tryz.prog 60 (z8f_ k):=by
 refine za_ (tab:=[(91,zi6_ k)]) (l:=[]) z8_ z9_ mix (List.forall_mem_cons.2 ⟨z194_ k,(List.forall_mem_nil _)⟩) (List.forall_mem_nil _) ⟨⟨Tryz.f60,(z2_ Tryz.f60),[.tmp 2],(zwz_ k),by kernel_rfl,by kernel_rfl,by kernel_rfl,by kernel_rfl,rfl,by decide,⟨by kernel_rfl,?_,?_⟩,?_⟩⟩
 ·refine zi_ (n:=1) (by kernel_rfl) fun i hi=>?_
  match i,hi with
  | 0,_=>exact ze_ (by kernel_rfl) (z195_ k)
  | n+1,hi=>omega
 ·exact z7_ (by kernel_rfl)
 ·rintro s0
  kernel_rfl
def z6t_ (k:Nat):Nat→zT1→(List Int)→Unit→Int→Int→Int→(zT1→(List Int)→Unit→Int→Int→Option (Int×Bool))→Option (Int×Bool)
 | 0,_,_,_,_,_,_,_=>none
 | n+1,x0,target1,cmp2,n8,i9,j10,e_0=>(if (decide (i9<j10))=true then (if 0≤(z0_ ((Int.fdiv (z7v_ ((z0_ (i9+j10)))) (2 ^ 1)))) then (x0[(z0_ ((Int.fdiv (z7v_ ((z0_ (i9+j10)))) (2 ^ 1)))).toNat]?).bind fun y_1=>(z8c_ k y_1 target1).bind fun r_2=>(if (decide (r_2<0))=true then z6t_ k n x0 target1 cmp2 n8 (z0_ ((z0_ ((Int.fdiv (z7v_ ((z0_ (i9+j10)))) (2 ^ 1))))+1)) j10 e_0 else z6t_ k n x0 target1 cmp2 n8 i9 (z0_ ((Int.fdiv (z7v_ ((z0_ (i9+j10)))) (2 ^ 1)))) e_0) else none) else e_0 x0 target1 cmp2 n8 i9)
def zo5_ (k:Nat) (x0:List (List Int)) (target1:List Int) (cmp2:Unit):Option (Int×Bool):=z6t_ k k x0 target1 cmp2 (List.length x0:Int) 0 (List.length x0:Int) (fun x_3 target_4 cmp_5 n_6 i_7=>(if (decide (i_7<n_6))=true then (if 0≤i_7 then (x_3[i_7.toNat]?).bind fun y_8=>(z8c_ k y_8 target_4).bind fun r_9=>some (i_7,(decide (r_9=0))) else none) else some (i_7,false)))
def zi8_:Head:=⟨[(0,(.val (.sl 25 (.sl 2 (.int .i64))))),(1,(.val (.sl 2 (.int .i64)))),(2,(.val (.fn 81 .un))),(8,(.val (.int .i64))),(9,(.val (.int .i64))),(10,(.val (.int .i64)))],[],[]⟩
def zx1_:Head:=⟨[(0,(.val (.sl 25 (.sl 2 (.int .i64))))),(1,(.val (.sl 2 (.int .i64)))),(2,(.val (.fn 81 .un))),(8,(.val (.int .i64))),(9,(.val (.int .i64)))],[],[]⟩
def zo6_ (k:Nat) (n:Nat) (x:zi8_.T) (kx:Nat→St→Option (Int×Bool)):Option (Int×Bool):=z6t_ k n x.1.1 x.1.2.1 x.1.2.2.1 x.1.2.2.2.1 x.1.2.2.2.2.1 x.1.2.2.2.2.2.1 (fun (x0:List (List Int)) (target1:List Int) (cmp2:Unit) (n8:Int) (i9:Int)=>kx 0 (zx1_.fill ((x0,target1,cmp2,n8,i9,()),(),())))
def zx2_ (k:Nat):Oracles (Int×Bool):=⟨fun n=>bif Nat.beq n 3 then some (fun σ kx=>zi8_.get σ fun x=>zo6_ k k x kx) else none,fun _=>none⟩
def zx3_ (k:Nat):FE:=⟨(.pr (.sl 25 (.sl 2 (.int .i64))) (.pr (.sl 2 (.int .i64)) (.fn 81 .un))),2,(.pr (.int .i64) .bool),fun x=>zo5_ k x.1 x.2.1 x.2.2⟩
theorem z196_ (k:Nat):zd_ (z4_ ti [(81,z8d_ k)] (lk []) z5_ z6_) (zx2_ k) (rdC (z4_ ti [(81,z8d_ k)] (lk []) z5_ z6_) [.tmp 6,.tmp 7] (.pr (.int .i64) .bool)) ((zb_ (z2_ Tryz.f92)).getD 0 .skip) (fun σ kx=>zi8_.get σ fun x=>zo6_ k k x kx):=by
 refine ⟨zi8_,[(0,zx1_)],fun n x kx=>zo6_ k n x kx,k,by kernel_rfl,by kernel_rfl,fun x kx=>by kernel_rfl,?_,fun σ kx=>rfl⟩
 rintro n ⟨⟨x0,target1,cmp2,n8,i9,j10,⟨⟩⟩,⟨⟩,⟨⟩⟩ kx
 kernel_rfl
theorem z197_ (k:Nat):FnOK Tryz.prog 92 (zx3_ k):=by
 refine za_ (tab:=[(81,z8d_ k)]) (l:=[]) z8_ z9_ mix (List.forall_mem_cons.2 ⟨zwu_ k,(List.forall_mem_nil _)⟩) (List.forall_mem_nil _) ⟨⟨Tryz.f92,(z2_ Tryz.f92),[.tmp 6,.tmp 7],(zx2_ k),by kernel_rfl,by kernel_rfl,by kernel_rfl,by kernel_rfl,rfl,by decide,⟨by kernel_rfl,?_,?_⟩,?_⟩⟩
 ·refine zi_ (n:=1) (by kernel_rfl) fun i hi=>?_
  match i,hi with
  | 0,_=>exact ze_ (by kernel_rfl) (z196_ k)
  | n+1,hi=>omega
 ·exact z7_ (by kernel_rfl)
 ·rintro ⟨x0,target1,cmp2⟩
  kernel_rfl
def zd6_ (k:Nat) (c0:List (List Int)) (s1:List Int):Option Int:=(zo5_ k c0 s1 ()).bind fun r_1=>(if (!r_1.2)=true then some (-1) else some r_1.1)
def zd7_ (k:Nat):FE:=⟨(.pr (.st (.sl 25 (.sl 2 (.int .i64)))) (.sl 2 (.int .i64))),1,(.int .i64),fun x=>zd6_ k x.1 x.2⟩
theorem zx4_ (k:Nat):FnOK Tryz.prog 61 (zd7_ k):=by
 refine za_ (tab:=[(92,zx3_ k)]) (l:=[]) z8_ z9_ mix (List.forall_mem_cons.2 ⟨z197_ k,(List.forall_mem_nil _)⟩) (List.forall_mem_nil _) ⟨⟨Tryz.f61,(z2_ Tryz.f61),[.tmp 4],(LOn Int),by kernel_rfl,by kernel_rfl,by kernel_rfl,by kernel_rfl,rfl,by decide,⟨by kernel_rfl,?_,?_⟩,?_⟩⟩
 ·exact zl_ (by kernel_rfl)
 ·exact z7_ (by kernel_rfl)
 ·rintro ⟨c0,s1⟩
  kernel_rfl
def zo7_ (k:Nat) (f0:List Int) (x1:List (List Int)) (x2:Int):Option Bool:=(if 0≤(0:Int)∧(0:Int)≤x2∧x2≤x1.length then (zd6_ k (x1.take x2.toNat) f0).bind fun r_1=>some (decide (r_1<0)) else none)
def zi9_ (k:Nat):FE:=⟨(.pr (.sl 2 (.int .i64)) (.pr (.ptr (.st (.sl 25 (.sl 2 (.int .i64))))) (.ptr (.int .i64)))),1,.bool,fun x=>zo7_ k x.1 x.2.1 x.2.2⟩
theorem z198_ (k:Nat):FnOK Tryz.prog 83 (zi9_ k):=by
 refine za_ (tab:=[(61,zd7_ k)]) (l:=[]) z8_ z9_ mix (List.forall_mem_cons.2 ⟨zx4_ k,(List.forall_mem_nil _)⟩) (List.forall_mem_nil _) ⟨⟨Tryz.f83,(z2_ Tryz.f83),[.tmp 4],(LOn Bool),by kernel_rfl,by kernel_rfl,by kernel_rfl,by kernel_rfl,rfl,by decide,⟨by kernel_rfl,?_,?_⟩,?_⟩⟩
 ·exact zl_ (by kernel_rfl)
 ·exact z7_ (by kernel_rfl)
 ·rintro ⟨f0,x1,x2⟩
  kernel_rfl
def zaw_ (k:Nat):Nat→zT1→(List (List Int)×Int)→Int→Int→(Option Int)→Option Int
 | 0,_,_,_,_,_=>none
 | n+1,s0,f1,x7,x8,e_0=>(if (decide (x8<x7))=true then (if 0≤x8 then (s0[x8.toNat]?).bind fun y_1=>(zo7_ k y_1 f1.1 f1.2).bind fun r_2=>(if r_2=true then some x8 else zaw_ k n s0 f1 x7 (z0_ (x8+1)) e_0) else none) else e_0)
def zo8_ (k:Nat) (s0:List (List Int)) (f1:List (List Int)×Int):Option Int:=zaw_ k k s0 f1 (List.length s0:Int) 0 (some (-1))
def zia_:Head:=⟨[(0,(.val (.sl 25 (.sl 2 (.int .i64))))),(1,(.val (.fn 83 (.pr (.ptr (.st (.sl 25 (.sl 2 (.int .i64))))) (.ptr (.int .i64)))))),(7,(.val (.int .i64))),(8,(.val (.int .i64)))],[],[]⟩
def zx5_:Head:=⟨[],[],[]⟩
def zo9_ (k:Nat) (n:Nat) (x:zia_.T) (kx:Nat→St→Option Int):Option Int:=zaw_ k n x.1.1 x.1.2.1 x.1.2.2.1 x.1.2.2.2.1 (kx 0 (zx5_.fill ((),(),())))
def zx6_ (k:Nat):Oracles Int:=⟨fun n=>bif Nat.beq n 2 then some (fun σ kx=>zia_.get σ fun x=>zo9_ k k x kx) else none,fun _=>none⟩
def zx7_ (k:Nat):FE:=⟨(.pr (.sl 25 (.sl 2 (.int .i64))) (.fn 83 (.pr (.ptr (.st (.sl 25 (.sl 2 (.int .i64))))) (.ptr (.int .i64))))),1,(.int .i64),fun x=>zo8_ k x.1 x.2⟩
theorem z199_ (k:Nat):zd_ (z4_ ti [(83,zi9_ k)] (lk []) z5_ z6_) (zx6_ k) (rdC (z4_ ti [(83,zi9_ k)] (lk []) z5_ z6_) [.tmp 4] (.int .i64)) ((zb_ (z2_ Tryz.f93)).getD 0 .skip) (fun σ kx=>zia_.get σ fun x=>zo9_ k k x kx):=by
 refine ⟨zia_,[(0,zx5_)],fun n x kx=>zo9_ k n x kx,k,by kernel_rfl,by kernel_rfl,fun x kx=>by kernel_rfl,?_,fun σ kx=>rfl⟩
 rintro n ⟨⟨s0,f1,x7,x8,⟨⟩⟩,⟨⟩,⟨⟩⟩ kx
 kernel_rfl
theorem z19a_ (k:Nat):FnOK Tryz.prog 93 (zx7_ k):=by
 refine za_ (tab:=[(83,zi9_ k)]) (l:=[]) z8_ z9_ mix (List.forall_mem_cons.2 ⟨z198_ k,(List.forall_mem_nil _)⟩) (List.forall_mem_nil _) ⟨⟨Tryz.f93,(z2_ Tryz.f93),[.tmp 4],(zx6_ k),by kernel_rfl,by kernel_rfl,by kernel_rfl,by kernel_rfl,rfl,by decide,⟨by kernel_rfl,?_,?_⟩,?_⟩⟩
 ·refine zi_ (n:=1) (by kernel_rfl) fun i hi=>?_
  match i,hi with
  | 0,_=>exact ze_ (by kernel_rfl) (z199_ k)
  | n+1,hi=>omega
 ·exact z7_ (by kernel_rfl)
 ·rintro ⟨s0,f1⟩
  kernel_rfl
def zd8_ (k:Nat) (s0:List (List Int)) (f1:List (List Int)×Int):Option Bool:=(zo8_ k s0 f1).bind fun r_1=>some (decide (0≤r_1))
def zib_ (k:Nat):FE:=⟨(.pr (.sl 25 (.sl 2 (.int .i64))) (.fn 83 (.pr (.ptr (.st (.sl 25 (.sl 2 (.int .i64))))) (.ptr (.int .i64))))),1,.bool,fun x=>zd8_ k x.1 x.2⟩
theorem z19b_ (k:Nat):FnOK Tryz.prog 82 (zib_ k):=by
 refine za_ (tab:=[(93,zx7_ k)]) (l:=[]) z8_ z9_ mix (List.forall_mem_cons.2 ⟨z19a_ k,(List.forall_mem_nil _)⟩) (List.forall_mem_nil _) ⟨⟨Tryz.f82,(z2_ Tryz.f82),[.tmp 4],(LOn Bool),by kernel_rfl,by kernel_rfl,by kernel_rfl,by kernel_rfl,rfl,by decide,⟨by kernel_rfl,?_,?_⟩,?_⟩⟩
 ·exact zl_ (by kernel_rfl)
 ·exact z7_ (by kernel_rfl)
 ·rintro ⟨s0,f1⟩
  kernel_rfl
def z8g_ (k:Nat):Nat→zT1→Int→Int→zT1→(zT1→Option Bool)→Option Bool
 | 0,_,_,_,_,_=>none
 | n+1,x6,x7,x8,v_1,e_0=>(if (decide (x8<x7))=true then (if 0≤x8 then (x6[x8.toNat]?).bind fun y_1=>(zhr_ k y_1).bind fun r_2=>(if (!r_2)=true then some false else (if (decide (0<x8))=true then (if 0≤(z0_ (x8-1)) then (v_1[(z0_ (x8-1)).toNat]?).bind fun y_3=>(z8c_ k y_3 y_1).bind fun r_4=>(if (decide (0≤r_4))=true then some false else (zav_ k y_1).bind fun r_5=>(zd8_ k r_5 (v_1,x8)).bind fun r_6=>(if r_6=true then some false else z8g_ k n x6 x7 (z0_ (x8+1)) v_1 e_0)) else none) else (zav_ k y_1).bind fun r_7=>(zd8_ k r_7 (v_1,x8)).bind fun r_8=>(if r_8=true then some false else z8g_ k n x6 x7 (z0_ (x8+1)) v_1 e_0))) else none) else e_0 v_1)
def zic_ (k:Nat) (c0:List (List Int)):Option Bool:=z8g_ k k c0 (List.length c0:Int) 0 c0 (fun v_9=>some (decide ((List.length v_9:Int)≤48)))
def zid_:Head:=⟨[(1,(.bp 1 [] 0)),(6,(.val (.sl 25 (.sl 2 (.int .i64))))),(7,(.val (.int .i64))),(8,(.val (.int .i64)))],[],[(1,33,(.val (.st (.sl 25 (.sl 2 (.int .i64))))))]⟩
def zx8_:Head:=⟨[(1,(.bp 1 [] 0))],[],[(1,33,(.val (.st (.sl 25 (.sl 2 (.int .i64))))))]⟩
def zoa_ (k:Nat) (n:Nat) (x:zid_.T) (kx:Nat→St→Option Bool):Option Bool:=z8g_ k n x.1.2.1 x.1.2.2.1 x.1.2.2.2.1 x.2.2.1 (fun (v_1:List (List Int))=>kx 0 (zx8_.fill (((),()),(),(v_1,()))))
def zx9_ (k:Nat):Oracles Bool:=⟨fun n=>bif Nat.beq n 2 then some (fun σ kx=>zid_.get σ fun x=>zoa_ k k x kx) else none,fun _=>none⟩
def zie_ (k:Nat):FE:=⟨(.st (.sl 25 (.sl 2 (.int .i64)))),1,.bool,fun x=>zic_ k x⟩
theorem z19c_ (k:Nat):zd_ (z4_ ti [(80,zhs_ k),(81,z8d_ k),(60,z8f_ k),(82,zib_ k)] (lk []) z5_ z6_) (zx9_ k) (rdC (z4_ ti [(80,zhs_ k),(81,z8d_ k),(60,z8f_ k),(82,zib_ k)] (lk []) z5_ z6_) [.tmp 2] .bool) ((zb_ (z2_ Tryz.f54)).getD 0 .skip) (fun σ kx=>zid_.get σ fun x=>zoa_ k k x kx):=by
 refine ⟨zid_,[(0,zx8_)],fun n x kx=>zoa_ k n x kx,k,by kernel_rfl,by kernel_rfl,fun x kx=>by kernel_rfl,?_,fun σ kx=>rfl⟩
 rintro n ⟨⟨⟨⟩,x6,x7,x8,⟨⟩⟩,⟨⟩,⟨v_1,⟨⟩⟩⟩ kx
 kernel_rfl
theorem z19d_ (k:Nat):FnOK Tryz.prog 54 (zie_ k):=by
 refine za_ (tab:=[(80,zhs_ k),(81,z8d_ k),(60,z8f_ k),(82,zib_ k)]) (l:=[]) z8_ z9_ mix (List.forall_mem_cons.2 ⟨z18s_ k,(List.forall_mem_cons.2 ⟨zwu_ k,(List.forall_mem_cons.2 ⟨zx0_ k,(List.forall_mem_cons.2 ⟨z19b_ k,(List.forall_mem_nil _)⟩)⟩)⟩)⟩) (List.forall_mem_nil _) ⟨⟨Tryz.f54,(z2_ Tryz.f54),[.tmp 2],(zx9_ k),by kernel_rfl,by kernel_rfl,by kernel_rfl,by kernel_rfl,rfl,by decide,⟨by kernel_rfl,?_,?_⟩,?_⟩⟩
 ·refine zi_ (n:=1) (by kernel_rfl) fun i hi=>?_
  match i,hi with
  | 0,_=>exact ze_ (by kernel_rfl) (z19c_ k)
  | n+1,hi=>omega
 ·exact z7_ (by kernel_rfl)
 ·rintro c0
  kernel_rfl
def z5i_ (k:Nat):Nat→Int→Int→(Option Bool)→Option Bool
 | 0,_,_,_=>none
 | n+1,p0,d3,e_0=>(if (decide ((z0_ (d3*d3))≤p0))=true then (if d3=0 then none else (if (decide ((Int.tmod p0 d3)=0))=true then some false else z5i_ k n p0 (z0_ (d3+1)) e_0)) else e_0)
def zax_ (k:Nat) (p0:Int):Option Bool:=(z6r_ p0 2 251).bind fun r_1=>(if (!r_1)=true then some false else z5i_ k k p0 2 (some true))
def zif_:Head:=⟨[(0,(.val (.int .i64))),(3,(.val (.int .i64)))],[],[]⟩
def zxa_:Head:=⟨[],[],[]⟩
def zob_ (k:Nat) (n:Nat) (x:zif_.T) (kx:Nat→St→Option Bool):Option Bool:=z5i_ k n x.1.1 x.1.2.1 (kx 0 (zxa_.fill ((),(),())))
def zxb_ (k:Nat):Oracles Bool:=⟨fun n=>bif Nat.beq n 4 then some (fun σ kx=>zif_.get σ fun x=>zob_ k k x kx) else none,fun _=>none⟩
def zd9_ (k:Nat):FE:=⟨(.int .i64),1,.bool,fun x=>zax_ k x⟩
theorem z19e_ (k:Nat):zd_ (z4_ ti [(84,z6s_)] (lk []) z5_ z6_) (zxb_ k) (rdC (z4_ ti [(84,z6s_)] (lk []) z5_ z6_) [.tmp 2] .bool) ((zb_ (z2_ Tryz.f55)).getD 0 .skip) (fun σ kx=>zif_.get σ fun x=>zob_ k k x kx):=by
 refine ⟨zif_,[(0,zxa_)],fun n x kx=>zob_ k n x kx,k,by kernel_rfl,by kernel_rfl,fun x kx=>by kernel_rfl,?_,fun σ kx=>rfl⟩
 rintro n ⟨⟨p0,d3,⟨⟩⟩,⟨⟩,⟨⟩⟩ kx
 kernel_rfl
theorem zxc_ (k:Nat):FnOK Tryz.prog 55 (zd9_ k):=by
 refine za_ (tab:=[(84,z6s_)]) (l:=[]) z8_ z9_ mix (List.forall_mem_cons.2 ⟨zd5_,(List.forall_mem_nil _)⟩) (List.forall_mem_nil _) ⟨⟨Tryz.f55,(z2_ Tryz.f55),[.tmp 2],(zxb_ k),by kernel_rfl,by kernel_rfl,by kernel_rfl,by kernel_rfl,rfl,by decide,⟨by kernel_rfl,?_,?_⟩,?_⟩⟩
 ·refine zi_ (n:=1) (by kernel_rfl) fun i hi=>?_
  match i,hi with
  | 0,_=>exact ze_ (by kernel_rfl) (z19e_ k)
  | n+1,hi=>omega
 ·exact z7_ (by kernel_rfl)
 ·rintro p0
  kernel_rfl
def zoc_ (n0:Int):Option Bool:=(z6r_ n0 0 3).bind fun r_1=>some (!r_1)
def zig_:FE:=⟨(.int .i64),1,.bool,fun x=>zoc_ x⟩
theorem z19f_:FnOK Tryz.prog 86 (zig_):=by
 refine za_ (tab:=[(84,z6s_)]) (l:=[]) z8_ z9_ mix (List.forall_mem_cons.2 ⟨zd5_,(List.forall_mem_nil _)⟩) (List.forall_mem_nil _) ⟨⟨Tryz.f86,(z2_ Tryz.f86),[.tmp 2],(LOn Bool),by kernel_rfl,by kernel_rfl,by kernel_rfl,by kernel_rfl,rfl,by decide,⟨by kernel_rfl,?_,?_⟩,?_⟩⟩
 ·exact zl_ (by kernel_rfl)
 ·exact z7_ (by kernel_rfl)
 ·rintro n0
  kernel_rfl
def zay_ (k:Nat):Nat→(List Int)→Unit→Int→Int→(Option Int)→Option Int
 | 0,_,_,_,_,_=>none
 | n+1,s0,f1,x7,x8,e_0=>(if (decide (x8<x7))=true then (if 0≤x8 then (s0[x8.toNat]?).bind fun y_1=>(zoc_ y_1).bind fun r_2=>(if r_2=true then some x8 else zay_ k n s0 f1 x7 (z0_ (x8+1)) e_0) else none) else e_0)
def zod_ (k:Nat) (s0:List Int) (f1:Unit):Option Int:=zay_ k k s0 f1 (List.length s0:Int) 0 (some (-1))
def zih_:Head:=⟨[(0,(.val (.sl 2 (.int .i64)))),(1,(.val (.fn 86 .un))),(7,(.val (.int .i64))),(8,(.val (.int .i64)))],[],[]⟩
def zxd_:Head:=⟨[],[],[]⟩
def zoe_ (k:Nat) (n:Nat) (x:zih_.T) (kx:Nat→St→Option Int):Option Int:=zay_ k n x.1.1 x.1.2.1 x.1.2.2.1 x.1.2.2.2.1 (kx 0 (zxd_.fill ((),(),())))
def zxe_ (k:Nat):Oracles Int:=⟨fun n=>bif Nat.beq n 2 then some (fun σ kx=>zih_.get σ fun x=>zoe_ k k x kx) else none,fun _=>none⟩
def zxf_ (k:Nat):FE:=⟨(.pr (.sl 2 (.int .i64)) (.fn 86 .un)),1,(.int .i64),fun x=>zod_ k x.1 x.2⟩
theorem z19g_ (k:Nat):zd_ (z4_ ti [(86,zig_)] (lk []) z5_ z6_) (zxe_ k) (rdC (z4_ ti [(86,zig_)] (lk []) z5_ z6_) [.tmp 4] (.int .i64)) ((zb_ (z2_ Tryz.f115)).getD 0 .skip) (fun σ kx=>zih_.get σ fun x=>zoe_ k k x kx):=by
 refine ⟨zih_,[(0,zxd_)],fun n x kx=>zoe_ k n x kx,k,by kernel_rfl,by kernel_rfl,fun x kx=>by kernel_rfl,?_,fun σ kx=>rfl⟩
 rintro n ⟨⟨s0,f1,x7,x8,⟨⟩⟩,⟨⟩,⟨⟩⟩ kx
 kernel_rfl
theorem z19h_ (k:Nat):FnOK Tryz.prog 115 (zxf_ k):=by
 refine za_ (tab:=[(86,zig_)]) (l:=[]) z8_ z9_ mix (List.forall_mem_cons.2 ⟨z19f_,(List.forall_mem_nil _)⟩) (List.forall_mem_nil _) ⟨⟨Tryz.f115,(z2_ Tryz.f115),[.tmp 4],(zxe_ k),by kernel_rfl,by kernel_rfl,by kernel_rfl,by kernel_rfl,rfl,by decide,⟨by kernel_rfl,?_,?_⟩,?_⟩⟩
 ·refine zi_ (n:=1) (by kernel_rfl) fun i hi=>?_
  match i,hi with
  | 0,_=>exact ze_ (by kernel_rfl) (z19g_ k)
  | n+1,hi=>omega
 ·exact z7_ (by kernel_rfl)
 ·rintro ⟨s0,f1⟩
  kernel_rfl
def zii_ (k:Nat) (s0:List Int) (f1:Unit):Option Bool:=(zod_ k s0 f1).bind fun r_1=>some (decide (0≤r_1))
def zij_ (k:Nat):FE:=⟨(.pr (.sl 2 (.int .i64)) (.fn 86 .un)),1,.bool,fun x=>zii_ k x.1 x.2⟩
theorem z19i_ (k:Nat):FnOK Tryz.prog 85 (zij_ k):=by
 refine za_ (tab:=[(115,zxf_ k)]) (l:=[]) z8_ z9_ mix (List.forall_mem_cons.2 ⟨z19h_ k,(List.forall_mem_nil _)⟩) (List.forall_mem_nil _) ⟨⟨Tryz.f85,(z2_ Tryz.f85),[.tmp 4],(LOn Bool),by kernel_rfl,by kernel_rfl,by kernel_rfl,by kernel_rfl,rfl,by decide,⟨by kernel_rfl,?_,?_⟩,?_⟩⟩
 ·exact zl_ (by kernel_rfl)
 ·exact z7_ (by kernel_rfl)
 ·rintro ⟨s0,f1⟩
  kernel_rfl
def z6u_ (list0:List Int):Option Int:=some (List.length list0:Int)
def z5j_:FE:=⟨(.sl 2 (.int .i64)),1,(.int .i64),fun x=>z6u_ x⟩
theorem zik_:FnOK Tryz.prog 64 (z5j_):=by
 refine za_ (tab:=[]) (l:=[]) z8_ z9_ mix (List.forall_mem_nil _) (List.forall_mem_nil _) ⟨⟨Tryz.f64,(z2_ Tryz.f64),[.tmp 2],(LOn Int),by kernel_rfl,by kernel_rfl,by kernel_rfl,by kernel_rfl,rfl,by decide,⟨by kernel_rfl,?_,?_⟩,?_⟩⟩
 ·exact zl_ (by kernel_rfl)
 ·exact z7_ (by kernel_rfl)
 ·rintro list0
  kernel_rfl
end
end Go.Proofs.YthpamdpneanlpaaGreatDoor.Ev
