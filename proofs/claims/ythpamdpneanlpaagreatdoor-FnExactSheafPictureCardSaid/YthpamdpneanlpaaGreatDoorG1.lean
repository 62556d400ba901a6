/- Functions of the program, as plain ones. No conditions. -/
import Derived.Test.YthpamdpneanlpaaGreatDoorG0
import Derived.KernelRfl
set_option linter.unusedVariables false
set_option maxRecDepth 100000
namespace Go.Proofs.YthpamdpneanlpaaGreatDoor.Ev
open Go.RowKit
noncomputable section
def z9r_ (a0:List Int) (left1:Int):Option Int:=(if (decide ((z0_ (left1-(List.length a0:Int)))<0))=true then some (-1) else some (z0_ (left1-(List.length a0:Int))))
def z9s_:FE:=⟨(.pr (.sl 2 (.int .i64)) (.int .i64)),1,(.int .i64),fun x=>z9r_ x.1 x.2⟩
theorem zmb_:FnOK Tryz.prog 14 (z9s_):=by
 refine za_ (tab:=[]) (l:=[]) z8_ z9_ mix (List.forall_mem_nil _) (List.forall_mem_nil _) ⟨⟨Tryz.f14,(z2_ Tryz.f14),[.tmp 4],(LOn Int),by kernel_rfl,by kernel_rfl,by kernel_rfl,by kernel_rfl,rfl,by decide,⟨by kernel_rfl,?_,?_⟩,?_⟩⟩
 ·exact zl_ (by kernel_rfl)
 ·exact z7_ (by kernel_rfl)
 ·rintro ⟨a0,left1⟩
  kernel_rfl
def z9t_ (k:Nat):Nat→zT1→Int→Int→(Int→Option Int)→Option Int
 | 0,_,_,_,_=>none
 | n+1,a0,left1,i5,e_0=>(if (decide (i5<(List.length a0:Int)))=true then (if 0≤i5 then (a0[i5.toNat]?).bind fun y_1=>(z9r_ y_1 left1).bind fun r_2=>(if (decide (r_2<0))=true then some (-1) else z9t_ k n a0 r_2 (z0_ (i5+1)) e_0) else none) else e_0 left1)
def zfd_ (k:Nat) (a0:List (List Int)) (left1:Int):Option Int:=(if (decide ((z0_ (left1-(List.length a0:Int)))<0))=true then some (-1) else z9t_ k k a0 (z0_ (left1-(List.length a0:Int))) 0 (fun left_3=>some left_3))
def zfe_:Head:=⟨[(0,(.val (.sl 25 (.sl 2 (.int .i64))))),(1,(.val (.int .i64))),(5,(.val (.int .i64)))],[],[]⟩
def ztn_:Head:=⟨[(1,(.val (.int .i64)))],[],[]⟩
def zmc_ (k:Nat) (n:Nat) (x:zfe_.T) (kx:Nat→St→Option Int):Option Int:=z9t_ k n x.1.1 x.1.2.1 x.1.2.2.1 (fun (left1:Int)=>kx 0 (ztn_.fill ((left1,()),(),())))
def zto_ (k:Nat):Oracles Int:=⟨fun n=>bif Nat.beq n 5 then some (fun σ kx=>zfe_.get σ fun x=>zmc_ k k x kx) else none,fun _=>none⟩
def ztp_ (k:Nat):FE:=⟨(.pr (.sl 25 (.sl 2 (.int .i64))) (.int .i64)),1,(.int .i64),fun x=>zfd_ k x.1 x.2⟩
theorem z15w_ (k:Nat):zd_ (z4_ ti [(14,z9s_)] (lk []) z5_ z6_) (zto_ k) (rdC (z4_ ti [(14,z9s_)] (lk []) z5_ z6_) [.tmp 4] (.int .i64)) ((zb_ (z2_ Tryz.f39)).getD 0 .skip) (fun σ kx=>zfe_.get σ fun x=>zmc_ k k x kx):=by
 refine ⟨zfe_,[(0,ztn_)],fun n x kx=>zmc_ k n x kx,k,by kernel_rfl,by kernel_rfl,fun x kx=>by kernel_rfl,?_,fun σ kx=>rfl⟩
 rintro n ⟨⟨a0,left1,i5,⟨⟩⟩,⟨⟩,⟨⟩⟩ kx
 kernel_rfl
theorem z15x_ (k:Nat):FnOK Tryz.prog 39 (ztp_ k):=by
 refine za_ (tab:=[(14,z9s_)]) (l:=[]) z8_ z9_ mix (List.forall_mem_cons.2 ⟨zmb_,(List.forall_mem_nil _)⟩) (List.forall_mem_nil _) ⟨⟨Tryz.f39,(z2_ Tryz.f39),[.tmp 4],(zto_ k),by kernel_rfl,by kernel_rfl,by kernel_rfl,by kernel_rfl,rfl,by decide,⟨by kernel_rfl,?_,?_⟩,?_⟩⟩
 ·refine zi_ (n:=1) (by kernel_rfl) fun i hi=>?_
  match i,hi with
  | 0,_=>exact ze_ (by kernel_rfl) (z15w_ k)
  | n+1,hi=>omega
 ·exact z7_ (by kernel_rfl)
 ·rintro ⟨a0,left1⟩
  kernel_rfl
def zff_ (k:Nat) (a0:List (List Int)) (left1:Int):Option Int:=(zfd_ k a0 left1).bind fun r_1=>(if (decide (r_1<0))=true then some (-1) else some r_1)
def ztq_ (k:Nat):FE:=⟨(.pr (.st (.sl 25 (.sl 2 (.int .i64)))) (.int .i64)),1,(.int .i64),fun x=>zff_ k x.1 x.2⟩
theorem z15y_ (k:Nat):FnOK Tryz.prog 13 (ztq_ k):=by
 refine za_ (tab:=[(39,ztp_ k)]) (l:=[]) z8_ z9_ mix (List.forall_mem_cons.2 ⟨z15x_ k,(List.forall_mem_nil _)⟩) (List.forall_mem_nil _) ⟨⟨Tryz.f13,(z2_ Tryz.f13),[.tmp 4],(LOn Int),by kernel_rfl,by kernel_rfl,by kernel_rfl,by kernel_rfl,rfl,by decide,⟨by kernel_rfl,?_,?_⟩,?_⟩⟩
 ·exact zl_ (by kernel_rfl)
 ·exact z7_ (by kernel_rfl)
 ·rintro ⟨a0,left1⟩
  kernel_rfl
def zfg_ (a0:Int×Int×Int×List Int) (left1:Int):Option Int:=(z9r_ a0.2.2.2 left1).bind fun r_1=>(if (decide (r_1<0))=true then some (-1) else some r_1)
def zfh_:FE:=⟨(.pr (.st (.pr (.int .i64) (.pr (.int .i64) (.pr (.int .i64) (.sl 2 (.int .i64)))))) (.int .i64)),1,(.int .i64),fun x=>zfg_ x.1 x.2⟩
theorem z15z_:FnOK Tryz.prog 40 (zfh_):=by
 refine za_ (tab:=[(14,z9s_)]) (l:=[]) z8_ z9_ mix (List.forall_mem_cons.2 ⟨zmb_,(List.forall_mem_nil _)⟩) (List.forall_mem_nil _) ⟨⟨Tryz.f40,(z2_ Tryz.f40),[.tmp 4],(LOn Int),by kernel_rfl,by kernel_rfl,by kernel_rfl,by kernel_rfl,rfl,by decide,⟨by kernel_rfl,?_,?_⟩,?_⟩⟩
 ·exact zl_ (by kernel_rfl)
 ·exact z7_ (by kernel_rfl)
 ·rintro ⟨a0,left1⟩
  kernel_rfl
def z9u_ (k:Nat):Nat→zT2→Int→Int→(Int→Option Int)→Option Int
 | 0,_,_,_,_=>none
 | n+1,a0,left1,i5,e_0=>(if (decide (i5<(List.length a0:Int)))=true then (if 0≤i5 then (a0[i5.toNat]?).bind fun y_1=>(zfg_ y_1 left1).bind fun r_2=>(if (decide (r_2<0))=true then some (-1) else z9u_ k n a0 r_2 (z0_ (i5+1)) e_0) else none) else e_0 left1)
def zfi_ (k:Nat) (a0:List (Int×Int×Int×List Int)) (left1:Int):Option Int:=(if (decide ((z0_ (left1-(List.length a0:Int)))<0))=true then some (-1) else z9u_ k k a0 (z0_ (left1-(List.length a0:Int))) 0 (fun left_3=>some left_3))
def zfj_:Head:=⟨[(0,(.val (.sl 73 (.st (.pr (.int .i64) (.pr (.int .i64) (.pr (.int .i64) (.sl 2 (.int .i64))))))))),(1,(.val (.int .i64))),(5,(.val (.int .i64)))],[],[]⟩
def ztr_:Head:=⟨[(1,(.val (.int .i64)))],[],[]⟩
def zmd_ (k:Nat) (n:Nat) (x:zfj_.T) (kx:Nat→St→Option Int):Option Int:=z9u_ k n x.1.1 x.1.2.1 x.1.2.2.1 (fun (left1:Int)=>kx 0 (ztr_.fill ((left1,()),(),())))
def zts_ (k:Nat):Oracles Int:=⟨fun n=>bif Nat.beq n 5 then some (fun σ kx=>zfj_.get σ fun x=>zmd_ k k x kx) else none,fun _=>none⟩
def ztt_ (k:Nat):FE:=⟨(.pr (.sl 73 (.st (.pr (.int .i64) (.pr (.int .i64) (.pr (.int .i64) (.sl 2 (.int .i64))))))) (.int .i64)),1,(.int .i64),fun x=>zfi_ k x.1 x.2⟩
theorem z160_ (k:Nat):zd_ (z4_ ti [(40,zfh_)] (lk []) z5_ z6_) (zts_ k) (rdC (z4_ ti [(40,zfh_)] (lk []) z5_ z6_) [.tmp 4] (.int .i64)) ((zb_ (z2_ Tryz.f15)).getD 0 .skip) (fun σ kx=>zfj_.get σ fun x=>zmd_ k k x kx):=by
 refine ⟨zfj_,[(0,ztr_)],fun n x kx=>zmd_ k n x kx,k,by kernel_rfl,by kernel_rfl,fun x kx=>by kernel_rfl,?_,fun σ kx=>rfl⟩
 rintro n ⟨⟨a0,left1,i5,⟨⟩⟩,⟨⟩,⟨⟩⟩ kx
 kernel_rfl
theorem z161_ (k:Nat):FnOK Tryz.prog 15 (ztt_ k):=by
 refine za_ (tab:=[(40,zfh_)]) (l:=[]) z8_ z9_ mix (List.forall_mem_cons.2 ⟨z15z_,(List.forall_mem_nil _)⟩) (List.forall_mem_nil _) ⟨⟨Tryz.f15,(z2_ Tryz.f15),[.tmp 4],(zts_ k),by kernel_rfl,by kernel_rfl,by kernel_rfl,by kernel_rfl,rfl,by decide,⟨by kernel_rfl,?_,?_⟩,?_⟩⟩
 ·refine zi_ (n:=1) (by kernel_rfl) fun i hi=>?_
  match i,hi with
  | 0,_=>exact ze_ (by kernel_rfl) (z160_ k)
  | n+1,hi=>omega
 ·exact z7_ (by kernel_rfl)
 ·rintro ⟨a0,left1⟩
  kernel_rfl
def zfk_ (k:Nat) (a0:List (List Int)×Int×List Int×List (Int×Int×Int×List Int)) (left1:Int):Option Int:=(zff_ k a0.1 left1).bind fun r_1=>(if (decide (r_1<0))=true then some (-1) else (z9r_ a0.2.2.1 r_1).bind fun r_2=>(if (decide (r_2<0))=true then some (-1) else (zfi_ k a0.2.2.2 r_2).bind fun r_3=>(if (decide (r_3<0))=true then some (-1) else some r_3)))
def ztu_ (k:Nat):FE:=⟨(.pr (.st (.pr (.st (.sl 25 (.sl 2 (.int .i64)))) (.pr (.int .i64) (.pr (.sl 2 (.int .i64)) (.sl 73 (.st (.pr (.int .i64) (.pr (.int .i64) (.pr (.int .i64) (.sl 2 (.int .i64))))))))))) (.int .i64)),1,(.int .i64),fun x=>zfk_ k x.1 x.2⟩
theorem z162_ (k:Nat):FnOK Tryz.prog 4 (ztu_ k):=by
 refine za_ (tab:=[(13,ztq_ k),(14,z9s_),(15,ztt_ k)]) (l:=[]) z8_ z9_ mix (List.forall_mem_cons.2 ⟨z15y_ k,(List.forall_mem_cons.2 ⟨zmb_,(List.forall_mem_cons.2 ⟨z161_ k,(List.forall_mem_nil _)⟩)⟩)⟩) (List.forall_mem_nil _) ⟨⟨Tryz.f4,(z2_ Tryz.f4),[.tmp 4],(LOn Int),by kernel_rfl,by kernel_rfl,by kernel_rfl,by kernel_rfl,rfl,by decide,⟨by kernel_rfl,?_,?_⟩,?_⟩⟩
 ·exact zl_ (by kernel_rfl)
 ·exact z7_ (by kernel_rfl)
 ·rintro ⟨a0,left1⟩
  kernel_rfl
def z9v_ (k:Nat):Nat→(List Int)→Int→(List Int)→((List Int)→Option (List Int))→Option (List Int)
 | 0,_,_,_,_=>none
 | n+1,a0,i4,q_1,e_0=>(if (decide (i4<(List.length a0:Int)))=true then (if 0≤i4 then (a0[i4.toNat]?).bind fun y_2=>(if 0≤i4∧i4.toNat<List.length q_1 then (q_1[i4.toNat]?).bind fun y_3=>(q_1[i4.toNat]?).bind fun y_4=>z9v_ k n a0 (z0_ (i4+1)) (q_1.set i4.toNat y_2) e_0 else none) else none) else e_0 q_1)
def z9w_ (k:Nat) (a0:List Int):Option (List Int):=(if 0≤(List.length a0:Int)∧(List.length a0:Int)≤(List.length a0:Int)∧(List.length a0:Int)*8≤LIM then z9v_ k k a0 0 (List.replicate (List.length a0) 0) (fun q_5=>some q_5) else none)
def zfl_:Head:=⟨[(0,(.val (.sl 2 (.int .i64)))),(3,(.ref 64000000 [])),(4,(.val (.int .i64)))],[(64000000,2,(.int .i64),false)],[]⟩
def ztv_:Head:=⟨[(3,(.ref 64000000 []))],[(64000000,2,(.int .i64),false)],[]⟩
def zme_ (k:Nat) (n:Nat) (x:zfl_.T) (kx:Nat→St→Option (List Int)):Option (List Int):=z9v_ k n x.1.1 x.1.2.2.1 x.2.1.1 (fun (q_5:List Int)=>kx 0 (ztv_.fill (((),()),(q_5,()),())))
def ztw_ (k:Nat):Oracles (List Int):=⟨fun n=>bif Nat.beq n 3 then some (fun σ kx=>zfl_.get σ fun x=>zme_ k k x kx) else none,fun _=>none⟩
def z9x_ (k:Nat):FE:=⟨(.sl 2 (.int .i64)),1,(.sl 2 (.int .i64)),fun x=>z9w_ k x⟩
theorem z163_ (k:Nat):zd_ (z4_ ti [] (lk []) z5_ z6_) (ztw_ k) (rdC (z4_ ti [] (lk []) z5_ z6_) [.tmp 2] (.sl 2 (.int .i64))) ((zb_ (z2_ Tryz.f24)).getD 0 .skip) (fun σ kx=>zfl_.get σ fun x=>zme_ k k x kx):=by
 refine ⟨zfl_,[(0,ztv_)],fun n x kx=>zme_ k n x kx,k,by kernel_rfl,by kernel_rfl,fun x kx=>by kernel_rfl,?_,fun σ kx=>rfl⟩
 rintro n ⟨⟨a0,⟨⟩,i4,⟨⟩⟩,⟨q_1,⟨⟩⟩,⟨⟩⟩ kx
 kernel_rfl
theorem zmf_ (k:Nat):FnOK Tryz.prog 24 (z9x_ k):=by
 refine za_ (tab:=[]) (l:=[]) z8_ z9_ mix (List.forall_mem_nil _) (List.forall_mem_nil _) ⟨⟨Tryz.f24,(z2_ Tryz.f24),[.tmp 2],(ztw_ k),by kernel_rfl,by kernel_rfl,by kernel_rfl,by kernel_rfl,rfl,by decide,⟨by kernel_rfl,?_,?_⟩,?_⟩⟩
 ·refine zi_ (n:=1) (by kernel_rfl) fun i hi=>?_
  match i,hi with
  | 0,_=>exact ze_ (by kernel_rfl) (z163_ k)
  | n+1,hi=>omega
 ·exact z7_ (by kernel_rfl)
 ·rintro a0
  kernel_rfl
def z9y_ (k:Nat):Nat→zT1→Int→zT1→(zT1→Option zT1)→Option zT1
 | 0,_,_,_,_=>none
 | n+1,a0,i4,q_1,e_0=>(if (decide (i4<(List.length a0:Int)))=true then (if 0≤i4 then (a0[i4.toNat]?).bind fun y_2=>(z9w_ k y_2).bind fun r_3=>(if 0≤i4∧i4.toNat<List.length q_1 then (q_1[i4.toNat]?).bind fun y_4=>(q_1[i4.toNat]?).bind fun y_5=>z9y_ k n a0 (z0_ (i4+1)) (q_1.set i4.toNat r_3) e_0 else none) else none) else e_0 q_1)
def zfm_ (k:Nat) (a0:List (List Int)):Option zT1:=(if 0≤(List.length a0:Int)∧(List.length a0:Int)≤(List.length a0:Int)∧(List.length a0:Int)*24≤LIM then z9y_ k k a0 0 (List.replicate (List.length a0) ([]:List Int)) (fun q_6=>some q_6) else none)
def zfn_:Head:=⟨[(0,(.val (.sl 25 (.sl 2 (.int .i64))))),(3,(.ref 64000000 [])),(4,(.val (.int .i64)))],[(64000000,25,(.sl 2 (.int .i64)),false)],[]⟩
def ztx_:Head:=⟨[(3,(.ref 64000000 []))],[(64000000,25,(.sl 2 (.int .i64)),false)],[]⟩
def zmg_ (k:Nat) (n:Nat) (x:zfn_.T) (kx:Nat→St→Option zT1):Option zT1:=z9y_ k n x.1.1 x.1.2.2.1 x.2.1.1 (fun (q_6:List (List Int))=>kx 0 (ztx_.fill (((),()),(q_6,()),())))
def zty_ (k:Nat):Oracles zT1:=⟨fun n=>bif Nat.beq n 3 then some (fun σ kx=>zfn_.get σ fun x=>zmg_ k k x kx) else none,fun _=>none⟩
def ztz_ (k:Nat):FE:=⟨(.sl 25 (.sl 2 (.int .i64))),1,(.sl 25 (.sl 2 (.int .i64))),fun x=>zfm_ k x⟩
theorem z164_ (k:Nat):zd_ (z4_ ti [(24,z9x_ k)] (lk []) z5_ z6_) (zty_ k) (rdC (z4_ ti [(24,z9x_ k)] (lk []) z5_ z6_) [.tmp 2] (.sl 25 (.sl 2 (.int .i64)))) ((zb_ (z2_ Tryz.f52)).getD 0 .skip) (fun σ kx=>zfn_.get σ fun x=>zmg_ k k x kx):=by
 refine ⟨zfn_,[(0,ztx_)],fun n x kx=>zmg_ k n x kx,k,by kernel_rfl,by kernel_rfl,fun x kx=>by kernel_rfl,?_,fun σ kx=>rfl⟩
 rintro n ⟨⟨a0,⟨⟩,i4,⟨⟩⟩,⟨q_1,⟨⟩⟩,⟨⟩⟩ kx
 kernel_rfl
theorem z165_ (k:Nat):FnOK Tryz.prog 52 (ztz_ k):=by
 refine za_ (tab:=[(24,z9x_ k)]) (l:=[]) z8_ z9_ mix (List.forall_mem_cons.2 ⟨zmf_ k,(List.forall_mem_nil _)⟩) (List.forall_mem_nil _) ⟨⟨Tryz.f52,(z2_ Tryz.f52),[.tmp 2],(zty_ k),by kernel_rfl,by kernel_rfl,by kernel_rfl,by kernel_rfl,rfl,by decide,⟨by kernel_rfl,?_,?_⟩,?_⟩⟩
 ·refine zi_ (n:=1) (by kernel_rfl) fun i hi=>?_
  match i,hi with
  | 0,_=>exact ze_ (by kernel_rfl) (z164_ k)
  | n+1,hi=>omega
 ·exact z7_ (by kernel_rfl)
 ·rintro a0
  kernel_rfl
def zfo_ (k:Nat) (a0:List (List Int)):Option zT1:=(zfm_ k a0).bind fun r_1=>some r_1
def zu0_ (k:Nat):FE:=⟨(.st (.sl 25 (.sl 2 (.int .i64)))),1,(.st (.sl 25 (.sl 2 (.int .i64)))),fun x=>zfo_ k x⟩
theorem z166_ (k:Nat):FnOK Tryz.prog 23 (zu0_ k):=by
 refine za_ (tab:=[(52,ztz_ k)]) (l:=[]) z8_ z9_ mix (List.forall_mem_cons.2 ⟨z165_ k,(List.forall_mem_nil _)⟩) (List.forall_mem_nil _) ⟨⟨Tryz.f23,(z2_ Tryz.f23),[.cell 2 33],(LOn zT1),by kernel_rfl,by kernel_rfl,by kernel_rfl,by kernel_rfl,rfl,by decide,⟨by kernel_rfl,?_,?_⟩,?_⟩⟩
 ·exact zl_ (by kernel_rfl)
 ·exact z7_ (by kernel_rfl)
 ·rintro a0
  kernel_rfl
def zfp_ (k:Nat) (a0:Int×Int×Int×List Int):Option (Int×Int×Int×List Int):=(z9w_ k a0.2.2.2).bind fun r_1=>some (a0.1,(a0.2.1,(a0.2.2.1,r_1)))
def zfq_ (k:Nat):FE:=⟨(.st (.pr (.int .i64) (.pr (.int .i64) (.pr (.int .i64) (.sl 2 (.int .i64)))))),1,(.st (.pr (.int .i64) (.pr (.int .i64) (.pr (.int .i64) (.sl 2 (.int .i64)))))),fun x=>zfp_ k x⟩
theorem z167_ (k:Nat):FnOK Tryz.prog 53 (zfq_ k):=by
 refine za_ (tab:=[(24,z9x_ k)]) (l:=[]) z8_ z9_ mix (List.forall_mem_cons.2 ⟨zmf_ k,(List.forall_mem_nil _)⟩) (List.forall_mem_nil _) ⟨⟨Tryz.f53,(z2_ Tryz.f53),[.cell 2 63],(LOn (Int×Int×Int×List Int)),by kernel_rfl,by kernel_rfl,by kernel_rfl,by kernel_rfl,rfl,by decide,⟨by kernel_rfl,?_,?_⟩,?_⟩⟩
 ·exact zl_ (by kernel_rfl)
 ·exact z7_ (by kernel_rfl)
 ·rintro a0
  kernel_rfl
def z9z_ (k:Nat):Nat→zT2→Int→zT2→(zT2→Option zT2)→Option zT2
 | 0,_,_,_,_=>none
 | n+1,a0,i4,q_1,e_0=>(if (decide (i4<(List.length a0:Int)))=true then (if 0≤i4 then (a0[i4.toNat]?).bind fun y_2=>(zfp_ k y_2).bind fun r_3=>(if 0≤i4∧i4.toNat<List.length q_1 then (q_1[i4.toNat]?).bind fun y_4=>(q_1[i4.toNat]?).bind fun y_5=>z9z_ k n a0 (z0_ (i4+1)) (q_1.set i4.toNat (r_3.1,(r_3.2.1,(r_3.2.2.1,r_3.2.2.2)))) e_0 else none) else none) else e_0 q_1)
def zfr_ (k:Nat) (a0:List (Int×Int×Int×List Int)):Option zT2:=(if 0≤(List.length a0:Int)∧(List.length a0:Int)≤(List.length a0:Int)∧(List.length a0:Int)*48≤LIM then z9z_ k k a0 0 (List.replicate (List.length a0) (0,(0,(0,[])))) (fun q_6=>some q_6) else none)
def zfs_:Head:=⟨[(0,(.val (.sl 73 (.st (.pr (.int .i64) (.pr (.int .i64) (.pr (.int .i64) (.sl 2 (.int .i64))))))))),(3,(.ref 64000000 [])),(4,(.val (.int .i64)))],[(64000000,63,(.st (.pr (.int .i64) (.pr (.int .i64) (.pr (.int .i64) (.sl 2 (.int .i64)))))),false)],[]⟩
def zu1_:Head:=⟨[(3,(.ref 64000000 []))],[(64000000,63,(.st (.pr (.int .i64) (.pr (.int .i64) (.pr (.int .i64) (.sl 2 (.int .i64)))))),false)],[]⟩
def zmh_ (k:Nat) (n:Nat) (x:zfs_.T) (kx:Nat→St→Option zT2):Option zT2:=z9z_ k n x.1.1 x.1.2.2.1 x.2.1.1 (fun (q_6:List (Int×Int×Int×List Int))=>kx 0 (zu1_.fill (((),()),(q_6,()),())))
def zu2_ (k:Nat):Oracles zT2:=⟨fun n=>bif Nat.beq n 3 then some (fun σ kx=>zfs_.get σ fun x=>zmh_ k k x kx) else none,fun _=>none⟩
def zu3_ (k:Nat):FE:=⟨(.sl 73 (.st (.pr (.int .i64) (.pr (.int .i64) (.pr (.int .i64) (.sl 2 (.int .i64))))))),1,(.sl 63 (.st (.pr (.int .i64) (.pr (.int .i64) (.pr (.int .i64) (.sl 2 (.int .i64))))))),fun x=>zfr_ k x⟩
theorem z168_ (k:Nat):zd_ (z4_ ti [(53,zfq_ k)] (lk []) z5_ z6_) (zu2_ k) (rdC (z4_ ti [(53,zfq_ k)] (lk []) z5_ z6_) [.tmp 2] (.sl 63 (.st (.pr (.int .i64) (.pr (.int .i64) (.pr (.int .i64) (.sl 2 (.int .i64)))))))) ((zb_ (z2_ Tryz.f25)).getD 0 .skip) (fun σ kx=>zfs_.get σ fun x=>zmh_ k k x kx):=by
 refine ⟨zfs_,[(0,zu1_)],fun n x kx=>zmh_ k n x kx,k,by kernel_rfl,by kernel_rfl,fun x kx=>by kernel_rfl,?_,fun σ kx=>rfl⟩
 rintro n ⟨⟨a0,⟨⟩,i4,⟨⟩⟩,⟨q_1,⟨⟩⟩,⟨⟩⟩ kx
 kernel_rfl
theorem z169_ (k:Nat):FnOK Tryz.prog 25 (zu3_ k):=by
 refine za_ (tab:=[(53,zfq_ k)]) (l:=[]) z8_ z9_ mix (List.forall_mem_cons.2 ⟨z167_ k,(List.forall_mem_nil _)⟩) (List.forall_mem_nil _) ⟨⟨Tryz.f25,(z2_ Tryz.f25),[.tmp 2],(zu2_ k),by kernel_rfl,by kernel_rfl,by kernel_rfl,by kernel_rfl,rfl,by decide,⟨by kernel_rfl,?_,?_⟩,?_⟩⟩
 ·refine zi_ (n:=1) (by kernel_rfl) fun i hi=>?_
  match i,hi with
  | 0,_=>exact ze_ (by kernel_rfl) (z168_ k)
  | n+1,hi=>omega
 ·exact z7_ (by kernel_rfl)
 ·rintro a0
  kernel_rfl
def z7x_ (k:Nat) (a0:List (List Int)×Int×List Int×List (Int×Int×Int×List Int)):Option zT0:=(zfo_ k a0.1).bind fun r_1=>(z9w_ k a0.2.2.1).bind fun r_2=>(zfr_ k a0.2.2.2).bind fun r_3=>some (r_1,(a0.2.1,(r_2,r_3)))
def zu4_ (k:Nat):FE:=⟨(.st (.pr (.st (.sl 25 (.sl 2 (.int .i64)))) (.pr (.int .i64) (.pr (.sl 2 (.int .i64)) (.sl 73 (.st (.pr (.int .i64) (.pr (.int .i64) (.pr (.int .i64) (.sl 2 (.int .i64))))))))))),1,(.st (.pr (.st (.sl 25 (.sl 2 (.int .i64)))) (.pr (.int .i64) (.pr (.sl 2 (.int .i64)) (.sl 63 (.st (.pr (.int .i64) (.pr (.int .i64) (.pr (.int .i64) (.sl 2 (.int .i64))))))))))),fun x=>z7x_ k x⟩
theorem z16a_ (k:Nat):FnOK Tryz.prog 6 (zu4_ k):=by
 refine za_ (tab:=[(23,zu0_ k),(24,z9x_ k),(25,zu3_ k)]) (l:=[]) z8_ z9_ mix (List.forall_mem_cons.2 ⟨z166_ k,(List.forall_mem_cons.2 ⟨zmf_ k,(List.forall_mem_cons.2 ⟨z169_ k,(List.forall_mem_nil _)⟩)⟩)⟩) (List.forall_mem_nil _) ⟨⟨Tryz.f6,(z2_ Tryz.f6),[.cell 2 36],(LOn zT0),by kernel_rfl,by kernel_rfl,by kernel_rfl,by kernel_rfl,rfl,by decide,⟨by kernel_rfl,?_,?_⟩,?_⟩⟩
 ·exact zl_ (by kernel_rfl)
 ·exact z7_ (by kernel_rfl)
 ·rintro a0
  kernel_rfl
def z59_ (n0:Int) (low1:Int) (high2:Int):Option Bool:=(if (decide (low1≤n0))=true then some (decide (n0≤high2)) else some false)
def z3s_:FE:=⟨(.pr (.int .i64) (.pr (.int .i64) (.int .i64))),1,.bool,fun x=>z59_ x.1 x.2.1 x.2.2⟩
theorem zcu_:FnOK Tryz.prog 106 (z3s_):=by
 refine za_ (tab:=[]) (l:=[]) z8_ z9_ mix (List.forall_mem_nil _) (List.forall_mem_nil _) ⟨⟨Tryz.f106,(z2_ Tryz.f106),[.tmp 6],(LOn Bool),by kernel_rfl,by kernel_rfl,by kernel_rfl,by kernel_rfl,rfl,by decide,⟨by kernel_rfl,?_,?_⟩,?_⟩⟩
 ·exact zl_ (by kernel_rfl)
 ·exact z7_ (by kernel_rfl)
 ·rintro ⟨n0,low1,high2⟩
  kernel_rfl
def z7y_ (k:Nat):Nat→(List Int)→Int→Int→Int→(Option Bool)→Option Bool
 | 0,_,_,_,_,_=>none
 | n+1,list0,low1,high2,i7,e_0=>(if (decide (i7<(List.length list0:Int)))=true then (if 0≤i7 then (list0[i7.toNat]?).bind fun y_1=>(z59_ y_1 low1 high2).bind fun r_2=>(if (!r_2)=true then some false else (if (decide (0<i7))=true then (if 0≤(z0_ (i7-1)) then (list0[(z0_ (i7-1)).toNat]?).bind fun y_3=>(if 0≤i7 then (list0[i7.toNat]?).bind fun y_4=>(if (decide (y_4≤y_3))=true then some false else z7y_ k n list0 low1 high2 (z0_ (i7+1)) e_0) else none) else none) else z7y_ k n list0 low1 high2 (z0_ (i7+1)) e_0)) else none) else e_0)
def zft_ (k:Nat) (list0:List Int) (low1:Int) (high2:Int):Option Bool:=z7y_ k k list0 low1 high2 0 (some true)
def zfu_:Head:=⟨[(0,(.val (.sl 2 (.int .i64)))),(1,(.val (.int .i64))),(2,(.val (.int .i64))),(7,(.val (.int .i64)))],[],[]⟩
def zu5_:Head:=⟨[],[],[]⟩
def zmi_ (k:Nat) (n:Nat) (x:zfu_.T) (kx:Nat→St→Option Bool):Option Bool:=z7y_ k n x.1.1 x.1.2.1 x.1.2.2.1 x.1.2.2.2.1 (kx 0 (zu5_.fill ((),(),())))
def zu6_ (k:Nat):Oracles Bool:=⟨fun n=>bif Nat.beq n 2 then some (fun σ kx=>zfu_.get σ fun x=>zmi_ k k x kx) else none,fun _=>none⟩
def zu7_ (k:Nat):FE:=⟨(.pr (.sl 2 (.int .i64)) (.pr (.int .i64) (.int .i64))),1,.bool,fun x=>zft_ k x.1 x.2.1 x.2.2⟩
theorem z16b_ (k:Nat):zd_ (z4_ ti [(106,z3s_)] (lk []) z5_ z6_) (zu6_ k) (rdC (z4_ ti [(106,z3s_)] (lk []) z5_ z6_) [.tmp 6] .bool) ((zb_ (z2_ Tryz.f107)).getD 0 .skip) (fun σ kx=>zfu_.get σ fun x=>zmi_ k k x kx):=by
 refine ⟨zfu_,[(0,zu5_)],fun n x kx=>zmi_ k n x kx,k,by kernel_rfl,by kernel_rfl,fun x kx=>by kernel_rfl,?_,fun σ kx=>rfl⟩
 rintro n ⟨⟨list0,low1,high2,i7,⟨⟩⟩,⟨⟩,⟨⟩⟩ kx
 kernel_rfl
theorem z16c_ (k:Nat):FnOK Tryz.prog 107 (zu7_ k):=by
 refine za_ (tab:=[(106,z3s_)]) (l:=[]) z8_ z9_ mix (List.forall_mem_cons.2 ⟨zcu_,(List.forall_mem_nil _)⟩) (List.forall_mem_nil _) ⟨⟨Tryz.f107,(z2_ Tryz.f107),[.tmp 6],(zu6_ k),by kernel_rfl,by kernel_rfl,by kernel_rfl,by kernel_rfl,rfl,by decide,⟨by kernel_rfl,?_,?_⟩,?_⟩⟩
 ·refine zi_ (n:=1) (by kernel_rfl) fun i hi=>?_
  match i,hi with
  | 0,_=>exact ze_ (by kernel_rfl) (z16b_ k)
  | n+1,hi=>omega
 ·exact z7_ (by kernel_rfl)
 ·rintro ⟨list0,low1,high2⟩
  kernel_rfl
def zfv_ (k:Nat) (s0:List Int):Option Bool:=(z59_ (List.length s0:Int) 1 4).bind fun r_1=>(if r_1=true then (zft_ k s0 0 9).bind fun r_2=>some r_2 else some false)
def za0_ (k:Nat):FE:=⟨(.sl 2 (.int .i64)),1,.bool,fun x=>zfv_ k x⟩
theorem z16d_ (k:Nat):FnOK Tryz.prog 70 (za0_ k):=by
 refine za_ (tab:=[(106,z3s_),(107,zu7_ k)]) (l:=[]) z8_ z9_ mix (List.forall_mem_cons.2 ⟨zcu_,(List.forall_mem_cons.2 ⟨z16c_ k,(List.forall_mem_nil _)⟩)⟩) (List.forall_mem_nil _) ⟨⟨Tryz.f70,(z2_ Tryz.f70),[.tmp 2],(LOn Bool),by kernel_rfl,by kernel_rfl,by kernel_rfl,by kernel_rfl,rfl,by decide,⟨by kernel_rfl,?_,?_⟩,?_⟩⟩
 ·exact zl_ (by kernel_rfl)
 ·exact z7_ (by kernel_rfl)
 ·rintro s0
  kernel_rfl
def za1_ (k:Nat):Nat→(List Int)→(List Int)→Int→(Option Bool)→Option Bool
 | 0,_,_,_,_=>none
 | n+1,a0,b1,i5,e_0=>(if (decide (i5<(List.length a0:Int)))=true then (if 0≤i5 then (a0[i5.toNat]?).bind fun y_1=>(if 0≤i5 then (b1[i5.toNat]?).bind fun y_2=>(if (!(decide (y_1=y_2)))=true then (if 0≤i5 then (a0[i5.toNat]?).bind fun y_3=>(if 0≤i5 then (b1[i5.toNat]?).bind fun y_4=>some (decide (y_3<y_4)) else none) else none) else za1_ k n a0 b1 (z0_ (i5+1)) e_0) else none) else none) else e_0)
def zfw_ (k:Nat) (a0:List Int) (b1:List Int):Option Bool:=(if (!(decide ((List.length a0:Int)=(List.length b1:Int))))=true then some (decide ((List.length a0:Int)<(List.length b1:Int))) else za1_ k k a0 b1 0 (some false))
def zfx_:Head:=⟨[(0,(.val (.sl 2 (.int .i64)))),(1,(.val (.sl 2 (.int .i64)))),(5,(.val (.int .i64)))],[],[]⟩
def zu8_:Head:=⟨[],[],[]⟩
def zmj_ (k:Nat) (n:Nat) (x:zfx_.T) (kx:Nat→St→Option Bool):Option Bool:=za1_ k n x.1.1 x.1.2.1 x.1.2.2.1 (kx 0 (zu8_.fill ((),(),())))
def zu9_ (k:Nat):Oracles Bool:=⟨fun n=>bif Nat.beq n 4 then some (fun σ kx=>zfx_.get σ fun x=>zmj_ k k x kx) else none,fun _=>none⟩
def za2_ (k:Nat):FE:=⟨(.pr (.sl 2 (.int .i64)) (.sl 2 (.int .i64))),1,.bool,fun x=>zfw_ k x.1 x.2⟩
theorem z16e_ (k:Nat):zd_ (z4_ ti [] (lk []) z5_ z6_) (zu9_ k) (rdC (z4_ ti [] (lk []) z5_ z6_) [.tmp 4] .bool) ((zb_ (z2_ Tryz.f71)).getD 0 .skip) (fun σ kx=>zfx_.get σ fun x=>zmj_ k k x kx):=by
 refine ⟨zfx_,[(0,zu8_)],fun n x kx=>zmj_ k n x kx,k,by kernel_rfl,by kernel_rfl,fun x kx=>by kernel_rfl,?_,fun σ kx=>rfl⟩
 rintro n ⟨⟨a0,b1,i5,⟨⟩⟩,⟨⟩,⟨⟩⟩ kx
 kernel_rfl
theorem z16f_ (k:Nat):FnOK Tryz.prog 71 (za2_ k):=by
 refine za_ (tab:=[]) (l:=[]) z8_ z9_ mix (List.forall_mem_nil _) (List.forall_mem_nil _) ⟨⟨Tryz.f71,(z2_ Tryz.f71),[.tmp 4],(zu9_ k),by kernel_rfl,by kernel_rfl,by kernel_rfl,by kernel_rfl,rfl,by decide,⟨by kernel_rfl,?_,?_⟩,?_⟩⟩
 ·refine zi_ (n:=1) (by kernel_rfl) fun i hi=>?_
  match i,hi with
  | 0,_=>exact ze_ (by kernel_rfl) (z16e_ k)
  | n+1,hi=>omega
 ·exact z7_ (by kernel_rfl)
 ·rintro ⟨a0,b1⟩
  kernel_rfl
def za3_ (list0:List Int):Option (List Int):=(if (([]:List Unit).length+list0.length)*8≤LIM then some list0 else none)
def z2z_:FE:=⟨(.sl 2 (.int .i64)),1,(.sl 2 (.int .i64)),fun x=>za3_ x⟩
theorem zua_:FnOK Tryz.prog 77 (z2z_):=by
 refine za_ (tab:=[]) (l:=[]) z8_ z9_ mix (List.forall_mem_nil _) (List.forall_mem_nil _) ⟨⟨Tryz.f77,(z2_ Tryz.f77),[.tmp 2],(LOn (List Int)),by kernel_rfl,by kernel_rfl,by kernel_rfl,by kernel_rfl,rfl,by decide,⟨by kernel_rfl,?_,?_⟩,?_⟩⟩
 ·exact zl_ (by kernel_rfl)
 ·exact z7_ (by kernel_rfl)
 ·rintro list0
  kernel_rfl
def zcv_ (s0:List Int) (k1:Int):Option (List Int):=(if 0≤(0:Int)∧(0:Int)≤k1∧k1≤s0.length then (za3_ (s0.take k1.toNat)).bind fun r_1=>(if 0≤(z0_ (k1+1))∧(z0_ (k1+1))≤(s0.length:Int)∧(s0.length:Int)≤s0.length then (if (r_1.length+((s0.drop ((z0_ (k1+1)).toNat)).take (s0.length-(z0_ (k1+1)).toNat)).length)*8≤LIM then some (r_1++((s0.drop ((z0_ (k1+1)).toNat)).take (s0.length-(z0_ (k1+1)).toNat))) else none) else none) else none)
def z5a_:FE:=⟨(.pr (.sl 2 (.int .i64)) (.int .i64)),1,(.sl 2 (.int .i64)),fun x=>zcv_ x.1 x.2⟩
theorem zub_:FnOK Tryz.prog 48 (z5a_):=by
 refine za_ (tab:=[(77,z2z_)]) (l:=[]) z8_ z9_ mix (List.forall_mem_cons.2 ⟨zua_,(List.forall_mem_nil _)⟩) (List.forall_mem_nil _) ⟨⟨Tryz.f48,(z2_ Tryz.f48),[.tmp 4],(LOn (List Int)),by kernel_rfl,by kernel_rfl,by kernel_rfl,by kernel_rfl,rfl,by decide,⟨by kernel_rfl,?_,?_⟩,?_⟩⟩
 ·exact zl_ (by kernel_rfl)
 ·exact z7_ (by kernel_rfl)
 ·rintro ⟨s0,k1⟩
  kernel_rfl
def za4_ (k:Nat):Nat→(List Int)→(List Int)→Int→(Option Bool)→Option Bool
 | 0,_,_,_,_=>none
 | n+1,a0,b1,i5,e_0=>(if (decide (i5<(List.length a0:Int)))=true then (if 0≤i5 then (a0[i5.toNat]?).bind fun y_1=>(if 0≤i5 then (b1[i5.toNat]?).bind fun y_2=>(if (!(decide (y_1=y_2)))=true then some false else za4_ k n a0 b1 (z0_ (i5+1)) e_0) else none) else none) else e_0)
def zfy_ (k:Nat) (a0:List Int) (b1:List Int):Option Bool:=(if (!(decide ((List.length a0:Int)=(List.length b1:Int))))=true then some false else za4_ k k a0 b1 0 (some true))
def zfz_:Head:=⟨[(0,(.val (.sl 2 (.int .i64)))),(1,(.val (.sl 2 (.int .i64)))),(5,(.val (.int .i64)))],[],[]⟩
def zuc_:Head:=⟨[],[],[]⟩
def zmk_ (k:Nat) (n:Nat) (x:zfz_.T) (kx:Nat→St→Option Bool):Option Bool:=za4_ k n x.1.1 x.1.2.1 x.1.2.2.1 (kx 0 (zuc_.fill ((),(),())))
def zud_ (k:Nat):Oracles Bool:=⟨fun n=>bif Nat.beq n 4 then some (fun σ kx=>zfz_.get σ fun x=>zmk_ k k x kx) else none,fun _=>none⟩
def zg0_ (k:Nat):FE:=⟨(.pr (.sl 2 (.int .i64)) (.sl 2 (.int .i64))),1,.bool,fun x=>zfy_ k x.1 x.2⟩
theorem z16g_ (k:Nat):zd_ (z4_ ti [] (lk []) z5_ z6_) (zud_ k) (rdC (z4_ ti [] (lk []) z5_ z6_) [.tmp 4] .bool) ((zb_ (z2_ Tryz.f76)).getD 0 .skip) (fun σ kx=>zfz_.get σ fun x=>zmk_ k k x kx):=by
 refine ⟨zfz_,[(0,zuc_)],fun n x kx=>zmk_ k n x kx,k,by kernel_rfl,by kernel_rfl,fun x kx=>by kernel_rfl,?_,fun σ kx=>rfl⟩
 rintro n ⟨⟨a0,b1,i5,⟨⟩⟩,⟨⟩,⟨⟩⟩ kx
 kernel_rfl
theorem z16h_ (k:Nat):FnOK Tryz.prog 76 (zg0_ k):=by
 refine za_ (tab:=[]) (l:=[]) z8_ z9_ mix (List.forall_mem_nil _) (List.forall_mem_nil _) ⟨⟨Tryz.f76,(z2_ Tryz.f76),[.tmp 4],(zud_ k),by kernel_rfl,by kernel_rfl,by kernel_rfl,by kernel_rfl,rfl,by decide,⟨by kernel_rfl,?_,?_⟩,?_⟩⟩
 ·refine zi_ (n:=1) (by kernel_rfl) fun i hi=>?_
  match i,hi with
  | 0,_=>exact ze_ (by kernel_rfl) (z16g_ k)
  | n+1,hi=>omega
 ·exact z7_ (by kernel_rfl)
 ·rintro ⟨a0,b1⟩
  kernel_rfl
def za5_ (k:Nat):Nat→zT1→(List Int)→Int→(Option Int)→Option Int
 | 0,_,_,_,_=>none
 | n+1,c0,s1,i5,e_0=>(if (decide (i5<(List.length c0:Int)))=true then (if 0≤i5 then (c0[i5.toNat]?).bind fun y_1=>(zfy_ k y_1 s1).bind fun r_2=>(if r_2=true then some i5 else za5_ k n c0 s1 (z0_ (i5+1)) e_0) else none) else e_0)
def zcw_ (k:Nat) (c0:List (List Int)) (s1:List Int):Option Int:=za5_ k k c0 s1 0 (some (-1))
def zg1_:Head:=⟨[(0,(.val (.ptr (.st (.sl 25 (.sl 2 (.int .i64))))))),(1,(.val (.sl 2 (.int .i64)))),(5,(.val (.int .i64)))],[],[]⟩
def zue_:Head:=⟨[],[],[]⟩
def zml_ (k:Nat) (n:Nat) (x:zg1_.T) (kx:Nat→St→Option Int):Option Int:=za5_ k n x.1.1 x.1.2.1 x.1.2.2.1 (kx 0 (zue_.fill ((),(),())))
def zuf_ (k:Nat):Oracles Int:=⟨fun n=>bif Nat.beq n 2 then some (fun σ kx=>zg1_.get σ fun x=>zml_ k k x kx) else none,fun _=>none⟩
def z5b_ (k:Nat):FE:=⟨(.pr (.ptr (.st (.sl 25 (.sl 2 (.int .i64))))) (.sl 2 (.int .i64))),1,(.int .i64),fun x=>zcw_ k x.1 x.2⟩
theorem z16i_ (k:Nat):zd_ (z4_ ti [(76,zg0_ k)] (lk []) z5_ z6_) (zuf_ k) (rdC (z4_ ti [(76,zg0_ k)] (lk []) z5_ z6_) [.tmp 4] (.int .i64)) ((zb_ (z2_ Tryz.f47)).getD 0 .skip) (fun σ kx=>zg1_.get σ fun x=>zml_ k k x kx):=by
 refine ⟨zg1_,[(0,zue_)],fun n x kx=>zml_ k n x kx,k,by kernel_rfl,by kernel_rfl,fun x kx=>by kernel_rfl,?_,fun σ kx=>rfl⟩
 rintro n ⟨⟨c0,s1,i5,⟨⟩⟩,⟨⟩,⟨⟩⟩ kx
 kernel_rfl
theorem zug_ (k:Nat):FnOK Tryz.prog 47 (z5b_ k):=by
 refine za_ (tab:=[(76,zg0_ k)]) (l:=[]) z8_ z9_ mix (List.forall_mem_cons.2 ⟨z16h_ k,(List.forall_mem_nil _)⟩) (List.forall_mem_nil _) ⟨⟨Tryz.f47,(z2_ Tryz.f47),[.tmp 4],(zuf_ k),by kernel_rfl,by kernel_rfl,by kernel_rfl,by kernel_rfl,rfl,by decide,⟨by kernel_rfl,?_,?_⟩,?_⟩⟩
 ·refine zi_ (n:=1) (by kernel_rfl) fun i hi=>?_
  match i,hi with
  | 0,_=>exact ze_ (by kernel_rfl) (z16i_ k)
  | n+1,hi=>omega
 ·exact z7_ (by kernel_rfl)
 ·rintro ⟨c0,s1⟩
  kernel_rfl
end
end Go.Proofs.YthpamdpneanlpaaGreatDoor.Ev
