/- Functions of the program, as plain ones. No conditions. -/
import Derived.Test.YthpamdpneanlpaaGreatDoorG1
import Derived.KernelRfl
set_option linter.unusedVariables false
set_option maxRecDepth 100000
namespace Go.Proofs.YthpamdpneanlpaaGreatDoor.Ev
open Go.RowKit
noncomputable section
def z5d_ (k:Nat):Nat→zT1→Int→(List Int)→Int→(zT1→Int→Option Bool)→Option Bool
 | 0,_,_,_,_,_=>none
 | n+1,c0,i3,s4,k5,e_2=>(if (decide (k5<(List.length s4:Int)))=true then (if (decide (1<(List.length s4:Int)))=true then (zcv_ s4 k5).bind fun r_5=>(zcw_ k c0 r_5).bind fun r_6=>(if (decide (r_6<0))=true then some false else z5d_ k n c0 i3 s4 (z0_ (k5+1)) e_2) else e_2 c0 i3) else e_2 c0 i3)
def z46_ (k:Nat):Nat→zT1→Int→(Option Bool)→Option Bool
 | 0,_,_,_=>none
 | n+1,c0,i3,e_0=>(if (decide (i3<(List.length c0:Int)))=true then (if 0≤i3 then (c0[i3.toNat]?).bind fun y_1=>(zfv_ k y_1).bind fun r_2=>(if (!r_2)=true then some false else (if (decide (0<i3))=true then (if 0≤(z0_ (i3-1)) then (c0[(z0_ (i3-1)).toNat]?).bind fun y_3=>(zfw_ k y_3 y_1).bind fun r_4=>(if (!r_4)=true then some false else z5d_ k k c0 i3 y_1 0 (fun c_5 i_6=>z46_ k n c_5 (z0_ (i_6+1)) e_0)) else none) else z5d_ k k c0 i3 y_1 0 (fun c_7 i_8=>z46_ k n c_7 (z0_ (i_8+1)) e_0))) else none) else e_0)
def zgf_ (k:Nat) (c0:List (List Int)):Option Bool:=(if (decide (48<(List.length c0:Int)))=true then some false else z46_ k k c0 0 (some true))
def zgg_:Head:=⟨[(0,(.val (.ptr (.st (.sl 25 (.sl 2 (.int .i64))))))),(3,(.val (.int .i64))),(4,(.val (.sl 2 (.int .i64)))),(5,(.val (.int .i64)))],[],[]⟩
def zv5_:Head:=⟨[(0,(.val (.ptr (.st (.sl 25 (.sl 2 (.int .i64))))))),(3,(.val (.int .i64)))],[],[]⟩
def zmt_ (k:Nat) (n:Nat) (x:zgg_.T) (kx:Nat→St→Option Bool):Option Bool:=z5d_ k n x.1.1 x.1.2.1 x.1.2.2.1 x.1.2.2.2.1 (fun (c0:List (List Int)) (i3:Int)=>kx 2 (zv5_.fill ((c0,i3,()),(),())))
def zgh_:Head:=⟨[(0,(.val (.ptr (.st (.sl 25 (.sl 2 (.int .i64))))))),(3,(.val (.int .i64)))],[],[]⟩
def zv6_:Head:=⟨[],[],[]⟩
def zmu_ (k:Nat) (n:Nat) (x:zgh_.T) (kx:Nat→St→Option Bool):Option Bool:=z46_ k n x.1.1 x.1.2.1 (kx 0 (zv6_.fill ((),(),())))
def zmv_ (k:Nat):Oracles Bool:=⟨fun n=>bif Nat.beq n 10 then some (fun σ kx=>zgg_.get σ fun x=>zmt_ k k x kx) else bif Nat.beq n 4 then some (fun σ kx=>zgh_.get σ fun x=>zmu_ k k x kx) else none,fun _=>none⟩
def zab_ (k:Nat):FE:=⟨(.ptr (.st (.sl 25 (.sl 2 (.int .i64))))),1,.bool,fun x=>zgf_ k x⟩
theorem z176_ (k:Nat):zd_ (z4_ ti [(70,za0_ k),(71,za2_ k),(48,z5a_),(47,z5b_ k)] (lk []) z5_ z6_) (zmv_ k) (rdC (z4_ ti [(70,za0_ k),(71,za2_ k),(48,z5a_),(47,z5b_ k)] (lk []) z5_ z6_) [.tmp 2] .bool) ((zb_ (z2_ Tryz.f41)).getD 1 .skip) (fun σ kx=>zgg_.get σ fun x=>zmt_ k k x kx):=by
 refine ⟨zgg_,[(2,zv5_)],fun n x kx=>zmt_ k n x kx,k,by kernel_rfl,by kernel_rfl,fun x kx=>by kernel_rfl,?_,fun σ kx=>rfl⟩
 rintro n ⟨⟨c0,i3,s4,k5,⟨⟩⟩,⟨⟩,⟨⟩⟩ kx
 kernel_rfl
theorem z177_ (k:Nat):zd_ (z4_ ti [(70,za0_ k),(71,za2_ k),(48,z5a_),(47,z5b_ k)] (lk []) z5_ z6_) (zmv_ k) (rdC (z4_ ti [(70,za0_ k),(71,za2_ k),(48,z5a_),(47,z5b_ k)] (lk []) z5_ z6_) [.tmp 2] .bool) ((zb_ (z2_ Tryz.f41)).getD 0 .skip) (fun σ kx=>zgh_.get σ fun x=>zmu_ k k x kx):=by
 refine ⟨zgh_,[(0,zv6_)],fun n x kx=>zmu_ k n x kx,k,by kernel_rfl,by kernel_rfl,fun x kx=>by kernel_rfl,?_,fun σ kx=>rfl⟩
 rintro n ⟨⟨c0,i3,⟨⟩⟩,⟨⟩,⟨⟩⟩ kx
 kernel_rfl
theorem z178_ (k:Nat):FnOK Tryz.prog 41 (zab_ k):=by
 refine za_ (tab:=[(70,za0_ k),(71,za2_ k),(48,z5a_),(47,z5b_ k)]) (l:=[]) z8_ z9_ mix (List.forall_mem_cons.2 ⟨z16d_ k,(List.forall_mem_cons.2 ⟨z16f_ k,(List.forall_mem_cons.2 ⟨zub_,(List.forall_mem_cons.2 ⟨zug_ k,(List.forall_mem_nil _)⟩)⟩)⟩)⟩) (List.forall_mem_nil _) ⟨⟨Tryz.f41,(z2_ Tryz.f41),[.tmp 2],(zmv_ k),by kernel_rfl,by kernel_rfl,by kernel_rfl,by kernel_rfl,rfl,by decide,⟨by kernel_rfl,?_,?_⟩,?_⟩⟩
 ·refine zi_ (n:=2) (by kernel_rfl) fun i hi=>?_
  match i,hi with
  | 0,_=>exact ze_ (by kernel_rfl) (z177_ k)
  | 1,_=>exact ze_ (by kernel_rfl) (z176_ k)
  | n+2,hi=>omega
 ·exact z7_ (by kernel_rfl)
 ·rintro c0
  kernel_rfl
def z5e_ (k:Nat):Nat→Int→Int→(Option Bool)→Option Bool
 | 0,_,_,_=>none
 | n+1,p0,k3,e_0=>(if (decide ((z0_ (k3*k3))≤p0))=true then (if k3=0 then none else (if (decide ((Int.tmod p0 k3)=0))=true then some false else z5e_ k n p0 (z0_ (k3+1)) e_0)) else e_0)
def zmw_ (k:Nat) (p0:Int):Option Bool:=(z59_ p0 2 251).bind fun r_1=>(if (!r_1)=true then some false else z5e_ k k p0 2 (some true))
def zgi_:Head:=⟨[(0,(.val (.int .i64))),(3,(.val (.int .i64)))],[],[]⟩
def zv7_:Head:=⟨[],[],[]⟩
def zmx_ (k:Nat) (n:Nat) (x:zgi_.T) (kx:Nat→St→Option Bool):Option Bool:=z5e_ k n x.1.1 x.1.2.1 (kx 0 (zv7_.fill ((),(),())))
def zv8_ (k:Nat):Oracles Bool:=⟨fun n=>bif Nat.beq n 4 then some (fun σ kx=>zgi_.get σ fun x=>zmx_ k k x kx) else none,fun _=>none⟩
def zv9_ (k:Nat):FE:=⟨(.int .i64),1,.bool,fun x=>zmw_ k x⟩
theorem z179_ (k:Nat):zd_ (z4_ ti [(106,z3s_)] (lk []) z5_ z6_) (zv8_ k) (rdC (z4_ ti [(106,z3s_)] (lk []) z5_ z6_) [.tmp 2] .bool) ((zb_ (z2_ Tryz.f72)).getD 0 .skip) (fun σ kx=>zgi_.get σ fun x=>zmx_ k k x kx):=by
 refine ⟨zgi_,[(0,zv7_)],fun n x kx=>zmx_ k n x kx,k,by kernel_rfl,by kernel_rfl,fun x kx=>by kernel_rfl,?_,fun σ kx=>rfl⟩
 rintro n ⟨⟨p0,k3,⟨⟩⟩,⟨⟩,⟨⟩⟩ kx
 kernel_rfl
theorem z17a_ (k:Nat):FnOK Tryz.prog 72 (zv9_ k):=by
 refine za_ (tab:=[(106,z3s_)]) (l:=[]) z8_ z9_ mix (List.forall_mem_cons.2 ⟨zcu_,(List.forall_mem_nil _)⟩) (List.forall_mem_nil _) ⟨⟨Tryz.f72,(z2_ Tryz.f72),[.tmp 2],(zv8_ k),by kernel_rfl,by kernel_rfl,by kernel_rfl,by kernel_rfl,rfl,by decide,⟨by kernel_rfl,?_,?_⟩,?_⟩⟩
 ·refine zi_ (n:=1) (by kernel_rfl) fun i hi=>?_
  match i,hi with
  | 0,_=>exact ze_ (by kernel_rfl) (z179_ k)
  | n+1,hi=>omega
 ·exact z7_ (by kernel_rfl)
 ·rintro p0
  kernel_rfl
def z81_ (k:Nat) (p0:Int):Option Bool:=(zmw_ k p0).bind fun r_1=>some r_1
def z82_ (k:Nat):FE:=⟨(.int .i64),1,.bool,fun x=>z81_ k x⟩
theorem zva_ (k:Nat):FnOK Tryz.prog 42 (z82_ k):=by
 refine za_ (tab:=[(72,zv9_ k)]) (l:=[]) z8_ z9_ mix (List.forall_mem_cons.2 ⟨z17a_ k,(List.forall_mem_nil _)⟩) (List.forall_mem_nil _) ⟨⟨Tryz.f42,(z2_ Tryz.f42),[.tmp 2],(LOn Bool),by kernel_rfl,by kernel_rfl,by kernel_rfl,by kernel_rfl,rfl,by decide,⟨by kernel_rfl,?_,?_⟩,?_⟩⟩
 ·exact zl_ (by kernel_rfl)
 ·exact z7_ (by kernel_rfl)
 ·rintro p0
  kernel_rfl
def zac_ (k:Nat):Nat→(List Int)→Int→Int→Int→((List Int)→Int→Option Bool)→Option Bool
 | 0,_,_,_,_,_=>none
 | n+1,v0,n1,p2,i7,e_0=>(if (decide (i7<(List.length v0:Int)))=true then (if 0≤i7 then (v0[i7.toNat]?).bind fun y_1=>(z59_ y_1 0 (z0_ (p2-1))).bind fun r_2=>(if (!r_2)=true then some false else zac_ k n v0 n1 p2 (z0_ (i7+1)) e_0) else none) else e_0 v0 n1)
def zcz_ (k:Nat) (v0:List Int) (n1:Int) (p2:Int):Option Bool:=zac_ k k v0 n1 p2 0 (fun v_3 n_4=>some (decide ((List.length v_3:Int)=n_4)))
def zgj_:Head:=⟨[(0,(.val (.sl 2 (.int .i64)))),(1,(.val (.int .i64))),(2,(.val (.int .i64))),(7,(.val (.int .i64)))],[],[]⟩
def zvb_:Head:=⟨[(0,(.val (.sl 2 (.int .i64)))),(1,(.val (.int .i64)))],[],[]⟩
def zmy_ (k:Nat) (n:Nat) (x:zgj_.T) (kx:Nat→St→Option Bool):Option Bool:=zac_ k n x.1.1 x.1.2.1 x.1.2.2.1 x.1.2.2.2.1 (fun (v0:List Int) (n1:Int)=>kx 0 (zvb_.fill ((v0,n1,()),(),())))
def zvc_ (k:Nat):Oracles Bool:=⟨fun n=>bif Nat.beq n 2 then some (fun σ kx=>zgj_.get σ fun x=>zmy_ k k x kx) else none,fun _=>none⟩
def zd0_ (k:Nat):FE:=⟨(.pr (.sl 2 (.int .i64)) (.pr (.int .i64) (.int .i64))),1,.bool,fun x=>zcz_ k x.1 x.2.1 x.2.2⟩
theorem z17b_ (k:Nat):zd_ (z4_ ti [(106,z3s_)] (lk []) z5_ z6_) (zvc_ k) (rdC (z4_ ti [(106,z3s_)] (lk []) z5_ z6_) [.tmp 6] .bool) ((zb_ (z2_ Tryz.f73)).getD 0 .skip) (fun σ kx=>zgj_.get σ fun x=>zmy_ k k x kx):=by
 refine ⟨zgj_,[(0,zvb_)],fun n x kx=>zmy_ k n x kx,k,by kernel_rfl,by kernel_rfl,fun x kx=>by kernel_rfl,?_,fun σ kx=>rfl⟩
 rintro n ⟨⟨v0,n1,p2,i7,⟨⟩⟩,⟨⟩,⟨⟩⟩ kx
 kernel_rfl
theorem zvd_ (k:Nat):FnOK Tryz.prog 73 (zd0_ k):=by
 refine za_ (tab:=[(106,z3s_)]) (l:=[]) z8_ z9_ mix (List.forall_mem_cons.2 ⟨zcu_,(List.forall_mem_nil _)⟩) (List.forall_mem_nil _) ⟨⟨Tryz.f73,(z2_ Tryz.f73),[.tmp 6],(zvc_ k),by kernel_rfl,by kernel_rfl,by kernel_rfl,by kernel_rfl,rfl,by decide,⟨by kernel_rfl,?_,?_⟩,?_⟩⟩
 ·refine zi_ (n:=1) (by kernel_rfl) fun i hi=>?_
  match i,hi with
  | 0,_=>exact ze_ (by kernel_rfl) (z17b_ k)
  | n+1,hi=>omega
 ·exact z7_ (by kernel_rfl)
 ·rintro ⟨v0,n1,p2⟩
  kernel_rfl
def z83_ (k:Nat):Nat→zT1→Int→Int→(List Int)→((List Int)→Option (List Int))→Option (List Int)
 | 0,_,_,_,_,_=>none
 | n+1,c0,dimension1,i6,q_1,e_0=>(if (decide (i6<(List.length c0:Int)))=true then (if 0≤i6 then (c0[i6.toNat]?).bind fun y_2=>(if (decide ((List.length y_2:Int)=(z0_ (dimension1+1))))=true then (if (q_1.length+[i6].length)*8≤LIM then z83_ k n c0 dimension1 (z0_ (i6+1)) (q_1++[i6]) e_0 else none) else z83_ k n c0 dimension1 (z0_ (i6+1)) q_1 e_0) else none) else e_0 q_1)
def zgk_ (k:Nat) (c0:List (List Int)) (dimension1:Int):Option (List Int):=z83_ k k c0 dimension1 0 [] (fun q_3=>some q_3)
def zgl_:Head:=⟨[(0,(.val (.ptr (.st (.sl 25 (.sl 2 (.int .i64))))))),(1,(.val (.int .i64))),(5,(.ref 64000000 [])),(6,(.val (.int .i64)))],[(64000000,2,(.int .i64),false)],[]⟩
def zve_:Head:=⟨[(5,(.ref 64000000 []))],[(64000000,2,(.int .i64),false)],[]⟩
def zmz_ (k:Nat) (n:Nat) (x:zgl_.T) (kx:Nat→St→Option (List Int)):Option (List Int):=z83_ k n x.1.1 x.1.2.1 x.1.2.2.2.1 x.2.1.1 (fun (q_3:List Int)=>kx 0 (zve_.fill (((),()),(q_3,()),())))
def zvf_ (k:Nat):Oracles (List Int):=⟨fun n=>bif Nat.beq n 3 then some (fun σ kx=>zgl_.get σ fun x=>zmz_ k k x kx) else none,fun _=>none⟩
def zgm_ (k:Nat):FE:=⟨(.pr (.ptr (.st (.sl 25 (.sl 2 (.int .i64))))) (.int .i64)),1,(.sl 2 (.int .i64)),fun x=>zgk_ k x.1 x.2⟩
theorem z17c_ (k:Nat):zd_ (z4_ ti [] (lk []) z5_ z6_) (zvf_ k) (rdC (z4_ ti [] (lk []) z5_ z6_) [.tmp 4] (.sl 2 (.int .i64))) ((zb_ (z2_ Tryz.f108)).getD 0 .skip) (fun σ kx=>zgl_.get σ fun x=>zmz_ k k x kx):=by
 refine ⟨zgl_,[(0,zve_)],fun n x kx=>zmz_ k n x kx,k,by kernel_rfl,by kernel_rfl,fun x kx=>by kernel_rfl,?_,fun σ kx=>rfl⟩
 rintro n ⟨⟨c0,dimension1,⟨⟩,i6,⟨⟩⟩,⟨q_1,⟨⟩⟩,⟨⟩⟩ kx
 kernel_rfl
theorem z17d_ (k:Nat):FnOK Tryz.prog 108 (zgm_ k):=by
 refine za_ (tab:=[]) (l:=[]) z8_ z9_ mix (List.forall_mem_nil _) (List.forall_mem_nil _) ⟨⟨Tryz.f108,(z2_ Tryz.f108),[.tmp 4],(zvf_ k),by kernel_rfl,by kernel_rfl,by kernel_rfl,by kernel_rfl,rfl,by decide,⟨by kernel_rfl,?_,?_⟩,?_⟩⟩
 ·refine zi_ (n:=1) (by kernel_rfl) fun i hi=>?_
  match i,hi with
  | 0,_=>exact ze_ (by kernel_rfl) (z17c_ k)
  | n+1,hi=>omega
 ·exact z7_ (by kernel_rfl)
 ·rintro ⟨c0,dimension1⟩
  kernel_rfl
def zad_ (k:Nat):Nat→(List Int)→Int→Int→(List Int)→(Int→Option Int)→Option Int
 | 0,_,_,_,_,_=>none
 | n+1,stalks1,sum8,i9,q_2,e_0=>(if (decide (i9<(List.length q_2:Int)))=true then (if 0≤i9∧i9.toNat<List.length q_2 then (q_2[i9.toNat]?).bind fun y_3=>(if 0≤y_3 then (stalks1[y_3.toNat]?).bind fun y_4=>zad_ k n stalks1 (z0_ (sum8+y_4)) (z0_ (i9+1)) q_2 e_0 else none) else none) else e_0 sum8)
def zgn_ (k:Nat) (c0:List (List Int)) (stalks1:List Int) (k2:Int):Option Int:=(zgk_ k c0 k2).bind fun r_1=>zad_ k k stalks1 0 0 r_1 (fun sum_5=>some sum_5)
def zgo_:Head:=⟨[(1,(.val (.sl 2 (.int .i64)))),(7,(.ref 64000000 [])),(8,(.val (.int .i64))),(9,(.val (.int .i64)))],[(64000000,2,(.int .i64),false)],[]⟩
def zvg_:Head:=⟨[(8,(.val (.int .i64)))],[],[]⟩
def zn0_ (k:Nat) (n:Nat) (x:zgo_.T) (kx:Nat→St→Option Int):Option Int:=zad_ k n x.1.1 x.1.2.2.1 x.1.2.2.2.1 x.2.1.1 (fun (sum8:Int)=>kx 0 (zvg_.fill ((sum8,()),(),())))
def zvh_ (k:Nat):Oracles Int:=⟨fun n=>bif Nat.beq n 4 then some (fun σ kx=>zgo_.get σ fun x=>zn0_ k k x kx) else none,fun _=>none⟩
def zgp_ (k:Nat):FE:=⟨(.pr (.ptr (.st (.sl 25 (.sl 2 (.int .i64))))) (.pr (.sl 2 (.int .i64)) (.int .i64))),1,(.int .i64),fun x=>zgn_ k x.1 x.2.1 x.2.2⟩
theorem z17e_ (k:Nat):zd_ (z4_ ti [(108,zgm_ k)] (lk []) z5_ z6_) (zvh_ k) (rdC (z4_ ti [(108,zgm_ k)] (lk []) z5_ z6_) [.tmp 6] (.int .i64)) ((zb_ (z2_ Tryz.f74)).getD 0 .skip) (fun σ kx=>zgo_.get σ fun x=>zn0_ k k x kx):=by
 refine ⟨zgo_,[(0,zvg_)],fun n x kx=>zn0_ k n x kx,k,by kernel_rfl,by kernel_rfl,fun x kx=>by kernel_rfl,?_,fun σ kx=>rfl⟩
 rintro n ⟨⟨stalks1,⟨⟩,sum8,i9,⟨⟩⟩,⟨q_2,⟨⟩⟩,⟨⟩⟩ kx
 kernel_rfl
theorem z17f_ (k:Nat):FnOK Tryz.prog 74 (zgp_ k):=by
 refine za_ (tab:=[(108,zgm_ k)]) (l:=[]) z8_ z9_ mix (List.forall_mem_cons.2 ⟨z17d_ k,(List.forall_mem_nil _)⟩) (List.forall_mem_nil _) ⟨⟨Tryz.f74,(z2_ Tryz.f74),[.tmp 6],(zvh_ k),by kernel_rfl,by kernel_rfl,by kernel_rfl,by kernel_rfl,rfl,by decide,⟨by kernel_rfl,?_,?_⟩,?_⟩⟩
 ·refine zi_ (n:=1) (by kernel_rfl) fun i hi=>?_
  match i,hi with
  | 0,_=>exact ze_ (by kernel_rfl) (z17e_ k)
  | n+1,hi=>omega
 ·exact z7_ (by kernel_rfl)
 ·rintro ⟨c0,stalks1,k2⟩
  kernel_rfl
def zae_ (k:Nat):Nat→zT1→(List Int)→Int→(Option Bool)→Option Bool
 | 0,_,_,_,_=>none
 | n+1,c0,stalks1,k5,e_0=>(if (decide (k5≤3))=true then (zgn_ k c0 stalks1 k5).bind fun r_2=>(if (decide (32<r_2))=true then some false else zae_ k n c0 stalks1 (z0_ (k5+1)) e_0) else e_0)
def zgq_ (k:Nat) (c0:List (List Int)) (stalks1:List Int):Option Bool:=(zcz_ k stalks1 (List.length c0:Int) 4).bind fun r_1=>(if (!r_1)=true then some false else zae_ k k c0 stalks1 0 (some true))
def zgr_:Head:=⟨[(0,(.val (.ptr (.st (.sl 25 (.sl 2 (.int .i64))))))),(1,(.val (.sl 2 (.int .i64)))),(5,(.val (.int .i64)))],[],[]⟩
def zvi_:Head:=⟨[],[],[]⟩
def zn1_ (k:Nat) (n:Nat) (x:zgr_.T) (kx:Nat→St→Option Bool):Option Bool:=zae_ k n x.1.1 x.1.2.1 x.1.2.2.1 (kx 0 (zvi_.fill ((),(),())))
def zvj_ (k:Nat):Oracles Bool:=⟨fun n=>bif Nat.beq n 4 then some (fun σ kx=>zgr_.get σ fun x=>zn1_ k k x kx) else none,fun _=>none⟩
def zaf_ (k:Nat):FE:=⟨(.pr (.ptr (.st (.sl 25 (.sl 2 (.int .i64))))) (.sl 2 (.int .i64))),1,.bool,fun x=>zgq_ k x.1 x.2⟩
theorem z17g_ (k:Nat):zd_ (z4_ ti [(73,zd0_ k),(74,zgp_ k)] (lk []) z5_ z6_) (zvj_ k) (rdC (z4_ ti [(73,zd0_ k),(74,zgp_ k)] (lk []) z5_ z6_) [.tmp 4] .bool) ((zb_ (z2_ Tryz.f43)).getD 0 .skip) (fun σ kx=>zgr_.get σ fun x=>zn1_ k k x kx):=by
 refine ⟨zgr_,[(0,zvi_)],fun n x kx=>zn1_ k n x kx,k,by kernel_rfl,by kernel_rfl,fun x kx=>by kernel_rfl,?_,fun σ kx=>rfl⟩
 rintro n ⟨⟨c0,stalks1,k5,⟨⟩⟩,⟨⟩,⟨⟩⟩ kx
 kernel_rfl
theorem z17h_ (k:Nat):FnOK Tryz.prog 43 (zaf_ k):=by
 refine za_ (tab:=[(73,zd0_ k),(74,zgp_ k)]) (l:=[]) z8_ z9_ mix (List.forall_mem_cons.2 ⟨zvd_ k,(List.forall_mem_cons.2 ⟨z17f_ k,(List.forall_mem_nil _)⟩)⟩) (List.forall_mem_nil _) ⟨⟨Tryz.f43,(z2_ Tryz.f43),[.tmp 4],(zvj_ k),by kernel_rfl,by kernel_rfl,by kernel_rfl,by kernel_rfl,rfl,by decide,⟨by kernel_rfl,?_,?_⟩,?_⟩⟩
 ·refine zi_ (n:=1) (by kernel_rfl) fun i hi=>?_
  match i,hi with
  | 0,_=>exact ze_ (by kernel_rfl) (z17g_ k)
  | n+1,hi=>omega
 ·exact z7_ (by kernel_rfl)
 ·rintro ⟨c0,stalks1⟩
  kernel_rfl
def z84_ (k:Nat):Nat→zT1→Int→Int→Int→Int→(Int→Int→Option Int)→Option Int
 | 0,_,_,_,_,_,_=>none
 | n+1,c0,simplex1,i2,at7,k8,e_0=>(if (decide (k8<simplex1))=true then (if 0≤k8 then (c0[k8.toNat]?).bind fun y_1=>(if (decide (1<(List.length y_1:Int)))=true then (if 0≤k8 then (c0[k8.toNat]?).bind fun y_2=>z84_ k n c0 simplex1 i2 (z0_ (at7+(List.length y_2:Int))) (z0_ (k8+1)) e_0 else none) else z84_ k n c0 simplex1 i2 at7 (z0_ (k8+1)) e_0) else none) else e_0 i2 at7)
def zag_ (k:Nat) (c0:List (List Int)) (simplex1:Int) (i2:Int):Option Int:=z84_ k k c0 simplex1 i2 0 0 (fun i_3 at_4=>some (z0_ (at_4+i_3)))
def zgs_:Head:=⟨[(0,(.val (.ptr (.st (.sl 25 (.sl 2 (.int .i64))))))),(1,(.val (.int .i64))),(2,(.val (.int .i64))),(7,(.val (.int .i64))),(8,(.val (.int .i64)))],[],[]⟩
def zvk_:Head:=⟨[(2,(.val (.int .i64))),(7,(.val (.int .i64)))],[],[]⟩
def zn2_ (k:Nat) (n:Nat) (x:zgs_.T) (kx:Nat→St→Option Int):Option Int:=z84_ k n x.1.1 x.1.2.1 x.1.2.2.1 x.1.2.2.2.1 x.1.2.2.2.2.1 (fun (i2:Int) (at7:Int)=>kx 0 (zvk_.fill ((i2,at7,()),(),())))
def zvl_ (k:Nat):Oracles Int:=⟨fun n=>bif Nat.beq n 3 then some (fun σ kx=>zgs_.get σ fun x=>zn2_ k k x kx) else none,fun _=>none⟩
def z6f_ (k:Nat):FE:=⟨(.pr (.ptr (.st (.sl 25 (.sl 2 (.int .i64))))) (.pr (.int .i64) (.int .i64))),1,(.int .i64),fun x=>zag_ k x.1 x.2.1 x.2.2⟩
theorem z17i_ (k:Nat):zd_ (z4_ ti [] (lk []) z5_ z6_) (zvl_ k) (rdC (z4_ ti [] (lk []) z5_ z6_) [.tmp 6] (.int .i64)) ((zb_ (z2_ Tryz.f46)).getD 0 .skip) (fun σ kx=>zgs_.get σ fun x=>zn2_ k k x kx):=by
 refine ⟨zgs_,[(0,zvk_)],fun n x kx=>zn2_ k n x kx,k,by kernel_rfl,by kernel_rfl,fun x kx=>by kernel_rfl,?_,fun σ kx=>rfl⟩
 rintro n ⟨⟨c0,simplex1,i2,at7,k8,⟨⟩⟩,⟨⟩,⟨⟩⟩ kx
 kernel_rfl
theorem zn3_ (k:Nat):FnOK Tryz.prog 46 (z6f_ k):=by
 refine za_ (tab:=[]) (l:=[]) z8_ z9_ mix (List.forall_mem_nil _) (List.forall_mem_nil _) ⟨⟨Tryz.f46,(z2_ Tryz.f46),[.tmp 6],(zvl_ k),by kernel_rfl,by kernel_rfl,by kernel_rfl,by kernel_rfl,rfl,by decide,⟨by kernel_rfl,?_,?_⟩,?_⟩⟩
 ·refine zi_ (n:=1) (by kernel_rfl) fun i hi=>?_
  match i,hi with
  | 0,_=>exact ze_ (by kernel_rfl) (z17i_ k)
  | n+1,hi=>omega
 ·exact z7_ (by kernel_rfl)
 ·rintro ⟨c0,simplex1,i2⟩
  kernel_rfl
def zgt_ (k:Nat) (c0:List (List Int)):Option Int:=(zag_ k c0 (List.length c0:Int) 0).bind fun r_1=>some r_1
def zah_ (k:Nat):FE:=⟨(.ptr (.st (.sl 25 (.sl 2 (.int .i64))))),1,(.int .i64),fun x=>zgt_ k x⟩
theorem z17j_ (k:Nat):FnOK Tryz.prog 44 (zah_ k):=by
 refine za_ (tab:=[(46,z6f_ k)]) (l:=[]) z8_ z9_ mix (List.forall_mem_cons.2 ⟨zn3_ k,(List.forall_mem_nil _)⟩) (List.forall_mem_nil _) ⟨⟨Tryz.f44,(z2_ Tryz.f44),[.tmp 2],(LOn Int),by kernel_rfl,by kernel_rfl,by kernel_rfl,by kernel_rfl,rfl,by decide,⟨by kernel_rfl,?_,?_⟩,?_⟩⟩
 ·exact zl_ (by kernel_rfl)
 ·exact z7_ (by kernel_rfl)
 ·rintro c0
  kernel_rfl
def z85_ (k:Nat):Nat→zT1→(List Int)→Int→(List Int)→((List Int)→Option (List Int))→Option (List Int)
 | 0,_,_,_,_,_=>none
 | n+1,c0,s5,i7,q_2,e_0=>(if (decide (i7<(List.length s5:Int)))=true then (if (decide (1<(List.length s5:Int)))=true then (zcv_ s5 i7).bind fun r_3=>(zcw_ k c0 r_3).bind fun r_4=>(if (q_2.length+[r_4].length)*8≤LIM then z85_ k n c0 s5 (z0_ (i7+1)) (q_2++[r_4]) e_0 else none) else e_0 q_2) else e_0 q_2)
def zd1_ (k:Nat) (c0:List (List Int)) (k1:Int):Option (List Int):=(if 0≤k1 then (c0[k1.toNat]?).bind fun y_1=>z85_ k k c0 y_1 0 [] (fun q_5=>some q_5) else none)
def zgu_:Head:=⟨[(0,(.val (.ptr (.st (.sl 25 (.sl 2 (.int .i64))))))),(5,(.val (.sl 2 (.int .i64)))),(6,(.ref 64000000 [])),(7,(.val (.int .i64)))],[(64000000,2,(.int .i64),false)],[]⟩
def zvm_:Head:=⟨[(6,(.ref 64000000 []))],[(64000000,2,(.int .i64),false)],[]⟩
def zn4_ (k:Nat) (n:Nat) (x:zgu_.T) (kx:Nat→St→Option (List Int)):Option (List Int):=z85_ k n x.1.1 x.1.2.1 x.1.2.2.2.1 x.2.1.1 (fun (q_5:List Int)=>kx 0 (zvm_.fill (((),()),(q_5,()),())))
def zvn_ (k:Nat):Oracles (List Int):=⟨fun n=>bif Nat.beq n 4 then some (fun σ kx=>zgu_.get σ fun x=>zn4_ k k x kx) else none,fun _=>none⟩
def z5f_ (k:Nat):FE:=⟨(.pr (.ptr (.st (.sl 25 (.sl 2 (.int .i64))))) (.int .i64)),1,(.sl 2 (.int .i64)),fun x=>zd1_ k x.1 x.2⟩
theorem z17k_ (k:Nat):zd_ (z4_ ti [(48,z5a_),(47,z5b_ k)] (lk []) z5_ z6_) (zvn_ k) (rdC (z4_ ti [(48,z5a_),(47,z5b_ k)] (lk []) z5_ z6_) [.tmp 4] (.sl 2 (.int .i64))) ((zb_ (z2_ Tryz.f18)).getD 0 .skip) (fun σ kx=>zgu_.get σ fun x=>zn4_ k k x kx):=by
 refine ⟨zgu_,[(0,zvm_)],fun n x kx=>zn4_ k n x kx,k,by kernel_rfl,by kernel_rfl,fun x kx=>by kernel_rfl,?_,fun σ kx=>rfl⟩
 rintro n ⟨⟨c0,s5,⟨⟩,i7,⟨⟩⟩,⟨q_2,⟨⟩⟩,⟨⟩⟩ kx
 kernel_rfl
theorem zvo_ (k:Nat):FnOK Tryz.prog 18 (z5f_ k):=by
 refine za_ (tab:=[(48,z5a_),(47,z5b_ k)]) (l:=[]) z8_ z9_ mix (List.forall_mem_cons.2 ⟨zub_,(List.forall_mem_cons.2 ⟨zug_ k,(List.forall_mem_nil _)⟩)⟩) (List.forall_mem_nil _) ⟨⟨Tryz.f18,(z2_ Tryz.f18),[.tmp 4],(zvn_ k),by kernel_rfl,by kernel_rfl,by kernel_rfl,by kernel_rfl,rfl,by decide,⟨by kernel_rfl,?_,?_⟩,?_⟩⟩
 ·refine zi_ (n:=1) (by kernel_rfl) fun i hi=>?_
  match i,hi with
  | 0,_=>exact ze_ (by kernel_rfl) (z17k_ k)
  | n+1,hi=>omega
 ·exact z7_ (by kernel_rfl)
 ·rintro ⟨c0,k1⟩
  kernel_rfl
def zai_ (k:Nat) (m0:Int×Int×Int×List Int):Option Bool:=(z81_ k m0.1).bind fun r_1=>(if r_1=true then (z59_ m0.2.1 0 32).bind fun r_2=>(if r_2=true then (z59_ m0.2.2.1 0 32).bind fun r_3=>(if r_3=true then (zcz_ k m0.2.2.2 (z0_ (m0.2.1*m0.2.2.1)) m0.1).bind fun r_4=>some r_4 else some false) else some false) else some false)
def zvp_ (k:Nat):FE:=⟨(.ptr (.st (.pr (.int .i64) (.pr (.int .i64) (.pr (.int .i64) (.sl 2 (.int .i64))))))),1,.bool,fun x=>zai_ k x⟩
theorem z17l_ (k:Nat):FnOK Tryz.prog 75 (zvp_ k):=by
 refine za_ (tab:=[(42,z82_ k),(106,z3s_),(73,zd0_ k)]) (l:=[]) z8_ z9_ mix (List.forall_mem_cons.2 ⟨zva_ k,(List.forall_mem_cons.2 ⟨zcu_,(List.forall_mem_cons.2 ⟨zvd_ k,(List.forall_mem_nil _)⟩)⟩)⟩) (List.forall_mem_nil _) ⟨⟨Tryz.f75,(z2_ Tryz.f75),[.tmp 2],(LOn Bool),by kernel_rfl,by kernel_rfl,by kernel_rfl,by kernel_rfl,rfl,by decide,⟨by kernel_rfl,?_,?_⟩,?_⟩⟩
 ·exact zl_ (by kernel_rfl)
 ·exact z7_ (by kernel_rfl)
 ·rintro m0
  kernel_rfl
def zn5_ (k:Nat) (s0:List (List Int)×Int×List Int×List (Int×Int×Int×List Int)) (simplex1:Int) (i2:Int) (m3:Int×Int×Int×List Int):Option Bool:=(zd1_ k s0.1 simplex1).bind fun r_1=>(if 0≤i2∧i2.toNat<List.length r_1 then (r_1[i2.toNat]?).bind fun y_2=>(zai_ k m3).bind fun r_3=>(if r_3=true then (if (decide (m3.1=s0.2.1))=true then (if 0≤simplex1 then (s0.2.2.1[simplex1.toNat]?).bind fun y_4=>(if (decide (m3.2.1=y_4))=true then (if 0≤y_2 then (s0.2.2.1[y_2.toNat]?).bind fun y_5=>some (decide (m3.2.2.1=y_5)) else none) else some false) else none) else some false) else some false) else none)
def zaj_ (k:Nat):FE:=⟨(.pr (.ptr (.st (.pr (.st (.sl 25 (.sl 2 (.int .i64)))) (.pr (.int .i64) (.pr (.sl 2 (.int .i64)) (.sl 63 (.st (.pr (.int .i64) (.pr (.int .i64) (.pr (.int .i64) (.sl 2 (.int .i64)))))))))))) (.pr (.int .i64) (.pr (.int .i64) (.ptr (.st (.pr (.int .i64) (.pr (.int .i64) (.pr (.int .i64) (.sl 2 (.int .i64)))))))))),1,.bool,fun x=>zn5_ k x.1 x.2.1 x.2.2.1 x.2.2.2⟩
theorem z17m_ (k:Nat):FnOK Tryz.prog 45 (zaj_ k):=by
 refine za_ (tab:=[(18,z5f_ k),(75,zvp_ k)]) (l:=[]) z8_ z9_ mix (List.forall_mem_cons.2 ⟨zvo_ k,(List.forall_mem_cons.2 ⟨z17l_ k,(List.forall_mem_nil _)⟩)⟩) (List.forall_mem_nil _) ⟨⟨Tryz.f45,(z2_ Tryz.f45),[.tmp 8],(LOn Bool),by kernel_rfl,by kernel_rfl,by kernel_rfl,by kernel_rfl,rfl,by decide,⟨by kernel_rfl,?_,?_⟩,?_⟩⟩
 ·exact zl_ (by kernel_rfl)
 ·exact z7_ (by kernel_rfl)
 ·rintro ⟨s0,simplex1,i2,m3⟩
  kernel_rfl
def zak_ (k:Nat):Nat→zT0→Int→Int→(zT0→Int→Option Bool)→Option Bool
 | 0,_,_,_,_=>none
 | n+1,s0,k3,i4,e_2=>(if 0≤k3 then (s0.1[k3.toNat]?).bind fun y_5=>(if (decide (i4<(List.length y_5:Int)))=true then (if 0≤k3 then (s0.1[k3.toNat]?).bind fun y_6=>(if (decide (1<(List.length y_6:Int)))=true then (zag_ k s0.1 k3 i4).bind fun r_7=>(if 0≤r_7 then (s0.2.2.2[r_7.toNat]?).bind fun y_8=>(zn5_ k s0 k3 i4 y_8).bind fun r_9=>(if (!r_9)=true then some false else zak_ k n s0 k3 (z0_ (i4+1)) e_2) else none) else e_2 s0 k3) else none) else e_2 s0 k3) else none)
def z6g_ (k:Nat):Nat→zT0→Int→(Option Bool)→Option Bool
 | 0,_,_,_=>none
 | n+1,s0,k3,e_0=>(if (decide (k3<(List.length s0.1:Int)))=true then zak_ k k s0 k3 0 (fun s_5 k_6=>z6g_ k n s_5 (z0_ (k_6+1)) e_0) else e_0)
def zgv_ (k:Nat) (s0:List (List Int)×Int×List Int×List (Int×Int×Int×List Int)):Option Bool:=(zgf_ k s0.1).bind fun r_1=>(if (!r_1)=true then some false else (z81_ k s0.2.1).bind fun r_2=>(if (!r_2)=true then some false else (zgq_ k s0.1 s0.2.2.1).bind fun r_3=>(if (!r_3)=true then some false else (zgt_ k s0.1).bind fun r_4=>(if (!(decide ((List.length s0.2.2.2:Int)=r_4)))=true then some false else z6g_ k k s0 0 (some true)))))
def zgw_:Head:=⟨[(0,(.val (.ptr (.st (.pr (.st (.sl 25 (.sl 2 (.int .i64)))) (.pr (.int .i64) (.pr (.sl 2 (.int .i64)) (.sl 63 (.st (.pr (.int .i64) (.pr (.int .i64) (.pr (.int .i64) (.sl 2 (.int .i64)))))))))))))),(3,(.val (.int .i64))),(4,(.val (.int .i64)))],[],[]⟩
def zvq_:Head:=⟨[(0,(.val (.ptr (.st (.pr (.st (.sl 25 (.sl 2 (.int .i64)))) (.pr (.int .i64) (.pr (.sl 2 (.int .i64)) (.sl 63 (.st (.pr (.int .i64) (.pr (.int .i64) (.pr (.int .i64) (.sl 2 (.int .i64)))))))))))))),(3,(.val (.int .i64)))],[],[]⟩
def zn6_ (k:Nat) (n:Nat) (x:zgw_.T) (kx:Nat→St→Option Bool):Option Bool:=zak_ k n x.1.1 x.1.2.1 x.1.2.2.1 (fun (s0:List (List Int)×Int×List Int×List (Int×Int×Int×List Int)) (k3:Int)=>kx 2 (zvq_.fill ((s0,k3,()),(),())))
def zgx_:Head:=⟨[(0,(.val (.ptr (.st (.pr (.st (.sl 25 (.sl 2 (.int .i64)))) (.pr (.int .i64) (.pr (.sl 2 (.int .i64)) (.sl 63 (.st (.pr (.int .i64) (.pr (.int .i64) (.pr (.int .i64) (.sl 2 (.int .i64)))))))))))))),(3,(.val (.int .i64)))],[],[]⟩
def zvr_:Head:=⟨[],[],[]⟩
def zn7_ (k:Nat) (n:Nat) (x:zgx_.T) (kx:Nat→St→Option Bool):Option Bool:=z6g_ k n x.1.1 x.1.2.1 (kx 0 (zvr_.fill ((),(),())))
def zn8_ (k:Nat):Oracles Bool:=⟨fun n=>bif Nat.beq n 7 then some (fun σ kx=>zgw_.get σ fun x=>zn6_ k k x kx) else bif Nat.beq n 4 then some (fun σ kx=>zgx_.get σ fun x=>zn7_ k k x kx) else none,fun _=>none⟩
def z6h_ (k:Nat):FE:=⟨(.ptr (.st (.pr (.st (.sl 25 (.sl 2 (.int .i64)))) (.pr (.int .i64) (.pr (.sl 2 (.int .i64)) (.sl 63 (.st (.pr (.int .i64) (.pr (.int .i64) (.pr (.int .i64) (.sl 2 (.int .i64)))))))))))),1,.bool,fun x=>zgv_ k x⟩
theorem z17n_ (k:Nat):zd_ (z4_ ti [(41,zab_ k),(42,z82_ k),(43,zaf_ k),(44,zah_ k),(46,z6f_ k),(45,zaj_ k)] (lk []) z5_ z6_) (zn8_ k) (rdC (z4_ ti [(41,zab_ k),(42,z82_ k),(43,zaf_ k),(44,zah_ k),(46,z6f_ k),(45,zaj_ k)] (lk []) z5_ z6_) [.tmp 2] .bool) ((zb_ (z2_ Tryz.f16)).getD 1 .skip) (fun σ kx=>zgw_.get σ fun x=>zn6_ k k x kx):=by
 refine ⟨zgw_,[(2,zvq_)],fun n x kx=>zn6_ k n x kx,k,by kernel_rfl,by kernel_rfl,fun x kx=>by kernel_rfl,?_,fun σ kx=>rfl⟩
 rintro n ⟨⟨s0,k3,i4,⟨⟩⟩,⟨⟩,⟨⟩⟩ kx
 kernel_rfl
theorem z17o_ (k:Nat):zd_ (z4_ ti [(41,zab_ k),(42,z82_ k),(43,zaf_ k),(44,zah_ k),(46,z6f_ k),(45,zaj_ k)] (lk []) z5_ z6_) (zn8_ k) (rdC (z4_ ti [(41,zab_ k),(42,z82_ k),(43,zaf_ k),(44,zah_ k),(46,z6f_ k),(45,zaj_ k)] (lk []) z5_ z6_) [.tmp 2] .bool) ((zb_ (z2_ Tryz.f16)).getD 0 .skip) (fun σ kx=>zgx_.get σ fun x=>zn7_ k k x kx):=by
 refine ⟨zgx_,[(0,zvr_)],fun n x kx=>zn7_ k n x kx,k,by kernel_rfl,by kernel_rfl,fun x kx=>by kernel_rfl,?_,fun σ kx=>rfl⟩
 rintro n ⟨⟨s0,k3,⟨⟩⟩,⟨⟩,⟨⟩⟩ kx
 kernel_rfl
theorem z17p_ (k:Nat):FnOK Tryz.prog 16 (z6h_ k):=by
 refine za_ (tab:=[(41,zab_ k),(42,z82_ k),(43,zaf_ k),(44,zah_ k),(46,z6f_ k),(45,zaj_ k)]) (l:=[]) z8_ z9_ mix (List.forall_mem_cons.2 ⟨z178_ k,(List.forall_mem_cons.2 ⟨zva_ k,(List.forall_mem_cons.2 ⟨z17h_ k,(List.forall_mem_cons.2 ⟨z17j_ k,(List.forall_mem_cons.2 ⟨zn3_ k,(List.forall_mem_cons.2 ⟨z17m_ k,(List.forall_mem_nil _)⟩)⟩)⟩)⟩)⟩)⟩) (List.forall_mem_nil _) ⟨⟨Tryz.f16,(z2_ Tryz.f16),[.tmp 2],(zn8_ k),by kernel_rfl,by kernel_rfl,by kernel_rfl,by kernel_rfl,rfl,by decide,⟨by kernel_rfl,?_,?_⟩,?_⟩⟩
 ·refine zi_ (n:=2) (by kernel_rfl) fun i hi=>?_
  match i,hi with
  | 0,_=>exact ze_ (by kernel_rfl) (z17o_ k)
  | 1,_=>exact ze_ (by kernel_rfl) (z17n_ k)
  | n+2,hi=>omega
 ·exact z7_ (by kernel_rfl)
 ·rintro s0
  kernel_rfl
end
end Go.Proofs.YthpamdpneanlpaaGreatDoor.Ev
