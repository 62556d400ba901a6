/- Functions of the program, as plain ones. No conditions. -/
import Derived.Test.YtbfbojmkmjhdcaaGreatDoorG8
import Derived.KernelRfl
set_option linter.unusedVariables false
set_option maxRecDepth 100000
namespace Go.Proofs.YtbfbojmkmjhdcaaGreatDoor.Ev
open Go.RowKit
noncomputable section
def zbk_ (k:Nat) (c0:List (List Int)) (s1:List Int):Option Int:=(zjd_ k c0 s1 ()).bind fun r_1=>(if (!r_1.2)=true then some (-1) else some r_1.1)
def qek_ (k:Nat):FE:=⟨(.pr (.st (.sl 25 (.sl 2 (.int .i64)))) (.sl 2 (.int .i64))),1,(.int .i64),fun x=>zbk_ k x.1 x.2⟩
theorem qel_ (k:Nat):FnOK Tryz.prog 153 (qek_ k):=by
 refine za_ (tab:=[(172,qeh_ k)]) (l:=[]) z7_ z9_ mix (List.forall_mem_cons.2 ⟨qej_ k,(List.forall_mem_nil _)⟩) (List.forall_mem_nil _) ⟨⟨Tryz.f153,(z2_ Tryz.f153),[.tmp 4],(LOn Int),by kernel_rfl,by kernel_rfl,by kernel_rfl,by kernel_rfl,rfl,by decide,⟨by kernel_rfl,?_,?_⟩,?_⟩⟩
 ·exact ze_ (by kernel_rfl)
 ·exact z8_ (by kernel_rfl)
 ·rintro ⟨c0,s1⟩
  kernel_rfl
def zje_ (k:Nat) (f0:List Int) (x1:List (List Int)) (x2:Int):Option Bool:=(if 0≤(0:Int)∧(0:Int)≤x2∧x2≤x1.length then (zbk_ k (x1.take x2.toNat) f0).bind fun r_1=>some (decide (r_1<0)) else none)
def qem_ (k:Nat):FE:=⟨(.pr (.sl 2 (.int .i64)) (.pr (.ptr (.st (.sl 25 (.sl 2 (.int .i64))))) (.ptr (.int .i64)))),1,.bool,fun x=>zje_ k x.1 x.2.1 x.2.2⟩
theorem qen_ (k:Nat):FnOK Tryz.prog 152 (qem_ k):=by
 refine za_ (tab:=[(153,qek_ k)]) (l:=[]) z7_ z9_ mix (List.forall_mem_cons.2 ⟨qel_ k,(List.forall_mem_nil _)⟩) (List.forall_mem_nil _) ⟨⟨Tryz.f152,(z2_ Tryz.f152),[.tmp 4],(LOn Bool),by kernel_rfl,by kernel_rfl,by kernel_rfl,by kernel_rfl,rfl,by decide,⟨by kernel_rfl,?_,?_⟩,?_⟩⟩
 ·exact ze_ (by kernel_rfl)
 ·exact z8_ (by kernel_rfl)
 ·rintro ⟨f0,x1,x2⟩
  kernel_rfl
def z9v_ (k:Nat):Nat→zT4→(List (List Int)×Int)→Int→Int→(Option Int)→Option Int
 | 0,_,_,_,_,_=>none
 | n+1,s0,f1,x7,x8,e_0=>(if (decide (x8<x7))=true then (if 0≤x8 then (s0[x8.toNat]?).bind fun y_1=>(zje_ k y_1 f1.1 f1.2).bind fun r_2=>(if r_2=true then some x8 else z9v_ k n s0 f1 x7 (z0_ (x8+1)) e_0) else none) else e_0)
def zjf_ (k:Nat) (s0:List (List Int)) (f1:List (List Int)×Int):Option Int:=z9v_ k k s0 f1 (List.length s0:Int) 0 (some (-1))
def qeo_:Head:=⟨[(0,(.val (.sl 25 (.sl 2 (.int .i64))))),(1,(.val (.fn 152 (.pr (.ptr (.st (.sl 25 (.sl 2 (.int .i64))))) (.ptr (.int .i64)))))),(7,(.val (.int .i64))),(8,(.val (.int .i64)))],[],[]⟩
def qep_:Head:=⟨[],[],[]⟩
def qeq_ (k n:Nat) (x:qeo_.T) (kx:Nat→St→Option Int):Option Int:=z9v_ k n x.1.1 x.1.2.1 x.1.2.2.1 x.1.2.2.2.1 (kx 0 (qep_.fill ((),(),())))
def qer_ (k:Nat):Oracles Int:=⟨fun n=>bif Nat.beq n 2 then some (fun σ kx=>qeo_.get σ fun x=>qeq_ k k x kx) else none,fun _=>none⟩
def qes_ (k:Nat):FE:=⟨(.pr (.sl 25 (.sl 2 (.int .i64))) (.fn 152 (.pr (.ptr (.st (.sl 25 (.sl 2 (.int .i64))))) (.ptr (.int .i64))))),1,(.int .i64),fun x=>zjf_ k x.1 x.2⟩
theorem qet_ (k:Nat):zc_ (z3_ ti [(152,qem_ k)] (lk []) z4_ z5_) (qer_ k) (rdC (z3_ ti [(152,qem_ k)] (lk []) z4_ z5_) [.tmp 4] (.int .i64)) ((zb_ (z2_ Tryz.f170)).getD 0 .skip) (fun σ kx=>qeo_.get σ fun x=>qeq_ k k x kx):=by
 refine ⟨qeo_,[(0,qep_)],fun n x kx=>qeq_ k n x kx,k,by kernel_rfl,by kernel_rfl,fun x kx=>by kernel_rfl,?_,fun σ kx=>rfl⟩
 rintro n ⟨⟨s0,f1,x7,x8,⟨⟩⟩,⟨⟩,⟨⟩⟩ kx
 kernel_rfl
theorem qeu_ (k:Nat):FnOK Tryz.prog 170 (qes_ k):=by
 refine za_ (tab:=[(152,qem_ k)]) (l:=[]) z7_ z9_ mix (List.forall_mem_cons.2 ⟨qen_ k,(List.forall_mem_nil _)⟩) (List.forall_mem_nil _) ⟨⟨Tryz.f170,(z2_ Tryz.f170),[.tmp 4],(qer_ k),by kernel_rfl,by kernel_rfl,by kernel_rfl,by kernel_rfl,rfl,by decide,⟨by kernel_rfl,?_,?_⟩,?_⟩⟩
 ·refine zh_ (n:=1) (by kernel_rfl) fun i hi=>?_
  match i,hi with
  | 0,_=>exact zd_ (by kernel_rfl) (qet_ k)
  | n+1,hi=>omega
 ·exact z8_ (by kernel_rfl)
 ·rintro ⟨s0,f1⟩
  kernel_rfl
def zbl_ (k:Nat) (s0:List (List Int)) (f1:List (List Int)×Int):Option Bool:=(zjf_ k s0 f1).bind fun r_1=>some (decide (0≤r_1))
def qev_ (k:Nat):FE:=⟨(.pr (.sl 25 (.sl 2 (.int .i64))) (.fn 152 (.pr (.ptr (.st (.sl 25 (.sl 2 (.int .i64))))) (.ptr (.int .i64))))),1,.bool,fun x=>zbl_ k x.1 x.2⟩
theorem qew_ (k:Nat):FnOK Tryz.prog 150 (qev_ k):=by
 refine za_ (tab:=[(170,qes_ k)]) (l:=[]) z7_ z9_ mix (List.forall_mem_cons.2 ⟨qeu_ k,(List.forall_mem_nil _)⟩) (List.forall_mem_nil _) ⟨⟨Tryz.f150,(z2_ Tryz.f150),[.tmp 4],(LOn Bool),by kernel_rfl,by kernel_rfl,by kernel_rfl,by kernel_rfl,rfl,by decide,⟨by kernel_rfl,?_,?_⟩,?_⟩⟩
 ·exact ze_ (by kernel_rfl)
 ·exact z8_ (by kernel_rfl)
 ·rintro ⟨s0,f1⟩
  kernel_rfl
def z7f_ (k:Nat):Nat→zT4→Int→Int→zT4→(zT4→Option Bool)→Option Bool
 | 0,_,_,_,_,_=>none
 | n+1,x6,x7,x8,v_1,e_0=>(if (decide (x8<x7))=true then (if 0≤x8 then (x6[x8.toNat]?).bind fun y_1=>(zfj_ k y_1).bind fun r_2=>(if (!r_2)=true then some false else (if (decide (0<x8))=true then (if 0≤(z0_ (x8-1)) then (v_1[(z0_ (x8-1)).toNat]?).bind fun y_3=>(z7d_ k y_3 y_1).bind fun r_4=>(if (decide (0≤r_4))=true then some false else (z9u_ k y_1).bind fun r_5=>(zbl_ k r_5 (v_1,x8)).bind fun r_6=>(if r_6=true then some false else z7f_ k n x6 x7 (z0_ (x8+1)) v_1 e_0)) else none) else (z9u_ k y_1).bind fun r_7=>(zbl_ k r_7 (v_1,x8)).bind fun r_8=>(if r_8=true then some false else z7f_ k n x6 x7 (z0_ (x8+1)) v_1 e_0))) else none) else e_0 v_1)
def ze2_ (k:Nat) (c0:List (List Int)):Option Bool:=z7f_ k k c0 (List.length c0:Int) 0 c0 (fun v_9=>some (decide ((List.length v_9:Int)≤48)))
def qex_:Head:=⟨[(1,(.bp 1 [] 0)),(6,(.val (.sl 25 (.sl 2 (.int .i64))))),(7,(.val (.int .i64))),(8,(.val (.int .i64)))],[],[(1,41,(.val (.st (.sl 25 (.sl 2 (.int .i64))))))]⟩
def qey_:Head:=⟨[(1,(.bp 1 [] 0))],[],[(1,41,(.val (.st (.sl 25 (.sl 2 (.int .i64))))))]⟩
def qez_ (k n:Nat) (x:qex_.T) (kx:Nat→St→Option Bool):Option Bool:=z7f_ k n x.1.2.1 x.1.2.2.1 x.1.2.2.2.1 x.2.2.1 (fun (v_1:List (List Int))=>kx 0 (qey_.fill (((),()),(),(v_1,()))))
def qf0_ (k:Nat):Oracles Bool:=⟨fun n=>bif Nat.beq n 2 then some (fun σ kx=>qex_.get σ fun x=>qez_ k k x kx) else none,fun _=>none⟩
def qf1_ (k:Nat):FE:=⟨(.st (.sl 25 (.sl 2 (.int .i64)))),1,.bool,fun x=>ze2_ k x⟩
theorem qf2_ (k:Nat):zc_ (z3_ ti [(148,qd3_ k),(149,qdr_ k),(151,qea_ k),(150,qev_ k)] (lk []) z4_ z5_) (qf0_ k) (rdC (z3_ ti [(148,qd3_ k),(149,qdr_ k),(151,qea_ k),(150,qev_ k)] (lk []) z4_ z5_) [.tmp 2] .bool) ((zb_ (z2_ Tryz.f119)).getD 0 .skip) (fun σ kx=>qex_.get σ fun x=>qez_ k k x kx):=by
 refine ⟨qex_,[(0,qey_)],fun n x kx=>qez_ k n x kx,k,by kernel_rfl,by kernel_rfl,fun x kx=>by kernel_rfl,?_,fun σ kx=>rfl⟩
 rintro n ⟨⟨⟨⟩,x6,x7,x8,⟨⟩⟩,⟨⟩,⟨v_1,⟨⟩⟩⟩ kx
 kernel_rfl
theorem qf3_ (k:Nat):FnOK Tryz.prog 119 (qf1_ k):=by
 refine za_ (tab:=[(148,qd3_ k),(149,qdr_ k),(151,qea_ k),(150,qev_ k)]) (l:=[]) z7_ z9_ mix (List.forall_mem_cons.2 ⟨qd4_ k,(List.forall_mem_cons.2 ⟨qds_ k,(List.forall_mem_cons.2 ⟨qec_ k,(List.forall_mem_cons.2 ⟨qew_ k,(List.forall_mem_nil _)⟩)⟩)⟩)⟩) (List.forall_mem_nil _) ⟨⟨Tryz.f119,(z2_ Tryz.f119),[.tmp 2],(qf0_ k),by kernel_rfl,by kernel_rfl,by kernel_rfl,by kernel_rfl,rfl,by decide,⟨by kernel_rfl,?_,?_⟩,?_⟩⟩
 ·refine zh_ (n:=1) (by kernel_rfl) fun i hi=>?_
  match i,hi with
  | 0,_=>exact zd_ (by kernel_rfl) (qf2_ k)
  | n+1,hi=>omega
 ·exact z8_ (by kernel_rfl)
 ·rintro c0
  kernel_rfl
def z5e_ (k:Nat):Nat→Int→Int→(Option Bool)→Option Bool
 | 0,_,_,_=>none
 | n+1,p0,d3,e_0=>(if (decide ((z0_ (d3*d3))≤p0))=true then (if d3=0 then none else (if (decide ((Int.tmod p0 d3)=0))=true then some false else z5e_ k n p0 (z0_ (d3+1)) e_0)) else e_0)
def z8o_ (k:Nat) (p0:Int):Option Bool:=(z2d_ p0 2 251).bind fun r_1=>(if (!r_1)=true then some false else z5e_ k k p0 2 (some true))
def qf4_:Head:=⟨[(0,(.val (.int .i64))),(3,(.val (.int .i64)))],[],[]⟩
def qf5_:Head:=⟨[],[],[]⟩
def qf6_ (k n:Nat) (x:qf4_.T) (kx:Nat→St→Option Bool):Option Bool:=z5e_ k n x.1.1 x.1.2.1 (kx 0 (qf5_.fill ((),(),())))
def qf7_ (k:Nat):Oracles Bool:=⟨fun n=>bif Nat.beq n 4 then some (fun σ kx=>qf4_.get σ fun x=>qf6_ k k x kx) else none,fun _=>none⟩
def qf8_ (k:Nat):FE:=⟨(.int .i64),1,.bool,fun x=>z8o_ k x⟩
theorem qf9_ (k:Nat):zc_ (z3_ ti [(124,qco_)] (lk []) z4_ z5_) (qf7_ k) (rdC (z3_ ti [(124,qco_)] (lk []) z4_ z5_) [.tmp 2] .bool) ((zb_ (z2_ Tryz.f120)).getD 0 .skip) (fun σ kx=>qf4_.get σ fun x=>qf6_ k k x kx):=by
 refine ⟨qf4_,[(0,qf5_)],fun n x kx=>qf6_ k n x kx,k,by kernel_rfl,by kernel_rfl,fun x kx=>by kernel_rfl,?_,fun σ kx=>rfl⟩
 rintro n ⟨⟨p0,d3,⟨⟩⟩,⟨⟩,⟨⟩⟩ kx
 kernel_rfl
theorem qfa_ (k:Nat):FnOK Tryz.prog 120 (qf8_ k):=by
 refine za_ (tab:=[(124,qco_)]) (l:=[]) z7_ z9_ mix (List.forall_mem_cons.2 ⟨qcp_,(List.forall_mem_nil _)⟩) (List.forall_mem_nil _) ⟨⟨Tryz.f120,(z2_ Tryz.f120),[.tmp 2],(qf7_ k),by kernel_rfl,by kernel_rfl,by kernel_rfl,by kernel_rfl,rfl,by decide,⟨by kernel_rfl,?_,?_⟩,?_⟩⟩
 ·refine zh_ (n:=1) (by kernel_rfl) fun i hi=>?_
  match i,hi with
  | 0,_=>exact zd_ (by kernel_rfl) (qf9_ k)
  | n+1,hi=>omega
 ·exact z8_ (by kernel_rfl)
 ·rintro p0
  kernel_rfl
def zjg_ (n0:Int):Option Bool:=(z2d_ n0 0 3).bind fun r_1=>some (!r_1)
def qfb_:FE:=⟨(.int .i64),1,.bool,fun x=>zjg_ x⟩
theorem qfc_:FnOK Tryz.prog 154 (qfb_):=by
 refine za_ (tab:=[(124,qco_)]) (l:=[]) z7_ z9_ mix (List.forall_mem_cons.2 ⟨qcp_,(List.forall_mem_nil _)⟩) (List.forall_mem_nil _) ⟨⟨Tryz.f154,(z2_ Tryz.f154),[.tmp 2],(LOn Bool),by kernel_rfl,by kernel_rfl,by kernel_rfl,by kernel_rfl,rfl,by decide,⟨by kernel_rfl,?_,?_⟩,?_⟩⟩
 ·exact ze_ (by kernel_rfl)
 ·exact z8_ (by kernel_rfl)
 ·rintro n0
  kernel_rfl
def z9w_ (k:Nat):Nat→(List Int)→Unit→Int→Int→(Option Int)→Option Int
 | 0,_,_,_,_,_=>none
 | n+1,s0,f1,x7,x8,e_0=>(if (decide (x8<x7))=true then (if 0≤x8 then (s0[x8.toNat]?).bind fun y_1=>(zjg_ y_1).bind fun r_2=>(if r_2=true then some x8 else z9w_ k n s0 f1 x7 (z0_ (x8+1)) e_0) else none) else e_0)
def zjh_ (k:Nat) (s0:List Int) (f1:Unit):Option Int:=z9w_ k k s0 f1 (List.length s0:Int) 0 (some (-1))
def qfd_:Head:=⟨[(0,(.val (.sl 2 (.int .i64)))),(1,(.val (.fn 154 .un))),(7,(.val (.int .i64))),(8,(.val (.int .i64)))],[],[]⟩
def qfe_:Head:=⟨[],[],[]⟩
def qff_ (k n:Nat) (x:qfd_.T) (kx:Nat→St→Option Int):Option Int:=z9w_ k n x.1.1 x.1.2.1 x.1.2.2.1 x.1.2.2.2.1 (kx 0 (qfe_.fill ((),(),())))
def qfg_ (k:Nat):Oracles Int:=⟨fun n=>bif Nat.beq n 2 then some (fun σ kx=>qfd_.get σ fun x=>qff_ k k x kx) else none,fun _=>none⟩
def qfh_ (k:Nat):FE:=⟨(.pr (.sl 2 (.int .i64)) (.fn 154 .un)),1,(.int .i64),fun x=>zjh_ k x.1 x.2⟩
theorem qfi_ (k:Nat):zc_ (z3_ ti [(154,qfb_)] (lk []) z4_ z5_) (qfg_ k) (rdC (z3_ ti [(154,qfb_)] (lk []) z4_ z5_) [.tmp 4] (.int .i64)) ((zb_ (z2_ Tryz.f131)).getD 0 .skip) (fun σ kx=>qfd_.get σ fun x=>qff_ k k x kx):=by
 refine ⟨qfd_,[(0,qfe_)],fun n x kx=>qff_ k n x kx,k,by kernel_rfl,by kernel_rfl,fun x kx=>by kernel_rfl,?_,fun σ kx=>rfl⟩
 rintro n ⟨⟨s0,f1,x7,x8,⟨⟩⟩,⟨⟩,⟨⟩⟩ kx
 kernel_rfl
theorem qfj_ (k:Nat):FnOK Tryz.prog 131 (qfh_ k):=by
 refine za_ (tab:=[(154,qfb_)]) (l:=[]) z7_ z9_ mix (List.forall_mem_cons.2 ⟨qfc_,(List.forall_mem_nil _)⟩) (List.forall_mem_nil _) ⟨⟨Tryz.f131,(z2_ Tryz.f131),[.tmp 4],(qfg_ k),by kernel_rfl,by kernel_rfl,by kernel_rfl,by kernel_rfl,rfl,by decide,⟨by kernel_rfl,?_,?_⟩,?_⟩⟩
 ·refine zh_ (n:=1) (by kernel_rfl) fun i hi=>?_
  match i,hi with
  | 0,_=>exact zd_ (by kernel_rfl) (qfi_ k)
  | n+1,hi=>omega
 ·exact z8_ (by kernel_rfl)
 ·rintro ⟨s0,f1⟩
  kernel_rfl
def zfr_ (k:Nat) (s0:List Int) (f1:Unit):Option Bool:=(zjh_ k s0 f1).bind fun r_1=>some (decide (0≤r_1))
def qfk_ (k:Nat):FE:=⟨(.pr (.sl 2 (.int .i64)) (.fn 154 .un)),1,.bool,fun x=>zfr_ k x.1 x.2⟩
theorem qfl_ (k:Nat):FnOK Tryz.prog 90 (qfk_ k):=by
 refine za_ (tab:=[(131,qfh_ k)]) (l:=[]) z7_ z9_ mix (List.forall_mem_cons.2 ⟨qfj_ k,(List.forall_mem_nil _)⟩) (List.forall_mem_nil _) ⟨⟨Tryz.f90,(z2_ Tryz.f90),[.tmp 4],(LOn Bool),by kernel_rfl,by kernel_rfl,by kernel_rfl,by kernel_rfl,rfl,by decide,⟨by kernel_rfl,?_,?_⟩,?_⟩⟩
 ·exact ze_ (by kernel_rfl)
 ·exact z8_ (by kernel_rfl)
 ·rintro ⟨s0,f1⟩
  kernel_rfl
def z6x_ (list0:List Int):Option Int:=some (List.length list0:Int)
def qfm_:FE:=⟨(.sl 2 (.int .i64)),1,(.int .i64),fun x=>z6x_ x⟩
theorem qfn_:FnOK Tryz.prog 128 (qfm_):=by
 refine za_ (tab:=[]) (l:=[]) z7_ z9_ mix (List.forall_mem_nil _) (List.forall_mem_nil _) ⟨⟨Tryz.f128,(z2_ Tryz.f128),[.tmp 2],(LOn Int),by kernel_rfl,by kernel_rfl,by kernel_rfl,by kernel_rfl,rfl,by decide,⟨by kernel_rfl,?_,?_⟩,?_⟩⟩
 ·exact ze_ (by kernel_rfl)
 ·exact z8_ (by kernel_rfl)
 ·rintro list0
  kernel_rfl
def z7g_ (k:Nat):Nat→Int→zT4→Int→Int→(List Int)→((List Int)→Option (List Int))→Option (List Int)
 | 0,_,_,_,_,_,_=>none
 | n+1,dimension1,x9,x10,x11,q_1,e_0=>(if (decide (x11<x10))=true then (if 0≤x11 then (x9[x11.toNat]?).bind fun y_2=>(z6x_ y_2).bind fun r_3=>(if (decide (r_3=(z0_ (dimension1+1))))=true then (if (q_1.length+[x11].length)*8≤LIM then z7g_ k n dimension1 x9 x10 (z0_ (x11+1)) (q_1++[x11]) e_0 else none) else z7g_ k n dimension1 x9 x10 (z0_ (x11+1)) q_1 e_0) else none) else e_0 q_1)
def zfs_ (k:Nat) (c0:List (List Int)) (dimension1:Int):Option (List Int):=z7g_ k k dimension1 c0 (List.length c0:Int) 0 [] (fun q_4=>some q_4)
def qfo_:Head:=⟨[(1,(.val (.int .i64))),(5,(.ref 64000000 [])),(9,(.val (.sl 25 (.sl 2 (.int .i64))))),(10,(.val (.int .i64))),(11,(.val (.int .i64)))],[(64000000,2,(.int .i64),false)],[]⟩
def qfp_:Head:=⟨[(5,(.ref 64000000 []))],[(64000000,2,(.int .i64),false)],[]⟩
def qfq_ (k n:Nat) (x:qfo_.T) (kx:Nat→St→Option (List Int)):Option (List Int):=z7g_ k n x.1.1 x.1.2.2.1 x.1.2.2.2.1 x.1.2.2.2.2.1 x.2.1.1 (fun (q_4:List Int)=>kx 0 (qfp_.fill (((),()),(q_4,()),())))
def qfr_ (k:Nat):Oracles (List Int):=⟨fun n=>bif Nat.beq n 3 then some (fun σ kx=>qfo_.get σ fun x=>qfq_ k k x kx) else none,fun _=>none⟩
def qfs_ (k:Nat):FE:=⟨(.pr (.st (.sl 25 (.sl 2 (.int .i64)))) (.int .i64)),1,(.sl 2 (.int .i64)),fun x=>zfs_ k x.1 x.2⟩
theorem qft_ (k:Nat):zc_ (z3_ ti [(128,qfm_)] (lk []) z4_ z5_) (qfr_ k) (rdC (z3_ ti [(128,qfm_)] (lk []) z4_ z5_) [.tmp 4] (.sl 2 (.int .i64))) ((zb_ (z2_ Tryz.f130)).getD 0 .skip) (fun σ kx=>qfo_.get σ fun x=>qfq_ k k x kx):=by
 refine ⟨qfo_,[(0,qfp_)],fun n x kx=>qfq_ k n x kx,k,by kernel_rfl,by kernel_rfl,fun x kx=>by kernel_rfl,?_,fun σ kx=>rfl⟩
 rintro n ⟨⟨dimension1,⟨⟩,x9,x10,x11,⟨⟩⟩,⟨q_1,⟨⟩⟩,⟨⟩⟩ kx
 kernel_rfl
theorem qfu_ (k:Nat):FnOK Tryz.prog 130 (qfs_ k):=by
 refine za_ (tab:=[(128,qfm_)]) (l:=[]) z7_ z9_ mix (List.forall_mem_cons.2 ⟨qfn_,(List.forall_mem_nil _)⟩) (List.forall_mem_nil _) ⟨⟨Tryz.f130,(z2_ Tryz.f130),[.tmp 4],(qfr_ k),by kernel_rfl,by kernel_rfl,by kernel_rfl,by kernel_rfl,rfl,by decide,⟨by kernel_rfl,?_,?_⟩,?_⟩⟩
 ·refine zh_ (n:=1) (by kernel_rfl) fun i hi=>?_
  match i,hi with
  | 0,_=>exact zd_ (by kernel_rfl) (qft_ k)
  | n+1,hi=>omega
 ·exact z8_ (by kernel_rfl)
 ·rintro ⟨c0,dimension1⟩
  kernel_rfl
def z9x_ (k:Nat):Nat→Int→Int→Int→(List Int)→zT0→(Int→Option Int)→Option Int
 | 0,_,_,_,_,_,_=>none
 | n+1,sum5,x12,x13,q_2,v_2,e_0=>(if (decide (x13<x12))=true then (if 0≤x13∧x13.toNat<List.length q_2 then (q_2[x13.toNat]?).bind fun y_3=>(if 0≤y_3 then (v_2.2.2.1[y_3.toNat]?).bind fun y_4=>z9x_ k n (z0_ (sum5+y_4)) x12 (z0_ (x13+1)) q_2 v_2 e_0 else none) else none) else e_0 sum5)
def z8r_ (k:Nat) (s0:List (List Int)×Int×List Int×List (Int×Int×Int×List Int)) (k1:Int):Option Int:=(zfs_ k s0.1 k1).bind fun r_1=>z9x_ k k 0 (List.length r_1:Int) 0 r_1 s0 (fun sum_5=>some sum_5)
def qfv_:Head:=⟨[(2,(.bp 2 [] 0)),(5,(.val (.int .i64))),(11,(.ref 64000000 [])),(12,(.val (.int .i64))),(13,(.val (.int .i64)))],[(64000000,2,(.int .i64),false)],[(2,44,(.val (.st (.pr (.st (.sl 25 (.sl 2 (.int .i64)))) (.pr (.int .i64) (.pr (.sl 2 (.int .i64)) (.sl 135 (.st (.pr (.int .i64) (.pr (.int .i64) (.pr (.int .i64) (.sl 2 (.int .i64)))))))))))))]⟩
def qfw_:Head:=⟨[(5,(.val (.int .i64)))],[],[]⟩
def qfx_ (k n:Nat) (x:qfv_.T) (kx:Nat→St→Option Int):Option Int:=z9x_ k n x.1.2.1 x.1.2.2.2.1 x.1.2.2.2.2.1 x.2.1.1 x.2.2.1 (fun (sum5:Int)=>kx 0 (qfw_.fill ((sum5,()),(),())))
def qfy_ (k:Nat):Oracles Int:=⟨fun n=>bif Nat.beq n 3 then some (fun σ kx=>qfv_.get σ fun x=>qfx_ k k x kx) else none,fun _=>none⟩
def qfz_ (k:Nat):FE:=⟨(.pr (.st (.pr (.st (.sl 25 (.sl 2 (.int .i64)))) (.pr (.int .i64) (.pr (.sl 2 (.int .i64)) (.sl 135 (.st (.pr (.int .i64) (.pr (.int .i64) (.pr (.int .i64) (.sl 2 (.int .i64))))))))))) (.int .i64)),1,(.int .i64),fun x=>z8r_ k x.1 x.2⟩
theorem qg0_ (k:Nat):zc_ (z3_ ti [(130,qfs_ k)] (lk []) z4_ z5_) (qfy_ k) (rdC (z3_ ti [(130,qfs_ k)] (lk []) z4_ z5_) [.tmp 4] (.int .i64)) ((zb_ (z2_ Tryz.f88)).getD 0 .skip) (fun σ kx=>qfv_.get σ fun x=>qfx_ k k x kx):=by
 refine ⟨qfv_,[(0,qfw_)],fun n x kx=>qfx_ k n x kx,k,by kernel_rfl,by kernel_rfl,fun x kx=>by kernel_rfl,?_,fun σ kx=>rfl⟩
 rintro n ⟨⟨⟨⟩,sum5,⟨⟩,x12,x13,⟨⟩⟩,⟨q_2,⟨⟩⟩,⟨v_2,⟨⟩⟩⟩ kx
 kernel_rfl
theorem qg1_ (k:Nat):FnOK Tryz.prog 88 (qfz_ k):=by
 refine za_ (tab:=[(130,qfs_ k)]) (l:=[]) z7_ z9_ mix (List.forall_mem_cons.2 ⟨qfu_ k,(List.forall_mem_nil _)⟩) (List.forall_mem_nil _) ⟨⟨Tryz.f88,(z2_ Tryz.f88),[.tmp 4],(qfy_ k),by kernel_rfl,by kernel_rfl,by kernel_rfl,by kernel_rfl,rfl,by decide,⟨by kernel_rfl,?_,?_⟩,?_⟩⟩
 ·refine zh_ (n:=1) (by kernel_rfl) fun i hi=>?_
  match i,hi with
  | 0,_=>exact zd_ (by kernel_rfl) (qg0_ k)
  | n+1,hi=>omega
 ·exact z8_ (by kernel_rfl)
 ·rintro ⟨s0,k1⟩
  kernel_rfl
def z9y_ (k:Nat):Nat→(List Int)→Int→zT4→(Option Bool)→Option Bool
 | 0,_,_,_,_=>none
 | n+1,stalks1,x16,v_2,e_0=>(if (decide (x16<4))=true then (z8r_ k (v_2,(0,(stalks1,[]))) x16).bind fun r_2=>(if (decide (32<r_2))=true then some false else z9y_ k n stalks1 (z0_ (x16+1)) v_2 e_0) else e_0)
def ze3_ (k:Nat) (c0:List (List Int)) (stalks1:List Int):Option Bool:=(if (!(decide ((List.length stalks1:Int)=(List.length c0:Int))))=true then some false else (zfr_ k stalks1 ()).bind fun r_1=>(if r_1=true then some false else z9y_ k k stalks1 0 c0 (some true)))
def qg2_:Head:=⟨[(1,(.val (.sl 2 (.int .i64)))),(2,(.bp 2 [] 0)),(16,(.val (.int .i64)))],[],[(2,41,(.val (.st (.sl 25 (.sl 2 (.int .i64))))))]⟩
def qg3_:Head:=⟨[],[],[]⟩
def qg4_ (k n:Nat) (x:qg2_.T) (kx:Nat→St→Option Bool):Option Bool:=z9y_ k n x.1.1 x.1.2.2.1 x.2.2.1 (kx 0 (qg3_.fill ((),(),())))
def qg5_ (k:Nat):Oracles Bool:=⟨fun n=>bif Nat.beq n 4 then some (fun σ kx=>qg2_.get σ fun x=>qg4_ k k x kx) else none,fun _=>none⟩
def qg6_ (k:Nat):FE:=⟨(.pr (.st (.sl 25 (.sl 2 (.int .i64)))) (.sl 2 (.int .i64))),1,.bool,fun x=>ze3_ k x.1 x.2⟩
theorem qg7_ (k:Nat):zc_ (z3_ ti [(90,qfk_ k),(88,qfz_ k)] (lk []) z4_ z5_) (qg5_ k) (rdC (z3_ ti [(90,qfk_ k),(88,qfz_ k)] (lk []) z4_ z5_) [.tmp 4] .bool) ((zb_ (z2_ Tryz.f121)).getD 0 .skip) (fun σ kx=>qg2_.get σ fun x=>qg4_ k k x kx):=by
 refine ⟨qg2_,[(0,qg3_)],fun n x kx=>qg4_ k n x kx,k,by kernel_rfl,by kernel_rfl,fun x kx=>by kernel_rfl,?_,fun σ kx=>rfl⟩
 rintro n ⟨⟨stalks1,⟨⟩,x16,⟨⟩⟩,⟨⟩,⟨v_2,⟨⟩⟩⟩ kx
 kernel_rfl
theorem qg8_ (k:Nat):FnOK Tryz.prog 121 (qg6_ k):=by
 refine za_ (tab:=[(90,qfk_ k),(88,qfz_ k)]) (l:=[]) z7_ z9_ mix (List.forall_mem_cons.2 ⟨qfl_ k,(List.forall_mem_cons.2 ⟨qg1_ k,(List.forall_mem_nil _)⟩)⟩) (List.forall_mem_nil _) ⟨⟨Tryz.f121,(z2_ Tryz.f121),[.tmp 4],(qg5_ k),by kernel_rfl,by kernel_rfl,by kernel_rfl,by kernel_rfl,rfl,by decide,⟨by kernel_rfl,?_,?_⟩,?_⟩⟩
 ·refine zh_ (n:=1) (by kernel_rfl) fun i hi=>?_
  match i,hi with
  | 0,_=>exact zd_ (by kernel_rfl) (qg7_ k)
  | n+1,hi=>omega
 ·exact z8_ (by kernel_rfl)
 ·rintro ⟨c0,stalks1⟩
  kernel_rfl
def zji_ (list0:List (List Int)):Option Int:=some (List.length list0:Int)
def qg9_:FE:=⟨(.sl 25 (.sl 2 (.int .i64))),1,(.int .i64),fun x=>zji_ x⟩
theorem qga_:FnOK Tryz.prog 155 (qg9_):=by
 refine za_ (tab:=[]) (l:=[]) z7_ z9_ mix (List.forall_mem_nil _) (List.forall_mem_nil _) ⟨⟨Tryz.f155,(z2_ Tryz.f155),[.tmp 2],(LOn Int),by kernel_rfl,by kernel_rfl,by kernel_rfl,by kernel_rfl,rfl,by decide,⟨by kernel_rfl,?_,?_⟩,?_⟩⟩
 ·exact ze_ (by kernel_rfl)
 ·exact z8_ (by kernel_rfl)
 ·rintro list0
  kernel_rfl
def z9z_ (k:Nat):Nat→Int→Int→(List Int)→zT4→zT4→((List Int)→Option (List Int))→Option (List Int)
 | 0,_,_,_,_,_,_=>none
 | n+1,x14,x15,q_3,q_4,v_2,e_0=>(if (decide (x15<x14))=true then (if 0≤x15∧x15.toNat<List.length q_4 then (q_4[x15.toNat]?).bind fun y_5=>(q_4[x15.toNat]?).bind fun y_6=>(zbk_ k v_2 y_6).bind fun r_7=>(if (q_3.length+[r_7].length)*8≤LIM then z9z_ k n x14 (z0_ (x15+1)) (q_3++[r_7]) q_4 v_2 e_0 else none) else none) else e_0 q_3)
def zft_ (k:Nat) (c0:List (List Int)) (k1:Int):Option (List Int):=(if 0≤k1 then (c0[k1.toNat]?).bind fun y_1=>(z9u_ k y_1).bind fun r_2=>z9z_ k k (List.length r_2:Int) 0 [] r_2 c0 (fun q_8=>some q_8) else none)
def qgb_:Head:=⟨[(2,(.bp 2 [] 0)),(5,(.ref 64000000 [])),(13,(.ref 64000001 [])),(14,(.val (.int .i64))),(15,(.val (.int .i64)))],[(64000000,2,(.int .i64),false),(64000001,25,(.sl 2 (.int .i64)),false)],[(2,41,(.val (.st (.sl 25 (.sl 2 (.int .i64))))))]⟩
def qgc_:Head:=⟨[(5,(.ref 64000000 []))],[(64000000,2,(.int .i64),false)],[]⟩
def qgd_ (k n:Nat) (x:qgb_.T) (kx:Nat→St→Option (List Int)):Option (List Int):=z9z_ k n x.1.2.2.2.1 x.1.2.2.2.2.1 x.2.1.1 x.2.1.2.1 x.2.2.1 (fun (q_9:List Int)=>kx 0 (qgc_.fill (((),()),(q_9,()),())))
def qge_ (k:Nat):Oracles (List Int):=⟨fun n=>bif Nat.beq n 3 then some (fun σ kx=>qgb_.get σ fun x=>qgd_ k k x kx) else none,fun _=>none⟩
def qgf_ (k:Nat):FE:=⟨(.pr (.st (.sl 25 (.sl 2 (.int .i64)))) (.int .i64)),1,(.sl 2 (.int .i64)),fun x=>zft_ k x.1 x.2⟩
theorem qgg_ (k:Nat):zc_ (z3_ ti [(151,qea_ k),(153,qek_ k)] (lk []) z4_ z5_) (qge_ k) (rdC (z3_ ti [(151,qea_ k),(153,qek_ k)] (lk []) z4_ z5_) [.tmp 4] (.sl 2 (.int .i64))) ((zb_ (z2_ Tryz.f156)).getD 0 .skip) (fun σ kx=>qgb_.get σ fun x=>qgd_ k k x kx):=by
 refine ⟨qgb_,[(0,qgc_)],fun n x kx=>qgd_ k n x kx,k,by kernel_rfl,by kernel_rfl,fun x kx=>by kernel_rfl,?_,fun σ kx=>rfl⟩
 rintro n ⟨⟨⟨⟩,⟨⟩,⟨⟩,x14,x15,⟨⟩⟩,⟨q_3,q_4,⟨⟩⟩,⟨v_2,⟨⟩⟩⟩ kx
 kernel_rfl
theorem qgh_ (k:Nat):FnOK Tryz.prog 156 (qgf_ k):=by
 refine za_ (tab:=[(151,qea_ k),(153,qek_ k)]) (l:=[]) z7_ z9_ mix (List.forall_mem_cons.2 ⟨qec_ k,(List.forall_mem_cons.2 ⟨qel_ k,(List.forall_mem_nil _)⟩)⟩) (List.forall_mem_nil _) ⟨⟨Tryz.f156,(z2_ Tryz.f156),[.tmp 4],(qge_ k),by kernel_rfl,by kernel_rfl,by kernel_rfl,by kernel_rfl,rfl,by decide,⟨by kernel_rfl,?_,?_⟩,?_⟩⟩
 ·refine zh_ (n:=1) (by kernel_rfl) fun i hi=>?_
  match i,hi with
  | 0,_=>exact zd_ (by kernel_rfl) (qgg_ k)
  | n+1,hi=>omega
 ·exact z8_ (by kernel_rfl)
 ·rintro ⟨c0,k1⟩
  kernel_rfl
def z7h_ (k:Nat):Nat→Int→Int→Int→Int→Int→zT2→(List Int)→zT4→(Int→Int→zT2→zT4→Option zT2)→Option zT2
 | 0,_,_,_,_,_,_,_,_,_=>none
 | n+1,k4,x9,x10,x16,x17,q_4,q_5,v_1,e_2=>(if (decide (x17<x16))=true then (if 0≤x17∧x17.toNat<List.length q_5 then (q_5[x17.toNat]?).bind fun y_6=>(if (q_4.length+[(k4,(x17,y_6))].length)*24≤LIM then z7h_ k n k4 x9 x10 x16 (z0_ (x17+1)) (q_4++[(k4,(x17,y_6))]) q_5 v_1 e_2 else none) else none) else e_2 x9 x10 q_4 v_1)
def za0_ (k:Nat):Nat→Int→Int→zT2→zT4→(zT2→Option zT2)→Option zT2
 | 0,_,_,_,_,_=>none
 | n+1,x9,x10,q_2,v_1,e_0=>(if (decide (x10<x9))=true then (zft_ k v_1 x10).bind fun r_3=>z7h_ k k x10 x9 x10 (List.length r_3:Int) 0 q_2 r_3 v_1 (fun x_4 x_5 q_6 v_7=>za0_ k n x_4 (z0_ (x_5+1)) q_6 v_7 e_0) else e_0 q_2)
def ze4_ (k:Nat) (c0:List (List Int)):Option zT2:=(zji_ c0).bind fun r_1=>za0_ k k r_1 0 [] c0 (fun q_8=>some q_8)
def qgi_:Head:=⟨[(1,(.bp 1 [] 0)),(3,(.ref 64000000 [])),(4,(.val (.int .i64))),(9,(.val (.int .i64))),(10,(.val (.int .i64))),(15,(.ref 64000001 [])),(16,(.val (.int .i64))),(17,(.val (.int .i64)))],[(64000000,177,(.st (.pr (.int .i64) (.pr (.int .i64) (.int .i64)))),false),(64000001,2,(.int .i64),false)],[(1,41,(.val (.st (.sl 25 (.sl 2 (.int .i64))))))]⟩
def qgj_:Head:=⟨[(1,(.bp 1 [] 0)),(3,(.ref 64000000 [])),(9,(.val (.int .i64))),(10,(.val (.int .i64)))],[(64000000,177,(.st (.pr (.int .i64) (.pr (.int .i64) (.int .i64)))),false)],[(1,41,(.val (.st (.sl 25 (.sl 2 (.int .i64))))))]⟩
def qgk_ (k n:Nat) (x:qgi_.T) (kx:Nat→St→Option zT2):Option zT2:=z7h_ k n x.1.2.2.1 x.1.2.2.2.1 x.1.2.2.2.2.1 x.1.2.2.2.2.2.2.1 x.1.2.2.2.2.2.2.2.1 x.2.1.1 x.2.1.2.1 x.2.2.1 (fun (x9:Int) (x10:Int) (q_7:List (Int×Int×Int)) (v_1:List (List Int))=>kx 2 (qgj_.fill (((),(),x9,x10,()),(q_7,()),(v_1,()))))
def qgl_:Head:=⟨[(1,(.bp 1 [] 0)),(3,(.ref 64000000 [])),(9,(.val (.int .i64))),(10,(.val (.int .i64)))],[(64000000,177,(.st (.pr (.int .i64) (.pr (.int .i64) (.int .i64)))),false)],[(1,41,(.val (.st (.sl 25 (.sl 2 (.int .i64))))))]⟩
def qgm_:Head:=⟨[(3,(.ref 64000000 []))],[(64000000,177,(.st (.pr (.int .i64) (.pr (.int .i64) (.int .i64)))),false)],[]⟩
def qgn_ (k n:Nat) (x:qgl_.T) (kx:Nat→St→Option zT2):Option zT2:=za0_ k n x.1.2.2.1 x.1.2.2.2.1 x.2.1.1 x.2.2.1 (fun (q_11:List (Int×Int×Int))=>kx 0 (qgm_.fill (((),()),(q_11,()),())))
def qgo_ (k:Nat):Oracles zT2:=⟨fun n=>bif Nat.beq n 6 then some (fun σ kx=>qgi_.get σ fun x=>qgk_ k k x kx) else bif Nat.beq n 3 then some (fun σ kx=>qgl_.get σ fun x=>qgn_ k k x kx) else none,fun _=>none⟩
def qgp_ (k:Nat):FE:=⟨(.st (.sl 25 (.sl 2 (.int .i64)))),1,(.sl 177 (.st (.pr (.int .i64) (.pr (.int .i64) (.int .i64))))),fun x=>ze4_ k x⟩
theorem qgq_ (k:Nat):zc_ (z3_ ti [(155,qg9_),(156,qgf_ k)] (lk []) z4_ z5_) (qgo_ k) (rdC (z3_ ti [(155,qg9_),(156,qgf_ k)] (lk []) z4_ z5_) [.tmp 2] (.sl 177 (.st (.pr (.int .i64) (.pr (.int .i64) (.int .i64)))))) ((zb_ (z2_ Tryz.f122)).getD 1 .skip) (fun σ kx=>qgi_.get σ fun x=>qgk_ k k x kx):=by
 refine ⟨qgi_,[(2,qgj_)],fun n x kx=>qgk_ k n x kx,k,by kernel_rfl,by kernel_rfl,fun x kx=>by kernel_rfl,?_,fun σ kx=>rfl⟩
 rintro n ⟨⟨⟨⟩,⟨⟩,k4,x9,x10,⟨⟩,x16,x17,⟨⟩⟩,⟨q_4,q_5,⟨⟩⟩,⟨v_1,⟨⟩⟩⟩ kx
 kernel_rfl
theorem qgr_ (k:Nat):zc_ (z3_ ti [(155,qg9_),(156,qgf_ k)] (lk []) z4_ z5_) (qgo_ k) (rdC (z3_ ti [(155,qg9_),(156,qgf_ k)] (lk []) z4_ z5_) [.tmp 2] (.sl 177 (.st (.pr (.int .i64) (.pr (.int .i64) (.int .i64)))))) ((zb_ (z2_ Tryz.f122)).getD 0 .skip) (fun σ kx=>qgl_.get σ fun x=>qgn_ k k x kx):=by
 refine ⟨qgl_,[(0,qgm_)],fun n x kx=>qgn_ k n x kx,k,by kernel_rfl,by kernel_rfl,fun x kx=>by kernel_rfl,?_,fun σ kx=>rfl⟩
 rintro n ⟨⟨⟨⟩,⟨⟩,x9,x10,⟨⟩⟩,⟨q_2,⟨⟩⟩,⟨v_1,⟨⟩⟩⟩ kx
 kernel_rfl
theorem qgs_ (k:Nat):FnOK Tryz.prog 122 (qgp_ k):=by
 refine za_ (tab:=[(155,qg9_),(156,qgf_ k)]) (l:=[]) z7_ z9_ mix (List.forall_mem_cons.2 ⟨qga_,(List.forall_mem_cons.2 ⟨qgh_ k,(List.forall_mem_nil _)⟩)⟩) (List.forall_mem_nil _) ⟨⟨Tryz.f122,(z2_ Tryz.f122),[.tmp 2],(qgo_ k),by kernel_rfl,by kernel_rfl,by kernel_rfl,by kernel_rfl,rfl,by decide,⟨by kernel_rfl,?_,?_⟩,?_⟩⟩
 ·refine zh_ (n:=2) (by kernel_rfl) fun i hi=>?_
  match i,hi with
  | 0,_=>exact zd_ (by kernel_rfl) (qgr_ k)
  | 1,_=>exact zd_ (by kernel_rfl) (qgq_ k)
  | n+2,hi=>omega
 ·exact z8_ (by kernel_rfl)
 ·rintro c0
  kernel_rfl
def ze0_ (n0:Int):Option Bool:=(z2d_ n0 0 32).bind fun r_1=>some r_1
def qgt_:FE:=⟨(.int .i64),1,.bool,fun x=>ze0_ x⟩
theorem qgu_:FnOK Tryz.prog 173 (qgt_):=by
 refine za_ (tab:=[(124,qco_)]) (l:=[]) z7_ z9_ mix (List.forall_mem_cons.2 ⟨qcp_,(List.forall_mem_nil _)⟩) (List.forall_mem_nil _) ⟨⟨Tryz.f173,(z2_ Tryz.f173),[.tmp 2],(LOn Bool),by kernel_rfl,by kernel_rfl,by kernel_rfl,by kernel_rfl,rfl,by decide,⟨by kernel_rfl,?_,?_⟩,?_⟩⟩
 ·exact ze_ (by kernel_rfl)
 ·exact z8_ (by kernel_rfl)
 ·rintro n0
  kernel_rfl
def z3k_ (a0:Int) (p1:Int):Option Bool:=(z2d_ a0 0 (z0_ (p1-1))).bind fun r_1=>some r_1
def qgv_:FE:=⟨(.pr (.int .i64) (.int .i64)),1,.bool,fun x=>z3k_ x.1 x.2⟩
theorem qgw_:FnOK Tryz.prog 125 (qgv_):=by
 refine za_ (tab:=[(124,qco_)]) (l:=[]) z7_ z9_ mix (List.forall_mem_cons.2 ⟨qcp_,(List.forall_mem_nil _)⟩) (List.forall_mem_nil _) ⟨⟨Tryz.f125,(z2_ Tryz.f125),[.tmp 4],(LOn Bool),by kernel_rfl,by kernel_rfl,by kernel_rfl,by kernel_rfl,rfl,by decide,⟨by kernel_rfl,?_,?_⟩,?_⟩⟩
 ·exact ze_ (by kernel_rfl)
 ·exact z8_ (by kernel_rfl)
 ·rintro ⟨a0,p1⟩
  kernel_rfl
end
end Go.Proofs.YtbfbojmkmjhdcaaGreatDoor.Ev
