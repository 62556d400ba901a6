/- Functions of the program, as plain ones. No conditions. -/
import Derived.Test.YtioaaljaohhjiaaGreatDoorG8
import Derived.KernelRfl
set_option linter.unusedVariables false
set_option maxRecDepth 100000
namespace Go.Proofs.YtioaaljaohhjiaaGreatDoor.Ev
open Go.RowKit
noncomputable section
def z85_ (k:Nat):Nat→(List Int)→Int→Int→zT4→(zT4→Option zT4)→Option zT4
 | 0,_,_,_,_,_=>none
 | n+1,s0,x6,x7,q_1,e_0=>(if (decide (x7<x6))=true then (if (decide (1<(List.length s0:Int)))=true then (if 0≤(0:Int)∧(0:Int)≤x7∧x7≤s0.length then (if 0≤(z0_ (x7+1))∧(z0_ (x7+1))≤(s0.length:Int)∧(s0.length:Int)≤s0.length then (zha_ k [(s0.take x7.toNat),((s0.drop ((z0_ (x7+1)).toNat)).take (s0.length-(z0_ (x7+1)).toNat))]).bind fun r_2=>(if (q_1.length+[r_2].length)*24≤LIM then z85_ k n s0 x6 (z0_ (x7+1)) (q_1++[r_2]) e_0 else none) else none) else none) else z85_ k n s0 x6 (z0_ (x7+1)) q_1 e_0) else e_0 q_1)
def z9d_ (k:Nat) (s0:List Int):Option zT4:=z85_ k k s0 (List.length s0:Int) 0 [] (fun q_3=>some q_3)
def qe6_:Head:=⟨[(0,(.val (.sl 2 (.int .i64)))),(3,(.ref 64000000 [])),(6,(.val (.int .i64))),(7,(.val (.int .i64)))],[(64000000,25,(.sl 2 (.int .i64)),false)],[]⟩
def qe7_:Head:=⟨[(3,(.ref 64000000 []))],[(64000000,25,(.sl 2 (.int .i64)),false)],[]⟩
def qe8_ (k n:Nat) (x:qe6_.T) (kx:Nat→St→Option zT4):Option zT4:=z85_ k n x.1.1 x.1.2.2.1 x.1.2.2.2.1 x.2.1.1 (fun (q_3:List (List Int))=>kx 0 (qe7_.fill (((),()),(q_3,()),())))
def qe9_ (k:Nat):Oracles zT4:=⟨fun n=>bif Nat.beq n 3 then some (fun σ kx=>qe6_.get σ fun x=>qe8_ k k x kx) else none,fun _=>none⟩
def qea_ (k:Nat):FE:=⟨(.sl 2 (.int .i64)),1,(.sl 25 (.sl 2 (.int .i64))),fun x=>z9d_ k x⟩
theorem qeb_ (k:Nat):zc_ (z3_ ti [(187,qe2_ k)] (lk []) z4_ z5_) (qe9_ k) (rdC (z3_ ti [(187,qe2_ k)] (lk []) z4_ z5_) [.tmp 2] (.sl 25 (.sl 2 (.int .i64)))) ((zb_ (z2_ Tryz.f165)).getD 0 .skip) (fun σ kx=>qe6_.get σ fun x=>qe8_ k k x kx):=by
 refine ⟨qe6_,[(0,qe7_)],fun n x kx=>qe8_ k n x kx,k,by kernel_rfl,by kernel_rfl,fun x kx=>by kernel_rfl,?_,fun σ kx=>rfl⟩
 rintro n ⟨⟨s0,⟨⟩,x6,x7,⟨⟩⟩,⟨q_1,⟨⟩⟩,⟨⟩⟩ kx
 kernel_rfl
theorem qec_ (k:Nat):FnOK Tryz.prog 165 (qea_ k):=by
 refine za_ (tab:=[(187,qe2_ k)]) (l:=[]) z7_ z9_ mix (List.forall_mem_cons.2 ⟨qe5_ k,(List.forall_mem_nil _)⟩) (List.forall_mem_nil _) ⟨⟨Tryz.f165,(z2_ Tryz.f165),[.tmp 2],(qe9_ k),by kernel_rfl,by kernel_rfl,by kernel_rfl,by kernel_rfl,rfl,by decide,⟨by kernel_rfl,?_,?_⟩,?_⟩⟩
 ·refine zf_ (n:=1) (by kernel_rfl) fun i hi=>?_
  match i,hi with
  | 0,_=>exact zd_ (by kernel_rfl) (qeb_ k)
  | n+1,hi=>omega
 ·exact z8_ (by kernel_rfl)
 ·rintro s0
  kernel_rfl
def z6o_ (k:Nat):Nat→zT4→(List Int)→Unit→Int→Int→Int→(zT4→(List Int)→Unit→Int→Int→Option (Int×Bool))→Option (Int×Bool)
 | 0,_,_,_,_,_,_,_=>none
 | n+1,x0,target1,cmp2,n8,i9,j10,e_0=>(if (decide (i9<j10))=true then (if 0≤(z0_ ((Int.fdiv (z7e_ ((z0_ (i9+j10)))) (2 ^ 1)))) then (x0[(z0_ ((Int.fdiv (z7e_ ((z0_ (i9+j10)))) (2 ^ 1)))).toNat]?).bind fun y_1=>(z84_ k y_1 target1).bind fun r_2=>(if (decide (r_2<0))=true then z6o_ k n x0 target1 cmp2 n8 (z0_ ((z0_ ((Int.fdiv (z7e_ ((z0_ (i9+j10)))) (2 ^ 1))))+1)) j10 e_0 else z6o_ k n x0 target1 cmp2 n8 i9 (z0_ ((Int.fdiv (z7e_ ((z0_ (i9+j10)))) (2 ^ 1)))) e_0) else none) else e_0 x0 target1 cmp2 n8 i9)
def zkp_ (k:Nat) (x0:List (List Int)) (target1:List Int) (cmp2:Unit):Option (Int×Bool):=z6o_ k k x0 target1 cmp2 (List.length x0:Int) 0 (List.length x0:Int) (fun x_3 target_4 cmp_5 n_6 i_7=>(if (decide (i_7<n_6))=true then (if 0≤i_7 then (x_3[i_7.toNat]?).bind fun y_8=>(z84_ k y_8 target_4).bind fun r_9=>some (i_7,(decide (r_9=0))) else none) else some (i_7,false)))
def qed_:Head:=⟨[(0,(.val (.sl 25 (.sl 2 (.int .i64))))),(1,(.val (.sl 2 (.int .i64)))),(2,(.val (.fn 163 .un))),(8,(.val (.int .i64))),(9,(.val (.int .i64))),(10,(.val (.int .i64)))],[],[]⟩
def qee_:Head:=⟨[(0,(.val (.sl 25 (.sl 2 (.int .i64))))),(1,(.val (.sl 2 (.int .i64)))),(2,(.val (.fn 163 .un))),(8,(.val (.int .i64))),(9,(.val (.int .i64)))],[],[]⟩
def qef_ (k n:Nat) (x:qed_.T) (kx:Nat→St→Option (Int×Bool)):Option (Int×Bool):=z6o_ k n x.1.1 x.1.2.1 x.1.2.2.1 x.1.2.2.2.1 x.1.2.2.2.2.1 x.1.2.2.2.2.2.1 (fun (x0:List (List Int)) (target1:List Int) (cmp2:Unit) (n8:Int) (i9:Int)=>kx 0 (qee_.fill ((x0,target1,cmp2,n8,i9,()),(),())))
def qeg_ (k:Nat):Oracles (Int×Bool):=⟨fun n=>bif Nat.beq n 3 then some (fun σ kx=>qed_.get σ fun x=>qef_ k k x kx) else none,fun _=>none⟩
def qeh_ (k:Nat):FE:=⟨(.pr (.sl 25 (.sl 2 (.int .i64))) (.pr (.sl 2 (.int .i64)) (.fn 163 .un))),2,(.pr (.int .i64) .bool),fun x=>zkp_ k x.1 x.2.1 x.2.2⟩
theorem qei_ (k:Nat):zc_ (z3_ ti [(163,qdr_ k)] (lk []) z4_ z5_) (qeg_ k) (rdC (z3_ ti [(163,qdr_ k)] (lk []) z4_ z5_) [.tmp 6,.tmp 7] (.pr (.int .i64) .bool)) ((zb_ (z2_ Tryz.f188)).getD 0 .skip) (fun σ kx=>qed_.get σ fun x=>qef_ k k x kx):=by
 refine ⟨qed_,[(0,qee_)],fun n x kx=>qef_ k n x kx,k,by kernel_rfl,by kernel_rfl,fun x kx=>by kernel_rfl,?_,fun σ kx=>rfl⟩
 rintro n ⟨⟨x0,target1,cmp2,n8,i9,j10,⟨⟩⟩,⟨⟩,⟨⟩⟩ kx
 kernel_rfl
theorem qej_ (k:Nat):FnOK Tryz.prog 188 (qeh_ k):=by
 refine za_ (tab:=[(163,qdr_ k)]) (l:=[]) z7_ z9_ mix (List.forall_mem_cons.2 ⟨qds_ k,(List.forall_mem_nil _)⟩) (List.forall_mem_nil _) ⟨⟨Tryz.f188,(z2_ Tryz.f188),[.tmp 6,.tmp 7],(qeg_ k),by kernel_rfl,by kernel_rfl,by kernel_rfl,by kernel_rfl,rfl,by decide,⟨by kernel_rfl,?_,?_⟩,?_⟩⟩
 ·refine zf_ (n:=1) (by kernel_rfl) fun i hi=>?_
  match i,hi with
  | 0,_=>exact zd_ (by kernel_rfl) (qei_ k)
  | n+1,hi=>omega
 ·exact z8_ (by kernel_rfl)
 ·rintro ⟨x0,target1,cmp2⟩
  kernel_rfl
def zc4_ (k:Nat) (c0:List (List Int)) (s1:List Int):Option Int:=(zkp_ k c0 s1 ()).bind fun r_1=>(if (!r_1.2)=true then some (-1) else some r_1.1)
def qek_ (k:Nat):FE:=⟨(.pr (.st (.sl 25 (.sl 2 (.int .i64)))) (.sl 2 (.int .i64))),1,(.int .i64),fun x=>zc4_ k x.1 x.2⟩
theorem qel_ (k:Nat):FnOK Tryz.prog 167 (qek_ k):=by
 refine za_ (tab:=[(188,qeh_ k)]) (l:=[]) z7_ z9_ mix (List.forall_mem_cons.2 ⟨qej_ k,(List.forall_mem_nil _)⟩) (List.forall_mem_nil _) ⟨⟨Tryz.f167,(z2_ Tryz.f167),[.tmp 4],(LOn Int),by kernel_rfl,by kernel_rfl,by kernel_rfl,by kernel_rfl,rfl,by decide,⟨by kernel_rfl,?_,?_⟩,?_⟩⟩
 ·exact ze_ (by kernel_rfl)
 ·exact z8_ (by kernel_rfl)
 ·rintro ⟨c0,s1⟩
  kernel_rfl
def zkq_ (k:Nat) (f0:List Int) (x1:List (List Int)) (x2:Int):Option Bool:=(if 0≤(0:Int)∧(0:Int)≤x2∧x2≤x1.length then (zc4_ k (x1.take x2.toNat) f0).bind fun r_1=>some (decide (r_1<0)) else none)
def qem_ (k:Nat):FE:=⟨(.pr (.sl 2 (.int .i64)) (.pr (.ptr (.st (.sl 25 (.sl 2 (.int .i64))))) (.ptr (.int .i64)))),1,.bool,fun x=>zkq_ k x.1 x.2.1 x.2.2⟩
theorem qen_ (k:Nat):FnOK Tryz.prog 166 (qem_ k):=by
 refine za_ (tab:=[(167,qek_ k)]) (l:=[]) z7_ z9_ mix (List.forall_mem_cons.2 ⟨qel_ k,(List.forall_mem_nil _)⟩) (List.forall_mem_nil _) ⟨⟨Tryz.f166,(z2_ Tryz.f166),[.tmp 4],(LOn Bool),by kernel_rfl,by kernel_rfl,by kernel_rfl,by kernel_rfl,rfl,by decide,⟨by kernel_rfl,?_,?_⟩,?_⟩⟩
 ·exact ze_ (by kernel_rfl)
 ·exact z8_ (by kernel_rfl)
 ·rintro ⟨f0,x1,x2⟩
  kernel_rfl
def zat_ (k:Nat):Nat→zT4→(List (List Int)×Int)→Int→Int→(Option Int)→Option Int
 | 0,_,_,_,_,_=>none
 | n+1,s0,f1,x7,x8,e_0=>(if (decide (x8<x7))=true then (if 0≤x8 then (s0[x8.toNat]?).bind fun y_1=>(zkq_ k y_1 f1.1 f1.2).bind fun r_2=>(if r_2=true then some x8 else zat_ k n s0 f1 x7 (z0_ (x8+1)) e_0) else none) else e_0)
def zkr_ (k:Nat) (s0:List (List Int)) (f1:List (List Int)×Int):Option Int:=zat_ k k s0 f1 (List.length s0:Int) 0 (some (-1))
def qeo_:Head:=⟨[(0,(.val (.sl 25 (.sl 2 (.int .i64))))),(1,(.val (.fn 166 (.pr (.ptr (.st (.sl 25 (.sl 2 (.int .i64))))) (.ptr (.int .i64)))))),(7,(.val (.int .i64))),(8,(.val (.int .i64)))],[],[]⟩
def qep_:Head:=⟨[],[],[]⟩
def qeq_ (k n:Nat) (x:qeo_.T) (kx:Nat→St→Option Int):Option Int:=zat_ k n x.1.1 x.1.2.1 x.1.2.2.1 x.1.2.2.2.1 (kx 0 (qep_.fill ((),(),())))
def qer_ (k:Nat):Oracles Int:=⟨fun n=>bif Nat.beq n 2 then some (fun σ kx=>qeo_.get σ fun x=>qeq_ k k x kx) else none,fun _=>none⟩
def qes_ (k:Nat):FE:=⟨(.pr (.sl 25 (.sl 2 (.int .i64))) (.fn 166 (.pr (.ptr (.st (.sl 25 (.sl 2 (.int .i64))))) (.ptr (.int .i64))))),1,(.int .i64),fun x=>zkr_ k x.1 x.2⟩
theorem qet_ (k:Nat):zc_ (z3_ ti [(166,qem_ k)] (lk []) z4_ z5_) (qer_ k) (rdC (z3_ ti [(166,qem_ k)] (lk []) z4_ z5_) [.tmp 4] (.int .i64)) ((zb_ (z2_ Tryz.f186)).getD 0 .skip) (fun σ kx=>qeo_.get σ fun x=>qeq_ k k x kx):=by
 refine ⟨qeo_,[(0,qep_)],fun n x kx=>qeq_ k n x kx,k,by kernel_rfl,by kernel_rfl,fun x kx=>by kernel_rfl,?_,fun σ kx=>rfl⟩
 rintro n ⟨⟨s0,f1,x7,x8,⟨⟩⟩,⟨⟩,⟨⟩⟩ kx
 kernel_rfl
theorem qeu_ (k:Nat):FnOK Tryz.prog 186 (qes_ k):=by
 refine za_ (tab:=[(166,qem_ k)]) (l:=[]) z7_ z9_ mix (List.forall_mem_cons.2 ⟨qen_ k,(List.forall_mem_nil _)⟩) (List.forall_mem_nil _) ⟨⟨Tryz.f186,(z2_ Tryz.f186),[.tmp 4],(qer_ k),by kernel_rfl,by kernel_rfl,by kernel_rfl,by kernel_rfl,rfl,by decide,⟨by kernel_rfl,?_,?_⟩,?_⟩⟩
 ·refine zf_ (n:=1) (by kernel_rfl) fun i hi=>?_
  match i,hi with
  | 0,_=>exact zd_ (by kernel_rfl) (qet_ k)
  | n+1,hi=>omega
 ·exact z8_ (by kernel_rfl)
 ·rintro ⟨s0,f1⟩
  kernel_rfl
def zcn_ (k:Nat) (s0:List (List Int)) (f1:List (List Int)×Int):Option Bool:=(zkr_ k s0 f1).bind fun r_1=>some (decide (0≤r_1))
def qev_ (k:Nat):FE:=⟨(.pr (.sl 25 (.sl 2 (.int .i64))) (.fn 166 (.pr (.ptr (.st (.sl 25 (.sl 2 (.int .i64))))) (.ptr (.int .i64))))),1,.bool,fun x=>zcn_ k x.1 x.2⟩
theorem qew_ (k:Nat):FnOK Tryz.prog 164 (qev_ k):=by
 refine za_ (tab:=[(186,qes_ k)]) (l:=[]) z7_ z9_ mix (List.forall_mem_cons.2 ⟨qeu_ k,(List.forall_mem_nil _)⟩) (List.forall_mem_nil _) ⟨⟨Tryz.f164,(z2_ Tryz.f164),[.tmp 4],(LOn Bool),by kernel_rfl,by kernel_rfl,by kernel_rfl,by kernel_rfl,rfl,by decide,⟨by kernel_rfl,?_,?_⟩,?_⟩⟩
 ·exact ze_ (by kernel_rfl)
 ·exact z8_ (by kernel_rfl)
 ·rintro ⟨s0,f1⟩
  kernel_rfl
def z86_ (k:Nat):Nat→zT4→Int→Int→zT4→(zT4→Option Bool)→Option Bool
 | 0,_,_,_,_,_=>none
 | n+1,x6,x7,x8,v_1,e_0=>(if (decide (x8<x7))=true then (if 0≤x8 then (x6[x8.toNat]?).bind fun y_1=>(zh3_ k y_1).bind fun r_2=>(if (!r_2)=true then some false else (if (decide (0<x8))=true then (if 0≤(z0_ (x8-1)) then (v_1[(z0_ (x8-1)).toNat]?).bind fun y_3=>(z84_ k y_3 y_1).bind fun r_4=>(if (decide (0≤r_4))=true then some false else (z9d_ k y_1).bind fun r_5=>(zcn_ k r_5 (v_1,x8)).bind fun r_6=>(if r_6=true then some false else z86_ k n x6 x7 (z0_ (x8+1)) v_1 e_0)) else none) else (z9d_ k y_1).bind fun r_7=>(zcn_ k r_7 (v_1,x8)).bind fun r_8=>(if r_8=true then some false else z86_ k n x6 x7 (z0_ (x8+1)) v_1 e_0))) else none) else e_0 v_1)
def zf9_ (k:Nat) (c0:List (List Int)):Option Bool:=z86_ k k c0 (List.length c0:Int) 0 c0 (fun v_9=>some (decide ((List.length v_9:Int)≤48)))
def qex_:Head:=⟨[(1,(.bp 1 [] 0)),(6,(.val (.sl 25 (.sl 2 (.int .i64))))),(7,(.val (.int .i64))),(8,(.val (.int .i64)))],[],[(1,41,(.val (.st (.sl 25 (.sl 2 (.int .i64))))))]⟩
def qey_:Head:=⟨[(1,(.bp 1 [] 0))],[],[(1,41,(.val (.st (.sl 25 (.sl 2 (.int .i64))))))]⟩
def qez_ (k n:Nat) (x:qex_.T) (kx:Nat→St→Option Bool):Option Bool:=z86_ k n x.1.2.1 x.1.2.2.1 x.1.2.2.2.1 x.2.2.1 (fun (v_1:List (List Int))=>kx 0 (qey_.fill (((),()),(),(v_1,()))))
def qf0_ (k:Nat):Oracles Bool:=⟨fun n=>bif Nat.beq n 2 then some (fun σ kx=>qex_.get σ fun x=>qez_ k k x kx) else none,fun _=>none⟩
def qf1_ (k:Nat):FE:=⟨(.st (.sl 25 (.sl 2 (.int .i64)))),1,.bool,fun x=>zf9_ k x⟩
theorem qf2_ (k:Nat):zc_ (z3_ ti [(162,qd3_ k),(163,qdr_ k),(165,qea_ k),(164,qev_ k)] (lk []) z4_ z5_) (qf0_ k) (rdC (z3_ ti [(162,qd3_ k),(163,qdr_ k),(165,qea_ k),(164,qev_ k)] (lk []) z4_ z5_) [.tmp 2] .bool) ((zb_ (z2_ Tryz.f124)).getD 0 .skip) (fun σ kx=>qex_.get σ fun x=>qez_ k k x kx):=by
 refine ⟨qex_,[(0,qey_)],fun n x kx=>qez_ k n x kx,k,by kernel_rfl,by kernel_rfl,fun x kx=>by kernel_rfl,?_,fun σ kx=>rfl⟩
 rintro n ⟨⟨⟨⟩,x6,x7,x8,⟨⟩⟩,⟨⟩,⟨v_1,⟨⟩⟩⟩ kx
 kernel_rfl
theorem qf3_ (k:Nat):FnOK Tryz.prog 124 (qf1_ k):=by
 refine za_ (tab:=[(162,qd3_ k),(163,qdr_ k),(165,qea_ k),(164,qev_ k)]) (l:=[]) z7_ z9_ mix (List.forall_mem_cons.2 ⟨qd4_ k,(List.forall_mem_cons.2 ⟨qds_ k,(List.forall_mem_cons.2 ⟨qec_ k,(List.forall_mem_cons.2 ⟨qew_ k,(List.forall_mem_nil _)⟩)⟩)⟩)⟩) (List.forall_mem_nil _) ⟨⟨Tryz.f124,(z2_ Tryz.f124),[.tmp 2],(qf0_ k),by kernel_rfl,by kernel_rfl,by kernel_rfl,by kernel_rfl,rfl,by decide,⟨by kernel_rfl,?_,?_⟩,?_⟩⟩
 ·refine zf_ (n:=1) (by kernel_rfl) fun i hi=>?_
  match i,hi with
  | 0,_=>exact zd_ (by kernel_rfl) (qf2_ k)
  | n+1,hi=>omega
 ·exact z8_ (by kernel_rfl)
 ·rintro c0
  kernel_rfl
def z5i_ (k:Nat):Nat→Int→Int→(Option Bool)→Option Bool
 | 0,_,_,_=>none
 | n+1,p0,d3,e_0=>(if (decide ((z0_ (d3*d3))≤p0))=true then (if d3=0 then none else (if (decide ((Int.tmod p0 d3)=0))=true then some false else z5i_ k n p0 (z0_ (d3+1)) e_0)) else e_0)
def z9g_ (k:Nat) (p0:Int):Option Bool:=(z2e_ p0 2 251).bind fun r_1=>(if (!r_1)=true then some false else z5i_ k k p0 2 (some true))
def qf4_:Head:=⟨[(0,(.val (.int .i64))),(3,(.val (.int .i64)))],[],[]⟩
def qf5_:Head:=⟨[],[],[]⟩
def qf6_ (k n:Nat) (x:qf4_.T) (kx:Nat→St→Option Bool):Option Bool:=z5i_ k n x.1.1 x.1.2.1 (kx 0 (qf5_.fill ((),(),())))
def qf7_ (k:Nat):Oracles Bool:=⟨fun n=>bif Nat.beq n 4 then some (fun σ kx=>qf4_.get σ fun x=>qf6_ k k x kx) else none,fun _=>none⟩
def qf8_ (k:Nat):FE:=⟨(.int .i64),1,.bool,fun x=>z9g_ k x⟩
theorem qf9_ (k:Nat):zc_ (z3_ ti [(129,qco_)] (lk []) z4_ z5_) (qf7_ k) (rdC (z3_ ti [(129,qco_)] (lk []) z4_ z5_) [.tmp 2] .bool) ((zb_ (z2_ Tryz.f125)).getD 0 .skip) (fun σ kx=>qf4_.get σ fun x=>qf6_ k k x kx):=by
 refine ⟨qf4_,[(0,qf5_)],fun n x kx=>qf6_ k n x kx,k,by kernel_rfl,by kernel_rfl,fun x kx=>by kernel_rfl,?_,fun σ kx=>rfl⟩
 rintro n ⟨⟨p0,d3,⟨⟩⟩,⟨⟩,⟨⟩⟩ kx
 kernel_rfl
theorem qfa_ (k:Nat):FnOK Tryz.prog 125 (qf8_ k):=by
 refine za_ (tab:=[(129,qco_)]) (l:=[]) z7_ z9_ mix (List.forall_mem_cons.2 ⟨qcp_,(List.forall_mem_nil _)⟩) (List.forall_mem_nil _) ⟨⟨Tryz.f125,(z2_ Tryz.f125),[.tmp 2],(qf7_ k),by kernel_rfl,by kernel_rfl,by kernel_rfl,by kernel_rfl,rfl,by decide,⟨by kernel_rfl,?_,?_⟩,?_⟩⟩
 ·refine zf_ (n:=1) (by kernel_rfl) fun i hi=>?_
  match i,hi with
  | 0,_=>exact zd_ (by kernel_rfl) (qf9_ k)
  | n+1,hi=>omega
 ·exact z8_ (by kernel_rfl)
 ·rintro p0
  kernel_rfl
def zks_ (n0:Int):Option Bool:=(z2e_ n0 0 3).bind fun r_1=>some (!r_1)
def qfb_:FE:=⟨(.int .i64),1,.bool,fun x=>zks_ x⟩
theorem qfc_:FnOK Tryz.prog 168 (qfb_):=by
 refine za_ (tab:=[(129,qco_)]) (l:=[]) z7_ z9_ mix (List.forall_mem_cons.2 ⟨qcp_,(List.forall_mem_nil _)⟩) (List.forall_mem_nil _) ⟨⟨Tryz.f168,(z2_ Tryz.f168),[.tmp 2],(LOn Bool),by kernel_rfl,by kernel_rfl,by kernel_rfl,by kernel_rfl,rfl,by decide,⟨by kernel_rfl,?_,?_⟩,?_⟩⟩
 ·exact ze_ (by kernel_rfl)
 ·exact z8_ (by kernel_rfl)
 ·rintro n0
  kernel_rfl
def zau_ (k:Nat):Nat→(List Int)→Unit→Int→Int→(Option Int)→Option Int
 | 0,_,_,_,_,_=>none
 | n+1,s0,f1,x7,x8,e_0=>(if (decide (x8<x7))=true then (if 0≤x8 then (s0[x8.toNat]?).bind fun y_1=>(zks_ y_1).bind fun r_2=>(if r_2=true then some x8 else zau_ k n s0 f1 x7 (z0_ (x8+1)) e_0) else none) else e_0)
def zkt_ (k:Nat) (s0:List Int) (f1:Unit):Option Int:=zau_ k k s0 f1 (List.length s0:Int) 0 (some (-1))
def qfd_:Head:=⟨[(0,(.val (.sl 2 (.int .i64)))),(1,(.val (.fn 168 .un))),(7,(.val (.int .i64))),(8,(.val (.int .i64)))],[],[]⟩
def qfe_:Head:=⟨[],[],[]⟩
def qff_ (k n:Nat) (x:qfd_.T) (kx:Nat→St→Option Int):Option Int:=zau_ k n x.1.1 x.1.2.1 x.1.2.2.1 x.1.2.2.2.1 (kx 0 (qfe_.fill ((),(),())))
def qfg_ (k:Nat):Oracles Int:=⟨fun n=>bif Nat.beq n 2 then some (fun σ kx=>qfd_.get σ fun x=>qff_ k k x kx) else none,fun _=>none⟩
def qfh_ (k:Nat):FE:=⟨(.pr (.sl 2 (.int .i64)) (.fn 168 .un)),1,(.int .i64),fun x=>zkt_ k x.1 x.2⟩
theorem qfi_ (k:Nat):zc_ (z3_ ti [(168,qfb_)] (lk []) z4_ z5_) (qfg_ k) (rdC (z3_ ti [(168,qfb_)] (lk []) z4_ z5_) [.tmp 4] (.int .i64)) ((zb_ (z2_ Tryz.f145)).getD 0 .skip) (fun σ kx=>qfd_.get σ fun x=>qff_ k k x kx):=by
 refine ⟨qfd_,[(0,qfe_)],fun n x kx=>qff_ k n x kx,k,by kernel_rfl,by kernel_rfl,fun x kx=>by kernel_rfl,?_,fun σ kx=>rfl⟩
 rintro n ⟨⟨s0,f1,x7,x8,⟨⟩⟩,⟨⟩,⟨⟩⟩ kx
 kernel_rfl
theorem qfj_ (k:Nat):FnOK Tryz.prog 145 (qfh_ k):=by
 refine za_ (tab:=[(168,qfb_)]) (l:=[]) z7_ z9_ mix (List.forall_mem_cons.2 ⟨qfc_,(List.forall_mem_nil _)⟩) (List.forall_mem_nil _) ⟨⟨Tryz.f145,(z2_ Tryz.f145),[.tmp 4],(qfg_ k),by kernel_rfl,by kernel_rfl,by kernel_rfl,by kernel_rfl,rfl,by decide,⟨by kernel_rfl,?_,?_⟩,?_⟩⟩
 ·refine zf_ (n:=1) (by kernel_rfl) fun i hi=>?_
  match i,hi with
  | 0,_=>exact zd_ (by kernel_rfl) (qfi_ k)
  | n+1,hi=>omega
 ·exact z8_ (by kernel_rfl)
 ·rintro ⟨s0,f1⟩
  kernel_rfl
def zhb_ (k:Nat) (s0:List Int) (f1:Unit):Option Bool:=(zkt_ k s0 f1).bind fun r_1=>some (decide (0≤r_1))
def qfk_ (k:Nat):FE:=⟨(.pr (.sl 2 (.int .i64)) (.fn 168 .un)),1,.bool,fun x=>zhb_ k x.1 x.2⟩
theorem qfl_ (k:Nat):FnOK Tryz.prog 95 (qfk_ k):=by
 refine za_ (tab:=[(145,qfh_ k)]) (l:=[]) z7_ z9_ mix (List.forall_mem_cons.2 ⟨qfj_ k,(List.forall_mem_nil _)⟩) (List.forall_mem_nil _) ⟨⟨Tryz.f95,(z2_ Tryz.f95),[.tmp 4],(LOn Bool),by kernel_rfl,by kernel_rfl,by kernel_rfl,by kernel_rfl,rfl,by decide,⟨by kernel_rfl,?_,?_⟩,?_⟩⟩
 ·exact ze_ (by kernel_rfl)
 ·exact z8_ (by kernel_rfl)
 ·rintro ⟨s0,f1⟩
  kernel_rfl
def z4p_ (list0:List Int):Option Int:=some (List.length list0:Int)
def qfm_:FE:=⟨(.sl 2 (.int .i64)),1,(.int .i64),fun x=>z4p_ x⟩
theorem qfn_:FnOK Tryz.prog 133 (qfm_):=by
 refine za_ (tab:=[]) (l:=[]) z7_ z9_ mix (List.forall_mem_nil _) (List.forall_mem_nil _) ⟨⟨Tryz.f133,(z2_ Tryz.f133),[.tmp 2],(LOn Int),by kernel_rfl,by kernel_rfl,by kernel_rfl,by kernel_rfl,rfl,by decide,⟨by kernel_rfl,?_,?_⟩,?_⟩⟩
 ·exact ze_ (by kernel_rfl)
 ·exact z8_ (by kernel_rfl)
 ·rintro list0
  kernel_rfl
def z87_ (k:Nat):Nat→Int→zT4→Int→Int→(List Int)→((List Int)→Option (List Int))→Option (List Int)
 | 0,_,_,_,_,_,_=>none
 | n+1,dimension1,x9,x10,x11,q_1,e_0=>(if (decide (x11<x10))=true then (if 0≤x11 then (x9[x11.toNat]?).bind fun y_2=>(z4p_ y_2).bind fun r_3=>(if (decide (r_3=(z0_ (dimension1+1))))=true then (if (q_1.length+[x11].length)*8≤LIM then z87_ k n dimension1 x9 x10 (z0_ (x11+1)) (q_1++[x11]) e_0 else none) else z87_ k n dimension1 x9 x10 (z0_ (x11+1)) q_1 e_0) else none) else e_0 q_1)
def z7j_ (k:Nat) (c0:List (List Int)) (dimension1:Int):Option (List Int):=z87_ k k dimension1 c0 (List.length c0:Int) 0 [] (fun q_4=>some q_4)
def qfo_:Head:=⟨[(1,(.val (.int .i64))),(5,(.ref 64000000 [])),(9,(.val (.sl 25 (.sl 2 (.int .i64))))),(10,(.val (.int .i64))),(11,(.val (.int .i64)))],[(64000000,2,(.int .i64),false)],[]⟩
def qfp_:Head:=⟨[(5,(.ref 64000000 []))],[(64000000,2,(.int .i64),false)],[]⟩
def qfq_ (k n:Nat) (x:qfo_.T) (kx:Nat→St→Option (List Int)):Option (List Int):=z87_ k n x.1.1 x.1.2.2.1 x.1.2.2.2.1 x.1.2.2.2.2.1 x.2.1.1 (fun (q_4:List Int)=>kx 0 (qfp_.fill (((),()),(q_4,()),())))
def qfr_ (k:Nat):Oracles (List Int):=⟨fun n=>bif Nat.beq n 3 then some (fun σ kx=>qfo_.get σ fun x=>qfq_ k k x kx) else none,fun _=>none⟩
def qfs_ (k:Nat):FE:=⟨(.pr (.st (.sl 25 (.sl 2 (.int .i64)))) (.int .i64)),1,(.sl 2 (.int .i64)),fun x=>z7j_ k x.1 x.2⟩
theorem qft_ (k:Nat):zc_ (z3_ ti [(133,qfm_)] (lk []) z4_ z5_) (qfr_ k) (rdC (z3_ ti [(133,qfm_)] (lk []) z4_ z5_) [.tmp 4] (.sl 2 (.int .i64))) ((zb_ (z2_ Tryz.f92)).getD 0 .skip) (fun σ kx=>qfo_.get σ fun x=>qfq_ k k x kx):=by
 refine ⟨qfo_,[(0,qfp_)],fun n x kx=>qfq_ k n x kx,k,by kernel_rfl,by kernel_rfl,fun x kx=>by kernel_rfl,?_,fun σ kx=>rfl⟩
 rintro n ⟨⟨dimension1,⟨⟩,x9,x10,x11,⟨⟩⟩,⟨q_1,⟨⟩⟩,⟨⟩⟩ kx
 kernel_rfl
theorem qfu_ (k:Nat):FnOK Tryz.prog 92 (qfs_ k):=by
 refine za_ (tab:=[(133,qfm_)]) (l:=[]) z7_ z9_ mix (List.forall_mem_cons.2 ⟨qfn_,(List.forall_mem_nil _)⟩) (List.forall_mem_nil _) ⟨⟨Tryz.f92,(z2_ Tryz.f92),[.tmp 4],(qfr_ k),by kernel_rfl,by kernel_rfl,by kernel_rfl,by kernel_rfl,rfl,by decide,⟨by kernel_rfl,?_,?_⟩,?_⟩⟩
 ·refine zf_ (n:=1) (by kernel_rfl) fun i hi=>?_
  match i,hi with
  | 0,_=>exact zd_ (by kernel_rfl) (qft_ k)
  | n+1,hi=>omega
 ·exact z8_ (by kernel_rfl)
 ·rintro ⟨c0,dimension1⟩
  kernel_rfl
def zav_ (k:Nat):Nat→Int→Int→Int→(List Int)→zT0→(Int→Option Int)→Option Int
 | 0,_,_,_,_,_,_=>none
 | n+1,sum5,x12,x13,q_2,v_2,e_0=>(if (decide (x13<x12))=true then (if 0≤x13∧x13.toNat<List.length q_2 then (q_2[x13.toNat]?).bind fun y_3=>(if 0≤y_3 then (v_2.2.2.1[y_3.toNat]?).bind fun y_4=>zav_ k n (z0_ (sum5+y_4)) x12 (z0_ (x13+1)) q_2 v_2 e_0 else none) else none) else e_0 sum5)
def z6c_ (k:Nat) (s0:List (List Int)×Int×List Int×List (Int×Int×Int×List Int)) (k1:Int):Option Int:=(z7j_ k s0.1 k1).bind fun r_1=>zav_ k k 0 (List.length r_1:Int) 0 r_1 s0 (fun sum_5=>some sum_5)
def qfv_:Head:=⟨[(2,(.bp 2 [] 0)),(5,(.val (.int .i64))),(11,(.ref 64000000 [])),(12,(.val (.int .i64))),(13,(.val (.int .i64)))],[(64000000,2,(.int .i64),false)],[(2,44,(.val (.st (.pr (.st (.sl 25 (.sl 2 (.int .i64)))) (.pr (.int .i64) (.pr (.sl 2 (.int .i64)) (.sl 135 (.st (.pr (.int .i64) (.pr (.int .i64) (.pr (.int .i64) (.sl 2 (.int .i64)))))))))))))]⟩
def qfw_:Head:=⟨[(5,(.val (.int .i64)))],[],[]⟩
def qfx_ (k n:Nat) (x:qfv_.T) (kx:Nat→St→Option Int):Option Int:=zav_ k n x.1.2.1 x.1.2.2.2.1 x.1.2.2.2.2.1 x.2.1.1 x.2.2.1 (fun (sum5:Int)=>kx 0 (qfw_.fill ((sum5,()),(),())))
def qfy_ (k:Nat):Oracles Int:=⟨fun n=>bif Nat.beq n 3 then some (fun σ kx=>qfv_.get σ fun x=>qfx_ k k x kx) else none,fun _=>none⟩
def qfz_ (k:Nat):FE:=⟨(.pr (.st (.pr (.st (.sl 25 (.sl 2 (.int .i64)))) (.pr (.int .i64) (.pr (.sl 2 (.int .i64)) (.sl 135 (.st (.pr (.int .i64) (.pr (.int .i64) (.pr (.int .i64) (.sl 2 (.int .i64))))))))))) (.int .i64)),1,(.int .i64),fun x=>z6c_ k x.1 x.2⟩
theorem qg0_ (k:Nat):zc_ (z3_ ti [(92,qfs_ k)] (lk []) z4_ z5_) (qfy_ k) (rdC (z3_ ti [(92,qfs_ k)] (lk []) z4_ z5_) [.tmp 4] (.int .i64)) ((zb_ (z2_ Tryz.f88)).getD 0 .skip) (fun σ kx=>qfv_.get σ fun x=>qfx_ k k x kx):=by
 refine ⟨qfv_,[(0,qfw_)],fun n x kx=>qfx_ k n x kx,k,by kernel_rfl,by kernel_rfl,fun x kx=>by kernel_rfl,?_,fun σ kx=>rfl⟩
 rintro n ⟨⟨⟨⟩,sum5,⟨⟩,x12,x13,⟨⟩⟩,⟨q_2,⟨⟩⟩,⟨v_2,⟨⟩⟩⟩ kx
 kernel_rfl
theorem qg1_ (k:Nat):FnOK Tryz.prog 88 (qfz_ k):=by
 refine za_ (tab:=[(92,qfs_ k)]) (l:=[]) z7_ z9_ mix (List.forall_mem_cons.2 ⟨qfu_ k,(List.forall_mem_nil _)⟩) (List.forall_mem_nil _) ⟨⟨Tryz.f88,(z2_ Tryz.f88),[.tmp 4],(qfy_ k),by kernel_rfl,by kernel_rfl,by kernel_rfl,by kernel_rfl,rfl,by decide,⟨by kernel_rfl,?_,?_⟩,?_⟩⟩
 ·refine zf_ (n:=1) (by kernel_rfl) fun i hi=>?_
  match i,hi with
  | 0,_=>exact zd_ (by kernel_rfl) (qg0_ k)
  | n+1,hi=>omega
 ·exact z8_ (by kernel_rfl)
 ·rintro ⟨s0,k1⟩
  kernel_rfl
def zaw_ (k:Nat):Nat→(List Int)→Int→zT4→(Option Bool)→Option Bool
 | 0,_,_,_,_=>none
 | n+1,stalks1,x16,v_2,e_0=>(if (decide (x16<4))=true then (z6c_ k (v_2,(0,(stalks1,[]))) x16).bind fun r_2=>(if (decide (32<r_2))=true then some false else zaw_ k n stalks1 (z0_ (x16+1)) v_2 e_0) else e_0)
def zfa_ (k:Nat) (c0:List (List Int)) (stalks1:List Int):Option Bool:=(if (!(decide ((List.length stalks1:Int)=(List.length c0:Int))))=true then some false else (zhb_ k stalks1 ()).bind fun r_1=>(if r_1=true then some false else zaw_ k k stalks1 0 c0 (some true)))
def qg2_:Head:=⟨[(1,(.val (.sl 2 (.int .i64)))),(2,(.bp 2 [] 0)),(16,(.val (.int .i64)))],[],[(2,41,(.val (.st (.sl 25 (.sl 2 (.int .i64))))))]⟩
def qg3_:Head:=⟨[],[],[]⟩
def qg4_ (k n:Nat) (x:qg2_.T) (kx:Nat→St→Option Bool):Option Bool:=zaw_ k n x.1.1 x.1.2.2.1 x.2.2.1 (kx 0 (qg3_.fill ((),(),())))
def qg5_ (k:Nat):Oracles Bool:=⟨fun n=>bif Nat.beq n 4 then some (fun σ kx=>qg2_.get σ fun x=>qg4_ k k x kx) else none,fun _=>none⟩
def qg6_ (k:Nat):FE:=⟨(.pr (.st (.sl 25 (.sl 2 (.int .i64)))) (.sl 2 (.int .i64))),1,.bool,fun x=>zfa_ k x.1 x.2⟩
theorem qg7_ (k:Nat):zc_ (z3_ ti [(95,qfk_ k),(88,qfz_ k)] (lk []) z4_ z5_) (qg5_ k) (rdC (z3_ ti [(95,qfk_ k),(88,qfz_ k)] (lk []) z4_ z5_) [.tmp 4] .bool) ((zb_ (z2_ Tryz.f126)).getD 0 .skip) (fun σ kx=>qg2_.get σ fun x=>qg4_ k k x kx):=by
 refine ⟨qg2_,[(0,qg3_)],fun n x kx=>qg4_ k n x kx,k,by kernel_rfl,by kernel_rfl,fun x kx=>by kernel_rfl,?_,fun σ kx=>rfl⟩
 rintro n ⟨⟨stalks1,⟨⟩,x16,⟨⟩⟩,⟨⟩,⟨v_2,⟨⟩⟩⟩ kx
 kernel_rfl
theorem qg8_ (k:Nat):FnOK Tryz.prog 126 (qg6_ k):=by
 refine za_ (tab:=[(95,qfk_ k),(88,qfz_ k)]) (l:=[]) z7_ z9_ mix (List.forall_mem_cons.2 ⟨qfl_ k,(List.forall_mem_cons.2 ⟨qg1_ k,(List.forall_mem_nil _)⟩)⟩) (List.forall_mem_nil _) ⟨⟨Tryz.f126,(z2_ Tryz.f126),[.tmp 4],(qg5_ k),by kernel_rfl,by kernel_rfl,by kernel_rfl,by kernel_rfl,rfl,by decide,⟨by kernel_rfl,?_,?_⟩,?_⟩⟩
 ·refine zf_ (n:=1) (by kernel_rfl) fun i hi=>?_
  match i,hi with
  | 0,_=>exact zd_ (by kernel_rfl) (qg7_ k)
  | n+1,hi=>omega
 ·exact z8_ (by kernel_rfl)
 ·rintro ⟨c0,stalks1⟩
  kernel_rfl
def zji_ (list0:List (List Int)):Option Int:=some (List.length list0:Int)
def qg9_:FE:=⟨(.sl 25 (.sl 2 (.int .i64))),1,(.int .i64),fun x=>zji_ x⟩
theorem qga_:FnOK Tryz.prog 169 (qg9_):=by
 refine za_ (tab:=[]) (l:=[]) z7_ z9_ mix (List.forall_mem_nil _) (List.forall_mem_nil _) ⟨⟨Tryz.f169,(z2_ Tryz.f169),[.tmp 2],(LOn Int),by kernel_rfl,by kernel_rfl,by kernel_rfl,by kernel_rfl,rfl,by decide,⟨by kernel_rfl,?_,?_⟩,?_⟩⟩
 ·exact ze_ (by kernel_rfl)
 ·exact z8_ (by kernel_rfl)
 ·rintro list0
  kernel_rfl
end
end Go.Proofs.YtioaaljaohhjiaaGreatDoor.Ev
