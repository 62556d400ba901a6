/- Functions of the program, as plain ones. No conditions. -/
import Derived.Test.YtioaaljaohhjiaaGreatDoorG9
import Derived.KernelRfl
set_option linter.unusedVariables false
set_option maxRecDepth 100000
namespace Go.Proofs.YtioaaljaohhjiaaGreatDoor.Ev
open Go.RowKit
noncomputable section
def z9c_ (k:Nat):Nat→Int→Int→(List Int)→zT4→zT4→((List Int)→Option (List Int))→Option (List Int)
 | 0,_,_,_,_,_,_=>none
 | n+1,x14,x15,q_3,q_4,v_2,e_0=>(if (decide (x15<x14))=true then (if 0≤x15∧x15.toNat<List.length q_4 then (q_4[x15.toNat]?).bind fun y_5=>(q_4[x15.toNat]?).bind fun y_6=>(zc4_ k v_2 y_6).bind fun r_7=>(if (q_3.length+[r_7].length)*8≤LIM then z9c_ k n x14 (z0_ (x15+1)) (q_3++[r_7]) q_4 v_2 e_0 else none) else none) else e_0 q_3)
def zc5_ (k:Nat) (c0:List (List Int)) (k1:Int):Option (List Int):=(if 0≤k1 then (c0[k1.toNat]?).bind fun y_1=>(z9d_ k y_1).bind fun r_2=>z9c_ k k (List.length r_2:Int) 0 [] r_2 c0 (fun q_8=>some q_8) else none)
def qgb_:Head:=⟨[(2,(.bp 2 [] 0)),(5,(.ref 64000000 [])),(13,(.ref 64000001 [])),(14,(.val (.int .i64))),(15,(.val (.int .i64)))],[(64000000,2,(.int .i64),false),(64000001,25,(.sl 2 (.int .i64)),false)],[(2,41,(.val (.st (.sl 25 (.sl 2 (.int .i64))))))]⟩
def qgc_:Head:=⟨[(5,(.ref 64000000 []))],[(64000000,2,(.int .i64),false)],[]⟩
def qgd_ (k n:Nat) (x:qgb_.T) (kx:Nat→St→Option (List Int)):Option (List Int):=z9c_ k n x.1.2.2.2.1 x.1.2.2.2.2.1 x.2.1.1 x.2.1.2.1 x.2.2.1 (fun (q_9:List Int)=>kx 0 (qgc_.fill (((),()),(q_9,()),())))
def qge_ (k:Nat):Oracles (List Int):=⟨fun n=>bif Nat.beq n 3 then some (fun σ kx=>qgb_.get σ fun x=>qgd_ k k x kx) else none,fun _=>none⟩
def qgf_ (k:Nat):FE:=⟨(.pr (.st (.sl 25 (.sl 2 (.int .i64)))) (.int .i64)),1,(.sl 2 (.int .i64)),fun x=>zc5_ k x.1 x.2⟩
theorem qgg_ (k:Nat):zc_ (z3_ ti [(165,qea_ k),(167,qek_ k)] (lk []) z4_ z5_) (qge_ k) (rdC (z3_ ti [(165,qea_ k),(167,qek_ k)] (lk []) z4_ z5_) [.tmp 4] (.sl 2 (.int .i64))) ((zb_ (z2_ Tryz.f138)).getD 0 .skip) (fun σ kx=>qgb_.get σ fun x=>qgd_ k k x kx):=by
 refine ⟨qgb_,[(0,qgc_)],fun n x kx=>qgd_ k n x kx,k,by kernel_rfl,by kernel_rfl,fun x kx=>by kernel_rfl,?_,fun σ kx=>rfl⟩
 rintro n ⟨⟨⟨⟩,⟨⟩,⟨⟩,x14,x15,⟨⟩⟩,⟨q_3,q_4,⟨⟩⟩,⟨v_2,⟨⟩⟩⟩ kx
 kernel_rfl
theorem qgh_ (k:Nat):FnOK Tryz.prog 138 (qgf_ k):=by
 refine za_ (tab:=[(165,qea_ k),(167,qek_ k)]) (l:=[]) z7_ z9_ mix (List.forall_mem_cons.2 ⟨qec_ k,(List.forall_mem_cons.2 ⟨qel_ k,(List.forall_mem_nil _)⟩)⟩) (List.forall_mem_nil _) ⟨⟨Tryz.f138,(z2_ Tryz.f138),[.tmp 4],(qge_ k),by kernel_rfl,by kernel_rfl,by kernel_rfl,by kernel_rfl,rfl,by decide,⟨by kernel_rfl,?_,?_⟩,?_⟩⟩
 ·refine zf_ (n:=1) (by kernel_rfl) fun i hi=>?_
  match i,hi with
  | 0,_=>exact zd_ (by kernel_rfl) (qgg_ k)
  | n+1,hi=>omega
 ·exact z8_ (by kernel_rfl)
 ·rintro ⟨c0,k1⟩
  kernel_rfl
def z68_ (k:Nat):Nat→Int→Int→Int→Int→Int→zT2→(List Int)→zT4→(Int→Int→zT2→zT4→Option zT2)→Option zT2
 | 0,_,_,_,_,_,_,_,_,_=>none
 | n+1,k4,x9,x10,x16,x17,q_4,q_5,v_1,e_2=>(if (decide (x17<x16))=true then (if 0≤x17∧x17.toNat<List.length q_5 then (q_5[x17.toNat]?).bind fun y_6=>(if (q_4.length+[(k4,(x17,y_6))].length)*24≤LIM then z68_ k n k4 x9 x10 x16 (z0_ (x17+1)) (q_4++[(k4,(x17,y_6))]) q_5 v_1 e_2 else none) else none) else e_2 x9 x10 q_4 v_1)
def z9e_ (k:Nat):Nat→Int→Int→zT2→zT4→(zT2→Option zT2)→Option zT2
 | 0,_,_,_,_,_=>none
 | n+1,x9,x10,q_2,v_1,e_0=>(if (decide (x10<x9))=true then (zc5_ k v_1 x10).bind fun r_3=>z68_ k k x10 x9 x10 (List.length r_3:Int) 0 q_2 r_3 v_1 (fun x_4 x_5 q_6 v_7=>z9e_ k n x_4 (z0_ (x_5+1)) q_6 v_7 e_0) else e_0 q_2)
def zf6_ (k:Nat) (c0:List (List Int)):Option zT2:=(zji_ c0).bind fun r_1=>z9e_ k k r_1 0 [] c0 (fun q_8=>some q_8)
def qgi_:Head:=⟨[(1,(.bp 1 [] 0)),(3,(.ref 64000000 [])),(4,(.val (.int .i64))),(9,(.val (.int .i64))),(10,(.val (.int .i64))),(15,(.ref 64000001 [])),(16,(.val (.int .i64))),(17,(.val (.int .i64)))],[(64000000,181,(.st (.pr (.int .i64) (.pr (.int .i64) (.int .i64)))),false),(64000001,2,(.int .i64),false)],[(1,41,(.val (.st (.sl 25 (.sl 2 (.int .i64))))))]⟩
def qgj_:Head:=⟨[(1,(.bp 1 [] 0)),(3,(.ref 64000000 [])),(9,(.val (.int .i64))),(10,(.val (.int .i64)))],[(64000000,181,(.st (.pr (.int .i64) (.pr (.int .i64) (.int .i64)))),false)],[(1,41,(.val (.st (.sl 25 (.sl 2 (.int .i64))))))]⟩
def qgk_ (k n:Nat) (x:qgi_.T) (kx:Nat→St→Option zT2):Option zT2:=z68_ k n x.1.2.2.1 x.1.2.2.2.1 x.1.2.2.2.2.1 x.1.2.2.2.2.2.2.1 x.1.2.2.2.2.2.2.2.1 x.2.1.1 x.2.1.2.1 x.2.2.1 (fun (x9:Int) (x10:Int) (q_7:List (Int×Int×Int)) (v_1:List (List Int))=>kx 2 (qgj_.fill (((),(),x9,x10,()),(q_7,()),(v_1,()))))
def qgl_:Head:=⟨[(1,(.bp 1 [] 0)),(3,(.ref 64000000 [])),(9,(.val (.int .i64))),(10,(.val (.int .i64)))],[(64000000,181,(.st (.pr (.int .i64) (.pr (.int .i64) (.int .i64)))),false)],[(1,41,(.val (.st (.sl 25 (.sl 2 (.int .i64))))))]⟩
def qgm_:Head:=⟨[(3,(.ref 64000000 []))],[(64000000,181,(.st (.pr (.int .i64) (.pr (.int .i64) (.int .i64)))),false)],[]⟩
def qgn_ (k n:Nat) (x:qgl_.T) (kx:Nat→St→Option zT2):Option zT2:=z9e_ k n x.1.2.2.1 x.1.2.2.2.1 x.2.1.1 x.2.2.1 (fun (q_11:List (Int×Int×Int))=>kx 0 (qgm_.fill (((),()),(q_11,()),())))
def qgo_ (k:Nat):Oracles zT2:=⟨fun n=>bif Nat.beq n 6 then some (fun σ kx=>qgi_.get σ fun x=>qgk_ k k x kx) else bif Nat.beq n 3 then some (fun σ kx=>qgl_.get σ fun x=>qgn_ k k x kx) else none,fun _=>none⟩
def qgp_ (k:Nat):FE:=⟨(.st (.sl 25 (.sl 2 (.int .i64)))),1,(.sl 181 (.st (.pr (.int .i64) (.pr (.int .i64) (.int .i64))))),fun x=>zf6_ k x⟩
theorem qgq_ (k:Nat):zc_ (z3_ ti [(169,qg9_),(138,qgf_ k)] (lk []) z4_ z5_) (qgo_ k) (rdC (z3_ ti [(169,qg9_),(138,qgf_ k)] (lk []) z4_ z5_) [.tmp 2] (.sl 181 (.st (.pr (.int .i64) (.pr (.int .i64) (.int .i64)))))) ((zb_ (z2_ Tryz.f127)).getD 1 .skip) (fun σ kx=>qgi_.get σ fun x=>qgk_ k k x kx):=by
 refine ⟨qgi_,[(2,qgj_)],fun n x kx=>qgk_ k n x kx,k,by kernel_rfl,by kernel_rfl,fun x kx=>by kernel_rfl,?_,fun σ kx=>rfl⟩
 rintro n ⟨⟨⟨⟩,⟨⟩,k4,x9,x10,⟨⟩,x16,x17,⟨⟩⟩,⟨q_4,q_5,⟨⟩⟩,⟨v_1,⟨⟩⟩⟩ kx
 refine id (α:=z68_ k (n+1) k4 x9 x10 x16 x17 q_4 q_5 v_1 _=_) ?_
 kernel_rfl
theorem qgr_ (k:Nat):zc_ (z3_ ti [(169,qg9_),(138,qgf_ k)] (lk []) z4_ z5_) (qgo_ k) (rdC (z3_ ti [(169,qg9_),(138,qgf_ k)] (lk []) z4_ z5_) [.tmp 2] (.sl 181 (.st (.pr (.int .i64) (.pr (.int .i64) (.int .i64)))))) ((zb_ (z2_ Tryz.f127)).getD 0 .skip) (fun σ kx=>qgl_.get σ fun x=>qgn_ k k x kx):=by
 refine ⟨qgl_,[(0,qgm_)],fun n x kx=>qgn_ k n x kx,k,by kernel_rfl,by kernel_rfl,fun x kx=>by kernel_rfl,?_,fun σ kx=>rfl⟩
 rintro n ⟨⟨⟨⟩,⟨⟩,x9,x10,⟨⟩⟩,⟨q_2,⟨⟩⟩,⟨v_1,⟨⟩⟩⟩ kx
 kernel_rfl
theorem qgs_ (k:Nat):FnOK Tryz.prog 127 (qgp_ k):=by
 refine za_ (tab:=[(169,qg9_),(138,qgf_ k)]) (l:=[]) z7_ z9_ mix (List.forall_mem_cons.2 ⟨qga_,(List.forall_mem_cons.2 ⟨qgh_ k,(List.forall_mem_nil _)⟩)⟩) (List.forall_mem_nil _) ⟨⟨Tryz.f127,(z2_ Tryz.f127),[.tmp 2],(qgo_ k),by kernel_rfl,by kernel_rfl,by kernel_rfl,by kernel_rfl,rfl,by decide,⟨by kernel_rfl,?_,?_⟩,?_⟩⟩
 ·refine zf_ (n:=2) (by kernel_rfl) fun i hi=>?_
  match i,hi with
  | 0,_=>exact zd_ (by kernel_rfl) (qgr_ k)
  | 1,_=>exact zd_ (by kernel_rfl) (qgq_ k)
  | n+2,hi=>omega
 ·exact z8_ (by kernel_rfl)
 ·rintro c0
  kernel_rfl
def zf7_ (n0:Int):Option Bool:=(z2e_ n0 0 32).bind fun r_1=>some r_1
def qgt_:FE:=⟨(.int .i64),1,.bool,fun x=>zf7_ x⟩
theorem qgu_:FnOK Tryz.prog 189 (qgt_):=by
 refine za_ (tab:=[(129,qco_)]) (l:=[]) z7_ z9_ mix (List.forall_mem_cons.2 ⟨qcp_,(List.forall_mem_nil _)⟩) (List.forall_mem_nil _) ⟨⟨Tryz.f189,(z2_ Tryz.f189),[.tmp 2],(LOn Bool),by kernel_rfl,by kernel_rfl,by kernel_rfl,by kernel_rfl,rfl,by decide,⟨by kernel_rfl,?_,?_⟩,?_⟩⟩
 ·exact ze_ (by kernel_rfl)
 ·exact z8_ (by kernel_rfl)
 ·rintro n0
  kernel_rfl
def z3m_ (a0:Int) (p1:Int):Option Bool:=(z2e_ a0 0 (z0_ (p1-1))).bind fun r_1=>some r_1
def qgv_:FE:=⟨(.pr (.int .i64) (.int .i64)),1,.bool,fun x=>z3m_ x.1 x.2⟩
theorem qgw_:FnOK Tryz.prog 130 (qgv_):=by
 refine za_ (tab:=[(129,qco_)]) (l:=[]) z7_ z9_ mix (List.forall_mem_cons.2 ⟨qcp_,(List.forall_mem_nil _)⟩) (List.forall_mem_nil _) ⟨⟨Tryz.f130,(z2_ Tryz.f130),[.tmp 4],(LOn Bool),by kernel_rfl,by kernel_rfl,by kernel_rfl,by kernel_rfl,rfl,by decide,⟨by kernel_rfl,?_,?_⟩,?_⟩⟩
 ·exact ze_ (by kernel_rfl)
 ·exact z8_ (by kernel_rfl)
 ·rintro ⟨a0,p1⟩
  kernel_rfl
def zjj_ (a0:Int) (x1:Int):Option Bool:=(z3m_ a0 x1).bind fun r_1=>some (!r_1)
def qgx_:FE:=⟨(.pr (.int .i64) (.ptr (.int .i64))),1,.bool,fun x=>zjj_ x.1 x.2⟩
theorem qgy_:FnOK Tryz.prog 172 (qgx_):=by
 refine za_ (tab:=[(130,qgv_)]) (l:=[]) z7_ z9_ mix (List.forall_mem_cons.2 ⟨qgw_,(List.forall_mem_nil _)⟩) (List.forall_mem_nil _) ⟨⟨Tryz.f172,(z2_ Tryz.f172),[.tmp 3],(LOn Bool),by kernel_rfl,by kernel_rfl,by kernel_rfl,by kernel_rfl,rfl,by decide,⟨by kernel_rfl,?_,?_⟩,?_⟩⟩
 ·exact ze_ (by kernel_rfl)
 ·exact z8_ (by kernel_rfl)
 ·rintro ⟨a0,x1⟩
  kernel_rfl
def z9f_ (k:Nat):Nat→(List Int)→Int→Int→Int→(Option Int)→Option Int
 | 0,_,_,_,_,_=>none
 | n+1,s0,f1,x7,x8,e_0=>(if (decide (x8<x7))=true then (if 0≤x8 then (s0[x8.toNat]?).bind fun y_1=>(zjj_ y_1 f1).bind fun r_2=>(if r_2=true then some x8 else z9f_ k n s0 f1 x7 (z0_ (x8+1)) e_0) else none) else e_0)
def zjk_ (k:Nat) (s0:List Int) (f1:Int):Option Int:=z9f_ k k s0 f1 (List.length s0:Int) 0 (some (-1))
def qgz_:Head:=⟨[(0,(.val (.sl 2 (.int .i64)))),(1,(.val (.fn 172 (.ptr (.int .i64))))),(7,(.val (.int .i64))),(8,(.val (.int .i64)))],[],[]⟩
def qh0_:Head:=⟨[],[],[]⟩
def qh1_ (k n:Nat) (x:qgz_.T) (kx:Nat→St→Option Int):Option Int:=z9f_ k n x.1.1 x.1.2.1 x.1.2.2.1 x.1.2.2.2.1 (kx 0 (qh0_.fill ((),(),())))
def qh2_ (k:Nat):Oracles Int:=⟨fun n=>bif Nat.beq n 2 then some (fun σ kx=>qgz_.get σ fun x=>qh1_ k k x kx) else none,fun _=>none⟩
def qh3_ (k:Nat):FE:=⟨(.pr (.sl 2 (.int .i64)) (.fn 172 (.ptr (.int .i64)))),1,(.int .i64),fun x=>zjk_ k x.1 x.2⟩
theorem qh4_ (k:Nat):zc_ (z3_ ti [(172,qgx_)] (lk []) z4_ z5_) (qh2_ k) (rdC (z3_ ti [(172,qgx_)] (lk []) z4_ z5_) [.tmp 4] (.int .i64)) ((zb_ (z2_ Tryz.f145)).getD 0 .skip) (fun σ kx=>qgz_.get σ fun x=>qh1_ k k x kx):=by
 refine ⟨qgz_,[(0,qh0_)],fun n x kx=>qh1_ k n x kx,k,by kernel_rfl,by kernel_rfl,fun x kx=>by kernel_rfl,?_,fun σ kx=>rfl⟩
 rintro n ⟨⟨s0,f1,x7,x8,⟨⟩⟩,⟨⟩,⟨⟩⟩ kx
 kernel_rfl
theorem qh5_ (k:Nat):FnOK Tryz.prog 145 (qh3_ k):=by
 refine za_ (tab:=[(172,qgx_)]) (l:=[]) z7_ z9_ mix (List.forall_mem_cons.2 ⟨qgy_,(List.forall_mem_nil _)⟩) (List.forall_mem_nil _) ⟨⟨Tryz.f145,(z2_ Tryz.f145),[.tmp 4],(qh2_ k),by kernel_rfl,by kernel_rfl,by kernel_rfl,by kernel_rfl,rfl,by decide,⟨by kernel_rfl,?_,?_⟩,?_⟩⟩
 ·refine zf_ (n:=1) (by kernel_rfl) fun i hi=>?_
  match i,hi with
  | 0,_=>exact zd_ (by kernel_rfl) (qh4_ k)
  | n+1,hi=>omega
 ·exact z8_ (by kernel_rfl)
 ·rintro ⟨s0,f1⟩
  kernel_rfl
def zjl_ (k:Nat) (s0:List Int) (f1:Int):Option Bool:=(zjk_ k s0 f1).bind fun r_1=>some (decide (0≤r_1))
def qh6_ (k:Nat):FE:=⟨(.pr (.sl 2 (.int .i64)) (.fn 172 (.ptr (.int .i64)))),1,.bool,fun x=>zjl_ k x.1 x.2⟩
theorem qh7_ (k:Nat):FnOK Tryz.prog 95 (qh6_ k):=by
 refine za_ (tab:=[(145,qh3_ k)]) (l:=[]) z7_ z9_ mix (List.forall_mem_cons.2 ⟨qh5_ k,(List.forall_mem_nil _)⟩) (List.forall_mem_nil _) ⟨⟨Tryz.f95,(z2_ Tryz.f95),[.tmp 4],(LOn Bool),by kernel_rfl,by kernel_rfl,by kernel_rfl,by kernel_rfl,rfl,by decide,⟨by kernel_rfl,?_,?_⟩,?_⟩⟩
 ·exact ze_ (by kernel_rfl)
 ·exact z8_ (by kernel_rfl)
 ·rintro ⟨s0,f1⟩
  kernel_rfl
def zc6_ (k:Nat) (list0:List Int) (p1:Int):Option Bool:=(zjl_ k list0 p1).bind fun r_1=>some (!r_1)
def qh8_ (k:Nat):FE:=⟨(.pr (.sl 2 (.int .i64)) (.int .i64)),1,.bool,fun x=>zc6_ k x.1 x.2⟩
theorem qh9_ (k:Nat):FnOK Tryz.prog 134 (qh8_ k):=by
 refine za_ (tab:=[(95,qh6_ k)]) (l:=[]) z7_ z9_ mix (List.forall_mem_cons.2 ⟨qh7_ k,(List.forall_mem_nil _)⟩) (List.forall_mem_nil _) ⟨⟨Tryz.f134,(z2_ Tryz.f134),[.tmp 4],(LOn Bool),by kernel_rfl,by kernel_rfl,by kernel_rfl,by kernel_rfl,rfl,by decide,⟨by kernel_rfl,?_,?_⟩,?_⟩⟩
 ·exact ze_ (by kernel_rfl)
 ·exact z8_ (by kernel_rfl)
 ·rintro ⟨list0,p1⟩
  kernel_rfl
def zc7_ (k:Nat) (m0:Int×Int×Int×List Int):Option Bool:=(z9g_ k m0.1).bind fun r_1=>(if r_1=true then (zf7_ m0.2.1).bind fun r_2=>(if r_2=true then (zf7_ m0.2.2.1).bind fun r_3=>(if r_3=true then (z4p_ m0.2.2.2).bind fun r_4=>(if (decide (r_4=(z0_ (m0.2.1*m0.2.2.1))))=true then (zc6_ k m0.2.2.2 m0.1).bind fun r_5=>some r_5 else some false) else some false) else some false) else some false)
def qha_ (k:Nat):FE:=⟨(.st (.pr (.int .i64) (.pr (.int .i64) (.pr (.int .i64) (.sl 2 (.int .i64)))))),1,.bool,fun x=>zc7_ k x⟩
theorem qhb_ (k:Nat):FnOK Tryz.prog 170 (qha_ k):=by
 refine za_ (tab:=[(125,qf8_ k),(189,qgt_),(133,qfm_),(134,qh8_ k)]) (l:=[]) z7_ z9_ mix (List.forall_mem_cons.2 ⟨qfa_ k,(List.forall_mem_cons.2 ⟨qgu_,(List.forall_mem_cons.2 ⟨qfn_,(List.forall_mem_cons.2 ⟨qh9_ k,(List.forall_mem_nil _)⟩)⟩)⟩)⟩) (List.forall_mem_nil _) ⟨⟨Tryz.f170,(z2_ Tryz.f170),[.tmp 2],(LOn Bool),by kernel_rfl,by kernel_rfl,by kernel_rfl,by kernel_rfl,rfl,by decide,⟨by kernel_rfl,?_,?_⟩,?_⟩⟩
 ·exact ze_ (by kernel_rfl)
 ·exact z8_ (by kernel_rfl)
 ·rintro m0
  kernel_rfl
def zjm_ (k:Nat) (m0:Int×Int×Int×List Int) (p1:Int) (from2:Int) (to3:Int):Option Bool:=(zc7_ k m0).bind fun r_1=>(if r_1=true then (if (decide (m0.1=p1))=true then (if (decide (m0.2.1=to3))=true then some (decide (m0.2.2.1=from2)) else some false) else some false) else some false)
def qhc_ (k:Nat):FE:=⟨(.pr (.st (.pr (.int .i64) (.pr (.int .i64) (.pr (.int .i64) (.sl 2 (.int .i64)))))) (.pr (.int .i64) (.pr (.int .i64) (.int .i64)))),1,.bool,fun x=>zjm_ k x.1 x.2.1 x.2.2.1 x.2.2.2⟩
theorem qhd_ (k:Nat):FnOK Tryz.prog 128 (qhc_ k):=by
 refine za_ (tab:=[(170,qha_ k)]) (l:=[]) z7_ z9_ mix (List.forall_mem_cons.2 ⟨qhb_ k,(List.forall_mem_nil _)⟩) (List.forall_mem_nil _) ⟨⟨Tryz.f128,(z2_ Tryz.f128),[.tmp 8],(LOn Bool),by kernel_rfl,by kernel_rfl,by kernel_rfl,by kernel_rfl,rfl,by decide,⟨by kernel_rfl,?_,?_⟩,?_⟩⟩
 ·exact ze_ (by kernel_rfl)
 ·exact z8_ (by kernel_rfl)
 ·rintro ⟨m0,p1,from2,to3⟩
  kernel_rfl
def z9h_ (k:Nat):Nat→Int→Int→zT2→zT0→(zT2→zT0→Option Bool)→Option Bool
 | 0,_,_,_,_,_=>none
 | n+1,x28,x29,q_5,v_1,e_0=>(if (decide (x29<x28))=true then (if 0≤x29∧x29.toNat<List.length q_5 then (q_5[x29.toNat]?).bind fun y_6=>(if (decide ((List.length v_1.2.2.2:Int)≤x29))=true then some false else (if 0≤x29 then (v_1.2.2.2[x29.toNat]?).bind fun y_7=>(if 0≤y_6.2.2 then (v_1.2.2.1[y_6.2.2.toNat]?).bind fun y_8=>(if 0≤y_6.1 then (v_1.2.2.1[y_6.1.toNat]?).bind fun y_9=>(zjm_ k y_7 v_1.2.1 y_8 y_9).bind fun r_10=>(if (!r_10)=true then some false else z9h_ k n x28 (z0_ (x29+1)) q_5 v_1 e_0) else none) else none) else none)) else none) else e_0 q_5 v_1)
def zf8_ (k:Nat) (s0:List (List Int)×Int×List Int×List (Int×Int×Int×List Int)):Option Bool:=(zf9_ k s0.1).bind fun r_1=>(if (!r_1)=true then some false else (z9g_ k s0.2.1).bind fun r_2=>(if (!r_2)=true then some false else (zfa_ k s0.1 s0.2.2.1).bind fun r_3=>(if (!r_3)=true then some false else (zf6_ k s0.1).bind fun r_4=>z9h_ k k (List.length r_4:Int) 0 r_4 s0 (fun q_11 v_12=>some (decide ((List.length q_11:Int)=(List.length v_12.2.2.2:Int)))))))
def qhe_:Head:=⟨[(1,(.bp 1 [] 0)),(3,(.ref 64000000 [])),(27,(.ref 64000000 [])),(28,(.val (.int .i64))),(29,(.val (.int .i64)))],[(64000000,181,(.st (.pr (.int .i64) (.pr (.int .i64) (.int .i64)))),false)],[(1,44,(.val (.st (.pr (.st (.sl 25 (.sl 2 (.int .i64)))) (.pr (.int .i64) (.pr (.sl 2 (.int .i64)) (.sl 135 (.st (.pr (.int .i64) (.pr (.int .i64) (.pr (.int .i64) (.sl 2 (.int .i64)))))))))))))]⟩
def qhf_:Head:=⟨[(1,(.bp 1 [] 0)),(3,(.ref 64000000 []))],[(64000000,181,(.st (.pr (.int .i64) (.pr (.int .i64) (.int .i64)))),false)],[(1,44,(.val (.st (.pr (.st (.sl 25 (.sl 2 (.int .i64)))) (.pr (.int .i64) (.pr (.sl 2 (.int .i64)) (.sl 135 (.st (.pr (.int .i64) (.pr (.int .i64) (.pr (.int .i64) (.sl 2 (.int .i64)))))))))))))]⟩
def qhg_ (k n:Nat) (x:qhe_.T) (kx:Nat→St→Option Bool):Option Bool:=z9h_ k n x.1.2.2.2.1 x.1.2.2.2.2.1 x.2.1.1 x.2.2.1 (fun (q_11:List (Int×Int×Int)) (v_1:List (List Int)×Int×List Int×List (Int×Int×Int×List Int))=>kx 0 (qhf_.fill (((),(),()),(q_11,()),(v_1,()))))
def qhh_ (k:Nat):Oracles Bool:=⟨fun n=>bif Nat.beq n 5 then some (fun σ kx=>qhe_.get σ fun x=>qhg_ k k x kx) else none,fun _=>none⟩
def qhi_ (k:Nat):FE:=⟨(.st (.pr (.st (.sl 25 (.sl 2 (.int .i64)))) (.pr (.int .i64) (.pr (.sl 2 (.int .i64)) (.sl 135 (.st (.pr (.int .i64) (.pr (.int .i64) (.pr (.int .i64) (.sl 2 (.int .i64))))))))))),1,.bool,fun x=>zf8_ k x⟩
theorem qhj_ (k:Nat):zc_ (z3_ ti [(124,qf1_ k),(125,qf8_ k),(126,qg6_ k),(127,qgp_ k),(128,qhc_ k)] (lk []) z4_ z5_) (qhh_ k) (rdC (z3_ ti [(124,qf1_ k),(125,qf8_ k),(126,qg6_ k),(127,qgp_ k),(128,qhc_ k)] (lk []) z4_ z5_) [.tmp 2] .bool) ((zb_ (z2_ Tryz.f83)).getD 0 .skip) (fun σ kx=>qhe_.get σ fun x=>qhg_ k k x kx):=by
 refine ⟨qhe_,[(0,qhf_)],fun n x kx=>qhg_ k n x kx,k,by kernel_rfl,by kernel_rfl,fun x kx=>by kernel_rfl,?_,fun σ kx=>rfl⟩
 rintro n ⟨⟨⟨⟩,⟨⟩,⟨⟩,x28,x29,⟨⟩⟩,⟨q_5,⟨⟩⟩,⟨v_1,⟨⟩⟩⟩ kx
 kernel_rfl
theorem qhk_ (k:Nat):FnOK Tryz.prog 83 (qhi_ k):=by
 refine za_ (tab:=[(124,qf1_ k),(125,qf8_ k),(126,qg6_ k),(127,qgp_ k),(128,qhc_ k)]) (l:=[]) z7_ z9_ mix (List.forall_mem_cons.2 ⟨qf3_ k,(List.forall_mem_cons.2 ⟨qfa_ k,(List.forall_mem_cons.2 ⟨qg8_ k,(List.forall_mem_cons.2 ⟨qgs_ k,(List.forall_mem_cons.2 ⟨qhd_ k,(List.forall_mem_nil _)⟩)⟩)⟩)⟩)⟩) (List.forall_mem_nil _) ⟨⟨Tryz.f83,(z2_ Tryz.f83),[.tmp 2],(qhh_ k),by kernel_rfl,by kernel_rfl,by kernel_rfl,by kernel_rfl,rfl,by decide,⟨by kernel_rfl,?_,?_⟩,?_⟩⟩
 ·refine zf_ (n:=1) (by kernel_rfl) fun i hi=>?_
  match i,hi with
  | 0,_=>exact zd_ (by kernel_rfl) (qhj_ k)
  | n+1,hi=>omega
 ·exact z8_ (by kernel_rfl)
 ·rintro s0
  kernel_rfl
def zjn_ (k0:Int):Option Bool:=(z2e_ k0 0 3).bind fun r_1=>some r_1
def qhl_:FE:=⟨(.int .i64),1,.bool,fun x=>zjn_ x⟩
theorem qhm_:FnOK Tryz.prog 84 (qhl_):=by
 refine za_ (tab:=[(129,qco_)]) (l:=[]) z7_ z9_ mix (List.forall_mem_cons.2 ⟨qcp_,(List.forall_mem_nil _)⟩) (List.forall_mem_nil _) ⟨⟨Tryz.f84,(z2_ Tryz.f84),[.tmp 2],(LOn Bool),by kernel_rfl,by kernel_rfl,by kernel_rfl,by kernel_rfl,rfl,by decide,⟨by kernel_rfl,?_,?_⟩,?_⟩⟩
 ·exact ze_ (by kernel_rfl)
 ·exact z8_ (by kernel_rfl)
 ·rintro k0
  kernel_rfl
def z69_ (k:Nat):Nat→zT2→Int→Int→(Int×Int×Int×List (Int×Int×Int))→((Int×Int×Int×List (Int×Int×Int))→Option Bool)→Option Bool
 | 0,_,_,_,_,_=>none
 | n+1,x6,x7,x8,v_1,e_0=>(if (decide (x8<x7))=true then (if 0≤x8 then (x6[x8.toNat]?).bind fun y_1=>(z3m_ y_1.1 v_1.1).bind fun r_2=>(if (!r_2)=true then some false else (z3m_ y_1.2.1 v_1.1).bind fun r_3=>(if (!r_3)=true then some false else (if (decide (y_1.1=y_1.2.1))=true then some false else (z2e_ y_1.2.2 0 1000000).bind fun r_4=>(if (!r_4)=true then some false else (if (decide (0<x8))=true then (if 0≤(z0_ (x8-1)) then (v_1.2.2.2[(z0_ (x8-1)).toNat]?).bind fun y_5=>(z6a_ y_5.1 y_1.1).bind fun r_6=>(if 0≤(z0_ (x8-1)) then (v_1.2.2.2[(z0_ (x8-1)).toNat]?).bind fun y_7=>(z6a_ y_7.2.1 y_1.2.1).bind fun r_8=>(zc8_ k [r_6,r_8]).bind fun r_9=>(if (decide (0≤r_9))=true then some false else z69_ k n x6 x7 (z0_ (x8+1)) v_1 e_0) else none) else none) else z69_ k n x6 x7 (z0_ (x8+1)) v_1 e_0))))) else none) else e_0 v_1)
def zfb_ (k:Nat) (n0:Int×Int×Int×List (Int×Int×Int)):Option Bool:=z69_ k k n0.2.2.2 (List.length n0.2.2.2:Int) 0 n0 (fun v_10=>(z2e_ v_10.1 2 12).bind fun r_11=>(if r_11=true then (z3m_ v_10.2.1 v_10.1).bind fun r_12=>(if r_12=true then (z3m_ v_10.2.2.1 v_10.1).bind fun r_13=>(if r_13=true then (if (!(decide (v_10.2.1=v_10.2.2.1)))=true then some (decide ((List.length v_10.2.2.2:Int)≤24)) else some false) else some false) else some false) else some false))
def qhn_:Head:=⟨[(1,(.bp 1 [] 0)),(6,(.val (.sl 138 (.st (.pr (.int .i64) (.pr (.int .i64) (.int .i64))))))),(7,(.val (.int .i64))),(8,(.val (.int .i64)))],[],[(1,47,(.val (.st (.pr (.int .i64) (.pr (.int .i64) (.pr (.int .i64) (.sl 138 (.st (.pr (.int .i64) (.pr (.int .i64) (.int .i64)))))))))))]⟩
def qho_:Head:=⟨[(1,(.bp 1 [] 0))],[],[(1,47,(.val (.st (.pr (.int .i64) (.pr (.int .i64) (.pr (.int .i64) (.sl 138 (.st (.pr (.int .i64) (.pr (.int .i64) (.int .i64)))))))))))]⟩
def qhp_ (k n:Nat) (x:qhn_.T) (kx:Nat→St→Option Bool):Option Bool:=z69_ k n x.1.2.1 x.1.2.2.1 x.1.2.2.2.1 x.2.2.1 (fun (v_1:Int×Int×Int×List (Int×Int×Int))=>kx 0 (qho_.fill (((),()),(),(v_1,()))))
def qhq_ (k:Nat):Oracles Bool:=⟨fun n=>bif Nat.beq n 2 then some (fun σ kx=>qhn_.get σ fun x=>qhp_ k k x kx) else none,fun _=>none⟩
def qhr_ (k:Nat):FE:=⟨(.st (.pr (.int .i64) (.pr (.int .i64) (.pr (.int .i64) (.sl 138 (.st (.pr (.int .i64) (.pr (.int .i64) (.int .i64))))))))),1,.bool,fun x=>zfb_ k x⟩
theorem qhs_ (k:Nat):zc_ (z3_ ti [(130,qgv_),(129,qco_),(132,qdb_),(131,qdo_ k)] (lk []) z4_ z5_) (qhq_ k) (rdC (z3_ ti [(130,qgv_),(129,qco_),(132,qdb_),(131,qdo_ k)] (lk []) z4_ z5_) [.tmp 2] .bool) ((zb_ (z2_ Tryz.f85)).getD 0 .skip) (fun σ kx=>qhn_.get σ fun x=>qhp_ k k x kx):=by
 refine ⟨qhn_,[(0,qho_)],fun n x kx=>qhp_ k n x kx,k,by kernel_rfl,by kernel_rfl,fun x kx=>by kernel_rfl,?_,fun σ kx=>rfl⟩
 rintro n ⟨⟨⟨⟩,x6,x7,x8,⟨⟩⟩,⟨⟩,⟨v_1,⟨⟩⟩⟩ kx
 kernel_rfl
theorem qht_ (k:Nat):FnOK Tryz.prog 85 (qhr_ k):=by
 refine za_ (tab:=[(130,qgv_),(129,qco_),(132,qdb_),(131,qdo_ k)]) (l:=[]) z7_ z9_ mix (List.forall_mem_cons.2 ⟨qgw_,(List.forall_mem_cons.2 ⟨qcp_,(List.forall_mem_cons.2 ⟨qdc_,(List.forall_mem_cons.2 ⟨qdq_ k,(List.forall_mem_nil _)⟩)⟩)⟩)⟩) (List.forall_mem_nil _) ⟨⟨Tryz.f85,(z2_ Tryz.f85),[.tmp 2],(qhq_ k),by kernel_rfl,by kernel_rfl,by kernel_rfl,by kernel_rfl,rfl,by decide,⟨by kernel_rfl,?_,?_⟩,?_⟩⟩
 ·refine zf_ (n:=1) (by kernel_rfl) fun i hi=>?_
  match i,hi with
  | 0,_=>exact zd_ (by kernel_rfl) (qhs_ k)
  | n+1,hi=>omega
 ·exact z8_ (by kernel_rfl)
 ·rintro n0
  kernel_rfl
def z6b_ (k:Nat):Nat→zT2→Int→Int→(Int×Int×List (Int×Int×Int))→((Int×Int×List (Int×Int×Int))→Option Bool)→Option Bool
 | 0,_,_,_,_,_=>none
 | n+1,x6,x7,x8,v_1,e_0=>(if (decide (x8<x7))=true then (if 0≤x8 then (x6[x8.toNat]?).bind fun y_1=>(if (decide (y_1.1<0))=true then some false else (if (decide (y_1.2.1≤y_1.1))=true then some false else (if (decide (v_1.1≤y_1.2.1))=true then some false else (z3m_ y_1.2.2 v_1.2.1).bind fun r_2=>(if (!r_2)=true then some false else (if (decide (0<x8))=true then (if 0≤(z0_ (x8-1)) then (v_1.2.2[(z0_ (x8-1)).toNat]?).bind fun y_3=>(z6a_ y_3.1 y_1.1).bind fun r_4=>(if 0≤(z0_ (x8-1)) then (v_1.2.2[(z0_ (x8-1)).toNat]?).bind fun y_5=>(z6a_ y_5.2.1 y_1.2.1).bind fun r_6=>(zc8_ k [r_4,r_6]).bind fun r_7=>(if (decide (0≤r_7))=true then some false else z6b_ k n x6 x7 (z0_ (x8+1)) v_1 e_0) else none) else none) else z6b_ k n x6 x7 (z0_ (x8+1)) v_1 e_0))))) else none) else e_0 v_1)
def zfc_ (k:Nat) (x0:Int×Int×List (Int×Int×Int)):Option Bool:=z6b_ k k x0.2.2 (List.length x0.2.2:Int) 0 x0 (fun v_8=>(z2e_ v_8.1 1 12).bind fun r_9=>(if r_9=true then (z2e_ v_8.2.1 2 360).bind fun r_10=>(if r_10=true then some (decide ((List.length v_8.2.2:Int)≤24)) else some false) else some false))
def qhu_:Head:=⟨[(1,(.bp 1 [] 0)),(6,(.val (.sl 133 (.st (.pr (.int .i64) (.pr (.int .i64) (.int .i64))))))),(7,(.val (.int .i64))),(8,(.val (.int .i64)))],[],[(1,50,(.val (.st (.pr (.int .i64) (.pr (.int .i64) (.sl 133 (.st (.pr (.int .i64) (.pr (.int .i64) (.int .i64))))))))))]⟩
def qhv_:Head:=⟨[(1,(.bp 1 [] 0))],[],[(1,50,(.val (.st (.pr (.int .i64) (.pr (.int .i64) (.sl 133 (.st (.pr (.int .i64) (.pr (.int .i64) (.int .i64))))))))))]⟩
def qhw_ (k n:Nat) (x:qhu_.T) (kx:Nat→St→Option Bool):Option Bool:=z6b_ k n x.1.2.1 x.1.2.2.1 x.1.2.2.2.1 x.2.2.1 (fun (v_1:Int×Int×List (Int×Int×Int))=>kx 0 (qhv_.fill (((),()),(),(v_1,()))))
def qhx_ (k:Nat):Oracles Bool:=⟨fun n=>bif Nat.beq n 2 then some (fun σ kx=>qhu_.get σ fun x=>qhw_ k k x kx) else none,fun _=>none⟩
def qhy_ (k:Nat):FE:=⟨(.st (.pr (.int .i64) (.pr (.int .i64) (.sl 133 (.st (.pr (.int .i64) (.pr (.int .i64) (.int .i64)))))))),1,.bool,fun x=>zfc_ k x⟩
theorem qhz_ (k:Nat):zc_ (z3_ ti [(130,qgv_),(132,qdb_),(131,qdo_ k),(129,qco_)] (lk []) z4_ z5_) (qhx_ k) (rdC (z3_ ti [(130,qgv_),(132,qdb_),(131,qdo_ k),(129,qco_)] (lk []) z4_ z5_) [.tmp 2] .bool) ((zb_ (z2_ Tryz.f86)).getD 0 .skip) (fun σ kx=>qhu_.get σ fun x=>qhw_ k k x kx):=by
 refine ⟨qhu_,[(0,qhv_)],fun n x kx=>qhw_ k n x kx,k,by kernel_rfl,by kernel_rfl,fun x kx=>by kernel_rfl,?_,fun σ kx=>rfl⟩
 rintro n ⟨⟨⟨⟩,x6,x7,x8,⟨⟩⟩,⟨⟩,⟨v_1,⟨⟩⟩⟩ kx
 kernel_rfl
theorem qi0_ (k:Nat):FnOK Tryz.prog 86 (qhy_ k):=by
 refine za_ (tab:=[(130,qgv_),(132,qdb_),(131,qdo_ k),(129,qco_)]) (l:=[]) z7_ z9_ mix (List.forall_mem_cons.2 ⟨qgw_,(List.forall_mem_cons.2 ⟨qdc_,(List.forall_mem_cons.2 ⟨qdq_ k,(List.forall_mem_cons.2 ⟨qcp_,(List.forall_mem_nil _)⟩)⟩)⟩)⟩) (List.forall_mem_nil _) ⟨⟨Tryz.f86,(z2_ Tryz.f86),[.tmp 2],(qhx_ k),by kernel_rfl,by kernel_rfl,by kernel_rfl,by kernel_rfl,rfl,by decide,⟨by kernel_rfl,?_,?_⟩,?_⟩⟩
 ·refine zf_ (n:=1) (by kernel_rfl) fun i hi=>?_
  match i,hi with
  | 0,_=>exact zd_ (by kernel_rfl) (qhz_ k)
  | n+1,hi=>omega
 ·exact z8_ (by kernel_rfl)
 ·rintro x0
  kernel_rfl
def z9i_ (k:Nat) (x0:List Int) (length1:Int) (p2:Int):Option Bool:=(z4p_ x0).bind fun r_1=>(if (decide (r_1=length1))=true then (zc6_ k x0 p2).bind fun r_2=>some r_2 else some false)
def qi1_ (k:Nat):FE:=⟨(.pr (.sl 2 (.int .i64)) (.pr (.int .i64) (.int .i64))),1,.bool,fun x=>z9i_ k x.1 x.2.1 x.2.2⟩
theorem qi2_ (k:Nat):FnOK Tryz.prog 87 (qi1_ k):=by
 refine za_ (tab:=[(133,qfm_),(134,qh8_ k)]) (l:=[]) z7_ z9_ mix (List.forall_mem_cons.2 ⟨qfn_,(List.forall_mem_cons.2 ⟨qh9_ k,(List.forall_mem_nil _)⟩)⟩) (List.forall_mem_nil _) ⟨⟨Tryz.f87,(z2_ Tryz.f87),[.tmp 6],(LOn Bool),by kernel_rfl,by kernel_rfl,by kernel_rfl,by kernel_rfl,rfl,by decide,⟨by kernel_rfl,?_,?_⟩,?_⟩⟩
 ·exact ze_ (by kernel_rfl)
 ·exact z8_ (by kernel_rfl)
 ·rintro ⟨x0,length1,p2⟩
  kernel_rfl
def zjo_ (k:Nat) (x0:Int×Int×List (Int×Int×Int)) (phases1:List Int):Option Bool:=(z9i_ k phases1 x0.1 x0.2.1).bind fun r_1=>some r_1
def qi3_ (k:Nat):FE:=⟨(.pr (.st (.pr (.int .i64) (.pr (.int .i64) (.sl 133 (.st (.pr (.int .i64) (.pr (.int .i64) (.int .i64)))))))) (.sl 2 (.int .i64))),1,.bool,fun x=>zjo_ k x.1 x.2⟩
theorem qi4_ (k:Nat):FnOK Tryz.prog 89 (qi3_ k):=by
 refine za_ (tab:=[(87,qi1_ k)]) (l:=[]) z7_ z9_ mix (List.forall_mem_cons.2 ⟨qi2_ k,(List.forall_mem_nil _)⟩) (List.forall_mem_nil _) ⟨⟨Tryz.f89,(z2_ Tryz.f89),[.tmp 4],(LOn Bool),by kernel_rfl,by kernel_rfl,by kernel_rfl,by kernel_rfl,rfl,by decide,⟨by kernel_rfl,?_,?_⟩,?_⟩⟩
 ·exact ze_ (by kernel_rfl)
 ·exact z8_ (by kernel_rfl)
 ·rintro ⟨x0,phases1⟩
  kernel_rfl
def zfd_ (k:Nat) (w0:zT0×Int×List Int×List Int×(Int×Int×Int×List (Int×Int×Int))×List Int×List Int×(Int×Int×List (Int×Int×Int))×List Int):Option Bool:=(zf8_ k w0.1).bind fun r_1=>(if (!r_1)=true then some false else (zjn_ w0.2.1).bind fun r_2=>(if (!r_2)=true then some false else (zfb_ k w0.2.2.2.2.1).bind fun r_3=>(if (!r_3)=true then some false else (zfc_ k w0.2.2.2.2.2.2.2.1).bind fun r_4=>(if (!r_4)=true then some false else (z6c_ k w0.1 w0.2.1).bind fun r_5=>(z9i_ k w0.2.2.1 r_5 w0.1.2.1).bind fun r_6=>(if r_6=true then (z6c_ k w0.1 0).bind fun r_7=>(z9i_ k w0.2.2.2.1 r_7 w0.1.2.1).bind fun r_8=>(if r_8=true then (zjo_ k w0.2.2.2.2.2.2.2.1 w0.2.2.2.2.2.2.2.2).bind fun r_9=>some r_9 else some false) else some false)))))
def qi5_ (k:Nat):FE:=⟨(.st (.pr (.st (.pr (.st (.sl 25 (.sl 2 (.int .i64)))) (.pr (.int .i64) (.pr (.sl 2 (.int .i64)) (.sl 135 (.st (.pr (.int .i64) (.pr (.int .i64) (.pr (.int .i64) (.sl 2 (.int .i64))))))))))) (.pr (.int .i64) (.pr (.sl 2 (.int .i64)) (.pr (.sl 2 (.int .i64)) (.pr (.st (.pr (.int .i64) (.pr (.int .i64) (.pr (.int .i64) (.sl 138 (.st (.pr (.int .i64) (.pr (.int .i64) (.int .i64))))))))) (.pr (.sl 2 (.int .i64)) (.pr (.sl 2 (.int .i64)) (.pr (.st (.pr (.int .i64) (.pr (.int .i64) (.sl 133 (.st (.pr (.int .i64) (.pr (.int .i64) (.int .i64)))))))) (.sl 2 (.int .i64))))))))))),1,.bool,fun x=>zfd_ k x⟩
theorem qi6_ (k:Nat):FnOK Tryz.prog 47 (qi5_ k):=by
 refine za_ (tab:=[(83,qhi_ k),(84,qhl_),(85,qhr_ k),(86,qhy_ k),(88,qfz_ k),(87,qi1_ k),(89,qi3_ k)]) (l:=[]) z7_ z9_ mix (List.forall_mem_cons.2 ⟨qhk_ k,(List.forall_mem_cons.2 ⟨qhm_,(List.forall_mem_cons.2 ⟨qht_ k,(List.forall_mem_cons.2 ⟨qi0_ k,(List.forall_mem_cons.2 ⟨qg1_ k,(List.forall_mem_cons.2 ⟨qi2_ k,(List.forall_mem_cons.2 ⟨qi4_ k,(List.forall_mem_nil _)⟩)⟩)⟩)⟩)⟩)⟩)⟩) (List.forall_mem_nil _) ⟨⟨Tryz.f47,(z2_ Tryz.f47),[.tmp 2],(LOn Bool),by kernel_rfl,by kernel_rfl,by kernel_rfl,by kernel_rfl,rfl,by decide,⟨by kernel_rfl,?_,?_⟩,?_⟩⟩
 ·exact ze_ (by kernel_rfl)
 ·exact z8_ (by kernel_rfl)
 ·rintro w0
  kernel_rfl
def zjp_ (i0:Int) (j1:Int):Option Int:=some 0
def qi7_:FE:=⟨(.pr (.int .i64) (.int .i64)),1,(.int .i64),fun x=>zjp_ x.1 x.2⟩
theorem qi8_:FnOK Tryz.prog 174 (qi7_):=by
 refine za_ (tab:=[]) (l:=[]) z7_ z9_ mix (List.forall_mem_nil _) (List.forall_mem_nil _) ⟨⟨Tryz.f174,(z2_ Tryz.f174),[.tmp 4],(LOn Int),by kernel_rfl,by kernel_rfl,by kernel_rfl,by kernel_rfl,rfl,by decide,⟨by kernel_rfl,?_,?_⟩,?_⟩⟩
 ·exact ze_ (by kernel_rfl)
 ·exact z8_ (by kernel_rfl)
 ·rintro ⟨i0,j1⟩
  kernel_rfl
end
end Go.Proofs.YtioaaljaohhjiaaGreatDoor.Ev
