/- Functions of the program, as plain ones. No conditions. -/
import Derived.Test.YtbfbojmkmjhdcaaGreatDoorG9
import Derived.KernelRfl
set_option linter.unusedVariables false
set_option maxRecDepth 100000
namespace Go.Proofs.YtbfbojmkmjhdcaaGreatDoor.Ev
open Go.RowKit
noncomputable section
def zhw_ (a0:Int) (x1:Int):Option Bool:=(z3k_ a0 x1).bind fun r_1=>some (!r_1)
def qgx_:FE:=⟨(.pr (.int .i64) (.ptr (.int .i64))),1,.bool,fun x=>zhw_ x.1 x.2⟩
theorem qgy_:FnOK Tryz.prog 159 (qgx_):=by
 refine za_ (tab:=[(125,qgv_)]) (l:=[]) z7_ z9_ mix (List.forall_mem_cons.2 ⟨qgw_,(List.forall_mem_nil _)⟩) (List.forall_mem_nil _) ⟨⟨Tryz.f159,(z2_ Tryz.f159),[.tmp 3],(LOn Bool),by kernel_rfl,by kernel_rfl,by kernel_rfl,by kernel_rfl,rfl,by decide,⟨by kernel_rfl,?_,?_⟩,?_⟩⟩
 ·exact ze_ (by kernel_rfl)
 ·exact z8_ (by kernel_rfl)
 ·rintro ⟨a0,x1⟩
  kernel_rfl
def z8n_ (k:Nat):Nat→(List Int)→Int→Int→Int→(Option Int)→Option Int
 | 0,_,_,_,_,_=>none
 | n+1,s0,f1,x7,x8,e_0=>(if (decide (x8<x7))=true then (if 0≤x8 then (s0[x8.toNat]?).bind fun y_1=>(zhw_ y_1 f1).bind fun r_2=>(if r_2=true then some x8 else z8n_ k n s0 f1 x7 (z0_ (x8+1)) e_0) else none) else e_0)
def zhx_ (k:Nat) (s0:List Int) (f1:Int):Option Int:=z8n_ k k s0 f1 (List.length s0:Int) 0 (some (-1))
def qgz_:Head:=⟨[(0,(.val (.sl 2 (.int .i64)))),(1,(.val (.fn 159 (.ptr (.int .i64))))),(7,(.val (.int .i64))),(8,(.val (.int .i64)))],[],[]⟩
def qh0_:Head:=⟨[],[],[]⟩
def qh1_ (k n:Nat) (x:qgz_.T) (kx:Nat→St→Option Int):Option Int:=z8n_ k n x.1.1 x.1.2.1 x.1.2.2.1 x.1.2.2.2.1 (kx 0 (qh0_.fill ((),(),())))
def qh2_ (k:Nat):Oracles Int:=⟨fun n=>bif Nat.beq n 2 then some (fun σ kx=>qgz_.get σ fun x=>qh1_ k k x kx) else none,fun _=>none⟩
def qh3_ (k:Nat):FE:=⟨(.pr (.sl 2 (.int .i64)) (.fn 159 (.ptr (.int .i64)))),1,(.int .i64),fun x=>zhx_ k x.1 x.2⟩
theorem qh4_ (k:Nat):zc_ (z3_ ti [(159,qgx_)] (lk []) z4_ z5_) (qh2_ k) (rdC (z3_ ti [(159,qgx_)] (lk []) z4_ z5_) [.tmp 4] (.int .i64)) ((zb_ (z2_ Tryz.f131)).getD 0 .skip) (fun σ kx=>qgz_.get σ fun x=>qh1_ k k x kx):=by
 refine ⟨qgz_,[(0,qh0_)],fun n x kx=>qh1_ k n x kx,k,by kernel_rfl,by kernel_rfl,fun x kx=>by kernel_rfl,?_,fun σ kx=>rfl⟩
 rintro n ⟨⟨s0,f1,x7,x8,⟨⟩⟩,⟨⟩,⟨⟩⟩ kx
 kernel_rfl
theorem qh5_ (k:Nat):FnOK Tryz.prog 131 (qh3_ k):=by
 refine za_ (tab:=[(159,qgx_)]) (l:=[]) z7_ z9_ mix (List.forall_mem_cons.2 ⟨qgy_,(List.forall_mem_nil _)⟩) (List.forall_mem_nil _) ⟨⟨Tryz.f131,(z2_ Tryz.f131),[.tmp 4],(qh2_ k),by kernel_rfl,by kernel_rfl,by kernel_rfl,by kernel_rfl,rfl,by decide,⟨by kernel_rfl,?_,?_⟩,?_⟩⟩
 ·refine zh_ (n:=1) (by kernel_rfl) fun i hi=>?_
  match i,hi with
  | 0,_=>exact zd_ (by kernel_rfl) (qh4_ k)
  | n+1,hi=>omega
 ·exact z8_ (by kernel_rfl)
 ·rintro ⟨s0,f1⟩
  kernel_rfl
def zhy_ (k:Nat) (s0:List Int) (f1:Int):Option Bool:=(zhx_ k s0 f1).bind fun r_1=>some (decide (0≤r_1))
def qh6_ (k:Nat):FE:=⟨(.pr (.sl 2 (.int .i64)) (.fn 159 (.ptr (.int .i64)))),1,.bool,fun x=>zhy_ k x.1 x.2⟩
theorem qh7_ (k:Nat):FnOK Tryz.prog 90 (qh6_ k):=by
 refine za_ (tab:=[(131,qh3_ k)]) (l:=[]) z7_ z9_ mix (List.forall_mem_cons.2 ⟨qh5_ k,(List.forall_mem_nil _)⟩) (List.forall_mem_nil _) ⟨⟨Tryz.f90,(z2_ Tryz.f90),[.tmp 4],(LOn Bool),by kernel_rfl,by kernel_rfl,by kernel_rfl,by kernel_rfl,rfl,by decide,⟨by kernel_rfl,?_,?_⟩,?_⟩⟩
 ·exact ze_ (by kernel_rfl)
 ·exact z8_ (by kernel_rfl)
 ·rintro ⟨s0,f1⟩
  kernel_rfl
def zb7_ (k:Nat) (list0:List Int) (p1:Int):Option Bool:=(zhy_ k list0 p1).bind fun r_1=>some (!r_1)
def qh8_ (k:Nat):FE:=⟨(.pr (.sl 2 (.int .i64)) (.int .i64)),1,.bool,fun x=>zb7_ k x.1 x.2⟩
theorem qh9_ (k:Nat):FnOK Tryz.prog 129 (qh8_ k):=by
 refine za_ (tab:=[(90,qh6_ k)]) (l:=[]) z7_ z9_ mix (List.forall_mem_cons.2 ⟨qh7_ k,(List.forall_mem_nil _)⟩) (List.forall_mem_nil _) ⟨⟨Tryz.f129,(z2_ Tryz.f129),[.tmp 4],(LOn Bool),by kernel_rfl,by kernel_rfl,by kernel_rfl,by kernel_rfl,rfl,by decide,⟨by kernel_rfl,?_,?_⟩,?_⟩⟩
 ·exact ze_ (by kernel_rfl)
 ·exact z8_ (by kernel_rfl)
 ·rintro ⟨list0,p1⟩
  kernel_rfl
def zb8_ (k:Nat) (m0:Int×Int×Int×List Int):Option Bool:=(z8o_ k m0.1).bind fun r_1=>(if r_1=true then (ze0_ m0.2.1).bind fun r_2=>(if r_2=true then (ze0_ m0.2.2.1).bind fun r_3=>(if r_3=true then (z6x_ m0.2.2.2).bind fun r_4=>(if (decide (r_4=(z0_ (m0.2.1*m0.2.2.1))))=true then (zb7_ k m0.2.2.2 m0.1).bind fun r_5=>some r_5 else some false) else some false) else some false) else some false)
def qha_ (k:Nat):FE:=⟨(.st (.pr (.int .i64) (.pr (.int .i64) (.pr (.int .i64) (.sl 2 (.int .i64)))))),1,.bool,fun x=>zb8_ k x⟩
theorem qhb_ (k:Nat):FnOK Tryz.prog 157 (qha_ k):=by
 refine za_ (tab:=[(120,qf8_ k),(173,qgt_),(128,qfm_),(129,qh8_ k)]) (l:=[]) z7_ z9_ mix (List.forall_mem_cons.2 ⟨qfa_ k,(List.forall_mem_cons.2 ⟨qgu_,(List.forall_mem_cons.2 ⟨qfn_,(List.forall_mem_cons.2 ⟨qh9_ k,(List.forall_mem_nil _)⟩)⟩)⟩)⟩) (List.forall_mem_nil _) ⟨⟨Tryz.f157,(z2_ Tryz.f157),[.tmp 2],(LOn Bool),by kernel_rfl,by kernel_rfl,by kernel_rfl,by kernel_rfl,rfl,by decide,⟨by kernel_rfl,?_,?_⟩,?_⟩⟩
 ·exact ze_ (by kernel_rfl)
 ·exact z8_ (by kernel_rfl)
 ·rintro m0
  kernel_rfl
def zhz_ (k:Nat) (m0:Int×Int×Int×List Int) (p1:Int) (from2:Int) (to3:Int):Option Bool:=(zb8_ k m0).bind fun r_1=>(if r_1=true then (if (decide (m0.1=p1))=true then (if (decide (m0.2.1=to3))=true then some (decide (m0.2.2.1=from2)) else some false) else some false) else some false)
def qhc_ (k:Nat):FE:=⟨(.pr (.st (.pr (.int .i64) (.pr (.int .i64) (.pr (.int .i64) (.sl 2 (.int .i64)))))) (.pr (.int .i64) (.pr (.int .i64) (.int .i64)))),1,.bool,fun x=>zhz_ k x.1 x.2.1 x.2.2.1 x.2.2.2⟩
theorem qhd_ (k:Nat):FnOK Tryz.prog 123 (qhc_ k):=by
 refine za_ (tab:=[(157,qha_ k)]) (l:=[]) z7_ z9_ mix (List.forall_mem_cons.2 ⟨qhb_ k,(List.forall_mem_nil _)⟩) (List.forall_mem_nil _) ⟨⟨Tryz.f123,(z2_ Tryz.f123),[.tmp 8],(LOn Bool),by kernel_rfl,by kernel_rfl,by kernel_rfl,by kernel_rfl,rfl,by decide,⟨by kernel_rfl,?_,?_⟩,?_⟩⟩
 ·exact ze_ (by kernel_rfl)
 ·exact z8_ (by kernel_rfl)
 ·rintro ⟨m0,p1,from2,to3⟩
  kernel_rfl
def z8p_ (k:Nat):Nat→Int→Int→zT2→zT0→(zT2→zT0→Option Bool)→Option Bool
 | 0,_,_,_,_,_=>none
 | n+1,x28,x29,q_5,v_1,e_0=>(if (decide (x29<x28))=true then (if 0≤x29∧x29.toNat<List.length q_5 then (q_5[x29.toNat]?).bind fun y_6=>(if (decide ((List.length v_1.2.2.2:Int)≤x29))=true then some false else (if 0≤x29 then (v_1.2.2.2[x29.toNat]?).bind fun y_7=>(if 0≤y_6.2.2 then (v_1.2.2.1[y_6.2.2.toNat]?).bind fun y_8=>(if 0≤y_6.1 then (v_1.2.2.1[y_6.1.toNat]?).bind fun y_9=>(zhz_ k y_7 v_1.2.1 y_8 y_9).bind fun r_10=>(if (!r_10)=true then some false else z8p_ k n x28 (z0_ (x29+1)) q_5 v_1 e_0) else none) else none) else none)) else none) else e_0 q_5 v_1)
def ze1_ (k:Nat) (s0:List (List Int)×Int×List Int×List (Int×Int×Int×List Int)):Option Bool:=(ze2_ k s0.1).bind fun r_1=>(if (!r_1)=true then some false else (z8o_ k s0.2.1).bind fun r_2=>(if (!r_2)=true then some false else (ze3_ k s0.1 s0.2.2.1).bind fun r_3=>(if (!r_3)=true then some false else (ze4_ k s0.1).bind fun r_4=>z8p_ k k (List.length r_4:Int) 0 r_4 s0 (fun q_11 v_12=>some (decide ((List.length q_11:Int)=(List.length v_12.2.2.2:Int)))))))
def qhe_:Head:=⟨[(1,(.bp 1 [] 0)),(3,(.ref 64000000 [])),(27,(.ref 64000000 [])),(28,(.val (.int .i64))),(29,(.val (.int .i64)))],[(64000000,177,(.st (.pr (.int .i64) (.pr (.int .i64) (.int .i64)))),false)],[(1,44,(.val (.st (.pr (.st (.sl 25 (.sl 2 (.int .i64)))) (.pr (.int .i64) (.pr (.sl 2 (.int .i64)) (.sl 135 (.st (.pr (.int .i64) (.pr (.int .i64) (.pr (.int .i64) (.sl 2 (.int .i64)))))))))))))]⟩
def qhf_:Head:=⟨[(1,(.bp 1 [] 0)),(3,(.ref 64000000 []))],[(64000000,177,(.st (.pr (.int .i64) (.pr (.int .i64) (.int .i64)))),false)],[(1,44,(.val (.st (.pr (.st (.sl 25 (.sl 2 (.int .i64)))) (.pr (.int .i64) (.pr (.sl 2 (.int .i64)) (.sl 135 (.st (.pr (.int .i64) (.pr (.int .i64) (.pr (.int .i64) (.sl 2 (.int .i64)))))))))))))]⟩
def qhg_ (k n:Nat) (x:qhe_.T) (kx:Nat→St→Option Bool):Option Bool:=z8p_ k n x.1.2.2.2.1 x.1.2.2.2.2.1 x.2.1.1 x.2.2.1 (fun (q_11:List (Int×Int×Int)) (v_1:List (List Int)×Int×List Int×List (Int×Int×Int×List Int))=>kx 0 (qhf_.fill (((),(),()),(q_11,()),(v_1,()))))
def qhh_ (k:Nat):Oracles Bool:=⟨fun n=>bif Nat.beq n 5 then some (fun σ kx=>qhe_.get σ fun x=>qhg_ k k x kx) else none,fun _=>none⟩
def qhi_ (k:Nat):FE:=⟨(.st (.pr (.st (.sl 25 (.sl 2 (.int .i64)))) (.pr (.int .i64) (.pr (.sl 2 (.int .i64)) (.sl 135 (.st (.pr (.int .i64) (.pr (.int .i64) (.pr (.int .i64) (.sl 2 (.int .i64))))))))))),1,.bool,fun x=>ze1_ k x⟩
theorem qhj_ (k:Nat):zc_ (z3_ ti [(119,qf1_ k),(120,qf8_ k),(121,qg6_ k),(122,qgp_ k),(123,qhc_ k)] (lk []) z4_ z5_) (qhh_ k) (rdC (z3_ ti [(119,qf1_ k),(120,qf8_ k),(121,qg6_ k),(122,qgp_ k),(123,qhc_ k)] (lk []) z4_ z5_) [.tmp 2] .bool) ((zb_ (z2_ Tryz.f83)).getD 0 .skip) (fun σ kx=>qhe_.get σ fun x=>qhg_ k k x kx):=by
 refine ⟨qhe_,[(0,qhf_)],fun n x kx=>qhg_ k n x kx,k,by kernel_rfl,by kernel_rfl,fun x kx=>by kernel_rfl,?_,fun σ kx=>rfl⟩
 rintro n ⟨⟨⟨⟩,⟨⟩,⟨⟩,x28,x29,⟨⟩⟩,⟨q_5,⟨⟩⟩,⟨v_1,⟨⟩⟩⟩ kx
 kernel_rfl
theorem qhk_ (k:Nat):FnOK Tryz.prog 83 (qhi_ k):=by
 refine za_ (tab:=[(119,qf1_ k),(120,qf8_ k),(121,qg6_ k),(122,qgp_ k),(123,qhc_ k)]) (l:=[]) z7_ z9_ mix (List.forall_mem_cons.2 ⟨qf3_ k,(List.forall_mem_cons.2 ⟨qfa_ k,(List.forall_mem_cons.2 ⟨qg8_ k,(List.forall_mem_cons.2 ⟨qgs_ k,(List.forall_mem_cons.2 ⟨qhd_ k,(List.forall_mem_nil _)⟩)⟩)⟩)⟩)⟩) (List.forall_mem_nil _) ⟨⟨Tryz.f83,(z2_ Tryz.f83),[.tmp 2],(qhh_ k),by kernel_rfl,by kernel_rfl,by kernel_rfl,by kernel_rfl,rfl,by decide,⟨by kernel_rfl,?_,?_⟩,?_⟩⟩
 ·refine zh_ (n:=1) (by kernel_rfl) fun i hi=>?_
  match i,hi with
  | 0,_=>exact zd_ (by kernel_rfl) (qhj_ k)
  | n+1,hi=>omega
 ·exact z8_ (by kernel_rfl)
 ·rintro s0
  kernel_rfl
def zi0_ (k0:Int):Option Bool:=(z2d_ k0 0 3).bind fun r_1=>some r_1
def qhl_:FE:=⟨(.int .i64),1,.bool,fun x=>zi0_ x⟩
theorem qhm_:FnOK Tryz.prog 84 (qhl_):=by
 refine za_ (tab:=[(124,qco_)]) (l:=[]) z7_ z9_ mix (List.forall_mem_cons.2 ⟨qcp_,(List.forall_mem_nil _)⟩) (List.forall_mem_nil _) ⟨⟨Tryz.f84,(z2_ Tryz.f84),[.tmp 2],(LOn Bool),by kernel_rfl,by kernel_rfl,by kernel_rfl,by kernel_rfl,rfl,by decide,⟨by kernel_rfl,?_,?_⟩,?_⟩⟩
 ·exact ze_ (by kernel_rfl)
 ·exact z8_ (by kernel_rfl)
 ·rintro k0
  kernel_rfl
def z61_ (k:Nat):Nat→zT2→Int→Int→(Int×Int×Int×List (Int×Int×Int))→((Int×Int×Int×List (Int×Int×Int))→Option Bool)→Option Bool
 | 0,_,_,_,_,_=>none
 | n+1,x6,x7,x8,v_1,e_0=>(if (decide (x8<x7))=true then (if 0≤x8 then (x6[x8.toNat]?).bind fun y_1=>(z3k_ y_1.1 v_1.1).bind fun r_2=>(if (!r_2)=true then some false else (z3k_ y_1.2.1 v_1.1).bind fun r_3=>(if (!r_3)=true then some false else (if (decide (y_1.1=y_1.2.1))=true then some false else (z2d_ y_1.2.2 0 1000000).bind fun r_4=>(if (!r_4)=true then some false else (if (decide (0<x8))=true then (if 0≤(z0_ (x8-1)) then (v_1.2.2.2[(z0_ (x8-1)).toNat]?).bind fun y_5=>(z62_ y_5.1 y_1.1).bind fun r_6=>(if 0≤(z0_ (x8-1)) then (v_1.2.2.2[(z0_ (x8-1)).toNat]?).bind fun y_7=>(z62_ y_7.2.1 y_1.2.1).bind fun r_8=>(zb9_ k [r_6,r_8]).bind fun r_9=>(if (decide (0≤r_9))=true then some false else z61_ k n x6 x7 (z0_ (x8+1)) v_1 e_0) else none) else none) else z61_ k n x6 x7 (z0_ (x8+1)) v_1 e_0))))) else none) else e_0 v_1)
def ze5_ (k:Nat) (n0:Int×Int×Int×List (Int×Int×Int)):Option Bool:=z61_ k k n0.2.2.2 (List.length n0.2.2.2:Int) 0 n0 (fun v_10=>(z2d_ v_10.1 2 12).bind fun r_11=>(if r_11=true then (z3k_ v_10.2.1 v_10.1).bind fun r_12=>(if r_12=true then (z3k_ v_10.2.2.1 v_10.1).bind fun r_13=>(if r_13=true then (if (!(decide (v_10.2.1=v_10.2.2.1)))=true then some (decide ((List.length v_10.2.2.2:Int)≤24)) else some false) else some false) else some false) else some false))
def qhn_:Head:=⟨[(1,(.bp 1 [] 0)),(6,(.val (.sl 138 (.st (.pr (.int .i64) (.pr (.int .i64) (.int .i64))))))),(7,(.val (.int .i64))),(8,(.val (.int .i64)))],[],[(1,47,(.val (.st (.pr (.int .i64) (.pr (.int .i64) (.pr (.int .i64) (.sl 138 (.st (.pr (.int .i64) (.pr (.int .i64) (.int .i64)))))))))))]⟩
def qho_:Head:=⟨[(1,(.bp 1 [] 0))],[],[(1,47,(.val (.st (.pr (.int .i64) (.pr (.int .i64) (.pr (.int .i64) (.sl 138 (.st (.pr (.int .i64) (.pr (.int .i64) (.int .i64)))))))))))]⟩
def qhp_ (k n:Nat) (x:qhn_.T) (kx:Nat→St→Option Bool):Option Bool:=z61_ k n x.1.2.1 x.1.2.2.1 x.1.2.2.2.1 x.2.2.1 (fun (v_1:Int×Int×Int×List (Int×Int×Int))=>kx 0 (qho_.fill (((),()),(),(v_1,()))))
def qhq_ (k:Nat):Oracles Bool:=⟨fun n=>bif Nat.beq n 2 then some (fun σ kx=>qhn_.get σ fun x=>qhp_ k k x kx) else none,fun _=>none⟩
def qhr_ (k:Nat):FE:=⟨(.st (.pr (.int .i64) (.pr (.int .i64) (.pr (.int .i64) (.sl 138 (.st (.pr (.int .i64) (.pr (.int .i64) (.int .i64))))))))),1,.bool,fun x=>ze5_ k x⟩
theorem qhs_ (k:Nat):zc_ (z3_ ti [(125,qgv_),(124,qco_),(127,qdb_),(126,qdo_ k)] (lk []) z4_ z5_) (qhq_ k) (rdC (z3_ ti [(125,qgv_),(124,qco_),(127,qdb_),(126,qdo_ k)] (lk []) z4_ z5_) [.tmp 2] .bool) ((zb_ (z2_ Tryz.f85)).getD 0 .skip) (fun σ kx=>qhn_.get σ fun x=>qhp_ k k x kx):=by
 refine ⟨qhn_,[(0,qho_)],fun n x kx=>qhp_ k n x kx,k,by kernel_rfl,by kernel_rfl,fun x kx=>by kernel_rfl,?_,fun σ kx=>rfl⟩
 rintro n ⟨⟨⟨⟩,x6,x7,x8,⟨⟩⟩,⟨⟩,⟨v_1,⟨⟩⟩⟩ kx
 kernel_rfl
theorem qht_ (k:Nat):FnOK Tryz.prog 85 (qhr_ k):=by
 refine za_ (tab:=[(125,qgv_),(124,qco_),(127,qdb_),(126,qdo_ k)]) (l:=[]) z7_ z9_ mix (List.forall_mem_cons.2 ⟨qgw_,(List.forall_mem_cons.2 ⟨qcp_,(List.forall_mem_cons.2 ⟨qdc_,(List.forall_mem_cons.2 ⟨qdq_ k,(List.forall_mem_nil _)⟩)⟩)⟩)⟩) (List.forall_mem_nil _) ⟨⟨Tryz.f85,(z2_ Tryz.f85),[.tmp 2],(qhq_ k),by kernel_rfl,by kernel_rfl,by kernel_rfl,by kernel_rfl,rfl,by decide,⟨by kernel_rfl,?_,?_⟩,?_⟩⟩
 ·refine zh_ (n:=1) (by kernel_rfl) fun i hi=>?_
  match i,hi with
  | 0,_=>exact zd_ (by kernel_rfl) (qhs_ k)
  | n+1,hi=>omega
 ·exact z8_ (by kernel_rfl)
 ·rintro n0
  kernel_rfl
def z63_ (k:Nat):Nat→zT2→Int→Int→(Int×Int×List (Int×Int×Int))→((Int×Int×List (Int×Int×Int))→Option Bool)→Option Bool
 | 0,_,_,_,_,_=>none
 | n+1,x6,x7,x8,v_1,e_0=>(if (decide (x8<x7))=true then (if 0≤x8 then (x6[x8.toNat]?).bind fun y_1=>(if (decide (y_1.1<0))=true then some false else (if (decide (y_1.2.1≤y_1.1))=true then some false else (if (decide (v_1.1≤y_1.2.1))=true then some false else (z3k_ y_1.2.2 v_1.2.1).bind fun r_2=>(if (!r_2)=true then some false else (if (decide (0<x8))=true then (if 0≤(z0_ (x8-1)) then (v_1.2.2[(z0_ (x8-1)).toNat]?).bind fun y_3=>(z62_ y_3.1 y_1.1).bind fun r_4=>(if 0≤(z0_ (x8-1)) then (v_1.2.2[(z0_ (x8-1)).toNat]?).bind fun y_5=>(z62_ y_5.2.1 y_1.2.1).bind fun r_6=>(zb9_ k [r_4,r_6]).bind fun r_7=>(if (decide (0≤r_7))=true then some false else z63_ k n x6 x7 (z0_ (x8+1)) v_1 e_0) else none) else none) else z63_ k n x6 x7 (z0_ (x8+1)) v_1 e_0))))) else none) else e_0 v_1)
def ze6_ (k:Nat) (x0:Int×Int×List (Int×Int×Int)):Option Bool:=z63_ k k x0.2.2 (List.length x0.2.2:Int) 0 x0 (fun v_8=>(z2d_ v_8.1 1 12).bind fun r_9=>(if r_9=true then (z2d_ v_8.2.1 2 360).bind fun r_10=>(if r_10=true then some (decide ((List.length v_8.2.2:Int)≤24)) else some false) else some false))
def qhu_:Head:=⟨[(1,(.bp 1 [] 0)),(6,(.val (.sl 96 (.st (.pr (.int .i64) (.pr (.int .i64) (.int .i64))))))),(7,(.val (.int .i64))),(8,(.val (.int .i64)))],[],[(1,50,(.val (.st (.pr (.int .i64) (.pr (.int .i64) (.sl 96 (.st (.pr (.int .i64) (.pr (.int .i64) (.int .i64))))))))))]⟩
def qhv_:Head:=⟨[(1,(.bp 1 [] 0))],[],[(1,50,(.val (.st (.pr (.int .i64) (.pr (.int .i64) (.sl 96 (.st (.pr (.int .i64) (.pr (.int .i64) (.int .i64))))))))))]⟩
def qhw_ (k n:Nat) (x:qhu_.T) (kx:Nat→St→Option Bool):Option Bool:=z63_ k n x.1.2.1 x.1.2.2.1 x.1.2.2.2.1 x.2.2.1 (fun (v_1:Int×Int×List (Int×Int×Int))=>kx 0 (qhv_.fill (((),()),(),(v_1,()))))
def qhx_ (k:Nat):Oracles Bool:=⟨fun n=>bif Nat.beq n 2 then some (fun σ kx=>qhu_.get σ fun x=>qhw_ k k x kx) else none,fun _=>none⟩
def qhy_ (k:Nat):FE:=⟨(.st (.pr (.int .i64) (.pr (.int .i64) (.sl 96 (.st (.pr (.int .i64) (.pr (.int .i64) (.int .i64)))))))),1,.bool,fun x=>ze6_ k x⟩
theorem qhz_ (k:Nat):zc_ (z3_ ti [(125,qgv_),(127,qdb_),(126,qdo_ k),(124,qco_)] (lk []) z4_ z5_) (qhx_ k) (rdC (z3_ ti [(125,qgv_),(127,qdb_),(126,qdo_ k),(124,qco_)] (lk []) z4_ z5_) [.tmp 2] .bool) ((zb_ (z2_ Tryz.f86)).getD 0 .skip) (fun σ kx=>qhu_.get σ fun x=>qhw_ k k x kx):=by
 refine ⟨qhu_,[(0,qhv_)],fun n x kx=>qhw_ k n x kx,k,by kernel_rfl,by kernel_rfl,fun x kx=>by kernel_rfl,?_,fun σ kx=>rfl⟩
 rintro n ⟨⟨⟨⟩,x6,x7,x8,⟨⟩⟩,⟨⟩,⟨v_1,⟨⟩⟩⟩ kx
 kernel_rfl
theorem qi0_ (k:Nat):FnOK Tryz.prog 86 (qhy_ k):=by
 refine za_ (tab:=[(125,qgv_),(127,qdb_),(126,qdo_ k),(124,qco_)]) (l:=[]) z7_ z9_ mix (List.forall_mem_cons.2 ⟨qgw_,(List.forall_mem_cons.2 ⟨qdc_,(List.forall_mem_cons.2 ⟨qdq_ k,(List.forall_mem_cons.2 ⟨qcp_,(List.forall_mem_nil _)⟩)⟩)⟩)⟩) (List.forall_mem_nil _) ⟨⟨Tryz.f86,(z2_ Tryz.f86),[.tmp 2],(qhx_ k),by kernel_rfl,by kernel_rfl,by kernel_rfl,by kernel_rfl,rfl,by decide,⟨by kernel_rfl,?_,?_⟩,?_⟩⟩
 ·refine zh_ (n:=1) (by kernel_rfl) fun i hi=>?_
  match i,hi with
  | 0,_=>exact zd_ (by kernel_rfl) (qhz_ k)
  | n+1,hi=>omega
 ·exact z8_ (by kernel_rfl)
 ·rintro x0
  kernel_rfl
def z8q_ (k:Nat) (x0:List Int) (length1:Int) (p2:Int):Option Bool:=(z6x_ x0).bind fun r_1=>(if (decide (r_1=length1))=true then (zb7_ k x0 p2).bind fun r_2=>some r_2 else some false)
def qi1_ (k:Nat):FE:=⟨(.pr (.sl 2 (.int .i64)) (.pr (.int .i64) (.int .i64))),1,.bool,fun x=>z8q_ k x.1 x.2.1 x.2.2⟩
theorem qi2_ (k:Nat):FnOK Tryz.prog 87 (qi1_ k):=by
 refine za_ (tab:=[(128,qfm_),(129,qh8_ k)]) (l:=[]) z7_ z9_ mix (List.forall_mem_cons.2 ⟨qfn_,(List.forall_mem_cons.2 ⟨qh9_ k,(List.forall_mem_nil _)⟩)⟩) (List.forall_mem_nil _) ⟨⟨Tryz.f87,(z2_ Tryz.f87),[.tmp 6],(LOn Bool),by kernel_rfl,by kernel_rfl,by kernel_rfl,by kernel_rfl,rfl,by decide,⟨by kernel_rfl,?_,?_⟩,?_⟩⟩
 ·exact ze_ (by kernel_rfl)
 ·exact z8_ (by kernel_rfl)
 ·rintro ⟨x0,length1,p2⟩
  kernel_rfl
def zi1_ (k:Nat) (x0:Int×Int×List (Int×Int×Int)) (phases1:List Int):Option Bool:=(z8q_ k phases1 x0.1 x0.2.1).bind fun r_1=>some r_1
def qi3_ (k:Nat):FE:=⟨(.pr (.st (.pr (.int .i64) (.pr (.int .i64) (.sl 96 (.st (.pr (.int .i64) (.pr (.int .i64) (.int .i64)))))))) (.sl 2 (.int .i64))),1,.bool,fun x=>zi1_ k x.1 x.2⟩
theorem qi4_ (k:Nat):FnOK Tryz.prog 89 (qi3_ k):=by
 refine za_ (tab:=[(87,qi1_ k)]) (l:=[]) z7_ z9_ mix (List.forall_mem_cons.2 ⟨qi2_ k,(List.forall_mem_nil _)⟩) (List.forall_mem_nil _) ⟨⟨Tryz.f89,(z2_ Tryz.f89),[.tmp 4],(LOn Bool),by kernel_rfl,by kernel_rfl,by kernel_rfl,by kernel_rfl,rfl,by decide,⟨by kernel_rfl,?_,?_⟩,?_⟩⟩
 ·exact ze_ (by kernel_rfl)
 ·exact z8_ (by kernel_rfl)
 ·rintro ⟨x0,phases1⟩
  kernel_rfl
def ze7_ (k:Nat) (w0:zT0×Int×List Int×List Int×(Int×Int×Int×List (Int×Int×Int))×List Int×List Int×(Int×Int×List (Int×Int×Int))×List Int):Option Bool:=(ze1_ k w0.1).bind fun r_1=>(if (!r_1)=true then some false else (zi0_ w0.2.1).bind fun r_2=>(if (!r_2)=true then some false else (ze5_ k w0.2.2.2.2.1).bind fun r_3=>(if (!r_3)=true then some false else (ze6_ k w0.2.2.2.2.2.2.2.1).bind fun r_4=>(if (!r_4)=true then some false else (z8r_ k w0.1 w0.2.1).bind fun r_5=>(z8q_ k w0.2.2.1 r_5 w0.1.2.1).bind fun r_6=>(if r_6=true then (z8r_ k w0.1 0).bind fun r_7=>(z8q_ k w0.2.2.2.1 r_7 w0.1.2.1).bind fun r_8=>(if r_8=true then (zi1_ k w0.2.2.2.2.2.2.2.1 w0.2.2.2.2.2.2.2.2).bind fun r_9=>some r_9 else some false) else some false)))))
def qi5_ (k:Nat):FE:=⟨(.st (.pr (.st (.pr (.st (.sl 25 (.sl 2 (.int .i64)))) (.pr (.int .i64) (.pr (.sl 2 (.int .i64)) (.sl 135 (.st (.pr (.int .i64) (.pr (.int .i64) (.pr (.int .i64) (.sl 2 (.int .i64))))))))))) (.pr (.int .i64) (.pr (.sl 2 (.int .i64)) (.pr (.sl 2 (.int .i64)) (.pr (.st (.pr (.int .i64) (.pr (.int .i64) (.pr (.int .i64) (.sl 138 (.st (.pr (.int .i64) (.pr (.int .i64) (.int .i64))))))))) (.pr (.sl 2 (.int .i64)) (.pr (.sl 2 (.int .i64)) (.pr (.st (.pr (.int .i64) (.pr (.int .i64) (.sl 96 (.st (.pr (.int .i64) (.pr (.int .i64) (.int .i64)))))))) (.sl 2 (.int .i64))))))))))),1,.bool,fun x=>ze7_ k x⟩
theorem qi6_ (k:Nat):FnOK Tryz.prog 47 (qi5_ k):=by
 refine za_ (tab:=[(83,qhi_ k),(84,qhl_),(85,qhr_ k),(86,qhy_ k),(88,qfz_ k),(87,qi1_ k),(89,qi3_ k)]) (l:=[]) z7_ z9_ mix (List.forall_mem_cons.2 ⟨qhk_ k,(List.forall_mem_cons.2 ⟨qhm_,(List.forall_mem_cons.2 ⟨qht_ k,(List.forall_mem_cons.2 ⟨qi0_ k,(List.forall_mem_cons.2 ⟨qg1_ k,(List.forall_mem_cons.2 ⟨qi2_ k,(List.forall_mem_cons.2 ⟨qi4_ k,(List.forall_mem_nil _)⟩)⟩)⟩)⟩)⟩)⟩)⟩) (List.forall_mem_nil _) ⟨⟨Tryz.f47,(z2_ Tryz.f47),[.tmp 2],(LOn Bool),by kernel_rfl,by kernel_rfl,by kernel_rfl,by kernel_rfl,rfl,by decide,⟨by kernel_rfl,?_,?_⟩,?_⟩⟩
 ·exact ze_ (by kernel_rfl)
 ·exact z8_ (by kernel_rfl)
 ·rintro w0
  kernel_rfl
def z6y_ (k:Nat):Nat→(List Int)→zT2→Int→Int→(List Int)→(Int×Int×List (Int×Int×Int))→((List Int)→Option (List Int))→Option (List Int)
 | 0,_,_,_,_,_,_,_=>none
 | n+1,phases1,x9,x10,x11,q_1,v_2,e_0=>(if (decide (x11<x10))=true then (if 0≤x11 then (x9[x11.toNat]?).bind fun y_2=>(if 0≤y_2.1 then (phases1[y_2.1.toNat]?).bind fun y_3=>(if v_2.2.1=0 then none else (if 0≤y_2.2.1 then (phases1[y_2.2.1.toNat]?).bind fun y_4=>(if (!(decide ((Int.tmod (z0_ (y_3+y_2.2.2)) v_2.2.1)=y_4)))=true then (if (q_1.length+[x11].length)*8≤LIM then z6y_ k n phases1 x9 x10 (z0_ (x11+1)) (q_1++[x11]) v_2 e_0 else none) else z6y_ k n phases1 x9 x10 (z0_ (x11+1)) q_1 v_2 e_0) else none)) else none) else none) else e_0 q_1)
def ze8_ (k:Nat) (x0:Int×Int×List (Int×Int×Int)) (phases1:List Int):Option (List Int):=z6y_ k k phases1 x0.2.2 (List.length x0.2.2:Int) 0 [] x0 (fun q_5=>some q_5)
def qi7_:Head:=⟨[(1,(.val (.sl 2 (.int .i64)))),(2,(.bp 2 [] 0)),(5,(.ref 64000000 [])),(9,(.val (.sl 96 (.st (.pr (.int .i64) (.pr (.int .i64) (.int .i64))))))),(10,(.val (.int .i64))),(11,(.val (.int .i64)))],[(64000000,2,(.int .i64),false)],[(2,50,(.val (.st (.pr (.int .i64) (.pr (.int .i64) (.sl 96 (.st (.pr (.int .i64) (.pr (.int .i64) (.int .i64))))))))))]⟩
def qi8_:Head:=⟨[(5,(.ref 64000000 []))],[(64000000,2,(.int .i64),false)],[]⟩
def qi9_ (k n:Nat) (x:qi7_.T) (kx:Nat→St→Option (List Int)):Option (List Int):=z6y_ k n x.1.1 x.1.2.2.2.1 x.1.2.2.2.2.1 x.1.2.2.2.2.2.1 x.2.1.1 x.2.2.1 (fun (q_5:List Int)=>kx 0 (qi8_.fill (((),()),(q_5,()),())))
def qia_ (k:Nat):Oracles (List Int):=⟨fun n=>bif Nat.beq n 3 then some (fun σ kx=>qi7_.get σ fun x=>qi9_ k k x kx) else none,fun _=>none⟩
def qib_ (k:Nat):FE:=⟨(.pr (.st (.pr (.int .i64) (.pr (.int .i64) (.sl 96 (.st (.pr (.int .i64) (.pr (.int .i64) (.int .i64)))))))) (.sl 2 (.int .i64))),1,(.sl 2 (.int .i64)),fun x=>ze8_ k x.1 x.2⟩
theorem qic_ (k:Nat):zc_ (z3_ ti [] (lk []) z4_ z5_) (qia_ k) (rdC (z3_ ti [] (lk []) z4_ z5_) [.tmp 4] (.sl 2 (.int .i64))) ((zb_ (z2_ Tryz.f48)).getD 0 .skip) (fun σ kx=>qi7_.get σ fun x=>qi9_ k k x kx):=by
 refine ⟨qi7_,[(0,qi8_)],fun n x kx=>qi9_ k n x kx,k,by kernel_rfl,by kernel_rfl,fun x kx=>by kernel_rfl,?_,fun σ kx=>rfl⟩
 rintro n ⟨⟨phases1,⟨⟩,⟨⟩,x9,x10,x11,⟨⟩⟩,⟨q_1,⟨⟩⟩,⟨v_2,⟨⟩⟩⟩ kx
 kernel_rfl
theorem qid_ (k:Nat):FnOK Tryz.prog 48 (qib_ k):=by
 refine za_ (tab:=[]) (l:=[]) z7_ z9_ mix (List.forall_mem_nil _) (List.forall_mem_nil _) ⟨⟨Tryz.f48,(z2_ Tryz.f48),[.tmp 4],(qia_ k),by kernel_rfl,by kernel_rfl,by kernel_rfl,by kernel_rfl,rfl,by decide,⟨by kernel_rfl,?_,?_⟩,?_⟩⟩
 ·refine zh_ (n:=1) (by kernel_rfl) fun i hi=>?_
  match i,hi with
  | 0,_=>exact zd_ (by kernel_rfl) (qic_ k)
  | n+1,hi=>omega
 ·exact z8_ (by kernel_rfl)
 ·rintro ⟨x0,phases1⟩
  kernel_rfl
def zi2_ (n0:Int):Option Bool:=(z2d_ n0 (-1000000000000) 1000000000000).bind fun r_1=>some r_1
def qie_:FE:=⟨(.int .i64),1,.bool,fun x=>zi2_ x⟩
theorem qif_:FnOK Tryz.prog 92 (qie_):=by
 refine za_ (tab:=[(124,qco_)]) (l:=[]) z7_ z9_ mix (List.forall_mem_cons.2 ⟨qcp_,(List.forall_mem_nil _)⟩) (List.forall_mem_nil _) ⟨⟨Tryz.f92,(z2_ Tryz.f92),[.tmp 2],(LOn Bool),by kernel_rfl,by kernel_rfl,by kernel_rfl,by kernel_rfl,rfl,by decide,⟨by kernel_rfl,?_,?_⟩,?_⟩⟩
 ·exact ze_ (by kernel_rfl)
 ·exact z8_ (by kernel_rfl)
 ·rintro n0
  kernel_rfl
def zi3_ (n0:Int):Option Bool:=(zi2_ n0).bind fun r_1=>some (!r_1)
def qig_:FE:=⟨(.int .i64),1,.bool,fun x=>zi3_ x⟩
theorem qih_:FnOK Tryz.prog 91 (qig_):=by
 refine za_ (tab:=[(92,qie_)]) (l:=[]) z7_ z9_ mix (List.forall_mem_cons.2 ⟨qif_,(List.forall_mem_nil _)⟩) (List.forall_mem_nil _) ⟨⟨Tryz.f91,(z2_ Tryz.f91),[.tmp 2],(LOn Bool),by kernel_rfl,by kernel_rfl,by kernel_rfl,by kernel_rfl,rfl,by decide,⟨by kernel_rfl,?_,?_⟩,?_⟩⟩
 ·exact ze_ (by kernel_rfl)
 ·exact z8_ (by kernel_rfl)
 ·rintro n0
  kernel_rfl
def z8s_ (k:Nat):Nat→(List Int)→Unit→Int→Int→(Option Int)→Option Int
 | 0,_,_,_,_,_=>none
 | n+1,s0,f1,x7,x8,e_0=>(if (decide (x8<x7))=true then (if 0≤x8 then (s0[x8.toNat]?).bind fun y_1=>(zi3_ y_1).bind fun r_2=>(if r_2=true then some x8 else z8s_ k n s0 f1 x7 (z0_ (x8+1)) e_0) else none) else e_0)
def zi4_ (k:Nat) (s0:List Int) (f1:Unit):Option Int:=z8s_ k k s0 f1 (List.length s0:Int) 0 (some (-1))
def qii_:Head:=⟨[(0,(.val (.sl 2 (.int .i64)))),(1,(.val (.fn 91 .un))),(7,(.val (.int .i64))),(8,(.val (.int .i64)))],[],[]⟩
def qij_:Head:=⟨[],[],[]⟩
def qik_ (k n:Nat) (x:qii_.T) (kx:Nat→St→Option Int):Option Int:=z8s_ k n x.1.1 x.1.2.1 x.1.2.2.1 x.1.2.2.2.1 (kx 0 (qij_.fill ((),(),())))
def qil_ (k:Nat):Oracles Int:=⟨fun n=>bif Nat.beq n 2 then some (fun σ kx=>qii_.get σ fun x=>qik_ k k x kx) else none,fun _=>none⟩
def qim_ (k:Nat):FE:=⟨(.pr (.sl 2 (.int .i64)) (.fn 91 .un)),1,(.int .i64),fun x=>zi4_ k x.1 x.2⟩
theorem qin_ (k:Nat):zc_ (z3_ ti [(91,qig_)] (lk []) z4_ z5_) (qil_ k) (rdC (z3_ ti [(91,qig_)] (lk []) z4_ z5_) [.tmp 4] (.int .i64)) ((zb_ (z2_ Tryz.f131)).getD 0 .skip) (fun σ kx=>qii_.get σ fun x=>qik_ k k x kx):=by
 refine ⟨qii_,[(0,qij_)],fun n x kx=>qik_ k n x kx,k,by kernel_rfl,by kernel_rfl,fun x kx=>by kernel_rfl,?_,fun σ kx=>rfl⟩
 rintro n ⟨⟨s0,f1,x7,x8,⟨⟩⟩,⟨⟩,⟨⟩⟩ kx
 kernel_rfl
theorem qio_ (k:Nat):FnOK Tryz.prog 131 (qim_ k):=by
 refine za_ (tab:=[(91,qig_)]) (l:=[]) z7_ z9_ mix (List.forall_mem_cons.2 ⟨qih_,(List.forall_mem_nil _)⟩) (List.forall_mem_nil _) ⟨⟨Tryz.f131,(z2_ Tryz.f131),[.tmp 4],(qil_ k),by kernel_rfl,by kernel_rfl,by kernel_rfl,by kernel_rfl,rfl,by decide,⟨by kernel_rfl,?_,?_⟩,?_⟩⟩
 ·refine zh_ (n:=1) (by kernel_rfl) fun i hi=>?_
  match i,hi with
  | 0,_=>exact zd_ (by kernel_rfl) (qin_ k)
  | n+1,hi=>omega
 ·exact z8_ (by kernel_rfl)
 ·rintro ⟨s0,f1⟩
  kernel_rfl
def ze9_ (k:Nat) (s0:List Int) (f1:Unit):Option Bool:=(zi4_ k s0 f1).bind fun r_1=>some (decide (0≤r_1))
def qip_ (k:Nat):FE:=⟨(.pr (.sl 2 (.int .i64)) (.fn 91 .un)),1,.bool,fun x=>ze9_ k x.1 x.2⟩
theorem qiq_ (k:Nat):FnOK Tryz.prog 90 (qip_ k):=by
 refine za_ (tab:=[(131,qim_ k)]) (l:=[]) z7_ z9_ mix (List.forall_mem_cons.2 ⟨qio_ k,(List.forall_mem_nil _)⟩) (List.forall_mem_nil _) ⟨⟨Tryz.f90,(z2_ Tryz.f90),[.tmp 4],(LOn Bool),by kernel_rfl,by kernel_rfl,by kernel_rfl,by kernel_rfl,rfl,by decide,⟨by kernel_rfl,?_,?_⟩,?_⟩⟩
 ·exact ze_ (by kernel_rfl)
 ·exact z8_ (by kernel_rfl)
 ·rintro ⟨s0,f1⟩
  kernel_rfl
def zn8_ (n:Int) (b:Int):Option (List UInt8):=if b=10 ∧ -9223372036854775808≤n∧n≤9223372036854775807 then some (Lib.itoa n) else none
abbrev qir_:FE:=fe_formatInt
theorem qis_:FnOK Tryz.prog 132 qir_:=ztc_ (fn:=Tryz.f132) (cd:=z2_ Tryz.f132) (by kernel_rfl) (by kernel_rfl) (by kernel_rfl) (fun n h0 h1 w hG=>Go.Proofs.Tryz.strconv_FormatInt_10 n h0 h1 w hG)
def zea_ (n0:Int):Option (List UInt8):=(zn8_ n0 10).bind fun r_1=>some r_1
def qit_:FE:=⟨(.int .i64),1,.str,fun x=>zea_ x⟩
theorem qiu_:FnOK Tryz.prog 93 (qit_):=by
 refine za_ (tab:=[(132,qir_)]) (l:=[]) z7_ z9_ mix (List.forall_mem_cons.2 ⟨qis_,(List.forall_mem_nil _)⟩) (List.forall_mem_nil _) ⟨⟨Tryz.f93,(z2_ Tryz.f93),[.tmp 2],(LOn (List UInt8)),by kernel_rfl,by kernel_rfl,by kernel_rfl,by kernel_rfl,rfl,by decide,⟨by kernel_rfl,?_,?_⟩,?_⟩⟩
 ·exact ze_ (by kernel_rfl)
 ·exact z8_ (by kernel_rfl)
 ·rintro n0
  kernel_rfl
def zi5_ (sep1:List UInt8) (q_1:List (List UInt8)):Option ((List UInt8×Unit)×(List (List UInt8)×Unit)×Unit):=if List.length q_1≤LIM∧(Lib.join q_1 sep1).length≤LIM then some ((Lib.join q_1 sep1,()),(q_1,()),()) else none
def qiv_:OC:=zb5_ 9
theorem qiw_:z12_ Tryz.prog ti 94 qiv_:=ztd_ (fn:=Tryz.f94) (cd:=z2_ Tryz.f94) (by kernel_rfl) (by kernel_rfl) (by kernel_rfl) (fun bk o c xs sep w h1 h2 h3 h4 h5=>Go.Proofs.Tryz.strings_Join bk o c xs sep w h1 h2 h3 h4 h5) (fun a c sep w=>Go.Proofs.Tryz.strings_Join_none a c sep w)
end
end Go.Proofs.YtbfbojmkmjhdcaaGreatDoor.Ev
