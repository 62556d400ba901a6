/- Functions of the program, as plain ones. No conditions. -/
import Derived.Test.YthbodbmcalfmaaaGreatDoorG9
import Derived.KernelRfl
set_option linter.unusedVariables false
set_option maxRecDepth 100000
namespace Go.Proofs.YthbodbmcalfmaaaGreatDoor.Ev
open Go.RowKit
noncomputable section
def zi1_ (a0:Int) (x1:Int):Option Bool:=(z3j_ a0 x1).bind fun r_1=>some (!r_1)
def qgx_:FE:=⟨(.pr (.int .i64) (.ptr (.int .i64))),1,.bool,fun x=>zi1_ x.1 x.2⟩
theorem qgy_:FnOK Tryz.prog 133 (qgx_):=by
 refine za_ (tab:=[(127,qgv_)]) (l:=[]) z7_ z9_ mix (List.forall_mem_cons.2 ⟨qgw_,(List.forall_mem_nil _)⟩) (List.forall_mem_nil _) ⟨⟨Tryz.f133,(z2_ Tryz.f133),[.tmp 3],(LOn Bool),by kernel_rfl,by kernel_rfl,by kernel_rfl,by kernel_rfl,rfl,by decide,⟨by kernel_rfl,?_,?_⟩,?_⟩⟩
 ·exact ze_ (by kernel_rfl)
 ·exact z8_ (by kernel_rfl)
 ·rintro ⟨a0,x1⟩
  kernel_rfl
def z8u_ (k:Nat):Nat→(List Int)→Int→Int→Int→(Option Int)→Option Int
 | 0,_,_,_,_,_=>none
 | n+1,s0,f1,x7,x8,e_0=>(if (decide (x8<x7))=true then (if 0≤x8 then (s0[x8.toNat]?).bind fun y_1=>(zi1_ y_1 f1).bind fun r_2=>(if r_2=true then some x8 else z8u_ k n s0 f1 x7 (z0_ (x8+1)) e_0) else none) else e_0)
def zi2_ (k:Nat) (s0:List Int) (f1:Int):Option Int:=z8u_ k k s0 f1 (List.length s0:Int) 0 (some (-1))
def qgz_:Head:=⟨[(0,(.val (.sl 2 (.int .i64)))),(1,(.val (.fn 133 (.ptr (.int .i64))))),(7,(.val (.int .i64))),(8,(.val (.int .i64)))],[],[]⟩
def qh0_:Head:=⟨[],[],[]⟩
def qh1_ (k n:Nat) (x:qgz_.T) (kx:Nat→St→Option Int):Option Int:=z8u_ k n x.1.1 x.1.2.1 x.1.2.2.1 x.1.2.2.2.1 (kx 0 (qh0_.fill ((),(),())))
def qh2_ (k:Nat):Oracles Int:=⟨fun n=>bif Nat.beq n 2 then some (fun σ kx=>qgz_.get σ fun x=>qh1_ k k x kx) else none,fun _=>none⟩
def qh3_ (k:Nat):FE:=⟨(.pr (.sl 2 (.int .i64)) (.fn 133 (.ptr (.int .i64)))),1,(.int .i64),fun x=>zi2_ k x.1 x.2⟩
theorem qh4_ (k:Nat):zc_ (z3_ ti [(133,qgx_)] (lk []) z4_ z5_) (qh2_ k) (rdC (z3_ ti [(133,qgx_)] (lk []) z4_ z5_) [.tmp 4] (.int .i64)) ((zb_ (z2_ Tryz.f159)).getD 0 .skip) (fun σ kx=>qgz_.get σ fun x=>qh1_ k k x kx):=by
 refine ⟨qgz_,[(0,qh0_)],fun n x kx=>qh1_ k n x kx,k,by kernel_rfl,by kernel_rfl,fun x kx=>by kernel_rfl,?_,fun σ kx=>rfl⟩
 rintro n ⟨⟨s0,f1,x7,x8,⟨⟩⟩,⟨⟩,⟨⟩⟩ kx
 kernel_rfl
theorem qh5_ (k:Nat):FnOK Tryz.prog 159 (qh3_ k):=by
 refine za_ (tab:=[(133,qgx_)]) (l:=[]) z7_ z9_ mix (List.forall_mem_cons.2 ⟨qgy_,(List.forall_mem_nil _)⟩) (List.forall_mem_nil _) ⟨⟨Tryz.f159,(z2_ Tryz.f159),[.tmp 4],(qh2_ k),by kernel_rfl,by kernel_rfl,by kernel_rfl,by kernel_rfl,rfl,by decide,⟨by kernel_rfl,?_,?_⟩,?_⟩⟩
 ·refine zh_ (n:=1) (by kernel_rfl) fun i hi=>?_
  match i,hi with
  | 0,_=>exact zd_ (by kernel_rfl) (qh4_ k)
  | n+1,hi=>omega
 ·exact z8_ (by kernel_rfl)
 ·rintro ⟨s0,f1⟩
  kernel_rfl
def zi3_ (k:Nat) (s0:List Int) (f1:Int):Option Bool:=(zi2_ k s0 f1).bind fun r_1=>some (decide (0≤r_1))
def qh6_ (k:Nat):FE:=⟨(.pr (.sl 2 (.int .i64)) (.fn 133 (.ptr (.int .i64)))),1,.bool,fun x=>zi3_ k x.1 x.2⟩
theorem qh7_ (k:Nat):FnOK Tryz.prog 132 (qh6_ k):=by
 refine za_ (tab:=[(159,qh3_ k)]) (l:=[]) z7_ z9_ mix (List.forall_mem_cons.2 ⟨qh5_ k,(List.forall_mem_nil _)⟩) (List.forall_mem_nil _) ⟨⟨Tryz.f132,(z2_ Tryz.f132),[.tmp 4],(LOn Bool),by kernel_rfl,by kernel_rfl,by kernel_rfl,by kernel_rfl,rfl,by decide,⟨by kernel_rfl,?_,?_⟩,?_⟩⟩
 ·exact ze_ (by kernel_rfl)
 ·exact z8_ (by kernel_rfl)
 ·rintro ⟨s0,f1⟩
  kernel_rfl
def z8v_ (k:Nat) (list0:List Int) (p1:Int):Option Bool:=(zi3_ k list0 p1).bind fun r_1=>some (!r_1)
def qh8_ (k:Nat):FE:=⟨(.pr (.sl 2 (.int .i64)) (.int .i64)),1,.bool,fun x=>z8v_ k x.1 x.2⟩
theorem qh9_ (k:Nat):FnOK Tryz.prog 95 (qh8_ k):=by
 refine za_ (tab:=[(132,qh6_ k)]) (l:=[]) z7_ z9_ mix (List.forall_mem_cons.2 ⟨qh7_ k,(List.forall_mem_nil _)⟩) (List.forall_mem_nil _) ⟨⟨Tryz.f95,(z2_ Tryz.f95),[.tmp 4],(LOn Bool),by kernel_rfl,by kernel_rfl,by kernel_rfl,by kernel_rfl,rfl,by decide,⟨by kernel_rfl,?_,?_⟩,?_⟩⟩
 ·exact ze_ (by kernel_rfl)
 ·exact z8_ (by kernel_rfl)
 ·rintro ⟨list0,p1⟩
  kernel_rfl
def zbb_ (k:Nat) (m0:Int×Int×Int×List Int):Option Bool:=(z8w_ k m0.1).bind fun r_1=>(if r_1=true then (ze4_ m0.2.1).bind fun r_2=>(if r_2=true then (ze4_ m0.2.2.1).bind fun r_3=>(if r_3=true then (z74_ m0.2.2.2).bind fun r_4=>(if (decide (r_4=(z0_ (m0.2.1*m0.2.2.1))))=true then (z8v_ k m0.2.2.2 m0.1).bind fun r_5=>some r_5 else some false) else some false) else some false) else some false)
def qha_ (k:Nat):FE:=⟨(.st (.pr (.int .i64) (.pr (.int .i64) (.pr (.int .i64) (.sl 2 (.int .i64)))))),1,.bool,fun x=>zbb_ k x⟩
theorem qhb_ (k:Nat):FnOK Tryz.prog 157 (qha_ k):=by
 refine za_ (tab:=[(123,qf8_ k),(173,qgt_),(130,qfm_),(95,qh8_ k)]) (l:=[]) z7_ z9_ mix (List.forall_mem_cons.2 ⟨qfa_ k,(List.forall_mem_cons.2 ⟨qgu_,(List.forall_mem_cons.2 ⟨qfn_,(List.forall_mem_cons.2 ⟨qh9_ k,(List.forall_mem_nil _)⟩)⟩)⟩)⟩) (List.forall_mem_nil _) ⟨⟨Tryz.f157,(z2_ Tryz.f157),[.tmp 2],(LOn Bool),by kernel_rfl,by kernel_rfl,by kernel_rfl,by kernel_rfl,rfl,by decide,⟨by kernel_rfl,?_,?_⟩,?_⟩⟩
 ·exact ze_ (by kernel_rfl)
 ·exact z8_ (by kernel_rfl)
 ·rintro m0
  kernel_rfl
def zi4_ (k:Nat) (m0:Int×Int×Int×List Int) (p1:Int) (from2:Int) (to3:Int):Option Bool:=(zbb_ k m0).bind fun r_1=>(if r_1=true then (if (decide (m0.1=p1))=true then (if (decide (m0.2.1=to3))=true then some (decide (m0.2.2.1=from2)) else some false) else some false) else some false)
def qhc_ (k:Nat):FE:=⟨(.pr (.st (.pr (.int .i64) (.pr (.int .i64) (.pr (.int .i64) (.sl 2 (.int .i64)))))) (.pr (.int .i64) (.pr (.int .i64) (.int .i64)))),1,.bool,fun x=>zi4_ k x.1 x.2.1 x.2.2.1 x.2.2.2⟩
theorem qhd_ (k:Nat):FnOK Tryz.prog 126 (qhc_ k):=by
 refine za_ (tab:=[(157,qha_ k)]) (l:=[]) z7_ z9_ mix (List.forall_mem_cons.2 ⟨qhb_ k,(List.forall_mem_nil _)⟩) (List.forall_mem_nil _) ⟨⟨Tryz.f126,(z2_ Tryz.f126),[.tmp 8],(LOn Bool),by kernel_rfl,by kernel_rfl,by kernel_rfl,by kernel_rfl,rfl,by decide,⟨by kernel_rfl,?_,?_⟩,?_⟩⟩
 ·exact ze_ (by kernel_rfl)
 ·exact z8_ (by kernel_rfl)
 ·rintro ⟨m0,p1,from2,to3⟩
  kernel_rfl
def z8x_ (k:Nat):Nat→Int→Int→zT2→zT0→(zT2→zT0→Option Bool)→Option Bool
 | 0,_,_,_,_,_=>none
 | n+1,x28,x29,q_5,v_1,e_0=>(if (decide (x29<x28))=true then (if 0≤x29∧x29.toNat<List.length q_5 then (q_5[x29.toNat]?).bind fun y_6=>(if (decide ((List.length v_1.2.2.2:Int)≤x29))=true then some false else (if 0≤x29 then (v_1.2.2.2[x29.toNat]?).bind fun y_7=>(if 0≤y_6.2.2 then (v_1.2.2.1[y_6.2.2.toNat]?).bind fun y_8=>(if 0≤y_6.1 then (v_1.2.2.1[y_6.1.toNat]?).bind fun y_9=>(zi4_ k y_7 v_1.2.1 y_8 y_9).bind fun r_10=>(if (!r_10)=true then some false else z8x_ k n x28 (z0_ (x29+1)) q_5 v_1 e_0) else none) else none) else none)) else none) else e_0 q_5 v_1)
def ze5_ (k:Nat) (s0:List (List Int)×Int×List Int×List (Int×Int×Int×List Int)):Option Bool:=(ze6_ k s0.1).bind fun r_1=>(if (!r_1)=true then some false else (z8w_ k s0.2.1).bind fun r_2=>(if (!r_2)=true then some false else (ze7_ k s0.1 s0.2.2.1).bind fun r_3=>(if (!r_3)=true then some false else (ze8_ k s0.1).bind fun r_4=>z8x_ k k (List.length r_4:Int) 0 r_4 s0 (fun q_11 v_12=>some (decide ((List.length q_11:Int)=(List.length v_12.2.2.2:Int)))))))
def qhe_:Head:=⟨[(1,(.bp 1 [] 0)),(3,(.ref 64000000 [])),(27,(.ref 64000000 [])),(28,(.val (.int .i64))),(29,(.val (.int .i64)))],[(64000000,177,(.st (.pr (.int .i64) (.pr (.int .i64) (.int .i64)))),false)],[(1,44,(.val (.st (.pr (.st (.sl 25 (.sl 2 (.int .i64)))) (.pr (.int .i64) (.pr (.sl 2 (.int .i64)) (.sl 137 (.st (.pr (.int .i64) (.pr (.int .i64) (.pr (.int .i64) (.sl 2 (.int .i64)))))))))))))]⟩
def qhf_:Head:=⟨[(1,(.bp 1 [] 0)),(3,(.ref 64000000 []))],[(64000000,177,(.st (.pr (.int .i64) (.pr (.int .i64) (.int .i64)))),false)],[(1,44,(.val (.st (.pr (.st (.sl 25 (.sl 2 (.int .i64)))) (.pr (.int .i64) (.pr (.sl 2 (.int .i64)) (.sl 137 (.st (.pr (.int .i64) (.pr (.int .i64) (.pr (.int .i64) (.sl 2 (.int .i64)))))))))))))]⟩
def qhg_ (k n:Nat) (x:qhe_.T) (kx:Nat→St→Option Bool):Option Bool:=z8x_ k n x.1.2.2.2.1 x.1.2.2.2.2.1 x.2.1.1 x.2.2.1 (fun (q_11:List (Int×Int×Int)) (v_1:List (List Int)×Int×List Int×List (Int×Int×Int×List Int))=>kx 0 (qhf_.fill (((),(),()),(q_11,()),(v_1,()))))
def qhh_ (k:Nat):Oracles Bool:=⟨fun n=>bif Nat.beq n 5 then some (fun σ kx=>qhe_.get σ fun x=>qhg_ k k x kx) else none,fun _=>none⟩
def qhi_ (k:Nat):FE:=⟨(.st (.pr (.st (.sl 25 (.sl 2 (.int .i64)))) (.pr (.int .i64) (.pr (.sl 2 (.int .i64)) (.sl 137 (.st (.pr (.int .i64) (.pr (.int .i64) (.pr (.int .i64) (.sl 2 (.int .i64))))))))))),1,.bool,fun x=>ze5_ k x⟩
theorem qhj_ (k:Nat):zc_ (z3_ ti [(122,qf1_ k),(123,qf8_ k),(124,qg6_ k),(125,qgp_ k),(126,qhc_ k)] (lk []) z4_ z5_) (qhh_ k) (rdC (z3_ ti [(122,qf1_ k),(123,qf8_ k),(124,qg6_ k),(125,qgp_ k),(126,qhc_ k)] (lk []) z4_ z5_) [.tmp 2] .bool) ((zb_ (z2_ Tryz.f86)).getD 0 .skip) (fun σ kx=>qhe_.get σ fun x=>qhg_ k k x kx):=by
 refine ⟨qhe_,[(0,qhf_)],fun n x kx=>qhg_ k n x kx,k,by kernel_rfl,by kernel_rfl,fun x kx=>by kernel_rfl,?_,fun σ kx=>rfl⟩
 rintro n ⟨⟨⟨⟩,⟨⟩,⟨⟩,x28,x29,⟨⟩⟩,⟨q_5,⟨⟩⟩,⟨v_1,⟨⟩⟩⟩ kx
 kernel_rfl
theorem qhk_ (k:Nat):FnOK Tryz.prog 86 (qhi_ k):=by
 refine za_ (tab:=[(122,qf1_ k),(123,qf8_ k),(124,qg6_ k),(125,qgp_ k),(126,qhc_ k)]) (l:=[]) z7_ z9_ mix (List.forall_mem_cons.2 ⟨qf3_ k,(List.forall_mem_cons.2 ⟨qfa_ k,(List.forall_mem_cons.2 ⟨qg8_ k,(List.forall_mem_cons.2 ⟨qgs_ k,(List.forall_mem_cons.2 ⟨qhd_ k,(List.forall_mem_nil _)⟩)⟩)⟩)⟩)⟩) (List.forall_mem_nil _) ⟨⟨Tryz.f86,(z2_ Tryz.f86),[.tmp 2],(qhh_ k),by kernel_rfl,by kernel_rfl,by kernel_rfl,by kernel_rfl,rfl,by decide,⟨by kernel_rfl,?_,?_⟩,?_⟩⟩
 ·refine zh_ (n:=1) (by kernel_rfl) fun i hi=>?_
  match i,hi with
  | 0,_=>exact zd_ (by kernel_rfl) (qhj_ k)
  | n+1,hi=>omega
 ·exact z8_ (by kernel_rfl)
 ·rintro s0
  kernel_rfl
def zi5_ (k0:Int):Option Bool:=(z2a_ k0 0 3).bind fun r_1=>some r_1
def qhl_:FE:=⟨(.int .i64),1,.bool,fun x=>zi5_ x⟩
theorem qhm_:FnOK Tryz.prog 87 (qhl_):=by
 refine za_ (tab:=[(93,qco_)]) (l:=[]) z7_ z9_ mix (List.forall_mem_cons.2 ⟨qcp_,(List.forall_mem_nil _)⟩) (List.forall_mem_nil _) ⟨⟨Tryz.f87,(z2_ Tryz.f87),[.tmp 2],(LOn Bool),by kernel_rfl,by kernel_rfl,by kernel_rfl,by kernel_rfl,rfl,by decide,⟨by kernel_rfl,?_,?_⟩,?_⟩⟩
 ·exact ze_ (by kernel_rfl)
 ·exact z8_ (by kernel_rfl)
 ·rintro k0
  kernel_rfl
def z66_ (k:Nat):Nat→zT2→Int→Int→(Int×Int×Int×List (Int×Int×Int))→((Int×Int×Int×List (Int×Int×Int))→Option Bool)→Option Bool
 | 0,_,_,_,_,_=>none
 | n+1,x6,x7,x8,v_1,e_0=>(if (decide (x8<x7))=true then (if 0≤x8 then (x6[x8.toNat]?).bind fun y_1=>(z3j_ y_1.1 v_1.1).bind fun r_2=>(if (!r_2)=true then some false else (z3j_ y_1.2.1 v_1.1).bind fun r_3=>(if (!r_3)=true then some false else (if (decide (y_1.1=y_1.2.1))=true then some false else (z2a_ y_1.2.2 0 1000000).bind fun r_4=>(if (!r_4)=true then some false else (if (decide (0<x8))=true then (if 0≤(z0_ (x8-1)) then (v_1.2.2.2[(z0_ (x8-1)).toNat]?).bind fun y_5=>(z67_ y_5.1 y_1.1).bind fun r_6=>(if 0≤(z0_ (x8-1)) then (v_1.2.2.2[(z0_ (x8-1)).toNat]?).bind fun y_7=>(z67_ y_7.2.1 y_1.2.1).bind fun r_8=>(zbc_ k [r_6,r_8]).bind fun r_9=>(if (decide (0≤r_9))=true then some false else z66_ k n x6 x7 (z0_ (x8+1)) v_1 e_0) else none) else none) else z66_ k n x6 x7 (z0_ (x8+1)) v_1 e_0))))) else none) else e_0 v_1)
def ze9_ (k:Nat) (n0:Int×Int×Int×List (Int×Int×Int)):Option Bool:=z66_ k k n0.2.2.2 (List.length n0.2.2.2:Int) 0 n0 (fun v_10=>(z2a_ v_10.1 2 12).bind fun r_11=>(if r_11=true then (z3j_ v_10.2.1 v_10.1).bind fun r_12=>(if r_12=true then (z3j_ v_10.2.2.1 v_10.1).bind fun r_13=>(if r_13=true then (if (!(decide (v_10.2.1=v_10.2.2.1)))=true then some (decide ((List.length v_10.2.2.2:Int)≤24)) else some false) else some false) else some false) else some false))
def qhn_:Head:=⟨[(1,(.bp 1 [] 0)),(6,(.val (.sl 140 (.st (.pr (.int .i64) (.pr (.int .i64) (.int .i64))))))),(7,(.val (.int .i64))),(8,(.val (.int .i64)))],[],[(1,47,(.val (.st (.pr (.int .i64) (.pr (.int .i64) (.pr (.int .i64) (.sl 140 (.st (.pr (.int .i64) (.pr (.int .i64) (.int .i64)))))))))))]⟩
def qho_:Head:=⟨[(1,(.bp 1 [] 0))],[],[(1,47,(.val (.st (.pr (.int .i64) (.pr (.int .i64) (.pr (.int .i64) (.sl 140 (.st (.pr (.int .i64) (.pr (.int .i64) (.int .i64)))))))))))]⟩
def qhp_ (k n:Nat) (x:qhn_.T) (kx:Nat→St→Option Bool):Option Bool:=z66_ k n x.1.2.1 x.1.2.2.1 x.1.2.2.2.1 x.2.2.1 (fun (v_1:Int×Int×Int×List (Int×Int×Int))=>kx 0 (qho_.fill (((),()),(),(v_1,()))))
def qhq_ (k:Nat):Oracles Bool:=⟨fun n=>bif Nat.beq n 2 then some (fun σ kx=>qhn_.get σ fun x=>qhp_ k k x kx) else none,fun _=>none⟩
def qhr_ (k:Nat):FE:=⟨(.st (.pr (.int .i64) (.pr (.int .i64) (.pr (.int .i64) (.sl 140 (.st (.pr (.int .i64) (.pr (.int .i64) (.int .i64))))))))),1,.bool,fun x=>ze9_ k x⟩
theorem qhs_ (k:Nat):zc_ (z3_ ti [(127,qgv_),(93,qco_),(129,qdb_),(128,qdo_ k)] (lk []) z4_ z5_) (qhq_ k) (rdC (z3_ ti [(127,qgv_),(93,qco_),(129,qdb_),(128,qdo_ k)] (lk []) z4_ z5_) [.tmp 2] .bool) ((zb_ (z2_ Tryz.f88)).getD 0 .skip) (fun σ kx=>qhn_.get σ fun x=>qhp_ k k x kx):=by
 refine ⟨qhn_,[(0,qho_)],fun n x kx=>qhp_ k n x kx,k,by kernel_rfl,by kernel_rfl,fun x kx=>by kernel_rfl,?_,fun σ kx=>rfl⟩
 rintro n ⟨⟨⟨⟩,x6,x7,x8,⟨⟩⟩,⟨⟩,⟨v_1,⟨⟩⟩⟩ kx
 kernel_rfl
theorem qht_ (k:Nat):FnOK Tryz.prog 88 (qhr_ k):=by
 refine za_ (tab:=[(127,qgv_),(93,qco_),(129,qdb_),(128,qdo_ k)]) (l:=[]) z7_ z9_ mix (List.forall_mem_cons.2 ⟨qgw_,(List.forall_mem_cons.2 ⟨qcp_,(List.forall_mem_cons.2 ⟨qdc_,(List.forall_mem_cons.2 ⟨qdq_ k,(List.forall_mem_nil _)⟩)⟩)⟩)⟩) (List.forall_mem_nil _) ⟨⟨Tryz.f88,(z2_ Tryz.f88),[.tmp 2],(qhq_ k),by kernel_rfl,by kernel_rfl,by kernel_rfl,by kernel_rfl,rfl,by decide,⟨by kernel_rfl,?_,?_⟩,?_⟩⟩
 ·refine zh_ (n:=1) (by kernel_rfl) fun i hi=>?_
  match i,hi with
  | 0,_=>exact zd_ (by kernel_rfl) (qhs_ k)
  | n+1,hi=>omega
 ·exact z8_ (by kernel_rfl)
 ·rintro n0
  kernel_rfl
def z68_ (k:Nat):Nat→zT2→Int→Int→(Int×Int×List (Int×Int×Int))→((Int×Int×List (Int×Int×Int))→Option Bool)→Option Bool
 | 0,_,_,_,_,_=>none
 | n+1,x6,x7,x8,v_1,e_0=>(if (decide (x8<x7))=true then (if 0≤x8 then (x6[x8.toNat]?).bind fun y_1=>(if (decide (y_1.1<0))=true then some false else (if (decide (y_1.2.1≤y_1.1))=true then some false else (if (decide (v_1.1≤y_1.2.1))=true then some false else (z3j_ y_1.2.2 v_1.2.1).bind fun r_2=>(if (!r_2)=true then some false else (if (decide (0<x8))=true then (if 0≤(z0_ (x8-1)) then (v_1.2.2[(z0_ (x8-1)).toNat]?).bind fun y_3=>(z67_ y_3.1 y_1.1).bind fun r_4=>(if 0≤(z0_ (x8-1)) then (v_1.2.2[(z0_ (x8-1)).toNat]?).bind fun y_5=>(z67_ y_5.2.1 y_1.2.1).bind fun r_6=>(zbc_ k [r_4,r_6]).bind fun r_7=>(if (decide (0≤r_7))=true then some false else z68_ k n x6 x7 (z0_ (x8+1)) v_1 e_0) else none) else none) else z68_ k n x6 x7 (z0_ (x8+1)) v_1 e_0))))) else none) else e_0 v_1)
def zea_ (k:Nat) (x0:Int×Int×List (Int×Int×Int)):Option Bool:=z68_ k k x0.2.2 (List.length x0.2.2:Int) 0 x0 (fun v_8=>(z2a_ v_8.1 1 12).bind fun r_9=>(if r_9=true then (z2a_ v_8.2.1 2 360).bind fun r_10=>(if r_10=true then some (decide ((List.length v_8.2.2:Int)≤24)) else some false) else some false))
def qhu_:Head:=⟨[(1,(.bp 1 [] 0)),(6,(.val (.sl 135 (.st (.pr (.int .i64) (.pr (.int .i64) (.int .i64))))))),(7,(.val (.int .i64))),(8,(.val (.int .i64)))],[],[(1,50,(.val (.st (.pr (.int .i64) (.pr (.int .i64) (.sl 135 (.st (.pr (.int .i64) (.pr (.int .i64) (.int .i64))))))))))]⟩
def qhv_:Head:=⟨[(1,(.bp 1 [] 0))],[],[(1,50,(.val (.st (.pr (.int .i64) (.pr (.int .i64) (.sl 135 (.st (.pr (.int .i64) (.pr (.int .i64) (.int .i64))))))))))]⟩
def qhw_ (k n:Nat) (x:qhu_.T) (kx:Nat→St→Option Bool):Option Bool:=z68_ k n x.1.2.1 x.1.2.2.1 x.1.2.2.2.1 x.2.2.1 (fun (v_1:Int×Int×List (Int×Int×Int))=>kx 0 (qhv_.fill (((),()),(),(v_1,()))))
def qhx_ (k:Nat):Oracles Bool:=⟨fun n=>bif Nat.beq n 2 then some (fun σ kx=>qhu_.get σ fun x=>qhw_ k k x kx) else none,fun _=>none⟩
def qhy_ (k:Nat):FE:=⟨(.st (.pr (.int .i64) (.pr (.int .i64) (.sl 135 (.st (.pr (.int .i64) (.pr (.int .i64) (.int .i64)))))))),1,.bool,fun x=>zea_ k x⟩
theorem qhz_ (k:Nat):zc_ (z3_ ti [(127,qgv_),(129,qdb_),(128,qdo_ k),(93,qco_)] (lk []) z4_ z5_) (qhx_ k) (rdC (z3_ ti [(127,qgv_),(129,qdb_),(128,qdo_ k),(93,qco_)] (lk []) z4_ z5_) [.tmp 2] .bool) ((zb_ (z2_ Tryz.f89)).getD 0 .skip) (fun σ kx=>qhu_.get σ fun x=>qhw_ k k x kx):=by
 refine ⟨qhu_,[(0,qhv_)],fun n x kx=>qhw_ k n x kx,k,by kernel_rfl,by kernel_rfl,fun x kx=>by kernel_rfl,?_,fun σ kx=>rfl⟩
 rintro n ⟨⟨⟨⟩,x6,x7,x8,⟨⟩⟩,⟨⟩,⟨v_1,⟨⟩⟩⟩ kx
 kernel_rfl
theorem qi0_ (k:Nat):FnOK Tryz.prog 89 (qhy_ k):=by
 refine za_ (tab:=[(127,qgv_),(129,qdb_),(128,qdo_ k),(93,qco_)]) (l:=[]) z7_ z9_ mix (List.forall_mem_cons.2 ⟨qgw_,(List.forall_mem_cons.2 ⟨qdc_,(List.forall_mem_cons.2 ⟨qdq_ k,(List.forall_mem_cons.2 ⟨qcp_,(List.forall_mem_nil _)⟩)⟩)⟩)⟩) (List.forall_mem_nil _) ⟨⟨Tryz.f89,(z2_ Tryz.f89),[.tmp 2],(qhx_ k),by kernel_rfl,by kernel_rfl,by kernel_rfl,by kernel_rfl,rfl,by decide,⟨by kernel_rfl,?_,?_⟩,?_⟩⟩
 ·refine zh_ (n:=1) (by kernel_rfl) fun i hi=>?_
  match i,hi with
  | 0,_=>exact zd_ (by kernel_rfl) (qhz_ k)
  | n+1,hi=>omega
 ·exact z8_ (by kernel_rfl)
 ·rintro x0
  kernel_rfl
def z8y_ (k:Nat) (x0:List Int) (length1:Int) (p2:Int):Option Bool:=(z74_ x0).bind fun r_1=>(if (decide (r_1=length1))=true then (z8v_ k x0 p2).bind fun r_2=>some r_2 else some false)
def qi1_ (k:Nat):FE:=⟨(.pr (.sl 2 (.int .i64)) (.pr (.int .i64) (.int .i64))),1,.bool,fun x=>z8y_ k x.1 x.2.1 x.2.2⟩
theorem qi2_ (k:Nat):FnOK Tryz.prog 90 (qi1_ k):=by
 refine za_ (tab:=[(130,qfm_),(95,qh8_ k)]) (l:=[]) z7_ z9_ mix (List.forall_mem_cons.2 ⟨qfn_,(List.forall_mem_cons.2 ⟨qh9_ k,(List.forall_mem_nil _)⟩)⟩) (List.forall_mem_nil _) ⟨⟨Tryz.f90,(z2_ Tryz.f90),[.tmp 6],(LOn Bool),by kernel_rfl,by kernel_rfl,by kernel_rfl,by kernel_rfl,rfl,by decide,⟨by kernel_rfl,?_,?_⟩,?_⟩⟩
 ·exact ze_ (by kernel_rfl)
 ·exact z8_ (by kernel_rfl)
 ·rintro ⟨x0,length1,p2⟩
  kernel_rfl
def zi6_ (k:Nat) (x0:Int×Int×List (Int×Int×Int)) (phases1:List Int):Option Bool:=(z8y_ k phases1 x0.1 x0.2.1).bind fun r_1=>some r_1
def qi3_ (k:Nat):FE:=⟨(.pr (.st (.pr (.int .i64) (.pr (.int .i64) (.sl 135 (.st (.pr (.int .i64) (.pr (.int .i64) (.int .i64)))))))) (.sl 2 (.int .i64))),1,.bool,fun x=>zi6_ k x.1 x.2⟩
theorem qi4_ (k:Nat):FnOK Tryz.prog 92 (qi3_ k):=by
 refine za_ (tab:=[(90,qi1_ k)]) (l:=[]) z7_ z9_ mix (List.forall_mem_cons.2 ⟨qi2_ k,(List.forall_mem_nil _)⟩) (List.forall_mem_nil _) ⟨⟨Tryz.f92,(z2_ Tryz.f92),[.tmp 4],(LOn Bool),by kernel_rfl,by kernel_rfl,by kernel_rfl,by kernel_rfl,rfl,by decide,⟨by kernel_rfl,?_,?_⟩,?_⟩⟩
 ·exact ze_ (by kernel_rfl)
 ·exact z8_ (by kernel_rfl)
 ·rintro ⟨x0,phases1⟩
  kernel_rfl
def zeb_ (k:Nat) (w0:zT0×Int×List Int×List Int×(Int×Int×Int×List (Int×Int×Int))×List Int×List Int×(Int×Int×List (Int×Int×Int))×List Int):Option Bool:=(ze5_ k w0.1).bind fun r_1=>(if (!r_1)=true then some false else (zi5_ w0.2.1).bind fun r_2=>(if (!r_2)=true then some false else (ze9_ k w0.2.2.2.2.1).bind fun r_3=>(if (!r_3)=true then some false else (zea_ k w0.2.2.2.2.2.2.2.1).bind fun r_4=>(if (!r_4)=true then some false else (z8z_ k w0.1 w0.2.1).bind fun r_5=>(z8y_ k w0.2.2.1 r_5 w0.1.2.1).bind fun r_6=>(if r_6=true then (z8z_ k w0.1 0).bind fun r_7=>(z8y_ k w0.2.2.2.1 r_7 w0.1.2.1).bind fun r_8=>(if r_8=true then (zi6_ k w0.2.2.2.2.2.2.2.1 w0.2.2.2.2.2.2.2.2).bind fun r_9=>some r_9 else some false) else some false)))))
def qi5_ (k:Nat):FE:=⟨(.st (.pr (.st (.pr (.st (.sl 25 (.sl 2 (.int .i64)))) (.pr (.int .i64) (.pr (.sl 2 (.int .i64)) (.sl 137 (.st (.pr (.int .i64) (.pr (.int .i64) (.pr (.int .i64) (.sl 2 (.int .i64))))))))))) (.pr (.int .i64) (.pr (.sl 2 (.int .i64)) (.pr (.sl 2 (.int .i64)) (.pr (.st (.pr (.int .i64) (.pr (.int .i64) (.pr (.int .i64) (.sl 140 (.st (.pr (.int .i64) (.pr (.int .i64) (.int .i64))))))))) (.pr (.sl 2 (.int .i64)) (.pr (.sl 2 (.int .i64)) (.pr (.st (.pr (.int .i64) (.pr (.int .i64) (.sl 135 (.st (.pr (.int .i64) (.pr (.int .i64) (.int .i64)))))))) (.sl 2 (.int .i64))))))))))),1,.bool,fun x=>zeb_ k x⟩
theorem qi6_ (k:Nat):FnOK Tryz.prog 47 (qi5_ k):=by
 refine za_ (tab:=[(86,qhi_ k),(87,qhl_),(88,qhr_ k),(89,qhy_ k),(91,qfz_ k),(90,qi1_ k),(92,qi3_ k)]) (l:=[]) z7_ z9_ mix (List.forall_mem_cons.2 ⟨qhk_ k,(List.forall_mem_cons.2 ⟨qhm_,(List.forall_mem_cons.2 ⟨qht_ k,(List.forall_mem_cons.2 ⟨qi0_ k,(List.forall_mem_cons.2 ⟨qg1_ k,(List.forall_mem_cons.2 ⟨qi2_ k,(List.forall_mem_cons.2 ⟨qi4_ k,(List.forall_mem_nil _)⟩)⟩)⟩)⟩)⟩)⟩)⟩) (List.forall_mem_nil _) ⟨⟨Tryz.f47,(z2_ Tryz.f47),[.tmp 2],(LOn Bool),by kernel_rfl,by kernel_rfl,by kernel_rfl,by kernel_rfl,rfl,by decide,⟨by kernel_rfl,?_,?_⟩,?_⟩⟩
 ·exact ze_ (by kernel_rfl)
 ·exact z8_ (by kernel_rfl)
 ·rintro w0
  kernel_rfl
def z90_ (k:Nat):Nat→(List Int)→zT2→Int→Int→(List Int)→((List Int)→Option (List Int))→Option (List Int)
 | 0,_,_,_,_,_,_=>none
 | n+1,flow1,x12,x13,x14,q_1,e_0=>(if (decide (x14<x13))=true then (if 0≤x14 then (x12[x14.toNat]?).bind fun y_2=>(if 0≤y_2.2.1∧y_2.2.1.toNat<List.length q_1 then (q_1[y_2.2.1.toNat]?).bind fun y_3=>(if 0≤x14 then (flow1[x14.toNat]?).bind fun y_4=>(if 0≤y_2.2.1∧y_2.2.1.toNat<List.length q_1 then (q_1[y_2.2.1.toNat]?).bind fun y_5=>(q_1[y_2.2.1.toNat]?).bind fun y_6=>(if 0≤y_2.1∧y_2.1.toNat<List.length (q_1.set y_2.2.1.toNat (z0_ (y_3+y_4))) then ((q_1.set y_2.2.1.toNat (z0_ (y_3+y_4)))[y_2.1.toNat]?).bind fun y_7=>(if 0≤x14 then (flow1[x14.toNat]?).bind fun y_8=>(if 0≤y_2.1∧y_2.1.toNat<List.length (q_1.set y_2.2.1.toNat (z0_ (y_3+y_4))) then ((q_1.set y_2.2.1.toNat (z0_ (y_3+y_4)))[y_2.1.toNat]?).bind fun y_9=>((q_1.set y_2.2.1.toNat (z0_ (y_3+y_4)))[y_2.1.toNat]?).bind fun y_10=>z90_ k n flow1 x12 x13 (z0_ (x14+1)) ((q_1.set y_2.2.1.toNat (z0_ (y_3+y_4))).set y_2.1.toNat (z0_ (y_7-y_8))) e_0 else none) else none) else none) else none) else none) else none) else none) else e_0 q_1)
def zbd_ (k:Nat) (n0:Int×Int×Int×List (Int×Int×Int)) (flow1:List Int):Option (List Int):=(if 0≤n0.1∧n0.1≤n0.1∧n0.1*8≤LIM then z90_ k k flow1 n0.2.2.2 (List.length n0.2.2.2:Int) 0 (List.replicate n0.1.toNat 0) (fun q_11=>some q_11) else none)
def qi7_:Head:=⟨[(1,(.val (.sl 2 (.int .i64)))),(5,(.ref 64000000 [])),(12,(.val (.sl 140 (.st (.pr (.int .i64) (.pr (.int .i64) (.int .i64))))))),(13,(.val (.int .i64))),(14,(.val (.int .i64)))],[(64000000,2,(.int .i64),false)],[]⟩
def qi8_:Head:=⟨[(5,(.ref 64000000 []))],[(64000000,2,(.int .i64),false)],[]⟩
def qi9_ (k n:Nat) (x:qi7_.T) (kx:Nat→St→Option (List Int)):Option (List Int):=z90_ k n x.1.1 x.1.2.2.1 x.1.2.2.2.1 x.1.2.2.2.2.1 x.2.1.1 (fun (q_11:List Int)=>kx 0 (qi8_.fill (((),()),(q_11,()),())))
def qia_ (k:Nat):Oracles (List Int):=⟨fun n=>bif Nat.beq n 3 then some (fun σ kx=>qi7_.get σ fun x=>qi9_ k k x kx) else none,fun _=>none⟩
def qib_ (k:Nat):FE:=⟨(.pr (.st (.pr (.int .i64) (.pr (.int .i64) (.pr (.int .i64) (.sl 140 (.st (.pr (.int .i64) (.pr (.int .i64) (.int .i64))))))))) (.sl 2 (.int .i64))),1,(.sl 2 (.int .i64)),fun x=>zbd_ k x.1 x.2⟩
theorem qic_ (k:Nat):zc_ (z3_ ti [] (lk []) z4_ z5_) (qia_ k) (rdC (z3_ ti [] (lk []) z4_ z5_) [.tmp 4] (.sl 2 (.int .i64))) ((zb_ (z2_ Tryz.f51)).getD 0 .skip) (fun σ kx=>qi7_.get σ fun x=>qi9_ k k x kx):=by
 refine ⟨qi7_,[(0,qi8_)],fun n x kx=>qi9_ k n x kx,k,by kernel_rfl,by kernel_rfl,fun x kx=>by kernel_rfl,?_,fun σ kx=>rfl⟩
 rintro n ⟨⟨flow1,⟨⟩,x12,x13,x14,⟨⟩⟩,⟨q_1,⟨⟩⟩,⟨⟩⟩ kx
 kernel_rfl
theorem qid_ (k:Nat):FnOK Tryz.prog 51 (qib_ k):=by
 refine za_ (tab:=[]) (l:=[]) z7_ z9_ mix (List.forall_mem_nil _) (List.forall_mem_nil _) ⟨⟨Tryz.f51,(z2_ Tryz.f51),[.tmp 4],(qia_ k),by kernel_rfl,by kernel_rfl,by kernel_rfl,by kernel_rfl,rfl,by decide,⟨by kernel_rfl,?_,?_⟩,?_⟩⟩
 ·refine zh_ (n:=1) (by kernel_rfl) fun i hi=>?_
  match i,hi with
  | 0,_=>exact zd_ (by kernel_rfl) (qic_ k)
  | n+1,hi=>omega
 ·exact z8_ (by kernel_rfl)
 ·rintro ⟨n0,flow1⟩
  kernel_rfl
def z75_ (k:Nat):Nat→(List Int)→zT2→Int→Int→(Int×Int×Int×List (Int×Int×Int))→((List Int)→(Int×Int×Int×List (Int×Int×Int))→Option Bool)→Option Bool
 | 0,_,_,_,_,_,_=>none
 | n+1,flow1,x16,x17,x18,v_2,e_0=>(if (decide (x18<x17))=true then (if 0≤x18 then (x16[x18.toNat]?).bind fun y_1=>(if 0≤x18 then (flow1[x18.toNat]?).bind fun y_2=>(z2a_ y_2 0 y_1.2.2).bind fun r_3=>(if (!r_3)=true then some false else z75_ k n flow1 x16 x17 (z0_ (x18+1)) v_2 e_0) else none) else none) else e_0 flow1 v_2)
def z5a_ (k:Nat):Nat→Int→Int→(List Int)→(Int×Int×Int×List (Int×Int×Int))→(Option Bool)→Option Bool
 | 0,_,_,_,_,_=>none
 | n+1,x35,x36,q_7,v_2,e_2=>(if (decide (x36<x35))=true then (if 0≤x36∧x36.toNat<List.length q_7 then (q_7[x36.toNat]?).bind fun y_8=>(if (!(decide (y_8=0)))=true then (if (!(decide (x36=v_2.2.1)))=true then (if (!(decide (x36=v_2.2.2.1)))=true then some false else z5a_ k n x35 (z0_ (x36+1)) q_7 v_2 e_2) else z5a_ k n x35 (z0_ (x36+1)) q_7 v_2 e_2) else z5a_ k n x35 (z0_ (x36+1)) q_7 v_2 e_2) else none) else e_2)
def zec_ (k:Nat) (n0:Int×Int×Int×List (Int×Int×Int)) (flow1:List Int):Option Bool:=(if (!(decide ((List.length flow1:Int)=(List.length n0.2.2.2:Int))))=true then some false else z75_ k k flow1 n0.2.2.2 (List.length n0.2.2.2:Int) 0 n0 (fun flow_4 v_5=>(zbd_ k v_5 flow_4).bind fun r_6=>z5a_ k k (List.length r_6:Int) 0 r_6 v_5 (some true)))
def qie_:Head:=⟨[(1,(.val (.sl 2 (.int .i64)))),(2,(.bp 2 [] 0)),(16,(.val (.sl 140 (.st (.pr (.int .i64) (.pr (.int .i64) (.int .i64))))))),(17,(.val (.int .i64))),(18,(.val (.int .i64)))],[],[(2,47,(.val (.st (.pr (.int .i64) (.pr (.int .i64) (.pr (.int .i64) (.sl 140 (.st (.pr (.int .i64) (.pr (.int .i64) (.int .i64)))))))))))]⟩
def qif_:Head:=⟨[(1,(.val (.sl 2 (.int .i64)))),(2,(.bp 2 [] 0))],[],[(2,47,(.val (.st (.pr (.int .i64) (.pr (.int .i64) (.pr (.int .i64) (.sl 140 (.st (.pr (.int .i64) (.pr (.int .i64) (.int .i64)))))))))))]⟩
def qig_ (k n:Nat) (x:qie_.T) (kx:Nat→St→Option Bool):Option Bool:=z75_ k n x.1.1 x.1.2.2.1 x.1.2.2.2.1 x.1.2.2.2.2.1 x.2.2.1 (fun (flow1:List Int) (v_2:Int×Int×Int×List (Int×Int×Int))=>kx 0 (qif_.fill ((flow1,(),()),(),(v_2,()))))
def qih_:Head:=⟨[(2,(.bp 2 [] 0)),(34,(.ref 64000000 [])),(35,(.val (.int .i64))),(36,(.val (.int .i64)))],[(64000000,2,(.int .i64),false)],[(2,47,(.val (.st (.pr (.int .i64) (.pr (.int .i64) (.pr (.int .i64) (.sl 140 (.st (.pr (.int .i64) (.pr (.int .i64) (.int .i64)))))))))))]⟩
def qii_:Head:=⟨[],[],[]⟩
def qij_ (k n:Nat) (x:qih_.T) (kx:Nat→St→Option Bool):Option Bool:=z5a_ k n x.1.2.2.1 x.1.2.2.2.1 x.2.1.1 x.2.2.1 (kx 2 (qii_.fill ((),(),())))
def qik_ (k:Nat):Oracles Bool:=⟨fun n=>bif Nat.beq n 4 then some (fun σ kx=>qie_.get σ fun x=>qig_ k k x kx) else bif Nat.beq n 10 then some (fun σ kx=>qih_.get σ fun x=>qij_ k k x kx) else none,fun _=>none⟩
def qil_ (k:Nat):FE:=⟨(.pr (.st (.pr (.int .i64) (.pr (.int .i64) (.pr (.int .i64) (.sl 140 (.st (.pr (.int .i64) (.pr (.int .i64) (.int .i64))))))))) (.sl 2 (.int .i64))),1,.bool,fun x=>zec_ k x.1 x.2⟩
theorem qim_ (k:Nat):zc_ (z3_ ti [(93,qco_),(51,qib_ k)] (lk []) z4_ z5_) (qik_ k) (rdC (z3_ ti [(93,qco_),(51,qib_ k)] (lk []) z4_ z5_) [.tmp 4] .bool) ((zb_ (z2_ Tryz.f48)).getD 0 .skip) (fun σ kx=>qie_.get σ fun x=>qig_ k k x kx):=by
 refine ⟨qie_,[(0,qif_)],fun n x kx=>qig_ k n x kx,k,by kernel_rfl,by kernel_rfl,fun x kx=>by kernel_rfl,?_,fun σ kx=>rfl⟩
 rintro n ⟨⟨flow1,⟨⟩,x16,x17,x18,⟨⟩⟩,⟨⟩,⟨v_2,⟨⟩⟩⟩ kx
 kernel_rfl
theorem qin_ (k:Nat):zc_ (z3_ ti [(93,qco_),(51,qib_ k)] (lk []) z4_ z5_) (qik_ k) (rdC (z3_ ti [(93,qco_),(51,qib_ k)] (lk []) z4_ z5_) [.tmp 4] .bool) ((zb_ (z2_ Tryz.f48)).getD 1 .skip) (fun σ kx=>qih_.get σ fun x=>qij_ k k x kx):=by
 refine ⟨qih_,[(2,qii_)],fun n x kx=>qij_ k n x kx,k,by kernel_rfl,by kernel_rfl,fun x kx=>by kernel_rfl,?_,fun σ kx=>rfl⟩
 rintro n ⟨⟨⟨⟩,⟨⟩,x35,x36,⟨⟩⟩,⟨q_7,⟨⟩⟩,⟨v_2,⟨⟩⟩⟩ kx
 kernel_rfl
theorem qio_ (k:Nat):FnOK Tryz.prog 48 (qil_ k):=by
 refine za_ (tab:=[(93,qco_),(51,qib_ k)]) (l:=[]) z7_ z9_ mix (List.forall_mem_cons.2 ⟨qcp_,(List.forall_mem_cons.2 ⟨qid_ k,(List.forall_mem_nil _)⟩)⟩) (List.forall_mem_nil _) ⟨⟨Tryz.f48,(z2_ Tryz.f48),[.tmp 4],(qik_ k),by kernel_rfl,by kernel_rfl,by kernel_rfl,by kernel_rfl,rfl,by decide,⟨by kernel_rfl,?_,?_⟩,?_⟩⟩
 ·refine zh_ (n:=2) (by kernel_rfl) fun i hi=>?_
  match i,hi with
  | 0,_=>exact zd_ (by kernel_rfl) (qim_ k)
  | 1,_=>exact zd_ (by kernel_rfl) (qin_ k)
  | n+2,hi=>omega
 ·exact z8_ (by kernel_rfl)
 ·rintro ⟨n0,flow1⟩
  kernel_rfl
end
end Go.Proofs.YthbodbmcalfmaaaGreatDoor.Ev
