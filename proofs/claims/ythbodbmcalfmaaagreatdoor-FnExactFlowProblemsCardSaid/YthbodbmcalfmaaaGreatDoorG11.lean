/- Functions of the program, as plain ones. No conditions. -/
import Derived.Test.YthbodbmcalfmaaaGreatDoorG10
import Derived.KernelRfl
set_option linter.unusedVariables false
set_option maxRecDepth 100000
namespace Go.Proofs.YthbodbmcalfmaaaGreatDoor.Ev
open Go.RowKit
noncomputable section
def z91_ (k:Nat):Nat→(List Int)→Int→Int→Int→(Option Int)→Option Int
 | 0,_,_,_,_,_=>none
 | n+1,s0,v1,x7,x8,e_0=>(if (decide (x8<x7))=true then (if 0≤x8 then (s0[x8.toNat]?).bind fun y_1=>(if (decide (v1=y_1))=true then some x8 else z91_ k n s0 v1 x7 (z0_ (x8+1)) e_0) else none) else e_0)
def zi7_ (k:Nat) (s0:List Int) (v1:Int):Option Int:=z91_ k k s0 v1 (List.length s0:Int) 0 (some (-1))
def qip_:Head:=⟨[(0,(.val (.sl 2 (.int .i64)))),(1,(.val (.int .i64))),(7,(.val (.int .i64))),(8,(.val (.int .i64)))],[],[]⟩
def qiq_:Head:=⟨[],[],[]⟩
def qir_ (k n:Nat) (x:qip_.T) (kx:Nat→St→Option Int):Option Int:=z91_ k n x.1.1 x.1.2.1 x.1.2.2.1 x.1.2.2.2.1 (kx 0 (qiq_.fill ((),(),())))
def qis_ (k:Nat):Oracles Int:=⟨fun n=>bif Nat.beq n 2 then some (fun σ kx=>qip_.get σ fun x=>qir_ k k x kx) else none,fun _=>none⟩
def qit_ (k:Nat):FE:=⟨(.pr (.sl 2 (.int .i64)) (.int .i64)),1,(.int .i64),fun x=>zi7_ k x.1 x.2⟩
theorem qiu_ (k:Nat):zc_ (z3_ ti [] (lk []) z4_ z5_) (qis_ k) (rdC (z3_ ti [] (lk []) z4_ z5_) [.tmp 4] (.int .i64)) ((zb_ (z2_ Tryz.f134)).getD 0 .skip) (fun σ kx=>qip_.get σ fun x=>qir_ k k x kx):=by
 refine ⟨qip_,[(0,qiq_)],fun n x kx=>qir_ k n x kx,k,by kernel_rfl,by kernel_rfl,fun x kx=>by kernel_rfl,?_,fun σ kx=>rfl⟩
 rintro n ⟨⟨s0,v1,x7,x8,⟨⟩⟩,⟨⟩,⟨⟩⟩ kx
 kernel_rfl
theorem qiv_ (k:Nat):FnOK Tryz.prog 134 (qit_ k):=by
 refine za_ (tab:=[]) (l:=[]) z7_ z9_ mix (List.forall_mem_nil _) (List.forall_mem_nil _) ⟨⟨Tryz.f134,(z2_ Tryz.f134),[.tmp 4],(qis_ k),by kernel_rfl,by kernel_rfl,by kernel_rfl,by kernel_rfl,rfl,by decide,⟨by kernel_rfl,?_,?_⟩,?_⟩⟩
 ·refine zh_ (n:=1) (by kernel_rfl) fun i hi=>?_
  match i,hi with
  | 0,_=>exact zd_ (by kernel_rfl) (qiu_ k)
  | n+1,hi=>omega
 ·exact z8_ (by kernel_rfl)
 ·rintro ⟨s0,v1⟩
  kernel_rfl
def z76_ (k:Nat) (s0:List Int) (v1:Int):Option Bool:=(zi7_ k s0 v1).bind fun r_1=>some (decide (0≤r_1))
def qiw_ (k:Nat):FE:=⟨(.pr (.sl 2 (.int .i64)) (.int .i64)),1,.bool,fun x=>z76_ k x.1 x.2⟩
theorem qix_ (k:Nat):FnOK Tryz.prog 96 (qiw_ k):=by
 refine za_ (tab:=[(134,qit_ k)]) (l:=[]) z7_ z9_ mix (List.forall_mem_cons.2 ⟨qiv_ k,(List.forall_mem_nil _)⟩) (List.forall_mem_nil _) ⟨⟨Tryz.f96,(z2_ Tryz.f96),[.tmp 4],(LOn Bool),by kernel_rfl,by kernel_rfl,by kernel_rfl,by kernel_rfl,rfl,by decide,⟨by kernel_rfl,?_,?_⟩,?_⟩⟩
 ·exact ze_ (by kernel_rfl)
 ·exact z8_ (by kernel_rfl)
 ·rintro ⟨s0,v1⟩
  kernel_rfl
def zed_ (k:Nat) (n0:Int×Int×Int×List (Int×Int×Int)) (side1:List Int):Option Bool:=(zbe_ k side1).bind fun r_1=>(if r_1=true then (z8v_ k side1 n0.1).bind fun r_2=>(if r_2=true then (z76_ k side1 n0.2.1).bind fun r_3=>(if r_3=true then (z76_ k side1 n0.2.2.1).bind fun r_4=>some (!r_4) else some false) else some false) else some false)
def qiy_ (k:Nat):FE:=⟨(.pr (.st (.pr (.int .i64) (.pr (.int .i64) (.pr (.int .i64) (.sl 140 (.st (.pr (.int .i64) (.pr (.int .i64) (.int .i64))))))))) (.sl 2 (.int .i64))),1,.bool,fun x=>zed_ k x.1 x.2⟩
theorem qiz_ (k:Nat):FnOK Tryz.prog 49 (qiy_ k):=by
 refine za_ (tab:=[(94,qcl_ k),(95,qh8_ k),(96,qiw_ k)]) (l:=[]) z7_ z9_ mix (List.forall_mem_cons.2 ⟨qcn_ k,(List.forall_mem_cons.2 ⟨qh9_ k,(List.forall_mem_cons.2 ⟨qix_ k,(List.forall_mem_nil _)⟩)⟩)⟩) (List.forall_mem_nil _) ⟨⟨Tryz.f49,(z2_ Tryz.f49),[.tmp 4],(LOn Bool),by kernel_rfl,by kernel_rfl,by kernel_rfl,by kernel_rfl,rfl,by decide,⟨by kernel_rfl,?_,?_⟩,?_⟩⟩
 ·exact ze_ (by kernel_rfl)
 ·exact z8_ (by kernel_rfl)
 ·rintro ⟨n0,side1⟩
  kernel_rfl
def z69_ (k:Nat):Nat→(List Int)→Int→zT2→Int→Int→(Int→Option Int)→Option Int
 | 0,_,_,_,_,_,_=>none
 | n+1,side1,sum5,x9,x10,x11,e_0=>(if (decide (x11<x10))=true then (if 0≤x11 then (x9[x11.toNat]?).bind fun y_1=>(z76_ k side1 y_1.1).bind fun r_2=>(if r_2=true then (z76_ k side1 y_1.2.1).bind fun r_3=>(if (!r_3)=true then z69_ k n side1 (z0_ (sum5+y_1.2.2)) x9 x10 (z0_ (x11+1)) e_0 else z69_ k n side1 sum5 x9 x10 (z0_ (x11+1)) e_0) else z69_ k n side1 sum5 x9 x10 (z0_ (x11+1)) e_0) else none) else e_0 sum5)
def zee_ (k:Nat) (n0:Int×Int×Int×List (Int×Int×Int)) (side1:List Int):Option Int:=z69_ k k side1 0 n0.2.2.2 (List.length n0.2.2.2:Int) 0 (fun sum_4=>some sum_4)
def qj0_:Head:=⟨[(1,(.val (.sl 2 (.int .i64)))),(5,(.val (.int .i64))),(9,(.val (.sl 140 (.st (.pr (.int .i64) (.pr (.int .i64) (.int .i64))))))),(10,(.val (.int .i64))),(11,(.val (.int .i64)))],[],[]⟩
def qj1_:Head:=⟨[(5,(.val (.int .i64)))],[],[]⟩
def qj2_ (k n:Nat) (x:qj0_.T) (kx:Nat→St→Option Int):Option Int:=z69_ k n x.1.1 x.1.2.1 x.1.2.2.1 x.1.2.2.2.1 x.1.2.2.2.2.1 (fun (sum5:Int)=>kx 0 (qj1_.fill ((sum5,()),(),())))
def qj3_ (k:Nat):Oracles Int:=⟨fun n=>bif Nat.beq n 3 then some (fun σ kx=>qj0_.get σ fun x=>qj2_ k k x kx) else none,fun _=>none⟩
def qj4_ (k:Nat):FE:=⟨(.pr (.st (.pr (.int .i64) (.pr (.int .i64) (.pr (.int .i64) (.sl 140 (.st (.pr (.int .i64) (.pr (.int .i64) (.int .i64))))))))) (.sl 2 (.int .i64))),1,(.int .i64),fun x=>zee_ k x.1 x.2⟩
theorem qj5_ (k:Nat):zc_ (z3_ ti [(96,qiw_ k)] (lk []) z4_ z5_) (qj3_ k) (rdC (z3_ ti [(96,qiw_ k)] (lk []) z4_ z5_) [.tmp 4] (.int .i64)) ((zb_ (z2_ Tryz.f50)).getD 0 .skip) (fun σ kx=>qj0_.get σ fun x=>qj2_ k k x kx):=by
 refine ⟨qj0_,[(0,qj1_)],fun n x kx=>qj2_ k n x kx,k,by kernel_rfl,by kernel_rfl,fun x kx=>by kernel_rfl,?_,fun σ kx=>rfl⟩
 rintro n ⟨⟨side1,sum5,x9,x10,x11,⟨⟩⟩,⟨⟩,⟨⟩⟩ kx
 kernel_rfl
theorem qj6_ (k:Nat):FnOK Tryz.prog 50 (qj4_ k):=by
 refine za_ (tab:=[(96,qiw_ k)]) (l:=[]) z7_ z9_ mix (List.forall_mem_cons.2 ⟨qix_ k,(List.forall_mem_nil _)⟩) (List.forall_mem_nil _) ⟨⟨Tryz.f50,(z2_ Tryz.f50),[.tmp 4],(qj3_ k),by kernel_rfl,by kernel_rfl,by kernel_rfl,by kernel_rfl,rfl,by decide,⟨by kernel_rfl,?_,?_⟩,?_⟩⟩
 ·refine zh_ (n:=1) (by kernel_rfl) fun i hi=>?_
  match i,hi with
  | 0,_=>exact zd_ (by kernel_rfl) (qj5_ k)
  | n+1,hi=>omega
 ·exact z8_ (by kernel_rfl)
 ·rintro ⟨n0,side1⟩
  kernel_rfl
def znd_ (n:Int) (b:Int):Option (List UInt8):=if b=10∧-9223372036854775808≤n∧n≤9223372036854775807 then some (Lib.itoa n) else none
abbrev qj7_:FE:=fe_formatInt
theorem qj8_:FnOK Tryz.prog 97 qj7_:=ztg_ (fn:=Tryz.f97) (cd:=z2_ Tryz.f97) (by kernel_rfl) (by kernel_rfl) (by kernel_rfl) (fun n h0 h1 w hG=>Go.Proofs.Tryz.strconv_FormatInt_10 n h0 h1 w hG)
def zef_ (n0:Int):Option (List UInt8):=(znd_ n0 10).bind fun r_1=>some r_1
def qj9_:FE:=⟨(.int .i64),1,.str,fun x=>zef_ x⟩
theorem qja_:FnOK Tryz.prog 52 (qj9_):=by
 refine za_ (tab:=[(97,qj7_)]) (l:=[]) z7_ z9_ mix (List.forall_mem_cons.2 ⟨qj8_,(List.forall_mem_nil _)⟩) (List.forall_mem_nil _) ⟨⟨Tryz.f52,(z2_ Tryz.f52),[.tmp 2],(LOn (List UInt8)),by kernel_rfl,by kernel_rfl,by kernel_rfl,by kernel_rfl,rfl,by decide,⟨by kernel_rfl,?_,?_⟩,?_⟩⟩
 ·exact ze_ (by kernel_rfl)
 ·exact z8_ (by kernel_rfl)
 ·rintro n0
  kernel_rfl
def zeg_ (k:Nat) (w0:zT0×Int×List Int×List Int×(Int×Int×Int×List (Int×Int×Int))×List Int×List Int×(Int×Int×List (Int×Int×Int))×List Int):Option zT1:=(zec_ k w0.2.2.2.2.1 w0.2.2.2.2.2.1).bind fun r_1=>(if (!r_1)=true then some [(4,([102,108,111,119],[110,111,110,101]))] else (zed_ k w0.2.2.2.2.1 w0.2.2.2.2.2.2.1).bind fun r_2=>(if (!r_2)=true then some [(4,([115,105,100,101],[110,111,110,101]))] else (zee_ k w0.2.2.2.2.1 w0.2.2.2.2.2.2.1).bind fun r_3=>(zbd_ k w0.2.2.2.2.1 w0.2.2.2.2.2.1).bind fun r_4=>(if 0≤w0.2.2.2.2.1.2.2.1∧w0.2.2.2.2.1.2.2.1.toNat<List.length r_4 then (r_4[w0.2.2.2.2.1.2.2.1.toNat]?).bind fun y_5=>(if (!(decide ((z0_ (r_3-y_5))=0)))=true then (zef_ (z0_ (r_3-y_5))).bind fun r_6=>some [(4,([114,101,115,116],r_6))] else some []) else none)))
def qjb_ (k:Nat):FE:=⟨(.st (.pr (.st (.pr (.st (.sl 25 (.sl 2 (.int .i64)))) (.pr (.int .i64) (.pr (.sl 2 (.int .i64)) (.sl 137 (.st (.pr (.int .i64) (.pr (.int .i64) (.pr (.int .i64) (.sl 2 (.int .i64))))))))))) (.pr (.int .i64) (.pr (.sl 2 (.int .i64)) (.pr (.sl 2 (.int .i64)) (.pr (.st (.pr (.int .i64) (.pr (.int .i64) (.pr (.int .i64) (.sl 140 (.st (.pr (.int .i64) (.pr (.int .i64) (.int .i64))))))))) (.pr (.sl 2 (.int .i64)) (.pr (.sl 2 (.int .i64)) (.pr (.st (.pr (.int .i64) (.pr (.int .i64) (.sl 135 (.st (.pr (.int .i64) (.pr (.int .i64) (.int .i64)))))))) (.sl 2 (.int .i64))))))))))),1,(.sl 73 (.st (.pr (.int .i64) (.pr .str .str)))),fun x=>zeg_ k x⟩
theorem qjc_ (k:Nat):FnOK Tryz.prog 23 (qjb_ k):=by
 refine za_ (tab:=[(48,qil_ k),(49,qiy_ k),(50,qj4_ k),(51,qib_ k),(52,qj9_)]) (l:=[]) z7_ z9_ mix (List.forall_mem_cons.2 ⟨qio_ k,(List.forall_mem_cons.2 ⟨qiz_ k,(List.forall_mem_cons.2 ⟨qj6_ k,(List.forall_mem_cons.2 ⟨qid_ k,(List.forall_mem_cons.2 ⟨qja_,(List.forall_mem_nil _)⟩)⟩)⟩)⟩)⟩) (List.forall_mem_nil _) ⟨⟨Tryz.f23,(z2_ Tryz.f23),[.tmp 2],(LOn zT1),by kernel_rfl,by kernel_rfl,by kernel_rfl,by kernel_rfl,rfl,by decide,⟨by kernel_rfl,?_,?_⟩,?_⟩⟩
 ·exact ze_ (by kernel_rfl)
 ·exact z8_ (by kernel_rfl)
 ·rintro w0
  kernel_rfl
def zeh_ (k:Nat):Nat→(List Nat)→Int→Int→zT1→(zT0×Int×List Int×List Int×(Int×Int×Int×List (Int×Int×Int))×List Int×List Int×(Int×Int×List (Int×Int×Int))×List Int)→(zT1→Option (zT1×Int))→Option (zT1×Int)
 | 0,_,_,_,_,_,_=>none
 | n+1,x12,x13,x14,q_2,v_2,e_0=>(if (decide (x14<x13))=true then (if 0≤x14 then (x12[x14.toNat]?).bind fun y_3=>(if y_3=23 then (zeg_ k v_2).bind fun r_4=>(if (q_2.length+r_4.length)*40≤LIM then zeh_ k n x12 x13 (z0_ (x14+1)) (q_2++r_4) v_2 e_0 else none) else none) else none) else e_0 q_2)
def zi8_ (k:Nat) (w0:zT0×Int×List Int×List Int×(Int×Int×Int×List (Int×Int×Int))×List Int×List Int×(Int×Int×List (Int×Int×Int))×List Int) (functions1:List Nat):Option (zT1×Int):=(zeb_ k w0).bind fun r_1=>(if (!r_1)=true then some ([],1) else zeh_ k k functions1 (List.length functions1:Int) 0 [] w0 (fun q_5=>some (q_5,0)))
def qjd_:Head:=⟨[(2,(.bp 2 [] 0)),(6,(.ref 64000000 [])),(12,(.val (.sl 70 (.fs [23])))),(13,(.val (.int .i64))),(14,(.val (.int .i64)))],[(64000000,73,(.st (.pr (.int .i64) (.pr .str .str))),false)],[(2,52,(.val (.st (.pr (.st (.pr (.st (.sl 25 (.sl 2 (.int .i64)))) (.pr (.int .i64) (.pr (.sl 2 (.int .i64)) (.sl 137 (.st (.pr (.int .i64) (.pr (.int .i64) (.pr (.int .i64) (.sl 2 (.int .i64))))))))))) (.pr (.int .i64) (.pr (.sl 2 (.int .i64)) (.pr (.sl 2 (.int .i64)) (.pr (.st (.pr (.int .i64) (.pr (.int .i64) (.pr (.int .i64) (.sl 140 (.st (.pr (.int .i64) (.pr (.int .i64) (.int .i64))))))))) (.pr (.sl 2 (.int .i64)) (.pr (.sl 2 (.int .i64)) (.pr (.st (.pr (.int .i64) (.pr (.int .i64) (.sl 135 (.st (.pr (.int .i64) (.pr (.int .i64) (.int .i64)))))))) (.sl 2 (.int .i64)))))))))))))]⟩
def qje_:Head:=⟨[(6,(.ref 64000000 []))],[(64000000,73,(.st (.pr (.int .i64) (.pr .str .str))),false)],[]⟩
def qjf_ (k n:Nat) (x:qjd_.T) (kx:Nat→St→Option (zT1×Int)):Option (zT1×Int):=zeh_ k n x.1.2.2.1 x.1.2.2.2.1 x.1.2.2.2.2.1 x.2.1.1 x.2.2.1 (fun (q_5:List (Int×List UInt8×List UInt8))=>kx 0 (qje_.fill (((),()),(q_5,()),())))
def qjg_ (k:Nat):Oracles (zT1×Int):=⟨fun n=>bif Nat.beq n 5 then some (fun σ kx=>qjd_.get σ fun x=>qjf_ k k x kx) else none,fun _=>none⟩
def qjh_ (k:Nat):FE:=⟨(.pr (.st (.pr (.st (.pr (.st (.sl 25 (.sl 2 (.int .i64)))) (.pr (.int .i64) (.pr (.sl 2 (.int .i64)) (.sl 137 (.st (.pr (.int .i64) (.pr (.int .i64) (.pr (.int .i64) (.sl 2 (.int .i64))))))))))) (.pr (.int .i64) (.pr (.sl 2 (.int .i64)) (.pr (.sl 2 (.int .i64)) (.pr (.st (.pr (.int .i64) (.pr (.int .i64) (.pr (.int .i64) (.sl 140 (.st (.pr (.int .i64) (.pr (.int .i64) (.int .i64))))))))) (.pr (.sl 2 (.int .i64)) (.pr (.sl 2 (.int .i64)) (.pr (.st (.pr (.int .i64) (.pr (.int .i64) (.sl 135 (.st (.pr (.int .i64) (.pr (.int .i64) (.int .i64)))))))) (.sl 2 (.int .i64))))))))))) (.sl 70 (.fs [23]))),2,(.pr (.sl 73 (.st (.pr (.int .i64) (.pr .str .str)))) (.int .i64)),fun x=>zi8_ k x.1 x.2⟩
theorem qji_ (k:Nat):zc_ (z3_ ti [(47,qi5_ k),(23,qjb_ k)] (lk []) z4_ z5_) (qjg_ k) (rdC (z3_ ti [(47,qi5_ k),(23,qjb_ k)] (lk []) z4_ z5_) [.tmp 4,.tmp 5] (.pr (.sl 73 (.st (.pr (.int .i64) (.pr .str .str)))) (.int .i64))) ((zb_ (z2_ Tryz.f22)).getD 0 .skip) (fun σ kx=>qjd_.get σ fun x=>qjf_ k k x kx):=by
 refine ⟨qjd_,[(0,qje_)],fun n x kx=>qjf_ k n x kx,k,by kernel_rfl,by kernel_rfl,fun x kx=>by kernel_rfl,?_,fun σ kx=>rfl⟩
 rintro n ⟨⟨⟨⟩,⟨⟩,x12,x13,x14,⟨⟩⟩,⟨q_2,⟨⟩⟩,⟨v_2,⟨⟩⟩⟩ kx
 kernel_rfl
theorem qjj_ (k:Nat):FnOK Tryz.prog 22 (qjh_ k):=by
 refine za_ (tab:=[(47,qi5_ k),(23,qjb_ k)]) (l:=[]) z7_ z9_ mix (List.forall_mem_cons.2 ⟨qi6_ k,(List.forall_mem_cons.2 ⟨qjc_ k,(List.forall_mem_nil _)⟩)⟩) (List.forall_mem_nil _) ⟨⟨Tryz.f22,(z2_ Tryz.f22),[.tmp 4,.tmp 5],(qjg_ k),by kernel_rfl,by kernel_rfl,by kernel_rfl,by kernel_rfl,rfl,by decide,⟨by kernel_rfl,?_,?_⟩,?_⟩⟩
 ·refine zh_ (n:=1) (by kernel_rfl) fun i hi=>?_
  match i,hi with
  | 0,_=>exact zd_ (by kernel_rfl) (qji_ k)
  | n+1,hi=>omega
 ·exact z8_ (by kernel_rfl)
 ·rintro ⟨w0,functions1⟩
  kernel_rfl
def zbf_ (k:Nat) (w0:zT0×Int×List Int×List Int×(Int×Int×Int×List (Int×Int×Int))×List Int×List Int×(Int×Int×List (Int×Int×Int))×List Int):Option (zT1×Int):=(zi8_ k w0 [23]).bind fun r_1=>some (r_1.1,r_1.2)
def qjk_ (k:Nat):FE:=⟨(.st (.pr (.st (.pr (.st (.sl 25 (.sl 2 (.int .i64)))) (.pr (.int .i64) (.pr (.sl 2 (.int .i64)) (.sl 137 (.st (.pr (.int .i64) (.pr (.int .i64) (.pr (.int .i64) (.sl 2 (.int .i64))))))))))) (.pr (.int .i64) (.pr (.sl 2 (.int .i64)) (.pr (.sl 2 (.int .i64)) (.pr (.st (.pr (.int .i64) (.pr (.int .i64) (.pr (.int .i64) (.sl 140 (.st (.pr (.int .i64) (.pr (.int .i64) (.int .i64))))))))) (.pr (.sl 2 (.int .i64)) (.pr (.sl 2 (.int .i64)) (.pr (.st (.pr (.int .i64) (.pr (.int .i64) (.sl 135 (.st (.pr (.int .i64) (.pr (.int .i64) (.int .i64)))))))) (.sl 2 (.int .i64))))))))))),2,(.pr (.sl 73 (.st (.pr (.int .i64) (.pr .str .str)))) (.int .i64)),fun x=>zbf_ k x⟩
theorem qjl_ (k:Nat):FnOK Tryz.prog 7 (qjk_ k):=by
 refine za_ (tab:=[(22,qjh_ k)]) (l:=[]) z7_ z9_ mix (List.forall_mem_cons.2 ⟨qjj_ k,(List.forall_mem_nil _)⟩) (List.forall_mem_nil _) ⟨⟨Tryz.f7,(z2_ Tryz.f7),[.tmp 2,.tmp 3],(LOn (zT1×Int)),by kernel_rfl,by kernel_rfl,by kernel_rfl,by kernel_rfl,rfl,by decide,⟨by kernel_rfl,?_,?_⟩,?_⟩⟩
 ·exact ze_ (by kernel_rfl)
 ·exact z8_ (by kernel_rfl)
 ·rintro w0
  kernel_rfl
def zei_ (a0:Int×List UInt8×List UInt8) (b1:Int×List UInt8×List UInt8):Option Bool:=(if (!(decide (a0.1=b1.1)))=true then some false else (if (!(decide (a0.2.1=b1.2.1)))=true then some false else (if (!(decide (a0.2.2=b1.2.2)))=true then some false else some true)))
def qjm_:FE:=⟨(.pr (.st (.pr (.int .i64) (.pr .str .str))) (.st (.pr (.int .i64) (.pr .str .str)))),1,.bool,fun x=>zei_ x.1 x.2⟩
theorem qjn_:FnOK Tryz.prog 24 (qjm_):=by
 refine za_ (tab:=[]) (l:=[]) z7_ z9_ mix (List.forall_mem_nil _) (List.forall_mem_nil _) ⟨⟨Tryz.f24,(z2_ Tryz.f24),[.tmp 4],(LOn Bool),by kernel_rfl,by kernel_rfl,by kernel_rfl,by kernel_rfl,rfl,by decide,⟨by kernel_rfl,?_,?_⟩,?_⟩⟩
 ·exact ze_ (by kernel_rfl)
 ·exact z8_ (by kernel_rfl)
 ·rintro ⟨a0,b1⟩
  kernel_rfl
def z92_ (k:Nat):Nat→zT1→zT1→Int→(Option Bool)→Option Bool
 | 0,_,_,_,_=>none
 | n+1,a0,b1,i5,e_0=>(if (decide (i5<(List.length a0:Int)))=true then (if 0≤i5 then (a0[i5.toNat]?).bind fun y_1=>(if 0≤i5 then (b1[i5.toNat]?).bind fun y_2=>(zei_ y_1 y_2).bind fun r_3=>(if (!r_3)=true then some false else z92_ k n a0 b1 (z0_ (i5+1)) e_0) else none) else none) else e_0)
def z77_ (k:Nat) (a0:List (Int×List UInt8×List UInt8)) (b1:List (Int×List UInt8×List UInt8)):Option Bool:=(if (!(decide ((List.length a0:Int)=(List.length b1:Int))))=true then some false else z92_ k k a0 b1 0 (some true))
def qjo_:Head:=⟨[(0,(.val (.sl 73 (.st (.pr (.int .i64) (.pr .str .str)))))),(1,(.val (.sl 73 (.st (.pr (.int .i64) (.pr .str .str)))))),(5,(.val (.int .i64)))],[],[]⟩
def qjp_:Head:=⟨[],[],[]⟩
def qjq_ (k n:Nat) (x:qjo_.T) (kx:Nat→St→Option Bool):Option Bool:=z92_ k n x.1.1 x.1.2.1 x.1.2.2.1 (kx 0 (qjp_.fill ((),(),())))
def qjr_ (k:Nat):Oracles Bool:=⟨fun n=>bif Nat.beq n 4 then some (fun σ kx=>qjo_.get σ fun x=>qjq_ k k x kx) else none,fun _=>none⟩
def qjs_ (k:Nat):FE:=⟨(.pr (.sl 73 (.st (.pr (.int .i64) (.pr .str .str)))) (.sl 73 (.st (.pr (.int .i64) (.pr .str .str))))),1,.bool,fun x=>z77_ k x.1 x.2⟩
theorem qjt_ (k:Nat):zc_ (z3_ ti [(24,qjm_)] (lk []) z4_ z5_) (qjr_ k) (rdC (z3_ ti [(24,qjm_)] (lk []) z4_ z5_) [.tmp 4] .bool) ((zb_ (z2_ Tryz.f8)).getD 0 .skip) (fun σ kx=>qjo_.get σ fun x=>qjq_ k k x kx):=by
 refine ⟨qjo_,[(0,qjp_)],fun n x kx=>qjq_ k n x kx,k,by kernel_rfl,by kernel_rfl,fun x kx=>by kernel_rfl,?_,fun σ kx=>rfl⟩
 rintro n ⟨⟨a0,b1,i5,⟨⟩⟩,⟨⟩,⟨⟩⟩ kx
 kernel_rfl
theorem qju_ (k:Nat):FnOK Tryz.prog 8 (qjs_ k):=by
 refine za_ (tab:=[(24,qjm_)]) (l:=[]) z7_ z9_ mix (List.forall_mem_cons.2 ⟨qjn_,(List.forall_mem_nil _)⟩) (List.forall_mem_nil _) ⟨⟨Tryz.f8,(z2_ Tryz.f8),[.tmp 4],(qjr_ k),by kernel_rfl,by kernel_rfl,by kernel_rfl,by kernel_rfl,rfl,by decide,⟨by kernel_rfl,?_,?_⟩,?_⟩⟩
 ·refine zh_ (n:=1) (by kernel_rfl) fun i hi=>?_
  match i,hi with
  | 0,_=>exact zd_ (by kernel_rfl) (qjt_ k)
  | n+1,hi=>omega
 ·exact z8_ (by kernel_rfl)
 ·rintro ⟨a0,b1⟩
  kernel_rfl
def z93_ (k:Nat):Nat→(List Int)→(List Int)→Int→(Option Bool)→Option Bool
 | 0,_,_,_,_=>none
 | n+1,a0,b1,i5,e_0=>(if (decide (i5<(List.length a0:Int)))=true then (if 0≤i5 then (a0[i5.toNat]?).bind fun y_1=>(if 0≤i5 then (b1[i5.toNat]?).bind fun y_2=>(if (!(decide (y_1=y_2)))=true then some false else z93_ k n a0 b1 (z0_ (i5+1)) e_0) else none) else none) else e_0)
def z43_ (k:Nat) (a0:List Int) (b1:List Int):Option Bool:=(if (!(decide ((List.length a0:Int)=(List.length b1:Int))))=true then some false else z93_ k k a0 b1 0 (some true))
def qjv_:Head:=⟨[(0,(.val (.sl 2 (.int .i64)))),(1,(.val (.sl 2 (.int .i64)))),(5,(.val (.int .i64)))],[],[]⟩
def qjw_:Head:=⟨[],[],[]⟩
def qjx_ (k n:Nat) (x:qjv_.T) (kx:Nat→St→Option Bool):Option Bool:=z93_ k n x.1.1 x.1.2.1 x.1.2.2.1 (kx 0 (qjw_.fill ((),(),())))
def qjy_ (k:Nat):Oracles Bool:=⟨fun n=>bif Nat.beq n 4 then some (fun σ kx=>qjv_.get σ fun x=>qjx_ k k x kx) else none,fun _=>none⟩
def qjz_ (k:Nat):FE:=⟨(.pr (.sl 2 (.int .i64)) (.sl 2 (.int .i64))),1,.bool,fun x=>z43_ k x.1 x.2⟩
theorem qk0_ (k:Nat):zc_ (z3_ ti [] (lk []) z4_ z5_) (qjy_ k) (rdC (z3_ ti [] (lk []) z4_ z5_) [.tmp 4] .bool) ((zb_ (z2_ Tryz.f26)).getD 0 .skip) (fun σ kx=>qjv_.get σ fun x=>qjx_ k k x kx):=by
 refine ⟨qjv_,[(0,qjw_)],fun n x kx=>qjx_ k n x kx,k,by kernel_rfl,by kernel_rfl,fun x kx=>by kernel_rfl,?_,fun σ kx=>rfl⟩
 rintro n ⟨⟨a0,b1,i5,⟨⟩⟩,⟨⟩,⟨⟩⟩ kx
 kernel_rfl
theorem qk1_ (k:Nat):FnOK Tryz.prog 26 (qjz_ k):=by
 refine za_ (tab:=[]) (l:=[]) z7_ z9_ mix (List.forall_mem_nil _) (List.forall_mem_nil _) ⟨⟨Tryz.f26,(z2_ Tryz.f26),[.tmp 4],(qjy_ k),by kernel_rfl,by kernel_rfl,by kernel_rfl,by kernel_rfl,rfl,by decide,⟨by kernel_rfl,?_,?_⟩,?_⟩⟩
 ·refine zh_ (n:=1) (by kernel_rfl) fun i hi=>?_
  match i,hi with
  | 0,_=>exact zd_ (by kernel_rfl) (qk0_ k)
  | n+1,hi=>omega
 ·exact z8_ (by kernel_rfl)
 ·rintro ⟨a0,b1⟩
  kernel_rfl
def z94_ (k:Nat):Nat→zT4→zT4→Int→(Option Bool)→Option Bool
 | 0,_,_,_,_=>none
 | n+1,a0,b1,i5,e_0=>(if (decide (i5<(List.length a0:Int)))=true then (if 0≤i5 then (a0[i5.toNat]?).bind fun y_1=>(if 0≤i5 then (b1[i5.toNat]?).bind fun y_2=>(z43_ k y_1 y_2).bind fun r_3=>(if (!r_3)=true then some false else z94_ k n a0 b1 (z0_ (i5+1)) e_0) else none) else none) else e_0)
def zej_ (k:Nat) (a0:List (List Int)) (b1:List (List Int)):Option Bool:=(if (!(decide ((List.length a0:Int)=(List.length b1:Int))))=true then some false else z94_ k k a0 b1 0 (some true))
def qk2_:Head:=⟨[(0,(.val (.sl 25 (.sl 2 (.int .i64))))),(1,(.val (.sl 25 (.sl 2 (.int .i64))))),(5,(.val (.int .i64)))],[],[]⟩
def qk3_:Head:=⟨[],[],[]⟩
def qk4_ (k n:Nat) (x:qk2_.T) (kx:Nat→St→Option Bool):Option Bool:=z94_ k n x.1.1 x.1.2.1 x.1.2.2.1 (kx 0 (qk3_.fill ((),(),())))
def qk5_ (k:Nat):Oracles Bool:=⟨fun n=>bif Nat.beq n 4 then some (fun σ kx=>qk2_.get σ fun x=>qk4_ k k x kx) else none,fun _=>none⟩
def qk6_ (k:Nat):FE:=⟨(.pr (.sl 25 (.sl 2 (.int .i64))) (.sl 25 (.sl 2 (.int .i64)))),1,.bool,fun x=>zej_ k x.1 x.2⟩
theorem qk7_ (k:Nat):zc_ (z3_ ti [(26,qjz_ k)] (lk []) z4_ z5_) (qk5_ k) (rdC (z3_ ti [(26,qjz_ k)] (lk []) z4_ z5_) [.tmp 4] .bool) ((zb_ (z2_ Tryz.f98)).getD 0 .skip) (fun σ kx=>qk2_.get σ fun x=>qk4_ k k x kx):=by
 refine ⟨qk2_,[(0,qk3_)],fun n x kx=>qk4_ k n x kx,k,by kernel_rfl,by kernel_rfl,fun x kx=>by kernel_rfl,?_,fun σ kx=>rfl⟩
 rintro n ⟨⟨a0,b1,i5,⟨⟩⟩,⟨⟩,⟨⟩⟩ kx
 kernel_rfl
theorem qk8_ (k:Nat):FnOK Tryz.prog 98 (qk6_ k):=by
 refine za_ (tab:=[(26,qjz_ k)]) (l:=[]) z7_ z9_ mix (List.forall_mem_cons.2 ⟨qk1_ k,(List.forall_mem_nil _)⟩) (List.forall_mem_nil _) ⟨⟨Tryz.f98,(z2_ Tryz.f98),[.tmp 4],(qk5_ k),by kernel_rfl,by kernel_rfl,by kernel_rfl,by kernel_rfl,rfl,by decide,⟨by kernel_rfl,?_,?_⟩,?_⟩⟩
 ·refine zh_ (n:=1) (by kernel_rfl) fun i hi=>?_
  match i,hi with
  | 0,_=>exact zd_ (by kernel_rfl) (qk7_ k)
  | n+1,hi=>omega
 ·exact z8_ (by kernel_rfl)
 ·rintro ⟨a0,b1⟩
  kernel_rfl
def zek_ (k:Nat) (a0:List (List Int)) (b1:List (List Int)):Option Bool:=(zej_ k a0 b1).bind fun r_1=>(if (!r_1)=true then some false else some true)
def qk9_ (k:Nat):FE:=⟨(.pr (.st (.sl 25 (.sl 2 (.int .i64)))) (.st (.sl 25 (.sl 2 (.int .i64))))),1,.bool,fun x=>zek_ k x.1 x.2⟩
theorem qka_ (k:Nat):FnOK Tryz.prog 53 (qk9_ k):=by
 refine za_ (tab:=[(98,qk6_ k)]) (l:=[]) z7_ z9_ mix (List.forall_mem_cons.2 ⟨qk8_ k,(List.forall_mem_nil _)⟩) (List.forall_mem_nil _) ⟨⟨Tryz.f53,(z2_ Tryz.f53),[.tmp 4],(LOn Bool),by kernel_rfl,by kernel_rfl,by kernel_rfl,by kernel_rfl,rfl,by decide,⟨by kernel_rfl,?_,?_⟩,?_⟩⟩
 ·exact ze_ (by kernel_rfl)
 ·exact z8_ (by kernel_rfl)
 ·rintro ⟨a0,b1⟩
  kernel_rfl
def zel_ (k:Nat) (a0:Int×Int×Int×List Int) (b1:Int×Int×Int×List Int):Option Bool:=(if (!(decide (a0.1=b1.1)))=true then some false else (if (!(decide (a0.2.1=b1.2.1)))=true then some false else (if (!(decide (a0.2.2.1=b1.2.2.1)))=true then some false else (z43_ k a0.2.2.2 b1.2.2.2).bind fun r_1=>(if (!r_1)=true then some false else some true))))
def qkb_ (k:Nat):FE:=⟨(.pr (.st (.pr (.int .i64) (.pr (.int .i64) (.pr (.int .i64) (.sl 2 (.int .i64)))))) (.st (.pr (.int .i64) (.pr (.int .i64) (.pr (.int .i64) (.sl 2 (.int .i64))))))),1,.bool,fun x=>zel_ k x.1 x.2⟩
theorem qkc_ (k:Nat):FnOK Tryz.prog 99 (qkb_ k):=by
 refine za_ (tab:=[(26,qjz_ k)]) (l:=[]) z7_ z9_ mix (List.forall_mem_cons.2 ⟨qk1_ k,(List.forall_mem_nil _)⟩) (List.forall_mem_nil _) ⟨⟨Tryz.f99,(z2_ Tryz.f99),[.tmp 4],(LOn Bool),by kernel_rfl,by kernel_rfl,by kernel_rfl,by kernel_rfl,rfl,by decide,⟨by kernel_rfl,?_,?_⟩,?_⟩⟩
 ·exact ze_ (by kernel_rfl)
 ·exact z8_ (by kernel_rfl)
 ·rintro ⟨a0,b1⟩
  kernel_rfl
def z95_ (k:Nat):Nat→zT3→zT3→Int→(Option Bool)→Option Bool
 | 0,_,_,_,_=>none
 | n+1,a0,b1,i5,e_0=>(if (decide (i5<(List.length a0:Int)))=true then (if 0≤i5 then (a0[i5.toNat]?).bind fun y_1=>(if 0≤i5 then (b1[i5.toNat]?).bind fun y_2=>(zel_ k y_1 y_2).bind fun r_3=>(if (!r_3)=true then some false else z95_ k n a0 b1 (z0_ (i5+1)) e_0) else none) else none) else e_0)
def zem_ (k:Nat) (a0:List (Int×Int×Int×List Int)) (b1:List (Int×Int×Int×List Int)):Option Bool:=(if (!(decide ((List.length a0:Int)=(List.length b1:Int))))=true then some false else z95_ k k a0 b1 0 (some true))
def qkd_:Head:=⟨[(0,(.val (.sl 137 (.st (.pr (.int .i64) (.pr (.int .i64) (.pr (.int .i64) (.sl 2 (.int .i64))))))))),(1,(.val (.sl 137 (.st (.pr (.int .i64) (.pr (.int .i64) (.pr (.int .i64) (.sl 2 (.int .i64))))))))),(5,(.val (.int .i64)))],[],[]⟩
def qke_:Head:=⟨[],[],[]⟩
def qkf_ (k n:Nat) (x:qkd_.T) (kx:Nat→St→Option Bool):Option Bool:=z95_ k n x.1.1 x.1.2.1 x.1.2.2.1 (kx 0 (qke_.fill ((),(),())))
def qkg_ (k:Nat):Oracles Bool:=⟨fun n=>bif Nat.beq n 4 then some (fun σ kx=>qkd_.get σ fun x=>qkf_ k k x kx) else none,fun _=>none⟩
def qkh_ (k:Nat):FE:=⟨(.pr (.sl 137 (.st (.pr (.int .i64) (.pr (.int .i64) (.pr (.int .i64) (.sl 2 (.int .i64))))))) (.sl 137 (.st (.pr (.int .i64) (.pr (.int .i64) (.pr (.int .i64) (.sl 2 (.int .i64)))))))),1,.bool,fun x=>zem_ k x.1 x.2⟩
theorem qki_ (k:Nat):zc_ (z3_ ti [(99,qkb_ k)] (lk []) z4_ z5_) (qkg_ k) (rdC (z3_ ti [(99,qkb_ k)] (lk []) z4_ z5_) [.tmp 4] .bool) ((zb_ (z2_ Tryz.f54)).getD 0 .skip) (fun σ kx=>qkd_.get σ fun x=>qkf_ k k x kx):=by
 refine ⟨qkd_,[(0,qke_)],fun n x kx=>qkf_ k n x kx,k,by kernel_rfl,by kernel_rfl,fun x kx=>by kernel_rfl,?_,fun σ kx=>rfl⟩
 rintro n ⟨⟨a0,b1,i5,⟨⟩⟩,⟨⟩,⟨⟩⟩ kx
 kernel_rfl
theorem qkj_ (k:Nat):FnOK Tryz.prog 54 (qkh_ k):=by
 refine za_ (tab:=[(99,qkb_ k)]) (l:=[]) z7_ z9_ mix (List.forall_mem_cons.2 ⟨qkc_ k,(List.forall_mem_nil _)⟩) (List.forall_mem_nil _) ⟨⟨Tryz.f54,(z2_ Tryz.f54),[.tmp 4],(qkg_ k),by kernel_rfl,by kernel_rfl,by kernel_rfl,by kernel_rfl,rfl,by decide,⟨by kernel_rfl,?_,?_⟩,?_⟩⟩
 ·refine zh_ (n:=1) (by kernel_rfl) fun i hi=>?_
  match i,hi with
  | 0,_=>exact zd_ (by kernel_rfl) (qki_ k)
  | n+1,hi=>omega
 ·exact z8_ (by kernel_rfl)
 ·rintro ⟨a0,b1⟩
  kernel_rfl
def zen_ (k:Nat) (a0:List (List Int)×Int×List Int×List (Int×Int×Int×List Int)) (b1:List (List Int)×Int×List Int×List (Int×Int×Int×List Int)):Option Bool:=(zek_ k a0.1 b1.1).bind fun r_1=>(if (!r_1)=true then some false else (if (!(decide (a0.2.1=b1.2.1)))=true then some false else (z43_ k a0.2.2.1 b1.2.2.1).bind fun r_2=>(if (!r_2)=true then some false else (zem_ k a0.2.2.2 b1.2.2.2).bind fun r_3=>(if (!r_3)=true then some false else some true))))
def qkk_ (k:Nat):FE:=⟨(.pr (.st (.pr (.st (.sl 25 (.sl 2 (.int .i64)))) (.pr (.int .i64) (.pr (.sl 2 (.int .i64)) (.sl 137 (.st (.pr (.int .i64) (.pr (.int .i64) (.pr (.int .i64) (.sl 2 (.int .i64))))))))))) (.st (.pr (.st (.sl 25 (.sl 2 (.int .i64)))) (.pr (.int .i64) (.pr (.sl 2 (.int .i64)) (.sl 137 (.st (.pr (.int .i64) (.pr (.int .i64) (.pr (.int .i64) (.sl 2 (.int .i64)))))))))))),1,.bool,fun x=>zen_ k x.1 x.2⟩
theorem qkl_ (k:Nat):FnOK Tryz.prog 25 (qkk_ k):=by
 refine za_ (tab:=[(53,qk9_ k),(26,qjz_ k),(54,qkh_ k)]) (l:=[]) z7_ z9_ mix (List.forall_mem_cons.2 ⟨qka_ k,(List.forall_mem_cons.2 ⟨qk1_ k,(List.forall_mem_cons.2 ⟨qkj_ k,(List.forall_mem_nil _)⟩)⟩)⟩) (List.forall_mem_nil _) ⟨⟨Tryz.f25,(z2_ Tryz.f25),[.tmp 4],(LOn Bool),by kernel_rfl,by kernel_rfl,by kernel_rfl,by kernel_rfl,rfl,by decide,⟨by kernel_rfl,?_,?_⟩,?_⟩⟩
 ·exact ze_ (by kernel_rfl)
 ·exact z8_ (by kernel_rfl)
 ·rintro ⟨a0,b1⟩
  kernel_rfl
def zeo_ (a0:Int×Int×Int) (b1:Int×Int×Int):Option Bool:=(if (!(decide (a0.1=b1.1)))=true then some false else (if (!(decide (a0.2.1=b1.2.1)))=true then some false else (if (!(decide (a0.2.2=b1.2.2)))=true then some false else some true)))
def qkm_:FE:=⟨(.pr (.st (.pr (.int .i64) (.pr (.int .i64) (.int .i64)))) (.st (.pr (.int .i64) (.pr (.int .i64) (.int .i64))))),1,.bool,fun x=>zeo_ x.1 x.2⟩
theorem qkn_:FnOK Tryz.prog 100 (qkm_):=by
 refine za_ (tab:=[]) (l:=[]) z7_ z9_ mix (List.forall_mem_nil _) (List.forall_mem_nil _) ⟨⟨Tryz.f100,(z2_ Tryz.f100),[.tmp 4],(LOn Bool),by kernel_rfl,by kernel_rfl,by kernel_rfl,by kernel_rfl,rfl,by decide,⟨by kernel_rfl,?_,?_⟩,?_⟩⟩
 ·exact ze_ (by kernel_rfl)
 ·exact z8_ (by kernel_rfl)
 ·rintro ⟨a0,b1⟩
  kernel_rfl
def z96_ (k:Nat):Nat→zT2→zT2→Int→(Option Bool)→Option Bool
 | 0,_,_,_,_=>none
 | n+1,a0,b1,i5,e_0=>(if (decide (i5<(List.length a0:Int)))=true then (if 0≤i5 then (a0[i5.toNat]?).bind fun y_1=>(if 0≤i5 then (b1[i5.toNat]?).bind fun y_2=>(zeo_ y_1 y_2).bind fun r_3=>(if (!r_3)=true then some false else z96_ k n a0 b1 (z0_ (i5+1)) e_0) else none) else none) else e_0)
def zep_ (k:Nat) (a0:List (Int×Int×Int)) (b1:List (Int×Int×Int)):Option Bool:=(if (!(decide ((List.length a0:Int)=(List.length b1:Int))))=true then some false else z96_ k k a0 b1 0 (some true))
def qko_:Head:=⟨[(0,(.val (.sl 140 (.st (.pr (.int .i64) (.pr (.int .i64) (.int .i64))))))),(1,(.val (.sl 140 (.st (.pr (.int .i64) (.pr (.int .i64) (.int .i64))))))),(5,(.val (.int .i64)))],[],[]⟩
def qkp_:Head:=⟨[],[],[]⟩
def qkq_ (k n:Nat) (x:qko_.T) (kx:Nat→St→Option Bool):Option Bool:=z96_ k n x.1.1 x.1.2.1 x.1.2.2.1 (kx 0 (qkp_.fill ((),(),())))
def qkr_ (k:Nat):Oracles Bool:=⟨fun n=>bif Nat.beq n 4 then some (fun σ kx=>qko_.get σ fun x=>qkq_ k k x kx) else none,fun _=>none⟩
def qks_ (k:Nat):FE:=⟨(.pr (.sl 140 (.st (.pr (.int .i64) (.pr (.int .i64) (.int .i64))))) (.sl 140 (.st (.pr (.int .i64) (.pr (.int .i64) (.int .i64)))))),1,.bool,fun x=>zep_ k x.1 x.2⟩
theorem qkt_ (k:Nat):zc_ (z3_ ti [(100,qkm_)] (lk []) z4_ z5_) (qkr_ k) (rdC (z3_ ti [(100,qkm_)] (lk []) z4_ z5_) [.tmp 4] .bool) ((zb_ (z2_ Tryz.f55)).getD 0 .skip) (fun σ kx=>qko_.get σ fun x=>qkq_ k k x kx):=by
 refine ⟨qko_,[(0,qkp_)],fun n x kx=>qkq_ k n x kx,k,by kernel_rfl,by kernel_rfl,fun x kx=>by kernel_rfl,?_,fun σ kx=>rfl⟩
 rintro n ⟨⟨a0,b1,i5,⟨⟩⟩,⟨⟩,⟨⟩⟩ kx
 kernel_rfl
theorem qku_ (k:Nat):FnOK Tryz.prog 55 (qks_ k):=by
 refine za_ (tab:=[(100,qkm_)]) (l:=[]) z7_ z9_ mix (List.forall_mem_cons.2 ⟨qkn_,(List.forall_mem_nil _)⟩) (List.forall_mem_nil _) ⟨⟨Tryz.f55,(z2_ Tryz.f55),[.tmp 4],(qkr_ k),by kernel_rfl,by kernel_rfl,by kernel_rfl,by kernel_rfl,rfl,by decide,⟨by kernel_rfl,?_,?_⟩,?_⟩⟩
 ·refine zh_ (n:=1) (by kernel_rfl) fun i hi=>?_
  match i,hi with
  | 0,_=>exact zd_ (by kernel_rfl) (qkt_ k)
  | n+1,hi=>omega
 ·exact z8_ (by kernel_rfl)
 ·rintro ⟨a0,b1⟩
  kernel_rfl
def zeq_ (k:Nat) (a0:Int×Int×Int×List (Int×Int×Int)) (b1:Int×Int×Int×List (Int×Int×Int)):Option Bool:=(if (!(decide (a0.1=b1.1)))=true then some false else (if (!(decide (a0.2.1=b1.2.1)))=true then some false else (if (!(decide (a0.2.2.1=b1.2.2.1)))=true then some false else (zep_ k a0.2.2.2 b1.2.2.2).bind fun r_1=>(if (!r_1)=true then some false else some true))))
def qkv_ (k:Nat):FE:=⟨(.pr (.st (.pr (.int .i64) (.pr (.int .i64) (.pr (.int .i64) (.sl 140 (.st (.pr (.int .i64) (.pr (.int .i64) (.int .i64))))))))) (.st (.pr (.int .i64) (.pr (.int .i64) (.pr (.int .i64) (.sl 140 (.st (.pr (.int .i64) (.pr (.int .i64) (.int .i64)))))))))),1,.bool,fun x=>zeq_ k x.1 x.2⟩
theorem qkw_ (k:Nat):FnOK Tryz.prog 27 (qkv_ k):=by
 refine za_ (tab:=[(55,qks_ k)]) (l:=[]) z7_ z9_ mix (List.forall_mem_cons.2 ⟨qku_ k,(List.forall_mem_nil _)⟩) (List.forall_mem_nil _) ⟨⟨Tryz.f27,(z2_ Tryz.f27),[.tmp 4],(LOn Bool),by kernel_rfl,by kernel_rfl,by kernel_rfl,by kernel_rfl,rfl,by decide,⟨by kernel_rfl,?_,?_⟩,?_⟩⟩
 ·exact ze_ (by kernel_rfl)
 ·exact z8_ (by kernel_rfl)
 ·rintro ⟨a0,b1⟩
  kernel_rfl
end
end Go.Proofs.YthbodbmcalfmaaaGreatDoor.Ev
