/- Functions of the program, as plain ones. No conditions. -/
import Derived.Test.YtbfbojmkmjhdcaaGreatDoorG10
import Derived.KernelRfl
set_option linter.unusedVariables false
set_option maxRecDepth 100000
namespace Go.Proofs.YtbfbojmkmjhdcaaGreatDoor.Ev
open Go.RowKit
noncomputable section
def z8t_ (k:Nat):Nat→(List Int)→Int→Int→(List (List UInt8))→((List (List UInt8))→Option (List UInt8))→Option (List UInt8)
 | 0,_,_,_,_,_=>none
 | n+1,x16,x17,x18,q_2,e_0=>(if (decide (x18<x17))=true then (if 0≤x18 then (x16[x18.toNat]?).bind fun y_3=>(zea_ y_3).bind fun r_4=>(if (q_2.length+[r_4].length)*16≤LIM then z8t_ k n x16 x17 (z0_ (x18+1)) (q_2++[r_4]) e_0 else none) else none) else e_0 q_2)
def zeb_ (k:Nat) (list0:List Int):Option (List UInt8):=(if (decide (64<(List.length list0:Int)))=true then some [] else (ze9_ k list0 ()).bind fun r_1=>(if r_1=true then some [] else (if (decide ((List.length list0:Int)=0))=true then some [45] else z8t_ k k list0 (List.length list0:Int) 0 [] (fun q_5=>(zi5_ [44] q_5).bind fun y_6=>some y_6.1.1))))
def qix_:Head:=⟨[(3,(.ref 64000000 [])),(16,(.val (.sl 2 (.int .i64)))),(17,(.val (.int .i64))),(18,(.val (.int .i64)))],[(64000000,9,.str,false)],[]⟩
def qiy_:Head:=⟨[(3,(.ref 64000000 []))],[(64000000,9,.str,false)],[]⟩
def qiz_ (k n:Nat) (x:qix_.T) (kx:Nat→St→Option (List UInt8)):Option (List UInt8):=z8t_ k n x.1.2.1 x.1.2.2.1 x.1.2.2.2.1 x.2.1.1 (fun (q_5:List (List UInt8))=>kx 0 (qiy_.fill (((),()),(q_5,()),())))
def qj0_ (k:Nat):Oracles (List UInt8):=⟨fun n=>bif Nat.beq n 7 then some (fun σ kx=>qix_.get σ fun x=>qiz_ k k x kx) else none,fun _=>none⟩
def qj1_ (k:Nat):FE:=⟨(.sl 2 (.int .i64)),1,.str,fun x=>zeb_ k x⟩
theorem qj2_ (k:Nat):zc_ (z3_ ti [(90,qip_ k),(93,qit_)] (lk [(29,94,qiv_)]) z4_ z5_) (qj0_ k) (rdC (z3_ ti [(90,qip_ k),(93,qit_)] (lk [(29,94,qiv_)]) z4_ z5_) [.tmp 2] .str) ((zb_ (z2_ Tryz.f49)).getD 0 .skip) (fun σ kx=>qix_.get σ fun x=>qiz_ k k x kx):=by
 refine ⟨qix_,[(0,qiy_)],fun n x kx=>qiz_ k n x kx,k,by kernel_rfl,by kernel_rfl,fun x kx=>by kernel_rfl,?_,fun σ kx=>rfl⟩
 rintro n ⟨⟨⟨⟩,x16,x17,x18,⟨⟩⟩,⟨q_2,⟨⟩⟩,⟨⟩⟩ kx
 kernel_rfl
theorem qj3_ (k:Nat):FnOK Tryz.prog 49 (qj1_ k):=by
 refine za_ (tab:=[(90,qip_ k),(93,qit_)]) (l:=[(29,94,qiv_)]) z7_ z9_ mix (List.forall_mem_cons.2 ⟨qiq_ k,(List.forall_mem_cons.2 ⟨qiu_,(List.forall_mem_nil _)⟩)⟩) (List.forall_mem_cons.2 ⟨qiw_,(List.forall_mem_nil _)⟩) ⟨⟨Tryz.f49,(z2_ Tryz.f49),[.tmp 2],(qj0_ k),by kernel_rfl,by kernel_rfl,by kernel_rfl,by kernel_rfl,rfl,by decide,⟨by kernel_rfl,?_,?_⟩,?_⟩⟩
 ·refine zh_ (n:=1) (by kernel_rfl) fun i hi=>?_
  match i,hi with
  | 0,_=>exact zd_ (by kernel_rfl) (qj2_ k)
  | n+1,hi=>omega
 ·exact z8_ (by kernel_rfl)
 ·rintro list0
  kernel_rfl
def z8u_ (k:Nat):Nat→Int→Int→zT1→(List Int)→(zT0×Int×List Int×List Int×(Int×Int×Int×List (Int×Int×Int))×List Int×List Int×(Int×Int×List (Int×Int×Int))×List Int)→(zT1→Option zT1)→Option zT1
 | 0,_,_,_,_,_,_=>none
 | n+1,x12,x13,q_2,q_3,v_1,e_0=>(if (decide (x13<x12))=true then (if 0≤x13∧x13.toNat<List.length q_3 then (q_3[x13.toNat]?).bind fun y_4=>(if 0≤y_4 then (v_1.2.2.2.2.2.2.2.1.2.2[y_4.toNat]?).bind fun y_5=>(zeb_ k [y_5.1,y_5.2.1]).bind fun r_6=>(if (q_2.length+[(5,(r_6,[115,104,105,102,116]))].length)*40≤LIM then z8u_ k n x12 (z0_ (x13+1)) (q_2++[(5,(r_6,[115,104,105,102,116]))]) q_3 v_1 e_0 else none) else none) else none) else e_0 q_2)
def zec_ (k:Nat) (w0:zT0×Int×List Int×List Int×(Int×Int×Int×List (Int×Int×Int))×List Int×List Int×(Int×Int×List (Int×Int×Int))×List Int):Option zT1:=(ze8_ k w0.2.2.2.2.2.2.2.1 w0.2.2.2.2.2.2.2.2).bind fun r_1=>z8u_ k k (List.length r_1:Int) 0 [] r_1 w0 (fun q_7=>some q_7)
def qj4_:Head:=⟨[(1,(.bp 1 [] 0)),(3,(.ref 64000000 [])),(11,(.ref 64000001 [])),(12,(.val (.int .i64))),(13,(.val (.int .i64)))],[(64000000,73,(.st (.pr (.int .i64) (.pr .str .str))),false),(64000001,2,(.int .i64),false)],[(1,52,(.val (.st (.pr (.st (.pr (.st (.sl 25 (.sl 2 (.int .i64)))) (.pr (.int .i64) (.pr (.sl 2 (.int .i64)) (.sl 135 (.st (.pr (.int .i64) (.pr (.int .i64) (.pr (.int .i64) (.sl 2 (.int .i64))))))))))) (.pr (.int .i64) (.pr (.sl 2 (.int .i64)) (.pr (.sl 2 (.int .i64)) (.pr (.st (.pr (.int .i64) (.pr (.int .i64) (.pr (.int .i64) (.sl 138 (.st (.pr (.int .i64) (.pr (.int .i64) (.int .i64))))))))) (.pr (.sl 2 (.int .i64)) (.pr (.sl 2 (.int .i64)) (.pr (.st (.pr (.int .i64) (.pr (.int .i64) (.sl 96 (.st (.pr (.int .i64) (.pr (.int .i64) (.int .i64)))))))) (.sl 2 (.int .i64)))))))))))))]⟩
def qj5_:Head:=⟨[(3,(.ref 64000000 []))],[(64000000,73,(.st (.pr (.int .i64) (.pr .str .str))),false)],[]⟩
def qj6_ (k n:Nat) (x:qj4_.T) (kx:Nat→St→Option zT1):Option zT1:=z8u_ k n x.1.2.2.2.1 x.1.2.2.2.2.1 x.2.1.1 x.2.1.2.1 x.2.2.1 (fun (q_7:List (Int×List UInt8×List UInt8))=>kx 0 (qj5_.fill (((),()),(q_7,()),())))
def qj7_ (k:Nat):Oracles zT1:=⟨fun n=>bif Nat.beq n 3 then some (fun σ kx=>qj4_.get σ fun x=>qj6_ k k x kx) else none,fun _=>none⟩
def qj8_ (k:Nat):FE:=⟨(.st (.pr (.st (.pr (.st (.sl 25 (.sl 2 (.int .i64)))) (.pr (.int .i64) (.pr (.sl 2 (.int .i64)) (.sl 135 (.st (.pr (.int .i64) (.pr (.int .i64) (.pr (.int .i64) (.sl 2 (.int .i64))))))))))) (.pr (.int .i64) (.pr (.sl 2 (.int .i64)) (.pr (.sl 2 (.int .i64)) (.pr (.st (.pr (.int .i64) (.pr (.int .i64) (.pr (.int .i64) (.sl 138 (.st (.pr (.int .i64) (.pr (.int .i64) (.int .i64))))))))) (.pr (.sl 2 (.int .i64)) (.pr (.sl 2 (.int .i64)) (.pr (.st (.pr (.int .i64) (.pr (.int .i64) (.sl 96 (.st (.pr (.int .i64) (.pr (.int .i64) (.int .i64)))))))) (.sl 2 (.int .i64))))))))))),1,(.sl 73 (.st (.pr (.int .i64) (.pr .str .str)))),fun x=>zec_ k x⟩
theorem qj9_ (k:Nat):zc_ (z3_ ti [(48,qib_ k),(49,qj1_ k)] (lk []) z4_ z5_) (qj7_ k) (rdC (z3_ ti [(48,qib_ k),(49,qj1_ k)] (lk []) z4_ z5_) [.tmp 2] (.sl 73 (.st (.pr (.int .i64) (.pr .str .str))))) ((zb_ (z2_ Tryz.f23)).getD 0 .skip) (fun σ kx=>qj4_.get σ fun x=>qj6_ k k x kx):=by
 refine ⟨qj4_,[(0,qj5_)],fun n x kx=>qj6_ k n x kx,k,by kernel_rfl,by kernel_rfl,fun x kx=>by kernel_rfl,?_,fun σ kx=>rfl⟩
 rintro n ⟨⟨⟨⟩,⟨⟩,⟨⟩,x12,x13,⟨⟩⟩,⟨q_2,q_3,⟨⟩⟩,⟨v_1,⟨⟩⟩⟩ kx
 kernel_rfl
theorem qja_ (k:Nat):FnOK Tryz.prog 23 (qj8_ k):=by
 refine za_ (tab:=[(48,qib_ k),(49,qj1_ k)]) (l:=[]) z7_ z9_ mix (List.forall_mem_cons.2 ⟨qid_ k,(List.forall_mem_cons.2 ⟨qj3_ k,(List.forall_mem_nil _)⟩)⟩) (List.forall_mem_nil _) ⟨⟨Tryz.f23,(z2_ Tryz.f23),[.tmp 2],(qj7_ k),by kernel_rfl,by kernel_rfl,by kernel_rfl,by kernel_rfl,rfl,by decide,⟨by kernel_rfl,?_,?_⟩,?_⟩⟩
 ·refine zh_ (n:=1) (by kernel_rfl) fun i hi=>?_
  match i,hi with
  | 0,_=>exact zd_ (by kernel_rfl) (qj9_ k)
  | n+1,hi=>omega
 ·exact z8_ (by kernel_rfl)
 ·rintro w0
  kernel_rfl
def zed_ (k:Nat):Nat→(List Nat)→Int→Int→zT1→(zT0×Int×List Int×List Int×(Int×Int×Int×List (Int×Int×Int))×List Int×List Int×(Int×Int×List (Int×Int×Int))×List Int)→(zT1→Option (zT1×Int))→Option (zT1×Int)
 | 0,_,_,_,_,_,_=>none
 | n+1,x12,x13,x14,q_2,v_2,e_0=>(if (decide (x14<x13))=true then (if 0≤x14 then (x12[x14.toNat]?).bind fun y_3=>(if y_3=23 then (zec_ k v_2).bind fun r_4=>(if (q_2.length+r_4.length)*40≤LIM then zed_ k n x12 x13 (z0_ (x14+1)) (q_2++r_4) v_2 e_0 else none) else none) else none) else e_0 q_2)
def zi6_ (k:Nat) (w0:zT0×Int×List Int×List Int×(Int×Int×Int×List (Int×Int×Int))×List Int×List Int×(Int×Int×List (Int×Int×Int))×List Int) (functions1:List Nat):Option (zT1×Int):=(ze7_ k w0).bind fun r_1=>(if (!r_1)=true then some ([],1) else zed_ k k functions1 (List.length functions1:Int) 0 [] w0 (fun q_5=>some (q_5,0)))
def qjb_:Head:=⟨[(2,(.bp 2 [] 0)),(6,(.ref 64000000 [])),(12,(.val (.sl 70 (.fs [23])))),(13,(.val (.int .i64))),(14,(.val (.int .i64)))],[(64000000,73,(.st (.pr (.int .i64) (.pr .str .str))),false)],[(2,52,(.val (.st (.pr (.st (.pr (.st (.sl 25 (.sl 2 (.int .i64)))) (.pr (.int .i64) (.pr (.sl 2 (.int .i64)) (.sl 135 (.st (.pr (.int .i64) (.pr (.int .i64) (.pr (.int .i64) (.sl 2 (.int .i64))))))))))) (.pr (.int .i64) (.pr (.sl 2 (.int .i64)) (.pr (.sl 2 (.int .i64)) (.pr (.st (.pr (.int .i64) (.pr (.int .i64) (.pr (.int .i64) (.sl 138 (.st (.pr (.int .i64) (.pr (.int .i64) (.int .i64))))))))) (.pr (.sl 2 (.int .i64)) (.pr (.sl 2 (.int .i64)) (.pr (.st (.pr (.int .i64) (.pr (.int .i64) (.sl 96 (.st (.pr (.int .i64) (.pr (.int .i64) (.int .i64)))))))) (.sl 2 (.int .i64)))))))))))))]⟩
def qjc_:Head:=⟨[(6,(.ref 64000000 []))],[(64000000,73,(.st (.pr (.int .i64) (.pr .str .str))),false)],[]⟩
def qjd_ (k n:Nat) (x:qjb_.T) (kx:Nat→St→Option (zT1×Int)):Option (zT1×Int):=zed_ k n x.1.2.2.1 x.1.2.2.2.1 x.1.2.2.2.2.1 x.2.1.1 x.2.2.1 (fun (q_5:List (Int×List UInt8×List UInt8))=>kx 0 (qjc_.fill (((),()),(q_5,()),())))
def qje_ (k:Nat):Oracles (zT1×Int):=⟨fun n=>bif Nat.beq n 5 then some (fun σ kx=>qjb_.get σ fun x=>qjd_ k k x kx) else none,fun _=>none⟩
def qjf_ (k:Nat):FE:=⟨(.pr (.st (.pr (.st (.pr (.st (.sl 25 (.sl 2 (.int .i64)))) (.pr (.int .i64) (.pr (.sl 2 (.int .i64)) (.sl 135 (.st (.pr (.int .i64) (.pr (.int .i64) (.pr (.int .i64) (.sl 2 (.int .i64))))))))))) (.pr (.int .i64) (.pr (.sl 2 (.int .i64)) (.pr (.sl 2 (.int .i64)) (.pr (.st (.pr (.int .i64) (.pr (.int .i64) (.pr (.int .i64) (.sl 138 (.st (.pr (.int .i64) (.pr (.int .i64) (.int .i64))))))))) (.pr (.sl 2 (.int .i64)) (.pr (.sl 2 (.int .i64)) (.pr (.st (.pr (.int .i64) (.pr (.int .i64) (.sl 96 (.st (.pr (.int .i64) (.pr (.int .i64) (.int .i64)))))))) (.sl 2 (.int .i64))))))))))) (.sl 70 (.fs [23]))),2,(.pr (.sl 73 (.st (.pr (.int .i64) (.pr .str .str)))) (.int .i64)),fun x=>zi6_ k x.1 x.2⟩
theorem qjg_ (k:Nat):zc_ (z3_ ti [(47,qi5_ k),(23,qj8_ k)] (lk []) z4_ z5_) (qje_ k) (rdC (z3_ ti [(47,qi5_ k),(23,qj8_ k)] (lk []) z4_ z5_) [.tmp 4,.tmp 5] (.pr (.sl 73 (.st (.pr (.int .i64) (.pr .str .str)))) (.int .i64))) ((zb_ (z2_ Tryz.f22)).getD 0 .skip) (fun σ kx=>qjb_.get σ fun x=>qjd_ k k x kx):=by
 refine ⟨qjb_,[(0,qjc_)],fun n x kx=>qjd_ k n x kx,k,by kernel_rfl,by kernel_rfl,fun x kx=>by kernel_rfl,?_,fun σ kx=>rfl⟩
 rintro n ⟨⟨⟨⟩,⟨⟩,x12,x13,x14,⟨⟩⟩,⟨q_2,⟨⟩⟩,⟨v_2,⟨⟩⟩⟩ kx
 kernel_rfl
theorem qjh_ (k:Nat):FnOK Tryz.prog 22 (qjf_ k):=by
 refine za_ (tab:=[(47,qi5_ k),(23,qj8_ k)]) (l:=[]) z7_ z9_ mix (List.forall_mem_cons.2 ⟨qi6_ k,(List.forall_mem_cons.2 ⟨qja_ k,(List.forall_mem_nil _)⟩)⟩) (List.forall_mem_nil _) ⟨⟨Tryz.f22,(z2_ Tryz.f22),[.tmp 4,.tmp 5],(qje_ k),by kernel_rfl,by kernel_rfl,by kernel_rfl,by kernel_rfl,rfl,by decide,⟨by kernel_rfl,?_,?_⟩,?_⟩⟩
 ·refine zh_ (n:=1) (by kernel_rfl) fun i hi=>?_
  match i,hi with
  | 0,_=>exact zd_ (by kernel_rfl) (qjg_ k)
  | n+1,hi=>omega
 ·exact z8_ (by kernel_rfl)
 ·rintro ⟨w0,functions1⟩
  kernel_rfl
def zba_ (k:Nat) (w0:zT0×Int×List Int×List Int×(Int×Int×Int×List (Int×Int×Int))×List Int×List Int×(Int×Int×List (Int×Int×Int))×List Int):Option (zT1×Int):=(zi6_ k w0 [23]).bind fun r_1=>some (r_1.1,r_1.2)
def qji_ (k:Nat):FE:=⟨(.st (.pr (.st (.pr (.st (.sl 25 (.sl 2 (.int .i64)))) (.pr (.int .i64) (.pr (.sl 2 (.int .i64)) (.sl 135 (.st (.pr (.int .i64) (.pr (.int .i64) (.pr (.int .i64) (.sl 2 (.int .i64))))))))))) (.pr (.int .i64) (.pr (.sl 2 (.int .i64)) (.pr (.sl 2 (.int .i64)) (.pr (.st (.pr (.int .i64) (.pr (.int .i64) (.pr (.int .i64) (.sl 138 (.st (.pr (.int .i64) (.pr (.int .i64) (.int .i64))))))))) (.pr (.sl 2 (.int .i64)) (.pr (.sl 2 (.int .i64)) (.pr (.st (.pr (.int .i64) (.pr (.int .i64) (.sl 96 (.st (.pr (.int .i64) (.pr (.int .i64) (.int .i64)))))))) (.sl 2 (.int .i64))))))))))),2,(.pr (.sl 73 (.st (.pr (.int .i64) (.pr .str .str)))) (.int .i64)),fun x=>zba_ k x⟩
theorem qjj_ (k:Nat):FnOK Tryz.prog 7 (qji_ k):=by
 refine za_ (tab:=[(22,qjf_ k)]) (l:=[]) z7_ z9_ mix (List.forall_mem_cons.2 ⟨qjh_ k,(List.forall_mem_nil _)⟩) (List.forall_mem_nil _) ⟨⟨Tryz.f7,(z2_ Tryz.f7),[.tmp 2,.tmp 3],(LOn (zT1×Int)),by kernel_rfl,by kernel_rfl,by kernel_rfl,by kernel_rfl,rfl,by decide,⟨by kernel_rfl,?_,?_⟩,?_⟩⟩
 ·exact ze_ (by kernel_rfl)
 ·exact z8_ (by kernel_rfl)
 ·rintro w0
  kernel_rfl
def zee_ (a0:Int×List UInt8×List UInt8) (b1:Int×List UInt8×List UInt8):Option Bool:=(if (!(decide (a0.1=b1.1)))=true then some false else (if (!(decide (a0.2.1=b1.2.1)))=true then some false else (if (!(decide (a0.2.2=b1.2.2)))=true then some false else some true)))
def qjk_:FE:=⟨(.pr (.st (.pr (.int .i64) (.pr .str .str))) (.st (.pr (.int .i64) (.pr .str .str)))),1,.bool,fun x=>zee_ x.1 x.2⟩
theorem qjl_:FnOK Tryz.prog 24 (qjk_):=by
 refine za_ (tab:=[]) (l:=[]) z7_ z9_ mix (List.forall_mem_nil _) (List.forall_mem_nil _) ⟨⟨Tryz.f24,(z2_ Tryz.f24),[.tmp 4],(LOn Bool),by kernel_rfl,by kernel_rfl,by kernel_rfl,by kernel_rfl,rfl,by decide,⟨by kernel_rfl,?_,?_⟩,?_⟩⟩
 ·exact ze_ (by kernel_rfl)
 ·exact z8_ (by kernel_rfl)
 ·rintro ⟨a0,b1⟩
  kernel_rfl
def z8v_ (k:Nat):Nat→zT1→zT1→Int→(Option Bool)→Option Bool
 | 0,_,_,_,_=>none
 | n+1,a0,b1,i5,e_0=>(if (decide (i5<(List.length a0:Int)))=true then (if 0≤i5 then (a0[i5.toNat]?).bind fun y_1=>(if 0≤i5 then (b1[i5.toNat]?).bind fun y_2=>(zee_ y_1 y_2).bind fun r_3=>(if (!r_3)=true then some false else z8v_ k n a0 b1 (z0_ (i5+1)) e_0) else none) else none) else e_0)
def z6z_ (k:Nat) (a0:List (Int×List UInt8×List UInt8)) (b1:List (Int×List UInt8×List UInt8)):Option Bool:=(if (!(decide ((List.length a0:Int)=(List.length b1:Int))))=true then some false else z8v_ k k a0 b1 0 (some true))
def qjm_:Head:=⟨[(0,(.val (.sl 73 (.st (.pr (.int .i64) (.pr .str .str)))))),(1,(.val (.sl 73 (.st (.pr (.int .i64) (.pr .str .str)))))),(5,(.val (.int .i64)))],[],[]⟩
def qjn_:Head:=⟨[],[],[]⟩
def qjo_ (k n:Nat) (x:qjm_.T) (kx:Nat→St→Option Bool):Option Bool:=z8v_ k n x.1.1 x.1.2.1 x.1.2.2.1 (kx 0 (qjn_.fill ((),(),())))
def qjp_ (k:Nat):Oracles Bool:=⟨fun n=>bif Nat.beq n 4 then some (fun σ kx=>qjm_.get σ fun x=>qjo_ k k x kx) else none,fun _=>none⟩
def qjq_ (k:Nat):FE:=⟨(.pr (.sl 73 (.st (.pr (.int .i64) (.pr .str .str)))) (.sl 73 (.st (.pr (.int .i64) (.pr .str .str))))),1,.bool,fun x=>z6z_ k x.1 x.2⟩
theorem qjr_ (k:Nat):zc_ (z3_ ti [(24,qjk_)] (lk []) z4_ z5_) (qjp_ k) (rdC (z3_ ti [(24,qjk_)] (lk []) z4_ z5_) [.tmp 4] .bool) ((zb_ (z2_ Tryz.f8)).getD 0 .skip) (fun σ kx=>qjm_.get σ fun x=>qjo_ k k x kx):=by
 refine ⟨qjm_,[(0,qjn_)],fun n x kx=>qjo_ k n x kx,k,by kernel_rfl,by kernel_rfl,fun x kx=>by kernel_rfl,?_,fun σ kx=>rfl⟩
 rintro n ⟨⟨a0,b1,i5,⟨⟩⟩,⟨⟩,⟨⟩⟩ kx
 kernel_rfl
theorem qjs_ (k:Nat):FnOK Tryz.prog 8 (qjq_ k):=by
 refine za_ (tab:=[(24,qjk_)]) (l:=[]) z7_ z9_ mix (List.forall_mem_cons.2 ⟨qjl_,(List.forall_mem_nil _)⟩) (List.forall_mem_nil _) ⟨⟨Tryz.f8,(z2_ Tryz.f8),[.tmp 4],(qjp_ k),by kernel_rfl,by kernel_rfl,by kernel_rfl,by kernel_rfl,rfl,by decide,⟨by kernel_rfl,?_,?_⟩,?_⟩⟩
 ·refine zh_ (n:=1) (by kernel_rfl) fun i hi=>?_
  match i,hi with
  | 0,_=>exact zd_ (by kernel_rfl) (qjr_ k)
  | n+1,hi=>omega
 ·exact z8_ (by kernel_rfl)
 ·rintro ⟨a0,b1⟩
  kernel_rfl
def z8w_ (k:Nat):Nat→(List Int)→(List Int)→Int→(Option Bool)→Option Bool
 | 0,_,_,_,_=>none
 | n+1,a0,b1,i5,e_0=>(if (decide (i5<(List.length a0:Int)))=true then (if 0≤i5 then (a0[i5.toNat]?).bind fun y_1=>(if 0≤i5 then (b1[i5.toNat]?).bind fun y_2=>(if (!(decide (y_1=y_2)))=true then some false else z8w_ k n a0 b1 (z0_ (i5+1)) e_0) else none) else none) else e_0)
def z42_ (k:Nat) (a0:List Int) (b1:List Int):Option Bool:=(if (!(decide ((List.length a0:Int)=(List.length b1:Int))))=true then some false else z8w_ k k a0 b1 0 (some true))
def qjt_:Head:=⟨[(0,(.val (.sl 2 (.int .i64)))),(1,(.val (.sl 2 (.int .i64)))),(5,(.val (.int .i64)))],[],[]⟩
def qju_:Head:=⟨[],[],[]⟩
def qjv_ (k n:Nat) (x:qjt_.T) (kx:Nat→St→Option Bool):Option Bool:=z8w_ k n x.1.1 x.1.2.1 x.1.2.2.1 (kx 0 (qju_.fill ((),(),())))
def qjw_ (k:Nat):Oracles Bool:=⟨fun n=>bif Nat.beq n 4 then some (fun σ kx=>qjt_.get σ fun x=>qjv_ k k x kx) else none,fun _=>none⟩
def qjx_ (k:Nat):FE:=⟨(.pr (.sl 2 (.int .i64)) (.sl 2 (.int .i64))),1,.bool,fun x=>z42_ k x.1 x.2⟩
theorem qjy_ (k:Nat):zc_ (z3_ ti [] (lk []) z4_ z5_) (qjw_ k) (rdC (z3_ ti [] (lk []) z4_ z5_) [.tmp 4] .bool) ((zb_ (z2_ Tryz.f26)).getD 0 .skip) (fun σ kx=>qjt_.get σ fun x=>qjv_ k k x kx):=by
 refine ⟨qjt_,[(0,qju_)],fun n x kx=>qjv_ k n x kx,k,by kernel_rfl,by kernel_rfl,fun x kx=>by kernel_rfl,?_,fun σ kx=>rfl⟩
 rintro n ⟨⟨a0,b1,i5,⟨⟩⟩,⟨⟩,⟨⟩⟩ kx
 kernel_rfl
theorem qjz_ (k:Nat):FnOK Tryz.prog 26 (qjx_ k):=by
 refine za_ (tab:=[]) (l:=[]) z7_ z9_ mix (List.forall_mem_nil _) (List.forall_mem_nil _) ⟨⟨Tryz.f26,(z2_ Tryz.f26),[.tmp 4],(qjw_ k),by kernel_rfl,by kernel_rfl,by kernel_rfl,by kernel_rfl,rfl,by decide,⟨by kernel_rfl,?_,?_⟩,?_⟩⟩
 ·refine zh_ (n:=1) (by kernel_rfl) fun i hi=>?_
  match i,hi with
  | 0,_=>exact zd_ (by kernel_rfl) (qjy_ k)
  | n+1,hi=>omega
 ·exact z8_ (by kernel_rfl)
 ·rintro ⟨a0,b1⟩
  kernel_rfl
def z8x_ (k:Nat):Nat→zT4→zT4→Int→(Option Bool)→Option Bool
 | 0,_,_,_,_=>none
 | n+1,a0,b1,i5,e_0=>(if (decide (i5<(List.length a0:Int)))=true then (if 0≤i5 then (a0[i5.toNat]?).bind fun y_1=>(if 0≤i5 then (b1[i5.toNat]?).bind fun y_2=>(z42_ k y_1 y_2).bind fun r_3=>(if (!r_3)=true then some false else z8x_ k n a0 b1 (z0_ (i5+1)) e_0) else none) else none) else e_0)
def zef_ (k:Nat) (a0:List (List Int)) (b1:List (List Int)):Option Bool:=(if (!(decide ((List.length a0:Int)=(List.length b1:Int))))=true then some false else z8x_ k k a0 b1 0 (some true))
def qk0_:Head:=⟨[(0,(.val (.sl 25 (.sl 2 (.int .i64))))),(1,(.val (.sl 25 (.sl 2 (.int .i64))))),(5,(.val (.int .i64)))],[],[]⟩
def qk1_:Head:=⟨[],[],[]⟩
def qk2_ (k n:Nat) (x:qk0_.T) (kx:Nat→St→Option Bool):Option Bool:=z8x_ k n x.1.1 x.1.2.1 x.1.2.2.1 (kx 0 (qk1_.fill ((),(),())))
def qk3_ (k:Nat):Oracles Bool:=⟨fun n=>bif Nat.beq n 4 then some (fun σ kx=>qk0_.get σ fun x=>qk2_ k k x kx) else none,fun _=>none⟩
def qk4_ (k:Nat):FE:=⟨(.pr (.sl 25 (.sl 2 (.int .i64))) (.sl 25 (.sl 2 (.int .i64)))),1,.bool,fun x=>zef_ k x.1 x.2⟩
theorem qk5_ (k:Nat):zc_ (z3_ ti [(26,qjx_ k)] (lk []) z4_ z5_) (qk3_ k) (rdC (z3_ ti [(26,qjx_ k)] (lk []) z4_ z5_) [.tmp 4] .bool) ((zb_ (z2_ Tryz.f95)).getD 0 .skip) (fun σ kx=>qk0_.get σ fun x=>qk2_ k k x kx):=by
 refine ⟨qk0_,[(0,qk1_)],fun n x kx=>qk2_ k n x kx,k,by kernel_rfl,by kernel_rfl,fun x kx=>by kernel_rfl,?_,fun σ kx=>rfl⟩
 rintro n ⟨⟨a0,b1,i5,⟨⟩⟩,⟨⟩,⟨⟩⟩ kx
 kernel_rfl
theorem qk6_ (k:Nat):FnOK Tryz.prog 95 (qk4_ k):=by
 refine za_ (tab:=[(26,qjx_ k)]) (l:=[]) z7_ z9_ mix (List.forall_mem_cons.2 ⟨qjz_ k,(List.forall_mem_nil _)⟩) (List.forall_mem_nil _) ⟨⟨Tryz.f95,(z2_ Tryz.f95),[.tmp 4],(qk3_ k),by kernel_rfl,by kernel_rfl,by kernel_rfl,by kernel_rfl,rfl,by decide,⟨by kernel_rfl,?_,?_⟩,?_⟩⟩
 ·refine zh_ (n:=1) (by kernel_rfl) fun i hi=>?_
  match i,hi with
  | 0,_=>exact zd_ (by kernel_rfl) (qk5_ k)
  | n+1,hi=>omega
 ·exact z8_ (by kernel_rfl)
 ·rintro ⟨a0,b1⟩
  kernel_rfl
def zeg_ (k:Nat) (a0:List (List Int)) (b1:List (List Int)):Option Bool:=(zef_ k a0 b1).bind fun r_1=>(if (!r_1)=true then some false else some true)
def qk7_ (k:Nat):FE:=⟨(.pr (.st (.sl 25 (.sl 2 (.int .i64)))) (.st (.sl 25 (.sl 2 (.int .i64))))),1,.bool,fun x=>zeg_ k x.1 x.2⟩
theorem qk8_ (k:Nat):FnOK Tryz.prog 50 (qk7_ k):=by
 refine za_ (tab:=[(95,qk4_ k)]) (l:=[]) z7_ z9_ mix (List.forall_mem_cons.2 ⟨qk6_ k,(List.forall_mem_nil _)⟩) (List.forall_mem_nil _) ⟨⟨Tryz.f50,(z2_ Tryz.f50),[.tmp 4],(LOn Bool),by kernel_rfl,by kernel_rfl,by kernel_rfl,by kernel_rfl,rfl,by decide,⟨by kernel_rfl,?_,?_⟩,?_⟩⟩
 ·exact ze_ (by kernel_rfl)
 ·exact z8_ (by kernel_rfl)
 ·rintro ⟨a0,b1⟩
  kernel_rfl
def zeh_ (k:Nat) (a0:Int×Int×Int×List Int) (b1:Int×Int×Int×List Int):Option Bool:=(if (!(decide (a0.1=b1.1)))=true then some false else (if (!(decide (a0.2.1=b1.2.1)))=true then some false else (if (!(decide (a0.2.2.1=b1.2.2.1)))=true then some false else (z42_ k a0.2.2.2 b1.2.2.2).bind fun r_1=>(if (!r_1)=true then some false else some true))))
def qk9_ (k:Nat):FE:=⟨(.pr (.st (.pr (.int .i64) (.pr (.int .i64) (.pr (.int .i64) (.sl 2 (.int .i64)))))) (.st (.pr (.int .i64) (.pr (.int .i64) (.pr (.int .i64) (.sl 2 (.int .i64))))))),1,.bool,fun x=>zeh_ k x.1 x.2⟩
theorem qka_ (k:Nat):FnOK Tryz.prog 96 (qk9_ k):=by
 refine za_ (tab:=[(26,qjx_ k)]) (l:=[]) z7_ z9_ mix (List.forall_mem_cons.2 ⟨qjz_ k,(List.forall_mem_nil _)⟩) (List.forall_mem_nil _) ⟨⟨Tryz.f96,(z2_ Tryz.f96),[.tmp 4],(LOn Bool),by kernel_rfl,by kernel_rfl,by kernel_rfl,by kernel_rfl,rfl,by decide,⟨by kernel_rfl,?_,?_⟩,?_⟩⟩
 ·exact ze_ (by kernel_rfl)
 ·exact z8_ (by kernel_rfl)
 ·rintro ⟨a0,b1⟩
  kernel_rfl
def z8y_ (k:Nat):Nat→zT3→zT3→Int→(Option Bool)→Option Bool
 | 0,_,_,_,_=>none
 | n+1,a0,b1,i5,e_0=>(if (decide (i5<(List.length a0:Int)))=true then (if 0≤i5 then (a0[i5.toNat]?).bind fun y_1=>(if 0≤i5 then (b1[i5.toNat]?).bind fun y_2=>(zeh_ k y_1 y_2).bind fun r_3=>(if (!r_3)=true then some false else z8y_ k n a0 b1 (z0_ (i5+1)) e_0) else none) else none) else e_0)
def zei_ (k:Nat) (a0:List (Int×Int×Int×List Int)) (b1:List (Int×Int×Int×List Int)):Option Bool:=(if (!(decide ((List.length a0:Int)=(List.length b1:Int))))=true then some false else z8y_ k k a0 b1 0 (some true))
def qkb_:Head:=⟨[(0,(.val (.sl 135 (.st (.pr (.int .i64) (.pr (.int .i64) (.pr (.int .i64) (.sl 2 (.int .i64))))))))),(1,(.val (.sl 135 (.st (.pr (.int .i64) (.pr (.int .i64) (.pr (.int .i64) (.sl 2 (.int .i64))))))))),(5,(.val (.int .i64)))],[],[]⟩
def qkc_:Head:=⟨[],[],[]⟩
def qkd_ (k n:Nat) (x:qkb_.T) (kx:Nat→St→Option Bool):Option Bool:=z8y_ k n x.1.1 x.1.2.1 x.1.2.2.1 (kx 0 (qkc_.fill ((),(),())))
def qke_ (k:Nat):Oracles Bool:=⟨fun n=>bif Nat.beq n 4 then some (fun σ kx=>qkb_.get σ fun x=>qkd_ k k x kx) else none,fun _=>none⟩
def qkf_ (k:Nat):FE:=⟨(.pr (.sl 135 (.st (.pr (.int .i64) (.pr (.int .i64) (.pr (.int .i64) (.sl 2 (.int .i64))))))) (.sl 135 (.st (.pr (.int .i64) (.pr (.int .i64) (.pr (.int .i64) (.sl 2 (.int .i64)))))))),1,.bool,fun x=>zei_ k x.1 x.2⟩
theorem qkg_ (k:Nat):zc_ (z3_ ti [(96,qk9_ k)] (lk []) z4_ z5_) (qke_ k) (rdC (z3_ ti [(96,qk9_ k)] (lk []) z4_ z5_) [.tmp 4] .bool) ((zb_ (z2_ Tryz.f51)).getD 0 .skip) (fun σ kx=>qkb_.get σ fun x=>qkd_ k k x kx):=by
 refine ⟨qkb_,[(0,qkc_)],fun n x kx=>qkd_ k n x kx,k,by kernel_rfl,by kernel_rfl,fun x kx=>by kernel_rfl,?_,fun σ kx=>rfl⟩
 rintro n ⟨⟨a0,b1,i5,⟨⟩⟩,⟨⟩,⟨⟩⟩ kx
 kernel_rfl
theorem qkh_ (k:Nat):FnOK Tryz.prog 51 (qkf_ k):=by
 refine za_ (tab:=[(96,qk9_ k)]) (l:=[]) z7_ z9_ mix (List.forall_mem_cons.2 ⟨qka_ k,(List.forall_mem_nil _)⟩) (List.forall_mem_nil _) ⟨⟨Tryz.f51,(z2_ Tryz.f51),[.tmp 4],(qke_ k),by kernel_rfl,by kernel_rfl,by kernel_rfl,by kernel_rfl,rfl,by decide,⟨by kernel_rfl,?_,?_⟩,?_⟩⟩
 ·refine zh_ (n:=1) (by kernel_rfl) fun i hi=>?_
  match i,hi with
  | 0,_=>exact zd_ (by kernel_rfl) (qkg_ k)
  | n+1,hi=>omega
 ·exact z8_ (by kernel_rfl)
 ·rintro ⟨a0,b1⟩
  kernel_rfl
def zej_ (k:Nat) (a0:List (List Int)×Int×List Int×List (Int×Int×Int×List Int)) (b1:List (List Int)×Int×List Int×List (Int×Int×Int×List Int)):Option Bool:=(zeg_ k a0.1 b1.1).bind fun r_1=>(if (!r_1)=true then some false else (if (!(decide (a0.2.1=b1.2.1)))=true then some false else (z42_ k a0.2.2.1 b1.2.2.1).bind fun r_2=>(if (!r_2)=true then some false else (zei_ k a0.2.2.2 b1.2.2.2).bind fun r_3=>(if (!r_3)=true then some false else some true))))
def qki_ (k:Nat):FE:=⟨(.pr (.st (.pr (.st (.sl 25 (.sl 2 (.int .i64)))) (.pr (.int .i64) (.pr (.sl 2 (.int .i64)) (.sl 135 (.st (.pr (.int .i64) (.pr (.int .i64) (.pr (.int .i64) (.sl 2 (.int .i64))))))))))) (.st (.pr (.st (.sl 25 (.sl 2 (.int .i64)))) (.pr (.int .i64) (.pr (.sl 2 (.int .i64)) (.sl 135 (.st (.pr (.int .i64) (.pr (.int .i64) (.pr (.int .i64) (.sl 2 (.int .i64)))))))))))),1,.bool,fun x=>zej_ k x.1 x.2⟩
theorem qkj_ (k:Nat):FnOK Tryz.prog 25 (qki_ k):=by
 refine za_ (tab:=[(50,qk7_ k),(26,qjx_ k),(51,qkf_ k)]) (l:=[]) z7_ z9_ mix (List.forall_mem_cons.2 ⟨qk8_ k,(List.forall_mem_cons.2 ⟨qjz_ k,(List.forall_mem_cons.2 ⟨qkh_ k,(List.forall_mem_nil _)⟩)⟩)⟩) (List.forall_mem_nil _) ⟨⟨Tryz.f25,(z2_ Tryz.f25),[.tmp 4],(LOn Bool),by kernel_rfl,by kernel_rfl,by kernel_rfl,by kernel_rfl,rfl,by decide,⟨by kernel_rfl,?_,?_⟩,?_⟩⟩
 ·exact ze_ (by kernel_rfl)
 ·exact z8_ (by kernel_rfl)
 ·rintro ⟨a0,b1⟩
  kernel_rfl
def zek_ (a0:Int×Int×Int) (b1:Int×Int×Int):Option Bool:=(if (!(decide (a0.1=b1.1)))=true then some false else (if (!(decide (a0.2.1=b1.2.1)))=true then some false else (if (!(decide (a0.2.2=b1.2.2)))=true then some false else some true)))
def qkk_:FE:=⟨(.pr (.st (.pr (.int .i64) (.pr (.int .i64) (.int .i64)))) (.st (.pr (.int .i64) (.pr (.int .i64) (.int .i64))))),1,.bool,fun x=>zek_ x.1 x.2⟩
theorem qkl_:FnOK Tryz.prog 97 (qkk_):=by
 refine za_ (tab:=[]) (l:=[]) z7_ z9_ mix (List.forall_mem_nil _) (List.forall_mem_nil _) ⟨⟨Tryz.f97,(z2_ Tryz.f97),[.tmp 4],(LOn Bool),by kernel_rfl,by kernel_rfl,by kernel_rfl,by kernel_rfl,rfl,by decide,⟨by kernel_rfl,?_,?_⟩,?_⟩⟩
 ·exact ze_ (by kernel_rfl)
 ·exact z8_ (by kernel_rfl)
 ·rintro ⟨a0,b1⟩
  kernel_rfl
def z8z_ (k:Nat):Nat→zT2→zT2→Int→(Option Bool)→Option Bool
 | 0,_,_,_,_=>none
 | n+1,a0,b1,i5,e_0=>(if (decide (i5<(List.length a0:Int)))=true then (if 0≤i5 then (a0[i5.toNat]?).bind fun y_1=>(if 0≤i5 then (b1[i5.toNat]?).bind fun y_2=>(zek_ y_1 y_2).bind fun r_3=>(if (!r_3)=true then some false else z8z_ k n a0 b1 (z0_ (i5+1)) e_0) else none) else none) else e_0)
def zel_ (k:Nat) (a0:List (Int×Int×Int)) (b1:List (Int×Int×Int)):Option Bool:=(if (!(decide ((List.length a0:Int)=(List.length b1:Int))))=true then some false else z8z_ k k a0 b1 0 (some true))
def qkm_:Head:=⟨[(0,(.val (.sl 138 (.st (.pr (.int .i64) (.pr (.int .i64) (.int .i64))))))),(1,(.val (.sl 138 (.st (.pr (.int .i64) (.pr (.int .i64) (.int .i64))))))),(5,(.val (.int .i64)))],[],[]⟩
def qkn_:Head:=⟨[],[],[]⟩
def qko_ (k n:Nat) (x:qkm_.T) (kx:Nat→St→Option Bool):Option Bool:=z8z_ k n x.1.1 x.1.2.1 x.1.2.2.1 (kx 0 (qkn_.fill ((),(),())))
def qkp_ (k:Nat):Oracles Bool:=⟨fun n=>bif Nat.beq n 4 then some (fun σ kx=>qkm_.get σ fun x=>qko_ k k x kx) else none,fun _=>none⟩
def qkq_ (k:Nat):FE:=⟨(.pr (.sl 138 (.st (.pr (.int .i64) (.pr (.int .i64) (.int .i64))))) (.sl 138 (.st (.pr (.int .i64) (.pr (.int .i64) (.int .i64)))))),1,.bool,fun x=>zel_ k x.1 x.2⟩
theorem qkr_ (k:Nat):zc_ (z3_ ti [(97,qkk_)] (lk []) z4_ z5_) (qkp_ k) (rdC (z3_ ti [(97,qkk_)] (lk []) z4_ z5_) [.tmp 4] .bool) ((zb_ (z2_ Tryz.f52)).getD 0 .skip) (fun σ kx=>qkm_.get σ fun x=>qko_ k k x kx):=by
 refine ⟨qkm_,[(0,qkn_)],fun n x kx=>qko_ k n x kx,k,by kernel_rfl,by kernel_rfl,fun x kx=>by kernel_rfl,?_,fun σ kx=>rfl⟩
 rintro n ⟨⟨a0,b1,i5,⟨⟩⟩,⟨⟩,⟨⟩⟩ kx
 kernel_rfl
theorem qks_ (k:Nat):FnOK Tryz.prog 52 (qkq_ k):=by
 refine za_ (tab:=[(97,qkk_)]) (l:=[]) z7_ z9_ mix (List.forall_mem_cons.2 ⟨qkl_,(List.forall_mem_nil _)⟩) (List.forall_mem_nil _) ⟨⟨Tryz.f52,(z2_ Tryz.f52),[.tmp 4],(qkp_ k),by kernel_rfl,by kernel_rfl,by kernel_rfl,by kernel_rfl,rfl,by decide,⟨by kernel_rfl,?_,?_⟩,?_⟩⟩
 ·refine zh_ (n:=1) (by kernel_rfl) fun i hi=>?_
  match i,hi with
  | 0,_=>exact zd_ (by kernel_rfl) (qkr_ k)
  | n+1,hi=>omega
 ·exact z8_ (by kernel_rfl)
 ·rintro ⟨a0,b1⟩
  kernel_rfl
def zem_ (k:Nat) (a0:Int×Int×Int×List (Int×Int×Int)) (b1:Int×Int×Int×List (Int×Int×Int)):Option Bool:=(if (!(decide (a0.1=b1.1)))=true then some false else (if (!(decide (a0.2.1=b1.2.1)))=true then some false else (if (!(decide (a0.2.2.1=b1.2.2.1)))=true then some false else (zel_ k a0.2.2.2 b1.2.2.2).bind fun r_1=>(if (!r_1)=true then some false else some true))))
def qkt_ (k:Nat):FE:=⟨(.pr (.st (.pr (.int .i64) (.pr (.int .i64) (.pr (.int .i64) (.sl 138 (.st (.pr (.int .i64) (.pr (.int .i64) (.int .i64))))))))) (.st (.pr (.int .i64) (.pr (.int .i64) (.pr (.int .i64) (.sl 138 (.st (.pr (.int .i64) (.pr (.int .i64) (.int .i64)))))))))),1,.bool,fun x=>zem_ k x.1 x.2⟩
theorem qku_ (k:Nat):FnOK Tryz.prog 27 (qkt_ k):=by
 refine za_ (tab:=[(52,qkq_ k)]) (l:=[]) z7_ z9_ mix (List.forall_mem_cons.2 ⟨qks_ k,(List.forall_mem_nil _)⟩) (List.forall_mem_nil _) ⟨⟨Tryz.f27,(z2_ Tryz.f27),[.tmp 4],(LOn Bool),by kernel_rfl,by kernel_rfl,by kernel_rfl,by kernel_rfl,rfl,by decide,⟨by kernel_rfl,?_,?_⟩,?_⟩⟩
 ·exact ze_ (by kernel_rfl)
 ·exact z8_ (by kernel_rfl)
 ·rintro ⟨a0,b1⟩
  kernel_rfl
def zen_ (a0:Int×Int×Int) (b1:Int×Int×Int):Option Bool:=(if (!(decide (a0.1=b1.1)))=true then some false else (if (!(decide (a0.2.1=b1.2.1)))=true then some false else (if (!(decide (a0.2.2=b1.2.2)))=true then some false else some true)))
def qkv_:FE:=⟨(.pr (.st (.pr (.int .i64) (.pr (.int .i64) (.int .i64)))) (.st (.pr (.int .i64) (.pr (.int .i64) (.int .i64))))),1,.bool,fun x=>zen_ x.1 x.2⟩
theorem qkw_:FnOK Tryz.prog 98 (qkv_):=by
 refine za_ (tab:=[]) (l:=[]) z7_ z9_ mix (List.forall_mem_nil _) (List.forall_mem_nil _) ⟨⟨Tryz.f98,(z2_ Tryz.f98),[.tmp 4],(LOn Bool),by kernel_rfl,by kernel_rfl,by kernel_rfl,by kernel_rfl,rfl,by decide,⟨by kernel_rfl,?_,?_⟩,?_⟩⟩
 ·exact ze_ (by kernel_rfl)
 ·exact z8_ (by kernel_rfl)
 ·rintro ⟨a0,b1⟩
  kernel_rfl
end
end Go.Proofs.YtbfbojmkmjhdcaaGreatDoor.Ev
