/- Functions of the program, as plain ones. No conditions. -/
import Derived.Test.YtioaaljaohhjiaaGreatDoorG6
import Derived.KernelRfl
set_option linter.unusedVariables false
set_option maxRecDepth 100000
namespace Go.Proofs.YtioaaljaohhjiaaGreatDoor.Ev
open Go.RowKit
noncomputable section
def zgy_ (k:Nat):Nat→(Int×Int×Int×List Int)→Int→(List Int)→(List Int)→(List Int)→(List Int)→Int→Int→Int→Int→Int→Int→((List Int)→Option (List Int×Bool))→Option (List Int×Bool)
 | 0,_,_,_,_,_,_,_,_,_,_,_,_,_=>none
 | n+1,m0,i12,q_3,q_4,q_5,q_6,v_7a,v_7ba,v_7bba,v_8a,v_8ba,v_8bba,e_0=>(if (decide (i12<(List.length q_3:Int)))=true then (if 0≤i12∧i12.toNat<List.length q_3 then (q_3[i12.toNat]?).bind fun y_7=>(if (decide (y_7=m0.2.2.1))=true then some ([],false) else (if 0≤i12∧i12.toNat<List.length q_3 then (q_3[i12.toNat]?).bind fun y_8=>(if 0≤(z0_ ((z0_ (i12*v_7bba))+m0.2.2.1))∧(z0_ ((z0_ (i12*v_7bba))+m0.2.2.1)).toNat<List.length q_6 then (q_6[(z0_ ((z0_ (i12*v_7bba))+m0.2.2.1)).toNat]?).bind fun y_9=>(if 0≤y_8∧y_8.toNat<List.length q_4 then (q_4[y_8.toNat]?).bind fun y_10=>(q_4[y_8.toNat]?).bind fun y_11=>zgy_ k n m0 (z0_ (i12+1)) q_3 (q_4.set y_8.toNat y_9) q_5 q_6 v_7a v_7ba v_7bba v_8a v_8ba v_8bba e_0 else none) else none) else none)) else none) else e_0 q_4)
def zoz_ (k:Nat) (m0:Int×Int×Int×List Int) (b1:List Int):Option (List Int×Bool):=(zox_ k m0 (m0.1,(m0.2.1,(1,b1)))).bind fun r_1=>(zoy_ k (r_1.1,(r_1.2.1,(r_1.2.2.1,r_1.2.2.2)))).bind fun r_2=>(if 0≤m0.2.2.1∧m0.2.2.1≤m0.2.2.1∧m0.2.2.1*8≤LIM then zgy_ k k m0 0 r_2.2.1 (List.replicate m0.2.2.1.toNat 0) r_1.2.2.2 r_2.1.2.2.2 r_1.1 r_1.2.1 r_1.2.2.1 r_2.1.1 r_2.1.2.1 r_2.1.2.2.1 (fun q_12=>some (q_12,true)) else none)
def qaa_:Head:=⟨[(0,(.val (.ptr (.st (.pr (.int .i64) (.pr (.int .i64) (.pr (.int .i64) (.sl 2 (.int .i64))))))))),(7,(.bp 7 [] 0)),(8,(.bp 8 [] 0)),(9,(.ref 64000000 [])),(11,(.ref 64000001 [])),(12,(.val (.int .i64)))],[(64000000,2,(.int .i64),false),(64000001,2,(.int .i64),false),(64000002,2,(.int .i64),false),(64000003,2,(.int .i64),false)],[(7,135,(.st (.pr (.val (.int .i64)) (.pr (.val (.int .i64)) (.pr (.val (.int .i64)) (.ref 64000002 [])))))),(8,135,(.st (.pr (.val (.int .i64)) (.pr (.val (.int .i64)) (.pr (.val (.int .i64)) (.ref 64000003 []))))))]⟩
def qab_:Head:=⟨[(11,(.ref 64000000 []))],[(64000000,2,(.int .i64),false)],[]⟩
def qac_ (k n:Nat) (x:qaa_.T) (kx:Nat→St→Option (List Int×Bool)):Option (List Int×Bool):=zgy_ k n x.1.1 x.1.2.2.2.2.2.1 x.2.1.1 x.2.1.2.1 x.2.1.2.2.1 x.2.1.2.2.2.1 x.2.2.1.1 x.2.2.1.2.1 x.2.2.1.2.2.1 x.2.2.2.1.1 x.2.2.2.1.2.1 x.2.2.2.1.2.2.1 (fun (q_12:List Int)=>kx 0 (qab_.fill (((),()),(q_12,()),())))
def qad_ (k:Nat):Oracles (List Int×Bool):=⟨fun n=>bif Nat.beq n 6 then some (fun σ kx=>qaa_.get σ fun x=>qac_ k k x kx) else none,fun _=>none⟩
def qae_ (k:Nat):FE:=⟨(.pr (.ptr (.st (.pr (.int .i64) (.pr (.int .i64) (.pr (.int .i64) (.sl 2 (.int .i64))))))) (.sl 2 (.int .i64))),2,(.pr (.sl 2 (.int .i64)) .bool),fun x=>zoz_ k x.1 x.2⟩
theorem qaf_ (k:Nat):zc_ (z3_ ti [(160,q97_ k),(161,qa2_ k)] (lk []) z4_ z5_) (qad_ k) (rdC (z3_ ti [(160,q97_ k),(161,qa2_ k)] (lk []) z4_ z5_) [.tmp 4,.tmp 5] (.pr (.sl 2 (.int .i64)) .bool)) ((zb_ (z2_ Tryz.f119)).getD 0 .skip) (fun σ kx=>qaa_.get σ fun x=>qac_ k k x kx):=by
 refine ⟨qaa_,[(0,qab_)],fun n x kx=>qac_ k n x kx,k,by kernel_rfl,by kernel_rfl,fun x kx=>by kernel_rfl,?_,fun σ kx=>rfl⟩
 rintro n ⟨⟨m0,⟨⟩,⟨⟩,⟨⟩,⟨⟩,i12,⟨⟩⟩,⟨q_3,q_4,q_5,q_6,⟨⟩⟩,⟨⟨v_7a,⟨v_7ba,⟨v_7bba,⟨⟩⟩⟩⟩,⟨v_8a,⟨v_8ba,⟨v_8bba,⟨⟩⟩⟩⟩,⟨⟩⟩⟩ kx
 refine id (α:=zgy_ k (n+1) m0 i12 q_3 q_4 q_5 q_6 v_7a v_7ba v_7bba v_8a v_8ba v_8bba _=_) ?_
 kernel_rfl
theorem qag_ (k:Nat):FnOK Tryz.prog 119 (qae_ k):=by
 refine za_ (tab:=[(160,q97_ k),(161,qa2_ k)]) (l:=[]) z7_ z9_ mix (List.forall_mem_cons.2 ⟨q99_ k,(List.forall_mem_cons.2 ⟨qa9_ k,(List.forall_mem_nil _)⟩)⟩) (List.forall_mem_nil _) ⟨⟨Tryz.f119,(z2_ Tryz.f119),[.tmp 4,.tmp 5],(qad_ k),by kernel_rfl,by kernel_rfl,by kernel_rfl,by kernel_rfl,rfl,by decide,⟨by kernel_rfl,?_,?_⟩,?_⟩⟩
 ·refine zf_ (n:=1) (by kernel_rfl) fun i hi=>?_
  match i,hi with
  | 0,_=>exact zd_ (by kernel_rfl) (qaf_ k)
  | n+1,hi=>omega
 ·exact z8_ (by kernel_rfl)
 ·rintro ⟨m0,b1⟩
  kernel_rfl
def zp0_ (k:Nat) (s0:List (List Int)×Int×List Int×List (Int×Int×Int×List Int)) (k1:Int) (x2:List Int):Option (List Int×Bool):=(zak_ k s0 (z0_ (k1-1))).bind fun r_1=>(zoz_ k (r_1.1,(r_1.2.1,(r_1.2.2.1,r_1.2.2.2))) x2).bind fun r_2=>some (r_2.1,r_2.2)
def qah_ (k:Nat):FE:=⟨(.pr (.ptr (.st (.pr (.st (.sl 25 (.sl 2 (.int .i64)))) (.pr (.int .i64) (.pr (.sl 2 (.int .i64)) (.sl 135 (.st (.pr (.int .i64) (.pr (.int .i64) (.pr (.int .i64) (.sl 2 (.int .i64)))))))))))) (.pr (.int .i64) (.sl 2 (.int .i64)))),2,(.pr (.sl 2 (.int .i64)) .bool),fun x=>zp0_ k x.1 x.2.1 x.2.2⟩
theorem qai_ (k:Nat):FnOK Tryz.prog 71 (qah_ k):=by
 refine za_ (tab:=[(116,q8d_ k),(119,qae_ k)]) (l:=[]) z7_ z9_ mix (List.forall_mem_cons.2 ⟨q8i_ k,(List.forall_mem_cons.2 ⟨qag_ k,(List.forall_mem_nil _)⟩)⟩) (List.forall_mem_nil _) ⟨⟨Tryz.f71,(z2_ Tryz.f71),[.tmp 6,.tmp 7],(LOn (List Int×Bool)),by kernel_rfl,by kernel_rfl,by kernel_rfl,by kernel_rfl,rfl,by decide,⟨by kernel_rfl,?_,?_⟩,?_⟩⟩
 ·exact ze_ (by kernel_rfl)
 ·exact z8_ (by kernel_rfl)
 ·rintro ⟨s0,k1,x2⟩
  kernel_rfl
def zp1_ (k:Nat) (w0:zT0×Int×List Int×List Int×(Int×Int×Int×List (Int×Int×Int))×List Int×List Int×(Int×Int×List (Int×Int×Int))×List Int):Option zT1:=(zov_ k w0.1).bind fun r_1=>(if (decide (0≤r_1.1))=true then (if 0≤r_1.1 then (w0.1.1[r_1.1.toNat]?).bind fun y_2=>(z7x_ k y_2).bind fun r_3=>(z7q_ y_2 r_1.2.2).bind fun r_4=>(z7q_ r_4 r_1.2.1).bind fun r_5=>(z7x_ k r_5).bind fun r_6=>some [(1,(r_3,r_6))] else none) else (zow_ k w0.1 w0.2.1 w0.2.2.1).bind fun r_7=>(if (!r_7)=true then some [(2,([99,108,97,115,115],[111,112,101,110]))] else (zp0_ k w0.1 w0.2.1 w0.2.2.1).bind fun r_8=>(if r_8.2=true then some [(2,([99,108,97,115,115],[116,114,105,118,105,97,108]))] else some [])))
def qaj_ (k:Nat):FE:=⟨(.ptr (.st (.pr (.st (.pr (.st (.sl 25 (.sl 2 (.int .i64)))) (.pr (.int .i64) (.pr (.sl 2 (.int .i64)) (.sl 135 (.st (.pr (.int .i64) (.pr (.int .i64) (.pr (.int .i64) (.sl 2 (.int .i64))))))))))) (.pr (.int .i64) (.pr (.sl 2 (.int .i64)) (.pr (.sl 2 (.int .i64)) (.pr (.st (.pr (.int .i64) (.pr (.int .i64) (.pr (.int .i64) (.sl 138 (.st (.pr (.int .i64) (.pr (.int .i64) (.int .i64))))))))) (.pr (.sl 2 (.int .i64)) (.pr (.sl 2 (.int .i64)) (.pr (.st (.pr (.int .i64) (.pr (.int .i64) (.sl 133 (.st (.pr (.int .i64) (.pr (.int .i64) (.int .i64)))))))) (.sl 2 (.int .i64)))))))))))),1,(.sl 73 (.st (.pr (.int .i64) (.pr .str .str)))),fun x=>zp1_ k x⟩
theorem qak_ (k:Nat):FnOK Tryz.prog 39 (qaj_ k):=by
 refine za_ (tab:=[(67,q74_ k),(68,q7o_ k),(69,q2v_),(70,q91_ k),(71,qah_ k)]) (l:=[]) z7_ z9_ mix (List.forall_mem_cons.2 ⟨q78_ k,(List.forall_mem_cons.2 ⟨q7q_ k,(List.forall_mem_cons.2 ⟨q2w_,(List.forall_mem_cons.2 ⟨q92_ k,(List.forall_mem_cons.2 ⟨qai_ k,(List.forall_mem_nil _)⟩)⟩)⟩)⟩)⟩) (List.forall_mem_nil _) ⟨⟨Tryz.f39,(z2_ Tryz.f39),[.tmp 2],(LOn zT1),by kernel_rfl,by kernel_rfl,by kernel_rfl,by kernel_rfl,rfl,by decide,⟨by kernel_rfl,?_,?_⟩,?_⟩⟩
 ·exact ze_ (by kernel_rfl)
 ·exact z8_ (by kernel_rfl)
 ·rintro w0
  kernel_rfl
def z82_ (k:Nat):Nat→zT0→Int→(List Int)→(List Int)→(List Int)→((List Int)→Option (List Int))→Option (List Int)
 | 0,_,_,_,_,_,_=>none
 | n+1,s0,i9,q_4,q_5,q_6,e_0=>(if (decide (i9<(List.length q_5:Int)))=true then (if 0≤i9∧i9.toNat<List.length q_5 then (q_5[i9.toNat]?).bind fun y_7=>(zaj_ k s0 y_7).bind fun r_8=>(if 0≤i9∧i9.toNat<List.length q_5 then (q_5[i9.toNat]?).bind fun y_9=>(if 0≤y_9 then (s0.2.2.1[y_9.toNat]?).bind fun y_10=>(if 0≤r_8∧r_8≤(z0_ (r_8+y_10))∧(z0_ (r_8+y_10))≤q_4.length then (zch_ k ((q_4.drop r_8.toNat).take ((z0_ (r_8+y_10)).toNat-r_8.toNat))).bind fun r_11=>(if (!r_11)=true then (if 0≤i9∧i9.toNat<List.length q_5 then (q_5[i9.toNat]?).bind fun y_12=>(if (q_6.length+[y_12].length)*8≤LIM then z82_ k n s0 (z0_ (i9+1)) q_4 q_5 (q_6++[y_12]) e_0 else none) else none) else z82_ k n s0 (z0_ (i9+1)) q_4 q_5 q_6 e_0) else none) else none) else none) else none) else e_0 q_6)
def zcj_ (k:Nat) (s0:List (List Int)×Int×List Int×List (Int×Int×Int×List Int)) (x1:List Int):Option (List Int):=(zak_ k s0 0).bind fun r_1=>(zcg_ k (r_1.1,(r_1.2.1,(r_1.2.2.1,r_1.2.2.2))) x1).bind fun r_2=>(zab_ k s0.1 1).bind fun r_3=>z82_ k k s0 0 r_2 r_3 [] (fun q_13=>some q_13)
def qal_:Head:=⟨[(0,(.val (.ptr (.st (.pr (.st (.sl 25 (.sl 2 (.int .i64)))) (.pr (.int .i64) (.pr (.sl 2 (.int .i64)) (.sl 135 (.st (.pr (.int .i64) (.pr (.int .i64) (.pr (.int .i64) (.sl 2 (.int .i64)))))))))))))),(6,(.ref 64000000 [])),(7,(.ref 64000001 [])),(8,(.ref 64000002 [])),(9,(.val (.int .i64)))],[(64000000,2,(.int .i64),false),(64000001,2,(.int .i64),false),(64000002,2,(.int .i64),false)],[]⟩
def qam_:Head:=⟨[(8,(.ref 64000000 []))],[(64000000,2,(.int .i64),false)],[]⟩
def qan_ (k n:Nat) (x:qal_.T) (kx:Nat→St→Option (List Int)):Option (List Int):=z82_ k n x.1.1 x.1.2.2.2.2.1 x.2.1.1 x.2.1.2.1 x.2.1.2.2.1 (fun (q_13:List Int)=>kx 0 (qam_.fill (((),()),(q_13,()),())))
def qao_ (k:Nat):Oracles (List Int):=⟨fun n=>bif Nat.beq n 6 then some (fun σ kx=>qal_.get σ fun x=>qan_ k k x kx) else none,fun _=>none⟩
def qap_ (k:Nat):FE:=⟨(.pr (.ptr (.st (.pr (.st (.sl 25 (.sl 2 (.int .i64)))) (.pr (.int .i64) (.pr (.sl 2 (.int .i64)) (.sl 135 (.st (.pr (.int .i64) (.pr (.int .i64) (.pr (.int .i64) (.sl 2 (.int .i64)))))))))))) (.sl 2 (.int .i64))),1,(.sl 2 (.int .i64)),fun x=>zcj_ k x.1 x.2⟩
theorem qaq_ (k:Nat):zc_ (z3_ ti [(116,q8d_ k),(118,q8q_ k),(112,q46_ k),(120,q7v_ k),(117,q8y_ k)] (lk []) z4_ z5_) (qao_ k) (rdC (z3_ ti [(116,q8d_ k),(118,q8q_ k),(112,q46_ k),(120,q7v_ k),(117,q8y_ k)] (lk []) z4_ z5_) [.tmp 4] (.sl 2 (.int .i64))) ((zb_ (z2_ Tryz.f72)).getD 0 .skip) (fun σ kx=>qal_.get σ fun x=>qan_ k k x kx):=by
 refine ⟨qal_,[(0,qam_)],fun n x kx=>qan_ k n x kx,k,by kernel_rfl,by kernel_rfl,fun x kx=>by kernel_rfl,?_,fun σ kx=>rfl⟩
 rintro n ⟨⟨s0,⟨⟩,⟨⟩,⟨⟩,i9,⟨⟩⟩,⟨q_4,q_5,q_6,⟨⟩⟩,⟨⟩⟩ kx
 kernel_rfl
theorem qar_ (k:Nat):FnOK Tryz.prog 72 (qap_ k):=by
 refine za_ (tab:=[(116,q8d_ k),(118,q8q_ k),(112,q46_ k),(120,q7v_ k),(117,q8y_ k)]) (l:=[]) z7_ z9_ mix (List.forall_mem_cons.2 ⟨q8i_ k,(List.forall_mem_cons.2 ⟨q8t_ k,(List.forall_mem_cons.2 ⟨q48_ k,(List.forall_mem_cons.2 ⟨q7x_ k,(List.forall_mem_cons.2 ⟨q90_ k,(List.forall_mem_nil _)⟩)⟩)⟩)⟩)⟩) (List.forall_mem_nil _) ⟨⟨Tryz.f72,(z2_ Tryz.f72),[.tmp 4],(qao_ k),by kernel_rfl,by kernel_rfl,by kernel_rfl,by kernel_rfl,rfl,by decide,⟨by kernel_rfl,?_,?_⟩,?_⟩⟩
 ·refine zf_ (n:=1) (by kernel_rfl) fun i hi=>?_
  match i,hi with
  | 0,_=>exact zd_ (by kernel_rfl) (qaq_ k)
  | n+1,hi=>omega
 ·exact z8_ (by kernel_rfl)
 ·rintro ⟨s0,x1⟩
  kernel_rfl
def zao_ (k:Nat):Nat→(zT0×Int×List Int×List Int×(Int×Int×Int×List (Int×Int×Int))×List Int×List Int×(Int×Int×List (Int×Int×Int))×List Int)→Int→zT1→(List Int)→(zT1→Option zT1)→Option zT1
 | 0,_,_,_,_,_=>none
 | n+1,w0,i5,q_2,q_3,e_0=>(if (decide (i5<(List.length q_3:Int)))=true then (if 0≤i5∧i5.toNat<List.length q_3 then (q_3[i5.toNat]?).bind fun y_4=>(if 0≤y_4 then (w0.1.1[y_4.toNat]?).bind fun y_5=>(z7x_ k y_5).bind fun r_6=>(if (q_2.length+[(3,(r_6,[100,105,115,97,103,114,101,101]))].length)*40≤LIM then zao_ k n w0 (z0_ (i5+1)) (q_2++[(3,(r_6,[100,105,115,97,103,114,101,101]))]) q_3 e_0 else none) else none) else none) else e_0 q_2)
def zgz_ (k:Nat) (w0:zT0×Int×List Int×List Int×(Int×Int×Int×List (Int×Int×Int))×List Int×List Int×(Int×Int×List (Int×Int×Int))×List Int):Option zT1:=(zcj_ k w0.1 w0.2.2.2.1).bind fun r_1=>zao_ k k w0 0 [] r_1 (fun q_7=>some q_7)
def qas_:Head:=⟨[(0,(.val (.ptr (.st (.pr (.st (.pr (.st (.sl 25 (.sl 2 (.int .i64)))) (.pr (.int .i64) (.pr (.sl 2 (.int .i64)) (.sl 135 (.st (.pr (.int .i64) (.pr (.int .i64) (.pr (.int .i64) (.sl 2 (.int .i64))))))))))) (.pr (.int .i64) (.pr (.sl 2 (.int .i64)) (.pr (.sl 2 (.int .i64)) (.pr (.st (.pr (.int .i64) (.pr (.int .i64) (.pr (.int .i64) (.sl 138 (.st (.pr (.int .i64) (.pr (.int .i64) (.int .i64))))))))) (.pr (.sl 2 (.int .i64)) (.pr (.sl 2 (.int .i64)) (.pr (.st (.pr (.int .i64) (.pr (.int .i64) (.sl 133 (.st (.pr (.int .i64) (.pr (.int .i64) (.int .i64)))))))) (.sl 2 (.int .i64)))))))))))))),(3,(.ref 64000000 [])),(4,(.ref 64000001 [])),(5,(.val (.int .i64)))],[(64000000,73,(.st (.pr (.int .i64) (.pr .str .str))),false),(64000001,2,(.int .i64),false)],[]⟩
def qat_:Head:=⟨[(3,(.ref 64000000 []))],[(64000000,73,(.st (.pr (.int .i64) (.pr .str .str))),false)],[]⟩
def qau_ (k n:Nat) (x:qas_.T) (kx:Nat→St→Option zT1):Option zT1:=zao_ k n x.1.1 x.1.2.2.2.1 x.2.1.1 x.2.1.2.1 (fun (q_7:List (Int×List UInt8×List UInt8))=>kx 0 (qat_.fill (((),()),(q_7,()),())))
def qav_ (k:Nat):Oracles zT1:=⟨fun n=>bif Nat.beq n 4 then some (fun σ kx=>qas_.get σ fun x=>qau_ k k x kx) else none,fun _=>none⟩
def qaw_ (k:Nat):FE:=⟨(.ptr (.st (.pr (.st (.pr (.st (.sl 25 (.sl 2 (.int .i64)))) (.pr (.int .i64) (.pr (.sl 2 (.int .i64)) (.sl 135 (.st (.pr (.int .i64) (.pr (.int .i64) (.pr (.int .i64) (.sl 2 (.int .i64))))))))))) (.pr (.int .i64) (.pr (.sl 2 (.int .i64)) (.pr (.sl 2 (.int .i64)) (.pr (.st (.pr (.int .i64) (.pr (.int .i64) (.pr (.int .i64) (.sl 138 (.st (.pr (.int .i64) (.pr (.int .i64) (.int .i64))))))))) (.pr (.sl 2 (.int .i64)) (.pr (.sl 2 (.int .i64)) (.pr (.st (.pr (.int .i64) (.pr (.int .i64) (.sl 133 (.st (.pr (.int .i64) (.pr (.int .i64) (.int .i64)))))))) (.sl 2 (.int .i64)))))))))))),1,(.sl 73 (.st (.pr (.int .i64) (.pr .str .str)))),fun x=>zgz_ k x⟩
theorem qax_ (k:Nat):zc_ (z3_ ti [(72,qap_ k),(68,q7o_ k)] (lk []) z4_ z5_) (qav_ k) (rdC (z3_ ti [(72,qap_ k),(68,q7o_ k)] (lk []) z4_ z5_) [.tmp 2] (.sl 73 (.st (.pr (.int .i64) (.pr .str .str))))) ((zb_ (z2_ Tryz.f40)).getD 0 .skip) (fun σ kx=>qas_.get σ fun x=>qau_ k k x kx):=by
 refine ⟨qas_,[(0,qat_)],fun n x kx=>qau_ k n x kx,k,by kernel_rfl,by kernel_rfl,fun x kx=>by kernel_rfl,?_,fun σ kx=>rfl⟩
 rintro n ⟨⟨w0,⟨⟩,⟨⟩,i5,⟨⟩⟩,⟨q_2,q_3,⟨⟩⟩,⟨⟩⟩ kx
 kernel_rfl
theorem qay_ (k:Nat):FnOK Tryz.prog 40 (qaw_ k):=by
 refine za_ (tab:=[(72,qap_ k),(68,q7o_ k)]) (l:=[]) z7_ z9_ mix (List.forall_mem_cons.2 ⟨qar_ k,(List.forall_mem_cons.2 ⟨q7q_ k,(List.forall_mem_nil _)⟩)⟩) (List.forall_mem_nil _) ⟨⟨Tryz.f40,(z2_ Tryz.f40),[.tmp 2],(qav_ k),by kernel_rfl,by kernel_rfl,by kernel_rfl,by kernel_rfl,rfl,by decide,⟨by kernel_rfl,?_,?_⟩,?_⟩⟩
 ·refine zf_ (n:=1) (by kernel_rfl) fun i hi=>?_
  match i,hi with
  | 0,_=>exact zd_ (by kernel_rfl) (qax_ k)
  | n+1,hi=>omega
 ·exact z8_ (by kernel_rfl)
 ·rintro w0
  kernel_rfl
def zap_ (k:Nat):Nat→(Int×Int×Int×List (Int×Int×Int))→(List Int)→Int→Int→Int→(Int→Option Int)→Option Int
 | 0,_,_,_,_,_,_=>none
 | n+1,n0,flow1,node2,sum7,i8,e_0=>(if (decide (i8<(List.length n0.2.2.2:Int)))=true then (if 0≤i8 then (n0.2.2.2[i8.toNat]?).bind fun y_1=>(if (decide (y_1.2.1=node2))=true then (if 0≤i8 then (flow1[i8.toNat]?).bind fun y_2=>(if 0≤i8 then (n0.2.2.2[i8.toNat]?).bind fun y_3=>(if (decide (y_3.1=node2))=true then (if 0≤i8 then (flow1[i8.toNat]?).bind fun y_4=>zap_ k n n0 flow1 node2 (z0_ ((z0_ (sum7+y_2))-y_4)) (z0_ (i8+1)) e_0 else none) else zap_ k n n0 flow1 node2 (z0_ (sum7+y_2)) (z0_ (i8+1)) e_0) else none) else none) else (if 0≤i8 then (n0.2.2.2[i8.toNat]?).bind fun y_5=>(if (decide (y_5.1=node2))=true then (if 0≤i8 then (flow1[i8.toNat]?).bind fun y_6=>zap_ k n n0 flow1 node2 (z0_ (sum7-y_6)) (z0_ (i8+1)) e_0 else none) else zap_ k n n0 flow1 node2 sum7 (z0_ (i8+1)) e_0) else none)) else none) else e_0 sum7)
def zkh_ (k:Nat) (n0:Int×Int×Int×List (Int×Int×Int)) (flow1:List Int) (node2:Int):Option Int:=zap_ k k n0 flow1 node2 0 0 (fun sum_7=>some sum_7)
def qaz_:Head:=⟨[(0,(.val (.ptr (.st (.pr (.int .i64) (.pr (.int .i64) (.pr (.int .i64) (.sl 138 (.st (.pr (.int .i64) (.pr (.int .i64) (.int .i64)))))))))))),(1,(.val (.sl 2 (.int .i64)))),(2,(.val (.int .i64))),(7,(.val (.int .i64))),(8,(.val (.int .i64)))],[],[]⟩
def qb0_:Head:=⟨[(7,(.val (.int .i64)))],[],[]⟩
def qb1_ (k n:Nat) (x:qaz_.T) (kx:Nat→St→Option Int):Option Int:=zap_ k n x.1.1 x.1.2.1 x.1.2.2.1 x.1.2.2.2.1 x.1.2.2.2.2.1 (fun (sum7:Int)=>kx 0 (qb0_.fill ((sum7,()),(),())))
def qb2_ (k:Nat):Oracles Int:=⟨fun n=>bif Nat.beq n 3 then some (fun σ kx=>qaz_.get σ fun x=>qb1_ k k x kx) else none,fun _=>none⟩
def qb3_ (k:Nat):FE:=⟨(.pr (.ptr (.st (.pr (.int .i64) (.pr (.int .i64) (.pr (.int .i64) (.sl 138 (.st (.pr (.int .i64) (.pr (.int .i64) (.int .i64)))))))))) (.pr (.sl 2 (.int .i64)) (.int .i64))),1,(.int .i64),fun x=>zkh_ k x.1 x.2.1 x.2.2⟩
theorem qb4_ (k:Nat):zc_ (z3_ ti [] (lk []) z4_ z5_) (qb2_ k) (rdC (z3_ ti [] (lk []) z4_ z5_) [.tmp 6] (.int .i64)) ((zb_ (z2_ Tryz.f76)).getD 0 .skip) (fun σ kx=>qaz_.get σ fun x=>qb1_ k k x kx):=by
 refine ⟨qaz_,[(0,qb0_)],fun n x kx=>qb1_ k n x kx,k,by kernel_rfl,by kernel_rfl,fun x kx=>by kernel_rfl,?_,fun σ kx=>rfl⟩
 rintro n ⟨⟨n0,flow1,node2,sum7,i8,⟨⟩⟩,⟨⟩,⟨⟩⟩ kx
 kernel_rfl
theorem qb5_ (k:Nat):FnOK Tryz.prog 76 (qb3_ k):=by
 refine za_ (tab:=[]) (l:=[]) z7_ z9_ mix (List.forall_mem_nil _) (List.forall_mem_nil _) ⟨⟨Tryz.f76,(z2_ Tryz.f76),[.tmp 6],(qb2_ k),by kernel_rfl,by kernel_rfl,by kernel_rfl,by kernel_rfl,rfl,by decide,⟨by kernel_rfl,?_,?_⟩,?_⟩⟩
 ·refine zf_ (n:=1) (by kernel_rfl) fun i hi=>?_
  match i,hi with
  | 0,_=>exact zd_ (by kernel_rfl) (qb4_ k)
  | n+1,hi=>omega
 ·exact z8_ (by kernel_rfl)
 ·rintro ⟨n0,flow1,node2⟩
  kernel_rfl
def zki_ (k:Nat):Nat→(Int×Int×Int×List (Int×Int×Int))→(List Int)→Int→((Int×Int×Int×List (Int×Int×Int))→(List Int)→Option Bool)→Option Bool
 | 0,_,_,_,_=>none
 | n+1,n0,flow1,i5,e_0=>(if (decide (i5<(List.length flow1:Int)))=true then (if 0≤i5 then (flow1[i5.toNat]?).bind fun y_1=>(if 0≤i5 then (n0.2.2.2[i5.toNat]?).bind fun y_2=>(z1q_ y_1 0 y_2.2.2).bind fun r_3=>(if (!r_3)=true then some false else zki_ k n n0 flow1 (z0_ (i5+1)) e_0) else none) else none) else e_0 n0 flow1)
def zck_ (k:Nat):Nat→(Int×Int×Int×List (Int×Int×Int))→(List Int)→Int→(Option Bool)→Option Bool
 | 0,_,_,_,_=>none
 | n+1,n0,flow1,v6,e_2=>(if (decide (v6<n0.1))=true then (if (!(decide (v6=n0.2.1)))=true then (if (!(decide (v6=n0.2.2.1)))=true then (zkh_ k n0 flow1 v6).bind fun r_6=>(if (!(decide (r_6=0)))=true then some false else zck_ k n n0 flow1 (z0_ (v6+1)) e_2) else zck_ k n n0 flow1 (z0_ (v6+1)) e_2) else zck_ k n n0 flow1 (z0_ (v6+1)) e_2) else e_2)
def zp2_ (k:Nat) (n0:Int×Int×Int×List (Int×Int×Int)) (flow1:List Int):Option Bool:=(if (!(decide ((List.length flow1:Int)=(List.length n0.2.2.2:Int))))=true then some false else zki_ k k n0 flow1 0 (fun n_4 flow_5=>zck_ k k n_4 flow_5 0 (some true)))
def qb6_:Head:=⟨[(0,(.val (.ptr (.st (.pr (.int .i64) (.pr (.int .i64) (.pr (.int .i64) (.sl 138 (.st (.pr (.int .i64) (.pr (.int .i64) (.int .i64)))))))))))),(1,(.val (.sl 2 (.int .i64)))),(5,(.val (.int .i64)))],[],[]⟩
def qb7_:Head:=⟨[(0,(.val (.ptr (.st (.pr (.int .i64) (.pr (.int .i64) (.pr (.int .i64) (.sl 138 (.st (.pr (.int .i64) (.pr (.int .i64) (.int .i64)))))))))))),(1,(.val (.sl 2 (.int .i64))))],[],[]⟩
def qb8_ (k n:Nat) (x:qb6_.T) (kx:Nat→St→Option Bool):Option Bool:=zki_ k n x.1.1 x.1.2.1 x.1.2.2.1 (fun (n0:Int×Int×Int×List (Int×Int×Int)) (flow1:List Int)=>kx 0 (qb7_.fill ((n0,flow1,()),(),())))
def qb9_:Head:=⟨[(0,(.val (.ptr (.st (.pr (.int .i64) (.pr (.int .i64) (.pr (.int .i64) (.sl 138 (.st (.pr (.int .i64) (.pr (.int .i64) (.int .i64)))))))))))),(1,(.val (.sl 2 (.int .i64)))),(6,(.val (.int .i64)))],[],[]⟩
def qba_:Head:=⟨[],[],[]⟩
def qbb_ (k n:Nat) (x:qb9_.T) (kx:Nat→St→Option Bool):Option Bool:=zck_ k n x.1.1 x.1.2.1 x.1.2.2.1 (kx 2 (qba_.fill ((),(),())))
def qbc_ (k:Nat):Oracles Bool:=⟨fun n=>bif Nat.beq n 4 then some (fun σ kx=>qb6_.get σ fun x=>qb8_ k k x kx) else bif Nat.beq n 9 then some (fun σ kx=>qb9_.get σ fun x=>qbb_ k k x kx) else none,fun _=>none⟩
def qbd_ (k:Nat):FE:=⟨(.pr (.ptr (.st (.pr (.int .i64) (.pr (.int .i64) (.pr (.int .i64) (.sl 138 (.st (.pr (.int .i64) (.pr (.int .i64) (.int .i64)))))))))) (.sl 2 (.int .i64))),1,.bool,fun x=>zp2_ k x.1 x.2⟩
theorem qbe_ (k:Nat):zc_ (z3_ ti [(111,q2b_),(76,qb3_ k)] (lk []) z4_ z5_) (qbc_ k) (rdC (z3_ ti [(111,q2b_),(76,qb3_ k)] (lk []) z4_ z5_) [.tmp 4] .bool) ((zb_ (z2_ Tryz.f73)).getD 0 .skip) (fun σ kx=>qb6_.get σ fun x=>qb8_ k k x kx):=by
 refine ⟨qb6_,[(0,qb7_)],fun n x kx=>qb8_ k n x kx,k,by kernel_rfl,by kernel_rfl,fun x kx=>by kernel_rfl,?_,fun σ kx=>rfl⟩
 rintro n ⟨⟨n0,flow1,i5,⟨⟩⟩,⟨⟩,⟨⟩⟩ kx
 kernel_rfl
theorem qbf_ (k:Nat):zc_ (z3_ ti [(111,q2b_),(76,qb3_ k)] (lk []) z4_ z5_) (qbc_ k) (rdC (z3_ ti [(111,q2b_),(76,qb3_ k)] (lk []) z4_ z5_) [.tmp 4] .bool) ((zb_ (z2_ Tryz.f73)).getD 1 .skip) (fun σ kx=>qb9_.get σ fun x=>qbb_ k k x kx):=by
 refine ⟨qb9_,[(2,qba_)],fun n x kx=>qbb_ k n x kx,k,by kernel_rfl,by kernel_rfl,fun x kx=>by kernel_rfl,?_,fun σ kx=>rfl⟩
 rintro n ⟨⟨n0,flow1,v6,⟨⟩⟩,⟨⟩,⟨⟩⟩ kx
 kernel_rfl
theorem qbg_ (k:Nat):FnOK Tryz.prog 73 (qbd_ k):=by
 refine za_ (tab:=[(111,q2b_),(76,qb3_ k)]) (l:=[]) z7_ z9_ mix (List.forall_mem_cons.2 ⟨q2c_,(List.forall_mem_cons.2 ⟨qb5_ k,(List.forall_mem_nil _)⟩)⟩) (List.forall_mem_nil _) ⟨⟨Tryz.f73,(z2_ Tryz.f73),[.tmp 4],(qbc_ k),by kernel_rfl,by kernel_rfl,by kernel_rfl,by kernel_rfl,rfl,by decide,⟨by kernel_rfl,?_,?_⟩,?_⟩⟩
 ·refine zf_ (n:=2) (by kernel_rfl) fun i hi=>?_
  match i,hi with
  | 0,_=>exact zd_ (by kernel_rfl) (qbe_ k)
  | 1,_=>exact zd_ (by kernel_rfl) (qbf_ k)
  | n+2,hi=>omega
 ·exact z8_ (by kernel_rfl)
 ·rintro ⟨n0,flow1⟩
  kernel_rfl
def zkj_ (k:Nat):Nat→(List Int)→Int→Int→(Option Bool)→Option Bool
 | 0,_,_,_,_=>none
 | n+1,list0,n1,i5,e_0=>(if (decide (i5<(List.length list0:Int)))=true then (if 0≤i5 then (list0[i5.toNat]?).bind fun y_1=>(if (decide (y_1=n1))=true then some true else zkj_ k n list0 n1 (z0_ (i5+1)) e_0) else none) else e_0)
def zcl_ (k:Nat) (list0:List Int) (n1:Int):Option Bool:=zkj_ k k list0 n1 0 (some false)
def qbh_:Head:=⟨[(0,(.val (.sl 2 (.int .i64)))),(1,(.val (.int .i64))),(5,(.val (.int .i64)))],[],[]⟩
def qbi_:Head:=⟨[],[],[]⟩
def qbj_ (k n:Nat) (x:qbh_.T) (kx:Nat→St→Option Bool):Option Bool:=zkj_ k n x.1.1 x.1.2.1 x.1.2.2.1 (kx 0 (qbi_.fill ((),(),())))
def qbk_ (k:Nat):Oracles Bool:=⟨fun n=>bif Nat.beq n 2 then some (fun σ kx=>qbh_.get σ fun x=>qbj_ k k x kx) else none,fun _=>none⟩
def qbl_ (k:Nat):FE:=⟨(.pr (.sl 2 (.int .i64)) (.int .i64)),1,.bool,fun x=>zcl_ k x.1 x.2⟩
theorem qbm_ (k:Nat):zc_ (z3_ ti [] (lk []) z4_ z5_) (qbk_ k) (rdC (z3_ ti [] (lk []) z4_ z5_) [.tmp 4] .bool) ((zb_ (z2_ Tryz.f122)).getD 0 .skip) (fun σ kx=>qbh_.get σ fun x=>qbj_ k k x kx):=by
 refine ⟨qbh_,[(0,qbi_)],fun n x kx=>qbj_ k n x kx,k,by kernel_rfl,by kernel_rfl,fun x kx=>by kernel_rfl,?_,fun σ kx=>rfl⟩
 rintro n ⟨⟨list0,n1,i5,⟨⟩⟩,⟨⟩,⟨⟩⟩ kx
 kernel_rfl
theorem qbn_ (k:Nat):FnOK Tryz.prog 122 (qbl_ k):=by
 refine za_ (tab:=[]) (l:=[]) z7_ z9_ mix (List.forall_mem_nil _) (List.forall_mem_nil _) ⟨⟨Tryz.f122,(z2_ Tryz.f122),[.tmp 4],(qbk_ k),by kernel_rfl,by kernel_rfl,by kernel_rfl,by kernel_rfl,rfl,by decide,⟨by kernel_rfl,?_,?_⟩,?_⟩⟩
 ·refine zf_ (n:=1) (by kernel_rfl) fun i hi=>?_
  match i,hi with
  | 0,_=>exact zd_ (by kernel_rfl) (qbm_ k)
  | n+1,hi=>omega
 ·exact z8_ (by kernel_rfl)
 ·rintro ⟨list0,n1⟩
  kernel_rfl
def zp3_ (k:Nat) (n0:Int×Int×Int×List (Int×Int×Int)) (side1:List Int):Option Bool:=(zcd_ k side1 0 (z0_ (n0.1-1))).bind fun r_1=>(if r_1=true then (zcl_ k side1 n0.2.1).bind fun r_2=>(if r_2=true then (zcl_ k side1 n0.2.2.1).bind fun r_3=>some (!r_3) else some false) else some false)
def qbo_ (k:Nat):FE:=⟨(.pr (.ptr (.st (.pr (.int .i64) (.pr (.int .i64) (.pr (.int .i64) (.sl 138 (.st (.pr (.int .i64) (.pr (.int .i64) (.int .i64)))))))))) (.sl 2 (.int .i64))),1,.bool,fun x=>zp3_ k x.1 x.2⟩
theorem qbp_ (k:Nat):FnOK Tryz.prog 74 (qbo_ k):=by
 refine za_ (tab:=[(121,q2h_ k),(122,qbl_ k)]) (l:=[]) z7_ z9_ mix (List.forall_mem_cons.2 ⟨q2j_ k,(List.forall_mem_cons.2 ⟨qbn_ k,(List.forall_mem_nil _)⟩)⟩) (List.forall_mem_nil _) ⟨⟨Tryz.f74,(z2_ Tryz.f74),[.tmp 4],(LOn Bool),by kernel_rfl,by kernel_rfl,by kernel_rfl,by kernel_rfl,rfl,by decide,⟨by kernel_rfl,?_,?_⟩,?_⟩⟩
 ·exact ze_ (by kernel_rfl)
 ·exact z8_ (by kernel_rfl)
 ·rintro ⟨n0,side1⟩
  kernel_rfl
def zcm_ (k:Nat):Nat→(Int×Int×Int×List (Int×Int×Int))→(List Int)→Int→Int→(Int→Option Int)→Option Int
 | 0,_,_,_,_,_=>none
 | n+1,n0,side1,sum5,i6,e_0=>(if (decide (i6<(List.length n0.2.2.2:Int)))=true then (if 0≤i6 then (n0.2.2.2[i6.toNat]?).bind fun y_1=>(zcl_ k side1 y_1.1).bind fun r_2=>(if r_2=true then (if 0≤i6 then (n0.2.2.2[i6.toNat]?).bind fun y_3=>(zcl_ k side1 y_3.2.1).bind fun r_4=>(if (!r_4)=true then (if 0≤i6 then (n0.2.2.2[i6.toNat]?).bind fun y_5=>zcm_ k n n0 side1 (z0_ (sum5+y_5.2.2)) (z0_ (i6+1)) e_0 else none) else zcm_ k n n0 side1 sum5 (z0_ (i6+1)) e_0) else none) else zcm_ k n n0 side1 sum5 (z0_ (i6+1)) e_0) else none) else e_0 sum5)
def zp4_ (k:Nat) (n0:Int×Int×Int×List (Int×Int×Int)) (side1:List Int):Option Int:=zcm_ k k n0 side1 0 0 (fun sum_6=>some sum_6)
def qbq_:Head:=⟨[(0,(.val (.ptr (.st (.pr (.int .i64) (.pr (.int .i64) (.pr (.int .i64) (.sl 138 (.st (.pr (.int .i64) (.pr (.int .i64) (.int .i64)))))))))))),(1,(.val (.sl 2 (.int .i64)))),(5,(.val (.int .i64))),(6,(.val (.int .i64)))],[],[]⟩
def qbr_:Head:=⟨[(5,(.val (.int .i64)))],[],[]⟩
def qbs_ (k n:Nat) (x:qbq_.T) (kx:Nat→St→Option Int):Option Int:=zcm_ k n x.1.1 x.1.2.1 x.1.2.2.1 x.1.2.2.2.1 (fun (sum5:Int)=>kx 0 (qbr_.fill ((sum5,()),(),())))
def qbt_ (k:Nat):Oracles Int:=⟨fun n=>bif Nat.beq n 3 then some (fun σ kx=>qbq_.get σ fun x=>qbs_ k k x kx) else none,fun _=>none⟩
def qbu_ (k:Nat):FE:=⟨(.pr (.ptr (.st (.pr (.int .i64) (.pr (.int .i64) (.pr (.int .i64) (.sl 138 (.st (.pr (.int .i64) (.pr (.int .i64) (.int .i64)))))))))) (.sl 2 (.int .i64))),1,(.int .i64),fun x=>zp4_ k x.1 x.2⟩
theorem qbv_ (k:Nat):zc_ (z3_ ti [(122,qbl_ k)] (lk []) z4_ z5_) (qbt_ k) (rdC (z3_ ti [(122,qbl_ k)] (lk []) z4_ z5_) [.tmp 4] (.int .i64)) ((zb_ (z2_ Tryz.f75)).getD 0 .skip) (fun σ kx=>qbq_.get σ fun x=>qbs_ k k x kx):=by
 refine ⟨qbq_,[(0,qbr_)],fun n x kx=>qbs_ k n x kx,k,by kernel_rfl,by kernel_rfl,fun x kx=>by kernel_rfl,?_,fun σ kx=>rfl⟩
 rintro n ⟨⟨n0,side1,sum5,i6,⟨⟩⟩,⟨⟩,⟨⟩⟩ kx
 kernel_rfl
theorem qbw_ (k:Nat):FnOK Tryz.prog 75 (qbu_ k):=by
 refine za_ (tab:=[(122,qbl_ k)]) (l:=[]) z7_ z9_ mix (List.forall_mem_cons.2 ⟨qbn_ k,(List.forall_mem_nil _)⟩) (List.forall_mem_nil _) ⟨⟨Tryz.f75,(z2_ Tryz.f75),[.tmp 4],(qbt_ k),by kernel_rfl,by kernel_rfl,by kernel_rfl,by kernel_rfl,rfl,by decide,⟨by kernel_rfl,?_,?_⟩,?_⟩⟩
 ·refine zf_ (n:=1) (by kernel_rfl) fun i hi=>?_
  match i,hi with
  | 0,_=>exact zd_ (by kernel_rfl) (qbv_ k)
  | n+1,hi=>omega
 ·exact z8_ (by kernel_rfl)
 ·rintro ⟨n0,side1⟩
  kernel_rfl
def zp5_ (k:Nat) (w0:zT0×Int×List Int×List Int×(Int×Int×Int×List (Int×Int×Int))×List Int×List Int×(Int×Int×List (Int×Int×Int))×List Int):Option zT1:=(zp2_ k w0.2.2.2.2.1 w0.2.2.2.2.2.1).bind fun r_1=>(if (!r_1)=true then some [(4,([102,108,111,119],[110,111,110,101]))] else (zp3_ k w0.2.2.2.2.1 w0.2.2.2.2.2.2.1).bind fun r_2=>(if (!r_2)=true then some [(4,([115,105,100,101],[110,111,110,101]))] else (zp4_ k w0.2.2.2.2.1 w0.2.2.2.2.2.2.1).bind fun r_3=>(zkh_ k w0.2.2.2.2.1 w0.2.2.2.2.2.1 w0.2.2.2.2.1.2.2.1).bind fun r_4=>(if (!(decide ((z0_ (r_3-r_4))=0)))=true then (zai_ k (z0_ (r_3-r_4))).bind fun r_5=>some [(4,([114,101,115,116],r_5))] else some [])))
def qbx_ (k:Nat):FE:=⟨(.ptr (.st (.pr (.st (.pr (.st (.sl 25 (.sl 2 (.int .i64)))) (.pr (.int .i64) (.pr (.sl 2 (.int .i64)) (.sl 135 (.st (.pr (.int .i64) (.pr (.int .i64) (.pr (.int .i64) (.sl 2 (.int .i64))))))))))) (.pr (.int .i64) (.pr (.sl 2 (.int .i64)) (.pr (.sl 2 (.int .i64)) (.pr (.st (.pr (.int .i64) (.pr (.int .i64) (.pr (.int .i64) (.sl 138 (.st (.pr (.int .i64) (.pr (.int .i64) (.int .i64))))))))) (.pr (.sl 2 (.int .i64)) (.pr (.sl 2 (.int .i64)) (.pr (.st (.pr (.int .i64) (.pr (.int .i64) (.sl 133 (.st (.pr (.int .i64) (.pr (.int .i64) (.int .i64)))))))) (.sl 2 (.int .i64)))))))))))),1,(.sl 73 (.st (.pr (.int .i64) (.pr .str .str)))),fun x=>zp5_ k x⟩
theorem qby_ (k:Nat):FnOK Tryz.prog 41 (qbx_ k):=by
 refine za_ (tab:=[(73,qbd_ k),(74,qbo_ k),(75,qbu_ k),(76,qb3_ k),(77,q7g_ k)]) (l:=[]) z7_ z9_ mix (List.forall_mem_cons.2 ⟨qbg_ k,(List.forall_mem_cons.2 ⟨qbp_ k,(List.forall_mem_cons.2 ⟨qbw_ k,(List.forall_mem_cons.2 ⟨qb5_ k,(List.forall_mem_cons.2 ⟨q7j_ k,(List.forall_mem_nil _)⟩)⟩)⟩)⟩)⟩) (List.forall_mem_nil _) ⟨⟨Tryz.f41,(z2_ Tryz.f41),[.tmp 2],(LOn zT1),by kernel_rfl,by kernel_rfl,by kernel_rfl,by kernel_rfl,rfl,by decide,⟨by kernel_rfl,?_,?_⟩,?_⟩⟩
 ·exact ze_ (by kernel_rfl)
 ·exact z8_ (by kernel_rfl)
 ·rintro w0
  kernel_rfl
end
end Go.Proofs.YtioaaljaohhjiaaGreatDoor.Ev
