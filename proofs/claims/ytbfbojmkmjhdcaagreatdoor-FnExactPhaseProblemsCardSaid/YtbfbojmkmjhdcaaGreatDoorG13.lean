/- Functions of the program, as plain ones. No conditions. -/
import Derived.Test.YtbfbojmkmjhdcaaGreatDoorG12
import Derived.KernelRfl
set_option linter.unusedVariables false
set_option maxRecDepth 100000
namespace Go.Proofs.YtbfbojmkmjhdcaaGreatDoor.Ev
open Go.RowKit
noncomputable section
def z97_ (k:Nat):Nat→Int→Int→zT2→(Int→zT2→Option (((Int×Unit)×(zT2×Unit)×Unit)))→Option (((Int×Unit)×(zT2×Unit)×Unit))
 | 0,_,_,_,_=>none
 | n+1,k1,i5,q_2,e_0=>(if (decide (i5<(List.length q_2:Int)))=true then (if 0≤i5∧i5.toNat<List.length q_2 then (q_2[i5.toNat]?).bind fun y_3=>(q_2[i5.toNat]?).bind fun y_4=>(if 0≤i5∧i5.toNat<List.length (q_2.set i5.toNat (k1,y_3.2)) then ((q_2.set i5.toNat (k1,y_3.2))[i5.toNat]?).bind fun y_5=>((q_2.set i5.toNat (k1,y_3.2))[i5.toNat]?).bind fun y_6=>(if 0≤i5∧i5.toNat<List.length ((q_2.set i5.toNat (k1,y_3.2)).set i5.toNat (y_5.1,((z0_ (k1+1)),y_5.2.2))) then (((q_2.set i5.toNat (k1,y_3.2)).set i5.toNat (y_5.1,((z0_ (k1+1)),y_5.2.2)))[i5.toNat]?).bind fun y_7=>(((q_2.set i5.toNat (k1,y_3.2)).set i5.toNat (y_5.1,((z0_ (k1+1)),y_5.2.2)))[i5.toNat]?).bind fun y_8=>z97_ k n (z0_ ((z0_ ((z0_ (k1+1))+1))+1)) (z0_ (i5+1)) (((q_2.set i5.toNat (k1,y_3.2)).set i5.toNat (y_5.1,((z0_ (k1+1)),y_5.2.2))).set i5.toNat (y_7.1,(y_7.2.1,(z0_ ((z0_ (k1+1))+1))))) e_0 else none) else none) else none) else e_0 k1 q_2)
def zew_ (k:Nat) (k1:Int) (q_1:List (Int×Int×Int)):Option (((Int×Unit)×(zT2×Unit)×Unit)):=z97_ k k k1 0 q_1 (fun k_9 q_10=>some ((k_9,()),(q_10,()),()))
def qn2_:Head:=⟨[(0,(.ref 1000000000 [])),(1,(.val (.int .i64))),(5,(.val (.int .i64)))],[(1000000000,96,(.st (.pr (.int .i64) (.pr (.int .i64) (.int .i64)))),false)],[]⟩
def qn3_:Head:=⟨[(1,(.val (.int .i64)))],[(1000000000,96,(.st (.pr (.int .i64) (.pr (.int .i64) (.int .i64)))),false)],[]⟩
def qn4_ (k n:Nat) (x:qn2_.T) (kx:Nat→St→Option (((Int×Unit)×(zT2×Unit)×Unit))):Option (((Int×Unit)×(zT2×Unit)×Unit)):=z97_ k n x.1.2.1 x.1.2.2.1 x.2.1.1 (fun (k1:Int) (q_9:List (Int×Int×Int))=>kx 0 (qn3_.fill ((k1,()),(q_9,()),())))
def qn5_ (k:Nat):Oracles (((Int×Unit)×(zT2×Unit)×Unit)):=⟨fun n=>bif Nat.beq n 2 then some (fun σ kx=>qn2_.get σ fun x=>qn4_ k k x kx) else none,fun _=>none⟩
def qn6_:Head:=⟨[(0,(.ref 1000000000 [])),(1,(.val (.int .i64)))],[(1000000000,96,(.st (.pr (.int .i64) (.pr (.int .i64) (.int .i64)))),false)],[]⟩
def qn7_:Head:=⟨[(0,(.val (.int .i64)))],[(1000000000,96,(.st (.pr (.int .i64) (.pr (.int .i64) (.int .i64)))),false)],[]⟩
def qn8_ (k:Nat):OC:=⟨qn6_,qn7_,fun x=>zew_ k x.1.2.1 x.2.1.1,false⟩
theorem qn9_ (k:Nat) (pins:Nat→Value) (pinB:Nat→Nat):zc_ (z3_ ti [] (lk []) pins pinB) (qn5_ k) (rdO (z3_ ti [] (lk []) pins pinB) [.tmp 4] qn7_) ((zb_ (z2_ Tryz.f57)).getD 0 .skip) (fun σ kx=>qn2_.get σ fun x=>qn4_ k k x kx):=by
 refine ⟨qn2_,[(0,qn3_)],fun n x kx=>qn4_ k n x kx,k,by kernel_rfl,by kernel_rfl,fun x kx=>by kernel_rfl,?_,fun σ kx=>rfl⟩
 rintro n ⟨⟨⟨⟩,k1,i5,⟨⟩⟩,⟨q_2,⟨⟩⟩,⟨⟩⟩ kx
 kernel_rfl
theorem qna_ (k:Nat):z12_ Tryz.prog ti 57 (qn8_ k):=by
 refine z3j_ (tab:=[]) (l:=[]) z7_ z9_ mix (List.forall_mem_nil _) (List.forall_mem_nil _) ⟨by kernel_rfl,by kernel_rfl,by kernel_rfl,Tryz.f57,(z2_ Tryz.f57),[.tmp 4],(qn5_ k),by kernel_rfl,by kernel_rfl,by kernel_rfl,by kernel_rfl,Nat.le_of_ble_eq_true (by kernel_rfl),fun pins pinB=>⟨⟨by kernel_rfl,?_,?_⟩,?_⟩⟩
 ·refine zh_ (n:=1) (by kernel_rfl) fun i hi=>?_
  match i,hi with
  | 0,_=>exact zd_ (by kernel_rfl) (qn9_ k pins pinB)
  | n+1,hi=>omega
 ·exact z8_ (by kernel_rfl)
 ·rintro ⟨⟨⟨⟩,k1,⟨⟩⟩,⟨q_1,⟨⟩⟩,⟨⟩⟩
  kernel_rfl
def zia_ (k:Nat) (a0a:Int) (a0ba:Int) (k1:Int) (q_1:List (Int×Int×Int)):Option (((Int×Unit)×(zT2×Unit)×Unit)):=(zew_ k k1 q_1).bind fun y_2=>some ((y_2.1.1,()),(y_2.2.1.1,()),())
def qnb_:Head:=⟨[(0,(.st (.pr (.val (.int .i64)) (.pr (.val (.int .i64)) (.ref 1000000000 []))))),(1,(.val (.int .i64)))],[(1000000000,96,(.st (.pr (.int .i64) (.pr (.int .i64) (.int .i64)))),false)],[]⟩
def qnc_:Head:=⟨[(0,(.val (.int .i64)))],[(1000000000,96,(.st (.pr (.int .i64) (.pr (.int .i64) (.int .i64)))),false)],[]⟩
def qnd_ (k:Nat):OC:=⟨qnb_,qnc_,fun x=>zia_ k x.1.1.1 x.1.1.2.1 x.1.2.1 x.2.1.1,false⟩
theorem qne_ (k:Nat):z12_ Tryz.prog ti 32 (qnd_ k):=by
 refine z3j_ (tab:=[]) (l:=[(8,57,qn8_ k)]) z7_ z9_ mix (List.forall_mem_nil _) (List.forall_mem_cons.2 ⟨qna_ k,(List.forall_mem_nil _)⟩) ⟨by kernel_rfl,by kernel_rfl,by kernel_rfl,Tryz.f32,(z2_ Tryz.f32),[.tmp 4],(LOn (((Int×Unit)×(zT2×Unit)×Unit))),by kernel_rfl,by kernel_rfl,by kernel_rfl,by kernel_rfl,Nat.le_of_ble_eq_true (by kernel_rfl),fun pins pinB=>⟨⟨by kernel_rfl,?_,?_⟩,?_⟩⟩
 ·exact ze_ (by kernel_rfl)
 ·exact z8_ (by kernel_rfl)
 ·rintro ⟨⟨⟨a0a,⟨a0ba,⟨⟩⟩⟩,k1,⟨⟩⟩,⟨q_1,⟨⟩⟩,⟨⟩⟩
  kernel_rfl
def zbb_ (k:Nat) (a0aba:Int) (a0ba:Int) (a0bbbbaa:Int) (a0bbbbaba:Int) (a0bbbbabba:Int) (a0bbbbbbbaa:Int) (a0bbbbbbbaba:Int) (k1:Int) (q_1:List (List Int)) (q_2:List Int) (q_3:List (Int×Int×Int×List Int)) (q_4:List Int) (q_5:List Int) (q_6:List (Int×Int×Int)) (q_7:List Int) (q_8:List Int) (q_9:List (Int×Int×Int)) (q_10:List Int):Option (((Int×Unit)×((List Int)×zT2×(List Int)×(List Int)×zT2×(List Int)×(List Int)×zT3×(List Int)×zT4×Unit)×Unit)):=(zi8_ k a0aba k1 q_1 q_2 q_3).bind fun y_11=>(z57_ k y_11.1.1 q_4).bind fun y_12=>(z57_ k y_12.1.1 q_5).bind fun y_13=>(zi9_ k a0bbbbaa a0bbbbaba a0bbbbabba y_13.1.1 q_6).bind fun y_14=>(z57_ k y_14.1.1 q_7).bind fun y_15=>(z57_ k y_15.1.1 q_8).bind fun y_16=>(zia_ k a0bbbbbbbaa a0bbbbbbbaba y_16.1.1 q_9).bind fun y_17=>(z57_ k y_17.1.1 q_10).bind fun y_18=>some ((y_18.1.1,()),(y_18.2.1.1,y_17.2.1.1,y_16.2.1.1,y_15.2.1.1,y_14.2.1.1,y_13.2.1.1,y_12.2.1.1,y_11.2.1.1,y_11.2.1.2.1,y_11.2.1.2.2.1,()),())
def qnf_:Head:=⟨[(0,(.st (.pr (.st (.pr (.st (.ref 1000000000 [])) (.pr (.val (.int .i64)) (.pr (.ref 1000000001 []) (.ref 1000000002 []))))) (.pr (.val (.int .i64)) (.pr (.ref 1000000003 []) (.pr (.ref 1000000004 []) (.pr (.st (.pr (.val (.int .i64)) (.pr (.val (.int .i64)) (.pr (.val (.int .i64)) (.ref 1000000005 []))))) (.pr (.ref 1000000006 []) (.pr (.ref 1000000007 []) (.pr (.st (.pr (.val (.int .i64)) (.pr (.val (.int .i64)) (.ref 1000000008 [])))) (.ref 1000000009 []))))))))))),(1,(.val (.int .i64)))],[(1000000000,25,(.sl 2 (.int .i64)),false),(1000000001,2,(.int .i64),false),(1000000002,135,(.st (.pr (.int .i64) (.pr (.int .i64) (.pr (.int .i64) (.sl 2 (.int .i64)))))),false),(1000000003,2,(.int .i64),false),(1000000004,2,(.int .i64),false),(1000000005,138,(.st (.pr (.int .i64) (.pr (.int .i64) (.int .i64)))),false),(1000000006,2,(.int .i64),false),(1000000007,2,(.int .i64),false),(1000000008,96,(.st (.pr (.int .i64) (.pr (.int .i64) (.int .i64)))),false),(1000000009,2,(.int .i64),false)],[]⟩
def qng_:Head:=⟨[(0,(.val (.int .i64)))],[(1000000009,2,(.int .i64),false),(1000000008,96,(.st (.pr (.int .i64) (.pr (.int .i64) (.int .i64)))),false),(1000000007,2,(.int .i64),false),(1000000006,2,(.int .i64),false),(1000000005,138,(.st (.pr (.int .i64) (.pr (.int .i64) (.int .i64)))),false),(1000000004,2,(.int .i64),false),(1000000003,2,(.int .i64),false),(1000000002,135,(.st (.pr (.int .i64) (.pr (.int .i64) (.pr (.int .i64) (.sl 2 (.int .i64)))))),false),(1000000001,2,(.int .i64),false),(1000000000,25,(.sl 2 (.int .i64)),false)],[]⟩
def qnh_ (k:Nat):OC:=⟨qnf_,qng_,fun x=>zbb_ k x.1.1.1.2.1 x.1.1.2.1 x.1.1.2.2.2.2.1.1 x.1.1.2.2.2.2.1.2.1 x.1.1.2.2.2.2.1.2.2.1 x.1.1.2.2.2.2.2.2.2.1.1 x.1.1.2.2.2.2.2.2.2.1.2.1 x.1.2.1 x.2.1.1 x.2.1.2.1 x.2.1.2.2.1 x.2.1.2.2.2.1 x.2.1.2.2.2.2.1 x.2.1.2.2.2.2.2.1 x.2.1.2.2.2.2.2.2.1 x.2.1.2.2.2.2.2.2.2.1 x.2.1.2.2.2.2.2.2.2.2.1 x.2.1.2.2.2.2.2.2.2.2.2.1,false⟩
theorem qni_ (k:Nat):z12_ Tryz.prog ti 10 (qnh_ k):=by
 refine z3j_ (tab:=[]) (l:=[(8,29,qmn_ k),(12,30,qm0_ k),(16,30,qm0_ k),(20,31,qn0_ k),(24,30,qm0_ k),(28,30,qm0_ k),(32,32,qnd_ k),(36,30,qm0_ k)]) z7_ z9_ mix (List.forall_mem_nil _) (List.forall_mem_cons.2 ⟨qmo_ k,(List.forall_mem_cons.2 ⟨qm2_ k,(List.forall_mem_cons.2 ⟨qm2_ k,(List.forall_mem_cons.2 ⟨qn1_ k,(List.forall_mem_cons.2 ⟨qm2_ k,(List.forall_mem_cons.2 ⟨qm2_ k,(List.forall_mem_cons.2 ⟨qne_ k,(List.forall_mem_cons.2 ⟨qm2_ k,(List.forall_mem_nil _)⟩)⟩)⟩)⟩)⟩)⟩)⟩)⟩) ⟨by kernel_rfl,by kernel_rfl,by kernel_rfl,Tryz.f10,(z2_ Tryz.f10),[.tmp 4],(LOn (((Int×Unit)×((List Int)×zT2×(List Int)×(List Int)×zT2×(List Int)×(List Int)×zT3×(List Int)×zT4×Unit)×Unit))),by kernel_rfl,by kernel_rfl,by kernel_rfl,by kernel_rfl,Nat.le_of_ble_eq_true (by kernel_rfl),fun pins pinB=>⟨⟨by kernel_rfl,?_,?_⟩,?_⟩⟩
 ·exact ze_ (by kernel_rfl)
 ·exact z8_ (by kernel_rfl)
 ·rintro ⟨⟨⟨⟨⟨⟩,⟨a0aba,⟨⟨⟩,⟨⟩⟩⟩⟩,⟨a0ba,⟨⟨⟩,⟨⟨⟩,⟨⟨a0bbbbaa,⟨a0bbbbaba,⟨a0bbbbabba,⟨⟩⟩⟩⟩,⟨⟨⟩,⟨⟨⟩,⟨⟨a0bbbbbbbaa,⟨a0bbbbbbbaba,⟨⟩⟩⟩,⟨⟩⟩⟩⟩⟩⟩⟩⟩⟩,k1,⟨⟩⟩,⟨q_1,q_2,q_3,q_4,q_5,q_6,q_7,q_8,q_9,q_10,⟨⟩⟩,⟨⟩⟩
  kernel_rfl
def z70_ (k:Nat):Nat→Int→(List UInt8)→((List UInt8)→Option (List UInt8))→Option (List UInt8)
 | 0,_,_,_=>none
 | n+1,k0,out3,e_0=>(if (decide (0<k0))=true then (if (to_S [(w_u8 ((z0_ (48+(Int.tmod k0 10)))))]).length+out3.length≤9223372036854775807 then z70_ k n (z0_ (Int.tdiv k0 10)) ((to_S [(w_u8 ((z0_ (48+(Int.tmod k0 10)))))])++out3) e_0 else none) else e_0 out3)
def z58_ (k:Nat) (k0:Int):Option (List UInt8):=(if (decide (k0≤0))=true then some [109,48] else z70_ k k k0 [] (fun out_1=>(if [109].length+out_1.length≤9223372036854775807 then some ([109]++out_1) else none)))
def qnj_:Head:=⟨[(0,(.val (.int .i64))),(3,(.val .str))],[],[]⟩
def qnk_:Head:=⟨[(3,(.val .str))],[],[]⟩
def qnl_ (k n:Nat) (x:qnj_.T) (kx:Nat→St→Option (List UInt8)):Option (List UInt8):=z70_ k n x.1.1 x.1.2.1 (fun (out3:List UInt8)=>kx 0 (qnk_.fill ((out3,()),(),())))
def qnm_ (k:Nat):Oracles (List UInt8):=⟨fun n=>bif Nat.beq n 4 then some (fun σ kx=>qnj_.get σ fun x=>qnl_ k k x kx) else none,fun _=>none⟩
def qnn_ (k:Nat):FE:=⟨(.int .i64),1,.str,fun x=>z58_ k x⟩
theorem qno_ (k:Nat):zc_ (z3_ ti [] (lk []) z4_ z5_) (qnm_ k) (rdC (z3_ ti [] (lk []) z4_ z5_) [.tmp 2] .str) ((zb_ (z2_ Tryz.f33)).getD 0 .skip) (fun σ kx=>qnj_.get σ fun x=>qnl_ k k x kx):=by
 refine ⟨qnj_,[(0,qnk_)],fun n x kx=>qnl_ k n x kx,k,by kernel_rfl,by kernel_rfl,fun x kx=>by kernel_rfl,?_,fun σ kx=>rfl⟩
 rintro n ⟨⟨k0,out3,⟨⟩⟩,⟨⟩,⟨⟩⟩ kx
 kernel_rfl
theorem qnp_ (k:Nat):FnOK Tryz.prog 33 (qnn_ k):=by
 refine za_ (tab:=[]) (l:=[]) z7_ z9_ mix (List.forall_mem_nil _) (List.forall_mem_nil _) ⟨⟨Tryz.f33,(z2_ Tryz.f33),[.tmp 2],(qnm_ k),by kernel_rfl,by kernel_rfl,by kernel_rfl,by kernel_rfl,rfl,by decide,⟨by kernel_rfl,?_,?_⟩,?_⟩⟩
 ·refine zh_ (n:=1) (by kernel_rfl) fun i hi=>?_
  match i,hi with
  | 0,_=>exact zd_ (by kernel_rfl) (qno_ k)
  | n+1,hi=>omega
 ·exact z8_ (by kernel_rfl)
 ·rintro k0
  kernel_rfl
def z98_ (k:Nat):Nat→Int→Int→zT1→(Int→zT1→Option (((Int×Unit)×(zT1×Unit)×Unit)))→Option (((Int×Unit)×(zT1×Unit)×Unit))
 | 0,_,_,_,_=>none
 | n+1,k1,i5,q_2,e_0=>(if (decide (i5<(List.length q_2:Int)))=true then (if 0≤i5∧i5.toNat<List.length q_2 then (q_2[i5.toNat]?).bind fun y_3=>(q_2[i5.toNat]?).bind fun y_4=>(z58_ k (z0_ (k1+1))).bind fun r_5=>(if 0≤i5∧i5.toNat<List.length (q_2.set i5.toNat (k1,y_3.2)) then ((q_2.set i5.toNat (k1,y_3.2))[i5.toNat]?).bind fun y_6=>((q_2.set i5.toNat (k1,y_3.2))[i5.toNat]?).bind fun y_7=>(z58_ k (z0_ ((z0_ (k1+1))+1))).bind fun r_8=>(if 0≤i5∧i5.toNat<List.length ((q_2.set i5.toNat (k1,y_3.2)).set i5.toNat (y_6.1,(r_5,y_6.2.2))) then (((q_2.set i5.toNat (k1,y_3.2)).set i5.toNat (y_6.1,(r_5,y_6.2.2)))[i5.toNat]?).bind fun y_9=>(((q_2.set i5.toNat (k1,y_3.2)).set i5.toNat (y_6.1,(r_5,y_6.2.2)))[i5.toNat]?).bind fun y_10=>z98_ k n (z0_ ((z0_ ((z0_ (k1+1))+1))+1)) (z0_ (i5+1)) (((q_2.set i5.toNat (k1,y_3.2)).set i5.toNat (y_6.1,(r_5,y_6.2.2))).set i5.toNat (y_9.1,(y_9.2.1,r_8))) e_0 else none) else none) else none) else e_0 k1 q_2)
def zbc_ (k:Nat) (k1:Int) (q_1:List (Int×List UInt8×List UInt8)):Option (((Int×Unit)×(zT1×Unit)×Unit)):=z98_ k k k1 0 q_1 (fun k_11 q_12=>some ((k_11,()),(q_12,()),()))
def qnq_:Head:=⟨[(0,(.ref 1000000000 [])),(1,(.val (.int .i64))),(5,(.val (.int .i64)))],[(1000000000,73,(.st (.pr (.int .i64) (.pr .str .str))),false)],[]⟩
def qnr_:Head:=⟨[(1,(.val (.int .i64)))],[(1000000000,73,(.st (.pr (.int .i64) (.pr .str .str))),false)],[]⟩
def qns_ (k n:Nat) (x:qnq_.T) (kx:Nat→St→Option (((Int×Unit)×(zT1×Unit)×Unit))):Option (((Int×Unit)×(zT1×Unit)×Unit)):=z98_ k n x.1.2.1 x.1.2.2.1 x.2.1.1 (fun (k1:Int) (q_11:List (Int×List UInt8×List UInt8))=>kx 0 (qnr_.fill ((k1,()),(q_11,()),())))
def qnt_ (k:Nat):Oracles (((Int×Unit)×(zT1×Unit)×Unit)):=⟨fun n=>bif Nat.beq n 2 then some (fun σ kx=>qnq_.get σ fun x=>qns_ k k x kx) else none,fun _=>none⟩
def qnu_:Head:=⟨[(0,(.ref 1000000000 [])),(1,(.val (.int .i64)))],[(1000000000,73,(.st (.pr (.int .i64) (.pr .str .str))),false)],[]⟩
def qnv_:Head:=⟨[(0,(.val (.int .i64)))],[(1000000000,73,(.st (.pr (.int .i64) (.pr .str .str))),false)],[]⟩
def qnw_ (k:Nat):OC:=⟨qnu_,qnv_,fun x=>zbc_ k x.1.2.1 x.2.1.1,false⟩
theorem qnx_ (k:Nat) (pins:Nat→Value) (pinB:Nat→Nat):zc_ (z3_ ti [(33,qnn_ k)] (lk []) pins pinB) (qnt_ k) (rdO (z3_ ti [(33,qnn_ k)] (lk []) pins pinB) [.tmp 4] qnv_) ((zb_ (z2_ Tryz.f11)).getD 0 .skip) (fun σ kx=>qnq_.get σ fun x=>qns_ k k x kx):=by
 refine ⟨qnq_,[(0,qnr_)],fun n x kx=>qns_ k n x kx,k,by kernel_rfl,by kernel_rfl,fun x kx=>by kernel_rfl,?_,fun σ kx=>rfl⟩
 rintro n ⟨⟨⟨⟩,k1,i5,⟨⟩⟩,⟨q_2,⟨⟩⟩,⟨⟩⟩ kx
 kernel_rfl
theorem qny_ (k:Nat):z12_ Tryz.prog ti 11 (qnw_ k):=by
 refine z3j_ (tab:=[(33,qnn_ k)]) (l:=[]) z7_ z9_ mix (List.forall_mem_cons.2 ⟨qnp_ k,(List.forall_mem_nil _)⟩) (List.forall_mem_nil _) ⟨by kernel_rfl,by kernel_rfl,by kernel_rfl,Tryz.f11,(z2_ Tryz.f11),[.tmp 4],(qnt_ k),by kernel_rfl,by kernel_rfl,by kernel_rfl,by kernel_rfl,Nat.le_of_ble_eq_true (by kernel_rfl),fun pins pinB=>⟨⟨by kernel_rfl,?_,?_⟩,?_⟩⟩
 ·refine zh_ (n:=1) (by kernel_rfl) fun i hi=>?_
  match i,hi with
  | 0,_=>exact zd_ (by kernel_rfl) (qnx_ k pins pinB)
  | n+1,hi=>omega
 ·exact z8_ (by kernel_rfl)
 ·rintro ⟨⟨⟨⟩,k1,⟨⟩⟩,⟨q_1,⟨⟩⟩,⟨⟩⟩
  kernel_rfl
def z99_ (k:Nat):Nat→zT1→Int→Int→(Int→Option Int)→Option Int
 | 0,_,_,_,_=>none
 | n+1,a0,k1,i5,e_0=>(if (decide (i5<(List.length a0:Int)))=true then (if 0≤i5 then (a0[i5.toNat]?).bind fun y_1=>(if (!(decide (y_1.1=k1)))=true then some (-1) else (if 0≤i5 then (a0[i5.toNat]?).bind fun y_2=>(z58_ k (z0_ (k1+1))).bind fun r_3=>(if (!(decide (y_2.2.1=r_3)))=true then some (-1) else (if 0≤i5 then (a0[i5.toNat]?).bind fun y_4=>(z58_ k (z0_ ((z0_ (k1+1))+1))).bind fun r_5=>(if (!(decide (y_4.2.2=r_5)))=true then some (-1) else z99_ k n a0 (z0_ ((z0_ ((z0_ (k1+1))+1))+1)) (z0_ (i5+1)) e_0) else none)) else none)) else none) else e_0 k1)
def z9a_ (k:Nat) (a0:List (Int×List UInt8×List UInt8)) (k1:Int):Option Int:=z99_ k k a0 k1 0 (fun k_6=>some k_6)
def qnz_:Head:=⟨[(0,(.val (.sl 73 (.st (.pr (.int .i64) (.pr .str .str)))))),(1,(.val (.int .i64))),(5,(.val (.int .i64)))],[],[]⟩
def qo0_:Head:=⟨[(1,(.val (.int .i64)))],[],[]⟩
def qo1_ (k n:Nat) (x:qnz_.T) (kx:Nat→St→Option Int):Option Int:=z99_ k n x.1.1 x.1.2.1 x.1.2.2.1 (fun (k1:Int)=>kx 0 (qo0_.fill ((k1,()),(),())))
def qo2_ (k:Nat):Oracles Int:=⟨fun n=>bif Nat.beq n 2 then some (fun σ kx=>qnz_.get σ fun x=>qo1_ k k x kx) else none,fun _=>none⟩
def qo3_ (k:Nat):FE:=⟨(.pr (.sl 73 (.st (.pr (.int .i64) (.pr .str .str)))) (.int .i64)),1,(.int .i64),fun x=>z9a_ k x.1 x.2⟩
theorem qo4_ (k:Nat):zc_ (z3_ ti [(33,qnn_ k)] (lk []) z4_ z5_) (qo2_ k) (rdC (z3_ ti [(33,qnn_ k)] (lk []) z4_ z5_) [.tmp 4] (.int .i64)) ((zb_ (z2_ Tryz.f12)).getD 0 .skip) (fun σ kx=>qnz_.get σ fun x=>qo1_ k k x kx):=by
 refine ⟨qnz_,[(0,qo0_)],fun n x kx=>qo1_ k n x kx,k,by kernel_rfl,by kernel_rfl,fun x kx=>by kernel_rfl,?_,fun σ kx=>rfl⟩
 rintro n ⟨⟨a0,k1,i5,⟨⟩⟩,⟨⟩,⟨⟩⟩ kx
 kernel_rfl
theorem qo5_ (k:Nat):FnOK Tryz.prog 12 (qo3_ k):=by
 refine za_ (tab:=[(33,qnn_ k)]) (l:=[]) z7_ z9_ mix (List.forall_mem_cons.2 ⟨qnp_ k,(List.forall_mem_nil _)⟩) (List.forall_mem_nil _) ⟨⟨Tryz.f12,(z2_ Tryz.f12),[.tmp 4],(qo2_ k),by kernel_rfl,by kernel_rfl,by kernel_rfl,by kernel_rfl,rfl,by decide,⟨by kernel_rfl,?_,?_⟩,?_⟩⟩
 ·refine zh_ (n:=1) (by kernel_rfl) fun i hi=>?_
  match i,hi with
  | 0,_=>exact zd_ (by kernel_rfl) (qo4_ k)
  | n+1,hi=>omega
 ·exact z8_ (by kernel_rfl)
 ·rintro ⟨a0,k1⟩
  kernel_rfl
def zex_ (k:Nat) (aW0:zT0×Int×List Int×List Int×(Int×Int×Int×List (Int×Int×Int))×List Int×List Int×(Int×Int×List (Int×Int×Int))×List Int):Option Bool:=(zdo_ k aW0 1048576).bind fun r_1=>(if (decide (r_1<0))=true then some true else (z71_ k aW0).bind fun r_2=>(zey_ k ((r_2.1.1,(r_2.1.2.1,(r_2.1.2.2.1,r_2.1.2.2.2))),(r_2.2.1,(r_2.2.2.1,(r_2.2.2.2.1,((r_2.2.2.2.2.1.1,(r_2.2.2.2.2.1.2.1,(r_2.2.2.2.2.1.2.2.1,r_2.2.2.2.2.1.2.2.2))),(r_2.2.2.2.2.2.1,(r_2.2.2.2.2.2.2.1,((r_2.2.2.2.2.2.2.2.1.1,(r_2.2.2.2.2.2.2.2.1.2.1,r_2.2.2.2.2.2.2.2.1.2.2)),r_2.2.2.2.2.2.2.2.2))))))))).bind fun r_3=>(z71_ k aW0).bind fun r_4=>(zba_ k ((r_4.1.1,(r_4.1.2.1,(r_4.1.2.2.1,r_4.1.2.2.2))),(r_4.2.1,(r_4.2.2.1,(r_4.2.2.2.1,((r_4.2.2.2.2.1.1,(r_4.2.2.2.2.1.2.1,(r_4.2.2.2.2.1.2.2.1,r_4.2.2.2.2.1.2.2.2))),(r_4.2.2.2.2.2.1,(r_4.2.2.2.2.2.2.1,((r_4.2.2.2.2.2.2.2.1.1,(r_4.2.2.2.2.2.2.2.1.2.1,r_4.2.2.2.2.2.2.2.1.2.2)),r_4.2.2.2.2.2.2.2.2))))))))).bind fun r_5=>(z6z_ k r_5.1 r_3.1).bind fun r_6=>(if (!r_6)=true then some false else (if (!(decide (r_5.2=r_3.2)))=true then some false else (z71_ k aW0).bind fun r_7=>(zeq_ k ((r_4.1.1,(r_4.1.2.1,(r_4.1.2.2.1,r_4.1.2.2.2))),(r_4.2.1,(r_4.2.2.1,(r_4.2.2.2.1,((r_4.2.2.2.2.1.1,(r_4.2.2.2.2.1.2.1,(r_4.2.2.2.2.1.2.2.1,r_4.2.2.2.2.1.2.2.2))),(r_4.2.2.2.2.2.1,(r_4.2.2.2.2.2.2.1,((r_4.2.2.2.2.2.2.2.1.1,(r_4.2.2.2.2.2.2.2.1.2.1,r_4.2.2.2.2.2.2.2.1.2.2)),r_4.2.2.2.2.2.2.2.2)))))))) ((r_7.1.1,(r_7.1.2.1,(r_7.1.2.2.1,r_7.1.2.2.2))),(r_7.2.1,(r_7.2.2.1,(r_7.2.2.2.1,((r_7.2.2.2.2.1.1,(r_7.2.2.2.2.1.2.1,(r_7.2.2.2.2.1.2.2.1,r_7.2.2.2.2.1.2.2.2))),(r_7.2.2.2.2.2.1,(r_7.2.2.2.2.2.2.1,((r_7.2.2.2.2.2.2.2.1.1,(r_7.2.2.2.2.2.2.2.1.2.1,r_7.2.2.2.2.2.2.2.1.2.2)),r_7.2.2.2.2.2.2.2.2))))))))).bind fun r_8=>(if (!r_8)=true then some false else (zbb_ k r_4.1.2.1 r_4.2.1 r_4.2.2.2.2.1.1 r_4.2.2.2.2.1.2.1 r_4.2.2.2.2.1.2.2.1 r_4.2.2.2.2.2.2.2.1.1 r_4.2.2.2.2.2.2.2.1.2.1 1 r_4.1.1 r_4.1.2.2.1 r_4.1.2.2.2 r_4.2.2.1 r_4.2.2.2.1 r_4.2.2.2.2.1.2.2.2 r_4.2.2.2.2.2.1 r_4.2.2.2.2.2.2.1 r_4.2.2.2.2.2.2.2.1.2.2 r_4.2.2.2.2.2.2.2.2).bind fun y_9=>(if (decide (y_9.1.1<0))=true then some false else (z6z_ k r_5.1 r_3.1).bind fun r_10=>(if (!r_10)=true then some false else (if (!(decide (r_5.2=r_3.2)))=true then some false else (zbc_ k 1 r_5.1).bind fun y_11=>(z9a_ k y_11.2.1.1 1).bind fun r_12=>(if (decide (r_12<0))=true then some false else (if (!(decide (r_12=y_11.1.1)))=true then some false else (z71_ k aW0).bind fun r_13=>(zba_ k ((r_13.1.1,(r_13.1.2.1,(r_13.1.2.2.1,r_13.1.2.2.2))),(r_13.2.1,(r_13.2.2.1,(r_13.2.2.2.1,((r_13.2.2.2.2.1.1,(r_13.2.2.2.2.1.2.1,(r_13.2.2.2.2.1.2.2.1,r_13.2.2.2.2.1.2.2.2))),(r_13.2.2.2.2.2.1,(r_13.2.2.2.2.2.2.1,((r_13.2.2.2.2.2.2.2.1.1,(r_13.2.2.2.2.2.2.2.1.2.1,r_13.2.2.2.2.2.2.2.1.2.2)),r_13.2.2.2.2.2.2.2.2))))))))).bind fun r_14=>(z6z_ k r_14.1 r_3.1).bind fun r_15=>(if (!r_15)=true then some false else (if (!(decide (r_14.2=r_3.2)))=true then some false else (z9a_ k y_11.2.1.1 1).bind fun r_16=>(if (decide (r_16<0))=true then some false else (if (!(decide (r_16=y_11.1.1)))=true then some false else some true)))))))))))))
def qo6_ (k:Nat):FE:=⟨(.st (.pr (.st (.pr (.st (.sl 25 (.sl 2 (.int .i64)))) (.pr (.int .i64) (.pr (.sl 2 (.int .i64)) (.sl 110 (.st (.pr (.int .i64) (.pr (.int .i64) (.pr (.int .i64) (.sl 2 (.int .i64))))))))))) (.pr (.int .i64) (.pr (.sl 2 (.int .i64)) (.pr (.sl 2 (.int .i64)) (.pr (.st (.pr (.int .i64) (.pr (.int .i64) (.pr (.int .i64) (.sl 140 (.st (.pr (.int .i64) (.pr (.int .i64) (.int .i64))))))))) (.pr (.sl 2 (.int .i64)) (.pr (.sl 2 (.int .i64)) (.pr (.st (.pr (.int .i64) (.pr (.int .i64) (.sl 142 (.st (.pr (.int .i64) (.pr (.int .i64) (.int .i64)))))))) (.sl 2 (.int .i64))))))))))),1,.bool,fun x=>zex_ k x⟩
theorem zte_ (k:Nat):FnOK Tryz.prog 3 (qo6_ k):=by
 refine za_ (tab:=[(4,qu_ k),(6,q29_ k),(5,qcf_ k),(7,qji_ k),(8,qjq_ k),(9,ql6_ k),(12,qo3_ k)]) (l:=[(48,10,qnh_ k),(64,11,qnw_ k)]) z7_ z9_ mix (List.forall_mem_cons.2 ⟨qv_ k,(List.forall_mem_cons.2 ⟨q2a_ k,(List.forall_mem_cons.2 ⟨qcg_ k,(List.forall_mem_cons.2 ⟨qjj_ k,(List.forall_mem_cons.2 ⟨qjs_ k,(List.forall_mem_cons.2 ⟨ql7_ k,(List.forall_mem_cons.2 ⟨qo5_ k,(List.forall_mem_nil _)⟩)⟩)⟩)⟩)⟩)⟩)⟩) (List.forall_mem_cons.2 ⟨qni_ k,(List.forall_mem_cons.2 ⟨qny_ k,(List.forall_mem_nil _)⟩)⟩) ⟨⟨Tryz.f3,(z2_ Tryz.f3),[.tmp 2],(LOn Bool),by kernel_rfl,by kernel_rfl,by kernel_rfl,by kernel_rfl,rfl,by decide,⟨by kernel_rfl,?_,?_⟩,?_⟩⟩
 ·exact ze_ (by kernel_rfl)
 ·exact z8_ (by kernel_rfl)
 ·rintro aW0
  kernel_rfl
end
end Go.Proofs.YtbfbojmkmjhdcaaGreatDoor.Ev
