/- Functions of the program, as plain ones. No conditions. -/
import Derived.Test.YtioaaljaohhjiaaGreatDoorG3
import Derived.KernelRfl
set_option linter.unusedVariables false
set_option maxRecDepth 100000
namespace Go.Proofs.YtioaaljaohhjiaaGreatDoor.Ev
open Go.RowKit
noncomputable section
def zgq_ (k:Nat):Nat→(Int×Int×Int×List Int)→(Int×Int×Int×List Int)→Int→Int→Int→Int→(List Int)→(List Int)→Int→Int→Int→Int→Int→Int→((Int×Int×Int×List Int)→(Int×Int×Int×List Int)→Int→Int→Int→(List Int)→(List Int)→Int→Int→Int→Int→Int→Int→Option (Int×Int×Int×List Int))→Option (Int×Int×Int×List Int)
 | 0,_,_,_,_,_,_,_,_,_,_,_,_,_,_,_=>none
 | n+1,a0,b1,i6,k7,sum8,j9,q_6,q_7,v_4a,v_4ba,v_4bba,v_5a,v_5ba,v_5bba,e_4=>(if (decide (j9<a0.2.2.1))=true then (if 0≤(z0_ ((z0_ (i6*a0.2.2.1))+j9)) then (a0.2.2.2[(z0_ ((z0_ (i6*a0.2.2.1))+j9)).toNat]?).bind fun y_8=>(if 0≤(z0_ ((z0_ (j9*b1.2.2.1))+k7)) then (b1.2.2.2[(z0_ ((z0_ (j9*b1.2.2.1))+k7)).toNat]?).bind fun y_9=>zgq_ k n a0 b1 i6 k7 (z0_ (sum8+(z0_ (y_8*y_9)))) (z0_ (j9+1)) q_6 q_7 v_4a v_4ba v_4bba v_5a v_5ba v_5bba e_4 else none) else none) else e_4 a0 b1 i6 k7 sum8 q_6 q_7 v_4a v_4ba v_4bba v_5a v_5ba v_5bba)
def zgr_ (k:Nat):Nat→(Int×Int×Int×List Int)→(Int×Int×Int×List Int)→Int→Int→(List Int)→(List Int)→Int→Int→Int→Int→Int→Int→((Int×Int×Int×List Int)→(Int×Int×Int×List Int)→Int→(List Int)→(List Int)→Int→Int→Int→Int→Int→Int→Option (Int×Int×Int×List Int))→Option (Int×Int×Int×List Int)
 | 0,_,_,_,_,_,_,_,_,_,_,_,_,_=>none
 | n+1,a0,b1,i6,k7,q_4,q_5,v_4a,v_4ba,v_4bba,v_5a,v_5ba,v_5bba,e_2=>(if (decide (k7<b1.2.2.1))=true then zgq_ k k a0 b1 i6 k7 0 0 q_4 q_5 v_4a v_4ba v_4bba v_5a v_5ba v_5bba (fun a_6 b_7 i_8 k_9 sum_10 q_11 q_12 v_4a_13 v_4ba_14 v_4bba_15 v_5a_16 v_5ba_17 v_5bba_18=>(if a_6.1=0 then none else (if 0≤(z0_ ((z0_ (i_8*b_7.2.2.1))+k_9))∧(z0_ ((z0_ (i_8*b_7.2.2.1))+k_9)).toNat<List.length q_12 then (q_12[(z0_ ((z0_ (i_8*b_7.2.2.1))+k_9)).toNat]?).bind fun y_19=>(q_12[(z0_ ((z0_ (i_8*b_7.2.2.1))+k_9)).toNat]?).bind fun y_20=>zgr_ k n a_6 b_7 i_8 (z0_ (k_9+1)) q_11 (q_12.set ((z0_ ((z0_ (i_8*b_7.2.2.1))+k_9)).toNat) (Int.tmod sum_10 a_6.1)) v_4a_13 v_4ba_14 v_4bba_15 v_5a_16 v_5ba_17 v_5bba_18 e_2 else none))) else e_2 a0 b1 i6 q_4 q_5 v_4a v_4ba v_4bba v_5a v_5ba v_5bba)
def zgs_ (k:Nat):Nat→(Int×Int×Int×List Int)→(Int×Int×Int×List Int)→Int→(List Int)→(List Int)→Int→Int→Int→Int→Int→Int→((List Int)→(List Int)→Int→Int→Int→Int→Int→Int→Option (Int×Int×Int×List Int))→Option (Int×Int×Int×List Int)
 | 0,_,_,_,_,_,_,_,_,_,_,_,_=>none
 | n+1,a0,b1,i6,q_2,q_3,v_4a,v_4ba,v_4bba,v_5a,v_5ba,v_5bba,e_0=>(if (decide (i6<a0.2.1))=true then zgr_ k k a0 b1 i6 0 q_2 q_3 v_4a v_4ba v_4bba v_5a v_5ba v_5bba (fun a_4 b_5 i_6 q_7 q_8 v_4a_9 v_4ba_10 v_4bba_11 v_5a_12 v_5ba_13 v_5bba_14=>zgs_ k n a_4 b_5 (z0_ (i_6+1)) q_7 q_8 v_4a_9 v_4ba_10 v_4bba_11 v_5a_12 v_5ba_13 v_5bba_14 e_0) else e_0 q_2 q_3 v_4a v_4ba v_4bba v_5a v_5ba v_5bba)
def zk8_ (k:Nat) (a0:Int×Int×Int×List Int) (b1:Int×Int×Int×List Int):Option (Int×Int×Int×List Int):=(zcf_ a0.1 a0.2.1 b1.2.2.1).bind fun r_1=>zgs_ k k a0 b1 0 [] r_1.2.2.2 0 0 0 r_1.1 r_1.2.1 r_1.2.2.1 (fun q_15 q_16 v_4a_17 v_4ba_18 v_4bba_19 v_5a_20 v_5ba_21 v_5bba_22=>some (v_5a_20,(v_5ba_21,(v_5bba_22,q_16))))
def q66_:Head:=⟨[(0,(.val (.ptr (.st (.pr (.int .i64) (.pr (.int .i64) (.pr (.int .i64) (.sl 2 (.int .i64))))))))),(1,(.val (.ptr (.st (.pr (.int .i64) (.pr (.int .i64) (.pr (.int .i64) (.sl 2 (.int .i64))))))))),(4,(.bp 4 [] 0)),(5,(.bp 5 [] 0)),(6,(.val (.int .i64))),(7,(.val (.int .i64))),(8,(.val (.int .i64))),(9,(.val (.int .i64)))],[(64000000,2,(.int .i64),false),(64000001,2,(.int .i64),false)],[(4,135,(.st (.pr (.val (.int .i64)) (.pr (.val (.int .i64)) (.pr (.val (.int .i64)) (.ref 64000000 [])))))),(5,135,(.st (.pr (.val (.int .i64)) (.pr (.val (.int .i64)) (.pr (.val (.int .i64)) (.ref 64000001 []))))))]⟩
def q67_:Head:=⟨[(0,(.val (.ptr (.st (.pr (.int .i64) (.pr (.int .i64) (.pr (.int .i64) (.sl 2 (.int .i64))))))))),(1,(.val (.ptr (.st (.pr (.int .i64) (.pr (.int .i64) (.pr (.int .i64) (.sl 2 (.int .i64))))))))),(4,(.bp 4 [] 0)),(5,(.bp 5 [] 0)),(6,(.val (.int .i64))),(7,(.val (.int .i64))),(8,(.val (.int .i64)))],[(64000000,2,(.int .i64),false),(64000001,2,(.int .i64),false)],[(4,135,(.st (.pr (.val (.int .i64)) (.pr (.val (.int .i64)) (.pr (.val (.int .i64)) (.ref 64000000 [])))))),(5,135,(.st (.pr (.val (.int .i64)) (.pr (.val (.int .i64)) (.pr (.val (.int .i64)) (.ref 64000001 []))))))]⟩
def q68_ (k n:Nat) (x:q66_.T) (kx:Nat→St→Option (Int×Int×Int×List Int)):Option (Int×Int×Int×List Int):=zgq_ k n x.1.1 x.1.2.1 x.1.2.2.2.2.1 x.1.2.2.2.2.2.1 x.1.2.2.2.2.2.2.1 x.1.2.2.2.2.2.2.2.1 x.2.1.1 x.2.1.2.1 x.2.2.1.1 x.2.2.1.2.1 x.2.2.1.2.2.1 x.2.2.2.1.1 x.2.2.2.1.2.1 x.2.2.2.1.2.2.1 (fun (a0:Int×Int×Int×List Int) (b1:Int×Int×Int×List Int) (i6:Int) (k7:Int) (sum8:Int) (q_10:List Int) (q_11:List Int) (v_4a:Int) (v_4ba:Int) (v_4bba:Int) (v_5a:Int) (v_5ba:Int) (v_5bba:Int)=>kx 4 (q67_.fill ((a0,b1,(),(),i6,k7,sum8,()),(q_10,q_11,()),((v_4a,(v_4ba,(v_4bba,()))),(v_5a,(v_5ba,(v_5bba,()))),()))))
def q69_:Head:=⟨[(0,(.val (.ptr (.st (.pr (.int .i64) (.pr (.int .i64) (.pr (.int .i64) (.sl 2 (.int .i64))))))))),(1,(.val (.ptr (.st (.pr (.int .i64) (.pr (.int .i64) (.pr (.int .i64) (.sl 2 (.int .i64))))))))),(4,(.bp 4 [] 0)),(5,(.bp 5 [] 0)),(6,(.val (.int .i64))),(7,(.val (.int .i64)))],[(64000000,2,(.int .i64),false),(64000001,2,(.int .i64),false)],[(4,135,(.st (.pr (.val (.int .i64)) (.pr (.val (.int .i64)) (.pr (.val (.int .i64)) (.ref 64000000 [])))))),(5,135,(.st (.pr (.val (.int .i64)) (.pr (.val (.int .i64)) (.pr (.val (.int .i64)) (.ref 64000001 []))))))]⟩
def q6a_:Head:=⟨[(0,(.val (.ptr (.st (.pr (.int .i64) (.pr (.int .i64) (.pr (.int .i64) (.sl 2 (.int .i64))))))))),(1,(.val (.ptr (.st (.pr (.int .i64) (.pr (.int .i64) (.pr (.int .i64) (.sl 2 (.int .i64))))))))),(4,(.bp 4 [] 0)),(5,(.bp 5 [] 0)),(6,(.val (.int .i64)))],[(64000000,2,(.int .i64),false),(64000001,2,(.int .i64),false)],[(4,135,(.st (.pr (.val (.int .i64)) (.pr (.val (.int .i64)) (.pr (.val (.int .i64)) (.ref 64000000 [])))))),(5,135,(.st (.pr (.val (.int .i64)) (.pr (.val (.int .i64)) (.pr (.val (.int .i64)) (.ref 64000001 []))))))]⟩
def q6b_ (k n:Nat) (x:q69_.T) (kx:Nat→St→Option (Int×Int×Int×List Int)):Option (Int×Int×Int×List Int):=zgr_ k n x.1.1 x.1.2.1 x.1.2.2.2.2.1 x.1.2.2.2.2.2.1 x.2.1.1 x.2.1.2.1 x.2.2.1.1 x.2.2.1.2.1 x.2.2.1.2.2.1 x.2.2.2.1.1 x.2.2.2.1.2.1 x.2.2.2.1.2.2.1 (fun (a0:Int×Int×Int×List Int) (b1:Int×Int×Int×List Int) (i6:Int) (q_25:List Int) (q_26:List Int) (v_4a:Int) (v_4ba:Int) (v_4bba:Int) (v_5a:Int) (v_5ba:Int) (v_5bba:Int)=>kx 2 (q6a_.fill ((a0,b1,(),(),i6,()),(q_25,q_26,()),((v_4a,(v_4ba,(v_4bba,()))),(v_5a,(v_5ba,(v_5bba,()))),()))))
def q6c_:Head:=⟨[(0,(.val (.ptr (.st (.pr (.int .i64) (.pr (.int .i64) (.pr (.int .i64) (.sl 2 (.int .i64))))))))),(1,(.val (.ptr (.st (.pr (.int .i64) (.pr (.int .i64) (.pr (.int .i64) (.sl 2 (.int .i64))))))))),(4,(.bp 4 [] 0)),(5,(.bp 5 [] 0)),(6,(.val (.int .i64)))],[(64000000,2,(.int .i64),false),(64000001,2,(.int .i64),false)],[(4,135,(.st (.pr (.val (.int .i64)) (.pr (.val (.int .i64)) (.pr (.val (.int .i64)) (.ref 64000000 [])))))),(5,135,(.st (.pr (.val (.int .i64)) (.pr (.val (.int .i64)) (.pr (.val (.int .i64)) (.ref 64000001 []))))))]⟩
def q6d_:Head:=⟨[(4,(.bp 4 [] 0)),(5,(.bp 5 [] 0))],[(64000000,2,(.int .i64),false),(64000001,2,(.int .i64),false)],[(4,135,(.st (.pr (.val (.int .i64)) (.pr (.val (.int .i64)) (.pr (.val (.int .i64)) (.ref 64000000 [])))))),(5,135,(.st (.pr (.val (.int .i64)) (.pr (.val (.int .i64)) (.pr (.val (.int .i64)) (.ref 64000001 []))))))]⟩
def q6e_ (k n:Nat) (x:q6c_.T) (kx:Nat→St→Option (Int×Int×Int×List Int)):Option (Int×Int×Int×List Int):=zgs_ k n x.1.1 x.1.2.1 x.1.2.2.2.2.1 x.2.1.1 x.2.1.2.1 x.2.2.1.1 x.2.2.1.2.1 x.2.2.1.2.2.1 x.2.2.2.1.1 x.2.2.2.1.2.1 x.2.2.2.1.2.2.1 (fun (q_32:List Int) (q_33:List Int) (v_4a:Int) (v_4ba:Int) (v_4bba:Int) (v_5a:Int) (v_5ba:Int) (v_5bba:Int)=>kx 0 (q6d_.fill (((),(),()),(q_32,q_33,()),((v_4a,(v_4ba,(v_4bba,()))),(v_5a,(v_5ba,(v_5bba,()))),()))))
def q6f_ (k:Nat):Oracles (Int×Int×Int×List Int):=⟨fun n=>bif Nat.beq n 10 then some (fun σ kx=>q66_.get σ fun x=>q68_ k k x kx) else bif Nat.beq n 6 then some (fun σ kx=>q69_.get σ fun x=>q6b_ k k x kx) else bif Nat.beq n 3 then some (fun σ kx=>q6c_.get σ fun x=>q6e_ k k x kx) else none,fun _=>none⟩
def q6g_ (k:Nat):FE:=⟨(.pr (.ptr (.st (.pr (.int .i64) (.pr (.int .i64) (.pr (.int .i64) (.sl 2 (.int .i64))))))) (.ptr (.st (.pr (.int .i64) (.pr (.int .i64) (.pr (.int .i64) (.sl 2 (.int .i64)))))))),1,(.st (.pr (.int .i64) (.pr (.int .i64) (.pr (.int .i64) (.sl 2 (.int .i64)))))),fun x=>zk8_ k x.1 x.2⟩
theorem q6h_ (k:Nat):zc_ (z3_ ti [(158,q64_)] (lk []) z4_ z5_) (q6f_ k) (rdC (z3_ ti [(158,q64_)] (lk []) z4_ z5_) [.cell 4 135] (.st (.pr (.int .i64) (.pr (.int .i64) (.pr (.int .i64) (.sl 2 (.int .i64))))))) ((zb_ (z2_ Tryz.f156)).getD 2 .skip) (fun σ kx=>q66_.get σ fun x=>q68_ k k x kx):=by
 refine ⟨q66_,[(4,q67_)],fun n x kx=>q68_ k n x kx,k,by kernel_rfl,by kernel_rfl,fun x kx=>by kernel_rfl,?_,fun σ kx=>rfl⟩
 rintro n ⟨⟨a0,b1,⟨⟩,⟨⟩,i6,k7,sum8,j9,⟨⟩⟩,⟨q_6,q_7,⟨⟩⟩,⟨⟨v_4a,⟨v_4ba,⟨v_4bba,⟨⟩⟩⟩⟩,⟨v_5a,⟨v_5ba,⟨v_5bba,⟨⟩⟩⟩⟩,⟨⟩⟩⟩ kx
 refine id (α:=zgq_ k (n+1) a0 b1 i6 k7 sum8 j9 q_6 q_7 v_4a v_4ba v_4bba v_5a v_5ba v_5bba _=_) ?_
 kernel_rfl
theorem q6i_ (k:Nat):zc_ (z3_ ti [(158,q64_)] (lk []) z4_ z5_) (q6f_ k) (rdC (z3_ ti [(158,q64_)] (lk []) z4_ z5_) [.cell 4 135] (.st (.pr (.int .i64) (.pr (.int .i64) (.pr (.int .i64) (.sl 2 (.int .i64))))))) ((zb_ (z2_ Tryz.f156)).getD 1 .skip) (fun σ kx=>q69_.get σ fun x=>q6b_ k k x kx):=by
 refine ⟨q69_,[(2,q6a_)],fun n x kx=>q6b_ k n x kx,k,by kernel_rfl,by kernel_rfl,fun x kx=>by kernel_rfl,?_,fun σ kx=>rfl⟩
 rintro n ⟨⟨a0,b1,⟨⟩,⟨⟩,i6,k7,⟨⟩⟩,⟨q_4,q_5,⟨⟩⟩,⟨⟨v_4a,⟨v_4ba,⟨v_4bba,⟨⟩⟩⟩⟩,⟨v_5a,⟨v_5ba,⟨v_5bba,⟨⟩⟩⟩⟩,⟨⟩⟩⟩ kx
 refine id (α:=zgr_ k (n+1) a0 b1 i6 k7 q_4 q_5 v_4a v_4ba v_4bba v_5a v_5ba v_5bba _=_) ?_
 kernel_rfl
theorem q6j_ (k:Nat):zc_ (z3_ ti [(158,q64_)] (lk []) z4_ z5_) (q6f_ k) (rdC (z3_ ti [(158,q64_)] (lk []) z4_ z5_) [.cell 4 135] (.st (.pr (.int .i64) (.pr (.int .i64) (.pr (.int .i64) (.sl 2 (.int .i64))))))) ((zb_ (z2_ Tryz.f156)).getD 0 .skip) (fun σ kx=>q6c_.get σ fun x=>q6e_ k k x kx):=by
 refine ⟨q6c_,[(0,q6d_)],fun n x kx=>q6e_ k n x kx,k,by kernel_rfl,by kernel_rfl,fun x kx=>by kernel_rfl,?_,fun σ kx=>rfl⟩
 rintro n ⟨⟨a0,b1,⟨⟩,⟨⟩,i6,⟨⟩⟩,⟨q_2,q_3,⟨⟩⟩,⟨⟨v_4a,⟨v_4ba,⟨v_4bba,⟨⟩⟩⟩⟩,⟨v_5a,⟨v_5ba,⟨v_5bba,⟨⟩⟩⟩⟩,⟨⟩⟩⟩ kx
 refine id (α:=zgs_ k (n+1) a0 b1 i6 q_2 q_3 v_4a v_4ba v_4bba v_5a v_5ba v_5bba _=_) ?_
 kernel_rfl
theorem q6k_ (k:Nat):FnOK Tryz.prog 156 (q6g_ k):=by
 refine za_ (tab:=[(158,q64_)]) (l:=[]) z7_ z9_ mix (List.forall_mem_cons.2 ⟨q65_,(List.forall_mem_nil _)⟩) (List.forall_mem_nil _) ⟨⟨Tryz.f156,(z2_ Tryz.f156),[.cell 4 135],(q6f_ k),by kernel_rfl,by kernel_rfl,by kernel_rfl,by kernel_rfl,rfl,by decide,⟨by kernel_rfl,?_,?_⟩,?_⟩⟩
 ·refine zf_ (n:=3) (by kernel_rfl) fun i hi=>?_
  match i,hi with
  | 0,_=>exact zd_ (by kernel_rfl) (q6j_ k)
  | 1,_=>exact zd_ (by kernel_rfl) (q6i_ k)
  | 2,_=>exact zd_ (by kernel_rfl) (q6h_ k)
  | n+3,hi=>omega
 ·exact z8_ (by kernel_rfl)
 ·rintro ⟨a0,b1⟩
  kernel_rfl
def zk9_ (k:Nat) (s0:List (List Int)×Int×List Int×List (Int×Int×Int×List Int)) (simplex1:Int) (i2:Int) (j3:Int):Option (Int×Int×Int×List Int):=(zaf_ k s0.1 simplex1).bind fun r_1=>(if 0≤i2∧i2.toNat<List.length r_1 then (r_1[i2.toNat]?).bind fun y_2=>(if (decide (i2<j3))=true then (z6k_ k s0 simplex1 i2).bind fun r_3=>(z6k_ k s0 y_2 (z0_ (j3-1))).bind fun r_4=>(zk8_ k r_3 r_4).bind fun r_5=>some (r_5.1,(r_5.2.1,(r_5.2.2.1,r_5.2.2.2))) else (z6k_ k s0 simplex1 i2).bind fun r_6=>(z6k_ k s0 y_2 j3).bind fun r_7=>(zk8_ k r_6 r_7).bind fun r_8=>some (r_8.1,(r_8.2.1,(r_8.2.2.1,r_8.2.2.2)))) else none)
def q6l_ (k:Nat):FE:=⟨(.pr (.ptr (.st (.pr (.st (.sl 25 (.sl 2 (.int .i64)))) (.pr (.int .i64) (.pr (.sl 2 (.int .i64)) (.sl 135 (.st (.pr (.int .i64) (.pr (.int .i64) (.pr (.int .i64) (.sl 2 (.int .i64)))))))))))) (.pr (.int .i64) (.pr (.int .i64) (.int .i64)))),1,(.st (.pr (.int .i64) (.pr (.int .i64) (.pr (.int .i64) (.sl 2 (.int .i64)))))),fun x=>zk9_ k x.1 x.2.1 x.2.2.1 x.2.2.2⟩
theorem q6m_ (k:Nat):FnOK Tryz.prog 113 (q6l_ k):=by
 refine za_ (tab:=[(154,q50_ k),(157,q62_ k),(156,q6g_ k)]) (l:=[]) z7_ z9_ mix (List.forall_mem_cons.2 ⟨q52_ k,(List.forall_mem_cons.2 ⟨q63_ k,(List.forall_mem_cons.2 ⟨q6k_ k,(List.forall_mem_nil _)⟩)⟩)⟩) (List.forall_mem_nil _) ⟨⟨Tryz.f113,(z2_ Tryz.f113),[.cell 8 135],(LOn (Int×Int×Int×List Int)),by kernel_rfl,by kernel_rfl,by kernel_rfl,by kernel_rfl,rfl,by decide,⟨by kernel_rfl,?_,?_⟩,?_⟩⟩
 ·exact ze_ (by kernel_rfl)
 ·exact z8_ (by kernel_rfl)
 ·rintro ⟨s0,simplex1,i2,j3⟩
  kernel_rfl
def zka_ (k:Nat):Nat→(Int×Int×Int×List Int)→(Int×Int×Int×List Int)→Int→(Option Bool)→Option Bool
 | 0,_,_,_,_=>none
 | n+1,a0,b1,i5,e_0=>(if (decide (i5<(List.length a0.2.2.2:Int)))=true then (if 0≤i5 then (a0.2.2.2[i5.toNat]?).bind fun y_1=>(if 0≤i5 then (b1.2.2.2[i5.toNat]?).bind fun y_2=>(if (!(decide (y_1=y_2)))=true then some false else zka_ k n a0 b1 (z0_ (i5+1)) e_0) else none) else none) else e_0)
def zou_ (k:Nat) (a0:Int×Int×Int×List Int) (b1:Int×Int×Int×List Int):Option Bool:=(if (!(decide (a0.1=b1.1)))=true then some false else (if (!(decide (a0.2.1=b1.2.1)))=true then some false else (if (!(decide (a0.2.2.1=b1.2.2.1)))=true then some false else (if (!(decide ((List.length a0.2.2.2:Int)=(List.length b1.2.2.2:Int))))=true then some false else zka_ k k a0 b1 0 (some true)))))
def q6n_:Head:=⟨[(0,(.val (.ptr (.st (.pr (.int .i64) (.pr (.int .i64) (.pr (.int .i64) (.sl 2 (.int .i64))))))))),(1,(.val (.ptr (.st (.pr (.int .i64) (.pr (.int .i64) (.pr (.int .i64) (.sl 2 (.int .i64))))))))),(5,(.val (.int .i64)))],[],[]⟩
def q6o_:Head:=⟨[],[],[]⟩
def q6p_ (k n:Nat) (x:q6n_.T) (kx:Nat→St→Option Bool):Option Bool:=zka_ k n x.1.1 x.1.2.1 x.1.2.2.1 (kx 0 (q6o_.fill ((),(),())))
def q6q_ (k:Nat):Oracles Bool:=⟨fun n=>bif Nat.beq n 4 then some (fun σ kx=>q6n_.get σ fun x=>q6p_ k k x kx) else none,fun _=>none⟩
def q6r_ (k:Nat):FE:=⟨(.pr (.ptr (.st (.pr (.int .i64) (.pr (.int .i64) (.pr (.int .i64) (.sl 2 (.int .i64))))))) (.ptr (.st (.pr (.int .i64) (.pr (.int .i64) (.pr (.int .i64) (.sl 2 (.int .i64)))))))),1,.bool,fun x=>zou_ k x.1 x.2⟩
theorem q6s_ (k:Nat):zc_ (z3_ ti [] (lk []) z4_ z5_) (q6q_ k) (rdC (z3_ ti [] (lk []) z4_ z5_) [.tmp 4] .bool) ((zb_ (z2_ Tryz.f114)).getD 0 .skip) (fun σ kx=>q6n_.get σ fun x=>q6p_ k k x kx):=by
 refine ⟨q6n_,[(0,q6o_)],fun n x kx=>q6p_ k n x kx,k,by kernel_rfl,by kernel_rfl,fun x kx=>by kernel_rfl,?_,fun σ kx=>rfl⟩
 rintro n ⟨⟨a0,b1,i5,⟨⟩⟩,⟨⟩,⟨⟩⟩ kx
 kernel_rfl
theorem q6t_ (k:Nat):FnOK Tryz.prog 114 (q6r_ k):=by
 refine za_ (tab:=[]) (l:=[]) z7_ z9_ mix (List.forall_mem_nil _) (List.forall_mem_nil _) ⟨⟨Tryz.f114,(z2_ Tryz.f114),[.tmp 4],(q6q_ k),by kernel_rfl,by kernel_rfl,by kernel_rfl,by kernel_rfl,rfl,by decide,⟨by kernel_rfl,?_,?_⟩,?_⟩⟩
 ·refine zf_ (n:=1) (by kernel_rfl) fun i hi=>?_
  match i,hi with
  | 0,_=>exact zd_ (by kernel_rfl) (q6s_ k)
  | n+1,hi=>omega
 ·exact z8_ (by kernel_rfl)
 ·rintro ⟨a0,b1⟩
  kernel_rfl
def zkb_ (k:Nat):Nat→zT0→Int→Int→Int→Int→(zT0→Int→Int→Int→Option (Int×Int×Int))→Option (Int×Int×Int)
 | 0,_,_,_,_,_,_=>none
 | n+1,s0,k5,n6,i7,j8,e_4=>(if (decide (j8<n6))=true then (zk9_ k s0 k5 i7 j8).bind fun r_2=>(zk9_ k s0 k5 j8 i7).bind fun r_3=>(zou_ k (r_2.1,(r_2.2.1,(r_2.2.2.1,r_2.2.2.2))) (r_3.1,(r_3.2.1,(r_3.2.2.1,r_3.2.2.2)))).bind fun r_4=>(if (!r_4)=true then some (k5,i7,j8) else zkb_ k n s0 k5 n6 i7 (z0_ (j8+1)) e_4) else e_4 s0 k5 n6 i7)
def zkc_ (k:Nat):Nat→zT0→Int→Int→Int→(zT0→Int→Option (Int×Int×Int))→Option (Int×Int×Int)
 | 0,_,_,_,_,_=>none
 | n+1,s0,k5,n6,i7,e_2=>(if (decide (i7<n6))=true then (if (decide (2<n6))=true then zkb_ k k s0 k5 n6 i7 (z0_ (i7+1)) (fun s_2 k_3 n_4 i_5=>zkc_ k n s_2 k_3 n_4 (z0_ (i_5+1)) e_2) else e_2 s0 k5) else e_2 s0 k5)
def zkd_ (k:Nat):Nat→zT0→Int→(Option (Int×Int×Int))→Option (Int×Int×Int)
 | 0,_,_,_=>none
 | n+1,s0,k5,e_0=>(if (decide (k5<(List.length s0.1:Int)))=true then (if 0≤k5 then (s0.1[k5.toNat]?).bind fun y_1=>zkc_ k k s0 k5 (List.length y_1:Int) 0 (fun s_2 k_3=>zkd_ k n s_2 (z0_ (k_3+1)) e_0) else none) else e_0)
def zov_ (k:Nat) (s0:List (List Int)×Int×List Int×List (Int×Int×Int×List Int)):Option (Int×Int×Int):=zkd_ k k s0 0 (some ((-1),0,0))
def q6u_:Head:=⟨[(0,(.val (.ptr (.st (.pr (.st (.sl 25 (.sl 2 (.int .i64)))) (.pr (.int .i64) (.pr (.sl 2 (.int .i64)) (.sl 135 (.st (.pr (.int .i64) (.pr (.int .i64) (.pr (.int .i64) (.sl 2 (.int .i64)))))))))))))),(5,(.val (.int .i64))),(6,(.val (.int .i64))),(7,(.val (.int .i64))),(8,(.val (.int .i64)))],[],[]⟩
def q6v_:Head:=⟨[(0,(.val (.ptr (.st (.pr (.st (.sl 25 (.sl 2 (.int .i64)))) (.pr (.int .i64) (.pr (.sl 2 (.int .i64)) (.sl 135 (.st (.pr (.int .i64) (.pr (.int .i64) (.pr (.int .i64) (.sl 2 (.int .i64)))))))))))))),(5,(.val (.int .i64))),(6,(.val (.int .i64))),(7,(.val (.int .i64)))],[],[]⟩
def q6w_ (k n:Nat) (x:q6u_.T) (kx:Nat→St→Option (Int×Int×Int)):Option (Int×Int×Int):=zkb_ k n x.1.1 x.1.2.1 x.1.2.2.1 x.1.2.2.2.1 x.1.2.2.2.2.1 (fun (s0:List (List Int)×Int×List Int×List (Int×Int×Int×List Int)) (k5:Int) (n6:Int) (i7:Int)=>kx 4 (q6v_.fill ((s0,k5,n6,i7,()),(),())))
def q6x_:Head:=⟨[(0,(.val (.ptr (.st (.pr (.st (.sl 25 (.sl 2 (.int .i64)))) (.pr (.int .i64) (.pr (.sl 2 (.int .i64)) (.sl 135 (.st (.pr (.int .i64) (.pr (.int .i64) (.pr (.int .i64) (.sl 2 (.int .i64)))))))))))))),(5,(.val (.int .i64))),(6,(.val (.int .i64))),(7,(.val (.int .i64)))],[],[]⟩
def q6y_:Head:=⟨[(0,(.val (.ptr (.st (.pr (.st (.sl 25 (.sl 2 (.int .i64)))) (.pr (.int .i64) (.pr (.sl 2 (.int .i64)) (.sl 135 (.st (.pr (.int .i64) (.pr (.int .i64) (.pr (.int .i64) (.sl 2 (.int .i64)))))))))))))),(5,(.val (.int .i64)))],[],[]⟩
def q6z_ (k n:Nat) (x:q6x_.T) (kx:Nat→St→Option (Int×Int×Int)):Option (Int×Int×Int):=zkc_ k n x.1.1 x.1.2.1 x.1.2.2.1 x.1.2.2.2.1 (fun (s0:List (List Int)×Int×List Int×List (Int×Int×Int×List Int)) (k5:Int)=>kx 2 (q6y_.fill ((s0,k5,()),(),())))
def q70_:Head:=⟨[(0,(.val (.ptr (.st (.pr (.st (.sl 25 (.sl 2 (.int .i64)))) (.pr (.int .i64) (.pr (.sl 2 (.int .i64)) (.sl 135 (.st (.pr (.int .i64) (.pr (.int .i64) (.pr (.int .i64) (.sl 2 (.int .i64)))))))))))))),(5,(.val (.int .i64)))],[],[]⟩
def q71_:Head:=⟨[],[],[]⟩
def q72_ (k n:Nat) (x:q70_.T) (kx:Nat→St→Option (Int×Int×Int)):Option (Int×Int×Int):=zkd_ k n x.1.1 x.1.2.1 (kx 0 (q71_.fill ((),(),())))
def q73_ (k:Nat):Oracles (Int×Int×Int):=⟨fun n=>bif Nat.beq n 9 then some (fun σ kx=>q6u_.get σ fun x=>q6w_ k k x kx) else bif Nat.beq n 6 then some (fun σ kx=>q6x_.get σ fun x=>q6z_ k k x kx) else bif Nat.beq n 2 then some (fun σ kx=>q70_.get σ fun x=>q72_ k k x kx) else none,fun _=>none⟩
def q74_ (k:Nat):FE:=⟨(.ptr (.st (.pr (.st (.sl 25 (.sl 2 (.int .i64)))) (.pr (.int .i64) (.pr (.sl 2 (.int .i64)) (.sl 135 (.st (.pr (.int .i64) (.pr (.int .i64) (.pr (.int .i64) (.sl 2 (.int .i64)))))))))))),3,(.pr (.int .i64) (.pr (.int .i64) (.int .i64))),fun x=>zov_ k x⟩
theorem q75_ (k:Nat):zc_ (z3_ ti [(113,q6l_ k),(114,q6r_ k)] (lk []) z4_ z5_) (q73_ k) (rdC (z3_ ti [(113,q6l_ k),(114,q6r_ k)] (lk []) z4_ z5_) [.tmp 2,.tmp 3,.tmp 4] (.pr (.int .i64) (.pr (.int .i64) (.int .i64)))) ((zb_ (z2_ Tryz.f67)).getD 2 .skip) (fun σ kx=>q6u_.get σ fun x=>q6w_ k k x kx):=by
 refine ⟨q6u_,[(4,q6v_)],fun n x kx=>q6w_ k n x kx,k,by kernel_rfl,by kernel_rfl,fun x kx=>by kernel_rfl,?_,fun σ kx=>rfl⟩
 rintro n ⟨⟨s0,k5,n6,i7,j8,⟨⟩⟩,⟨⟩,⟨⟩⟩ kx
 kernel_rfl
theorem q76_ (k:Nat):zc_ (z3_ ti [(113,q6l_ k),(114,q6r_ k)] (lk []) z4_ z5_) (q73_ k) (rdC (z3_ ti [(113,q6l_ k),(114,q6r_ k)] (lk []) z4_ z5_) [.tmp 2,.tmp 3,.tmp 4] (.pr (.int .i64) (.pr (.int .i64) (.int .i64)))) ((zb_ (z2_ Tryz.f67)).getD 1 .skip) (fun σ kx=>q6x_.get σ fun x=>q6z_ k k x kx):=by
 refine ⟨q6x_,[(2,q6y_)],fun n x kx=>q6z_ k n x kx,k,by kernel_rfl,by kernel_rfl,fun x kx=>by kernel_rfl,?_,fun σ kx=>rfl⟩
 rintro n ⟨⟨s0,k5,n6,i7,⟨⟩⟩,⟨⟩,⟨⟩⟩ kx
 kernel_rfl
theorem q77_ (k:Nat):zc_ (z3_ ti [(113,q6l_ k),(114,q6r_ k)] (lk []) z4_ z5_) (q73_ k) (rdC (z3_ ti [(113,q6l_ k),(114,q6r_ k)] (lk []) z4_ z5_) [.tmp 2,.tmp 3,.tmp 4] (.pr (.int .i64) (.pr (.int .i64) (.int .i64)))) ((zb_ (z2_ Tryz.f67)).getD 0 .skip) (fun σ kx=>q70_.get σ fun x=>q72_ k k x kx):=by
 refine ⟨q70_,[(0,q71_)],fun n x kx=>q72_ k n x kx,k,by kernel_rfl,by kernel_rfl,fun x kx=>by kernel_rfl,?_,fun σ kx=>rfl⟩
 rintro n ⟨⟨s0,k5,⟨⟩⟩,⟨⟩,⟨⟩⟩ kx
 kernel_rfl
theorem q78_ (k:Nat):FnOK Tryz.prog 67 (q74_ k):=by
 refine za_ (tab:=[(113,q6l_ k),(114,q6r_ k)]) (l:=[]) z7_ z9_ mix (List.forall_mem_cons.2 ⟨q6m_ k,(List.forall_mem_cons.2 ⟨q6t_ k,(List.forall_mem_nil _)⟩)⟩) (List.forall_mem_nil _) ⟨⟨Tryz.f67,(z2_ Tryz.f67),[.tmp 2,.tmp 3,.tmp 4],(q73_ k),by kernel_rfl,by kernel_rfl,by kernel_rfl,by kernel_rfl,rfl,by decide,⟨by kernel_rfl,?_,?_⟩,?_⟩⟩
 ·refine zf_ (n:=3) (by kernel_rfl) fun i hi=>?_
  match i,hi with
  | 0,_=>exact zd_ (by kernel_rfl) (q77_ k)
  | 1,_=>exact zd_ (by kernel_rfl) (q76_ k)
  | 2,_=>exact zd_ (by kernel_rfl) (q75_ k)
  | n+3,hi=>omega
 ·exact z8_ (by kernel_rfl)
 ·rintro s0
  kernel_rfl
def z5h_ (k:Nat):Nat→Int→Int→(List Int)→(Int→(List Int)→Option (List UInt8))→Option (List UInt8)
 | 0,_,_,_,_=>none
 | n+1,n0,m4,q_1,e_0=>(if (!(decide (m4=0)))=true then (if (decide ((Int.tmod m4 10)<0))=true then (if (q_1.length+[(w_u8 ((z0_ (48+(z0_ (0-(Int.tmod m4 10)))))))].length)*1≤LIM then z5h_ k n n0 (z0_ (Int.tdiv m4 10)) (q_1++[(w_u8 ((z0_ (48+(z0_ (0-(Int.tmod m4 10)))))))]) e_0 else none) else (if (q_1.length+[(w_u8 ((z0_ (48+(Int.tmod m4 10)))))].length)*1≤LIM then z5h_ k n n0 (z0_ (Int.tdiv m4 10)) (q_1++[(w_u8 ((z0_ (48+(Int.tmod m4 10)))))]) e_0 else none)) else e_0 n0 q_1)
def z7v_ (k:Nat):Nat→Int→(List Int)→(List Int)→((List Int)→Option (List UInt8))→Option (List UInt8)
 | 0,_,_,_,_=>none
 | n+1,i7,q_4,q_5,e_2=>(if (decide (0≤i7))=true then (if 0≤i7∧i7.toNat<List.length q_4 then (q_4[i7.toNat]?).bind fun y_6=>(if (q_5.length+[y_6].length)*1≤LIM then z7v_ k n (z0_ (i7-1)) q_4 (q_5++[y_6]) e_2 else none) else none) else e_2 q_5)
def zai_ (k:Nat) (n0:Int):Option (List UInt8):=(if (decide (n0=0))=true then some [48] else z5h_ k k n0 n0 [] (fun n_2 q_3=>(if (decide (n_2<0))=true then (if (q_3.length+[45].length)*1≤LIM then z7v_ k k (z0_ ((List.length (q_3++[45]):Int)-1)) (q_3++[45]) [] (fun q_7=>some (to_S q_7)) else none) else z7v_ k k (z0_ ((List.length q_3:Int)-1)) q_3 [] (fun q_8=>some (to_S q_8)))))
def q79_:Head:=⟨[(0,(.val (.int .i64))),(3,(.ref 64000000 [])),(4,(.val (.int .i64)))],[(64000000,5,(.int .u8),false)],[]⟩
def q7a_:Head:=⟨[(0,(.val (.int .i64))),(3,(.ref 64000000 []))],[(64000000,5,(.int .u8),false)],[]⟩
def q7b_ (k n:Nat) (x:q79_.T) (kx:Nat→St→Option (List UInt8)):Option (List UInt8):=z5h_ k n x.1.1 x.1.2.2.1 x.2.1.1 (fun (n0:Int) (q_2:List Int)=>kx 0 (q7a_.fill ((n0,(),()),(q_2,()),())))
def q7c_:Head:=⟨[(3,(.ref 64000000 [])),(6,(.ref 64000001 [])),(7,(.val (.int .i64)))],[(64000000,5,(.int .u8),false),(64000001,5,(.int .u8),false)],[]⟩
def q7d_:Head:=⟨[(6,(.ref 64000000 []))],[(64000000,5,(.int .u8),false)],[]⟩
def q7e_ (k n:Nat) (x:q7c_.T) (kx:Nat→St→Option (List UInt8)):Option (List UInt8):=z7v_ k n x.1.2.2.1 x.2.1.1 x.2.1.2.1 (fun (q_7:List Int)=>kx 2 (q7d_.fill (((),()),(q_7,()),())))
def q7f_ (k:Nat):Oracles (List UInt8):=⟨fun n=>bif Nat.beq n 5 then some (fun σ kx=>q79_.get σ fun x=>q7b_ k k x kx) else bif Nat.beq n 15 then some (fun σ kx=>q7c_.get σ fun x=>q7e_ k k x kx) else none,fun _=>none⟩
def q7g_ (k:Nat):FE:=⟨(.int .i64),1,.str,fun x=>zai_ k x⟩
theorem q7h_ (k:Nat):zc_ (z3_ ti [] (lk []) z4_ z5_) (q7f_ k) (rdC (z3_ ti [] (lk []) z4_ z5_) [.tmp 2] .str) ((zb_ (z2_ Tryz.f77)).getD 0 .skip) (fun σ kx=>q79_.get σ fun x=>q7b_ k k x kx):=by
 refine ⟨q79_,[(0,q7a_)],fun n x kx=>q7b_ k n x kx,k,by kernel_rfl,by kernel_rfl,fun x kx=>by kernel_rfl,?_,fun σ kx=>rfl⟩
 rintro n ⟨⟨n0,⟨⟩,m4,⟨⟩⟩,⟨q_1,⟨⟩⟩,⟨⟩⟩ kx
 kernel_rfl
theorem q7i_ (k:Nat):zc_ (z3_ ti [] (lk []) z4_ z5_) (q7f_ k) (rdC (z3_ ti [] (lk []) z4_ z5_) [.tmp 2] .str) ((zb_ (z2_ Tryz.f77)).getD 1 .skip) (fun σ kx=>q7c_.get σ fun x=>q7e_ k k x kx):=by
 refine ⟨q7c_,[(2,q7d_)],fun n x kx=>q7e_ k n x kx,k,by kernel_rfl,by kernel_rfl,fun x kx=>by kernel_rfl,?_,fun σ kx=>rfl⟩
 rintro n ⟨⟨⟨⟩,⟨⟩,i7,⟨⟩⟩,⟨q_4,q_5,⟨⟩⟩,⟨⟩⟩ kx
 kernel_rfl
theorem q7j_ (k:Nat):FnOK Tryz.prog 77 (q7g_ k):=by
 refine za_ (tab:=[]) (l:=[]) z7_ z9_ mix (List.forall_mem_nil _) (List.forall_mem_nil _) ⟨⟨Tryz.f77,(z2_ Tryz.f77),[.tmp 2],(q7f_ k),by kernel_rfl,by kernel_rfl,by kernel_rfl,by kernel_rfl,rfl,by decide,⟨by kernel_rfl,?_,?_⟩,?_⟩⟩
 ·refine zf_ (n:=2) (by kernel_rfl) fun i hi=>?_
  match i,hi with
  | 0,_=>exact zd_ (by kernel_rfl) (q7h_ k)
  | 1,_=>exact zd_ (by kernel_rfl) (q7i_ k)
  | n+2,hi=>omega
 ·exact z8_ (by kernel_rfl)
 ·rintro n0
  kernel_rfl
def z7w_ (k:Nat):Nat→(List Int)→(List UInt8)→Int→((List UInt8)→Option (List UInt8))→Option (List UInt8)
 | 0,_,_,_,_=>none
 | n+1,list0,out3,i4,e_0=>(if (decide (i4<(List.length list0:Int)))=true then (if (decide (0<i4))=true then (if out3.length+[44].length≤9223372036854775807 then (if 0≤i4 then (list0[i4.toNat]?).bind fun y_1=>(zai_ k y_1).bind fun r_2=>(if (out3++[44]).length+r_2.length≤9223372036854775807 then z7w_ k n list0 ((out3++[44])++r_2) (z0_ (i4+1)) e_0 else none) else none) else none) else (if 0≤i4 then (list0[i4.toNat]?).bind fun y_3=>(zai_ k y_3).bind fun r_4=>(if out3.length+r_4.length≤9223372036854775807 then z7w_ k n list0 (out3++r_4) (z0_ (i4+1)) e_0 else none) else none)) else e_0 out3)
def z7x_ (k:Nat) (list0:List Int):Option (List UInt8):=(if (decide ((List.length list0:Int)=0))=true then some [45] else z7w_ k k list0 [] 0 (fun out_5=>some out_5))
def q7k_:Head:=⟨[(0,(.val (.sl 2 (.int .i64)))),(3,(.val .str)),(4,(.val (.int .i64)))],[],[]⟩
def q7l_:Head:=⟨[(3,(.val .str))],[],[]⟩
def q7m_ (k n:Nat) (x:q7k_.T) (kx:Nat→St→Option (List UInt8)):Option (List UInt8):=z7w_ k n x.1.1 x.1.2.1 x.1.2.2.1 (fun (out3:List UInt8)=>kx 0 (q7l_.fill ((out3,()),(),())))
def q7n_ (k:Nat):Oracles (List UInt8):=⟨fun n=>bif Nat.beq n 5 then some (fun σ kx=>q7k_.get σ fun x=>q7m_ k k x kx) else none,fun _=>none⟩
def q7o_ (k:Nat):FE:=⟨(.sl 2 (.int .i64)),1,.str,fun x=>z7x_ k x⟩
theorem q7p_ (k:Nat):zc_ (z3_ ti [(77,q7g_ k)] (lk []) z4_ z5_) (q7n_ k) (rdC (z3_ ti [(77,q7g_ k)] (lk []) z4_ z5_) [.tmp 2] .str) ((zb_ (z2_ Tryz.f68)).getD 0 .skip) (fun σ kx=>q7k_.get σ fun x=>q7m_ k k x kx):=by
 refine ⟨q7k_,[(0,q7l_)],fun n x kx=>q7m_ k n x kx,k,by kernel_rfl,by kernel_rfl,fun x kx=>by kernel_rfl,?_,fun σ kx=>rfl⟩
 rintro n ⟨⟨list0,out3,i4,⟨⟩⟩,⟨⟩,⟨⟩⟩ kx
 kernel_rfl
theorem q7q_ (k:Nat):FnOK Tryz.prog 68 (q7o_ k):=by
 refine za_ (tab:=[(77,q7g_ k)]) (l:=[]) z7_ z9_ mix (List.forall_mem_cons.2 ⟨q7j_ k,(List.forall_mem_nil _)⟩) (List.forall_mem_nil _) ⟨⟨Tryz.f68,(z2_ Tryz.f68),[.tmp 2],(q7n_ k),by kernel_rfl,by kernel_rfl,by kernel_rfl,by kernel_rfl,rfl,by decide,⟨by kernel_rfl,?_,?_⟩,?_⟩⟩
 ·refine zf_ (n:=1) (by kernel_rfl) fun i hi=>?_
  match i,hi with
  | 0,_=>exact zd_ (by kernel_rfl) (q7p_ k)
  | n+1,hi=>omega
 ·exact z8_ (by kernel_rfl)
 ·rintro list0
  kernel_rfl
def z7y_ (k:Nat):Nat→zT0→Int→Int→Int→(Int→Option Int)→Option Int
 | 0,_,_,_,_,_=>none
 | n+1,s0,simplex1,at5,k6,e_0=>(if (decide (k6<simplex1))=true then (if 0≤k6 then (s0.1[k6.toNat]?).bind fun y_1=>(if 0≤simplex1 then (s0.1[simplex1.toNat]?).bind fun y_2=>(if (decide ((List.length y_1:Int)=(List.length y_2:Int)))=true then (if 0≤k6 then (s0.2.2.1[k6.toNat]?).bind fun y_3=>z7y_ k n s0 simplex1 (z0_ (at5+y_3)) (z0_ (k6+1)) e_0 else none) else z7y_ k n s0 simplex1 at5 (z0_ (k6+1)) e_0) else none) else none) else e_0 at5)
def zaj_ (k:Nat) (s0:List (List Int)×Int×List Int×List (Int×Int×Int×List Int)) (simplex1:Int):Option Int:=z7y_ k k s0 simplex1 0 0 (fun at_4=>some at_4)
def q7r_:Head:=⟨[(0,(.val (.ptr (.st (.pr (.st (.sl 25 (.sl 2 (.int .i64)))) (.pr (.int .i64) (.pr (.sl 2 (.int .i64)) (.sl 135 (.st (.pr (.int .i64) (.pr (.int .i64) (.pr (.int .i64) (.sl 2 (.int .i64)))))))))))))),(1,(.val (.int .i64))),(5,(.val (.int .i64))),(6,(.val (.int .i64)))],[],[]⟩
def q7s_:Head:=⟨[(5,(.val (.int .i64)))],[],[]⟩
def q7t_ (k n:Nat) (x:q7r_.T) (kx:Nat→St→Option Int):Option Int:=z7y_ k n x.1.1 x.1.2.1 x.1.2.2.1 x.1.2.2.2.1 (fun (at5:Int)=>kx 0 (q7s_.fill ((at5,()),(),())))
def q7u_ (k:Nat):Oracles Int:=⟨fun n=>bif Nat.beq n 3 then some (fun σ kx=>q7r_.get σ fun x=>q7t_ k k x kx) else none,fun _=>none⟩
def q7v_ (k:Nat):FE:=⟨(.pr (.ptr (.st (.pr (.st (.sl 25 (.sl 2 (.int .i64)))) (.pr (.int .i64) (.pr (.sl 2 (.int .i64)) (.sl 135 (.st (.pr (.int .i64) (.pr (.int .i64) (.pr (.int .i64) (.sl 2 (.int .i64)))))))))))) (.int .i64)),1,(.int .i64),fun x=>zaj_ k x.1 x.2⟩
theorem q7w_ (k:Nat):zc_ (z3_ ti [] (lk []) z4_ z5_) (q7u_ k) (rdC (z3_ ti [] (lk []) z4_ z5_) [.tmp 4] (.int .i64)) ((zb_ (z2_ Tryz.f120)).getD 0 .skip) (fun σ kx=>q7r_.get σ fun x=>q7t_ k k x kx):=by
 refine ⟨q7r_,[(0,q7s_)],fun n x kx=>q7t_ k n x kx,k,by kernel_rfl,by kernel_rfl,fun x kx=>by kernel_rfl,?_,fun σ kx=>rfl⟩
 rintro n ⟨⟨s0,simplex1,at5,k6,⟨⟩⟩,⟨⟩,⟨⟩⟩ kx
 kernel_rfl
theorem q7x_ (k:Nat):FnOK Tryz.prog 120 (q7v_ k):=by
 refine za_ (tab:=[]) (l:=[]) z7_ z9_ mix (List.forall_mem_nil _) (List.forall_mem_nil _) ⟨⟨Tryz.f120,(z2_ Tryz.f120),[.tmp 4],(q7u_ k),by kernel_rfl,by kernel_rfl,by kernel_rfl,by kernel_rfl,rfl,by decide,⟨by kernel_rfl,?_,?_⟩,?_⟩⟩
 ·refine zf_ (n:=1) (by kernel_rfl) fun i hi=>?_
  match i,hi with
  | 0,_=>exact zd_ (by kernel_rfl) (q7w_ k)
  | n+1,hi=>omega
 ·exact z8_ (by kernel_rfl)
 ·rintro ⟨s0,simplex1⟩
  kernel_rfl
def zgt_ (i0:Int) (p1:Int):Option Int:=(if (decide ((Int.tmod i0 2)=0))=true then (if p1=0 then none else some (Int.tmod 1 p1)) else some (z0_ (p1-1)))
def q7y_:FE:=⟨(.pr (.int .i64) (.int .i64)),1,(.int .i64),fun x=>zgt_ x.1 x.2⟩
theorem q7z_:FnOK Tryz.prog 159 (q7y_):=by
 refine za_ (tab:=[]) (l:=[]) z7_ z9_ mix (List.forall_mem_nil _) (List.forall_mem_nil _) ⟨⟨Tryz.f159,(z2_ Tryz.f159),[.tmp 4],(LOn Int),by kernel_rfl,by kernel_rfl,by kernel_rfl,by kernel_rfl,rfl,by decide,⟨by kernel_rfl,?_,?_⟩,?_⟩⟩
 ·exact ze_ (by kernel_rfl)
 ·exact z8_ (by kernel_rfl)
 ·rintro ⟨i0,p1⟩
  kernel_rfl
end
end Go.Proofs.YtioaaljaohhjiaaGreatDoor.Ev
