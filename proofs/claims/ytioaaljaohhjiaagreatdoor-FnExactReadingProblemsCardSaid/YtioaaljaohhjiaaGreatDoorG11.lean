/- Functions of the program, as plain ones. No conditions. -/
import Derived.Test.YtioaaljaohhjiaaGreatDoorG10
import Derived.KernelRfl
set_option linter.unusedVariables false
set_option maxRecDepth 100000
namespace Go.Proofs.YtioaaljaohhjiaaGreatDoor.Ev
open Go.RowKit
noncomputable section
def z6d_ (k:Nat):Nat→Int→Unit→Int→Int→Int→Int→Int→(List Int)→(List Int)→Int→Int→Int→Int→Int→Int→(Int→Unit→Int→Int→(List Int)→(List Int)→Int→Int→Int→Int→Int→Int→Option (Int×Int×Int×List Int))→Option (Int×Int×Int×List Int)
 | 0,_,_,_,_,_,_,_,_,_,_,_,_,_,_,_,_=>none
 | n+1,columns2,cell3,i10,x16,x17,x20,x21,q_3,q_4,v_8a,v_8ba,v_8bba,v_9a,v_9ba,v_9bba,e_2=>(if (decide (x21<x20))=true then (zjp_ i10 x21).bind fun r_5=>(if (q_4.length+[r_5].length)*8≤LIM then z6d_ k n columns2 cell3 i10 x16 x17 x20 (z0_ (x21+1)) q_3 (q_4++[r_5]) v_8a v_8ba v_8bba v_9a v_9ba v_9bba e_2 else none) else e_2 columns2 cell3 x16 x17 q_3 q_4 v_8a v_8ba v_8bba v_9a v_9ba v_9bba)
def z7i_ (k:Nat):Nat→Int→Unit→Int→Int→(List Int)→(List Int)→Int→Int→Int→Int→Int→Int→((List Int)→(List Int)→Int→Int→Int→Int→Int→Int→Option (Int×Int×Int×List Int))→Option (Int×Int×Int×List Int)
 | 0,_,_,_,_,_,_,_,_,_,_,_,_,_=>none
 | n+1,columns2,cell3,x16,x17,q_1,q_2,v_8a,v_8ba,v_8bba,v_9a,v_9ba,v_9bba,e_0=>(if (decide (x17<x16))=true then z6d_ k k columns2 cell3 x17 x16 x17 columns2 0 q_1 q_2 v_8a v_8ba v_8bba v_9a v_9ba v_9bba (fun columns_3 cell_4 x_5 x_6 q_7 q_8 v_8a_9 v_8ba_10 v_8bba_11 v_9a_12 v_9ba_13 v_9bba_14=>z7i_ k n columns_3 cell_4 x_5 (z0_ (x_6+1)) q_7 q_8 v_8a_9 v_8ba_10 v_8bba_11 v_9a_12 v_9ba_13 v_9bba_14 e_0) else e_0 q_1 q_2 v_8a v_8ba v_8bba v_9a v_9ba v_9bba)
def zjq_ (k:Nat) (p0:Int) (rows1:Int) (columns2:Int) (cell3:Unit):Option (Int×Int×Int×List Int):=z7i_ k k columns2 cell3 rows1 0 [] [] 0 0 0 p0 rows1 columns2 (fun q_15 q_16 v_8a_17 v_8ba_18 v_8bba_19 v_9a_20 v_9ba_21 v_9bba_22=>some (v_9a_20,(v_9ba_21,(v_9bba_22,q_16))))
def qi9_:Head:=⟨[(2,(.val (.int .i64))),(3,(.val (.fn 174 .un))),(8,(.bp 8 [] 0)),(9,(.bp 9 [] 0)),(10,(.val (.int .i64))),(16,(.val (.int .i64))),(17,(.val (.int .i64))),(20,(.val (.int .i64))),(21,(.val (.int .i64)))],[(64000000,2,(.int .i64),false),(64000001,2,(.int .i64),false)],[(8,135,(.st (.pr (.val (.int .i64)) (.pr (.val (.int .i64)) (.pr (.val (.int .i64)) (.ref 64000000 [])))))),(9,135,(.st (.pr (.val (.int .i64)) (.pr (.val (.int .i64)) (.pr (.val (.int .i64)) (.ref 64000001 []))))))]⟩
def qia_:Head:=⟨[(2,(.val (.int .i64))),(3,(.val (.fn 174 .un))),(8,(.bp 8 [] 0)),(9,(.bp 9 [] 0)),(16,(.val (.int .i64))),(17,(.val (.int .i64)))],[(64000000,2,(.int .i64),false),(64000001,2,(.int .i64),false)],[(8,135,(.st (.pr (.val (.int .i64)) (.pr (.val (.int .i64)) (.pr (.val (.int .i64)) (.ref 64000000 [])))))),(9,135,(.st (.pr (.val (.int .i64)) (.pr (.val (.int .i64)) (.pr (.val (.int .i64)) (.ref 64000001 []))))))]⟩
def qib_ (k n:Nat) (x:qi9_.T) (kx:Nat→St→Option (Int×Int×Int×List Int)):Option (Int×Int×Int×List Int):=z6d_ k n x.1.1 x.1.2.1 x.1.2.2.2.2.1 x.1.2.2.2.2.2.1 x.1.2.2.2.2.2.2.1 x.1.2.2.2.2.2.2.2.1 x.1.2.2.2.2.2.2.2.2.1 x.2.1.1 x.2.1.2.1 x.2.2.1.1 x.2.2.1.2.1 x.2.2.1.2.2.1 x.2.2.2.1.1 x.2.2.2.1.2.1 x.2.2.2.1.2.2.1 (fun (columns2:Int) (cell3:Unit) (x16:Int) (x17:Int) (q_6:List Int) (q_7:List Int) (v_8a:Int) (v_8ba:Int) (v_8bba:Int) (v_9a:Int) (v_9ba:Int) (v_9bba:Int)=>kx 2 (qia_.fill ((columns2,cell3,(),(),x16,x17,()),(q_6,q_7,()),((v_8a,(v_8ba,(v_8bba,()))),(v_9a,(v_9ba,(v_9bba,()))),()))))
def qic_:Head:=⟨[(2,(.val (.int .i64))),(3,(.val (.fn 174 .un))),(8,(.bp 8 [] 0)),(9,(.bp 9 [] 0)),(16,(.val (.int .i64))),(17,(.val (.int .i64)))],[(64000000,2,(.int .i64),false),(64000001,2,(.int .i64),false)],[(8,135,(.st (.pr (.val (.int .i64)) (.pr (.val (.int .i64)) (.pr (.val (.int .i64)) (.ref 64000000 [])))))),(9,135,(.st (.pr (.val (.int .i64)) (.pr (.val (.int .i64)) (.pr (.val (.int .i64)) (.ref 64000001 []))))))]⟩
def qid_:Head:=⟨[(8,(.bp 8 [] 0)),(9,(.bp 9 [] 0))],[(64000000,2,(.int .i64),false),(64000001,2,(.int .i64),false)],[(8,135,(.st (.pr (.val (.int .i64)) (.pr (.val (.int .i64)) (.pr (.val (.int .i64)) (.ref 64000000 [])))))),(9,135,(.st (.pr (.val (.int .i64)) (.pr (.val (.int .i64)) (.pr (.val (.int .i64)) (.ref 64000001 []))))))]⟩
def qie_ (k n:Nat) (x:qic_.T) (kx:Nat→St→Option (Int×Int×Int×List Int)):Option (Int×Int×Int×List Int):=z7i_ k n x.1.1 x.1.2.1 x.1.2.2.2.2.1 x.1.2.2.2.2.2.1 x.2.1.1 x.2.1.2.1 x.2.2.1.1 x.2.2.1.2.1 x.2.2.1.2.2.1 x.2.2.2.1.1 x.2.2.2.1.2.1 x.2.2.2.1.2.2.1 (fun (q_18:List Int) (q_19:List Int) (v_8a:Int) (v_8ba:Int) (v_8bba:Int) (v_9a:Int) (v_9ba:Int) (v_9bba:Int)=>kx 0 (qid_.fill (((),(),()),(q_18,q_19,()),((v_8a,(v_8ba,(v_8bba,()))),(v_9a,(v_9ba,(v_9bba,()))),()))))
def qif_ (k:Nat):Oracles (Int×Int×Int×List Int):=⟨fun n=>bif Nat.beq n 6 then some (fun σ kx=>qi9_.get σ fun x=>qib_ k k x kx) else bif Nat.beq n 3 then some (fun σ kx=>qic_.get σ fun x=>qie_ k k x kx) else none,fun _=>none⟩
def qig_ (k:Nat):FE:=⟨(.pr (.int .i64) (.pr (.int .i64) (.pr (.int .i64) (.fn 174 .un)))),1,(.st (.pr (.int .i64) (.pr (.int .i64) (.pr (.int .i64) (.sl 2 (.int .i64)))))),fun x=>zjq_ k x.1 x.2.1 x.2.2.1 x.2.2.2⟩
theorem qih_ (k:Nat):zc_ (z3_ ti [(174,qi7_)] (lk []) z4_ z5_) (qif_ k) (rdC (z3_ ti [(174,qi7_)] (lk []) z4_ z5_) [.cell 8 135] (.st (.pr (.int .i64) (.pr (.int .i64) (.pr (.int .i64) (.sl 2 (.int .i64))))))) ((zb_ (z2_ Tryz.f173)).getD 1 .skip) (fun σ kx=>qi9_.get σ fun x=>qib_ k k x kx):=by
 refine ⟨qi9_,[(2,qia_)],fun n x kx=>qib_ k n x kx,k,by kernel_rfl,by kernel_rfl,fun x kx=>by kernel_rfl,?_,fun σ kx=>rfl⟩
 rintro n ⟨⟨columns2,cell3,⟨⟩,⟨⟩,i10,x16,x17,x20,x21,⟨⟩⟩,⟨q_3,q_4,⟨⟩⟩,⟨⟨v_8a,⟨v_8ba,⟨v_8bba,⟨⟩⟩⟩⟩,⟨v_9a,⟨v_9ba,⟨v_9bba,⟨⟩⟩⟩⟩,⟨⟩⟩⟩ kx
 refine id (α:=z6d_ k (n+1) columns2 cell3 i10 x16 x17 x20 x21 q_3 q_4 v_8a v_8ba v_8bba v_9a v_9ba v_9bba _=_) ?_
 kernel_rfl
theorem qii_ (k:Nat):zc_ (z3_ ti [(174,qi7_)] (lk []) z4_ z5_) (qif_ k) (rdC (z3_ ti [(174,qi7_)] (lk []) z4_ z5_) [.cell 8 135] (.st (.pr (.int .i64) (.pr (.int .i64) (.pr (.int .i64) (.sl 2 (.int .i64))))))) ((zb_ (z2_ Tryz.f173)).getD 0 .skip) (fun σ kx=>qic_.get σ fun x=>qie_ k k x kx):=by
 refine ⟨qic_,[(0,qid_)],fun n x kx=>qie_ k n x kx,k,by kernel_rfl,by kernel_rfl,fun x kx=>by kernel_rfl,?_,fun σ kx=>rfl⟩
 rintro n ⟨⟨columns2,cell3,⟨⟩,⟨⟩,x16,x17,⟨⟩⟩,⟨q_1,q_2,⟨⟩⟩,⟨⟨v_8a,⟨v_8ba,⟨v_8bba,⟨⟩⟩⟩⟩,⟨v_9a,⟨v_9ba,⟨v_9bba,⟨⟩⟩⟩⟩,⟨⟩⟩⟩ kx
 refine id (α:=z7i_ k (n+1) columns2 cell3 x16 x17 q_1 q_2 v_8a v_8ba v_8bba v_9a v_9ba v_9bba _=_) ?_
 kernel_rfl
theorem qij_ (k:Nat):FnOK Tryz.prog 173 (qig_ k):=by
 refine za_ (tab:=[(174,qi7_)]) (l:=[]) z7_ z9_ mix (List.forall_mem_cons.2 ⟨qi8_,(List.forall_mem_nil _)⟩) (List.forall_mem_nil _) ⟨⟨Tryz.f173,(z2_ Tryz.f173),[.cell 8 135],(qif_ k),by kernel_rfl,by kernel_rfl,by kernel_rfl,by kernel_rfl,rfl,by decide,⟨by kernel_rfl,?_,?_⟩,?_⟩⟩
 ·refine zf_ (n:=2) (by kernel_rfl) fun i hi=>?_
  match i,hi with
  | 0,_=>exact zd_ (by kernel_rfl) (qii_ k)
  | 1,_=>exact zd_ (by kernel_rfl) (qih_ k)
  | n+2,hi=>omega
 ·exact z8_ (by kernel_rfl)
 ·rintro ⟨p0,rows1,columns2,cell3⟩
  kernel_rfl
def zfe_ (k:Nat) (p0:Int) (rows1:Int) (columns2:Int):Option (Int×Int×Int×List Int):=(zjq_ k p0 rows1 columns2 ()).bind fun r_1=>some (r_1.1,(r_1.2.1,(r_1.2.2.1,r_1.2.2.2)))
def qik_ (k:Nat):FE:=⟨(.pr (.int .i64) (.pr (.int .i64) (.int .i64))),1,(.st (.pr (.int .i64) (.pr (.int .i64) (.pr (.int .i64) (.sl 2 (.int .i64)))))),fun x=>zfe_ k x.1 x.2.1 x.2.2⟩
theorem qil_ (k:Nat):FnOK Tryz.prog 137 (qik_ k):=by
 refine za_ (tab:=[(173,qig_ k)]) (l:=[]) z7_ z9_ mix (List.forall_mem_cons.2 ⟨qij_ k,(List.forall_mem_nil _)⟩) (List.forall_mem_nil _) ⟨⟨Tryz.f137,(z2_ Tryz.f137),[.cell 6 135],(LOn (Int×Int×Int×List Int)),by kernel_rfl,by kernel_rfl,by kernel_rfl,by kernel_rfl,rfl,by decide,⟨by kernel_rfl,?_,?_⟩,?_⟩⟩
 ·exact ze_ (by kernel_rfl)
 ·exact z8_ (by kernel_rfl)
 ·rintro ⟨p0,rows1,columns2⟩
  kernel_rfl
def z6e_ (k:Nat):Nat→Int→zT4→Int→Int→(Int→Option Int)→Option Int
 | 0,_,_,_,_,_=>none
 | n+1,n5,x12,x13,x14,e_0=>(if (decide (x14<x13))=true then (if 0≤x14 then (x12[x14.toNat]?).bind fun y_1=>(if (decide (1<(List.length y_1:Int)))=true then (z4p_ y_1).bind fun r_2=>z6e_ k n (z0_ (n5+r_2)) x12 x13 (z0_ (x14+1)) e_0 else z6e_ k n n5 x12 x13 (z0_ (x14+1)) e_0) else none) else e_0 n5)
def zff_ (k:Nat) (s0:List (List Int)×Int×List Int×List (Int×Int×Int×List Int)) (simplex1:Int):Option Int:=(if 0≤(0:Int)∧(0:Int)≤simplex1∧simplex1≤s0.1.length then z6e_ k k 0 (s0.1.take simplex1.toNat) (List.length (s0.1.take simplex1.toNat):Int) 0 (fun n_3=>some n_3) else none)
def qim_:Head:=⟨[(5,(.val (.int .i64))),(12,(.val (.sl 25 (.sl 2 (.int .i64))))),(13,(.val (.int .i64))),(14,(.val (.int .i64)))],[],[]⟩
def qin_:Head:=⟨[(5,(.val (.int .i64)))],[],[]⟩
def qio_ (k n:Nat) (x:qim_.T) (kx:Nat→St→Option Int):Option Int:=z6e_ k n x.1.1 x.1.2.1 x.1.2.2.1 x.1.2.2.2.1 (fun (n5:Int)=>kx 0 (qin_.fill ((n5,()),(),())))
def qip_ (k:Nat):Oracles Int:=⟨fun n=>bif Nat.beq n 3 then some (fun σ kx=>qim_.get σ fun x=>qio_ k k x kx) else none,fun _=>none⟩
def qiq_ (k:Nat):FE:=⟨(.pr (.st (.pr (.st (.sl 25 (.sl 2 (.int .i64)))) (.pr (.int .i64) (.pr (.sl 2 (.int .i64)) (.sl 135 (.st (.pr (.int .i64) (.pr (.int .i64) (.pr (.int .i64) (.sl 2 (.int .i64))))))))))) (.int .i64)),1,(.int .i64),fun x=>zff_ k x.1 x.2⟩
theorem qir_ (k:Nat):zc_ (z3_ ti [(133,qfm_)] (lk []) z4_ z5_) (qip_ k) (rdC (z3_ ti [(133,qfm_)] (lk []) z4_ z5_) [.tmp 4] (.int .i64)) ((zb_ (z2_ Tryz.f175)).getD 0 .skip) (fun σ kx=>qim_.get σ fun x=>qio_ k k x kx):=by
 refine ⟨qim_,[(0,qin_)],fun n x kx=>qio_ k n x kx,k,by kernel_rfl,by kernel_rfl,fun x kx=>by kernel_rfl,?_,fun σ kx=>rfl⟩
 rintro n ⟨⟨n5,x12,x13,x14,⟨⟩⟩,⟨⟩,⟨⟩⟩ kx
 kernel_rfl
theorem qis_ (k:Nat):FnOK Tryz.prog 175 (qiq_ k):=by
 refine za_ (tab:=[(133,qfm_)]) (l:=[]) z7_ z9_ mix (List.forall_mem_cons.2 ⟨qfn_,(List.forall_mem_nil _)⟩) (List.forall_mem_nil _) ⟨⟨Tryz.f175,(z2_ Tryz.f175),[.tmp 4],(qip_ k),by kernel_rfl,by kernel_rfl,by kernel_rfl,by kernel_rfl,rfl,by decide,⟨by kernel_rfl,?_,?_⟩,?_⟩⟩
 ·refine zf_ (n:=1) (by kernel_rfl) fun i hi=>?_
  match i,hi with
  | 0,_=>exact zd_ (by kernel_rfl) (qir_ k)
  | n+1,hi=>omega
 ·exact z8_ (by kernel_rfl)
 ·rintro ⟨s0,simplex1⟩
  kernel_rfl
def zfg_ (k:Nat) (s0:List (List Int)×Int×List Int×List (Int×Int×Int×List Int)) (simplex1:Int) (place2:Int):Option (Int×Int×Int×List Int):=(zff_ k s0 simplex1).bind fun r_1=>(if 0≤(z0_ (r_1+place2)) then (s0.2.2.2[(z0_ (r_1+place2)).toNat]?).bind fun y_2=>some y_2 else none)
def qit_ (k:Nat):FE:=⟨(.pr (.st (.pr (.st (.sl 25 (.sl 2 (.int .i64)))) (.pr (.int .i64) (.pr (.sl 2 (.int .i64)) (.sl 135 (.st (.pr (.int .i64) (.pr (.int .i64) (.pr (.int .i64) (.sl 2 (.int .i64))))))))))) (.pr (.int .i64) (.int .i64))),RON,(.st (.pr (.int .i64) (.pr (.int .i64) (.pr (.int .i64) (.sl 2 (.int .i64)))))),fun x=>zfg_ k x.1 x.2.1 x.2.2⟩
theorem qiu_ (k:Nat):FnOK Tryz.prog 139 (qit_ k):=by
 refine zjf_ (tab:=[(175,qiq_ k)]) (l:=[]) z7_ z9_ mix (List.forall_mem_cons.2 ⟨qis_ k,(List.forall_mem_nil _)⟩) (List.forall_mem_nil _) ⟨by kernel_rfl,⟨Tryz.f139,(z2_ Tryz.f139),[.cell 6 135],(LOn (Int×Int×Int×List Int)),by kernel_rfl,by kernel_rfl,by kernel_rfl,by kernel_rfl,by decide,⟨by kernel_rfl,?_,?_⟩,?_⟩⟩
 ·exact ze_ (by kernel_rfl)
 ·exact z8_ (by kernel_rfl)
 ·rintro ⟨s0,simplex1,place2⟩
  kernel_rfl
def z9j_ (k:Nat):Nat→Int→Int→Int→Int→(List Int)→zT0→(Int→Option Int)→Option Int
 | 0,_,_,_,_,_,_,_=>none
 | n+1,simplex1,n5,x19,x20,q_4,v_2,e_0=>(if (decide (x20<x19))=true then (if 0≤x20∧x20.toNat<List.length q_4 then (q_4[x20.toNat]?).bind fun y_5=>(if (decide (y_5=simplex1))=true then e_0 n5 else (if 0≤y_5 then (v_2.2.2.1[y_5.toNat]?).bind fun y_6=>z9j_ k n simplex1 (z0_ (n5+y_6)) x19 (z0_ (x20+1)) q_4 v_2 e_0 else none)) else none) else e_0 n5)
def z9k_ (k:Nat) (s0:List (List Int)×Int×List Int×List (Int×Int×Int×List Int)) (simplex1:Int):Option Int:=(if 0≤simplex1 then (s0.1[simplex1.toNat]?).bind fun y_1=>(z4p_ y_1).bind fun r_2=>(z7j_ k s0.1 (z0_ (r_2-1))).bind fun r_3=>z9j_ k k simplex1 0 (List.length r_3:Int) 0 r_3 s0 (fun n_7=>some n_7) else none)
def qiv_:Head:=⟨[(1,(.val (.int .i64))),(2,(.bp 2 [] 0)),(5,(.val (.int .i64))),(18,(.ref 64000000 [])),(19,(.val (.int .i64))),(20,(.val (.int .i64)))],[(64000000,2,(.int .i64),false)],[(2,44,(.val (.st (.pr (.st (.sl 25 (.sl 2 (.int .i64)))) (.pr (.int .i64) (.pr (.sl 2 (.int .i64)) (.sl 135 (.st (.pr (.int .i64) (.pr (.int .i64) (.pr (.int .i64) (.sl 2 (.int .i64)))))))))))))]⟩
def qiw_:Head:=⟨[(5,(.val (.int .i64)))],[],[]⟩
def qix_ (k n:Nat) (x:qiv_.T) (kx:Nat→St→Option Int):Option Int:=z9j_ k n x.1.1 x.1.2.2.1 x.1.2.2.2.2.1 x.1.2.2.2.2.2.1 x.2.1.1 x.2.2.1 (fun (n5:Int)=>kx 0 (qiw_.fill ((n5,()),(),())))
def qiy_ (k:Nat):Oracles Int:=⟨fun n=>bif Nat.beq n 3 then some (fun σ kx=>qiv_.get σ fun x=>qix_ k k x kx) else none,fun _=>none⟩
def qiz_ (k:Nat):FE:=⟨(.pr (.st (.pr (.st (.sl 25 (.sl 2 (.int .i64)))) (.pr (.int .i64) (.pr (.sl 2 (.int .i64)) (.sl 135 (.st (.pr (.int .i64) (.pr (.int .i64) (.pr (.int .i64) (.sl 2 (.int .i64))))))))))) (.int .i64)),1,(.int .i64),fun x=>z9k_ k x.1 x.2⟩
theorem qj0_ (k:Nat):zc_ (z3_ ti [(133,qfm_),(92,qfs_ k)] (lk []) z4_ z5_) (qiy_ k) (rdC (z3_ ti [(133,qfm_),(92,qfs_ k)] (lk []) z4_ z5_) [.tmp 4] (.int .i64)) ((zb_ (z2_ Tryz.f140)).getD 0 .skip) (fun σ kx=>qiv_.get σ fun x=>qix_ k k x kx):=by
 refine ⟨qiv_,[(0,qiw_)],fun n x kx=>qix_ k n x kx,k,by kernel_rfl,by kernel_rfl,fun x kx=>by kernel_rfl,?_,fun σ kx=>rfl⟩
 rintro n ⟨⟨simplex1,⟨⟩,n5,⟨⟩,x19,x20,⟨⟩⟩,⟨q_4,⟨⟩⟩,⟨v_2,⟨⟩⟩⟩ kx
 kernel_rfl
theorem qj1_ (k:Nat):FnOK Tryz.prog 140 (qiz_ k):=by
 refine za_ (tab:=[(133,qfm_),(92,qfs_ k)]) (l:=[]) z7_ z9_ mix (List.forall_mem_cons.2 ⟨qfn_,(List.forall_mem_cons.2 ⟨qfu_ k,(List.forall_mem_nil _)⟩)⟩) (List.forall_mem_nil _) ⟨⟨Tryz.f140,(z2_ Tryz.f140),[.tmp 4],(qiy_ k),by kernel_rfl,by kernel_rfl,by kernel_rfl,by kernel_rfl,rfl,by decide,⟨by kernel_rfl,?_,?_⟩,?_⟩⟩
 ·refine zf_ (n:=1) (by kernel_rfl) fun i hi=>?_
  match i,hi with
  | 0,_=>exact zd_ (by kernel_rfl) (qj0_ k)
  | n+1,hi=>omega
 ·exact z8_ (by kernel_rfl)
 ·rintro ⟨s0,simplex1⟩
  kernel_rfl
def zjr_ (m0:Int×Int×Int×List Int) (i1:Int) (j2:Int):Option Int:=(if 0≤(z0_ ((z0_ (i1*m0.2.2.1))+j2)) then (m0.2.2.2[(z0_ ((z0_ (i1*m0.2.2.1))+j2)).toNat]?).bind fun y_1=>some y_1 else none)
def qj2_:FE:=⟨(.pr (.st (.pr (.int .i64) (.pr (.int .i64) (.pr (.int .i64) (.sl 2 (.int .i64)))))) (.pr (.int .i64) (.int .i64))),1,(.int .i64),fun x=>zjr_ x.1 x.2.1 x.2.2⟩
theorem qj3_:FnOK Tryz.prog 141 (qj2_):=by
 refine za_ (tab:=[]) (l:=[]) z7_ z9_ mix (List.forall_mem_nil _) (List.forall_mem_nil _) ⟨⟨Tryz.f141,(z2_ Tryz.f141),[.tmp 6],(LOn Int),by kernel_rfl,by kernel_rfl,by kernel_rfl,by kernel_rfl,rfl,by decide,⟨by kernel_rfl,?_,?_⟩,?_⟩⟩
 ·exact ze_ (by kernel_rfl)
 ·exact z8_ (by kernel_rfl)
 ·rintro ⟨m0,i1,j2⟩
  kernel_rfl
def zfh_ (k0:Int) (p1:Int):Option Int:=(if (decide ((Int.tmod k0 2)=0))=true then some 1 else some (z0_ (p1-1)))
def qj4_:FE:=⟨(.pr (.int .i64) (.int .i64)),1,(.int .i64),fun x=>zfh_ x.1 x.2⟩
theorem qj5_:FnOK Tryz.prog 142 (qj4_):=by
 refine za_ (tab:=[]) (l:=[]) z7_ z9_ mix (List.forall_mem_nil _) (List.forall_mem_nil _) ⟨⟨Tryz.f142,(z2_ Tryz.f142),[.tmp 4],(LOn Int),by kernel_rfl,by kernel_rfl,by kernel_rfl,by kernel_rfl,rfl,by decide,⟨by kernel_rfl,?_,?_⟩,?_⟩⟩
 ·exact ze_ (by kernel_rfl)
 ·exact z8_ (by kernel_rfl)
 ·rintro ⟨k0,p1⟩
  kernel_rfl
end
end Go.Proofs.YtioaaljaohhjiaaGreatDoor.Ev
