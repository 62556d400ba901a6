/- Functions of the program, as plain ones. No conditions. -/
import Derived.Test.YtioaaljaohhjiaaGreatDoorG4
import Derived.KernelRfl
set_option linter.unusedVariables false
set_option maxRecDepth 100000
namespace Go.Proofs.YtioaaljaohhjiaaGreatDoor.Ev
open Go.RowKit
noncomputable section
def z6l_ (k:Nat):Nat→zT0→Int→Int→Int→Int→(Int×Int×Int×List Int)→Int→Int→Int→Int→(List Int)→(List Int)→(List Int)→(List Int)→Int→Int→Int→Int→Int→Int→(zT0→Int→Int→Int→Int→(Int×Int×Int×List Int)→Int→Int→Int→(List Int)→(List Int)→(List Int)→(List Int)→Int→Int→Int→Int→Int→Int→Option (Int×Int×Int×List Int))→Option (Int×Int×Int×List Int)
 | 0,_,_,_,_,_,_,_,_,_,_,_,_,_,_,_,_,_,_,_,_,_=>none
 | n+1,s0,k1,n7,row9,i10,m11,column12,sign13,a14,b15,q_25,q_26,q_27,q_28,v_4a,v_4ba,v_4bba,v_5a,v_5ba,v_5bba,e_6=>(if (decide (b15<m11.2.2.1))=true then (if 0≤(z0_ ((z0_ (a14*m11.2.2.1))+b15)) then (m11.2.2.2[(z0_ ((z0_ (a14*m11.2.2.1))+b15)).toNat]?).bind fun y_29=>(if s0.2.1=0 then none else (if 0≤(z0_ ((z0_ ((z0_ ((z0_ (row9+a14))*v_5bba))+column12))+b15))∧(z0_ ((z0_ ((z0_ ((z0_ (row9+a14))*v_5bba))+column12))+b15)).toNat<List.length q_28 then (q_28[(z0_ ((z0_ ((z0_ ((z0_ (row9+a14))*v_5bba))+column12))+b15)).toNat]?).bind fun y_30=>(q_28[(z0_ ((z0_ ((z0_ ((z0_ (row9+a14))*v_5bba))+column12))+b15)).toNat]?).bind fun y_31=>z6l_ k n s0 k1 n7 row9 i10 m11 column12 sign13 a14 (z0_ (b15+1)) q_25 q_26 q_27 (q_28.set ((z0_ ((z0_ ((z0_ ((z0_ (row9+a14))*v_5bba))+column12))+b15)).toNat) (Int.tmod (z0_ (y_29*sign13)) s0.2.1)) v_4a v_4ba v_4bba v_5a v_5ba v_5bba e_6 else none)) else none) else e_6 s0 k1 n7 row9 i10 m11 column12 sign13 a14 q_25 q_26 q_27 q_28 v_4a v_4ba v_4bba v_5a v_5ba v_5bba)
def z6m_ (k:Nat):Nat→zT0→Int→Int→Int→Int→(Int×Int×Int×List Int)→Int→Int→Int→(List Int)→(List Int)→(List Int)→(List Int)→Int→Int→Int→Int→Int→Int→(zT0→Int→Int→Int→Int→(List Int)→(List Int)→(List Int)→(List Int)→Int→Int→Int→Int→Int→Int→Option (Int×Int×Int×List Int))→Option (Int×Int×Int×List Int)
 | 0,_,_,_,_,_,_,_,_,_,_,_,_,_,_,_,_,_,_,_,_=>none
 | n+1,s0,k1,n7,row9,i10,m11,column12,sign13,a14,q_21,q_22,q_23,q_24,v_4a,v_4ba,v_4bba,v_5a,v_5ba,v_5bba,e_4=>(if (decide (a14<m11.2.1))=true then z6l_ k k s0 k1 n7 row9 i10 m11 column12 sign13 a14 0 q_21 q_22 q_23 q_24 v_4a v_4ba v_4bba v_5a v_5ba v_5bba (fun s_25 k_26 n_27 row_28 i_29 m_30 column_31 sign_32 a_33 q_34 q_35 q_36 q_37 v_4a_38 v_4ba_39 v_4bba_40 v_5a_41 v_5ba_42 v_5bba_43=>z6m_ k n s_25 k_26 n_27 row_28 i_29 m_30 column_31 sign_32 (z0_ (a_33+1)) q_34 q_35 q_36 q_37 v_4a_38 v_4ba_39 v_4bba_40 v_5a_41 v_5ba_42 v_5bba_43 e_4) else e_4 s0 k1 n7 row9 i10 q_21 q_22 q_23 q_24 v_4a v_4ba v_4bba v_5a v_5ba v_5bba)
def z6n_ (k:Nat):Nat→zT0→Int→Int→Int→Int→(List Int)→(List Int)→(List Int)→(List Int)→Int→Int→Int→Int→Int→Int→(zT0→Int→Int→(List Int)→(List Int)→(List Int)→Int→Int→Int→Int→Int→Int→Option (Int×Int×Int×List Int))→Option (Int×Int×Int×List Int)
 | 0,_,_,_,_,_,_,_,_,_,_,_,_,_,_,_,_=>none
 | n+1,s0,k1,n7,row9,i10,q_12,q_13,q_14,q_15,v_4a,v_4ba,v_4bba,v_5a,v_5ba,v_5bba,e_2=>(if (decide (i10<(List.length q_13:Int)))=true then (if 0≤n7∧n7.toNat<List.length q_12 then (q_12[n7.toNat]?).bind fun y_16=>(z6k_ k s0 y_16 i10).bind fun r_17=>(if 0≤i10∧i10.toNat<List.length q_13 then (q_13[i10.toNat]?).bind fun y_18=>(zaj_ k s0 y_18).bind fun r_19=>(zgt_ i10 s0.2.1).bind fun r_20=>z6m_ k k s0 k1 n7 row9 i10 r_17 r_19 r_20 0 q_12 q_13 q_14 q_15 v_4a v_4ba v_4bba v_5a v_5ba v_5bba (fun s_21 k_22 n_23 row_24 i_25 q_26 q_27 q_28 q_29 v_4a_30 v_4ba_31 v_4bba_32 v_5a_33 v_5ba_34 v_5bba_35=>z6n_ k n s_21 k_22 n_23 row_24 (z0_ (i_25+1)) q_26 q_27 q_28 q_29 v_4a_30 v_4ba_31 v_4bba_32 v_5a_33 v_5ba_34 v_5bba_35 e_2) else none) else none) else e_2 s0 k1 n7 q_12 q_14 q_15 v_4a v_4ba v_4bba v_5a v_5ba v_5bba)
def z7z_ (k:Nat):Nat→zT0→Int→Int→(List Int)→(List Int)→(List Int)→Int→Int→Int→Int→Int→Int→((List Int)→(List Int)→Int→Int→Int→Int→Int→Int→Option (Int×Int×Int×List Int))→Option (Int×Int×Int×List Int)
 | 0,_,_,_,_,_,_,_,_,_,_,_,_,_=>none
 | n+1,s0,k1,n7,q_5,q_6,q_7,v_4a,v_4ba,v_4bba,v_5a,v_5ba,v_5bba,e_0=>(if (decide (n7<(List.length q_5:Int)))=true then (if (decide (0≤k1))=true then (if 0≤n7∧n7.toNat<List.length q_5 then (q_5[n7.toNat]?).bind fun y_8=>(zaf_ k s0.1 y_8).bind fun r_9=>(if 0≤n7∧n7.toNat<List.length q_5 then (q_5[n7.toNat]?).bind fun y_10=>(zaj_ k s0 y_10).bind fun r_11=>z6n_ k k s0 k1 n7 r_11 0 q_5 r_9 q_6 q_7 v_4a v_4ba v_4bba v_5a v_5ba v_5bba (fun s_12 k_13 n_14 q_15 q_16 q_17 v_4a_18 v_4ba_19 v_4bba_20 v_5a_21 v_5ba_22 v_5bba_23=>z7z_ k n s_12 k_13 (z0_ (n_14+1)) q_15 q_16 q_17 v_4a_18 v_4ba_19 v_4bba_20 v_5a_21 v_5ba_22 v_5bba_23 e_0) else none) else none) else e_0 q_6 q_7 v_4a v_4ba v_4bba v_5a v_5ba v_5bba) else e_0 q_6 q_7 v_4a v_4ba v_4bba v_5a v_5ba v_5bba)
def zak_ (k:Nat) (s0:List (List Int)×Int×List Int×List (Int×Int×Int×List Int)) (k1:Int):Option (Int×Int×Int×List Int):=(z6i_ k s0.1 s0.2.2.1 (z0_ (k1+1))).bind fun r_1=>(z6i_ k s0.1 s0.2.2.1 k1).bind fun r_2=>(zcf_ s0.2.1 r_1 r_2).bind fun r_3=>(zab_ k s0.1 (z0_ (k1+1))).bind fun r_4=>z7z_ k k s0 k1 0 r_4 [] r_3.2.2.2 0 0 0 r_3.1 r_3.2.1 r_3.2.2.1 (fun q_24 q_25 v_4a_26 v_4ba_27 v_4bba_28 v_5a_29 v_5ba_30 v_5bba_31=>some (v_5a_29,(v_5ba_30,(v_5bba_31,q_25))))
def q80_:Head:=⟨[(0,(.val (.ptr (.st (.pr (.st (.sl 25 (.sl 2 (.int .i64)))) (.pr (.int .i64) (.pr (.sl 2 (.int .i64)) (.sl 135 (.st (.pr (.int .i64) (.pr (.int .i64) (.pr (.int .i64) (.sl 2 (.int .i64)))))))))))))),(1,(.val (.int .i64))),(4,(.bp 4 [] 0)),(5,(.bp 5 [] 0)),(6,(.ref 64000000 [])),(7,(.val (.int .i64))),(8,(.ref 64000001 [])),(9,(.val (.int .i64))),(10,(.val (.int .i64))),(11,(.val (.ptr (.st (.pr (.int .i64) (.pr (.int .i64) (.pr (.int .i64) (.sl 2 (.int .i64))))))))),(12,(.val (.int .i64))),(13,(.val (.int .i64))),(14,(.val (.int .i64))),(15,(.val (.int .i64)))],[(64000000,2,(.int .i64),false),(64000001,2,(.int .i64),false),(64000002,2,(.int .i64),false),(64000003,2,(.int .i64),false)],[(4,135,(.st (.pr (.val (.int .i64)) (.pr (.val (.int .i64)) (.pr (.val (.int .i64)) (.ref 64000002 [])))))),(5,135,(.st (.pr (.val (.int .i64)) (.pr (.val (.int .i64)) (.pr (.val (.int .i64)) (.ref 64000003 []))))))]⟩
def q81_:Head:=⟨[(0,(.val (.ptr (.st (.pr (.st (.sl 25 (.sl 2 (.int .i64)))) (.pr (.int .i64) (.pr (.sl 2 (.int .i64)) (.sl 135 (.st (.pr (.int .i64) (.pr (.int .i64) (.pr (.int .i64) (.sl 2 (.int .i64)))))))))))))),(1,(.val (.int .i64))),(4,(.bp 4 [] 0)),(5,(.bp 5 [] 0)),(6,(.ref 64000000 [])),(7,(.val (.int .i64))),(8,(.ref 64000001 [])),(9,(.val (.int .i64))),(10,(.val (.int .i64))),(11,(.val (.ptr (.st (.pr (.int .i64) (.pr (.int .i64) (.pr (.int .i64) (.sl 2 (.int .i64))))))))),(12,(.val (.int .i64))),(13,(.val (.int .i64))),(14,(.val (.int .i64)))],[(64000000,2,(.int .i64),false),(64000001,2,(.int .i64),false),(64000002,2,(.int .i64),false),(64000003,2,(.int .i64),false)],[(4,135,(.st (.pr (.val (.int .i64)) (.pr (.val (.int .i64)) (.pr (.val (.int .i64)) (.ref 64000002 [])))))),(5,135,(.st (.pr (.val (.int .i64)) (.pr (.val (.int .i64)) (.pr (.val (.int .i64)) (.ref 64000003 []))))))]⟩
def q82_ (k n:Nat) (x:q80_.T) (kx:Nat→St→Option (Int×Int×Int×List Int)):Option (Int×Int×Int×List Int):=z6l_ k n x.1.1 x.1.2.1 x.1.2.2.2.2.2.1 x.1.2.2.2.2.2.2.2.1 x.1.2.2.2.2.2.2.2.2.1 x.1.2.2.2.2.2.2.2.2.2.1 x.1.2.2.2.2.2.2.2.2.2.2.1 x.1.2.2.2.2.2.2.2.2.2.2.2.1 x.1.2.2.2.2.2.2.2.2.2.2.2.2.1 x.1.2.2.2.2.2.2.2.2.2.2.2.2.2.1 x.2.1.1 x.2.1.2.1 x.2.1.2.2.1 x.2.1.2.2.2.1 x.2.2.1.1 x.2.2.1.2.1 x.2.2.1.2.2.1 x.2.2.2.1.1 x.2.2.2.1.2.1 x.2.2.2.1.2.2.1 (fun (s0:List (List Int)×Int×List Int×List (Int×Int×Int×List Int)) (k1:Int) (n7:Int) (row9:Int) (i10:Int) (m11:Int×Int×Int×List Int) (column12:Int) (sign13:Int) (a14:Int) (q_32:List Int) (q_33:List Int) (q_34:List Int) (q_35:List Int) (v_4a:Int) (v_4ba:Int) (v_4bba:Int) (v_5a:Int) (v_5ba:Int) (v_5bba:Int)=>kx 6 (q81_.fill ((s0,k1,(),(),(),n7,(),row9,i10,m11,column12,sign13,a14,()),(q_32,q_33,q_34,q_35,()),((v_4a,(v_4ba,(v_4bba,()))),(v_5a,(v_5ba,(v_5bba,()))),()))))
def q83_:Head:=⟨[(0,(.val (.ptr (.st (.pr (.st (.sl 25 (.sl 2 (.int .i64)))) (.pr (.int .i64) (.pr (.sl 2 (.int .i64)) (.sl 135 (.st (.pr (.int .i64) (.pr (.int .i64) (.pr (.int .i64) (.sl 2 (.int .i64)))))))))))))),(1,(.val (.int .i64))),(4,(.bp 4 [] 0)),(5,(.bp 5 [] 0)),(6,(.ref 64000000 [])),(7,(.val (.int .i64))),(8,(.ref 64000001 [])),(9,(.val (.int .i64))),(10,(.val (.int .i64))),(11,(.val (.ptr (.st (.pr (.int .i64) (.pr (.int .i64) (.pr (.int .i64) (.sl 2 (.int .i64))))))))),(12,(.val (.int .i64))),(13,(.val (.int .i64))),(14,(.val (.int .i64)))],[(64000000,2,(.int .i64),false),(64000001,2,(.int .i64),false),(64000002,2,(.int .i64),false),(64000003,2,(.int .i64),false)],[(4,135,(.st (.pr (.val (.int .i64)) (.pr (.val (.int .i64)) (.pr (.val (.int .i64)) (.ref 64000002 [])))))),(5,135,(.st (.pr (.val (.int .i64)) (.pr (.val (.int .i64)) (.pr (.val (.int .i64)) (.ref 64000003 []))))))]⟩
def q84_:Head:=⟨[(0,(.val (.ptr (.st (.pr (.st (.sl 25 (.sl 2 (.int .i64)))) (.pr (.int .i64) (.pr (.sl 2 (.int .i64)) (.sl 135 (.st (.pr (.int .i64) (.pr (.int .i64) (.pr (.int .i64) (.sl 2 (.int .i64)))))))))))))),(1,(.val (.int .i64))),(4,(.bp 4 [] 0)),(5,(.bp 5 [] 0)),(6,(.ref 64000000 [])),(7,(.val (.int .i64))),(8,(.ref 64000001 [])),(9,(.val (.int .i64))),(10,(.val (.int .i64)))],[(64000000,2,(.int .i64),false),(64000001,2,(.int .i64),false),(64000002,2,(.int .i64),false),(64000003,2,(.int .i64),false)],[(4,135,(.st (.pr (.val (.int .i64)) (.pr (.val (.int .i64)) (.pr (.val (.int .i64)) (.ref 64000002 [])))))),(5,135,(.st (.pr (.val (.int .i64)) (.pr (.val (.int .i64)) (.pr (.val (.int .i64)) (.ref 64000003 []))))))]⟩
def q85_ (k n:Nat) (x:q83_.T) (kx:Nat→St→Option (Int×Int×Int×List Int)):Option (Int×Int×Int×List Int):=z6m_ k n x.1.1 x.1.2.1 x.1.2.2.2.2.2.1 x.1.2.2.2.2.2.2.2.1 x.1.2.2.2.2.2.2.2.2.1 x.1.2.2.2.2.2.2.2.2.2.1 x.1.2.2.2.2.2.2.2.2.2.2.1 x.1.2.2.2.2.2.2.2.2.2.2.2.1 x.1.2.2.2.2.2.2.2.2.2.2.2.2.1 x.2.1.1 x.2.1.2.1 x.2.1.2.2.1 x.2.1.2.2.2.1 x.2.2.1.1 x.2.2.1.2.1 x.2.2.1.2.2.1 x.2.2.2.1.1 x.2.2.2.1.2.1 x.2.2.2.1.2.2.1 (fun (s0:List (List Int)×Int×List Int×List (Int×Int×Int×List Int)) (k1:Int) (n7:Int) (row9:Int) (i10:Int) (q_51:List Int) (q_52:List Int) (q_53:List Int) (q_54:List Int) (v_4a:Int) (v_4ba:Int) (v_4bba:Int) (v_5a:Int) (v_5ba:Int) (v_5bba:Int)=>kx 4 (q84_.fill ((s0,k1,(),(),(),n7,(),row9,i10,()),(q_51,q_52,q_53,q_54,()),((v_4a,(v_4ba,(v_4bba,()))),(v_5a,(v_5ba,(v_5bba,()))),()))))
def q86_:Head:=⟨[(0,(.val (.ptr (.st (.pr (.st (.sl 25 (.sl 2 (.int .i64)))) (.pr (.int .i64) (.pr (.sl 2 (.int .i64)) (.sl 135 (.st (.pr (.int .i64) (.pr (.int .i64) (.pr (.int .i64) (.sl 2 (.int .i64)))))))))))))),(1,(.val (.int .i64))),(4,(.bp 4 [] 0)),(5,(.bp 5 [] 0)),(6,(.ref 64000000 [])),(7,(.val (.int .i64))),(8,(.ref 64000001 [])),(9,(.val (.int .i64))),(10,(.val (.int .i64)))],[(64000000,2,(.int .i64),false),(64000001,2,(.int .i64),false),(64000002,2,(.int .i64),false),(64000003,2,(.int .i64),false)],[(4,135,(.st (.pr (.val (.int .i64)) (.pr (.val (.int .i64)) (.pr (.val (.int .i64)) (.ref 64000002 [])))))),(5,135,(.st (.pr (.val (.int .i64)) (.pr (.val (.int .i64)) (.pr (.val (.int .i64)) (.ref 64000003 []))))))]⟩
def q87_:Head:=⟨[(0,(.val (.ptr (.st (.pr (.st (.sl 25 (.sl 2 (.int .i64)))) (.pr (.int .i64) (.pr (.sl 2 (.int .i64)) (.sl 135 (.st (.pr (.int .i64) (.pr (.int .i64) (.pr (.int .i64) (.sl 2 (.int .i64)))))))))))))),(1,(.val (.int .i64))),(4,(.bp 4 [] 0)),(5,(.bp 5 [] 0)),(6,(.ref 64000000 [])),(7,(.val (.int .i64)))],[(64000000,2,(.int .i64),false),(64000001,2,(.int .i64),false),(64000002,2,(.int .i64),false)],[(4,135,(.st (.pr (.val (.int .i64)) (.pr (.val (.int .i64)) (.pr (.val (.int .i64)) (.ref 64000001 [])))))),(5,135,(.st (.pr (.val (.int .i64)) (.pr (.val (.int .i64)) (.pr (.val (.int .i64)) (.ref 64000002 []))))))]⟩
def q88_ (k n:Nat) (x:q86_.T) (kx:Nat→St→Option (Int×Int×Int×List Int)):Option (Int×Int×Int×List Int):=z6n_ k n x.1.1 x.1.2.1 x.1.2.2.2.2.2.1 x.1.2.2.2.2.2.2.2.1 x.1.2.2.2.2.2.2.2.2.1 x.2.1.1 x.2.1.2.1 x.2.1.2.2.1 x.2.1.2.2.2.1 x.2.2.1.1 x.2.2.1.2.1 x.2.2.1.2.2.1 x.2.2.2.1.1 x.2.2.2.1.2.1 x.2.2.2.1.2.2.1 (fun (s0:List (List Int)×Int×List Int×List (Int×Int×Int×List Int)) (k1:Int) (n7:Int) (q_59:List Int) (q_60:List Int) (q_61:List Int) (v_4a:Int) (v_4ba:Int) (v_4bba:Int) (v_5a:Int) (v_5ba:Int) (v_5bba:Int)=>kx 2 (q87_.fill ((s0,k1,(),(),(),n7,()),(q_59,q_60,q_61,()),((v_4a,(v_4ba,(v_4bba,()))),(v_5a,(v_5ba,(v_5bba,()))),()))))
def q89_:Head:=⟨[(0,(.val (.ptr (.st (.pr (.st (.sl 25 (.sl 2 (.int .i64)))) (.pr (.int .i64) (.pr (.sl 2 (.int .i64)) (.sl 135 (.st (.pr (.int .i64) (.pr (.int .i64) (.pr (.int .i64) (.sl 2 (.int .i64)))))))))))))),(1,(.val (.int .i64))),(4,(.bp 4 [] 0)),(5,(.bp 5 [] 0)),(6,(.ref 64000000 [])),(7,(.val (.int .i64)))],[(64000000,2,(.int .i64),false),(64000001,2,(.int .i64),false),(64000002,2,(.int .i64),false)],[(4,135,(.st (.pr (.val (.int .i64)) (.pr (.val (.int .i64)) (.pr (.val (.int .i64)) (.ref 64000001 [])))))),(5,135,(.st (.pr (.val (.int .i64)) (.pr (.val (.int .i64)) (.pr (.val (.int .i64)) (.ref 64000002 []))))))]⟩
def q8a_:Head:=⟨[(4,(.bp 4 [] 0)),(5,(.bp 5 [] 0))],[(64000000,2,(.int .i64),false),(64000001,2,(.int .i64),false)],[(4,135,(.st (.pr (.val (.int .i64)) (.pr (.val (.int .i64)) (.pr (.val (.int .i64)) (.ref 64000000 [])))))),(5,135,(.st (.pr (.val (.int .i64)) (.pr (.val (.int .i64)) (.pr (.val (.int .i64)) (.ref 64000001 []))))))]⟩
def q8b_ (k n:Nat) (x:q89_.T) (kx:Nat→St→Option (Int×Int×Int×List Int)):Option (Int×Int×Int×List Int):=z7z_ k n x.1.1 x.1.2.1 x.1.2.2.2.2.2.1 x.2.1.1 x.2.1.2.1 x.2.1.2.2.1 x.2.2.1.1 x.2.2.1.2.1 x.2.2.1.2.2.1 x.2.2.2.1.1 x.2.2.2.1.2.1 x.2.2.2.1.2.2.1 (fun (q_48:List Int) (q_49:List Int) (v_4a:Int) (v_4ba:Int) (v_4bba:Int) (v_5a:Int) (v_5ba:Int) (v_5bba:Int)=>kx 0 (q8a_.fill (((),(),()),(q_48,q_49,()),((v_4a,(v_4ba,(v_4bba,()))),(v_5a,(v_5ba,(v_5bba,()))),()))))
def q8c_ (k:Nat):Oracles (Int×Int×Int×List Int):=⟨fun n=>bif Nat.beq n 18 then some (fun σ kx=>q80_.get σ fun x=>q82_ k k x kx) else bif Nat.beq n 15 then some (fun σ kx=>q83_.get σ fun x=>q85_ k k x kx) else bif Nat.beq n 9 then some (fun σ kx=>q86_.get σ fun x=>q88_ k k x kx) else bif Nat.beq n 4 then some (fun σ kx=>q89_.get σ fun x=>q8b_ k k x kx) else none,fun _=>none⟩
def q8d_ (k:Nat):FE:=⟨(.pr (.ptr (.st (.pr (.st (.sl 25 (.sl 2 (.int .i64)))) (.pr (.int .i64) (.pr (.sl 2 (.int .i64)) (.sl 135 (.st (.pr (.int .i64) (.pr (.int .i64) (.pr (.int .i64) (.sl 2 (.int .i64)))))))))))) (.int .i64)),1,(.st (.pr (.int .i64) (.pr (.int .i64) (.pr (.int .i64) (.sl 2 (.int .i64)))))),fun x=>zak_ k x.1 x.2⟩
theorem q8e_ (k:Nat):zc_ (z3_ ti [(63,q4d_ k),(158,q64_),(112,q46_ k),(154,q50_ k),(120,q7v_ k),(157,q62_ k),(159,q7y_)] (lk []) z4_ z5_) (q8c_ k) (rdC (z3_ ti [(63,q4d_ k),(158,q64_),(112,q46_ k),(154,q50_ k),(120,q7v_ k),(157,q62_ k),(159,q7y_)] (lk []) z4_ z5_) [.cell 4 135] (.st (.pr (.int .i64) (.pr (.int .i64) (.pr (.int .i64) (.sl 2 (.int .i64))))))) ((zb_ (z2_ Tryz.f116)).getD 3 .skip) (fun σ kx=>q80_.get σ fun x=>q82_ k k x kx):=by
 refine ⟨q80_,[(6,q81_)],fun n x kx=>q82_ k n x kx,k,by kernel_rfl,by kernel_rfl,fun x kx=>by kernel_rfl,?_,fun σ kx=>rfl⟩
 rintro n ⟨⟨s0,k1,⟨⟩,⟨⟩,⟨⟩,n7,⟨⟩,row9,i10,m11,column12,sign13,a14,b15,⟨⟩⟩,⟨q_25,q_26,q_27,q_28,⟨⟩⟩,⟨⟨v_4a,⟨v_4ba,⟨v_4bba,⟨⟩⟩⟩⟩,⟨v_5a,⟨v_5ba,⟨v_5bba,⟨⟩⟩⟩⟩,⟨⟩⟩⟩ kx
 refine id (α:=z6l_ k (n+1) s0 k1 n7 row9 i10 m11 column12 sign13 a14 b15 q_25 q_26 q_27 q_28 v_4a v_4ba v_4bba v_5a v_5ba v_5bba _=_) ?_
 kernel_rfl
theorem q8f_ (k:Nat):zc_ (z3_ ti [(63,q4d_ k),(158,q64_),(112,q46_ k),(154,q50_ k),(120,q7v_ k),(157,q62_ k),(159,q7y_)] (lk []) z4_ z5_) (q8c_ k) (rdC (z3_ ti [(63,q4d_ k),(158,q64_),(112,q46_ k),(154,q50_ k),(120,q7v_ k),(157,q62_ k),(159,q7y_)] (lk []) z4_ z5_) [.cell 4 135] (.st (.pr (.int .i64) (.pr (.int .i64) (.pr (.int .i64) (.sl 2 (.int .i64))))))) ((zb_ (z2_ Tryz.f116)).getD 2 .skip) (fun σ kx=>q83_.get σ fun x=>q85_ k k x kx):=by
 refine ⟨q83_,[(4,q84_)],fun n x kx=>q85_ k n x kx,k,by kernel_rfl,by kernel_rfl,fun x kx=>by kernel_rfl,?_,fun σ kx=>rfl⟩
 rintro n ⟨⟨s0,k1,⟨⟩,⟨⟩,⟨⟩,n7,⟨⟩,row9,i10,m11,column12,sign13,a14,⟨⟩⟩,⟨q_21,q_22,q_23,q_24,⟨⟩⟩,⟨⟨v_4a,⟨v_4ba,⟨v_4bba,⟨⟩⟩⟩⟩,⟨v_5a,⟨v_5ba,⟨v_5bba,⟨⟩⟩⟩⟩,⟨⟩⟩⟩ kx
 refine id (α:=z6m_ k (n+1) s0 k1 n7 row9 i10 m11 column12 sign13 a14 q_21 q_22 q_23 q_24 v_4a v_4ba v_4bba v_5a v_5ba v_5bba _=_) ?_
 kernel_rfl
theorem q8g_ (k:Nat):zc_ (z3_ ti [(63,q4d_ k),(158,q64_),(112,q46_ k),(154,q50_ k),(120,q7v_ k),(157,q62_ k),(159,q7y_)] (lk []) z4_ z5_) (q8c_ k) (rdC (z3_ ti [(63,q4d_ k),(158,q64_),(112,q46_ k),(154,q50_ k),(120,q7v_ k),(157,q62_ k),(159,q7y_)] (lk []) z4_ z5_) [.cell 4 135] (.st (.pr (.int .i64) (.pr (.int .i64) (.pr (.int .i64) (.sl 2 (.int .i64))))))) ((zb_ (z2_ Tryz.f116)).getD 1 .skip) (fun σ kx=>q86_.get σ fun x=>q88_ k k x kx):=by
 refine ⟨q86_,[(2,q87_)],fun n x kx=>q88_ k n x kx,k,by kernel_rfl,by kernel_rfl,fun x kx=>by kernel_rfl,?_,fun σ kx=>rfl⟩
 rintro n ⟨⟨s0,k1,⟨⟩,⟨⟩,⟨⟩,n7,⟨⟩,row9,i10,⟨⟩⟩,⟨q_12,q_13,q_14,q_15,⟨⟩⟩,⟨⟨v_4a,⟨v_4ba,⟨v_4bba,⟨⟩⟩⟩⟩,⟨v_5a,⟨v_5ba,⟨v_5bba,⟨⟩⟩⟩⟩,⟨⟩⟩⟩ kx
 refine id (α:=z6n_ k (n+1) s0 k1 n7 row9 i10 q_12 q_13 q_14 q_15 v_4a v_4ba v_4bba v_5a v_5ba v_5bba _=_) ?_
 kernel_rfl
theorem q8h_ (k:Nat):zc_ (z3_ ti [(63,q4d_ k),(158,q64_),(112,q46_ k),(154,q50_ k),(120,q7v_ k),(157,q62_ k),(159,q7y_)] (lk []) z4_ z5_) (q8c_ k) (rdC (z3_ ti [(63,q4d_ k),(158,q64_),(112,q46_ k),(154,q50_ k),(120,q7v_ k),(157,q62_ k),(159,q7y_)] (lk []) z4_ z5_) [.cell 4 135] (.st (.pr (.int .i64) (.pr (.int .i64) (.pr (.int .i64) (.sl 2 (.int .i64))))))) ((zb_ (z2_ Tryz.f116)).getD 0 .skip) (fun σ kx=>q89_.get σ fun x=>q8b_ k k x kx):=by
 refine ⟨q89_,[(0,q8a_)],fun n x kx=>q8b_ k n x kx,k,by kernel_rfl,by kernel_rfl,fun x kx=>by kernel_rfl,?_,fun σ kx=>rfl⟩
 rintro n ⟨⟨s0,k1,⟨⟩,⟨⟩,⟨⟩,n7,⟨⟩⟩,⟨q_5,q_6,q_7,⟨⟩⟩,⟨⟨v_4a,⟨v_4ba,⟨v_4bba,⟨⟩⟩⟩⟩,⟨v_5a,⟨v_5ba,⟨v_5bba,⟨⟩⟩⟩⟩,⟨⟩⟩⟩ kx
 refine id (α:=z7z_ k (n+1) s0 k1 n7 q_5 q_6 q_7 v_4a v_4ba v_4bba v_5a v_5ba v_5bba _=_) ?_
 kernel_rfl
theorem q8i_ (k:Nat):FnOK Tryz.prog 116 (q8d_ k):=by
 refine za_ (tab:=[(63,q4d_ k),(158,q64_),(112,q46_ k),(154,q50_ k),(120,q7v_ k),(157,q62_ k),(159,q7y_)]) (l:=[]) z7_ z9_ mix (List.forall_mem_cons.2 ⟨q4f_ k,(List.forall_mem_cons.2 ⟨q65_,(List.forall_mem_cons.2 ⟨q48_ k,(List.forall_mem_cons.2 ⟨q52_ k,(List.forall_mem_cons.2 ⟨q7x_ k,(List.forall_mem_cons.2 ⟨q63_ k,(List.forall_mem_cons.2 ⟨q7z_,(List.forall_mem_nil _)⟩)⟩)⟩)⟩)⟩)⟩)⟩) (List.forall_mem_nil _) ⟨⟨Tryz.f116,(z2_ Tryz.f116),[.cell 4 135],(q8c_ k),by kernel_rfl,by kernel_rfl,by kernel_rfl,by kernel_rfl,rfl,by decide,⟨by kernel_rfl,?_,?_⟩,?_⟩⟩
 ·refine zf_ (n:=4) (by kernel_rfl) fun i hi=>?_
  match i,hi with
  | 0,_=>exact zd_ (by kernel_rfl) (q8h_ k)
  | 1,_=>exact zd_ (by kernel_rfl) (q8g_ k)
  | 2,_=>exact zd_ (by kernel_rfl) (q8f_ k)
  | 3,_=>exact zd_ (by kernel_rfl) (q8e_ k)
  | n+4,hi=>omega
 ·exact z8_ (by kernel_rfl)
 ·rintro ⟨s0,k1⟩
  kernel_rfl
def z80_ (k:Nat):Nat→(Int×Int×Int×List Int)→(List Int)→Int→Int→Int→(List Int)→((Int×Int×Int×List Int)→(List Int)→Int→Int→(List Int)→Option (List Int))→Option (List Int)
 | 0,_,_,_,_,_,_,_=>none
 | n+1,m0,v1,i6,sum7,k8,q_2,e_2=>(if (decide (k8<m0.2.2.1))=true then (if 0≤(z0_ ((z0_ (i6*m0.2.2.1))+k8)) then (m0.2.2.2[(z0_ ((z0_ (i6*m0.2.2.1))+k8)).toNat]?).bind fun y_3=>(if 0≤k8 then (v1[k8.toNat]?).bind fun y_4=>z80_ k n m0 v1 i6 (z0_ (sum7+(z0_ (y_3*y_4)))) (z0_ (k8+1)) q_2 e_2 else none) else none) else e_2 m0 v1 i6 sum7 q_2)
def zal_ (k:Nat):Nat→(Int×Int×Int×List Int)→(List Int)→Int→(List Int)→((List Int)→Option (List Int))→Option (List Int)
 | 0,_,_,_,_,_=>none
 | n+1,m0,v1,i6,q_1,e_0=>(if (decide (i6<m0.2.1))=true then z80_ k k m0 v1 i6 0 0 q_1 (fun m_2 v_3 i_4 sum_5 q_6=>(if m_2.1=0 then none else (if (q_6.length+[(Int.tmod sum_5 m_2.1)].length)*8≤LIM then zal_ k n m_2 v_3 (z0_ (i_4+1)) (q_6++[(Int.tmod sum_5 m_2.1)]) e_0 else none))) else e_0 q_1)
def zcg_ (k:Nat) (m0:Int×Int×Int×List Int) (v1:List Int):Option (List Int):=zal_ k k m0 v1 0 [] (fun q_7=>some q_7)
def q8j_:Head:=⟨[(0,(.val (.ptr (.st (.pr (.int .i64) (.pr (.int .i64) (.pr (.int .i64) (.sl 2 (.int .i64))))))))),(1,(.val (.sl 2 (.int .i64)))),(5,(.ref 64000000 [])),(6,(.val (.int .i64))),(7,(.val (.int .i64))),(8,(.val (.int .i64)))],[(64000000,2,(.int .i64),false)],[]⟩
def q8k_:Head:=⟨[(0,(.val (.ptr (.st (.pr (.int .i64) (.pr (.int .i64) (.pr (.int .i64) (.sl 2 (.int .i64))))))))),(1,(.val (.sl 2 (.int .i64)))),(5,(.ref 64000000 [])),(6,(.val (.int .i64))),(7,(.val (.int .i64)))],[(64000000,2,(.int .i64),false)],[]⟩
def q8l_ (k n:Nat) (x:q8j_.T) (kx:Nat→St→Option (List Int)):Option (List Int):=z80_ k n x.1.1 x.1.2.1 x.1.2.2.2.1 x.1.2.2.2.2.1 x.1.2.2.2.2.2.1 x.2.1.1 (fun (m0:Int×Int×Int×List Int) (v1:List Int) (i6:Int) (sum7:Int) (q_5:List Int)=>kx 2 (q8k_.fill ((m0,v1,(),i6,sum7,()),(q_5,()),())))
def q8m_:Head:=⟨[(0,(.val (.ptr (.st (.pr (.int .i64) (.pr (.int .i64) (.pr (.int .i64) (.sl 2 (.int .i64))))))))),(1,(.val (.sl 2 (.int .i64)))),(5,(.ref 64000000 [])),(6,(.val (.int .i64)))],[(64000000,2,(.int .i64),false)],[]⟩
def q8n_:Head:=⟨[(5,(.ref 64000000 []))],[(64000000,2,(.int .i64),false)],[]⟩
def q8o_ (k n:Nat) (x:q8m_.T) (kx:Nat→St→Option (List Int)):Option (List Int):=zal_ k n x.1.1 x.1.2.1 x.1.2.2.2.1 x.2.1.1 (fun (q_10:List Int)=>kx 0 (q8n_.fill (((),()),(q_10,()),())))
def q8p_ (k:Nat):Oracles (List Int):=⟨fun n=>bif Nat.beq n 7 then some (fun σ kx=>q8j_.get σ fun x=>q8l_ k k x kx) else bif Nat.beq n 3 then some (fun σ kx=>q8m_.get σ fun x=>q8o_ k k x kx) else none,fun _=>none⟩
def q8q_ (k:Nat):FE:=⟨(.pr (.ptr (.st (.pr (.int .i64) (.pr (.int .i64) (.pr (.int .i64) (.sl 2 (.int .i64))))))) (.sl 2 (.int .i64))),1,(.sl 2 (.int .i64)),fun x=>zcg_ k x.1 x.2⟩
theorem q8r_ (k:Nat):zc_ (z3_ ti [] (lk []) z4_ z5_) (q8p_ k) (rdC (z3_ ti [] (lk []) z4_ z5_) [.tmp 4] (.sl 2 (.int .i64))) ((zb_ (z2_ Tryz.f118)).getD 1 .skip) (fun σ kx=>q8j_.get σ fun x=>q8l_ k k x kx):=by
 refine ⟨q8j_,[(2,q8k_)],fun n x kx=>q8l_ k n x kx,k,by kernel_rfl,by kernel_rfl,fun x kx=>by kernel_rfl,?_,fun σ kx=>rfl⟩
 rintro n ⟨⟨m0,v1,⟨⟩,i6,sum7,k8,⟨⟩⟩,⟨q_2,⟨⟩⟩,⟨⟩⟩ kx
 kernel_rfl
theorem q8s_ (k:Nat):zc_ (z3_ ti [] (lk []) z4_ z5_) (q8p_ k) (rdC (z3_ ti [] (lk []) z4_ z5_) [.tmp 4] (.sl 2 (.int .i64))) ((zb_ (z2_ Tryz.f118)).getD 0 .skip) (fun σ kx=>q8m_.get σ fun x=>q8o_ k k x kx):=by
 refine ⟨q8m_,[(0,q8n_)],fun n x kx=>q8o_ k n x kx,k,by kernel_rfl,by kernel_rfl,fun x kx=>by kernel_rfl,?_,fun σ kx=>rfl⟩
 rintro n ⟨⟨m0,v1,⟨⟩,i6,⟨⟩⟩,⟨q_1,⟨⟩⟩,⟨⟩⟩ kx
 kernel_rfl
theorem q8t_ (k:Nat):FnOK Tryz.prog 118 (q8q_ k):=by
 refine za_ (tab:=[]) (l:=[]) z7_ z9_ mix (List.forall_mem_nil _) (List.forall_mem_nil _) ⟨⟨Tryz.f118,(z2_ Tryz.f118),[.tmp 4],(q8p_ k),by kernel_rfl,by kernel_rfl,by kernel_rfl,by kernel_rfl,rfl,by decide,⟨by kernel_rfl,?_,?_⟩,?_⟩⟩
 ·refine zf_ (n:=2) (by kernel_rfl) fun i hi=>?_
  match i,hi with
  | 0,_=>exact zd_ (by kernel_rfl) (q8s_ k)
  | 1,_=>exact zd_ (by kernel_rfl) (q8r_ k)
  | n+2,hi=>omega
 ·exact z8_ (by kernel_rfl)
 ·rintro ⟨m0,v1⟩
  kernel_rfl
def zam_ (k:Nat):Nat→(List Int)→Int→(Option Bool)→Option Bool
 | 0,_,_,_=>none
 | n+1,v0,i3,e_0=>(if (decide (i3<(List.length v0:Int)))=true then (if 0≤i3 then (v0[i3.toNat]?).bind fun y_1=>(if (!(decide (y_1=0)))=true then some false else zam_ k n v0 (z0_ (i3+1)) e_0) else none) else e_0)
def zch_ (k:Nat) (v0:List Int):Option Bool:=zam_ k k v0 0 (some true)
def q8u_:Head:=⟨[(0,(.val (.sl 2 (.int .i64)))),(3,(.val (.int .i64)))],[],[]⟩
def q8v_:Head:=⟨[],[],[]⟩
def q8w_ (k n:Nat) (x:q8u_.T) (kx:Nat→St→Option Bool):Option Bool:=zam_ k n x.1.1 x.1.2.1 (kx 0 (q8v_.fill ((),(),())))
def q8x_ (k:Nat):Oracles Bool:=⟨fun n=>bif Nat.beq n 2 then some (fun σ kx=>q8u_.get σ fun x=>q8w_ k k x kx) else none,fun _=>none⟩
def q8y_ (k:Nat):FE:=⟨(.sl 2 (.int .i64)),1,.bool,fun x=>zch_ k x⟩
theorem q8z_ (k:Nat):zc_ (z3_ ti [] (lk []) z4_ z5_) (q8x_ k) (rdC (z3_ ti [] (lk []) z4_ z5_) [.tmp 2] .bool) ((zb_ (z2_ Tryz.f117)).getD 0 .skip) (fun σ kx=>q8u_.get σ fun x=>q8w_ k k x kx):=by
 refine ⟨q8u_,[(0,q8v_)],fun n x kx=>q8w_ k n x kx,k,by kernel_rfl,by kernel_rfl,fun x kx=>by kernel_rfl,?_,fun σ kx=>rfl⟩
 rintro n ⟨⟨v0,i3,⟨⟩⟩,⟨⟩,⟨⟩⟩ kx
 kernel_rfl
theorem q90_ (k:Nat):FnOK Tryz.prog 117 (q8y_ k):=by
 refine za_ (tab:=[]) (l:=[]) z7_ z9_ mix (List.forall_mem_nil _) (List.forall_mem_nil _) ⟨⟨Tryz.f117,(z2_ Tryz.f117),[.tmp 2],(q8x_ k),by kernel_rfl,by kernel_rfl,by kernel_rfl,by kernel_rfl,rfl,by decide,⟨by kernel_rfl,?_,?_⟩,?_⟩⟩
 ·refine zf_ (n:=1) (by kernel_rfl) fun i hi=>?_
  match i,hi with
  | 0,_=>exact zd_ (by kernel_rfl) (q8z_ k)
  | n+1,hi=>omega
 ·exact z8_ (by kernel_rfl)
 ·rintro v0
  kernel_rfl
def zow_ (k:Nat) (s0:List (List Int)×Int×List Int×List (Int×Int×Int×List Int)) (k1:Int) (x2:List Int):Option Bool:=(zak_ k s0 k1).bind fun r_1=>(zcg_ k (r_1.1,(r_1.2.1,(r_1.2.2.1,r_1.2.2.2))) x2).bind fun r_2=>(zch_ k r_2).bind fun r_3=>some r_3
def q91_ (k:Nat):FE:=⟨(.pr (.ptr (.st (.pr (.st (.sl 25 (.sl 2 (.int .i64)))) (.pr (.int .i64) (.pr (.sl 2 (.int .i64)) (.sl 135 (.st (.pr (.int .i64) (.pr (.int .i64) (.pr (.int .i64) (.sl 2 (.int .i64)))))))))))) (.pr (.int .i64) (.sl 2 (.int .i64)))),1,.bool,fun x=>zow_ k x.1 x.2.1 x.2.2⟩
theorem q92_ (k:Nat):FnOK Tryz.prog 70 (q91_ k):=by
 refine za_ (tab:=[(116,q8d_ k),(118,q8q_ k),(117,q8y_ k)]) (l:=[]) z7_ z9_ mix (List.forall_mem_cons.2 ⟨q8i_ k,(List.forall_mem_cons.2 ⟨q8t_ k,(List.forall_mem_cons.2 ⟨q90_ k,(List.forall_mem_nil _)⟩)⟩)⟩) (List.forall_mem_nil _) ⟨⟨Tryz.f70,(z2_ Tryz.f70),[.tmp 6],(LOn Bool),by kernel_rfl,by kernel_rfl,by kernel_rfl,by kernel_rfl,rfl,by decide,⟨by kernel_rfl,?_,?_⟩,?_⟩⟩
 ·exact ze_ (by kernel_rfl)
 ·exact z8_ (by kernel_rfl)
 ·rintro ⟨s0,k1,x2⟩
  kernel_rfl
def zgu_ (k:Nat):Nat→(Int×Int×Int×List Int)→(Int×Int×Int×List Int)→Int→(List Int)→(List Int)→Int→Int→Int→Int→Int→Int→((List Int)→(List Int)→Int→Int→Int→Int→Int→Int→Option (Int×Int×Int×List Int))→Option (Int×Int×Int×List Int)
 | 0,_,_,_,_,_,_,_,_,_,_,_,_=>none
 | n+1,a0,b1,i6,q_1,q_2,v_4a,v_4ba,v_4bba,v_5a,v_5ba,v_5bba,e_0=>(if (decide (i6<a0.2.1))=true then (if 0≤(z0_ (i6*a0.2.2.1))∧(z0_ (i6*a0.2.2.1))≤(z0_ ((z0_ (i6+1))*a0.2.2.1))∧(z0_ ((z0_ (i6+1))*a0.2.2.1))≤a0.2.2.2.length then (if (q_2.length+((a0.2.2.2.drop ((z0_ (i6*a0.2.2.1)).toNat)).take ((z0_ ((z0_ (i6+1))*a0.2.2.1)).toNat-(z0_ (i6*a0.2.2.1)).toNat)).length)*8≤LIM then (if 0≤(z0_ (i6*b1.2.2.1))∧(z0_ (i6*b1.2.2.1))≤(z0_ ((z0_ (i6+1))*b1.2.2.1))∧(z0_ ((z0_ (i6+1))*b1.2.2.1))≤b1.2.2.2.length then (if ((q_2++((a0.2.2.2.drop ((z0_ (i6*a0.2.2.1)).toNat)).take ((z0_ ((z0_ (i6+1))*a0.2.2.1)).toNat-(z0_ (i6*a0.2.2.1)).toNat))).length+((b1.2.2.2.drop ((z0_ (i6*b1.2.2.1)).toNat)).take ((z0_ ((z0_ (i6+1))*b1.2.2.1)).toNat-(z0_ (i6*b1.2.2.1)).toNat)).length)*8≤LIM then zgu_ k n a0 b1 (z0_ (i6+1)) q_1 ((q_2++((a0.2.2.2.drop ((z0_ (i6*a0.2.2.1)).toNat)).take ((z0_ ((z0_ (i6+1))*a0.2.2.1)).toNat-(z0_ (i6*a0.2.2.1)).toNat)))++((b1.2.2.2.drop ((z0_ (i6*b1.2.2.1)).toNat)).take ((z0_ ((z0_ (i6+1))*b1.2.2.1)).toNat-(z0_ (i6*b1.2.2.1)).toNat))) v_4a v_4ba v_4bba v_5a v_5ba v_5bba e_0 else none) else none) else none) else none) else e_0 q_1 q_2 v_4a v_4ba v_4bba v_5a v_5ba v_5bba)
def zox_ (k:Nat) (a0:Int×Int×Int×List Int) (b1:Int×Int×Int×List Int):Option (Int×Int×Int×List Int):=zgu_ k k a0 b1 0 [] [] 0 0 0 a0.1 a0.2.1 (z0_ (a0.2.2.1+b1.2.2.1)) (fun q_3 q_4 v_4a_5 v_4ba_6 v_4bba_7 v_5a_8 v_5ba_9 v_5bba_10=>some (v_5a_8,(v_5ba_9,(v_5bba_10,q_4))))
def q93_:Head:=⟨[(0,(.val (.ptr (.st (.pr (.int .i64) (.pr (.int .i64) (.pr (.int .i64) (.sl 2 (.int .i64))))))))),(1,(.val (.ptr (.st (.pr (.int .i64) (.pr (.int .i64) (.pr (.int .i64) (.sl 2 (.int .i64))))))))),(4,(.bp 4 [] 0)),(5,(.bp 5 [] 0)),(6,(.val (.int .i64)))],[(64000000,2,(.int .i64),false),(64000001,2,(.int .i64),false)],[(4,135,(.st (.pr (.val (.int .i64)) (.pr (.val (.int .i64)) (.pr (.val (.int .i64)) (.ref 64000000 [])))))),(5,135,(.st (.pr (.val (.int .i64)) (.pr (.val (.int .i64)) (.pr (.val (.int .i64)) (.ref 64000001 []))))))]⟩
def q94_:Head:=⟨[(4,(.bp 4 [] 0)),(5,(.bp 5 [] 0))],[(64000000,2,(.int .i64),false),(64000001,2,(.int .i64),false)],[(4,135,(.st (.pr (.val (.int .i64)) (.pr (.val (.int .i64)) (.pr (.val (.int .i64)) (.ref 64000000 [])))))),(5,135,(.st (.pr (.val (.int .i64)) (.pr (.val (.int .i64)) (.pr (.val (.int .i64)) (.ref 64000001 []))))))]⟩
def q95_ (k n:Nat) (x:q93_.T) (kx:Nat→St→Option (Int×Int×Int×List Int)):Option (Int×Int×Int×List Int):=zgu_ k n x.1.1 x.1.2.1 x.1.2.2.2.2.1 x.2.1.1 x.2.1.2.1 x.2.2.1.1 x.2.2.1.2.1 x.2.2.1.2.2.1 x.2.2.2.1.1 x.2.2.2.1.2.1 x.2.2.2.1.2.2.1 (fun (q_3:List Int) (q_4:List Int) (v_4a:Int) (v_4ba:Int) (v_4bba:Int) (v_5a:Int) (v_5ba:Int) (v_5bba:Int)=>kx 0 (q94_.fill (((),(),()),(q_3,q_4,()),((v_4a,(v_4ba,(v_4bba,()))),(v_5a,(v_5ba,(v_5bba,()))),()))))
def q96_ (k:Nat):Oracles (Int×Int×Int×List Int):=⟨fun n=>bif Nat.beq n 3 then some (fun σ kx=>q93_.get σ fun x=>q95_ k k x kx) else none,fun _=>none⟩
def q97_ (k:Nat):FE:=⟨(.pr (.ptr (.st (.pr (.int .i64) (.pr (.int .i64) (.pr (.int .i64) (.sl 2 (.int .i64))))))) (.ptr (.st (.pr (.int .i64) (.pr (.int .i64) (.pr (.int .i64) (.sl 2 (.int .i64)))))))),1,(.st (.pr (.int .i64) (.pr (.int .i64) (.pr (.int .i64) (.sl 2 (.int .i64)))))),fun x=>zox_ k x.1 x.2⟩
theorem q98_ (k:Nat):zc_ (z3_ ti [] (lk []) z4_ z5_) (q96_ k) (rdC (z3_ ti [] (lk []) z4_ z5_) [.cell 4 135] (.st (.pr (.int .i64) (.pr (.int .i64) (.pr (.int .i64) (.sl 2 (.int .i64))))))) ((zb_ (z2_ Tryz.f160)).getD 0 .skip) (fun σ kx=>q93_.get σ fun x=>q95_ k k x kx):=by
 refine ⟨q93_,[(0,q94_)],fun n x kx=>q95_ k n x kx,k,by kernel_rfl,by kernel_rfl,fun x kx=>by kernel_rfl,?_,fun σ kx=>rfl⟩
 rintro n ⟨⟨a0,b1,⟨⟩,⟨⟩,i6,⟨⟩⟩,⟨q_1,q_2,⟨⟩⟩,⟨⟨v_4a,⟨v_4ba,⟨v_4bba,⟨⟩⟩⟩⟩,⟨v_5a,⟨v_5ba,⟨v_5bba,⟨⟩⟩⟩⟩,⟨⟩⟩⟩ kx
 refine id (α:=zgu_ k (n+1) a0 b1 i6 q_1 q_2 v_4a v_4ba v_4bba v_5a v_5ba v_5bba _=_) ?_
 kernel_rfl
theorem q99_ (k:Nat):FnOK Tryz.prog 160 (q97_ k):=by
 refine za_ (tab:=[]) (l:=[]) z7_ z9_ mix (List.forall_mem_nil _) (List.forall_mem_nil _) ⟨⟨Tryz.f160,(z2_ Tryz.f160),[.cell 4 135],(q96_ k),by kernel_rfl,by kernel_rfl,by kernel_rfl,by kernel_rfl,rfl,by decide,⟨by kernel_rfl,?_,?_⟩,?_⟩⟩
 ·refine zf_ (n:=1) (by kernel_rfl) fun i hi=>?_
  match i,hi with
  | 0,_=>exact zd_ (by kernel_rfl) (q98_ k)
  | n+1,hi=>omega
 ·exact z8_ (by kernel_rfl)
 ·rintro ⟨a0,b1⟩
  kernel_rfl
end
end Go.Proofs.YtioaaljaohhjiaaGreatDoor.Ev
