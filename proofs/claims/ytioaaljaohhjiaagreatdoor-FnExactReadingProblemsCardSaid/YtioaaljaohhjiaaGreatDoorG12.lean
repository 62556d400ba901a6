/- Functions of the program, as plain ones. No conditions. -/
import Derived.Test.YtioaaljaohhjiaaGreatDoorG11
import Derived.KernelRfl
set_option linter.unusedVariables false
set_option maxRecDepth 100000
namespace Go.Proofs.YtioaaljaohhjiaaGreatDoor.Ev
open Go.RowKit
noncomputable section
def z6f_ (k:Nat):Nat→Int→Int→Int→Int→Int→Int→Int→Int→Int→Int→Int→Int→Int→Int→(List Int)→(List Int)→(List Int)→(List Int)→zT0→Int→Int→Int→Int→Int→Int→(Int×Int×Int×List Int)→(Int→Int→Int→Int→Int→Int→Int→Int→Int→Int→Int→(List Int)→(List Int)→(List Int)→(List Int)→zT0→Int→Int→Int→Int→Int→Int→(Int×Int×Int×List Int)→Option (Int×Int×Int×List Int))→Option (Int×Int×Int×List Int)
 | 0,_,_,_,_,_,_,_,_,_,_,_,_,_,_,_,_,_,_,_,_,_,_,_,_,_,_,_=>none
 | n+1,k1,simplex7,place8,top11,left12,i13,x30,x31,x41,x42,x58,x59,x63,x64,q_24,q_25,q_26,q_27,v_2,v_4a,v_4ba,v_4bba,v_5a,v_5ba,v_5bba,v_10,e_6=>(if (decide (x64<x63))=true then (zjr_ v_10 i13 x64).bind fun r_28=>(zfh_ place8 v_2.2.1).bind fun r_29=>(if v_2.2.1=0 then none else (if 0≤(z0_ ((z0_ ((z0_ ((z0_ (top11+i13))*v_5bba))+left12))+x64))∧(z0_ ((z0_ ((z0_ ((z0_ (top11+i13))*v_5bba))+left12))+x64)).toNat<List.length q_27 then (q_27[(z0_ ((z0_ ((z0_ ((z0_ (top11+i13))*v_5bba))+left12))+x64)).toNat]?).bind fun y_30=>(q_27[(z0_ ((z0_ ((z0_ ((z0_ (top11+i13))*v_5bba))+left12))+x64)).toNat]?).bind fun y_31=>z6f_ k n k1 simplex7 place8 top11 left12 i13 x30 x31 x41 x42 x58 x59 x63 (z0_ (x64+1)) q_24 q_25 q_26 (q_27.set ((z0_ ((z0_ ((z0_ ((z0_ (top11+i13))*v_5bba))+left12))+x64)).toNat) (Int.tmod (z0_ (r_28*r_29)) v_2.2.1)) v_2 v_4a v_4ba v_4bba v_5a v_5ba v_5bba v_10 e_6 else none)) else e_6 k1 simplex7 place8 top11 left12 x30 x31 x41 x42 x58 x59 q_24 q_25 q_26 q_27 v_2 v_4a v_4ba v_4bba v_5a v_5ba v_5bba v_10)
def z6g_ (k:Nat):Nat→Int→Int→Int→Int→Int→Int→Int→Int→Int→Int→Int→(List Int)→(List Int)→(List Int)→(List Int)→zT0→Int→Int→Int→Int→Int→Int→(Int×Int×Int×List Int)→(Int→Int→Int→Int→Int→Int→(List Int)→(List Int)→(List Int)→(List Int)→zT0→Int→Int→Int→Int→Int→Int→Option (Int×Int×Int×List Int))→Option (Int×Int×Int×List Int)
 | 0,_,_,_,_,_,_,_,_,_,_,_,_,_,_,_,_,_,_,_,_,_,_,_,_=>none
 | n+1,k1,simplex7,place8,top11,left12,x30,x31,x41,x42,x58,x59,q_20,q_21,q_22,q_23,v_2,v_4a,v_4ba,v_4bba,v_5a,v_5ba,v_5bba,v_10,e_4=>(if (decide (x59<x58))=true then z6f_ k k k1 simplex7 place8 top11 left12 x59 x30 x31 x41 x42 x58 x59 v_10.2.2.1 0 q_20 q_21 q_22 q_23 v_2 v_4a v_4ba v_4bba v_5a v_5ba v_5bba v_10 (fun k_24 simplex_25 place_26 top_27 left_28 x_29 x_30 x_31 x_32 x_33 x_34 q_35 q_36 q_37 q_38 v_39 v_4a_40 v_4ba_41 v_4bba_42 v_5a_43 v_5ba_44 v_5bba_45 v_46=>z6g_ k n k_24 simplex_25 place_26 top_27 left_28 x_29 x_30 x_31 x_32 x_33 (z0_ (x_34+1)) q_35 q_36 q_37 q_38 v_39 v_4a_40 v_4ba_41 v_4bba_42 v_5a_43 v_5ba_44 v_5bba_45 v_46 e_4) else e_4 k1 simplex7 x30 x31 x41 x42 q_20 q_21 q_22 q_23 v_2 v_4a v_4ba v_4bba v_5a v_5ba v_5bba)
def z6h_ (k:Nat):Nat→Int→Int→Int→Int→Int→Int→(List Int)→(List Int)→(List Int)→(List Int)→zT0→Int→Int→Int→Int→Int→Int→(Int→Int→Int→(List Int)→(List Int)→(List Int)→zT0→Int→Int→Int→Int→Int→Int→Option (Int×Int×Int×List Int))→Option (Int×Int×Int×List Int)
 | 0,_,_,_,_,_,_,_,_,_,_,_,_,_,_,_,_,_,_=>none
 | n+1,k1,simplex7,x30,x31,x41,x42,q_12,q_13,q_14,q_15,v_2,v_4a,v_4ba,v_4bba,v_5a,v_5ba,v_5bba,e_2=>(if (decide (x42<x41))=true then (if 0≤x42∧x42.toNat<List.length q_13 then (q_13[x42.toNat]?).bind fun y_16=>(zfg_ k v_2 simplex7 x42).bind fun r_17=>(z9k_ k v_2 simplex7).bind fun r_18=>(z9k_ k v_2 y_16).bind fun r_19=>z6g_ k k k1 simplex7 x42 r_18 r_19 x30 x31 x41 x42 r_17.2.1 0 q_12 q_13 q_14 q_15 v_2 v_4a v_4ba v_4bba v_5a v_5ba v_5bba r_17 (fun k_20 simplex_21 x_22 x_23 x_24 x_25 q_26 q_27 q_28 q_29 v_30 v_4a_31 v_4ba_32 v_4bba_33 v_5a_34 v_5ba_35 v_5bba_36=>z6h_ k n k_20 simplex_21 x_22 x_23 x_24 (z0_ (x_25+1)) q_26 q_27 q_28 q_29 v_30 v_4a_31 v_4ba_32 v_4bba_33 v_5a_34 v_5ba_35 v_5bba_36 e_2) else none) else e_2 k1 x30 x31 q_12 q_14 q_15 v_2 v_4a v_4ba v_4bba v_5a v_5ba v_5bba)
def z7k_ (k:Nat):Nat→Int→Int→Int→(List Int)→(List Int)→(List Int)→zT0→Int→Int→Int→Int→Int→Int→((List Int)→(List Int)→Int→Int→Int→Int→Int→Int→Option (Int×Int×Int×List Int))→Option (Int×Int×Int×List Int)
 | 0,_,_,_,_,_,_,_,_,_,_,_,_,_,_=>none
 | n+1,k1,x30,x31,q_5,q_6,q_7,v_2,v_4a,v_4ba,v_4bba,v_5a,v_5ba,v_5bba,e_0=>(if (decide (x31<x30))=true then (if 0≤x31∧x31.toNat<List.length q_5 then (q_5[x31.toNat]?).bind fun y_8=>(if (decide (k1<0))=true then e_0 q_6 q_7 v_4a v_4ba v_4bba v_5a v_5ba v_5bba else (zc5_ k v_2.1 y_8).bind fun r_9=>z6h_ k k k1 y_8 x30 x31 (List.length r_9:Int) 0 q_5 r_9 q_6 q_7 v_2 v_4a v_4ba v_4bba v_5a v_5ba v_5bba (fun k_10 x_11 x_12 q_13 q_14 q_15 v_16 v_4a_17 v_4ba_18 v_4bba_19 v_5a_20 v_5ba_21 v_5bba_22=>z7k_ k n k_10 x_11 (z0_ (x_12+1)) q_13 q_14 q_15 v_16 v_4a_17 v_4ba_18 v_4bba_19 v_5a_20 v_5ba_21 v_5bba_22 e_0)) else none) else e_0 q_6 q_7 v_4a v_4ba v_4bba v_5a v_5ba v_5bba)
def zfi_ (k:Nat) (s0:List (List Int)×Int×List Int×List (Int×Int×Int×List Int)) (k1:Int):Option (Int×Int×Int×List Int):=(z6c_ k s0 (z0_ (k1+1))).bind fun r_1=>(z6c_ k s0 k1).bind fun r_2=>(zfe_ k s0.2.1 r_1 r_2).bind fun r_3=>(z7j_ k s0.1 (z0_ (k1+1))).bind fun r_4=>z7k_ k k k1 (List.length r_4:Int) 0 r_4 [] r_3.2.2.2 s0 0 0 0 r_3.1 r_3.2.1 r_3.2.2.1 (fun q_23 q_24 v_4a_25 v_4ba_26 v_4bba_27 v_5a_28 v_5ba_29 v_5bba_30=>some (v_5a_28,(v_5ba_29,(v_5bba_30,q_24))))
def qj6_:Head:=⟨[(1,(.val (.int .i64))),(2,(.bp 2 [] 0)),(4,(.bp 4 [] 0)),(5,(.bp 5 [] 0)),(7,(.val (.int .i64))),(8,(.val (.int .i64))),(10,(.bp 10 [] 0)),(11,(.val (.int .i64))),(12,(.val (.int .i64))),(13,(.val (.int .i64))),(29,(.ref 64000000 [])),(30,(.val (.int .i64))),(31,(.val (.int .i64))),(40,(.ref 64000001 [])),(41,(.val (.int .i64))),(42,(.val (.int .i64))),(58,(.val (.int .i64))),(59,(.val (.int .i64))),(63,(.val (.int .i64))),(64,(.val (.int .i64)))],[(64000000,2,(.int .i64),false),(64000001,2,(.int .i64),false),(64000002,2,(.int .i64),false),(64000003,2,(.int .i64),false)],[(2,44,(.val (.st (.pr (.st (.sl 25 (.sl 2 (.int .i64)))) (.pr (.int .i64) (.pr (.sl 2 (.int .i64)) (.sl 135 (.st (.pr (.int .i64) (.pr (.int .i64) (.pr (.int .i64) (.sl 2 (.int .i64))))))))))))),(4,135,(.st (.pr (.val (.int .i64)) (.pr (.val (.int .i64)) (.pr (.val (.int .i64)) (.ref 64000002 [])))))),(5,135,(.st (.pr (.val (.int .i64)) (.pr (.val (.int .i64)) (.pr (.val (.int .i64)) (.ref 64000003 [])))))),(10,135,(.val (.st (.pr (.int .i64) (.pr (.int .i64) (.pr (.int .i64) (.sl 2 (.int .i64))))))))]⟩
def qj7_:Head:=⟨[(1,(.val (.int .i64))),(2,(.bp 2 [] 0)),(4,(.bp 4 [] 0)),(5,(.bp 5 [] 0)),(7,(.val (.int .i64))),(8,(.val (.int .i64))),(10,(.bp 10 [] 0)),(11,(.val (.int .i64))),(12,(.val (.int .i64))),(29,(.ref 64000000 [])),(30,(.val (.int .i64))),(31,(.val (.int .i64))),(40,(.ref 64000001 [])),(41,(.val (.int .i64))),(42,(.val (.int .i64))),(58,(.val (.int .i64))),(59,(.val (.int .i64)))],[(64000000,2,(.int .i64),false),(64000001,2,(.int .i64),false),(64000002,2,(.int .i64),false),(64000003,2,(.int .i64),false)],[(2,44,(.val (.st (.pr (.st (.sl 25 (.sl 2 (.int .i64)))) (.pr (.int .i64) (.pr (.sl 2 (.int .i64)) (.sl 135 (.st (.pr (.int .i64) (.pr (.int .i64) (.pr (.int .i64) (.sl 2 (.int .i64))))))))))))),(4,135,(.st (.pr (.val (.int .i64)) (.pr (.val (.int .i64)) (.pr (.val (.int .i64)) (.ref 64000002 [])))))),(5,135,(.st (.pr (.val (.int .i64)) (.pr (.val (.int .i64)) (.pr (.val (.int .i64)) (.ref 64000003 [])))))),(10,135,(.val (.st (.pr (.int .i64) (.pr (.int .i64) (.pr (.int .i64) (.sl 2 (.int .i64))))))))]⟩
def qj8_ (k n:Nat) (x:qj6_.T) (kx:Nat→St→Option (Int×Int×Int×List Int)):Option (Int×Int×Int×List Int):=z6f_ k n x.1.1 x.1.2.2.2.2.1 x.1.2.2.2.2.2.1 x.1.2.2.2.2.2.2.2.1 x.1.2.2.2.2.2.2.2.2.1 x.1.2.2.2.2.2.2.2.2.2.1 x.1.2.2.2.2.2.2.2.2.2.2.2.1 x.1.2.2.2.2.2.2.2.2.2.2.2.2.1 x.1.2.2.2.2.2.2.2.2.2.2.2.2.2.2.1 x.1.2.2.2.2.2.2.2.2.2.2.2.2.2.2.2.1 x.1.2.2.2.2.2.2.2.2.2.2.2.2.2.2.2.2.1 x.1.2.2.2.2.2.2.2.2.2.2.2.2.2.2.2.2.2.1 x.1.2.2.2.2.2.2.2.2.2.2.2.2.2.2.2.2.2.2.1 x.1.2.2.2.2.2.2.2.2.2.2.2.2.2.2.2.2.2.2.2.1 x.2.1.1 x.2.1.2.1 x.2.1.2.2.1 x.2.1.2.2.2.1 x.2.2.1 x.2.2.2.1.1 x.2.2.2.1.2.1 x.2.2.2.1.2.2.1 x.2.2.2.2.1.1 x.2.2.2.2.1.2.1 x.2.2.2.2.1.2.2.1 x.2.2.2.2.2.1 (fun (k1:Int) (simplex7:Int) (place8:Int) (top11:Int) (left12:Int) (x30:Int) (x31:Int) (x41:Int) (x42:Int) (x58:Int) (x59:Int) (q_32:List Int) (q_33:List Int) (q_34:List Int) (q_35:List Int) (v_2:List (List Int)×Int×List Int×List (Int×Int×Int×List Int)) (v_4a:Int) (v_4ba:Int) (v_4bba:Int) (v_5a:Int) (v_5ba:Int) (v_5bba:Int) (v_10:Int×Int×Int×List Int)=>kx 6 (qj7_.fill ((k1,(),(),(),simplex7,place8,(),top11,left12,(),x30,x31,(),x41,x42,x58,x59,()),(q_32,q_33,q_34,q_35,()),(v_2,(v_4a,(v_4ba,(v_4bba,()))),(v_5a,(v_5ba,(v_5bba,()))),v_10,()))))
def qj9_:Head:=⟨[(1,(.val (.int .i64))),(2,(.bp 2 [] 0)),(4,(.bp 4 [] 0)),(5,(.bp 5 [] 0)),(7,(.val (.int .i64))),(8,(.val (.int .i64))),(10,(.bp 10 [] 0)),(11,(.val (.int .i64))),(12,(.val (.int .i64))),(29,(.ref 64000000 [])),(30,(.val (.int .i64))),(31,(.val (.int .i64))),(40,(.ref 64000001 [])),(41,(.val (.int .i64))),(42,(.val (.int .i64))),(58,(.val (.int .i64))),(59,(.val (.int .i64)))],[(64000000,2,(.int .i64),false),(64000001,2,(.int .i64),false),(64000002,2,(.int .i64),false),(64000003,2,(.int .i64),false)],[(2,44,(.val (.st (.pr (.st (.sl 25 (.sl 2 (.int .i64)))) (.pr (.int .i64) (.pr (.sl 2 (.int .i64)) (.sl 135 (.st (.pr (.int .i64) (.pr (.int .i64) (.pr (.int .i64) (.sl 2 (.int .i64))))))))))))),(4,135,(.st (.pr (.val (.int .i64)) (.pr (.val (.int .i64)) (.pr (.val (.int .i64)) (.ref 64000002 [])))))),(5,135,(.st (.pr (.val (.int .i64)) (.pr (.val (.int .i64)) (.pr (.val (.int .i64)) (.ref 64000003 [])))))),(10,135,(.val (.st (.pr (.int .i64) (.pr (.int .i64) (.pr (.int .i64) (.sl 2 (.int .i64))))))))]⟩
def qja_:Head:=⟨[(1,(.val (.int .i64))),(2,(.bp 2 [] 0)),(4,(.bp 4 [] 0)),(5,(.bp 5 [] 0)),(7,(.val (.int .i64))),(29,(.ref 64000000 [])),(30,(.val (.int .i64))),(31,(.val (.int .i64))),(40,(.ref 64000001 [])),(41,(.val (.int .i64))),(42,(.val (.int .i64)))],[(64000000,2,(.int .i64),false),(64000001,2,(.int .i64),false),(64000002,2,(.int .i64),false),(64000003,2,(.int .i64),false)],[(2,44,(.val (.st (.pr (.st (.sl 25 (.sl 2 (.int .i64)))) (.pr (.int .i64) (.pr (.sl 2 (.int .i64)) (.sl 135 (.st (.pr (.int .i64) (.pr (.int .i64) (.pr (.int .i64) (.sl 2 (.int .i64))))))))))))),(4,135,(.st (.pr (.val (.int .i64)) (.pr (.val (.int .i64)) (.pr (.val (.int .i64)) (.ref 64000002 [])))))),(5,135,(.st (.pr (.val (.int .i64)) (.pr (.val (.int .i64)) (.pr (.val (.int .i64)) (.ref 64000003 []))))))]⟩
def qjb_ (k n:Nat) (x:qj9_.T) (kx:Nat→St→Option (Int×Int×Int×List Int)):Option (Int×Int×Int×List Int):=z6g_ k n x.1.1 x.1.2.2.2.2.1 x.1.2.2.2.2.2.1 x.1.2.2.2.2.2.2.2.1 x.1.2.2.2.2.2.2.2.2.1 x.1.2.2.2.2.2.2.2.2.2.2.1 x.1.2.2.2.2.2.2.2.2.2.2.2.1 x.1.2.2.2.2.2.2.2.2.2.2.2.2.2.1 x.1.2.2.2.2.2.2.2.2.2.2.2.2.2.2.1 x.1.2.2.2.2.2.2.2.2.2.2.2.2.2.2.2.1 x.1.2.2.2.2.2.2.2.2.2.2.2.2.2.2.2.2.1 x.2.1.1 x.2.1.2.1 x.2.1.2.2.1 x.2.1.2.2.2.1 x.2.2.1 x.2.2.2.1.1 x.2.2.2.1.2.1 x.2.2.2.1.2.2.1 x.2.2.2.2.1.1 x.2.2.2.2.1.2.1 x.2.2.2.2.1.2.2.1 x.2.2.2.2.2.1 (fun (k1:Int) (simplex7:Int) (x30:Int) (x31:Int) (x41:Int) (x42:Int) (q_55:List Int) (q_56:List Int) (q_57:List Int) (q_58:List Int) (v_2:List (List Int)×Int×List Int×List (Int×Int×Int×List Int)) (v_4a:Int) (v_4ba:Int) (v_4bba:Int) (v_5a:Int) (v_5ba:Int) (v_5bba:Int)=>kx 4 (qja_.fill ((k1,(),(),(),simplex7,(),x30,x31,(),x41,x42,()),(q_55,q_56,q_57,q_58,()),(v_2,(v_4a,(v_4ba,(v_4bba,()))),(v_5a,(v_5ba,(v_5bba,()))),()))))
def qjc_:Head:=⟨[(1,(.val (.int .i64))),(2,(.bp 2 [] 0)),(4,(.bp 4 [] 0)),(5,(.bp 5 [] 0)),(7,(.val (.int .i64))),(29,(.ref 64000000 [])),(30,(.val (.int .i64))),(31,(.val (.int .i64))),(40,(.ref 64000001 [])),(41,(.val (.int .i64))),(42,(.val (.int .i64)))],[(64000000,2,(.int .i64),false),(64000001,2,(.int .i64),false),(64000002,2,(.int .i64),false),(64000003,2,(.int .i64),false)],[(2,44,(.val (.st (.pr (.st (.sl 25 (.sl 2 (.int .i64)))) (.pr (.int .i64) (.pr (.sl 2 (.int .i64)) (.sl 135 (.st (.pr (.int .i64) (.pr (.int .i64) (.pr (.int .i64) (.sl 2 (.int .i64))))))))))))),(4,135,(.st (.pr (.val (.int .i64)) (.pr (.val (.int .i64)) (.pr (.val (.int .i64)) (.ref 64000002 [])))))),(5,135,(.st (.pr (.val (.int .i64)) (.pr (.val (.int .i64)) (.pr (.val (.int .i64)) (.ref 64000003 []))))))]⟩
def qjd_:Head:=⟨[(1,(.val (.int .i64))),(2,(.bp 2 [] 0)),(4,(.bp 4 [] 0)),(5,(.bp 5 [] 0)),(29,(.ref 64000000 [])),(30,(.val (.int .i64))),(31,(.val (.int .i64)))],[(64000000,2,(.int .i64),false),(64000001,2,(.int .i64),false),(64000002,2,(.int .i64),false)],[(2,44,(.val (.st (.pr (.st (.sl 25 (.sl 2 (.int .i64)))) (.pr (.int .i64) (.pr (.sl 2 (.int .i64)) (.sl 135 (.st (.pr (.int .i64) (.pr (.int .i64) (.pr (.int .i64) (.sl 2 (.int .i64))))))))))))),(4,135,(.st (.pr (.val (.int .i64)) (.pr (.val (.int .i64)) (.pr (.val (.int .i64)) (.ref 64000001 [])))))),(5,135,(.st (.pr (.val (.int .i64)) (.pr (.val (.int .i64)) (.pr (.val (.int .i64)) (.ref 64000002 []))))))]⟩
def qje_ (k n:Nat) (x:qjc_.T) (kx:Nat→St→Option (Int×Int×Int×List Int)):Option (Int×Int×Int×List Int):=z6h_ k n x.1.1 x.1.2.2.2.2.1 x.1.2.2.2.2.2.2.1 x.1.2.2.2.2.2.2.2.1 x.1.2.2.2.2.2.2.2.2.2.1 x.1.2.2.2.2.2.2.2.2.2.2.1 x.2.1.1 x.2.1.2.1 x.2.1.2.2.1 x.2.1.2.2.2.1 x.2.2.1 x.2.2.2.1.1 x.2.2.2.1.2.1 x.2.2.2.1.2.2.1 x.2.2.2.2.1.1 x.2.2.2.2.1.2.1 x.2.2.2.2.1.2.2.1 (fun (k1:Int) (x30:Int) (x31:Int) (q_64:List Int) (q_65:List Int) (q_66:List Int) (v_2:List (List Int)×Int×List Int×List (Int×Int×Int×List Int)) (v_4a:Int) (v_4ba:Int) (v_4bba:Int) (v_5a:Int) (v_5ba:Int) (v_5bba:Int)=>kx 2 (qjd_.fill ((k1,(),(),(),(),x30,x31,()),(q_64,q_65,q_66,()),(v_2,(v_4a,(v_4ba,(v_4bba,()))),(v_5a,(v_5ba,(v_5bba,()))),()))))
def qjf_:Head:=⟨[(1,(.val (.int .i64))),(2,(.bp 2 [] 0)),(4,(.bp 4 [] 0)),(5,(.bp 5 [] 0)),(29,(.ref 64000000 [])),(30,(.val (.int .i64))),(31,(.val (.int .i64)))],[(64000000,2,(.int .i64),false),(64000001,2,(.int .i64),false),(64000002,2,(.int .i64),false)],[(2,44,(.val (.st (.pr (.st (.sl 25 (.sl 2 (.int .i64)))) (.pr (.int .i64) (.pr (.sl 2 (.int .i64)) (.sl 135 (.st (.pr (.int .i64) (.pr (.int .i64) (.pr (.int .i64) (.sl 2 (.int .i64))))))))))))),(4,135,(.st (.pr (.val (.int .i64)) (.pr (.val (.int .i64)) (.pr (.val (.int .i64)) (.ref 64000001 [])))))),(5,135,(.st (.pr (.val (.int .i64)) (.pr (.val (.int .i64)) (.pr (.val (.int .i64)) (.ref 64000002 []))))))]⟩
def qjg_:Head:=⟨[(4,(.bp 4 [] 0)),(5,(.bp 5 [] 0))],[(64000000,2,(.int .i64),false),(64000001,2,(.int .i64),false)],[(4,135,(.st (.pr (.val (.int .i64)) (.pr (.val (.int .i64)) (.pr (.val (.int .i64)) (.ref 64000000 [])))))),(5,135,(.st (.pr (.val (.int .i64)) (.pr (.val (.int .i64)) (.pr (.val (.int .i64)) (.ref 64000001 []))))))]⟩
def qjh_ (k n:Nat) (x:qjf_.T) (kx:Nat→St→Option (Int×Int×Int×List Int)):Option (Int×Int×Int×List Int):=z7k_ k n x.1.1 x.1.2.2.2.2.2.1 x.1.2.2.2.2.2.2.1 x.2.1.1 x.2.1.2.1 x.2.1.2.2.1 x.2.2.1 x.2.2.2.1.1 x.2.2.2.1.2.1 x.2.2.2.1.2.2.1 x.2.2.2.2.1.1 x.2.2.2.2.1.2.1 x.2.2.2.2.1.2.2.1 (fun (q_9:List Int) (q_10:List Int) (v_4a:Int) (v_4ba:Int) (v_4bba:Int) (v_5a:Int) (v_5ba:Int) (v_5bba:Int)=>kx 0 (qjg_.fill (((),(),()),(q_9,q_10,()),((v_4a,(v_4ba,(v_4bba,()))),(v_5a,(v_5ba,(v_5bba,()))),()))))
def qji_ (k:Nat):Oracles (Int×Int×Int×List Int):=⟨fun n=>bif Nat.beq n 15 then some (fun σ kx=>qj6_.get σ fun x=>qj8_ k k x kx) else bif Nat.beq n 12 then some (fun σ kx=>qj9_.get σ fun x=>qjb_ k k x kx) else bif Nat.beq n 7 then some (fun σ kx=>qjc_.get σ fun x=>qje_ k k x kx) else bif Nat.beq n 3 then some (fun σ kx=>qjf_.get σ fun x=>qjh_ k k x kx) else none,fun _=>none⟩
def qjj_ (k:Nat):FE:=⟨(.pr (.st (.pr (.st (.sl 25 (.sl 2 (.int .i64)))) (.pr (.int .i64) (.pr (.sl 2 (.int .i64)) (.sl 135 (.st (.pr (.int .i64) (.pr (.int .i64) (.pr (.int .i64) (.sl 2 (.int .i64))))))))))) (.int .i64)),1,(.st (.pr (.int .i64) (.pr (.int .i64) (.pr (.int .i64) (.sl 2 (.int .i64)))))),fun x=>zfi_ k x.1 x.2⟩
theorem qjk_ (k:Nat):zc_ (z3_ ti [(88,qfz_ k),(137,qik_ k),(92,qfs_ k),(138,qgf_ k),(139,qit_ k),(140,qiz_ k),(141,qj2_),(142,qj4_)] (lk []) z4_ z5_) (qji_ k) (rdC (z3_ ti [(88,qfz_ k),(137,qik_ k),(92,qfs_ k),(138,qgf_ k),(139,qit_ k),(140,qiz_ k),(141,qj2_),(142,qj4_)] (lk []) z4_ z5_) [.cell 4 135] (.st (.pr (.int .i64) (.pr (.int .i64) (.pr (.int .i64) (.sl 2 (.int .i64))))))) ((zb_ (z2_ Tryz.f91)).getD 3 .skip) (fun σ kx=>qj6_.get σ fun x=>qj8_ k k x kx):=by
 refine ⟨qj6_,[(6,qj7_)],fun n x kx=>qj8_ k n x kx,k,by kernel_rfl,by kernel_rfl,fun x kx=>by kernel_rfl,?_,fun σ kx=>rfl⟩
 rintro n ⟨⟨k1,⟨⟩,⟨⟩,⟨⟩,simplex7,place8,⟨⟩,top11,left12,i13,⟨⟩,x30,x31,⟨⟩,x41,x42,x58,x59,x63,x64,⟨⟩⟩,⟨q_24,q_25,q_26,q_27,⟨⟩⟩,⟨v_2,⟨v_4a,⟨v_4ba,⟨v_4bba,⟨⟩⟩⟩⟩,⟨v_5a,⟨v_5ba,⟨v_5bba,⟨⟩⟩⟩⟩,v_10,⟨⟩⟩⟩ kx
 refine id (α:=z6f_ k (n+1) k1 simplex7 place8 top11 left12 i13 x30 x31 x41 x42 x58 x59 x63 x64 q_24 q_25 q_26 q_27 v_2 v_4a v_4ba v_4bba v_5a v_5ba v_5bba v_10 _=_) ?_
 kernel_rfl
theorem qjl_ (k:Nat):zc_ (z3_ ti [(88,qfz_ k),(137,qik_ k),(92,qfs_ k),(138,qgf_ k),(139,qit_ k),(140,qiz_ k),(141,qj2_),(142,qj4_)] (lk []) z4_ z5_) (qji_ k) (rdC (z3_ ti [(88,qfz_ k),(137,qik_ k),(92,qfs_ k),(138,qgf_ k),(139,qit_ k),(140,qiz_ k),(141,qj2_),(142,qj4_)] (lk []) z4_ z5_) [.cell 4 135] (.st (.pr (.int .i64) (.pr (.int .i64) (.pr (.int .i64) (.sl 2 (.int .i64))))))) ((zb_ (z2_ Tryz.f91)).getD 2 .skip) (fun σ kx=>qj9_.get σ fun x=>qjb_ k k x kx):=by
 refine ⟨qj9_,[(4,qja_)],fun n x kx=>qjb_ k n x kx,k,by kernel_rfl,by kernel_rfl,fun x kx=>by kernel_rfl,?_,fun σ kx=>rfl⟩
 rintro n ⟨⟨k1,⟨⟩,⟨⟩,⟨⟩,simplex7,place8,⟨⟩,top11,left12,⟨⟩,x30,x31,⟨⟩,x41,x42,x58,x59,⟨⟩⟩,⟨q_20,q_21,q_22,q_23,⟨⟩⟩,⟨v_2,⟨v_4a,⟨v_4ba,⟨v_4bba,⟨⟩⟩⟩⟩,⟨v_5a,⟨v_5ba,⟨v_5bba,⟨⟩⟩⟩⟩,v_10,⟨⟩⟩⟩ kx
 refine id (α:=z6g_ k (n+1) k1 simplex7 place8 top11 left12 x30 x31 x41 x42 x58 x59 q_20 q_21 q_22 q_23 v_2 v_4a v_4ba v_4bba v_5a v_5ba v_5bba v_10 _=_) ?_
 kernel_rfl
theorem qjm_ (k:Nat):zc_ (z3_ ti [(88,qfz_ k),(137,qik_ k),(92,qfs_ k),(138,qgf_ k),(139,qit_ k),(140,qiz_ k),(141,qj2_),(142,qj4_)] (lk []) z4_ z5_) (qji_ k) (rdC (z3_ ti [(88,qfz_ k),(137,qik_ k),(92,qfs_ k),(138,qgf_ k),(139,qit_ k),(140,qiz_ k),(141,qj2_),(142,qj4_)] (lk []) z4_ z5_) [.cell 4 135] (.st (.pr (.int .i64) (.pr (.int .i64) (.pr (.int .i64) (.sl 2 (.int .i64))))))) ((zb_ (z2_ Tryz.f91)).getD 1 .skip) (fun σ kx=>qjc_.get σ fun x=>qje_ k k x kx):=by
 refine ⟨qjc_,[(2,qjd_)],fun n x kx=>qje_ k n x kx,k,by kernel_rfl,by kernel_rfl,fun x kx=>by kernel_rfl,?_,fun σ kx=>rfl⟩
 rintro n ⟨⟨k1,⟨⟩,⟨⟩,⟨⟩,simplex7,⟨⟩,x30,x31,⟨⟩,x41,x42,⟨⟩⟩,⟨q_12,q_13,q_14,q_15,⟨⟩⟩,⟨v_2,⟨v_4a,⟨v_4ba,⟨v_4bba,⟨⟩⟩⟩⟩,⟨v_5a,⟨v_5ba,⟨v_5bba,⟨⟩⟩⟩⟩,⟨⟩⟩⟩ kx
 refine id (α:=z6h_ k (n+1) k1 simplex7 x30 x31 x41 x42 q_12 q_13 q_14 q_15 v_2 v_4a v_4ba v_4bba v_5a v_5ba v_5bba _=_) ?_
 kernel_rfl
theorem qjn_ (k:Nat):zc_ (z3_ ti [(88,qfz_ k),(137,qik_ k),(92,qfs_ k),(138,qgf_ k),(139,qit_ k),(140,qiz_ k),(141,qj2_),(142,qj4_)] (lk []) z4_ z5_) (qji_ k) (rdC (z3_ ti [(88,qfz_ k),(137,qik_ k),(92,qfs_ k),(138,qgf_ k),(139,qit_ k),(140,qiz_ k),(141,qj2_),(142,qj4_)] (lk []) z4_ z5_) [.cell 4 135] (.st (.pr (.int .i64) (.pr (.int .i64) (.pr (.int .i64) (.sl 2 (.int .i64))))))) ((zb_ (z2_ Tryz.f91)).getD 0 .skip) (fun σ kx=>qjf_.get σ fun x=>qjh_ k k x kx):=by
 refine ⟨qjf_,[(0,qjg_)],fun n x kx=>qjh_ k n x kx,k,by kernel_rfl,by kernel_rfl,fun x kx=>by kernel_rfl,?_,fun σ kx=>rfl⟩
 rintro n ⟨⟨k1,⟨⟩,⟨⟩,⟨⟩,⟨⟩,x30,x31,⟨⟩⟩,⟨q_5,q_6,q_7,⟨⟩⟩,⟨v_2,⟨v_4a,⟨v_4ba,⟨v_4bba,⟨⟩⟩⟩⟩,⟨v_5a,⟨v_5ba,⟨v_5bba,⟨⟩⟩⟩⟩,⟨⟩⟩⟩ kx
 refine id (α:=z7k_ k (n+1) k1 x30 x31 q_5 q_6 q_7 v_2 v_4a v_4ba v_4bba v_5a v_5ba v_5bba _=_) ?_
 kernel_rfl
theorem qjo_ (k:Nat):FnOK Tryz.prog 91 (qjj_ k):=by
 refine za_ (tab:=[(88,qfz_ k),(137,qik_ k),(92,qfs_ k),(138,qgf_ k),(139,qit_ k),(140,qiz_ k),(141,qj2_),(142,qj4_)]) (l:=[]) z7_ z9_ mix (List.forall_mem_cons.2 ⟨qg1_ k,(List.forall_mem_cons.2 ⟨qil_ k,(List.forall_mem_cons.2 ⟨qfu_ k,(List.forall_mem_cons.2 ⟨qgh_ k,(List.forall_mem_cons.2 ⟨qiu_ k,(List.forall_mem_cons.2 ⟨qj1_ k,(List.forall_mem_cons.2 ⟨qj3_,(List.forall_mem_cons.2 ⟨qj5_,(List.forall_mem_nil _)⟩)⟩)⟩)⟩)⟩)⟩)⟩)⟩) (List.forall_mem_nil _) ⟨⟨Tryz.f91,(z2_ Tryz.f91),[.cell 4 135],(qji_ k),by kernel_rfl,by kernel_rfl,by kernel_rfl,by kernel_rfl,rfl,by decide,⟨by kernel_rfl,?_,?_⟩,?_⟩⟩
 ·refine zf_ (n:=4) (by kernel_rfl) fun i hi=>?_
  match i,hi with
  | 0,_=>exact zd_ (by kernel_rfl) (qjn_ k)
  | 1,_=>exact zd_ (by kernel_rfl) (qjm_ k)
  | 2,_=>exact zd_ (by kernel_rfl) (qjl_ k)
  | 3,_=>exact zd_ (by kernel_rfl) (qjk_ k)
  | n+4,hi=>omega
 ·exact z8_ (by kernel_rfl)
 ·rintro ⟨s0,k1⟩
  kernel_rfl
def zfj_ (m0:Int×Int×Int×List Int) (i1:Int):Option (List Int):=(if 0≤(z0_ (i1*m0.2.2.1))∧(z0_ (i1*m0.2.2.1))≤(z0_ ((z0_ (i1+1))*m0.2.2.1))∧(z0_ ((z0_ (i1+1))*m0.2.2.1))≤m0.2.2.2.length then some ((m0.2.2.2.drop ((z0_ (i1*m0.2.2.1)).toNat)).take ((z0_ ((z0_ (i1+1))*m0.2.2.1)).toNat-(z0_ (i1*m0.2.2.1)).toNat)) else none)
def qjp_:FE:=⟨(.pr (.st (.pr (.int .i64) (.pr (.int .i64) (.pr (.int .i64) (.sl 2 (.int .i64)))))) (.int .i64)),RON,(.sl 2 (.int .i64)),fun x=>zfj_ x.1 x.2⟩
theorem qjq_:FnOK Tryz.prog 136 (qjp_):=by
 refine zjf_ (tab:=[]) (l:=[]) z7_ z9_ mix (List.forall_mem_nil _) (List.forall_mem_nil _) ⟨by kernel_rfl,⟨Tryz.f136,(z2_ Tryz.f136),[.tmp 4],(LOn (List Int)),by kernel_rfl,by kernel_rfl,by kernel_rfl,by kernel_rfl,by decide,⟨by kernel_rfl,?_,?_⟩,?_⟩⟩
 ·exact ze_ (by kernel_rfl)
 ·exact z8_ (by kernel_rfl)
 ·rintro ⟨m0,i1⟩
  kernel_rfl
def z9l_ (k:Nat):Nat→(List Int)→(List Int)→Int→Int→Int→Int→(Int→Option Int)→Option Int
 | 0,_,_,_,_,_,_,_=>none
 | n+1,a0,b1,p2,sum7,x10,x11,e_0=>(if (decide (x11<x10))=true then (if 0≤x11 then (a0[x11.toNat]?).bind fun y_1=>(if 0≤x11 then (b1[x11.toNat]?).bind fun y_2=>(if p2=0 then none else z9l_ k n a0 b1 p2 (Int.tmod (z0_ (sum7+(z0_ (y_1*y_2)))) p2) x10 (z0_ (x11+1)) e_0) else none) else none) else e_0 sum7)
def zfk_ (k:Nat) (a0:List Int) (b1:List Int) (p2:Int):Option Int:=z9l_ k k a0 b1 p2 0 (List.length a0:Int) 0 (fun sum_3=>some sum_3)
def qjr_:Head:=⟨[(0,(.val (.sl 2 (.int .i64)))),(1,(.val (.sl 2 (.int .i64)))),(2,(.val (.int .i64))),(7,(.val (.int .i64))),(10,(.val (.int .i64))),(11,(.val (.int .i64)))],[],[]⟩
def qjs_:Head:=⟨[(7,(.val (.int .i64)))],[],[]⟩
def qjt_ (k n:Nat) (x:qjr_.T) (kx:Nat→St→Option Int):Option Int:=z9l_ k n x.1.1 x.1.2.1 x.1.2.2.1 x.1.2.2.2.1 x.1.2.2.2.2.1 x.1.2.2.2.2.2.1 (fun (sum7:Int)=>kx 0 (qjs_.fill ((sum7,()),(),())))
def qju_ (k:Nat):Oracles Int:=⟨fun n=>bif Nat.beq n 3 then some (fun σ kx=>qjr_.get σ fun x=>qjt_ k k x kx) else none,fun _=>none⟩
def qjv_ (k:Nat):FE:=⟨(.pr (.sl 2 (.int .i64)) (.pr (.sl 2 (.int .i64)) (.int .i64))),1,(.int .i64),fun x=>zfk_ k x.1 x.2.1 x.2.2⟩
theorem qjw_ (k:Nat):zc_ (z3_ ti [] (lk []) z4_ z5_) (qju_ k) (rdC (z3_ ti [] (lk []) z4_ z5_) [.tmp 6] (.int .i64)) ((zb_ (z2_ Tryz.f135)).getD 0 .skip) (fun σ kx=>qjr_.get σ fun x=>qjt_ k k x kx):=by
 refine ⟨qjr_,[(0,qjs_)],fun n x kx=>qjt_ k n x kx,k,by kernel_rfl,by kernel_rfl,fun x kx=>by kernel_rfl,?_,fun σ kx=>rfl⟩
 rintro n ⟨⟨a0,b1,p2,sum7,x10,x11,⟨⟩⟩,⟨⟩,⟨⟩⟩ kx
 kernel_rfl
theorem qjx_ (k:Nat):FnOK Tryz.prog 135 (qjv_ k):=by
 refine za_ (tab:=[]) (l:=[]) z7_ z9_ mix (List.forall_mem_nil _) (List.forall_mem_nil _) ⟨⟨Tryz.f135,(z2_ Tryz.f135),[.tmp 6],(qju_ k),by kernel_rfl,by kernel_rfl,by kernel_rfl,by kernel_rfl,rfl,by decide,⟨by kernel_rfl,?_,?_⟩,?_⟩⟩
 ·refine zf_ (n:=1) (by kernel_rfl) fun i hi=>?_
  match i,hi with
  | 0,_=>exact zd_ (by kernel_rfl) (qjw_ k)
  | n+1,hi=>omega
 ·exact z8_ (by kernel_rfl)
 ·rintro ⟨a0,b1,p2⟩
  kernel_rfl
def z9m_ (k:Nat):Nat→(List Int)→Int→Int→(List Int)→(Int×Int×Int×List Int)→((List Int)→Option (List Int))→Option (List Int)
 | 0,_,_,_,_,_,_=>none
 | n+1,v1,x8,x9,q_1,v_2,e_0=>(if (decide (x9<x8))=true then (zfj_ v_2 x9).bind fun r_2=>(zfk_ k r_2 v1 v_2.1).bind fun r_3=>(if (q_1.length+[r_3].length)*8≤LIM then z9m_ k n v1 x8 (z0_ (x9+1)) (q_1++[r_3]) v_2 e_0 else none) else e_0 q_1)
def zfl_ (k:Nat) (m0:Int×Int×Int×List Int) (v1:List Int):Option (List Int):=z9m_ k k v1 m0.2.1 0 [] m0 (fun q_4=>some q_4)
def qjy_:Head:=⟨[(1,(.val (.sl 2 (.int .i64)))),(2,(.bp 2 [] 0)),(5,(.ref 64000000 [])),(8,(.val (.int .i64))),(9,(.val (.int .i64)))],[(64000000,2,(.int .i64),false)],[(2,135,(.val (.st (.pr (.int .i64) (.pr (.int .i64) (.pr (.int .i64) (.sl 2 (.int .i64))))))))]⟩
def qjz_:Head:=⟨[(5,(.ref 64000000 []))],[(64000000,2,(.int .i64),false)],[]⟩
def qk0_ (k n:Nat) (x:qjy_.T) (kx:Nat→St→Option (List Int)):Option (List Int):=z9m_ k n x.1.1 x.1.2.2.2.1 x.1.2.2.2.2.1 x.2.1.1 x.2.2.1 (fun (q_4:List Int)=>kx 0 (qjz_.fill (((),()),(q_4,()),())))
def qk1_ (k:Nat):Oracles (List Int):=⟨fun n=>bif Nat.beq n 3 then some (fun σ kx=>qjy_.get σ fun x=>qk0_ k k x kx) else none,fun _=>none⟩
def qk2_ (k:Nat):FE:=⟨(.pr (.st (.pr (.int .i64) (.pr (.int .i64) (.pr (.int .i64) (.sl 2 (.int .i64)))))) (.sl 2 (.int .i64))),1,(.sl 2 (.int .i64)),fun x=>zfl_ k x.1 x.2⟩
theorem qk3_ (k:Nat):zc_ (z3_ ti [(136,qjp_),(135,qjv_ k)] (lk []) z4_ z5_) (qk1_ k) (rdC (z3_ ti [(136,qjp_),(135,qjv_ k)] (lk []) z4_ z5_) [.tmp 4] (.sl 2 (.int .i64))) ((zb_ (z2_ Tryz.f90)).getD 0 .skip) (fun σ kx=>qjy_.get σ fun x=>qk0_ k k x kx):=by
 refine ⟨qjy_,[(0,qjz_)],fun n x kx=>qk0_ k n x kx,k,by kernel_rfl,by kernel_rfl,fun x kx=>by kernel_rfl,?_,fun σ kx=>rfl⟩
 rintro n ⟨⟨v1,⟨⟩,⟨⟩,x8,x9,⟨⟩⟩,⟨q_1,⟨⟩⟩,⟨v_2,⟨⟩⟩⟩ kx
 kernel_rfl
theorem qk4_ (k:Nat):FnOK Tryz.prog 90 (qk2_ k):=by
 refine za_ (tab:=[(136,qjp_),(135,qjv_ k)]) (l:=[]) z7_ z9_ mix (List.forall_mem_cons.2 ⟨qjq_,(List.forall_mem_cons.2 ⟨qjx_ k,(List.forall_mem_nil _)⟩)⟩) (List.forall_mem_nil _) ⟨⟨Tryz.f90,(z2_ Tryz.f90),[.tmp 4],(qk1_ k),by kernel_rfl,by kernel_rfl,by kernel_rfl,by kernel_rfl,rfl,by decide,⟨by kernel_rfl,?_,?_⟩,?_⟩⟩
 ·refine zf_ (n:=1) (by kernel_rfl) fun i hi=>?_
  match i,hi with
  | 0,_=>exact zd_ (by kernel_rfl) (qk3_ k)
  | n+1,hi=>omega
 ·exact z8_ (by kernel_rfl)
 ·rintro ⟨m0,v1⟩
  kernel_rfl
def zfm_ (s0:List Int):Option (List Int):=(if List.isEmpty s0=true then both (some []) ((if (([]:List Unit).length+s0.length)*8≤LIM then some s0 else none)) else (if (([]:List Unit).length+s0.length)*8≤LIM then some s0 else none))
def qk5_:FE:=⟨(.sl 2 (.int .i64)),1,(.sl 2 (.int .i64)),fun x=>zfm_ x⟩
theorem qk6_:FnOK Tryz.prog 144 (qk5_):=by
 refine za_ (tab:=[]) (l:=[]) z7_ z9_ mix (List.forall_mem_nil _) (List.forall_mem_nil _) ⟨⟨Tryz.f144,(z2_ Tryz.f144),[.tmp 2],(LOn (List Int)),by kernel_rfl,by kernel_rfl,by kernel_rfl,by kernel_rfl,rfl,by decide,⟨by kernel_rfl,?_,?_⟩,?_⟩⟩
 ·exact ze_ (by kernel_rfl)
 ·exact z8_ (by kernel_rfl)
 ·rintro s0
  kernel_rfl
def zfn_ (k:Nat) (s0:List (List Int)×Int×List Int×List (Int×Int×Int×List Int)) (x1:List Int) (simplex2:Int):Option (List Int):=(z9k_ k s0 simplex2).bind fun r_1=>(if 0≤simplex2 then (s0.2.2.1[simplex2.toNat]?).bind fun y_2=>(if 0≤r_1∧r_1≤(z0_ (r_1+y_2))∧(z0_ (r_1+y_2))≤x1.length then (zfm_ ((x1.drop r_1.toNat).take ((z0_ (r_1+y_2)).toNat-r_1.toNat))).bind fun r_3=>some r_3 else none) else none)
def qk7_ (k:Nat):FE:=⟨(.pr (.st (.pr (.st (.sl 25 (.sl 2 (.int .i64)))) (.pr (.int .i64) (.pr (.sl 2 (.int .i64)) (.sl 135 (.st (.pr (.int .i64) (.pr (.int .i64) (.pr (.int .i64) (.sl 2 (.int .i64))))))))))) (.pr (.sl 2 (.int .i64)) (.int .i64))),1,(.sl 2 (.int .i64)),fun x=>zfn_ k x.1 x.2.1 x.2.2⟩
theorem qk8_ (k:Nat):FnOK Tryz.prog 94 (qk7_ k):=by
 refine za_ (tab:=[(140,qiz_ k),(144,qk5_)]) (l:=[]) z7_ z9_ mix (List.forall_mem_cons.2 ⟨qj1_ k,(List.forall_mem_cons.2 ⟨qk6_,(List.forall_mem_nil _)⟩)⟩) (List.forall_mem_nil _) ⟨⟨Tryz.f94,(z2_ Tryz.f94),[.tmp 6],(LOn (List Int)),by kernel_rfl,by kernel_rfl,by kernel_rfl,by kernel_rfl,rfl,by decide,⟨by kernel_rfl,?_,?_⟩,?_⟩⟩
 ·exact ze_ (by kernel_rfl)
 ·exact z8_ (by kernel_rfl)
 ·rintro ⟨s0,x1,simplex2⟩
  kernel_rfl
def zjs_ (x0:Int):Option Bool:=some (!(decide (x0=0)))
def qk9_:FE:=⟨(.int .i64),1,.bool,fun x=>zjs_ x⟩
theorem qka_:FnOK Tryz.prog 143 (qk9_):=by
 refine za_ (tab:=[]) (l:=[]) z7_ z9_ mix (List.forall_mem_nil _) (List.forall_mem_nil _) ⟨⟨Tryz.f143,(z2_ Tryz.f143),[.tmp 2],(LOn Bool),by kernel_rfl,by kernel_rfl,by kernel_rfl,by kernel_rfl,rfl,by decide,⟨by kernel_rfl,?_,?_⟩,?_⟩⟩
 ·exact ze_ (by kernel_rfl)
 ·exact z8_ (by kernel_rfl)
 ·rintro x0
  kernel_rfl
def z9n_ (k:Nat):Nat→(List Int)→Unit→Int→Int→(Option Int)→Option Int
 | 0,_,_,_,_,_=>none
 | n+1,s0,f1,x7,x8,e_0=>(if (decide (x8<x7))=true then (if 0≤x8 then (s0[x8.toNat]?).bind fun y_1=>(zjs_ y_1).bind fun r_2=>(if r_2=true then some x8 else z9n_ k n s0 f1 x7 (z0_ (x8+1)) e_0) else none) else e_0)
def zjt_ (k:Nat) (s0:List Int) (f1:Unit):Option Int:=z9n_ k k s0 f1 (List.length s0:Int) 0 (some (-1))
def qkb_:Head:=⟨[(0,(.val (.sl 2 (.int .i64)))),(1,(.val (.fn 143 .un))),(7,(.val (.int .i64))),(8,(.val (.int .i64)))],[],[]⟩
def qkc_:Head:=⟨[],[],[]⟩
def qkd_ (k n:Nat) (x:qkb_.T) (kx:Nat→St→Option Int):Option Int:=z9n_ k n x.1.1 x.1.2.1 x.1.2.2.1 x.1.2.2.2.1 (kx 0 (qkc_.fill ((),(),())))
def qke_ (k:Nat):Oracles Int:=⟨fun n=>bif Nat.beq n 2 then some (fun σ kx=>qkb_.get σ fun x=>qkd_ k k x kx) else none,fun _=>none⟩
def qkf_ (k:Nat):FE:=⟨(.pr (.sl 2 (.int .i64)) (.fn 143 .un)),1,(.int .i64),fun x=>zjt_ k x.1 x.2⟩
theorem qkg_ (k:Nat):zc_ (z3_ ti [(143,qk9_)] (lk []) z4_ z5_) (qke_ k) (rdC (z3_ ti [(143,qk9_)] (lk []) z4_ z5_) [.tmp 4] (.int .i64)) ((zb_ (z2_ Tryz.f145)).getD 0 .skip) (fun σ kx=>qkb_.get σ fun x=>qkd_ k k x kx):=by
 refine ⟨qkb_,[(0,qkc_)],fun n x kx=>qkd_ k n x kx,k,by kernel_rfl,by kernel_rfl,fun x kx=>by kernel_rfl,?_,fun σ kx=>rfl⟩
 rintro n ⟨⟨s0,f1,x7,x8,⟨⟩⟩,⟨⟩,⟨⟩⟩ kx
 kernel_rfl
theorem qkh_ (k:Nat):FnOK Tryz.prog 145 (qkf_ k):=by
 refine za_ (tab:=[(143,qk9_)]) (l:=[]) z7_ z9_ mix (List.forall_mem_cons.2 ⟨qka_,(List.forall_mem_nil _)⟩) (List.forall_mem_nil _) ⟨⟨Tryz.f145,(z2_ Tryz.f145),[.tmp 4],(qke_ k),by kernel_rfl,by kernel_rfl,by kernel_rfl,by kernel_rfl,rfl,by decide,⟨by kernel_rfl,?_,?_⟩,?_⟩⟩
 ·refine zf_ (n:=1) (by kernel_rfl) fun i hi=>?_
  match i,hi with
  | 0,_=>exact zd_ (by kernel_rfl) (qkg_ k)
  | n+1,hi=>omega
 ·exact z8_ (by kernel_rfl)
 ·rintro ⟨s0,f1⟩
  kernel_rfl
def zju_ (k:Nat) (s0:List Int) (f1:Unit):Option Bool:=(zjt_ k s0 f1).bind fun r_1=>some (decide (0≤r_1))
def qki_ (k:Nat):FE:=⟨(.pr (.sl 2 (.int .i64)) (.fn 143 .un)),1,.bool,fun x=>zju_ k x.1 x.2⟩
theorem qkj_ (k:Nat):FnOK Tryz.prog 95 (qki_ k):=by
 refine za_ (tab:=[(145,qkf_ k)]) (l:=[]) z7_ z9_ mix (List.forall_mem_cons.2 ⟨qkh_ k,(List.forall_mem_nil _)⟩) (List.forall_mem_nil _) ⟨⟨Tryz.f95,(z2_ Tryz.f95),[.tmp 4],(LOn Bool),by kernel_rfl,by kernel_rfl,by kernel_rfl,by kernel_rfl,rfl,by decide,⟨by kernel_rfl,?_,?_⟩,?_⟩⟩
 ·exact ze_ (by kernel_rfl)
 ·exact z8_ (by kernel_rfl)
 ·rintro ⟨s0,f1⟩
  kernel_rfl
end
end Go.Proofs.YtioaaljaohhjiaaGreatDoor.Ev
