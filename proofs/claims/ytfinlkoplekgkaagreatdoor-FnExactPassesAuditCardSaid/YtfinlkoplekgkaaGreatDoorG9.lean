/- Functions of the program, as plain ones. No conditions. -/
import Derived.Test.YtfinlkoplekgkaaGreatDoorG8
import Derived.KernelRfl
set_option linter.unusedVariables false
set_option maxRecDepth 100000
namespace Go.Proofs.YtfinlkoplekgkaaGreatDoor.Ev
open Go.RowKit
noncomputable section
def zdb (k:Nat):Nat→Int→Int→Int→Int→Int→Int→Int→Int→Int→Int→Int→Int→Int→Int→zT1→zT1→zT1→zT1→zT3→Int→Int→Int→Int→Int→Int→zT0→(Int→Int→Int→Int→Int→Int→Int→Int→Int→Int→Int→zT1→zT1→zT1→zT1→zT3→Int→Int→Int→Int→Int→Int→zT0→Option zT0)→Option zT0
 | 0,_,_,_,_,_,_,_,_,_,_,_,_,_,_,_,_,_,_,_,_,_,_,_,_,_,_,_=>none
 | n+1,k1,simplex7,place8,top11,left12,i13,x30,x31,x41,x42,x58,x59,x63,x64,q_24,q_25,q_26,q_27,v_2,v_4a,v_4ba,v_4bba,v_5a,v_5ba,v_5bba,v_10,e_6=>(if (decide (x64<x63)) then (zja v_10 i13 x64).bind fun r_28=>(zpd place8 v_2.2.1).bind fun r_29=>(if v_2.2.1=0 then none else (if 0≤(z6 ((z6 ((z6 ((z6 (top11+i13))*v_5bba))+left12))+x64))∧(z6 ((z6 ((z6 ((z6 (top11+i13))*v_5bba))+left12))+x64)).toNat<List.length q_27 then (q_27[(z6 ((z6 ((z6 ((z6 (top11+i13))*v_5bba))+left12))+x64)).toNat]?).bind fun y_30=>(q_27[(z6 ((z6 ((z6 ((z6 (top11+i13))*v_5bba))+left12))+x64)).toNat]?).bind fun y_31=>zdb k n k1 simplex7 place8 top11 left12 i13 x30 x31 x41 x42 x58 x59 x63 (z6 (x64+1)) q_24 q_25 q_26 (q_27.set ((z6 ((z6 ((z6 ((z6 (top11+i13))*v_5bba))+left12))+x64)).toNat) (Int.tmod (z6 (r_28*r_29)) v_2.2.1)) v_2 v_4a v_4ba v_4bba v_5a v_5ba v_5bba v_10 e_6 else none)) else e_6 k1 simplex7 place8 top11 left12 x30 x31 x41 x42 x58 x59 q_24 q_25 q_26 q_27 v_2 v_4a v_4ba v_4bba v_5a v_5ba v_5bba v_10)
def zdc (k:Nat):Nat→Int→Int→Int→Int→Int→Int→Int→Int→Int→Int→Int→zT1→zT1→zT1→zT1→zT3→Int→Int→Int→Int→Int→Int→zT0→(Int→Int→Int→Int→Int→Int→zT1→zT1→zT1→zT1→zT3→Int→Int→Int→Int→Int→Int→Option zT0)→Option zT0
 | 0,_,_,_,_,_,_,_,_,_,_,_,_,_,_,_,_,_,_,_,_,_,_,_,_=>none
 | n+1,k1,simplex7,place8,top11,left12,x30,x31,x41,x42,x58,x59,q_20,q_21,q_22,q_23,v_2,v_4a,v_4ba,v_4bba,v_5a,v_5ba,v_5bba,v_10,e_4=>(if (decide (x59<x58)) then zdb k k k1 simplex7 place8 top11 left12 x59 x30 x31 x41 x42 x58 x59 v_10.2.2.1 0 q_20 q_21 q_22 q_23 v_2 v_4a v_4ba v_4bba v_5a v_5ba v_5bba v_10 (fun k_24 simplex_25 place_26 top_27 left_28 x_29 x_30 x_31 x_32 x_33 x_34 q_35 q_36 q_37 q_38 v_39 v_4a_40 v_4ba_41 v_4bba_42 v_5a_43 v_5ba_44 v_5bba_45 v_46=>zdc k n k_24 simplex_25 place_26 top_27 left_28 x_29 x_30 x_31 x_32 x_33 (z6 (x_34+1)) q_35 q_36 q_37 q_38 v_39 v_4a_40 v_4ba_41 v_4bba_42 v_5a_43 v_5ba_44 v_5bba_45 v_46 e_4) else e_4 k1 simplex7 x30 x31 x41 x42 q_20 q_21 q_22 q_23 v_2 v_4a v_4ba v_4bba v_5a v_5ba v_5bba)
def z7d (k:Nat):Nat→Int→Int→Int→Int→Int→Int→zT1→zT1→zT1→zT1→zT3→Int→Int→Int→Int→Int→Int→(Int→Int→Int→zT1→zT1→zT1→zT3→Int→Int→Int→Int→Int→Int→Option zT0)→Option zT0
 | 0,_,_,_,_,_,_,_,_,_,_,_,_,_,_,_,_,_,_=>none
 | n+1,k1,simplex7,x30,x31,x41,x42,q_12,q_13,q_14,q_15,v_2,v_4a,v_4ba,v_4bba,v_5a,v_5ba,v_5bba,e_2=>(if (decide (x42<x41)) then (if 0≤x42∧x42.toNat<List.length q_13 then (q_13[x42.toNat]?).bind fun y_16=>(z89 k v_2 simplex7 x42).bind fun r_17=>(zff k v_2 simplex7).bind fun r_18=>(zff k v_2 y_16).bind fun r_19=>zdc k k k1 simplex7 x42 r_18 r_19 x30 x31 x41 x42 r_17.2.1 0 q_12 q_13 q_14 q_15 v_2 v_4a v_4ba v_4bba v_5a v_5ba v_5bba r_17 (fun k_20 simplex_21 x_22 x_23 x_24 x_25 q_26 q_27 q_28 q_29 v_30 v_4a_31 v_4ba_32 v_4bba_33 v_5a_34 v_5ba_35 v_5bba_36=>z7d k n k_20 simplex_21 x_22 x_23 x_24 (z6 (x_25+1)) q_26 q_27 q_28 q_29 v_30 v_4a_31 v_4ba_32 v_4bba_33 v_5a_34 v_5ba_35 v_5bba_36 e_2) else none) else e_2 k1 x30 x31 q_12 q_14 q_15 v_2 v_4a v_4ba v_4bba v_5a v_5ba v_5bba)
def z8c (k:Nat):Nat→Int→Int→Int→zT1→zT1→zT1→zT3→Int→Int→Int→Int→Int→Int→(zT1→zT1→Int→Int→Int→Int→Int→Int→Option zT0)→Option zT0
 | 0,_,_,_,_,_,_,_,_,_,_,_,_,_,_=>none
 | n+1,k1,x30,x31,q_5,q_6,q_7,v_2,v_4a,v_4ba,v_4bba,v_5a,v_5ba,v_5bba,e_0=>(if (decide (x31<x30)) then (if 0≤x31∧x31.toNat<List.length q_5 then (q_5[x31.toNat]?).bind fun y_8=>(if (decide (k1<0)) then e_0 q_6 q_7 v_4a v_4ba v_4bba v_5a v_5ba v_5bba else (z9i k v_2.1 y_8).bind fun r_9=>z7d k k k1 y_8 x30 x31 (List.length r_9:Int) 0 q_5 r_9 q_6 q_7 v_2 v_4a v_4ba v_4bba v_5a v_5ba v_5bba (fun k_10 x_11 x_12 q_13 q_14 q_15 v_16 v_4a_17 v_4ba_18 v_4bba_19 v_5a_20 v_5ba_21 v_5bba_22=>z8c k n k_10 x_11 (z6 (x_12+1)) q_13 q_14 q_15 v_16 v_4a_17 v_4ba_18 v_4bba_19 v_5a_20 v_5ba_21 v_5bba_22 e_0)) else none) else e_0 q_6 q_7 v_4a v_4ba v_4bba v_5a v_5ba v_5bba)
def z83 (k:Nat) (s0:List zT1×Int×List Int×List zT0) (k1:Int):Option zT0:=(zb0 k s0 (z6 (k1+1))).bind fun r_1=>(zb0 k s0 k1).bind fun r_2=>(zpc k s0.2.1 r_1 r_2).bind fun r_3=>(zca k s0.1 (z6 (k1+1))).bind fun r_4=>z8c k k k1 (List.length r_4:Int) 0 r_4 [] r_3.2.2.2 s0 0 0 0 r_3.1 r_3.2.1 r_3.2.2.1 (fun q_23 q_24 v_4a_25 v_4ba_26 v_4bba_27 v_5a_28 v_5ba_29 v_5bba_30=>some (v_5a_28,(v_5ba_29,(v_5bba_30,q_24))))
def z166:Head:=⟨[(1,V0),(2,(.bp 2 [] 0)),(4,(.bp 4 [] 0)),(5,(.bp 5 [] 0)),(7,V0),(8,V0),(10,(.bp 10 [] 0)),(11,V0),(12,V0),(29,(.ref P0 [])),(30,V0),(31,V0),(40,(.ref P1 [])),(41,V0),(42,V0),(58,V0),(59,V0)],[(P0,2,U0,false),(P1,2,U0,false),(P2,2,U0,false),(P3,2,U0,false)],[(2,42,V4),(4,106,(.st (.pr V0 (.pr V0 (.pr V0 (.ref P2 [])))))),(5,106,(.st (.pr V0 (.pr V0 (.pr V0 (.ref P3 [])))))),(10,106,V7)]⟩
def z167:Head:=⟨[(1,V0),(2,(.bp 2 [] 0)),(4,(.bp 4 [] 0)),(5,(.bp 5 [] 0)),(7,V0),(8,V0),(10,(.bp 10 [] 0)),(11,V0),(12,V0),(13,V0),(29,(.ref P0 [])),(30,V0),(31,V0),(40,(.ref P1 [])),(41,V0),(42,V0),(58,V0),(59,V0),(63,V0),(64,V0)],[(P0,2,U0,false),(P1,2,U0,false),(P2,2,U0,false),(P3,2,U0,false)],[(2,42,V4),(4,106,(.st (.pr V0 (.pr V0 (.pr V0 (.ref P2 [])))))),(5,106,(.st (.pr V0 (.pr V0 (.pr V0 (.ref P3 [])))))),(10,106,V7)]⟩
def z168 (k:Nat) (n:Nat) (x:z167.T) (kx:Nat→St→Option zT0):Option zT0:=zdb k n x.1.1 x.1.2.2.2.2.1 x.1.2.2.2.2.2.1 x.1.2.2.2.2.2.2.2.1 x.1.2.2.2.2.2.2.2.2.1 x.1.2.2.2.2.2.2.2.2.2.1 x.1.2.2.2.2.2.2.2.2.2.2.2.1 x.1.2.2.2.2.2.2.2.2.2.2.2.2.1 x.1.2.2.2.2.2.2.2.2.2.2.2.2.2.2.1 x.1.2.2.2.2.2.2.2.2.2.2.2.2.2.2.2.1 x.1.2.2.2.2.2.2.2.2.2.2.2.2.2.2.2.2.1 x.1.2.2.2.2.2.2.2.2.2.2.2.2.2.2.2.2.2.1 x.1.2.2.2.2.2.2.2.2.2.2.2.2.2.2.2.2.2.2.1 x.1.2.2.2.2.2.2.2.2.2.2.2.2.2.2.2.2.2.2.2.1 x.2.1.1 x.2.1.2.1 x.2.1.2.2.1 x.2.1.2.2.2.1 x.2.2.1 x.2.2.2.1.1 x.2.2.2.1.2.1 x.2.2.2.1.2.2.1 x.2.2.2.2.1.1 x.2.2.2.2.1.2.1 x.2.2.2.2.1.2.2.1 x.2.2.2.2.2.1 (fun k1 simplex7 place8 top11 left12 x30 x31 x41 x42 x58 x59 q_32 q_33 q_34 q_35 v_2 v_4a v_4ba v_4bba v_5a v_5ba v_5bba v_10=>kx 6 (z166.fill ((k1,(),(),(),simplex7,place8,(),top11,left12,(),x30,x31,(),x41,x42,x58,x59,()),(q_32,q_33,q_34,q_35,()),(v_2,(v_4a,(v_4ba,(v_4bba,()))),(v_5a,(v_5ba,(v_5bba,()))),v_10,()))))
def zpe (k:Nat):LD zT0:=⟨15,z167,[(6,z166)],z168 k,k⟩
def z169:Head:=⟨[(1,V0),(2,(.bp 2 [] 0)),(4,(.bp 4 [] 0)),(5,(.bp 5 [] 0)),(7,V0),(29,(.ref P0 [])),(30,V0),(31,V0),(40,(.ref P1 [])),(41,V0),(42,V0)],[(P0,2,U0,false),(P1,2,U0,false),(P2,2,U0,false),(P3,2,U0,false)],[(2,42,V4),(4,106,(.st (.pr V0 (.pr V0 (.pr V0 (.ref P2 [])))))),(5,106,(.st (.pr V0 (.pr V0 (.pr V0 (.ref P3 []))))))]⟩
def z16a:Head:=⟨[(1,V0),(2,(.bp 2 [] 0)),(4,(.bp 4 [] 0)),(5,(.bp 5 [] 0)),(7,V0),(8,V0),(10,(.bp 10 [] 0)),(11,V0),(12,V0),(29,(.ref P0 [])),(30,V0),(31,V0),(40,(.ref P1 [])),(41,V0),(42,V0),(58,V0),(59,V0)],[(P0,2,U0,false),(P1,2,U0,false),(P2,2,U0,false),(P3,2,U0,false)],[(2,42,V4),(4,106,(.st (.pr V0 (.pr V0 (.pr V0 (.ref P2 [])))))),(5,106,(.st (.pr V0 (.pr V0 (.pr V0 (.ref P3 [])))))),(10,106,V7)]⟩
def z16b (k:Nat) (n:Nat) (x:z16a.T) (kx:Nat→St→Option zT0):Option zT0:=zdc k n x.1.1 x.1.2.2.2.2.1 x.1.2.2.2.2.2.1 x.1.2.2.2.2.2.2.2.1 x.1.2.2.2.2.2.2.2.2.1 x.1.2.2.2.2.2.2.2.2.2.2.1 x.1.2.2.2.2.2.2.2.2.2.2.2.1 x.1.2.2.2.2.2.2.2.2.2.2.2.2.2.1 x.1.2.2.2.2.2.2.2.2.2.2.2.2.2.2.1 x.1.2.2.2.2.2.2.2.2.2.2.2.2.2.2.2.1 x.1.2.2.2.2.2.2.2.2.2.2.2.2.2.2.2.2.1 x.2.1.1 x.2.1.2.1 x.2.1.2.2.1 x.2.1.2.2.2.1 x.2.2.1 x.2.2.2.1.1 x.2.2.2.1.2.1 x.2.2.2.1.2.2.1 x.2.2.2.2.1.1 x.2.2.2.2.1.2.1 x.2.2.2.2.1.2.2.1 x.2.2.2.2.2.1 (fun k1 simplex7 x30 x31 x41 x42 q_55 q_56 q_57 q_58 v_2 v_4a v_4ba v_4bba v_5a v_5ba v_5bba=>kx 4 (z169.fill ((k1,(),(),(),simplex7,(),x30,x31,(),x41,x42,()),(q_55,q_56,q_57,q_58,()),(v_2,(v_4a,(v_4ba,(v_4bba,()))),(v_5a,(v_5ba,(v_5bba,()))),()))))
def zpf (k:Nat):LD zT0:=⟨12,z16a,[(4,z169)],z16b k,k⟩
def z16c:Head:=⟨[(1,V0),(2,(.bp 2 [] 0)),(4,(.bp 4 [] 0)),(5,(.bp 5 [] 0)),(29,(.ref P0 [])),(30,V0),(31,V0)],[(P0,2,U0,false),(P1,2,U0,false),(P2,2,U0,false)],[(2,42,V4),(4,106,(.st (.pr V0 (.pr V0 (.pr V0 (.ref P1 [])))))),(5,106,(.st (.pr V0 (.pr V0 (.pr V0 (.ref P2 []))))))]⟩
def z16d:Head:=⟨[(1,V0),(2,(.bp 2 [] 0)),(4,(.bp 4 [] 0)),(5,(.bp 5 [] 0)),(7,V0),(29,(.ref P0 [])),(30,V0),(31,V0),(40,(.ref P1 [])),(41,V0),(42,V0)],[(P0,2,U0,false),(P1,2,U0,false),(P2,2,U0,false),(P3,2,U0,false)],[(2,42,V4),(4,106,(.st (.pr V0 (.pr V0 (.pr V0 (.ref P2 [])))))),(5,106,(.st (.pr V0 (.pr V0 (.pr V0 (.ref P3 []))))))]⟩
def z16e (k:Nat) (n:Nat) (x:z16d.T) (kx:Nat→St→Option zT0):Option zT0:=z7d k n x.1.1 x.1.2.2.2.2.1 x.1.2.2.2.2.2.2.1 x.1.2.2.2.2.2.2.2.1 x.1.2.2.2.2.2.2.2.2.2.1 x.1.2.2.2.2.2.2.2.2.2.2.1 x.2.1.1 x.2.1.2.1 x.2.1.2.2.1 x.2.1.2.2.2.1 x.2.2.1 x.2.2.2.1.1 x.2.2.2.1.2.1 x.2.2.2.1.2.2.1 x.2.2.2.2.1.1 x.2.2.2.2.1.2.1 x.2.2.2.2.1.2.2.1 (fun k1 x30 x31 q_64 q_65 q_66 v_2 v_4a v_4ba v_4bba v_5a v_5ba v_5bba=>kx 2 (z16c.fill ((k1,(),(),(),(),x30,x31,()),(q_64,q_65,q_66,()),(v_2,(v_4a,(v_4ba,(v_4bba,()))),(v_5a,(v_5ba,(v_5bba,()))),()))))
def zpg (k:Nat):LD zT0:=⟨7,z16d,[(2,z16c)],z16e k,k⟩
def z16f:Head:=⟨[(4,(.bp 4 [] 0)),(5,(.bp 5 [] 0))],[(P0,2,U0,false),(P1,2,U0,false)],[(4,106,(.st (.pr V0 (.pr V0 (.pr V0 (.ref P0 [])))))),(5,106,(.st (.pr V0 (.pr V0 (.pr V0 (.ref P1 []))))))]⟩
def z16g:Head:=⟨[(1,V0),(2,(.bp 2 [] 0)),(4,(.bp 4 [] 0)),(5,(.bp 5 [] 0)),(29,(.ref P0 [])),(30,V0),(31,V0)],[(P0,2,U0,false),(P1,2,U0,false),(P2,2,U0,false)],[(2,42,V4),(4,106,(.st (.pr V0 (.pr V0 (.pr V0 (.ref P1 [])))))),(5,106,(.st (.pr V0 (.pr V0 (.pr V0 (.ref P2 []))))))]⟩
def z16h (k:Nat) (n:Nat) (x:z16g.T) (kx:Nat→St→Option zT0):Option zT0:=z8c k n x.1.1 x.1.2.2.2.2.2.1 x.1.2.2.2.2.2.2.1 x.2.1.1 x.2.1.2.1 x.2.1.2.2.1 x.2.2.1 x.2.2.2.1.1 x.2.2.2.1.2.1 x.2.2.2.1.2.2.1 x.2.2.2.2.1.1 x.2.2.2.2.1.2.1 x.2.2.2.2.1.2.2.1 (fun q_9 q_10 v_4a v_4ba v_4bba v_5a v_5ba v_5bba=>kx 0 (z16f.fill (((),(),()),(q_9,q_10,()),((v_4a,(v_4ba,(v_4bba,()))),(v_5a,(v_5ba,(v_5bba,()))),()))))
def zph (k:Nat):LD zT0:=⟨3,z16g,[(0,z16f)],z16h k,k⟩
def z1o8 (k:Nat):FE:=⟨(.pr U1 U0),1,U3,fun x=>z83 k x.1 x.2⟩
theorem zs8 (k:Nat):z8 Tryz.prog 128 (z1o8 k):=okC zb (xTc (zsw k) (xTc (z1o4 k) (xTc (zms k) (xTc (zsy k) (xTc (z14z k) (xTc (zz6 k) (xTc z150 (xTc z1o7 xTn)))))))) xOn Tryz.f128 (orc (zpe k) (orc (zpf k) (orc (zpg k) (orc (zph k) (LOn _))))) (xLp (zph k) (by rintro n ⟨⟨k1,⟨⟩,⟨⟩,⟨⟩,⟨⟩,x30,x31,⟨⟩⟩,⟨q_5,q_6,q_7,⟨⟩⟩,⟨v_2,⟨v_4a,⟨v_4ba,⟨v_4bba,⟨⟩⟩⟩⟩,⟨v_5a,⟨v_5ba,⟨v_5bba,⟨⟩⟩⟩⟩,⟨⟩⟩⟩ kx _ h; dsimp only [zph,z16h] at h; subst h; dsimp only [zph]; kernel_rfl) (xLp (zpg k) (by rintro n ⟨⟨k1,⟨⟩,⟨⟩,⟨⟩,simplex7,⟨⟩,x30,x31,⟨⟩,x41,x42,⟨⟩⟩,⟨q_12,q_13,q_14,q_15,⟨⟩⟩,⟨v_2,⟨v_4a,⟨v_4ba,⟨v_4bba,⟨⟩⟩⟩⟩,⟨v_5a,⟨v_5ba,⟨v_5bba,⟨⟩⟩⟩⟩,⟨⟩⟩⟩ kx _ h; dsimp only [zpg,z16e] at h; subst h; dsimp only [zpg]; kernel_rfl) (xLp (zpf k) (by rintro n ⟨⟨k1,⟨⟩,⟨⟩,⟨⟩,simplex7,place8,⟨⟩,top11,left12,⟨⟩,x30,x31,⟨⟩,x41,x42,x58,x59,⟨⟩⟩,⟨q_20,q_21,q_22,q_23,⟨⟩⟩,⟨v_2,⟨v_4a,⟨v_4ba,⟨v_4bba,⟨⟩⟩⟩⟩,⟨v_5a,⟨v_5ba,⟨v_5bba,⟨⟩⟩⟩⟩,v_10,⟨⟩⟩⟩ kx _ h; dsimp only [zpf,z16b] at h; subst h; dsimp only [zpf]; kernel_rfl) (xLp (zpe k) (by rintro n ⟨⟨k1,⟨⟩,⟨⟩,⟨⟩,simplex7,place8,⟨⟩,top11,left12,i13,⟨⟩,x30,x31,⟨⟩,x41,x42,x58,x59,x63,x64,⟨⟩⟩,⟨q_24,q_25,q_26,q_27,⟨⟩⟩,⟨v_2,⟨v_4a,⟨v_4ba,⟨v_4bba,⟨⟩⟩⟩⟩,⟨v_5a,⟨v_5ba,⟨v_5bba,⟨⟩⟩⟩⟩,v_10,⟨⟩⟩⟩ kx _ h; dsimp only [zpe,z168] at h; subst h; dsimp only [zpe]; kernel_rfl) xLn)))) (by rintro ⟨s0,k1⟩; kernel_rfl)
def zgx (k:Nat):Nat→zT1→Int→Int→zT1→zT0→(zT1→Option zT1)→Option zT1
 | 0,_,_,_,_,_,_=>none
 | n+1,v1,x8,x9,q_1,v_2,e_0=>(if (decide (x9<x8)) then (z8a v_2 x9).bind fun r_2=>(zjb k r_2 v1 v_2.1).bind fun r_3=>(if (q_1.length+[r_3].length)*8≤LIM then zgx k n v1 x8 (z6 (x9+1)) (q_1++[r_3]) v_2 e_0 else none) else e_0 q_1)
def zir (k:Nat) (m0:Int×Int×Int×List Int) (v1:List Int):Option zT1:=zgx k k v1 m0.2.1 0 [] m0 (fun q_4=>some q_4)
def z16i:Head:=⟨[(5,(.ref P0 []))],[(P0,2,U0,false)],[]⟩
def z16j (k:Nat):LD zT1:=⟨3,⟨[(1,V1),(2,(.bp 2 [] 0)),(5,(.ref P0 [])),(8,V0),(9,V0)],[(P0,2,U0,false)],[(2,106,V7)]⟩,[(0,z16i)],fun n x kx=>zgx k n x.1.1 x.1.2.2.2.1 x.1.2.2.2.2.1 x.2.1.1 x.2.2.1 (fun q_4=>kx 0 (z16i.fill (((),()),(q_4,()),()))),k⟩
def z1o9 (k:Nat):FE:=⟨(.pr U3 U5),1,U5,fun x=>zir k x.1 x.2⟩
theorem zza (k:Nat):z8 Tryz.prog 127 (z1o9 k):=okC zb (xTc zt8 (xTc (z15b k) xTn)) xOn Tryz.f127 (orc (z16j k) (LOn _)) (xLo (z16j k) (by rintro n ⟨⟨v1,⟨⟩,⟨⟩,x8,x9,⟨⟩⟩,⟨q_1,⟨⟩⟩,⟨v_2,⟨⟩⟩⟩ kx; kernel_rfl) xLn) (by rintro ⟨m0,v1⟩; kernel_rfl)
def zti (x0:Int):Option Bool:=some (!(decide (x0=0)))
def z1oa:FE:=⟨U0,1,.bool,fun x=>zti x⟩
theorem z1ob:z8 Tryz.prog 166 (z1oa):=okC zb xTn xOn Tryz.f166 (LOn _) xLn (by rintro x0; kernel_rfl)
def zgy (k:Nat):Nat→zT1→Unit→Int→Int→(Option Int)→Option Int
 | 0,_,_,_,_,_=>none
 | n+1,s0,f1,x7,x8,e_0=>(if (decide (x8<x7)) then (if 0≤x8 then (s0[x8.toNat]?).bind fun y_1=>(zti y_1).bind fun r_2=>(if r_2 then some x8 else zgy k n s0 f1 x7 (z6 (x8+1)) e_0) else none) else e_0)
def ztj (k:Nat) (s0:List Int) (f1:Unit):Option Int:=zgy k k s0 f1 (List.length s0:Int) 0 (some (-1))
def z16k:Head:=⟨[],[],[]⟩
def z16l (k:Nat):LD Int:=⟨2,⟨[(0,V1),(1,(.val (.fn 166 .un))),(7,V0),(8,V0)],[],[]⟩,[(0,z16k)],fun n x kx=>zgy k n x.1.1 x.1.2.1 x.1.2.2.1 x.1.2.2.2.1 (kx 0 (z16k.fill ((),(),()))),k⟩
def z1oc (k:Nat):FE:=⟨(.pr U5 (.fn 166 .un)),1,U0,fun x=>ztj k x.1 x.2⟩
theorem z1od (k:Nat):z8 Tryz.prog 162 (z1oc k):=okC zb (xTc z1ob xTn) xOn Tryz.f162 (orc (z16l k) (LOn _)) (xLo (z16l k) (by rintro n ⟨⟨s0,f1,x7,x8,⟨⟩⟩,⟨⟩,⟨⟩⟩ kx; kernel_rfl) xLn) (by rintro ⟨s0,f1⟩; kernel_rfl)
def ztk (k:Nat) (s0:List Int) (f1:Unit):Option Bool:=(ztj k s0 f1).bind fun r_1=>some (decide (0≤r_1))
def z1oe (k:Nat):FE:=⟨(.pr U5 (.fn 166 .un)),1,.bool,fun x=>ztk k x.1 x.2⟩
theorem z1of (k:Nat):z8 Tryz.prog 122 (z1oe k):=okC zb (xTc (z1od k) xTn) xOn Tryz.f122 (LOn _) xLn (by rintro ⟨s0,f1⟩; kernel_rfl)
def zio (k:Nat) (list0:List Int):Option Bool:=(ztk k list0 ()).bind fun r_1=>some (!r_1)
def z1og (k:Nat):FE:=⟨U5,1,.bool,fun x=>zio k x⟩
theorem zzb (k:Nat):z8 Tryz.prog 126 (z1og k):=okC zb (xTc (z1of k) xTn) xOn Tryz.f126 (LOn _) xLn (by rintro list0; kernel_rfl)
def zmq (k:Nat) (s0:List zT1×Int×List Int×List zT0) (k1:Int) (x2:List Int):Option Bool:=(z83 k s0 k1).bind fun r_1=>(zir k (r_1.1,(r_1.2.1,(r_1.2.2.1,r_1.2.2.2))) x2).bind fun r_2=>(zio k r_2).bind fun r_3=>some r_3
def z1oh (k:Nat):FE:=⟨(.pr U1 (.pr U0 U5)),1,.bool,fun x=>zmq k x.1 x.2.1 x.2.2⟩
theorem z1gt (k:Nat):z8 Tryz.prog 81 (z1oh k):=okC zb (xTc (zs8 k) (xTc (zza k) (xTc (zzb k) xTn))) xOn Tryz.f81 (LOn _) xLn (by rintro ⟨s0,k1,x2⟩; kernel_rfl)
def ztl (row0:List Int) (x1:Int):Option Bool:=(if 0≤x1 then (row0[x1.toNat]?).bind fun y_1=>some (!(decide (y_1=0))) else none)
def z1oi:FE:=⟨(.pr U5 (.ptr U0)),1,.bool,fun x=>ztl x.1 x.2⟩
theorem z1oj:z8 Tryz.prog 193 (z1oi):=okC zb xTn xOn Tryz.f193 (LOn _) xLn (by rintro ⟨row0,x1⟩; kernel_rfl)
def zgz (k:Nat):Nat→zT10→Int→Int→Int→(Option Int)→Option Int
 | 0,_,_,_,_,_=>none
 | n+1,s0,f1,x7,x8,e_0=>(if (decide (x8<x7)) then (if 0≤x8 then (s0[x8.toNat]?).bind fun y_1=>(ztl y_1 f1).bind fun r_2=>(if r_2 then some x8 else zgz k n s0 f1 x7 (z6 (x8+1)) e_0) else none) else e_0)
def zmk (k:Nat) (s0:List zT1) (f1:Int):Option Int:=zgz k k s0 f1 (List.length s0:Int) 0 (some (-1))
def z16m:Head:=⟨[],[],[]⟩
def z16n (k:Nat):LD Int:=⟨2,⟨[(0,V3),(1,(.val (.fn 193 (.ptr U0)))),(7,V0),(8,V0)],[],[]⟩,[(0,z16m)],fun n x kx=>zgz k n x.1.1 x.1.2.1 x.1.2.2.1 x.1.2.2.2.1 (kx 0 (z16m.fill ((),(),()))),k⟩
def z1ok (k:Nat):FE:=⟨(.pr U16 (.fn 193 (.ptr U0))),1,U0,fun x=>zmk k x.1 x.2⟩
theorem z1gi (k:Nat):z8 Tryz.prog 192 (z1ok k):=okC zb (xTc z1oj xTn) xOn Tryz.f192 (orc (z16n k) (LOn _)) (xLo (z16n k) (by rintro n ⟨⟨s0,f1,x7,x8,⟨⟩⟩,⟨⟩,⟨⟩⟩ kx; kernel_rfl) xLn) (by rintro ⟨s0,f1⟩; kernel_rfl)
def zml (a0:Int) (p1:Int):Option Int:=(if p1=0 then none else (if p1=0 then none else some (Int.tmod (z6 ((Int.tmod a0 p1)+p1)) p1)))
def z1ol:FE:=⟨U20,1,U0,fun x=>zml x.1 x.2⟩
theorem z1gj:z8 Tryz.prog 194 (z1ol):=okC zb xTn xOn Tryz.f194 (LOn _) xLn (by rintro ⟨a0,p1⟩; kernel_rfl)
def zdd (k:Nat):Nat→Int→Int→Int→Int→(Int→Option Int)→Option Int
 | 0,_,_,_,_,_=>none
 | n+1,a0,n1,p2,power7,e_0=>(if (decide (0<n1)) then (if (decide ((Int.tmod n1 2)=1)) then (if p2=0 then none else (if p2=0 then none else zdd k n (Int.tmod (z6 (a0*a0)) p2) (z6 (Int.tdiv n1 2)) p2 (Int.tmod (z6 (power7*a0)) p2) e_0)) else (if p2=0 then none else zdd k n (Int.tmod (z6 (a0*a0)) p2) (z6 (Int.tdiv n1 2)) p2 power7 e_0)) else e_0 power7)
def ztm (k:Nat) (a0:Int) (n1:Int) (p2:Int):Option Int:=zdd k k a0 n1 p2 1 (fun power_1=>some power_1)
def z16o:Head:=⟨[(7,V0)],[],[]⟩
def z16p (k:Nat):LD Int:=⟨2,⟨[(0,V0),(1,V0),(2,V0),(7,V0)],[],[]⟩,[(0,z16o)],fun n x kx=>zdd k n x.1.1 x.1.2.1 x.1.2.2.1 x.1.2.2.2.1 (fun power7=>kx 0 (z16o.fill ((power7,()),(),()))),k⟩
def z1om (k:Nat):FE:=⟨U34,1,U0,fun x=>ztm k x.1 x.2.1 x.2.2⟩
theorem z1on (k:Nat):z8 Tryz.prog 210 (z1om k):=okC zb xTn xOn Tryz.f210 (orc (z16p k) (LOn _)) (xLo (z16p k) (by rintro n ⟨⟨a0,n1,p2,power7,⟨⟩⟩,⟨⟩,⟨⟩⟩ kx; kernel_rfl) xLn) (by rintro ⟨a0,n1,p2⟩; kernel_rfl)
def zik (k:Nat) (a0:Int) (p1:Int):Option Int:=(ztm k a0 (z6 (p1-2)) p1).bind fun r_1=>some r_1
def z1oo (k:Nat):FE:=⟨U20,1,U0,fun x=>zik k x.1 x.2⟩
theorem z1gk (k:Nat):z8 Tryz.prog 196 (z1oo k):=okC zb (xTc (z1on k) xTn) xOn Tryz.f196 (LOn _) xLn (by rintro ⟨a0,p1⟩; kernel_rfl)
def zh0 (k:Nat):Nat→zT1→zT1→Int→Int→Int→Int→zT1→(zT1→Option zT1)→Option zT1
 | 0,_,_,_,_,_,_,_,_=>none
 | n+1,a0,b1,c2,p3,x12,x13,q_1,e_0=>(if (decide (x13<x12)) then (if 0≤x13 then (a0[x13.toNat]?).bind fun y_2=>(if 0≤x13 then (b1[x13.toNat]?).bind fun y_3=>(if p3=0 then none else (if (q_1.length+[(Int.tmod (z6 (y_2+(z6 (c2*y_3)))) p3)].length)*8≤LIM then zh0 k n a0 b1 c2 p3 x12 (z6 (x13+1)) (q_1++[(Int.tmod (z6 (y_2+(z6 (c2*y_3)))) p3)]) e_0 else none)) else none) else none) else e_0 q_1)
def zaq (k:Nat) (a0:List Int) (b1:List Int) (c2:Int) (p3:Int):Option zT1:=zh0 k k a0 b1 c2 p3 (List.length a0:Int) 0 [] (fun q_4=>some q_4)
def z16q:Head:=⟨[(9,(.ref P0 []))],[(P0,2,U0,false)],[]⟩
def z16r (k:Nat):LD zT1:=⟨3,⟨[(0,V1),(1,V1),(2,V0),(3,V0),(9,(.ref P0 [])),(12,V0),(13,V0)],[(P0,2,U0,false)],[]⟩,[(0,z16q)],fun n x kx=>zh0 k n x.1.1 x.1.2.1 x.1.2.2.1 x.1.2.2.2.1 x.1.2.2.2.2.2.1 x.1.2.2.2.2.2.2.1 x.2.1.1 (fun q_4=>kx 0 (z16q.fill (((),()),(q_4,()),()))),k⟩
def z1op (k:Nat):FE:=⟨(.pr U5 (.pr U5 U20)),1,U5,fun x=>zaq k x.1 x.2.1 x.2.2.1 x.2.2.2⟩
theorem z1gl (k:Nat):z8 Tryz.prog 195 (z1op k):=okC zb xTn xOn Tryz.f195 (orc (z16r k) (LOn _)) (xLo (z16r k) (by rintro n ⟨⟨a0,b1,c2,p3,⟨⟩,x12,x13,⟨⟩⟩,⟨q_1,⟨⟩⟩,⟨⟩⟩ kx; kernel_rfl) xLn) (by rintro ⟨a0,b1,c2,p3⟩; kernel_rfl)
end
end Go.Proofs.YtfinlkoplekgkaaGreatDoor.Ev
