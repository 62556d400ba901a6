/- Functions of the program, as plain ones. No conditions. -/
import Derived.Test.YtiodkblajaenbaaGreatDoorG8
import Derived.KernelRfl
set_option linter.unusedVariables false
set_option maxRecDepth 100000
namespace Go.Proofs.YtiodkblajaenbaaGreatDoor.Ev
open Go.RowKit
noncomputable section
def zdl (k:Nat):Nat→Int→Int→Int→Int→Int→Int→Int→Int→Int→Int→Int→Int→Int→Int→zT1→zT1→zT1→zT1→zT3→Int→Int→Int→Int→Int→Int→zT0→(Int→Int→Int→Int→Int→Int→Int→Int→Int→Int→Int→zT1→zT1→zT1→zT1→zT3→Int→Int→Int→Int→Int→Int→zT0→Option zT0)→Option zT0
 | 0,_,_,_,_,_,_,_,_,_,_,_,_,_,_,_,_,_,_,_,_,_,_,_,_,_,_,_=>none
 | n+1,k1,simplex7,place8,top11,left12,i13,x30,x31,x41,x42,x58,x59,x63,x64,q_24,q_25,q_26,q_27,v_2,v_4a,v_4ba,v_4bba,v_5a,v_5ba,v_5bba,v_10,e_6=>(if (decide (x64<x63)) then (zjx v_10 i13 x64).bind fun r_28=>(zq6 place8 v_2.2.1).bind fun r_29=>(if v_2.2.1=0 then none else (if 0≤(z6 ((z6 ((z6 ((z6 (top11+i13))*v_5bba))+left12))+x64))∧(z6 ((z6 ((z6 ((z6 (top11+i13))*v_5bba))+left12))+x64)).toNat<List.length q_27 then (q_27[(z6 ((z6 ((z6 ((z6 (top11+i13))*v_5bba))+left12))+x64)).toNat]?).bind fun y_30=>(q_27[(z6 ((z6 ((z6 ((z6 (top11+i13))*v_5bba))+left12))+x64)).toNat]?).bind fun y_31=>zdl k n k1 simplex7 place8 top11 left12 i13 x30 x31 x41 x42 x58 x59 x63 (z6 (x64+1)) q_24 q_25 q_26 (q_27.set ((z6 ((z6 ((z6 ((z6 (top11+i13))*v_5bba))+left12))+x64)).toNat) (Int.tmod (z6 (r_28*r_29)) v_2.2.1)) v_2 v_4a v_4ba v_4bba v_5a v_5ba v_5bba v_10 e_6 else none)) else e_6 k1 simplex7 place8 top11 left12 x30 x31 x41 x42 x58 x59 q_24 q_25 q_26 q_27 v_2 v_4a v_4ba v_4bba v_5a v_5ba v_5bba v_10)
def zdm (k:Nat):Nat→Int→Int→Int→Int→Int→Int→Int→Int→Int→Int→Int→zT1→zT1→zT1→zT1→zT3→Int→Int→Int→Int→Int→Int→zT0→(Int→Int→Int→Int→Int→Int→zT1→zT1→zT1→zT1→zT3→Int→Int→Int→Int→Int→Int→Option zT0)→Option zT0
 | 0,_,_,_,_,_,_,_,_,_,_,_,_,_,_,_,_,_,_,_,_,_,_,_,_=>none
 | n+1,k1,simplex7,place8,top11,left12,x30,x31,x41,x42,x58,x59,q_20,q_21,q_22,q_23,v_2,v_4a,v_4ba,v_4bba,v_5a,v_5ba,v_5bba,v_10,e_4=>(if (decide (x59<x58)) then zdl k k k1 simplex7 place8 top11 left12 x59 x30 x31 x41 x42 x58 x59 v_10.2.2.1 0 q_20 q_21 q_22 q_23 v_2 v_4a v_4ba v_4bba v_5a v_5ba v_5bba v_10 (fun k_24 simplex_25 place_26 top_27 left_28 x_29 x_30 x_31 x_32 x_33 x_34 q_35 q_36 q_37 q_38 v_39 v_4a_40 v_4ba_41 v_4bba_42 v_5a_43 v_5ba_44 v_5bba_45 v_46=>zdm k n k_24 simplex_25 place_26 top_27 left_28 x_29 x_30 x_31 x_32 x_33 (z6 (x_34+1)) q_35 q_36 q_37 q_38 v_39 v_4a_40 v_4ba_41 v_4bba_42 v_5a_43 v_5ba_44 v_5bba_45 v_46 e_4) else e_4 k1 simplex7 x30 x31 x41 x42 q_20 q_21 q_22 q_23 v_2 v_4a v_4ba v_4bba v_5a v_5ba v_5bba)
def z7f (k:Nat):Nat→Int→Int→Int→Int→Int→Int→zT1→zT1→zT1→zT1→zT3→Int→Int→Int→Int→Int→Int→(Int→Int→Int→zT1→zT1→zT1→zT3→Int→Int→Int→Int→Int→Int→Option zT0)→Option zT0
 | 0,_,_,_,_,_,_,_,_,_,_,_,_,_,_,_,_,_,_=>none
 | n+1,k1,simplex7,x30,x31,x41,x42,q_12,q_13,q_14,q_15,v_2,v_4a,v_4ba,v_4bba,v_5a,v_5ba,v_5bba,e_2=>(if (decide (x42<x41)) then (if 0≤x42∧x42.toNat<List.length q_13 then (q_13[x42.toNat]?).bind fun y_16=>(z8b k v_2 simplex7 x42).bind fun r_17=>(zfm k v_2 simplex7).bind fun r_18=>(zfm k v_2 y_16).bind fun r_19=>zdm k k k1 simplex7 x42 r_18 r_19 x30 x31 x41 x42 r_17.2.1 0 q_12 q_13 q_14 q_15 v_2 v_4a v_4ba v_4bba v_5a v_5ba v_5bba r_17 (fun k_20 simplex_21 x_22 x_23 x_24 x_25 q_26 q_27 q_28 q_29 v_30 v_4a_31 v_4ba_32 v_4bba_33 v_5a_34 v_5ba_35 v_5bba_36=>z7f k n k_20 simplex_21 x_22 x_23 x_24 (z6 (x_25+1)) q_26 q_27 q_28 q_29 v_30 v_4a_31 v_4ba_32 v_4bba_33 v_5a_34 v_5ba_35 v_5bba_36 e_2) else none) else e_2 k1 x30 x31 q_12 q_14 q_15 v_2 v_4a v_4ba v_4bba v_5a v_5ba v_5bba)
def z8e (k:Nat):Nat→Int→Int→Int→zT1→zT1→zT1→zT3→Int→Int→Int→Int→Int→Int→(zT1→zT1→Int→Int→Int→Int→Int→Int→Option zT0)→Option zT0
 | 0,_,_,_,_,_,_,_,_,_,_,_,_,_,_=>none
 | n+1,k1,x30,x31,q_5,q_6,q_7,v_2,v_4a,v_4ba,v_4bba,v_5a,v_5ba,v_5bba,e_0=>(if (decide (x31<x30)) then (if 0≤x31∧x31.toNat<List.length q_5 then (q_5[x31.toNat]?).bind fun y_8=>(if (decide (k1<0)) then e_0 q_6 q_7 v_4a v_4ba v_4bba v_5a v_5ba v_5bba else (z9p k v_2.1 y_8).bind fun r_9=>z7f k k k1 y_8 x30 x31 (List.length r_9:Int) 0 q_5 r_9 q_6 q_7 v_2 v_4a v_4ba v_4bba v_5a v_5ba v_5bba (fun k_10 x_11 x_12 q_13 q_14 q_15 v_16 v_4a_17 v_4ba_18 v_4bba_19 v_5a_20 v_5ba_21 v_5bba_22=>z8e k n k_10 x_11 (z6 (x_12+1)) q_13 q_14 q_15 v_16 v_4a_17 v_4ba_18 v_4bba_19 v_5a_20 v_5ba_21 v_5bba_22 e_0)) else none) else e_0 q_6 q_7 v_4a v_4ba v_4bba v_5a v_5ba v_5bba)
def z85 (k:Nat) (s0:List zT1×Int×List Int×List zT0) (k1:Int):Option zT0:=(zb6 k s0 (z6 (k1+1))).bind fun r_1=>(zb6 k s0 k1).bind fun r_2=>(zq5 k s0.2.1 r_1 r_2).bind fun r_3=>(zci k s0.1 (z6 (k1+1))).bind fun r_4=>z8e k k k1 (List.length r_4:Int) 0 r_4 [] r_3.2.2.2 s0 0 0 0 r_3.1 r_3.2.1 r_3.2.2.1 (fun q_23 q_24 v_4a_25 v_4ba_26 v_4bba_27 v_5a_28 v_5ba_29 v_5bba_30=>some (v_5a_28,(v_5ba_29,(v_5bba_30,q_24))))
def z17z:Head:=⟨[(1,V0),(2,(.bp 2 [] 0)),(4,(.bp 4 [] 0)),(5,(.bp 5 [] 0)),(7,V0),(8,V0),(10,(.bp 10 [] 0)),(11,V0),(12,V0),(29,(.ref P0 [])),(30,V0),(31,V0),(40,(.ref P1 [])),(41,V0),(42,V0),(58,V0),(59,V0)],[(P0,2,U0,false),(P1,2,U0,false),(P2,2,U0,false),(P3,2,U0,false)],[(2,44,V4),(4,136,(.st (.pr V0 (.pr V0 (.pr V0 (.ref P2 [])))))),(5,136,(.st (.pr V0 (.pr V0 (.pr V0 (.ref P3 [])))))),(10,136,V7)]⟩
def z180:Head:=⟨[(1,V0),(2,(.bp 2 [] 0)),(4,(.bp 4 [] 0)),(5,(.bp 5 [] 0)),(7,V0),(8,V0),(10,(.bp 10 [] 0)),(11,V0),(12,V0),(13,V0),(29,(.ref P0 [])),(30,V0),(31,V0),(40,(.ref P1 [])),(41,V0),(42,V0),(58,V0),(59,V0),(63,V0),(64,V0)],[(P0,2,U0,false),(P1,2,U0,false),(P2,2,U0,false),(P3,2,U0,false)],[(2,44,V4),(4,136,(.st (.pr V0 (.pr V0 (.pr V0 (.ref P2 [])))))),(5,136,(.st (.pr V0 (.pr V0 (.pr V0 (.ref P3 [])))))),(10,136,V7)]⟩
def z181 (k:Nat) (n:Nat) (x:z180.T) (kx:Nat→St→Option zT0):Option zT0:=zdl k n x.1.1 x.1.2.2.2.2.1 x.1.2.2.2.2.2.1 x.1.2.2.2.2.2.2.2.1 x.1.2.2.2.2.2.2.2.2.1 x.1.2.2.2.2.2.2.2.2.2.1 x.1.2.2.2.2.2.2.2.2.2.2.2.1 x.1.2.2.2.2.2.2.2.2.2.2.2.2.1 x.1.2.2.2.2.2.2.2.2.2.2.2.2.2.2.1 x.1.2.2.2.2.2.2.2.2.2.2.2.2.2.2.2.1 x.1.2.2.2.2.2.2.2.2.2.2.2.2.2.2.2.2.1 x.1.2.2.2.2.2.2.2.2.2.2.2.2.2.2.2.2.2.1 x.1.2.2.2.2.2.2.2.2.2.2.2.2.2.2.2.2.2.2.1 x.1.2.2.2.2.2.2.2.2.2.2.2.2.2.2.2.2.2.2.2.1 x.2.1.1 x.2.1.2.1 x.2.1.2.2.1 x.2.1.2.2.2.1 x.2.2.1 x.2.2.2.1.1 x.2.2.2.1.2.1 x.2.2.2.1.2.2.1 x.2.2.2.2.1.1 x.2.2.2.2.1.2.1 x.2.2.2.2.1.2.2.1 x.2.2.2.2.2.1 (fun k1 simplex7 place8 top11 left12 x30 x31 x41 x42 x58 x59 q_32 q_33 q_34 q_35 v_2 v_4a v_4ba v_4bba v_5a v_5ba v_5bba v_10=>kx 6 (z17z.fill ((k1,(),(),(),simplex7,place8,(),top11,left12,(),x30,x31,(),x41,x42,x58,x59,()),(q_32,q_33,q_34,q_35,()),(v_2,(v_4a,(v_4ba,(v_4bba,()))),(v_5a,(v_5ba,(v_5bba,()))),v_10,()))))
def zq7 (k:Nat):LD zT0:=⟨15,z180,[(6,z17z)],z181 k,k⟩
def z182:Head:=⟨[(1,V0),(2,(.bp 2 [] 0)),(4,(.bp 4 [] 0)),(5,(.bp 5 [] 0)),(7,V0),(29,(.ref P0 [])),(30,V0),(31,V0),(40,(.ref P1 [])),(41,V0),(42,V0)],[(P0,2,U0,false),(P1,2,U0,false),(P2,2,U0,false),(P3,2,U0,false)],[(2,44,V4),(4,136,(.st (.pr V0 (.pr V0 (.pr V0 (.ref P2 [])))))),(5,136,(.st (.pr V0 (.pr V0 (.pr V0 (.ref P3 []))))))]⟩
def z183:Head:=⟨[(1,V0),(2,(.bp 2 [] 0)),(4,(.bp 4 [] 0)),(5,(.bp 5 [] 0)),(7,V0),(8,V0),(10,(.bp 10 [] 0)),(11,V0),(12,V0),(29,(.ref P0 [])),(30,V0),(31,V0),(40,(.ref P1 [])),(41,V0),(42,V0),(58,V0),(59,V0)],[(P0,2,U0,false),(P1,2,U0,false),(P2,2,U0,false),(P3,2,U0,false)],[(2,44,V4),(4,136,(.st (.pr V0 (.pr V0 (.pr V0 (.ref P2 [])))))),(5,136,(.st (.pr V0 (.pr V0 (.pr V0 (.ref P3 [])))))),(10,136,V7)]⟩
def z184 (k:Nat) (n:Nat) (x:z183.T) (kx:Nat→St→Option zT0):Option zT0:=zdm k n x.1.1 x.1.2.2.2.2.1 x.1.2.2.2.2.2.1 x.1.2.2.2.2.2.2.2.1 x.1.2.2.2.2.2.2.2.2.1 x.1.2.2.2.2.2.2.2.2.2.2.1 x.1.2.2.2.2.2.2.2.2.2.2.2.1 x.1.2.2.2.2.2.2.2.2.2.2.2.2.2.1 x.1.2.2.2.2.2.2.2.2.2.2.2.2.2.2.1 x.1.2.2.2.2.2.2.2.2.2.2.2.2.2.2.2.1 x.1.2.2.2.2.2.2.2.2.2.2.2.2.2.2.2.2.1 x.2.1.1 x.2.1.2.1 x.2.1.2.2.1 x.2.1.2.2.2.1 x.2.2.1 x.2.2.2.1.1 x.2.2.2.1.2.1 x.2.2.2.1.2.2.1 x.2.2.2.2.1.1 x.2.2.2.2.1.2.1 x.2.2.2.2.1.2.2.1 x.2.2.2.2.2.1 (fun k1 simplex7 x30 x31 x41 x42 q_55 q_56 q_57 q_58 v_2 v_4a v_4ba v_4bba v_5a v_5ba v_5bba=>kx 4 (z182.fill ((k1,(),(),(),simplex7,(),x30,x31,(),x41,x42,()),(q_55,q_56,q_57,q_58,()),(v_2,(v_4a,(v_4ba,(v_4bba,()))),(v_5a,(v_5ba,(v_5bba,()))),()))))
def zq8 (k:Nat):LD zT0:=⟨12,z183,[(4,z182)],z184 k,k⟩
def z185:Head:=⟨[(1,V0),(2,(.bp 2 [] 0)),(4,(.bp 4 [] 0)),(5,(.bp 5 [] 0)),(29,(.ref P0 [])),(30,V0),(31,V0)],[(P0,2,U0,false),(P1,2,U0,false),(P2,2,U0,false)],[(2,44,V4),(4,136,(.st (.pr V0 (.pr V0 (.pr V0 (.ref P1 [])))))),(5,136,(.st (.pr V0 (.pr V0 (.pr V0 (.ref P2 []))))))]⟩
def z186:Head:=⟨[(1,V0),(2,(.bp 2 [] 0)),(4,(.bp 4 [] 0)),(5,(.bp 5 [] 0)),(7,V0),(29,(.ref P0 [])),(30,V0),(31,V0),(40,(.ref P1 [])),(41,V0),(42,V0)],[(P0,2,U0,false),(P1,2,U0,false),(P2,2,U0,false),(P3,2,U0,false)],[(2,44,V4),(4,136,(.st (.pr V0 (.pr V0 (.pr V0 (.ref P2 [])))))),(5,136,(.st (.pr V0 (.pr V0 (.pr V0 (.ref P3 []))))))]⟩
def z187 (k:Nat) (n:Nat) (x:z186.T) (kx:Nat→St→Option zT0):Option zT0:=z7f k n x.1.1 x.1.2.2.2.2.1 x.1.2.2.2.2.2.2.1 x.1.2.2.2.2.2.2.2.1 x.1.2.2.2.2.2.2.2.2.2.1 x.1.2.2.2.2.2.2.2.2.2.2.1 x.2.1.1 x.2.1.2.1 x.2.1.2.2.1 x.2.1.2.2.2.1 x.2.2.1 x.2.2.2.1.1 x.2.2.2.1.2.1 x.2.2.2.1.2.2.1 x.2.2.2.2.1.1 x.2.2.2.2.1.2.1 x.2.2.2.2.1.2.2.1 (fun k1 x30 x31 q_64 q_65 q_66 v_2 v_4a v_4ba v_4bba v_5a v_5ba v_5bba=>kx 2 (z185.fill ((k1,(),(),(),(),x30,x31,()),(q_64,q_65,q_66,()),(v_2,(v_4a,(v_4ba,(v_4bba,()))),(v_5a,(v_5ba,(v_5bba,()))),()))))
def zq9 (k:Nat):LD zT0:=⟨7,z186,[(2,z185)],z187 k,k⟩
def z188:Head:=⟨[(4,(.bp 4 [] 0)),(5,(.bp 5 [] 0))],[(P0,2,U0,false),(P1,2,U0,false)],[(4,136,(.st (.pr V0 (.pr V0 (.pr V0 (.ref P0 [])))))),(5,136,(.st (.pr V0 (.pr V0 (.pr V0 (.ref P1 []))))))]⟩
def z189:Head:=⟨[(1,V0),(2,(.bp 2 [] 0)),(4,(.bp 4 [] 0)),(5,(.bp 5 [] 0)),(29,(.ref P0 [])),(30,V0),(31,V0)],[(P0,2,U0,false),(P1,2,U0,false),(P2,2,U0,false)],[(2,44,V4),(4,136,(.st (.pr V0 (.pr V0 (.pr V0 (.ref P1 [])))))),(5,136,(.st (.pr V0 (.pr V0 (.pr V0 (.ref P2 []))))))]⟩
def z18a (k:Nat) (n:Nat) (x:z189.T) (kx:Nat→St→Option zT0):Option zT0:=z8e k n x.1.1 x.1.2.2.2.2.2.1 x.1.2.2.2.2.2.2.1 x.2.1.1 x.2.1.2.1 x.2.1.2.2.1 x.2.2.1 x.2.2.2.1.1 x.2.2.2.1.2.1 x.2.2.2.1.2.2.1 x.2.2.2.2.1.1 x.2.2.2.2.1.2.1 x.2.2.2.2.1.2.2.1 (fun q_9 q_10 v_4a v_4ba v_4bba v_5a v_5ba v_5bba=>kx 0 (z188.fill (((),(),()),(q_9,q_10,()),((v_4a,(v_4ba,(v_4bba,()))),(v_5a,(v_5ba,(v_5bba,()))),()))))
def zqa (k:Nat):LD zT0:=⟨3,z189,[(0,z188)],z18a k,k⟩
def z1qy (k:Nat):FE:=⟨(.pr U4 U0),1,U1,fun x=>z85 k x.1 x.2⟩
theorem zt3 (k:Nat):z8 Tryz.prog 120 (z1qy k):=okC za (xTc (ztv k) (xTc (z1qu k) (xTc (zng k) (xTc (ztx k) (xTc (z16r k) (xTc (z10a k) (xTc z16s (xTc z1qx xTn)))))))) xOn Tryz.f120 (orc (zq7 k) (orc (zq8 k) (orc (zq9 k) (orc (zqa k) (LOn _))))) (xLp (zqa k) (by rintro n ⟨⟨k1,⟨⟩,⟨⟩,⟨⟩,⟨⟩,x30,x31,⟨⟩⟩,⟨q_5,q_6,q_7,⟨⟩⟩,⟨v_2,⟨v_4a,⟨v_4ba,⟨v_4bba,⟨⟩⟩⟩⟩,⟨v_5a,⟨v_5ba,⟨v_5bba,⟨⟩⟩⟩⟩,⟨⟩⟩⟩ kx _ h; dsimp only [zqa,z18a] at h; subst h; dsimp only [zqa]; kernel_rfl) (xLp (zq9 k) (by rintro n ⟨⟨k1,⟨⟩,⟨⟩,⟨⟩,simplex7,⟨⟩,x30,x31,⟨⟩,x41,x42,⟨⟩⟩,⟨q_12,q_13,q_14,q_15,⟨⟩⟩,⟨v_2,⟨v_4a,⟨v_4ba,⟨v_4bba,⟨⟩⟩⟩⟩,⟨v_5a,⟨v_5ba,⟨v_5bba,⟨⟩⟩⟩⟩,⟨⟩⟩⟩ kx _ h; dsimp only [zq9,z187] at h; subst h; dsimp only [zq9]; kernel_rfl) (xLp (zq8 k) (by rintro n ⟨⟨k1,⟨⟩,⟨⟩,⟨⟩,simplex7,place8,⟨⟩,top11,left12,⟨⟩,x30,x31,⟨⟩,x41,x42,x58,x59,⟨⟩⟩,⟨q_20,q_21,q_22,q_23,⟨⟩⟩,⟨v_2,⟨v_4a,⟨v_4ba,⟨v_4bba,⟨⟩⟩⟩⟩,⟨v_5a,⟨v_5ba,⟨v_5bba,⟨⟩⟩⟩⟩,v_10,⟨⟩⟩⟩ kx _ h; dsimp only [zq8,z184] at h; subst h; dsimp only [zq8]; kernel_rfl) (xLp (zq7 k) (by rintro n ⟨⟨k1,⟨⟩,⟨⟩,⟨⟩,simplex7,place8,⟨⟩,top11,left12,i13,⟨⟩,x30,x31,⟨⟩,x41,x42,x58,x59,x63,x64,⟨⟩⟩,⟨q_24,q_25,q_26,q_27,⟨⟩⟩,⟨v_2,⟨v_4a,⟨v_4ba,⟨v_4bba,⟨⟩⟩⟩⟩,⟨v_5a,⟨v_5ba,⟨v_5bba,⟨⟩⟩⟩⟩,v_10,⟨⟩⟩⟩ kx _ h; dsimp only [zq7,z181] at h; subst h; dsimp only [zq7]; kernel_rfl) xLn)))) (by rintro ⟨s0,k1⟩; kernel_rfl)
def zhh (k:Nat):Nat→zT1→Int→Int→zT1→zT0→(zT1→Option zT1)→Option zT1
 | 0,_,_,_,_,_,_=>none
 | n+1,v1,x8,x9,q_1,v_2,e_0=>(if (decide (x9<x8)) then (z8c v_2 x9).bind fun r_2=>(zjy k r_2 v1 v_2.1).bind fun r_3=>(if (q_1.length+[r_3].length)*8≤LIM then zhh k n v1 x8 (z6 (x9+1)) (q_1++[r_3]) v_2 e_0 else none) else e_0 q_1)
def zjc (k:Nat) (m0:Int×Int×Int×List Int) (v1:List Int):Option zT1:=zhh k k v1 m0.2.1 0 [] m0 (fun q_4=>some q_4)
def z18b:Head:=⟨[(5,(.ref P0 []))],[(P0,2,U0,false)],[]⟩
def z18c (k:Nat):LD zT1:=⟨3,⟨[(1,V1),(2,(.bp 2 [] 0)),(5,(.ref P0 [])),(8,V0),(9,V0)],[(P0,2,U0,false)],[(2,136,V7)]⟩,[(0,z18b)],fun n x kx=>zhh k n x.1.1 x.1.2.2.2.1 x.1.2.2.2.2.1 x.2.1.1 x.2.2.1 (fun q_4=>kx 0 (z18b.fill (((),()),(q_4,()),()))),k⟩
def z1qz (k:Nat):FE:=⟨(.pr U1 U5),1,U5,fun x=>zjc k x.1 x.2⟩
theorem z10e (k:Nat):z8 Tryz.prog 119 (z1qz k):=okC za (xTc zu7 (xTc (z175 k) xTn)) xOn Tryz.f119 (orc (z18c k) (LOn _)) (xLo (z18c k) (by rintro n ⟨⟨v1,⟨⟩,⟨⟩,x8,x9,⟨⟩⟩,⟨q_1,⟨⟩⟩,⟨v_2,⟨⟩⟩⟩ kx; kernel_rfl) xLn) (by rintro ⟨m0,v1⟩; kernel_rfl)
def zuh (x0:Int):Option Bool:=some (!(decide (x0=0)))
def z1r0:FE:=⟨U0,1,.bool,fun x=>zuh x⟩
theorem z1r1:z8 Tryz.prog 173 (z1r0):=okC za xTn xOn Tryz.f173 (LOn _) xLn (by rintro x0; kernel_rfl)
def zhi (k:Nat):Nat→zT1→Unit→Int→Int→(Option Int)→Option Int
 | 0,_,_,_,_,_=>none
 | n+1,s0,f1,x7,x8,e_0=>(if (decide (x8<x7)) then (if 0≤x8 then (s0[x8.toNat]?).bind fun y_1=>(zuh y_1).bind fun r_2=>(if r_2 then some x8 else zhi k n s0 f1 x7 (z6 (x8+1)) e_0) else none) else e_0)
def zui (k:Nat) (s0:List Int) (f1:Unit):Option Int:=zhi k k s0 f1 (List.length s0:Int) 0 (some (-1))
def z18d:Head:=⟨[],[],[]⟩
def z18e (k:Nat):LD Int:=⟨2,⟨[(0,V1),(1,(.val (.fn 173 .un))),(7,V0),(8,V0)],[],[]⟩,[(0,z18d)],fun n x kx=>zhi k n x.1.1 x.1.2.1 x.1.2.2.1 x.1.2.2.2.1 (kx 0 (z18d.fill ((),(),()))),k⟩
def z1r2 (k:Nat):FE:=⟨(.pr U5 (.fn 173 .un)),1,U0,fun x=>zui k x.1 x.2⟩
theorem z1r3 (k:Nat):z8 Tryz.prog 169 (z1r2 k):=okC za (xTc z1r1 xTn) xOn Tryz.f169 (orc (z18e k) (LOn _)) (xLo (z18e k) (by rintro n ⟨⟨s0,f1,x7,x8,⟨⟩⟩,⟨⟩,⟨⟩⟩ kx; kernel_rfl) xLn) (by rintro ⟨s0,f1⟩; kernel_rfl)
def zuj (k:Nat) (s0:List Int) (f1:Unit):Option Bool:=(zui k s0 f1).bind fun r_1=>some (decide (0≤r_1))
def z1r4 (k:Nat):FE:=⟨(.pr U5 (.fn 173 .un)),1,.bool,fun x=>zuj k x.1 x.2⟩
theorem z1r5 (k:Nat):z8 Tryz.prog 114 (z1r4 k):=okC za (xTc (z1r3 k) xTn) xOn Tryz.f114 (LOn _) xLn (by rintro ⟨s0,f1⟩; kernel_rfl)
def zja (k:Nat) (list0:List Int):Option Bool:=(zuj k list0 ()).bind fun r_1=>some (!r_1)
def z1r6 (k:Nat):FE:=⟨U5,1,.bool,fun x=>zja k x⟩
theorem z10f (k:Nat):z8 Tryz.prog 118 (z1r6 k):=okC za (xTc (z1r5 k) xTn) xOn Tryz.f118 (LOn _) xLn (by rintro list0; kernel_rfl)
def zne (k:Nat) (s0:List zT1×Int×List Int×List zT0) (k1:Int) (x2:List Int):Option Bool:=(z85 k s0 k1).bind fun r_1=>(zjc k (r_1.1,(r_1.2.1,(r_1.2.2.1,r_1.2.2.2))) x2).bind fun r_2=>(zja k r_2).bind fun r_3=>some r_3
def z1r7 (k:Nat):FE:=⟨(.pr U4 (.pr U0 U5)),1,.bool,fun x=>zne k x.1 x.2.1 x.2.2⟩
theorem z1ip (k:Nat):z8 Tryz.prog 60 (z1r7 k):=okC za (xTc (zt3 k) (xTc (z10e k) (xTc (z10f k) xTn))) xOn Tryz.f60 (LOn _) xLn (by rintro ⟨s0,k1,x2⟩; kernel_rfl)
def zuk (row0:List Int) (x1:Int):Option Bool:=(if 0≤x1 then (row0[x1.toNat]?).bind fun y_1=>some (!(decide (y_1=0))) else none)
def z1r8:FE:=⟨(.pr U5 (.ptr U0)),1,.bool,fun x=>zuk x.1 x.2⟩
theorem z1r9:z8 Tryz.prog 206 (z1r8):=okC za xTn xOn Tryz.f206 (LOn _) xLn (by rintro ⟨row0,x1⟩; kernel_rfl)
def zhj (k:Nat):Nat→zT10→Int→Int→Int→(Option Int)→Option Int
 | 0,_,_,_,_,_=>none
 | n+1,s0,f1,x7,x8,e_0=>(if (decide (x8<x7)) then (if 0≤x8 then (s0[x8.toNat]?).bind fun y_1=>(zuk y_1 f1).bind fun r_2=>(if r_2 then some x8 else zhj k n s0 f1 x7 (z6 (x8+1)) e_0) else none) else e_0)
def zn8 (k:Nat) (s0:List zT1) (f1:Int):Option Int:=zhj k k s0 f1 (List.length s0:Int) 0 (some (-1))
def z18f:Head:=⟨[],[],[]⟩
def z18g (k:Nat):LD Int:=⟨2,⟨[(0,V3),(1,(.val (.fn 206 (.ptr U0)))),(7,V0),(8,V0)],[],[]⟩,[(0,z18f)],fun n x kx=>zhj k n x.1.1 x.1.2.1 x.1.2.2.1 x.1.2.2.2.1 (kx 0 (z18f.fill ((),(),()))),k⟩
def z1ra (k:Nat):FE:=⟨(.pr U16 (.fn 206 (.ptr U0))),1,U0,fun x=>zn8 k x.1 x.2⟩
theorem z1ie (k:Nat):z8 Tryz.prog 205 (z1ra k):=okC za (xTc z1r9 xTn) xOn Tryz.f205 (orc (z18g k) (LOn _)) (xLo (z18g k) (by rintro n ⟨⟨s0,f1,x7,x8,⟨⟩⟩,⟨⟩,⟨⟩⟩ kx; kernel_rfl) xLn) (by rintro ⟨s0,f1⟩; kernel_rfl)
def zn9 (a0:Int) (p1:Int):Option Int:=(if p1=0 then none else (if p1=0 then none else some (Int.tmod (z6 ((Int.tmod a0 p1)+p1)) p1)))
def z1rb:FE:=⟨U19,1,U0,fun x=>zn9 x.1 x.2⟩
theorem z1if:z8 Tryz.prog 207 (z1rb):=okC za xTn xOn Tryz.f207 (LOn _) xLn (by rintro ⟨a0,p1⟩; kernel_rfl)
def zdn (k:Nat):Nat→Int→Int→Int→Int→(Int→Option Int)→Option Int
 | 0,_,_,_,_,_=>none
 | n+1,a0,n1,p2,power7,e_0=>(if (decide (0<n1)) then (if (decide ((Int.tmod n1 2)=1)) then (if p2=0 then none else (if p2=0 then none else zdn k n (Int.tmod (z6 (a0*a0)) p2) (z6 (Int.tdiv n1 2)) p2 (Int.tmod (z6 (power7*a0)) p2) e_0)) else (if p2=0 then none else zdn k n (Int.tmod (z6 (a0*a0)) p2) (z6 (Int.tdiv n1 2)) p2 power7 e_0)) else e_0 power7)
def zul (k:Nat) (a0:Int) (n1:Int) (p2:Int):Option Int:=zdn k k a0 n1 p2 1 (fun power_1=>some power_1)
def z18h:Head:=⟨[(7,V0)],[],[]⟩
def z18i (k:Nat):LD Int:=⟨2,⟨[(0,V0),(1,V0),(2,V0),(7,V0)],[],[]⟩,[(0,z18h)],fun n x kx=>zdn k n x.1.1 x.1.2.1 x.1.2.2.1 x.1.2.2.2.1 (fun power7=>kx 0 (z18h.fill ((power7,()),(),()))),k⟩
def z1rc (k:Nat):FE:=⟨U35,1,U0,fun x=>zul k x.1 x.2.1 x.2.2⟩
theorem z1rd (k:Nat):z8 Tryz.prog 224 (z1rc k):=okC za xTn xOn Tryz.f224 (orc (z18i k) (LOn _)) (xLo (z18i k) (by rintro n ⟨⟨a0,n1,p2,power7,⟨⟩⟩,⟨⟩,⟨⟩⟩ kx; kernel_rfl) xLn) (by rintro ⟨a0,n1,p2⟩; kernel_rfl)
def zj6 (k:Nat) (a0:Int) (p1:Int):Option Int:=(zul k a0 (z6 (p1-2)) p1).bind fun r_1=>some r_1
def z1re (k:Nat):FE:=⟨U19,1,U0,fun x=>zj6 k x.1 x.2⟩
theorem z1ig (k:Nat):z8 Tryz.prog 209 (z1re k):=okC za (xTc (z1rd k) xTn) xOn Tryz.f209 (LOn _) xLn (by rintro ⟨a0,p1⟩; kernel_rfl)
def zhk (k:Nat):Nat→zT1→zT1→Int→Int→Int→Int→zT1→(zT1→Option zT1)→Option zT1
 | 0,_,_,_,_,_,_,_,_=>none
 | n+1,a0,b1,c2,p3,x12,x13,q_1,e_0=>(if (decide (x13<x12)) then (if 0≤x13 then (a0[x13.toNat]?).bind fun y_2=>(if 0≤x13 then (b1[x13.toNat]?).bind fun y_3=>(if p3=0 then none else (if (q_1.length+[(Int.tmod (z6 (y_2+(z6 (c2*y_3)))) p3)].length)*8≤LIM then zhk k n a0 b1 c2 p3 x12 (z6 (x13+1)) (q_1++[(Int.tmod (z6 (y_2+(z6 (c2*y_3)))) p3)]) e_0 else none)) else none) else none) else e_0 q_1)
def zaw (k:Nat) (a0:List Int) (b1:List Int) (c2:Int) (p3:Int):Option zT1:=zhk k k a0 b1 c2 p3 (List.length a0:Int) 0 [] (fun q_4=>some q_4)
def z18j:Head:=⟨[(9,(.ref P0 []))],[(P0,2,U0,false)],[]⟩
def z18k (k:Nat):LD zT1:=⟨3,⟨[(0,V1),(1,V1),(2,V0),(3,V0),(9,(.ref P0 [])),(12,V0),(13,V0)],[(P0,2,U0,false)],[]⟩,[(0,z18j)],fun n x kx=>zhk k n x.1.1 x.1.2.1 x.1.2.2.1 x.1.2.2.2.1 x.1.2.2.2.2.2.1 x.1.2.2.2.2.2.2.1 x.2.1.1 (fun q_4=>kx 0 (z18j.fill (((),()),(q_4,()),()))),k⟩
def z1rf (k:Nat):FE:=⟨(.pr U5 (.pr U5 U19)),1,U5,fun x=>zaw k x.1 x.2.1 x.2.2.1 x.2.2.2⟩
theorem z1ih (k:Nat):z8 Tryz.prog 208 (z1rf k):=okC za xTn xOn Tryz.f208 (orc (z18k k) (LOn _)) (xLo (z18k k) (by rintro n ⟨⟨a0,b1,c2,p3,⟨⟩,x12,x13,⟨⟩⟩,⟨q_1,⟨⟩⟩,⟨⟩⟩ kx; kernel_rfl) xLn) (by rintro ⟨a0,b1,c2,p3⟩; kernel_rfl)
end
end Go.Proofs.YtiodkblajaenbaaGreatDoor.Ev
