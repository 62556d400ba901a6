/- Functions of the program, as plain ones. No conditions. -/
import Derived.Test.YtchfjdcfhlhgcaaGreatDoorG7
import Derived.KernelRfl
set_option linter.unusedVariables false
set_option maxRecDepth 100000
namespace Go.Proofs.YtchfjdcfhlhgcaaGreatDoor.Ev
open Go.RowKit
noncomputable section
def zfu (k:Nat):Nat→zT1→Int→Int→(List zT14)→((List zT14)→Option zT14)→Option zT14
 | 0,_,_,_,_,_=>none
 | n+1,x16,x17,x18,q_2,e_0=>(if (decide (x18<x17)) then (if 0≤x18 then (x16[x18.toNat]?).bind fun y_3=>(znl y_3).bind fun r_4=>(if (q_2.length+[r_4].length)*16≤LIM then zfu k n x16 x17 (z6 (x18+1)) (q_2++[r_4]) e_0 else none) else none) else e_0 q_2)
def zi7 (k:Nat) (list0:List Int):Option zT14:=(if (decide (64<(List.length list0:Int))) then some [] else (znk k list0 ()).bind fun r_1=>(if r_1 then some [] else (if (decide ((List.length list0:Int)=0)) then some [45] else zfu k k list0 (List.length list0:Int) 0 [] (fun q_5=>(zs6 [44] q_5).bind fun y_6=>some y_6.1.1))))
def z13b:Head:=⟨[(3,(.ref P0 []))],[(P0,9,.str,false)],[]⟩
def z13c (k:Nat):LD zT14:=⟨7,⟨[(3,(.ref P0 [])),(16,V1),(17,V0),(18,V0)],[(P0,9,.str,false)],[]⟩,[(0,z13b)],fun n x kx=>zfu k n x.1.2.1 x.1.2.2.1 x.1.2.2.2.1 x.2.1.1 (fun q_5=>kx 0 (z13b.fill (((),()),(q_5,()),()))),k⟩
def z1km (k:Nat):FE:=⟨U5,1,.str,fun x=>zi7 k x⟩
theorem z1kn (k:Nat):z8 Tryz.prog 49 (z1km k):=okC zb (xTc (z1kh k) (xTc z1kk xTn)) (xOc 29 z1kl xOn) Tryz.f49 (orc (z13c k) (LOn _)) (xLo (z13c k) (by rintro n ⟨⟨⟨⟩,x16,x17,x18,⟨⟩⟩,⟨q_2,⟨⟩⟩,⟨⟩⟩ kx; kernel_rfl) xLn) (by rintro list0; kernel_rfl)
def zs7 (i0:Int) (j1:Int):Option Int:=some 0
def z1ko:FE:=⟨U20,1,U0,fun x=>zs7 x.1 x.2⟩
theorem z1kp:z8 Tryz.prog 189 (z1ko):=okC zb xTn xOn Tryz.f189 (LOn _) xLn (by rintro ⟨i0,j1⟩; kernel_rfl)
def zcf (k:Nat):Nat→Int→Unit→Int→Int→Int→Int→Int→zT1→zT1→Int→Int→Int→Int→Int→Int→(Int→Unit→Int→Int→zT1→zT1→Int→Int→Int→Int→Int→Int→Option zT0)→Option zT0
 | 0,_,_,_,_,_,_,_,_,_,_,_,_,_,_,_,_=>none
 | n+1,columns2,cell3,i10,x16,x17,x20,x21,q_3,q_4,v_8a,v_8ba,v_8bba,v_9a,v_9ba,v_9bba,e_2=>(if (decide (x21<x20)) then (zs7 i10 x21).bind fun r_5=>(if (q_4.length+[r_5].length)*8≤LIM then zcf k n columns2 cell3 i10 x16 x17 x20 (z6 (x21+1)) q_3 (q_4++[r_5]) v_8a v_8ba v_8bba v_9a v_9ba v_9bba e_2 else none) else e_2 columns2 cell3 x16 x17 q_3 q_4 v_8a v_8ba v_8bba v_9a v_9ba v_9bba)
def zfv (k:Nat):Nat→Int→Unit→Int→Int→zT1→zT1→Int→Int→Int→Int→Int→Int→(zT1→zT1→Int→Int→Int→Int→Int→Int→Option zT0)→Option zT0
 | 0,_,_,_,_,_,_,_,_,_,_,_,_,_=>none
 | n+1,columns2,cell3,x16,x17,q_1,q_2,v_8a,v_8ba,v_8bba,v_9a,v_9ba,v_9bba,e_0=>(if (decide (x17<x16)) then zcf k k columns2 cell3 x17 x16 x17 columns2 0 q_1 q_2 v_8a v_8ba v_8bba v_9a v_9ba v_9bba (fun columns_3 cell_4 x_5 x_6 q_7 q_8 v_8a_9 v_8ba_10 v_8bba_11 v_9a_12 v_9ba_13 v_9bba_14=>zfv k n columns_3 cell_4 x_5 (z6 (x_6+1)) q_7 q_8 v_8a_9 v_8ba_10 v_8bba_11 v_9a_12 v_9ba_13 v_9bba_14 e_0) else e_0 q_1 q_2 v_8a v_8ba v_8bba v_9a v_9ba v_9bba)
def zs8 (k:Nat) (p0:Int) (rows1:Int) (columns2:Int) (cell3:Unit):Option zT0:=zfv k k columns2 cell3 rows1 0 [] [] 0 0 0 p0 rows1 columns2 (fun q_15 q_16 v_8a_17 v_8ba_18 v_8bba_19 v_9a_20 v_9ba_21 v_9bba_22=>some (v_9a_20,(v_9ba_21,(v_9bba_22,q_16))))
def z13d:Head:=⟨[(2,V0),(3,(.val (.fn 189 .un))),(8,(.bp 8 [] 0)),(9,(.bp 9 [] 0)),(16,V0),(17,V0)],[(P0,2,U0,false),(P1,2,U0,false)],[(8,138,(.st (.pr V0 (.pr V0 (.pr V0 (.ref P0 [])))))),(9,138,(.st (.pr V0 (.pr V0 (.pr V0 (.ref P1 []))))))]⟩
def z13e:Head:=⟨[(2,V0),(3,(.val (.fn 189 .un))),(8,(.bp 8 [] 0)),(9,(.bp 9 [] 0)),(10,V0),(16,V0),(17,V0),(20,V0),(21,V0)],[(P0,2,U0,false),(P1,2,U0,false)],[(8,138,(.st (.pr V0 (.pr V0 (.pr V0 (.ref P0 [])))))),(9,138,(.st (.pr V0 (.pr V0 (.pr V0 (.ref P1 []))))))]⟩
def z13f (k:Nat) (n:Nat) (x:z13e.T) (kx:Nat→St→Option zT0):Option zT0:=zcf k n x.1.1 x.1.2.1 x.1.2.2.2.2.1 x.1.2.2.2.2.2.1 x.1.2.2.2.2.2.2.1 x.1.2.2.2.2.2.2.2.1 x.1.2.2.2.2.2.2.2.2.1 x.2.1.1 x.2.1.2.1 x.2.2.1.1 x.2.2.1.2.1 x.2.2.1.2.2.1 x.2.2.2.1.1 x.2.2.2.1.2.1 x.2.2.2.1.2.2.1 (fun columns2 cell3 x16 x17 q_6 q_7 v_8a v_8ba v_8bba v_9a v_9ba v_9bba=>kx 2 (z13d.fill ((columns2,cell3,(),(),x16,x17,()),(q_6,q_7,()),((v_8a,(v_8ba,(v_8bba,()))),(v_9a,(v_9ba,(v_9bba,()))),()))))
def znm (k:Nat):LD zT0:=⟨6,z13e,[(2,z13d)],z13f k,k⟩
def z13g:Head:=⟨[(8,(.bp 8 [] 0)),(9,(.bp 9 [] 0))],[(P0,2,U0,false),(P1,2,U0,false)],[(8,138,(.st (.pr V0 (.pr V0 (.pr V0 (.ref P0 [])))))),(9,138,(.st (.pr V0 (.pr V0 (.pr V0 (.ref P1 []))))))]⟩
def z13h:Head:=⟨[(2,V0),(3,(.val (.fn 189 .un))),(8,(.bp 8 [] 0)),(9,(.bp 9 [] 0)),(16,V0),(17,V0)],[(P0,2,U0,false),(P1,2,U0,false)],[(8,138,(.st (.pr V0 (.pr V0 (.pr V0 (.ref P0 [])))))),(9,138,(.st (.pr V0 (.pr V0 (.pr V0 (.ref P1 []))))))]⟩
def z13i (k:Nat) (n:Nat) (x:z13h.T) (kx:Nat→St→Option zT0):Option zT0:=zfv k n x.1.1 x.1.2.1 x.1.2.2.2.2.1 x.1.2.2.2.2.2.1 x.2.1.1 x.2.1.2.1 x.2.2.1.1 x.2.2.1.2.1 x.2.2.1.2.2.1 x.2.2.2.1.1 x.2.2.2.1.2.1 x.2.2.2.1.2.2.1 (fun q_18 q_19 v_8a v_8ba v_8bba v_9a v_9ba v_9bba=>kx 0 (z13g.fill (((),(),()),(q_18,q_19,()),((v_8a,(v_8ba,(v_8bba,()))),(v_9a,(v_9ba,(v_9bba,()))),()))))
def znn (k:Nat):LD zT0:=⟨3,z13h,[(0,z13g)],z13i k,k⟩
def z1kq (k:Nat):FE:=⟨(.pr U0 (.pr U0 (.pr U0 (.fn 189 .un)))),1,U1,fun x=>zs8 k x.1 x.2.1 x.2.2.1 x.2.2.2⟩
theorem z1kr (k:Nat):z8 Tryz.prog 144 (z1kq k):=okC zb (xTc z1kp xTn) xOn Tryz.f144 (orc (znm k) (orc (znn k) (LOn _))) (xLp (znn k) (by rintro n ⟨⟨columns2,cell3,⟨⟩,⟨⟩,x16,x17,⟨⟩⟩,⟨q_1,q_2,⟨⟩⟩,⟨⟨v_8a,⟨v_8ba,⟨v_8bba,⟨⟩⟩⟩⟩,⟨v_9a,⟨v_9ba,⟨v_9bba,⟨⟩⟩⟩⟩,⟨⟩⟩⟩ kx _ h; dsimp only [znn,z13i] at h; subst h; dsimp only [znn]; kernel_rfl) (xLp (znm k) (by rintro n ⟨⟨columns2,cell3,⟨⟩,⟨⟩,i10,x16,x17,x20,x21,⟨⟩⟩,⟨q_3,q_4,⟨⟩⟩,⟨⟨v_8a,⟨v_8ba,⟨v_8bba,⟨⟩⟩⟩⟩,⟨v_9a,⟨v_9ba,⟨v_9bba,⟨⟩⟩⟩⟩,⟨⟩⟩⟩ kx _ h; dsimp only [znm,z13f] at h; subst h; dsimp only [znm]; kernel_rfl) xLn)) (by rintro ⟨p0,rows1,columns2,cell3⟩; kernel_rfl)
def zno (k:Nat) (p0:Int) (rows1:Int) (columns2:Int):Option zT0:=(zs8 k p0 rows1 columns2 ()).bind fun r_1=>some (r_1.1,(r_1.2.1,(r_1.2.2.1,r_1.2.2.2)))
def z1ks (k:Nat):FE:=⟨U32,1,U1,fun x=>zno k x.1 x.2.1 x.2.2⟩
theorem z1kt (k:Nat):z8 Tryz.prog 156 (z1ks k):=okC zb (xTc (z1kr k) xTn) xOn Tryz.f156 (LOn _) xLn (by rintro ⟨p0,rows1,columns2⟩; kernel_rfl)
def zfw (k:Nat):Nat→Int→Int→Int→Int→zT1→zT3→(Int→Option Int)→Option Int
 | 0,_,_,_,_,_,_,_=>none
 | n+1,simplex1,n5,x19,x20,q_4,v_2,e_0=>(if (decide (x20<x19)) then (if 0≤x20∧x20.toNat<List.length q_4 then (q_4[x20.toNat]?).bind fun y_5=>(if (decide (y_5=simplex1)) then e_0 n5 else (if 0≤y_5 then (v_2.2.2.1[y_5.toNat]?).bind fun y_6=>zfw k n simplex1 (z6 (n5+y_6)) x19 (z6 (x20+1)) q_4 v_2 e_0 else none)) else none) else e_0 n5)
def zi8 (k:Nat) (s0:List zT1×Int×List Int×List zT0) (simplex1:Int):Option Int:=(if 0≤simplex1 then (s0.1[simplex1.toNat]?).bind fun y_1=>(z7m y_1).bind fun r_2=>(zfh k s0.1 (z6 (r_2-1))).bind fun r_3=>zfw k k simplex1 0 (List.length r_3:Int) 0 r_3 s0 (fun n_7=>some n_7) else none)
def z13j:Head:=⟨[(5,V0)],[],[]⟩
def z13k (k:Nat):LD Int:=⟨3,⟨[(1,V0),(2,(.bp 2 [] 0)),(5,V0),(18,(.ref P0 [])),(19,V0),(20,V0)],[(P0,2,U0,false)],[(2,44,V5)]⟩,[(0,z13j)],fun n x kx=>zfw k n x.1.1 x.1.2.2.1 x.1.2.2.2.2.1 x.1.2.2.2.2.2.1 x.2.1.1 x.2.2.1 (fun n5=>kx 0 (z13j.fill ((n5,()),(),()))),k⟩
def z1ku (k:Nat):FE:=⟨(.pr U2 U0),1,U0,fun x=>zi8 k x.1 x.2⟩
theorem z1kv (k:Nat):z8 Tryz.prog 157 (z1ku k):=okC zb (xTc zi1 (xTc (zrm k) xTn)) xOn Tryz.f157 (orc (z13k k) (LOn _)) (xLo (z13k k) (by rintro n ⟨⟨simplex1,⟨⟩,n5,⟨⟩,x19,x20,⟨⟩⟩,⟨q_4,⟨⟩⟩,⟨v_2,⟨⟩⟩⟩ kx; kernel_rfl) xLn) (by rintro ⟨s0,simplex1⟩; kernel_rfl)
def znp (k0:Int) (p1:Int):Option Int:=(if (decide ((Int.tmod k0 2)=0)) then some 1 else some (z6 (p1-1)))
def z1kw:FE:=⟨U20,1,U0,fun x=>znp x.1 x.2⟩
theorem z1kx:z8 Tryz.prog 159 (z1kw):=okC zb xTn xOn Tryz.f159 (LOn _) xLn (by rintro ⟨k0,p1⟩; kernel_rfl)
def zcg (k:Nat):Nat→Int→Int→Int→Int→Int→Int→Int→Int→Int→Int→Int→Int→Int→Int→zT1→zT1→zT1→zT1→zT3→Int→Int→Int→Int→Int→Int→zT0→(Int→Int→Int→Int→Int→Int→Int→Int→Int→Int→Int→zT1→zT1→zT1→zT1→zT3→Int→Int→Int→Int→Int→Int→zT0→Option zT0)→Option zT0
 | 0,_,_,_,_,_,_,_,_,_,_,_,_,_,_,_,_,_,_,_,_,_,_,_,_,_,_,_=>none
 | n+1,k1,simplex7,place8,top11,left12,i13,x30,x31,x41,x42,x58,x59,x63,x64,q_24,q_25,q_26,q_27,v_2,v_4a,v_4ba,v_4bba,v_5a,v_5ba,v_5bba,v_10,e_6=>(if (decide (x64<x63)) then (zi4 v_10 i13 x64).bind fun r_28=>(znp place8 v_2.2.1).bind fun r_29=>(if v_2.2.1=0 then none else (if 0≤(z6 ((z6 ((z6 ((z6 (top11+i13))*v_5bba))+left12))+x64))∧(z6 ((z6 ((z6 ((z6 (top11+i13))*v_5bba))+left12))+x64)).toNat<List.length q_27 then (q_27[(z6 ((z6 ((z6 ((z6 (top11+i13))*v_5bba))+left12))+x64)).toNat]?).bind fun y_30=>(q_27[(z6 ((z6 ((z6 ((z6 (top11+i13))*v_5bba))+left12))+x64)).toNat]?).bind fun y_31=>zcg k n k1 simplex7 place8 top11 left12 i13 x30 x31 x41 x42 x58 x59 x63 (z6 (x64+1)) q_24 q_25 q_26 (q_27.set ((z6 ((z6 ((z6 ((z6 (top11+i13))*v_5bba))+left12))+x64)).toNat) (Int.tmod (z6 (r_28*r_29)) v_2.2.1)) v_2 v_4a v_4ba v_4bba v_5a v_5ba v_5bba v_10 e_6 else none)) else e_6 k1 simplex7 place8 top11 left12 x30 x31 x41 x42 x58 x59 q_24 q_25 q_26 q_27 v_2 v_4a v_4ba v_4bba v_5a v_5ba v_5bba v_10)
def zch (k:Nat):Nat→Int→Int→Int→Int→Int→Int→Int→Int→Int→Int→Int→zT1→zT1→zT1→zT1→zT3→Int→Int→Int→Int→Int→Int→zT0→(Int→Int→Int→Int→Int→Int→zT1→zT1→zT1→zT1→zT3→Int→Int→Int→Int→Int→Int→Option zT0)→Option zT0
 | 0,_,_,_,_,_,_,_,_,_,_,_,_,_,_,_,_,_,_,_,_,_,_,_,_=>none
 | n+1,k1,simplex7,place8,top11,left12,x30,x31,x41,x42,x58,x59,q_20,q_21,q_22,q_23,v_2,v_4a,v_4ba,v_4bba,v_5a,v_5ba,v_5bba,v_10,e_4=>(if (decide (x59<x58)) then zcg k k k1 simplex7 place8 top11 left12 x59 x30 x31 x41 x42 x58 x59 v_10.2.2.1 0 q_20 q_21 q_22 q_23 v_2 v_4a v_4ba v_4bba v_5a v_5ba v_5bba v_10 (fun k_24 simplex_25 place_26 top_27 left_28 x_29 x_30 x_31 x_32 x_33 x_34 q_35 q_36 q_37 q_38 v_39 v_4a_40 v_4ba_41 v_4bba_42 v_5a_43 v_5ba_44 v_5bba_45 v_46=>zch k n k_24 simplex_25 place_26 top_27 left_28 x_29 x_30 x_31 x_32 x_33 (z6 (x_34+1)) q_35 q_36 q_37 q_38 v_39 v_4a_40 v_4ba_41 v_4bba_42 v_5a_43 v_5ba_44 v_5bba_45 v_46 e_4) else e_4 k1 simplex7 x30 x31 x41 x42 q_20 q_21 q_22 q_23 v_2 v_4a v_4ba v_4bba v_5a v_5ba v_5bba)
def zci (k:Nat):Nat→Int→Int→Int→Int→Int→Int→zT1→zT1→zT1→zT1→zT3→Int→Int→Int→Int→Int→Int→(Int→Int→Int→zT1→zT1→zT1→zT3→Int→Int→Int→Int→Int→Int→Option zT0)→Option zT0
 | 0,_,_,_,_,_,_,_,_,_,_,_,_,_,_,_,_,_,_=>none
 | n+1,k1,simplex7,x30,x31,x41,x42,q_12,q_13,q_14,q_15,v_2,v_4a,v_4ba,v_4bba,v_5a,v_5ba,v_5bba,e_2=>(if (decide (x42<x41)) then (if 0≤x42∧x42.toNat<List.length q_13 then (q_13[x42.toNat]?).bind fun y_16=>(z7n k v_2 simplex7 x42).bind fun r_17=>(zi8 k v_2 simplex7).bind fun r_18=>(zi8 k v_2 y_16).bind fun r_19=>zch k k k1 simplex7 x42 r_18 r_19 x30 x31 x41 x42 r_17.2.1 0 q_12 q_13 q_14 q_15 v_2 v_4a v_4ba v_4bba v_5a v_5ba v_5bba r_17 (fun k_20 simplex_21 x_22 x_23 x_24 x_25 q_26 q_27 q_28 q_29 v_30 v_4a_31 v_4ba_32 v_4bba_33 v_5a_34 v_5ba_35 v_5bba_36=>zci k n k_20 simplex_21 x_22 x_23 x_24 (z6 (x_25+1)) q_26 q_27 q_28 q_29 v_30 v_4a_31 v_4ba_32 v_4bba_33 v_5a_34 v_5ba_35 v_5bba_36 e_2) else none) else e_2 k1 x30 x31 q_12 q_14 q_15 v_2 v_4a v_4ba v_4bba v_5a v_5ba v_5bba)
def zcj (k:Nat):Nat→Int→Int→Int→zT1→zT1→zT1→zT3→Int→Int→Int→Int→Int→Int→(zT1→zT1→Int→Int→Int→Int→Int→Int→Option zT0)→Option zT0
 | 0,_,_,_,_,_,_,_,_,_,_,_,_,_,_=>none
 | n+1,k1,x30,x31,q_5,q_6,q_7,v_2,v_4a,v_4ba,v_4bba,v_5a,v_5ba,v_5bba,e_0=>(if (decide (x31<x30)) then (if 0≤x31∧x31.toNat<List.length q_5 then (q_5[x31.toNat]?).bind fun y_8=>(if (decide (k1<0)) then e_0 q_6 q_7 v_4a v_4ba v_4bba v_5a v_5ba v_5bba else (z8v k v_2.1 y_8).bind fun r_9=>zci k k k1 y_8 x30 x31 (List.length r_9:Int) 0 q_5 r_9 q_6 q_7 v_2 v_4a v_4ba v_4bba v_5a v_5ba v_5bba (fun k_10 x_11 x_12 q_13 q_14 q_15 v_16 v_4a_17 v_4ba_18 v_4bba_19 v_5a_20 v_5ba_21 v_5bba_22=>zcj k n k_10 x_11 (z6 (x_12+1)) q_13 q_14 q_15 v_16 v_4a_17 v_4ba_18 v_4bba_19 v_5a_20 v_5ba_21 v_5bba_22 e_0)) else none) else e_0 q_6 q_7 v_4a v_4ba v_4bba v_5a v_5ba v_5bba)
def zck (k:Nat) (s0:List zT1×Int×List Int×List zT0) (k1:Int):Option zT0:=(za6 k s0 (z6 (k1+1))).bind fun r_1=>(za6 k s0 k1).bind fun r_2=>(zno k s0.2.1 r_1 r_2).bind fun r_3=>(zfh k s0.1 (z6 (k1+1))).bind fun r_4=>zcj k k k1 (List.length r_4:Int) 0 r_4 [] r_3.2.2.2 s0 0 0 0 r_3.1 r_3.2.1 r_3.2.2.1 (fun q_23 q_24 v_4a_25 v_4ba_26 v_4bba_27 v_5a_28 v_5ba_29 v_5bba_30=>some (v_5a_28,(v_5ba_29,(v_5bba_30,q_24))))
def z13l:Head:=⟨[(1,V0),(2,(.bp 2 [] 0)),(4,(.bp 4 [] 0)),(5,(.bp 5 [] 0)),(7,V0),(8,V0),(10,(.bp 10 [] 0)),(11,V0),(12,V0),(29,(.ref P0 [])),(30,V0),(31,V0),(40,(.ref P1 [])),(41,V0),(42,V0),(58,V0),(59,V0)],[(P0,2,U0,false),(P1,2,U0,false),(P2,2,U0,false),(P3,2,U0,false)],[(2,44,V5),(4,138,(.st (.pr V0 (.pr V0 (.pr V0 (.ref P2 [])))))),(5,138,(.st (.pr V0 (.pr V0 (.pr V0 (.ref P3 [])))))),(10,138,V7)]⟩
def z13m:Head:=⟨[(1,V0),(2,(.bp 2 [] 0)),(4,(.bp 4 [] 0)),(5,(.bp 5 [] 0)),(7,V0),(8,V0),(10,(.bp 10 [] 0)),(11,V0),(12,V0),(13,V0),(29,(.ref P0 [])),(30,V0),(31,V0),(40,(.ref P1 [])),(41,V0),(42,V0),(58,V0),(59,V0),(63,V0),(64,V0)],[(P0,2,U0,false),(P1,2,U0,false),(P2,2,U0,false),(P3,2,U0,false)],[(2,44,V5),(4,138,(.st (.pr V0 (.pr V0 (.pr V0 (.ref P2 [])))))),(5,138,(.st (.pr V0 (.pr V0 (.pr V0 (.ref P3 [])))))),(10,138,V7)]⟩
def z13n (k:Nat) (n:Nat) (x:z13m.T) (kx:Nat→St→Option zT0):Option zT0:=zcg k n x.1.1 x.1.2.2.2.2.1 x.1.2.2.2.2.2.1 x.1.2.2.2.2.2.2.2.1 x.1.2.2.2.2.2.2.2.2.1 x.1.2.2.2.2.2.2.2.2.2.1 x.1.2.2.2.2.2.2.2.2.2.2.2.1 x.1.2.2.2.2.2.2.2.2.2.2.2.2.1 x.1.2.2.2.2.2.2.2.2.2.2.2.2.2.2.1 x.1.2.2.2.2.2.2.2.2.2.2.2.2.2.2.2.1 x.1.2.2.2.2.2.2.2.2.2.2.2.2.2.2.2.2.1 x.1.2.2.2.2.2.2.2.2.2.2.2.2.2.2.2.2.2.1 x.1.2.2.2.2.2.2.2.2.2.2.2.2.2.2.2.2.2.2.1 x.1.2.2.2.2.2.2.2.2.2.2.2.2.2.2.2.2.2.2.2.1 x.2.1.1 x.2.1.2.1 x.2.1.2.2.1 x.2.1.2.2.2.1 x.2.2.1 x.2.2.2.1.1 x.2.2.2.1.2.1 x.2.2.2.1.2.2.1 x.2.2.2.2.1.1 x.2.2.2.2.1.2.1 x.2.2.2.2.1.2.2.1 x.2.2.2.2.2.1 (fun k1 simplex7 place8 top11 left12 x30 x31 x41 x42 x58 x59 q_32 q_33 q_34 q_35 v_2 v_4a v_4ba v_4bba v_5a v_5ba v_5bba v_10=>kx 6 (z13l.fill ((k1,(),(),(),simplex7,place8,(),top11,left12,(),x30,x31,(),x41,x42,x58,x59,()),(q_32,q_33,q_34,q_35,()),(v_2,(v_4a,(v_4ba,(v_4bba,()))),(v_5a,(v_5ba,(v_5bba,()))),v_10,()))))
def znq (k:Nat):LD zT0:=⟨15,z13m,[(6,z13l)],z13n k,k⟩
def z13o:Head:=⟨[(1,V0),(2,(.bp 2 [] 0)),(4,(.bp 4 [] 0)),(5,(.bp 5 [] 0)),(7,V0),(29,(.ref P0 [])),(30,V0),(31,V0),(40,(.ref P1 [])),(41,V0),(42,V0)],[(P0,2,U0,false),(P1,2,U0,false),(P2,2,U0,false),(P3,2,U0,false)],[(2,44,V5),(4,138,(.st (.pr V0 (.pr V0 (.pr V0 (.ref P2 [])))))),(5,138,(.st (.pr V0 (.pr V0 (.pr V0 (.ref P3 []))))))]⟩
def z13p:Head:=⟨[(1,V0),(2,(.bp 2 [] 0)),(4,(.bp 4 [] 0)),(5,(.bp 5 [] 0)),(7,V0),(8,V0),(10,(.bp 10 [] 0)),(11,V0),(12,V0),(29,(.ref P0 [])),(30,V0),(31,V0),(40,(.ref P1 [])),(41,V0),(42,V0),(58,V0),(59,V0)],[(P0,2,U0,false),(P1,2,U0,false),(P2,2,U0,false),(P3,2,U0,false)],[(2,44,V5),(4,138,(.st (.pr V0 (.pr V0 (.pr V0 (.ref P2 [])))))),(5,138,(.st (.pr V0 (.pr V0 (.pr V0 (.ref P3 [])))))),(10,138,V7)]⟩
def z13q (k:Nat) (n:Nat) (x:z13p.T) (kx:Nat→St→Option zT0):Option zT0:=zch k n x.1.1 x.1.2.2.2.2.1 x.1.2.2.2.2.2.1 x.1.2.2.2.2.2.2.2.1 x.1.2.2.2.2.2.2.2.2.1 x.1.2.2.2.2.2.2.2.2.2.2.1 x.1.2.2.2.2.2.2.2.2.2.2.2.1 x.1.2.2.2.2.2.2.2.2.2.2.2.2.2.1 x.1.2.2.2.2.2.2.2.2.2.2.2.2.2.2.1 x.1.2.2.2.2.2.2.2.2.2.2.2.2.2.2.2.1 x.1.2.2.2.2.2.2.2.2.2.2.2.2.2.2.2.2.1 x.2.1.1 x.2.1.2.1 x.2.1.2.2.1 x.2.1.2.2.2.1 x.2.2.1 x.2.2.2.1.1 x.2.2.2.1.2.1 x.2.2.2.1.2.2.1 x.2.2.2.2.1.1 x.2.2.2.2.1.2.1 x.2.2.2.2.1.2.2.1 x.2.2.2.2.2.1 (fun k1 simplex7 x30 x31 x41 x42 q_55 q_56 q_57 q_58 v_2 v_4a v_4ba v_4bba v_5a v_5ba v_5bba=>kx 4 (z13o.fill ((k1,(),(),(),simplex7,(),x30,x31,(),x41,x42,()),(q_55,q_56,q_57,q_58,()),(v_2,(v_4a,(v_4ba,(v_4bba,()))),(v_5a,(v_5ba,(v_5bba,()))),()))))
def znr (k:Nat):LD zT0:=⟨12,z13p,[(4,z13o)],z13q k,k⟩
def z13r:Head:=⟨[(1,V0),(2,(.bp 2 [] 0)),(4,(.bp 4 [] 0)),(5,(.bp 5 [] 0)),(29,(.ref P0 [])),(30,V0),(31,V0)],[(P0,2,U0,false),(P1,2,U0,false),(P2,2,U0,false)],[(2,44,V5),(4,138,(.st (.pr V0 (.pr V0 (.pr V0 (.ref P1 [])))))),(5,138,(.st (.pr V0 (.pr V0 (.pr V0 (.ref P2 []))))))]⟩
def z13s:Head:=⟨[(1,V0),(2,(.bp 2 [] 0)),(4,(.bp 4 [] 0)),(5,(.bp 5 [] 0)),(7,V0),(29,(.ref P0 [])),(30,V0),(31,V0),(40,(.ref P1 [])),(41,V0),(42,V0)],[(P0,2,U0,false),(P1,2,U0,false),(P2,2,U0,false),(P3,2,U0,false)],[(2,44,V5),(4,138,(.st (.pr V0 (.pr V0 (.pr V0 (.ref P2 [])))))),(5,138,(.st (.pr V0 (.pr V0 (.pr V0 (.ref P3 []))))))]⟩
def z13t (k:Nat) (n:Nat) (x:z13s.T) (kx:Nat→St→Option zT0):Option zT0:=zci k n x.1.1 x.1.2.2.2.2.1 x.1.2.2.2.2.2.2.1 x.1.2.2.2.2.2.2.2.1 x.1.2.2.2.2.2.2.2.2.2.1 x.1.2.2.2.2.2.2.2.2.2.2.1 x.2.1.1 x.2.1.2.1 x.2.1.2.2.1 x.2.1.2.2.2.1 x.2.2.1 x.2.2.2.1.1 x.2.2.2.1.2.1 x.2.2.2.1.2.2.1 x.2.2.2.2.1.1 x.2.2.2.2.1.2.1 x.2.2.2.2.1.2.2.1 (fun k1 x30 x31 q_64 q_65 q_66 v_2 v_4a v_4ba v_4bba v_5a v_5ba v_5bba=>kx 2 (z13r.fill ((k1,(),(),(),(),x30,x31,()),(q_64,q_65,q_66,()),(v_2,(v_4a,(v_4ba,(v_4bba,()))),(v_5a,(v_5ba,(v_5bba,()))),()))))
def zns (k:Nat):LD zT0:=⟨7,z13s,[(2,z13r)],z13t k,k⟩
def z13u:Head:=⟨[(4,(.bp 4 [] 0)),(5,(.bp 5 [] 0))],[(P0,2,U0,false),(P1,2,U0,false)],[(4,138,(.st (.pr V0 (.pr V0 (.pr V0 (.ref P0 [])))))),(5,138,(.st (.pr V0 (.pr V0 (.pr V0 (.ref P1 []))))))]⟩
def z13v:Head:=⟨[(1,V0),(2,(.bp 2 [] 0)),(4,(.bp 4 [] 0)),(5,(.bp 5 [] 0)),(29,(.ref P0 [])),(30,V0),(31,V0)],[(P0,2,U0,false),(P1,2,U0,false),(P2,2,U0,false)],[(2,44,V5),(4,138,(.st (.pr V0 (.pr V0 (.pr V0 (.ref P1 [])))))),(5,138,(.st (.pr V0 (.pr V0 (.pr V0 (.ref P2 []))))))]⟩
def z13w (k:Nat) (n:Nat) (x:z13v.T) (kx:Nat→St→Option zT0):Option zT0:=zcj k n x.1.1 x.1.2.2.2.2.2.1 x.1.2.2.2.2.2.2.1 x.2.1.1 x.2.1.2.1 x.2.1.2.2.1 x.2.2.1 x.2.2.2.1.1 x.2.2.2.1.2.1 x.2.2.2.1.2.2.1 x.2.2.2.2.1.1 x.2.2.2.2.1.2.1 x.2.2.2.2.1.2.2.1 (fun q_9 q_10 v_4a v_4ba v_4bba v_5a v_5ba v_5bba=>kx 0 (z13u.fill (((),(),()),(q_9,q_10,()),((v_4a,(v_4ba,(v_4bba,()))),(v_5a,(v_5ba,(v_5bba,()))),()))))
def znt (k:Nat):LD zT0:=⟨3,z13v,[(0,z13u)],z13w k,k⟩
def z1ky (k:Nat):FE:=⟨(.pr U2 U0),1,U1,fun x=>zck k x.1 x.2⟩
theorem z13x (k:Nat):z8 Tryz.prog 103 (z1ky k):=okC zb (xTc (zrn k) (xTc (z1kt k) (xTc (zrm k) (xTc (zrp k) (xTc (z12e k) (xTc (z1kv k) (xTc z12f (xTc z1kx xTn)))))))) xOn Tryz.f103 (orc (znq k) (orc (znr k) (orc (zns k) (orc (znt k) (LOn _))))) (xLp (znt k) (by rintro n ⟨⟨k1,⟨⟩,⟨⟩,⟨⟩,⟨⟩,x30,x31,⟨⟩⟩,⟨q_5,q_6,q_7,⟨⟩⟩,⟨v_2,⟨v_4a,⟨v_4ba,⟨v_4bba,⟨⟩⟩⟩⟩,⟨v_5a,⟨v_5ba,⟨v_5bba,⟨⟩⟩⟩⟩,⟨⟩⟩⟩ kx _ h; dsimp only [znt,z13w] at h; subst h; dsimp only [znt]; kernel_rfl) (xLp (zns k) (by rintro n ⟨⟨k1,⟨⟩,⟨⟩,⟨⟩,simplex7,⟨⟩,x30,x31,⟨⟩,x41,x42,⟨⟩⟩,⟨q_12,q_13,q_14,q_15,⟨⟩⟩,⟨v_2,⟨v_4a,⟨v_4ba,⟨v_4bba,⟨⟩⟩⟩⟩,⟨v_5a,⟨v_5ba,⟨v_5bba,⟨⟩⟩⟩⟩,⟨⟩⟩⟩ kx _ h; dsimp only [zns,z13t] at h; subst h; dsimp only [zns]; kernel_rfl) (xLp (znr k) (by rintro n ⟨⟨k1,⟨⟩,⟨⟩,⟨⟩,simplex7,place8,⟨⟩,top11,left12,⟨⟩,x30,x31,⟨⟩,x41,x42,x58,x59,⟨⟩⟩,⟨q_20,q_21,q_22,q_23,⟨⟩⟩,⟨v_2,⟨v_4a,⟨v_4ba,⟨v_4bba,⟨⟩⟩⟩⟩,⟨v_5a,⟨v_5ba,⟨v_5bba,⟨⟩⟩⟩⟩,v_10,⟨⟩⟩⟩ kx _ h; dsimp only [znr,z13q] at h; subst h; dsimp only [znr]; kernel_rfl) (xLp (znq k) (by rintro n ⟨⟨k1,⟨⟩,⟨⟩,⟨⟩,simplex7,place8,⟨⟩,top11,left12,i13,⟨⟩,x30,x31,⟨⟩,x41,x42,x58,x59,x63,x64,⟨⟩⟩,⟨q_24,q_25,q_26,q_27,⟨⟩⟩,⟨v_2,⟨v_4a,⟨v_4ba,⟨v_4bba,⟨⟩⟩⟩⟩,⟨v_5a,⟨v_5ba,⟨v_5bba,⟨⟩⟩⟩⟩,v_10,⟨⟩⟩⟩ kx _ h; dsimp only [znq,z13n] at h; subst h; dsimp only [znq]; kernel_rfl) xLn)))) (by rintro ⟨s0,k1⟩; kernel_rfl)
def zfx (k:Nat):Nat→zT1→Int→Int→zT1→zT0→(zT1→Option zT1)→Option zT1
 | 0,_,_,_,_,_,_=>none
 | n+1,v1,x8,x9,q_1,v_2,e_0=>(if (decide (x9<x8)) then (z7o v_2 x9).bind fun r_2=>(zi6 k r_2 v1 v_2.1).bind fun r_3=>(if (q_1.length+[r_3].length)*8≤LIM then zfx k n v1 x8 (z6 (x9+1)) (q_1++[r_3]) v_2 e_0 else none) else e_0 q_1)
def znu (k:Nat) (m0:Int×Int×Int×List Int) (v1:List Int):Option zT1:=zfx k k v1 m0.2.1 0 [] m0 (fun q_4=>some q_4)
def z13y:Head:=⟨[(5,(.ref P0 []))],[(P0,2,U0,false)],[]⟩
def z13z (k:Nat):LD zT1:=⟨3,⟨[(1,V1),(2,(.bp 2 [] 0)),(5,(.ref P0 [])),(8,V0),(9,V0)],[(P0,2,U0,false)],[(2,138,V7)]⟩,[(0,z13y)],fun n x kx=>zfx k n x.1.1 x.1.2.2.2.1 x.1.2.2.2.2.1 x.2.1.1 x.2.2.1 (fun q_4=>kx 0 (z13y.fill (((),()),(q_4,()),()))),k⟩
def z1kz (k:Nat):FE:=⟨(.pr U1 U5),1,U5,fun x=>znu k x.1 x.2⟩
theorem z1l0 (k:Nat):z8 Tryz.prog 102 (z1kz k):=okC zb (xTc zrz (xTc (z12r k) xTn)) xOn Tryz.f102 (orc (z13z k) (LOn _)) (xLo (z13z k) (by rintro n ⟨⟨v1,⟨⟩,⟨⟩,x8,x9,⟨⟩⟩,⟨q_1,⟨⟩⟩,⟨v_2,⟨⟩⟩⟩ kx; kernel_rfl) xLn) (by rintro ⟨m0,v1⟩; kernel_rfl)
def zs9 (x0:Int):Option Bool:=some (!(decide (x0=0)))
def z1l1:FE:=⟨U0,1,.bool,fun x=>zs9 x⟩
theorem z1l2:z8 Tryz.prog 155 (z1l1):=okC zb xTn xOn Tryz.f155 (LOn _) xLn (by rintro x0; kernel_rfl)
def zfy (k:Nat):Nat→zT1→Unit→Int→Int→(Option Int)→Option Int
 | 0,_,_,_,_,_=>none
 | n+1,s0,f1,x7,x8,e_0=>(if (decide (x8<x7)) then (if 0≤x8 then (s0[x8.toNat]?).bind fun y_1=>(zs9 y_1).bind fun r_2=>(if r_2 then some x8 else zfy k n s0 f1 x7 (z6 (x8+1)) e_0) else none) else e_0)
def zsa (k:Nat) (s0:List Int) (f1:Unit):Option Int:=zfy k k s0 f1 (List.length s0:Int) 0 (some (-1))
def z140:Head:=⟨[],[],[]⟩
def z141 (k:Nat):LD Int:=⟨2,⟨[(0,V1),(1,(.val (.fn 155 .un))),(7,V0),(8,V0)],[],[]⟩,[(0,z140)],fun n x kx=>zfy k n x.1.1 x.1.2.1 x.1.2.2.1 x.1.2.2.2.1 (kx 0 (z140.fill ((),(),()))),k⟩
def z1l3 (k:Nat):FE:=⟨(.pr U5 (.fn 155 .un)),1,U0,fun x=>zsa k x.1 x.2⟩
theorem z1l4 (k:Nat):z8 Tryz.prog 150 (z1l3 k):=okC zb (xTc z1l2 xTn) xOn Tryz.f150 (orc (z141 k) (LOn _)) (xLo (z141 k) (by rintro n ⟨⟨s0,f1,x7,x8,⟨⟩⟩,⟨⟩,⟨⟩⟩ kx; kernel_rfl) xLn) (by rintro ⟨s0,f1⟩; kernel_rfl)
def zsb (k:Nat) (s0:List Int) (f1:Unit):Option Bool:=(zsa k s0 f1).bind fun r_1=>some (decide (0≤r_1))
def z1l5 (k:Nat):FE:=⟨(.pr U5 (.fn 155 .un)),1,.bool,fun x=>zsb k x.1 x.2⟩
theorem z1l6 (k:Nat):z8 Tryz.prog 96 (z1l5 k):=okC zb (xTc (z1l4 k) xTn) xOn Tryz.f96 (LOn _) xLn (by rintro ⟨s0,f1⟩; kernel_rfl)
def znv (k:Nat) (list0:List Int):Option Bool:=(zsb k list0 ()).bind fun r_1=>some (!r_1)
def z1l7 (k:Nat):FE:=⟨U5,1,.bool,fun x=>znv k x⟩
theorem z1l8 (k:Nat):z8 Tryz.prog 101 (z1l7 k):=okC zb (xTc (z1l6 k) xTn) xOn Tryz.f101 (LOn _) xLn (by rintro list0; kernel_rfl)
def znw (k:Nat) (s0:List zT1×Int×List Int×List zT0) (k1:Int) (x2:List Int):Option Bool:=(zck k s0 k1).bind fun r_1=>(znu k (r_1.1,(r_1.2.1,(r_1.2.2.1,r_1.2.2.2))) x2).bind fun r_2=>(znv k r_2).bind fun r_3=>some r_3
def z1l9 (k:Nat):FE:=⟨(.pr U2 (.pr U0 U5)),1,.bool,fun x=>znw k x.1 x.2.1 x.2.2⟩
theorem z1la (k:Nat):z8 Tryz.prog 50 (z1l9 k):=okC zb (xTc (z13x k) (xTc (z1l0 k) (xTc (z1l8 k) xTn))) xOn Tryz.f50 (LOn _) xLn (by rintro ⟨s0,k1,x2⟩; kernel_rfl)
def zsc (row0:List Int) (x1:Int):Option Bool:=(if 0≤x1 then (row0[x1.toNat]?).bind fun y_1=>some (!(decide (y_1=0))) else none)
def z1lb:FE:=⟨(.pr U5 (.ptr U0)),1,.bool,fun x=>zsc x.1 x.2⟩
theorem z1lc:z8 Tryz.prog 192 (z1lb):=okC zb xTn xOn Tryz.f192 (LOn _) xLn (by rintro ⟨row0,x1⟩; kernel_rfl)
end
end Go.Proofs.YtchfjdcfhlhgcaaGreatDoor.Ev
