/- Functions of the program, as plain ones. No conditions. -/
import Derived.Test.YtchfjdcfhlhgcaaGreatDoorG8
import Derived.KernelRfl
set_option linter.unusedVariables false
set_option maxRecDepth 100000
namespace Go.Proofs.YtchfjdcfhlhgcaaGreatDoor.Ev
open Go.RowKit
noncomputable section
def zfz (k:Nat):Nat→zT8→Int→Int→Int→(Option Int)→Option Int
 | 0,_,_,_,_,_=>none
 | n+1,s0,f1,x7,x8,e_0=>(if (decide (x8<x7)) then (if 0≤x8 then (s0[x8.toNat]?).bind fun y_1=>(zsc y_1 f1).bind fun r_2=>(if r_2 then some x8 else zfz k n s0 f1 x7 (z6 (x8+1)) e_0) else none) else e_0)
def znx (k:Nat) (s0:List zT1) (f1:Int):Option Int:=zfz k k s0 f1 (List.length s0:Int) 0 (some (-1))
def z142:Head:=⟨[],[],[]⟩
def z143 (k:Nat):LD Int:=⟨2,⟨[(0,V3),(1,(.val (.fn 192 (.ptr U0)))),(7,V0),(8,V0)],[],[]⟩,[(0,z142)],fun n x kx=>zfz k n x.1.1 x.1.2.1 x.1.2.2.1 x.1.2.2.2.1 (kx 0 (z142.fill ((),(),()))),k⟩
def z1ld (k:Nat):FE:=⟨(.pr U15 (.fn 192 (.ptr U0))),1,U0,fun x=>znx k x.1 x.2⟩
theorem z1le (k:Nat):z8 Tryz.prog 191 (z1ld k):=okC zb (xTc z1lc xTn) xOn Tryz.f191 (orc (z143 k) (LOn _)) (xLo (z143 k) (by rintro n ⟨⟨s0,f1,x7,x8,⟨⟩⟩,⟨⟩,⟨⟩⟩ kx; kernel_rfl) xLn) (by rintro ⟨s0,f1⟩; kernel_rfl)
def zny (a0:Int) (p1:Int):Option Int:=(if p1=0 then none else (if p1=0 then none else some (Int.tmod (z6 ((Int.tmod a0 p1)+p1)) p1)))
def z1lf:FE:=⟨U20,1,U0,fun x=>zny x.1 x.2⟩
theorem z1lg:z8 Tryz.prog 193 (z1lf):=okC zb xTn xOn Tryz.f193 (LOn _) xLn (by rintro ⟨a0,p1⟩; kernel_rfl)
def zcl (k:Nat):Nat→Int→Int→Int→Int→(Int→Option Int)→Option Int
 | 0,_,_,_,_,_=>none
 | n+1,a0,n1,p2,power7,e_0=>(if (decide (0<n1)) then (if (decide ((Int.tmod n1 2)=1)) then (if p2=0 then none else (if p2=0 then none else zcl k n (Int.tmod (z6 (a0*a0)) p2) (z6 (Int.tdiv n1 2)) p2 (Int.tmod (z6 (power7*a0)) p2) e_0)) else (if p2=0 then none else zcl k n (Int.tmod (z6 (a0*a0)) p2) (z6 (Int.tdiv n1 2)) p2 power7 e_0)) else e_0 power7)
def zsd (k:Nat) (a0:Int) (n1:Int) (p2:Int):Option Int:=zcl k k a0 n1 p2 1 (fun power_1=>some power_1)
def z144:Head:=⟨[(7,V0)],[],[]⟩
def z145 (k:Nat):LD Int:=⟨2,⟨[(0,V0),(1,V0),(2,V0),(7,V0)],[],[]⟩,[(0,z144)],fun n x kx=>zcl k n x.1.1 x.1.2.1 x.1.2.2.1 x.1.2.2.2.1 (fun power7=>kx 0 (z144.fill ((power7,()),(),()))),k⟩
def z1lh (k:Nat):FE:=⟨U32,1,U0,fun x=>zsd k x.1 x.2.1 x.2.2⟩
theorem z1li (k:Nat):z8 Tryz.prog 212 (z1lh k):=okC zb xTn xOn Tryz.f212 (orc (z145 k) (LOn _)) (xLo (z145 k) (by rintro n ⟨⟨a0,n1,p2,power7,⟨⟩⟩,⟨⟩,⟨⟩⟩ kx; kernel_rfl) xLn) (by rintro ⟨a0,n1,p2⟩; kernel_rfl)
def zi9 (k:Nat) (a0:Int) (p1:Int):Option Int:=(zsd k a0 (z6 (p1-2)) p1).bind fun r_1=>some r_1
def z1lj (k:Nat):FE:=⟨U20,1,U0,fun x=>zi9 k x.1 x.2⟩
theorem z1lk (k:Nat):z8 Tryz.prog 195 (z1lj k):=okC zb (xTc (z1li k) xTn) xOn Tryz.f195 (LOn _) xLn (by rintro ⟨a0,p1⟩; kernel_rfl)
def zg0 (k:Nat):Nat→zT1→zT1→Int→Int→Int→Int→zT1→(zT1→Option zT1)→Option zT1
 | 0,_,_,_,_,_,_,_,_=>none
 | n+1,a0,b1,c2,p3,x12,x13,q_1,e_0=>(if (decide (x13<x12)) then (if 0≤x13 then (a0[x13.toNat]?).bind fun y_2=>(if 0≤x13 then (b1[x13.toNat]?).bind fun y_3=>(if p3=0 then none else (if (q_1.length+[(Int.tmod (z6 (y_2+(z6 (c2*y_3)))) p3)].length)*8≤LIM then zg0 k n a0 b1 c2 p3 x12 (z6 (x13+1)) (q_1++[(Int.tmod (z6 (y_2+(z6 (c2*y_3)))) p3)]) e_0 else none)) else none) else none) else e_0 q_1)
def zaa (k:Nat) (a0:List Int) (b1:List Int) (c2:Int) (p3:Int):Option zT1:=zg0 k k a0 b1 c2 p3 (List.length a0:Int) 0 [] (fun q_4=>some q_4)
def z146:Head:=⟨[(9,(.ref P0 []))],[(P0,2,U0,false)],[]⟩
def z147 (k:Nat):LD zT1:=⟨3,⟨[(0,V1),(1,V1),(2,V0),(3,V0),(9,(.ref P0 [])),(12,V0),(13,V0)],[(P0,2,U0,false)],[]⟩,[(0,z146)],fun n x kx=>zg0 k n x.1.1 x.1.2.1 x.1.2.2.1 x.1.2.2.2.1 x.1.2.2.2.2.2.1 x.1.2.2.2.2.2.2.1 x.2.1.1 (fun q_4=>kx 0 (z146.fill (((),()),(q_4,()),()))),k⟩
def z1ll (k:Nat):FE:=⟨(.pr U5 (.pr U5 U20)),1,U5,fun x=>zaa k x.1 x.2.1 x.2.2.1 x.2.2.2⟩
theorem z1lm (k:Nat):z8 Tryz.prog 194 (z1ll k):=okC zb xTn xOn Tryz.f194 (orc (z147 k) (LOn _)) (xLo (z147 k) (by rintro n ⟨⟨a0,b1,c2,p3,⟨⟩,x12,x13,⟨⟩⟩,⟨q_1,⟨⟩⟩,⟨⟩⟩ kx; kernel_rfl) xLn) (by rintro ⟨a0,b1,c2,p3⟩; kernel_rfl)
def z7q (k:Nat):Nat→Int→Int→Int→Int→Int→Int→Int→Int→zT8→zT1→Int→(Int→Int→Int→Int→Int→zT8→zT1→Int→Option zT5)→Option zT5
 | 0,_,_,_,_,_,_,_,_,_,_,_,_=>none
 | n+1,columns1,p2,det9,top11,x16,x17,x80,x81,q_19,q_20,v_10,e_2=>(if (decide (x81<x80)) then (if 0≤x81∧x81.toNat<List.length q_19 then (q_19[x81.toNat]?).bind fun y_21=>(if (!(decide (x81=top11))) then (if 0≤v_10 then (y_21[v_10.toNat]?).bind fun y_22=>(if (!(decide (y_22=0))) then (if 0≤top11∧top11.toNat<List.length q_19 then (q_19[top11.toNat]?).bind fun y_23=>(if 0≤v_10 then (y_21[v_10.toNat]?).bind fun y_24=>(zaa k y_21 y_23 (z6 (p2-y_24)) p2).bind fun r_25=>(if 0≤x81∧x81.toNat<List.length q_19 then (q_19[x81.toNat]?).bind fun y_26=>(q_19[x81.toNat]?).bind fun y_27=>z7q k n columns1 p2 det9 top11 x16 x17 x80 (z6 (x81+1)) (q_19.set x81.toNat r_25) q_20 v_10 e_2 else none) else none) else none) else z7q k n columns1 p2 det9 top11 x16 x17 x80 (z6 (x81+1)) q_19 q_20 v_10 e_2) else none) else z7q k n columns1 p2 det9 top11 x16 x17 x80 (z6 (x81+1)) q_19 q_20 v_10 e_2) else none) else e_2 columns1 p2 det9 x16 x17 q_19 q_20 v_10)
def z8w (k:Nat):Nat→Int→Int→Int→Int→Int→zT8→zT1→(Int→zT8→zT1→Option zT5)→Option zT5
 | 0,_,_,_,_,_,_,_,_=>none
 | n+1,columns1,p2,det9,x16,x17,q_2,q_3,e_0=>(if (decide (x17<x16)) then (if 0≤(List.length q_3:Int)∧(List.length q_3:Int)≤(q_2.length:Int)∧(q_2.length:Int)≤q_2.length then (znx k ((q_2.drop (List.length q_3)).take (q_2.length-(List.length q_3))) x17).bind fun r_4=>(if (decide (r_4<0)) then z8w k n columns1 p2 0 x16 (z6 (x17+1)) q_2 q_3 e_0 else (if (decide (0<r_4)) then (if 0≤(z6 ((List.length q_3:Int)+r_4))∧(z6 ((List.length q_3:Int)+r_4)).toNat<List.length q_2 then (q_2[(z6 ((List.length q_3:Int)+r_4)).toNat]?).bind fun y_5=>(if 0≤(List.length q_3:Int)∧(List.length q_3)<List.length q_2 then (q_2[(List.length q_3)]?).bind fun y_6=>(if 0≤(List.length q_3:Int)∧(List.length q_3)<List.length q_2 then (q_2[(List.length q_3)]?).bind fun y_7=>(q_2[(List.length q_3)]?).bind fun y_8=>(if 0≤(z6 ((List.length q_3:Int)+r_4))∧(z6 ((List.length q_3:Int)+r_4)).toNat<List.length (q_2.set (List.length q_3) y_5) then ((q_2.set (List.length q_3) y_5)[(z6 ((List.length q_3:Int)+r_4)).toNat]?).bind fun y_9=>((q_2.set (List.length q_3) y_5)[(z6 ((List.length q_3:Int)+r_4)).toNat]?).bind fun y_10=>(zny (z6 (0-det9)) p2).bind fun r_11=>(if 0≤(List.length q_3:Int)∧(List.length q_3)<List.length ((q_2.set (List.length q_3) y_5).set ((z6 ((List.length q_3:Int)+r_4)).toNat) y_6) then (((q_2.set (List.length q_3) y_5).set ((z6 ((List.length q_3:Int)+r_4)).toNat) y_6)[(List.length q_3)]?).bind fun y_12=>(if 0≤x17 then (y_12[x17.toNat]?).bind fun y_13=>(if p2=0 then none else (if 0≤columns1∧columns1≤columns1∧columns1*8≤LIM then (if 0≤(List.length q_3:Int)∧(List.length q_3)<List.length ((q_2.set (List.length q_3) y_5).set ((z6 ((List.length q_3:Int)+r_4)).toNat) y_6) then (((q_2.set (List.length q_3) y_5).set ((z6 ((List.length q_3:Int)+r_4)).toNat) y_6)[(List.length q_3)]?).bind fun y_14=>(zi9 k y_13 p2).bind fun r_15=>(zaa k (List.replicate columns1.toNat 0) y_14 r_15 p2).bind fun r_16=>(if 0≤(List.length q_3:Int)∧(List.length q_3)<List.length ((q_2.set (List.length q_3) y_5).set ((z6 ((List.length q_3:Int)+r_4)).toNat) y_6) then (((q_2.set (List.length q_3) y_5).set ((z6 ((List.length q_3:Int)+r_4)).toNat) y_6)[(List.length q_3)]?).bind fun y_17=>(((q_2.set (List.length q_3) y_5).set ((z6 ((List.length q_3:Int)+r_4)).toNat) y_6)[(List.length q_3)]?).bind fun y_18=>z7q k k columns1 p2 (Int.tmod (z6 (r_11*y_13)) p2) (List.length q_3:Int) x16 x17 (List.length (((q_2.set (List.length q_3) y_5).set ((z6 ((List.length q_3:Int)+r_4)).toNat) y_6).set (List.length q_3) r_16):Int) 0 (((q_2.set (List.length q_3) y_5).set ((z6 ((List.length q_3:Int)+r_4)).toNat) y_6).set (List.length q_3) r_16) q_3 x17 (fun columns_19 p_20 det_21 x_22 x_23 q_24 q_25 v_26=>(if (q_25.length+[v_26].length)*8≤LIM then z8w k n columns_19 p_20 det_21 x_22 (z6 (x_23+1)) q_24 (q_25++[v_26]) e_0 else none)) else none) else none) else none)) else none) else none) else none) else none) else none) else none) else (if 0≤(List.length q_3:Int)∧(List.length q_3)<List.length q_2 then (q_2[(List.length q_3)]?).bind fun y_27=>(if 0≤x17 then (y_27[x17.toNat]?).bind fun y_28=>(if p2=0 then none else (if 0≤columns1∧columns1≤columns1∧columns1*8≤LIM then (if 0≤(List.length q_3:Int)∧(List.length q_3)<List.length q_2 then (q_2[(List.length q_3)]?).bind fun y_29=>(zi9 k y_28 p2).bind fun r_30=>(zaa k (List.replicate columns1.toNat 0) y_29 r_30 p2).bind fun r_31=>(if 0≤(List.length q_3:Int)∧(List.length q_3)<List.length q_2 then (q_2[(List.length q_3)]?).bind fun y_32=>(q_2[(List.length q_3)]?).bind fun y_33=>z7q k k columns1 p2 (Int.tmod (z6 (det9*y_28)) p2) (List.length q_3:Int) x16 x17 (List.length (q_2.set (List.length q_3) r_31):Int) 0 (q_2.set (List.length q_3) r_31) q_3 x17 (fun columns_34 p_35 det_36 x_37 x_38 q_39 q_40 v_41=>(if (q_40.length+[v_41].length)*8≤LIM then z8w k n columns_34 p_35 det_36 x_37 (z6 (x_38+1)) q_39 (q_40++[v_41]) e_0 else none)) else none) else none) else none)) else none) else none))) else none) else e_0 det9 q_2 q_3)
def znz (k:Nat) (columns1:Int) (p2:Int) (q_1:List zT1):Option zT5:=z8w k k columns1 p2 1 columns1 0 q_1 [] (fun det_42 q_43 q_44=>some ((((),(det_42,())),()),(q_43,q_44,()),()))
def z148:Head:=⟨[(0,(.ref 1000000000 [])),(1,V0),(2,V0),(8,(.ref P1 [])),(9,V0),(10,(.bp 10 [] 0)),(16,V0),(17,V0)],[(1000000000,25,(.rd U5),false),(P1,2,U0,false)],[(10,2,V0)]⟩
def z149:Head:=⟨[(0,(.ref 1000000000 [])),(1,V0),(2,V0),(8,(.ref P1 [])),(9,V0),(10,(.bp 10 [] 0)),(11,V0),(16,V0),(17,V0),(79,(.ref 1000000000 [])),(80,V0),(81,V0)],[(1000000000,25,(.rd U5),false),(P1,2,U0,false)],[(10,2,V0)]⟩
def z14a (k:Nat) (n:Nat) (x:z149.T) (kx:Nat→St→Option zT5):Option zT5:=z7q k n x.1.2.1 x.1.2.2.1 x.1.2.2.2.2.1 x.1.2.2.2.2.2.2.1 x.1.2.2.2.2.2.2.2.1 x.1.2.2.2.2.2.2.2.2.1 x.1.2.2.2.2.2.2.2.2.2.2.1 x.1.2.2.2.2.2.2.2.2.2.2.2.1 x.2.1.1 x.2.1.2.1 x.2.2.1 (fun columns1 p2 det9 x16 x17 q_28 q_29 v_10=>kx 2 (z148.fill (((),columns1,p2,(),det9,(),x16,x17,()),(q_28,q_29,()),(v_10,()))))
def zo0 (k:Nat):LD zT5:=⟨17,z149,[(2,z148)],z14a k,k⟩
def z14b:Head:=⟨[(8,(.ref P1 [])),(9,V0)],[(1000000000,25,(.rd U5),false),(P1,2,U0,false)],[]⟩
def z14c (k:Nat):LD zT5:=⟨4,⟨[(0,(.ref 1000000000 [])),(1,V0),(2,V0),(8,(.ref P1 [])),(9,V0),(16,V0),(17,V0)],[(1000000000,25,(.rd U5),false),(P1,2,U0,false)],[]⟩,[(0,z14b)],fun n x kx=>z8w k n x.1.2.1 x.1.2.2.1 x.1.2.2.2.2.1 x.1.2.2.2.2.2.1 x.1.2.2.2.2.2.2.1 x.2.1.1 x.2.1.2.1 (fun det9 q_51 q_52=>kx 0 (z14b.fill (((),det9,()),(q_51,q_52,()),()))),k⟩
def z1ln (k:Nat):OC:=⟨⟨[(0,(.ref 1000000000 [])),(1,V0),(2,V0)],[(1000000000,25,(.rd U5),false)],[]⟩,⟨[(0,(.tup (.cns (.ref P1 []) (.cns V0 .nl))))],[(1000000000,25,(.rd U5),false),(P1,2,U0,false)],[]⟩,fun x=>znz k x.1.2.1 x.1.2.2.1 x.2.1.1,true⟩
theorem z1lo (k:Nat):z1c Tryz.prog tiR 161 (z1ln k):=okO z1c7 (xTc (z1le k) (xTc z1lg (xTc (z1lk k) (xTc (z1lm k) xTn)))) xOn Tryz.f161 (orc (zo0 k) (orc (z14c k) (LOn _))) (fun _ _=>xLo (z14c k) (by rintro n ⟨⟨⟨⟩,columns1,p2,⟨⟩,det9,x16,x17,⟨⟩⟩,⟨q_2,q_3,⟨⟩⟩,⟨⟩⟩ kx; kernel_rfl) (xLp (zo0 k) (by rintro n ⟨⟨⟨⟩,columns1,p2,⟨⟩,det9,⟨⟩,top11,x16,x17,⟨⟩,x80,x81,⟨⟩⟩,⟨q_19,q_20,⟨⟩⟩,⟨v_10,⟨⟩⟩⟩ kx _ h; dsimp only [zo0,z14a] at h; subst h; dsimp only [zo0]; kernel_rfl) xLn)) (by rintro _ _ ⟨⟨⟨⟩,columns1,p2,⟨⟩⟩,⟨q_1,⟨⟩⟩,⟨⟩⟩; kernel_rfl)
def zcm (k:Nat):Nat→zT1→Int→Int→zT8→zT0→(zT8→zT0→Option zT16)→Option zT16
 | 0,_,_,_,_,_,_=>none
 | n+1,b1,x16,x17,q_2,v_2,e_0=>(if (decide (x17<x16)) then (if 0≤x17∧x17.toNat<List.length q_2 then (q_2[x17.toNat]?).bind fun y_3=>(if 0≤x17 then (b1[x17.toNat]?).bind fun y_4=>((q_2)[x17.toNat]?).bind fun y_5=>if (List.length y_5+List.length [y_4])*8≤LIM then (if 0≤x17∧Int.toNat x17=x17.toNat then zcm k n b1 x16 (z6 (x17+1)) (List.set q_2 x17.toNat (List.append y_5 [y_4])) v_2 e_0 else none) else none else none) else none) else e_0 q_2 v_2)
def zab (k:Nat):Nat→Int→Int→zT8→zT1→zT1→zT0→(zT1→Option zT16)→Option zT16
 | 0,_,_,_,_,_,_,_=>none
 | n+1,x48,x49,q_9,q_10,q_11,v_2,e_2=>(if (decide (x49<x48)) then (if 0≤x49∧x49.toNat<List.length q_11 then (q_11[x49.toNat]?).bind fun y_12=>(if (decide (y_12=v_2.2.2.1)) then some ([],false) else (if 0≤x49∧x49.toNat<List.length q_9 then (q_9[x49.toNat]?).bind fun y_13=>(if 0≤v_2.2.2.1 then (y_13[v_2.2.2.1.toNat]?).bind fun y_14=>(if 0≤y_12∧y_12.toNat<List.length q_10 then (q_10[y_12.toNat]?).bind fun y_15=>(q_10[y_12.toNat]?).bind fun y_16=>zab k n x48 (z6 (x49+1)) q_9 (q_10.set y_12.toNat y_14) q_11 v_2 e_2 else none) else none) else none)) else none) else e_2 q_10)
def zo1 (k:Nat) (m0:Int×Int×Int×List Int) (b1:List Int):Option zT16:=(zi5 k m0).bind fun r_1=>zcm k k b1 (List.length r_1:Int) 0 r_1 m0 (fun q_6 v_7=>(znz k (z6 (v_7.2.2.1+1)) v_7.1 q_6).bind fun y_8=>(if 0≤v_7.2.2.1∧v_7.2.2.1≤v_7.2.2.1∧v_7.2.2.1*8≤LIM then zab k k (List.length y_8.2.1.2.1:Int) 0 y_8.2.1.1 (List.replicate v_7.2.2.1.toNat 0) y_8.2.1.2.1 v_7 (fun q_17=>some (q_17,true)) else none))
def z14d:Head:=⟨[(2,(.bp 2 [] 0)),(6,(.ref P0 []))],[(P0,25,U5,false)],[(2,138,V7)]⟩
def z14e (k:Nat):LD zT16:=⟨3,⟨[(1,V1),(2,(.bp 2 [] 0)),(6,(.ref P0 [])),(16,V0),(17,V0)],[(P0,25,U5,false)],[(2,138,V7)]⟩,[(0,z14d)],fun n x kx=>zcm k n x.1.1 x.1.2.2.2.1 x.1.2.2.2.2.1 x.2.1.1 x.2.2.1 (fun q_6 v_2=>kx 0 (z14d.fill (((),(),()),(q_6,()),(v_2,())))),k⟩
def z14f:Head:=⟨[(10,(.ref P0 []))],[(P0,2,U0,false)],[]⟩
def z14g (k:Nat):LD zT16:=⟨10,⟨[(2,(.bp 2 [] 0)),(6,(.ref P0 [])),(10,(.ref P1 [])),(47,(.ref P2 [])),(48,V0),(49,V0)],[(P0,25,(.rd U5),false),(P1,2,U0,false),(P2,2,U0,false)],[(2,138,V7)]⟩,[(2,z14f)],fun n x kx=>zab k n x.1.2.2.2.2.1 x.1.2.2.2.2.2.1 x.2.1.1 x.2.1.2.1 x.2.1.2.2.1 x.2.2.1 (fun q_17=>kx 2 (z14f.fill (((),()),(q_17,()),()))),k⟩
def z1lp (k:Nat):FE:=⟨(.pr U1 U5),2,(.pr U5 .bool),fun x=>zo1 k x.1 x.2⟩
theorem z1lq (k:Nat):z8 Tryz.prog 104 (z1lp k):=okC z1c8 (xTc (z12o k) xTn) (xOc 41 ((z1lo k).to (z1c3.symm.trans z1c6)) xOn) Tryz.f104 (orc (z14e k) (orc (z14g k) (LOn _))) (xLo (z14e k) (by rintro n ⟨⟨b1,⟨⟩,⟨⟩,x16,x17,⟨⟩⟩,⟨q_2,⟨⟩⟩,⟨v_2,⟨⟩⟩⟩ kx; kernel_rfl) (xLo (z14g k) (by rintro n ⟨⟨⟨⟩,⟨⟩,⟨⟩,⟨⟩,x48,x49,⟨⟩⟩,⟨q_9,q_10,q_11,⟨⟩⟩,⟨v_2,⟨⟩⟩⟩ kx; kernel_rfl) xLn)) (by rintro ⟨m0,b1⟩; kernel_rfl)
def zo2 (k:Nat) (s0:List zT1×Int×List Int×List zT0) (k1:Int) (x2:List Int):Option zT16:=(zck k s0 (z6 (k1-1))).bind fun r_1=>(zo1 k (r_1.1,(r_1.2.1,(r_1.2.2.1,r_1.2.2.2))) x2).bind fun r_2=>some (r_2.1,r_2.2)
def z1lr (k:Nat):FE:=⟨(.pr U2 (.pr U0 U5)),2,(.pr U5 .bool),fun x=>zo2 k x.1 x.2.1 x.2.2⟩
theorem z1ls (k:Nat):z8 Tryz.prog 51 (z1lr k):=okC zb (xTc (z13x k) (xTc (z1lq k) xTn)) xOn Tryz.f51 (LOn _) xLn (by rintro ⟨s0,k1,x2⟩; kernel_rfl)
def zo3 (k:Nat) (w0:zT3×Int×List Int×List Int×zT7×List Int×List Int×zT10×List Int):Option zT4:=(zfs k w0.1).bind fun r_1=>(if r_1.2.2 then (if 0≤r_1.1 then (w0.1.1[r_1.1.toNat]?).bind fun y_2=>(zi7 k y_2).bind fun r_3=>(if 0≤r_1.2.1 then (w0.1.1[r_1.2.1.toNat]?).bind fun y_4=>(zi7 k y_4).bind fun r_5=>some [(1,(r_3,r_5))] else none) else none) else (znw k w0.1 w0.2.1 w0.2.2.1).bind fun r_6=>(if (!r_6) then some [(2,([99,108,97,115,115],[111,112,101,110]))] else (zo2 k w0.1 w0.2.1 w0.2.2.1).bind fun r_7=>(if r_7.2 then some [(2,([99,108,97,115,115],[116,114,105,118,105,97,108]))] else some [])))
def z1lt (k:Nat):FE:=⟨U19,1,U25,fun x=>zo3 k x⟩
theorem z1lu (k:Nat):z8 Tryz.prog 23 (z1lt k):=okC zb (xTc (z1k9 k) (xTc (z1kn k) (xTc (z1la k) (xTc (z1ls k) xTn)))) xOn Tryz.f23 (LOn _) xLn (by rintro w0; kernel_rfl)
def zo4 (k:Nat):Nat→(List Nat)→Int→Int→zT4→zT17→(zT4→Option (zT4×Int))→Option (zT4×Int)
 | 0,_,_,_,_,_,_=>none
 | n+1,x12,x13,x14,q_2,v_2,e_0=>(if (decide (x14<x13)) then (if 0≤x14 then (x12[x14.toNat]?).bind fun y_3=>(if y_3=23 then (zo3 k v_2).bind fun r_4=>(if (q_2.length+r_4.length)*40≤LIM then zo4 k n x12 x13 (z6 (x14+1)) (q_2++r_4) v_2 e_0 else none) else none) else none) else e_0 q_2)
def zse (k:Nat) (w0:zT3×Int×List Int×List Int×zT7×List Int×List Int×zT10×List Int) (functions1:List Nat):Option (zT4×Int):=(zn8 k w0).bind fun r_1=>(if (!r_1) then some ([],1) else zo4 k k functions1 (List.length functions1:Int) 0 [] w0 (fun q_5=>some (q_5,0)))
def z14h:Head:=⟨[(6,(.ref P0 []))],[(P0,73,U8,false)],[]⟩
def z14i (k:Nat):LD (zT4×Int):=⟨5,⟨[(2,(.bp 2 [] 0)),(6,(.ref P0 [])),(12,(.val (.sl 70 (.fs [23])))),(13,V0),(14,V0)],[(P0,73,U8,false)],[(2,52,(.val U19))]⟩,[(0,z14h)],fun n x kx=>zo4 k n x.1.2.2.1 x.1.2.2.2.1 x.1.2.2.2.2.1 x.2.1.1 x.2.2.1 (fun q_5=>kx 0 (z14h.fill (((),()),(q_5,()),()))),k⟩
def z1lv (k:Nat):FE:=⟨(.pr U19 (.sl 70 (.fs [23]))),2,(.pr U25 U0),fun x=>zse k x.1 x.2⟩
theorem z1lw (k:Nat):z8 Tryz.prog 22 (z1lv k):=okC zb (xTc (z1jg k) (xTc (z1lu k) xTn)) xOn Tryz.f22 (orc (z14i k) (LOn _)) (xLo (z14i k) (by rintro n ⟨⟨⟨⟩,⟨⟩,x12,x13,x14,⟨⟩⟩,⟨q_2,⟨⟩⟩,⟨v_2,⟨⟩⟩⟩ kx; kernel_rfl) xLn) (by rintro ⟨w0,functions1⟩; kernel_rfl)
def zhq (k:Nat) (w0:zT3×Int×List Int×List Int×zT7×List Int×List Int×zT10×List Int):Option (zT4×Int):=(zse k w0 [23]).bind fun r_1=>some (r_1.1,r_1.2)
def z1lx (k:Nat):FE:=⟨U19,2,(.pr U25 U0),fun x=>zhq k x⟩
theorem z1f8 (k:Nat):z8 Tryz.prog 7 (z1lx k):=okC zb (xTc (z1lw k) xTn) xOn Tryz.f7 (LOn _) xLn (by rintro w0; kernel_rfl)
def zo5 (a0:Int×List UInt8×List UInt8) (b1:Int×List UInt8×List UInt8):Option Bool:=(if (!(decide (a0.1=b1.1))) then some false else (if (!(decide (a0.2.1=b1.2.1))) then some false else (if (!(decide (a0.2.2=b1.2.2))) then some false else some true)))
def z1ly:FE:=⟨(.pr U8 U8),1,.bool,fun x=>zo5 x.1 x.2⟩
theorem z1lz:z8 Tryz.prog 24 (z1ly):=okC zb xTn xOn Tryz.f24 (LOn _) xLn (by rintro ⟨a0,b1⟩; kernel_rfl)
def zg1 (k:Nat):Nat→zT4→zT4→Int→(Option Bool)→Option Bool
 | 0,_,_,_,_=>none
 | n+1,a0,b1,i5,e_0=>(if (decide (i5<(List.length a0:Int))) then (if 0≤i5 then (a0[i5.toNat]?).bind fun y_1=>(if 0≤i5 then (b1[i5.toNat]?).bind fun y_2=>(zo5 y_1 y_2).bind fun r_3=>(if (!r_3) then some false else zg1 k n a0 b1 (z6 (i5+1)) e_0) else none) else none) else e_0)
def zbl (k:Nat) (a0:List zT20) (b1:List zT20):Option Bool:=(if (!(decide ((List.length a0:Int)=(List.length b1:Int)))) then some false else zg1 k k a0 b1 0 (some true))
def z14j:Head:=⟨[],[],[]⟩
def z14k (k:Nat):LD Bool:=⟨4,⟨[(0,(.val U25)),(1,(.val U25)),(5,V0)],[],[]⟩,[(0,z14j)],fun n x kx=>zg1 k n x.1.1 x.1.2.1 x.1.2.2.1 (kx 0 (z14j.fill ((),(),()))),k⟩
def z1m0 (k:Nat):FE:=⟨(.pr U25 U25),1,.bool,fun x=>zbl k x.1 x.2⟩
theorem z1f9 (k:Nat):z8 Tryz.prog 8 (z1m0 k):=okC zb (xTc z1lz xTn) xOn Tryz.f8 (orc (z14k k) (LOn _)) (xLo (z14k k) (by rintro n ⟨⟨a0,b1,i5,⟨⟩⟩,⟨⟩,⟨⟩⟩ kx; kernel_rfl) xLn) (by rintro ⟨a0,b1⟩; kernel_rfl)
def zg2 (k:Nat):Nat→zT1→zT1→Int→(Option Bool)→Option Bool
 | 0,_,_,_,_=>none
 | n+1,a0,b1,i5,e_0=>(if (decide (i5<(List.length a0:Int))) then (if 0≤i5 then (a0[i5.toNat]?).bind fun y_1=>(if 0≤i5 then (b1[i5.toNat]?).bind fun y_2=>(if (!(decide (y_1=y_2))) then some false else zg2 k n a0 b1 (z6 (i5+1)) e_0) else none) else none) else e_0)
def z6v (k:Nat) (a0:List Int) (b1:List Int):Option Bool:=(if (!(decide ((List.length a0:Int)=(List.length b1:Int)))) then some false else zg2 k k a0 b1 0 (some true))
def z14l:Head:=⟨[],[],[]⟩
def z14m (k:Nat):LD Bool:=⟨4,⟨[(0,V1),(1,V1),(5,V0)],[],[]⟩,[(0,z14l)],fun n x kx=>zg2 k n x.1.1 x.1.2.1 x.1.2.2.1 (kx 0 (z14l.fill ((),(),()))),k⟩
def z1m1 (k:Nat):FE:=⟨(.pr U5 U5),1,.bool,fun x=>z6v k x.1 x.2⟩
theorem zlj (k:Nat):z8 Tryz.prog 26 (z1m1 k):=okC zb xTn xOn Tryz.f26 (orc (z14m k) (LOn _)) (xLo (z14m k) (by rintro n ⟨⟨a0,b1,i5,⟨⟩⟩,⟨⟩,⟨⟩⟩ kx; kernel_rfl) xLn) (by rintro ⟨a0,b1⟩; kernel_rfl)
def zg3 (k:Nat):Nat→zT8→zT8→Int→(Option Bool)→Option Bool
 | 0,_,_,_,_=>none
 | n+1,a0,b1,i5,e_0=>(if (decide (i5<(List.length a0:Int))) then (if 0≤i5 then (a0[i5.toNat]?).bind fun y_1=>(if 0≤i5 then (b1[i5.toNat]?).bind fun y_2=>(z6v k y_1 y_2).bind fun r_3=>(if (!r_3) then some false else zg3 k n a0 b1 (z6 (i5+1)) e_0) else none) else none) else e_0)
def zo6 (k:Nat) (a0:List zT1) (b1:List zT1):Option Bool:=(if (!(decide ((List.length a0:Int)=(List.length b1:Int)))) then some false else zg3 k k a0 b1 0 (some true))
def z14n:Head:=⟨[],[],[]⟩
def z14o (k:Nat):LD Bool:=⟨4,⟨[(0,V3),(1,V3),(5,V0)],[],[]⟩,[(0,z14n)],fun n x kx=>zg3 k n x.1.1 x.1.2.1 x.1.2.2.1 (kx 0 (z14n.fill ((),(),()))),k⟩
def z1m2 (k:Nat):FE:=⟨(.pr U15 U15),1,.bool,fun x=>zo6 k x.1 x.2⟩
theorem z1m3 (k:Nat):z8 Tryz.prog 105 (z1m2 k):=okC zb (xTc (zlj k) xTn) xOn Tryz.f105 (orc (z14o k) (LOn _)) (xLo (z14o k) (by rintro n ⟨⟨a0,b1,i5,⟨⟩⟩,⟨⟩,⟨⟩⟩ kx; kernel_rfl) xLn) (by rintro ⟨a0,b1⟩; kernel_rfl)
def zo7 (k:Nat) (a0:List zT1) (b1:List zT1):Option Bool:=(zo6 k a0 b1).bind fun r_1=>(if (!r_1) then some false else some true)
def z1m4 (k:Nat):FE:=⟨(.pr U7 U7),1,.bool,fun x=>zo7 k x.1 x.2⟩
theorem z1m5 (k:Nat):z8 Tryz.prog 52 (z1m4 k):=okC zb (xTc (z1m3 k) xTn) xOn Tryz.f52 (LOn _) xLn (by rintro ⟨a0,b1⟩; kernel_rfl)
def zo8 (k:Nat) (a0:Int×Int×Int×List Int) (b1:Int×Int×Int×List Int):Option Bool:=(if (!(decide (a0.1=b1.1))) then some false else (if (!(decide (a0.2.1=b1.2.1))) then some false else (if (!(decide (a0.2.2.1=b1.2.2.1))) then some false else (z6v k a0.2.2.2 b1.2.2.2).bind fun r_1=>(if (!r_1) then some false else some true))))
def z1m6 (k:Nat):FE:=⟨(.pr U1 U1),1,.bool,fun x=>zo8 k x.1 x.2⟩
theorem z1m7 (k:Nat):z8 Tryz.prog 106 (z1m6 k):=okC zb (xTc (zlj k) xTn) xOn Tryz.f106 (LOn _) xLn (by rintro ⟨a0,b1⟩; kernel_rfl)
def zg4 (k:Nat):Nat→zT22→zT22→Int→(Option Bool)→Option Bool
 | 0,_,_,_,_=>none
 | n+1,a0,b1,i5,e_0=>(if (decide (i5<(List.length a0:Int))) then (if 0≤i5 then (a0[i5.toNat]?).bind fun y_1=>(if 0≤i5 then (b1[i5.toNat]?).bind fun y_2=>(zo8 k y_1 y_2).bind fun r_3=>(if (!r_3) then some false else zg4 k n a0 b1 (z6 (i5+1)) e_0) else none) else none) else e_0)
def zo9 (k:Nat) (a0:List zT0) (b1:List zT0):Option Bool:=(if (!(decide ((List.length a0:Int)=(List.length b1:Int)))) then some false else zg4 k k a0 b1 0 (some true))
def z14p:Head:=⟨[],[],[]⟩
def z14q (k:Nat):LD Bool:=⟨4,⟨[(0,(.val (.sl 138 U1))),(1,(.val (.sl 138 U1))),(5,V0)],[],[]⟩,[(0,z14p)],fun n x kx=>zg4 k n x.1.1 x.1.2.1 x.1.2.2.1 (kx 0 (z14p.fill ((),(),()))),k⟩
def z1m8 (k:Nat):FE:=⟨(.pr (.sl 138 U1) (.sl 138 U1)),1,.bool,fun x=>zo9 k x.1 x.2⟩
theorem z1m9 (k:Nat):z8 Tryz.prog 53 (z1m8 k):=okC zb (xTc (z1m7 k) xTn) xOn Tryz.f53 (orc (z14q k) (LOn _)) (xLo (z14q k) (by rintro n ⟨⟨a0,b1,i5,⟨⟩⟩,⟨⟩,⟨⟩⟩ kx; kernel_rfl) xLn) (by rintro ⟨a0,b1⟩; kernel_rfl)
def zli (k:Nat) (a0:List zT1×Int×List Int×List zT0) (b1:List zT1×Int×List Int×List zT0):Option Bool:=(zo7 k a0.1 b1.1).bind fun r_1=>(if (!r_1) then some false else (if (!(decide (a0.2.1=b1.2.1))) then some false else (z6v k a0.2.2.1 b1.2.2.1).bind fun r_2=>(if (!r_2) then some false else (zo9 k a0.2.2.2 b1.2.2.2).bind fun r_3=>(if (!r_3) then some false else some true))))
def z1ma (k:Nat):FE:=⟨(.pr U2 U2),1,.bool,fun x=>zli k x.1 x.2⟩
theorem z1ec (k:Nat):z8 Tryz.prog 25 (z1ma k):=okC zb (xTc (z1m5 k) (xTc (zlj k) (xTc (z1m9 k) xTn))) xOn Tryz.f25 (LOn _) xLn (by rintro ⟨a0,b1⟩; kernel_rfl)
def zlb (a0:Int×Int×Int) (b1:Int×Int×Int):Option Bool:=(if (!(decide (a0.1=b1.1))) then some false else (if (!(decide (a0.2.1=b1.2.1))) then some false else (if (!(decide (a0.2.2=b1.2.2))) then some false else some true)))
def z1mb:FE:=⟨(.pr U4 U4),1,.bool,fun x=>zlb x.1 x.2⟩
theorem z1e1:z8 Tryz.prog 107 (z1mb):=okC zb xTn xOn Tryz.f107 (LOn _) xLn (by rintro ⟨a0,b1⟩; kernel_rfl)
end
end Go.Proofs.YtchfjdcfhlhgcaaGreatDoor.Ev
