/- Functions of the program, as plain ones. No conditions. -/
import Derived.Test.YtiodkblajaenbaaGreatDoorG10
import Derived.KernelRfl
set_option linter.unusedVariables false
set_option maxRecDepth 100000
namespace Go.Proofs.YtiodkblajaenbaaGreatDoor.Ev
open Go.RowKit
noncomputable section
def zcl (k:Nat):Nat→zT1→zT14→Int→Int→zT1→zT7→(zT1→Option zT1)→Option zT1
 | 0,_,_,_,_,_,_,_=>none
 | n+1,phases1,x9,x10,x11,q_1,v_2,e_0=>(if (decide (x11<x10)) then (if 0≤x11 then (x9[x11.toNat]?).bind fun y_2=>(if 0≤y_2.1 then (phases1[y_2.1.toNat]?).bind fun y_3=>(if v_2.2.1=0 then none else (if 0≤y_2.2.1 then (phases1[y_2.2.1.toNat]?).bind fun y_4=>(if (!(decide ((Int.tmod (z6 (y_3+y_2.2.2)) v_2.2.1)=y_4))) then (if (q_1.length+[x11].length)*8≤LIM then zcl k n phases1 x9 x10 (z6 (x11+1)) (q_1++[x11]) v_2 e_0 else none) else zcl k n phases1 x9 x10 (z6 (x11+1)) q_1 v_2 e_0) else none)) else none) else none) else e_0 q_1)
def znk (k:Nat) (x0:Int×Int×List zT2) (phases1:List Int):Option zT1:=zcl k k phases1 x0.2.2 (List.length x0.2.2:Int) 0 [] x0 (fun q_5=>some q_5)
def z10w:Head:=⟨[(5,(.ref P0 []))],[(P0,2,U0,false)],[]⟩
def z10x (k:Nat):LD zT1:=⟨3,⟨[(1,V1),(2,(.bp 2 [] 0)),(5,(.ref P0 [])),(9,(.val U29)),(10,V0),(11,V0)],[(P0,2,U0,false)],[(2,50,(.val U9))]⟩,[(0,z10w)],fun n x kx=>zcl k n x.1.1 x.1.2.2.2.1 x.1.2.2.2.2.1 x.1.2.2.2.2.2.1 x.2.1.1 x.2.2.1 (fun q_5=>kx 0 (z10w.fill (((),()),(q_5,()),()))),k⟩
def z1j8 (k:Nat):FE:=⟨(.pr U9 U5),1,U5,fun x=>znk k x.1 x.2⟩
theorem z1j9 (k:Nat):z8 Tryz.prog 68 (z1j8 k):=okC za xTn xOn Tryz.f68 (orc (z10x k) (LOn _)) (xLo (z10x k) (by rintro n ⟨⟨phases1,⟨⟩,⟨⟩,x9,x10,x11,⟨⟩⟩,⟨q_1,⟨⟩⟩,⟨v_2,⟨⟩⟩⟩ kx; kernel_rfl) xLn) (by rintro ⟨x0,phases1⟩; kernel_rfl)
def zfr (k:Nat):Nat→Int→Int→zT4→zT1→zT9→(zT4→Option zT4)→Option zT4
 | 0,_,_,_,_,_,_=>none
 | n+1,x12,x13,q_2,q_3,v_1,e_0=>(if (decide (x13<x12)) then (if 0≤x13∧x13.toNat<List.length q_3 then (q_3[x13.toNat]?).bind fun y_4=>(if 0≤y_4 then (v_1.2.2.2.2.2.2.2.1.2.2[y_4.toNat]?).bind fun y_5=>(zcg k [y_5.1,y_5.2.1]).bind fun r_6=>(if (q_2.length+[(5,(r_6,[115,104,105,102,116]))].length)*40≤LIM then zfr k n x12 (z6 (x13+1)) (q_2++[(5,(r_6,[115,104,105,102,116]))]) q_3 v_1 e_0 else none) else none) else none) else e_0 q_2)
def zji (k:Nat) (w0:zT3×Int×List Int×List Int×zT5×List Int×List Int×zT7×List Int):Option zT4:=(znk k w0.2.2.2.2.2.2.2.1 w0.2.2.2.2.2.2.2.2).bind fun r_1=>zfr k k (List.length r_1:Int) 0 [] r_1 w0 (fun q_7=>some q_7)
def z10y:Head:=⟨[(3,(.ref P0 []))],[(P0,74,U8,false)],[]⟩
def z10z (k:Nat):LD zT4:=⟨3,⟨[(1,(.bp 1 [] 0)),(3,(.ref P0 [])),(11,(.ref P1 [])),(12,V0),(13,V0)],[(P0,74,U8,false),(P1,2,U0,false)],[(1,52,(.val U2))]⟩,[(0,z10y)],fun n x kx=>zfr k n x.1.2.2.2.1 x.1.2.2.2.2.1 x.2.1.1 x.2.1.2.1 x.2.2.1 (fun q_7=>kx 0 (z10y.fill (((),()),(q_7,()),()))),k⟩
def z1ja (k:Nat):FE:=⟨U2,1,U22,fun x=>zji k x⟩
theorem z1jb (k:Nat):z8 Tryz.prog 27 (z1ja k):=okC za (xTc (z1j9 k) (xTc (zt4 k) xTn)) xOn Tryz.f27 (orc (z10z k) (LOn _)) (xLo (z10z k) (by rintro n ⟨⟨⟨⟩,⟨⟩,⟨⟩,x12,x13,⟨⟩⟩,⟨q_2,q_3,⟨⟩⟩,⟨v_1,⟨⟩⟩⟩ kx; kernel_rfl) xLn) (by rintro w0; kernel_rfl)
def z3j (k:Nat):Nat→(List Nat)→Int→Int→zT4→zT9→(zT4→Option (zT4×Int))→Option (zT4×Int)
 | 0,_,_,_,_,_,_=>none
 | n+1,x12,x13,x14,q_2,v_2,e_0=>(if (decide (x14<x13)) then (if 0≤x14 then (x12[x14.toNat]?).bind fun y_3=>(if y_3=24 then (zj8 k v_2).bind fun r_4=>(if (q_2.length+r_4.length)*40≤LIM then z3j k n x12 x13 (z6 (x14+1)) (q_2++r_4) v_2 e_0 else none) else (if y_3=25 then (zjd k v_2).bind fun r_5=>(if (q_2.length+r_5.length)*40≤LIM then z3j k n x12 x13 (z6 (x14+1)) (q_2++r_5) v_2 e_0 else none) else (if y_3=26 then (zjg k v_2).bind fun r_6=>(if (q_2.length+r_6.length)*40≤LIM then z3j k n x12 x13 (z6 (x14+1)) (q_2++r_6) v_2 e_0 else none) else (if y_3=27 then (zji k v_2).bind fun r_7=>(if (q_2.length+r_7.length)*40≤LIM then z3j k n x12 x13 (z6 (x14+1)) (q_2++r_7) v_2 e_0 else none) else none)))) else none) else e_0 q_2)
def zt7 (k:Nat) (w0:zT3×Int×List Int×List Int×zT5×List Int×List Int×zT7×List Int) (functions1:List Nat):Option (zT4×Int):=(znl k w0).bind fun r_1=>(if (!r_1) then some ([],1) else z3j k k functions1 (List.length functions1:Int) 0 [] w0 (fun q_8=>some (q_8,0)))
def z110:Head:=⟨[(6,(.ref P0 []))],[(P0,74,U8,false)],[]⟩
def z111 (k:Nat):LD (zT4×Int):=⟨5,⟨[(2,(.bp 2 [] 0)),(6,(.ref P0 [])),(12,(.val (.sl 71 (.fs [24,25,26,27])))),(13,V0),(14,V0)],[(P0,74,U8,false)],[(2,52,(.val U2))]⟩,[(0,z110)],fun n x kx=>z3j k n x.1.2.2.1 x.1.2.2.2.1 x.1.2.2.2.2.1 x.2.1.1 x.2.2.1 (fun q_8=>kx 0 (z110.fill (((),()),(q_8,()),()))),k⟩
def z1jc (k:Nat):FE:=⟨(.pr U2 (.sl 71 (.fs [24,25,26,27]))),2,(.pr U22 U0),fun x=>zt7 k x.1 x.2⟩
theorem z1jd (k:Nat):z8 Tryz.prog 23 (z1jc k):=okC za (xTc (z1je k) (xTc (z1in k) (xTc (z1iv k) (xTc (z1j7 k) (xTc (z1jb k) xTn))))) xOn Tryz.f23 (orc (z111 k) (LOn _)) (xLo (z111 k) (by rintro n ⟨⟨⟨⟩,⟨⟩,x12,x13,x14,⟨⟩⟩,⟨q_2,⟨⟩⟩,⟨v_2,⟨⟩⟩⟩ kx; kernel_rfl) xLn) (by rintro ⟨w0,functions1⟩; kernel_rfl)
def zfs (k:Nat) (w0:zT3×Int×List Int×List Int×zT5×List Int×List Int×zT7×List Int):Option (zT4×Int):=(zt7 k w0 [24,25,26,27]).bind fun r_1=>some (r_1.1,r_1.2)
def z1jf (k:Nat):FE:=⟨U2,2,(.pr U22 U0),fun x=>zfs k x⟩
theorem z1jg (k:Nat):z8 Tryz.prog 7 (z1jf k):=okC za (xTc (z1jd k) xTn) xOn Tryz.f7 (LOn _) xLn (by rintro w0; kernel_rfl)
def znm (a0:Int×List UInt8×List UInt8) (b1:Int×List UInt8×List UInt8):Option Bool:=(if (!(decide (a0.1=b1.1))) then some false else (if (!(decide (a0.2.1=b1.2.1))) then some false else (if (!(decide (a0.2.2=b1.2.2))) then some false else some true)))
def z1jh:FE:=⟨(.pr U8 U8),1,.bool,fun x=>znm x.1 x.2⟩
theorem z1ji:z8 Tryz.prog 28 (z1jh):=okC za xTn xOn Tryz.f28 (LOn _) xLn (by rintro ⟨a0,b1⟩; kernel_rfl)
def zft (k:Nat):Nat→zT4→zT4→Int→(Option Bool)→Option Bool
 | 0,_,_,_,_=>none
 | n+1,a0,b1,i5,e_0=>(if (decide (i5<(List.length a0:Int))) then (if 0≤i5 then (a0[i5.toNat]?).bind fun y_1=>(if 0≤i5 then (b1[i5.toNat]?).bind fun y_2=>(znm y_1 y_2).bind fun r_3=>(if (!r_3) then some false else zft k n a0 b1 (z6 (i5+1)) e_0) else none) else none) else e_0)
def zcm (k:Nat) (a0:List zT20) (b1:List zT20):Option Bool:=(if (!(decide ((List.length a0:Int)=(List.length b1:Int)))) then some false else zft k k a0 b1 0 (some true))
def z112:Head:=⟨[],[],[]⟩
def z113 (k:Nat):LD Bool:=⟨4,⟨[(0,(.val U22)),(1,(.val U22)),(5,V0)],[],[]⟩,[(0,z112)],fun n x kx=>zft k n x.1.1 x.1.2.1 x.1.2.2.1 (kx 0 (z112.fill ((),(),()))),k⟩
def z1jj (k:Nat):FE:=⟨(.pr U22 U22),1,.bool,fun x=>zcm k x.1 x.2⟩
theorem z1jk (k:Nat):z8 Tryz.prog 8 (z1jj k):=okC za (xTc z1ji xTn) xOn Tryz.f8 (orc (z113 k) (LOn _)) (xLo (z113 k) (by rintro n ⟨⟨a0,b1,i5,⟨⟩⟩,⟨⟩,⟨⟩⟩ kx; kernel_rfl) xLn) (by rintro ⟨a0,b1⟩; kernel_rfl)
def zfu (k:Nat):Nat→zT1→zT1→Int→(Option Bool)→Option Bool
 | 0,_,_,_,_=>none
 | n+1,a0,b1,i5,e_0=>(if (decide (i5<(List.length a0:Int))) then (if 0≤i5 then (a0[i5.toNat]?).bind fun y_1=>(if 0≤i5 then (b1[i5.toNat]?).bind fun y_2=>(if (!(decide (y_1=y_2))) then some false else zfu k n a0 b1 (z6 (i5+1)) e_0) else none) else none) else e_0)
def z7c (k:Nat) (a0:List Int) (b1:List Int):Option Bool:=(if (!(decide ((List.length a0:Int)=(List.length b1:Int)))) then some false else zfu k k a0 b1 0 (some true))
def z114:Head:=⟨[],[],[]⟩
def z115 (k:Nat):LD Bool:=⟨4,⟨[(0,V1),(1,V1),(5,V0)],[],[]⟩,[(0,z114)],fun n x kx=>zfu k n x.1.1 x.1.2.1 x.1.2.2.1 (kx 0 (z114.fill ((),(),()))),k⟩
def z1jl (k:Nat):FE:=⟨(.pr U5 U5),1,.bool,fun x=>z7c k x.1 x.2⟩
theorem znn (k:Nat):z8 Tryz.prog 30 (z1jl k):=okC za xTn xOn Tryz.f30 (orc (z115 k) (LOn _)) (xLo (z115 k) (by rintro n ⟨⟨a0,b1,i5,⟨⟩⟩,⟨⟩,⟨⟩⟩ kx; kernel_rfl) xLn) (by rintro ⟨a0,b1⟩; kernel_rfl)
def zfv (k:Nat):Nat→zT10→zT10→Int→(Option Bool)→Option Bool
 | 0,_,_,_,_=>none
 | n+1,a0,b1,i5,e_0=>(if (decide (i5<(List.length a0:Int))) then (if 0≤i5 then (a0[i5.toNat]?).bind fun y_1=>(if 0≤i5 then (b1[i5.toNat]?).bind fun y_2=>(z7c k y_1 y_2).bind fun r_3=>(if (!r_3) then some false else zfv k n a0 b1 (z6 (i5+1)) e_0) else none) else none) else e_0)
def zno (k:Nat) (a0:List zT1) (b1:List zT1):Option Bool:=(if (!(decide ((List.length a0:Int)=(List.length b1:Int)))) then some false else zfv k k a0 b1 0 (some true))
def z116:Head:=⟨[],[],[]⟩
def z117 (k:Nat):LD Bool:=⟨4,⟨[(0,V3),(1,V3),(5,V0)],[],[]⟩,[(0,z116)],fun n x kx=>zfv k n x.1.1 x.1.2.1 x.1.2.2.1 (kx 0 (z116.fill ((),(),()))),k⟩
def z1jm (k:Nat):FE:=⟨(.pr U16 U16),1,.bool,fun x=>zno k x.1 x.2⟩
theorem z1jn (k:Nat):z8 Tryz.prog 129 (z1jm k):=okC za (xTc (znn k) xTn) xOn Tryz.f129 (orc (z117 k) (LOn _)) (xLo (z117 k) (by rintro n ⟨⟨a0,b1,i5,⟨⟩⟩,⟨⟩,⟨⟩⟩ kx; kernel_rfl) xLn) (by rintro ⟨a0,b1⟩; kernel_rfl)
def znp (k:Nat) (a0:List zT1) (b1:List zT1):Option Bool:=(zno k a0 b1).bind fun r_1=>(if (!r_1) then some false else some true)
def z1jo (k:Nat):FE:=⟨(.pr U10 U10),1,.bool,fun x=>znp k x.1 x.2⟩
theorem z1jp (k:Nat):z8 Tryz.prog 69 (z1jo k):=okC za (xTc (z1jn k) xTn) xOn Tryz.f69 (LOn _) xLn (by rintro ⟨a0,b1⟩; kernel_rfl)
def znq (k:Nat) (a0:Int×Int×Int×List Int) (b1:Int×Int×Int×List Int):Option Bool:=(if (!(decide (a0.1=b1.1))) then some false else (if (!(decide (a0.2.1=b1.2.1))) then some false else (if (!(decide (a0.2.2.1=b1.2.2.1))) then some false else (z7c k a0.2.2.2 b1.2.2.2).bind fun r_1=>(if (!r_1) then some false else some true))))
def z1jq (k:Nat):FE:=⟨(.pr U1 U1),1,.bool,fun x=>znq k x.1 x.2⟩
theorem z1jr (k:Nat):z8 Tryz.prog 130 (z1jq k):=okC za (xTc (znn k) xTn) xOn Tryz.f130 (LOn _) xLn (by rintro ⟨a0,b1⟩; kernel_rfl)
def zfw (k:Nat):Nat→zT22→zT22→Int→(Option Bool)→Option Bool
 | 0,_,_,_,_=>none
 | n+1,a0,b1,i5,e_0=>(if (decide (i5<(List.length a0:Int))) then (if 0≤i5 then (a0[i5.toNat]?).bind fun y_1=>(if 0≤i5 then (b1[i5.toNat]?).bind fun y_2=>(znq k y_1 y_2).bind fun r_3=>(if (!r_3) then some false else zfw k n a0 b1 (z6 (i5+1)) e_0) else none) else none) else e_0)
def znr (k:Nat) (a0:List zT0) (b1:List zT0):Option Bool:=(if (!(decide ((List.length a0:Int)=(List.length b1:Int)))) then some false else zfw k k a0 b1 0 (some true))
def z118:Head:=⟨[],[],[]⟩
def z119 (k:Nat):LD Bool:=⟨4,⟨[(0,(.val (.sl 136 U1))),(1,(.val (.sl 136 U1))),(5,V0)],[],[]⟩,[(0,z118)],fun n x kx=>zfw k n x.1.1 x.1.2.1 x.1.2.2.1 (kx 0 (z118.fill ((),(),()))),k⟩
def z1js (k:Nat):FE:=⟨(.pr (.sl 136 U1) (.sl 136 U1)),1,.bool,fun x=>znr k x.1 x.2⟩
theorem z1jt (k:Nat):z8 Tryz.prog 70 (z1js k):=okC za (xTc (z1jr k) xTn) xOn Tryz.f70 (orc (z119 k) (LOn _)) (xLo (z119 k) (by rintro n ⟨⟨a0,b1,i5,⟨⟩⟩,⟨⟩,⟨⟩⟩ kx; kernel_rfl) xLn) (by rintro ⟨a0,b1⟩; kernel_rfl)
def zns (k:Nat) (a0:List zT1×Int×List Int×List zT0) (b1:List zT1×Int×List Int×List zT0):Option Bool:=(znp k a0.1 b1.1).bind fun r_1=>(if (!r_1) then some false else (if (!(decide (a0.2.1=b1.2.1))) then some false else (z7c k a0.2.2.1 b1.2.2.1).bind fun r_2=>(if (!r_2) then some false else (znr k a0.2.2.2 b1.2.2.2).bind fun r_3=>(if (!r_3) then some false else some true))))
def z1ju (k:Nat):FE:=⟨(.pr U4 U4),1,.bool,fun x=>zns k x.1 x.2⟩
theorem z1jv (k:Nat):z8 Tryz.prog 29 (z1ju k):=okC za (xTc (z1jp k) (xTc (znn k) (xTc (z1jt k) xTn))) xOn Tryz.f29 (LOn _) xLn (by rintro ⟨a0,b1⟩; kernel_rfl)
def znt (a0:Int×Int×Int) (b1:Int×Int×Int):Option Bool:=(if (!(decide (a0.1=b1.1))) then some false else (if (!(decide (a0.2.1=b1.2.1))) then some false else (if (!(decide (a0.2.2=b1.2.2))) then some false else some true)))
def z1jw:FE:=⟨(.pr U3 U3),1,.bool,fun x=>znt x.1 x.2⟩
theorem z1jx:z8 Tryz.prog 131 (z1jw):=okC za xTn xOn Tryz.f131 (LOn _) xLn (by rintro ⟨a0,b1⟩; kernel_rfl)
def zfx (k:Nat):Nat→zT14→zT14→Int→(Option Bool)→Option Bool
 | 0,_,_,_,_=>none
 | n+1,a0,b1,i5,e_0=>(if (decide (i5<(List.length a0:Int))) then (if 0≤i5 then (a0[i5.toNat]?).bind fun y_1=>(if 0≤i5 then (b1[i5.toNat]?).bind fun y_2=>(znt y_1 y_2).bind fun r_3=>(if (!r_3) then some false else zfx k n a0 b1 (z6 (i5+1)) e_0) else none) else none) else e_0)
def znu (k:Nat) (a0:List zT2) (b1:List zT2):Option Bool:=(if (!(decide ((List.length a0:Int)=(List.length b1:Int)))) then some false else zfx k k a0 b1 0 (some true))
def z11a:Head:=⟨[],[],[]⟩
def z11b (k:Nat):LD Bool:=⟨4,⟨[(0,V10),(1,V10),(5,V0)],[],[]⟩,[(0,z11a)],fun n x kx=>zfx k n x.1.1 x.1.2.1 x.1.2.2.1 (kx 0 (z11a.fill ((),(),()))),k⟩
def z1jy (k:Nat):FE:=⟨(.pr U27 U27),1,.bool,fun x=>znu k x.1 x.2⟩
theorem z1jz (k:Nat):z8 Tryz.prog 71 (z1jy k):=okC za (xTc z1jx xTn) xOn Tryz.f71 (orc (z11b k) (LOn _)) (xLo (z11b k) (by rintro n ⟨⟨a0,b1,i5,⟨⟩⟩,⟨⟩,⟨⟩⟩ kx; kernel_rfl) xLn) (by rintro ⟨a0,b1⟩; kernel_rfl)
def znv (k:Nat) (a0:Int×Int×Int×List zT2) (b1:Int×Int×Int×List zT2):Option Bool:=(if (!(decide (a0.1=b1.1))) then some false else (if (!(decide (a0.2.1=b1.2.1))) then some false else (if (!(decide (a0.2.2.1=b1.2.2.1))) then some false else (znu k a0.2.2.2 b1.2.2.2).bind fun r_1=>(if (!r_1) then some false else some true))))
def z1k0 (k:Nat):FE:=⟨(.pr U6 U6),1,.bool,fun x=>znv k x.1 x.2⟩
theorem z1k1 (k:Nat):z8 Tryz.prog 31 (z1k0 k):=okC za (xTc (z1jz k) xTn) xOn Tryz.f31 (LOn _) xLn (by rintro ⟨a0,b1⟩; kernel_rfl)
def znw (a0:Int×Int×Int) (b1:Int×Int×Int):Option Bool:=(if (!(decide (a0.1=b1.1))) then some false else (if (!(decide (a0.2.1=b1.2.1))) then some false else (if (!(decide (a0.2.2=b1.2.2))) then some false else some true)))
def z1k2:FE:=⟨(.pr U3 U3),1,.bool,fun x=>znw x.1 x.2⟩
theorem z1k3:z8 Tryz.prog 132 (z1k2):=okC za xTn xOn Tryz.f132 (LOn _) xLn (by rintro ⟨a0,b1⟩; kernel_rfl)
def zfy (k:Nat):Nat→zT14→zT14→Int→(Option Bool)→Option Bool
 | 0,_,_,_,_=>none
 | n+1,a0,b1,i5,e_0=>(if (decide (i5<(List.length a0:Int))) then (if 0≤i5 then (a0[i5.toNat]?).bind fun y_1=>(if 0≤i5 then (b1[i5.toNat]?).bind fun y_2=>(znw y_1 y_2).bind fun r_3=>(if (!r_3) then some false else zfy k n a0 b1 (z6 (i5+1)) e_0) else none) else none) else e_0)
def znx (k:Nat) (a0:List zT2) (b1:List zT2):Option Bool:=(if (!(decide ((List.length a0:Int)=(List.length b1:Int)))) then some false else zfy k k a0 b1 0 (some true))
def z11c:Head:=⟨[],[],[]⟩
def z11d (k:Nat):LD Bool:=⟨4,⟨[(0,(.val U29)),(1,(.val U29)),(5,V0)],[],[]⟩,[(0,z11c)],fun n x kx=>zfy k n x.1.1 x.1.2.1 x.1.2.2.1 (kx 0 (z11c.fill ((),(),()))),k⟩
def z1k4 (k:Nat):FE:=⟨(.pr U29 U29),1,.bool,fun x=>znx k x.1 x.2⟩
theorem z1k5 (k:Nat):z8 Tryz.prog 72 (z1k4 k):=okC za (xTc z1k3 xTn) xOn Tryz.f72 (orc (z11d k) (LOn _)) (xLo (z11d k) (by rintro n ⟨⟨a0,b1,i5,⟨⟩⟩,⟨⟩,⟨⟩⟩ kx; kernel_rfl) xLn) (by rintro ⟨a0,b1⟩; kernel_rfl)
def zny (k:Nat) (a0:Int×Int×List zT2) (b1:Int×Int×List zT2):Option Bool:=(if (!(decide (a0.1=b1.1))) then some false else (if (!(decide (a0.2.1=b1.2.1))) then some false else (znx k a0.2.2 b1.2.2).bind fun r_1=>(if (!r_1) then some false else some true)))
def z1k6 (k:Nat):FE:=⟨(.pr U9 U9),1,.bool,fun x=>zny k x.1 x.2⟩
theorem z1k7 (k:Nat):z8 Tryz.prog 32 (z1k6 k):=okC za (xTc (z1k5 k) xTn) xOn Tryz.f32 (LOn _) xLn (by rintro ⟨a0,b1⟩; kernel_rfl)
def znz (k:Nat) (a0:zT3×Int×List Int×List Int×zT5×List Int×List Int×zT7×List Int) (b1:zT3×Int×List Int×List Int×zT5×List Int×List Int×zT7×List Int):Option Bool:=(zns k a0.1 b1.1).bind fun r_1=>(if (!r_1) then some false else (if (!(decide (a0.2.1=b1.2.1))) then some false else (z7c k a0.2.2.1 b1.2.2.1).bind fun r_2=>(if (!r_2) then some false else (z7c k a0.2.2.2.1 b1.2.2.2.1).bind fun r_3=>(if (!r_3) then some false else (znv k a0.2.2.2.2.1 b1.2.2.2.2.1).bind fun r_4=>(if (!r_4) then some false else (z7c k a0.2.2.2.2.2.1 b1.2.2.2.2.2.1).bind fun r_5=>(if (!r_5) then some false else (z7c k a0.2.2.2.2.2.2.1 b1.2.2.2.2.2.2.1).bind fun r_6=>(if (!r_6) then some false else (zny k a0.2.2.2.2.2.2.2.1 b1.2.2.2.2.2.2.2.1).bind fun r_7=>(if (!r_7) then some false else (z7c k a0.2.2.2.2.2.2.2.2 b1.2.2.2.2.2.2.2.2).bind fun r_8=>(if (!r_8) then some false else some true)))))))))
def z1k8 (k:Nat):FE:=⟨(.pr U2 U2),1,.bool,fun x=>znz k x.1 x.2⟩
theorem z1k9 (k:Nat):z8 Tryz.prog 9 (z1k8 k):=okC za (xTc (z1jv k) (xTc (znn k) (xTc (z1k1 k) (xTc (z1k7 k) xTn)))) xOn Tryz.f9 (LOn _) xLn (by rintro ⟨a0,b1⟩; kernel_rfl)
def zfz (k:Nat):Nat→Nat→Int→Int→zT10→(Int→zT10→Option zT13)→Option zT13
 | 0,_,_,_,_,_=>none
 | n+1,a0n0,k1,i5,q_2,e_0=>(q_2[a0n0]?).bind fun y_3=>(if (decide (i5<(List.length y_3:Int))) then (q_2[a0n0]?).bind fun y_4=>(if 0≤i5∧i5.toNat<List.length y_4 then (q_2[a0n0]?).bind fun y_5=>(y_5[i5.toNat]?).bind fun y_6=>(q_2[a0n0]?).bind fun y_7=>(y_7[i5.toNat]?).bind fun y_8=>zfz k n a0n0 (z6 (k1+1)) (z6 (i5+1)) (q_2.set a0n0 (y_7.set i5.toNat k1)) e_0 else none) else e_0 k1 q_2)
def zo0 (k:Nat) (a0n0:Nat) (k1:Int) (q_1:List zT1):Option zT13:=zfz k k a0n0 k1 0 q_1 (fun k_9 q_10=>some ((k_9,()),(q_10,()),()))
def z11e:Head:=⟨[(1,V0)],[(1000000000,25,U5,false)],[]⟩
def z11f (k:Nat):LD zT13:=⟨2,⟨[(0,(.ref 1000000000 [.ix])),(1,V0),(5,V0)],[(1000000000,25,U5,false)],[]⟩,[(0,z11e)],fun n x kx=>zfz k n x.1.1.1 x.1.2.1 x.1.2.2.1 x.2.1.1 (fun k1 q_9=>kx 0 (z11e.fill ((k1,()),(q_9,()),()))),k⟩
def z1ka (k:Nat):OC:=⟨⟨[(0,(.ref 1000000000 [.ix])),(1,V0)],[(1000000000,25,U5,false)],[]⟩,⟨[(0,V0)],[(1000000000,25,U5,false)],[]⟩,fun x=>zo0 k x.1.1.1 x.1.2.1 x.2.1.1,false⟩
theorem z1kb (k:Nat):z1f Tryz.prog ti 34 (z1ka k):=okO za xTn xOn Tryz.f34 (orc (z11f k) (LOn _)) (fun _ _=>xLo (z11f k) (by rintro n ⟨⟨⟨a0n0,⟨⟩⟩,k1,i5,⟨⟩⟩,⟨q_2,⟨⟩⟩,⟨⟩⟩ kx; kernel_rfl) xLn) (by rintro _ _ ⟨⟨⟨a0n0,⟨⟩⟩,k1,⟨⟩⟩,⟨q_1,⟨⟩⟩,⟨⟩⟩; kernel_rfl)
def zg0 (k:Nat):Nat→Int→Int→zT10→(Int→zT10→Option zT13)→Option zT13
 | 0,_,_,_,_=>none
 | n+1,k1,i5,q_2,e_0=>(if (decide (i5<(List.length q_2:Int))) then (if 0≤i5∧i5.toNat<List.length q_2 then (q_2[i5.toNat]?).bind fun y_3=>(zo0 k i5.toNat k1 q_2).bind fun y_4=>zg0 k n y_4.1.1 (z6 (i5+1)) y_4.2.1.1 e_0 else none) else e_0 k1 q_2)
def zo1 (k:Nat) (k1:Int) (q_1:List zT1):Option zT13:=zg0 k k k1 0 q_1 (fun k_5 q_6=>some ((k_5,()),(q_6,()),()))
def z11g:Head:=⟨[(1,V0)],[(1000000000,25,U5,false)],[]⟩
def z11h (k:Nat):LD zT13:=⟨2,⟨[(0,(.ref 1000000000 [])),(1,V0),(5,V0)],[(1000000000,25,U5,false)],[]⟩,[(0,z11g)],fun n x kx=>zg0 k n x.1.2.1 x.1.2.2.1 x.2.1.1 (fun k1 q_6=>kx 0 (z11g.fill ((k1,()),(q_6,()),()))),k⟩
def z1kc (k:Nat):OC:=⟨⟨[(0,(.ref 1000000000 [])),(1,V0)],[(1000000000,25,U5,false)],[]⟩,⟨[(0,V0)],[(1000000000,25,U5,false)],[]⟩,fun x=>zo1 k x.1.2.1 x.2.1.1,false⟩
theorem z1kd (k:Nat):z1f Tryz.prog ti 133 (z1kc k):=okO za xTn (xOc 17 (z1kb k) xOn) Tryz.f133 (orc (z11h k) (LOn _)) (fun _ _=>xLo (z11h k) (by rintro n ⟨⟨⟨⟩,k1,i5,⟨⟩⟩,⟨q_2,⟨⟩⟩,⟨⟩⟩ kx; kernel_rfl) xLn) (by rintro _ _ ⟨⟨⟨⟩,k1,⟨⟩⟩,⟨q_1,⟨⟩⟩,⟨⟩⟩; kernel_rfl)
def zt8 (k:Nat) (k1:Int) (q_1:List zT1):Option zT13:=(zo1 k k1 q_1).bind fun y_2=>some ((y_2.1.1,()),(y_2.2.1.1,()),())
def z1ke (k:Nat):OC:=⟨⟨[(0,(.st (.ref 1000000000 []))),(1,V0)],[(1000000000,25,U5,false)],[]⟩,⟨[(0,V0)],[(1000000000,25,U5,false)],[]⟩,fun x=>zt8 k x.1.2.1 x.2.1.1,false⟩
theorem z1kf (k:Nat):z1f Tryz.prog ti 73 (z1ke k):=okO za xTn (xOc 8 (z1kd k) xOn) Tryz.f73 (LOn _) (fun _ _=>xLn) (by rintro _ _ ⟨⟨⟨⟩,k1,⟨⟩⟩,⟨q_1,⟨⟩⟩,⟨⟩⟩; kernel_rfl)
def zg1 (k:Nat):Nat→Int→Int→zT1→(Int→zT1→Option zT18)→Option zT18
 | 0,_,_,_,_=>none
 | n+1,k1,i5,q_2,e_0=>(if (decide (i5<(List.length q_2:Int))) then (if 0≤i5∧i5.toNat<List.length q_2 then (q_2[i5.toNat]?).bind fun y_3=>(q_2[i5.toNat]?).bind fun y_4=>zg1 k n (z6 (k1+1)) (z6 (i5+1)) (q_2.set i5.toNat k1) e_0 else none) else e_0 k1 q_2)
def z9g (k:Nat) (k1:Int) (q_1:List Int):Option zT18:=zg1 k k k1 0 q_1 (fun k_5 q_6=>some ((k_5,()),(q_6,()),()))
def z11i:Head:=⟨[(1,V0)],[(1000000000,2,U0,false)],[]⟩
def z11j (k:Nat):LD zT18:=⟨2,⟨[(0,(.ref 1000000000 [])),(1,V0),(5,V0)],[(1000000000,2,U0,false)],[]⟩,[(0,z11i)],fun n x kx=>zg1 k n x.1.2.1 x.1.2.2.1 x.2.1.1 (fun k1 q_5=>kx 0 (z11i.fill ((k1,()),(q_5,()),()))),k⟩
def z1kg (k:Nat):OC:=⟨⟨[(0,(.ref 1000000000 [])),(1,V0)],[(1000000000,2,U0,false)],[]⟩,⟨[(0,V0)],[(1000000000,2,U0,false)],[]⟩,fun x=>z9g k x.1.2.1 x.2.1.1,false⟩
theorem zg2 (k:Nat):z1f Tryz.prog ti 34 (z1kg k):=okO za xTn xOn Tryz.f34 (orc (z11j k) (LOn _)) (fun _ _=>xLo (z11j k) (by rintro n ⟨⟨⟨⟩,k1,i5,⟨⟩⟩,⟨q_2,⟨⟩⟩,⟨⟩⟩ kx; kernel_rfl) xLn) (by rintro _ _ ⟨⟨⟨⟩,k1,⟨⟩⟩,⟨q_1,⟨⟩⟩,⟨⟩⟩; kernel_rfl)
end
end Go.Proofs.YtiodkblajaenbaaGreatDoor.Ev
