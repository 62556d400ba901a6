/- Functions of the program, as plain ones. No conditions. -/
import Derived.Test.YtfinlkoplekgkaaGreatDoorG10
import Derived.KernelRfl
set_option linter.unusedVariables false
set_option maxRecDepth 100000
namespace Go.Proofs.YtfinlkoplekgkaaGreatDoor.Ev
open Go.RowKit
noncomputable section
def zcd (k:Nat):Nat→zT1→zT11→Int→Int→zT1→zT6→(zT1→Option zT1)→Option zT1
 | 0,_,_,_,_,_,_,_=>none
 | n+1,phases1,x9,x10,x11,q_1,v_2,e_0=>(if (decide (x11<x10)) then (if 0≤x11 then (x9[x11.toNat]?).bind fun y_2=>(if 0≤y_2.1 then (phases1[y_2.1.toNat]?).bind fun y_3=>(if v_2.2.1=0 then none else (if 0≤y_2.2.1 then (phases1[y_2.2.1.toNat]?).bind fun y_4=>(if (!(decide ((Int.tmod (z6 (y_3+y_2.2.2)) v_2.2.1)=y_4))) then (if (q_1.length+[x11].length)*8≤LIM then zcd k n phases1 x9 x10 (z6 (x11+1)) (q_1++[x11]) v_2 e_0 else none) else zcd k n phases1 x9 x10 (z6 (x11+1)) q_1 v_2 e_0) else none)) else none) else none) else e_0 q_1)
def zmw (k:Nat) (x0:Int×Int×List zT2) (phases1:List Int):Option zT1:=zcd k k phases1 x0.2.2 (List.length x0.2.2:Int) 0 [] x0 (fun q_5=>some q_5)
def zzs:Head:=⟨[(5,(.ref P0 []))],[(P0,2,U0,false)],[]⟩
def zzt (k:Nat):LD zT1:=⟨3,⟨[(1,V1),(2,(.bp 2 [] 0)),(5,(.ref P0 [])),(9,(.val U28)),(10,V0),(11,V0)],[(P0,2,U0,false)],[(2,48,(.val U10))]⟩,[(0,zzs)],fun n x kx=>zcd k n x.1.1 x.1.2.2.2.1 x.1.2.2.2.2.1 x.1.2.2.2.2.2.1 x.2.1.1 x.2.2.1 (fun q_5=>kx 0 (zzs.fill (((),()),(q_5,()),()))),k⟩
def z1hc (k:Nat):FE:=⟨(.pr U10 U5),1,U5,fun x=>zmw k x.1 x.2⟩
theorem z1hd (k:Nat):z8 Tryz.prog 89 (z1hc k):=okC zb xTn xOn Tryz.f89 (orc (zzt k) (LOn _)) (xLo (zzt k) (by rintro n ⟨⟨phases1,⟨⟩,⟨⟩,x9,x10,x11,⟨⟩⟩,⟨q_1,⟨⟩⟩,⟨v_2,⟨⟩⟩⟩ kx; kernel_rfl) xLn) (by rintro ⟨x0,phases1⟩; kernel_rfl)
def zfk (k:Nat):Nat→Int→Int→zT4→zT1→zT9→(zT4→Option zT4)→Option zT4
 | 0,_,_,_,_,_,_=>none
 | n+1,x12,x13,q_2,q_3,v_1,e_0=>(if (decide (x13<x12)) then (if 0≤x13∧x13.toNat<List.length q_3 then (q_3[x13.toNat]?).bind fun y_4=>(if 0≤y_4 then (v_1.2.2.2.2.2.2.2.1.2.2[y_4.toNat]?).bind fun y_5=>(zc8 k [y_5.1,y_5.2.1]).bind fun r_6=>(if (q_2.length+[(5,(r_6,[115,104,105,102,116]))].length)*40≤LIM then zfk k n x12 (z6 (x13+1)) (q_2++[(5,(r_6,[115,104,105,102,116]))]) q_3 v_1 e_0 else none) else none) else none) else e_0 q_2)
def zix (k:Nat) (w0:zT3×Int×List Int×List Int×zT5×List Int×List Int×zT6×List Int):Option zT4:=(zmw k w0.2.2.2.2.2.2.2.1 w0.2.2.2.2.2.2.2.2).bind fun r_1=>zfk k k (List.length r_1:Int) 0 [] r_1 w0 (fun q_7=>some q_7)
def zzu:Head:=⟨[(3,(.ref P0 []))],[(P0,119,U9,false)],[]⟩
def zzv (k:Nat):LD zT4:=⟨3,⟨[(1,(.bp 1 [] 0)),(3,(.ref P0 [])),(11,(.ref P1 [])),(12,V0),(13,V0)],[(P0,119,U9,false),(P1,2,U0,false)],[(1,50,(.val U13))]⟩,[(0,zzu)],fun n x kx=>zfk k n x.1.2.2.2.1 x.1.2.2.2.2.1 x.2.1.1 x.2.1.2.1 x.2.2.1 (fun q_7=>kx 0 (zzu.fill (((),()),(q_7,()),()))),k⟩
def z1he (k:Nat):FE:=⟨U13,1,U25,fun x=>zix k x⟩
theorem z1hf (k:Nat):z8 Tryz.prog 47 (z1he k):=okC zb (xTc (z1hd k) (xTc (zs9 k) xTn)) xOn Tryz.f47 (orc (zzv k) (LOn _)) (xLo (zzv k) (by rintro n ⟨⟨⟨⟩,⟨⟩,⟨⟩,x12,x13,⟨⟩⟩,⟨q_2,q_3,⟨⟩⟩,⟨v_1,⟨⟩⟩⟩ kx; kernel_rfl) xLn) (by rintro w0; kernel_rfl)
def z3i (k:Nat):Nat→(List Nat)→Int→Int→zT4→zT9→(zT4→Option (zT4×Int))→Option (zT4×Int)
 | 0,_,_,_,_,_,_=>none
 | n+1,x12,x13,x14,q_2,v_2,e_0=>(if (decide (x14<x13)) then (if 0≤x14 then (x12[x14.toNat]?).bind fun y_3=>(if y_3=44 then (zim k v_2).bind fun r_4=>(if (q_2.length+r_4.length)*40≤LIM then z3i k n x12 x13 (z6 (x14+1)) (q_2++r_4) v_2 e_0 else none) else (if y_3=45 then (zis k v_2).bind fun r_5=>(if (q_2.length+r_5.length)*40≤LIM then z3i k n x12 x13 (z6 (x14+1)) (q_2++r_5) v_2 e_0 else none) else (if y_3=46 then (ziv k v_2).bind fun r_6=>(if (q_2.length+r_6.length)*40≤LIM then z3i k n x12 x13 (z6 (x14+1)) (q_2++r_6) v_2 e_0 else none) else (if y_3=47 then (zix k v_2).bind fun r_7=>(if (q_2.length+r_7.length)*40≤LIM then z3i k n x12 x13 (z6 (x14+1)) (q_2++r_7) v_2 e_0 else none) else none)))) else none) else e_0 q_2)
def zsc (k:Nat) (w0:zT3×Int×List Int×List Int×zT5×List Int×List Int×zT6×List Int) (functions1:List Nat):Option (zT4×Int):=(zmx k w0).bind fun r_1=>(if (!r_1) then some ([],1) else z3i k k functions1 (List.length functions1:Int) 0 [] w0 (fun q_8=>some (q_8,0)))
def zzw:Head:=⟨[(6,(.ref P0 []))],[(P0,119,U9,false)],[]⟩
def zzx (k:Nat):LD (zT4×Int):=⟨5,⟨[(2,(.bp 2 [] 0)),(6,(.ref P0 [])),(12,(.val (.sl 92 (.fs [44,45,46,47])))),(13,V0),(14,V0)],[(P0,119,U9,false)],[(2,50,(.val U13))]⟩,[(0,zzw)],fun n x kx=>z3i k n x.1.2.2.1 x.1.2.2.2.1 x.1.2.2.2.2.1 x.2.1.1 x.2.2.1 (fun q_8=>kx 0 (zzw.fill (((),()),(q_8,()),()))),k⟩
def z1hg (k:Nat):FE:=⟨(.pr U13 (.sl 92 (.fs [44,45,46,47]))),2,(.pr U25 U0),fun x=>zsc k x.1 x.2⟩
theorem z1hh (k:Nat):z8 Tryz.prog 43 (z1hg k):=okC zb (xTc (z1hi k) (xTc (z1gr k) (xTc (z1gz k) (xTc (z1hb k) (xTc (z1hf k) xTn))))) xOn Tryz.f43 (orc (zzx k) (LOn _)) (xLo (zzx k) (by rintro n ⟨⟨⟨⟩,⟨⟩,x12,x13,x14,⟨⟩⟩,⟨q_2,⟨⟩⟩,⟨v_2,⟨⟩⟩⟩ kx; kernel_rfl) xLn) (by rintro ⟨w0,functions1⟩; kernel_rfl)
def zmy (k:Nat) (w0:zT3×Int×List Int×List Int×zT5×List Int×List Int×zT6×List Int):Option (zT4×Int):=(zsc k w0 [44,45,46,47]).bind fun r_1=>some (r_1.1,r_1.2)
def z1hj (k:Nat):FE:=⟨U13,2,(.pr U25 U0),fun x=>zmy k x⟩
theorem z1hk (k:Nat):z8 Tryz.prog 19 (z1hj k):=okC zb (xTc (z1hh k) xTn) xOn Tryz.f19 (LOn _) xLn (by rintro w0; kernel_rfl)
def zmz (k:Nat) (w0:zT3×Int×List Int×List Int×zT5×List Int×List Int×zT6×List Int):Option Bool:=(zmy k w0).bind fun r_1=>(if (decide (r_1.2=0)) then some (decide ((List.length r_1.1:Int)=0)) else some false)
def z1hl (k:Nat):FE:=⟨U13,1,.bool,fun x=>zmz k x⟩
theorem z1hm (k:Nat):z8 Tryz.prog 7 (z1hl k):=okC zb (xTc (z1hk k) xTn) xOn Tryz.f7 (LOn _) xLn (by rintro w0; kernel_rfl)
def zfl (k:Nat):Nat→zT1→zT1→Int→(Option Bool)→Option Bool
 | 0,_,_,_,_=>none
 | n+1,a0,b1,i5,e_0=>(if (decide (i5<(List.length a0:Int))) then (if 0≤i5 then (a0[i5.toNat]?).bind fun y_1=>(if 0≤i5 then (b1[i5.toNat]?).bind fun y_2=>(if (!(decide (y_1=y_2))) then some false else zfl k n a0 b1 (z6 (i5+1)) e_0) else none) else none) else e_0)
def z7a (k:Nat) (a0:List Int) (b1:List Int):Option Bool:=(if (!(decide ((List.length a0:Int)=(List.length b1:Int)))) then some false else zfl k k a0 b1 0 (some true))
def zzy:Head:=⟨[],[],[]⟩
def zzz (k:Nat):LD Bool:=⟨4,⟨[(0,V1),(1,V1),(5,V0)],[],[]⟩,[(0,zzy)],fun n x kx=>zfl k n x.1.1 x.1.2.1 x.1.2.2.1 (kx 0 (zzy.fill ((),(),()))),k⟩
def z1hn (k:Nat):FE:=⟨(.pr U5 U5),1,.bool,fun x=>z7a k x.1 x.2⟩
theorem zn0 (k:Nat):z8 Tryz.prog 21 (z1hn k):=okC zb xTn xOn Tryz.f21 (orc (zzz k) (LOn _)) (xLo (zzz k) (by rintro n ⟨⟨a0,b1,i5,⟨⟩⟩,⟨⟩,⟨⟩⟩ kx; kernel_rfl) xLn) (by rintro ⟨a0,b1⟩; kernel_rfl)
def zfm (k:Nat):Nat→zT10→zT10→Int→(Option Bool)→Option Bool
 | 0,_,_,_,_=>none
 | n+1,a0,b1,i5,e_0=>(if (decide (i5<(List.length a0:Int))) then (if 0≤i5 then (a0[i5.toNat]?).bind fun y_1=>(if 0≤i5 then (b1[i5.toNat]?).bind fun y_2=>(z7a k y_1 y_2).bind fun r_3=>(if (!r_3) then some false else zfm k n a0 b1 (z6 (i5+1)) e_0) else none) else none) else e_0)
def zn1 (k:Nat) (a0:List zT1) (b1:List zT1):Option Bool:=(if (!(decide ((List.length a0:Int)=(List.length b1:Int)))) then some false else zfm k k a0 b1 0 (some true))
def z100:Head:=⟨[],[],[]⟩
def z101 (k:Nat):LD Bool:=⟨4,⟨[(0,V3),(1,V3),(5,V0)],[],[]⟩,[(0,z100)],fun n x kx=>zfm k n x.1.1 x.1.2.1 x.1.2.2.1 (kx 0 (z100.fill ((),(),()))),k⟩
def z1ho (k:Nat):FE:=⟨(.pr U16 U16),1,.bool,fun x=>zn1 k x.1 x.2⟩
theorem z1hp (k:Nat):z8 Tryz.prog 90 (z1ho k):=okC zb (xTc (zn0 k) xTn) xOn Tryz.f90 (orc (z101 k) (LOn _)) (xLo (z101 k) (by rintro n ⟨⟨a0,b1,i5,⟨⟩⟩,⟨⟩,⟨⟩⟩ kx; kernel_rfl) xLn) (by rintro ⟨a0,b1⟩; kernel_rfl)
def zn2 (k:Nat) (a0:List zT1) (b1:List zT1):Option Bool:=(zn1 k a0 b1).bind fun r_1=>(if (!r_1) then some false else some true)
def z1hq (k:Nat):FE:=⟨(.pr U8 U8),1,.bool,fun x=>zn2 k x.1 x.2⟩
theorem z1hr (k:Nat):z8 Tryz.prog 48 (z1hq k):=okC zb (xTc (z1hp k) xTn) xOn Tryz.f48 (LOn _) xLn (by rintro ⟨a0,b1⟩; kernel_rfl)
def zn3 (k:Nat) (a0:Int×Int×Int×List Int) (b1:Int×Int×Int×List Int):Option Bool:=(if (!(decide (a0.1=b1.1))) then some false else (if (!(decide (a0.2.1=b1.2.1))) then some false else (if (!(decide (a0.2.2.1=b1.2.2.1))) then some false else (z7a k a0.2.2.2 b1.2.2.2).bind fun r_1=>(if (!r_1) then some false else some true))))
def z1hs (k:Nat):FE:=⟨(.pr U3 U3),1,.bool,fun x=>zn3 k x.1 x.2⟩
theorem z1ht (k:Nat):z8 Tryz.prog 91 (z1hs k):=okC zb (xTc (zn0 k) xTn) xOn Tryz.f91 (LOn _) xLn (by rintro ⟨a0,b1⟩; kernel_rfl)
def zfn (k:Nat):Nat→zT15→zT15→Int→(Option Bool)→Option Bool
 | 0,_,_,_,_=>none
 | n+1,a0,b1,i5,e_0=>(if (decide (i5<(List.length a0:Int))) then (if 0≤i5 then (a0[i5.toNat]?).bind fun y_1=>(if 0≤i5 then (b1[i5.toNat]?).bind fun y_2=>(zn3 k y_1 y_2).bind fun r_3=>(if (!r_3) then some false else zfn k n a0 b1 (z6 (i5+1)) e_0) else none) else none) else e_0)
def zn4 (k:Nat) (a0:List zT0) (b1:List zT0):Option Bool:=(if (!(decide ((List.length a0:Int)=(List.length b1:Int)))) then some false else zfn k k a0 b1 0 (some true))
def z102:Head:=⟨[],[],[]⟩
def z103 (k:Nat):LD Bool:=⟨4,⟨[(0,(.val (.sl 106 U3))),(1,(.val (.sl 106 U3))),(5,V0)],[],[]⟩,[(0,z102)],fun n x kx=>zfn k n x.1.1 x.1.2.1 x.1.2.2.1 (kx 0 (z102.fill ((),(),()))),k⟩
def z1hu (k:Nat):FE:=⟨(.pr (.sl 106 U3) (.sl 106 U3)),1,.bool,fun x=>zn4 k x.1 x.2⟩
theorem z1hv (k:Nat):z8 Tryz.prog 49 (z1hu k):=okC zb (xTc (z1ht k) xTn) xOn Tryz.f49 (orc (z103 k) (LOn _)) (xLo (z103 k) (by rintro n ⟨⟨a0,b1,i5,⟨⟩⟩,⟨⟩,⟨⟩⟩ kx; kernel_rfl) xLn) (by rintro ⟨a0,b1⟩; kernel_rfl)
def zn5 (k:Nat) (a0:List zT1×Int×List Int×List zT0) (b1:List zT1×Int×List Int×List zT0):Option Bool:=(zn2 k a0.1 b1.1).bind fun r_1=>(if (!r_1) then some false else (if (!(decide (a0.2.1=b1.2.1))) then some false else (z7a k a0.2.2.1 b1.2.2.1).bind fun r_2=>(if (!r_2) then some false else (zn4 k a0.2.2.2 b1.2.2.2).bind fun r_3=>(if (!r_3) then some false else some true))))
def z1hw (k:Nat):FE:=⟨(.pr U1 U1),1,.bool,fun x=>zn5 k x.1 x.2⟩
theorem z1hx (k:Nat):z8 Tryz.prog 20 (z1hw k):=okC zb (xTc (z1hr k) (xTc (zn0 k) (xTc (z1hv k) xTn))) xOn Tryz.f20 (LOn _) xLn (by rintro ⟨a0,b1⟩; kernel_rfl)
def zn6 (a0:Int×Int×Int) (b1:Int×Int×Int):Option Bool:=(if (!(decide (a0.1=b1.1))) then some false else (if (!(decide (a0.2.1=b1.2.1))) then some false else (if (!(decide (a0.2.2=b1.2.2))) then some false else some true)))
def z1hy:FE:=⟨(.pr U4 U4),1,.bool,fun x=>zn6 x.1 x.2⟩
theorem z1hz:z8 Tryz.prog 92 (z1hy):=okC zb xTn xOn Tryz.f92 (LOn _) xLn (by rintro ⟨a0,b1⟩; kernel_rfl)
def zfo (k:Nat):Nat→zT11→zT11→Int→(Option Bool)→Option Bool
 | 0,_,_,_,_=>none
 | n+1,a0,b1,i5,e_0=>(if (decide (i5<(List.length a0:Int))) then (if 0≤i5 then (a0[i5.toNat]?).bind fun y_1=>(if 0≤i5 then (b1[i5.toNat]?).bind fun y_2=>(zn6 y_1 y_2).bind fun r_3=>(if (!r_3) then some false else zfo k n a0 b1 (z6 (i5+1)) e_0) else none) else none) else e_0)
def zn7 (k:Nat) (a0:List zT2) (b1:List zT2):Option Bool:=(if (!(decide ((List.length a0:Int)=(List.length b1:Int)))) then some false else zfo k k a0 b1 0 (some true))
def z104:Head:=⟨[],[],[]⟩
def z105 (k:Nat):LD Bool:=⟨4,⟨[(0,V10),(1,V10),(5,V0)],[],[]⟩,[(0,z104)],fun n x kx=>zfo k n x.1.1 x.1.2.1 x.1.2.2.1 (kx 0 (z104.fill ((),(),()))),k⟩
def z1i0 (k:Nat):FE:=⟨(.pr U26 U26),1,.bool,fun x=>zn7 k x.1 x.2⟩
theorem z1i1 (k:Nat):z8 Tryz.prog 50 (z1i0 k):=okC zb (xTc z1hz xTn) xOn Tryz.f50 (orc (z105 k) (LOn _)) (xLo (z105 k) (by rintro n ⟨⟨a0,b1,i5,⟨⟩⟩,⟨⟩,⟨⟩⟩ kx; kernel_rfl) xLn) (by rintro ⟨a0,b1⟩; kernel_rfl)
def zn8 (k:Nat) (a0:Int×Int×Int×List zT2) (b1:Int×Int×Int×List zT2):Option Bool:=(if (!(decide (a0.1=b1.1))) then some false else (if (!(decide (a0.2.1=b1.2.1))) then some false else (if (!(decide (a0.2.2.1=b1.2.2.1))) then some false else (zn7 k a0.2.2.2 b1.2.2.2).bind fun r_1=>(if (!r_1) then some false else some true))))
def z1i2 (k:Nat):FE:=⟨(.pr U6 U6),1,.bool,fun x=>zn8 k x.1 x.2⟩
theorem z1i3 (k:Nat):z8 Tryz.prog 22 (z1i2 k):=okC zb (xTc (z1i1 k) xTn) xOn Tryz.f22 (LOn _) xLn (by rintro ⟨a0,b1⟩; kernel_rfl)
def zn9 (a0:Int×Int×Int) (b1:Int×Int×Int):Option Bool:=(if (!(decide (a0.1=b1.1))) then some false else (if (!(decide (a0.2.1=b1.2.1))) then some false else (if (!(decide (a0.2.2=b1.2.2))) then some false else some true)))
def z1i4:FE:=⟨(.pr U4 U4),1,.bool,fun x=>zn9 x.1 x.2⟩
theorem z1i5:z8 Tryz.prog 93 (z1i4):=okC zb xTn xOn Tryz.f93 (LOn _) xLn (by rintro ⟨a0,b1⟩; kernel_rfl)
def zfp (k:Nat):Nat→zT11→zT11→Int→(Option Bool)→Option Bool
 | 0,_,_,_,_=>none
 | n+1,a0,b1,i5,e_0=>(if (decide (i5<(List.length a0:Int))) then (if 0≤i5 then (a0[i5.toNat]?).bind fun y_1=>(if 0≤i5 then (b1[i5.toNat]?).bind fun y_2=>(zn9 y_1 y_2).bind fun r_3=>(if (!r_3) then some false else zfp k n a0 b1 (z6 (i5+1)) e_0) else none) else none) else e_0)
def zna (k:Nat) (a0:List zT2) (b1:List zT2):Option Bool:=(if (!(decide ((List.length a0:Int)=(List.length b1:Int)))) then some false else zfp k k a0 b1 0 (some true))
def z106:Head:=⟨[],[],[]⟩
def z107 (k:Nat):LD Bool:=⟨4,⟨[(0,(.val U28)),(1,(.val U28)),(5,V0)],[],[]⟩,[(0,z106)],fun n x kx=>zfp k n x.1.1 x.1.2.1 x.1.2.2.1 (kx 0 (z106.fill ((),(),()))),k⟩
def z1i6 (k:Nat):FE:=⟨(.pr U28 U28),1,.bool,fun x=>zna k x.1 x.2⟩
theorem z1i7 (k:Nat):z8 Tryz.prog 51 (z1i6 k):=okC zb (xTc z1i5 xTn) xOn Tryz.f51 (orc (z107 k) (LOn _)) (xLo (z107 k) (by rintro n ⟨⟨a0,b1,i5,⟨⟩⟩,⟨⟩,⟨⟩⟩ kx; kernel_rfl) xLn) (by rintro ⟨a0,b1⟩; kernel_rfl)
def znb (k:Nat) (a0:Int×Int×List zT2) (b1:Int×Int×List zT2):Option Bool:=(if (!(decide (a0.1=b1.1))) then some false else (if (!(decide (a0.2.1=b1.2.1))) then some false else (zna k a0.2.2 b1.2.2).bind fun r_1=>(if (!r_1) then some false else some true)))
def z1i8 (k:Nat):FE:=⟨(.pr U10 U10),1,.bool,fun x=>znb k x.1 x.2⟩
theorem z1i9 (k:Nat):z8 Tryz.prog 23 (z1i8 k):=okC zb (xTc (z1i7 k) xTn) xOn Tryz.f23 (LOn _) xLn (by rintro ⟨a0,b1⟩; kernel_rfl)
def znc (k:Nat) (a0:zT3×Int×List Int×List Int×zT5×List Int×List Int×zT6×List Int) (b1:zT3×Int×List Int×List Int×zT5×List Int×List Int×zT6×List Int):Option Bool:=(zn5 k a0.1 b1.1).bind fun r_1=>(if (!r_1) then some false else (if (!(decide (a0.2.1=b1.2.1))) then some false else (z7a k a0.2.2.1 b1.2.2.1).bind fun r_2=>(if (!r_2) then some false else (z7a k a0.2.2.2.1 b1.2.2.2.1).bind fun r_3=>(if (!r_3) then some false else (zn8 k a0.2.2.2.2.1 b1.2.2.2.2.1).bind fun r_4=>(if (!r_4) then some false else (z7a k a0.2.2.2.2.2.1 b1.2.2.2.2.2.1).bind fun r_5=>(if (!r_5) then some false else (z7a k a0.2.2.2.2.2.2.1 b1.2.2.2.2.2.2.1).bind fun r_6=>(if (!r_6) then some false else (znb k a0.2.2.2.2.2.2.2.1 b1.2.2.2.2.2.2.2.1).bind fun r_7=>(if (!r_7) then some false else (z7a k a0.2.2.2.2.2.2.2.2 b1.2.2.2.2.2.2.2.2).bind fun r_8=>(if (!r_8) then some false else some true)))))))))
def z1ia (k:Nat):FE:=⟨(.pr U13 U13),1,.bool,fun x=>znc k x.1 x.2⟩
theorem z1ib (k:Nat):z8 Tryz.prog 8 (z1ia k):=okC zb (xTc (z1hx k) (xTc (zn0 k) (xTc (z1i3 k) (xTc (z1i9 k) xTn)))) xOn Tryz.f8 (LOn _) xLn (by rintro ⟨a0,b1⟩; kernel_rfl)
def znd (k:Nat) (aW0:zT3×Int×List Int×List Int×zT5×List Int×List Int×zT6×List Int):Option Bool:=(zm3 k aW0 1048576).bind fun r_1=>(if (decide (r_1<0)) then some true else (zf9 k aW0).bind fun r_2=>(zne k ((r_2.1.1,(r_2.1.2.1,(r_2.1.2.2.1,r_2.1.2.2.2))),(r_2.2.1,(r_2.2.2.1,(r_2.2.2.2.1,((r_2.2.2.2.2.1.1,(r_2.2.2.2.2.1.2.1,(r_2.2.2.2.2.1.2.2.1,r_2.2.2.2.2.1.2.2.2))),(r_2.2.2.2.2.2.1,(r_2.2.2.2.2.2.2.1,((r_2.2.2.2.2.2.2.2.1.1,(r_2.2.2.2.2.2.2.2.1.2.1,r_2.2.2.2.2.2.2.2.1.2.2)),r_2.2.2.2.2.2.2.2.2))))))))).bind fun r_3=>(zf9 k aW0).bind fun r_4=>(zmz k ((r_4.1.1,(r_4.1.2.1,(r_4.1.2.2.1,r_4.1.2.2.2))),(r_4.2.1,(r_4.2.2.1,(r_4.2.2.2.1,((r_4.2.2.2.2.1.1,(r_4.2.2.2.2.1.2.1,(r_4.2.2.2.2.1.2.2.1,r_4.2.2.2.2.1.2.2.2))),(r_4.2.2.2.2.2.1,(r_4.2.2.2.2.2.2.1,((r_4.2.2.2.2.2.2.2.1.1,(r_4.2.2.2.2.2.2.2.1.2.1,r_4.2.2.2.2.2.2.2.1.2.2)),r_4.2.2.2.2.2.2.2.2))))))))).bind fun r_5=>(if (!(r_5==r_3)) then some false else (zf9 k aW0).bind fun r_6=>(znc k ((r_4.1.1,(r_4.1.2.1,(r_4.1.2.2.1,r_4.1.2.2.2))),(r_4.2.1,(r_4.2.2.1,(r_4.2.2.2.1,((r_4.2.2.2.2.1.1,(r_4.2.2.2.2.1.2.1,(r_4.2.2.2.2.1.2.2.1,r_4.2.2.2.2.1.2.2.2))),(r_4.2.2.2.2.2.1,(r_4.2.2.2.2.2.2.1,((r_4.2.2.2.2.2.2.2.1.1,(r_4.2.2.2.2.2.2.2.1.2.1,r_4.2.2.2.2.2.2.2.1.2.2)),r_4.2.2.2.2.2.2.2.2)))))))) ((r_6.1.1,(r_6.1.2.1,(r_6.1.2.2.1,r_6.1.2.2.2))),(r_6.2.1,(r_6.2.2.1,(r_6.2.2.2.1,((r_6.2.2.2.2.1.1,(r_6.2.2.2.2.1.2.1,(r_6.2.2.2.2.1.2.2.1,r_6.2.2.2.2.1.2.2.2))),(r_6.2.2.2.2.2.1,(r_6.2.2.2.2.2.2.1,((r_6.2.2.2.2.2.2.2.1.1,(r_6.2.2.2.2.2.2.2.1.2.1,r_6.2.2.2.2.2.2.2.1.2.2)),r_6.2.2.2.2.2.2.2.2))))))))).bind fun r_7=>(if (!r_7) then some false else some true)))
def z1ic (k:Nat):FE:=⟨U33,1,.bool,fun x=>znd k x⟩
theorem z1id (k:Nat):z8 Tryz.prog 3 (z1ic k):=okC zb (xTc (z1fb k) (xTc (z1g0 k) (xTc (z1ie k) (xTc (z1hm k) (xTc (z1ib k) xTn))))) xOn Tryz.f3 (LOn _) xLn (by rintro aW0; kernel_rfl)
end
end Go.Proofs.YtfinlkoplekgkaaGreatDoor.Ev
