/- Functions of the program, as plain ones. No conditions. -/
import Derived.Test.YtfinlkoplekgkaaGreatDoorG6
import Derived.KernelRfl
set_option linter.unusedVariables false
set_option maxRecDepth 100000
namespace Go.Proofs.YtfinlkoplekgkaaGreatDoor.Ev
open Go.RowKit
noncomputable section
def zj9 (k:Nat) (m0:Int×Int×Int×List Int):Option Bool:=(zgh k m0.1).bind fun r_1=>(if r_1 then (zov m0.2.1).bind fun r_2=>(if r_2 then (zov m0.2.2.1).bind fun r_3=>(if r_3 then (z88 m0.2.2.2).bind fun r_4=>(if (decide (r_4=(z6 (m0.2.1*m0.2.2.1)))) then (zfj k m0.2.2.2 m0.1).bind fun r_5=>some r_5 else some false) else some false) else some false) else some false)
def z1mg (k:Nat):FE:=⟨U3,1,.bool,fun x=>zj9 k x⟩
theorem z1mh (k:Nat):z8 Tryz.prog 184 (z1mg k):=okC zb (xTc (z148 k) (xTc z1m7 (xTc zj8 (xTc (zsb k) xTn)))) xOn Tryz.f184 (LOn _) xLn (by rintro m0; kernel_rfl)
def zt3 (k:Nat) (m0:Int×Int×Int×List Int) (p1:Int) (from2:Int) (to3:Int):Option Bool:=(zj9 k m0).bind fun r_1=>(if r_1 then (if (decide (m0.1=p1)) then (if (decide (m0.2.1=to3)) then some (decide (m0.2.2.1=from2)) else some false) else some false) else some false)
def z1mi (k:Nat):FE:=⟨(.pr U3 U34),1,.bool,fun x=>zt3 k x.1 x.2.1 x.2.2.1 x.2.2.2⟩
theorem z1mj (k:Nat):z8 Tryz.prog 148 (z1mi k):=okC zb (xTc (z1mh k) xTn) xOn Tryz.f148 (LOn _) xLn (by rintro ⟨m0,p1,from2,to3⟩; kernel_rfl)
def zgo (k:Nat):Nat→Int→Int→zT11→zT3→(zT11→zT3→Option Bool)→Option Bool
 | 0,_,_,_,_,_=>none
 | n+1,x28,x29,q_5,v_1,e_0=>(if (decide (x29<x28)) then (if 0≤x29∧x29.toNat<List.length q_5 then (q_5[x29.toNat]?).bind fun y_6=>(if (decide ((List.length v_1.2.2.2:Int)≤x29)) then some false else (if 0≤x29 then (v_1.2.2.2[x29.toNat]?).bind fun y_7=>(if 0≤y_6.2.2 then (v_1.2.2.1[y_6.2.2.toNat]?).bind fun y_8=>(if 0≤y_6.1 then (v_1.2.2.1[y_6.1.toNat]?).bind fun y_9=>(zt3 k y_7 v_1.2.1 y_8 y_9).bind fun r_10=>(if (!r_10) then some false else zgo k n x28 (z6 (x29+1)) q_5 v_1 e_0) else none) else none) else none)) else none) else e_0 q_5 v_1)
def zow (k:Nat) (s0:List zT1×Int×List Int×List zT0):Option Bool:=(zoq k s0.1).bind fun r_1=>(if (!r_1) then some false else (zgh k s0.2.1).bind fun r_2=>(if (!r_2) then some false else (zos k s0.1 s0.2.2.1).bind fun r_3=>(if (!r_3) then some false else (zot k s0.1).bind fun r_4=>zgo k k (List.length r_4:Int) 0 r_4 s0 (fun q_11 v_12=>some (decide ((List.length q_11:Int)=(List.length v_12.2.2.2:Int)))))))
def z14q:Head:=⟨[(1,(.bp 1 [] 0)),(3,(.ref P0 []))],[(P0,188,U4,false)],[(1,42,V4)]⟩
def z14r (k:Nat):LD Bool:=⟨5,⟨[(1,(.bp 1 [] 0)),(3,(.ref P0 [])),(27,(.ref P0 [])),(28,V0),(29,V0)],[(P0,188,U4,false)],[(1,42,V4)]⟩,[(0,z14q)],fun n x kx=>zgo k n x.1.2.2.2.1 x.1.2.2.2.2.1 x.2.1.1 x.2.2.1 (fun q_11 v_1=>kx 0 (z14q.fill (((),(),()),(q_11,()),(v_1,())))),k⟩
def z1mk (k:Nat):FE:=⟨U1,1,.bool,fun x=>zow k x⟩
theorem z1ml (k:Nat):z8 Tryz.prog 111 (z1mk k):=okC zb (xTc (z1lo k) (xTc (z148 k) (xTc (z1m0 k) (xTc (z1m5 k) (xTc (z1mj k) xTn))))) xOn Tryz.f111 (orc (z14r k) (LOn _)) (xLo (z14r k) (by rintro n ⟨⟨⟨⟩,⟨⟩,⟨⟩,x28,x29,⟨⟩⟩,⟨q_5,⟨⟩⟩,⟨v_1,⟨⟩⟩⟩ kx; kernel_rfl) xLn) (by rintro s0; kernel_rfl)
def zt4 (k0:Int):Option Bool:=(z47 k0 0 3).bind fun r_1=>some r_1
def z1mm:FE:=⟨U0,1,.bool,fun x=>zt4 x⟩
theorem z1mn:z8 Tryz.prog 112 (z1mm):=okC zb (xTc z84 xTn) xOn Tryz.f112 (LOn _) xLn (by rintro k0; kernel_rfl)
def zb1 (k:Nat):Nat→zT11→Int→Int→zT5→(zT5→Option Bool)→Option Bool
 | 0,_,_,_,_,_=>none
 | n+1,x6,x7,x8,v_1,e_0=>(if (decide (x8<x7)) then (if 0≤x8 then (x6[x8.toNat]?).bind fun y_1=>(z68 y_1.1 v_1.1).bind fun r_2=>(if (!r_2) then some false else (z68 y_1.2.1 v_1.1).bind fun r_3=>(if (!r_3) then some false else (if (decide (y_1.1=y_1.2.1)) then some false else (z47 y_1.2.2 0 1000000).bind fun r_4=>(if (!r_4) then some false else (if (decide (0<x8)) then (if 0≤(z6 (x8-1)) then (v_1.2.2.2[(z6 (x8-1)).toNat]?).bind fun y_5=>(zay y_5.1 y_1.1).bind fun r_6=>(if 0≤(z6 (x8-1)) then (v_1.2.2.2[(z6 (x8-1)).toNat]?).bind fun y_7=>(zay y_7.2.1 y_1.2.1).bind fun r_8=>(zj5 k [r_6,r_8]).bind fun r_9=>(if (decide (0≤r_9)) then some false else zb1 k n x6 x7 (z6 (x8+1)) v_1 e_0) else none) else none) else zb1 k n x6 x7 (z6 (x8+1)) v_1 e_0))))) else none) else e_0 v_1)
def zox (k:Nat) (n0:Int×Int×Int×List zT2):Option Bool:=zb1 k k n0.2.2.2 (List.length n0.2.2.2:Int) 0 n0 (fun v_10=>(z47 v_10.1 2 12).bind fun r_11=>(if r_11 then (z68 v_10.2.1 v_10.1).bind fun r_12=>(if r_12 then (z68 v_10.2.2.1 v_10.1).bind fun r_13=>(if r_13 then (if (!(decide (v_10.2.1=v_10.2.2.1))) then some (decide ((List.length v_10.2.2.2:Int)≤24)) else some false) else some false) else some false) else some false))
def z14s:Head:=⟨[(1,(.bp 1 [] 0))],[],[(1,45,(.val U6))]⟩
def z14t (k:Nat):LD Bool:=⟨2,⟨[(1,(.bp 1 [] 0)),(6,V10),(7,V0),(8,V0)],[],[(1,45,(.val U6))]⟩,[(0,z14s)],fun n x kx=>zb1 k n x.1.2.1 x.1.2.2.1 x.1.2.2.2.1 x.2.2.1 (fun v_1=>kx 0 (z14s.fill (((),()),(),(v_1,())))),k⟩
def z1mo (k:Nat):FE:=⟨U6,1,.bool,fun x=>zox k x⟩
theorem z1mp (k:Nat):z8 Tryz.prog 113 (z1mo k):=okC zb (xTc zsz (xTc z84 (xTc zsp (xTc (zsq k) xTn)))) xOn Tryz.f113 (orc (z14t k) (LOn _)) (xLo (z14t k) (by rintro n ⟨⟨⟨⟩,x6,x7,x8,⟨⟩⟩,⟨⟩,⟨v_1,⟨⟩⟩⟩ kx; kernel_rfl) xLn) (by rintro n0; kernel_rfl)
def zb2 (k:Nat):Nat→zT11→Int→Int→zT6→(zT6→Option Bool)→Option Bool
 | 0,_,_,_,_,_=>none
 | n+1,x6,x7,x8,v_1,e_0=>(if (decide (x8<x7)) then (if 0≤x8 then (x6[x8.toNat]?).bind fun y_1=>(if (decide (y_1.1<0)) then some false else (if (decide (y_1.2.1≤y_1.1)) then some false else (if (decide (v_1.1≤y_1.2.1)) then some false else (z68 y_1.2.2 v_1.2.1).bind fun r_2=>(if (!r_2) then some false else (if (decide (0<x8)) then (if 0≤(z6 (x8-1)) then (v_1.2.2[(z6 (x8-1)).toNat]?).bind fun y_3=>(zay y_3.1 y_1.1).bind fun r_4=>(if 0≤(z6 (x8-1)) then (v_1.2.2[(z6 (x8-1)).toNat]?).bind fun y_5=>(zay y_5.2.1 y_1.2.1).bind fun r_6=>(zj5 k [r_4,r_6]).bind fun r_7=>(if (decide (0≤r_7)) then some false else zb2 k n x6 x7 (z6 (x8+1)) v_1 e_0) else none) else none) else zb2 k n x6 x7 (z6 (x8+1)) v_1 e_0))))) else none) else e_0 v_1)
def zoy (k:Nat) (x0:Int×Int×List zT2):Option Bool:=zb2 k k x0.2.2 (List.length x0.2.2:Int) 0 x0 (fun v_8=>(z47 v_8.1 1 12).bind fun r_9=>(if r_9 then (z47 v_8.2.1 2 360).bind fun r_10=>(if r_10 then some (decide ((List.length v_8.2.2:Int)≤24)) else some false) else some false))
def z14u:Head:=⟨[(1,(.bp 1 [] 0))],[],[(1,48,(.val U10))]⟩
def z14v (k:Nat):LD Bool:=⟨2,⟨[(1,(.bp 1 [] 0)),(6,(.val U28)),(7,V0),(8,V0)],[],[(1,48,(.val U10))]⟩,[(0,z14u)],fun n x kx=>zb2 k n x.1.2.1 x.1.2.2.1 x.1.2.2.2.1 x.2.2.1 (fun v_1=>kx 0 (z14u.fill (((),()),(),(v_1,())))),k⟩
def z1mq (k:Nat):FE:=⟨U10,1,.bool,fun x=>zoy k x⟩
theorem z1mr (k:Nat):z8 Tryz.prog 114 (z1mq k):=okC zb (xTc zsz (xTc zsp (xTc (zsq k) (xTc z84 xTn)))) xOn Tryz.f114 (orc (z14v k) (LOn _)) (xLo (z14v k) (by rintro n ⟨⟨⟨⟩,x6,x7,x8,⟨⟩⟩,⟨⟩,⟨v_1,⟨⟩⟩⟩ kx; kernel_rfl) xLn) (by rintro x0; kernel_rfl)
def zgp (k:Nat) (x0:List Int) (length1:Int) (p2:Int):Option Bool:=(z88 x0).bind fun r_1=>(if (decide (r_1=length1)) then (zfj k x0 p2).bind fun r_2=>some r_2 else some false)
def z1ms (k:Nat):FE:=⟨(.pr U5 U20),1,.bool,fun x=>zgp k x.1 x.2.1 x.2.2⟩
theorem z14w (k:Nat):z8 Tryz.prog 115 (z1ms k):=okC zb (xTc zj8 (xTc (zsb k) xTn)) xOn Tryz.f115 (LOn _) xLn (by rintro ⟨x0,length1,p2⟩; kernel_rfl)
def zt5 (k:Nat) (x0:Int×Int×List zT2) (phases1:List Int):Option Bool:=(zgp k phases1 x0.1 x0.2.1).bind fun r_1=>some r_1
def z1mt (k:Nat):FE:=⟨(.pr U10 U5),1,.bool,fun x=>zt5 k x.1 x.2⟩
theorem z1mu (k:Nat):z8 Tryz.prog 117 (z1mt k):=okC zb (xTc (z14w k) xTn) xOn Tryz.f117 (LOn _) xLn (by rintro ⟨x0,phases1⟩; kernel_rfl)
def zmx (k:Nat) (w0:zT3×Int×List Int×List Int×zT5×List Int×List Int×zT6×List Int):Option Bool:=(zow k w0.1).bind fun r_1=>(if (!r_1) then some false else (zt4 w0.2.1).bind fun r_2=>(if (!r_2) then some false else (zox k w0.2.2.2.2.1).bind fun r_3=>(if (!r_3) then some false else (zoy k w0.2.2.2.2.2.2.2.1).bind fun r_4=>(if (!r_4) then some false else (zb0 k w0.1 w0.2.1).bind fun r_5=>(zgp k w0.2.2.1 r_5 w0.1.2.1).bind fun r_6=>(if r_6 then (zb0 k w0.1 0).bind fun r_7=>(zgp k w0.2.2.2.1 r_7 w0.1.2.1).bind fun r_8=>(if r_8 then (zt5 k w0.2.2.2.2.2.2.2.1 w0.2.2.2.2.2.2.2.2).bind fun r_9=>some r_9 else some false) else some false)))))
def z1mv (k:Nat):FE:=⟨U13,1,.bool,fun x=>zmx k x⟩
theorem z1hi (k:Nat):z8 Tryz.prog 78 (z1mv k):=okC zb (xTc (z1ml k) (xTc z1mn (xTc (z1mp k) (xTc (z1mr k) (xTc (zsw k) (xTc (z14w k) (xTc (z1mu k) xTn))))))) xOn Tryz.f78 (LOn _) xLn (by rintro w0; kernel_rfl)
def zb3 (k:Nat):Nat→Int→zT10→Int→Int→(Int→Option Int)→Option Int
 | 0,_,_,_,_,_=>none
 | n+1,n5,x12,x13,x14,e_0=>(if (decide (x14<x13)) then (if 0≤x14 then (x12[x14.toNat]?).bind fun y_1=>(if (decide (1<(List.length y_1:Int))) then (z88 y_1).bind fun r_2=>zb3 k n (z6 (n5+r_2)) x12 x13 (z6 (x14+1)) e_0 else zb3 k n n5 x12 x13 (z6 (x14+1)) e_0) else none) else e_0 n5)
def zoz (k:Nat) (s0:List zT1×Int×List Int×List zT0) (simplex1:Int):Option Int:=(if 0≤(0:Int)∧(0:Int)≤simplex1∧simplex1≤s0.1.length then zb3 k k 0 (s0.1.take simplex1.toNat) (List.length (s0.1.take simplex1.toNat):Int) 0 (fun n_3=>some n_3) else none)
def z14x:Head:=⟨[(5,V0)],[],[]⟩
def z14y (k:Nat):LD Int:=⟨3,⟨[(5,V0),(12,V3),(13,V0),(14,V0)],[],[]⟩,[(0,z14x)],fun n x kx=>zb3 k n x.1.1 x.1.2.1 x.1.2.2.1 x.1.2.2.2.1 (fun n5=>kx 0 (z14x.fill ((n5,()),(),()))),k⟩
def z1mw (k:Nat):FE:=⟨(.pr U1 U0),1,U0,fun x=>zoz k x.1 x.2⟩
theorem z1mx (k:Nat):z8 Tryz.prog 160 (z1mw k):=okC zb (xTc zj8 xTn) xOn Tryz.f160 (orc (z14y k) (LOn _)) (xLo (z14y k) (by rintro n ⟨⟨n5,x12,x13,x14,⟨⟩⟩,⟨⟩,⟨⟩⟩ kx; kernel_rfl) xLn) (by rintro ⟨s0,simplex1⟩; kernel_rfl)
def z89 (k:Nat) (s0:List zT1×Int×List Int×List zT0) (simplex1:Int) (place2:Int):Option zT0:=(zoz k s0 simplex1).bind fun r_1=>(if 0≤(z6 (r_1+place2)) then (s0.2.2.2[(z6 (r_1+place2)).toNat]?).bind fun y_2=>some y_2 else none)
def z1my (k:Nat):FE:=⟨(.pr U1 U20),RON,U3,fun x=>z89 k x.1 x.2.1 x.2.2⟩
theorem z14z (k:Nat):z8 Tryz.prog 120 (z1my k):=okV zb (xTc (z1mx k) xTn) xOn Tryz.f120 (LOn _) xLn (by rintro ⟨s0,simplex1,place2⟩; kernel_rfl)
def zja (m0:Int×Int×Int×List Int) (i1:Int) (j2:Int):Option Int:=(if 0≤(z6 ((z6 (i1*m0.2.2.1))+j2)) then (m0.2.2.2[(z6 ((z6 (i1*m0.2.2.1))+j2)).toNat]?).bind fun y_1=>some y_1 else none)
def z1mz:FE:=⟨(.pr U3 U20),1,U0,fun x=>zja x.1 x.2.1 x.2.2⟩
theorem z150:z8 Tryz.prog 169 (z1mz):=okC zb xTn xOn Tryz.f169 (LOn _) xLn (by rintro ⟨m0,i1,j2⟩; kernel_rfl)
def zt6 (i0:Int) (j1:Int) (x2:Int×Int×Int×List Int):Option Int:=(zja x2 j1 i0).bind fun r_1=>some r_1
def z1n0:FE:=⟨(.pr U0 (.pr U0 U14)),1,U0,fun x=>zt6 x.1 x.2.1 x.2.2⟩
theorem z1n1:z8 Tryz.prog 207 (z1n0):=okC zb (xTc z150 xTn) xOn Tryz.f207 (LOn _) xLn (by rintro ⟨i0,j1,x2⟩; kernel_rfl)
def zd5 (k:Nat):Nat→Int→zT0→Int→Int→Int→Int→Int→zT1→zT1→Int→Int→Int→Int→Int→Int→(Int→zT0→Int→Int→zT1→zT1→Int→Int→Int→Int→Int→Int→Option zT0)→Option zT0
 | 0,_,_,_,_,_,_,_,_,_,_,_,_,_,_,_,_=>none
 | n+1,columns2,cell3,i10,x16,x17,x20,x21,q_3,q_4,v_8a,v_8ba,v_8bba,v_9a,v_9ba,v_9bba,e_2=>(if (decide (x21<x20)) then (zt6 i10 x21 cell3).bind fun r_5=>(if (q_4.length+[r_5].length)*8≤LIM then zd5 k n columns2 cell3 i10 x16 x17 x20 (z6 (x21+1)) q_3 (q_4++[r_5]) v_8a v_8ba v_8bba v_9a v_9ba v_9bba e_2 else none) else e_2 columns2 cell3 x16 x17 q_3 q_4 v_8a v_8ba v_8bba v_9a v_9ba v_9bba)
def zd6 (k:Nat):Nat→Int→zT0→Int→Int→zT1→zT1→Int→Int→Int→Int→Int→Int→(zT1→zT1→Int→Int→Int→Int→Int→Int→Option zT0)→Option zT0
 | 0,_,_,_,_,_,_,_,_,_,_,_,_,_=>none
 | n+1,columns2,cell3,x16,x17,q_1,q_2,v_8a,v_8ba,v_8bba,v_9a,v_9ba,v_9bba,e_0=>(if (decide (x17<x16)) then zd5 k k columns2 cell3 x17 x16 x17 columns2 0 q_1 q_2 v_8a v_8ba v_8bba v_9a v_9ba v_9bba (fun columns_3 cell_4 x_5 x_6 q_7 q_8 v_8a_9 v_8ba_10 v_8bba_11 v_9a_12 v_9ba_13 v_9bba_14=>zd6 k n columns_3 cell_4 x_5 (z6 (x_6+1)) q_7 q_8 v_8a_9 v_8ba_10 v_8bba_11 v_9a_12 v_9ba_13 v_9bba_14 e_0) else e_0 q_1 q_2 v_8a v_8ba v_8bba v_9a v_9ba v_9bba)
def zt7 (k:Nat) (p0:Int) (rows1:Int) (columns2:Int) (cell3:Int×Int×Int×List Int):Option zT0:=zd6 k k columns2 cell3 rows1 0 [] [] 0 0 0 p0 rows1 columns2 (fun q_15 q_16 v_8a_17 v_8ba_18 v_8bba_19 v_9a_20 v_9ba_21 v_9bba_22=>some (v_9a_20,(v_9ba_21,(v_9bba_22,q_16))))
def z151:Head:=⟨[(2,V0),(3,(.val (.fn 207 U14))),(8,(.bp 8 [] 0)),(9,(.bp 9 [] 0)),(16,V0),(17,V0)],[(P0,2,U0,false),(P1,2,U0,false)],[(8,106,(.st (.pr V0 (.pr V0 (.pr V0 (.ref P0 [])))))),(9,106,(.st (.pr V0 (.pr V0 (.pr V0 (.ref P1 []))))))]⟩
def z152:Head:=⟨[(2,V0),(3,(.val (.fn 207 U14))),(8,(.bp 8 [] 0)),(9,(.bp 9 [] 0)),(10,V0),(16,V0),(17,V0),(20,V0),(21,V0)],[(P0,2,U0,false),(P1,2,U0,false)],[(8,106,(.st (.pr V0 (.pr V0 (.pr V0 (.ref P0 [])))))),(9,106,(.st (.pr V0 (.pr V0 (.pr V0 (.ref P1 []))))))]⟩
def z153 (k:Nat) (n:Nat) (x:z152.T) (kx:Nat→St→Option zT0):Option zT0:=zd5 k n x.1.1 x.1.2.1 x.1.2.2.2.2.1 x.1.2.2.2.2.2.1 x.1.2.2.2.2.2.2.1 x.1.2.2.2.2.2.2.2.1 x.1.2.2.2.2.2.2.2.2.1 x.2.1.1 x.2.1.2.1 x.2.2.1.1 x.2.2.1.2.1 x.2.2.1.2.2.1 x.2.2.2.1.1 x.2.2.2.1.2.1 x.2.2.2.1.2.2.1 (fun columns2 cell3 x16 x17 q_6 q_7 v_8a v_8ba v_8bba v_9a v_9ba v_9bba=>kx 2 (z151.fill ((columns2,cell3,(),(),x16,x17,()),(q_6,q_7,()),((v_8a,(v_8ba,(v_8bba,()))),(v_9a,(v_9ba,(v_9bba,()))),()))))
def zp0 (k:Nat):LD zT0:=⟨6,z152,[(2,z151)],z153 k,k⟩
def z154:Head:=⟨[(8,(.bp 8 [] 0)),(9,(.bp 9 [] 0))],[(P0,2,U0,false),(P1,2,U0,false)],[(8,106,(.st (.pr V0 (.pr V0 (.pr V0 (.ref P0 [])))))),(9,106,(.st (.pr V0 (.pr V0 (.pr V0 (.ref P1 []))))))]⟩
def z155:Head:=⟨[(2,V0),(3,(.val (.fn 207 U14))),(8,(.bp 8 [] 0)),(9,(.bp 9 [] 0)),(16,V0),(17,V0)],[(P0,2,U0,false),(P1,2,U0,false)],[(8,106,(.st (.pr V0 (.pr V0 (.pr V0 (.ref P0 [])))))),(9,106,(.st (.pr V0 (.pr V0 (.pr V0 (.ref P1 []))))))]⟩
def z156 (k:Nat) (n:Nat) (x:z155.T) (kx:Nat→St→Option zT0):Option zT0:=zd6 k n x.1.1 x.1.2.1 x.1.2.2.2.2.1 x.1.2.2.2.2.2.1 x.2.1.1 x.2.1.2.1 x.2.2.1.1 x.2.2.1.2.1 x.2.2.1.2.2.1 x.2.2.2.1.1 x.2.2.2.1.2.1 x.2.2.2.1.2.2.1 (fun q_18 q_19 v_8a v_8ba v_8bba v_9a v_9ba v_9bba=>kx 0 (z154.fill (((),(),()),(q_18,q_19,()),((v_8a,(v_8ba,(v_8bba,()))),(v_9a,(v_9ba,(v_9bba,()))),()))))
def zp1 (k:Nat):LD zT0:=⟨3,z155,[(0,z154)],z156 k,k⟩
def z1n2 (k:Nat):FE:=⟨(.pr U0 (.pr U0 (.pr U0 (.fn 207 U14)))),1,U3,fun x=>zt7 k x.1 x.2.1 x.2.2.1 x.2.2.2⟩
theorem z1n3 (k:Nat):z8 Tryz.prog 156 (z1n2 k):=okC zb (xTc z1n1 xTn) xOn Tryz.f156 (orc (zp0 k) (orc (zp1 k) (LOn _))) (xLp (zp1 k) (by rintro n ⟨⟨columns2,cell3,⟨⟩,⟨⟩,x16,x17,⟨⟩⟩,⟨q_1,q_2,⟨⟩⟩,⟨⟨v_8a,⟨v_8ba,⟨v_8bba,⟨⟩⟩⟩⟩,⟨v_9a,⟨v_9ba,⟨v_9bba,⟨⟩⟩⟩⟩,⟨⟩⟩⟩ kx _ h; dsimp only [zp1,z156] at h; subst h; dsimp only [zp1]; kernel_rfl) (xLp (zp0 k) (by rintro n ⟨⟨columns2,cell3,⟨⟩,⟨⟩,i10,x16,x17,x20,x21,⟨⟩⟩,⟨q_3,q_4,⟨⟩⟩,⟨⟨v_8a,⟨v_8ba,⟨v_8bba,⟨⟩⟩⟩⟩,⟨v_9a,⟨v_9ba,⟨v_9bba,⟨⟩⟩⟩⟩,⟨⟩⟩⟩ kx _ h; dsimp only [zp0,z153] at h; subst h; dsimp only [zp0]; kernel_rfl) xLn)) (by rintro ⟨p0,rows1,columns2,cell3⟩; kernel_rfl)
def zp2 (k:Nat) (m0:Int×Int×Int×List Int):Option zT0:=(zt7 k m0.1 m0.2.2.1 m0.2.1 m0).bind fun r_1=>some (r_1.1,(r_1.2.1,(r_1.2.2.1,r_1.2.2.2)))
def z1n4 (k:Nat):FE:=⟨U3,1,U3,fun x=>zp2 k x⟩
theorem z1n5 (k:Nat):z8 Tryz.prog 188 (z1n4 k):=okC zb (xTc (z1n3 k) xTn) xOn Tryz.f188 (LOn _) xLn (by rintro m0; kernel_rfl)
def z8a (m0:Int×Int×Int×List Int) (i1:Int):Option zT1:=(if 0≤(z6 (i1*m0.2.2.1))∧(z6 (i1*m0.2.2.1))≤(z6 ((z6 (i1+1))*m0.2.2.1))∧(z6 ((z6 (i1+1))*m0.2.2.1))≤m0.2.2.2.length then some ((m0.2.2.2.drop ((z6 (i1*m0.2.2.1)).toNat)).take ((z6 ((z6 (i1+1))*m0.2.2.1)).toNat-(z6 (i1*m0.2.2.1)).toNat)) else none)
def z1n6:FE:=⟨(.pr U3 U0),RON,U5,fun x=>z8a x.1 x.2⟩
theorem zt8:z8 Tryz.prog 159 (z1n6):=okV zb xTn xOn Tryz.f159 (LOn _) xLn (by rintro ⟨m0,i1⟩; kernel_rfl)
def zin (s0:List Int):Option zT1:=(if List.isEmpty s0 then zhf (some []) ((if (([]:List Unit).length+s0.length)*8≤LIM then some s0 else none)) else (if (([]:List Unit).length+s0.length)*8≤LIM then some s0 else none))
def z1n7:FE:=⟨U5,1,U5,fun x=>zin x⟩
theorem zz7:z8 Tryz.prog 173 (z1n7):=okC zb xTn xOn Tryz.f173 (LOn _) xLn (by rintro s0; kernel_rfl)
def zgq (k:Nat):Nat→Int→Int→zT10→zT0→(zT10→Option zT10)→Option zT10
 | 0,_,_,_,_,_=>none
 | n+1,x6,x7,q_1,v_1,e_0=>(if (decide (x7<x6)) then (z8a v_1 x7).bind fun r_2=>(zin r_2).bind fun r_3=>(if (q_1.length+[r_3].length)*24≤LIM then zgq k n x6 (z6 (x7+1)) (q_1++[r_3]) v_1 e_0 else none) else e_0 q_1)
def zil (k:Nat) (m0:Int×Int×Int×List Int):Option zT10:=zgq k k m0.2.1 0 [] m0 (fun q_4=>some q_4)
def z157:Head:=⟨[(3,(.ref P0 []))],[(P0,25,U5,false)],[]⟩
def z158 (k:Nat):LD zT10:=⟨3,⟨[(1,(.bp 1 [] 0)),(3,(.ref P0 [])),(6,V0),(7,V0)],[(P0,25,U5,false)],[(1,106,V7)]⟩,[(0,z157)],fun n x kx=>zgq k n x.1.2.2.1 x.1.2.2.2.1 x.2.1.1 x.2.2.1 (fun q_4=>kx 0 (z157.fill (((),()),(q_4,()),()))),k⟩
def z1n8 (k:Nat):FE:=⟨U3,1,U16,fun x=>zil k x⟩
theorem zz5 (k:Nat):z8 Tryz.prog 171 (z1n8 k):=okC zb (xTc zt8 (xTc zz7 xTn)) xOn Tryz.f171 (orc (z158 k) (LOn _)) (xLo (z158 k) (by rintro n ⟨⟨⟨⟩,⟨⟩,x6,x7,⟨⟩⟩,⟨q_1,⟨⟩⟩,⟨v_1,⟨⟩⟩⟩ kx; kernel_rfl) xLn) (by rintro m0; kernel_rfl)
def zt9 (k:Nat) (m0:Int×Int×Int×List Int):Option zT10:=(zp2 k m0).bind fun r_1=>(zil k (r_1.1,(r_1.2.1,(r_1.2.2.1,r_1.2.2.2)))).bind fun r_2=>some r_2
def z1n9 (k:Nat):FE:=⟨U3,1,U16,fun x=>zt9 k x⟩
theorem z1na (k:Nat):z8 Tryz.prog 155 (z1n9 k):=okC zb (xTc (z1n5 k) (xTc (zz5 k) xTn)) xOn Tryz.f155 (LOn _) xLn (by rintro m0; kernel_rfl)
def zgr (k:Nat):Nat→zT1→zT1→Int→Int→Int→Int→(Int→Option Int)→Option Int
 | 0,_,_,_,_,_,_,_=>none
 | n+1,a0,b1,p2,sum7,x10,x11,e_0=>(if (decide (x11<x10)) then (if 0≤x11 then (a0[x11.toNat]?).bind fun y_1=>(if 0≤x11 then (b1[x11.toNat]?).bind fun y_2=>(if p2=0 then none else zgr k n a0 b1 p2 (Int.tmod (z6 (sum7+(z6 (y_1*y_2)))) p2) x10 (z6 (x11+1)) e_0) else none) else none) else e_0 sum7)
def zjb (k:Nat) (a0:List Int) (b1:List Int) (p2:Int):Option Int:=zgr k k a0 b1 p2 0 (List.length a0:Int) 0 (fun sum_3=>some sum_3)
def z159:Head:=⟨[(7,V0)],[],[]⟩
def z15a (k:Nat):LD Int:=⟨3,⟨[(0,V1),(1,V1),(2,V0),(7,V0),(10,V0),(11,V0)],[],[]⟩,[(0,z159)],fun n x kx=>zgr k n x.1.1 x.1.2.1 x.1.2.2.1 x.1.2.2.2.1 x.1.2.2.2.2.1 x.1.2.2.2.2.2.1 (fun sum7=>kx 0 (z159.fill ((sum7,()),(),()))),k⟩
def z1nb (k:Nat):FE:=⟨(.pr U5 U30),1,U0,fun x=>zjb k x.1 x.2.1 x.2.2⟩
theorem z15b (k:Nat):z8 Tryz.prog 158 (z1nb k):=okC zb xTn xOn Tryz.f158 (orc (z15a k) (LOn _)) (xLo (z15a k) (by rintro n ⟨⟨a0,b1,p2,sum7,x10,x11,⟨⟩⟩,⟨⟩,⟨⟩⟩ kx; kernel_rfl) xLn) (by rintro ⟨a0,b1,p2⟩; kernel_rfl)
def zp3 (k:Nat) (i0:Int) (j1:Int) (x2:Int×Int×Int×List Int) (x3:List zT1):Option Int:=(z8a x2 i0).bind fun r_1=>(if 0≤j1 then (x3[j1.toNat]?).bind fun y_2=>(zjb k r_1 y_2 x2.1).bind fun r_3=>some r_3 else none)
def z1nc (k:Nat):FE:=⟨(.pr U0 (.pr U0 (.pr U14 (.ptr U16)))),1,U0,fun x=>zp3 k x.1 x.2.1 x.2.2.1 x.2.2.2⟩
theorem z1nd (k:Nat):z8 Tryz.prog 157 (z1nc k):=okC zb (xTc zt8 (xTc (z15b k) xTn)) xOn Tryz.f157 (LOn _) xLn (by rintro ⟨i0,j1,x2,x3⟩; kernel_rfl)
end
end Go.Proofs.YtfinlkoplekgkaaGreatDoor.Ev
