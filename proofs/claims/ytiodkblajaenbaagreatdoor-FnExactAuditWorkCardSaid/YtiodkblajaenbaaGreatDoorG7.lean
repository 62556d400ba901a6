/- Functions of the program, as plain ones. No conditions. -/
import Derived.Test.YtiodkblajaenbaaGreatDoorG6
import Derived.KernelRfl
set_option linter.unusedVariables false
set_option maxRecDepth 100000
namespace Go.Proofs.YtiodkblajaenbaaGreatDoor.Ev
open Go.RowKit
noncomputable section
def zjw (k:Nat) (m0:Int×Int×Int×List Int):Option Bool:=(zh1 k m0.1).bind fun r_1=>(if r_1 then (zpo m0.2.1).bind fun r_2=>(if r_2 then (zpo m0.2.2.1).bind fun r_3=>(if r_3 then (z8a m0.2.2.2).bind fun r_4=>(if (decide (r_4=(z6 (m0.2.1*m0.2.2.1)))) then (zfq k m0.2.2.2 m0.1).bind fun r_5=>some r_5 else some false) else some false) else some false) else some false)
def z1p6 (k:Nat):FE:=⟨U1,1,.bool,fun x=>zjw k x⟩
theorem z1p7 (k:Nat):z8 Tryz.prog 197 (z1p6 k):=okC za (xTc (z15z k) (xTc z1ox (xTc zjv (xTc (zt6 k) xTn)))) xOn Tryz.f197 (LOn _) xLn (by rintro m0; kernel_rfl)
def zu2 (k:Nat) (m0:Int×Int×Int×List Int) (p1:Int) (from2:Int) (to3:Int):Option Bool:=(zjw k m0).bind fun r_1=>(if r_1 then (if (decide (m0.1=p1)) then (if (decide (m0.2.1=to3)) then some (decide (m0.2.2.1=from2)) else some false) else some false) else some false)
def z1p8 (k:Nat):FE:=⟨(.pr U1 U35),1,.bool,fun x=>zu2 k x.1 x.2.1 x.2.2.1 x.2.2.2⟩
theorem z1p9 (k:Nat):z8 Tryz.prog 155 (z1p8 k):=okC za (xTc (z1p7 k) xTn) xOn Tryz.f155 (LOn _) xLn (by rintro ⟨m0,p1,from2,to3⟩; kernel_rfl)
def zh8 (k:Nat):Nat→Int→Int→zT14→zT3→(zT14→zT3→Option Bool)→Option Bool
 | 0,_,_,_,_,_=>none
 | n+1,x28,x29,q_5,v_1,e_0=>(if (decide (x29<x28)) then (if 0≤x29∧x29.toNat<List.length q_5 then (q_5[x29.toNat]?).bind fun y_6=>(if (decide ((List.length v_1.2.2.2:Int)≤x29)) then some false else (if 0≤x29 then (v_1.2.2.2[x29.toNat]?).bind fun y_7=>(if 0≤y_6.2.2 then (v_1.2.2.1[y_6.2.2.toNat]?).bind fun y_8=>(if 0≤y_6.1 then (v_1.2.2.1[y_6.1.toNat]?).bind fun y_9=>(zu2 k y_7 v_1.2.1 y_8 y_9).bind fun r_10=>(if (!r_10) then some false else zh8 k n x28 (z6 (x29+1)) q_5 v_1 e_0) else none) else none) else none)) else none) else e_0 q_5 v_1)
def zpp (k:Nat) (s0:List zT1×Int×List Int×List zT0):Option Bool:=(zpj k s0.1).bind fun r_1=>(if (!r_1) then some false else (zh1 k s0.2.1).bind fun r_2=>(if (!r_2) then some false else (zpl k s0.1 s0.2.2.1).bind fun r_3=>(if (!r_3) then some false else (zpm k s0.1).bind fun r_4=>zh8 k k (List.length r_4:Int) 0 r_4 s0 (fun q_11 v_12=>some (decide ((List.length q_11:Int)=(List.length v_12.2.2.2:Int)))))))
def z16i:Head:=⟨[(1,(.bp 1 [] 0)),(3,(.ref P0 []))],[(P0,194,U3,false)],[(1,44,V4)]⟩
def z16j (k:Nat):LD Bool:=⟨5,⟨[(1,(.bp 1 [] 0)),(3,(.ref P0 [])),(27,(.ref P0 [])),(28,V0),(29,V0)],[(P0,194,U3,false)],[(1,44,V4)]⟩,[(0,z16i)],fun n x kx=>zh8 k n x.1.2.2.2.1 x.1.2.2.2.2.1 x.2.1.1 x.2.2.1 (fun q_11 v_1=>kx 0 (z16i.fill (((),(),()),(q_11,()),(v_1,())))),k⟩
def z1pa (k:Nat):FE:=⟨U4,1,.bool,fun x=>zpp k x⟩
theorem z1pb (k:Nat):z8 Tryz.prog 103 (z1pa k):=okC za (xTc (z1oe k) (xTc (z15z k) (xTc (z1oq k) (xTc (z1ov k) (xTc (z1p9 k) xTn))))) xOn Tryz.f103 (orc (z16j k) (LOn _)) (xLo (z16j k) (by rintro n ⟨⟨⟨⟩,⟨⟩,⟨⟩,x28,x29,⟨⟩⟩,⟨q_5,⟨⟩⟩,⟨v_1,⟨⟩⟩⟩ kx; kernel_rfl) xLn) (by rintro s0; kernel_rfl)
def zu3 (k0:Int):Option Bool:=(z49 k0 0 3).bind fun r_1=>some r_1
def z1pc:FE:=⟨U0,1,.bool,fun x=>zu3 x⟩
theorem z1pd:z8 Tryz.prog 104 (z1pc):=okC za (xTc z86 xTn) xOn Tryz.f104 (LOn _) xLn (by rintro k0; kernel_rfl)
def zb7 (k:Nat):Nat→zT14→Int→Int→zT5→(zT5→Option Bool)→Option Bool
 | 0,_,_,_,_,_=>none
 | n+1,x6,x7,x8,v_1,e_0=>(if (decide (x8<x7)) then (if 0≤x8 then (x6[x8.toNat]?).bind fun y_1=>(z69 y_1.1 v_1.1).bind fun r_2=>(if (!r_2) then some false else (z69 y_1.2.1 v_1.1).bind fun r_3=>(if (!r_3) then some false else (if (decide (y_1.1=y_1.2.1)) then some false else (z49 y_1.2.2 0 1000000).bind fun r_4=>(if (!r_4) then some false else (if (decide (0<x8)) then (if 0≤(z6 (x8-1)) then (v_1.2.2.2[(z6 (x8-1)).toNat]?).bind fun y_5=>(zb4 y_5.1 y_1.1).bind fun r_6=>(if 0≤(z6 (x8-1)) then (v_1.2.2.2[(z6 (x8-1)).toNat]?).bind fun y_7=>(zb4 y_7.2.1 y_1.2.1).bind fun r_8=>(zjs k [r_6,r_8]).bind fun r_9=>(if (decide (0≤r_9)) then some false else zb7 k n x6 x7 (z6 (x8+1)) v_1 e_0) else none) else none) else zb7 k n x6 x7 (z6 (x8+1)) v_1 e_0))))) else none) else e_0 v_1)
def zpq (k:Nat) (n0:Int×Int×Int×List zT2):Option Bool:=zb7 k k n0.2.2.2 (List.length n0.2.2.2:Int) 0 n0 (fun v_10=>(z49 v_10.1 2 12).bind fun r_11=>(if r_11 then (z69 v_10.2.1 v_10.1).bind fun r_12=>(if r_12 then (z69 v_10.2.2.1 v_10.1).bind fun r_13=>(if r_13 then (if (!(decide (v_10.2.1=v_10.2.2.1))) then some (decide ((List.length v_10.2.2.2:Int)≤24)) else some false) else some false) else some false) else some false))
def z16k:Head:=⟨[(1,(.bp 1 [] 0))],[],[(1,47,(.val U6))]⟩
def z16l (k:Nat):LD Bool:=⟨2,⟨[(1,(.bp 1 [] 0)),(6,V10),(7,V0),(8,V0)],[],[(1,47,(.val U6))]⟩,[(0,z16k)],fun n x kx=>zb7 k n x.1.2.1 x.1.2.2.1 x.1.2.2.2.1 x.2.2.1 (fun v_1=>kx 0 (z16k.fill (((),()),(),(v_1,())))),k⟩
def z1pe (k:Nat):FE:=⟨U6,1,.bool,fun x=>zpq k x⟩
theorem z1pf (k:Nat):z8 Tryz.prog 105 (z1pe k):=okC za (xTc zty (xTc z86 (xTc zto (xTc (ztp k) xTn)))) xOn Tryz.f105 (orc (z16l k) (LOn _)) (xLo (z16l k) (by rintro n ⟨⟨⟨⟩,x6,x7,x8,⟨⟩⟩,⟨⟩,⟨v_1,⟨⟩⟩⟩ kx; kernel_rfl) xLn) (by rintro n0; kernel_rfl)
def zb8 (k:Nat):Nat→zT14→Int→Int→zT7→(zT7→Option Bool)→Option Bool
 | 0,_,_,_,_,_=>none
 | n+1,x6,x7,x8,v_1,e_0=>(if (decide (x8<x7)) then (if 0≤x8 then (x6[x8.toNat]?).bind fun y_1=>(if (decide (y_1.1<0)) then some false else (if (decide (y_1.2.1≤y_1.1)) then some false else (if (decide (v_1.1≤y_1.2.1)) then some false else (z69 y_1.2.2 v_1.2.1).bind fun r_2=>(if (!r_2) then some false else (if (decide (0<x8)) then (if 0≤(z6 (x8-1)) then (v_1.2.2[(z6 (x8-1)).toNat]?).bind fun y_3=>(zb4 y_3.1 y_1.1).bind fun r_4=>(if 0≤(z6 (x8-1)) then (v_1.2.2[(z6 (x8-1)).toNat]?).bind fun y_5=>(zb4 y_5.2.1 y_1.2.1).bind fun r_6=>(zjs k [r_4,r_6]).bind fun r_7=>(if (decide (0≤r_7)) then some false else zb8 k n x6 x7 (z6 (x8+1)) v_1 e_0) else none) else none) else zb8 k n x6 x7 (z6 (x8+1)) v_1 e_0))))) else none) else e_0 v_1)
def zpr (k:Nat) (x0:Int×Int×List zT2):Option Bool:=zb8 k k x0.2.2 (List.length x0.2.2:Int) 0 x0 (fun v_8=>(z49 v_8.1 1 12).bind fun r_9=>(if r_9 then (z49 v_8.2.1 2 360).bind fun r_10=>(if r_10 then some (decide ((List.length v_8.2.2:Int)≤24)) else some false) else some false))
def z16m:Head:=⟨[(1,(.bp 1 [] 0))],[],[(1,50,(.val U9))]⟩
def z16n (k:Nat):LD Bool:=⟨2,⟨[(1,(.bp 1 [] 0)),(6,(.val U29)),(7,V0),(8,V0)],[],[(1,50,(.val U9))]⟩,[(0,z16m)],fun n x kx=>zb8 k n x.1.2.1 x.1.2.2.1 x.1.2.2.2.1 x.2.2.1 (fun v_1=>kx 0 (z16m.fill (((),()),(),(v_1,())))),k⟩
def z1pg (k:Nat):FE:=⟨U9,1,.bool,fun x=>zpr k x⟩
theorem z1ph (k:Nat):z8 Tryz.prog 106 (z1pg k):=okC za (xTc zty (xTc zto (xTc (ztp k) (xTc z86 xTn)))) xOn Tryz.f106 (orc (z16n k) (LOn _)) (xLo (z16n k) (by rintro n ⟨⟨⟨⟩,x6,x7,x8,⟨⟩⟩,⟨⟩,⟨v_1,⟨⟩⟩⟩ kx; kernel_rfl) xLn) (by rintro x0; kernel_rfl)
def zh9 (k:Nat) (x0:List Int) (length1:Int) (p2:Int):Option Bool:=(z8a x0).bind fun r_1=>(if (decide (r_1=length1)) then (zfq k x0 p2).bind fun r_2=>some r_2 else some false)
def z1pi (k:Nat):FE:=⟨(.pr U5 U19),1,.bool,fun x=>zh9 k x.1 x.2.1 x.2.2⟩
theorem z16o (k:Nat):z8 Tryz.prog 107 (z1pi k):=okC za (xTc zjv (xTc (zt6 k) xTn)) xOn Tryz.f107 (LOn _) xLn (by rintro ⟨x0,length1,p2⟩; kernel_rfl)
def zu4 (k:Nat) (x0:Int×Int×List zT2) (phases1:List Int):Option Bool:=(zh9 k phases1 x0.1 x0.2.1).bind fun r_1=>some r_1
def z1pj (k:Nat):FE:=⟨(.pr U9 U5),1,.bool,fun x=>zu4 k x.1 x.2⟩
theorem z1pk (k:Nat):z8 Tryz.prog 109 (z1pj k):=okC za (xTc (z16o k) xTn) xOn Tryz.f109 (LOn _) xLn (by rintro ⟨x0,phases1⟩; kernel_rfl)
def znl (k:Nat) (w0:zT3×Int×List Int×List Int×zT5×List Int×List Int×zT7×List Int):Option Bool:=(zpp k w0.1).bind fun r_1=>(if (!r_1) then some false else (zu3 w0.2.1).bind fun r_2=>(if (!r_2) then some false else (zpq k w0.2.2.2.2.1).bind fun r_3=>(if (!r_3) then some false else (zpr k w0.2.2.2.2.2.2.2.1).bind fun r_4=>(if (!r_4) then some false else (zb6 k w0.1 w0.2.1).bind fun r_5=>(zh9 k w0.2.2.1 r_5 w0.1.2.1).bind fun r_6=>(if r_6 then (zb6 k w0.1 0).bind fun r_7=>(zh9 k w0.2.2.2.1 r_7 w0.1.2.1).bind fun r_8=>(if r_8 then (zu4 k w0.2.2.2.2.2.2.2.1 w0.2.2.2.2.2.2.2.2).bind fun r_9=>some r_9 else some false) else some false)))))
def z1pl (k:Nat):FE:=⟨U2,1,.bool,fun x=>znl k x⟩
theorem z1je (k:Nat):z8 Tryz.prog 57 (z1pl k):=okC za (xTc (z1pb k) (xTc z1pd (xTc (z1pf k) (xTc (z1ph k) (xTc (ztv k) (xTc (z16o k) (xTc (z1pk k) xTn))))))) xOn Tryz.f57 (LOn _) xLn (by rintro w0; kernel_rfl)
def zb9 (k:Nat):Nat→Int→zT10→Int→Int→(Int→Option Int)→Option Int
 | 0,_,_,_,_,_=>none
 | n+1,n5,x12,x13,x14,e_0=>(if (decide (x14<x13)) then (if 0≤x14 then (x12[x14.toNat]?).bind fun y_1=>(if (decide (1<(List.length y_1:Int))) then (z8a y_1).bind fun r_2=>zb9 k n (z6 (n5+r_2)) x12 x13 (z6 (x14+1)) e_0 else zb9 k n n5 x12 x13 (z6 (x14+1)) e_0) else none) else e_0 n5)
def zps (k:Nat) (s0:List zT1×Int×List Int×List zT0) (simplex1:Int):Option Int:=(if 0≤(0:Int)∧(0:Int)≤simplex1∧simplex1≤s0.1.length then zb9 k k 0 (s0.1.take simplex1.toNat) (List.length (s0.1.take simplex1.toNat):Int) 0 (fun n_3=>some n_3) else none)
def z16p:Head:=⟨[(5,V0)],[],[]⟩
def z16q (k:Nat):LD Int:=⟨3,⟨[(5,V0),(12,V3),(13,V0),(14,V0)],[],[]⟩,[(0,z16p)],fun n x kx=>zb9 k n x.1.1 x.1.2.1 x.1.2.2.1 x.1.2.2.2.1 (fun n5=>kx 0 (z16p.fill ((n5,()),(),()))),k⟩
def z1pm (k:Nat):FE:=⟨(.pr U4 U0),1,U0,fun x=>zps k x.1 x.2⟩
theorem z1pn (k:Nat):z8 Tryz.prog 167 (z1pm k):=okC za (xTc zjv xTn) xOn Tryz.f167 (orc (z16q k) (LOn _)) (xLo (z16q k) (by rintro n ⟨⟨n5,x12,x13,x14,⟨⟩⟩,⟨⟩,⟨⟩⟩ kx; kernel_rfl) xLn) (by rintro ⟨s0,simplex1⟩; kernel_rfl)
def z8b (k:Nat) (s0:List zT1×Int×List Int×List zT0) (simplex1:Int) (place2:Int):Option zT0:=(zps k s0 simplex1).bind fun r_1=>(if 0≤(z6 (r_1+place2)) then (s0.2.2.2[(z6 (r_1+place2)).toNat]?).bind fun y_2=>some y_2 else none)
def z1po (k:Nat):FE:=⟨(.pr U4 U19),RON,U1,fun x=>z8b k x.1 x.2.1 x.2.2⟩
theorem z16r (k:Nat):z8 Tryz.prog 112 (z1po k):=okV za (xTc (z1pn k) xTn) xOn Tryz.f112 (LOn _) xLn (by rintro ⟨s0,simplex1,place2⟩; kernel_rfl)
def zjx (m0:Int×Int×Int×List Int) (i1:Int) (j2:Int):Option Int:=(if 0≤(z6 ((z6 (i1*m0.2.2.1))+j2)) then (m0.2.2.2[(z6 ((z6 (i1*m0.2.2.1))+j2)).toNat]?).bind fun y_1=>some y_1 else none)
def z1pp:FE:=⟨(.pr U1 U19),1,U0,fun x=>zjx x.1 x.2.1 x.2.2⟩
theorem z16s:z8 Tryz.prog 176 (z1pp):=okC za xTn xOn Tryz.f176 (LOn _) xLn (by rintro ⟨m0,i1,j2⟩; kernel_rfl)
def zu5 (i0:Int) (j1:Int) (x2:Int×Int×Int×List Int):Option Int:=(zjx x2 j1 i0).bind fun r_1=>some r_1
def z1pq:FE:=⟨(.pr U0 (.pr U0 U14)),1,U0,fun x=>zu5 x.1 x.2.1 x.2.2⟩
theorem z1pr:z8 Tryz.prog 221 (z1pq):=okC za (xTc z16s xTn) xOn Tryz.f221 (LOn _) xLn (by rintro ⟨i0,j1,x2⟩; kernel_rfl)
def zdf (k:Nat):Nat→Int→zT0→Int→Int→Int→Int→Int→zT1→zT1→Int→Int→Int→Int→Int→Int→(Int→zT0→Int→Int→zT1→zT1→Int→Int→Int→Int→Int→Int→Option zT0)→Option zT0
 | 0,_,_,_,_,_,_,_,_,_,_,_,_,_,_,_,_=>none
 | n+1,columns2,cell3,i10,x16,x17,x20,x21,q_3,q_4,v_8a,v_8ba,v_8bba,v_9a,v_9ba,v_9bba,e_2=>(if (decide (x21<x20)) then (zu5 i10 x21 cell3).bind fun r_5=>(if (q_4.length+[r_5].length)*8≤LIM then zdf k n columns2 cell3 i10 x16 x17 x20 (z6 (x21+1)) q_3 (q_4++[r_5]) v_8a v_8ba v_8bba v_9a v_9ba v_9bba e_2 else none) else e_2 columns2 cell3 x16 x17 q_3 q_4 v_8a v_8ba v_8bba v_9a v_9ba v_9bba)
def zdg (k:Nat):Nat→Int→zT0→Int→Int→zT1→zT1→Int→Int→Int→Int→Int→Int→(zT1→zT1→Int→Int→Int→Int→Int→Int→Option zT0)→Option zT0
 | 0,_,_,_,_,_,_,_,_,_,_,_,_,_=>none
 | n+1,columns2,cell3,x16,x17,q_1,q_2,v_8a,v_8ba,v_8bba,v_9a,v_9ba,v_9bba,e_0=>(if (decide (x17<x16)) then zdf k k columns2 cell3 x17 x16 x17 columns2 0 q_1 q_2 v_8a v_8ba v_8bba v_9a v_9ba v_9bba (fun columns_3 cell_4 x_5 x_6 q_7 q_8 v_8a_9 v_8ba_10 v_8bba_11 v_9a_12 v_9ba_13 v_9bba_14=>zdg k n columns_3 cell_4 x_5 (z6 (x_6+1)) q_7 q_8 v_8a_9 v_8ba_10 v_8bba_11 v_9a_12 v_9ba_13 v_9bba_14 e_0) else e_0 q_1 q_2 v_8a v_8ba v_8bba v_9a v_9ba v_9bba)
def zu6 (k:Nat) (p0:Int) (rows1:Int) (columns2:Int) (cell3:Int×Int×Int×List Int):Option zT0:=zdg k k columns2 cell3 rows1 0 [] [] 0 0 0 p0 rows1 columns2 (fun q_15 q_16 v_8a_17 v_8ba_18 v_8bba_19 v_9a_20 v_9ba_21 v_9bba_22=>some (v_9a_20,(v_9ba_21,(v_9bba_22,q_16))))
def z16t:Head:=⟨[(2,V0),(3,(.val (.fn 221 U14))),(8,(.bp 8 [] 0)),(9,(.bp 9 [] 0)),(16,V0),(17,V0)],[(P0,2,U0,false),(P1,2,U0,false)],[(8,136,(.st (.pr V0 (.pr V0 (.pr V0 (.ref P0 [])))))),(9,136,(.st (.pr V0 (.pr V0 (.pr V0 (.ref P1 []))))))]⟩
def z16u:Head:=⟨[(2,V0),(3,(.val (.fn 221 U14))),(8,(.bp 8 [] 0)),(9,(.bp 9 [] 0)),(10,V0),(16,V0),(17,V0),(20,V0),(21,V0)],[(P0,2,U0,false),(P1,2,U0,false)],[(8,136,(.st (.pr V0 (.pr V0 (.pr V0 (.ref P0 [])))))),(9,136,(.st (.pr V0 (.pr V0 (.pr V0 (.ref P1 []))))))]⟩
def z16v (k:Nat) (n:Nat) (x:z16u.T) (kx:Nat→St→Option zT0):Option zT0:=zdf k n x.1.1 x.1.2.1 x.1.2.2.2.2.1 x.1.2.2.2.2.2.1 x.1.2.2.2.2.2.2.1 x.1.2.2.2.2.2.2.2.1 x.1.2.2.2.2.2.2.2.2.1 x.2.1.1 x.2.1.2.1 x.2.2.1.1 x.2.2.1.2.1 x.2.2.1.2.2.1 x.2.2.2.1.1 x.2.2.2.1.2.1 x.2.2.2.1.2.2.1 (fun columns2 cell3 x16 x17 q_6 q_7 v_8a v_8ba v_8bba v_9a v_9ba v_9bba=>kx 2 (z16t.fill ((columns2,cell3,(),(),x16,x17,()),(q_6,q_7,()),((v_8a,(v_8ba,(v_8bba,()))),(v_9a,(v_9ba,(v_9bba,()))),()))))
def zpt (k:Nat):LD zT0:=⟨6,z16u,[(2,z16t)],z16v k,k⟩
def z16w:Head:=⟨[(8,(.bp 8 [] 0)),(9,(.bp 9 [] 0))],[(P0,2,U0,false),(P1,2,U0,false)],[(8,136,(.st (.pr V0 (.pr V0 (.pr V0 (.ref P0 [])))))),(9,136,(.st (.pr V0 (.pr V0 (.pr V0 (.ref P1 []))))))]⟩
def z16x:Head:=⟨[(2,V0),(3,(.val (.fn 221 U14))),(8,(.bp 8 [] 0)),(9,(.bp 9 [] 0)),(16,V0),(17,V0)],[(P0,2,U0,false),(P1,2,U0,false)],[(8,136,(.st (.pr V0 (.pr V0 (.pr V0 (.ref P0 [])))))),(9,136,(.st (.pr V0 (.pr V0 (.pr V0 (.ref P1 []))))))]⟩
def z16y (k:Nat) (n:Nat) (x:z16x.T) (kx:Nat→St→Option zT0):Option zT0:=zdg k n x.1.1 x.1.2.1 x.1.2.2.2.2.1 x.1.2.2.2.2.2.1 x.2.1.1 x.2.1.2.1 x.2.2.1.1 x.2.2.1.2.1 x.2.2.1.2.2.1 x.2.2.2.1.1 x.2.2.2.1.2.1 x.2.2.2.1.2.2.1 (fun q_18 q_19 v_8a v_8ba v_8bba v_9a v_9ba v_9bba=>kx 0 (z16w.fill (((),(),()),(q_18,q_19,()),((v_8a,(v_8ba,(v_8bba,()))),(v_9a,(v_9ba,(v_9bba,()))),()))))
def zpu (k:Nat):LD zT0:=⟨3,z16x,[(0,z16w)],z16y k,k⟩
def z1ps (k:Nat):FE:=⟨(.pr U0 (.pr U0 (.pr U0 (.fn 221 U14)))),1,U1,fun x=>zu6 k x.1 x.2.1 x.2.2.1 x.2.2.2⟩
theorem z1pt (k:Nat):z8 Tryz.prog 163 (z1ps k):=okC za (xTc z1pr xTn) xOn Tryz.f163 (orc (zpt k) (orc (zpu k) (LOn _))) (xLp (zpu k) (by rintro n ⟨⟨columns2,cell3,⟨⟩,⟨⟩,x16,x17,⟨⟩⟩,⟨q_1,q_2,⟨⟩⟩,⟨⟨v_8a,⟨v_8ba,⟨v_8bba,⟨⟩⟩⟩⟩,⟨v_9a,⟨v_9ba,⟨v_9bba,⟨⟩⟩⟩⟩,⟨⟩⟩⟩ kx _ h; dsimp only [zpu,z16y] at h; subst h; dsimp only [zpu]; kernel_rfl) (xLp (zpt k) (by rintro n ⟨⟨columns2,cell3,⟨⟩,⟨⟩,i10,x16,x17,x20,x21,⟨⟩⟩,⟨q_3,q_4,⟨⟩⟩,⟨⟨v_8a,⟨v_8ba,⟨v_8bba,⟨⟩⟩⟩⟩,⟨v_9a,⟨v_9ba,⟨v_9bba,⟨⟩⟩⟩⟩,⟨⟩⟩⟩ kx _ h; dsimp only [zpt,z16v] at h; subst h; dsimp only [zpt]; kernel_rfl) xLn)) (by rintro ⟨p0,rows1,columns2,cell3⟩; kernel_rfl)
def zpv (k:Nat) (m0:Int×Int×Int×List Int):Option zT0:=(zu6 k m0.1 m0.2.2.1 m0.2.1 m0).bind fun r_1=>some (r_1.1,(r_1.2.1,(r_1.2.2.1,r_1.2.2.2)))
def z1pu (k:Nat):FE:=⟨U1,1,U1,fun x=>zpv k x⟩
theorem z1pv (k:Nat):z8 Tryz.prog 201 (z1pu k):=okC za (xTc (z1pt k) xTn) xOn Tryz.f201 (LOn _) xLn (by rintro m0; kernel_rfl)
def z8c (m0:Int×Int×Int×List Int) (i1:Int):Option zT1:=(if 0≤(z6 (i1*m0.2.2.1))∧(z6 (i1*m0.2.2.1))≤(z6 ((z6 (i1+1))*m0.2.2.1))∧(z6 ((z6 (i1+1))*m0.2.2.1))≤m0.2.2.2.length then some ((m0.2.2.2.drop ((z6 (i1*m0.2.2.1)).toNat)).take ((z6 ((z6 (i1+1))*m0.2.2.1)).toNat-(z6 (i1*m0.2.2.1)).toNat)) else none)
def z1pw:FE:=⟨(.pr U1 U0),RON,U5,fun x=>z8c x.1 x.2⟩
theorem zu7:z8 Tryz.prog 166 (z1pw):=okV za xTn xOn Tryz.f166 (LOn _) xLn (by rintro ⟨m0,i1⟩; kernel_rfl)
def zj9 (s0:List Int):Option zT1:=(if List.isEmpty s0 then zi0 (some []) ((if (([]:List Unit).length+s0.length)*8≤LIM then some s0 else none)) else (if (([]:List Unit).length+s0.length)*8≤LIM then some s0 else none))
def z1px:FE:=⟨U5,1,U5,fun x=>zj9 x⟩
theorem z10b:z8 Tryz.prog 180 (z1px):=okC za xTn xOn Tryz.f180 (LOn _) xLn (by rintro s0; kernel_rfl)
def zha (k:Nat):Nat→Int→Int→zT10→zT0→(zT10→Option zT10)→Option zT10
 | 0,_,_,_,_,_=>none
 | n+1,x6,x7,q_1,v_1,e_0=>(if (decide (x7<x6)) then (z8c v_1 x7).bind fun r_2=>(zj9 r_2).bind fun r_3=>(if (q_1.length+[r_3].length)*24≤LIM then zha k n x6 (z6 (x7+1)) (q_1++[r_3]) v_1 e_0 else none) else e_0 q_1)
def zj7 (k:Nat) (m0:Int×Int×Int×List Int):Option zT10:=zha k k m0.2.1 0 [] m0 (fun q_4=>some q_4)
def z16z:Head:=⟨[(3,(.ref P0 []))],[(P0,25,U5,false)],[]⟩
def z170 (k:Nat):LD zT10:=⟨3,⟨[(1,(.bp 1 [] 0)),(3,(.ref P0 [])),(6,V0),(7,V0)],[(P0,25,U5,false)],[(1,136,V7)]⟩,[(0,z16z)],fun n x kx=>zha k n x.1.2.2.1 x.1.2.2.2.1 x.2.1.1 x.2.2.1 (fun q_4=>kx 0 (z16z.fill (((),()),(q_4,()),()))),k⟩
def z1py (k:Nat):FE:=⟨U1,1,U16,fun x=>zj7 k x⟩
theorem z109 (k:Nat):z8 Tryz.prog 178 (z1py k):=okC za (xTc zu7 (xTc z10b xTn)) xOn Tryz.f178 (orc (z170 k) (LOn _)) (xLo (z170 k) (by rintro n ⟨⟨⟨⟩,⟨⟩,x6,x7,⟨⟩⟩,⟨q_1,⟨⟩⟩,⟨v_1,⟨⟩⟩⟩ kx; kernel_rfl) xLn) (by rintro m0; kernel_rfl)
def zu8 (k:Nat) (m0:Int×Int×Int×List Int):Option zT10:=(zpv k m0).bind fun r_1=>(zj7 k (r_1.1,(r_1.2.1,(r_1.2.2.1,r_1.2.2.2)))).bind fun r_2=>some r_2
def z1pz (k:Nat):FE:=⟨U1,1,U16,fun x=>zu8 k x⟩
theorem z1q0 (k:Nat):z8 Tryz.prog 162 (z1pz k):=okC za (xTc (z1pv k) (xTc (z109 k) xTn)) xOn Tryz.f162 (LOn _) xLn (by rintro m0; kernel_rfl)
def zhb (k:Nat):Nat→zT1→zT1→Int→Int→Int→Int→(Int→Option Int)→Option Int
 | 0,_,_,_,_,_,_,_=>none
 | n+1,a0,b1,p2,sum7,x10,x11,e_0=>(if (decide (x11<x10)) then (if 0≤x11 then (a0[x11.toNat]?).bind fun y_1=>(if 0≤x11 then (b1[x11.toNat]?).bind fun y_2=>(if p2=0 then none else zhb k n a0 b1 p2 (Int.tmod (z6 (sum7+(z6 (y_1*y_2)))) p2) x10 (z6 (x11+1)) e_0) else none) else none) else e_0 sum7)
def zjy (k:Nat) (a0:List Int) (b1:List Int) (p2:Int):Option Int:=zhb k k a0 b1 p2 0 (List.length a0:Int) 0 (fun sum_3=>some sum_3)
def z172:Head:=⟨[(7,V0)],[],[]⟩
def z174 (k:Nat):LD Int:=⟨3,⟨[(0,V1),(1,V1),(2,V0),(7,V0),(10,V0),(11,V0)],[],[]⟩,[(0,z172)],fun n x kx=>zhb k n x.1.1 x.1.2.1 x.1.2.2.1 x.1.2.2.2.1 x.1.2.2.2.2.1 x.1.2.2.2.2.2.1 (fun sum7=>kx 0 (z172.fill ((sum7,()),(),()))),k⟩
def z1q1 (k:Nat):FE:=⟨(.pr U5 U31),1,U0,fun x=>zjy k x.1 x.2.1 x.2.2⟩
theorem z175 (k:Nat):z8 Tryz.prog 165 (z1q1 k):=okC za xTn xOn Tryz.f165 (orc (z174 k) (LOn _)) (xLo (z174 k) (by rintro n ⟨⟨a0,b1,p2,sum7,x10,x11,⟨⟩⟩,⟨⟩,⟨⟩⟩ kx; kernel_rfl) xLn) (by rintro ⟨a0,b1,p2⟩; kernel_rfl)
def zpw (k:Nat) (i0:Int) (j1:Int) (x2:Int×Int×Int×List Int) (x3:List zT1):Option Int:=(z8c x2 i0).bind fun r_1=>(if 0≤j1 then (x3[j1.toNat]?).bind fun y_2=>(zjy k r_1 y_2 x2.1).bind fun r_3=>some r_3 else none)
def z1q2 (k:Nat):FE:=⟨(.pr U0 (.pr U0 (.pr U14 (.ptr U16)))),1,U0,fun x=>zpw k x.1 x.2.1 x.2.2.1 x.2.2.2⟩
theorem z1q3 (k:Nat):z8 Tryz.prog 164 (z1q2 k):=okC za (xTc zu7 (xTc (z175 k) xTn)) xOn Tryz.f164 (LOn _) xLn (by rintro ⟨i0,j1,x2,x3⟩; kernel_rfl)
end
end Go.Proofs.YtiodkblajaenbaaGreatDoor.Ev
