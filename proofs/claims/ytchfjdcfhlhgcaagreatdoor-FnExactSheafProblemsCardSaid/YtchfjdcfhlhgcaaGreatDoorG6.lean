/- Functions of the program, as plain ones. No conditions. -/
import Derived.Test.YtchfjdcfhlhgcaaGreatDoorG5
import Derived.KernelRfl
set_option linter.unusedVariables false
set_option maxRecDepth 100000
namespace Go.Proofs.YtchfjdcfhlhgcaaGreatDoor.Ev
open Go.RowKit
noncomputable section
def zfi (k:Nat):Nat→Int→Int→Int→zT1→zT3→(Int→Option Int)→Option Int
 | 0,_,_,_,_,_,_=>none
 | n+1,sum5,x12,x13,q_2,v_2,e_0=>(if (decide (x13<x12)) then (if 0≤x13∧x13.toNat<List.length q_2 then (q_2[x13.toNat]?).bind fun y_3=>(if 0≤y_3 then (v_2.2.2.1[y_3.toNat]?).bind fun y_4=>zfi k n (z6 (sum5+y_4)) x12 (z6 (x13+1)) q_2 v_2 e_0 else none) else none) else e_0 sum5)
def za6 (k:Nat) (s0:List zT1×Int×List Int×List zT0) (k1:Int):Option Int:=(zfh k s0.1 k1).bind fun r_1=>zfi k k 0 (List.length r_1:Int) 0 r_1 s0 (fun sum_5=>some sum_5)
def z11q:Head:=⟨[(5,V0)],[],[]⟩
def z11r (k:Nat):LD Int:=⟨3,⟨[(2,(.bp 2 [] 0)),(5,V0),(11,(.ref P0 [])),(12,V0),(13,V0)],[(P0,2,U0,false)],[(2,44,V5)]⟩,[(0,z11q)],fun n x kx=>zfi k n x.1.2.1 x.1.2.2.2.1 x.1.2.2.2.2.1 x.2.1.1 x.2.2.1 (fun sum5=>kx 0 (z11q.fill ((sum5,()),(),()))),k⟩
def z1ii (k:Nat):FE:=⟨(.pr U2 U0),1,U0,fun x=>za6 k x.1 x.2⟩
theorem zrn (k:Nat):z8 Tryz.prog 90 (z1ii k):=okC zb (xTc (zrm k) xTn) xOn Tryz.f90 (orc (z11r k) (LOn _)) (xLo (z11r k) (by rintro n ⟨⟨⟨⟩,sum5,⟨⟩,x12,x13,⟨⟩⟩,⟨q_2,⟨⟩⟩,⟨v_2,⟨⟩⟩⟩ kx; kernel_rfl) xLn) (by rintro ⟨s0,k1⟩; kernel_rfl)
def zfj (k:Nat):Nat→zT1→Int→zT8→(Option Bool)→Option Bool
 | 0,_,_,_,_=>none
 | n+1,stalks1,x16,v_2,e_0=>(if (decide (x16<4)) then (za6 k (v_2,(0,(stalks1,[]))) x16).bind fun r_2=>(if (decide (32<r_2)) then some false else zfj k n stalks1 (z6 (x16+1)) v_2 e_0) else e_0)
def zn1 (k:Nat) (c0:List zT1) (stalks1:List Int):Option Bool:=(if (!(decide ((List.length stalks1:Int)=(List.length c0:Int)))) then some false else (zn0 k stalks1 ()).bind fun r_1=>(if r_1 then some false else zfj k k stalks1 0 c0 (some true)))
def z11s:Head:=⟨[],[],[]⟩
def z11t (k:Nat):LD Bool:=⟨4,⟨[(1,V1),(2,(.bp 2 [] 0)),(16,V0)],[],[(2,41,V8)]⟩,[(0,z11s)],fun n x kx=>zfj k n x.1.1 x.1.2.2.1 x.2.2.1 (kx 0 (z11s.fill ((),(),()))),k⟩
def z1ij (k:Nat):FE:=⟨(.pr U7 U5),1,.bool,fun x=>zn1 k x.1 x.2⟩
theorem z1ik (k:Nat):z8 Tryz.prog 131 (z1ij k):=okC zb (xTc (z1if k) (xTc (zrn k) xTn)) xOn Tryz.f131 (orc (z11t k) (LOn _)) (xLo (z11t k) (by rintro n ⟨⟨stalks1,⟨⟩,x16,⟨⟩⟩,⟨⟩,⟨v_2,⟨⟩⟩⟩ kx; kernel_rfl) xLn) (by rintro ⟨c0,stalks1⟩; kernel_rfl)
def zro (list0:List zT1):Option Int:=some (List.length list0:Int)
def z1il:FE:=⟨U15,1,U0,fun x=>zro x⟩
theorem z1im:z8 Tryz.prog 179 (z1il):=okC zb xTn xOn Tryz.f179 (LOn _) xLn (by rintro list0; kernel_rfl)
def zfk (k:Nat):Nat→Int→Int→zT1→zT8→zT8→(zT1→Option zT1)→Option zT1
 | 0,_,_,_,_,_,_=>none
 | n+1,x14,x15,q_3,q_4,v_2,e_0=>(if (decide (x15<x14)) then (if 0≤x15∧x15.toNat<List.length q_4 then (q_4[x15.toNat]?).bind fun y_5=>(q_4[x15.toNat]?).bind fun y_6=>(zhz k v_2 y_6).bind fun r_7=>(if (q_3.length+[r_7].length)*8≤LIM then zfk k n x14 (z6 (x15+1)) (q_3++[r_7]) q_4 v_2 e_0 else none) else none) else e_0 q_3)
def z8v (k:Nat) (c0:List zT1) (k1:Int):Option zT1:=(if 0≤k1 then (c0[k1.toNat]?).bind fun y_1=>(zfd k y_1).bind fun r_2=>zfk k k (List.length r_2:Int) 0 [] r_2 c0 (fun q_8=>some q_8) else none)
def z11u:Head:=⟨[(5,(.ref P0 []))],[(P0,2,U0,false)],[]⟩
def z11v (k:Nat):LD zT1:=⟨3,⟨[(2,(.bp 2 [] 0)),(5,(.ref P0 [])),(13,(.ref P1 [])),(14,V0),(15,V0)],[(P0,2,U0,false),(P1,25,U5,false)],[(2,41,V8)]⟩,[(0,z11u)],fun n x kx=>zfk k n x.1.2.2.2.1 x.1.2.2.2.2.1 x.2.1.1 x.2.1.2.1 x.2.2.1 (fun q_9=>kx 0 (z11u.fill (((),()),(q_9,()),()))),k⟩
def z1in (k:Nat):FE:=⟨(.pr U7 U0),1,U5,fun x=>z8v k x.1 x.2⟩
theorem zrp (k:Nat):z8 Tryz.prog 92 (z1in k):=okC zb (xTc (z11b k) (xTc (z11e k) xTn)) xOn Tryz.f92 (orc (z11v k) (LOn _)) (xLo (z11v k) (by rintro n ⟨⟨⟨⟩,⟨⟩,⟨⟩,x14,x15,⟨⟩⟩,⟨q_3,q_4,⟨⟩⟩,⟨v_2,⟨⟩⟩⟩ kx; kernel_rfl) xLn) (by rintro ⟨c0,k1⟩; kernel_rfl)
def zc9 (k:Nat):Nat→Int→Int→Int→Int→Int→zT13→zT1→zT8→(Int→Int→zT13→zT8→Option zT13)→Option zT13
 | 0,_,_,_,_,_,_,_,_,_=>none
 | n+1,k4,x9,x10,x16,x17,q_4,q_5,v_1,e_2=>(if (decide (x17<x16)) then (if 0≤x17∧x17.toNat<List.length q_5 then (q_5[x17.toNat]?).bind fun y_6=>(if (q_4.length+[(k4,(x17,y_6))].length)*24≤LIM then zc9 k n k4 x9 x10 x16 (z6 (x17+1)) (q_4++[(k4,(x17,y_6))]) q_5 v_1 e_2 else none) else none) else e_2 x9 x10 q_4 v_1)
def zfl (k:Nat):Nat→Int→Int→zT13→zT8→(zT13→Option zT13)→Option zT13
 | 0,_,_,_,_,_=>none
 | n+1,x9,x10,q_2,v_1,e_0=>(if (decide (x10<x9)) then (z8v k v_1 x10).bind fun r_3=>zc9 k k x10 x9 x10 (List.length r_3:Int) 0 q_2 r_3 v_1 (fun x_4 x_5 q_6 v_7=>zfl k n x_4 (z6 (x_5+1)) q_6 v_7 e_0) else e_0 q_2)
def zn2 (k:Nat) (c0:List zT1):Option zT13:=(zro c0).bind fun r_1=>zfl k k r_1 0 [] c0 (fun q_8=>some q_8)
def z11w:Head:=⟨[(1,(.bp 1 [] 0)),(3,(.ref P0 [])),(9,V0),(10,V0)],[(P0,186,U4,false)],[(1,41,V8)]⟩
def z11x:Head:=⟨[(1,(.bp 1 [] 0)),(3,(.ref P0 [])),(4,V0),(9,V0),(10,V0),(15,(.ref P1 [])),(16,V0),(17,V0)],[(P0,186,U4,false),(P1,2,U0,false)],[(1,41,V8)]⟩
def z11y (k:Nat) (n:Nat) (x:z11x.T) (kx:Nat→St→Option zT13):Option zT13:=zc9 k n x.1.2.2.1 x.1.2.2.2.1 x.1.2.2.2.2.1 x.1.2.2.2.2.2.2.1 x.1.2.2.2.2.2.2.2.1 x.2.1.1 x.2.1.2.1 x.2.2.1 (fun x9 x10 q_7 v_1=>kx 2 (z11w.fill (((),(),x9,x10,()),(q_7,()),(v_1,()))))
def zn3 (k:Nat):LD zT13:=⟨6,z11x,[(2,z11w)],z11y k,k⟩
def z11z:Head:=⟨[(3,(.ref P0 []))],[(P0,186,U4,false)],[]⟩
def z120 (k:Nat):LD zT13:=⟨3,⟨[(1,(.bp 1 [] 0)),(3,(.ref P0 [])),(9,V0),(10,V0)],[(P0,186,U4,false)],[(1,41,V8)]⟩,[(0,z11z)],fun n x kx=>zfl k n x.1.2.2.1 x.1.2.2.2.1 x.2.1.1 x.2.2.1 (fun q_11=>kx 0 (z11z.fill (((),()),(q_11,()),()))),k⟩
def z1io (k:Nat):FE:=⟨U7,1,(.sl 186 U4),fun x=>zn2 k x⟩
theorem z1ip (k:Nat):z8 Tryz.prog 132 (z1io k):=okC zb (xTc z1im (xTc (zrp k) xTn)) xOn Tryz.f132 (orc (zn3 k) (orc (z120 k) (LOn _))) (xLo (z120 k) (by rintro n ⟨⟨⟨⟩,⟨⟩,x9,x10,⟨⟩⟩,⟨q_2,⟨⟩⟩,⟨v_1,⟨⟩⟩⟩ kx; kernel_rfl) (xLp (zn3 k) (by rintro n ⟨⟨⟨⟩,⟨⟩,k4,x9,x10,⟨⟩,x16,x17,⟨⟩⟩,⟨q_4,q_5,⟨⟩⟩,⟨v_1,⟨⟩⟩⟩ kx _ h; dsimp only [zn3,z11y] at h; subst h; dsimp only [zn3]; kernel_rfl) xLn)) (by rintro c0; kernel_rfl)
def zn4 (n0:Int):Option Bool:=(z3z n0 0 32).bind fun r_1=>some r_1
def z1iq:FE:=⟨U0,1,.bool,fun x=>zn4 x⟩
theorem z1ir:z8 Tryz.prog 203 (z1iq):=okC zb (xTc z8t xTn) xOn Tryz.f203 (LOn _) xLn (by rintro n0; kernel_rfl)
def z5x (a0:Int) (p1:Int):Option Bool:=(z3z a0 0 (z6 (p1-1))).bind fun r_1=>some r_1
def z1is:FE:=⟨U20,1,.bool,fun x=>z5x x.1 x.2⟩
theorem zrq:z8 Tryz.prog 135 (z1is):=okC zb (xTc z8t xTn) xOn Tryz.f135 (LOn _) xLn (by rintro ⟨a0,p1⟩; kernel_rfl)
def zrr (a0:Int) (x1:Int):Option Bool:=(z5x a0 x1).bind fun r_1=>some (!r_1)
def z1it:FE:=⟨(.pr U0 (.ptr U0)),1,.bool,fun x=>zrr x.1 x.2⟩
theorem z1iu:z8 Tryz.prog 182 (z1it):=okC zb (xTc zrq xTn) xOn Tryz.f182 (LOn _) xLn (by rintro ⟨a0,x1⟩; kernel_rfl)
def zfm (k:Nat):Nat→zT1→Int→Int→Int→(Option Int)→Option Int
 | 0,_,_,_,_,_=>none
 | n+1,s0,f1,x7,x8,e_0=>(if (decide (x8<x7)) then (if 0≤x8 then (s0[x8.toNat]?).bind fun y_1=>(zrr y_1 f1).bind fun r_2=>(if r_2 then some x8 else zfm k n s0 f1 x7 (z6 (x8+1)) e_0) else none) else e_0)
def zrs (k:Nat) (s0:List Int) (f1:Int):Option Int:=zfm k k s0 f1 (List.length s0:Int) 0 (some (-1))
def z121:Head:=⟨[],[],[]⟩
def z122 (k:Nat):LD Int:=⟨2,⟨[(0,V1),(1,(.val (.fn 182 (.ptr U0)))),(7,V0),(8,V0)],[],[]⟩,[(0,z121)],fun n x kx=>zfm k n x.1.1 x.1.2.1 x.1.2.2.1 x.1.2.2.2.1 (kx 0 (z121.fill ((),(),()))),k⟩
def z1iv (k:Nat):FE:=⟨(.pr U5 (.fn 182 (.ptr U0))),1,U0,fun x=>zrs k x.1 x.2⟩
theorem z1iw (k:Nat):z8 Tryz.prog 150 (z1iv k):=okC zb (xTc z1iu xTn) xOn Tryz.f150 (orc (z122 k) (LOn _)) (xLo (z122 k) (by rintro n ⟨⟨s0,f1,x7,x8,⟨⟩⟩,⟨⟩,⟨⟩⟩ kx; kernel_rfl) xLn) (by rintro ⟨s0,f1⟩; kernel_rfl)
def zrt (k:Nat) (s0:List Int) (f1:Int):Option Bool:=(zrs k s0 f1).bind fun r_1=>some (decide (0≤r_1))
def z1ix (k:Nat):FE:=⟨(.pr U5 (.fn 182 (.ptr U0))),1,.bool,fun x=>zrt k x.1 x.2⟩
theorem z1iy (k:Nat):z8 Tryz.prog 96 (z1ix k):=okC zb (xTc (z1iw k) xTn) xOn Tryz.f96 (LOn _) xLn (by rintro ⟨s0,f1⟩; kernel_rfl)
def zi2 (k:Nat) (list0:List Int) (p1:Int):Option Bool:=(zrt k list0 p1).bind fun r_1=>some (!r_1)
def z1iz (k:Nat):FE:=⟨(.pr U5 U0),1,.bool,fun x=>zi2 k x.1 x.2⟩
theorem z123 (k:Nat):z8 Tryz.prog 139 (z1iz k):=okC zb (xTc (z1iy k) xTn) xOn Tryz.f139 (LOn _) xLn (by rintro ⟨list0,p1⟩; kernel_rfl)
def zi3 (k:Nat) (m0:Int×Int×Int×List Int):Option Bool:=(zff k m0.1).bind fun r_1=>(if r_1 then (zn4 m0.2.1).bind fun r_2=>(if r_2 then (zn4 m0.2.2.1).bind fun r_3=>(if r_3 then (z7m m0.2.2.2).bind fun r_4=>(if (decide (r_4=(z6 (m0.2.1*m0.2.2.1)))) then (zi2 k m0.2.2.2 m0.1).bind fun r_5=>some r_5 else some false) else some false) else some false) else some false)
def z1j0 (k:Nat):FE:=⟨U1,1,.bool,fun x=>zi3 k x⟩
theorem z1j1 (k:Nat):z8 Tryz.prog 180 (z1j0 k):=okC zb (xTc (z11l k) (xTc z1ir (xTc zi1 (xTc (z123 k) xTn)))) xOn Tryz.f180 (LOn _) xLn (by rintro m0; kernel_rfl)
def zru (k:Nat) (m0:Int×Int×Int×List Int) (p1:Int) (from2:Int) (to3:Int):Option Bool:=(zi3 k m0).bind fun r_1=>(if r_1 then (if (decide (m0.1=p1)) then (if (decide (m0.2.1=to3)) then some (decide (m0.2.2.1=from2)) else some false) else some false) else some false)
def z1j2 (k:Nat):FE:=⟨(.pr U1 U32),1,.bool,fun x=>zru k x.1 x.2.1 x.2.2.1 x.2.2.2⟩
theorem z1j3 (k:Nat):z8 Tryz.prog 133 (z1j2 k):=okC zb (xTc (z1j1 k) xTn) xOn Tryz.f133 (LOn _) xLn (by rintro ⟨m0,p1,from2,to3⟩; kernel_rfl)
def zfn (k:Nat):Nat→Int→Int→zT13→zT3→(zT13→zT3→Option Bool)→Option Bool
 | 0,_,_,_,_,_=>none
 | n+1,x28,x29,q_5,v_1,e_0=>(if (decide (x29<x28)) then (if 0≤x29∧x29.toNat<List.length q_5 then (q_5[x29.toNat]?).bind fun y_6=>(if (decide ((List.length v_1.2.2.2:Int)≤x29)) then some false else (if 0≤x29 then (v_1.2.2.2[x29.toNat]?).bind fun y_7=>(if 0≤y_6.2.2 then (v_1.2.2.1[y_6.2.2.toNat]?).bind fun y_8=>(if 0≤y_6.1 then (v_1.2.2.1[y_6.1.toNat]?).bind fun y_9=>(zru k y_7 v_1.2.1 y_8 y_9).bind fun r_10=>(if (!r_10) then some false else zfn k n x28 (z6 (x29+1)) q_5 v_1 e_0) else none) else none) else none)) else none) else e_0 q_5 v_1)
def zn5 (k:Nat) (s0:List zT1×Int×List Int×List zT0):Option Bool:=(zmz k s0.1).bind fun r_1=>(if (!r_1) then some false else (zff k s0.2.1).bind fun r_2=>(if (!r_2) then some false else (zn1 k s0.1 s0.2.2.1).bind fun r_3=>(if (!r_3) then some false else (zn2 k s0.1).bind fun r_4=>zfn k k (List.length r_4:Int) 0 r_4 s0 (fun q_11 v_12=>some (decide ((List.length q_11:Int)=(List.length v_12.2.2.2:Int)))))))
def z124:Head:=⟨[(1,(.bp 1 [] 0)),(3,(.ref P0 []))],[(P0,186,U4,false)],[(1,44,V5)]⟩
def z125 (k:Nat):LD Bool:=⟨5,⟨[(1,(.bp 1 [] 0)),(3,(.ref P0 [])),(27,(.ref P0 [])),(28,V0),(29,V0)],[(P0,186,U4,false)],[(1,44,V5)]⟩,[(0,z124)],fun n x kx=>zfn k n x.1.2.2.2.1 x.1.2.2.2.2.1 x.2.1.1 x.2.2.1 (fun q_11 v_1=>kx 0 (z124.fill (((),(),()),(q_11,()),(v_1,())))),k⟩
def z1j4 (k:Nat):FE:=⟨U2,1,.bool,fun x=>zn5 k x⟩
theorem z1j5 (k:Nat):z8 Tryz.prog 85 (z1j4 k):=okC zb (xTc (z1i8 k) (xTc (z11l k) (xTc (z1ik k) (xTc (z1ip k) (xTc (z1j3 k) xTn))))) xOn Tryz.f85 (orc (z125 k) (LOn _)) (xLo (z125 k) (by rintro n ⟨⟨⟨⟩,⟨⟩,⟨⟩,x28,x29,⟨⟩⟩,⟨q_5,⟨⟩⟩,⟨v_1,⟨⟩⟩⟩ kx; kernel_rfl) xLn) (by rintro s0; kernel_rfl)
def zrv (k0:Int):Option Bool:=(z3z k0 0 3).bind fun r_1=>some r_1
def z1j6:FE:=⟨U0,1,.bool,fun x=>zrv x⟩
theorem z1j7:z8 Tryz.prog 86 (z1j6):=okC zb (xTc z8t xTn) xOn Tryz.f86 (LOn _) xLn (by rintro k0; kernel_rfl)
def za7 (k:Nat):Nat→zT13→Int→Int→zT7→(zT7→Option Bool)→Option Bool
 | 0,_,_,_,_,_=>none
 | n+1,x6,x7,x8,v_1,e_0=>(if (decide (x8<x7)) then (if 0≤x8 then (x6[x8.toNat]?).bind fun y_1=>(z5x y_1.1 v_1.1).bind fun r_2=>(if (!r_2) then some false else (z5x y_1.2.1 v_1.1).bind fun r_3=>(if (!r_3) then some false else (if (decide (y_1.1=y_1.2.1)) then some false else (z3z y_1.2.2 0 1000000).bind fun r_4=>(if (!r_4) then some false else (if (decide (0<x8)) then (if 0≤(z6 (x8-1)) then (v_1.2.2.2[(z6 (x8-1)).toNat]?).bind fun y_5=>(za4 y_5.1 y_1.1).bind fun r_6=>(if 0≤(z6 (x8-1)) then (v_1.2.2.2[(z6 (x8-1)).toNat]?).bind fun y_7=>(za4 y_7.2.1 y_1.2.1).bind fun r_8=>(zhy k [r_6,r_8]).bind fun r_9=>(if (decide (0≤r_9)) then some false else za7 k n x6 x7 (z6 (x8+1)) v_1 e_0) else none) else none) else za7 k n x6 x7 (z6 (x8+1)) v_1 e_0))))) else none) else e_0 v_1)
def zn6 (k:Nat) (n0:Int×Int×Int×List zT2):Option Bool:=za7 k k n0.2.2.2 (List.length n0.2.2.2:Int) 0 n0 (fun v_10=>(z3z v_10.1 2 12).bind fun r_11=>(if r_11 then (z5x v_10.2.1 v_10.1).bind fun r_12=>(if r_12 then (z5x v_10.2.2.1 v_10.1).bind fun r_13=>(if r_13 then (if (!(decide (v_10.2.1=v_10.2.2.1))) then some (decide ((List.length v_10.2.2.2:Int)≤24)) else some false) else some false) else some false) else some false))
def z126:Head:=⟨[(1,(.bp 1 [] 0))],[],[(1,47,(.val U9))]⟩
def z128 (k:Nat):LD Bool:=⟨2,⟨[(1,(.bp 1 [] 0)),(6,(.val U27)),(7,V0),(8,V0)],[],[(1,47,(.val U9))]⟩,[(0,z126)],fun n x kx=>za7 k n x.1.2.1 x.1.2.2.1 x.1.2.2.2.1 x.2.2.1 (fun v_1=>kx 0 (z126.fill (((),()),(),(v_1,())))),k⟩
def z1j8 (k:Nat):FE:=⟨U9,1,.bool,fun x=>zn6 k x⟩
theorem z1j9 (k:Nat):z8 Tryz.prog 87 (z1j8 k):=okC zb (xTc zrq (xTc z8t (xTc zrf (xTc (zrg k) xTn)))) xOn Tryz.f87 (orc (z128 k) (LOn _)) (xLo (z128 k) (by rintro n ⟨⟨⟨⟩,x6,x7,x8,⟨⟩⟩,⟨⟩,⟨v_1,⟨⟩⟩⟩ kx; kernel_rfl) xLn) (by rintro n0; kernel_rfl)
def za8 (k:Nat):Nat→zT13→Int→Int→zT10→(zT10→Option Bool)→Option Bool
 | 0,_,_,_,_,_=>none
 | n+1,x6,x7,x8,v_1,e_0=>(if (decide (x8<x7)) then (if 0≤x8 then (x6[x8.toNat]?).bind fun y_1=>(if (decide (y_1.1<0)) then some false else (if (decide (y_1.2.1≤y_1.1)) then some false else (if (decide (v_1.1≤y_1.2.1)) then some false else (z5x y_1.2.2 v_1.2.1).bind fun r_2=>(if (!r_2) then some false else (if (decide (0<x8)) then (if 0≤(z6 (x8-1)) then (v_1.2.2[(z6 (x8-1)).toNat]?).bind fun y_3=>(za4 y_3.1 y_1.1).bind fun r_4=>(if 0≤(z6 (x8-1)) then (v_1.2.2[(z6 (x8-1)).toNat]?).bind fun y_5=>(za4 y_5.2.1 y_1.2.1).bind fun r_6=>(zhy k [r_4,r_6]).bind fun r_7=>(if (decide (0≤r_7)) then some false else za8 k n x6 x7 (z6 (x8+1)) v_1 e_0) else none) else none) else za8 k n x6 x7 (z6 (x8+1)) v_1 e_0))))) else none) else e_0 v_1)
def zn7 (k:Nat) (x0:Int×Int×List zT2):Option Bool:=za8 k k x0.2.2 (List.length x0.2.2:Int) 0 x0 (fun v_8=>(z3z v_8.1 1 12).bind fun r_9=>(if r_9 then (z3z v_8.2.1 2 360).bind fun r_10=>(if r_10 then some (decide ((List.length v_8.2.2:Int)≤24)) else some false) else some false))
def z129:Head:=⟨[(1,(.bp 1 [] 0))],[],[(1,50,(.val U10))]⟩
def z12a (k:Nat):LD Bool:=⟨2,⟨[(1,(.bp 1 [] 0)),(6,(.val U28)),(7,V0),(8,V0)],[],[(1,50,(.val U10))]⟩,[(0,z129)],fun n x kx=>za8 k n x.1.2.1 x.1.2.2.1 x.1.2.2.2.1 x.2.2.1 (fun v_1=>kx 0 (z129.fill (((),()),(),(v_1,())))),k⟩
def z1ja (k:Nat):FE:=⟨U10,1,.bool,fun x=>zn7 k x⟩
theorem z1jb (k:Nat):z8 Tryz.prog 88 (z1ja k):=okC zb (xTc zrq (xTc zrf (xTc (zrg k) (xTc z8t xTn)))) xOn Tryz.f88 (orc (z12a k) (LOn _)) (xLo (z12a k) (by rintro n ⟨⟨⟨⟩,x6,x7,x8,⟨⟩⟩,⟨⟩,⟨v_1,⟨⟩⟩⟩ kx; kernel_rfl) xLn) (by rintro x0; kernel_rfl)
def zfo (k:Nat) (x0:List Int) (length1:Int) (p2:Int):Option Bool:=(z7m x0).bind fun r_1=>(if (decide (r_1=length1)) then (zi2 k x0 p2).bind fun r_2=>some r_2 else some false)
def z1jc (k:Nat):FE:=⟨(.pr U5 U20),1,.bool,fun x=>zfo k x.1 x.2.1 x.2.2⟩
theorem z12b (k:Nat):z8 Tryz.prog 89 (z1jc k):=okC zb (xTc zi1 (xTc (z123 k) xTn)) xOn Tryz.f89 (LOn _) xLn (by rintro ⟨x0,length1,p2⟩; kernel_rfl)
def zrw (k:Nat) (x0:Int×Int×List zT2) (phases1:List Int):Option Bool:=(zfo k phases1 x0.1 x0.2.1).bind fun r_1=>some r_1
def z1jd (k:Nat):FE:=⟨(.pr U10 U5),1,.bool,fun x=>zrw k x.1 x.2⟩
theorem z1je (k:Nat):z8 Tryz.prog 91 (z1jd k):=okC zb (xTc (z12b k) xTn) xOn Tryz.f91 (LOn _) xLn (by rintro ⟨x0,phases1⟩; kernel_rfl)
def zn8 (k:Nat) (w0:zT3×Int×List Int×List Int×zT7×List Int×List Int×zT10×List Int):Option Bool:=(zn5 k w0.1).bind fun r_1=>(if (!r_1) then some false else (zrv w0.2.1).bind fun r_2=>(if (!r_2) then some false else (zn6 k w0.2.2.2.2.1).bind fun r_3=>(if (!r_3) then some false else (zn7 k w0.2.2.2.2.2.2.2.1).bind fun r_4=>(if (!r_4) then some false else (za6 k w0.1 w0.2.1).bind fun r_5=>(zfo k w0.2.2.1 r_5 w0.1.2.1).bind fun r_6=>(if r_6 then (za6 k w0.1 0).bind fun r_7=>(zfo k w0.2.2.2.1 r_7 w0.1.2.1).bind fun r_8=>(if r_8 then (zrw k w0.2.2.2.2.2.2.2.1 w0.2.2.2.2.2.2.2.2).bind fun r_9=>some r_9 else some false) else some false)))))
def z1jf (k:Nat):FE:=⟨U19,1,.bool,fun x=>zn8 k x⟩
theorem z1jg (k:Nat):z8 Tryz.prog 47 (z1jf k):=okC zb (xTc (z1j5 k) (xTc z1j7 (xTc (z1j9 k) (xTc (z1jb k) (xTc (zrn k) (xTc (z12b k) (xTc (z1je k) xTn))))))) xOn Tryz.f47 (LOn _) xLn (by rintro w0; kernel_rfl)
def za9 (k:Nat):Nat→Int→zT8→Int→Int→(Int→Option Int)→Option Int
 | 0,_,_,_,_,_=>none
 | n+1,n5,x12,x13,x14,e_0=>(if (decide (x14<x13)) then (if 0≤x14 then (x12[x14.toNat]?).bind fun y_1=>(if (decide (1<(List.length y_1:Int))) then (z7m y_1).bind fun r_2=>za9 k n (z6 (n5+r_2)) x12 x13 (z6 (x14+1)) e_0 else za9 k n n5 x12 x13 (z6 (x14+1)) e_0) else none) else e_0 n5)
def zn9 (k:Nat) (s0:List zT1×Int×List Int×List zT0) (simplex1:Int):Option Int:=(if 0≤(0:Int)∧(0:Int)≤simplex1∧simplex1≤s0.1.length then za9 k k 0 (s0.1.take simplex1.toNat) (List.length (s0.1.take simplex1.toNat):Int) 0 (fun n_3=>some n_3) else none)
def z12c:Head:=⟨[(5,V0)],[],[]⟩
def z12d (k:Nat):LD Int:=⟨3,⟨[(5,V0),(12,V3),(13,V0),(14,V0)],[],[]⟩,[(0,z12c)],fun n x kx=>za9 k n x.1.1 x.1.2.1 x.1.2.2.1 x.1.2.2.2.1 (fun n5=>kx 0 (z12c.fill ((n5,()),(),()))),k⟩
def z1jh (k:Nat):FE:=⟨(.pr U2 U0),1,U0,fun x=>zn9 k x.1 x.2⟩
theorem z1ji (k:Nat):z8 Tryz.prog 148 (z1jh k):=okC zb (xTc zi1 xTn) xOn Tryz.f148 (orc (z12d k) (LOn _)) (xLo (z12d k) (by rintro n ⟨⟨n5,x12,x13,x14,⟨⟩⟩,⟨⟩,⟨⟩⟩ kx; kernel_rfl) xLn) (by rintro ⟨s0,simplex1⟩; kernel_rfl)
def z7n (k:Nat) (s0:List zT1×Int×List Int×List zT0) (simplex1:Int) (place2:Int):Option zT0:=(zn9 k s0 simplex1).bind fun r_1=>(if 0≤(z6 (r_1+place2)) then (s0.2.2.2[(z6 (r_1+place2)).toNat]?).bind fun y_2=>some y_2 else none)
def z1jj (k:Nat):FE:=⟨(.pr U2 U20),RON,U1,fun x=>z7n k x.1 x.2.1 x.2.2⟩
theorem z12e (k:Nat):z8 Tryz.prog 94 (z1jj k):=okV zb (xTc (z1ji k) xTn) xOn Tryz.f94 (LOn _) xLn (by rintro ⟨s0,simplex1,place2⟩; kernel_rfl)
def zi4 (m0:Int×Int×Int×List Int) (i1:Int) (j2:Int):Option Int:=(if 0≤(z6 ((z6 (i1*m0.2.2.1))+j2)) then (m0.2.2.2[(z6 ((z6 (i1*m0.2.2.1))+j2)).toNat]?).bind fun y_1=>some y_1 else none)
def z1jk:FE:=⟨(.pr U1 U20),1,U0,fun x=>zi4 x.1 x.2.1 x.2.2⟩
theorem z12f:z8 Tryz.prog 158 (z1jk):=okC zb xTn xOn Tryz.f158 (LOn _) xLn (by rintro ⟨m0,i1,j2⟩; kernel_rfl)
def zrx (i0:Int) (j1:Int) (x2:Int×Int×Int×List Int):Option Int:=(zi4 x2 j1 i0).bind fun r_1=>some r_1
def z1jl:FE:=⟨(.pr U0 (.pr U0 U13)),1,U0,fun x=>zrx x.1 x.2.1 x.2.2⟩
theorem z1jm:z8 Tryz.prog 205 (z1jl):=okC zb (xTc z12f xTn) xOn Tryz.f205 (LOn _) xLn (by rintro ⟨i0,j1,x2⟩; kernel_rfl)
end
end Go.Proofs.YtchfjdcfhlhgcaaGreatDoor.Ev
