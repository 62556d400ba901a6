/- Functions of the program, as plain ones. No conditions. -/
import Derived.Test.YtfinlkoplekgkaaGreatDoorG4
import Derived.KernelRfl
set_option linter.unusedVariables false
set_option maxRecDepth 100000
namespace Go.Proofs.YtfinlkoplekgkaaGreatDoor.Ev
open Go.RowKit
noncomputable section
def zo8 (k:Nat) (w0:zT3×Int×List Int×List Int×zT5×List Int×List Int×zT6×List Int):Option zT4:=(zg1 k w0.1).bind fun r_1=>(if (decide (0≤r_1.1)) then (if 0≤r_1.1 then (w0.1.1[r_1.1.toNat]?).bind fun y_2=>(zcm k y_2).bind fun r_3=>(zc6 y_2 r_1.2.2).bind fun r_4=>(zc6 r_4 r_1.2.1).bind fun r_5=>(zcm k r_5).bind fun r_6=>some [(1,(r_3,r_6))] else none) else (znv k w0.1 w0.2.1 w0.2.2.1).bind fun r_7=>(if (!r_7) then some [(2,([99,108,97,115,115],[111,112,101,110]))] else (zo7 k w0.1 w0.2.1 w0.2.2.1).bind fun r_8=>(if r_8.2 then some [(2,([99,108,97,115,115],[116,114,105,118,105,97,108]))] else some [])))
def z1k0 (k:Nat):FE:=⟨U37,1,U25,fun x=>zo8 k x⟩
theorem z1k1 (k:Nat):z8 Tryz.prog 35 (z1k0 k):=okC zb (xTc (z1je k) (xTc (zsk k) (xTc zs6 (xTc (z1jo k) (xTc (z1jz k) xTn))))) xOn Tryz.f35 (LOn _) xLn (by rintro w0; kernel_rfl)
def zcv (k:Nat):Nat→zT3→Int→zT1→zT1→zT1→(zT1→Option zT1)→Option zT1
 | 0,_,_,_,_,_,_=>none
 | n+1,s0,i9,q_4,q_5,q_6,e_0=>(if (decide (i9<(List.length q_5:Int))) then (if 0≤i9∧i9.toNat<List.length q_5 then (q_5[i9.toNat]?).bind fun y_7=>(zg3 k s0 y_7).bind fun r_8=>(if 0≤i9∧i9.toNat<List.length q_5 then (q_5[i9.toNat]?).bind fun y_9=>(if 0≤y_9 then (s0.2.2.1[y_9.toNat]?).bind fun y_10=>(if 0≤r_8∧r_8≤(z6 (r_8+y_10))∧(z6 (r_8+y_10))≤q_4.length then (zj1 k ((q_4.drop r_8.toNat).take ((z6 (r_8+y_10)).toNat-r_8.toNat))).bind fun r_11=>(if (!r_11) then (if 0≤i9∧i9.toNat<List.length q_5 then (q_5[i9.toNat]?).bind fun y_12=>(if (q_6.length+[y_12].length)*8≤LIM then zcv k n s0 (z6 (i9+1)) q_4 q_5 (q_6++[y_12]) e_0 else none) else none) else zcv k n s0 (z6 (i9+1)) q_4 q_5 q_6 e_0) else none) else none) else none) else none) else e_0 q_6)
def zj3 (k:Nat) (s0:List zT1×Int×List Int×List zT0) (x1:List Int):Option zT1:=(z86 k s0 0).bind fun r_1=>(zj0 k (r_1.1,(r_1.2.1,(r_1.2.2.1,r_1.2.2.2))) x1).bind fun r_2=>(zfr k s0.1 1).bind fun r_3=>zcv k k s0 0 r_2 r_3 [] (fun q_13=>some q_13)
def z12y:Head:=⟨[(8,(.ref P0 []))],[(P0,2,U0,false)],[]⟩
def z12z (k:Nat):LD zT1:=⟨6,⟨[(0,V5),(6,(.ref P0 [])),(7,(.ref P1 [])),(8,(.ref P2 [])),(9,V0)],[(P0,2,U0,false),(P1,2,U0,false),(P2,2,U0,false)],[]⟩,[(0,z12y)],fun n x kx=>zcv k n x.1.1 x.1.2.2.2.2.1 x.2.1.1 x.2.1.2.1 x.2.1.2.2.1 (fun q_13=>kx 0 (z12y.fill (((),()),(q_13,()),()))),k⟩
def z1k2 (k:Nat):FE:=⟨(.pr U22 U5),1,U5,fun x=>zj3 k x.1 x.2⟩
theorem z1k3 (k:Nat):z8 Tryz.prog 67 (z1k2 k):=okC zb (xTc (zsl k) (xTc (z122 k) (xTc (zsd k) (xTc (z11l k) (xTc (z125 k) xTn))))) xOn Tryz.f67 (orc (z12z k) (LOn _)) (xLo (z12z k) (by rintro n ⟨⟨s0,⟨⟩,⟨⟩,⟨⟩,i9,⟨⟩⟩,⟨q_4,q_5,q_6,⟨⟩⟩,⟨⟩⟩ kx; kernel_rfl) xLn) (by rintro ⟨s0,x1⟩; kernel_rfl)
def zg9 (k:Nat):Nat→zT9→Int→zT4→zT1→(zT4→Option zT4)→Option zT4
 | 0,_,_,_,_,_=>none
 | n+1,w0,i5,q_2,q_3,e_0=>(if (decide (i5<(List.length q_3:Int))) then (if 0≤i5∧i5.toNat<List.length q_3 then (q_3[i5.toNat]?).bind fun y_4=>(if 0≤y_4 then (w0.1.1[y_4.toNat]?).bind fun y_5=>(zcm k y_5).bind fun r_6=>(if (q_2.length+[(3,(r_6,[100,105,115,97,103,114,101,101]))].length)*40≤LIM then zg9 k n w0 (z6 (i5+1)) (q_2++[(3,(r_6,[100,105,115,97,103,114,101,101]))]) q_3 e_0 else none) else none) else none) else e_0 q_2)
def zo9 (k:Nat) (w0:zT3×Int×List Int×List Int×zT5×List Int×List Int×zT6×List Int):Option zT4:=(zj3 k w0.1 w0.2.2.2.1).bind fun r_1=>zg9 k k w0 0 [] r_1 (fun q_7=>some q_7)
def z130:Head:=⟨[(3,(.ref P0 []))],[(P0,119,U9,false)],[]⟩
def z131 (k:Nat):LD zT4:=⟨4,⟨[(0,(.val U37)),(3,(.ref P0 [])),(4,(.ref P1 [])),(5,V0)],[(P0,119,U9,false),(P1,2,U0,false)],[]⟩,[(0,z130)],fun n x kx=>zg9 k n x.1.1 x.1.2.2.2.1 x.2.1.1 x.2.1.2.1 (fun q_7=>kx 0 (z130.fill (((),()),(q_7,()),()))),k⟩
def z1k4 (k:Nat):FE:=⟨U37,1,U25,fun x=>zo9 k x⟩
theorem z1k5 (k:Nat):z8 Tryz.prog 36 (z1k4 k):=okC zb (xTc (z1k3 k) (xTc (zsk k) xTn)) xOn Tryz.f36 (orc (z131 k) (LOn _)) (xLo (z131 k) (by rintro n ⟨⟨w0,⟨⟩,⟨⟩,i5,⟨⟩⟩,⟨q_2,q_3,⟨⟩⟩,⟨⟩⟩ kx; kernel_rfl) xLn) (by rintro w0; kernel_rfl)
def z9g (k:Nat):Nat→zT5→zT1→Int→Int→Int→(Int→Option Int)→Option Int
 | 0,_,_,_,_,_,_=>none
 | n+1,n0,flow1,node2,sum7,i8,e_0=>(if (decide (i8<(List.length n0.2.2.2:Int))) then (if 0≤i8 then (n0.2.2.2[i8.toNat]?).bind fun y_1=>(if (decide (y_1.2.1=node2)) then (if 0≤i8 then (flow1[i8.toNat]?).bind fun y_2=>(if 0≤i8 then (n0.2.2.2[i8.toNat]?).bind fun y_3=>(if (decide (y_3.1=node2)) then (if 0≤i8 then (flow1[i8.toNat]?).bind fun y_4=>z9g k n n0 flow1 node2 (z6 ((z6 (sum7+y_2))-y_4)) (z6 (i8+1)) e_0 else none) else z9g k n n0 flow1 node2 (z6 (sum7+y_2)) (z6 (i8+1)) e_0) else none) else none) else (if 0≤i8 then (n0.2.2.2[i8.toNat]?).bind fun y_5=>(if (decide (y_5.1=node2)) then (if 0≤i8 then (flow1[i8.toNat]?).bind fun y_6=>z9g k n n0 flow1 node2 (z6 (sum7-y_6)) (z6 (i8+1)) e_0 else none) else z9g k n n0 flow1 node2 sum7 (z6 (i8+1)) e_0) else none)) else none) else e_0 sum7)
def zj4 (k:Nat) (n0:Int×Int×Int×List zT2) (flow1:List Int) (node2:Int):Option Int:=z9g k k n0 flow1 node2 0 0 (fun sum_7=>some sum_7)
def z132:Head:=⟨[(7,V0)],[],[]⟩
def z133 (k:Nat):LD Int:=⟨3,⟨[(0,V8),(1,V1),(2,V0),(7,V0),(8,V0)],[],[]⟩,[(0,z132)],fun n x kx=>z9g k n x.1.1 x.1.2.1 x.1.2.2.1 x.1.2.2.2.1 x.1.2.2.2.2.1 (fun sum7=>kx 0 (z132.fill ((sum7,()),(),()))),k⟩
def z1k6 (k:Nat):FE:=⟨(.pr U29 U30),1,U0,fun x=>zj4 k x.1 x.2.1 x.2.2⟩
theorem z134 (k:Nat):z8 Tryz.prog 71 (z1k6 k):=okC zb xTn xOn Tryz.f71 (orc (z133 k) (LOn _)) (xLo (z133 k) (by rintro n ⟨⟨n0,flow1,node2,sum7,i8,⟨⟩⟩,⟨⟩,⟨⟩⟩ kx; kernel_rfl) xLn) (by rintro ⟨n0,flow1,node2⟩; kernel_rfl)
def zcw (k:Nat):Nat→zT5→zT1→Int→(zT5→zT1→Option Bool)→Option Bool
 | 0,_,_,_,_=>none
 | n+1,n0,flow1,i5,e_0=>(if (decide (i5<(List.length flow1:Int))) then (if 0≤i5 then (flow1[i5.toNat]?).bind fun y_1=>(if 0≤i5 then (n0.2.2.2[i5.toNat]?).bind fun y_2=>(z30 y_1 0 y_2.2.2).bind fun r_3=>(if (!r_3) then some false else zcw k n n0 flow1 (z6 (i5+1)) e_0) else none) else none) else e_0 n0 flow1)
def z6k (k:Nat):Nat→zT5→zT1→Int→(Option Bool)→Option Bool
 | 0,_,_,_,_=>none
 | n+1,n0,flow1,v6,e_2=>(if (decide (v6<n0.1)) then (if (!(decide (v6=n0.2.1))) then (if (!(decide (v6=n0.2.2.1))) then (zj4 k n0 flow1 v6).bind fun r_6=>(if (!(decide (r_6=0))) then some false else z6k k n n0 flow1 (z6 (v6+1)) e_2) else z6k k n n0 flow1 (z6 (v6+1)) e_2) else z6k k n n0 flow1 (z6 (v6+1)) e_2) else e_2)
def zoa (k:Nat) (n0:Int×Int×Int×List zT2) (flow1:List Int):Option Bool:=(if (!(decide ((List.length flow1:Int)=(List.length n0.2.2.2:Int)))) then some false else zcw k k n0 flow1 0 (fun n_4 flow_5=>z6k k k n_4 flow_5 0 (some true)))
def z135:Head:=⟨[(0,V8),(1,V1)],[],[]⟩
def z136 (k:Nat):LD Bool:=⟨4,⟨[(0,V8),(1,V1),(5,V0)],[],[]⟩,[(0,z135)],fun n x kx=>zcw k n x.1.1 x.1.2.1 x.1.2.2.1 (fun n0 flow1=>kx 0 (z135.fill ((n0,flow1,()),(),()))),k⟩
def z137:Head:=⟨[],[],[]⟩
def z138 (k:Nat):LD Bool:=⟨9,⟨[(0,V8),(1,V1),(6,V0)],[],[]⟩,[(2,z137)],fun n x kx=>z6k k n x.1.1 x.1.2.1 x.1.2.2.1 (kx 2 (z137.fill ((),(),()))),k⟩
def z1k7 (k:Nat):FE:=⟨(.pr U29 U5),1,.bool,fun x=>zoa k x.1 x.2⟩
theorem z1k8 (k:Nat):z8 Tryz.prog 68 (z1k7 k):=okC zb (xTc z96 (xTc (z134 k) xTn)) xOn Tryz.f68 (orc (z136 k) (orc (z138 k) (LOn _))) (xLo (z136 k) (by rintro n ⟨⟨n0,flow1,i5,⟨⟩⟩,⟨⟩,⟨⟩⟩ kx; kernel_rfl) (xLo (z138 k) (by rintro n ⟨⟨n0,flow1,v6,⟨⟩⟩,⟨⟩,⟨⟩⟩ kx; kernel_rfl) xLn)) (by rintro ⟨n0,flow1⟩; kernel_rfl)
def zga (k:Nat):Nat→zT1→Int→Int→(Option Bool)→Option Bool
 | 0,_,_,_,_=>none
 | n+1,list0,n1,i5,e_0=>(if (decide (i5<(List.length list0:Int))) then (if 0≤i5 then (list0[i5.toNat]?).bind fun y_1=>(if (decide (y_1=n1)) then some true else zga k n list0 n1 (z6 (i5+1)) e_0) else none) else e_0)
def zcx (k:Nat) (list0:List Int) (n1:Int):Option Bool:=zga k k list0 n1 0 (some false)
def z139:Head:=⟨[],[],[]⟩
def z13a (k:Nat):LD Bool:=⟨2,⟨[(0,V1),(1,V0),(5,V0)],[],[]⟩,[(0,z139)],fun n x kx=>zga k n x.1.1 x.1.2.1 x.1.2.2.1 (kx 0 (z139.fill ((),(),()))),k⟩
def z1k9 (k:Nat):FE:=⟨U30,1,.bool,fun x=>zcx k x.1 x.2⟩
theorem z13b (k:Nat):z8 Tryz.prog 109 (z1k9 k):=okC zb xTn xOn Tryz.f109 (orc (z13a k) (LOn _)) (xLo (z13a k) (by rintro n ⟨⟨list0,n1,i5,⟨⟩⟩,⟨⟩,⟨⟩⟩ kx; kernel_rfl) xLn) (by rintro ⟨list0,n1⟩; kernel_rfl)
def zob (k:Nat) (n0:Int×Int×Int×List zT2) (side1:List Int):Option Bool:=(zii k side1 0 (z6 (n0.1-1))).bind fun r_1=>(if r_1 then (zcx k side1 n0.2.1).bind fun r_2=>(if r_2 then (zcx k side1 n0.2.2.1).bind fun r_3=>some (!r_3) else some false) else some false)
def z1ka (k:Nat):FE:=⟨(.pr U29 U5),1,.bool,fun x=>zob k x.1 x.2⟩
theorem z1kb (k:Nat):z8 Tryz.prog 69 (z1ka k):=okC zb (xTc (zyh k) (xTc (z13b k) xTn)) xOn Tryz.f69 (LOn _) xLn (by rintro ⟨n0,side1⟩; kernel_rfl)
def zax (k:Nat):Nat→zT5→zT1→Int→Int→(Int→Option Int)→Option Int
 | 0,_,_,_,_,_=>none
 | n+1,n0,side1,sum5,i6,e_0=>(if (decide (i6<(List.length n0.2.2.2:Int))) then (if 0≤i6 then (n0.2.2.2[i6.toNat]?).bind fun y_1=>(zcx k side1 y_1.1).bind fun r_2=>(if r_2 then (if 0≤i6 then (n0.2.2.2[i6.toNat]?).bind fun y_3=>(zcx k side1 y_3.2.1).bind fun r_4=>(if (!r_4) then (if 0≤i6 then (n0.2.2.2[i6.toNat]?).bind fun y_5=>zax k n n0 side1 (z6 (sum5+y_5.2.2)) (z6 (i6+1)) e_0 else none) else zax k n n0 side1 sum5 (z6 (i6+1)) e_0) else none) else zax k n n0 side1 sum5 (z6 (i6+1)) e_0) else none) else e_0 sum5)
def zoc (k:Nat) (n0:Int×Int×Int×List zT2) (side1:List Int):Option Int:=zax k k n0 side1 0 0 (fun sum_6=>some sum_6)
def z13c:Head:=⟨[(5,V0)],[],[]⟩
def z13d (k:Nat):LD Int:=⟨3,⟨[(0,V8),(1,V1),(5,V0),(6,V0)],[],[]⟩,[(0,z13c)],fun n x kx=>zax k n x.1.1 x.1.2.1 x.1.2.2.1 x.1.2.2.2.1 (fun sum5=>kx 0 (z13c.fill ((sum5,()),(),()))),k⟩
def z1kc (k:Nat):FE:=⟨(.pr U29 U5),1,U0,fun x=>zoc k x.1 x.2⟩
theorem z1kd (k:Nat):z8 Tryz.prog 70 (z1kc k):=okC zb (xTc (z13b k) xTn) xOn Tryz.f70 (orc (z13d k) (LOn _)) (xLo (z13d k) (by rintro n ⟨⟨n0,side1,sum5,i6,⟨⟩⟩,⟨⟩,⟨⟩⟩ kx; kernel_rfl) xLn) (by rintro ⟨n0,side1⟩; kernel_rfl)
def zod (k:Nat) (w0:zT3×Int×List Int×List Int×zT5×List Int×List Int×zT6×List Int):Option zT4:=(zoa k w0.2.2.2.2.1 w0.2.2.2.2.2.1).bind fun r_1=>(if (!r_1) then some [(4,([102,108,111,119],[110,111,110,101]))] else (zob k w0.2.2.2.2.1 w0.2.2.2.2.2.2.1).bind fun r_2=>(if (!r_2) then some [(4,([115,105,100,101],[110,111,110,101]))] else (zoc k w0.2.2.2.2.1 w0.2.2.2.2.2.2.1).bind fun r_3=>(zj4 k w0.2.2.2.2.1 w0.2.2.2.2.2.1 w0.2.2.2.2.1.2.2.1).bind fun r_4=>(if (!(decide ((z6 (r_3-r_4))=0))) then (zg2 k (z6 (r_3-r_4))).bind fun r_5=>some [(4,([114,101,115,116],r_5))] else some [])))
def z1ke (k:Nat):FE:=⟨U37,1,U25,fun x=>zod k x⟩
theorem z1kf (k:Nat):z8 Tryz.prog 37 (z1ke k):=okC zb (xTc (z1k8 k) (xTc (z1kb k) (xTc (z1kd k) (xTc (z134 k) (xTc (z11g k) xTn))))) xOn Tryz.f37 (LOn _) xLn (by rintro w0; kernel_rfl)
def zcy (k:Nat):Nat→zT6→zT1→Int→zT1→(zT1→Option zT1)→Option zT1
 | 0,_,_,_,_,_=>none
 | n+1,x0,phases1,i6,q_1,e_0=>(if (decide (i6<(List.length x0.2.2:Int))) then (if 0≤i6 then (x0.2.2[i6.toNat]?).bind fun y_2=>(if 0≤y_2.2.1 then (phases1[y_2.2.1.toNat]?).bind fun y_3=>(if 0≤y_2.1 then (phases1[y_2.1.toNat]?).bind fun y_4=>(zcr (z6 ((z6 (y_3-y_4))-y_2.2.2)) x0.2.1).bind fun r_5=>(if (!(decide (r_5=0))) then (if (q_1.length+[i6].length)*8≤LIM then zcy k n x0 phases1 (z6 (i6+1)) (q_1++[i6]) e_0 else none) else zcy k n x0 phases1 (z6 (i6+1)) q_1 e_0) else none) else none) else none) else e_0 q_1)
def zoe (k:Nat) (x0:Int×Int×List zT2) (phases1:List Int):Option zT1:=zcy k k x0 phases1 0 [] (fun q_6=>some q_6)
def z13e:Head:=⟨[(5,(.ref P0 []))],[(P0,2,U0,false)],[]⟩
def z13f (k:Nat):LD zT1:=⟨3,⟨[(0,(.val U38)),(1,V1),(5,(.ref P0 [])),(6,V0)],[(P0,2,U0,false)],[]⟩,[(0,z13e)],fun n x kx=>zcy k n x.1.1 x.1.2.1 x.1.2.2.2.1 x.2.1.1 (fun q_6=>kx 0 (z13e.fill (((),()),(q_6,()),()))),k⟩
def z1kg (k:Nat):FE:=⟨(.pr U38 U5),1,U5,fun x=>zoe k x.1 x.2⟩
theorem z1kh (k:Nat):z8 Tryz.prog 73 (z1kg k):=okC zb (xTc z12c xTn) xOn Tryz.f73 (orc (z13f k) (LOn _)) (xLo (z13f k) (by rintro n ⟨⟨x0,phases1,⟨⟩,i6,⟨⟩⟩,⟨q_1,⟨⟩⟩,⟨⟩⟩ kx; kernel_rfl) xLn) (by rintro ⟨x0,phases1⟩; kernel_rfl)
def zgb (k:Nat):Nat→zT9→Int→zT4→zT1→(zT4→Option zT4)→Option zT4
 | 0,_,_,_,_,_=>none
 | n+1,w0,i5,q_2,q_3,e_0=>(if (decide (i5<(List.length q_3:Int))) then (if 0≤i5∧i5.toNat<List.length q_3 then (q_3[i5.toNat]?).bind fun y_4=>(if 0≤y_4 then (w0.2.2.2.2.2.2.2.1.2.2[y_4.toNat]?).bind fun y_5=>(zcm k [y_5.1,y_5.2.1]).bind fun r_6=>(if (q_2.length+[(5,(r_6,[115,104,105,102,116]))].length)*40≤LIM then zgb k n w0 (z6 (i5+1)) (q_2++[(5,(r_6,[115,104,105,102,116]))]) q_3 e_0 else none) else none) else none) else e_0 q_2)
def zof (k:Nat) (w0:zT3×Int×List Int×List Int×zT5×List Int×List Int×zT6×List Int):Option zT4:=(zoe k w0.2.2.2.2.2.2.2.1 w0.2.2.2.2.2.2.2.2).bind fun r_1=>zgb k k w0 0 [] r_1 (fun q_7=>some q_7)
def z13g:Head:=⟨[(3,(.ref P0 []))],[(P0,119,U9,false)],[]⟩
def z13h (k:Nat):LD zT4:=⟨4,⟨[(0,(.val U37)),(3,(.ref P0 [])),(4,(.ref P1 [])),(5,V0)],[(P0,119,U9,false),(P1,2,U0,false)],[]⟩,[(0,z13g)],fun n x kx=>zgb k n x.1.1 x.1.2.2.2.1 x.2.1.1 x.2.1.2.1 (fun q_7=>kx 0 (z13g.fill (((),()),(q_7,()),()))),k⟩
def z1ki (k:Nat):FE:=⟨U37,1,U25,fun x=>zof k x⟩
theorem z1kj (k:Nat):z8 Tryz.prog 38 (z1ki k):=okC zb (xTc (z1kh k) (xTc (zsk k) xTn)) xOn Tryz.f38 (orc (z13h k) (LOn _)) (xLo (z13h k) (by rintro n ⟨⟨w0,⟨⟩,⟨⟩,i5,⟨⟩⟩,⟨q_2,q_3,⟨⟩⟩,⟨⟩⟩ kx; kernel_rfl) xLn) (by rintro w0; kernel_rfl)
def zog (k:Nat) (w0:zT3×Int×List Int×List Int×zT5×List Int×List Int×zT6×List Int):Option zT4:=(zo8 k w0).bind fun r_1=>(if (([]:List Unit).length+r_1.length)*40≤LIM then (zo9 k w0).bind fun r_2=>(if (r_1.length+r_2.length)*40≤LIM then (zod k w0).bind fun r_3=>(if ((r_1++r_2).length+r_3.length)*40≤LIM then (zof k w0).bind fun r_4=>(if (((r_1++r_2)++r_3).length+r_4.length)*40≤LIM then some (((r_1++r_2)++r_3)++r_4) else none) else none) else none) else none)
def z1kk (k:Nat):FE:=⟨U37,1,U25,fun x=>zog k x⟩
theorem z1kl (k:Nat):z8 Tryz.prog 14 (z1kk k):=okC zb (xTc (z1k1 k) (xTc (z1k5 k) (xTc (z1kf k) (xTc (z1kj k) xTn)))) xOn Tryz.f14 (LOn _) xLn (by rintro w0; kernel_rfl)
def zne (k:Nat) (w0:zT3×Int×List Int×List Int×zT5×List Int×List Int×zT6×List Int):Option Bool:=(znl k w0).bind fun r_1=>(if r_1 then (zog k w0).bind fun r_2=>some (decide ((List.length r_2:Int)=0)) else some false)
def z1km (k:Nat):FE:=⟨U13,1,.bool,fun x=>zne k x⟩
theorem z1ie (k:Nat):z8 Tryz.prog 5 (z1km k):=okC zb (xTc (z1j4 k) (xTc (z1kl k) xTn)) xOn Tryz.f5 (LOn _) xLn (by rintro w0; kernel_rfl)
def zgc (k:Nat):Nat→zT1→Int→(Option Bool)→Option Bool
 | 0,_,_,_=>none
 | n+1,list0,k3,e_0=>(if (decide (k3<(List.length list0:Int))) then (if 0≤(z6 (k3-1)) then (list0[(z6 (k3-1)).toNat]?).bind fun y_1=>(if 0≤k3 then (list0[k3.toNat]?).bind fun y_2=>(if (decide (y_2≤y_1)) then some false else zgc k n list0 (z6 (k3+1)) e_0) else none) else none) else e_0)
def ziu (k:Nat) (list0:List Int):Option Bool:=zgc k k list0 1 (some true)
def z13i:Head:=⟨[],[],[]⟩
def z13j (k:Nat):LD Bool:=⟨2,⟨[(0,V1),(3,V0)],[],[]⟩,[(0,z13i)],fun n x kx=>zgc k n x.1.1 x.1.2.1 (kx 0 (z13i.fill ((),(),()))),k⟩
def z1kn (k:Nat):FE:=⟨U5,1,.bool,fun x=>ziu k x⟩
theorem zzo (k:Nat):z8 Tryz.prog 133 (z1kn k):=okC zb xTn xOn Tryz.f133 (orc (z13j k) (LOn _)) (xLo (z13j k) (by rintro n ⟨⟨list0,k3,⟨⟩⟩,⟨⟩,⟨⟩⟩ kx; kernel_rfl) xLn) (by rintro list0; kernel_rfl)
def z47 (n0:Int) (low1:Int) (high2:Int):Option Bool:=(if (decide (low1≤n0)) then some (decide (n0≤high2)) else some false)
def z1ko:FE:=⟨U34,1,.bool,fun x=>z47 x.1 x.2.1 x.2.2⟩
theorem z84:z8 Tryz.prog 132 (z1ko):=okC zb xTn xOn Tryz.f132 (LOn _) xLn (by rintro ⟨n0,low1,high2⟩; kernel_rfl)
def zsm (v0:Int):Option Bool:=(z47 v0 0 9).bind fun r_1=>some r_1
def z1kp:FE:=⟨U0,1,.bool,fun x=>zsm x⟩
theorem z1kq:z8 Tryz.prog 202 (z1kp):=okC zb (xTc z84 xTn) xOn Tryz.f202 (LOn _) xLn (by rintro v0; kernel_rfl)
def zsn (v0:Int):Option Bool:=(zsm v0).bind fun r_1=>some (!r_1)
def z1kr:FE:=⟨U0,1,.bool,fun x=>zsn x⟩
theorem z1ks:z8 Tryz.prog 201 (z1kr):=okC zb (xTc z1kq xTn) xOn Tryz.f201 (LOn _) xLn (by rintro v0; kernel_rfl)
def zgd (k:Nat):Nat→zT1→Unit→Int→Int→(Option Int)→Option Int
 | 0,_,_,_,_,_=>none
 | n+1,s0,f1,x7,x8,e_0=>(if (decide (x8<x7)) then (if 0≤x8 then (s0[x8.toNat]?).bind fun y_1=>(zsn y_1).bind fun r_2=>(if r_2 then some x8 else zgd k n s0 f1 x7 (z6 (x8+1)) e_0) else none) else e_0)
def zso (k:Nat) (s0:List Int) (f1:Unit):Option Int:=zgd k k s0 f1 (List.length s0:Int) 0 (some (-1))
def z13k:Head:=⟨[],[],[]⟩
def z13l (k:Nat):LD Int:=⟨2,⟨[(0,V1),(1,(.val (.fn 201 .un))),(7,V0),(8,V0)],[],[]⟩,[(0,z13k)],fun n x kx=>zgd k n x.1.1 x.1.2.1 x.1.2.2.1 x.1.2.2.2.1 (kx 0 (z13k.fill ((),(),()))),k⟩
def z1kt (k:Nat):FE:=⟨(.pr U5 (.fn 201 .un)),1,U0,fun x=>zso k x.1 x.2⟩
theorem z1ku (k:Nat):z8 Tryz.prog 162 (z1kt k):=okC zb (xTc z1ks xTn) xOn Tryz.f162 (orc (z13l k) (LOn _)) (xLo (z13l k) (by rintro n ⟨⟨s0,f1,x7,x8,⟨⟩⟩,⟨⟩,⟨⟩⟩ kx; kernel_rfl) xLn) (by rintro ⟨s0,f1⟩; kernel_rfl)
def zoh (k:Nat) (s0:List Int) (f1:Unit):Option Bool:=(zso k s0 f1).bind fun r_1=>some (decide (0≤r_1))
def z1kv (k:Nat):FE:=⟨(.pr U5 (.fn 201 .un)),1,.bool,fun x=>zoh k x.1 x.2⟩
theorem z1kw (k:Nat):z8 Tryz.prog 122 (z1kv k):=okC zb (xTc (z1ku k) xTn) xOn Tryz.f122 (LOn _) xLn (by rintro ⟨s0,f1⟩; kernel_rfl)
def zoi (k:Nat) (s0:List Int):Option Bool:=(if (decide (1≤(List.length s0:Int))) then (if (decide ((List.length s0:Int)≤4)) then (ziu k s0).bind fun r_1=>(if r_1 then (zoh k s0 ()).bind fun r_2=>some (!r_2) else some false) else some false) else some false)
def z1kx (k:Nat):FE:=⟨U5,1,.bool,fun x=>zoi k x⟩
theorem z1ky (k:Nat):z8 Tryz.prog 178 (z1kx k):=okC zb (xTc (zzo k) (xTc (z1kw k) xTn)) xOn Tryz.f178 (LOn _) xLn (by rintro s0; kernel_rfl)
def zoj (x0:Int):Option Bool:=some (!(decide (x0=x0)))
def z1kz:FE:=⟨U0,1,.bool,fun x=>zoj x⟩
theorem z1l0:z8 Tryz.prog 216 (z1kz):=okC zb xTn xOn Tryz.f216 (LOn _) xLn (by rintro x0; kernel_rfl)
def zok (x0:Int) (y1:Int):Option Int:=(zoj x0).bind fun r_1=>(zoj y1).bind fun r_2=>(if r_1 then (if r_2 then some 0 else some (-1)) else (if r_2 then some 1 else (if (decide (x0<y1)) then some (-1) else (if (decide (y1<x0)) then some 1 else some 0))))
def z1l1:FE:=⟨U20,1,U0,fun x=>zok x.1 x.2⟩
theorem z1l2:z8 Tryz.prog 203 (z1l1):=okC zb (xTc z1l0 xTn) xOn Tryz.f203 (LOn _) xLn (by rintro ⟨x0,y1⟩; kernel_rfl)
def zol (x0:Int):Option Bool:=some (!(decide (x0=x0)))
def z1l3:FE:=⟨U0,1,.bool,fun x=>zol x⟩
theorem z1l4:z8 Tryz.prog 185 (z1l3):=okC zb xTn xOn Tryz.f185 (LOn _) xLn (by rintro x0; kernel_rfl)
def zay (x0:Int) (y1:Int):Option Int:=(zol x0).bind fun r_1=>(zol y1).bind fun r_2=>(if r_1 then (if r_2 then some 0 else some (-1)) else (if r_2 then some 1 else (if (decide (x0<y1)) then some (-1) else (if (decide (y1<x0)) then some 1 else some 0))))
def z1l5:FE:=⟨U20,1,U0,fun x=>zay x.1 x.2⟩
theorem zsp:z8 Tryz.prog 151 (z1l5):=okC zb (xTc z1l4 xTn) xOn Tryz.f151 (LOn _) xLn (by rintro ⟨x0,y1⟩; kernel_rfl)
def zge (k:Nat):Nat→zT1→zT1→zT1→Int→Int→(zT1→zT1→Option Int)→Option Int
 | 0,_,_,_,_,_,_=>none
 | n+1,s10,s21,x9,x10,x11,e_0=>(if (decide (x11<x10)) then (if 0≤x11 then (x9[x11.toNat]?).bind fun y_1=>(if (decide ((List.length s21:Int)≤x11)) then some 1 else (if 0≤x11 then (s21[x11.toNat]?).bind fun y_2=>(zay y_1 y_2).bind fun r_3=>(if (!(decide (r_3=0))) then some r_3 else zge k n s10 s21 x9 x10 (z6 (x11+1)) e_0) else none)) else none) else e_0 s10 s21)
def zom (k:Nat) (s10:List Int) (s21:List Int):Option Int:=zge k k s10 s21 s10 (List.length s10:Int) 0 (fun s_4 s_5=>(if (decide ((List.length s_4:Int)<(List.length s_5:Int))) then some (-1) else some 0))
def z13m:Head:=⟨[(0,V1),(1,V1)],[],[]⟩
def z13n (k:Nat):LD Int:=⟨2,⟨[(0,V1),(1,V1),(9,V1),(10,V0),(11,V0)],[],[]⟩,[(0,z13m)],fun n x kx=>zge k n x.1.1 x.1.2.1 x.1.2.2.1 x.1.2.2.2.1 x.1.2.2.2.2.1 (fun s10 s21=>kx 0 (z13m.fill ((s10,s21,()),(),()))),k⟩
def z1l6 (k:Nat):FE:=⟨(.pr U5 U5),1,U0,fun x=>zom k x.1 x.2⟩
theorem z1l7 (k:Nat):z8 Tryz.prog 204 (z1l6 k):=okC zb (xTc zsp xTn) xOn Tryz.f204 (orc (z13n k) (LOn _)) (xLo (z13n k) (by rintro n ⟨⟨s10,s21,x9,x10,x11,⟨⟩⟩,⟨⟩,⟨⟩⟩ kx; kernel_rfl) xLn) (by rintro ⟨s10,s21⟩; kernel_rfl)
end
end Go.Proofs.YtfinlkoplekgkaaGreatDoor.Ev
