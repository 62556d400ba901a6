/- Functions of the program, as plain ones. No conditions. -/
import Derived.Test.YtiodkblajaenbaaGreatDoorG4
import Derived.KernelRfl
set_option linter.unusedVariables false
set_option maxRecDepth 100000
namespace Go.Proofs.YtiodkblajaenbaaGreatDoor.Ev
open Go.RowKit
noncomputable section
def zp1 (k:Nat) (w0:zT3×Int×List Int×List Int×zT5×List Int×List Int×zT7×List Int):Option zT4:=(zgl k w0.1).bind fun r_1=>(if (decide (0≤r_1.1)) then (if 0≤r_1.1 then (w0.1.1[r_1.1.toNat]?).bind fun y_2=>(zcw k y_2).bind fun r_3=>(zce y_2 r_1.2.2).bind fun r_4=>(zce r_4 r_1.2.1).bind fun r_5=>(zcw k r_5).bind fun r_6=>some [(1,(r_3,r_6))] else none) else (zoo k w0.1 w0.2.1 w0.2.2.1).bind fun r_7=>(if (!r_7) then some [(2,([99,108,97,115,115],[111,112,101,110]))] else (zp0 k w0.1 w0.2.1 w0.2.2.1).bind fun r_8=>(if r_8.2 then some [(2,([99,108,97,115,115],[116,114,105,118,105,97,108]))] else some [])))
def z1mq (k:Nat):FE:=⟨(.ptr U2),1,U22,fun x=>zp1 k x⟩
theorem z1mr (k:Nat):z8 Tryz.prog 49 (z1mq k):=okC za (xTc (z1m4 k) (xTc (ztj k) (xTc zt1 (xTc (z1me k) (xTc (z1mp k) xTn))))) xOn Tryz.f49 (LOn _) xLn (by rintro w0; kernel_rfl)
def zd5 (k:Nat):Nat→zT3→Int→zT1→zT1→zT1→(zT1→Option zT1)→Option zT1
 | 0,_,_,_,_,_,_=>none
 | n+1,s0,i9,q_4,q_5,q_6,e_0=>(if (decide (i9<(List.length q_5:Int))) then (if 0≤i9∧i9.toNat<List.length q_5 then (q_5[i9.toNat]?).bind fun y_7=>(zgn k s0 y_7).bind fun r_8=>(if 0≤i9∧i9.toNat<List.length q_5 then (q_5[i9.toNat]?).bind fun y_9=>(if 0≤y_9 then (s0.2.2.1[y_9.toNat]?).bind fun y_10=>(if 0≤r_8∧r_8≤(z6 (r_8+y_10))∧(z6 (r_8+y_10))≤q_4.length then (zjo k ((q_4.drop r_8.toNat).take ((z6 (r_8+y_10)).toNat-r_8.toNat))).bind fun r_11=>(if (!r_11) then (if 0≤i9∧i9.toNat<List.length q_5 then (q_5[i9.toNat]?).bind fun y_12=>(if (q_6.length+[y_12].length)*8≤LIM then zd5 k n s0 (z6 (i9+1)) q_4 q_5 (q_6++[y_12]) e_0 else none) else none) else zd5 k n s0 (z6 (i9+1)) q_4 q_5 q_6 e_0) else none) else none) else none) else none) else e_0 q_6)
def zjq (k:Nat) (s0:List zT1×Int×List Int×List zT0) (x1:List Int):Option zT1:=(z88 k s0 0).bind fun r_1=>(zjn k (r_1.1,(r_1.2.1,(r_1.2.2.1,r_1.2.2.2))) x1).bind fun r_2=>(zgb k s0.1 1).bind fun r_3=>zd5 k k s0 0 r_2 r_3 [] (fun q_13=>some q_13)
def z14p:Head:=⟨[(8,(.ref P0 []))],[(P0,2,U0,false)],[]⟩
def z14q (k:Nat):LD zT1:=⟨6,⟨[(0,V5),(6,(.ref P0 [])),(7,(.ref P1 [])),(8,(.ref P2 [])),(9,V0)],[(P0,2,U0,false),(P1,2,U0,false),(P2,2,U0,false)],[]⟩,[(0,z14p)],fun n x kx=>zd5 k n x.1.1 x.1.2.2.2.2.1 x.2.1.1 x.2.1.2.1 x.2.1.2.2.1 (fun q_13=>kx 0 (z14p.fill (((),()),(q_13,()),()))),k⟩
def z1ms (k:Nat):FE:=⟨(.pr U23 U5),1,U5,fun x=>zjq k x.1 x.2⟩
theorem z1mt (k:Nat):z8 Tryz.prog 92 (z1ms k):=okC za (xTc (ztk k) (xTc (z13u k) (xTc (ztc k) (xTc (z13d k) (xTc (z13x k) xTn))))) xOn Tryz.f92 (orc (z14q k) (LOn _)) (xLo (z14q k) (by rintro n ⟨⟨s0,⟨⟩,⟨⟩,⟨⟩,i9,⟨⟩⟩,⟨q_4,q_5,q_6,⟨⟩⟩,⟨⟩⟩ kx; kernel_rfl) xLn) (by rintro ⟨s0,x1⟩; kernel_rfl)
def zgt (k:Nat):Nat→zT9→Int→zT4→zT1→(zT4→Option zT4)→Option zT4
 | 0,_,_,_,_,_=>none
 | n+1,w0,i5,q_2,q_3,e_0=>(if (decide (i5<(List.length q_3:Int))) then (if 0≤i5∧i5.toNat<List.length q_3 then (q_3[i5.toNat]?).bind fun y_4=>(if 0≤y_4 then (w0.1.1[y_4.toNat]?).bind fun y_5=>(zcw k y_5).bind fun r_6=>(if (q_2.length+[(3,(r_6,[100,105,115,97,103,114,101,101]))].length)*40≤LIM then zgt k n w0 (z6 (i5+1)) (q_2++[(3,(r_6,[100,105,115,97,103,114,101,101]))]) q_3 e_0 else none) else none) else none) else e_0 q_2)
def zp2 (k:Nat) (w0:zT3×Int×List Int×List Int×zT5×List Int×List Int×zT7×List Int):Option zT4:=(zjq k w0.1 w0.2.2.2.1).bind fun r_1=>zgt k k w0 0 [] r_1 (fun q_7=>some q_7)
def z14r:Head:=⟨[(3,(.ref P0 []))],[(P0,74,U8,false)],[]⟩
def z14s (k:Nat):LD zT4:=⟨4,⟨[(0,(.val (.ptr U2))),(3,(.ref P0 [])),(4,(.ref P1 [])),(5,V0)],[(P0,74,U8,false),(P1,2,U0,false)],[]⟩,[(0,z14r)],fun n x kx=>zgt k n x.1.1 x.1.2.2.2.1 x.2.1.1 x.2.1.2.1 (fun q_7=>kx 0 (z14r.fill (((),()),(q_7,()),()))),k⟩
def z1mu (k:Nat):FE:=⟨(.ptr U2),1,U22,fun x=>zp2 k x⟩
theorem z1mv (k:Nat):z8 Tryz.prog 50 (z1mu k):=okC za (xTc (z1mt k) (xTc (ztj k) xTn)) xOn Tryz.f50 (orc (z14s k) (LOn _)) (xLo (z14s k) (by rintro n ⟨⟨w0,⟨⟩,⟨⟩,i5,⟨⟩⟩,⟨q_2,q_3,⟨⟩⟩,⟨⟩⟩ kx; kernel_rfl) xLn) (by rintro w0; kernel_rfl)
def z9n (k:Nat):Nat→zT5→zT1→Int→Int→Int→(Int→Option Int)→Option Int
 | 0,_,_,_,_,_,_=>none
 | n+1,n0,flow1,node2,sum7,i8,e_0=>(if (decide (i8<(List.length n0.2.2.2:Int))) then (if 0≤i8 then (n0.2.2.2[i8.toNat]?).bind fun y_1=>(if (decide (y_1.2.1=node2)) then (if 0≤i8 then (flow1[i8.toNat]?).bind fun y_2=>(if 0≤i8 then (n0.2.2.2[i8.toNat]?).bind fun y_3=>(if (decide (y_3.1=node2)) then (if 0≤i8 then (flow1[i8.toNat]?).bind fun y_4=>z9n k n n0 flow1 node2 (z6 ((z6 (sum7+y_2))-y_4)) (z6 (i8+1)) e_0 else none) else z9n k n n0 flow1 node2 (z6 (sum7+y_2)) (z6 (i8+1)) e_0) else none) else none) else (if 0≤i8 then (n0.2.2.2[i8.toNat]?).bind fun y_5=>(if (decide (y_5.1=node2)) then (if 0≤i8 then (flow1[i8.toNat]?).bind fun y_6=>z9n k n n0 flow1 node2 (z6 (sum7-y_6)) (z6 (i8+1)) e_0 else none) else z9n k n n0 flow1 node2 sum7 (z6 (i8+1)) e_0) else none)) else none) else e_0 sum7)
def zjr (k:Nat) (n0:Int×Int×Int×List zT2) (flow1:List Int) (node2:Int):Option Int:=z9n k k n0 flow1 node2 0 0 (fun sum_7=>some sum_7)
def z14t:Head:=⟨[(7,V0)],[],[]⟩
def z14u (k:Nat):LD Int:=⟨3,⟨[(0,V8),(1,V1),(2,V0),(7,V0),(8,V0)],[],[]⟩,[(0,z14t)],fun n x kx=>z9n k n x.1.1 x.1.2.1 x.1.2.2.1 x.1.2.2.2.1 x.1.2.2.2.2.1 (fun sum7=>kx 0 (z14t.fill ((sum7,()),(),()))),k⟩
def z1mw (k:Nat):FE:=⟨(.pr U30 U31),1,U0,fun x=>zjr k x.1 x.2.1 x.2.2⟩
theorem z14v (k:Nat):z8 Tryz.prog 96 (z1mw k):=okC za xTn xOn Tryz.f96 (orc (z14u k) (LOn _)) (xLo (z14u k) (by rintro n ⟨⟨n0,flow1,node2,sum7,i8,⟨⟩⟩,⟨⟩,⟨⟩⟩ kx; kernel_rfl) xLn) (by rintro ⟨n0,flow1,node2⟩; kernel_rfl)
def zd6 (k:Nat):Nat→zT5→zT1→Int→(zT5→zT1→Option Bool)→Option Bool
 | 0,_,_,_,_=>none
 | n+1,n0,flow1,i5,e_0=>(if (decide (i5<(List.length flow1:Int))) then (if 0≤i5 then (flow1[i5.toNat]?).bind fun y_1=>(if 0≤i5 then (n0.2.2.2[i5.toNat]?).bind fun y_2=>(z32 y_1 0 y_2.2.2).bind fun r_3=>(if (!r_3) then some false else zd6 k n n0 flow1 (z6 (i5+1)) e_0) else none) else none) else e_0 n0 flow1)
def z6l (k:Nat):Nat→zT5→zT1→Int→(Option Bool)→Option Bool
 | 0,_,_,_,_=>none
 | n+1,n0,flow1,v6,e_2=>(if (decide (v6<n0.1)) then (if (!(decide (v6=n0.2.1))) then (if (!(decide (v6=n0.2.2.1))) then (zjr k n0 flow1 v6).bind fun r_6=>(if (!(decide (r_6=0))) then some false else z6l k n n0 flow1 (z6 (v6+1)) e_2) else z6l k n n0 flow1 (z6 (v6+1)) e_2) else z6l k n n0 flow1 (z6 (v6+1)) e_2) else e_2)
def zp3 (k:Nat) (n0:Int×Int×Int×List zT2) (flow1:List Int):Option Bool:=(if (!(decide ((List.length flow1:Int)=(List.length n0.2.2.2:Int)))) then some false else zd6 k k n0 flow1 0 (fun n_4 flow_5=>z6l k k n_4 flow_5 0 (some true)))
def z14w:Head:=⟨[(0,V8),(1,V1)],[],[]⟩
def z14x (k:Nat):LD Bool:=⟨4,⟨[(0,V8),(1,V1),(5,V0)],[],[]⟩,[(0,z14w)],fun n x kx=>zd6 k n x.1.1 x.1.2.1 x.1.2.2.1 (fun n0 flow1=>kx 0 (z14w.fill ((n0,flow1,()),(),()))),k⟩
def z14y:Head:=⟨[],[],[]⟩
def z14z (k:Nat):LD Bool:=⟨9,⟨[(0,V8),(1,V1),(6,V0)],[],[]⟩,[(2,z14y)],fun n x kx=>z6l k n x.1.1 x.1.2.1 x.1.2.2.1 (kx 2 (z14y.fill ((),(),()))),k⟩
def z1mx (k:Nat):FE:=⟨(.pr U30 U5),1,.bool,fun x=>zp3 k x.1 x.2⟩
theorem z1my (k:Nat):z8 Tryz.prog 93 (z1mx k):=okC za (xTc z9b (xTc (z14v k) xTn)) xOn Tryz.f93 (orc (z14x k) (orc (z14z k) (LOn _))) (xLo (z14x k) (by rintro n ⟨⟨n0,flow1,i5,⟨⟩⟩,⟨⟩,⟨⟩⟩ kx; kernel_rfl) (xLo (z14z k) (by rintro n ⟨⟨n0,flow1,v6,⟨⟩⟩,⟨⟩,⟨⟩⟩ kx; kernel_rfl) xLn)) (by rintro ⟨n0,flow1⟩; kernel_rfl)
def zgu (k:Nat):Nat→zT1→Int→Int→(Option Bool)→Option Bool
 | 0,_,_,_,_=>none
 | n+1,list0,n1,i5,e_0=>(if (decide (i5<(List.length list0:Int))) then (if 0≤i5 then (list0[i5.toNat]?).bind fun y_1=>(if (decide (y_1=n1)) then some true else zgu k n list0 n1 (z6 (i5+1)) e_0) else none) else e_0)
def zd7 (k:Nat) (list0:List Int) (n1:Int):Option Bool:=zgu k k list0 n1 0 (some false)
def z150:Head:=⟨[],[],[]⟩
def z151 (k:Nat):LD Bool:=⟨2,⟨[(0,V1),(1,V0),(5,V0)],[],[]⟩,[(0,z150)],fun n x kx=>zgu k n x.1.1 x.1.2.1 x.1.2.2.1 (kx 0 (z150.fill ((),(),()))),k⟩
def z1mz (k:Nat):FE:=⟨U31,1,.bool,fun x=>zd7 k x.1 x.2⟩
theorem z152 (k:Nat):z8 Tryz.prog 149 (z1mz k):=okC za xTn xOn Tryz.f149 (orc (z151 k) (LOn _)) (xLo (z151 k) (by rintro n ⟨⟨list0,n1,i5,⟨⟩⟩,⟨⟩,⟨⟩⟩ kx; kernel_rfl) xLn) (by rintro ⟨list0,n1⟩; kernel_rfl)
def zp4 (k:Nat) (n0:Int×Int×Int×List zT2) (side1:List Int):Option Bool:=(zj4 k side1 0 (z6 (n0.1-1))).bind fun r_1=>(if r_1 then (zd7 k side1 n0.2.1).bind fun r_2=>(if r_2 then (zd7 k side1 n0.2.2.1).bind fun r_3=>some (!r_3) else some false) else some false)
def z1n0 (k:Nat):FE:=⟨(.pr U30 U5),1,.bool,fun x=>zp4 k x.1 x.2⟩
theorem z1n1 (k:Nat):z8 Tryz.prog 94 (z1n0 k):=okC za (xTc (zzl k) (xTc (z152 k) xTn)) xOn Tryz.f94 (LOn _) xLn (by rintro ⟨n0,side1⟩; kernel_rfl)
def zb3 (k:Nat):Nat→zT5→zT1→Int→Int→(Int→Option Int)→Option Int
 | 0,_,_,_,_,_=>none
 | n+1,n0,side1,sum5,i6,e_0=>(if (decide (i6<(List.length n0.2.2.2:Int))) then (if 0≤i6 then (n0.2.2.2[i6.toNat]?).bind fun y_1=>(zd7 k side1 y_1.1).bind fun r_2=>(if r_2 then (if 0≤i6 then (n0.2.2.2[i6.toNat]?).bind fun y_3=>(zd7 k side1 y_3.2.1).bind fun r_4=>(if (!r_4) then (if 0≤i6 then (n0.2.2.2[i6.toNat]?).bind fun y_5=>zb3 k n n0 side1 (z6 (sum5+y_5.2.2)) (z6 (i6+1)) e_0 else none) else zb3 k n n0 side1 sum5 (z6 (i6+1)) e_0) else none) else zb3 k n n0 side1 sum5 (z6 (i6+1)) e_0) else none) else e_0 sum5)
def zp5 (k:Nat) (n0:Int×Int×Int×List zT2) (side1:List Int):Option Int:=zb3 k k n0 side1 0 0 (fun sum_6=>some sum_6)
def z153:Head:=⟨[(5,V0)],[],[]⟩
def z154 (k:Nat):LD Int:=⟨3,⟨[(0,V8),(1,V1),(5,V0),(6,V0)],[],[]⟩,[(0,z153)],fun n x kx=>zb3 k n x.1.1 x.1.2.1 x.1.2.2.1 x.1.2.2.2.1 (fun sum5=>kx 0 (z153.fill ((sum5,()),(),()))),k⟩
def z1n2 (k:Nat):FE:=⟨(.pr U30 U5),1,U0,fun x=>zp5 k x.1 x.2⟩
theorem z1n3 (k:Nat):z8 Tryz.prog 95 (z1n2 k):=okC za (xTc (z152 k) xTn) xOn Tryz.f95 (orc (z154 k) (LOn _)) (xLo (z154 k) (by rintro n ⟨⟨n0,side1,sum5,i6,⟨⟩⟩,⟨⟩,⟨⟩⟩ kx; kernel_rfl) xLn) (by rintro ⟨n0,side1⟩; kernel_rfl)
def zp6 (k:Nat) (w0:zT3×Int×List Int×List Int×zT5×List Int×List Int×zT7×List Int):Option zT4:=(zp3 k w0.2.2.2.2.1 w0.2.2.2.2.2.1).bind fun r_1=>(if (!r_1) then some [(4,([102,108,111,119],[110,111,110,101]))] else (zp4 k w0.2.2.2.2.1 w0.2.2.2.2.2.2.1).bind fun r_2=>(if (!r_2) then some [(4,([115,105,100,101],[110,111,110,101]))] else (zp5 k w0.2.2.2.2.1 w0.2.2.2.2.2.2.1).bind fun r_3=>(zjr k w0.2.2.2.2.1 w0.2.2.2.2.2.1 w0.2.2.2.2.1.2.2.1).bind fun r_4=>(if (!(decide ((z6 (r_3-r_4))=0))) then (zgm k (z6 (r_3-r_4))).bind fun r_5=>some [(4,([114,101,115,116],r_5))] else some [])))
def z1n4 (k:Nat):FE:=⟨(.ptr U2),1,U22,fun x=>zp6 k x⟩
theorem z1n5 (k:Nat):z8 Tryz.prog 51 (z1n4 k):=okC za (xTc (z1my k) (xTc (z1n1 k) (xTc (z1n3 k) (xTc (z14v k) (xTc (z138 k) xTn))))) xOn Tryz.f51 (LOn _) xLn (by rintro w0; kernel_rfl)
def zd8 (k:Nat):Nat→zT7→zT1→Int→zT1→(zT1→Option zT1)→Option zT1
 | 0,_,_,_,_,_=>none
 | n+1,x0,phases1,i6,q_1,e_0=>(if (decide (i6<(List.length x0.2.2:Int))) then (if 0≤i6 then (x0.2.2[i6.toNat]?).bind fun y_2=>(if 0≤y_2.2.1 then (phases1[y_2.2.1.toNat]?).bind fun y_3=>(if 0≤y_2.1 then (phases1[y_2.1.toNat]?).bind fun y_4=>(zd1 (z6 ((z6 (y_3-y_4))-y_2.2.2)) x0.2.1).bind fun r_5=>(if (!(decide (r_5=0))) then (if (q_1.length+[i6].length)*8≤LIM then zd8 k n x0 phases1 (z6 (i6+1)) (q_1++[i6]) e_0 else none) else zd8 k n x0 phases1 (z6 (i6+1)) q_1 e_0) else none) else none) else none) else e_0 q_1)
def zp7 (k:Nat) (x0:Int×Int×List zT2) (phases1:List Int):Option zT1:=zd8 k k x0 phases1 0 [] (fun q_6=>some q_6)
def z155:Head:=⟨[(5,(.ref P0 []))],[(P0,2,U0,false)],[]⟩
def z156 (k:Nat):LD zT1:=⟨3,⟨[(0,(.val (.ptr U9))),(1,V1),(5,(.ref P0 [])),(6,V0)],[(P0,2,U0,false)],[]⟩,[(0,z155)],fun n x kx=>zd8 k n x.1.1 x.1.2.1 x.1.2.2.2.1 x.2.1.1 (fun q_6=>kx 0 (z155.fill (((),()),(q_6,()),()))),k⟩
def z1n6 (k:Nat):FE:=⟨(.pr (.ptr U9) U5),1,U5,fun x=>zp7 k x.1 x.2⟩
theorem z1n7 (k:Nat):z8 Tryz.prog 98 (z1n6 k):=okC za (xTc z143 xTn) xOn Tryz.f98 (orc (z156 k) (LOn _)) (xLo (z156 k) (by rintro n ⟨⟨x0,phases1,⟨⟩,i6,⟨⟩⟩,⟨q_1,⟨⟩⟩,⟨⟩⟩ kx; kernel_rfl) xLn) (by rintro ⟨x0,phases1⟩; kernel_rfl)
def zgv (k:Nat):Nat→zT9→Int→zT4→zT1→(zT4→Option zT4)→Option zT4
 | 0,_,_,_,_,_=>none
 | n+1,w0,i5,q_2,q_3,e_0=>(if (decide (i5<(List.length q_3:Int))) then (if 0≤i5∧i5.toNat<List.length q_3 then (q_3[i5.toNat]?).bind fun y_4=>(if 0≤y_4 then (w0.2.2.2.2.2.2.2.1.2.2[y_4.toNat]?).bind fun y_5=>(zcw k [y_5.1,y_5.2.1]).bind fun r_6=>(if (q_2.length+[(5,(r_6,[115,104,105,102,116]))].length)*40≤LIM then zgv k n w0 (z6 (i5+1)) (q_2++[(5,(r_6,[115,104,105,102,116]))]) q_3 e_0 else none) else none) else none) else e_0 q_2)
def zp8 (k:Nat) (w0:zT3×Int×List Int×List Int×zT5×List Int×List Int×zT7×List Int):Option zT4:=(zp7 k w0.2.2.2.2.2.2.2.1 w0.2.2.2.2.2.2.2.2).bind fun r_1=>zgv k k w0 0 [] r_1 (fun q_7=>some q_7)
def z157:Head:=⟨[(3,(.ref P0 []))],[(P0,74,U8,false)],[]⟩
def z158 (k:Nat):LD zT4:=⟨4,⟨[(0,(.val (.ptr U2))),(3,(.ref P0 [])),(4,(.ref P1 [])),(5,V0)],[(P0,74,U8,false),(P1,2,U0,false)],[]⟩,[(0,z157)],fun n x kx=>zgv k n x.1.1 x.1.2.2.2.1 x.2.1.1 x.2.1.2.1 (fun q_7=>kx 0 (z157.fill (((),()),(q_7,()),()))),k⟩
def z1n8 (k:Nat):FE:=⟨(.ptr U2),1,U22,fun x=>zp8 k x⟩
theorem z1n9 (k:Nat):z8 Tryz.prog 52 (z1n8 k):=okC za (xTc (z1n7 k) (xTc (ztj k) xTn)) xOn Tryz.f52 (orc (z158 k) (LOn _)) (xLo (z158 k) (by rintro n ⟨⟨w0,⟨⟩,⟨⟩,i5,⟨⟩⟩,⟨q_2,q_3,⟨⟩⟩,⟨⟩⟩ kx; kernel_rfl) xLn) (by rintro w0; kernel_rfl)
def zp9 (k:Nat) (w0:zT3×Int×List Int×List Int×zT5×List Int×List Int×zT7×List Int):Option zT4:=(zp1 k w0).bind fun r_1=>(if (([]:List Unit).length+r_1.length)*40≤LIM then (zp2 k w0).bind fun r_2=>(if (r_1.length+r_2.length)*40≤LIM then (zp6 k w0).bind fun r_3=>(if ((r_1++r_2).length+r_3.length)*40≤LIM then (zp8 k w0).bind fun r_4=>(if (((r_1++r_2)++r_3).length+r_4.length)*40≤LIM then some (((r_1++r_2)++r_3)++r_4) else none) else none) else none) else none)
def z1na (k:Nat):FE:=⟨(.ptr U2),1,U22,fun x=>zp9 k x⟩
theorem z1nb (k:Nat):z8 Tryz.prog 18 (z1na k):=okC za (xTc (z1mr k) (xTc (z1mv k) (xTc (z1n5 k) (xTc (z1n9 k) xTn)))) xOn Tryz.f18 (LOn _) xLn (by rintro w0; kernel_rfl)
def zo7 (k:Nat) (w0:zT3×Int×List Int×List Int×zT5×List Int×List Int×zT7×List Int):Option (zT4×Int):=(zoe k w0).bind fun r_1=>(if (!r_1) then some ([],1) else (zp9 k w0).bind fun r_2=>some (r_2,0))
def z1nc (k:Nat):FE:=⟨U2,2,(.pr U22 U0),fun x=>zo7 k x⟩
theorem z1l4 (k:Nat):z8 Tryz.prog 5 (z1nc k):=okC za (xTc (z1lu k) (xTc (z1nb k) xTn)) xOn Tryz.f5 (LOn _) xLn (by rintro w0; kernel_rfl)
def zgw (k:Nat):Nat→zT1→Int→(Option Bool)→Option Bool
 | 0,_,_,_=>none
 | n+1,list0,k3,e_0=>(if (decide (k3<(List.length list0:Int))) then (if 0≤(z6 (k3-1)) then (list0[(z6 (k3-1)).toNat]?).bind fun y_1=>(if 0≤k3 then (list0[k3.toNat]?).bind fun y_2=>(if (decide (y_2≤y_1)) then some false else zgw k n list0 (z6 (k3+1)) e_0) else none) else none) else e_0)
def zjf (k:Nat) (list0:List Int):Option Bool:=zgw k k list0 1 (some true)
def z159:Head:=⟨[],[],[]⟩
def z15a (k:Nat):LD Bool:=⟨2,⟨[(0,V1),(3,V0)],[],[]⟩,[(0,z159)],fun n x kx=>zgw k n x.1.1 x.1.2.1 (kx 0 (z159.fill ((),(),()))),k⟩
def z1nd (k:Nat):FE:=⟨U5,1,.bool,fun x=>zjf k x⟩
theorem z10s (k:Nat):z8 Tryz.prog 125 (z1nd k):=okC za xTn xOn Tryz.f125 (orc (z15a k) (LOn _)) (xLo (z15a k) (by rintro n ⟨⟨list0,k3,⟨⟩⟩,⟨⟩,⟨⟩⟩ kx; kernel_rfl) xLn) (by rintro list0; kernel_rfl)
def z49 (n0:Int) (low1:Int) (high2:Int):Option Bool:=(if (decide (low1≤n0)) then some (decide (n0≤high2)) else some false)
def z1ne:FE:=⟨U35,1,.bool,fun x=>z49 x.1 x.2.1 x.2.2⟩
theorem z86:z8 Tryz.prog 124 (z1ne):=okC za xTn xOn Tryz.f124 (LOn _) xLn (by rintro ⟨n0,low1,high2⟩; kernel_rfl)
def ztl (v0:Int):Option Bool:=(z49 v0 0 9).bind fun r_1=>some r_1
def z1nf:FE:=⟨U0,1,.bool,fun x=>ztl x⟩
theorem z1ng:z8 Tryz.prog 216 (z1nf):=okC za (xTc z86 xTn) xOn Tryz.f216 (LOn _) xLn (by rintro v0; kernel_rfl)
def ztm (v0:Int):Option Bool:=(ztl v0).bind fun r_1=>some (!r_1)
def z1nh:FE:=⟨U0,1,.bool,fun x=>ztm x⟩
theorem z1ni:z8 Tryz.prog 215 (z1nh):=okC za (xTc z1ng xTn) xOn Tryz.f215 (LOn _) xLn (by rintro v0; kernel_rfl)
def zgx (k:Nat):Nat→zT1→Unit→Int→Int→(Option Int)→Option Int
 | 0,_,_,_,_,_=>none
 | n+1,s0,f1,x7,x8,e_0=>(if (decide (x8<x7)) then (if 0≤x8 then (s0[x8.toNat]?).bind fun y_1=>(ztm y_1).bind fun r_2=>(if r_2 then some x8 else zgx k n s0 f1 x7 (z6 (x8+1)) e_0) else none) else e_0)
def ztn (k:Nat) (s0:List Int) (f1:Unit):Option Int:=zgx k k s0 f1 (List.length s0:Int) 0 (some (-1))
def z15b:Head:=⟨[],[],[]⟩
def z15c (k:Nat):LD Int:=⟨2,⟨[(0,V1),(1,(.val (.fn 215 .un))),(7,V0),(8,V0)],[],[]⟩,[(0,z15b)],fun n x kx=>zgx k n x.1.1 x.1.2.1 x.1.2.2.1 x.1.2.2.2.1 (kx 0 (z15b.fill ((),(),()))),k⟩
def z1nj (k:Nat):FE:=⟨(.pr U5 (.fn 215 .un)),1,U0,fun x=>ztn k x.1 x.2⟩
theorem z1nk (k:Nat):z8 Tryz.prog 169 (z1nj k):=okC za (xTc z1ni xTn) xOn Tryz.f169 (orc (z15c k) (LOn _)) (xLo (z15c k) (by rintro n ⟨⟨s0,f1,x7,x8,⟨⟩⟩,⟨⟩,⟨⟩⟩ kx; kernel_rfl) xLn) (by rintro ⟨s0,f1⟩; kernel_rfl)
def zpa (k:Nat) (s0:List Int) (f1:Unit):Option Bool:=(ztn k s0 f1).bind fun r_1=>some (decide (0≤r_1))
def z1nl (k:Nat):FE:=⟨(.pr U5 (.fn 215 .un)),1,.bool,fun x=>zpa k x.1 x.2⟩
theorem z1nm (k:Nat):z8 Tryz.prog 114 (z1nl k):=okC za (xTc (z1nk k) xTn) xOn Tryz.f114 (LOn _) xLn (by rintro ⟨s0,f1⟩; kernel_rfl)
def zpb (k:Nat) (s0:List Int):Option Bool:=(if (decide (1≤(List.length s0:Int))) then (if (decide ((List.length s0:Int)≤4)) then (zjf k s0).bind fun r_1=>(if r_1 then (zpa k s0 ()).bind fun r_2=>some (!r_2) else some false) else some false) else some false)
def z1nn (k:Nat):FE:=⟨U5,1,.bool,fun x=>zpb k x⟩
theorem z1no (k:Nat):z8 Tryz.prog 191 (z1nn k):=okC za (xTc (z10s k) (xTc (z1nm k) xTn)) xOn Tryz.f191 (LOn _) xLn (by rintro s0; kernel_rfl)
def zpc (x0:Int):Option Bool:=some (!(decide (x0=x0)))
def z1np:FE:=⟨U0,1,.bool,fun x=>zpc x⟩
theorem z1nq:z8 Tryz.prog 230 (z1np):=okC za xTn xOn Tryz.f230 (LOn _) xLn (by rintro x0; kernel_rfl)
def zpd (x0:Int) (y1:Int):Option Int:=(zpc x0).bind fun r_1=>(zpc y1).bind fun r_2=>(if r_1 then (if r_2 then some 0 else some (-1)) else (if r_2 then some 1 else (if (decide (x0<y1)) then some (-1) else (if (decide (y1<x0)) then some 1 else some 0))))
def z1nr:FE:=⟨U19,1,U0,fun x=>zpd x.1 x.2⟩
theorem z1ns:z8 Tryz.prog 217 (z1nr):=okC za (xTc z1nq xTn) xOn Tryz.f217 (LOn _) xLn (by rintro ⟨x0,y1⟩; kernel_rfl)
def zpe (x0:Int):Option Bool:=some (!(decide (x0=x0)))
def z1nt:FE:=⟨U0,1,.bool,fun x=>zpe x⟩
theorem z1nu:z8 Tryz.prog 198 (z1nt):=okC za xTn xOn Tryz.f198 (LOn _) xLn (by rintro x0; kernel_rfl)
def zb4 (x0:Int) (y1:Int):Option Int:=(zpe x0).bind fun r_1=>(zpe y1).bind fun r_2=>(if r_1 then (if r_2 then some 0 else some (-1)) else (if r_2 then some 1 else (if (decide (x0<y1)) then some (-1) else (if (decide (y1<x0)) then some 1 else some 0))))
def z1nv:FE:=⟨U19,1,U0,fun x=>zb4 x.1 x.2⟩
theorem zto:z8 Tryz.prog 158 (z1nv):=okC za (xTc z1nu xTn) xOn Tryz.f158 (LOn _) xLn (by rintro ⟨x0,y1⟩; kernel_rfl)
def zgy (k:Nat):Nat→zT1→zT1→zT1→Int→Int→(zT1→zT1→Option Int)→Option Int
 | 0,_,_,_,_,_,_=>none
 | n+1,s10,s21,x9,x10,x11,e_0=>(if (decide (x11<x10)) then (if 0≤x11 then (x9[x11.toNat]?).bind fun y_1=>(if (decide ((List.length s21:Int)≤x11)) then some 1 else (if 0≤x11 then (s21[x11.toNat]?).bind fun y_2=>(zb4 y_1 y_2).bind fun r_3=>(if (!(decide (r_3=0))) then some r_3 else zgy k n s10 s21 x9 x10 (z6 (x11+1)) e_0) else none)) else none) else e_0 s10 s21)
def zpf (k:Nat) (s10:List Int) (s21:List Int):Option Int:=zgy k k s10 s21 s10 (List.length s10:Int) 0 (fun s_4 s_5=>(if (decide ((List.length s_4:Int)<(List.length s_5:Int))) then some (-1) else some 0))
def z15d:Head:=⟨[(0,V1),(1,V1)],[],[]⟩
def z15e (k:Nat):LD Int:=⟨2,⟨[(0,V1),(1,V1),(9,V1),(10,V0),(11,V0)],[],[]⟩,[(0,z15d)],fun n x kx=>zgy k n x.1.1 x.1.2.1 x.1.2.2.1 x.1.2.2.2.1 x.1.2.2.2.2.1 (fun s10 s21=>kx 0 (z15d.fill ((s10,s21,()),(),()))),k⟩
def z1nw (k:Nat):FE:=⟨(.pr U5 U5),1,U0,fun x=>zpf k x.1 x.2⟩
theorem z1nx (k:Nat):z8 Tryz.prog 218 (z1nw k):=okC za (xTc zto xTn) xOn Tryz.f218 (orc (z15e k) (LOn _)) (xLo (z15e k) (by rintro n ⟨⟨s10,s21,x9,x10,x11,⟨⟩⟩,⟨⟩,⟨⟩⟩ kx; kernel_rfl) xLn) (by rintro ⟨s10,s21⟩; kernel_rfl)
end
end Go.Proofs.YtiodkblajaenbaaGreatDoor.Ev
