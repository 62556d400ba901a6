/- Functions of the program, as plain ones. No conditions. -/
import Derived.Test.YtjbnebolfnjneaaGreatDoorG1
import Derived.KernelRfl
set_option linter.unusedVariables false
set_option maxRecDepth 100000
namespace Go.Proofs.YtjbnebolfnjneaaGreatDoor.Ev
open Go.RowKit
noncomputable section
def zbt (k:Nat):Nat→Int→Int→zT7→zT7→zT2→Int→Int→(zT7→zT7→zT2→Int→Int→Option zT9)→Option zT9
 | 0,_,_,_,_,_,_,_,_=>none
 | n+1,n4,k5,q_7,q_8,v_1000000000a,v_1000000000ba,v_1000000000bb,e_1=>(if (decide (0<k5)) then (zgn k n4 3 v_1000000000a v_1000000000ba v_1000000000bb).bind fun y_9=>(if (q_7.length+[y_9.2.1.1].length)*24≤LIM then zbt k n n4 (z7 (k5-1)) (q_7++[y_9.2.1.1]) q_8 y_9.2.2.1.1 y_9.2.2.1.2.1 y_9.2.2.1.2.2 e_1 else none) else e_1 q_7 q_8 v_1000000000a v_1000000000ba v_1000000000bb)
def zbu (k:Nat) (v_1000000000a:List Int) (v_1000000000ba:Int) (v_1000000000bb:Int):Option zT9:=(z2m 6 v_1000000000a v_1000000000ba v_1000000000bb).bind fun y_1=>(if (decide (y_1.1.1=0)) then (z8o k [[0,1],[1,2],[0,2],[2,3]]).bind fun y_2=>some (((),()),(y_2.2.1.2.1,()),((y_1.2.2.1.1,(y_1.2.2.1.2.1,y_1.2.2.1.2.2)),())) else (if (decide (y_1.1.1=1)) then (z8o k [[0,1,2],[0,1,3],[0,2,3],[1,2,3]]).bind fun y_4=>some (((),()),(y_4.2.1.2.1,()),((y_1.2.2.1.1,(y_1.2.2.1.2.1,y_1.2.2.1.2.2)),())) else (z2m 4 y_1.2.2.1.1 y_1.2.2.1.2.1 y_1.2.2.1.2.2).bind fun y_5=>(z2m 6 y_5.2.2.1.1 y_5.2.2.1.2.1 y_5.2.2.1.2.2).bind fun y_6=>zbt k k (z7 (3+y_5.1.1)) y_6.1.1 [] [] y_6.2.2.1.1 y_6.2.2.1.2.1 y_6.2.2.1.2.2 (fun q_10 q_11 v_1000000000a_12 v_1000000000ba_13 v_1000000000bb_14=>(z39 6 v_1000000000a_12 v_1000000000ba_13 v_1000000000bb_14).bind fun y_15=>(if y_15.1.1 then (if (q_10.length+[[0,1,2,3]].length)*24≤LIM then (z8o k (q_10++[[0,1,2,3]])).bind fun y_16=>some (((),()),(y_16.2.1.2.1,()),((y_15.2.2.1.1,(y_15.2.2.1.2.1,y_15.2.2.1.2.2)),())) else none) else (z8o k q_10).bind fun y_17=>some (((),()),(y_17.2.1.2.1,()),((y_15.2.2.1.1,(y_15.2.2.1.2.1,y_15.2.2.1.2.2)),()))))))
def zpw:Head:=⟨[(0,(.bp 1000000000 [] 0)),(2,(.bp 2 [] 0)),(3,(.ref P0 []))],[(P0,29,U9,false),(P1,29,U9,false)],[(2,72,(.st (.ref P1 []))),(1000000000,51,(.st (.pr V1 (.pr V0 V2))))]⟩
def zpx (k:Nat):LD zT9:=⟨9,⟨[(0,(.bp 1000000000 [] 0)),(2,(.bp 2 [] 0)),(3,(.ref P0 [])),(4,V0),(5,V0)],[(P0,29,U9,false),(P1,29,U9,false)],[(2,72,(.st (.ref P1 []))),(1000000000,51,(.st (.pr V1 (.pr V0 V2))))]⟩,[(1,zpw)],fun n x kx=>zbt k n x.1.2.2.2.1 x.1.2.2.2.2.1 x.2.1.1 x.2.1.2.1 x.2.2.2.1.1 x.2.2.2.1.2.1 x.2.2.2.1.2.2 (fun q_10 q_11 v_1000000000a v_1000000000ba v_1000000000bb=>kx 1 (zpw.fill (((),(),(),()),(q_10,q_11,()),((),(v_1000000000a,(v_1000000000ba,v_1000000000bb)),())))),k⟩
def z10x (k:Nat):OC:=⟨⟨[(0,(.bp 1000000000 [] 0))],[],[(1000000000,51,(.st (.pr V1 (.pr V0 V2))))]⟩,⟨[(0,(.st (.ref P0 [])))],[(P0,29,U9,false)],[(1000000000,51,(.st (.pr V1 (.pr V0 V2))))]⟩,fun x=>zbu k x.2.2.1.1 x.2.2.1.2.1 x.2.2.1.2.2,true⟩
theorem z10y (k:Nat):z17 Tryz.prog tiR 43 (z10x k):=okO z9k xTn (xOc 7 (z6s.to z57) (xOc 15 (zk7 k) (xOc 23 (zk7 k) (xOc 26 (z6s.to z57) (xOc 29 (z6s.to z57) (xOc 37 ((z10w k).to z57) (xOc 41 (zgj.to z57) (xOc 47 (zk7 k) xOn)))))))) Tryz.f43 (orc (zpx k) (LOn _)) (fun _ _=>xLo (zpx k) (by rintro n ⟨⟨⟨⟩,⟨⟩,⟨⟩,n4,k5,⟨⟩⟩,⟨q_7,q_8,⟨⟩⟩,⟨⟨⟩,⟨v_1000000000a,⟨v_1000000000ba,v_1000000000bb⟩⟩,⟨⟩⟩⟩ kx; kernel_rfl) xLn) (by rintro _ _ ⟨⟨⟨⟩,⟨⟩⟩,⟨⟩,⟨⟨v_1000000000a,⟨v_1000000000ba,v_1000000000bb⟩⟩,⟨⟩⟩⟩; kernel_rfl)
def zbv (k:Nat):Nat→zT2→Int→Int→(Option Bool)→Option Bool
 | 0,_,_,_,_=>none
 | n+1,list0,n1,i5,e_0=>(if (decide (i5<(List.length list0:Int))) then (if 0≤i5 then (list0[i5.toNat]?).bind fun y_1=>(if (decide (y_1=n1)) then some true else zbv k n list0 n1 (z7 (i5+1)) e_0) else none) else e_0)
def zgo (k:Nat) (list0:List Int) (n1:Int):Option Bool:=zbv k k list0 n1 0 (some false)
def zpy:Head:=⟨[],[],[]⟩
def zpz (k:Nat):LD Bool:=⟨2,⟨[(0,V4),(1,V0),(5,V0)],[],[]⟩,[(0,zpy)],fun n x kx=>zbv k n x.1.1 x.1.2.1 x.1.2.2.1 (kx 0 (zpy.fill ((),(),()))),k⟩
def z10z (k:Nat):FE:=⟨(.pr U3 U0),1,.bool,fun x=>zgo k x.1 x.2⟩
theorem z110 (k:Nat):zc Tryz.prog 118 (z10z k):=okC zh xTn xOn Tryz.f118 (orc (zpz k) (LOn _)) (xLo (zpz k) (by rintro n ⟨⟨list0,n1,i5,⟨⟩⟩,⟨⟩,⟨⟩⟩ kx; kernel_rfl) xLn) (by rintro ⟨list0,n1⟩; kernel_rfl)
def zbw (k:Nat):Nat→zT2→zT2→Int→(Option Bool)→Option Bool
 | 0,_,_,_,_=>none
 | n+1,a0,b1,i5,e_0=>(if (decide (i5<(List.length a0:Int))) then (if 0≤i5 then (a0[i5.toNat]?).bind fun y_1=>(zgo k b1 y_1).bind fun r_2=>(if (!r_2) then some false else zbw k n a0 b1 (z7 (i5+1)) e_0) else none) else e_0)
def zgp (k:Nat) (a0:List Int) (b1:List Int):Option Bool:=zbw k k a0 b1 0 (some true)
def zq0:Head:=⟨[],[],[]⟩
def zq1 (k:Nat):LD Bool:=⟨2,⟨[(0,V4),(1,V4),(5,V0)],[],[]⟩,[(0,zq0)],fun n x kx=>zbw k n x.1.1 x.1.2.1 x.1.2.2.1 (kx 0 (zq0.fill ((),(),()))),k⟩
def z111 (k:Nat):FE:=⟨(.pr U3 U3),1,.bool,fun x=>zgp k x.1 x.2⟩
theorem z112 (k:Nat):zc Tryz.prog 107 (z111 k):=okC zh (xTc (z110 k) xTn) xOn Tryz.f107 (orc (zq1 k) (LOn _)) (xLo (zq1 k) (by rintro n ⟨⟨a0,b1,i5,⟨⟩⟩,⟨⟩,⟨⟩⟩ kx; kernel_rfl) xLn) (by rintro ⟨a0,b1⟩; kernel_rfl)
def z9m (k:Nat):Nat→zT7→zT2→Int→zT2→(zT2→Option zT2)→Option zT2
 | 0,_,_,_,_,_=>none
 | n+1,c0,s1,i6,q_1,e_0=>(if (decide (i6<(List.length c0:Int))) then (if 0≤i6 then (c0[i6.toNat]?).bind fun y_2=>(zgp k s1 y_2).bind fun r_3=>(if r_3 then (if (q_1.length+[i6].length)*8≤LIM then z9m k n c0 s1 (z7 (i6+1)) (q_1++[i6]) e_0 else none) else z9m k n c0 s1 (z7 (i6+1)) q_1 e_0) else none) else e_0 q_1)
def zgq (k:Nat) (c0:List zT2) (s1:List Int):Option zT2:=z9m k k c0 s1 0 [] (fun q_4=>some q_4)
def zq2:Head:=⟨[(5,(.ref P0 []))],[(P0,2,U0,false)],[]⟩
def zq3 (k:Nat):LD zT2:=⟨3,⟨[(0,(.val U7)),(1,V4),(5,(.ref P0 [])),(6,V0)],[(P0,2,U0,false)],[]⟩,[(0,zq2)],fun n x kx=>z9m k n x.1.1 x.1.2.1 x.1.2.2.2.1 x.2.1.1 (fun q_4=>kx 0 (zq2.fill (((),()),(q_4,()),()))),k⟩
def z113 (k:Nat):FE:=⟨(.pr U7 U3),1,U3,fun x=>zgq k x.1 x.2⟩
theorem z114 (k:Nat):zc Tryz.prog 87 (z113 k):=okC zh (xTc (z112 k) xTn) xOn Tryz.f87 (orc (zq3 k) (LOn _)) (xLo (zq3 k) (by rintro n ⟨⟨c0,s1,⟨⟩,i6,⟨⟩⟩,⟨q_1,⟨⟩⟩,⟨⟩⟩ kx; kernel_rfl) xLn) (by rintro ⟨c0,s1⟩; kernel_rfl)
def z9n (k:Nat):Nat→zT7→Int→zT2→(zT2→Option zT2)→Option zT2
 | 0,_,_,_,_=>none
 | n+1,c0,i4,q_1,e_0=>(if (decide (i4<(List.length c0:Int))) then (if 0≤i4 then (c0[i4.toNat]?).bind fun y_2=>(zgq k c0 y_2).bind fun r_3=>(if (decide ((List.length r_3:Int)=1)) then (if (q_1.length+[i4].length)*8≤LIM then z9n k n c0 (z7 (i4+1)) (q_1++[i4]) e_0 else none) else z9n k n c0 (z7 (i4+1)) q_1 e_0) else none) else e_0 q_1)
def zgr (k:Nat) (c0:List zT2):Option zT2:=z9n k k c0 0 [] (fun q_4=>some q_4)
def zq4:Head:=⟨[(3,(.ref P0 []))],[(P0,2,U0,false)],[]⟩
def zq5 (k:Nat):LD zT2:=⟨3,⟨[(0,(.val U7)),(3,(.ref P0 [])),(4,V0)],[(P0,2,U0,false)],[]⟩,[(0,zq4)],fun n x kx=>z9n k n x.1.1 x.1.2.2.1 x.2.1.1 (fun q_4=>kx 0 (zq4.fill (((),()),(q_4,()),()))),k⟩
def z115 (k:Nat):FE:=⟨U7,1,U3,fun x=>zgr k x⟩
theorem z116 (k:Nat):zc Tryz.prog 66 (z115 k):=okC zh (xTc (z114 k) xTn) xOn Tryz.f66 (orc (zq5 k) (LOn _)) (xLo (zq5 k) (by rintro n ⟨⟨c0,⟨⟩,i4,⟨⟩⟩,⟨q_1,⟨⟩⟩,⟨⟩⟩ kx; kernel_rfl) xLn) (by rintro c0; kernel_rfl)
def z7n (k:Nat):Nat→Int→Int→zT2→(Int→zT2→Option zT4)→Option zT4
 | 0,_,_,_,_=>none
 | n+1,n0,m4,q_1,e_0=>(if (!(decide (m4=0))) then (if (decide ((Int.tmod m4 10)<0)) then (if (q_1.length+[(z4o ((z7 (48+(z7 (0-(Int.tmod m4 10)))))))].length)*1≤LIM then z7n k n n0 (z7 (Int.tdiv m4 10)) (q_1++[(z4o ((z7 (48+(z7 (0-(Int.tmod m4 10)))))))]) e_0 else none) else (if (q_1.length+[(z4o ((z7 (48+(Int.tmod m4 10)))))].length)*1≤LIM then z7n k n n0 (z7 (Int.tdiv m4 10)) (q_1++[(z4o ((z7 (48+(Int.tmod m4 10)))))]) e_0 else none)) else e_0 n0 q_1)
def z9o (k:Nat):Nat→Int→zT2→zT2→(zT2→Option zT4)→Option zT4
 | 0,_,_,_,_=>none
 | n+1,i7,q_4,q_5,e_2=>(if (decide (0≤i7)) then (if 0≤i7∧i7.toNat<List.length q_4 then (q_4[i7.toNat]?).bind fun y_6=>(if (q_5.length+[y_6].length)*1≤LIM then z9o k n (z7 (i7-1)) q_4 (q_5++[y_6]) e_2 else none) else none) else e_2 q_5)
def z9p (k:Nat) (n0:Int):Option zT4:=(if (decide (n0=0)) then some [48] else z7n k k n0 n0 [] (fun n_2 q_3=>(if (decide (n_2<0)) then (if (q_3.length+[45].length)*1≤LIM then z9o k k (z7 ((List.length (q_3++[45]):Int)-1)) (q_3++[45]) [] (fun q_7=>some (z2c q_7)) else none) else z9o k k (z7 ((List.length q_3:Int)-1)) q_3 [] (fun q_8=>some (z2c q_8)))))
def zq6:Head:=⟨[(0,V0),(3,(.ref P0 []))],[(P0,5,U6,false)],[]⟩
def zq7 (k:Nat):LD zT4:=⟨5,⟨[(0,V0),(3,(.ref P0 [])),(4,V0)],[(P0,5,U6,false)],[]⟩,[(0,zq6)],fun n x kx=>z7n k n x.1.1 x.1.2.2.1 x.2.1.1 (fun n0 q_2=>kx 0 (zq6.fill ((n0,(),()),(q_2,()),()))),k⟩
def zq8:Head:=⟨[(6,(.ref P0 []))],[(P0,5,U6,false)],[]⟩
def zq9 (k:Nat):LD zT4:=⟨15,⟨[(3,(.ref P0 [])),(6,(.ref P1 [])),(7,V0)],[(P0,5,U6,false),(P1,5,U6,false)],[]⟩,[(2,zq8)],fun n x kx=>z9o k n x.1.2.2.1 x.2.1.1 x.2.1.2.1 (fun q_7=>kx 2 (zq8.fill (((),()),(q_7,()),()))),k⟩
def z117 (k:Nat):FE:=⟨U0,1,.str,fun x=>z9p k x⟩
theorem zk8 (k:Nat):zc Tryz.prog 27 (z117 k):=okC zh xTn xOn Tryz.f27 (orc (zq7 k) (orc (zq9 k) (LOn _))) (xLo (zq7 k) (by rintro n ⟨⟨n0,⟨⟩,m4,⟨⟩⟩,⟨q_1,⟨⟩⟩,⟨⟩⟩ kx; kernel_rfl) (xLo (zq9 k) (by rintro n ⟨⟨⟨⟩,⟨⟩,i7,⟨⟩⟩,⟨q_4,q_5,⟨⟩⟩,⟨⟩⟩ kx; kernel_rfl) xLn)) (by rintro n0; kernel_rfl)
def z9q (k:Nat):Nat→zT2→zT4→Int→(zT4→Option zT4)→Option zT4
 | 0,_,_,_,_=>none
 | n+1,list0,out3,i4,e_0=>(if (decide (i4<(List.length list0:Int))) then (if (decide (0<i4)) then (if out3.length+[44].length≤9223372036854775807 then (if 0≤i4 then (list0[i4.toNat]?).bind fun y_1=>(z9p k y_1).bind fun r_2=>(if (out3++[44]).length+r_2.length≤9223372036854775807 then z9q k n list0 ((out3++[44])++r_2) (z7 (i4+1)) e_0 else none) else none) else none) else (if 0≤i4 then (list0[i4.toNat]?).bind fun y_3=>(z9p k y_3).bind fun r_4=>(if out3.length+r_4.length≤9223372036854775807 then z9q k n list0 (out3++r_4) (z7 (i4+1)) e_0 else none) else none)) else e_0 out3)
def zdp (k:Nat) (list0:List Int):Option zT4:=(if (decide ((List.length list0:Int)=0)) then some [45] else z9q k k list0 [] 0 (fun out_5=>some out_5))
def zqa:Head:=⟨[(3,V3)],[],[]⟩
def zqb (k:Nat):LD zT4:=⟨5,⟨[(0,V4),(3,V3),(4,V0)],[],[]⟩,[(0,zqa)],fun n x kx=>z9q k n x.1.1 x.1.2.1 x.1.2.2.1 (fun out3=>kx 0 (zqa.fill ((out3,()),(),()))),k⟩
def z118 (k:Nat):FE:=⟨U3,1,.str,fun x=>zdp k x⟩
theorem z119 (k:Nat):zc Tryz.prog 67 (z118 k):=okC zh (xTc (zk8 k) xTn) xOn Tryz.f67 (orc (zqb k) (LOn _)) (xLo (zqb k) (by rintro n ⟨⟨list0,out3,i4,⟨⟩⟩,⟨⟩,⟨⟩⟩ kx; kernel_rfl) xLn) (by rintro list0; kernel_rfl)
def z9r (k:Nat):Nat→zT7→zT4→Int→zT2→(zT4→Option zT4)→Option zT4
 | 0,_,_,_,_,_=>none
 | n+1,c0,out4,i5,q_2,e_0=>(if (decide (i5<(List.length q_2:Int))) then (if (decide (0<i5)) then (if out4.length+[47].length≤9223372036854775807 then (if 0≤i5∧i5.toNat<List.length q_2 then (q_2[i5.toNat]?).bind fun y_3=>(if 0≤y_3 then (c0[y_3.toNat]?).bind fun y_4=>(zdp k y_4).bind fun r_5=>(if (out4++[47]).length+r_5.length≤9223372036854775807 then z9r k n c0 ((out4++[47])++r_5) (z7 (i5+1)) q_2 e_0 else none) else none) else none) else none) else (if 0≤i5∧i5.toNat<List.length q_2 then (q_2[i5.toNat]?).bind fun y_6=>(if 0≤y_6 then (c0[y_6.toNat]?).bind fun y_7=>(zdp k y_7).bind fun r_8=>(if out4.length+r_8.length≤9223372036854775807 then z9r k n c0 (out4++r_8) (z7 (i5+1)) q_2 e_0 else none) else none) else none)) else e_0 out4)
def zbx (k:Nat) (c0:List zT2):Option zT4:=(zgr k c0).bind fun r_1=>z9r k k c0 [] 0 r_1 (fun out_9=>(if (decide (out_9=[])) then some [45] else some out_9))
def zqc:Head:=⟨[(4,V3)],[],[]⟩
def zqd (k:Nat):LD zT4:=⟨4,⟨[(0,(.val U7)),(3,(.ref P0 [])),(4,V3),(5,V0)],[(P0,2,U0,false)],[]⟩,[(0,zqc)],fun n x kx=>z9r k n x.1.1 x.1.2.2.1 x.1.2.2.2.1 x.2.1.1 (fun out4=>kx 0 (zqc.fill ((out4,()),(),()))),k⟩
def z11a (k:Nat):FE:=⟨U7,1,.str,fun x=>zbx k x⟩
theorem z11b (k:Nat):zc Tryz.prog 44 (z11a k):=okC zh (xTc (z116 k) (xTc (z119 k) xTn)) xOn Tryz.f44 (orc (zqd k) (LOn _)) (xLo (zqd k) (by rintro n ⟨⟨c0,⟨⟩,out4,i5,⟨⟩⟩,⟨q_2,⟨⟩⟩,⟨⟩⟩ kx; kernel_rfl) xLn) (by rintro c0; kernel_rfl)
def zgs (k:Nat) (v_1000000000a:List Int) (v_1000000000ba:Int) (v_1000000000bb:Int):Option ((((zT4×(zT4×zT4))×Unit)×Unit×zT3)):=(z9l [[99,111,109,112,108,101,120],[110,111,116,101],[102,97,99,101]] v_1000000000a v_1000000000ba v_1000000000bb).bind fun y_1=>(z9l [[97],[98],[99],[100]] y_1.2.2.1.1 y_1.2.2.1.2.1 y_1.2.2.1.2.2).bind fun y_2=>(z9l [[],[120],[97,32,98,32,99],[49,50,32,51,52],[111,97,107,47,52,48]] y_2.2.2.1.1 y_2.2.2.1.2.1 y_2.2.2.1.2.2).bind fun y_3=>(z39 4 y_3.2.2.1.1 y_3.2.2.1.2.1 y_3.2.2.1.2.2).bind fun y_4=>(if y_4.1.1 then (zdm k 9 y_4.2.2.1.1 y_4.2.2.1.2.1 y_4.2.2.1.2.2).bind fun y_5=>(if (y_3.1.1:List UInt8)=y_3.1.1 then (if y_3.1.1.length+y_5.1.1.length≤9223372036854775807 then (if (decide (y_1.1.1=[99,111,109,112,108,101,120])) then (z39 2 y_5.2.2.1.1 y_5.2.2.1.2.1 y_5.2.2.1.2.2).bind fun y_6=>(if y_6.1.1 then (zbu k y_6.2.2.1.1 y_6.2.2.1.2.1 y_6.2.2.1.2.2).bind fun y_7=>(zbx k y_7.2.1.1).bind fun r_8=>(z39 24 y_7.2.2.1.1 y_7.2.2.1.2.1 y_7.2.2.1.2.2).bind fun y_9=>(if y_9.1.1 then (z2m 3 y_9.2.2.1.1 y_9.2.2.1.2.1 y_9.2.2.1.2.2).bind fun y_10=>(if 0≤(z7 (399+y_10.1.1))∧(z7 (399+y_10.1.1))≤(z7 (399+y_10.1.1))∧(z7 (399+y_10.1.1))*1≤LIM then some (((y_1.1.1,(y_2.1.1,(z2c (List.replicate (z7 (399+y_10.1.1)).toNat 0)))),()),(),((y_10.2.2.1.1,(y_10.2.2.1.2.1,y_10.2.2.1.2.2)),())) else none) else some (((y_1.1.1,(y_2.1.1,r_8)),()),(),((y_9.2.2.1.1,(y_9.2.2.1.2.1,y_9.2.2.1.2.2)),()))) else (z39 24 y_6.2.2.1.1 y_6.2.2.1.2.1 y_6.2.2.1.2.2).bind fun y_11=>(if y_11.1.1 then (z2m 3 y_11.2.2.1.1 y_11.2.2.1.2.1 y_11.2.2.1.2.2).bind fun y_12=>(if 0≤(z7 (399+y_12.1.1))∧(z7 (399+y_12.1.1))≤(z7 (399+y_12.1.1))∧(z7 (399+y_12.1.1))*1≤LIM then some (((y_1.1.1,(y_2.1.1,(z2c (List.replicate (z7 (399+y_12.1.1)).toNat 0)))),()),(),((y_12.2.2.1.1,(y_12.2.2.1.2.1,y_12.2.2.1.2.2)),())) else none) else some (((y_1.1.1,(y_2.1.1,(y_3.1.1++y_5.1.1))),()),(),((y_11.2.2.1.1,(y_11.2.2.1.2.1,y_11.2.2.1.2.2)),())))) else (z39 24 y_5.2.2.1.1 y_5.2.2.1.2.1 y_5.2.2.1.2.2).bind fun y_13=>(if y_13.1.1 then (z2m 3 y_13.2.2.1.1 y_13.2.2.1.2.1 y_13.2.2.1.2.2).bind fun y_14=>(if 0≤(z7 (399+y_14.1.1))∧(z7 (399+y_14.1.1))≤(z7 (399+y_14.1.1))∧(z7 (399+y_14.1.1))*1≤LIM then some (((y_1.1.1,(y_2.1.1,(z2c (List.replicate (z7 (399+y_14.1.1)).toNat 0)))),()),(),((y_14.2.2.1.1,(y_14.2.2.1.2.1,y_14.2.2.1.2.2)),())) else none) else some (((y_1.1.1,(y_2.1.1,(y_3.1.1++y_5.1.1))),()),(),((y_13.2.2.1.1,(y_13.2.2.1.2.1,y_13.2.2.1.2.2)),())))) else none) else none) else (if (decide (y_1.1.1=[99,111,109,112,108,101,120])) then (z39 2 y_4.2.2.1.1 y_4.2.2.1.2.1 y_4.2.2.1.2.2).bind fun y_15=>(if y_15.1.1 then (zbu k y_15.2.2.1.1 y_15.2.2.1.2.1 y_15.2.2.1.2.2).bind fun y_16=>(zbx k y_16.2.1.1).bind fun r_17=>(z39 24 y_16.2.2.1.1 y_16.2.2.1.2.1 y_16.2.2.1.2.2).bind fun y_18=>(if y_18.1.1 then (z2m 3 y_18.2.2.1.1 y_18.2.2.1.2.1 y_18.2.2.1.2.2).bind fun y_19=>(if 0≤(z7 (399+y_19.1.1))∧(z7 (399+y_19.1.1))≤(z7 (399+y_19.1.1))∧(z7 (399+y_19.1.1))*1≤LIM then some (((y_1.1.1,(y_2.1.1,(z2c (List.replicate (z7 (399+y_19.1.1)).toNat 0)))),()),(),((y_19.2.2.1.1,(y_19.2.2.1.2.1,y_19.2.2.1.2.2)),())) else none) else some (((y_1.1.1,(y_2.1.1,r_17)),()),(),((y_18.2.2.1.1,(y_18.2.2.1.2.1,y_18.2.2.1.2.2)),()))) else (z39 24 y_15.2.2.1.1 y_15.2.2.1.2.1 y_15.2.2.1.2.2).bind fun y_20=>(if y_20.1.1 then (z2m 3 y_20.2.2.1.1 y_20.2.2.1.2.1 y_20.2.2.1.2.2).bind fun y_21=>(if 0≤(z7 (399+y_21.1.1))∧(z7 (399+y_21.1.1))≤(z7 (399+y_21.1.1))∧(z7 (399+y_21.1.1))*1≤LIM then some (((y_1.1.1,(y_2.1.1,(z2c (List.replicate (z7 (399+y_21.1.1)).toNat 0)))),()),(),((y_21.2.2.1.1,(y_21.2.2.1.2.1,y_21.2.2.1.2.2)),())) else none) else some (((y_1.1.1,(y_2.1.1,y_3.1.1)),()),(),((y_20.2.2.1.1,(y_20.2.2.1.2.1,y_20.2.2.1.2.2)),())))) else (z39 24 y_4.2.2.1.1 y_4.2.2.1.2.1 y_4.2.2.1.2.2).bind fun y_22=>(if y_22.1.1 then (z2m 3 y_22.2.2.1.1 y_22.2.2.1.2.1 y_22.2.2.1.2.2).bind fun y_23=>(if 0≤(z7 (399+y_23.1.1))∧(z7 (399+y_23.1.1))≤(z7 (399+y_23.1.1))∧(z7 (399+y_23.1.1))*1≤LIM then some (((y_1.1.1,(y_2.1.1,(z2c (List.replicate (z7 (399+y_23.1.1)).toNat 0)))),()),(),((y_23.2.2.1.1,(y_23.2.2.1.2.1,y_23.2.2.1.2.2)),())) else none) else some (((y_1.1.1,(y_2.1.1,y_3.1.1)),()),(),((y_22.2.2.1.1,(y_22.2.2.1.2.1,y_22.2.2.1.2.2)),())))))
def z11c (k:Nat):OC:=⟨⟨[(0,(.bp 1000000000 [] 0))],[],[(1000000000,51,(.st (.pr V1 (.pr V0 V2))))]⟩,⟨[(0,(.st (.pr V3 (.pr V3 V3))))],[],[(1000000000,51,(.st (.pr V1 (.pr V0 V2))))]⟩,fun x=>zgs k x.2.2.1.1 x.2.2.1.2.1 x.2.2.1.2.2,true⟩
theorem z11d (k:Nat):z17 Tryz.prog tiR 24 (z11c k):=okO z9k (xTc (z11b k) xTn) (xOc 7 (zk4.to z57) (xOc 11 (zk4.to z57) (xOc 15 (zk4.to z57) (xOc 18 (zgj.to z57) (xOc 22 ((z10h k).to z57) (xOc 30 (zgj.to z57) (xOc 33 (z10y k) (xOc 37 (zgj.to z57) (xOc 39 (z6s.to z57) xOn))))))))) Tryz.f24 (LOn _) (fun _ _=>xLn) (by rintro _ _ ⟨⟨⟨⟩,⟨⟩⟩,⟨⟩,⟨⟨v_1000000000a,⟨v_1000000000ba,v_1000000000bb⟩⟩,⟨⟩⟩⟩; kernel_rfl)
def zdq (c0:Int):Option Bool:=(if (decide (97≤c0)) then some (decide (c0≤122)) else some false)
def z11e:FE:=⟨U6,1,.bool,fun x=>zdq x⟩
theorem z11f:zc Tryz.prog 68 (z11e):=okC zh xTn xOn Tryz.f68 (LOn _) xLn (by rintro c0; kernel_rfl)
def zgt (c0:Int):Option Bool:=(if (decide (48≤c0)) then some (decide (c0≤57)) else some false)
def z11g:FE:=⟨U6,1,.bool,fun x=>zgt x⟩
theorem z11h:zc Tryz.prog 69 (z11g):=okC zh xTn xOn Tryz.f69 (LOn _) xLn (by rintro c0; kernel_rfl)
def z8p (k:Nat):Nat→zT4→Int→(Option Bool)→Option Bool
 | 0,_,_,_=>none
 | n+1,s0,i3,e_0=>(if (decide (i3<(List.length s0:Int))) then (if 0≤i3 then (s0[i3.toNat]?).bind fun b_3=>(zdq (z_u8 b_3)).bind fun r_4=>(if (!r_4) then (if 0≤i3 then (s0[i3.toNat]?).bind fun b_5=>(zgt (z_u8 b_5)).bind fun r_6=>(if (!r_6) then some false else z8p k n s0 (z7 (i3+1)) e_0) else none) else z8p k n s0 (z7 (i3+1)) e_0) else none) else e_0)
def z9s (k:Nat) (s0:List UInt8):Option Bool:=(if (decide (s0=[])) then some false else (if (decide (10<(List.length s0:Int))) then some false else (s0[0]?).bind fun b_1=>(zdq (z_u8 b_1)).bind fun r_2=>(if (!r_2) then some false else z8p k k s0 0 (some true))))
def zqe:Head:=⟨[],[],[]⟩
def zqf (k:Nat):LD Bool:=⟨4,⟨[(0,V3),(3,V0)],[],[]⟩,[(0,zqe)],fun n x kx=>z8p k n x.1.1 x.1.2.1 (kx 0 (zqe.fill ((),(),()))),k⟩
def z11i (k:Nat):FE:=⟨.str,1,.bool,fun x=>z9s k x⟩
theorem z11j (k:Nat):zc Tryz.prog 45 (z11i k):=okC zh (xTc z11f (xTc z11h xTn)) xOn Tryz.f45 (orc (zqf k) (LOn _)) (xLo (zqf k) (by rintro n ⟨⟨s0,i3,⟨⟩⟩,⟨⟩,⟨⟩⟩ kx; kernel_rfl) xLn) (by rintro s0; kernel_rfl)
def zby (k:Nat):Nat→zT0→Int→(zT0→Option Bool)→Option Bool
 | 0,_,_,_=>none
 | n+1,b0,i3,e_0=>(if (decide (i3<(List.length b0.2.2:Int))) then (if 0≤i3 then (b0.2.2[i3.toNat]?).bind fun b_1=>(if (decide ((z_u8 b_1)=10)) then some false else zby k n b0 (z7 (i3+1)) e_0) else none) else e_0 b0)
def zdr (k:Nat) (b0:List UInt8×List UInt8×List UInt8):Option Bool:=zby k k b0 0 (fun b_2=>(z9s k b_2.1).bind fun r_3=>(if r_3 then (z9s k b_2.2.1).bind fun r_4=>(if r_4 then some (decide ((List.length b_2.2.2:Int)≤400)) else some false) else some false))
def zqg:Head:=⟨[(0,(.val (.ptr U1)))],[],[]⟩
def zqh (k:Nat):LD Bool:=⟨2,⟨[(0,(.val (.ptr U1))),(3,V0)],[],[]⟩,[(0,zqg)],fun n x kx=>zby k n x.1.1 x.1.2.1 (fun b0=>kx 0 (zqg.fill ((b0,()),(),()))),k⟩
def z11k (k:Nat):FE:=⟨(.ptr U1),1,.bool,fun x=>zdr k x⟩
theorem zqi (k:Nat):zc Tryz.prog 25 (z11k k):=okC zh (xTc (z11j k) xTn) xOn Tryz.f25 (orc (zqh k) (LOn _)) (xLo (zqh k) (by rintro n ⟨⟨b0,i3,⟨⟩⟩,⟨⟩,⟨⟩⟩ kx; kernel_rfl) xLn) (by rintro b0; kernel_rfl)
def zds (a0:List UInt8×List UInt8×List UInt8) (b1:List UInt8×List UInt8×List UInt8):Option Bool:=(if (Op.bytesLess a0.1 b1.1) then some true else (if (decide (a0.1=b1.1)) then some (Op.bytesLess a0.2.1 b1.2.1) else some false))
def z11l:FE:=⟨(.pr (.ptr U1) (.ptr U1)),1,.bool,fun x=>zds x.1 x.2⟩
theorem zqj:zc Tryz.prog 26 (z11l):=okC zh xTn xOn Tryz.f26 (LOn _) xLn (by rintro ⟨a0,b1⟩; kernel_rfl)
def z9t (k:Nat):Nat→zT6→Int→(zT6→Option Bool)→Option Bool
 | 0,_,_,_=>none
 | n+1,list0,i3,e_0=>(if (decide (i3<(List.length list0:Int))) then (if 0≤i3 then (list0[i3.toNat]?).bind fun y_1=>(zdr k y_1).bind fun r_2=>(if (!r_2) then some false else (if (decide (0<i3)) then (if 0≤(z7 (i3-1)) then (list0[(z7 (i3-1)).toNat]?).bind fun y_3=>(if 0≤i3 then (list0[i3.toNat]?).bind fun y_4=>(zds y_3 y_4).bind fun r_5=>(if (!r_5) then some false else z9t k n list0 (z7 (i3+1)) e_0) else none) else none) else z9t k n list0 (z7 (i3+1)) e_0)) else none) else e_0 list0)
def zdt (k:Nat) (list0:List zT0):Option Bool:=z9t k k list0 0 (fun list_6=>some (decide ((List.length list_6:Int)≤32)))
def zqk:Head:=⟨[(0,V5)],[],[]⟩
def zql (k:Nat):LD Bool:=⟨2,⟨[(0,V5),(3,V0)],[],[]⟩,[(0,zqk)],fun n x kx=>z9t k n x.1.1 x.1.2.1 (fun list0=>kx 0 (zqk.fill ((list0,()),(),()))),k⟩
def z11m (k:Nat):FE:=⟨U5,1,.bool,fun x=>zdt k x⟩
theorem zqm (k:Nat):zc Tryz.prog 15 (z11m k):=okC zh (xTc (zqi k) (xTc zqj xTn)) xOn Tryz.f15 (orc (zql k) (LOn _)) (xLo (zql k) (by rintro n ⟨⟨list0,i3,⟨⟩⟩,⟨⟩,⟨⟩⟩ kx; kernel_rfl) xLn) (by rintro list0; kernel_rfl)
def z4p (k:Nat):Nat→zT6→Bool→Int→zT6→zT0→(Bool→zT6→zT0→Option zT6)→Option zT6
 | 0,_,_,_,_,_,_=>none
 | n+1,list0,done6,i7,q_1,v_3,e_0=>(if (decide (i7<(List.length list0:Int))) then (if (!done6) then (if 0≤i7 then (list0[i7.toNat]?).bind fun y_2=>(zds y_2 v_3).bind fun r_3=>(if (!r_3) then (if (q_1.length+[v_3].length)*48≤LIM then (if 0≤i7 then (list0[i7.toNat]?).bind fun y_4=>(if (!(decide (y_4.1=v_3.1))) then (if 0≤i7 then (list0[i7.toNat]?).bind fun y_5=>(if ((q_1++[v_3]).length+[y_5].length)*48≤LIM then z4p k n list0 true (z7 (i7+1)) ((q_1++[v_3])++[y_5]) v_3 e_0 else none) else none) else (if 0≤i7 then (list0[i7.toNat]?).bind fun y_6=>(if (!(decide (y_6.2.1=v_3.2.1))) then (if 0≤i7 then (list0[i7.toNat]?).bind fun y_7=>(if ((q_1++[v_3]).length+[y_7].length)*48≤LIM then z4p k n list0 true (z7 (i7+1)) ((q_1++[v_3])++[y_7]) v_3 e_0 else none) else none) else z4p k n list0 true (z7 (i7+1)) (q_1++[v_3]) v_3 e_0) else none)) else none) else none) else (if 0≤i7 then (list0[i7.toNat]?).bind fun y_8=>(if (!(decide (y_8.1=v_3.1))) then (if 0≤i7 then (list0[i7.toNat]?).bind fun y_9=>(if (q_1.length+[y_9].length)*48≤LIM then z4p k n list0 done6 (z7 (i7+1)) (q_1++[y_9]) v_3 e_0 else none) else none) else (if 0≤i7 then (list0[i7.toNat]?).bind fun y_10=>(if (!(decide (y_10.2.1=v_3.2.1))) then (if 0≤i7 then (list0[i7.toNat]?).bind fun y_11=>(if (q_1.length+[y_11].length)*48≤LIM then z4p k n list0 done6 (z7 (i7+1)) (q_1++[y_11]) v_3 e_0 else none) else none) else z4p k n list0 done6 (z7 (i7+1)) q_1 v_3 e_0) else none)) else none)) else none) else (if 0≤i7 then (list0[i7.toNat]?).bind fun y_12=>(if (!(decide (y_12.1=v_3.1))) then (if 0≤i7 then (list0[i7.toNat]?).bind fun y_13=>(if (q_1.length+[y_13].length)*48≤LIM then z4p k n list0 done6 (z7 (i7+1)) (q_1++[y_13]) v_3 e_0 else none) else none) else (if 0≤i7 then (list0[i7.toNat]?).bind fun y_14=>(if (!(decide (y_14.2.1=v_3.2.1))) then (if 0≤i7 then (list0[i7.toNat]?).bind fun y_15=>(if (q_1.length+[y_15].length)*48≤LIM then z4p k n list0 done6 (z7 (i7+1)) (q_1++[y_15]) v_3 e_0 else none) else none) else z4p k n list0 done6 (z7 (i7+1)) q_1 v_3 e_0) else none)) else none)) else e_0 done6 q_1 v_3)
def zgu (k:Nat) (list0:List zT0) (b1:List UInt8×List UInt8×List UInt8):Option zT6:=z4p k k list0 false 0 [] b1 (fun done_16 q_17 v_18=>(if (!done_16) then (if (q_17.length+[v_18].length)*48≤LIM then some (q_17++[v_18]) else none) else some q_17))
def zqn:Head:=⟨[(3,(.bp 3 [] 0)),(5,(.ref P0 [])),(6,V6)],[(P0,43,U1,false)],[(3,43,(.val U1))]⟩
def zqo (k:Nat):LD zT6:=⟨4,⟨[(0,V5),(3,(.bp 3 [] 0)),(5,(.ref P0 [])),(6,V6),(7,V0)],[(P0,43,U1,false)],[(3,43,(.val U1))]⟩,[(0,zqn)],fun n x kx=>z4p k n x.1.1 x.1.2.2.2.1 x.1.2.2.2.2.1 x.2.1.1 x.2.2.1 (fun done6 q_16 v_3=>kx 0 (zqn.fill (((),(),done6,()),(q_16,()),(v_3,())))),k⟩
def z11n (k:Nat):FE:=⟨(.pr U5 U1),1,U5,fun x=>zgu k x.1 x.2⟩
theorem z11o (k:Nat):zc Tryz.prog 39 (z11n k):=okC zh (xTc zqj xTn) xOn Tryz.f39 (orc (zqo k) (LOn _)) (xLo (zqo k) (by rintro n ⟨⟨list0,⟨⟩,⟨⟩,done6,i7,⟨⟩⟩,⟨q_1,⟨⟩⟩,⟨v_3,⟨⟩⟩⟩ kx; kernel_rfl) xLn) (by rintro ⟨list0,b1⟩; kernel_rfl)
def zgv (k:Nat) (list0:List zT0) (b1:List UInt8×List UInt8×List UInt8):Option (zT6×Int):=(zdt k list0).bind fun r_1=>(if (!r_1) then some ([],1) else (zdr k b1).bind fun r_2=>(if (!r_2) then some ([],1) else (zgu k list0 b1).bind fun r_3=>(if (decide (32<(List.length r_3:Int))) then some ([],5) else some (r_3,0))))
def z11p (k:Nat):FE:=⟨(.pr U5 U1),2,(.pr U5 U0),fun x=>zgv k x.1 x.2⟩
theorem z11q (k:Nat):zc Tryz.prog 23 (z11p k):=okC zh (xTc (zqm k) (xTc (zqi k) (xTc (z11o k) xTn))) xOn Tryz.f23 (LOn _) xLn (by rintro ⟨list0,b1⟩; kernel_rfl)
def z9u (k:Nat):Nat→Int→zT6→zT2→Int→Int→(zT6→zT2→Int→Int→Option zT10)→Option zT10
 | 0,_,_,_,_,_,_=>none
 | n+1,k4,q_2,v_1000000000a,v_1000000000ba,v_1000000000bb,e_0=>(if (decide (0<k4)) then (zgs k v_1000000000a v_1000000000ba v_1000000000bb).bind fun y_3=>(zgv k q_2 (y_3.1.1.1,(y_3.1.1.2.1,y_3.1.1.2.2))).bind fun r_4=>(if (decide (r_4.2=0)) then z9u k n (z7 (k4-1)) r_4.1 y_3.2.2.1.1 y_3.2.2.1.2.1 y_3.2.2.1.2.2 e_0 else z9u k n (z7 (k4-1)) q_2 y_3.2.2.1.1 y_3.2.2.1.2.1 y_3.2.2.1.2.2 e_0) else e_0 q_2 v_1000000000a v_1000000000ba v_1000000000bb)
def zk9 (k:Nat) (v_1000000000a:List Int) (v_1000000000ba:Int) (v_1000000000bb:Int):Option zT10:=(z2m 6 v_1000000000a v_1000000000ba v_1000000000bb).bind fun y_1=>z9u k k y_1.1.1 [] y_1.2.2.1.1 y_1.2.2.1.2.1 y_1.2.2.1.2.2 (fun q_5 v_1000000000a_6 v_1000000000ba_7 v_1000000000bb_8=>some (((),()),(q_5,()),((v_1000000000a_6,(v_1000000000ba_7,v_1000000000bb_8)),())))
def zqp:Head:=⟨[(3,(.ref P0 []))],[(P0,43,U1,false)],[(1000000000,51,(.st (.pr V1 (.pr V0 V2))))]⟩
def zqq (k:Nat):LD zT10:=⟨3,⟨[(0,(.bp 1000000000 [] 0)),(3,(.ref P0 [])),(4,V0)],[(P0,43,U1,false)],[(1000000000,51,(.st (.pr V1 (.pr V0 V2))))]⟩,[(0,zqp)],fun n x kx=>z9u k n x.1.2.2.1 x.2.1.1 x.2.2.1.1 x.2.2.1.2.1 x.2.2.1.2.2 (fun q_5 v_1000000000a v_1000000000ba v_1000000000bb=>kx 0 (zqp.fill (((),()),(q_5,()),((v_1000000000a,(v_1000000000ba,v_1000000000bb)),())))),k⟩
def z11r (k:Nat):OC:=⟨⟨[(0,(.bp 1000000000 [] 0))],[],[(1000000000,51,(.st (.pr V1 (.pr V0 V2))))]⟩,⟨[(0,(.ref P0 []))],[(P0,43,U1,false)],[(1000000000,51,(.st (.pr V1 (.pr V0 V2))))]⟩,fun x=>zk9 k x.2.2.1.1 x.2.2.1.2.1 x.2.2.1.2.2,true⟩
theorem z11s (k:Nat):z17 Tryz.prog tiR 14 (z11r k):=okO z9k (xTc (z11q k) xTn) (xOc 9 (z6s.to z57) (xOc 17 (z11d k) xOn)) Tryz.f14 (orc (zqq k) (LOn _)) (fun _ _=>xLo (zqq k) (by rintro n ⟨⟨⟨⟩,⟨⟩,k4,⟨⟩⟩,⟨q_2,⟨⟩⟩,⟨⟨v_1000000000a,⟨v_1000000000ba,v_1000000000bb⟩⟩,⟨⟩⟩⟩ kx; kernel_rfl) xLn) (by rintro _ _ ⟨⟨⟨⟩,⟨⟩⟩,⟨⟩,⟨⟨v_1000000000a,⟨v_1000000000ba,v_1000000000bb⟩⟩,⟨⟩⟩⟩; kernel_rfl)
end
end Go.Proofs.YtjbnebolfnjneaaGreatDoor.Ev
