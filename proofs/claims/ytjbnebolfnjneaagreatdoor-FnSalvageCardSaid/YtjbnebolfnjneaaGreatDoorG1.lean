/- Functions of the program, as plain ones. No conditions. -/
import Derived.Test.YtjbnebolfnjneaaGreatDoorG0
import Derived.KernelRfl
set_option linter.unusedVariables false
set_option maxRecDepth 100000
namespace Go.Proofs.YtjbnebolfnjneaaGreatDoor.Ev
open Go.RowKit
noncomputable section
def zdl (code0:List Int) (more1:List Int):Option Bool:=(if (decide (1048576<(List.length code0:Int))) then some true else some (decide (1048576<(List.length more1:Int))))
def z107:FE:=⟨(.pr U2 U2),1,.bool,fun x=>zdl x.1 x.2⟩
theorem z108:zc Tryz.prog 4 (z107):=okC zh xTn xOn Tryz.f4 (LOn _) xLn (by rintro ⟨code0,more1⟩; kernel_rfl)
def zk2 (code0:List Int):Option (List Int×Int×Int):=some (code0,(0,0))
def z10a:FE:=⟨U2,1051,U8,fun x=>zk2 x⟩
theorem z10b:zc Tryz.prog 13 (z10a):=okB zh xTn xOn Tryz.f13 (LOn _) xLn (by rintro code0; kernel_rfl)
def zbh (v_1000000000a:List Int) (v_1000000000ba:Int) (v_1000000000bb:Int):Option (((Int×Unit)×Unit×zT3)):=(if (decide (v_1000000000ba<(List.length v_1000000000a:Int))) then (if 0≤v_1000000000ba then (v_1000000000a[v_1000000000ba.toNat]?).bind fun y_1=>(if (decide ((z7 (v_1000000000ba+1))≤(List.length v_1000000000a:Int))) then some (((z7 (y_1)),()),(),((v_1000000000a,((z7 (v_1000000000ba+1)),(z1a ((z1a ((z1a (v_1000000000bb*6364136223846793005))+(z1a ((z7 (y_1))))))+1442695040888963407)))),())) else some (((z7 ((z56 .u64 (Int.fdiv (z1a ((z1a ((z1a (v_1000000000bb*6364136223846793005))+(z1a ((z7 (y_1))))))+1442695040888963407)) (2 ^ 40)) 255))),()),(),((v_1000000000a,((z7 (v_1000000000ba+1)),(z1a ((z1a ((z1a (v_1000000000bb*6364136223846793005))+(z1a ((z7 (y_1))))))+1442695040888963407)))),()))) else none) else (if (decide ((z7 (v_1000000000ba+1))≤(List.length v_1000000000a:Int))) then some ((0,()),(),((v_1000000000a,((z7 (v_1000000000ba+1)),(z1a ((z1a ((z1a (v_1000000000bb*6364136223846793005))+0))+1442695040888963407)))),())) else some (((z7 ((z56 .u64 (Int.fdiv (z1a ((z1a ((z1a (v_1000000000bb*6364136223846793005))+0))+1442695040888963407)) (2 ^ 40)) 255))),()),(),((v_1000000000a,((z7 (v_1000000000ba+1)),(z1a ((z1a ((z1a (v_1000000000bb*6364136223846793005))+0))+1442695040888963407)))),()))))
def z10c:OC:=⟨⟨[(0,(.bp 1000000000 [] 0))],[],[(1000000000,51,(.st (.pr V1 (.pr V0 V2))))]⟩,⟨[(0,V0)],[],[(1000000000,51,(.st (.pr V1 (.pr V0 V2))))]⟩,fun x=>zbh x.2.2.1.1 x.2.2.1.2.1 x.2.2.1.2.2,false⟩
theorem zk3:z17 Tryz.prog ti 38 (z10c):=okO zh xTn xOn Tryz.f38 (LOn _) (fun _ _=>xLn) (by rintro _ _ ⟨⟨⟨⟩,⟨⟩⟩,⟨⟩,⟨⟨v_1000000000a,⟨v_1000000000ba,v_1000000000bb⟩⟩,⟨⟩⟩⟩; kernel_rfl)
def z2m (n1:Int) (v_1000000000a:List Int) (v_1000000000ba:Int) (v_1000000000bb:Int):Option (((Int×Unit)×Unit×zT3)):=(if (decide (n1≤1)) then some ((0,()),(),((v_1000000000a,(v_1000000000ba,v_1000000000bb)),())) else (zbh v_1000000000a v_1000000000ba v_1000000000bb).bind fun y_1=>(if (decide (200<n1)) then (zbh y_1.2.2.1.1 y_1.2.2.1.2.1 y_1.2.2.1.2.2).bind fun y_2=>(if n1=0 then none else some (((Int.tmod (z7 ((z7 (y_1.1.1*256))+y_2.1.1)) n1),()),(),((y_2.2.2.1.1,(y_2.2.2.1.2.1,y_2.2.2.1.2.2)),()))) else (if n1=0 then none else some (((Int.tmod y_1.1.1 n1),()),(),((y_1.2.2.1.1,(y_1.2.2.1.2.1,y_1.2.2.1.2.2)),())))))
def z10d:OC:=⟨⟨[(0,(.bp 1000000000 [] 0)),(1,V0)],[],[(1000000000,51,(.st (.pr V1 (.pr V0 V2))))]⟩,⟨[(0,V0)],[],[(1000000000,51,(.st (.pr V1 (.pr V0 V2))))]⟩,fun x=>z2m x.1.2.1 x.2.2.1.1 x.2.2.1.2.1 x.2.2.1.2.2,false⟩
theorem z6s:z17 Tryz.prog ti 22 (z10d):=okO zh xTn (xOc 9 zk3 (xOc 15 zk3 xOn)) Tryz.f22 (LOn _) (fun _ _=>xLn) (by rintro _ _ ⟨⟨⟨⟩,n1,⟨⟩⟩,⟨⟩,⟨⟨v_1000000000a,⟨v_1000000000ba,v_1000000000bb⟩⟩,⟨⟩⟩⟩; kernel_rfl)
def z9l (q_1:List zT4) (v_1000000000a:List Int) (v_1000000000ba:Int) (v_1000000000bb:Int):Option (((zT4×Unit)×(zT12×Unit)×zT3)):=(z2m (List.length q_1:Int) v_1000000000a v_1000000000ba v_1000000000bb).bind fun y_2=>(if 0≤y_2.1.1∧y_2.1.1.toNat<List.length q_1 then (q_1[y_2.1.1.toNat]?).bind fun y_3=>some ((y_3,()),(q_1,()),((y_2.2.2.1.1,(y_2.2.2.1.2.1,y_2.2.2.1.2.2)),())) else none)
def z10e:OC:=⟨⟨[(0,(.bp 1000000000 [] 0)),(1,(.ref 1000000000 []))],[(1000000000,9,.str,false)],[(1000000000,51,(.st (.pr V1 (.pr V0 V2))))]⟩,⟨[(0,V3)],[(1000000000,9,.str,false)],[(1000000000,51,(.st (.pr V1 (.pr V0 V2))))]⟩,fun x=>z9l x.2.1.1 x.2.2.1.1 x.2.2.1.2.1 x.2.2.1.2.2,false⟩
theorem zk4:z17 Tryz.prog ti 40 (z10e):=okO zh xTn (xOc 9 z6s xOn) Tryz.f40 (LOn _) (fun _ _=>xLn) (by rintro _ _ ⟨⟨⟨⟩,⟨⟩,⟨⟩⟩,⟨q_1,⟨⟩⟩,⟨⟨v_1000000000a,⟨v_1000000000ba,v_1000000000bb⟩⟩,⟨⟩⟩⟩; kernel_rfl)
def z39 (n1:Int) (v_1000000000a:List Int) (v_1000000000ba:Int) (v_1000000000bb:Int):Option (((Bool×Unit)×Unit×zT3)):=(z2m n1 v_1000000000a v_1000000000ba v_1000000000bb).bind fun y_1=>some (((decide (y_1.1.1=0)),()),(),((y_1.2.2.1.1,(y_1.2.2.1.2.1,y_1.2.2.1.2.2)),()))
def z10f:OC:=⟨⟨[(0,(.bp 1000000000 [] 0)),(1,V0)],[],[(1000000000,51,(.st (.pr V1 (.pr V0 V2))))]⟩,⟨[(0,V6)],[],[(1000000000,51,(.st (.pr V1 (.pr V0 V2))))]⟩,fun x=>z39 x.1.2.1 x.2.2.1.1 x.2.2.1.2.1 x.2.2.1.2.2,false⟩
theorem zgj:z17 Tryz.prog ti 41 (z10f):=okO zh xTn (xOc 7 z6s xOn) Tryz.f41 (LOn _) (fun _ _=>xLn) (by rintro _ _ ⟨⟨⟨⟩,n1,⟨⟩⟩,⟨⟩,⟨⟨v_1000000000a,⟨v_1000000000ba,v_1000000000bb⟩⟩,⟨⟩⟩⟩; kernel_rfl)
def zbi (k:Nat):Nat→Int→zT2→zT2→Int→Int→(zT2→zT2→Int→Int→Option zT11)→Option zT11
 | 0,_,_,_,_,_,_=>none
 | n+1,k6,q_2,v_1000000000a,v_1000000000ba,v_1000000000bb,e_0=>(if (decide (0<k6)) then (zbh v_1000000000a v_1000000000ba v_1000000000bb).bind fun y_3=>(if (q_2.length+[(z4o (y_3.1.1))].length)*1≤LIM then zbi k n (z7 (k6-1)) (q_2++[(z4o (y_3.1.1))]) y_3.2.2.1.1 y_3.2.2.1.2.1 y_3.2.2.1.2.2 e_0 else none) else e_0 q_2 v_1000000000a v_1000000000ba v_1000000000bb)
def zdm (k:Nat) (n1:Int) (v_1000000000a:List Int) (v_1000000000ba:Int) (v_1000000000bb:Int):Option zT11:=(z2m n1 v_1000000000a v_1000000000ba v_1000000000bb).bind fun y_1=>zbi k k y_1.1.1 [] y_1.2.2.1.1 y_1.2.2.1.2.1 y_1.2.2.1.2.2 (fun q_4 v_1000000000a_5 v_1000000000ba_6 v_1000000000bb_7=>some (((z2c q_4),()),(),((v_1000000000a_5,(v_1000000000ba_6,v_1000000000bb_7)),())))
def zp5:Head:=⟨[(5,(.ref P0 []))],[(P0,5,U6,false)],[(1000000000,51,(.st (.pr V1 (.pr V0 V2))))]⟩
def zp6 (k:Nat):LD zT11:=⟨3,⟨[(0,(.bp 1000000000 [] 0)),(5,(.ref P0 [])),(6,V0)],[(P0,5,U6,false)],[(1000000000,51,(.st (.pr V1 (.pr V0 V2))))]⟩,[(0,zp5)],fun n x kx=>zbi k n x.1.2.2.1 x.2.1.1 x.2.2.1.1 x.2.2.1.2.1 x.2.2.1.2.2 (fun q_4 v_1000000000a v_1000000000ba v_1000000000bb=>kx 0 (zp5.fill (((),()),(q_4,()),((v_1000000000a,(v_1000000000ba,v_1000000000bb)),())))),k⟩
def z10g (k:Nat):OC:=⟨⟨[(0,(.bp 1000000000 [] 0)),(1,V0)],[],[(1000000000,51,(.st (.pr V1 (.pr V0 V2))))]⟩,⟨[(0,V3)],[],[(1000000000,51,(.st (.pr V1 (.pr V0 V2))))]⟩,fun x=>zdm k x.1.2.1 x.2.2.1.1 x.2.2.1.2.1 x.2.2.1.2.2,false⟩
theorem z10h (k:Nat):z17 Tryz.prog ti 42 (z10g k):=okO zh xTn (xOc 10 z6s (xOc 17 zk3 xOn)) Tryz.f42 (orc (zp6 k) (LOn _)) (fun _ _=>xLo (zp6 k) (by rintro n ⟨⟨⟨⟩,⟨⟩,k6,⟨⟩⟩,⟨q_2,⟨⟩⟩,⟨⟨v_1000000000a,⟨v_1000000000ba,v_1000000000bb⟩⟩,⟨⟩⟩⟩ kx; kernel_rfl) xLn) (by rintro _ _ ⟨⟨⟨⟩,n1,⟨⟩⟩,⟨⟩,⟨⟨v_1000000000a,⟨v_1000000000ba,v_1000000000bb⟩⟩,⟨⟩⟩⟩; kernel_rfl)
def zbj (k:Nat):Nat→zT2→zT2→Int→(Option Bool)→Option Bool
 | 0,_,_,_,_=>none
 | n+1,a0,b1,i5,e_0=>(if (decide (i5<(List.length a0:Int))) then (if 0≤i5 then (a0[i5.toNat]?).bind fun y_1=>(if 0≤i5 then (b1[i5.toNat]?).bind fun y_2=>(if (!(decide (y_1=y_2))) then some false else zbj k n a0 b1 (z7 (i5+1)) e_0) else none) else none) else e_0)
def zgk (k:Nat) (a0:List Int) (b1:List Int):Option Bool:=(if (!(decide ((List.length a0:Int)=(List.length b1:Int)))) then some false else zbj k k a0 b1 0 (some true))
def zp7:Head:=⟨[],[],[]⟩
def zp8 (k:Nat):LD Bool:=⟨4,⟨[(0,V4),(1,V4),(5,V0)],[],[]⟩,[(0,zp7)],fun n x kx=>zbj k n x.1.1 x.1.2.1 x.1.2.2.1 (kx 0 (zp7.fill ((),(),()))),k⟩
def z10i (k:Nat):FE:=⟨(.pr U3 U3),1,.bool,fun x=>zgk k x.1 x.2⟩
theorem z10j (k:Nat):zc Tryz.prog 117 (z10i k):=okC zh xTn xOn Tryz.f117 (orc (zp8 k) (LOn _)) (xLo (zp8 k) (by rintro n ⟨⟨a0,b1,i5,⟨⟩⟩,⟨⟩,⟨⟩⟩ kx; kernel_rfl) xLn) (by rintro ⟨a0,b1⟩; kernel_rfl)
def zbk (k:Nat):Nat→zT7→zT2→Int→(Option Int)→Option Int
 | 0,_,_,_,_=>none
 | n+1,c0,s1,i5,e_0=>(if (decide (i5<(List.length c0:Int))) then (if 0≤i5 then (c0[i5.toNat]?).bind fun y_1=>(zgk k y_1 s1).bind fun r_2=>(if r_2 then some i5 else zbk k n c0 s1 (z7 (i5+1)) e_0) else none) else e_0)
def zdn (k:Nat) (c0:List zT2) (s1:List Int):Option Int:=zbk k k c0 s1 0 (some (-1))
def zp9:Head:=⟨[],[],[]⟩
def zpa (k:Nat):LD Int:=⟨2,⟨[(0,(.val U7)),(1,V4),(5,V0)],[],[]⟩,[(0,zp9)],fun n x kx=>zbk k n x.1.1 x.1.2.1 x.1.2.2.1 (kx 0 (zp9.fill ((),(),()))),k⟩
def z10k (k:Nat):FE:=⟨(.pr U7 U3),1,U0,fun x=>zdn k x.1 x.2⟩
theorem zpb (k:Nat):zc Tryz.prog 103 (z10k k):=okC zh (xTc (z10j k) xTn) xOn Tryz.f103 (orc (zpa k) (LOn _)) (xLo (zpa k) (by rintro n ⟨⟨c0,s1,i5,⟨⟩⟩,⟨⟩,⟨⟩⟩ kx; kernel_rfl) xLn) (by rintro ⟨c0,s1⟩; kernel_rfl)
def z5s (list0:List Int):Option zT2:=(if (([]:List Unit).length+list0.length)*8≤LIM then some list0 else none)
def z10l:FE:=⟨U3,1,U3,fun x=>z5s x⟩
theorem zk5:zc Tryz.prog 106 (z10l):=okC zh xTn xOn Tryz.f106 (LOn _) xLn (by rintro list0; kernel_rfl)
def zdo (s0:List Int) (k1:Int):Option zT2:=(if 0≤(0:Int)∧(0:Int)≤k1∧k1≤s0.length then (z5s (s0.take k1.toNat)).bind fun r_1=>(if 0≤(z7 (k1+1))∧(z7 (k1+1))≤(s0.length:Int)∧(s0.length:Int)≤s0.length then (if (r_1.length+((s0.drop ((z7 (k1+1)).toNat)).take (s0.length-(z7 (k1+1)).toNat)).length)*8≤LIM then some (r_1++((s0.drop ((z7 (k1+1)).toNat)).take (s0.length-(z7 (k1+1)).toNat))) else none) else none) else none)
def z10m:FE:=⟨(.pr U3 U0),1,U3,fun x=>zdo x.1 x.2⟩
theorem zpc:zc Tryz.prog 104 (z10m):=okC zh (xTc zk5 xTn) xOn Tryz.f104 (LOn _) xLn (by rintro ⟨s0,k1⟩; kernel_rfl)
def zbl (k:Nat):Nat→zT2→zT2→Int→(Option Bool)→Option Bool
 | 0,_,_,_,_=>none
 | n+1,a0,b1,i5,e_0=>(if (decide (i5<(List.length a0:Int))) then (if 0≤i5 then (a0[i5.toNat]?).bind fun y_1=>(if 0≤i5 then (b1[i5.toNat]?).bind fun y_2=>(if (!(decide (y_1=y_2))) then (if 0≤i5 then (a0[i5.toNat]?).bind fun y_3=>(if 0≤i5 then (b1[i5.toNat]?).bind fun y_4=>some (decide (y_3<y_4)) else none) else none) else zbl k n a0 b1 (z7 (i5+1)) e_0) else none) else none) else e_0)
def zbm (k:Nat) (a0:List Int) (b1:List Int):Option Bool:=(if (!(decide ((List.length a0:Int)=(List.length b1:Int)))) then some (decide ((List.length a0:Int)<(List.length b1:Int))) else zbl k k a0 b1 0 (some false))
def zpd:Head:=⟨[],[],[]⟩
def zpe (k:Nat):LD Bool:=⟨4,⟨[(0,V4),(1,V4),(5,V0)],[],[]⟩,[(0,zpd)],fun n x kx=>zbl k n x.1.1 x.1.2.1 x.1.2.2.1 (kx 0 (zpd.fill ((),(),()))),k⟩
def z10n (k:Nat):FE:=⟨(.pr U3 U3),1,.bool,fun x=>zbm k x.1 x.2⟩
theorem zpf (k:Nat):zc Tryz.prog 105 (z10n k):=okC zh xTn xOn Tryz.f105 (orc (zpe k) (LOn _)) (xLo (zpe k) (by rintro n ⟨⟨a0,b1,i5,⟨⟩⟩,⟨⟩,⟨⟩⟩ kx; kernel_rfl) xLn) (by rintro ⟨a0,b1⟩; kernel_rfl)
def zbn (k:Nat) (self:(zT2→zT7→Option zT1)):Nat→Int→zT2→zT7→(zT2→zT7→Option zT1)→Option zT1
 | 0,_,_,_,_=>none
 | n+1,k4,q_5,q_6,e_0=>(if (decide (k4<(List.length q_5:Int))) then (if (decide (1<(List.length q_5:Int))) then (zdo q_5 k4).bind fun r_7=>(self r_7 q_6).bind fun y_8=>zbn k self n (z7 (k4+1)) q_5 y_8.2.1.1 e_0 else e_0 q_5 q_6) else e_0 q_5 q_6)
def zbo (k:Nat) (self:(zT2→zT7→Option zT1)):Nat→Int→zT2→zT7→(Int→zT2→zT7→Option zT1)→Option zT1
 | 0,_,_,_,_=>none
 | n+1,at5,q_11,q_12,e_2=>(if (decide (at5<(List.length q_12:Int))) then (if 0≤at5∧at5.toNat<List.length q_12 then (q_12[at5.toNat]?).bind fun y_13=>(zbm k y_13 q_11).bind fun r_14=>(if r_14 then zbo k self n (z7 (at5+1)) q_11 q_12 e_2 else e_2 at5 q_11 q_12) else none) else e_2 at5 q_11 q_12)
def z5h (k:Nat):Nat→zT2→zT7→Option zT1
 | 0,_,_=>none
 | n+1,q_1,q_2=>(zdn k q_2 q_1).bind fun r_3=>(if (decide (0≤r_3)) then some (((),()),(q_2,()),((),())) else zbn k (z5h k n) k 0 q_1 q_2 (fun q_9 q_10=>zbo k (z5h k n) k 0 q_9 q_10 (fun at_15 q_16 q_17=>(if 0≤(0:Int)∧(0:Int)≤at_15∧at_15≤q_17.length then (if (([]:List Unit).length+(q_17.take at_15.toNat).length)*24≤LIM then (z5s q_16).bind fun r_18=>(if ((q_17.take at_15.toNat).length+[r_18].length)*24≤LIM then (if 0≤at_15∧at_15≤(q_17.length:Int)∧(q_17.length:Int)≤q_17.length then (if (((q_17.take at_15.toNat)++[r_18]).length+((q_17.drop at_15.toNat).take (q_17.length-at_15.toNat)).length)*24≤LIM then some (((),()),((((q_17.take at_15.toNat)++[r_18])++((q_17.drop at_15.toNat).take (q_17.length-at_15.toNat))),()),((),())) else none) else none) else none) else none) else none))))
def zpg (k:Nat) (q_1:List Int) (q_2:List zT2):Option zT1:=z5h k k q_1 q_2
def zph:Head:=⟨[(0,(.bp 1000000000 [] 0)),(1,(.ref P0 []))],[(P0,2,U0,false),(P1,29,U9,false)],[(1000000000,72,(.st (.ref P1 [])))]⟩
def zpi (k:Nat) (self:(zT2→zT7→Option zT1)):LD zT1:=⟨2,⟨[(0,(.bp 1000000000 [] 0)),(1,(.ref P0 [])),(4,V0)],[(P0,2,U0,false),(P1,29,U9,false)],[(1000000000,72,(.st (.ref P1 [])))]⟩,[(0,zph)],fun n x kx=>zbn k self n x.1.2.2.1 x.2.1.1 x.2.1.2.1 (fun q_9 q_10=>kx 0 (zph.fill (((),(),()),(q_9,q_10,()),((),())))),k⟩
def zpj:Head:=⟨[(0,(.bp 1000000000 [] 0)),(1,(.ref P0 [])),(5,V0)],[(P0,2,U0,false),(P1,29,U9,false)],[(1000000000,72,(.st (.ref P1 [])))]⟩
def zpk (k:Nat) (self:(zT2→zT7→Option zT1)):LD zT1:=⟨6,⟨[(0,(.bp 1000000000 [] 0)),(1,(.ref P0 [])),(5,V0)],[(P0,2,U0,false),(P1,29,U9,false)],[(1000000000,72,(.st (.ref P1 [])))]⟩,[(2,zpj)],fun n x kx=>zbo k self n x.1.2.2.1 x.2.1.1 x.2.1.2.1 (fun at5 q_15 q_16=>kx 2 (zpj.fill (((),(),at5,()),(q_15,q_16,()),((),())))),k⟩
def zk6 (k n:Nat):OC:=⟨⟨[(0,(.bp 1000000000 [] 0)),(1,(.ref 1000000000 []))],[(1000000000,2,U0,false),(1000000001,29,U9,false)],[(1000000000,72,(.st (.ref 1000000001 [])))]⟩,⟨[(0,(.tup .nl))],[(P0,29,U9,false)],[(1000000000,72,(.st (.ref P0 [])))]⟩,fun x=>z5h k n x.2.1.1 x.2.1.2.1,true⟩
def z10o (k:Nat):OC:=zk6 k k
theorem zpl (k:Nat):∀ sn:Nat,z17 Tryz.prog tiR 85 (zk6 k sn)
 | 0=>⟨by kernel_rfl,fun _ _ x y h=>by cases (show (none:Option (zk6 k 0).ho.T)=some y from h)⟩
 | sn+1=>okO z9k (xTc (zpb k) (xTc zpc (xTc (zpf k) (xTc zk5 xTn)))) (xOc 26 (zpl k sn) xOn) Tryz.f85 (orc (zpi k (z5h k sn)) (orc (zpk k (z5h k sn)) (LOn _))) (fun _ _=>xLo (zpi k (z5h k sn)) (by rintro n ⟨⟨⟨⟩,⟨⟩,k4,⟨⟩⟩,⟨q_5,q_6,⟨⟩⟩,⟨⟨⟩,⟨⟩⟩⟩ kx; kernel_rfl) (xLo (zpk k (z5h k sn)) (by rintro n ⟨⟨⟨⟩,⟨⟩,at5,⟨⟩⟩,⟨q_11,q_12,⟨⟩⟩,⟨⟨⟩,⟨⟩⟩⟩ kx; kernel_rfl) xLn)) (by rintro _ _ ⟨⟨⟨⟩,⟨⟩,⟨⟩⟩,⟨q_1,q_2,⟨⟩⟩,⟨⟨⟩,⟨⟩⟩⟩; kernel_rfl)
theorem z10p (k:Nat):z17 Tryz.prog tiR 85 (z10o k):=zpl k k
def zbp (k:Nat):Nat→zT2→Int→zT7→(zT2→zT7→Option zT1)→Option zT1
 | 0,_,_,_,_=>none
 | n+1,s1,k4,q_4,e_0=>(if (decide (k4<(List.length s1:Int))) then (if (decide (1<(List.length s1:Int))) then (zdo s1 k4).bind fun r_5=>(zpg k r_5 q_4).bind fun y_6=>zbp k n s1 (z7 (k4+1)) y_6.2.1.1 e_0 else e_0 s1 q_4) else e_0 s1 q_4)
def zbq (k:Nat):Nat→zT2→Int→zT7→(zT2→Int→zT7→Option zT1)→Option zT1
 | 0,_,_,_,_=>none
 | n+1,s1,at5,q_9,e_2=>(if (decide (at5<(List.length q_9:Int))) then (if 0≤at5∧at5.toNat<List.length q_9 then (q_9[at5.toNat]?).bind fun y_10=>(zbm k y_10 s1).bind fun r_11=>(if r_11 then zbq k n s1 (z7 (at5+1)) q_9 e_2 else e_2 s1 at5 q_9) else none) else e_2 s1 at5 q_9)
def zgl (k:Nat) (s1:List Int) (q_1:List zT2):Option zT1:=(zdn k q_1 s1).bind fun r_2=>(if (decide (0≤r_2)) then some (((),()),(q_1,()),((),())) else zbp k k s1 0 q_1 (fun s_7 q_8=>zbq k k s_7 0 q_8 (fun s_12 at_13 q_14=>(if 0≤(0:Int)∧(0:Int)≤at_13∧at_13≤q_14.length then (if (([]:List Unit).length+(q_14.take at_13.toNat).length)*24≤LIM then (z5s s_12).bind fun r_15=>(if ((q_14.take at_13.toNat).length+[r_15].length)*24≤LIM then (if 0≤at_13∧at_13≤(q_14.length:Int)∧(q_14.length:Int)≤q_14.length then (if (((q_14.take at_13.toNat)++[r_15]).length+((q_14.drop at_13.toNat).take (q_14.length-at_13.toNat)).length)*24≤LIM then some (((),()),((((q_14.take at_13.toNat)++[r_15])++((q_14.drop at_13.toNat).take (q_14.length-at_13.toNat))),()),((),())) else none) else none) else none) else none) else none))))
def zpm:Head:=⟨[(0,(.bp 1000000000 [] 0)),(1,V4)],[(P0,29,U9,false)],[(1000000000,72,(.st (.ref P0 [])))]⟩
def zpn (k:Nat):LD zT1:=⟨2,⟨[(0,(.bp 1000000000 [] 0)),(1,V4),(4,V0)],[(P0,29,U9,false)],[(1000000000,72,(.st (.ref P0 [])))]⟩,[(0,zpm)],fun n x kx=>zbp k n x.1.2.1 x.1.2.2.1 x.2.1.1 (fun s1 q_7=>kx 0 (zpm.fill (((),s1,()),(q_7,()),((),())))),k⟩
def zpo:Head:=⟨[(0,(.bp 1000000000 [] 0)),(1,V4),(5,V0)],[(P0,29,U9,false)],[(1000000000,72,(.st (.ref P0 [])))]⟩
def zpp (k:Nat):LD zT1:=⟨6,⟨[(0,(.bp 1000000000 [] 0)),(1,V4),(5,V0)],[(P0,29,U9,false)],[(1000000000,72,(.st (.ref P0 [])))]⟩,[(2,zpo)],fun n x kx=>zbq k n x.1.2.1 x.1.2.2.1 x.2.1.1 (fun s1 at5 q_12=>kx 2 (zpo.fill (((),s1,at5,()),(q_12,()),((),())))),k⟩
def z10q (k:Nat):OC:=⟨⟨[(0,(.bp 1000000000 [] 0)),(1,V4)],[(1000000000,29,U9,false)],[(1000000000,72,(.st (.ref 1000000000 [])))]⟩,⟨[(0,(.tup .nl))],[(P0,29,U9,false)],[(1000000000,72,(.st (.ref P0 [])))]⟩,fun x=>zgl k x.1.2.1 x.2.1.1,true⟩
theorem z10r (k:Nat):z17 Tryz.prog tiR 85 (z10q k):=okO z9k (xTc (zpb k) (xTc zpc (xTc (zpf k) (xTc zk5 xTn)))) (xOc 26 (z10p k) xOn) Tryz.f85 (orc (zpn k) (orc (zpp k) (LOn _))) (fun _ _=>xLo (zpn k) (by rintro n ⟨⟨⟨⟩,s1,k4,⟨⟩⟩,⟨q_4,⟨⟩⟩,⟨⟨⟩,⟨⟩⟩⟩ kx; kernel_rfl) (xLo (zpp k) (by rintro n ⟨⟨⟨⟩,s1,at5,⟨⟩⟩,⟨q_9,⟨⟩⟩,⟨⟨⟩,⟨⟩⟩⟩ kx; kernel_rfl) xLn)) (by rintro _ _ ⟨⟨⟨⟩,s1,⟨⟩⟩,⟨q_1,⟨⟩⟩,⟨⟨⟩,⟨⟩⟩⟩; kernel_rfl)
def zbr (k:Nat):Nat→Int→zT7→zT7→zT7→(zT7→zT7→zT7→Option zT5)→Option zT5
 | 0,_,_,_,_,_=>none
 | n+1,i4,q_2,q_3,q_4,e_0=>(if (decide (i4<(List.length q_2:Int))) then (if 0≤i4∧i4.toNat<List.length q_2 then (q_2[i4.toNat]?).bind fun y_5=>(zgl k y_5 q_4).bind fun y_6=>zbr k n (z7 (i4+1)) q_2 q_3 y_6.2.1.1 e_0 else none) else e_0 q_2 q_3 q_4)
def z8o (k:Nat) (q_1:List zT2):Option zT5:=zbr k k 0 q_1 [] [] (fun q_7 q_8 q_9=>some (((),()),(q_7,q_9,()),()))
def zpq:Head:=⟨[(2,(.bp 2 [] 0)),(3,(.bp 3 [] 0))],[(1000000000,29,U9,false),(P1,29,U9,false),(P2,29,U9,false)],[(2,72,(.st (.ref P1 []))),(3,72,(.st (.ref P2 [])))]⟩
def zpr (k:Nat):LD zT5:=⟨3,⟨[(0,(.ref 1000000000 [])),(2,(.bp 2 [] 0)),(3,(.bp 3 [] 0)),(4,V0)],[(1000000000,29,U9,false),(P1,29,U9,false),(P2,29,U9,false)],[(2,72,(.st (.ref P1 []))),(3,72,(.st (.ref P2 [])))]⟩,[(0,zpq)],fun n x kx=>zbr k n x.1.2.2.2.1 x.2.1.1 x.2.1.2.1 x.2.1.2.2.1 (fun q_7 q_8 q_9=>kx 0 (zpq.fill (((),(),()),(q_7,q_8,q_9,()),((),(),())))),k⟩
def z10s (k:Nat):OC:=⟨⟨[(0,(.ref 1000000000 []))],[(1000000000,29,U9,false)],[]⟩,⟨[(0,(.st (.ref P1 [])))],[(1000000000,29,U9,false),(P1,29,U9,false)],[]⟩,fun x=>z8o k x.2.1.1,true⟩
theorem zk7 (k:Nat):z17 Tryz.prog tiR 64 (z10s k):=okO z9k xTn (xOc 17 (z10r k) xOn) Tryz.f64 (orc (zpr k) (LOn _)) (fun _ _=>xLo (zpr k) (by rintro n ⟨⟨⟨⟩,⟨⟩,⟨⟩,i4,⟨⟩⟩,⟨q_2,q_3,q_4,⟨⟩⟩,⟨⟨⟩,⟨⟩,⟨⟩⟩⟩ kx; kernel_rfl) xLn) (by rintro _ _ ⟨⟨⟨⟩,⟨⟩⟩,⟨q_1,⟨⟩⟩,⟨⟩⟩; kernel_rfl)
def z7m (k:Nat):Nat→zT2→Int→Bool→Int→zT2→(Int→Bool→zT2→Option zT2)→Option zT2
 | 0,_,_,_,_,_,_=>none
 | n+1,list0,n1,done6,i7,q_1,e_0=>(if (decide (i7<(List.length list0:Int))) then (if (!done6) then (if 0≤i7 then (list0[i7.toNat]?).bind fun y_2=>(if (decide (n1≤y_2)) then (if 0≤i7 then (list0[i7.toNat]?).bind fun y_3=>(if (decide (n1<y_3)) then (if (q_1.length+[n1].length)*8≤LIM then (if 0≤i7 then (list0[i7.toNat]?).bind fun y_4=>(if ((q_1++[n1]).length+[y_4].length)*8≤LIM then z7m k n list0 n1 true (z7 (i7+1)) ((q_1++[n1])++[y_4]) e_0 else none) else none) else none) else (if 0≤i7 then (list0[i7.toNat]?).bind fun y_5=>(if (q_1.length+[y_5].length)*8≤LIM then z7m k n list0 n1 true (z7 (i7+1)) (q_1++[y_5]) e_0 else none) else none)) else none) else (if 0≤i7 then (list0[i7.toNat]?).bind fun y_6=>(if (q_1.length+[y_6].length)*8≤LIM then z7m k n list0 n1 done6 (z7 (i7+1)) (q_1++[y_6]) e_0 else none) else none)) else none) else (if 0≤i7 then (list0[i7.toNat]?).bind fun y_7=>(if (q_1.length+[y_7].length)*8≤LIM then z7m k n list0 n1 done6 (z7 (i7+1)) (q_1++[y_7]) e_0 else none) else none)) else e_0 n1 done6 q_1)
def zgm (k:Nat) (list0:List Int) (n1:Int):Option zT2:=z7m k k list0 n1 false 0 [] (fun n_8 done_9 q_10=>(if (!done_9) then (if (q_10.length+[n_8].length)*8≤LIM then some (q_10++[n_8]) else none) else some q_10))
def zps:Head:=⟨[(1,V0),(5,(.ref P0 [])),(6,V6)],[(P0,2,U0,false)],[]⟩
def zpt (k:Nat):LD zT2:=⟨4,⟨[(0,V4),(1,V0),(5,(.ref P0 [])),(6,V6),(7,V0)],[(P0,2,U0,false)],[]⟩,[(0,zps)],fun n x kx=>z7m k n x.1.1 x.1.2.1 x.1.2.2.2.1 x.1.2.2.2.2.1 x.2.1.1 (fun n1 done6 q_8=>kx 0 (zps.fill ((n1,(),done6,()),(q_8,()),()))),k⟩
def z10t (k:Nat):FE:=⟨(.pr U3 U0),1,U3,fun x=>zgm k x.1 x.2⟩
theorem z10u (k:Nat):zc Tryz.prog 86 (z10t k):=okC zh xTn xOn Tryz.f86 (orc (zpt k) (LOn _)) (xLo (zpt k) (by rintro n ⟨⟨list0,n1,⟨⟩,done6,i7,⟨⟩⟩,⟨q_1,⟨⟩⟩,⟨⟩⟩ kx; kernel_rfl) xLn) (by rintro ⟨list0,n1⟩; kernel_rfl)
def zbs (k:Nat):Nat→Int→Int→zT2→zT2→Int→Int→(zT2→zT2→Int→Int→Option zT8)→Option zT8
 | 0,_,_,_,_,_,_,_=>none
 | n+1,vertices1,k8,q_2,v_1000000000a,v_1000000000ba,v_1000000000bb,e_0=>(if (decide (0<k8)) then (z2m vertices1 v_1000000000a v_1000000000ba v_1000000000bb).bind fun y_3=>(zgm k q_2 y_3.1.1).bind fun r_4=>zbs k n vertices1 (z7 (k8-1)) r_4 y_3.2.2.1.1 y_3.2.2.1.2.1 y_3.2.2.1.2.2 e_0 else e_0 q_2 v_1000000000a v_1000000000ba v_1000000000bb)
def zgn (k:Nat) (vertices1:Int) (most2:Int) (v_1000000000a:List Int) (v_1000000000ba:Int) (v_1000000000bb:Int):Option zT8:=(z2m most2 v_1000000000a v_1000000000ba v_1000000000bb).bind fun y_1=>zbs k k vertices1 (z7 (1+y_1.1.1)) [] y_1.2.2.1.1 y_1.2.2.1.2.1 y_1.2.2.1.2.2 (fun q_5 v_1000000000a_6 v_1000000000ba_7 v_1000000000bb_8=>some (((),()),(q_5,()),((v_1000000000a_6,(v_1000000000ba_7,v_1000000000bb_8)),())))
def zpu:Head:=⟨[(7,(.ref P0 []))],[(P0,2,U0,false)],[(1000000000,51,(.st (.pr V1 (.pr V0 V2))))]⟩
def zpv (k:Nat):LD zT8:=⟨3,⟨[(0,(.bp 1000000000 [] 0)),(1,V0),(7,(.ref P0 [])),(8,V0)],[(P0,2,U0,false)],[(1000000000,51,(.st (.pr V1 (.pr V0 V2))))]⟩,[(0,zpu)],fun n x kx=>zbs k n x.1.2.1 x.1.2.2.2.1 x.2.1.1 x.2.2.1.1 x.2.2.1.2.1 x.2.2.1.2.2 (fun q_5 v_1000000000a v_1000000000ba v_1000000000bb=>kx 0 (zpu.fill (((),()),(q_5,()),((v_1000000000a,(v_1000000000ba,v_1000000000bb)),())))),k⟩
def z10v (k:Nat):OC:=⟨⟨[(0,(.bp 1000000000 [] 0)),(1,V0),(2,V0)],[],[(1000000000,51,(.st (.pr V1 (.pr V0 V2))))]⟩,⟨[(0,(.ref P0 []))],[(P0,2,U0,false)],[(1000000000,51,(.st (.pr V1 (.pr V0 V2))))]⟩,fun x=>zgn k x.1.2.1 x.1.2.2.1 x.2.2.1.1 x.2.2.1.2.1 x.2.2.1.2.2,false⟩
theorem z10w (k:Nat):z17 Tryz.prog ti 65 (z10v k):=okO zh (xTc (z10u k) xTn) (xOc 12 z6s (xOc 21 z6s xOn)) Tryz.f65 (orc (zpv k) (LOn _)) (fun _ _=>xLo (zpv k) (by rintro n ⟨⟨⟨⟩,vertices1,⟨⟩,k8,⟨⟩⟩,⟨q_2,⟨⟩⟩,⟨⟨v_1000000000a,⟨v_1000000000ba,v_1000000000bb⟩⟩,⟨⟩⟩⟩ kx; kernel_rfl) xLn) (by rintro _ _ ⟨⟨⟨⟩,vertices1,most2,⟨⟩⟩,⟨⟩,⟨⟨v_1000000000a,⟨v_1000000000ba,v_1000000000bb⟩⟩,⟨⟩⟩⟩; kernel_rfl)
end
end Go.Proofs.YtjbnebolfnjneaaGreatDoor.Ev
