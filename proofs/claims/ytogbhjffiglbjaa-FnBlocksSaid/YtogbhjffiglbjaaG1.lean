/- Functions of the program, as plain ones. No conditions. -/
import Derived.Test.YtogbhjffiglbjaaG0
import Derived.KernelRfl
set_option linter.unusedVariables false
set_option maxRecDepth 100000
namespace Go.Proofs.Ytogbhjffiglbjaa.Ev
open Go.RowKit
noncomputable section
def zcf (code0:List Int) (more1:List Int):Option Bool:=(if (decide (1048576<(List.length code0:Int))) then some true else some (decide (1048576<(List.length more1:Int))))
def zw7:FE:=⟨(.pr U2 U2),1,.bool,fun x=>zcf x.1 x.2⟩
theorem zw8:zc Try.prog 4 (zw7):=okC zu xTn xOn Try.f4 (LOn _) xLn (by rintro ⟨code0,more1⟩; kernel_rfl)
def zib (code0:List Int):Option (List Int×Int×Int):=some (code0,(0,0))
def zw9:FE:=⟨U2,1050,U7,fun x=>zib x⟩
theorem zwa:zc Try.prog 13 (zw9):=okB zu xTn xOn Try.f13 (LOn _) xLn (by rintro code0; kernel_rfl)
def zah (v_1000000000a:List Int) (v_1000000000ba:Int) (v_1000000000bb:Int):Option (((Int×Unit)×Unit×zT3)):=(if (decide (v_1000000000ba<(List.length v_1000000000a:Int))) then (if 0≤v_1000000000ba then (v_1000000000a[v_1000000000ba.toNat]?).bind fun y_1=>(if (decide ((z7 (v_1000000000ba+1))≤(List.length v_1000000000a:Int))) then some (((z7 (y_1)),()),(),((v_1000000000a,((z7 (v_1000000000ba+1)),(z17 ((z17 ((z17 (v_1000000000bb*6364136223846793005))+(z17 ((z7 (y_1))))))+1442695040888963407)))),())) else some (((z7 ((z6w .u64 (Int.fdiv (z17 ((z17 ((z17 (v_1000000000bb*6364136223846793005))+(z17 ((z7 (y_1))))))+1442695040888963407)) (2 ^ 40)) 255))),()),(),((v_1000000000a,((z7 (v_1000000000ba+1)),(z17 ((z17 ((z17 (v_1000000000bb*6364136223846793005))+(z17 ((z7 (y_1))))))+1442695040888963407)))),()))) else none) else (if (decide ((z7 (v_1000000000ba+1))≤(List.length v_1000000000a:Int))) then some ((0,()),(),((v_1000000000a,((z7 (v_1000000000ba+1)),(z17 ((z17 ((z17 (v_1000000000bb*6364136223846793005))+0))+1442695040888963407)))),())) else some (((z7 ((z6w .u64 (Int.fdiv (z17 ((z17 ((z17 (v_1000000000bb*6364136223846793005))+0))+1442695040888963407)) (2 ^ 40)) 255))),()),(),((v_1000000000a,((z7 (v_1000000000ba+1)),(z17 ((z17 ((z17 (v_1000000000bb*6364136223846793005))+0))+1442695040888963407)))),()))))
def zwb:OC:=⟨⟨[(0,(.bp 1000000000 [] 0))],[],[(1000000000,50,(.st (.pr V1 (.pr V0 V2))))]⟩,⟨[(0,V0)],[],[(1000000000,50,(.st (.pr V1 (.pr V0 V2))))]⟩,fun x=>zah x.2.2.1.1 x.2.2.1.2.1 x.2.2.1.2.2,false⟩
theorem zic:z11 Try.prog ti 33 (zwb):=okO zu xTn xOn Try.f33 (LOn _) (fun _ _=>xLn) (by rintro _ _ ⟨⟨⟨⟩,⟨⟩⟩,⟨⟩,⟨⟨v_1000000000a,⟨v_1000000000ba,v_1000000000bb⟩⟩,⟨⟩⟩⟩; kernel_rfl)
def z2e (n1:Int) (v_1000000000a:List Int) (v_1000000000ba:Int) (v_1000000000bb:Int):Option (((Int×Unit)×Unit×zT3)):=(if (decide (n1≤1)) then some ((0,()),(),((v_1000000000a,(v_1000000000ba,v_1000000000bb)),())) else (zah v_1000000000a v_1000000000ba v_1000000000bb).bind fun y_1=>(if (decide (200<n1)) then (zah y_1.2.2.1.1 y_1.2.2.1.2.1 y_1.2.2.1.2.2).bind fun y_2=>(if n1=0 then none else some (((Int.tmod (z7 ((z7 (y_1.1.1*256))+y_2.1.1)) n1),()),(),((y_2.2.2.1.1,(y_2.2.2.1.2.1,y_2.2.2.1.2.2)),()))) else (if n1=0 then none else some (((Int.tmod y_1.1.1 n1),()),(),((y_1.2.2.1.1,(y_1.2.2.1.2.1,y_1.2.2.1.2.2)),())))))
def zwc:OC:=⟨⟨[(0,(.bp 1000000000 [] 0)),(1,V0)],[],[(1000000000,50,(.st (.pr V1 (.pr V0 V2))))]⟩,⟨[(0,V0)],[],[(1000000000,50,(.st (.pr V1 (.pr V0 V2))))]⟩,fun x=>z2e x.1.2.1 x.2.2.1.1 x.2.2.1.2.1 x.2.2.1.2.2,false⟩
theorem z64:z11 Try.prog ti 23 (zwc):=okO zu xTn (xOc 9 zic (xOc 15 zic xOn)) Try.f23 (LOn _) (fun _ _=>xLn) (by rintro _ _ ⟨⟨⟨⟩,n1,⟨⟩⟩,⟨⟩,⟨⟨v_1000000000a,⟨v_1000000000ba,v_1000000000bb⟩⟩,⟨⟩⟩⟩; kernel_rfl)
def z8t (q_1:List zT4) (v_1000000000a:List Int) (v_1000000000ba:Int) (v_1000000000bb:Int):Option (((zT4×Unit)×((List zT4)×Unit)×zT3)):=(z2e (List.length q_1:Int) v_1000000000a v_1000000000ba v_1000000000bb).bind fun y_2=>(if 0≤y_2.1.1∧y_2.1.1.toNat<List.length q_1 then (q_1[y_2.1.1.toNat]?).bind fun y_3=>some ((y_3,()),(q_1,()),((y_2.2.2.1.1,(y_2.2.2.1.2.1,y_2.2.2.1.2.2)),())) else none)
def zwd:OC:=⟨⟨[(0,(.bp 1000000000 [] 0)),(1,(.ref 1000000000 []))],[(1000000000,9,.str,false)],[(1000000000,50,(.st (.pr V1 (.pr V0 V2))))]⟩,⟨[(0,V5)],[(1000000000,9,.str,false)],[(1000000000,50,(.st (.pr V1 (.pr V0 V2))))]⟩,fun x=>z8t x.2.1.1 x.2.2.1.1 x.2.2.1.2.1 x.2.2.1.2.2,false⟩
theorem zid:z11 Try.prog ti 35 (zwd):=okO zu xTn (xOc 9 z64 xOn) Try.f35 (LOn _) (fun _ _=>xLn) (by rintro _ _ ⟨⟨⟨⟩,⟨⟩,⟨⟩⟩,⟨q_1,⟨⟩⟩,⟨⟨v_1000000000a,⟨v_1000000000ba,v_1000000000bb⟩⟩,⟨⟩⟩⟩; kernel_rfl)
def z2v (n1:Int) (v_1000000000a:List Int) (v_1000000000ba:Int) (v_1000000000bb:Int):Option (((Bool×Unit)×Unit×zT3)):=(z2e n1 v_1000000000a v_1000000000ba v_1000000000bb).bind fun y_1=>some (((decide (y_1.1.1=0)),()),(),((y_1.2.2.1.1,(y_1.2.2.1.2.1,y_1.2.2.1.2.2)),()))
def zwe:OC:=⟨⟨[(0,(.bp 1000000000 [] 0)),(1,V0)],[],[(1000000000,50,(.st (.pr V1 (.pr V0 V2))))]⟩,⟨[(0,V6)],[],[(1000000000,50,(.st (.pr V1 (.pr V0 V2))))]⟩,fun x=>z2v x.1.2.1 x.2.2.1.1 x.2.2.1.2.1 x.2.2.1.2.2,false⟩
theorem zfa:z11 Try.prog ti 36 (zwe):=okO zu xTn (xOc 7 z64 xOn) Try.f36 (LOn _) (fun _ _=>xLn) (by rintro _ _ ⟨⟨⟨⟩,n1,⟨⟩⟩,⟨⟩,⟨⟨v_1000000000a,⟨v_1000000000ba,v_1000000000bb⟩⟩,⟨⟩⟩⟩; kernel_rfl)
def zai (k:Nat):Nat→Int→zT2→zT2→Int→Int→(zT2→zT2→Int→Int→Option zT11)→Option zT11
 | 0,_,_,_,_,_,_=>none
 | n+1,k6,q_2,v_1000000000a,v_1000000000ba,v_1000000000bb,e_0=>(if (decide (0<k6)) then (zah v_1000000000a v_1000000000ba v_1000000000bb).bind fun y_3=>(if (q_2.length+[(z5q (y_3.1.1))].length)*1≤LIM then zai k n (z7 (k6-1)) (q_2++[(z5q (y_3.1.1))]) y_3.2.2.1.1 y_3.2.2.1.2.1 y_3.2.2.1.2.2 e_0 else none) else e_0 q_2 v_1000000000a v_1000000000ba v_1000000000bb)
def zcg (k:Nat) (n1:Int) (v_1000000000a:List Int) (v_1000000000ba:Int) (v_1000000000bb:Int):Option zT11:=(z2e n1 v_1000000000a v_1000000000ba v_1000000000bb).bind fun y_1=>zai k k y_1.1.1 [] y_1.2.2.1.1 y_1.2.2.1.2.1 y_1.2.2.1.2.2 (fun q_4 v_1000000000a_5 v_1000000000ba_6 v_1000000000bb_7=>some (((z32 q_4),()),(),((v_1000000000a_5,(v_1000000000ba_6,v_1000000000bb_7)),())))
def zmy:Head:=⟨[(5,(.ref P0 []))],[(P0,5,U9,false)],[(1000000000,50,(.st (.pr V1 (.pr V0 V2))))]⟩
def zmz (k:Nat):LD zT11:=⟨3,⟨[(0,(.bp 1000000000 [] 0)),(5,(.ref P0 [])),(6,V0)],[(P0,5,U9,false)],[(1000000000,50,(.st (.pr V1 (.pr V0 V2))))]⟩,[(0,zmy)],fun n x kx=>zai k n x.1.2.2.1 x.2.1.1 x.2.2.1.1 x.2.2.1.2.1 x.2.2.1.2.2 (fun q_4 v_1000000000a v_1000000000ba v_1000000000bb=>kx 0 (zmy.fill (((),()),(q_4,()),((v_1000000000a,(v_1000000000ba,v_1000000000bb)),())))),k⟩
def zwf (k:Nat):OC:=⟨⟨[(0,(.bp 1000000000 [] 0)),(1,V0)],[],[(1000000000,50,(.st (.pr V1 (.pr V0 V2))))]⟩,⟨[(0,V5)],[],[(1000000000,50,(.st (.pr V1 (.pr V0 V2))))]⟩,fun x=>zcg k x.1.2.1 x.2.2.1.1 x.2.2.1.2.1 x.2.2.1.2.2,false⟩
theorem zwg (k:Nat):z11 Try.prog ti 37 (zwf k):=okO zu xTn (xOc 10 z64 (xOc 17 zic xOn)) Try.f37 (orc (zmz k) (LOn _)) (fun _ _=>xLo (zmz k) (by rintro n ⟨⟨⟨⟩,⟨⟩,k6,⟨⟩⟩,⟨q_2,⟨⟩⟩,⟨⟨v_1000000000a,⟨v_1000000000ba,v_1000000000bb⟩⟩,⟨⟩⟩⟩ kx; kernel_rfl) xLn) (by rintro _ _ ⟨⟨⟨⟩,n1,⟨⟩⟩,⟨⟩,⟨⟨v_1000000000a,⟨v_1000000000ba,v_1000000000bb⟩⟩,⟨⟩⟩⟩; kernel_rfl)
def zaj (k:Nat):Nat→zT2→zT2→Int→(Option Bool)→Option Bool
 | 0,_,_,_,_=>none
 | n+1,a0,b1,i5,e_0=>(if (decide (i5<(List.length a0:Int))) then (if 0≤i5 then (a0[i5.toNat]?).bind fun y_1=>(if 0≤i5 then (b1[i5.toNat]?).bind fun y_2=>(if (!(decide (y_1=y_2))) then some false else zaj k n a0 b1 (z7 (i5+1)) e_0) else none) else none) else e_0)
def zfb (k:Nat) (a0:List Int) (b1:List Int):Option Bool:=(if (!(decide ((List.length a0:Int)=(List.length b1:Int)))) then some false else zaj k k a0 b1 0 (some true))
def zn0:Head:=⟨[],[],[]⟩
def zn1 (k:Nat):LD Bool:=⟨4,⟨[(0,V3),(1,V3),(5,V0)],[],[]⟩,[(0,zn0)],fun n x kx=>zaj k n x.1.1 x.1.2.1 x.1.2.2.1 (kx 0 (zn0.fill ((),(),()))),k⟩
def zwh (k:Nat):FE:=⟨(.pr U3 U3),1,.bool,fun x=>zfb k x.1 x.2⟩
theorem zwi (k:Nat):zc Try.prog 71 (zwh k):=okC zu xTn xOn Try.f71 (orc (zn1 k) (LOn _)) (xLo (zn1 k) (by rintro n ⟨⟨a0,b1,i5,⟨⟩⟩,⟨⟩,⟨⟩⟩ kx; kernel_rfl) xLn) (by rintro ⟨a0,b1⟩; kernel_rfl)
def zak (k:Nat):Nat→zT7→zT2→Int→(Option Int)→Option Int
 | 0,_,_,_,_=>none
 | n+1,c0,s1,i5,e_0=>(if (decide (i5<(List.length c0:Int))) then (if 0≤i5 then (c0[i5.toNat]?).bind fun y_1=>(zfb k y_1 s1).bind fun r_2=>(if r_2 then some i5 else zak k n c0 s1 (z7 (i5+1)) e_0) else none) else e_0)
def zch (k:Nat) (c0:List zT2) (s1:List Int):Option Int:=zak k k c0 s1 0 (some (-1))
def zn2:Head:=⟨[],[],[]⟩
def zn3 (k:Nat):LD Int:=⟨2,⟨[(0,(.val U6)),(1,V3),(5,V0)],[],[]⟩,[(0,zn2)],fun n x kx=>zak k n x.1.1 x.1.2.1 x.1.2.2.1 (kx 0 (zn2.fill ((),(),()))),k⟩
def zwj (k:Nat):FE:=⟨(.pr U6 U3),1,U1,fun x=>zch k x.1 x.2⟩
theorem zn4 (k:Nat):zc Try.prog 64 (zwj k):=okC zu (xTc (zwi k) xTn) xOn Try.f64 (orc (zn3 k) (LOn _)) (xLo (zn3 k) (by rintro n ⟨⟨c0,s1,i5,⟨⟩⟩,⟨⟩,⟨⟩⟩ kx; kernel_rfl) xLn) (by rintro ⟨c0,s1⟩; kernel_rfl)
def z5b (list0:List Int):Option zT2:=(if (([]:List Unit).length+list0.length)*8≤LIM then some list0 else none)
def zwk:FE:=⟨U3,1,U3,fun x=>z5b x⟩
theorem zie:zc Try.prog 67 (zwk):=okC zu xTn xOn Try.f67 (LOn _) xLn (by rintro list0; kernel_rfl)
def zci (s0:List Int) (k1:Int):Option zT2:=(if 0≤(0:Int)∧(0:Int)≤k1∧k1≤s0.length then (z5b (s0.take k1.toNat)).bind fun r_1=>(if 0≤(z7 (k1+1))∧(z7 (k1+1))≤(s0.length:Int)∧(s0.length:Int)≤s0.length then (if (r_1.length+((s0.drop ((z7 (k1+1)).toNat)).take (s0.length-(z7 (k1+1)).toNat)).length)*8≤LIM then some (r_1++((s0.drop ((z7 (k1+1)).toNat)).take (s0.length-(z7 (k1+1)).toNat))) else none) else none) else none)
def zwl:FE:=⟨(.pr U3 U1),1,U3,fun x=>zci x.1 x.2⟩
theorem zn5:zc Try.prog 65 (zwl):=okC zu (xTc zie xTn) xOn Try.f65 (LOn _) xLn (by rintro ⟨s0,k1⟩; kernel_rfl)
def zal (k:Nat):Nat→zT2→zT2→Int→(Option Bool)→Option Bool
 | 0,_,_,_,_=>none
 | n+1,a0,b1,i5,e_0=>(if (decide (i5<(List.length a0:Int))) then (if 0≤i5 then (a0[i5.toNat]?).bind fun y_1=>(if 0≤i5 then (b1[i5.toNat]?).bind fun y_2=>(if (!(decide (y_1=y_2))) then (if 0≤i5 then (a0[i5.toNat]?).bind fun y_3=>(if 0≤i5 then (b1[i5.toNat]?).bind fun y_4=>some (decide (y_3<y_4)) else none) else none) else zal k n a0 b1 (z7 (i5+1)) e_0) else none) else none) else e_0)
def zam (k:Nat) (a0:List Int) (b1:List Int):Option Bool:=(if (!(decide ((List.length a0:Int)=(List.length b1:Int)))) then some (decide ((List.length a0:Int)<(List.length b1:Int))) else zal k k a0 b1 0 (some false))
def zn6:Head:=⟨[],[],[]⟩
def zn7 (k:Nat):LD Bool:=⟨4,⟨[(0,V3),(1,V3),(5,V0)],[],[]⟩,[(0,zn6)],fun n x kx=>zal k n x.1.1 x.1.2.1 x.1.2.2.1 (kx 0 (zn6.fill ((),(),()))),k⟩
def zwm (k:Nat):FE:=⟨(.pr U3 U3),1,.bool,fun x=>zam k x.1 x.2⟩
theorem zn8 (k:Nat):zc Try.prog 66 (zwm k):=okC zu xTn xOn Try.f66 (orc (zn7 k) (LOn _)) (xLo (zn7 k) (by rintro n ⟨⟨a0,b1,i5,⟨⟩⟩,⟨⟩,⟨⟩⟩ kx; kernel_rfl) xLn) (by rintro ⟨a0,b1⟩; kernel_rfl)
def zan (k:Nat) (self:(zT2→zT7→Option zT1)):Nat→Int→zT2→zT7→(zT2→zT7→Option zT1)→Option zT1
 | 0,_,_,_,_=>none
 | n+1,k4,q_5,q_6,e_0=>(if (decide (k4<(List.length q_5:Int))) then (if (decide (1<(List.length q_5:Int))) then (zci q_5 k4).bind fun r_7=>(self r_7 q_6).bind fun y_8=>zan k self n (z7 (k4+1)) q_5 y_8.2.1.1 e_0 else e_0 q_5 q_6) else e_0 q_5 q_6)
def zao (k:Nat) (self:(zT2→zT7→Option zT1)):Nat→Int→zT2→zT7→(Int→zT2→zT7→Option zT1)→Option zT1
 | 0,_,_,_,_=>none
 | n+1,at5,q_11,q_12,e_2=>(if (decide (at5<(List.length q_12:Int))) then (if 0≤at5∧at5.toNat<List.length q_12 then (q_12[at5.toNat]?).bind fun y_13=>(zam k y_13 q_11).bind fun r_14=>(if r_14 then zao k self n (z7 (at5+1)) q_11 q_12 e_2 else e_2 at5 q_11 q_12) else none) else e_2 at5 q_11 q_12)
def z52 (k:Nat):Nat→zT2→zT7→Option zT1
 | 0,_,_=>none
 | n+1,q_1,q_2=>(zch k q_2 q_1).bind fun r_3=>(if (decide (0≤r_3)) then some (((),()),(q_2,()),((),())) else zan k (z52 k n) k 0 q_1 q_2 (fun q_9 q_10=>zao k (z52 k n) k 0 q_9 q_10 (fun at_15 q_16 q_17=>(if 0≤(0:Int)∧(0:Int)≤at_15∧at_15≤q_17.length then (if (([]:List Unit).length+(q_17.take at_15.toNat).length)*24≤LIM then (z5b q_16).bind fun r_18=>(if ((q_17.take at_15.toNat).length+[r_18].length)*24≤LIM then (if 0≤at_15∧at_15≤(q_17.length:Int)∧(q_17.length:Int)≤q_17.length then (if (((q_17.take at_15.toNat)++[r_18]).length+((q_17.drop at_15.toNat).take (q_17.length-at_15.toNat)).length)*24≤LIM then some (((),()),((((q_17.take at_15.toNat)++[r_18])++((q_17.drop at_15.toNat).take (q_17.length-at_15.toNat))),()),((),())) else none) else none) else none) else none) else none))))
def zn9 (k:Nat) (q_1:List Int) (q_2:List zT2):Option zT1:=z52 k k q_1 q_2
def zna:Head:=⟨[(0,(.bp 1000000000 [] 0)),(1,(.ref P0 []))],[(P0,2,U1,false),(P1,76,U8,false)],[(1000000000,67,(.st (.ref P1 [])))]⟩
def znb (k:Nat) (self:(zT2→zT7→Option zT1)):LD zT1:=⟨2,⟨[(0,(.bp 1000000000 [] 0)),(1,(.ref P0 [])),(4,V0)],[(P0,2,U1,false),(P1,76,U8,false)],[(1000000000,67,(.st (.ref P1 [])))]⟩,[(0,zna)],fun n x kx=>zan k self n x.1.2.2.1 x.2.1.1 x.2.1.2.1 (fun q_9 q_10=>kx 0 (zna.fill (((),(),()),(q_9,q_10,()),((),())))),k⟩
def znc:Head:=⟨[(0,(.bp 1000000000 [] 0)),(1,(.ref P0 [])),(5,V0)],[(P0,2,U1,false),(P1,76,U8,false)],[(1000000000,67,(.st (.ref P1 [])))]⟩
def znd (k:Nat) (self:(zT2→zT7→Option zT1)):LD zT1:=⟨6,⟨[(0,(.bp 1000000000 [] 0)),(1,(.ref P0 [])),(5,V0)],[(P0,2,U1,false),(P1,76,U8,false)],[(1000000000,67,(.st (.ref P1 [])))]⟩,[(2,znc)],fun n x kx=>zao k self n x.1.2.2.1 x.2.1.1 x.2.1.2.1 (fun at5 q_15 q_16=>kx 2 (znc.fill (((),(),at5,()),(q_15,q_16,()),((),())))),k⟩
def zif (k n:Nat):OC:=⟨⟨[(0,(.bp 1000000000 [] 0)),(1,(.ref 1000000000 []))],[(1000000000,2,U1,false),(1000000001,76,U8,false)],[(1000000000,67,(.st (.ref 1000000001 [])))]⟩,⟨[(0,(.tup .nl))],[(P0,76,U8,false)],[(1000000000,67,(.st (.ref P0 [])))]⟩,fun x=>z52 k n x.2.1.1 x.2.1.2.1,true⟩
def zwn (k:Nat):OC:=zif k k
theorem zne (k:Nat):∀ sn:Nat,z11 Try.prog tiR 55 (zif k sn)
 | 0=>⟨by kernel_rfl,fun _ _ x y h=>by cases (show (none:Option (zif k 0).ho.T)=some y from h)⟩
 | sn+1=>okO z8s (xTc (zn4 k) (xTc zn5 (xTc (zn8 k) (xTc zie xTn)))) (xOc 26 (zne k sn) xOn) Try.f55 (orc (znb k (z52 k sn)) (orc (znd k (z52 k sn)) (LOn _))) (fun _ _=>xLo (znb k (z52 k sn)) (by rintro n ⟨⟨⟨⟩,⟨⟩,k4,⟨⟩⟩,⟨q_5,q_6,⟨⟩⟩,⟨⟨⟩,⟨⟩⟩⟩ kx; kernel_rfl) (xLo (znd k (z52 k sn)) (by rintro n ⟨⟨⟨⟩,⟨⟩,at5,⟨⟩⟩,⟨q_11,q_12,⟨⟩⟩,⟨⟨⟩,⟨⟩⟩⟩ kx; kernel_rfl) xLn)) (by rintro _ _ ⟨⟨⟨⟩,⟨⟩,⟨⟩⟩,⟨q_1,q_2,⟨⟩⟩,⟨⟨⟩,⟨⟩⟩⟩; kernel_rfl)
theorem zwo (k:Nat):z11 Try.prog tiR 55 (zwn k):=zne k k
def zap (k:Nat):Nat→zT2→Int→zT7→(zT2→zT7→Option zT1)→Option zT1
 | 0,_,_,_,_=>none
 | n+1,s1,k4,q_4,e_0=>(if (decide (k4<(List.length s1:Int))) then (if (decide (1<(List.length s1:Int))) then (zci s1 k4).bind fun r_5=>(zn9 k r_5 q_4).bind fun y_6=>zap k n s1 (z7 (k4+1)) y_6.2.1.1 e_0 else e_0 s1 q_4) else e_0 s1 q_4)
def zaq (k:Nat):Nat→zT2→Int→zT7→(zT2→Int→zT7→Option zT1)→Option zT1
 | 0,_,_,_,_=>none
 | n+1,s1,at5,q_9,e_2=>(if (decide (at5<(List.length q_9:Int))) then (if 0≤at5∧at5.toNat<List.length q_9 then (q_9[at5.toNat]?).bind fun y_10=>(zam k y_10 s1).bind fun r_11=>(if r_11 then zaq k n s1 (z7 (at5+1)) q_9 e_2 else e_2 s1 at5 q_9) else none) else e_2 s1 at5 q_9)
def zfc (k:Nat) (s1:List Int) (q_1:List zT2):Option zT1:=(zch k q_1 s1).bind fun r_2=>(if (decide (0≤r_2)) then some (((),()),(q_1,()),((),())) else zap k k s1 0 q_1 (fun s_7 q_8=>zaq k k s_7 0 q_8 (fun s_12 at_13 q_14=>(if 0≤(0:Int)∧(0:Int)≤at_13∧at_13≤q_14.length then (if (([]:List Unit).length+(q_14.take at_13.toNat).length)*24≤LIM then (z5b s_12).bind fun r_15=>(if ((q_14.take at_13.toNat).length+[r_15].length)*24≤LIM then (if 0≤at_13∧at_13≤(q_14.length:Int)∧(q_14.length:Int)≤q_14.length then (if (((q_14.take at_13.toNat)++[r_15]).length+((q_14.drop at_13.toNat).take (q_14.length-at_13.toNat)).length)*24≤LIM then some (((),()),((((q_14.take at_13.toNat)++[r_15])++((q_14.drop at_13.toNat).take (q_14.length-at_13.toNat))),()),((),())) else none) else none) else none) else none) else none))))
def znf:Head:=⟨[(0,(.bp 1000000000 [] 0)),(1,V3)],[(P0,76,U8,false)],[(1000000000,67,(.st (.ref P0 [])))]⟩
def zng (k:Nat):LD zT1:=⟨2,⟨[(0,(.bp 1000000000 [] 0)),(1,V3),(4,V0)],[(P0,76,U8,false)],[(1000000000,67,(.st (.ref P0 [])))]⟩,[(0,znf)],fun n x kx=>zap k n x.1.2.1 x.1.2.2.1 x.2.1.1 (fun s1 q_7=>kx 0 (znf.fill (((),s1,()),(q_7,()),((),())))),k⟩
def znh:Head:=⟨[(0,(.bp 1000000000 [] 0)),(1,V3),(5,V0)],[(P0,76,U8,false)],[(1000000000,67,(.st (.ref P0 [])))]⟩
def zni (k:Nat):LD zT1:=⟨6,⟨[(0,(.bp 1000000000 [] 0)),(1,V3),(5,V0)],[(P0,76,U8,false)],[(1000000000,67,(.st (.ref P0 [])))]⟩,[(2,znh)],fun n x kx=>zaq k n x.1.2.1 x.1.2.2.1 x.2.1.1 (fun s1 at5 q_12=>kx 2 (znh.fill (((),s1,at5,()),(q_12,()),((),())))),k⟩
def zwp (k:Nat):OC:=⟨⟨[(0,(.bp 1000000000 [] 0)),(1,V3)],[(1000000000,76,U8,false)],[(1000000000,67,(.st (.ref 1000000000 [])))]⟩,⟨[(0,(.tup .nl))],[(P0,76,U8,false)],[(1000000000,67,(.st (.ref P0 [])))]⟩,fun x=>zfc k x.1.2.1 x.2.1.1,true⟩
theorem zwq (k:Nat):z11 Try.prog tiR 55 (zwp k):=okO z8s (xTc (zn4 k) (xTc zn5 (xTc (zn8 k) (xTc zie xTn)))) (xOc 26 (zwo k) xOn) Try.f55 (orc (zng k) (orc (zni k) (LOn _))) (fun _ _=>xLo (zng k) (by rintro n ⟨⟨⟨⟩,s1,k4,⟨⟩⟩,⟨q_4,⟨⟩⟩,⟨⟨⟩,⟨⟩⟩⟩ kx; kernel_rfl) (xLo (zni k) (by rintro n ⟨⟨⟨⟩,s1,at5,⟨⟩⟩,⟨q_9,⟨⟩⟩,⟨⟨⟩,⟨⟩⟩⟩ kx; kernel_rfl) xLn)) (by rintro _ _ ⟨⟨⟨⟩,s1,⟨⟩⟩,⟨q_1,⟨⟩⟩,⟨⟨⟩,⟨⟩⟩⟩; kernel_rfl)
def zar (k:Nat):Nat→Int→zT7→zT7→zT7→(zT7→zT7→zT7→Option zT6)→Option zT6
 | 0,_,_,_,_,_=>none
 | n+1,i4,q_2,q_3,q_4,e_0=>(if (decide (i4<(List.length q_2:Int))) then (if 0≤i4∧i4.toNat<List.length q_2 then (q_2[i4.toNat]?).bind fun y_5=>(zfc k y_5 q_4).bind fun y_6=>zar k n (z7 (i4+1)) q_2 q_3 y_6.2.1.1 e_0 else none) else e_0 q_2 q_3 q_4)
def z7w (k:Nat) (q_1:List zT2):Option zT6:=zar k k 0 q_1 [] [] (fun q_7 q_8 q_9=>some (((),()),(q_7,q_9,()),()))
def znj:Head:=⟨[(2,(.bp 2 [] 0)),(3,(.bp 3 [] 0))],[(1000000000,76,U8,false),(P1,76,U8,false),(P2,76,U8,false)],[(2,67,(.st (.ref P1 []))),(3,67,(.st (.ref P2 [])))]⟩
def znk (k:Nat):LD zT6:=⟨3,⟨[(0,(.ref 1000000000 [])),(2,(.bp 2 [] 0)),(3,(.bp 3 [] 0)),(4,V0)],[(1000000000,76,U8,false),(P1,76,U8,false),(P2,76,U8,false)],[(2,67,(.st (.ref P1 []))),(3,67,(.st (.ref P2 [])))]⟩,[(0,znj)],fun n x kx=>zar k n x.1.2.2.2.1 x.2.1.1 x.2.1.2.1 x.2.1.2.2.1 (fun q_7 q_8 q_9=>kx 0 (znj.fill (((),(),()),(q_7,q_8,q_9,()),((),(),())))),k⟩
def zwr (k:Nat):OC:=⟨⟨[(0,(.ref 1000000000 []))],[(1000000000,76,U8,false)],[]⟩,⟨[(0,(.st (.ref P1 [])))],[(1000000000,76,U8,false),(P1,76,U8,false)],[]⟩,fun x=>z7w k x.2.1.1,true⟩
theorem zig (k:Nat):z11 Try.prog tiR 46 (zwr k):=okO z8s xTn (xOc 17 (zwq k) xOn) Try.f46 (orc (znk k) (LOn _)) (fun _ _=>xLo (znk k) (by rintro n ⟨⟨⟨⟩,⟨⟩,⟨⟩,i4,⟨⟩⟩,⟨q_2,q_3,q_4,⟨⟩⟩,⟨⟨⟩,⟨⟩,⟨⟩⟩⟩ kx; kernel_rfl) xLn) (by rintro _ _ ⟨⟨⟨⟩,⟨⟩⟩,⟨q_1,⟨⟩⟩,⟨⟩⟩; kernel_rfl)
def z6x (k:Nat):Nat→zT2→Int→Bool→Int→zT2→(Int→Bool→zT2→Option zT2)→Option zT2
 | 0,_,_,_,_,_,_=>none
 | n+1,list0,n1,done6,i7,q_1,e_0=>(if (decide (i7<(List.length list0:Int))) then (if (!done6) then (if 0≤i7 then (list0[i7.toNat]?).bind fun y_2=>(if (decide (n1≤y_2)) then (if 0≤i7 then (list0[i7.toNat]?).bind fun y_3=>(if (decide (n1<y_3)) then (if (q_1.length+[n1].length)*8≤LIM then (if 0≤i7 then (list0[i7.toNat]?).bind fun y_4=>(if ((q_1++[n1]).length+[y_4].length)*8≤LIM then z6x k n list0 n1 true (z7 (i7+1)) ((q_1++[n1])++[y_4]) e_0 else none) else none) else none) else (if 0≤i7 then (list0[i7.toNat]?).bind fun y_5=>(if (q_1.length+[y_5].length)*8≤LIM then z6x k n list0 n1 true (z7 (i7+1)) (q_1++[y_5]) e_0 else none) else none)) else none) else (if 0≤i7 then (list0[i7.toNat]?).bind fun y_6=>(if (q_1.length+[y_6].length)*8≤LIM then z6x k n list0 n1 done6 (z7 (i7+1)) (q_1++[y_6]) e_0 else none) else none)) else none) else (if 0≤i7 then (list0[i7.toNat]?).bind fun y_7=>(if (q_1.length+[y_7].length)*8≤LIM then z6x k n list0 n1 done6 (z7 (i7+1)) (q_1++[y_7]) e_0 else none) else none)) else e_0 n1 done6 q_1)
def zfd (k:Nat) (list0:List Int) (n1:Int):Option zT2:=z6x k k list0 n1 false 0 [] (fun n_8 done_9 q_10=>(if (!done_9) then (if (q_10.length+[n_8].length)*8≤LIM then some (q_10++[n_8]) else none) else some q_10))
def znl:Head:=⟨[(1,V0),(5,(.ref P0 [])),(6,V6)],[(P0,2,U1,false)],[]⟩
def znm (k:Nat):LD zT2:=⟨4,⟨[(0,V3),(1,V0),(5,(.ref P0 [])),(6,V6),(7,V0)],[(P0,2,U1,false)],[]⟩,[(0,znl)],fun n x kx=>z6x k n x.1.1 x.1.2.1 x.1.2.2.2.1 x.1.2.2.2.2.1 x.2.1.1 (fun n1 done6 q_8=>kx 0 (znl.fill ((n1,(),done6,()),(q_8,()),()))),k⟩
def zws (k:Nat):FE:=⟨(.pr U3 U1),1,U3,fun x=>zfd k x.1 x.2⟩
theorem zwt (k:Nat):zc Try.prog 56 (zws k):=okC zu xTn xOn Try.f56 (orc (znm k) (LOn _)) (xLo (znm k) (by rintro n ⟨⟨list0,n1,⟨⟩,done6,i7,⟨⟩⟩,⟨q_1,⟨⟩⟩,⟨⟩⟩ kx; kernel_rfl) xLn) (by rintro ⟨list0,n1⟩; kernel_rfl)
def zas (k:Nat):Nat→Int→Int→zT2→zT2→Int→Int→(zT2→zT2→Int→Int→Option zT8)→Option zT8
 | 0,_,_,_,_,_,_,_=>none
 | n+1,vertices1,k8,q_2,v_1000000000a,v_1000000000ba,v_1000000000bb,e_0=>(if (decide (0<k8)) then (z2e vertices1 v_1000000000a v_1000000000ba v_1000000000bb).bind fun y_3=>(zfd k q_2 y_3.1.1).bind fun r_4=>zas k n vertices1 (z7 (k8-1)) r_4 y_3.2.2.1.1 y_3.2.2.1.2.1 y_3.2.2.1.2.2 e_0 else e_0 q_2 v_1000000000a v_1000000000ba v_1000000000bb)
def zfe (k:Nat) (vertices1:Int) (most2:Int) (v_1000000000a:List Int) (v_1000000000ba:Int) (v_1000000000bb:Int):Option zT8:=(z2e most2 v_1000000000a v_1000000000ba v_1000000000bb).bind fun y_1=>zas k k vertices1 (z7 (1+y_1.1.1)) [] y_1.2.2.1.1 y_1.2.2.1.2.1 y_1.2.2.1.2.2 (fun q_5 v_1000000000a_6 v_1000000000ba_7 v_1000000000bb_8=>some (((),()),(q_5,()),((v_1000000000a_6,(v_1000000000ba_7,v_1000000000bb_8)),())))
def znn:Head:=⟨[(7,(.ref P0 []))],[(P0,2,U1,false)],[(1000000000,50,(.st (.pr V1 (.pr V0 V2))))]⟩
def zno (k:Nat):LD zT8:=⟨3,⟨[(0,(.bp 1000000000 [] 0)),(1,V0),(7,(.ref P0 [])),(8,V0)],[(P0,2,U1,false)],[(1000000000,50,(.st (.pr V1 (.pr V0 V2))))]⟩,[(0,znn)],fun n x kx=>zas k n x.1.2.1 x.1.2.2.2.1 x.2.1.1 x.2.2.1.1 x.2.2.1.2.1 x.2.2.1.2.2 (fun q_5 v_1000000000a v_1000000000ba v_1000000000bb=>kx 0 (znn.fill (((),()),(q_5,()),((v_1000000000a,(v_1000000000ba,v_1000000000bb)),())))),k⟩
def zwu (k:Nat):OC:=⟨⟨[(0,(.bp 1000000000 [] 0)),(1,V0),(2,V0)],[],[(1000000000,50,(.st (.pr V1 (.pr V0 V2))))]⟩,⟨[(0,(.ref P0 []))],[(P0,2,U1,false)],[(1000000000,50,(.st (.pr V1 (.pr V0 V2))))]⟩,fun x=>zfe k x.1.2.1 x.1.2.2.1 x.2.2.1.1 x.2.2.1.2.1 x.2.2.1.2.2,false⟩
theorem zwv (k:Nat):z11 Try.prog ti 47 (zwu k):=okO zu (xTc (zwt k) xTn) (xOc 12 z64 (xOc 21 z64 xOn)) Try.f47 (orc (zno k) (LOn _)) (fun _ _=>xLo (zno k) (by rintro n ⟨⟨⟨⟩,vertices1,⟨⟩,k8,⟨⟩⟩,⟨q_2,⟨⟩⟩,⟨⟨v_1000000000a,⟨v_1000000000ba,v_1000000000bb⟩⟩,⟨⟩⟩⟩ kx; kernel_rfl) xLn) (by rintro _ _ ⟨⟨⟨⟩,vertices1,most2,⟨⟩⟩,⟨⟩,⟨⟨v_1000000000a,⟨v_1000000000ba,v_1000000000bb⟩⟩,⟨⟩⟩⟩; kernel_rfl)
def zat (k:Nat):Nat→Int→Int→zT7→zT7→zT2→Int→Int→(zT7→zT7→zT2→Int→Int→Option zT9)→Option zT9
 | 0,_,_,_,_,_,_,_,_=>none
 | n+1,n4,k5,q_7,q_8,v_1000000000a,v_1000000000ba,v_1000000000bb,e_1=>(if (decide (0<k5)) then (zfe k n4 3 v_1000000000a v_1000000000ba v_1000000000bb).bind fun y_9=>(if (q_7.length+[y_9.2.1.1].length)*24≤LIM then zat k n n4 (z7 (k5-1)) (q_7++[y_9.2.1.1]) q_8 y_9.2.2.1.1 y_9.2.2.1.2.1 y_9.2.2.1.2.2 e_1 else none) else e_1 q_7 q_8 v_1000000000a v_1000000000ba v_1000000000bb)
def zau (k:Nat) (v_1000000000a:List Int) (v_1000000000ba:Int) (v_1000000000bb:Int):Option zT9:=(z2e 6 v_1000000000a v_1000000000ba v_1000000000bb).bind fun y_1=>(if (decide (y_1.1.1=0)) then (z7w k [[0,1],[1,2],[0,2],[2,3]]).bind fun y_2=>some (((),()),(y_2.2.1.2.1,()),((y_1.2.2.1.1,(y_1.2.2.1.2.1,y_1.2.2.1.2.2)),())) else (if (decide (y_1.1.1=1)) then (z7w k [[0,1,2],[0,1,3],[0,2,3],[1,2,3]]).bind fun y_4=>some (((),()),(y_4.2.1.2.1,()),((y_1.2.2.1.1,(y_1.2.2.1.2.1,y_1.2.2.1.2.2)),())) else (z2e 4 y_1.2.2.1.1 y_1.2.2.1.2.1 y_1.2.2.1.2.2).bind fun y_5=>(z2e 6 y_5.2.2.1.1 y_5.2.2.1.2.1 y_5.2.2.1.2.2).bind fun y_6=>zat k k (z7 (3+y_5.1.1)) y_6.1.1 [] [] y_6.2.2.1.1 y_6.2.2.1.2.1 y_6.2.2.1.2.2 (fun q_10 q_11 v_1000000000a_12 v_1000000000ba_13 v_1000000000bb_14=>(z2v 6 v_1000000000a_12 v_1000000000ba_13 v_1000000000bb_14).bind fun y_15=>(if y_15.1.1 then (if (q_10.length+[[0,1,2,3]].length)*24≤LIM then (z7w k (q_10++[[0,1,2,3]])).bind fun y_16=>some (((),()),(y_16.2.1.2.1,()),((y_15.2.2.1.1,(y_15.2.2.1.2.1,y_15.2.2.1.2.2)),())) else none) else (z7w k q_10).bind fun y_17=>some (((),()),(y_17.2.1.2.1,()),((y_15.2.2.1.1,(y_15.2.2.1.2.1,y_15.2.2.1.2.2)),()))))))
def znp:Head:=⟨[(0,(.bp 1000000000 [] 0)),(2,(.bp 2 [] 0)),(3,(.ref P0 []))],[(P0,76,U8,false),(P1,76,U8,false)],[(2,67,(.st (.ref P1 []))),(1000000000,50,(.st (.pr V1 (.pr V0 V2))))]⟩
def znq (k:Nat):LD zT9:=⟨9,⟨[(0,(.bp 1000000000 [] 0)),(2,(.bp 2 [] 0)),(3,(.ref P0 [])),(4,V0),(5,V0)],[(P0,76,U8,false),(P1,76,U8,false)],[(2,67,(.st (.ref P1 []))),(1000000000,50,(.st (.pr V1 (.pr V0 V2))))]⟩,[(1,znp)],fun n x kx=>zat k n x.1.2.2.2.1 x.1.2.2.2.2.1 x.2.1.1 x.2.1.2.1 x.2.2.2.1.1 x.2.2.2.1.2.1 x.2.2.2.1.2.2 (fun q_10 q_11 v_1000000000a v_1000000000ba v_1000000000bb=>kx 1 (znp.fill (((),(),(),()),(q_10,q_11,()),((),(v_1000000000a,(v_1000000000ba,v_1000000000bb)),())))),k⟩
def zww (k:Nat):OC:=⟨⟨[(0,(.bp 1000000000 [] 0))],[],[(1000000000,50,(.st (.pr V1 (.pr V0 V2))))]⟩,⟨[(0,(.st (.ref P0 [])))],[(P0,76,U8,false)],[(1000000000,50,(.st (.pr V1 (.pr V0 V2))))]⟩,fun x=>zau k x.2.2.1.1 x.2.2.1.2.1 x.2.2.1.2.2,true⟩
theorem zwx (k:Nat):z11 Try.prog tiR 38 (zww k):=okO z8s xTn (xOc 7 (z64.to z4q) (xOc 15 (zig k) (xOc 23 (zig k) (xOc 26 (z64.to z4q) (xOc 29 (z64.to z4q) (xOc 37 ((zwv k).to z4q) (xOc 41 (zfa.to z4q) (xOc 47 (zig k) xOn)))))))) Try.f38 (orc (znq k) (LOn _)) (fun _ _=>xLo (znq k) (by rintro n ⟨⟨⟨⟩,⟨⟩,⟨⟩,n4,k5,⟨⟩⟩,⟨q_7,q_8,⟨⟩⟩,⟨⟨⟩,⟨v_1000000000a,⟨v_1000000000ba,v_1000000000bb⟩⟩,⟨⟩⟩⟩ kx; kernel_rfl) xLn) (by rintro _ _ ⟨⟨⟨⟩,⟨⟩⟩,⟨⟩,⟨⟨v_1000000000a,⟨v_1000000000ba,v_1000000000bb⟩⟩,⟨⟩⟩⟩; kernel_rfl)
end
end Go.Proofs.Ytogbhjffiglbjaa.Ev
