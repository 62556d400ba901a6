/- Functions of the program, as plain ones. No conditions. -/
import Derived.Test.YtchfjdcfhlhgcaaGreatDoorG0
import Derived.KernelRfl
set_option linter.unusedVariables false
set_option maxRecDepth 100000
namespace Go.Proofs.YtchfjdcfhlhgcaaGreatDoor.Ev
open Go.RowKit
noncomputable section
def z6s (a0:List Int) (left1:Int):Option Int:=(if (decide ((z6 (left1-(List.length a0:Int)))<0)) then some (-1) else some (z6 (left1-(List.length a0:Int))))
def z1c9:FE:=⟨(.pr U5 U0),1,U0,fun x=>z6s x.1 x.2⟩
theorem zkj:z8 Tryz.prog 14 (z1c9):=okC zb xTn xOn Tryz.f14 (LOn _) xLn (by rintro ⟨a0,left1⟩; kernel_rfl)
def ze6 (k:Nat):Nat→zT8→Int→Int→(Int→Option Int)→Option Int
 | 0,_,_,_,_=>none
 | n+1,a0,left1,i5,e_0=>(if (decide (i5<(List.length a0:Int))) then (if 0≤i5 then (a0[i5.toNat]?).bind fun y_1=>(z6s y_1 left1).bind fun r_2=>(if (decide (r_2<0)) then some (-1) else ze6 k n a0 r_2 (z6 (i5+1)) e_0) else none) else e_0 left1)
def zkk (k:Nat) (a0:List zT1) (left1:Int):Option Int:=(if (decide ((z6 (left1-(List.length a0:Int)))<0)) then some (-1) else ze6 k k a0 (z6 (left1-(List.length a0:Int))) 0 (fun left_3=>some left_3))
def zwq:Head:=⟨[(1,V0)],[],[]⟩
def zwr (k:Nat):LD Int:=⟨5,⟨[(0,V3),(1,V0),(5,V0)],[],[]⟩,[(0,zwq)],fun n x kx=>ze6 k n x.1.1 x.1.2.1 x.1.2.2.1 (fun left1=>kx 0 (zwq.fill ((left1,()),(),()))),k⟩
def z1ca (k:Nat):FE:=⟨(.pr U15 U0),1,U0,fun x=>zkk k x.1 x.2⟩
theorem z1cb (k:Nat):z8 Tryz.prog 60 (z1ca k):=okC zb (xTc zkj xTn) xOn Tryz.f60 (orc (zwr k) (LOn _)) (xLo (zwr k) (by rintro n ⟨⟨a0,left1,i5,⟨⟩⟩,⟨⟩,⟨⟩⟩ kx; kernel_rfl) xLn) (by rintro ⟨a0,left1⟩; kernel_rfl)
def zkl (k:Nat) (a0:List zT1) (left1:Int):Option Int:=(zkk k a0 left1).bind fun r_1=>(if (decide (r_1<0)) then some (-1) else some r_1)
def z1cc (k:Nat):FE:=⟨(.pr U7 U0),1,U0,fun x=>zkl k x.1 x.2⟩
theorem z1cd (k:Nat):z8 Tryz.prog 34 (z1cc k):=okC zb (xTc (z1cb k) xTn) xOn Tryz.f34 (LOn _) xLn (by rintro ⟨a0,left1⟩; kernel_rfl)
def zkm (a0:Int×Int×Int×List Int) (left1:Int):Option Int:=(z6s a0.2.2.2 left1).bind fun r_1=>(if (decide (r_1<0)) then some (-1) else some r_1)
def z1ce:FE:=⟨(.pr U1 U0),1,U0,fun x=>zkm x.1 x.2⟩
theorem z1cf:z8 Tryz.prog 61 (z1ce):=okC zb (xTc zkj xTn) xOn Tryz.f61 (LOn _) xLn (by rintro ⟨a0,left1⟩; kernel_rfl)
def ze7 (k:Nat):Nat→zT22→Int→Int→(Int→Option Int)→Option Int
 | 0,_,_,_,_=>none
 | n+1,a0,left1,i5,e_0=>(if (decide (i5<(List.length a0:Int))) then (if 0≤i5 then (a0[i5.toNat]?).bind fun y_1=>(zkm y_1 left1).bind fun r_2=>(if (decide (r_2<0)) then some (-1) else ze7 k n a0 r_2 (z6 (i5+1)) e_0) else none) else e_0 left1)
def zkn (k:Nat) (a0:List zT0) (left1:Int):Option Int:=(if (decide ((z6 (left1-(List.length a0:Int)))<0)) then some (-1) else ze7 k k a0 (z6 (left1-(List.length a0:Int))) 0 (fun left_3=>some left_3))
def zws:Head:=⟨[(1,V0)],[],[]⟩
def zwt (k:Nat):LD Int:=⟨5,⟨[(0,(.val (.sl 112 U1))),(1,V0),(5,V0)],[],[]⟩,[(0,zws)],fun n x kx=>ze7 k n x.1.1 x.1.2.1 x.1.2.2.1 (fun left1=>kx 0 (zws.fill ((left1,()),(),()))),k⟩
def z1cg (k:Nat):FE:=⟨(.pr (.sl 112 U1) U0),1,U0,fun x=>zkn k x.1 x.2⟩
theorem z1ch (k:Nat):z8 Tryz.prog 35 (z1cg k):=okC zb (xTc z1cf xTn) xOn Tryz.f35 (orc (zwt k) (LOn _)) (xLo (zwt k) (by rintro n ⟨⟨a0,left1,i5,⟨⟩⟩,⟨⟩,⟨⟩⟩ kx; kernel_rfl) xLn) (by rintro ⟨a0,left1⟩; kernel_rfl)
def zko (k:Nat) (a0:List zT1×Int×List Int×List zT0) (left1:Int):Option Int:=(zkl k a0.1 left1).bind fun r_1=>(if (decide (r_1<0)) then some (-1) else (z6s a0.2.2.1 r_1).bind fun r_2=>(if (decide (r_2<0)) then some (-1) else (zkn k a0.2.2.2 r_2).bind fun r_3=>(if (decide (r_3<0)) then some (-1) else some r_3)))
def z1ci (k:Nat):FE:=⟨(.pr U12 U0),1,U0,fun x=>zko k x.1 x.2⟩
theorem z1cj (k:Nat):z8 Tryz.prog 13 (z1ci k):=okC zb (xTc (z1cd k) (xTc zkj (xTc (z1ch k) xTn))) xOn Tryz.f13 (LOn _) xLn (by rintro ⟨a0,left1⟩; kernel_rfl)
def zkp (a0:List zT2) (left1:Int):Option Int:=(if (decide ((z6 (left1-(List.length a0:Int)))<0)) then some (-1) else some (z6 (left1-(List.length a0:Int))))
def z1ck:FE:=⟨(.pr (.sl 143 U4) U0),1,U0,fun x=>zkp x.1 x.2⟩
theorem z1cl:z8 Tryz.prog 36 (z1ck):=okC zb xTn xOn Tryz.f36 (LOn _) xLn (by rintro ⟨a0,left1⟩; kernel_rfl)
def zkq (a0:Int×Int×Int×List zT2) (left1:Int):Option Int:=(zkp a0.2.2.2 left1).bind fun r_1=>(if (decide (r_1<0)) then some (-1) else some r_1)
def z1cm:FE:=⟨(.pr U14 U0),1,U0,fun x=>zkq x.1 x.2⟩
theorem z1cn:z8 Tryz.prog 15 (z1cm):=okC zb (xTc z1cl xTn) xOn Tryz.f15 (LOn _) xLn (by rintro ⟨a0,left1⟩; kernel_rfl)
def zkr (a0:List zT2) (left1:Int):Option Int:=(if (decide ((z6 (left1-(List.length a0:Int)))<0)) then some (-1) else some (z6 (left1-(List.length a0:Int))))
def z1co:FE:=⟨(.pr (.sl 145 U4) U0),1,U0,fun x=>zkr x.1 x.2⟩
theorem z1cp:z8 Tryz.prog 37 (z1co):=okC zb xTn xOn Tryz.f37 (LOn _) xLn (by rintro ⟨a0,left1⟩; kernel_rfl)
def zks (a0:Int×Int×List zT2) (left1:Int):Option Int:=(zkr a0.2.2 left1).bind fun r_1=>(if (decide (r_1<0)) then some (-1) else some r_1)
def z1cq:FE:=⟨(.pr U18 U0),1,U0,fun x=>zks x.1 x.2⟩
theorem z1cr:z8 Tryz.prog 16 (z1cq):=okC zb (xTc z1cp xTn) xOn Tryz.f16 (LOn _) xLn (by rintro ⟨a0,left1⟩; kernel_rfl)
def zkt (k:Nat) (a0:zT3×Int×List Int×List Int×zT7×List Int×List Int×zT10×List Int) (left1:Int):Option Int:=(zko k a0.1 left1).bind fun r_1=>(if (decide (r_1<0)) then some (-1) else (z6s a0.2.2.1 r_1).bind fun r_2=>(if (decide (r_2<0)) then some (-1) else (z6s a0.2.2.2.1 r_2).bind fun r_3=>(if (decide (r_3<0)) then some (-1) else (zkq a0.2.2.2.2.1 r_3).bind fun r_4=>(if (decide (r_4<0)) then some (-1) else (z6s a0.2.2.2.2.2.1 r_4).bind fun r_5=>(if (decide (r_5<0)) then some (-1) else (z6s a0.2.2.2.2.2.2.1 r_5).bind fun r_6=>(if (decide (r_6<0)) then some (-1) else (zks a0.2.2.2.2.2.2.2.1 r_6).bind fun r_7=>(if (decide (r_7<0)) then some (-1) else (z6s a0.2.2.2.2.2.2.2.2 r_7).bind fun r_8=>(if (decide (r_8<0)) then some (-1) else some r_8))))))))
def z1cs (k:Nat):FE:=⟨(.pr U31 U0),1,U0,fun x=>zkt k x.1 x.2⟩
theorem z1ct (k:Nat):z8 Tryz.prog 4 (z1cs k):=okC zb (xTc (z1cj k) (xTc zkj (xTc z1cn (xTc z1cr xTn)))) xOn Tryz.f4 (LOn _) xLn (by rintro ⟨a0,left1⟩; kernel_rfl)
def ze8 (k:Nat):Nat→zT1→Int→zT1→(zT1→Option zT1)→Option zT1
 | 0,_,_,_,_=>none
 | n+1,a0,i4,q_1,e_0=>(if (decide (i4<(List.length a0:Int))) then (if 0≤i4 then (a0[i4.toNat]?).bind fun y_2=>(if 0≤i4∧i4.toNat<List.length q_1 then (q_1[i4.toNat]?).bind fun y_3=>(q_1[i4.toNat]?).bind fun y_4=>ze8 k n a0 (z6 (i4+1)) (q_1.set i4.toNat y_2) e_0 else none) else none) else e_0 q_1)
def z6t (k:Nat) (a0:List Int):Option zT1:=(if 0≤(List.length a0:Int)∧(List.length a0:Int)≤(List.length a0:Int)∧(List.length a0:Int)*8≤LIM then ze8 k k a0 0 (List.replicate (List.length a0) 0) (fun q_5=>some q_5) else none)
def zwu:Head:=⟨[(3,(.ref P0 []))],[(P0,2,U0,false)],[]⟩
def zwv (k:Nat):LD zT1:=⟨3,⟨[(0,V1),(3,(.ref P0 [])),(4,V0)],[(P0,2,U0,false)],[]⟩,[(0,zwu)],fun n x kx=>ze8 k n x.1.1 x.1.2.2.1 x.2.1.1 (fun q_5=>kx 0 (zwu.fill (((),()),(q_5,()),()))),k⟩
def z1cu (k:Nat):FE:=⟨U5,1,U5,fun x=>z6t k x⟩
theorem zku (k:Nat):z8 Tryz.prog 19 (z1cu k):=okC zb xTn xOn Tryz.f19 (orc (zwv k) (LOn _)) (xLo (zwv k) (by rintro n ⟨⟨a0,⟨⟩,i4,⟨⟩⟩,⟨q_1,⟨⟩⟩,⟨⟩⟩ kx; kernel_rfl) xLn) (by rintro a0; kernel_rfl)
def ze9 (k:Nat):Nat→zT8→Int→zT8→(zT8→Option zT8)→Option zT8
 | 0,_,_,_,_=>none
 | n+1,a0,i4,q_1,e_0=>(if (decide (i4<(List.length a0:Int))) then (if 0≤i4 then (a0[i4.toNat]?).bind fun y_2=>(z6t k y_2).bind fun r_3=>(if 0≤i4∧i4.toNat<List.length q_1 then (q_1[i4.toNat]?).bind fun y_4=>(q_1[i4.toNat]?).bind fun y_5=>ze9 k n a0 (z6 (i4+1)) (q_1.set i4.toNat r_3) e_0 else none) else none) else e_0 q_1)
def zkv (k:Nat) (a0:List zT1):Option zT8:=(if 0≤(List.length a0:Int)∧(List.length a0:Int)≤(List.length a0:Int)∧(List.length a0:Int)*24≤LIM then ze9 k k a0 0 (List.replicate (List.length a0) ([]:List Int)) (fun q_6=>some q_6) else none)
def zww:Head:=⟨[(3,(.ref P0 []))],[(P0,25,U5,false)],[]⟩
def zwx (k:Nat):LD zT8:=⟨3,⟨[(0,V3),(3,(.ref P0 [])),(4,V0)],[(P0,25,U5,false)],[]⟩,[(0,zww)],fun n x kx=>ze9 k n x.1.1 x.1.2.2.1 x.2.1.1 (fun q_6=>kx 0 (zww.fill (((),()),(q_6,()),()))),k⟩
def z1cv (k:Nat):FE:=⟨U15,1,U15,fun x=>zkv k x⟩
theorem z1cw (k:Nat):z8 Tryz.prog 81 (z1cv k):=okC zb (xTc (zku k) xTn) xOn Tryz.f81 (orc (zwx k) (LOn _)) (xLo (zwx k) (by rintro n ⟨⟨a0,⟨⟩,i4,⟨⟩⟩,⟨q_1,⟨⟩⟩,⟨⟩⟩ kx; kernel_rfl) xLn) (by rintro a0; kernel_rfl)
def zkw (k:Nat) (a0:List zT1):Option zT8:=(zkv k a0).bind fun r_1=>some r_1
def z1cx (k:Nat):FE:=⟨U7,1,U7,fun x=>zkw k x⟩
theorem z1cy (k:Nat):z8 Tryz.prog 43 (z1cx k):=okC zb (xTc (z1cw k) xTn) xOn Tryz.f43 (LOn _) xLn (by rintro a0; kernel_rfl)
def zkx (k:Nat) (a0:Int×Int×Int×List Int):Option zT0:=(z6t k a0.2.2.2).bind fun r_1=>some (a0.1,(a0.2.1,(a0.2.2.1,r_1)))
def z1cz (k:Nat):FE:=⟨U1,1,U1,fun x=>zkx k x⟩
theorem z1d0 (k:Nat):z8 Tryz.prog 82 (z1cz k):=okC zb (xTc (zku k) xTn) xOn Tryz.f82 (LOn _) xLn (by rintro a0; kernel_rfl)
def zea (k:Nat):Nat→zT22→Int→zT22→(zT22→Option zT22)→Option zT22
 | 0,_,_,_,_=>none
 | n+1,a0,i4,q_1,e_0=>(if (decide (i4<(List.length a0:Int))) then (if 0≤i4 then (a0[i4.toNat]?).bind fun y_2=>(zkx k y_2).bind fun r_3=>(if 0≤i4∧i4.toNat<List.length q_1 then (q_1[i4.toNat]?).bind fun y_4=>(q_1[i4.toNat]?).bind fun y_5=>zea k n a0 (z6 (i4+1)) (q_1.set i4.toNat (r_3.1,(r_3.2.1,(r_3.2.2.1,r_3.2.2.2)))) e_0 else none) else none) else e_0 q_1)
def zky (k:Nat) (a0:List zT0):Option zT22:=(if 0≤(List.length a0:Int)∧(List.length a0:Int)≤(List.length a0:Int)∧(List.length a0:Int)*48≤LIM then zea k k a0 0 (List.replicate (List.length a0) (0,(0,(0,[])))) (fun q_6=>some q_6) else none)
def zwy:Head:=⟨[(3,(.ref P0 []))],[(P0,138,U1,false)],[]⟩
def zwz (k:Nat):LD zT22:=⟨3,⟨[(0,(.val (.sl 112 U1))),(3,(.ref P0 [])),(4,V0)],[(P0,138,U1,false)],[]⟩,[(0,zwy)],fun n x kx=>zea k n x.1.1 x.1.2.2.1 x.2.1.1 (fun q_6=>kx 0 (zwy.fill (((),()),(q_6,()),()))),k⟩
def z1d1 (k:Nat):FE:=⟨(.sl 112 U1),1,(.sl 138 U1),fun x=>zky k x⟩
theorem z1d2 (k:Nat):z8 Tryz.prog 44 (z1d1 k):=okC zb (xTc (z1d0 k) xTn) xOn Tryz.f44 (orc (zwz k) (LOn _)) (xLo (zwz k) (by rintro n ⟨⟨a0,⟨⟩,i4,⟨⟩⟩,⟨q_1,⟨⟩⟩,⟨⟩⟩ kx; kernel_rfl) xLn) (by rintro a0; kernel_rfl)
def zkz (k:Nat) (a0:List zT1×Int×List Int×List zT0):Option zT3:=(zkw k a0.1).bind fun r_1=>(z6t k a0.2.2.1).bind fun r_2=>(zky k a0.2.2.2).bind fun r_3=>some (r_1,(a0.2.1,(r_2,r_3)))
def z1d3 (k:Nat):FE:=⟨U12,1,U2,fun x=>zkz k x⟩
theorem z1d4 (k:Nat):z8 Tryz.prog 18 (z1d3 k):=okC zb (xTc (z1cy k) (xTc (zku k) (xTc (z1d2 k) xTn))) xOn Tryz.f18 (LOn _) xLn (by rintro a0; kernel_rfl)
def zl0 (a0:Int×Int×Int):Option zT2:=some (a0.1,(a0.2.1,a0.2.2))
def z1d5:FE:=⟨U4,1,U4,fun x=>zl0 x⟩
theorem z1d6:z8 Tryz.prog 83 (z1d5):=okC zb xTn xOn Tryz.f83 (LOn _) xLn (by rintro a0; kernel_rfl)
def zeb (k:Nat):Nat→zT13→Int→zT13→(zT13→Option zT13)→Option zT13
 | 0,_,_,_,_=>none
 | n+1,a0,i4,q_1,e_0=>(if (decide (i4<(List.length a0:Int))) then (if 0≤i4 then (a0[i4.toNat]?).bind fun y_2=>(zl0 y_2).bind fun r_3=>(if 0≤i4∧i4.toNat<List.length q_1 then (q_1[i4.toNat]?).bind fun y_4=>(q_1[i4.toNat]?).bind fun y_5=>zeb k n a0 (z6 (i4+1)) (q_1.set i4.toNat r_3) e_0 else none) else none) else e_0 q_1)
def zl1 (k:Nat) (a0:List zT2):Option zT13:=(if 0≤(List.length a0:Int)∧(List.length a0:Int)≤(List.length a0:Int)∧(List.length a0:Int)*24≤LIM then zeb k k a0 0 (List.replicate (List.length a0) (0,(0,0))) (fun q_6=>some q_6) else none)
def zx0:Head:=⟨[(3,(.ref P0 []))],[(P0,141,U4,false)],[]⟩
def zx1 (k:Nat):LD zT13:=⟨3,⟨[(0,(.val (.sl 143 U4))),(3,(.ref P0 [])),(4,V0)],[(P0,141,U4,false)],[]⟩,[(0,zx0)],fun n x kx=>zeb k n x.1.1 x.1.2.2.1 x.2.1.1 (fun q_6=>kx 0 (zx0.fill (((),()),(q_6,()),()))),k⟩
def z1d7 (k:Nat):FE:=⟨(.sl 143 U4),1,U27,fun x=>zl1 k x⟩
theorem z1d8 (k:Nat):z8 Tryz.prog 45 (z1d7 k):=okC zb (xTc z1d6 xTn) xOn Tryz.f45 (orc (zx1 k) (LOn _)) (xLo (zx1 k) (by rintro n ⟨⟨a0,⟨⟩,i4,⟨⟩⟩,⟨q_1,⟨⟩⟩,⟨⟩⟩ kx; kernel_rfl) xLn) (by rintro a0; kernel_rfl)
def zl2 (k:Nat) (a0:Int×Int×Int×List zT2):Option zT7:=(zl1 k a0.2.2.2).bind fun r_1=>some (a0.1,(a0.2.1,(a0.2.2.1,r_1)))
def z1d9 (k:Nat):FE:=⟨U14,1,U9,fun x=>zl2 k x⟩
theorem z1da (k:Nat):z8 Tryz.prog 20 (z1d9 k):=okC zb (xTc (z1d8 k) xTn) xOn Tryz.f20 (LOn _) xLn (by rintro a0; kernel_rfl)
def zl3 (a0:Int×Int×Int):Option zT2:=some (a0.1,(a0.2.1,a0.2.2))
def z1db:FE:=⟨U4,1,U4,fun x=>zl3 x⟩
theorem z1dc:z8 Tryz.prog 84 (z1db):=okC zb xTn xOn Tryz.f84 (LOn _) xLn (by rintro a0; kernel_rfl)
def zec (k:Nat):Nat→zT13→Int→zT13→(zT13→Option zT13)→Option zT13
 | 0,_,_,_,_=>none
 | n+1,a0,i4,q_1,e_0=>(if (decide (i4<(List.length a0:Int))) then (if 0≤i4 then (a0[i4.toNat]?).bind fun y_2=>(zl3 y_2).bind fun r_3=>(if 0≤i4∧i4.toNat<List.length q_1 then (q_1[i4.toNat]?).bind fun y_4=>(q_1[i4.toNat]?).bind fun y_5=>zec k n a0 (z6 (i4+1)) (q_1.set i4.toNat r_3) e_0 else none) else none) else e_0 q_1)
def zl4 (k:Nat) (a0:List zT2):Option zT13:=(if 0≤(List.length a0:Int)∧(List.length a0:Int)≤(List.length a0:Int)∧(List.length a0:Int)*24≤LIM then zec k k a0 0 (List.replicate (List.length a0) (0,(0,0))) (fun q_6=>some q_6) else none)
def zx2:Head:=⟨[(3,(.ref P0 []))],[(P0,136,U4,false)],[]⟩
def zx3 (k:Nat):LD zT13:=⟨3,⟨[(0,(.val (.sl 145 U4))),(3,(.ref P0 [])),(4,V0)],[(P0,136,U4,false)],[]⟩,[(0,zx2)],fun n x kx=>zec k n x.1.1 x.1.2.2.1 x.2.1.1 (fun q_6=>kx 0 (zx2.fill (((),()),(q_6,()),()))),k⟩
def z1dd (k:Nat):FE:=⟨(.sl 145 U4),1,U28,fun x=>zl4 k x⟩
theorem z1de (k:Nat):z8 Tryz.prog 46 (z1dd k):=okC zb (xTc z1dc xTn) xOn Tryz.f46 (orc (zx3 k) (LOn _)) (xLo (zx3 k) (by rintro n ⟨⟨a0,⟨⟩,i4,⟨⟩⟩,⟨q_1,⟨⟩⟩,⟨⟩⟩ kx; kernel_rfl) xLn) (by rintro a0; kernel_rfl)
def zl5 (k:Nat) (a0:Int×Int×List zT2):Option zT10:=(zl4 k a0.2.2).bind fun r_1=>some (a0.1,(a0.2.1,r_1))
def z1df (k:Nat):FE:=⟨U18,1,U10,fun x=>zl5 k x⟩
theorem z1dg (k:Nat):z8 Tryz.prog 21 (z1df k):=okC zb (xTc (z1de k) xTn) xOn Tryz.f21 (LOn _) xLn (by rintro a0; kernel_rfl)
def zbh (k:Nat) (a0:zT3×Int×List Int×List Int×zT7×List Int×List Int×zT10×List Int):Option zT17:=(zkz k a0.1).bind fun r_1=>(z6t k a0.2.2.1).bind fun r_2=>(z6t k a0.2.2.2.1).bind fun r_3=>(zl2 k a0.2.2.2.2.1).bind fun r_4=>(z6t k a0.2.2.2.2.2.1).bind fun r_5=>(z6t k a0.2.2.2.2.2.2.1).bind fun r_6=>(zl5 k a0.2.2.2.2.2.2.2.1).bind fun r_7=>(z6t k a0.2.2.2.2.2.2.2.2).bind fun r_8=>some ((r_1.1,(r_1.2.1,(r_1.2.2.1,r_1.2.2.2))),(a0.2.1,(r_2,(r_3,((r_4.1,(r_4.2.1,(r_4.2.2.1,r_4.2.2.2))),(r_5,(r_6,((r_7.1,(r_7.2.1,r_7.2.2)),r_8))))))))
def z1dh (k:Nat):FE:=⟨U31,1,U19,fun x=>zbh k x⟩
theorem z1di (k:Nat):z8 Tryz.prog 6 (z1dh k):=okC zb (xTc (z1d4 k) (xTc (zku k) (xTc (z1da k) (xTc (z1dg k) xTn)))) xOn Tryz.f6 (LOn _) xLn (by rintro a0; kernel_rfl)
def z32 (n0:Int) (low1:Int) (high2:Int):Option Bool:=(if (decide (low1≤n0)) then some (decide (n0≤high2)) else some false)
def z1dj:FE:=⟨U32,1,.bool,fun x=>z32 x.1 x.2.1 x.2.2⟩
theorem z9z:z8 Tryz.prog 116 (z1dj):=okC zb xTn xOn Tryz.f116 (LOn _) xLn (by rintro ⟨n0,low1,high2⟩; kernel_rfl)
def zbi (k:Nat):Nat→zT1→Int→Int→Int→(Option Bool)→Option Bool
 | 0,_,_,_,_,_=>none
 | n+1,list0,low1,high2,i7,e_0=>(if (decide (i7<(List.length list0:Int))) then (if 0≤i7 then (list0[i7.toNat]?).bind fun y_1=>(z32 y_1 low1 high2).bind fun r_2=>(if (!r_2) then some false else (if (decide (0<i7)) then (if 0≤(z6 (i7-1)) then (list0[(z6 (i7-1)).toNat]?).bind fun y_3=>(if 0≤i7 then (list0[i7.toNat]?).bind fun y_4=>(if (decide (y_4≤y_3)) then some false else zbi k n list0 low1 high2 (z6 (i7+1)) e_0) else none) else none) else zbi k n list0 low1 high2 (z6 (i7+1)) e_0)) else none) else e_0)
def zl6 (k:Nat) (list0:List Int) (low1:Int) (high2:Int):Option Bool:=zbi k k list0 low1 high2 0 (some true)
def zx4:Head:=⟨[],[],[]⟩
def zx5 (k:Nat):LD Bool:=⟨2,⟨[(0,V1),(1,V0),(2,V0),(7,V0)],[],[]⟩,[(0,zx4)],fun n x kx=>zbi k n x.1.1 x.1.2.1 x.1.2.2.1 x.1.2.2.2.1 (kx 0 (zx4.fill ((),(),()))),k⟩
def z1dk (k:Nat):FE:=⟨(.pr U5 U20),1,.bool,fun x=>zl6 k x.1 x.2.1 x.2.2⟩
theorem z1dl (k:Nat):z8 Tryz.prog 126 (z1dk k):=okC zb (xTc z9z xTn) xOn Tryz.f126 (orc (zx5 k) (LOn _)) (xLo (zx5 k) (by rintro n ⟨⟨list0,low1,high2,i7,⟨⟩⟩,⟨⟩,⟨⟩⟩ kx; kernel_rfl) xLn) (by rintro ⟨list0,low1,high2⟩; kernel_rfl)
def zl7 (k:Nat) (s0:List Int):Option Bool:=(z32 (List.length s0:Int) 1 4).bind fun r_1=>(if r_1 then (zl6 k s0 0 9).bind fun r_2=>some r_2 else some false)
def z1dm (k:Nat):FE:=⟨U5,1,.bool,fun x=>zl7 k x⟩
theorem z1dn (k:Nat):z8 Tryz.prog 162 (z1dm k):=okC zb (xTc z9z (xTc (z1dl k) xTn)) xOn Tryz.f162 (LOn _) xLn (by rintro s0; kernel_rfl)
def zed (k:Nat):Nat→zT1→zT1→Int→(Option Bool)→Option Bool
 | 0,_,_,_,_=>none
 | n+1,a0,b1,i5,e_0=>(if (decide (i5<(List.length a0:Int))) then (if 0≤i5 then (a0[i5.toNat]?).bind fun y_1=>(if 0≤i5 then (b1[i5.toNat]?).bind fun y_2=>(if (!(decide (y_1=y_2))) then (if 0≤i5 then (a0[i5.toNat]?).bind fun y_3=>(if 0≤i5 then (b1[i5.toNat]?).bind fun y_4=>some (decide (y_3<y_4)) else none) else none) else zed k n a0 b1 (z6 (i5+1)) e_0) else none) else none) else e_0)
def zl8 (k:Nat) (a0:List Int) (b1:List Int):Option Bool:=(if (!(decide ((List.length a0:Int)=(List.length b1:Int)))) then some (decide ((List.length a0:Int)<(List.length b1:Int))) else zed k k a0 b1 0 (some false))
def zx6:Head:=⟨[],[],[]⟩
def zx7 (k:Nat):LD Bool:=⟨4,⟨[(0,V1),(1,V1),(5,V0)],[],[]⟩,[(0,zx6)],fun n x kx=>zed k n x.1.1 x.1.2.1 x.1.2.2.1 (kx 0 (zx6.fill ((),(),()))),k⟩
def z1do (k:Nat):FE:=⟨(.pr U5 U5),1,.bool,fun x=>zl8 k x.1 x.2⟩
theorem z1dp (k:Nat):z8 Tryz.prog 163 (z1do k):=okC zb xTn xOn Tryz.f163 (orc (zx7 k) (LOn _)) (xLo (zx7 k) (by rintro n ⟨⟨a0,b1,i5,⟨⟩⟩,⟨⟩,⟨⟩⟩ kx; kernel_rfl) xLn) (by rintro ⟨a0,b1⟩; kernel_rfl)
def zee (list0:List Int):Option zT1:=(if (([]:List Unit).length+list0.length)*8≤LIM then some list0 else none)
def z1dq:FE:=⟨U5,1,U5,fun x=>zee x⟩
theorem zx8:z8 Tryz.prog 120 (z1dq):=okC zb xTn xOn Tryz.f120 (LOn _) xLn (by rintro list0; kernel_rfl)
def zbj (s0:List Int) (k1:Int):Option zT1:=(if 0≤(0:Int)∧(0:Int)≤k1∧k1≤s0.length then (zee (s0.take k1.toNat)).bind fun r_1=>(if 0≤(z6 (k1+1))∧(z6 (k1+1))≤(s0.length:Int)∧(s0.length:Int)≤s0.length then (if (r_1.length+((s0.drop ((z6 (k1+1)).toNat)).take (s0.length-(z6 (k1+1)).toNat)).length)*8≤LIM then some (r_1++((s0.drop ((z6 (k1+1)).toNat)).take (s0.length-(z6 (k1+1)).toNat))) else none) else none) else none)
def z1dr:FE:=⟨(.pr U5 U0),1,U5,fun x=>zbj x.1 x.2⟩
theorem zqz:z8 Tryz.prog 71 (z1dr):=okC zb (xTc zx8 xTn) xOn Tryz.f71 (LOn _) xLn (by rintro ⟨s0,k1⟩; kernel_rfl)
def zef (k:Nat):Nat→zT1→zT1→Int→(Option Bool)→Option Bool
 | 0,_,_,_,_=>none
 | n+1,a0,b1,i5,e_0=>(if (decide (i5<(List.length a0:Int))) then (if 0≤i5 then (a0[i5.toNat]?).bind fun y_1=>(if 0≤i5 then (b1[i5.toNat]?).bind fun y_2=>(if (!(decide (y_1=y_2))) then some false else zef k n a0 b1 (z6 (i5+1)) e_0) else none) else none) else e_0)
def zl9 (k:Nat) (a0:List Int) (b1:List Int):Option Bool:=(if (!(decide ((List.length a0:Int)=(List.length b1:Int)))) then some false else zef k k a0 b1 0 (some true))
def zx9:Head:=⟨[],[],[]⟩
def zxa (k:Nat):LD Bool:=⟨4,⟨[(0,V1),(1,V1),(5,V0)],[],[]⟩,[(0,zx9)],fun n x kx=>zef k n x.1.1 x.1.2.1 x.1.2.2.1 (kx 0 (zx9.fill ((),(),()))),k⟩
def z1ds (k:Nat):FE:=⟨(.pr U5 U5),1,.bool,fun x=>zl9 k x.1 x.2⟩
theorem z1dt (k:Nat):z8 Tryz.prog 196 (z1ds k):=okC zb xTn xOn Tryz.f196 (orc (zxa k) (LOn _)) (xLo (zxa k) (by rintro n ⟨⟨a0,b1,i5,⟨⟩⟩,⟨⟩,⟨⟩⟩ kx; kernel_rfl) xLn) (by rintro ⟨a0,b1⟩; kernel_rfl)
def zeg (k:Nat):Nat→zT8→zT1→Int→(Option Int)→Option Int
 | 0,_,_,_,_=>none
 | n+1,c0,s1,i5,e_0=>(if (decide (i5<(List.length c0:Int))) then (if 0≤i5 then (c0[i5.toNat]?).bind fun y_1=>(zl9 k y_1 s1).bind fun r_2=>(if r_2 then some i5 else zeg k n c0 s1 (z6 (i5+1)) e_0) else none) else e_0)
def zhn (k:Nat) (c0:List zT1) (s1:List Int):Option Int:=zeg k k c0 s1 0 (some (-1))
def zxb:Head:=⟨[],[],[]⟩
def zxc (k:Nat):LD Int:=⟨2,⟨[(0,V6),(1,V1),(5,V0)],[],[]⟩,[(0,zxb)],fun n x kx=>zeg k n x.1.1 x.1.2.1 x.1.2.2.1 (kx 0 (zxb.fill ((),(),()))),k⟩
def z1du (k:Nat):FE:=⟨(.pr U24 U5),1,U0,fun x=>zhn k x.1 x.2⟩
theorem zxd (k:Nat):z8 Tryz.prog 164 (z1du k):=okC zb (xTc (z1dt k) xTn) xOn Tryz.f164 (orc (zxc k) (LOn _)) (xLo (zxc k) (by rintro n ⟨⟨c0,s1,i5,⟨⟩⟩,⟨⟩,⟨⟩⟩ kx; kernel_rfl) xLn) (by rintro ⟨c0,s1⟩; kernel_rfl)
def z8k (k:Nat):Nat→zT8→Int→zT1→Int→(zT8→Int→Option Bool)→Option Bool
 | 0,_,_,_,_,_=>none
 | n+1,c0,i3,s4,k5,e_2=>(if (decide (k5<(List.length s4:Int))) then (if (decide (1<(List.length s4:Int))) then (zbj s4 k5).bind fun r_5=>(zhn k c0 r_5).bind fun r_6=>(if (decide (r_6<0)) then some false else z8k k n c0 i3 s4 (z6 (k5+1)) e_2) else e_2 c0 i3) else e_2 c0 i3)
def z6u (k:Nat):Nat→zT8→Int→(Option Bool)→Option Bool
 | 0,_,_,_=>none
 | n+1,c0,i3,e_0=>(if (decide (i3<(List.length c0:Int))) then (if 0≤i3 then (c0[i3.toNat]?).bind fun y_1=>(zl7 k y_1).bind fun r_2=>(if (!r_2) then some false else (if (decide (0<i3)) then (if 0≤(z6 (i3-1)) then (c0[(z6 (i3-1)).toNat]?).bind fun y_3=>(zl8 k y_3 y_1).bind fun r_4=>(if (!r_4) then some false else z8k k k c0 i3 y_1 0 (fun c_5 i_6=>z6u k n c_5 (z6 (i_6+1)) e_0)) else none) else z8k k k c0 i3 y_1 0 (fun c_7 i_8=>z6u k n c_7 (z6 (i_8+1)) e_0))) else none) else e_0)
def zla (k:Nat) (c0:List zT1):Option Bool:=(if (decide (48<(List.length c0:Int))) then some false else z6u k k c0 0 (some true))
def zxe:Head:=⟨[(0,V6),(3,V0)],[],[]⟩
def zxf (k:Nat):LD Bool:=⟨10,⟨[(0,V6),(3,V0),(4,V1),(5,V0)],[],[]⟩,[(2,zxe)],fun n x kx=>z8k k n x.1.1 x.1.2.1 x.1.2.2.1 x.1.2.2.2.1 (fun c0 i3=>kx 2 (zxe.fill ((c0,i3,()),(),()))),k⟩
def zxg:Head:=⟨[],[],[]⟩
def zxh (k:Nat):LD Bool:=⟨4,⟨[(0,V6),(3,V0)],[],[]⟩,[(0,zxg)],fun n x kx=>z6u k n x.1.1 x.1.2.1 (kx 0 (zxg.fill ((),(),()))),k⟩
def z1dv (k:Nat):FE:=⟨U24,1,.bool,fun x=>zla k x⟩
theorem z1dw (k:Nat):z8 Tryz.prog 110 (z1dv k):=okC zb (xTc (z1dn k) (xTc (z1dp k) (xTc zqz (xTc (zxd k) xTn)))) xOn Tryz.f110 (orc (zxf k) (orc (zxh k) (LOn _))) (xLo (zxh k) (by rintro n ⟨⟨c0,i3,⟨⟩⟩,⟨⟩,⟨⟩⟩ kx; kernel_rfl) (xLo (zxf k) (by rintro n ⟨⟨c0,i3,s4,k5,⟨⟩⟩,⟨⟩,⟨⟩⟩ kx; kernel_rfl) xLn)) (by rintro c0; kernel_rfl)
def z8l (k:Nat):Nat→Int→Int→(Option Bool)→Option Bool
 | 0,_,_,_=>none
 | n+1,p0,k3,e_0=>(if (decide ((z6 (k3*k3))≤p0)) then (if k3=0 then none else (if (decide ((Int.tmod p0 k3)=0)) then some false else z8l k n p0 (z6 (k3+1)) e_0)) else e_0)
def zr0 (k:Nat) (p0:Int):Option Bool:=(z32 p0 2 251).bind fun r_1=>(if (!r_1) then some false else z8l k k p0 2 (some true))
def zxi:Head:=⟨[],[],[]⟩
def zxj (k:Nat):LD Bool:=⟨4,⟨[(0,V0),(3,V0)],[],[]⟩,[(0,zxi)],fun n x kx=>z8l k n x.1.1 x.1.2.1 (kx 0 (zxi.fill ((),(),()))),k⟩
def z1dx (k:Nat):FE:=⟨U0,1,.bool,fun x=>zr0 k x⟩
theorem z1dy (k:Nat):z8 Tryz.prog 165 (z1dx k):=okC zb (xTc z9z xTn) xOn Tryz.f165 (orc (zxj k) (LOn _)) (xLo (zxj k) (by rintro n ⟨⟨p0,k3,⟨⟩⟩,⟨⟩,⟨⟩⟩ kx; kernel_rfl) xLn) (by rintro p0; kernel_rfl)
end
end Go.Proofs.YtchfjdcfhlhgcaaGreatDoor.Ev
