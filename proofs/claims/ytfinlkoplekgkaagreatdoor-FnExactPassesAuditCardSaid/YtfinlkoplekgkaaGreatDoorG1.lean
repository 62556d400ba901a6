/- Functions of the program, as plain ones. No conditions. -/
import Derived.Test.YtfinlkoplekgkaaGreatDoorG0
import Derived.KernelRfl
set_option linter.unusedVariables false
set_option maxRecDepth 100000
namespace Go.Proofs.YtfinlkoplekgkaaGreatDoor.Ev
open Go.RowKit
noncomputable section
def z77 (a0:List Int) (left1:Int):Option Int:=(if (decide ((z6 (left1-(List.length a0:Int)))<0)) then some (-1) else some (z6 (left1-(List.length a0:Int))))
def z1er:FE:=⟨U30,1,U0,fun x=>z77 x.1 x.2⟩
theorem zlt:z8 Tryz.prog 10 (z1er):=okC zb xTn xOn Tryz.f10 (LOn _) xLn (by rintro ⟨a0,left1⟩; kernel_rfl)
def zf2 (k:Nat):Nat→zT10→Int→Int→(Int→Option Int)→Option Int
 | 0,_,_,_,_=>none
 | n+1,a0,left1,i5,e_0=>(if (decide (i5<(List.length a0:Int))) then (if 0≤i5 then (a0[i5.toNat]?).bind fun y_1=>(z77 y_1 left1).bind fun r_2=>(if (decide (r_2<0)) then some (-1) else zf2 k n a0 r_2 (z6 (i5+1)) e_0) else none) else e_0 left1)
def zlu (k:Nat) (a0:List zT1) (left1:Int):Option Int:=(if (decide ((z6 (left1-(List.length a0:Int)))<0)) then some (-1) else zf2 k k a0 (z6 (left1-(List.length a0:Int))) 0 (fun left_3=>some left_3))
def zy1:Head:=⟨[(1,V0)],[],[]⟩
def zy2 (k:Nat):LD Int:=⟨5,⟨[(0,V3),(1,V0),(5,V0)],[],[]⟩,[(0,zy1)],fun n x kx=>zf2 k n x.1.1 x.1.2.1 x.1.2.2.1 (fun left1=>kx 0 (zy1.fill ((left1,()),(),()))),k⟩
def z1es (k:Nat):FE:=⟨(.pr U16 U0),1,U0,fun x=>zlu k x.1 x.2⟩
theorem z1et (k:Nat):z8 Tryz.prog 52 (z1es k):=okC zb (xTc zlt xTn) xOn Tryz.f52 (orc (zy2 k) (LOn _)) (xLo (zy2 k) (by rintro n ⟨⟨a0,left1,i5,⟨⟩⟩,⟨⟩,⟨⟩⟩ kx; kernel_rfl) xLn) (by rintro ⟨a0,left1⟩; kernel_rfl)
def zlv (k:Nat) (a0:List zT1) (left1:Int):Option Int:=(zlu k a0 left1).bind fun r_1=>(if (decide (r_1<0)) then some (-1) else some r_1)
def z1eu (k:Nat):FE:=⟨(.pr U8 U0),1,U0,fun x=>zlv k x.1 x.2⟩
theorem z1ev (k:Nat):z8 Tryz.prog 24 (z1eu k):=okC zb (xTc (z1et k) xTn) xOn Tryz.f24 (LOn _) xLn (by rintro ⟨a0,left1⟩; kernel_rfl)
def zlw (a0:Int×Int×Int×List Int) (left1:Int):Option Int:=(z77 a0.2.2.2 left1).bind fun r_1=>(if (decide (r_1<0)) then some (-1) else some r_1)
def z1ew:FE:=⟨(.pr U3 U0),1,U0,fun x=>zlw x.1 x.2⟩
theorem z1ex:z8 Tryz.prog 53 (z1ew):=okC zb (xTc zlt xTn) xOn Tryz.f53 (LOn _) xLn (by rintro ⟨a0,left1⟩; kernel_rfl)
def zf3 (k:Nat):Nat→zT15→Int→Int→(Int→Option Int)→Option Int
 | 0,_,_,_,_=>none
 | n+1,a0,left1,i5,e_0=>(if (decide (i5<(List.length a0:Int))) then (if 0≤i5 then (a0[i5.toNat]?).bind fun y_1=>(zlw y_1 left1).bind fun r_2=>(if (decide (r_2<0)) then some (-1) else zf3 k n a0 r_2 (z6 (i5+1)) e_0) else none) else e_0 left1)
def zlx (k:Nat) (a0:List zT0) (left1:Int):Option Int:=(if (decide ((z6 (left1-(List.length a0:Int)))<0)) then some (-1) else zf3 k k a0 (z6 (left1-(List.length a0:Int))) 0 (fun left_3=>some left_3))
def zy3:Head:=⟨[(1,V0)],[],[]⟩
def zy4 (k:Nat):LD Int:=⟨5,⟨[(0,(.val (.sl 100 U3))),(1,V0),(5,V0)],[],[]⟩,[(0,zy3)],fun n x kx=>zf3 k n x.1.1 x.1.2.1 x.1.2.2.1 (fun left1=>kx 0 (zy3.fill ((left1,()),(),()))),k⟩
def z1ey (k:Nat):FE:=⟨(.pr (.sl 100 U3) U0),1,U0,fun x=>zlx k x.1 x.2⟩
theorem z1ez (k:Nat):z8 Tryz.prog 25 (z1ey k):=okC zb (xTc z1ex xTn) xOn Tryz.f25 (orc (zy4 k) (LOn _)) (xLo (zy4 k) (by rintro n ⟨⟨a0,left1,i5,⟨⟩⟩,⟨⟩,⟨⟩⟩ kx; kernel_rfl) xLn) (by rintro ⟨a0,left1⟩; kernel_rfl)
def zly (k:Nat) (a0:List zT1×Int×List Int×List zT0) (left1:Int):Option Int:=(zlv k a0.1 left1).bind fun r_1=>(if (decide (r_1<0)) then some (-1) else (z77 a0.2.2.1 r_1).bind fun r_2=>(if (decide (r_2<0)) then some (-1) else (zlx k a0.2.2.2 r_2).bind fun r_3=>(if (decide (r_3<0)) then some (-1) else some r_3)))
def z1f0 (k:Nat):FE:=⟨(.pr U12 U0),1,U0,fun x=>zly k x.1 x.2⟩
theorem z1f1 (k:Nat):z8 Tryz.prog 9 (z1f0 k):=okC zb (xTc (z1ev k) (xTc zlt (xTc (z1ez k) xTn))) xOn Tryz.f9 (LOn _) xLn (by rintro ⟨a0,left1⟩; kernel_rfl)
def zlz (a0:List zT2) (left1:Int):Option Int:=(if (decide ((z6 (left1-(List.length a0:Int)))<0)) then some (-1) else some (z6 (left1-(List.length a0:Int))))
def z1f2:FE:=⟨(.pr (.sl 132 U4) U0),1,U0,fun x=>zlz x.1 x.2⟩
theorem z1f3:z8 Tryz.prog 26 (z1f2):=okC zb xTn xOn Tryz.f26 (LOn _) xLn (by rintro ⟨a0,left1⟩; kernel_rfl)
def zm0 (a0:Int×Int×Int×List zT2) (left1:Int):Option Int:=(zlz a0.2.2.2 left1).bind fun r_1=>(if (decide (r_1<0)) then some (-1) else some r_1)
def z1f4:FE:=⟨(.pr U15 U0),1,U0,fun x=>zm0 x.1 x.2⟩
theorem z1f5:z8 Tryz.prog 11 (z1f4):=okC zb (xTc z1f3 xTn) xOn Tryz.f11 (LOn _) xLn (by rintro ⟨a0,left1⟩; kernel_rfl)
def zm1 (a0:List zT2) (left1:Int):Option Int:=(if (decide ((z6 (left1-(List.length a0:Int)))<0)) then some (-1) else some (z6 (left1-(List.length a0:Int))))
def z1f6:FE:=⟨(.pr (.sl 134 U4) U0),1,U0,fun x=>zm1 x.1 x.2⟩
theorem z1f7:z8 Tryz.prog 27 (z1f6):=okC zb xTn xOn Tryz.f27 (LOn _) xLn (by rintro ⟨a0,left1⟩; kernel_rfl)
def zm2 (a0:Int×Int×List zT2) (left1:Int):Option Int:=(zm1 a0.2.2 left1).bind fun r_1=>(if (decide (r_1<0)) then some (-1) else some r_1)
def z1f8:FE:=⟨(.pr U19 U0),1,U0,fun x=>zm2 x.1 x.2⟩
theorem z1f9:z8 Tryz.prog 12 (z1f8):=okC zb (xTc z1f7 xTn) xOn Tryz.f12 (LOn _) xLn (by rintro ⟨a0,left1⟩; kernel_rfl)
def zm3 (k:Nat) (a0:zT3×Int×List Int×List Int×zT5×List Int×List Int×zT6×List Int) (left1:Int):Option Int:=(zly k a0.1 left1).bind fun r_1=>(if (decide (r_1<0)) then some (-1) else (z77 a0.2.2.1 r_1).bind fun r_2=>(if (decide (r_2<0)) then some (-1) else (z77 a0.2.2.2.1 r_2).bind fun r_3=>(if (decide (r_3<0)) then some (-1) else (zm0 a0.2.2.2.2.1 r_3).bind fun r_4=>(if (decide (r_4<0)) then some (-1) else (z77 a0.2.2.2.2.2.1 r_4).bind fun r_5=>(if (decide (r_5<0)) then some (-1) else (z77 a0.2.2.2.2.2.2.1 r_5).bind fun r_6=>(if (decide (r_6<0)) then some (-1) else (zm2 a0.2.2.2.2.2.2.2.1 r_6).bind fun r_7=>(if (decide (r_7<0)) then some (-1) else (z77 a0.2.2.2.2.2.2.2.2 r_7).bind fun r_8=>(if (decide (r_8<0)) then some (-1) else some r_8))))))))
def z1fa (k:Nat):FE:=⟨(.pr U33 U0),1,U0,fun x=>zm3 k x.1 x.2⟩
theorem z1fb (k:Nat):z8 Tryz.prog 4 (z1fa k):=okC zb (xTc (z1f1 k) (xTc zlt (xTc z1f5 (xTc z1f9 xTn)))) xOn Tryz.f4 (LOn _) xLn (by rintro ⟨a0,left1⟩; kernel_rfl)
def zf4 (k:Nat):Nat→zT1→Int→zT1→(zT1→Option zT1)→Option zT1
 | 0,_,_,_,_=>none
 | n+1,a0,i4,q_1,e_0=>(if (decide (i4<(List.length a0:Int))) then (if 0≤i4 then (a0[i4.toNat]?).bind fun y_2=>(if 0≤i4∧i4.toNat<List.length q_1 then (q_1[i4.toNat]?).bind fun y_3=>(q_1[i4.toNat]?).bind fun y_4=>zf4 k n a0 (z6 (i4+1)) (q_1.set i4.toNat y_2) e_0 else none) else none) else e_0 q_1)
def z78 (k:Nat) (a0:List Int):Option zT1:=(if 0≤(List.length a0:Int)∧(List.length a0:Int)≤(List.length a0:Int)∧(List.length a0:Int)*8≤LIM then zf4 k k a0 0 (List.replicate (List.length a0) 0) (fun q_5=>some q_5) else none)
def zy5:Head:=⟨[(3,(.ref P0 []))],[(P0,2,U0,false)],[]⟩
def zy6 (k:Nat):LD zT1:=⟨3,⟨[(0,V1),(3,(.ref P0 [])),(4,V0)],[(P0,2,U0,false)],[]⟩,[(0,zy5)],fun n x kx=>zf4 k n x.1.1 x.1.2.2.1 x.2.1.1 (fun q_5=>kx 0 (zy5.fill (((),()),(q_5,()),()))),k⟩
def z1fc (k:Nat):FE:=⟨U5,1,U5,fun x=>z78 k x⟩
theorem zm4 (k:Nat):z8 Tryz.prog 16 (z1fc k):=okC zb xTn xOn Tryz.f16 (orc (zy6 k) (LOn _)) (xLo (zy6 k) (by rintro n ⟨⟨a0,⟨⟩,i4,⟨⟩⟩,⟨q_1,⟨⟩⟩,⟨⟩⟩ kx; kernel_rfl) xLn) (by rintro a0; kernel_rfl)
def zf5 (k:Nat):Nat→zT10→Int→zT10→(zT10→Option zT10)→Option zT10
 | 0,_,_,_,_=>none
 | n+1,a0,i4,q_1,e_0=>(if (decide (i4<(List.length a0:Int))) then (if 0≤i4 then (a0[i4.toNat]?).bind fun y_2=>(z78 k y_2).bind fun r_3=>(if 0≤i4∧i4.toNat<List.length q_1 then (q_1[i4.toNat]?).bind fun y_4=>(q_1[i4.toNat]?).bind fun y_5=>zf5 k n a0 (z6 (i4+1)) (q_1.set i4.toNat r_3) e_0 else none) else none) else e_0 q_1)
def zm5 (k:Nat) (a0:List zT1):Option zT10:=(if 0≤(List.length a0:Int)∧(List.length a0:Int)≤(List.length a0:Int)∧(List.length a0:Int)*24≤LIM then zf5 k k a0 0 (List.replicate (List.length a0) ([]:List Int)) (fun q_6=>some q_6) else none)
def zy7:Head:=⟨[(3,(.ref P0 []))],[(P0,25,U5,false)],[]⟩
def zy8 (k:Nat):LD zT10:=⟨3,⟨[(0,V3),(3,(.ref P0 [])),(4,V0)],[(P0,25,U5,false)],[]⟩,[(0,zy7)],fun n x kx=>zf5 k n x.1.1 x.1.2.2.1 x.2.1.1 (fun q_6=>kx 0 (zy7.fill (((),()),(q_6,()),()))),k⟩
def z1fd (k:Nat):FE:=⟨U16,1,U16,fun x=>zm5 k x⟩
theorem z1fe (k:Nat):z8 Tryz.prog 74 (z1fd k):=okC zb (xTc (zm4 k) xTn) xOn Tryz.f74 (orc (zy8 k) (LOn _)) (xLo (zy8 k) (by rintro n ⟨⟨a0,⟨⟩,i4,⟨⟩⟩,⟨q_1,⟨⟩⟩,⟨⟩⟩ kx; kernel_rfl) xLn) (by rintro a0; kernel_rfl)
def zm6 (k:Nat) (a0:List zT1):Option zT10:=(zm5 k a0).bind fun r_1=>some r_1
def z1ff (k:Nat):FE:=⟨U8,1,U8,fun x=>zm6 k x⟩
theorem z1fg (k:Nat):z8 Tryz.prog 39 (z1ff k):=okC zb (xTc (z1fe k) xTn) xOn Tryz.f39 (LOn _) xLn (by rintro a0; kernel_rfl)
def zm7 (k:Nat) (a0:Int×Int×Int×List Int):Option zT0:=(z78 k a0.2.2.2).bind fun r_1=>some (a0.1,(a0.2.1,(a0.2.2.1,r_1)))
def z1fh (k:Nat):FE:=⟨U3,1,U3,fun x=>zm7 k x⟩
theorem z1fi (k:Nat):z8 Tryz.prog 75 (z1fh k):=okC zb (xTc (zm4 k) xTn) xOn Tryz.f75 (LOn _) xLn (by rintro a0; kernel_rfl)
def zf6 (k:Nat):Nat→zT15→Int→zT15→(zT15→Option zT15)→Option zT15
 | 0,_,_,_,_=>none
 | n+1,a0,i4,q_1,e_0=>(if (decide (i4<(List.length a0:Int))) then (if 0≤i4 then (a0[i4.toNat]?).bind fun y_2=>(zm7 k y_2).bind fun r_3=>(if 0≤i4∧i4.toNat<List.length q_1 then (q_1[i4.toNat]?).bind fun y_4=>(q_1[i4.toNat]?).bind fun y_5=>zf6 k n a0 (z6 (i4+1)) (q_1.set i4.toNat (r_3.1,(r_3.2.1,(r_3.2.2.1,r_3.2.2.2)))) e_0 else none) else none) else e_0 q_1)
def zm8 (k:Nat) (a0:List zT0):Option zT15:=(if 0≤(List.length a0:Int)∧(List.length a0:Int)≤(List.length a0:Int)∧(List.length a0:Int)*48≤LIM then zf6 k k a0 0 (List.replicate (List.length a0) (0,(0,(0,[])))) (fun q_6=>some q_6) else none)
def zy9:Head:=⟨[(3,(.ref P0 []))],[(P0,106,U3,false)],[]⟩
def zya (k:Nat):LD zT15:=⟨3,⟨[(0,(.val (.sl 100 U3))),(3,(.ref P0 [])),(4,V0)],[(P0,106,U3,false)],[]⟩,[(0,zy9)],fun n x kx=>zf6 k n x.1.1 x.1.2.2.1 x.2.1.1 (fun q_6=>kx 0 (zy9.fill (((),()),(q_6,()),()))),k⟩
def z1fj (k:Nat):FE:=⟨(.sl 100 U3),1,(.sl 106 U3),fun x=>zm8 k x⟩
theorem z1fk (k:Nat):z8 Tryz.prog 40 (z1fj k):=okC zb (xTc (z1fi k) xTn) xOn Tryz.f40 (orc (zya k) (LOn _)) (xLo (zya k) (by rintro n ⟨⟨a0,⟨⟩,i4,⟨⟩⟩,⟨q_1,⟨⟩⟩,⟨⟩⟩ kx; kernel_rfl) xLn) (by rintro a0; kernel_rfl)
def zm9 (k:Nat) (a0:List zT1×Int×List Int×List zT0):Option zT3:=(zm6 k a0.1).bind fun r_1=>(z78 k a0.2.2.1).bind fun r_2=>(zm8 k a0.2.2.2).bind fun r_3=>some (r_1,(a0.2.1,(r_2,r_3)))
def z1fl (k:Nat):FE:=⟨U12,1,U1,fun x=>zm9 k x⟩
theorem z1fm (k:Nat):z8 Tryz.prog 15 (z1fl k):=okC zb (xTc (z1fg k) (xTc (zm4 k) (xTc (z1fk k) xTn))) xOn Tryz.f15 (LOn _) xLn (by rintro a0; kernel_rfl)
def zma (a0:Int×Int×Int):Option zT2:=some (a0.1,(a0.2.1,a0.2.2))
def z1fn:FE:=⟨U4,1,U4,fun x=>zma x⟩
theorem z1fo:z8 Tryz.prog 76 (z1fn):=okC zb xTn xOn Tryz.f76 (LOn _) xLn (by rintro a0; kernel_rfl)
def zf7 (k:Nat):Nat→zT11→Int→zT11→(zT11→Option zT11)→Option zT11
 | 0,_,_,_,_=>none
 | n+1,a0,i4,q_1,e_0=>(if (decide (i4<(List.length a0:Int))) then (if 0≤i4 then (a0[i4.toNat]?).bind fun y_2=>(zma y_2).bind fun r_3=>(if 0≤i4∧i4.toNat<List.length q_1 then (q_1[i4.toNat]?).bind fun y_4=>(q_1[i4.toNat]?).bind fun y_5=>zf7 k n a0 (z6 (i4+1)) (q_1.set i4.toNat r_3) e_0 else none) else none) else e_0 q_1)
def zmb (k:Nat) (a0:List zT2):Option zT11:=(if 0≤(List.length a0:Int)∧(List.length a0:Int)≤(List.length a0:Int)∧(List.length a0:Int)*24≤LIM then zf7 k k a0 0 (List.replicate (List.length a0) (0,(0,0))) (fun q_6=>some q_6) else none)
def zyb:Head:=⟨[(3,(.ref P0 []))],[(P0,111,U4,false)],[]⟩
def zyc (k:Nat):LD zT11:=⟨3,⟨[(0,(.val (.sl 132 U4))),(3,(.ref P0 [])),(4,V0)],[(P0,111,U4,false)],[]⟩,[(0,zyb)],fun n x kx=>zf7 k n x.1.1 x.1.2.2.1 x.2.1.1 (fun q_6=>kx 0 (zyb.fill (((),()),(q_6,()),()))),k⟩
def z1fp (k:Nat):FE:=⟨(.sl 132 U4),1,U26,fun x=>zmb k x⟩
theorem z1fq (k:Nat):z8 Tryz.prog 41 (z1fp k):=okC zb (xTc z1fo xTn) xOn Tryz.f41 (orc (zyc k) (LOn _)) (xLo (zyc k) (by rintro n ⟨⟨a0,⟨⟩,i4,⟨⟩⟩,⟨q_1,⟨⟩⟩,⟨⟩⟩ kx; kernel_rfl) xLn) (by rintro a0; kernel_rfl)
def zmc (k:Nat) (a0:Int×Int×Int×List zT2):Option zT5:=(zmb k a0.2.2.2).bind fun r_1=>some (a0.1,(a0.2.1,(a0.2.2.1,r_1)))
def z1fr (k:Nat):FE:=⟨U15,1,U6,fun x=>zmc k x⟩
theorem z1fs (k:Nat):z8 Tryz.prog 17 (z1fr k):=okC zb (xTc (z1fq k) xTn) xOn Tryz.f17 (LOn _) xLn (by rintro a0; kernel_rfl)
def zmd (a0:Int×Int×Int):Option zT2:=some (a0.1,(a0.2.1,a0.2.2))
def z1ft:FE:=⟨U4,1,U4,fun x=>zmd x⟩
theorem z1fu:z8 Tryz.prog 77 (z1ft):=okC zb xTn xOn Tryz.f77 (LOn _) xLn (by rintro a0; kernel_rfl)
def zf8 (k:Nat):Nat→zT11→Int→zT11→(zT11→Option zT11)→Option zT11
 | 0,_,_,_,_=>none
 | n+1,a0,i4,q_1,e_0=>(if (decide (i4<(List.length a0:Int))) then (if 0≤i4 then (a0[i4.toNat]?).bind fun y_2=>(zmd y_2).bind fun r_3=>(if 0≤i4∧i4.toNat<List.length q_1 then (q_1[i4.toNat]?).bind fun y_4=>(q_1[i4.toNat]?).bind fun y_5=>zf8 k n a0 (z6 (i4+1)) (q_1.set i4.toNat r_3) e_0 else none) else none) else e_0 q_1)
def zme (k:Nat) (a0:List zT2):Option zT11:=(if 0≤(List.length a0:Int)∧(List.length a0:Int)≤(List.length a0:Int)∧(List.length a0:Int)*24≤LIM then zf8 k k a0 0 (List.replicate (List.length a0) (0,(0,0))) (fun q_6=>some q_6) else none)
def zyd:Head:=⟨[(3,(.ref P0 []))],[(P0,113,U4,false)],[]⟩
def zye (k:Nat):LD zT11:=⟨3,⟨[(0,(.val (.sl 134 U4))),(3,(.ref P0 [])),(4,V0)],[(P0,113,U4,false)],[]⟩,[(0,zyd)],fun n x kx=>zf8 k n x.1.1 x.1.2.2.1 x.2.1.1 (fun q_6=>kx 0 (zyd.fill (((),()),(q_6,()),()))),k⟩
def z1fv (k:Nat):FE:=⟨(.sl 134 U4),1,U28,fun x=>zme k x⟩
theorem z1fw (k:Nat):z8 Tryz.prog 42 (z1fv k):=okC zb (xTc z1fu xTn) xOn Tryz.f42 (orc (zye k) (LOn _)) (xLo (zye k) (by rintro n ⟨⟨a0,⟨⟩,i4,⟨⟩⟩,⟨q_1,⟨⟩⟩,⟨⟩⟩ kx; kernel_rfl) xLn) (by rintro a0; kernel_rfl)
def zmf (k:Nat) (a0:Int×Int×List zT2):Option zT6:=(zme k a0.2.2).bind fun r_1=>some (a0.1,(a0.2.1,r_1))
def z1fx (k:Nat):FE:=⟨U19,1,U10,fun x=>zmf k x⟩
theorem z1fy (k:Nat):z8 Tryz.prog 18 (z1fx k):=okC zb (xTc (z1fw k) xTn) xOn Tryz.f18 (LOn _) xLn (by rintro a0; kernel_rfl)
def zf9 (k:Nat) (a0:zT3×Int×List Int×List Int×zT5×List Int×List Int×zT6×List Int):Option zT9:=(zm9 k a0.1).bind fun r_1=>(z78 k a0.2.2.1).bind fun r_2=>(z78 k a0.2.2.2.1).bind fun r_3=>(zmc k a0.2.2.2.2.1).bind fun r_4=>(z78 k a0.2.2.2.2.2.1).bind fun r_5=>(z78 k a0.2.2.2.2.2.2.1).bind fun r_6=>(zmf k a0.2.2.2.2.2.2.2.1).bind fun r_7=>(z78 k a0.2.2.2.2.2.2.2.2).bind fun r_8=>some ((r_1.1,(r_1.2.1,(r_1.2.2.1,r_1.2.2.2))),(a0.2.1,(r_2,(r_3,((r_4.1,(r_4.2.1,(r_4.2.2.1,r_4.2.2.2))),(r_5,(r_6,((r_7.1,(r_7.2.1,r_7.2.2)),r_8))))))))
def z1fz (k:Nat):FE:=⟨U33,1,U13,fun x=>zf9 k x⟩
theorem z1g0 (k:Nat):z8 Tryz.prog 6 (z1fz k):=okC zb (xTc (z1fm k) (xTc (zm4 k) (xTc (z1fs k) (xTc (z1fy k) xTn)))) xOn Tryz.f6 (LOn _) xLn (by rintro a0; kernel_rfl)
def z30 (n0:Int) (low1:Int) (high2:Int):Option Bool:=(if (decide (low1≤n0)) then some (decide (n0≤high2)) else some false)
def z1g1:FE:=⟨U34,1,.bool,fun x=>z30 x.1 x.2.1 x.2.2⟩
theorem z96:z8 Tryz.prog 60 (z1g1):=okC zb xTn xOn Tryz.f60 (LOn _) xLn (by rintro ⟨n0,low1,high2⟩; kernel_rfl)
def zc5 (k:Nat):Nat→zT1→Int→Int→Int→(Option Bool)→Option Bool
 | 0,_,_,_,_,_=>none
 | n+1,list0,low1,high2,i7,e_0=>(if (decide (i7<(List.length list0:Int))) then (if 0≤i7 then (list0[i7.toNat]?).bind fun y_1=>(z30 y_1 low1 high2).bind fun r_2=>(if (!r_2) then some false else (if (decide (0<i7)) then (if 0≤(z6 (i7-1)) then (list0[(z6 (i7-1)).toNat]?).bind fun y_3=>(if 0≤i7 then (list0[i7.toNat]?).bind fun y_4=>(if (decide (y_4≤y_3)) then some false else zc5 k n list0 low1 high2 (z6 (i7+1)) e_0) else none) else none) else zc5 k n list0 low1 high2 (z6 (i7+1)) e_0)) else none) else e_0)
def zii (k:Nat) (list0:List Int) (low1:Int) (high2:Int):Option Bool:=zc5 k k list0 low1 high2 0 (some true)
def zyf:Head:=⟨[],[],[]⟩
def zyg (k:Nat):LD Bool:=⟨2,⟨[(0,V1),(1,V0),(2,V0),(7,V0)],[],[]⟩,[(0,zyf)],fun n x kx=>zc5 k n x.1.1 x.1.2.1 x.1.2.2.1 x.1.2.2.2.1 (kx 0 (zyf.fill ((),(),()))),k⟩
def z1g2 (k:Nat):FE:=⟨(.pr U5 U20),1,.bool,fun x=>zii k x.1 x.2.1 x.2.2⟩
theorem zyh (k:Nat):z8 Tryz.prog 108 (z1g2 k):=okC zb (xTc z96 xTn) xOn Tryz.f108 (orc (zyg k) (LOn _)) (xLo (zyg k) (by rintro n ⟨⟨list0,low1,high2,i7,⟨⟩⟩,⟨⟩,⟨⟩⟩ kx; kernel_rfl) xLn) (by rintro ⟨list0,low1,high2⟩; kernel_rfl)
def zmg (k:Nat) (s0:List Int):Option Bool:=(z30 (List.length s0:Int) 1 4).bind fun r_1=>(if r_1 then (zii k s0 0 9).bind fun r_2=>some r_2 else some false)
def z1g3 (k:Nat):FE:=⟨U5,1,.bool,fun x=>zmg k x⟩
theorem z1g4 (k:Nat):z8 Tryz.prog 94 (z1g3 k):=okC zb (xTc z96 (xTc (zyh k) xTn)) xOn Tryz.f94 (LOn _) xLn (by rintro s0; kernel_rfl)
def zfa (k:Nat):Nat→zT1→zT1→Int→(Option Bool)→Option Bool
 | 0,_,_,_,_=>none
 | n+1,a0,b1,i5,e_0=>(if (decide (i5<(List.length a0:Int))) then (if 0≤i5 then (a0[i5.toNat]?).bind fun y_1=>(if 0≤i5 then (b1[i5.toNat]?).bind fun y_2=>(if (!(decide (y_1=y_2))) then (if 0≤i5 then (a0[i5.toNat]?).bind fun y_3=>(if 0≤i5 then (b1[i5.toNat]?).bind fun y_4=>some (decide (y_3<y_4)) else none) else none) else zfa k n a0 b1 (z6 (i5+1)) e_0) else none) else none) else e_0)
def zmh (k:Nat) (a0:List Int) (b1:List Int):Option Bool:=(if (!(decide ((List.length a0:Int)=(List.length b1:Int)))) then some (decide ((List.length a0:Int)<(List.length b1:Int))) else zfa k k a0 b1 0 (some false))
def zyi:Head:=⟨[],[],[]⟩
def zyj (k:Nat):LD Bool:=⟨4,⟨[(0,V1),(1,V1),(5,V0)],[],[]⟩,[(0,zyi)],fun n x kx=>zfa k n x.1.1 x.1.2.1 x.1.2.2.1 (kx 0 (zyi.fill ((),(),()))),k⟩
def z1g5 (k:Nat):FE:=⟨(.pr U5 U5),1,.bool,fun x=>zmh k x.1 x.2⟩
theorem z1g6 (k:Nat):z8 Tryz.prog 95 (z1g5 k):=okC zb xTn xOn Tryz.f95 (orc (zyj k) (LOn _)) (xLo (zyj k) (by rintro n ⟨⟨a0,b1,i5,⟨⟩⟩,⟨⟩,⟨⟩⟩ kx; kernel_rfl) xLn) (by rintro ⟨a0,b1⟩; kernel_rfl)
def zfb (list0:List Int):Option zT1:=(if (([]:List Unit).length+list0.length)*8≤LIM then some list0 else none)
def z1g7:FE:=⟨U5,1,U5,fun x=>zfb x⟩
theorem zyk:z8 Tryz.prog 102 (z1g7):=okC zb xTn xOn Tryz.f102 (LOn _) xLn (by rintro list0; kernel_rfl)
def zc6 (s0:List Int) (k1:Int):Option zT1:=(if 0≤(0:Int)∧(0:Int)≤k1∧k1≤s0.length then (zfb (s0.take k1.toNat)).bind fun r_1=>(if 0≤(z6 (k1+1))∧(z6 (k1+1))≤(s0.length:Int)∧(s0.length:Int)≤s0.length then (if (r_1.length+((s0.drop ((z6 (k1+1)).toNat)).take (s0.length-(z6 (k1+1)).toNat)).length)*8≤LIM then some (r_1++((s0.drop ((z6 (k1+1)).toNat)).take (s0.length-(z6 (k1+1)).toNat))) else none) else none) else none)
def z1g8:FE:=⟨U30,1,U5,fun x=>zc6 x.1 x.2⟩
theorem zs6:z8 Tryz.prog 64 (z1g8):=okC zb (xTc zyk xTn) xOn Tryz.f64 (LOn _) xLn (by rintro ⟨s0,k1⟩; kernel_rfl)
def zfc (k:Nat):Nat→zT1→zT1→Int→(Option Bool)→Option Bool
 | 0,_,_,_,_=>none
 | n+1,a0,b1,i5,e_0=>(if (decide (i5<(List.length a0:Int))) then (if 0≤i5 then (a0[i5.toNat]?).bind fun y_1=>(if 0≤i5 then (b1[i5.toNat]?).bind fun y_2=>(if (!(decide (y_1=y_2))) then some false else zfc k n a0 b1 (z6 (i5+1)) e_0) else none) else none) else e_0)
def zmi (k:Nat) (a0:List Int) (b1:List Int):Option Bool:=(if (!(decide ((List.length a0:Int)=(List.length b1:Int)))) then some false else zfc k k a0 b1 0 (some true))
def zyl:Head:=⟨[],[],[]⟩
def zym (k:Nat):LD Bool:=⟨4,⟨[(0,V1),(1,V1),(5,V0)],[],[]⟩,[(0,zyl)],fun n x kx=>zfc k n x.1.1 x.1.2.1 x.1.2.2.1 (kx 0 (zyl.fill ((),(),()))),k⟩
def z1g9 (k:Nat):FE:=⟨(.pr U5 U5),1,.bool,fun x=>zmi k x.1 x.2⟩
theorem z1ga (k:Nat):z8 Tryz.prog 137 (z1g9 k):=okC zb xTn xOn Tryz.f137 (orc (zym k) (LOn _)) (xLo (zym k) (by rintro n ⟨⟨a0,b1,i5,⟨⟩⟩,⟨⟩,⟨⟩⟩ kx; kernel_rfl) xLn) (by rintro ⟨a0,b1⟩; kernel_rfl)
def zfd (k:Nat):Nat→zT10→zT1→Int→(Option Int)→Option Int
 | 0,_,_,_,_=>none
 | n+1,c0,s1,i5,e_0=>(if (decide (i5<(List.length c0:Int))) then (if 0≤i5 then (c0[i5.toNat]?).bind fun y_1=>(zmi k y_1 s1).bind fun r_2=>(if r_2 then some i5 else zfd k n c0 s1 (z6 (i5+1)) e_0) else none) else e_0)
def zij (k:Nat) (c0:List zT1) (s1:List Int):Option Int:=zfd k k c0 s1 0 (some (-1))
def zyn:Head:=⟨[],[],[]⟩
def zyo (k:Nat):LD Int:=⟨2,⟨[(0,V6),(1,V1),(5,V0)],[],[]⟩,[(0,zyn)],fun n x kx=>zfd k n x.1.1 x.1.2.1 x.1.2.2.1 (kx 0 (zyn.fill ((),(),()))),k⟩
def z1gb (k:Nat):FE:=⟨(.pr U24 U5),1,U0,fun x=>zij k x.1 x.2⟩
theorem zyp (k:Nat):z8 Tryz.prog 96 (z1gb k):=okC zb (xTc (z1ga k) xTn) xOn Tryz.f96 (orc (zyo k) (LOn _)) (xLo (zyo k) (by rintro n ⟨⟨c0,s1,i5,⟨⟩⟩,⟨⟩,⟨⟩⟩ kx; kernel_rfl) xLn) (by rintro ⟨c0,s1⟩; kernel_rfl)
def z97 (k:Nat):Nat→zT10→Int→zT1→Int→(zT10→Int→Option Bool)→Option Bool
 | 0,_,_,_,_,_=>none
 | n+1,c0,i3,s4,k5,e_2=>(if (decide (k5<(List.length s4:Int))) then (if (decide (1<(List.length s4:Int))) then (zc6 s4 k5).bind fun r_5=>(zij k c0 r_5).bind fun r_6=>(if (decide (r_6<0)) then some false else z97 k n c0 i3 s4 (z6 (k5+1)) e_2) else e_2 c0 i3) else e_2 c0 i3)
def z79 (k:Nat):Nat→zT10→Int→(Option Bool)→Option Bool
 | 0,_,_,_=>none
 | n+1,c0,i3,e_0=>(if (decide (i3<(List.length c0:Int))) then (if 0≤i3 then (c0[i3.toNat]?).bind fun y_1=>(zmg k y_1).bind fun r_2=>(if (!r_2) then some false else (if (decide (0<i3)) then (if 0≤(z6 (i3-1)) then (c0[(z6 (i3-1)).toNat]?).bind fun y_3=>(zmh k y_3 y_1).bind fun r_4=>(if (!r_4) then some false else z97 k k c0 i3 y_1 0 (fun c_5 i_6=>z79 k n c_5 (z6 (i_6+1)) e_0)) else none) else z97 k k c0 i3 y_1 0 (fun c_7 i_8=>z79 k n c_7 (z6 (i_8+1)) e_0))) else none) else e_0)
def zmj (k:Nat) (c0:List zT1):Option Bool:=(if (decide (48<(List.length c0:Int))) then some false else z79 k k c0 0 (some true))
def zyq:Head:=⟨[(0,V6),(3,V0)],[],[]⟩
def zyr (k:Nat):LD Bool:=⟨10,⟨[(0,V6),(3,V0),(4,V1),(5,V0)],[],[]⟩,[(2,zyq)],fun n x kx=>z97 k n x.1.1 x.1.2.1 x.1.2.2.1 x.1.2.2.2.1 (fun c0 i3=>kx 2 (zyq.fill ((c0,i3,()),(),()))),k⟩
def zys:Head:=⟨[],[],[]⟩
def zyt (k:Nat):LD Bool:=⟨4,⟨[(0,V6),(3,V0)],[],[]⟩,[(0,zys)],fun n x kx=>z79 k n x.1.1 x.1.2.1 (kx 0 (zys.fill ((),(),()))),k⟩
def z1gc (k:Nat):FE:=⟨U24,1,.bool,fun x=>zmj k x⟩
theorem z1gd (k:Nat):z8 Tryz.prog 54 (z1gc k):=okC zb (xTc (z1g4 k) (xTc (z1g6 k) (xTc zs6 (xTc (zyp k) xTn)))) xOn Tryz.f54 (orc (zyr k) (orc (zyt k) (LOn _))) (xLo (zyt k) (by rintro n ⟨⟨c0,i3,⟨⟩⟩,⟨⟩,⟨⟩⟩ kx; kernel_rfl) (xLo (zyr k) (by rintro n ⟨⟨c0,i3,s4,k5,⟨⟩⟩,⟨⟩,⟨⟩⟩ kx; kernel_rfl) xLn)) (by rintro c0; kernel_rfl)
def z98 (k:Nat):Nat→Int→Int→(Option Bool)→Option Bool
 | 0,_,_,_=>none
 | n+1,p0,k3,e_0=>(if (decide ((z6 (k3*k3))≤p0)) then (if k3=0 then none else (if (decide ((Int.tmod p0 k3)=0)) then some false else z98 k n p0 (z6 (k3+1)) e_0)) else e_0)
def zs7 (k:Nat) (p0:Int):Option Bool:=(z30 p0 2 251).bind fun r_1=>(if (!r_1) then some false else z98 k k p0 2 (some true))
def zyu:Head:=⟨[],[],[]⟩
def zyv (k:Nat):LD Bool:=⟨4,⟨[(0,V0),(3,V0)],[],[]⟩,[(0,zyu)],fun n x kx=>z98 k n x.1.1 x.1.2.1 (kx 0 (zyu.fill ((),(),()))),k⟩
def z1ge (k:Nat):FE:=⟨U0,1,.bool,fun x=>zs7 k x⟩
theorem z1gf (k:Nat):z8 Tryz.prog 97 (z1ge k):=okC zb (xTc z96 xTn) xOn Tryz.f97 (orc (zyv k) (LOn _)) (xLo (zyv k) (by rintro n ⟨⟨p0,k3,⟨⟩⟩,⟨⟩,⟨⟩⟩ kx; kernel_rfl) xLn) (by rintro p0; kernel_rfl)
end
end Go.Proofs.YtfinlkoplekgkaaGreatDoor.Ev
