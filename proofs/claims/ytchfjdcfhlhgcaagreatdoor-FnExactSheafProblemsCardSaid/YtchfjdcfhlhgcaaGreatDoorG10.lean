/- Functions of the program, as plain ones. No conditions. -/
import Derived.Test.YtchfjdcfhlhgcaaGreatDoorG9
import Derived.KernelRfl
set_option linter.unusedVariables false
set_option maxRecDepth 100000
namespace Go.Proofs.YtchfjdcfhlhgcaaGreatDoor.Ev
open Go.RowKit
noncomputable section
def zeh (k:Nat):Nat→zT13→zT13→Int→(Option Bool)→Option Bool
 | 0,_,_,_,_=>none
 | n+1,a0,b1,i5,e_0=>(if (decide (i5<(List.length a0:Int))) then (if 0≤i5 then (a0[i5.toNat]?).bind fun y_1=>(if 0≤i5 then (b1[i5.toNat]?).bind fun y_2=>(zlb y_1 y_2).bind fun r_3=>(if (!r_3) then some false else zeh k n a0 b1 (z6 (i5+1)) e_0) else none) else none) else e_0)
def zlc (k:Nat) (a0:List zT2) (b1:List zT2):Option Bool:=(if (!(decide ((List.length a0:Int)=(List.length b1:Int)))) then some false else zeh k k a0 b1 0 (some true))
def zxk:Head:=⟨[],[],[]⟩
def zxl (k:Nat):LD Bool:=⟨4,⟨[(0,(.val U27)),(1,(.val U27)),(5,V0)],[],[]⟩,[(0,zxk)],fun n x kx=>zeh k n x.1.1 x.1.2.1 x.1.2.2.1 (kx 0 (zxk.fill ((),(),()))),k⟩
def z1dz (k:Nat):FE:=⟨(.pr U27 U27),1,.bool,fun x=>zlc k x.1 x.2⟩
theorem z1e0 (k:Nat):z8 Tryz.prog 54 (z1dz k):=okC zb (xTc z1e1 xTn) xOn Tryz.f54 (orc (zxl k) (LOn _)) (xLo (zxl k) (by rintro n ⟨⟨a0,b1,i5,⟨⟩⟩,⟨⟩,⟨⟩⟩ kx; kernel_rfl) xLn) (by rintro ⟨a0,b1⟩; kernel_rfl)
def zld (k:Nat) (a0:Int×Int×Int×List zT2) (b1:Int×Int×Int×List zT2):Option Bool:=(if (!(decide (a0.1=b1.1))) then some false else (if (!(decide (a0.2.1=b1.2.1))) then some false else (if (!(decide (a0.2.2.1=b1.2.2.1))) then some false else (zlc k a0.2.2.2 b1.2.2.2).bind fun r_1=>(if (!r_1) then some false else some true))))
def z1e2 (k:Nat):FE:=⟨(.pr U9 U9),1,.bool,fun x=>zld k x.1 x.2⟩
theorem z1e3 (k:Nat):z8 Tryz.prog 27 (z1e2 k):=okC zb (xTc (z1e0 k) xTn) xOn Tryz.f27 (LOn _) xLn (by rintro ⟨a0,b1⟩; kernel_rfl)
def zle (a0:Int×Int×Int) (b1:Int×Int×Int):Option Bool:=(if (!(decide (a0.1=b1.1))) then some false else (if (!(decide (a0.2.1=b1.2.1))) then some false else (if (!(decide (a0.2.2=b1.2.2))) then some false else some true)))
def z1e4:FE:=⟨(.pr U4 U4),1,.bool,fun x=>zle x.1 x.2⟩
theorem z1e5:z8 Tryz.prog 108 (z1e4):=okC zb xTn xOn Tryz.f108 (LOn _) xLn (by rintro ⟨a0,b1⟩; kernel_rfl)
def zei (k:Nat):Nat→zT13→zT13→Int→(Option Bool)→Option Bool
 | 0,_,_,_,_=>none
 | n+1,a0,b1,i5,e_0=>(if (decide (i5<(List.length a0:Int))) then (if 0≤i5 then (a0[i5.toNat]?).bind fun y_1=>(if 0≤i5 then (b1[i5.toNat]?).bind fun y_2=>(zle y_1 y_2).bind fun r_3=>(if (!r_3) then some false else zei k n a0 b1 (z6 (i5+1)) e_0) else none) else none) else e_0)
def zlf (k:Nat) (a0:List zT2) (b1:List zT2):Option Bool:=(if (!(decide ((List.length a0:Int)=(List.length b1:Int)))) then some false else zei k k a0 b1 0 (some true))
def zxm:Head:=⟨[],[],[]⟩
def zxn (k:Nat):LD Bool:=⟨4,⟨[(0,(.val U28)),(1,(.val U28)),(5,V0)],[],[]⟩,[(0,zxm)],fun n x kx=>zei k n x.1.1 x.1.2.1 x.1.2.2.1 (kx 0 (zxm.fill ((),(),()))),k⟩
def z1e6 (k:Nat):FE:=⟨(.pr U28 U28),1,.bool,fun x=>zlf k x.1 x.2⟩
theorem z1e7 (k:Nat):z8 Tryz.prog 55 (z1e6 k):=okC zb (xTc z1e5 xTn) xOn Tryz.f55 (orc (zxn k) (LOn _)) (xLo (zxn k) (by rintro n ⟨⟨a0,b1,i5,⟨⟩⟩,⟨⟩,⟨⟩⟩ kx; kernel_rfl) xLn) (by rintro ⟨a0,b1⟩; kernel_rfl)
def zlg (k:Nat) (a0:Int×Int×List zT2) (b1:Int×Int×List zT2):Option Bool:=(if (!(decide (a0.1=b1.1))) then some false else (if (!(decide (a0.2.1=b1.2.1))) then some false else (zlf k a0.2.2 b1.2.2).bind fun r_1=>(if (!r_1) then some false else some true)))
def z1e8 (k:Nat):FE:=⟨(.pr U10 U10),1,.bool,fun x=>zlg k x.1 x.2⟩
theorem z1e9 (k:Nat):z8 Tryz.prog 28 (z1e8 k):=okC zb (xTc (z1e7 k) xTn) xOn Tryz.f28 (LOn _) xLn (by rintro ⟨a0,b1⟩; kernel_rfl)
def zlh (k:Nat) (a0:zT3×Int×List Int×List Int×zT7×List Int×List Int×zT10×List Int) (b1:zT3×Int×List Int×List Int×zT7×List Int×List Int×zT10×List Int):Option Bool:=(zli k a0.1 b1.1).bind fun r_1=>(if (!r_1) then some false else (if (!(decide (a0.2.1=b1.2.1))) then some false else (z6v k a0.2.2.1 b1.2.2.1).bind fun r_2=>(if (!r_2) then some false else (z6v k a0.2.2.2.1 b1.2.2.2.1).bind fun r_3=>(if (!r_3) then some false else (zld k a0.2.2.2.2.1 b1.2.2.2.2.1).bind fun r_4=>(if (!r_4) then some false else (z6v k a0.2.2.2.2.2.1 b1.2.2.2.2.2.1).bind fun r_5=>(if (!r_5) then some false else (z6v k a0.2.2.2.2.2.2.1 b1.2.2.2.2.2.2.1).bind fun r_6=>(if (!r_6) then some false else (zlg k a0.2.2.2.2.2.2.2.1 b1.2.2.2.2.2.2.2.1).bind fun r_7=>(if (!r_7) then some false else (z6v k a0.2.2.2.2.2.2.2.2 b1.2.2.2.2.2.2.2.2).bind fun r_8=>(if (!r_8) then some false else some true)))))))))
def z1ea (k:Nat):FE:=⟨(.pr U19 U19),1,.bool,fun x=>zlh k x.1 x.2⟩
theorem z1eb (k:Nat):z8 Tryz.prog 9 (z1ea k):=okC zb (xTc (z1ec k) (xTc (zlj k) (xTc (z1e3 k) (xTc (z1e9 k) xTn)))) xOn Tryz.f9 (LOn _) xLn (by rintro ⟨a0,b1⟩; kernel_rfl)
def zej (k:Nat):Nat→Nat→Int→Int→zT8→(Int→zT8→Option zT12)→Option zT12
 | 0,_,_,_,_,_=>none
 | n+1,a0n0,k1,i5,q_2,e_0=>(q_2[a0n0]?).bind fun y_3=>(if (decide (i5<(List.length y_3:Int))) then (q_2[a0n0]?).bind fun y_4=>(if 0≤i5∧i5.toNat<List.length y_4 then (q_2[a0n0]?).bind fun y_5=>(y_5[i5.toNat]?).bind fun y_6=>(q_2[a0n0]?).bind fun y_7=>(y_7[i5.toNat]?).bind fun y_8=>zej k n a0n0 (z6 (k1+1)) (z6 (i5+1)) (q_2.set a0n0 (y_7.set i5.toNat k1)) e_0 else none) else e_0 k1 q_2)
def zlk (k:Nat) (a0n0:Nat) (k1:Int) (q_1:List zT1):Option zT12:=zej k k a0n0 k1 0 q_1 (fun k_9 q_10=>some ((k_9,()),(q_10,()),()))
def zxo:Head:=⟨[(1,V0)],[(1000000000,25,U5,false)],[]⟩
def zxp (k:Nat):LD zT12:=⟨2,⟨[(0,(.ref 1000000000 [.ix])),(1,V0),(5,V0)],[(1000000000,25,U5,false)],[]⟩,[(0,zxo)],fun n x kx=>zej k n x.1.1.1 x.1.2.1 x.1.2.2.1 x.2.1.1 (fun k1 q_9=>kx 0 (zxo.fill ((k1,()),(q_9,()),()))),k⟩
def z1ed (k:Nat):OC:=⟨⟨[(0,(.ref 1000000000 [.ix])),(1,V0)],[(1000000000,25,U5,false)],[]⟩,⟨[(0,V0)],[(1000000000,25,U5,false)],[]⟩,fun x=>zlk k x.1.1.1 x.1.2.1 x.2.1.1,false⟩
theorem z1ee (k:Nat):z1c Tryz.prog ti 30 (z1ed k):=okO zb xTn xOn Tryz.f30 (orc (zxp k) (LOn _)) (fun _ _=>xLo (zxp k) (by rintro n ⟨⟨⟨a0n0,⟨⟩⟩,k1,i5,⟨⟩⟩,⟨q_2,⟨⟩⟩,⟨⟩⟩ kx; kernel_rfl) xLn) (by rintro _ _ ⟨⟨⟨a0n0,⟨⟩⟩,k1,⟨⟩⟩,⟨q_1,⟨⟩⟩,⟨⟩⟩; kernel_rfl)
def zek (k:Nat):Nat→Int→Int→zT8→(Int→zT8→Option zT12)→Option zT12
 | 0,_,_,_,_=>none
 | n+1,k1,i5,q_2,e_0=>(if (decide (i5<(List.length q_2:Int))) then (if 0≤i5∧i5.toNat<List.length q_2 then (q_2[i5.toNat]?).bind fun y_3=>(zlk k i5.toNat k1 q_2).bind fun y_4=>zek k n y_4.1.1 (z6 (i5+1)) y_4.2.1.1 e_0 else none) else e_0 k1 q_2)
def zll (k:Nat) (k1:Int) (q_1:List zT1):Option zT12:=zek k k k1 0 q_1 (fun k_5 q_6=>some ((k_5,()),(q_6,()),()))
def zxq:Head:=⟨[(1,V0)],[(1000000000,25,U5,false)],[]⟩
def zxr (k:Nat):LD zT12:=⟨2,⟨[(0,(.ref 1000000000 [])),(1,V0),(5,V0)],[(1000000000,25,U5,false)],[]⟩,[(0,zxq)],fun n x kx=>zek k n x.1.2.1 x.1.2.2.1 x.2.1.1 (fun k1 q_6=>kx 0 (zxq.fill ((k1,()),(q_6,()),()))),k⟩
def z1ef (k:Nat):OC:=⟨⟨[(0,(.ref 1000000000 [])),(1,V0)],[(1000000000,25,U5,false)],[]⟩,⟨[(0,V0)],[(1000000000,25,U5,false)],[]⟩,fun x=>zll k x.1.2.1 x.2.1.1,false⟩
theorem z1eg (k:Nat):z1c Tryz.prog ti 109 (z1ef k):=okO zb xTn (xOc 17 (z1ee k) xOn) Tryz.f109 (orc (zxr k) (LOn _)) (fun _ _=>xLo (zxr k) (by rintro n ⟨⟨⟨⟩,k1,i5,⟨⟩⟩,⟨q_2,⟨⟩⟩,⟨⟩⟩ kx; kernel_rfl) xLn) (by rintro _ _ ⟨⟨⟨⟩,k1,⟨⟩⟩,⟨q_1,⟨⟩⟩,⟨⟩⟩; kernel_rfl)
def zr1 (k:Nat) (k1:Int) (q_1:List zT1):Option zT12:=(zll k k1 q_1).bind fun y_2=>some ((y_2.1.1,()),(y_2.2.1.1,()),())
def z1eh (k:Nat):OC:=⟨⟨[(0,(.st (.ref 1000000000 []))),(1,V0)],[(1000000000,25,U5,false)],[]⟩,⟨[(0,V0)],[(1000000000,25,U5,false)],[]⟩,fun x=>zr1 k x.1.2.1 x.2.1.1,false⟩
theorem z1ei (k:Nat):z1c Tryz.prog ti 56 (z1eh k):=okO zb xTn (xOc 8 (z1eg k) xOn) Tryz.f56 (LOn _) (fun _ _=>xLn) (by rintro _ _ ⟨⟨⟨⟩,k1,⟨⟩⟩,⟨q_1,⟨⟩⟩,⟨⟩⟩; kernel_rfl)
def zel (k:Nat):Nat→Int→Int→zT1→(Int→zT1→Option zT18)→Option zT18
 | 0,_,_,_,_=>none
 | n+1,k1,i5,q_2,e_0=>(if (decide (i5<(List.length q_2:Int))) then (if 0≤i5∧i5.toNat<List.length q_2 then (q_2[i5.toNat]?).bind fun y_3=>(q_2[i5.toNat]?).bind fun y_4=>zel k n (z6 (k1+1)) (z6 (i5+1)) (q_2.set i5.toNat k1) e_0 else none) else e_0 k1 q_2)
def z8m (k:Nat) (k1:Int) (q_1:List Int):Option zT18:=zel k k k1 0 q_1 (fun k_5 q_6=>some ((k_5,()),(q_6,()),()))
def zxs:Head:=⟨[(1,V0)],[(1000000000,2,U0,false)],[]⟩
def zxt (k:Nat):LD zT18:=⟨2,⟨[(0,(.ref 1000000000 [])),(1,V0),(5,V0)],[(1000000000,2,U0,false)],[]⟩,[(0,zxs)],fun n x kx=>zel k n x.1.2.1 x.1.2.2.1 x.2.1.1 (fun k1 q_5=>kx 0 (zxs.fill ((k1,()),(q_5,()),()))),k⟩
def z1ej (k:Nat):OC:=⟨⟨[(0,(.ref 1000000000 [])),(1,V0)],[(1000000000,2,U0,false)],[]⟩,⟨[(0,V0)],[(1000000000,2,U0,false)],[]⟩,fun x=>z8m k x.1.2.1 x.2.1.1,false⟩
theorem zem (k:Nat):z1c Tryz.prog ti 30 (z1ej k):=okO zb xTn xOn Tryz.f30 (orc (zxt k) (LOn _)) (fun _ _=>xLo (zxt k) (by rintro n ⟨⟨⟨⟩,k1,i5,⟨⟩⟩,⟨q_2,⟨⟩⟩,⟨⟩⟩ kx; kernel_rfl) xLn) (by rintro _ _ ⟨⟨⟨⟩,k1,⟨⟩⟩,⟨q_1,⟨⟩⟩,⟨⟩⟩; kernel_rfl)
def zen (k:Nat):Nat→Nat→Int→Int→zT22→(Int→zT22→Option zT11)→Option zT11
 | 0,_,_,_,_,_=>none
 | n+1,a0n0,k1,i5,q_2,e_0=>(q_2[a0n0]?).bind fun y_3=>(if (decide (i5<(List.length y_3.2.2.2:Int))) then (q_2[a0n0]?).bind fun y_4=>(if 0≤i5∧i5.toNat<List.length y_4.2.2.2 then (q_2[a0n0]?).bind fun y_5=>(y_5.2.2.2[i5.toNat]?).bind fun y_6=>(q_2[a0n0]?).bind fun y_7=>(y_7.2.2.2[i5.toNat]?).bind fun y_8=>zen k n a0n0 (z6 (k1+1)) (z6 (i5+1)) (q_2.set a0n0 (y_7.1,(y_7.2.1,(y_7.2.2.1,(y_7.2.2.2.set i5.toNat k1))))) e_0 else none) else e_0 k1 q_2)
def zlm (k:Nat) (a0n0:Nat) (k1:Int) (q_1:List zT0):Option zT11:=zen k k a0n0 k1 0 q_1 (fun k_9 q_10=>some ((k_9,()),(q_10,()),()))
def zxu:Head:=⟨[(1,V0)],[(1000000000,138,U1,false)],[]⟩
def zxv (k:Nat):LD zT11:=⟨2,⟨[(0,(.ref 1000000000 [.ix,.f true,.f true,.f true])),(1,V0),(5,V0)],[(1000000000,138,U1,false)],[]⟩,[(0,zxu)],fun n x kx=>zen k n x.1.1.1 x.1.2.1 x.1.2.2.1 x.2.1.1 (fun k1 q_9=>kx 0 (zxu.fill ((k1,()),(q_9,()),()))),k⟩
def z1ek (k:Nat):OC:=⟨⟨[(0,(.ref 1000000000 [.ix,.f true,.f true,.f true])),(1,V0)],[(1000000000,138,U1,false)],[]⟩,⟨[(0,V0)],[(1000000000,138,U1,false)],[]⟩,fun x=>zlm k x.1.1.1 x.1.2.1 x.2.1.1,false⟩
theorem z1el (k:Nat):z1c Tryz.prog ti 30 (z1ek k):=okO zb xTn xOn Tryz.f30 (orc (zxv k) (LOn _)) (fun _ _=>xLo (zxv k) (by rintro n ⟨⟨⟨a0n0,⟨⟩⟩,k1,i5,⟨⟩⟩,⟨q_2,⟨⟩⟩,⟨⟩⟩ kx; kernel_rfl) xLn) (by rintro _ _ ⟨⟨⟨a0n0,⟨⟩⟩,k1,⟨⟩⟩,⟨q_1,⟨⟩⟩,⟨⟩⟩; kernel_rfl)
def zeo (k:Nat):Nat→Int→Int→zT22→(Int→zT22→Option zT11)→Option zT11
 | 0,_,_,_,_=>none
 | n+1,k1,i5,q_2,e_0=>(if (decide (i5<(List.length q_2:Int))) then (if 0≤i5∧i5.toNat<List.length q_2 then (q_2[i5.toNat]?).bind fun y_3=>(q_2[i5.toNat]?).bind fun y_4=>(if 0≤i5∧i5.toNat<List.length (q_2.set i5.toNat (k1,y_3.2)) then ((q_2.set i5.toNat (k1,y_3.2))[i5.toNat]?).bind fun y_5=>((q_2.set i5.toNat (k1,y_3.2))[i5.toNat]?).bind fun y_6=>(if 0≤i5∧i5.toNat<List.length ((q_2.set i5.toNat (k1,y_3.2)).set i5.toNat (y_5.1,((z6 (k1+1)),y_5.2.2))) then (((q_2.set i5.toNat (k1,y_3.2)).set i5.toNat (y_5.1,((z6 (k1+1)),y_5.2.2)))[i5.toNat]?).bind fun y_7=>(((q_2.set i5.toNat (k1,y_3.2)).set i5.toNat (y_5.1,((z6 (k1+1)),y_5.2.2)))[i5.toNat]?).bind fun y_8=>(if 0≤i5∧i5.toNat<List.length (((q_2.set i5.toNat (k1,y_3.2)).set i5.toNat (y_5.1,((z6 (k1+1)),y_5.2.2))).set i5.toNat (y_7.1,(y_7.2.1,((z6 ((z6 (k1+1))+1)),y_7.2.2.2)))) then ((((q_2.set i5.toNat (k1,y_3.2)).set i5.toNat (y_5.1,((z6 (k1+1)),y_5.2.2))).set i5.toNat (y_7.1,(y_7.2.1,((z6 ((z6 (k1+1))+1)),y_7.2.2.2))))[i5.toNat]?).bind fun y_9=>(zlm k i5.toNat (z6 ((z6 ((z6 (k1+1))+1))+1)) (((q_2.set i5.toNat (k1,y_3.2)).set i5.toNat (y_5.1,((z6 (k1+1)),y_5.2.2))).set i5.toNat (y_7.1,(y_7.2.1,((z6 ((z6 (k1+1))+1)),y_7.2.2.2))))).bind fun y_10=>zeo k n y_10.1.1 (z6 (i5+1)) y_10.2.1.1 e_0 else none) else none) else none) else none) else e_0 k1 q_2)
def zln (k:Nat) (k1:Int) (q_1:List zT0):Option zT11:=zeo k k k1 0 q_1 (fun k_11 q_12=>some ((k_11,()),(q_12,()),()))
def zxw:Head:=⟨[(1,V0)],[(1000000000,138,U1,false)],[]⟩
def zxx (k:Nat):LD zT11:=⟨2,⟨[(0,(.ref 1000000000 [])),(1,V0),(5,V0)],[(1000000000,138,U1,false)],[]⟩,[(0,zxw)],fun n x kx=>zeo k n x.1.2.1 x.1.2.2.1 x.2.1.1 (fun k1 q_12=>kx 0 (zxw.fill ((k1,()),(q_12,()),()))),k⟩
def z1em (k:Nat):OC:=⟨⟨[(0,(.ref 1000000000 [])),(1,V0)],[(1000000000,138,U1,false)],[]⟩,⟨[(0,V0)],[(1000000000,138,U1,false)],[]⟩,fun x=>zln k x.1.2.1 x.2.1.1,false⟩
theorem z1en (k:Nat):z1c Tryz.prog ti 57 (z1em k):=okO zb xTn (xOc 39 (z1el k) xOn) Tryz.f57 (orc (zxx k) (LOn _)) (fun _ _=>xLo (zxx k) (by rintro n ⟨⟨⟨⟩,k1,i5,⟨⟩⟩,⟨q_2,⟨⟩⟩,⟨⟩⟩ kx; kernel_rfl) xLn) (by rintro _ _ ⟨⟨⟨⟩,k1,⟨⟩⟩,⟨q_1,⟨⟩⟩,⟨⟩⟩; kernel_rfl)
def zr2 (k:Nat) (a0ba:Int) (k1:Int) (q_1:List zT1) (q_2:List Int) (q_3:List zT0):Option (((Int×Unit)×(zT22×zT1×zT8×Unit)×Unit)):=(zr1 k k1 q_1).bind fun y_4=>(z8m k y_4.1.1 q_2).bind fun y_5=>(zln k y_5.1.1 q_3).bind fun y_6=>some ((y_6.1.1,()),(y_6.2.1.1,y_5.2.1.1,y_4.2.1.1,()),())
def z1eo (k:Nat):OC:=⟨⟨[(0,(.st (.pr (.st (.ref 1000000000 [])) (.pr V0 (.pr (.ref 1000000001 []) (.ref 1000000002 [])))))),(1,V0)],[(1000000000,25,U5,false),(1000000001,2,U0,false),(1000000002,138,U1,false)],[]⟩,⟨[(0,V0)],[(1000000002,138,U1,false),(1000000001,2,U0,false),(1000000000,25,U5,false)],[]⟩,fun x=>zr2 k x.1.1.2.1 x.1.2.1 x.2.1.1 x.2.1.2.1 x.2.1.2.2.1,false⟩
theorem z1ep (k:Nat):z1c Tryz.prog ti 29 (z1eo k):=okO zb xTn (xOc 8 (z1ei k) (xOc 12 (zem k) (xOc 16 (z1en k) xOn))) Tryz.f29 (LOn _) (fun _ _=>xLn) (by rintro _ _ ⟨⟨⟨⟨⟩,⟨a0ba,⟨⟨⟩,⟨⟩⟩⟩⟩,k1,⟨⟩⟩,⟨q_1,q_2,q_3,⟨⟩⟩,⟨⟩⟩; kernel_rfl)
def zep (k:Nat):Nat→Int→Int→zT13→(Int→zT13→Option zT9)→Option zT9
 | 0,_,_,_,_=>none
 | n+1,k1,i5,q_2,e_0=>(if (decide (i5<(List.length q_2:Int))) then (if 0≤i5∧i5.toNat<List.length q_2 then (q_2[i5.toNat]?).bind fun y_3=>(q_2[i5.toNat]?).bind fun y_4=>(if 0≤i5∧i5.toNat<List.length (q_2.set i5.toNat (k1,y_3.2)) then ((q_2.set i5.toNat (k1,y_3.2))[i5.toNat]?).bind fun y_5=>((q_2.set i5.toNat (k1,y_3.2))[i5.toNat]?).bind fun y_6=>(if 0≤i5∧i5.toNat<List.length ((q_2.set i5.toNat (k1,y_3.2)).set i5.toNat (y_5.1,((z6 (k1+1)),y_5.2.2))) then (((q_2.set i5.toNat (k1,y_3.2)).set i5.toNat (y_5.1,((z6 (k1+1)),y_5.2.2)))[i5.toNat]?).bind fun y_7=>(((q_2.set i5.toNat (k1,y_3.2)).set i5.toNat (y_5.1,((z6 (k1+1)),y_5.2.2)))[i5.toNat]?).bind fun y_8=>zep k n (z6 ((z6 ((z6 (k1+1))+1))+1)) (z6 (i5+1)) (((q_2.set i5.toNat (k1,y_3.2)).set i5.toNat (y_5.1,((z6 (k1+1)),y_5.2.2))).set i5.toNat (y_7.1,(y_7.2.1,(z6 ((z6 (k1+1))+1))))) e_0 else none) else none) else none) else e_0 k1 q_2)
def zlo (k:Nat) (k1:Int) (q_1:List zT2):Option zT9:=zep k k k1 0 q_1 (fun k_9 q_10=>some ((k_9,()),(q_10,()),()))
def zxy:Head:=⟨[(1,V0)],[(1000000000,141,U4,false)],[]⟩
def zxz (k:Nat):LD zT9:=⟨2,⟨[(0,(.ref 1000000000 [])),(1,V0),(5,V0)],[(1000000000,141,U4,false)],[]⟩,[(0,zxy)],fun n x kx=>zep k n x.1.2.1 x.1.2.2.1 x.2.1.1 (fun k1 q_9=>kx 0 (zxy.fill ((k1,()),(q_9,()),()))),k⟩
def z1eq (k:Nat):OC:=⟨⟨[(0,(.ref 1000000000 [])),(1,V0)],[(1000000000,141,U4,false)],[]⟩,⟨[(0,V0)],[(1000000000,141,U4,false)],[]⟩,fun x=>zlo k x.1.2.1 x.2.1.1,false⟩
theorem z1er (k:Nat):z1c Tryz.prog ti 58 (z1eq k):=okO zb xTn xOn Tryz.f58 (orc (zxz k) (LOn _)) (fun _ _=>xLo (zxz k) (by rintro n ⟨⟨⟨⟩,k1,i5,⟨⟩⟩,⟨q_2,⟨⟩⟩,⟨⟩⟩ kx; kernel_rfl) xLn) (by rintro _ _ ⟨⟨⟨⟩,k1,⟨⟩⟩,⟨q_1,⟨⟩⟩,⟨⟩⟩; kernel_rfl)
def zr3 (k:Nat) (a0a:Int) (a0ba:Int) (a0bba:Int) (k1:Int) (q_1:List zT2):Option zT9:=(zlo k k1 q_1).bind fun y_2=>some ((y_2.1.1,()),(y_2.2.1.1,()),())
def z1es (k:Nat):OC:=⟨⟨[(0,(.st (.pr V0 (.pr V0 (.pr V0 (.ref 1000000000 [])))))),(1,V0)],[(1000000000,141,U4,false)],[]⟩,⟨[(0,V0)],[(1000000000,141,U4,false)],[]⟩,fun x=>zr3 k x.1.1.1 x.1.1.2.1 x.1.1.2.2.1 x.1.2.1 x.2.1.1,false⟩
theorem z1et (k:Nat):z1c Tryz.prog ti 31 (z1es k):=okO zb xTn (xOc 8 (z1er k) xOn) Tryz.f31 (LOn _) (fun _ _=>xLn) (by rintro _ _ ⟨⟨⟨a0a,⟨a0ba,⟨a0bba,⟨⟩⟩⟩⟩,k1,⟨⟩⟩,⟨q_1,⟨⟩⟩,⟨⟩⟩; kernel_rfl)
def zeq (k:Nat):Nat→Int→Int→zT13→(Int→zT13→Option zT9)→Option zT9
 | 0,_,_,_,_=>none
 | n+1,k1,i5,q_2,e_0=>(if (decide (i5<(List.length q_2:Int))) then (if 0≤i5∧i5.toNat<List.length q_2 then (q_2[i5.toNat]?).bind fun y_3=>(q_2[i5.toNat]?).bind fun y_4=>(if 0≤i5∧i5.toNat<List.length (q_2.set i5.toNat (k1,y_3.2)) then ((q_2.set i5.toNat (k1,y_3.2))[i5.toNat]?).bind fun y_5=>((q_2.set i5.toNat (k1,y_3.2))[i5.toNat]?).bind fun y_6=>(if 0≤i5∧i5.toNat<List.length ((q_2.set i5.toNat (k1,y_3.2)).set i5.toNat (y_5.1,((z6 (k1+1)),y_5.2.2))) then (((q_2.set i5.toNat (k1,y_3.2)).set i5.toNat (y_5.1,((z6 (k1+1)),y_5.2.2)))[i5.toNat]?).bind fun y_7=>(((q_2.set i5.toNat (k1,y_3.2)).set i5.toNat (y_5.1,((z6 (k1+1)),y_5.2.2)))[i5.toNat]?).bind fun y_8=>zeq k n (z6 ((z6 ((z6 (k1+1))+1))+1)) (z6 (i5+1)) (((q_2.set i5.toNat (k1,y_3.2)).set i5.toNat (y_5.1,((z6 (k1+1)),y_5.2.2))).set i5.toNat (y_7.1,(y_7.2.1,(z6 ((z6 (k1+1))+1))))) e_0 else none) else none) else none) else e_0 k1 q_2)
def zlp (k:Nat) (k1:Int) (q_1:List zT2):Option zT9:=zeq k k k1 0 q_1 (fun k_9 q_10=>some ((k_9,()),(q_10,()),()))
def zy0:Head:=⟨[(1,V0)],[(1000000000,136,U4,false)],[]⟩
def zy1 (k:Nat):LD zT9:=⟨2,⟨[(0,(.ref 1000000000 [])),(1,V0),(5,V0)],[(1000000000,136,U4,false)],[]⟩,[(0,zy0)],fun n x kx=>zeq k n x.1.2.1 x.1.2.2.1 x.2.1.1 (fun k1 q_9=>kx 0 (zy0.fill ((k1,()),(q_9,()),()))),k⟩
def z1eu (k:Nat):OC:=⟨⟨[(0,(.ref 1000000000 [])),(1,V0)],[(1000000000,136,U4,false)],[]⟩,⟨[(0,V0)],[(1000000000,136,U4,false)],[]⟩,fun x=>zlp k x.1.2.1 x.2.1.1,false⟩
theorem z1ev (k:Nat):z1c Tryz.prog ti 59 (z1eu k):=okO zb xTn xOn Tryz.f59 (orc (zy1 k) (LOn _)) (fun _ _=>xLo (zy1 k) (by rintro n ⟨⟨⟨⟩,k1,i5,⟨⟩⟩,⟨q_2,⟨⟩⟩,⟨⟩⟩ kx; kernel_rfl) xLn) (by rintro _ _ ⟨⟨⟨⟩,k1,⟨⟩⟩,⟨q_1,⟨⟩⟩,⟨⟩⟩; kernel_rfl)
def zr4 (k:Nat) (a0a:Int) (a0ba:Int) (k1:Int) (q_1:List zT2):Option zT9:=(zlp k k1 q_1).bind fun y_2=>some ((y_2.1.1,()),(y_2.2.1.1,()),())
def z1ew (k:Nat):OC:=⟨⟨[(0,(.st (.pr V0 (.pr V0 (.ref 1000000000 []))))),(1,V0)],[(1000000000,136,U4,false)],[]⟩,⟨[(0,V0)],[(1000000000,136,U4,false)],[]⟩,fun x=>zr4 k x.1.1.1 x.1.1.2.1 x.1.2.1 x.2.1.1,false⟩
theorem z1ex (k:Nat):z1c Tryz.prog ti 32 (z1ew k):=okO zb xTn (xOc 8 (z1ev k) xOn) Tryz.f32 (LOn _) (fun _ _=>xLn) (by rintro _ _ ⟨⟨⟨a0a,⟨a0ba,⟨⟩⟩⟩,k1,⟨⟩⟩,⟨q_1,⟨⟩⟩,⟨⟩⟩; kernel_rfl)
def zho (k:Nat) (a0aba:Int) (a0ba:Int) (a0bbbbaa:Int) (a0bbbbaba:Int) (a0bbbbabba:Int) (a0bbbbbbbaa:Int) (a0bbbbbbbaba:Int) (k1:Int) (q_1:List zT1) (q_2:List Int) (q_3:List zT0) (q_4:List Int) (q_5:List Int) (q_6:List zT2) (q_7:List Int) (q_8:List Int) (q_9:List zT2) (q_10:List Int):Option zT21:=(zr2 k a0aba k1 q_1 q_2 q_3).bind fun y_11=>(z8m k y_11.1.1 q_4).bind fun y_12=>(z8m k y_12.1.1 q_5).bind fun y_13=>(zr3 k a0bbbbaa a0bbbbaba a0bbbbabba y_13.1.1 q_6).bind fun y_14=>(z8m k y_14.1.1 q_7).bind fun y_15=>(z8m k y_15.1.1 q_8).bind fun y_16=>(zr4 k a0bbbbbbbaa a0bbbbbbbaba y_16.1.1 q_9).bind fun y_17=>(z8m k y_17.1.1 q_10).bind fun y_18=>some ((y_18.1.1,()),(y_18.2.1.1,y_17.2.1.1,y_16.2.1.1,y_15.2.1.1,y_14.2.1.1,y_13.2.1.1,y_12.2.1.1,y_11.2.1.1,y_11.2.1.2.1,y_11.2.1.2.2.1,()),())
def z1ey (k:Nat):OC:=⟨⟨[(0,(.st (.pr (.st (.pr (.st (.ref 1000000000 [])) (.pr V0 (.pr (.ref 1000000001 []) (.ref 1000000002 []))))) (.pr V0 (.pr (.ref 1000000003 []) (.pr (.ref 1000000004 []) (.pr (.st (.pr V0 (.pr V0 (.pr V0 (.ref 1000000005 []))))) (.pr (.ref 1000000006 []) (.pr (.ref 1000000007 []) (.pr (.st (.pr V0 (.pr V0 (.ref 1000000008 [])))) (.ref 1000000009 []))))))))))),(1,V0)],[(1000000000,25,U5,false),(1000000001,2,U0,false),(1000000002,138,U1,false),(1000000003,2,U0,false),(1000000004,2,U0,false),(1000000005,141,U4,false),(1000000006,2,U0,false),(1000000007,2,U0,false),(1000000008,136,U4,false),(1000000009,2,U0,false)],[]⟩,⟨[(0,V0)],[(1000000009,2,U0,false),(1000000008,136,U4,false),(1000000007,2,U0,false),(1000000006,2,U0,false),(1000000005,141,U4,false),(1000000004,2,U0,false),(1000000003,2,U0,false),(1000000002,138,U1,false),(1000000001,2,U0,false),(1000000000,25,U5,false)],[]⟩,fun x=>zho k x.1.1.1.2.1 x.1.1.2.1 x.1.1.2.2.2.2.1.1 x.1.1.2.2.2.2.1.2.1 x.1.1.2.2.2.2.1.2.2.1 x.1.1.2.2.2.2.2.2.2.1.1 x.1.1.2.2.2.2.2.2.2.1.2.1 x.1.2.1 x.2.1.1 x.2.1.2.1 x.2.1.2.2.1 x.2.1.2.2.2.1 x.2.1.2.2.2.2.1 x.2.1.2.2.2.2.2.1 x.2.1.2.2.2.2.2.2.1 x.2.1.2.2.2.2.2.2.2.1 x.2.1.2.2.2.2.2.2.2.2.1 x.2.1.2.2.2.2.2.2.2.2.2.1,false⟩
theorem z1ez (k:Nat):z1c Tryz.prog ti 10 (z1ey k):=okO zb xTn (xOc 8 (z1ep k) (xOc 12 (zem k) (xOc 16 (zem k) (xOc 20 (z1et k) (xOc 24 (zem k) (xOc 28 (zem k) (xOc 32 (z1ex k) (xOc 36 (zem k) xOn)))))))) Tryz.f10 (LOn _) (fun _ _=>xLn) (by rintro _ _ ⟨⟨⟨⟨⟨⟩,⟨a0aba,⟨⟨⟩,⟨⟩⟩⟩⟩,⟨a0ba,⟨⟨⟩,⟨⟨⟩,⟨⟨a0bbbbaa,⟨a0bbbbaba,⟨a0bbbbabba,⟨⟩⟩⟩⟩,⟨⟨⟩,⟨⟨⟩,⟨⟨a0bbbbbbbaa,⟨a0bbbbbbbaba,⟨⟩⟩⟩,⟨⟩⟩⟩⟩⟩⟩⟩⟩⟩,k1,⟨⟩⟩,⟨q_1,q_2,q_3,q_4,q_5,q_6,q_7,q_8,q_9,q_10,⟨⟩⟩,⟨⟩⟩; kernel_rfl)
def zbk (k:Nat):Nat→Int→zT14→(zT14→Option zT14)→Option zT14
 | 0,_,_,_=>none
 | n+1,k0,out3,e_0=>(if (decide (0<k0)) then (if (z8i [(z6r ((z6 (48+(Int.tmod k0 10)))))]).length+out3.length≤9223372036854775807 then zbk k n (z6 (Int.tdiv k0 10)) ((z8i [(z6r ((z6 (48+(Int.tmod k0 10)))))])++out3) e_0 else none) else e_0 out3)
def z8n (k:Nat) (k0:Int):Option zT14:=(if (decide (k0≤0)) then some [109,48] else zbk k k k0 [] (fun out_1=>(if [109].length+out_1.length≤9223372036854775807 then some ([109]++out_1) else none)))
def zy2:Head:=⟨[(3,(.val .str))],[],[]⟩
def zy3 (k:Nat):LD zT14:=⟨4,⟨[(0,V0),(3,(.val .str))],[],[]⟩,[(0,zy2)],fun n x kx=>zbk k n x.1.1 x.1.2.1 (fun out3=>kx 0 (zy2.fill ((out3,()),(),()))),k⟩
def z1f0 (k:Nat):FE:=⟨U0,1,.str,fun x=>z8n k x⟩
theorem zy4 (k:Nat):z8 Tryz.prog 33 (z1f0 k):=okC zb xTn xOn Tryz.f33 (orc (zy3 k) (LOn _)) (xLo (zy3 k) (by rintro n ⟨⟨k0,out3,⟨⟩⟩,⟨⟩,⟨⟩⟩ kx; kernel_rfl) xLn) (by rintro k0; kernel_rfl)
def zer (k:Nat):Nat→Int→Int→zT4→(Int→zT4→Option zT19)→Option zT19
 | 0,_,_,_,_=>none
 | n+1,k1,i5,q_2,e_0=>(if (decide (i5<(List.length q_2:Int))) then (if 0≤i5∧i5.toNat<List.length q_2 then (q_2[i5.toNat]?).bind fun y_3=>(q_2[i5.toNat]?).bind fun y_4=>(z8n k (z6 (k1+1))).bind fun r_5=>(if 0≤i5∧i5.toNat<List.length (q_2.set i5.toNat (k1,y_3.2)) then ((q_2.set i5.toNat (k1,y_3.2))[i5.toNat]?).bind fun y_6=>((q_2.set i5.toNat (k1,y_3.2))[i5.toNat]?).bind fun y_7=>(z8n k (z6 ((z6 (k1+1))+1))).bind fun r_8=>(if 0≤i5∧i5.toNat<List.length ((q_2.set i5.toNat (k1,y_3.2)).set i5.toNat (y_6.1,(r_5,y_6.2.2))) then (((q_2.set i5.toNat (k1,y_3.2)).set i5.toNat (y_6.1,(r_5,y_6.2.2)))[i5.toNat]?).bind fun y_9=>(((q_2.set i5.toNat (k1,y_3.2)).set i5.toNat (y_6.1,(r_5,y_6.2.2)))[i5.toNat]?).bind fun y_10=>zer k n (z6 ((z6 ((z6 (k1+1))+1))+1)) (z6 (i5+1)) (((q_2.set i5.toNat (k1,y_3.2)).set i5.toNat (y_6.1,(r_5,y_6.2.2))).set i5.toNat (y_9.1,(y_9.2.1,r_8))) e_0 else none) else none) else none) else e_0 k1 q_2)
def zhp (k:Nat) (k1:Int) (q_1:List zT20):Option zT19:=zer k k k1 0 q_1 (fun k_11 q_12=>some ((k_11,()),(q_12,()),()))
def zy5:Head:=⟨[(1,V0)],[(1000000000,73,U8,false)],[]⟩
def zy6 (k:Nat):LD zT19:=⟨2,⟨[(0,(.ref 1000000000 [])),(1,V0),(5,V0)],[(1000000000,73,U8,false)],[]⟩,[(0,zy5)],fun n x kx=>zer k n x.1.2.1 x.1.2.2.1 x.2.1.1 (fun k1 q_11=>kx 0 (zy5.fill ((k1,()),(q_11,()),()))),k⟩
def z1f1 (k:Nat):OC:=⟨⟨[(0,(.ref 1000000000 [])),(1,V0)],[(1000000000,73,U8,false)],[]⟩,⟨[(0,V0)],[(1000000000,73,U8,false)],[]⟩,fun x=>zhp k x.1.2.1 x.2.1.1,false⟩
theorem z1f2 (k:Nat):z1c Tryz.prog ti 11 (z1f1 k):=okO zb (xTc (zy4 k) xTn) xOn Tryz.f11 (orc (zy6 k) (LOn _)) (fun _ _=>xLo (zy6 k) (by rintro n ⟨⟨⟨⟩,k1,i5,⟨⟩⟩,⟨q_2,⟨⟩⟩,⟨⟩⟩ kx; kernel_rfl) xLn) (by rintro _ _ ⟨⟨⟨⟩,k1,⟨⟩⟩,⟨q_1,⟨⟩⟩,⟨⟩⟩; kernel_rfl)
end
end Go.Proofs.YtchfjdcfhlhgcaaGreatDoor.Ev
