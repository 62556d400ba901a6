/- Functions of the program, as plain ones. No conditions. -/
import Derived.Test.YtiodkblajaenbaaGreatDoorG0
import Derived.KernelRfl
set_option linter.unusedVariables false
set_option maxRecDepth 100000
namespace Go.Proofs.YtiodkblajaenbaaGreatDoor.Ev
open Go.RowKit
noncomputable section
def z79 (a0:List Int) (left1:Int):Option Int:=(if (decide ((z6 (left1-(List.length a0:Int)))<0)) then some (-1) else some (z6 (left1-(List.length a0:Int))))
def z1gn:FE:=⟨U31,1,U0,fun x=>z79 x.1 x.2⟩
theorem zmh:z8 Tryz.prog 14 (z1gn):=okC za xTn xOn Tryz.f14 (LOn _) xLn (by rintro ⟨a0,left1⟩; kernel_rfl)
def zfa (k:Nat):Nat→zT10→Int→Int→(Int→Option Int)→Option Int
 | 0,_,_,_,_=>none
 | n+1,a0,left1,i5,e_0=>(if (decide (i5<(List.length a0:Int))) then (if 0≤i5 then (a0[i5.toNat]?).bind fun y_1=>(z79 y_1 left1).bind fun r_2=>(if (decide (r_2<0)) then some (-1) else zfa k n a0 r_2 (z6 (i5+1)) e_0) else none) else e_0 left1)
def zmi (k:Nat) (a0:List zT1) (left1:Int):Option Int:=(if (decide ((z6 (left1-(List.length a0:Int)))<0)) then some (-1) else zfa k k a0 (z6 (left1-(List.length a0:Int))) 0 (fun left_3=>some left_3))
def zz5:Head:=⟨[(1,V0)],[],[]⟩
def zz6 (k:Nat):LD Int:=⟨5,⟨[(0,V3),(1,V0),(5,V0)],[],[]⟩,[(0,zz5)],fun n x kx=>zfa k n x.1.1 x.1.2.1 x.1.2.2.1 (fun left1=>kx 0 (zz5.fill ((left1,()),(),()))),k⟩
def z1go (k:Nat):FE:=⟨(.pr U16 U0),1,U0,fun x=>zmi k x.1 x.2⟩
theorem z1gp (k:Nat):z8 Tryz.prog 77 (z1go k):=okC za (xTc zmh xTn) xOn Tryz.f77 (orc (zz6 k) (LOn _)) (xLo (zz6 k) (by rintro n ⟨⟨a0,left1,i5,⟨⟩⟩,⟨⟩,⟨⟩⟩ kx; kernel_rfl) xLn) (by rintro ⟨a0,left1⟩; kernel_rfl)
def zmj (k:Nat) (a0:List zT1) (left1:Int):Option Int:=(zmi k a0 left1).bind fun r_1=>(if (decide (r_1<0)) then some (-1) else some r_1)
def z1gq (k:Nat):FE:=⟨(.pr U10 U0),1,U0,fun x=>zmj k x.1 x.2⟩
theorem z1gr (k:Nat):z8 Tryz.prog 38 (z1gq k):=okC za (xTc (z1gp k) xTn) xOn Tryz.f38 (LOn _) xLn (by rintro ⟨a0,left1⟩; kernel_rfl)
def zmk (a0:Int×Int×Int×List Int) (left1:Int):Option Int:=(z79 a0.2.2.2 left1).bind fun r_1=>(if (decide (r_1<0)) then some (-1) else some r_1)
def z1gs:FE:=⟨(.pr U1 U0),1,U0,fun x=>zmk x.1 x.2⟩
theorem z1gt:z8 Tryz.prog 78 (z1gs):=okC za (xTc zmh xTn) xOn Tryz.f78 (LOn _) xLn (by rintro ⟨a0,left1⟩; kernel_rfl)
def zfb (k:Nat):Nat→zT22→Int→Int→(Int→Option Int)→Option Int
 | 0,_,_,_,_=>none
 | n+1,a0,left1,i5,e_0=>(if (decide (i5<(List.length a0:Int))) then (if 0≤i5 then (a0[i5.toNat]?).bind fun y_1=>(zmk y_1 left1).bind fun r_2=>(if (decide (r_2<0)) then some (-1) else zfb k n a0 r_2 (z6 (i5+1)) e_0) else none) else e_0 left1)
def zml (k:Nat) (a0:List zT0) (left1:Int):Option Int:=(if (decide ((z6 (left1-(List.length a0:Int)))<0)) then some (-1) else zfb k k a0 (z6 (left1-(List.length a0:Int))) 0 (fun left_3=>some left_3))
def zz7:Head:=⟨[(1,V0)],[],[]⟩
def zz8 (k:Nat):LD Int:=⟨5,⟨[(0,(.val (.sl 130 U1))),(1,V0),(5,V0)],[],[]⟩,[(0,zz7)],fun n x kx=>zfb k n x.1.1 x.1.2.1 x.1.2.2.1 (fun left1=>kx 0 (zz7.fill ((left1,()),(),()))),k⟩
def z1gu (k:Nat):FE:=⟨(.pr (.sl 130 U1) U0),1,U0,fun x=>zml k x.1 x.2⟩
theorem z1gv (k:Nat):z8 Tryz.prog 39 (z1gu k):=okC za (xTc z1gt xTn) xOn Tryz.f39 (orc (zz8 k) (LOn _)) (xLo (zz8 k) (by rintro n ⟨⟨a0,left1,i5,⟨⟩⟩,⟨⟩,⟨⟩⟩ kx; kernel_rfl) xLn) (by rintro ⟨a0,left1⟩; kernel_rfl)
def zmm (k:Nat) (a0:List zT1×Int×List Int×List zT0) (left1:Int):Option Int:=(zmj k a0.1 left1).bind fun r_1=>(if (decide (r_1<0)) then some (-1) else (z79 a0.2.2.1 r_1).bind fun r_2=>(if (decide (r_2<0)) then some (-1) else (zml k a0.2.2.2 r_2).bind fun r_3=>(if (decide (r_3<0)) then some (-1) else some r_3)))
def z1gw (k:Nat):FE:=⟨(.pr U12 U0),1,U0,fun x=>zmm k x.1 x.2⟩
theorem z1gx (k:Nat):z8 Tryz.prog 13 (z1gw k):=okC za (xTc (z1gr k) (xTc zmh (xTc (z1gv k) xTn))) xOn Tryz.f13 (LOn _) xLn (by rintro ⟨a0,left1⟩; kernel_rfl)
def zmn (a0:List zT2) (left1:Int):Option Int:=(if (decide ((z6 (left1-(List.length a0:Int)))<0)) then some (-1) else some (z6 (left1-(List.length a0:Int))))
def z1gy:FE:=⟨(.pr (.sl 155 U3) U0),1,U0,fun x=>zmn x.1 x.2⟩
theorem z1gz:z8 Tryz.prog 40 (z1gy):=okC za xTn xOn Tryz.f40 (LOn _) xLn (by rintro ⟨a0,left1⟩; kernel_rfl)
def zmo (a0:Int×Int×Int×List zT2) (left1:Int):Option Int:=(zmn a0.2.2.2 left1).bind fun r_1=>(if (decide (r_1<0)) then some (-1) else some r_1)
def z1h0:FE:=⟨(.pr U15 U0),1,U0,fun x=>zmo x.1 x.2⟩
theorem z1h1:z8 Tryz.prog 15 (z1h0):=okC za (xTc z1gz xTn) xOn Tryz.f15 (LOn _) xLn (by rintro ⟨a0,left1⟩; kernel_rfl)
def zmp (a0:List zT2) (left1:Int):Option Int:=(if (decide ((z6 (left1-(List.length a0:Int)))<0)) then some (-1) else some (z6 (left1-(List.length a0:Int))))
def z1h2:FE:=⟨(.pr (.sl 157 U3) U0),1,U0,fun x=>zmp x.1 x.2⟩
theorem z1h3:z8 Tryz.prog 41 (z1h2):=okC za xTn xOn Tryz.f41 (LOn _) xLn (by rintro ⟨a0,left1⟩; kernel_rfl)
def zmq (a0:Int×Int×List zT2) (left1:Int):Option Int:=(zmp a0.2.2 left1).bind fun r_1=>(if (decide (r_1<0)) then some (-1) else some r_1)
def z1h4:FE:=⟨(.pr U18 U0),1,U0,fun x=>zmq x.1 x.2⟩
theorem z1h5:z8 Tryz.prog 16 (z1h4):=okC za (xTc z1h3 xTn) xOn Tryz.f16 (LOn _) xLn (by rintro ⟨a0,left1⟩; kernel_rfl)
def zmr (k:Nat) (a0:zT3×Int×List Int×List Int×zT5×List Int×List Int×zT7×List Int) (left1:Int):Option Int:=(zmm k a0.1 left1).bind fun r_1=>(if (decide (r_1<0)) then some (-1) else (z79 a0.2.2.1 r_1).bind fun r_2=>(if (decide (r_2<0)) then some (-1) else (z79 a0.2.2.2.1 r_2).bind fun r_3=>(if (decide (r_3<0)) then some (-1) else (zmo a0.2.2.2.2.1 r_3).bind fun r_4=>(if (decide (r_4<0)) then some (-1) else (z79 a0.2.2.2.2.2.1 r_4).bind fun r_5=>(if (decide (r_5<0)) then some (-1) else (z79 a0.2.2.2.2.2.2.1 r_5).bind fun r_6=>(if (decide (r_6<0)) then some (-1) else (zmq a0.2.2.2.2.2.2.2.1 r_6).bind fun r_7=>(if (decide (r_7<0)) then some (-1) else (z79 a0.2.2.2.2.2.2.2.2 r_7).bind fun r_8=>(if (decide (r_8<0)) then some (-1) else some r_8))))))))
def z1h6 (k:Nat):FE:=⟨(.pr U34 U0),1,U0,fun x=>zmr k x.1 x.2⟩
theorem z1h7 (k:Nat):z8 Tryz.prog 4 (z1h6 k):=okC za (xTc (z1gx k) (xTc zmh (xTc z1h1 (xTc z1h5 xTn)))) xOn Tryz.f4 (LOn _) xLn (by rintro ⟨a0,left1⟩; kernel_rfl)
def zfc (k:Nat):Nat→zT1→Int→zT1→(zT1→Option zT1)→Option zT1
 | 0,_,_,_,_=>none
 | n+1,a0,i4,q_1,e_0=>(if (decide (i4<(List.length a0:Int))) then (if 0≤i4 then (a0[i4.toNat]?).bind fun y_2=>(if 0≤i4∧i4.toNat<List.length q_1 then (q_1[i4.toNat]?).bind fun y_3=>(q_1[i4.toNat]?).bind fun y_4=>zfc k n a0 (z6 (i4+1)) (q_1.set i4.toNat y_2) e_0 else none) else none) else e_0 q_1)
def z7a (k:Nat) (a0:List Int):Option zT1:=(if 0≤(List.length a0:Int)∧(List.length a0:Int)≤(List.length a0:Int)∧(List.length a0:Int)*8≤LIM then zfc k k a0 0 (List.replicate (List.length a0) 0) (fun q_5=>some q_5) else none)
def zz9:Head:=⟨[(3,(.ref P0 []))],[(P0,2,U0,false)],[]⟩
def zza (k:Nat):LD zT1:=⟨3,⟨[(0,V1),(3,(.ref P0 [])),(4,V0)],[(P0,2,U0,false)],[]⟩,[(0,zz9)],fun n x kx=>zfc k n x.1.1 x.1.2.2.1 x.2.1.1 (fun q_5=>kx 0 (zz9.fill (((),()),(q_5,()),()))),k⟩
def z1h8 (k:Nat):FE:=⟨U5,1,U5,fun x=>z7a k x⟩
theorem zms (k:Nat):z8 Tryz.prog 20 (z1h8 k):=okC za xTn xOn Tryz.f20 (orc (zza k) (LOn _)) (xLo (zza k) (by rintro n ⟨⟨a0,⟨⟩,i4,⟨⟩⟩,⟨q_1,⟨⟩⟩,⟨⟩⟩ kx; kernel_rfl) xLn) (by rintro a0; kernel_rfl)
def zfd (k:Nat):Nat→zT10→Int→zT10→(zT10→Option zT10)→Option zT10
 | 0,_,_,_,_=>none
 | n+1,a0,i4,q_1,e_0=>(if (decide (i4<(List.length a0:Int))) then (if 0≤i4 then (a0[i4.toNat]?).bind fun y_2=>(z7a k y_2).bind fun r_3=>(if 0≤i4∧i4.toNat<List.length q_1 then (q_1[i4.toNat]?).bind fun y_4=>(q_1[i4.toNat]?).bind fun y_5=>zfd k n a0 (z6 (i4+1)) (q_1.set i4.toNat r_3) e_0 else none) else none) else e_0 q_1)
def zmt (k:Nat) (a0:List zT1):Option zT10:=(if 0≤(List.length a0:Int)∧(List.length a0:Int)≤(List.length a0:Int)∧(List.length a0:Int)*24≤LIM then zfd k k a0 0 (List.replicate (List.length a0) ([]:List Int)) (fun q_6=>some q_6) else none)
def zzb:Head:=⟨[(3,(.ref P0 []))],[(P0,25,U5,false)],[]⟩
def zzc (k:Nat):LD zT10:=⟨3,⟨[(0,V3),(3,(.ref P0 [])),(4,V0)],[(P0,25,U5,false)],[]⟩,[(0,zzb)],fun n x kx=>zfd k n x.1.1 x.1.2.2.1 x.2.1.1 (fun q_6=>kx 0 (zzb.fill (((),()),(q_6,()),()))),k⟩
def z1h9 (k:Nat):FE:=⟨U16,1,U16,fun x=>zmt k x⟩
theorem z1ha (k:Nat):z8 Tryz.prog 99 (z1h9 k):=okC za (xTc (zms k) xTn) xOn Tryz.f99 (orc (zzc k) (LOn _)) (xLo (zzc k) (by rintro n ⟨⟨a0,⟨⟩,i4,⟨⟩⟩,⟨q_1,⟨⟩⟩,⟨⟩⟩ kx; kernel_rfl) xLn) (by rintro a0; kernel_rfl)
def zmu (k:Nat) (a0:List zT1):Option zT10:=(zmt k a0).bind fun r_1=>some r_1
def z1hb (k:Nat):FE:=⟨U10,1,U10,fun x=>zmu k x⟩
theorem z1hc (k:Nat):z8 Tryz.prog 53 (z1hb k):=okC za (xTc (z1ha k) xTn) xOn Tryz.f53 (LOn _) xLn (by rintro a0; kernel_rfl)
def zmv (k:Nat) (a0:Int×Int×Int×List Int):Option zT0:=(z7a k a0.2.2.2).bind fun r_1=>some (a0.1,(a0.2.1,(a0.2.2.1,r_1)))
def z1hd (k:Nat):FE:=⟨U1,1,U1,fun x=>zmv k x⟩
theorem z1he (k:Nat):z8 Tryz.prog 100 (z1hd k):=okC za (xTc (zms k) xTn) xOn Tryz.f100 (LOn _) xLn (by rintro a0; kernel_rfl)
def zfe (k:Nat):Nat→zT22→Int→zT22→(zT22→Option zT22)→Option zT22
 | 0,_,_,_,_=>none
 | n+1,a0,i4,q_1,e_0=>(if (decide (i4<(List.length a0:Int))) then (if 0≤i4 then (a0[i4.toNat]?).bind fun y_2=>(zmv k y_2).bind fun r_3=>(if 0≤i4∧i4.toNat<List.length q_1 then (q_1[i4.toNat]?).bind fun y_4=>(q_1[i4.toNat]?).bind fun y_5=>zfe k n a0 (z6 (i4+1)) (q_1.set i4.toNat (r_3.1,(r_3.2.1,(r_3.2.2.1,r_3.2.2.2)))) e_0 else none) else none) else e_0 q_1)
def zmw (k:Nat) (a0:List zT0):Option zT22:=(if 0≤(List.length a0:Int)∧(List.length a0:Int)≤(List.length a0:Int)∧(List.length a0:Int)*48≤LIM then zfe k k a0 0 (List.replicate (List.length a0) (0,(0,(0,[])))) (fun q_6=>some q_6) else none)
def zzd:Head:=⟨[(3,(.ref P0 []))],[(P0,136,U1,false)],[]⟩
def zze (k:Nat):LD zT22:=⟨3,⟨[(0,(.val (.sl 130 U1))),(3,(.ref P0 [])),(4,V0)],[(P0,136,U1,false)],[]⟩,[(0,zzd)],fun n x kx=>zfe k n x.1.1 x.1.2.2.1 x.2.1.1 (fun q_6=>kx 0 (zzd.fill (((),()),(q_6,()),()))),k⟩
def z1hf (k:Nat):FE:=⟨(.sl 130 U1),1,(.sl 136 U1),fun x=>zmw k x⟩
theorem z1hg (k:Nat):z8 Tryz.prog 54 (z1hf k):=okC za (xTc (z1he k) xTn) xOn Tryz.f54 (orc (zze k) (LOn _)) (xLo (zze k) (by rintro n ⟨⟨a0,⟨⟩,i4,⟨⟩⟩,⟨q_1,⟨⟩⟩,⟨⟩⟩ kx; kernel_rfl) xLn) (by rintro a0; kernel_rfl)
def zmx (k:Nat) (a0:List zT1×Int×List Int×List zT0):Option zT3:=(zmu k a0.1).bind fun r_1=>(z7a k a0.2.2.1).bind fun r_2=>(zmw k a0.2.2.2).bind fun r_3=>some (r_1,(a0.2.1,(r_2,r_3)))
def z1hh (k:Nat):FE:=⟨U12,1,U4,fun x=>zmx k x⟩
theorem z1hi (k:Nat):z8 Tryz.prog 19 (z1hh k):=okC za (xTc (z1hc k) (xTc (zms k) (xTc (z1hg k) xTn))) xOn Tryz.f19 (LOn _) xLn (by rintro a0; kernel_rfl)
def zmy (a0:Int×Int×Int):Option zT2:=some (a0.1,(a0.2.1,a0.2.2))
def z1hj:FE:=⟨U3,1,U3,fun x=>zmy x⟩
theorem z1hk:z8 Tryz.prog 101 (z1hj):=okC za xTn xOn Tryz.f101 (LOn _) xLn (by rintro a0; kernel_rfl)
def zff (k:Nat):Nat→zT14→Int→zT14→(zT14→Option zT14)→Option zT14
 | 0,_,_,_,_=>none
 | n+1,a0,i4,q_1,e_0=>(if (decide (i4<(List.length a0:Int))) then (if 0≤i4 then (a0[i4.toNat]?).bind fun y_2=>(zmy y_2).bind fun r_3=>(if 0≤i4∧i4.toNat<List.length q_1 then (q_1[i4.toNat]?).bind fun y_4=>(q_1[i4.toNat]?).bind fun y_5=>zff k n a0 (z6 (i4+1)) (q_1.set i4.toNat r_3) e_0 else none) else none) else e_0 q_1)
def zmz (k:Nat) (a0:List zT2):Option zT14:=(if 0≤(List.length a0:Int)∧(List.length a0:Int)≤(List.length a0:Int)∧(List.length a0:Int)*24≤LIM then zff k k a0 0 (List.replicate (List.length a0) (0,(0,0))) (fun q_6=>some q_6) else none)
def zzf:Head:=⟨[(3,(.ref P0 []))],[(P0,141,U3,false)],[]⟩
def zzg (k:Nat):LD zT14:=⟨3,⟨[(0,(.val (.sl 155 U3))),(3,(.ref P0 [])),(4,V0)],[(P0,141,U3,false)],[]⟩,[(0,zzf)],fun n x kx=>zff k n x.1.1 x.1.2.2.1 x.2.1.1 (fun q_6=>kx 0 (zzf.fill (((),()),(q_6,()),()))),k⟩
def z1hl (k:Nat):FE:=⟨(.sl 155 U3),1,U27,fun x=>zmz k x⟩
theorem z1hm (k:Nat):z8 Tryz.prog 55 (z1hl k):=okC za (xTc z1hk xTn) xOn Tryz.f55 (orc (zzg k) (LOn _)) (xLo (zzg k) (by rintro n ⟨⟨a0,⟨⟩,i4,⟨⟩⟩,⟨q_1,⟨⟩⟩,⟨⟩⟩ kx; kernel_rfl) xLn) (by rintro a0; kernel_rfl)
def zn0 (k:Nat) (a0:Int×Int×Int×List zT2):Option zT5:=(zmz k a0.2.2.2).bind fun r_1=>some (a0.1,(a0.2.1,(a0.2.2.1,r_1)))
def z1hn (k:Nat):FE:=⟨U15,1,U6,fun x=>zn0 k x⟩
theorem z1ho (k:Nat):z8 Tryz.prog 21 (z1hn k):=okC za (xTc (z1hm k) xTn) xOn Tryz.f21 (LOn _) xLn (by rintro a0; kernel_rfl)
def zn1 (a0:Int×Int×Int):Option zT2:=some (a0.1,(a0.2.1,a0.2.2))
def z1hp:FE:=⟨U3,1,U3,fun x=>zn1 x⟩
theorem z1hq:z8 Tryz.prog 102 (z1hp):=okC za xTn xOn Tryz.f102 (LOn _) xLn (by rintro a0; kernel_rfl)
def zfg (k:Nat):Nat→zT14→Int→zT14→(zT14→Option zT14)→Option zT14
 | 0,_,_,_,_=>none
 | n+1,a0,i4,q_1,e_0=>(if (decide (i4<(List.length a0:Int))) then (if 0≤i4 then (a0[i4.toNat]?).bind fun y_2=>(zn1 y_2).bind fun r_3=>(if 0≤i4∧i4.toNat<List.length q_1 then (q_1[i4.toNat]?).bind fun y_4=>(q_1[i4.toNat]?).bind fun y_5=>zfg k n a0 (z6 (i4+1)) (q_1.set i4.toNat r_3) e_0 else none) else none) else e_0 q_1)
def zn2 (k:Nat) (a0:List zT2):Option zT14:=(if 0≤(List.length a0:Int)∧(List.length a0:Int)≤(List.length a0:Int)∧(List.length a0:Int)*24≤LIM then zfg k k a0 0 (List.replicate (List.length a0) (0,(0,0))) (fun q_6=>some q_6) else none)
def zzh:Head:=⟨[(3,(.ref P0 []))],[(P0,117,U3,false)],[]⟩
def zzi (k:Nat):LD zT14:=⟨3,⟨[(0,(.val (.sl 157 U3))),(3,(.ref P0 [])),(4,V0)],[(P0,117,U3,false)],[]⟩,[(0,zzh)],fun n x kx=>zfg k n x.1.1 x.1.2.2.1 x.2.1.1 (fun q_6=>kx 0 (zzh.fill (((),()),(q_6,()),()))),k⟩
def z1hr (k:Nat):FE:=⟨(.sl 157 U3),1,U29,fun x=>zn2 k x⟩
theorem z1hs (k:Nat):z8 Tryz.prog 56 (z1hr k):=okC za (xTc z1hq xTn) xOn Tryz.f56 (orc (zzi k) (LOn _)) (xLo (zzi k) (by rintro n ⟨⟨a0,⟨⟩,i4,⟨⟩⟩,⟨q_1,⟨⟩⟩,⟨⟩⟩ kx; kernel_rfl) xLn) (by rintro a0; kernel_rfl)
def zn3 (k:Nat) (a0:Int×Int×List zT2):Option zT7:=(zn2 k a0.2.2).bind fun r_1=>some (a0.1,(a0.2.1,r_1))
def z1ht (k:Nat):FE:=⟨U18,1,U9,fun x=>zn3 k x⟩
theorem z1hu (k:Nat):z8 Tryz.prog 22 (z1ht k):=okC za (xTc (z1hs k) xTn) xOn Tryz.f22 (LOn _) xLn (by rintro a0; kernel_rfl)
def zcc (k:Nat) (a0:zT3×Int×List Int×List Int×zT5×List Int×List Int×zT7×List Int):Option zT9:=(zmx k a0.1).bind fun r_1=>(z7a k a0.2.2.1).bind fun r_2=>(z7a k a0.2.2.2.1).bind fun r_3=>(zn0 k a0.2.2.2.2.1).bind fun r_4=>(z7a k a0.2.2.2.2.2.1).bind fun r_5=>(z7a k a0.2.2.2.2.2.2.1).bind fun r_6=>(zn3 k a0.2.2.2.2.2.2.2.1).bind fun r_7=>(z7a k a0.2.2.2.2.2.2.2.2).bind fun r_8=>some ((r_1.1,(r_1.2.1,(r_1.2.2.1,r_1.2.2.2))),(a0.2.1,(r_2,(r_3,((r_4.1,(r_4.2.1,(r_4.2.2.1,r_4.2.2.2))),(r_5,(r_6,((r_7.1,(r_7.2.1,r_7.2.2)),r_8))))))))
def z1hv (k:Nat):FE:=⟨U34,1,U2,fun x=>zcc k x⟩
theorem z1hw (k:Nat):z8 Tryz.prog 6 (z1hv k):=okC za (xTc (z1hi k) (xTc (zms k) (xTc (z1ho k) (xTc (z1hu k) xTn)))) xOn Tryz.f6 (LOn _) xLn (by rintro a0; kernel_rfl)
def z32 (n0:Int) (low1:Int) (high2:Int):Option Bool:=(if (decide (low1≤n0)) then some (decide (n0≤high2)) else some false)
def z1hx:FE:=⟨U35,1,.bool,fun x=>z32 x.1 x.2.1 x.2.2⟩
theorem z9b:z8 Tryz.prog 85 (z1hx):=okC za xTn xOn Tryz.f85 (LOn _) xLn (by rintro ⟨n0,low1,high2⟩; kernel_rfl)
def zcd (k:Nat):Nat→zT1→Int→Int→Int→(Option Bool)→Option Bool
 | 0,_,_,_,_,_=>none
 | n+1,list0,low1,high2,i7,e_0=>(if (decide (i7<(List.length list0:Int))) then (if 0≤i7 then (list0[i7.toNat]?).bind fun y_1=>(z32 y_1 low1 high2).bind fun r_2=>(if (!r_2) then some false else (if (decide (0<i7)) then (if 0≤(z6 (i7-1)) then (list0[(z6 (i7-1)).toNat]?).bind fun y_3=>(if 0≤i7 then (list0[i7.toNat]?).bind fun y_4=>(if (decide (y_4≤y_3)) then some false else zcd k n list0 low1 high2 (z6 (i7+1)) e_0) else none) else none) else zcd k n list0 low1 high2 (z6 (i7+1)) e_0)) else none) else e_0)
def zj4 (k:Nat) (list0:List Int) (low1:Int) (high2:Int):Option Bool:=zcd k k list0 low1 high2 0 (some true)
def zzj:Head:=⟨[],[],[]⟩
def zzk (k:Nat):LD Bool:=⟨2,⟨[(0,V1),(1,V0),(2,V0),(7,V0)],[],[]⟩,[(0,zzj)],fun n x kx=>zcd k n x.1.1 x.1.2.1 x.1.2.2.1 x.1.2.2.2.1 (kx 0 (zzj.fill ((),(),()))),k⟩
def z1hy (k:Nat):FE:=⟨(.pr U5 U19),1,.bool,fun x=>zj4 k x.1 x.2.1 x.2.2⟩
theorem zzl (k:Nat):z8 Tryz.prog 148 (z1hy k):=okC za (xTc z9b xTn) xOn Tryz.f148 (orc (zzk k) (LOn _)) (xLo (zzk k) (by rintro n ⟨⟨list0,low1,high2,i7,⟨⟩⟩,⟨⟩,⟨⟩⟩ kx; kernel_rfl) xLn) (by rintro ⟨list0,low1,high2⟩; kernel_rfl)
def zn4 (k:Nat) (s0:List Int):Option Bool:=(z32 (List.length s0:Int) 1 4).bind fun r_1=>(if r_1 then (zj4 k s0 0 9).bind fun r_2=>some r_2 else some false)
def z1hz (k:Nat):FE:=⟨U5,1,.bool,fun x=>zn4 k x⟩
theorem z1i0 (k:Nat):z8 Tryz.prog 134 (z1hz k):=okC za (xTc z9b (xTc (zzl k) xTn)) xOn Tryz.f134 (LOn _) xLn (by rintro s0; kernel_rfl)
def zfh (k:Nat):Nat→zT1→zT1→Int→(Option Bool)→Option Bool
 | 0,_,_,_,_=>none
 | n+1,a0,b1,i5,e_0=>(if (decide (i5<(List.length a0:Int))) then (if 0≤i5 then (a0[i5.toNat]?).bind fun y_1=>(if 0≤i5 then (b1[i5.toNat]?).bind fun y_2=>(if (!(decide (y_1=y_2))) then (if 0≤i5 then (a0[i5.toNat]?).bind fun y_3=>(if 0≤i5 then (b1[i5.toNat]?).bind fun y_4=>some (decide (y_3<y_4)) else none) else none) else zfh k n a0 b1 (z6 (i5+1)) e_0) else none) else none) else e_0)
def zn5 (k:Nat) (a0:List Int) (b1:List Int):Option Bool:=(if (!(decide ((List.length a0:Int)=(List.length b1:Int)))) then some (decide ((List.length a0:Int)<(List.length b1:Int))) else zfh k k a0 b1 0 (some false))
def zzm:Head:=⟨[],[],[]⟩
def zzn (k:Nat):LD Bool:=⟨4,⟨[(0,V1),(1,V1),(5,V0)],[],[]⟩,[(0,zzm)],fun n x kx=>zfh k n x.1.1 x.1.2.1 x.1.2.2.1 (kx 0 (zzm.fill ((),(),()))),k⟩
def z1i1 (k:Nat):FE:=⟨(.pr U5 U5),1,.bool,fun x=>zn5 k x.1 x.2⟩
theorem z1i2 (k:Nat):z8 Tryz.prog 135 (z1i1 k):=okC za xTn xOn Tryz.f135 (orc (zzn k) (LOn _)) (xLo (zzn k) (by rintro n ⟨⟨a0,b1,i5,⟨⟩⟩,⟨⟩,⟨⟩⟩ kx; kernel_rfl) xLn) (by rintro ⟨a0,b1⟩; kernel_rfl)
def zfi (list0:List Int):Option zT1:=(if (([]:List Unit).length+list0.length)*8≤LIM then some list0 else none)
def z1i3:FE:=⟨U5,1,U5,fun x=>zfi x⟩
theorem zzo:z8 Tryz.prog 142 (z1i3):=okC za xTn xOn Tryz.f142 (LOn _) xLn (by rintro list0; kernel_rfl)
def zce (s0:List Int) (k1:Int):Option zT1:=(if 0≤(0:Int)∧(0:Int)≤k1∧k1≤s0.length then (zfi (s0.take k1.toNat)).bind fun r_1=>(if 0≤(z6 (k1+1))∧(z6 (k1+1))≤(s0.length:Int)∧(s0.length:Int)≤s0.length then (if (r_1.length+((s0.drop ((z6 (k1+1)).toNat)).take (s0.length-(z6 (k1+1)).toNat)).length)*8≤LIM then some (r_1++((s0.drop ((z6 (k1+1)).toNat)).take (s0.length-(z6 (k1+1)).toNat))) else none) else none) else none)
def z1i4:FE:=⟨U31,1,U5,fun x=>zce x.1 x.2⟩
theorem zt1:z8 Tryz.prog 89 (z1i4):=okC za (xTc zzo xTn) xOn Tryz.f89 (LOn _) xLn (by rintro ⟨s0,k1⟩; kernel_rfl)
def zfj (k:Nat):Nat→zT1→zT1→Int→(Option Bool)→Option Bool
 | 0,_,_,_,_=>none
 | n+1,a0,b1,i5,e_0=>(if (decide (i5<(List.length a0:Int))) then (if 0≤i5 then (a0[i5.toNat]?).bind fun y_1=>(if 0≤i5 then (b1[i5.toNat]?).bind fun y_2=>(if (!(decide (y_1=y_2))) then some false else zfj k n a0 b1 (z6 (i5+1)) e_0) else none) else none) else e_0)
def zn6 (k:Nat) (a0:List Int) (b1:List Int):Option Bool:=(if (!(decide ((List.length a0:Int)=(List.length b1:Int)))) then some false else zfj k k a0 b1 0 (some true))
def zzp:Head:=⟨[],[],[]⟩
def zzq (k:Nat):LD Bool:=⟨4,⟨[(0,V1),(1,V1),(5,V0)],[],[]⟩,[(0,zzp)],fun n x kx=>zfj k n x.1.1 x.1.2.1 x.1.2.2.1 (kx 0 (zzp.fill ((),(),()))),k⟩
def z1i5 (k:Nat):FE:=⟨(.pr U5 U5),1,.bool,fun x=>zn6 k x.1 x.2⟩
theorem z1i6 (k:Nat):z8 Tryz.prog 184 (z1i5 k):=okC za xTn xOn Tryz.f184 (orc (zzq k) (LOn _)) (xLo (zzq k) (by rintro n ⟨⟨a0,b1,i5,⟨⟩⟩,⟨⟩,⟨⟩⟩ kx; kernel_rfl) xLn) (by rintro ⟨a0,b1⟩; kernel_rfl)
def zfk (k:Nat):Nat→zT10→zT1→Int→(Option Int)→Option Int
 | 0,_,_,_,_=>none
 | n+1,c0,s1,i5,e_0=>(if (decide (i5<(List.length c0:Int))) then (if 0≤i5 then (c0[i5.toNat]?).bind fun y_1=>(zn6 k y_1 s1).bind fun r_2=>(if r_2 then some i5 else zfk k n c0 s1 (z6 (i5+1)) e_0) else none) else e_0)
def zj5 (k:Nat) (c0:List zT1) (s1:List Int):Option Int:=zfk k k c0 s1 0 (some (-1))
def zzr:Head:=⟨[],[],[]⟩
def zzs (k:Nat):LD Int:=⟨2,⟨[(0,V6),(1,V1),(5,V0)],[],[]⟩,[(0,zzr)],fun n x kx=>zfk k n x.1.1 x.1.2.1 x.1.2.2.1 (kx 0 (zzr.fill ((),(),()))),k⟩
def z1i7 (k:Nat):FE:=⟨(.pr U25 U5),1,U0,fun x=>zj5 k x.1 x.2⟩
theorem zzt (k:Nat):z8 Tryz.prog 136 (z1i7 k):=okC za (xTc (z1i6 k) xTn) xOn Tryz.f136 (orc (zzs k) (LOn _)) (xLo (zzs k) (by rintro n ⟨⟨c0,s1,i5,⟨⟩⟩,⟨⟩,⟨⟩⟩ kx; kernel_rfl) xLn) (by rintro ⟨c0,s1⟩; kernel_rfl)
def z9c (k:Nat):Nat→zT10→Int→zT1→Int→(zT10→Int→Option Bool)→Option Bool
 | 0,_,_,_,_,_=>none
 | n+1,c0,i3,s4,k5,e_2=>(if (decide (k5<(List.length s4:Int))) then (if (decide (1<(List.length s4:Int))) then (zce s4 k5).bind fun r_5=>(zj5 k c0 r_5).bind fun r_6=>(if (decide (r_6<0)) then some false else z9c k n c0 i3 s4 (z6 (k5+1)) e_2) else e_2 c0 i3) else e_2 c0 i3)
def z7b (k:Nat):Nat→zT10→Int→(Option Bool)→Option Bool
 | 0,_,_,_=>none
 | n+1,c0,i3,e_0=>(if (decide (i3<(List.length c0:Int))) then (if 0≤i3 then (c0[i3.toNat]?).bind fun y_1=>(zn4 k y_1).bind fun r_2=>(if (!r_2) then some false else (if (decide (0<i3)) then (if 0≤(z6 (i3-1)) then (c0[(z6 (i3-1)).toNat]?).bind fun y_3=>(zn5 k y_3 y_1).bind fun r_4=>(if (!r_4) then some false else z9c k k c0 i3 y_1 0 (fun c_5 i_6=>z7b k n c_5 (z6 (i_6+1)) e_0)) else none) else z9c k k c0 i3 y_1 0 (fun c_7 i_8=>z7b k n c_7 (z6 (i_8+1)) e_0))) else none) else e_0)
def zn7 (k:Nat) (c0:List zT1):Option Bool:=(if (decide (48<(List.length c0:Int))) then some false else z7b k k c0 0 (some true))
def zzu:Head:=⟨[(0,V6),(3,V0)],[],[]⟩
def zzv (k:Nat):LD Bool:=⟨10,⟨[(0,V6),(3,V0),(4,V1),(5,V0)],[],[]⟩,[(2,zzu)],fun n x kx=>z9c k n x.1.1 x.1.2.1 x.1.2.2.1 x.1.2.2.2.1 (fun c0 i3=>kx 2 (zzu.fill ((c0,i3,()),(),()))),k⟩
def zzw:Head:=⟨[],[],[]⟩
def zzx (k:Nat):LD Bool:=⟨4,⟨[(0,V6),(3,V0)],[],[]⟩,[(0,zzw)],fun n x kx=>z7b k n x.1.1 x.1.2.1 (kx 0 (zzw.fill ((),(),()))),k⟩
def z1i8 (k:Nat):FE:=⟨U25,1,.bool,fun x=>zn7 k x⟩
theorem z1i9 (k:Nat):z8 Tryz.prog 79 (z1i8 k):=okC za (xTc (z1i0 k) (xTc (z1i2 k) (xTc zt1 (xTc (zzt k) xTn)))) xOn Tryz.f79 (orc (zzv k) (orc (zzx k) (LOn _))) (xLo (zzx k) (by rintro n ⟨⟨c0,i3,⟨⟩⟩,⟨⟩,⟨⟩⟩ kx; kernel_rfl) (xLo (zzv k) (by rintro n ⟨⟨c0,i3,s4,k5,⟨⟩⟩,⟨⟩,⟨⟩⟩ kx; kernel_rfl) xLn)) (by rintro c0; kernel_rfl)
def z9d (k:Nat):Nat→Int→Int→(Option Bool)→Option Bool
 | 0,_,_,_=>none
 | n+1,p0,k3,e_0=>(if (decide ((z6 (k3*k3))≤p0)) then (if k3=0 then none else (if (decide ((Int.tmod p0 k3)=0)) then some false else z9d k n p0 (z6 (k3+1)) e_0)) else e_0)
def zt2 (k:Nat) (p0:Int):Option Bool:=(z32 p0 2 251).bind fun r_1=>(if (!r_1) then some false else z9d k k p0 2 (some true))
def zzy:Head:=⟨[],[],[]⟩
def zzz (k:Nat):LD Bool:=⟨4,⟨[(0,V0),(3,V0)],[],[]⟩,[(0,zzy)],fun n x kx=>z9d k n x.1.1 x.1.2.1 (kx 0 (zzy.fill ((),(),()))),k⟩
def z1ia (k:Nat):FE:=⟨U0,1,.bool,fun x=>zt2 k x⟩
theorem z1ib (k:Nat):z8 Tryz.prog 137 (z1ia k):=okC za (xTc z9b xTn) xOn Tryz.f137 (orc (zzz k) (LOn _)) (xLo (zzz k) (by rintro n ⟨⟨p0,k3,⟨⟩⟩,⟨⟩,⟨⟩⟩ kx; kernel_rfl) xLn) (by rintro p0; kernel_rfl)
end
end Go.Proofs.YtiodkblajaenbaaGreatDoor.Ev
