/- Functions of the program, as plain ones. No conditions. -/
import Derived.Test.YtchfjdcfhlhgcaaGreatDoorG1
import Derived.KernelRfl
set_option linter.unusedVariables false
set_option maxRecDepth 100000
namespace Go.Proofs.YtchfjdcfhlhgcaaGreatDoor.Ev
open Go.RowKit
noncomputable section
def zbm (k:Nat) (p0:Int):Option Bool:=(zr0 k p0).bind fun r_1=>some r_1
def z1fa (k:Nat):FE:=⟨U0,1,.bool,fun x=>zbm k x⟩
theorem zy9 (k:Nat):z8 Tryz.prog 111 (z1fa k):=okC zb (xTc (z1dy k) xTn) xOn Tryz.f111 (LOn _) xLn (by rintro p0; kernel_rfl)
def zeu (k:Nat):Nat→zT1→Int→Int→Int→(zT1→Int→Option Bool)→Option Bool
 | 0,_,_,_,_,_=>none
 | n+1,v0,n1,p2,i7,e_0=>(if (decide (i7<(List.length v0:Int))) then (if 0≤i7 then (v0[i7.toNat]?).bind fun y_1=>(z32 y_1 0 (z6 (p2-1))).bind fun r_2=>(if (!r_2) then some false else zeu k n v0 n1 p2 (z6 (i7+1)) e_0) else none) else e_0 v0 n1)
def z6w (k:Nat) (v0:List Int) (n1:Int) (p2:Int):Option Bool:=zeu k k v0 n1 p2 0 (fun v_3 n_4=>some (decide ((List.length v_3:Int)=n_4)))
def zya:Head:=⟨[(0,V1),(1,V0)],[],[]⟩
def zyb (k:Nat):LD Bool:=⟨2,⟨[(0,V1),(1,V0),(2,V0),(7,V0)],[],[]⟩,[(0,zya)],fun n x kx=>zeu k n x.1.1 x.1.2.1 x.1.2.2.1 x.1.2.2.2.1 (fun v0 n1=>kx 0 (zya.fill ((v0,n1,()),(),()))),k⟩
def z1fb (k:Nat):FE:=⟨(.pr U5 U20),1,.bool,fun x=>z6w k x.1 x.2.1 x.2.2⟩
theorem zls (k:Nat):z8 Tryz.prog 64 (z1fb k):=okC zb (xTc z9z xTn) xOn Tryz.f64 (orc (zyb k) (LOn _)) (xLo (zyb k) (by rintro n ⟨⟨v0,n1,p2,i7,⟨⟩⟩,⟨⟩,⟨⟩⟩ kx; kernel_rfl) xLn) (by rintro ⟨v0,n1,p2⟩; kernel_rfl)
def zbn (k:Nat):Nat→zT8→Int→Int→zT1→(zT1→Option zT1)→Option zT1
 | 0,_,_,_,_,_=>none
 | n+1,c0,dimension1,i6,q_1,e_0=>(if (decide (i6<(List.length c0:Int))) then (if 0≤i6 then (c0[i6.toNat]?).bind fun y_2=>(if (decide ((List.length y_2:Int)=(z6 (dimension1+1)))) then (if (q_1.length+[i6].length)*8≤LIM then zbn k n c0 dimension1 (z6 (i6+1)) (q_1++[i6]) e_0 else none) else zbn k n c0 dimension1 (z6 (i6+1)) q_1 e_0) else none) else e_0 q_1)
def zhr (k:Nat) (c0:List zT1) (dimension1:Int):Option zT1:=zbn k k c0 dimension1 0 [] (fun q_3=>some q_3)
def zyc:Head:=⟨[(5,(.ref P0 []))],[(P0,2,U0,false)],[]⟩
def zyd (k:Nat):LD zT1:=⟨3,⟨[(0,V6),(1,V0),(5,(.ref P0 [])),(6,V0)],[(P0,2,U0,false)],[]⟩,[(0,zyc)],fun n x kx=>zbn k n x.1.1 x.1.2.1 x.1.2.2.2.1 x.2.1.1 (fun q_3=>kx 0 (zyc.fill (((),()),(q_3,()),()))),k⟩
def z1fc (k:Nat):FE:=⟨(.pr U24 U0),1,U5,fun x=>zhr k x.1 x.2⟩
theorem zye (k:Nat):z8 Tryz.prog 117 (z1fc k):=okC zb xTn xOn Tryz.f117 (orc (zyd k) (LOn _)) (xLo (zyd k) (by rintro n ⟨⟨c0,dimension1,⟨⟩,i6,⟨⟩⟩,⟨q_1,⟨⟩⟩,⟨⟩⟩ kx; kernel_rfl) xLn) (by rintro ⟨c0,dimension1⟩; kernel_rfl)
def zev (k:Nat):Nat→zT1→Int→Int→zT1→(Int→Option Int)→Option Int
 | 0,_,_,_,_,_=>none
 | n+1,stalks1,sum8,i9,q_2,e_0=>(if (decide (i9<(List.length q_2:Int))) then (if 0≤i9∧i9.toNat<List.length q_2 then (q_2[i9.toNat]?).bind fun y_3=>(if 0≤y_3 then (stalks1[y_3.toNat]?).bind fun y_4=>zev k n stalks1 (z6 (sum8+y_4)) (z6 (i9+1)) q_2 e_0 else none) else none) else e_0 sum8)
def za0 (k:Nat) (c0:List zT1) (stalks1:List Int) (k2:Int):Option Int:=(zhr k c0 k2).bind fun r_1=>zev k k stalks1 0 0 r_1 (fun sum_5=>some sum_5)
def zyf:Head:=⟨[(8,V0)],[],[]⟩
def zyg (k:Nat):LD Int:=⟨4,⟨[(1,V1),(7,(.ref P0 [])),(8,V0),(9,V0)],[(P0,2,U0,false)],[]⟩,[(0,zyf)],fun n x kx=>zev k n x.1.1 x.1.2.2.1 x.1.2.2.2.1 x.2.1.1 (fun sum8=>kx 0 (zyf.fill ((sum8,()),(),()))),k⟩
def z1fd (k:Nat):FE:=⟨(.pr U24 (.pr U5 U0)),1,U0,fun x=>za0 k x.1 x.2.1 x.2.2⟩
theorem zr5 (k:Nat):z8 Tryz.prog 65 (z1fd k):=okC zb (xTc (zye k) xTn) xOn Tryz.f65 (orc (zyg k) (LOn _)) (xLo (zyg k) (by rintro n ⟨⟨stalks1,⟨⟩,sum8,i9,⟨⟩⟩,⟨q_2,⟨⟩⟩,⟨⟩⟩ kx; kernel_rfl) xLn) (by rintro ⟨c0,stalks1,k2⟩; kernel_rfl)
def zew (k:Nat):Nat→zT8→zT1→Int→(Option Bool)→Option Bool
 | 0,_,_,_,_=>none
 | n+1,c0,stalks1,k5,e_0=>(if (decide (k5≤3)) then (za0 k c0 stalks1 k5).bind fun r_2=>(if (decide (32<r_2)) then some false else zew k n c0 stalks1 (z6 (k5+1)) e_0) else e_0)
def zlt (k:Nat) (c0:List zT1) (stalks1:List Int):Option Bool:=(z6w k stalks1 (List.length c0:Int) 4).bind fun r_1=>(if (!r_1) then some false else zew k k c0 stalks1 0 (some true))
def zyh:Head:=⟨[],[],[]⟩
def zyi (k:Nat):LD Bool:=⟨4,⟨[(0,V6),(1,V1),(5,V0)],[],[]⟩,[(0,zyh)],fun n x kx=>zew k n x.1.1 x.1.2.1 x.1.2.2.1 (kx 0 (zyh.fill ((),(),()))),k⟩
def z1fe (k:Nat):FE:=⟨(.pr U24 U5),1,.bool,fun x=>zlt k x.1 x.2⟩
theorem z1ff (k:Nat):z8 Tryz.prog 112 (z1fe k):=okC zb (xTc (zls k) (xTc (zr5 k) xTn)) xOn Tryz.f112 (orc (zyi k) (LOn _)) (xLo (zyi k) (by rintro n ⟨⟨c0,stalks1,k5,⟨⟩⟩,⟨⟩,⟨⟩⟩ kx; kernel_rfl) xLn) (by rintro ⟨c0,stalks1⟩; kernel_rfl)
def zbo (k:Nat):Nat→zT8→Int→Int→Int→Int→(Int→Int→Option Int)→Option Int
 | 0,_,_,_,_,_,_=>none
 | n+1,c0,simplex1,i2,at7,k8,e_0=>(if (decide (k8<simplex1)) then (if 0≤k8 then (c0[k8.toNat]?).bind fun y_1=>(if (decide (1<(List.length y_1:Int))) then (if 0≤k8 then (c0[k8.toNat]?).bind fun y_2=>zbo k n c0 simplex1 i2 (z6 (at7+(List.length y_2:Int))) (z6 (k8+1)) e_0 else none) else zbo k n c0 simplex1 i2 at7 (z6 (k8+1)) e_0) else none) else e_0 i2 at7)
def zex (k:Nat) (c0:List zT1) (simplex1:Int) (i2:Int):Option Int:=zbo k k c0 simplex1 i2 0 0 (fun i_3 at_4=>some (z6 (at_4+i_3)))
def zyj:Head:=⟨[(2,V0),(7,V0)],[],[]⟩
def zyk (k:Nat):LD Int:=⟨3,⟨[(0,V6),(1,V0),(2,V0),(7,V0),(8,V0)],[],[]⟩,[(0,zyj)],fun n x kx=>zbo k n x.1.1 x.1.2.1 x.1.2.2.1 x.1.2.2.2.1 x.1.2.2.2.2.1 (fun i2 at7=>kx 0 (zyj.fill ((i2,at7,()),(),()))),k⟩
def z1fg (k:Nat):FE:=⟨(.pr U24 U20),1,U0,fun x=>zex k x.1 x.2.1 x.2.2⟩
theorem zr6 (k:Nat):z8 Tryz.prog 115 (z1fg k):=okC zb xTn xOn Tryz.f115 (orc (zyk k) (LOn _)) (xLo (zyk k) (by rintro n ⟨⟨c0,simplex1,i2,at7,k8,⟨⟩⟩,⟨⟩,⟨⟩⟩ kx; kernel_rfl) xLn) (by rintro ⟨c0,simplex1,i2⟩; kernel_rfl)
def zlu (k:Nat) (c0:List zT1):Option Int:=(zex k c0 (List.length c0:Int) 0).bind fun r_1=>some r_1
def z1fh (k:Nat):FE:=⟨U24,1,U0,fun x=>zlu k x⟩
theorem z1fi (k:Nat):z8 Tryz.prog 113 (z1fh k):=okC zb (xTc (zr6 k) xTn) xOn Tryz.f113 (LOn _) xLn (by rintro c0; kernel_rfl)
def zbp (k:Nat):Nat→zT8→zT1→Int→zT1→(zT1→Option zT1)→Option zT1
 | 0,_,_,_,_,_=>none
 | n+1,c0,s5,i7,q_2,e_0=>(if (decide (i7<(List.length s5:Int))) then (if (decide (1<(List.length s5:Int))) then (zbj s5 i7).bind fun r_3=>(zhn k c0 r_3).bind fun r_4=>(if (q_2.length+[r_4].length)*8≤LIM then zbp k n c0 s5 (z6 (i7+1)) (q_2++[r_4]) e_0 else none) else e_0 q_2) else e_0 q_2)
def zey (k:Nat) (c0:List zT1) (k1:Int):Option zT1:=(if 0≤k1 then (c0[k1.toNat]?).bind fun y_1=>zbp k k c0 y_1 0 [] (fun q_5=>some q_5) else none)
def zyl:Head:=⟨[(6,(.ref P0 []))],[(P0,2,U0,false)],[]⟩
def zym (k:Nat):LD zT1:=⟨4,⟨[(0,V6),(5,V1),(6,(.ref P0 [])),(7,V0)],[(P0,2,U0,false)],[]⟩,[(0,zyl)],fun n x kx=>zbp k n x.1.1 x.1.2.1 x.1.2.2.2.1 x.2.1.1 (fun q_5=>kx 0 (zyl.fill (((),()),(q_5,()),()))),k⟩
def z1fj (k:Nat):FE:=⟨(.pr U24 U0),1,U5,fun x=>zey k x.1 x.2⟩
theorem zr7 (k:Nat):z8 Tryz.prog 166 (z1fj k):=okC zb (xTc zqz (xTc (zxd k) xTn)) xOn Tryz.f166 (orc (zym k) (LOn _)) (xLo (zym k) (by rintro n ⟨⟨c0,s5,⟨⟩,i7,⟨⟩⟩,⟨q_2,⟨⟩⟩,⟨⟩⟩ kx; kernel_rfl) xLn) (by rintro ⟨c0,k1⟩; kernel_rfl)
def zez (k:Nat) (m0:Int×Int×Int×List Int):Option Bool:=(zbm k m0.1).bind fun r_1=>(if r_1 then (z32 m0.2.1 0 32).bind fun r_2=>(if r_2 then (z32 m0.2.2.1 0 32).bind fun r_3=>(if r_3 then (z6w k m0.2.2.2 (z6 (m0.2.1*m0.2.2.1)) m0.1).bind fun r_4=>some r_4 else some false) else some false) else some false)
def z1fk (k:Nat):FE:=⟨U13,1,.bool,fun x=>zez k x⟩
theorem z1fl (k:Nat):z8 Tryz.prog 167 (z1fk k):=okC zb (xTc (zy9 k) (xTc z9z (xTc (zls k) xTn))) xOn Tryz.f167 (LOn _) xLn (by rintro m0; kernel_rfl)
def zr8 (k:Nat) (s0:List zT1×Int×List Int×List zT0) (simplex1:Int) (i2:Int) (m3:Int×Int×Int×List Int):Option Bool:=(zey k s0.1 simplex1).bind fun r_1=>(if 0≤i2∧i2.toNat<List.length r_1 then (r_1[i2.toNat]?).bind fun y_2=>(zez k m3).bind fun r_3=>(if r_3 then (if (decide (m3.1=s0.2.1)) then (if 0≤simplex1 then (s0.2.2.1[simplex1.toNat]?).bind fun y_4=>(if (decide (m3.2.1=y_4)) then (if 0≤y_2 then (s0.2.2.1[y_2.toNat]?).bind fun y_5=>some (decide (m3.2.2.1=y_5)) else none) else some false) else none) else some false) else some false) else none)
def z1fm (k:Nat):FE:=⟨(.pr U23 (.pr U0 (.pr U0 U13))),1,.bool,fun x=>zr8 k x.1 x.2.1 x.2.2.1 x.2.2.2⟩
theorem z1fn (k:Nat):z8 Tryz.prog 114 (z1fm k):=okC zb (xTc (zr7 k) (xTc (z1fl k) xTn)) xOn Tryz.f114 (LOn _) xLn (by rintro ⟨s0,simplex1,i2,m3⟩; kernel_rfl)
def zf0 (k:Nat):Nat→zT3→Int→Int→(zT3→Int→Option Bool)→Option Bool
 | 0,_,_,_,_=>none
 | n+1,s0,k3,i4,e_2=>(if 0≤k3 then (s0.1[k3.toNat]?).bind fun y_5=>(if (decide (i4<(List.length y_5:Int))) then (if 0≤k3 then (s0.1[k3.toNat]?).bind fun y_6=>(if (decide (1<(List.length y_6:Int))) then (zex k s0.1 k3 i4).bind fun r_7=>(if 0≤r_7 then (s0.2.2.2[r_7.toNat]?).bind fun y_8=>(zr8 k s0 k3 i4 y_8).bind fun r_9=>(if (!r_9) then some false else zf0 k n s0 k3 (z6 (i4+1)) e_2) else none) else e_2 s0 k3) else none) else e_2 s0 k3) else none)
def za1 (k:Nat):Nat→zT3→Int→(Option Bool)→Option Bool
 | 0,_,_,_=>none
 | n+1,s0,k3,e_0=>(if (decide (k3<(List.length s0.1:Int))) then zf0 k k s0 k3 0 (fun s_5 k_6=>za1 k n s_5 (z6 (k_6+1)) e_0) else e_0)
def zlv (k:Nat) (s0:List zT1×Int×List Int×List zT0):Option Bool:=(zla k s0.1).bind fun r_1=>(if (!r_1) then some false else (zbm k s0.2.1).bind fun r_2=>(if (!r_2) then some false else (zlt k s0.1 s0.2.2.1).bind fun r_3=>(if (!r_3) then some false else (zlu k s0.1).bind fun r_4=>(if (!(decide ((List.length s0.2.2.2:Int)=r_4))) then some false else za1 k k s0 0 (some true)))))
def zyn:Head:=⟨[(0,V4),(3,V0)],[],[]⟩
def zyo (k:Nat):LD Bool:=⟨7,⟨[(0,V4),(3,V0),(4,V0)],[],[]⟩,[(2,zyn)],fun n x kx=>zf0 k n x.1.1 x.1.2.1 x.1.2.2.1 (fun s0 k3=>kx 2 (zyn.fill ((s0,k3,()),(),()))),k⟩
def zyp:Head:=⟨[],[],[]⟩
def zyq (k:Nat):LD Bool:=⟨4,⟨[(0,V4),(3,V0)],[],[]⟩,[(0,zyp)],fun n x kx=>za1 k n x.1.1 x.1.2.1 (kx 0 (zyp.fill ((),(),()))),k⟩
def z1fo (k:Nat):FE:=⟨U23,1,.bool,fun x=>zlv k x⟩
theorem z1fp (k:Nat):z8 Tryz.prog 62 (z1fo k):=okC zb (xTc (z1dw k) (xTc (zy9 k) (xTc (z1ff k) (xTc (z1fi k) (xTc (zr6 k) (xTc (z1fn k) xTn)))))) xOn Tryz.f62 (orc (zyo k) (orc (zyq k) (LOn _))) (xLo (zyq k) (by rintro n ⟨⟨s0,k3,⟨⟩⟩,⟨⟩,⟨⟩⟩ kx; kernel_rfl) (xLo (zyo k) (by rintro n ⟨⟨s0,k3,i4,⟨⟩⟩,⟨⟩,⟨⟩⟩ kx; kernel_rfl) xLn)) (by rintro s0; kernel_rfl)
def zr9 (n0:Int):Option Bool:=(z32 n0 0 3).bind fun r_1=>some r_1
def z1fq:FE:=⟨U0,1,.bool,fun x=>zr9 x⟩
theorem z1fr:z8 Tryz.prog 63 (z1fq):=okC zb (xTc z9z xTn) xOn Tryz.f63 (LOn _) xLn (by rintro n0; kernel_rfl)
def z8o (k:Nat):Nat→zT7→Int→(zT7→Option Bool)→Option Bool
 | 0,_,_,_=>none
 | n+1,n0,i3,e_0=>(if (decide (i3<(List.length n0.2.2.2:Int))) then (if 0≤i3 then (n0.2.2.2[i3.toNat]?).bind fun y_4=>(z32 y_4.1 0 (z6 (n0.1-1))).bind fun r_5=>(if (!r_5) then some false else (z32 y_4.2.1 0 (z6 (n0.1-1))).bind fun r_6=>(if (!r_6) then some false else (if (decide (y_4.1=y_4.2.1)) then some false else (z32 y_4.2.2 0 1000000).bind fun r_7=>(if (!r_7) then some false else (if (decide (0<i3)) then (if 0≤(z6 (i3-1)) then (n0.2.2.2[(z6 (i3-1)).toNat]?).bind fun y_8=>(if (decide (y_4.1<y_8.1)) then some false else (if 0≤(z6 (i3-1)) then (n0.2.2.2[(z6 (i3-1)).toNat]?).bind fun y_9=>(if (decide (y_9.1=y_4.1)) then (if 0≤(z6 (i3-1)) then (n0.2.2.2[(z6 (i3-1)).toNat]?).bind fun y_10=>(if (decide (y_4.2.1≤y_10.2.1)) then some false else z8o k n n0 (z6 (i3+1)) e_0) else none) else z8o k n n0 (z6 (i3+1)) e_0) else none)) else none) else z8o k n n0 (z6 (i3+1)) e_0))))) else none) else e_0 n0)
def zlw (k:Nat) (n0:Int×Int×Int×List zT2):Option Bool:=(z32 n0.1 2 12).bind fun r_1=>(if (!r_1) then some false else (z32 n0.2.1 0 (z6 (n0.1-1))).bind fun r_2=>(if (!r_2) then some false else (z32 n0.2.2.1 0 (z6 (n0.1-1))).bind fun r_3=>(if (!r_3) then some false else (if (decide (n0.2.1=n0.2.2.1)) then some false else z8o k k n0 0 (fun n_11=>some (decide ((List.length n_11.2.2.2:Int)≤24)))))))
def zyr:Head:=⟨[(0,(.val (.ptr U9)))],[],[]⟩
def zys (k:Nat):LD Bool:=⟨4,⟨[(0,(.val (.ptr U9))),(3,V0)],[],[]⟩,[(0,zyr)],fun n x kx=>z8o k n x.1.1 x.1.2.1 (fun n0=>kx 0 (zyr.fill ((n0,()),(),()))),k⟩
def z1fs (k:Nat):FE:=⟨(.ptr U9),1,.bool,fun x=>zlw k x⟩
theorem z1ft (k:Nat):z8 Tryz.prog 66 (z1fs k):=okC zb (xTc z9z xTn) xOn Tryz.f66 (orc (zys k) (LOn _)) (xLo (zys k) (by rintro n ⟨⟨n0,i3,⟨⟩⟩,⟨⟩,⟨⟩⟩ kx; kernel_rfl) xLn) (by rintro n0; kernel_rfl)
def z8p (k:Nat):Nat→zT10→Int→(zT10→Option Bool)→Option Bool
 | 0,_,_,_=>none
 | n+1,x0,i3,e_0=>(if (decide (i3<(List.length x0.2.2:Int))) then (if 0≤i3 then (x0.2.2[i3.toNat]?).bind fun y_3=>(z32 y_3.1 0 (z6 (x0.1-1))).bind fun r_4=>(if (!r_4) then some false else (z32 y_3.2.1 (z6 (y_3.1+1)) (z6 (x0.1-1))).bind fun r_5=>(if (!r_5) then some false else (z32 y_3.2.2 0 (z6 (x0.2.1-1))).bind fun r_6=>(if (!r_6) then some false else (if (decide (0<i3)) then (if 0≤(z6 (i3-1)) then (x0.2.2[(z6 (i3-1)).toNat]?).bind fun y_7=>(if (decide (y_3.1<y_7.1)) then some false else (if 0≤(z6 (i3-1)) then (x0.2.2[(z6 (i3-1)).toNat]?).bind fun y_8=>(if (decide (y_8.1=y_3.1)) then (if 0≤(z6 (i3-1)) then (x0.2.2[(z6 (i3-1)).toNat]?).bind fun y_9=>(if (decide (y_3.2.1≤y_9.2.1)) then some false else z8p k n x0 (z6 (i3+1)) e_0) else none) else z8p k n x0 (z6 (i3+1)) e_0) else none)) else none) else z8p k n x0 (z6 (i3+1)) e_0)))) else none) else e_0 x0)
def zlx (k:Nat) (x0:Int×Int×List zT2):Option Bool:=(z32 x0.1 1 12).bind fun r_1=>(if (!r_1) then some false else (z32 x0.2.1 2 360).bind fun r_2=>(if (!r_2) then some false else z8p k k x0 0 (fun x_10=>some (decide ((List.length x_10.2.2:Int)≤24)))))
def zyt:Head:=⟨[(0,(.val (.ptr U10)))],[],[]⟩
def zyu (k:Nat):LD Bool:=⟨4,⟨[(0,(.val (.ptr U10))),(3,V0)],[],[]⟩,[(0,zyt)],fun n x kx=>z8p k n x.1.1 x.1.2.1 (fun x0=>kx 0 (zyt.fill ((x0,()),(),()))),k⟩
def z1fu (k:Nat):FE:=⟨(.ptr U10),1,.bool,fun x=>zlx k x⟩
theorem z1fv (k:Nat):z8 Tryz.prog 67 (z1fu k):=okC zb (xTc z9z xTn) xOn Tryz.f67 (orc (zyu k) (LOn _)) (xLo (zyu k) (by rintro n ⟨⟨x0,i3,⟨⟩⟩,⟨⟩,⟨⟩⟩ kx; kernel_rfl) xLn) (by rintro x0; kernel_rfl)
def zra (k:Nat) (x0:Int×Int×List zT2) (phases1:List Int):Option Bool:=(z6w k phases1 x0.1 x0.2.1).bind fun r_1=>some r_1
def z1fw (k:Nat):FE:=⟨(.pr (.ptr U10) U5),1,.bool,fun x=>zra k x.1 x.2⟩
theorem z1fx (k:Nat):z8 Tryz.prog 68 (z1fw k):=okC zb (xTc (zls k) xTn) xOn Tryz.f68 (LOn _) xLn (by rintro ⟨x0,phases1⟩; kernel_rfl)
def zly (k:Nat) (w0:zT3×Int×List Int×List Int×zT7×List Int×List Int×zT10×List Int):Option Bool:=(zlv k w0.1).bind fun r_1=>(if (!r_1) then some false else (zr9 w0.2.1).bind fun r_2=>(if (!r_2) then some false else (za0 k w0.1.1 w0.1.2.2.1 w0.2.1).bind fun r_3=>(z6w k w0.2.2.1 r_3 w0.1.2.1).bind fun r_4=>(if (!r_4) then some false else (za0 k w0.1.1 w0.1.2.2.1 0).bind fun r_5=>(z6w k w0.2.2.2.1 r_5 w0.1.2.1).bind fun r_6=>(if (!r_6) then some false else (zlw k w0.2.2.2.2.1).bind fun r_7=>(if r_7 then (zlx k w0.2.2.2.2.2.2.2.1).bind fun r_8=>(if r_8 then (zra k w0.2.2.2.2.2.2.2.1 w0.2.2.2.2.2.2.2.2).bind fun r_9=>some r_9 else some false) else some false)))))
def z1fy (k:Nat):FE:=⟨(.ptr U19),1,.bool,fun x=>zly k x⟩
theorem z1fz (k:Nat):z8 Tryz.prog 38 (z1fy k):=okC zb (xTc (z1fp k) (xTc z1fr (xTc (zr5 k) (xTc (zls k) (xTc (z1ft k) (xTc (z1fv k) (xTc (z1fx k) xTn))))))) xOn Tryz.f38 (LOn _) xLn (by rintro w0; kernel_rfl)
def za2 (k:Nat) (s0:List zT1×Int×List Int×List zT0) (simplex1:Int) (i2:Int):Option zT0:=(zex k s0.1 simplex1 i2).bind fun r_1=>(if 0≤r_1 then (s0.2.2.2[r_1.toNat]?).bind fun y_2=>some y_2 else none)
def z1g0 (k:Nat):FE:=⟨(.pr U23 U20),RON,U13,fun x=>za2 k x.1 x.2.1 x.2.2⟩
theorem zyv (k:Nat):z8 Tryz.prog 169 (z1g0 k):=okV zb (xTc (zr6 k) xTn) xOn Tryz.f169 (LOn _) xLn (by rintro ⟨s0,simplex1,i2⟩; kernel_rfl)
def zf1 (p0:Int) (rows1:Int) (columns2:Int):Option zT0:=(if 0≤(z6 (rows1*columns2))∧(z6 (rows1*columns2))≤(z6 (rows1*columns2))∧(z6 (rows1*columns2))*8≤LIM then some (p0,(rows1,(columns2,(List.replicate (z6 (rows1*columns2)).toNat 0)))) else none)
def z1g1:FE:=⟨U32,1,U1,fun x=>zf1 x.1 x.2.1 x.2.2⟩
theorem zyw:z8 Tryz.prog 170 (z1g1):=okC zb xTn xOn Tryz.f170 (LOn _) xLn (by rintro ⟨p0,rows1,columns2⟩; kernel_rfl)
def zbq (k:Nat):Nat→zT0→zT0→Int→Int→Int→Int→zT1→zT1→Int→Int→Int→Int→Int→Int→(zT0→zT0→Int→Int→Int→zT1→zT1→Int→Int→Int→Int→Int→Int→Option zT0)→Option zT0
 | 0,_,_,_,_,_,_,_,_,_,_,_,_,_,_,_=>none
 | n+1,a0,b1,i6,k7,sum8,j9,q_6,q_7,v_4a,v_4ba,v_4bba,v_5a,v_5ba,v_5bba,e_4=>(if (decide (j9<a0.2.2.1)) then (if 0≤(z6 ((z6 (i6*a0.2.2.1))+j9)) then (a0.2.2.2[(z6 ((z6 (i6*a0.2.2.1))+j9)).toNat]?).bind fun y_8=>(if 0≤(z6 ((z6 (j9*b1.2.2.1))+k7)) then (b1.2.2.2[(z6 ((z6 (j9*b1.2.2.1))+k7)).toNat]?).bind fun y_9=>zbq k n a0 b1 i6 k7 (z6 (sum8+(z6 (y_8*y_9)))) (z6 (j9+1)) q_6 q_7 v_4a v_4ba v_4bba v_5a v_5ba v_5bba e_4 else none) else none) else e_4 a0 b1 i6 k7 sum8 q_6 q_7 v_4a v_4ba v_4bba v_5a v_5ba v_5bba)
def zbr (k:Nat):Nat→zT0→zT0→Int→Int→zT1→zT1→Int→Int→Int→Int→Int→Int→(zT0→zT0→Int→zT1→zT1→Int→Int→Int→Int→Int→Int→Option zT0)→Option zT0
 | 0,_,_,_,_,_,_,_,_,_,_,_,_,_=>none
 | n+1,a0,b1,i6,k7,q_4,q_5,v_4a,v_4ba,v_4bba,v_5a,v_5ba,v_5bba,e_2=>(if (decide (k7<b1.2.2.1)) then zbq k k a0 b1 i6 k7 0 0 q_4 q_5 v_4a v_4ba v_4bba v_5a v_5ba v_5bba (fun a_6 b_7 i_8 k_9 sum_10 q_11 q_12 v_4a_13 v_4ba_14 v_4bba_15 v_5a_16 v_5ba_17 v_5bba_18=>(if a_6.1=0 then none else (if 0≤(z6 ((z6 (i_8*b_7.2.2.1))+k_9))∧(z6 ((z6 (i_8*b_7.2.2.1))+k_9)).toNat<List.length q_12 then (q_12[(z6 ((z6 (i_8*b_7.2.2.1))+k_9)).toNat]?).bind fun y_19=>(q_12[(z6 ((z6 (i_8*b_7.2.2.1))+k_9)).toNat]?).bind fun y_20=>zbr k n a_6 b_7 i_8 (z6 (k_9+1)) q_11 (q_12.set ((z6 ((z6 (i_8*b_7.2.2.1))+k_9)).toNat) (Int.tmod sum_10 a_6.1)) v_4a_13 v_4ba_14 v_4bba_15 v_5a_16 v_5ba_17 v_5bba_18 e_2 else none))) else e_2 a0 b1 i6 q_4 q_5 v_4a v_4ba v_4bba v_5a v_5ba v_5bba)
def zf2 (k:Nat):Nat→zT0→zT0→Int→zT1→zT1→Int→Int→Int→Int→Int→Int→(zT1→zT1→Int→Int→Int→Int→Int→Int→Option zT0)→Option zT0
 | 0,_,_,_,_,_,_,_,_,_,_,_,_=>none
 | n+1,a0,b1,i6,q_2,q_3,v_4a,v_4ba,v_4bba,v_5a,v_5ba,v_5bba,e_0=>(if (decide (i6<a0.2.1)) then zbr k k a0 b1 i6 0 q_2 q_3 v_4a v_4ba v_4bba v_5a v_5ba v_5bba (fun a_4 b_5 i_6 q_7 q_8 v_4a_9 v_4ba_10 v_4bba_11 v_5a_12 v_5ba_13 v_5bba_14=>zf2 k n a_4 b_5 (z6 (i_6+1)) q_7 q_8 v_4a_9 v_4ba_10 v_4bba_11 v_5a_12 v_5ba_13 v_5bba_14 e_0) else e_0 q_2 q_3 v_4a v_4ba v_4bba v_5a v_5ba v_5bba)
def zhs (k:Nat) (a0:Int×Int×Int×List Int) (b1:Int×Int×Int×List Int):Option zT0:=(zf1 a0.1 a0.2.1 b1.2.2.1).bind fun r_1=>zf2 k k a0 b1 0 [] r_1.2.2.2 0 0 0 r_1.1 r_1.2.1 r_1.2.2.1 (fun q_15 q_16 v_4a_17 v_4ba_18 v_4bba_19 v_5a_20 v_5ba_21 v_5bba_22=>some (v_5a_20,(v_5ba_21,(v_5bba_22,q_16))))
def zyx:Head:=⟨[(0,V2),(1,V2),(4,(.bp 4 [] 0)),(5,(.bp 5 [] 0)),(6,V0),(7,V0),(8,V0)],[(P0,2,U0,false),(P1,2,U0,false)],[(4,138,(.st (.pr V0 (.pr V0 (.pr V0 (.ref P0 [])))))),(5,138,(.st (.pr V0 (.pr V0 (.pr V0 (.ref P1 []))))))]⟩
def zyy:Head:=⟨[(0,V2),(1,V2),(4,(.bp 4 [] 0)),(5,(.bp 5 [] 0)),(6,V0),(7,V0),(8,V0),(9,V0)],[(P0,2,U0,false),(P1,2,U0,false)],[(4,138,(.st (.pr V0 (.pr V0 (.pr V0 (.ref P0 [])))))),(5,138,(.st (.pr V0 (.pr V0 (.pr V0 (.ref P1 []))))))]⟩
def zyz (k:Nat) (n:Nat) (x:zyy.T) (kx:Nat→St→Option zT0):Option zT0:=zbq k n x.1.1 x.1.2.1 x.1.2.2.2.2.1 x.1.2.2.2.2.2.1 x.1.2.2.2.2.2.2.1 x.1.2.2.2.2.2.2.2.1 x.2.1.1 x.2.1.2.1 x.2.2.1.1 x.2.2.1.2.1 x.2.2.1.2.2.1 x.2.2.2.1.1 x.2.2.2.1.2.1 x.2.2.2.1.2.2.1 (fun a0 b1 i6 k7 sum8 q_10 q_11 v_4a v_4ba v_4bba v_5a v_5ba v_5bba=>kx 4 (zyx.fill ((a0,b1,(),(),i6,k7,sum8,()),(q_10,q_11,()),((v_4a,(v_4ba,(v_4bba,()))),(v_5a,(v_5ba,(v_5bba,()))),()))))
def zlz (k:Nat):LD zT0:=⟨10,zyy,[(4,zyx)],zyz k,k⟩
def zz0:Head:=⟨[(0,V2),(1,V2),(4,(.bp 4 [] 0)),(5,(.bp 5 [] 0)),(6,V0)],[(P0,2,U0,false),(P1,2,U0,false)],[(4,138,(.st (.pr V0 (.pr V0 (.pr V0 (.ref P0 [])))))),(5,138,(.st (.pr V0 (.pr V0 (.pr V0 (.ref P1 []))))))]⟩
def zz1:Head:=⟨[(0,V2),(1,V2),(4,(.bp 4 [] 0)),(5,(.bp 5 [] 0)),(6,V0),(7,V0)],[(P0,2,U0,false),(P1,2,U0,false)],[(4,138,(.st (.pr V0 (.pr V0 (.pr V0 (.ref P0 [])))))),(5,138,(.st (.pr V0 (.pr V0 (.pr V0 (.ref P1 []))))))]⟩
def zz2 (k:Nat) (n:Nat) (x:zz1.T) (kx:Nat→St→Option zT0):Option zT0:=zbr k n x.1.1 x.1.2.1 x.1.2.2.2.2.1 x.1.2.2.2.2.2.1 x.2.1.1 x.2.1.2.1 x.2.2.1.1 x.2.2.1.2.1 x.2.2.1.2.2.1 x.2.2.2.1.1 x.2.2.2.1.2.1 x.2.2.2.1.2.2.1 (fun a0 b1 i6 q_25 q_26 v_4a v_4ba v_4bba v_5a v_5ba v_5bba=>kx 2 (zz0.fill ((a0,b1,(),(),i6,()),(q_25,q_26,()),((v_4a,(v_4ba,(v_4bba,()))),(v_5a,(v_5ba,(v_5bba,()))),()))))
def zm0 (k:Nat):LD zT0:=⟨6,zz1,[(2,zz0)],zz2 k,k⟩
def zz3:Head:=⟨[(4,(.bp 4 [] 0)),(5,(.bp 5 [] 0))],[(P0,2,U0,false),(P1,2,U0,false)],[(4,138,(.st (.pr V0 (.pr V0 (.pr V0 (.ref P0 [])))))),(5,138,(.st (.pr V0 (.pr V0 (.pr V0 (.ref P1 []))))))]⟩
def zz4:Head:=⟨[(0,V2),(1,V2),(4,(.bp 4 [] 0)),(5,(.bp 5 [] 0)),(6,V0)],[(P0,2,U0,false),(P1,2,U0,false)],[(4,138,(.st (.pr V0 (.pr V0 (.pr V0 (.ref P0 [])))))),(5,138,(.st (.pr V0 (.pr V0 (.pr V0 (.ref P1 []))))))]⟩
def zz5 (k:Nat) (n:Nat) (x:zz4.T) (kx:Nat→St→Option zT0):Option zT0:=zf2 k n x.1.1 x.1.2.1 x.1.2.2.2.2.1 x.2.1.1 x.2.1.2.1 x.2.2.1.1 x.2.2.1.2.1 x.2.2.1.2.2.1 x.2.2.2.1.1 x.2.2.2.1.2.1 x.2.2.2.1.2.2.1 (fun q_32 q_33 v_4a v_4ba v_4bba v_5a v_5ba v_5bba=>kx 0 (zz3.fill (((),(),()),(q_32,q_33,()),((v_4a,(v_4ba,(v_4bba,()))),(v_5a,(v_5ba,(v_5bba,()))),()))))
def zm1 (k:Nat):LD zT0:=⟨3,zz4,[(0,zz3)],zz5 k,k⟩
def z1g2 (k:Nat):FE:=⟨(.pr U13 U13),1,U1,fun x=>zhs k x.1 x.2⟩
theorem z1g3 (k:Nat):z8 Tryz.prog 168 (z1g2 k):=okC zb (xTc zyw xTn) xOn Tryz.f168 (orc (zlz k) (orc (zm0 k) (orc (zm1 k) (LOn _)))) (xLp (zm1 k) (by rintro n ⟨⟨a0,b1,⟨⟩,⟨⟩,i6,⟨⟩⟩,⟨q_2,q_3,⟨⟩⟩,⟨⟨v_4a,⟨v_4ba,⟨v_4bba,⟨⟩⟩⟩⟩,⟨v_5a,⟨v_5ba,⟨v_5bba,⟨⟩⟩⟩⟩,⟨⟩⟩⟩ kx _ h; dsimp only [zm1,zz5] at h; subst h; dsimp only [zm1]; kernel_rfl) (xLp (zm0 k) (by rintro n ⟨⟨a0,b1,⟨⟩,⟨⟩,i6,k7,⟨⟩⟩,⟨q_4,q_5,⟨⟩⟩,⟨⟨v_4a,⟨v_4ba,⟨v_4bba,⟨⟩⟩⟩⟩,⟨v_5a,⟨v_5ba,⟨v_5bba,⟨⟩⟩⟩⟩,⟨⟩⟩⟩ kx _ h; dsimp only [zm0,zz2] at h; subst h; dsimp only [zm0]; kernel_rfl) (xLp (zlz k) (by rintro n ⟨⟨a0,b1,⟨⟩,⟨⟩,i6,k7,sum8,j9,⟨⟩⟩,⟨q_6,q_7,⟨⟩⟩,⟨⟨v_4a,⟨v_4ba,⟨v_4bba,⟨⟩⟩⟩⟩,⟨v_5a,⟨v_5ba,⟨v_5bba,⟨⟩⟩⟩⟩,⟨⟩⟩⟩ kx _ h; dsimp only [zlz,zyz] at h; subst h; dsimp only [zlz]; kernel_rfl) xLn))) (by rintro ⟨a0,b1⟩; kernel_rfl)
def zht (k:Nat) (s0:List zT1×Int×List Int×List zT0) (simplex1:Int) (i2:Int) (j3:Int):Option zT0:=(zey k s0.1 simplex1).bind fun r_1=>(if 0≤i2∧i2.toNat<List.length r_1 then (r_1[i2.toNat]?).bind fun y_2=>(if (decide (i2<j3)) then (za2 k s0 simplex1 i2).bind fun r_3=>(za2 k s0 y_2 (z6 (j3-1))).bind fun r_4=>(zhs k r_3 r_4).bind fun r_5=>some (r_5.1,(r_5.2.1,(r_5.2.2.1,r_5.2.2.2))) else (za2 k s0 simplex1 i2).bind fun r_6=>(za2 k s0 y_2 j3).bind fun r_7=>(zhs k r_6 r_7).bind fun r_8=>some (r_8.1,(r_8.2.1,(r_8.2.2.1,r_8.2.2.2)))) else none)
def z1g4 (k:Nat):FE:=⟨(.pr U23 U32),1,U1,fun x=>zht k x.1 x.2.1 x.2.2.1 x.2.2.2⟩
theorem z1g5 (k:Nat):z8 Tryz.prog 118 (z1g4 k):=okC zb (xTc (zr7 k) (xTc (zyv k) (xTc (z1g3 k) xTn))) xOn Tryz.f118 (LOn _) xLn (by rintro ⟨s0,simplex1,i2,j3⟩; kernel_rfl)
end
end Go.Proofs.YtchfjdcfhlhgcaaGreatDoor.Ev
