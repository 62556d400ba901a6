/- Functions of the program, as plain ones. No conditions. -/
import Derived.Test.YtfinlkoplekgkaaGreatDoorG1
import Derived.KernelRfl
set_option linter.unusedVariables false
set_option maxRecDepth 100000
namespace Go.Proofs.YtfinlkoplekgkaaGreatDoor.Ev
open Go.RowKit
noncomputable section
def zce (k:Nat) (p0:Int):Option Bool:=(zs7 k p0).bind fun r_1=>some r_1
def z1if (k:Nat):FE:=⟨U0,1,.bool,fun x=>zce k x⟩
theorem z108 (k:Nat):z8 Tryz.prog 55 (z1if k):=okC zb (xTc (z1gf k) xTn) xOn Tryz.f55 (LOn _) xLn (by rintro p0; kernel_rfl)
def zfq (k:Nat):Nat→zT1→Int→Int→Int→(zT1→Int→Option Bool)→Option Bool
 | 0,_,_,_,_,_=>none
 | n+1,v0,n1,p2,i7,e_0=>(if (decide (i7<(List.length v0:Int))) then (if 0≤i7 then (v0[i7.toNat]?).bind fun y_1=>(z30 y_1 0 (z6 (p2-1))).bind fun r_2=>(if (!r_2) then some false else zfq k n v0 n1 p2 (z6 (i7+1)) e_0) else none) else e_0 v0 n1)
def z7b (k:Nat) (v0:List Int) (n1:Int) (p2:Int):Option Bool:=zfq k k v0 n1 p2 0 (fun v_3 n_4=>some (decide ((List.length v_3:Int)=n_4)))
def z109:Head:=⟨[(0,V1),(1,V0)],[],[]⟩
def z10a (k:Nat):LD Bool:=⟨2,⟨[(0,V1),(1,V0),(2,V0),(7,V0)],[],[]⟩,[(0,z109)],fun n x kx=>zfq k n x.1.1 x.1.2.1 x.1.2.2.1 x.1.2.2.2.1 (fun v0 n1=>kx 0 (z109.fill ((v0,n1,()),(),()))),k⟩
def z1ig (k:Nat):FE:=⟨(.pr U5 U20),1,.bool,fun x=>z7b k x.1 x.2.1 x.2.2⟩
theorem znf (k:Nat):z8 Tryz.prog 30 (z1ig k):=okC zb (xTc z96 xTn) xOn Tryz.f30 (orc (z10a k) (LOn _)) (xLo (z10a k) (by rintro n ⟨⟨v0,n1,p2,i7,⟨⟩⟩,⟨⟩,⟨⟩⟩ kx; kernel_rfl) xLn) (by rintro ⟨v0,n1,p2⟩; kernel_rfl)
def zcf (k:Nat):Nat→zT10→Int→Int→zT1→(zT1→Option zT1)→Option zT1
 | 0,_,_,_,_,_=>none
 | n+1,c0,dimension1,i6,q_1,e_0=>(if (decide (i6<(List.length c0:Int))) then (if 0≤i6 then (c0[i6.toNat]?).bind fun y_2=>(if (decide ((List.length y_2:Int)=(z6 (dimension1+1)))) then (if (q_1.length+[i6].length)*8≤LIM then zcf k n c0 dimension1 (z6 (i6+1)) (q_1++[i6]) e_0 else none) else zcf k n c0 dimension1 (z6 (i6+1)) q_1 e_0) else none) else e_0 q_1)
def zfr (k:Nat) (c0:List zT1) (dimension1:Int):Option zT1:=zcf k k c0 dimension1 0 [] (fun q_3=>some q_3)
def z10b:Head:=⟨[(5,(.ref P0 []))],[(P0,2,U0,false)],[]⟩
def z10c (k:Nat):LD zT1:=⟨3,⟨[(0,V6),(1,V0),(5,(.ref P0 [])),(6,V0)],[(P0,2,U0,false)],[]⟩,[(0,z10b)],fun n x kx=>zcf k n x.1.1 x.1.2.1 x.1.2.2.2.1 x.2.1.1 (fun q_3=>kx 0 (z10b.fill (((),()),(q_3,()),()))),k⟩
def z1ih (k:Nat):FE:=⟨(.pr U24 U0),1,U5,fun x=>zfr k x.1 x.2⟩
theorem zsd (k:Nat):z8 Tryz.prog 61 (z1ih k):=okC zb xTn xOn Tryz.f61 (orc (z10c k) (LOn _)) (xLo (z10c k) (by rintro n ⟨⟨c0,dimension1,⟨⟩,i6,⟨⟩⟩,⟨q_1,⟨⟩⟩,⟨⟩⟩ kx; kernel_rfl) xLn) (by rintro ⟨c0,dimension1⟩; kernel_rfl)
def zfs (k:Nat):Nat→zT1→Int→Int→zT1→(Int→Option Int)→Option Int
 | 0,_,_,_,_,_=>none
 | n+1,stalks1,sum8,i9,q_2,e_0=>(if (decide (i9<(List.length q_2:Int))) then (if 0≤i9∧i9.toNat<List.length q_2 then (q_2[i9.toNat]?).bind fun y_3=>(if 0≤y_3 then (stalks1[y_3.toNat]?).bind fun y_4=>zfs k n stalks1 (z6 (sum8+y_4)) (z6 (i9+1)) q_2 e_0 else none) else none) else e_0 sum8)
def zat (k:Nat) (c0:List zT1) (stalks1:List Int) (k2:Int):Option Int:=(zfr k c0 k2).bind fun r_1=>zfs k k stalks1 0 0 r_1 (fun sum_5=>some sum_5)
def z10d:Head:=⟨[(8,V0)],[],[]⟩
def z10e (k:Nat):LD Int:=⟨4,⟨[(1,V1),(7,(.ref P0 [])),(8,V0),(9,V0)],[(P0,2,U0,false)],[]⟩,[(0,z10d)],fun n x kx=>zfs k n x.1.1 x.1.2.2.1 x.1.2.2.2.1 x.2.1.1 (fun sum8=>kx 0 (z10d.fill ((sum8,()),(),()))),k⟩
def z1ii (k:Nat):FE:=⟨(.pr U24 U30),1,U0,fun x=>zat k x.1 x.2.1 x.2.2⟩
theorem zse (k:Nat):z8 Tryz.prog 31 (z1ii k):=okC zb (xTc (zsd k) xTn) xOn Tryz.f31 (orc (z10e k) (LOn _)) (xLo (z10e k) (by rintro n ⟨⟨stalks1,⟨⟩,sum8,i9,⟨⟩⟩,⟨q_2,⟨⟩⟩,⟨⟩⟩ kx; kernel_rfl) xLn) (by rintro ⟨c0,stalks1,k2⟩; kernel_rfl)
def zft (k:Nat):Nat→zT10→zT1→Int→(Option Bool)→Option Bool
 | 0,_,_,_,_=>none
 | n+1,c0,stalks1,k5,e_0=>(if (decide (k5≤3)) then (zat k c0 stalks1 k5).bind fun r_2=>(if (decide (32<r_2)) then some false else zft k n c0 stalks1 (z6 (k5+1)) e_0) else e_0)
def zng (k:Nat) (c0:List zT1) (stalks1:List Int):Option Bool:=(z7b k stalks1 (List.length c0:Int) 4).bind fun r_1=>(if (!r_1) then some false else zft k k c0 stalks1 0 (some true))
def z10f:Head:=⟨[],[],[]⟩
def z10g (k:Nat):LD Bool:=⟨4,⟨[(0,V6),(1,V1),(5,V0)],[],[]⟩,[(0,z10f)],fun n x kx=>zft k n x.1.1 x.1.2.1 x.1.2.2.1 (kx 0 (z10f.fill ((),(),()))),k⟩
def z1ij (k:Nat):FE:=⟨(.pr U24 U5),1,.bool,fun x=>zng k x.1 x.2⟩
theorem z1ik (k:Nat):z8 Tryz.prog 56 (z1ij k):=okC zb (xTc (znf k) (xTc (zse k) xTn)) xOn Tryz.f56 (orc (z10g k) (LOn _)) (xLo (z10g k) (by rintro n ⟨⟨c0,stalks1,k5,⟨⟩⟩,⟨⟩,⟨⟩⟩ kx; kernel_rfl) xLn) (by rintro ⟨c0,stalks1⟩; kernel_rfl)
def zcg (k:Nat):Nat→zT10→Int→Int→Int→Int→(Int→Int→Option Int)→Option Int
 | 0,_,_,_,_,_,_=>none
 | n+1,c0,simplex1,i2,at7,k8,e_0=>(if (decide (k8<simplex1)) then (if 0≤k8 then (c0[k8.toNat]?).bind fun y_1=>(if (decide (1<(List.length y_1:Int))) then (if 0≤k8 then (c0[k8.toNat]?).bind fun y_2=>zcg k n c0 simplex1 i2 (z6 (at7+(List.length y_2:Int))) (z6 (k8+1)) e_0 else none) else zcg k n c0 simplex1 i2 at7 (z6 (k8+1)) e_0) else none) else e_0 i2 at7)
def zfu (k:Nat) (c0:List zT1) (simplex1:Int) (i2:Int):Option Int:=zcg k k c0 simplex1 i2 0 0 (fun i_3 at_4=>some (z6 (at_4+i_3)))
def z10h:Head:=⟨[(2,V0),(7,V0)],[],[]⟩
def z10i (k:Nat):LD Int:=⟨3,⟨[(0,V6),(1,V0),(2,V0),(7,V0),(8,V0)],[],[]⟩,[(0,z10h)],fun n x kx=>zcg k n x.1.1 x.1.2.1 x.1.2.2.1 x.1.2.2.2.1 x.1.2.2.2.2.1 (fun i2 at7=>kx 0 (z10h.fill ((i2,at7,()),(),()))),k⟩
def z1il (k:Nat):FE:=⟨(.pr U24 U20),1,U0,fun x=>zfu k x.1 x.2.1 x.2.2⟩
theorem zsf (k:Nat):z8 Tryz.prog 59 (z1il k):=okC zb xTn xOn Tryz.f59 (orc (z10i k) (LOn _)) (xLo (z10i k) (by rintro n ⟨⟨c0,simplex1,i2,at7,k8,⟨⟩⟩,⟨⟩,⟨⟩⟩ kx; kernel_rfl) xLn) (by rintro ⟨c0,simplex1,i2⟩; kernel_rfl)
def znh (k:Nat) (c0:List zT1):Option Int:=(zfu k c0 (List.length c0:Int) 0).bind fun r_1=>some r_1
def z1im (k:Nat):FE:=⟨U24,1,U0,fun x=>znh k x⟩
theorem z1in (k:Nat):z8 Tryz.prog 57 (z1im k):=okC zb (xTc (zsf k) xTn) xOn Tryz.f57 (LOn _) xLn (by rintro c0; kernel_rfl)
def zch (k:Nat):Nat→zT10→zT1→Int→zT1→(zT1→Option zT1)→Option zT1
 | 0,_,_,_,_,_=>none
 | n+1,c0,s5,i7,q_2,e_0=>(if (decide (i7<(List.length s5:Int))) then (if (decide (1<(List.length s5:Int))) then (zc6 s5 i7).bind fun r_3=>(zij k c0 r_3).bind fun r_4=>(if (q_2.length+[r_4].length)*8≤LIM then zch k n c0 s5 (z6 (i7+1)) (q_2++[r_4]) e_0 else none) else e_0 q_2) else e_0 q_2)
def zfv (k:Nat) (c0:List zT1) (k1:Int):Option zT1:=(if 0≤k1 then (c0[k1.toNat]?).bind fun y_1=>zch k k c0 y_1 0 [] (fun q_5=>some q_5) else none)
def z10j:Head:=⟨[(6,(.ref P0 []))],[(P0,2,U0,false)],[]⟩
def z10k (k:Nat):LD zT1:=⟨4,⟨[(0,V6),(5,V1),(6,(.ref P0 [])),(7,V0)],[(P0,2,U0,false)],[]⟩,[(0,z10j)],fun n x kx=>zch k n x.1.1 x.1.2.1 x.1.2.2.2.1 x.2.1.1 (fun q_5=>kx 0 (z10j.fill (((),()),(q_5,()),()))),k⟩
def z1io (k:Nat):FE:=⟨(.pr U24 U0),1,U5,fun x=>zfv k x.1 x.2⟩
theorem zsg (k:Nat):z8 Tryz.prog 98 (z1io k):=okC zb (xTc zs6 (xTc (zyp k) xTn)) xOn Tryz.f98 (orc (z10k k) (LOn _)) (xLo (z10k k) (by rintro n ⟨⟨c0,s5,⟨⟩,i7,⟨⟩⟩,⟨q_2,⟨⟩⟩,⟨⟩⟩ kx; kernel_rfl) xLn) (by rintro ⟨c0,k1⟩; kernel_rfl)
def zfw (k:Nat) (m0:Int×Int×Int×List Int):Option Bool:=(zce k m0.1).bind fun r_1=>(if r_1 then (z30 m0.2.1 0 32).bind fun r_2=>(if r_2 then (z30 m0.2.2.1 0 32).bind fun r_3=>(if r_3 then (z7b k m0.2.2.2 (z6 (m0.2.1*m0.2.2.1)) m0.1).bind fun r_4=>some r_4 else some false) else some false) else some false)
def z1ip (k:Nat):FE:=⟨U14,1,.bool,fun x=>zfw k x⟩
theorem z1iq (k:Nat):z8 Tryz.prog 99 (z1ip k):=okC zb (xTc (z108 k) (xTc z96 (xTc (znf k) xTn))) xOn Tryz.f99 (LOn _) xLn (by rintro m0; kernel_rfl)
def zsh (k:Nat) (s0:List zT1×Int×List Int×List zT0) (simplex1:Int) (i2:Int) (m3:Int×Int×Int×List Int):Option Bool:=(zfv k s0.1 simplex1).bind fun r_1=>(if 0≤i2∧i2.toNat<List.length r_1 then (r_1[i2.toNat]?).bind fun y_2=>(zfw k m3).bind fun r_3=>(if r_3 then (if (decide (m3.1=s0.2.1)) then (if 0≤simplex1 then (s0.2.2.1[simplex1.toNat]?).bind fun y_4=>(if (decide (m3.2.1=y_4)) then (if 0≤y_2 then (s0.2.2.1[y_2.toNat]?).bind fun y_5=>some (decide (m3.2.2.1=y_5)) else none) else some false) else none) else some false) else some false) else none)
def z1ir (k:Nat):FE:=⟨(.pr U22 (.pr U0 (.pr U0 U14))),1,.bool,fun x=>zsh k x.1 x.2.1 x.2.2.1 x.2.2.2⟩
theorem z1is (k:Nat):z8 Tryz.prog 58 (z1ir k):=okC zb (xTc (zsg k) (xTc (z1iq k) xTn)) xOn Tryz.f58 (LOn _) xLn (by rintro ⟨s0,simplex1,i2,m3⟩; kernel_rfl)
def zfx (k:Nat):Nat→zT3→Int→Int→(zT3→Int→Option Bool)→Option Bool
 | 0,_,_,_,_=>none
 | n+1,s0,k3,i4,e_2=>(if 0≤k3 then (s0.1[k3.toNat]?).bind fun y_5=>(if (decide (i4<(List.length y_5:Int))) then (if 0≤k3 then (s0.1[k3.toNat]?).bind fun y_6=>(if (decide (1<(List.length y_6:Int))) then (zfu k s0.1 k3 i4).bind fun r_7=>(if 0≤r_7 then (s0.2.2.2[r_7.toNat]?).bind fun y_8=>(zsh k s0 k3 i4 y_8).bind fun r_9=>(if (!r_9) then some false else zfx k n s0 k3 (z6 (i4+1)) e_2) else none) else e_2 s0 k3) else none) else e_2 s0 k3) else none)
def zau (k:Nat):Nat→zT3→Int→(Option Bool)→Option Bool
 | 0,_,_,_=>none
 | n+1,s0,k3,e_0=>(if (decide (k3<(List.length s0.1:Int))) then zfx k k s0 k3 0 (fun s_5 k_6=>zau k n s_5 (z6 (k_6+1)) e_0) else e_0)
def zni (k:Nat) (s0:List zT1×Int×List Int×List zT0):Option Bool:=(zmj k s0.1).bind fun r_1=>(if (!r_1) then some false else (zce k s0.2.1).bind fun r_2=>(if (!r_2) then some false else (zng k s0.1 s0.2.2.1).bind fun r_3=>(if (!r_3) then some false else (znh k s0.1).bind fun r_4=>(if (!(decide ((List.length s0.2.2.2:Int)=r_4))) then some false else zau k k s0 0 (some true)))))
def z10l:Head:=⟨[(0,V5),(3,V0)],[],[]⟩
def z10m (k:Nat):LD Bool:=⟨7,⟨[(0,V5),(3,V0),(4,V0)],[],[]⟩,[(2,z10l)],fun n x kx=>zfx k n x.1.1 x.1.2.1 x.1.2.2.1 (fun s0 k3=>kx 2 (z10l.fill ((s0,k3,()),(),()))),k⟩
def z10n:Head:=⟨[],[],[]⟩
def z10o (k:Nat):LD Bool:=⟨4,⟨[(0,V5),(3,V0)],[],[]⟩,[(0,z10n)],fun n x kx=>zau k n x.1.1 x.1.2.1 (kx 0 (z10n.fill ((),(),()))),k⟩
def z1it (k:Nat):FE:=⟨U22,1,.bool,fun x=>zni k x⟩
theorem z1iu (k:Nat):z8 Tryz.prog 28 (z1it k):=okC zb (xTc (z1gd k) (xTc (z108 k) (xTc (z1ik k) (xTc (z1in k) (xTc (zsf k) (xTc (z1is k) xTn)))))) xOn Tryz.f28 (orc (z10m k) (orc (z10o k) (LOn _))) (xLo (z10o k) (by rintro n ⟨⟨s0,k3,⟨⟩⟩,⟨⟩,⟨⟩⟩ kx; kernel_rfl) (xLo (z10m k) (by rintro n ⟨⟨s0,k3,i4,⟨⟩⟩,⟨⟩,⟨⟩⟩ kx; kernel_rfl) xLn)) (by rintro s0; kernel_rfl)
def zsi (n0:Int):Option Bool:=(z30 n0 0 3).bind fun r_1=>some r_1
def z1iv:FE:=⟨U0,1,.bool,fun x=>zsi x⟩
theorem z1iw:z8 Tryz.prog 29 (z1iv):=okC zb (xTc z96 xTn) xOn Tryz.f29 (LOn _) xLn (by rintro n0; kernel_rfl)
def z9b (k:Nat):Nat→zT5→Int→(zT5→Option Bool)→Option Bool
 | 0,_,_,_=>none
 | n+1,n0,i3,e_0=>(if (decide (i3<(List.length n0.2.2.2:Int))) then (if 0≤i3 then (n0.2.2.2[i3.toNat]?).bind fun y_4=>(z30 y_4.1 0 (z6 (n0.1-1))).bind fun r_5=>(if (!r_5) then some false else (z30 y_4.2.1 0 (z6 (n0.1-1))).bind fun r_6=>(if (!r_6) then some false else (if (decide (y_4.1=y_4.2.1)) then some false else (z30 y_4.2.2 0 1000000).bind fun r_7=>(if (!r_7) then some false else (if (decide (0<i3)) then (if 0≤(z6 (i3-1)) then (n0.2.2.2[(z6 (i3-1)).toNat]?).bind fun y_8=>(if (decide (y_4.1<y_8.1)) then some false else (if 0≤(z6 (i3-1)) then (n0.2.2.2[(z6 (i3-1)).toNat]?).bind fun y_9=>(if (decide (y_9.1=y_4.1)) then (if 0≤(z6 (i3-1)) then (n0.2.2.2[(z6 (i3-1)).toNat]?).bind fun y_10=>(if (decide (y_4.2.1≤y_10.2.1)) then some false else z9b k n n0 (z6 (i3+1)) e_0) else none) else z9b k n n0 (z6 (i3+1)) e_0) else none)) else none) else z9b k n n0 (z6 (i3+1)) e_0))))) else none) else e_0 n0)
def znj (k:Nat) (n0:Int×Int×Int×List zT2):Option Bool:=(z30 n0.1 2 12).bind fun r_1=>(if (!r_1) then some false else (z30 n0.2.1 0 (z6 (n0.1-1))).bind fun r_2=>(if (!r_2) then some false else (z30 n0.2.2.1 0 (z6 (n0.1-1))).bind fun r_3=>(if (!r_3) then some false else (if (decide (n0.2.1=n0.2.2.1)) then some false else z9b k k n0 0 (fun n_11=>some (decide ((List.length n_11.2.2.2:Int)≤24)))))))
def z10p:Head:=⟨[(0,V8)],[],[]⟩
def z10q (k:Nat):LD Bool:=⟨4,⟨[(0,V8),(3,V0)],[],[]⟩,[(0,z10p)],fun n x kx=>z9b k n x.1.1 x.1.2.1 (fun n0=>kx 0 (z10p.fill ((n0,()),(),()))),k⟩
def z1ix (k:Nat):FE:=⟨U29,1,.bool,fun x=>znj k x⟩
theorem z1iy (k:Nat):z8 Tryz.prog 32 (z1ix k):=okC zb (xTc z96 xTn) xOn Tryz.f32 (orc (z10q k) (LOn _)) (xLo (z10q k) (by rintro n ⟨⟨n0,i3,⟨⟩⟩,⟨⟩,⟨⟩⟩ kx; kernel_rfl) xLn) (by rintro n0; kernel_rfl)
def z9c (k:Nat):Nat→zT6→Int→(zT6→Option Bool)→Option Bool
 | 0,_,_,_=>none
 | n+1,x0,i3,e_0=>(if (decide (i3<(List.length x0.2.2:Int))) then (if 0≤i3 then (x0.2.2[i3.toNat]?).bind fun y_3=>(z30 y_3.1 0 (z6 (x0.1-1))).bind fun r_4=>(if (!r_4) then some false else (z30 y_3.2.1 (z6 (y_3.1+1)) (z6 (x0.1-1))).bind fun r_5=>(if (!r_5) then some false else (z30 y_3.2.2 0 (z6 (x0.2.1-1))).bind fun r_6=>(if (!r_6) then some false else (if (decide (0<i3)) then (if 0≤(z6 (i3-1)) then (x0.2.2[(z6 (i3-1)).toNat]?).bind fun y_7=>(if (decide (y_3.1<y_7.1)) then some false else (if 0≤(z6 (i3-1)) then (x0.2.2[(z6 (i3-1)).toNat]?).bind fun y_8=>(if (decide (y_8.1=y_3.1)) then (if 0≤(z6 (i3-1)) then (x0.2.2[(z6 (i3-1)).toNat]?).bind fun y_9=>(if (decide (y_3.2.1≤y_9.2.1)) then some false else z9c k n x0 (z6 (i3+1)) e_0) else none) else z9c k n x0 (z6 (i3+1)) e_0) else none)) else none) else z9c k n x0 (z6 (i3+1)) e_0)))) else none) else e_0 x0)
def znk (k:Nat) (x0:Int×Int×List zT2):Option Bool:=(z30 x0.1 1 12).bind fun r_1=>(if (!r_1) then some false else (z30 x0.2.1 2 360).bind fun r_2=>(if (!r_2) then some false else z9c k k x0 0 (fun x_10=>some (decide ((List.length x_10.2.2:Int)≤24)))))
def z10r:Head:=⟨[(0,(.val U38))],[],[]⟩
def z10s (k:Nat):LD Bool:=⟨4,⟨[(0,(.val U38)),(3,V0)],[],[]⟩,[(0,z10r)],fun n x kx=>z9c k n x.1.1 x.1.2.1 (fun x0=>kx 0 (z10r.fill ((x0,()),(),()))),k⟩
def z1iz (k:Nat):FE:=⟨U38,1,.bool,fun x=>znk k x⟩
theorem z1j0 (k:Nat):z8 Tryz.prog 33 (z1iz k):=okC zb (xTc z96 xTn) xOn Tryz.f33 (orc (z10s k) (LOn _)) (xLo (z10s k) (by rintro n ⟨⟨x0,i3,⟨⟩⟩,⟨⟩,⟨⟩⟩ kx; kernel_rfl) xLn) (by rintro x0; kernel_rfl)
def zsj (k:Nat) (x0:Int×Int×List zT2) (phases1:List Int):Option Bool:=(z7b k phases1 x0.1 x0.2.1).bind fun r_1=>some r_1
def z1j1 (k:Nat):FE:=⟨(.pr U38 U5),1,.bool,fun x=>zsj k x.1 x.2⟩
theorem z1j2 (k:Nat):z8 Tryz.prog 34 (z1j1 k):=okC zb (xTc (znf k) xTn) xOn Tryz.f34 (LOn _) xLn (by rintro ⟨x0,phases1⟩; kernel_rfl)
def znl (k:Nat) (w0:zT3×Int×List Int×List Int×zT5×List Int×List Int×zT6×List Int):Option Bool:=(zni k w0.1).bind fun r_1=>(if (!r_1) then some false else (zsi w0.2.1).bind fun r_2=>(if (!r_2) then some false else (zat k w0.1.1 w0.1.2.2.1 w0.2.1).bind fun r_3=>(z7b k w0.2.2.1 r_3 w0.1.2.1).bind fun r_4=>(if (!r_4) then some false else (zat k w0.1.1 w0.1.2.2.1 0).bind fun r_5=>(z7b k w0.2.2.2.1 r_5 w0.1.2.1).bind fun r_6=>(if (!r_6) then some false else (znj k w0.2.2.2.2.1).bind fun r_7=>(if r_7 then (znk k w0.2.2.2.2.2.2.2.1).bind fun r_8=>(if r_8 then (zsj k w0.2.2.2.2.2.2.2.1 w0.2.2.2.2.2.2.2.2).bind fun r_9=>some r_9 else some false) else some false)))))
def z1j3 (k:Nat):FE:=⟨U37,1,.bool,fun x=>znl k x⟩
theorem z1j4 (k:Nat):z8 Tryz.prog 13 (z1j3 k):=okC zb (xTc (z1iu k) (xTc z1iw (xTc (zse k) (xTc (znf k) (xTc (z1iy k) (xTc (z1j0 k) (xTc (z1j2 k) xTn))))))) xOn Tryz.f13 (LOn _) xLn (by rintro w0; kernel_rfl)
def zav (k:Nat) (s0:List zT1×Int×List Int×List zT0) (simplex1:Int) (i2:Int):Option zT0:=(zfu k s0.1 simplex1 i2).bind fun r_1=>(if 0≤r_1 then (s0.2.2.2[r_1.toNat]?).bind fun y_2=>some y_2 else none)
def z1j5 (k:Nat):FE:=⟨(.pr U22 U20),RON,U14,fun x=>zav k x.1 x.2.1 x.2.2⟩
theorem z10t (k:Nat):z8 Tryz.prog 139 (z1j5 k):=okV zb (xTc (zsf k) xTn) xOn Tryz.f139 (LOn _) xLn (by rintro ⟨s0,simplex1,i2⟩; kernel_rfl)
def zfy (p0:Int) (rows1:Int) (columns2:Int):Option zT0:=(if 0≤(z6 (rows1*columns2))∧(z6 (rows1*columns2))≤(z6 (rows1*columns2))∧(z6 (rows1*columns2))*8≤LIM then some (p0,(rows1,(columns2,(List.replicate (z6 (rows1*columns2)).toNat 0)))) else none)
def z1j6:FE:=⟨U34,1,U3,fun x=>zfy x.1 x.2.1 x.2.2⟩
theorem z10u:z8 Tryz.prog 140 (z1j6):=okC zb xTn xOn Tryz.f140 (LOn _) xLn (by rintro ⟨p0,rows1,columns2⟩; kernel_rfl)
def zci (k:Nat):Nat→zT0→zT0→Int→Int→Int→Int→zT1→zT1→Int→Int→Int→Int→Int→Int→(zT0→zT0→Int→Int→Int→zT1→zT1→Int→Int→Int→Int→Int→Int→Option zT0)→Option zT0
 | 0,_,_,_,_,_,_,_,_,_,_,_,_,_,_,_=>none
 | n+1,a0,b1,i6,k7,sum8,j9,q_6,q_7,v_4a,v_4ba,v_4bba,v_5a,v_5ba,v_5bba,e_4=>(if (decide (j9<a0.2.2.1)) then (if 0≤(z6 ((z6 (i6*a0.2.2.1))+j9)) then (a0.2.2.2[(z6 ((z6 (i6*a0.2.2.1))+j9)).toNat]?).bind fun y_8=>(if 0≤(z6 ((z6 (j9*b1.2.2.1))+k7)) then (b1.2.2.2[(z6 ((z6 (j9*b1.2.2.1))+k7)).toNat]?).bind fun y_9=>zci k n a0 b1 i6 k7 (z6 (sum8+(z6 (y_8*y_9)))) (z6 (j9+1)) q_6 q_7 v_4a v_4ba v_4bba v_5a v_5ba v_5bba e_4 else none) else none) else e_4 a0 b1 i6 k7 sum8 q_6 q_7 v_4a v_4ba v_4bba v_5a v_5ba v_5bba)
def zcj (k:Nat):Nat→zT0→zT0→Int→Int→zT1→zT1→Int→Int→Int→Int→Int→Int→(zT0→zT0→Int→zT1→zT1→Int→Int→Int→Int→Int→Int→Option zT0)→Option zT0
 | 0,_,_,_,_,_,_,_,_,_,_,_,_,_=>none
 | n+1,a0,b1,i6,k7,q_4,q_5,v_4a,v_4ba,v_4bba,v_5a,v_5ba,v_5bba,e_2=>(if (decide (k7<b1.2.2.1)) then zci k k a0 b1 i6 k7 0 0 q_4 q_5 v_4a v_4ba v_4bba v_5a v_5ba v_5bba (fun a_6 b_7 i_8 k_9 sum_10 q_11 q_12 v_4a_13 v_4ba_14 v_4bba_15 v_5a_16 v_5ba_17 v_5bba_18=>(if a_6.1=0 then none else (if 0≤(z6 ((z6 (i_8*b_7.2.2.1))+k_9))∧(z6 ((z6 (i_8*b_7.2.2.1))+k_9)).toNat<List.length q_12 then (q_12[(z6 ((z6 (i_8*b_7.2.2.1))+k_9)).toNat]?).bind fun y_19=>(q_12[(z6 ((z6 (i_8*b_7.2.2.1))+k_9)).toNat]?).bind fun y_20=>zcj k n a_6 b_7 i_8 (z6 (k_9+1)) q_11 (q_12.set ((z6 ((z6 (i_8*b_7.2.2.1))+k_9)).toNat) (Int.tmod sum_10 a_6.1)) v_4a_13 v_4ba_14 v_4bba_15 v_5a_16 v_5ba_17 v_5bba_18 e_2 else none))) else e_2 a0 b1 i6 q_4 q_5 v_4a v_4ba v_4bba v_5a v_5ba v_5bba)
def zfz (k:Nat):Nat→zT0→zT0→Int→zT1→zT1→Int→Int→Int→Int→Int→Int→(zT1→zT1→Int→Int→Int→Int→Int→Int→Option zT0)→Option zT0
 | 0,_,_,_,_,_,_,_,_,_,_,_,_=>none
 | n+1,a0,b1,i6,q_2,q_3,v_4a,v_4ba,v_4bba,v_5a,v_5ba,v_5bba,e_0=>(if (decide (i6<a0.2.1)) then zcj k k a0 b1 i6 0 q_2 q_3 v_4a v_4ba v_4bba v_5a v_5ba v_5bba (fun a_4 b_5 i_6 q_7 q_8 v_4a_9 v_4ba_10 v_4bba_11 v_5a_12 v_5ba_13 v_5bba_14=>zfz k n a_4 b_5 (z6 (i_6+1)) q_7 q_8 v_4a_9 v_4ba_10 v_4bba_11 v_5a_12 v_5ba_13 v_5bba_14 e_0) else e_0 q_2 q_3 v_4a v_4ba v_4bba v_5a v_5ba v_5bba)
def ziy (k:Nat) (a0:Int×Int×Int×List Int) (b1:Int×Int×Int×List Int):Option zT0:=(zfy a0.1 a0.2.1 b1.2.2.1).bind fun r_1=>zfz k k a0 b1 0 [] r_1.2.2.2 0 0 0 r_1.1 r_1.2.1 r_1.2.2.1 (fun q_15 q_16 v_4a_17 v_4ba_18 v_4bba_19 v_5a_20 v_5ba_21 v_5bba_22=>some (v_5a_20,(v_5ba_21,(v_5bba_22,q_16))))
def z10v:Head:=⟨[(0,V2),(1,V2),(4,(.bp 4 [] 0)),(5,(.bp 5 [] 0)),(6,V0),(7,V0),(8,V0)],[(P0,2,U0,false),(P1,2,U0,false)],[(4,106,(.st (.pr V0 (.pr V0 (.pr V0 (.ref P0 [])))))),(5,106,(.st (.pr V0 (.pr V0 (.pr V0 (.ref P1 []))))))]⟩
def z10w:Head:=⟨[(0,V2),(1,V2),(4,(.bp 4 [] 0)),(5,(.bp 5 [] 0)),(6,V0),(7,V0),(8,V0),(9,V0)],[(P0,2,U0,false),(P1,2,U0,false)],[(4,106,(.st (.pr V0 (.pr V0 (.pr V0 (.ref P0 [])))))),(5,106,(.st (.pr V0 (.pr V0 (.pr V0 (.ref P1 []))))))]⟩
def z10x (k:Nat) (n:Nat) (x:z10w.T) (kx:Nat→St→Option zT0):Option zT0:=zci k n x.1.1 x.1.2.1 x.1.2.2.2.2.1 x.1.2.2.2.2.2.1 x.1.2.2.2.2.2.2.1 x.1.2.2.2.2.2.2.2.1 x.2.1.1 x.2.1.2.1 x.2.2.1.1 x.2.2.1.2.1 x.2.2.1.2.2.1 x.2.2.2.1.1 x.2.2.2.1.2.1 x.2.2.2.1.2.2.1 (fun a0 b1 i6 k7 sum8 q_10 q_11 v_4a v_4ba v_4bba v_5a v_5ba v_5bba=>kx 4 (z10v.fill ((a0,b1,(),(),i6,k7,sum8,()),(q_10,q_11,()),((v_4a,(v_4ba,(v_4bba,()))),(v_5a,(v_5ba,(v_5bba,()))),()))))
def znm (k:Nat):LD zT0:=⟨10,z10w,[(4,z10v)],z10x k,k⟩
def z10y:Head:=⟨[(0,V2),(1,V2),(4,(.bp 4 [] 0)),(5,(.bp 5 [] 0)),(6,V0)],[(P0,2,U0,false),(P1,2,U0,false)],[(4,106,(.st (.pr V0 (.pr V0 (.pr V0 (.ref P0 [])))))),(5,106,(.st (.pr V0 (.pr V0 (.pr V0 (.ref P1 []))))))]⟩
def z10z:Head:=⟨[(0,V2),(1,V2),(4,(.bp 4 [] 0)),(5,(.bp 5 [] 0)),(6,V0),(7,V0)],[(P0,2,U0,false),(P1,2,U0,false)],[(4,106,(.st (.pr V0 (.pr V0 (.pr V0 (.ref P0 [])))))),(5,106,(.st (.pr V0 (.pr V0 (.pr V0 (.ref P1 []))))))]⟩
def z110 (k:Nat) (n:Nat) (x:z10z.T) (kx:Nat→St→Option zT0):Option zT0:=zcj k n x.1.1 x.1.2.1 x.1.2.2.2.2.1 x.1.2.2.2.2.2.1 x.2.1.1 x.2.1.2.1 x.2.2.1.1 x.2.2.1.2.1 x.2.2.1.2.2.1 x.2.2.2.1.1 x.2.2.2.1.2.1 x.2.2.2.1.2.2.1 (fun a0 b1 i6 q_25 q_26 v_4a v_4ba v_4bba v_5a v_5ba v_5bba=>kx 2 (z10y.fill ((a0,b1,(),(),i6,()),(q_25,q_26,()),((v_4a,(v_4ba,(v_4bba,()))),(v_5a,(v_5ba,(v_5bba,()))),()))))
def znn (k:Nat):LD zT0:=⟨6,z10z,[(2,z10y)],z110 k,k⟩
def z111:Head:=⟨[(4,(.bp 4 [] 0)),(5,(.bp 5 [] 0))],[(P0,2,U0,false),(P1,2,U0,false)],[(4,106,(.st (.pr V0 (.pr V0 (.pr V0 (.ref P0 [])))))),(5,106,(.st (.pr V0 (.pr V0 (.pr V0 (.ref P1 []))))))]⟩
def z112:Head:=⟨[(0,V2),(1,V2),(4,(.bp 4 [] 0)),(5,(.bp 5 [] 0)),(6,V0)],[(P0,2,U0,false),(P1,2,U0,false)],[(4,106,(.st (.pr V0 (.pr V0 (.pr V0 (.ref P0 [])))))),(5,106,(.st (.pr V0 (.pr V0 (.pr V0 (.ref P1 []))))))]⟩
def z113 (k:Nat) (n:Nat) (x:z112.T) (kx:Nat→St→Option zT0):Option zT0:=zfz k n x.1.1 x.1.2.1 x.1.2.2.2.2.1 x.2.1.1 x.2.1.2.1 x.2.2.1.1 x.2.2.1.2.1 x.2.2.1.2.2.1 x.2.2.2.1.1 x.2.2.2.1.2.1 x.2.2.2.1.2.2.1 (fun q_32 q_33 v_4a v_4ba v_4bba v_5a v_5ba v_5bba=>kx 0 (z111.fill (((),(),()),(q_32,q_33,()),((v_4a,(v_4ba,(v_4bba,()))),(v_5a,(v_5ba,(v_5bba,()))),()))))
def zno (k:Nat):LD zT0:=⟨3,z112,[(0,z111)],z113 k,k⟩
def z1j7 (k:Nat):FE:=⟨(.pr U14 U14),1,U3,fun x=>ziy k x.1 x.2⟩
theorem z1j8 (k:Nat):z8 Tryz.prog 138 (z1j7 k):=okC zb (xTc z10u xTn) xOn Tryz.f138 (orc (znm k) (orc (znn k) (orc (zno k) (LOn _)))) (xLp (zno k) (by rintro n ⟨⟨a0,b1,⟨⟩,⟨⟩,i6,⟨⟩⟩,⟨q_2,q_3,⟨⟩⟩,⟨⟨v_4a,⟨v_4ba,⟨v_4bba,⟨⟩⟩⟩⟩,⟨v_5a,⟨v_5ba,⟨v_5bba,⟨⟩⟩⟩⟩,⟨⟩⟩⟩ kx _ h; dsimp only [zno,z113] at h; subst h; dsimp only [zno]; kernel_rfl) (xLp (znn k) (by rintro n ⟨⟨a0,b1,⟨⟩,⟨⟩,i6,k7,⟨⟩⟩,⟨q_4,q_5,⟨⟩⟩,⟨⟨v_4a,⟨v_4ba,⟨v_4bba,⟨⟩⟩⟩⟩,⟨v_5a,⟨v_5ba,⟨v_5bba,⟨⟩⟩⟩⟩,⟨⟩⟩⟩ kx _ h; dsimp only [znn,z110] at h; subst h; dsimp only [znn]; kernel_rfl) (xLp (znm k) (by rintro n ⟨⟨a0,b1,⟨⟩,⟨⟩,i6,k7,sum8,j9,⟨⟩⟩,⟨q_6,q_7,⟨⟩⟩,⟨⟨v_4a,⟨v_4ba,⟨v_4bba,⟨⟩⟩⟩⟩,⟨v_5a,⟨v_5ba,⟨v_5bba,⟨⟩⟩⟩⟩,⟨⟩⟩⟩ kx _ h; dsimp only [znm,z10x] at h; subst h; dsimp only [znm]; kernel_rfl) xLn))) (by rintro ⟨a0,b1⟩; kernel_rfl)
def ziz (k:Nat) (s0:List zT1×Int×List Int×List zT0) (simplex1:Int) (i2:Int) (j3:Int):Option zT0:=(zfv k s0.1 simplex1).bind fun r_1=>(if 0≤i2∧i2.toNat<List.length r_1 then (r_1[i2.toNat]?).bind fun y_2=>(if (decide (i2<j3)) then (zav k s0 simplex1 i2).bind fun r_3=>(zav k s0 y_2 (z6 (j3-1))).bind fun r_4=>(ziy k r_3 r_4).bind fun r_5=>some (r_5.1,(r_5.2.1,(r_5.2.2.1,r_5.2.2.2))) else (zav k s0 simplex1 i2).bind fun r_6=>(zav k s0 y_2 j3).bind fun r_7=>(ziy k r_6 r_7).bind fun r_8=>some (r_8.1,(r_8.2.1,(r_8.2.2.1,r_8.2.2.2)))) else none)
def z1j9 (k:Nat):FE:=⟨(.pr U22 U34),1,U3,fun x=>ziz k x.1 x.2.1 x.2.2.1 x.2.2.2⟩
theorem z1ja (k:Nat):z8 Tryz.prog 100 (z1j9 k):=okC zb (xTc (zsg k) (xTc (z10t k) (xTc (z1j8 k) xTn))) xOn Tryz.f100 (LOn _) xLn (by rintro ⟨s0,simplex1,i2,j3⟩; kernel_rfl)
end
end Go.Proofs.YtfinlkoplekgkaaGreatDoor.Ev
