/- Functions of the program, as plain ones. No conditions. -/
import Derived.Test.YtiodkblajaenbaaGreatDoorG1
import Derived.KernelRfl
set_option linter.unusedVariables false
set_option maxRecDepth 100000
namespace Go.Proofs.YtiodkblajaenbaaGreatDoor.Ev
open Go.RowKit
noncomputable section
def zco (k:Nat) (p0:Int):Option Bool:=(zt2 k p0).bind fun r_1=>some r_1
def z1l5 (k:Nat):FE:=⟨U0,1,.bool,fun x=>zco k x⟩
theorem z11z (k:Nat):z8 Tryz.prog 80 (z1l5 k):=okC za (xTc (z1ib k) xTn) xOn Tryz.f80 (LOn _) xLn (by rintro p0; kernel_rfl)
def zga (k:Nat):Nat→zT1→Int→Int→Int→(zT1→Int→Option Bool)→Option Bool
 | 0,_,_,_,_,_=>none
 | n+1,v0,n1,p2,i7,e_0=>(if (decide (i7<(List.length v0:Int))) then (if 0≤i7 then (v0[i7.toNat]?).bind fun y_1=>(z32 y_1 0 (z6 (p2-1))).bind fun r_2=>(if (!r_2) then some false else zga k n v0 n1 p2 (z6 (i7+1)) e_0) else none) else e_0 v0 n1)
def z7d (k:Nat) (v0:List Int) (n1:Int) (p2:Int):Option Bool:=zga k k v0 n1 p2 0 (fun v_3 n_4=>some (decide ((List.length v_3:Int)=n_4)))
def z120:Head:=⟨[(0,V1),(1,V0)],[],[]⟩
def z121 (k:Nat):LD Bool:=⟨2,⟨[(0,V1),(1,V0),(2,V0),(7,V0)],[],[]⟩,[(0,z120)],fun n x kx=>zga k n x.1.1 x.1.2.1 x.1.2.2.1 x.1.2.2.2.1 (fun v0 n1=>kx 0 (z120.fill ((v0,n1,()),(),()))),k⟩
def z1l6 (k:Nat):FE:=⟨(.pr U5 U19),1,.bool,fun x=>z7d k x.1 x.2.1 x.2.2⟩
theorem zo8 (k:Nat):z8 Tryz.prog 44 (z1l6 k):=okC za (xTc z9b xTn) xOn Tryz.f44 (orc (z121 k) (LOn _)) (xLo (z121 k) (by rintro n ⟨⟨v0,n1,p2,i7,⟨⟩⟩,⟨⟩,⟨⟩⟩ kx; kernel_rfl) xLn) (by rintro ⟨v0,n1,p2⟩; kernel_rfl)
def zcp (k:Nat):Nat→zT10→Int→Int→zT1→(zT1→Option zT1)→Option zT1
 | 0,_,_,_,_,_=>none
 | n+1,c0,dimension1,i6,q_1,e_0=>(if (decide (i6<(List.length c0:Int))) then (if 0≤i6 then (c0[i6.toNat]?).bind fun y_2=>(if (decide ((List.length y_2:Int)=(z6 (dimension1+1)))) then (if (q_1.length+[i6].length)*8≤LIM then zcp k n c0 dimension1 (z6 (i6+1)) (q_1++[i6]) e_0 else none) else zcp k n c0 dimension1 (z6 (i6+1)) q_1 e_0) else none) else e_0 q_1)
def zgb (k:Nat) (c0:List zT1) (dimension1:Int):Option zT1:=zcp k k c0 dimension1 0 [] (fun q_3=>some q_3)
def z122:Head:=⟨[(5,(.ref P0 []))],[(P0,2,U0,false)],[]⟩
def z123 (k:Nat):LD zT1:=⟨3,⟨[(0,V6),(1,V0),(5,(.ref P0 [])),(6,V0)],[(P0,2,U0,false)],[]⟩,[(0,z122)],fun n x kx=>zcp k n x.1.1 x.1.2.1 x.1.2.2.2.1 x.2.1.1 (fun q_3=>kx 0 (z122.fill (((),()),(q_3,()),()))),k⟩
def z1l7 (k:Nat):FE:=⟨(.pr U25 U0),1,U5,fun x=>zgb k x.1 x.2⟩
theorem ztc (k:Nat):z8 Tryz.prog 86 (z1l7 k):=okC za xTn xOn Tryz.f86 (orc (z123 k) (LOn _)) (xLo (z123 k) (by rintro n ⟨⟨c0,dimension1,⟨⟩,i6,⟨⟩⟩,⟨q_1,⟨⟩⟩,⟨⟩⟩ kx; kernel_rfl) xLn) (by rintro ⟨c0,dimension1⟩; kernel_rfl)
def zgc (k:Nat):Nat→zT1→Int→Int→zT1→(Int→Option Int)→Option Int
 | 0,_,_,_,_,_=>none
 | n+1,stalks1,sum8,i9,q_2,e_0=>(if (decide (i9<(List.length q_2:Int))) then (if 0≤i9∧i9.toNat<List.length q_2 then (q_2[i9.toNat]?).bind fun y_3=>(if 0≤y_3 then (stalks1[y_3.toNat]?).bind fun y_4=>zgc k n stalks1 (z6 (sum8+y_4)) (z6 (i9+1)) q_2 e_0 else none) else none) else e_0 sum8)
def zaz (k:Nat) (c0:List zT1) (stalks1:List Int) (k2:Int):Option Int:=(zgb k c0 k2).bind fun r_1=>zgc k k stalks1 0 0 r_1 (fun sum_5=>some sum_5)
def z124:Head:=⟨[(8,V0)],[],[]⟩
def z125 (k:Nat):LD Int:=⟨4,⟨[(1,V1),(7,(.ref P0 [])),(8,V0),(9,V0)],[(P0,2,U0,false)],[]⟩,[(0,z124)],fun n x kx=>zgc k n x.1.1 x.1.2.2.1 x.1.2.2.2.1 x.2.1.1 (fun sum8=>kx 0 (z124.fill ((sum8,()),(),()))),k⟩
def z1l8 (k:Nat):FE:=⟨(.pr U25 U31),1,U0,fun x=>zaz k x.1 x.2.1 x.2.2⟩
theorem ztd (k:Nat):z8 Tryz.prog 45 (z1l8 k):=okC za (xTc (ztc k) xTn) xOn Tryz.f45 (orc (z125 k) (LOn _)) (xLo (z125 k) (by rintro n ⟨⟨stalks1,⟨⟩,sum8,i9,⟨⟩⟩,⟨q_2,⟨⟩⟩,⟨⟩⟩ kx; kernel_rfl) xLn) (by rintro ⟨c0,stalks1,k2⟩; kernel_rfl)
def zgd (k:Nat):Nat→zT10→zT1→Int→(Option Bool)→Option Bool
 | 0,_,_,_,_=>none
 | n+1,c0,stalks1,k5,e_0=>(if (decide (k5≤3)) then (zaz k c0 stalks1 k5).bind fun r_2=>(if (decide (32<r_2)) then some false else zgd k n c0 stalks1 (z6 (k5+1)) e_0) else e_0)
def zo9 (k:Nat) (c0:List zT1) (stalks1:List Int):Option Bool:=(z7d k stalks1 (List.length c0:Int) 4).bind fun r_1=>(if (!r_1) then some false else zgd k k c0 stalks1 0 (some true))
def z126:Head:=⟨[],[],[]⟩
def z128 (k:Nat):LD Bool:=⟨4,⟨[(0,V6),(1,V1),(5,V0)],[],[]⟩,[(0,z126)],fun n x kx=>zgd k n x.1.1 x.1.2.1 x.1.2.2.1 (kx 0 (z126.fill ((),(),()))),k⟩
def z1l9 (k:Nat):FE:=⟨(.pr U25 U5),1,.bool,fun x=>zo9 k x.1 x.2⟩
theorem z1la (k:Nat):z8 Tryz.prog 81 (z1l9 k):=okC za (xTc (zo8 k) (xTc (ztd k) xTn)) xOn Tryz.f81 (orc (z128 k) (LOn _)) (xLo (z128 k) (by rintro n ⟨⟨c0,stalks1,k5,⟨⟩⟩,⟨⟩,⟨⟩⟩ kx; kernel_rfl) xLn) (by rintro ⟨c0,stalks1⟩; kernel_rfl)
def zcq (k:Nat):Nat→zT10→Int→Int→Int→Int→(Int→Int→Option Int)→Option Int
 | 0,_,_,_,_,_,_=>none
 | n+1,c0,simplex1,i2,at7,k8,e_0=>(if (decide (k8<simplex1)) then (if 0≤k8 then (c0[k8.toNat]?).bind fun y_1=>(if (decide (1<(List.length y_1:Int))) then (if 0≤k8 then (c0[k8.toNat]?).bind fun y_2=>zcq k n c0 simplex1 i2 (z6 (at7+(List.length y_2:Int))) (z6 (k8+1)) e_0 else none) else zcq k n c0 simplex1 i2 at7 (z6 (k8+1)) e_0) else none) else e_0 i2 at7)
def zge (k:Nat) (c0:List zT1) (simplex1:Int) (i2:Int):Option Int:=zcq k k c0 simplex1 i2 0 0 (fun i_3 at_4=>some (z6 (at_4+i_3)))
def z129:Head:=⟨[(2,V0),(7,V0)],[],[]⟩
def z12a (k:Nat):LD Int:=⟨3,⟨[(0,V6),(1,V0),(2,V0),(7,V0),(8,V0)],[],[]⟩,[(0,z129)],fun n x kx=>zcq k n x.1.1 x.1.2.1 x.1.2.2.1 x.1.2.2.2.1 x.1.2.2.2.2.1 (fun i2 at7=>kx 0 (z129.fill ((i2,at7,()),(),()))),k⟩
def z1lb (k:Nat):FE:=⟨(.pr U25 U19),1,U0,fun x=>zge k x.1 x.2.1 x.2.2⟩
theorem zte (k:Nat):z8 Tryz.prog 84 (z1lb k):=okC za xTn xOn Tryz.f84 (orc (z12a k) (LOn _)) (xLo (z12a k) (by rintro n ⟨⟨c0,simplex1,i2,at7,k8,⟨⟩⟩,⟨⟩,⟨⟩⟩ kx; kernel_rfl) xLn) (by rintro ⟨c0,simplex1,i2⟩; kernel_rfl)
def zoa (k:Nat) (c0:List zT1):Option Int:=(zge k c0 (List.length c0:Int) 0).bind fun r_1=>some r_1
def z1lc (k:Nat):FE:=⟨U25,1,U0,fun x=>zoa k x⟩
theorem z1ld (k:Nat):z8 Tryz.prog 82 (z1lc k):=okC za (xTc (zte k) xTn) xOn Tryz.f82 (LOn _) xLn (by rintro c0; kernel_rfl)
def zcr (k:Nat):Nat→zT10→zT1→Int→zT1→(zT1→Option zT1)→Option zT1
 | 0,_,_,_,_,_=>none
 | n+1,c0,s5,i7,q_2,e_0=>(if (decide (i7<(List.length s5:Int))) then (if (decide (1<(List.length s5:Int))) then (zce s5 i7).bind fun r_3=>(zj5 k c0 r_3).bind fun r_4=>(if (q_2.length+[r_4].length)*8≤LIM then zcr k n c0 s5 (z6 (i7+1)) (q_2++[r_4]) e_0 else none) else e_0 q_2) else e_0 q_2)
def zgf (k:Nat) (c0:List zT1) (k1:Int):Option zT1:=(if 0≤k1 then (c0[k1.toNat]?).bind fun y_1=>zcr k k c0 y_1 0 [] (fun q_5=>some q_5) else none)
def z12b:Head:=⟨[(6,(.ref P0 []))],[(P0,2,U0,false)],[]⟩
def z12c (k:Nat):LD zT1:=⟨4,⟨[(0,V6),(5,V1),(6,(.ref P0 [])),(7,V0)],[(P0,2,U0,false)],[]⟩,[(0,z12b)],fun n x kx=>zcr k n x.1.1 x.1.2.1 x.1.2.2.2.1 x.2.1.1 (fun q_5=>kx 0 (z12b.fill (((),()),(q_5,()),()))),k⟩
def z1le (k:Nat):FE:=⟨(.pr U25 U0),1,U5,fun x=>zgf k x.1 x.2⟩
theorem ztf (k:Nat):z8 Tryz.prog 138 (z1le k):=okC za (xTc zt1 (xTc (zzt k) xTn)) xOn Tryz.f138 (orc (z12c k) (LOn _)) (xLo (z12c k) (by rintro n ⟨⟨c0,s5,⟨⟩,i7,⟨⟩⟩,⟨q_2,⟨⟩⟩,⟨⟩⟩ kx; kernel_rfl) xLn) (by rintro ⟨c0,k1⟩; kernel_rfl)
def zgg (k:Nat) (m0:Int×Int×Int×List Int):Option Bool:=(zco k m0.1).bind fun r_1=>(if r_1 then (z32 m0.2.1 0 32).bind fun r_2=>(if r_2 then (z32 m0.2.2.1 0 32).bind fun r_3=>(if r_3 then (z7d k m0.2.2.2 (z6 (m0.2.1*m0.2.2.1)) m0.1).bind fun r_4=>some r_4 else some false) else some false) else some false)
def z1lf (k:Nat):FE:=⟨U14,1,.bool,fun x=>zgg k x⟩
theorem z1lg (k:Nat):z8 Tryz.prog 139 (z1lf k):=okC za (xTc (z11z k) (xTc z9b (xTc (zo8 k) xTn))) xOn Tryz.f139 (LOn _) xLn (by rintro m0; kernel_rfl)
def ztg (k:Nat) (s0:List zT1×Int×List Int×List zT0) (simplex1:Int) (i2:Int) (m3:Int×Int×Int×List Int):Option Bool:=(zgf k s0.1 simplex1).bind fun r_1=>(if 0≤i2∧i2.toNat<List.length r_1 then (r_1[i2.toNat]?).bind fun y_2=>(zgg k m3).bind fun r_3=>(if r_3 then (if (decide (m3.1=s0.2.1)) then (if 0≤simplex1 then (s0.2.2.1[simplex1.toNat]?).bind fun y_4=>(if (decide (m3.2.1=y_4)) then (if 0≤y_2 then (s0.2.2.1[y_2.toNat]?).bind fun y_5=>some (decide (m3.2.2.1=y_5)) else none) else some false) else none) else some false) else some false) else none)
def z1lh (k:Nat):FE:=⟨(.pr U23 (.pr U0 (.pr U0 U14))),1,.bool,fun x=>ztg k x.1 x.2.1 x.2.2.1 x.2.2.2⟩
theorem z1li (k:Nat):z8 Tryz.prog 83 (z1lh k):=okC za (xTc (ztf k) (xTc (z1lg k) xTn)) xOn Tryz.f83 (LOn _) xLn (by rintro ⟨s0,simplex1,i2,m3⟩; kernel_rfl)
def zgh (k:Nat):Nat→zT3→Int→Int→(zT3→Int→Option Bool)→Option Bool
 | 0,_,_,_,_=>none
 | n+1,s0,k3,i4,e_2=>(if 0≤k3 then (s0.1[k3.toNat]?).bind fun y_5=>(if (decide (i4<(List.length y_5:Int))) then (if 0≤k3 then (s0.1[k3.toNat]?).bind fun y_6=>(if (decide (1<(List.length y_6:Int))) then (zge k s0.1 k3 i4).bind fun r_7=>(if 0≤r_7 then (s0.2.2.2[r_7.toNat]?).bind fun y_8=>(ztg k s0 k3 i4 y_8).bind fun r_9=>(if (!r_9) then some false else zgh k n s0 k3 (z6 (i4+1)) e_2) else none) else e_2 s0 k3) else none) else e_2 s0 k3) else none)
def zb0 (k:Nat):Nat→zT3→Int→(Option Bool)→Option Bool
 | 0,_,_,_=>none
 | n+1,s0,k3,e_0=>(if (decide (k3<(List.length s0.1:Int))) then zgh k k s0 k3 0 (fun s_5 k_6=>zb0 k n s_5 (z6 (k_6+1)) e_0) else e_0)
def zob (k:Nat) (s0:List zT1×Int×List Int×List zT0):Option Bool:=(zn7 k s0.1).bind fun r_1=>(if (!r_1) then some false else (zco k s0.2.1).bind fun r_2=>(if (!r_2) then some false else (zo9 k s0.1 s0.2.2.1).bind fun r_3=>(if (!r_3) then some false else (zoa k s0.1).bind fun r_4=>(if (!(decide ((List.length s0.2.2.2:Int)=r_4))) then some false else zb0 k k s0 0 (some true)))))
def z12d:Head:=⟨[(0,V5),(3,V0)],[],[]⟩
def z12e (k:Nat):LD Bool:=⟨7,⟨[(0,V5),(3,V0),(4,V0)],[],[]⟩,[(2,z12d)],fun n x kx=>zgh k n x.1.1 x.1.2.1 x.1.2.2.1 (fun s0 k3=>kx 2 (z12d.fill ((s0,k3,()),(),()))),k⟩
def z12f:Head:=⟨[],[],[]⟩
def z12g (k:Nat):LD Bool:=⟨4,⟨[(0,V5),(3,V0)],[],[]⟩,[(0,z12f)],fun n x kx=>zb0 k n x.1.1 x.1.2.1 (kx 0 (z12f.fill ((),(),()))),k⟩
def z1lj (k:Nat):FE:=⟨U23,1,.bool,fun x=>zob k x⟩
theorem z1lk (k:Nat):z8 Tryz.prog 42 (z1lj k):=okC za (xTc (z1i9 k) (xTc (z11z k) (xTc (z1la k) (xTc (z1ld k) (xTc (zte k) (xTc (z1li k) xTn)))))) xOn Tryz.f42 (orc (z12e k) (orc (z12g k) (LOn _))) (xLo (z12g k) (by rintro n ⟨⟨s0,k3,⟨⟩⟩,⟨⟩,⟨⟩⟩ kx; kernel_rfl) (xLo (z12e k) (by rintro n ⟨⟨s0,k3,i4,⟨⟩⟩,⟨⟩,⟨⟩⟩ kx; kernel_rfl) xLn)) (by rintro s0; kernel_rfl)
def zth (n0:Int):Option Bool:=(z32 n0 0 3).bind fun r_1=>some r_1
def z1ll:FE:=⟨U0,1,.bool,fun x=>zth x⟩
theorem z1lm:z8 Tryz.prog 43 (z1ll):=okC za (xTc z9b xTn) xOn Tryz.f43 (LOn _) xLn (by rintro n0; kernel_rfl)
def z9i (k:Nat):Nat→zT5→Int→(zT5→Option Bool)→Option Bool
 | 0,_,_,_=>none
 | n+1,n0,i3,e_0=>(if (decide (i3<(List.length n0.2.2.2:Int))) then (if 0≤i3 then (n0.2.2.2[i3.toNat]?).bind fun y_4=>(z32 y_4.1 0 (z6 (n0.1-1))).bind fun r_5=>(if (!r_5) then some false else (z32 y_4.2.1 0 (z6 (n0.1-1))).bind fun r_6=>(if (!r_6) then some false else (if (decide (y_4.1=y_4.2.1)) then some false else (z32 y_4.2.2 0 1000000).bind fun r_7=>(if (!r_7) then some false else (if (decide (0<i3)) then (if 0≤(z6 (i3-1)) then (n0.2.2.2[(z6 (i3-1)).toNat]?).bind fun y_8=>(if (decide (y_4.1<y_8.1)) then some false else (if 0≤(z6 (i3-1)) then (n0.2.2.2[(z6 (i3-1)).toNat]?).bind fun y_9=>(if (decide (y_9.1=y_4.1)) then (if 0≤(z6 (i3-1)) then (n0.2.2.2[(z6 (i3-1)).toNat]?).bind fun y_10=>(if (decide (y_4.2.1≤y_10.2.1)) then some false else z9i k n n0 (z6 (i3+1)) e_0) else none) else z9i k n n0 (z6 (i3+1)) e_0) else none)) else none) else z9i k n n0 (z6 (i3+1)) e_0))))) else none) else e_0 n0)
def zoc (k:Nat) (n0:Int×Int×Int×List zT2):Option Bool:=(z32 n0.1 2 12).bind fun r_1=>(if (!r_1) then some false else (z32 n0.2.1 0 (z6 (n0.1-1))).bind fun r_2=>(if (!r_2) then some false else (z32 n0.2.2.1 0 (z6 (n0.1-1))).bind fun r_3=>(if (!r_3) then some false else (if (decide (n0.2.1=n0.2.2.1)) then some false else z9i k k n0 0 (fun n_11=>some (decide ((List.length n_11.2.2.2:Int)≤24)))))))
def z12h:Head:=⟨[(0,V8)],[],[]⟩
def z12i (k:Nat):LD Bool:=⟨4,⟨[(0,V8),(3,V0)],[],[]⟩,[(0,z12h)],fun n x kx=>z9i k n x.1.1 x.1.2.1 (fun n0=>kx 0 (z12h.fill ((n0,()),(),()))),k⟩
def z1ln (k:Nat):FE:=⟨U30,1,.bool,fun x=>zoc k x⟩
theorem z1lo (k:Nat):z8 Tryz.prog 46 (z1ln k):=okC za (xTc z9b xTn) xOn Tryz.f46 (orc (z12i k) (LOn _)) (xLo (z12i k) (by rintro n ⟨⟨n0,i3,⟨⟩⟩,⟨⟩,⟨⟩⟩ kx; kernel_rfl) xLn) (by rintro n0; kernel_rfl)
def z9j (k:Nat):Nat→zT7→Int→(zT7→Option Bool)→Option Bool
 | 0,_,_,_=>none
 | n+1,x0,i3,e_0=>(if (decide (i3<(List.length x0.2.2:Int))) then (if 0≤i3 then (x0.2.2[i3.toNat]?).bind fun y_3=>(z32 y_3.1 0 (z6 (x0.1-1))).bind fun r_4=>(if (!r_4) then some false else (z32 y_3.2.1 (z6 (y_3.1+1)) (z6 (x0.1-1))).bind fun r_5=>(if (!r_5) then some false else (z32 y_3.2.2 0 (z6 (x0.2.1-1))).bind fun r_6=>(if (!r_6) then some false else (if (decide (0<i3)) then (if 0≤(z6 (i3-1)) then (x0.2.2[(z6 (i3-1)).toNat]?).bind fun y_7=>(if (decide (y_3.1<y_7.1)) then some false else (if 0≤(z6 (i3-1)) then (x0.2.2[(z6 (i3-1)).toNat]?).bind fun y_8=>(if (decide (y_8.1=y_3.1)) then (if 0≤(z6 (i3-1)) then (x0.2.2[(z6 (i3-1)).toNat]?).bind fun y_9=>(if (decide (y_3.2.1≤y_9.2.1)) then some false else z9j k n x0 (z6 (i3+1)) e_0) else none) else z9j k n x0 (z6 (i3+1)) e_0) else none)) else none) else z9j k n x0 (z6 (i3+1)) e_0)))) else none) else e_0 x0)
def zod (k:Nat) (x0:Int×Int×List zT2):Option Bool:=(z32 x0.1 1 12).bind fun r_1=>(if (!r_1) then some false else (z32 x0.2.1 2 360).bind fun r_2=>(if (!r_2) then some false else z9j k k x0 0 (fun x_10=>some (decide ((List.length x_10.2.2:Int)≤24)))))
def z12j:Head:=⟨[(0,(.val (.ptr U9)))],[],[]⟩
def z12k (k:Nat):LD Bool:=⟨4,⟨[(0,(.val (.ptr U9))),(3,V0)],[],[]⟩,[(0,z12j)],fun n x kx=>z9j k n x.1.1 x.1.2.1 (fun x0=>kx 0 (z12j.fill ((x0,()),(),()))),k⟩
def z1lp (k:Nat):FE:=⟨(.ptr U9),1,.bool,fun x=>zod k x⟩
theorem z1lq (k:Nat):z8 Tryz.prog 47 (z1lp k):=okC za (xTc z9b xTn) xOn Tryz.f47 (orc (z12k k) (LOn _)) (xLo (z12k k) (by rintro n ⟨⟨x0,i3,⟨⟩⟩,⟨⟩,⟨⟩⟩ kx; kernel_rfl) xLn) (by rintro x0; kernel_rfl)
def zti (k:Nat) (x0:Int×Int×List zT2) (phases1:List Int):Option Bool:=(z7d k phases1 x0.1 x0.2.1).bind fun r_1=>some r_1
def z1lr (k:Nat):FE:=⟨(.pr (.ptr U9) U5),1,.bool,fun x=>zti k x.1 x.2⟩
theorem z1ls (k:Nat):z8 Tryz.prog 48 (z1lr k):=okC za (xTc (zo8 k) xTn) xOn Tryz.f48 (LOn _) xLn (by rintro ⟨x0,phases1⟩; kernel_rfl)
def zoe (k:Nat) (w0:zT3×Int×List Int×List Int×zT5×List Int×List Int×zT7×List Int):Option Bool:=(zob k w0.1).bind fun r_1=>(if (!r_1) then some false else (zth w0.2.1).bind fun r_2=>(if (!r_2) then some false else (zaz k w0.1.1 w0.1.2.2.1 w0.2.1).bind fun r_3=>(z7d k w0.2.2.1 r_3 w0.1.2.1).bind fun r_4=>(if (!r_4) then some false else (zaz k w0.1.1 w0.1.2.2.1 0).bind fun r_5=>(z7d k w0.2.2.2.1 r_5 w0.1.2.1).bind fun r_6=>(if (!r_6) then some false else (zoc k w0.2.2.2.2.1).bind fun r_7=>(if r_7 then (zod k w0.2.2.2.2.2.2.2.1).bind fun r_8=>(if r_8 then (zti k w0.2.2.2.2.2.2.2.1 w0.2.2.2.2.2.2.2.2).bind fun r_9=>some r_9 else some false) else some false)))))
def z1lt (k:Nat):FE:=⟨(.ptr U2),1,.bool,fun x=>zoe k x⟩
theorem z1lu (k:Nat):z8 Tryz.prog 17 (z1lt k):=okC za (xTc (z1lk k) (xTc z1lm (xTc (ztd k) (xTc (zo8 k) (xTc (z1lo k) (xTc (z1lq k) (xTc (z1ls k) xTn))))))) xOn Tryz.f17 (LOn _) xLn (by rintro w0; kernel_rfl)
def zb1 (k:Nat) (s0:List zT1×Int×List Int×List zT0) (simplex1:Int) (i2:Int):Option zT0:=(zge k s0.1 simplex1 i2).bind fun r_1=>(if 0≤r_1 then (s0.2.2.2[r_1.toNat]?).bind fun y_2=>some y_2 else none)
def z1lv (k:Nat):FE:=⟨(.pr U23 U19),RON,U14,fun x=>zb1 k x.1 x.2.1 x.2.2⟩
theorem z12l (k:Nat):z8 Tryz.prog 186 (z1lv k):=okV za (xTc (zte k) xTn) xOn Tryz.f186 (LOn _) xLn (by rintro ⟨s0,simplex1,i2⟩; kernel_rfl)
def zgi (p0:Int) (rows1:Int) (columns2:Int):Option zT0:=(if 0≤(z6 (rows1*columns2))∧(z6 (rows1*columns2))≤(z6 (rows1*columns2))∧(z6 (rows1*columns2))*8≤LIM then some (p0,(rows1,(columns2,(List.replicate (z6 (rows1*columns2)).toNat 0)))) else none)
def z1lw:FE:=⟨U35,1,U1,fun x=>zgi x.1 x.2.1 x.2.2⟩
theorem z12m:z8 Tryz.prog 187 (z1lw):=okC za xTn xOn Tryz.f187 (LOn _) xLn (by rintro ⟨p0,rows1,columns2⟩; kernel_rfl)
def zcs (k:Nat):Nat→zT0→zT0→Int→Int→Int→Int→zT1→zT1→Int→Int→Int→Int→Int→Int→(zT0→zT0→Int→Int→Int→zT1→zT1→Int→Int→Int→Int→Int→Int→Option zT0)→Option zT0
 | 0,_,_,_,_,_,_,_,_,_,_,_,_,_,_,_=>none
 | n+1,a0,b1,i6,k7,sum8,j9,q_6,q_7,v_4a,v_4ba,v_4bba,v_5a,v_5ba,v_5bba,e_4=>(if (decide (j9<a0.2.2.1)) then (if 0≤(z6 ((z6 (i6*a0.2.2.1))+j9)) then (a0.2.2.2[(z6 ((z6 (i6*a0.2.2.1))+j9)).toNat]?).bind fun y_8=>(if 0≤(z6 ((z6 (j9*b1.2.2.1))+k7)) then (b1.2.2.2[(z6 ((z6 (j9*b1.2.2.1))+k7)).toNat]?).bind fun y_9=>zcs k n a0 b1 i6 k7 (z6 (sum8+(z6 (y_8*y_9)))) (z6 (j9+1)) q_6 q_7 v_4a v_4ba v_4bba v_5a v_5ba v_5bba e_4 else none) else none) else e_4 a0 b1 i6 k7 sum8 q_6 q_7 v_4a v_4ba v_4bba v_5a v_5ba v_5bba)
def zct (k:Nat):Nat→zT0→zT0→Int→Int→zT1→zT1→Int→Int→Int→Int→Int→Int→(zT0→zT0→Int→zT1→zT1→Int→Int→Int→Int→Int→Int→Option zT0)→Option zT0
 | 0,_,_,_,_,_,_,_,_,_,_,_,_,_=>none
 | n+1,a0,b1,i6,k7,q_4,q_5,v_4a,v_4ba,v_4bba,v_5a,v_5ba,v_5bba,e_2=>(if (decide (k7<b1.2.2.1)) then zcs k k a0 b1 i6 k7 0 0 q_4 q_5 v_4a v_4ba v_4bba v_5a v_5ba v_5bba (fun a_6 b_7 i_8 k_9 sum_10 q_11 q_12 v_4a_13 v_4ba_14 v_4bba_15 v_5a_16 v_5ba_17 v_5bba_18=>(if a_6.1=0 then none else (if 0≤(z6 ((z6 (i_8*b_7.2.2.1))+k_9))∧(z6 ((z6 (i_8*b_7.2.2.1))+k_9)).toNat<List.length q_12 then (q_12[(z6 ((z6 (i_8*b_7.2.2.1))+k_9)).toNat]?).bind fun y_19=>(q_12[(z6 ((z6 (i_8*b_7.2.2.1))+k_9)).toNat]?).bind fun y_20=>zct k n a_6 b_7 i_8 (z6 (k_9+1)) q_11 (q_12.set ((z6 ((z6 (i_8*b_7.2.2.1))+k_9)).toNat) (Int.tmod sum_10 a_6.1)) v_4a_13 v_4ba_14 v_4bba_15 v_5a_16 v_5ba_17 v_5bba_18 e_2 else none))) else e_2 a0 b1 i6 q_4 q_5 v_4a v_4ba v_4bba v_5a v_5ba v_5bba)
def zgj (k:Nat):Nat→zT0→zT0→Int→zT1→zT1→Int→Int→Int→Int→Int→Int→(zT1→zT1→Int→Int→Int→Int→Int→Int→Option zT0)→Option zT0
 | 0,_,_,_,_,_,_,_,_,_,_,_,_=>none
 | n+1,a0,b1,i6,q_2,q_3,v_4a,v_4ba,v_4bba,v_5a,v_5ba,v_5bba,e_0=>(if (decide (i6<a0.2.1)) then zct k k a0 b1 i6 0 q_2 q_3 v_4a v_4ba v_4bba v_5a v_5ba v_5bba (fun a_4 b_5 i_6 q_7 q_8 v_4a_9 v_4ba_10 v_4bba_11 v_5a_12 v_5ba_13 v_5bba_14=>zgj k n a_4 b_5 (z6 (i_6+1)) q_7 q_8 v_4a_9 v_4ba_10 v_4bba_11 v_5a_12 v_5ba_13 v_5bba_14 e_0) else e_0 q_2 q_3 v_4a v_4ba v_4bba v_5a v_5ba v_5bba)
def zjl (k:Nat) (a0:Int×Int×Int×List Int) (b1:Int×Int×Int×List Int):Option zT0:=(zgi a0.1 a0.2.1 b1.2.2.1).bind fun r_1=>zgj k k a0 b1 0 [] r_1.2.2.2 0 0 0 r_1.1 r_1.2.1 r_1.2.2.1 (fun q_15 q_16 v_4a_17 v_4ba_18 v_4bba_19 v_5a_20 v_5ba_21 v_5bba_22=>some (v_5a_20,(v_5ba_21,(v_5bba_22,q_16))))
def z12n:Head:=⟨[(0,V2),(1,V2),(4,(.bp 4 [] 0)),(5,(.bp 5 [] 0)),(6,V0),(7,V0),(8,V0)],[(P0,2,U0,false),(P1,2,U0,false)],[(4,136,(.st (.pr V0 (.pr V0 (.pr V0 (.ref P0 [])))))),(5,136,(.st (.pr V0 (.pr V0 (.pr V0 (.ref P1 []))))))]⟩
def z12o:Head:=⟨[(0,V2),(1,V2),(4,(.bp 4 [] 0)),(5,(.bp 5 [] 0)),(6,V0),(7,V0),(8,V0),(9,V0)],[(P0,2,U0,false),(P1,2,U0,false)],[(4,136,(.st (.pr V0 (.pr V0 (.pr V0 (.ref P0 [])))))),(5,136,(.st (.pr V0 (.pr V0 (.pr V0 (.ref P1 []))))))]⟩
def z12p (k:Nat) (n:Nat) (x:z12o.T) (kx:Nat→St→Option zT0):Option zT0:=zcs k n x.1.1 x.1.2.1 x.1.2.2.2.2.1 x.1.2.2.2.2.2.1 x.1.2.2.2.2.2.2.1 x.1.2.2.2.2.2.2.2.1 x.2.1.1 x.2.1.2.1 x.2.2.1.1 x.2.2.1.2.1 x.2.2.1.2.2.1 x.2.2.2.1.1 x.2.2.2.1.2.1 x.2.2.2.1.2.2.1 (fun a0 b1 i6 k7 sum8 q_10 q_11 v_4a v_4ba v_4bba v_5a v_5ba v_5bba=>kx 4 (z12n.fill ((a0,b1,(),(),i6,k7,sum8,()),(q_10,q_11,()),((v_4a,(v_4ba,(v_4bba,()))),(v_5a,(v_5ba,(v_5bba,()))),()))))
def zof (k:Nat):LD zT0:=⟨10,z12o,[(4,z12n)],z12p k,k⟩
def z12q:Head:=⟨[(0,V2),(1,V2),(4,(.bp 4 [] 0)),(5,(.bp 5 [] 0)),(6,V0)],[(P0,2,U0,false),(P1,2,U0,false)],[(4,136,(.st (.pr V0 (.pr V0 (.pr V0 (.ref P0 [])))))),(5,136,(.st (.pr V0 (.pr V0 (.pr V0 (.ref P1 []))))))]⟩
def z12r:Head:=⟨[(0,V2),(1,V2),(4,(.bp 4 [] 0)),(5,(.bp 5 [] 0)),(6,V0),(7,V0)],[(P0,2,U0,false),(P1,2,U0,false)],[(4,136,(.st (.pr V0 (.pr V0 (.pr V0 (.ref P0 [])))))),(5,136,(.st (.pr V0 (.pr V0 (.pr V0 (.ref P1 []))))))]⟩
def z12s (k:Nat) (n:Nat) (x:z12r.T) (kx:Nat→St→Option zT0):Option zT0:=zct k n x.1.1 x.1.2.1 x.1.2.2.2.2.1 x.1.2.2.2.2.2.1 x.2.1.1 x.2.1.2.1 x.2.2.1.1 x.2.2.1.2.1 x.2.2.1.2.2.1 x.2.2.2.1.1 x.2.2.2.1.2.1 x.2.2.2.1.2.2.1 (fun a0 b1 i6 q_25 q_26 v_4a v_4ba v_4bba v_5a v_5ba v_5bba=>kx 2 (z12q.fill ((a0,b1,(),(),i6,()),(q_25,q_26,()),((v_4a,(v_4ba,(v_4bba,()))),(v_5a,(v_5ba,(v_5bba,()))),()))))
def zog (k:Nat):LD zT0:=⟨6,z12r,[(2,z12q)],z12s k,k⟩
def z12t:Head:=⟨[(4,(.bp 4 [] 0)),(5,(.bp 5 [] 0))],[(P0,2,U0,false),(P1,2,U0,false)],[(4,136,(.st (.pr V0 (.pr V0 (.pr V0 (.ref P0 [])))))),(5,136,(.st (.pr V0 (.pr V0 (.pr V0 (.ref P1 []))))))]⟩
def z12u:Head:=⟨[(0,V2),(1,V2),(4,(.bp 4 [] 0)),(5,(.bp 5 [] 0)),(6,V0)],[(P0,2,U0,false),(P1,2,U0,false)],[(4,136,(.st (.pr V0 (.pr V0 (.pr V0 (.ref P0 [])))))),(5,136,(.st (.pr V0 (.pr V0 (.pr V0 (.ref P1 []))))))]⟩
def z12v (k:Nat) (n:Nat) (x:z12u.T) (kx:Nat→St→Option zT0):Option zT0:=zgj k n x.1.1 x.1.2.1 x.1.2.2.2.2.1 x.2.1.1 x.2.1.2.1 x.2.2.1.1 x.2.2.1.2.1 x.2.2.1.2.2.1 x.2.2.2.1.1 x.2.2.2.1.2.1 x.2.2.2.1.2.2.1 (fun q_32 q_33 v_4a v_4ba v_4bba v_5a v_5ba v_5bba=>kx 0 (z12t.fill (((),(),()),(q_32,q_33,()),((v_4a,(v_4ba,(v_4bba,()))),(v_5a,(v_5ba,(v_5bba,()))),()))))
def zoh (k:Nat):LD zT0:=⟨3,z12u,[(0,z12t)],z12v k,k⟩
def z1lx (k:Nat):FE:=⟨(.pr U14 U14),1,U1,fun x=>zjl k x.1 x.2⟩
theorem z1ly (k:Nat):z8 Tryz.prog 185 (z1lx k):=okC za (xTc z12m xTn) xOn Tryz.f185 (orc (zof k) (orc (zog k) (orc (zoh k) (LOn _)))) (xLp (zoh k) (by rintro n ⟨⟨a0,b1,⟨⟩,⟨⟩,i6,⟨⟩⟩,⟨q_2,q_3,⟨⟩⟩,⟨⟨v_4a,⟨v_4ba,⟨v_4bba,⟨⟩⟩⟩⟩,⟨v_5a,⟨v_5ba,⟨v_5bba,⟨⟩⟩⟩⟩,⟨⟩⟩⟩ kx _ h; dsimp only [zoh,z12v] at h; subst h; dsimp only [zoh]; kernel_rfl) (xLp (zog k) (by rintro n ⟨⟨a0,b1,⟨⟩,⟨⟩,i6,k7,⟨⟩⟩,⟨q_4,q_5,⟨⟩⟩,⟨⟨v_4a,⟨v_4ba,⟨v_4bba,⟨⟩⟩⟩⟩,⟨v_5a,⟨v_5ba,⟨v_5bba,⟨⟩⟩⟩⟩,⟨⟩⟩⟩ kx _ h; dsimp only [zog,z12s] at h; subst h; dsimp only [zog]; kernel_rfl) (xLp (zof k) (by rintro n ⟨⟨a0,b1,⟨⟩,⟨⟩,i6,k7,sum8,j9,⟨⟩⟩,⟨q_6,q_7,⟨⟩⟩,⟨⟨v_4a,⟨v_4ba,⟨v_4bba,⟨⟩⟩⟩⟩,⟨v_5a,⟨v_5ba,⟨v_5bba,⟨⟩⟩⟩⟩,⟨⟩⟩⟩ kx _ h; dsimp only [zof,z12p] at h; subst h; dsimp only [zof]; kernel_rfl) xLn))) (by rintro ⟨a0,b1⟩; kernel_rfl)
def zjm (k:Nat) (s0:List zT1×Int×List Int×List zT0) (simplex1:Int) (i2:Int) (j3:Int):Option zT0:=(zgf k s0.1 simplex1).bind fun r_1=>(if 0≤i2∧i2.toNat<List.length r_1 then (r_1[i2.toNat]?).bind fun y_2=>(if (decide (i2<j3)) then (zb1 k s0 simplex1 i2).bind fun r_3=>(zb1 k s0 y_2 (z6 (j3-1))).bind fun r_4=>(zjl k r_3 r_4).bind fun r_5=>some (r_5.1,(r_5.2.1,(r_5.2.2.1,r_5.2.2.2))) else (zb1 k s0 simplex1 i2).bind fun r_6=>(zb1 k s0 y_2 j3).bind fun r_7=>(zjl k r_6 r_7).bind fun r_8=>some (r_8.1,(r_8.2.1,(r_8.2.2.1,r_8.2.2.2)))) else none)
def z1lz (k:Nat):FE:=⟨(.pr U23 U35),1,U1,fun x=>zjm k x.1 x.2.1 x.2.2.1 x.2.2.2⟩
theorem z1m0 (k:Nat):z8 Tryz.prog 140 (z1lz k):=okC za (xTc (ztf k) (xTc (z12l k) (xTc (z1ly k) xTn))) xOn Tryz.f140 (LOn _) xLn (by rintro ⟨s0,simplex1,i2,j3⟩; kernel_rfl)
end
end Go.Proofs.YtiodkblajaenbaaGreatDoor.Ev
