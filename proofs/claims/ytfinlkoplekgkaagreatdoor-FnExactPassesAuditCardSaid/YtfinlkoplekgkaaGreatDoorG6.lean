/- Functions of the program, as plain ones. No conditions. -/
import Derived.Test.YtfinlkoplekgkaaGreatDoorG5
import Derived.KernelRfl
set_option linter.unusedVariables false
set_option maxRecDepth 100000
namespace Go.Proofs.YtfinlkoplekgkaaGreatDoor.Ev
open Go.RowKit
noncomputable section
def zcz (k:Nat):Nat→Int→zT1→Int→Int→(Int→Option Int)→Option Int
 | 0,_,_,_,_,_=>none
 | n+1,zero3,x6,x7,x8,e_0=>(if (decide (x8<x7)) then (if 0≤x8 then (x6[x8.toNat]?).bind fun y_1=>(if (!(decide (y_1=zero3))) then some y_1 else zcz k n zero3 x6 x7 (z6 (x8+1)) e_0) else none) else e_0 zero3)
def zj5 (k:Nat) (vals0:List Int):Option Int:=zcz k k 0 vals0 (List.length vals0:Int) 0 (fun zero_2=>some zero_2)
def z13o:Head:=⟨[(3,V0)],[],[]⟩
def z13p (k:Nat):LD Int:=⟨3,⟨[(3,V0),(6,(.val (.sl 3 U0))),(7,V0),(8,V0)],[],[]⟩,[(0,z13o)],fun n x kx=>zcz k n x.1.1 x.1.2.1 x.1.2.2.1 x.1.2.2.2.1 (fun zero3=>kx 0 (z13o.fill ((zero3,()),(),()))),k⟩
def z1l8 (k:Nat):FE:=⟨(.sl 3 U0),1,U0,fun x=>zj5 k x⟩
theorem zsq (k:Nat):z8 Tryz.prog 150 (z1l8 k):=okC zb xTn xOn Tryz.f150 (orc (z13p k) (LOn _)) (xLo (z13p k) (by rintro n ⟨⟨zero3,x6,x7,x8,⟨⟩⟩,⟨⟩,⟨⟩⟩ kx; kernel_rfl) xLn) (by rintro vals0; kernel_rfl)
def zd0 (k:Nat) (a0:List Int) (b1:List Int):Option Int:=(zok (List.length a0:Int) (List.length b1:Int)).bind fun r_1=>(zom k a0 b1).bind fun r_2=>(zj5 k [r_1,r_2]).bind fun r_3=>some r_3
def z1l9 (k:Nat):FE:=⟨(.pr U5 U5),1,U0,fun x=>zd0 k x.1 x.2⟩
theorem z13q (k:Nat):z8 Tryz.prog 179 (z1l9 k):=okC zb (xTc z1l2 (xTc (z1l7 k) (xTc (zsq k) xTn))) xOn Tryz.f179 (LOn _) xLn (by rintro ⟨a0,b1⟩; kernel_rfl)
def z13r (n1:Int) (q_1:List Int):Option ((Unit×Unit)×(List Int×Unit)×Unit):=if 0≤n1∧(List.length q_1+(n1).toNat)*8≤LIM then some (((),()),(q_1,()),()) else none
def oc_slices_Grow_int64_s:OC:=zlr 2 U0 8
theorem z1la:z26 Tryz.prog ti 206 oc_slices_Grow_int64_s :=
 z1ec (ρ:=(⟨fun n=>bif Nat.beq n 4 then 206 else n,fun n=>bif Nat.beq n 22 then 25 else bif Nat.beq n 25 then 2 else n,fun n=>n⟩:Go.Shelf.Ren)) zs5 (e:=2) (t:=U0) (bytes:=8) { mixed:=mix,f4:=⟨Tryz.f206.name,by kernel_rfl,(Tryz.func206).trans (congrArg some (by kernel_rfl))⟩,t0:=Tryz.underlying0,a0:=Tryz.isAgg0,z0:=Tryz.sizeOf0,v0:=Tryz.zeroValue0,t3:=Tryz.underlying3,a3:=Tryz.isAgg3,z3:=Tryz.sizeOf3,v3:=Tryz.zeroValue3,t4:=Tryz.underlying4,a4:=Tryz.isAgg4,z4:=Tryz.sizeOf4,v4:=Tryz.zeroValue4,t9:=Tryz.underlying9,a9:=Tryz.isAgg9,z9:=Tryz.sizeOf9,v9:=Tryz.zeroValue9,t20:=Tryz.underlying20,a20:=Tryz.isAgg20,z20:=Tryz.sizeOf20,v20:=Tryz.zeroValue20,t22:=Tryz.underlying25,a22:=Tryz.isAgg25,z22:=Tryz.sizeOf25,v22:=Tryz.zeroValue25 } rfl (i:=(ti[2]?).getD ⟨.oth,.un,0⟩) (by kernel_rfl) (by kernel_rfl) (by kernel_rfl) (by kernel_rfl) (by kernel_rfl) (by kernel_rfl)
def zon (k:Nat):Nat→zT10→Int→zT10→Int→Int→(zT10→Int→Option zT1)→Option zT1
 | 0,_,_,_,_,_,_=>none
 | n+1,slices0,size3,x9,x10,x11,e_0=>(if (decide (x11<x10)) then (if 0≤x11 then (x9[x11.toNat]?).bind fun y_1=>(if (decide ((z6 (size3+(List.length y_1:Int)))<0)) then none else zon k n slices0 (z6 (size3+(List.length y_1:Int))) x9 x10 (z6 (x11+1)) e_0) else none) else e_0 slices0 size3)
def zoo (k:Nat):Nat→zT10→Int→Int→zT1→(zT1→Option zT1)→Option zT1
 | 0,_,_,_,_,_=>none
 | n+1,x25,x26,x27,q_5,e_2=>(if (decide (x27<x26)) then (if 0≤x27 then (x25[x27.toNat]?).bind fun y_6=>(if (q_5.length+y_6.length)*8≤LIM then zoo k n x25 x26 (z6 (x27+1)) (q_5++y_6) e_2 else none) else none) else e_2 q_5)
def zop (k:Nat) (slices0:List zT1):Option zT1:=zon k k slices0 0 slices0 (List.length slices0:Int) 0 (fun slices_2 size_3=>(z13r size_3 []).bind fun y_4=>zoo k k slices_2 (List.length slices_2:Int) 0 y_4.2.1.1 (fun q_7=>some q_7))
def z13s:Head:=⟨[(0,V3),(3,V0)],[],[]⟩
def z13t (k:Nat):LD zT1:=⟨3,⟨[(0,V3),(3,V0),(9,V3),(10,V0),(11,V0)],[],[]⟩,[(0,z13s)],fun n x kx=>zon k n x.1.1 x.1.2.1 x.1.2.2.1 x.1.2.2.2.1 x.1.2.2.2.2.1 (fun slices0 size3=>kx 0 (z13s.fill ((slices0,size3,()),(),()))),k⟩
def z13u:Head:=⟨[(6,(.ref P0 []))],[(P0,2,U0,false)],[]⟩
def z13v (k:Nat):LD zT1:=⟨11,⟨[(6,(.ref P0 [])),(25,V3),(26,V0),(27,V0)],[(P0,2,U0,false)],[]⟩,[(2,z13u)],fun n x kx=>zoo k n x.1.2.1 x.1.2.2.1 x.1.2.2.2.1 x.2.1.1 (fun q_7=>kx 2 (z13u.fill (((),()),(q_7,()),()))),k⟩
def z1lb (k:Nat):FE:=⟨U16,1,U5,fun x=>zop k x⟩
theorem z1lc (k:Nat):z8 Tryz.prog 186 (z1lb k):=okC zb xTn (xOc 24 z1la xOn) Tryz.f186 (orc (z13t k) (orc (z13v k) (LOn _))) (xLo (z13t k) (by rintro n ⟨⟨slices0,size3,x9,x10,x11,⟨⟩⟩,⟨⟩,⟨⟩⟩ kx; kernel_rfl) (xLo (z13v k) (by rintro n ⟨⟨⟨⟩,x25,x26,x27,⟨⟩⟩,⟨q_5,⟨⟩⟩,⟨⟩⟩ kx; kernel_rfl) xLn)) (by rintro slices0; kernel_rfl)
def zd1 (k:Nat):Nat→zT1→Int→Int→zT10→(zT10→Option zT10)→Option zT10
 | 0,_,_,_,_,_=>none
 | n+1,s0,x6,x7,q_1,e_0=>(if (decide (x7<x6)) then (if (decide (1<(List.length s0:Int))) then (if 0≤(0:Int)∧(0:Int)≤x7∧x7≤s0.length then (if 0≤(z6 (x7+1))∧(z6 (x7+1))≤(s0.length:Int)∧(s0.length:Int)≤s0.length then (zop k [(s0.take x7.toNat),((s0.drop ((z6 (x7+1)).toNat)).take (s0.length-(z6 (x7+1)).toNat))]).bind fun r_2=>(if (q_1.length+[r_2].length)*24≤LIM then zd1 k n s0 x6 (z6 (x7+1)) (q_1++[r_2]) e_0 else none) else none) else none) else zd1 k n s0 x6 (z6 (x7+1)) q_1 e_0) else e_0 q_1)
def zgf (k:Nat) (s0:List Int):Option zT10:=zd1 k k s0 (List.length s0:Int) 0 [] (fun q_3=>some q_3)
def z13w:Head:=⟨[(3,(.ref P0 []))],[(P0,25,U5,false)],[]⟩
def z13x (k:Nat):LD zT10:=⟨3,⟨[(0,V1),(3,(.ref P0 [])),(6,V0),(7,V0)],[(P0,25,U5,false)],[]⟩,[(0,z13w)],fun n x kx=>zd1 k n x.1.1 x.1.2.2.1 x.1.2.2.2.1 x.2.1.1 (fun q_3=>kx 0 (z13w.fill (((),()),(q_3,()),()))),k⟩
def z1ld (k:Nat):FE:=⟨U5,1,U16,fun x=>zgf k x⟩
theorem z13y (k:Nat):z8 Tryz.prog 153 (z1ld k):=okC zb (xTc (z1lc k) xTn) xOn Tryz.f153 (orc (z13x k) (LOn _)) (xLo (z13x k) (by rintro n ⟨⟨s0,⟨⟩,x6,x7,⟨⟩⟩,⟨q_1,⟨⟩⟩,⟨⟩⟩ kx; kernel_rfl) xLn) (by rintro s0; kernel_rfl)
def zaz (k:Nat):Nat→zT10→zT1→Unit→Int→Int→Int→(zT10→zT1→Unit→Int→Int→Option (Int×Bool))→Option (Int×Bool)
 | 0,_,_,_,_,_,_,_=>none
 | n+1,x0,target1,cmp2,n8,i9,j10,e_0=>(if (decide (i9<j10)) then (if 0≤(z6 ((Int.fdiv (zc3 ((z6 (i9+j10)))) (2 ^ 1)))) then (x0[(z6 ((Int.fdiv (zc3 ((z6 (i9+j10)))) (2 ^ 1)))).toNat]?).bind fun y_1=>(zd0 k y_1 target1).bind fun r_2=>(if (decide (r_2<0)) then zaz k n x0 target1 cmp2 n8 (z6 ((z6 ((Int.fdiv (zc3 ((z6 (i9+j10)))) (2 ^ 1))))+1)) j10 e_0 else zaz k n x0 target1 cmp2 n8 i9 (z6 ((Int.fdiv (zc3 ((z6 (i9+j10)))) (2 ^ 1)))) e_0) else none) else e_0 x0 target1 cmp2 n8 i9)
def zsr (k:Nat) (x0:List zT1) (target1:List Int) (cmp2:Unit):Option (Int×Bool):=zaz k k x0 target1 cmp2 (List.length x0:Int) 0 (List.length x0:Int) (fun x_3 target_4 cmp_5 n_6 i_7=>(if (decide (i_7<n_6)) then (if 0≤i_7 then (x_3[i_7.toNat]?).bind fun y_8=>(zd0 k y_8 target_4).bind fun r_9=>some (i_7,(decide (r_9=0))) else none) else some (i_7,false)))
def z13z:Head:=⟨[(0,V3),(1,V1),(2,(.val (.fn 179 .un))),(8,V0),(9,V0)],[],[]⟩
def z140 (k:Nat):LD (Int×Bool):=⟨3,⟨[(0,V3),(1,V1),(2,(.val (.fn 179 .un))),(8,V0),(9,V0),(10,V0)],[],[]⟩,[(0,z13z)],fun n x kx=>zaz k n x.1.1 x.1.2.1 x.1.2.2.1 x.1.2.2.2.1 x.1.2.2.2.2.1 x.1.2.2.2.2.2.1 (fun x0 target1 cmp2 n8 i9=>kx 0 (z13z.fill ((x0,target1,cmp2,n8,i9,()),(),()))),k⟩
def z1le (k:Nat):FE:=⟨(.pr U16 (.pr U5 (.fn 179 .un))),2,(.pr U0 .bool),fun x=>zsr k x.1 x.2.1 x.2.2⟩
theorem z1lf (k:Nat):z8 Tryz.prog 187 (z1le k):=okC zb (xTc (z13q k) xTn) xOn Tryz.f187 (orc (z140 k) (LOn _)) (xLo (z140 k) (by rintro n ⟨⟨x0,target1,cmp2,n8,i9,j10,⟨⟩⟩,⟨⟩,⟨⟩⟩ kx; kernel_rfl) xLn) (by rintro ⟨x0,target1,cmp2⟩; kernel_rfl)
def zj6 (k:Nat) (c0:List zT1) (s1:List Int):Option Int:=(zsr k c0 s1 ()).bind fun r_1=>(if (!r_1.2) then some (-1) else some r_1.1)
def z1lg (k:Nat):FE:=⟨(.pr U8 U5),1,U0,fun x=>zj6 k x.1 x.2⟩
theorem z141 (k:Nat):z8 Tryz.prog 154 (z1lg k):=okC zb (xTc (z1lf k) xTn) xOn Tryz.f154 (LOn _) xLn (by rintro ⟨c0,s1⟩; kernel_rfl)
def zss (k:Nat) (f0:List Int) (x1:List zT1) (x2:Int):Option Bool:=(if 0≤(0:Int)∧(0:Int)≤x2∧x2≤x1.length then (zj6 k (x1.take x2.toNat) f0).bind fun r_1=>some (decide (r_1<0)) else none)
def z1lh (k:Nat):FE:=⟨(.pr U5 (.pr U24 (.ptr U0))),1,.bool,fun x=>zss k x.1 x.2.1 x.2.2⟩
theorem z1li (k:Nat):z8 Tryz.prog 181 (z1lh k):=okC zb (xTc (z141 k) xTn) xOn Tryz.f181 (LOn _) xLn (by rintro ⟨f0,x1,x2⟩; kernel_rfl)
def zgg (k:Nat):Nat→zT10→(List zT1×Int)→Int→Int→(Option Int)→Option Int
 | 0,_,_,_,_,_=>none
 | n+1,s0,f1,x7,x8,e_0=>(if (decide (x8<x7)) then (if 0≤x8 then (s0[x8.toNat]?).bind fun y_1=>(zss k y_1 f1.1 f1.2).bind fun r_2=>(if r_2 then some x8 else zgg k n s0 f1 x7 (z6 (x8+1)) e_0) else none) else e_0)
def zst (k:Nat) (s0:List zT1) (f1:List zT1×Int):Option Int:=zgg k k s0 f1 (List.length s0:Int) 0 (some (-1))
def z142:Head:=⟨[],[],[]⟩
def z143 (k:Nat):LD Int:=⟨2,⟨[(0,V3),(1,(.val U32)),(7,V0),(8,V0)],[],[]⟩,[(0,z142)],fun n x kx=>zgg k n x.1.1 x.1.2.1 x.1.2.2.1 x.1.2.2.2.1 (kx 0 (z142.fill ((),(),()))),k⟩
def z1lj (k:Nat):FE:=⟨(.pr U16 U32),1,U0,fun x=>zst k x.1 x.2⟩
theorem z1lk (k:Nat):z8 Tryz.prog 192 (z1lj k):=okC zb (xTc (z1li k) xTn) xOn Tryz.f192 (orc (z143 k) (LOn _)) (xLo (z143 k) (by rintro n ⟨⟨s0,f1,x7,x8,⟨⟩⟩,⟨⟩,⟨⟩⟩ kx; kernel_rfl) xLn) (by rintro ⟨s0,f1⟩; kernel_rfl)
def zj7 (k:Nat) (s0:List zT1) (f1:List zT1×Int):Option Bool:=(zst k s0 f1).bind fun r_1=>some (decide (0≤r_1))
def z1ll (k:Nat):FE:=⟨(.pr U16 U32),1,.bool,fun x=>zj7 k x.1 x.2⟩
theorem z1lm (k:Nat):z8 Tryz.prog 180 (z1ll k):=okC zb (xTc (z1lk k) xTn) xOn Tryz.f180 (LOn _) xLn (by rintro ⟨s0,f1⟩; kernel_rfl)
def zd2 (k:Nat):Nat→zT10→Int→Int→zT10→(zT10→Option Bool)→Option Bool
 | 0,_,_,_,_,_=>none
 | n+1,x6,x7,x8,v_1,e_0=>(if (decide (x8<x7)) then (if 0≤x8 then (x6[x8.toNat]?).bind fun y_1=>(zoi k y_1).bind fun r_2=>(if (!r_2) then some false else (if (decide (0<x8)) then (if 0≤(z6 (x8-1)) then (v_1[(z6 (x8-1)).toNat]?).bind fun y_3=>(zd0 k y_3 y_1).bind fun r_4=>(if (decide (0≤r_4)) then some false else (zgf k y_1).bind fun r_5=>(zj7 k r_5 (v_1,x8)).bind fun r_6=>(if r_6 then some false else zd2 k n x6 x7 (z6 (x8+1)) v_1 e_0)) else none) else (zgf k y_1).bind fun r_7=>(zj7 k r_7 (v_1,x8)).bind fun r_8=>(if r_8 then some false else zd2 k n x6 x7 (z6 (x8+1)) v_1 e_0))) else none) else e_0 v_1)
def zoq (k:Nat) (c0:List zT1):Option Bool:=zd2 k k c0 (List.length c0:Int) 0 c0 (fun v_9=>some (decide ((List.length v_9:Int)≤48)))
def z144:Head:=⟨[(1,(.bp 1 [] 0))],[],[(1,39,V9)]⟩
def z145 (k:Nat):LD Bool:=⟨2,⟨[(1,(.bp 1 [] 0)),(6,V3),(7,V0),(8,V0)],[],[(1,39,V9)]⟩,[(0,z144)],fun n x kx=>zd2 k n x.1.2.1 x.1.2.2.1 x.1.2.2.2.1 x.2.2.1 (fun v_1=>kx 0 (z144.fill (((),()),(),(v_1,())))),k⟩
def z1ln (k:Nat):FE:=⟨U8,1,.bool,fun x=>zoq k x⟩
theorem z1lo (k:Nat):z8 Tryz.prog 144 (z1ln k):=okC zb (xTc (z1ky k) (xTc (z13q k) (xTc (z13y k) (xTc (z1lm k) xTn)))) xOn Tryz.f144 (orc (z145 k) (LOn _)) (xLo (z145 k) (by rintro n ⟨⟨⟨⟩,x6,x7,x8,⟨⟩⟩,⟨⟩,⟨v_1,⟨⟩⟩⟩ kx; kernel_rfl) xLn) (by rintro c0; kernel_rfl)
def z9h (k:Nat):Nat→Int→Int→(Option Bool)→Option Bool
 | 0,_,_,_=>none
 | n+1,p0,d3,e_0=>(if (decide ((z6 (d3*d3))≤p0)) then (if d3=0 then none else (if (decide ((Int.tmod p0 d3)=0)) then some false else z9h k n p0 (z6 (d3+1)) e_0)) else e_0)
def zgh (k:Nat) (p0:Int):Option Bool:=(z47 p0 2 251).bind fun r_1=>(if (!r_1) then some false else z9h k k p0 2 (some true))
def z146:Head:=⟨[],[],[]⟩
def z147 (k:Nat):LD Bool:=⟨4,⟨[(0,V0),(3,V0)],[],[]⟩,[(0,z146)],fun n x kx=>z9h k n x.1.1 x.1.2.1 (kx 0 (z146.fill ((),(),()))),k⟩
def z1lp (k:Nat):FE:=⟨U0,1,.bool,fun x=>zgh k x⟩
theorem z148 (k:Nat):z8 Tryz.prog 145 (z1lp k):=okC zb (xTc z84 xTn) xOn Tryz.f145 (orc (z147 k) (LOn _)) (xLo (z147 k) (by rintro n ⟨⟨p0,d3,⟨⟩⟩,⟨⟩,⟨⟩⟩ kx; kernel_rfl) xLn) (by rintro p0; kernel_rfl)
def zsu (n0:Int):Option Bool:=(z47 n0 0 3).bind fun r_1=>some (!r_1)
def z1lq:FE:=⟨U0,1,.bool,fun x=>zsu x⟩
theorem z1lr:z8 Tryz.prog 182 (z1lq):=okC zb (xTc z84 xTn) xOn Tryz.f182 (LOn _) xLn (by rintro n0; kernel_rfl)
def zgi (k:Nat):Nat→zT1→Unit→Int→Int→(Option Int)→Option Int
 | 0,_,_,_,_,_=>none
 | n+1,s0,f1,x7,x8,e_0=>(if (decide (x8<x7)) then (if 0≤x8 then (s0[x8.toNat]?).bind fun y_1=>(zsu y_1).bind fun r_2=>(if r_2 then some x8 else zgi k n s0 f1 x7 (z6 (x8+1)) e_0) else none) else e_0)
def zsv (k:Nat) (s0:List Int) (f1:Unit):Option Int:=zgi k k s0 f1 (List.length s0:Int) 0 (some (-1))
def z149:Head:=⟨[],[],[]⟩
def z14a (k:Nat):LD Int:=⟨2,⟨[(0,V1),(1,(.val (.fn 182 .un))),(7,V0),(8,V0)],[],[]⟩,[(0,z149)],fun n x kx=>zgi k n x.1.1 x.1.2.1 x.1.2.2.1 x.1.2.2.2.1 (kx 0 (z149.fill ((),(),()))),k⟩
def z1ls (k:Nat):FE:=⟨(.pr U5 (.fn 182 .un)),1,U0,fun x=>zsv k x.1 x.2⟩
theorem z1lt (k:Nat):z8 Tryz.prog 162 (z1ls k):=okC zb (xTc z1lr xTn) xOn Tryz.f162 (orc (z14a k) (LOn _)) (xLo (z14a k) (by rintro n ⟨⟨s0,f1,x7,x8,⟨⟩⟩,⟨⟩,⟨⟩⟩ kx; kernel_rfl) xLn) (by rintro ⟨s0,f1⟩; kernel_rfl)
def zor (k:Nat) (s0:List Int) (f1:Unit):Option Bool:=(zsv k s0 f1).bind fun r_1=>some (decide (0≤r_1))
def z1lu (k:Nat):FE:=⟨(.pr U5 (.fn 182 .un)),1,.bool,fun x=>zor k x.1 x.2⟩
theorem z1lv (k:Nat):z8 Tryz.prog 122 (z1lu k):=okC zb (xTc (z1lt k) xTn) xOn Tryz.f122 (LOn _) xLn (by rintro ⟨s0,f1⟩; kernel_rfl)
def z88 (list0:List Int):Option Int:=some (List.length list0:Int)
def z1lw:FE:=⟨U5,1,U0,fun x=>z88 x⟩
theorem zj8:z8 Tryz.prog 152 (z1lw):=okC zb xTn xOn Tryz.f152 (LOn _) xLn (by rintro list0; kernel_rfl)
def zd3 (k:Nat):Nat→Int→zT10→Int→Int→zT1→(zT1→Option zT1)→Option zT1
 | 0,_,_,_,_,_,_=>none
 | n+1,dimension1,x9,x10,x11,q_1,e_0=>(if (decide (x11<x10)) then (if 0≤x11 then (x9[x11.toNat]?).bind fun y_2=>(z88 y_2).bind fun r_3=>(if (decide (r_3=(z6 (dimension1+1)))) then (if (q_1.length+[x11].length)*8≤LIM then zd3 k n dimension1 x9 x10 (z6 (x11+1)) (q_1++[x11]) e_0 else none) else zd3 k n dimension1 x9 x10 (z6 (x11+1)) q_1 e_0) else none) else e_0 q_1)
def zca (k:Nat) (c0:List zT1) (dimension1:Int):Option zT1:=zd3 k k dimension1 c0 (List.length c0:Int) 0 [] (fun q_4=>some q_4)
def z14b:Head:=⟨[(5,(.ref P0 []))],[(P0,2,U0,false)],[]⟩
def z14c (k:Nat):LD zT1:=⟨3,⟨[(1,V0),(5,(.ref P0 [])),(9,V3),(10,V0),(11,V0)],[(P0,2,U0,false)],[]⟩,[(0,z14b)],fun n x kx=>zd3 k n x.1.1 x.1.2.2.1 x.1.2.2.2.1 x.1.2.2.2.2.1 x.2.1.1 (fun q_4=>kx 0 (z14b.fill (((),()),(q_4,()),()))),k⟩
def z1lx (k:Nat):FE:=⟨(.pr U8 U0),1,U5,fun x=>zca k x.1 x.2⟩
theorem zms (k:Nat):z8 Tryz.prog 130 (z1lx k):=okC zb (xTc zj8 xTn) xOn Tryz.f130 (orc (z14c k) (LOn _)) (xLo (z14c k) (by rintro n ⟨⟨dimension1,⟨⟩,x9,x10,x11,⟨⟩⟩,⟨q_1,⟨⟩⟩,⟨⟩⟩ kx; kernel_rfl) xLn) (by rintro ⟨c0,dimension1⟩; kernel_rfl)
def zgj (k:Nat):Nat→Int→Int→Int→zT1→zT3→(Int→Option Int)→Option Int
 | 0,_,_,_,_,_,_=>none
 | n+1,sum5,x12,x13,q_2,v_2,e_0=>(if (decide (x13<x12)) then (if 0≤x13∧x13.toNat<List.length q_2 then (q_2[x13.toNat]?).bind fun y_3=>(if 0≤y_3 then (v_2.2.2.1[y_3.toNat]?).bind fun y_4=>zgj k n (z6 (sum5+y_4)) x12 (z6 (x13+1)) q_2 v_2 e_0 else none) else none) else e_0 sum5)
def zb0 (k:Nat) (s0:List zT1×Int×List Int×List zT0) (k1:Int):Option Int:=(zca k s0.1 k1).bind fun r_1=>zgj k k 0 (List.length r_1:Int) 0 r_1 s0 (fun sum_5=>some sum_5)
def z14d:Head:=⟨[(5,V0)],[],[]⟩
def z14e (k:Nat):LD Int:=⟨3,⟨[(2,(.bp 2 [] 0)),(5,V0),(11,(.ref P0 [])),(12,V0),(13,V0)],[(P0,2,U0,false)],[(2,42,V4)]⟩,[(0,z14d)],fun n x kx=>zgj k n x.1.2.1 x.1.2.2.2.1 x.1.2.2.2.2.1 x.2.1.1 x.2.2.1 (fun sum5=>kx 0 (z14d.fill ((sum5,()),(),()))),k⟩
def z1ly (k:Nat):FE:=⟨(.pr U1 U0),1,U0,fun x=>zb0 k x.1 x.2⟩
theorem zsw (k:Nat):z8 Tryz.prog 116 (z1ly k):=okC zb (xTc (zms k) xTn) xOn Tryz.f116 (orc (z14e k) (LOn _)) (xLo (z14e k) (by rintro n ⟨⟨⟨⟩,sum5,⟨⟩,x12,x13,⟨⟩⟩,⟨q_2,⟨⟩⟩,⟨v_2,⟨⟩⟩⟩ kx; kernel_rfl) xLn) (by rintro ⟨s0,k1⟩; kernel_rfl)
def zgk (k:Nat):Nat→zT1→Int→zT10→(Option Bool)→Option Bool
 | 0,_,_,_,_=>none
 | n+1,stalks1,x16,v_2,e_0=>(if (decide (x16<4)) then (zb0 k (v_2,(0,(stalks1,[]))) x16).bind fun r_2=>(if (decide (32<r_2)) then some false else zgk k n stalks1 (z6 (x16+1)) v_2 e_0) else e_0)
def zos (k:Nat) (c0:List zT1) (stalks1:List Int):Option Bool:=(if (!(decide ((List.length stalks1:Int)=(List.length c0:Int)))) then some false else (zor k stalks1 ()).bind fun r_1=>(if r_1 then some false else zgk k k stalks1 0 c0 (some true)))
def z14f:Head:=⟨[],[],[]⟩
def z14g (k:Nat):LD Bool:=⟨4,⟨[(1,V1),(2,(.bp 2 [] 0)),(16,V0)],[],[(2,39,V9)]⟩,[(0,z14f)],fun n x kx=>zgk k n x.1.1 x.1.2.2.1 x.2.2.1 (kx 0 (z14f.fill ((),(),()))),k⟩
def z1lz (k:Nat):FE:=⟨(.pr U8 U5),1,.bool,fun x=>zos k x.1 x.2⟩
theorem z1m0 (k:Nat):z8 Tryz.prog 146 (z1lz k):=okC zb (xTc (z1lv k) (xTc (zsw k) xTn)) xOn Tryz.f146 (orc (z14g k) (LOn _)) (xLo (z14g k) (by rintro n ⟨⟨stalks1,⟨⟩,x16,⟨⟩⟩,⟨⟩,⟨v_2,⟨⟩⟩⟩ kx; kernel_rfl) xLn) (by rintro ⟨c0,stalks1⟩; kernel_rfl)
def zsx (list0:List zT1):Option Int:=some (List.length list0:Int)
def z1m1:FE:=⟨U16,1,U0,fun x=>zsx x⟩
theorem z1m2:z8 Tryz.prog 183 (z1m1):=okC zb xTn xOn Tryz.f183 (LOn _) xLn (by rintro list0; kernel_rfl)
def zgl (k:Nat):Nat→Int→Int→zT1→zT10→zT10→(zT1→Option zT1)→Option zT1
 | 0,_,_,_,_,_,_=>none
 | n+1,x14,x15,q_3,q_4,v_2,e_0=>(if (decide (x15<x14)) then (if 0≤x15∧x15.toNat<List.length q_4 then (q_4[x15.toNat]?).bind fun y_5=>(q_4[x15.toNat]?).bind fun y_6=>(zj6 k v_2 y_6).bind fun r_7=>(if (q_3.length+[r_7].length)*8≤LIM then zgl k n x14 (z6 (x15+1)) (q_3++[r_7]) q_4 v_2 e_0 else none) else none) else e_0 q_3)
def z9i (k:Nat) (c0:List zT1) (k1:Int):Option zT1:=(if 0≤k1 then (c0[k1.toNat]?).bind fun y_1=>(zgf k y_1).bind fun r_2=>zgl k k (List.length r_2:Int) 0 [] r_2 c0 (fun q_8=>some q_8) else none)
def z14h:Head:=⟨[(5,(.ref P0 []))],[(P0,2,U0,false)],[]⟩
def z14i (k:Nat):LD zT1:=⟨3,⟨[(2,(.bp 2 [] 0)),(5,(.ref P0 [])),(13,(.ref P1 [])),(14,V0),(15,V0)],[(P0,2,U0,false),(P1,25,U5,false)],[(2,39,V9)]⟩,[(0,z14h)],fun n x kx=>zgl k n x.1.2.2.2.1 x.1.2.2.2.2.1 x.2.1.1 x.2.1.2.1 x.2.2.1 (fun q_9=>kx 0 (z14h.fill (((),()),(q_9,()),()))),k⟩
def z1m3 (k:Nat):FE:=⟨(.pr U8 U0),1,U5,fun x=>z9i k x.1 x.2⟩
theorem zsy (k:Nat):z8 Tryz.prog 118 (z1m3 k):=okC zb (xTc (z13y k) (xTc (z141 k) xTn)) xOn Tryz.f118 (orc (z14i k) (LOn _)) (xLo (z14i k) (by rintro n ⟨⟨⟨⟩,⟨⟩,⟨⟩,x14,x15,⟨⟩⟩,⟨q_3,q_4,⟨⟩⟩,⟨v_2,⟨⟩⟩⟩ kx; kernel_rfl) xLn) (by rintro ⟨c0,k1⟩; kernel_rfl)
def zd4 (k:Nat):Nat→Int→Int→Int→Int→Int→zT11→zT1→zT10→(Int→Int→zT11→zT10→Option zT11)→Option zT11
 | 0,_,_,_,_,_,_,_,_,_=>none
 | n+1,k4,x9,x10,x16,x17,q_4,q_5,v_1,e_2=>(if (decide (x17<x16)) then (if 0≤x17∧x17.toNat<List.length q_5 then (q_5[x17.toNat]?).bind fun y_6=>(if (q_4.length+[(k4,(x17,y_6))].length)*24≤LIM then zd4 k n k4 x9 x10 x16 (z6 (x17+1)) (q_4++[(k4,(x17,y_6))]) q_5 v_1 e_2 else none) else none) else e_2 x9 x10 q_4 v_1)
def zgm (k:Nat):Nat→Int→Int→zT11→zT10→(zT11→Option zT11)→Option zT11
 | 0,_,_,_,_,_=>none
 | n+1,x9,x10,q_2,v_1,e_0=>(if (decide (x10<x9)) then (z9i k v_1 x10).bind fun r_3=>zd4 k k x10 x9 x10 (List.length r_3:Int) 0 q_2 r_3 v_1 (fun x_4 x_5 q_6 v_7=>zgm k n x_4 (z6 (x_5+1)) q_6 v_7 e_0) else e_0 q_2)
def zot (k:Nat) (c0:List zT1):Option zT11:=(zsx c0).bind fun r_1=>zgm k k r_1 0 [] c0 (fun q_8=>some q_8)
def z14j:Head:=⟨[(1,(.bp 1 [] 0)),(3,(.ref P0 [])),(9,V0),(10,V0)],[(P0,188,U4,false)],[(1,39,V9)]⟩
def z14k:Head:=⟨[(1,(.bp 1 [] 0)),(3,(.ref P0 [])),(4,V0),(9,V0),(10,V0),(15,(.ref P1 [])),(16,V0),(17,V0)],[(P0,188,U4,false),(P1,2,U0,false)],[(1,39,V9)]⟩
def z14l (k:Nat) (n:Nat) (x:z14k.T) (kx:Nat→St→Option zT11):Option zT11:=zd4 k n x.1.2.2.1 x.1.2.2.2.1 x.1.2.2.2.2.1 x.1.2.2.2.2.2.2.1 x.1.2.2.2.2.2.2.2.1 x.2.1.1 x.2.1.2.1 x.2.2.1 (fun x9 x10 q_7 v_1=>kx 2 (z14j.fill (((),(),x9,x10,()),(q_7,()),(v_1,()))))
def zou (k:Nat):LD zT11:=⟨6,z14k,[(2,z14j)],z14l k,k⟩
def z14m:Head:=⟨[(3,(.ref P0 []))],[(P0,188,U4,false)],[]⟩
def z14n (k:Nat):LD zT11:=⟨3,⟨[(1,(.bp 1 [] 0)),(3,(.ref P0 [])),(9,V0),(10,V0)],[(P0,188,U4,false)],[(1,39,V9)]⟩,[(0,z14m)],fun n x kx=>zgm k n x.1.2.2.1 x.1.2.2.2.1 x.2.1.1 x.2.2.1 (fun q_11=>kx 0 (z14m.fill (((),()),(q_11,()),()))),k⟩
def z1m4 (k:Nat):FE:=⟨U8,1,(.sl 188 U4),fun x=>zot k x⟩
theorem z1m5 (k:Nat):z8 Tryz.prog 147 (z1m4 k):=okC zb (xTc z1m2 (xTc (zsy k) xTn)) xOn Tryz.f147 (orc (zou k) (orc (z14n k) (LOn _))) (xLo (z14n k) (by rintro n ⟨⟨⟨⟩,⟨⟩,x9,x10,⟨⟩⟩,⟨q_2,⟨⟩⟩,⟨v_1,⟨⟩⟩⟩ kx; kernel_rfl) (xLp (zou k) (by rintro n ⟨⟨⟨⟩,⟨⟩,k4,x9,x10,⟨⟩,x16,x17,⟨⟩⟩,⟨q_4,q_5,⟨⟩⟩,⟨v_1,⟨⟩⟩⟩ kx _ h; dsimp only [zou,z14l] at h; subst h; dsimp only [zou]; kernel_rfl) xLn)) (by rintro c0; kernel_rfl)
def zov (n0:Int):Option Bool:=(z47 n0 0 32).bind fun r_1=>some r_1
def z1m6:FE:=⟨U0,1,.bool,fun x=>zov x⟩
theorem z1m7:z8 Tryz.prog 205 (z1m6):=okC zb (xTc z84 xTn) xOn Tryz.f205 (LOn _) xLn (by rintro n0; kernel_rfl)
def z68 (a0:Int) (p1:Int):Option Bool:=(z47 a0 0 (z6 (p1-1))).bind fun r_1=>some r_1
def z1m8:FE:=⟨U20,1,.bool,fun x=>z68 x.1 x.2⟩
theorem zsz:z8 Tryz.prog 149 (z1m8):=okC zb (xTc z84 xTn) xOn Tryz.f149 (LOn _) xLn (by rintro ⟨a0,p1⟩; kernel_rfl)
def zt0 (a0:Int) (x1:Int):Option Bool:=(z68 a0 x1).bind fun r_1=>some (!r_1)
def z1m9:FE:=⟨(.pr U0 (.ptr U0)),1,.bool,fun x=>zt0 x.1 x.2⟩
theorem z1ma:z8 Tryz.prog 174 (z1m9):=okC zb (xTc zsz xTn) xOn Tryz.f174 (LOn _) xLn (by rintro ⟨a0,x1⟩; kernel_rfl)
def zgn (k:Nat):Nat→zT1→Int→Int→Int→(Option Int)→Option Int
 | 0,_,_,_,_,_=>none
 | n+1,s0,f1,x7,x8,e_0=>(if (decide (x8<x7)) then (if 0≤x8 then (s0[x8.toNat]?).bind fun y_1=>(zt0 y_1 f1).bind fun r_2=>(if r_2 then some x8 else zgn k n s0 f1 x7 (z6 (x8+1)) e_0) else none) else e_0)
def zt1 (k:Nat) (s0:List Int) (f1:Int):Option Int:=zgn k k s0 f1 (List.length s0:Int) 0 (some (-1))
def z14o:Head:=⟨[],[],[]⟩
def z14p (k:Nat):LD Int:=⟨2,⟨[(0,V1),(1,(.val (.fn 174 (.ptr U0)))),(7,V0),(8,V0)],[],[]⟩,[(0,z14o)],fun n x kx=>zgn k n x.1.1 x.1.2.1 x.1.2.2.1 x.1.2.2.2.1 (kx 0 (z14o.fill ((),(),()))),k⟩
def z1mb (k:Nat):FE:=⟨(.pr U5 (.fn 174 (.ptr U0))),1,U0,fun x=>zt1 k x.1 x.2⟩
theorem z1mc (k:Nat):z8 Tryz.prog 162 (z1mb k):=okC zb (xTc z1ma xTn) xOn Tryz.f162 (orc (z14p k) (LOn _)) (xLo (z14p k) (by rintro n ⟨⟨s0,f1,x7,x8,⟨⟩⟩,⟨⟩,⟨⟩⟩ kx; kernel_rfl) xLn) (by rintro ⟨s0,f1⟩; kernel_rfl)
def zt2 (k:Nat) (s0:List Int) (f1:Int):Option Bool:=(zt1 k s0 f1).bind fun r_1=>some (decide (0≤r_1))
def z1md (k:Nat):FE:=⟨(.pr U5 (.fn 174 (.ptr U0))),1,.bool,fun x=>zt2 k x.1 x.2⟩
theorem z1me (k:Nat):z8 Tryz.prog 122 (z1md k):=okC zb (xTc (z1mc k) xTn) xOn Tryz.f122 (LOn _) xLn (by rintro ⟨s0,f1⟩; kernel_rfl)
def zfj (k:Nat) (list0:List Int) (p1:Int):Option Bool:=(zt2 k list0 p1).bind fun r_1=>some (!r_1)
def z1mf (k:Nat):FE:=⟨U30,1,.bool,fun x=>zfj k x.1 x.2⟩
theorem zsb (k:Nat):z8 Tryz.prog 134 (z1mf k):=okC zb (xTc (z1me k) xTn) xOn Tryz.f134 (LOn _) xLn (by rintro ⟨list0,p1⟩; kernel_rfl)
end
end Go.Proofs.YtfinlkoplekgkaaGreatDoor.Ev
