/- Functions of the program, as plain ones. No conditions. -/
import Derived.Test.YtiodkblajaenbaaGreatDoorG5
import Derived.KernelRfl
set_option linter.unusedVariables false
set_option maxRecDepth 100000
namespace Go.Proofs.YtiodkblajaenbaaGreatDoor.Ev
open Go.RowKit
noncomputable section
def zd9 (k:Nat):Nat→Int→zT1→Int→Int→(Int→Option Int)→Option Int
 | 0,_,_,_,_,_=>none
 | n+1,zero3,x6,x7,x8,e_0=>(if (decide (x8<x7)) then (if 0≤x8 then (x6[x8.toNat]?).bind fun y_1=>(if (!(decide (y_1=zero3))) then some y_1 else zd9 k n zero3 x6 x7 (z6 (x8+1)) e_0) else none) else e_0 zero3)
def zjs (k:Nat) (vals0:List Int):Option Int:=zd9 k k 0 vals0 (List.length vals0:Int) 0 (fun zero_2=>some zero_2)
def z15f:Head:=⟨[(3,V0)],[],[]⟩
def z15g (k:Nat):LD Int:=⟨3,⟨[(3,V0),(6,(.val (.sl 3 U0))),(7,V0),(8,V0)],[],[]⟩,[(0,z15f)],fun n x kx=>zd9 k n x.1.1 x.1.2.1 x.1.2.2.1 x.1.2.2.2.1 (fun zero3=>kx 0 (z15f.fill ((zero3,()),(),()))),k⟩
def z1ny (k:Nat):FE:=⟨(.sl 3 U0),1,U0,fun x=>zjs k x⟩
theorem ztp (k:Nat):z8 Tryz.prog 157 (z1ny k):=okC za xTn xOn Tryz.f157 (orc (z15g k) (LOn _)) (xLo (z15g k) (by rintro n ⟨⟨zero3,x6,x7,x8,⟨⟩⟩,⟨⟩,⟨⟩⟩ kx; kernel_rfl) xLn) (by rintro vals0; kernel_rfl)
def zda (k:Nat) (a0:List Int) (b1:List Int):Option Int:=(zpd (List.length a0:Int) (List.length b1:Int)).bind fun r_1=>(zpf k a0 b1).bind fun r_2=>(zjs k [r_1,r_2]).bind fun r_3=>some r_3
def z1nz (k:Nat):FE:=⟨(.pr U5 U5),1,U0,fun x=>zda k x.1 x.2⟩
theorem z15h (k:Nat):z8 Tryz.prog 192 (z1nz k):=okC za (xTc z1ns (xTc (z1nx k) (xTc (ztp k) xTn))) xOn Tryz.f192 (LOn _) xLn (by rintro ⟨a0,b1⟩; kernel_rfl)
def z15i (n1:Int) (q_1:List Int):Option ((Unit×Unit)×(List Int×Unit)×Unit):=if 0≤n1∧(List.length q_1+(n1).toNat)*8≤LIM then some (((),()),(q_1,()),()) else none
def oc_slices_Grow_int64_s:OC:=zmf 2 U0 8
theorem z1o0:z1f Tryz.prog ti 220 oc_slices_Grow_int64_s :=
 z1g8 (ρ:=(⟨fun n=>bif Nat.beq n 4 then 220 else n,fun n=>bif Nat.beq n 22 then 25 else bif Nat.beq n 25 then 2 else n,fun n=>n⟩:Go.Shelf.Ren)) zt0 (e:=2) (t:=U0) (bytes:=8) { mixed:=mix,f4:=⟨Tryz.f220.name,by kernel_rfl,(Tryz.func220).trans (congrArg some (by kernel_rfl))⟩,t0:=Tryz.underlying0,a0:=Tryz.isAgg0,z0:=Tryz.sizeOf0,v0:=Tryz.zeroValue0,t3:=Tryz.underlying3,a3:=Tryz.isAgg3,z3:=Tryz.sizeOf3,v3:=Tryz.zeroValue3,t4:=Tryz.underlying4,a4:=Tryz.isAgg4,z4:=Tryz.sizeOf4,v4:=Tryz.zeroValue4,t9:=Tryz.underlying9,a9:=Tryz.isAgg9,z9:=Tryz.sizeOf9,v9:=Tryz.zeroValue9,t20:=Tryz.underlying20,a20:=Tryz.isAgg20,z20:=Tryz.sizeOf20,v20:=Tryz.zeroValue20,t22:=Tryz.underlying25,a22:=Tryz.isAgg25,z22:=Tryz.sizeOf25,v22:=Tryz.zeroValue25 } rfl (i:=(ti[2]?).getD ⟨.oth,.un,0⟩) (by kernel_rfl) (by kernel_rfl) (by kernel_rfl) (by kernel_rfl) (by kernel_rfl) (by kernel_rfl)
def zpg (k:Nat):Nat→zT10→Int→zT10→Int→Int→(zT10→Int→Option zT1)→Option zT1
 | 0,_,_,_,_,_,_=>none
 | n+1,slices0,size3,x9,x10,x11,e_0=>(if (decide (x11<x10)) then (if 0≤x11 then (x9[x11.toNat]?).bind fun y_1=>(if (decide ((z6 (size3+(List.length y_1:Int)))<0)) then none else zpg k n slices0 (z6 (size3+(List.length y_1:Int))) x9 x10 (z6 (x11+1)) e_0) else none) else e_0 slices0 size3)
def zph (k:Nat):Nat→zT10→Int→Int→zT1→(zT1→Option zT1)→Option zT1
 | 0,_,_,_,_,_=>none
 | n+1,x25,x26,x27,q_5,e_2=>(if (decide (x27<x26)) then (if 0≤x27 then (x25[x27.toNat]?).bind fun y_6=>(if (q_5.length+y_6.length)*8≤LIM then zph k n x25 x26 (z6 (x27+1)) (q_5++y_6) e_2 else none) else none) else e_2 q_5)
def zpi (k:Nat) (slices0:List zT1):Option zT1:=zpg k k slices0 0 slices0 (List.length slices0:Int) 0 (fun slices_2 size_3=>(z15i size_3 []).bind fun y_4=>zph k k slices_2 (List.length slices_2:Int) 0 y_4.2.1.1 (fun q_7=>some q_7))
def z15j:Head:=⟨[(0,V3),(3,V0)],[],[]⟩
def z15k (k:Nat):LD zT1:=⟨3,⟨[(0,V3),(3,V0),(9,V3),(10,V0),(11,V0)],[],[]⟩,[(0,z15j)],fun n x kx=>zpg k n x.1.1 x.1.2.1 x.1.2.2.1 x.1.2.2.2.1 x.1.2.2.2.2.1 (fun slices0 size3=>kx 0 (z15j.fill ((slices0,size3,()),(),()))),k⟩
def z15l:Head:=⟨[(6,(.ref P0 []))],[(P0,2,U0,false)],[]⟩
def z15m (k:Nat):LD zT1:=⟨11,⟨[(6,(.ref P0 [])),(25,V3),(26,V0),(27,V0)],[(P0,2,U0,false)],[]⟩,[(2,z15l)],fun n x kx=>zph k n x.1.2.1 x.1.2.2.1 x.1.2.2.2.1 x.2.1.1 (fun q_7=>kx 2 (z15l.fill (((),()),(q_7,()),()))),k⟩
def z1o1 (k:Nat):FE:=⟨U16,1,U5,fun x=>zpi k x⟩
theorem z1o2 (k:Nat):z8 Tryz.prog 199 (z1o1 k):=okC za xTn (xOc 24 z1o0 xOn) Tryz.f199 (orc (z15k k) (orc (z15m k) (LOn _))) (xLo (z15k k) (by rintro n ⟨⟨slices0,size3,x9,x10,x11,⟨⟩⟩,⟨⟩,⟨⟩⟩ kx; kernel_rfl) (xLo (z15m k) (by rintro n ⟨⟨⟨⟩,x25,x26,x27,⟨⟩⟩,⟨q_5,⟨⟩⟩,⟨⟩⟩ kx; kernel_rfl) xLn)) (by rintro slices0; kernel_rfl)
def zdb (k:Nat):Nat→zT1→Int→Int→zT10→(zT10→Option zT10)→Option zT10
 | 0,_,_,_,_,_=>none
 | n+1,s0,x6,x7,q_1,e_0=>(if (decide (x7<x6)) then (if (decide (1<(List.length s0:Int))) then (if 0≤(0:Int)∧(0:Int)≤x7∧x7≤s0.length then (if 0≤(z6 (x7+1))∧(z6 (x7+1))≤(s0.length:Int)∧(s0.length:Int)≤s0.length then (zpi k [(s0.take x7.toNat),((s0.drop ((z6 (x7+1)).toNat)).take (s0.length-(z6 (x7+1)).toNat))]).bind fun r_2=>(if (q_1.length+[r_2].length)*24≤LIM then zdb k n s0 x6 (z6 (x7+1)) (q_1++[r_2]) e_0 else none) else none) else none) else zdb k n s0 x6 (z6 (x7+1)) q_1 e_0) else e_0 q_1)
def zgz (k:Nat) (s0:List Int):Option zT10:=zdb k k s0 (List.length s0:Int) 0 [] (fun q_3=>some q_3)
def z15n:Head:=⟨[(3,(.ref P0 []))],[(P0,25,U5,false)],[]⟩
def z15o (k:Nat):LD zT10:=⟨3,⟨[(0,V1),(3,(.ref P0 [])),(6,V0),(7,V0)],[(P0,25,U5,false)],[]⟩,[(0,z15n)],fun n x kx=>zdb k n x.1.1 x.1.2.2.1 x.1.2.2.2.1 x.2.1.1 (fun q_3=>kx 0 (z15n.fill (((),()),(q_3,()),()))),k⟩
def z1o3 (k:Nat):FE:=⟨U5,1,U16,fun x=>zgz k x⟩
theorem z15p (k:Nat):z8 Tryz.prog 160 (z1o3 k):=okC za (xTc (z1o2 k) xTn) xOn Tryz.f160 (orc (z15o k) (LOn _)) (xLo (z15o k) (by rintro n ⟨⟨s0,⟨⟩,x6,x7,⟨⟩⟩,⟨q_1,⟨⟩⟩,⟨⟩⟩ kx; kernel_rfl) xLn) (by rintro s0; kernel_rfl)
def zb5 (k:Nat):Nat→zT10→zT1→Unit→Int→Int→Int→(zT10→zT1→Unit→Int→Int→Option (Int×Bool))→Option (Int×Bool)
 | 0,_,_,_,_,_,_,_=>none
 | n+1,x0,target1,cmp2,n8,i9,j10,e_0=>(if (decide (i9<j10)) then (if 0≤(z6 ((Int.fdiv (zca ((z6 (i9+j10)))) (2 ^ 1)))) then (x0[(z6 ((Int.fdiv (zca ((z6 (i9+j10)))) (2 ^ 1)))).toNat]?).bind fun y_1=>(zda k y_1 target1).bind fun r_2=>(if (decide (r_2<0)) then zb5 k n x0 target1 cmp2 n8 (z6 ((z6 ((Int.fdiv (zca ((z6 (i9+j10)))) (2 ^ 1))))+1)) j10 e_0 else zb5 k n x0 target1 cmp2 n8 i9 (z6 ((Int.fdiv (zca ((z6 (i9+j10)))) (2 ^ 1)))) e_0) else none) else e_0 x0 target1 cmp2 n8 i9)
def ztq (k:Nat) (x0:List zT1) (target1:List Int) (cmp2:Unit):Option (Int×Bool):=zb5 k k x0 target1 cmp2 (List.length x0:Int) 0 (List.length x0:Int) (fun x_3 target_4 cmp_5 n_6 i_7=>(if (decide (i_7<n_6)) then (if 0≤i_7 then (x_3[i_7.toNat]?).bind fun y_8=>(zda k y_8 target_4).bind fun r_9=>some (i_7,(decide (r_9=0))) else none) else some (i_7,false)))
def z15q:Head:=⟨[(0,V3),(1,V1),(2,(.val (.fn 192 .un))),(8,V0),(9,V0)],[],[]⟩
def z15r (k:Nat):LD (Int×Bool):=⟨3,⟨[(0,V3),(1,V1),(2,(.val (.fn 192 .un))),(8,V0),(9,V0),(10,V0)],[],[]⟩,[(0,z15q)],fun n x kx=>zb5 k n x.1.1 x.1.2.1 x.1.2.2.1 x.1.2.2.2.1 x.1.2.2.2.2.1 x.1.2.2.2.2.2.1 (fun x0 target1 cmp2 n8 i9=>kx 0 (z15q.fill ((x0,target1,cmp2,n8,i9,()),(),()))),k⟩
def z1o4 (k:Nat):FE:=⟨(.pr U16 (.pr U5 (.fn 192 .un))),2,(.pr U0 .bool),fun x=>ztq k x.1 x.2.1 x.2.2⟩
theorem z1o5 (k:Nat):z8 Tryz.prog 200 (z1o4 k):=okC za (xTc (z15h k) xTn) xOn Tryz.f200 (orc (z15r k) (LOn _)) (xLo (z15r k) (by rintro n ⟨⟨x0,target1,cmp2,n8,i9,j10,⟨⟩⟩,⟨⟩,⟨⟩⟩ kx; kernel_rfl) xLn) (by rintro ⟨x0,target1,cmp2⟩; kernel_rfl)
def zjt (k:Nat) (c0:List zT1) (s1:List Int):Option Int:=(ztq k c0 s1 ()).bind fun r_1=>(if (!r_1.2) then some (-1) else some r_1.1)
def z1o6 (k:Nat):FE:=⟨(.pr U10 U5),1,U0,fun x=>zjt k x.1 x.2⟩
theorem z15s (k:Nat):z8 Tryz.prog 161 (z1o6 k):=okC za (xTc (z1o5 k) xTn) xOn Tryz.f161 (LOn _) xLn (by rintro ⟨c0,s1⟩; kernel_rfl)
def ztr (k:Nat) (f0:List Int) (x1:List zT1) (x2:Int):Option Bool:=(if 0≤(0:Int)∧(0:Int)≤x2∧x2≤x1.length then (zjt k (x1.take x2.toNat) f0).bind fun r_1=>some (decide (r_1<0)) else none)
def z1o7 (k:Nat):FE:=⟨(.pr U5 (.pr U25 (.ptr U0))),1,.bool,fun x=>ztr k x.1 x.2.1 x.2.2⟩
theorem z1o8 (k:Nat):z8 Tryz.prog 194 (z1o7 k):=okC za (xTc (z15s k) xTn) xOn Tryz.f194 (LOn _) xLn (by rintro ⟨f0,x1,x2⟩; kernel_rfl)
def zh0 (k:Nat):Nat→zT10→(List zT1×Int)→Int→Int→(Option Int)→Option Int
 | 0,_,_,_,_,_=>none
 | n+1,s0,f1,x7,x8,e_0=>(if (decide (x8<x7)) then (if 0≤x8 then (s0[x8.toNat]?).bind fun y_1=>(ztr k y_1 f1.1 f1.2).bind fun r_2=>(if r_2 then some x8 else zh0 k n s0 f1 x7 (z6 (x8+1)) e_0) else none) else e_0)
def zts (k:Nat) (s0:List zT1) (f1:List zT1×Int):Option Int:=zh0 k k s0 f1 (List.length s0:Int) 0 (some (-1))
def z15t:Head:=⟨[],[],[]⟩
def z15u (k:Nat):LD Int:=⟨2,⟨[(0,V3),(1,(.val U33)),(7,V0),(8,V0)],[],[]⟩,[(0,z15t)],fun n x kx=>zh0 k n x.1.1 x.1.2.1 x.1.2.2.1 x.1.2.2.2.1 (kx 0 (z15t.fill ((),(),()))),k⟩
def z1o9 (k:Nat):FE:=⟨(.pr U16 U33),1,U0,fun x=>zts k x.1 x.2⟩
theorem z1oa (k:Nat):z8 Tryz.prog 205 (z1o9 k):=okC za (xTc (z1o8 k) xTn) xOn Tryz.f205 (orc (z15u k) (LOn _)) (xLo (z15u k) (by rintro n ⟨⟨s0,f1,x7,x8,⟨⟩⟩,⟨⟩,⟨⟩⟩ kx; kernel_rfl) xLn) (by rintro ⟨s0,f1⟩; kernel_rfl)
def zju (k:Nat) (s0:List zT1) (f1:List zT1×Int):Option Bool:=(zts k s0 f1).bind fun r_1=>some (decide (0≤r_1))
def z1ob (k:Nat):FE:=⟨(.pr U16 U33),1,.bool,fun x=>zju k x.1 x.2⟩
theorem z1oc (k:Nat):z8 Tryz.prog 193 (z1ob k):=okC za (xTc (z1oa k) xTn) xOn Tryz.f193 (LOn _) xLn (by rintro ⟨s0,f1⟩; kernel_rfl)
def zdc (k:Nat):Nat→zT10→Int→Int→zT10→(zT10→Option Bool)→Option Bool
 | 0,_,_,_,_,_=>none
 | n+1,x6,x7,x8,v_1,e_0=>(if (decide (x8<x7)) then (if 0≤x8 then (x6[x8.toNat]?).bind fun y_1=>(zpb k y_1).bind fun r_2=>(if (!r_2) then some false else (if (decide (0<x8)) then (if 0≤(z6 (x8-1)) then (v_1[(z6 (x8-1)).toNat]?).bind fun y_3=>(zda k y_3 y_1).bind fun r_4=>(if (decide (0≤r_4)) then some false else (zgz k y_1).bind fun r_5=>(zju k r_5 (v_1,x8)).bind fun r_6=>(if r_6 then some false else zdc k n x6 x7 (z6 (x8+1)) v_1 e_0)) else none) else (zgz k y_1).bind fun r_7=>(zju k r_7 (v_1,x8)).bind fun r_8=>(if r_8 then some false else zdc k n x6 x7 (z6 (x8+1)) v_1 e_0))) else none) else e_0 v_1)
def zpj (k:Nat) (c0:List zT1):Option Bool:=zdc k k c0 (List.length c0:Int) 0 c0 (fun v_9=>some (decide ((List.length v_9:Int)≤48)))
def z15v:Head:=⟨[(1,(.bp 1 [] 0))],[],[(1,41,V9)]⟩
def z15w (k:Nat):LD Bool:=⟨2,⟨[(1,(.bp 1 [] 0)),(6,V3),(7,V0),(8,V0)],[],[(1,41,V9)]⟩,[(0,z15v)],fun n x kx=>zdc k n x.1.2.1 x.1.2.2.1 x.1.2.2.2.1 x.2.2.1 (fun v_1=>kx 0 (z15v.fill (((),()),(),(v_1,())))),k⟩
def z1od (k:Nat):FE:=⟨U10,1,.bool,fun x=>zpj k x⟩
theorem z1oe (k:Nat):z8 Tryz.prog 151 (z1od k):=okC za (xTc (z1no k) (xTc (z15h k) (xTc (z15p k) (xTc (z1oc k) xTn)))) xOn Tryz.f151 (orc (z15w k) (LOn _)) (xLo (z15w k) (by rintro n ⟨⟨⟨⟩,x6,x7,x8,⟨⟩⟩,⟨⟩,⟨v_1,⟨⟩⟩⟩ kx; kernel_rfl) xLn) (by rintro c0; kernel_rfl)
def z9o (k:Nat):Nat→Int→Int→(Option Bool)→Option Bool
 | 0,_,_,_=>none
 | n+1,p0,d3,e_0=>(if (decide ((z6 (d3*d3))≤p0)) then (if d3=0 then none else (if (decide ((Int.tmod p0 d3)=0)) then some false else z9o k n p0 (z6 (d3+1)) e_0)) else e_0)
def zh1 (k:Nat) (p0:Int):Option Bool:=(z49 p0 2 251).bind fun r_1=>(if (!r_1) then some false else z9o k k p0 2 (some true))
def z15x:Head:=⟨[],[],[]⟩
def z15y (k:Nat):LD Bool:=⟨4,⟨[(0,V0),(3,V0)],[],[]⟩,[(0,z15x)],fun n x kx=>z9o k n x.1.1 x.1.2.1 (kx 0 (z15x.fill ((),(),()))),k⟩
def z1of (k:Nat):FE:=⟨U0,1,.bool,fun x=>zh1 k x⟩
theorem z15z (k:Nat):z8 Tryz.prog 152 (z1of k):=okC za (xTc z86 xTn) xOn Tryz.f152 (orc (z15y k) (LOn _)) (xLo (z15y k) (by rintro n ⟨⟨p0,d3,⟨⟩⟩,⟨⟩,⟨⟩⟩ kx; kernel_rfl) xLn) (by rintro p0; kernel_rfl)
def ztt (n0:Int):Option Bool:=(z49 n0 0 3).bind fun r_1=>some (!r_1)
def z1og:FE:=⟨U0,1,.bool,fun x=>ztt x⟩
theorem z1oh:z8 Tryz.prog 195 (z1og):=okC za (xTc z86 xTn) xOn Tryz.f195 (LOn _) xLn (by rintro n0; kernel_rfl)
def zh2 (k:Nat):Nat→zT1→Unit→Int→Int→(Option Int)→Option Int
 | 0,_,_,_,_,_=>none
 | n+1,s0,f1,x7,x8,e_0=>(if (decide (x8<x7)) then (if 0≤x8 then (s0[x8.toNat]?).bind fun y_1=>(ztt y_1).bind fun r_2=>(if r_2 then some x8 else zh2 k n s0 f1 x7 (z6 (x8+1)) e_0) else none) else e_0)
def ztu (k:Nat) (s0:List Int) (f1:Unit):Option Int:=zh2 k k s0 f1 (List.length s0:Int) 0 (some (-1))
def z160:Head:=⟨[],[],[]⟩
def z161 (k:Nat):LD Int:=⟨2,⟨[(0,V1),(1,(.val (.fn 195 .un))),(7,V0),(8,V0)],[],[]⟩,[(0,z160)],fun n x kx=>zh2 k n x.1.1 x.1.2.1 x.1.2.2.1 x.1.2.2.2.1 (kx 0 (z160.fill ((),(),()))),k⟩
def z1oi (k:Nat):FE:=⟨(.pr U5 (.fn 195 .un)),1,U0,fun x=>ztu k x.1 x.2⟩
theorem z1oj (k:Nat):z8 Tryz.prog 169 (z1oi k):=okC za (xTc z1oh xTn) xOn Tryz.f169 (orc (z161 k) (LOn _)) (xLo (z161 k) (by rintro n ⟨⟨s0,f1,x7,x8,⟨⟩⟩,⟨⟩,⟨⟩⟩ kx; kernel_rfl) xLn) (by rintro ⟨s0,f1⟩; kernel_rfl)
def zpk (k:Nat) (s0:List Int) (f1:Unit):Option Bool:=(ztu k s0 f1).bind fun r_1=>some (decide (0≤r_1))
def z1ok (k:Nat):FE:=⟨(.pr U5 (.fn 195 .un)),1,.bool,fun x=>zpk k x.1 x.2⟩
theorem z1ol (k:Nat):z8 Tryz.prog 114 (z1ok k):=okC za (xTc (z1oj k) xTn) xOn Tryz.f114 (LOn _) xLn (by rintro ⟨s0,f1⟩; kernel_rfl)
def z8a (list0:List Int):Option Int:=some (List.length list0:Int)
def z1om:FE:=⟨U5,1,U0,fun x=>z8a x⟩
theorem zjv:z8 Tryz.prog 159 (z1om):=okC za xTn xOn Tryz.f159 (LOn _) xLn (by rintro list0; kernel_rfl)
def zdd (k:Nat):Nat→Int→zT10→Int→Int→zT1→(zT1→Option zT1)→Option zT1
 | 0,_,_,_,_,_,_=>none
 | n+1,dimension1,x9,x10,x11,q_1,e_0=>(if (decide (x11<x10)) then (if 0≤x11 then (x9[x11.toNat]?).bind fun y_2=>(z8a y_2).bind fun r_3=>(if (decide (r_3=(z6 (dimension1+1)))) then (if (q_1.length+[x11].length)*8≤LIM then zdd k n dimension1 x9 x10 (z6 (x11+1)) (q_1++[x11]) e_0 else none) else zdd k n dimension1 x9 x10 (z6 (x11+1)) q_1 e_0) else none) else e_0 q_1)
def zci (k:Nat) (c0:List zT1) (dimension1:Int):Option zT1:=zdd k k dimension1 c0 (List.length c0:Int) 0 [] (fun q_4=>some q_4)
def z162:Head:=⟨[(5,(.ref P0 []))],[(P0,2,U0,false)],[]⟩
def z163 (k:Nat):LD zT1:=⟨3,⟨[(1,V0),(5,(.ref P0 [])),(9,V3),(10,V0),(11,V0)],[(P0,2,U0,false)],[]⟩,[(0,z162)],fun n x kx=>zdd k n x.1.1 x.1.2.2.1 x.1.2.2.2.1 x.1.2.2.2.2.1 x.2.1.1 (fun q_4=>kx 0 (z162.fill (((),()),(q_4,()),()))),k⟩
def z1on (k:Nat):FE:=⟨(.pr U10 U0),1,U5,fun x=>zci k x.1 x.2⟩
theorem zng (k:Nat):z8 Tryz.prog 122 (z1on k):=okC za (xTc zjv xTn) xOn Tryz.f122 (orc (z163 k) (LOn _)) (xLo (z163 k) (by rintro n ⟨⟨dimension1,⟨⟩,x9,x10,x11,⟨⟩⟩,⟨q_1,⟨⟩⟩,⟨⟩⟩ kx; kernel_rfl) xLn) (by rintro ⟨c0,dimension1⟩; kernel_rfl)
def zh3 (k:Nat):Nat→Int→Int→Int→zT1→zT3→(Int→Option Int)→Option Int
 | 0,_,_,_,_,_,_=>none
 | n+1,sum5,x12,x13,q_2,v_2,e_0=>(if (decide (x13<x12)) then (if 0≤x13∧x13.toNat<List.length q_2 then (q_2[x13.toNat]?).bind fun y_3=>(if 0≤y_3 then (v_2.2.2.1[y_3.toNat]?).bind fun y_4=>zh3 k n (z6 (sum5+y_4)) x12 (z6 (x13+1)) q_2 v_2 e_0 else none) else none) else e_0 sum5)
def zb6 (k:Nat) (s0:List zT1×Int×List Int×List zT0) (k1:Int):Option Int:=(zci k s0.1 k1).bind fun r_1=>zh3 k k 0 (List.length r_1:Int) 0 r_1 s0 (fun sum_5=>some sum_5)
def z165:Head:=⟨[(5,V0)],[],[]⟩
def z166 (k:Nat):LD Int:=⟨3,⟨[(2,(.bp 2 [] 0)),(5,V0),(11,(.ref P0 [])),(12,V0),(13,V0)],[(P0,2,U0,false)],[(2,44,V4)]⟩,[(0,z165)],fun n x kx=>zh3 k n x.1.2.1 x.1.2.2.2.1 x.1.2.2.2.2.1 x.2.1.1 x.2.2.1 (fun sum5=>kx 0 (z165.fill ((sum5,()),(),()))),k⟩
def z1oo (k:Nat):FE:=⟨(.pr U4 U0),1,U0,fun x=>zb6 k x.1 x.2⟩
theorem ztv (k:Nat):z8 Tryz.prog 108 (z1oo k):=okC za (xTc (zng k) xTn) xOn Tryz.f108 (orc (z166 k) (LOn _)) (xLo (z166 k) (by rintro n ⟨⟨⟨⟩,sum5,⟨⟩,x12,x13,⟨⟩⟩,⟨q_2,⟨⟩⟩,⟨v_2,⟨⟩⟩⟩ kx; kernel_rfl) xLn) (by rintro ⟨s0,k1⟩; kernel_rfl)
def zh4 (k:Nat):Nat→zT1→Int→zT10→(Option Bool)→Option Bool
 | 0,_,_,_,_=>none
 | n+1,stalks1,x16,v_2,e_0=>(if (decide (x16<4)) then (zb6 k (v_2,(0,(stalks1,[]))) x16).bind fun r_2=>(if (decide (32<r_2)) then some false else zh4 k n stalks1 (z6 (x16+1)) v_2 e_0) else e_0)
def zpl (k:Nat) (c0:List zT1) (stalks1:List Int):Option Bool:=(if (!(decide ((List.length stalks1:Int)=(List.length c0:Int)))) then some false else (zpk k stalks1 ()).bind fun r_1=>(if r_1 then some false else zh4 k k stalks1 0 c0 (some true)))
def z167:Head:=⟨[],[],[]⟩
def z168 (k:Nat):LD Bool:=⟨4,⟨[(1,V1),(2,(.bp 2 [] 0)),(16,V0)],[],[(2,41,V9)]⟩,[(0,z167)],fun n x kx=>zh4 k n x.1.1 x.1.2.2.1 x.2.2.1 (kx 0 (z167.fill ((),(),()))),k⟩
def z1op (k:Nat):FE:=⟨(.pr U10 U5),1,.bool,fun x=>zpl k x.1 x.2⟩
theorem z1oq (k:Nat):z8 Tryz.prog 153 (z1op k):=okC za (xTc (z1ol k) (xTc (ztv k) xTn)) xOn Tryz.f153 (orc (z168 k) (LOn _)) (xLo (z168 k) (by rintro n ⟨⟨stalks1,⟨⟩,x16,⟨⟩⟩,⟨⟩,⟨v_2,⟨⟩⟩⟩ kx; kernel_rfl) xLn) (by rintro ⟨c0,stalks1⟩; kernel_rfl)
def ztw (list0:List zT1):Option Int:=some (List.length list0:Int)
def z1or:FE:=⟨U16,1,U0,fun x=>ztw x⟩
theorem z1os:z8 Tryz.prog 196 (z1or):=okC za xTn xOn Tryz.f196 (LOn _) xLn (by rintro list0; kernel_rfl)
def zh5 (k:Nat):Nat→Int→Int→zT1→zT10→zT10→(zT1→Option zT1)→Option zT1
 | 0,_,_,_,_,_,_=>none
 | n+1,x14,x15,q_3,q_4,v_2,e_0=>(if (decide (x15<x14)) then (if 0≤x15∧x15.toNat<List.length q_4 then (q_4[x15.toNat]?).bind fun y_5=>(q_4[x15.toNat]?).bind fun y_6=>(zjt k v_2 y_6).bind fun r_7=>(if (q_3.length+[r_7].length)*8≤LIM then zh5 k n x14 (z6 (x15+1)) (q_3++[r_7]) q_4 v_2 e_0 else none) else none) else e_0 q_3)
def z9p (k:Nat) (c0:List zT1) (k1:Int):Option zT1:=(if 0≤k1 then (c0[k1.toNat]?).bind fun y_1=>(zgz k y_1).bind fun r_2=>zh5 k k (List.length r_2:Int) 0 [] r_2 c0 (fun q_8=>some q_8) else none)
def z169:Head:=⟨[(5,(.ref P0 []))],[(P0,2,U0,false)],[]⟩
def z16a (k:Nat):LD zT1:=⟨3,⟨[(2,(.bp 2 [] 0)),(5,(.ref P0 [])),(13,(.ref P1 [])),(14,V0),(15,V0)],[(P0,2,U0,false),(P1,25,U5,false)],[(2,41,V9)]⟩,[(0,z169)],fun n x kx=>zh5 k n x.1.2.2.2.1 x.1.2.2.2.2.1 x.2.1.1 x.2.1.2.1 x.2.2.1 (fun q_9=>kx 0 (z169.fill (((),()),(q_9,()),()))),k⟩
def z1ot (k:Nat):FE:=⟨(.pr U10 U0),1,U5,fun x=>z9p k x.1 x.2⟩
theorem ztx (k:Nat):z8 Tryz.prog 110 (z1ot k):=okC za (xTc (z15p k) (xTc (z15s k) xTn)) xOn Tryz.f110 (orc (z16a k) (LOn _)) (xLo (z16a k) (by rintro n ⟨⟨⟨⟩,⟨⟩,⟨⟩,x14,x15,⟨⟩⟩,⟨q_3,q_4,⟨⟩⟩,⟨v_2,⟨⟩⟩⟩ kx; kernel_rfl) xLn) (by rintro ⟨c0,k1⟩; kernel_rfl)
def zde (k:Nat):Nat→Int→Int→Int→Int→Int→zT14→zT1→zT10→(Int→Int→zT14→zT10→Option zT14)→Option zT14
 | 0,_,_,_,_,_,_,_,_,_=>none
 | n+1,k4,x9,x10,x16,x17,q_4,q_5,v_1,e_2=>(if (decide (x17<x16)) then (if 0≤x17∧x17.toNat<List.length q_5 then (q_5[x17.toNat]?).bind fun y_6=>(if (q_4.length+[(k4,(x17,y_6))].length)*24≤LIM then zde k n k4 x9 x10 x16 (z6 (x17+1)) (q_4++[(k4,(x17,y_6))]) q_5 v_1 e_2 else none) else none) else e_2 x9 x10 q_4 v_1)
def zh6 (k:Nat):Nat→Int→Int→zT14→zT10→(zT14→Option zT14)→Option zT14
 | 0,_,_,_,_,_=>none
 | n+1,x9,x10,q_2,v_1,e_0=>(if (decide (x10<x9)) then (z9p k v_1 x10).bind fun r_3=>zde k k x10 x9 x10 (List.length r_3:Int) 0 q_2 r_3 v_1 (fun x_4 x_5 q_6 v_7=>zh6 k n x_4 (z6 (x_5+1)) q_6 v_7 e_0) else e_0 q_2)
def zpm (k:Nat) (c0:List zT1):Option zT14:=(ztw c0).bind fun r_1=>zh6 k k r_1 0 [] c0 (fun q_8=>some q_8)
def z16b:Head:=⟨[(1,(.bp 1 [] 0)),(3,(.ref P0 [])),(9,V0),(10,V0)],[(P0,194,U3,false)],[(1,41,V9)]⟩
def z16c:Head:=⟨[(1,(.bp 1 [] 0)),(3,(.ref P0 [])),(4,V0),(9,V0),(10,V0),(15,(.ref P1 [])),(16,V0),(17,V0)],[(P0,194,U3,false),(P1,2,U0,false)],[(1,41,V9)]⟩
def z16d (k:Nat) (n:Nat) (x:z16c.T) (kx:Nat→St→Option zT14):Option zT14:=zde k n x.1.2.2.1 x.1.2.2.2.1 x.1.2.2.2.2.1 x.1.2.2.2.2.2.2.1 x.1.2.2.2.2.2.2.2.1 x.2.1.1 x.2.1.2.1 x.2.2.1 (fun x9 x10 q_7 v_1=>kx 2 (z16b.fill (((),(),x9,x10,()),(q_7,()),(v_1,()))))
def zpn (k:Nat):LD zT14:=⟨6,z16c,[(2,z16b)],z16d k,k⟩
def z16e:Head:=⟨[(3,(.ref P0 []))],[(P0,194,U3,false)],[]⟩
def z16f (k:Nat):LD zT14:=⟨3,⟨[(1,(.bp 1 [] 0)),(3,(.ref P0 [])),(9,V0),(10,V0)],[(P0,194,U3,false)],[(1,41,V9)]⟩,[(0,z16e)],fun n x kx=>zh6 k n x.1.2.2.1 x.1.2.2.2.1 x.2.1.1 x.2.2.1 (fun q_11=>kx 0 (z16e.fill (((),()),(q_11,()),()))),k⟩
def z1ou (k:Nat):FE:=⟨U10,1,(.sl 194 U3),fun x=>zpm k x⟩
theorem z1ov (k:Nat):z8 Tryz.prog 154 (z1ou k):=okC za (xTc z1os (xTc (ztx k) xTn)) xOn Tryz.f154 (orc (zpn k) (orc (z16f k) (LOn _))) (xLo (z16f k) (by rintro n ⟨⟨⟨⟩,⟨⟩,x9,x10,⟨⟩⟩,⟨q_2,⟨⟩⟩,⟨v_1,⟨⟩⟩⟩ kx; kernel_rfl) (xLp (zpn k) (by rintro n ⟨⟨⟨⟩,⟨⟩,k4,x9,x10,⟨⟩,x16,x17,⟨⟩⟩,⟨q_4,q_5,⟨⟩⟩,⟨v_1,⟨⟩⟩⟩ kx _ h; dsimp only [zpn,z16d] at h; subst h; dsimp only [zpn]; kernel_rfl) xLn)) (by rintro c0; kernel_rfl)
def zpo (n0:Int):Option Bool:=(z49 n0 0 32).bind fun r_1=>some r_1
def z1ow:FE:=⟨U0,1,.bool,fun x=>zpo x⟩
theorem z1ox:z8 Tryz.prog 219 (z1ow):=okC za (xTc z86 xTn) xOn Tryz.f219 (LOn _) xLn (by rintro n0; kernel_rfl)
def z69 (a0:Int) (p1:Int):Option Bool:=(z49 a0 0 (z6 (p1-1))).bind fun r_1=>some r_1
def z1oy:FE:=⟨U19,1,.bool,fun x=>z69 x.1 x.2⟩
theorem zty:z8 Tryz.prog 156 (z1oy):=okC za (xTc z86 xTn) xOn Tryz.f156 (LOn _) xLn (by rintro ⟨a0,p1⟩; kernel_rfl)
def ztz (a0:Int) (x1:Int):Option Bool:=(z69 a0 x1).bind fun r_1=>some (!r_1)
def z1oz:FE:=⟨(.pr U0 (.ptr U0)),1,.bool,fun x=>ztz x.1 x.2⟩
theorem z1p0:z8 Tryz.prog 181 (z1oz):=okC za (xTc zty xTn) xOn Tryz.f181 (LOn _) xLn (by rintro ⟨a0,x1⟩; kernel_rfl)
def zh7 (k:Nat):Nat→zT1→Int→Int→Int→(Option Int)→Option Int
 | 0,_,_,_,_,_=>none
 | n+1,s0,f1,x7,x8,e_0=>(if (decide (x8<x7)) then (if 0≤x8 then (s0[x8.toNat]?).bind fun y_1=>(ztz y_1 f1).bind fun r_2=>(if r_2 then some x8 else zh7 k n s0 f1 x7 (z6 (x8+1)) e_0) else none) else e_0)
def zu0 (k:Nat) (s0:List Int) (f1:Int):Option Int:=zh7 k k s0 f1 (List.length s0:Int) 0 (some (-1))
def z16g:Head:=⟨[],[],[]⟩
def z16h (k:Nat):LD Int:=⟨2,⟨[(0,V1),(1,(.val (.fn 181 (.ptr U0)))),(7,V0),(8,V0)],[],[]⟩,[(0,z16g)],fun n x kx=>zh7 k n x.1.1 x.1.2.1 x.1.2.2.1 x.1.2.2.2.1 (kx 0 (z16g.fill ((),(),()))),k⟩
def z1p1 (k:Nat):FE:=⟨(.pr U5 (.fn 181 (.ptr U0))),1,U0,fun x=>zu0 k x.1 x.2⟩
theorem z1p2 (k:Nat):z8 Tryz.prog 169 (z1p1 k):=okC za (xTc z1p0 xTn) xOn Tryz.f169 (orc (z16h k) (LOn _)) (xLo (z16h k) (by rintro n ⟨⟨s0,f1,x7,x8,⟨⟩⟩,⟨⟩,⟨⟩⟩ kx; kernel_rfl) xLn) (by rintro ⟨s0,f1⟩; kernel_rfl)
def zu1 (k:Nat) (s0:List Int) (f1:Int):Option Bool:=(zu0 k s0 f1).bind fun r_1=>some (decide (0≤r_1))
def z1p3 (k:Nat):FE:=⟨(.pr U5 (.fn 181 (.ptr U0))),1,.bool,fun x=>zu1 k x.1 x.2⟩
theorem z1p4 (k:Nat):z8 Tryz.prog 114 (z1p3 k):=okC za (xTc (z1p2 k) xTn) xOn Tryz.f114 (LOn _) xLn (by rintro ⟨s0,f1⟩; kernel_rfl)
def zfq (k:Nat) (list0:List Int) (p1:Int):Option Bool:=(zu1 k list0 p1).bind fun r_1=>some (!r_1)
def z1p5 (k:Nat):FE:=⟨U31,1,.bool,fun x=>zfq k x.1 x.2⟩
theorem zt6 (k:Nat):z8 Tryz.prog 126 (z1p5 k):=okC za (xTc (z1p4 k) xTn) xOn Tryz.f126 (LOn _) xLn (by rintro ⟨list0,p1⟩; kernel_rfl)
end
end Go.Proofs.YtiodkblajaenbaaGreatDoor.Ev
