/- Functions of the program, as plain ones. No conditions. -/
import Derived.Test.YtchfjdcfhlhgcaaGreatDoorG4
import Derived.KernelRfl
set_option linter.unusedVariables false
set_option maxRecDepth 100000
namespace Go.Proofs.YtchfjdcfhlhgcaaGreatDoor.Ev
open Go.RowKit
noncomputable section
def zmo (k:Nat) (w0:zT3×Int×List Int×List Int×zT7×List Int×List Int×zT10×List Int):Option zT4:=(zf4 k w0.1).bind fun r_1=>(if (decide (0≤r_1.1)) then (if 0≤r_1.1 then (w0.1.1[r_1.1.toNat]?).bind fun y_2=>(zhv k y_2).bind fun r_3=>(zbj y_2 r_1.2.2).bind fun r_4=>(zbj r_4 r_1.2.1).bind fun r_5=>(zhv k r_5).bind fun r_6=>some [(1,(r_3,r_6))] else none) else (zma k w0.1 w0.2.1 w0.2.2.1).bind fun r_7=>(if (!r_7) then some [(2,([99,108,97,115,115],[111,112,101,110]))] else (zmn k w0.1 w0.2.1 w0.2.2.1).bind fun r_8=>(if r_8.2 then some [(2,([99,108,97,115,115],[116,114,105,118,105,97,108]))] else some [])))
def z1h1 (k:Nat):FE:=⟨(.ptr U19),1,U25,fun x=>zmo k x⟩
theorem z1h2 (k:Nat):z8 Tryz.prog 39 (z1h1 k):=okC zb (xTc (z1g9 k) (xTc (z1gd k) (xTc zqz (xTc (z1go k) (xTc (z1h0 k) xTn))))) xOn Tryz.f39 (LOn _) xLn (by rintro w0; kernel_rfl)
def zrb (k:Nat) (w0:zT3×Int×List Int×List Int×zT7×List Int×List Int×zT10×List Int) (part1:Int):Option (zT4×Int):=(zly k w0).bind fun r_1=>(if (!r_1) then some ([],1) else (if (decide (part1=1)) then (zmo k w0).bind fun r_2=>some (r_2,0) else (if (decide (part1=2)) then none else (if (decide (part1=3)) then none else none))))
def z1h3 (k:Nat):FE:=⟨(.pr (.ptr U19) U0),2,(.pr U25 U0),fun x=>zrb k x.1 x.2⟩
theorem z1h4 (k:Nat):z8 Tryz.prog 17 (z1h3 k):=okC zb (xTc (z1fz k) (xTc (z1h2 k) xTn)) xOn Tryz.f17 (LOn _) xLn (by rintro ⟨w0,part1⟩; kernel_rfl)
def zlr (k:Nat) (w0:zT3×Int×List Int×List Int×zT7×List Int×List Int×zT10×List Int):Option (zT4×Int):=(zrb k w0 1).bind fun r_1=>some (r_1.1,r_1.2)
def z1h5 (k:Nat):FE:=⟨U19,2,(.pr U25 U0),fun x=>zlr k x⟩
theorem z1f7 (k:Nat):z8 Tryz.prog 5 (z1h5 k):=okC zb (xTc (z1h4 k) xTn) xOn Tryz.f5 (LOn _) xLn (by rintro w0; kernel_rfl)
def zfa (k:Nat):Nat→zT1→Int→(Option Bool)→Option Bool
 | 0,_,_,_=>none
 | n+1,list0,k3,e_0=>(if (decide (k3<(List.length list0:Int))) then (if 0≤(z6 (k3-1)) then (list0[(z6 (k3-1)).toNat]?).bind fun y_1=>(if 0≤k3 then (list0[k3.toNat]?).bind fun y_2=>(if (decide (y_2≤y_1)) then some false else zfa k n list0 (z6 (k3+1)) e_0) else none) else none) else e_0)
def zmp (k:Nat) (list0:List Int):Option Bool:=zfa k k list0 1 (some true)
def z10v:Head:=⟨[],[],[]⟩
def z10w (k:Nat):LD Bool:=⟨2,⟨[(0,V1),(3,V0)],[],[]⟩,[(0,z10v)],fun n x kx=>zfa k n x.1.1 x.1.2.1 (kx 0 (z10v.fill ((),(),()))),k⟩
def z1h6 (k:Nat):FE:=⟨U5,1,.bool,fun x=>zmp k x⟩
theorem z1h7 (k:Nat):z8 Tryz.prog 198 (z1h6 k):=okC zb xTn xOn Tryz.f198 (orc (z10w k) (LOn _)) (xLo (z10w k) (by rintro n ⟨⟨list0,k3,⟨⟩⟩,⟨⟩,⟨⟩⟩ kx; kernel_rfl) xLn) (by rintro list0; kernel_rfl)
def z3z (n0:Int) (low1:Int) (high2:Int):Option Bool:=(if (decide (low1≤n0)) then some (decide (n0≤high2)) else some false)
def z1h8:FE:=⟨U32,1,.bool,fun x=>z3z x.1 x.2.1 x.2.2⟩
theorem z8t:z8 Tryz.prog 134 (z1h8):=okC zb xTn xOn Tryz.f134 (LOn _) xLn (by rintro ⟨n0,low1,high2⟩; kernel_rfl)
def zrc (v0:Int):Option Bool:=(z3z v0 0 9).bind fun r_1=>some r_1
def z1h9:FE:=⟨U0,1,.bool,fun x=>zrc x⟩
theorem z1ha:z8 Tryz.prog 200 (z1h9):=okC zb (xTc z8t xTn) xOn Tryz.f200 (LOn _) xLn (by rintro v0; kernel_rfl)
def zrd (v0:Int):Option Bool:=(zrc v0).bind fun r_1=>some (!r_1)
def z1hb:FE:=⟨U0,1,.bool,fun x=>zrd x⟩
theorem z1hc:z8 Tryz.prog 199 (z1hb):=okC zb (xTc z1ha xTn) xOn Tryz.f199 (LOn _) xLn (by rintro v0; kernel_rfl)
def zfb (k:Nat):Nat→zT1→Unit→Int→Int→(Option Int)→Option Int
 | 0,_,_,_,_,_=>none
 | n+1,s0,f1,x7,x8,e_0=>(if (decide (x8<x7)) then (if 0≤x8 then (s0[x8.toNat]?).bind fun y_1=>(zrd y_1).bind fun r_2=>(if r_2 then some x8 else zfb k n s0 f1 x7 (z6 (x8+1)) e_0) else none) else e_0)
def zre (k:Nat) (s0:List Int) (f1:Unit):Option Int:=zfb k k s0 f1 (List.length s0:Int) 0 (some (-1))
def z10x:Head:=⟨[],[],[]⟩
def z10y (k:Nat):LD Int:=⟨2,⟨[(0,V1),(1,(.val (.fn 199 .un))),(7,V0),(8,V0)],[],[]⟩,[(0,z10x)],fun n x kx=>zfb k n x.1.1 x.1.2.1 x.1.2.2.1 x.1.2.2.2.1 (kx 0 (z10x.fill ((),(),()))),k⟩
def z1hd (k:Nat):FE:=⟨(.pr U5 (.fn 199 .un)),1,U0,fun x=>zre k x.1 x.2⟩
theorem z1he (k:Nat):z8 Tryz.prog 150 (z1hd k):=okC zb (xTc z1hc xTn) xOn Tryz.f150 (orc (z10y k) (LOn _)) (xLo (z10y k) (by rintro n ⟨⟨s0,f1,x7,x8,⟨⟩⟩,⟨⟩,⟨⟩⟩ kx; kernel_rfl) xLn) (by rintro ⟨s0,f1⟩; kernel_rfl)
def zmq (k:Nat) (s0:List Int) (f1:Unit):Option Bool:=(zre k s0 f1).bind fun r_1=>some (decide (0≤r_1))
def z1hf (k:Nat):FE:=⟨(.pr U5 (.fn 199 .un)),1,.bool,fun x=>zmq k x.1 x.2⟩
theorem z1hg (k:Nat):z8 Tryz.prog 96 (z1hf k):=okC zb (xTc (z1he k) xTn) xOn Tryz.f96 (LOn _) xLn (by rintro ⟨s0,f1⟩; kernel_rfl)
def zmr (k:Nat) (s0:List Int):Option Bool:=(if (decide (1≤(List.length s0:Int))) then (if (decide ((List.length s0:Int)≤4)) then (zmp k s0).bind fun r_1=>(if r_1 then (zmq k s0 ()).bind fun r_2=>some (!r_2) else some false) else some false) else some false)
def z1hh (k:Nat):FE:=⟨U5,1,.bool,fun x=>zmr k x⟩
theorem z1hi (k:Nat):z8 Tryz.prog 174 (z1hh k):=okC zb (xTc (z1h7 k) (xTc (z1hg k) xTn)) xOn Tryz.f174 (LOn _) xLn (by rintro s0; kernel_rfl)
def zms (x0:Int):Option Bool:=some (!(decide (x0=x0)))
def z1hj:FE:=⟨U0,1,.bool,fun x=>zms x⟩
theorem z1hk:z8 Tryz.prog 213 (z1hj):=okC zb xTn xOn Tryz.f213 (LOn _) xLn (by rintro x0; kernel_rfl)
def zmt (x0:Int) (y1:Int):Option Int:=(zms x0).bind fun r_1=>(zms y1).bind fun r_2=>(if r_1 then (if r_2 then some 0 else some (-1)) else (if r_2 then some 1 else (if (decide (x0<y1)) then some (-1) else (if (decide (y1<x0)) then some 1 else some 0))))
def z1hl:FE:=⟨U20,1,U0,fun x=>zmt x.1 x.2⟩
theorem z1hm:z8 Tryz.prog 201 (z1hl):=okC zb (xTc z1hk xTn) xOn Tryz.f201 (LOn _) xLn (by rintro ⟨x0,y1⟩; kernel_rfl)
def zmu (x0:Int):Option Bool:=some (!(decide (x0=x0)))
def z1hn:FE:=⟨U0,1,.bool,fun x=>zmu x⟩
theorem z1ho:z8 Tryz.prog 181 (z1hn):=okC zb xTn xOn Tryz.f181 (LOn _) xLn (by rintro x0; kernel_rfl)
def za4 (x0:Int) (y1:Int):Option Int:=(zmu x0).bind fun r_1=>(zmu y1).bind fun r_2=>(if r_1 then (if r_2 then some 0 else some (-1)) else (if r_2 then some 1 else (if (decide (x0<y1)) then some (-1) else (if (decide (y1<x0)) then some 1 else some 0))))
def z1hp:FE:=⟨U20,1,U0,fun x=>za4 x.1 x.2⟩
theorem zrf:z8 Tryz.prog 137 (z1hp):=okC zb (xTc z1ho xTn) xOn Tryz.f137 (LOn _) xLn (by rintro ⟨x0,y1⟩; kernel_rfl)
def zfc (k:Nat):Nat→zT1→zT1→zT1→Int→Int→(zT1→zT1→Option Int)→Option Int
 | 0,_,_,_,_,_,_=>none
 | n+1,s10,s21,x9,x10,x11,e_0=>(if (decide (x11<x10)) then (if 0≤x11 then (x9[x11.toNat]?).bind fun y_1=>(if (decide ((List.length s21:Int)≤x11)) then some 1 else (if 0≤x11 then (s21[x11.toNat]?).bind fun y_2=>(za4 y_1 y_2).bind fun r_3=>(if (!(decide (r_3=0))) then some r_3 else zfc k n s10 s21 x9 x10 (z6 (x11+1)) e_0) else none)) else none) else e_0 s10 s21)
def zmv (k:Nat) (s10:List Int) (s21:List Int):Option Int:=zfc k k s10 s21 s10 (List.length s10:Int) 0 (fun s_4 s_5=>(if (decide ((List.length s_4:Int)<(List.length s_5:Int))) then some (-1) else some 0))
def z10z:Head:=⟨[(0,V1),(1,V1)],[],[]⟩
def z110 (k:Nat):LD Int:=⟨2,⟨[(0,V1),(1,V1),(9,V1),(10,V0),(11,V0)],[],[]⟩,[(0,z10z)],fun n x kx=>zfc k n x.1.1 x.1.2.1 x.1.2.2.1 x.1.2.2.2.1 x.1.2.2.2.2.1 (fun s10 s21=>kx 0 (z10z.fill ((s10,s21,()),(),()))),k⟩
def z1hq (k:Nat):FE:=⟨(.pr U5 U5),1,U0,fun x=>zmv k x.1 x.2⟩
theorem z1hr (k:Nat):z8 Tryz.prog 202 (z1hq k):=okC zb (xTc zrf xTn) xOn Tryz.f202 (orc (z110 k) (LOn _)) (xLo (z110 k) (by rintro n ⟨⟨s10,s21,x9,x10,x11,⟨⟩⟩,⟨⟩,⟨⟩⟩ kx; kernel_rfl) xLn) (by rintro ⟨s10,s21⟩; kernel_rfl)
def zc4 (k:Nat):Nat→Int→zT1→Int→Int→(Int→Option Int)→Option Int
 | 0,_,_,_,_,_=>none
 | n+1,zero3,x6,x7,x8,e_0=>(if (decide (x8<x7)) then (if 0≤x8 then (x6[x8.toNat]?).bind fun y_1=>(if (!(decide (y_1=zero3))) then some y_1 else zc4 k n zero3 x6 x7 (z6 (x8+1)) e_0) else none) else e_0 zero3)
def zhy (k:Nat) (vals0:List Int):Option Int:=zc4 k k 0 vals0 (List.length vals0:Int) 0 (fun zero_2=>some zero_2)
def z111:Head:=⟨[(3,V0)],[],[]⟩
def z112 (k:Nat):LD Int:=⟨3,⟨[(3,V0),(6,(.val (.sl 3 U0))),(7,V0),(8,V0)],[],[]⟩,[(0,z111)],fun n x kx=>zc4 k n x.1.1 x.1.2.1 x.1.2.2.1 x.1.2.2.2.1 (fun zero3=>kx 0 (z111.fill ((zero3,()),(),()))),k⟩
def z1hs (k:Nat):FE:=⟨(.sl 3 U0),1,U0,fun x=>zhy k x⟩
theorem zrg (k:Nat):z8 Tryz.prog 136 (z1hs k):=okC zb xTn xOn Tryz.f136 (orc (z112 k) (LOn _)) (xLo (z112 k) (by rintro n ⟨⟨zero3,x6,x7,x8,⟨⟩⟩,⟨⟩,⟨⟩⟩ kx; kernel_rfl) xLn) (by rintro vals0; kernel_rfl)
def zc5 (k:Nat) (a0:List Int) (b1:List Int):Option Int:=(zmt (List.length a0:Int) (List.length b1:Int)).bind fun r_1=>(zmv k a0 b1).bind fun r_2=>(zhy k [r_1,r_2]).bind fun r_3=>some r_3
def z1ht (k:Nat):FE:=⟨(.pr U5 U5),1,U0,fun x=>zc5 k x.1 x.2⟩
theorem z113 (k:Nat):z8 Tryz.prog 175 (z1ht k):=okC zb (xTc z1hm (xTc (z1hr k) (xTc (zrg k) xTn))) xOn Tryz.f175 (LOn _) xLn (by rintro ⟨a0,b1⟩; kernel_rfl)
def z114 (n1:Int) (q_1:List Int):Option ((Unit×Unit)×(List Int×Unit)×Unit):=if 0≤n1∧(List.length q_1+(n1).toNat)*8≤LIM then some (((),()),(q_1,()),()) else none
def oc_slices_Grow_int64_s:OC:=zki 2 U0 8
theorem z1hu:z1c Tryz.prog ti 204 oc_slices_Grow_int64_s :=
 z1bu (ρ:=(⟨fun n=>bif Nat.beq n 4 then 204 else n,fun n=>bif Nat.beq n 22 then 25 else bif Nat.beq n 25 then 2 else n,fun n=>n⟩:Go.Shelf.Ren)) zqy (e:=2) (t:=U0) (bytes:=8) { mixed:=mix,f4:=⟨Tryz.f204.name,by kernel_rfl,(Tryz.func204).trans (congrArg some (by kernel_rfl))⟩,t0:=Tryz.underlying0,a0:=Tryz.isAgg0,z0:=Tryz.sizeOf0,v0:=Tryz.zeroValue0,t3:=Tryz.underlying3,a3:=Tryz.isAgg3,z3:=Tryz.sizeOf3,v3:=Tryz.zeroValue3,t4:=Tryz.underlying4,a4:=Tryz.isAgg4,z4:=Tryz.sizeOf4,v4:=Tryz.zeroValue4,t9:=Tryz.underlying9,a9:=Tryz.isAgg9,z9:=Tryz.sizeOf9,v9:=Tryz.zeroValue9,t20:=Tryz.underlying20,a20:=Tryz.isAgg20,z20:=Tryz.sizeOf20,v20:=Tryz.zeroValue20,t22:=Tryz.underlying25,a22:=Tryz.isAgg25,z22:=Tryz.sizeOf25,v22:=Tryz.zeroValue25 } rfl (i:=(ti[2]?).getD ⟨.oth,.un,0⟩) (by kernel_rfl) (by kernel_rfl) (by kernel_rfl) (by kernel_rfl) (by kernel_rfl) (by kernel_rfl)
def zmw (k:Nat):Nat→zT8→Int→zT8→Int→Int→(zT8→Int→Option zT1)→Option zT1
 | 0,_,_,_,_,_,_=>none
 | n+1,slices0,size3,x9,x10,x11,e_0=>(if (decide (x11<x10)) then (if 0≤x11 then (x9[x11.toNat]?).bind fun y_1=>(if (decide ((z6 (size3+(List.length y_1:Int)))<0)) then none else zmw k n slices0 (z6 (size3+(List.length y_1:Int))) x9 x10 (z6 (x11+1)) e_0) else none) else e_0 slices0 size3)
def zmx (k:Nat):Nat→zT8→Int→Int→zT1→(zT1→Option zT1)→Option zT1
 | 0,_,_,_,_,_=>none
 | n+1,x25,x26,x27,q_5,e_2=>(if (decide (x27<x26)) then (if 0≤x27 then (x25[x27.toNat]?).bind fun y_6=>(if (q_5.length+y_6.length)*8≤LIM then zmx k n x25 x26 (z6 (x27+1)) (q_5++y_6) e_2 else none) else none) else e_2 q_5)
def zmy (k:Nat) (slices0:List zT1):Option zT1:=zmw k k slices0 0 slices0 (List.length slices0:Int) 0 (fun slices_2 size_3=>(z114 size_3 []).bind fun y_4=>zmx k k slices_2 (List.length slices_2:Int) 0 y_4.2.1.1 (fun q_7=>some q_7))
def z115:Head:=⟨[(0,V3),(3,V0)],[],[]⟩
def z116 (k:Nat):LD zT1:=⟨3,⟨[(0,V3),(3,V0),(9,V3),(10,V0),(11,V0)],[],[]⟩,[(0,z115)],fun n x kx=>zmw k n x.1.1 x.1.2.1 x.1.2.2.1 x.1.2.2.2.1 x.1.2.2.2.2.1 (fun slices0 size3=>kx 0 (z115.fill ((slices0,size3,()),(),()))),k⟩
def z117:Head:=⟨[(6,(.ref P0 []))],[(P0,2,U0,false)],[]⟩
def z118 (k:Nat):LD zT1:=⟨11,⟨[(6,(.ref P0 [])),(25,V3),(26,V0),(27,V0)],[(P0,2,U0,false)],[]⟩,[(2,z117)],fun n x kx=>zmx k n x.1.2.1 x.1.2.2.1 x.1.2.2.2.1 x.2.1.1 (fun q_7=>kx 2 (z117.fill (((),()),(q_7,()),()))),k⟩
def z1hv (k:Nat):FE:=⟨U15,1,U5,fun x=>zmy k x⟩
theorem z1hw (k:Nat):z8 Tryz.prog 183 (z1hv k):=okC zb xTn (xOc 24 z1hu xOn) Tryz.f183 (orc (z116 k) (orc (z118 k) (LOn _))) (xLo (z116 k) (by rintro n ⟨⟨slices0,size3,x9,x10,x11,⟨⟩⟩,⟨⟩,⟨⟩⟩ kx; kernel_rfl) (xLo (z118 k) (by rintro n ⟨⟨⟨⟩,x25,x26,x27,⟨⟩⟩,⟨q_5,⟨⟩⟩,⟨⟩⟩ kx; kernel_rfl) xLn)) (by rintro slices0; kernel_rfl)
def zc6 (k:Nat):Nat→zT1→Int→Int→zT8→(zT8→Option zT8)→Option zT8
 | 0,_,_,_,_,_=>none
 | n+1,s0,x6,x7,q_1,e_0=>(if (decide (x7<x6)) then (if (decide (1<(List.length s0:Int))) then (if 0≤(0:Int)∧(0:Int)≤x7∧x7≤s0.length then (if 0≤(z6 (x7+1))∧(z6 (x7+1))≤(s0.length:Int)∧(s0.length:Int)≤s0.length then (zmy k [(s0.take x7.toNat),((s0.drop ((z6 (x7+1)).toNat)).take (s0.length-(z6 (x7+1)).toNat))]).bind fun r_2=>(if (q_1.length+[r_2].length)*24≤LIM then zc6 k n s0 x6 (z6 (x7+1)) (q_1++[r_2]) e_0 else none) else none) else none) else zc6 k n s0 x6 (z6 (x7+1)) q_1 e_0) else e_0 q_1)
def zfd (k:Nat) (s0:List Int):Option zT8:=zc6 k k s0 (List.length s0:Int) 0 [] (fun q_3=>some q_3)
def z119:Head:=⟨[(3,(.ref P0 []))],[(P0,25,U5,false)],[]⟩
def z11a (k:Nat):LD zT8:=⟨3,⟨[(0,V1),(3,(.ref P0 [])),(6,V0),(7,V0)],[(P0,25,U5,false)],[]⟩,[(0,z119)],fun n x kx=>zc6 k n x.1.1 x.1.2.2.1 x.1.2.2.2.1 x.2.1.1 (fun q_3=>kx 0 (z119.fill (((),()),(q_3,()),()))),k⟩
def z1hx (k:Nat):FE:=⟨U5,1,U15,fun x=>zfd k x⟩
theorem z11b (k:Nat):z8 Tryz.prog 141 (z1hx k):=okC zb (xTc (z1hw k) xTn) xOn Tryz.f141 (orc (z11a k) (LOn _)) (xLo (z11a k) (by rintro n ⟨⟨s0,⟨⟩,x6,x7,⟨⟩⟩,⟨q_1,⟨⟩⟩,⟨⟩⟩ kx; kernel_rfl) xLn) (by rintro s0; kernel_rfl)
def za5 (k:Nat):Nat→zT8→zT1→Unit→Int→Int→Int→(zT8→zT1→Unit→Int→Int→Option (Int×Bool))→Option (Int×Bool)
 | 0,_,_,_,_,_,_,_=>none
 | n+1,x0,target1,cmp2,n8,i9,j10,e_0=>(if (decide (i9<j10)) then (if 0≤(z6 ((Int.fdiv (zbe ((z6 (i9+j10)))) (2 ^ 1)))) then (x0[(z6 ((Int.fdiv (zbe ((z6 (i9+j10)))) (2 ^ 1)))).toNat]?).bind fun y_1=>(zc5 k y_1 target1).bind fun r_2=>(if (decide (r_2<0)) then za5 k n x0 target1 cmp2 n8 (z6 ((z6 ((Int.fdiv (zbe ((z6 (i9+j10)))) (2 ^ 1))))+1)) j10 e_0 else za5 k n x0 target1 cmp2 n8 i9 (z6 ((Int.fdiv (zbe ((z6 (i9+j10)))) (2 ^ 1)))) e_0) else none) else e_0 x0 target1 cmp2 n8 i9)
def zrh (k:Nat) (x0:List zT1) (target1:List Int) (cmp2:Unit):Option (Int×Bool):=za5 k k x0 target1 cmp2 (List.length x0:Int) 0 (List.length x0:Int) (fun x_3 target_4 cmp_5 n_6 i_7=>(if (decide (i_7<n_6)) then (if 0≤i_7 then (x_3[i_7.toNat]?).bind fun y_8=>(zc5 k y_8 target_4).bind fun r_9=>some (i_7,(decide (r_9=0))) else none) else some (i_7,false)))
def z11c:Head:=⟨[(0,V3),(1,V1),(2,(.val (.fn 175 .un))),(8,V0),(9,V0)],[],[]⟩
def z11d (k:Nat):LD (Int×Bool):=⟨3,⟨[(0,V3),(1,V1),(2,(.val (.fn 175 .un))),(8,V0),(9,V0),(10,V0)],[],[]⟩,[(0,z11c)],fun n x kx=>za5 k n x.1.1 x.1.2.1 x.1.2.2.1 x.1.2.2.2.1 x.1.2.2.2.2.1 x.1.2.2.2.2.2.1 (fun x0 target1 cmp2 n8 i9=>kx 0 (z11c.fill ((x0,target1,cmp2,n8,i9,()),(),()))),k⟩
def z1hy (k:Nat):FE:=⟨(.pr U15 (.pr U5 (.fn 175 .un))),2,(.pr U0 .bool),fun x=>zrh k x.1 x.2.1 x.2.2⟩
theorem z1hz (k:Nat):z8 Tryz.prog 184 (z1hy k):=okC zb (xTc (z113 k) xTn) xOn Tryz.f184 (orc (z11d k) (LOn _)) (xLo (z11d k) (by rintro n ⟨⟨x0,target1,cmp2,n8,i9,j10,⟨⟩⟩,⟨⟩,⟨⟩⟩ kx; kernel_rfl) xLn) (by rintro ⟨x0,target1,cmp2⟩; kernel_rfl)
def zhz (k:Nat) (c0:List zT1) (s1:List Int):Option Int:=(zrh k c0 s1 ()).bind fun r_1=>(if (!r_1.2) then some (-1) else some r_1.1)
def z1i0 (k:Nat):FE:=⟨(.pr U7 U5),1,U0,fun x=>zhz k x.1 x.2⟩
theorem z11e (k:Nat):z8 Tryz.prog 142 (z1i0 k):=okC zb (xTc (z1hz k) xTn) xOn Tryz.f142 (LOn _) xLn (by rintro ⟨c0,s1⟩; kernel_rfl)
def zri (k:Nat) (f0:List Int) (x1:List zT1) (x2:Int):Option Bool:=(if 0≤(0:Int)∧(0:Int)≤x2∧x2≤x1.length then (zhz k (x1.take x2.toNat) f0).bind fun r_1=>some (decide (r_1<0)) else none)
def z1i1 (k:Nat):FE:=⟨(.pr U5 (.pr U24 (.ptr U0))),1,.bool,fun x=>zri k x.1 x.2.1 x.2.2⟩
theorem z1i2 (k:Nat):z8 Tryz.prog 177 (z1i1 k):=okC zb (xTc (z11e k) xTn) xOn Tryz.f177 (LOn _) xLn (by rintro ⟨f0,x1,x2⟩; kernel_rfl)
def zfe (k:Nat):Nat→zT8→(List zT1×Int)→Int→Int→(Option Int)→Option Int
 | 0,_,_,_,_,_=>none
 | n+1,s0,f1,x7,x8,e_0=>(if (decide (x8<x7)) then (if 0≤x8 then (s0[x8.toNat]?).bind fun y_1=>(zri k y_1 f1.1 f1.2).bind fun r_2=>(if r_2 then some x8 else zfe k n s0 f1 x7 (z6 (x8+1)) e_0) else none) else e_0)
def zrj (k:Nat) (s0:List zT1) (f1:List zT1×Int):Option Int:=zfe k k s0 f1 (List.length s0:Int) 0 (some (-1))
def z11f:Head:=⟨[],[],[]⟩
def z11g (k:Nat):LD Int:=⟨2,⟨[(0,V3),(1,(.val U30)),(7,V0),(8,V0)],[],[]⟩,[(0,z11f)],fun n x kx=>zfe k n x.1.1 x.1.2.1 x.1.2.2.1 x.1.2.2.2.1 (kx 0 (z11f.fill ((),(),()))),k⟩
def z1i3 (k:Nat):FE:=⟨(.pr U15 U30),1,U0,fun x=>zrj k x.1 x.2⟩
theorem z1i4 (k:Nat):z8 Tryz.prog 191 (z1i3 k):=okC zb (xTc (z1i2 k) xTn) xOn Tryz.f191 (orc (z11g k) (LOn _)) (xLo (z11g k) (by rintro n ⟨⟨s0,f1,x7,x8,⟨⟩⟩,⟨⟩,⟨⟩⟩ kx; kernel_rfl) xLn) (by rintro ⟨s0,f1⟩; kernel_rfl)
def zi0 (k:Nat) (s0:List zT1) (f1:List zT1×Int):Option Bool:=(zrj k s0 f1).bind fun r_1=>some (decide (0≤r_1))
def z1i5 (k:Nat):FE:=⟨(.pr U15 U30),1,.bool,fun x=>zi0 k x.1 x.2⟩
theorem z1i6 (k:Nat):z8 Tryz.prog 176 (z1i5 k):=okC zb (xTc (z1i4 k) xTn) xOn Tryz.f176 (LOn _) xLn (by rintro ⟨s0,f1⟩; kernel_rfl)
def zc7 (k:Nat):Nat→zT8→Int→Int→zT8→(zT8→Option Bool)→Option Bool
 | 0,_,_,_,_,_=>none
 | n+1,x6,x7,x8,v_1,e_0=>(if (decide (x8<x7)) then (if 0≤x8 then (x6[x8.toNat]?).bind fun y_1=>(zmr k y_1).bind fun r_2=>(if (!r_2) then some false else (if (decide (0<x8)) then (if 0≤(z6 (x8-1)) then (v_1[(z6 (x8-1)).toNat]?).bind fun y_3=>(zc5 k y_3 y_1).bind fun r_4=>(if (decide (0≤r_4)) then some false else (zfd k y_1).bind fun r_5=>(zi0 k r_5 (v_1,x8)).bind fun r_6=>(if r_6 then some false else zc7 k n x6 x7 (z6 (x8+1)) v_1 e_0)) else none) else (zfd k y_1).bind fun r_7=>(zi0 k r_7 (v_1,x8)).bind fun r_8=>(if r_8 then some false else zc7 k n x6 x7 (z6 (x8+1)) v_1 e_0))) else none) else e_0 v_1)
def zmz (k:Nat) (c0:List zT1):Option Bool:=zc7 k k c0 (List.length c0:Int) 0 c0 (fun v_9=>some (decide ((List.length v_9:Int)≤48)))
def z11h:Head:=⟨[(1,(.bp 1 [] 0))],[],[(1,41,V8)]⟩
def z11i (k:Nat):LD Bool:=⟨2,⟨[(1,(.bp 1 [] 0)),(6,V3),(7,V0),(8,V0)],[],[(1,41,V8)]⟩,[(0,z11h)],fun n x kx=>zc7 k n x.1.2.1 x.1.2.2.1 x.1.2.2.2.1 x.2.2.1 (fun v_1=>kx 0 (z11h.fill (((),()),(),(v_1,())))),k⟩
def z1i7 (k:Nat):FE:=⟨U7,1,.bool,fun x=>zmz k x⟩
theorem z1i8 (k:Nat):z8 Tryz.prog 129 (z1i7 k):=okC zb (xTc (z1hi k) (xTc (z113 k) (xTc (z11b k) (xTc (z1i6 k) xTn)))) xOn Tryz.f129 (orc (z11i k) (LOn _)) (xLo (z11i k) (by rintro n ⟨⟨⟨⟩,x6,x7,x8,⟨⟩⟩,⟨⟩,⟨v_1,⟨⟩⟩⟩ kx; kernel_rfl) xLn) (by rintro c0; kernel_rfl)
def z8u (k:Nat):Nat→Int→Int→(Option Bool)→Option Bool
 | 0,_,_,_=>none
 | n+1,p0,d3,e_0=>(if (decide ((z6 (d3*d3))≤p0)) then (if d3=0 then none else (if (decide ((Int.tmod p0 d3)=0)) then some false else z8u k n p0 (z6 (d3+1)) e_0)) else e_0)
def zff (k:Nat) (p0:Int):Option Bool:=(z3z p0 2 251).bind fun r_1=>(if (!r_1) then some false else z8u k k p0 2 (some true))
def z11j:Head:=⟨[],[],[]⟩
def z11k (k:Nat):LD Bool:=⟨4,⟨[(0,V0),(3,V0)],[],[]⟩,[(0,z11j)],fun n x kx=>z8u k n x.1.1 x.1.2.1 (kx 0 (z11j.fill ((),(),()))),k⟩
def z1i9 (k:Nat):FE:=⟨U0,1,.bool,fun x=>zff k x⟩
theorem z11l (k:Nat):z8 Tryz.prog 130 (z1i9 k):=okC zb (xTc z8t xTn) xOn Tryz.f130 (orc (z11k k) (LOn _)) (xLo (z11k k) (by rintro n ⟨⟨p0,d3,⟨⟩⟩,⟨⟩,⟨⟩⟩ kx; kernel_rfl) xLn) (by rintro p0; kernel_rfl)
def zrk (n0:Int):Option Bool:=(z3z n0 0 3).bind fun r_1=>some (!r_1)
def z1ia:FE:=⟨U0,1,.bool,fun x=>zrk x⟩
theorem z1ib:z8 Tryz.prog 178 (z1ia):=okC zb (xTc z8t xTn) xOn Tryz.f178 (LOn _) xLn (by rintro n0; kernel_rfl)
def zfg (k:Nat):Nat→zT1→Unit→Int→Int→(Option Int)→Option Int
 | 0,_,_,_,_,_=>none
 | n+1,s0,f1,x7,x8,e_0=>(if (decide (x8<x7)) then (if 0≤x8 then (s0[x8.toNat]?).bind fun y_1=>(zrk y_1).bind fun r_2=>(if r_2 then some x8 else zfg k n s0 f1 x7 (z6 (x8+1)) e_0) else none) else e_0)
def zrl (k:Nat) (s0:List Int) (f1:Unit):Option Int:=zfg k k s0 f1 (List.length s0:Int) 0 (some (-1))
def z11m:Head:=⟨[],[],[]⟩
def z11n (k:Nat):LD Int:=⟨2,⟨[(0,V1),(1,(.val (.fn 178 .un))),(7,V0),(8,V0)],[],[]⟩,[(0,z11m)],fun n x kx=>zfg k n x.1.1 x.1.2.1 x.1.2.2.1 x.1.2.2.2.1 (kx 0 (z11m.fill ((),(),()))),k⟩
def z1ic (k:Nat):FE:=⟨(.pr U5 (.fn 178 .un)),1,U0,fun x=>zrl k x.1 x.2⟩
theorem z1id (k:Nat):z8 Tryz.prog 150 (z1ic k):=okC zb (xTc z1ib xTn) xOn Tryz.f150 (orc (z11n k) (LOn _)) (xLo (z11n k) (by rintro n ⟨⟨s0,f1,x7,x8,⟨⟩⟩,⟨⟩,⟨⟩⟩ kx; kernel_rfl) xLn) (by rintro ⟨s0,f1⟩; kernel_rfl)
def zn0 (k:Nat) (s0:List Int) (f1:Unit):Option Bool:=(zrl k s0 f1).bind fun r_1=>some (decide (0≤r_1))
def z1ie (k:Nat):FE:=⟨(.pr U5 (.fn 178 .un)),1,.bool,fun x=>zn0 k x.1 x.2⟩
theorem z1if (k:Nat):z8 Tryz.prog 96 (z1ie k):=okC zb (xTc (z1id k) xTn) xOn Tryz.f96 (LOn _) xLn (by rintro ⟨s0,f1⟩; kernel_rfl)
def z7m (list0:List Int):Option Int:=some (List.length list0:Int)
def z1ig:FE:=⟨U5,1,U0,fun x=>z7m x⟩
theorem zi1:z8 Tryz.prog 138 (z1ig):=okC zb xTn xOn Tryz.f138 (LOn _) xLn (by rintro list0; kernel_rfl)
def zc8 (k:Nat):Nat→Int→zT8→Int→Int→zT1→(zT1→Option zT1)→Option zT1
 | 0,_,_,_,_,_,_=>none
 | n+1,dimension1,x9,x10,x11,q_1,e_0=>(if (decide (x11<x10)) then (if 0≤x11 then (x9[x11.toNat]?).bind fun y_2=>(z7m y_2).bind fun r_3=>(if (decide (r_3=(z6 (dimension1+1)))) then (if (q_1.length+[x11].length)*8≤LIM then zc8 k n dimension1 x9 x10 (z6 (x11+1)) (q_1++[x11]) e_0 else none) else zc8 k n dimension1 x9 x10 (z6 (x11+1)) q_1 e_0) else none) else e_0 q_1)
def zfh (k:Nat) (c0:List zT1) (dimension1:Int):Option zT1:=zc8 k k dimension1 c0 (List.length c0:Int) 0 [] (fun q_4=>some q_4)
def z11o:Head:=⟨[(5,(.ref P0 []))],[(P0,2,U0,false)],[]⟩
def z11p (k:Nat):LD zT1:=⟨3,⟨[(1,V0),(5,(.ref P0 [])),(9,V3),(10,V0),(11,V0)],[(P0,2,U0,false)],[]⟩,[(0,z11o)],fun n x kx=>zc8 k n x.1.1 x.1.2.2.1 x.1.2.2.2.1 x.1.2.2.2.2.1 x.2.1.1 (fun q_4=>kx 0 (z11o.fill (((),()),(q_4,()),()))),k⟩
def z1ih (k:Nat):FE:=⟨(.pr U7 U0),1,U5,fun x=>zfh k x.1 x.2⟩
theorem zrm (k:Nat):z8 Tryz.prog 140 (z1ih k):=okC zb (xTc zi1 xTn) xOn Tryz.f140 (orc (z11p k) (LOn _)) (xLo (z11p k) (by rintro n ⟨⟨dimension1,⟨⟩,x9,x10,x11,⟨⟩⟩,⟨q_1,⟨⟩⟩,⟨⟩⟩ kx; kernel_rfl) xLn) (by rintro ⟨c0,dimension1⟩; kernel_rfl)
end
end Go.Proofs.YtchfjdcfhlhgcaaGreatDoor.Ev
