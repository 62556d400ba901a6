/- Functions of the program, as plain ones. No conditions. -/
import Derived.Test.YtjbnebolfnjneaaGreatDoorG3
import Derived.KernelRfl
set_option linter.unusedVariables false
set_option maxRecDepth 100000
namespace Go.Proofs.YtjbnebolfnjneaaGreatDoor.Ev
open Go.RowKit
noncomputable section
def za2 (k:Nat):Nat→zT6→zT6→Int→Int→(zT6→Option Bool)→Option Bool
 | 0,_,_,_,_,_=>none
 | n+1,list0,x5,x6,x7,e_0=>(if (decide (x7<x6)) then (if 0≤x7 then (x5[x7.toNat]?).bind fun y_1=>(zc2 k y_1).bind fun r_2=>(if (!r_2) then some false else (if (decide (0<x7)) then (if 0≤(z7 (x7-1)) then (list0[(z7 (x7-1)).toNat]?).bind fun y_3=>(zc3 k y_3 y_1).bind fun r_4=>(if (decide (0≤r_4)) then some false else za2 k n list0 x5 x6 (z7 (x7+1)) e_0) else none) else za2 k n list0 x5 x6 (z7 (x7+1)) e_0)) else none) else e_0 list0)
def zha (k:Nat) (list0:List zT0):Option Bool:=za2 k k list0 list0 (List.length list0:Int) 0 (fun list_5=>some (decide ((List.length list_5:Int)≤32)))
def zrm:Head:=⟨[(0,V5)],[],[]⟩
def zrn (k:Nat):LD Bool:=⟨2,⟨[(0,V5),(5,V5),(6,V0),(7,V0)],[],[]⟩,[(0,zrm)],fun n x kx=>za2 k n x.1.1 x.1.2.1 x.1.2.2.1 x.1.2.2.2.1 (fun list0=>kx 0 (zrm.fill ((list0,()),(),()))),k⟩
def z13e (k:Nat):FE:=⟨U5,1,.bool,fun x=>zha k x⟩
theorem z13f (k:Nat):zc Tryz.prog 36 (z13e k):=okC zh (xTc (zkf k) (xTc (zrl k) xTn)) xOn Tryz.f36 (orc (zrn k) (LOn _)) (xLo (zrn k) (by rintro n ⟨⟨list0,x5,x6,x7,⟨⟩⟩,⟨⟩,⟨⟩⟩ kx; kernel_rfl) xLn) (by rintro list0; kernel_rfl)
def zhb (s0:List zT0):Option zT6:=(if List.isEmpty s0 then zch (some []) ((if (([]:List Unit).length+s0.length)*48≤LIM then some s0 else none)) else (if (([]:List Unit).length+s0.length)*48≤LIM then some s0 else none))
def z13g:FE:=⟨U5,1,U5,fun x=>zhb x⟩
theorem z13h:zc Tryz.prog 61 (z13g):=okC zh xTn xOn Tryz.f61 (LOn _) xLn (by rintro s0; kernel_rfl)
def z7o (k:Nat):Nat→zT6→Unit→Int→Int→Int→zT0→(zT6→Unit→Int→Int→zT0→Option (Int×Bool))→Option (Int×Bool)
 | 0,_,_,_,_,_,_,_=>none
 | n+1,x0,cmp2,n8,i9,j10,v_4,e_0=>(if (decide (i9<j10)) then (if 0≤(z7 ((Int.fdiv (z1a ((z7 (i9+j10)))) (2 ^ 1)))) then (x0[(z7 ((Int.fdiv (z1a ((z7 (i9+j10)))) (2 ^ 1)))).toNat]?).bind fun y_1=>(zc3 k y_1 v_4).bind fun r_2=>(if (decide (r_2<0)) then z7o k n x0 cmp2 n8 (z7 ((z7 ((Int.fdiv (z1a ((z7 (i9+j10)))) (2 ^ 1))))+1)) j10 v_4 e_0 else z7o k n x0 cmp2 n8 i9 (z7 ((Int.fdiv (z1a ((z7 (i9+j10)))) (2 ^ 1)))) v_4 e_0) else none) else e_0 x0 cmp2 n8 i9 v_4)
def zki (k:Nat) (x0:List zT0) (target1:List UInt8×List UInt8×List UInt8) (cmp2:Unit):Option (Int×Bool):=z7o k k x0 cmp2 (List.length x0:Int) 0 (List.length x0:Int) target1 (fun x_3 cmp_4 n_5 i_6 v_7=>(if (decide (i_6<n_5)) then (if 0≤i_6 then (x_3[i_6.toNat]?).bind fun y_8=>(zc3 k y_8 v_7).bind fun r_9=>some (i_6,(decide (r_9=0))) else none) else some (i_6,false)))
def zro:Head:=⟨[(0,V5),(2,(.val (.fn 60 .un))),(4,(.bp 4 [] 0)),(8,V0),(9,V0)],[],[(4,43,(.val U1))]⟩
def zrp (k:Nat):LD (Int×Bool):=⟨3,⟨[(0,V5),(2,(.val (.fn 60 .un))),(4,(.bp 4 [] 0)),(8,V0),(9,V0),(10,V0)],[],[(4,43,(.val U1))]⟩,[(0,zro)],fun n x kx=>z7o k n x.1.1 x.1.2.1 x.1.2.2.2.1 x.1.2.2.2.2.1 x.1.2.2.2.2.2.1 x.2.2.1 (fun x0 cmp2 n8 i9 v_4=>kx 0 (zro.fill ((x0,cmp2,(),n8,i9,()),(),(v_4,())))),k⟩
def z13i (k:Nat):FE:=⟨(.pr U5 (.pr U1 (.fn 60 .un))),2,(.pr U0 .bool),fun x=>zki k x.1 x.2.1 x.2.2⟩
theorem z13j (k:Nat):zc Tryz.prog 82 (z13i k):=okC zh (xTc (zrl k) xTn) xOn Tryz.f82 (orc (zrp k) (LOn _)) (xLo (zrp k) (by rintro n ⟨⟨x0,cmp2,⟨⟩,n8,i9,j10,⟨⟩⟩,⟨⟩,⟨v_4,⟨⟩⟩⟩ kx; kernel_rfl) xLn) (by rintro ⟨x0,target1,cmp2⟩; kernel_rfl)
def zhc (k:Nat) (list0:List zT0) (b1:List UInt8×List UInt8×List UInt8):Option (Int×Bool):=(zki k list0 b1 ()).bind fun r_1=>some (r_1.1,r_1.2)
def z13k (k:Nat):FE:=⟨(.pr U5 U1),2,(.pr U0 .bool),fun x=>zhc k x.1 x.2⟩
theorem z13l (k:Nat):zc Tryz.prog 62 (z13k k):=okC zh (xTc (z13j k) xTn) xOn Tryz.f62 (LOn _) xLn (by rintro ⟨list0,b1⟩; kernel_rfl)
def zrq (i1:Int) (q_1 q_2:List zT0):Option ((Unit×Unit)×(List zT0×Unit)×Unit):=if 0≤i1∧i1≤(List.length q_1:Int)∧0<List.length q_2∧(List.length q_1+List.length q_2)*48≤LIM then some (((),()),(List.take i1.toNat q_1++q_2++List.drop i1.toNat q_1,()),()) else none
def oc_slices_Insert_impl_Block_s:OC:=zgh 43 U1 48
theorem z13m:z17 Tryz.prog ti 63 oc_slices_Insert_impl_Block_s :=
 zzy (ρ:=(⟨fun n=>bif Nat.beq n 22 then 63 else bif Nat.beq n 29 then 83 else bif Nat.beq n 30 then 84 else n,fun n=>bif Nat.beq n 24 then 24 else bif Nat.beq n 3 then 3 else bif Nat.beq n 4 then 4 else bif Nat.beq n 9 then 43 else bif Nat.beq n 0 then 0 else n,fun n=>n⟩:Go.Shelf.Ren)) zgi (e:=43) (t:=U1) (bytes:=48) ⟨Tryz.f63.name,by kernel_rfl,(Tryz.func63).trans (congrArg some (by kernel_rfl))⟩ (fun vs w=>Go.run_callFunc_extern (Tryz.func83) (by kernel_rfl) (by kernel_rfl) (by kernel_rfl) (e:=Go.Extern.SlicesOverlaps.overlaps #[24,24] #[4]) (by kernel_rfl) vs w) mix Tryz.underlying3 Tryz.underlying4 Tryz.underlying24 (i:=(ti[43]?).getD ⟨.oth,.un,0⟩) (by kernel_rfl) (by kernel_rfl) (by kernel_rfl) (by kernel_rfl) (by kernel_rfl) (by kernel_rfl)
def zhd (k:Nat) (list0:List zT0) (b1:List UInt8×List UInt8×List UInt8):Option zT6:=(zhb list0).bind fun r_1=>(zhc k r_1 b1).bind fun r_2=>(if r_2.2 then (if 0≤r_2.1∧r_2.1.toNat<List.length r_1 then (r_1[r_2.1.toNat]?).bind fun y_3=>(r_1[r_2.1.toNat]?).bind fun y_4=>some (r_1.set r_2.1.toNat b1) else none) else (zrq r_2.1 r_1 [b1]).bind fun y_5=>some y_5.2.1.1)
def z13n (k:Nat):FE:=⟨(.pr U5 U1),1,U5,fun x=>zhd k x.1 x.2⟩
theorem z13o (k:Nat):zc Tryz.prog 37 (z13n k):=okC zh (xTc z13h (xTc (z13l k) xTn)) (xOc 26 z13m xOn) Tryz.f37 (LOn _) xLn (by rintro ⟨list0,b1⟩; kernel_rfl)
def zhe (k:Nat) (list0:List zT0) (b1:List UInt8×List UInt8×List UInt8):Option (zT6×Int):=(zha k list0).bind fun r_1=>(if (!r_1) then some ([],1) else (zc2 k b1).bind fun r_2=>(if (!r_2) then some ([],1) else (zhd k list0 b1).bind fun r_3=>(if (decide (32<(List.length r_3:Int))) then some ([],5) else some (r_3,0))))
def z13p (k:Nat):FE:=⟨(.pr U5 U1),2,(.pr U5 U0),fun x=>zhe k x.1 x.2⟩
theorem z13q (k:Nat):zc Tryz.prog 20 (z13p k):=okC zh (xTc (z13f k) (xTc (zkf k) (xTc (z13o k) xTn))) xOn Tryz.f20 (LOn _) xLn (by rintro ⟨list0,b1⟩; kernel_rfl)
def z6b (k:Nat):Nat→Int→Int→zT6→zT12→(zT6→Option zT6)→Option zT6
 | 0,_,_,_,_,_=>none
 | n+1,x18,x19,q_2,q_3,e_0=>(if (decide (x19<x18)) then (if 0≤x19∧x19.toNat<List.length q_3 then (q_3[x19.toNat]?).bind fun y_4=>(zdz k y_4).bind fun r_5=>(if (decide (x19=0)) then z6b k n x18 (z7 (x19+1)) q_2 q_3 e_0 else (if (!(decide (r_5.2=0))) then z6b k n x18 (z7 (x19+1)) q_2 q_3 e_0 else (zhe k q_2 r_5.1).bind fun r_6=>(if (decide (r_6.2=0)) then z6b k n x18 (z7 (x19+1)) r_6.1 q_3 e_0 else z6b k n x18 (z7 (x19+1)) q_2 q_3 e_0))) else none) else e_0 q_2)
def ze2 (k:Nat) (s0:List UInt8):Option zT6:=(zdu k s0).bind fun r_1=>z6b k k (List.length r_1.1:Int) 0 [] r_1.1 (fun q_7=>some q_7)
def zrr:Head:=⟨[(5,(.ref P0 []))],[(P0,43,U1,false)],[]⟩
def zrs (k:Nat):LD zT6:=⟨4,⟨[(5,(.ref P0 [])),(17,(.ref P1 [])),(18,V0),(19,V0)],[(P0,43,U1,false),(P1,9,.str,false)],[]⟩,[(0,zrr)],fun n x kx=>z6b k n x.1.2.2.1 x.1.2.2.2.1 x.2.1.1 x.2.1.2.1 (fun q_7=>kx 0 (zrr.fill (((),()),(q_7,()),()))),k⟩
def z13r (k:Nat):FE:=⟨.str,1,U5,fun x=>ze2 k x⟩
theorem z13s (k:Nat):zc Tryz.prog 10 (z13r k):=okC zh (xTc (zr5 k) (xTc (zrg k) (xTc (z13q k) xTn))) xOn Tryz.f10 (orc (zrs k) (LOn _)) (xLo (zrs k) (by rintro n ⟨⟨⟨⟩,⟨⟩,x18,x19,⟨⟩⟩,⟨q_2,q_3,⟨⟩⟩,⟨⟩⟩ kx; kernel_rfl) xLn) (by rintro s0; kernel_rfl)
def zc4 (k:Nat):Nat→zT2→zT2→Int→(Option Bool)→Option Bool
 | 0,_,_,_,_=>none
 | n+1,a0,b1,i5,e_0=>(if (decide (i5<(List.length a0:Int))) then (if 0≤i5 then (a0[i5.toNat]?).bind fun y_1=>(if 0≤i5 then (b1[i5.toNat]?).bind fun y_2=>(if (!(decide (y_1=y_2))) then some false else zc4 k n a0 b1 (z7 (i5+1)) e_0) else none) else none) else e_0)
def zhf (k:Nat) (a0:List Int) (b1:List Int):Option Bool:=(if (!(decide ((List.length a0:Int)=(List.length b1:Int)))) then some false else zc4 k k a0 b1 0 (some true))
def zrt:Head:=⟨[],[],[]⟩
def zru (k:Nat):LD Bool:=⟨4,⟨[(0,V4),(1,V4),(5,V0)],[],[]⟩,[(0,zrt)],fun n x kx=>zc4 k n x.1.1 x.1.2.1 x.1.2.2.1 (kx 0 (zrt.fill ((),(),()))),k⟩
def z13t (k:Nat):FE:=⟨(.pr U3 U3),1,.bool,fun x=>zhf k x.1 x.2⟩
theorem z13u (k:Nat):zc Tryz.prog 11 (z13t k):=okC zh xTn xOn Tryz.f11 (orc (zru k) (LOn _)) (xLo (zru k) (by rintro n ⟨⟨a0,b1,i5,⟨⟩⟩,⟨⟩,⟨⟩⟩ kx; kernel_rfl) xLn) (by rintro ⟨a0,b1⟩; kernel_rfl)
def zc5 (k:Nat):Nat→zT6→zT6→Int→(Option Bool)→Option Bool
 | 0,_,_,_,_=>none
 | n+1,a0,b1,i5,e_0=>(if (decide (i5<(List.length a0:Int))) then (if 0≤i5 then (a0[i5.toNat]?).bind fun y_1=>(if 0≤i5 then (b1[i5.toNat]?).bind fun y_2=>(if (!(decide (y_1=y_2))) then some false else zc5 k n a0 b1 (z7 (i5+1)) e_0) else none) else none) else e_0)
def zhg (k:Nat) (a0:List zT0) (b1:List zT0):Option Bool:=(if (!(decide ((List.length a0:Int)=(List.length b1:Int)))) then some false else zc5 k k a0 b1 0 (some true))
def zrv:Head:=⟨[],[],[]⟩
def zrw (k:Nat):LD Bool:=⟨4,⟨[(0,V5),(1,V5),(5,V0)],[],[]⟩,[(0,zrv)],fun n x kx=>zc5 k n x.1.1 x.1.2.1 x.1.2.2.1 (kx 0 (zrv.fill ((),(),()))),k⟩
def z13v (k:Nat):FE:=⟨(.pr U5 U5),1,.bool,fun x=>zhg k x.1 x.2⟩
theorem z13w (k:Nat):zc Tryz.prog 21 (z13v k):=okC zh xTn xOn Tryz.f21 (orc (zrw k) (LOn _)) (xLo (zrw k) (by rintro n ⟨⟨a0,b1,i5,⟨⟩⟩,⟨⟩,⟨⟩⟩ kx; kernel_rfl) xLn) (by rintro ⟨a0,b1⟩; kernel_rfl)
def zkj (k:Nat) (a0:List zT0) (b1:List zT0):Option Bool:=(zhg k a0 b1).bind fun r_1=>some r_1
def z13x (k:Nat):FE:=⟨(.pr U5 U5),1,.bool,fun x=>zkj k x.1 x.2⟩
theorem z13y (k:Nat):zc Tryz.prog 12 (z13x k):=okC zh (xTc (z13w k) xTn) xOn Tryz.f12 (LOn _) xLn (by rintro ⟨a0,b1⟩; kernel_rfl)
def z8r (k:Nat):Nat→zT4→Int→Int→Int→Int→zT6→zT2→(Int→Int→Int→zT6→zT2→Option Bool)→Option Bool
 | 0,_,_,_,_,_,_,_,_=>none
 | n+1,own6,at9,old10,line11,i12,q_10,q_11,e_0=>(if (decide (i12<at9)) then (if 0≤i12 then (own6[i12.toNat]?).bind fun b_12=>(if (decide ((z_u8 b_12)=10)) then z8r k n own6 at9 old10 (z7 (line11+1)) (z7 (i12+1)) q_10 q_11 e_0 else z8r k n own6 at9 old10 line11 (z7 (i12+1)) q_10 q_11 e_0) else none) else e_0 at9 old10 line11 q_10 q_11)
def zhh (k:Nat) (code0:List Int) (more1:List Int):Option Bool:=(zdl code0 more1).bind fun r_1=>(if r_1 then some true else (zgw k code0).bind fun r_2=>(zh1 k r_2).bind fun r_3=>(if r_3.1.length≤LIM then (zh2 more1 0 (List.length (z16 r_3.1):Int)).bind fun r_4=>(if 0≤r_4∧r_4.toNat<List.length (z16 r_3.1) then ((z16 r_3.1)[r_4.toNat]?).bind fun y_5=>(if 0≤r_4∧r_4.toNat<List.length (z16 r_3.1) then ((z16 r_3.1)[r_4.toNat]?).bind fun y_6=>(zc1 more1 2 255).bind fun r_7=>(if 0≤r_4∧r_4.toNat<List.length (z16 r_3.1) then ((z16 r_3.1)[r_4.toNat]?).bind fun y_8=>((z16 r_3.1)[r_4.toNat]?).bind fun y_9=>z8r k k r_3.1 r_4 y_5 1 0 r_2 ((z16 r_3.1).set r_4.toNat (z6r .u8 y_6 (z4o ((z7 (1+r_7)))))) (fun at_13 old_14 line_15 q_16 q_17=>(if (decide (old_14=10)) then some true else (if 0≤at_13∧at_13.toNat<List.length q_17 then (q_17[at_13.toNat]?).bind fun y_18=>(if (decide (y_18=10)) then some true else (if (decide (line_15=1)) then some true else (ze0 k (z2c q_17)).bind fun r_19=>(ze2 k (z2c q_17)).bind fun r_20=>(zhf k r_19 [line_15]).bind fun r_21=>(if (!r_21) then some false else (if 0≤(0:Int)∧(0:Int)≤(z7 (line_15-2))∧(z7 (line_15-2))≤q_16.length then (if 0≤(z7 (line_15-1))∧(z7 (line_15-1))≤(q_16.length:Int)∧(q_16.length:Int)≤q_16.length then (if (([]:List Unit).length+(q_16.take ((z7 (line_15-2)).toNat)).length)*48≤LIM then (if ((q_16.take ((z7 (line_15-2)).toNat)).length+((q_16.drop ((z7 (line_15-1)).toNat)).take (q_16.length-(z7 (line_15-1)).toNat)).length)*48≤LIM then (zkj k r_20 ((q_16.take ((z7 (line_15-2)).toNat))++((q_16.drop ((z7 (line_15-1)).toNat)).take (q_16.length-(z7 (line_15-1)).toNat)))).bind fun r_22=>some r_22 else none) else none) else none) else none)))) else none))) else none) else none) else none) else none))
def zrx:Head:=⟨[(5,(.ref P0 [])),(8,(.ref P1 [])),(9,V0),(10,(.val U6)),(11,V0)],[(P0,43,U1,false),(P1,5,U6,true)],[]⟩
def zry (k:Nat):LD Bool:=⟨11,⟨[(5,(.ref P0 [])),(6,V3),(8,(.ref P1 [])),(9,V0),(10,(.val U6)),(11,V0),(12,V0)],[(P0,43,U1,false),(P1,5,U6,true)],[]⟩,[(0,zrx)],fun n x kx=>z8r k n x.1.2.1 x.1.2.2.2.1 x.1.2.2.2.2.1 x.1.2.2.2.2.2.1 x.1.2.2.2.2.2.2.1 x.2.1.1 x.2.1.2.1 (fun at9 old10 line11 q_13 q_14=>kx 0 (zrx.fill (((),(),at9,old10,line11,()),(q_13,q_14,()),()))),k⟩
def z13z (k:Nat):FE:=⟨(.pr U2 U2),1,.bool,fun x=>zhh k x.1 x.2⟩
theorem z140 (k:Nat):zc Tryz.prog 3 (z13z k):=okC zh (xTc z108 (xTc (z11u k) (xTc (z124 k) (xTc z128 (xTc zqz (xTc (z136 k) (xTc (z13s k) (xTc (z13u k) (xTc (z13y k) xTn))))))))) xOn Tryz.f3 (orc (zry k) (LOn _)) (xLo (zry k) (by rintro n ⟨⟨⟨⟩,own6,⟨⟩,at9,old10,line11,i12,⟨⟩⟩,⟨q_10,q_11,⟨⟩⟩,⟨⟩⟩ kx; kernel_rfl) xLn) (by rintro ⟨code0,more1⟩; kernel_rfl)
end
end Go.Proofs.YtjbnebolfnjneaaGreatDoor.Ev
