/- Functions of the program, as plain ones. No conditions. -/
import Derived.Test.YteiflkhpafhhkaaGreatDoorG0
import Derived.KernelRfl
set_option linter.unusedVariables false
set_option maxRecDepth 100000
namespace Go.Proofs.YteiflkhpafhhkaaGreatDoor.Ev
open Go.RowKit
noncomputable section
def z8v (k:Nat):Nat→zT1→Int→Int→Int→zT4→(zT1→Int→zT4→Option zT4)→Option zT4
 | 0,_,_,_,_,_,_=>none
 | n+1,s0,by1,from6,i7,q_1,e_0=>(if (decide (i7<(List.length s0:Int))) then (if 0≤i7 then (s0[i7.toNat]?).bind fun b_2=>(if (decide ((z_u8 b_2)=by1)) then (if 0≤from6∧from6≤i7∧i7≤s0.length then (if (q_1.length+[((s0.drop from6.toNat).take (i7.toNat-from6.toNat))].length)*16≤LIM then z8v k n s0 by1 (z7 (i7+1)) (z7 (i7+1)) (q_1++[((s0.drop from6.toNat).take (i7.toNat-from6.toNat))]) e_0 else none) else none) else z8v k n s0 by1 from6 (z7 (i7+1)) q_1 e_0) else none) else e_0 s0 from6 q_1)
def zc7 (k:Nat) (s0:List UInt8) (by1:Int):Option zT4:=z8v k k s0 by1 0 0 [] (fun s_3 from_4 q_5=>(if 0≤from_4∧from_4≤(s_3.length:Int)∧(s_3.length:Int)≤s_3.length then (if (q_5.length+[((s_3.drop from_4.toNat).take (s_3.length-from_4.toNat))].length)*16≤LIM then some (q_5++[((s_3.drop from_4.toNat).take (s_3.length-from_4.toNat))]) else none) else none))
def zm9:Head:=⟨[(0,V1),(5,(.ref P0 [])),(6,V0)],[(P0,9,.str,false)],[]⟩
def zma (k:Nat):LD zT4:=⟨4,⟨[(0,V1),(1,(.val U3)),(5,(.ref P0 [])),(6,V0),(7,V0)],[(P0,9,.str,false)],[]⟩,[(0,zm9)],fun n x kx=>z8v k n x.1.1 x.1.2.1 x.1.2.2.2.1 x.1.2.2.2.2.1 x.2.1.1 (fun s0 from6 q_3=>kx 0 (zm9.fill ((s0,(),from6,()),(q_3,()),()))),k⟩
def zuu (k:Nat):FE:=⟨(.pr .str U3),1,(.sl 9 .str),fun x=>zc7 k x.1 x.2⟩
theorem zmb (k:Nat):zc Tryz.prog 24 (zuu k):=okC zr xTn xOn Tryz.f24 (orc (zma k) (LOn _)) (xLo (zma k) (by rintro n ⟨⟨s0,by1,⟨⟩,from6,i7,⟨⟩⟩,⟨q_1,⟨⟩⟩,⟨⟩⟩ kx; kernel_rfl) xLn) (by rintro ⟨s0,by1⟩; kernel_rfl)
def zep (k:Nat) (s0:List UInt8):Option (List zT1×Bool):=(zc7 k s0 10).bind fun r_1=>(if 0≤(0:Int)∧(0:Int)≤(z7 ((List.length r_1:Int)-1))∧(z7 ((List.length r_1:Int)-1))≤r_1.length then (if 0≤(z7 ((List.length r_1:Int)-1))∧(z7 ((List.length r_1:Int)-1)).toNat<List.length r_1 then (r_1[(z7 ((List.length r_1:Int)-1)).toNat]?).bind fun y_2=>some ((r_1.take ((z7 ((List.length r_1:Int)-1)).toNat)),(decide (y_2=[]))) else none) else none)
def zuv (k:Nat):FE:=⟨.str,2,(.pr (.sl 9 .str) .bool),fun x=>zep k x⟩
theorem zuw (k:Nat):zc Tryz.prog 9 (zuv k):=okC zr (xTc (zmb k) xTn) xOn Tryz.f9 (LOn _) xLn (by rintro s0; kernel_rfl)
def z8w (c0:Int):Option Bool:=(if (decide (48≤c0)) then some (decide (c0≤57)) else some false)
def zux:FE:=⟨U3,1,.bool,fun x=>z8w x⟩
theorem zmc:zc Tryz.prog 43 (zux):=okC zr xTn xOn Tryz.f43 (LOn _) xLn (by rintro c0; kernel_rfl)
def z4l (k:Nat):Nat→zT1→Int→Int→Int→(Int→Int→Option (Int×Bool))→Option (Int×Bool)
 | 0,_,_,_,_,_=>none
 | n+1,s0,at4,n5,i6,e_0=>(if (decide (i6<(List.length s0:Int))) then (if 0≤i6 then (s0[i6.toNat]?).bind fun b_3=>(z8w (z_u8 b_3)).bind fun r_4=>(if (!r_4) then some (0,false) else (if 0≤i6 then (s0[i6.toNat]?).bind fun b_5=>z4l k n s0 at4 (z7 ((z7 (10*n5))+(z7 ((z44 ((z_u8 b_5)-48)))))) (z7 (i6+1)) e_0 else none)) else none) else e_0 at4 n5)
def zeq (k:Nat) (s0:List UInt8):Option (Int×Bool):=(if (decide (0<(List.length s0:Int))) then (s0[0]?).bind fun b_1=>(if (decide ((z_u8 b_1)=45)) then (if (decide ((List.length s0:Int)=1)) then some (0,false) else (if (decide (18<(z7 ((List.length s0:Int)-1)))) then some (0,false) else (s0[1]?).bind fun b_2=>(if (decide ((z_u8 b_2)=48)) then (if (decide (1<(List.length s0:Int))) then some (0,false) else z4l k k s0 1 0 1 (fun at_6 n_7=>(if (decide (at_6=1)) then some ((z7 (0-n_7)),true) else some (n_7,true)))) else z4l k k s0 1 0 1 (fun at_8 n_9=>(if (decide (at_8=1)) then some ((z7 (0-n_9)),true) else some (n_9,true)))))) else (if (decide ((List.length s0:Int)=0)) then some (0,false) else (if (decide (18<(z7 ((List.length s0:Int)-0)))) then some (0,false) else (s0[0]?).bind fun b_10=>(if (decide ((z_u8 b_10)=48)) then (if (decide (1<(List.length s0:Int))) then some (0,false) else z4l k k s0 0 0 0 (fun at_11 n_12=>(if (decide (at_11=1)) then some ((z7 (0-n_12)),true) else some (n_12,true)))) else z4l k k s0 0 0 0 (fun at_13 n_14=>(if (decide (at_13=1)) then some ((z7 (0-n_14)),true) else some (n_14,true))))))) else (if (decide ((List.length s0:Int)=0)) then some (0,false) else (if (decide (18<(z7 ((List.length s0:Int)-0)))) then some (0,false) else (s0[0]?).bind fun b_15=>(if (decide ((z_u8 b_15)=48)) then (if (decide (1<(List.length s0:Int))) then some (0,false) else z4l k k s0 0 0 0 (fun at_16 n_17=>(if (decide (at_16=1)) then some ((z7 (0-n_17)),true) else some (n_17,true)))) else z4l k k s0 0 0 0 (fun at_18 n_19=>(if (decide (at_18=1)) then some ((z7 (0-n_19)),true) else some (n_19,true)))))))
def zmd:Head:=⟨[(4,V0),(5,V0)],[],[]⟩
def zme (k:Nat):LD (Int×Bool):=⟨8,⟨[(0,V1),(4,V0),(5,V0),(6,V0)],[],[]⟩,[(0,zmd)],fun n x kx=>z4l k n x.1.1 x.1.2.1 x.1.2.2.1 x.1.2.2.2.1 (fun at4 n5=>kx 0 (zmd.fill ((at4,n5,()),(),()))),k⟩
def zuy (k:Nat):FE:=⟨.str,2,(.pr U1 .bool),fun x=>zeq k x⟩
theorem zuz (k:Nat):zc Tryz.prog 25 (zuy k):=okC zr (xTc zmc xTn) xOn Tryz.f25 (orc (zme k) (LOn _)) (xLo (zme k) (by rintro n ⟨⟨s0,at4,n5,i6,⟨⟩⟩,⟨⟩,⟨⟩⟩ kx; kernel_rfl) xLn) (by rintro s0; kernel_rfl)
def zer (n0:Int) (low1:Int) (high2:Int):Option Bool:=(if (decide (low1≤n0)) then some (decide (n0≤high2)) else some false)
def zv0:FE:=⟨(.pr U1 (.pr U1 U1)),1,.bool,fun x=>zer x.1 x.2.1 x.2.2⟩
theorem zv1:zc Tryz.prog 26 (zv0):=okC zr xTn xOn Tryz.f26 (LOn _) xLn (by rintro ⟨n0,low1,high2⟩; kernel_rfl)
def zes (k:Nat) (line0:List UInt8):Option (Int×Bool):=(zc7 k line0 32).bind fun r_1=>(if (!(decide ((List.length r_1:Int)=2))) then some (0,false) else (if 0≤(0:Int)∧0<List.length r_1 then (r_1[0]?).bind fun y_2=>(if (!(decide (y_2=[97,114,99,104,105,118,101]))) then some (0,false) else (if 0≤(1:Int)∧1<List.length r_1 then (r_1[1]?).bind fun y_3=>(zeq k y_3).bind fun r_4=>(if r_4.2 then (zer r_4.1 0 32).bind fun r_5=>some (r_4.1,r_5) else some (r_4.1,false)) else none)) else none))
def zv2 (k:Nat):FE:=⟨.str,2,(.pr U1 .bool),fun x=>zes k x⟩
theorem zv3 (k:Nat):zc Tryz.prog 10 (zv2 k):=okC zr (xTc (zmb k) (xTc (zuz k) (xTc zv1 xTn))) xOn Tryz.f10 (LOn _) xLn (by rintro line0; kernel_rfl)
def z8x (k:Nat):Nat→zT1→Int→Int→Int→(zT1→Int→Int→Option Int)→Option Int
 | 0,_,_,_,_,_=>none
 | n+1,s0,sum1,i5,k6,e_2=>(if (decide (k6<8)) then (if (decide (65535<(z7 (sum1*2 ^ 1)))) then z8x k n s0 (z8s .i64 (zc6 .i64 (z7 (sum1*2 ^ 1)) 65535) 4129) i5 (z7 (k6+1)) e_2 else z8x k n s0 (z7 (sum1*2 ^ 1)) i5 (z7 (k6+1)) e_2) else e_2 s0 sum1 i5)
def z8y (k:Nat):Nat→zT1→Int→Int→(Int→Option Int)→Option Int
 | 0,_,_,_,_=>none
 | n+1,s0,sum1,i5,e_0=>(if (decide (i5<(List.length s0:Int))) then (if 0≤i5 then (s0[i5.toNat]?).bind fun b_1=>z8x k k s0 (z8s .i64 sum1 (z7 ((z7 ((z_u8 b_1)))*2 ^ 8))) i5 0 (fun s_2 sum_3 i_4=>z8y k n s_2 sum_3 (z7 (i_4+1)) e_0) else none) else e_0 sum1)
def zet (k:Nat) (s0:List UInt8) (sum1:Int):Option Int:=z8y k k s0 sum1 0 (fun sum_5=>some sum_5)
def zmf:Head:=⟨[(0,V1),(1,V0),(5,V0)],[],[]⟩
def zmg (k:Nat):LD Int:=⟨6,⟨[(0,V1),(1,V0),(5,V0),(6,V0)],[],[]⟩,[(2,zmf)],fun n x kx=>z8x k n x.1.1 x.1.2.1 x.1.2.2.1 x.1.2.2.2.1 (fun s0 sum1 i5=>kx 2 (zmf.fill ((s0,sum1,i5,()),(),()))),k⟩
def zmh:Head:=⟨[(1,V0)],[],[]⟩
def zmi (k:Nat):LD Int:=⟨2,⟨[(0,V1),(1,V0),(5,V0)],[],[]⟩,[(0,zmh)],fun n x kx=>z8y k n x.1.1 x.1.2.1 x.1.2.2.1 (fun sum1=>kx 0 (zmh.fill ((sum1,()),(),()))),k⟩
def zv4 (k:Nat):FE:=⟨(.pr .str U1),1,U1,fun x=>zet k x.1 x.2⟩
theorem zv5 (k:Nat):zc Tryz.prog 28 (zv4 k):=okC zr xTn xOn Tryz.f28 (orc (zmg k) (orc (zmi k) (LOn _))) (xLo (zmi k) (by rintro n ⟨⟨s0,sum1,i5,⟨⟩⟩,⟨⟩,⟨⟩⟩ kx; kernel_rfl) (xLo (zmg k) (by rintro n ⟨⟨s0,sum1,i5,k6,⟨⟩⟩,⟨⟩,⟨⟩⟩ kx; kernel_rfl) xLn)) (by rintro ⟨s0,sum1⟩; kernel_rfl)
def z6w (k:Nat):Nat→Int→Int→zT6→(Int→zT6→Option zT1)→Option zT1
 | 0,_,_,_,_=>none
 | n+1,n0,m4,q_1,e_0=>(if (!(decide (m4=0))) then (if (decide ((Int.tmod m4 10)<0)) then (if (q_1.length+[(z44 ((z7 (48+(z7 (0-(Int.tmod m4 10)))))))].length)*1≤LIM then z6w k n n0 (z7 (Int.tdiv m4 10)) (q_1++[(z44 ((z7 (48+(z7 (0-(Int.tmod m4 10)))))))]) e_0 else none) else (if (q_1.length+[(z44 ((z7 (48+(Int.tmod m4 10)))))].length)*1≤LIM then z6w k n n0 (z7 (Int.tdiv m4 10)) (q_1++[(z44 ((z7 (48+(Int.tmod m4 10)))))]) e_0 else none)) else e_0 n0 q_1)
def z8z (k:Nat):Nat→Int→zT6→zT6→(zT6→Option zT1)→Option zT1
 | 0,_,_,_,_=>none
 | n+1,i7,q_4,q_5,e_2=>(if (decide (0≤i7)) then (if 0≤i7∧i7.toNat<List.length q_4 then (q_4[i7.toNat]?).bind fun y_6=>(if (q_5.length+[y_6].length)*1≤LIM then z8z k n (z7 (i7-1)) q_4 (q_5++[y_6]) e_2 else none) else none) else e_2 q_5)
def zeu (k:Nat) (n0:Int):Option zT1:=(if (decide (n0=0)) then some [48] else z6w k k n0 n0 [] (fun n_2 q_3=>(if (decide (n_2<0)) then (if (q_3.length+[45].length)*1≤LIM then z8z k k (z7 ((List.length (q_3++[45]):Int)-1)) (q_3++[45]) [] (fun q_7=>some (z6v q_7)) else none) else z8z k k (z7 ((List.length q_3:Int)-1)) q_3 [] (fun q_8=>some (z6v q_8)))))
def zmj:Head:=⟨[(0,V0),(3,(.ref P0 []))],[(P0,5,U3,false)],[]⟩
def zmk (k:Nat):LD zT1:=⟨5,⟨[(0,V0),(3,(.ref P0 [])),(4,V0)],[(P0,5,U3,false)],[]⟩,[(0,zmj)],fun n x kx=>z6w k n x.1.1 x.1.2.2.1 x.2.1.1 (fun n0 q_2=>kx 0 (zmj.fill ((n0,(),()),(q_2,()),()))),k⟩
def zml:Head:=⟨[(6,(.ref P0 []))],[(P0,5,U3,false)],[]⟩
def zmm (k:Nat):LD zT1:=⟨15,⟨[(3,(.ref P0 [])),(6,(.ref P1 [])),(7,V0)],[(P0,5,U3,false),(P1,5,U3,false)],[]⟩,[(2,zml)],fun n x kx=>z8z k n x.1.2.2.1 x.2.1.1 x.2.1.2.1 (fun q_7=>kx 2 (zml.fill (((),()),(q_7,()),()))),k⟩
def zv6 (k:Nat):FE:=⟨U1,1,.str,fun x=>zeu k x⟩
theorem zv7 (k:Nat):zc Tryz.prog 44 (zv6 k):=okC zr xTn xOn Tryz.f44 (orc (zmk k) (orc (zmm k) (LOn _))) (xLo (zmk k) (by rintro n ⟨⟨n0,⟨⟩,m4,⟨⟩⟩,⟨q_1,⟨⟩⟩,⟨⟩⟩ kx; kernel_rfl) (xLo (zmm k) (by rintro n ⟨⟨⟨⟩,⟨⟩,i7,⟨⟩⟩,⟨q_4,q_5,⟨⟩⟩,⟨⟩⟩ kx; kernel_rfl) xLn)) (by rintro n0; kernel_rfl)
def zal (k:Nat):Nat→zT1→(zT1→Option zT1)→Option zT1
 | 0,_,_=>none
 | n+1,s3,e_0=>(if (decide ((List.length s3:Int)<5)) then (if [48].length+s3.length≤9223372036854775807 then zal k n ([48]++s3) e_0 else none) else e_0 s3)
def zev (k:Nat) (n0:Int):Option zT1:=(zeu k n0).bind fun r_1=>zal k k r_1 (fun s_2=>some s_2)
def zmn:Head:=⟨[(3,V1)],[],[]⟩
def zmo (k:Nat):LD zT1:=⟨2,⟨[(3,V1)],[],[]⟩,[(0,zmn)],fun n x kx=>zal k n x.1.1 (fun s3=>kx 0 (zmn.fill ((s3,()),(),()))),k⟩
def zv8 (k:Nat):FE:=⟨U1,1,.str,fun x=>zev k x⟩
theorem zv9 (k:Nat):zc Tryz.prog 27 (zv8 k):=okC zr (xTc (zv7 k) xTn) xOn Tryz.f27 (orc (zmo k) (LOn _)) (xLo (zmo k) (by rintro n ⟨⟨s3,⟨⟩⟩,⟨⟩,⟨⟩⟩ kx; kernel_rfl) xLn) (by rintro n0; kernel_rfl)
def zc8 (c0:Int):Option Bool:=(if (decide (97≤c0)) then some (decide (c0≤122)) else some false)
def zva:FE:=⟨U3,1,.bool,fun x=>zc8 x⟩
theorem zvb:zc Tryz.prog 62 (zva):=okC zr xTn xOn Tryz.f62 (LOn _) xLn (by rintro c0; kernel_rfl)
def z7x (k:Nat):Nat→zT1→Int→(Option Bool)→Option Bool
 | 0,_,_,_=>none
 | n+1,s0,i3,e_0=>(if (decide (i3<(List.length s0:Int))) then (if 0≤i3 then (s0[i3.toNat]?).bind fun b_3=>(zc8 (z_u8 b_3)).bind fun r_4=>(if (!r_4) then (if 0≤i3 then (s0[i3.toNat]?).bind fun b_5=>(z8w (z_u8 b_5)).bind fun r_6=>(if (!r_6) then some false else z7x k n s0 (z7 (i3+1)) e_0) else none) else z7x k n s0 (z7 (i3+1)) e_0) else none) else e_0)
def z90 (k:Nat) (s0:List UInt8):Option Bool:=(if (decide (s0=[])) then some false else (if (decide (10<(List.length s0:Int))) then some false else (s0[0]?).bind fun b_1=>(zc8 (z_u8 b_1)).bind fun r_2=>(if (!r_2) then some false else z7x k k s0 0 (some true))))
def zmp:Head:=⟨[],[],[]⟩
def zmq (k:Nat):LD Bool:=⟨4,⟨[(0,V1),(3,V0)],[],[]⟩,[(0,zmp)],fun n x kx=>z7x k n x.1.1 x.1.2.1 (kx 0 (zmp.fill ((),(),()))),k⟩
def zvc (k:Nat):FE:=⟨.str,1,.bool,fun x=>z90 k x⟩
theorem zvd (k:Nat):zc Tryz.prog 45 (zvc k):=okC zr (xTc zvb (xTc zmc xTn)) xOn Tryz.f45 (orc (zmq k) (LOn _)) (xLo (zmq k) (by rintro n ⟨⟨s0,i3,⟨⟩⟩,⟨⟩,⟨⟩⟩ kx; kernel_rfl) xLn) (by rintro s0; kernel_rfl)
def zam (k:Nat):Nat→zT0→Int→(zT0→Option Bool)→Option Bool
 | 0,_,_,_=>none
 | n+1,b0,i3,e_0=>(if (decide (i3<(List.length b0.2.2:Int))) then (if 0≤i3 then (b0.2.2[i3.toNat]?).bind fun b_1=>(if (decide ((z_u8 b_1)=10)) then some false else zam k n b0 (z7 (i3+1)) e_0) else none) else e_0 b0)
def zew (k:Nat) (b0:List UInt8×List UInt8×List UInt8):Option Bool:=zam k k b0 0 (fun b_2=>(z90 k b_2.1).bind fun r_3=>(if r_3 then (z90 k b_2.2.1).bind fun r_4=>(if r_4 then some (decide ((List.length b_2.2.2:Int)≤400)) else some false) else some false))
def zmr:Head:=⟨[(0,(.val (.ptr U0)))],[],[]⟩
def zms (k:Nat):LD Bool:=⟨2,⟨[(0,(.val (.ptr U0))),(3,V0)],[],[]⟩,[(0,zmr)],fun n x kx=>zam k n x.1.1 x.1.2.1 (fun b0=>kx 0 (zmr.fill ((b0,()),(),()))),k⟩
def zve (k:Nat):FE:=⟨(.ptr U0),1,.bool,fun x=>zew k x⟩
theorem zvf (k:Nat):zc Tryz.prog 29 (zve k):=okC zr (xTc (zvd k) xTn) xOn Tryz.f29 (orc (zms k) (LOn _)) (xLo (zms k) (by rintro n ⟨⟨b0,i3,⟨⟩⟩,⟨⟩,⟨⟩⟩ kx; kernel_rfl) xLn) (by rintro b0; kernel_rfl)
def zan (k:Nat):Nat→zT1→Int→zT0→(zT1→Int→zT0→Option zT5)→Option zT5
 | 0,_,_,_,_=>none
 | n+1,rest4,i5,v_2,e_0=>(if (decide (i5<(List.length rest4:Int))) then (if 0≤i5 then (rest4[i5.toNat]?).bind fun b_4=>(if (!(decide ((z_u8 b_4)=32))) then zan k n rest4 (z7 (i5+1)) v_2 e_0 else e_0 rest4 i5 v_2) else none) else e_0 rest4 i5 v_2)
def zao (k:Nat):Nat→zT1→Int→Int→zT0→(zT1→Int→Int→zT0→Option zT5)→Option zT5
 | 0,_,_,_,_,_=>none
 | n+1,rest4,i5,k6,v_2,e_2=>(if (decide (k6<(List.length rest4:Int))) then (if 0≤k6 then (rest4[k6.toNat]?).bind fun b_8=>(if (!(decide ((z_u8 b_8)=32))) then zao k n rest4 i5 (z7 (k6+1)) v_2 e_2 else e_2 rest4 i5 k6 v_2) else none) else e_2 rest4 i5 k6 v_2)
def zex (k:Nat) (line0:List UInt8):Option zT5:=(if (decide ((List.length line0:Int)<6)) then some (([],([],[])),9) else (line0[5]?).bind fun b_1=>(if (!(decide ((z_u8 b_1)=32))) then some (([],([],[])),9) else (if 0≤(6:Int)∧(6:Int)≤(line0.length:Int)∧(line0.length:Int)≤line0.length then (if 0≤(0:Int)∧(0:Int)≤5∧(5:Int)≤line0.length then (zet k ((line0.drop 6).take (line0.length-6)) 65535).bind fun r_2=>(zev k r_2).bind fun r_3=>(if (!(decide ((line0.take 5)=r_3))) then some (([],([],[])),10) else zan k k ((line0.drop 6).take (line0.length-6)) 0 ([],([],[])) (fun rest_5 i_6 v_7=>zao k k rest_5 i_6 (z7 (i_6+1)) v_7 (fun rest_9 i_10 k_11 v_12=>(if (decide ((List.length rest_9:Int)≤k_11)) then some (([],([],[])),9) else (if 0≤(0:Int)∧(0:Int)≤i_10∧i_10≤rest_9.length then (if 0≤(z7 (i_10+1))∧(z7 (i_10+1))≤k_11∧k_11≤rest_9.length then (if 0≤(z7 (k_11+1))∧(z7 (k_11+1))≤(rest_9.length:Int)∧(rest_9.length:Int)≤rest_9.length then (zew k ((rest_9.take i_10.toNat),(((rest_9.drop ((z7 (i_10+1)).toNat)).take (k_11.toNat-(z7 (i_10+1)).toNat)),((rest_9.drop ((z7 (k_11+1)).toNat)).take (rest_9.length-(z7 (k_11+1)).toNat))))).bind fun r_13=>(if (!r_13) then some (([],([],[])),9) else some (((rest_9.take i_10.toNat),(((rest_9.drop ((z7 (i_10+1)).toNat)).take (k_11.toNat-(z7 (i_10+1)).toNat)),((rest_9.drop ((z7 (k_11+1)).toNat)).take (rest_9.length-(z7 (k_11+1)).toNat)))),0)) else none) else none) else none))))) else none) else none)))
def zmt:Head:=⟨[(2,(.bp 2 [] 0)),(4,V1),(5,V0)],[],[(2,34,(.val U0))]⟩
def zmu (k:Nat):LD zT5:=⟨7,⟨[(2,(.bp 2 [] 0)),(4,V1),(5,V0)],[],[(2,34,(.val U0))]⟩,[(0,zmt)],fun n x kx=>zan k n x.1.2.1 x.1.2.2.1 x.2.2.1 (fun rest4 i5 v_2=>kx 0 (zmt.fill (((),rest4,i5,()),(),(v_2,())))),k⟩
def zmv:Head:=⟨[(2,(.bp 2 [] 0)),(4,V1),(5,V0),(6,V0)],[],[(2,34,(.val U0))]⟩
def zmw (k:Nat):LD zT5:=⟨10,⟨[(2,(.bp 2 [] 0)),(4,V1),(5,V0),(6,V0)],[],[(2,34,(.val U0))]⟩,[(2,zmv)],fun n x kx=>zao k n x.1.2.1 x.1.2.2.1 x.1.2.2.2.1 x.2.2.1 (fun rest4 i5 k6 v_2=>kx 2 (zmv.fill (((),rest4,i5,k6,()),(),(v_2,())))),k⟩
def zvg (k:Nat):FE:=⟨.str,2,(.pr U0 U1),fun x=>zex k x⟩
theorem zvh (k:Nat):zc Tryz.prog 11 (zvg k):=okC zr (xTc (zv5 k) (xTc (zv9 k) (xTc (zvf k) xTn))) xOn Tryz.f11 (orc (zmu k) (orc (zmw k) (LOn _))) (xLo (zmu k) (by rintro n ⟨⟨⟨⟩,rest4,i5,⟨⟩⟩,⟨⟩,⟨v_2,⟨⟩⟩⟩ kx; kernel_rfl) (xLo (zmw k) (by rintro n ⟨⟨⟨⟩,rest4,i5,k6,⟨⟩⟩,⟨⟩,⟨v_2,⟨⟩⟩⟩ kx; kernel_rfl) xLn)) (by rintro line0; kernel_rfl)
def zey (a0:List UInt8×List UInt8×List UInt8) (b1:List UInt8×List UInt8×List UInt8):Option Bool:=(if (Op.bytesLess a0.1 b1.1) then some true else (if (decide (a0.1=b1.1)) then some (Op.bytesLess a0.2.1 b1.2.1) else some false))
def zvi:FE:=⟨(.pr (.ptr U0) (.ptr U0)),1,.bool,fun x=>zey x.1 x.2⟩
theorem zvj:zc Tryz.prog 12 (zvi):=okC zr xTn xOn Tryz.f12 (LOn _) xLn (by rintro ⟨a0,b1⟩; kernel_rfl)
def z91 (k:Nat):Nat→Int→Int→zT4→(List zT0)→(Int→(List zT0)→Option zT3)→Option zT3
 | 0,_,_,_,_,_=>none
 | n+1,n7,i10,q_4,q_5,e_0=>(if (decide (i10<(List.length q_4:Int))) then (if 0≤i10∧i10.toNat<List.length q_4 then (q_4[i10.toNat]?).bind fun y_6=>(zex k y_6).bind fun r_7=>(if (!(decide (r_7.2=0))) then some ([],(z7 (i10+1)),r_7.2) else (if (decide (0<(List.length q_5:Int))) then (if 0≤(z7 ((List.length q_5:Int)-1))∧(z7 ((List.length q_5:Int)-1)).toNat<List.length q_5 then (q_5[(z7 ((List.length q_5:Int)-1)).toNat]?).bind fun y_8=>(zey y_8 r_7.1).bind fun r_9=>(if (!r_9) then some ([],(z7 (i10+1)),7) else (if (q_5.length+[r_7.1].length)*48≤LIM then z91 k n n7 (z7 (i10+1)) q_4 (q_5++[r_7.1]) e_0 else none)) else none) else (if (q_5.length+[r_7.1].length)*48≤LIM then z91 k n n7 (z7 (i10+1)) q_4 (q_5++[r_7.1]) e_0 else none))) else none) else e_0 n7 q_5)
def zez (k:Nat) (s0:List UInt8):Option zT3:=(zep k s0).bind fun r_1=>(if (!r_1.2) then some ([],0,11) else (if (decide ((List.length r_1.1:Int)=0)) then some ([],0,11) else (if 0≤(0:Int)∧0<List.length r_1.1 then (r_1.1[0]?).bind fun y_2=>(zes k y_2).bind fun r_3=>(if (!r_3.2) then some ([],1,9) else z91 k k r_3.1 1 r_1.1 [] (fun n_10 q_11=>(if (!(decide ((List.length q_11:Int)=n_10))) then some ([],0,11) else some (q_11,0,0)))) else none)))
def zmx:Head:=⟨[(7,V0),(9,(.ref P0 []))],[(P0,34,U0,false)],[]⟩
def zmy (k:Nat):LD zT3:=⟨9,⟨[(5,(.ref P0 [])),(7,V0),(9,(.ref P1 [])),(10,V0)],[(P0,9,.str,false),(P1,34,U0,false)],[]⟩,[(0,zmx)],fun n x kx=>z91 k n x.1.2.1 x.1.2.2.2.1 x.2.1.1 x.2.1.2.1 (fun n7 q_11=>kx 0 (zmx.fill ((n7,(),()),(q_11,()),()))),k⟩
def zvk (k:Nat):FE:=⟨.str,3,(.pr U4 (.pr U1 U1)),fun x=>zez k x⟩
theorem zvl (k:Nat):zc Tryz.prog 4 (zvk k):=okC zr (xTc (zuw k) (xTc (zv3 k) (xTc (zvh k) (xTc zvj xTn)))) xOn Tryz.f4 (orc (zmy k) (LOn _)) (xLo (zmy k) (by rintro n ⟨⟨⟨⟩,n7,⟨⟩,i10,⟨⟩⟩,⟨q_4,q_5,⟨⟩⟩,⟨⟩⟩ kx; kernel_rfl) xLn) (by rintro s0; kernel_rfl)
def zap (s0:List UInt8) (suffix1:List UInt8):Option Bool:=(if (decide ((List.length suffix1:Int)≤(List.length s0:Int))) then (if 0≤(z7 ((List.length s0:Int)-(List.length suffix1:Int)))∧(z7 ((List.length s0:Int)-(List.length suffix1:Int)))≤(s0.length:Int)∧(s0.length:Int)≤s0.length then some (decide (((s0.drop ((z7 ((List.length s0:Int)-(List.length suffix1:Int))).toNat)).take (s0.length-(z7 ((List.length s0:Int)-(List.length suffix1:Int))).toNat))=suffix1)) else none) else some false)
def zvm:FE:=⟨U2,1,.bool,fun x=>zap x.1 x.2⟩
theorem zmz:zc Tryz.prog 30 (zvm):=okC zr xTn xOn Tryz.f30 (LOn _) xLn (by rintro ⟨s0,suffix1⟩; kernel_rfl)
def zaq (s0:List UInt8) (suffix1:List UInt8):Option Bool:=(zap s0 suffix1).bind fun r_1=>some r_1
def zvn:FE:=⟨U2,1,.bool,fun x=>zaq x.1 x.2⟩
theorem zvo:zc Tryz.prog 13 (zvn):=okC zr (xTc zmz xTn) xOn Tryz.f13 (LOn _) xLn (by rintro ⟨s0,suffix1⟩; kernel_rfl)
def zhq (s0:List UInt8) (suffix1:List UInt8):Option zT1:=(zap s0 suffix1).bind fun r_1=>(if r_1 then (if 0≤(0:Int)∧(0:Int)≤(z7 ((List.length s0:Int)-(List.length suffix1:Int)))∧(z7 ((List.length s0:Int)-(List.length suffix1:Int)))≤s0.length then some (s0.take ((z7 ((List.length s0:Int)-(List.length suffix1:Int))).toNat)) else none) else some s0)
def zvp:FE:=⟨U2,1,.str,fun x=>zhq x.1 x.2⟩
theorem zvq:zc Tryz.prog 47 (zvp):=okC zr (xTc zmz xTn) xOn Tryz.f47 (LOn _) xLn (by rintro ⟨s0,suffix1⟩; kernel_rfl)
def zf0 (s0:List UInt8) (suffix1:List UInt8):Option zT1:=(zhq s0 suffix1).bind fun r_1=>some r_1
def zvr:FE:=⟨U2,1,.str,fun x=>zf0 x.1 x.2⟩
theorem zvs:zc Tryz.prog 32 (zvr):=okC zr (xTc zvq xTn) xOn Tryz.f32 (LOn _) xLn (by rintro ⟨s0,suffix1⟩; kernel_rfl)
def zn0 (s:List UInt8) (c:Int):Option Int:=some ((Lib.countByte s (c.toNat.toUInt8):Nat):Int)
abbrev fe_bytealg_CountString:FE:=fe_countString
theorem zvt:zc Tryz.prog 82 fe_bytealg_CountString:=zui (fn:=Tryz.f82) (by kernel_rfl) (by kernel_rfl) (by kernel_rfl) (by kernel_rfl) (by kernel_rfl)
def zhr (s:List UInt8) (c:Int):Option Int:=some (Lib.indexByte s (c.toNat.toUInt8))
abbrev fe_bytealg_IndexByteString:FE:=fe_indexByteString
theorem zvu:zc Tryz.prog 103 fe_bytealg_IndexByteString:=zuh (fn:=Tryz.f103) (by kernel_rfl) (by kernel_rfl) (by kernel_rfl) (by kernel_rfl) (by kernel_rfl)
def zf1 (s0:List UInt8) (c1:Int):Option Int:=(zhr s0 c1).bind fun r_1=>some r_1
def zvv:FE:=⟨(.pr .str U3),1,U1,fun x=>zf1 x.1 x.2⟩
theorem zvw:zc Tryz.prog 93 (zvv):=okC zr (xTc zvu xTn) xOn Tryz.f93 (LOn _) xLn (by rintro ⟨s0,c1⟩; kernel_rfl)
def z92 (s0:List UInt8) (substr1:List UInt8):Option Int:=(if (decide ((List.length substr1:Int)=0)) then some 0 else (if (decide (substr1=s0)) then some 0 else (if (decide ((List.length substr1:Int)=1)) then (substr1[0]?).bind fun b_1=>(zf1 s0 (z_u8 b_1)).bind fun r_2=>some r_2 else (if (decide ((List.length s0:Int)≤(List.length substr1:Int))) then some (-1) else none))))
def zvx:FE:=⟨U2,1,U1,fun x=>z92 x.1 x.2⟩
theorem zn1:zc Tryz.prog 75 (zvx):=okC zr (xTc zvw xTn) xOn Tryz.f75 (LOn _) (xLs xLn) (by rintro ⟨s0,substr1⟩; kernel_rfl)
def z7y (s0:List UInt8) (substr1:List UInt8):Option Int:=(z92 s0 substr1).bind fun r_1=>some r_1
def zvy:FE:=⟨U2,1,U1,fun x=>z7y x.1 x.2⟩
theorem zhs:zc Tryz.prog 65 (zvy):=okC zr (xTc zn1 xTn) xOn Tryz.f65 (LOn _) xLn (by rintro ⟨s0,substr1⟩; kernel_rfl)
def zht (k:Nat):Nat→zT1→zT1→Int→Option Int
 | 0,_,_,_=>none
 | n+1,s0,substr1,n5=>(z7y s0 substr1).bind fun r_3=>(if (decide (r_3=(-1))) then some n5 else (if 0≤(z7 (r_3+(List.length substr1:Int)))∧(z7 (r_3+(List.length substr1:Int)))≤(s0.length:Int)∧(s0.length:Int)≤s0.length then zht k n ((s0.drop ((z7 (r_3+(List.length substr1:Int))).toNat)).take (s0.length-(z7 (r_3+(List.length substr1:Int))).toNat)) substr1 (z7 (n5+1)) else none))
def zf2 (k:Nat) (s0:List UInt8) (substr1:List UInt8):Option Int:=(if (decide ((List.length substr1:Int)=0)) then none else (if (decide ((List.length substr1:Int)=1)) then (substr1[0]?).bind fun b_1=>(zn0 s0 (z_u8 b_1)).bind fun r_2=>some r_2 else zht k k s0 substr1 0))
def zn2 (k:Nat):LD Int:=⟨6,⟨[(0,V1),(1,V1),(5,V0)],[],[]⟩,[],fun n x kx=>zht k n x.1.1 x.1.2.1 x.1.2.2.1,k⟩
def zvz (k:Nat):FE:=⟨U2,1,U1,fun x=>zf2 k x.1 x.2⟩
theorem zw0 (k:Nat):zc Tryz.prog 64 (zvz k):=okC zr (xTc zvt (xTc zhs xTn)) xOn Tryz.f64 (orc (zn2 k) (LOn _)) (xLo (zn2 k) (by rintro n ⟨⟨s0,substr1,n5,⟨⟩⟩,⟨⟩,⟨⟩⟩ kx; kernel_rfl) xLn) (by rintro ⟨s0,substr1⟩; kernel_rfl)
def z93 (k:Nat):Nat→zT1→zT1→Int→Int→Int→zT4→(zT1→Int→zT4→Option zT4)→Option zT4
 | 0,_,_,_,_,_,_,_=>none
 | n+1,s0,sep1,sepSave2,n3,i10,q_2,e_0=>(if (decide (i10<n3)) then (z7y s0 sep1).bind fun r_3=>(if (decide (r_3<0)) then e_0 s0 i10 q_2 else (if 0≤(0:Int)∧(0:Int)≤(z7 (r_3+sepSave2))∧(z7 (r_3+sepSave2))≤s0.length then (if 0≤i10∧i10.toNat<List.length q_2 then (q_2[i10.toNat]?).bind fun y_4=>(q_2[i10.toNat]?).bind fun y_5=>(if 0≤(z7 (r_3+(List.length sep1:Int)))∧(z7 (r_3+(List.length sep1:Int)))≤(s0.length:Int)∧(s0.length:Int)≤s0.length then z93 k n ((s0.drop ((z7 (r_3+(List.length sep1:Int))).toNat)).take (s0.length-(z7 (r_3+(List.length sep1:Int))).toNat)) sep1 sepSave2 n3 (z7 (i10+1)) (q_2.set i10.toNat (s0.take ((z7 (r_3+sepSave2)).toNat))) e_0 else none) else none) else none)) else e_0 s0 i10 q_2)
def zhu (k:Nat) (s0:List UInt8) (sep1:List UInt8) (sepSave2:Int) (n3:Int):Option zT4:=(if (decide (n3=0)) then some [] else (if (decide (sep1=[])) then none else (if (decide (n3<0)) then (zf2 k s0 sep1).bind fun r_1=>(if 0≤(if (z7 ((List.length s0:Int)+1))<(z7 (r_1+1)) then (z7 ((List.length s0:Int)+1)) else (z7 (r_1+1)))∧(if (z7 ((List.length s0:Int)+1))<(z7 (r_1+1)) then (z7 ((List.length s0:Int)+1)) else (z7 (r_1+1)))≤(if (z7 ((List.length s0:Int)+1))<(z7 (r_1+1)) then (z7 ((List.length s0:Int)+1)) else (z7 (r_1+1)))∧(if (z7 ((List.length s0:Int)+1))<(z7 (r_1+1)) then (z7 ((List.length s0:Int)+1)) else (z7 (r_1+1)))*16≤LIM then z93 k k s0 sep1 sepSave2 (z7 ((if (z7 ((List.length s0:Int)+1))<(z7 (r_1+1)) then (z7 ((List.length s0:Int)+1)) else (z7 (r_1+1)))-1)) 0 (List.replicate (if (z7 ((List.length s0:Int)+1))<(z7 (r_1+1)) then (z7 ((List.length s0:Int)+1)) else (z7 (r_1+1))).toNat ([]:List UInt8)) (fun s_6 i_7 q_8=>(if 0≤i_7∧i_7.toNat<List.length q_8 then (q_8[i_7.toNat]?).bind fun y_9=>(q_8[i_7.toNat]?).bind fun y_10=>(if 0≤(0:Int)∧(0:Int)≤(z7 (i_7+1))∧(z7 (i_7+1))≤(q_8.set i_7.toNat s_6).length then some ((q_8.set i_7.toNat s_6).take ((z7 (i_7+1)).toNat)) else none) else none)) else none) else (if 0≤(if (z7 ((List.length s0:Int)+1))<n3 then (z7 ((List.length s0:Int)+1)) else n3)∧(if (z7 ((List.length s0:Int)+1))<n3 then (z7 ((List.length s0:Int)+1)) else n3)≤(if (z7 ((List.length s0:Int)+1))<n3 then (z7 ((List.length s0:Int)+1)) else n3)∧(if (z7 ((List.length s0:Int)+1))<n3 then (z7 ((List.length s0:Int)+1)) else n3)*16≤LIM then z93 k k s0 sep1 sepSave2 (z7 ((if (z7 ((List.length s0:Int)+1))<n3 then (z7 ((List.length s0:Int)+1)) else n3)-1)) 0 (List.replicate (if (z7 ((List.length s0:Int)+1))<n3 then (z7 ((List.length s0:Int)+1)) else n3).toNat ([]:List UInt8)) (fun s_11 i_12 q_13=>(if 0≤i_12∧i_12.toNat<List.length q_13 then (q_13[i_12.toNat]?).bind fun y_14=>(q_13[i_12.toNat]?).bind fun y_15=>(if 0≤(0:Int)∧(0:Int)≤(z7 (i_12+1))∧(z7 (i_12+1))≤(q_13.set i_12.toNat s_11).length then some ((q_13.set i_12.toNat s_11).take ((z7 (i_12+1)).toNat)) else none) else none)) else none))))
def zn3:Head:=⟨[(0,V1),(9,(.ref P0 [])),(10,V0)],[(P0,9,.str,false)],[]⟩
def zn4 (k:Nat):LD zT4:=⟨11,⟨[(0,V1),(1,V1),(2,V0),(3,V0),(9,(.ref P0 [])),(10,V0)],[(P0,9,.str,false)],[]⟩,[(0,zn3)],fun n x kx=>z93 k n x.1.1 x.1.2.1 x.1.2.2.1 x.1.2.2.2.1 x.1.2.2.2.2.2.1 x.2.1.1 (fun s0 i10 q_4=>kx 0 (zn3.fill ((s0,(),i10,()),(q_4,()),()))),k⟩
def zw1 (k:Nat):FE:=⟨(.pr .str (.pr .str (.pr U1 U1))),1,(.sl 9 .str),fun x=>zhu k x.1 x.2.1 x.2.2.1 x.2.2.2⟩
theorem zw2 (k:Nat):zc Tryz.prog 46 (zw1 k):=okC zr (xTc (zw0 k) (xTc zhs xTn)) xOn Tryz.f46 (orc (zn4 k) (LOn _)) (xLo (zn4 k) (by rintro n ⟨⟨s0,sep1,sepSave2,n3,⟨⟩,i10,⟨⟩⟩,⟨q_2,⟨⟩⟩,⟨⟩⟩ kx; kernel_rfl) xLn) (by rintro ⟨s0,sep1,sepSave2,n3⟩; kernel_rfl)
def zf3 (k:Nat) (s0:List UInt8) (sep1:List UInt8):Option zT4:=(zhu k s0 sep1 0 (-1)).bind fun r_1=>some r_1
def zw3 (k:Nat):FE:=⟨U2,1,(.sl 9 .str),fun x=>zf3 k x.1 x.2⟩
theorem zw4 (k:Nat):zc Tryz.prog 31 (zw3 k):=okC zr (xTc (zw2 k) xTn) xOn Tryz.f31 (LOn _) xLn (by rintro ⟨s0,sep1⟩; kernel_rfl)
def zf4 (k:Nat) (text0:List UInt8):Option zT4:=(if (decide (text0=[])) then some [] else (zf0 text0 [10]).bind fun r_1=>(zf3 k r_1 [10]).bind fun r_2=>some r_2)
def zw5 (k:Nat):FE:=⟨.str,1,(.sl 9 .str),fun x=>zf4 k x⟩
theorem zw6 (k:Nat):zc Tryz.prog 14 (zw5 k):=okC zr (xTc zvs (xTc (zw4 k) xTn)) xOn Tryz.f14 (LOn _) xLn (by rintro text0; kernel_rfl)
end
end Go.Proofs.YteiflkhpafhhkaaGreatDoor.Ev
