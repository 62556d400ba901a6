/- Functions of the program, as plain ones. No conditions. -/
import Derived.Test.YtbipmejjnalmiaaDoorG0
import Derived.KernelRfl
set_option linter.unusedVariables false
set_option maxRecDepth 100000
namespace Go.Proofs.YtbipmejjnalmiaaDoor.Ev
open Go.RowKit
noncomputable section
def z8t (k:Nat):Nat→zT1→Int→Int→Int→zT3→(zT1→Int→zT3→Option zT3)→Option zT3
 | 0,_,_,_,_,_,_=>none
 | n+1,s0,by1,from6,i7,q_1,e_0=>(if (decide (i7<(List.length s0:Int))) then (if 0≤i7 then (s0[i7.toNat]?).bind fun b_2=>(if (decide ((z14 b_2)=by1)) then (if 0≤from6∧from6≤i7∧i7≤s0.length then (if (q_1.length+[((s0.drop from6.toNat).take (i7.toNat-from6.toNat))].length)*16≤LIM then z8t k n s0 by1 (za (i7+1)) (za (i7+1)) (q_1++[((s0.drop from6.toNat).take (i7.toNat-from6.toNat))]) e_0 else none) else none) else z8t k n s0 by1 from6 (za (i7+1)) q_1 e_0) else none) else e_0 s0 from6 q_1)
def zcl (k:Nat) (s0:List UInt8) (by1:Int):Option zT3:=z8t k k s0 by1 0 0 [] (fun s_3 from_4 q_5=>(if 0≤from_4∧from_4≤(s_3.length:Int)∧(s_3.length:Int)≤s_3.length then (if (q_5.length+[((s_3.drop from_4.toNat).take (s_3.length-from_4.toNat))].length)*16≤LIM then some (q_5++[((s_3.drop from_4.toNat).take (s_3.length-from_4.toNat))]) else none) else none))
def zmt:Head:=⟨[(0,V2),(5,(.ref P0 [])),(6,V0)],[(P0,9,.str,false)],[]⟩
def zmu (k:Nat):LD zT3:=⟨4,⟨[(0,V2),(1,(.val U4)),(5,(.ref P0 [])),(6,V0),(7,V0)],[(P0,9,.str,false)],[]⟩,[(0,zmt)],fun n x kx=>z8t k n x.1.1 x.1.2.1 x.1.2.2.2.1 x.1.2.2.2.2.1 x.2.1.1 (fun s0 from6 q_3=>kx 0 (zmt.fill ((s0,(),from6,()),(q_3,()),()))),k⟩
def zvy (k:Nat):FE:=⟨(.pr .str U4),1,U2,fun x=>zcl k x.1 x.2⟩
theorem zvz (k:Nat):zc Tryd.prog 19 (zvy k):=okC zu xTn xOn Tryd.f19 (orc (zmu k) (LOn _)) (xLo (zmu k) (by rintro n ⟨⟨s0,by1,⟨⟩,from6,i7,⟨⟩⟩,⟨q_1,⟨⟩⟩,⟨⟩⟩ kx; kernel_rfl) xLn) (by rintro ⟨s0,by1⟩; kernel_rfl)
def z8u (c0:Int):Option Bool:=(if (decide (48≤c0)) then some (decide (c0≤57)) else some false)
def zw0:FE:=⟨U4,1,.bool,fun x=>z8u x⟩
theorem zmv:zc Tryd.prog 34 (zw0):=okC zu xTn xOn Tryd.f34 (LOn _) xLn (by rintro c0; kernel_rfl)
def z4l (k:Nat):Nat→zT1→Int→Int→Int→(Int→Int→Option (Int×Bool))→Option (Int×Bool)
 | 0,_,_,_,_,_=>none
 | n+1,s0,at4,n5,i6,e_0=>(if (decide (i6<(List.length s0:Int))) then (if 0≤i6 then (s0[i6.toNat]?).bind fun b_3=>(z8u (z14 b_3)).bind fun r_4=>(if (!r_4) then some (0,false) else (if 0≤i6 then (s0[i6.toNat]?).bind fun b_5=>z4l k n s0 at4 (za ((za (10*n5))+(za ((z8q ((z14 b_5)-48)))))) (za (i6+1)) e_0 else none)) else none) else e_0 at4 n5)
def zcm (k:Nat) (s0:List UInt8):Option (Int×Bool):=(if (decide (0<(List.length s0:Int))) then (s0[0]?).bind fun b_1=>(if (decide ((z14 b_1)=45)) then (if (decide ((List.length s0:Int)=1)) then some (0,false) else (if (decide (18<(za ((List.length s0:Int)-1)))) then some (0,false) else (s0[1]?).bind fun b_2=>(if (decide ((z14 b_2)=48)) then (if (decide (1<(List.length s0:Int))) then some (0,false) else z4l k k s0 1 0 1 (fun at_6 n_7=>(if (decide (at_6=1)) then some ((za (0-n_7)),true) else some (n_7,true)))) else z4l k k s0 1 0 1 (fun at_8 n_9=>(if (decide (at_8=1)) then some ((za (0-n_9)),true) else some (n_9,true)))))) else (if (decide ((List.length s0:Int)=0)) then some (0,false) else (if (decide (18<(za ((List.length s0:Int)-0)))) then some (0,false) else (s0[0]?).bind fun b_10=>(if (decide ((z14 b_10)=48)) then (if (decide (1<(List.length s0:Int))) then some (0,false) else z4l k k s0 0 0 0 (fun at_11 n_12=>(if (decide (at_11=1)) then some ((za (0-n_12)),true) else some (n_12,true)))) else z4l k k s0 0 0 0 (fun at_13 n_14=>(if (decide (at_13=1)) then some ((za (0-n_14)),true) else some (n_14,true))))))) else (if (decide ((List.length s0:Int)=0)) then some (0,false) else (if (decide (18<(za ((List.length s0:Int)-0)))) then some (0,false) else (s0[0]?).bind fun b_15=>(if (decide ((z14 b_15)=48)) then (if (decide (1<(List.length s0:Int))) then some (0,false) else z4l k k s0 0 0 0 (fun at_16 n_17=>(if (decide (at_16=1)) then some ((za (0-n_17)),true) else some (n_17,true)))) else z4l k k s0 0 0 0 (fun at_18 n_19=>(if (decide (at_18=1)) then some ((za (0-n_19)),true) else some (n_19,true)))))))
def zmw:Head:=⟨[(4,V0),(5,V0)],[],[]⟩
def zmx (k:Nat):LD (Int×Bool):=⟨8,⟨[(0,V2),(4,V0),(5,V0),(6,V0)],[],[]⟩,[(0,zmw)],fun n x kx=>z4l k n x.1.1 x.1.2.1 x.1.2.2.1 x.1.2.2.2.1 (fun at4 n5=>kx 0 (zmw.fill ((at4,n5,()),(),()))),k⟩
def zw1 (k:Nat):FE:=⟨.str,2,(.pr U1 .bool),fun x=>zcm k x⟩
theorem zw2 (k:Nat):zc Tryd.prog 20 (zw1 k):=okC zu (xTc zmv xTn) xOn Tryd.f20 (orc (zmx k) (LOn _)) (xLo (zmx k) (by rintro n ⟨⟨s0,at4,n5,i6,⟨⟩⟩,⟨⟩,⟨⟩⟩ kx; kernel_rfl) xLn) (by rintro s0; kernel_rfl)
def zcn (c0:Int):Option Bool:=(if (decide (97≤c0)) then some (decide (c0≤122)) else some false)
def zw3:FE:=⟨U4,1,.bool,fun x=>zcn x⟩
theorem zw4:zc Tryd.prog 69 (zw3):=okC zu xTn xOn Tryd.f69 (LOn _) xLn (by rintro c0; kernel_rfl)
def z7u (k:Nat):Nat→zT1→Int→(Option Bool)→Option Bool
 | 0,_,_,_=>none
 | n+1,s0,i3,e_0=>(if (decide (i3<(List.length s0:Int))) then (if 0≤i3 then (s0[i3.toNat]?).bind fun b_3=>(zcn (z14 b_3)).bind fun r_4=>(if (!r_4) then (if 0≤i3 then (s0[i3.toNat]?).bind fun b_5=>(z8u (z14 b_5)).bind fun r_6=>(if (!r_6) then some false else z7u k n s0 (za (i3+1)) e_0) else none) else z7u k n s0 (za (i3+1)) e_0) else none) else e_0)
def zfd (k:Nat) (s0:List UInt8):Option Bool:=(if (decide (s0=[])) then some false else (if (decide (10<(List.length s0:Int))) then some false else (s0[0]?).bind fun b_1=>(zcn (z14 b_1)).bind fun r_2=>(if (!r_2) then some false else z7u k k s0 0 (some true))))
def zmy:Head:=⟨[],[],[]⟩
def zmz (k:Nat):LD Bool:=⟨4,⟨[(0,V2),(3,V0)],[],[]⟩,[(0,zmy)],fun n x kx=>z7u k n x.1.1 x.1.2.1 (kx 0 (zmy.fill ((),(),()))),k⟩
def zw5 (k:Nat):FE:=⟨.str,1,.bool,fun x=>zfd k x⟩
theorem zw6 (k:Nat):zc Tryd.prog 53 (zw5 k):=okC zu (xTc zw4 (xTc zmv xTn)) xOn Tryd.f53 (orc (zmz k) (LOn _)) (xLo (zmz k) (by rintro n ⟨⟨s0,i3,⟨⟩⟩,⟨⟩,⟨⟩⟩ kx; kernel_rfl) xLn) (by rintro s0; kernel_rfl)
def z8v (n0:Int) (low1:Int) (high2:Int):Option Bool:=(if (decide (low1≤n0)) then some (decide (n0≤high2)) else some false)
def zw7:FE:=⟨(.pr U1 (.pr U1 U1)),1,.bool,fun x=>z8v x.1 x.2.1 x.2.2⟩
theorem zw8:zc Tryd.prog 54 (zw7):=okC zu xTn xOn Tryd.f54 (LOn _) xLn (by rintro ⟨n0,low1,high2⟩; kernel_rfl)
def zal (k:Nat):Nat→zT4→zT1→Int→(Option Int)→Option Int
 | 0,_,_,_,_=>none
 | n+1,list0,name1,i5,e_0=>(if (decide (i5<(List.length list0:Int))) then (if 0≤i5 then (list0[i5.toNat]?).bind fun y_1=>(if (decide (y_1.1=name1)) then some i5 else zal k n list0 name1 (za (i5+1)) e_0) else none) else e_0)
def zco (k:Nat) (list0:List zT0) (name1:List UInt8):Option Int:=zal k k list0 name1 0 (some (-1))
def zn0:Head:=⟨[],[],[]⟩
def zn1 (k:Nat):LD Int:=⟨2,⟨[(0,V1),(1,V2),(5,V0)],[],[]⟩,[(0,zn0)],fun n x kx=>zal k n x.1.1 x.1.2.1 x.1.2.2.1 (kx 0 (zn0.fill ((),(),()))),k⟩
def zw9 (k:Nat):FE:=⟨(.pr U3 .str),1,U1,fun x=>zco k x.1 x.2⟩
theorem zn2 (k:Nat):zc Tryd.prog 55 (zw9 k):=okC zu xTn xOn Tryd.f55 (orc (zn1 k) (LOn _)) (xLo (zn1 k) (by rintro n ⟨⟨list0,name1,i5,⟨⟩⟩,⟨⟩,⟨⟩⟩ kx; kernel_rfl) xLn) (by rintro ⟨list0,name1⟩; kernel_rfl)
def z6v (k:Nat):Nat→zT4→Int→Int→zT0→(zT4→Int→Option Bool)→Option Bool
 | 0,_,_,_,_,_=>none
 | n+1,list0,i3,k5,v_4,e_2=>(if (decide (k5<(List.length v_4.2.1:Int))) then (if 0≤k5 then (v_4.2.1[k5.toNat]?).bind fun y_6=>(zco k list0 y_6).bind fun r_7=>(if (decide (r_7<0)) then some false else (if (decide (0<k5)) then (if 0≤(za (k5-1)) then (v_4.2.1[(za (k5-1)).toNat]?).bind fun y_8=>(if 0≤k5 then (v_4.2.1[k5.toNat]?).bind fun y_9=>(if (!(Op.bytesLess y_8 y_9)) then some false else z6v k n list0 i3 (za (k5+1)) v_4 e_2) else none) else none) else z6v k n list0 i3 (za (k5+1)) v_4 e_2)) else none) else e_2 list0 i3)
def z8w (k:Nat):Nat→zT4→Int→(zT4→Option Bool)→Option Bool
 | 0,_,_,_=>none
 | n+1,list0,i3,e_0=>(if (decide (i3<(List.length list0:Int))) then (if 0≤i3 then (list0[i3.toNat]?).bind fun y_1=>(zfd k y_1.1).bind fun r_2=>(if (!r_2) then some false else (if (decide (0<i3)) then (if 0≤(za (i3-1)) then (list0[(za (i3-1)).toNat]?).bind fun y_3=>(if (!(Op.bytesLess y_3.1 y_1.1)) then some false else (z8v y_1.2.2.1 0 1000000).bind fun r_4=>(if (!r_4) then some false else (z8v y_1.2.2.2 0 1000).bind fun r_5=>(if (!r_5) then some false else z6v k k list0 i3 0 y_1 (fun list_6 i_7=>z8w k n list_6 (za (i_7+1)) e_0)))) else none) else (z8v y_1.2.2.1 0 1000000).bind fun r_8=>(if (!r_8) then some false else (z8v y_1.2.2.2 0 1000).bind fun r_9=>(if (!r_9) then some false else z6v k k list0 i3 0 y_1 (fun list_10 i_11=>z8w k n list_10 (za (i_11+1)) e_0))))) else none) else e_0 list0)
def zfe (k:Nat) (list0:List zT0):Option Bool:=z8w k k list0 0 (fun list_12=>some (decide ((List.length list_12:Int)≤16)))
def zn3:Head:=⟨[(0,V1),(3,V0)],[],[]⟩
def zn4 (k:Nat):LD Bool:=⟨8,⟨[(0,V1),(3,V0),(4,(.bp 4 [] 0)),(5,V0)],[],[(4,32,(.val U0))]⟩,[(2,zn3)],fun n x kx=>z6v k n x.1.1 x.1.2.1 x.1.2.2.2.1 x.2.2.1 (fun list0 i3=>kx 2 (zn3.fill ((list0,i3,()),(),()))),k⟩
def zn5:Head:=⟨[(0,V1)],[],[]⟩
def zn6 (k:Nat):LD Bool:=⟨2,⟨[(0,V1),(3,V0)],[],[]⟩,[(0,zn5)],fun n x kx=>z8w k n x.1.1 x.1.2.1 (fun list0=>kx 0 (zn5.fill ((list0,()),(),()))),k⟩
def zwa (k:Nat):FE:=⟨U3,1,.bool,fun x=>zfe k x⟩
theorem zwb (k:Nat):zc Tryd.prog 35 (zwa k):=okC zu (xTc (zw6 k) (xTc zw8 (xTc (zn2 k) xTn))) xOn Tryd.f35 (orc (zn4 k) (orc (zn6 k) (LOn _))) (xLo (zn6 k) (by rintro n ⟨⟨list0,i3,⟨⟩⟩,⟨⟩,⟨⟩⟩ kx; kernel_rfl) (xLo (zn4 k) (by rintro n ⟨⟨list0,i3,⟨⟩,k5,⟨⟩⟩,⟨⟩,⟨v_4,⟨⟩⟩⟩ kx; kernel_rfl) xLn)) (by rintro list0; kernel_rfl)
def z8x (k:Nat):Nat→zT4→Int→Int→Bool→Int→zT5→(List Bool)→(zT4→Int→Int→Bool→zT5→(List Bool)→Option zT5)→Option zT5
 | 0,_,_,_,_,_,_,_,_=>none
 | n+1,list0,next5,i6,ready7,k8,q_6,q_7,e_4=>(if 0≤i6 then (list0[i6.toNat]?).bind fun y_8=>(if (decide (k8<(List.length y_8.2.1:Int))) then (if ready7 then (if 0≤i6 then (list0[i6.toNat]?).bind fun y_9=>(if 0≤k8 then (y_9.2.1[k8.toNat]?).bind fun y_10=>(zco k list0 y_10).bind fun r_11=>(if 0≤r_11∧r_11.toNat<List.length q_7 then (q_7[r_11.toNat]?).bind fun y_12=>z8x k n list0 next5 i6 y_12 (za (k8+1)) q_6 q_7 e_4 else none) else none) else none) else e_4 list0 next5 i6 ready7 q_6 q_7) else e_4 list0 next5 i6 ready7 q_6 q_7) else none)
def z7v (k:Nat):Nat→zT4→Int→Int→zT5→(List Bool)→(zT4→Int→zT5→(List Bool)→Option zT5)→Option zT5
 | 0,_,_,_,_,_,_=>none
 | n+1,list0,next5,i6,q_3,q_4,e_2=>(if (decide (i6<(List.length list0:Int))) then (if (decide (next5<0)) then (if 0≤i6∧i6.toNat<List.length q_4 then (q_4[i6.toNat]?).bind fun y_5=>z8x k k list0 next5 i6 (!y_5) 0 q_3 q_4 (fun list_6 next_7 i_8 ready_9 q_10 q_11=>(if ready_9 then z7v k n list_6 i_8 (za (i_8+1)) q_10 q_11 e_2 else z7v k n list_6 next_7 (za (i_8+1)) q_10 q_11 e_2)) else none) else e_2 list0 next5 q_3 q_4) else e_2 list0 next5 q_3 q_4)
def zam (k:Nat):Nat→zT4→zT5→(List Bool)→(zT5→Option zT5)→Option zT5
 | 0,_,_,_,_=>none
 | n+1,list0,q_1,q_2,e_0=>(if (decide ((List.length q_1:Int)<(List.length list0:Int))) then z7v k k list0 (-1) 0 q_1 q_2 (fun list_3 next_4 q_5 q_6=>(if (decide (next_4<0)) then some q_5 else (if 0≤next_4∧next_4.toNat<List.length q_6 then (q_6[next_4.toNat]?).bind fun y_7=>(q_6[next_4.toNat]?).bind fun y_8=>(if (q_5.length+[next_4].length)*8≤LIM then zam k n list_3 (q_5++[next_4]) (q_6.set next_4.toNat true) e_0 else none) else none))) else e_0 q_1)
def zff (k:Nat) (list0:List zT0):Option zT5:=(if 0≤(List.length list0:Int)∧(List.length list0:Int)≤(List.length list0:Int)∧(List.length list0:Int)*1≤LIM then zam k k list0 [] (List.replicate (List.length list0) false) (fun q_9=>some q_9) else none)
def zn7:Head:=⟨[(0,V1),(3,(.ref P0 [])),(4,(.ref P1 [])),(5,V0),(6,V0),(7,(.val .bool))],[(P0,3,U1,false),(P1,4,.bool,false)],[]⟩
def zn8 (k:Nat):LD zT5:=⟨10,⟨[(0,V1),(3,(.ref P0 [])),(4,(.ref P1 [])),(5,V0),(6,V0),(7,(.val .bool)),(8,V0)],[(P0,3,U1,false),(P1,4,.bool,false)],[]⟩,[(4,zn7)],fun n x kx=>z8x k n x.1.1 x.1.2.2.2.1 x.1.2.2.2.2.1 x.1.2.2.2.2.2.1 x.1.2.2.2.2.2.2.1 x.2.1.1 x.2.1.2.1 (fun list0 next5 i6 ready7 q_13 q_14=>kx 4 (zn7.fill ((list0,(),(),next5,i6,ready7,()),(q_13,q_14,()),()))),k⟩
def zn9:Head:=⟨[(0,V1),(3,(.ref P0 [])),(4,(.ref P1 [])),(5,V0)],[(P0,3,U1,false),(P1,4,.bool,false)],[]⟩
def zna (k:Nat):LD zT5:=⟨6,⟨[(0,V1),(3,(.ref P0 [])),(4,(.ref P1 [])),(5,V0),(6,V0)],[(P0,3,U1,false),(P1,4,.bool,false)],[]⟩,[(2,zn9)],fun n x kx=>z7v k n x.1.1 x.1.2.2.2.1 x.1.2.2.2.2.1 x.2.1.1 x.2.1.2.1 (fun list0 next5 q_19 q_20=>kx 2 (zn9.fill ((list0,(),(),next5,()),(q_19,q_20,()),()))),k⟩
def znb:Head:=⟨[(3,(.ref P0 []))],[(P0,3,U1,false)],[]⟩
def znc (k:Nat):LD zT5:=⟨3,⟨[(0,V1),(3,(.ref P0 [])),(4,(.ref P1 []))],[(P0,3,U1,false),(P1,4,.bool,false)],[]⟩,[(0,znb)],fun n x kx=>zam k n x.1.1 x.2.1.1 x.2.1.2.1 (fun q_18=>kx 0 (znb.fill (((),()),(q_18,()),()))),k⟩
def zwc (k:Nat):FE:=⟨U3,1,(.sl 3 U1),fun x=>zff k x⟩
theorem zwd (k:Nat):zc Tryd.prog 36 (zwc k):=okC zu (xTc (zn2 k) xTn) xOn Tryd.f36 (orc (zn8 k) (orc (zna k) (orc (znc k) (LOn _)))) (xLo (znc k) (by rintro n ⟨⟨list0,⟨⟩,⟨⟩,⟨⟩⟩,⟨q_1,q_2,⟨⟩⟩,⟨⟩⟩ kx; kernel_rfl) (xLo (zna k) (by rintro n ⟨⟨list0,⟨⟩,⟨⟩,next5,i6,⟨⟩⟩,⟨q_3,q_4,⟨⟩⟩,⟨⟩⟩ kx; kernel_rfl) (xLo (zn8 k) (by rintro n ⟨⟨list0,⟨⟩,⟨⟩,next5,i6,ready7,k8,⟨⟩⟩,⟨q_6,q_7,⟨⟩⟩,⟨⟩⟩ kx; kernel_rfl) xLn))) (by rintro list0; kernel_rfl)
def zcp (k:Nat) (list0:List zT0):Option Bool:=(zfe k list0).bind fun r_1=>(if r_1 then (zff k list0).bind fun r_2=>some (decide ((List.length r_2:Int)=(List.length list0:Int))) else some false)
def zwe (k:Nat):FE:=⟨U3,1,.bool,fun x=>zcp k x⟩
theorem zwf (k:Nat):zc Tryd.prog 21 (zwe k):=okC zu (xTc (zwb k) (xTc (zwd k) xTn)) xOn Tryd.f21 (LOn _) xLn (by rintro list0; kernel_rfl)
def z8y (k:Nat):Nat→Int→zT4→zT3→(zT4→Option zT6)→Option zT6
 | 0,_,_,_,_=>none
 | n+1,i6,q_2,q_3,e_0=>(if (decide (i6<(List.length q_3:Int))) then (if 0≤i6∧i6.toNat<List.length q_3 then (q_3[i6.toNat]?).bind fun y_4=>(zcl k y_4 32).bind fun r_5=>(if (decide ((List.length r_5:Int)<3)) then some ([],false) else (if 0≤(1:Int)∧1<List.length r_5 then (r_5[1]?).bind fun y_6=>(zcm k y_6).bind fun r_7=>(if 0≤(2:Int)∧2<List.length r_5 then (r_5[2]?).bind fun y_8=>(zcm k y_8).bind fun r_9=>(if (!r_7.2) then some ([],false) else (if (!r_9.2) then some ([],false) else (if 0≤(0:Int)∧0<List.length r_5 then (r_5[0]?).bind fun y_10=>(if 0≤(3:Int)∧(3:Int)≤(r_5.length:Int)∧(r_5.length:Int)≤r_5.length then (if (([]:List Unit).length+((r_5.drop 3).take (r_5.length-3)).length)*16≤LIM then (r_5[0]?).bind fun y_11=>(if (y_10:List UInt8)=y_11 then (if (q_2.length+[(y_10,(((r_5.drop 3).take (r_5.length-3)),(r_7.1,r_9.1)))].length)*56≤LIM then z8y k n (za (i6+1)) (q_2++[(y_10,(((r_5.drop 3).take (r_5.length-3)),(r_7.1,r_9.1)))]) q_3 e_0 else none) else none) else none) else none) else none))) else none) else none)) else none) else e_0 q_2)
def zfg (k:Nat) (s0:List UInt8):Option zT6:=(if (decide (s0=[])) then some ([],true) else (zcl k s0 47).bind fun r_1=>z8y k k 0 [] r_1 (fun q_12=>(zcp k q_12).bind fun r_13=>(if (!r_13) then some ([],false) else some (q_12,true))))
def znd:Head:=⟨[(4,(.ref P0 []))],[(P0,32,U0,false)],[]⟩
def zne (k:Nat):LD zT6:=⟨6,⟨[(4,(.ref P0 [])),(5,(.ref P1 [])),(6,V0)],[(P0,32,U0,false),(P1,9,.str,false)],[]⟩,[(0,znd)],fun n x kx=>z8y k n x.1.2.2.1 x.2.1.1 x.2.1.2.1 (fun q_12=>kx 0 (znd.fill (((),()),(q_12,()),()))),k⟩
def zwg (k:Nat):FE:=⟨.str,2,(.pr U3 .bool),fun x=>zfg k x⟩
theorem zwh (k:Nat):zc Tryd.prog 9 (zwg k):=okC zu (xTc (zvz k) (xTc (zw2 k) (xTc (zwf k) xTn))) xOn Tryd.f9 (orc (zne k) (LOn _)) (xLo (zne k) (by rintro n ⟨⟨⟨⟩,⟨⟩,i6,⟨⟩⟩,⟨q_2,q_3,⟨⟩⟩,⟨⟩⟩ kx; kernel_rfl) xLn) (by rintro s0; kernel_rfl)
def zfh (k:Nat) (s0:List UInt8):Option zT6:=(zfg k s0).bind fun r_1=>some (r_1.1,r_1.2)
def zwi (k:Nat):FE:=⟨.str,2,(.pr U3 .bool),fun x=>zfh k x⟩
theorem zwj (k:Nat):zc Tryd.prog 4 (zwi k):=okC zu (xTc (zwh k) xTn) xOn Tryd.f4 (LOn _) xLn (by rintro s0; kernel_rfl)
def znf (s:List UInt8) (c:Int):Option Int:=some ((Lib.countByte s (c.toNat.toUInt8):Nat):Int)
abbrev fe_bytealg_CountString:FE:=fe_countString
theorem zwk:zc Tryd.prog 58 fe_bytealg_CountString:=zvl (fn:=Tryd.f58) (by kernel_rfl) (by kernel_rfl) (by kernel_rfl) (by kernel_rfl) (by kernel_rfl)
def zng (s:List UInt8) (c:Int):Option Int:=some (Lib.indexByte s (c.toNat.toUInt8))
abbrev fe_bytealg_IndexByteString:FE:=fe_indexByteString
theorem zwl:zc Tryd.prog 86 fe_bytealg_IndexByteString:=zvk (fn:=Tryd.f86) (by kernel_rfl) (by kernel_rfl) (by kernel_rfl) (by kernel_rfl) (by kernel_rfl)
def zi7 (s0:List UInt8) (c1:Int):Option Int:=(zng s0 c1).bind fun r_1=>some r_1
def zwm:FE:=⟨(.pr .str U4),1,U1,fun x=>zi7 x.1 x.2⟩
theorem zwn:zc Tryd.prog 71 (zwm):=okC zu (xTc zwl xTn) xOn Tryd.f71 (LOn _) xLn (by rintro ⟨s0,c1⟩; kernel_rfl)
def zi8 (s0:List UInt8) (substr1:List UInt8):Option Int:=(if (decide ((List.length substr1:Int)=0)) then some 0 else (if (decide (substr1=s0)) then some 0 else (if (decide ((List.length substr1:Int)=1)) then (substr1[0]?).bind fun b_1=>(zi7 s0 (z14 b_1)).bind fun r_2=>some r_2 else (if (decide ((List.length s0:Int)≤(List.length substr1:Int))) then some (-1) else none))))
def zwo:FE:=⟨U5,1,U1,fun x=>zi8 x.1 x.2⟩
theorem zwp:zc Tryd.prog 59 (zwo):=okC zu (xTc zwn xTn) xOn Tryd.f59 (LOn _) (xLs xLn) (by rintro ⟨s0,substr1⟩; kernel_rfl)
def zcq (s0:List UInt8) (substr1:List UInt8):Option Int:=(zi8 s0 substr1).bind fun r_1=>some r_1
def zwq:FE:=⟨U5,1,U1,fun x=>zcq x.1 x.2⟩
theorem znh:zc Tryd.prog 39 (zwq):=okC zu (xTc zwp xTn) xOn Tryd.f39 (LOn _) xLn (by rintro ⟨s0,substr1⟩; kernel_rfl)
def zi9 (k:Nat):Nat→zT1→zT1→Int→Option Int
 | 0,_,_,_=>none
 | n+1,s0,substr1,n5=>(zcq s0 substr1).bind fun r_3=>(if (decide (r_3=(-1))) then some n5 else (if 0≤(za (r_3+(List.length substr1:Int)))∧(za (r_3+(List.length substr1:Int)))≤(s0.length:Int)∧(s0.length:Int)≤s0.length then zi9 k n ((s0.drop ((za (r_3+(List.length substr1:Int))).toNat)).take (s0.length-(za (r_3+(List.length substr1:Int))).toNat)) substr1 (za (n5+1)) else none))
def zfi (k:Nat) (s0:List UInt8) (substr1:List UInt8):Option Int:=(if (decide ((List.length substr1:Int)=0)) then none else (if (decide ((List.length substr1:Int)=1)) then (substr1[0]?).bind fun b_1=>(znf s0 (z14 b_1)).bind fun r_2=>some r_2 else zi9 k k s0 substr1 0))
def zni (k:Nat):LD Int:=⟨6,⟨[(0,V2),(1,V2),(5,V0)],[],[]⟩,[],fun n x kx=>zi9 k n x.1.1 x.1.2.1 x.1.2.2.1,k⟩
def zwr (k:Nat):FE:=⟨U5,1,U1,fun x=>zfi k x.1 x.2⟩
theorem zws (k:Nat):zc Tryd.prog 38 (zwr k):=okC zu (xTc zwk (xTc znh xTn)) xOn Tryd.f38 (orc (zni k) (LOn _)) (xLo (zni k) (by rintro n ⟨⟨s0,substr1,n5,⟨⟩⟩,⟨⟩,⟨⟩⟩ kx; kernel_rfl) xLn) (by rintro ⟨s0,substr1⟩; kernel_rfl)
def z8z (k:Nat):Nat→zT1→zT1→Int→Int→Int→zT3→(zT1→Int→zT3→Option zT3)→Option zT3
 | 0,_,_,_,_,_,_,_=>none
 | n+1,s0,sep1,sepSave2,n3,i10,q_2,e_0=>(if (decide (i10<n3)) then (zcq s0 sep1).bind fun r_3=>(if (decide (r_3<0)) then e_0 s0 i10 q_2 else (if 0≤(0:Int)∧(0:Int)≤(za (r_3+sepSave2))∧(za (r_3+sepSave2))≤s0.length then (if 0≤i10∧i10.toNat<List.length q_2 then (q_2[i10.toNat]?).bind fun y_4=>(q_2[i10.toNat]?).bind fun y_5=>(if 0≤(za (r_3+(List.length sep1:Int)))∧(za (r_3+(List.length sep1:Int)))≤(s0.length:Int)∧(s0.length:Int)≤s0.length then z8z k n ((s0.drop ((za (r_3+(List.length sep1:Int))).toNat)).take (s0.length-(za (r_3+(List.length sep1:Int))).toNat)) sep1 sepSave2 n3 (za (i10+1)) (q_2.set i10.toNat (s0.take ((za (r_3+sepSave2)).toNat))) e_0 else none) else none) else none)) else e_0 s0 i10 q_2)
def zia (k:Nat) (s0:List UInt8) (sep1:List UInt8) (sepSave2:Int) (n3:Int):Option zT3:=(if (decide (n3=0)) then some [] else (if (decide (sep1=[])) then none else (if (decide (n3<0)) then (zfi k s0 sep1).bind fun r_1=>(if 0≤(if (za ((List.length s0:Int)+1))<(za (r_1+1)) then (za ((List.length s0:Int)+1)) else (za (r_1+1)))∧(if (za ((List.length s0:Int)+1))<(za (r_1+1)) then (za ((List.length s0:Int)+1)) else (za (r_1+1)))≤(if (za ((List.length s0:Int)+1))<(za (r_1+1)) then (za ((List.length s0:Int)+1)) else (za (r_1+1)))∧(if (za ((List.length s0:Int)+1))<(za (r_1+1)) then (za ((List.length s0:Int)+1)) else (za (r_1+1)))*16≤LIM then z8z k k s0 sep1 sepSave2 (za ((if (za ((List.length s0:Int)+1))<(za (r_1+1)) then (za ((List.length s0:Int)+1)) else (za (r_1+1)))-1)) 0 (List.replicate (if (za ((List.length s0:Int)+1))<(za (r_1+1)) then (za ((List.length s0:Int)+1)) else (za (r_1+1))).toNat ([]:List UInt8)) (fun s_6 i_7 q_8=>(if 0≤i_7∧i_7.toNat<List.length q_8 then (q_8[i_7.toNat]?).bind fun y_9=>(q_8[i_7.toNat]?).bind fun y_10=>(if 0≤(0:Int)∧(0:Int)≤(za (i_7+1))∧(za (i_7+1))≤(q_8.set i_7.toNat s_6).length then some ((q_8.set i_7.toNat s_6).take ((za (i_7+1)).toNat)) else none) else none)) else none) else (if 0≤(if (za ((List.length s0:Int)+1))<n3 then (za ((List.length s0:Int)+1)) else n3)∧(if (za ((List.length s0:Int)+1))<n3 then (za ((List.length s0:Int)+1)) else n3)≤(if (za ((List.length s0:Int)+1))<n3 then (za ((List.length s0:Int)+1)) else n3)∧(if (za ((List.length s0:Int)+1))<n3 then (za ((List.length s0:Int)+1)) else n3)*16≤LIM then z8z k k s0 sep1 sepSave2 (za ((if (za ((List.length s0:Int)+1))<n3 then (za ((List.length s0:Int)+1)) else n3)-1)) 0 (List.replicate (if (za ((List.length s0:Int)+1))<n3 then (za ((List.length s0:Int)+1)) else n3).toNat ([]:List UInt8)) (fun s_11 i_12 q_13=>(if 0≤i_12∧i_12.toNat<List.length q_13 then (q_13[i_12.toNat]?).bind fun y_14=>(q_13[i_12.toNat]?).bind fun y_15=>(if 0≤(0:Int)∧(0:Int)≤(za (i_12+1))∧(za (i_12+1))≤(q_13.set i_12.toNat s_11).length then some ((q_13.set i_12.toNat s_11).take ((za (i_12+1)).toNat)) else none) else none)) else none))))
def znj:Head:=⟨[(0,V2),(9,(.ref P0 [])),(10,V0)],[(P0,9,.str,false)],[]⟩
def znk (k:Nat):LD zT3:=⟨11,⟨[(0,V2),(1,V2),(2,V0),(3,V0),(9,(.ref P0 [])),(10,V0)],[(P0,9,.str,false)],[]⟩,[(0,znj)],fun n x kx=>z8z k n x.1.1 x.1.2.1 x.1.2.2.1 x.1.2.2.2.1 x.1.2.2.2.2.2.1 x.2.1.1 (fun s0 i10 q_4=>kx 0 (znj.fill ((s0,(),i10,()),(q_4,()),()))),k⟩
def zwt (k:Nat):FE:=⟨(.pr .str (.pr .str (.pr U1 U1))),1,U2,fun x=>zia k x.1 x.2.1 x.2.2.1 x.2.2.2⟩
theorem zwu (k:Nat):zc Tryd.prog 22 (zwt k):=okC zu (xTc (zws k) (xTc znh xTn)) xOn Tryd.f22 (orc (znk k) (LOn _)) (xLo (znk k) (by rintro n ⟨⟨s0,sep1,sepSave2,n3,⟨⟩,i10,⟨⟩⟩,⟨q_2,⟨⟩⟩,⟨⟩⟩ kx; kernel_rfl) xLn) (by rintro ⟨s0,sep1,sepSave2,n3⟩; kernel_rfl)
def zcr (k:Nat) (s0:List UInt8) (sep1:List UInt8):Option zT3:=(zia k s0 sep1 0 (-1)).bind fun r_1=>some r_1
def zwv (k:Nat):FE:=⟨U5,1,U2,fun x=>zcr k x.1 x.2⟩
theorem zww (k:Nat):zc Tryd.prog 10 (zwv k):=okC zu (xTc (zwu k) xTn) xOn Tryd.f10 (LOn _) xLn (by rintro ⟨s0,sep1⟩; kernel_rfl)
def zcs (s0:List zT1):Option zT3:=(if List.isEmpty s0 then z9g (some []) ((if (([]:List Unit).length+s0.length)*16≤LIM then some s0 else none)) else (if (([]:List Unit).length+s0.length)*16≤LIM then some s0 else none))
def zwx:FE:=⟨U2,1,U2,fun x=>zcs x⟩
theorem zwy:zc Tryd.prog 11 (zwx):=okC zu xTn xOn Tryd.f11 (LOn _) xLn (by rintro s0; kernel_rfl)
def zib (s0:List UInt8) (prefix1:List UInt8):Option Bool:=(if (decide ((List.length prefix1:Int)≤(List.length s0:Int))) then (if 0≤(0:Int)∧(0:Int)≤(List.length prefix1:Int)∧(List.length prefix1:Int)≤s0.length then some (decide ((s0.take (List.length prefix1))=prefix1)) else none) else some false)
def zwz:FE:=⟨U5,1,.bool,fun x=>zib x.1 x.2⟩
theorem zx0:zc Tryd.prog 60 (zwz):=okC zu xTn xOn Tryd.f60 (LOn _) xLn (by rintro ⟨s0,prefix1⟩; kernel_rfl)
def zic (s0:List UInt8) (prefix1:List UInt8):Option zT1:=(zib s0 prefix1).bind fun r_1=>(if r_1 then (if 0≤(List.length prefix1:Int)∧(List.length prefix1:Int)≤(s0.length:Int)∧(s0.length:Int)≤s0.length then some ((s0.drop (List.length prefix1)).take (s0.length-(List.length prefix1))) else none) else some s0)
def zx1:FE:=⟨U5,1,.str,fun x=>zic x.1 x.2⟩
theorem zx2:zc Tryd.prog 40 (zx1):=okC zu (xTc zx0 xTn) xOn Tryd.f40 (LOn _) xLn (by rintro ⟨s0,prefix1⟩; kernel_rfl)
def zfj (s0:List UInt8) (prefix1:List UInt8):Option zT1:=(zic s0 prefix1).bind fun r_1=>some r_1
def zx3:FE:=⟨U5,1,.str,fun x=>zfj x.1 x.2⟩
theorem zx4:zc Tryd.prog 23 (zx3):=okC zu (xTc zx2 xTn) xOn Tryd.f23 (LOn _) xLn (by rintro ⟨s0,prefix1⟩; kernel_rfl)
def znl (s0:List UInt8) (b1 z2:Int):Option (((Int×(Bool×Unit))×Unit)×Unit×Unit):=if b1=(10:Int)∧z2=(64:Int)∧List.length s0≤281474976710656 then some ((((prs s0).1,((prs s0).2,())),()),(),()) else none
def oc_strconv_ParseInt_s:OC:=oc_parseInt
theorem zx5 : z1s Tryd.prog ti 24 oc_strconv_ParseInt_s := zvw (fn := Tryd.f24) (cd := z2x Tryd.f24) (by kernel_rfl) (by kernel_rfl) (by kernel_rfl) (fun w h => ⟨h.2 "strconv.ErrSyntax" (.head _), h.2 "strconv.ErrRange" (.tail _ (.head _))⟩) (fun s h1 v h2 w => Go.Proofs.Tryd.strconv_ParseInt_10_at64_ok s h1 v h2 w) (fun s h1 h2 tp p w h3 => Go.Proofs.Tryd.strconv_ParseInt_10_at64_syntax_var s h1 h2 tp p w h3) (fun s h1 h2 tp p w h3 => Go.Proofs.Tryd.strconv_ParseInt_10_at64_range_var s h1 h2 tp p w h3)
def znm (n:Int) (b:Int):Option zT1:=if b=10 ∧ -9223372036854775808≤n∧n≤9223372036854775807 then some (Lib.itoa n) else none
abbrev fe_strconv_FormatInt:FE:=fe_formatInt
theorem zx6:zc Tryd.prog 43 fe_strconv_FormatInt:=zvt (fn:=Tryd.f43) (cd:=z2x Tryd.f43) (by kernel_rfl) (by kernel_rfl) (by kernel_rfl) (fun n h0 h1 w hG=>Go.Proofs.Tryd.strconv_FormatInt_10 n h0 h1 w hG.1)
def zan (n0:Int):Option zT1:=(znm n0 10).bind fun r_1=>some r_1
def zx7:FE:=⟨U1,1,.str,fun x=>zan x⟩
theorem znn:zc Tryd.prog 25 (zx7):=okC zu (xTc zx6 xTn) xOn Tryd.f25 (LOn _) xLn (by rintro n0; kernel_rfl)
def zct (s0:List UInt8):Option (Int×Bool):=(zfj s0 [45]).bind fun r_1=>(if (decide ((List.length r_1:Int)<1)) then some (0,false) else (if (decide (18<(List.length r_1:Int))) then some (0,false) else (znl s0 10 64).bind fun y_2=>(if y_2.1.1.2.1 then some (0,false) else (zan y_2.1.1.1).bind fun r_3=>(if (!(decide (r_3=s0))) then some (0,false) else some (y_2.1.1.1,true)))))
def zx8:FE:=⟨.str,2,(.pr U1 .bool),fun x=>zct x⟩
theorem zx9:zc Tryd.prog 12 (zx8):=okC zu (xTc zx4 (xTc znn xTn)) (xOc 19 zx5 xOn) Tryd.f12 (LOn _) xLn (by rintro s0; kernel_rfl)
end
end Go.Proofs.YtbipmejjnalmiaaDoor.Ev
