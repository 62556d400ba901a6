/- Functions of the program, as plain ones. No conditions. -/
import Derived.Test.YtogbhjffiglbjaaG1
import Derived.KernelRfl
set_option linter.unusedVariables false
set_option maxRecDepth 100000
namespace Go.Proofs.Ytogbhjffiglbjaa.Ev
open Go.RowKit
noncomputable section
def zav (k:Nat):Nat→zT2→Int→Int→(Option Bool)→Option Bool
 | 0,_,_,_,_=>none
 | n+1,list0,n1,i5,e_0=>(if (decide (i5<(List.length list0:Int))) then (if 0≤i5 then (list0[i5.toNat]?).bind fun y_1=>(if (decide (y_1=n1)) then some true else zav k n list0 n1 (z7 (i5+1)) e_0) else none) else e_0)
def zff (k:Nat) (list0:List Int) (n1:Int):Option Bool:=zav k k list0 n1 0 (some false)
def znr:Head:=⟨[],[],[]⟩
def zns (k:Nat):LD Bool:=⟨2,⟨[(0,V3),(1,V0),(5,V0)],[],[]⟩,[(0,znr)],fun n x kx=>zav k n x.1.1 x.1.2.1 x.1.2.2.1 (kx 0 (znr.fill ((),(),()))),k⟩
def zwy (k:Nat):FE:=⟨(.pr U3 U1),1,.bool,fun x=>zff k x.1 x.2⟩
theorem zwz (k:Nat):zc Try.prog 72 (zwy k):=okC zu xTn xOn Try.f72 (orc (zns k) (LOn _)) (xLo (zns k) (by rintro n ⟨⟨list0,n1,i5,⟨⟩⟩,⟨⟩,⟨⟩⟩ kx; kernel_rfl) xLn) (by rintro ⟨list0,n1⟩; kernel_rfl)
def zaw (k:Nat):Nat→zT2→zT2→Int→(Option Bool)→Option Bool
 | 0,_,_,_,_=>none
 | n+1,a0,b1,i5,e_0=>(if (decide (i5<(List.length a0:Int))) then (if 0≤i5 then (a0[i5.toNat]?).bind fun y_1=>(zff k b1 y_1).bind fun r_2=>(if (!r_2) then some false else zaw k n a0 b1 (z7 (i5+1)) e_0) else none) else e_0)
def zfg (k:Nat) (a0:List Int) (b1:List Int):Option Bool:=zaw k k a0 b1 0 (some true)
def znt:Head:=⟨[],[],[]⟩
def znu (k:Nat):LD Bool:=⟨2,⟨[(0,V3),(1,V3),(5,V0)],[],[]⟩,[(0,znt)],fun n x kx=>zaw k n x.1.1 x.1.2.1 x.1.2.2.1 (kx 0 (znt.fill ((),(),()))),k⟩
def zx0 (k:Nat):FE:=⟨(.pr U3 U3),1,.bool,fun x=>zfg k x.1 x.2⟩
theorem zx1 (k:Nat):zc Try.prog 68 (zx0 k):=okC zu (xTc (zwz k) xTn) xOn Try.f68 (orc (znu k) (LOn _)) (xLo (znu k) (by rintro n ⟨⟨a0,b1,i5,⟨⟩⟩,⟨⟩,⟨⟩⟩ kx; kernel_rfl) xLn) (by rintro ⟨a0,b1⟩; kernel_rfl)
def z8u (k:Nat):Nat→zT7→zT2→Int→zT2→(zT2→Option zT2)→Option zT2
 | 0,_,_,_,_,_=>none
 | n+1,c0,s1,i6,q_1,e_0=>(if (decide (i6<(List.length c0:Int))) then (if 0≤i6 then (c0[i6.toNat]?).bind fun y_2=>(zfg k s1 y_2).bind fun r_3=>(if r_3 then (if (q_1.length+[i6].length)*8≤LIM then z8u k n c0 s1 (z7 (i6+1)) (q_1++[i6]) e_0 else none) else z8u k n c0 s1 (z7 (i6+1)) q_1 e_0) else none) else e_0 q_1)
def zfh (k:Nat) (c0:List zT2) (s1:List Int):Option zT2:=z8u k k c0 s1 0 [] (fun q_4=>some q_4)
def znv:Head:=⟨[(5,(.ref P0 []))],[(P0,2,U1,false)],[]⟩
def znw (k:Nat):LD zT2:=⟨3,⟨[(0,(.val U6)),(1,V3),(5,(.ref P0 [])),(6,V0)],[(P0,2,U1,false)],[]⟩,[(0,znv)],fun n x kx=>z8u k n x.1.1 x.1.2.1 x.1.2.2.2.1 x.2.1.1 (fun q_4=>kx 0 (znv.fill (((),()),(q_4,()),()))),k⟩
def zx2 (k:Nat):FE:=⟨(.pr U6 U3),1,U3,fun x=>zfh k x.1 x.2⟩
theorem zx3 (k:Nat):zc Try.prog 57 (zx2 k):=okC zu (xTc (zx1 k) xTn) xOn Try.f57 (orc (znw k) (LOn _)) (xLo (znw k) (by rintro n ⟨⟨c0,s1,⟨⟩,i6,⟨⟩⟩,⟨q_1,⟨⟩⟩,⟨⟩⟩ kx; kernel_rfl) xLn) (by rintro ⟨c0,s1⟩; kernel_rfl)
def z8v (k:Nat):Nat→zT7→Int→zT2→(zT2→Option zT2)→Option zT2
 | 0,_,_,_,_=>none
 | n+1,c0,i4,q_1,e_0=>(if (decide (i4<(List.length c0:Int))) then (if 0≤i4 then (c0[i4.toNat]?).bind fun y_2=>(zfh k c0 y_2).bind fun r_3=>(if (decide ((List.length r_3:Int)=1)) then (if (q_1.length+[i4].length)*8≤LIM then z8v k n c0 (z7 (i4+1)) (q_1++[i4]) e_0 else none) else z8v k n c0 (z7 (i4+1)) q_1 e_0) else none) else e_0 q_1)
def zfi (k:Nat) (c0:List zT2):Option zT2:=z8v k k c0 0 [] (fun q_4=>some q_4)
def znx:Head:=⟨[(3,(.ref P0 []))],[(P0,2,U1,false)],[]⟩
def zny (k:Nat):LD zT2:=⟨3,⟨[(0,(.val U6)),(3,(.ref P0 [])),(4,V0)],[(P0,2,U1,false)],[]⟩,[(0,znx)],fun n x kx=>z8v k n x.1.1 x.1.2.2.1 x.2.1.1 (fun q_4=>kx 0 (znx.fill (((),()),(q_4,()),()))),k⟩
def zx4 (k:Nat):FE:=⟨U6,1,U3,fun x=>zfi k x⟩
theorem zx5 (k:Nat):zc Try.prog 48 (zx4 k):=okC zu (xTc (zx3 k) xTn) xOn Try.f48 (orc (zny k) (LOn _)) (xLo (zny k) (by rintro n ⟨⟨c0,⟨⟩,i4,⟨⟩⟩,⟨q_1,⟨⟩⟩,⟨⟩⟩ kx; kernel_rfl) xLn) (by rintro c0; kernel_rfl)
def z6y (k:Nat):Nat→Int→Int→zT2→(Int→zT2→Option zT4)→Option zT4
 | 0,_,_,_,_=>none
 | n+1,n0,m4,q_1,e_0=>(if (!(decide (m4=0))) then (if (decide ((Int.tmod m4 10)<0)) then (if (q_1.length+[(z5q ((z7 (48+(z7 (0-(Int.tmod m4 10)))))))].length)*1≤LIM then z6y k n n0 (z7 (Int.tdiv m4 10)) (q_1++[(z5q ((z7 (48+(z7 (0-(Int.tmod m4 10)))))))]) e_0 else none) else (if (q_1.length+[(z5q ((z7 (48+(Int.tmod m4 10)))))].length)*1≤LIM then z6y k n n0 (z7 (Int.tdiv m4 10)) (q_1++[(z5q ((z7 (48+(Int.tmod m4 10)))))]) e_0 else none)) else e_0 n0 q_1)
def z8w (k:Nat):Nat→Int→zT2→zT2→(zT2→Option zT4)→Option zT4
 | 0,_,_,_,_=>none
 | n+1,i7,q_4,q_5,e_2=>(if (decide (0≤i7)) then (if 0≤i7∧i7.toNat<List.length q_4 then (q_4[i7.toNat]?).bind fun y_6=>(if (q_5.length+[y_6].length)*1≤LIM then z8w k n (z7 (i7-1)) q_4 (q_5++[y_6]) e_2 else none) else none) else e_2 q_5)
def zcj (k:Nat) (n0:Int):Option zT4:=(if (decide (n0=0)) then some [48] else z6y k k n0 n0 [] (fun n_2 q_3=>(if (decide (n_2<0)) then (if (q_3.length+[45].length)*1≤LIM then z8w k k (z7 ((List.length (q_3++[45]):Int)-1)) (q_3++[45]) [] (fun q_7=>some (z32 q_7)) else none) else z8w k k (z7 ((List.length q_3:Int)-1)) q_3 [] (fun q_8=>some (z32 q_8)))))
def znz:Head:=⟨[(0,V0),(3,(.ref P0 []))],[(P0,5,U9,false)],[]⟩
def zo0 (k:Nat):LD zT4:=⟨5,⟨[(0,V0),(3,(.ref P0 [])),(4,V0)],[(P0,5,U9,false)],[]⟩,[(0,znz)],fun n x kx=>z6y k n x.1.1 x.1.2.2.1 x.2.1.1 (fun n0 q_2=>kx 0 (znz.fill ((n0,(),()),(q_2,()),()))),k⟩
def zo1:Head:=⟨[(6,(.ref P0 []))],[(P0,5,U9,false)],[]⟩
def zo2 (k:Nat):LD zT4:=⟨15,⟨[(3,(.ref P0 [])),(6,(.ref P1 [])),(7,V0)],[(P0,5,U9,false),(P1,5,U9,false)],[]⟩,[(2,zo1)],fun n x kx=>z8w k n x.1.2.2.1 x.2.1.1 x.2.1.2.1 (fun q_7=>kx 2 (zo1.fill (((),()),(q_7,()),()))),k⟩
def zx6 (k:Nat):FE:=⟨U1,1,.str,fun x=>zcj k x⟩
theorem zx7 (k:Nat):zc Try.prog 58 (zx6 k):=okC zu xTn xOn Try.f58 (orc (zo0 k) (orc (zo2 k) (LOn _))) (xLo (zo0 k) (by rintro n ⟨⟨n0,⟨⟩,m4,⟨⟩⟩,⟨q_1,⟨⟩⟩,⟨⟩⟩ kx; kernel_rfl) (xLo (zo2 k) (by rintro n ⟨⟨⟨⟩,⟨⟩,i7,⟨⟩⟩,⟨q_4,q_5,⟨⟩⟩,⟨⟩⟩ kx; kernel_rfl) xLn)) (by rintro n0; kernel_rfl)
def z8x (k:Nat):Nat→zT2→zT4→Int→(zT4→Option zT4)→Option zT4
 | 0,_,_,_,_=>none
 | n+1,list0,out3,i4,e_0=>(if (decide (i4<(List.length list0:Int))) then (if (decide (0<i4)) then (if out3.length+[44].length≤9223372036854775807 then (if 0≤i4 then (list0[i4.toNat]?).bind fun y_1=>(zcj k y_1).bind fun r_2=>(if (out3++[44]).length+r_2.length≤9223372036854775807 then z8x k n list0 ((out3++[44])++r_2) (z7 (i4+1)) e_0 else none) else none) else none) else (if 0≤i4 then (list0[i4.toNat]?).bind fun y_3=>(zcj k y_3).bind fun r_4=>(if out3.length+r_4.length≤9223372036854775807 then z8x k n list0 (out3++r_4) (z7 (i4+1)) e_0 else none) else none)) else e_0 out3)
def zck (k:Nat) (list0:List Int):Option zT4:=(if (decide ((List.length list0:Int)=0)) then some [45] else z8x k k list0 [] 0 (fun out_5=>some out_5))
def zo3:Head:=⟨[(3,V5)],[],[]⟩
def zo4 (k:Nat):LD zT4:=⟨5,⟨[(0,V3),(3,V5),(4,V0)],[],[]⟩,[(0,zo3)],fun n x kx=>z8x k n x.1.1 x.1.2.1 x.1.2.2.1 (fun out3=>kx 0 (zo3.fill ((out3,()),(),()))),k⟩
def zx8 (k:Nat):FE:=⟨U3,1,.str,fun x=>zck k x⟩
theorem zx9 (k:Nat):zc Try.prog 49 (zx8 k):=okC zu (xTc (zx7 k) xTn) xOn Try.f49 (orc (zo4 k) (LOn _)) (xLo (zo4 k) (by rintro n ⟨⟨list0,out3,i4,⟨⟩⟩,⟨⟩,⟨⟩⟩ kx; kernel_rfl) xLn) (by rintro list0; kernel_rfl)
def z8y (k:Nat):Nat→zT7→zT4→Int→zT2→(zT4→Option zT4)→Option zT4
 | 0,_,_,_,_,_=>none
 | n+1,c0,out4,i5,q_2,e_0=>(if (decide (i5<(List.length q_2:Int))) then (if (decide (0<i5)) then (if out4.length+[47].length≤9223372036854775807 then (if 0≤i5∧i5.toNat<List.length q_2 then (q_2[i5.toNat]?).bind fun y_3=>(if 0≤y_3 then (c0[y_3.toNat]?).bind fun y_4=>(zck k y_4).bind fun r_5=>(if (out4++[47]).length+r_5.length≤9223372036854775807 then z8y k n c0 ((out4++[47])++r_5) (z7 (i5+1)) q_2 e_0 else none) else none) else none) else none) else (if 0≤i5∧i5.toNat<List.length q_2 then (q_2[i5.toNat]?).bind fun y_6=>(if 0≤y_6 then (c0[y_6.toNat]?).bind fun y_7=>(zck k y_7).bind fun r_8=>(if out4.length+r_8.length≤9223372036854775807 then z8y k n c0 (out4++r_8) (z7 (i5+1)) q_2 e_0 else none) else none) else none)) else e_0 out4)
def zax (k:Nat) (c0:List zT2):Option zT4:=(zfi k c0).bind fun r_1=>z8y k k c0 [] 0 r_1 (fun out_9=>(if (decide (out_9=[])) then some [45] else some out_9))
def zo5:Head:=⟨[(4,V5)],[],[]⟩
def zo6 (k:Nat):LD zT4:=⟨4,⟨[(0,(.val U6)),(3,(.ref P0 [])),(4,V5),(5,V0)],[(P0,2,U1,false)],[]⟩,[(0,zo5)],fun n x kx=>z8y k n x.1.1 x.1.2.2.1 x.1.2.2.2.1 x.2.1.1 (fun out4=>kx 0 (zo5.fill ((out4,()),(),()))),k⟩
def zxa (k:Nat):FE:=⟨U6,1,.str,fun x=>zax k x⟩
theorem zxb (k:Nat):zc Try.prog 39 (zxa k):=okC zu (xTc (zx5 k) (xTc (zx9 k) xTn)) xOn Try.f39 (orc (zo6 k) (LOn _)) (xLo (zo6 k) (by rintro n ⟨⟨c0,⟨⟩,out4,i5,⟨⟩⟩,⟨q_2,⟨⟩⟩,⟨⟩⟩ kx; kernel_rfl) xLn) (by rintro c0; kernel_rfl)
def zfj (k:Nat) (v_1000000000a:List Int) (v_1000000000ba:Int) (v_1000000000bb:Int):Option ((((zT4×(zT4×zT4))×Unit)×Unit×zT3)):=(z8t [[99,111,109,112,108,101,120],[110,111,116,101],[102,97,99,101]] v_1000000000a v_1000000000ba v_1000000000bb).bind fun y_1=>(z8t [[97],[98],[99],[100]] y_1.2.2.1.1 y_1.2.2.1.2.1 y_1.2.2.1.2.2).bind fun y_2=>(z8t [[],[120],[97,32,98,32,99],[49,50,32,51,52],[111,97,107,47,52,48]] y_2.2.2.1.1 y_2.2.2.1.2.1 y_2.2.2.1.2.2).bind fun y_3=>(z2v 4 y_3.2.2.1.1 y_3.2.2.1.2.1 y_3.2.2.1.2.2).bind fun y_4=>(if y_4.1.1 then (zcg k 9 y_4.2.2.1.1 y_4.2.2.1.2.1 y_4.2.2.1.2.2).bind fun y_5=>(if (y_3.1.1:List UInt8)=y_3.1.1 then (if y_3.1.1.length+y_5.1.1.length≤9223372036854775807 then (if (decide (y_1.1.1=[99,111,109,112,108,101,120])) then (z2v 2 y_5.2.2.1.1 y_5.2.2.1.2.1 y_5.2.2.1.2.2).bind fun y_6=>(if y_6.1.1 then (zau k y_6.2.2.1.1 y_6.2.2.1.2.1 y_6.2.2.1.2.2).bind fun y_7=>(zax k y_7.2.1.1).bind fun r_8=>(z2v 24 y_7.2.2.1.1 y_7.2.2.1.2.1 y_7.2.2.1.2.2).bind fun y_9=>(if y_9.1.1 then (z2e 3 y_9.2.2.1.1 y_9.2.2.1.2.1 y_9.2.2.1.2.2).bind fun y_10=>(if 0≤(z7 (399+y_10.1.1))∧(z7 (399+y_10.1.1))≤(z7 (399+y_10.1.1))∧(z7 (399+y_10.1.1))*1≤LIM then some (((y_1.1.1,(y_2.1.1,(z32 (List.replicate (z7 (399+y_10.1.1)).toNat 0)))),()),(),((y_10.2.2.1.1,(y_10.2.2.1.2.1,y_10.2.2.1.2.2)),())) else none) else some (((y_1.1.1,(y_2.1.1,r_8)),()),(),((y_9.2.2.1.1,(y_9.2.2.1.2.1,y_9.2.2.1.2.2)),()))) else (z2v 24 y_6.2.2.1.1 y_6.2.2.1.2.1 y_6.2.2.1.2.2).bind fun y_11=>(if y_11.1.1 then (z2e 3 y_11.2.2.1.1 y_11.2.2.1.2.1 y_11.2.2.1.2.2).bind fun y_12=>(if 0≤(z7 (399+y_12.1.1))∧(z7 (399+y_12.1.1))≤(z7 (399+y_12.1.1))∧(z7 (399+y_12.1.1))*1≤LIM then some (((y_1.1.1,(y_2.1.1,(z32 (List.replicate (z7 (399+y_12.1.1)).toNat 0)))),()),(),((y_12.2.2.1.1,(y_12.2.2.1.2.1,y_12.2.2.1.2.2)),())) else none) else some (((y_1.1.1,(y_2.1.1,(y_3.1.1++y_5.1.1))),()),(),((y_11.2.2.1.1,(y_11.2.2.1.2.1,y_11.2.2.1.2.2)),())))) else (z2v 24 y_5.2.2.1.1 y_5.2.2.1.2.1 y_5.2.2.1.2.2).bind fun y_13=>(if y_13.1.1 then (z2e 3 y_13.2.2.1.1 y_13.2.2.1.2.1 y_13.2.2.1.2.2).bind fun y_14=>(if 0≤(z7 (399+y_14.1.1))∧(z7 (399+y_14.1.1))≤(z7 (399+y_14.1.1))∧(z7 (399+y_14.1.1))*1≤LIM then some (((y_1.1.1,(y_2.1.1,(z32 (List.replicate (z7 (399+y_14.1.1)).toNat 0)))),()),(),((y_14.2.2.1.1,(y_14.2.2.1.2.1,y_14.2.2.1.2.2)),())) else none) else some (((y_1.1.1,(y_2.1.1,(y_3.1.1++y_5.1.1))),()),(),((y_13.2.2.1.1,(y_13.2.2.1.2.1,y_13.2.2.1.2.2)),())))) else none) else none) else (if (decide (y_1.1.1=[99,111,109,112,108,101,120])) then (z2v 2 y_4.2.2.1.1 y_4.2.2.1.2.1 y_4.2.2.1.2.2).bind fun y_15=>(if y_15.1.1 then (zau k y_15.2.2.1.1 y_15.2.2.1.2.1 y_15.2.2.1.2.2).bind fun y_16=>(zax k y_16.2.1.1).bind fun r_17=>(z2v 24 y_16.2.2.1.1 y_16.2.2.1.2.1 y_16.2.2.1.2.2).bind fun y_18=>(if y_18.1.1 then (z2e 3 y_18.2.2.1.1 y_18.2.2.1.2.1 y_18.2.2.1.2.2).bind fun y_19=>(if 0≤(z7 (399+y_19.1.1))∧(z7 (399+y_19.1.1))≤(z7 (399+y_19.1.1))∧(z7 (399+y_19.1.1))*1≤LIM then some (((y_1.1.1,(y_2.1.1,(z32 (List.replicate (z7 (399+y_19.1.1)).toNat 0)))),()),(),((y_19.2.2.1.1,(y_19.2.2.1.2.1,y_19.2.2.1.2.2)),())) else none) else some (((y_1.1.1,(y_2.1.1,r_17)),()),(),((y_18.2.2.1.1,(y_18.2.2.1.2.1,y_18.2.2.1.2.2)),()))) else (z2v 24 y_15.2.2.1.1 y_15.2.2.1.2.1 y_15.2.2.1.2.2).bind fun y_20=>(if y_20.1.1 then (z2e 3 y_20.2.2.1.1 y_20.2.2.1.2.1 y_20.2.2.1.2.2).bind fun y_21=>(if 0≤(z7 (399+y_21.1.1))∧(z7 (399+y_21.1.1))≤(z7 (399+y_21.1.1))∧(z7 (399+y_21.1.1))*1≤LIM then some (((y_1.1.1,(y_2.1.1,(z32 (List.replicate (z7 (399+y_21.1.1)).toNat 0)))),()),(),((y_21.2.2.1.1,(y_21.2.2.1.2.1,y_21.2.2.1.2.2)),())) else none) else some (((y_1.1.1,(y_2.1.1,y_3.1.1)),()),(),((y_20.2.2.1.1,(y_20.2.2.1.2.1,y_20.2.2.1.2.2)),())))) else (z2v 24 y_4.2.2.1.1 y_4.2.2.1.2.1 y_4.2.2.1.2.2).bind fun y_22=>(if y_22.1.1 then (z2e 3 y_22.2.2.1.1 y_22.2.2.1.2.1 y_22.2.2.1.2.2).bind fun y_23=>(if 0≤(z7 (399+y_23.1.1))∧(z7 (399+y_23.1.1))≤(z7 (399+y_23.1.1))∧(z7 (399+y_23.1.1))*1≤LIM then some (((y_1.1.1,(y_2.1.1,(z32 (List.replicate (z7 (399+y_23.1.1)).toNat 0)))),()),(),((y_23.2.2.1.1,(y_23.2.2.1.2.1,y_23.2.2.1.2.2)),())) else none) else some (((y_1.1.1,(y_2.1.1,y_3.1.1)),()),(),((y_22.2.2.1.1,(y_22.2.2.1.2.1,y_22.2.2.1.2.2)),())))))
def zxc (k:Nat):OC:=⟨⟨[(0,(.bp 1000000000 [] 0))],[],[(1000000000,50,(.st (.pr V1 (.pr V0 V2))))]⟩,⟨[(0,(.st (.pr V5 (.pr V5 V5))))],[],[(1000000000,50,(.st (.pr V1 (.pr V0 V2))))]⟩,fun x=>zfj k x.2.2.1.1 x.2.2.1.2.1 x.2.2.1.2.2,true⟩
theorem zxd (k:Nat):z11 Try.prog tiR 25 (zxc k):=okO z8s (xTc (zxb k) xTn) (xOc 7 (zid.to z4q) (xOc 11 (zid.to z4q) (xOc 15 (zid.to z4q) (xOc 18 (zfa.to z4q) (xOc 22 ((zwg k).to z4q) (xOc 30 (zfa.to z4q) (xOc 33 (zwx k) (xOc 37 (zfa.to z4q) (xOc 39 (z64.to z4q) xOn))))))))) Try.f25 (LOn _) (fun _ _=>xLn) (by rintro _ _ ⟨⟨⟨⟩,⟨⟩⟩,⟨⟩,⟨⟨v_1000000000a,⟨v_1000000000ba,v_1000000000bb⟩⟩,⟨⟩⟩⟩; kernel_rfl)
def zcl (c0:Int):Option Bool:=(if (decide (97≤c0)) then some (decide (c0≤122)) else some false)
def zxe:FE:=⟨U9,1,.bool,fun x=>zcl x⟩
theorem zxf:zc Try.prog 53 (zxe):=okC zu xTn xOn Try.f53 (LOn _) xLn (by rintro c0; kernel_rfl)
def zfk (c0:Int):Option Bool:=(if (decide (48≤c0)) then some (decide (c0≤57)) else some false)
def zxg:FE:=⟨U9,1,.bool,fun x=>zfk x⟩
theorem zxh:zc Try.prog 54 (zxg):=okC zu xTn xOn Try.f54 (LOn _) xLn (by rintro c0; kernel_rfl)
def z7x (k:Nat):Nat→zT4→Int→(Option Bool)→Option Bool
 | 0,_,_,_=>none
 | n+1,s0,i3,e_0=>(if (decide (i3<(List.length s0:Int))) then (if 0≤i3 then (s0[i3.toNat]?).bind fun b_3=>(zcl (z_u8 b_3)).bind fun r_4=>(if (!r_4) then (if 0≤i3 then (s0[i3.toNat]?).bind fun b_5=>(zfk (z_u8 b_5)).bind fun r_6=>(if (!r_6) then some false else z7x k n s0 (z7 (i3+1)) e_0) else none) else z7x k n s0 (z7 (i3+1)) e_0) else none) else e_0)
def z8z (k:Nat) (s0:List UInt8):Option Bool:=(if (decide (s0=[])) then some false else (if (decide (10<(List.length s0:Int))) then some false else (s0[0]?).bind fun b_1=>(zcl (z_u8 b_1)).bind fun r_2=>(if (!r_2) then some false else z7x k k s0 0 (some true))))
def zo7:Head:=⟨[],[],[]⟩
def zo8 (k:Nat):LD Bool:=⟨4,⟨[(0,V5),(3,V0)],[],[]⟩,[(0,zo7)],fun n x kx=>z7x k n x.1.1 x.1.2.1 (kx 0 (zo7.fill ((),(),()))),k⟩
def zxi (k:Nat):FE:=⟨.str,1,.bool,fun x=>z8z k x⟩
theorem zxj (k:Nat):zc Try.prog 45 (zxi k):=okC zu (xTc zxf (xTc zxh xTn)) xOn Try.f45 (orc (zo8 k) (LOn _)) (xLo (zo8 k) (by rintro n ⟨⟨s0,i3,⟨⟩⟩,⟨⟩,⟨⟩⟩ kx; kernel_rfl) xLn) (by rintro s0; kernel_rfl)
def zay (k:Nat):Nat→zT0→Int→(zT0→Option Bool)→Option Bool
 | 0,_,_,_=>none
 | n+1,b0,i3,e_0=>(if (decide (i3<(List.length b0.2.2:Int))) then (if 0≤i3 then (b0.2.2[i3.toNat]?).bind fun b_1=>(if (decide ((z_u8 b_1)=10)) then some false else zay k n b0 (z7 (i3+1)) e_0) else none) else e_0 b0)
def zcm (k:Nat) (b0:List UInt8×List UInt8×List UInt8):Option Bool:=zay k k b0 0 (fun b_2=>(z8z k b_2.1).bind fun r_3=>(if r_3 then (z8z k b_2.2.1).bind fun r_4=>(if r_4 then some (decide ((List.length b_2.2.2:Int)≤400)) else some false) else some false))
def zo9:Head:=⟨[(0,(.val (.ptr U0)))],[],[]⟩
def zoa (k:Nat):LD Bool:=⟨2,⟨[(0,(.val (.ptr U0))),(3,V0)],[],[]⟩,[(0,zo9)],fun n x kx=>zay k n x.1.1 x.1.2.1 (fun b0=>kx 0 (zo9.fill ((b0,()),(),()))),k⟩
def zxk (k:Nat):FE:=⟨(.ptr U0),1,.bool,fun x=>zcm k x⟩
theorem zob (k:Nat):zc Try.prog 31 (zxk k):=okC zu (xTc (zxj k) xTn) xOn Try.f31 (orc (zoa k) (LOn _)) (xLo (zoa k) (by rintro n ⟨⟨b0,i3,⟨⟩⟩,⟨⟩,⟨⟩⟩ kx; kernel_rfl) xLn) (by rintro b0; kernel_rfl)
def zcn (a0:List UInt8×List UInt8×List UInt8) (b1:List UInt8×List UInt8×List UInt8):Option Bool:=(if (Op.bytesLess a0.1 b1.1) then some true else (if (decide (a0.1=b1.1)) then some (Op.bytesLess a0.2.1 b1.2.1) else some false))
def zxl:FE:=⟨(.pr (.ptr U0) (.ptr U0)),1,.bool,fun x=>zcn x.1 x.2⟩
theorem zoc:zc Try.prog 32 (zxl):=okC zu xTn xOn Try.f32 (LOn _) xLn (by rintro ⟨a0,b1⟩; kernel_rfl)
def z90 (k:Nat):Nat→zT5→Int→(zT5→Option Bool)→Option Bool
 | 0,_,_,_=>none
 | n+1,list0,i3,e_0=>(if (decide (i3<(List.length list0:Int))) then (if 0≤i3 then (list0[i3.toNat]?).bind fun y_1=>(zcm k y_1).bind fun r_2=>(if (!r_2) then some false else (if (decide (0<i3)) then (if 0≤(z7 (i3-1)) then (list0[(z7 (i3-1)).toNat]?).bind fun y_3=>(if 0≤i3 then (list0[i3.toNat]?).bind fun y_4=>(zcn y_3 y_4).bind fun r_5=>(if (!r_5) then some false else z90 k n list0 (z7 (i3+1)) e_0) else none) else none) else z90 k n list0 (z7 (i3+1)) e_0)) else none) else e_0 list0)
def zco (k:Nat) (list0:List zT0):Option Bool:=z90 k k list0 0 (fun list_6=>some (decide ((List.length list_6:Int)≤32)))
def zod:Head:=⟨[(0,V4)],[],[]⟩
def zoe (k:Nat):LD Bool:=⟨2,⟨[(0,V4),(3,V0)],[],[]⟩,[(0,zod)],fun n x kx=>z90 k n x.1.1 x.1.2.1 (fun list0=>kx 0 (zod.fill ((list0,()),(),()))),k⟩
def zxm (k:Nat):FE:=⟨U4,1,.bool,fun x=>zco k x⟩
theorem zof (k:Nat):zc Try.prog 22 (zxm k):=okC zu (xTc (zob k) (xTc zoc xTn)) xOn Try.f22 (orc (zoe k) (LOn _)) (xLo (zoe k) (by rintro n ⟨⟨list0,i3,⟨⟩⟩,⟨⟩,⟨⟩⟩ kx; kernel_rfl) xLn) (by rintro list0; kernel_rfl)
def z4c (k:Nat):Nat→zT5→Bool→Int→zT5→zT0→(Bool→zT5→zT0→Option zT5)→Option zT5
 | 0,_,_,_,_,_,_=>none
 | n+1,list0,done6,i7,q_1,v_3,e_0=>(if (decide (i7<(List.length list0:Int))) then (if (!done6) then (if 0≤i7 then (list0[i7.toNat]?).bind fun y_2=>(zcn y_2 v_3).bind fun r_3=>(if (!r_3) then (if (q_1.length+[v_3].length)*48≤LIM then (if 0≤i7 then (list0[i7.toNat]?).bind fun y_4=>(if (!(decide (y_4.1=v_3.1))) then (if 0≤i7 then (list0[i7.toNat]?).bind fun y_5=>(if ((q_1++[v_3]).length+[y_5].length)*48≤LIM then z4c k n list0 true (z7 (i7+1)) ((q_1++[v_3])++[y_5]) v_3 e_0 else none) else none) else (if 0≤i7 then (list0[i7.toNat]?).bind fun y_6=>(if (!(decide (y_6.2.1=v_3.2.1))) then (if 0≤i7 then (list0[i7.toNat]?).bind fun y_7=>(if ((q_1++[v_3]).length+[y_7].length)*48≤LIM then z4c k n list0 true (z7 (i7+1)) ((q_1++[v_3])++[y_7]) v_3 e_0 else none) else none) else z4c k n list0 true (z7 (i7+1)) (q_1++[v_3]) v_3 e_0) else none)) else none) else none) else (if 0≤i7 then (list0[i7.toNat]?).bind fun y_8=>(if (!(decide (y_8.1=v_3.1))) then (if 0≤i7 then (list0[i7.toNat]?).bind fun y_9=>(if (q_1.length+[y_9].length)*48≤LIM then z4c k n list0 done6 (z7 (i7+1)) (q_1++[y_9]) v_3 e_0 else none) else none) else (if 0≤i7 then (list0[i7.toNat]?).bind fun y_10=>(if (!(decide (y_10.2.1=v_3.2.1))) then (if 0≤i7 then (list0[i7.toNat]?).bind fun y_11=>(if (q_1.length+[y_11].length)*48≤LIM then z4c k n list0 done6 (z7 (i7+1)) (q_1++[y_11]) v_3 e_0 else none) else none) else z4c k n list0 done6 (z7 (i7+1)) q_1 v_3 e_0) else none)) else none)) else none) else (if 0≤i7 then (list0[i7.toNat]?).bind fun y_12=>(if (!(decide (y_12.1=v_3.1))) then (if 0≤i7 then (list0[i7.toNat]?).bind fun y_13=>(if (q_1.length+[y_13].length)*48≤LIM then z4c k n list0 done6 (z7 (i7+1)) (q_1++[y_13]) v_3 e_0 else none) else none) else (if 0≤i7 then (list0[i7.toNat]?).bind fun y_14=>(if (!(decide (y_14.2.1=v_3.2.1))) then (if 0≤i7 then (list0[i7.toNat]?).bind fun y_15=>(if (q_1.length+[y_15].length)*48≤LIM then z4c k n list0 done6 (z7 (i7+1)) (q_1++[y_15]) v_3 e_0 else none) else none) else z4c k n list0 done6 (z7 (i7+1)) q_1 v_3 e_0) else none)) else none)) else e_0 done6 q_1 v_3)
def zfl (k:Nat) (list0:List zT0) (b1:List UInt8×List UInt8×List UInt8):Option zT5:=z4c k k list0 false 0 [] b1 (fun done_16 q_17 v_18=>(if (!done_16) then (if (q_17.length+[v_18].length)*48≤LIM then some (q_17++[v_18]) else none) else some q_17))
def zog:Head:=⟨[(3,(.bp 3 [] 0)),(5,(.ref P0 [])),(6,V6)],[(P0,27,U0,false)],[(3,27,(.val U0))]⟩
def zoh (k:Nat):LD zT5:=⟨4,⟨[(0,V4),(3,(.bp 3 [] 0)),(5,(.ref P0 [])),(6,V6),(7,V0)],[(P0,27,U0,false)],[(3,27,(.val U0))]⟩,[(0,zog)],fun n x kx=>z4c k n x.1.1 x.1.2.2.2.1 x.1.2.2.2.2.1 x.2.1.1 x.2.2.1 (fun done6 q_16 v_3=>kx 0 (zog.fill (((),(),done6,()),(q_16,()),(v_3,())))),k⟩
def zxn (k:Nat):FE:=⟨(.pr U4 U0),1,U4,fun x=>zfl k x.1 x.2⟩
theorem zxo (k:Nat):zc Try.prog 34 (zxn k):=okC zu (xTc zoc xTn) xOn Try.f34 (orc (zoh k) (LOn _)) (xLo (zoh k) (by rintro n ⟨⟨list0,⟨⟩,⟨⟩,done6,i7,⟨⟩⟩,⟨q_1,⟨⟩⟩,⟨v_3,⟨⟩⟩⟩ kx; kernel_rfl) xLn) (by rintro ⟨list0,b1⟩; kernel_rfl)
def zfm (k:Nat) (list0:List zT0) (b1:List UInt8×List UInt8×List UInt8):Option (zT5×Int):=(zco k list0).bind fun r_1=>(if (!r_1) then some ([],1) else (zcm k b1).bind fun r_2=>(if (!r_2) then some ([],1) else (zfl k list0 b1).bind fun r_3=>(if (decide (32<(List.length r_3:Int))) then some ([],5) else some (r_3,0))))
def zxp (k:Nat):FE:=⟨(.pr U4 U0),2,(.pr U4 U1),fun x=>zfm k x.1 x.2⟩
theorem zxq (k:Nat):zc Try.prog 24 (zxp k):=okC zu (xTc (zof k) (xTc (zob k) (xTc (zxo k) xTn))) xOn Try.f24 (LOn _) xLn (by rintro ⟨list0,b1⟩; kernel_rfl)
def z91 (k:Nat):Nat→Int→zT5→zT2→Int→Int→(zT5→zT2→Int→Int→Option zT10)→Option zT10
 | 0,_,_,_,_,_,_=>none
 | n+1,k4,q_2,v_1000000000a,v_1000000000ba,v_1000000000bb,e_0=>(if (decide (0<k4)) then (zfj k v_1000000000a v_1000000000ba v_1000000000bb).bind fun y_3=>(zfm k q_2 (y_3.1.1.1,(y_3.1.1.2.1,y_3.1.1.2.2))).bind fun r_4=>(if (decide (r_4.2=0)) then z91 k n (z7 (k4-1)) r_4.1 y_3.2.2.1.1 y_3.2.2.1.2.1 y_3.2.2.1.2.2 e_0 else z91 k n (z7 (k4-1)) q_2 y_3.2.2.1.1 y_3.2.2.1.2.1 y_3.2.2.1.2.2 e_0) else e_0 q_2 v_1000000000a v_1000000000ba v_1000000000bb)
def zih (k:Nat) (v_1000000000a:List Int) (v_1000000000ba:Int) (v_1000000000bb:Int):Option zT10:=(z2e 6 v_1000000000a v_1000000000ba v_1000000000bb).bind fun y_1=>z91 k k y_1.1.1 [] y_1.2.2.1.1 y_1.2.2.1.2.1 y_1.2.2.1.2.2 (fun q_5 v_1000000000a_6 v_1000000000ba_7 v_1000000000bb_8=>some (((),()),(q_5,()),((v_1000000000a_6,(v_1000000000ba_7,v_1000000000bb_8)),())))
def zoi:Head:=⟨[(3,(.ref P0 []))],[(P0,27,U0,false)],[(1000000000,50,(.st (.pr V1 (.pr V0 V2))))]⟩
def zoj (k:Nat):LD zT10:=⟨3,⟨[(0,(.bp 1000000000 [] 0)),(3,(.ref P0 [])),(4,V0)],[(P0,27,U0,false)],[(1000000000,50,(.st (.pr V1 (.pr V0 V2))))]⟩,[(0,zoi)],fun n x kx=>z91 k n x.1.2.2.1 x.2.1.1 x.2.2.1.1 x.2.2.1.2.1 x.2.2.1.2.2 (fun q_5 v_1000000000a v_1000000000ba v_1000000000bb=>kx 0 (zoi.fill (((),()),(q_5,()),((v_1000000000a,(v_1000000000ba,v_1000000000bb)),())))),k⟩
def zxr (k:Nat):OC:=⟨⟨[(0,(.bp 1000000000 [] 0))],[],[(1000000000,50,(.st (.pr V1 (.pr V0 V2))))]⟩,⟨[(0,(.ref P0 []))],[(P0,27,U0,false)],[(1000000000,50,(.st (.pr V1 (.pr V0 V2))))]⟩,fun x=>zih k x.2.2.1.1 x.2.2.1.2.1 x.2.2.1.2.2,true⟩
theorem zxs (k:Nat):z11 Try.prog tiR 14 (zxr k):=okO z8s (xTc (zxq k) xTn) (xOc 9 (z64.to z4q) (xOc 17 (zxd k) xOn)) Try.f14 (orc (zoj k) (LOn _)) (fun _ _=>xLo (zoj k) (by rintro n ⟨⟨⟨⟩,⟨⟩,k4,⟨⟩⟩,⟨q_2,⟨⟩⟩,⟨⟨v_1000000000a,⟨v_1000000000ba,v_1000000000bb⟩⟩,⟨⟩⟩⟩ kx; kernel_rfl) xLn) (by rintro _ _ ⟨⟨⟨⟩,⟨⟩⟩,⟨⟩,⟨⟨v_1000000000a,⟨v_1000000000ba,v_1000000000bb⟩⟩,⟨⟩⟩⟩; kernel_rfl)
def zcp (k:Nat) (code0:List Int):Option zT5:=(zib code0).bind fun r_1=>(zih k r_1.1 r_1.2.1 r_1.2.2).bind fun y_2=>some y_2.2.1.1
def zxt (k:Nat):FE:=⟨U2,1,U4,fun x=>zcp k x⟩
theorem zxu (k:Nat):zc Try.prog 5 (zxt k):=okC z8s (xTc zwa xTn) (xOc 7 (zxs k) xOn) Try.f5 (LOn _) xLn (by rintro code0; kernel_rfl)
def z65 (k:Nat):Nat→Int→Int→zT2→(Option Bool)→Option Bool
 | 0,_,_,_,_=>none
 | n+1,x17,x18,q_1,e_0=>(if (decide (x18<x17)) then (if 0≤x18∧x18.toNat<List.length q_1 then (q_1[x18.toNat]?).bind fun y_2=>(if (decide (97≤y_2)) then (if (decide (48≤y_2)) then (if (!(decide (y_2≤122))) then (if (decide (x18=0)) then some false else (if (!(decide (y_2≤57))) then some false else z65 k n x17 (z7 (x18+1)) q_1 e_0)) else z65 k n x17 (z7 (x18+1)) q_1 e_0) else (if (!(decide (y_2≤122))) then (if (decide (x18=0)) then some false else some false) else z65 k n x17 (z7 (x18+1)) q_1 e_0)) else (if (decide (48≤y_2)) then (if (decide (x18=0)) then some false else (if (!(decide (y_2≤57))) then some false else z65 k n x17 (z7 (x18+1)) q_1 e_0)) else (if (decide (x18=0)) then some false else some false))) else none) else e_0)
def zcq (k:Nat) (s0:List UInt8):Option Bool:=(if (decide ((List.length s0:Int)<1)) then some false else (if (decide (10<(List.length s0:Int))) then some false else (if s0.length≤LIM then z65 k k (List.length (z8q s0):Int) 0 (z8q s0) (some true) else none)))
def zok:Head:=⟨[],[],[]⟩
def zol (k:Nat):LD Bool:=⟨4,⟨[(16,(.ref P0 [])),(17,V0),(18,V0)],[(P0,5,U9,true)],[]⟩,[(0,zok)],fun n x kx=>z65 k n x.1.2.1 x.1.2.2.1 x.2.1.1 (kx 0 (zok.fill ((),(),()))),k⟩
def zxv (k:Nat):FE:=⟨.str,1,.bool,fun x=>zcq k x⟩
theorem zxw (k:Nat):zc Try.prog 27 (zxv k):=okC zu xTn xOn Try.f27 (orc (zol k) (LOn _)) (xLo (zol k) (by rintro n ⟨⟨⟨⟩,x17,x18,⟨⟩⟩,⟨q_1,⟨⟩⟩,⟨⟩⟩ kx; kernel_rfl) xLn) (by rintro s0; kernel_rfl)
def zom (s:List UInt8) (c:Int):Option Int:=some (Lib.indexByte s (c.toNat.toUInt8))
abbrev fe_bytealg_IndexByteString:FE:=fe_indexByteString
theorem zxx:zc Try.prog 69 fe_bytealg_IndexByteString:=zvr (fn:=Try.f69) (by kernel_rfl) (by kernel_rfl) (by kernel_rfl) (by kernel_rfl) (by kernel_rfl)
def zii (s0:List UInt8) (c1:Int):Option Int:=(zom s0 c1).bind fun r_1=>some r_1
def zxy:FE:=⟨(.pr .str U9),1,U1,fun x=>zii x.1 x.2⟩
theorem zxz:zc Try.prog 59 (zxy):=okC zu (xTc zxx xTn) xOn Try.f59 (LOn _) xLn (by rintro ⟨s0,c1⟩; kernel_rfl)
def zij (s0:List UInt8) (substr1:List UInt8):Option Int:=(if (decide ((List.length substr1:Int)=0)) then some 0 else (if (decide (substr1=s0)) then some 0 else (if (decide ((List.length substr1:Int)=1)) then (substr1[0]?).bind fun b_1=>(zii s0 (z_u8 b_1)).bind fun r_2=>some r_2 else (if (decide ((List.length s0:Int)≤(List.length substr1:Int))) then some (-1) else none))))
def zy0:FE:=⟨U10,1,U1,fun x=>zij x.1 x.2⟩
theorem zy1:zc Try.prog 51 (zy0):=okC zu (xTc zxz xTn) xOn Try.f51 (LOn _) (xLs xLn) (by rintro ⟨s0,substr1⟩; kernel_rfl)
def zik (s0:List UInt8) (substr1:List UInt8):Option Int:=(zij s0 substr1).bind fun r_1=>some r_1
def zy2:FE:=⟨U10,1,U1,fun x=>zik x.1 x.2⟩
theorem zy3:zc Try.prog 42 (zy2):=okC zu (xTc zy1 xTn) xOn Try.f42 (LOn _) xLn (by rintro ⟨s0,substr1⟩; kernel_rfl)
def zfn (s0:List UInt8) (substr1:List UInt8):Option Bool:=(zik s0 substr1).bind fun r_1=>some (decide (0≤r_1))
def zy4:FE:=⟨U10,1,.bool,fun x=>zfn x.1 x.2⟩
theorem zy5:zc Try.prog 28 (zy4):=okC zu (xTc zy3 xTn) xOn Try.f28 (LOn _) xLn (by rintro ⟨s0,substr1⟩; kernel_rfl)
end
end Go.Proofs.Ytogbhjffiglbjaa.Ev
