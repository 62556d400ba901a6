/- Functions of the program, as plain ones. No conditions. -/
import Derived.Test.YtiodkblajaenbaaGreatDoorG2
import Derived.KernelRfl
set_option linter.unusedVariables false
set_option maxRecDepth 100000
namespace Go.Proofs.YtiodkblajaenbaaGreatDoor.Ev
open Go.RowKit
noncomputable section
def zgk (k:Nat):Nat→zT0→zT0→Int→(Option Bool)→Option Bool
 | 0,_,_,_,_=>none
 | n+1,a0,b1,i5,e_0=>(if (decide (i5<(List.length a0.2.2.2:Int))) then (if 0≤i5 then (a0.2.2.2[i5.toNat]?).bind fun y_1=>(if 0≤i5 then (b1.2.2.2[i5.toNat]?).bind fun y_2=>(if (!(decide (y_1=y_2))) then some false else zgk k n a0 b1 (z6 (i5+1)) e_0) else none) else none) else e_0)
def zoi (k:Nat) (a0:Int×Int×Int×List Int) (b1:Int×Int×Int×List Int):Option Bool:=(if (!(decide (a0.1=b1.1))) then some false else (if (!(decide (a0.2.1=b1.2.1))) then some false else (if (!(decide (a0.2.2.1=b1.2.2.1))) then some false else (if (!(decide ((List.length a0.2.2.2:Int)=(List.length b1.2.2.2:Int)))) then some false else zgk k k a0 b1 0 (some true)))))
def z12w:Head:=⟨[],[],[]⟩
def z12x (k:Nat):LD Bool:=⟨4,⟨[(0,V2),(1,V2),(5,V0)],[],[]⟩,[(0,z12w)],fun n x kx=>zgk k n x.1.1 x.1.2.1 x.1.2.2.1 (kx 0 (z12w.fill ((),(),()))),k⟩
def z1m1 (k:Nat):FE:=⟨(.pr U14 U14),1,.bool,fun x=>zoi k x.1 x.2⟩
theorem z1m2 (k:Nat):z8 Tryz.prog 141 (z1m1 k):=okC za xTn xOn Tryz.f141 (orc (z12x k) (LOn _)) (xLo (z12x k) (by rintro n ⟨⟨a0,b1,i5,⟨⟩⟩,⟨⟩,⟨⟩⟩ kx; kernel_rfl) xLn) (by rintro ⟨a0,b1⟩; kernel_rfl)
def z3k (k:Nat):Nat→zT3→Int→Int→Int→Int→(zT3→Int→Int→Int→Option zT2)→Option zT2
 | 0,_,_,_,_,_,_=>none
 | n+1,s0,k5,n6,i7,j8,e_4=>(if (decide (j8<n6)) then (zjm k s0 k5 i7 j8).bind fun r_2=>(zjm k s0 k5 j8 i7).bind fun r_3=>(zoi k (r_2.1,(r_2.2.1,(r_2.2.2.1,r_2.2.2.2))) (r_3.1,(r_3.2.1,(r_3.2.2.1,r_3.2.2.2)))).bind fun r_4=>(if (!r_4) then some (k5,i7,j8) else z3k k n s0 k5 n6 i7 (z6 (j8+1)) e_4) else e_4 s0 k5 n6 i7)
def z4g (k:Nat):Nat→zT3→Int→Int→Int→(zT3→Int→Option zT2)→Option zT2
 | 0,_,_,_,_,_=>none
 | n+1,s0,k5,n6,i7,e_2=>(if (decide (i7<n6)) then (if (decide (2<n6)) then z3k k k s0 k5 n6 i7 (z6 (i7+1)) (fun s_2 k_3 n_4 i_5=>z4g k n s_2 k_3 n_4 (z6 (i_5+1)) e_2) else e_2 s0 k5) else e_2 s0 k5)
def z9k (k:Nat):Nat→zT3→Int→(Option zT2)→Option zT2
 | 0,_,_,_=>none
 | n+1,s0,k5,e_0=>(if (decide (k5<(List.length s0.1:Int))) then (if 0≤k5 then (s0.1[k5.toNat]?).bind fun y_1=>z4g k k s0 k5 (List.length y_1:Int) 0 (fun s_2 k_3=>z9k k n s_2 (z6 (k_3+1)) e_0) else none) else e_0)
def zgl (k:Nat) (s0:List zT1×Int×List Int×List zT0):Option zT2:=z9k k k s0 0 (some ((-1),0,0))
def z12y:Head:=⟨[(0,V5),(5,V0),(6,V0),(7,V0)],[],[]⟩
def z12z (k:Nat):LD zT2:=⟨9,⟨[(0,V5),(5,V0),(6,V0),(7,V0),(8,V0)],[],[]⟩,[(4,z12y)],fun n x kx=>z3k k n x.1.1 x.1.2.1 x.1.2.2.1 x.1.2.2.2.1 x.1.2.2.2.2.1 (fun s0 k5 n6 i7=>kx 4 (z12y.fill ((s0,k5,n6,i7,()),(),()))),k⟩
def z130:Head:=⟨[(0,V5),(5,V0)],[],[]⟩
def z131 (k:Nat):LD zT2:=⟨6,⟨[(0,V5),(5,V0),(6,V0),(7,V0)],[],[]⟩,[(2,z130)],fun n x kx=>z4g k n x.1.1 x.1.2.1 x.1.2.2.1 x.1.2.2.2.1 (fun s0 k5=>kx 2 (z130.fill ((s0,k5,()),(),()))),k⟩
def z132:Head:=⟨[],[],[]⟩
def z133 (k:Nat):LD zT2:=⟨2,⟨[(0,V5),(5,V0)],[],[]⟩,[(0,z132)],fun n x kx=>z9k k n x.1.1 x.1.2.1 (kx 0 (z132.fill ((),(),()))),k⟩
def z1m3 (k:Nat):FE:=⟨U23,3,U35,fun x=>zgl k x⟩
theorem z1m4 (k:Nat):z8 Tryz.prog 87 (z1m3 k):=okC za (xTc (z1m0 k) (xTc (z1m2 k) xTn)) xOn Tryz.f87 (orc (z12z k) (orc (z131 k) (orc (z133 k) (LOn _)))) (xLo (z133 k) (by rintro n ⟨⟨s0,k5,⟨⟩⟩,⟨⟩,⟨⟩⟩ kx; kernel_rfl) (xLo (z131 k) (by rintro n ⟨⟨s0,k5,n6,i7,⟨⟩⟩,⟨⟩,⟨⟩⟩ kx; kernel_rfl) (xLo (z12z k) (by rintro n ⟨⟨s0,k5,n6,i7,j8,⟨⟩⟩,⟨⟩,⟨⟩⟩ kx; kernel_rfl) xLn))) (by rintro s0; kernel_rfl)
def z9l (k:Nat):Nat→Int→Int→zT1→(Int→zT1→Option zT15)→Option zT15
 | 0,_,_,_,_=>none
 | n+1,n0,m4,q_1,e_0=>(if (!(decide (m4=0))) then (if (decide ((Int.tmod m4 10)<0)) then (if (q_1.length+[(z78 ((z6 (48+(z6 (0-(Int.tmod m4 10)))))))].length)*1≤LIM then z9l k n n0 (z6 (Int.tdiv m4 10)) (q_1++[(z78 ((z6 (48+(z6 (0-(Int.tmod m4 10)))))))]) e_0 else none) else (if (q_1.length+[(z78 ((z6 (48+(Int.tmod m4 10)))))].length)*1≤LIM then z9l k n n0 (z6 (Int.tdiv m4 10)) (q_1++[(z78 ((z6 (48+(Int.tmod m4 10)))))]) e_0 else none)) else e_0 n0 q_1)
def zcu (k:Nat):Nat→Int→zT1→zT1→(zT1→Option zT15)→Option zT15
 | 0,_,_,_,_=>none
 | n+1,i7,q_4,q_5,e_2=>(if (decide (0≤i7)) then (if 0≤i7∧i7.toNat<List.length q_4 then (q_4[i7.toNat]?).bind fun y_6=>(if (q_5.length+[y_6].length)*1≤LIM then zcu k n (z6 (i7-1)) q_4 (q_5++[y_6]) e_2 else none) else none) else e_2 q_5)
def zgm (k:Nat) (n0:Int):Option zT15:=(if (decide (n0=0)) then some [48] else z9l k k n0 n0 [] (fun n_2 q_3=>(if (decide (n_2<0)) then (if (q_3.length+[45].length)*1≤LIM then zcu k k (z6 ((List.length (q_3++[45]):Int)-1)) (q_3++[45]) [] (fun q_7=>some (z99 q_7)) else none) else zcu k k (z6 ((List.length q_3:Int)-1)) q_3 [] (fun q_8=>some (z99 q_8)))))
def z134:Head:=⟨[(0,V0),(3,(.ref P0 []))],[(P0,5,U24,false)],[]⟩
def z135 (k:Nat):LD zT15:=⟨5,⟨[(0,V0),(3,(.ref P0 [])),(4,V0)],[(P0,5,U24,false)],[]⟩,[(0,z134)],fun n x kx=>z9l k n x.1.1 x.1.2.2.1 x.2.1.1 (fun n0 q_2=>kx 0 (z134.fill ((n0,(),()),(q_2,()),()))),k⟩
def z136:Head:=⟨[(6,(.ref P0 []))],[(P0,5,U24,false)],[]⟩
def z137 (k:Nat):LD zT15:=⟨15,⟨[(3,(.ref P0 [])),(6,(.ref P1 [])),(7,V0)],[(P0,5,U24,false),(P1,5,U24,false)],[]⟩,[(2,z136)],fun n x kx=>zcu k n x.1.2.2.1 x.2.1.1 x.2.1.2.1 (fun q_7=>kx 2 (z136.fill (((),()),(q_7,()),()))),k⟩
def z1m5 (k:Nat):FE:=⟨U0,1,.str,fun x=>zgm k x⟩
theorem z138 (k:Nat):z8 Tryz.prog 97 (z1m5 k):=okC za xTn xOn Tryz.f97 (orc (z135 k) (orc (z137 k) (LOn _))) (xLo (z135 k) (by rintro n ⟨⟨n0,⟨⟩,m4,⟨⟩⟩,⟨q_1,⟨⟩⟩,⟨⟩⟩ kx; kernel_rfl) (xLo (z137 k) (by rintro n ⟨⟨⟨⟩,⟨⟩,i7,⟨⟩⟩,⟨q_4,q_5,⟨⟩⟩,⟨⟩⟩ kx; kernel_rfl) xLn)) (by rintro n0; kernel_rfl)
def zcv (k:Nat):Nat→zT1→zT15→Int→(zT15→Option zT15)→Option zT15
 | 0,_,_,_,_=>none
 | n+1,list0,out3,i4,e_0=>(if (decide (i4<(List.length list0:Int))) then (if (decide (0<i4)) then (if out3.length+[44].length≤9223372036854775807 then (if 0≤i4 then (list0[i4.toNat]?).bind fun y_1=>(zgm k y_1).bind fun r_2=>(if (out3++[44]).length+r_2.length≤9223372036854775807 then zcv k n list0 ((out3++[44])++r_2) (z6 (i4+1)) e_0 else none) else none) else none) else (if 0≤i4 then (list0[i4.toNat]?).bind fun y_3=>(zgm k y_3).bind fun r_4=>(if out3.length+r_4.length≤9223372036854775807 then zcv k n list0 (out3++r_4) (z6 (i4+1)) e_0 else none) else none)) else e_0 out3)
def zcw (k:Nat) (list0:List Int):Option zT15:=(if (decide ((List.length list0:Int)=0)) then some [45] else zcv k k list0 [] 0 (fun out_5=>some out_5))
def z139:Head:=⟨[(3,(.val .str))],[],[]⟩
def z13a (k:Nat):LD zT15:=⟨5,⟨[(0,V1),(3,(.val .str)),(4,V0)],[],[]⟩,[(0,z139)],fun n x kx=>zcv k n x.1.1 x.1.2.1 x.1.2.2.1 (fun out3=>kx 0 (z139.fill ((out3,()),(),()))),k⟩
def z1m6 (k:Nat):FE:=⟨U5,1,.str,fun x=>zcw k x⟩
theorem ztj (k:Nat):z8 Tryz.prog 88 (z1m6 k):=okC za (xTc (z138 k) xTn) xOn Tryz.f88 (orc (z13a k) (LOn _)) (xLo (z13a k) (by rintro n ⟨⟨list0,out3,i4,⟨⟩⟩,⟨⟩,⟨⟩⟩ kx; kernel_rfl) xLn) (by rintro list0; kernel_rfl)
def zcx (k:Nat):Nat→zT3→Int→Int→Int→(Int→Option Int)→Option Int
 | 0,_,_,_,_,_=>none
 | n+1,s0,simplex1,at5,k6,e_0=>(if (decide (k6<simplex1)) then (if 0≤k6 then (s0.1[k6.toNat]?).bind fun y_1=>(if 0≤simplex1 then (s0.1[simplex1.toNat]?).bind fun y_2=>(if (decide ((List.length y_1:Int)=(List.length y_2:Int))) then (if 0≤k6 then (s0.2.2.1[k6.toNat]?).bind fun y_3=>zcx k n s0 simplex1 (z6 (at5+y_3)) (z6 (k6+1)) e_0 else none) else zcx k n s0 simplex1 at5 (z6 (k6+1)) e_0) else none) else none) else e_0 at5)
def zgn (k:Nat) (s0:List zT1×Int×List Int×List zT0) (simplex1:Int):Option Int:=zcx k k s0 simplex1 0 0 (fun at_4=>some at_4)
def z13b:Head:=⟨[(5,V0)],[],[]⟩
def z13c (k:Nat):LD Int:=⟨3,⟨[(0,V5),(1,V0),(5,V0),(6,V0)],[],[]⟩,[(0,z13b)],fun n x kx=>zcx k n x.1.1 x.1.2.1 x.1.2.2.1 x.1.2.2.2.1 (fun at5=>kx 0 (z13b.fill ((at5,()),(),()))),k⟩
def z1m7 (k:Nat):FE:=⟨(.pr U23 U0),1,U0,fun x=>zgn k x.1 x.2⟩
theorem z13d (k:Nat):z8 Tryz.prog 147 (z1m7 k):=okC za xTn xOn Tryz.f147 (orc (z13c k) (LOn _)) (xLo (z13c k) (by rintro n ⟨⟨s0,simplex1,at5,k6,⟨⟩⟩,⟨⟩,⟨⟩⟩ kx; kernel_rfl) xLn) (by rintro ⟨s0,simplex1⟩; kernel_rfl)
def zoj (i0:Int) (p1:Int):Option Int:=(if (decide ((Int.tmod i0 2)=0)) then (if p1=0 then none else some (Int.tmod 1 p1)) else some (z6 (p1-1)))
def z1m8:FE:=⟨U19,1,U0,fun x=>zoj x.1 x.2⟩
theorem z1m9:z8 Tryz.prog 188 (z1m8):=okC za xTn xOn Tryz.f188 (LOn _) xLn (by rintro ⟨i0,p1⟩; kernel_rfl)
def zcy (k:Nat):Nat→zT3→Int→Int→Int→Int→zT0→Int→Int→Int→Int→zT1→zT1→zT1→zT1→Int→Int→Int→Int→Int→Int→(zT3→Int→Int→Int→Int→zT0→Int→Int→Int→zT1→zT1→zT1→zT1→Int→Int→Int→Int→Int→Int→Option zT0)→Option zT0
 | 0,_,_,_,_,_,_,_,_,_,_,_,_,_,_,_,_,_,_,_,_,_=>none
 | n+1,s0,k1,n7,row9,i10,m11,column12,sign13,a14,b15,q_25,q_26,q_27,q_28,v_4a,v_4ba,v_4bba,v_5a,v_5ba,v_5bba,e_6=>(if (decide (b15<m11.2.2.1)) then (if 0≤(z6 ((z6 (a14*m11.2.2.1))+b15)) then (m11.2.2.2[(z6 ((z6 (a14*m11.2.2.1))+b15)).toNat]?).bind fun y_29=>(if s0.2.1=0 then none else (if 0≤(z6 ((z6 ((z6 ((z6 (row9+a14))*v_5bba))+column12))+b15))∧(z6 ((z6 ((z6 ((z6 (row9+a14))*v_5bba))+column12))+b15)).toNat<List.length q_28 then (q_28[(z6 ((z6 ((z6 ((z6 (row9+a14))*v_5bba))+column12))+b15)).toNat]?).bind fun y_30=>(q_28[(z6 ((z6 ((z6 ((z6 (row9+a14))*v_5bba))+column12))+b15)).toNat]?).bind fun y_31=>zcy k n s0 k1 n7 row9 i10 m11 column12 sign13 a14 (z6 (b15+1)) q_25 q_26 q_27 (q_28.set ((z6 ((z6 ((z6 ((z6 (row9+a14))*v_5bba))+column12))+b15)).toNat) (Int.tmod (z6 (y_29*sign13)) s0.2.1)) v_4a v_4ba v_4bba v_5a v_5ba v_5bba e_6 else none)) else none) else e_6 s0 k1 n7 row9 i10 m11 column12 sign13 a14 q_25 q_26 q_27 q_28 v_4a v_4ba v_4bba v_5a v_5ba v_5bba)
def zcz (k:Nat):Nat→zT3→Int→Int→Int→Int→zT0→Int→Int→Int→zT1→zT1→zT1→zT1→Int→Int→Int→Int→Int→Int→(zT3→Int→Int→Int→Int→zT1→zT1→zT1→zT1→Int→Int→Int→Int→Int→Int→Option zT0)→Option zT0
 | 0,_,_,_,_,_,_,_,_,_,_,_,_,_,_,_,_,_,_,_,_=>none
 | n+1,s0,k1,n7,row9,i10,m11,column12,sign13,a14,q_21,q_22,q_23,q_24,v_4a,v_4ba,v_4bba,v_5a,v_5ba,v_5bba,e_4=>(if (decide (a14<m11.2.1)) then zcy k k s0 k1 n7 row9 i10 m11 column12 sign13 a14 0 q_21 q_22 q_23 q_24 v_4a v_4ba v_4bba v_5a v_5ba v_5bba (fun s_25 k_26 n_27 row_28 i_29 m_30 column_31 sign_32 a_33 q_34 q_35 q_36 q_37 v_4a_38 v_4ba_39 v_4bba_40 v_5a_41 v_5ba_42 v_5bba_43=>zcz k n s_25 k_26 n_27 row_28 i_29 m_30 column_31 sign_32 (z6 (a_33+1)) q_34 q_35 q_36 q_37 v_4a_38 v_4ba_39 v_4bba_40 v_5a_41 v_5ba_42 v_5bba_43 e_4) else e_4 s0 k1 n7 row9 i10 q_21 q_22 q_23 q_24 v_4a v_4ba v_4bba v_5a v_5ba v_5bba)
def z7e (k:Nat):Nat→zT3→Int→Int→Int→Int→zT1→zT1→zT1→zT1→Int→Int→Int→Int→Int→Int→(zT3→Int→Int→zT1→zT1→zT1→Int→Int→Int→Int→Int→Int→Option zT0)→Option zT0
 | 0,_,_,_,_,_,_,_,_,_,_,_,_,_,_,_,_=>none
 | n+1,s0,k1,n7,row9,i10,q_12,q_13,q_14,q_15,v_4a,v_4ba,v_4bba,v_5a,v_5ba,v_5bba,e_2=>(if (decide (i10<(List.length q_13:Int))) then (if 0≤n7∧n7.toNat<List.length q_12 then (q_12[n7.toNat]?).bind fun y_16=>(zb1 k s0 y_16 i10).bind fun r_17=>(if 0≤i10∧i10.toNat<List.length q_13 then (q_13[i10.toNat]?).bind fun y_18=>(zgn k s0 y_18).bind fun r_19=>(zoj i10 s0.2.1).bind fun r_20=>zcz k k s0 k1 n7 row9 i10 r_17 r_19 r_20 0 q_12 q_13 q_14 q_15 v_4a v_4ba v_4bba v_5a v_5ba v_5bba (fun s_21 k_22 n_23 row_24 i_25 q_26 q_27 q_28 q_29 v_4a_30 v_4ba_31 v_4bba_32 v_5a_33 v_5ba_34 v_5bba_35=>z7e k n s_21 k_22 n_23 row_24 (z6 (i_25+1)) q_26 q_27 q_28 q_29 v_4a_30 v_4ba_31 v_4bba_32 v_5a_33 v_5ba_34 v_5bba_35 e_2) else none) else none) else e_2 s0 k1 n7 q_12 q_14 q_15 v_4a v_4ba v_4bba v_5a v_5ba v_5bba)
def z87 (k:Nat):Nat→zT3→Int→Int→zT1→zT1→zT1→Int→Int→Int→Int→Int→Int→(zT1→zT1→Int→Int→Int→Int→Int→Int→Option zT0)→Option zT0
 | 0,_,_,_,_,_,_,_,_,_,_,_,_,_=>none
 | n+1,s0,k1,n7,q_5,q_6,q_7,v_4a,v_4ba,v_4bba,v_5a,v_5ba,v_5bba,e_0=>(if (decide (n7<(List.length q_5:Int))) then (if (decide (0≤k1)) then (if 0≤n7∧n7.toNat<List.length q_5 then (q_5[n7.toNat]?).bind fun y_8=>(zgf k s0.1 y_8).bind fun r_9=>(if 0≤n7∧n7.toNat<List.length q_5 then (q_5[n7.toNat]?).bind fun y_10=>(zgn k s0 y_10).bind fun r_11=>z7e k k s0 k1 n7 r_11 0 q_5 r_9 q_6 q_7 v_4a v_4ba v_4bba v_5a v_5ba v_5bba (fun s_12 k_13 n_14 q_15 q_16 q_17 v_4a_18 v_4ba_19 v_4bba_20 v_5a_21 v_5ba_22 v_5bba_23=>z87 k n s_12 k_13 (z6 (n_14+1)) q_15 q_16 q_17 v_4a_18 v_4ba_19 v_4bba_20 v_5a_21 v_5ba_22 v_5bba_23 e_0) else none) else none) else e_0 q_6 q_7 v_4a v_4ba v_4bba v_5a v_5ba v_5bba) else e_0 q_6 q_7 v_4a v_4ba v_4bba v_5a v_5ba v_5bba)
def z88 (k:Nat) (s0:List zT1×Int×List Int×List zT0) (k1:Int):Option zT0:=(zaz k s0.1 s0.2.2.1 (z6 (k1+1))).bind fun r_1=>(zaz k s0.1 s0.2.2.1 k1).bind fun r_2=>(zgi s0.2.1 r_1 r_2).bind fun r_3=>(zgb k s0.1 (z6 (k1+1))).bind fun r_4=>z87 k k s0 k1 0 r_4 [] r_3.2.2.2 0 0 0 r_3.1 r_3.2.1 r_3.2.2.1 (fun q_24 q_25 v_4a_26 v_4ba_27 v_4bba_28 v_5a_29 v_5ba_30 v_5bba_31=>some (v_5a_29,(v_5ba_30,(v_5bba_31,q_25))))
def z13e:Head:=⟨[(0,V5),(1,V0),(4,(.bp 4 [] 0)),(5,(.bp 5 [] 0)),(6,(.ref P0 [])),(7,V0),(8,(.ref P1 [])),(9,V0),(10,V0),(11,V2),(12,V0),(13,V0),(14,V0)],[(P0,2,U0,false),(P1,2,U0,false),(P2,2,U0,false),(P3,2,U0,false)],[(4,136,(.st (.pr V0 (.pr V0 (.pr V0 (.ref P2 [])))))),(5,136,(.st (.pr V0 (.pr V0 (.pr V0 (.ref P3 []))))))]⟩
def z13f:Head:=⟨[(0,V5),(1,V0),(4,(.bp 4 [] 0)),(5,(.bp 5 [] 0)),(6,(.ref P0 [])),(7,V0),(8,(.ref P1 [])),(9,V0),(10,V0),(11,V2),(12,V0),(13,V0),(14,V0),(15,V0)],[(P0,2,U0,false),(P1,2,U0,false),(P2,2,U0,false),(P3,2,U0,false)],[(4,136,(.st (.pr V0 (.pr V0 (.pr V0 (.ref P2 [])))))),(5,136,(.st (.pr V0 (.pr V0 (.pr V0 (.ref P3 []))))))]⟩
def z13g (k:Nat) (n:Nat) (x:z13f.T) (kx:Nat→St→Option zT0):Option zT0:=zcy k n x.1.1 x.1.2.1 x.1.2.2.2.2.2.1 x.1.2.2.2.2.2.2.2.1 x.1.2.2.2.2.2.2.2.2.1 x.1.2.2.2.2.2.2.2.2.2.1 x.1.2.2.2.2.2.2.2.2.2.2.1 x.1.2.2.2.2.2.2.2.2.2.2.2.1 x.1.2.2.2.2.2.2.2.2.2.2.2.2.1 x.1.2.2.2.2.2.2.2.2.2.2.2.2.2.1 x.2.1.1 x.2.1.2.1 x.2.1.2.2.1 x.2.1.2.2.2.1 x.2.2.1.1 x.2.2.1.2.1 x.2.2.1.2.2.1 x.2.2.2.1.1 x.2.2.2.1.2.1 x.2.2.2.1.2.2.1 (fun s0 k1 n7 row9 i10 m11 column12 sign13 a14 q_32 q_33 q_34 q_35 v_4a v_4ba v_4bba v_5a v_5ba v_5bba=>kx 6 (z13e.fill ((s0,k1,(),(),(),n7,(),row9,i10,m11,column12,sign13,a14,()),(q_32,q_33,q_34,q_35,()),((v_4a,(v_4ba,(v_4bba,()))),(v_5a,(v_5ba,(v_5bba,()))),()))))
def zok (k:Nat):LD zT0:=⟨18,z13f,[(6,z13e)],z13g k,k⟩
def z13h:Head:=⟨[(0,V5),(1,V0),(4,(.bp 4 [] 0)),(5,(.bp 5 [] 0)),(6,(.ref P0 [])),(7,V0),(8,(.ref P1 [])),(9,V0),(10,V0)],[(P0,2,U0,false),(P1,2,U0,false),(P2,2,U0,false),(P3,2,U0,false)],[(4,136,(.st (.pr V0 (.pr V0 (.pr V0 (.ref P2 [])))))),(5,136,(.st (.pr V0 (.pr V0 (.pr V0 (.ref P3 []))))))]⟩
def z13i:Head:=⟨[(0,V5),(1,V0),(4,(.bp 4 [] 0)),(5,(.bp 5 [] 0)),(6,(.ref P0 [])),(7,V0),(8,(.ref P1 [])),(9,V0),(10,V0),(11,V2),(12,V0),(13,V0),(14,V0)],[(P0,2,U0,false),(P1,2,U0,false),(P2,2,U0,false),(P3,2,U0,false)],[(4,136,(.st (.pr V0 (.pr V0 (.pr V0 (.ref P2 [])))))),(5,136,(.st (.pr V0 (.pr V0 (.pr V0 (.ref P3 []))))))]⟩
def z13j (k:Nat) (n:Nat) (x:z13i.T) (kx:Nat→St→Option zT0):Option zT0:=zcz k n x.1.1 x.1.2.1 x.1.2.2.2.2.2.1 x.1.2.2.2.2.2.2.2.1 x.1.2.2.2.2.2.2.2.2.1 x.1.2.2.2.2.2.2.2.2.2.1 x.1.2.2.2.2.2.2.2.2.2.2.1 x.1.2.2.2.2.2.2.2.2.2.2.2.1 x.1.2.2.2.2.2.2.2.2.2.2.2.2.1 x.2.1.1 x.2.1.2.1 x.2.1.2.2.1 x.2.1.2.2.2.1 x.2.2.1.1 x.2.2.1.2.1 x.2.2.1.2.2.1 x.2.2.2.1.1 x.2.2.2.1.2.1 x.2.2.2.1.2.2.1 (fun s0 k1 n7 row9 i10 q_51 q_52 q_53 q_54 v_4a v_4ba v_4bba v_5a v_5ba v_5bba=>kx 4 (z13h.fill ((s0,k1,(),(),(),n7,(),row9,i10,()),(q_51,q_52,q_53,q_54,()),((v_4a,(v_4ba,(v_4bba,()))),(v_5a,(v_5ba,(v_5bba,()))),()))))
def zol (k:Nat):LD zT0:=⟨15,z13i,[(4,z13h)],z13j k,k⟩
def z13k:Head:=⟨[(0,V5),(1,V0),(4,(.bp 4 [] 0)),(5,(.bp 5 [] 0)),(6,(.ref P0 [])),(7,V0)],[(P0,2,U0,false),(P1,2,U0,false),(P2,2,U0,false)],[(4,136,(.st (.pr V0 (.pr V0 (.pr V0 (.ref P1 [])))))),(5,136,(.st (.pr V0 (.pr V0 (.pr V0 (.ref P2 []))))))]⟩
def z13l:Head:=⟨[(0,V5),(1,V0),(4,(.bp 4 [] 0)),(5,(.bp 5 [] 0)),(6,(.ref P0 [])),(7,V0),(8,(.ref P1 [])),(9,V0),(10,V0)],[(P0,2,U0,false),(P1,2,U0,false),(P2,2,U0,false),(P3,2,U0,false)],[(4,136,(.st (.pr V0 (.pr V0 (.pr V0 (.ref P2 [])))))),(5,136,(.st (.pr V0 (.pr V0 (.pr V0 (.ref P3 []))))))]⟩
def z13m (k:Nat) (n:Nat) (x:z13l.T) (kx:Nat→St→Option zT0):Option zT0:=z7e k n x.1.1 x.1.2.1 x.1.2.2.2.2.2.1 x.1.2.2.2.2.2.2.2.1 x.1.2.2.2.2.2.2.2.2.1 x.2.1.1 x.2.1.2.1 x.2.1.2.2.1 x.2.1.2.2.2.1 x.2.2.1.1 x.2.2.1.2.1 x.2.2.1.2.2.1 x.2.2.2.1.1 x.2.2.2.1.2.1 x.2.2.2.1.2.2.1 (fun s0 k1 n7 q_59 q_60 q_61 v_4a v_4ba v_4bba v_5a v_5ba v_5bba=>kx 2 (z13k.fill ((s0,k1,(),(),(),n7,()),(q_59,q_60,q_61,()),((v_4a,(v_4ba,(v_4bba,()))),(v_5a,(v_5ba,(v_5bba,()))),()))))
def zom (k:Nat):LD zT0:=⟨9,z13l,[(2,z13k)],z13m k,k⟩
def z13n:Head:=⟨[(4,(.bp 4 [] 0)),(5,(.bp 5 [] 0))],[(P0,2,U0,false),(P1,2,U0,false)],[(4,136,(.st (.pr V0 (.pr V0 (.pr V0 (.ref P0 [])))))),(5,136,(.st (.pr V0 (.pr V0 (.pr V0 (.ref P1 []))))))]⟩
def z13o:Head:=⟨[(0,V5),(1,V0),(4,(.bp 4 [] 0)),(5,(.bp 5 [] 0)),(6,(.ref P0 [])),(7,V0)],[(P0,2,U0,false),(P1,2,U0,false),(P2,2,U0,false)],[(4,136,(.st (.pr V0 (.pr V0 (.pr V0 (.ref P1 [])))))),(5,136,(.st (.pr V0 (.pr V0 (.pr V0 (.ref P2 []))))))]⟩
def z13p (k:Nat) (n:Nat) (x:z13o.T) (kx:Nat→St→Option zT0):Option zT0:=z87 k n x.1.1 x.1.2.1 x.1.2.2.2.2.2.1 x.2.1.1 x.2.1.2.1 x.2.1.2.2.1 x.2.2.1.1 x.2.2.1.2.1 x.2.2.1.2.2.1 x.2.2.2.1.1 x.2.2.2.1.2.1 x.2.2.2.1.2.2.1 (fun q_48 q_49 v_4a v_4ba v_4bba v_5a v_5ba v_5bba=>kx 0 (z13n.fill (((),(),()),(q_48,q_49,()),((v_4a,(v_4ba,(v_4bba,()))),(v_5a,(v_5ba,(v_5bba,()))),()))))
def zon (k:Nat):LD zT0:=⟨4,z13o,[(0,z13n)],z13p k,k⟩
def z1ma (k:Nat):FE:=⟨(.pr U23 U0),1,U1,fun x=>z88 k x.1 x.2⟩
theorem ztk (k:Nat):z8 Tryz.prog 143 (z1ma k):=okC za (xTc (ztd k) (xTc z12m (xTc (ztc k) (xTc (ztf k) (xTc (z13d k) (xTc (z12l k) (xTc z1m9 xTn))))))) xOn Tryz.f143 (orc (zok k) (orc (zol k) (orc (zom k) (orc (zon k) (LOn _))))) (xLp (zon k) (by rintro n ⟨⟨s0,k1,⟨⟩,⟨⟩,⟨⟩,n7,⟨⟩⟩,⟨q_5,q_6,q_7,⟨⟩⟩,⟨⟨v_4a,⟨v_4ba,⟨v_4bba,⟨⟩⟩⟩⟩,⟨v_5a,⟨v_5ba,⟨v_5bba,⟨⟩⟩⟩⟩,⟨⟩⟩⟩ kx _ h; dsimp only [zon,z13p] at h; subst h; dsimp only [zon]; kernel_rfl) (xLp (zom k) (by rintro n ⟨⟨s0,k1,⟨⟩,⟨⟩,⟨⟩,n7,⟨⟩,row9,i10,⟨⟩⟩,⟨q_12,q_13,q_14,q_15,⟨⟩⟩,⟨⟨v_4a,⟨v_4ba,⟨v_4bba,⟨⟩⟩⟩⟩,⟨v_5a,⟨v_5ba,⟨v_5bba,⟨⟩⟩⟩⟩,⟨⟩⟩⟩ kx _ h; dsimp only [zom,z13m] at h; subst h; dsimp only [zom]; kernel_rfl) (xLp (zol k) (by rintro n ⟨⟨s0,k1,⟨⟩,⟨⟩,⟨⟩,n7,⟨⟩,row9,i10,m11,column12,sign13,a14,⟨⟩⟩,⟨q_21,q_22,q_23,q_24,⟨⟩⟩,⟨⟨v_4a,⟨v_4ba,⟨v_4bba,⟨⟩⟩⟩⟩,⟨v_5a,⟨v_5ba,⟨v_5bba,⟨⟩⟩⟩⟩,⟨⟩⟩⟩ kx _ h; dsimp only [zol,z13j] at h; subst h; dsimp only [zol]; kernel_rfl) (xLp (zok k) (by rintro n ⟨⟨s0,k1,⟨⟩,⟨⟩,⟨⟩,n7,⟨⟩,row9,i10,m11,column12,sign13,a14,b15,⟨⟩⟩,⟨q_25,q_26,q_27,q_28,⟨⟩⟩,⟨⟨v_4a,⟨v_4ba,⟨v_4bba,⟨⟩⟩⟩⟩,⟨v_5a,⟨v_5ba,⟨v_5bba,⟨⟩⟩⟩⟩,⟨⟩⟩⟩ kx _ h; dsimp only [zok,z13g] at h; subst h; dsimp only [zok]; kernel_rfl) xLn)))) (by rintro ⟨s0,k1⟩; kernel_rfl)
def zd0 (k:Nat):Nat→zT0→zT1→Int→Int→Int→zT1→(zT0→zT1→Int→Int→zT1→Option zT1)→Option zT1
 | 0,_,_,_,_,_,_,_=>none
 | n+1,m0,v1,i6,sum7,k8,q_2,e_2=>(if (decide (k8<m0.2.2.1)) then (if 0≤(z6 ((z6 (i6*m0.2.2.1))+k8)) then (m0.2.2.2[(z6 ((z6 (i6*m0.2.2.1))+k8)).toNat]?).bind fun y_3=>(if 0≤k8 then (v1[k8.toNat]?).bind fun y_4=>zd0 k n m0 v1 i6 (z6 (sum7+(z6 (y_3*y_4)))) (z6 (k8+1)) q_2 e_2 else none) else none) else e_2 m0 v1 i6 sum7 q_2)
def zgo (k:Nat):Nat→zT0→zT1→Int→zT1→(zT1→Option zT1)→Option zT1
 | 0,_,_,_,_,_=>none
 | n+1,m0,v1,i6,q_1,e_0=>(if (decide (i6<m0.2.1)) then zd0 k k m0 v1 i6 0 0 q_1 (fun m_2 v_3 i_4 sum_5 q_6=>(if m_2.1=0 then none else (if (q_6.length+[(Int.tmod sum_5 m_2.1)].length)*8≤LIM then zgo k n m_2 v_3 (z6 (i_4+1)) (q_6++[(Int.tmod sum_5 m_2.1)]) e_0 else none))) else e_0 q_1)
def zjn (k:Nat) (m0:Int×Int×Int×List Int) (v1:List Int):Option zT1:=zgo k k m0 v1 0 [] (fun q_7=>some q_7)
def z13q:Head:=⟨[(0,V2),(1,V1),(5,(.ref P0 [])),(6,V0),(7,V0)],[(P0,2,U0,false)],[]⟩
def z13r (k:Nat):LD zT1:=⟨7,⟨[(0,V2),(1,V1),(5,(.ref P0 [])),(6,V0),(7,V0),(8,V0)],[(P0,2,U0,false)],[]⟩,[(2,z13q)],fun n x kx=>zd0 k n x.1.1 x.1.2.1 x.1.2.2.2.1 x.1.2.2.2.2.1 x.1.2.2.2.2.2.1 x.2.1.1 (fun m0 v1 i6 sum7 q_5=>kx 2 (z13q.fill ((m0,v1,(),i6,sum7,()),(q_5,()),()))),k⟩
def z13s:Head:=⟨[(5,(.ref P0 []))],[(P0,2,U0,false)],[]⟩
def z13t (k:Nat):LD zT1:=⟨3,⟨[(0,V2),(1,V1),(5,(.ref P0 [])),(6,V0)],[(P0,2,U0,false)],[]⟩,[(0,z13s)],fun n x kx=>zgo k n x.1.1 x.1.2.1 x.1.2.2.2.1 x.2.1.1 (fun q_10=>kx 0 (z13s.fill (((),()),(q_10,()),()))),k⟩
def z1mb (k:Nat):FE:=⟨(.pr U14 U5),1,U5,fun x=>zjn k x.1 x.2⟩
theorem z13u (k:Nat):z8 Tryz.prog 145 (z1mb k):=okC za xTn xOn Tryz.f145 (orc (z13r k) (orc (z13t k) (LOn _))) (xLo (z13t k) (by rintro n ⟨⟨m0,v1,⟨⟩,i6,⟨⟩⟩,⟨q_1,⟨⟩⟩,⟨⟩⟩ kx; kernel_rfl) (xLo (z13r k) (by rintro n ⟨⟨m0,v1,⟨⟩,i6,sum7,k8,⟨⟩⟩,⟨q_2,⟨⟩⟩,⟨⟩⟩ kx; kernel_rfl) xLn)) (by rintro ⟨m0,v1⟩; kernel_rfl)
def zgp (k:Nat):Nat→zT1→Int→(Option Bool)→Option Bool
 | 0,_,_,_=>none
 | n+1,v0,i3,e_0=>(if (decide (i3<(List.length v0:Int))) then (if 0≤i3 then (v0[i3.toNat]?).bind fun y_1=>(if (!(decide (y_1=0))) then some false else zgp k n v0 (z6 (i3+1)) e_0) else none) else e_0)
def zjo (k:Nat) (v0:List Int):Option Bool:=zgp k k v0 0 (some true)
def z13v:Head:=⟨[],[],[]⟩
def z13w (k:Nat):LD Bool:=⟨2,⟨[(0,V1),(3,V0)],[],[]⟩,[(0,z13v)],fun n x kx=>zgp k n x.1.1 x.1.2.1 (kx 0 (z13v.fill ((),(),()))),k⟩
def z1mc (k:Nat):FE:=⟨U5,1,.bool,fun x=>zjo k x⟩
theorem z13x (k:Nat):z8 Tryz.prog 144 (z1mc k):=okC za xTn xOn Tryz.f144 (orc (z13w k) (LOn _)) (xLo (z13w k) (by rintro n ⟨⟨v0,i3,⟨⟩⟩,⟨⟩,⟨⟩⟩ kx; kernel_rfl) xLn) (by rintro v0; kernel_rfl)
def zoo (k:Nat) (s0:List zT1×Int×List Int×List zT0) (k1:Int) (x2:List Int):Option Bool:=(z88 k s0 k1).bind fun r_1=>(zjn k (r_1.1,(r_1.2.1,(r_1.2.2.1,r_1.2.2.2))) x2).bind fun r_2=>(zjo k r_2).bind fun r_3=>some r_3
def z1md (k:Nat):FE:=⟨(.pr U23 (.pr U0 U5)),1,.bool,fun x=>zoo k x.1 x.2.1 x.2.2⟩
theorem z1me (k:Nat):z8 Tryz.prog 90 (z1md k):=okC za (xTc (ztk k) (xTc (z13u k) (xTc (z13x k) xTn))) xOn Tryz.f90 (LOn _) xLn (by rintro ⟨s0,k1,x2⟩; kernel_rfl)
end
end Go.Proofs.YtiodkblajaenbaaGreatDoor.Ev
