/- Functions of the program, as plain ones. No conditions. -/
import Derived.Test.YtfinlkoplekgkaaGreatDoorG2
import Derived.KernelRfl
set_option linter.unusedVariables false
set_option maxRecDepth 100000
namespace Go.Proofs.YtfinlkoplekgkaaGreatDoor.Ev
open Go.RowKit
noncomputable section
def zg0 (k:Nat):Nat→zT0→zT0→Int→(Option Bool)→Option Bool
 | 0,_,_,_,_=>none
 | n+1,a0,b1,i5,e_0=>(if (decide (i5<(List.length a0.2.2.2:Int))) then (if 0≤i5 then (a0.2.2.2[i5.toNat]?).bind fun y_1=>(if 0≤i5 then (b1.2.2.2[i5.toNat]?).bind fun y_2=>(if (!(decide (y_1=y_2))) then some false else zg0 k n a0 b1 (z6 (i5+1)) e_0) else none) else none) else e_0)
def znp (k:Nat) (a0:Int×Int×Int×List Int) (b1:Int×Int×Int×List Int):Option Bool:=(if (!(decide (a0.1=b1.1))) then some false else (if (!(decide (a0.2.1=b1.2.1))) then some false else (if (!(decide (a0.2.2.1=b1.2.2.1))) then some false else (if (!(decide ((List.length a0.2.2.2:Int)=(List.length b1.2.2.2:Int)))) then some false else zg0 k k a0 b1 0 (some true)))))
def z114:Head:=⟨[],[],[]⟩
def z115 (k:Nat):LD Bool:=⟨4,⟨[(0,V2),(1,V2),(5,V0)],[],[]⟩,[(0,z114)],fun n x kx=>zg0 k n x.1.1 x.1.2.1 x.1.2.2.1 (kx 0 (z114.fill ((),(),()))),k⟩
def z1jb (k:Nat):FE:=⟨(.pr U14 U14),1,.bool,fun x=>znp k x.1 x.2⟩
theorem z1jc (k:Nat):z8 Tryz.prog 101 (z1jb k):=okC zb xTn xOn Tryz.f101 (orc (z115 k) (LOn _)) (xLo (z115 k) (by rintro n ⟨⟨a0,b1,i5,⟨⟩⟩,⟨⟩,⟨⟩⟩ kx; kernel_rfl) xLn) (by rintro ⟨a0,b1⟩; kernel_rfl)
def z3j (k:Nat):Nat→zT3→Int→Int→Int→Int→(zT3→Int→Int→Int→Option zT2)→Option zT2
 | 0,_,_,_,_,_,_=>none
 | n+1,s0,k5,n6,i7,j8,e_4=>(if (decide (j8<n6)) then (ziz k s0 k5 i7 j8).bind fun r_2=>(ziz k s0 k5 j8 i7).bind fun r_3=>(znp k (r_2.1,(r_2.2.1,(r_2.2.2.1,r_2.2.2.2))) (r_3.1,(r_3.2.1,(r_3.2.2.1,r_3.2.2.2)))).bind fun r_4=>(if (!r_4) then some (k5,i7,j8) else z3j k n s0 k5 n6 i7 (z6 (j8+1)) e_4) else e_4 s0 k5 n6 i7)
def z4e (k:Nat):Nat→zT3→Int→Int→Int→(zT3→Int→Option zT2)→Option zT2
 | 0,_,_,_,_,_=>none
 | n+1,s0,k5,n6,i7,e_2=>(if (decide (i7<n6)) then (if (decide (2<n6)) then z3j k k s0 k5 n6 i7 (z6 (i7+1)) (fun s_2 k_3 n_4 i_5=>z4e k n s_2 k_3 n_4 (z6 (i_5+1)) e_2) else e_2 s0 k5) else e_2 s0 k5)
def z9d (k:Nat):Nat→zT3→Int→(Option zT2)→Option zT2
 | 0,_,_,_=>none
 | n+1,s0,k5,e_0=>(if (decide (k5<(List.length s0.1:Int))) then (if 0≤k5 then (s0.1[k5.toNat]?).bind fun y_1=>z4e k k s0 k5 (List.length y_1:Int) 0 (fun s_2 k_3=>z9d k n s_2 (z6 (k_3+1)) e_0) else none) else e_0)
def zg1 (k:Nat) (s0:List zT1×Int×List Int×List zT0):Option zT2:=z9d k k s0 0 (some ((-1),0,0))
def z116:Head:=⟨[(0,V5),(5,V0),(6,V0),(7,V0)],[],[]⟩
def z117 (k:Nat):LD zT2:=⟨9,⟨[(0,V5),(5,V0),(6,V0),(7,V0),(8,V0)],[],[]⟩,[(4,z116)],fun n x kx=>z3j k n x.1.1 x.1.2.1 x.1.2.2.1 x.1.2.2.2.1 x.1.2.2.2.2.1 (fun s0 k5 n6 i7=>kx 4 (z116.fill ((s0,k5,n6,i7,()),(),()))),k⟩
def z118:Head:=⟨[(0,V5),(5,V0)],[],[]⟩
def z119 (k:Nat):LD zT2:=⟨6,⟨[(0,V5),(5,V0),(6,V0),(7,V0)],[],[]⟩,[(2,z118)],fun n x kx=>z4e k n x.1.1 x.1.2.1 x.1.2.2.1 x.1.2.2.2.1 (fun s0 k5=>kx 2 (z118.fill ((s0,k5,()),(),()))),k⟩
def z11a:Head:=⟨[],[],[]⟩
def z11b (k:Nat):LD zT2:=⟨2,⟨[(0,V5),(5,V0)],[],[]⟩,[(0,z11a)],fun n x kx=>z9d k n x.1.1 x.1.2.1 (kx 0 (z11a.fill ((),(),()))),k⟩
def z1jd (k:Nat):FE:=⟨U22,3,U34,fun x=>zg1 k x⟩
theorem z1je (k:Nat):z8 Tryz.prog 62 (z1jd k):=okC zb (xTc (z1ja k) (xTc (z1jc k) xTn)) xOn Tryz.f62 (orc (z117 k) (orc (z119 k) (orc (z11b k) (LOn _)))) (xLo (z11b k) (by rintro n ⟨⟨s0,k5,⟨⟩⟩,⟨⟩,⟨⟩⟩ kx; kernel_rfl) (xLo (z119 k) (by rintro n ⟨⟨s0,k5,n6,i7,⟨⟩⟩,⟨⟩,⟨⟩⟩ kx; kernel_rfl) (xLo (z117 k) (by rintro n ⟨⟨s0,k5,n6,i7,j8,⟨⟩⟩,⟨⟩,⟨⟩⟩ kx; kernel_rfl) xLn))) (by rintro s0; kernel_rfl)
def z9e (k:Nat):Nat→Int→Int→zT1→(Int→zT1→Option zT14)→Option zT14
 | 0,_,_,_,_=>none
 | n+1,n0,m4,q_1,e_0=>(if (!(decide (m4=0))) then (if (decide ((Int.tmod m4 10)<0)) then (if (q_1.length+[(zan ((z6 (48+(z6 (0-(Int.tmod m4 10)))))))].length)*1≤LIM then z9e k n n0 (z6 (Int.tdiv m4 10)) (q_1++[(zan ((z6 (48+(z6 (0-(Int.tmod m4 10)))))))]) e_0 else none) else (if (q_1.length+[(zan ((z6 (48+(Int.tmod m4 10)))))].length)*1≤LIM then z9e k n n0 (z6 (Int.tdiv m4 10)) (q_1++[(zan ((z6 (48+(Int.tmod m4 10)))))]) e_0 else none)) else e_0 n0 q_1)
def zck (k:Nat):Nat→Int→zT1→zT1→(zT1→Option zT14)→Option zT14
 | 0,_,_,_,_=>none
 | n+1,i7,q_4,q_5,e_2=>(if (decide (0≤i7)) then (if 0≤i7∧i7.toNat<List.length q_4 then (q_4[i7.toNat]?).bind fun y_6=>(if (q_5.length+[y_6].length)*1≤LIM then zck k n (z6 (i7-1)) q_4 (q_5++[y_6]) e_2 else none) else none) else e_2 q_5)
def zg2 (k:Nat) (n0:Int):Option zT14:=(if (decide (n0=0)) then some [48] else z9e k k n0 n0 [] (fun n_2 q_3=>(if (decide (n_2<0)) then (if (q_3.length+[45].length)*1≤LIM then zck k k (z6 ((List.length (q_3++[45]):Int)-1)) (q_3++[45]) [] (fun q_7=>some (zf1 q_7)) else none) else zck k k (z6 ((List.length q_3:Int)-1)) q_3 [] (fun q_8=>some (zf1 q_8)))))
def z11c:Head:=⟨[(0,V0),(3,(.ref P0 []))],[(P0,5,U23,false)],[]⟩
def z11d (k:Nat):LD zT14:=⟨5,⟨[(0,V0),(3,(.ref P0 [])),(4,V0)],[(P0,5,U23,false)],[]⟩,[(0,z11c)],fun n x kx=>z9e k n x.1.1 x.1.2.2.1 x.2.1.1 (fun n0 q_2=>kx 0 (z11c.fill ((n0,(),()),(q_2,()),()))),k⟩
def z11e:Head:=⟨[(6,(.ref P0 []))],[(P0,5,U23,false)],[]⟩
def z11f (k:Nat):LD zT14:=⟨15,⟨[(3,(.ref P0 [])),(6,(.ref P1 [])),(7,V0)],[(P0,5,U23,false),(P1,5,U23,false)],[]⟩,[(2,z11e)],fun n x kx=>zck k n x.1.2.2.1 x.2.1.1 x.2.1.2.1 (fun q_7=>kx 2 (z11e.fill (((),()),(q_7,()),()))),k⟩
def z1jf (k:Nat):FE:=⟨U0,1,.str,fun x=>zg2 k x⟩
theorem z11g (k:Nat):z8 Tryz.prog 72 (z1jf k):=okC zb xTn xOn Tryz.f72 (orc (z11d k) (orc (z11f k) (LOn _))) (xLo (z11d k) (by rintro n ⟨⟨n0,⟨⟩,m4,⟨⟩⟩,⟨q_1,⟨⟩⟩,⟨⟩⟩ kx; kernel_rfl) (xLo (z11f k) (by rintro n ⟨⟨⟨⟩,⟨⟩,i7,⟨⟩⟩,⟨q_4,q_5,⟨⟩⟩,⟨⟩⟩ kx; kernel_rfl) xLn)) (by rintro n0; kernel_rfl)
def zcl (k:Nat):Nat→zT1→zT14→Int→(zT14→Option zT14)→Option zT14
 | 0,_,_,_,_=>none
 | n+1,list0,out3,i4,e_0=>(if (decide (i4<(List.length list0:Int))) then (if (decide (0<i4)) then (if out3.length+[44].length≤9223372036854775807 then (if 0≤i4 then (list0[i4.toNat]?).bind fun y_1=>(zg2 k y_1).bind fun r_2=>(if (out3++[44]).length+r_2.length≤9223372036854775807 then zcl k n list0 ((out3++[44])++r_2) (z6 (i4+1)) e_0 else none) else none) else none) else (if 0≤i4 then (list0[i4.toNat]?).bind fun y_3=>(zg2 k y_3).bind fun r_4=>(if out3.length+r_4.length≤9223372036854775807 then zcl k n list0 (out3++r_4) (z6 (i4+1)) e_0 else none) else none)) else e_0 out3)
def zcm (k:Nat) (list0:List Int):Option zT14:=(if (decide ((List.length list0:Int)=0)) then some [45] else zcl k k list0 [] 0 (fun out_5=>some out_5))
def z11h:Head:=⟨[(3,(.val .str))],[],[]⟩
def z11i (k:Nat):LD zT14:=⟨5,⟨[(0,V1),(3,(.val .str)),(4,V0)],[],[]⟩,[(0,z11h)],fun n x kx=>zcl k n x.1.1 x.1.2.1 x.1.2.2.1 (fun out3=>kx 0 (z11h.fill ((out3,()),(),()))),k⟩
def z1jg (k:Nat):FE:=⟨U5,1,.str,fun x=>zcm k x⟩
theorem zsk (k:Nat):z8 Tryz.prog 63 (z1jg k):=okC zb (xTc (z11g k) xTn) xOn Tryz.f63 (orc (z11i k) (LOn _)) (xLo (z11i k) (by rintro n ⟨⟨list0,out3,i4,⟨⟩⟩,⟨⟩,⟨⟩⟩ kx; kernel_rfl) xLn) (by rintro list0; kernel_rfl)
def zcn (k:Nat):Nat→zT3→Int→Int→Int→(Int→Option Int)→Option Int
 | 0,_,_,_,_,_=>none
 | n+1,s0,simplex1,at5,k6,e_0=>(if (decide (k6<simplex1)) then (if 0≤k6 then (s0.1[k6.toNat]?).bind fun y_1=>(if 0≤simplex1 then (s0.1[simplex1.toNat]?).bind fun y_2=>(if (decide ((List.length y_1:Int)=(List.length y_2:Int))) then (if 0≤k6 then (s0.2.2.1[k6.toNat]?).bind fun y_3=>zcn k n s0 simplex1 (z6 (at5+y_3)) (z6 (k6+1)) e_0 else none) else zcn k n s0 simplex1 at5 (z6 (k6+1)) e_0) else none) else none) else e_0 at5)
def zg3 (k:Nat) (s0:List zT1×Int×List Int×List zT0) (simplex1:Int):Option Int:=zcn k k s0 simplex1 0 0 (fun at_4=>some at_4)
def z11j:Head:=⟨[(5,V0)],[],[]⟩
def z11k (k:Nat):LD Int:=⟨3,⟨[(0,V5),(1,V0),(5,V0),(6,V0)],[],[]⟩,[(0,z11j)],fun n x kx=>zcn k n x.1.1 x.1.2.1 x.1.2.2.1 x.1.2.2.2.1 (fun at5=>kx 0 (z11j.fill ((at5,()),(),()))),k⟩
def z1jh (k:Nat):FE:=⟨(.pr U22 U0),1,U0,fun x=>zg3 k x.1 x.2⟩
theorem z11l (k:Nat):z8 Tryz.prog 107 (z1jh k):=okC zb xTn xOn Tryz.f107 (orc (z11k k) (LOn _)) (xLo (z11k k) (by rintro n ⟨⟨s0,simplex1,at5,k6,⟨⟩⟩,⟨⟩,⟨⟩⟩ kx; kernel_rfl) xLn) (by rintro ⟨s0,simplex1⟩; kernel_rfl)
def znq (i0:Int) (p1:Int):Option Int:=(if (decide ((Int.tmod i0 2)=0)) then (if p1=0 then none else some (Int.tmod 1 p1)) else some (z6 (p1-1)))
def z1ji:FE:=⟨U20,1,U0,fun x=>znq x.1 x.2⟩
theorem z1jj:z8 Tryz.prog 141 (z1ji):=okC zb xTn xOn Tryz.f141 (LOn _) xLn (by rintro ⟨i0,p1⟩; kernel_rfl)
def zco (k:Nat):Nat→zT3→Int→Int→Int→Int→zT0→Int→Int→Int→Int→zT1→zT1→zT1→zT1→Int→Int→Int→Int→Int→Int→(zT3→Int→Int→Int→Int→zT0→Int→Int→Int→zT1→zT1→zT1→zT1→Int→Int→Int→Int→Int→Int→Option zT0)→Option zT0
 | 0,_,_,_,_,_,_,_,_,_,_,_,_,_,_,_,_,_,_,_,_,_=>none
 | n+1,s0,k1,n7,row9,i10,m11,column12,sign13,a14,b15,q_25,q_26,q_27,q_28,v_4a,v_4ba,v_4bba,v_5a,v_5ba,v_5bba,e_6=>(if (decide (b15<m11.2.2.1)) then (if 0≤(z6 ((z6 (a14*m11.2.2.1))+b15)) then (m11.2.2.2[(z6 ((z6 (a14*m11.2.2.1))+b15)).toNat]?).bind fun y_29=>(if s0.2.1=0 then none else (if 0≤(z6 ((z6 ((z6 ((z6 (row9+a14))*v_5bba))+column12))+b15))∧(z6 ((z6 ((z6 ((z6 (row9+a14))*v_5bba))+column12))+b15)).toNat<List.length q_28 then (q_28[(z6 ((z6 ((z6 ((z6 (row9+a14))*v_5bba))+column12))+b15)).toNat]?).bind fun y_30=>(q_28[(z6 ((z6 ((z6 ((z6 (row9+a14))*v_5bba))+column12))+b15)).toNat]?).bind fun y_31=>zco k n s0 k1 n7 row9 i10 m11 column12 sign13 a14 (z6 (b15+1)) q_25 q_26 q_27 (q_28.set ((z6 ((z6 ((z6 ((z6 (row9+a14))*v_5bba))+column12))+b15)).toNat) (Int.tmod (z6 (y_29*sign13)) s0.2.1)) v_4a v_4ba v_4bba v_5a v_5ba v_5bba e_6 else none)) else none) else e_6 s0 k1 n7 row9 i10 m11 column12 sign13 a14 q_25 q_26 q_27 q_28 v_4a v_4ba v_4bba v_5a v_5ba v_5bba)
def zcp (k:Nat):Nat→zT3→Int→Int→Int→Int→zT0→Int→Int→Int→zT1→zT1→zT1→zT1→Int→Int→Int→Int→Int→Int→(zT3→Int→Int→Int→Int→zT1→zT1→zT1→zT1→Int→Int→Int→Int→Int→Int→Option zT0)→Option zT0
 | 0,_,_,_,_,_,_,_,_,_,_,_,_,_,_,_,_,_,_,_,_=>none
 | n+1,s0,k1,n7,row9,i10,m11,column12,sign13,a14,q_21,q_22,q_23,q_24,v_4a,v_4ba,v_4bba,v_5a,v_5ba,v_5bba,e_4=>(if (decide (a14<m11.2.1)) then zco k k s0 k1 n7 row9 i10 m11 column12 sign13 a14 0 q_21 q_22 q_23 q_24 v_4a v_4ba v_4bba v_5a v_5ba v_5bba (fun s_25 k_26 n_27 row_28 i_29 m_30 column_31 sign_32 a_33 q_34 q_35 q_36 q_37 v_4a_38 v_4ba_39 v_4bba_40 v_5a_41 v_5ba_42 v_5bba_43=>zcp k n s_25 k_26 n_27 row_28 i_29 m_30 column_31 sign_32 (z6 (a_33+1)) q_34 q_35 q_36 q_37 v_4a_38 v_4ba_39 v_4bba_40 v_5a_41 v_5ba_42 v_5bba_43 e_4) else e_4 s0 k1 n7 row9 i10 q_21 q_22 q_23 q_24 v_4a v_4ba v_4bba v_5a v_5ba v_5bba)
def z7c (k:Nat):Nat→zT3→Int→Int→Int→Int→zT1→zT1→zT1→zT1→Int→Int→Int→Int→Int→Int→(zT3→Int→Int→zT1→zT1→zT1→Int→Int→Int→Int→Int→Int→Option zT0)→Option zT0
 | 0,_,_,_,_,_,_,_,_,_,_,_,_,_,_,_,_=>none
 | n+1,s0,k1,n7,row9,i10,q_12,q_13,q_14,q_15,v_4a,v_4ba,v_4bba,v_5a,v_5ba,v_5bba,e_2=>(if (decide (i10<(List.length q_13:Int))) then (if 0≤n7∧n7.toNat<List.length q_12 then (q_12[n7.toNat]?).bind fun y_16=>(zav k s0 y_16 i10).bind fun r_17=>(if 0≤i10∧i10.toNat<List.length q_13 then (q_13[i10.toNat]?).bind fun y_18=>(zg3 k s0 y_18).bind fun r_19=>(znq i10 s0.2.1).bind fun r_20=>zcp k k s0 k1 n7 row9 i10 r_17 r_19 r_20 0 q_12 q_13 q_14 q_15 v_4a v_4ba v_4bba v_5a v_5ba v_5bba (fun s_21 k_22 n_23 row_24 i_25 q_26 q_27 q_28 q_29 v_4a_30 v_4ba_31 v_4bba_32 v_5a_33 v_5ba_34 v_5bba_35=>z7c k n s_21 k_22 n_23 row_24 (z6 (i_25+1)) q_26 q_27 q_28 q_29 v_4a_30 v_4ba_31 v_4bba_32 v_5a_33 v_5ba_34 v_5bba_35 e_2) else none) else none) else e_2 s0 k1 n7 q_12 q_14 q_15 v_4a v_4ba v_4bba v_5a v_5ba v_5bba)
def z85 (k:Nat):Nat→zT3→Int→Int→zT1→zT1→zT1→Int→Int→Int→Int→Int→Int→(zT1→zT1→Int→Int→Int→Int→Int→Int→Option zT0)→Option zT0
 | 0,_,_,_,_,_,_,_,_,_,_,_,_,_=>none
 | n+1,s0,k1,n7,q_5,q_6,q_7,v_4a,v_4ba,v_4bba,v_5a,v_5ba,v_5bba,e_0=>(if (decide (n7<(List.length q_5:Int))) then (if (decide (0≤k1)) then (if 0≤n7∧n7.toNat<List.length q_5 then (q_5[n7.toNat]?).bind fun y_8=>(zfv k s0.1 y_8).bind fun r_9=>(if 0≤n7∧n7.toNat<List.length q_5 then (q_5[n7.toNat]?).bind fun y_10=>(zg3 k s0 y_10).bind fun r_11=>z7c k k s0 k1 n7 r_11 0 q_5 r_9 q_6 q_7 v_4a v_4ba v_4bba v_5a v_5ba v_5bba (fun s_12 k_13 n_14 q_15 q_16 q_17 v_4a_18 v_4ba_19 v_4bba_20 v_5a_21 v_5ba_22 v_5bba_23=>z85 k n s_12 k_13 (z6 (n_14+1)) q_15 q_16 q_17 v_4a_18 v_4ba_19 v_4bba_20 v_5a_21 v_5ba_22 v_5bba_23 e_0) else none) else none) else e_0 q_6 q_7 v_4a v_4ba v_4bba v_5a v_5ba v_5bba) else e_0 q_6 q_7 v_4a v_4ba v_4bba v_5a v_5ba v_5bba)
def z86 (k:Nat) (s0:List zT1×Int×List Int×List zT0) (k1:Int):Option zT0:=(zat k s0.1 s0.2.2.1 (z6 (k1+1))).bind fun r_1=>(zat k s0.1 s0.2.2.1 k1).bind fun r_2=>(zfy s0.2.1 r_1 r_2).bind fun r_3=>(zfr k s0.1 (z6 (k1+1))).bind fun r_4=>z85 k k s0 k1 0 r_4 [] r_3.2.2.2 0 0 0 r_3.1 r_3.2.1 r_3.2.2.1 (fun q_24 q_25 v_4a_26 v_4ba_27 v_4bba_28 v_5a_29 v_5ba_30 v_5bba_31=>some (v_5a_29,(v_5ba_30,(v_5bba_31,q_25))))
def z11m:Head:=⟨[(0,V5),(1,V0),(4,(.bp 4 [] 0)),(5,(.bp 5 [] 0)),(6,(.ref P0 [])),(7,V0),(8,(.ref P1 [])),(9,V0),(10,V0),(11,V2),(12,V0),(13,V0),(14,V0)],[(P0,2,U0,false),(P1,2,U0,false),(P2,2,U0,false),(P3,2,U0,false)],[(4,106,(.st (.pr V0 (.pr V0 (.pr V0 (.ref P2 [])))))),(5,106,(.st (.pr V0 (.pr V0 (.pr V0 (.ref P3 []))))))]⟩
def z11n:Head:=⟨[(0,V5),(1,V0),(4,(.bp 4 [] 0)),(5,(.bp 5 [] 0)),(6,(.ref P0 [])),(7,V0),(8,(.ref P1 [])),(9,V0),(10,V0),(11,V2),(12,V0),(13,V0),(14,V0),(15,V0)],[(P0,2,U0,false),(P1,2,U0,false),(P2,2,U0,false),(P3,2,U0,false)],[(4,106,(.st (.pr V0 (.pr V0 (.pr V0 (.ref P2 [])))))),(5,106,(.st (.pr V0 (.pr V0 (.pr V0 (.ref P3 []))))))]⟩
def z11o (k:Nat) (n:Nat) (x:z11n.T) (kx:Nat→St→Option zT0):Option zT0:=zco k n x.1.1 x.1.2.1 x.1.2.2.2.2.2.1 x.1.2.2.2.2.2.2.2.1 x.1.2.2.2.2.2.2.2.2.1 x.1.2.2.2.2.2.2.2.2.2.1 x.1.2.2.2.2.2.2.2.2.2.2.1 x.1.2.2.2.2.2.2.2.2.2.2.2.1 x.1.2.2.2.2.2.2.2.2.2.2.2.2.1 x.1.2.2.2.2.2.2.2.2.2.2.2.2.2.1 x.2.1.1 x.2.1.2.1 x.2.1.2.2.1 x.2.1.2.2.2.1 x.2.2.1.1 x.2.2.1.2.1 x.2.2.1.2.2.1 x.2.2.2.1.1 x.2.2.2.1.2.1 x.2.2.2.1.2.2.1 (fun s0 k1 n7 row9 i10 m11 column12 sign13 a14 q_32 q_33 q_34 q_35 v_4a v_4ba v_4bba v_5a v_5ba v_5bba=>kx 6 (z11m.fill ((s0,k1,(),(),(),n7,(),row9,i10,m11,column12,sign13,a14,()),(q_32,q_33,q_34,q_35,()),((v_4a,(v_4ba,(v_4bba,()))),(v_5a,(v_5ba,(v_5bba,()))),()))))
def znr (k:Nat):LD zT0:=⟨18,z11n,[(6,z11m)],z11o k,k⟩
def z11p:Head:=⟨[(0,V5),(1,V0),(4,(.bp 4 [] 0)),(5,(.bp 5 [] 0)),(6,(.ref P0 [])),(7,V0),(8,(.ref P1 [])),(9,V0),(10,V0)],[(P0,2,U0,false),(P1,2,U0,false),(P2,2,U0,false),(P3,2,U0,false)],[(4,106,(.st (.pr V0 (.pr V0 (.pr V0 (.ref P2 [])))))),(5,106,(.st (.pr V0 (.pr V0 (.pr V0 (.ref P3 []))))))]⟩
def z11q:Head:=⟨[(0,V5),(1,V0),(4,(.bp 4 [] 0)),(5,(.bp 5 [] 0)),(6,(.ref P0 [])),(7,V0),(8,(.ref P1 [])),(9,V0),(10,V0),(11,V2),(12,V0),(13,V0),(14,V0)],[(P0,2,U0,false),(P1,2,U0,false),(P2,2,U0,false),(P3,2,U0,false)],[(4,106,(.st (.pr V0 (.pr V0 (.pr V0 (.ref P2 [])))))),(5,106,(.st (.pr V0 (.pr V0 (.pr V0 (.ref P3 []))))))]⟩
def z11r (k:Nat) (n:Nat) (x:z11q.T) (kx:Nat→St→Option zT0):Option zT0:=zcp k n x.1.1 x.1.2.1 x.1.2.2.2.2.2.1 x.1.2.2.2.2.2.2.2.1 x.1.2.2.2.2.2.2.2.2.1 x.1.2.2.2.2.2.2.2.2.2.1 x.1.2.2.2.2.2.2.2.2.2.2.1 x.1.2.2.2.2.2.2.2.2.2.2.2.1 x.1.2.2.2.2.2.2.2.2.2.2.2.2.1 x.2.1.1 x.2.1.2.1 x.2.1.2.2.1 x.2.1.2.2.2.1 x.2.2.1.1 x.2.2.1.2.1 x.2.2.1.2.2.1 x.2.2.2.1.1 x.2.2.2.1.2.1 x.2.2.2.1.2.2.1 (fun s0 k1 n7 row9 i10 q_51 q_52 q_53 q_54 v_4a v_4ba v_4bba v_5a v_5ba v_5bba=>kx 4 (z11p.fill ((s0,k1,(),(),(),n7,(),row9,i10,()),(q_51,q_52,q_53,q_54,()),((v_4a,(v_4ba,(v_4bba,()))),(v_5a,(v_5ba,(v_5bba,()))),()))))
def zns (k:Nat):LD zT0:=⟨15,z11q,[(4,z11p)],z11r k,k⟩
def z11s:Head:=⟨[(0,V5),(1,V0),(4,(.bp 4 [] 0)),(5,(.bp 5 [] 0)),(6,(.ref P0 [])),(7,V0)],[(P0,2,U0,false),(P1,2,U0,false),(P2,2,U0,false)],[(4,106,(.st (.pr V0 (.pr V0 (.pr V0 (.ref P1 [])))))),(5,106,(.st (.pr V0 (.pr V0 (.pr V0 (.ref P2 []))))))]⟩
def z11t:Head:=⟨[(0,V5),(1,V0),(4,(.bp 4 [] 0)),(5,(.bp 5 [] 0)),(6,(.ref P0 [])),(7,V0),(8,(.ref P1 [])),(9,V0),(10,V0)],[(P0,2,U0,false),(P1,2,U0,false),(P2,2,U0,false),(P3,2,U0,false)],[(4,106,(.st (.pr V0 (.pr V0 (.pr V0 (.ref P2 [])))))),(5,106,(.st (.pr V0 (.pr V0 (.pr V0 (.ref P3 []))))))]⟩
def z11u (k:Nat) (n:Nat) (x:z11t.T) (kx:Nat→St→Option zT0):Option zT0:=z7c k n x.1.1 x.1.2.1 x.1.2.2.2.2.2.1 x.1.2.2.2.2.2.2.2.1 x.1.2.2.2.2.2.2.2.2.1 x.2.1.1 x.2.1.2.1 x.2.1.2.2.1 x.2.1.2.2.2.1 x.2.2.1.1 x.2.2.1.2.1 x.2.2.1.2.2.1 x.2.2.2.1.1 x.2.2.2.1.2.1 x.2.2.2.1.2.2.1 (fun s0 k1 n7 q_59 q_60 q_61 v_4a v_4ba v_4bba v_5a v_5ba v_5bba=>kx 2 (z11s.fill ((s0,k1,(),(),(),n7,()),(q_59,q_60,q_61,()),((v_4a,(v_4ba,(v_4bba,()))),(v_5a,(v_5ba,(v_5bba,()))),()))))
def znt (k:Nat):LD zT0:=⟨9,z11t,[(2,z11s)],z11u k,k⟩
def z11v:Head:=⟨[(4,(.bp 4 [] 0)),(5,(.bp 5 [] 0))],[(P0,2,U0,false),(P1,2,U0,false)],[(4,106,(.st (.pr V0 (.pr V0 (.pr V0 (.ref P0 [])))))),(5,106,(.st (.pr V0 (.pr V0 (.pr V0 (.ref P1 []))))))]⟩
def z11w:Head:=⟨[(0,V5),(1,V0),(4,(.bp 4 [] 0)),(5,(.bp 5 [] 0)),(6,(.ref P0 [])),(7,V0)],[(P0,2,U0,false),(P1,2,U0,false),(P2,2,U0,false)],[(4,106,(.st (.pr V0 (.pr V0 (.pr V0 (.ref P1 [])))))),(5,106,(.st (.pr V0 (.pr V0 (.pr V0 (.ref P2 []))))))]⟩
def z11x (k:Nat) (n:Nat) (x:z11w.T) (kx:Nat→St→Option zT0):Option zT0:=z85 k n x.1.1 x.1.2.1 x.1.2.2.2.2.2.1 x.2.1.1 x.2.1.2.1 x.2.1.2.2.1 x.2.2.1.1 x.2.2.1.2.1 x.2.2.1.2.2.1 x.2.2.2.1.1 x.2.2.2.1.2.1 x.2.2.2.1.2.2.1 (fun q_48 q_49 v_4a v_4ba v_4bba v_5a v_5ba v_5bba=>kx 0 (z11v.fill (((),(),()),(q_48,q_49,()),((v_4a,(v_4ba,(v_4bba,()))),(v_5a,(v_5ba,(v_5bba,()))),()))))
def znu (k:Nat):LD zT0:=⟨4,z11w,[(0,z11v)],z11x k,k⟩
def z1jk (k:Nat):FE:=⟨(.pr U22 U0),1,U3,fun x=>z86 k x.1 x.2⟩
theorem zsl (k:Nat):z8 Tryz.prog 103 (z1jk k):=okC zb (xTc (zse k) (xTc z10u (xTc (zsd k) (xTc (zsg k) (xTc (z11l k) (xTc (z10t k) (xTc z1jj xTn))))))) xOn Tryz.f103 (orc (znr k) (orc (zns k) (orc (znt k) (orc (znu k) (LOn _))))) (xLp (znu k) (by rintro n ⟨⟨s0,k1,⟨⟩,⟨⟩,⟨⟩,n7,⟨⟩⟩,⟨q_5,q_6,q_7,⟨⟩⟩,⟨⟨v_4a,⟨v_4ba,⟨v_4bba,⟨⟩⟩⟩⟩,⟨v_5a,⟨v_5ba,⟨v_5bba,⟨⟩⟩⟩⟩,⟨⟩⟩⟩ kx _ h; dsimp only [znu,z11x] at h; subst h; dsimp only [znu]; kernel_rfl) (xLp (znt k) (by rintro n ⟨⟨s0,k1,⟨⟩,⟨⟩,⟨⟩,n7,⟨⟩,row9,i10,⟨⟩⟩,⟨q_12,q_13,q_14,q_15,⟨⟩⟩,⟨⟨v_4a,⟨v_4ba,⟨v_4bba,⟨⟩⟩⟩⟩,⟨v_5a,⟨v_5ba,⟨v_5bba,⟨⟩⟩⟩⟩,⟨⟩⟩⟩ kx _ h; dsimp only [znt,z11u] at h; subst h; dsimp only [znt]; kernel_rfl) (xLp (zns k) (by rintro n ⟨⟨s0,k1,⟨⟩,⟨⟩,⟨⟩,n7,⟨⟩,row9,i10,m11,column12,sign13,a14,⟨⟩⟩,⟨q_21,q_22,q_23,q_24,⟨⟩⟩,⟨⟨v_4a,⟨v_4ba,⟨v_4bba,⟨⟩⟩⟩⟩,⟨v_5a,⟨v_5ba,⟨v_5bba,⟨⟩⟩⟩⟩,⟨⟩⟩⟩ kx _ h; dsimp only [zns,z11r] at h; subst h; dsimp only [zns]; kernel_rfl) (xLp (znr k) (by rintro n ⟨⟨s0,k1,⟨⟩,⟨⟩,⟨⟩,n7,⟨⟩,row9,i10,m11,column12,sign13,a14,b15,⟨⟩⟩,⟨q_25,q_26,q_27,q_28,⟨⟩⟩,⟨⟨v_4a,⟨v_4ba,⟨v_4bba,⟨⟩⟩⟩⟩,⟨v_5a,⟨v_5ba,⟨v_5bba,⟨⟩⟩⟩⟩,⟨⟩⟩⟩ kx _ h; dsimp only [znr,z11o] at h; subst h; dsimp only [znr]; kernel_rfl) xLn)))) (by rintro ⟨s0,k1⟩; kernel_rfl)
def zcq (k:Nat):Nat→zT0→zT1→Int→Int→Int→zT1→(zT0→zT1→Int→Int→zT1→Option zT1)→Option zT1
 | 0,_,_,_,_,_,_,_=>none
 | n+1,m0,v1,i6,sum7,k8,q_2,e_2=>(if (decide (k8<m0.2.2.1)) then (if 0≤(z6 ((z6 (i6*m0.2.2.1))+k8)) then (m0.2.2.2[(z6 ((z6 (i6*m0.2.2.1))+k8)).toNat]?).bind fun y_3=>(if 0≤k8 then (v1[k8.toNat]?).bind fun y_4=>zcq k n m0 v1 i6 (z6 (sum7+(z6 (y_3*y_4)))) (z6 (k8+1)) q_2 e_2 else none) else none) else e_2 m0 v1 i6 sum7 q_2)
def zg4 (k:Nat):Nat→zT0→zT1→Int→zT1→(zT1→Option zT1)→Option zT1
 | 0,_,_,_,_,_=>none
 | n+1,m0,v1,i6,q_1,e_0=>(if (decide (i6<m0.2.1)) then zcq k k m0 v1 i6 0 0 q_1 (fun m_2 v_3 i_4 sum_5 q_6=>(if m_2.1=0 then none else (if (q_6.length+[(Int.tmod sum_5 m_2.1)].length)*8≤LIM then zg4 k n m_2 v_3 (z6 (i_4+1)) (q_6++[(Int.tmod sum_5 m_2.1)]) e_0 else none))) else e_0 q_1)
def zj0 (k:Nat) (m0:Int×Int×Int×List Int) (v1:List Int):Option zT1:=zg4 k k m0 v1 0 [] (fun q_7=>some q_7)
def z11y:Head:=⟨[(0,V2),(1,V1),(5,(.ref P0 [])),(6,V0),(7,V0)],[(P0,2,U0,false)],[]⟩
def z11z (k:Nat):LD zT1:=⟨7,⟨[(0,V2),(1,V1),(5,(.ref P0 [])),(6,V0),(7,V0),(8,V0)],[(P0,2,U0,false)],[]⟩,[(2,z11y)],fun n x kx=>zcq k n x.1.1 x.1.2.1 x.1.2.2.2.1 x.1.2.2.2.2.1 x.1.2.2.2.2.2.1 x.2.1.1 (fun m0 v1 i6 sum7 q_5=>kx 2 (z11y.fill ((m0,v1,(),i6,sum7,()),(q_5,()),()))),k⟩
def z120:Head:=⟨[(5,(.ref P0 []))],[(P0,2,U0,false)],[]⟩
def z121 (k:Nat):LD zT1:=⟨3,⟨[(0,V2),(1,V1),(5,(.ref P0 [])),(6,V0)],[(P0,2,U0,false)],[]⟩,[(0,z120)],fun n x kx=>zg4 k n x.1.1 x.1.2.1 x.1.2.2.2.1 x.2.1.1 (fun q_10=>kx 0 (z120.fill (((),()),(q_10,()),()))),k⟩
def z1jl (k:Nat):FE:=⟨(.pr U14 U5),1,U5,fun x=>zj0 k x.1 x.2⟩
theorem z122 (k:Nat):z8 Tryz.prog 105 (z1jl k):=okC zb xTn xOn Tryz.f105 (orc (z11z k) (orc (z121 k) (LOn _))) (xLo (z121 k) (by rintro n ⟨⟨m0,v1,⟨⟩,i6,⟨⟩⟩,⟨q_1,⟨⟩⟩,⟨⟩⟩ kx; kernel_rfl) (xLo (z11z k) (by rintro n ⟨⟨m0,v1,⟨⟩,i6,sum7,k8,⟨⟩⟩,⟨q_2,⟨⟩⟩,⟨⟩⟩ kx; kernel_rfl) xLn)) (by rintro ⟨m0,v1⟩; kernel_rfl)
def zg5 (k:Nat):Nat→zT1→Int→(Option Bool)→Option Bool
 | 0,_,_,_=>none
 | n+1,v0,i3,e_0=>(if (decide (i3<(List.length v0:Int))) then (if 0≤i3 then (v0[i3.toNat]?).bind fun y_1=>(if (!(decide (y_1=0))) then some false else zg5 k n v0 (z6 (i3+1)) e_0) else none) else e_0)
def zj1 (k:Nat) (v0:List Int):Option Bool:=zg5 k k v0 0 (some true)
def z123:Head:=⟨[],[],[]⟩
def z124 (k:Nat):LD Bool:=⟨2,⟨[(0,V1),(3,V0)],[],[]⟩,[(0,z123)],fun n x kx=>zg5 k n x.1.1 x.1.2.1 (kx 0 (z123.fill ((),(),()))),k⟩
def z1jm (k:Nat):FE:=⟨U5,1,.bool,fun x=>zj1 k x⟩
theorem z125 (k:Nat):z8 Tryz.prog 104 (z1jm k):=okC zb xTn xOn Tryz.f104 (orc (z124 k) (LOn _)) (xLo (z124 k) (by rintro n ⟨⟨v0,i3,⟨⟩⟩,⟨⟩,⟨⟩⟩ kx; kernel_rfl) xLn) (by rintro v0; kernel_rfl)
def znv (k:Nat) (s0:List zT1×Int×List Int×List zT0) (k1:Int) (x2:List Int):Option Bool:=(z86 k s0 k1).bind fun r_1=>(zj0 k (r_1.1,(r_1.2.1,(r_1.2.2.1,r_1.2.2.2))) x2).bind fun r_2=>(zj1 k r_2).bind fun r_3=>some r_3
def z1jn (k:Nat):FE:=⟨(.pr U22 (.pr U0 U5)),1,.bool,fun x=>znv k x.1 x.2.1 x.2.2⟩
theorem z1jo (k:Nat):z8 Tryz.prog 65 (z1jn k):=okC zb (xTc (zsl k) (xTc (z122 k) (xTc (z125 k) xTn))) xOn Tryz.f65 (LOn _) xLn (by rintro ⟨s0,k1,x2⟩; kernel_rfl)
end
end Go.Proofs.YtfinlkoplekgkaaGreatDoor.Ev
