/- Functions of the program, as plain ones. No conditions. -/
import Derived.Test.YtchfjdcfhlhgcaaGreatDoorG2
import Derived.KernelRfl
set_option linter.unusedVariables false
set_option maxRecDepth 100000
namespace Go.Proofs.YtchfjdcfhlhgcaaGreatDoor.Ev
open Go.RowKit
noncomputable section
def zf3 (k:Nat):Nat→zT0→zT0→Int→(Option Bool)→Option Bool
 | 0,_,_,_,_=>none
 | n+1,a0,b1,i5,e_0=>(if (decide (i5<(List.length a0.2.2.2:Int))) then (if 0≤i5 then (a0.2.2.2[i5.toNat]?).bind fun y_1=>(if 0≤i5 then (b1.2.2.2[i5.toNat]?).bind fun y_2=>(if (!(decide (y_1=y_2))) then some false else zf3 k n a0 b1 (z6 (i5+1)) e_0) else none) else none) else e_0)
def zm2 (k:Nat) (a0:Int×Int×Int×List Int) (b1:Int×Int×Int×List Int):Option Bool:=(if (!(decide (a0.1=b1.1))) then some false else (if (!(decide (a0.2.1=b1.2.1))) then some false else (if (!(decide (a0.2.2.1=b1.2.2.1))) then some false else (if (!(decide ((List.length a0.2.2.2:Int)=(List.length b1.2.2.2:Int)))) then some false else zf3 k k a0 b1 0 (some true)))))
def zz6:Head:=⟨[],[],[]⟩
def zz7 (k:Nat):LD Bool:=⟨4,⟨[(0,V2),(1,V2),(5,V0)],[],[]⟩,[(0,zz6)],fun n x kx=>zf3 k n x.1.1 x.1.2.1 x.1.2.2.1 (kx 0 (zz6.fill ((),(),()))),k⟩
def z1g6 (k:Nat):FE:=⟨(.pr U13 U13),1,.bool,fun x=>zm2 k x.1 x.2⟩
theorem z1g7 (k:Nat):z8 Tryz.prog 119 (z1g6 k):=okC zb xTn xOn Tryz.f119 (orc (zz7 k) (LOn _)) (xLo (zz7 k) (by rintro n ⟨⟨a0,b1,i5,⟨⟩⟩,⟨⟩,⟨⟩⟩ kx; kernel_rfl) xLn) (by rintro ⟨a0,b1⟩; kernel_rfl)
def z39 (k:Nat):Nat→zT3→Int→Int→Int→Int→(zT3→Int→Int→Int→Option zT2)→Option zT2
 | 0,_,_,_,_,_,_=>none
 | n+1,s0,k5,n6,i7,j8,e_4=>(if (decide (j8<n6)) then (zht k s0 k5 i7 j8).bind fun r_2=>(zht k s0 k5 j8 i7).bind fun r_3=>(zm2 k (r_2.1,(r_2.2.1,(r_2.2.2.1,r_2.2.2.2))) (r_3.1,(r_3.2.1,(r_3.2.2.1,r_3.2.2.2)))).bind fun r_4=>(if (!r_4) then some (k5,i7,j8) else z39 k n s0 k5 n6 i7 (z6 (j8+1)) e_4) else e_4 s0 k5 n6 i7)
def z3y (k:Nat):Nat→zT3→Int→Int→Int→(zT3→Int→Option zT2)→Option zT2
 | 0,_,_,_,_,_=>none
 | n+1,s0,k5,n6,i7,e_2=>(if (decide (i7<n6)) then (if (decide (2<n6)) then z39 k k s0 k5 n6 i7 (z6 (i7+1)) (fun s_2 k_3 n_4 i_5=>z3y k n s_2 k_3 n_4 (z6 (i_5+1)) e_2) else e_2 s0 k5) else e_2 s0 k5)
def z8q (k:Nat):Nat→zT3→Int→(Option zT2)→Option zT2
 | 0,_,_,_=>none
 | n+1,s0,k5,e_0=>(if (decide (k5<(List.length s0.1:Int))) then (if 0≤k5 then (s0.1[k5.toNat]?).bind fun y_1=>z3y k k s0 k5 (List.length y_1:Int) 0 (fun s_2 k_3=>z8q k n s_2 (z6 (k_3+1)) e_0) else none) else e_0)
def zf4 (k:Nat) (s0:List zT1×Int×List Int×List zT0):Option zT2:=z8q k k s0 0 (some ((-1),0,0))
def zz8:Head:=⟨[(0,V4),(5,V0),(6,V0),(7,V0)],[],[]⟩
def zz9 (k:Nat):LD zT2:=⟨9,⟨[(0,V4),(5,V0),(6,V0),(7,V0),(8,V0)],[],[]⟩,[(4,zz8)],fun n x kx=>z39 k n x.1.1 x.1.2.1 x.1.2.2.1 x.1.2.2.2.1 x.1.2.2.2.2.1 (fun s0 k5 n6 i7=>kx 4 (zz8.fill ((s0,k5,n6,i7,()),(),()))),k⟩
def zza:Head:=⟨[(0,V4),(5,V0)],[],[]⟩
def zzb (k:Nat):LD zT2:=⟨6,⟨[(0,V4),(5,V0),(6,V0),(7,V0)],[],[]⟩,[(2,zza)],fun n x kx=>z3y k n x.1.1 x.1.2.1 x.1.2.2.1 x.1.2.2.2.1 (fun s0 k5=>kx 2 (zza.fill ((s0,k5,()),(),()))),k⟩
def zzc:Head:=⟨[],[],[]⟩
def zzd (k:Nat):LD zT2:=⟨2,⟨[(0,V4),(5,V0)],[],[]⟩,[(0,zzc)],fun n x kx=>z8q k n x.1.1 x.1.2.1 (kx 0 (zzc.fill ((),(),()))),k⟩
def z1g8 (k:Nat):FE:=⟨U23,3,U32,fun x=>zf4 k x⟩
theorem z1g9 (k:Nat):z8 Tryz.prog 69 (z1g8 k):=okC zb (xTc (z1g5 k) (xTc (z1g7 k) xTn)) xOn Tryz.f69 (orc (zz9 k) (orc (zzb k) (orc (zzd k) (LOn _)))) (xLo (zzd k) (by rintro n ⟨⟨s0,k5,⟨⟩⟩,⟨⟩,⟨⟩⟩ kx; kernel_rfl) (xLo (zzb k) (by rintro n ⟨⟨s0,k5,n6,i7,⟨⟩⟩,⟨⟩,⟨⟩⟩ kx; kernel_rfl) (xLo (zz9 k) (by rintro n ⟨⟨s0,k5,n6,i7,j8,⟨⟩⟩,⟨⟩,⟨⟩⟩ kx; kernel_rfl) xLn))) (by rintro s0; kernel_rfl)
def z8r (k:Nat):Nat→Int→Int→zT1→(Int→zT1→Option zT14)→Option zT14
 | 0,_,_,_,_=>none
 | n+1,n0,m4,q_1,e_0=>(if (!(decide (m4=0))) then (if (decide ((Int.tmod m4 10)<0)) then (if (q_1.length+[(z6r ((z6 (48+(z6 (0-(Int.tmod m4 10)))))))].length)*1≤LIM then z8r k n n0 (z6 (Int.tdiv m4 10)) (q_1++[(z6r ((z6 (48+(z6 (0-(Int.tmod m4 10)))))))]) e_0 else none) else (if (q_1.length+[(z6r ((z6 (48+(Int.tmod m4 10)))))].length)*1≤LIM then z8r k n n0 (z6 (Int.tdiv m4 10)) (q_1++[(z6r ((z6 (48+(Int.tmod m4 10)))))]) e_0 else none)) else e_0 n0 q_1)
def zbs (k:Nat):Nat→Int→zT1→zT1→(zT1→Option zT14)→Option zT14
 | 0,_,_,_,_=>none
 | n+1,i7,q_4,q_5,e_2=>(if (decide (0≤i7)) then (if 0≤i7∧i7.toNat<List.length q_4 then (q_4[i7.toNat]?).bind fun y_6=>(if (q_5.length+[y_6].length)*1≤LIM then zbs k n (z6 (i7-1)) q_4 (q_5++[y_6]) e_2 else none) else none) else e_2 q_5)
def zhu (k:Nat) (n0:Int):Option zT14:=(if (decide (n0=0)) then some [48] else z8r k k n0 n0 [] (fun n_2 q_3=>(if (decide (n_2<0)) then (if (q_3.length+[45].length)*1≤LIM then zbs k k (z6 ((List.length (q_3++[45]):Int)-1)) (q_3++[45]) [] (fun q_7=>some (z8i q_7)) else none) else zbs k k (z6 ((List.length q_3:Int)-1)) q_3 [] (fun q_8=>some (z8i q_8)))))
def zze:Head:=⟨[(0,V0),(3,(.ref P0 []))],[(P0,5,U22,false)],[]⟩
def zzf (k:Nat):LD zT14:=⟨5,⟨[(0,V0),(3,(.ref P0 [])),(4,V0)],[(P0,5,U22,false)],[]⟩,[(0,zze)],fun n x kx=>z8r k n x.1.1 x.1.2.2.1 x.2.1.1 (fun n0 q_2=>kx 0 (zze.fill ((n0,(),()),(q_2,()),()))),k⟩
def zzg:Head:=⟨[(6,(.ref P0 []))],[(P0,5,U22,false)],[]⟩
def zzh (k:Nat):LD zT14:=⟨15,⟨[(3,(.ref P0 [])),(6,(.ref P1 [])),(7,V0)],[(P0,5,U22,false),(P1,5,U22,false)],[]⟩,[(2,zzg)],fun n x kx=>zbs k n x.1.2.2.1 x.2.1.1 x.2.1.2.1 (fun q_7=>kx 2 (zzg.fill (((),()),(q_7,()),()))),k⟩
def z1ga (k:Nat):FE:=⟨U0,1,.str,fun x=>zhu k x⟩
theorem z1gb (k:Nat):z8 Tryz.prog 79 (z1ga k):=okC zb xTn xOn Tryz.f79 (orc (zzf k) (orc (zzh k) (LOn _))) (xLo (zzf k) (by rintro n ⟨⟨n0,⟨⟩,m4,⟨⟩⟩,⟨q_1,⟨⟩⟩,⟨⟩⟩ kx; kernel_rfl) (xLo (zzh k) (by rintro n ⟨⟨⟨⟩,⟨⟩,i7,⟨⟩⟩,⟨q_4,q_5,⟨⟩⟩,⟨⟩⟩ kx; kernel_rfl) xLn)) (by rintro n0; kernel_rfl)
def zbt (k:Nat):Nat→zT1→zT14→Int→(zT14→Option zT14)→Option zT14
 | 0,_,_,_,_=>none
 | n+1,list0,out3,i4,e_0=>(if (decide (i4<(List.length list0:Int))) then (if (decide (0<i4)) then (if out3.length+[44].length≤9223372036854775807 then (if 0≤i4 then (list0[i4.toNat]?).bind fun y_1=>(zhu k y_1).bind fun r_2=>(if (out3++[44]).length+r_2.length≤9223372036854775807 then zbt k n list0 ((out3++[44])++r_2) (z6 (i4+1)) e_0 else none) else none) else none) else (if 0≤i4 then (list0[i4.toNat]?).bind fun y_3=>(zhu k y_3).bind fun r_4=>(if out3.length+r_4.length≤9223372036854775807 then zbt k n list0 (out3++r_4) (z6 (i4+1)) e_0 else none) else none)) else e_0 out3)
def zhv (k:Nat) (list0:List Int):Option zT14:=(if (decide ((List.length list0:Int)=0)) then some [45] else zbt k k list0 [] 0 (fun out_5=>some out_5))
def zzi:Head:=⟨[(3,(.val .str))],[],[]⟩
def zzj (k:Nat):LD zT14:=⟨5,⟨[(0,V1),(3,(.val .str)),(4,V0)],[],[]⟩,[(0,zzi)],fun n x kx=>zbt k n x.1.1 x.1.2.1 x.1.2.2.1 (fun out3=>kx 0 (zzi.fill ((out3,()),(),()))),k⟩
def z1gc (k:Nat):FE:=⟨U5,1,.str,fun x=>zhv k x⟩
theorem z1gd (k:Nat):z8 Tryz.prog 70 (z1gc k):=okC zb (xTc (z1gb k) xTn) xOn Tryz.f70 (orc (zzj k) (LOn _)) (xLo (zzj k) (by rintro n ⟨⟨list0,out3,i4,⟨⟩⟩,⟨⟩,⟨⟩⟩ kx; kernel_rfl) xLn) (by rintro list0; kernel_rfl)
def zbu (k:Nat):Nat→zT3→Int→Int→Int→(Int→Option Int)→Option Int
 | 0,_,_,_,_,_=>none
 | n+1,s0,simplex1,at5,k6,e_0=>(if (decide (k6<simplex1)) then (if 0≤k6 then (s0.1[k6.toNat]?).bind fun y_1=>(if 0≤simplex1 then (s0.1[simplex1.toNat]?).bind fun y_2=>(if (decide ((List.length y_1:Int)=(List.length y_2:Int))) then (if 0≤k6 then (s0.2.2.1[k6.toNat]?).bind fun y_3=>zbu k n s0 simplex1 (z6 (at5+y_3)) (z6 (k6+1)) e_0 else none) else zbu k n s0 simplex1 at5 (z6 (k6+1)) e_0) else none) else none) else e_0 at5)
def zhw (k:Nat) (s0:List zT1×Int×List Int×List zT0) (simplex1:Int):Option Int:=zbu k k s0 simplex1 0 0 (fun at_4=>some at_4)
def zzk:Head:=⟨[(5,V0)],[],[]⟩
def zzl (k:Nat):LD Int:=⟨3,⟨[(0,V4),(1,V0),(5,V0),(6,V0)],[],[]⟩,[(0,zzk)],fun n x kx=>zbu k n x.1.1 x.1.2.1 x.1.2.2.1 x.1.2.2.2.1 (fun at5=>kx 0 (zzk.fill ((at5,()),(),()))),k⟩
def z1ge (k:Nat):FE:=⟨(.pr U23 U0),1,U0,fun x=>zhw k x.1 x.2⟩
theorem z1gf (k:Nat):z8 Tryz.prog 125 (z1ge k):=okC zb xTn xOn Tryz.f125 (orc (zzl k) (LOn _)) (xLo (zzl k) (by rintro n ⟨⟨s0,simplex1,at5,k6,⟨⟩⟩,⟨⟩,⟨⟩⟩ kx; kernel_rfl) xLn) (by rintro ⟨s0,simplex1⟩; kernel_rfl)
def zm3 (i0:Int) (p1:Int):Option Int:=(if (decide ((Int.tmod i0 2)=0)) then (if p1=0 then none else some (Int.tmod 1 p1)) else some (z6 (p1-1)))
def z1gg:FE:=⟨U20,1,U0,fun x=>zm3 x.1 x.2⟩
theorem z1gh:z8 Tryz.prog 171 (z1gg):=okC zb xTn xOn Tryz.f171 (LOn _) xLn (by rintro ⟨i0,p1⟩; kernel_rfl)
def zbv (k:Nat):Nat→zT3→Int→Int→Int→Int→zT0→Int→Int→Int→Int→zT1→zT1→zT1→zT1→Int→Int→Int→Int→Int→Int→(zT3→Int→Int→Int→Int→zT0→Int→Int→Int→zT1→zT1→zT1→zT1→Int→Int→Int→Int→Int→Int→Option zT0)→Option zT0
 | 0,_,_,_,_,_,_,_,_,_,_,_,_,_,_,_,_,_,_,_,_,_=>none
 | n+1,s0,k1,n7,row9,i10,m11,column12,sign13,a14,b15,q_25,q_26,q_27,q_28,v_4a,v_4ba,v_4bba,v_5a,v_5ba,v_5bba,e_6=>(if (decide (b15<m11.2.2.1)) then (if 0≤(z6 ((z6 (a14*m11.2.2.1))+b15)) then (m11.2.2.2[(z6 ((z6 (a14*m11.2.2.1))+b15)).toNat]?).bind fun y_29=>(if s0.2.1=0 then none else (if 0≤(z6 ((z6 ((z6 ((z6 (row9+a14))*v_5bba))+column12))+b15))∧(z6 ((z6 ((z6 ((z6 (row9+a14))*v_5bba))+column12))+b15)).toNat<List.length q_28 then (q_28[(z6 ((z6 ((z6 ((z6 (row9+a14))*v_5bba))+column12))+b15)).toNat]?).bind fun y_30=>(q_28[(z6 ((z6 ((z6 ((z6 (row9+a14))*v_5bba))+column12))+b15)).toNat]?).bind fun y_31=>zbv k n s0 k1 n7 row9 i10 m11 column12 sign13 a14 (z6 (b15+1)) q_25 q_26 q_27 (q_28.set ((z6 ((z6 ((z6 ((z6 (row9+a14))*v_5bba))+column12))+b15)).toNat) (Int.tmod (z6 (y_29*sign13)) s0.2.1)) v_4a v_4ba v_4bba v_5a v_5ba v_5bba e_6 else none)) else none) else e_6 s0 k1 n7 row9 i10 m11 column12 sign13 a14 q_25 q_26 q_27 q_28 v_4a v_4ba v_4bba v_5a v_5ba v_5bba)
def zbw (k:Nat):Nat→zT3→Int→Int→Int→Int→zT0→Int→Int→Int→zT1→zT1→zT1→zT1→Int→Int→Int→Int→Int→Int→(zT3→Int→Int→Int→Int→zT1→zT1→zT1→zT1→Int→Int→Int→Int→Int→Int→Option zT0)→Option zT0
 | 0,_,_,_,_,_,_,_,_,_,_,_,_,_,_,_,_,_,_,_,_=>none
 | n+1,s0,k1,n7,row9,i10,m11,column12,sign13,a14,q_21,q_22,q_23,q_24,v_4a,v_4ba,v_4bba,v_5a,v_5ba,v_5bba,e_4=>(if (decide (a14<m11.2.1)) then zbv k k s0 k1 n7 row9 i10 m11 column12 sign13 a14 0 q_21 q_22 q_23 q_24 v_4a v_4ba v_4bba v_5a v_5ba v_5bba (fun s_25 k_26 n_27 row_28 i_29 m_30 column_31 sign_32 a_33 q_34 q_35 q_36 q_37 v_4a_38 v_4ba_39 v_4bba_40 v_5a_41 v_5ba_42 v_5bba_43=>zbw k n s_25 k_26 n_27 row_28 i_29 m_30 column_31 sign_32 (z6 (a_33+1)) q_34 q_35 q_36 q_37 v_4a_38 v_4ba_39 v_4bba_40 v_5a_41 v_5ba_42 v_5bba_43 e_4) else e_4 s0 k1 n7 row9 i10 q_21 q_22 q_23 q_24 v_4a v_4ba v_4bba v_5a v_5ba v_5bba)
def zbx (k:Nat):Nat→zT3→Int→Int→Int→Int→zT1→zT1→zT1→zT1→Int→Int→Int→Int→Int→Int→(zT3→Int→Int→zT1→zT1→zT1→Int→Int→Int→Int→Int→Int→Option zT0)→Option zT0
 | 0,_,_,_,_,_,_,_,_,_,_,_,_,_,_,_,_=>none
 | n+1,s0,k1,n7,row9,i10,q_12,q_13,q_14,q_15,v_4a,v_4ba,v_4bba,v_5a,v_5ba,v_5bba,e_2=>(if (decide (i10<(List.length q_13:Int))) then (if 0≤n7∧n7.toNat<List.length q_12 then (q_12[n7.toNat]?).bind fun y_16=>(za2 k s0 y_16 i10).bind fun r_17=>(if 0≤i10∧i10.toNat<List.length q_13 then (q_13[i10.toNat]?).bind fun y_18=>(zhw k s0 y_18).bind fun r_19=>(zm3 i10 s0.2.1).bind fun r_20=>zbw k k s0 k1 n7 row9 i10 r_17 r_19 r_20 0 q_12 q_13 q_14 q_15 v_4a v_4ba v_4bba v_5a v_5ba v_5bba (fun s_21 k_22 n_23 row_24 i_25 q_26 q_27 q_28 q_29 v_4a_30 v_4ba_31 v_4bba_32 v_5a_33 v_5ba_34 v_5bba_35=>zbx k n s_21 k_22 n_23 row_24 (z6 (i_25+1)) q_26 q_27 q_28 q_29 v_4a_30 v_4ba_31 v_4bba_32 v_5a_33 v_5ba_34 v_5bba_35 e_2) else none) else none) else e_2 s0 k1 n7 q_12 q_14 q_15 v_4a v_4ba v_4bba v_5a v_5ba v_5bba)
def zby (k:Nat):Nat→zT3→Int→Int→zT1→zT1→zT1→Int→Int→Int→Int→Int→Int→(zT1→zT1→Int→Int→Int→Int→Int→Int→Option zT0)→Option zT0
 | 0,_,_,_,_,_,_,_,_,_,_,_,_,_=>none
 | n+1,s0,k1,n7,q_5,q_6,q_7,v_4a,v_4ba,v_4bba,v_5a,v_5ba,v_5bba,e_0=>(if (decide (n7<(List.length q_5:Int))) then (if (decide (0≤k1)) then (if 0≤n7∧n7.toNat<List.length q_5 then (q_5[n7.toNat]?).bind fun y_8=>(zey k s0.1 y_8).bind fun r_9=>(if 0≤n7∧n7.toNat<List.length q_5 then (q_5[n7.toNat]?).bind fun y_10=>(zhw k s0 y_10).bind fun r_11=>zbx k k s0 k1 n7 r_11 0 q_5 r_9 q_6 q_7 v_4a v_4ba v_4bba v_5a v_5ba v_5bba (fun s_12 k_13 n_14 q_15 q_16 q_17 v_4a_18 v_4ba_19 v_4bba_20 v_5a_21 v_5ba_22 v_5bba_23=>zby k n s_12 k_13 (z6 (n_14+1)) q_15 q_16 q_17 v_4a_18 v_4ba_19 v_4bba_20 v_5a_21 v_5ba_22 v_5bba_23 e_0) else none) else none) else e_0 q_6 q_7 v_4a v_4ba v_4bba v_5a v_5ba v_5bba) else e_0 q_6 q_7 v_4a v_4ba v_4bba v_5a v_5ba v_5bba)
def zbz (k:Nat) (s0:List zT1×Int×List Int×List zT0) (k1:Int):Option zT0:=(za0 k s0.1 s0.2.2.1 (z6 (k1+1))).bind fun r_1=>(za0 k s0.1 s0.2.2.1 k1).bind fun r_2=>(zf1 s0.2.1 r_1 r_2).bind fun r_3=>(zhr k s0.1 (z6 (k1+1))).bind fun r_4=>zby k k s0 k1 0 r_4 [] r_3.2.2.2 0 0 0 r_3.1 r_3.2.1 r_3.2.2.1 (fun q_24 q_25 v_4a_26 v_4ba_27 v_4bba_28 v_5a_29 v_5ba_30 v_5bba_31=>some (v_5a_29,(v_5ba_30,(v_5bba_31,q_25))))
def zzm:Head:=⟨[(0,V4),(1,V0),(4,(.bp 4 [] 0)),(5,(.bp 5 [] 0)),(6,(.ref P0 [])),(7,V0),(8,(.ref P1 [])),(9,V0),(10,V0),(11,V2),(12,V0),(13,V0),(14,V0)],[(P0,2,U0,false),(P1,2,U0,false),(P2,2,U0,false),(P3,2,U0,false)],[(4,138,(.st (.pr V0 (.pr V0 (.pr V0 (.ref P2 [])))))),(5,138,(.st (.pr V0 (.pr V0 (.pr V0 (.ref P3 []))))))]⟩
def zzn:Head:=⟨[(0,V4),(1,V0),(4,(.bp 4 [] 0)),(5,(.bp 5 [] 0)),(6,(.ref P0 [])),(7,V0),(8,(.ref P1 [])),(9,V0),(10,V0),(11,V2),(12,V0),(13,V0),(14,V0),(15,V0)],[(P0,2,U0,false),(P1,2,U0,false),(P2,2,U0,false),(P3,2,U0,false)],[(4,138,(.st (.pr V0 (.pr V0 (.pr V0 (.ref P2 [])))))),(5,138,(.st (.pr V0 (.pr V0 (.pr V0 (.ref P3 []))))))]⟩
def zzo (k:Nat) (n:Nat) (x:zzn.T) (kx:Nat→St→Option zT0):Option zT0:=zbv k n x.1.1 x.1.2.1 x.1.2.2.2.2.2.1 x.1.2.2.2.2.2.2.2.1 x.1.2.2.2.2.2.2.2.2.1 x.1.2.2.2.2.2.2.2.2.2.1 x.1.2.2.2.2.2.2.2.2.2.2.1 x.1.2.2.2.2.2.2.2.2.2.2.2.1 x.1.2.2.2.2.2.2.2.2.2.2.2.2.1 x.1.2.2.2.2.2.2.2.2.2.2.2.2.2.1 x.2.1.1 x.2.1.2.1 x.2.1.2.2.1 x.2.1.2.2.2.1 x.2.2.1.1 x.2.2.1.2.1 x.2.2.1.2.2.1 x.2.2.2.1.1 x.2.2.2.1.2.1 x.2.2.2.1.2.2.1 (fun s0 k1 n7 row9 i10 m11 column12 sign13 a14 q_32 q_33 q_34 q_35 v_4a v_4ba v_4bba v_5a v_5ba v_5bba=>kx 6 (zzm.fill ((s0,k1,(),(),(),n7,(),row9,i10,m11,column12,sign13,a14,()),(q_32,q_33,q_34,q_35,()),((v_4a,(v_4ba,(v_4bba,()))),(v_5a,(v_5ba,(v_5bba,()))),()))))
def zm4 (k:Nat):LD zT0:=⟨18,zzn,[(6,zzm)],zzo k,k⟩
def zzp:Head:=⟨[(0,V4),(1,V0),(4,(.bp 4 [] 0)),(5,(.bp 5 [] 0)),(6,(.ref P0 [])),(7,V0),(8,(.ref P1 [])),(9,V0),(10,V0)],[(P0,2,U0,false),(P1,2,U0,false),(P2,2,U0,false),(P3,2,U0,false)],[(4,138,(.st (.pr V0 (.pr V0 (.pr V0 (.ref P2 [])))))),(5,138,(.st (.pr V0 (.pr V0 (.pr V0 (.ref P3 []))))))]⟩
def zzq:Head:=⟨[(0,V4),(1,V0),(4,(.bp 4 [] 0)),(5,(.bp 5 [] 0)),(6,(.ref P0 [])),(7,V0),(8,(.ref P1 [])),(9,V0),(10,V0),(11,V2),(12,V0),(13,V0),(14,V0)],[(P0,2,U0,false),(P1,2,U0,false),(P2,2,U0,false),(P3,2,U0,false)],[(4,138,(.st (.pr V0 (.pr V0 (.pr V0 (.ref P2 [])))))),(5,138,(.st (.pr V0 (.pr V0 (.pr V0 (.ref P3 []))))))]⟩
def zzr (k:Nat) (n:Nat) (x:zzq.T) (kx:Nat→St→Option zT0):Option zT0:=zbw k n x.1.1 x.1.2.1 x.1.2.2.2.2.2.1 x.1.2.2.2.2.2.2.2.1 x.1.2.2.2.2.2.2.2.2.1 x.1.2.2.2.2.2.2.2.2.2.1 x.1.2.2.2.2.2.2.2.2.2.2.1 x.1.2.2.2.2.2.2.2.2.2.2.2.1 x.1.2.2.2.2.2.2.2.2.2.2.2.2.1 x.2.1.1 x.2.1.2.1 x.2.1.2.2.1 x.2.1.2.2.2.1 x.2.2.1.1 x.2.2.1.2.1 x.2.2.1.2.2.1 x.2.2.2.1.1 x.2.2.2.1.2.1 x.2.2.2.1.2.2.1 (fun s0 k1 n7 row9 i10 q_51 q_52 q_53 q_54 v_4a v_4ba v_4bba v_5a v_5ba v_5bba=>kx 4 (zzp.fill ((s0,k1,(),(),(),n7,(),row9,i10,()),(q_51,q_52,q_53,q_54,()),((v_4a,(v_4ba,(v_4bba,()))),(v_5a,(v_5ba,(v_5bba,()))),()))))
def zm5 (k:Nat):LD zT0:=⟨15,zzq,[(4,zzp)],zzr k,k⟩
def zzs:Head:=⟨[(0,V4),(1,V0),(4,(.bp 4 [] 0)),(5,(.bp 5 [] 0)),(6,(.ref P0 [])),(7,V0)],[(P0,2,U0,false),(P1,2,U0,false),(P2,2,U0,false)],[(4,138,(.st (.pr V0 (.pr V0 (.pr V0 (.ref P1 [])))))),(5,138,(.st (.pr V0 (.pr V0 (.pr V0 (.ref P2 []))))))]⟩
def zzt:Head:=⟨[(0,V4),(1,V0),(4,(.bp 4 [] 0)),(5,(.bp 5 [] 0)),(6,(.ref P0 [])),(7,V0),(8,(.ref P1 [])),(9,V0),(10,V0)],[(P0,2,U0,false),(P1,2,U0,false),(P2,2,U0,false),(P3,2,U0,false)],[(4,138,(.st (.pr V0 (.pr V0 (.pr V0 (.ref P2 [])))))),(5,138,(.st (.pr V0 (.pr V0 (.pr V0 (.ref P3 []))))))]⟩
def zzu (k:Nat) (n:Nat) (x:zzt.T) (kx:Nat→St→Option zT0):Option zT0:=zbx k n x.1.1 x.1.2.1 x.1.2.2.2.2.2.1 x.1.2.2.2.2.2.2.2.1 x.1.2.2.2.2.2.2.2.2.1 x.2.1.1 x.2.1.2.1 x.2.1.2.2.1 x.2.1.2.2.2.1 x.2.2.1.1 x.2.2.1.2.1 x.2.2.1.2.2.1 x.2.2.2.1.1 x.2.2.2.1.2.1 x.2.2.2.1.2.2.1 (fun s0 k1 n7 q_59 q_60 q_61 v_4a v_4ba v_4bba v_5a v_5ba v_5bba=>kx 2 (zzs.fill ((s0,k1,(),(),(),n7,()),(q_59,q_60,q_61,()),((v_4a,(v_4ba,(v_4bba,()))),(v_5a,(v_5ba,(v_5bba,()))),()))))
def zm6 (k:Nat):LD zT0:=⟨9,zzt,[(2,zzs)],zzu k,k⟩
def zzv:Head:=⟨[(4,(.bp 4 [] 0)),(5,(.bp 5 [] 0))],[(P0,2,U0,false),(P1,2,U0,false)],[(4,138,(.st (.pr V0 (.pr V0 (.pr V0 (.ref P0 [])))))),(5,138,(.st (.pr V0 (.pr V0 (.pr V0 (.ref P1 []))))))]⟩
def zzw:Head:=⟨[(0,V4),(1,V0),(4,(.bp 4 [] 0)),(5,(.bp 5 [] 0)),(6,(.ref P0 [])),(7,V0)],[(P0,2,U0,false),(P1,2,U0,false),(P2,2,U0,false)],[(4,138,(.st (.pr V0 (.pr V0 (.pr V0 (.ref P1 [])))))),(5,138,(.st (.pr V0 (.pr V0 (.pr V0 (.ref P2 []))))))]⟩
def zzx (k:Nat) (n:Nat) (x:zzw.T) (kx:Nat→St→Option zT0):Option zT0:=zby k n x.1.1 x.1.2.1 x.1.2.2.2.2.2.1 x.2.1.1 x.2.1.2.1 x.2.1.2.2.1 x.2.2.1.1 x.2.2.1.2.1 x.2.2.1.2.2.1 x.2.2.2.1.1 x.2.2.2.1.2.1 x.2.2.2.1.2.2.1 (fun q_48 q_49 v_4a v_4ba v_4bba v_5a v_5ba v_5bba=>kx 0 (zzv.fill (((),(),()),(q_48,q_49,()),((v_4a,(v_4ba,(v_4bba,()))),(v_5a,(v_5ba,(v_5bba,()))),()))))
def zm7 (k:Nat):LD zT0:=⟨4,zzw,[(0,zzv)],zzx k,k⟩
def z1gi (k:Nat):FE:=⟨(.pr U23 U0),1,U1,fun x=>zbz k x.1 x.2⟩
theorem zzy (k:Nat):z8 Tryz.prog 121 (z1gi k):=okC zb (xTc (zr5 k) (xTc zyw (xTc (zye k) (xTc (zr7 k) (xTc (z1gf k) (xTc (zyv k) (xTc z1gh xTn))))))) xOn Tryz.f121 (orc (zm4 k) (orc (zm5 k) (orc (zm6 k) (orc (zm7 k) (LOn _))))) (xLp (zm7 k) (by rintro n ⟨⟨s0,k1,⟨⟩,⟨⟩,⟨⟩,n7,⟨⟩⟩,⟨q_5,q_6,q_7,⟨⟩⟩,⟨⟨v_4a,⟨v_4ba,⟨v_4bba,⟨⟩⟩⟩⟩,⟨v_5a,⟨v_5ba,⟨v_5bba,⟨⟩⟩⟩⟩,⟨⟩⟩⟩ kx _ h; dsimp only [zm7,zzx] at h; subst h; dsimp only [zm7]; kernel_rfl) (xLp (zm6 k) (by rintro n ⟨⟨s0,k1,⟨⟩,⟨⟩,⟨⟩,n7,⟨⟩,row9,i10,⟨⟩⟩,⟨q_12,q_13,q_14,q_15,⟨⟩⟩,⟨⟨v_4a,⟨v_4ba,⟨v_4bba,⟨⟩⟩⟩⟩,⟨v_5a,⟨v_5ba,⟨v_5bba,⟨⟩⟩⟩⟩,⟨⟩⟩⟩ kx _ h; dsimp only [zm6,zzu] at h; subst h; dsimp only [zm6]; kernel_rfl) (xLp (zm5 k) (by rintro n ⟨⟨s0,k1,⟨⟩,⟨⟩,⟨⟩,n7,⟨⟩,row9,i10,m11,column12,sign13,a14,⟨⟩⟩,⟨q_21,q_22,q_23,q_24,⟨⟩⟩,⟨⟨v_4a,⟨v_4ba,⟨v_4bba,⟨⟩⟩⟩⟩,⟨v_5a,⟨v_5ba,⟨v_5bba,⟨⟩⟩⟩⟩,⟨⟩⟩⟩ kx _ h; dsimp only [zm5,zzr] at h; subst h; dsimp only [zm5]; kernel_rfl) (xLp (zm4 k) (by rintro n ⟨⟨s0,k1,⟨⟩,⟨⟩,⟨⟩,n7,⟨⟩,row9,i10,m11,column12,sign13,a14,b15,⟨⟩⟩,⟨q_25,q_26,q_27,q_28,⟨⟩⟩,⟨⟨v_4a,⟨v_4ba,⟨v_4bba,⟨⟩⟩⟩⟩,⟨v_5a,⟨v_5ba,⟨v_5bba,⟨⟩⟩⟩⟩,⟨⟩⟩⟩ kx _ h; dsimp only [zm4,zzo] at h; subst h; dsimp only [zm4]; kernel_rfl) xLn)))) (by rintro ⟨s0,k1⟩; kernel_rfl)
def zc0 (k:Nat):Nat→zT0→zT1→Int→Int→Int→zT1→(zT0→zT1→Int→Int→zT1→Option zT1)→Option zT1
 | 0,_,_,_,_,_,_,_=>none
 | n+1,m0,v1,i6,sum7,k8,q_2,e_2=>(if (decide (k8<m0.2.2.1)) then (if 0≤(z6 ((z6 (i6*m0.2.2.1))+k8)) then (m0.2.2.2[(z6 ((z6 (i6*m0.2.2.1))+k8)).toNat]?).bind fun y_3=>(if 0≤k8 then (v1[k8.toNat]?).bind fun y_4=>zc0 k n m0 v1 i6 (z6 (sum7+(z6 (y_3*y_4)))) (z6 (k8+1)) q_2 e_2 else none) else none) else e_2 m0 v1 i6 sum7 q_2)
def zf5 (k:Nat):Nat→zT0→zT1→Int→zT1→(zT1→Option zT1)→Option zT1
 | 0,_,_,_,_,_=>none
 | n+1,m0,v1,i6,q_1,e_0=>(if (decide (i6<m0.2.1)) then zc0 k k m0 v1 i6 0 0 q_1 (fun m_2 v_3 i_4 sum_5 q_6=>(if m_2.1=0 then none else (if (q_6.length+[(Int.tmod sum_5 m_2.1)].length)*8≤LIM then zf5 k n m_2 v_3 (z6 (i_4+1)) (q_6++[(Int.tmod sum_5 m_2.1)]) e_0 else none))) else e_0 q_1)
def zm8 (k:Nat) (m0:Int×Int×Int×List Int) (v1:List Int):Option zT1:=zf5 k k m0 v1 0 [] (fun q_7=>some q_7)
def zzz:Head:=⟨[(0,V2),(1,V1),(5,(.ref P0 [])),(6,V0),(7,V0)],[(P0,2,U0,false)],[]⟩
def z100 (k:Nat):LD zT1:=⟨7,⟨[(0,V2),(1,V1),(5,(.ref P0 [])),(6,V0),(7,V0),(8,V0)],[(P0,2,U0,false)],[]⟩,[(2,zzz)],fun n x kx=>zc0 k n x.1.1 x.1.2.1 x.1.2.2.2.1 x.1.2.2.2.2.1 x.1.2.2.2.2.2.1 x.2.1.1 (fun m0 v1 i6 sum7 q_5=>kx 2 (zzz.fill ((m0,v1,(),i6,sum7,()),(q_5,()),()))),k⟩
def z101:Head:=⟨[(5,(.ref P0 []))],[(P0,2,U0,false)],[]⟩
def z102 (k:Nat):LD zT1:=⟨3,⟨[(0,V2),(1,V1),(5,(.ref P0 [])),(6,V0)],[(P0,2,U0,false)],[]⟩,[(0,z101)],fun n x kx=>zf5 k n x.1.1 x.1.2.1 x.1.2.2.2.1 x.2.1.1 (fun q_10=>kx 0 (z101.fill (((),()),(q_10,()),()))),k⟩
def z1gj (k:Nat):FE:=⟨(.pr U13 U5),1,U5,fun x=>zm8 k x.1 x.2⟩
theorem z1gk (k:Nat):z8 Tryz.prog 123 (z1gj k):=okC zb xTn xOn Tryz.f123 (orc (z100 k) (orc (z102 k) (LOn _))) (xLo (z102 k) (by rintro n ⟨⟨m0,v1,⟨⟩,i6,⟨⟩⟩,⟨q_1,⟨⟩⟩,⟨⟩⟩ kx; kernel_rfl) (xLo (z100 k) (by rintro n ⟨⟨m0,v1,⟨⟩,i6,sum7,k8,⟨⟩⟩,⟨q_2,⟨⟩⟩,⟨⟩⟩ kx; kernel_rfl) xLn)) (by rintro ⟨m0,v1⟩; kernel_rfl)
def zf6 (k:Nat):Nat→zT1→Int→(Option Bool)→Option Bool
 | 0,_,_,_=>none
 | n+1,v0,i3,e_0=>(if (decide (i3<(List.length v0:Int))) then (if 0≤i3 then (v0[i3.toNat]?).bind fun y_1=>(if (!(decide (y_1=0))) then some false else zf6 k n v0 (z6 (i3+1)) e_0) else none) else e_0)
def zm9 (k:Nat) (v0:List Int):Option Bool:=zf6 k k v0 0 (some true)
def z103:Head:=⟨[],[],[]⟩
def z104 (k:Nat):LD Bool:=⟨2,⟨[(0,V1),(3,V0)],[],[]⟩,[(0,z103)],fun n x kx=>zf6 k n x.1.1 x.1.2.1 (kx 0 (z103.fill ((),(),()))),k⟩
def z1gl (k:Nat):FE:=⟨U5,1,.bool,fun x=>zm9 k x⟩
theorem z1gm (k:Nat):z8 Tryz.prog 122 (z1gl k):=okC zb xTn xOn Tryz.f122 (orc (z104 k) (LOn _)) (xLo (z104 k) (by rintro n ⟨⟨v0,i3,⟨⟩⟩,⟨⟩,⟨⟩⟩ kx; kernel_rfl) xLn) (by rintro v0; kernel_rfl)
def zma (k:Nat) (s0:List zT1×Int×List Int×List zT0) (k1:Int) (x2:List Int):Option Bool:=(zbz k s0 k1).bind fun r_1=>(zm8 k (r_1.1,(r_1.2.1,(r_1.2.2.1,r_1.2.2.2))) x2).bind fun r_2=>(zm9 k r_2).bind fun r_3=>some r_3
def z1gn (k:Nat):FE:=⟨(.pr U23 (.pr U0 U5)),1,.bool,fun x=>zma k x.1 x.2.1 x.2.2⟩
theorem z1go (k:Nat):z8 Tryz.prog 72 (z1gn k):=okC zb (xTc (zzy k) (xTc (z1gk k) (xTc (z1gm k) xTn))) xOn Tryz.f72 (LOn _) xLn (by rintro ⟨s0,k1,x2⟩; kernel_rfl)
end
end Go.Proofs.YtchfjdcfhlhgcaaGreatDoor.Ev
