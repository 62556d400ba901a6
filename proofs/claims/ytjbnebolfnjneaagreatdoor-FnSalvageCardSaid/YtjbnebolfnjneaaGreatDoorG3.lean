/- Functions of the program, as plain ones. No conditions. -/
import Derived.Test.YtjbnebolfnjneaaGreatDoorG2
import Derived.KernelRfl
set_option linter.unusedVariables false
set_option maxRecDepth 100000
namespace Go.Proofs.YtjbnebolfnjneaaGreatDoor.Ev
open Go.RowKit
noncomputable section
def zgw (k:Nat) (code0:List Int):Option zT6:=(zk2 code0).bind fun r_1=>(zk9 k r_1.1 r_1.2.1 r_1.2.2).bind fun y_2=>some y_2.2.1.1
def z11t (k:Nat):FE:=⟨U2,1,U5,fun x=>zgw k x⟩
theorem z11u (k:Nat):zc Tryz.prog 5 (z11t k):=okC z9k (xTc z10b xTn) (xOc 7 (z11s k) xOn) Tryz.f5 (LOn _) xLn (by rintro code0; kernel_rfl)
def z9v (k:Nat):Nat→zT4→Int→Int→Int→(zT4→Int→Int→Option Int)→Option Int
 | 0,_,_,_,_,_=>none
 | n+1,s0,sum1,i5,k6,e_2=>(if (decide (k6<8)) then (if (decide (65535<(z7 (sum1*2 ^ 1)))) then z9v k n s0 (z6r .i64 (z56 .i64 (z7 (sum1*2 ^ 1)) 65535) 4129) i5 (z7 (k6+1)) e_2 else z9v k n s0 (z7 (sum1*2 ^ 1)) i5 (z7 (k6+1)) e_2) else e_2 s0 sum1 i5)
def z9w (k:Nat):Nat→zT4→Int→Int→(Int→Option Int)→Option Int
 | 0,_,_,_,_=>none
 | n+1,s0,sum1,i5,e_0=>(if (decide (i5<(List.length s0:Int))) then (if 0≤i5 then (s0[i5.toNat]?).bind fun b_1=>z9v k k s0 (z6r .i64 sum1 (z7 ((z7 ((z_u8 b_1)))*2 ^ 8))) i5 0 (fun s_2 sum_3 i_4=>z9w k n s_2 sum_3 (z7 (i_4+1)) e_0) else none) else e_0 sum1)
def zgx (k:Nat) (s0:List UInt8) (sum1:Int):Option Int:=z9w k k s0 sum1 0 (fun sum_5=>some sum_5)
def zqr:Head:=⟨[(0,V3),(1,V0),(5,V0)],[],[]⟩
def zqs (k:Nat):LD Int:=⟨6,⟨[(0,V3),(1,V0),(5,V0),(6,V0)],[],[]⟩,[(2,zqr)],fun n x kx=>z9v k n x.1.1 x.1.2.1 x.1.2.2.1 x.1.2.2.2.1 (fun s0 sum1 i5=>kx 2 (zqr.fill ((s0,sum1,i5,()),(),()))),k⟩
def zqt:Head:=⟨[(1,V0)],[],[]⟩
def zqu (k:Nat):LD Int:=⟨2,⟨[(0,V3),(1,V0),(5,V0)],[],[]⟩,[(0,zqt)],fun n x kx=>z9w k n x.1.1 x.1.2.1 x.1.2.2.1 (fun sum1=>kx 0 (zqt.fill ((sum1,()),(),()))),k⟩
def z11v (k:Nat):FE:=⟨(.pr .str U0),1,U0,fun x=>zgx k x.1 x.2⟩
theorem z11w (k:Nat):zc Tryz.prog 47 (z11v k):=okC zh xTn xOn Tryz.f47 (orc (zqs k) (orc (zqu k) (LOn _))) (xLo (zqu k) (by rintro n ⟨⟨s0,sum1,i5,⟨⟩⟩,⟨⟩,⟨⟩⟩ kx; kernel_rfl) (xLo (zqs k) (by rintro n ⟨⟨s0,sum1,i5,k6,⟨⟩⟩,⟨⟩,⟨⟩⟩ kx; kernel_rfl) xLn)) (by rintro ⟨s0,sum1⟩; kernel_rfl)
def zbz (k:Nat):Nat→zT4→(zT4→Option zT4)→Option zT4
 | 0,_,_=>none
 | n+1,s3,e_0=>(if (decide ((List.length s3:Int)<5)) then (if [48].length+s3.length≤9223372036854775807 then zbz k n ([48]++s3) e_0 else none) else e_0 s3)
def zgy (k:Nat) (n0:Int):Option zT4:=(z9p k n0).bind fun r_1=>zbz k k r_1 (fun s_2=>some s_2)
def zqv:Head:=⟨[(3,V3)],[],[]⟩
def zqw (k:Nat):LD zT4:=⟨2,⟨[(3,V3)],[],[]⟩,[(0,zqv)],fun n x kx=>zbz k n x.1.1 (fun s3=>kx 0 (zqv.fill ((s3,()),(),()))),k⟩
def z11x (k:Nat):FE:=⟨U0,1,.str,fun x=>zgy k x⟩
theorem z11y (k:Nat):zc Tryz.prog 46 (z11x k):=okC zh (xTc (zk8 k) xTn) xOn Tryz.f46 (orc (zqw k) (LOn _)) (xLo (zqw k) (by rintro n ⟨⟨s3,⟨⟩⟩,⟨⟩,⟨⟩⟩ kx; kernel_rfl) xLn) (by rintro n0; kernel_rfl)
def zgz (k:Nat) (b0:List UInt8×List UInt8×List UInt8):Option zT4:=(if b0.1.length+[32].length≤9223372036854775807 then (if (b0.1++[32]).length+b0.2.1.length≤9223372036854775807 then (if ((b0.1++[32])++b0.2.1).length+[32].length≤9223372036854775807 then (if (((b0.1++[32])++b0.2.1)++[32]).length+b0.2.2.length≤9223372036854775807 then (zgx k ((((b0.1++[32])++b0.2.1)++[32])++b0.2.2) 65535).bind fun r_1=>(zgy k r_1).bind fun r_2=>(if r_2.length+[32].length≤9223372036854775807 then (if (r_2++[32]).length+((((b0.1++[32])++b0.2.1)++[32])++b0.2.2).length≤9223372036854775807 then (if ((r_2++[32])++((((b0.1++[32])++b0.2.1)++[32])++b0.2.2)).length+[10].length≤9223372036854775807 then some (((r_2++[32])++((((b0.1++[32])++b0.2.1)++[32])++b0.2.2))++[10]) else none) else none) else none) else none) else none) else none) else none)
def z11z (k:Nat):FE:=⟨(.ptr U1),1,.str,fun x=>zgz k x⟩
theorem z120 (k:Nat):zc Tryz.prog 28 (z11z k):=okC zh (xTc (z11w k) (xTc (z11y k) xTn)) xOn Tryz.f28 (LOn _) xLn (by rintro b0; kernel_rfl)
def zc0 (k:Nat):Nat→zT6→zT4→Int→(zT4→Option zT4)→Option zT4
 | 0,_,_,_,_=>none
 | n+1,list0,out3,i4,e_0=>(if (decide (i4<(List.length list0:Int))) then (if 0≤i4 then (list0[i4.toNat]?).bind fun y_2=>(zgz k y_2).bind fun r_3=>(if out3.length+r_3.length≤9223372036854775807 then zc0 k n list0 (out3++r_3) (z7 (i4+1)) e_0 else none) else none) else e_0 out3)
def zh0 (k:Nat) (list0:List zT0):Option zT4:=(z9p k (List.length list0:Int)).bind fun r_1=>(if [97,114,99,104,105,118,101,32].length+r_1.length≤9223372036854775807 then (if ([97,114,99,104,105,118,101,32]++r_1).length+[10].length≤9223372036854775807 then zc0 k k list0 (([97,114,99,104,105,118,101,32]++r_1)++[10]) 0 (fun out_4=>some out_4) else none) else none)
def zqx:Head:=⟨[(3,V3)],[],[]⟩
def zqy (k:Nat):LD zT4:=⟨3,⟨[(0,V5),(3,V3),(4,V0)],[],[]⟩,[(0,zqx)],fun n x kx=>zc0 k n x.1.1 x.1.2.1 x.1.2.2.1 (fun out3=>kx 0 (zqx.fill ((out3,()),(),()))),k⟩
def z121 (k:Nat):FE:=⟨U5,1,.str,fun x=>zh0 k x⟩
theorem z122 (k:Nat):zc Tryz.prog 16 (z121 k):=okC zh (xTc (zk8 k) (xTc (z120 k) xTn)) xOn Tryz.f16 (orc (zqy k) (LOn _)) (xLo (zqy k) (by rintro n ⟨⟨list0,out3,i4,⟨⟩⟩,⟨⟩,⟨⟩⟩ kx; kernel_rfl) xLn) (by rintro list0; kernel_rfl)
def zh1 (k:Nat) (list0:List zT0):Option (List UInt8×Int):=(zdt k list0).bind fun r_1=>(if (!r_1) then some ([],1) else (zh0 k list0).bind fun r_2=>some (r_2,0))
def z123 (k:Nat):FE:=⟨U5,2,(.pr .str U0),fun x=>zh1 k x⟩
theorem z124 (k:Nat):zc Tryz.prog 6 (z123 k):=okC zh (xTc (zqm k) (xTc (z122 k) xTn)) xOn Tryz.f6 (LOn _) xLn (by rintro list0; kernel_rfl)
def zc1 (code0:List Int) (k1:Int) (n2:Int):Option Int:=(if (decide (n2≤1)) then some 0 else (if (decide ((List.length code0:Int)≤k1)) then some 0 else (if 0≤k1 then (code0[k1.toNat]?).bind fun y_1=>(if n2=0 then none else some (Int.tmod (z7 (y_1)) n2)) else none)))
def z125:FE:=⟨(.pr U2 (.pr U0 U0)),1,U0,fun x=>zc1 x.1 x.2.1 x.2.2⟩
theorem zqz:zc Tryz.prog 8 (z125):=okC zh xTn xOn Tryz.f8 (LOn _) xLn (by rintro ⟨code0,k1,n2⟩; kernel_rfl)
def zh2 (code0:List Int) (k1:Int) (n2:Int):Option Int:=(zc1 code0 k1 256).bind fun r_1=>(zc1 code0 (z7 (k1+1)) 256).bind fun r_2=>(if n2=0 then none else some (Int.tmod (z7 ((z7 (256*r_1))+r_2)) n2))
def z126:FE:=⟨(.pr U2 (.pr U0 U0)),1,U0,fun x=>zh2 x.1 x.2.1 x.2.2⟩
theorem z128:zc Tryz.prog 7 (z126):=okC zh (xTc zqz xTn) xOn Tryz.f7 (LOn _) xLn (by rintro ⟨code0,k1,n2⟩; kernel_rfl)
def zr0 (s:List UInt8) (c:Int):Option Int:=some ((Lib.countByte s (c.toNat.toUInt8):Nat):Int)
abbrev fe_bytealg_CountString:FE:=fe_countString
theorem z129:zc Tryz.prog 90 fe_bytealg_CountString:=zzn (fn:=Tryz.f90) (by kernel_rfl) (by kernel_rfl) (by kernel_rfl) (by kernel_rfl) (by kernel_rfl)
def zka (s:List UInt8) (c:Int):Option Int:=some (Lib.indexByte s (c.toNat.toUInt8))
abbrev fe_bytealg_IndexByteString:FE:=fe_indexByteString
theorem z12a:zc Tryz.prog 109 fe_bytealg_IndexByteString:=zzm (fn:=Tryz.f109) (by kernel_rfl) (by kernel_rfl) (by kernel_rfl) (by kernel_rfl) (by kernel_rfl)
def zh3 (s0:List UInt8) (c1:Int):Option Int:=(zka s0 c1).bind fun r_1=>some r_1
def z12b:FE:=⟨(.pr .str U6),1,U0,fun x=>zh3 x.1 x.2⟩
theorem z12c:zc Tryz.prog 91 (z12b):=okC zh (xTc z12a xTn) xOn Tryz.f91 (LOn _) xLn (by rintro ⟨s0,c1⟩; kernel_rfl)
def z9x (s0:List UInt8) (substr1:List UInt8):Option Int:=(if (decide ((List.length substr1:Int)=0)) then some 0 else (if (decide (substr1=s0)) then some 0 else (if (decide ((List.length substr1:Int)=1)) then (substr1[0]?).bind fun b_1=>(zh3 s0 (z_u8 b_1)).bind fun r_2=>some r_2 else (if (decide ((List.length s0:Int)≤(List.length substr1:Int))) then some (-1) else none))))
def z12d:FE:=⟨U10,1,U0,fun x=>z9x x.1 x.2⟩
theorem zr1:zc Tryz.prog 73 (z12d):=okC zh (xTc z12c xTn) xOn Tryz.f73 (LOn _) (xLs xLn) (by rintro ⟨s0,substr1⟩; kernel_rfl)
def z8q (s0:List UInt8) (substr1:List UInt8):Option Int:=(z9x s0 substr1).bind fun r_1=>some r_1
def z12e:FE:=⟨U10,1,U0,fun x=>z8q x.1 x.2⟩
theorem zkb:zc Tryz.prog 72 (z12e):=okC zh (xTc zr1 xTn) xOn Tryz.f72 (LOn _) xLn (by rintro ⟨s0,substr1⟩; kernel_rfl)
def zkc (k:Nat):Nat→zT4→zT4→Int→Option Int
 | 0,_,_,_=>none
 | n+1,s0,substr1,n5=>(z8q s0 substr1).bind fun r_3=>(if (decide (r_3=(-1))) then some n5 else (if 0≤(z7 (r_3+(List.length substr1:Int)))∧(z7 (r_3+(List.length substr1:Int)))≤(s0.length:Int)∧(s0.length:Int)≤s0.length then zkc k n ((s0.drop ((z7 (r_3+(List.length substr1:Int))).toNat)).take (s0.length-(z7 (r_3+(List.length substr1:Int))).toNat)) substr1 (z7 (n5+1)) else none))
def zh4 (k:Nat) (s0:List UInt8) (substr1:List UInt8):Option Int:=(if (decide ((List.length substr1:Int)=0)) then none else (if (decide ((List.length substr1:Int)=1)) then (substr1[0]?).bind fun b_1=>(zr0 s0 (z_u8 b_1)).bind fun r_2=>some r_2 else zkc k k s0 substr1 0))
def zr2 (k:Nat):LD Int:=⟨6,⟨[(0,V3),(1,V3),(5,V0)],[],[]⟩,[],fun n x kx=>zkc k n x.1.1 x.1.2.1 x.1.2.2.1,k⟩
def z12f (k:Nat):FE:=⟨U10,1,U0,fun x=>zh4 k x.1 x.2⟩
theorem z12g (k:Nat):zc Tryz.prog 71 (z12f k):=okC zh (xTc z129 (xTc zkb xTn)) xOn Tryz.f71 (orc (zr2 k) (LOn _)) (xLo (zr2 k) (by rintro n ⟨⟨s0,substr1,n5,⟨⟩⟩,⟨⟩,⟨⟩⟩ kx; kernel_rfl) xLn) (by rintro ⟨s0,substr1⟩; kernel_rfl)
def z9y (k:Nat):Nat→zT4→zT4→Int→Int→Int→zT12→(zT4→Int→zT12→Option zT12)→Option zT12
 | 0,_,_,_,_,_,_,_=>none
 | n+1,s0,sep1,sepSave2,n3,i10,q_2,e_0=>(if (decide (i10<n3)) then (z8q s0 sep1).bind fun r_3=>(if (decide (r_3<0)) then e_0 s0 i10 q_2 else (if 0≤(0:Int)∧(0:Int)≤(z7 (r_3+sepSave2))∧(z7 (r_3+sepSave2))≤s0.length then (if 0≤i10∧i10.toNat<List.length q_2 then (q_2[i10.toNat]?).bind fun y_4=>(q_2[i10.toNat]?).bind fun y_5=>(if 0≤(z7 (r_3+(List.length sep1:Int)))∧(z7 (r_3+(List.length sep1:Int)))≤(s0.length:Int)∧(s0.length:Int)≤s0.length then z9y k n ((s0.drop ((z7 (r_3+(List.length sep1:Int))).toNat)).take (s0.length-(z7 (r_3+(List.length sep1:Int))).toNat)) sep1 sepSave2 n3 (z7 (i10+1)) (q_2.set i10.toNat (s0.take ((z7 (r_3+sepSave2)).toNat))) e_0 else none) else none) else none)) else e_0 s0 i10 q_2)
def zkd (k:Nat) (s0:List UInt8) (sep1:List UInt8) (sepSave2:Int) (n3:Int):Option zT12:=(if (decide (n3=0)) then some [] else (if (decide (sep1=[])) then none else (if (decide (n3<0)) then (zh4 k s0 sep1).bind fun r_1=>(if 0≤(if (z7 ((List.length s0:Int)+1))<(z7 (r_1+1)) then (z7 ((List.length s0:Int)+1)) else (z7 (r_1+1)))∧(if (z7 ((List.length s0:Int)+1))<(z7 (r_1+1)) then (z7 ((List.length s0:Int)+1)) else (z7 (r_1+1)))≤(if (z7 ((List.length s0:Int)+1))<(z7 (r_1+1)) then (z7 ((List.length s0:Int)+1)) else (z7 (r_1+1)))∧(if (z7 ((List.length s0:Int)+1))<(z7 (r_1+1)) then (z7 ((List.length s0:Int)+1)) else (z7 (r_1+1)))*16≤LIM then z9y k k s0 sep1 sepSave2 (z7 ((if (z7 ((List.length s0:Int)+1))<(z7 (r_1+1)) then (z7 ((List.length s0:Int)+1)) else (z7 (r_1+1)))-1)) 0 (List.replicate (if (z7 ((List.length s0:Int)+1))<(z7 (r_1+1)) then (z7 ((List.length s0:Int)+1)) else (z7 (r_1+1))).toNat ([]:List UInt8)) (fun s_6 i_7 q_8=>(if 0≤i_7∧i_7.toNat<List.length q_8 then (q_8[i_7.toNat]?).bind fun y_9=>(q_8[i_7.toNat]?).bind fun y_10=>(if 0≤(0:Int)∧(0:Int)≤(z7 (i_7+1))∧(z7 (i_7+1))≤(q_8.set i_7.toNat s_6).length then some ((q_8.set i_7.toNat s_6).take ((z7 (i_7+1)).toNat)) else none) else none)) else none) else (if 0≤(if (z7 ((List.length s0:Int)+1))<n3 then (z7 ((List.length s0:Int)+1)) else n3)∧(if (z7 ((List.length s0:Int)+1))<n3 then (z7 ((List.length s0:Int)+1)) else n3)≤(if (z7 ((List.length s0:Int)+1))<n3 then (z7 ((List.length s0:Int)+1)) else n3)∧(if (z7 ((List.length s0:Int)+1))<n3 then (z7 ((List.length s0:Int)+1)) else n3)*16≤LIM then z9y k k s0 sep1 sepSave2 (z7 ((if (z7 ((List.length s0:Int)+1))<n3 then (z7 ((List.length s0:Int)+1)) else n3)-1)) 0 (List.replicate (if (z7 ((List.length s0:Int)+1))<n3 then (z7 ((List.length s0:Int)+1)) else n3).toNat ([]:List UInt8)) (fun s_11 i_12 q_13=>(if 0≤i_12∧i_12.toNat<List.length q_13 then (q_13[i_12.toNat]?).bind fun y_14=>(q_13[i_12.toNat]?).bind fun y_15=>(if 0≤(0:Int)∧(0:Int)≤(z7 (i_12+1))∧(z7 (i_12+1))≤(q_13.set i_12.toNat s_11).length then some ((q_13.set i_12.toNat s_11).take ((z7 (i_12+1)).toNat)) else none) else none)) else none))))
def zr3:Head:=⟨[(0,V3),(9,(.ref P0 [])),(10,V0)],[(P0,9,.str,false)],[]⟩
def zr4 (k:Nat):LD zT12:=⟨11,⟨[(0,V3),(1,V3),(2,V0),(3,V0),(9,(.ref P0 [])),(10,V0)],[(P0,9,.str,false)],[]⟩,[(0,zr3)],fun n x kx=>z9y k n x.1.1 x.1.2.1 x.1.2.2.1 x.1.2.2.2.1 x.1.2.2.2.2.2.1 x.2.1.1 (fun s0 i10 q_4=>kx 0 (zr3.fill ((s0,(),i10,()),(q_4,()),()))),k⟩
def z12h (k:Nat):FE:=⟨(.pr .str (.pr .str (.pr U0 U0))),1,(.sl 9 .str),fun x=>zkd k x.1 x.2.1 x.2.2.1 x.2.2.2⟩
theorem z12i (k:Nat):zc Tryz.prog 48 (z12h k):=okC zh (xTc (z12g k) (xTc zkb xTn)) xOn Tryz.f48 (orc (zr4 k) (LOn _)) (xLo (zr4 k) (by rintro n ⟨⟨s0,sep1,sepSave2,n3,⟨⟩,i10,⟨⟩⟩,⟨q_2,⟨⟩⟩,⟨⟩⟩ kx; kernel_rfl) xLn) (by rintro ⟨s0,sep1,sepSave2,n3⟩; kernel_rfl)
def zh5 (k:Nat) (s0:List UInt8) (sep1:List UInt8):Option zT12:=(zkd k s0 sep1 0 (-1)).bind fun r_1=>some r_1
def z12j (k:Nat):FE:=⟨U10,1,(.sl 9 .str),fun x=>zh5 k x.1 x.2⟩
theorem z12k (k:Nat):zc Tryz.prog 29 (z12j k):=okC zh (xTc (z12i k) xTn) xOn Tryz.f29 (LOn _) xLn (by rintro ⟨s0,sep1⟩; kernel_rfl)
def zdu (k:Nat) (s0:List UInt8):Option (List zT4×List UInt8):=(zh5 k s0 [10]).bind fun r_1=>(if 0≤(0:Int)∧(0:Int)≤(z7 ((List.length r_1:Int)-1))∧(z7 ((List.length r_1:Int)-1))≤r_1.length then (if 0≤(z7 ((List.length r_1:Int)-1))∧(z7 ((List.length r_1:Int)-1)).toNat<List.length r_1 then (r_1[(z7 ((List.length r_1:Int)-1)).toNat]?).bind fun y_2=>some ((r_1.take ((z7 ((List.length r_1:Int)-1)).toNat)),y_2) else none) else none)
def z12l (k:Nat):FE:=⟨.str,2,(.pr (.sl 9 .str) .str),fun x=>zdu k x⟩
theorem zr5 (k:Nat):zc Tryz.prog 17 (z12l k):=okC zh (xTc (z12k k) xTn) xOn Tryz.f17 (LOn _) xLn (by rintro s0; kernel_rfl)
def zke (s0:List UInt8) (sep1:List UInt8):Option zT13:=(z9x s0 sep1).bind fun r_1=>(if (decide (0≤r_1)) then (if 0≤(0:Int)∧(0:Int)≤r_1∧r_1≤s0.length then (if 0≤(z7 (r_1+(List.length sep1:Int)))∧(z7 (r_1+(List.length sep1:Int)))≤(s0.length:Int)∧(s0.length:Int)≤s0.length then some ((s0.take r_1.toNat),((s0.drop ((z7 (r_1+(List.length sep1:Int))).toNat)).take (s0.length-(z7 (r_1+(List.length sep1:Int))).toNat)),true) else none) else none) else some (s0,[],false))
def z12m:FE:=⟨U10,3,(.pr .str (.pr .str .bool)),fun x=>zke x.1 x.2⟩
theorem z12n:zc Tryz.prog 49 (z12m):=okC zh (xTc zr1 xTn) xOn Tryz.f49 (LOn _) xLn (by rintro ⟨s0,sep1⟩; kernel_rfl)
def zdv (s0:List UInt8) (sep1:List UInt8):Option zT13:=(zke s0 sep1).bind fun r_1=>some (r_1.1,r_1.2.1,r_1.2.2)
def z12o:FE:=⟨U10,3,(.pr .str (.pr .str .bool)),fun x=>zdv x.1 x.2⟩
theorem z12p:zc Tryz.prog 30 (z12o):=okC zh (xTc z12n xTn) xOn Tryz.f30 (LOn _) xLn (by rintro ⟨s0,sep1⟩; kernel_rfl)
def zh6 (n0:Int) (low1:Int) (high2:Int):Option Bool:=(if (decide (low1≤n0)) then some (decide (n0≤high2)) else some false)
def z12q:FE:=⟨(.pr U0 (.pr U0 U0)),1,.bool,fun x=>zh6 x.1 x.2.1 x.2.2⟩
theorem z12r:zc Tryz.prog 51 (z12q):=okC zh xTn xOn Tryz.f51 (LOn _) xLn (by rintro ⟨n0,low1,high2⟩; kernel_rfl)
def z9z (k:Nat):Nat→Int→Int→Int→Int→zT2→(Int→Int→Int→zT2→Option Int)→Option Int
 | 0,_,_,_,_,_,_=>none
 | n+1,sum5,x14,x15,x24,q_4,e_2=>(if (decide (x24<8)) then (if (decide (65535<(z7 (sum5*2 ^ 1)))) then z9z k n (z6r .i64 (z56 .i64 (z7 (sum5*2 ^ 1)) 65535) 4129) x14 x15 (z7 (x24+1)) q_4 e_2 else z9z k n (z7 (sum5*2 ^ 1)) x14 x15 (z7 (x24+1)) q_4 e_2) else e_2 sum5 x14 x15 q_4)
def za0 (k:Nat):Nat→Int→Int→Int→zT2→(Int→Option Int)→Option Int
 | 0,_,_,_,_,_=>none
 | n+1,sum5,x14,x15,q_2,e_0=>(if (decide (x15<x14)) then (if 0≤x15∧x15.toNat<List.length q_2 then (q_2[x15.toNat]?).bind fun y_3=>z9z k k (z6r .i64 sum5 (z7 ((z7 (y_3))*2 ^ 8))) x14 x15 0 q_2 (fun sum_4 x_5 x_6 q_7=>za0 k n sum_4 x_5 (z7 (x_6+1)) q_7 e_0) else none) else e_0 sum5)
def zdw (k:Nat) (s0:List UInt8) (start1:Int):Option Int:=(zh6 start1 0 65535).bind fun r_1=>(if (!r_1) then some 0 else (if s0.length≤LIM then za0 k k start1 (List.length (z16 s0):Int) 0 (z16 s0) (fun sum_8=>some sum_8) else none))
def zr6:Head:=⟨[(5,V0),(13,(.ref P0 [])),(14,V0),(15,V0)],[(P0,5,U6,true)],[]⟩
def zr7 (k:Nat):LD Int:=⟨9,⟨[(5,V0),(13,(.ref P0 [])),(14,V0),(15,V0),(24,V0)],[(P0,5,U6,true)],[]⟩,[(2,zr6)],fun n x kx=>z9z k n x.1.1 x.1.2.2.1 x.1.2.2.2.1 x.1.2.2.2.2.1 x.2.1.1 (fun sum5 x14 x15 q_5=>kx 2 (zr6.fill ((sum5,(),x14,x15,()),(q_5,()),()))),k⟩
def zr8:Head:=⟨[(5,V0)],[],[]⟩
def zr9 (k:Nat):LD Int:=⟨5,⟨[(5,V0),(13,(.ref P0 [])),(14,V0),(15,V0)],[(P0,5,U6,true)],[]⟩,[(0,zr8)],fun n x kx=>za0 k n x.1.1 x.1.2.2.1 x.1.2.2.2.1 x.2.1.1 (fun sum5=>kx 0 (zr8.fill ((sum5,()),(),()))),k⟩
def z12s (k:Nat):FE:=⟨(.pr .str U0),1,U0,fun x=>zdw k x.1 x.2⟩
theorem zra (k:Nat):zc Tryz.prog 32 (z12s k):=okC zh (xTc z12r xTn) xOn Tryz.f32 (orc (zr7 k) (orc (zr9 k) (LOn _))) (xLo (zr9 k) (by rintro n ⟨⟨sum5,⟨⟩,x14,x15,⟨⟩⟩,⟨q_2,⟨⟩⟩,⟨⟩⟩ kx; kernel_rfl) (xLo (zr7 k) (by rintro n ⟨⟨sum5,⟨⟩,x14,x15,x24,⟨⟩⟩,⟨q_4,⟨⟩⟩,⟨⟩⟩ kx; kernel_rfl) xLn)) (by rintro ⟨s0,start1⟩; kernel_rfl)
def zrb (n:Int) (b:Int):Option zT4:=if b=10 ∧ -9223372036854775808≤n∧n≤9223372036854775807 then some (Lib.itoa n) else none
abbrev fe_strconv_FormatInt:FE:=fe_formatInt
theorem z12t:zc Tryz.prog 50 fe_strconv_FormatInt:=z102 (fn:=Tryz.f50) (cd:=z3p Tryz.f50) (by kernel_rfl) (by kernel_rfl) (by kernel_rfl) (fun n h0 h1 w hG=>Go.Proofs.Tryz.strconv_FormatInt_10 n h0 h1 w hG)
def zdx (n0:Int):Option zT4:=(zrb n0 10).bind fun r_1=>some r_1
def z12u:FE:=⟨U0,1,.str,fun x=>zdx x⟩
theorem zrc:zc Tryz.prog 31 (z12u):=okC zh (xTc z12t xTn) xOn Tryz.f31 (LOn _) xLn (by rintro n0; kernel_rfl)
def strings_Repeat (s:List UInt8) (c:Int):Option zT4:=if 0≤c∧c≤9223372036854775807∧List.length s*c.toNat≤140737488355328 then some (Lib.repeatL s c.toNat) else none
abbrev fe_strings_Repeat:FE:=fe_repeat
theorem zrd:zc Tryz.prog 33 fe_strings_Repeat:=zzp (fn:=Tryz.f33) (cd:=z3p Tryz.f33) (by kernel_rfl) (by kernel_rfl) (by kernel_rfl) (fun s c w h1 h2=>Go.Proofs.Tryz.strings_Repeat s c w h1 h2)
def z6t (k:Nat):Nat→Int→Int→zT2→(Option Bool)→Option Bool
 | 0,_,_,_,_=>none
 | n+1,x17,x18,q_1,e_0=>(if (decide (x18<x17)) then (if 0≤x18∧x18.toNat<List.length q_1 then (q_1[x18.toNat]?).bind fun y_2=>(if (decide (97≤y_2)) then (if (decide (48≤y_2)) then (if (!(decide (y_2≤122))) then (if (decide (x18=0)) then some false else (if (!(decide (y_2≤57))) then some false else z6t k n x17 (z7 (x18+1)) q_1 e_0)) else z6t k n x17 (z7 (x18+1)) q_1 e_0) else (if (!(decide (y_2≤122))) then (if (decide (x18=0)) then some false else some false) else z6t k n x17 (z7 (x18+1)) q_1 e_0)) else (if (decide (48≤y_2)) then (if (decide (x18=0)) then some false else (if (!(decide (y_2≤57))) then some false else z6t k n x17 (z7 (x18+1)) q_1 e_0)) else (if (decide (x18=0)) then some false else some false))) else none) else e_0)
def zdy (k:Nat) (s0:List UInt8):Option Bool:=(if (decide ((List.length s0:Int)<1)) then some false else (if (decide (10<(List.length s0:Int))) then some false else (if s0.length≤LIM then z6t k k (List.length (z16 s0):Int) 0 (z16 s0) (some true) else none)))
def zre:Head:=⟨[],[],[]⟩
def zrf (k:Nat):LD Bool:=⟨4,⟨[(16,(.ref P0 [])),(17,V0),(18,V0)],[(P0,5,U6,true)],[]⟩,[(0,zre)],fun n x kx=>z6t k n x.1.2.1 x.1.2.2.1 x.2.1.1 (kx 0 (zre.fill ((),(),()))),k⟩
def z12v (k:Nat):FE:=⟨.str,1,.bool,fun x=>zdy k x⟩
theorem z12w (k:Nat):zc Tryz.prog 58 (z12v k):=okC zh xTn xOn Tryz.f58 (orc (zrf k) (LOn _)) (xLo (zrf k) (by rintro n ⟨⟨⟨⟩,x17,x18,⟨⟩⟩,⟨q_1,⟨⟩⟩,⟨⟩⟩ kx; kernel_rfl) xLn) (by rintro s0; kernel_rfl)
def zh7 (s0:List UInt8) (substr1:List UInt8):Option Bool:=(z8q s0 substr1).bind fun r_1=>some (decide (0≤r_1))
def z12x:FE:=⟨U10,1,.bool,fun x=>zh7 x.1 x.2⟩
theorem z12y:zc Tryz.prog 59 (z12x):=okC zh (xTc zkb xTn) xOn Tryz.f59 (LOn _) xLn (by rintro ⟨s0,substr1⟩; kernel_rfl)
def zc2 (k:Nat) (b0:List UInt8×List UInt8×List UInt8):Option Bool:=(zdy k b0.1).bind fun r_1=>(if r_1 then (zdy k b0.2.1).bind fun r_2=>(if r_2 then (if (decide ((List.length b0.2.2:Int)≤400)) then (zh7 b0.2.2 [10]).bind fun r_3=>some (!r_3) else some false) else some false) else some false)
def z12z (k:Nat):FE:=⟨U1,1,.bool,fun x=>zc2 k x⟩
theorem zkf (k:Nat):zc Tryz.prog 34 (z12z k):=okC zh (xTc (z12w k) (xTc z12y xTn)) xOn Tryz.f34 (LOn _) xLn (by rintro b0; kernel_rfl)
def zh8 (k:Nat) (b0:List UInt8×List UInt8×List UInt8):Option zT4:=(if b0.1.length+[32].length≤9223372036854775807 then (if (b0.1++[32]).length+b0.2.1.length≤9223372036854775807 then (if ((b0.1++[32])++b0.2.1).length+[32].length≤9223372036854775807 then (if (((b0.1++[32])++b0.2.1)++[32]).length+b0.2.2.length≤9223372036854775807 then (zdw k ((((b0.1++[32])++b0.2.1)++[32])++b0.2.2) 65535).bind fun r_1=>(zdx r_1).bind fun r_2=>(strings_Repeat [48] (z7 (5-(List.length r_2:Int)))).bind fun r_3=>(if r_3.length+r_2.length≤9223372036854775807 then (if (r_3++r_2).length+[32].length≤9223372036854775807 then (if ((r_3++r_2)++[32]).length+((((b0.1++[32])++b0.2.1)++[32])++b0.2.2).length≤9223372036854775807 then some (((r_3++r_2)++[32])++((((b0.1++[32])++b0.2.1)++[32])++b0.2.2)) else none) else none) else none) else none) else none) else none) else none)
def z130 (k:Nat):FE:=⟨U1,1,.str,fun x=>zh8 k x⟩
theorem z131 (k:Nat):zc Tryz.prog 35 (z130 k):=okC zh (xTc (zra k) (xTc zrc (xTc zrd xTn))) xOn Tryz.f35 (LOn _) xLn (by rintro b0; kernel_rfl)
def zdz (k:Nat) (line0:List UInt8):Option (zT0×Int):=(if (decide ((List.length line0:Int)<6)) then some (([],([],[])),9) else (line0[5]?).bind fun b_1=>(if (!(decide ((z_u8 b_1)=32))) then some (([],([],[])),9) else (if 0≤(6:Int)∧(6:Int)≤(line0.length:Int)∧(line0.length:Int)≤line0.length then (zdv ((line0.drop 6).take (line0.length-6)) [32]).bind fun r_2=>(zdv r_2.2.1 [32]).bind fun r_3=>(if 0≤(6:Int)∧(6:Int)≤(line0.length:Int)∧(line0.length:Int)≤line0.length then (zdw k ((line0.drop 6).take (line0.length-6)) 65535).bind fun r_4=>(zdx r_4).bind fun r_5=>(if 0≤(0:Int)∧(0:Int)≤5∧(5:Int)≤line0.length then (strings_Repeat [48] (z7 (5-(List.length r_5:Int)))).bind fun r_6=>(if r_6.length+r_5.length≤9223372036854775807 then (if (!(decide ((line0.take 5)=(r_6++r_5)))) then some (([],([],[])),10) else (zc2 k (r_2.1,(r_3.1,r_3.2.1))).bind fun r_7=>(if (!r_7) then some (([],([],[])),9) else (zh8 k (r_2.1,(r_3.1,r_3.2.1))).bind fun r_8=>(if (!(decide (r_8=line0))) then some (([],([],[])),9) else some ((r_2.1,(r_3.1,r_3.2.1)),0)))) else none) else none) else none) else none)))
def z132 (k:Nat):FE:=⟨.str,2,(.pr U1 U0),fun x=>zdz k x⟩
theorem zrg (k:Nat):zc Tryz.prog 18 (z132 k):=okC zh (xTc z12p (xTc (zra k) (xTc zrc (xTc zrd (xTc (zkf k) (xTc (z131 k) xTn)))))) xOn Tryz.f18 (LOn _) xLn (by rintro line0; kernel_rfl)
def zkg (list0:List zT4):Option Int:=some (List.length list0:Int)
def z133:FE:=⟨(.sl 9 .str),1,U0,fun x=>zkg x⟩
theorem z134:zc Tryz.prog 19 (z133):=okC zh xTn xOn Tryz.f19 (LOn _) xLn (by rintro list0; kernel_rfl)
def z6a (k:Nat):Nat→zT4→Int→Int→zT12→zT2→(zT4→zT12→zT2→Option zT2)→Option zT2
 | 0,_,_,_,_,_,_=>none
 | n+1,rest4,x16,x17,q_2,q_3,e_0=>(if (decide (x17<x16)) then (if 0≤x17∧x17.toNat<List.length q_2 then (q_2[x17.toNat]?).bind fun y_4=>(zdz k y_4).bind fun r_5=>(if (decide (0<x17)) then (if (!(decide (r_5.2=0))) then (if (q_3.length+[(z7 (x17+1))].length)*8≤LIM then z6a k n rest4 x16 (z7 (x17+1)) q_2 (q_3++[(z7 (x17+1))]) e_0 else none) else z6a k n rest4 x16 (z7 (x17+1)) q_2 q_3 e_0) else z6a k n rest4 x16 (z7 (x17+1)) q_2 q_3 e_0) else none) else e_0 rest4 q_2 q_3)
def ze0 (k:Nat) (s0:List UInt8):Option zT2:=(zdu k s0).bind fun r_1=>z6a k k r_1.2 (List.length r_1.1:Int) 0 r_1.1 [] (fun rest_6 q_7 q_8=>(if (!(decide (rest_6=[]))) then (zkg q_7).bind fun r_9=>(if (q_8.length+[(z7 (r_9+1))].length)*8≤LIM then some (q_8++[(z7 (r_9+1))]) else none) else some q_8))
def zrh:Head:=⟨[(3,(.ref P0 [])),(4,V3),(5,(.ref P1 []))],[(P0,9,.str,false),(P1,2,U0,false)],[]⟩
def zri (k:Nat):LD zT2:=⟨4,⟨[(3,(.ref P0 [])),(4,V3),(5,(.ref P1 [])),(15,(.ref P0 [])),(16,V0),(17,V0)],[(P0,9,.str,false),(P1,2,U0,false)],[]⟩,[(0,zrh)],fun n x kx=>z6a k n x.1.2.1 x.1.2.2.2.2.1 x.1.2.2.2.2.2.1 x.2.1.1 x.2.1.2.1 (fun rest4 q_6 q_7=>kx 0 (zrh.fill (((),rest4,(),()),(q_6,q_7,()),()))),k⟩
def z135 (k:Nat):FE:=⟨.str,1,U3,fun x=>ze0 k x⟩
theorem z136 (k:Nat):zc Tryz.prog 9 (z135 k):=okC zh (xTc (zr5 k) (xTc (zrg k) (xTc z134 xTn))) xOn Tryz.f9 (orc (zri k) (LOn _)) (xLo (zri k) (by rintro n ⟨⟨⟨⟩,rest4,⟨⟩,⟨⟩,x16,x17,⟨⟩⟩,⟨q_2,q_3,⟨⟩⟩,⟨⟩⟩ kx; kernel_rfl) xLn) (by rintro s0; kernel_rfl)
def zh9 (x0:List UInt8):Option Bool:=some (!(decide (x0=x0)))
def z137:FE:=⟨.str,1,.bool,fun x=>zh9 x⟩
theorem z138:zc Tryz.prog 101 (z137):=okC zh xTn xOn Tryz.f101 (LOn _) xLn (by rintro x0; kernel_rfl)
def ze1 (x0:List UInt8) (y1:List UInt8):Option Int:=(zh9 x0).bind fun r_1=>(zh9 y1).bind fun r_2=>(if r_1 then (if r_2 then some 0 else some (-1)) else (if r_2 then some 1 else (if (Op.bytesLess x0 y1) then some (-1) else (if (!(Op.bytesLess x0 y1||decide (x0=y1))) then some 1 else some 0))))
def z139:FE:=⟨U10,1,U0,fun x=>ze1 x.1 x.2⟩
theorem z13a:zc Tryz.prog 81 (z139):=okC zh (xTc z138 xTn) xOn Tryz.f81 (LOn _) xLn (by rintro ⟨x0,y1⟩; kernel_rfl)
def za1 (k:Nat):Nat→Int→zT2→Int→Int→(Int→Option Int)→Option Int
 | 0,_,_,_,_,_=>none
 | n+1,zero3,x6,x7,x8,e_0=>(if (decide (x8<x7)) then (if 0≤x8 then (x6[x8.toNat]?).bind fun y_1=>(if (!(decide (y_1=zero3))) then some y_1 else za1 k n zero3 x6 x7 (z7 (x8+1)) e_0) else none) else e_0 zero3)
def zkh (k:Nat) (vals0:List Int):Option Int:=za1 k k 0 vals0 (List.length vals0:Int) 0 (fun zero_2=>some zero_2)
def zrj:Head:=⟨[(3,V0)],[],[]⟩
def zrk (k:Nat):LD Int:=⟨3,⟨[(3,V0),(6,(.val (.sl 3 U0))),(7,V0),(8,V0)],[],[]⟩,[(0,zrj)],fun n x kx=>za1 k n x.1.1 x.1.2.1 x.1.2.2.1 x.1.2.2.2.1 (fun zero3=>kx 0 (zrj.fill ((zero3,()),(),()))),k⟩
def z13b (k:Nat):FE:=⟨(.sl 3 U0),1,U0,fun x=>zkh k x⟩
theorem z13c (k:Nat):zc Tryz.prog 80 (z13b k):=okC zh xTn xOn Tryz.f80 (orc (zrk k) (LOn _)) (xLo (zrk k) (by rintro n ⟨⟨zero3,x6,x7,x8,⟨⟩⟩,⟨⟩,⟨⟩⟩ kx; kernel_rfl) xLn) (by rintro vals0; kernel_rfl)
def zc3 (k:Nat) (a0:List UInt8×List UInt8×List UInt8) (b1:List UInt8×List UInt8×List UInt8):Option Int:=(ze1 a0.1 b1.1).bind fun r_1=>(ze1 a0.2.1 b1.2.1).bind fun r_2=>(zkh k [r_1,r_2]).bind fun r_3=>some r_3
def z13d (k:Nat):FE:=⟨(.pr U1 U1),1,U0,fun x=>zc3 k x.1 x.2⟩
theorem zrl (k:Nat):zc Tryz.prog 60 (z13d k):=okC zh (xTc z13a (xTc (z13c k) xTn)) xOn Tryz.f60 (LOn _) xLn (by rintro ⟨a0,b1⟩; kernel_rfl)
end
end Go.Proofs.YtjbnebolfnjneaaGreatDoor.Ev
