/- Functions of the program, as plain ones. No conditions. -/
import Derived.Test.YtogbhjffiglbjaaG2
import Derived.KernelRfl
set_option linter.unusedVariables false
set_option maxRecDepth 100000
namespace Go.Proofs.Ytogbhjffiglbjaa.Ev
open Go.RowKit
noncomputable section
def zcr (k:Nat) (b0:List UInt8×List UInt8×List UInt8):Option Bool:=(zcq k b0.1).bind fun r_1=>(if r_1 then (zcq k b0.2.1).bind fun r_2=>(if r_2 then (if (decide ((List.length b0.2.2:Int)≤400)) then (zfn b0.2.2 [10]).bind fun r_3=>some (!r_3) else some false) else some false) else some false)
def zy6 (k:Nat):FE:=⟨U0,1,.bool,fun x=>zcr k x⟩
theorem zon (k:Nat):zc Try.prog 16 (zy6 k):=okC zu (xTc (zxw k) (xTc zy5 xTn)) xOn Try.f16 (LOn _) xLn (by rintro b0; kernel_rfl)
def zfo (x0:List UInt8):Option Bool:=some (!(decide (x0=x0)))
def zy7:FE:=⟨.str,1,.bool,fun x=>zfo x⟩
theorem zy8:zc Try.prog 50 (zy7):=okC zu xTn xOn Try.f50 (LOn _) xLn (by rintro x0; kernel_rfl)
def zcs (x0:List UInt8) (y1:List UInt8):Option Int:=(zfo x0).bind fun r_1=>(zfo y1).bind fun r_2=>(if r_1 then (if r_2 then some 0 else some (-1)) else (if r_2 then some 1 else (if (Op.bytesLess x0 y1) then some (-1) else (if (!(Op.bytesLess x0 y1||decide (x0=y1))) then some 1 else some 0))))
def zy9:FE:=⟨U10,1,U1,fun x=>zcs x.1 x.2⟩
theorem zya:zc Try.prog 41 (zy9):=okC zu (xTc zy8 xTn) xOn Try.f41 (LOn _) xLn (by rintro ⟨x0,y1⟩; kernel_rfl)
def z92 (k:Nat):Nat→Int→zT2→Int→Int→(Int→Option Int)→Option Int
 | 0,_,_,_,_,_=>none
 | n+1,zero3,x6,x7,x8,e_0=>(if (decide (x8<x7)) then (if 0≤x8 then (x6[x8.toNat]?).bind fun y_1=>(if (!(decide (y_1=zero3))) then some y_1 else z92 k n zero3 x6 x7 (z7 (x8+1)) e_0) else none) else e_0 zero3)
def zil (k:Nat) (vals0:List Int):Option Int:=z92 k k 0 vals0 (List.length vals0:Int) 0 (fun zero_2=>some zero_2)
def zoo:Head:=⟨[(3,V0)],[],[]⟩
def zop (k:Nat):LD Int:=⟨3,⟨[(3,V0),(6,(.val (.sl 3 U1))),(7,V0),(8,V0)],[],[]⟩,[(0,zoo)],fun n x kx=>z92 k n x.1.1 x.1.2.1 x.1.2.2.1 x.1.2.2.2.1 (fun zero3=>kx 0 (zoo.fill ((zero3,()),(),()))),k⟩
def zyb (k:Nat):FE:=⟨(.sl 3 U1),1,U1,fun x=>zil k x⟩
theorem zyc (k:Nat):zc Try.prog 40 (zyb k):=okC zu xTn xOn Try.f40 (orc (zop k) (LOn _)) (xLo (zop k) (by rintro n ⟨⟨zero3,x6,x7,x8,⟨⟩⟩,⟨⟩,⟨⟩⟩ kx; kernel_rfl) xLn) (by rintro vals0; kernel_rfl)
def zaz (k:Nat) (a0:List UInt8×List UInt8×List UInt8) (b1:List UInt8×List UInt8×List UInt8):Option Int:=(zcs a0.1 b1.1).bind fun r_1=>(zcs a0.2.1 b1.2.1).bind fun r_2=>(zil k [r_1,r_2]).bind fun r_3=>some r_3
def zyd (k:Nat):FE:=⟨(.pr U0 U0),1,U1,fun x=>zaz k x.1 x.2⟩
theorem zoq (k:Nat):zc Try.prog 26 (zyd k):=okC zu (xTc zya (xTc (zyc k) xTn)) xOn Try.f26 (LOn _) xLn (by rintro ⟨a0,b1⟩; kernel_rfl)
def z93 (k:Nat):Nat→zT5→zT5→Int→Int→(zT5→Option Bool)→Option Bool
 | 0,_,_,_,_,_=>none
 | n+1,list0,x5,x6,x7,e_0=>(if (decide (x7<x6)) then (if 0≤x7 then (x5[x7.toNat]?).bind fun y_1=>(zcr k y_1).bind fun r_2=>(if (!r_2) then some false else (if (decide (0<x7)) then (if 0≤(z7 (x7-1)) then (list0[(z7 (x7-1)).toNat]?).bind fun y_3=>(zaz k y_3 y_1).bind fun r_4=>(if (decide (0≤r_4)) then some false else z93 k n list0 x5 x6 (z7 (x7+1)) e_0) else none) else z93 k n list0 x5 x6 (z7 (x7+1)) e_0)) else none) else e_0 list0)
def z6z (k:Nat) (list0:List zT0):Option Bool:=z93 k k list0 list0 (List.length list0:Int) 0 (fun list_5=>some (decide ((List.length list_5:Int)≤32)))
def zor:Head:=⟨[(0,V4)],[],[]⟩
def zos (k:Nat):LD Bool:=⟨2,⟨[(0,V4),(5,V4),(6,V0),(7,V0)],[],[]⟩,[(0,zor)],fun n x kx=>z93 k n x.1.1 x.1.2.1 x.1.2.2.1 x.1.2.2.2.1 (fun list0=>kx 0 (zor.fill ((list0,()),(),()))),k⟩
def zye (k:Nat):FE:=⟨U4,1,.bool,fun x=>z6z k x⟩
theorem zct (k:Nat):zc Try.prog 15 (zye k):=okC zu (xTc (zon k) (xTc (zoq k) xTn)) xOn Try.f15 (orc (zos k) (LOn _)) (xLo (zos k) (by rintro n ⟨⟨list0,x5,x6,x7,⟨⟩⟩,⟨⟩,⟨⟩⟩ kx; kernel_rfl) xLn) (by rintro list0; kernel_rfl)
def zb0 (s0:List zT0):Option zT5:=(if List.isEmpty s0 then zbc (some []) ((if (([]:List Unit).length+s0.length)*48≤LIM then some s0 else none)) else (if (([]:List Unit).length+s0.length)*48≤LIM then some s0 else none))
def zyf:FE:=⟨U4,1,U4,fun x=>zb0 x⟩
theorem zim:zc Try.prog 20 (zyf):=okC zu xTn xOn Try.f20 (LOn _) xLn (by rintro s0; kernel_rfl)
def z70 (k:Nat):Nat→zT5→Unit→Int→Int→Int→zT0→(zT5→Unit→Int→Int→zT0→Option (Int×Bool))→Option (Int×Bool)
 | 0,_,_,_,_,_,_,_=>none
 | n+1,x0,cmp2,n8,i9,j10,v_4,e_0=>(if (decide (i9<j10)) then (if 0≤(z7 ((Int.fdiv (z17 ((z7 (i9+j10)))) (2 ^ 1)))) then (x0[(z7 ((Int.fdiv (z17 ((z7 (i9+j10)))) (2 ^ 1)))).toNat]?).bind fun y_1=>(zaz k y_1 v_4).bind fun r_2=>(if (decide (r_2<0)) then z70 k n x0 cmp2 n8 (z7 ((z7 ((Int.fdiv (z17 ((z7 (i9+j10)))) (2 ^ 1))))+1)) j10 v_4 e_0 else z70 k n x0 cmp2 n8 i9 (z7 ((Int.fdiv (z17 ((z7 (i9+j10)))) (2 ^ 1)))) v_4 e_0) else none) else e_0 x0 cmp2 n8 i9 v_4)
def zin (k:Nat) (x0:List zT0) (target1:List UInt8×List UInt8×List UInt8) (cmp2:Unit):Option (Int×Bool):=z70 k k x0 cmp2 (List.length x0:Int) 0 (List.length x0:Int) target1 (fun x_3 cmp_4 n_5 i_6 v_7=>(if (decide (i_6<n_5)) then (if 0≤i_6 then (x_3[i_6.toNat]?).bind fun y_8=>(zaz k y_8 v_7).bind fun r_9=>some (i_6,(decide (r_9=0))) else none) else some (i_6,false)))
def zot:Head:=⟨[(0,V4),(2,(.val (.fn 26 .un))),(4,(.bp 4 [] 0)),(8,V0),(9,V0)],[],[(4,27,(.val U0))]⟩
def zou (k:Nat):LD (Int×Bool):=⟨3,⟨[(0,V4),(2,(.val (.fn 26 .un))),(4,(.bp 4 [] 0)),(8,V0),(9,V0),(10,V0)],[],[(4,27,(.val U0))]⟩,[(0,zot)],fun n x kx=>z70 k n x.1.1 x.1.2.1 x.1.2.2.2.1 x.1.2.2.2.2.1 x.1.2.2.2.2.2.1 x.2.2.1 (fun x0 cmp2 n8 i9 v_4=>kx 0 (zot.fill ((x0,cmp2,(),n8,i9,()),(),(v_4,())))),k⟩
def zyg (k:Nat):FE:=⟨(.pr U4 (.pr U0 (.fn 26 .un))),2,(.pr U1 .bool),fun x=>zin k x.1 x.2.1 x.2.2⟩
theorem zyh (k:Nat):zc Try.prog 30 (zyg k):=okC zu (xTc (zoq k) xTn) xOn Try.f30 (orc (zou k) (LOn _)) (xLo (zou k) (by rintro n ⟨⟨x0,cmp2,⟨⟩,n8,i9,j10,⟨⟩⟩,⟨⟩,⟨v_4,⟨⟩⟩⟩ kx; kernel_rfl) xLn) (by rintro ⟨x0,target1,cmp2⟩; kernel_rfl)
def zb1 (k:Nat) (list0:List zT0) (b1:List UInt8×List UInt8×List UInt8):Option (Int×Bool):=(zin k list0 b1 ()).bind fun r_1=>some (r_1.1,r_1.2)
def zyi (k:Nat):FE:=⟨(.pr U4 U0),2,(.pr U1 .bool),fun x=>zb1 k x.1 x.2⟩
theorem zio (k:Nat):zc Try.prog 18 (zyi k):=okC zu (xTc (zyh k) xTn) xOn Try.f18 (LOn _) xLn (by rintro ⟨list0,b1⟩; kernel_rfl)
def zov (i1:Int) (q_1 q_2:List zT0):Option ((Unit×Unit)×(List zT0×Unit)×Unit):=if 0≤i1∧i1≤(List.length q_1:Int)∧0<List.length q_2∧(List.length q_1+List.length q_2)*48≤LIM then some (((),()),(List.take i1.toNat q_1++q_2++List.drop i1.toNat q_1,()),()) else none
def oc_slices_Insert_impl_Block_s:OC:=zf8 27 U0 48
theorem zyj:z11 Try.prog ti 29 oc_slices_Insert_impl_Block_s :=
 zw2 (ρ:=(⟨fun n=>bif Nat.beq n 22 then 29 else bif Nat.beq n 29 then 43 else bif Nat.beq n 30 then 44 else n,fun n=>bif Nat.beq n 24 then 24 else bif Nat.beq n 3 then 3 else bif Nat.beq n 4 then 4 else bif Nat.beq n 9 then 27 else bif Nat.beq n 0 then 0 else n,fun n=>n⟩:Go.Shelf.Ren)) zf9 (e:=27) (t:=U0) (bytes:=48) ⟨Try.f29.name,by kernel_rfl,(Try.func29).trans (congrArg some (by kernel_rfl))⟩ (fun vs w=>Go.run_callFunc_extern (Try.func43) (by kernel_rfl) (by kernel_rfl) (by kernel_rfl) (e:=Go.Extern.SlicesOverlaps.overlaps #[24,24] #[4]) (by kernel_rfl) vs w) mix Try.underlying3 Try.underlying4 Try.underlying24 (i:=(ti[27]?).getD ⟨.oth,.un,0⟩) (by kernel_rfl) (by kernel_rfl) (by kernel_rfl) (by kernel_rfl) (by kernel_rfl) (by kernel_rfl)
def zcu (k:Nat) (list0:List zT0) (b1:List UInt8×List UInt8×List UInt8):Option zT5:=(zb0 list0).bind fun r_1=>(zb1 k r_1 b1).bind fun r_2=>(if r_2.2 then (if 0≤r_2.1∧r_2.1.toNat<List.length r_1 then (r_1[r_2.1.toNat]?).bind fun y_3=>(r_1[r_2.1.toNat]?).bind fun y_4=>some (r_1.set r_2.1.toNat b1) else none) else (zov r_2.1 r_1 [b1]).bind fun y_5=>some y_5.2.1.1)
def zyk (k:Nat):FE:=⟨(.pr U4 U0),1,U4,fun x=>zcu k x.1 x.2⟩
theorem zow (k:Nat):zc Try.prog 17 (zyk k):=okC zu (xTc zim (xTc (zio k) xTn)) (xOc 26 zyj xOn) Try.f17 (LOn _) xLn (by rintro ⟨list0,b1⟩; kernel_rfl)
def zfp (k:Nat) (list0:List zT0) (b1:List UInt8×List UInt8×List UInt8):Option (zT5×Int):=(z6z k list0).bind fun r_1=>(if (!r_1) then some ([],1) else (zcr k b1).bind fun r_2=>(if (!r_2) then some ([],1) else (zcu k list0 b1).bind fun r_3=>(if (decide (32<(List.length r_3:Int))) then some ([],5) else some (r_3,0))))
def zyl (k:Nat):FE:=⟨(.pr U4 U0),2,(.pr U4 U1),fun x=>zfp k x.1 x.2⟩
theorem zym (k:Nat):zc Try.prog 6 (zyl k):=okC zu (xTc (zct k) (xTc (zon k) (xTc (zow k) xTn))) xOn Try.f6 (LOn _) xLn (by rintro ⟨list0,b1⟩; kernel_rfl)
def zcv (k:Nat) (list0:List zT0) (kind1:List UInt8) (name2:List UInt8):Option (List UInt8×Int):=(z6z k list0).bind fun r_1=>(if (!r_1) then some ([],1) else (zb1 k list0 (kind1,(name2,[]))).bind fun r_2=>(if (!r_2.2) then some ([],3) else (if 0≤r_2.1 then (list0[r_2.1.toNat]?).bind fun y_3=>some (y_3.2.2,0) else none)))
def zyn (k:Nat):FE:=⟨(.pr U4 U10),2,(.pr .str U1),fun x=>zcv k x.1 x.2.1 x.2.2⟩
theorem zyo (k:Nat):zc Try.prog 7 (zyn k):=okC zu (xTc (zct k) (xTc (zio k) xTn)) xOn Try.f7 (LOn _) xLn (by rintro ⟨list0,kind1,name2⟩; kernel_rfl)
def zfq (i1:Int) (j2:Int) (q_1:List zT0):Option (((Unit×Unit)×(zT5×Unit)×Unit)):=(if 0≤i1∧i1≤j2∧j2≤(List.length q_1:Int)∧(List.length q_1:Int)≤q_1.length then (if (decide (i1=j2)) then some (((),()),(q_1,()),()) else (if 0≤(0:Int)∧(0:Int)≤i1∧i1≤q_1.length then (if 0≤j2∧j2≤(q_1.length:Int)∧(q_1.length:Int)≤q_1.length then (if (i1.toNat+List.length ((q_1.drop j2.toNat).take (q_1.length-j2.toNat)))≤List.length q_1 then (if 0≤(List.length ((z16 q_1 i1.toNat ((q_1.drop j2.toNat).take (q_1.length-j2.toNat))).take (i1.toNat+List.length ((q_1.drop j2.toNat).take (q_1.length-j2.toNat)))):Int)∧(List.length ((z16 q_1 i1.toNat ((q_1.drop j2.toNat).take (q_1.length-j2.toNat))).take (i1.toNat+List.length ((q_1.drop j2.toNat).take (q_1.length-j2.toNat)))):Int)≤(List.length q_1:Int)∧((List.length q_1:Int)≤(i1.toNat+List.length ((q_1.drop j2.toNat).take (q_1.length-j2.toNat)))∨(0=0∧(List.length q_1:Int)≤(z16 q_1 i1.toNat ((q_1.drop j2.toNat).take (q_1.length-j2.toNat))).length)) then some (((),()),(((z16 (z16 q_1 i1.toNat ((q_1.drop j2.toNat).take (q_1.length-j2.toNat))) (0+(List.length ((z16 q_1 i1.toNat ((q_1.drop j2.toNat).take (q_1.length-j2.toNat))).take (i1.toNat+List.length ((q_1.drop j2.toNat).take (q_1.length-j2.toNat)))):Int).toNat) (List.replicate (List.length q_1-(List.length ((z16 q_1 i1.toNat ((q_1.drop j2.toNat).take (q_1.length-j2.toNat))).take (i1.toNat+List.length ((q_1.drop j2.toNat).take (q_1.length-j2.toNat)))):Int).toNat) ([],([],[])))).take (i1.toNat+List.length ((q_1.drop j2.toNat).take (q_1.length-j2.toNat)))),()),()) else none) else none) else none) else none)) else none)
def zyp:OC:=⟨⟨[(0,(.ref 1000000000 [])),(1,V0),(2,V0)],[(1000000000,27,U0,false)],[]⟩,⟨[(0,(.ref P0 []))],[(P0,27,U0,false)],[]⟩,fun x=>zfq x.1.2.1 x.1.2.2.1 x.2.1.1,false⟩
theorem zyq:z11 Try.prog ti 19 (zyp):=okG zu 1 U4 xTn xOn Try.f19 (LOn _) (fun _ _=>xLn) (by rintro _ _ ⟨⟨⟨⟩,i1,j2,⟨⟩⟩,⟨q_1,⟨⟩⟩,⟨⟩⟩; kernel_rfl)
def zfr (k:Nat) (list0:List zT0) (kind1:List UInt8) (name2:List UInt8):Option (zT5×Int):=(z6z k list0).bind fun r_1=>(if (!r_1) then some ([],1) else (zb1 k list0 (kind1,(name2,[]))).bind fun r_2=>(if (!r_2.2) then some ([],3) else (zb0 list0).bind fun r_3=>(zfq r_2.1 (z7 (r_2.1+1)) r_3).bind fun y_4=>some (y_4.2.1.1,0)))
def zyr (k:Nat):FE:=⟨(.pr U4 U10),2,(.pr U4 U1),fun x=>zfr k x.1 x.2.1 x.2.2⟩
theorem zys (k:Nat):zc Try.prog 8 (zyr k):=okC zu (xTc (zct k) (xTc (zio k) (xTc zim xTn))) (xOc 28 zyq xOn) Try.f8 (LOn _) xLn (by rintro ⟨list0,kind1,name2⟩; kernel_rfl)
def zb2 (k:Nat):Nat→zT5→Int→Int→zT5→(zT5→Option (zT5×Int))→Option (zT5×Int)
 | 0,_,_,_,_,_=>none
 | n+1,x19,x20,x21,q_4,e_0=>(if (decide (x21<x20)) then (if 0≤x21 then (x19[x21.toNat]?).bind fun y_5=>(zcu k q_4 y_5).bind fun r_6=>zb2 k n x19 x20 (z7 (x21+1)) r_6 e_0 else none) else e_0 q_4)
def zfs (k:Nat) (a0:List zT0) (b1:List zT0):Option (zT5×Int):=(z6z k a0).bind fun r_1=>(if (!r_1) then some ([],1) else (z6z k b1).bind fun r_2=>(if (!r_2) then some ([],1) else (zb0 a0).bind fun r_3=>zb2 k k b1 (List.length b1:Int) 0 r_3 (fun q_7=>(if (decide (32<(List.length q_7:Int))) then some ([],5) else some (q_7,0)))))
def zox:Head:=⟨[(6,(.ref P0 []))],[(P0,27,U0,false)],[]⟩
def zoy (k:Nat):LD (zT5×Int):=⟨5,⟨[(6,(.ref P0 [])),(19,V4),(20,V0),(21,V0)],[(P0,27,U0,false)],[]⟩,[(0,zox)],fun n x kx=>zb2 k n x.1.2.1 x.1.2.2.1 x.1.2.2.2.1 x.2.1.1 (fun q_7=>kx 0 (zox.fill (((),()),(q_7,()),()))),k⟩
def zyt (k:Nat):FE:=⟨(.pr U4 U4),2,(.pr U4 U1),fun x=>zfs k x.1 x.2⟩
theorem zyu (k:Nat):zc Try.prog 9 (zyt k):=okC zu (xTc (zct k) (xTc zim (xTc (zow k) xTn))) xOn Try.f9 (orc (zoy k) (LOn _)) (xLo (zoy k) (by rintro n ⟨⟨⟨⟩,x19,x20,x21,⟨⟩⟩,⟨q_4,⟨⟩⟩,⟨⟩⟩ kx; kernel_rfl) xLn) (by rintro ⟨a0,b1⟩; kernel_rfl)
def z94 (k:Nat):Nat→zT4→zT5→Int→Int→(List zT4)→((List zT4)→Option (List zT4×Int))→Option (List zT4×Int)
 | 0,_,_,_,_,_,_=>none
 | n+1,kind1,x12,x13,x14,q_2,e_0=>(if (decide (x14<x13)) then (if 0≤x14 then (x12[x14.toNat]?).bind fun y_3=>(if (decide (y_3.1=kind1)) then (if (q_2.length+[y_3.2.1].length)*16≤LIM then z94 k n kind1 x12 x13 (z7 (x14+1)) (q_2++[y_3.2.1]) e_0 else none) else z94 k n kind1 x12 x13 (z7 (x14+1)) q_2 e_0) else none) else e_0 q_2)
def zft (k:Nat) (list0:List zT0) (kind1:List UInt8):Option (List zT4×Int):=(z6z k list0).bind fun r_1=>(if (!r_1) then some ([],1) else z94 k k kind1 list0 (List.length list0:Int) 0 [] (fun q_4=>some (q_4,0)))
def zoz:Head:=⟨[(6,(.ref P0 []))],[(P0,9,.str,false)],[]⟩
def zp0 (k:Nat):LD (List zT4×Int):=⟨5,⟨[(1,V5),(6,(.ref P0 [])),(12,V4),(13,V0),(14,V0)],[(P0,9,.str,false)],[]⟩,[(0,zoz)],fun n x kx=>z94 k n x.1.1 x.1.2.2.1 x.1.2.2.2.1 x.1.2.2.2.2.1 x.2.1.1 (fun q_4=>kx 0 (zoz.fill (((),()),(q_4,()),()))),k⟩
def zyv (k:Nat):FE:=⟨(.pr U4 .str),2,(.pr (.sl 9 .str) U1),fun x=>zft k x.1 x.2⟩
theorem zyw (k:Nat):zc Try.prog 10 (zyv k):=okC zu (xTc (zct k) xTn) xOn Try.f10 (orc (zp0 k) (LOn _)) (xLo (zp0 k) (by rintro n ⟨⟨kind1,⟨⟩,x12,x13,x14,⟨⟩⟩,⟨q_2,⟨⟩⟩,⟨⟩⟩ kx; kernel_rfl) xLn) (by rintro ⟨list0,kind1⟩; kernel_rfl)
def zb3 (k:Nat):Nat→zT5→zT5→Int→(Option Bool)→Option Bool
 | 0,_,_,_,_=>none
 | n+1,a0,b1,i5,e_0=>(if (decide (i5<(List.length a0:Int))) then (if 0≤i5 then (a0[i5.toNat]?).bind fun y_1=>(if 0≤i5 then (b1[i5.toNat]?).bind fun y_2=>(if (!(decide (y_1=y_2))) then some false else zb3 k n a0 b1 (z7 (i5+1)) e_0) else none) else none) else e_0)
def zfu (k:Nat) (a0:List zT0) (b1:List zT0):Option Bool:=(if (!(decide ((List.length a0:Int)=(List.length b1:Int)))) then some false else zb3 k k a0 b1 0 (some true))
def zp1:Head:=⟨[],[],[]⟩
def zp2 (k:Nat):LD Bool:=⟨4,⟨[(0,V4),(1,V4),(5,V0)],[],[]⟩,[(0,zp1)],fun n x kx=>zb3 k n x.1.1 x.1.2.1 x.1.2.2.1 (kx 0 (zp1.fill ((),(),()))),k⟩
def zyx (k:Nat):FE:=⟨(.pr U4 U4),1,.bool,fun x=>zfu k x.1 x.2⟩
theorem zyy (k:Nat):zc Try.prog 21 (zyx k):=okC zu xTn xOn Try.f21 (orc (zp2 k) (LOn _)) (xLo (zp2 k) (by rintro n ⟨⟨a0,b1,i5,⟨⟩⟩,⟨⟩,⟨⟩⟩ kx; kernel_rfl) xLn) (by rintro ⟨a0,b1⟩; kernel_rfl)
def ziq (k:Nat) (a0:List zT0) (b1:List zT0):Option Bool:=(zfu k a0 b1).bind fun r_1=>some r_1
def zyz (k:Nat):FE:=⟨(.pr U4 U4),1,.bool,fun x=>ziq k x.1 x.2⟩
theorem zz0 (k:Nat):zc Try.prog 11 (zyz k):=okC zu (xTc (zyy k) xTn) xOn Try.f11 (LOn _) xLn (by rintro ⟨a0,b1⟩; kernel_rfl)
def zir (k:Nat) (list0:List zT0):Option Bool:=(zco k list0).bind fun r_1=>some r_1
def zz1 (k:Nat):FE:=⟨U4,1,.bool,fun x=>zir k x⟩
theorem zz2 (k:Nat):zc Try.prog 12 (zz1 k):=okC zu (xTc (zof k) xTn) xOn Try.f12 (LOn _) xLn (by rintro list0; kernel_rfl)
def zb4 (k:Nat):Nat→Int→zT5→zT5→zT5→(zT5→zT5→zT5→Option Bool)→Option Bool
 | 0,_,_,_,_,_=>none
 | n+1,i18,q_11,q_12,q_13,e_0=>(if (decide (i18<(List.length q_12:Int))) then (if 0≤i18∧i18.toNat<List.length q_12 then (q_12[i18.toNat]?).bind fun y_14=>(if 0≤i18∧i18.toNat<List.length q_12 then (q_12[i18.toNat]?).bind fun y_15=>(zcv k q_13 y_14.1 y_15.2.1).bind fun r_16=>(if (!(decide (r_16.2=0))) then some false else (if 0≤i18∧i18.toNat<List.length q_12 then (q_12[i18.toNat]?).bind fun y_17=>(if (!(decide (r_16.1=y_17.2.2))) then some false else zb4 k n (z7 (i18+1)) q_11 q_12 q_13 e_0) else none)) else none) else none) else e_0 q_11 q_12 q_13)
def zfv (k:Nat) (code0:List Int) (more1:List Int):Option Bool:=(zcf code0 more1).bind fun r_1=>(if r_1 then some true else (zcp k code0).bind fun r_2=>(zcp k more1).bind fun r_3=>(zfp k r_2 ([110,101,119],([120],[116]))).bind fun r_4=>(zcv k r_4.1 [110,101,119] [120]).bind fun r_5=>(zfr k r_4.1 [110,101,119] [120]).bind fun r_6=>(zfs k r_2 r_3).bind fun r_7=>(zft k r_4.1 [110,101,119]).bind fun r_8=>(if (!(decide (r_4.2=0))) then some false else (if (!(decide (r_5.2=0))) then some false else (if (!(decide (r_5.1=[116]))) then some false else (if (!(decide (r_6.2=0))) then some false else (ziq k r_6.1 r_2).bind fun r_9=>(if (!r_9) then some false else (if (!(decide (r_7.2=0))) then some false else (zir k r_7.1).bind fun r_10=>(if (!r_10) then some false else (if (!(decide (r_8.2=0))) then some false else (if (!(decide ((List.length r_8.1:Int)=1))) then some false else zb4 k k 0 r_2 r_3 r_7.1 (fun q_18 q_19 q_20=>some (decide ((List.length q_20:Int)≤(z7 ((List.length q_18:Int)+(List.length q_19:Int))))))))))))))))
def zp3:Head:=⟨[(5,(.ref P0 [])),(6,(.ref P1 [])),(14,(.ref P2 []))],[(P0,27,U0,false),(P1,27,U0,false),(P2,27,U0,false)],[]⟩
def zp4 (k:Nat):LD Bool:=⟨14,⟨[(5,(.ref P0 [])),(6,(.ref P1 [])),(14,(.ref P2 [])),(18,V0)],[(P0,27,U0,false),(P1,27,U0,false),(P2,27,U0,false)],[]⟩,[(0,zp3)],fun n x kx=>zb4 k n x.1.2.2.2.1 x.2.1.1 x.2.1.2.1 x.2.1.2.2.1 (fun q_18 q_19 q_20=>kx 0 (zp3.fill (((),(),(),()),(q_18,q_19,q_20,()),()))),k⟩
def zz3 (k:Nat):FE:=⟨(.pr U2 U2),1,.bool,fun x=>zfv k x.1 x.2⟩
theorem zz4 (k:Nat):zc Try.prog 3 (zz3 k):=okC zu (xTc zw8 (xTc (zxu k) (xTc (zym k) (xTc (zyo k) (xTc (zys k) (xTc (zyu k) (xTc (zyw k) (xTc (zz0 k) (xTc (zz2 k) xTn))))))))) xOn Try.f3 (orc (zp4 k) (LOn _)) (xLo (zp4 k) (by rintro n ⟨⟨⟨⟩,⟨⟩,⟨⟩,i18,⟨⟩⟩,⟨q_11,q_12,q_13,⟨⟩⟩,⟨⟩⟩ kx; kernel_rfl) xLn) (by rintro ⟨code0,more1⟩; kernel_rfl)
end
end Go.Proofs.Ytogbhjffiglbjaa.Ev
