/- Functions of the program, as plain ones. No conditions. -/
import Derived.Test.YtbipmejjnalmiaaDoorG1
import Derived.KernelRfl
set_option linter.unusedVariables false
set_option maxRecDepth 100000
namespace Go.Proofs.YtbipmejjnalmiaaDoor.Ev
open Go.RowKit
noncomputable section
def z67 (k:Nat):Nat→Int→Int→zT5→(Option Bool)→Option Bool
 | 0,_,_,_,_=>none
 | n+1,x17,x18,q_1,e_0=>(if (decide (x18<x17)) then (if 0≤x18∧x18.toNat<List.length q_1 then (q_1[x18.toNat]?).bind fun y_2=>(if (decide (97≤y_2)) then (if (decide (48≤y_2)) then (if (!(decide (y_2≤122))) then (if (decide (x18=0)) then some false else (if (!(decide (y_2≤57))) then some false else z67 k n x17 (za (x18+1)) q_1 e_0)) else z67 k n x17 (za (x18+1)) q_1 e_0) else (if (!(decide (y_2≤122))) then (if (decide (x18=0)) then some false else some false) else z67 k n x17 (za (x18+1)) q_1 e_0)) else (if (decide (48≤y_2)) then (if (decide (x18=0)) then some false else (if (!(decide (y_2≤57))) then some false else z67 k n x17 (za (x18+1)) q_1 e_0)) else (if (decide (x18=0)) then some false else some false))) else none) else e_0)
def zfk (k:Nat) (s0:List UInt8):Option Bool:=(if (decide ((List.length s0:Int)<1)) then some false else (if (decide (10<(List.length s0:Int))) then some false else (if s0.length≤LIM then z67 k k (List.length (z8r s0):Int) 0 (z8r s0) (some true) else none)))
def zno:Head:=⟨[],[],[]⟩
def znp (k:Nat):LD Bool:=⟨4,⟨[(16,(.ref P0 [])),(17,V0),(18,V0)],[(P0,5,U4,true)],[]⟩,[(0,zno)],fun n x kx=>z67 k n x.1.2.1 x.1.2.2.1 x.2.1.1 (kx 0 (zno.fill ((),(),()))),k⟩
def zxa (k:Nat):FE:=⟨.str,1,.bool,fun x=>zfk k x⟩
theorem zxb (k:Nat):zc Tryd.prog 44 (zxa k):=okC zu xTn xOn Tryd.f44 (orc (znp k) (LOn _)) (xLo (znp k) (by rintro n ⟨⟨⟨⟩,x17,x18,⟨⟩⟩,⟨q_1,⟨⟩⟩,⟨⟩⟩ kx; kernel_rfl) xLn) (by rintro s0; kernel_rfl)
def z90 (k:Nat):Nat→zT3→Int→zT3→Int→Int→(zT3→Int→Option Bool)→Option Bool
 | 0,_,_,_,_,_,_=>none
 | n+1,names0,most1,x7,x8,x9,e_0=>(if (decide (x9<x8)) then (if 0≤x9 then (x7[x9.toNat]?).bind fun y_1=>(zfk k y_1).bind fun r_2=>(if (!r_2) then some false else (if (decide (0<x9)) then (if 0≤(za (x9-1)) then (names0[(za (x9-1)).toNat]?).bind fun y_3=>(if (Op.bytesLess y_1 y_3||decide (y_1=y_3)) then some false else z90 k n names0 most1 x7 x8 (za (x9+1)) e_0) else none) else z90 k n names0 most1 x7 x8 (za (x9+1)) e_0)) else none) else e_0 names0 most1)
def zcu (k:Nat) (names0:List zT1) (most1:Int):Option Bool:=z90 k k names0 most1 names0 (List.length names0:Int) 0 (fun names_4 most_5=>some (decide ((List.length names_4:Int)≤most_5)))
def znq:Head:=⟨[(0,V3),(1,V0)],[],[]⟩
def znr (k:Nat):LD Bool:=⟨2,⟨[(0,V3),(1,V0),(7,V3),(8,V0),(9,V0)],[],[]⟩,[(0,znq)],fun n x kx=>z90 k n x.1.1 x.1.2.1 x.1.2.2.1 x.1.2.2.2.1 x.1.2.2.2.2.1 (fun names0 most1=>kx 0 (znq.fill ((names0,most1,()),(),()))),k⟩
def zxc (k:Nat):FE:=⟨(.pr U2 U1),1,.bool,fun x=>zcu k x.1 x.2⟩
theorem zxd (k:Nat):zc Tryd.prog 26 (zxc k):=okC zu (xTc (zxb k) xTn) xOn Tryd.f26 (orc (znr k) (LOn _)) (xLo (znr k) (by rintro n ⟨⟨names0,most1,x7,x8,x9,⟨⟩⟩,⟨⟩,⟨⟩⟩ kx; kernel_rfl) xLn) (by rintro ⟨names0,most1⟩; kernel_rfl)
def zcv (n0:Int) (low1:Int) (high2:Int):Option Bool:=(if (decide (low1≤n0)) then some (decide (n0≤high2)) else some false)
def zxe:FE:=⟨(.pr U1 (.pr U1 U1)),1,.bool,fun x=>zcv x.1 x.2.1 x.2.2⟩
theorem zxf:zc Tryd.prog 27 (zxe):=okC zu xTn xOn Tryd.f27 (LOn _) xLn (by rintro ⟨n0,low1,high2⟩; kernel_rfl)
def zao (k:Nat):Nat→zT3→zT1→Int→Int→(Option Int)→Option Int
 | 0,_,_,_,_,_=>none
 | n+1,s0,v1,x7,x8,e_0=>(if (decide (x8<x7)) then (if 0≤x8 then (s0[x8.toNat]?).bind fun y_1=>(if (decide (v1=y_1)) then some x8 else zao k n s0 v1 x7 (za (x8+1)) e_0) else none) else e_0)
def zid (k:Nat) (s0:List zT1) (v1:List UInt8):Option Int:=zao k k s0 v1 (List.length s0:Int) 0 (some (-1))
def zns:Head:=⟨[],[],[]⟩
def znt (k:Nat):LD Int:=⟨2,⟨[(0,V3),(1,V2),(7,V0),(8,V0)],[],[]⟩,[(0,zns)],fun n x kx=>zao k n x.1.1 x.1.2.1 x.1.2.2.1 x.1.2.2.2.1 (kx 0 (zns.fill ((),(),()))),k⟩
def zxg (k:Nat):FE:=⟨(.pr U2 .str),1,U1,fun x=>zid k x.1 x.2⟩
theorem zxh (k:Nat):zc Tryd.prog 46 (zxg k):=okC zu xTn xOn Tryd.f46 (orc (znt k) (LOn _)) (xLo (znt k) (by rintro n ⟨⟨s0,v1,x7,x8,⟨⟩⟩,⟨⟩,⟨⟩⟩ kx; kernel_rfl) xLn) (by rintro ⟨s0,v1⟩; kernel_rfl)
def zap (k:Nat) (s0:List zT1) (v1:List UInt8):Option Bool:=(zid k s0 v1).bind fun r_1=>some (decide (0≤r_1))
def zxi (k:Nat):FE:=⟨(.pr U2 .str),1,.bool,fun x=>zap k x.1 x.2⟩
theorem zie (k:Nat):zc Tryd.prog 30 (zxi k):=okC zu (xTc (zxh k) xTn) xOn Tryd.f30 (LOn _) xLn (by rintro ⟨s0,v1⟩; kernel_rfl)
def zif (k:Nat) (n0:List UInt8) (x1:List zT1):Option Bool:=(zap k x1 n0).bind fun r_1=>some (!r_1)
def zxj (k:Nat):FE:=⟨(.pr .str U6),1,.bool,fun x=>zif k x.1 x.2⟩
theorem zxk (k:Nat):zc Tryd.prog 29 (zxj k):=okC zu (xTc (zie k) xTn) xOn Tryd.f29 (LOn _) xLn (by rintro ⟨n0,x1⟩; kernel_rfl)
def zaq (k:Nat):Nat→zT3→zT3→Int→Int→(Option Int)→Option Int
 | 0,_,_,_,_,_=>none
 | n+1,s0,f1,x7,x8,e_0=>(if (decide (x8<x7)) then (if 0≤x8 then (s0[x8.toNat]?).bind fun y_1=>(zif k y_1 f1).bind fun r_2=>(if r_2 then some x8 else zaq k n s0 f1 x7 (za (x8+1)) e_0) else none) else e_0)
def zig (k:Nat) (s0:List zT1) (f1:List zT1):Option Int:=zaq k k s0 f1 (List.length s0:Int) 0 (some (-1))
def znu:Head:=⟨[],[],[]⟩
def znv (k:Nat):LD Int:=⟨2,⟨[(0,V3),(1,(.val (.fn 29 U6))),(7,V0),(8,V0)],[],[]⟩,[(0,znu)],fun n x kx=>zaq k n x.1.1 x.1.2.1 x.1.2.2.1 x.1.2.2.2.1 (kx 0 (znu.fill ((),(),()))),k⟩
def zxl (k:Nat):FE:=⟨(.pr U2 (.fn 29 U6)),1,U1,fun x=>zig k x.1 x.2⟩
theorem zxm (k:Nat):zc Tryd.prog 45 (zxl k):=okC zu (xTc (zxk k) xTn) xOn Tryd.f45 (orc (znv k) (LOn _)) (xLo (znv k) (by rintro n ⟨⟨s0,f1,x7,x8,⟨⟩⟩,⟨⟩,⟨⟩⟩ kx; kernel_rfl) xLn) (by rintro ⟨s0,f1⟩; kernel_rfl)
def zfl (k:Nat) (s0:List zT1) (f1:List zT1):Option Bool:=(zig k s0 f1).bind fun r_1=>some (decide (0≤r_1))
def zxn (k:Nat):FE:=⟨(.pr U2 (.fn 29 U6)),1,.bool,fun x=>zfl k x.1 x.2⟩
theorem zxo (k:Nat):zc Tryd.prog 28 (zxn k):=okC zu (xTc (zxm k) xTn) xOn Tryd.f28 (LOn _) xLn (by rintro ⟨s0,f1⟩; kernel_rfl)
def zih (k:Nat) (n0:List UInt8) (x1:List zT1):Option Bool:=(zap k x1 n0).bind fun r_1=>some (!r_1)
def zxp (k:Nat):FE:=⟨(.pr .str U6),1,.bool,fun x=>zih k x.1 x.2⟩
theorem zxq (k:Nat):zc Tryd.prog 49 (zxp k):=okC zu (xTc (zie k) xTn) xOn Tryd.f49 (LOn _) xLn (by rintro ⟨n0,x1⟩; kernel_rfl)
def zar (k:Nat):Nat→zT3→zT3→Int→Int→(Option Int)→Option Int
 | 0,_,_,_,_,_=>none
 | n+1,s0,f1,x7,x8,e_0=>(if (decide (x8<x7)) then (if 0≤x8 then (s0[x8.toNat]?).bind fun y_1=>(zih k y_1 f1).bind fun r_2=>(if r_2 then some x8 else zar k n s0 f1 x7 (za (x8+1)) e_0) else none) else e_0)
def zii (k:Nat) (s0:List zT1) (f1:List zT1):Option Int:=zar k k s0 f1 (List.length s0:Int) 0 (some (-1))
def znw:Head:=⟨[],[],[]⟩
def znx (k:Nat):LD Int:=⟨2,⟨[(0,V3),(1,(.val (.fn 49 U6))),(7,V0),(8,V0)],[],[]⟩,[(0,znw)],fun n x kx=>zar k n x.1.1 x.1.2.1 x.1.2.2.1 x.1.2.2.2.1 (kx 0 (znw.fill ((),(),()))),k⟩
def zxr (k:Nat):FE:=⟨(.pr U2 (.fn 49 U6)),1,U1,fun x=>zii k x.1 x.2⟩
theorem zxs (k:Nat):zc Tryd.prog 45 (zxr k):=okC zu (xTc (zxq k) xTn) xOn Tryd.f45 (orc (znx k) (LOn _)) (xLo (znx k) (by rintro n ⟨⟨s0,f1,x7,x8,⟨⟩⟩,⟨⟩,⟨⟩⟩ kx; kernel_rfl) xLn) (by rintro ⟨s0,f1⟩; kernel_rfl)
def zfm (k:Nat) (s0:List zT1) (f1:List zT1):Option Bool:=(zii k s0 f1).bind fun r_1=>some (decide (0≤r_1))
def zxt (k:Nat):FE:=⟨(.pr U2 (.fn 49 U6)),1,.bool,fun x=>zfm k x.1 x.2⟩
theorem zxu (k:Nat):zc Tryd.prog 28 (zxt k):=okC zu (xTc (zxs k) xTn) xOn Tryd.f28 (LOn _) xLn (by rintro ⟨s0,f1⟩; kernel_rfl)
def zfn (k:Nat) (x0:List UInt8×List zT1×Int×Int) (x1:List zT1):Option Bool:=(zap k x1 x0.1).bind fun r_1=>(if (!r_1) then (zfm k x0.2.1 x1).bind fun r_2=>some (!r_2) else some false)
def zxv (k:Nat):FE:=⟨(.pr U0 U6),1,.bool,fun x=>zfn k x.1 x.2⟩
theorem zxw (k:Nat):zc Tryd.prog 48 (zxv k):=okC zu (xTc (zie k) (xTc (zxu k) xTn)) xOn Tryd.f48 (LOn _) xLn (by rintro ⟨x0,x1⟩; kernel_rfl)
def zas (k:Nat):Nat→zT4→zT3→Int→Int→(Option Int)→Option Int
 | 0,_,_,_,_,_=>none
 | n+1,s0,f1,x7,x8,e_0=>(if (decide (x8<x7)) then (if 0≤x8 then (s0[x8.toNat]?).bind fun y_1=>(zfn k y_1 f1).bind fun r_2=>(if r_2 then some x8 else zas k n s0 f1 x7 (za (x8+1)) e_0) else none) else e_0)
def zfo (k:Nat) (s0:List zT0) (f1:List zT1):Option Int:=zas k k s0 f1 (List.length s0:Int) 0 (some (-1))
def zny:Head:=⟨[],[],[]⟩
def znz (k:Nat):LD Int:=⟨2,⟨[(0,V1),(1,(.val (.fn 48 U6))),(7,V0),(8,V0)],[],[]⟩,[(0,zny)],fun n x kx=>zas k n x.1.1 x.1.2.1 x.1.2.2.1 x.1.2.2.2.1 (kx 0 (zny.fill ((),(),()))),k⟩
def zxx (k:Nat):FE:=⟨(.pr U3 (.fn 48 U6)),1,U1,fun x=>zfo k x.1 x.2⟩
theorem zxy (k:Nat):zc Tryd.prog 47 (zxx k):=okC zu (xTc (zxw k) xTn) xOn Tryd.f47 (orc (znz k) (LOn _)) (xLo (znz k) (by rintro n ⟨⟨s0,f1,x7,x8,⟨⟩⟩,⟨⟩,⟨⟩⟩ kx; kernel_rfl) xLn) (by rintro ⟨s0,f1⟩; kernel_rfl)
def zat (k:Nat):Nat→zT4→Int→Int→zT3→(zT3→Option zT3)→Option zT3
 | 0,_,_,_,_,_=>none
 | n+1,list0,x6,x7,q_1,e_0=>(if (decide (x7<x6)) then (zfo k list0 q_1).bind fun r_2=>(if (decide (r_2<0)) then e_0 q_1 else (if 0≤r_2 then (list0[r_2.toNat]?).bind fun y_3=>(if (q_1.length+[y_3.1].length)*16≤LIM then zat k n list0 x6 (za (x7+1)) (q_1++[y_3.1]) e_0 else none) else none)) else e_0 q_1)
def zau (k:Nat) (list0:List zT0):Option zT3:=zat k k list0 (List.length list0:Int) 0 [] (fun q_4=>some q_4)
def zo0:Head:=⟨[(3,(.bp 3 [] 0))],[(P0,9,.str,false)],[(3,28,(.ref P0 []))]⟩
def zo1 (k:Nat):LD zT3:=⟨3,⟨[(0,V1),(3,(.bp 3 [] 0)),(6,V0),(7,V0)],[(P0,9,.str,false)],[(3,28,(.ref P0 []))]⟩,[(0,zo0)],fun n x kx=>zat k n x.1.1 x.1.2.2.1 x.1.2.2.2.1 x.2.1.1 (fun q_3=>kx 0 (zo0.fill (((),()),(q_3,()),((),())))),k⟩
def zxz (k:Nat):FE:=⟨U3,1,U2,fun x=>zau k x⟩
theorem zy0 (k:Nat):zc Tryd.prog 31 (zxz k):=okC zu (xTc (zxy k) xTn) xOn Tryd.f31 (orc (zo1 k) (LOn _)) (xLo (zo1 k) (by rintro n ⟨⟨list0,⟨⟩,x6,x7,⟨⟩⟩,⟨q_1,⟨⟩⟩,⟨⟨⟩,⟨⟩⟩⟩ kx; kernel_rfl) xLn) (by rintro list0; kernel_rfl)
def z91 (k:Nat):Nat→zT4→zT4→Int→Int→zT3→(zT4→zT3→Option Bool)→Option Bool
 | 0,_,_,_,_,_,_=>none
 | n+1,list0,x8,x9,x10,q_1,e_0=>(if (decide (x10<x9)) then (if 0≤x10 then (x8[x10.toNat]?).bind fun y_2=>(if (q_1.length+[y_2.1].length)*16≤LIM then z91 k n list0 x8 x9 (za (x10+1)) (q_1++[y_2.1]) e_0 else none) else none) else e_0 list0 q_1)
def zav (k:Nat):Nat→zT4→zT4→Int→Int→zT3→(zT4→Option Bool)→Option Bool
 | 0,_,_,_,_,_,_=>none
 | n+1,list0,x23,x24,x25,q_6,e_2=>(if (decide (x25<x24)) then (if 0≤x25 then (x23[x25.toNat]?).bind fun y_7=>(zcu k y_7.2.1 16).bind fun r_8=>(if (!r_8) then some false else (zcv y_7.2.2.1 0 1000000).bind fun r_9=>(if (!r_9) then some false else (zcv y_7.2.2.2 0 1000).bind fun r_10=>(if (!r_10) then some false else (zfl k y_7.2.1 q_6).bind fun r_11=>(if r_11 then some false else zav k n list0 x23 x24 (za (x25+1)) q_6 e_2)))) else none) else e_2 list0)
def zaw (k:Nat) (list0:List zT0):Option Bool:=z91 k k list0 list0 (List.length list0:Int) 0 [] (fun list_3 q_4=>(zcu k q_4 16).bind fun r_5=>(if (!r_5) then some false else zav k k list_3 list_3 (List.length list_3:Int) 0 q_4 (fun list_12=>(zau k list_12).bind fun r_13=>some (decide ((List.length r_13:Int)=(List.length list_12:Int))))))
def zo2:Head:=⟨[(0,V1),(3,(.bp 3 [] 0))],[(P0,9,.str,false)],[(3,28,(.ref P0 []))]⟩
def zo3 (k:Nat):LD Bool:=⟨3,⟨[(0,V1),(3,(.bp 3 [] 0)),(8,V1),(9,V0),(10,V0)],[(P0,9,.str,false)],[(3,28,(.ref P0 []))]⟩,[(0,zo2)],fun n x kx=>z91 k n x.1.1 x.1.2.2.1 x.1.2.2.2.1 x.1.2.2.2.2.1 x.2.1.1 (fun list0 q_3=>kx 0 (zo2.fill ((list0,(),()),(q_3,()),((),())))),k⟩
def zo4:Head:=⟨[(0,V1)],[],[]⟩
def zo5 (k:Nat):LD Bool:=⟨10,⟨[(0,V1),(3,(.bp 3 [] 0)),(23,V1),(24,V0),(25,V0)],[(P0,9,.str,false)],[(3,28,(.ref P0 []))]⟩,[(2,zo4)],fun n x kx=>zav k n x.1.1 x.1.2.2.1 x.1.2.2.2.1 x.1.2.2.2.2.1 x.2.1.1 (fun list0=>kx 2 (zo4.fill ((list0,()),(),()))),k⟩
def zy1 (k:Nat):FE:=⟨U3,1,.bool,fun x=>zaw k x⟩
theorem zo6 (k:Nat):zc Tryd.prog 13 (zy1 k):=okC zu (xTc (zxd k) (xTc zxf (xTc (zxo k) (xTc (zy0 k) xTn)))) xOn Tryd.f13 (orc (zo3 k) (orc (zo5 k) (LOn _))) (xLo (zo3 k) (by rintro n ⟨⟨list0,⟨⟩,x8,x9,x10,⟨⟩⟩,⟨q_1,⟨⟩⟩,⟨⟨⟩,⟨⟩⟩⟩ kx; kernel_rfl) (xLo (zo5 k) (by rintro n ⟨⟨list0,⟨⟩,x23,x24,x25,⟨⟩⟩,⟨q_6,⟨⟩⟩,⟨⟨⟩,⟨⟩⟩⟩ kx; kernel_rfl) xLn)) (by rintro list0; kernel_rfl)
def zax (sep1:List UInt8) (q_1:List zT1):Option ((List UInt8×Unit)×(List zT1×Unit)×Unit):=if List.length q_1≤LIM∧(Lib.join q_1 sep1).length≤LIM then some ((Lib.join q_1 sep1,()),(q_1,()),()) else none
def oc_strings_Join_s:OC:=zcj 9
theorem zo7:z1s Tryd.prog ti 32 oc_strings_Join_s:=zvu (fn:=Tryd.f32) (cd:=z2x Tryd.f32) (by kernel_rfl) (by kernel_rfl) (by kernel_rfl) (fun bk o c xs sep w h1 h2 h3 h4 h5=>Go.Proofs.Tryd.strings_Join bk o c xs sep w h1 h2 h3 h4 h5) (fun a c sep w=>Go.Proofs.Tryd.strings_Join_none a c sep w)
def zay (k:Nat):Nat→zT4→Int→Int→zT3→(zT3→Option zT1)→Option zT1
 | 0,_,_,_,_,_=>none
 | n+1,x10,x11,x12,q_2,e_0=>(if (decide (x12<x11)) then (if 0≤x12 then (x10[x12.toNat]?).bind fun y_3=>(zan y_3.2.2.1).bind fun r_4=>(zan y_3.2.2.2).bind fun r_5=>(if ([y_3.1,r_4,r_5].length+y_3.2.1.length)*16≤LIM then (zax [32] ([y_3.1,r_4,r_5]++y_3.2.1)).bind fun y_6=>(if (q_2.length+[y_6.1.1].length)*16≤LIM then zay k n x10 x11 (za (x12+1)) (q_2++[y_6.1.1]) e_0 else none) else none) else none) else e_0 q_2)
def zfp (k:Nat) (list0:List zT0):Option zT1:=(zaw k list0).bind fun r_1=>(if (!r_1) then some [] else zay k k list0 (List.length list0:Int) 0 [] (fun q_7=>(zax [47] q_7).bind fun y_8=>some y_8.1.1))
def zo8:Head:=⟨[(3,(.ref P0 []))],[(P0,9,.str,false)],[]⟩
def zo9 (k:Nat):LD zT1:=⟨5,⟨[(3,(.ref P0 [])),(10,V1),(11,V0),(12,V0)],[(P0,9,.str,false)],[]⟩,[(0,zo8)],fun n x kx=>zay k n x.1.2.1 x.1.2.2.1 x.1.2.2.2.1 x.2.1.1 (fun q_7=>kx 0 (zo8.fill (((),()),(q_7,()),()))),k⟩
def zy2 (k:Nat):FE:=⟨U3,1,.str,fun x=>zfp k x⟩
theorem zy3 (k:Nat):zc Tryd.prog 14 (zy2 k):=okC zu (xTc (zo6 k) (xTc znn xTn)) (xOc 30 zo7 (xOc 35 zo7 xOn)) Tryd.f14 (orc (zo9 k) (LOn _)) (xLo (zo9 k) (by rintro n ⟨⟨⟨⟩,x10,x11,x12,⟨⟩⟩,⟨q_2,⟨⟩⟩,⟨⟩⟩ kx; kernel_rfl) xLn) (by rintro list0; kernel_rfl)
def z92 (k:Nat):Nat→zT1→Int→Int→zT4→zT3→(zT1→zT4→Option zT6)→Option zT6
 | 0,_,_,_,_,_,_=>none
 | n+1,s0,x13,x14,q_2,q_3,e_0=>(if (decide (x14<x13)) then (if 0≤x14∧x14.toNat<List.length q_3 then (q_3[x14.toNat]?).bind fun y_4=>(zcr k y_4 [32]).bind fun r_5=>(if (decide ((List.length r_5:Int)<3)) then some ([],false) else (if 0≤(0:Int)∧0<List.length r_5 then (r_5[0]?).bind fun y_6=>(if 0≤(3:Int)∧(3:Int)≤(r_5.length:Int)∧(r_5.length:Int)≤r_5.length then (zcs ((r_5.drop 3).take (r_5.length-3))).bind fun r_7=>(if 0≤(1:Int)∧1<List.length r_5 then (r_5[1]?).bind fun y_8=>(zct y_8).bind fun r_9=>(if 0≤(2:Int)∧2<List.length r_5 then (r_5[2]?).bind fun y_10=>(zct y_10).bind fun r_11=>(if (q_2.length+[(y_6,(r_7,(r_9.1,r_11.1)))].length)*56≤LIM then z92 k n s0 x13 (za (x14+1)) (q_2++[(y_6,(r_7,(r_9.1,r_11.1)))]) q_3 e_0 else none) else none) else none) else none) else none)) else none) else e_0 s0 q_2)
def zcw (k:Nat) (s0:List UInt8):Option zT6:=(if (decide (s0=[])) then some ([],true) else (zcr k s0 [47]).bind fun r_1=>z92 k k s0 (List.length r_1:Int) 0 [] r_1 (fun s_12 q_13=>(zaw k q_13).bind fun r_14=>(if (!r_14) then some ([],false) else (zfp k q_13).bind fun r_15=>(if (!(decide (r_15=s_12))) then some ([],false) else some (q_13,true)))))
def zoa:Head:=⟨[(0,V2),(4,(.ref P0 []))],[(P0,32,U0,false)],[]⟩
def zob (k:Nat):LD zT6:=⟨5,⟨[(0,V2),(4,(.ref P0 [])),(12,(.ref P1 [])),(13,V0),(14,V0)],[(P0,32,U0,false),(P1,9,.str,false)],[]⟩,[(0,zoa)],fun n x kx=>z92 k n x.1.1 x.1.2.2.2.1 x.1.2.2.2.2.1 x.2.1.1 x.2.1.2.1 (fun s0 q_12=>kx 0 (zoa.fill ((s0,(),()),(q_12,()),()))),k⟩
def zy4 (k:Nat):FE:=⟨.str,2,(.pr U3 .bool),fun x=>zcw k x⟩
theorem zy5 (k:Nat):zc Tryd.prog 5 (zy4 k):=okC zu (xTc (zww k) (xTc zwy (xTc zx9 (xTc (zo6 k) (xTc (zy3 k) xTn))))) xOn Tryd.f5 (orc (zob k) (LOn _)) (xLo (zob k) (by rintro n ⟨⟨s0,⟨⟩,⟨⟩,x13,x14,⟨⟩⟩,⟨q_2,q_3,⟨⟩⟩,⟨⟩⟩ kx; kernel_rfl) xLn) (by rintro s0; kernel_rfl)
def zaz (k:Nat):Nat→zT3→zT3→Int→(Option Bool)→Option Bool
 | 0,_,_,_,_=>none
 | n+1,a0,b1,i5,e_0=>(if (decide (i5<(List.length a0:Int))) then (if 0≤i5 then (a0[i5.toNat]?).bind fun y_1=>(if 0≤i5 then (b1[i5.toNat]?).bind fun y_2=>(if (!(decide (y_1=y_2))) then some false else zaz k n a0 b1 (za (i5+1)) e_0) else none) else none) else e_0)
def zfq (k:Nat) (a0:List zT1) (b1:List zT1):Option Bool:=(if (!(decide ((List.length a0:Int)=(List.length b1:Int)))) then some false else zaz k k a0 b1 0 (some true))
def zoc:Head:=⟨[],[],[]⟩
def zod (k:Nat):LD Bool:=⟨4,⟨[(0,V3),(1,V3),(5,V0)],[],[]⟩,[(0,zoc)],fun n x kx=>zaz k n x.1.1 x.1.2.1 x.1.2.2.1 (kx 0 (zoc.fill ((),(),()))),k⟩
def zy6 (k:Nat):FE:=⟨(.pr U2 U2),1,.bool,fun x=>zfq k x.1 x.2⟩
theorem zy7 (k:Nat):zc Tryd.prog 33 (zy6 k):=okC zu xTn xOn Tryd.f33 (orc (zod k) (LOn _)) (xLo (zod k) (by rintro n ⟨⟨a0,b1,i5,⟨⟩⟩,⟨⟩,⟨⟩⟩ kx; kernel_rfl) xLn) (by rintro ⟨a0,b1⟩; kernel_rfl)
def zfr (k:Nat) (a0:List UInt8×List zT1×Int×Int) (b1:List UInt8×List zT1×Int×Int):Option Bool:=(if (!(decide (a0.1=b1.1))) then some false else (zfq k a0.2.1 b1.2.1).bind fun r_1=>(if (!r_1) then some false else (if (!(decide (a0.2.2.1=b1.2.2.1))) then some false else (if (!(decide (a0.2.2.2=b1.2.2.2))) then some false else some true))))
def zy8 (k:Nat):FE:=⟨(.pr U0 U0),1,.bool,fun x=>zfr k x.1 x.2⟩
theorem zy9 (k:Nat):zc Tryd.prog 15 (zy8 k):=okC zu (xTc (zy7 k) xTn) xOn Tryd.f15 (LOn _) xLn (by rintro ⟨a0,b1⟩; kernel_rfl)
def zb0 (k:Nat):Nat→zT4→zT4→Int→(Option Bool)→Option Bool
 | 0,_,_,_,_=>none
 | n+1,a0,b1,i5,e_0=>(if (decide (i5<(List.length a0:Int))) then (if 0≤i5 then (a0[i5.toNat]?).bind fun y_1=>(if 0≤i5 then (b1[i5.toNat]?).bind fun y_2=>(zfr k y_1 y_2).bind fun r_3=>(if (!r_3) then some false else zb0 k n a0 b1 (za (i5+1)) e_0) else none) else none) else e_0)
def zcx (k:Nat) (a0:List zT0) (b1:List zT0):Option Bool:=(if (!(decide ((List.length a0:Int)=(List.length b1:Int)))) then some false else zb0 k k a0 b1 0 (some true))
def zoe:Head:=⟨[],[],[]⟩
def zof (k:Nat):LD Bool:=⟨4,⟨[(0,V1),(1,V1),(5,V0)],[],[]⟩,[(0,zoe)],fun n x kx=>zb0 k n x.1.1 x.1.2.1 x.1.2.2.1 (kx 0 (zoe.fill ((),(),()))),k⟩
def zya (k:Nat):FE:=⟨(.pr U3 U3),1,.bool,fun x=>zcx k x.1 x.2⟩
theorem zyb (k:Nat):zc Tryd.prog 6 (zya k):=okC zu (xTc (zy9 k) xTn) xOn Tryd.f6 (orc (zof k) (LOn _)) (xLo (zof k) (by rintro n ⟨⟨a0,b1,i5,⟨⟩⟩,⟨⟩,⟨⟩⟩ kx; kernel_rfl) xLn) (by rintro ⟨a0,b1⟩; kernel_rfl)
def z93 (k:Nat):Nat→Int→zT1→(zT1→Option zT1)→Option zT1
 | 0,_,_,_=>none
 | n+1,k0,out3,e_0=>(if (decide (0<k0)) then (if (zi2 [(z8q ((za (48+(Int.tmod k0 10)))))]).length+out3.length≤9223372036854775807 then z93 k n (za (Int.tdiv k0 10)) ((zi2 [(z8q ((za (48+(Int.tmod k0 10)))))])++out3) e_0 else none) else e_0 out3)
def z6w (k:Nat) (k0:Int):Option zT1:=(if (decide (k0≤0)) then some [109,48] else z93 k k k0 [] (fun out_1=>(if [109].length+out_1.length≤9223372036854775807 then some ([109]++out_1) else none)))
def zog:Head:=⟨[(3,V2)],[],[]⟩
def zoh (k:Nat):LD zT1:=⟨4,⟨[(0,V0),(3,V2)],[],[]⟩,[(0,zog)],fun n x kx=>z93 k n x.1.1 x.1.2.1 (fun out3=>kx 0 (zog.fill ((out3,()),(),()))),k⟩
def zyc (k:Nat):FE:=⟨U1,1,.str,fun x=>z6w k x⟩
theorem zfs (k:Nat):zc Tryd.prog 16 (zyc k):=okC zu xTn xOn Tryd.f16 (orc (zoh k) (LOn _)) (xLo (zoh k) (by rintro n ⟨⟨k0,out3,⟨⟩⟩,⟨⟩,⟨⟩⟩ kx; kernel_rfl) xLn) (by rintro k0; kernel_rfl)
def zb1 (k:Nat):Nat→Nat→Int→Int→zT4→(Int→zT4→Option zT2)→Option zT2
 | 0,_,_,_,_,_=>none
 | n+1,a0n0,k1,i5,q_2,e_0=>(q_2[a0n0]?).bind fun y_3=>(if (decide (i5<(List.length y_3.2.1:Int))) then (z6w k k1).bind fun r_4=>(q_2[a0n0]?).bind fun y_5=>(if 0≤i5∧i5.toNat<List.length y_5.2.1 then (q_2[a0n0]?).bind fun y_6=>(y_6.2.1[i5.toNat]?).bind fun y_7=>(q_2[a0n0]?).bind fun y_8=>(y_8.2.1[i5.toNat]?).bind fun y_9=>zb1 k n a0n0 (za (k1+1)) (za (i5+1)) (q_2.set a0n0 (y_8.1,((y_8.2.1.set i5.toNat r_4),y_8.2.2))) e_0 else none) else e_0 k1 q_2)
def zft (k:Nat) (a0n0:Nat) (k1:Int) (q_1:List zT0):Option zT2:=zb1 k k a0n0 k1 0 q_1 (fun k_10 q_11=>some ((k_10,()),(q_11,()),()))
def zoi:Head:=⟨[(1,V0)],[(1000000000,32,U0,false)],[]⟩
def zoj (k:Nat):LD zT2:=⟨2,⟨[(0,(.ref 1000000000 [.ix,.f true,.f false])),(1,V0),(5,V0)],[(1000000000,32,U0,false)],[]⟩,[(0,zoi)],fun n x kx=>zb1 k n x.1.1.1 x.1.2.1 x.1.2.2.1 x.2.1.1 (fun k1 q_10=>kx 0 (zoi.fill ((k1,()),(q_10,()),()))),k⟩
def zyd (k:Nat):OC:=⟨⟨[(0,(.ref 1000000000 [.ix,.f true,.f false])),(1,V0)],[(1000000000,32,U0,false)],[]⟩,⟨[(0,V0)],[(1000000000,32,U0,false)],[]⟩,fun x=>zft k x.1.1.1 x.1.2.1 x.2.1.1,false⟩
theorem zye (k:Nat):z1s Tryd.prog ti 17 (zyd k):=okO zu (xTc (zfs k) xTn) xOn Tryd.f17 (orc (zoj k) (LOn _)) (fun _ _=>xLo (zoj k) (by rintro n ⟨⟨⟨a0n0,⟨⟩⟩,k1,i5,⟨⟩⟩,⟨q_2,⟨⟩⟩,⟨⟩⟩ kx; kernel_rfl) xLn) (by rintro _ _ ⟨⟨⟨a0n0,⟨⟩⟩,k1,⟨⟩⟩,⟨q_1,⟨⟩⟩,⟨⟩⟩; kernel_rfl)
def zb2 (k:Nat):Nat→Int→Int→zT4→(Int→zT4→Option zT2)→Option zT2
 | 0,_,_,_,_=>none
 | n+1,k1,i5,q_2,e_0=>(if (decide (i5<(List.length q_2:Int))) then (z6w k k1).bind fun r_3=>(if 0≤i5∧i5.toNat<List.length q_2 then (q_2[i5.toNat]?).bind fun y_4=>(q_2[i5.toNat]?).bind fun y_5=>(if 0≤i5∧i5.toNat<List.length (q_2.set i5.toNat (r_3,y_4.2)) then ((q_2.set i5.toNat (r_3,y_4.2))[i5.toNat]?).bind fun y_6=>(zft k i5.toNat (za (k1+1)) (q_2.set i5.toNat (r_3,y_4.2))).bind fun y_7=>(if 0≤i5∧i5.toNat<List.length y_7.2.1.1 then (y_7.2.1.1[i5.toNat]?).bind fun y_8=>(y_7.2.1.1[i5.toNat]?).bind fun y_9=>(if 0≤i5∧i5.toNat<List.length (y_7.2.1.1.set i5.toNat (y_8.1,(y_8.2.1,(y_7.1.1,y_8.2.2.2)))) then ((y_7.2.1.1.set i5.toNat (y_8.1,(y_8.2.1,(y_7.1.1,y_8.2.2.2))))[i5.toNat]?).bind fun y_10=>((y_7.2.1.1.set i5.toNat (y_8.1,(y_8.2.1,(y_7.1.1,y_8.2.2.2))))[i5.toNat]?).bind fun y_11=>zb2 k n (za ((za (y_7.1.1+1))+1)) (za (i5+1)) ((y_7.2.1.1.set i5.toNat (y_8.1,(y_8.2.1,(y_7.1.1,y_8.2.2.2)))).set i5.toNat (y_10.1,(y_10.2.1,(y_10.2.2.1,(za (y_7.1.1+1)))))) e_0 else none) else none) else none) else none) else e_0 k1 q_2)
def zfu (k:Nat) (k1:Int) (q_1:List zT0):Option zT2:=zb2 k k k1 0 q_1 (fun k_12 q_13=>some ((k_12,()),(q_13,()),()))
def zok:Head:=⟨[(1,V0)],[(1000000000,32,U0,false)],[]⟩
def zol (k:Nat):LD zT2:=⟨2,⟨[(0,(.ref 1000000000 [])),(1,V0),(5,V0)],[(1000000000,32,U0,false)],[]⟩,[(0,zok)],fun n x kx=>zb2 k n x.1.2.1 x.1.2.2.1 x.2.1.1 (fun k1 q_13=>kx 0 (zok.fill ((k1,()),(q_13,()),()))),k⟩
def zyf (k:Nat):OC:=⟨⟨[(0,(.ref 1000000000 [])),(1,V0)],[(1000000000,32,U0,false)],[]⟩,⟨[(0,V0)],[(1000000000,32,U0,false)],[]⟩,fun x=>zfu k x.1.2.1 x.2.1.1,false⟩
theorem zyg (k:Nat):z1s Tryd.prog ti 7 (zyf k):=okO zu (xTc (zfs k) xTn) (xOc 26 (zye k) xOn) Tryd.f7 (orc (zol k) (LOn _)) (fun _ _=>xLo (zol k) (by rintro n ⟨⟨⟨⟩,k1,i5,⟨⟩⟩,⟨q_2,⟨⟩⟩,⟨⟩⟩ kx; kernel_rfl) xLn) (by rintro _ _ ⟨⟨⟨⟩,k1,⟨⟩⟩,⟨q_1,⟨⟩⟩,⟨⟩⟩; kernel_rfl)
end
end Go.Proofs.YtbipmejjnalmiaaDoor.Ev
