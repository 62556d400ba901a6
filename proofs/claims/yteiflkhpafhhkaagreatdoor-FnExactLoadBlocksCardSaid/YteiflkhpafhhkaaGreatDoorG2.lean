/- Functions of the program, as plain ones. No conditions. -/
import Derived.Test.YteiflkhpafhhkaaGreatDoorG1
import Derived.KernelRfl
set_option linter.unusedVariables false
set_option maxRecDepth 100000
namespace Go.Proofs.YteiflkhpafhhkaaGreatDoor.Ev
open Go.RowKit
noncomputable section
def zf5 (s0:List UInt8) (prefix1:List UInt8):Option Bool:=(if (decide ((List.length prefix1:Int)≤(List.length s0:Int))) then (if 0≤(0:Int)∧(0:Int)≤(List.length prefix1:Int)∧(List.length prefix1:Int)≤s0.length then some (decide ((s0.take (List.length prefix1))=prefix1)) else none) else some false)
def zw7:FE:=⟨U2,1,.bool,fun x=>zf5 x.1 x.2⟩
theorem zw8:zc Tryz.prog 50 (zw7):=okC zr xTn xOn Tryz.f50 (LOn _) xLn (by rintro ⟨s0,prefix1⟩; kernel_rfl)
def zf6 (s0:List UInt8) (prefix1:List UInt8):Option zT1:=(zf5 s0 prefix1).bind fun r_1=>(if r_1 then (if 0≤(List.length prefix1:Int)∧(List.length prefix1:Int)≤(s0.length:Int)∧(s0.length:Int)≤s0.length then some ((s0.drop (List.length prefix1)).take (s0.length-(List.length prefix1))) else none) else some s0)
def zw9:FE:=⟨U2,1,.str,fun x=>zf6 x.1 x.2⟩
theorem zwa:zc Tryz.prog 34 (zw9):=okC zr (xTc zw8 xTn) xOn Tryz.f34 (LOn _) xLn (by rintro ⟨s0,prefix1⟩; kernel_rfl)
def z7z (s0:List UInt8) (prefix1:List UInt8):Option zT1:=(zf6 s0 prefix1).bind fun r_1=>some r_1
def zwb:FE:=⟨U2,1,.str,fun x=>z7z x.1 x.2⟩
theorem zn5:zc Tryz.prog 16 (zwb):=okC zr (xTc zwa xTn) xOn Tryz.f16 (LOn _) xLn (by rintro ⟨s0,prefix1⟩; kernel_rfl)
def zn6 (s0:List UInt8) (b1 z2:Int):Option (((Int×(Bool×Unit))×Unit)×Unit×Unit):=if b1=(10:Int)∧z2=(64:Int)∧List.length s0≤281474976710656 then some ((((prs s0).1,((prs s0).2,())),()),(),()) else none
def oc_strconv_ParseInt_s:OC:=oc_parseInt
theorem zwc : z22 Tryz.prog ti 33 oc_strconv_ParseInt_s := zur (fn := Tryz.f33) (cd := z2x Tryz.f33) (by kernel_rfl) (by kernel_rfl) (by kernel_rfl) (fun w h => ⟨h.2 "strconv.ErrSyntax" (.head _), h.2 "strconv.ErrRange" (.tail _ (.head _))⟩) (fun s h1 v h2 w => Go.Proofs.Tryz.strconv_ParseInt_10_at64_ok s h1 v h2 w) (fun s h1 h2 tp p w h3 => Go.Proofs.Tryz.strconv_ParseInt_10_at64_syntax_var s h1 h2 tp p w h3) (fun s h1 h2 tp p w h3 => Go.Proofs.Tryz.strconv_ParseInt_10_at64_range_var s h1 h2 tp p w h3)
def zn7 (n:Int) (b:Int):Option zT1:=if b=10 ∧ -9223372036854775808≤n∧n≤9223372036854775807 then some (Lib.itoa n) else none
abbrev fe_strconv_FormatInt:FE:=fe_formatInt
theorem zwd:zc Tryz.prog 35 fe_strconv_FormatInt:=zup (fn:=Tryz.f35) (cd:=z2x Tryz.f35) (by kernel_rfl) (by kernel_rfl) (by kernel_rfl) (fun n h0 h1 w hG=>Go.Proofs.Tryz.strconv_FormatInt_10 n h0 h1 w hG.1)
def z81 (n0:Int):Option zT1:=(zn7 n0 10).bind fun r_1=>some r_1
def zwe:FE:=⟨U1,1,.str,fun x=>z81 x⟩
theorem zf7:zc Tryz.prog 18 (zwe):=okC zr (xTc zwd xTn) xOn Tryz.f18 (LOn _) xLn (by rintro n0; kernel_rfl)
def zc9 (s0:List UInt8):Option (Int×Bool):=(z7z s0 [45]).bind fun r_1=>(if (decide ((List.length r_1:Int)<1)) then some (0,false) else (if (decide (18<(List.length r_1:Int))) then some (0,false) else (zn6 s0 10 64).bind fun y_2=>(if y_2.1.1.2.1 then some (0,false) else (z81 y_2.1.1.1).bind fun r_3=>(if (!(decide (r_3=s0))) then some (0,false) else some (y_2.1.1.1,true)))))
def zwf:FE:=⟨.str,2,(.pr U1 .bool),fun x=>zc9 x⟩
theorem zwg:zc Tryz.prog 15 (zwf):=okC zr (xTc zn5 (xTc zf7 xTn)) (xOc 19 zwc xOn) Tryz.f15 (LOn _) xLn (by rintro s0; kernel_rfl)
def zar (n0:Int) (low1:Int) (high2:Int):Option Bool:=(if (decide (low1≤n0)) then some (decide (n0≤high2)) else some false)
def zwh:FE:=⟨(.pr U1 (.pr U1 U1)),1,.bool,fun x=>zar x.1 x.2.1 x.2.2⟩
theorem zn8:zc Tryz.prog 17 (zwh):=okC zr xTn xOn Tryz.f17 (LOn _) xLn (by rintro ⟨n0,low1,high2⟩; kernel_rfl)
def zhv (s0:List UInt8) (sep1:List UInt8):Option zT7:=(z92 s0 sep1).bind fun r_1=>(if (decide (0≤r_1)) then (if 0≤(0:Int)∧(0:Int)≤r_1∧r_1≤s0.length then (if 0≤(z7 (r_1+(List.length sep1:Int)))∧(z7 (r_1+(List.length sep1:Int)))≤(s0.length:Int)∧(s0.length:Int)≤s0.length then some ((s0.take r_1.toNat),((s0.drop ((z7 (r_1+(List.length sep1:Int))).toNat)).take (s0.length-(z7 (r_1+(List.length sep1:Int))).toNat)),true) else none) else none) else some (s0,[],false))
def zwi:FE:=⟨U2,3,(.pr .str (.pr .str .bool)),fun x=>zhv x.1 x.2⟩
theorem zwj:zc Tryz.prog 52 (zwi):=okC zr (xTc zn1 xTn) xOn Tryz.f52 (LOn _) xLn (by rintro ⟨s0,sep1⟩; kernel_rfl)
def zca (s0:List UInt8) (sep1:List UInt8):Option zT7:=(zhv s0 sep1).bind fun r_1=>some (r_1.1,r_1.2.1,r_1.2.2)
def zwk:FE:=⟨U2,3,(.pr .str (.pr .str .bool)),fun x=>zca x.1 x.2⟩
theorem zwl:zc Tryz.prog 36 (zwk):=okC zr (xTc zwj xTn) xOn Tryz.f36 (LOn _) xLn (by rintro ⟨s0,sep1⟩; kernel_rfl)
def z94 (k:Nat):Nat→Int→Int→Int→Int→zT6→(Int→Int→Int→zT6→Option Int)→Option Int
 | 0,_,_,_,_,_,_=>none
 | n+1,sum5,x14,x15,x24,q_4,e_2=>(if (decide (x24<8)) then (if (decide (65535<(z7 (sum5*2 ^ 1)))) then z94 k n (z8s .i64 (zc6 .i64 (z7 (sum5*2 ^ 1)) 65535) 4129) x14 x15 (z7 (x24+1)) q_4 e_2 else z94 k n (z7 (sum5*2 ^ 1)) x14 x15 (z7 (x24+1)) q_4 e_2) else e_2 sum5 x14 x15 q_4)
def z95 (k:Nat):Nat→Int→Int→Int→zT6→(Int→Option Int)→Option Int
 | 0,_,_,_,_,_=>none
 | n+1,sum5,x14,x15,q_2,e_0=>(if (decide (x15<x14)) then (if 0≤x15∧x15.toNat<List.length q_2 then (q_2[x15.toNat]?).bind fun y_3=>z94 k k (z8s .i64 sum5 (z7 ((z7 (y_3))*2 ^ 8))) x14 x15 0 q_2 (fun sum_4 x_5 x_6 q_7=>z95 k n sum_4 x_5 (z7 (x_6+1)) q_7 e_0) else none) else e_0 sum5)
def zcb (k:Nat) (s0:List UInt8) (start1:Int):Option Int:=(zar start1 0 65535).bind fun r_1=>(if (!r_1) then some 0 else (if s0.length≤LIM then z95 k k start1 (List.length (z3v s0):Int) 0 (z3v s0) (fun sum_8=>some sum_8) else none))
def zn9:Head:=⟨[(5,V0),(13,(.ref P0 [])),(14,V0),(15,V0)],[(P0,5,U3,true)],[]⟩
def zna (k:Nat):LD Int:=⟨9,⟨[(5,V0),(13,(.ref P0 [])),(14,V0),(15,V0),(24,V0)],[(P0,5,U3,true)],[]⟩,[(2,zn9)],fun n x kx=>z94 k n x.1.1 x.1.2.2.1 x.1.2.2.2.1 x.1.2.2.2.2.1 x.2.1.1 (fun sum5 x14 x15 q_5=>kx 2 (zn9.fill ((sum5,(),x14,x15,()),(q_5,()),()))),k⟩
def znb:Head:=⟨[(5,V0)],[],[]⟩
def znc (k:Nat):LD Int:=⟨5,⟨[(5,V0),(13,(.ref P0 [])),(14,V0),(15,V0)],[(P0,5,U3,true)],[]⟩,[(0,znb)],fun n x kx=>z95 k n x.1.1 x.1.2.2.1 x.1.2.2.2.1 x.2.1.1 (fun sum5=>kx 0 (znb.fill ((sum5,()),(),()))),k⟩
def zwm (k:Nat):FE:=⟨(.pr .str U1),1,U1,fun x=>zcb k x.1 x.2⟩
theorem znd (k:Nat):zc Tryz.prog 37 (zwm k):=okC zr (xTc zn8 xTn) xOn Tryz.f37 (orc (zna k) (orc (znc k) (LOn _))) (xLo (znc k) (by rintro n ⟨⟨sum5,⟨⟩,x14,x15,⟨⟩⟩,⟨q_2,⟨⟩⟩,⟨⟩⟩ kx; kernel_rfl) (xLo (zna k) (by rintro n ⟨⟨sum5,⟨⟩,x14,x15,x24,⟨⟩⟩,⟨q_4,⟨⟩⟩,⟨⟩⟩ kx; kernel_rfl) xLn)) (by rintro ⟨s0,start1⟩; kernel_rfl)
def strings_Repeat (s:List UInt8) (c:Int):Option zT1:=if 0≤c∧c≤9223372036854775807∧List.length s*c.toNat≤140737488355328 then some (Lib.repeatL s c.toNat) else none
abbrev fe_strings_Repeat:FE:=fe_repeat
theorem zne:zc Tryz.prog 38 fe_strings_Repeat:=zul (fn:=Tryz.f38) (cd:=z2x Tryz.f38) (by kernel_rfl) (by kernel_rfl) (by kernel_rfl) (fun s c w h1 h2=>Go.Proofs.Tryz.strings_Repeat s c w h1 h2)
def z65 (k:Nat):Nat→Int→Int→zT6→(Option Bool)→Option Bool
 | 0,_,_,_,_=>none
 | n+1,x17,x18,q_1,e_0=>(if (decide (x18<x17)) then (if 0≤x18∧x18.toNat<List.length q_1 then (q_1[x18.toNat]?).bind fun y_2=>(if (decide (97≤y_2)) then (if (decide (48≤y_2)) then (if (!(decide (y_2≤122))) then (if (decide (x18=0)) then some false else (if (!(decide (y_2≤57))) then some false else z65 k n x17 (z7 (x18+1)) q_1 e_0)) else z65 k n x17 (z7 (x18+1)) q_1 e_0) else (if (!(decide (y_2≤122))) then (if (decide (x18=0)) then some false else some false) else z65 k n x17 (z7 (x18+1)) q_1 e_0)) else (if (decide (48≤y_2)) then (if (decide (x18=0)) then some false else (if (!(decide (y_2≤57))) then some false else z65 k n x17 (z7 (x18+1)) q_1 e_0)) else (if (decide (x18=0)) then some false else some false))) else none) else e_0)
def zcc (k:Nat) (s0:List UInt8):Option Bool:=(if (decide ((List.length s0:Int)<1)) then some false else (if (decide (10<(List.length s0:Int))) then some false else (if s0.length≤LIM then z65 k k (List.length (z3v s0):Int) 0 (z3v s0) (some true) else none)))
def znf:Head:=⟨[],[],[]⟩
def zng (k:Nat):LD Bool:=⟨4,⟨[(16,(.ref P0 [])),(17,V0),(18,V0)],[(P0,5,U3,true)],[]⟩,[(0,znf)],fun n x kx=>z65 k n x.1.2.1 x.1.2.2.1 x.2.1.1 (kx 0 (znf.fill ((),(),()))),k⟩
def zwn (k:Nat):FE:=⟨.str,1,.bool,fun x=>zcc k x⟩
theorem zwo (k:Nat):zc Tryz.prog 59 (zwn k):=okC zr xTn xOn Tryz.f59 (orc (zng k) (LOn _)) (xLo (zng k) (by rintro n ⟨⟨⟨⟩,x17,x18,⟨⟩⟩,⟨q_1,⟨⟩⟩,⟨⟩⟩ kx; kernel_rfl) xLn) (by rintro s0; kernel_rfl)
def zf8 (s0:List UInt8) (substr1:List UInt8):Option Bool:=(z7y s0 substr1).bind fun r_1=>some (decide (0≤r_1))
def zwp:FE:=⟨U2,1,.bool,fun x=>zf8 x.1 x.2⟩
theorem zwq:zc Tryz.prog 60 (zwp):=okC zr (xTc zhs xTn) xOn Tryz.f60 (LOn _) xLn (by rintro ⟨s0,substr1⟩; kernel_rfl)
def zf9 (k:Nat) (b0:List UInt8×List UInt8×List UInt8):Option Bool:=(zcc k b0.1).bind fun r_1=>(if r_1 then (zcc k b0.2.1).bind fun r_2=>(if r_2 then (if (decide ((List.length b0.2.2:Int)≤400)) then (zf8 b0.2.2 [10]).bind fun r_3=>some (!r_3) else some false) else some false) else some false)
def zwr (k:Nat):FE:=⟨U0,1,.bool,fun x=>zf9 k x⟩
theorem zws (k:Nat):zc Tryz.prog 39 (zwr k):=okC zr (xTc (zwo k) (xTc zwq xTn)) xOn Tryz.f39 (LOn _) xLn (by rintro b0; kernel_rfl)
def zfa (k:Nat) (b0:List UInt8×List UInt8×List UInt8):Option zT1:=(if b0.1.length+[32].length≤9223372036854775807 then (if (b0.1++[32]).length+b0.2.1.length≤9223372036854775807 then (if ((b0.1++[32])++b0.2.1).length+[32].length≤9223372036854775807 then (if (((b0.1++[32])++b0.2.1)++[32]).length+b0.2.2.length≤9223372036854775807 then (zcb k ((((b0.1++[32])++b0.2.1)++[32])++b0.2.2) 65535).bind fun r_1=>(z81 r_1).bind fun r_2=>(strings_Repeat [48] (z7 (5-(List.length r_2:Int)))).bind fun r_3=>(if r_3.length+r_2.length≤9223372036854775807 then (if (r_3++r_2).length+[32].length≤9223372036854775807 then (if ((r_3++r_2)++[32]).length+((((b0.1++[32])++b0.2.1)++[32])++b0.2.2).length≤9223372036854775807 then some (((r_3++r_2)++[32])++((((b0.1++[32])++b0.2.1)++[32])++b0.2.2)) else none) else none) else none) else none) else none) else none) else none)
def zwt (k:Nat):FE:=⟨U0,1,.str,fun x=>zfa k x⟩
theorem zwu (k:Nat):zc Tryz.prog 40 (zwt k):=okC zr (xTc (znd k) (xTc zf7 (xTc zne xTn))) xOn Tryz.f40 (LOn _) xLn (by rintro b0; kernel_rfl)
def zfb (k:Nat) (line0:List UInt8):Option zT5:=(if (decide ((List.length line0:Int)<6)) then some (([],([],[])),9) else (line0[5]?).bind fun b_1=>(if (!(decide ((z_u8 b_1)=32))) then some (([],([],[])),9) else (if 0≤(6:Int)∧(6:Int)≤(line0.length:Int)∧(line0.length:Int)≤line0.length then (zca ((line0.drop 6).take (line0.length-6)) [32]).bind fun r_2=>(zca r_2.2.1 [32]).bind fun r_3=>(if 0≤(6:Int)∧(6:Int)≤(line0.length:Int)∧(line0.length:Int)≤line0.length then (zcb k ((line0.drop 6).take (line0.length-6)) 65535).bind fun r_4=>(z81 r_4).bind fun r_5=>(if 0≤(0:Int)∧(0:Int)≤5∧(5:Int)≤line0.length then (strings_Repeat [48] (z7 (5-(List.length r_5:Int)))).bind fun r_6=>(if r_6.length+r_5.length≤9223372036854775807 then (if (!(decide ((line0.take 5)=(r_6++r_5)))) then some (([],([],[])),10) else (zf9 k (r_2.1,(r_3.1,r_3.2.1))).bind fun r_7=>(if (!r_7) then some (([],([],[])),9) else (zfa k (r_2.1,(r_3.1,r_3.2.1))).bind fun r_8=>(if (!(decide (r_8=line0))) then some (([],([],[])),9) else some ((r_2.1,(r_3.1,r_3.2.1)),0)))) else none) else none) else none) else none)))
def zwv (k:Nat):FE:=⟨.str,2,(.pr U0 U1),fun x=>zfb k x⟩
theorem zww (k:Nat):zc Tryz.prog 19 (zwv k):=okC zr (xTc zwl (xTc (znd k) (xTc zf7 (xTc zne (xTc (zws k) (xTc (zwu k) xTn)))))) xOn Tryz.f19 (LOn _) xLn (by rintro line0; kernel_rfl)
def zfc (x0:List UInt8):Option Bool:=some (!(decide (x0=x0)))
def zwx:FE:=⟨.str,1,.bool,fun x=>zfc x⟩
theorem zwy:zc Tryz.prog 61 (zwx):=okC zr xTn xOn Tryz.f61 (LOn _) xLn (by rintro x0; kernel_rfl)
def zcd (x0:List UInt8) (y1:List UInt8):Option Int:=(zfc x0).bind fun r_1=>(zfc y1).bind fun r_2=>(if r_1 then (if r_2 then some 0 else some (-1)) else (if r_2 then some 1 else (if (Op.bytesLess x0 y1) then some (-1) else (if (!(Op.bytesLess x0 y1||decide (x0=y1))) then some 1 else some 0))))
def zwz:FE:=⟨U2,1,U1,fun x=>zcd x.1 x.2⟩
theorem zx0:zc Tryz.prog 42 (zwz):=okC zr (xTc zwy xTn) xOn Tryz.f42 (LOn _) xLn (by rintro ⟨x0,y1⟩; kernel_rfl)
def z96 (k:Nat):Nat→Int→zT6→Int→Int→(Int→Option Int)→Option Int
 | 0,_,_,_,_,_=>none
 | n+1,zero3,x6,x7,x8,e_0=>(if (decide (x8<x7)) then (if 0≤x8 then (x6[x8.toNat]?).bind fun y_1=>(if (!(decide (y_1=zero3))) then some y_1 else z96 k n zero3 x6 x7 (z7 (x8+1)) e_0) else none) else e_0 zero3)
def zhw (k:Nat) (vals0:List Int):Option Int:=z96 k k 0 vals0 (List.length vals0:Int) 0 (fun zero_2=>some zero_2)
def znh:Head:=⟨[(3,V0)],[],[]⟩
def zni (k:Nat):LD Int:=⟨3,⟨[(3,V0),(6,(.val (.sl 3 U1))),(7,V0),(8,V0)],[],[]⟩,[(0,znh)],fun n x kx=>z96 k n x.1.1 x.1.2.1 x.1.2.2.1 x.1.2.2.2.1 (fun zero3=>kx 0 (znh.fill ((zero3,()),(),()))),k⟩
def zx1 (k:Nat):FE:=⟨(.sl 3 U1),1,U1,fun x=>zhw k x⟩
theorem zx2 (k:Nat):zc Tryz.prog 41 (zx1 k):=okC zr xTn xOn Tryz.f41 (orc (zni k) (LOn _)) (xLo (zni k) (by rintro n ⟨⟨zero3,x6,x7,x8,⟨⟩⟩,⟨⟩,⟨⟩⟩ kx; kernel_rfl) xLn) (by rintro vals0; kernel_rfl)
def zfd (k:Nat) (a0:List UInt8×List UInt8×List UInt8) (b1:List UInt8×List UInt8×List UInt8):Option Int:=(zcd a0.1 b1.1).bind fun r_1=>(zcd a0.2.1 b1.2.1).bind fun r_2=>(zhw k [r_1,r_2]).bind fun r_3=>some r_3
def zx3 (k:Nat):FE:=⟨(.pr U0 U0),1,U1,fun x=>zfd k x.1 x.2⟩
theorem zx4 (k:Nat):zc Tryz.prog 20 (zx3 k):=okC zr (xTc zx0 (xTc (zx2 k) xTn)) xOn Tryz.f20 (LOn _) xLn (by rintro ⟨a0,b1⟩; kernel_rfl)
def zce (list0:List zT0):Option Int:=some (List.length list0:Int)
def zx5:FE:=⟨U4,1,U1,fun x=>zce x⟩
theorem zx6:zc Tryz.prog 21 (zx5):=okC zr xTn xOn Tryz.f21 (LOn _) xLn (by rintro list0; kernel_rfl)
def z6x (k:Nat):Nat→Int→Nat→Nat→Int→Int→(List zT0)→zT4→(Int→(List zT0)→Option zT3)→Option zT3
 | 0,_,_,_,_,_,_,_,_=>none
 | n+1,count6,x43l,x43n,x44,x45,q_9,q_10,e_0=>(if (decide (x45<x44)) then (if 0≤x45∧x45.toNat<x43n then (q_10[(x43l+x45.toNat)]?).bind fun y_11=>(zfb k y_11).bind fun r_12=>(if (decide (r_12.2=0)) then (if (decide (0<x45)) then (if 0≤(z7 (x45-1))∧(z7 (x45-1)).toNat<List.length q_9 then (q_9[(z7 (x45-1)).toNat]?).bind fun y_13=>(zfd k y_13 r_12.1).bind fun r_14=>(if (decide (0≤r_14)) then some ([],(z7 (x45+2)),7) else (if (!(decide (r_12.2=0))) then some ([],(z7 (x45+2)),r_12.2) else (if (q_9.length+[r_12.1].length)*48≤LIM then z6x k n count6 x43l x43n x44 (z7 (x45+1)) (q_9++[r_12.1]) q_10 e_0 else none))) else none) else (if (!(decide (r_12.2=0))) then some ([],(z7 (x45+2)),r_12.2) else (if (q_9.length+[r_12.1].length)*48≤LIM then z6x k n count6 x43l x43n x44 (z7 (x45+1)) (q_9++[r_12.1]) q_10 e_0 else none))) else (if (!(decide (r_12.2=0))) then some ([],(z7 (x45+2)),r_12.2) else (if (q_9.length+[r_12.1].length)*48≤LIM then z6x k n count6 x43l x43n x44 (z7 (x45+1)) (q_9++[r_12.1]) q_10 e_0 else none))) else none) else e_0 count6 q_9)
def zcf (k:Nat) (s0:List UInt8):Option zT3:=(zaq s0 [10]).bind fun r_1=>(if (!r_1) then some ([],0,11) else (zf4 k s0).bind fun r_2=>(if 0≤(0:Int)∧0<List.length r_2 then (r_2[0]?).bind fun y_3=>(z7z y_3 [97,114,99,104,105,118,101,32]).bind fun r_4=>(zc9 r_4).bind fun r_5=>(if (!r_5.2) then some ([],1,9) else (zar r_5.1 0 32).bind fun r_6=>(if (!r_6) then some ([],1,9) else (if 0≤(0:Int)∧0<List.length r_2 then (r_2[0]?).bind fun y_7=>(z81 r_5.1).bind fun r_8=>(if [97,114,99,104,105,118,101,32].length+r_8.length≤9223372036854775807 then (if (!(decide (y_7=([97,114,99,104,105,118,101,32]++r_8)))) then some ([],1,9) else (if 0≤(1:Int)∧(1:Int)≤(r_2.length:Int)∧(r_2.length:Int)≤r_2.length then z6x k k r_5.1 1 (r_2.length-1) (List.length ((r_2.drop 1).take (r_2.length-1)):Int) 0 [] r_2 (fun count_15 q_16=>(zce q_16).bind fun r_17=>(if (!(decide (r_17=count_15))) then some ([],0,11) else some (q_16,0,0))) else none)) else none) else none))) else none))
def znj:Head:=⟨[(6,V0),(8,(.ref P0 []))],[(P0,34,U0,false)],[]⟩
def znk (k:Nat):LD zT3:=⟨9,⟨[(6,V0),(8,(.ref P0 [])),(43,(.vw P1)),(44,V0),(45,V0)],[(P0,34,U0,false),(P1,9,.str,false)],[]⟩,[(0,znj)],fun n x kx=>z6x k n x.1.1 x.1.2.2.1.1 x.1.2.2.1.2 x.1.2.2.2.1 x.1.2.2.2.2.1 x.2.1.1 x.2.1.2.1 (fun count6 q_15=>kx 0 (znj.fill ((count6,(),()),(q_15,()),()))),k⟩
def zx7 (k:Nat):FE:=⟨.str,3,(.pr U4 (.pr U1 U1)),fun x=>zcf k x⟩
theorem zx8 (k:Nat):zc Tryz.prog 5 (zx7 k):=okC zr (xTc zvo (xTc (zw6 k) (xTc zn5 (xTc zwg (xTc zn8 (xTc zf7 (xTc (zww k) (xTc (zx4 k) (xTc zx6 xTn))))))))) xOn Tryz.f5 (orc (znk k) (LOn _)) (xLo (znk k) (by rintro n ⟨⟨count6,⟨⟩,⟨x43l,x43n⟩,x44,x45,⟨⟩⟩,⟨q_9,q_10,⟨⟩⟩,⟨⟩⟩ kx; kernel_rfl) xLn) (by rintro s0; kernel_rfl)
def zhx (a0:List UInt8×List UInt8×List UInt8) (b1:List UInt8×List UInt8×List UInt8):Option Bool:=(if (!(decide (a0.1=b1.1))) then some false else (if (!(decide (a0.2.1=b1.2.1))) then some false else (if (!(decide (a0.2.2=b1.2.2))) then some false else some true)))
def zx9:FE:=⟨(.pr U0 U0),1,.bool,fun x=>zhx x.1 x.2⟩
theorem zxa:zc Tryz.prog 22 (zx9):=okC zr xTn xOn Tryz.f22 (LOn _) xLn (by rintro ⟨a0,b1⟩; kernel_rfl)
def zas (k:Nat):Nat→(List zT0)→(List zT0)→Int→(Option Bool)→Option Bool
 | 0,_,_,_,_=>none
 | n+1,a0,b1,i5,e_0=>(if (decide (i5<(List.length a0:Int))) then (if 0≤i5 then (a0[i5.toNat]?).bind fun y_1=>(if 0≤i5 then (b1[i5.toNat]?).bind fun y_2=>(zhx y_1 y_2).bind fun r_3=>(if (!r_3) then some false else zas k n a0 b1 (z7 (i5+1)) e_0) else none) else none) else e_0)
def zcg (k:Nat) (a0:List zT0) (b1:List zT0):Option Bool:=(if (!(decide ((List.length a0:Int)=(List.length b1:Int)))) then some false else zas k k a0 b1 0 (some true))
def znl:Head:=⟨[],[],[]⟩
def znm (k:Nat):LD Bool:=⟨4,⟨[(0,(.val U4)),(1,(.val U4)),(5,V0)],[],[]⟩,[(0,znl)],fun n x kx=>zas k n x.1.1 x.1.2.1 x.1.2.2.1 (kx 0 (znl.fill ((),(),()))),k⟩
def zxb (k:Nat):FE:=⟨(.pr U4 U4),1,.bool,fun x=>zcg k x.1 x.2⟩
theorem zxc (k:Nat):zc Tryz.prog 6 (zxb k):=okC zr (xTc zxa xTn) xOn Tryz.f6 (orc (znm k) (LOn _)) (xLo (znm k) (by rintro n ⟨⟨a0,b1,i5,⟨⟩⟩,⟨⟩,⟨⟩⟩ kx; kernel_rfl) xLn) (by rintro ⟨a0,b1⟩; kernel_rfl)
def z97 (k:Nat):Nat→Int→zT1→(zT1→Option zT1)→Option zT1
 | 0,_,_,_=>none
 | n+1,k0,out3,e_0=>(if (decide (0<k0)) then (if (z6v [(z44 ((z7 (48+(Int.tmod k0 10)))))]).length+out3.length≤9223372036854775807 then z97 k n (z7 (Int.tdiv k0 10)) ((z6v [(z44 ((z7 (48+(Int.tmod k0 10)))))])++out3) e_0 else none) else e_0 out3)
def z4x (k:Nat) (k0:Int):Option zT1:=(if (decide (k0≤0)) then some [109,48] else z97 k k k0 [] (fun out_1=>(if [109].length+out_1.length≤9223372036854775807 then some ([109]++out_1) else none)))
def znn:Head:=⟨[(3,V1)],[],[]⟩
def zno (k:Nat):LD zT1:=⟨4,⟨[(0,V0),(3,V1)],[],[]⟩,[(0,znn)],fun n x kx=>z97 k n x.1.1 x.1.2.1 (fun out3=>kx 0 (znn.fill ((out3,()),(),()))),k⟩
def zxd (k:Nat):FE:=⟨U1,1,.str,fun x=>z4x k x⟩
theorem znp (k:Nat):zc Tryz.prog 23 (zxd k):=okC zr xTn xOn Tryz.f23 (orc (zno k) (LOn _)) (xLo (zno k) (by rintro n ⟨⟨k0,out3,⟨⟩⟩,⟨⟩,⟨⟩⟩ kx; kernel_rfl) xLn) (by rintro k0; kernel_rfl)
def zat (k:Nat):Nat→Int→Int→(List zT0)→(Int→(List zT0)→Option zT2)→Option zT2
 | 0,_,_,_,_=>none
 | n+1,k1,i5,q_2,e_0=>(if (decide (i5<(List.length q_2:Int))) then (z4x k k1).bind fun r_3=>(if 0≤i5∧i5.toNat<List.length q_2 then (q_2[i5.toNat]?).bind fun y_4=>(q_2[i5.toNat]?).bind fun y_5=>(z4x k (z7 (k1+1))).bind fun r_6=>(if 0≤i5∧i5.toNat<List.length (q_2.set i5.toNat (r_3,y_4.2)) then ((q_2.set i5.toNat (r_3,y_4.2))[i5.toNat]?).bind fun y_7=>((q_2.set i5.toNat (r_3,y_4.2))[i5.toNat]?).bind fun y_8=>(z4x k (z7 ((z7 (k1+1))+1))).bind fun r_9=>(if 0≤i5∧i5.toNat<List.length ((q_2.set i5.toNat (r_3,y_4.2)).set i5.toNat (y_7.1,(r_6,y_7.2.2))) then (((q_2.set i5.toNat (r_3,y_4.2)).set i5.toNat (y_7.1,(r_6,y_7.2.2)))[i5.toNat]?).bind fun y_10=>(((q_2.set i5.toNat (r_3,y_4.2)).set i5.toNat (y_7.1,(r_6,y_7.2.2)))[i5.toNat]?).bind fun y_11=>zat k n (z7 ((z7 ((z7 (k1+1))+1))+1)) (z7 (i5+1)) (((q_2.set i5.toNat (r_3,y_4.2)).set i5.toNat (y_7.1,(r_6,y_7.2.2))).set i5.toNat (y_10.1,(y_10.2.1,r_9))) e_0 else none) else none) else none) else e_0 k1 q_2)
def zfe (k:Nat) (k1:Int) (q_1:List zT0):Option zT2:=zat k k k1 0 q_1 (fun k_12 q_13=>some ((k_12,()),(q_13,()),()))
def znq:Head:=⟨[(1,V0)],[(1000000000,34,U0,false)],[]⟩
def znr (k:Nat):LD zT2:=⟨2,⟨[(0,(.ref 1000000000 [])),(1,V0),(5,V0)],[(1000000000,34,U0,false)],[]⟩,[(0,znq)],fun n x kx=>zat k n x.1.2.1 x.1.2.2.1 x.2.1.1 (fun k1 q_12=>kx 0 (znq.fill ((k1,()),(q_12,()),()))),k⟩
def zxe (k:Nat):OC:=⟨⟨[(0,(.ref 1000000000 [])),(1,V0)],[(1000000000,34,U0,false)],[]⟩,⟨[(0,V0)],[(1000000000,34,U0,false)],[]⟩,fun x=>zfe k x.1.2.1 x.2.1.1,false⟩
theorem zxf (k:Nat):z22 Tryz.prog ti 7 (zxe k):=okO zr (xTc (znp k) xTn) xOn Tryz.f7 (orc (znr k) (LOn _)) (fun _ _=>xLo (znr k) (by rintro n ⟨⟨⟨⟩,k1,i5,⟨⟩⟩,⟨q_2,⟨⟩⟩,⟨⟩⟩ kx; kernel_rfl) xLn) (by rintro _ _ ⟨⟨⟨⟩,k1,⟨⟩⟩,⟨q_1,⟨⟩⟩,⟨⟩⟩; kernel_rfl)
def zau (k:Nat):Nat→(List zT0)→Int→Int→(Int→Option Int)→Option Int
 | 0,_,_,_,_=>none
 | n+1,a0,k1,i5,e_0=>(if (decide (i5<(List.length a0:Int))) then (if 0≤i5 then (a0[i5.toNat]?).bind fun y_1=>(z4x k k1).bind fun r_2=>(if (!(decide (y_1.1=r_2))) then some (-1) else (if 0≤i5 then (a0[i5.toNat]?).bind fun y_3=>(z4x k (z7 (k1+1))).bind fun r_4=>(if (!(decide (y_3.2.1=r_4))) then some (-1) else (if 0≤i5 then (a0[i5.toNat]?).bind fun y_5=>(z4x k (z7 ((z7 (k1+1))+1))).bind fun r_6=>(if (!(decide (y_5.2.2=r_6))) then some (-1) else zau k n a0 (z7 ((z7 ((z7 (k1+1))+1))+1)) (z7 (i5+1)) e_0) else none)) else none)) else none) else e_0 k1)
def zch (k:Nat) (a0:List zT0) (k1:Int):Option Int:=zau k k a0 k1 0 (fun k_7=>some k_7)
def zns:Head:=⟨[(1,V0)],[],[]⟩
def znt (k:Nat):LD Int:=⟨2,⟨[(0,(.val U4)),(1,V0),(5,V0)],[],[]⟩,[(0,zns)],fun n x kx=>zau k n x.1.1 x.1.2.1 x.1.2.2.1 (fun k1=>kx 0 (zns.fill ((k1,()),(),()))),k⟩
def zxg (k:Nat):FE:=⟨(.pr U4 U1),1,U1,fun x=>zch k x.1 x.2⟩
theorem zxh (k:Nat):zc Tryz.prog 8 (zxg k):=okC zr (xTc (znp k) xTn) xOn Tryz.f8 (orc (znt k) (LOn _)) (xLo (znt k) (by rintro n ⟨⟨a0,k1,i5,⟨⟩⟩,⟨⟩,⟨⟩⟩ kx; kernel_rfl) xLn) (by rintro ⟨a0,k1⟩; kernel_rfl)
def zff (k:Nat) (aS0:List UInt8):Option Bool:=(if (decide (1048576<(List.length aS0:Int))) then some true else (zez k aS0).bind fun r_1=>(zcf k aS0).bind fun r_2=>(zcg k r_2.1 r_1.1).bind fun r_3=>(if (!r_3) then some false else (if (!(decide (r_2.2.1=r_1.2.1))) then some false else (if (!(decide (r_2.2.2=r_1.2.2))) then some false else (zfe k 1 r_2.1).bind fun y_4=>(zch k y_4.2.1.1 1).bind fun r_5=>(if (decide (r_5<0)) then some false else (if (!(decide (r_5=y_4.1.1))) then some false else (zcf k aS0).bind fun r_6=>(zcg k r_6.1 r_1.1).bind fun r_7=>(if (!r_7) then some false else (if (!(decide (r_6.2.1=r_1.2.1))) then some false else (if (!(decide (r_6.2.2=r_1.2.2))) then some false else (zch k y_4.2.1.1 1).bind fun r_8=>(if (decide (r_8<0)) then some false else (if (!(decide (r_8=y_4.1.1))) then some false else some true)))))))))))
def zxi (k:Nat):FE:=⟨.str,1,.bool,fun x=>zff k x⟩
theorem zxj (k:Nat):zc Tryz.prog 3 (zxi k):=okC zr (xTc (zvl k) (xTc (zx8 k) (xTc (zxc k) (xTc (zxh k) xTn)))) (xOc 45 (zxf k) xOn) Tryz.f3 (LOn _) xLn (by rintro aS0; kernel_rfl)
end
end Go.Proofs.YteiflkhpafhhkaaGreatDoor.Ev
