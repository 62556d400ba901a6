/- Functions of the program, as plain ones. No conditions. -/
import Derived.Test.YtbipmejjnalmiaaDoorG2
import Derived.KernelRfl
set_option linter.unusedVariables false
set_option maxRecDepth 100000
namespace Go.Proofs.YtbipmejjnalmiaaDoor.Ev
open Go.RowKit
noncomputable section
def zb3 (k:Nat):Nat→zT3→Int→Int→(Int→Option Int)→Option Int
 | 0,_,_,_,_=>none
 | n+1,a0,k1,i5,e_0=>(if (decide (i5<(List.length a0:Int))) then (if 0≤i5 then (a0[i5.toNat]?).bind fun y_1=>(z6w k k1).bind fun r_2=>(if (!(decide (y_1=r_2))) then some (-1) else zb3 k n a0 (za (k1+1)) (za (i5+1)) e_0) else none) else e_0 k1)
def zfv (k:Nat) (a0:List zT1) (k1:Int):Option Int:=zb3 k k a0 k1 0 (fun k_3=>some k_3)
def zom:Head:=⟨[(1,V0)],[],[]⟩
def zon (k:Nat):LD Int:=⟨2,⟨[(0,V3),(1,V0),(5,V0)],[],[]⟩,[(0,zom)],fun n x kx=>zb3 k n x.1.1 x.1.2.1 x.1.2.2.1 (fun k1=>kx 0 (zom.fill ((k1,()),(),()))),k⟩
def zyh (k:Nat):FE:=⟨(.pr U2 U1),1,U1,fun x=>zfv k x.1 x.2⟩
theorem zyi (k:Nat):zc Tryd.prog 18 (zyh k):=okC zu (xTc (zfs k) xTn) xOn Tryd.f18 (orc (zon k) (LOn _)) (xLo (zon k) (by rintro n ⟨⟨a0,k1,i5,⟨⟩⟩,⟨⟩,⟨⟩⟩ kx; kernel_rfl) xLn) (by rintro ⟨a0,k1⟩; kernel_rfl)
def zb4 (k:Nat):Nat→zT4→Int→Int→(Int→Option Int)→Option Int
 | 0,_,_,_,_=>none
 | n+1,a0,k1,i5,e_0=>(if (decide (i5<(List.length a0:Int))) then (if 0≤i5 then (a0[i5.toNat]?).bind fun y_1=>(z6w k k1).bind fun r_2=>(if (!(decide (y_1.1=r_2))) then some (-1) else (if 0≤i5 then (a0[i5.toNat]?).bind fun y_3=>(zfv k y_3.2.1 (za (k1+1))).bind fun r_4=>(if (decide (r_4<0)) then some (-1) else (if 0≤i5 then (a0[i5.toNat]?).bind fun y_5=>(if (!(decide (y_5.2.2.1=r_4))) then some (-1) else (if 0≤i5 then (a0[i5.toNat]?).bind fun y_6=>(if (!(decide (y_6.2.2.2=(za (r_4+1))))) then some (-1) else zb4 k n a0 (za ((za (r_4+1))+1)) (za (i5+1)) e_0) else none)) else none)) else none)) else none) else e_0 k1)
def zcy (k:Nat) (a0:List zT0) (k1:Int):Option Int:=zb4 k k a0 k1 0 (fun k_7=>some k_7)
def zoo:Head:=⟨[(1,V0)],[],[]⟩
def zop (k:Nat):LD Int:=⟨2,⟨[(0,V1),(1,V0),(5,V0)],[],[]⟩,[(0,zoo)],fun n x kx=>zb4 k n x.1.1 x.1.2.1 x.1.2.2.1 (fun k1=>kx 0 (zoo.fill ((k1,()),(),()))),k⟩
def zyj (k:Nat):FE:=⟨(.pr U3 U1),1,U1,fun x=>zcy k x.1 x.2⟩
theorem zyk (k:Nat):zc Tryd.prog 8 (zyj k):=okC zu (xTc (zfs k) (xTc (zyi k) xTn)) xOn Tryd.f8 (orc (zop k) (LOn _)) (xLo (zop k) (by rintro n ⟨⟨a0,k1,i5,⟨⟩⟩,⟨⟩,⟨⟩⟩ kx; kernel_rfl) xLn) (by rintro ⟨a0,k1⟩; kernel_rfl)
def zfw (k:Nat) (aS0:List UInt8):Option Bool:=(if (decide (1048576<(List.length aS0:Int))) then some true else (zfh k aS0).bind fun r_1=>(zcw k aS0).bind fun r_2=>(zcx k r_2.1 r_1.1).bind fun r_3=>(if (!r_3) then some false else (if (!(r_2.2==r_1.2)) then some false else (zfu k 1 r_2.1).bind fun y_4=>(zcy k y_4.2.1.1 1).bind fun r_5=>(if (decide (r_5<0)) then some false else (if (!(decide (r_5=y_4.1.1))) then some false else (zcw k aS0).bind fun r_6=>(zcx k r_6.1 r_1.1).bind fun r_7=>(if (!r_7) then some false else (if (!(r_6.2==r_1.2)) then some false else (zcy k y_4.2.1.1 1).bind fun r_8=>(if (decide (r_8<0)) then some false else (if (!(decide (r_8=y_4.1.1))) then some false else some true)))))))))
def zyl (k:Nat):FE:=⟨.str,1,.bool,fun x=>zfw k x⟩
theorem zym (k:Nat):zc Tryd.prog 3 (zyl k):=okC zu (xTc (zwj k) (xTc (zy5 k) (xTc (zyb k) (xTc (zyk k) xTn)))) (xOc 35 (zyg k) xOn) Tryd.f3 (LOn _) xLn (by rintro aS0; kernel_rfl)
end
end Go.Proofs.YtbipmejjnalmiaaDoor.Ev
