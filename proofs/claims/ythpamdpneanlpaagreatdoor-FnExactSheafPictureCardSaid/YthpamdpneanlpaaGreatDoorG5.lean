/- Functions of the program, as plain ones. No conditions. -/
import Derived.Test.YthpamdpneanlpaaGreatDoorG4
import Derived.KernelRfl
set_option linter.unusedVariables false
set_option maxRecDepth 100000
namespace Go.Proofs.YthpamdpneanlpaaGreatDoor.Ev
open Go.RowKit
noncomputable section
def z6n_ (k:Nat):Nat→zT4→Int→Int→(zT4→Int→Option zT4)→Option zT4
 | 0,_,_,_,_=>none
 | n+1,lines0,most3,i4,e_0=>(if (decide (i4<(List.length lines0:Int)))=true then (if 0≤i4 then (lines0[i4.toNat]?).bind fun y_1=>(if (decide (most3<(List.length y_1:Int)))=true then (if 0≤i4 then (lines0[i4.toNat]?).bind fun y_2=>z6n_ k n lines0 (List.length y_2:Int) (z0_ (i4+1)) e_0 else none) else z6n_ k n lines0 most3 (z0_ (i4+1)) e_0) else none) else e_0 lines0 most3)
def zap_ (k:Nat):Nat→zT4→Int→Int→zT4→(zT4→Option zT4)→Option zT4
 | 0,_,_,_,_,_=>none
 | n+1,lines0,most3,i6,q_5,e_2=>(if (decide (i6<(List.length lines0:Int)))=true then (if 0≤i6 then (lines0[i6.toNat]?).bind fun y_6=>(if 0≤i6 then (lines0[i6.toNat]?).bind fun y_7=>(zhb_ k [32] (z0_ (most3-(List.length y_7:Int)))).bind fun r_8=>(if y_6.length+r_8.length≤9223372036854775807 then (if (q_5.length+[(y_6++r_8)].length)*16≤LIM then zap_ k n lines0 most3 (z0_ (i6+1)) (q_5++[(y_6++r_8)]) e_2 else none) else none) else none) else none) else e_2 q_5)
def zd3_ (k:Nat) (lines0:List (List UInt8)):Option zT4:=z6n_ k k lines0 0 0 (fun lines_3 most_4=>zap_ k k lines_3 most_4 0 [] (fun q_9=>some q_9))
def zhd_:Head:=⟨[(0,(.val (.sl 9 .str))),(3,(.val (.int .i64))),(4,(.val (.int .i64)))],[],[]⟩
def zw5_:Head:=⟨[(0,(.val (.sl 9 .str))),(3,(.val (.int .i64)))],[],[]⟩
def znk_ (k:Nat) (n:Nat) (x:zhd_.T) (kx:Nat→St→Option zT4):Option zT4:=z6n_ k n x.1.1 x.1.2.1 x.1.2.2.1 (fun (lines0:List (List UInt8)) (most3:Int)=>kx 0 (zw5_.fill ((lines0,most3,()),(),())))
def zhe_:Head:=⟨[(0,(.val (.sl 9 .str))),(3,(.val (.int .i64))),(5,(.ref 64000000 [])),(6,(.val (.int .i64)))],[(64000000,9,.str,false)],[]⟩
def zw6_:Head:=⟨[(5,(.ref 64000000 []))],[(64000000,9,.str,false)],[]⟩
def znl_ (k:Nat) (n:Nat) (x:zhe_.T) (kx:Nat→St→Option zT4):Option zT4:=zap_ k n x.1.1 x.1.2.1 x.1.2.2.2.1 x.2.1.1 (fun (q_9:List (List UInt8))=>kx 2 (zw6_.fill (((),()),(q_9,()),())))
def znm_ (k:Nat):Oracles zT4:=⟨fun n=>bif Nat.beq n 3 then some (fun σ kx=>zhd_.get σ fun x=>znk_ k k x kx) else bif Nat.beq n 9 then some (fun σ kx=>zhe_.get σ fun x=>znl_ k k x kx) else none,fun _=>none⟩
def z6o_ (k:Nat):FE:=⟨(.sl 9 .str),1,(.sl 9 .str),fun x=>zd3_ k x⟩
theorem z189_ (k:Nat):zd_ (z4_ ti [(51,zao_ k)] (lk []) z5_ z6_) (znm_ k) (rdC (z4_ ti [(51,zao_ k)] (lk []) z5_ z6_) [.tmp 2] (.sl 9 .str)) ((zb_ (z2_ Tryz.f22)).getD 0 .skip) (fun σ kx=>zhd_.get σ fun x=>znk_ k k x kx):=by
 refine ⟨zhd_,[(0,zw5_)],fun n x kx=>znk_ k n x kx,k,by kernel_rfl,by kernel_rfl,fun x kx=>by kernel_rfl,?_,fun σ kx=>rfl⟩
 rintro n ⟨⟨lines0,most3,i4,⟨⟩⟩,⟨⟩,⟨⟩⟩ kx
 kernel_rfl
theorem z18a_ (k:Nat):zd_ (z4_ ti [(51,zao_ k)] (lk []) z5_ z6_) (znm_ k) (rdC (z4_ ti [(51,zao_ k)] (lk []) z5_ z6_) [.tmp 2] (.sl 9 .str)) ((zb_ (z2_ Tryz.f22)).getD 1 .skip) (fun σ kx=>zhe_.get σ fun x=>znl_ k k x kx):=by
 refine ⟨zhe_,[(2,zw6_)],fun n x kx=>znl_ k n x kx,k,by kernel_rfl,by kernel_rfl,fun x kx=>by kernel_rfl,?_,fun σ kx=>rfl⟩
 rintro n ⟨⟨lines0,most3,⟨⟩,i6,⟨⟩⟩,⟨q_5,⟨⟩⟩,⟨⟩⟩ kx
 kernel_rfl
theorem z18b_ (k:Nat):FnOK Tryz.prog 22 (z6o_ k):=by
 refine za_ (tab:=[(51,zao_ k)]) (l:=[]) z8_ z9_ mix (List.forall_mem_cons.2 ⟨z188_ k,(List.forall_mem_nil _)⟩) (List.forall_mem_nil _) ⟨⟨Tryz.f22,(z2_ Tryz.f22),[.tmp 2],(znm_ k),by kernel_rfl,by kernel_rfl,by kernel_rfl,by kernel_rfl,rfl,by decide,⟨by kernel_rfl,?_,?_⟩,?_⟩⟩
 ·refine zi_ (n:=2) (by kernel_rfl) fun i hi=>?_
  match i,hi with
  | 0,_=>exact ze_ (by kernel_rfl) (z189_ k)
  | 1,_=>exact ze_ (by kernel_rfl) (z18a_ k)
  | n+2,hi=>omega
 ·exact z7_ (by kernel_rfl)
 ·rintro lines0
  kernel_rfl
def zaq_ (k:Nat):Nat→zT4→Int→Int→(zT4→Int→Option Bool)→Option Bool
 | 0,_,_,_,_=>none
 | n+1,lines0,i3,k4,e_2=>(if 0≤i3 then (lines0[i3.toNat]?).bind fun y_4=>(if (decide (k4<(List.length y_4:Int)))=true then (if 0≤i3 then (lines0[i3.toNat]?).bind fun y_5=>(if 0≤k4 then (y_5[k4.toNat]?).bind fun b_6=>(if (decide ((z_u8 b_6)<32))=true then some false else (if 0≤i3 then (lines0[i3.toNat]?).bind fun y_7=>(if 0≤k4 then (y_7[k4.toNat]?).bind fun b_8=>(if (decide (126<(z_u8 b_8)))=true then some false else zaq_ k n lines0 i3 (z0_ (k4+1)) e_2) else none) else none)) else none) else none) else e_2 lines0 i3) else none)
def z6p_ (k:Nat):Nat→zT4→Int→(zT4→Option Bool)→Option Bool
 | 0,_,_,_=>none
 | n+1,lines0,i3,e_0=>(if (decide (i3<(List.length lines0:Int)))=true then (if 0≤i3 then (lines0[i3.toNat]?).bind fun y_1=>(lines0[0]?).bind fun y_2=>(if (!(decide ((List.length y_1:Int)=(List.length y_2:Int))))=true then some false else (if 0≤i3 then (lines0[i3.toNat]?).bind fun y_3=>(if (decide (80<(List.length y_3:Int)))=true then some false else zaq_ k k lines0 i3 0 (fun lines_4 i_5=>z6p_ k n lines_4 (z0_ (i_5+1)) e_0)) else none)) else none) else e_0 lines0)
def zhf_ (k:Nat) (lines0:List (List UInt8)):Option Bool:=z6p_ k k lines0 0 (fun lines_6=>some (decide ((List.length lines_6:Int)≤60)))
def zhg_:Head:=⟨[(0,(.val (.sl 9 .str))),(3,(.val (.int .i64))),(4,(.val (.int .i64)))],[],[]⟩
def zw7_:Head:=⟨[(0,(.val (.sl 9 .str))),(3,(.val (.int .i64)))],[],[]⟩
def znn_ (k:Nat) (n:Nat) (x:zhg_.T) (kx:Nat→St→Option Bool):Option Bool:=zaq_ k n x.1.1 x.1.2.1 x.1.2.2.1 (fun (lines0:List (List UInt8)) (i3:Int)=>kx 2 (zw7_.fill ((lines0,i3,()),(),())))
def zhh_:Head:=⟨[(0,(.val (.sl 9 .str))),(3,(.val (.int .i64)))],[],[]⟩
def zw8_:Head:=⟨[(0,(.val (.sl 9 .str)))],[],[]⟩
def zno_ (k:Nat) (n:Nat) (x:zhh_.T) (kx:Nat→St→Option Bool):Option Bool:=z6p_ k n x.1.1 x.1.2.1 (fun (lines0:List (List UInt8))=>kx 0 (zw8_.fill ((lines0,()),(),())))
def znp_ (k:Nat):Oracles Bool:=⟨fun n=>bif Nat.beq n 7 then some (fun σ kx=>zhg_.get σ fun x=>znn_ k k x kx) else bif Nat.beq n 2 then some (fun σ kx=>zhh_.get σ fun x=>zno_ k k x kx) else none,fun _=>none⟩
def zw9_ (k:Nat):FE:=⟨(.sl 9 .str),1,.bool,fun x=>zhf_ k x⟩
theorem z18c_ (k:Nat):zd_ (z4_ ti [] (lk []) z5_ z6_) (znp_ k) (rdC (z4_ ti [] (lk []) z5_ z6_) [.tmp 2] .bool) ((zb_ (z2_ Tryz.f50)).getD 1 .skip) (fun σ kx=>zhg_.get σ fun x=>znn_ k k x kx):=by
 refine ⟨zhg_,[(2,zw7_)],fun n x kx=>znn_ k n x kx,k,by kernel_rfl,by kernel_rfl,fun x kx=>by kernel_rfl,?_,fun σ kx=>rfl⟩
 rintro n ⟨⟨lines0,i3,k4,⟨⟩⟩,⟨⟩,⟨⟩⟩ kx
 kernel_rfl
theorem z18d_ (k:Nat):zd_ (z4_ ti [] (lk []) z5_ z6_) (znp_ k) (rdC (z4_ ti [] (lk []) z5_ z6_) [.tmp 2] .bool) ((zb_ (z2_ Tryz.f50)).getD 0 .skip) (fun σ kx=>zhh_.get σ fun x=>zno_ k k x kx):=by
 refine ⟨zhh_,[(0,zw8_)],fun n x kx=>zno_ k n x kx,k,by kernel_rfl,by kernel_rfl,fun x kx=>by kernel_rfl,?_,fun σ kx=>rfl⟩
 rintro n ⟨⟨lines0,i3,⟨⟩⟩,⟨⟩,⟨⟩⟩ kx
 kernel_rfl
theorem z18e_ (k:Nat):FnOK Tryz.prog 50 (zw9_ k):=by
 refine za_ (tab:=[]) (l:=[]) z8_ z9_ mix (List.forall_mem_nil _) (List.forall_mem_nil _) ⟨⟨Tryz.f50,(z2_ Tryz.f50),[.tmp 2],(znp_ k),by kernel_rfl,by kernel_rfl,by kernel_rfl,by kernel_rfl,rfl,by decide,⟨by kernel_rfl,?_,?_⟩,?_⟩⟩
 ·refine zi_ (n:=2) (by kernel_rfl) fun i hi=>?_
  match i,hi with
  | 0,_=>exact ze_ (by kernel_rfl) (z18d_ k)
  | 1,_=>exact ze_ (by kernel_rfl) (z18c_ k)
  | n+2,hi=>omega
 ·exact z7_ (by kernel_rfl)
 ·rintro lines0
  kernel_rfl
def zd4_ (k:Nat) (q_1:List (List UInt8)):Option ((((Unit×(Int×Unit))×Unit)×(zT4×Unit)×Unit)):=(zhf_ k q_1).bind fun r_2=>(if (!r_2)=true then some ((((),(5,())),()),([],()),()) else some ((((),(0,())),()),(q_1,()),()))
def z18f_:Head:=⟨[(0,(.ref 1000000000 []))],[(1000000000,9,.str,false)],[]⟩
def z18g_:Head:=⟨[(0,(.tup (.cns (.ref 64000000 []) (.cns (.val (.int .i64)) .nl))))],[(64000000,9,.str,false)],[]⟩
def z6q_ (k:Nat):OC:=⟨z18f_,z18g_,fun x=>zd4_ k x.2.1.1,false⟩
theorem z18h_ (k:Nat):z18_ Tryz.prog ti 21 (z6q_ k):=by
 refine z45_ (tab:=[(50,zw9_ k)]) (l:=[]) z8_ z9_ mix (List.forall_mem_cons.2 ⟨z18e_ k,(List.forall_mem_nil _)⟩) (List.forall_mem_nil _) ⟨by kernel_rfl,by kernel_rfl,by kernel_rfl,Tryz.f21,(z2_ Tryz.f21),[.tmp 2,.tmp 3],(LOn ((((Unit×(Int×Unit))×Unit)×(zT4×Unit)×Unit))),by kernel_rfl,by kernel_rfl,by kernel_rfl,by kernel_rfl,Nat.le_of_ble_eq_true (by kernel_rfl),fun pins pinB=>⟨⟨by kernel_rfl,?_,?_⟩,?_⟩⟩
 ·exact zl_ (by kernel_rfl)
 ·exact z7_ (by kernel_rfl)
 ·rintro ⟨⟨⟨⟩,⟨⟩⟩,⟨q_1,⟨⟩⟩,⟨⟩⟩
  kernel_rfl
def z89_ (k:Nat):Nat→Int→(List UInt8)→Int→zT4→zT0→(Int→(List UInt8)→zT4→zT0→Option zT3)→Option zT3
 | 0,_,_,_,_,_,_=>none
 | n+1,k5,line6,i7,q_3,v_1,e_2=>(if 0≤k5 then (v_1.1[k5.toNat]?).bind fun y_4=>(if (decide (i7<(List.length y_4:Int)))=true then (if 0≤k5 then (v_1.1[k5.toNat]?).bind fun y_5=>(if 0≤i7 then (y_5[i7.toNat]?).bind fun y_6=>(zal_ k y_6).bind fun r_7=>(if line6.length+r_7.length≤9223372036854775807 then z89_ k n k5 (line6++r_7) (z0_ (i7+1)) q_3 v_1 e_2 else none) else none) else none) else e_2 k5 line6 q_3 v_1) else none)
def z8a_ (k:Nat):Nat→Int→(List UInt8)→Int→zT4→(List Int)→zT0→(Int→(List UInt8)→zT4→zT0→Option zT3)→Option zT3
 | 0,_,_,_,_,_,_,_=>none
 | n+1,k5,line6,i9,q_15,q_16,v_1,e_4=>(if (decide (i9<(List.length q_16:Int)))=true then (zh0_ k k5 i9 v_1).bind fun y_17=>(zha_ k y_17.1.1).bind fun r_18=>(zal_ k r_18).bind fun r_19=>(if [32].length+r_19.length≤9223372036854775807 then (if line6.length+([32]++r_19).length≤9223372036854775807 then z8a_ k n k5 (line6++([32]++r_19)) (z0_ (i9+1)) q_15 q_16 y_17.2.2.1 e_4 else none) else none) else e_4 k5 line6 q_15 v_1)
def zar_ (k:Nat):Nat→Int→zT4→zT0→(zT4→Option zT3)→Option zT3
 | 0,_,_,_,_=>none
 | n+1,k5,q_2,v_1,e_0=>(if (decide (k5<(List.length v_1.1:Int)))=true then z89_ k k k5 [] 0 q_2 v_1 (fun k_3 line_4 q_5 v_6=>(if 0≤k_3 then (v_6.2.2.1[k_3.toNat]?).bind fun y_7=>(zal_ k y_7).bind fun r_8=>(if [58].length+r_8.length≤9223372036854775807 then (if line_4.length+([58]++r_8).length≤9223372036854775807 then (zd1_ k v_6.1 k_3).bind fun r_9=>z8a_ k k k_3 (line_4++([58]++r_8)) 0 q_5 r_9 v_6 (fun k_10 line_11 q_12 v_13=>(if (q_12.length+[line_11].length)*16≤LIM then zar_ k n (z0_ (k_10+1)) (q_12++[line_11]) v_13 e_0 else none)) else none) else none) else none)) else e_0 q_2)
def zgd_ (k:Nat) (s0:List (List Int)×Int×List Int×List (Int×Int×Int×List Int)):Option zT3:=(zgv_ k s0).bind fun r_1=>(if (!r_1)=true then some ([],1) else zar_ k k 0 [] s0 (fun q_14=>(zd3_ k q_14).bind fun r_15=>(zd4_ k r_15).bind fun y_16=>some (y_16.2.1.1,y_16.1.1.2.1)))
def zhi_:Head:=⟨[(1,(.bp 1 [] 0)),(4,(.ref 64000000 [])),(5,(.val (.int .i64))),(6,(.val .str)),(7,(.val (.int .i64)))],[(64000000,9,.str,false)],[(1,36,(.val (.st (.pr (.st (.sl 25 (.sl 2 (.int .i64)))) (.pr (.int .i64) (.pr (.sl 2 (.int .i64)) (.sl 63 (.st (.pr (.int .i64) (.pr (.int .i64) (.pr (.int .i64) (.sl 2 (.int .i64)))))))))))))]⟩
def zwa_:Head:=⟨[(1,(.bp 1 [] 0)),(4,(.ref 64000000 [])),(5,(.val (.int .i64))),(6,(.val .str))],[(64000000,9,.str,false)],[(1,36,(.val (.st (.pr (.st (.sl 25 (.sl 2 (.int .i64)))) (.pr (.int .i64) (.pr (.sl 2 (.int .i64)) (.sl 63 (.st (.pr (.int .i64) (.pr (.int .i64) (.pr (.int .i64) (.sl 2 (.int .i64)))))))))))))]⟩
def znq_ (k:Nat) (n:Nat) (x:zhi_.T) (kx:Nat→St→Option zT3):Option zT3:=z89_ k n x.1.2.2.1 x.1.2.2.2.1 x.1.2.2.2.2.1 x.2.1.1 x.2.2.1 (fun (k5:Int) (line6:List UInt8) (q_8:List (List UInt8)) (v_1:List (List Int)×Int×List Int×List (Int×Int×Int×List Int))=>kx 2 (zwa_.fill (((),(),k5,line6,()),(q_8,()),(v_1,()))))
def zhj_:Head:=⟨[(1,(.bp 1 [] 0)),(4,(.ref 64000000 [])),(5,(.val (.int .i64))),(6,(.val .str)),(8,(.ref 64000001 [])),(9,(.val (.int .i64)))],[(64000000,9,.str,false),(64000001,2,(.int .i64),false)],[(1,36,(.val (.st (.pr (.st (.sl 25 (.sl 2 (.int .i64)))) (.pr (.int .i64) (.pr (.sl 2 (.int .i64)) (.sl 63 (.st (.pr (.int .i64) (.pr (.int .i64) (.pr (.int .i64) (.sl 2 (.int .i64)))))))))))))]⟩
def zwb_:Head:=⟨[(1,(.bp 1 [] 0)),(4,(.ref 64000000 [])),(5,(.val (.int .i64))),(6,(.val .str))],[(64000000,9,.str,false)],[(1,36,(.val (.st (.pr (.st (.sl 25 (.sl 2 (.int .i64)))) (.pr (.int .i64) (.pr (.sl 2 (.int .i64)) (.sl 63 (.st (.pr (.int .i64) (.pr (.int .i64) (.pr (.int .i64) (.sl 2 (.int .i64)))))))))))))]⟩
def znr_ (k:Nat) (n:Nat) (x:zhj_.T) (kx:Nat→St→Option zT3):Option zT3:=z8a_ k n x.1.2.2.1 x.1.2.2.2.1 x.1.2.2.2.2.2.1 x.2.1.1 x.2.1.2.1 x.2.2.1 (fun (k5:Int) (line6:List UInt8) (q_20:List (List UInt8)) (v_1:List (List Int)×Int×List Int×List (Int×Int×Int×List Int))=>kx 4 (zwb_.fill (((),(),k5,line6,()),(q_20,()),(v_1,()))))
def zhk_:Head:=⟨[(1,(.bp 1 [] 0)),(4,(.ref 64000000 [])),(5,(.val (.int .i64)))],[(64000000,9,.str,false)],[(1,36,(.val (.st (.pr (.st (.sl 25 (.sl 2 (.int .i64)))) (.pr (.int .i64) (.pr (.sl 2 (.int .i64)) (.sl 63 (.st (.pr (.int .i64) (.pr (.int .i64) (.pr (.int .i64) (.sl 2 (.int .i64)))))))))))))]⟩
def zwc_:Head:=⟨[(4,(.ref 64000000 []))],[(64000000,9,.str,false)],[]⟩
def zns_ (k:Nat) (n:Nat) (x:zhk_.T) (kx:Nat→St→Option zT3):Option zT3:=zar_ k n x.1.2.2.1 x.2.1.1 x.2.2.1 (fun (q_24:List (List UInt8))=>kx 0 (zwc_.fill (((),()),(q_24,()),())))
def zhl_ (k:Nat):Oracles zT3:=⟨fun n=>bif Nat.beq n 9 then some (fun σ kx=>zhi_.get σ fun x=>znq_ k k x kx) else bif Nat.beq n 15 then some (fun σ kx=>zhj_.get σ fun x=>znr_ k k x kx) else bif Nat.beq n 5 then some (fun σ kx=>zhk_.get σ fun x=>zns_ k k x kx) else none,fun _=>none⟩
def zv1_ (k:Nat):FE:=⟨(.st (.pr (.st (.sl 25 (.sl 2 (.int .i64)))) (.pr (.int .i64) (.pr (.sl 2 (.int .i64)) (.sl 63 (.st (.pr (.int .i64) (.pr (.int .i64) (.pr (.int .i64) (.sl 2 (.int .i64))))))))))),2,(.pr (.sl 9 .str) (.int .i64)),fun x=>zgd_ k x⟩
theorem z18i_ (k:Nat):zd_ (z4_ ti [(16,z6h_ k),(17,z6i_ k),(18,z5f_ k),(19,z6m_ k),(22,z6o_ k)] (lk [(65,20,z6j_ k),(76,21,z6q_ k)]) z5_ z6_) (zhl_ k) (rdC (z4_ ti [(16,z6h_ k),(17,z6i_ k),(18,z5f_ k),(19,z6m_ k),(22,z6o_ k)] (lk [(65,20,z6j_ k),(76,21,z6q_ k)]) z5_ z6_) [.tmp 2,.tmp 3] (.pr (.sl 9 .str) (.int .i64))) ((zb_ (z2_ Tryz.f5)).getD 1 .skip) (fun σ kx=>zhi_.get σ fun x=>znq_ k k x kx):=by
 refine ⟨zhi_,[(2,zwa_)],fun n x kx=>znq_ k n x kx,k,by kernel_rfl,by kernel_rfl,fun x kx=>by kernel_rfl,?_,fun σ kx=>rfl⟩
 rintro n ⟨⟨⟨⟩,⟨⟩,k5,line6,i7,⟨⟩⟩,⟨q_3,⟨⟩⟩,⟨v_1,⟨⟩⟩⟩ kx
 kernel_rfl
theorem z18j_ (k:Nat):zd_ (z4_ ti [(16,z6h_ k),(17,z6i_ k),(18,z5f_ k),(19,z6m_ k),(22,z6o_ k)] (lk [(65,20,z6j_ k),(76,21,z6q_ k)]) z5_ z6_) (zhl_ k) (rdC (z4_ ti [(16,z6h_ k),(17,z6i_ k),(18,z5f_ k),(19,z6m_ k),(22,z6o_ k)] (lk [(65,20,z6j_ k),(76,21,z6q_ k)]) z5_ z6_) [.tmp 2,.tmp 3] (.pr (.sl 9 .str) (.int .i64))) ((zb_ (z2_ Tryz.f5)).getD 2 .skip) (fun σ kx=>zhj_.get σ fun x=>znr_ k k x kx):=by
 refine ⟨zhj_,[(4,zwb_)],fun n x kx=>znr_ k n x kx,k,by kernel_rfl,by kernel_rfl,fun x kx=>by kernel_rfl,?_,fun σ kx=>rfl⟩
 rintro n ⟨⟨⟨⟩,⟨⟩,k5,line6,⟨⟩,i9,⟨⟩⟩,⟨q_15,q_16,⟨⟩⟩,⟨v_1,⟨⟩⟩⟩ kx
 kernel_rfl
theorem z18k_ (k:Nat):zd_ (z4_ ti [(16,z6h_ k),(17,z6i_ k),(18,z5f_ k),(19,z6m_ k),(22,z6o_ k)] (lk [(65,20,z6j_ k),(76,21,z6q_ k)]) z5_ z6_) (zhl_ k) (rdC (z4_ ti [(16,z6h_ k),(17,z6i_ k),(18,z5f_ k),(19,z6m_ k),(22,z6o_ k)] (lk [(65,20,z6j_ k),(76,21,z6q_ k)]) z5_ z6_) [.tmp 2,.tmp 3] (.pr (.sl 9 .str) (.int .i64))) ((zb_ (z2_ Tryz.f5)).getD 0 .skip) (fun σ kx=>zhk_.get σ fun x=>zns_ k k x kx):=by
 refine ⟨zhk_,[(0,zwc_)],fun n x kx=>zns_ k n x kx,k,by kernel_rfl,by kernel_rfl,fun x kx=>by kernel_rfl,?_,fun σ kx=>rfl⟩
 rintro n ⟨⟨⟨⟩,⟨⟩,k5,⟨⟩⟩,⟨q_2,⟨⟩⟩,⟨v_1,⟨⟩⟩⟩ kx
 kernel_rfl
theorem z172_ (k:Nat):FnOK Tryz.prog 5 (zv1_ k):=by
 refine za_ (tab:=[(16,z6h_ k),(17,z6i_ k),(18,z5f_ k),(19,z6m_ k),(22,z6o_ k)]) (l:=[(65,20,z6j_ k),(76,21,z6q_ k)]) z8_ z9_ mix (List.forall_mem_cons.2 ⟨z17p_ k,(List.forall_mem_cons.2 ⟨z17s_ k,(List.forall_mem_cons.2 ⟨zvo_ k,(List.forall_mem_cons.2 ⟨z186_ k,(List.forall_mem_cons.2 ⟨z18b_ k,(List.forall_mem_nil _)⟩)⟩)⟩)⟩)⟩) (List.forall_mem_cons.2 ⟨z17v_ k,(List.forall_mem_cons.2 ⟨z18h_ k,(List.forall_mem_nil _)⟩)⟩) ⟨⟨Tryz.f5,(z2_ Tryz.f5),[.tmp 2,.tmp 3],(zhl_ k),by kernel_rfl,by kernel_rfl,by kernel_rfl,by kernel_rfl,rfl,by decide,⟨by kernel_rfl,?_,?_⟩,?_⟩⟩
 ·refine zi_ (n:=3) (by kernel_rfl) fun i hi=>?_
  match i,hi with
  | 0,_=>exact ze_ (by kernel_rfl) (z18k_ k)
  | 1,_=>exact ze_ (by kernel_rfl) (z18i_ k)
  | 2,_=>exact ze_ (by kernel_rfl) (z18j_ k)
  | n+3,hi=>omega
 ·exact z7_ (by kernel_rfl)
 ·rintro s0
  kernel_rfl
def zas_ (k:Nat):Nat→(List Int)→Int→(Option Bool)→Option Bool
 | 0,_,_,_=>none
 | n+1,list0,k3,e_0=>(if (decide (k3<(List.length list0:Int)))=true then (if 0≤(z0_ (k3-1)) then (list0[(z0_ (k3-1)).toNat]?).bind fun y_1=>(if 0≤k3 then (list0[k3.toNat]?).bind fun y_2=>(if (decide (y_2≤y_1))=true then some false else zas_ k n list0 (z0_ (k3+1)) e_0) else none) else none) else e_0)
def zhm_ (k:Nat) (list0:List Int):Option Bool:=zas_ k k list0 1 (some true)
def zhn_:Head:=⟨[(0,(.val (.sl 2 (.int .i64)))),(3,(.val (.int .i64)))],[],[]⟩
def zwd_:Head:=⟨[],[],[]⟩
def znt_ (k:Nat) (n:Nat) (x:zhn_.T) (kx:Nat→St→Option Bool):Option Bool:=zas_ k n x.1.1 x.1.2.1 (kx 0 (zwd_.fill ((),(),())))
def zwe_ (k:Nat):Oracles Bool:=⟨fun n=>bif Nat.beq n 2 then some (fun σ kx=>zhn_.get σ fun x=>znt_ k k x kx) else none,fun _=>none⟩
def zwf_ (k:Nat):FE:=⟨(.sl 2 (.int .i64)),1,.bool,fun x=>zhm_ k x⟩
theorem z18l_ (k:Nat):zd_ (z4_ ti [] (lk []) z5_ z6_) (zwe_ k) (rdC (z4_ ti [] (lk []) z5_ z6_) [.tmp 2] .bool) ((zb_ (z2_ Tryz.f109)).getD 0 .skip) (fun σ kx=>zhn_.get σ fun x=>znt_ k k x kx):=by
 refine ⟨zhn_,[(0,zwd_)],fun n x kx=>znt_ k n x kx,k,by kernel_rfl,by kernel_rfl,fun x kx=>by kernel_rfl,?_,fun σ kx=>rfl⟩
 rintro n ⟨⟨list0,k3,⟨⟩⟩,⟨⟩,⟨⟩⟩ kx
 kernel_rfl
theorem z18m_ (k:Nat):FnOK Tryz.prog 109 (zwf_ k):=by
 refine za_ (tab:=[]) (l:=[]) z8_ z9_ mix (List.forall_mem_nil _) (List.forall_mem_nil _) ⟨⟨Tryz.f109,(z2_ Tryz.f109),[.tmp 2],(zwe_ k),by kernel_rfl,by kernel_rfl,by kernel_rfl,by kernel_rfl,rfl,by decide,⟨by kernel_rfl,?_,?_⟩,?_⟩⟩
 ·refine zi_ (n:=1) (by kernel_rfl) fun i hi=>?_
  match i,hi with
  | 0,_=>exact ze_ (by kernel_rfl) (z18l_ k)
  | n+1,hi=>omega
 ·exact z7_ (by kernel_rfl)
 ·rintro list0
  kernel_rfl
def z6r_ (n0:Int) (low1:Int) (high2:Int):Option Bool:=(if (decide (low1≤n0))=true then some (decide (n0≤high2)) else some false)
def z6s_:FE:=⟨(.pr (.int .i64) (.pr (.int .i64) (.int .i64))),1,.bool,fun x=>z6r_ x.1 x.2.1 x.2.2⟩
theorem zd5_:FnOK Tryz.prog 84 (z6s_):=by
 refine za_ (tab:=[]) (l:=[]) z8_ z9_ mix (List.forall_mem_nil _) (List.forall_mem_nil _) ⟨⟨Tryz.f84,(z2_ Tryz.f84),[.tmp 6],(LOn Bool),by kernel_rfl,by kernel_rfl,by kernel_rfl,by kernel_rfl,rfl,by decide,⟨by kernel_rfl,?_,?_⟩,?_⟩⟩
 ·exact zl_ (by kernel_rfl)
 ·exact z7_ (by kernel_rfl)
 ·rintro ⟨n0,low1,high2⟩
  kernel_rfl
def znu_ (v0:Int):Option Bool:=(z6r_ v0 0 9).bind fun r_1=>some r_1
def zwg_:FE:=⟨(.int .i64),1,.bool,fun x=>znu_ x⟩
theorem z18n_:FnOK Tryz.prog 111 (zwg_):=by
 refine za_ (tab:=[(84,z6s_)]) (l:=[]) z8_ z9_ mix (List.forall_mem_cons.2 ⟨zd5_,(List.forall_mem_nil _)⟩) (List.forall_mem_nil _) ⟨⟨Tryz.f111,(z2_ Tryz.f111),[.tmp 2],(LOn Bool),by kernel_rfl,by kernel_rfl,by kernel_rfl,by kernel_rfl,rfl,by decide,⟨by kernel_rfl,?_,?_⟩,?_⟩⟩
 ·exact zl_ (by kernel_rfl)
 ·exact z7_ (by kernel_rfl)
 ·rintro v0
  kernel_rfl
def znv_ (v0:Int):Option Bool:=(znu_ v0).bind fun r_1=>some (!r_1)
def zho_:FE:=⟨(.int .i64),1,.bool,fun x=>znv_ x⟩
theorem z18o_:FnOK Tryz.prog 110 (zho_):=by
 refine za_ (tab:=[(111,zwg_)]) (l:=[]) z8_ z9_ mix (List.forall_mem_cons.2 ⟨z18n_,(List.forall_mem_nil _)⟩) (List.forall_mem_nil _) ⟨⟨Tryz.f110,(z2_ Tryz.f110),[.tmp 2],(LOn Bool),by kernel_rfl,by kernel_rfl,by kernel_rfl,by kernel_rfl,rfl,by decide,⟨by kernel_rfl,?_,?_⟩,?_⟩⟩
 ·exact zl_ (by kernel_rfl)
 ·exact z7_ (by kernel_rfl)
 ·rintro v0
  kernel_rfl
def zat_ (k:Nat):Nat→(List Int)→Unit→Int→Int→(Option Int)→Option Int
 | 0,_,_,_,_,_=>none
 | n+1,s0,f1,x7,x8,e_0=>(if (decide (x8<x7))=true then (if 0≤x8 then (s0[x8.toNat]?).bind fun y_1=>(znv_ y_1).bind fun r_2=>(if r_2=true then some x8 else zat_ k n s0 f1 x7 (z0_ (x8+1)) e_0) else none) else e_0)
def znw_ (k:Nat) (s0:List Int) (f1:Unit):Option Int:=zat_ k k s0 f1 (List.length s0:Int) 0 (some (-1))
def zhp_:Head:=⟨[(0,(.val (.sl 2 (.int .i64)))),(1,(.val (.fn 110 .un))),(7,(.val (.int .i64))),(8,(.val (.int .i64)))],[],[]⟩
def zwh_:Head:=⟨[],[],[]⟩
def znx_ (k:Nat) (n:Nat) (x:zhp_.T) (kx:Nat→St→Option Int):Option Int:=zat_ k n x.1.1 x.1.2.1 x.1.2.2.1 x.1.2.2.2.1 (kx 0 (zwh_.fill ((),(),())))
def zwi_ (k:Nat):Oracles Int:=⟨fun n=>bif Nat.beq n 2 then some (fun σ kx=>zhp_.get σ fun x=>znx_ k k x kx) else none,fun _=>none⟩
def zwj_ (k:Nat):FE:=⟨(.pr (.sl 2 (.int .i64)) (.fn 110 .un)),1,(.int .i64),fun x=>znw_ k x.1 x.2⟩
theorem z18p_ (k:Nat):zd_ (z4_ ti [(110,zho_)] (lk []) z5_ z6_) (zwi_ k) (rdC (z4_ ti [(110,zho_)] (lk []) z5_ z6_) [.tmp 4] (.int .i64)) ((zb_ (z2_ Tryz.f115)).getD 0 .skip) (fun σ kx=>zhp_.get σ fun x=>znx_ k k x kx):=by
 refine ⟨zhp_,[(0,zwh_)],fun n x kx=>znx_ k n x kx,k,by kernel_rfl,by kernel_rfl,fun x kx=>by kernel_rfl,?_,fun σ kx=>rfl⟩
 rintro n ⟨⟨s0,f1,x7,x8,⟨⟩⟩,⟨⟩,⟨⟩⟩ kx
 kernel_rfl
theorem z18q_ (k:Nat):FnOK Tryz.prog 115 (zwj_ k):=by
 refine za_ (tab:=[(110,zho_)]) (l:=[]) z8_ z9_ mix (List.forall_mem_cons.2 ⟨z18o_,(List.forall_mem_nil _)⟩) (List.forall_mem_nil _) ⟨⟨Tryz.f115,(z2_ Tryz.f115),[.tmp 4],(zwi_ k),by kernel_rfl,by kernel_rfl,by kernel_rfl,by kernel_rfl,rfl,by decide,⟨by kernel_rfl,?_,?_⟩,?_⟩⟩
 ·refine zi_ (n:=1) (by kernel_rfl) fun i hi=>?_
  match i,hi with
  | 0,_=>exact ze_ (by kernel_rfl) (z18p_ k)
  | n+1,hi=>omega
 ·exact z7_ (by kernel_rfl)
 ·rintro ⟨s0,f1⟩
  kernel_rfl
def zhq_ (k:Nat) (s0:List Int) (f1:Unit):Option Bool:=(znw_ k s0 f1).bind fun r_1=>some (decide (0≤r_1))
def zwk_ (k:Nat):FE:=⟨(.pr (.sl 2 (.int .i64)) (.fn 110 .un)),1,.bool,fun x=>zhq_ k x.1 x.2⟩
theorem z18r_ (k:Nat):FnOK Tryz.prog 85 (zwk_ k):=by
 refine za_ (tab:=[(115,zwj_ k)]) (l:=[]) z8_ z9_ mix (List.forall_mem_cons.2 ⟨z18q_ k,(List.forall_mem_nil _)⟩) (List.forall_mem_nil _) ⟨⟨Tryz.f85,(z2_ Tryz.f85),[.tmp 4],(LOn Bool),by kernel_rfl,by kernel_rfl,by kernel_rfl,by kernel_rfl,rfl,by decide,⟨by kernel_rfl,?_,?_⟩,?_⟩⟩
 ·exact zl_ (by kernel_rfl)
 ·exact z7_ (by kernel_rfl)
 ·rintro ⟨s0,f1⟩
  kernel_rfl
def zhr_ (k:Nat) (s0:List Int):Option Bool:=(if (decide (1≤(List.length s0:Int)))=true then (if (decide ((List.length s0:Int)≤4))=true then (zhm_ k s0).bind fun r_1=>(if r_1=true then (zhq_ k s0 ()).bind fun r_2=>some (!r_2) else some false) else some false) else some false)
def zhs_ (k:Nat):FE:=⟨(.sl 2 (.int .i64)),1,.bool,fun x=>zhr_ k x⟩
theorem z18s_ (k:Nat):FnOK Tryz.prog 80 (zhs_ k):=by
 refine za_ (tab:=[(109,zwf_ k),(85,zwk_ k)]) (l:=[]) z8_ z9_ mix (List.forall_mem_cons.2 ⟨z18m_ k,(List.forall_mem_cons.2 ⟨z18r_ k,(List.forall_mem_nil _)⟩)⟩) (List.forall_mem_nil _) ⟨⟨Tryz.f80,(z2_ Tryz.f80),[.tmp 2],(LOn Bool),by kernel_rfl,by kernel_rfl,by kernel_rfl,by kernel_rfl,rfl,by decide,⟨by kernel_rfl,?_,?_⟩,?_⟩⟩
 ·exact zl_ (by kernel_rfl)
 ·exact z7_ (by kernel_rfl)
 ·rintro s0
  kernel_rfl
def zht_ (x0:Int):Option Bool:=some (!(decide (x0=x0)))
def zwl_:FE:=⟨(.int .i64),1,.bool,fun x=>zht_ x⟩
theorem z18t_:FnOK Tryz.prog 130 (zwl_):=by
 refine za_ (tab:=[]) (l:=[]) z8_ z9_ mix (List.forall_mem_nil _) (List.forall_mem_nil _) ⟨⟨Tryz.f130,(z2_ Tryz.f130),[.tmp 2],(LOn Bool),by kernel_rfl,by kernel_rfl,by kernel_rfl,by kernel_rfl,rfl,by decide,⟨by kernel_rfl,?_,?_⟩,?_⟩⟩
 ·exact zl_ (by kernel_rfl)
 ·exact z7_ (by kernel_rfl)
 ·rintro x0
  kernel_rfl
def zhu_ (x0:Int) (y1:Int):Option Int:=(zht_ x0).bind fun r_1=>(zht_ y1).bind fun r_2=>(if r_1=true then (if r_2=true then some 0 else some (-1)) else (if r_2=true then some 1 else (if (decide (x0<y1))=true then some (-1) else (if (decide (y1<x0))=true then some 1 else some 0))))
def zwm_:FE:=⟨(.pr (.int .i64) (.int .i64)),1,(.int .i64),fun x=>zhu_ x.1 x.2⟩
theorem z18u_:FnOK Tryz.prog 113 (zwm_):=by
 refine za_ (tab:=[(130,zwl_)]) (l:=[]) z8_ z9_ mix (List.forall_mem_cons.2 ⟨z18t_,(List.forall_mem_nil _)⟩) (List.forall_mem_nil _) ⟨⟨Tryz.f113,(z2_ Tryz.f113),[.tmp 4],(LOn Int),by kernel_rfl,by kernel_rfl,by kernel_rfl,by kernel_rfl,rfl,by decide,⟨by kernel_rfl,?_,?_⟩,?_⟩⟩
 ·exact zl_ (by kernel_rfl)
 ·exact z7_ (by kernel_rfl)
 ·rintro ⟨x0,y1⟩
  kernel_rfl
def zhv_ (x0:Int):Option Bool:=some (!(decide (x0=x0)))
def zwn_:FE:=⟨(.int .i64),1,.bool,fun x=>zhv_ x⟩
theorem z18v_:FnOK Tryz.prog 141 (zwn_):=by
 refine za_ (tab:=[]) (l:=[]) z8_ z9_ mix (List.forall_mem_nil _) (List.forall_mem_nil _) ⟨⟨Tryz.f141,(z2_ Tryz.f141),[.tmp 2],(LOn Bool),by kernel_rfl,by kernel_rfl,by kernel_rfl,by kernel_rfl,rfl,by decide,⟨by kernel_rfl,?_,?_⟩,?_⟩⟩
 ·exact zl_ (by kernel_rfl)
 ·exact z7_ (by kernel_rfl)
 ·rintro x0
  kernel_rfl
def zhw_ (x0:Int) (y1:Int):Option Int:=(zhv_ x0).bind fun r_1=>(zhv_ y1).bind fun r_2=>(if r_1=true then (if r_2=true then some 0 else some (-1)) else (if r_2=true then some 1 else (if (decide (x0<y1))=true then some (-1) else (if (decide (y1<x0))=true then some 1 else some 0))))
def zhx_:FE:=⟨(.pr (.int .i64) (.int .i64)),1,(.int .i64),fun x=>zhw_ x.1 x.2⟩
theorem z18w_:FnOK Tryz.prog 131 (zhx_):=by
 refine za_ (tab:=[(141,zwn_)]) (l:=[]) z8_ z9_ mix (List.forall_mem_cons.2 ⟨z18v_,(List.forall_mem_nil _)⟩) (List.forall_mem_nil _) ⟨⟨Tryz.f131,(z2_ Tryz.f131),[.tmp 4],(LOn Int),by kernel_rfl,by kernel_rfl,by kernel_rfl,by kernel_rfl,rfl,by decide,⟨by kernel_rfl,?_,?_⟩,?_⟩⟩
 ·exact zl_ (by kernel_rfl)
 ·exact z7_ (by kernel_rfl)
 ·rintro ⟨x0,y1⟩
  kernel_rfl
def zau_ (k:Nat):Nat→(List Int)→(List Int)→(List Int)→Int→Int→((List Int)→(List Int)→Option Int)→Option Int
 | 0,_,_,_,_,_,_=>none
 | n+1,s10,s21,x9,x10,x11,e_0=>(if (decide (x11<x10))=true then (if 0≤x11 then (x9[x11.toNat]?).bind fun y_1=>(if (decide ((List.length s21:Int)≤x11))=true then some 1 else (if 0≤x11 then (s21[x11.toNat]?).bind fun y_2=>(zhw_ y_1 y_2).bind fun r_3=>(if (!(decide (r_3=0)))=true then some r_3 else zau_ k n s10 s21 x9 x10 (z0_ (x11+1)) e_0) else none)) else none) else e_0 s10 s21)
def zhy_ (k:Nat) (s10:List Int) (s21:List Int):Option Int:=zau_ k k s10 s21 s10 (List.length s10:Int) 0 (fun s_4 s_5=>(if (decide ((List.length s_4:Int)<(List.length s_5:Int)))=true then some (-1) else some 0))
def zhz_:Head:=⟨[(0,(.val (.sl 2 (.int .i64)))),(1,(.val (.sl 2 (.int .i64)))),(9,(.val (.sl 2 (.int .i64)))),(10,(.val (.int .i64))),(11,(.val (.int .i64)))],[],[]⟩
def zwo_:Head:=⟨[(0,(.val (.sl 2 (.int .i64)))),(1,(.val (.sl 2 (.int .i64))))],[],[]⟩
def zny_ (k:Nat) (n:Nat) (x:zhz_.T) (kx:Nat→St→Option Int):Option Int:=zau_ k n x.1.1 x.1.2.1 x.1.2.2.1 x.1.2.2.2.1 x.1.2.2.2.2.1 (fun (s10:List Int) (s21:List Int)=>kx 0 (zwo_.fill ((s10,s21,()),(),())))
def zwp_ (k:Nat):Oracles Int:=⟨fun n=>bif Nat.beq n 2 then some (fun σ kx=>zhz_.get σ fun x=>zny_ k k x kx) else none,fun _=>none⟩
def zwq_ (k:Nat):FE:=⟨(.pr (.sl 2 (.int .i64)) (.sl 2 (.int .i64))),1,(.int .i64),fun x=>zhy_ k x.1 x.2⟩
theorem z18x_ (k:Nat):zd_ (z4_ ti [(131,zhx_)] (lk []) z5_ z6_) (zwp_ k) (rdC (z4_ ti [(131,zhx_)] (lk []) z5_ z6_) [.tmp 4] (.int .i64)) ((zb_ (z2_ Tryz.f114)).getD 0 .skip) (fun σ kx=>zhz_.get σ fun x=>zny_ k k x kx):=by
 refine ⟨zhz_,[(0,zwo_)],fun n x kx=>zny_ k n x kx,k,by kernel_rfl,by kernel_rfl,fun x kx=>by kernel_rfl,?_,fun σ kx=>rfl⟩
 rintro n ⟨⟨s10,s21,x9,x10,x11,⟨⟩⟩,⟨⟩,⟨⟩⟩ kx
 kernel_rfl
theorem z18y_ (k:Nat):FnOK Tryz.prog 114 (zwq_ k):=by
 refine za_ (tab:=[(131,zhx_)]) (l:=[]) z8_ z9_ mix (List.forall_mem_cons.2 ⟨z18w_,(List.forall_mem_nil _)⟩) (List.forall_mem_nil _) ⟨⟨Tryz.f114,(z2_ Tryz.f114),[.tmp 4],(zwp_ k),by kernel_rfl,by kernel_rfl,by kernel_rfl,by kernel_rfl,rfl,by decide,⟨by kernel_rfl,?_,?_⟩,?_⟩⟩
 ·refine zi_ (n:=1) (by kernel_rfl) fun i hi=>?_
  match i,hi with
  | 0,_=>exact ze_ (by kernel_rfl) (z18x_ k)
  | n+1,hi=>omega
 ·exact z7_ (by kernel_rfl)
 ·rintro ⟨s10,s21⟩
  kernel_rfl
end
end Go.Proofs.YthpamdpneanlpaaGreatDoor.Ev
