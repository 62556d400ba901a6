/- Functions of the program, as plain ones. No conditions. -/
import Derived.Test.YthpamdpneanlpaaGreatDoorG9
import Derived.KernelRfl
set_option linter.unusedVariables false
set_option maxRecDepth 100000
namespace Go.Proofs.YthpamdpneanlpaaGreatDoor.Ev
open Go.RowKit
noncomputable section
def za6_ (k:Nat):Nat→Nat→Int→Int→zT2→(Int→zT2→Option (((Int×Unit)×(zT2×Unit)×Unit)))→Option (((Int×Unit)×(zT2×Unit)×Unit))
 | 0,_,_,_,_,_=>none
 | n+1,a0n0,k1,i5,q_2,e_0=>(q_2[a0n0]?).bind fun y_3=>(if (decide (i5<(List.length y_3.2.2.2:Int)))=true then (q_2[a0n0]?).bind fun y_4=>(if 0≤i5∧i5.toNat<List.length y_4.2.2.2 then (q_2[a0n0]?).bind fun y_5=>(y_5.2.2.2[i5.toNat]?).bind fun y_6=>(q_2[a0n0]?).bind fun y_7=>(y_7.2.2.2[i5.toNat]?).bind fun y_8=>za6_ k n a0n0 (z0_ (k1+1)) (z0_ (i5+1)) (q_2.set a0n0 (y_7.1,(y_7.2.1,(y_7.2.2.1,(y_7.2.2.2.set i5.toNat k1))))) e_0 else none) else e_0 k1 q_2)
def zg2_ (k:Nat) (a0n0:Nat) (k1:Int) (q_1:List (Int×Int×Int×List Int)):Option (((Int×Unit)×(zT2×Unit)×Unit)):=za6_ k k a0n0 k1 0 q_1 (fun k_9 q_10=>some ((k_9,()),(q_10,()),()))
def zg3_:Head:=⟨[(0,(.ref 1000000000 [.ix,.f true,.f true,.f true])),(1,(.val (.int .i64))),(5,(.val (.int .i64)))],[(1000000000,63,(.st (.pr (.int .i64) (.pr (.int .i64) (.pr (.int .i64) (.sl 2 (.int .i64)))))),false)],[]⟩
def zuh_:Head:=⟨[(1,(.val (.int .i64)))],[(1000000000,63,(.st (.pr (.int .i64) (.pr (.int .i64) (.pr (.int .i64) (.sl 2 (.int .i64)))))),false)],[]⟩
def zmm_ (k:Nat) (n:Nat) (x:zg3_.T) (kx:Nat→St→Option (((Int×Unit)×(zT2×Unit)×Unit))):Option (((Int×Unit)×(zT2×Unit)×Unit)):=za6_ k n x.1.1.1 x.1.2.1 x.1.2.2.1 x.2.1.1 (fun (k1:Int) (q_9:List (Int×Int×Int×List Int))=>kx 0 (zuh_.fill ((k1,()),(q_9,()),())))
def zui_ (k:Nat):Oracles (((Int×Unit)×(zT2×Unit)×Unit)):=⟨fun n=>bif Nat.beq n 2 then some (fun σ kx=>zg3_.get σ fun x=>zmm_ k k x kx) else none,fun _=>none⟩
def z16j_:Head:=⟨[(0,(.ref 1000000000 [.ix,.f true,.f true,.f true])),(1,(.val (.int .i64)))],[(1000000000,63,(.st (.pr (.int .i64) (.pr (.int .i64) (.pr (.int .i64) (.sl 2 (.int .i64)))))),false)],[]⟩
def zuj_:Head:=⟨[(0,(.val (.int .i64)))],[(1000000000,63,(.st (.pr (.int .i64) (.pr (.int .i64) (.pr (.int .i64) (.sl 2 (.int .i64)))))),false)],[]⟩
def zg4_ (k:Nat):OC:=⟨z16j_,zuj_,fun x=>zg2_ k x.1.1.1 x.1.2.1 x.2.1.1,false⟩
theorem z16k_ (k:Nat) (pins:Nat→Value) (pinB:Nat→Nat):zd_ (z4_ ti [] (lk []) pins pinB) (zui_ k) (rdO (z4_ ti [] (lk []) pins pinB) [.tmp 4] zuj_) ((zb_ (z2_ Tryz.f36)).getD 0 .skip) (fun σ kx=>zg3_.get σ fun x=>zmm_ k k x kx):=by
 refine ⟨zg3_,[(0,zuh_)],fun n x kx=>zmm_ k n x kx,k,by kernel_rfl,by kernel_rfl,fun x kx=>by kernel_rfl,?_,fun σ kx=>rfl⟩
 rintro n ⟨⟨⟨a0n0,⟨⟩⟩,k1,i5,⟨⟩⟩,⟨q_2,⟨⟩⟩,⟨⟩⟩ kx
 kernel_rfl
theorem z16l_ (k:Nat):z18_ Tryz.prog ti 36 (zg4_ k):=by
 refine z45_ (tab:=[]) (l:=[]) z8_ z9_ mix (List.forall_mem_nil _) (List.forall_mem_nil _) ⟨by kernel_rfl,by kernel_rfl,by kernel_rfl,Tryz.f36,(z2_ Tryz.f36),[.tmp 4],(zui_ k),by kernel_rfl,by kernel_rfl,by kernel_rfl,by kernel_rfl,Nat.le_of_ble_eq_true (by kernel_rfl),fun pins pinB=>⟨⟨by kernel_rfl,?_,?_⟩,?_⟩⟩
 ·refine zi_ (n:=1) (by kernel_rfl) fun i hi=>?_
  match i,hi with
  | 0,_=>exact ze_ (by kernel_rfl) (z16k_ k pins pinB)
  | n+1,hi=>omega
 ·exact z7_ (by kernel_rfl)
 ·rintro ⟨⟨⟨a0n0,⟨⟩⟩,k1,⟨⟩⟩,⟨q_1,⟨⟩⟩,⟨⟩⟩
  kernel_rfl
def za7_ (k:Nat):Nat→Int→Int→zT2→(Int→zT2→Option (((Int×Unit)×(zT2×Unit)×Unit)))→Option (((Int×Unit)×(zT2×Unit)×Unit))
 | 0,_,_,_,_=>none
 | n+1,k1,i5,q_2,e_0=>(if (decide (i5<(List.length q_2:Int)))=true then (if 0≤i5∧i5.toNat<List.length q_2 then (q_2[i5.toNat]?).bind fun y_3=>(q_2[i5.toNat]?).bind fun y_4=>(if 0≤i5∧i5.toNat<List.length (q_2.set i5.toNat (k1,y_3.2)) then ((q_2.set i5.toNat (k1,y_3.2))[i5.toNat]?).bind fun y_5=>((q_2.set i5.toNat (k1,y_3.2))[i5.toNat]?).bind fun y_6=>(if 0≤i5∧i5.toNat<List.length ((q_2.set i5.toNat (k1,y_3.2)).set i5.toNat (y_5.1,((z0_ (k1+1)),y_5.2.2))) then (((q_2.set i5.toNat (k1,y_3.2)).set i5.toNat (y_5.1,((z0_ (k1+1)),y_5.2.2)))[i5.toNat]?).bind fun y_7=>(((q_2.set i5.toNat (k1,y_3.2)).set i5.toNat (y_5.1,((z0_ (k1+1)),y_5.2.2)))[i5.toNat]?).bind fun y_8=>(if 0≤i5∧i5.toNat<List.length (((q_2.set i5.toNat (k1,y_3.2)).set i5.toNat (y_5.1,((z0_ (k1+1)),y_5.2.2))).set i5.toNat (y_7.1,(y_7.2.1,((z0_ ((z0_ (k1+1))+1)),y_7.2.2.2)))) then ((((q_2.set i5.toNat (k1,y_3.2)).set i5.toNat (y_5.1,((z0_ (k1+1)),y_5.2.2))).set i5.toNat (y_7.1,(y_7.2.1,((z0_ ((z0_ (k1+1))+1)),y_7.2.2.2))))[i5.toNat]?).bind fun y_9=>(zg2_ k i5.toNat (z0_ ((z0_ ((z0_ (k1+1))+1))+1)) (((q_2.set i5.toNat (k1,y_3.2)).set i5.toNat (y_5.1,((z0_ (k1+1)),y_5.2.2))).set i5.toNat (y_7.1,(y_7.2.1,((z0_ ((z0_ (k1+1))+1)),y_7.2.2.2))))).bind fun y_10=>za7_ k n y_10.1.1 (z0_ (i5+1)) y_10.2.1.1 e_0 else none) else none) else none) else none) else e_0 k1 q_2)
def zg5_ (k:Nat) (k1:Int) (q_1:List (Int×Int×Int×List Int)):Option (((Int×Unit)×(zT2×Unit)×Unit)):=za7_ k k k1 0 q_1 (fun k_11 q_12=>some ((k_11,()),(q_12,()),()))
def zg6_:Head:=⟨[(0,(.ref 1000000000 [])),(1,(.val (.int .i64))),(5,(.val (.int .i64)))],[(1000000000,63,(.st (.pr (.int .i64) (.pr (.int .i64) (.pr (.int .i64) (.sl 2 (.int .i64)))))),false)],[]⟩
def zuk_:Head:=⟨[(1,(.val (.int .i64)))],[(1000000000,63,(.st (.pr (.int .i64) (.pr (.int .i64) (.pr (.int .i64) (.sl 2 (.int .i64)))))),false)],[]⟩
def zmn_ (k:Nat) (n:Nat) (x:zg6_.T) (kx:Nat→St→Option (((Int×Unit)×(zT2×Unit)×Unit))):Option (((Int×Unit)×(zT2×Unit)×Unit)):=za7_ k n x.1.2.1 x.1.2.2.1 x.2.1.1 (fun (k1:Int) (q_12:List (Int×Int×Int×List Int))=>kx 0 (zuk_.fill ((k1,()),(q_12,()),())))
def zul_ (k:Nat):Oracles (((Int×Unit)×(zT2×Unit)×Unit)):=⟨fun n=>bif Nat.beq n 2 then some (fun σ kx=>zg6_.get σ fun x=>zmn_ k k x kx) else none,fun _=>none⟩
def z16m_:Head:=⟨[(0,(.ref 1000000000 [])),(1,(.val (.int .i64)))],[(1000000000,63,(.st (.pr (.int .i64) (.pr (.int .i64) (.pr (.int .i64) (.sl 2 (.int .i64)))))),false)],[]⟩
def zum_:Head:=⟨[(0,(.val (.int .i64)))],[(1000000000,63,(.st (.pr (.int .i64) (.pr (.int .i64) (.pr (.int .i64) (.sl 2 (.int .i64)))))),false)],[]⟩
def zun_ (k:Nat):OC:=⟨z16m_,zum_,fun x=>zg5_ k x.1.2.1 x.2.1.1,false⟩
theorem z16n_ (k:Nat) (pins:Nat→Value) (pinB:Nat→Nat):zd_ (z4_ ti [] (lk [(39,36,zg4_ k)]) pins pinB) (zul_ k) (rdO (z4_ ti [] (lk [(39,36,zg4_ k)]) pins pinB) [.tmp 4] zum_) ((zb_ (z2_ Tryz.f37)).getD 0 .skip) (fun σ kx=>zg6_.get σ fun x=>zmn_ k k x kx):=by
 refine ⟨zg6_,[(0,zuk_)],fun n x kx=>zmn_ k n x kx,k,by kernel_rfl,by kernel_rfl,fun x kx=>by kernel_rfl,?_,fun σ kx=>rfl⟩
 rintro n ⟨⟨⟨⟩,k1,i5,⟨⟩⟩,⟨q_2,⟨⟩⟩,⟨⟩⟩ kx
 kernel_rfl
theorem z16o_ (k:Nat):z18_ Tryz.prog ti 37 (zun_ k):=by
 refine z45_ (tab:=[]) (l:=[(39,36,zg4_ k)]) z8_ z9_ mix (List.forall_mem_nil _) (List.forall_mem_cons.2 ⟨z16l_ k,(List.forall_mem_nil _)⟩) ⟨by kernel_rfl,by kernel_rfl,by kernel_rfl,Tryz.f37,(z2_ Tryz.f37),[.tmp 4],(zul_ k),by kernel_rfl,by kernel_rfl,by kernel_rfl,by kernel_rfl,Nat.le_of_ble_eq_true (by kernel_rfl),fun pins pinB=>⟨⟨by kernel_rfl,?_,?_⟩,?_⟩⟩
 ·refine zi_ (n:=1) (by kernel_rfl) fun i hi=>?_
  match i,hi with
  | 0,_=>exact ze_ (by kernel_rfl) (z16n_ k pins pinB)
  | n+1,hi=>omega
 ·exact z7_ (by kernel_rfl)
 ·rintro ⟨⟨⟨⟩,k1,⟨⟩⟩,⟨q_1,⟨⟩⟩,⟨⟩⟩
  kernel_rfl
def zmo_ (k:Nat) (a0ba:Int) (k1:Int) (q_1:List (List Int)) (q_2:List Int) (q_3:List (Int×Int×Int×List Int)):Option (((Int×Unit)×(zT2×(List Int)×zT1×Unit)×Unit)):=(zmp_ k k1 q_1).bind fun y_4=>(zg7_ k y_4.1.1 q_2).bind fun y_5=>(zg5_ k y_5.1.1 q_3).bind fun y_6=>some ((y_6.1.1,()),(y_6.2.1.1,y_5.2.1.1,y_4.2.1.1,()),())
def z16p_:Head:=⟨[(0,(.st (.pr (.st (.ref 1000000000 [])) (.pr (.val (.int .i64)) (.pr (.ref 1000000001 []) (.ref 1000000002 [])))))),(1,(.val (.int .i64)))],[(1000000000,25,(.sl 2 (.int .i64)),false),(1000000001,2,(.int .i64),false),(1000000002,63,(.st (.pr (.int .i64) (.pr (.int .i64) (.pr (.int .i64) (.sl 2 (.int .i64)))))),false)],[]⟩
def z16q_:Head:=⟨[(0,(.val (.int .i64)))],[(1000000002,63,(.st (.pr (.int .i64) (.pr (.int .i64) (.pr (.int .i64) (.sl 2 (.int .i64)))))),false),(1000000001,2,(.int .i64),false),(1000000000,25,(.sl 2 (.int .i64)),false)],[]⟩
def zuo_ (k:Nat):OC:=⟨z16p_,z16q_,fun x=>zmo_ k x.1.1.2.1 x.1.2.1 x.2.1.1 x.2.1.2.1 x.2.1.2.2.1,false⟩
theorem z16r_ (k:Nat):z18_ Tryz.prog ti 10 (zuo_ k):=by
 refine z45_ (tab:=[]) (l:=[(8,35,zup_ k),(12,36,zuq_ k),(16,37,zun_ k)]) z8_ z9_ mix (List.forall_mem_nil _) (List.forall_mem_cons.2 ⟨z16s_ k,(List.forall_mem_cons.2 ⟨z16t_ k,(List.forall_mem_cons.2 ⟨z16o_ k,(List.forall_mem_nil _)⟩)⟩)⟩) ⟨by kernel_rfl,by kernel_rfl,by kernel_rfl,Tryz.f10,(z2_ Tryz.f10),[.tmp 4],(LOn (((Int×Unit)×(zT2×(List Int)×zT1×Unit)×Unit))),by kernel_rfl,by kernel_rfl,by kernel_rfl,by kernel_rfl,Nat.le_of_ble_eq_true (by kernel_rfl),fun pins pinB=>⟨⟨by kernel_rfl,?_,?_⟩,?_⟩⟩
 ·exact zl_ (by kernel_rfl)
 ·exact z7_ (by kernel_rfl)
 ·rintro ⟨⟨⟨⟨⟩,⟨a0ba,⟨⟨⟩,⟨⟩⟩⟩⟩,k1,⟨⟩⟩,⟨q_1,q_2,q_3,⟨⟩⟩,⟨⟩⟩
  kernel_rfl
def z7z_ (k:Nat):Nat→Int→(List UInt8)→((List UInt8)→Option (List UInt8))→Option (List UInt8)
 | 0,_,_,_=>none
 | n+1,k0,out3,e_0=>(if (decide (0<k0))=true then (if (to_S [(w_u8 ((z0_ (48+(Int.tmod k0 10)))))]).length+out3.length≤9223372036854775807 then z7z_ k n (z0_ (Int.tdiv k0 10)) ((to_S [(w_u8 ((z0_ (48+(Int.tmod k0 10)))))])++out3) e_0 else none) else e_0 out3)
def z5c_ (k:Nat) (k0:Int):Option (List UInt8):=(if (decide (k0≤0))=true then some [109,48] else z7z_ k k k0 [] (fun out_1=>(if [109].length+out_1.length≤9223372036854775807 then some ([109]++out_1) else none)))
def zg8_:Head:=⟨[(0,(.val (.int .i64))),(3,(.val .str))],[],[]⟩
def zur_:Head:=⟨[(3,(.val .str))],[],[]⟩
def zmq_ (k:Nat) (n:Nat) (x:zg8_.T) (kx:Nat→St→Option (List UInt8)):Option (List UInt8):=z7z_ k n x.1.1 x.1.2.1 (fun (out3:List UInt8)=>kx 0 (zur_.fill ((out3,()),(),())))
def zus_ (k:Nat):Oracles (List UInt8):=⟨fun n=>bif Nat.beq n 4 then some (fun σ kx=>zg8_.get σ fun x=>zmq_ k k x kx) else none,fun _=>none⟩
def z80_ (k:Nat):FE:=⟨(.int .i64),1,.str,fun x=>z5c_ k x⟩
theorem z16u_ (k:Nat):zd_ (z4_ ti [] (lk []) z5_ z6_) (zus_ k) (rdC (z4_ ti [] (lk []) z5_ z6_) [.tmp 2] .str) ((zb_ (z2_ Tryz.f38)).getD 0 .skip) (fun σ kx=>zg8_.get σ fun x=>zmq_ k k x kx):=by
 refine ⟨zg8_,[(0,zur_)],fun n x kx=>zmq_ k n x kx,k,by kernel_rfl,by kernel_rfl,fun x kx=>by kernel_rfl,?_,fun σ kx=>rfl⟩
 rintro n ⟨⟨k0,out3,⟨⟩⟩,⟨⟩,⟨⟩⟩ kx
 kernel_rfl
theorem zut_ (k:Nat):FnOK Tryz.prog 38 (z80_ k):=by
 refine za_ (tab:=[]) (l:=[]) z8_ z9_ mix (List.forall_mem_nil _) (List.forall_mem_nil _) ⟨⟨Tryz.f38,(z2_ Tryz.f38),[.tmp 2],(zus_ k),by kernel_rfl,by kernel_rfl,by kernel_rfl,by kernel_rfl,rfl,by decide,⟨by kernel_rfl,?_,?_⟩,?_⟩⟩
 ·refine zi_ (n:=1) (by kernel_rfl) fun i hi=>?_
  match i,hi with
  | 0,_=>exact ze_ (by kernel_rfl) (z16u_ k)
  | n+1,hi=>omega
 ·exact z7_ (by kernel_rfl)
 ·rintro k0
  kernel_rfl
def za8_ (k:Nat):Nat→Int→Int→zT4→(Int→zT4→Option (((Int×Unit)×(zT4×Unit)×Unit)))→Option (((Int×Unit)×(zT4×Unit)×Unit))
 | 0,_,_,_,_=>none
 | n+1,k1,i5,q_2,e_0=>(if (decide (i5<(List.length q_2:Int)))=true then (z5c_ k k1).bind fun r_3=>(if 0≤i5∧i5.toNat<List.length q_2 then (q_2[i5.toNat]?).bind fun y_4=>(q_2[i5.toNat]?).bind fun y_5=>za8_ k n (z0_ (k1+1)) (z0_ (i5+1)) (q_2.set i5.toNat r_3) e_0 else none) else e_0 k1 q_2)
def zg9_ (k:Nat) (k1:Int) (q_1:List (List UInt8)):Option (((Int×Unit)×(zT4×Unit)×Unit)):=za8_ k k k1 0 q_1 (fun k_6 q_7=>some ((k_6,()),(q_7,()),()))
def zga_:Head:=⟨[(0,(.ref 1000000000 [])),(1,(.val (.int .i64))),(5,(.val (.int .i64)))],[(1000000000,9,.str,false)],[]⟩
def zuu_:Head:=⟨[(1,(.val (.int .i64)))],[(1000000000,9,.str,false)],[]⟩
def zmr_ (k:Nat) (n:Nat) (x:zga_.T) (kx:Nat→St→Option (((Int×Unit)×(zT4×Unit)×Unit))):Option (((Int×Unit)×(zT4×Unit)×Unit)):=za8_ k n x.1.2.1 x.1.2.2.1 x.2.1.1 (fun (k1:Int) (q_6:List (List UInt8))=>kx 0 (zuu_.fill ((k1,()),(q_6,()),())))
def zuv_ (k:Nat):Oracles (((Int×Unit)×(zT4×Unit)×Unit)):=⟨fun n=>bif Nat.beq n 2 then some (fun σ kx=>zga_.get σ fun x=>zmr_ k k x kx) else none,fun _=>none⟩
def z16v_:Head:=⟨[(0,(.ref 1000000000 [])),(1,(.val (.int .i64)))],[(1000000000,9,.str,false)],[]⟩
def zuw_:Head:=⟨[(0,(.val (.int .i64)))],[(1000000000,9,.str,false)],[]⟩
def zux_ (k:Nat):OC:=⟨z16v_,zuw_,fun x=>zg9_ k x.1.2.1 x.2.1.1,false⟩
theorem z16w_ (k:Nat) (pins:Nat→Value) (pinB:Nat→Nat):zd_ (z4_ ti [(38,z80_ k)] (lk []) pins pinB) (zuv_ k) (rdO (z4_ ti [(38,z80_ k)] (lk []) pins pinB) [.tmp 4] zuw_) ((zb_ (z2_ Tryz.f11)).getD 0 .skip) (fun σ kx=>zga_.get σ fun x=>zmr_ k k x kx):=by
 refine ⟨zga_,[(0,zuu_)],fun n x kx=>zmr_ k n x kx,k,by kernel_rfl,by kernel_rfl,fun x kx=>by kernel_rfl,?_,fun σ kx=>rfl⟩
 rintro n ⟨⟨⟨⟩,k1,i5,⟨⟩⟩,⟨q_2,⟨⟩⟩,⟨⟩⟩ kx
 kernel_rfl
theorem z16x_ (k:Nat):z18_ Tryz.prog ti 11 (zux_ k):=by
 refine z45_ (tab:=[(38,z80_ k)]) (l:=[]) z8_ z9_ mix (List.forall_mem_cons.2 ⟨zut_ k,(List.forall_mem_nil _)⟩) (List.forall_mem_nil _) ⟨by kernel_rfl,by kernel_rfl,by kernel_rfl,Tryz.f11,(z2_ Tryz.f11),[.tmp 4],(zuv_ k),by kernel_rfl,by kernel_rfl,by kernel_rfl,by kernel_rfl,Nat.le_of_ble_eq_true (by kernel_rfl),fun pins pinB=>⟨⟨by kernel_rfl,?_,?_⟩,?_⟩⟩
 ·refine zi_ (n:=1) (by kernel_rfl) fun i hi=>?_
  match i,hi with
  | 0,_=>exact ze_ (by kernel_rfl) (z16w_ k pins pinB)
  | n+1,hi=>omega
 ·exact z7_ (by kernel_rfl)
 ·rintro ⟨⟨⟨⟩,k1,⟨⟩⟩,⟨q_1,⟨⟩⟩,⟨⟩⟩
  kernel_rfl
def za9_ (k:Nat):Nat→zT4→Int→Int→(Int→Option Int)→Option Int
 | 0,_,_,_,_=>none
 | n+1,a0,k1,i5,e_0=>(if (decide (i5<(List.length a0:Int)))=true then (if 0≤i5 then (a0[i5.toNat]?).bind fun y_1=>(z5c_ k k1).bind fun r_2=>(if (!(decide (y_1=r_2)))=true then some (-1) else za9_ k n a0 (z0_ (k1+1)) (z0_ (i5+1)) e_0) else none) else e_0 k1)
def zcx_ (k:Nat) (a0:List (List UInt8)) (k1:Int):Option Int:=za9_ k k a0 k1 0 (fun k_3=>some k_3)
def zgb_:Head:=⟨[(0,(.val (.sl 9 .str))),(1,(.val (.int .i64))),(5,(.val (.int .i64)))],[],[]⟩
def zuy_:Head:=⟨[(1,(.val (.int .i64)))],[],[]⟩
def zms_ (k:Nat) (n:Nat) (x:zgb_.T) (kx:Nat→St→Option Int):Option Int:=za9_ k n x.1.1 x.1.2.1 x.1.2.2.1 (fun (k1:Int)=>kx 0 (zuy_.fill ((k1,()),(),())))
def zuz_ (k:Nat):Oracles Int:=⟨fun n=>bif Nat.beq n 2 then some (fun σ kx=>zgb_.get σ fun x=>zms_ k k x kx) else none,fun _=>none⟩
def zv0_ (k:Nat):FE:=⟨(.pr (.sl 9 .str) (.int .i64)),1,(.int .i64),fun x=>zcx_ k x.1 x.2⟩
theorem z16y_ (k:Nat):zd_ (z4_ ti [(38,z80_ k)] (lk []) z5_ z6_) (zuz_ k) (rdC (z4_ ti [(38,z80_ k)] (lk []) z5_ z6_) [.tmp 4] (.int .i64)) ((zb_ (z2_ Tryz.f12)).getD 0 .skip) (fun σ kx=>zgb_.get σ fun x=>zms_ k k x kx):=by
 refine ⟨zgb_,[(0,zuy_)],fun n x kx=>zms_ k n x kx,k,by kernel_rfl,by kernel_rfl,fun x kx=>by kernel_rfl,?_,fun σ kx=>rfl⟩
 rintro n ⟨⟨a0,k1,i5,⟨⟩⟩,⟨⟩,⟨⟩⟩ kx
 kernel_rfl
theorem z16z_ (k:Nat):FnOK Tryz.prog 12 (zv0_ k):=by
 refine za_ (tab:=[(38,z80_ k)]) (l:=[]) z8_ z9_ mix (List.forall_mem_cons.2 ⟨zut_ k,(List.forall_mem_nil _)⟩) (List.forall_mem_nil _) ⟨⟨Tryz.f12,(z2_ Tryz.f12),[.tmp 4],(zuz_ k),by kernel_rfl,by kernel_rfl,by kernel_rfl,by kernel_rfl,rfl,by decide,⟨by kernel_rfl,?_,?_⟩,?_⟩⟩
 ·refine zi_ (n:=1) (by kernel_rfl) fun i hi=>?_
  match i,hi with
  | 0,_=>exact ze_ (by kernel_rfl) (z16y_ k)
  | n+1,hi=>omega
 ·exact z7_ (by kernel_rfl)
 ·rintro ⟨a0,k1⟩
  kernel_rfl
def zgc_ (k:Nat) (aS0:List (List Int)×Int×List Int×List (Int×Int×Int×List Int)):Option Bool:=(zfk_ k aS0 1048576).bind fun r_1=>(if (decide (r_1<0))=true then some true else (z7x_ k aS0).bind fun r_2=>(zgd_ k (r_2.1,(r_2.2.1,(r_2.2.2.1,r_2.2.2.2)))).bind fun r_3=>(z7x_ k aS0).bind fun r_4=>(zcy_ k (r_4.1,(r_4.2.1,(r_4.2.2.1,r_4.2.2.2)))).bind fun r_5=>(zaa_ k r_5.1 r_3.1).bind fun r_6=>(if (!r_6)=true then some false else (if (!(decide (r_5.2=r_3.2)))=true then some false else (z7x_ k aS0).bind fun r_7=>(zge_ k (r_4.1,(r_4.2.1,(r_4.2.2.1,r_4.2.2.2))) (r_7.1,(r_7.2.1,(r_7.2.2.1,r_7.2.2.2)))).bind fun r_8=>(if (!r_8)=true then some false else (zmo_ k r_4.2.1 1 r_4.1 r_4.2.2.1 r_4.2.2.2).bind fun y_9=>(if (decide (y_9.1.1<0))=true then some false else (zaa_ k r_5.1 r_3.1).bind fun r_10=>(if (!r_10)=true then some false else (if (!(decide (r_5.2=r_3.2)))=true then some false else (zg9_ k 1 r_5.1).bind fun y_11=>(zcx_ k y_11.2.1.1 1).bind fun r_12=>(if (decide (r_12<0))=true then some false else (if (!(decide (r_12=y_11.1.1)))=true then some false else (z7x_ k aS0).bind fun r_13=>(zcy_ k (r_13.1,(r_13.2.1,(r_13.2.2.1,r_13.2.2.2)))).bind fun r_14=>(zaa_ k r_14.1 r_3.1).bind fun r_15=>(if (!r_15)=true then some false else (if (!(decide (r_14.2=r_3.2)))=true then some false else (zcx_ k y_11.2.1.1 1).bind fun r_16=>(if (decide (r_16<0))=true then some false else (if (!(decide (r_16=y_11.1.1)))=true then some false else some true)))))))))))))
def z170_ (k:Nat):FE:=⟨(.st (.pr (.st (.sl 25 (.sl 2 (.int .i64)))) (.pr (.int .i64) (.pr (.sl 2 (.int .i64)) (.sl 73 (.st (.pr (.int .i64) (.pr (.int .i64) (.pr (.int .i64) (.sl 2 (.int .i64))))))))))),1,.bool,fun x=>zgc_ k x⟩
theorem z171_ (k:Nat):FnOK Tryz.prog 3 (z170_ k):=by
 refine za_ (tab:=[(4,ztu_ k),(6,zu4_ k),(5,zv1_ k),(7,zv2_ k),(8,zv3_ k),(9,zv4_ k),(12,zv0_ k)]) (l:=[(48,10,zuo_ k),(64,11,zux_ k)]) z8_ z9_ mix (List.forall_mem_cons.2 ⟨z162_ k,(List.forall_mem_cons.2 ⟨z16a_ k,(List.forall_mem_cons.2 ⟨z172_ k,(List.forall_mem_cons.2 ⟨z173_ k,(List.forall_mem_cons.2 ⟨z174_ k,(List.forall_mem_cons.2 ⟨z175_ k,(List.forall_mem_cons.2 ⟨z16z_ k,(List.forall_mem_nil _)⟩)⟩)⟩)⟩)⟩)⟩)⟩) (List.forall_mem_cons.2 ⟨z16r_ k,(List.forall_mem_cons.2 ⟨z16x_ k,(List.forall_mem_nil _)⟩)⟩) ⟨⟨Tryz.f3,(z2_ Tryz.f3),[.tmp 2],(LOn Bool),by kernel_rfl,by kernel_rfl,by kernel_rfl,by kernel_rfl,rfl,by decide,⟨by kernel_rfl,?_,?_⟩,?_⟩⟩
 ·exact zl_ (by kernel_rfl)
 ·exact z7_ (by kernel_rfl)
 ·rintro aS0
  kernel_rfl
end
end Go.Proofs.YthpamdpneanlpaaGreatDoor.Ev
