/- Functions of the program, as plain ones. No conditions. -/
import Derived.Test.YthpamdpneanlpaaGreatDoorG2
import Derived.KernelRfl
set_option linter.unusedVariables false
set_option maxRecDepth 100000
namespace Go.Proofs.YthpamdpneanlpaaGreatDoor.Ev
open Go.RowKit
noncomputable section
def z5g_ (k:Nat):Nat→Int→Int→(List Int)→(Int→(List Int)→Option (List UInt8))→Option (List UInt8)
 | 0,_,_,_,_=>none
 | n+1,n0,m4,q_1,e_0=>(if (!(decide (m4=0)))=true then (if (decide ((Int.tmod m4 10)<0))=true then (if (q_1.length+[(w_u8 ((z0_ (48+(z0_ (0-(Int.tmod m4 10)))))))].length)*1≤LIM then z5g_ k n n0 (z0_ (Int.tdiv m4 10)) (q_1++[(w_u8 ((z0_ (48+(z0_ (0-(Int.tmod m4 10)))))))]) e_0 else none) else (if (q_1.length+[(w_u8 ((z0_ (48+(Int.tmod m4 10)))))].length)*1≤LIM then z5g_ k n n0 (z0_ (Int.tdiv m4 10)) (q_1++[(w_u8 ((z0_ (48+(Int.tmod m4 10)))))]) e_0 else none)) else e_0 n0 q_1)
def z86_ (k:Nat):Nat→Int→(List Int)→(List Int)→((List Int)→Option (List UInt8))→Option (List UInt8)
 | 0,_,_,_,_=>none
 | n+1,i7,q_4,q_5,e_2=>(if (decide (0≤i7))=true then (if 0≤i7∧i7.toNat<List.length q_4 then (q_4[i7.toNat]?).bind fun y_6=>(if (q_5.length+[y_6].length)*1≤LIM then z86_ k n (z0_ (i7-1)) q_4 (q_5++[y_6]) e_2 else none) else none) else e_2 q_5)
def zal_ (k:Nat) (n0:Int):Option (List UInt8):=(if (decide (n0=0))=true then some [48] else z5g_ k k n0 n0 [] (fun n_2 q_3=>(if (decide (n_2<0))=true then (if (q_3.length+[45].length)*1≤LIM then z86_ k k (z0_ ((List.length (q_3++[45]):Int)-1)) (q_3++[45]) [] (fun q_7=>some (to_S q_7)) else none) else z86_ k k (z0_ ((List.length q_3:Int)-1)) q_3 [] (fun q_8=>some (to_S q_8)))))
def zgy_:Head:=⟨[(0,(.val (.int .i64))),(3,(.ref 64000000 [])),(4,(.val (.int .i64)))],[(64000000,5,(.int .u8),false)],[]⟩
def zvs_:Head:=⟨[(0,(.val (.int .i64))),(3,(.ref 64000000 []))],[(64000000,5,(.int .u8),false)],[]⟩
def zn9_ (k:Nat) (n:Nat) (x:zgy_.T) (kx:Nat→St→Option (List UInt8)):Option (List UInt8):=z5g_ k n x.1.1 x.1.2.2.1 x.2.1.1 (fun (n0:Int) (q_2:List Int)=>kx 0 (zvs_.fill ((n0,(),()),(q_2,()),())))
def zgz_:Head:=⟨[(3,(.ref 64000000 [])),(6,(.ref 64000001 [])),(7,(.val (.int .i64)))],[(64000000,5,(.int .u8),false),(64000001,5,(.int .u8),false)],[]⟩
def zvt_:Head:=⟨[(6,(.ref 64000000 []))],[(64000000,5,(.int .u8),false)],[]⟩
def zna_ (k:Nat) (n:Nat) (x:zgz_.T) (kx:Nat→St→Option (List UInt8)):Option (List UInt8):=z86_ k n x.1.2.2.1 x.2.1.1 x.2.1.2.1 (fun (q_7:List Int)=>kx 2 (zvt_.fill (((),()),(q_7,()),())))
def znb_ (k:Nat):Oracles (List UInt8):=⟨fun n=>bif Nat.beq n 5 then some (fun σ kx=>zgy_.get σ fun x=>zn9_ k k x kx) else bif Nat.beq n 15 then some (fun σ kx=>zgz_.get σ fun x=>zna_ k k x kx) else none,fun _=>none⟩
def z6i_ (k:Nat):FE:=⟨(.int .i64),1,.str,fun x=>zal_ k x⟩
theorem z17q_ (k:Nat):zd_ (z4_ ti [] (lk []) z5_ z6_) (znb_ k) (rdC (z4_ ti [] (lk []) z5_ z6_) [.tmp 2] .str) ((zb_ (z2_ Tryz.f17)).getD 0 .skip) (fun σ kx=>zgy_.get σ fun x=>zn9_ k k x kx):=by
 refine ⟨zgy_,[(0,zvs_)],fun n x kx=>zn9_ k n x kx,k,by kernel_rfl,by kernel_rfl,fun x kx=>by kernel_rfl,?_,fun σ kx=>rfl⟩
 rintro n ⟨⟨n0,⟨⟩,m4,⟨⟩⟩,⟨q_1,⟨⟩⟩,⟨⟩⟩ kx
 kernel_rfl
theorem z17r_ (k:Nat):zd_ (z4_ ti [] (lk []) z5_ z6_) (znb_ k) (rdC (z4_ ti [] (lk []) z5_ z6_) [.tmp 2] .str) ((zb_ (z2_ Tryz.f17)).getD 1 .skip) (fun σ kx=>zgz_.get σ fun x=>zna_ k k x kx):=by
 refine ⟨zgz_,[(2,zvt_)],fun n x kx=>zna_ k n x kx,k,by kernel_rfl,by kernel_rfl,fun x kx=>by kernel_rfl,?_,fun σ kx=>rfl⟩
 rintro n ⟨⟨⟨⟩,⟨⟩,i7,⟨⟩⟩,⟨q_4,q_5,⟨⟩⟩,⟨⟩⟩ kx
 kernel_rfl
theorem z17s_ (k:Nat):FnOK Tryz.prog 17 (z6i_ k):=by
 refine za_ (tab:=[]) (l:=[]) z8_ z9_ mix (List.forall_mem_nil _) (List.forall_mem_nil _) ⟨⟨Tryz.f17,(z2_ Tryz.f17),[.tmp 2],(znb_ k),by kernel_rfl,by kernel_rfl,by kernel_rfl,by kernel_rfl,rfl,by decide,⟨by kernel_rfl,?_,?_⟩,?_⟩⟩
 ·refine zi_ (n:=2) (by kernel_rfl) fun i hi=>?_
  match i,hi with
  | 0,_=>exact ze_ (by kernel_rfl) (z17q_ k)
  | 1,_=>exact ze_ (by kernel_rfl) (z17r_ k)
  | n+2,hi=>omega
 ·exact z7_ (by kernel_rfl)
 ·rintro n0
  kernel_rfl
def zh0_ (k:Nat) (simplex1:Int) (i2:Int) (v_1000000000:List (List Int)×Int×List Int×List (Int×Int×Int×List Int)):Option ((((Int×Int×Int×List Int)×Unit)×Unit×(zT0×Unit))):=(zag_ k v_1000000000.1 simplex1 i2).bind fun r_1=>(if 0≤r_1 then (v_1000000000.2.2.2[r_1.toNat]?).bind fun y_2=>some ((y_2,()),(),(v_1000000000,())) else none)
def z17t_:Head:=⟨[(0,(.bp 1000000000 [] 0)),(1,(.val (.int .i64))),(2,(.val (.int .i64)))],[],[(1000000000,36,(.val (.st (.pr (.st (.sl 25 (.sl 2 (.int .i64)))) (.pr (.int .i64) (.pr (.sl 2 (.int .i64)) (.sl 63 (.st (.pr (.int .i64) (.pr (.int .i64) (.pr (.int .i64) (.sl 2 (.int .i64)))))))))))))]⟩
def z17u_:Head:=⟨[(0,(.val (.ptr (.st (.pr (.int .i64) (.pr (.int .i64) (.pr (.int .i64) (.sl 2 (.int .i64)))))))))],[],[(1000000000,36,(.val (.st (.pr (.st (.sl 25 (.sl 2 (.int .i64)))) (.pr (.int .i64) (.pr (.sl 2 (.int .i64)) (.sl 63 (.st (.pr (.int .i64) (.pr (.int .i64) (.pr (.int .i64) (.sl 2 (.int .i64)))))))))))))]⟩
def z6j_ (k:Nat):OC:=⟨z17t_,z17u_,fun x=>zh0_ k x.1.2.1 x.1.2.2.1 x.2.2.1,false⟩
theorem z17v_ (k:Nat):z18_ Tryz.prog ti 20 (z6j_ k):=by
 refine z45_ (tab:=[(46,z6f_ k)]) (l:=[]) z8_ z9_ mix (List.forall_mem_cons.2 ⟨zn3_ k,(List.forall_mem_nil _)⟩) (List.forall_mem_nil _) ⟨by kernel_rfl,by kernel_rfl,by kernel_rfl,Tryz.f20,(z2_ Tryz.f20),[.tmp 6],(LOn ((((Int×Int×Int×List Int)×Unit)×Unit×(zT0×Unit)))),by kernel_rfl,by kernel_rfl,by kernel_rfl,by kernel_rfl,Nat.le_of_ble_eq_true (by kernel_rfl),fun pins pinB=>⟨⟨by kernel_rfl,?_,?_⟩,?_⟩⟩
 ·exact zl_ (by kernel_rfl)
 ·exact z7_ (by kernel_rfl)
 ·rintro ⟨⟨⟨⟩,simplex1,i2,⟨⟩⟩,⟨⟩,⟨v_1000000000,⟨⟩⟩⟩
  kernel_rfl
def zam_ (k:Nat):Nat→Int→Int→Int→Int→(Int→Option Int)→Option Int
 | 0,_,_,_,_,_=>none
 | n+1,a0,p1,out5,n6,e_0=>(if (decide (0<n6))=true then (if p1=0 then none else zam_ k n a0 p1 (Int.tmod (z0_ (out5*a0)) p1) (z0_ (n6-1)) e_0) else e_0 out5)
def zd2_ (k:Nat) (a0:Int) (p1:Int):Option Int:=zam_ k k a0 p1 1 (z0_ (p1-2)) (fun out_1=>some out_1)
def zh1_:Head:=⟨[(0,(.val (.int .i64))),(1,(.val (.int .i64))),(5,(.val (.int .i64))),(6,(.val (.int .i64)))],[],[]⟩
def zvu_:Head:=⟨[(5,(.val (.int .i64)))],[],[]⟩
def znc_ (k:Nat) (n:Nat) (x:zh1_.T) (kx:Nat→St→Option Int):Option Int:=zam_ k n x.1.1 x.1.2.1 x.1.2.2.1 x.1.2.2.2.1 (fun (out5:Int)=>kx 0 (zvu_.fill ((out5,()),(),())))
def zvv_ (k:Nat):Oracles Int:=⟨fun n=>bif Nat.beq n 3 then some (fun σ kx=>zh1_.get σ fun x=>znc_ k k x kx) else none,fun _=>none⟩
def z3a_ (k:Nat):FE:=⟨(.pr (.int .i64) (.int .i64)),1,(.int .i64),fun x=>zd2_ k x.1 x.2⟩
theorem z17w_ (k:Nat):zd_ (z4_ ti [] (lk []) z5_ z6_) (zvv_ k) (rdC (z4_ ti [] (lk []) z5_ z6_) [.tmp 4] (.int .i64)) ((zb_ (z2_ Tryz.f78)).getD 0 .skip) (fun σ kx=>zh1_.get σ fun x=>znc_ k k x kx):=by
 refine ⟨zh1_,[(0,zvu_)],fun n x kx=>znc_ k n x kx,k,by kernel_rfl,by kernel_rfl,fun x kx=>by kernel_rfl,?_,fun σ kx=>rfl⟩
 rintro n ⟨⟨a0,p1,out5,n6,⟨⟩⟩,⟨⟩,⟨⟩⟩ kx
 kernel_rfl
theorem z17x_ (k:Nat):FnOK Tryz.prog 78 (z3a_ k):=by
 refine za_ (tab:=[]) (l:=[]) z8_ z9_ mix (List.forall_mem_nil _) (List.forall_mem_nil _) ⟨⟨Tryz.f78,(z2_ Tryz.f78),[.tmp 4],(zvv_ k),by kernel_rfl,by kernel_rfl,by kernel_rfl,by kernel_rfl,rfl,by decide,⟨by kernel_rfl,?_,?_⟩,?_⟩⟩
 ·refine zi_ (n:=1) (by kernel_rfl) fun i hi=>?_
  match i,hi with
  | 0,_=>exact ze_ (by kernel_rfl) (z17w_ k)
  | n+1,hi=>omega
 ·exact z7_ (by kernel_rfl)
 ·rintro ⟨a0,p1⟩
  kernel_rfl
def zh2_ (n0:Int) (p1:Int):Option Int:=(if p1=0 then none else (if p1=0 then none else some (Int.tmod (z0_ ((Int.tmod n0 p1)+p1)) p1)))
def z3b_:FE:=⟨(.pr (.int .i64) (.int .i64)),1,(.int .i64),fun x=>zh2_ x.1 x.2⟩
theorem z17y_:FnOK Tryz.prog 79 (z3b_):=by
 refine za_ (tab:=[]) (l:=[]) z8_ z9_ mix (List.forall_mem_nil _) (List.forall_mem_nil _) ⟨⟨Tryz.f79,(z2_ Tryz.f79),[.tmp 4],(LOn Int),by kernel_rfl,by kernel_rfl,by kernel_rfl,by kernel_rfl,rfl,by decide,⟨by kernel_rfl,?_,?_⟩,?_⟩⟩
 ·exact zl_ (by kernel_rfl)
 ·exact z7_ (by kernel_rfl)
 ·rintro ⟨n0,p1⟩
  kernel_rfl
end
end Go.Proofs.YthpamdpneanlpaaGreatDoor.Ev
