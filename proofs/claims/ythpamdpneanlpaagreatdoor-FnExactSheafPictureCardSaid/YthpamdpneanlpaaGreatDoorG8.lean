/- Functions of the program, as plain ones. No conditions. -/
import Derived.Test.YthpamdpneanlpaaGreatDoorG7
import Derived.KernelRfl
set_option linter.unusedVariables false
set_option maxRecDepth 100000
namespace Go.Proofs.YthpamdpneanlpaaGreatDoor.Ev
open Go.RowKit
noncomputable section
def zj8_ (k:Nat) (s0:List (List Int)×Int×List Int×List (Int×Int×Int×List Int)) (simplex1:Int) (place2:Int):Option (Int×Int×Int×List Int):=(zj6_ k s0 simplex1).bind fun r_1=>(if 0≤(z0_ (r_1+place2)) then (s0.2.2.2[(z0_ (r_1+place2)).toNat]?).bind fun y_2=>some y_2 else none)
def z6z_ (k:Nat):FE:=⟨(.pr (.st (.pr (.st (.sl 25 (.sl 2 (.int .i64)))) (.pr (.int .i64) (.pr (.sl 2 (.int .i64)) (.sl 63 (.st (.pr (.int .i64) (.pr (.int .i64) (.pr (.int .i64) (.sl 2 (.int .i64))))))))))) (.pr (.int .i64) (.int .i64))),RON,(.st (.pr (.int .i64) (.pr (.int .i64) (.pr (.int .i64) (.sl 2 (.int .i64)))))),fun x=>zj8_ k x.1 x.2.1 x.2.2⟩
theorem z1a9_ (k:Nat):FnOK Tryz.prog 30 (z6z_ k):=by
 refine ztf_ (tab:=[(65,zy4_ k)]) (l:=[]) z8_ z9_ mix (List.forall_mem_cons.2 ⟨z1a8_ k,(List.forall_mem_nil _)⟩) (List.forall_mem_nil _) ⟨by kernel_rfl,⟨Tryz.f30,(z2_ Tryz.f30),[.cell 6 63],(LOn (Int×Int×Int×List Int)),by kernel_rfl,by kernel_rfl,by kernel_rfl,by kernel_rfl,by decide,⟨by kernel_rfl,?_,?_⟩,?_⟩⟩
 ·exact zl_ (by kernel_rfl)
 ·exact z7_ (by kernel_rfl)
 ·rintro ⟨s0,simplex1,place2⟩
  kernel_rfl
def zj9_ (m0:Int×Int×Int×List Int) (i1:Int):Option (List Int):=(if 0≤(z0_ (i1*m0.2.2.1))∧(z0_ (i1*m0.2.2.1))≤(z0_ ((z0_ (i1+1))*m0.2.2.1))∧(z0_ ((z0_ (i1+1))*m0.2.2.1))≤m0.2.2.2.length then some ((m0.2.2.2.drop ((z0_ (i1*m0.2.2.1)).toNat)).take ((z0_ ((z0_ (i1+1))*m0.2.2.1)).toNat-(z0_ (i1*m0.2.2.1)).toNat)) else none)
def zja_:FE:=⟨(.pr (.st (.pr (.int .i64) (.pr (.int .i64) (.pr (.int .i64) (.sl 2 (.int .i64)))))) (.int .i64)),RON,(.sl 2 (.int .i64)),fun x=>zj9_ x.1 x.2⟩
theorem z1aa_:FnOK Tryz.prog 99 (zja_):=by
 refine ztf_ (tab:=[]) (l:=[]) z8_ z9_ mix (List.forall_mem_nil _) (List.forall_mem_nil _) ⟨by kernel_rfl,⟨Tryz.f99,(z2_ Tryz.f99),[.tmp 4],(LOn (List Int)),by kernel_rfl,by kernel_rfl,by kernel_rfl,by kernel_rfl,by decide,⟨by kernel_rfl,?_,?_⟩,?_⟩⟩
 ·exact zl_ (by kernel_rfl)
 ·exact z7_ (by kernel_rfl)
 ·rintro ⟨m0,i1⟩
  kernel_rfl
def zjb_ (s0:List Int):Option (List Int):=(if List.isEmpty s0=true then both (some []) ((if (([]:List Unit).length+s0.length)*8≤LIM then some s0 else none)) else (if (([]:List Unit).length+s0.length)*8≤LIM then some s0 else none))
def zjc_:FE:=⟨(.sl 2 (.int .i64)),1,(.sl 2 (.int .i64)),fun x=>zjb_ x⟩
theorem z1ab_:FnOK Tryz.prog 98 (zjc_):=by
 refine za_ (tab:=[]) (l:=[]) z8_ z9_ mix (List.forall_mem_nil _) (List.forall_mem_nil _) ⟨⟨Tryz.f98,(z2_ Tryz.f98),[.tmp 2],(LOn (List Int)),by kernel_rfl,by kernel_rfl,by kernel_rfl,by kernel_rfl,rfl,by decide,⟨by kernel_rfl,?_,?_⟩,?_⟩⟩
 ·exact zl_ (by kernel_rfl)
 ·exact z7_ (by kernel_rfl)
 ·rintro s0
  kernel_rfl
def zb7_ (k:Nat):Nat→Int→Int→zT1→(Int×Int×Int×List Int)→(zT1→Option zT1)→Option zT1
 | 0,_,_,_,_,_=>none
 | n+1,x6,x7,q_1,v_1,e_0=>(if (decide (x7<x6))=true then (zj9_ v_1 x7).bind fun r_2=>(zjb_ r_2).bind fun r_3=>(if (q_1.length+[r_3].length)*24≤LIM then zb7_ k n x6 (z0_ (x7+1)) (q_1++[r_3]) v_1 e_0 else none) else e_0 q_1)
def zjd_ (k:Nat) (m0:Int×Int×Int×List Int):Option zT1:=zb7_ k k m0.2.1 0 [] m0 (fun q_4=>some q_4)
def zje_:Head:=⟨[(1,(.bp 1 [] 0)),(3,(.ref 64000000 [])),(6,(.val (.int .i64))),(7,(.val (.int .i64)))],[(64000000,25,(.sl 2 (.int .i64)),false)],[(1,63,(.val (.st (.pr (.int .i64) (.pr (.int .i64) (.pr (.int .i64) (.sl 2 (.int .i64))))))))]⟩
def zy5_:Head:=⟨[(3,(.ref 64000000 []))],[(64000000,25,(.sl 2 (.int .i64)),false)],[]⟩
def zov_ (k:Nat) (n:Nat) (x:zje_.T) (kx:Nat→St→Option zT1):Option zT1:=zb7_ k n x.1.2.2.1 x.1.2.2.2.1 x.2.1.1 x.2.2.1 (fun (q_4:List (List Int))=>kx 0 (zy5_.fill (((),()),(q_4,()),())))
def zy6_ (k:Nat):Oracles zT1:=⟨fun n=>bif Nat.beq n 3 then some (fun σ kx=>zje_.get σ fun x=>zov_ k k x kx) else none,fun _=>none⟩
def zy7_ (k:Nat):FE:=⟨(.st (.pr (.int .i64) (.pr (.int .i64) (.pr (.int .i64) (.sl 2 (.int .i64)))))),1,(.sl 25 (.sl 2 (.int .i64))),fun x=>zjd_ k x⟩
theorem z1ac_ (k:Nat):zd_ (z4_ ti [(99,zja_),(98,zjc_)] (lk []) z5_ z6_) (zy6_ k) (rdC (z4_ ti [(99,zja_),(98,zjc_)] (lk []) z5_ z6_) [.tmp 2] (.sl 25 (.sl 2 (.int .i64)))) ((zb_ (z2_ Tryz.f63)).getD 0 .skip) (fun σ kx=>zje_.get σ fun x=>zov_ k k x kx):=by
 refine ⟨zje_,[(0,zy5_)],fun n x kx=>zov_ k n x kx,k,by kernel_rfl,by kernel_rfl,fun x kx=>by kernel_rfl,?_,fun σ kx=>rfl⟩
 rintro n ⟨⟨⟨⟩,⟨⟩,x6,x7,⟨⟩⟩,⟨q_1,⟨⟩⟩,⟨v_1,⟨⟩⟩⟩ kx
 kernel_rfl
theorem z1ad_ (k:Nat):FnOK Tryz.prog 63 (zy7_ k):=by
 refine za_ (tab:=[(99,zja_),(98,zjc_)]) (l:=[]) z8_ z9_ mix (List.forall_mem_cons.2 ⟨z1aa_,(List.forall_mem_cons.2 ⟨z1ab_,(List.forall_mem_nil _)⟩)⟩) (List.forall_mem_nil _) ⟨⟨Tryz.f63,(z2_ Tryz.f63),[.tmp 2],(zy6_ k),by kernel_rfl,by kernel_rfl,by kernel_rfl,by kernel_rfl,rfl,by decide,⟨by kernel_rfl,?_,?_⟩,?_⟩⟩
 ·refine zi_ (n:=1) (by kernel_rfl) fun i hi=>?_
  match i,hi with
  | 0,_=>exact ze_ (by kernel_rfl) (z1ac_ k)
  | n+1,hi=>omega
 ·exact z7_ (by kernel_rfl)
 ·rintro m0
  kernel_rfl
def zow_ (row0:List Int) (x1:Int):Option Bool:=(if 0≤x1 then (row0[x1.toNat]?).bind fun y_1=>some (!(decide (y_1=0))) else none)
def zjf_:FE:=⟨(.pr (.sl 2 (.int .i64)) (.ptr (.int .i64))),1,.bool,fun x=>zow_ x.1 x.2⟩
theorem z1ae_:FnOK Tryz.prog 94 (zjf_):=by
 refine za_ (tab:=[]) (l:=[]) z8_ z9_ mix (List.forall_mem_nil _) (List.forall_mem_nil _) ⟨⟨Tryz.f94,(z2_ Tryz.f94),[.tmp 3],(LOn Bool),by kernel_rfl,by kernel_rfl,by kernel_rfl,by kernel_rfl,rfl,by decide,⟨by kernel_rfl,?_,?_⟩,?_⟩⟩
 ·exact zl_ (by kernel_rfl)
 ·exact z7_ (by kernel_rfl)
 ·rintro ⟨row0,x1⟩
  kernel_rfl
def zb8_ (k:Nat):Nat→zT1→Int→Int→Int→(Option Int)→Option Int
 | 0,_,_,_,_,_=>none
 | n+1,s0,f1,x7,x8,e_0=>(if (decide (x8<x7))=true then (if 0≤x8 then (s0[x8.toNat]?).bind fun y_1=>(zow_ y_1 f1).bind fun r_2=>(if r_2=true then some x8 else zb8_ k n s0 f1 x7 (z0_ (x8+1)) e_0) else none) else e_0)
def zjg_ (k:Nat) (s0:List (List Int)) (f1:Int):Option Int:=zb8_ k k s0 f1 (List.length s0:Int) 0 (some (-1))
def zjh_:Head:=⟨[(0,(.val (.sl 25 (.sl 2 (.int .i64))))),(1,(.val (.fn 94 (.ptr (.int .i64))))),(7,(.val (.int .i64))),(8,(.val (.int .i64)))],[],[]⟩
def zy8_:Head:=⟨[],[],[]⟩
def zox_ (k:Nat) (n:Nat) (x:zjh_.T) (kx:Nat→St→Option Int):Option Int:=zb8_ k n x.1.1 x.1.2.1 x.1.2.2.1 x.1.2.2.2.1 (kx 0 (zy8_.fill ((),(),())))
def zy9_ (k:Nat):Oracles Int:=⟨fun n=>bif Nat.beq n 2 then some (fun σ kx=>zjh_.get σ fun x=>zox_ k k x kx) else none,fun _=>none⟩
def zb9_ (k:Nat):FE:=⟨(.pr (.sl 25 (.sl 2 (.int .i64))) (.fn 94 (.ptr (.int .i64)))),1,(.int .i64),fun x=>zjg_ k x.1 x.2⟩
theorem z1af_ (k:Nat):zd_ (z4_ ti [(94,zjf_)] (lk []) z5_ z6_) (zy9_ k) (rdC (z4_ ti [(94,zjf_)] (lk []) z5_ z6_) [.tmp 4] (.int .i64)) ((zb_ (z2_ Tryz.f93)).getD 0 .skip) (fun σ kx=>zjh_.get σ fun x=>zox_ k k x kx):=by
 refine ⟨zjh_,[(0,zy8_)],fun n x kx=>zox_ k n x kx,k,by kernel_rfl,by kernel_rfl,fun x kx=>by kernel_rfl,?_,fun σ kx=>rfl⟩
 rintro n ⟨⟨s0,f1,x7,x8,⟨⟩⟩,⟨⟩,⟨⟩⟩ kx
 kernel_rfl
theorem z1ag_ (k:Nat):FnOK Tryz.prog 93 (zb9_ k):=by
 refine za_ (tab:=[(94,zjf_)]) (l:=[]) z8_ z9_ mix (List.forall_mem_cons.2 ⟨z1ae_,(List.forall_mem_nil _)⟩) (List.forall_mem_nil _) ⟨⟨Tryz.f93,(z2_ Tryz.f93),[.tmp 4],(zy9_ k),by kernel_rfl,by kernel_rfl,by kernel_rfl,by kernel_rfl,rfl,by decide,⟨by kernel_rfl,?_,?_⟩,?_⟩⟩
 ·refine zi_ (n:=1) (by kernel_rfl) fun i hi=>?_
  match i,hi with
  | 0,_=>exact ze_ (by kernel_rfl) (z1af_ k)
  | n+1,hi=>omega
 ·exact z7_ (by kernel_rfl)
 ·rintro ⟨s0,f1⟩
  kernel_rfl
def zji_ (a0:Int) (p1:Int):Option Int:=(if p1=0 then none else (if p1=0 then none else some (Int.tmod (z0_ ((Int.tmod a0 p1)+p1)) p1)))
def zba_:FE:=⟨(.pr (.int .i64) (.int .i64)),1,(.int .i64),fun x=>zji_ x.1 x.2⟩
theorem z1ah_:FnOK Tryz.prog 95 (zba_):=by
 refine za_ (tab:=[]) (l:=[]) z8_ z9_ mix (List.forall_mem_nil _) (List.forall_mem_nil _) ⟨⟨Tryz.f95,(z2_ Tryz.f95),[.tmp 4],(LOn Int),by kernel_rfl,by kernel_rfl,by kernel_rfl,by kernel_rfl,rfl,by decide,⟨by kernel_rfl,?_,?_⟩,?_⟩⟩
 ·exact zl_ (by kernel_rfl)
 ·exact z7_ (by kernel_rfl)
 ·rintro ⟨a0,p1⟩
  kernel_rfl
def z8i_ (k:Nat):Nat→Int→Int→Int→Int→(Int→Option Int)→Option Int
 | 0,_,_,_,_,_=>none
 | n+1,a0,n1,p2,power7,e_0=>(if (decide (0<n1))=true then (if (decide ((Int.tmod n1 2)=1))=true then (if p2=0 then none else (if p2=0 then none else z8i_ k n (Int.tmod (z0_ (a0*a0)) p2) (z0_ (Int.tdiv n1 2)) p2 (Int.tmod (z0_ (power7*a0)) p2) e_0)) else (if p2=0 then none else z8i_ k n (Int.tmod (z0_ (a0*a0)) p2) (z0_ (Int.tdiv n1 2)) p2 power7 e_0)) else e_0 power7)
def zoy_ (k:Nat) (a0:Int) (n1:Int) (p2:Int):Option Int:=z8i_ k k a0 n1 p2 1 (fun power_1=>some power_1)
def zjj_:Head:=⟨[(0,(.val (.int .i64))),(1,(.val (.int .i64))),(2,(.val (.int .i64))),(7,(.val (.int .i64)))],[],[]⟩
def zya_:Head:=⟨[(7,(.val (.int .i64)))],[],[]⟩
def zoz_ (k:Nat) (n:Nat) (x:zjj_.T) (kx:Nat→St→Option Int):Option Int:=z8i_ k n x.1.1 x.1.2.1 x.1.2.2.1 x.1.2.2.2.1 (fun (power7:Int)=>kx 0 (zya_.fill ((power7,()),(),())))
def zyb_ (k:Nat):Oracles Int:=⟨fun n=>bif Nat.beq n 2 then some (fun σ kx=>zjj_.get σ fun x=>zoz_ k k x kx) else none,fun _=>none⟩
def zyc_ (k:Nat):FE:=⟨(.pr (.int .i64) (.pr (.int .i64) (.int .i64))),1,(.int .i64),fun x=>zoy_ k x.1 x.2.1 x.2.2⟩
theorem z1ai_ (k:Nat):zd_ (z4_ ti [] (lk []) z5_ z6_) (zyb_ k) (rdC (z4_ ti [] (lk []) z5_ z6_) [.tmp 6] (.int .i64)) ((zb_ (z2_ Tryz.f124)).getD 0 .skip) (fun σ kx=>zjj_.get σ fun x=>zoz_ k k x kx):=by
 refine ⟨zjj_,[(0,zya_)],fun n x kx=>zoz_ k n x kx,k,by kernel_rfl,by kernel_rfl,fun x kx=>by kernel_rfl,?_,fun σ kx=>rfl⟩
 rintro n ⟨⟨a0,n1,p2,power7,⟨⟩⟩,⟨⟩,⟨⟩⟩ kx
 kernel_rfl
theorem z1aj_ (k:Nat):FnOK Tryz.prog 124 (zyc_ k):=by
 refine za_ (tab:=[]) (l:=[]) z8_ z9_ mix (List.forall_mem_nil _) (List.forall_mem_nil _) ⟨⟨Tryz.f124,(z2_ Tryz.f124),[.tmp 6],(zyb_ k),by kernel_rfl,by kernel_rfl,by kernel_rfl,by kernel_rfl,rfl,by decide,⟨by kernel_rfl,?_,?_⟩,?_⟩⟩
 ·refine zi_ (n:=1) (by kernel_rfl) fun i hi=>?_
  match i,hi with
  | 0,_=>exact ze_ (by kernel_rfl) (z1ai_ k)
  | n+1,hi=>omega
 ·exact z7_ (by kernel_rfl)
 ·rintro ⟨a0,n1,p2⟩
  kernel_rfl
def zdc_ (k:Nat) (a0:Int) (p1:Int):Option Int:=(zoy_ k a0 (z0_ (p1-2)) p1).bind fun r_1=>some r_1
def zbb_ (k:Nat):FE:=⟨(.pr (.int .i64) (.int .i64)),1,(.int .i64),fun x=>zdc_ k x.1 x.2⟩
theorem z1ak_ (k:Nat):FnOK Tryz.prog 97 (zbb_ k):=by
 refine za_ (tab:=[(124,zyc_ k)]) (l:=[]) z8_ z9_ mix (List.forall_mem_cons.2 ⟨z1aj_ k,(List.forall_mem_nil _)⟩) (List.forall_mem_nil _) ⟨⟨Tryz.f97,(z2_ Tryz.f97),[.tmp 4],(LOn Int),by kernel_rfl,by kernel_rfl,by kernel_rfl,by kernel_rfl,rfl,by decide,⟨by kernel_rfl,?_,?_⟩,?_⟩⟩
 ·exact zl_ (by kernel_rfl)
 ·exact z7_ (by kernel_rfl)
 ·rintro ⟨a0,p1⟩
  kernel_rfl
def zbc_ (k:Nat):Nat→(List Int)→(List Int)→Int→Int→Int→Int→(List Int)→((List Int)→Option (List Int))→Option (List Int)
 | 0,_,_,_,_,_,_,_,_=>none
 | n+1,a0,b1,c2,p3,x12,x13,q_1,e_0=>(if (decide (x13<x12))=true then (if 0≤x13 then (a0[x13.toNat]?).bind fun y_2=>(if 0≤x13 then (b1[x13.toNat]?).bind fun y_3=>(if p3=0 then none else (if (q_1.length+[(Int.tmod (z0_ (y_2+(z0_ (c2*y_3)))) p3)].length)*8≤LIM then zbc_ k n a0 b1 c2 p3 x12 (z0_ (x13+1)) (q_1++[(Int.tmod (z0_ (y_2+(z0_ (c2*y_3)))) p3)]) e_0 else none)) else none) else none) else e_0 q_1)
def z70_ (k:Nat) (a0:List Int) (b1:List Int) (c2:Int) (p3:Int):Option (List Int):=zbc_ k k a0 b1 c2 p3 (List.length a0:Int) 0 [] (fun q_4=>some q_4)
def zjk_:Head:=⟨[(0,(.val (.sl 2 (.int .i64)))),(1,(.val (.sl 2 (.int .i64)))),(2,(.val (.int .i64))),(3,(.val (.int .i64))),(9,(.ref 64000000 [])),(12,(.val (.int .i64))),(13,(.val (.int .i64)))],[(64000000,2,(.int .i64),false)],[]⟩
def zyd_:Head:=⟨[(9,(.ref 64000000 []))],[(64000000,2,(.int .i64),false)],[]⟩
def zp0_ (k:Nat) (n:Nat) (x:zjk_.T) (kx:Nat→St→Option (List Int)):Option (List Int):=zbc_ k n x.1.1 x.1.2.1 x.1.2.2.1 x.1.2.2.2.1 x.1.2.2.2.2.2.1 x.1.2.2.2.2.2.2.1 x.2.1.1 (fun (q_4:List Int)=>kx 0 (zyd_.fill (((),()),(q_4,()),())))
def zye_ (k:Nat):Oracles (List Int):=⟨fun n=>bif Nat.beq n 3 then some (fun σ kx=>zjk_.get σ fun x=>zp0_ k k x kx) else none,fun _=>none⟩
def zbd_ (k:Nat):FE:=⟨(.pr (.sl 2 (.int .i64)) (.pr (.sl 2 (.int .i64)) (.pr (.int .i64) (.int .i64)))),1,(.sl 2 (.int .i64)),fun x=>z70_ k x.1 x.2.1 x.2.2.1 x.2.2.2⟩
theorem z1al_ (k:Nat):zd_ (z4_ ti [] (lk []) z5_ z6_) (zye_ k) (rdC (z4_ ti [] (lk []) z5_ z6_) [.tmp 8] (.sl 2 (.int .i64))) ((zb_ (z2_ Tryz.f96)).getD 0 .skip) (fun σ kx=>zjk_.get σ fun x=>zp0_ k k x kx):=by
 refine ⟨zjk_,[(0,zyd_)],fun n x kx=>zp0_ k n x kx,k,by kernel_rfl,by kernel_rfl,fun x kx=>by kernel_rfl,?_,fun σ kx=>rfl⟩
 rintro n ⟨⟨a0,b1,c2,p3,⟨⟩,x12,x13,⟨⟩⟩,⟨q_1,⟨⟩⟩,⟨⟩⟩ kx
 kernel_rfl
theorem z1am_ (k:Nat):FnOK Tryz.prog 96 (zbd_ k):=by
 refine za_ (tab:=[]) (l:=[]) z8_ z9_ mix (List.forall_mem_nil _) (List.forall_mem_nil _) ⟨⟨Tryz.f96,(z2_ Tryz.f96),[.tmp 8],(zye_ k),by kernel_rfl,by kernel_rfl,by kernel_rfl,by kernel_rfl,rfl,by decide,⟨by kernel_rfl,?_,?_⟩,?_⟩⟩
 ·refine zi_ (n:=1) (by kernel_rfl) fun i hi=>?_
  match i,hi with
  | 0,_=>exact ze_ (by kernel_rfl) (z1al_ k)
  | n+1,hi=>omega
 ·exact z7_ (by kernel_rfl)
 ·rintro ⟨a0,b1,c2,p3⟩
  kernel_rfl
def z48_ (k:Nat):Nat→Int→Int→Int→Int→Int→Int→Int→Int→zT1→(List Int)→Int→(Int→Int→Int→Int→Int→zT1→(List Int)→Int→Option ((((Unit×(Int×Unit))×Unit)×(zT1×(List Int)×Unit)×Unit)))→Option ((((Unit×(Int×Unit))×Unit)×(zT1×(List Int)×Unit)×Unit))
 | 0,_,_,_,_,_,_,_,_,_,_,_,_=>none
 | n+1,columns1,p2,det9,top11,x16,x17,x80,x81,q_19,q_20,v_10,e_2=>(if (decide (x81<x80))=true then (if 0≤x81∧x81.toNat<List.length q_19 then (q_19[x81.toNat]?).bind fun y_21=>(if (!(decide (x81=top11)))=true then (if 0≤v_10 then (y_21[v_10.toNat]?).bind fun y_22=>(if (!(decide (y_22=0)))=true then (if 0≤top11∧top11.toNat<List.length q_19 then (q_19[top11.toNat]?).bind fun y_23=>(if 0≤v_10 then (y_21[v_10.toNat]?).bind fun y_24=>(z70_ k y_21 y_23 (z0_ (p2-y_24)) p2).bind fun r_25=>(if 0≤x81∧x81.toNat<List.length q_19 then (q_19[x81.toNat]?).bind fun y_26=>(q_19[x81.toNat]?).bind fun y_27=>z48_ k n columns1 p2 det9 top11 x16 x17 x80 (z0_ (x81+1)) (q_19.set x81.toNat r_25) q_20 v_10 e_2 else none) else none) else none) else z48_ k n columns1 p2 det9 top11 x16 x17 x80 (z0_ (x81+1)) q_19 q_20 v_10 e_2) else none) else z48_ k n columns1 p2 det9 top11 x16 x17 x80 (z0_ (x81+1)) q_19 q_20 v_10 e_2) else none) else e_2 columns1 p2 det9 x16 x17 q_19 q_20 v_10)
def z5k_ (k:Nat):Nat→Int→Int→Int→Int→Int→zT1→(List Int)→(Int→zT1→(List Int)→Option ((((Unit×(Int×Unit))×Unit)×(zT1×(List Int)×Unit)×Unit)))→Option ((((Unit×(Int×Unit))×Unit)×(zT1×(List Int)×Unit)×Unit))
 | 0,_,_,_,_,_,_,_,_=>none
 | n+1,columns1,p2,det9,x16,x17,q_2,q_3,e_0=>(if (decide (x17<x16))=true then (if 0≤(List.length q_3:Int)∧(List.length q_3:Int)≤(q_2.length:Int)∧(q_2.length:Int)≤q_2.length then (zjg_ k ((q_2.drop (List.length q_3)).take (q_2.length-(List.length q_3))) x17).bind fun r_4=>(if (decide (r_4<0))=true then z5k_ k n columns1 p2 0 x16 (z0_ (x17+1)) q_2 q_3 e_0 else (if (decide (0<r_4))=true then (if 0≤(z0_ ((List.length q_3:Int)+r_4))∧(z0_ ((List.length q_3:Int)+r_4)).toNat<List.length q_2 then (q_2[(z0_ ((List.length q_3:Int)+r_4)).toNat]?).bind fun y_5=>(if 0≤(List.length q_3:Int)∧(List.length q_3)<List.length q_2 then (q_2[(List.length q_3)]?).bind fun y_6=>(if 0≤(List.length q_3:Int)∧(List.length q_3)<List.length q_2 then (q_2[(List.length q_3)]?).bind fun y_7=>(q_2[(List.length q_3)]?).bind fun y_8=>(if 0≤(z0_ ((List.length q_3:Int)+r_4))∧(z0_ ((List.length q_3:Int)+r_4)).toNat<List.length (q_2.set (List.length q_3) y_5) then ((q_2.set (List.length q_3) y_5)[(z0_ ((List.length q_3:Int)+r_4)).toNat]?).bind fun y_9=>((q_2.set (List.length q_3) y_5)[(z0_ ((List.length q_3:Int)+r_4)).toNat]?).bind fun y_10=>(zji_ (z0_ (0-det9)) p2).bind fun r_11=>(if 0≤(List.length q_3:Int)∧(List.length q_3)<List.length ((q_2.set (List.length q_3) y_5).set ((z0_ ((List.length q_3:Int)+r_4)).toNat) y_6) then (((q_2.set (List.length q_3) y_5).set ((z0_ ((List.length q_3:Int)+r_4)).toNat) y_6)[(List.length q_3)]?).bind fun y_12=>(if 0≤x17 then (y_12[x17.toNat]?).bind fun y_13=>(if p2=0 then none else (if 0≤columns1∧columns1≤columns1∧columns1*8≤LIM then (if 0≤(List.length q_3:Int)∧(List.length q_3)<List.length ((q_2.set (List.length q_3) y_5).set ((z0_ ((List.length q_3:Int)+r_4)).toNat) y_6) then (((q_2.set (List.length q_3) y_5).set ((z0_ ((List.length q_3:Int)+r_4)).toNat) y_6)[(List.length q_3)]?).bind fun y_14=>(zdc_ k y_13 p2).bind fun r_15=>(z70_ k (List.replicate columns1.toNat 0) y_14 r_15 p2).bind fun r_16=>(if 0≤(List.length q_3:Int)∧(List.length q_3)<List.length ((q_2.set (List.length q_3) y_5).set ((z0_ ((List.length q_3:Int)+r_4)).toNat) y_6) then (((q_2.set (List.length q_3) y_5).set ((z0_ ((List.length q_3:Int)+r_4)).toNat) y_6)[(List.length q_3)]?).bind fun y_17=>(((q_2.set (List.length q_3) y_5).set ((z0_ ((List.length q_3:Int)+r_4)).toNat) y_6)[(List.length q_3)]?).bind fun y_18=>z48_ k k columns1 p2 (Int.tmod (z0_ (r_11*y_13)) p2) (List.length q_3:Int) x16 x17 (List.length (((q_2.set (List.length q_3) y_5).set ((z0_ ((List.length q_3:Int)+r_4)).toNat) y_6).set (List.length q_3) r_16):Int) 0 (((q_2.set (List.length q_3) y_5).set ((z0_ ((List.length q_3:Int)+r_4)).toNat) y_6).set (List.length q_3) r_16) q_3 x17 (fun columns_19 p_20 det_21 x_22 x_23 q_24 q_25 v_26=>(if (q_25.length+[v_26].length)*8≤LIM then z5k_ k n columns_19 p_20 det_21 x_22 (z0_ (x_23+1)) q_24 (q_25++[v_26]) e_0 else none)) else none) else none) else none)) else none) else none) else none) else none) else none) else none) else (if 0≤(List.length q_3:Int)∧(List.length q_3)<List.length q_2 then (q_2[(List.length q_3)]?).bind fun y_27=>(if 0≤x17 then (y_27[x17.toNat]?).bind fun y_28=>(if p2=0 then none else (if 0≤columns1∧columns1≤columns1∧columns1*8≤LIM then (if 0≤(List.length q_3:Int)∧(List.length q_3)<List.length q_2 then (q_2[(List.length q_3)]?).bind fun y_29=>(zdc_ k y_28 p2).bind fun r_30=>(z70_ k (List.replicate columns1.toNat 0) y_29 r_30 p2).bind fun r_31=>(if 0≤(List.length q_3:Int)∧(List.length q_3)<List.length q_2 then (q_2[(List.length q_3)]?).bind fun y_32=>(q_2[(List.length q_3)]?).bind fun y_33=>z48_ k k columns1 p2 (Int.tmod (z0_ (det9*y_28)) p2) (List.length q_3:Int) x16 x17 (List.length (q_2.set (List.length q_3) r_31):Int) 0 (q_2.set (List.length q_3) r_31) q_3 x17 (fun columns_34 p_35 det_36 x_37 x_38 q_39 q_40 v_41=>(if (q_40.length+[v_41].length)*8≤LIM then z5k_ k n columns_34 p_35 det_36 x_37 (z0_ (x_38+1)) q_39 (q_40++[v_41]) e_0 else none)) else none) else none) else none)) else none) else none))) else none) else e_0 det9 q_2 q_3)
def zp1_ (k:Nat) (columns1:Int) (p2:Int) (q_1:List (List Int)):Option ((((Unit×(Int×Unit))×Unit)×(zT1×(List Int)×Unit)×Unit)):=z5k_ k k columns1 p2 1 columns1 0 q_1 [] (fun det_42 q_43 q_44=>some ((((),(det_42,())),()),(q_43,q_44,()),()))
def zjl_:Head:=⟨[(0,(.ref 1000000000 [])),(1,(.val (.int .i64))),(2,(.val (.int .i64))),(8,(.ref 64000001 [])),(9,(.val (.int .i64))),(10,(.bp 10 [] 0)),(11,(.val (.int .i64))),(16,(.val (.int .i64))),(17,(.val (.int .i64))),(79,(.ref 1000000000 [])),(80,(.val (.int .i64))),(81,(.val (.int .i64)))],[(1000000000,25,(.rd (.sl 2 (.int .i64))),false),(64000001,2,(.int .i64),false)],[(10,2,(.val (.int .i64)))]⟩
def zyf_:Head:=⟨[(0,(.ref 1000000000 [])),(1,(.val (.int .i64))),(2,(.val (.int .i64))),(8,(.ref 64000001 [])),(9,(.val (.int .i64))),(10,(.bp 10 [] 0)),(16,(.val (.int .i64))),(17,(.val (.int .i64)))],[(1000000000,25,(.rd (.sl 2 (.int .i64))),false),(64000001,2,(.int .i64),false)],[(10,2,(.val (.int .i64)))]⟩
def zp2_ (k:Nat) (n:Nat) (x:zjl_.T) (kx:Nat→St→Option ((((Unit×(Int×Unit))×Unit)×(zT1×(List Int)×Unit)×Unit))):Option ((((Unit×(Int×Unit))×Unit)×(zT1×(List Int)×Unit)×Unit)):=z48_ k n x.1.2.1 x.1.2.2.1 x.1.2.2.2.2.1 x.1.2.2.2.2.2.2.1 x.1.2.2.2.2.2.2.2.1 x.1.2.2.2.2.2.2.2.2.1 x.1.2.2.2.2.2.2.2.2.2.2.1 x.1.2.2.2.2.2.2.2.2.2.2.2.1 x.2.1.1 x.2.1.2.1 x.2.2.1 (fun (columns1:Int) (p2:Int) (det9:Int) (x16:Int) (x17:Int) (q_28:List (List Int)) (q_29:List Int) (v_10:Int)=>kx 2 (zyf_.fill (((),columns1,p2,(),det9,(),x16,x17,()),(q_28,q_29,()),(v_10,()))))
def zjm_:Head:=⟨[(0,(.ref 1000000000 [])),(1,(.val (.int .i64))),(2,(.val (.int .i64))),(8,(.ref 64000001 [])),(9,(.val (.int .i64))),(16,(.val (.int .i64))),(17,(.val (.int .i64)))],[(1000000000,25,(.rd (.sl 2 (.int .i64))),false),(64000001,2,(.int .i64),false)],[]⟩
def zyg_:Head:=⟨[(8,(.ref 64000001 [])),(9,(.val (.int .i64)))],[(1000000000,25,(.rd (.sl 2 (.int .i64))),false),(64000001,2,(.int .i64),false)],[]⟩
def zp3_ (k:Nat) (n:Nat) (x:zjm_.T) (kx:Nat→St→Option ((((Unit×(Int×Unit))×Unit)×(zT1×(List Int)×Unit)×Unit))):Option ((((Unit×(Int×Unit))×Unit)×(zT1×(List Int)×Unit)×Unit)):=z5k_ k n x.1.2.1 x.1.2.2.1 x.1.2.2.2.2.1 x.1.2.2.2.2.2.1 x.1.2.2.2.2.2.2.1 x.2.1.1 x.2.1.2.1 (fun (det9:Int) (q_51:List (List Int)) (q_52:List Int)=>kx 0 (zyg_.fill (((),det9,()),(q_51,q_52,()),())))
def zp4_ (k:Nat):Oracles ((((Unit×(Int×Unit))×Unit)×(zT1×(List Int)×Unit)×Unit)):=⟨fun n=>bif Nat.beq n 17 then some (fun σ kx=>zjl_.get σ fun x=>zp2_ k k x kx) else bif Nat.beq n 4 then some (fun σ kx=>zjm_.get σ fun x=>zp3_ k k x kx) else none,fun _=>none⟩
def z1an_:Head:=⟨[(0,(.ref 1000000000 [])),(1,(.val (.int .i64))),(2,(.val (.int .i64)))],[(1000000000,25,(.rd (.sl 2 (.int .i64))),false)],[]⟩
def zp5_:Head:=⟨[(0,(.tup (.cns (.ref 64000001 []) (.cns (.val (.int .i64)) .nl))))],[(1000000000,25,(.rd (.sl 2 (.int .i64))),false),(64000001,2,(.int .i64),false)],[]⟩
def zyh_ (k:Nat):OC:=⟨z1an_,zp5_,fun x=>zp1_ k x.1.2.1 x.1.2.2.1 x.2.1.1,true⟩
theorem z1ao_ (k:Nat) (pins:Nat→Value) (pinB:Nat→Nat):zd_ (z4_ tiR [(93,zb9_ k),(95,zba_),(97,zbb_ k),(96,zbd_ k)] (lk []) pins pinB) (zp4_ k) (rdO (z4_ tiR [(93,zb9_ k),(95,zba_),(97,zbb_ k),(96,zbd_ k)] (lk []) pins pinB) [.tmp 6,.tmp 7] zp5_) ((zb_ (z2_ Tryz.f62)).getD 1 .skip) (fun σ kx=>zjl_.get σ fun x=>zp2_ k k x kx):=by
 refine ⟨zjl_,[(2,zyf_)],fun n x kx=>zp2_ k n x kx,k,by kernel_rfl,by kernel_rfl,fun x kx=>by kernel_rfl,?_,fun σ kx=>rfl⟩
 rintro n ⟨⟨⟨⟩,columns1,p2,⟨⟩,det9,⟨⟩,top11,x16,x17,⟨⟩,x80,x81,⟨⟩⟩,⟨q_19,q_20,⟨⟩⟩,⟨v_10,⟨⟩⟩⟩ kx
 refine id (α:=z48_ k (n+1) columns1 p2 det9 top11 x16 x17 x80 x81 q_19 q_20 v_10 _=_) ?_
 kernel_rfl
theorem z1ap_ (k:Nat) (pins:Nat→Value) (pinB:Nat→Nat):zd_ (z4_ tiR [(93,zb9_ k),(95,zba_),(97,zbb_ k),(96,zbd_ k)] (lk []) pins pinB) (zp4_ k) (rdO (z4_ tiR [(93,zb9_ k),(95,zba_),(97,zbb_ k),(96,zbd_ k)] (lk []) pins pinB) [.tmp 6,.tmp 7] zp5_) ((zb_ (z2_ Tryz.f62)).getD 0 .skip) (fun σ kx=>zjm_.get σ fun x=>zp3_ k k x kx):=by
 refine ⟨zjm_,[(0,zyg_)],fun n x kx=>zp3_ k n x kx,k,by kernel_rfl,by kernel_rfl,fun x kx=>by kernel_rfl,?_,fun σ kx=>rfl⟩
 rintro n ⟨⟨⟨⟩,columns1,p2,⟨⟩,det9,x16,x17,⟨⟩⟩,⟨q_2,q_3,⟨⟩⟩,⟨⟩⟩ kx
 kernel_rfl
theorem z1aq_ (k:Nat):z18_ Tryz.prog tiR 62 (zyh_ k):=by
 refine z45_ (tab:=[(93,zb9_ k),(95,zba_),(97,zbb_ k),(96,zbd_ k)]) (l:=[]) z15q_ z15r_ mix (List.forall_mem_cons.2 ⟨z1ag_ k,(List.forall_mem_cons.2 ⟨z1ah_,(List.forall_mem_cons.2 ⟨z1ak_ k,(List.forall_mem_cons.2 ⟨z1am_ k,(List.forall_mem_nil _)⟩)⟩)⟩)⟩) (List.forall_mem_nil _) ⟨by kernel_rfl,by kernel_rfl,by kernel_rfl,Tryz.f62,(z2_ Tryz.f62),[.tmp 6,.tmp 7],(zp4_ k),by kernel_rfl,by kernel_rfl,by kernel_rfl,by kernel_rfl,Nat.le_of_ble_eq_true (by kernel_rfl),fun pins pinB=>⟨⟨by kernel_rfl,?_,?_⟩,?_⟩⟩
 ·refine zi_ (n:=2) (by kernel_rfl) fun i hi=>?_
  match i,hi with
  | 0,_=>exact ze_ (by kernel_rfl) (z1ap_ k pins pinB)
  | 1,_=>exact ze_ (by kernel_rfl) (z1ao_ k pins pinB)
  | n+2,hi=>omega
 ·exact z7_ (by kernel_rfl)
 ·rintro ⟨⟨⟨⟩,columns1,p2,⟨⟩⟩,⟨q_1,⟨⟩⟩,⟨⟩⟩
  kernel_rfl
def zjn_ (k:Nat) (m0:Int×Int×Int×List Int):Option Int:=(zjd_ k m0).bind fun r_1=>(zp1_ k m0.2.2.1 m0.1 r_1).bind fun y_2=>(z6u_ y_2.2.1.2.1).bind fun r_3=>some r_3
def z71_ (k:Nat):FE:=⟨(.st (.pr (.int .i64) (.pr (.int .i64) (.pr (.int .i64) (.sl 2 (.int .i64)))))),1,(.int .i64),fun x=>zjn_ k x⟩
theorem z1ar_ (k:Nat):FnOK Tryz.prog 29 (z71_ k):=by
 refine za_ (tab:=[(63,zy7_ k),(64,z5j_)]) (l:=[(12,62,zyh_ k)]) z15t_ z15u_ mix (List.forall_mem_cons.2 ⟨z1ad_ k,(List.forall_mem_cons.2 ⟨zik_,(List.forall_mem_nil _)⟩)⟩) (List.forall_mem_cons.2 ⟨((z1aq_ k).to (ti_sz.symm.trans z15v_)),(List.forall_mem_nil _)⟩) ⟨⟨Tryz.f29,(z2_ Tryz.f29),[.tmp 2],(LOn Int),by kernel_rfl,by kernel_rfl,by kernel_rfl,by kernel_rfl,rfl,by decide,⟨by kernel_rfl,?_,?_⟩,?_⟩⟩
 ·exact zl_ (by kernel_rfl)
 ·exact z7_ (by kernel_rfl)
 ·rintro m0
  kernel_rfl
def strings_Repeat (s:List UInt8) (c:Int):Option (List UInt8):=if 0≤c∧c≤9223372036854775807∧List.length s*c.toNat≤140737488355328 then some (Lib.repeatL s c.toNat) else none
abbrev fe_strings_Repeat:FE:=fe_repeat
theorem z1as_:FnOK Tryz.prog 66 fe_strings_Repeat:=z15h_ (fn:=Tryz.f66) (cd:=z2_ Tryz.f66) (by kernel_rfl) (by kernel_rfl) (by kernel_rfl) (fun s c w h1 h2=>Go.Proofs.Tryz.strings_Repeat s c w h1 h2)
def z8j_ (k:Nat):Nat→zT4→Int→zT4→Int→Int→(zT4→Int→Option zT3)→Option zT3
 | 0,_,_,_,_,_,_=>none
 | n+1,lines0,width4,x10,x11,x12,e_0=>(if (decide (x12<x11))=true then (if 0≤x12 then (x10[x12.toNat]?).bind fun y_1=>z8j_ k n lines0 (if width4<(List.length y_1:Int) then (List.length y_1:Int) else width4) x10 x11 (z0_ (x12+1)) e_0 else none) else e_0 lines0 width4)
def zbe_ (k:Nat):Nat→Int→zT4→Int→Int→zT4→(Int→zT4→Option zT3)→Option zT3
 | 0,_,_,_,_,_,_=>none
 | n+1,width4,x21,x22,x23,q_4,e_2=>(if (decide (x23<x22))=true then (if 0≤x23 then (x21[x23.toNat]?).bind fun y_5=>(strings_Repeat [32] (z0_ (width4-(List.length y_5:Int)))).bind fun r_6=>(if y_5.length+r_6.length≤9223372036854775807 then (if (q_4.length+[(y_5++r_6)].length)*16≤LIM then zbe_ k n width4 x21 x22 (z0_ (x23+1)) (q_4++[(y_5++r_6)]) e_2 else none) else none) else none) else e_2 width4 q_4)
def zdd_ (k:Nat) (lines0:List (List UInt8)):Option zT3:=z8j_ k k lines0 0 lines0 (List.length lines0:Int) 0 (fun lines_2 width_3=>zbe_ k k width_3 lines_2 (List.length lines_2:Int) 0 [] (fun width_7 q_8=>(if (decide (60<(List.length q_8:Int)))=true then some ([],5) else (if (decide (80<width_7))=true then some ([],5) else some (q_8,0)))))
def zjo_:Head:=⟨[(0,(.val (.sl 9 .str))),(4,(.val (.int .i64))),(10,(.val (.sl 9 .str))),(11,(.val (.int .i64))),(12,(.val (.int .i64)))],[],[]⟩
def zyi_:Head:=⟨[(0,(.val (.sl 9 .str))),(4,(.val (.int .i64)))],[],[]⟩
def zp6_ (k:Nat) (n:Nat) (x:zjo_.T) (kx:Nat→St→Option zT3):Option zT3:=z8j_ k n x.1.1 x.1.2.1 x.1.2.2.1 x.1.2.2.2.1 x.1.2.2.2.2.1 (fun (lines0:List (List UInt8)) (width4:Int)=>kx 0 (zyi_.fill ((lines0,width4,()),(),())))
def zjp_:Head:=⟨[(4,(.val (.int .i64))),(7,(.ref 64000000 [])),(21,(.val (.sl 9 .str))),(22,(.val (.int .i64))),(23,(.val (.int .i64)))],[(64000000,9,.str,false)],[]⟩
def zyj_:Head:=⟨[(4,(.val (.int .i64))),(7,(.ref 64000000 []))],[(64000000,9,.str,false)],[]⟩
def zp7_ (k:Nat) (n:Nat) (x:zjp_.T) (kx:Nat→St→Option zT3):Option zT3:=zbe_ k n x.1.1 x.1.2.2.1 x.1.2.2.2.1 x.1.2.2.2.2.1 x.2.1.1 (fun (width4:Int) (q_7:List (List UInt8))=>kx 2 (zyj_.fill ((width4,(),()),(q_7,()),())))
def zp8_ (k:Nat):Oracles zT3:=⟨fun n=>bif Nat.beq n 3 then some (fun σ kx=>zjo_.get σ fun x=>zp6_ k k x kx) else bif Nat.beq n 9 then some (fun σ kx=>zjp_.get σ fun x=>zp7_ k k x kx) else none,fun _=>none⟩
def z72_ (k:Nat):FE:=⟨(.sl 9 .str),2,(.pr (.sl 9 .str) (.int .i64)),fun x=>zdd_ k x⟩
theorem z1at_ (k:Nat):zd_ (z4_ ti [(66,fe_strings_Repeat)] (lk []) z5_ z6_) (zp8_ k) (rdC (z4_ ti [(66,fe_strings_Repeat)] (lk []) z5_ z6_) [.tmp 2,.tmp 3] (.pr (.sl 9 .str) (.int .i64))) ((zb_ (z2_ Tryz.f31)).getD 0 .skip) (fun σ kx=>zjo_.get σ fun x=>zp6_ k k x kx):=by
 refine ⟨zjo_,[(0,zyi_)],fun n x kx=>zp6_ k n x kx,k,by kernel_rfl,by kernel_rfl,fun x kx=>by kernel_rfl,?_,fun σ kx=>rfl⟩
 rintro n ⟨⟨lines0,width4,x10,x11,x12,⟨⟩⟩,⟨⟩,⟨⟩⟩ kx
 kernel_rfl
theorem z1au_ (k:Nat):zd_ (z4_ ti [(66,fe_strings_Repeat)] (lk []) z5_ z6_) (zp8_ k) (rdC (z4_ ti [(66,fe_strings_Repeat)] (lk []) z5_ z6_) [.tmp 2,.tmp 3] (.pr (.sl 9 .str) (.int .i64))) ((zb_ (z2_ Tryz.f31)).getD 1 .skip) (fun σ kx=>zjp_.get σ fun x=>zp7_ k k x kx):=by
 refine ⟨zjp_,[(2,zyj_)],fun n x kx=>zp7_ k n x kx,k,by kernel_rfl,by kernel_rfl,fun x kx=>by kernel_rfl,?_,fun σ kx=>rfl⟩
 rintro n ⟨⟨width4,⟨⟩,x21,x22,x23,⟨⟩⟩,⟨q_4,⟨⟩⟩,⟨⟩⟩ kx
 kernel_rfl
theorem z1av_ (k:Nat):FnOK Tryz.prog 31 (z72_ k):=by
 refine za_ (tab:=[(66,fe_strings_Repeat)]) (l:=[]) z8_ z9_ mix (List.forall_mem_cons.2 ⟨z1as_,(List.forall_mem_nil _)⟩) (List.forall_mem_nil _) ⟨⟨Tryz.f31,(z2_ Tryz.f31),[.tmp 2,.tmp 3],(zp8_ k),by kernel_rfl,by kernel_rfl,by kernel_rfl,by kernel_rfl,rfl,by decide,⟨by kernel_rfl,?_,?_⟩,?_⟩⟩
 ·refine zi_ (n:=2) (by kernel_rfl) fun i hi=>?_
  match i,hi with
  | 0,_=>exact ze_ (by kernel_rfl) (z1at_ k)
  | 1,_=>exact ze_ (by kernel_rfl) (z1au_ k)
  | n+2,hi=>omega
 ·exact z7_ (by kernel_rfl)
 ·rintro lines0
  kernel_rfl
end
end Go.Proofs.YthpamdpneanlpaaGreatDoor.Ev
