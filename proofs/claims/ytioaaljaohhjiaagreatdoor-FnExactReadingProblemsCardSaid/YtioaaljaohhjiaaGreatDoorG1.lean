/- Functions of the program, as plain ones. No conditions. -/
import Derived.Test.YtioaaljaohhjiaaGreatDoorG0
import Derived.KernelRfl
set_option linter.unusedVariables false
set_option maxRecDepth 100000
namespace Go.Proofs.YtioaaljaohhjiaaGreatDoor.Ev
open Go.RowKit
noncomputable section
def z42_ (a0:List Int) (left1:Int):Option Int:=(if (decide ((z0_ (left1-(List.length a0:Int)))<0))=true then some (-1) else some (z0_ (left1-(List.length a0:Int))))
def q0_:FE:=⟨(.pr (.sl 2 (.int .i64)) (.int .i64)),1,(.int .i64),fun x=>z42_ x.1 x.2⟩
theorem q1_:FnOK Tryz.prog 14 (q0_):=by
 refine za_ (tab:=[]) (l:=[]) z7_ z9_ mix (List.forall_mem_nil _) (List.forall_mem_nil _) ⟨⟨Tryz.f14,(z2_ Tryz.f14),[.tmp 4],(LOn Int),by kernel_rfl,by kernel_rfl,by kernel_rfl,by kernel_rfl,rfl,by decide,⟨by kernel_rfl,?_,?_⟩,?_⟩⟩
 ·exact ze_ (by kernel_rfl)
 ·exact z8_ (by kernel_rfl)
 ·rintro ⟨a0,left1⟩
  kernel_rfl
def z95_ (k:Nat):Nat→zT4→Int→Int→(Int→Option Int)→Option Int
 | 0,_,_,_,_=>none
 | n+1,a0,left1,i5,e_0=>(if (decide (i5<(List.length a0:Int)))=true then (if 0≤i5 then (a0[i5.toNat]?).bind fun y_1=>(z42_ y_1 left1).bind fun r_2=>(if (decide (r_2<0))=true then some (-1) else z95_ k n a0 r_2 (z0_ (i5+1)) e_0) else none) else e_0 left1)
def zel_ (k:Nat) (a0:List (List Int)) (left1:Int):Option Int:=(if (decide ((z0_ (left1-(List.length a0:Int)))<0))=true then some (-1) else z95_ k k a0 (z0_ (left1-(List.length a0:Int))) 0 (fun left_3=>some left_3))
def q2_:Head:=⟨[(0,(.val (.sl 25 (.sl 2 (.int .i64))))),(1,(.val (.int .i64))),(5,(.val (.int .i64)))],[],[]⟩
def q3_:Head:=⟨[(1,(.val (.int .i64)))],[],[]⟩
def q4_ (k n:Nat) (x:q2_.T) (kx:Nat→St→Option Int):Option Int:=z95_ k n x.1.1 x.1.2.1 x.1.2.2.1 (fun (left1:Int)=>kx 0 (q3_.fill ((left1,()),(),())))
def q5_ (k:Nat):Oracles Int:=⟨fun n=>bif Nat.beq n 5 then some (fun σ kx=>q2_.get σ fun x=>q4_ k k x kx) else none,fun _=>none⟩
def q6_ (k:Nat):FE:=⟨(.pr (.sl 25 (.sl 2 (.int .i64))) (.int .i64)),1,(.int .i64),fun x=>zel_ k x.1 x.2⟩
theorem q7_ (k:Nat):zc_ (z3_ ti [(14,q0_)] (lk []) z4_ z5_) (q5_ k) (rdC (z3_ ti [(14,q0_)] (lk []) z4_ z5_) [.tmp 4] (.int .i64)) ((zb_ (z2_ Tryz.f58)).getD 0 .skip) (fun σ kx=>q2_.get σ fun x=>q4_ k k x kx):=by
 refine ⟨q2_,[(0,q3_)],fun n x kx=>q4_ k n x kx,k,by kernel_rfl,by kernel_rfl,fun x kx=>by kernel_rfl,?_,fun σ kx=>rfl⟩
 rintro n ⟨⟨a0,left1,i5,⟨⟩⟩,⟨⟩,⟨⟩⟩ kx
 kernel_rfl
theorem q8_ (k:Nat):FnOK Tryz.prog 58 (q6_ k):=by
 refine za_ (tab:=[(14,q0_)]) (l:=[]) z7_ z9_ mix (List.forall_mem_cons.2 ⟨q1_,(List.forall_mem_nil _)⟩) (List.forall_mem_nil _) ⟨⟨Tryz.f58,(z2_ Tryz.f58),[.tmp 4],(q5_ k),by kernel_rfl,by kernel_rfl,by kernel_rfl,by kernel_rfl,rfl,by decide,⟨by kernel_rfl,?_,?_⟩,?_⟩⟩
 ·refine zf_ (n:=1) (by kernel_rfl) fun i hi=>?_
  match i,hi with
  | 0,_=>exact zd_ (by kernel_rfl) (q7_ k)
  | n+1,hi=>omega
 ·exact z8_ (by kernel_rfl)
 ·rintro ⟨a0,left1⟩
  kernel_rfl
def zem_ (k:Nat) (a0:List (List Int)) (left1:Int):Option Int:=(zel_ k a0 left1).bind fun r_1=>(if (decide (r_1<0))=true then some (-1) else some r_1)
def q9_ (k:Nat):FE:=⟨(.pr (.st (.sl 25 (.sl 2 (.int .i64)))) (.int .i64)),1,(.int .i64),fun x=>zem_ k x.1 x.2⟩
theorem qa_ (k:Nat):FnOK Tryz.prog 34 (q9_ k):=by
 refine za_ (tab:=[(58,q6_ k)]) (l:=[]) z7_ z9_ mix (List.forall_mem_cons.2 ⟨q8_ k,(List.forall_mem_nil _)⟩) (List.forall_mem_nil _) ⟨⟨Tryz.f34,(z2_ Tryz.f34),[.tmp 4],(LOn Int),by kernel_rfl,by kernel_rfl,by kernel_rfl,by kernel_rfl,rfl,by decide,⟨by kernel_rfl,?_,?_⟩,?_⟩⟩
 ·exact ze_ (by kernel_rfl)
 ·exact z8_ (by kernel_rfl)
 ·rintro ⟨a0,left1⟩
  kernel_rfl
def zen_ (a0:Int×Int×Int×List Int) (left1:Int):Option Int:=(z42_ a0.2.2.2 left1).bind fun r_1=>(if (decide (r_1<0))=true then some (-1) else some r_1)
def qb_:FE:=⟨(.pr (.st (.pr (.int .i64) (.pr (.int .i64) (.pr (.int .i64) (.sl 2 (.int .i64)))))) (.int .i64)),1,(.int .i64),fun x=>zen_ x.1 x.2⟩
theorem qc_:FnOK Tryz.prog 59 (qb_):=by
 refine za_ (tab:=[(14,q0_)]) (l:=[]) z7_ z9_ mix (List.forall_mem_cons.2 ⟨q1_,(List.forall_mem_nil _)⟩) (List.forall_mem_nil _) ⟨⟨Tryz.f59,(z2_ Tryz.f59),[.tmp 4],(LOn Int),by kernel_rfl,by kernel_rfl,by kernel_rfl,by kernel_rfl,rfl,by decide,⟨by kernel_rfl,?_,?_⟩,?_⟩⟩
 ·exact ze_ (by kernel_rfl)
 ·exact z8_ (by kernel_rfl)
 ·rintro ⟨a0,left1⟩
  kernel_rfl
def z96_ (k:Nat):Nat→zT3→Int→Int→(Int→Option Int)→Option Int
 | 0,_,_,_,_=>none
 | n+1,a0,left1,i5,e_0=>(if (decide (i5<(List.length a0:Int)))=true then (if 0≤i5 then (a0[i5.toNat]?).bind fun y_1=>(zen_ y_1 left1).bind fun r_2=>(if (decide (r_2<0))=true then some (-1) else z96_ k n a0 r_2 (z0_ (i5+1)) e_0) else none) else e_0 left1)
def zeo_ (k:Nat) (a0:List (Int×Int×Int×List Int)) (left1:Int):Option Int:=(if (decide ((z0_ (left1-(List.length a0:Int)))<0))=true then some (-1) else z96_ k k a0 (z0_ (left1-(List.length a0:Int))) 0 (fun left_3=>some left_3))
def qd_:Head:=⟨[(0,(.val (.sl 108 (.st (.pr (.int .i64) (.pr (.int .i64) (.pr (.int .i64) (.sl 2 (.int .i64))))))))),(1,(.val (.int .i64))),(5,(.val (.int .i64)))],[],[]⟩
def qe_:Head:=⟨[(1,(.val (.int .i64)))],[],[]⟩
def qf_ (k n:Nat) (x:qd_.T) (kx:Nat→St→Option Int):Option Int:=z96_ k n x.1.1 x.1.2.1 x.1.2.2.1 (fun (left1:Int)=>kx 0 (qe_.fill ((left1,()),(),())))
def qg_ (k:Nat):Oracles Int:=⟨fun n=>bif Nat.beq n 5 then some (fun σ kx=>qd_.get σ fun x=>qf_ k k x kx) else none,fun _=>none⟩
def qh_ (k:Nat):FE:=⟨(.pr (.sl 108 (.st (.pr (.int .i64) (.pr (.int .i64) (.pr (.int .i64) (.sl 2 (.int .i64))))))) (.int .i64)),1,(.int .i64),fun x=>zeo_ k x.1 x.2⟩
theorem qi_ (k:Nat):zc_ (z3_ ti [(59,qb_)] (lk []) z4_ z5_) (qg_ k) (rdC (z3_ ti [(59,qb_)] (lk []) z4_ z5_) [.tmp 4] (.int .i64)) ((zb_ (z2_ Tryz.f35)).getD 0 .skip) (fun σ kx=>qd_.get σ fun x=>qf_ k k x kx):=by
 refine ⟨qd_,[(0,qe_)],fun n x kx=>qf_ k n x kx,k,by kernel_rfl,by kernel_rfl,fun x kx=>by kernel_rfl,?_,fun σ kx=>rfl⟩
 rintro n ⟨⟨a0,left1,i5,⟨⟩⟩,⟨⟩,⟨⟩⟩ kx
 kernel_rfl
theorem qj_ (k:Nat):FnOK Tryz.prog 35 (qh_ k):=by
 refine za_ (tab:=[(59,qb_)]) (l:=[]) z7_ z9_ mix (List.forall_mem_cons.2 ⟨qc_,(List.forall_mem_nil _)⟩) (List.forall_mem_nil _) ⟨⟨Tryz.f35,(z2_ Tryz.f35),[.tmp 4],(qg_ k),by kernel_rfl,by kernel_rfl,by kernel_rfl,by kernel_rfl,rfl,by decide,⟨by kernel_rfl,?_,?_⟩,?_⟩⟩
 ·refine zf_ (n:=1) (by kernel_rfl) fun i hi=>?_
  match i,hi with
  | 0,_=>exact zd_ (by kernel_rfl) (qi_ k)
  | n+1,hi=>omega
 ·exact z8_ (by kernel_rfl)
 ·rintro ⟨a0,left1⟩
  kernel_rfl
def zep_ (k:Nat) (a0:List (List Int)×Int×List Int×List (Int×Int×Int×List Int)) (left1:Int):Option Int:=(zem_ k a0.1 left1).bind fun r_1=>(if (decide (r_1<0))=true then some (-1) else (z42_ a0.2.2.1 r_1).bind fun r_2=>(if (decide (r_2<0))=true then some (-1) else (zeo_ k a0.2.2.2 r_2).bind fun r_3=>(if (decide (r_3<0))=true then some (-1) else some r_3)))
def qk_ (k:Nat):FE:=⟨(.pr (.st (.pr (.st (.sl 25 (.sl 2 (.int .i64)))) (.pr (.int .i64) (.pr (.sl 2 (.int .i64)) (.sl 108 (.st (.pr (.int .i64) (.pr (.int .i64) (.pr (.int .i64) (.sl 2 (.int .i64))))))))))) (.int .i64)),1,(.int .i64),fun x=>zep_ k x.1 x.2⟩
theorem ql_ (k:Nat):FnOK Tryz.prog 13 (qk_ k):=by
 refine za_ (tab:=[(34,q9_ k),(14,q0_),(35,qh_ k)]) (l:=[]) z7_ z9_ mix (List.forall_mem_cons.2 ⟨qa_ k,(List.forall_mem_cons.2 ⟨q1_,(List.forall_mem_cons.2 ⟨qj_ k,(List.forall_mem_nil _)⟩)⟩)⟩) (List.forall_mem_nil _) ⟨⟨Tryz.f13,(z2_ Tryz.f13),[.tmp 4],(LOn Int),by kernel_rfl,by kernel_rfl,by kernel_rfl,by kernel_rfl,rfl,by decide,⟨by kernel_rfl,?_,?_⟩,?_⟩⟩
 ·exact ze_ (by kernel_rfl)
 ·exact z8_ (by kernel_rfl)
 ·rintro ⟨a0,left1⟩
  kernel_rfl
def zeq_ (a0:List (Int×Int×Int)) (left1:Int):Option Int:=(if (decide ((z0_ (left1-(List.length a0:Int)))<0))=true then some (-1) else some (z0_ (left1-(List.length a0:Int))))
def qm_:FE:=⟨(.pr (.sl 140 (.st (.pr (.int .i64) (.pr (.int .i64) (.int .i64))))) (.int .i64)),1,(.int .i64),fun x=>zeq_ x.1 x.2⟩
theorem qn_:FnOK Tryz.prog 36 (qm_):=by
 refine za_ (tab:=[]) (l:=[]) z7_ z9_ mix (List.forall_mem_nil _) (List.forall_mem_nil _) ⟨⟨Tryz.f36,(z2_ Tryz.f36),[.tmp 4],(LOn Int),by kernel_rfl,by kernel_rfl,by kernel_rfl,by kernel_rfl,rfl,by decide,⟨by kernel_rfl,?_,?_⟩,?_⟩⟩
 ·exact ze_ (by kernel_rfl)
 ·exact z8_ (by kernel_rfl)
 ·rintro ⟨a0,left1⟩
  kernel_rfl
def zer_ (a0:Int×Int×Int×List (Int×Int×Int)) (left1:Int):Option Int:=(zeq_ a0.2.2.2 left1).bind fun r_1=>(if (decide (r_1<0))=true then some (-1) else some r_1)
def qo_:FE:=⟨(.pr (.st (.pr (.int .i64) (.pr (.int .i64) (.pr (.int .i64) (.sl 140 (.st (.pr (.int .i64) (.pr (.int .i64) (.int .i64))))))))) (.int .i64)),1,(.int .i64),fun x=>zer_ x.1 x.2⟩
theorem qp_:FnOK Tryz.prog 15 (qo_):=by
 refine za_ (tab:=[(36,qm_)]) (l:=[]) z7_ z9_ mix (List.forall_mem_cons.2 ⟨qn_,(List.forall_mem_nil _)⟩) (List.forall_mem_nil _) ⟨⟨Tryz.f15,(z2_ Tryz.f15),[.tmp 4],(LOn Int),by kernel_rfl,by kernel_rfl,by kernel_rfl,by kernel_rfl,rfl,by decide,⟨by kernel_rfl,?_,?_⟩,?_⟩⟩
 ·exact ze_ (by kernel_rfl)
 ·exact z8_ (by kernel_rfl)
 ·rintro ⟨a0,left1⟩
  kernel_rfl
def zes_ (a0:List (Int×Int×Int)) (left1:Int):Option Int:=(if (decide ((z0_ (left1-(List.length a0:Int)))<0))=true then some (-1) else some (z0_ (left1-(List.length a0:Int))))
def qq_:FE:=⟨(.pr (.sl 142 (.st (.pr (.int .i64) (.pr (.int .i64) (.int .i64))))) (.int .i64)),1,(.int .i64),fun x=>zes_ x.1 x.2⟩
theorem qr_:FnOK Tryz.prog 37 (qq_):=by
 refine za_ (tab:=[]) (l:=[]) z7_ z9_ mix (List.forall_mem_nil _) (List.forall_mem_nil _) ⟨⟨Tryz.f37,(z2_ Tryz.f37),[.tmp 4],(LOn Int),by kernel_rfl,by kernel_rfl,by kernel_rfl,by kernel_rfl,rfl,by decide,⟨by kernel_rfl,?_,?_⟩,?_⟩⟩
 ·exact ze_ (by kernel_rfl)
 ·exact z8_ (by kernel_rfl)
 ·rintro ⟨a0,left1⟩
  kernel_rfl
def zet_ (a0:Int×Int×List (Int×Int×Int)) (left1:Int):Option Int:=(zes_ a0.2.2 left1).bind fun r_1=>(if (decide (r_1<0))=true then some (-1) else some r_1)
def qs_:FE:=⟨(.pr (.st (.pr (.int .i64) (.pr (.int .i64) (.sl 142 (.st (.pr (.int .i64) (.pr (.int .i64) (.int .i64)))))))) (.int .i64)),1,(.int .i64),fun x=>zet_ x.1 x.2⟩
theorem qt_:FnOK Tryz.prog 16 (qs_):=by
 refine za_ (tab:=[(37,qq_)]) (l:=[]) z7_ z9_ mix (List.forall_mem_cons.2 ⟨qr_,(List.forall_mem_nil _)⟩) (List.forall_mem_nil _) ⟨⟨Tryz.f16,(z2_ Tryz.f16),[.tmp 4],(LOn Int),by kernel_rfl,by kernel_rfl,by kernel_rfl,by kernel_rfl,rfl,by decide,⟨by kernel_rfl,?_,?_⟩,?_⟩⟩
 ·exact ze_ (by kernel_rfl)
 ·exact z8_ (by kernel_rfl)
 ·rintro ⟨a0,left1⟩
  kernel_rfl
def zeu_ (k:Nat) (a0:zT0×Int×List Int×List Int×(Int×Int×Int×List (Int×Int×Int))×List Int×List Int×(Int×Int×List (Int×Int×Int))×List Int) (left1:Int):Option Int:=(zep_ k a0.1 left1).bind fun r_1=>(if (decide (r_1<0))=true then some (-1) else (z42_ a0.2.2.1 r_1).bind fun r_2=>(if (decide (r_2<0))=true then some (-1) else (z42_ a0.2.2.2.1 r_2).bind fun r_3=>(if (decide (r_3<0))=true then some (-1) else (zer_ a0.2.2.2.2.1 r_3).bind fun r_4=>(if (decide (r_4<0))=true then some (-1) else (z42_ a0.2.2.2.2.2.1 r_4).bind fun r_5=>(if (decide (r_5<0))=true then some (-1) else (z42_ a0.2.2.2.2.2.2.1 r_5).bind fun r_6=>(if (decide (r_6<0))=true then some (-1) else (zet_ a0.2.2.2.2.2.2.2.1 r_6).bind fun r_7=>(if (decide (r_7<0))=true then some (-1) else (z42_ a0.2.2.2.2.2.2.2.2 r_7).bind fun r_8=>(if (decide (r_8<0))=true then some (-1) else some r_8))))))))
def qu_ (k:Nat):FE:=⟨(.pr (.st (.pr (.st (.pr (.st (.sl 25 (.sl 2 (.int .i64)))) (.pr (.int .i64) (.pr (.sl 2 (.int .i64)) (.sl 108 (.st (.pr (.int .i64) (.pr (.int .i64) (.pr (.int .i64) (.sl 2 (.int .i64))))))))))) (.pr (.int .i64) (.pr (.sl 2 (.int .i64)) (.pr (.sl 2 (.int .i64)) (.pr (.st (.pr (.int .i64) (.pr (.int .i64) (.pr (.int .i64) (.sl 140 (.st (.pr (.int .i64) (.pr (.int .i64) (.int .i64))))))))) (.pr (.sl 2 (.int .i64)) (.pr (.sl 2 (.int .i64)) (.pr (.st (.pr (.int .i64) (.pr (.int .i64) (.sl 142 (.st (.pr (.int .i64) (.pr (.int .i64) (.int .i64)))))))) (.sl 2 (.int .i64))))))))))) (.int .i64)),1,(.int .i64),fun x=>zeu_ k x.1 x.2⟩
theorem qv_ (k:Nat):FnOK Tryz.prog 4 (qu_ k):=by
 refine za_ (tab:=[(13,qk_ k),(14,q0_),(15,qo_),(16,qs_)]) (l:=[]) z7_ z9_ mix (List.forall_mem_cons.2 ⟨ql_ k,(List.forall_mem_cons.2 ⟨q1_,(List.forall_mem_cons.2 ⟨qp_,(List.forall_mem_cons.2 ⟨qt_,(List.forall_mem_nil _)⟩)⟩)⟩)⟩) (List.forall_mem_nil _) ⟨⟨Tryz.f4,(z2_ Tryz.f4),[.tmp 4],(LOn Int),by kernel_rfl,by kernel_rfl,by kernel_rfl,by kernel_rfl,rfl,by decide,⟨by kernel_rfl,?_,?_⟩,?_⟩⟩
 ·exact ze_ (by kernel_rfl)
 ·exact z8_ (by kernel_rfl)
 ·rintro ⟨a0,left1⟩
  kernel_rfl
def z97_ (k:Nat):Nat→(List Int)→Int→(List Int)→((List Int)→Option (List Int))→Option (List Int)
 | 0,_,_,_,_=>none
 | n+1,a0,i4,q_1,e_0=>(if (decide (i4<(List.length a0:Int)))=true then (if 0≤i4 then (a0[i4.toNat]?).bind fun y_2=>(if 0≤i4∧i4.toNat<List.length q_1 then (q_1[i4.toNat]?).bind fun y_3=>(q_1[i4.toNat]?).bind fun y_4=>z97_ k n a0 (z0_ (i4+1)) (q_1.set i4.toNat y_2) e_0 else none) else none) else e_0 q_1)
def z43_ (k:Nat) (a0:List Int):Option (List Int):=(if 0≤(List.length a0:Int)∧(List.length a0:Int)≤(List.length a0:Int)∧(List.length a0:Int)*8≤LIM then z97_ k k a0 0 (List.replicate (List.length a0) 0) (fun q_5=>some q_5) else none)
def qw_:Head:=⟨[(0,(.val (.sl 2 (.int .i64)))),(3,(.ref 64000000 [])),(4,(.val (.int .i64)))],[(64000000,2,(.int .i64),false)],[]⟩
def qx_:Head:=⟨[(3,(.ref 64000000 []))],[(64000000,2,(.int .i64),false)],[]⟩
def qy_ (k n:Nat) (x:qw_.T) (kx:Nat→St→Option (List Int)):Option (List Int):=z97_ k n x.1.1 x.1.2.2.1 x.2.1.1 (fun (q_5:List Int)=>kx 0 (qx_.fill (((),()),(q_5,()),())))
def qz_ (k:Nat):Oracles (List Int):=⟨fun n=>bif Nat.beq n 3 then some (fun σ kx=>qw_.get σ fun x=>qy_ k k x kx) else none,fun _=>none⟩
def q10_ (k:Nat):FE:=⟨(.sl 2 (.int .i64)),1,(.sl 2 (.int .i64)),fun x=>z43_ k x⟩
theorem q11_ (k:Nat):zc_ (z3_ ti [] (lk []) z4_ z5_) (qz_ k) (rdC (z3_ ti [] (lk []) z4_ z5_) [.tmp 2] (.sl 2 (.int .i64))) ((zb_ (z2_ Tryz.f19)).getD 0 .skip) (fun σ kx=>qw_.get σ fun x=>qy_ k k x kx):=by
 refine ⟨qw_,[(0,qx_)],fun n x kx=>qy_ k n x kx,k,by kernel_rfl,by kernel_rfl,fun x kx=>by kernel_rfl,?_,fun σ kx=>rfl⟩
 rintro n ⟨⟨a0,⟨⟩,i4,⟨⟩⟩,⟨q_1,⟨⟩⟩,⟨⟩⟩ kx
 kernel_rfl
theorem q12_ (k:Nat):FnOK Tryz.prog 19 (q10_ k):=by
 refine za_ (tab:=[]) (l:=[]) z7_ z9_ mix (List.forall_mem_nil _) (List.forall_mem_nil _) ⟨⟨Tryz.f19,(z2_ Tryz.f19),[.tmp 2],(qz_ k),by kernel_rfl,by kernel_rfl,by kernel_rfl,by kernel_rfl,rfl,by decide,⟨by kernel_rfl,?_,?_⟩,?_⟩⟩
 ·refine zf_ (n:=1) (by kernel_rfl) fun i hi=>?_
  match i,hi with
  | 0,_=>exact zd_ (by kernel_rfl) (q11_ k)
  | n+1,hi=>omega
 ·exact z8_ (by kernel_rfl)
 ·rintro a0
  kernel_rfl
def z98_ (k:Nat):Nat→zT4→Int→zT4→(zT4→Option zT4)→Option zT4
 | 0,_,_,_,_=>none
 | n+1,a0,i4,q_1,e_0=>(if (decide (i4<(List.length a0:Int)))=true then (if 0≤i4 then (a0[i4.toNat]?).bind fun y_2=>(z43_ k y_2).bind fun r_3=>(if 0≤i4∧i4.toNat<List.length q_1 then (q_1[i4.toNat]?).bind fun y_4=>(q_1[i4.toNat]?).bind fun y_5=>z98_ k n a0 (z0_ (i4+1)) (q_1.set i4.toNat r_3) e_0 else none) else none) else e_0 q_1)
def zev_ (k:Nat) (a0:List (List Int)):Option zT4:=(if 0≤(List.length a0:Int)∧(List.length a0:Int)≤(List.length a0:Int)∧(List.length a0:Int)*24≤LIM then z98_ k k a0 0 (List.replicate (List.length a0) ([]:List Int)) (fun q_6=>some q_6) else none)
def q13_:Head:=⟨[(0,(.val (.sl 25 (.sl 2 (.int .i64))))),(3,(.ref 64000000 [])),(4,(.val (.int .i64)))],[(64000000,25,(.sl 2 (.int .i64)),false)],[]⟩
def q14_:Head:=⟨[(3,(.ref 64000000 []))],[(64000000,25,(.sl 2 (.int .i64)),false)],[]⟩
def q15_ (k n:Nat) (x:q13_.T) (kx:Nat→St→Option zT4):Option zT4:=z98_ k n x.1.1 x.1.2.2.1 x.2.1.1 (fun (q_6:List (List Int))=>kx 0 (q14_.fill (((),()),(q_6,()),())))
def q16_ (k:Nat):Oracles zT4:=⟨fun n=>bif Nat.beq n 3 then some (fun σ kx=>q13_.get σ fun x=>q15_ k k x kx) else none,fun _=>none⟩
def q17_ (k:Nat):FE:=⟨(.sl 25 (.sl 2 (.int .i64))),1,(.sl 25 (.sl 2 (.int .i64))),fun x=>zev_ k x⟩
theorem q18_ (k:Nat):zc_ (z3_ ti [(19,q10_ k)] (lk []) z4_ z5_) (q16_ k) (rdC (z3_ ti [(19,q10_ k)] (lk []) z4_ z5_) [.tmp 2] (.sl 25 (.sl 2 (.int .i64)))) ((zb_ (z2_ Tryz.f79)).getD 0 .skip) (fun σ kx=>q13_.get σ fun x=>q15_ k k x kx):=by
 refine ⟨q13_,[(0,q14_)],fun n x kx=>q15_ k n x kx,k,by kernel_rfl,by kernel_rfl,fun x kx=>by kernel_rfl,?_,fun σ kx=>rfl⟩
 rintro n ⟨⟨a0,⟨⟩,i4,⟨⟩⟩,⟨q_1,⟨⟩⟩,⟨⟩⟩ kx
 kernel_rfl
theorem q19_ (k:Nat):FnOK Tryz.prog 79 (q17_ k):=by
 refine za_ (tab:=[(19,q10_ k)]) (l:=[]) z7_ z9_ mix (List.forall_mem_cons.2 ⟨q12_ k,(List.forall_mem_nil _)⟩) (List.forall_mem_nil _) ⟨⟨Tryz.f79,(z2_ Tryz.f79),[.tmp 2],(q16_ k),by kernel_rfl,by kernel_rfl,by kernel_rfl,by kernel_rfl,rfl,by decide,⟨by kernel_rfl,?_,?_⟩,?_⟩⟩
 ·refine zf_ (n:=1) (by kernel_rfl) fun i hi=>?_
  match i,hi with
  | 0,_=>exact zd_ (by kernel_rfl) (q18_ k)
  | n+1,hi=>omega
 ·exact z8_ (by kernel_rfl)
 ·rintro a0
  kernel_rfl
def zew_ (k:Nat) (a0:List (List Int)):Option zT4:=(zev_ k a0).bind fun r_1=>some r_1
def q1a_ (k:Nat):FE:=⟨(.st (.sl 25 (.sl 2 (.int .i64)))),1,(.st (.sl 25 (.sl 2 (.int .i64)))),fun x=>zew_ k x⟩
theorem q1b_ (k:Nat):FnOK Tryz.prog 43 (q1a_ k):=by
 refine za_ (tab:=[(79,q17_ k)]) (l:=[]) z7_ z9_ mix (List.forall_mem_cons.2 ⟨q19_ k,(List.forall_mem_nil _)⟩) (List.forall_mem_nil _) ⟨⟨Tryz.f43,(z2_ Tryz.f43),[.cell 2 41],(LOn zT4),by kernel_rfl,by kernel_rfl,by kernel_rfl,by kernel_rfl,rfl,by decide,⟨by kernel_rfl,?_,?_⟩,?_⟩⟩
 ·exact ze_ (by kernel_rfl)
 ·exact z8_ (by kernel_rfl)
 ·rintro a0
  kernel_rfl
def zex_ (k:Nat) (a0:Int×Int×Int×List Int):Option (Int×Int×Int×List Int):=(z43_ k a0.2.2.2).bind fun r_1=>some (a0.1,(a0.2.1,(a0.2.2.1,r_1)))
def q1c_ (k:Nat):FE:=⟨(.st (.pr (.int .i64) (.pr (.int .i64) (.pr (.int .i64) (.sl 2 (.int .i64)))))),1,(.st (.pr (.int .i64) (.pr (.int .i64) (.pr (.int .i64) (.sl 2 (.int .i64)))))),fun x=>zex_ k x⟩
theorem q1d_ (k:Nat):FnOK Tryz.prog 80 (q1c_ k):=by
 refine za_ (tab:=[(19,q10_ k)]) (l:=[]) z7_ z9_ mix (List.forall_mem_cons.2 ⟨q12_ k,(List.forall_mem_nil _)⟩) (List.forall_mem_nil _) ⟨⟨Tryz.f80,(z2_ Tryz.f80),[.cell 2 135],(LOn (Int×Int×Int×List Int)),by kernel_rfl,by kernel_rfl,by kernel_rfl,by kernel_rfl,rfl,by decide,⟨by kernel_rfl,?_,?_⟩,?_⟩⟩
 ·exact ze_ (by kernel_rfl)
 ·exact z8_ (by kernel_rfl)
 ·rintro a0
  kernel_rfl
def z99_ (k:Nat):Nat→zT3→Int→zT3→(zT3→Option zT3)→Option zT3
 | 0,_,_,_,_=>none
 | n+1,a0,i4,q_1,e_0=>(if (decide (i4<(List.length a0:Int)))=true then (if 0≤i4 then (a0[i4.toNat]?).bind fun y_2=>(zex_ k y_2).bind fun r_3=>(if 0≤i4∧i4.toNat<List.length q_1 then (q_1[i4.toNat]?).bind fun y_4=>(q_1[i4.toNat]?).bind fun y_5=>z99_ k n a0 (z0_ (i4+1)) (q_1.set i4.toNat (r_3.1,(r_3.2.1,(r_3.2.2.1,r_3.2.2.2)))) e_0 else none) else none) else e_0 q_1)
def zey_ (k:Nat) (a0:List (Int×Int×Int×List Int)):Option zT3:=(if 0≤(List.length a0:Int)∧(List.length a0:Int)≤(List.length a0:Int)∧(List.length a0:Int)*48≤LIM then z99_ k k a0 0 (List.replicate (List.length a0) (0,(0,(0,[])))) (fun q_6=>some q_6) else none)
def q1e_:Head:=⟨[(0,(.val (.sl 108 (.st (.pr (.int .i64) (.pr (.int .i64) (.pr (.int .i64) (.sl 2 (.int .i64))))))))),(3,(.ref 64000000 [])),(4,(.val (.int .i64)))],[(64000000,135,(.st (.pr (.int .i64) (.pr (.int .i64) (.pr (.int .i64) (.sl 2 (.int .i64)))))),false)],[]⟩
def q1f_:Head:=⟨[(3,(.ref 64000000 []))],[(64000000,135,(.st (.pr (.int .i64) (.pr (.int .i64) (.pr (.int .i64) (.sl 2 (.int .i64)))))),false)],[]⟩
def q1g_ (k n:Nat) (x:q1e_.T) (kx:Nat→St→Option zT3):Option zT3:=z99_ k n x.1.1 x.1.2.2.1 x.2.1.1 (fun (q_6:List (Int×Int×Int×List Int))=>kx 0 (q1f_.fill (((),()),(q_6,()),())))
def q1h_ (k:Nat):Oracles zT3:=⟨fun n=>bif Nat.beq n 3 then some (fun σ kx=>q1e_.get σ fun x=>q1g_ k k x kx) else none,fun _=>none⟩
def q1i_ (k:Nat):FE:=⟨(.sl 108 (.st (.pr (.int .i64) (.pr (.int .i64) (.pr (.int .i64) (.sl 2 (.int .i64))))))),1,(.sl 135 (.st (.pr (.int .i64) (.pr (.int .i64) (.pr (.int .i64) (.sl 2 (.int .i64))))))),fun x=>zey_ k x⟩
theorem q1j_ (k:Nat):zc_ (z3_ ti [(80,q1c_ k)] (lk []) z4_ z5_) (q1h_ k) (rdC (z3_ ti [(80,q1c_ k)] (lk []) z4_ z5_) [.tmp 2] (.sl 135 (.st (.pr (.int .i64) (.pr (.int .i64) (.pr (.int .i64) (.sl 2 (.int .i64)))))))) ((zb_ (z2_ Tryz.f44)).getD 0 .skip) (fun σ kx=>q1e_.get σ fun x=>q1g_ k k x kx):=by
 refine ⟨q1e_,[(0,q1f_)],fun n x kx=>q1g_ k n x kx,k,by kernel_rfl,by kernel_rfl,fun x kx=>by kernel_rfl,?_,fun σ kx=>rfl⟩
 rintro n ⟨⟨a0,⟨⟩,i4,⟨⟩⟩,⟨q_1,⟨⟩⟩,⟨⟩⟩ kx
 kernel_rfl
theorem q1k_ (k:Nat):FnOK Tryz.prog 44 (q1i_ k):=by
 refine za_ (tab:=[(80,q1c_ k)]) (l:=[]) z7_ z9_ mix (List.forall_mem_cons.2 ⟨q1d_ k,(List.forall_mem_nil _)⟩) (List.forall_mem_nil _) ⟨⟨Tryz.f44,(z2_ Tryz.f44),[.tmp 2],(q1h_ k),by kernel_rfl,by kernel_rfl,by kernel_rfl,by kernel_rfl,rfl,by decide,⟨by kernel_rfl,?_,?_⟩,?_⟩⟩
 ·refine zf_ (n:=1) (by kernel_rfl) fun i hi=>?_
  match i,hi with
  | 0,_=>exact zd_ (by kernel_rfl) (q1j_ k)
  | n+1,hi=>omega
 ·exact z8_ (by kernel_rfl)
 ·rintro a0
  kernel_rfl
def zez_ (k:Nat) (a0:List (List Int)×Int×List Int×List (Int×Int×Int×List Int)):Option zT0:=(zew_ k a0.1).bind fun r_1=>(z43_ k a0.2.2.1).bind fun r_2=>(zey_ k a0.2.2.2).bind fun r_3=>some (r_1,(a0.2.1,(r_2,r_3)))
def q1l_ (k:Nat):FE:=⟨(.st (.pr (.st (.sl 25 (.sl 2 (.int .i64)))) (.pr (.int .i64) (.pr (.sl 2 (.int .i64)) (.sl 108 (.st (.pr (.int .i64) (.pr (.int .i64) (.pr (.int .i64) (.sl 2 (.int .i64))))))))))),1,(.st (.pr (.st (.sl 25 (.sl 2 (.int .i64)))) (.pr (.int .i64) (.pr (.sl 2 (.int .i64)) (.sl 135 (.st (.pr (.int .i64) (.pr (.int .i64) (.pr (.int .i64) (.sl 2 (.int .i64))))))))))),fun x=>zez_ k x⟩
theorem q1m_ (k:Nat):FnOK Tryz.prog 18 (q1l_ k):=by
 refine za_ (tab:=[(43,q1a_ k),(19,q10_ k),(44,q1i_ k)]) (l:=[]) z7_ z9_ mix (List.forall_mem_cons.2 ⟨q1b_ k,(List.forall_mem_cons.2 ⟨q12_ k,(List.forall_mem_cons.2 ⟨q1k_ k,(List.forall_mem_nil _)⟩)⟩)⟩) (List.forall_mem_nil _) ⟨⟨Tryz.f18,(z2_ Tryz.f18),[.cell 2 44],(LOn zT0),by kernel_rfl,by kernel_rfl,by kernel_rfl,by kernel_rfl,rfl,by decide,⟨by kernel_rfl,?_,?_⟩,?_⟩⟩
 ·exact ze_ (by kernel_rfl)
 ·exact z8_ (by kernel_rfl)
 ·rintro a0
  kernel_rfl
def zf0_ (a0:Int×Int×Int):Option (Int×Int×Int):=some (a0.1,(a0.2.1,a0.2.2))
def q1n_:FE:=⟨(.st (.pr (.int .i64) (.pr (.int .i64) (.int .i64)))),1,(.st (.pr (.int .i64) (.pr (.int .i64) (.int .i64)))),fun x=>zf0_ x⟩
theorem q1o_:FnOK Tryz.prog 81 (q1n_):=by
 refine za_ (tab:=[]) (l:=[]) z7_ z9_ mix (List.forall_mem_nil _) (List.forall_mem_nil _) ⟨⟨Tryz.f81,(z2_ Tryz.f81),[.cell 2 138],(LOn (Int×Int×Int)),by kernel_rfl,by kernel_rfl,by kernel_rfl,by kernel_rfl,rfl,by decide,⟨by kernel_rfl,?_,?_⟩,?_⟩⟩
 ·exact ze_ (by kernel_rfl)
 ·exact z8_ (by kernel_rfl)
 ·rintro a0
  kernel_rfl
def z9a_ (k:Nat):Nat→zT2→Int→zT2→(zT2→Option zT2)→Option zT2
 | 0,_,_,_,_=>none
 | n+1,a0,i4,q_1,e_0=>(if (decide (i4<(List.length a0:Int)))=true then (if 0≤i4 then (a0[i4.toNat]?).bind fun y_2=>(zf0_ y_2).bind fun r_3=>(if 0≤i4∧i4.toNat<List.length q_1 then (q_1[i4.toNat]?).bind fun y_4=>(q_1[i4.toNat]?).bind fun y_5=>z9a_ k n a0 (z0_ (i4+1)) (q_1.set i4.toNat r_3) e_0 else none) else none) else e_0 q_1)
def zf1_ (k:Nat) (a0:List (Int×Int×Int)):Option zT2:=(if 0≤(List.length a0:Int)∧(List.length a0:Int)≤(List.length a0:Int)∧(List.length a0:Int)*24≤LIM then z9a_ k k a0 0 (List.replicate (List.length a0) (0,(0,0))) (fun q_6=>some q_6) else none)
def q1p_:Head:=⟨[(0,(.val (.sl 140 (.st (.pr (.int .i64) (.pr (.int .i64) (.int .i64))))))),(3,(.ref 64000000 [])),(4,(.val (.int .i64)))],[(64000000,138,(.st (.pr (.int .i64) (.pr (.int .i64) (.int .i64)))),false)],[]⟩
def q1q_:Head:=⟨[(3,(.ref 64000000 []))],[(64000000,138,(.st (.pr (.int .i64) (.pr (.int .i64) (.int .i64)))),false)],[]⟩
def q1r_ (k n:Nat) (x:q1p_.T) (kx:Nat→St→Option zT2):Option zT2:=z9a_ k n x.1.1 x.1.2.2.1 x.2.1.1 (fun (q_6:List (Int×Int×Int))=>kx 0 (q1q_.fill (((),()),(q_6,()),())))
def q1s_ (k:Nat):Oracles zT2:=⟨fun n=>bif Nat.beq n 3 then some (fun σ kx=>q1p_.get σ fun x=>q1r_ k k x kx) else none,fun _=>none⟩
def q1t_ (k:Nat):FE:=⟨(.sl 140 (.st (.pr (.int .i64) (.pr (.int .i64) (.int .i64))))),1,(.sl 138 (.st (.pr (.int .i64) (.pr (.int .i64) (.int .i64))))),fun x=>zf1_ k x⟩
theorem q1u_ (k:Nat):zc_ (z3_ ti [(81,q1n_)] (lk []) z4_ z5_) (q1s_ k) (rdC (z3_ ti [(81,q1n_)] (lk []) z4_ z5_) [.tmp 2] (.sl 138 (.st (.pr (.int .i64) (.pr (.int .i64) (.int .i64)))))) ((zb_ (z2_ Tryz.f45)).getD 0 .skip) (fun σ kx=>q1p_.get σ fun x=>q1r_ k k x kx):=by
 refine ⟨q1p_,[(0,q1q_)],fun n x kx=>q1r_ k n x kx,k,by kernel_rfl,by kernel_rfl,fun x kx=>by kernel_rfl,?_,fun σ kx=>rfl⟩
 rintro n ⟨⟨a0,⟨⟩,i4,⟨⟩⟩,⟨q_1,⟨⟩⟩,⟨⟩⟩ kx
 kernel_rfl
theorem q1v_ (k:Nat):FnOK Tryz.prog 45 (q1t_ k):=by
 refine za_ (tab:=[(81,q1n_)]) (l:=[]) z7_ z9_ mix (List.forall_mem_cons.2 ⟨q1o_,(List.forall_mem_nil _)⟩) (List.forall_mem_nil _) ⟨⟨Tryz.f45,(z2_ Tryz.f45),[.tmp 2],(q1s_ k),by kernel_rfl,by kernel_rfl,by kernel_rfl,by kernel_rfl,rfl,by decide,⟨by kernel_rfl,?_,?_⟩,?_⟩⟩
 ·refine zf_ (n:=1) (by kernel_rfl) fun i hi=>?_
  match i,hi with
  | 0,_=>exact zd_ (by kernel_rfl) (q1u_ k)
  | n+1,hi=>omega
 ·exact z8_ (by kernel_rfl)
 ·rintro a0
  kernel_rfl
def zf2_ (k:Nat) (a0:Int×Int×Int×List (Int×Int×Int)):Option (Int×Int×Int×List (Int×Int×Int)):=(zf1_ k a0.2.2.2).bind fun r_1=>some (a0.1,(a0.2.1,(a0.2.2.1,r_1)))
def q1w_ (k:Nat):FE:=⟨(.st (.pr (.int .i64) (.pr (.int .i64) (.pr (.int .i64) (.sl 140 (.st (.pr (.int .i64) (.pr (.int .i64) (.int .i64))))))))),1,(.st (.pr (.int .i64) (.pr (.int .i64) (.pr (.int .i64) (.sl 138 (.st (.pr (.int .i64) (.pr (.int .i64) (.int .i64))))))))),fun x=>zf2_ k x⟩
theorem q1x_ (k:Nat):FnOK Tryz.prog 20 (q1w_ k):=by
 refine za_ (tab:=[(45,q1t_ k)]) (l:=[]) z7_ z9_ mix (List.forall_mem_cons.2 ⟨q1v_ k,(List.forall_mem_nil _)⟩) (List.forall_mem_nil _) ⟨⟨Tryz.f20,(z2_ Tryz.f20),[.cell 2 47],(LOn (Int×Int×Int×List (Int×Int×Int))),by kernel_rfl,by kernel_rfl,by kernel_rfl,by kernel_rfl,rfl,by decide,⟨by kernel_rfl,?_,?_⟩,?_⟩⟩
 ·exact ze_ (by kernel_rfl)
 ·exact z8_ (by kernel_rfl)
 ·rintro a0
  kernel_rfl
def zf3_ (a0:Int×Int×Int):Option (Int×Int×Int):=some (a0.1,(a0.2.1,a0.2.2))
def q1y_:FE:=⟨(.st (.pr (.int .i64) (.pr (.int .i64) (.int .i64)))),1,(.st (.pr (.int .i64) (.pr (.int .i64) (.int .i64)))),fun x=>zf3_ x⟩
theorem q1z_:FnOK Tryz.prog 82 (q1y_):=by
 refine za_ (tab:=[]) (l:=[]) z7_ z9_ mix (List.forall_mem_nil _) (List.forall_mem_nil _) ⟨⟨Tryz.f82,(z2_ Tryz.f82),[.cell 2 133],(LOn (Int×Int×Int)),by kernel_rfl,by kernel_rfl,by kernel_rfl,by kernel_rfl,rfl,by decide,⟨by kernel_rfl,?_,?_⟩,?_⟩⟩
 ·exact ze_ (by kernel_rfl)
 ·exact z8_ (by kernel_rfl)
 ·rintro a0
  kernel_rfl
def z9b_ (k:Nat):Nat→zT2→Int→zT2→(zT2→Option zT2)→Option zT2
 | 0,_,_,_,_=>none
 | n+1,a0,i4,q_1,e_0=>(if (decide (i4<(List.length a0:Int)))=true then (if 0≤i4 then (a0[i4.toNat]?).bind fun y_2=>(zf3_ y_2).bind fun r_3=>(if 0≤i4∧i4.toNat<List.length q_1 then (q_1[i4.toNat]?).bind fun y_4=>(q_1[i4.toNat]?).bind fun y_5=>z9b_ k n a0 (z0_ (i4+1)) (q_1.set i4.toNat r_3) e_0 else none) else none) else e_0 q_1)
def zf4_ (k:Nat) (a0:List (Int×Int×Int)):Option zT2:=(if 0≤(List.length a0:Int)∧(List.length a0:Int)≤(List.length a0:Int)∧(List.length a0:Int)*24≤LIM then z9b_ k k a0 0 (List.replicate (List.length a0) (0,(0,0))) (fun q_6=>some q_6) else none)
def q20_:Head:=⟨[(0,(.val (.sl 142 (.st (.pr (.int .i64) (.pr (.int .i64) (.int .i64))))))),(3,(.ref 64000000 [])),(4,(.val (.int .i64)))],[(64000000,133,(.st (.pr (.int .i64) (.pr (.int .i64) (.int .i64)))),false)],[]⟩
def q21_:Head:=⟨[(3,(.ref 64000000 []))],[(64000000,133,(.st (.pr (.int .i64) (.pr (.int .i64) (.int .i64)))),false)],[]⟩
def q22_ (k n:Nat) (x:q20_.T) (kx:Nat→St→Option zT2):Option zT2:=z9b_ k n x.1.1 x.1.2.2.1 x.2.1.1 (fun (q_6:List (Int×Int×Int))=>kx 0 (q21_.fill (((),()),(q_6,()),())))
def q23_ (k:Nat):Oracles zT2:=⟨fun n=>bif Nat.beq n 3 then some (fun σ kx=>q20_.get σ fun x=>q22_ k k x kx) else none,fun _=>none⟩
def q24_ (k:Nat):FE:=⟨(.sl 142 (.st (.pr (.int .i64) (.pr (.int .i64) (.int .i64))))),1,(.sl 133 (.st (.pr (.int .i64) (.pr (.int .i64) (.int .i64))))),fun x=>zf4_ k x⟩
theorem q25_ (k:Nat):zc_ (z3_ ti [(82,q1y_)] (lk []) z4_ z5_) (q23_ k) (rdC (z3_ ti [(82,q1y_)] (lk []) z4_ z5_) [.tmp 2] (.sl 133 (.st (.pr (.int .i64) (.pr (.int .i64) (.int .i64)))))) ((zb_ (z2_ Tryz.f46)).getD 0 .skip) (fun σ kx=>q20_.get σ fun x=>q22_ k k x kx):=by
 refine ⟨q20_,[(0,q21_)],fun n x kx=>q22_ k n x kx,k,by kernel_rfl,by kernel_rfl,fun x kx=>by kernel_rfl,?_,fun σ kx=>rfl⟩
 rintro n ⟨⟨a0,⟨⟩,i4,⟨⟩⟩,⟨q_1,⟨⟩⟩,⟨⟩⟩ kx
 kernel_rfl
theorem q26_ (k:Nat):FnOK Tryz.prog 46 (q24_ k):=by
 refine za_ (tab:=[(82,q1y_)]) (l:=[]) z7_ z9_ mix (List.forall_mem_cons.2 ⟨q1z_,(List.forall_mem_nil _)⟩) (List.forall_mem_nil _) ⟨⟨Tryz.f46,(z2_ Tryz.f46),[.tmp 2],(q23_ k),by kernel_rfl,by kernel_rfl,by kernel_rfl,by kernel_rfl,rfl,by decide,⟨by kernel_rfl,?_,?_⟩,?_⟩⟩
 ·refine zf_ (n:=1) (by kernel_rfl) fun i hi=>?_
  match i,hi with
  | 0,_=>exact zd_ (by kernel_rfl) (q25_ k)
  | n+1,hi=>omega
 ·exact z8_ (by kernel_rfl)
 ·rintro a0
  kernel_rfl
def zf5_ (k:Nat) (a0:Int×Int×List (Int×Int×Int)):Option (Int×Int×List (Int×Int×Int)):=(zf4_ k a0.2.2).bind fun r_1=>some (a0.1,(a0.2.1,r_1))
def q27_ (k:Nat):FE:=⟨(.st (.pr (.int .i64) (.pr (.int .i64) (.sl 142 (.st (.pr (.int .i64) (.pr (.int .i64) (.int .i64)))))))),1,(.st (.pr (.int .i64) (.pr (.int .i64) (.sl 133 (.st (.pr (.int .i64) (.pr (.int .i64) (.int .i64)))))))),fun x=>zf5_ k x⟩
theorem q28_ (k:Nat):FnOK Tryz.prog 21 (q27_ k):=by
 refine za_ (tab:=[(46,q24_ k)]) (l:=[]) z7_ z9_ mix (List.forall_mem_cons.2 ⟨q26_ k,(List.forall_mem_nil _)⟩) (List.forall_mem_nil _) ⟨⟨Tryz.f21,(z2_ Tryz.f21),[.cell 2 50],(LOn (Int×Int×List (Int×Int×Int))),by kernel_rfl,by kernel_rfl,by kernel_rfl,by kernel_rfl,rfl,by decide,⟨by kernel_rfl,?_,?_⟩,?_⟩⟩
 ·exact ze_ (by kernel_rfl)
 ·exact z8_ (by kernel_rfl)
 ·rintro a0
  kernel_rfl
end
end Go.Proofs.YtioaaljaohhjiaaGreatDoor.Ev
