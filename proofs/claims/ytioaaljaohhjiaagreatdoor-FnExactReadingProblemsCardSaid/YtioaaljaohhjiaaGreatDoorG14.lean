/- Functions of the program, as plain ones. No conditions. -/
import Derived.Test.YtioaaljaohhjiaaGreatDoorG13
import Derived.KernelRfl
set_option linter.unusedVariables false
set_option maxRecDepth 100000
namespace Go.Proofs.YtioaaljaohhjiaaGreatDoor.Ev
open Go.RowKit
noncomputable section
def zfx_ (k:Nat) (a0:Int×Int×Int×List Int) (b1:Int×Int×Int×List Int):Option Bool:=(if (!(decide (a0.1=b1.1)))=true then some false else (if (!(decide (a0.2.1=b1.2.1)))=true then some false else (if (!(decide (a0.2.2.1=b1.2.2.1)))=true then some false else (z44_ k a0.2.2.2 b1.2.2.2).bind fun r_1=>(if (!r_1)=true then some false else some true))))
def qmo_ (k:Nat):FE:=⟨(.pr (.st (.pr (.int .i64) (.pr (.int .i64) (.pr (.int .i64) (.sl 2 (.int .i64)))))) (.st (.pr (.int .i64) (.pr (.int .i64) (.pr (.int .i64) (.sl 2 (.int .i64))))))),1,.bool,fun x=>zfx_ k x.1 x.2⟩
theorem qmp_ (k:Nat):FnOK Tryz.prog 101 (qmo_ k):=by
 refine za_ (tab:=[(26,qmc_ k)]) (l:=[]) z7_ z9_ mix (List.forall_mem_cons.2 ⟨qme_ k,(List.forall_mem_nil _)⟩) (List.forall_mem_nil _) ⟨⟨Tryz.f101,(z2_ Tryz.f101),[.tmp 4],(LOn Bool),by kernel_rfl,by kernel_rfl,by kernel_rfl,by kernel_rfl,rfl,by decide,⟨by kernel_rfl,?_,?_⟩,?_⟩⟩
 ·exact ze_ (by kernel_rfl)
 ·exact z8_ (by kernel_rfl)
 ·rintro ⟨a0,b1⟩
  kernel_rfl
def z9u_ (k:Nat):Nat→zT3→zT3→Int→(Option Bool)→Option Bool
 | 0,_,_,_,_=>none
 | n+1,a0,b1,i5,e_0=>(if (decide (i5<(List.length a0:Int)))=true then (if 0≤i5 then (a0[i5.toNat]?).bind fun y_1=>(if 0≤i5 then (b1[i5.toNat]?).bind fun y_2=>(zfx_ k y_1 y_2).bind fun r_3=>(if (!r_3)=true then some false else z9u_ k n a0 b1 (z0_ (i5+1)) e_0) else none) else none) else e_0)
def zfy_ (k:Nat) (a0:List (Int×Int×Int×List Int)) (b1:List (Int×Int×Int×List Int)):Option Bool:=(if (!(decide ((List.length a0:Int)=(List.length b1:Int))))=true then some false else z9u_ k k a0 b1 0 (some true))
def qmq_:Head:=⟨[(0,(.val (.sl 135 (.st (.pr (.int .i64) (.pr (.int .i64) (.pr (.int .i64) (.sl 2 (.int .i64))))))))),(1,(.val (.sl 135 (.st (.pr (.int .i64) (.pr (.int .i64) (.pr (.int .i64) (.sl 2 (.int .i64))))))))),(5,(.val (.int .i64)))],[],[]⟩
def qmr_:Head:=⟨[],[],[]⟩
def qms_ (k n:Nat) (x:qmq_.T) (kx:Nat→St→Option Bool):Option Bool:=z9u_ k n x.1.1 x.1.2.1 x.1.2.2.1 (kx 0 (qmr_.fill ((),(),())))
def qmt_ (k:Nat):Oracles Bool:=⟨fun n=>bif Nat.beq n 4 then some (fun σ kx=>qmq_.get σ fun x=>qms_ k k x kx) else none,fun _=>none⟩
def qmu_ (k:Nat):FE:=⟨(.pr (.sl 135 (.st (.pr (.int .i64) (.pr (.int .i64) (.pr (.int .i64) (.sl 2 (.int .i64))))))) (.sl 135 (.st (.pr (.int .i64) (.pr (.int .i64) (.pr (.int .i64) (.sl 2 (.int .i64)))))))),1,.bool,fun x=>zfy_ k x.1 x.2⟩
theorem qmv_ (k:Nat):zc_ (z3_ ti [(101,qmo_ k)] (lk []) z4_ z5_) (qmt_ k) (rdC (z3_ ti [(101,qmo_ k)] (lk []) z4_ z5_) [.tmp 4] .bool) ((zb_ (z2_ Tryz.f51)).getD 0 .skip) (fun σ kx=>qmq_.get σ fun x=>qms_ k k x kx):=by
 refine ⟨qmq_,[(0,qmr_)],fun n x kx=>qms_ k n x kx,k,by kernel_rfl,by kernel_rfl,fun x kx=>by kernel_rfl,?_,fun σ kx=>rfl⟩
 rintro n ⟨⟨a0,b1,i5,⟨⟩⟩,⟨⟩,⟨⟩⟩ kx
 kernel_rfl
theorem qmw_ (k:Nat):FnOK Tryz.prog 51 (qmu_ k):=by
 refine za_ (tab:=[(101,qmo_ k)]) (l:=[]) z7_ z9_ mix (List.forall_mem_cons.2 ⟨qmp_ k,(List.forall_mem_nil _)⟩) (List.forall_mem_nil _) ⟨⟨Tryz.f51,(z2_ Tryz.f51),[.tmp 4],(qmt_ k),by kernel_rfl,by kernel_rfl,by kernel_rfl,by kernel_rfl,rfl,by decide,⟨by kernel_rfl,?_,?_⟩,?_⟩⟩
 ·refine zf_ (n:=1) (by kernel_rfl) fun i hi=>?_
  match i,hi with
  | 0,_=>exact zd_ (by kernel_rfl) (qmv_ k)
  | n+1,hi=>omega
 ·exact z8_ (by kernel_rfl)
 ·rintro ⟨a0,b1⟩
  kernel_rfl
def zfz_ (k:Nat) (a0:List (List Int)×Int×List Int×List (Int×Int×Int×List Int)) (b1:List (List Int)×Int×List Int×List (Int×Int×Int×List Int)):Option Bool:=(zfw_ k a0.1 b1.1).bind fun r_1=>(if (!r_1)=true then some false else (if (!(decide (a0.2.1=b1.2.1)))=true then some false else (z44_ k a0.2.2.1 b1.2.2.1).bind fun r_2=>(if (!r_2)=true then some false else (zfy_ k a0.2.2.2 b1.2.2.2).bind fun r_3=>(if (!r_3)=true then some false else some true))))
def qmx_ (k:Nat):FE:=⟨(.pr (.st (.pr (.st (.sl 25 (.sl 2 (.int .i64)))) (.pr (.int .i64) (.pr (.sl 2 (.int .i64)) (.sl 135 (.st (.pr (.int .i64) (.pr (.int .i64) (.pr (.int .i64) (.sl 2 (.int .i64))))))))))) (.st (.pr (.st (.sl 25 (.sl 2 (.int .i64)))) (.pr (.int .i64) (.pr (.sl 2 (.int .i64)) (.sl 135 (.st (.pr (.int .i64) (.pr (.int .i64) (.pr (.int .i64) (.sl 2 (.int .i64)))))))))))),1,.bool,fun x=>zfz_ k x.1 x.2⟩
theorem qmy_ (k:Nat):FnOK Tryz.prog 25 (qmx_ k):=by
 refine za_ (tab:=[(50,qmm_ k),(26,qmc_ k),(51,qmu_ k)]) (l:=[]) z7_ z9_ mix (List.forall_mem_cons.2 ⟨qmn_ k,(List.forall_mem_cons.2 ⟨qme_ k,(List.forall_mem_cons.2 ⟨qmw_ k,(List.forall_mem_nil _)⟩)⟩)⟩) (List.forall_mem_nil _) ⟨⟨Tryz.f25,(z2_ Tryz.f25),[.tmp 4],(LOn Bool),by kernel_rfl,by kernel_rfl,by kernel_rfl,by kernel_rfl,rfl,by decide,⟨by kernel_rfl,?_,?_⟩,?_⟩⟩
 ·exact ze_ (by kernel_rfl)
 ·exact z8_ (by kernel_rfl)
 ·rintro ⟨a0,b1⟩
  kernel_rfl
def zg0_ (a0:Int×Int×Int) (b1:Int×Int×Int):Option Bool:=(if (!(decide (a0.1=b1.1)))=true then some false else (if (!(decide (a0.2.1=b1.2.1)))=true then some false else (if (!(decide (a0.2.2=b1.2.2)))=true then some false else some true)))
def qmz_:FE:=⟨(.pr (.st (.pr (.int .i64) (.pr (.int .i64) (.int .i64)))) (.st (.pr (.int .i64) (.pr (.int .i64) (.int .i64))))),1,.bool,fun x=>zg0_ x.1 x.2⟩
theorem qn0_:FnOK Tryz.prog 102 (qmz_):=by
 refine za_ (tab:=[]) (l:=[]) z7_ z9_ mix (List.forall_mem_nil _) (List.forall_mem_nil _) ⟨⟨Tryz.f102,(z2_ Tryz.f102),[.tmp 4],(LOn Bool),by kernel_rfl,by kernel_rfl,by kernel_rfl,by kernel_rfl,rfl,by decide,⟨by kernel_rfl,?_,?_⟩,?_⟩⟩
 ·exact ze_ (by kernel_rfl)
 ·exact z8_ (by kernel_rfl)
 ·rintro ⟨a0,b1⟩
  kernel_rfl
def z9v_ (k:Nat):Nat→zT2→zT2→Int→(Option Bool)→Option Bool
 | 0,_,_,_,_=>none
 | n+1,a0,b1,i5,e_0=>(if (decide (i5<(List.length a0:Int)))=true then (if 0≤i5 then (a0[i5.toNat]?).bind fun y_1=>(if 0≤i5 then (b1[i5.toNat]?).bind fun y_2=>(zg0_ y_1 y_2).bind fun r_3=>(if (!r_3)=true then some false else z9v_ k n a0 b1 (z0_ (i5+1)) e_0) else none) else none) else e_0)
def zg1_ (k:Nat) (a0:List (Int×Int×Int)) (b1:List (Int×Int×Int)):Option Bool:=(if (!(decide ((List.length a0:Int)=(List.length b1:Int))))=true then some false else z9v_ k k a0 b1 0 (some true))
def qn1_:Head:=⟨[(0,(.val (.sl 138 (.st (.pr (.int .i64) (.pr (.int .i64) (.int .i64))))))),(1,(.val (.sl 138 (.st (.pr (.int .i64) (.pr (.int .i64) (.int .i64))))))),(5,(.val (.int .i64)))],[],[]⟩
def qn2_:Head:=⟨[],[],[]⟩
def qn3_ (k n:Nat) (x:qn1_.T) (kx:Nat→St→Option Bool):Option Bool:=z9v_ k n x.1.1 x.1.2.1 x.1.2.2.1 (kx 0 (qn2_.fill ((),(),())))
def qn4_ (k:Nat):Oracles Bool:=⟨fun n=>bif Nat.beq n 4 then some (fun σ kx=>qn1_.get σ fun x=>qn3_ k k x kx) else none,fun _=>none⟩
def qn5_ (k:Nat):FE:=⟨(.pr (.sl 138 (.st (.pr (.int .i64) (.pr (.int .i64) (.int .i64))))) (.sl 138 (.st (.pr (.int .i64) (.pr (.int .i64) (.int .i64)))))),1,.bool,fun x=>zg1_ k x.1 x.2⟩
theorem qn6_ (k:Nat):zc_ (z3_ ti [(102,qmz_)] (lk []) z4_ z5_) (qn4_ k) (rdC (z3_ ti [(102,qmz_)] (lk []) z4_ z5_) [.tmp 4] .bool) ((zb_ (z2_ Tryz.f52)).getD 0 .skip) (fun σ kx=>qn1_.get σ fun x=>qn3_ k k x kx):=by
 refine ⟨qn1_,[(0,qn2_)],fun n x kx=>qn3_ k n x kx,k,by kernel_rfl,by kernel_rfl,fun x kx=>by kernel_rfl,?_,fun σ kx=>rfl⟩
 rintro n ⟨⟨a0,b1,i5,⟨⟩⟩,⟨⟩,⟨⟩⟩ kx
 kernel_rfl
theorem qn7_ (k:Nat):FnOK Tryz.prog 52 (qn5_ k):=by
 refine za_ (tab:=[(102,qmz_)]) (l:=[]) z7_ z9_ mix (List.forall_mem_cons.2 ⟨qn0_,(List.forall_mem_nil _)⟩) (List.forall_mem_nil _) ⟨⟨Tryz.f52,(z2_ Tryz.f52),[.tmp 4],(qn4_ k),by kernel_rfl,by kernel_rfl,by kernel_rfl,by kernel_rfl,rfl,by decide,⟨by kernel_rfl,?_,?_⟩,?_⟩⟩
 ·refine zf_ (n:=1) (by kernel_rfl) fun i hi=>?_
  match i,hi with
  | 0,_=>exact zd_ (by kernel_rfl) (qn6_ k)
  | n+1,hi=>omega
 ·exact z8_ (by kernel_rfl)
 ·rintro ⟨a0,b1⟩
  kernel_rfl
def zg2_ (k:Nat) (a0:Int×Int×Int×List (Int×Int×Int)) (b1:Int×Int×Int×List (Int×Int×Int)):Option Bool:=(if (!(decide (a0.1=b1.1)))=true then some false else (if (!(decide (a0.2.1=b1.2.1)))=true then some false else (if (!(decide (a0.2.2.1=b1.2.2.1)))=true then some false else (zg1_ k a0.2.2.2 b1.2.2.2).bind fun r_1=>(if (!r_1)=true then some false else some true))))
def qn8_ (k:Nat):FE:=⟨(.pr (.st (.pr (.int .i64) (.pr (.int .i64) (.pr (.int .i64) (.sl 138 (.st (.pr (.int .i64) (.pr (.int .i64) (.int .i64))))))))) (.st (.pr (.int .i64) (.pr (.int .i64) (.pr (.int .i64) (.sl 138 (.st (.pr (.int .i64) (.pr (.int .i64) (.int .i64)))))))))),1,.bool,fun x=>zg2_ k x.1 x.2⟩
theorem qn9_ (k:Nat):FnOK Tryz.prog 27 (qn8_ k):=by
 refine za_ (tab:=[(52,qn5_ k)]) (l:=[]) z7_ z9_ mix (List.forall_mem_cons.2 ⟨qn7_ k,(List.forall_mem_nil _)⟩) (List.forall_mem_nil _) ⟨⟨Tryz.f27,(z2_ Tryz.f27),[.tmp 4],(LOn Bool),by kernel_rfl,by kernel_rfl,by kernel_rfl,by kernel_rfl,rfl,by decide,⟨by kernel_rfl,?_,?_⟩,?_⟩⟩
 ·exact ze_ (by kernel_rfl)
 ·exact z8_ (by kernel_rfl)
 ·rintro ⟨a0,b1⟩
  kernel_rfl
def zg3_ (a0:Int×Int×Int) (b1:Int×Int×Int):Option Bool:=(if (!(decide (a0.1=b1.1)))=true then some false else (if (!(decide (a0.2.1=b1.2.1)))=true then some false else (if (!(decide (a0.2.2=b1.2.2)))=true then some false else some true)))
def qna_:FE:=⟨(.pr (.st (.pr (.int .i64) (.pr (.int .i64) (.int .i64)))) (.st (.pr (.int .i64) (.pr (.int .i64) (.int .i64))))),1,.bool,fun x=>zg3_ x.1 x.2⟩
theorem qnb_:FnOK Tryz.prog 103 (qna_):=by
 refine za_ (tab:=[]) (l:=[]) z7_ z9_ mix (List.forall_mem_nil _) (List.forall_mem_nil _) ⟨⟨Tryz.f103,(z2_ Tryz.f103),[.tmp 4],(LOn Bool),by kernel_rfl,by kernel_rfl,by kernel_rfl,by kernel_rfl,rfl,by decide,⟨by kernel_rfl,?_,?_⟩,?_⟩⟩
 ·exact ze_ (by kernel_rfl)
 ·exact z8_ (by kernel_rfl)
 ·rintro ⟨a0,b1⟩
  kernel_rfl
def z9w_ (k:Nat):Nat→zT2→zT2→Int→(Option Bool)→Option Bool
 | 0,_,_,_,_=>none
 | n+1,a0,b1,i5,e_0=>(if (decide (i5<(List.length a0:Int)))=true then (if 0≤i5 then (a0[i5.toNat]?).bind fun y_1=>(if 0≤i5 then (b1[i5.toNat]?).bind fun y_2=>(zg3_ y_1 y_2).bind fun r_3=>(if (!r_3)=true then some false else z9w_ k n a0 b1 (z0_ (i5+1)) e_0) else none) else none) else e_0)
def zg4_ (k:Nat) (a0:List (Int×Int×Int)) (b1:List (Int×Int×Int)):Option Bool:=(if (!(decide ((List.length a0:Int)=(List.length b1:Int))))=true then some false else z9w_ k k a0 b1 0 (some true))
def qnc_:Head:=⟨[(0,(.val (.sl 133 (.st (.pr (.int .i64) (.pr (.int .i64) (.int .i64))))))),(1,(.val (.sl 133 (.st (.pr (.int .i64) (.pr (.int .i64) (.int .i64))))))),(5,(.val (.int .i64)))],[],[]⟩
def qnd_:Head:=⟨[],[],[]⟩
def qne_ (k n:Nat) (x:qnc_.T) (kx:Nat→St→Option Bool):Option Bool:=z9w_ k n x.1.1 x.1.2.1 x.1.2.2.1 (kx 0 (qnd_.fill ((),(),())))
def qnf_ (k:Nat):Oracles Bool:=⟨fun n=>bif Nat.beq n 4 then some (fun σ kx=>qnc_.get σ fun x=>qne_ k k x kx) else none,fun _=>none⟩
def qng_ (k:Nat):FE:=⟨(.pr (.sl 133 (.st (.pr (.int .i64) (.pr (.int .i64) (.int .i64))))) (.sl 133 (.st (.pr (.int .i64) (.pr (.int .i64) (.int .i64)))))),1,.bool,fun x=>zg4_ k x.1 x.2⟩
theorem qnh_ (k:Nat):zc_ (z3_ ti [(103,qna_)] (lk []) z4_ z5_) (qnf_ k) (rdC (z3_ ti [(103,qna_)] (lk []) z4_ z5_) [.tmp 4] .bool) ((zb_ (z2_ Tryz.f53)).getD 0 .skip) (fun σ kx=>qnc_.get σ fun x=>qne_ k k x kx):=by
 refine ⟨qnc_,[(0,qnd_)],fun n x kx=>qne_ k n x kx,k,by kernel_rfl,by kernel_rfl,fun x kx=>by kernel_rfl,?_,fun σ kx=>rfl⟩
 rintro n ⟨⟨a0,b1,i5,⟨⟩⟩,⟨⟩,⟨⟩⟩ kx
 kernel_rfl
theorem qni_ (k:Nat):FnOK Tryz.prog 53 (qng_ k):=by
 refine za_ (tab:=[(103,qna_)]) (l:=[]) z7_ z9_ mix (List.forall_mem_cons.2 ⟨qnb_,(List.forall_mem_nil _)⟩) (List.forall_mem_nil _) ⟨⟨Tryz.f53,(z2_ Tryz.f53),[.tmp 4],(qnf_ k),by kernel_rfl,by kernel_rfl,by kernel_rfl,by kernel_rfl,rfl,by decide,⟨by kernel_rfl,?_,?_⟩,?_⟩⟩
 ·refine zf_ (n:=1) (by kernel_rfl) fun i hi=>?_
  match i,hi with
  | 0,_=>exact zd_ (by kernel_rfl) (qnh_ k)
  | n+1,hi=>omega
 ·exact z8_ (by kernel_rfl)
 ·rintro ⟨a0,b1⟩
  kernel_rfl
def zg5_ (k:Nat) (a0:Int×Int×List (Int×Int×Int)) (b1:Int×Int×List (Int×Int×Int)):Option Bool:=(if (!(decide (a0.1=b1.1)))=true then some false else (if (!(decide (a0.2.1=b1.2.1)))=true then some false else (zg4_ k a0.2.2 b1.2.2).bind fun r_1=>(if (!r_1)=true then some false else some true)))
def qnj_ (k:Nat):FE:=⟨(.pr (.st (.pr (.int .i64) (.pr (.int .i64) (.sl 133 (.st (.pr (.int .i64) (.pr (.int .i64) (.int .i64)))))))) (.st (.pr (.int .i64) (.pr (.int .i64) (.sl 133 (.st (.pr (.int .i64) (.pr (.int .i64) (.int .i64))))))))),1,.bool,fun x=>zg5_ k x.1 x.2⟩
theorem qnk_ (k:Nat):FnOK Tryz.prog 28 (qnj_ k):=by
 refine za_ (tab:=[(53,qng_ k)]) (l:=[]) z7_ z9_ mix (List.forall_mem_cons.2 ⟨qni_ k,(List.forall_mem_nil _)⟩) (List.forall_mem_nil _) ⟨⟨Tryz.f28,(z2_ Tryz.f28),[.tmp 4],(LOn Bool),by kernel_rfl,by kernel_rfl,by kernel_rfl,by kernel_rfl,rfl,by decide,⟨by kernel_rfl,?_,?_⟩,?_⟩⟩
 ·exact ze_ (by kernel_rfl)
 ·exact z8_ (by kernel_rfl)
 ·rintro ⟨a0,b1⟩
  kernel_rfl
def zg6_ (k:Nat) (a0:zT0×Int×List Int×List Int×(Int×Int×Int×List (Int×Int×Int))×List Int×List Int×(Int×Int×List (Int×Int×Int))×List Int) (b1:zT0×Int×List Int×List Int×(Int×Int×Int×List (Int×Int×Int))×List Int×List Int×(Int×Int×List (Int×Int×Int))×List Int):Option Bool:=(zfz_ k a0.1 b1.1).bind fun r_1=>(if (!r_1)=true then some false else (if (!(decide (a0.2.1=b1.2.1)))=true then some false else (z44_ k a0.2.2.1 b1.2.2.1).bind fun r_2=>(if (!r_2)=true then some false else (z44_ k a0.2.2.2.1 b1.2.2.2.1).bind fun r_3=>(if (!r_3)=true then some false else (zg2_ k a0.2.2.2.2.1 b1.2.2.2.2.1).bind fun r_4=>(if (!r_4)=true then some false else (z44_ k a0.2.2.2.2.2.1 b1.2.2.2.2.2.1).bind fun r_5=>(if (!r_5)=true then some false else (z44_ k a0.2.2.2.2.2.2.1 b1.2.2.2.2.2.2.1).bind fun r_6=>(if (!r_6)=true then some false else (zg5_ k a0.2.2.2.2.2.2.2.1 b1.2.2.2.2.2.2.2.1).bind fun r_7=>(if (!r_7)=true then some false else (z44_ k a0.2.2.2.2.2.2.2.2 b1.2.2.2.2.2.2.2.2).bind fun r_8=>(if (!r_8)=true then some false else some true)))))))))
def qnl_ (k:Nat):FE:=⟨(.pr (.st (.pr (.st (.pr (.st (.sl 25 (.sl 2 (.int .i64)))) (.pr (.int .i64) (.pr (.sl 2 (.int .i64)) (.sl 135 (.st (.pr (.int .i64) (.pr (.int .i64) (.pr (.int .i64) (.sl 2 (.int .i64))))))))))) (.pr (.int .i64) (.pr (.sl 2 (.int .i64)) (.pr (.sl 2 (.int .i64)) (.pr (.st (.pr (.int .i64) (.pr (.int .i64) (.pr (.int .i64) (.sl 138 (.st (.pr (.int .i64) (.pr (.int .i64) (.int .i64))))))))) (.pr (.sl 2 (.int .i64)) (.pr (.sl 2 (.int .i64)) (.pr (.st (.pr (.int .i64) (.pr (.int .i64) (.sl 133 (.st (.pr (.int .i64) (.pr (.int .i64) (.int .i64)))))))) (.sl 2 (.int .i64))))))))))) (.st (.pr (.st (.pr (.st (.sl 25 (.sl 2 (.int .i64)))) (.pr (.int .i64) (.pr (.sl 2 (.int .i64)) (.sl 135 (.st (.pr (.int .i64) (.pr (.int .i64) (.pr (.int .i64) (.sl 2 (.int .i64))))))))))) (.pr (.int .i64) (.pr (.sl 2 (.int .i64)) (.pr (.sl 2 (.int .i64)) (.pr (.st (.pr (.int .i64) (.pr (.int .i64) (.pr (.int .i64) (.sl 138 (.st (.pr (.int .i64) (.pr (.int .i64) (.int .i64))))))))) (.pr (.sl 2 (.int .i64)) (.pr (.sl 2 (.int .i64)) (.pr (.st (.pr (.int .i64) (.pr (.int .i64) (.sl 133 (.st (.pr (.int .i64) (.pr (.int .i64) (.int .i64)))))))) (.sl 2 (.int .i64)))))))))))),1,.bool,fun x=>zg6_ k x.1 x.2⟩
theorem qnm_ (k:Nat):FnOK Tryz.prog 9 (qnl_ k):=by
 refine za_ (tab:=[(25,qmx_ k),(26,qmc_ k),(27,qn8_ k),(28,qnj_ k)]) (l:=[]) z7_ z9_ mix (List.forall_mem_cons.2 ⟨qmy_ k,(List.forall_mem_cons.2 ⟨qme_ k,(List.forall_mem_cons.2 ⟨qn9_ k,(List.forall_mem_cons.2 ⟨qnk_ k,(List.forall_mem_nil _)⟩)⟩)⟩)⟩) (List.forall_mem_nil _) ⟨⟨Tryz.f9,(z2_ Tryz.f9),[.tmp 4],(LOn Bool),by kernel_rfl,by kernel_rfl,by kernel_rfl,by kernel_rfl,rfl,by decide,⟨by kernel_rfl,?_,?_⟩,?_⟩⟩
 ·exact ze_ (by kernel_rfl)
 ·exact z8_ (by kernel_rfl)
 ·rintro ⟨a0,b1⟩
  kernel_rfl
def z9x_ (k:Nat):Nat→Nat→Int→Int→zT4→(Int→zT4→Option (((Int×Unit)×(zT4×Unit)×Unit)))→Option (((Int×Unit)×(zT4×Unit)×Unit))
 | 0,_,_,_,_,_=>none
 | n+1,a0n0,k1,i5,q_2,e_0=>(q_2[a0n0]?).bind fun y_3=>(if (decide (i5<(List.length y_3:Int)))=true then (q_2[a0n0]?).bind fun y_4=>(if 0≤i5∧i5.toNat<List.length y_4 then (q_2[a0n0]?).bind fun y_5=>(y_5[i5.toNat]?).bind fun y_6=>(q_2[a0n0]?).bind fun y_7=>(y_7[i5.toNat]?).bind fun y_8=>z9x_ k n a0n0 (z0_ (k1+1)) (z0_ (i5+1)) (q_2.set a0n0 (y_7.set i5.toNat k1)) e_0 else none) else e_0 k1 q_2)
def zg7_ (k:Nat) (a0n0:Nat) (k1:Int) (q_1:List (List Int)):Option (((Int×Unit)×(zT4×Unit)×Unit)):=z9x_ k k a0n0 k1 0 q_1 (fun k_9 q_10=>some ((k_9,()),(q_10,()),()))
def qnn_:Head:=⟨[(0,(.ref 1000000000 [.ix])),(1,(.val (.int .i64))),(5,(.val (.int .i64)))],[(1000000000,25,(.sl 2 (.int .i64)),false)],[]⟩
def qno_:Head:=⟨[(1,(.val (.int .i64)))],[(1000000000,25,(.sl 2 (.int .i64)),false)],[]⟩
def qnp_ (k n:Nat) (x:qnn_.T) (kx:Nat→St→Option (((Int×Unit)×(zT4×Unit)×Unit))):Option (((Int×Unit)×(zT4×Unit)×Unit)):=z9x_ k n x.1.1.1 x.1.2.1 x.1.2.2.1 x.2.1.1 (fun (k1:Int) (q_9:List (List Int))=>kx 0 (qno_.fill ((k1,()),(q_9,()),())))
def qnq_ (k:Nat):Oracles (((Int×Unit)×(zT4×Unit)×Unit)):=⟨fun n=>bif Nat.beq n 2 then some (fun σ kx=>qnn_.get σ fun x=>qnp_ k k x kx) else none,fun _=>none⟩
def qnr_:Head:=⟨[(0,(.ref 1000000000 [.ix])),(1,(.val (.int .i64)))],[(1000000000,25,(.sl 2 (.int .i64)),false)],[]⟩
def qns_:Head:=⟨[(0,(.val (.int .i64)))],[(1000000000,25,(.sl 2 (.int .i64)),false)],[]⟩
def qnt_ (k:Nat):OC:=⟨qnr_,qns_,fun x=>zg7_ k x.1.1.1 x.1.2.1 x.2.1.1,false⟩
theorem qnu_ (k:Nat) (pins:Nat→Value) (pinB:Nat→Nat):zc_ (z3_ ti [] (lk []) pins pinB) (qnq_ k) (rdO (z3_ ti [] (lk []) pins pinB) [.tmp 4] qns_) ((zb_ (z2_ Tryz.f30)).getD 0 .skip) (fun σ kx=>qnn_.get σ fun x=>qnp_ k k x kx):=by
 refine ⟨qnn_,[(0,qno_)],fun n x kx=>qnp_ k n x kx,k,by kernel_rfl,by kernel_rfl,fun x kx=>by kernel_rfl,?_,fun σ kx=>rfl⟩
 rintro n ⟨⟨⟨a0n0,⟨⟩⟩,k1,i5,⟨⟩⟩,⟨q_2,⟨⟩⟩,⟨⟩⟩ kx
 kernel_rfl
theorem qnv_ (k:Nat):z12_ Tryz.prog ti 30 (qnt_ k):=by
 refine z3k_ (tab:=[]) (l:=[]) z7_ z9_ mix (List.forall_mem_nil _) (List.forall_mem_nil _) ⟨by kernel_rfl,by kernel_rfl,by kernel_rfl,Tryz.f30,(z2_ Tryz.f30),[.tmp 4],(qnq_ k),by kernel_rfl,by kernel_rfl,by kernel_rfl,by kernel_rfl,Nat.le_of_ble_eq_true (by kernel_rfl),fun pins pinB=>⟨⟨by kernel_rfl,?_,?_⟩,?_⟩⟩
 ·refine zf_ (n:=1) (by kernel_rfl) fun i hi=>?_
  match i,hi with
  | 0,_=>exact zd_ (by kernel_rfl) (qnu_ k pins pinB)
  | n+1,hi=>omega
 ·exact z8_ (by kernel_rfl)
 ·rintro ⟨⟨⟨a0n0,⟨⟩⟩,k1,⟨⟩⟩,⟨q_1,⟨⟩⟩,⟨⟩⟩
  kernel_rfl
def z9y_ (k:Nat):Nat→Int→Int→zT4→(Int→zT4→Option (((Int×Unit)×(zT4×Unit)×Unit)))→Option (((Int×Unit)×(zT4×Unit)×Unit))
 | 0,_,_,_,_=>none
 | n+1,k1,i5,q_2,e_0=>(if (decide (i5<(List.length q_2:Int)))=true then (if 0≤i5∧i5.toNat<List.length q_2 then (q_2[i5.toNat]?).bind fun y_3=>(zg7_ k i5.toNat k1 q_2).bind fun y_4=>z9y_ k n y_4.1.1 (z0_ (i5+1)) y_4.2.1.1 e_0 else none) else e_0 k1 q_2)
def zg8_ (k:Nat) (k1:Int) (q_1:List (List Int)):Option (((Int×Unit)×(zT4×Unit)×Unit)):=z9y_ k k k1 0 q_1 (fun k_5 q_6=>some ((k_5,()),(q_6,()),()))
def qnw_:Head:=⟨[(0,(.ref 1000000000 [])),(1,(.val (.int .i64))),(5,(.val (.int .i64)))],[(1000000000,25,(.sl 2 (.int .i64)),false)],[]⟩
def qnx_:Head:=⟨[(1,(.val (.int .i64)))],[(1000000000,25,(.sl 2 (.int .i64)),false)],[]⟩
def qny_ (k n:Nat) (x:qnw_.T) (kx:Nat→St→Option (((Int×Unit)×(zT4×Unit)×Unit))):Option (((Int×Unit)×(zT4×Unit)×Unit)):=z9y_ k n x.1.2.1 x.1.2.2.1 x.2.1.1 (fun (k1:Int) (q_6:List (List Int))=>kx 0 (qnx_.fill ((k1,()),(q_6,()),())))
def qnz_ (k:Nat):Oracles (((Int×Unit)×(zT4×Unit)×Unit)):=⟨fun n=>bif Nat.beq n 2 then some (fun σ kx=>qnw_.get σ fun x=>qny_ k k x kx) else none,fun _=>none⟩
def qo0_:Head:=⟨[(0,(.ref 1000000000 [])),(1,(.val (.int .i64)))],[(1000000000,25,(.sl 2 (.int .i64)),false)],[]⟩
def qo1_:Head:=⟨[(0,(.val (.int .i64)))],[(1000000000,25,(.sl 2 (.int .i64)),false)],[]⟩
def qo2_ (k:Nat):OC:=⟨qo0_,qo1_,fun x=>zg8_ k x.1.2.1 x.2.1.1,false⟩
theorem qo3_ (k:Nat) (pins:Nat→Value) (pinB:Nat→Nat):zc_ (z3_ ti [] (lk [(17,30,qnt_ k)]) pins pinB) (qnz_ k) (rdO (z3_ ti [] (lk [(17,30,qnt_ k)]) pins pinB) [.tmp 4] qo1_) ((zb_ (z2_ Tryz.f104)).getD 0 .skip) (fun σ kx=>qnw_.get σ fun x=>qny_ k k x kx):=by
 refine ⟨qnw_,[(0,qnx_)],fun n x kx=>qny_ k n x kx,k,by kernel_rfl,by kernel_rfl,fun x kx=>by kernel_rfl,?_,fun σ kx=>rfl⟩
 rintro n ⟨⟨⟨⟩,k1,i5,⟨⟩⟩,⟨q_2,⟨⟩⟩,⟨⟩⟩ kx
 kernel_rfl
theorem qo4_ (k:Nat):z12_ Tryz.prog ti 104 (qo2_ k):=by
 refine z3k_ (tab:=[]) (l:=[(17,30,qnt_ k)]) z7_ z9_ mix (List.forall_mem_nil _) (List.forall_mem_cons.2 ⟨qnv_ k,(List.forall_mem_nil _)⟩) ⟨by kernel_rfl,by kernel_rfl,by kernel_rfl,Tryz.f104,(z2_ Tryz.f104),[.tmp 4],(qnz_ k),by kernel_rfl,by kernel_rfl,by kernel_rfl,by kernel_rfl,Nat.le_of_ble_eq_true (by kernel_rfl),fun pins pinB=>⟨⟨by kernel_rfl,?_,?_⟩,?_⟩⟩
 ·refine zf_ (n:=1) (by kernel_rfl) fun i hi=>?_
  match i,hi with
  | 0,_=>exact zd_ (by kernel_rfl) (qo3_ k pins pinB)
  | n+1,hi=>omega
 ·exact z8_ (by kernel_rfl)
 ·rintro ⟨⟨⟨⟩,k1,⟨⟩⟩,⟨q_1,⟨⟩⟩,⟨⟩⟩
  kernel_rfl
def zk0_ (k:Nat) (k1:Int) (q_1:List (List Int)):Option (((Int×Unit)×(zT4×Unit)×Unit)):=(zg8_ k k1 q_1).bind fun y_2=>some ((y_2.1.1,()),(y_2.2.1.1,()),())
def qo5_:Head:=⟨[(0,(.st (.ref 1000000000 []))),(1,(.val (.int .i64)))],[(1000000000,25,(.sl 2 (.int .i64)),false)],[]⟩
def qo6_:Head:=⟨[(0,(.val (.int .i64)))],[(1000000000,25,(.sl 2 (.int .i64)),false)],[]⟩
def qo7_ (k:Nat):OC:=⟨qo5_,qo6_,fun x=>zk0_ k x.1.2.1 x.2.1.1,false⟩
theorem qo8_ (k:Nat):z12_ Tryz.prog ti 54 (qo7_ k):=by
 refine z3k_ (tab:=[]) (l:=[(8,104,qo2_ k)]) z7_ z9_ mix (List.forall_mem_nil _) (List.forall_mem_cons.2 ⟨qo4_ k,(List.forall_mem_nil _)⟩) ⟨by kernel_rfl,by kernel_rfl,by kernel_rfl,Tryz.f54,(z2_ Tryz.f54),[.tmp 4],(LOn (((Int×Unit)×(zT4×Unit)×Unit))),by kernel_rfl,by kernel_rfl,by kernel_rfl,by kernel_rfl,Nat.le_of_ble_eq_true (by kernel_rfl),fun pins pinB=>⟨⟨by kernel_rfl,?_,?_⟩,?_⟩⟩
 ·exact ze_ (by kernel_rfl)
 ·exact z8_ (by kernel_rfl)
 ·rintro ⟨⟨⟨⟩,k1,⟨⟩⟩,⟨q_1,⟨⟩⟩,⟨⟩⟩
  kernel_rfl
def z9z_ (k:Nat):Nat→Int→Int→(List Int)→(Int→(List Int)→Option (((Int×Unit)×((List Int)×Unit)×Unit)))→Option (((Int×Unit)×((List Int)×Unit)×Unit))
 | 0,_,_,_,_=>none
 | n+1,k1,i5,q_2,e_0=>(if (decide (i5<(List.length q_2:Int)))=true then (if 0≤i5∧i5.toNat<List.length q_2 then (q_2[i5.toNat]?).bind fun y_3=>(q_2[i5.toNat]?).bind fun y_4=>z9z_ k n (z0_ (k1+1)) (z0_ (i5+1)) (q_2.set i5.toNat k1) e_0 else none) else e_0 k1 q_2)
def z5b_ (k:Nat) (k1:Int) (q_1:List Int):Option (((Int×Unit)×((List Int)×Unit)×Unit)):=z9z_ k k k1 0 q_1 (fun k_5 q_6=>some ((k_5,()),(q_6,()),()))
def qo9_:Head:=⟨[(0,(.ref 1000000000 [])),(1,(.val (.int .i64))),(5,(.val (.int .i64)))],[(1000000000,2,(.int .i64),false)],[]⟩
def qoa_:Head:=⟨[(1,(.val (.int .i64)))],[(1000000000,2,(.int .i64),false)],[]⟩
def qob_ (k n:Nat) (x:qo9_.T) (kx:Nat→St→Option (((Int×Unit)×((List Int)×Unit)×Unit))):Option (((Int×Unit)×((List Int)×Unit)×Unit)):=z9z_ k n x.1.2.1 x.1.2.2.1 x.2.1.1 (fun (k1:Int) (q_5:List Int)=>kx 0 (qoa_.fill ((k1,()),(q_5,()),())))
def qoc_ (k:Nat):Oracles (((Int×Unit)×((List Int)×Unit)×Unit)):=⟨fun n=>bif Nat.beq n 2 then some (fun σ kx=>qo9_.get σ fun x=>qob_ k k x kx) else none,fun _=>none⟩
def qod_:Head:=⟨[(0,(.ref 1000000000 [])),(1,(.val (.int .i64)))],[(1000000000,2,(.int .i64),false)],[]⟩
def qoe_:Head:=⟨[(0,(.val (.int .i64)))],[(1000000000,2,(.int .i64),false)],[]⟩
def qof_ (k:Nat):OC:=⟨qod_,qoe_,fun x=>z5b_ k x.1.2.1 x.2.1.1,false⟩
theorem qog_ (k:Nat) (pins:Nat→Value) (pinB:Nat→Nat):zc_ (z3_ ti [] (lk []) pins pinB) (qoc_ k) (rdO (z3_ ti [] (lk []) pins pinB) [.tmp 4] qoe_) ((zb_ (z2_ Tryz.f30)).getD 0 .skip) (fun σ kx=>qo9_.get σ fun x=>qob_ k k x kx):=by
 refine ⟨qo9_,[(0,qoa_)],fun n x kx=>qob_ k n x kx,k,by kernel_rfl,by kernel_rfl,fun x kx=>by kernel_rfl,?_,fun σ kx=>rfl⟩
 rintro n ⟨⟨⟨⟩,k1,i5,⟨⟩⟩,⟨q_2,⟨⟩⟩,⟨⟩⟩ kx
 kernel_rfl
theorem qoh_ (k:Nat):z12_ Tryz.prog ti 30 (qof_ k):=by
 refine z3k_ (tab:=[]) (l:=[]) z7_ z9_ mix (List.forall_mem_nil _) (List.forall_mem_nil _) ⟨by kernel_rfl,by kernel_rfl,by kernel_rfl,Tryz.f30,(z2_ Tryz.f30),[.tmp 4],(qoc_ k),by kernel_rfl,by kernel_rfl,by kernel_rfl,by kernel_rfl,Nat.le_of_ble_eq_true (by kernel_rfl),fun pins pinB=>⟨⟨by kernel_rfl,?_,?_⟩,?_⟩⟩
 ·refine zf_ (n:=1) (by kernel_rfl) fun i hi=>?_
  match i,hi with
  | 0,_=>exact zd_ (by kernel_rfl) (qog_ k pins pinB)
  | n+1,hi=>omega
 ·exact z8_ (by kernel_rfl)
 ·rintro ⟨⟨⟨⟩,k1,⟨⟩⟩,⟨q_1,⟨⟩⟩,⟨⟩⟩
  kernel_rfl
def za0_ (k:Nat):Nat→Nat→Int→Int→zT3→(Int→zT3→Option (((Int×Unit)×(zT3×Unit)×Unit)))→Option (((Int×Unit)×(zT3×Unit)×Unit))
 | 0,_,_,_,_,_=>none
 | n+1,a0n0,k1,i5,q_2,e_0=>(q_2[a0n0]?).bind fun y_3=>(if (decide (i5<(List.length y_3.2.2.2:Int)))=true then (q_2[a0n0]?).bind fun y_4=>(if 0≤i5∧i5.toNat<List.length y_4.2.2.2 then (q_2[a0n0]?).bind fun y_5=>(y_5.2.2.2[i5.toNat]?).bind fun y_6=>(q_2[a0n0]?).bind fun y_7=>(y_7.2.2.2[i5.toNat]?).bind fun y_8=>za0_ k n a0n0 (z0_ (k1+1)) (z0_ (i5+1)) (q_2.set a0n0 (y_7.1,(y_7.2.1,(y_7.2.2.1,(y_7.2.2.2.set i5.toNat k1))))) e_0 else none) else e_0 k1 q_2)
def zg9_ (k:Nat) (a0n0:Nat) (k1:Int) (q_1:List (Int×Int×Int×List Int)):Option (((Int×Unit)×(zT3×Unit)×Unit)):=za0_ k k a0n0 k1 0 q_1 (fun k_9 q_10=>some ((k_9,()),(q_10,()),()))
def qoi_:Head:=⟨[(0,(.ref 1000000000 [.ix,.f true,.f true,.f true])),(1,(.val (.int .i64))),(5,(.val (.int .i64)))],[(1000000000,135,(.st (.pr (.int .i64) (.pr (.int .i64) (.pr (.int .i64) (.sl 2 (.int .i64)))))),false)],[]⟩
def qoj_:Head:=⟨[(1,(.val (.int .i64)))],[(1000000000,135,(.st (.pr (.int .i64) (.pr (.int .i64) (.pr (.int .i64) (.sl 2 (.int .i64)))))),false)],[]⟩
def qok_ (k n:Nat) (x:qoi_.T) (kx:Nat→St→Option (((Int×Unit)×(zT3×Unit)×Unit))):Option (((Int×Unit)×(zT3×Unit)×Unit)):=za0_ k n x.1.1.1 x.1.2.1 x.1.2.2.1 x.2.1.1 (fun (k1:Int) (q_9:List (Int×Int×Int×List Int))=>kx 0 (qoj_.fill ((k1,()),(q_9,()),())))
def qol_ (k:Nat):Oracles (((Int×Unit)×(zT3×Unit)×Unit)):=⟨fun n=>bif Nat.beq n 2 then some (fun σ kx=>qoi_.get σ fun x=>qok_ k k x kx) else none,fun _=>none⟩
def qom_:Head:=⟨[(0,(.ref 1000000000 [.ix,.f true,.f true,.f true])),(1,(.val (.int .i64)))],[(1000000000,135,(.st (.pr (.int .i64) (.pr (.int .i64) (.pr (.int .i64) (.sl 2 (.int .i64)))))),false)],[]⟩
def qon_:Head:=⟨[(0,(.val (.int .i64)))],[(1000000000,135,(.st (.pr (.int .i64) (.pr (.int .i64) (.pr (.int .i64) (.sl 2 (.int .i64)))))),false)],[]⟩
def qoo_ (k:Nat):OC:=⟨qom_,qon_,fun x=>zg9_ k x.1.1.1 x.1.2.1 x.2.1.1,false⟩
theorem qop_ (k:Nat) (pins:Nat→Value) (pinB:Nat→Nat):zc_ (z3_ ti [] (lk []) pins pinB) (qol_ k) (rdO (z3_ ti [] (lk []) pins pinB) [.tmp 4] qon_) ((zb_ (z2_ Tryz.f30)).getD 0 .skip) (fun σ kx=>qoi_.get σ fun x=>qok_ k k x kx):=by
 refine ⟨qoi_,[(0,qoj_)],fun n x kx=>qok_ k n x kx,k,by kernel_rfl,by kernel_rfl,fun x kx=>by kernel_rfl,?_,fun σ kx=>rfl⟩
 rintro n ⟨⟨⟨a0n0,⟨⟩⟩,k1,i5,⟨⟩⟩,⟨q_2,⟨⟩⟩,⟨⟩⟩ kx
 kernel_rfl
theorem qoq_ (k:Nat):z12_ Tryz.prog ti 30 (qoo_ k):=by
 refine z3k_ (tab:=[]) (l:=[]) z7_ z9_ mix (List.forall_mem_nil _) (List.forall_mem_nil _) ⟨by kernel_rfl,by kernel_rfl,by kernel_rfl,Tryz.f30,(z2_ Tryz.f30),[.tmp 4],(qol_ k),by kernel_rfl,by kernel_rfl,by kernel_rfl,by kernel_rfl,Nat.le_of_ble_eq_true (by kernel_rfl),fun pins pinB=>⟨⟨by kernel_rfl,?_,?_⟩,?_⟩⟩
 ·refine zf_ (n:=1) (by kernel_rfl) fun i hi=>?_
  match i,hi with
  | 0,_=>exact zd_ (by kernel_rfl) (qop_ k pins pinB)
  | n+1,hi=>omega
 ·exact z8_ (by kernel_rfl)
 ·rintro ⟨⟨⟨a0n0,⟨⟩⟩,k1,⟨⟩⟩,⟨q_1,⟨⟩⟩,⟨⟩⟩
  kernel_rfl
end
end Go.Proofs.YtioaaljaohhjiaaGreatDoor.Ev
