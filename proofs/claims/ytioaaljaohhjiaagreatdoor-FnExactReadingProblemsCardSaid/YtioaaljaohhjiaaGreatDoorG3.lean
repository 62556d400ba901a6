/- Functions of the program, as plain ones. No conditions. -/
import Derived.Test.YtioaaljaohhjiaaGreatDoorG2
import Derived.KernelRfl
set_option linter.unusedVariables false
set_option maxRecDepth 100000
namespace Go.Proofs.YtioaaljaohhjiaaGreatDoor.Ev
open Go.RowKit
noncomputable section
def zgl_ (k:Nat) (c0:List (List Int)):Option Int:=(zae_ k c0 (List.length c0:Int) 0).bind fun r_1=>some r_1
def q4u_ (k:Nat):FE:=⟨(.ptr (.st (.sl 25 (.sl 2 (.int .i64))))),1,(.int .i64),fun x=>zgl_ k x⟩
theorem q4v_ (k:Nat):FnOK Tryz.prog 108 (q4u_ k):=by
 refine za_ (tab:=[(110,q4r_ k)]) (l:=[]) z7_ z9_ mix (List.forall_mem_cons.2 ⟨q4t_ k,(List.forall_mem_nil _)⟩) (List.forall_mem_nil _) ⟨⟨Tryz.f108,(z2_ Tryz.f108),[.tmp 2],(LOn Int),by kernel_rfl,by kernel_rfl,by kernel_rfl,by kernel_rfl,rfl,by decide,⟨by kernel_rfl,?_,?_⟩,?_⟩⟩
 ·exact ze_ (by kernel_rfl)
 ·exact z8_ (by kernel_rfl)
 ·rintro c0
  kernel_rfl
def z7u_ (k:Nat):Nat→zT4→(List Int)→Int→(List Int)→((List Int)→Option (List Int))→Option (List Int)
 | 0,_,_,_,_,_=>none
 | n+1,c0,s5,i7,q_2,e_0=>(if (decide (i7<(List.length s5:Int)))=true then (if (decide (1<(List.length s5:Int)))=true then (z7q_ s5 i7).bind fun r_3=>(zce_ k c0 r_3).bind fun r_4=>(if (q_2.length+[r_4].length)*8≤LIM then z7u_ k n c0 s5 (z0_ (i7+1)) (q_2++[r_4]) e_0 else none) else e_0 q_2) else e_0 q_2)
def zaf_ (k:Nat) (c0:List (List Int)) (k1:Int):Option (List Int):=(if 0≤k1 then (c0[k1.toNat]?).bind fun y_1=>z7u_ k k c0 y_1 0 [] (fun q_5=>some q_5) else none)
def q4w_:Head:=⟨[(0,(.val (.ptr (.st (.sl 25 (.sl 2 (.int .i64))))))),(5,(.val (.sl 2 (.int .i64)))),(6,(.ref 64000000 [])),(7,(.val (.int .i64)))],[(64000000,2,(.int .i64),false)],[]⟩
def q4x_:Head:=⟨[(6,(.ref 64000000 []))],[(64000000,2,(.int .i64),false)],[]⟩
def q4y_ (k n:Nat) (x:q4w_.T) (kx:Nat→St→Option (List Int)):Option (List Int):=z7u_ k n x.1.1 x.1.2.1 x.1.2.2.2.1 x.2.1.1 (fun (q_5:List Int)=>kx 0 (q4x_.fill (((),()),(q_5,()),())))
def q4z_ (k:Nat):Oracles (List Int):=⟨fun n=>bif Nat.beq n 4 then some (fun σ kx=>q4w_.get σ fun x=>q4y_ k k x kx) else none,fun _=>none⟩
def q50_ (k:Nat):FE:=⟨(.pr (.ptr (.st (.sl 25 (.sl 2 (.int .i64))))) (.int .i64)),1,(.sl 2 (.int .i64)),fun x=>zaf_ k x.1 x.2⟩
theorem q51_ (k:Nat):zc_ (z3_ ti [(69,q2v_),(152,q38_ k)] (lk []) z4_ z5_) (q4z_ k) (rdC (z3_ ti [(69,q2v_),(152,q38_ k)] (lk []) z4_ z5_) [.tmp 4] (.sl 2 (.int .i64))) ((zb_ (z2_ Tryz.f154)).getD 0 .skip) (fun σ kx=>q4w_.get σ fun x=>q4y_ k k x kx):=by
 refine ⟨q4w_,[(0,q4x_)],fun n x kx=>q4y_ k n x kx,k,by kernel_rfl,by kernel_rfl,fun x kx=>by kernel_rfl,?_,fun σ kx=>rfl⟩
 rintro n ⟨⟨c0,s5,⟨⟩,i7,⟨⟩⟩,⟨q_2,⟨⟩⟩,⟨⟩⟩ kx
 kernel_rfl
theorem q52_ (k:Nat):FnOK Tryz.prog 154 (q50_ k):=by
 refine za_ (tab:=[(69,q2v_),(152,q38_ k)]) (l:=[]) z7_ z9_ mix (List.forall_mem_cons.2 ⟨q2w_,(List.forall_mem_cons.2 ⟨q3a_ k,(List.forall_mem_nil _)⟩)⟩) (List.forall_mem_nil _) ⟨⟨Tryz.f154,(z2_ Tryz.f154),[.tmp 4],(q4z_ k),by kernel_rfl,by kernel_rfl,by kernel_rfl,by kernel_rfl,rfl,by decide,⟨by kernel_rfl,?_,?_⟩,?_⟩⟩
 ·refine zf_ (n:=1) (by kernel_rfl) fun i hi=>?_
  match i,hi with
  | 0,_=>exact zd_ (by kernel_rfl) (q51_ k)
  | n+1,hi=>omega
 ·exact z8_ (by kernel_rfl)
 ·rintro ⟨c0,k1⟩
  kernel_rfl
def zag_ (k:Nat) (m0:Int×Int×Int×List Int):Option Bool:=(z7r_ k m0.1).bind fun r_1=>(if r_1=true then (z1q_ m0.2.1 0 32).bind fun r_2=>(if r_2=true then (z1q_ m0.2.2.1 0 32).bind fun r_3=>(if r_3=true then (z46_ k m0.2.2.2 (z0_ (m0.2.1*m0.2.2.1)) m0.1).bind fun r_4=>some r_4 else some false) else some false) else some false)
def q53_ (k:Nat):FE:=⟨(.ptr (.st (.pr (.int .i64) (.pr (.int .i64) (.pr (.int .i64) (.sl 2 (.int .i64))))))),1,.bool,fun x=>zag_ k x⟩
theorem q54_ (k:Nat):FnOK Tryz.prog 155 (q53_ k):=by
 refine za_ (tab:=[(106,q3t_ k),(111,q2b_),(62,q3z_ k)]) (l:=[]) z7_ z9_ mix (List.forall_mem_cons.2 ⟨q3u_ k,(List.forall_mem_cons.2 ⟨q2c_,(List.forall_mem_cons.2 ⟨q41_ k,(List.forall_mem_nil _)⟩)⟩)⟩) (List.forall_mem_nil _) ⟨⟨Tryz.f155,(z2_ Tryz.f155),[.tmp 2],(LOn Bool),by kernel_rfl,by kernel_rfl,by kernel_rfl,by kernel_rfl,rfl,by decide,⟨by kernel_rfl,?_,?_⟩,?_⟩⟩
 ·exact ze_ (by kernel_rfl)
 ·exact z8_ (by kernel_rfl)
 ·rintro m0
  kernel_rfl
def zk5_ (k:Nat) (s0:List (List Int)×Int×List Int×List (Int×Int×Int×List Int)) (simplex1:Int) (i2:Int) (m3:Int×Int×Int×List Int):Option Bool:=(zaf_ k s0.1 simplex1).bind fun r_1=>(if 0≤i2∧i2.toNat<List.length r_1 then (r_1[i2.toNat]?).bind fun y_2=>(zag_ k m3).bind fun r_3=>(if r_3=true then (if (decide (m3.1=s0.2.1))=true then (if 0≤simplex1 then (s0.2.2.1[simplex1.toNat]?).bind fun y_4=>(if (decide (m3.2.1=y_4))=true then (if 0≤y_2 then (s0.2.2.1[y_2.toNat]?).bind fun y_5=>some (decide (m3.2.2.1=y_5)) else none) else some false) else none) else some false) else some false) else none)
def q55_ (k:Nat):FE:=⟨(.pr (.ptr (.st (.pr (.st (.sl 25 (.sl 2 (.int .i64)))) (.pr (.int .i64) (.pr (.sl 2 (.int .i64)) (.sl 135 (.st (.pr (.int .i64) (.pr (.int .i64) (.pr (.int .i64) (.sl 2 (.int .i64)))))))))))) (.pr (.int .i64) (.pr (.int .i64) (.ptr (.st (.pr (.int .i64) (.pr (.int .i64) (.pr (.int .i64) (.sl 2 (.int .i64)))))))))),1,.bool,fun x=>zk5_ k x.1 x.2.1 x.2.2.1 x.2.2.2⟩
theorem q56_ (k:Nat):FnOK Tryz.prog 109 (q55_ k):=by
 refine za_ (tab:=[(154,q50_ k),(155,q53_ k)]) (l:=[]) z7_ z9_ mix (List.forall_mem_cons.2 ⟨q52_ k,(List.forall_mem_cons.2 ⟨q54_ k,(List.forall_mem_nil _)⟩)⟩) (List.forall_mem_nil _) ⟨⟨Tryz.f109,(z2_ Tryz.f109),[.tmp 8],(LOn Bool),by kernel_rfl,by kernel_rfl,by kernel_rfl,by kernel_rfl,rfl,by decide,⟨by kernel_rfl,?_,?_⟩,?_⟩⟩
 ·exact ze_ (by kernel_rfl)
 ·exact z8_ (by kernel_rfl)
 ·rintro ⟨s0,simplex1,i2,m3⟩
  kernel_rfl
def zah_ (k:Nat):Nat→zT0→Int→Int→(zT0→Int→Option Bool)→Option Bool
 | 0,_,_,_,_=>none
 | n+1,s0,k3,i4,e_2=>(if 0≤k3 then (s0.1[k3.toNat]?).bind fun y_5=>(if (decide (i4<(List.length y_5:Int)))=true then (if 0≤k3 then (s0.1[k3.toNat]?).bind fun y_6=>(if (decide (1<(List.length y_6:Int)))=true then (zae_ k s0.1 k3 i4).bind fun r_7=>(if 0≤r_7 then (s0.2.2.2[r_7.toNat]?).bind fun y_8=>(zk5_ k s0 k3 i4 y_8).bind fun r_9=>(if (!r_9)=true then some false else zah_ k n s0 k3 (z0_ (i4+1)) e_2) else none) else e_2 s0 k3) else none) else e_2 s0 k3) else none)
def z6j_ (k:Nat):Nat→zT0→Int→(Option Bool)→Option Bool
 | 0,_,_,_=>none
 | n+1,s0,k3,e_0=>(if (decide (k3<(List.length s0.1:Int)))=true then zah_ k k s0 k3 0 (fun s_5 k_6=>z6j_ k n s_5 (z0_ (k_6+1)) e_0) else e_0)
def zgm_ (k:Nat) (s0:List (List Int)×Int×List Int×List (Int×Int×Int×List Int)):Option Bool:=(zgj_ k s0.1).bind fun r_1=>(if (!r_1)=true then some false else (z7r_ k s0.2.1).bind fun r_2=>(if (!r_2)=true then some false else (zgk_ k s0.1 s0.2.2.1).bind fun r_3=>(if (!r_3)=true then some false else (zgl_ k s0.1).bind fun r_4=>(if (!(decide ((List.length s0.2.2.2:Int)=r_4)))=true then some false else z6j_ k k s0 0 (some true)))))
def q57_:Head:=⟨[(0,(.val (.ptr (.st (.pr (.st (.sl 25 (.sl 2 (.int .i64)))) (.pr (.int .i64) (.pr (.sl 2 (.int .i64)) (.sl 135 (.st (.pr (.int .i64) (.pr (.int .i64) (.pr (.int .i64) (.sl 2 (.int .i64)))))))))))))),(3,(.val (.int .i64))),(4,(.val (.int .i64)))],[],[]⟩
def q58_:Head:=⟨[(0,(.val (.ptr (.st (.pr (.st (.sl 25 (.sl 2 (.int .i64)))) (.pr (.int .i64) (.pr (.sl 2 (.int .i64)) (.sl 135 (.st (.pr (.int .i64) (.pr (.int .i64) (.pr (.int .i64) (.sl 2 (.int .i64)))))))))))))),(3,(.val (.int .i64)))],[],[]⟩
def q59_ (k n:Nat) (x:q57_.T) (kx:Nat→St→Option Bool):Option Bool:=zah_ k n x.1.1 x.1.2.1 x.1.2.2.1 (fun (s0:List (List Int)×Int×List Int×List (Int×Int×Int×List Int)) (k3:Int)=>kx 2 (q58_.fill ((s0,k3,()),(),())))
def q5a_:Head:=⟨[(0,(.val (.ptr (.st (.pr (.st (.sl 25 (.sl 2 (.int .i64)))) (.pr (.int .i64) (.pr (.sl 2 (.int .i64)) (.sl 135 (.st (.pr (.int .i64) (.pr (.int .i64) (.pr (.int .i64) (.sl 2 (.int .i64)))))))))))))),(3,(.val (.int .i64)))],[],[]⟩
def q5b_:Head:=⟨[],[],[]⟩
def q5c_ (k n:Nat) (x:q5a_.T) (kx:Nat→St→Option Bool):Option Bool:=z6j_ k n x.1.1 x.1.2.1 (kx 0 (q5b_.fill ((),(),())))
def q5d_ (k:Nat):Oracles Bool:=⟨fun n=>bif Nat.beq n 7 then some (fun σ kx=>q57_.get σ fun x=>q59_ k k x kx) else bif Nat.beq n 4 then some (fun σ kx=>q5a_.get σ fun x=>q5c_ k k x kx) else none,fun _=>none⟩
def q5e_ (k:Nat):FE:=⟨(.ptr (.st (.pr (.st (.sl 25 (.sl 2 (.int .i64)))) (.pr (.int .i64) (.pr (.sl 2 (.int .i64)) (.sl 135 (.st (.pr (.int .i64) (.pr (.int .i64) (.pr (.int .i64) (.sl 2 (.int .i64)))))))))))),1,.bool,fun x=>zgm_ k x⟩
theorem q5f_ (k:Nat):zc_ (z3_ ti [(105,q3i_ k),(106,q3t_ k),(107,q4k_ k),(108,q4u_ k),(110,q4r_ k),(109,q55_ k)] (lk []) z4_ z5_) (q5d_ k) (rdC (z3_ ti [(105,q3i_ k),(106,q3t_ k),(107,q4k_ k),(108,q4u_ k),(110,q4r_ k),(109,q55_ k)] (lk []) z4_ z5_) [.tmp 2] .bool) ((zb_ (z2_ Tryz.f60)).getD 1 .skip) (fun σ kx=>q57_.get σ fun x=>q59_ k k x kx):=by
 refine ⟨q57_,[(2,q58_)],fun n x kx=>q59_ k n x kx,k,by kernel_rfl,by kernel_rfl,fun x kx=>by kernel_rfl,?_,fun σ kx=>rfl⟩
 rintro n ⟨⟨s0,k3,i4,⟨⟩⟩,⟨⟩,⟨⟩⟩ kx
 kernel_rfl
theorem q5g_ (k:Nat):zc_ (z3_ ti [(105,q3i_ k),(106,q3t_ k),(107,q4k_ k),(108,q4u_ k),(110,q4r_ k),(109,q55_ k)] (lk []) z4_ z5_) (q5d_ k) (rdC (z3_ ti [(105,q3i_ k),(106,q3t_ k),(107,q4k_ k),(108,q4u_ k),(110,q4r_ k),(109,q55_ k)] (lk []) z4_ z5_) [.tmp 2] .bool) ((zb_ (z2_ Tryz.f60)).getD 0 .skip) (fun σ kx=>q5a_.get σ fun x=>q5c_ k k x kx):=by
 refine ⟨q5a_,[(0,q5b_)],fun n x kx=>q5c_ k n x kx,k,by kernel_rfl,by kernel_rfl,fun x kx=>by kernel_rfl,?_,fun σ kx=>rfl⟩
 rintro n ⟨⟨s0,k3,⟨⟩⟩,⟨⟩,⟨⟩⟩ kx
 kernel_rfl
theorem q5h_ (k:Nat):FnOK Tryz.prog 60 (q5e_ k):=by
 refine za_ (tab:=[(105,q3i_ k),(106,q3t_ k),(107,q4k_ k),(108,q4u_ k),(110,q4r_ k),(109,q55_ k)]) (l:=[]) z7_ z9_ mix (List.forall_mem_cons.2 ⟨q3l_ k,(List.forall_mem_cons.2 ⟨q3u_ k,(List.forall_mem_cons.2 ⟨q4m_ k,(List.forall_mem_cons.2 ⟨q4v_ k,(List.forall_mem_cons.2 ⟨q4t_ k,(List.forall_mem_cons.2 ⟨q56_ k,(List.forall_mem_nil _)⟩)⟩)⟩)⟩)⟩)⟩) (List.forall_mem_nil _) ⟨⟨Tryz.f60,(z2_ Tryz.f60),[.tmp 2],(q5d_ k),by kernel_rfl,by kernel_rfl,by kernel_rfl,by kernel_rfl,rfl,by decide,⟨by kernel_rfl,?_,?_⟩,?_⟩⟩
 ·refine zf_ (n:=2) (by kernel_rfl) fun i hi=>?_
  match i,hi with
  | 0,_=>exact zd_ (by kernel_rfl) (q5g_ k)
  | 1,_=>exact zd_ (by kernel_rfl) (q5f_ k)
  | n+2,hi=>omega
 ·exact z8_ (by kernel_rfl)
 ·rintro s0
  kernel_rfl
def zk6_ (n0:Int):Option Bool:=(z1q_ n0 0 3).bind fun r_1=>some r_1
def q5i_:FE:=⟨(.int .i64),1,.bool,fun x=>zk6_ x⟩
theorem q5j_:FnOK Tryz.prog 61 (q5i_):=by
 refine za_ (tab:=[(111,q2b_)]) (l:=[]) z7_ z9_ mix (List.forall_mem_cons.2 ⟨q2c_,(List.forall_mem_nil _)⟩) (List.forall_mem_nil _) ⟨⟨Tryz.f61,(z2_ Tryz.f61),[.tmp 2],(LOn Bool),by kernel_rfl,by kernel_rfl,by kernel_rfl,by kernel_rfl,rfl,by decide,⟨by kernel_rfl,?_,?_⟩,?_⟩⟩
 ·exact ze_ (by kernel_rfl)
 ·exact z8_ (by kernel_rfl)
 ·rintro n0
  kernel_rfl
def z5f_ (k:Nat):Nat→(Int×Int×Int×List (Int×Int×Int))→Int→((Int×Int×Int×List (Int×Int×Int))→Option Bool)→Option Bool
 | 0,_,_,_=>none
 | n+1,n0,i3,e_0=>(if (decide (i3<(List.length n0.2.2.2:Int)))=true then (if 0≤i3 then (n0.2.2.2[i3.toNat]?).bind fun y_4=>(z1q_ y_4.1 0 (z0_ (n0.1-1))).bind fun r_5=>(if (!r_5)=true then some false else (z1q_ y_4.2.1 0 (z0_ (n0.1-1))).bind fun r_6=>(if (!r_6)=true then some false else (if (decide (y_4.1=y_4.2.1))=true then some false else (z1q_ y_4.2.2 0 1000000).bind fun r_7=>(if (!r_7)=true then some false else (if (decide (0<i3))=true then (if 0≤(z0_ (i3-1)) then (n0.2.2.2[(z0_ (i3-1)).toNat]?).bind fun y_8=>(if (decide (y_4.1<y_8.1))=true then some false else (if 0≤(z0_ (i3-1)) then (n0.2.2.2[(z0_ (i3-1)).toNat]?).bind fun y_9=>(if (decide (y_9.1=y_4.1))=true then (if 0≤(z0_ (i3-1)) then (n0.2.2.2[(z0_ (i3-1)).toNat]?).bind fun y_10=>(if (decide (y_4.2.1≤y_10.2.1))=true then some false else z5f_ k n n0 (z0_ (i3+1)) e_0) else none) else z5f_ k n n0 (z0_ (i3+1)) e_0) else none)) else none) else z5f_ k n n0 (z0_ (i3+1)) e_0))))) else none) else e_0 n0)
def zgn_ (k:Nat) (n0:Int×Int×Int×List (Int×Int×Int)):Option Bool:=(z1q_ n0.1 2 12).bind fun r_1=>(if (!r_1)=true then some false else (z1q_ n0.2.1 0 (z0_ (n0.1-1))).bind fun r_2=>(if (!r_2)=true then some false else (z1q_ n0.2.2.1 0 (z0_ (n0.1-1))).bind fun r_3=>(if (!r_3)=true then some false else (if (decide (n0.2.1=n0.2.2.1))=true then some false else z5f_ k k n0 0 (fun n_11=>some (decide ((List.length n_11.2.2.2:Int)≤24)))))))
def q5k_:Head:=⟨[(0,(.val (.ptr (.st (.pr (.int .i64) (.pr (.int .i64) (.pr (.int .i64) (.sl 138 (.st (.pr (.int .i64) (.pr (.int .i64) (.int .i64)))))))))))),(3,(.val (.int .i64)))],[],[]⟩
def q5l_:Head:=⟨[(0,(.val (.ptr (.st (.pr (.int .i64) (.pr (.int .i64) (.pr (.int .i64) (.sl 138 (.st (.pr (.int .i64) (.pr (.int .i64) (.int .i64))))))))))))],[],[]⟩
def q5m_ (k n:Nat) (x:q5k_.T) (kx:Nat→St→Option Bool):Option Bool:=z5f_ k n x.1.1 x.1.2.1 (fun (n0:Int×Int×Int×List (Int×Int×Int))=>kx 0 (q5l_.fill ((n0,()),(),())))
def q5n_ (k:Nat):Oracles Bool:=⟨fun n=>bif Nat.beq n 4 then some (fun σ kx=>q5k_.get σ fun x=>q5m_ k k x kx) else none,fun _=>none⟩
def q5o_ (k:Nat):FE:=⟨(.ptr (.st (.pr (.int .i64) (.pr (.int .i64) (.pr (.int .i64) (.sl 138 (.st (.pr (.int .i64) (.pr (.int .i64) (.int .i64)))))))))),1,.bool,fun x=>zgn_ k x⟩
theorem q5p_ (k:Nat):zc_ (z3_ ti [(111,q2b_)] (lk []) z4_ z5_) (q5n_ k) (rdC (z3_ ti [(111,q2b_)] (lk []) z4_ z5_) [.tmp 2] .bool) ((zb_ (z2_ Tryz.f64)).getD 0 .skip) (fun σ kx=>q5k_.get σ fun x=>q5m_ k k x kx):=by
 refine ⟨q5k_,[(0,q5l_)],fun n x kx=>q5m_ k n x kx,k,by kernel_rfl,by kernel_rfl,fun x kx=>by kernel_rfl,?_,fun σ kx=>rfl⟩
 rintro n ⟨⟨n0,i3,⟨⟩⟩,⟨⟩,⟨⟩⟩ kx
 kernel_rfl
theorem q5q_ (k:Nat):FnOK Tryz.prog 64 (q5o_ k):=by
 refine za_ (tab:=[(111,q2b_)]) (l:=[]) z7_ z9_ mix (List.forall_mem_cons.2 ⟨q2c_,(List.forall_mem_nil _)⟩) (List.forall_mem_nil _) ⟨⟨Tryz.f64,(z2_ Tryz.f64),[.tmp 2],(q5n_ k),by kernel_rfl,by kernel_rfl,by kernel_rfl,by kernel_rfl,rfl,by decide,⟨by kernel_rfl,?_,?_⟩,?_⟩⟩
 ·refine zf_ (n:=1) (by kernel_rfl) fun i hi=>?_
  match i,hi with
  | 0,_=>exact zd_ (by kernel_rfl) (q5p_ k)
  | n+1,hi=>omega
 ·exact z8_ (by kernel_rfl)
 ·rintro n0
  kernel_rfl
def z5g_ (k:Nat):Nat→(Int×Int×List (Int×Int×Int))→Int→((Int×Int×List (Int×Int×Int))→Option Bool)→Option Bool
 | 0,_,_,_=>none
 | n+1,x0,i3,e_0=>(if (decide (i3<(List.length x0.2.2:Int)))=true then (if 0≤i3 then (x0.2.2[i3.toNat]?).bind fun y_3=>(z1q_ y_3.1 0 (z0_ (x0.1-1))).bind fun r_4=>(if (!r_4)=true then some false else (z1q_ y_3.2.1 (z0_ (y_3.1+1)) (z0_ (x0.1-1))).bind fun r_5=>(if (!r_5)=true then some false else (z1q_ y_3.2.2 0 (z0_ (x0.2.1-1))).bind fun r_6=>(if (!r_6)=true then some false else (if (decide (0<i3))=true then (if 0≤(z0_ (i3-1)) then (x0.2.2[(z0_ (i3-1)).toNat]?).bind fun y_7=>(if (decide (y_3.1<y_7.1))=true then some false else (if 0≤(z0_ (i3-1)) then (x0.2.2[(z0_ (i3-1)).toNat]?).bind fun y_8=>(if (decide (y_8.1=y_3.1))=true then (if 0≤(z0_ (i3-1)) then (x0.2.2[(z0_ (i3-1)).toNat]?).bind fun y_9=>(if (decide (y_3.2.1≤y_9.2.1))=true then some false else z5g_ k n x0 (z0_ (i3+1)) e_0) else none) else z5g_ k n x0 (z0_ (i3+1)) e_0) else none)) else none) else z5g_ k n x0 (z0_ (i3+1)) e_0)))) else none) else e_0 x0)
def zgo_ (k:Nat) (x0:Int×Int×List (Int×Int×Int)):Option Bool:=(z1q_ x0.1 1 12).bind fun r_1=>(if (!r_1)=true then some false else (z1q_ x0.2.1 2 360).bind fun r_2=>(if (!r_2)=true then some false else z5g_ k k x0 0 (fun x_10=>some (decide ((List.length x_10.2.2:Int)≤24)))))
def q5r_:Head:=⟨[(0,(.val (.ptr (.st (.pr (.int .i64) (.pr (.int .i64) (.sl 133 (.st (.pr (.int .i64) (.pr (.int .i64) (.int .i64))))))))))),(3,(.val (.int .i64)))],[],[]⟩
def q5s_:Head:=⟨[(0,(.val (.ptr (.st (.pr (.int .i64) (.pr (.int .i64) (.sl 133 (.st (.pr (.int .i64) (.pr (.int .i64) (.int .i64)))))))))))],[],[]⟩
def q5t_ (k n:Nat) (x:q5r_.T) (kx:Nat→St→Option Bool):Option Bool:=z5g_ k n x.1.1 x.1.2.1 (fun (x0:Int×Int×List (Int×Int×Int))=>kx 0 (q5s_.fill ((x0,()),(),())))
def q5u_ (k:Nat):Oracles Bool:=⟨fun n=>bif Nat.beq n 4 then some (fun σ kx=>q5r_.get σ fun x=>q5t_ k k x kx) else none,fun _=>none⟩
def q5v_ (k:Nat):FE:=⟨(.ptr (.st (.pr (.int .i64) (.pr (.int .i64) (.sl 133 (.st (.pr (.int .i64) (.pr (.int .i64) (.int .i64))))))))),1,.bool,fun x=>zgo_ k x⟩
theorem q5w_ (k:Nat):zc_ (z3_ ti [(111,q2b_)] (lk []) z4_ z5_) (q5u_ k) (rdC (z3_ ti [(111,q2b_)] (lk []) z4_ z5_) [.tmp 2] .bool) ((zb_ (z2_ Tryz.f65)).getD 0 .skip) (fun σ kx=>q5r_.get σ fun x=>q5t_ k k x kx):=by
 refine ⟨q5r_,[(0,q5s_)],fun n x kx=>q5t_ k n x kx,k,by kernel_rfl,by kernel_rfl,fun x kx=>by kernel_rfl,?_,fun σ kx=>rfl⟩
 rintro n ⟨⟨x0,i3,⟨⟩⟩,⟨⟩,⟨⟩⟩ kx
 kernel_rfl
theorem q5x_ (k:Nat):FnOK Tryz.prog 65 (q5v_ k):=by
 refine za_ (tab:=[(111,q2b_)]) (l:=[]) z7_ z9_ mix (List.forall_mem_cons.2 ⟨q2c_,(List.forall_mem_nil _)⟩) (List.forall_mem_nil _) ⟨⟨Tryz.f65,(z2_ Tryz.f65),[.tmp 2],(q5u_ k),by kernel_rfl,by kernel_rfl,by kernel_rfl,by kernel_rfl,rfl,by decide,⟨by kernel_rfl,?_,?_⟩,?_⟩⟩
 ·refine zf_ (n:=1) (by kernel_rfl) fun i hi=>?_
  match i,hi with
  | 0,_=>exact zd_ (by kernel_rfl) (q5w_ k)
  | n+1,hi=>omega
 ·exact z8_ (by kernel_rfl)
 ·rintro x0
  kernel_rfl
def zk7_ (k:Nat) (x0:Int×Int×List (Int×Int×Int)) (phases1:List Int):Option Bool:=(z46_ k phases1 x0.1 x0.2.1).bind fun r_1=>some r_1
def q5y_ (k:Nat):FE:=⟨(.pr (.ptr (.st (.pr (.int .i64) (.pr (.int .i64) (.sl 133 (.st (.pr (.int .i64) (.pr (.int .i64) (.int .i64))))))))) (.sl 2 (.int .i64))),1,.bool,fun x=>zk7_ k x.1 x.2⟩
theorem q5z_ (k:Nat):FnOK Tryz.prog 66 (q5y_ k):=by
 refine za_ (tab:=[(62,q3z_ k)]) (l:=[]) z7_ z9_ mix (List.forall_mem_cons.2 ⟨q41_ k,(List.forall_mem_nil _)⟩) (List.forall_mem_nil _) ⟨⟨Tryz.f66,(z2_ Tryz.f66),[.tmp 4],(LOn Bool),by kernel_rfl,by kernel_rfl,by kernel_rfl,by kernel_rfl,rfl,by decide,⟨by kernel_rfl,?_,?_⟩,?_⟩⟩
 ·exact ze_ (by kernel_rfl)
 ·exact z8_ (by kernel_rfl)
 ·rintro ⟨x0,phases1⟩
  kernel_rfl
def zgp_ (k:Nat) (w0:zT0×Int×List Int×List Int×(Int×Int×Int×List (Int×Int×Int))×List Int×List Int×(Int×Int×List (Int×Int×Int))×List Int):Option Bool:=(zgm_ k w0.1).bind fun r_1=>(if (!r_1)=true then some false else (zk6_ w0.2.1).bind fun r_2=>(if (!r_2)=true then some false else (z6i_ k w0.1.1 w0.1.2.2.1 w0.2.1).bind fun r_3=>(z46_ k w0.2.2.1 r_3 w0.1.2.1).bind fun r_4=>(if (!r_4)=true then some false else (z6i_ k w0.1.1 w0.1.2.2.1 0).bind fun r_5=>(z46_ k w0.2.2.2.1 r_5 w0.1.2.1).bind fun r_6=>(if (!r_6)=true then some false else (zgn_ k w0.2.2.2.2.1).bind fun r_7=>(if r_7=true then (zgo_ k w0.2.2.2.2.2.2.2.1).bind fun r_8=>(if r_8=true then (zk7_ k w0.2.2.2.2.2.2.2.1 w0.2.2.2.2.2.2.2.2).bind fun r_9=>some r_9 else some false) else some false)))))
def q60_ (k:Nat):FE:=⟨(.ptr (.st (.pr (.st (.pr (.st (.sl 25 (.sl 2 (.int .i64)))) (.pr (.int .i64) (.pr (.sl 2 (.int .i64)) (.sl 135 (.st (.pr (.int .i64) (.pr (.int .i64) (.pr (.int .i64) (.sl 2 (.int .i64))))))))))) (.pr (.int .i64) (.pr (.sl 2 (.int .i64)) (.pr (.sl 2 (.int .i64)) (.pr (.st (.pr (.int .i64) (.pr (.int .i64) (.pr (.int .i64) (.sl 138 (.st (.pr (.int .i64) (.pr (.int .i64) (.int .i64))))))))) (.pr (.sl 2 (.int .i64)) (.pr (.sl 2 (.int .i64)) (.pr (.st (.pr (.int .i64) (.pr (.int .i64) (.sl 133 (.st (.pr (.int .i64) (.pr (.int .i64) (.int .i64)))))))) (.sl 2 (.int .i64)))))))))))),1,.bool,fun x=>zgp_ k x⟩
theorem q61_ (k:Nat):FnOK Tryz.prog 38 (q60_ k):=by
 refine za_ (tab:=[(60,q5e_ k),(61,q5i_),(63,q4d_ k),(62,q3z_ k),(64,q5o_ k),(65,q5v_ k),(66,q5y_ k)]) (l:=[]) z7_ z9_ mix (List.forall_mem_cons.2 ⟨q5h_ k,(List.forall_mem_cons.2 ⟨q5j_,(List.forall_mem_cons.2 ⟨q4f_ k,(List.forall_mem_cons.2 ⟨q41_ k,(List.forall_mem_cons.2 ⟨q5q_ k,(List.forall_mem_cons.2 ⟨q5x_ k,(List.forall_mem_cons.2 ⟨q5z_ k,(List.forall_mem_nil _)⟩)⟩)⟩)⟩)⟩)⟩)⟩) (List.forall_mem_nil _) ⟨⟨Tryz.f38,(z2_ Tryz.f38),[.tmp 2],(LOn Bool),by kernel_rfl,by kernel_rfl,by kernel_rfl,by kernel_rfl,rfl,by decide,⟨by kernel_rfl,?_,?_⟩,?_⟩⟩
 ·exact ze_ (by kernel_rfl)
 ·exact z8_ (by kernel_rfl)
 ·rintro w0
  kernel_rfl
def z6k_ (k:Nat) (s0:List (List Int)×Int×List Int×List (Int×Int×Int×List Int)) (simplex1:Int) (i2:Int):Option (Int×Int×Int×List Int):=(zae_ k s0.1 simplex1 i2).bind fun r_1=>(if 0≤r_1 then (s0.2.2.2[r_1.toNat]?).bind fun y_2=>some y_2 else none)
def q62_ (k:Nat):FE:=⟨(.pr (.ptr (.st (.pr (.st (.sl 25 (.sl 2 (.int .i64)))) (.pr (.int .i64) (.pr (.sl 2 (.int .i64)) (.sl 135 (.st (.pr (.int .i64) (.pr (.int .i64) (.pr (.int .i64) (.sl 2 (.int .i64)))))))))))) (.pr (.int .i64) (.int .i64))),RON,(.ptr (.st (.pr (.int .i64) (.pr (.int .i64) (.pr (.int .i64) (.sl 2 (.int .i64))))))),fun x=>z6k_ k x.1 x.2.1 x.2.2⟩
theorem q63_ (k:Nat):FnOK Tryz.prog 157 (q62_ k):=by
 refine zjf_ (tab:=[(110,q4r_ k)]) (l:=[]) z7_ z9_ mix (List.forall_mem_cons.2 ⟨q4t_ k,(List.forall_mem_nil _)⟩) (List.forall_mem_nil _) ⟨by kernel_rfl,⟨Tryz.f157,(z2_ Tryz.f157),[.tmp 6],(LOn (Int×Int×Int×List Int)),by kernel_rfl,by kernel_rfl,by kernel_rfl,by kernel_rfl,by decide,⟨by kernel_rfl,?_,?_⟩,?_⟩⟩
 ·exact ze_ (by kernel_rfl)
 ·exact z8_ (by kernel_rfl)
 ·rintro ⟨s0,simplex1,i2⟩
  kernel_rfl
def zcf_ (p0:Int) (rows1:Int) (columns2:Int):Option (Int×Int×Int×List Int):=(if 0≤(z0_ (rows1*columns2))∧(z0_ (rows1*columns2))≤(z0_ (rows1*columns2))∧(z0_ (rows1*columns2))*8≤LIM then some (p0,(rows1,(columns2,(List.replicate (z0_ (rows1*columns2)).toNat 0)))) else none)
def q64_:FE:=⟨(.pr (.int .i64) (.pr (.int .i64) (.int .i64))),1,(.st (.pr (.int .i64) (.pr (.int .i64) (.pr (.int .i64) (.sl 2 (.int .i64)))))),fun x=>zcf_ x.1 x.2.1 x.2.2⟩
theorem q65_:FnOK Tryz.prog 158 (q64_):=by
 refine za_ (tab:=[]) (l:=[]) z7_ z9_ mix (List.forall_mem_nil _) (List.forall_mem_nil _) ⟨⟨Tryz.f158,(z2_ Tryz.f158),[.cell 6 135],(LOn (Int×Int×Int×List Int)),by kernel_rfl,by kernel_rfl,by kernel_rfl,by kernel_rfl,rfl,by decide,⟨by kernel_rfl,?_,?_⟩,?_⟩⟩
 ·exact ze_ (by kernel_rfl)
 ·exact z8_ (by kernel_rfl)
 ·rintro ⟨p0,rows1,columns2⟩
  kernel_rfl
end
end Go.Proofs.YtioaaljaohhjiaaGreatDoor.Ev
