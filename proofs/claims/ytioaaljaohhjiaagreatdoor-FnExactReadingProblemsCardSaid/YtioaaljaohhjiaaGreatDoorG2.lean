/- Functions of the program, as plain ones. No conditions. -/
import Derived.Test.YtioaaljaohhjiaaGreatDoorG1
import Derived.KernelRfl
set_option linter.unusedVariables false
set_option maxRecDepth 100000
namespace Go.Proofs.YtioaaljaohhjiaaGreatDoor.Ev
open Go.RowKit
noncomputable section
def z7o_ (k:Nat) (a0:zT0×Int×List Int×List Int×(Int×Int×Int×List (Int×Int×Int))×List Int×List Int×(Int×Int×List (Int×Int×Int))×List Int):Option (zT0×Int×List Int×List Int×(Int×Int×Int×List (Int×Int×Int))×List Int×List Int×(Int×Int×List (Int×Int×Int))×List Int):=(zez_ k a0.1).bind fun r_1=>(z43_ k a0.2.2.1).bind fun r_2=>(z43_ k a0.2.2.2.1).bind fun r_3=>(zf2_ k a0.2.2.2.2.1).bind fun r_4=>(z43_ k a0.2.2.2.2.2.1).bind fun r_5=>(z43_ k a0.2.2.2.2.2.2.1).bind fun r_6=>(zf5_ k a0.2.2.2.2.2.2.2.1).bind fun r_7=>(z43_ k a0.2.2.2.2.2.2.2.2).bind fun r_8=>some ((r_1.1,(r_1.2.1,(r_1.2.2.1,r_1.2.2.2))),(a0.2.1,(r_2,(r_3,((r_4.1,(r_4.2.1,(r_4.2.2.1,r_4.2.2.2))),(r_5,(r_6,((r_7.1,(r_7.2.1,r_7.2.2)),r_8))))))))
def q29_ (k:Nat):FE:=⟨(.st (.pr (.st (.pr (.st (.sl 25 (.sl 2 (.int .i64)))) (.pr (.int .i64) (.pr (.sl 2 (.int .i64)) (.sl 108 (.st (.pr (.int .i64) (.pr (.int .i64) (.pr (.int .i64) (.sl 2 (.int .i64))))))))))) (.pr (.int .i64) (.pr (.sl 2 (.int .i64)) (.pr (.sl 2 (.int .i64)) (.pr (.st (.pr (.int .i64) (.pr (.int .i64) (.pr (.int .i64) (.sl 140 (.st (.pr (.int .i64) (.pr (.int .i64) (.int .i64))))))))) (.pr (.sl 2 (.int .i64)) (.pr (.sl 2 (.int .i64)) (.pr (.st (.pr (.int .i64) (.pr (.int .i64) (.sl 142 (.st (.pr (.int .i64) (.pr (.int .i64) (.int .i64)))))))) (.sl 2 (.int .i64))))))))))),1,(.st (.pr (.st (.pr (.st (.sl 25 (.sl 2 (.int .i64)))) (.pr (.int .i64) (.pr (.sl 2 (.int .i64)) (.sl 135 (.st (.pr (.int .i64) (.pr (.int .i64) (.pr (.int .i64) (.sl 2 (.int .i64))))))))))) (.pr (.int .i64) (.pr (.sl 2 (.int .i64)) (.pr (.sl 2 (.int .i64)) (.pr (.st (.pr (.int .i64) (.pr (.int .i64) (.pr (.int .i64) (.sl 138 (.st (.pr (.int .i64) (.pr (.int .i64) (.int .i64))))))))) (.pr (.sl 2 (.int .i64)) (.pr (.sl 2 (.int .i64)) (.pr (.st (.pr (.int .i64) (.pr (.int .i64) (.sl 133 (.st (.pr (.int .i64) (.pr (.int .i64) (.int .i64)))))))) (.sl 2 (.int .i64))))))))))),fun x=>z7o_ k x⟩
theorem q2a_ (k:Nat):FnOK Tryz.prog 6 (q29_ k):=by
 refine za_ (tab:=[(18,q1l_ k),(19,q10_ k),(20,q1w_ k),(21,q27_ k)]) (l:=[]) z7_ z9_ mix (List.forall_mem_cons.2 ⟨q1m_ k,(List.forall_mem_cons.2 ⟨q12_ k,(List.forall_mem_cons.2 ⟨q1x_ k,(List.forall_mem_cons.2 ⟨q28_ k,(List.forall_mem_nil _)⟩)⟩)⟩)⟩) (List.forall_mem_nil _) ⟨⟨Tryz.f6,(z2_ Tryz.f6),[.cell 2 52],(LOn (zT0×Int×List Int×List Int×(Int×Int×Int×List (Int×Int×Int))×List Int×List Int×(Int×Int×List (Int×Int×Int))×List Int)),by kernel_rfl,by kernel_rfl,by kernel_rfl,by kernel_rfl,rfl,by decide,⟨by kernel_rfl,?_,?_⟩,?_⟩⟩
 ·exact ze_ (by kernel_rfl)
 ·exact z8_ (by kernel_rfl)
 ·rintro a0
  kernel_rfl
def z1q_ (n0:Int) (low1:Int) (high2:Int):Option Bool:=(if (decide (low1≤n0))=true then some (decide (n0≤high2)) else some false)
def q2b_:FE:=⟨(.pr (.int .i64) (.pr (.int .i64) (.int .i64))),1,.bool,fun x=>z1q_ x.1 x.2.1 x.2.2⟩
theorem q2c_:FnOK Tryz.prog 111 (q2b_):=by
 refine za_ (tab:=[]) (l:=[]) z7_ z9_ mix (List.forall_mem_nil _) (List.forall_mem_nil _) ⟨⟨Tryz.f111,(z2_ Tryz.f111),[.tmp 6],(LOn Bool),by kernel_rfl,by kernel_rfl,by kernel_rfl,by kernel_rfl,rfl,by decide,⟨by kernel_rfl,?_,?_⟩,?_⟩⟩
 ·exact ze_ (by kernel_rfl)
 ·exact z8_ (by kernel_rfl)
 ·rintro ⟨n0,low1,high2⟩
  kernel_rfl
def z7p_ (k:Nat):Nat→(List Int)→Int→Int→Int→(Option Bool)→Option Bool
 | 0,_,_,_,_,_=>none
 | n+1,list0,low1,high2,i7,e_0=>(if (decide (i7<(List.length list0:Int)))=true then (if 0≤i7 then (list0[i7.toNat]?).bind fun y_1=>(z1q_ y_1 low1 high2).bind fun r_2=>(if (!r_2)=true then some false else (if (decide (0<i7))=true then (if 0≤(z0_ (i7-1)) then (list0[(z0_ (i7-1)).toNat]?).bind fun y_3=>(if 0≤i7 then (list0[i7.toNat]?).bind fun y_4=>(if (decide (y_4≤y_3))=true then some false else z7p_ k n list0 low1 high2 (z0_ (i7+1)) e_0) else none) else none) else z7p_ k n list0 low1 high2 (z0_ (i7+1)) e_0)) else none) else e_0)
def zcd_ (k:Nat) (list0:List Int) (low1:Int) (high2:Int):Option Bool:=z7p_ k k list0 low1 high2 0 (some true)
def q2d_:Head:=⟨[(0,(.val (.sl 2 (.int .i64)))),(1,(.val (.int .i64))),(2,(.val (.int .i64))),(7,(.val (.int .i64)))],[],[]⟩
def q2e_:Head:=⟨[],[],[]⟩
def q2f_ (k n:Nat) (x:q2d_.T) (kx:Nat→St→Option Bool):Option Bool:=z7p_ k n x.1.1 x.1.2.1 x.1.2.2.1 x.1.2.2.2.1 (kx 0 (q2e_.fill ((),(),())))
def q2g_ (k:Nat):Oracles Bool:=⟨fun n=>bif Nat.beq n 2 then some (fun σ kx=>q2d_.get σ fun x=>q2f_ k k x kx) else none,fun _=>none⟩
def q2h_ (k:Nat):FE:=⟨(.pr (.sl 2 (.int .i64)) (.pr (.int .i64) (.int .i64))),1,.bool,fun x=>zcd_ k x.1 x.2.1 x.2.2⟩
theorem q2i_ (k:Nat):zc_ (z3_ ti [(111,q2b_)] (lk []) z4_ z5_) (q2g_ k) (rdC (z3_ ti [(111,q2b_)] (lk []) z4_ z5_) [.tmp 6] .bool) ((zb_ (z2_ Tryz.f121)).getD 0 .skip) (fun σ kx=>q2d_.get σ fun x=>q2f_ k k x kx):=by
 refine ⟨q2d_,[(0,q2e_)],fun n x kx=>q2f_ k n x kx,k,by kernel_rfl,by kernel_rfl,fun x kx=>by kernel_rfl,?_,fun σ kx=>rfl⟩
 rintro n ⟨⟨list0,low1,high2,i7,⟨⟩⟩,⟨⟩,⟨⟩⟩ kx
 kernel_rfl
theorem q2j_ (k:Nat):FnOK Tryz.prog 121 (q2h_ k):=by
 refine za_ (tab:=[(111,q2b_)]) (l:=[]) z7_ z9_ mix (List.forall_mem_cons.2 ⟨q2c_,(List.forall_mem_nil _)⟩) (List.forall_mem_nil _) ⟨⟨Tryz.f121,(z2_ Tryz.f121),[.tmp 6],(q2g_ k),by kernel_rfl,by kernel_rfl,by kernel_rfl,by kernel_rfl,rfl,by decide,⟨by kernel_rfl,?_,?_⟩,?_⟩⟩
 ·refine zf_ (n:=1) (by kernel_rfl) fun i hi=>?_
  match i,hi with
  | 0,_=>exact zd_ (by kernel_rfl) (q2i_ k)
  | n+1,hi=>omega
 ·exact z8_ (by kernel_rfl)
 ·rintro ⟨list0,low1,high2⟩
  kernel_rfl
def zgf_ (k:Nat) (s0:List Int):Option Bool:=(z1q_ (List.length s0:Int) 1 4).bind fun r_1=>(if r_1=true then (zcd_ k s0 0 9).bind fun r_2=>some r_2 else some false)
def q2k_ (k:Nat):FE:=⟨(.sl 2 (.int .i64)),1,.bool,fun x=>zgf_ k x⟩
theorem q2l_ (k:Nat):FnOK Tryz.prog 150 (q2k_ k):=by
 refine za_ (tab:=[(111,q2b_),(121,q2h_ k)]) (l:=[]) z7_ z9_ mix (List.forall_mem_cons.2 ⟨q2c_,(List.forall_mem_cons.2 ⟨q2j_ k,(List.forall_mem_nil _)⟩)⟩) (List.forall_mem_nil _) ⟨⟨Tryz.f150,(z2_ Tryz.f150),[.tmp 2],(LOn Bool),by kernel_rfl,by kernel_rfl,by kernel_rfl,by kernel_rfl,rfl,by decide,⟨by kernel_rfl,?_,?_⟩,?_⟩⟩
 ·exact ze_ (by kernel_rfl)
 ·exact z8_ (by kernel_rfl)
 ·rintro s0
  kernel_rfl
def za7_ (k:Nat):Nat→(List Int)→(List Int)→Int→(Option Bool)→Option Bool
 | 0,_,_,_,_=>none
 | n+1,a0,b1,i5,e_0=>(if (decide (i5<(List.length a0:Int)))=true then (if 0≤i5 then (a0[i5.toNat]?).bind fun y_1=>(if 0≤i5 then (b1[i5.toNat]?).bind fun y_2=>(if (!(decide (y_1=y_2)))=true then (if 0≤i5 then (a0[i5.toNat]?).bind fun y_3=>(if 0≤i5 then (b1[i5.toNat]?).bind fun y_4=>some (decide (y_3<y_4)) else none) else none) else za7_ k n a0 b1 (z0_ (i5+1)) e_0) else none) else none) else e_0)
def zgg_ (k:Nat) (a0:List Int) (b1:List Int):Option Bool:=(if (!(decide ((List.length a0:Int)=(List.length b1:Int))))=true then some (decide ((List.length a0:Int)<(List.length b1:Int))) else za7_ k k a0 b1 0 (some false))
def q2m_:Head:=⟨[(0,(.val (.sl 2 (.int .i64)))),(1,(.val (.sl 2 (.int .i64)))),(5,(.val (.int .i64)))],[],[]⟩
def q2n_:Head:=⟨[],[],[]⟩
def q2o_ (k n:Nat) (x:q2m_.T) (kx:Nat→St→Option Bool):Option Bool:=za7_ k n x.1.1 x.1.2.1 x.1.2.2.1 (kx 0 (q2n_.fill ((),(),())))
def q2p_ (k:Nat):Oracles Bool:=⟨fun n=>bif Nat.beq n 4 then some (fun σ kx=>q2m_.get σ fun x=>q2o_ k k x kx) else none,fun _=>none⟩
def q2q_ (k:Nat):FE:=⟨(.pr (.sl 2 (.int .i64)) (.sl 2 (.int .i64))),1,.bool,fun x=>zgg_ k x.1 x.2⟩
theorem q2r_ (k:Nat):zc_ (z3_ ti [] (lk []) z4_ z5_) (q2p_ k) (rdC (z3_ ti [] (lk []) z4_ z5_) [.tmp 4] .bool) ((zb_ (z2_ Tryz.f151)).getD 0 .skip) (fun σ kx=>q2m_.get σ fun x=>q2o_ k k x kx):=by
 refine ⟨q2m_,[(0,q2n_)],fun n x kx=>q2o_ k n x kx,k,by kernel_rfl,by kernel_rfl,fun x kx=>by kernel_rfl,?_,fun σ kx=>rfl⟩
 rintro n ⟨⟨a0,b1,i5,⟨⟩⟩,⟨⟩,⟨⟩⟩ kx
 kernel_rfl
theorem q2s_ (k:Nat):FnOK Tryz.prog 151 (q2q_ k):=by
 refine za_ (tab:=[]) (l:=[]) z7_ z9_ mix (List.forall_mem_nil _) (List.forall_mem_nil _) ⟨⟨Tryz.f151,(z2_ Tryz.f151),[.tmp 4],(q2p_ k),by kernel_rfl,by kernel_rfl,by kernel_rfl,by kernel_rfl,rfl,by decide,⟨by kernel_rfl,?_,?_⟩,?_⟩⟩
 ·refine zf_ (n:=1) (by kernel_rfl) fun i hi=>?_
  match i,hi with
  | 0,_=>exact zd_ (by kernel_rfl) (q2r_ k)
  | n+1,hi=>omega
 ·exact z8_ (by kernel_rfl)
 ·rintro ⟨a0,b1⟩
  kernel_rfl
def zgh_ (list0:List Int):Option (List Int):=(if (([]:List Unit).length+list0.length)*8≤LIM then some list0 else none)
def q2t_:FE:=⟨(.sl 2 (.int .i64)),1,(.sl 2 (.int .i64)),fun x=>zgh_ x⟩
theorem q2u_:FnOK Tryz.prog 115 (q2t_):=by
 refine za_ (tab:=[]) (l:=[]) z7_ z9_ mix (List.forall_mem_nil _) (List.forall_mem_nil _) ⟨⟨Tryz.f115,(z2_ Tryz.f115),[.tmp 2],(LOn (List Int)),by kernel_rfl,by kernel_rfl,by kernel_rfl,by kernel_rfl,rfl,by decide,⟨by kernel_rfl,?_,?_⟩,?_⟩⟩
 ·exact ze_ (by kernel_rfl)
 ·exact z8_ (by kernel_rfl)
 ·rintro list0
  kernel_rfl
def z7q_ (s0:List Int) (k1:Int):Option (List Int):=(if 0≤(0:Int)∧(0:Int)≤k1∧k1≤s0.length then (zgh_ (s0.take k1.toNat)).bind fun r_1=>(if 0≤(z0_ (k1+1))∧(z0_ (k1+1))≤(s0.length:Int)∧(s0.length:Int)≤s0.length then (if (r_1.length+((s0.drop ((z0_ (k1+1)).toNat)).take (s0.length-(z0_ (k1+1)).toNat)).length)*8≤LIM then some (r_1++((s0.drop ((z0_ (k1+1)).toNat)).take (s0.length-(z0_ (k1+1)).toNat))) else none) else none) else none)
def q2v_:FE:=⟨(.pr (.sl 2 (.int .i64)) (.int .i64)),1,(.sl 2 (.int .i64)),fun x=>z7q_ x.1 x.2⟩
theorem q2w_:FnOK Tryz.prog 69 (q2v_):=by
 refine za_ (tab:=[(115,q2t_)]) (l:=[]) z7_ z9_ mix (List.forall_mem_cons.2 ⟨q2u_,(List.forall_mem_nil _)⟩) (List.forall_mem_nil _) ⟨⟨Tryz.f69,(z2_ Tryz.f69),[.tmp 4],(LOn (List Int)),by kernel_rfl,by kernel_rfl,by kernel_rfl,by kernel_rfl,rfl,by decide,⟨by kernel_rfl,?_,?_⟩,?_⟩⟩
 ·exact ze_ (by kernel_rfl)
 ·exact z8_ (by kernel_rfl)
 ·rintro ⟨s0,k1⟩
  kernel_rfl
def za8_ (k:Nat):Nat→(List Int)→(List Int)→Int→(Option Bool)→Option Bool
 | 0,_,_,_,_=>none
 | n+1,a0,b1,i5,e_0=>(if (decide (i5<(List.length a0:Int)))=true then (if 0≤i5 then (a0[i5.toNat]?).bind fun y_1=>(if 0≤i5 then (b1[i5.toNat]?).bind fun y_2=>(if (!(decide (y_1=y_2)))=true then some false else za8_ k n a0 b1 (z0_ (i5+1)) e_0) else none) else none) else e_0)
def zgi_ (k:Nat) (a0:List Int) (b1:List Int):Option Bool:=(if (!(decide ((List.length a0:Int)=(List.length b1:Int))))=true then some false else za8_ k k a0 b1 0 (some true))
def q2x_:Head:=⟨[(0,(.val (.sl 2 (.int .i64)))),(1,(.val (.sl 2 (.int .i64)))),(5,(.val (.int .i64)))],[],[]⟩
def q2y_:Head:=⟨[],[],[]⟩
def q2z_ (k n:Nat) (x:q2x_.T) (kx:Nat→St→Option Bool):Option Bool:=za8_ k n x.1.1 x.1.2.1 x.1.2.2.1 (kx 0 (q2y_.fill ((),(),())))
def q30_ (k:Nat):Oracles Bool:=⟨fun n=>bif Nat.beq n 4 then some (fun σ kx=>q2x_.get σ fun x=>q2z_ k k x kx) else none,fun _=>none⟩
def q31_ (k:Nat):FE:=⟨(.pr (.sl 2 (.int .i64)) (.sl 2 (.int .i64))),1,.bool,fun x=>zgi_ k x.1 x.2⟩
theorem q32_ (k:Nat):zc_ (z3_ ti [] (lk []) z4_ z5_) (q30_ k) (rdC (z3_ ti [] (lk []) z4_ z5_) [.tmp 4] .bool) ((zb_ (z2_ Tryz.f179)).getD 0 .skip) (fun σ kx=>q2x_.get σ fun x=>q2z_ k k x kx):=by
 refine ⟨q2x_,[(0,q2y_)],fun n x kx=>q2z_ k n x kx,k,by kernel_rfl,by kernel_rfl,fun x kx=>by kernel_rfl,?_,fun σ kx=>rfl⟩
 rintro n ⟨⟨a0,b1,i5,⟨⟩⟩,⟨⟩,⟨⟩⟩ kx
 kernel_rfl
theorem q33_ (k:Nat):FnOK Tryz.prog 179 (q31_ k):=by
 refine za_ (tab:=[]) (l:=[]) z7_ z9_ mix (List.forall_mem_nil _) (List.forall_mem_nil _) ⟨⟨Tryz.f179,(z2_ Tryz.f179),[.tmp 4],(q30_ k),by kernel_rfl,by kernel_rfl,by kernel_rfl,by kernel_rfl,rfl,by decide,⟨by kernel_rfl,?_,?_⟩,?_⟩⟩
 ·refine zf_ (n:=1) (by kernel_rfl) fun i hi=>?_
  match i,hi with
  | 0,_=>exact zd_ (by kernel_rfl) (q32_ k)
  | n+1,hi=>omega
 ·exact z8_ (by kernel_rfl)
 ·rintro ⟨a0,b1⟩
  kernel_rfl
def za9_ (k:Nat):Nat→zT4→(List Int)→Int→(Option Int)→Option Int
 | 0,_,_,_,_=>none
 | n+1,c0,s1,i5,e_0=>(if (decide (i5<(List.length c0:Int)))=true then (if 0≤i5 then (c0[i5.toNat]?).bind fun y_1=>(zgi_ k y_1 s1).bind fun r_2=>(if r_2=true then some i5 else za9_ k n c0 s1 (z0_ (i5+1)) e_0) else none) else e_0)
def zce_ (k:Nat) (c0:List (List Int)) (s1:List Int):Option Int:=za9_ k k c0 s1 0 (some (-1))
def q34_:Head:=⟨[(0,(.val (.ptr (.st (.sl 25 (.sl 2 (.int .i64))))))),(1,(.val (.sl 2 (.int .i64)))),(5,(.val (.int .i64)))],[],[]⟩
def q35_:Head:=⟨[],[],[]⟩
def q36_ (k n:Nat) (x:q34_.T) (kx:Nat→St→Option Int):Option Int:=za9_ k n x.1.1 x.1.2.1 x.1.2.2.1 (kx 0 (q35_.fill ((),(),())))
def q37_ (k:Nat):Oracles Int:=⟨fun n=>bif Nat.beq n 2 then some (fun σ kx=>q34_.get σ fun x=>q36_ k k x kx) else none,fun _=>none⟩
def q38_ (k:Nat):FE:=⟨(.pr (.ptr (.st (.sl 25 (.sl 2 (.int .i64))))) (.sl 2 (.int .i64))),1,(.int .i64),fun x=>zce_ k x.1 x.2⟩
theorem q39_ (k:Nat):zc_ (z3_ ti [(179,q31_ k)] (lk []) z4_ z5_) (q37_ k) (rdC (z3_ ti [(179,q31_ k)] (lk []) z4_ z5_) [.tmp 4] (.int .i64)) ((zb_ (z2_ Tryz.f152)).getD 0 .skip) (fun σ kx=>q34_.get σ fun x=>q36_ k k x kx):=by
 refine ⟨q34_,[(0,q35_)],fun n x kx=>q36_ k n x kx,k,by kernel_rfl,by kernel_rfl,fun x kx=>by kernel_rfl,?_,fun σ kx=>rfl⟩
 rintro n ⟨⟨c0,s1,i5,⟨⟩⟩,⟨⟩,⟨⟩⟩ kx
 kernel_rfl
theorem q3a_ (k:Nat):FnOK Tryz.prog 152 (q38_ k):=by
 refine za_ (tab:=[(179,q31_ k)]) (l:=[]) z7_ z9_ mix (List.forall_mem_cons.2 ⟨q33_ k,(List.forall_mem_nil _)⟩) (List.forall_mem_nil _) ⟨⟨Tryz.f152,(z2_ Tryz.f152),[.tmp 4],(q37_ k),by kernel_rfl,by kernel_rfl,by kernel_rfl,by kernel_rfl,rfl,by decide,⟨by kernel_rfl,?_,?_⟩,?_⟩⟩
 ·refine zf_ (n:=1) (by kernel_rfl) fun i hi=>?_
  match i,hi with
  | 0,_=>exact zd_ (by kernel_rfl) (q39_ k)
  | n+1,hi=>omega
 ·exact z8_ (by kernel_rfl)
 ·rintro ⟨c0,s1⟩
  kernel_rfl
def z5d_ (k:Nat):Nat→zT4→Int→(List Int)→Int→(zT4→Int→Option Bool)→Option Bool
 | 0,_,_,_,_,_=>none
 | n+1,c0,i3,s4,k5,e_2=>(if (decide (k5<(List.length s4:Int)))=true then (if (decide (1<(List.length s4:Int)))=true then (z7q_ s4 k5).bind fun r_5=>(zce_ k c0 r_5).bind fun r_6=>(if (decide (r_6<0))=true then some false else z5d_ k n c0 i3 s4 (z0_ (k5+1)) e_2) else e_2 c0 i3) else e_2 c0 i3)
def z45_ (k:Nat):Nat→zT4→Int→(Option Bool)→Option Bool
 | 0,_,_,_=>none
 | n+1,c0,i3,e_0=>(if (decide (i3<(List.length c0:Int)))=true then (if 0≤i3 then (c0[i3.toNat]?).bind fun y_1=>(zgf_ k y_1).bind fun r_2=>(if (!r_2)=true then some false else (if (decide (0<i3))=true then (if 0≤(z0_ (i3-1)) then (c0[(z0_ (i3-1)).toNat]?).bind fun y_3=>(zgg_ k y_3 y_1).bind fun r_4=>(if (!r_4)=true then some false else z5d_ k k c0 i3 y_1 0 (fun c_5 i_6=>z45_ k n c_5 (z0_ (i_6+1)) e_0)) else none) else z5d_ k k c0 i3 y_1 0 (fun c_7 i_8=>z45_ k n c_7 (z0_ (i_8+1)) e_0))) else none) else e_0)
def zgj_ (k:Nat) (c0:List (List Int)):Option Bool:=(if (decide (48<(List.length c0:Int)))=true then some false else z45_ k k c0 0 (some true))
def q3b_:Head:=⟨[(0,(.val (.ptr (.st (.sl 25 (.sl 2 (.int .i64))))))),(3,(.val (.int .i64))),(4,(.val (.sl 2 (.int .i64)))),(5,(.val (.int .i64)))],[],[]⟩
def q3c_:Head:=⟨[(0,(.val (.ptr (.st (.sl 25 (.sl 2 (.int .i64))))))),(3,(.val (.int .i64)))],[],[]⟩
def q3d_ (k n:Nat) (x:q3b_.T) (kx:Nat→St→Option Bool):Option Bool:=z5d_ k n x.1.1 x.1.2.1 x.1.2.2.1 x.1.2.2.2.1 (fun (c0:List (List Int)) (i3:Int)=>kx 2 (q3c_.fill ((c0,i3,()),(),())))
def q3e_:Head:=⟨[(0,(.val (.ptr (.st (.sl 25 (.sl 2 (.int .i64))))))),(3,(.val (.int .i64)))],[],[]⟩
def q3f_:Head:=⟨[],[],[]⟩
def q3g_ (k n:Nat) (x:q3e_.T) (kx:Nat→St→Option Bool):Option Bool:=z45_ k n x.1.1 x.1.2.1 (kx 0 (q3f_.fill ((),(),())))
def q3h_ (k:Nat):Oracles Bool:=⟨fun n=>bif Nat.beq n 10 then some (fun σ kx=>q3b_.get σ fun x=>q3d_ k k x kx) else bif Nat.beq n 4 then some (fun σ kx=>q3e_.get σ fun x=>q3g_ k k x kx) else none,fun _=>none⟩
def q3i_ (k:Nat):FE:=⟨(.ptr (.st (.sl 25 (.sl 2 (.int .i64))))),1,.bool,fun x=>zgj_ k x⟩
theorem q3j_ (k:Nat):zc_ (z3_ ti [(150,q2k_ k),(151,q2q_ k),(69,q2v_),(152,q38_ k)] (lk []) z4_ z5_) (q3h_ k) (rdC (z3_ ti [(150,q2k_ k),(151,q2q_ k),(69,q2v_),(152,q38_ k)] (lk []) z4_ z5_) [.tmp 2] .bool) ((zb_ (z2_ Tryz.f105)).getD 1 .skip) (fun σ kx=>q3b_.get σ fun x=>q3d_ k k x kx):=by
 refine ⟨q3b_,[(2,q3c_)],fun n x kx=>q3d_ k n x kx,k,by kernel_rfl,by kernel_rfl,fun x kx=>by kernel_rfl,?_,fun σ kx=>rfl⟩
 rintro n ⟨⟨c0,i3,s4,k5,⟨⟩⟩,⟨⟩,⟨⟩⟩ kx
 kernel_rfl
theorem q3k_ (k:Nat):zc_ (z3_ ti [(150,q2k_ k),(151,q2q_ k),(69,q2v_),(152,q38_ k)] (lk []) z4_ z5_) (q3h_ k) (rdC (z3_ ti [(150,q2k_ k),(151,q2q_ k),(69,q2v_),(152,q38_ k)] (lk []) z4_ z5_) [.tmp 2] .bool) ((zb_ (z2_ Tryz.f105)).getD 0 .skip) (fun σ kx=>q3e_.get σ fun x=>q3g_ k k x kx):=by
 refine ⟨q3e_,[(0,q3f_)],fun n x kx=>q3g_ k n x kx,k,by kernel_rfl,by kernel_rfl,fun x kx=>by kernel_rfl,?_,fun σ kx=>rfl⟩
 rintro n ⟨⟨c0,i3,⟨⟩⟩,⟨⟩,⟨⟩⟩ kx
 kernel_rfl
theorem q3l_ (k:Nat):FnOK Tryz.prog 105 (q3i_ k):=by
 refine za_ (tab:=[(150,q2k_ k),(151,q2q_ k),(69,q2v_),(152,q38_ k)]) (l:=[]) z7_ z9_ mix (List.forall_mem_cons.2 ⟨q2l_ k,(List.forall_mem_cons.2 ⟨q2s_ k,(List.forall_mem_cons.2 ⟨q2w_,(List.forall_mem_cons.2 ⟨q3a_ k,(List.forall_mem_nil _)⟩)⟩)⟩)⟩) (List.forall_mem_nil _) ⟨⟨Tryz.f105,(z2_ Tryz.f105),[.tmp 2],(q3h_ k),by kernel_rfl,by kernel_rfl,by kernel_rfl,by kernel_rfl,rfl,by decide,⟨by kernel_rfl,?_,?_⟩,?_⟩⟩
 ·refine zf_ (n:=2) (by kernel_rfl) fun i hi=>?_
  match i,hi with
  | 0,_=>exact zd_ (by kernel_rfl) (q3k_ k)
  | 1,_=>exact zd_ (by kernel_rfl) (q3j_ k)
  | n+2,hi=>omega
 ·exact z8_ (by kernel_rfl)
 ·rintro c0
  kernel_rfl
def z5e_ (k:Nat):Nat→Int→Int→(Option Bool)→Option Bool
 | 0,_,_,_=>none
 | n+1,p0,k3,e_0=>(if (decide ((z0_ (k3*k3))≤p0))=true then (if k3=0 then none else (if (decide ((Int.tmod p0 k3)=0))=true then some false else z5e_ k n p0 (z0_ (k3+1)) e_0)) else e_0)
def zk4_ (k:Nat) (p0:Int):Option Bool:=(z1q_ p0 2 251).bind fun r_1=>(if (!r_1)=true then some false else z5e_ k k p0 2 (some true))
def q3m_:Head:=⟨[(0,(.val (.int .i64))),(3,(.val (.int .i64)))],[],[]⟩
def q3n_:Head:=⟨[],[],[]⟩
def q3o_ (k n:Nat) (x:q3m_.T) (kx:Nat→St→Option Bool):Option Bool:=z5e_ k n x.1.1 x.1.2.1 (kx 0 (q3n_.fill ((),(),())))
def q3p_ (k:Nat):Oracles Bool:=⟨fun n=>bif Nat.beq n 4 then some (fun σ kx=>q3m_.get σ fun x=>q3o_ k k x kx) else none,fun _=>none⟩
def q3q_ (k:Nat):FE:=⟨(.int .i64),1,.bool,fun x=>zk4_ k x⟩
theorem q3r_ (k:Nat):zc_ (z3_ ti [(111,q2b_)] (lk []) z4_ z5_) (q3p_ k) (rdC (z3_ ti [(111,q2b_)] (lk []) z4_ z5_) [.tmp 2] .bool) ((zb_ (z2_ Tryz.f153)).getD 0 .skip) (fun σ kx=>q3m_.get σ fun x=>q3o_ k k x kx):=by
 refine ⟨q3m_,[(0,q3n_)],fun n x kx=>q3o_ k n x kx,k,by kernel_rfl,by kernel_rfl,fun x kx=>by kernel_rfl,?_,fun σ kx=>rfl⟩
 rintro n ⟨⟨p0,k3,⟨⟩⟩,⟨⟩,⟨⟩⟩ kx
 kernel_rfl
theorem q3s_ (k:Nat):FnOK Tryz.prog 153 (q3q_ k):=by
 refine za_ (tab:=[(111,q2b_)]) (l:=[]) z7_ z9_ mix (List.forall_mem_cons.2 ⟨q2c_,(List.forall_mem_nil _)⟩) (List.forall_mem_nil _) ⟨⟨Tryz.f153,(z2_ Tryz.f153),[.tmp 2],(q3p_ k),by kernel_rfl,by kernel_rfl,by kernel_rfl,by kernel_rfl,rfl,by decide,⟨by kernel_rfl,?_,?_⟩,?_⟩⟩
 ·refine zf_ (n:=1) (by kernel_rfl) fun i hi=>?_
  match i,hi with
  | 0,_=>exact zd_ (by kernel_rfl) (q3r_ k)
  | n+1,hi=>omega
 ·exact z8_ (by kernel_rfl)
 ·rintro p0
  kernel_rfl
def z7r_ (k:Nat) (p0:Int):Option Bool:=(zk4_ k p0).bind fun r_1=>some r_1
def q3t_ (k:Nat):FE:=⟨(.int .i64),1,.bool,fun x=>z7r_ k x⟩
theorem q3u_ (k:Nat):FnOK Tryz.prog 106 (q3t_ k):=by
 refine za_ (tab:=[(153,q3q_ k)]) (l:=[]) z7_ z9_ mix (List.forall_mem_cons.2 ⟨q3s_ k,(List.forall_mem_nil _)⟩) (List.forall_mem_nil _) ⟨⟨Tryz.f106,(z2_ Tryz.f106),[.tmp 2],(LOn Bool),by kernel_rfl,by kernel_rfl,by kernel_rfl,by kernel_rfl,rfl,by decide,⟨by kernel_rfl,?_,?_⟩,?_⟩⟩
 ·exact ze_ (by kernel_rfl)
 ·exact z8_ (by kernel_rfl)
 ·rintro p0
  kernel_rfl
def zaa_ (k:Nat):Nat→(List Int)→Int→Int→Int→((List Int)→Int→Option Bool)→Option Bool
 | 0,_,_,_,_,_=>none
 | n+1,v0,n1,p2,i7,e_0=>(if (decide (i7<(List.length v0:Int)))=true then (if 0≤i7 then (v0[i7.toNat]?).bind fun y_1=>(z1q_ y_1 0 (z0_ (p2-1))).bind fun r_2=>(if (!r_2)=true then some false else zaa_ k n v0 n1 p2 (z0_ (i7+1)) e_0) else none) else e_0 v0 n1)
def z46_ (k:Nat) (v0:List Int) (n1:Int) (p2:Int):Option Bool:=zaa_ k k v0 n1 p2 0 (fun v_3 n_4=>some (decide ((List.length v_3:Int)=n_4)))
def q3v_:Head:=⟨[(0,(.val (.sl 2 (.int .i64)))),(1,(.val (.int .i64))),(2,(.val (.int .i64))),(7,(.val (.int .i64)))],[],[]⟩
def q3w_:Head:=⟨[(0,(.val (.sl 2 (.int .i64)))),(1,(.val (.int .i64)))],[],[]⟩
def q3x_ (k n:Nat) (x:q3v_.T) (kx:Nat→St→Option Bool):Option Bool:=zaa_ k n x.1.1 x.1.2.1 x.1.2.2.1 x.1.2.2.2.1 (fun (v0:List Int) (n1:Int)=>kx 0 (q3w_.fill ((v0,n1,()),(),())))
def q3y_ (k:Nat):Oracles Bool:=⟨fun n=>bif Nat.beq n 2 then some (fun σ kx=>q3v_.get σ fun x=>q3x_ k k x kx) else none,fun _=>none⟩
def q3z_ (k:Nat):FE:=⟨(.pr (.sl 2 (.int .i64)) (.pr (.int .i64) (.int .i64))),1,.bool,fun x=>z46_ k x.1 x.2.1 x.2.2⟩
theorem q40_ (k:Nat):zc_ (z3_ ti [(111,q2b_)] (lk []) z4_ z5_) (q3y_ k) (rdC (z3_ ti [(111,q2b_)] (lk []) z4_ z5_) [.tmp 6] .bool) ((zb_ (z2_ Tryz.f62)).getD 0 .skip) (fun σ kx=>q3v_.get σ fun x=>q3x_ k k x kx):=by
 refine ⟨q3v_,[(0,q3w_)],fun n x kx=>q3x_ k n x kx,k,by kernel_rfl,by kernel_rfl,fun x kx=>by kernel_rfl,?_,fun σ kx=>rfl⟩
 rintro n ⟨⟨v0,n1,p2,i7,⟨⟩⟩,⟨⟩,⟨⟩⟩ kx
 kernel_rfl
theorem q41_ (k:Nat):FnOK Tryz.prog 62 (q3z_ k):=by
 refine za_ (tab:=[(111,q2b_)]) (l:=[]) z7_ z9_ mix (List.forall_mem_cons.2 ⟨q2c_,(List.forall_mem_nil _)⟩) (List.forall_mem_nil _) ⟨⟨Tryz.f62,(z2_ Tryz.f62),[.tmp 6],(q3y_ k),by kernel_rfl,by kernel_rfl,by kernel_rfl,by kernel_rfl,rfl,by decide,⟨by kernel_rfl,?_,?_⟩,?_⟩⟩
 ·refine zf_ (n:=1) (by kernel_rfl) fun i hi=>?_
  match i,hi with
  | 0,_=>exact zd_ (by kernel_rfl) (q40_ k)
  | n+1,hi=>omega
 ·exact z8_ (by kernel_rfl)
 ·rintro ⟨v0,n1,p2⟩
  kernel_rfl
def z7s_ (k:Nat):Nat→zT4→Int→Int→(List Int)→((List Int)→Option (List Int))→Option (List Int)
 | 0,_,_,_,_,_=>none
 | n+1,c0,dimension1,i6,q_1,e_0=>(if (decide (i6<(List.length c0:Int)))=true then (if 0≤i6 then (c0[i6.toNat]?).bind fun y_2=>(if (decide ((List.length y_2:Int)=(z0_ (dimension1+1))))=true then (if (q_1.length+[i6].length)*8≤LIM then z7s_ k n c0 dimension1 (z0_ (i6+1)) (q_1++[i6]) e_0 else none) else z7s_ k n c0 dimension1 (z0_ (i6+1)) q_1 e_0) else none) else e_0 q_1)
def zab_ (k:Nat) (c0:List (List Int)) (dimension1:Int):Option (List Int):=z7s_ k k c0 dimension1 0 [] (fun q_3=>some q_3)
def q42_:Head:=⟨[(0,(.val (.ptr (.st (.sl 25 (.sl 2 (.int .i64))))))),(1,(.val (.int .i64))),(5,(.ref 64000000 [])),(6,(.val (.int .i64)))],[(64000000,2,(.int .i64),false)],[]⟩
def q43_:Head:=⟨[(5,(.ref 64000000 []))],[(64000000,2,(.int .i64),false)],[]⟩
def q44_ (k n:Nat) (x:q42_.T) (kx:Nat→St→Option (List Int)):Option (List Int):=z7s_ k n x.1.1 x.1.2.1 x.1.2.2.2.1 x.2.1.1 (fun (q_3:List Int)=>kx 0 (q43_.fill (((),()),(q_3,()),())))
def q45_ (k:Nat):Oracles (List Int):=⟨fun n=>bif Nat.beq n 3 then some (fun σ kx=>q42_.get σ fun x=>q44_ k k x kx) else none,fun _=>none⟩
def q46_ (k:Nat):FE:=⟨(.pr (.ptr (.st (.sl 25 (.sl 2 (.int .i64))))) (.int .i64)),1,(.sl 2 (.int .i64)),fun x=>zab_ k x.1 x.2⟩
theorem q47_ (k:Nat):zc_ (z3_ ti [] (lk []) z4_ z5_) (q45_ k) (rdC (z3_ ti [] (lk []) z4_ z5_) [.tmp 4] (.sl 2 (.int .i64))) ((zb_ (z2_ Tryz.f112)).getD 0 .skip) (fun σ kx=>q42_.get σ fun x=>q44_ k k x kx):=by
 refine ⟨q42_,[(0,q43_)],fun n x kx=>q44_ k n x kx,k,by kernel_rfl,by kernel_rfl,fun x kx=>by kernel_rfl,?_,fun σ kx=>rfl⟩
 rintro n ⟨⟨c0,dimension1,⟨⟩,i6,⟨⟩⟩,⟨q_1,⟨⟩⟩,⟨⟩⟩ kx
 kernel_rfl
theorem q48_ (k:Nat):FnOK Tryz.prog 112 (q46_ k):=by
 refine za_ (tab:=[]) (l:=[]) z7_ z9_ mix (List.forall_mem_nil _) (List.forall_mem_nil _) ⟨⟨Tryz.f112,(z2_ Tryz.f112),[.tmp 4],(q45_ k),by kernel_rfl,by kernel_rfl,by kernel_rfl,by kernel_rfl,rfl,by decide,⟨by kernel_rfl,?_,?_⟩,?_⟩⟩
 ·refine zf_ (n:=1) (by kernel_rfl) fun i hi=>?_
  match i,hi with
  | 0,_=>exact zd_ (by kernel_rfl) (q47_ k)
  | n+1,hi=>omega
 ·exact z8_ (by kernel_rfl)
 ·rintro ⟨c0,dimension1⟩
  kernel_rfl
def zac_ (k:Nat):Nat→(List Int)→Int→Int→(List Int)→(Int→Option Int)→Option Int
 | 0,_,_,_,_,_=>none
 | n+1,stalks1,sum8,i9,q_2,e_0=>(if (decide (i9<(List.length q_2:Int)))=true then (if 0≤i9∧i9.toNat<List.length q_2 then (q_2[i9.toNat]?).bind fun y_3=>(if 0≤y_3 then (stalks1[y_3.toNat]?).bind fun y_4=>zac_ k n stalks1 (z0_ (sum8+y_4)) (z0_ (i9+1)) q_2 e_0 else none) else none) else e_0 sum8)
def z6i_ (k:Nat) (c0:List (List Int)) (stalks1:List Int) (k2:Int):Option Int:=(zab_ k c0 k2).bind fun r_1=>zac_ k k stalks1 0 0 r_1 (fun sum_5=>some sum_5)
def q49_:Head:=⟨[(1,(.val (.sl 2 (.int .i64)))),(7,(.ref 64000000 [])),(8,(.val (.int .i64))),(9,(.val (.int .i64)))],[(64000000,2,(.int .i64),false)],[]⟩
def q4a_:Head:=⟨[(8,(.val (.int .i64)))],[],[]⟩
def q4b_ (k n:Nat) (x:q49_.T) (kx:Nat→St→Option Int):Option Int:=zac_ k n x.1.1 x.1.2.2.1 x.1.2.2.2.1 x.2.1.1 (fun (sum8:Int)=>kx 0 (q4a_.fill ((sum8,()),(),())))
def q4c_ (k:Nat):Oracles Int:=⟨fun n=>bif Nat.beq n 4 then some (fun σ kx=>q49_.get σ fun x=>q4b_ k k x kx) else none,fun _=>none⟩
def q4d_ (k:Nat):FE:=⟨(.pr (.ptr (.st (.sl 25 (.sl 2 (.int .i64))))) (.pr (.sl 2 (.int .i64)) (.int .i64))),1,(.int .i64),fun x=>z6i_ k x.1 x.2.1 x.2.2⟩
theorem q4e_ (k:Nat):zc_ (z3_ ti [(112,q46_ k)] (lk []) z4_ z5_) (q4c_ k) (rdC (z3_ ti [(112,q46_ k)] (lk []) z4_ z5_) [.tmp 6] (.int .i64)) ((zb_ (z2_ Tryz.f63)).getD 0 .skip) (fun σ kx=>q49_.get σ fun x=>q4b_ k k x kx):=by
 refine ⟨q49_,[(0,q4a_)],fun n x kx=>q4b_ k n x kx,k,by kernel_rfl,by kernel_rfl,fun x kx=>by kernel_rfl,?_,fun σ kx=>rfl⟩
 rintro n ⟨⟨stalks1,⟨⟩,sum8,i9,⟨⟩⟩,⟨q_2,⟨⟩⟩,⟨⟩⟩ kx
 kernel_rfl
theorem q4f_ (k:Nat):FnOK Tryz.prog 63 (q4d_ k):=by
 refine za_ (tab:=[(112,q46_ k)]) (l:=[]) z7_ z9_ mix (List.forall_mem_cons.2 ⟨q48_ k,(List.forall_mem_nil _)⟩) (List.forall_mem_nil _) ⟨⟨Tryz.f63,(z2_ Tryz.f63),[.tmp 6],(q4c_ k),by kernel_rfl,by kernel_rfl,by kernel_rfl,by kernel_rfl,rfl,by decide,⟨by kernel_rfl,?_,?_⟩,?_⟩⟩
 ·refine zf_ (n:=1) (by kernel_rfl) fun i hi=>?_
  match i,hi with
  | 0,_=>exact zd_ (by kernel_rfl) (q4e_ k)
  | n+1,hi=>omega
 ·exact z8_ (by kernel_rfl)
 ·rintro ⟨c0,stalks1,k2⟩
  kernel_rfl
def zad_ (k:Nat):Nat→zT4→(List Int)→Int→(Option Bool)→Option Bool
 | 0,_,_,_,_=>none
 | n+1,c0,stalks1,k5,e_0=>(if (decide (k5≤3))=true then (z6i_ k c0 stalks1 k5).bind fun r_2=>(if (decide (32<r_2))=true then some false else zad_ k n c0 stalks1 (z0_ (k5+1)) e_0) else e_0)
def zgk_ (k:Nat) (c0:List (List Int)) (stalks1:List Int):Option Bool:=(z46_ k stalks1 (List.length c0:Int) 4).bind fun r_1=>(if (!r_1)=true then some false else zad_ k k c0 stalks1 0 (some true))
def q4g_:Head:=⟨[(0,(.val (.ptr (.st (.sl 25 (.sl 2 (.int .i64))))))),(1,(.val (.sl 2 (.int .i64)))),(5,(.val (.int .i64)))],[],[]⟩
def q4h_:Head:=⟨[],[],[]⟩
def q4i_ (k n:Nat) (x:q4g_.T) (kx:Nat→St→Option Bool):Option Bool:=zad_ k n x.1.1 x.1.2.1 x.1.2.2.1 (kx 0 (q4h_.fill ((),(),())))
def q4j_ (k:Nat):Oracles Bool:=⟨fun n=>bif Nat.beq n 4 then some (fun σ kx=>q4g_.get σ fun x=>q4i_ k k x kx) else none,fun _=>none⟩
def q4k_ (k:Nat):FE:=⟨(.pr (.ptr (.st (.sl 25 (.sl 2 (.int .i64))))) (.sl 2 (.int .i64))),1,.bool,fun x=>zgk_ k x.1 x.2⟩
theorem q4l_ (k:Nat):zc_ (z3_ ti [(62,q3z_ k),(63,q4d_ k)] (lk []) z4_ z5_) (q4j_ k) (rdC (z3_ ti [(62,q3z_ k),(63,q4d_ k)] (lk []) z4_ z5_) [.tmp 4] .bool) ((zb_ (z2_ Tryz.f107)).getD 0 .skip) (fun σ kx=>q4g_.get σ fun x=>q4i_ k k x kx):=by
 refine ⟨q4g_,[(0,q4h_)],fun n x kx=>q4i_ k n x kx,k,by kernel_rfl,by kernel_rfl,fun x kx=>by kernel_rfl,?_,fun σ kx=>rfl⟩
 rintro n ⟨⟨c0,stalks1,k5,⟨⟩⟩,⟨⟩,⟨⟩⟩ kx
 kernel_rfl
theorem q4m_ (k:Nat):FnOK Tryz.prog 107 (q4k_ k):=by
 refine za_ (tab:=[(62,q3z_ k),(63,q4d_ k)]) (l:=[]) z7_ z9_ mix (List.forall_mem_cons.2 ⟨q41_ k,(List.forall_mem_cons.2 ⟨q4f_ k,(List.forall_mem_nil _)⟩)⟩) (List.forall_mem_nil _) ⟨⟨Tryz.f107,(z2_ Tryz.f107),[.tmp 4],(q4j_ k),by kernel_rfl,by kernel_rfl,by kernel_rfl,by kernel_rfl,rfl,by decide,⟨by kernel_rfl,?_,?_⟩,?_⟩⟩
 ·refine zf_ (n:=1) (by kernel_rfl) fun i hi=>?_
  match i,hi with
  | 0,_=>exact zd_ (by kernel_rfl) (q4l_ k)
  | n+1,hi=>omega
 ·exact z8_ (by kernel_rfl)
 ·rintro ⟨c0,stalks1⟩
  kernel_rfl
def z7t_ (k:Nat):Nat→zT4→Int→Int→Int→Int→(Int→Int→Option Int)→Option Int
 | 0,_,_,_,_,_,_=>none
 | n+1,c0,simplex1,i2,at7,k8,e_0=>(if (decide (k8<simplex1))=true then (if 0≤k8 then (c0[k8.toNat]?).bind fun y_1=>(if (decide (1<(List.length y_1:Int)))=true then (if 0≤k8 then (c0[k8.toNat]?).bind fun y_2=>z7t_ k n c0 simplex1 i2 (z0_ (at7+(List.length y_2:Int))) (z0_ (k8+1)) e_0 else none) else z7t_ k n c0 simplex1 i2 at7 (z0_ (k8+1)) e_0) else none) else e_0 i2 at7)
def zae_ (k:Nat) (c0:List (List Int)) (simplex1:Int) (i2:Int):Option Int:=z7t_ k k c0 simplex1 i2 0 0 (fun i_3 at_4=>some (z0_ (at_4+i_3)))
def q4n_:Head:=⟨[(0,(.val (.ptr (.st (.sl 25 (.sl 2 (.int .i64))))))),(1,(.val (.int .i64))),(2,(.val (.int .i64))),(7,(.val (.int .i64))),(8,(.val (.int .i64)))],[],[]⟩
def q4o_:Head:=⟨[(2,(.val (.int .i64))),(7,(.val (.int .i64)))],[],[]⟩
def q4p_ (k n:Nat) (x:q4n_.T) (kx:Nat→St→Option Int):Option Int:=z7t_ k n x.1.1 x.1.2.1 x.1.2.2.1 x.1.2.2.2.1 x.1.2.2.2.2.1 (fun (i2:Int) (at7:Int)=>kx 0 (q4o_.fill ((i2,at7,()),(),())))
def q4q_ (k:Nat):Oracles Int:=⟨fun n=>bif Nat.beq n 3 then some (fun σ kx=>q4n_.get σ fun x=>q4p_ k k x kx) else none,fun _=>none⟩
def q4r_ (k:Nat):FE:=⟨(.pr (.ptr (.st (.sl 25 (.sl 2 (.int .i64))))) (.pr (.int .i64) (.int .i64))),1,(.int .i64),fun x=>zae_ k x.1 x.2.1 x.2.2⟩
theorem q4s_ (k:Nat):zc_ (z3_ ti [] (lk []) z4_ z5_) (q4q_ k) (rdC (z3_ ti [] (lk []) z4_ z5_) [.tmp 6] (.int .i64)) ((zb_ (z2_ Tryz.f110)).getD 0 .skip) (fun σ kx=>q4n_.get σ fun x=>q4p_ k k x kx):=by
 refine ⟨q4n_,[(0,q4o_)],fun n x kx=>q4p_ k n x kx,k,by kernel_rfl,by kernel_rfl,fun x kx=>by kernel_rfl,?_,fun σ kx=>rfl⟩
 rintro n ⟨⟨c0,simplex1,i2,at7,k8,⟨⟩⟩,⟨⟩,⟨⟩⟩ kx
 kernel_rfl
theorem q4t_ (k:Nat):FnOK Tryz.prog 110 (q4r_ k):=by
 refine za_ (tab:=[]) (l:=[]) z7_ z9_ mix (List.forall_mem_nil _) (List.forall_mem_nil _) ⟨⟨Tryz.f110,(z2_ Tryz.f110),[.tmp 6],(q4q_ k),by kernel_rfl,by kernel_rfl,by kernel_rfl,by kernel_rfl,rfl,by decide,⟨by kernel_rfl,?_,?_⟩,?_⟩⟩
 ·refine zf_ (n:=1) (by kernel_rfl) fun i hi=>?_
  match i,hi with
  | 0,_=>exact zd_ (by kernel_rfl) (q4s_ k)
  | n+1,hi=>omega
 ·exact z8_ (by kernel_rfl)
 ·rintro ⟨c0,simplex1,i2⟩
  kernel_rfl
end
end Go.Proofs.YtioaaljaohhjiaaGreatDoor.Ev
