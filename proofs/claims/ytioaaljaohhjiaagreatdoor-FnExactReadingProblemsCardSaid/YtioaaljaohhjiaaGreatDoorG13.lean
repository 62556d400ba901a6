/- Functions of the program, as plain ones. No conditions. -/
import Derived.Test.YtioaaljaohhjiaaGreatDoorG12
import Derived.KernelRfl
set_option linter.unusedVariables false
set_option maxRecDepth 100000
namespace Go.Proofs.YtioaaljaohhjiaaGreatDoor.Ev
open Go.RowKit
noncomputable section
def zfo_ (k:Nat) (list0:List Int):Option Bool:=(zju_ k list0 ()).bind fun r_1=>some (!r_1)
def qkk_ (k:Nat):FE:=⟨(.sl 2 (.int .i64)),1,.bool,fun x=>zfo_ k x⟩
theorem qkl_ (k:Nat):FnOK Tryz.prog 93 (qkk_ k):=by
 refine za_ (tab:=[(95,qki_ k)]) (l:=[]) z7_ z9_ mix (List.forall_mem_cons.2 ⟨qkj_ k,(List.forall_mem_nil _)⟩) (List.forall_mem_nil _) ⟨⟨Tryz.f93,(z2_ Tryz.f93),[.tmp 2],(LOn Bool),by kernel_rfl,by kernel_rfl,by kernel_rfl,by kernel_rfl,rfl,by decide,⟨by kernel_rfl,?_,?_⟩,?_⟩⟩
 ·exact ze_ (by kernel_rfl)
 ·exact z8_ (by kernel_rfl)
 ·rintro list0
  kernel_rfl
def z7l_ (k:Nat):Nat→Int→Int→(List Int)→(List Int)→(List Int)→zT0→((List Int)→Option (List Int))→Option (List Int)
 | 0,_,_,_,_,_,_,_=>none
 | n+1,x16,x17,q_4,q_5,q_6,v_2,e_0=>(if (decide (x17<x16))=true then (if 0≤x17∧x17.toNat<List.length q_6 then (q_6[x17.toNat]?).bind fun y_7=>(zfn_ k v_2 q_4 y_7).bind fun r_8=>(zfo_ k r_8).bind fun r_9=>(if (!r_9)=true then (if (q_5.length+[y_7].length)*8≤LIM then z7l_ k n x16 (z0_ (x17+1)) q_4 (q_5++[y_7]) q_6 v_2 e_0 else none) else z7l_ k n x16 (z0_ (x17+1)) q_4 q_5 q_6 v_2 e_0) else none) else e_0 q_5)
def zc9_ (k:Nat) (s0:List (List Int)×Int×List Int×List (Int×Int×Int×List Int)) (x1:List Int):Option (List Int):=(zfi_ k s0 0).bind fun r_1=>(zfl_ k (r_1.1,(r_1.2.1,(r_1.2.2.1,r_1.2.2.2))) x1).bind fun r_2=>(z7j_ k s0.1 1).bind fun r_3=>z7l_ k k (List.length r_3:Int) 0 r_2 [] r_3 s0 (fun q_10=>some q_10)
def qkm_:Head:=⟨[(2,(.bp 2 [] 0)),(5,(.ref 64000000 [])),(6,(.ref 64000001 [])),(15,(.ref 64000002 [])),(16,(.val (.int .i64))),(17,(.val (.int .i64)))],[(64000000,2,(.int .i64),false),(64000001,2,(.int .i64),false),(64000002,2,(.int .i64),false)],[(2,44,(.val (.st (.pr (.st (.sl 25 (.sl 2 (.int .i64)))) (.pr (.int .i64) (.pr (.sl 2 (.int .i64)) (.sl 135 (.st (.pr (.int .i64) (.pr (.int .i64) (.pr (.int .i64) (.sl 2 (.int .i64)))))))))))))]⟩
def qkn_:Head:=⟨[(6,(.ref 64000000 []))],[(64000000,2,(.int .i64),false)],[]⟩
def qko_ (k n:Nat) (x:qkm_.T) (kx:Nat→St→Option (List Int)):Option (List Int):=z7l_ k n x.1.2.2.2.2.1 x.1.2.2.2.2.2.1 x.2.1.1 x.2.1.2.1 x.2.1.2.2.1 x.2.2.1 (fun (q_10:List Int)=>kx 0 (qkn_.fill (((),()),(q_10,()),())))
def qkp_ (k:Nat):Oracles (List Int):=⟨fun n=>bif Nat.beq n 4 then some (fun σ kx=>qkm_.get σ fun x=>qko_ k k x kx) else none,fun _=>none⟩
def qkq_ (k:Nat):FE:=⟨(.pr (.st (.pr (.st (.sl 25 (.sl 2 (.int .i64)))) (.pr (.int .i64) (.pr (.sl 2 (.int .i64)) (.sl 135 (.st (.pr (.int .i64) (.pr (.int .i64) (.pr (.int .i64) (.sl 2 (.int .i64))))))))))) (.sl 2 (.int .i64))),1,(.sl 2 (.int .i64)),fun x=>zc9_ k x.1 x.2⟩
theorem qkr_ (k:Nat):zc_ (z3_ ti [(91,qjj_ k),(90,qk2_ k),(92,qfs_ k),(94,qk7_ k),(93,qkk_ k)] (lk []) z4_ z5_) (qkp_ k) (rdC (z3_ ti [(91,qjj_ k),(90,qk2_ k),(92,qfs_ k),(94,qk7_ k),(93,qkk_ k)] (lk []) z4_ z5_) [.tmp 4] (.sl 2 (.int .i64))) ((zb_ (z2_ Tryz.f48)).getD 0 .skip) (fun σ kx=>qkm_.get σ fun x=>qko_ k k x kx):=by
 refine ⟨qkm_,[(0,qkn_)],fun n x kx=>qko_ k n x kx,k,by kernel_rfl,by kernel_rfl,fun x kx=>by kernel_rfl,?_,fun σ kx=>rfl⟩
 rintro n ⟨⟨⟨⟩,⟨⟩,⟨⟩,⟨⟩,x16,x17,⟨⟩⟩,⟨q_4,q_5,q_6,⟨⟩⟩,⟨v_2,⟨⟩⟩⟩ kx
 kernel_rfl
theorem qks_ (k:Nat):FnOK Tryz.prog 48 (qkq_ k):=by
 refine za_ (tab:=[(91,qjj_ k),(90,qk2_ k),(92,qfs_ k),(94,qk7_ k),(93,qkk_ k)]) (l:=[]) z7_ z9_ mix (List.forall_mem_cons.2 ⟨qjo_ k,(List.forall_mem_cons.2 ⟨qk4_ k,(List.forall_mem_cons.2 ⟨qfu_ k,(List.forall_mem_cons.2 ⟨qk8_ k,(List.forall_mem_cons.2 ⟨qkl_ k,(List.forall_mem_nil _)⟩)⟩)⟩)⟩)⟩) (List.forall_mem_nil _) ⟨⟨Tryz.f48,(z2_ Tryz.f48),[.tmp 4],(qkp_ k),by kernel_rfl,by kernel_rfl,by kernel_rfl,by kernel_rfl,rfl,by decide,⟨by kernel_rfl,?_,?_⟩,?_⟩⟩
 ·refine zf_ (n:=1) (by kernel_rfl) fun i hi=>?_
  match i,hi with
  | 0,_=>exact zd_ (by kernel_rfl) (qkr_ k)
  | n+1,hi=>omega
 ·exact z8_ (by kernel_rfl)
 ·rintro ⟨s0,x1⟩
  kernel_rfl
def zjv_ (n0:Int):Option Bool:=(z2e_ n0 (-1000000000000) 1000000000000).bind fun r_1=>some r_1
def qkt_:FE:=⟨(.int .i64),1,.bool,fun x=>zjv_ x⟩
theorem qku_:FnOK Tryz.prog 97 (qkt_):=by
 refine za_ (tab:=[(129,qco_)]) (l:=[]) z7_ z9_ mix (List.forall_mem_cons.2 ⟨qcp_,(List.forall_mem_nil _)⟩) (List.forall_mem_nil _) ⟨⟨Tryz.f97,(z2_ Tryz.f97),[.tmp 2],(LOn Bool),by kernel_rfl,by kernel_rfl,by kernel_rfl,by kernel_rfl,rfl,by decide,⟨by kernel_rfl,?_,?_⟩,?_⟩⟩
 ·exact ze_ (by kernel_rfl)
 ·exact z8_ (by kernel_rfl)
 ·rintro n0
  kernel_rfl
def zjw_ (n0:Int):Option Bool:=(zjv_ n0).bind fun r_1=>some (!r_1)
def qkv_:FE:=⟨(.int .i64),1,.bool,fun x=>zjw_ x⟩
theorem qkw_:FnOK Tryz.prog 96 (qkv_):=by
 refine za_ (tab:=[(97,qkt_)]) (l:=[]) z7_ z9_ mix (List.forall_mem_cons.2 ⟨qku_,(List.forall_mem_nil _)⟩) (List.forall_mem_nil _) ⟨⟨Tryz.f96,(z2_ Tryz.f96),[.tmp 2],(LOn Bool),by kernel_rfl,by kernel_rfl,by kernel_rfl,by kernel_rfl,rfl,by decide,⟨by kernel_rfl,?_,?_⟩,?_⟩⟩
 ·exact ze_ (by kernel_rfl)
 ·exact z8_ (by kernel_rfl)
 ·rintro n0
  kernel_rfl
def z9o_ (k:Nat):Nat→(List Int)→Unit→Int→Int→(Option Int)→Option Int
 | 0,_,_,_,_,_=>none
 | n+1,s0,f1,x7,x8,e_0=>(if (decide (x8<x7))=true then (if 0≤x8 then (s0[x8.toNat]?).bind fun y_1=>(zjw_ y_1).bind fun r_2=>(if r_2=true then some x8 else z9o_ k n s0 f1 x7 (z0_ (x8+1)) e_0) else none) else e_0)
def zjx_ (k:Nat) (s0:List Int) (f1:Unit):Option Int:=z9o_ k k s0 f1 (List.length s0:Int) 0 (some (-1))
def qkx_:Head:=⟨[(0,(.val (.sl 2 (.int .i64)))),(1,(.val (.fn 96 .un))),(7,(.val (.int .i64))),(8,(.val (.int .i64)))],[],[]⟩
def qky_:Head:=⟨[],[],[]⟩
def qkz_ (k n:Nat) (x:qkx_.T) (kx:Nat→St→Option Int):Option Int:=z9o_ k n x.1.1 x.1.2.1 x.1.2.2.1 x.1.2.2.2.1 (kx 0 (qky_.fill ((),(),())))
def ql0_ (k:Nat):Oracles Int:=⟨fun n=>bif Nat.beq n 2 then some (fun σ kx=>qkx_.get σ fun x=>qkz_ k k x kx) else none,fun _=>none⟩
def ql1_ (k:Nat):FE:=⟨(.pr (.sl 2 (.int .i64)) (.fn 96 .un)),1,(.int .i64),fun x=>zjx_ k x.1 x.2⟩
theorem ql2_ (k:Nat):zc_ (z3_ ti [(96,qkv_)] (lk []) z4_ z5_) (ql0_ k) (rdC (z3_ ti [(96,qkv_)] (lk []) z4_ z5_) [.tmp 4] (.int .i64)) ((zb_ (z2_ Tryz.f145)).getD 0 .skip) (fun σ kx=>qkx_.get σ fun x=>qkz_ k k x kx):=by
 refine ⟨qkx_,[(0,qky_)],fun n x kx=>qkz_ k n x kx,k,by kernel_rfl,by kernel_rfl,fun x kx=>by kernel_rfl,?_,fun σ kx=>rfl⟩
 rintro n ⟨⟨s0,f1,x7,x8,⟨⟩⟩,⟨⟩,⟨⟩⟩ kx
 kernel_rfl
theorem ql3_ (k:Nat):FnOK Tryz.prog 145 (ql1_ k):=by
 refine za_ (tab:=[(96,qkv_)]) (l:=[]) z7_ z9_ mix (List.forall_mem_cons.2 ⟨qkw_,(List.forall_mem_nil _)⟩) (List.forall_mem_nil _) ⟨⟨Tryz.f145,(z2_ Tryz.f145),[.tmp 4],(ql0_ k),by kernel_rfl,by kernel_rfl,by kernel_rfl,by kernel_rfl,rfl,by decide,⟨by kernel_rfl,?_,?_⟩,?_⟩⟩
 ·refine zf_ (n:=1) (by kernel_rfl) fun i hi=>?_
  match i,hi with
  | 0,_=>exact zd_ (by kernel_rfl) (ql2_ k)
  | n+1,hi=>omega
 ·exact z8_ (by kernel_rfl)
 ·rintro ⟨s0,f1⟩
  kernel_rfl
def zfp_ (k:Nat) (s0:List Int) (f1:Unit):Option Bool:=(zjx_ k s0 f1).bind fun r_1=>some (decide (0≤r_1))
def ql4_ (k:Nat):FE:=⟨(.pr (.sl 2 (.int .i64)) (.fn 96 .un)),1,.bool,fun x=>zfp_ k x.1 x.2⟩
theorem ql5_ (k:Nat):FnOK Tryz.prog 95 (ql4_ k):=by
 refine za_ (tab:=[(145,ql1_ k)]) (l:=[]) z7_ z9_ mix (List.forall_mem_cons.2 ⟨ql3_ k,(List.forall_mem_nil _)⟩) (List.forall_mem_nil _) ⟨⟨Tryz.f95,(z2_ Tryz.f95),[.tmp 4],(LOn Bool),by kernel_rfl,by kernel_rfl,by kernel_rfl,by kernel_rfl,rfl,by decide,⟨by kernel_rfl,?_,?_⟩,?_⟩⟩
 ·exact ze_ (by kernel_rfl)
 ·exact z8_ (by kernel_rfl)
 ·rintro ⟨s0,f1⟩
  kernel_rfl
def zot_ (n:Int) (b:Int):Option (List UInt8):=if b=10 ∧ -9223372036854775808≤n∧n≤9223372036854775807 then some (Lib.itoa n) else none
abbrev ql6_:FE:=fe_formatInt
theorem ql7_:FnOK Tryz.prog 146 ql6_:=zv4_ (fn:=Tryz.f146) (cd:=z2_ Tryz.f146) (by kernel_rfl) (by kernel_rfl) (by kernel_rfl) (fun n h0 h1 w hG=>Go.Proofs.Tryz.strconv_FormatInt_10 n h0 h1 w hG)
def zfq_ (n0:Int):Option (List UInt8):=(zot_ n0 10).bind fun r_1=>some r_1
def ql8_:FE:=⟨(.int .i64),1,.str,fun x=>zfq_ x⟩
theorem ql9_:FnOK Tryz.prog 98 (ql8_):=by
 refine za_ (tab:=[(146,ql6_)]) (l:=[]) z7_ z9_ mix (List.forall_mem_cons.2 ⟨ql7_,(List.forall_mem_nil _)⟩) (List.forall_mem_nil _) ⟨⟨Tryz.f98,(z2_ Tryz.f98),[.tmp 2],(LOn (List UInt8)),by kernel_rfl,by kernel_rfl,by kernel_rfl,by kernel_rfl,rfl,by decide,⟨by kernel_rfl,?_,?_⟩,?_⟩⟩
 ·exact ze_ (by kernel_rfl)
 ·exact z8_ (by kernel_rfl)
 ·rintro n0
  kernel_rfl
def zjy_ (sep1:List UInt8) (q_1:List (List UInt8)):Option ((List UInt8×Unit)×(List (List UInt8)×Unit)×Unit):=if List.length q_1≤LIM∧(Lib.join q_1 sep1).length≤LIM then some ((Lib.join q_1 sep1,()),(q_1,()),()) else none
def qla_:OC:=zc2_ 9
theorem qlb_:z12_ Tryz.prog ti 99 qla_:=zv5_ (fn:=Tryz.f99) (cd:=z2_ Tryz.f99) (by kernel_rfl) (by kernel_rfl) (by kernel_rfl) (fun bk o c xs sep w h1 h2 h3 h4 h5=>Go.Proofs.Tryz.strings_Join bk o c xs sep w h1 h2 h3 h4 h5) (fun a c sep w=>Go.Proofs.Tryz.strings_Join_none a c sep w)
def z9p_ (k:Nat):Nat→(List Int)→Int→Int→(List (List UInt8))→((List (List UInt8))→Option (List UInt8))→Option (List UInt8)
 | 0,_,_,_,_,_=>none
 | n+1,x16,x17,x18,q_2,e_0=>(if (decide (x18<x17))=true then (if 0≤x18 then (x16[x18.toNat]?).bind fun y_3=>(zfq_ y_3).bind fun r_4=>(if (q_2.length+[r_4].length)*16≤LIM then z9p_ k n x16 x17 (z0_ (x18+1)) (q_2++[r_4]) e_0 else none) else none) else e_0 q_2)
def zfr_ (k:Nat) (list0:List Int):Option (List UInt8):=(if (decide (64<(List.length list0:Int)))=true then some [] else (zfp_ k list0 ()).bind fun r_1=>(if r_1=true then some [] else (if (decide ((List.length list0:Int)=0))=true then some [45] else z9p_ k k list0 (List.length list0:Int) 0 [] (fun q_5=>(zjy_ [44] q_5).bind fun y_6=>some y_6.1.1))))
def qlc_:Head:=⟨[(3,(.ref 64000000 [])),(16,(.val (.sl 2 (.int .i64)))),(17,(.val (.int .i64))),(18,(.val (.int .i64)))],[(64000000,9,.str,false)],[]⟩
def qld_:Head:=⟨[(3,(.ref 64000000 []))],[(64000000,9,.str,false)],[]⟩
def qle_ (k n:Nat) (x:qlc_.T) (kx:Nat→St→Option (List UInt8)):Option (List UInt8):=z9p_ k n x.1.2.1 x.1.2.2.1 x.1.2.2.2.1 x.2.1.1 (fun (q_5:List (List UInt8))=>kx 0 (qld_.fill (((),()),(q_5,()),())))
def qlf_ (k:Nat):Oracles (List UInt8):=⟨fun n=>bif Nat.beq n 7 then some (fun σ kx=>qlc_.get σ fun x=>qle_ k k x kx) else none,fun _=>none⟩
def qlg_ (k:Nat):FE:=⟨(.sl 2 (.int .i64)),1,.str,fun x=>zfr_ k x⟩
theorem qlh_ (k:Nat):zc_ (z3_ ti [(95,ql4_ k),(98,ql8_)] (lk [(29,99,qla_)]) z4_ z5_) (qlf_ k) (rdC (z3_ ti [(95,ql4_ k),(98,ql8_)] (lk [(29,99,qla_)]) z4_ z5_) [.tmp 2] .str) ((zb_ (z2_ Tryz.f49)).getD 0 .skip) (fun σ kx=>qlc_.get σ fun x=>qle_ k k x kx):=by
 refine ⟨qlc_,[(0,qld_)],fun n x kx=>qle_ k n x kx,k,by kernel_rfl,by kernel_rfl,fun x kx=>by kernel_rfl,?_,fun σ kx=>rfl⟩
 rintro n ⟨⟨⟨⟩,x16,x17,x18,⟨⟩⟩,⟨q_2,⟨⟩⟩,⟨⟩⟩ kx
 kernel_rfl
theorem qli_ (k:Nat):FnOK Tryz.prog 49 (qlg_ k):=by
 refine za_ (tab:=[(95,ql4_ k),(98,ql8_)]) (l:=[(29,99,qla_)]) z7_ z9_ mix (List.forall_mem_cons.2 ⟨ql5_ k,(List.forall_mem_cons.2 ⟨ql9_,(List.forall_mem_nil _)⟩)⟩) (List.forall_mem_cons.2 ⟨qlb_,(List.forall_mem_nil _)⟩) ⟨⟨Tryz.f49,(z2_ Tryz.f49),[.tmp 2],(qlf_ k),by kernel_rfl,by kernel_rfl,by kernel_rfl,by kernel_rfl,rfl,by decide,⟨by kernel_rfl,?_,?_⟩,?_⟩⟩
 ·refine zf_ (n:=1) (by kernel_rfl) fun i hi=>?_
  match i,hi with
  | 0,_=>exact zd_ (by kernel_rfl) (qlh_ k)
  | n+1,hi=>omega
 ·exact z8_ (by kernel_rfl)
 ·rintro list0
  kernel_rfl
def z9q_ (k:Nat):Nat→Int→Int→zT1→(List Int)→(zT0×Int×List Int×List Int×(Int×Int×Int×List (Int×Int×Int))×List Int×List Int×(Int×Int×List (Int×Int×Int))×List Int)→(zT1→Option zT1)→Option zT1
 | 0,_,_,_,_,_,_=>none
 | n+1,x11,x12,q_2,q_3,v_1,e_0=>(if (decide (x12<x11))=true then (if 0≤x12∧x12.toNat<List.length q_3 then (q_3[x12.toNat]?).bind fun y_4=>(if 0≤y_4 then (v_1.1.1[y_4.toNat]?).bind fun y_5=>(zfr_ k y_5).bind fun r_6=>(if (q_2.length+[(3,(r_6,[100,105,115,97,103,114,101,101]))].length)*40≤LIM then z9q_ k n x11 (z0_ (x12+1)) (q_2++[(3,(r_6,[100,105,115,97,103,114,101,101]))]) q_3 v_1 e_0 else none) else none) else none) else e_0 q_2)
def zfs_ (k:Nat) (w0:zT0×Int×List Int×List Int×(Int×Int×Int×List (Int×Int×Int))×List Int×List Int×(Int×Int×List (Int×Int×Int))×List Int):Option zT1:=(zc9_ k w0.1 w0.2.2.2.1).bind fun r_1=>z9q_ k k (List.length r_1:Int) 0 [] r_1 w0 (fun q_7=>some q_7)
def qlj_:Head:=⟨[(1,(.bp 1 [] 0)),(3,(.ref 64000000 [])),(10,(.ref 64000001 [])),(11,(.val (.int .i64))),(12,(.val (.int .i64)))],[(64000000,73,(.st (.pr (.int .i64) (.pr .str .str))),false),(64000001,2,(.int .i64),false)],[(1,52,(.val (.st (.pr (.st (.pr (.st (.sl 25 (.sl 2 (.int .i64)))) (.pr (.int .i64) (.pr (.sl 2 (.int .i64)) (.sl 135 (.st (.pr (.int .i64) (.pr (.int .i64) (.pr (.int .i64) (.sl 2 (.int .i64))))))))))) (.pr (.int .i64) (.pr (.sl 2 (.int .i64)) (.pr (.sl 2 (.int .i64)) (.pr (.st (.pr (.int .i64) (.pr (.int .i64) (.pr (.int .i64) (.sl 138 (.st (.pr (.int .i64) (.pr (.int .i64) (.int .i64))))))))) (.pr (.sl 2 (.int .i64)) (.pr (.sl 2 (.int .i64)) (.pr (.st (.pr (.int .i64) (.pr (.int .i64) (.sl 133 (.st (.pr (.int .i64) (.pr (.int .i64) (.int .i64)))))))) (.sl 2 (.int .i64)))))))))))))]⟩
def qlk_:Head:=⟨[(3,(.ref 64000000 []))],[(64000000,73,(.st (.pr (.int .i64) (.pr .str .str))),false)],[]⟩
def qll_ (k n:Nat) (x:qlj_.T) (kx:Nat→St→Option zT1):Option zT1:=z9q_ k n x.1.2.2.2.1 x.1.2.2.2.2.1 x.2.1.1 x.2.1.2.1 x.2.2.1 (fun (q_7:List (Int×List UInt8×List UInt8))=>kx 0 (qlk_.fill (((),()),(q_7,()),())))
def qlm_ (k:Nat):Oracles zT1:=⟨fun n=>bif Nat.beq n 3 then some (fun σ kx=>qlj_.get σ fun x=>qll_ k k x kx) else none,fun _=>none⟩
def qln_ (k:Nat):FE:=⟨(.st (.pr (.st (.pr (.st (.sl 25 (.sl 2 (.int .i64)))) (.pr (.int .i64) (.pr (.sl 2 (.int .i64)) (.sl 135 (.st (.pr (.int .i64) (.pr (.int .i64) (.pr (.int .i64) (.sl 2 (.int .i64))))))))))) (.pr (.int .i64) (.pr (.sl 2 (.int .i64)) (.pr (.sl 2 (.int .i64)) (.pr (.st (.pr (.int .i64) (.pr (.int .i64) (.pr (.int .i64) (.sl 138 (.st (.pr (.int .i64) (.pr (.int .i64) (.int .i64))))))))) (.pr (.sl 2 (.int .i64)) (.pr (.sl 2 (.int .i64)) (.pr (.st (.pr (.int .i64) (.pr (.int .i64) (.sl 133 (.st (.pr (.int .i64) (.pr (.int .i64) (.int .i64)))))))) (.sl 2 (.int .i64))))))))))),1,(.sl 73 (.st (.pr (.int .i64) (.pr .str .str)))),fun x=>zfs_ k x⟩
theorem qlo_ (k:Nat):zc_ (z3_ ti [(48,qkq_ k),(49,qlg_ k)] (lk []) z4_ z5_) (qlm_ k) (rdC (z3_ ti [(48,qkq_ k),(49,qlg_ k)] (lk []) z4_ z5_) [.tmp 2] (.sl 73 (.st (.pr (.int .i64) (.pr .str .str))))) ((zb_ (z2_ Tryz.f23)).getD 0 .skip) (fun σ kx=>qlj_.get σ fun x=>qll_ k k x kx):=by
 refine ⟨qlj_,[(0,qlk_)],fun n x kx=>qll_ k n x kx,k,by kernel_rfl,by kernel_rfl,fun x kx=>by kernel_rfl,?_,fun σ kx=>rfl⟩
 rintro n ⟨⟨⟨⟩,⟨⟩,⟨⟩,x11,x12,⟨⟩⟩,⟨q_2,q_3,⟨⟩⟩,⟨v_1,⟨⟩⟩⟩ kx
 kernel_rfl
theorem qlp_ (k:Nat):FnOK Tryz.prog 23 (qln_ k):=by
 refine za_ (tab:=[(48,qkq_ k),(49,qlg_ k)]) (l:=[]) z7_ z9_ mix (List.forall_mem_cons.2 ⟨qks_ k,(List.forall_mem_cons.2 ⟨qli_ k,(List.forall_mem_nil _)⟩)⟩) (List.forall_mem_nil _) ⟨⟨Tryz.f23,(z2_ Tryz.f23),[.tmp 2],(qlm_ k),by kernel_rfl,by kernel_rfl,by kernel_rfl,by kernel_rfl,rfl,by decide,⟨by kernel_rfl,?_,?_⟩,?_⟩⟩
 ·refine zf_ (n:=1) (by kernel_rfl) fun i hi=>?_
  match i,hi with
  | 0,_=>exact zd_ (by kernel_rfl) (qlo_ k)
  | n+1,hi=>omega
 ·exact z8_ (by kernel_rfl)
 ·rintro w0
  kernel_rfl
def zft_ (k:Nat):Nat→(List Nat)→Int→Int→zT1→(zT0×Int×List Int×List Int×(Int×Int×Int×List (Int×Int×Int))×List Int×List Int×(Int×Int×List (Int×Int×Int))×List Int)→(zT1→Option (zT1×Int))→Option (zT1×Int)
 | 0,_,_,_,_,_,_=>none
 | n+1,x12,x13,x14,q_2,v_2,e_0=>(if (decide (x14<x13))=true then (if 0≤x14 then (x12[x14.toNat]?).bind fun y_3=>(if y_3=23 then (zfs_ k v_2).bind fun r_4=>(if (q_2.length+r_4.length)*40≤LIM then zft_ k n x12 x13 (z0_ (x14+1)) (q_2++r_4) v_2 e_0 else none) else none) else none) else e_0 q_2)
def zjz_ (k:Nat) (w0:zT0×Int×List Int×List Int×(Int×Int×Int×List (Int×Int×Int))×List Int×List Int×(Int×Int×List (Int×Int×Int))×List Int) (functions1:List Nat):Option (zT1×Int):=(zfd_ k w0).bind fun r_1=>(if (!r_1)=true then some ([],1) else zft_ k k functions1 (List.length functions1:Int) 0 [] w0 (fun q_5=>some (q_5,0)))
def qlq_:Head:=⟨[(2,(.bp 2 [] 0)),(6,(.ref 64000000 [])),(12,(.val (.sl 70 (.fs [23])))),(13,(.val (.int .i64))),(14,(.val (.int .i64)))],[(64000000,73,(.st (.pr (.int .i64) (.pr .str .str))),false)],[(2,52,(.val (.st (.pr (.st (.pr (.st (.sl 25 (.sl 2 (.int .i64)))) (.pr (.int .i64) (.pr (.sl 2 (.int .i64)) (.sl 135 (.st (.pr (.int .i64) (.pr (.int .i64) (.pr (.int .i64) (.sl 2 (.int .i64))))))))))) (.pr (.int .i64) (.pr (.sl 2 (.int .i64)) (.pr (.sl 2 (.int .i64)) (.pr (.st (.pr (.int .i64) (.pr (.int .i64) (.pr (.int .i64) (.sl 138 (.st (.pr (.int .i64) (.pr (.int .i64) (.int .i64))))))))) (.pr (.sl 2 (.int .i64)) (.pr (.sl 2 (.int .i64)) (.pr (.st (.pr (.int .i64) (.pr (.int .i64) (.sl 133 (.st (.pr (.int .i64) (.pr (.int .i64) (.int .i64)))))))) (.sl 2 (.int .i64)))))))))))))]⟩
def qlr_:Head:=⟨[(6,(.ref 64000000 []))],[(64000000,73,(.st (.pr (.int .i64) (.pr .str .str))),false)],[]⟩
def qls_ (k n:Nat) (x:qlq_.T) (kx:Nat→St→Option (zT1×Int)):Option (zT1×Int):=zft_ k n x.1.2.2.1 x.1.2.2.2.1 x.1.2.2.2.2.1 x.2.1.1 x.2.2.1 (fun (q_5:List (Int×List UInt8×List UInt8))=>kx 0 (qlr_.fill (((),()),(q_5,()),())))
def qlt_ (k:Nat):Oracles (zT1×Int):=⟨fun n=>bif Nat.beq n 5 then some (fun σ kx=>qlq_.get σ fun x=>qls_ k k x kx) else none,fun _=>none⟩
def qlu_ (k:Nat):FE:=⟨(.pr (.st (.pr (.st (.pr (.st (.sl 25 (.sl 2 (.int .i64)))) (.pr (.int .i64) (.pr (.sl 2 (.int .i64)) (.sl 135 (.st (.pr (.int .i64) (.pr (.int .i64) (.pr (.int .i64) (.sl 2 (.int .i64))))))))))) (.pr (.int .i64) (.pr (.sl 2 (.int .i64)) (.pr (.sl 2 (.int .i64)) (.pr (.st (.pr (.int .i64) (.pr (.int .i64) (.pr (.int .i64) (.sl 138 (.st (.pr (.int .i64) (.pr (.int .i64) (.int .i64))))))))) (.pr (.sl 2 (.int .i64)) (.pr (.sl 2 (.int .i64)) (.pr (.st (.pr (.int .i64) (.pr (.int .i64) (.sl 133 (.st (.pr (.int .i64) (.pr (.int .i64) (.int .i64)))))))) (.sl 2 (.int .i64))))))))))) (.sl 70 (.fs [23]))),2,(.pr (.sl 73 (.st (.pr (.int .i64) (.pr .str .str)))) (.int .i64)),fun x=>zjz_ k x.1 x.2⟩
theorem qlv_ (k:Nat):zc_ (z3_ ti [(47,qi5_ k),(23,qln_ k)] (lk []) z4_ z5_) (qlt_ k) (rdC (z3_ ti [(47,qi5_ k),(23,qln_ k)] (lk []) z4_ z5_) [.tmp 4,.tmp 5] (.pr (.sl 73 (.st (.pr (.int .i64) (.pr .str .str)))) (.int .i64))) ((zb_ (z2_ Tryz.f22)).getD 0 .skip) (fun σ kx=>qlq_.get σ fun x=>qls_ k k x kx):=by
 refine ⟨qlq_,[(0,qlr_)],fun n x kx=>qls_ k n x kx,k,by kernel_rfl,by kernel_rfl,fun x kx=>by kernel_rfl,?_,fun σ kx=>rfl⟩
 rintro n ⟨⟨⟨⟩,⟨⟩,x12,x13,x14,⟨⟩⟩,⟨q_2,⟨⟩⟩,⟨v_2,⟨⟩⟩⟩ kx
 kernel_rfl
theorem qlw_ (k:Nat):FnOK Tryz.prog 22 (qlu_ k):=by
 refine za_ (tab:=[(47,qi5_ k),(23,qln_ k)]) (l:=[]) z7_ z9_ mix (List.forall_mem_cons.2 ⟨qi6_ k,(List.forall_mem_cons.2 ⟨qlp_ k,(List.forall_mem_nil _)⟩)⟩) (List.forall_mem_nil _) ⟨⟨Tryz.f22,(z2_ Tryz.f22),[.tmp 4,.tmp 5],(qlt_ k),by kernel_rfl,by kernel_rfl,by kernel_rfl,by kernel_rfl,rfl,by decide,⟨by kernel_rfl,?_,?_⟩,?_⟩⟩
 ·refine zf_ (n:=1) (by kernel_rfl) fun i hi=>?_
  match i,hi with
  | 0,_=>exact zd_ (by kernel_rfl) (qlv_ k)
  | n+1,hi=>omega
 ·exact z8_ (by kernel_rfl)
 ·rintro ⟨w0,functions1⟩
  kernel_rfl
def zca_ (k:Nat) (w0:zT0×Int×List Int×List Int×(Int×Int×Int×List (Int×Int×Int))×List Int×List Int×(Int×Int×List (Int×Int×Int))×List Int):Option (zT1×Int):=(zjz_ k w0 [23]).bind fun r_1=>some (r_1.1,r_1.2)
def qlx_ (k:Nat):FE:=⟨(.st (.pr (.st (.pr (.st (.sl 25 (.sl 2 (.int .i64)))) (.pr (.int .i64) (.pr (.sl 2 (.int .i64)) (.sl 135 (.st (.pr (.int .i64) (.pr (.int .i64) (.pr (.int .i64) (.sl 2 (.int .i64))))))))))) (.pr (.int .i64) (.pr (.sl 2 (.int .i64)) (.pr (.sl 2 (.int .i64)) (.pr (.st (.pr (.int .i64) (.pr (.int .i64) (.pr (.int .i64) (.sl 138 (.st (.pr (.int .i64) (.pr (.int .i64) (.int .i64))))))))) (.pr (.sl 2 (.int .i64)) (.pr (.sl 2 (.int .i64)) (.pr (.st (.pr (.int .i64) (.pr (.int .i64) (.sl 133 (.st (.pr (.int .i64) (.pr (.int .i64) (.int .i64)))))))) (.sl 2 (.int .i64))))))))))),2,(.pr (.sl 73 (.st (.pr (.int .i64) (.pr .str .str)))) (.int .i64)),fun x=>zca_ k x⟩
theorem qly_ (k:Nat):FnOK Tryz.prog 7 (qlx_ k):=by
 refine za_ (tab:=[(22,qlu_ k)]) (l:=[]) z7_ z9_ mix (List.forall_mem_cons.2 ⟨qlw_ k,(List.forall_mem_nil _)⟩) (List.forall_mem_nil _) ⟨⟨Tryz.f7,(z2_ Tryz.f7),[.tmp 2,.tmp 3],(LOn (zT1×Int)),by kernel_rfl,by kernel_rfl,by kernel_rfl,by kernel_rfl,rfl,by decide,⟨by kernel_rfl,?_,?_⟩,?_⟩⟩
 ·exact ze_ (by kernel_rfl)
 ·exact z8_ (by kernel_rfl)
 ·rintro w0
  kernel_rfl
def zfu_ (a0:Int×List UInt8×List UInt8) (b1:Int×List UInt8×List UInt8):Option Bool:=(if (!(decide (a0.1=b1.1)))=true then some false else (if (!(decide (a0.2.1=b1.2.1)))=true then some false else (if (!(decide (a0.2.2=b1.2.2)))=true then some false else some true)))
def qlz_:FE:=⟨(.pr (.st (.pr (.int .i64) (.pr .str .str))) (.st (.pr (.int .i64) (.pr .str .str)))),1,.bool,fun x=>zfu_ x.1 x.2⟩
theorem qm0_:FnOK Tryz.prog 24 (qlz_):=by
 refine za_ (tab:=[]) (l:=[]) z7_ z9_ mix (List.forall_mem_nil _) (List.forall_mem_nil _) ⟨⟨Tryz.f24,(z2_ Tryz.f24),[.tmp 4],(LOn Bool),by kernel_rfl,by kernel_rfl,by kernel_rfl,by kernel_rfl,rfl,by decide,⟨by kernel_rfl,?_,?_⟩,?_⟩⟩
 ·exact ze_ (by kernel_rfl)
 ·exact z8_ (by kernel_rfl)
 ·rintro ⟨a0,b1⟩
  kernel_rfl
def z9r_ (k:Nat):Nat→zT1→zT1→Int→(Option Bool)→Option Bool
 | 0,_,_,_,_=>none
 | n+1,a0,b1,i5,e_0=>(if (decide (i5<(List.length a0:Int)))=true then (if 0≤i5 then (a0[i5.toNat]?).bind fun y_1=>(if 0≤i5 then (b1[i5.toNat]?).bind fun y_2=>(zfu_ y_1 y_2).bind fun r_3=>(if (!r_3)=true then some false else z9r_ k n a0 b1 (z0_ (i5+1)) e_0) else none) else none) else e_0)
def z7m_ (k:Nat) (a0:List (Int×List UInt8×List UInt8)) (b1:List (Int×List UInt8×List UInt8)):Option Bool:=(if (!(decide ((List.length a0:Int)=(List.length b1:Int))))=true then some false else z9r_ k k a0 b1 0 (some true))
def qm1_:Head:=⟨[(0,(.val (.sl 73 (.st (.pr (.int .i64) (.pr .str .str)))))),(1,(.val (.sl 73 (.st (.pr (.int .i64) (.pr .str .str)))))),(5,(.val (.int .i64)))],[],[]⟩
def qm2_:Head:=⟨[],[],[]⟩
def qm3_ (k n:Nat) (x:qm1_.T) (kx:Nat→St→Option Bool):Option Bool:=z9r_ k n x.1.1 x.1.2.1 x.1.2.2.1 (kx 0 (qm2_.fill ((),(),())))
def qm4_ (k:Nat):Oracles Bool:=⟨fun n=>bif Nat.beq n 4 then some (fun σ kx=>qm1_.get σ fun x=>qm3_ k k x kx) else none,fun _=>none⟩
def qm5_ (k:Nat):FE:=⟨(.pr (.sl 73 (.st (.pr (.int .i64) (.pr .str .str)))) (.sl 73 (.st (.pr (.int .i64) (.pr .str .str))))),1,.bool,fun x=>z7m_ k x.1 x.2⟩
theorem qm6_ (k:Nat):zc_ (z3_ ti [(24,qlz_)] (lk []) z4_ z5_) (qm4_ k) (rdC (z3_ ti [(24,qlz_)] (lk []) z4_ z5_) [.tmp 4] .bool) ((zb_ (z2_ Tryz.f8)).getD 0 .skip) (fun σ kx=>qm1_.get σ fun x=>qm3_ k k x kx):=by
 refine ⟨qm1_,[(0,qm2_)],fun n x kx=>qm3_ k n x kx,k,by kernel_rfl,by kernel_rfl,fun x kx=>by kernel_rfl,?_,fun σ kx=>rfl⟩
 rintro n ⟨⟨a0,b1,i5,⟨⟩⟩,⟨⟩,⟨⟩⟩ kx
 kernel_rfl
theorem qm7_ (k:Nat):FnOK Tryz.prog 8 (qm5_ k):=by
 refine za_ (tab:=[(24,qlz_)]) (l:=[]) z7_ z9_ mix (List.forall_mem_cons.2 ⟨qm0_,(List.forall_mem_nil _)⟩) (List.forall_mem_nil _) ⟨⟨Tryz.f8,(z2_ Tryz.f8),[.tmp 4],(qm4_ k),by kernel_rfl,by kernel_rfl,by kernel_rfl,by kernel_rfl,rfl,by decide,⟨by kernel_rfl,?_,?_⟩,?_⟩⟩
 ·refine zf_ (n:=1) (by kernel_rfl) fun i hi=>?_
  match i,hi with
  | 0,_=>exact zd_ (by kernel_rfl) (qm6_ k)
  | n+1,hi=>omega
 ·exact z8_ (by kernel_rfl)
 ·rintro ⟨a0,b1⟩
  kernel_rfl
def z9s_ (k:Nat):Nat→(List Int)→(List Int)→Int→(Option Bool)→Option Bool
 | 0,_,_,_,_=>none
 | n+1,a0,b1,i5,e_0=>(if (decide (i5<(List.length a0:Int)))=true then (if 0≤i5 then (a0[i5.toNat]?).bind fun y_1=>(if 0≤i5 then (b1[i5.toNat]?).bind fun y_2=>(if (!(decide (y_1=y_2)))=true then some false else z9s_ k n a0 b1 (z0_ (i5+1)) e_0) else none) else none) else e_0)
def z44_ (k:Nat) (a0:List Int) (b1:List Int):Option Bool:=(if (!(decide ((List.length a0:Int)=(List.length b1:Int))))=true then some false else z9s_ k k a0 b1 0 (some true))
def qm8_:Head:=⟨[(0,(.val (.sl 2 (.int .i64)))),(1,(.val (.sl 2 (.int .i64)))),(5,(.val (.int .i64)))],[],[]⟩
def qm9_:Head:=⟨[],[],[]⟩
def qma_ (k n:Nat) (x:qm8_.T) (kx:Nat→St→Option Bool):Option Bool:=z9s_ k n x.1.1 x.1.2.1 x.1.2.2.1 (kx 0 (qm9_.fill ((),(),())))
def qmb_ (k:Nat):Oracles Bool:=⟨fun n=>bif Nat.beq n 4 then some (fun σ kx=>qm8_.get σ fun x=>qma_ k k x kx) else none,fun _=>none⟩
def qmc_ (k:Nat):FE:=⟨(.pr (.sl 2 (.int .i64)) (.sl 2 (.int .i64))),1,.bool,fun x=>z44_ k x.1 x.2⟩
theorem qmd_ (k:Nat):zc_ (z3_ ti [] (lk []) z4_ z5_) (qmb_ k) (rdC (z3_ ti [] (lk []) z4_ z5_) [.tmp 4] .bool) ((zb_ (z2_ Tryz.f26)).getD 0 .skip) (fun σ kx=>qm8_.get σ fun x=>qma_ k k x kx):=by
 refine ⟨qm8_,[(0,qm9_)],fun n x kx=>qma_ k n x kx,k,by kernel_rfl,by kernel_rfl,fun x kx=>by kernel_rfl,?_,fun σ kx=>rfl⟩
 rintro n ⟨⟨a0,b1,i5,⟨⟩⟩,⟨⟩,⟨⟩⟩ kx
 kernel_rfl
theorem qme_ (k:Nat):FnOK Tryz.prog 26 (qmc_ k):=by
 refine za_ (tab:=[]) (l:=[]) z7_ z9_ mix (List.forall_mem_nil _) (List.forall_mem_nil _) ⟨⟨Tryz.f26,(z2_ Tryz.f26),[.tmp 4],(qmb_ k),by kernel_rfl,by kernel_rfl,by kernel_rfl,by kernel_rfl,rfl,by decide,⟨by kernel_rfl,?_,?_⟩,?_⟩⟩
 ·refine zf_ (n:=1) (by kernel_rfl) fun i hi=>?_
  match i,hi with
  | 0,_=>exact zd_ (by kernel_rfl) (qmd_ k)
  | n+1,hi=>omega
 ·exact z8_ (by kernel_rfl)
 ·rintro ⟨a0,b1⟩
  kernel_rfl
def z9t_ (k:Nat):Nat→zT4→zT4→Int→(Option Bool)→Option Bool
 | 0,_,_,_,_=>none
 | n+1,a0,b1,i5,e_0=>(if (decide (i5<(List.length a0:Int)))=true then (if 0≤i5 then (a0[i5.toNat]?).bind fun y_1=>(if 0≤i5 then (b1[i5.toNat]?).bind fun y_2=>(z44_ k y_1 y_2).bind fun r_3=>(if (!r_3)=true then some false else z9t_ k n a0 b1 (z0_ (i5+1)) e_0) else none) else none) else e_0)
def zfv_ (k:Nat) (a0:List (List Int)) (b1:List (List Int)):Option Bool:=(if (!(decide ((List.length a0:Int)=(List.length b1:Int))))=true then some false else z9t_ k k a0 b1 0 (some true))
def qmf_:Head:=⟨[(0,(.val (.sl 25 (.sl 2 (.int .i64))))),(1,(.val (.sl 25 (.sl 2 (.int .i64))))),(5,(.val (.int .i64)))],[],[]⟩
def qmg_:Head:=⟨[],[],[]⟩
def qmh_ (k n:Nat) (x:qmf_.T) (kx:Nat→St→Option Bool):Option Bool:=z9t_ k n x.1.1 x.1.2.1 x.1.2.2.1 (kx 0 (qmg_.fill ((),(),())))
def qmi_ (k:Nat):Oracles Bool:=⟨fun n=>bif Nat.beq n 4 then some (fun σ kx=>qmf_.get σ fun x=>qmh_ k k x kx) else none,fun _=>none⟩
def qmj_ (k:Nat):FE:=⟨(.pr (.sl 25 (.sl 2 (.int .i64))) (.sl 25 (.sl 2 (.int .i64)))),1,.bool,fun x=>zfv_ k x.1 x.2⟩
theorem qmk_ (k:Nat):zc_ (z3_ ti [(26,qmc_ k)] (lk []) z4_ z5_) (qmi_ k) (rdC (z3_ ti [(26,qmc_ k)] (lk []) z4_ z5_) [.tmp 4] .bool) ((zb_ (z2_ Tryz.f100)).getD 0 .skip) (fun σ kx=>qmf_.get σ fun x=>qmh_ k k x kx):=by
 refine ⟨qmf_,[(0,qmg_)],fun n x kx=>qmh_ k n x kx,k,by kernel_rfl,by kernel_rfl,fun x kx=>by kernel_rfl,?_,fun σ kx=>rfl⟩
 rintro n ⟨⟨a0,b1,i5,⟨⟩⟩,⟨⟩,⟨⟩⟩ kx
 kernel_rfl
theorem qml_ (k:Nat):FnOK Tryz.prog 100 (qmj_ k):=by
 refine za_ (tab:=[(26,qmc_ k)]) (l:=[]) z7_ z9_ mix (List.forall_mem_cons.2 ⟨qme_ k,(List.forall_mem_nil _)⟩) (List.forall_mem_nil _) ⟨⟨Tryz.f100,(z2_ Tryz.f100),[.tmp 4],(qmi_ k),by kernel_rfl,by kernel_rfl,by kernel_rfl,by kernel_rfl,rfl,by decide,⟨by kernel_rfl,?_,?_⟩,?_⟩⟩
 ·refine zf_ (n:=1) (by kernel_rfl) fun i hi=>?_
  match i,hi with
  | 0,_=>exact zd_ (by kernel_rfl) (qmk_ k)
  | n+1,hi=>omega
 ·exact z8_ (by kernel_rfl)
 ·rintro ⟨a0,b1⟩
  kernel_rfl
def zfw_ (k:Nat) (a0:List (List Int)) (b1:List (List Int)):Option Bool:=(zfv_ k a0 b1).bind fun r_1=>(if (!r_1)=true then some false else some true)
def qmm_ (k:Nat):FE:=⟨(.pr (.st (.sl 25 (.sl 2 (.int .i64)))) (.st (.sl 25 (.sl 2 (.int .i64))))),1,.bool,fun x=>zfw_ k x.1 x.2⟩
theorem qmn_ (k:Nat):FnOK Tryz.prog 50 (qmm_ k):=by
 refine za_ (tab:=[(100,qmj_ k)]) (l:=[]) z7_ z9_ mix (List.forall_mem_cons.2 ⟨qml_ k,(List.forall_mem_nil _)⟩) (List.forall_mem_nil _) ⟨⟨Tryz.f50,(z2_ Tryz.f50),[.tmp 4],(LOn Bool),by kernel_rfl,by kernel_rfl,by kernel_rfl,by kernel_rfl,rfl,by decide,⟨by kernel_rfl,?_,?_⟩,?_⟩⟩
 ·exact ze_ (by kernel_rfl)
 ·exact z8_ (by kernel_rfl)
 ·rintro ⟨a0,b1⟩
  kernel_rfl
end
end Go.Proofs.YtioaaljaohhjiaaGreatDoor.Ev
