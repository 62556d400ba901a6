/- Functions of the program, as plain ones. No conditions. -/
import Derived.Test.YtiodkblajaenbaaGreatDoorG7
import Derived.KernelRfl
set_option linter.unusedVariables false
set_option maxRecDepth 100000
namespace Go.Proofs.YtiodkblajaenbaaGreatDoor.Ev
open Go.RowKit
noncomputable section
def zdh (k:Nat):Nat→Int→(zT0×List zT1)→Int→Int→Int→Int→Int→zT1→zT1→Int→Int→Int→Int→Int→Int→(Int→(zT0×List zT1)→Int→Int→zT1→zT1→Int→Int→Int→Int→Int→Int→Option zT0)→Option zT0
 | 0,_,_,_,_,_,_,_,_,_,_,_,_,_,_,_,_=>none
 | n+1,columns2,cell3,i10,x16,x17,x20,x21,q_3,q_4,v_8a,v_8ba,v_8bba,v_9a,v_9ba,v_9bba,e_2=>(if (decide (x21<x20)) then (zpw k i10 x21 cell3.1 cell3.2).bind fun r_5=>(if (q_4.length+[r_5].length)*8≤LIM then zdh k n columns2 cell3 i10 x16 x17 x20 (z6 (x21+1)) q_3 (q_4++[r_5]) v_8a v_8ba v_8bba v_9a v_9ba v_9bba e_2 else none) else e_2 columns2 cell3 x16 x17 q_3 q_4 v_8a v_8ba v_8bba v_9a v_9ba v_9bba)
def zdi (k:Nat):Nat→Int→(zT0×List zT1)→Int→Int→zT1→zT1→Int→Int→Int→Int→Int→Int→(zT1→zT1→Int→Int→Int→Int→Int→Int→Option zT0)→Option zT0
 | 0,_,_,_,_,_,_,_,_,_,_,_,_,_=>none
 | n+1,columns2,cell3,x16,x17,q_1,q_2,v_8a,v_8ba,v_8bba,v_9a,v_9ba,v_9bba,e_0=>(if (decide (x17<x16)) then zdh k k columns2 cell3 x17 x16 x17 columns2 0 q_1 q_2 v_8a v_8ba v_8bba v_9a v_9ba v_9bba (fun columns_3 cell_4 x_5 x_6 q_7 q_8 v_8a_9 v_8ba_10 v_8bba_11 v_9a_12 v_9ba_13 v_9bba_14=>zdi k n columns_3 cell_4 x_5 (z6 (x_6+1)) q_7 q_8 v_8a_9 v_8ba_10 v_8bba_11 v_9a_12 v_9ba_13 v_9bba_14 e_0) else e_0 q_1 q_2 v_8a v_8ba v_8bba v_9a v_9ba v_9bba)
def zu9 (k:Nat) (p0:Int) (rows1:Int) (columns2:Int) (cell3:zT0×List zT1):Option zT0:=zdi k k columns2 cell3 rows1 0 [] [] 0 0 0 p0 rows1 columns2 (fun q_15 q_16 v_8a_17 v_8ba_18 v_8bba_19 v_9a_20 v_9ba_21 v_9bba_22=>some (v_9a_20,(v_9ba_21,(v_9bba_22,q_16))))
def z176:Head:=⟨[(2,V0),(3,(.val U28)),(8,(.bp 8 [] 0)),(9,(.bp 9 [] 0)),(16,V0),(17,V0)],[(P0,2,U0,false),(P1,2,U0,false)],[(8,136,(.st (.pr V0 (.pr V0 (.pr V0 (.ref P0 [])))))),(9,136,(.st (.pr V0 (.pr V0 (.pr V0 (.ref P1 []))))))]⟩
def z177:Head:=⟨[(2,V0),(3,(.val U28)),(8,(.bp 8 [] 0)),(9,(.bp 9 [] 0)),(10,V0),(16,V0),(17,V0),(20,V0),(21,V0)],[(P0,2,U0,false),(P1,2,U0,false)],[(8,136,(.st (.pr V0 (.pr V0 (.pr V0 (.ref P0 [])))))),(9,136,(.st (.pr V0 (.pr V0 (.pr V0 (.ref P1 []))))))]⟩
def z178 (k:Nat) (n:Nat) (x:z177.T) (kx:Nat→St→Option zT0):Option zT0:=zdh k n x.1.1 x.1.2.1 x.1.2.2.2.2.1 x.1.2.2.2.2.2.1 x.1.2.2.2.2.2.2.1 x.1.2.2.2.2.2.2.2.1 x.1.2.2.2.2.2.2.2.2.1 x.2.1.1 x.2.1.2.1 x.2.2.1.1 x.2.2.1.2.1 x.2.2.1.2.2.1 x.2.2.2.1.1 x.2.2.2.1.2.1 x.2.2.2.1.2.2.1 (fun columns2 cell3 x16 x17 q_6 q_7 v_8a v_8ba v_8bba v_9a v_9ba v_9bba=>kx 2 (z176.fill ((columns2,cell3,(),(),x16,x17,()),(q_6,q_7,()),((v_8a,(v_8ba,(v_8bba,()))),(v_9a,(v_9ba,(v_9bba,()))),()))))
def zpx (k:Nat):LD zT0:=⟨6,z177,[(2,z176)],z178 k,k⟩
def z179:Head:=⟨[(8,(.bp 8 [] 0)),(9,(.bp 9 [] 0))],[(P0,2,U0,false),(P1,2,U0,false)],[(8,136,(.st (.pr V0 (.pr V0 (.pr V0 (.ref P0 [])))))),(9,136,(.st (.pr V0 (.pr V0 (.pr V0 (.ref P1 []))))))]⟩
def z17a:Head:=⟨[(2,V0),(3,(.val U28)),(8,(.bp 8 [] 0)),(9,(.bp 9 [] 0)),(16,V0),(17,V0)],[(P0,2,U0,false),(P1,2,U0,false)],[(8,136,(.st (.pr V0 (.pr V0 (.pr V0 (.ref P0 [])))))),(9,136,(.st (.pr V0 (.pr V0 (.pr V0 (.ref P1 []))))))]⟩
def z17b (k:Nat) (n:Nat) (x:z17a.T) (kx:Nat→St→Option zT0):Option zT0:=zdi k n x.1.1 x.1.2.1 x.1.2.2.2.2.1 x.1.2.2.2.2.2.1 x.2.1.1 x.2.1.2.1 x.2.2.1.1 x.2.2.1.2.1 x.2.2.1.2.2.1 x.2.2.2.1.1 x.2.2.2.1.2.1 x.2.2.2.1.2.2.1 (fun q_18 q_19 v_8a v_8ba v_8bba v_9a v_9ba v_9bba=>kx 0 (z179.fill (((),(),()),(q_18,q_19,()),((v_8a,(v_8ba,(v_8bba,()))),(v_9a,(v_9ba,(v_9bba,()))),()))))
def zpy (k:Nat):LD zT0:=⟨3,z17a,[(0,z179)],z17b k,k⟩
def z1q4 (k:Nat):FE:=⟨(.pr U0 (.pr U0 (.pr U0 U28))),1,U1,fun x=>zu9 k x.1 x.2.1 x.2.2.1 x.2.2.2⟩
theorem z1q5 (k:Nat):z8 Tryz.prog 163 (z1q4 k):=okC za (xTc (z1q3 k) xTn) xOn Tryz.f163 (orc (zpx k) (orc (zpy k) (LOn _))) (xLp (zpy k) (by rintro n ⟨⟨columns2,cell3,⟨⟩,⟨⟩,x16,x17,⟨⟩⟩,⟨q_1,q_2,⟨⟩⟩,⟨⟨v_8a,⟨v_8ba,⟨v_8bba,⟨⟩⟩⟩⟩,⟨v_9a,⟨v_9ba,⟨v_9bba,⟨⟩⟩⟩⟩,⟨⟩⟩⟩ kx _ h; dsimp only [zpy,z17b] at h; subst h; dsimp only [zpy]; kernel_rfl) (xLp (zpx k) (by rintro n ⟨⟨columns2,cell3,⟨⟩,⟨⟩,i10,x16,x17,x20,x21,⟨⟩⟩,⟨q_3,q_4,⟨⟩⟩,⟨⟨v_8a,⟨v_8ba,⟨v_8bba,⟨⟩⟩⟩⟩,⟨v_9a,⟨v_9ba,⟨v_9bba,⟨⟩⟩⟩⟩,⟨⟩⟩⟩ kx _ h; dsimp only [zpx,z178] at h; subst h; dsimp only [zpx]; kernel_rfl) xLn)) (by rintro ⟨p0,rows1,columns2,cell3⟩; kernel_rfl)
def zhc (k:Nat) (a0:Int×Int×Int×List Int) (b1:Int×Int×Int×List Int):Option zT0:=(zu8 k b1).bind fun r_1=>(zu9 k a0.1 a0.2.1 b1.2.2.1 (a0,r_1)).bind fun r_2=>some (r_2.1,(r_2.2.1,(r_2.2.2.1,r_2.2.2.2)))
def z1q6 (k:Nat):FE:=⟨(.pr U1 U1),1,U1,fun x=>zhc k x.1 x.2⟩
theorem z1q7 (k:Nat):z8 Tryz.prog 111 (z1q6 k):=okC za (xTc (z1q0 k) (xTc (z1q5 k) xTn)) xOn Tryz.f111 (LOn _) xLn (by rintro ⟨a0,b1⟩; kernel_rfl)
def zdj (k:Nat):Nat→zT1→zT1→Int→Int→(Option Bool)→Option Bool
 | 0,_,_,_,_,_=>none
 | n+1,s10,s21,x12,x13,e_0=>(if (decide (x13<x12)) then (if 0≤x13 then (s10[x13.toNat]?).bind fun y_1=>(if 0≤x13 then (s21[x13.toNat]?).bind fun y_2=>(if (!(decide (y_1=y_2))) then some false else zdj k n s10 s21 x12 (z6 (x13+1)) e_0) else none) else none) else e_0)
def zua (k:Nat) (s10:List Int) (s21:List Int):Option Bool:=(if (!(decide ((List.length s10:Int)=(List.length s21:Int)))) then some false else zdj k k s10 s21 (List.length s10:Int) 0 (some true))
def z17c:Head:=⟨[],[],[]⟩
def z17d (k:Nat):LD Bool:=⟨4,⟨[(0,V1),(1,V1),(12,V0),(13,V0)],[],[]⟩,[(0,z17c)],fun n x kx=>zdj k n x.1.1 x.1.2.1 x.1.2.2.1 x.1.2.2.2.1 (kx 0 (z17c.fill ((),(),()))),k⟩
def z1q8 (k:Nat):FE:=⟨(.pr U5 U5),1,.bool,fun x=>zua k x.1 x.2⟩
theorem z1q9 (k:Nat):z8 Tryz.prog 168 (z1q8 k):=okC za xTn xOn Tryz.f168 (orc (z17d k) (LOn _)) (xLo (z17d k) (by rintro n ⟨⟨s10,s21,x12,x13,⟨⟩⟩,⟨⟩,⟨⟩⟩ kx; kernel_rfl) xLn) (by rintro ⟨s10,s21⟩; kernel_rfl)
def zpz (k:Nat) (a0:Int×Int×Int×List Int) (b1:Int×Int×Int×List Int):Option Bool:=(if (decide (a0.1=b1.1)) then (if (decide (a0.2.1=b1.2.1)) then (if (decide (a0.2.2.1=b1.2.2.1)) then (zua k a0.2.2.2 b1.2.2.2).bind fun r_1=>some r_1 else some false) else some false) else some false)
def z1qa (k:Nat):FE:=⟨(.pr U1 U1),1,.bool,fun x=>zpz k x.1 x.2⟩
theorem z1qb (k:Nat):z8 Tryz.prog 113 (z1qa k):=okC za (xTc (z1q9 k) xTn) xOn Tryz.f113 (LOn _) xLn (by rintro ⟨a0,b1⟩; kernel_rfl)
def z33 (k:Nat):Nat→zT1→Int→Int→Int→zT10→Int→Int→Int→Int→zT1→zT3→(zT1→Int→zT10→Int→Int→Int→Int→zT1→zT3→Option zT16)→Option zT16
 | 0,_,_,_,_,_,_,_,_,_,_,_,_=>none
 | n+1,t6,simplex7,i9,j10,x15,x16,x17,x31,x32,q_4,v_1,e_4=>(if (decide (j10<(List.length t6:Int))) then (z8b k v_1 simplex7 i9).bind fun r_5=>(if 0≤i9∧i9.toNat<List.length q_4 then (q_4[i9.toNat]?).bind fun y_6=>(z8b k v_1 y_6 (z6 (j10-1))).bind fun r_7=>(zhc k r_5 r_7).bind fun r_8=>(z8b k v_1 simplex7 j10).bind fun r_9=>(if 0≤j10∧j10.toNat<List.length q_4 then (q_4[j10.toNat]?).bind fun y_10=>(z8b k v_1 y_10 i9).bind fun r_11=>(zhc k r_9 r_11).bind fun r_12=>(zpz k (r_8.1,(r_8.2.1,(r_8.2.2.1,r_8.2.2.2))) (r_12.1,(r_12.2.1,(r_12.2.2.1,r_12.2.2.2)))).bind fun r_13=>(if (!r_13) then (if 0≤i9∧i9.toNat<List.length q_4 then (q_4[i9.toNat]?).bind fun y_14=>(z9p k v_1.1 y_14).bind fun r_15=>(if 0≤(z6 (j10-1))∧(z6 (j10-1)).toNat<List.length r_15 then (r_15[(z6 (j10-1)).toNat]?).bind fun y_16=>some (simplex7,y_16,true) else none) else none) else z33 k n t6 simplex7 i9 (z6 (j10+1)) x15 x16 x17 x31 x32 q_4 v_1 e_4) else none) else none) else e_4 t6 simplex7 x15 x16 x17 x31 x32 q_4 v_1)
def z6a (k:Nat):Nat→zT1→Int→zT10→Int→Int→Int→Int→zT1→zT3→(zT10→Int→Int→zT3→Option zT16)→Option zT16
 | 0,_,_,_,_,_,_,_,_,_,_=>none
 | n+1,t6,simplex7,x15,x16,x17,x31,x32,q_3,v_1,e_2=>(if (decide (x32<x31)) then z33 k k t6 simplex7 x32 (z6 (x32+1)) x15 x16 x17 x31 x32 q_3 v_1 (fun t_4 simplex_5 x_6 x_7 x_8 x_9 x_10 q_11 v_12=>z6a k n t_4 simplex_5 x_6 x_7 x_8 x_9 (z6 (x_10+1)) q_11 v_12 e_2) else e_2 x15 x16 x17 v_1)
def z8d (k:Nat):Nat→zT10→Int→Int→zT3→(Option zT16)→Option zT16
 | 0,_,_,_,_,_=>none
 | n+1,x15,x16,x17,v_1,e_0=>(if (decide (x17<x16)) then (if 0≤x17 then (x15[x17.toNat]?).bind fun y_1=>(if (decide ((List.length y_1:Int)<3)) then z8d k n x15 x16 (z6 (x17+1)) v_1 e_0 else (z9p k v_1.1 x17).bind fun r_2=>z6a k k y_1 x17 x15 x16 x17 (List.length y_1:Int) 0 r_2 v_1 (fun x_3 x_4 x_5 v_6=>z8d k n x_3 x_4 (z6 (x_5+1)) v_6 e_0)) else none) else e_0)
def zfl (k:Nat) (s0:List zT1×Int×List Int×List zT0):Option zT16:=z8d k k s0.1 (List.length s0.1:Int) 0 s0 (some (0,0,false))
def z17e:Head:=⟨[(1,(.bp 1 [] 0)),(6,V1),(7,V0),(8,(.ref P0 [])),(15,V3),(16,V0),(17,V0),(31,V0),(32,V0)],[(P0,2,U0,false)],[(1,44,V4)]⟩
def z17f:Head:=⟨[(1,(.bp 1 [] 0)),(6,V1),(7,V0),(8,(.ref P0 [])),(9,V0),(10,V0),(15,V3),(16,V0),(17,V0),(31,V0),(32,V0)],[(P0,2,U0,false)],[(1,44,V4)]⟩
def z17g (k:Nat) (n:Nat) (x:z17f.T) (kx:Nat→St→Option zT16):Option zT16:=z33 k n x.1.2.1 x.1.2.2.1 x.1.2.2.2.2.1 x.1.2.2.2.2.2.1 x.1.2.2.2.2.2.2.1 x.1.2.2.2.2.2.2.2.1 x.1.2.2.2.2.2.2.2.2.1 x.1.2.2.2.2.2.2.2.2.2.1 x.1.2.2.2.2.2.2.2.2.2.2.1 x.2.1.1 x.2.2.1 (fun t6 simplex7 x15 x16 x17 x31 x32 q_17 v_1=>kx 4 (z17e.fill (((),t6,simplex7,(),x15,x16,x17,x31,x32,()),(q_17,()),(v_1,()))))
def zq0 (k:Nat):LD zT16:=⟨11,z17f,[(4,z17e)],z17g k,k⟩
def z17h:Head:=⟨[(1,(.bp 1 [] 0)),(15,V3),(16,V0),(17,V0)],[],[(1,44,V4)]⟩
def z17i:Head:=⟨[(1,(.bp 1 [] 0)),(6,V1),(7,V0),(8,(.ref P0 [])),(15,V3),(16,V0),(17,V0),(31,V0),(32,V0)],[(P0,2,U0,false)],[(1,44,V4)]⟩
def z17j (k:Nat) (n:Nat) (x:z17i.T) (kx:Nat→St→Option zT16):Option zT16:=z6a k n x.1.2.1 x.1.2.2.1 x.1.2.2.2.2.1 x.1.2.2.2.2.2.1 x.1.2.2.2.2.2.2.1 x.1.2.2.2.2.2.2.2.1 x.1.2.2.2.2.2.2.2.2.1 x.2.1.1 x.2.2.1 (fun x15 x16 x17 v_1=>kx 2 (z17h.fill (((),x15,x16,x17,()),(),(v_1,()))))
def zq1 (k:Nat):LD zT16:=⟨8,z17i,[(2,z17h)],z17j k,k⟩
def z17k:Head:=⟨[],[],[]⟩
def z17l (k:Nat):LD zT16:=⟨2,⟨[(1,(.bp 1 [] 0)),(15,V3),(16,V0),(17,V0)],[],[(1,44,V4)]⟩,[(0,z17k)],fun n x kx=>z8d k n x.1.2.1 x.1.2.2.1 x.1.2.2.2.1 x.2.2.1 (kx 0 (z17k.fill ((),(),()))),k⟩
def z1qc (k:Nat):FE:=⟨U4,3,(.pr U0 (.pr U0 .bool)),fun x=>zfl k x⟩
theorem z1io (k:Nat):z8 Tryz.prog 58 (z1qc k):=okC za (xTc (ztx k) (xTc (z16r k) (xTc (z1q7 k) (xTc (z1qb k) xTn)))) xOn Tryz.f58 (orc (zq0 k) (orc (zq1 k) (orc (z17l k) (LOn _)))) (xLo (z17l k) (by rintro n ⟨⟨⟨⟩,x15,x16,x17,⟨⟩⟩,⟨⟩,⟨v_1,⟨⟩⟩⟩ kx; kernel_rfl) (xLp (zq1 k) (by rintro n ⟨⟨⟨⟩,t6,simplex7,⟨⟩,x15,x16,x17,x31,x32,⟨⟩⟩,⟨q_3,⟨⟩⟩,⟨v_1,⟨⟩⟩⟩ kx _ h; dsimp only [zq1,z17j] at h; subst h; dsimp only [zq1]; kernel_rfl) (xLp (zq0 k) (by rintro n ⟨⟨⟨⟩,t6,simplex7,⟨⟩,i9,j10,x15,x16,x17,x31,x32,⟨⟩⟩,⟨q_4,⟨⟩⟩,⟨v_1,⟨⟩⟩⟩ kx _ h; dsimp only [zq0,z17g] at h; subst h; dsimp only [zq0]; kernel_rfl) xLn))) (by rintro s0; kernel_rfl)
def zub (n0:Int):Option Bool:=(z49 n0 (-1000000000000) 1000000000000).bind fun r_1=>some r_1
def z1qd:FE:=⟨U0,1,.bool,fun x=>zub x⟩
theorem z1qe:z8 Tryz.prog 116 (z1qd):=okC za (xTc z86 xTn) xOn Tryz.f116 (LOn _) xLn (by rintro n0; kernel_rfl)
def zuc (n0:Int):Option Bool:=(zub n0).bind fun r_1=>some (!r_1)
def z1qf:FE:=⟨U0,1,.bool,fun x=>zuc x⟩
theorem z1qg:z8 Tryz.prog 115 (z1qf):=okC za (xTc z1qe xTn) xOn Tryz.f115 (LOn _) xLn (by rintro n0; kernel_rfl)
def zhd (k:Nat):Nat→zT1→Unit→Int→Int→(Option Int)→Option Int
 | 0,_,_,_,_,_=>none
 | n+1,s0,f1,x7,x8,e_0=>(if (decide (x8<x7)) then (if 0≤x8 then (s0[x8.toNat]?).bind fun y_1=>(zuc y_1).bind fun r_2=>(if r_2 then some x8 else zhd k n s0 f1 x7 (z6 (x8+1)) e_0) else none) else e_0)
def zud (k:Nat) (s0:List Int) (f1:Unit):Option Int:=zhd k k s0 f1 (List.length s0:Int) 0 (some (-1))
def z17m:Head:=⟨[],[],[]⟩
def z17n (k:Nat):LD Int:=⟨2,⟨[(0,V1),(1,(.val (.fn 115 .un))),(7,V0),(8,V0)],[],[]⟩,[(0,z17m)],fun n x kx=>zhd k n x.1.1 x.1.2.1 x.1.2.2.1 x.1.2.2.2.1 (kx 0 (z17m.fill ((),(),()))),k⟩
def z1qh (k:Nat):FE:=⟨(.pr U5 (.fn 115 .un)),1,U0,fun x=>zud k x.1 x.2⟩
theorem z1qi (k:Nat):z8 Tryz.prog 169 (z1qh k):=okC za (xTc z1qg xTn) xOn Tryz.f169 (orc (z17n k) (LOn _)) (xLo (z17n k) (by rintro n ⟨⟨s0,f1,x7,x8,⟨⟩⟩,⟨⟩,⟨⟩⟩ kx; kernel_rfl) xLn) (by rintro ⟨s0,f1⟩; kernel_rfl)
def zq2 (k:Nat) (s0:List Int) (f1:Unit):Option Bool:=(zud k s0 f1).bind fun r_1=>some (decide (0≤r_1))
def z1qj (k:Nat):FE:=⟨(.pr U5 (.fn 115 .un)),1,.bool,fun x=>zq2 k x.1 x.2⟩
theorem z1qk (k:Nat):z8 Tryz.prog 114 (z1qj k):=okC za (xTc (z1qi k) xTn) xOn Tryz.f114 (LOn _) xLn (by rintro ⟨s0,f1⟩; kernel_rfl)
def z17o (n:Int) (b:Int):Option zT15:=if b=10 ∧ -9223372036854775808≤n∧n≤9223372036854775807 then some (Lib.itoa n) else none
abbrev fe_strconv_FormatInt:FE:=fe_formatInt
theorem z1ql:z8 Tryz.prog 128 fe_strconv_FormatInt:=z1gc (fn:=Tryz.f128) (cd:=z48 Tryz.f128) (by kernel_rfl) (by kernel_rfl) (by kernel_rfl) (fun n h0 h1 w hG=>Go.Proofs.Tryz.strconv_FormatInt_10 n h0 h1 w hG)
def zjh (n0:Int):Option zT15:=(z17o n0 10).bind fun r_1=>some r_1
def z1qm:FE:=⟨U0,1,.str,fun x=>zjh x⟩
theorem z10v:z8 Tryz.prog 67 (z1qm):=okC za (xTc z1ql xTn) xOn Tryz.f67 (LOn _) xLn (by rintro n0; kernel_rfl)
def zue (sep1:List UInt8) (q_1:List zT15):Option ((List UInt8×Unit)×(List zT15×Unit)×Unit):=if List.length q_1≤LIM∧(Lib.join q_1 sep1).length≤LIM then some ((Lib.join q_1 sep1,()),(q_1,()),()) else none
def oc_strings_Join_s:OC:=zj1 9
theorem z1qn:z1f Tryz.prog ti 117 oc_strings_Join_s:=z1gd (fn:=Tryz.f117) (cd:=z48 Tryz.f117) (by kernel_rfl) (by kernel_rfl) (by kernel_rfl) (fun bk o c xs sep w h1 h2 h3 h4 h5=>Go.Proofs.Tryz.strings_Join bk o c xs sep w h1 h2 h3 h4 h5) (fun a c sep w=>Go.Proofs.Tryz.strings_Join_none a c sep w)
def zhe (k:Nat):Nat→zT1→Int→Int→(List zT15)→((List zT15)→Option zT15)→Option zT15
 | 0,_,_,_,_,_=>none
 | n+1,x16,x17,x18,q_2,e_0=>(if (decide (x18<x17)) then (if 0≤x18 then (x16[x18.toNat]?).bind fun y_3=>(zjh y_3).bind fun r_4=>(if (q_2.length+[r_4].length)*16≤LIM then zhe k n x16 x17 (z6 (x18+1)) (q_2++[r_4]) e_0 else none) else none) else e_0 q_2)
def zcg (k:Nat) (list0:List Int):Option zT15:=(if (decide (64<(List.length list0:Int))) then some [] else (zq2 k list0 ()).bind fun r_1=>(if r_1 then some [] else (if (decide ((List.length list0:Int)=0)) then some [45] else zhe k k list0 (List.length list0:Int) 0 [] (fun q_5=>(zue [44] q_5).bind fun y_6=>some y_6.1.1))))
def z17p:Head:=⟨[(3,(.ref P0 []))],[(P0,9,.str,false)],[]⟩
def z17q (k:Nat):LD zT15:=⟨7,⟨[(3,(.ref P0 [])),(16,V1),(17,V0),(18,V0)],[(P0,9,.str,false)],[]⟩,[(0,z17p)],fun n x kx=>zhe k n x.1.2.1 x.1.2.2.1 x.1.2.2.2.1 x.2.1.1 (fun q_5=>kx 0 (z17p.fill (((),()),(q_5,()),()))),k⟩
def z1qo (k:Nat):FE:=⟨U5,1,.str,fun x=>zcg k x⟩
theorem zt4 (k:Nat):z8 Tryz.prog 59 (z1qo k):=okC za (xTc (z1qk k) (xTc z10v xTn)) (xOc 29 z1qn xOn) Tryz.f59 (orc (z17q k) (LOn _)) (xLo (z17q k) (by rintro n ⟨⟨⟨⟩,x16,x17,x18,⟨⟩⟩,⟨q_2,⟨⟩⟩,⟨⟩⟩ kx; kernel_rfl) xLn) (by rintro list0; kernel_rfl)
def zuf (i0:Int) (j1:Int):Option Int:=some 0
def z1qp:FE:=⟨U19,1,U0,fun x=>zuf x.1 x.2⟩
theorem z1qq:z8 Tryz.prog 204 (z1qp):=okC za xTn xOn Tryz.f204 (LOn _) xLn (by rintro ⟨i0,j1⟩; kernel_rfl)
def zdk (k:Nat):Nat→Int→Unit→Int→Int→Int→Int→Int→zT1→zT1→Int→Int→Int→Int→Int→Int→(Int→Unit→Int→Int→zT1→zT1→Int→Int→Int→Int→Int→Int→Option zT0)→Option zT0
 | 0,_,_,_,_,_,_,_,_,_,_,_,_,_,_,_,_=>none
 | n+1,columns2,cell3,i10,x16,x17,x20,x21,q_3,q_4,v_8a,v_8ba,v_8bba,v_9a,v_9ba,v_9bba,e_2=>(if (decide (x21<x20)) then (zuf i10 x21).bind fun r_5=>(if (q_4.length+[r_5].length)*8≤LIM then zdk k n columns2 cell3 i10 x16 x17 x20 (z6 (x21+1)) q_3 (q_4++[r_5]) v_8a v_8ba v_8bba v_9a v_9ba v_9bba e_2 else none) else e_2 columns2 cell3 x16 x17 q_3 q_4 v_8a v_8ba v_8bba v_9a v_9ba v_9bba)
def zhf (k:Nat):Nat→Int→Unit→Int→Int→zT1→zT1→Int→Int→Int→Int→Int→Int→(zT1→zT1→Int→Int→Int→Int→Int→Int→Option zT0)→Option zT0
 | 0,_,_,_,_,_,_,_,_,_,_,_,_,_=>none
 | n+1,columns2,cell3,x16,x17,q_1,q_2,v_8a,v_8ba,v_8bba,v_9a,v_9ba,v_9bba,e_0=>(if (decide (x17<x16)) then zdk k k columns2 cell3 x17 x16 x17 columns2 0 q_1 q_2 v_8a v_8ba v_8bba v_9a v_9ba v_9bba (fun columns_3 cell_4 x_5 x_6 q_7 q_8 v_8a_9 v_8ba_10 v_8bba_11 v_9a_12 v_9ba_13 v_9bba_14=>zhf k n columns_3 cell_4 x_5 (z6 (x_6+1)) q_7 q_8 v_8a_9 v_8ba_10 v_8bba_11 v_9a_12 v_9ba_13 v_9bba_14 e_0) else e_0 q_1 q_2 v_8a v_8ba v_8bba v_9a v_9ba v_9bba)
def zug (k:Nat) (p0:Int) (rows1:Int) (columns2:Int) (cell3:Unit):Option zT0:=zhf k k columns2 cell3 rows1 0 [] [] 0 0 0 p0 rows1 columns2 (fun q_15 q_16 v_8a_17 v_8ba_18 v_8bba_19 v_9a_20 v_9ba_21 v_9bba_22=>some (v_9a_20,(v_9ba_21,(v_9bba_22,q_16))))
def z17r:Head:=⟨[(2,V0),(3,(.val (.fn 204 .un))),(8,(.bp 8 [] 0)),(9,(.bp 9 [] 0)),(16,V0),(17,V0)],[(P0,2,U0,false),(P1,2,U0,false)],[(8,136,(.st (.pr V0 (.pr V0 (.pr V0 (.ref P0 [])))))),(9,136,(.st (.pr V0 (.pr V0 (.pr V0 (.ref P1 []))))))]⟩
def z17s:Head:=⟨[(2,V0),(3,(.val (.fn 204 .un))),(8,(.bp 8 [] 0)),(9,(.bp 9 [] 0)),(10,V0),(16,V0),(17,V0),(20,V0),(21,V0)],[(P0,2,U0,false),(P1,2,U0,false)],[(8,136,(.st (.pr V0 (.pr V0 (.pr V0 (.ref P0 [])))))),(9,136,(.st (.pr V0 (.pr V0 (.pr V0 (.ref P1 []))))))]⟩
def z17t (k:Nat) (n:Nat) (x:z17s.T) (kx:Nat→St→Option zT0):Option zT0:=zdk k n x.1.1 x.1.2.1 x.1.2.2.2.2.1 x.1.2.2.2.2.2.1 x.1.2.2.2.2.2.2.1 x.1.2.2.2.2.2.2.2.1 x.1.2.2.2.2.2.2.2.2.1 x.2.1.1 x.2.1.2.1 x.2.2.1.1 x.2.2.1.2.1 x.2.2.1.2.2.1 x.2.2.2.1.1 x.2.2.2.1.2.1 x.2.2.2.1.2.2.1 (fun columns2 cell3 x16 x17 q_6 q_7 v_8a v_8ba v_8bba v_9a v_9ba v_9bba=>kx 2 (z17r.fill ((columns2,cell3,(),(),x16,x17,()),(q_6,q_7,()),((v_8a,(v_8ba,(v_8bba,()))),(v_9a,(v_9ba,(v_9bba,()))),()))))
def zq3 (k:Nat):LD zT0:=⟨6,z17s,[(2,z17r)],z17t k,k⟩
def z17u:Head:=⟨[(8,(.bp 8 [] 0)),(9,(.bp 9 [] 0))],[(P0,2,U0,false),(P1,2,U0,false)],[(8,136,(.st (.pr V0 (.pr V0 (.pr V0 (.ref P0 [])))))),(9,136,(.st (.pr V0 (.pr V0 (.pr V0 (.ref P1 []))))))]⟩
def z17v:Head:=⟨[(2,V0),(3,(.val (.fn 204 .un))),(8,(.bp 8 [] 0)),(9,(.bp 9 [] 0)),(16,V0),(17,V0)],[(P0,2,U0,false),(P1,2,U0,false)],[(8,136,(.st (.pr V0 (.pr V0 (.pr V0 (.ref P0 [])))))),(9,136,(.st (.pr V0 (.pr V0 (.pr V0 (.ref P1 []))))))]⟩
def z17w (k:Nat) (n:Nat) (x:z17v.T) (kx:Nat→St→Option zT0):Option zT0:=zhf k n x.1.1 x.1.2.1 x.1.2.2.2.2.1 x.1.2.2.2.2.2.1 x.2.1.1 x.2.1.2.1 x.2.2.1.1 x.2.2.1.2.1 x.2.2.1.2.2.1 x.2.2.2.1.1 x.2.2.2.1.2.1 x.2.2.2.1.2.2.1 (fun q_18 q_19 v_8a v_8ba v_8bba v_9a v_9ba v_9bba=>kx 0 (z17u.fill (((),(),()),(q_18,q_19,()),((v_8a,(v_8ba,(v_8bba,()))),(v_9a,(v_9ba,(v_9bba,()))),()))))
def zq4 (k:Nat):LD zT0:=⟨3,z17v,[(0,z17u)],z17w k,k⟩
def z1qr (k:Nat):FE:=⟨(.pr U0 (.pr U0 (.pr U0 (.fn 204 .un)))),1,U1,fun x=>zug k x.1 x.2.1 x.2.2.1 x.2.2.2⟩
theorem z1qs (k:Nat):z8 Tryz.prog 163 (z1qr k):=okC za (xTc z1qq xTn) xOn Tryz.f163 (orc (zq3 k) (orc (zq4 k) (LOn _))) (xLp (zq4 k) (by rintro n ⟨⟨columns2,cell3,⟨⟩,⟨⟩,x16,x17,⟨⟩⟩,⟨q_1,q_2,⟨⟩⟩,⟨⟨v_8a,⟨v_8ba,⟨v_8bba,⟨⟩⟩⟩⟩,⟨v_9a,⟨v_9ba,⟨v_9bba,⟨⟩⟩⟩⟩,⟨⟩⟩⟩ kx _ h; dsimp only [zq4,z17w] at h; subst h; dsimp only [zq4]; kernel_rfl) (xLp (zq3 k) (by rintro n ⟨⟨columns2,cell3,⟨⟩,⟨⟩,i10,x16,x17,x20,x21,⟨⟩⟩,⟨q_3,q_4,⟨⟩⟩,⟨⟨v_8a,⟨v_8ba,⟨v_8bba,⟨⟩⟩⟩⟩,⟨v_9a,⟨v_9ba,⟨v_9bba,⟨⟩⟩⟩⟩,⟨⟩⟩⟩ kx _ h; dsimp only [zq3,z17t] at h; subst h; dsimp only [zq3]; kernel_rfl) xLn)) (by rintro ⟨p0,rows1,columns2,cell3⟩; kernel_rfl)
def zq5 (k:Nat) (p0:Int) (rows1:Int) (columns2:Int):Option zT0:=(zug k p0 rows1 columns2 ()).bind fun r_1=>some (r_1.1,(r_1.2.1,(r_1.2.2.1,r_1.2.2.2)))
def z1qt (k:Nat):FE:=⟨U35,1,U1,fun x=>zq5 k x.1 x.2.1 x.2.2⟩
theorem z1qu (k:Nat):z8 Tryz.prog 174 (z1qt k):=okC za (xTc (z1qs k) xTn) xOn Tryz.f174 (LOn _) xLn (by rintro ⟨p0,rows1,columns2⟩; kernel_rfl)
def zhg (k:Nat):Nat→Int→Int→Int→Int→zT1→zT3→(Int→Option Int)→Option Int
 | 0,_,_,_,_,_,_,_=>none
 | n+1,simplex1,n5,x19,x20,q_4,v_2,e_0=>(if (decide (x20<x19)) then (if 0≤x20∧x20.toNat<List.length q_4 then (q_4[x20.toNat]?).bind fun y_5=>(if (decide (y_5=simplex1)) then e_0 n5 else (if 0≤y_5 then (v_2.2.2.1[y_5.toNat]?).bind fun y_6=>zhg k n simplex1 (z6 (n5+y_6)) x19 (z6 (x20+1)) q_4 v_2 e_0 else none)) else none) else e_0 n5)
def zfm (k:Nat) (s0:List zT1×Int×List Int×List zT0) (simplex1:Int):Option Int:=(if 0≤simplex1 then (s0.1[simplex1.toNat]?).bind fun y_1=>(z8a y_1).bind fun r_2=>(zci k s0.1 (z6 (r_2-1))).bind fun r_3=>zhg k k simplex1 0 (List.length r_3:Int) 0 r_3 s0 (fun n_7=>some n_7) else none)
def z17x:Head:=⟨[(5,V0)],[],[]⟩
def z17y (k:Nat):LD Int:=⟨3,⟨[(1,V0),(2,(.bp 2 [] 0)),(5,V0),(18,(.ref P0 [])),(19,V0),(20,V0)],[(P0,2,U0,false)],[(2,44,V4)]⟩,[(0,z17x)],fun n x kx=>zhg k n x.1.1 x.1.2.2.1 x.1.2.2.2.2.1 x.1.2.2.2.2.2.1 x.2.1.1 x.2.2.1 (fun n5=>kx 0 (z17x.fill ((n5,()),(),()))),k⟩
def z1qv (k:Nat):FE:=⟨(.pr U4 U0),1,U0,fun x=>zfm k x.1 x.2⟩
theorem z10a (k:Nat):z8 Tryz.prog 175 (z1qv k):=okC za (xTc zjv (xTc (zng k) xTn)) xOn Tryz.f175 (orc (z17y k) (LOn _)) (xLo (z17y k) (by rintro n ⟨⟨simplex1,⟨⟩,n5,⟨⟩,x19,x20,⟨⟩⟩,⟨q_4,⟨⟩⟩,⟨v_2,⟨⟩⟩⟩ kx; kernel_rfl) xLn) (by rintro ⟨s0,simplex1⟩; kernel_rfl)
def zq6 (k0:Int) (p1:Int):Option Int:=(if (decide ((Int.tmod k0 2)=0)) then some 1 else some (z6 (p1-1)))
def z1qw:FE:=⟨U19,1,U0,fun x=>zq6 x.1 x.2⟩
theorem z1qx:z8 Tryz.prog 177 (z1qw):=okC za xTn xOn Tryz.f177 (LOn _) xLn (by rintro ⟨k0,p1⟩; kernel_rfl)
end
end Go.Proofs.YtiodkblajaenbaaGreatDoor.Ev
