/- Functions of the program, as plain ones. No conditions. -/
import Derived.Test.YtfinlkoplekgkaaGreatDoorG7
import Derived.KernelRfl
set_option linter.unusedVariables false
set_option maxRecDepth 100000
namespace Go.Proofs.YtfinlkoplekgkaaGreatDoor.Ev
open Go.RowKit
noncomputable section
def zd7 (k:Nat):Nat→Int→(zT0×List zT1)→Int→Int→Int→Int→Int→zT1→zT1→Int→Int→Int→Int→Int→Int→(Int→(zT0×List zT1)→Int→Int→zT1→zT1→Int→Int→Int→Int→Int→Int→Option zT0)→Option zT0
 | 0,_,_,_,_,_,_,_,_,_,_,_,_,_,_,_,_=>none
 | n+1,columns2,cell3,i10,x16,x17,x20,x21,q_3,q_4,v_8a,v_8ba,v_8bba,v_9a,v_9ba,v_9bba,e_2=>(if (decide (x21<x20)) then (zp3 k i10 x21 cell3.1 cell3.2).bind fun r_5=>(if (q_4.length+[r_5].length)*8≤LIM then zd7 k n columns2 cell3 i10 x16 x17 x20 (z6 (x21+1)) q_3 (q_4++[r_5]) v_8a v_8ba v_8bba v_9a v_9ba v_9bba e_2 else none) else e_2 columns2 cell3 x16 x17 q_3 q_4 v_8a v_8ba v_8bba v_9a v_9ba v_9bba)
def zd8 (k:Nat):Nat→Int→(zT0×List zT1)→Int→Int→zT1→zT1→Int→Int→Int→Int→Int→Int→(zT1→zT1→Int→Int→Int→Int→Int→Int→Option zT0)→Option zT0
 | 0,_,_,_,_,_,_,_,_,_,_,_,_,_=>none
 | n+1,columns2,cell3,x16,x17,q_1,q_2,v_8a,v_8ba,v_8bba,v_9a,v_9ba,v_9bba,e_0=>(if (decide (x17<x16)) then zd7 k k columns2 cell3 x17 x16 x17 columns2 0 q_1 q_2 v_8a v_8ba v_8bba v_9a v_9ba v_9bba (fun columns_3 cell_4 x_5 x_6 q_7 q_8 v_8a_9 v_8ba_10 v_8bba_11 v_9a_12 v_9ba_13 v_9bba_14=>zd8 k n columns_3 cell_4 x_5 (z6 (x_6+1)) q_7 q_8 v_8a_9 v_8ba_10 v_8bba_11 v_9a_12 v_9ba_13 v_9bba_14 e_0) else e_0 q_1 q_2 v_8a v_8ba v_8bba v_9a v_9ba v_9bba)
def zta (k:Nat) (p0:Int) (rows1:Int) (columns2:Int) (cell3:zT0×List zT1):Option zT0:=zd8 k k columns2 cell3 rows1 0 [] [] 0 0 0 p0 rows1 columns2 (fun q_15 q_16 v_8a_17 v_8ba_18 v_8bba_19 v_9a_20 v_9ba_21 v_9bba_22=>some (v_9a_20,(v_9ba_21,(v_9bba_22,q_16))))
def z15c:Head:=⟨[(2,V0),(3,(.val U27)),(8,(.bp 8 [] 0)),(9,(.bp 9 [] 0)),(16,V0),(17,V0)],[(P0,2,U0,false),(P1,2,U0,false)],[(8,106,(.st (.pr V0 (.pr V0 (.pr V0 (.ref P0 [])))))),(9,106,(.st (.pr V0 (.pr V0 (.pr V0 (.ref P1 []))))))]⟩
def z15d:Head:=⟨[(2,V0),(3,(.val U27)),(8,(.bp 8 [] 0)),(9,(.bp 9 [] 0)),(10,V0),(16,V0),(17,V0),(20,V0),(21,V0)],[(P0,2,U0,false),(P1,2,U0,false)],[(8,106,(.st (.pr V0 (.pr V0 (.pr V0 (.ref P0 [])))))),(9,106,(.st (.pr V0 (.pr V0 (.pr V0 (.ref P1 []))))))]⟩
def z15e (k:Nat) (n:Nat) (x:z15d.T) (kx:Nat→St→Option zT0):Option zT0:=zd7 k n x.1.1 x.1.2.1 x.1.2.2.2.2.1 x.1.2.2.2.2.2.1 x.1.2.2.2.2.2.2.1 x.1.2.2.2.2.2.2.2.1 x.1.2.2.2.2.2.2.2.2.1 x.2.1.1 x.2.1.2.1 x.2.2.1.1 x.2.2.1.2.1 x.2.2.1.2.2.1 x.2.2.2.1.1 x.2.2.2.1.2.1 x.2.2.2.1.2.2.1 (fun columns2 cell3 x16 x17 q_6 q_7 v_8a v_8ba v_8bba v_9a v_9ba v_9bba=>kx 2 (z15c.fill ((columns2,cell3,(),(),x16,x17,()),(q_6,q_7,()),((v_8a,(v_8ba,(v_8bba,()))),(v_9a,(v_9ba,(v_9bba,()))),()))))
def zp4 (k:Nat):LD zT0:=⟨6,z15d,[(2,z15c)],z15e k,k⟩
def z15f:Head:=⟨[(8,(.bp 8 [] 0)),(9,(.bp 9 [] 0))],[(P0,2,U0,false),(P1,2,U0,false)],[(8,106,(.st (.pr V0 (.pr V0 (.pr V0 (.ref P0 [])))))),(9,106,(.st (.pr V0 (.pr V0 (.pr V0 (.ref P1 []))))))]⟩
def z15g:Head:=⟨[(2,V0),(3,(.val U27)),(8,(.bp 8 [] 0)),(9,(.bp 9 [] 0)),(16,V0),(17,V0)],[(P0,2,U0,false),(P1,2,U0,false)],[(8,106,(.st (.pr V0 (.pr V0 (.pr V0 (.ref P0 [])))))),(9,106,(.st (.pr V0 (.pr V0 (.pr V0 (.ref P1 []))))))]⟩
def z15h (k:Nat) (n:Nat) (x:z15g.T) (kx:Nat→St→Option zT0):Option zT0:=zd8 k n x.1.1 x.1.2.1 x.1.2.2.2.2.1 x.1.2.2.2.2.2.1 x.2.1.1 x.2.1.2.1 x.2.2.1.1 x.2.2.1.2.1 x.2.2.1.2.2.1 x.2.2.2.1.1 x.2.2.2.1.2.1 x.2.2.2.1.2.2.1 (fun q_18 q_19 v_8a v_8ba v_8bba v_9a v_9ba v_9bba=>kx 0 (z15f.fill (((),(),()),(q_18,q_19,()),((v_8a,(v_8ba,(v_8bba,()))),(v_9a,(v_9ba,(v_9bba,()))),()))))
def zp5 (k:Nat):LD zT0:=⟨3,z15g,[(0,z15f)],z15h k,k⟩
def z1ne (k:Nat):FE:=⟨(.pr U0 (.pr U0 (.pr U0 U27))),1,U3,fun x=>zta k x.1 x.2.1 x.2.2.1 x.2.2.2⟩
theorem z1nf (k:Nat):z8 Tryz.prog 156 (z1ne k):=okC zb (xTc (z1nd k) xTn) xOn Tryz.f156 (orc (zp4 k) (orc (zp5 k) (LOn _))) (xLp (zp5 k) (by rintro n ⟨⟨columns2,cell3,⟨⟩,⟨⟩,x16,x17,⟨⟩⟩,⟨q_1,q_2,⟨⟩⟩,⟨⟨v_8a,⟨v_8ba,⟨v_8bba,⟨⟩⟩⟩⟩,⟨v_9a,⟨v_9ba,⟨v_9bba,⟨⟩⟩⟩⟩,⟨⟩⟩⟩ kx _ h; dsimp only [zp5,z15h] at h; subst h; dsimp only [zp5]; kernel_rfl) (xLp (zp4 k) (by rintro n ⟨⟨columns2,cell3,⟨⟩,⟨⟩,i10,x16,x17,x20,x21,⟨⟩⟩,⟨q_3,q_4,⟨⟩⟩,⟨⟨v_8a,⟨v_8ba,⟨v_8bba,⟨⟩⟩⟩⟩,⟨v_9a,⟨v_9ba,⟨v_9bba,⟨⟩⟩⟩⟩,⟨⟩⟩⟩ kx _ h; dsimp only [zp4,z15e] at h; subst h; dsimp only [zp4]; kernel_rfl) xLn)) (by rintro ⟨p0,rows1,columns2,cell3⟩; kernel_rfl)
def zgs (k:Nat) (a0:Int×Int×Int×List Int) (b1:Int×Int×Int×List Int):Option zT0:=(zt9 k b1).bind fun r_1=>(zta k a0.1 a0.2.1 b1.2.2.1 (a0,r_1)).bind fun r_2=>some (r_2.1,(r_2.2.1,(r_2.2.2.1,r_2.2.2.2)))
def z1ng (k:Nat):FE:=⟨(.pr U3 U3),1,U3,fun x=>zgs k x.1 x.2⟩
theorem z1nh (k:Nat):z8 Tryz.prog 119 (z1ng k):=okC zb (xTc (z1na k) (xTc (z1nf k) xTn)) xOn Tryz.f119 (LOn _) xLn (by rintro ⟨a0,b1⟩; kernel_rfl)
def zd9 (k:Nat):Nat→zT1→zT1→Int→Int→(Option Bool)→Option Bool
 | 0,_,_,_,_,_=>none
 | n+1,s10,s21,x12,x13,e_0=>(if (decide (x13<x12)) then (if 0≤x13 then (s10[x13.toNat]?).bind fun y_1=>(if 0≤x13 then (s21[x13.toNat]?).bind fun y_2=>(if (!(decide (y_1=y_2))) then some false else zd9 k n s10 s21 x12 (z6 (x13+1)) e_0) else none) else none) else e_0)
def ztb (k:Nat) (s10:List Int) (s21:List Int):Option Bool:=(if (!(decide ((List.length s10:Int)=(List.length s21:Int)))) then some false else zd9 k k s10 s21 (List.length s10:Int) 0 (some true))
def z15i:Head:=⟨[],[],[]⟩
def z15j (k:Nat):LD Bool:=⟨4,⟨[(0,V1),(1,V1),(12,V0),(13,V0)],[],[]⟩,[(0,z15i)],fun n x kx=>zd9 k n x.1.1 x.1.2.1 x.1.2.2.1 x.1.2.2.2.1 (kx 0 (z15i.fill ((),(),()))),k⟩
def z1ni (k:Nat):FE:=⟨(.pr U5 U5),1,.bool,fun x=>ztb k x.1 x.2⟩
theorem z1nj (k:Nat):z8 Tryz.prog 161 (z1ni k):=okC zb xTn xOn Tryz.f161 (orc (z15j k) (LOn _)) (xLo (z15j k) (by rintro n ⟨⟨s10,s21,x12,x13,⟨⟩⟩,⟨⟩,⟨⟩⟩ kx; kernel_rfl) xLn) (by rintro ⟨s10,s21⟩; kernel_rfl)
def zp6 (k:Nat) (a0:Int×Int×Int×List Int) (b1:Int×Int×Int×List Int):Option Bool:=(if (decide (a0.1=b1.1)) then (if (decide (a0.2.1=b1.2.1)) then (if (decide (a0.2.2.1=b1.2.2.1)) then (ztb k a0.2.2.2 b1.2.2.2).bind fun r_1=>some r_1 else some false) else some false) else some false)
def z1nk (k:Nat):FE:=⟨(.pr U3 U3),1,.bool,fun x=>zp6 k x.1 x.2⟩
theorem z1nl (k:Nat):z8 Tryz.prog 121 (z1nk k):=okC zb (xTc (z1nj k) xTn) xOn Tryz.f121 (LOn _) xLn (by rintro ⟨a0,b1⟩; kernel_rfl)
def z32 (k:Nat):Nat→zT1→Int→Int→Int→zT10→Int→Int→Int→Int→zT1→zT3→(zT1→Int→zT10→Int→Int→Int→Int→zT1→zT3→Option zT12)→Option zT12
 | 0,_,_,_,_,_,_,_,_,_,_,_,_=>none
 | n+1,t6,simplex7,i9,j10,x15,x16,x17,x31,x32,q_4,v_1,e_4=>(if (decide (j10<(List.length t6:Int))) then (z89 k v_1 simplex7 i9).bind fun r_5=>(if 0≤i9∧i9.toNat<List.length q_4 then (q_4[i9.toNat]?).bind fun y_6=>(z89 k v_1 y_6 (z6 (j10-1))).bind fun r_7=>(zgs k r_5 r_7).bind fun r_8=>(z89 k v_1 simplex7 j10).bind fun r_9=>(if 0≤j10∧j10.toNat<List.length q_4 then (q_4[j10.toNat]?).bind fun y_10=>(z89 k v_1 y_10 i9).bind fun r_11=>(zgs k r_9 r_11).bind fun r_12=>(zp6 k (r_8.1,(r_8.2.1,(r_8.2.2.1,r_8.2.2.2))) (r_12.1,(r_12.2.1,(r_12.2.2.1,r_12.2.2.2)))).bind fun r_13=>(if (!r_13) then (if 0≤i9∧i9.toNat<List.length q_4 then (q_4[i9.toNat]?).bind fun y_14=>(z9i k v_1.1 y_14).bind fun r_15=>(if 0≤(z6 (j10-1))∧(z6 (j10-1)).toNat<List.length r_15 then (r_15[(z6 (j10-1)).toNat]?).bind fun y_16=>some (simplex7,y_16,true) else none) else none) else z32 k n t6 simplex7 i9 (z6 (j10+1)) x15 x16 x17 x31 x32 q_4 v_1 e_4) else none) else none) else e_4 t6 simplex7 x15 x16 x17 x31 x32 q_4 v_1)
def z69 (k:Nat):Nat→zT1→Int→zT10→Int→Int→Int→Int→zT1→zT3→(zT10→Int→Int→zT3→Option zT12)→Option zT12
 | 0,_,_,_,_,_,_,_,_,_,_=>none
 | n+1,t6,simplex7,x15,x16,x17,x31,x32,q_3,v_1,e_2=>(if (decide (x32<x31)) then z32 k k t6 simplex7 x32 (z6 (x32+1)) x15 x16 x17 x31 x32 q_3 v_1 (fun t_4 simplex_5 x_6 x_7 x_8 x_9 x_10 q_11 v_12=>z69 k n t_4 simplex_5 x_6 x_7 x_8 x_9 (z6 (x_10+1)) q_11 v_12 e_2) else e_2 x15 x16 x17 v_1)
def z8b (k:Nat):Nat→zT10→Int→Int→zT3→(Option zT12)→Option zT12
 | 0,_,_,_,_,_=>none
 | n+1,x15,x16,x17,v_1,e_0=>(if (decide (x17<x16)) then (if 0≤x17 then (x15[x17.toNat]?).bind fun y_1=>(if (decide ((List.length y_1:Int)<3)) then z8b k n x15 x16 (z6 (x17+1)) v_1 e_0 else (z9i k v_1.1 x17).bind fun r_2=>z69 k k y_1 x17 x15 x16 x17 (List.length y_1:Int) 0 r_2 v_1 (fun x_3 x_4 x_5 v_6=>z8b k n x_3 x_4 (z6 (x_5+1)) v_6 e_0)) else none) else e_0)
def zfe (k:Nat) (s0:List zT1×Int×List Int×List zT0):Option zT12:=z8b k k s0.1 (List.length s0.1:Int) 0 s0 (some (0,0,false))
def z15k:Head:=⟨[(1,(.bp 1 [] 0)),(6,V1),(7,V0),(8,(.ref P0 [])),(15,V3),(16,V0),(17,V0),(31,V0),(32,V0)],[(P0,2,U0,false)],[(1,42,V4)]⟩
def z15l:Head:=⟨[(1,(.bp 1 [] 0)),(6,V1),(7,V0),(8,(.ref P0 [])),(9,V0),(10,V0),(15,V3),(16,V0),(17,V0),(31,V0),(32,V0)],[(P0,2,U0,false)],[(1,42,V4)]⟩
def z15m (k:Nat) (n:Nat) (x:z15l.T) (kx:Nat→St→Option zT12):Option zT12:=z32 k n x.1.2.1 x.1.2.2.1 x.1.2.2.2.2.1 x.1.2.2.2.2.2.1 x.1.2.2.2.2.2.2.1 x.1.2.2.2.2.2.2.2.1 x.1.2.2.2.2.2.2.2.2.1 x.1.2.2.2.2.2.2.2.2.2.1 x.1.2.2.2.2.2.2.2.2.2.2.1 x.2.1.1 x.2.2.1 (fun t6 simplex7 x15 x16 x17 x31 x32 q_17 v_1=>kx 4 (z15k.fill (((),t6,simplex7,(),x15,x16,x17,x31,x32,()),(q_17,()),(v_1,()))))
def zp7 (k:Nat):LD zT12:=⟨11,z15l,[(4,z15k)],z15m k,k⟩
def z15n:Head:=⟨[(1,(.bp 1 [] 0)),(15,V3),(16,V0),(17,V0)],[],[(1,42,V4)]⟩
def z15o:Head:=⟨[(1,(.bp 1 [] 0)),(6,V1),(7,V0),(8,(.ref P0 [])),(15,V3),(16,V0),(17,V0),(31,V0),(32,V0)],[(P0,2,U0,false)],[(1,42,V4)]⟩
def z15p (k:Nat) (n:Nat) (x:z15o.T) (kx:Nat→St→Option zT12):Option zT12:=z69 k n x.1.2.1 x.1.2.2.1 x.1.2.2.2.2.1 x.1.2.2.2.2.2.1 x.1.2.2.2.2.2.2.1 x.1.2.2.2.2.2.2.2.1 x.1.2.2.2.2.2.2.2.2.1 x.2.1.1 x.2.2.1 (fun x15 x16 x17 v_1=>kx 2 (z15n.fill (((),x15,x16,x17,()),(),(v_1,()))))
def zp8 (k:Nat):LD zT12:=⟨8,z15o,[(2,z15n)],z15p k,k⟩
def z15q:Head:=⟨[],[],[]⟩
def z15r (k:Nat):LD zT12:=⟨2,⟨[(1,(.bp 1 [] 0)),(15,V3),(16,V0),(17,V0)],[],[(1,42,V4)]⟩,[(0,z15q)],fun n x kx=>z8b k n x.1.2.1 x.1.2.2.1 x.1.2.2.2.1 x.2.2.1 (kx 0 (z15q.fill ((),(),()))),k⟩
def z1nm (k:Nat):FE:=⟨U1,3,(.pr U0 (.pr U0 .bool)),fun x=>zfe k x⟩
theorem z1gs (k:Nat):z8 Tryz.prog 79 (z1nm k):=okC zb (xTc (zsy k) (xTc (z14z k) (xTc (z1nh k) (xTc (z1nl k) xTn)))) xOn Tryz.f79 (orc (zp7 k) (orc (zp8 k) (orc (z15r k) (LOn _)))) (xLo (z15r k) (by rintro n ⟨⟨⟨⟩,x15,x16,x17,⟨⟩⟩,⟨⟩,⟨v_1,⟨⟩⟩⟩ kx; kernel_rfl) (xLp (zp8 k) (by rintro n ⟨⟨⟨⟩,t6,simplex7,⟨⟩,x15,x16,x17,x31,x32,⟨⟩⟩,⟨q_3,⟨⟩⟩,⟨v_1,⟨⟩⟩⟩ kx _ h; dsimp only [zp8,z15p] at h; subst h; dsimp only [zp8]; kernel_rfl) (xLp (zp7 k) (by rintro n ⟨⟨⟨⟩,t6,simplex7,⟨⟩,i9,j10,x15,x16,x17,x31,x32,⟨⟩⟩,⟨q_4,⟨⟩⟩,⟨v_1,⟨⟩⟩⟩ kx _ h; dsimp only [zp7,z15m] at h; subst h; dsimp only [zp7]; kernel_rfl) xLn))) (by rintro s0; kernel_rfl)
def ztc (n0:Int):Option Bool:=(z47 n0 (-1000000000000) 1000000000000).bind fun r_1=>some r_1
def z1nn:FE:=⟨U0,1,.bool,fun x=>ztc x⟩
theorem z1no:z8 Tryz.prog 124 (z1nn):=okC zb (xTc z84 xTn) xOn Tryz.f124 (LOn _) xLn (by rintro n0; kernel_rfl)
def ztd (n0:Int):Option Bool:=(ztc n0).bind fun r_1=>some (!r_1)
def z1np:FE:=⟨U0,1,.bool,fun x=>ztd x⟩
theorem z1nq:z8 Tryz.prog 123 (z1np):=okC zb (xTc z1no xTn) xOn Tryz.f123 (LOn _) xLn (by rintro n0; kernel_rfl)
def zgt (k:Nat):Nat→zT1→Unit→Int→Int→(Option Int)→Option Int
 | 0,_,_,_,_,_=>none
 | n+1,s0,f1,x7,x8,e_0=>(if (decide (x8<x7)) then (if 0≤x8 then (s0[x8.toNat]?).bind fun y_1=>(ztd y_1).bind fun r_2=>(if r_2 then some x8 else zgt k n s0 f1 x7 (z6 (x8+1)) e_0) else none) else e_0)
def zte (k:Nat) (s0:List Int) (f1:Unit):Option Int:=zgt k k s0 f1 (List.length s0:Int) 0 (some (-1))
def z15s:Head:=⟨[],[],[]⟩
def z15t (k:Nat):LD Int:=⟨2,⟨[(0,V1),(1,(.val (.fn 123 .un))),(7,V0),(8,V0)],[],[]⟩,[(0,z15s)],fun n x kx=>zgt k n x.1.1 x.1.2.1 x.1.2.2.1 x.1.2.2.2.1 (kx 0 (z15s.fill ((),(),()))),k⟩
def z1nr (k:Nat):FE:=⟨(.pr U5 (.fn 123 .un)),1,U0,fun x=>zte k x.1 x.2⟩
theorem z1ns (k:Nat):z8 Tryz.prog 162 (z1nr k):=okC zb (xTc z1nq xTn) xOn Tryz.f162 (orc (z15t k) (LOn _)) (xLo (z15t k) (by rintro n ⟨⟨s0,f1,x7,x8,⟨⟩⟩,⟨⟩,⟨⟩⟩ kx; kernel_rfl) xLn) (by rintro ⟨s0,f1⟩; kernel_rfl)
def zp9 (k:Nat) (s0:List Int) (f1:Unit):Option Bool:=(zte k s0 f1).bind fun r_1=>some (decide (0≤r_1))
def z1nt (k:Nat):FE:=⟨(.pr U5 (.fn 123 .un)),1,.bool,fun x=>zp9 k x.1 x.2⟩
theorem z1nu (k:Nat):z8 Tryz.prog 122 (z1nt k):=okC zb (xTc (z1ns k) xTn) xOn Tryz.f122 (LOn _) xLn (by rintro ⟨s0,f1⟩; kernel_rfl)
def z15u (n:Int) (b:Int):Option zT14:=if b=10 ∧ -9223372036854775808≤n∧n≤9223372036854775807 then some (Lib.itoa n) else none
abbrev fe_strconv_FormatInt:FE:=fe_formatInt
theorem z1nv:z8 Tryz.prog 136 fe_strconv_FormatInt:=z1eg (fn:=Tryz.f136) (cd:=z45 Tryz.f136) (by kernel_rfl) (by kernel_rfl) (by kernel_rfl) (fun n h0 h1 w hG=>Go.Proofs.Tryz.strconv_FormatInt_10 n h0 h1 w hG)
def ziw (n0:Int):Option zT14:=(z15u n0 10).bind fun r_1=>some r_1
def z1nw:FE:=⟨U0,1,.str,fun x=>ziw x⟩
theorem zzr:z8 Tryz.prog 88 (z1nw):=okC zb (xTc z1nv xTn) xOn Tryz.f88 (LOn _) xLn (by rintro n0; kernel_rfl)
def ztf (sep1:List UInt8) (q_1:List zT14):Option ((List UInt8×Unit)×(List zT14×Unit)×Unit):=if List.length q_1≤LIM∧(Lib.join q_1 sep1).length≤LIM then some ((Lib.join q_1 sep1,()),(q_1,()),()) else none
def oc_strings_Join_s:OC:=zif 9
theorem z1nx:z26 Tryz.prog ti 125 oc_strings_Join_s:=z1eh (fn:=Tryz.f125) (cd:=z45 Tryz.f125) (by kernel_rfl) (by kernel_rfl) (by kernel_rfl) (fun bk o c xs sep w h1 h2 h3 h4 h5=>Go.Proofs.Tryz.strings_Join bk o c xs sep w h1 h2 h3 h4 h5) (fun a c sep w=>Go.Proofs.Tryz.strings_Join_none a c sep w)
def zgu (k:Nat):Nat→zT1→Int→Int→(List zT14)→((List zT14)→Option zT14)→Option zT14
 | 0,_,_,_,_,_=>none
 | n+1,x16,x17,x18,q_2,e_0=>(if (decide (x18<x17)) then (if 0≤x18 then (x16[x18.toNat]?).bind fun y_3=>(ziw y_3).bind fun r_4=>(if (q_2.length+[r_4].length)*16≤LIM then zgu k n x16 x17 (z6 (x18+1)) (q_2++[r_4]) e_0 else none) else none) else e_0 q_2)
def zc8 (k:Nat) (list0:List Int):Option zT14:=(if (decide (64<(List.length list0:Int))) then some [] else (zp9 k list0 ()).bind fun r_1=>(if r_1 then some [] else (if (decide ((List.length list0:Int)=0)) then some [45] else zgu k k list0 (List.length list0:Int) 0 [] (fun q_5=>(ztf [44] q_5).bind fun y_6=>some y_6.1.1))))
def z15v:Head:=⟨[(3,(.ref P0 []))],[(P0,9,.str,false)],[]⟩
def z15w (k:Nat):LD zT14:=⟨7,⟨[(3,(.ref P0 [])),(16,V1),(17,V0),(18,V0)],[(P0,9,.str,false)],[]⟩,[(0,z15v)],fun n x kx=>zgu k n x.1.2.1 x.1.2.2.1 x.1.2.2.2.1 x.2.1.1 (fun q_5=>kx 0 (z15v.fill (((),()),(q_5,()),()))),k⟩
def z1ny (k:Nat):FE:=⟨U5,1,.str,fun x=>zc8 k x⟩
theorem zs9 (k:Nat):z8 Tryz.prog 80 (z1ny k):=okC zb (xTc (z1nu k) (xTc zzr xTn)) (xOc 29 z1nx xOn) Tryz.f80 (orc (z15w k) (LOn _)) (xLo (z15w k) (by rintro n ⟨⟨⟨⟩,x16,x17,x18,⟨⟩⟩,⟨q_2,⟨⟩⟩,⟨⟩⟩ kx; kernel_rfl) xLn) (by rintro list0; kernel_rfl)
def ztg (i0:Int) (j1:Int):Option Int:=some 0
def z1nz:FE:=⟨U20,1,U0,fun x=>ztg x.1 x.2⟩
theorem z1o0:z8 Tryz.prog 191 (z1nz):=okC zb xTn xOn Tryz.f191 (LOn _) xLn (by rintro ⟨i0,j1⟩; kernel_rfl)
def zda (k:Nat):Nat→Int→Unit→Int→Int→Int→Int→Int→zT1→zT1→Int→Int→Int→Int→Int→Int→(Int→Unit→Int→Int→zT1→zT1→Int→Int→Int→Int→Int→Int→Option zT0)→Option zT0
 | 0,_,_,_,_,_,_,_,_,_,_,_,_,_,_,_,_=>none
 | n+1,columns2,cell3,i10,x16,x17,x20,x21,q_3,q_4,v_8a,v_8ba,v_8bba,v_9a,v_9ba,v_9bba,e_2=>(if (decide (x21<x20)) then (ztg i10 x21).bind fun r_5=>(if (q_4.length+[r_5].length)*8≤LIM then zda k n columns2 cell3 i10 x16 x17 x20 (z6 (x21+1)) q_3 (q_4++[r_5]) v_8a v_8ba v_8bba v_9a v_9ba v_9bba e_2 else none) else e_2 columns2 cell3 x16 x17 q_3 q_4 v_8a v_8ba v_8bba v_9a v_9ba v_9bba)
def zgv (k:Nat):Nat→Int→Unit→Int→Int→zT1→zT1→Int→Int→Int→Int→Int→Int→(zT1→zT1→Int→Int→Int→Int→Int→Int→Option zT0)→Option zT0
 | 0,_,_,_,_,_,_,_,_,_,_,_,_,_=>none
 | n+1,columns2,cell3,x16,x17,q_1,q_2,v_8a,v_8ba,v_8bba,v_9a,v_9ba,v_9bba,e_0=>(if (decide (x17<x16)) then zda k k columns2 cell3 x17 x16 x17 columns2 0 q_1 q_2 v_8a v_8ba v_8bba v_9a v_9ba v_9bba (fun columns_3 cell_4 x_5 x_6 q_7 q_8 v_8a_9 v_8ba_10 v_8bba_11 v_9a_12 v_9ba_13 v_9bba_14=>zgv k n columns_3 cell_4 x_5 (z6 (x_6+1)) q_7 q_8 v_8a_9 v_8ba_10 v_8bba_11 v_9a_12 v_9ba_13 v_9bba_14 e_0) else e_0 q_1 q_2 v_8a v_8ba v_8bba v_9a v_9ba v_9bba)
def zth (k:Nat) (p0:Int) (rows1:Int) (columns2:Int) (cell3:Unit):Option zT0:=zgv k k columns2 cell3 rows1 0 [] [] 0 0 0 p0 rows1 columns2 (fun q_15 q_16 v_8a_17 v_8ba_18 v_8bba_19 v_9a_20 v_9ba_21 v_9bba_22=>some (v_9a_20,(v_9ba_21,(v_9bba_22,q_16))))
def z15x:Head:=⟨[(2,V0),(3,(.val (.fn 191 .un))),(8,(.bp 8 [] 0)),(9,(.bp 9 [] 0)),(16,V0),(17,V0)],[(P0,2,U0,false),(P1,2,U0,false)],[(8,106,(.st (.pr V0 (.pr V0 (.pr V0 (.ref P0 [])))))),(9,106,(.st (.pr V0 (.pr V0 (.pr V0 (.ref P1 []))))))]⟩
def z15y:Head:=⟨[(2,V0),(3,(.val (.fn 191 .un))),(8,(.bp 8 [] 0)),(9,(.bp 9 [] 0)),(10,V0),(16,V0),(17,V0),(20,V0),(21,V0)],[(P0,2,U0,false),(P1,2,U0,false)],[(8,106,(.st (.pr V0 (.pr V0 (.pr V0 (.ref P0 [])))))),(9,106,(.st (.pr V0 (.pr V0 (.pr V0 (.ref P1 []))))))]⟩
def z15z (k:Nat) (n:Nat) (x:z15y.T) (kx:Nat→St→Option zT0):Option zT0:=zda k n x.1.1 x.1.2.1 x.1.2.2.2.2.1 x.1.2.2.2.2.2.1 x.1.2.2.2.2.2.2.1 x.1.2.2.2.2.2.2.2.1 x.1.2.2.2.2.2.2.2.2.1 x.2.1.1 x.2.1.2.1 x.2.2.1.1 x.2.2.1.2.1 x.2.2.1.2.2.1 x.2.2.2.1.1 x.2.2.2.1.2.1 x.2.2.2.1.2.2.1 (fun columns2 cell3 x16 x17 q_6 q_7 v_8a v_8ba v_8bba v_9a v_9ba v_9bba=>kx 2 (z15x.fill ((columns2,cell3,(),(),x16,x17,()),(q_6,q_7,()),((v_8a,(v_8ba,(v_8bba,()))),(v_9a,(v_9ba,(v_9bba,()))),()))))
def zpa (k:Nat):LD zT0:=⟨6,z15y,[(2,z15x)],z15z k,k⟩
def z160:Head:=⟨[(8,(.bp 8 [] 0)),(9,(.bp 9 [] 0))],[(P0,2,U0,false),(P1,2,U0,false)],[(8,106,(.st (.pr V0 (.pr V0 (.pr V0 (.ref P0 [])))))),(9,106,(.st (.pr V0 (.pr V0 (.pr V0 (.ref P1 []))))))]⟩
def z161:Head:=⟨[(2,V0),(3,(.val (.fn 191 .un))),(8,(.bp 8 [] 0)),(9,(.bp 9 [] 0)),(16,V0),(17,V0)],[(P0,2,U0,false),(P1,2,U0,false)],[(8,106,(.st (.pr V0 (.pr V0 (.pr V0 (.ref P0 [])))))),(9,106,(.st (.pr V0 (.pr V0 (.pr V0 (.ref P1 []))))))]⟩
def z162 (k:Nat) (n:Nat) (x:z161.T) (kx:Nat→St→Option zT0):Option zT0:=zgv k n x.1.1 x.1.2.1 x.1.2.2.2.2.1 x.1.2.2.2.2.2.1 x.2.1.1 x.2.1.2.1 x.2.2.1.1 x.2.2.1.2.1 x.2.2.1.2.2.1 x.2.2.2.1.1 x.2.2.2.1.2.1 x.2.2.2.1.2.2.1 (fun q_18 q_19 v_8a v_8ba v_8bba v_9a v_9ba v_9bba=>kx 0 (z160.fill (((),(),()),(q_18,q_19,()),((v_8a,(v_8ba,(v_8bba,()))),(v_9a,(v_9ba,(v_9bba,()))),()))))
def zpb (k:Nat):LD zT0:=⟨3,z161,[(0,z160)],z162 k,k⟩
def z1o1 (k:Nat):FE:=⟨(.pr U0 (.pr U0 (.pr U0 (.fn 191 .un)))),1,U3,fun x=>zth k x.1 x.2.1 x.2.2.1 x.2.2.2⟩
theorem z1o2 (k:Nat):z8 Tryz.prog 156 (z1o1 k):=okC zb (xTc z1o0 xTn) xOn Tryz.f156 (orc (zpa k) (orc (zpb k) (LOn _))) (xLp (zpb k) (by rintro n ⟨⟨columns2,cell3,⟨⟩,⟨⟩,x16,x17,⟨⟩⟩,⟨q_1,q_2,⟨⟩⟩,⟨⟨v_8a,⟨v_8ba,⟨v_8bba,⟨⟩⟩⟩⟩,⟨v_9a,⟨v_9ba,⟨v_9bba,⟨⟩⟩⟩⟩,⟨⟩⟩⟩ kx _ h; dsimp only [zpb,z162] at h; subst h; dsimp only [zpb]; kernel_rfl) (xLp (zpa k) (by rintro n ⟨⟨columns2,cell3,⟨⟩,⟨⟩,i10,x16,x17,x20,x21,⟨⟩⟩,⟨q_3,q_4,⟨⟩⟩,⟨⟨v_8a,⟨v_8ba,⟨v_8bba,⟨⟩⟩⟩⟩,⟨v_9a,⟨v_9ba,⟨v_9bba,⟨⟩⟩⟩⟩,⟨⟩⟩⟩ kx _ h; dsimp only [zpa,z15z] at h; subst h; dsimp only [zpa]; kernel_rfl) xLn)) (by rintro ⟨p0,rows1,columns2,cell3⟩; kernel_rfl)
def zpc (k:Nat) (p0:Int) (rows1:Int) (columns2:Int):Option zT0:=(zth k p0 rows1 columns2 ()).bind fun r_1=>some (r_1.1,(r_1.2.1,(r_1.2.2.1,r_1.2.2.2)))
def z1o3 (k:Nat):FE:=⟨U34,1,U3,fun x=>zpc k x.1 x.2.1 x.2.2⟩
theorem z1o4 (k:Nat):z8 Tryz.prog 167 (z1o3 k):=okC zb (xTc (z1o2 k) xTn) xOn Tryz.f167 (LOn _) xLn (by rintro ⟨p0,rows1,columns2⟩; kernel_rfl)
def zgw (k:Nat):Nat→Int→Int→Int→Int→zT1→zT3→(Int→Option Int)→Option Int
 | 0,_,_,_,_,_,_,_=>none
 | n+1,simplex1,n5,x19,x20,q_4,v_2,e_0=>(if (decide (x20<x19)) then (if 0≤x20∧x20.toNat<List.length q_4 then (q_4[x20.toNat]?).bind fun y_5=>(if (decide (y_5=simplex1)) then e_0 n5 else (if 0≤y_5 then (v_2.2.2.1[y_5.toNat]?).bind fun y_6=>zgw k n simplex1 (z6 (n5+y_6)) x19 (z6 (x20+1)) q_4 v_2 e_0 else none)) else none) else e_0 n5)
def zff (k:Nat) (s0:List zT1×Int×List Int×List zT0) (simplex1:Int):Option Int:=(if 0≤simplex1 then (s0.1[simplex1.toNat]?).bind fun y_1=>(z88 y_1).bind fun r_2=>(zca k s0.1 (z6 (r_2-1))).bind fun r_3=>zgw k k simplex1 0 (List.length r_3:Int) 0 r_3 s0 (fun n_7=>some n_7) else none)
def z163:Head:=⟨[(5,V0)],[],[]⟩
def z165 (k:Nat):LD Int:=⟨3,⟨[(1,V0),(2,(.bp 2 [] 0)),(5,V0),(18,(.ref P0 [])),(19,V0),(20,V0)],[(P0,2,U0,false)],[(2,42,V4)]⟩,[(0,z163)],fun n x kx=>zgw k n x.1.1 x.1.2.2.1 x.1.2.2.2.2.1 x.1.2.2.2.2.2.1 x.2.1.1 x.2.2.1 (fun n5=>kx 0 (z163.fill ((n5,()),(),()))),k⟩
def z1o5 (k:Nat):FE:=⟨(.pr U1 U0),1,U0,fun x=>zff k x.1 x.2⟩
theorem zz6 (k:Nat):z8 Tryz.prog 168 (z1o5 k):=okC zb (xTc zj8 (xTc (zms k) xTn)) xOn Tryz.f168 (orc (z165 k) (LOn _)) (xLo (z165 k) (by rintro n ⟨⟨simplex1,⟨⟩,n5,⟨⟩,x19,x20,⟨⟩⟩,⟨q_4,⟨⟩⟩,⟨v_2,⟨⟩⟩⟩ kx; kernel_rfl) xLn) (by rintro ⟨s0,simplex1⟩; kernel_rfl)
def zpd (k0:Int) (p1:Int):Option Int:=(if (decide ((Int.tmod k0 2)=0)) then some 1 else some (z6 (p1-1)))
def z1o6:FE:=⟨U20,1,U0,fun x=>zpd x.1 x.2⟩
theorem z1o7:z8 Tryz.prog 170 (z1o6):=okC zb xTn xOn Tryz.f170 (LOn _) xLn (by rintro ⟨k0,p1⟩; kernel_rfl)
end
end Go.Proofs.YtfinlkoplekgkaaGreatDoor.Ev
