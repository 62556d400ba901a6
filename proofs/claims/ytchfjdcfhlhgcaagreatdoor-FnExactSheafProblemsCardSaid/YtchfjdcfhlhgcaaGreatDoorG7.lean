/- Functions of the program, as plain ones. No conditions. -/
import Derived.Test.YtchfjdcfhlhgcaaGreatDoorG6
import Derived.KernelRfl
set_option linter.unusedVariables false
set_option maxRecDepth 100000
namespace Go.Proofs.YtchfjdcfhlhgcaaGreatDoor.Ev
open Go.RowKit
noncomputable section
def zca (k:Nat):Nat→Int→zT0→Int→Int→Int→Int→Int→zT1→zT1→Int→Int→Int→Int→Int→Int→(Int→zT0→Int→Int→zT1→zT1→Int→Int→Int→Int→Int→Int→Option zT0)→Option zT0
 | 0,_,_,_,_,_,_,_,_,_,_,_,_,_,_,_,_=>none
 | n+1,columns2,cell3,i10,x16,x17,x20,x21,q_3,q_4,v_8a,v_8ba,v_8bba,v_9a,v_9ba,v_9bba,e_2=>(if (decide (x21<x20)) then (zrx i10 x21 cell3).bind fun r_5=>(if (q_4.length+[r_5].length)*8≤LIM then zca k n columns2 cell3 i10 x16 x17 x20 (z6 (x21+1)) q_3 (q_4++[r_5]) v_8a v_8ba v_8bba v_9a v_9ba v_9bba e_2 else none) else e_2 columns2 cell3 x16 x17 q_3 q_4 v_8a v_8ba v_8bba v_9a v_9ba v_9bba)
def zcb (k:Nat):Nat→Int→zT0→Int→Int→zT1→zT1→Int→Int→Int→Int→Int→Int→(zT1→zT1→Int→Int→Int→Int→Int→Int→Option zT0)→Option zT0
 | 0,_,_,_,_,_,_,_,_,_,_,_,_,_=>none
 | n+1,columns2,cell3,x16,x17,q_1,q_2,v_8a,v_8ba,v_8bba,v_9a,v_9ba,v_9bba,e_0=>(if (decide (x17<x16)) then zca k k columns2 cell3 x17 x16 x17 columns2 0 q_1 q_2 v_8a v_8ba v_8bba v_9a v_9ba v_9bba (fun columns_3 cell_4 x_5 x_6 q_7 q_8 v_8a_9 v_8ba_10 v_8bba_11 v_9a_12 v_9ba_13 v_9bba_14=>zcb k n columns_3 cell_4 x_5 (z6 (x_6+1)) q_7 q_8 v_8a_9 v_8ba_10 v_8bba_11 v_9a_12 v_9ba_13 v_9bba_14 e_0) else e_0 q_1 q_2 v_8a v_8ba v_8bba v_9a v_9ba v_9bba)
def zry (k:Nat) (p0:Int) (rows1:Int) (columns2:Int) (cell3:Int×Int×Int×List Int):Option zT0:=zcb k k columns2 cell3 rows1 0 [] [] 0 0 0 p0 rows1 columns2 (fun q_15 q_16 v_8a_17 v_8ba_18 v_8bba_19 v_9a_20 v_9ba_21 v_9bba_22=>some (v_9a_20,(v_9ba_21,(v_9bba_22,q_16))))
def z12g:Head:=⟨[(2,V0),(3,(.val (.fn 205 U13))),(8,(.bp 8 [] 0)),(9,(.bp 9 [] 0)),(16,V0),(17,V0)],[(P0,2,U0,false),(P1,2,U0,false)],[(8,138,(.st (.pr V0 (.pr V0 (.pr V0 (.ref P0 [])))))),(9,138,(.st (.pr V0 (.pr V0 (.pr V0 (.ref P1 []))))))]⟩
def z12h:Head:=⟨[(2,V0),(3,(.val (.fn 205 U13))),(8,(.bp 8 [] 0)),(9,(.bp 9 [] 0)),(10,V0),(16,V0),(17,V0),(20,V0),(21,V0)],[(P0,2,U0,false),(P1,2,U0,false)],[(8,138,(.st (.pr V0 (.pr V0 (.pr V0 (.ref P0 [])))))),(9,138,(.st (.pr V0 (.pr V0 (.pr V0 (.ref P1 []))))))]⟩
def z12i (k:Nat) (n:Nat) (x:z12h.T) (kx:Nat→St→Option zT0):Option zT0:=zca k n x.1.1 x.1.2.1 x.1.2.2.2.2.1 x.1.2.2.2.2.2.1 x.1.2.2.2.2.2.2.1 x.1.2.2.2.2.2.2.2.1 x.1.2.2.2.2.2.2.2.2.1 x.2.1.1 x.2.1.2.1 x.2.2.1.1 x.2.2.1.2.1 x.2.2.1.2.2.1 x.2.2.2.1.1 x.2.2.2.1.2.1 x.2.2.2.1.2.2.1 (fun columns2 cell3 x16 x17 q_6 q_7 v_8a v_8ba v_8bba v_9a v_9ba v_9bba=>kx 2 (z12g.fill ((columns2,cell3,(),(),x16,x17,()),(q_6,q_7,()),((v_8a,(v_8ba,(v_8bba,()))),(v_9a,(v_9ba,(v_9bba,()))),()))))
def zna (k:Nat):LD zT0:=⟨6,z12h,[(2,z12g)],z12i k,k⟩
def z12j:Head:=⟨[(8,(.bp 8 [] 0)),(9,(.bp 9 [] 0))],[(P0,2,U0,false),(P1,2,U0,false)],[(8,138,(.st (.pr V0 (.pr V0 (.pr V0 (.ref P0 [])))))),(9,138,(.st (.pr V0 (.pr V0 (.pr V0 (.ref P1 []))))))]⟩
def z12k:Head:=⟨[(2,V0),(3,(.val (.fn 205 U13))),(8,(.bp 8 [] 0)),(9,(.bp 9 [] 0)),(16,V0),(17,V0)],[(P0,2,U0,false),(P1,2,U0,false)],[(8,138,(.st (.pr V0 (.pr V0 (.pr V0 (.ref P0 [])))))),(9,138,(.st (.pr V0 (.pr V0 (.pr V0 (.ref P1 []))))))]⟩
def z12l (k:Nat) (n:Nat) (x:z12k.T) (kx:Nat→St→Option zT0):Option zT0:=zcb k n x.1.1 x.1.2.1 x.1.2.2.2.2.1 x.1.2.2.2.2.2.1 x.2.1.1 x.2.1.2.1 x.2.2.1.1 x.2.2.1.2.1 x.2.2.1.2.2.1 x.2.2.2.1.1 x.2.2.2.1.2.1 x.2.2.2.1.2.2.1 (fun q_18 q_19 v_8a v_8ba v_8bba v_9a v_9ba v_9bba=>kx 0 (z12j.fill (((),(),()),(q_18,q_19,()),((v_8a,(v_8ba,(v_8bba,()))),(v_9a,(v_9ba,(v_9bba,()))),()))))
def znb (k:Nat):LD zT0:=⟨3,z12k,[(0,z12j)],z12l k,k⟩
def z1jn (k:Nat):FE:=⟨(.pr U0 (.pr U0 (.pr U0 (.fn 205 U13)))),1,U1,fun x=>zry k x.1 x.2.1 x.2.2.1 x.2.2.2⟩
theorem z1jo (k:Nat):z8 Tryz.prog 144 (z1jn k):=okC zb (xTc z1jm xTn) xOn Tryz.f144 (orc (zna k) (orc (znb k) (LOn _))) (xLp (znb k) (by rintro n ⟨⟨columns2,cell3,⟨⟩,⟨⟩,x16,x17,⟨⟩⟩,⟨q_1,q_2,⟨⟩⟩,⟨⟨v_8a,⟨v_8ba,⟨v_8bba,⟨⟩⟩⟩⟩,⟨v_9a,⟨v_9ba,⟨v_9bba,⟨⟩⟩⟩⟩,⟨⟩⟩⟩ kx _ h; dsimp only [znb,z12l] at h; subst h; dsimp only [znb]; kernel_rfl) (xLp (zna k) (by rintro n ⟨⟨columns2,cell3,⟨⟩,⟨⟩,i10,x16,x17,x20,x21,⟨⟩⟩,⟨q_3,q_4,⟨⟩⟩,⟨⟨v_8a,⟨v_8ba,⟨v_8bba,⟨⟩⟩⟩⟩,⟨v_9a,⟨v_9ba,⟨v_9bba,⟨⟩⟩⟩⟩,⟨⟩⟩⟩ kx _ h; dsimp only [zna,z12i] at h; subst h; dsimp only [zna]; kernel_rfl) xLn)) (by rintro ⟨p0,rows1,columns2,cell3⟩; kernel_rfl)
def znc (k:Nat) (m0:Int×Int×Int×List Int):Option zT0:=(zry k m0.1 m0.2.2.1 m0.2.1 m0).bind fun r_1=>some (r_1.1,(r_1.2.1,(r_1.2.2.1,r_1.2.2.2)))
def z1jp (k:Nat):FE:=⟨U1,1,U1,fun x=>znc k x⟩
theorem z1jq (k:Nat):z8 Tryz.prog 185 (z1jp k):=okC zb (xTc (z1jo k) xTn) xOn Tryz.f185 (LOn _) xLn (by rintro m0; kernel_rfl)
def z7o (m0:Int×Int×Int×List Int) (i1:Int):Option zT1:=(if 0≤(z6 (i1*m0.2.2.1))∧(z6 (i1*m0.2.2.1))≤(z6 ((z6 (i1+1))*m0.2.2.1))∧(z6 ((z6 (i1+1))*m0.2.2.1))≤m0.2.2.2.length then some ((m0.2.2.2.drop ((z6 (i1*m0.2.2.1)).toNat)).take ((z6 ((z6 (i1+1))*m0.2.2.1)).toNat-(z6 (i1*m0.2.2.1)).toNat)) else none)
def z1jr:FE:=⟨(.pr U1 U0),RON,U5,fun x=>z7o x.1 x.2⟩
theorem zrz:z8 Tryz.prog 147 (z1jr):=okV zb xTn xOn Tryz.f147 (LOn _) xLn (by rintro ⟨m0,i1⟩; kernel_rfl)
def znd (s0:List Int):Option zT1:=(if List.isEmpty s0 then zgk (some []) ((if (([]:List Unit).length+s0.length)*8≤LIM then some s0 else none)) else (if (([]:List Unit).length+s0.length)*8≤LIM then some s0 else none))
def z1js:FE:=⟨U5,1,U5,fun x=>znd x⟩
theorem z1jt:z8 Tryz.prog 190 (z1js):=okC zb xTn xOn Tryz.f190 (LOn _) xLn (by rintro s0; kernel_rfl)
def zfp (k:Nat):Nat→Int→Int→zT8→zT0→(zT8→Option zT8)→Option zT8
 | 0,_,_,_,_,_=>none
 | n+1,x6,x7,q_1,v_1,e_0=>(if (decide (x7<x6)) then (z7o v_1 x7).bind fun r_2=>(znd r_2).bind fun r_3=>(if (q_1.length+[r_3].length)*24≤LIM then zfp k n x6 (z6 (x7+1)) (q_1++[r_3]) v_1 e_0 else none) else e_0 q_1)
def zi5 (k:Nat) (m0:Int×Int×Int×List Int):Option zT8:=zfp k k m0.2.1 0 [] m0 (fun q_4=>some q_4)
def z12m:Head:=⟨[(3,(.ref P0 []))],[(P0,25,U5,false)],[]⟩
def z12n (k:Nat):LD zT8:=⟨3,⟨[(1,(.bp 1 [] 0)),(3,(.ref P0 [])),(6,V0),(7,V0)],[(P0,25,U5,false)],[(1,138,V7)]⟩,[(0,z12m)],fun n x kx=>zfp k n x.1.2.2.1 x.1.2.2.2.1 x.2.1.1 x.2.2.1 (fun q_4=>kx 0 (z12m.fill (((),()),(q_4,()),()))),k⟩
def z1ju (k:Nat):FE:=⟨U1,1,U15,fun x=>zi5 k x⟩
theorem z12o (k:Nat):z8 Tryz.prog 160 (z1ju k):=okC zb (xTc zrz (xTc z1jt xTn)) xOn Tryz.f160 (orc (z12n k) (LOn _)) (xLo (z12n k) (by rintro n ⟨⟨⟨⟩,⟨⟩,x6,x7,⟨⟩⟩,⟨q_1,⟨⟩⟩,⟨v_1,⟨⟩⟩⟩ kx; kernel_rfl) xLn) (by rintro m0; kernel_rfl)
def zs0 (k:Nat) (m0:Int×Int×Int×List Int):Option zT8:=(znc k m0).bind fun r_1=>(zi5 k (r_1.1,(r_1.2.1,(r_1.2.2.1,r_1.2.2.2)))).bind fun r_2=>some r_2
def z1jv (k:Nat):FE:=⟨U1,1,U15,fun x=>zs0 k x⟩
theorem z1jw (k:Nat):z8 Tryz.prog 143 (z1jv k):=okC zb (xTc (z1jq k) (xTc (z12o k) xTn)) xOn Tryz.f143 (LOn _) xLn (by rintro m0; kernel_rfl)
def zfq (k:Nat):Nat→zT1→zT1→Int→Int→Int→Int→(Int→Option Int)→Option Int
 | 0,_,_,_,_,_,_,_=>none
 | n+1,a0,b1,p2,sum7,x10,x11,e_0=>(if (decide (x11<x10)) then (if 0≤x11 then (a0[x11.toNat]?).bind fun y_1=>(if 0≤x11 then (b1[x11.toNat]?).bind fun y_2=>(if p2=0 then none else zfq k n a0 b1 p2 (Int.tmod (z6 (sum7+(z6 (y_1*y_2)))) p2) x10 (z6 (x11+1)) e_0) else none) else none) else e_0 sum7)
def zi6 (k:Nat) (a0:List Int) (b1:List Int) (p2:Int):Option Int:=zfq k k a0 b1 p2 0 (List.length a0:Int) 0 (fun sum_3=>some sum_3)
def z12p:Head:=⟨[(7,V0)],[],[]⟩
def z12q (k:Nat):LD Int:=⟨3,⟨[(0,V1),(1,V1),(2,V0),(7,V0),(10,V0),(11,V0)],[],[]⟩,[(0,z12p)],fun n x kx=>zfq k n x.1.1 x.1.2.1 x.1.2.2.1 x.1.2.2.2.1 x.1.2.2.2.2.1 x.1.2.2.2.2.2.1 (fun sum7=>kx 0 (z12p.fill ((sum7,()),(),()))),k⟩
def z1jx (k:Nat):FE:=⟨(.pr U5 (.pr U5 U0)),1,U0,fun x=>zi6 k x.1 x.2.1 x.2.2⟩
theorem z12r (k:Nat):z8 Tryz.prog 146 (z1jx k):=okC zb xTn xOn Tryz.f146 (orc (z12q k) (LOn _)) (xLo (z12q k) (by rintro n ⟨⟨a0,b1,p2,sum7,x10,x11,⟨⟩⟩,⟨⟩,⟨⟩⟩ kx; kernel_rfl) xLn) (by rintro ⟨a0,b1,p2⟩; kernel_rfl)
def zne (k:Nat) (i0:Int) (j1:Int) (x2:Int×Int×Int×List Int) (x3:List zT1):Option Int:=(z7o x2 i0).bind fun r_1=>(if 0≤j1 then (x3[j1.toNat]?).bind fun y_2=>(zi6 k r_1 y_2 x2.1).bind fun r_3=>some r_3 else none)
def z1jy (k:Nat):FE:=⟨(.pr U0 (.pr U0 (.pr U13 (.ptr U15)))),1,U0,fun x=>zne k x.1 x.2.1 x.2.2.1 x.2.2.2⟩
theorem z1jz (k:Nat):z8 Tryz.prog 145 (z1jy k):=okC zb (xTc zrz (xTc (z12r k) xTn)) xOn Tryz.f145 (LOn _) xLn (by rintro ⟨i0,j1,x2,x3⟩; kernel_rfl)
def zcc (k:Nat):Nat→Int→(zT0×List zT1)→Int→Int→Int→Int→Int→zT1→zT1→Int→Int→Int→Int→Int→Int→(Int→(zT0×List zT1)→Int→Int→zT1→zT1→Int→Int→Int→Int→Int→Int→Option zT0)→Option zT0
 | 0,_,_,_,_,_,_,_,_,_,_,_,_,_,_,_,_=>none
 | n+1,columns2,cell3,i10,x16,x17,x20,x21,q_3,q_4,v_8a,v_8ba,v_8bba,v_9a,v_9ba,v_9bba,e_2=>(if (decide (x21<x20)) then (zne k i10 x21 cell3.1 cell3.2).bind fun r_5=>(if (q_4.length+[r_5].length)*8≤LIM then zcc k n columns2 cell3 i10 x16 x17 x20 (z6 (x21+1)) q_3 (q_4++[r_5]) v_8a v_8ba v_8bba v_9a v_9ba v_9bba e_2 else none) else e_2 columns2 cell3 x16 x17 q_3 q_4 v_8a v_8ba v_8bba v_9a v_9ba v_9bba)
def zcd (k:Nat):Nat→Int→(zT0×List zT1)→Int→Int→zT1→zT1→Int→Int→Int→Int→Int→Int→(zT1→zT1→Int→Int→Int→Int→Int→Int→Option zT0)→Option zT0
 | 0,_,_,_,_,_,_,_,_,_,_,_,_,_=>none
 | n+1,columns2,cell3,x16,x17,q_1,q_2,v_8a,v_8ba,v_8bba,v_9a,v_9ba,v_9bba,e_0=>(if (decide (x17<x16)) then zcc k k columns2 cell3 x17 x16 x17 columns2 0 q_1 q_2 v_8a v_8ba v_8bba v_9a v_9ba v_9bba (fun columns_3 cell_4 x_5 x_6 q_7 q_8 v_8a_9 v_8ba_10 v_8bba_11 v_9a_12 v_9ba_13 v_9bba_14=>zcd k n columns_3 cell_4 x_5 (z6 (x_6+1)) q_7 q_8 v_8a_9 v_8ba_10 v_8bba_11 v_9a_12 v_9ba_13 v_9bba_14 e_0) else e_0 q_1 q_2 v_8a v_8ba v_8bba v_9a v_9ba v_9bba)
def zs1 (k:Nat) (p0:Int) (rows1:Int) (columns2:Int) (cell3:zT0×List zT1):Option zT0:=zcd k k columns2 cell3 rows1 0 [] [] 0 0 0 p0 rows1 columns2 (fun q_15 q_16 v_8a_17 v_8ba_18 v_8bba_19 v_9a_20 v_9ba_21 v_9bba_22=>some (v_9a_20,(v_9ba_21,(v_9bba_22,q_16))))
def z12s:Head:=⟨[(2,V0),(3,(.val U26)),(8,(.bp 8 [] 0)),(9,(.bp 9 [] 0)),(16,V0),(17,V0)],[(P0,2,U0,false),(P1,2,U0,false)],[(8,138,(.st (.pr V0 (.pr V0 (.pr V0 (.ref P0 [])))))),(9,138,(.st (.pr V0 (.pr V0 (.pr V0 (.ref P1 []))))))]⟩
def z12t:Head:=⟨[(2,V0),(3,(.val U26)),(8,(.bp 8 [] 0)),(9,(.bp 9 [] 0)),(10,V0),(16,V0),(17,V0),(20,V0),(21,V0)],[(P0,2,U0,false),(P1,2,U0,false)],[(8,138,(.st (.pr V0 (.pr V0 (.pr V0 (.ref P0 [])))))),(9,138,(.st (.pr V0 (.pr V0 (.pr V0 (.ref P1 []))))))]⟩
def z12u (k:Nat) (n:Nat) (x:z12t.T) (kx:Nat→St→Option zT0):Option zT0:=zcc k n x.1.1 x.1.2.1 x.1.2.2.2.2.1 x.1.2.2.2.2.2.1 x.1.2.2.2.2.2.2.1 x.1.2.2.2.2.2.2.2.1 x.1.2.2.2.2.2.2.2.2.1 x.2.1.1 x.2.1.2.1 x.2.2.1.1 x.2.2.1.2.1 x.2.2.1.2.2.1 x.2.2.2.1.1 x.2.2.2.1.2.1 x.2.2.2.1.2.2.1 (fun columns2 cell3 x16 x17 q_6 q_7 v_8a v_8ba v_8bba v_9a v_9ba v_9bba=>kx 2 (z12s.fill ((columns2,cell3,(),(),x16,x17,()),(q_6,q_7,()),((v_8a,(v_8ba,(v_8bba,()))),(v_9a,(v_9ba,(v_9bba,()))),()))))
def znf (k:Nat):LD zT0:=⟨6,z12t,[(2,z12s)],z12u k,k⟩
def z12v:Head:=⟨[(8,(.bp 8 [] 0)),(9,(.bp 9 [] 0))],[(P0,2,U0,false),(P1,2,U0,false)],[(8,138,(.st (.pr V0 (.pr V0 (.pr V0 (.ref P0 [])))))),(9,138,(.st (.pr V0 (.pr V0 (.pr V0 (.ref P1 []))))))]⟩
def z12w:Head:=⟨[(2,V0),(3,(.val U26)),(8,(.bp 8 [] 0)),(9,(.bp 9 [] 0)),(16,V0),(17,V0)],[(P0,2,U0,false),(P1,2,U0,false)],[(8,138,(.st (.pr V0 (.pr V0 (.pr V0 (.ref P0 [])))))),(9,138,(.st (.pr V0 (.pr V0 (.pr V0 (.ref P1 []))))))]⟩
def z12x (k:Nat) (n:Nat) (x:z12w.T) (kx:Nat→St→Option zT0):Option zT0:=zcd k n x.1.1 x.1.2.1 x.1.2.2.2.2.1 x.1.2.2.2.2.2.1 x.2.1.1 x.2.1.2.1 x.2.2.1.1 x.2.2.1.2.1 x.2.2.1.2.2.1 x.2.2.2.1.1 x.2.2.2.1.2.1 x.2.2.2.1.2.2.1 (fun q_18 q_19 v_8a v_8ba v_8bba v_9a v_9ba v_9bba=>kx 0 (z12v.fill (((),(),()),(q_18,q_19,()),((v_8a,(v_8ba,(v_8bba,()))),(v_9a,(v_9ba,(v_9bba,()))),()))))
def zng (k:Nat):LD zT0:=⟨3,z12w,[(0,z12v)],z12x k,k⟩
def z1k0 (k:Nat):FE:=⟨(.pr U0 (.pr U0 (.pr U0 U26))),1,U1,fun x=>zs1 k x.1 x.2.1 x.2.2.1 x.2.2.2⟩
theorem z1k1 (k:Nat):z8 Tryz.prog 144 (z1k0 k):=okC zb (xTc (z1jz k) xTn) xOn Tryz.f144 (orc (znf k) (orc (zng k) (LOn _))) (xLp (zng k) (by rintro n ⟨⟨columns2,cell3,⟨⟩,⟨⟩,x16,x17,⟨⟩⟩,⟨q_1,q_2,⟨⟩⟩,⟨⟨v_8a,⟨v_8ba,⟨v_8bba,⟨⟩⟩⟩⟩,⟨v_9a,⟨v_9ba,⟨v_9bba,⟨⟩⟩⟩⟩,⟨⟩⟩⟩ kx _ h; dsimp only [zng,z12x] at h; subst h; dsimp only [zng]; kernel_rfl) (xLp (znf k) (by rintro n ⟨⟨columns2,cell3,⟨⟩,⟨⟩,i10,x16,x17,x20,x21,⟨⟩⟩,⟨q_3,q_4,⟨⟩⟩,⟨⟨v_8a,⟨v_8ba,⟨v_8bba,⟨⟩⟩⟩⟩,⟨v_9a,⟨v_9ba,⟨v_9bba,⟨⟩⟩⟩⟩,⟨⟩⟩⟩ kx _ h; dsimp only [znf,z12u] at h; subst h; dsimp only [znf]; kernel_rfl) xLn)) (by rintro ⟨p0,rows1,columns2,cell3⟩; kernel_rfl)
def zfr (k:Nat) (a0:Int×Int×Int×List Int) (b1:Int×Int×Int×List Int):Option zT0:=(zs0 k b1).bind fun r_1=>(zs1 k a0.1 a0.2.1 b1.2.2.1 (a0,r_1)).bind fun r_2=>some (r_2.1,(r_2.2.1,(r_2.2.2.1,r_2.2.2.2)))
def z1k2 (k:Nat):FE:=⟨(.pr U1 U1),1,U1,fun x=>zfr k x.1 x.2⟩
theorem z1k3 (k:Nat):z8 Tryz.prog 93 (z1k2 k):=okC zb (xTc (z1jw k) (xTc (z1k1 k) xTn)) xOn Tryz.f93 (LOn _) xLn (by rintro ⟨a0,b1⟩; kernel_rfl)
def zce (k:Nat):Nat→zT1→zT1→Int→Int→(Option Bool)→Option Bool
 | 0,_,_,_,_,_=>none
 | n+1,s10,s21,x12,x13,e_0=>(if (decide (x13<x12)) then (if 0≤x13 then (s10[x13.toNat]?).bind fun y_1=>(if 0≤x13 then (s21[x13.toNat]?).bind fun y_2=>(if (!(decide (y_1=y_2))) then some false else zce k n s10 s21 x12 (z6 (x13+1)) e_0) else none) else none) else e_0)
def zs2 (k:Nat) (s10:List Int) (s21:List Int):Option Bool:=(if (!(decide ((List.length s10:Int)=(List.length s21:Int)))) then some false else zce k k s10 s21 (List.length s10:Int) 0 (some true))
def z12y:Head:=⟨[],[],[]⟩
def z12z (k:Nat):LD Bool:=⟨4,⟨[(0,V1),(1,V1),(12,V0),(13,V0)],[],[]⟩,[(0,z12y)],fun n x kx=>zce k n x.1.1 x.1.2.1 x.1.2.2.1 x.1.2.2.2.1 (kx 0 (z12y.fill ((),(),()))),k⟩
def z1k4 (k:Nat):FE:=⟨(.pr U5 U5),1,.bool,fun x=>zs2 k x.1 x.2⟩
theorem z1k5 (k:Nat):z8 Tryz.prog 149 (z1k4 k):=okC zb xTn xOn Tryz.f149 (orc (z12z k) (LOn _)) (xLo (z12z k) (by rintro n ⟨⟨s10,s21,x12,x13,⟨⟩⟩,⟨⟩,⟨⟩⟩ kx; kernel_rfl) xLn) (by rintro ⟨s10,s21⟩; kernel_rfl)
def znh (k:Nat) (a0:Int×Int×Int×List Int) (b1:Int×Int×Int×List Int):Option Bool:=(if (decide (a0.1=b1.1)) then (if (decide (a0.2.1=b1.2.1)) then (if (decide (a0.2.2.1=b1.2.2.1)) then (zs2 k a0.2.2.2 b1.2.2.2).bind fun r_1=>some r_1 else some false) else some false) else some false)
def z1k6 (k:Nat):FE:=⟨(.pr U1 U1),1,.bool,fun x=>znh k x.1 x.2⟩
theorem z1k7 (k:Nat):z8 Tryz.prog 95 (z1k6 k):=okC zb (xTc (z1k5 k) xTn) xOn Tryz.f95 (LOn _) xLn (by rintro ⟨a0,b1⟩; kernel_rfl)
def z2t (k:Nat):Nat→zT1→Int→Int→Int→zT8→Int→Int→Int→Int→zT1→zT3→(zT1→Int→zT8→Int→Int→Int→Int→zT1→zT3→Option zT15)→Option zT15
 | 0,_,_,_,_,_,_,_,_,_,_,_,_=>none
 | n+1,t6,simplex7,i9,j10,x15,x16,x17,x31,x32,q_4,v_1,e_4=>(if (decide (j10<(List.length t6:Int))) then (z7n k v_1 simplex7 i9).bind fun r_5=>(if 0≤i9∧i9.toNat<List.length q_4 then (q_4[i9.toNat]?).bind fun y_6=>(z7n k v_1 y_6 (z6 (j10-1))).bind fun r_7=>(zfr k r_5 r_7).bind fun r_8=>(z7n k v_1 simplex7 j10).bind fun r_9=>(if 0≤j10∧j10.toNat<List.length q_4 then (q_4[j10.toNat]?).bind fun y_10=>(z7n k v_1 y_10 i9).bind fun r_11=>(zfr k r_9 r_11).bind fun r_12=>(znh k (r_8.1,(r_8.2.1,(r_8.2.2.1,r_8.2.2.2))) (r_12.1,(r_12.2.1,(r_12.2.2.1,r_12.2.2.2)))).bind fun r_13=>(if (!r_13) then (if 0≤i9∧i9.toNat<List.length q_4 then (q_4[i9.toNat]?).bind fun y_14=>(z8v k v_1.1 y_14).bind fun r_15=>(if 0≤(z6 (j10-1))∧(z6 (j10-1)).toNat<List.length r_15 then (r_15[(z6 (j10-1)).toNat]?).bind fun y_16=>some (simplex7,y_16,true) else none) else none) else z2t k n t6 simplex7 i9 (z6 (j10+1)) x15 x16 x17 x31 x32 q_4 v_1 e_4) else none) else none) else e_4 t6 simplex7 x15 x16 x17 x31 x32 q_4 v_1)
def z5y (k:Nat):Nat→zT1→Int→zT8→Int→Int→Int→Int→zT1→zT3→(zT8→Int→Int→zT3→Option zT15)→Option zT15
 | 0,_,_,_,_,_,_,_,_,_,_=>none
 | n+1,t6,simplex7,x15,x16,x17,x31,x32,q_3,v_1,e_2=>(if (decide (x32<x31)) then z2t k k t6 simplex7 x32 (z6 (x32+1)) x15 x16 x17 x31 x32 q_3 v_1 (fun t_4 simplex_5 x_6 x_7 x_8 x_9 x_10 q_11 v_12=>z5y k n t_4 simplex_5 x_6 x_7 x_8 x_9 (z6 (x_10+1)) q_11 v_12 e_2) else e_2 x15 x16 x17 v_1)
def z7p (k:Nat):Nat→zT8→Int→Int→zT3→(Option zT15)→Option zT15
 | 0,_,_,_,_,_=>none
 | n+1,x15,x16,x17,v_1,e_0=>(if (decide (x17<x16)) then (if 0≤x17 then (x15[x17.toNat]?).bind fun y_1=>(if (decide ((List.length y_1:Int)<3)) then z7p k n x15 x16 (z6 (x17+1)) v_1 e_0 else (z8v k v_1.1 x17).bind fun r_2=>z5y k k y_1 x17 x15 x16 x17 (List.length y_1:Int) 0 r_2 v_1 (fun x_3 x_4 x_5 v_6=>z7p k n x_3 x_4 (z6 (x_5+1)) v_6 e_0)) else none) else e_0)
def zfs (k:Nat) (s0:List zT1×Int×List Int×List zT0):Option zT15:=z7p k k s0.1 (List.length s0.1:Int) 0 s0 (some (0,0,false))
def z130:Head:=⟨[(1,(.bp 1 [] 0)),(6,V1),(7,V0),(8,(.ref P0 [])),(15,V3),(16,V0),(17,V0),(31,V0),(32,V0)],[(P0,2,U0,false)],[(1,44,V5)]⟩
def z131:Head:=⟨[(1,(.bp 1 [] 0)),(6,V1),(7,V0),(8,(.ref P0 [])),(9,V0),(10,V0),(15,V3),(16,V0),(17,V0),(31,V0),(32,V0)],[(P0,2,U0,false)],[(1,44,V5)]⟩
def z132 (k:Nat) (n:Nat) (x:z131.T) (kx:Nat→St→Option zT15):Option zT15:=z2t k n x.1.2.1 x.1.2.2.1 x.1.2.2.2.2.1 x.1.2.2.2.2.2.1 x.1.2.2.2.2.2.2.1 x.1.2.2.2.2.2.2.2.1 x.1.2.2.2.2.2.2.2.2.1 x.1.2.2.2.2.2.2.2.2.2.1 x.1.2.2.2.2.2.2.2.2.2.2.1 x.2.1.1 x.2.2.1 (fun t6 simplex7 x15 x16 x17 x31 x32 q_17 v_1=>kx 4 (z130.fill (((),t6,simplex7,(),x15,x16,x17,x31,x32,()),(q_17,()),(v_1,()))))
def zni (k:Nat):LD zT15:=⟨11,z131,[(4,z130)],z132 k,k⟩
def z133:Head:=⟨[(1,(.bp 1 [] 0)),(15,V3),(16,V0),(17,V0)],[],[(1,44,V5)]⟩
def z134:Head:=⟨[(1,(.bp 1 [] 0)),(6,V1),(7,V0),(8,(.ref P0 [])),(15,V3),(16,V0),(17,V0),(31,V0),(32,V0)],[(P0,2,U0,false)],[(1,44,V5)]⟩
def z135 (k:Nat) (n:Nat) (x:z134.T) (kx:Nat→St→Option zT15):Option zT15:=z5y k n x.1.2.1 x.1.2.2.1 x.1.2.2.2.2.1 x.1.2.2.2.2.2.1 x.1.2.2.2.2.2.2.1 x.1.2.2.2.2.2.2.2.1 x.1.2.2.2.2.2.2.2.2.1 x.2.1.1 x.2.2.1 (fun x15 x16 x17 v_1=>kx 2 (z133.fill (((),x15,x16,x17,()),(),(v_1,()))))
def znj (k:Nat):LD zT15:=⟨8,z134,[(2,z133)],z135 k,k⟩
def z136:Head:=⟨[],[],[]⟩
def z137 (k:Nat):LD zT15:=⟨2,⟨[(1,(.bp 1 [] 0)),(15,V3),(16,V0),(17,V0)],[],[(1,44,V5)]⟩,[(0,z136)],fun n x kx=>z7p k n x.1.2.1 x.1.2.2.1 x.1.2.2.2.1 x.2.2.1 (kx 0 (z136.fill ((),(),()))),k⟩
def z1k8 (k:Nat):FE:=⟨U2,3,(.pr U0 (.pr U0 .bool)),fun x=>zfs k x⟩
theorem z1k9 (k:Nat):z8 Tryz.prog 48 (z1k8 k):=okC zb (xTc (zrp k) (xTc (z12e k) (xTc (z1k3 k) (xTc (z1k7 k) xTn)))) xOn Tryz.f48 (orc (zni k) (orc (znj k) (orc (z137 k) (LOn _)))) (xLo (z137 k) (by rintro n ⟨⟨⟨⟩,x15,x16,x17,⟨⟩⟩,⟨⟩,⟨v_1,⟨⟩⟩⟩ kx; kernel_rfl) (xLp (znj k) (by rintro n ⟨⟨⟨⟩,t6,simplex7,⟨⟩,x15,x16,x17,x31,x32,⟨⟩⟩,⟨q_3,⟨⟩⟩,⟨v_1,⟨⟩⟩⟩ kx _ h; dsimp only [znj,z135] at h; subst h; dsimp only [znj]; kernel_rfl) (xLp (zni k) (by rintro n ⟨⟨⟨⟩,t6,simplex7,⟨⟩,i9,j10,x15,x16,x17,x31,x32,⟨⟩⟩,⟨q_4,⟨⟩⟩,⟨v_1,⟨⟩⟩⟩ kx _ h; dsimp only [zni,z132] at h; subst h; dsimp only [zni]; kernel_rfl) xLn))) (by rintro s0; kernel_rfl)
def zs3 (n0:Int):Option Bool:=(z3z n0 (-1000000000000) 1000000000000).bind fun r_1=>some r_1
def z1ka:FE:=⟨U0,1,.bool,fun x=>zs3 x⟩
theorem z1kb:z8 Tryz.prog 98 (z1ka):=okC zb (xTc z8t xTn) xOn Tryz.f98 (LOn _) xLn (by rintro n0; kernel_rfl)
def zs4 (n0:Int):Option Bool:=(zs3 n0).bind fun r_1=>some (!r_1)
def z1kc:FE:=⟨U0,1,.bool,fun x=>zs4 x⟩
theorem z1kd:z8 Tryz.prog 97 (z1kc):=okC zb (xTc z1kb xTn) xOn Tryz.f97 (LOn _) xLn (by rintro n0; kernel_rfl)
def zft (k:Nat):Nat→zT1→Unit→Int→Int→(Option Int)→Option Int
 | 0,_,_,_,_,_=>none
 | n+1,s0,f1,x7,x8,e_0=>(if (decide (x8<x7)) then (if 0≤x8 then (s0[x8.toNat]?).bind fun y_1=>(zs4 y_1).bind fun r_2=>(if r_2 then some x8 else zft k n s0 f1 x7 (z6 (x8+1)) e_0) else none) else e_0)
def zs5 (k:Nat) (s0:List Int) (f1:Unit):Option Int:=zft k k s0 f1 (List.length s0:Int) 0 (some (-1))
def z138:Head:=⟨[],[],[]⟩
def z139 (k:Nat):LD Int:=⟨2,⟨[(0,V1),(1,(.val (.fn 97 .un))),(7,V0),(8,V0)],[],[]⟩,[(0,z138)],fun n x kx=>zft k n x.1.1 x.1.2.1 x.1.2.2.1 x.1.2.2.2.1 (kx 0 (z138.fill ((),(),()))),k⟩
def z1ke (k:Nat):FE:=⟨(.pr U5 (.fn 97 .un)),1,U0,fun x=>zs5 k x.1 x.2⟩
theorem z1kf (k:Nat):z8 Tryz.prog 150 (z1ke k):=okC zb (xTc z1kd xTn) xOn Tryz.f150 (orc (z139 k) (LOn _)) (xLo (z139 k) (by rintro n ⟨⟨s0,f1,x7,x8,⟨⟩⟩,⟨⟩,⟨⟩⟩ kx; kernel_rfl) xLn) (by rintro ⟨s0,f1⟩; kernel_rfl)
def znk (k:Nat) (s0:List Int) (f1:Unit):Option Bool:=(zs5 k s0 f1).bind fun r_1=>some (decide (0≤r_1))
def z1kg (k:Nat):FE:=⟨(.pr U5 (.fn 97 .un)),1,.bool,fun x=>znk k x.1 x.2⟩
theorem z1kh (k:Nat):z8 Tryz.prog 96 (z1kg k):=okC zb (xTc (z1kf k) xTn) xOn Tryz.f96 (LOn _) xLn (by rintro ⟨s0,f1⟩; kernel_rfl)
def z13a (n:Int) (b:Int):Option zT14:=if b=10 ∧ -9223372036854775808≤n∧n≤9223372036854775807 then some (Lib.itoa n) else none
abbrev fe_strconv_FormatInt:FE:=fe_formatInt
theorem z1ki:z8 Tryz.prog 151 fe_strconv_FormatInt:=z1by (fn:=Tryz.f151) (cd:=z3s Tryz.f151) (by kernel_rfl) (by kernel_rfl) (by kernel_rfl) (fun n h0 h1 w hG=>Go.Proofs.Tryz.strconv_FormatInt_10 n h0 h1 w hG)
def znl (n0:Int):Option zT14:=(z13a n0 10).bind fun r_1=>some r_1
def z1kj:FE:=⟨U0,1,.str,fun x=>znl x⟩
theorem z1kk:z8 Tryz.prog 99 (z1kj):=okC zb (xTc z1ki xTn) xOn Tryz.f99 (LOn _) xLn (by rintro n0; kernel_rfl)
def zs6 (sep1:List UInt8) (q_1:List zT14):Option ((List UInt8×Unit)×(List zT14×Unit)×Unit):=if List.length q_1≤LIM∧(Lib.join q_1 sep1).length≤LIM then some ((Lib.join q_1 sep1,()),(q_1,()),()) else none
def oc_strings_Join_s:OC:=zhk 9
theorem z1kl:z1c Tryz.prog ti 100 oc_strings_Join_s:=z1bz (fn:=Tryz.f100) (cd:=z3s Tryz.f100) (by kernel_rfl) (by kernel_rfl) (by kernel_rfl) (fun bk o c xs sep w h1 h2 h3 h4 h5=>Go.Proofs.Tryz.strings_Join bk o c xs sep w h1 h2 h3 h4 h5) (fun a c sep w=>Go.Proofs.Tryz.strings_Join_none a c sep w)
end
end Go.Proofs.YtchfjdcfhlhgcaaGreatDoor.Ev
