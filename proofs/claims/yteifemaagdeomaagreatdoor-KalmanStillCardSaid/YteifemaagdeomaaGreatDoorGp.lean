/-
  THE PROGRAM's FUNCTIONS, as their meanings (written by program).
  Conditions: none.
-/
import Derived.Test.YteifemaagdeomaaGreatDoorMachT
set_option linter.unusedVariables false
namespace Go.Proofs.YteifemaagdeomaaGreatDoor
open Go Go.Mach
abbrev LI:=List Int
abbrev LF:=List Fl
abbrev Kx0:=Int->Int->Fl->Fl->Fl->Int->LF->LF->LF->Bool
abbrev Kx1:=Int->Int->Fl->Fl->Fl->Int->LF->Bool
abbrev Kx2:=Int->Int->Fl->Fl->Fl->Int->Bool
abbrev Kx3:=Int->Int->Int->Int->Bool->Bool
abbrev Kx4:=Bool->Int->Int->Int->Bool
abbrev Kx5:=Int->Int->Int->Int->Bool
abbrev Kx6:=Bool->LI->Bool->LI->Bool
abbrev Kx7:=Bool->Int->Int->Bool
abbrev Kx8:=Bool->Nat->Nat->Bool
abbrev Kx9:=Int->Int->Int->Bool
abbrev Ky0:=Bool->Bool->Bool
abbrev Ky1:=Int->Int->Bool
abbrev Ky2:=Bool->LI->Bool
abbrev Ky3:=Fl->Bool->Bool
abbrev Ky4:=Bool->LF->Bool
abbrev Ky5:=Int->LI->Bool
abbrev Ky6:=Nat->LI->Bool
abbrev Ky7:=LI->LI->Bool
abbrev Ky8:=Bool->Bool
abbrev Ky9:=Int->Bool
abbrev Kz0:=Nat->Bool
abbrev Kz1:=Fl->Bool
abbrev Kz2:=LF->Bool
abbrev Kz3:=LI->Bool
abbrev RT0:RT:=(.pair (.ints .u64) (.pair (.int .u64) (.int .u64)))
abbrev RT1:RT:=(.pair (.pair .bool (.ints .u32)) (.pair .bool (.ints .u32)))
abbrev RY1:=(Bool × LI) × Bool × LI
abbrev RT2:RT:=(.ptr (.pair (.pair .bool (.ints .u32)) (.pair .bool (.ints .u32))))
abbrev RY2:=(Bool × LI) × Bool × LI
abbrev RT3:RT:=(.ptr (.pair (.pair .bool (.ints .u64)) (.pair .bool (.ints .u64))))
abbrev RY3:=(Bool × LI) × Bool × LI
def aA:LI:=[0,1,2,2,3,3,3,3,4,4,4,4,4,4,4,4,5,5,5,5,5,5,5,5,5,5,5,5,5,5,5,5,6,6,6,6,6,6,6,6,6,6,6,6,6,6,6,6,6,6,6,6,6,6,6,6,6,6,6,6,6,6,6,6,7,7,7,7,7,7,7,7,7,7,7,7,7,7,7,7,7,7,7,7,7,7,7,7,7,7,7,7,7,7,7,7,7,7,7,7,7,7,7,7,7,7,7,7,7,7,7,7,7,7,7,7,7,7,7,7,7,7,7,7,7,7,7,7,8,8,8,8,8,8,8,8,8,8,8,8,8,8,8,8,8,8,8,8,8,8,8,8,8,8,8,8,8,8,8,8,8,8,8,8,8,8,8,8,8,8,8,8,8,8,8,8,8,8,8,8,8,8,8,8,8,8,8,8,8,8,8,8,8,8,8,8,8,8,8,8,8,8,8,8,8,8,8,8,8,8,8,8,8,8,8,8,8,8,8,8,8,8,8,8,8,8,8,8,8,8,8,8,8,8,8,8,8,8,8,8,8,8,8,8,8,8,8,8,8,8,8,8,8,8,8,8]
abbrev Rj:=Nat->(Ky9)->Bool
def HK (N:Nat):Rj:=λn k=>k n
def GU (N:Nat) (k0:Kx9):Bool:=
 (k0 52 2047 1075)
def yD (N:Nat):(Kx9)->Bool:=GU N
def Oo (N:Nat) (f_0 f_1 f_2:Int) (k0:Ky9):Bool:=
 (ah .i64 (f_1+1)&&(decide (0<=f_0)&&k0 (IntKind.wrap .u64 ((IntKind.wrap .u64 (f_1+1))*2 ^ (min f_0.toNat 64)))))
def BZ (N:Nat):Int->Int->Int->(Ky9)->Bool:=Oo N
def Fq (N:Nat) (f_0 f_1 f_2:Int) (k0:Ky9):Bool:=
 (decide (0<=f_0)&&k0 (IntKind.wrap .u64 ((IntKind.wrap .u64 f_1)*2 ^ (min f_0.toNat 64))))
def tn (N:Nat):Int->Int->Int->(Ky9)->Bool:=Fq N
def Qx (N:Nat) (b f_0 f_1 f_2:Int) (k0:Ky8):Bool:=
 (BZ N f_0 f_1 f_2 (λnr=>tn N f_0 f_1 f_2 (λacl=>k0 (decide ((aE .andNot .u64 b nr)>acl)))))
def Tz (N:Nat):Int->Int->Int->Int->(Ky8)->Bool:=aC N (Qx N)
def Ig (N:Nat) (f_0 f_1 f_2:Int) (k0:Ky9):Bool:=
 (decide (0<=f_0)&&k0 (IntKind.wrap .u64 ((1:Int)*2 ^ (min f_0.toNat 64))))
def lO (N:Nat):Int->Int->Int->(Ky9)->Bool:=Ig N
def Bo (N:Nat) (f_0 f_1 f_2:Int) (k0:Ky9):Bool:=
 (tn N f_0 f_1 f_2 (λnr=>lO N f_0 f_1 f_2 (λacl=>k0 (aE .or .u64 (aE .or .u64 nr (Int.fdiv acl (2 ^ 1))) (IntKind.wrap .u64 (Int.tdiv f_0 52))))))
def BX (N:Nat):Int->Int->Int->(Ky9)->Bool:=aC N (Bo N)
def VO (N:Nat) (b f_0 f_1 f_2:Int) (k0:Ky9):Bool:=
 (Tz N b f_0 f_1 f_2 (λcr=>cond cr (BX N f_0 f_1 f_2 (λnr=>k0 nr)) (k0 b)))
def J0 (N:Nat):Int->Int->Int->Int->(Ky9)->Bool:=VO N
def Xz (N:Nat) (b f_0 f_1 f_2:Int) (k0:Kx7):Bool:=
 (J0 N b f_0 f_1 f_2 (λnr=>BZ N f_0 f_1 f_2 (λacl=>decide (0<=f_0)&&(ah .i64 (aE .and .u64 (Int.fdiv nr (2 ^ (min f_0.toNat 64))) (IntKind.wrap .u64 f_1))&&lO N f_0 f_1 f_2 (λacn=>k0 ((aE .and .u64 nr acl) != 0) (aE .and .u64 (Int.fdiv nr (2 ^ (min f_0.toNat 64))) (IntKind.wrap .u64 f_1)) (aE .and .u64 nr (IntKind.wrap .u64 (acn - 1))))))))
def TQ (N:Nat):Int->Int->Int->Int->(Kx7)->Bool:=aC N (Xz N)
def Xy (N:Nat) (b f_0 f_1 f_2:Int) (k0:Ky9):Bool:=
 (TQ N b f_0 f_1 f_2 (λcr nr acl=>cond ((nr==f_1)==true) (cond (acl != 0) (k0 1) (cond (nr==f_1) (k0 2) (cond ((nr==0)==true) (cond (acl==0) (k0 3) (cond (nr==0) (k0 4) (k0 5))) (cond (nr==0) (k0 4) (k0 5))))) (cond (nr==f_1) (k0 2) (cond ((nr==0)==true) (cond (acl==0) (k0 3) (cond (nr==0) (k0 4) (k0 5))) (cond (nr==0) (k0 4) (k0 5))))))
def TP (N:Nat):Int->Int->Int->Int->(Ky9)->Bool:=aC N (Xy N)
abbrev V_:=Nat->(Ky9)->Bool
def Zg (N x:Nat) (k0:Ky9):Bool:=
 (HK N x (λnr=>yD N (λacl acn acC=>TP N nr acl acn acC (λacP=>k0 acP))))
def Mv (N:Nat):Nat->(Ky9)->Bool:=Zg N
abbrev Wa:=Nat->Nat->(Ky8)->Bool
def Zh (N a b:Nat) (k0:Ky8):Bool:=
 (HK N a (λnr=>yD N (λacl acn acC=>J0 N nr acl acn acC (λacP=>HK N b (λn5=>yD N (λn6 n7 n8=>J0 N n5 n6 n7 n8 (λn9=>k0 (acP==n9))))))))
def Mw (N:Nat):Nat->Nat->(Ky8)->Bool:=Zh N
abbrev KU:=Int->(Kz1)->Bool
def EW (N:Nat):KU:=λn k=>k (ik n.toNat)
abbrev Rh:=Nat->(Kz1)->Bool
def VN (N x:Nat) (k0:Kz1):Bool:=
 (HK N x (λnr=>EW N (aE .andNot .u64 nr 9223372036854775808) (λxr=>k0 xr)))
def EU (N:Nat):Nat->(Kz1)->Bool:=VN N
def oq (N:Nat) (ae2:LI) (aiA:Int) (e0:Kz2):(Int × LF)->((Int × LF)->Bool)->Bool:=λv_ K=>match v_ with
 | (ahH,x)=>(cond (decide (ahH<aiA)) (inR ahH ae2.length&&EW N (ae2.getD ahH.toNat 0) (λac5=>decide ((List.length (x++[ac5]))*8<=140737488355328)&&(ah .i64 (ahH+1)&&K ((ahH+1),(x++[ac5]))))) (e0 x))
def zu (N:Nat) (l:LI) (k0:Kz2):Bool:=
 (al N (oq N l ((l.length:Nat):Int) (λx_1=>k0 x_1)) (0,[]))
def vt (N:Nat):LI->(Kz2)->Bool:=aC N (zu N)
def Zr (N:Nat) (x:LI) (rows cols:Int) (p:LI) (k0:LF->LF->Bool):Bool:=
 (vt N x (λxsr=>vt N p (λacM=>k0 xsr acM)))
def VA (N:Nat):LI->Int->Int->LI->(LF->LF->Bool)->Bool:=Zr N
def wo (N:Nat) (rows cols n:Int) (k0:Ky9):Bool:=
 (cond ((decide (rows<0))==false) (cond ((decide (rows>12))==false) (cond ((decide (cols<0))==false) (cond (decide (cols>12)) (k0 1) (ah .i64 (rows*cols)&&cond (n != (rows*cols)) (k0 3) (k0 0))) (k0 1)) (k0 1)) (k0 1))
def xB (N:Nat):Int->Int->Int->(Ky9)->Bool:=aC N (wo N)
abbrev KT:=Fl->(Ky9)->Bool
def A8 (N:Nat):KT:=λx k=>match x with | some b=>k b | none=>false
def Du (N:Nat) (x:Fl) (k0:Ky9):Bool:=
 (cond (!feq x x) (k0 9221120237041090561) (A8 N x (λnr=>k0 nr)))
def rN (N:Nat):Fl->(Ky9)->Bool:=Du N
def wn (N:Nat) (x:Fl) (k0:Kx7):Bool:=
 (rN N x (λnr=>ah .i64 (Int.tmod (Int.fdiv nr (2 ^ 52)) 2048)&&k0 ((Int.fdiv nr (2 ^ 63))==1) (Int.tmod (Int.fdiv nr (2 ^ 52)) 2048) (Int.tmod nr 4503599627370496)))
def oX (N:Nat):Fl->(Kx7)->Bool:=aC N (wn N)
def QR (N:Nat) (exp frac most:Int) (k0:Ky9):Bool:=
 (cond ((exp==most)==true) (cond (frac != 0) (k0 1) (cond (exp==most) (k0 2) (cond ((exp==0)==true) (cond (frac==0) (k0 3) (cond (exp==0) (k0 4) (k0 5))) (cond (exp==0) (k0 4) (k0 5))))) (cond (exp==most) (k0 2) (cond ((exp==0)==true) (cond (frac==0) (k0 3) (cond (exp==0) (k0 4) (k0 5))) (cond (exp==0) (k0 4) (k0 5)))))
def WS (N:Nat):Int->Int->Int->(Ky9)->Bool:=aC N (QR N)
def Ca (N:Nat) (x:Fl) (k0:Ky9):Bool:=
 (oX N x (λcr nr acl=>WS N nr acl 2047 (λacn=>k0 acn)))
def xz (N:Nat):Fl->(Ky9)->Bool:=Ca N
def Zf (N:Nat) (x:Fl) (k0:Ky8):Bool:=
 (xz N x (λnr=>k0 (decide (nr>2))))
def ko (N:Nat):Fl->(Ky8)->Bool:=Zf N
def gJ (N:Nat) (t5:LF) (t6:Int) (e0:Ky8) (e1:Bool):(Int)->((Int)->Bool)->Bool:=λv_ K=>match v_ with
 | t7=>(cond (decide (t7<t6)) (inR t7 t5.length&&ko N (t5.getD t7.toNat none) (λcr=>cond (!cr) (e0 false) (ah .i64 (t7+1)&&K (t7+1)))) e1)
def P9 (N:Nat) (l:LF) (k0:Ky8):Bool:=
 (al N (gJ N l ((l.length:Nat):Int) (λt2=>k0 t2) (k0 true)) 0)
def NX (N:Nat):LF->(Ky8)->Bool:=aC N (P9 N)
def zx (N:Nat) (m_0 m_1:Int) (m_2:LF) (k0:Ky9):Bool:=
 (xB N m_0 m_1 ((m_2.length:Nat):Int) (λnr=>cond (nr != 0) (k0 nr) (NX N m_2 (λcr=>cond (!cr) (k0 4) (k0 0)))))
def vu (N:Nat):Int->Int->LF->(Ky9)->Bool:=aC N (zx N)
def Dy (N:Nat) (m_0 m_1:Int) (m_2:LF) (k0:Ky9):Bool:=
 (vu N m_0 m_1 m_2 (λnr=>k0 nr))
def EZ (N:Nat):Int->Int->LF->(Ky9)->Bool:=Dy N
def Ih (N:Nat) (m_0 m_1:Int) (m_2:LF) (i j:Int) (k0:Kz1):Bool:=
 (ah .i64 (i*m_1)&&(ah .i64 ((i*m_1)+j)&&(inR ((i*m_1)+j) m_2.length&&k0 (m_2.getD (Int.toNat ((i*m_1)+j)) none))))
def Bc (N:Nat):Int->Int->LF->Int->Int->(Kz1)->Bool:=Ih N
def zw (N:Nat) (a b:Fl) (k0:Ky8):Bool:=
 (rN N a (λnr=>rN N b (λacl=>k0 (nr==acl))))
def Ad (N:Nat):Fl->Fl->(Ky8)->Bool:=aC N (zw N)
def gM (N:Nat) (i_1 m_5 m_6:Int) (m_7:LF) (e0:Ky9) (e1:Bool):(Int)->((Int)->Bool)->Bool:=λv_ K=>match v_ with
 | j=>(cond (decide (j<i_1)) (Bc N m_5 m_6 m_7 i_1 j (λxr=>Bc N m_5 m_6 m_7 j i_1 (λac5=>Ad N xr ac5 (λcr=>cond (!cr) (e0 91) (ah .i64 (j+1)&&K (j+1)))))) e1)
def gL (N:Nat) (m m_3:Int) (m_4:LF) (e0:Ky9) (e1:Bool):(Int)->((Int)->Bool)->Bool:=λv_ K=>match v_ with
 | i=>(cond (decide (i<m)) (al N (gM N i m m_3 m_4 (λt2=>e0 t2) (ah .i64 (i+1)&&K (i+1))) 0) e1)
def P_ (N:Nat) (m_0 m_1:Int) (m_2:LF) (k0:Ky9):Bool:=
 (vu N m_0 m_1 m_2 (λnr=>cond (nr != 0) (k0 nr) (cond (m_0 != m_1) (k0 3) (al N (gL N m_0 m_1 m_2 (λaej=>k0 aej) (k0 0)) 0))))
def Tl (N:Nat):Int->Int->LF->(Ky9)->Bool:=aC N (P_ N)
def ww (N:Nat) (s_0:LF) (s_1 s_2:Int) (s_3:LF) (k0:Ky9):Bool:=
 (EZ N s_1 s_2 s_3 (λnr=>cond (nr != 0) (k0 nr) (cond ((s_1 != s_2)==false) (cond (((s_0.length:Nat):Int) != s_1) (k0 3) (NX N s_0 (λcr=>cond (!cr) (k0 4) (Tl N s_1 s_2 s_3 (λacl=>cond (acl != 0) (k0 150) (k0 0)))))) (k0 3))))
def CR (N:Nat):LF->Int->Int->LF->(Ky9)->Bool:=aC N (ww N)
def mR (N:Nat) (e0:Ky1):(Int × Int)->((Int × Int)->Bool)->Bool:=λv_ K=>match v_ with
 | (m_1,e_1)=>(cond ((Int.tmod m_1 2)==0) (ah .i64 (e_1+1)&&K ((IntKind.wrap .u64 (Int.tdiv m_1 2)),(e_1+1))) (e0 m_1 e_1))
def xY (N:Nat) (m e:Int) (k0:Ky1):Bool:=
 (cond (m==0) (k0 0 0) (al N (mR N (λm_2 e_2=>k0 m_2 e_2)) (m,e)))
def t_ (N:Nat):Int->Int->(Ky1)->Bool:=aC N (xY N)
def Ij (N:Nat) (x:Fl) (neg:Bool) (e f:Int) (k0:Kx4):Bool:=
 (ah .i64 (e - 1074)&&t_ N f (e - 1074) (λacn acC=>k0 neg acn acC 0))
def Ic (N:Nat) (x:Fl) (k0:Kx4):Bool:=
 (oX N x (λcr nr acl=>cond (nr==2047) (k0 false 0 0 4) (cond (decide (nr>0)) (ah .i64 (nr - 1)&&Ij N x cr (nr - 1) (IntKind.wrap .u64 (acl+4503599627370496)) k0) (Ij N x cr nr acl k0))))
def Tw (N:Nat):Fl->(Kx4)->Bool:=aC N (Ic N)
def Am (N m_1:Nat) (m_3:LI) (e0:Kz0):(Nat)->((Nat)->Bool)->Bool:=λv_ K=>match v_ with
 | m_2=>(cond ((decide (((m_2:Nat):Int)>0))==true) (ah .i64 (((m_2:Nat):Int) - 1)&&(inR (((m_2:Nat):Int) - 1) m_2&&(decide ((m_1+(Int.toNat (((m_2:Nat):Int) - 1)))<m_3.length)&&cond ((m_3.getD (m_1+(Int.toNat (((m_2:Nat):Int) - 1))) 0)==0) (ah .i64 (((m_2:Nat):Int) - 1)&&(decide (0<=(((m_2:Nat):Int) - 1)/\(((m_2:Nat):Int) - 1)<=((m_2:Nat):Int))&&K ((Int.toNat (((m_2:Nat):Int) - 1)) - 0))) (e0 m_2)))) (e0 m_2))
def Xd (N:Nat) (b:LI) (k0:Kz0):Bool:=
 (al N (Am N 0 b (λm_4=>k0 m_4)) b.length)
def tk (N:Nat):LI->(Kz0)->Bool:=aC N (Xd N)
def QM (N:Nat) (n:Int) (k0:Kz3):Bool:=
 (tk N [(IntKind.wrap .u32 n),(IntKind.wrap .u32 (Int.fdiv n (2 ^ 32)))] (λmr=>decide ((0+mr)<=(List.length [(IntKind.wrap .u32 n),(IntKind.wrap .u32 (Int.fdiv n (2 ^ 32)))]))&&k0 (List.take mr (List.drop 0 [(IntKind.wrap .u32 n),(IntKind.wrap .u32 (Int.fdiv n (2 ^ 32)))]))))
def GG (N:Nat):Int->(Kz3)->Bool:=aC N (QM N)
def gI (N:Nat) (e0:Kz3):(LI)->((LI)->Bool)->Bool:=λv_ K=>match v_ with
 | m_1=>(cond ((decide (((m_1.length:Nat):Int)>0))==true) (ah .i64 (((m_1.length:Nat):Int) - 1)&&(inR (((m_1.length:Nat):Int) - 1) m_1.length&&cond ((m_1.getD (Int.toNat (((m_1.length:Nat):Int) - 1)) 0)==0) (ah .i64 (((m_1.length:Nat):Int) - 1)&&(decide (0<=(((m_1.length:Nat):Int) - 1)/\(((m_1.length:Nat):Int) - 1)<=((m_1.length:Nat):Int))&&K (List.drop 0 (List.take (Int.toNat (((m_1.length:Nat):Int) - 1)) m_1)))) (e0 m_1))) (e0 m_1))
def Bp (N:Nat) (m:LI) (k0:Kz3):Bool:=
 (al N (gI N (λm_2=>k0 m_2)) m)
def nR (N:Nat):LI->(Kz3)->Bool:=aC N (Bp N)
def VY (N:Nat) (neg:Bool) (m:LI) (b:Bool) (k0:Ky2):Bool:=
 (nR N m (λnsr=>cond (neg==true) (k0 (decide (((nsr.length:Nat):Int)>0)) nsr) (k0 false nsr)))
def CN (N:Nat):Bool->LI->Bool->(Ky2)->Bool:=VY N
def Qe (N:Nat) (n:Int) (b:Bool) (k0:Ky2):Bool:=
 (GG N n (λnsr=>CN N false nsr b (λcr ack=>k0 cr ack)))
def NZ (N:Nat):Int->Bool->(Ky2)->Bool:=aC N (Qe N)
def wA (N:Nat) (neg b:Bool) (b_1 b_2:LI) (k0:Kx8):Bool:=
 (tk N b_2 (λmr=>cond (neg==true) (k0 (decide (((mr:Nat):Int)>0)) 0 mr) (k0 false 0 mr)))
def xD (N:Nat):Bool->Bool->LI->LI->(Kx8)->Bool:=wA N
def QJ (N:Nat) (b:Bool) (b_1:LI) (k0:Ky2):Bool:=
 (decide ((List.length ([]++b_1))*4<=140737488355328)&&xD N (!b) b b_1 ([]++b_1) (λcr mr acZ=>decide ((mr+acZ)<=(List.length ([]++b_1)))&&k0 cr (List.take acZ (List.drop mr ([]++b_1)))))
def TE (N:Nat):Bool->LI->(Ky2)->Bool:=aC N (QJ N)
def Dw (N:Nat) (x:Fl) (k0:Int->Bool->LI->Bool):Bool:=
 (Tw N x (λcr nr acl acn=>NZ N nr false (λacs nsr=>cond cr (TE N acs nsr (λacJ ack=>k0 acl acJ ack)) (k0 acl acs nsr))))
def EY (N:Nat):Fl->(Int->Bool->LI->Bool)->Bool:=aC N (Dw N)
def fI (N:Nat) (m_1:LI) (w s:Int) (e0:Kz3):(Int × LI)->((Int × LI)->Bool)->Bool:=λv_ K=>match v_ with
 | (i,out)=>(cond (decide (i<((m_1.length:Nat):Int))) (inR i m_1.length&&(decide (0<=s)&&(ah .i64 (w+i)&&(inR (w+i) out.length&&(decide ((Int.toNat (w+i))<out.length)&&(inR (w+i) out.length&&(decide ((Int.toNat (w+i))<out.length)&&(ah .i64 (w+i)&&(ah .i64 ((w+i)+1)&&(inR ((w+i)+1) (List.length (out.set (Int.toNat (w+i)) (aE .or .u32 (out.getD (Int.toNat (w+i)) 0) (IntKind.wrap .u32 (IntKind.wrap .u64 ((IntKind.wrap .u64 (m_1.getD i.toNat 0))*2 ^ (min s.toNat 64)))))))&&(decide ((Int.toNat ((w+i)+1))<(List.length (out.set (Int.toNat (w+i)) (aE .or .u32 (out.getD (Int.toNat (w+i)) 0) (IntKind.wrap .u32 (IntKind.wrap .u64 ((IntKind.wrap .u64 (m_1.getD i.toNat 0))*2 ^ (min s.toNat 64))))))))&&(ah .i64 (i+1)&&K ((i+1),(List.set (out.set (Int.toNat (w+i)) (aE .or .u32 (out.getD (Int.toNat (w+i)) 0) (IntKind.wrap .u32 (IntKind.wrap .u64 ((IntKind.wrap .u64 (m_1.getD i.toNat 0))*2 ^ (min s.toNat 64)))))) (Int.toNat ((w+i)+1)) (IntKind.wrap .u32 (Int.fdiv (IntKind.wrap .u64 ((IntKind.wrap .u64 (m_1.getD i.toNat 0))*2 ^ (min s.toNat 64))) (2 ^ 32))))))))))))))))) (e0 out))
def zr (N:Nat) (m:LI) (n:Int) (k0:Kz3):Bool:=
 (cond (((m.length:Nat):Int)==0) (k0 []) (ah .i64 (IntKind.wrap .u64 (Int.tdiv n 32))&&(ah .i64 ((IntKind.wrap .u64 (Int.tdiv n 32))+((m.length:Nat):Int))&&(ah .i64 (((IntKind.wrap .u64 (Int.tdiv n 32))+((m.length:Nat):Int))+1)&&(gc 4 (((IntKind.wrap .u64 (Int.tdiv n 32))+((m.length:Nat):Int))+1) (((IntKind.wrap .u64 (Int.tdiv n 32))+((m.length:Nat):Int))+1)&&al N (fI N m (IntKind.wrap .u64 (Int.tdiv n 32)) (Int.tmod n 32) (λacH=>tk N acH (λmr=>decide ((0+mr)<=acH.length)&&k0 (List.take mr (List.drop 0 acH))))) (0,(List.replicate (Int.toNat (((IntKind.wrap .u64 (Int.tdiv n 32))+((m.length:Nat):Int))+1)) (0:Int))))))))
def Ab (N:Nat):LI->Int->(Kz3)->Bool:=aC N (zr N)
def Qw (N:Nat) (n:Int) (b b_1:Bool) (b_2:LI) (k0:Ky2):Bool:=
 (Ab N b_2 n (λnsr=>CN N b_1 nsr b (λcr ack=>k0 cr ack)))
def N1 (N:Nat):Int->Bool->Bool->LI->(Ky2)->Bool:=aC N (Qw N)
def VP (N:Nat) (x e:Int) (b:Bool) (b_1:LI) (k0:Bool) (k1:Ky2):Bool:=
 (cond (decide (e>=x)) k0 (ah .i64 (x - e)&&N1 N (IntKind.wrap .u64 (x - e)) false b b_1 (λcr nsr=>k1 cr nsr)))
def Tn (N:Nat):Int->Int->Bool->LI->(Bool)->(Ky2)->Bool:=VP N
def M3 (N:Nat) (k0:Kz3):Bool:=
 (k0 [1])
def pZ (N:Nat):(Kz3)->Bool:=M3 N
def Qz (N:Nat) (neg:Bool) (m:LI) (b b_1:Bool) (k0:Bool->LI->LI->Bool):Bool:=
 (nR N m (λnsr=>cond (neg==true) (k0 (decide (((nsr.length:Nat):Int)>0)) nsr []) (k0 false nsr [])))
def GF (N:Nat):Bool->LI->Bool->Bool->(Bool->LI->LI->Bool)->Bool:=Qz N
def QZ (N:Nat) (neg:Bool) (m:LI) (b:Bool) (b_1:LI) (b_2:Bool) (b_3:LI) (k0:Ky2):Bool:=
 (nR N m (λnsr=>cond (neg==true) (k0 (decide (((nsr.length:Nat):Int)>0)) nsr) (k0 false nsr)))
def FK (N:Nat):Bool->LI->Bool->LI->Bool->LI->(Ky2)->Bool:=QZ N
def Ug (N:Nat) (x:Int) (k0:Ky9):Bool:=
 (cond (x==0) (k0 32) (inR (Int.fdiv (IntKind.wrap .u32 ((aE .and .u32 x (IntKind.wrap .u32 (0 - x)))*125613361)) (2 ^ 27)) 32&&(ah .i64 (CU.getD (Int.toNat (Int.fdiv (IntKind.wrap .u32 ((aE .and .u32 x (IntKind.wrap .u32 (0 - x)))*125613361)) (2 ^ 27))) 0)&&k0 (CU.getD (Int.toNat (Int.fdiv (IntKind.wrap .u32 ((aE .and .u32 x (IntKind.wrap .u32 (0 - x)))*125613361)) (2 ^ 27))) 0))))
def YU (N:Nat):Int->(Ky9)->Bool:=aC N (Ug N)
def HU (N:Nat) (z:Bool) (z_1:LI) (e0:Ky9) (e1:Bool):(Int)->((Int)->Bool)->Bool:=λv_ K=>match v_ with
 | i=>(cond (decide (i<((z_1.length:Nat):Int))) (inR i z_1.length&&cond ((z_1.getD i.toNat 0) != 0) (ah .i64 (32*i)&&(inR i z_1.length&&YU N (z_1.getD i.toNat 0) (λnr=>ah .i64 ((32*i)+nr)&&e0 (IntKind.wrap .u64 ((32*i)+nr))))) (ah .i64 (i+1)&&K (i+1))) e1)
def GQ3 (N:Nat) (b:Bool) (b_1:LI) (k0:Ky9):Bool:=
 (al N (HU N b b_1 (λt2=>k0 t2) (k0 0)) 0)
def sQ3 (N:Nat):Bool->LI->(Ky9)->Bool:=aC N (GQ3 N)
def mN (N:Nat) (m_1:LI) (w s:Int) (e0:Kz3):(Int × LI)->((Int × LI)->Bool)->Bool:=λv_ K=>match v_ with
 | (i,out)=>(cond (decide (i<((out.length:Nat):Int))) (ah .i64 (w+i)&&(inR (w+i) m_1.length&&(ah .i64 (w+i)&&(ah .i64 ((w+i)+1)&&cond (decide (((w+i)+1)<((m_1.length:Nat):Int))) (ah .i64 (w+i)&&(ah .i64 ((w+i)+1)&&(inR ((w+i)+1) m_1.length&&(decide (0<=s)&&(inR i out.length&&(decide (i.toNat<out.length)&&(ah .i64 (i+1)&&K ((i+1),(out.set i.toNat (IntKind.wrap .u32 (Int.fdiv (aE .or .u64 (IntKind.wrap .u64 (m_1.getD (Int.toNat (w+i)) 0)) (IntKind.wrap .u64 ((IntKind.wrap .u64 (m_1.getD (Int.toNat ((w+i)+1)) 0))*2 ^ 32))) (2 ^ (min s.toNat 64))))))))))))) (decide (0<=s)&&(inR i out.length&&(decide (i.toNat<out.length)&&(ah .i64 (i+1)&&K ((i+1),(out.set i.toNat (IntKind.wrap .u32 (Int.fdiv (IntKind.wrap .u64 (m_1.getD (Int.toNat (w+i)) 0)) (2 ^ (min s.toNat 64)))))))))))))) (e0 out))
def Xp (N:Nat) (m:LI) (n:Int) (k0:Kz3):Bool:=
 (ah .i64 (IntKind.wrap .u64 (Int.tdiv n 32))&&cond (decide ((IntKind.wrap .u64 (Int.tdiv n 32))>=((m.length:Nat):Int))) (k0 []) (ah .i64 (((m.length:Nat):Int) - (IntKind.wrap .u64 (Int.tdiv n 32)))&&(gc 4 (((m.length:Nat):Int) - (IntKind.wrap .u64 (Int.tdiv n 32))) (((m.length:Nat):Int) - (IntKind.wrap .u64 (Int.tdiv n 32)))&&al N (mN N m (IntKind.wrap .u64 (Int.tdiv n 32)) (Int.tmod n 32) (λacH=>tk N acH (λmr=>decide ((0+mr)<=acH.length)&&k0 (List.take mr (List.drop 0 acH))))) (0,(List.replicate (Int.toNat (((m.length:Nat):Int) - (IntKind.wrap .u64 (Int.tdiv n 32)))) (0:Int))))))
def A_ (N:Nat):LI->Int->(Kz3)->Bool:=aC N (Xp N)
def QA (N:Nat) (x:Int) (k0:Ky9):Bool:=
 (cond (decide (x>=65536)) (cond (decide ((Int.fdiv x (2 ^ 16))>=256)) (inR (IntKind.wrap .u8 (Int.fdiv (Int.fdiv x (2 ^ 16)) (2 ^ 8))) 256&&(ah .i64 (aA.getD (Int.toNat (IntKind.wrap .u8 (Int.fdiv (Int.fdiv x (2 ^ 16)) (2 ^ 8)))) 0)&&(ah .i64 (24+(aA.getD (Int.toNat (IntKind.wrap .u8 (Int.fdiv (Int.fdiv x (2 ^ 16)) (2 ^ 8)))) 0))&&k0 (24+(aA.getD (Int.toNat (IntKind.wrap .u8 (Int.fdiv (Int.fdiv x (2 ^ 16)) (2 ^ 8)))) 0))))) (inR (IntKind.wrap .u8 (Int.fdiv x (2 ^ 16))) 256&&(ah .i64 (aA.getD (Int.toNat (IntKind.wrap .u8 (Int.fdiv x (2 ^ 16)))) 0)&&(ah .i64 (16+(aA.getD (Int.toNat (IntKind.wrap .u8 (Int.fdiv x (2 ^ 16)))) 0))&&k0 (16+(aA.getD (Int.toNat (IntKind.wrap .u8 (Int.fdiv x (2 ^ 16)))) 0)))))) (cond (decide (x>=256)) (inR (IntKind.wrap .u8 (Int.fdiv x (2 ^ 8))) 256&&(ah .i64 (aA.getD (Int.toNat (IntKind.wrap .u8 (Int.fdiv x (2 ^ 8)))) 0)&&(ah .i64 (8+(aA.getD (Int.toNat (IntKind.wrap .u8 (Int.fdiv x (2 ^ 8)))) 0))&&k0 (8+(aA.getD (Int.toNat (IntKind.wrap .u8 (Int.fdiv x (2 ^ 8)))) 0))))) (inR (IntKind.wrap .u8 x) 256&&(ah .i64 (aA.getD (Int.toNat (IntKind.wrap .u8 x)) 0)&&(ah .i64 (0+(aA.getD (Int.toNat (IntKind.wrap .u8 x)) 0))&&k0 (0+(aA.getD (Int.toNat (IntKind.wrap .u8 x)) 0)))))))
def N3 (N:Nat):Int->(Ky9)->Bool:=aC N (QA N)
def XA (N:Nat) (b:Bool) (b_1:LI) (k0:Ky9):Bool:=
 (cond (((b_1.length:Nat):Int)==0) (k0 0) (ah .i64 (((b_1.length:Nat):Int) - 1)&&(ah .i64 (32*(((b_1.length:Nat):Int) - 1))&&(ah .i64 (((b_1.length:Nat):Int) - 1)&&(inR (((b_1.length:Nat):Int) - 1) b_1.length&&N3 N (b_1.getD (Int.toNat (((b_1.length:Nat):Int) - 1)) 0) (λnr=>ah .i64 ((32*(((b_1.length:Nat):Int) - 1))+nr)&&k0 ((32*(((b_1.length:Nat):Int) - 1))+nr)))))))
def Kg (N:Nat):Bool->LI->(Ky9)->Bool:=aC N (XA N)
def Ai (N:Nat) (a_1 b_1:LI) (e0:Ky9) (e1:Bool):(Int)->((Int)->Bool)->Bool:=λv_ K=>match v_ with
 | i=>(cond (decide (i>=0)) (inR i a_1.length&&(inR i b_1.length&&cond (decide ((a_1.getD i.toNat 0)<(b_1.getD i.toNat 0))) (e0 (-1)) (inR i a_1.length&&(inR i b_1.length&&cond (decide ((a_1.getD i.toNat 0)>(b_1.getD i.toNat 0))) (e0 1) (ah .i64 (i - 1)&&K (i - 1)))))) e1)
def Xk (N:Nat) (a b:LI) (k0:Ky9):Bool:=
 (cond (((a.length:Nat):Int) != ((b.length:Nat):Int)) (cond (decide (((a.length:Nat):Int)<((b.length:Nat):Int))) (k0 (-1)) (k0 1)) (ah .i64 (((a.length:Nat):Int) - 1)&&al N (Ai N a b (λt4=>k0 t4) (k0 0)) (((a.length:Nat):Int) - 1)))
def Da (N:Nat):LI->LI->(Ky9)->Bool:=aC N (Xk N)
def om (N:Nat) (x:LI) (e0:Ky9):(Int × Int)->((Int × Int)->Bool)->Bool:=λv_ K=>match v_ with
 | (u,i)=>(cond (decide (i>=0)) (inR i x.length&&(ah .i64 (i - 1)&&K ((aE .or .u64 (IntKind.wrap .u64 (u*2 ^ 32)) (IntKind.wrap .u64 (x.getD i.toNat 0))),(i - 1)))) (e0 u))
def zq (N:Nat) (m:LI) (at_:Int) (k0:Ky9):Bool:=
 (A_ N m (IntKind.wrap .u64 at_) (λnsr=>ah .i64 (((nsr.length:Nat):Int) - 1)&&al N (om N nsr (λu_1=>k0 u_1)) (0,(((nsr.length:Nat):Int) - 1))))
def vq (N:Nat):LI->Int->(Ky9)->Bool:=aC N (zq N)
def nT (N:Nat) (e0:Kx5):(Int × Int × Int × Int × Int × Int)->((Int × Int × Int × Int × Int × Int)->Bool)->Bool:=λv_ K=>match v_ with
 | (a,b,c,d,p,q)=>(ah .i64 (q+c)&&cond (((q+c) != 0)==true) (ah .i64 (q+d)&&cond ((q+d) != 0) (ah .i64 (p+a)&&(ah .i64 (q+c)&&((!decide ((q+c)=0))&&(ah .i64 (Int.tdiv (p+a) (q+c))&&(ah .i64 (p+b)&&(ah .i64 (q+d)&&((!decide ((q+d)=0))&&(ah .i64 (Int.tdiv (p+b) (q+d))&&cond ((Int.tdiv (p+a) (q+c)) != (Int.tdiv (p+b) (q+d))) (e0 a b c d) (ah .i64 ((Int.tdiv (p+a) (q+c))*c)&&(ah .i64 (a - ((Int.tdiv (p+a) (q+c))*c))&&(ah .i64 ((Int.tdiv (p+a) (q+c))*d)&&(ah .i64 (b - ((Int.tdiv (p+a) (q+c))*d))&&cond ((decide ((a - ((Int.tdiv (p+a) (q+c))*c))>1073741824))==false) (cond ((decide ((a - ((Int.tdiv (p+a) (q+c))*c))<(-1073741824)))==false) (cond ((decide ((b - ((Int.tdiv (p+a) (q+c))*d))>1073741824))==false) (cond (decide ((b - ((Int.tdiv (p+a) (q+c))*d))<(-1073741824))) (e0 a b c d) (ah .i64 ((Int.tdiv (p+a) (q+c))*q)&&(ah .i64 (p - ((Int.tdiv (p+a) (q+c))*q))&&K (c,d,(a - ((Int.tdiv (p+a) (q+c))*c)),(b - ((Int.tdiv (p+a) (q+c))*d)),q,(p - ((Int.tdiv (p+a) (q+c))*q)))))) (e0 a b c d)) (e0 a b c d)) (e0 a b c d))))))))))))) (e0 a b c d)) (e0 a b c d))
def QL (N:Nat) (x y:Int) (k0:Kx5):Bool:=
 (ah .i64 x&&(ah .i64 y&&al N (nT N (λa_1 b_1 c_1 d_1=>k0 a_1 b_1 c_1 d_1)) (1,0,0,1,x,y)))
def TG (N:Nat):Int->Int->(Kx5)->Bool:=aC N (QL N)
def mO (N:Nat) (m_1:LI) (d_1:Int) (e0:Ky5):(Int × Int × LI)->((Int × Int × LI)->Bool)->Bool:=λv_ K=>match v_ with
 | (r,i,out)=>(cond (decide (i>=0)) (inR i m_1.length&&((!decide ((IntKind.wrap .u64 d_1)=0))&&(inR i out.length&&(decide (i.toNat<out.length)&&((!decide ((IntKind.wrap .u64 d_1)=0))&&(ah .i64 (i - 1)&&K ((Int.tmod (aE .or .u64 (IntKind.wrap .u64 (r*2 ^ 32)) (IntKind.wrap .u64 (m_1.getD i.toNat 0))) (IntKind.wrap .u64 d_1)),(i - 1),(out.set i.toNat (IntKind.wrap .u32 (IntKind.wrap .u64 (Int.tdiv (aE .or .u64 (IntKind.wrap .u64 (r*2 ^ 32)) (IntKind.wrap .u64 (m_1.getD i.toNat 0))) (IntKind.wrap .u64 d_1)))))))))))) (e0 r out))
def QF (N:Nat) (m:LI) (d:Int) (k0:LI->Int->Bool):Bool:=
 (gc 4 ((m.length:Nat):Int) ((m.length:Nat):Int)&&(ah .i64 (((m.length:Nat):Int) - 1)&&al N (mO N m d (λr_1 acH=>tk N acH (λmr=>decide ((0+mr)<=acH.length)&&k0 (List.take mr (List.drop 0 acH)) (IntKind.wrap .u32 r_1)))) (0,(((m.length:Nat):Int) - 1),(List.replicate (Int.toNat ((m.length:Nat):Int)) (0:Int)))))
def Ka (N:Nat):LI->Int->(LI->Int->Bool)->Bool:=aC N (QF N)
def Zm (N:Nat) (x:Int) (k0:Ky9):Bool:=
 (N3 N x (λnr=>ah .i64 (32 - nr)&&k0 (32 - nr)))
def Vw (N:Nat):Int->(Ky9)->Bool:=Zm N
def rX (N:Nat) (m_1:LI) (w s:Int) (e0:Kz3):(Int × LI)->((Int × LI)->Bool)->Bool:=λv_ K=>match v_ with
 | (i,out)=>(cond (decide (i<((m_1.length:Nat):Int))) (inR i m_1.length&&(decide (0<=s)&&(ah .i64 (w+i)&&(inR (w+i) out.length&&(decide ((Int.toNat (w+i))<out.length)&&(inR (w+i) out.length&&(decide ((Int.toNat (w+i))<out.length)&&(ah .i64 (w+i)&&(ah .i64 ((w+i)+1)&&(inR ((w+i)+1) (List.length (out.set (Int.toNat (w+i)) (aE .or .u32 (out.getD (Int.toNat (w+i)) 0) (IntKind.wrap .u32 (IntKind.wrap .u64 ((IntKind.wrap .u64 (m_1.getD i.toNat 0))*2 ^ (min s.toNat 64)))))))&&(decide ((Int.toNat ((w+i)+1))<(List.length (out.set (Int.toNat (w+i)) (aE .or .u32 (out.getD (Int.toNat (w+i)) 0) (IntKind.wrap .u32 (IntKind.wrap .u64 ((IntKind.wrap .u64 (m_1.getD i.toNat 0))*2 ^ (min s.toNat 64))))))))&&(ah .i64 (i+1)&&K ((i+1),(List.set (out.set (Int.toNat (w+i)) (aE .or .u32 (out.getD (Int.toNat (w+i)) 0) (IntKind.wrap .u32 (IntKind.wrap .u64 ((IntKind.wrap .u64 (m_1.getD i.toNat 0))*2 ^ (min s.toNat 64)))))) (Int.toNat ((w+i)+1)) (IntKind.wrap .u32 (Int.fdiv (IntKind.wrap .u64 ((IntKind.wrap .u64 (m_1.getD i.toNat 0))*2 ^ (min s.toNat 64))) (2 ^ 32))))))))))))))))) (e0 out))
def Xl (N:Nat) (m:LI) (n:Int) (k0:Bool) (k1:Ky6):Bool:=
 (cond (((m.length:Nat):Int)==0) k0 (ah .i64 (IntKind.wrap .u64 (Int.tdiv n 32))&&(ah .i64 ((IntKind.wrap .u64 (Int.tdiv n 32))+((m.length:Nat):Int))&&(ah .i64 (((IntKind.wrap .u64 (Int.tdiv n 32))+((m.length:Nat):Int))+1)&&(gc 4 (((IntKind.wrap .u64 (Int.tdiv n 32))+((m.length:Nat):Int))+1) (((IntKind.wrap .u64 (Int.tdiv n 32))+((m.length:Nat):Int))+1)&&al N (rX N m (IntKind.wrap .u64 (Int.tdiv n 32)) (Int.tmod n 32) (λacH=>tk N acH (λmr=>k1 mr acH))) (0,(List.replicate (Int.toNat (((IntKind.wrap .u64 (Int.tdiv n 32))+((m.length:Nat):Int))+1)) (0:Int))))))))
def Ke (N:Nat):LI->Int->(Bool)->(Ky6)->Bool:=aC N (Xl N)
def iP (N u u_2 d d_2:Nat) (j_1 g_1:Int) (d_3:LI) (e0:Int->Int->LI->Bool):(Int × Int × Int × LI)->((Int × Int × Int × LI)->Bool)->Bool:=λv_ K=>match v_ with
 | (carry,borrow,i,u_3)=>(cond (decide (i<((d_2:Nat):Int))) (inR i d_2&&(decide ((d+i.toNat)<d_3.length)&&(ah .i64 (j_1+i)&&(inR (j_1+i) u_2&&(decide ((u+(Int.toNat (j_1+i)))<u_3.length)&&cond (decide ((IntKind.wrap .u64 (u_3.getD (u+(Int.toNat (j_1+i))) 0))<(IntKind.wrap .u64 ((aE .and .u64 (IntKind.wrap .u64 ((IntKind.wrap .u64 (g_1*(IntKind.wrap .u64 (d_3.getD (d+i.toNat) 0))))+carry)) 4294967295)+borrow)))) (ah .i64 (j_1+i)&&(inR (j_1+i) u_2&&(decide ((u+(Int.toNat (j_1+i)))<u_3.length)&&(ah .i64 (i+1)&&K ((Int.fdiv (IntKind.wrap .u64 ((IntKind.wrap .u64 (g_1*(IntKind.wrap .u64 (d_3.getD (d+i.toNat) 0))))+carry)) (2 ^ 32)),1,(i+1),(u_3.set (u+(Int.toNat (j_1+i))) (IntKind.wrap .u32 (IntKind.wrap .u64 ((IntKind.wrap .u64 ((IntKind.wrap .u64 (u_3.getD (u+(Int.toNat (j_1+i))) 0))+4294967296)) - (IntKind.wrap .u64 ((aE .and .u64 (IntKind.wrap .u64 ((IntKind.wrap .u64 (g_1*(IntKind.wrap .u64 (d_3.getD (d+i.toNat) 0))))+carry)) 4294967295)+borrow))))))))))) (ah .i64 (j_1+i)&&(inR (j_1+i) u_2&&(decide ((u+(Int.toNat (j_1+i)))<u_3.length)&&(ah .i64 (i+1)&&K ((Int.fdiv (IntKind.wrap .u64 ((IntKind.wrap .u64 (g_1*(IntKind.wrap .u64 (d_3.getD (d+i.toNat) 0))))+carry)) (2 ^ 32)),0,(i+1),(u_3.set (u+(Int.toNat (j_1+i))) (IntKind.wrap .u32 (IntKind.wrap .u64 ((IntKind.wrap .u64 (u_3.getD (u+(Int.toNat (j_1+i))) 0)) - (IntKind.wrap .u64 ((aE .and .u64 (IntKind.wrap .u64 ((IntKind.wrap .u64 (g_1*(IntKind.wrap .u64 (d_3.getD (d+i.toNat) 0))))+carry)) 4294967295)+borrow)))))))))))))))) (e0 carry borrow u_3))
def Qp (N u_0 u_1 d_0 d_1:Nat) (j g:Int) (b b_1:LI) (k0:Ky2):Bool:=
 (al N (iP N u_0 u_1 d_0 d_1 j g b_1 (λacS adG u_4=>ah .i64 (j+((d_1:Nat):Int))&&(inR (j+((d_1:Nat):Int)) u_1&&(decide ((u_0+(Int.toNat (j+((d_1:Nat):Int))))<u_4.length)&&(ah .i64 (j+((d_1:Nat):Int))&&(inR (j+((d_1:Nat):Int)) u_1&&(decide ((u_0+(Int.toNat (j+((d_1:Nat):Int))))<u_4.length)&&k0 (decide ((IntKind.wrap .u64 (u_4.getD (u_0+(Int.toNat (j+((d_1:Nat):Int)))) 0))<(IntKind.wrap .u64 (acS+adG)))) (u_4.set (u_0+(Int.toNat (j+((d_1:Nat):Int)))) (IntKind.wrap .u32 (IntKind.wrap .u64 ((IntKind.wrap .u64 (u_4.getD (u_0+(Int.toNat (j+((d_1:Nat):Int)))) 0)) - (IntKind.wrap .u64 (acS+adG))))))))))))) (0,0,0,b))
def Tu (N:Nat):Nat->Nat->Nat->Nat->Int->Int->LI->LI->(Ky2)->Bool:=aC N (Qp N)
def iQ (N u u_2 d d_2:Nat) (j_1:Int) (d_3:LI) (e0:Ky5):(Int × Int × LI)->((Int × Int × LI)->Bool)->Bool:=λv_ K=>match v_ with
 | (carry,i,u_3)=>(cond (decide (i<((d_2:Nat):Int))) (ah .i64 (j_1+i)&&(inR (j_1+i) u_2&&(decide ((u+(Int.toNat (j_1+i)))<u_3.length)&&(inR i d_2&&(decide ((d+i.toNat)<d_3.length)&&(ah .i64 (j_1+i)&&(inR (j_1+i) u_2&&(decide ((u+(Int.toNat (j_1+i)))<u_3.length)&&(ah .i64 (i+1)&&K ((Int.fdiv (IntKind.wrap .u64 ((IntKind.wrap .u64 ((IntKind.wrap .u64 (u_3.getD (u+(Int.toNat (j_1+i))) 0))+(IntKind.wrap .u64 (d_3.getD (d+i.toNat) 0))))+carry)) (2 ^ 32)),(i+1),(u_3.set (u+(Int.toNat (j_1+i))) (IntKind.wrap .u32 (IntKind.wrap .u64 ((IntKind.wrap .u64 ((IntKind.wrap .u64 (u_3.getD (u+(Int.toNat (j_1+i))) 0))+(IntKind.wrap .u64 (d_3.getD (d+i.toNat) 0))))+carry)))))))))))))) (e0 carry u_3))
def Qq (N u_0 u_1 d_0 d_1:Nat) (j:Int) (b b_1:LI) (k0:Kz3):Bool:=
 (al N (iQ N u_0 u_1 d_0 d_1 j b_1 (λacS u_4=>ah .i64 (j+((d_1:Nat):Int))&&(inR (j+((d_1:Nat):Int)) u_1&&(decide ((u_0+(Int.toNat (j+((d_1:Nat):Int))))<u_4.length)&&(inR (j+((d_1:Nat):Int)) u_1&&(decide ((u_0+(Int.toNat (j+((d_1:Nat):Int))))<u_4.length)&&k0 (u_4.set (u_0+(Int.toNat (j+((d_1:Nat):Int)))) (IntKind.wrap .u32 ((u_4.getD (u_0+(Int.toNat (j+((d_1:Nat):Int)))) 0)+(IntKind.wrap .u32 acS)))))))))) (0,0,b))
def Tv (N:Nat):Nat->Nat->Nat->Nat->Int->LI->LI->(Kz3)->Bool:=aC N (Qq N)
def Al (N m:Nat) (m_3:LI) (e0:Kz0):(Nat)->((Nat)->Bool)->Bool:=λv_ K=>match v_ with
 | m_2=>(cond ((decide (((m_2:Nat):Int)>0))==true) (ah .i64 (((m_2:Nat):Int) - 1)&&(inR (((m_2:Nat):Int) - 1) m_2&&(decide ((m+(Int.toNat (((m_2:Nat):Int) - 1)))<m_3.length)&&cond ((m_3.getD (m+(Int.toNat (((m_2:Nat):Int) - 1))) 0)==0) (ah .i64 (((m_2:Nat):Int) - 1)&&(decide (0<=(((m_2:Nat):Int) - 1)/\(((m_2:Nat):Int) - 1)<=((m_2:Nat):Int))&&K ((Int.toNat (((m_2:Nat):Int) - 1)) - 0))) (e0 m_2)))) (e0 m_2))
def QK (N m_0 m_1:Nat) (b:LI) (k0:Kz0):Bool:=
 (al N (Al N m_0 b (λm_4=>k0 m_4)) m_1)
def TF (N:Nat):Nat->Nat->LI->(Kz0)->Bool:=aC N (QK N)
def jZ (N m m_2:Nat) (w s:Int) (m_3:LI) (e0:Kz3):(Int × LI)->((Int × LI)->Bool)->Bool:=λv_ K=>match v_ with
 | (i,out)=>(cond (decide (i<((out.length:Nat):Int))) (ah .i64 (w+i)&&(inR (w+i) m_2&&(decide ((m+(Int.toNat (w+i)))<m_3.length)&&(ah .i64 (w+i)&&(ah .i64 ((w+i)+1)&&cond (decide (((w+i)+1)<((m_2:Nat):Int))) (ah .i64 (w+i)&&(ah .i64 ((w+i)+1)&&(inR ((w+i)+1) m_2&&(decide ((m+(Int.toNat ((w+i)+1)))<m_3.length)&&(decide (0<=s)&&(inR i out.length&&(decide (i.toNat<out.length)&&(ah .i64 (i+1)&&K ((i+1),(out.set i.toNat (IntKind.wrap .u32 (Int.fdiv (aE .or .u64 (IntKind.wrap .u64 (m_3.getD (m+(Int.toNat (w+i))) 0)) (IntKind.wrap .u64 ((IntKind.wrap .u64 (m_3.getD (m+(Int.toNat ((w+i)+1))) 0))*2 ^ 32))) (2 ^ (min s.toNat 64)))))))))))))) (decide (0<=s)&&(inR i out.length&&(decide (i.toNat<out.length)&&(ah .i64 (i+1)&&K ((i+1),(out.set i.toNat (IntKind.wrap .u32 (Int.fdiv (IntKind.wrap .u64 (m_3.getD (m+(Int.toNat (w+i))) 0)) (2 ^ (min s.toNat 64))))))))))))))) (e0 out))
def Qy (N m_0 m_1:Nat) (n:Int) (b:LI) (k0:Kz3):Bool:=
 (ah .i64 (IntKind.wrap .u64 (Int.tdiv n 32))&&cond (decide ((IntKind.wrap .u64 (Int.tdiv n 32))>=((m_1:Nat):Int))) (k0 []) (ah .i64 (((m_1:Nat):Int) - (IntKind.wrap .u64 (Int.tdiv n 32)))&&(gc 4 (((m_1:Nat):Int) - (IntKind.wrap .u64 (Int.tdiv n 32))) (((m_1:Nat):Int) - (IntKind.wrap .u64 (Int.tdiv n 32)))&&al N (jZ N m_0 m_1 (IntKind.wrap .u64 (Int.tdiv n 32)) (Int.tmod n 32) b (λacH=>tk N acH (λmr=>decide ((0+mr)<=acH.length)&&k0 (List.take mr (List.drop 0 acH))))) (0,(List.replicate (Int.toNat (((m_1:Nat):Int) - (IntKind.wrap .u64 (Int.tdiv n 32)))) (0:Int))))))
def TA (N:Nat):Nat->Nat->Int->LI->(Kz3)->Bool:=aC N (Qy N)
def E8 (N:Nat) (a_1:LI) (s:Int) (e0:Ky6):(Nat × LI)->((Nat × LI)->Bool)->Bool:=λv_ K=>match v_ with
 | (u,u_1)=>(ah .i64 (((a_1.length:Nat):Int)+1)&&cond (decide (((u:Nat):Int)<(((a_1.length:Nat):Int)+1))) (decide ((0+u)<=u_1.length)&&(decide ((List.length ((List.take u (List.drop 0 u_1))++[0]))*4<=140737488355328)&&K ((List.length ((List.take u (List.drop 0 u_1))++[0])),((List.take u (List.drop 0 u_1))++[0])))) (e0 u u_1))
def tu (N:Nat) (a_2:LI) (s_1:Int) (d:Nat) (d_1:LI) (e0:Ky6):(Nat × LI)->((Nat × LI)->Bool)->Bool:=λv_ K=>match v_ with
 | (u_6,u_7)=>(ah .i64 (((a_2.length:Nat):Int)+1)&&cond (decide (((u_6:Nat):Int)<(((a_2.length:Nat):Int)+1))) (decide ((0+u_6)<=u_7.length)&&(decide ((List.length ((List.take u_6 (List.drop 0 u_7))++[0]))*4<=140737488355328)&&K ((List.length ((List.take u_6 (List.drop 0 u_7))++[0])),((List.take u_6 (List.drop 0 u_7))++[0])))) (e0 u_6 u_7))
def tv (N:Nat) (s_5:Int) (d_6 aeU:Nat) (n_1 aff j_1:Int) (d_7 ae3 q_1:LI) (e0:Ky9):(Int × Int)->((Int × Int)->Bool)->Bool:=λv_ K=>match v_ with
 | (g,r)=>(cond ((decide (g>=4294967296))==false) (ah .i64 (n_1 - 2)&&(inR (n_1 - 2) d_6&&(decide ((0+(Int.toNat (n_1 - 2)))<d_7.length)&&(ah .i64 (j_1+n_1)&&(ah .i64 ((j_1+n_1) - 2)&&(inR ((j_1+n_1) - 2) aeU&&(decide ((0+(Int.toNat ((j_1+n_1) - 2)))<ae3.length)&&cond (decide ((IntKind.wrap .u64 (g*(IntKind.wrap .u64 (d_7.getD (0+(Int.toNat (n_1 - 2))) 0))))>(aE .or .u64 (IntKind.wrap .u64 (r*2 ^ 32)) (IntKind.wrap .u64 (ae3.getD (0+(Int.toNat ((j_1+n_1) - 2))) 0))))) (cond (decide ((IntKind.wrap .u64 (r+aff))>=4294967296)) (e0 (IntKind.wrap .u64 (g - 1))) (K ((IntKind.wrap .u64 (g - 1)),(IntKind.wrap .u64 (r+aff))))) (e0 g)))))))) (cond (decide ((IntKind.wrap .u64 (r+aff))>=4294967296)) (e0 (IntKind.wrap .u64 (g - 1))) (K ((IntKind.wrap .u64 (g - 1)),(IntKind.wrap .u64 (r+aff))))))
def kR (N:Nat) (s_4:Int) (d_4 adH:Nat) (n top:Int) (d_5:LI) (e0:Ky7):(Int × LI × LI)->((Int × LI × LI)->Bool)->Bool:=λv_ K=>match v_ with
 | (j,adC,q)=>(cond (decide (j>=0)) (ah .i64 (j+n)&&(inR (j+n) adH&&(decide ((0+(Int.toNat (j+n)))<adC.length)&&(ah .i64 (j+n)&&(ah .i64 ((j+n) - 1)&&(inR ((j+n) - 1) adH&&(decide ((0+(Int.toNat ((j+n) - 1)))<adC.length)&&((!decide (top=0))&&((!decide (top=0))&&al N (tv N s_4 d_4 adH n top j d_5 adC q (λg_1=>Tu N 0 adH 0 d_4 j g_1 adC d_5 (λcr acr=>cond cr (Tv N 0 adH 0 d_4 j acr d_5 (λacq=>inR j q.length&&(decide (j.toNat<q.length)&&(ah .i64 (j - 1)&&K ((j - 1),acq,(q.set j.toNat (IntKind.wrap .u32 (IntKind.wrap .u64 (g_1 - 1))))))))) (inR j q.length&&(decide (j.toNat<q.length)&&(ah .i64 (j - 1)&&K ((j - 1),acr,(q.set j.toNat (IntKind.wrap .u32 g_1))))))))) ((IntKind.wrap .u64 (Int.tdiv (aE .or .u64 (IntKind.wrap .u64 ((IntKind.wrap .u64 (adC.getD (0+(Int.toNat (j+n))) 0))*2 ^ 32)) (IntKind.wrap .u64 (adC.getD (0+(Int.toNat ((j+n) - 1))) 0))) top)),(Int.tmod (aE .or .u64 (IntKind.wrap .u64 ((IntKind.wrap .u64 (adC.getD (0+(Int.toNat (j+n))) 0))*2 ^ 32)) (IntKind.wrap .u64 (adC.getD (0+(Int.toNat ((j+n) - 1))) 0))) top))))))))))) (e0 adC q))
def M5 (N:Nat) (a b:LI) (s_3:Int) (d_2 adm:Nat) (d_3 adW:LI) (k0:Ky7):Bool:=
 (ah .i64 (((adm:Nat):Int) - ((d_2:Nat):Int))&&(gc 4 (((adm:Nat):Int) - ((d_2:Nat):Int)) (((adm:Nat):Int) - ((d_2:Nat):Int))&&(ah .i64 (((d_2:Nat):Int) - 1)&&(inR (((d_2:Nat):Int) - 1) d_2&&(decide ((0+(Int.toNat (((d_2:Nat):Int) - 1)))<d_3.length)&&(ah .i64 ((((List.length (List.replicate (Int.toNat (((adm:Nat):Int) - ((d_2:Nat):Int))) (0:Int))):Nat):Int) - 1)&&al N (kR N s_3 d_2 adm ((d_2:Nat):Int) (IntKind.wrap .u64 (d_3.getD (0+(Int.toNat (((d_2:Nat):Int) - 1))) 0)) d_3 (λad4 q_2=>tk N q_2 (λahr=>decide (0<=((d_2:Nat):Int)/\((d_2:Nat):Int)<=((adm:Nat):Int))&&TF N 0 ((Int.toNat ((d_2:Nat):Int)) - 0) ad4 (λajl=>TA N 0 ajl s_3 ad4 (λs6=>decide ((0+ahr)<=q_2.length)&&k0 (List.take ahr (List.drop 0 q_2)) s6))))) (((((List.length (List.replicate (Int.toNat (((adm:Nat):Int) - ((d_2:Nat):Int))) (0:Int))):Nat):Int) - 1),adW,(List.replicate (Int.toNat (((adm:Nat):Int) - ((d_2:Nat):Int))) (0:Int)))))))))
def Q0 (N:Nat) (a b:LI) (s_2:Int) (aee:Nat) (ad3:LI) (k0:Ky7):Bool:=
 (ah .i64 (((aee:Nat):Int) - 0)&&(gc 4 (((aee:Nat):Int) - 0) (((aee:Nat):Int) - 0)&&false))
def KI (N:Nat) (a b:LI) (k0:Ky7):Bool:=
 (Da N a b (λnr=>cond (decide (nr<0)) (decide ((List.length ([]++a))*4<=140737488355328)&&k0 [] ([]++a)) (cond (((b.length:Nat):Int)==1) (inR 0 b.length&&Ka N a (b.getD 0 0) (λnsr acl=>tk N [acl] (λmr=>decide ((0+mr)<=(List.length [acl]))&&k0 nsr (List.take mr (List.drop 0 [acl]))))) (ah .i64 (((b.length:Nat):Int) - 1)&&(inR (((b.length:Nat):Int) - 1) b.length&&Vw N (b.getD (Int.toNat (((b.length:Nat):Int) - 1)) 0) (λacn=>Ke N b (IntKind.wrap .u64 acn) (Ke N a (IntKind.wrap .u64 acn) (al N (E8 N a (IntKind.wrap .u64 acn) (λu_2 u_3=>Q0 N a b (IntKind.wrap .u64 acn) u_2 u_3 k0)) (0,[])) (λacL acw=>al N (E8 N a (IntKind.wrap .u64 acn) (λu_4 u_5=>Q0 N a b (IntKind.wrap .u64 acn) u_4 u_5 k0)) (acL,acw))) (λacZ ack=>Ke N a (IntKind.wrap .u64 acn) (al N (tu N a (IntKind.wrap .u64 acn) acZ ack (λu_8 u_9=>M5 N a b (IntKind.wrap .u64 acn) acZ u_8 ack u_9 k0)) (0,[])) (λae0 acu=>al N (tu N a (IntKind.wrap .u64 acn) acZ ack (λac8 ac_=>M5 N a b (IntKind.wrap .u64 acn) acZ ac8 ack ac_ k0)) (ae0,acu)))))))))
def xw (N:Nat):LI->LI->(Ky7)->Bool:=aC N (KI N)
def mQ (N:Nat) (a_2 b_2:LI) (i_1:Int) (e0:Ky5):(Int × Int × LI)->((Int × Int × LI)->Bool)->Bool:=λv_ K=>match v_ with
 | (carry,k_,acH)=>(cond (decide (k_<((b_2.length:Nat):Int))) (inR i_1 a_2.length&&(inR k_ b_2.length&&(ah .i64 (i_1+k_)&&(inR (i_1+k_) acH.length&&(decide ((Int.toNat (i_1+k_))<acH.length)&&(ah .i64 (i_1+k_)&&(inR (i_1+k_) acH.length&&(decide ((Int.toNat (i_1+k_))<acH.length)&&(ah .i64 (k_+1)&&K ((Int.fdiv (IntKind.wrap .u64 ((IntKind.wrap .u64 ((IntKind.wrap .u64 ((IntKind.wrap .u64 (a_2.getD i_1.toNat 0))*(IntKind.wrap .u64 (b_2.getD k_.toNat 0))))+(IntKind.wrap .u64 (acH.getD (Int.toNat (i_1+k_)) 0))))+carry)) (2 ^ 32)),(k_+1),(acH.set (Int.toNat (i_1+k_)) (IntKind.wrap .u32 (IntKind.wrap .u64 ((IntKind.wrap .u64 ((IntKind.wrap .u64 ((IntKind.wrap .u64 (a_2.getD i_1.toNat 0))*(IntKind.wrap .u64 (b_2.getD k_.toNat 0))))+(IntKind.wrap .u64 (acH.getD (Int.toNat (i_1+k_)) 0))))+carry)))))))))))))) (e0 carry acH))
def mP (N:Nat) (a_1 b_1:LI) (e0:Kz3):(Int × LI)->((Int × LI)->Bool)->Bool:=λv_ K=>match v_ with
 | (i,out)=>(cond (decide (i<((a_1.length:Nat):Int))) (al N (mQ N a_1 b_1 i (λacS adj=>ah .i64 (i+((b_1.length:Nat):Int))&&(inR (i+((b_1.length:Nat):Int)) adj.length&&(decide ((Int.toNat (i+((b_1.length:Nat):Int)))<adj.length)&&(ah .i64 (i+1)&&K ((i+1),(adj.set (Int.toNat (i+((b_1.length:Nat):Int))) (IntKind.wrap .u32 acS)))))))) (0,0,out)) (e0 out))
def XG (N:Nat) (a b:LI) (k0:Kz3):Bool:=
 (ah .i64 (((a.length:Nat):Int)+((b.length:Nat):Int))&&(gc 4 (((a.length:Nat):Int)+((b.length:Nat):Int)) (((a.length:Nat):Int)+((b.length:Nat):Int))&&al N (mP N a b (λadY=>tk N adY (λmr=>decide ((0+mr)<=adY.length)&&k0 (List.take mr (List.drop 0 adY))))) (0,(List.replicate (Int.toNat (((a.length:Nat):Int)+((b.length:Nat):Int))) (0:Int)))))
def Dc (N:Nat):LI->LI->(Kz3)->Bool:=aC N (XG N)
def mM (N:Nat) (a_1 b_1:LI) (e0:Kz3):(Int × Int × LI)->((Int × Int × LI)->Bool)->Bool:=λv_ K=>match v_ with
 | (borrow,i,out)=>(cond (decide (i<((a_1.length:Nat):Int))) (cond (decide (i<((b_1.length:Nat):Int))) (inR i b_1.length&&(inR i a_1.length&&cond (decide ((IntKind.wrap .u64 (a_1.getD i.toNat 0))<(IntKind.wrap .u64 (borrow+(IntKind.wrap .u64 (b_1.getD i.toNat 0)))))) (inR i out.length&&(decide (i.toNat<out.length)&&(ah .i64 (i+1)&&K (1,(i+1),(out.set i.toNat (IntKind.wrap .u32 (IntKind.wrap .u64 ((IntKind.wrap .u64 ((IntKind.wrap .u64 (a_1.getD i.toNat 0))+4294967296)) - (IntKind.wrap .u64 (borrow+(IntKind.wrap .u64 (b_1.getD i.toNat 0)))))))))))) (inR i out.length&&(decide (i.toNat<out.length)&&(ah .i64 (i+1)&&K (0,(i+1),(out.set i.toNat (IntKind.wrap .u32 (IntKind.wrap .u64 ((IntKind.wrap .u64 (a_1.getD i.toNat 0)) - (IntKind.wrap .u64 (borrow+(IntKind.wrap .u64 (b_1.getD i.toNat 0)))))))))))))) (inR i a_1.length&&cond (decide ((IntKind.wrap .u64 (a_1.getD i.toNat 0))<borrow)) (inR i out.length&&(decide (i.toNat<out.length)&&(ah .i64 (i+1)&&K (1,(i+1),(out.set i.toNat (IntKind.wrap .u32 (IntKind.wrap .u64 ((IntKind.wrap .u64 ((IntKind.wrap .u64 (a_1.getD i.toNat 0))+4294967296)) - borrow)))))))) (inR i out.length&&(decide (i.toNat<out.length)&&(ah .i64 (i+1)&&K (0,(i+1),(out.set i.toNat (IntKind.wrap .u32 (IntKind.wrap .u64 ((IntKind.wrap .u64 (a_1.getD i.toNat 0)) - borrow)))))))))) (e0 out))
def QE (N:Nat) (a b:LI) (k0:Kz3):Bool:=
 (gc 4 ((a.length:Nat):Int) ((a.length:Nat):Int)&&al N (mM N a b (λacH=>tk N acH (λmr=>decide ((0+mr)<=acH.length)&&k0 (List.take mr (List.drop 0 acH))))) (0,0,(List.replicate (Int.toNat ((a.length:Nat):Int)) (0:Int))))
def J_ (N:Nat):LI->LI->(Kz3)->Bool:=aC N (QE N)
def QQ (N:Nat) (a:LI) (u:Int) (b:LI) (v:Int) (k0:Kz3):Bool:=
 (GG N u (λnsr=>Dc N a nsr (λack=>GG N v (λacw=>Dc N b acw (λacu=>J_ N ack acu (λacr=>k0 acr))))))
def N7 (N:Nat):LI->Int->LI->Int->(Kz3)->Bool:=aC N (QQ N)
def xX (N:Nat) (a:LI) (u:Int) (b:LI) (v:Int) (k0:Kz3):Bool:=
 (cond (decide (v<=0)) (ah .i64 (0 - v)&&N7 N a (IntKind.wrap .u64 u) b (IntKind.wrap .u64 (0 - v)) (λnsr=>k0 nsr)) (ah .i64 (0 - u)&&N7 N b (IntKind.wrap .u64 v) a (IntKind.wrap .u64 (0 - u)) (λack=>k0 ack)))
def qY (N:Nat):LI->Int->LI->Int->(Kz3)->Bool:=aC N (xX N)
def Kt (N:Nat) (e0:Ky7):(LI × LI)->((LI × LI)->Bool)->Bool:=λv_ K=>match v_ with
 | (a_2,b_2)=>(cond (decide (((b_2.length:Nat):Int)>2)) (Kg N false a_2 (λacl=>ah .i64 (acl - 62)&&vq N a_2 (acl - 62) (λacn=>vq N b_2 (acl - 62) (λacC=>TG N acn acC (λacP n5 n6 n7=>cond (n5==0) (xw N a_2 b_2 (λnsr ack=>K (b_2,ack))) (qY N a_2 acP b_2 n5 (λacw=>qY N a_2 n6 b_2 n7 (λacu=>K (acw,acu))))))))) (e0 a_2 b_2))
def B4 (N:Nat) (e0:Kz3):(LI × LI)->((LI × LI)->Bool)->Bool:=λv_ K=>match v_ with
 | (a_4,b_4)=>(cond (decide (((b_4.length:Nat):Int)>0)) (xw N a_4 b_4 (λacr acq=>K (b_4,acq))) (e0 a_4))
def Q4 (N:Nat) (a b a_1 b_1:LI) (k0:Kz3):Bool:=
 (al N (Kt N (λa_3 b_3=>al N (B4 N (λa_5=>decide ((List.length ([]++a_5))*4<=140737488355328)&&k0 ([]++a_5))) (a_3,b_3))) (a_1,b_1))
def QV (N:Nat) (a b:LI) (k0:Kz3):Bool:=
 (Da N a b (λnr=>cond (decide (nr<0)) (Q4 N a b b a k0) (Q4 N a b a b k0)))
def Mx (N:Nat):LI->LI->(Kz3)->Bool:=aC N (QV N)
def KJ (N:Nat) (neg:Bool) (a b:LI) (b_1 b_2:Bool) (a_1 b_3:LI) (k0:Kx6):Bool:=
 (GF N neg a_1 b_1 b_2 (λacJ s12 s13=>FK N false b_3 acJ s12 b_2 s13 (λacT s14=>k0 acJ s12 acT s14)))
def Un (N:Nat) (neg:Bool) (a b:LI) (b_1 b_2:Bool) (n:Int) (k0:Kx6):Bool:=
 (A_ N a n (λacr=>A_ N b n (λacq=>sQ3 N false acq (λacn=>ah .i64 acn&&Kg N false acq (λacC=>ah .i64 (acC - 1)&&cond (acn != (acC - 1)) (Mx N acr acq (λs6=>pZ N (λs7=>Da N s6 s7 (λacP=>cond (acP != 0) (xw N acr s6 (λs8 s9=>xw N acq s6 (λs10 s11=>KJ N neg a b b_1 b_2 s8 s10 k0))) (KJ N neg a b b_1 b_2 acr acq k0))))) (KJ N neg a b b_1 b_2 acr acq k0))))))
def Qd (N:Nat) (neg:Bool) (a b:LI) (b_1 b_2:Bool) (k0:Kx6):Bool:=
 (cond (((a.length:Nat):Int)==0) (GF N false [] b_1 b_2 (λcr nsr ack=>pZ N (λacw=>FK N false acw cr nsr b_2 ack (λacs acu=>k0 cr nsr acs acu)))) (sQ3 N false a (λnr=>sQ3 N false b (λacl=>cond (decide (acl<nr)) (Un N neg a b b_1 b_2 acl k0) (Un N neg a b b_1 b_2 nr k0)))))
def PK (N:Nat):Bool->LI->LI->Bool->Bool->(Kx6)->Bool:=aC N (Qd N)
def Zl (N:Nat) (b b_1 b_2:Bool) (b_3:LI) (k0:Kx6):Bool:=
 (pZ N (λnsr=>PK N b_2 b_3 nsr b b_1 (λcr ack acs acw=>k0 cr ack acs acw)))
def Vv (N:Nat):Bool->Bool->Bool->LI->(Kx6)->Bool:=Zl N
def Up (N:Nat) (n:Int) (b:Bool) (u:Int) (k0:Ky2):Bool:=
 (GG N u (λnsr=>CN N (decide (n<0)) nsr b (λcr ack=>k0 cr ack)))
def QX (N:Nat) (n:Int) (b:Bool) (k0:Ky2):Bool:=
 (cond (decide (n<0)) (Up N n b (IntKind.wrap .u64 (0 - (IntKind.wrap .u64 n))) k0) (Up N n b (IntKind.wrap .u64 n) k0))
def aax (N:Nat):Int->Bool->(Ky2)->Bool:=aC N (QX N)
def At (N:Nat) (n:Int) (k0:Ky2):Bool:=
 (aax N n false (λcr nsr=>k0 cr nsr))
def qF (N:Nat):Int->(Ky2)->Bool:=At N
def Zp (N:Nat) (b b_1 b_2:Bool) (b_3:LI) (b_4:Bool) (b_5:LI) (k0:Kx6):Bool:=
 (PK N (b_2 != b_4) b_3 b_5 b b_1 (λcr nsr acs ack=>k0 cr nsr acs ack))
def aay (N:Nat):Bool->Bool->Bool->LI->Bool->LI->(Kx6)->Bool:=Zp N
def Qj (N:Nat) (x:Int) (b:Bool) (b_1:LI) (k0:Kx6):Bool:=
 (cond (decide (x>=0)) (Tn N x 0 b b_1 (Vv N false false b b_1 (λcr nsr acs ack=>k0 cr nsr acs ack)) (λacJ acw=>Vv N false false acJ acw (λacT acu adf acr=>k0 acT acu adf acr))) (qF N 1 (λadS acq=>ah .i64 (0 - x)&&N1 N (IntKind.wrap .u64 (0 - x)) false adS acq (λaea s6=>aay N false false b b_1 aea s6 (λaeb s7 c8 s8=>k0 aeb s7 c8 s8)))))
def WJ (N:Nat):Int->Bool->LI->(Kx6)->Bool:=aC N (Qj N)
def Cb (N:Nat) (x:Fl) (k0:Kx6):Bool:=
 (EY N x (λnr cr nsr=>WJ N nr cr nsr (λacs ack acJ acw=>k0 acs ack acJ acw)))
def xA (N:Nat):Fl->(Kx6)->Bool:=Cb N
def mT (N:Nat) (agK:LF) (ahy agl agm r_2 r_3:Int) (e0:List RY1->Bool):(Int × List RY1)->((Int × List RY1)->Bool)->Bool:=λv_ K=>match v_ with
 | (af_,b2)=>(cond (decide (af_<ahy)) (inR af_ agK.length&&xA N (agK.getD af_.toNat none) (λacJ acw acT acu=>decide ((List.length b2+1)*8<=140737488355328)&&(ah .i64 (af_+1)&&K ((af_+1),(b2++[((acJ,acw),(acT,acu))]))))) (e0 b2))
def QN (N:Nat) (m_0 m_1:Int) (m_2:LF) (k0:List RY1->Bool):Bool:=
 (al N (mT N m_2 ((m_2.length:Nat):Int) 0 0 m_0 m_1 (λ(aeh:List RY1)=>k0 aeh)) (0,[]))
def TH (N:Nat):Int->Int->LF->(List RY1->Bool)->Bool:=aC N (QN N)
def Cd (N:Nat) (m_0 m_1:Int) (m_2:LF) (k0:List RY1->Bool):Bool:=
 (TH N m_0 m_1 m_2 (λ(lr:List RY1)=>k0 lr))
def CQ (N:Nat):Int->Int->LF->(List RY1->Bool)->Bool:=Cd N
def lh (N:Nat) (afT afQ aek ael m_2 m_3:Int) (e0:List RY1->Bool):(Int × List RY1)->((Int × List RY1)->Bool)->Bool:=λv_ K=>match v_ with
 | (i_1,b2)=>(ah .i64 (afT*afQ)&&cond (decide (i_1<(afT*afQ))) (decide ((List.length b2+1)*8<=140737488355328)&&(ah .i64 (i_1+1)&&K ((i_1+1),(b2++[((false,[]),(false,[]))])))) (e0 b2))
def QH (N:Nat) (rows cols:Int) (k0:List RY1->Bool):Bool:=
 (al N (lh N rows cols 0 0 rows cols (λ(aeh:List RY1)=>k0 aeh)) (0,[]))
def TD (N:Nat):Int->Int->(List RY1->Bool)->Bool:=aC N (QH N)
def Qf (N:Nat) (r_0:Bool) (r_1:LI) (r_2:Bool) (r_3:LI) (k0:Kz3):Bool:=
 (cond (((r_3.length:Nat):Int)==0) (pZ N (λnsr=>k0 nsr)) (k0 r_3))
def J1 (N:Nat):Bool->LI->Bool->LI->(Kz3)->Bool:=aC N (Qf N)
def vF (N:Nat) (neg b:Bool) (b_1:LI) (b_2:Bool) (b_3 b_4:LI) (k0:Kx8):Bool:=
 (tk N b_4 (λmr=>cond (neg==true) (k0 (decide (((mr:Nat):Int)>0)) 0 mr) (k0 false 0 mr)))
def vR (N:Nat):Bool->Bool->LI->Bool->LI->LI->(Kx8)->Bool:=vF N
def V5 (N:Nat) (neg b:Bool) (b_1 b_2:Nat) (b_3:Bool) (b_4 b_5 b_6:LI) (k0:Kx8):Bool:=
 (tk N b_5 (λmr=>cond (neg==true) (k0 (decide (((mr:Nat):Int)>0)) 0 mr) (k0 false 0 mr)))
def WQ (N:Nat):Bool->Bool->Nat->Nat->Bool->LI->LI->LI->(Kx8)->Bool:=V5 N
def Qn (N:Nat) (x_0:Bool) (x_1:LI) (x_2:Bool) (x_3:LI) (b:Bool) (b_1:LI) (b_2:Bool) (b_3:LI) (k0:Kx6):Bool:=
 (decide ((List.length ([]++x_1))*4<=140737488355328)&&J1 N x_0 x_1 x_2 x_3 (λnsr=>decide ((List.length ([]++nsr))*4<=140737488355328)&&vR N x_0 b b_1 b_2 b_3 ([]++x_1) (λcr mr acZ=>WQ N false cr mr acZ b_2 b_3 ([]++nsr) ([]++x_1) (λacs acL ae0=>decide ((mr+acZ)<=(List.length ([]++x_1)))&&(decide ((acL+ae0)<=(List.length ([]++nsr)))&&k0 cr (List.take acZ (List.drop mr ([]++x_1))) acs (List.take ae0 (List.drop acL ([]++nsr))))))))
def Ts (N:Nat):Bool->LI->Bool->LI->Bool->LI->Bool->LI->(Kx6)->Bool:=aC N (Qn N)
def H6 (N:Nat) (t12 m m_3:Int) (m_4:List RY2) (t2 aej t t_1:Int) (e0:List RY1->Bool):(Int × List RY1)->((Int × List RY1)->Bool)->Bool:=λv_ K=>match v_ with
 | (t13,b3)=>(cond (decide (t13<t12)) (inR t13 b3.length&&(decide (t13.toNat<b3.length)&&(inR t13 m_4.length&&Ts N (m_4.getD t13.toNat ((false,[]),(false,[]))).1.1 (m_4.getD t13.toNat ((false,[]),(false,[]))).1.2 (m_4.getD t13.toNat ((false,[]),(false,[]))).2.1 (m_4.getD t13.toNat ((false,[]),(false,[]))).2.2 (b3.getD t13.toNat ((false,[]),(false,[]))).1.1 (b3.getD t13.toNat ((false,[]),(false,[]))).1.2 (b3.getD t13.toNat ((false,[]),(false,[]))).2.1 (b3.getD t13.toNat ((false,[]),(false,[]))).2.2 (λcr nsr acs ack=>ah .i64 (t13+1)&&K ((t13+1),(b3.set t13.toNat ((cr,nsr),(acs,ack)))))))) (e0 b3))
def Xr (N:Nat) (m_0 m_1:Int) (m_2:List RY2) (k0:List RY1->Bool):Bool:=
 (TD N m_0 m_1 (λ(lr:List RY1)=>al N (H6 N ((m_2.length:Nat):Int) m_0 m_1 m_2 0 0 m_0 m_1 (λ(b2:List RY1)=>k0 b2)) (0,lr)))
def Y1 (N:Nat):Int->Int->List RY2->(List RY1->Bool)->Bool:=aC N (Xr N)
def Zn (N:Nat) (m_0 m_1 i j:Int) (b:List RY1) (k0:Kz0):Bool:=
 (ah .i64 (i*m_1)&&(ah .i64 ((i*m_1)+j)&&(inR ((i*m_1)+j) b.length&&(decide ((Int.toNat ((i*m_1)+j))<b.length)&&k0 (Int.toNat ((i*m_1)+j))))))
def Kf (N:Nat):Int->Int->Int->Int->List RY1->(Kz0)->Bool:=Zn N
def Br (N:Nat) (z_0:Bool) (z_1:LI) (z_2:Bool) (z_3:LI) (k0:Ky9):Bool:=
 (cond (((z_1.length:Nat):Int)==0) (k0 0) (cond z_0 (k0 (-1)) (k0 1)))
def GH (N:Nat):Bool->LI->Bool->LI->(Ky9)->Bool:=aC N (Br N)
def VZ (N:Nat) (r_0:Bool) (r_1:LI) (r_2:Bool) (r_3:LI) (k0:Ky9):Bool:=
 (GH N r_0 r_1 r_2 r_3 (λnr=>k0 nr))
def J7 (N:Nat):Bool->LI->Bool->LI->(Ky9)->Bool:=VZ N
def W5 (N:Nat) (b:Bool) (b_1:LI) (b_2:Bool) (b_3:LI) (k0:Kz3):Bool:=
 (cond (((b_3.length:Nat):Int)==0) (pZ N (λnsr=>k0 nsr)) (k0 b_3))
def C_ (N:Nat):Bool->LI->Bool->LI->(Kz3)->Bool:=aC N (W5 N)
def Xh (N:Nat) (b b_1 b_2:Bool) (b_3:LI) (b_4:Bool) (b_5:LI) (b_6:Bool) (b_7:LI) (b_8:Bool) (b_9:LI) (k0:Kx6):Bool:=
 (C_ N b_6 b_7 b_8 b_9 (λnsr=>Dc N b_3 nsr (λack=>C_ N b_2 b_3 b_4 b_5 (λacw=>Dc N acw b_7 (λacu=>PK N (b_2 != b_6) ack acu b b_1 (λcr acr acs acq=>k0 cr acr acs acq))))))
def YZ (N:Nat):Bool->Bool->Bool->LI->Bool->LI->Bool->LI->Bool->LI->(Kx6)->Bool:=aC N (Xh N)
def Xg (N:Nat) (b b_1 b_2:Bool) (b_3:LI) (b_4:Bool) (b_5:LI) (b_6:Bool) (b_7:LI) (b_8:Bool) (b_9:LI) (k0:Kx6):Bool:=
 (Dc N b_3 b_7 (λnsr=>C_ N b_2 b_3 b_4 b_5 (λack=>C_ N b_6 b_7 b_8 b_9 (λacw=>Dc N ack acw (λacu=>PK N (b_2 != b_6) nsr acu b b_1 (λcr acr acs acq=>k0 cr acr acs acq))))))
def YY (N:Nat):Bool->Bool->Bool->LI->Bool->LI->Bool->LI->Bool->LI->(Kx6)->Bool:=aC N (Xg N)
def Qi (N:Nat) (b:Bool) (b_1:LI) (b_2:Bool) (b_3:LI) (b_4:Bool) (b_5:LI) (b_6:Bool) (b_7:LI) (k0:Ky7):Bool:=
 (C_ N b_4 b_5 b_6 b_7 (λnsr=>Dc N b_1 nsr (λack=>C_ N b b_1 b_2 b_3 (λacw=>Dc N b_5 acw (λacu=>k0 ack acu)))))
def WI (N:Nat):Bool->LI->Bool->LI->Bool->LI->Bool->LI->(Ky7)->Bool:=aC N (Qi N)
def ib (N:Nat) (a_1 b_1:LI) (e0:Ky5):(Int × Int × LI)->((Int × Int × LI)->Bool)->Bool:=λv_ K=>match v_ with
 | (carry,i,out)=>(cond (decide (i<((a_1.length:Nat):Int))) (inR i a_1.length&&cond (decide (i<((b_1.length:Nat):Int))) (inR i b_1.length&&(inR i out.length&&(decide (i.toNat<out.length)&&(ah .i64 (i+1)&&K ((Int.fdiv (IntKind.wrap .u64 ((IntKind.wrap .u64 ((IntKind.wrap .u64 (a_1.getD i.toNat 0))+carry))+(IntKind.wrap .u64 (b_1.getD i.toNat 0)))) (2 ^ 32)),(i+1),(out.set i.toNat (IntKind.wrap .u32 (IntKind.wrap .u64 ((IntKind.wrap .u64 ((IntKind.wrap .u64 (a_1.getD i.toNat 0))+carry))+(IntKind.wrap .u64 (b_1.getD i.toNat 0))))))))))) (inR i out.length&&(decide (i.toNat<out.length)&&(ah .i64 (i+1)&&K ((Int.fdiv (IntKind.wrap .u64 ((IntKind.wrap .u64 (a_1.getD i.toNat 0))+carry)) (2 ^ 32)),(i+1),(out.set i.toNat (IntKind.wrap .u32 (IntKind.wrap .u64 ((IntKind.wrap .u64 (a_1.getD i.toNat 0))+carry))))))))) (e0 carry out))
def zt (N:Nat) (a b:LI) (k0:Kz3):Bool:=
 (cond (decide (((a.length:Nat):Int)<((b.length:Nat):Int))) (ah .i64 (((b.length:Nat):Int)+1)&&(gc 4 (((b.length:Nat):Int)+1) (((b.length:Nat):Int)+1)&&al N (ib N b a (λacS acH=>inR ((b.length:Nat):Int) acH.length&&(decide ((Int.toNat ((b.length:Nat):Int))<acH.length)&&tk N (acH.set (Int.toNat ((b.length:Nat):Int)) (IntKind.wrap .u32 acS)) (λmr=>decide ((0+mr)<=(List.length (acH.set (Int.toNat ((b.length:Nat):Int)) (IntKind.wrap .u32 acS))))&&k0 (List.take mr (List.drop 0 (acH.set (Int.toNat ((b.length:Nat):Int)) (IntKind.wrap .u32 acS)))))))) (0,0,(List.replicate (Int.toNat (((b.length:Nat):Int)+1)) (0:Int))))) (ah .i64 (((a.length:Nat):Int)+1)&&(gc 4 (((a.length:Nat):Int)+1) (((a.length:Nat):Int)+1)&&al N (ib N a b (λadq adj=>inR ((a.length:Nat):Int) adj.length&&(decide ((Int.toNat ((a.length:Nat):Int))<adj.length)&&tk N (adj.set (Int.toNat ((a.length:Nat):Int)) (IntKind.wrap .u32 adq)) (λacZ=>decide ((0+acZ)<=(List.length (adj.set (Int.toNat ((a.length:Nat):Int)) (IntKind.wrap .u32 adq))))&&k0 (List.take acZ (List.drop 0 (adj.set (Int.toNat ((a.length:Nat):Int)) (IntKind.wrap .u32 adq)))))))) (0,0,(List.replicate (Int.toNat (((a.length:Nat):Int)+1)) (0:Int))))))
def Ac (N:Nat):LI->LI->(Kz3)->Bool:=aC N (zt N)
def Qo (N:Nat) (turn b b_1:Bool) (b_2:LI) (b_3:Bool) (b_4:LI) (k0:Ky2):Bool:=
 (cond (b_1==(b_3 != turn)) (Ac N b_2 b_4 (λnsr=>CN N (b_3 != turn) nsr b (λcr ack=>k0 cr ack))) (Da N b_2 b_4 (λnr=>cond (decide (nr>=0)) (J_ N b_2 b_4 (λacw=>CN N b_1 acw b (λacs acu=>k0 acs acu))) (J_ N b_4 b_2 (λacr=>CN N (b_3 != turn) acr b (λacJ acq=>k0 acJ acq))))))
def Tt (N:Nat):Bool->Bool->Bool->LI->Bool->LI->(Ky2)->Bool:=aC N (Qo N)
def VW (N:Nat) (b b_1:Bool) (b_2:LI) (b_3:Bool) (b_4:LI) (k0:Ky2):Bool:=
 (Tt N true b b_1 b_2 b_3 b_4 (λcr nsr=>k0 cr nsr))
def Tx (N:Nat):Bool->Bool->LI->Bool->LI->(Ky2)->Bool:=VW N
def Qg (N:Nat) (neg:Bool) (m:LI) (b:Bool) (b_1:LI) (b_2:Bool) (b_3:LI) (k0:Ky2):Bool:=
 (nR N m (λnsr=>cond (neg==true) (k0 (decide (((nsr.length:Nat):Int)>0)) nsr) (k0 false nsr)))
def GE (N:Nat):Bool->LI->Bool->LI->Bool->LI->(Ky2)->Bool:=Qg N
def KK (N:Nat) (neg:Bool) (a b:LI) (b_1:Bool) (b_2:LI) (b_3:Bool) (b_4 a_1 b_5:LI) (k0:Kx6):Bool:=
 (GE N neg a_1 b_1 b_2 b_3 b_4 (λacJ s11=>FK N false b_5 acJ s11 b_3 b_4 (λacT s12=>k0 acJ s11 acT s12)))
def Uo (N:Nat) (neg:Bool) (a b:LI) (b_1:Bool) (b_2:LI) (b_3:Bool) (b_4:LI) (n:Int) (k0:Kx6):Bool:=
 (A_ N a n (λacu=>A_ N b n (λacr=>sQ3 N false acr (λacn=>ah .i64 acn&&Kg N false acr (λacC=>ah .i64 (acC - 1)&&cond (acn != (acC - 1)) (Mx N acu acr (λacq=>pZ N (λs6=>Da N acq s6 (λacP=>cond (acP != 0) (xw N acu acq (λs7 s8=>xw N acr acq (λs9 s10=>KK N neg a b b_1 b_2 b_3 b_4 s7 s9 k0))) (KK N neg a b b_1 b_2 b_3 b_4 acu acr k0))))) (KK N neg a b b_1 b_2 b_3 b_4 acu acr k0))))))
def QT (N:Nat) (neg:Bool) (a b:LI) (b_1:Bool) (b_2:LI) (b_3:Bool) (b_4:LI) (k0:Kx6):Bool:=
 (cond (((a.length:Nat):Int)==0) (GE N false [] b_1 b_2 b_3 b_4 (λcr nsr=>pZ N (λack=>FK N false ack cr nsr b_3 b_4 (λacs acw=>k0 cr nsr acs acw)))) (sQ3 N false a (λnr=>sQ3 N false b (λacl=>cond (decide (acl<nr)) (Uo N neg a b b_1 b_2 b_3 b_4 acl k0) (Uo N neg a b b_1 b_2 b_3 b_4 nr k0)))))
def YT (N:Nat):Bool->LI->LI->Bool->LI->Bool->LI->(Kx6)->Bool:=aC N (QT N)
def Xo (N:Nat) (b:Bool) (b_1:LI) (b_2:Bool) (b_3:LI) (b_4:Bool) (b_5:LI) (b_6:Bool) (b_7:LI) (k0:Kx6):Bool:=
 (WI N b b_1 b_2 b_3 b_4 b_5 b_6 b_7 (λnsr ack=>C_ N b b_1 b_2 b_3 (λacw=>C_ N b_4 b_5 b_6 b_7 (λacu=>Dc N acw acu (λacr=>Tx N false b nsr b_4 ack (λcr acq=>YT N cr acq acr b b_1 b_2 b_3 (λacs s6 acJ s7=>k0 acs s6 acJ s7)))))))
def Y0 (N:Nat):Bool->LI->Bool->LI->Bool->LI->Bool->LI->(Kx6)->Bool:=aC N (Xo N)
def HY (N:Nat) (i_1 aeu:Int) (r:Bool) (r_1:LI) (r_2:Bool) (r_3:LI) (m m_2:Int) (e0:List RY1->Bool):(Int × List RY1)->((Int × List RY1)->Bool)->Bool:=λv_ K=>match v_ with
 | (j,b0)=>(cond (decide (j<m_2)) (Kf N m m_2 i_1 j b0 (λmr=>Kf N m m_2 i_1 j b0 (λacZ=>Kf N m m_2 aeu j b0 (λacL=>YY N false false r r_1 r_2 r_3 (b0.getD acL ((false,[]),(false,[]))).1.1 (b0.getD acL ((false,[]),(false,[]))).1.2 (b0.getD acL ((false,[]),(false,[]))).2.1 (b0.getD acL ((false,[]),(false,[]))).2.2 (λcr nsr acs ack=>decide (acZ=mr)&&Y0 N (List.getD (b0.set acL (((b0.getD acL ((false,[]),(false,[]))).1.1,(b0.getD acL ((false,[]),(false,[]))).1.2),((b0.getD acL ((false,[]),(false,[]))).2.1,(b0.getD acL ((false,[]),(false,[]))).2.2))) mr ((false,[]),(false,[]))).1.1 (List.getD (b0.set acL (((b0.getD acL ((false,[]),(false,[]))).1.1,(b0.getD acL ((false,[]),(false,[]))).1.2),((b0.getD acL ((false,[]),(false,[]))).2.1,(b0.getD acL ((false,[]),(false,[]))).2.2))) mr ((false,[]),(false,[]))).1.2 (List.getD (b0.set acL (((b0.getD acL ((false,[]),(false,[]))).1.1,(b0.getD acL ((false,[]),(false,[]))).1.2),((b0.getD acL ((false,[]),(false,[]))).2.1,(b0.getD acL ((false,[]),(false,[]))).2.2))) mr ((false,[]),(false,[]))).2.1 (List.getD (b0.set acL (((b0.getD acL ((false,[]),(false,[]))).1.1,(b0.getD acL ((false,[]),(false,[]))).1.2),((b0.getD acL ((false,[]),(false,[]))).2.1,(b0.getD acL ((false,[]),(false,[]))).2.2))) mr ((false,[]),(false,[]))).2.2 cr nsr acs ack (λacJ acw acT acu=>ah .i64 (j+1)&&K ((j+1),(List.set (b0.set acL (((b0.getD acL ((false,[]),(false,[]))).1.1,(b0.getD acL ((false,[]),(false,[]))).1.2),((b0.getD acL ((false,[]),(false,[]))).2.1,(b0.getD acL ((false,[]),(false,[]))).2.2))) mr ((acJ,acw),(acT,acu)))))))))) (e0 b0))
def Xa (N:Nat) (m_0 m_1 i k_:Int) (b:List RY1) (b_1:Bool) (b_2:LI) (b_3:Bool) (b_4:LI) (k0:List RY1->Bool):Bool:=
 (al N (HY N i k_ b_1 b_2 b_3 b_4 m_0 m_1 (λ(adx:List RY1)=>k0 adx)) (0,b))
def YX (N:Nat):Int->Int->Int->Int->List RY1->Bool->LI->Bool->LI->(List RY1->Bool)->Bool:=aC N (Xa N)
def Ag (N:Nat) (c_1 a_2 a_3:Int) (aeg:List RY1) (e0:Ky9) (e1:Bool):(Int)->((Int)->Bool)->Bool:=λv_ K=>match v_ with
 | j=>(cond (decide (j<a_3)) (Kf N a_2 a_3 c_1 j aeg (λacZ=>J7 N (aeg.getD acZ ((false,[]),(false,[]))).1.1 (aeg.getD acZ ((false,[]),(false,[]))).1.2 (aeg.getD acZ ((false,[]),(false,[]))).2.1 (aeg.getD acZ ((false,[]),(false,[]))).2.2 (λacn=>cond (acn != 0) (e0 1) (ah .i64 (j+1)&&K (j+1))))) e1)
def E9 (N:Nat) (agk c_2:Int) (d:Nat) (a_4 a_5:Int) (e0:List RY1->Bool):(Int × List RY1)->((Int × List RY1)->Bool)->Bool:=λv_ K=>match v_ with
 | (i,d_1)=>(cond (decide (i<a_4)) (Kf N a_4 a_5 i c_2 d_1 (λacL=>((!decide (d=acL))&&true)&&YZ N false false (d_1.getD acL ((false,[]),(false,[]))).1.1 (d_1.getD acL ((false,[]),(false,[]))).1.2 (d_1.getD acL ((false,[]),(false,[]))).2.1 (d_1.getD acL ((false,[]),(false,[]))).2.2 (d_1.getD d ((false,[]),(false,[]))).1.1 (d_1.getD d ((false,[]),(false,[]))).1.2 (d_1.getD d ((false,[]),(false,[]))).2.1 (d_1.getD d ((false,[]),(false,[]))).2.2 (λcr nsr acs ack=>YX N a_4 a_5 i c_2 (List.set (d_1.set d (((d_1.getD d ((false,[]),(false,[]))).1.1,(d_1.getD d ((false,[]),(false,[]))).1.2),((d_1.getD d ((false,[]),(false,[]))).2.1,(d_1.getD d ((false,[]),(false,[]))).2.2))) acL (((d_1.getD acL ((false,[]),(false,[]))).1.1,(d_1.getD acL ((false,[]),(false,[]))).1.2),((d_1.getD acL ((false,[]),(false,[]))).2.1,(d_1.getD acL ((false,[]),(false,[]))).2.2))) cr nsr acs ack (λ(ai3:List RY1)=>ah .i64 (i+1)&&K ((i+1),ai3))))) (e0 d_1))
def Af (N:Nat) (a a_1:Int) (e0:Ky9) (e1:Ky9):(Int × Int × List RY1)->((Int × Int × List RY1)->Bool)->Bool:=λv_ K=>match v_ with
 | (sign,c,b1)=>(cond (decide (c<a)) (Kf N a a_1 c c b1 (λmr=>J7 N (b1.getD mr ((false,[]),(false,[]))).1.1 (b1.getD mr ((false,[]),(false,[]))).1.2 (b1.getD mr ((false,[]),(false,[]))).2.1 (b1.getD mr ((false,[]),(false,[]))).2.2 (λnr=>cond (decide (nr<0)) (e0 1) (J7 N (b1.getD mr ((false,[]),(false,[]))).1.1 (b1.getD mr ((false,[]),(false,[]))).1.2 (b1.getD mr ((false,[]),(false,[]))).2.1 (b1.getD mr ((false,[]),(false,[]))).2.2 (λacl=>cond (acl==0) (ah .i64 (c+1)&&al N (Ag N c a a_1 b1 (λt2=>e0 t2) (ah .i64 (c+1)&&K (2,(c+1),b1))) (c+1)) (ah .i64 (c+1)&&al N (E9 N sign c mr a a_1 (λ(ady:List RY1)=>ah .i64 (c+1)&&K (sign,(c+1),ady))) ((c+1),b1))))))) (e1 sign))
def Xx (N:Nat) (m_0 m_1:Int) (m_2:List RY2) (k0:Ky9):Bool:=
 (Y1 N m_0 m_1 m_2 (λ(lr:List RY1)=>al N (Af N m_0 m_1 (λaej=>k0 aej) (λaiv=>k0 aiv)) (3,0,lr)))
def aaz (N:Nat):Int->Int->List RY2->(Ky9)->Bool:=aC N (Xx N)
def V9 (N:Nat) (m_0 m_1:Int) (m_2:LF) (k0:Ky8):Bool:=
 (CQ N m_0 m_1 m_2 (λ(lr:List RY1)=>aaz N m_0 m_1 lr (λnr=>k0 (nr==3))))
def TI (N:Nat):Int->Int->LF->(Ky8)->Bool:=V9 N
def wt (N:Nat) (s_0:LF) (s_1 s_2:Int) (s_3:LF) (k0:Ky9):Bool:=
 (CR N s_0 s_1 s_2 s_3 (λnr=>cond (nr != 0) (k0 nr) (TI N s_1 s_2 s_3 (λcr=>cond (!cr) (k0 151) (k0 0)))))
def sQ (N:Nat):LF->Int->Int->LF->(Ky9)->Bool:=aC N (wt N)
def VX (N:Nat) (n:Int) (k0:Ky8):Bool:=
 (cond ((decide (n>=0))==true) (k0 (decide (n<=12))) (k0 false))
def N2 (N:Nat):Int->(Ky8)->Bool:=VX N
abbrev KR:=Fl->(Ky9)->Bool
def JZ (N:Nat):KR:=λx k=>k (DP x)
def mH (N:Nat) (t6:LF) (t7:Int) (e0:Ky8) (e1:Bool):(Int)->((Int)->Bool)->Bool:=λv_ K=>match v_ with
 | t8=>(cond (decide (t8<t7)) (inR t8 t6.length&&JZ N (t6.getD t8.toNat none) (λnr=>cond ((nr==1)==false) (cond (nr==2) (e0 false) (ah .i64 (t8+1)&&K (t8+1))) (e0 false))) e1)
def P8 (N:Nat) (l:LF) (k0:Ky8):Bool:=
 (al N (mH N l ((l.length:Nat):Int) (λt2=>k0 t2) (k0 true)) 0)
def vQ (N:Nat):LF->(Ky8)->Bool:=aC N (P8 N)
def XF (N:Nat) (m_0 m_1:Int) (m_2:LF) (k0:Ky9):Bool:=
 (N2 N m_0 (λcr=>cond ((!cr)==false) (N2 N m_1 (λacs=>cond (!acs) (k0 1) (ah .i64 (m_0*m_1)&&cond (((m_2.length:Nat):Int) != (m_0*m_1)) (k0 3) (vQ N m_2 (λacJ=>cond (!acJ) (k0 4) (k0 0)))))) (k0 1)))
def PP (N:Nat):Int->Int->LF->(Ky9)->Bool:=aC N (XF N)
def B_ (N:Nat) (m_0 m_1:Int) (m_2:LF) (i j:Int) (k0:Kz1):Bool:=
 (ah .i64 (i*m_1)&&(ah .i64 ((i*m_1)+j)&&(inR ((i*m_1)+j) m_2.length&&k0 (m_2.getD (Int.toNat ((i*m_1)+j)) none))))
def sP (N:Nat):Int->Int->LF->Int->Int->(Kz1)->Bool:=B_ N
abbrev KS:=Fl->Fl->(Ky8)->Bool
def J4 (N:Nat):KS:=λx y k=>k (decide (cn x=cn y))
def H5 (N:Nat) (i ad0 ad1 t20 m_5 m_6:Int) (m_7:LF) (e0:Ky8) (e1:Bool):(Int)->((Int)->Bool)->Bool:=λv_ K=>match v_ with
 | t21=>(cond (decide (t21<t20)) (sP N m_5 m_6 m_7 i t21 (λxr=>sP N m_5 m_6 m_7 t21 i (λac5=>J4 N xr ac5 (λcr=>cond (!cr) (e0 false) (ah .i64 (t21+1)&&K (t21+1)))))) e1)
def H4 (N:Nat) (t16 m m_3:Int) (m_4:LF) (e0:Ky8) (e1:Bool):(Int)->((Int)->Bool)->Bool:=λv_ K=>match v_ with
 | t17=>(cond (decide (t17<t16)) (al N (H5 N t17 t16 t17 t17 m m_3 m_4 (λt2=>e0 t2) (ah .i64 (t17+1)&&K (t17+1))) 0) e1)
def Xe (N:Nat) (m_0 m_1:Int) (m_2:LF) (k0:Ky8):Bool:=
 (PP N m_0 m_1 m_2 (λnr=>cond ((nr != 0)==false) (cond (m_0 != m_1) (k0 false) (al N (H4 N m_0 m_0 m_1 m_2 (λaej=>k0 aej) (k0 true)) 0)) (k0 false)))
def Vt (N:Nat):Int->Int->LF->(Ky8)->Bool:=aC N (Xe N)
def As (N:Nat) (is:Bool) (e:Int) (k0:Bool):Bool:=
 (cond (!is) false k0)
def cA (N:Nat):Bool->Int->(Bool)->Bool:=As N
def Uh (N:Nat) (x:Int) (k0:Ky9):Bool:=
 (cond (x==0) (k0 64) (inR (Int.fdiv (IntKind.wrap .u64 ((aE .and .u64 x (IntKind.wrap .u64 (0 - x)))*285870213051353865)) (2 ^ 58)) 64&&(ah .i64 (CV.getD (Int.toNat (Int.fdiv (IntKind.wrap .u64 ((aE .and .u64 x (IntKind.wrap .u64 (0 - x)))*285870213051353865)) (2 ^ 58))) 0)&&k0 (CV.getD (Int.toNat (Int.fdiv (IntKind.wrap .u64 ((aE .and .u64 x (IntKind.wrap .u64 (0 - x)))*285870213051353865)) (2 ^ 58))) 0))))
def YV (N:Nat):Int->(Ky9)->Bool:=aC N (Uh N)
def KL (N:Nat) (b f_0 f_1 f_2:Int) (p:Bool) (p_1 p_2:Int) (k0:Kx4):Bool:=
 (YV N p_1 (λacP=>decide (0<=acP)&&(ah .i64 (p_2+acP)&&k0 p (Int.fdiv p_1 (2 ^ (min acP.toNat 64))) (p_2+acP) 0)))
def QU (N:Nat) (b f_0 f_1 f_2:Int) (k0:Kx4):Bool:=
 (TQ N b f_0 f_1 f_2 (λcr nr acl=>ah .i64 (nr - f_2)&&TP N b f_0 f_1 f_2 (λacn=>cond (acn==1) (k0 false 0 0 4) (cond (acn==2) (k0 false 0 0 4) (cond (acn==3) (k0 cr 0 0 0) (cond (acn==4) (ah .i64 ((nr - f_2)+1)&&KL N b f_0 f_1 f_2 cr acl ((nr - f_2)+1) k0) (lO N f_0 f_1 f_2 (λacC=>KL N b f_0 f_1 f_2 cr (aE .or .u64 acl acC) (nr - f_2) k0))))))))
def YW (N:Nat):Int->Int->Int->Int->(Kx4)->Bool:=aC N (QU N)
def Ds (N:Nat) (x:Fl) (k0:Kx4):Bool:=
 (A8 N x (λnr=>yD N (λacl acn acC=>YW N nr acl acn acC (λcr acP n5 n6=>k0 cr acP n5 n6))))
def rM (N:Nat):Fl->(Kx4)->Bool:=Ds N
def Ak (N:Nat) (x:LI) (e0:Ky9):(Int)->((Int)->Bool)->Bool:=λv_ K=>match v_ with
 | n=>(cond ((decide (n>0))==true) (ah .i64 (n - 1)&&(inR (n - 1) x.length&&(decide ((Int.toNat (n - 1))<x.length)&&cond ((x.getD (Int.toNat (n - 1)) 0)==0) (ah .i64 (n - 1)&&K (n - 1)) (e0 n)))) (e0 n))
def Xm (N:Nat) (b:LI) (k0:Kz0):Bool:=
 (al N (Ak N b (λn_1=>decide (0<=n_1/\n_1<=((b.length:Nat):Int))&&k0 (n_1.toNat - 0))) ((b.length:Nat):Int))
def A9 (N:Nat):LI->(Kz0)->Bool:=aC N (Xm N)
def Dt (N:Nat) (n:Int) (k0:Kz3):Bool:=
 (A9 N [n] (λmr=>decide ((0+mr)<=(List.length [n]))&&k0 (List.take mr (List.drop 0 [n]))))
def jw (N:Nat):Int->(Kz3)->Bool:=Dt N
def Zj (N:Nat) (neg:Bool) (abs:LI) (b:Bool) (k0:Ky8):Bool:=
 (cond (neg==true) (k0 (decide (((abs.length:Nat):Int)>0))) (k0 false))
def HJ (N:Nat):Bool->LI->Bool->(Ky8)->Bool:=Zj N
def Xc (N:Nat) (n:Int) (b:Bool) (k0:Ky2):Bool:=
 (jw N n (λnsr=>HJ N false nsr b (λcr=>k0 cr nsr)))
def TM (N:Nat):Int->Bool->(Ky2)->Bool:=aC N (Xc N)
def VT (N:Nat) (x:LI) (k0:Kz3):Bool:=
 (decide ((List.length ([]++x))*8<=140737488355328)&&k0 ([]++x))
def tZ (N:Nat):LI->(Kz3)->Bool:=VT N
def Ze (N:Nat) (neg:Bool) (abs:LI) (b:Bool) (b_1:LI) (k0:Ky8):Bool:=
 (cond (neg==true) (k0 (decide (((abs.length:Nat):Int)>0))) (k0 false))
def GD (N:Nat):Bool->LI->Bool->LI->(Ky8)->Bool:=Ze N
def Xs (N:Nat) (b:Bool) (b_1:LI) (k0:Ky2):Bool:=
 (tZ N b_1 (λnsr=>GD N (!b) nsr b b_1 (λcr=>k0 cr nsr)))
def TO (N:Nat):Bool->LI->(Ky2)->Bool:=aC N (Xs N)
def Qa (N:Nat) (n:Int) (b:Bool) (k0:Ky2):Bool:=
 (cond (decide (n<0)) (jw N (IntKind.wrap .u64 (0 - (IntKind.wrap .u64 n))) (λnsr=>HJ N true nsr b (λcr=>k0 cr nsr))) (jw N (IntKind.wrap .u64 n) (λack=>HJ N false ack b (λacs=>k0 acs ack))))
def WG (N:Nat):Int->Bool->(Ky2)->Bool:=aC N (Qa N)
def V8 (N:Nat) (n:Int) (k0:Ky2):Bool:=
 (WG N n false (λcr nsr=>k0 cr nsr))
def Kb (N:Nat):Int->(Ky2)->Bool:=V8 N
def fH (N:Nat) (words rest:Int) (t24:LI) (t25:Int) (e0:Kz3):(Int × LI)->((Int × LI)->Bool)->Bool:=λv_ K=>match v_ with
 | (t26,z)=>(cond (decide (t26<t25)) (inR t26 t24.length&&(ah .i64 (words+t26)&&(inR (words+t26) z.length&&(decide ((Int.toNat (words+t26))<z.length)&&(decide (0<=rest)&&(inR (words+t26) z.length&&(decide ((Int.toNat (words+t26))<z.length)&&(ah .i64 (words+t26)&&(ah .i64 ((words+t26)+1)&&(decide (0<=(IntKind.wrap .u64 (64 - rest)))&&(inR ((words+t26)+1) (List.length (z.set (Int.toNat (words+t26)) (aE .or .u64 (z.getD (Int.toNat (words+t26)) 0) (IntKind.wrap .u64 ((t24.getD t26.toNat 0)*2 ^ (min rest.toNat 64))))))&&(decide ((Int.toNat ((words+t26)+1))<(List.length (z.set (Int.toNat (words+t26)) (aE .or .u64 (z.getD (Int.toNat (words+t26)) 0) (IntKind.wrap .u64 ((t24.getD t26.toNat 0)*2 ^ (min rest.toNat 64)))))))&&(ah .i64 (t26+1)&&K ((t26+1),(List.set (z.set (Int.toNat (words+t26)) (aE .or .u64 (z.getD (Int.toNat (words+t26)) 0) (IntKind.wrap .u64 ((t24.getD t26.toNat 0)*2 ^ (min rest.toNat 64))))) (Int.toNat ((words+t26)+1)) (Int.fdiv (t24.getD t26.toNat 0) (2 ^ (min (Int.toNat (IntKind.wrap .u64 (64 - rest))) 64)))))))))))))))))) (e0 z))
def zp (N:Nat) (x:LI) (n:Int) (k0:Kz3):Bool:=
 (cond (((x.length:Nat):Int)==0) (k0 []) (ah .i64 (IntKind.wrap .u64 (Int.tdiv n 64))&&(ah .i64 ((IntKind.wrap .u64 (Int.tdiv n 64))+((x.length:Nat):Int))&&(ah .i64 (((IntKind.wrap .u64 (Int.tdiv n 64))+((x.length:Nat):Int))+1)&&(gc 8 (((IntKind.wrap .u64 (Int.tdiv n 64))+((x.length:Nat):Int))+1) (((IntKind.wrap .u64 (Int.tdiv n 64))+((x.length:Nat):Int))+1)&&al N (fH N (IntKind.wrap .u64 (Int.tdiv n 64)) (Int.tmod n 64) x ((x.length:Nat):Int) (λz_1=>A9 N z_1 (λmr=>decide ((0+mr)<=z_1.length)&&k0 (List.take mr (List.drop 0 z_1))))) (0,(List.replicate (Int.toNat (((IntKind.wrap .u64 (Int.tdiv n 64))+((x.length:Nat):Int))+1)) (0:Int))))))))
def Aa (N:Nat):LI->Int->(Kz3)->Bool:=aC N (zp N)
def VQ (N:Nat) (n:Int) (b b_1:Bool) (b_2:LI) (k0:Ky2):Bool:=
 (Aa N b_2 n (λnsr=>HJ N b_1 nsr b (λcr=>k0 cr nsr)))
def To (N:Nat):Int->Bool->Bool->LI->(Ky2)->Bool:=VQ N
def Ah (N:Nat) (x_1 y_1:LI) (e0:Ky9) (e1:Bool):(Int)->((Int)->Bool)->Bool:=λv_ K=>match v_ with
 | i=>(cond (decide (i>=0)) (inR i x_1.length&&(inR i y_1.length&&cond ((x_1.getD i.toNat 0) != (y_1.getD i.toNat 0)) (inR i x_1.length&&(inR i y_1.length&&cond (decide ((x_1.getD i.toNat 0)<(y_1.getD i.toNat 0))) (e0 (-1)) (e0 1))) (ah .i64 (i - 1)&&K (i - 1)))) e1)
def Xu (N:Nat) (x y:LI) (k0:Ky9):Bool:=
 (cond (((x.length:Nat):Int) != ((y.length:Nat):Int)) (cond (decide (((x.length:Nat):Int)<((y.length:Nat):Int))) (k0 (-1)) (k0 1)) (ah .i64 (((x.length:Nat):Int) - 1)&&al N (Ah N x y (λt4=>k0 t4) (k0 0)) (((x.length:Nat):Int) - 1)))
def HL (N:Nat):LI->LI->(Ky9)->Bool:=aC N (Xu N)
def Q5 (N:Nat) (x x_2 n_1:Int) (k0:Ky9):Bool:=
 (cond (decide (x_2>=256)) (ah .i64 (n_1+8)&&(inR (IntKind.wrap .u8 (Int.fdiv x_2 (2 ^ 8))) 256&&(ah .i64 (aA.getD (Int.toNat (IntKind.wrap .u8 (Int.fdiv x_2 (2 ^ 8)))) 0)&&(ah .i64 ((n_1+8)+(aA.getD (Int.toNat (IntKind.wrap .u8 (Int.fdiv x_2 (2 ^ 8)))) 0))&&k0 ((n_1+8)+(aA.getD (Int.toNat (IntKind.wrap .u8 (Int.fdiv x_2 (2 ^ 8)))) 0)))))) (inR (IntKind.wrap .u8 x_2) 256&&(ah .i64 (aA.getD (Int.toNat (IntKind.wrap .u8 x_2)) 0)&&(ah .i64 (n_1+(aA.getD (Int.toNat (IntKind.wrap .u8 x_2)) 0))&&k0 (n_1+(aA.getD (Int.toNat (IntKind.wrap .u8 x_2)) 0))))))
def Q3 (N:Nat) (x x_1 n:Int) (k0:Ky9):Bool:=
 (cond (decide (x_1>=65536)) (ah .i64 (n+16)&&Q5 N x (Int.fdiv x_1 (2 ^ 16)) (n+16) k0) (Q5 N x x_1 n k0))
def QW (N:Nat) (x:Int) (k0:Ky9):Bool:=
 (cond (decide (x>=4294967296)) (Q3 N x (Int.fdiv x (2 ^ 32)) 32 k0) (Q3 N x x 0 k0))
def Vs (N:Nat):Int->(Ky9)->Bool:=aC N (QW N)
def uq (N:Nat) (x:LI) (k0:Ky9):Bool:=
 (cond (((x.length:Nat):Int)==0) (k0 0) (ah .i64 (((x.length:Nat):Int) - 1)&&(ah .i64 (64*(((x.length:Nat):Int) - 1))&&(ah .i64 (((x.length:Nat):Int) - 1)&&(inR (((x.length:Nat):Int) - 1) x.length&&Vs N (x.getD (Int.toNat (((x.length:Nat):Int) - 1)) 0) (λnr=>ah .i64 ((64*(((x.length:Nat):Int) - 1))+nr)&&k0 ((64*(((x.length:Nat):Int) - 1))+nr)))))))
def vp (N:Nat):LI->(Ky9)->Bool:=aC N (uq N)
def V3 (N:Nat) (x:LI) (i:Int) (k0:Ky9):Bool:=
 (cond (decide (i<((x.length:Nat):Int))) (inR i x.length&&k0 (x.getD i.toNat 0)) (k0 0))
def CP (N:Nat):LI->Int->(Ky9)->Bool:=V3 N
def Bn (N:Nat) (x:LI) (from_:Int) (k0:Ky9):Bool:=
 (ah .i64 (Int.tdiv from_ 64)&&CP N x (Int.tdiv from_ 64) (λnr=>decide (0<=(IntKind.wrap .u64 (Int.tmod from_ 64)))&&(ah .i64 ((Int.tdiv from_ 64)+1)&&CP N x ((Int.tdiv from_ 64)+1) (λacl=>decide (0<=(IntKind.wrap .u64 (64 - (IntKind.wrap .u64 (Int.tmod from_ 64)))))&&k0 (aE .or .u64 (Int.fdiv nr (2 ^ (min (Int.toNat (IntKind.wrap .u64 (Int.tmod from_ 64))) 64))) (IntKind.wrap .u64 (acl*2 ^ (min (Int.toNat (IntKind.wrap .u64 (64 - (IntKind.wrap .u64 (Int.tmod from_ 64))))) 64))))))))
def yF (N:Nat):LI->Int->(Ky9)->Bool:=aC N (Bn N)
def rV (N:Nat) (t4 aeT aek ael:Int) (aiy:Bool) (e0:Kx3):(Int × Int × Int × Int × Int × Int × Int × Int × Bool)->((Int × Int × Int × Int × Int × Int × Int × Int × Bool)->Bool)->Bool:=λv_ K=>match v_ with
 | (x_1,y_1,u,v,w,w_1,w_2,w_3,w_4)=>(cond ((decide (y_1>=v))==true) (cond (decide ((IntKind.wrap .u64 (x_1 - y_1))>=(IntKind.wrap .u64 (w_3+v)))) ((!decide (y_1=0))&&((!decide (y_1=0))&&K (y_1,(Int.tmod x_1 y_1),(IntKind.wrap .u64 (w_2+(IntKind.wrap .u64 ((IntKind.wrap .u64 (Int.tdiv x_1 y_1))*u)))),(IntKind.wrap .u64 (w_3+(IntKind.wrap .u64 ((IntKind.wrap .u64 (Int.tdiv x_1 y_1))*v)))),w_2,w_3,u,v,(!w_4)))) (e0 w w_1 w_2 w_3 w_4)) (e0 w w_1 w_2 w_3 w_4))
def B9 (N:Nat) (x y:Int) (k0:Kx3):Bool:=
 (al N (rV N 0 0 0 0 false (λw_5 w_6 w_7 w_8 w_9=>k0 w_5 w_6 w_7 w_8 w_9)) (x,y,0,1,0,0,1,0,true))
def xy (N:Nat):Int->Int->(Kx3)->Bool:=aC N (B9 N)
def Qv (N:Nat) (x y:Int) (k0:Ky1):Bool:=
 (k0 (IntKind.wrap .u64 ((IntKind.wrap .u64 ((IntKind.wrap .u64 ((Int.fdiv x (2 ^ 32))*(Int.fdiv y (2 ^ 32))))+(Int.fdiv (IntKind.wrap .u64 ((IntKind.wrap .u64 ((Int.fdiv x (2 ^ 32))*(aE .and .u64 y 4294967295)))+(Int.fdiv (IntKind.wrap .u64 ((aE .and .u64 x 4294967295)*(aE .and .u64 y 4294967295))) (2 ^ 32)))) (2 ^ 32))))+(Int.fdiv (IntKind.wrap .u64 ((aE .and .u64 (IntKind.wrap .u64 ((IntKind.wrap .u64 ((Int.fdiv x (2 ^ 32))*(aE .and .u64 y 4294967295)))+(Int.fdiv (IntKind.wrap .u64 ((aE .and .u64 x 4294967295)*(aE .and .u64 y 4294967295))) (2 ^ 32)))) 4294967295)+(IntKind.wrap .u64 ((aE .and .u64 x 4294967295)*(Int.fdiv y (2 ^ 32)))))) (2 ^ 32)))) (IntKind.wrap .u64 (x*y)))
def J6 (N:Nat):Int->Int->(Ky1)->Bool:=aC N (Qv N)
abbrev Yj:=Int->Int->Int->(Ky1)->Bool
def sQ6 (N:Nat):Yj:=λx y c k=>(decide (c.toNat<=1))&&k (((x.toNat+y.toNat+c.toNat)%18446744073709551616:Nat):Int) (((x.toNat+y.toNat+c.toNat) / 18446744073709551616:Nat):Int)
def zo (N:Nat) (a b c d:Int) (k0:Ky1):Bool:=
 (J6 N a b (λnr acl=>sQ6 N acl c 0 (λacn acC=>sQ6 N acn d 0 (λacP n5=>k0 (IntKind.wrap .u64 ((IntKind.wrap .u64 (nr+acC))+n5)) acP))))
def nP (N:Nat):Int->Int->Int->Int->(Ky1)->Bool:=aC N (zo N)
def ol (N:Nat) (x_1:LI) (d_1:Int) (t14:LI) (t15:Int) (e0:Ky5):(Int × Int × LI)->((Int × Int × LI)->Bool)->Bool:=λv_ K=>match v_ with
 | (ahq,t16,z)=>(cond (decide (t16<t15)) (inR t16 t14.length&&nP N (t14.getD t16.toNat 0) d_1 0 ahq (λnr acl=>inR t16 z.length&&(decide (t16.toNat<z.length)&&(ah .i64 (t16+1)&&K (nr,(t16+1),(z.set t16.toNat acl)))))) (e0 ahq z))
def Qu (N:Nat) (x:LI) (d more:Int) (k0:Kz3):Bool:=
 (ah .i64 (((x.length:Nat):Int)+1)&&(gc 8 (((x.length:Nat):Int)+1) (((x.length:Nat):Int)+1)&&al N (ol N x d x ((x.length:Nat):Int) (λagf z_1=>inR ((x.length:Nat):Int) z_1.length&&(decide ((Int.toNat ((x.length:Nat):Int))<z_1.length)&&A9 N (z_1.set (Int.toNat ((x.length:Nat):Int)) agf) (λmr=>decide ((0+mr)<=(List.length (z_1.set (Int.toNat ((x.length:Nat):Int)) agf)))&&k0 (List.take mr (List.drop 0 (z_1.set (Int.toNat ((x.length:Nat):Int)) agf))))))) (more,0,(List.replicate (Int.toNat (((x.length:Nat):Int)+1)) (0:Int)))))
def zl (N:Nat):LI->Int->Int->(Kz3)->Bool:=aC N (Qu N)
abbrev Ri:=Int->Int->Int->(Ky1)->Bool
def J5 (N:Nat):Ri:=λx y c k=>(decide (c.toNat<=1))&&k (((x.toNat+18446744073709551616 - y.toNat - c.toNat)%18446744073709551616:Nat):Int) (cond (decide (x.toNat<y.toNat+c.toNat)) 1 0)
def oj (N:Nat) (x_1 y_1:LI) (t12:Int) (e0:Kz3):(Int × Int × LI)->((Int × Int × LI)->Bool)->Bool:=λv_ K=>match v_ with
 | (borrow,t13,z)=>(cond (decide (t13<t12)) (inR t13 x_1.length&&CP N y_1 t13 (λnr=>J5 N (x_1.getD t13.toNat 0) nr borrow (λacl acn=>inR t13 z.length&&(decide (t13.toNat<z.length)&&(ah .i64 (t13+1)&&K (acn,(t13+1),(z.set t13.toNat acl))))))) (e0 z))
def QB (N:Nat) (x y:LI) (k0:Kz3):Bool:=
 (gc 8 ((x.length:Nat):Int) ((x.length:Nat):Int)&&al N (oj N x y ((x.length:Nat):Int) (λz_1=>A9 N z_1 (λmr=>decide ((0+mr)<=z_1.length)&&k0 (List.take mr (List.drop 0 z_1))))) (0,0,(List.replicate (Int.toNat ((x.length:Nat):Int)) (0:Int))))
def CO (N:Nat):LI->LI->(Kz3)->Bool:=aC N (QB N)
def eV (N:Nat) (w_0 w_1 w_2 w_3:Int) (w_4:Bool) (x y:LI) (k0:Ky7):Bool:=
 (cond w_4 (zl N y w_1 0 (λnsr=>zl N x w_0 0 (λack=>CO N nsr ack (λacw=>zl N x w_2 0 (λacu=>zl N y w_3 0 (λacr=>CO N acu acr (λacq=>k0 acw acq))))))) (zl N x w_0 0 (λs6=>zl N y w_1 0 (λs7=>CO N s6 s7 (λs8=>zl N y w_3 0 (λs9=>zl N x w_2 0 (λs10=>CO N s9 s10 (λs11=>k0 s8 s11))))))))
def fo (N:Nat):Int->Int->Int->Int->Bool->LI->LI->(Ky7)->Bool:=aC N (eV N)
def Zk (N:Nat) (x:Int) (k0:Ky9):Bool:=
 (Vs N x (λnr=>ah .i64 (64 - nr)&&k0 (64 - nr)))
def TN (N:Nat):Int->(Ky9)->Bool:=Zk N
def B2 (N:Nat) (y_1 s yn1 yn0 un32 un1 un0:Int) (e0:Ky9):(Int × Int)->((Int × Int)->Bool)->Bool:=λv_ K=>match v_ with
 | (q1,rhat)=>(cond ((decide (q1>=4294967296))==false) (cond (decide ((IntKind.wrap .u64 (q1*yn0))>(IntKind.wrap .u64 ((IntKind.wrap .u64 (4294967296*rhat))+un1)))) (cond (decide ((IntKind.wrap .u64 (rhat+yn1))>=4294967296)) (e0 (IntKind.wrap .u64 (q1 - 1))) (K ((IntKind.wrap .u64 (q1 - 1)),(IntKind.wrap .u64 (rhat+yn1))))) (e0 q1)) (cond (decide ((IntKind.wrap .u64 (rhat+yn1))>=4294967296)) (e0 (IntKind.wrap .u64 (q1 - 1))) (K ((IntKind.wrap .u64 (q1 - 1)),(IntKind.wrap .u64 (rhat+yn1))))))
def B3 (N:Nat) (y_2 s_1 afB ahQ agN ais un21:Int) (e0:Ky9):(Int × Int)->((Int × Int)->Bool)->Bool:=λv_ K=>match v_ with
 | (afd,q0)=>(cond ((decide (q0>=4294967296))==false) (cond (decide ((IntKind.wrap .u64 (q0*ahQ))>(IntKind.wrap .u64 ((IntKind.wrap .u64 (4294967296*afd))+agN)))) (cond (decide ((IntKind.wrap .u64 (afd+afB))>=4294967296)) (e0 (IntKind.wrap .u64 (q0 - 1))) (K ((IntKind.wrap .u64 (afd+afB)),(IntKind.wrap .u64 (q0 - 1))))) (e0 q0)) (cond (decide ((IntKind.wrap .u64 (afd+afB))>=4294967296)) (e0 (IntKind.wrap .u64 (q0 - 1))) (K ((IntKind.wrap .u64 (afd+afB)),(IntKind.wrap .u64 (q0 - 1))))))
def XE (N:Nat) (hi lo y:Int) (k0:Ky1):Bool:=
 (cond (y==0) false (cond (decide (y<=hi)) false (cond (hi==0) ((!decide (y=0))&&((!decide (y=0))&&k0 (IntKind.wrap .u64 (Int.tdiv lo y)) (Int.tmod lo y))) (TN N y (λnr=>decide (0<=(IntKind.wrap .u64 nr))&&(decide (0<=(IntKind.wrap .u64 nr))&&(decide (0<=(IntKind.wrap .u64 (64 - (IntKind.wrap .u64 nr))))&&(decide (0<=(IntKind.wrap .u64 nr))&&((!decide ((Int.fdiv (IntKind.wrap .u64 (y*2 ^ (min (Int.toNat (IntKind.wrap .u64 nr)) 64))) (2 ^ 32))=0))&&al N (B2 N (IntKind.wrap .u64 (y*2 ^ (min (Int.toNat (IntKind.wrap .u64 nr)) 64))) (IntKind.wrap .u64 nr) (Int.fdiv (IntKind.wrap .u64 (y*2 ^ (min (Int.toNat (IntKind.wrap .u64 nr)) 64))) (2 ^ 32)) (aE .and .u64 (IntKind.wrap .u64 (y*2 ^ (min (Int.toNat (IntKind.wrap .u64 nr)) 64))) 4294967295) (aE .or .u64 (IntKind.wrap .u64 (hi*2 ^ (min (Int.toNat (IntKind.wrap .u64 nr)) 64))) (Int.fdiv lo (2 ^ (min (Int.toNat (IntKind.wrap .u64 (64 - (IntKind.wrap .u64 nr)))) 64)))) (Int.fdiv (IntKind.wrap .u64 (lo*2 ^ (min (Int.toNat (IntKind.wrap .u64 nr)) 64))) (2 ^ 32)) (aE .and .u64 (IntKind.wrap .u64 (lo*2 ^ (min (Int.toNat (IntKind.wrap .u64 nr)) 64))) 4294967295) (λagh=>(!decide ((Int.fdiv (IntKind.wrap .u64 (y*2 ^ (min (Int.toNat (IntKind.wrap .u64 nr)) 64))) (2 ^ 32))=0))&&al N (B3 N (IntKind.wrap .u64 (y*2 ^ (min (Int.toNat (IntKind.wrap .u64 nr)) 64))) (IntKind.wrap .u64 nr) (Int.fdiv (IntKind.wrap .u64 (y*2 ^ (min (Int.toNat (IntKind.wrap .u64 nr)) 64))) (2 ^ 32)) (aE .and .u64 (IntKind.wrap .u64 (y*2 ^ (min (Int.toNat (IntKind.wrap .u64 nr)) 64))) 4294967295) (aE .and .u64 (IntKind.wrap .u64 (lo*2 ^ (min (Int.toNat (IntKind.wrap .u64 nr)) 64))) 4294967295) agh (IntKind.wrap .u64 ((IntKind.wrap .u64 ((IntKind.wrap .u64 ((aE .or .u64 (IntKind.wrap .u64 (hi*2 ^ (min (Int.toNat (IntKind.wrap .u64 nr)) 64))) (Int.fdiv lo (2 ^ (min (Int.toNat (IntKind.wrap .u64 (64 - (IntKind.wrap .u64 nr)))) 64))))*4294967296))+(Int.fdiv (IntKind.wrap .u64 (lo*2 ^ (min (Int.toNat (IntKind.wrap .u64 nr)) 64))) (2 ^ 32)))) - (IntKind.wrap .u64 (agh*(IntKind.wrap .u64 (y*2 ^ (min (Int.toNat (IntKind.wrap .u64 nr)) 64))))))) (λai6=>decide (0<=(IntKind.wrap .u64 nr))&&k0 (IntKind.wrap .u64 ((IntKind.wrap .u64 (agh*4294967296))+ai6)) (Int.fdiv (IntKind.wrap .u64 ((IntKind.wrap .u64 ((IntKind.wrap .u64 ((IntKind.wrap .u64 ((IntKind.wrap .u64 ((IntKind.wrap .u64 ((aE .or .u64 (IntKind.wrap .u64 (hi*2 ^ (min (Int.toNat (IntKind.wrap .u64 nr)) 64))) (Int.fdiv lo (2 ^ (min (Int.toNat (IntKind.wrap .u64 (64 - (IntKind.wrap .u64 nr)))) 64))))*4294967296))+(Int.fdiv (IntKind.wrap .u64 (lo*2 ^ (min (Int.toNat (IntKind.wrap .u64 nr)) 64))) (2 ^ 32)))) - (IntKind.wrap .u64 (agh*(IntKind.wrap .u64 (y*2 ^ (min (Int.toNat (IntKind.wrap .u64 nr)) 64)))))))*4294967296))+(aE .and .u64 (IntKind.wrap .u64 (lo*2 ^ (min (Int.toNat (IntKind.wrap .u64 nr)) 64))) 4294967295))) - (IntKind.wrap .u64 (ai6*(IntKind.wrap .u64 (y*2 ^ (min (Int.toNat (IntKind.wrap .u64 nr)) 64))))))) (2 ^ (min (Int.toNat (IntKind.wrap .u64 nr)) 64))))) ((IntKind.wrap .u64 ((IntKind.wrap .u64 ((IntKind.wrap .u64 ((IntKind.wrap .u64 ((aE .or .u64 (IntKind.wrap .u64 (hi*2 ^ (min (Int.toNat (IntKind.wrap .u64 nr)) 64))) (Int.fdiv lo (2 ^ (min (Int.toNat (IntKind.wrap .u64 (64 - (IntKind.wrap .u64 nr)))) 64))))*4294967296))+(Int.fdiv (IntKind.wrap .u64 (lo*2 ^ (min (Int.toNat (IntKind.wrap .u64 nr)) 64))) (2 ^ 32)))) - (IntKind.wrap .u64 (agh*(IntKind.wrap .u64 (y*2 ^ (min (Int.toNat (IntKind.wrap .u64 nr)) 64))))))) - (IntKind.wrap .u64 ((IntKind.wrap .u64 (Int.tdiv (IntKind.wrap .u64 ((IntKind.wrap .u64 ((IntKind.wrap .u64 ((aE .or .u64 (IntKind.wrap .u64 (hi*2 ^ (min (Int.toNat (IntKind.wrap .u64 nr)) 64))) (Int.fdiv lo (2 ^ (min (Int.toNat (IntKind.wrap .u64 (64 - (IntKind.wrap .u64 nr)))) 64))))*4294967296))+(Int.fdiv (IntKind.wrap .u64 (lo*2 ^ (min (Int.toNat (IntKind.wrap .u64 nr)) 64))) (2 ^ 32)))) - (IntKind.wrap .u64 (agh*(IntKind.wrap .u64 (y*2 ^ (min (Int.toNat (IntKind.wrap .u64 nr)) 64))))))) (Int.fdiv (IntKind.wrap .u64 (y*2 ^ (min (Int.toNat (IntKind.wrap .u64 nr)) 64))) (2 ^ 32))))*(Int.fdiv (IntKind.wrap .u64 (y*2 ^ (min (Int.toNat (IntKind.wrap .u64 nr)) 64))) (2 ^ 32)))))),(IntKind.wrap .u64 (Int.tdiv (IntKind.wrap .u64 ((IntKind.wrap .u64 ((IntKind.wrap .u64 ((aE .or .u64 (IntKind.wrap .u64 (hi*2 ^ (min (Int.toNat (IntKind.wrap .u64 nr)) 64))) (Int.fdiv lo (2 ^ (min (Int.toNat (IntKind.wrap .u64 (64 - (IntKind.wrap .u64 nr)))) 64))))*4294967296))+(Int.fdiv (IntKind.wrap .u64 (lo*2 ^ (min (Int.toNat (IntKind.wrap .u64 nr)) 64))) (2 ^ 32)))) - (IntKind.wrap .u64 (agh*(IntKind.wrap .u64 (y*2 ^ (min (Int.toNat (IntKind.wrap .u64 nr)) 64))))))) (Int.fdiv (IntKind.wrap .u64 (y*2 ^ (min (Int.toNat (IntKind.wrap .u64 nr)) 64))) (2 ^ 32))))))) ((IntKind.wrap .u64 (Int.tdiv (aE .or .u64 (IntKind.wrap .u64 (hi*2 ^ (min (Int.toNat (IntKind.wrap .u64 nr)) 64))) (Int.fdiv lo (2 ^ (min (Int.toNat (IntKind.wrap .u64 (64 - (IntKind.wrap .u64 nr)))) 64)))) (Int.fdiv (IntKind.wrap .u64 (y*2 ^ (min (Int.toNat (IntKind.wrap .u64 nr)) 64))) (2 ^ 32)))),(IntKind.wrap .u64 ((aE .or .u64 (IntKind.wrap .u64 (hi*2 ^ (min (Int.toNat (IntKind.wrap .u64 nr)) 64))) (Int.fdiv lo (2 ^ (min (Int.toNat (IntKind.wrap .u64 (64 - (IntKind.wrap .u64 nr)))) 64)))) - (IntKind.wrap .u64 ((IntKind.wrap .u64 (Int.tdiv (aE .or .u64 (IntKind.wrap .u64 (hi*2 ^ (min (Int.toNat (IntKind.wrap .u64 nr)) 64))) (Int.fdiv lo (2 ^ (min (Int.toNat (IntKind.wrap .u64 (64 - (IntKind.wrap .u64 nr)))) 64)))) (Int.fdiv (IntKind.wrap .u64 (y*2 ^ (min (Int.toNat (IntKind.wrap .u64 nr)) 64))) (2 ^ 32))))*(Int.fdiv (IntKind.wrap .u64 (y*2 ^ (min (Int.toNat (IntKind.wrap .u64 nr)) 64))) (2 ^ 32))))))))))))))))
def TR (N:Nat):Int->Int->Int->(Ky1)->Bool:=aC N (XE N)
def mI (N:Nat) (x_1:LI) (d_1:Int) (e0:Ky5):(Int × Int × LI)->((Int × Int × LI)->Bool)->Bool:=λv_ K=>match v_ with
 | (rest,i,q)=>(cond (decide (i>=0)) (inR i x_1.length&&TR N rest (x_1.getD i.toNat 0) d_1 (λnr acl=>inR i q.length&&(decide (i.toNat<q.length)&&(ah .i64 (i - 1)&&K (acl,(i - 1),(q.set i.toNat nr)))))) (e0 rest q))
def QC (N:Nat) (x:LI) (d:Int) (k0:LI->Int->Bool):Bool:=
 (gc 8 ((x.length:Nat):Int) ((x.length:Nat):Int)&&(ah .i64 (((x.length:Nat):Int) - 1)&&al N (mI N x d (λadZ q_1=>A9 N q_1 (λmr=>decide ((0+mr)<=q_1.length)&&k0 (List.take mr (List.drop 0 q_1)) adZ))) (0,(((x.length:Nat):Int) - 1),(List.replicate (Int.toNat ((x.length:Nat):Int)) (0:Int)))))
def J8 (N:Nat):LI->Int->(LI->Int->Bool)->Bool:=aC N (QC N)
def rW (N:Nat) (words rest:Int) (t24:LI) (t25:Int) (e0:Kz3):(Int × LI)->((Int × LI)->Bool)->Bool:=λv_ K=>match v_ with
 | (t26,z)=>(cond (decide (t26<t25)) (inR t26 t24.length&&(ah .i64 (words+t26)&&(inR (words+t26) z.length&&(decide ((Int.toNat (words+t26))<z.length)&&(decide (0<=rest)&&(inR (words+t26) z.length&&(decide ((Int.toNat (words+t26))<z.length)&&(ah .i64 (words+t26)&&(ah .i64 ((words+t26)+1)&&(decide (0<=(IntKind.wrap .u64 (64 - rest)))&&(inR ((words+t26)+1) (List.length (z.set (Int.toNat (words+t26)) (aE .or .u64 (z.getD (Int.toNat (words+t26)) 0) (IntKind.wrap .u64 ((t24.getD t26.toNat 0)*2 ^ (min rest.toNat 64))))))&&(decide ((Int.toNat ((words+t26)+1))<(List.length (z.set (Int.toNat (words+t26)) (aE .or .u64 (z.getD (Int.toNat (words+t26)) 0) (IntKind.wrap .u64 ((t24.getD t26.toNat 0)*2 ^ (min rest.toNat 64)))))))&&(ah .i64 (t26+1)&&K ((t26+1),(List.set (z.set (Int.toNat (words+t26)) (aE .or .u64 (z.getD (Int.toNat (words+t26)) 0) (IntKind.wrap .u64 ((t24.getD t26.toNat 0)*2 ^ (min rest.toNat 64))))) (Int.toNat ((words+t26)+1)) (Int.fdiv (t24.getD t26.toNat 0) (2 ^ (min (Int.toNat (IntKind.wrap .u64 (64 - rest))) 64)))))))))))))))))) (e0 z))
def Xj (N:Nat) (x:LI) (n:Int) (k0:Bool) (k1:Ky6):Bool:=
 (cond (((x.length:Nat):Int)==0) k0 (ah .i64 (IntKind.wrap .u64 (Int.tdiv n 64))&&(ah .i64 ((IntKind.wrap .u64 (Int.tdiv n 64))+((x.length:Nat):Int))&&(ah .i64 (((IntKind.wrap .u64 (Int.tdiv n 64))+((x.length:Nat):Int))+1)&&(gc 8 (((IntKind.wrap .u64 (Int.tdiv n 64))+((x.length:Nat):Int))+1) (((IntKind.wrap .u64 (Int.tdiv n 64))+((x.length:Nat):Int))+1)&&al N (rW N (IntKind.wrap .u64 (Int.tdiv n 64)) (Int.tmod n 64) x ((x.length:Nat):Int) (λz_1=>A9 N z_1 (λmr=>k1 mr z_1))) (0,(List.replicate (Int.toNat (((IntKind.wrap .u64 (Int.tdiv n 64))+((x.length:Nat):Int))+1)) (0:Int))))))))
def Kd (N:Nat):LI->Int->(Bool)->(Ky6)->Bool:=aC N (Xj N)
def uf (N u u_2:Nat) (v_1:LI) (n:Int) (u_3:LI) (e0:Ky9):(Int × Int)->((Int × Int)->Bool)->Bool:=λv_ K=>match v_ with
 | (q,rest)=>(ah .i64 (n - 2)&&(inR (n - 2) v_1.length&&J6 N q (v_1.getD (Int.toNat (n - 2)) 0) (λacn acC=>cond ((decide (acn<rest))==false) (cond ((acn==rest)==true) (ah .i64 (n - 2)&&(inR (n - 2) u_2&&(decide ((u+(Int.toNat (n - 2)))<u_3.length)&&cond (decide (acC<=(u_3.getD (u+(Int.toNat (n - 2))) 0))) (e0 q) (ah .i64 (n - 1)&&(inR (n - 1) v_1.length&&sQ6 N rest (v_1.getD (Int.toNat (n - 1)) 0) 0 (λacP n5=>cond (n5 != 0) (e0 (IntKind.wrap .u64 (q - 1))) (K ((IntKind.wrap .u64 (q - 1)),acP)))))))) (ah .i64 (n - 1)&&(inR (n - 1) v_1.length&&sQ6 N rest (v_1.getD (Int.toNat (n - 1)) 0) 0 (λn6 n7=>cond (n7 != 0) (e0 (IntKind.wrap .u64 (q - 1))) (K ((IntKind.wrap .u64 (q - 1)),n6)))))) (e0 q))))
def V7 (N u_0 u_1:Nat) (v b:LI) (k0:Ky9):Bool:=
 (inR ((v.length:Nat):Int) u_1&&(decide ((u_0+(Int.toNat ((v.length:Nat):Int)))<b.length)&&(ah .i64 (((v.length:Nat):Int) - 1)&&(inR (((v.length:Nat):Int) - 1) v.length&&cond (decide ((b.getD (u_0+(Int.toNat ((v.length:Nat):Int))) 0)>=(v.getD (Int.toNat (((v.length:Nat):Int) - 1)) 0))) (k0 18446744073709551615) (inR ((v.length:Nat):Int) u_1&&(decide ((u_0+(Int.toNat ((v.length:Nat):Int)))<b.length)&&(ah .i64 (((v.length:Nat):Int) - 1)&&(inR (((v.length:Nat):Int) - 1) u_1&&(decide ((u_0+(Int.toNat (((v.length:Nat):Int) - 1)))<b.length)&&(ah .i64 (((v.length:Nat):Int) - 1)&&(inR (((v.length:Nat):Int) - 1) v.length&&TR N (b.getD (u_0+(Int.toNat ((v.length:Nat):Int))) 0) (b.getD (u_0+(Int.toNat (((v.length:Nat):Int) - 1))) 0) (v.getD (Int.toNat (((v.length:Nat):Int) - 1)) 0) (λnr acl=>al N (uf N u_0 u_1 v ((v.length:Nat):Int) b (λt4=>k0 t4)) (nr,acl)))))))))))))
def aaw (N:Nat):Nat->Nat->LI->LI->(Ky9)->Bool:=aC N (V7 N)
def vU (N u u_2:Nat) (v_1:LI) (n q t17:Int) (e0:Int->Int->LI->Bool):(Int × Int × Int × LI)->((Int × Int × Int × LI)->Bool)->Bool:=λv_ K=>match v_ with
 | (carry,borrow,t18,u_3)=>(cond (decide (t18<t17)) (inR t18 v_1.length&&nP N q (v_1.getD t18.toNat 0) 0 carry (λacl acn=>inR t18 u_2&&(decide ((u+t18.toNat)<u_3.length)&&J5 N (u_3.getD (u+t18.toNat) 0) acn borrow (λacC acP=>inR t18 u_2&&(decide ((u+t18.toNat)<u_3.length)&&(ah .i64 (t18+1)&&K (acl,acP,(t18+1),(u_3.set (u+t18.toNat) acC)))))))) (e0 carry borrow u_3))
def vW (N u_8 u_9:Nat) (v_3:LI) (n_2 q_2 adt t60:Int) (e0:Ky5):(Int × Int × LI)->((Int × Int × LI)->Bool)->Bool:=λv_ K=>match v_ with
 | (adq,t61,ac8)=>(cond (decide (t61<t60)) (inR t61 u_9&&(decide ((u_8+t61.toNat)<ac8.length)&&(inR t61 v_3.length&&sQ6 N (ac8.getD (u_8+t61.toNat) 0) (v_3.getD t61.toNat 0) adq (λn7 n8=>inR t61 u_9&&(decide ((u_8+t61.toNat)<ac8.length)&&(ah .i64 (t61+1)&&K (n8,(t61+1),(ac8.set (u_8+t61.toNat) n7)))))))) (e0 adq ac8))
def vV (N u_5 u_6:Nat) (v_2:LI) (n_1:Int) (e0:Ky5):(Int × Int × LI)->((Int × Int × LI)->Bool)->Bool:=λv_ K=>match v_ with
 | (q_1,ads,u_7)=>(cond (ads != 0) (al N (vW N u_5 u_6 v_2 n_1 q_1 ads n_1 (λafP ac_=>inR n_1 u_6&&(decide ((u_5+n_1.toNat)<ac_.length)&&sQ6 N (ac_.getD (u_5+n_1.toNat) 0) 0 afP (λn9 n10=>inR n_1 u_6&&(decide ((u_5+n_1.toNat)<ac_.length)&&K ((IntKind.wrap .u64 (q_1 - 1)),(IntKind.wrap .u64 (ads - n10)),(ac_.set (u_5+n_1.toNat) n9))))))) (0,0,u_7)) (e0 q_1 u_7))
def V4 (N u_0 u_1:Nat) (v b:LI) (k0:Ky5):Bool:=
 (aaw N u_0 u_1 v b (λnr=>al N (vU N u_0 u_1 v ((v.length:Nat):Int) nr ((v.length:Nat):Int) (λacS adG u_4=>inR ((v.length:Nat):Int) u_1&&(decide ((u_0+(Int.toNat ((v.length:Nat):Int)))<u_4.length)&&J5 N (u_4.getD (u_0+(Int.toNat ((v.length:Nat):Int))) 0) acS adG (λn5 n6=>inR ((v.length:Nat):Int) u_1&&(decide ((u_0+(Int.toNat ((v.length:Nat):Int)))<u_4.length)&&al N (vV N u_0 u_1 v ((v.length:Nat):Int) (λq_3 b0=>k0 q_3 b0)) (nr,n6,(u_4.set (u_0+(Int.toNat ((v.length:Nat):Int))) n5))))))) (0,0,0,b)))
def aav (N:Nat):Nat->Nat->LI->LI->(Ky5)->Bool:=aC N (V4 N)
def xI (N u u_2 v v_2:Nat) (n:Int) (u_3 v_3:LI) (e0:Ky9):(Int × Int)->((Int × Int)->Bool)->Bool:=λv_ K=>match v_ with
 | (q,rest)=>(ah .i64 (n - 2)&&(inR (n - 2) v_2&&(decide ((v+(Int.toNat (n - 2)))<v_3.length)&&J6 N q (v_3.getD (v+(Int.toNat (n - 2))) 0) (λacn acC=>cond ((decide (acn<rest))==false) (cond ((acn==rest)==true) (ah .i64 (n - 2)&&(inR (n - 2) u_2&&(decide ((u+(Int.toNat (n - 2)))<u_3.length)&&cond (decide (acC<=(u_3.getD (u+(Int.toNat (n - 2))) 0))) (e0 q) (ah .i64 (n - 1)&&(inR (n - 1) v_2&&(decide ((v+(Int.toNat (n - 1)))<v_3.length)&&sQ6 N rest (v_3.getD (v+(Int.toNat (n - 1))) 0) 0 (λacP n5=>cond (n5 != 0) (e0 (IntKind.wrap .u64 (q - 1))) (K ((IntKind.wrap .u64 (q - 1)),acP))))))))) (ah .i64 (n - 1)&&(inR (n - 1) v_2&&(decide ((v+(Int.toNat (n - 1)))<v_3.length)&&sQ6 N rest (v_3.getD (v+(Int.toNat (n - 1))) 0) 0 (λn6 n7=>cond (n7 != 0) (e0 (IntKind.wrap .u64 (q - 1))) (K ((IntKind.wrap .u64 (q - 1)),n6))))))) (e0 q)))))
def Uk (N u_0 u_1 v_0 v_1:Nat) (b b_1:LI) (k0:Ky9):Bool:=
 (inR ((v_1:Nat):Int) u_1&&(decide ((u_0+(Int.toNat ((v_1:Nat):Int)))<b.length)&&(ah .i64 (((v_1:Nat):Int) - 1)&&(inR (((v_1:Nat):Int) - 1) v_1&&(decide ((v_0+(Int.toNat (((v_1:Nat):Int) - 1)))<b_1.length)&&cond (decide ((b.getD (u_0+(Int.toNat ((v_1:Nat):Int))) 0)>=(b_1.getD (v_0+(Int.toNat (((v_1:Nat):Int) - 1))) 0))) (k0 18446744073709551615) (inR ((v_1:Nat):Int) u_1&&(decide ((u_0+(Int.toNat ((v_1:Nat):Int)))<b.length)&&(ah .i64 (((v_1:Nat):Int) - 1)&&(inR (((v_1:Nat):Int) - 1) u_1&&(decide ((u_0+(Int.toNat (((v_1:Nat):Int) - 1)))<b.length)&&(ah .i64 (((v_1:Nat):Int) - 1)&&(inR (((v_1:Nat):Int) - 1) v_1&&(decide ((v_0+(Int.toNat (((v_1:Nat):Int) - 1)))<b_1.length)&&TR N (b.getD (u_0+(Int.toNat ((v_1:Nat):Int))) 0) (b.getD (u_0+(Int.toNat (((v_1:Nat):Int) - 1))) 0) (b_1.getD (v_0+(Int.toNat (((v_1:Nat):Int) - 1))) 0) (λnr acl=>al N (xI N u_0 u_1 v_0 v_1 ((v_1:Nat):Int) b b_1 (λt4=>k0 t4)) (nr,acl)))))))))))))))
def Vz (N:Nat):Nat->Nat->Nat->Nat->LI->LI->(Ky9)->Bool:=aC N (Uk N)
def iN (N u u_2 v v_2:Nat) (n q t17:Int) (v_3:LI) (e0:Int->Int->LI->Bool):(Int × Int × Int × LI)->((Int × Int × Int × LI)->Bool)->Bool:=λv_ K=>match v_ with
 | (carry,borrow,t18,u_3)=>(cond (decide (t18<t17)) (inR t18 v_2&&(decide ((v+t18.toNat)<v_3.length)&&nP N q (v_3.getD (v+t18.toNat) 0) 0 carry (λacl acn=>inR t18 u_2&&(decide ((u+t18.toNat)<u_3.length)&&J5 N (u_3.getD (u+t18.toNat) 0) acn borrow (λacC acP=>inR t18 u_2&&(decide ((u+t18.toNat)<u_3.length)&&(ah .i64 (t18+1)&&K (acl,acP,(t18+1),(u_3.set (u+t18.toNat) acC))))))))) (e0 carry borrow u_3))
def iO (N u_8 u_9 v_7 v_8:Nat) (n_2 q_2 adt t60:Int) (v_9:LI) (e0:Ky5):(Int × Int × LI)->((Int × Int × LI)->Bool)->Bool:=λv_ K=>match v_ with
 | (adq,t61,ac8)=>(cond (decide (t61<t60)) (inR t61 u_9&&(decide ((u_8+t61.toNat)<ac8.length)&&(inR t61 v_8&&(decide ((v_7+t61.toNat)<v_9.length)&&sQ6 N (ac8.getD (u_8+t61.toNat) 0) (v_9.getD (v_7+t61.toNat) 0) adq (λn7 n8=>inR t61 u_9&&(decide ((u_8+t61.toNat)<ac8.length)&&(ah .i64 (t61+1)&&K (n8,(t61+1),(ac8.set (u_8+t61.toNat) n7))))))))) (e0 adq ac8))
def xH (N u_5 u_6 v_4 v_5:Nat) (n_1:Int) (v_6:LI) (e0:Ky5):(Int × Int × LI)->((Int × Int × LI)->Bool)->Bool:=λv_ K=>match v_ with
 | (q_1,ads,u_7)=>(cond (ads != 0) (al N (iO N u_5 u_6 v_4 v_5 n_1 q_1 ads n_1 v_6 (λafP ac_=>inR n_1 u_6&&(decide ((u_5+n_1.toNat)<ac_.length)&&sQ6 N (ac_.getD (u_5+n_1.toNat) 0) 0 afP (λn9 n10=>inR n_1 u_6&&(decide ((u_5+n_1.toNat)<ac_.length)&&K ((IntKind.wrap .u64 (q_1 - 1)),(IntKind.wrap .u64 (ads - n10)),(ac_.set (u_5+n_1.toNat) n9))))))) (0,0,u_7)) (e0 q_1 u_7))
def Qb (N u_0 u_1 v_0 v_1:Nat) (b b_1:LI) (k0:Ky5):Bool:=
 (Vz N u_0 u_1 v_0 v_1 b b_1 (λnr=>al N (iN N u_0 u_1 v_0 v_1 ((v_1:Nat):Int) nr ((v_1:Nat):Int) b_1 (λacS adG u_4=>inR ((v_1:Nat):Int) u_1&&(decide ((u_0+(Int.toNat ((v_1:Nat):Int)))<u_4.length)&&J5 N (u_4.getD (u_0+(Int.toNat ((v_1:Nat):Int))) 0) acS adG (λn5 n6=>inR ((v_1:Nat):Int) u_1&&(decide ((u_0+(Int.toNat ((v_1:Nat):Int)))<u_4.length)&&al N (xH N u_0 u_1 v_0 v_1 ((v_1:Nat):Int) b_1 (λq_3 b0=>k0 q_3 b0)) (nr,n6,(u_4.set (u_0+(Int.toNat ((v_1:Nat):Int))) n5))))))) (0,0,0,b)))
def Tm (N:Nat):Nat->Nat->Nat->Nat->LI->LI->(Ky5)->Bool:=aC N (Qb N)
def Aj (N x x_2:Nat) (x_3:LI) (e0:Ky9):(Int)->((Int)->Bool)->Bool:=λv_ K=>match v_ with
 | n=>(cond ((decide (n>0))==true) (ah .i64 (n - 1)&&(inR (n - 1) x_2&&(decide ((x+(Int.toNat (n - 1)))<x_3.length)&&cond ((x_3.getD (x+(Int.toNat (n - 1))) 0)==0) (ah .i64 (n - 1)&&K (n - 1)) (e0 n)))) (e0 n))
def QG (N x_0 x_1:Nat) (b:LI) (k0:Kz0):Bool:=
 (al N (Aj N x_0 x_1 b (λn_1=>decide (0<=n_1/\n_1<=((x_1:Nat):Int))&&k0 (n_1.toNat - 0))) ((x_1:Nat):Int))
def TB (N:Nat):Nat->Nat->LI->(Kz0)->Bool:=aC N (QG N)
def V6 (N x_0 x_1:Nat) (i:Int) (b:LI) (k0:Ky9):Bool:=
 (cond (decide (i<((x_1:Nat):Int))) (inR i x_1&&(decide ((x_0+i.toNat)<b.length)&&k0 (b.getD (x_0+i.toNat) 0))) (k0 0))
def N5 (N:Nat):Nat->Nat->Int->LI->(Ky9)->Bool:=V6 N
def nU (N x x_2:Nat) (words rest:Int) (t37 ahF:Nat) (t38:Int) (x_3:LI) (e0:Ky9):(Int × Int)->((Int × Int)->Bool)->Bool:=λv_ K=>match v_ with
 | (lost,t39)=>(cond (decide (t39<t38)) (inR t39 ahF&&(decide ((t37+t39.toNat)<x_3.length)&&(ah .i64 (t39+1)&&K ((aE .or .u64 lost (x_3.getD (t37+t39.toNat) 0)),(t39+1))))) (e0 lost))
def jW (N x_4 x_5:Nat) (adL adZ age t53:Int) (x_6:LI) (e0:Kz3):(Int × LI)->((Int × LI)->Bool)->Bool:=λv_ K=>match v_ with
 | (t54,z)=>(cond (decide (t54<t53)) (ah .i64 (adL+t54)&&N5 N x_4 x_5 (adL+t54) x_6 (λnr=>decide (0<=adZ)&&(ah .i64 (adL+t54)&&(ah .i64 ((adL+t54)+1)&&N5 N x_4 x_5 ((adL+t54)+1) x_6 (λacl=>decide (0<=(IntKind.wrap .u64 (64 - adZ)))&&(inR t54 z.length&&(decide (t54.toNat<z.length)&&(ah .i64 (t54+1)&&K ((t54+1),(z.set t54.toNat (aE .or .u64 (Int.fdiv nr (2 ^ (min adZ.toNat 64))) (IntKind.wrap .u64 (acl*2 ^ (min (Int.toNat (IntKind.wrap .u64 (64 - adZ))) 64)))))))))))))) (e0 z))
def M0 (N x_0 x_1:Nat) (n:Int) (b:LI) (k0:LI->Bool->Bool):Bool:=
 (cond (decide ((IntKind.wrap .u64 (Int.tdiv n 64))>=(IntKind.wrap .u64 ((x_1:Nat):Int)))) (k0 [] (decide (((x_1:Nat):Int)>0))) (ah .i64 (IntKind.wrap .u64 (Int.tdiv n 64))&&(inR (IntKind.wrap .u64 (Int.tdiv n 64)) x_1&&(decide ((x_0+(Int.toNat (IntKind.wrap .u64 (Int.tdiv n 64))))<b.length)&&(decide (0<=(Int.tmod n 64))&&(decide (0<=(IntKind.wrap .u64 (Int.tdiv n 64))/\(IntKind.wrap .u64 (Int.tdiv n 64))<=((x_1:Nat):Int))&&al N (nU N x_0 x_1 (IntKind.wrap .u64 (Int.tdiv n 64)) (Int.tmod n 64) x_0 ((Int.toNat (IntKind.wrap .u64 (Int.tdiv n 64))) - 0) ((((Int.toNat (IntKind.wrap .u64 (Int.tdiv n 64))) - 0):Nat):Int) b (λahm=>ah .i64 (((x_1:Nat):Int) - (IntKind.wrap .u64 (Int.tdiv n 64)))&&(gc 8 (((x_1:Nat):Int) - (IntKind.wrap .u64 (Int.tdiv n 64))) (((x_1:Nat):Int) - (IntKind.wrap .u64 (Int.tdiv n 64)))&&al N (jW N x_0 x_1 (IntKind.wrap .u64 (Int.tdiv n 64)) (Int.tmod n 64) ahm (((List.length (List.replicate (Int.toNat (((x_1:Nat):Int) - (IntKind.wrap .u64 (Int.tdiv n 64)))) (0:Int))):Nat):Int) b (λz_1=>A9 N z_1 (λmr=>decide ((0+mr)<=z_1.length)&&k0 (List.take mr (List.drop 0 z_1)) (ahm != 0)))) (0,(List.replicate (Int.toNat (((x_1:Nat):Int) - (IntKind.wrap .u64 (Int.tdiv n 64)))) (0:Int)))))) ((aE .and .u64 (b.getD (x_0+(Int.toNat (IntKind.wrap .u64 (Int.tdiv n 64)))) 0) (IntKind.wrap .u64 ((IntKind.wrap .u64 ((1:Int)*2 ^ (min (Int.toNat (Int.tmod n 64)) 64))) - 1))),0)))))))
def N0 (N:Nat):Nat->Nat->Int->LI->(LI->Bool->Bool)->Bool:=aC N (M0 N)
def Ks (N:Nat) (up:Int) (u u_1:Nat) (n:Int) (e0:Ky7):(Int × LI × LI)->((Int × LI × LI)->Bool)->Bool:=λv_ K=>match v_ with
 | (j,u_2,q)=>(cond (decide (j>=0)) (ah .i64 (j+n)&&(ah .i64 ((j+n)+1)&&(decide (0<=j/\j<=((j+n)+1)/\((j+n)+1)<=((u_1:Nat):Int))&&aav N (u+j.toNat) ((Int.toNat ((j+n)+1)) - j.toNat) [] u_2 (λacC s6=>inR j q.length&&(decide (j.toNat<q.length)&&(ah .i64 (j - 1)&&K ((j - 1),s6,(q.set j.toNat acC)))))))) (e0 u_2 q))
def Ae (N:Nat) (aiD:Int) (v v_1 u_5 u_6:Nat) (n_1:Int) (v_2:LI) (e0:Ky7):(Int × LI × LI)->((Int × LI × LI)->Bool)->Bool:=λv_ K=>match v_ with
 | (j_1,u_7,q_3)=>(cond (decide (j_1>=0)) (ah .i64 (j_1+n_1)&&(ah .i64 ((j_1+n_1)+1)&&(decide (0<=j_1/\j_1<=((j_1+n_1)+1)/\((j_1+n_1)+1)<=((u_6:Nat):Int))&&Tm N (u_5+j_1.toNat) ((Int.toNat ((j_1+n_1)+1)) - j_1.toNat) v v_1 u_7 v_2 (λacP s7=>inR j_1 q_3.length&&(decide (j_1.toNat<q_3.length)&&(ah .i64 (j_1 - 1)&&K ((j_1 - 1),s7,(q_3.set j_1.toNat acP)))))))) (e0 u_7 q_3))
def Ot (N:Nat) (x y:LI) (ag4:Int) (ac8:Nat) (ac_ q_6:LI) (k0:Ky7):Bool:=
 (TB N 0 ac8 ac_ (λae0=>N0 N 0 ae0 ag4 ac_ (λs8 cr=>A9 N q_6 (λahr=>decide ((0+ahr)<=q_6.length)&&k0 (List.take ahr (List.drop 0 q_6)) s8))))
def GQ5 (N:Nat) (x y:LI) (k0:Ky7):Bool:=
 (HL N x y (λnr=>cond (decide (nr<0)) (tZ N x (λnsr=>k0 [] nsr)) (cond (((y.length:Nat):Int)==1) (inR 0 y.length&&J8 N x (y.getD 0 0) (λack acl=>jw N acl (λacw=>k0 ack acw))) (ah .i64 (((y.length:Nat):Int) - 1)&&(inR (((y.length:Nat):Int) - 1) y.length&&TN N (y.getD (Int.toNat (((y.length:Nat):Int) - 1)) 0) (λacn=>Kd N y (IntKind.wrap .u64 acn) (Kd N x (IntKind.wrap .u64 acn) (ah .i64 (((x.length:Nat):Int)+1)&&(decide (0<=(((x.length:Nat):Int)+1)/\(((x.length:Nat):Int)+1)<=2)&&(ah .i64 (((((Int.toNat (((x.length:Nat):Int)+1)) - 0):Nat):Int) - 0)&&(gc 8 (((((Int.toNat (((x.length:Nat):Int)+1)) - 0):Nat):Int) - 0) (((((Int.toNat (((x.length:Nat):Int)+1)) - 0):Nat):Int) - 0)&&(ah .i64 (((((Int.toNat (((x.length:Nat):Int)+1)) - 0):Nat):Int) - 0)&&(ah .i64 ((((((Int.toNat (((x.length:Nat):Int)+1)) - 0):Nat):Int) - 0) - 1)&&al N (Ks N (IntKind.wrap .u64 acn) 0 ((Int.toNat (((x.length:Nat):Int)+1)) - 0) 0 (λu_3 q_1=>Ot N x y (IntKind.wrap .u64 acn) ((Int.toNat (((x.length:Nat):Int)+1)) - 0) u_3 q_1 k0)) (((((((Int.toNat (((x.length:Nat):Int)+1)) - 0):Nat):Int) - 0) - 1),([]++[0,0]),(List.replicate (Int.toNat (((((Int.toNat (((x.length:Nat):Int)+1)) - 0):Nat):Int) - 0)) (0:Int))))))))) (λacZ acr=>decide ((0+acZ)<=acr.length)&&(decide ((List.length ((List.take acZ (List.drop 0 acr))++[0,0]))*8<=140737488355328)&&(ah .i64 (((x.length:Nat):Int)+1)&&(decide (0<=(((x.length:Nat):Int)+1)/\(((x.length:Nat):Int)+1)<=(((List.length ((List.take acZ (List.drop 0 acr))++[0,0])):Nat):Int))&&(ah .i64 (((((Int.toNat (((x.length:Nat):Int)+1)) - 0):Nat):Int) - 0)&&(gc 8 (((((Int.toNat (((x.length:Nat):Int)+1)) - 0):Nat):Int) - 0) (((((Int.toNat (((x.length:Nat):Int)+1)) - 0):Nat):Int) - 0)&&(ah .i64 (((((Int.toNat (((x.length:Nat):Int)+1)) - 0):Nat):Int) - 0)&&(ah .i64 ((((((Int.toNat (((x.length:Nat):Int)+1)) - 0):Nat):Int) - 0) - 1)&&al N (Ks N (IntKind.wrap .u64 acn) 0 ((Int.toNat (((x.length:Nat):Int)+1)) - 0) 0 (λu_4 q_2=>Ot N x y (IntKind.wrap .u64 acn) ((Int.toNat (((x.length:Nat):Int)+1)) - 0) u_4 q_2 k0)) (((((((Int.toNat (((x.length:Nat):Int)+1)) - 0):Nat):Int) - 0) - 1),((List.take acZ (List.drop 0 acr))++[0,0]),(List.replicate (Int.toNat (((((Int.toNat (((x.length:Nat):Int)+1)) - 0):Nat):Int) - 0)) (0:Int)))))))))))) (λmr acu=>Kd N x (IntKind.wrap .u64 acn) (ah .i64 (((x.length:Nat):Int)+1)&&(decide (0<=(((x.length:Nat):Int)+1)/\(((x.length:Nat):Int)+1)<=2)&&(ah .i64 (((((Int.toNat (((x.length:Nat):Int)+1)) - 0):Nat):Int) - ((mr:Nat):Int))&&(gc 8 (((((Int.toNat (((x.length:Nat):Int)+1)) - 0):Nat):Int) - ((mr:Nat):Int)) (((((Int.toNat (((x.length:Nat):Int)+1)) - 0):Nat):Int) - ((mr:Nat):Int))&&(ah .i64 (((((Int.toNat (((x.length:Nat):Int)+1)) - 0):Nat):Int) - ((mr:Nat):Int))&&(ah .i64 ((((((Int.toNat (((x.length:Nat):Int)+1)) - 0):Nat):Int) - ((mr:Nat):Int)) - 1)&&al N (Ae N (IntKind.wrap .u64 acn) 0 mr 0 ((Int.toNat (((x.length:Nat):Int)+1)) - 0) ((mr:Nat):Int) acu (λu_8 q_4=>Ot N x y (IntKind.wrap .u64 acn) ((Int.toNat (((x.length:Nat):Int)+1)) - 0) u_8 q_4 k0)) (((((((Int.toNat (((x.length:Nat):Int)+1)) - 0):Nat):Int) - ((mr:Nat):Int)) - 1),([]++[0,0]),(List.replicate (Int.toNat (((((Int.toNat (((x.length:Nat):Int)+1)) - 0):Nat):Int) - ((mr:Nat):Int))) (0:Int))))))))) (λacL acq=>decide ((0+acL)<=acq.length)&&(decide ((List.length ((List.take acL (List.drop 0 acq))++[0,0]))*8<=140737488355328)&&(ah .i64 (((x.length:Nat):Int)+1)&&(decide (0<=(((x.length:Nat):Int)+1)/\(((x.length:Nat):Int)+1)<=(((List.length ((List.take acL (List.drop 0 acq))++[0,0])):Nat):Int))&&(ah .i64 (((((Int.toNat (((x.length:Nat):Int)+1)) - 0):Nat):Int) - ((mr:Nat):Int))&&(gc 8 (((((Int.toNat (((x.length:Nat):Int)+1)) - 0):Nat):Int) - ((mr:Nat):Int)) (((((Int.toNat (((x.length:Nat):Int)+1)) - 0):Nat):Int) - ((mr:Nat):Int))&&(ah .i64 (((((Int.toNat (((x.length:Nat):Int)+1)) - 0):Nat):Int) - ((mr:Nat):Int))&&(ah .i64 ((((((Int.toNat (((x.length:Nat):Int)+1)) - 0):Nat):Int) - ((mr:Nat):Int)) - 1)&&al N (Ae N (IntKind.wrap .u64 acn) 0 mr 0 ((Int.toNat (((x.length:Nat):Int)+1)) - 0) ((mr:Nat):Int) acu (λu_9 q_5=>Ot N x y (IntKind.wrap .u64 acn) ((Int.toNat (((x.length:Nat):Int)+1)) - 0) u_9 q_5 k0)) (((((((Int.toNat (((x.length:Nat):Int)+1)) - 0):Nat):Int) - ((mr:Nat):Int)) - 1),((List.take acL (List.drop 0 acq))++[0,0]),(List.replicate (Int.toNat (((((Int.toNat (((x.length:Nat):Int)+1)) - 0):Nat):Int) - ((mr:Nat):Int))) (0:Int))))))))))))))))))
def sQ5 (N:Nat):LI->LI->(Ky7)->Bool:=aC N (GQ5 N)
def FQ (N:Nat) (x:LI) (k0:Ky9):Bool:=
 (CP N x 0 (λnr=>k0 nr))
def yE (N:Nat):LI->(Ky9)->Bool:=FQ N
def GL (N:Nat) (e0:Ky7):(LI × LI)->((LI × LI)->Bool)->Bool:=λv_ K=>match v_ with
 | (x_2,y_2)=>(cond (decide (((y_2.length:Nat):Int)>1)) (vp N x_2 (λacl=>ah .i64 (acl - 64)&&yF N x_2 (acl - 64) (λacn=>yF N y_2 (acl - 64) (λacC=>xy N acn acC (λacP n5 n6 n7 cr=>cond (n5 != 0) (fo N acP n5 n6 n7 cr x_2 y_2 (λnsr ack=>K (nsr,ack))) (sQ5 N x_2 y_2 (λacw acu=>K (y_2,acu)))))))) (e0 x_2 y_2))
def gk (N:Nat) (e0:Ky9):(Int × Int)->((Int × Int)->Bool)->Bool:=λv_ K=>match v_ with
 | (a,b)=>(cond (decide (b>0)) ((!decide (b=0))&&K (b,(Int.tmod a b))) (e0 a))
def GV (N:Nat) (x y x_4 y_4:LI) (k0:Kz3):Bool:=
 (cond (((y_4.length:Nat):Int)==0) (k0 x_4) (yE N x_4 (λn8=>yE N y_4 (λn9=>al N (gk N (λa_1=>jw N a_1 (λs6=>k0 s6))) (n8,n9)))))
def Q1 (N:Nat) (x y x_1 y_1:LI) (k0:Kz3):Bool:=
 (al N (GL N (λx_3 y_3=>cond ((decide (((y_3.length:Nat):Int)>0))==true) (cond (decide (((x_3.length:Nat):Int)>1)) (sQ5 N x_3 y_3 (λacr acq=>GV N x y y_3 acq k0)) (GV N x y x_3 y_3 k0)) (GV N x y x_3 y_3 k0))) (x_1,y_1))
def GQ9 (N:Nat) (x y:LI) (k0:Kz3):Bool:=
 (HL N x y (λnr=>cond (decide (nr<0)) (Q1 N x y y x k0) (Q1 N x y x y k0)))
def sQ9 (N:Nat):LI->LI->(Kz3)->Bool:=aC N (GQ9 N)
def Ui (N:Nat) (neg:Bool) (abs:LI) (b b_1:Bool) (k0:Ky2):Bool:=
 (cond (neg==true) (k0 (decide (((abs.length:Nat):Int)>0)) []) (k0 false []))
def PL (N:Nat):Bool->LI->Bool->Bool->(Ky2)->Bool:=Ui N
def XB (N:Nat) (neg:Bool) (abs:LI) (b:Bool) (b_1:LI) (b_2:Bool) (b_3:LI) (k0:Ky8):Bool:=
 (cond (neg==true) (k0 (decide (((abs.length:Nat):Int)>0))) (k0 false))
def VB (N:Nat):Bool->LI->Bool->LI->Bool->LI->(Ky8)->Bool:=XB N
def Q2 (N:Nat) (neg:Bool) (a b:LI) (b_1 b_2:Bool) (a_1 b_3:LI) (k0:Kx6):Bool:=
 (tZ N a_1 (λacq=>PL N neg acq b_1 b_2 (λcr s6=>tZ N b_3 (λs7=>VB N false s7 cr acq b_2 s6 (λacs=>k0 cr acq acs s7)))))
def QS (N:Nat) (neg:Bool) (a b:LI) (b_1 b_2:Bool) (k0:Kx6):Bool:=
 (sQ9 N a b (λnsr=>HL N nsr [1] (λnr=>cond (nr != 0) (sQ5 N a nsr (λack acw=>sQ5 N b nsr (λacu acr=>Q2 N neg a b b_1 b_2 ack acu k0))) (Q2 N neg a b b_1 b_2 a b k0))))
def YS (N:Nat):Bool->LI->LI->Bool->Bool->(Kx6)->Bool:=aC N (QS N)
def W_ (N:Nat) (b b_1 b_2:Bool) (b_3:LI) (b_4:Bool) (b_5:LI) (k0:Kx6):Bool:=
 (YS N (b_2 != b_4) b_3 b_5 b b_1 (λcr nsr acs ack=>k0 cr nsr acs ack))
def Vr (N:Nat):Bool->Bool->Bool->LI->Bool->LI->(Kx6)->Bool:=W_ N
def mK (N:Nat) (y_2:LI) (i a:Int) (ahB:LI) (ahC ahD:Int) (t32:LI) (t33:Int) (e0:Ky5):(Int × Int × LI)->((Int × Int × LI)->Bool)->Bool:=λv_ K=>match v_ with
 | (carry,t34,z_1)=>(cond (decide (t34<t33)) (inR t34 t32.length&&(ah .i64 (i+t34)&&(ah .i64 (i+t34)&&(inR (i+t34) z_1.length&&(decide ((Int.toNat (i+t34))<z_1.length)&&nP N a (t32.getD t34.toNat 0) (z_1.getD (Int.toNat (i+t34)) 0) carry (λnr acl=>inR (i+t34) z_1.length&&(decide ((Int.toNat (i+t34))<z_1.length)&&(ah .i64 (t34+1)&&K (nr,(t34+1),(z_1.set (Int.toNat (i+t34)) acl)))))))))) (e0 carry z_1))
def mJ (N:Nat) (y_1 t25:LI) (t26:Int) (e0:Kz3):(Int × LI)->((Int × LI)->Bool)->Bool:=λv_ K=>match v_ with
 | (t27,z)=>(cond (decide (t27<t26)) (inR t27 t25.length&&al N (mK N y_1 t27 (t25.getD t27.toNat 0) t25 t26 t27 y_1 ((y_1.length:Nat):Int) (λacS z_2=>ah .i64 (t27+((y_1.length:Nat):Int))&&(inR (t27+((y_1.length:Nat):Int)) z_2.length&&(decide ((Int.toNat (t27+((y_1.length:Nat):Int)))<z_2.length)&&(ah .i64 (t27+1)&&K ((t27+1),(z_2.set (Int.toNat (t27+((y_1.length:Nat):Int))) acS))))))) (0,0,z)) (e0 z))
def XC (N:Nat) (x y:LI) (k0:Kz3):Bool:=
 (cond ((((x.length:Nat):Int)==0)==false) (cond (((y.length:Nat):Int)==0) (k0 []) (ah .i64 (((x.length:Nat):Int)+((y.length:Nat):Int))&&(gc 8 (((x.length:Nat):Int)+((y.length:Nat):Int)) (((x.length:Nat):Int)+((y.length:Nat):Int))&&al N (mJ N y x ((x.length:Nat):Int) (λz_3=>A9 N z_3 (λmr=>decide ((0+mr)<=z_3.length)&&k0 (List.take mr (List.drop 0 z_3))))) (0,(List.replicate (Int.toNat (((x.length:Nat):Int)+((y.length:Nat):Int))) (0:Int)))))) (k0 []))
def Db (N:Nat):LI->LI->(Kz3)->Bool:=aC N (XC N)
def VS (N:Nat) (b:Bool) (b_1:LI) (b_2:Bool) (b_3:LI) (k0:Ky2):Bool:=
 (Db N b_1 b_3 (λnsr=>GD N (b != b_2) nsr b b_1 (λcr=>k0 cr nsr)))
def WK (N:Nat):Bool->LI->Bool->LI->(Ky2)->Bool:=VS N
def VV (N:Nat) (neg b:Bool) (b_1:LI) (b_2:Bool) (b_3 b_4:LI) (k0:Ky8):Bool:=
 (cond (neg==true) (k0 (decide (((b_4.length:Nat):Int)>0))) (k0 false))
def WM (N:Nat):Bool->Bool->LI->Bool->LI->LI->(Ky8)->Bool:=VV N
def Qh (N:Nat) (neg:Bool) (a:LI) (b b_1:Bool) (b_2:LI) (k0:Ky0):Bool:=
 (PL N neg a b b_1 (λcr nsr=>WM N false cr a b_1 nsr b_2 (λacs=>k0 cr acs)))
def WH (N:Nat):Bool->LI->Bool->Bool->LI->(Ky0)->Bool:=aC N (Qh N)
def Zq (N:Nat) (b b_1 b_2:Bool) (b_3:LI) (k0:Kx6):Bool:=
 (tZ N b_3 (λnsr=>WH N b_2 nsr b b_1 [1] (λcr acs=>k0 cr nsr acs [1])))
def Y3 (N:Nat):Bool->Bool->Bool->LI->(Kx6)->Bool:=Zq N
def bM (N:Nat) (x:Fl) (p:Bool) (p_1 p_2:Int) (n:Bool) (n_1:LI) (k0:Kx6):Bool:=
 (Kb N 1 (λacT acw=>ah .i64 (0 - p_2)&&To N (IntKind.wrap .u64 (imm true p_2 (0 - p_2))) false acT acw (λadf acu=>cond (decide (p_2<0)) (Vr N false false n n_1 adf acu (λadS acr aea acq=>k0 adS acr aea acq)) (WK N n n_1 adf acu (λaeb s6=>Y3 N false false aeb s6 (λc8 s7 c9 s8=>k0 c8 s7 c9 s8))))))
def dX (N:Nat) (x:Fl) (k0:Kx6):Bool:=
 (rM N x (λcr nr acl acn=>cA N (acn==0) 4 (TM N nr false (λacs nsr=>cond cr (TO N acs nsr (λacJ ack=>bM N x cr nr acl acJ ack k0)) (bM N x cr nr acl acs nsr k0)))))
def lD (N:Nat):Fl->(Kx6)->Bool:=aC N (dX N)
def dK (N:Nat) (agL:LF) (ahA agl agm g_2 g_3:Int) (e0:List RY3->Bool):(Int × List RY3)->((Int × List RY3)->Bool)->Bool:=λv_ K=>match v_ with
 | (adk,b2)=>(cond (decide (adk<ahA)) (inR adk agL.length&&lD N (agL.getD adk.toNat none) (λacJ acw acT acu=>decide ((List.length (b2++[((acJ,acw),(acT,acu))]))*8<=140737488355328)&&(ah .i64 (adk+1)&&K ((adk+1),(b2++[((acJ,acw),(acT,acu))]))))) (e0 b2))
def ki (N:Nat) (m_0 m_1:Int) (m_2:LF) (k0:List RY3->Bool):Bool:=
 (PP N m_0 m_1 m_2 (λnr=>cA N (nr==0) nr (al N (dK N m_2 ((m_2.length:Nat):Int) 0 0 m_0 m_1 (λ(aeh:List RY3)=>k0 aeh)) (0,[]))))
def kt (N:Nat):Int->Int->LF->(List RY3->Bool)->Bool:=aC N (ki N)
def f8 (N:Nat) (g_0 g_1 i j:Int) (b:List RY3) (k0:Kx6):Bool:=
 (ah .i64 (i*g_1)&&(ah .i64 ((i*g_1)+j)&&(inR ((i*g_1)+j) b.length&&(decide ((Int.toNat ((i*g_1)+j))<b.length)&&k0 (b.getD (Int.toNat ((i*g_1)+j)) ((false,[]),(false,[]))).1.1 (b.getD (Int.toNat ((i*g_1)+j)) ((false,[]),(false,[]))).1.2 (b.getD (Int.toNat ((i*g_1)+j)) ((false,[]),(false,[]))).2.1 (b.getD (Int.toNat ((i*g_1)+j)) ((false,[]),(false,[]))).2.2))))
def bd (N:Nat):Int->Int->Int->Int->List RY3->(Kx6)->Bool:=aC N (f8 N)
def Zo (N:Nat) (x_0:Bool) (x_1:LI) (x_2:Bool) (x_3:LI) (k0:Kz3):Bool:=
 (cond (((x_3.length:Nat):Int)==0) (k0 [1]) (k0 x_3))
def FJ (N:Nat):Bool->LI->Bool->LI->(Kz3)->Bool:=Zo N
def Xq (N:Nat) (neg:Bool) (a b:LI) (b_1 b_2:Bool) (k0:Ky0):Bool:=
 (PL N neg a b_1 b_2 (λcr nsr=>VB N false b cr a b_2 nsr (λacs=>k0 cr acs)))
def PN (N:Nat):Bool->LI->LI->Bool->Bool->(Ky0)->Bool:=aC N (Xq N)
def Qk (N:Nat) (x_0:Bool) (x_1:LI) (x_2:Bool) (x_3:LI) (b b_1:Bool) (k0:Kx6):Bool:=
 (tZ N x_1 (λnsr=>FJ N x_0 x_1 x_2 x_3 (λack=>tZ N ack (λacw=>PN N (!x_0) nsr acw b b_1 (λcr acs=>k0 cr nsr acs acw)))))
def Tq (N:Nat):Bool->LI->Bool->LI->Bool->Bool->(Kx6)->Bool:=aC N (Qk N)
def VR (N:Nat) (b:Bool) (b_1:LI) (b_2:Bool) (b_3:LI) (k0:Kz3):Bool:=
 (cond (((b_3.length:Nat):Int)==0) (k0 [1]) (k0 b_3))
def Tp (N:Nat):Bool->LI->Bool->LI->(Kz3)->Bool:=VR N
def Ik (N:Nat) (x y:LI) (k0:Kz3):Bool:=
 (sQ5 N x y (λnsr ack=>k0 nsr))
def QY (N:Nat) (x y:LI) (k0:Kz3):Bool:=
 (cond ((((y.length:Nat):Int)==1)==true) (inR 0 y.length&&cond ((y.getD 0 0)==1) (k0 x) (Ik N x y k0)) (Ik N x y k0))
def z_ (N:Nat):LI->LI->(Kz3)->Bool:=aC N (QY N)
def qG (N:Nat) (x_1 y_1:LI) (n t17:Int) (e0:Ky5):(Int × Int × LI)->((Int × Int × LI)->Bool)->Bool:=λv_ K=>match v_ with
 | (carry,t18,z)=>(cond (decide (t18<t17)) (CP N x_1 t18 (λnr=>CP N y_1 t18 (λacl=>sQ6 N nr acl carry (λacn acC=>inR t18 z.length&&(decide (t18.toNat<z.length)&&(ah .i64 (t18+1)&&K (acC,(t18+1),(z.set t18.toNat acn)))))))) (e0 carry z))
def Bm (N:Nat) (x y:LI) (k0:Kz3):Bool:=
 (ah .i64 ((imm true ((x.length:Nat):Int) ((y.length:Nat):Int))+1)&&(gc 8 ((imm true ((x.length:Nat):Int) ((y.length:Nat):Int))+1) ((imm true ((x.length:Nat):Int) ((y.length:Nat):Int))+1)&&al N (qG N x y (imm true ((x.length:Nat):Int) ((y.length:Nat):Int)) (imm true ((x.length:Nat):Int) ((y.length:Nat):Int)) (λacS z_1=>inR (imm true ((x.length:Nat):Int) ((y.length:Nat):Int)) z_1.length&&(decide ((Int.toNat (imm true ((x.length:Nat):Int) ((y.length:Nat):Int)))<z_1.length)&&A9 N (z_1.set (Int.toNat (imm true ((x.length:Nat):Int) ((y.length:Nat):Int))) acS) (λmr=>decide ((0+mr)<=(List.length (z_1.set (Int.toNat (imm true ((x.length:Nat):Int) ((y.length:Nat):Int))) acS)))&&k0 (List.take mr (List.drop 0 (z_1.set (Int.toNat (imm true ((x.length:Nat):Int) ((y.length:Nat):Int))) acS))))))) (0,0,(List.replicate (Int.toNat ((imm true ((x.length:Nat):Int) ((y.length:Nat):Int))+1)) (0:Int)))))
def BW (N:Nat):LI->LI->(Kz3)->Bool:=aC N (Bm N)
def Xv (N:Nat) (neg:Bool) (y:LI) (b:Bool) (b_1:LI) (k0:Ky2):Bool:=
 (cond (b==neg) (BW N b_1 y (λnsr=>GD N neg nsr b b_1 (λcr=>k0 cr nsr))) (HL N b_1 y (λnr=>cond (decide (nr>=0)) (CO N b_1 y (λack=>GD N b ack b b_1 (λacs=>k0 acs ack))) (CO N y b_1 (λacw=>GD N neg acw b b_1 (λacJ=>k0 acJ acw))))))
def Vx (N:Nat):Bool->LI->Bool->LI->(Ky2)->Bool:=aC N (Xv N)
def Xt (N:Nat) (x_0:Bool) (x_1:LI) (x_2:Bool) (x_3:LI) (b b_1 b_2:Bool) (b_3:LI) (b_4:Bool) (b_5:LI) (k0:Kx6):Bool:=
 (FJ N x_0 x_1 x_2 x_3 (λnsr=>Tp N b_2 b_3 b_4 b_5 (λack=>sQ9 N nsr ack (λacw=>z_ N nsr acw (λacu=>z_ N ack acw (λacr=>Db N x_1 acr (λacq=>HJ N x_0 acq false (λcr=>Db N b_3 acu (λs6=>Vx N b_2 s6 cr acq (λacs s7=>sQ9 N s7 acw (λs8=>z_ N s7 s8 (λs9=>tZ N s9 (λs10=>z_ N ack s8 (λs11=>Db N acu s11 (λs12=>PN N acs s10 s12 b b_1 (λacJ acT=>k0 acJ s10 acT s12))))))))))))))))
def Y2 (N:Nat):Bool->LI->Bool->LI->Bool->Bool->Bool->LI->Bool->LI->(Kx6)->Bool:=aC N (Xt N)
def Qt (N:Nat) (x_0:Bool) (x_1:LI) (x_2:Bool) (x_3:LI) (y_0:Bool) (y_1:LI) (y_2:Bool) (y_3:LI) (b b_1:Bool) (k0:Kx6):Bool:=
 (Tq N y_0 y_1 y_2 y_3 false false (λcr nsr acs ack=>Y2 N x_0 x_1 x_2 x_3 b b_1 cr nsr acs ack (λacJ acw acT acu=>k0 acJ acw acT acu)))
def WP (N:Nat):Bool->LI->Bool->LI->Bool->LI->Bool->LI->Bool->Bool->(Kx6)->Bool:=aC N (Qt N)
def kB (N:Nat) (x_0:Bool) (x_1:LI) (x_2:Bool) (x_3:LI) (y_0:Bool) (y_1:LI) (y_2:Bool) (y_3:LI) (k0:Kx6):Bool:=
 (WP N x_0 x_1 x_2 x_3 y_0 y_1 y_2 y_3 false false (λcr nsr acs ack=>k0 cr nsr acs ack))
def cR (N:Nat):Bool->LI->Bool->LI->Bool->LI->Bool->LI->(Kx6)->Bool:=kB N
def QO (N:Nat) (x_0:Bool) (x_1:LI) (x_2:Bool) (x_3:LI) (k0:Ky9):Bool:=
 (cond x_0 (k0 (-1)) (cond (((x_1.length:Nat):Int)==0) (k0 0) (k0 1)))
def WR (N:Nat):Bool->LI->Bool->LI->(Ky9)->Bool:=aC N (QO N)
def wm (N:Nat) (x_0:Bool) (x_1:LI) (x_2:Bool) (x_3:LI) (k0:Ky9):Bool:=
 (WR N x_0 x_1 x_2 x_3 (λnr=>k0 nr))
def xx (N:Nat):Bool->LI->Bool->LI->(Ky9)->Bool:=wm N
def kE (N:Nat) (x_0:Bool) (x_1:LI) (x_2:Bool) (x_3:LI) (k0:Ky9):Bool:=
 (xx N x_0 x_1 x_2 x_3 (λnr=>k0 nr))
def bu (N:Nat):Bool->LI->Bool->LI->(Ky9)->Bool:=kE N
def bJ (N:Nat) (i aiz ae2 t9:Int) (adx:List RY3) (g_3 g_4:Int) (e0:Bool):(Int)->((Int)->Bool)->Bool:=λv_ K=>match v_ with
 | t10=>(cond (decide (t10<t9)) (bd N g_3 g_4 i t10 adx (λcr nsr acs ack=>bd N g_3 g_4 t10 i adx (λacJ acw acT acu=>cR N cr nsr acs ack acJ acw acT acu (λadf acr adS acq=>bu N adf acr adS acq (λnr=>cA N (nr==0) 112 (ah .i64 (t10+1)&&K (t10+1))))))) e0)
def bI (N:Nat) (t5:Int) (b0:List RY3) (g g_2:Int) (e0:Bool):(Int)->((Int)->Bool)->Bool:=λv_ K=>match v_ with
 | t6=>(cond (decide (t6<t5)) (al N (bJ N t6 t5 t6 t6 b0 g g_2 (ah .i64 (t6+1)&&K (t6+1))) 0) e0)
def cT (N:Nat) (g_0 g_1:Int) (b:List RY3) (k0:Bool):Bool:=
 (al N (bI N g_0 b g_0 g_1 k0) 0)
def de (N:Nat):Int->Int->List RY3->(Bool)->Bool:=aC N (cT N)
def uo (N:Nat) (a b:Int) (k0:Kx6):Bool:=
 (Kb N a (λcr nsr=>Kb N b (λacs ack=>Vr N false false cr nsr acs ack (λacJ acw acT acu=>k0 acJ acw acT acu))))
def Ba (N:Nat):Int->Int->(Kx6)->Bool:=aC N (uo N)
def tA (N:Nat) (n:Int) (k0:Kx6):Bool:=
 (Ba N n 1 (λcr nsr acs ack=>k0 cr nsr acs ack))
def nQ (N:Nat):Int->(Kx6)->Bool:=tA N
def Xn (N:Nat) (neg:Bool) (a b c d:LI) (b_1 b_2:Bool) (k0:Kx6):Bool:=
 (sQ9 N a d (λnsr=>sQ9 N c b (λack=>z_ N a nsr (λacw=>z_ N c ack (λacu=>Db N acw acu (λacr=>z_ N b ack (λacq=>z_ N d nsr (λs6=>Db N acq s6 (λs7=>PN N neg acr s7 b_1 b_2 (λcr acs=>k0 cr acr acs s7))))))))))
def Vu (N:Nat):Bool->LI->LI->LI->LI->Bool->Bool->(Kx6)->Bool:=aC N (Xn N)
def Qs (N:Nat) (x_0:Bool) (x_1:LI) (x_2:Bool) (x_3:LI) (y_0:Bool) (y_1:LI) (y_2:Bool) (y_3:LI) (b b_1:Bool) (k0:Kx6):Bool:=
 (FJ N x_0 x_1 x_2 x_3 (λnsr=>FJ N y_0 y_1 y_2 y_3 (λack=>Vu N (x_0 != y_0) x_1 nsr ack y_1 b b_1 (λcr acw acs acu=>k0 cr acw acs acu))))
def WO (N:Nat):Bool->LI->Bool->LI->Bool->LI->Bool->LI->Bool->Bool->(Kx6)->Bool:=aC N (Qs N)
def kC (N:Nat) (x_0:Bool) (x_1:LI) (x_2:Bool) (x_3:LI) (y_0:Bool) (y_1:LI) (y_2:Bool) (y_3:LI) (k0:Kx6):Bool:=
 (WO N x_0 x_1 x_2 x_3 y_0 y_1 y_2 y_3 false false (λcr nsr acs ack=>k0 cr nsr acs ack))
def fF (N:Nat):Bool->LI->Bool->LI->Bool->LI->Bool->LI->(Kx6)->Bool:=kC N
def Qr (N:Nat) (x_0:Bool) (x_1:LI) (x_2:Bool) (x_3:LI) (y_0:Bool) (y_1:LI) (y_2:Bool) (y_3:LI) (b b_1:Bool) (k0:Kx6):Bool:=
 (FJ N x_0 x_1 x_2 x_3 (λnsr=>FJ N y_0 y_1 y_2 y_3 (λack=>Vu N (x_0 != y_0) x_1 nsr y_1 ack b b_1 (λcr acw acs acu=>k0 cr acw acs acu))))
def WN (N:Nat):Bool->LI->Bool->LI->Bool->LI->Bool->LI->Bool->Bool->(Kx6)->Bool:=aC N (Qr N)
def j7 (N:Nat) (x_0:Bool) (x_1:LI) (x_2:Bool) (x_3:LI) (y_0:Bool) (y_1:LI) (y_2:Bool) (y_3:LI) (k0:Kx6):Bool:=
 (WN N x_0 x_1 x_2 x_3 y_0 y_1 y_2 y_3 false false (λcr nsr acs ack=>k0 cr nsr acs ack))
def eR (N:Nat):Bool->LI->Bool->LI->Bool->LI->Bool->LI->(Kx6)->Bool:=j7 N
def Uj (N:Nat) (x_0:Bool) (x_1:LI) (x_2:Bool) (x_3:LI) (y_0:Bool) (y_1:LI) (y_2:Bool) (y_3:LI) (b b_1:Bool) (k0:Kx6):Bool:=
 (FJ N x_0 x_1 x_2 x_3 (λnsr=>FJ N y_0 y_1 y_2 y_3 (λack=>sQ9 N nsr ack (λacw=>z_ N nsr acw (λacu=>z_ N ack acw (λacr=>Db N x_1 acr (λacq=>HJ N x_0 acq false (λcr=>Db N y_1 acu (λs6=>Vx N y_0 s6 cr acq (λacs s7=>sQ9 N s7 acw (λs8=>z_ N s7 s8 (λs9=>tZ N s9 (λs10=>z_ N ack s8 (λs11=>Db N acu s11 (λs12=>PN N acs s10 s12 b b_1 (λacJ acT=>k0 acJ s10 acT s12))))))))))))))))
def Vy (N:Nat):Bool->LI->Bool->LI->Bool->LI->Bool->LI->Bool->Bool->(Kx6)->Bool:=aC N (Uj N)
def kD (N:Nat) (x_0:Bool) (x_1:LI) (x_2:Bool) (x_3:LI) (y_0:Bool) (y_1:LI) (y_2:Bool) (y_3:LI) (k0:Kx6):Bool:=
 (Vy N x_0 x_1 x_2 x_3 y_0 y_1 y_2 y_3 false false (λcr nsr acs ack=>k0 cr nsr acs ack))
def fG (N:Nat):Bool->LI->Bool->LI->Bool->LI->Bool->LI->(Kx6)->Bool:=kD N
def lF (N:Nat) (g_0 g_1 i j:Int) (x_0:Bool) (x_1:LI) (x_2:Bool) (x_3:LI) (b:List RY3) (k0:List RY3->Bool):Bool:=
 (ah .i64 (i*g_1)&&(ah .i64 ((i*g_1)+j)&&(inR ((i*g_1)+j) b.length&&(decide ((Int.toNat ((i*g_1)+j))<b.length)&&k0 (b.set (Int.toNat ((i*g_1)+j)) ((x_0,x_1),(x_2,x_3)))))))
def gg (N:Nat):Int->Int->Int->Int->Bool->LI->Bool->LI->List RY3->(List RY3->Bool)->Bool:=lF N
def cB (N:Nat) (i_1 aeu t10 g g_2:Int) (x:Bool) (x_4:LI) (x_5:Bool) (x_6:LI) (e0:List RY3->Bool):(Int × List RY3)->((Int × List RY3)->Bool)->Bool:=λv_ K=>match v_ with
 | (t11,b0)=>(cond (decide (t11<t10)) (bd N g g_2 i_1 t11 b0 (λcr nsr acs ack=>bd N g g_2 aeu t11 b0 (λacJ acw acT acu=>eR N acJ acw acT acu x x_4 x_5 x_6 (λadf acr adS acq=>fG N cr nsr acs ack adf acr adS acq (λaea s6 aeb s7=>gg N g g_2 i_1 t11 aea s6 aeb s7 b0 (λ(lr:List RY3)=>ah .i64 (t11+1)&&K ((t11+1),lr))))))) (e0 b0))
def f7 (N:Nat) (g_0 g_1 i k_:Int) (x_0:Bool) (x_1:LI) (x_2:Bool) (x_3:LI) (b:List RY3) (k0:List RY3->Bool):Bool:=
 (al N (cB N i k_ g_1 g_0 g_1 x_0 x_1 x_2 x_3 (λ(adx:List RY3)=>k0 adx)) (0,b))
def gf (N:Nat):Int->Int->Int->Int->Bool->LI->Bool->LI->List RY3->(List RY3->Bool)->Bool:=aC N (f7 N)
def aD (N:Nat) (s_1 k_ aiB adu g_3 g_4:Int) (p:Bool) (p_1:LI) (p_2:Bool) (p_3:LI) (e0:Int->List RY3->Bool) (e1:List RY3->Bool):(Int × List RY3)->((Int × List RY3)->Bool)->Bool:=λv_ K=>match v_ with
 | (i,adx)=>(cond (decide (i<g_3)) (bd N g_3 g_4 i k_ adx (λacJ acw acT acu=>bu N acJ acw acT acu (λacl=>cond (acl==0) (ah .i64 (i+1)&&K ((i+1),adx)) (bu N p p_1 p_2 p_3 (λacn=>cond (acn==0) (e0 1 adx) (nQ N 0 (λadf acr adS acq=>fF N acJ acw acT acu p p_1 p_2 p_3 (λaea s6 aeb s7=>cR N adf acr adS acq aea s6 aeb s7 (λc8 s8 c9 s9=>gf N g_3 g_4 i k_ c8 s8 c9 s9 adx (λ(lr:List RY3)=>ah .i64 (i+1)&&K ((i+1),lr))))))))))) (e1 adx))
def aP (N:Nat) (t9 g g_2:Int) (e0:Int->List RY3->Bool) (e1:Int->List RY3->Bool):(Int × Int × List RY3)->((Int × Int × List RY3)->Bool)->Bool:=λv_ K=>match v_ with
 | (s,t10,b0)=>(cond (decide (t10<t9)) (bd N g g_2 t10 t10 b0 (λcr nsr acs ack=>bu N cr nsr acs ack (λnr=>cond (decide (nr<0)) (e0 1 b0) (ah .i64 (t10+1)&&al N (aD N s t10 t9 t10 g g_2 cr nsr acs ack (λ(t2:Int) (af0:List RY3)=>e0 t2 af0) (λ(afL:List RY3)=>bu N cr nsr acs ack (λacC=>cond (acC==0) (ah .i64 (t10+1)&&K (2,(t10+1),afL)) (ah .i64 (t10+1)&&K (s,(t10+1),afL))))) ((t10+1),b0))))) (e1 s b0))
def dw (N:Nat) (g_0 g_1:Int) (b:List RY3) (k0:Int->List RY3->Bool):Bool:=
 (al N (aP N g_0 g_0 g_1 (λ(aej:Int) (adQ:List RY3)=>k0 aej adQ) (λ(s_2:Int) (af1:List RY3)=>k0 s_2 af1)) (3,0,b))
def gZ (N:Nat):Int->Int->List RY3->(Int->List RY3->Bool)->Bool:=aC N (dw N)
def kA (N:Nat) (g_0 g_1:Int) (b:List RY3) (k0:Int->List RY3->Bool):Bool:=
 (cA N (g_0==g_1) 3 (de N g_0 g_1 b (gZ N g_0 g_1 b (λ(nr:Int) (lr:List RY3)=>k0 nr lr))))
def fE (N:Nat):Int->Int->List RY3->(Int->List RY3->Bool)->Bool:=kA N
def li (N:Nat) (m_0 m_1:Int) (m_2:LF) (k0:Ky1):Bool:=
 (kt N m_0 m_1 m_2 (λ(lr:List RY3)=>fE N m_0 m_1 lr (λ(nr:Int) (ai3:List RY3)=>k0 nr 0)))
def lC (N:Nat):Int->Int->LF->(Ky1)->Bool:=aC N (li N)
def sw (N:Nat) (p_0 p_1:Int) (p_2:LF) (k0:Ky8):Bool:=
 (lC N p_0 p_1 p_2 (λnr acl=>cond ((acl==0)==true) (k0 (nr==3)) (k0 false)))
def cz (N:Nat):Int->Int->LF->(Ky8)->Bool:=sw N
def q7 (N:Nat) (s_0:LF) (s_1 s_2:Int) (s_3:LF) (k0:Ky9):Bool:=
 (PP N s_1 s_2 s_3 (λnr=>cond (nr != 0) (k0 nr) (cond ((s_1 != s_2)==false) (cond (((s_0.length:Nat):Int) != s_1) (k0 3) (vQ N s_0 (λcr=>cond (!cr) (k0 4) (Vt N s_1 s_2 s_3 (λacs=>cond (!acs) (k0 150) (cz N s_1 s_2 s_3 (λacJ=>cond (!acJ) (k0 151) (k0 0)))))))) (k0 3))))
def jx (N:Nat):LF->Int->Int->LF->(Ky9)->Bool:=aC N (q7 N)
def s_ (N:Nat) (n:Int) (h:LF) (r:Fl) (k0:Ky9):Bool:=
 (cond (((h.length:Nat):Int) != n) (k0 3) (vQ N h (λcr=>cond (!cr) (k0 4) (vQ N [r] (λacs=>cond (!acs) (k0 4) (cond (fle r (some 0)) (k0 152) (k0 0)))))))
def tm (N:Nat):Int->LF->Fl->(Ky9)->Bool:=aC N (s_ N)
def ut (N:Nat) (m_0 m_1:Int) (m_2:LF) (i:Int) (k0:Kz2):Bool:=
 (ah .i64 (i*m_1)&&(ah .i64 (i+1)&&(ah .i64 ((i+1)*m_1)&&(decide (0<=(i*m_1)/\(i*m_1)<=((i+1)*m_1)/\((i+1)*m_1)<=((m_2.length:Nat):Int))&&k0 (List.drop (Int.toNat (i*m_1)) (List.take (Int.toNat ((i+1)*m_1)) m_2))))))
def jT (N:Nat):Int->Int->LF->Int->(Kz2)->Bool:=aC N (ut N)
abbrev DD:=Fl->(Kz1)->Bool
def Bb (N:Nat):DD:=λx k=>k (Fr x)
def xW (N:Nat) (f:Fl) (sign:Int) (k0:Ky8):Bool:=
 (cond (sign==0) (Bb N f (λxr=>k0 (fgt xr (some 9218868437227405311)))) (cond (decide (sign<0)) (k0 (fgt (Yo f) (some 9218868437227405311))) (k0 (fgt f (some 9218868437227405311)))))
def jU (N:Nat):Fl->Int->(Ky8)->Bool:=aC N (xW N)
def V0 (N:Nat) (x:Fl) (b:Bool) (b_1:LF) (b_2 b_3:Int) (b_4 b_5:LF) (b_6 b_7 b_8:Fl) (k0:Ky8):Bool:=
 (cond ((!feq x x)==false) (jU N x 0 (λcr=>cond cr (k0 true) (k0 b))) (k0 true))
def N4 (N:Nat):Fl->Bool->LF->Int->Int->LF->LF->Fl->Fl->Fl->(Ky8)->Bool:=aC N (V0 N)
def V1 (N:Nat) (a b:Fl) (b_1:Bool) (b_2:LF) (b_3 b_4:Int) (b_5 b_6:LF) (b_7 b_8 b_9:Fl) (k0:Ky3):Bool:=
 (N4 N (bA a b) b_1 b_2 b_3 b_4 b_5 b_6 b_7 b_8 b_9 (λcr=>k0 (bA a b) cr))
def TC (N:Nat):Fl->Fl->Bool->LF->Int->Int->LF->LF->Fl->Fl->Fl->(Ky3)->Bool:=aC N (V1 N)
def qe (N:Nat) (acp t10:LF) (t11:Int) (s_1:LF) (s_2 s_3:Int) (s_4 s_5:LF) (s_6 s_7 s_8:Fl) (e0:Ky3):(Fl × Int × Bool)->((Fl × Int × Bool)->Bool)->Bool:=λv_ K=>match v_ with
 | (t,t12,s)=>(cond (decide (t12<t11)) (inR t12 t10.length&&(inR t12 acp.length&&TC N (t10.getD t12.toNat none) (acp.getD t12.toNat none) s s_1 s_2 s_3 s_4 s_5 s_6 s_7 s_8 (λxr cr=>N4 N (cD t xr) cr s_1 s_2 s_3 s_4 s_5 s_6 s_7 s_8 (λacs=>ah .i64 (t12+1)&&K ((cD t xr),(t12+1),acs))))) (e0 t s))
def VU (N:Nat) (a b:LF) (b_1:Bool) (b_2:LF) (b_3 b_4:Int) (b_5 b_6:LF) (b_7 b_8 b_9:Fl) (k0:Ky3):Bool:=
 (al N (qe N b a ((a.length:Nat):Int) b_2 b_3 b_4 b_5 b_6 b_7 b_8 b_9 (λt_1 b0=>k0 t_1 b0)) ((some 0),0,b_1))
def WL (N:Nat):LF->LF->Bool->LF->Int->Int->LF->LF->Fl->Fl->Fl->(Ky3)->Bool:=aC N (VU N)
def Xi (N:Nat) (x:Fl) (b:Bool) (b_1:LF) (b_2 b_3:Int) (b_4 b_5:LF) (b_6 b_7 b_8:Fl) (b_9:LF) (k0:Ky8):Bool:=
 (cond ((!feq x x)==false) (jU N x 0 (λcr=>cond cr (k0 true) (k0 b))) (k0 true))
def FI (N:Nat):Fl->Bool->LF->Int->Int->LF->LF->Fl->Fl->Fl->LF->(Ky8)->Bool:=aC N (Xi N)
def Xw (N:Nat) (a b:Fl) (b_1:Bool) (b_2:LF) (b_3 b_4:Int) (b_5 b_6:LF) (b_7 b_8 b_9:Fl) (acp:LF) (k0:Ky3):Bool:=
 (FI N (bA a b) b_1 b_2 b_3 b_4 b_5 b_6 b_7 b_8 b_9 acp (λcr=>k0 (bA a b) cr))
def PO (N:Nat):Fl->Fl->Bool->LF->Int->Int->LF->LF->Fl->Fl->Fl->LF->(Ky3)->Bool:=aC N (Xw N)
def H7 (N:Nat) (acI t10:LF) (t11:Int) (s_1:LF) (s_2 s_3:Int) (s_4 s_5:LF) (s_6 s_7 s_8:Fl) (b1:LF) (e0:Ky3):(Fl × Int × Bool)->((Fl × Int × Bool)->Bool)->Bool:=λv_ K=>match v_ with
 | (t,t12,s)=>(cond (decide (t12<t11)) (inR t12 t10.length&&(inR t12 acI.length&&PO N (t10.getD t12.toNat none) (acI.getD t12.toNat none) s s_1 s_2 s_3 s_4 s_5 s_6 s_7 s_8 b1 (λxr cr=>FI N (cD t xr) cr s_1 s_2 s_3 s_4 s_5 s_6 s_7 s_8 b1 (λacs=>ah .i64 (t12+1)&&K ((cD t xr),(t12+1),acs))))) (e0 t s))
def Xf (N:Nat) (a b:LF) (b_1:Bool) (b_2:LF) (b_3 b_4:Int) (b_5 b_6:LF) (b_7 b_8 b_9:Fl) (acp:LF) (k0:Ky3):Bool:=
 (al N (H7 N b a ((a.length:Nat):Int) b_2 b_3 b_4 b_5 b_6 b_7 b_8 b_9 acp (λt_1 b0=>k0 t_1 b0)) ((some 0),0,b_1))
def PM (N:Nat):LF->LF->Bool->LF->Int->Int->LF->LF->Fl->Fl->Fl->LF->(Ky3)->Bool:=aC N (Xf N)
def H3 (N:Nat) (t10:LF) (t11:Int) (s_1:LF) (s_2 s_3:Int) (s_4 s_5:LF) (s_6 s_7 s_8:Fl) (acp:LF) (e0:Ky3):(Fl × Int × Bool)->((Fl × Int × Bool)->Bool)->Bool:=λv_ K=>match v_ with
 | (t,t12,s)=>(cond (decide (t12<t11)) (inR t12 t10.length&&(inR t12 acp.length&&(decide (t12.toNat<acp.length)&&PO N (t10.getD t12.toNat none) (acp.getD t12.toNat none) s s_1 s_2 s_3 s_4 s_5 s_6 s_7 s_8 acp (λxr cr=>FI N (cD t xr) cr s_1 s_2 s_3 s_4 s_5 s_6 s_7 s_8 acp (λacs=>ah .i64 (t12+1)&&K ((cD t xr),(t12+1),acs)))))) (e0 t s))
def Xb (N:Nat) (a:LF) (b:Bool) (b_1:LF) (b_2 b_3:Int) (b_4 b_5:LF) (b_6 b_7 b_8:Fl) (b_9:LF) (k0:Ky3):Bool:=
 (al N (H3 N a ((a.length:Nat):Int) b_1 b_2 b_3 b_4 b_5 b_6 b_7 b_8 b_9 (λt_1 b0=>k0 t_1 b0)) ((some 0),0,b))
def TL (N:Nat):LF->Bool->LF->Int->Int->LF->LF->Fl->Fl->Fl->LF->(Ky3)->Bool:=aC N (Xb N)
def Qc (N:Nat) (b:Bool) (b_1:LF) (b_2 b_3:Int) (b_4 b_5:LF) (b_6 b_7 b_8:Fl) (b_9:LF) (k0:Bool):Bool:=
 k0
def NY (N:Nat):Bool->LF->Int->Int->LF->LF->Fl->Fl->Fl->LF->(Bool)->Bool:=aC N (Qc N)
def fZ (N:Nat) (h_2:LF) (r_2:Fl) (ahE:Int) (s_7:LF) (s_8 s_9:Int) (agj ac8:LF) (ac_ aee:Int) (ad3 adm:LF) (adW adH adC:Fl) (e0:Ky4):(Int × Bool × LF)->((Int × Bool × LF)->Bool)->Bool:=λv_ K=>match v_ with
 | (agM,u_9,b2)=>(cond (decide (agM<ahE)) (jT N s_8 s_9 agj agM (λacM=>PM N acM h_2 u_9 ac8 ac_ aee ad3 adm adW adH adC b2 (λac5 acs=>decide ((List.length (b2++[ac5]))*8<=140737488355328)&&(ah .i64 (agM+1)&&K ((agM+1),acs,(b2++[ac5])))))) (e0 u_9 b2))
def nx (N:Nat) (s_0:LF) (s_1 s_2:Int) (s_3 h:LF) (r:Fl) (k0:Ky9) (k1:Int->Bool->Fl->Fl->LF->Bool):Bool:=
 (jx N s_0 s_1 s_2 s_3 (λnr=>cond (nr != 0) (k0 nr) (tm N ((s_0.length:Nat):Int) h r (λacl=>cond (acl != 0) (k0 acl) (al N (fZ N h r ((s_0.length:Nat):Int) s_0 s_1 s_2 s_3 s_0 s_1 s_2 s_3 h r (some 0) (some 0) (λaeU aeh=>PM N h s_0 aeU s_0 s_1 s_2 s_3 h r (some 0) (some 0) aeh (λadv acJ=>TL N h acJ s_0 s_1 s_2 s_3 h r adv (some 0) aeh (λadM acT=>FI N (cD adM r) acT s_0 s_1 s_2 s_3 h r adv (some 0) aeh (λadf=>NY N adf s_0 s_1 s_2 s_3 h r adv (cD adM r) aeh (cond adf (k1 5 adf adv (cD adM r) aeh) (cond (!(fgt (cD adM r) (some 0))) (k1 153 adf adv (cD adM r) aeh) (k1 0 adf adv (cD adM r) aeh)))))))) (0,false,[]))))))
def jS (N:Nat):LF->Int->Int->LF->LF->Fl->(Ky9)->(Int->Bool->Fl->Fl->LF->Bool)->Bool:=aC N (nx N)
def W7 (N:Nat) (x:Fl) (b:Bool) (b_1:LF) (b_2 b_3:Int) (b_4 b_5:LF) (b_6 b_7 b_8:Fl) (b_9 acp:LF) (k0:Ky8):Bool:=
 (cond ((!feq x x)==false) (jU N x 0 (λcr=>cond cr (k0 true) (k0 b))) (k0 true))
def z9 (N:Nat):Fl->Bool->LF->Int->Int->LF->LF->Fl->Fl->Fl->LF->LF->(Ky8)->Bool:=aC N (W7 N)
def W6 (N:Nat) (a b:Fl) (b_1:Bool) (b_2:LF) (b_3 b_4:Int) (b_5 b_6:LF) (b_7 b_8 b_9:Fl) (acp acI:LF) (k0:Ky3):Bool:=
 (z9 N (bA a b) b_1 b_2 b_3 b_4 b_5 b_6 b_7 b_8 b_9 acp acI (λcr=>k0 (bA a b) cr))
def A7 (N:Nat):Fl->Fl->Bool->LF->Int->Int->LF->LF->Fl->Fl->Fl->LF->LF->(Ky3)->Bool:=aC N (W6 N)
def ii (N:Nat) (b:Bool) (b_1:LF) (b_2 b_3:Int) (b_4 b_5:LF) (b_6 b_7 b_8:Fl) (b_9 acp:LF) (k0:Bool):Bool:=
 k0
def dH (N:Nat):Bool->LF->Int->Int->LF->LF->Fl->Fl->Fl->LF->LF->(Bool)->Bool:=ii N
def q8 (N:Nat) (m_0 m_1 i:Int) (b:LF) (k0:Nat->Nat->Bool):Bool:=
 (ah .i64 (i*m_1)&&(ah .i64 (i+1)&&(ah .i64 ((i+1)*m_1)&&(decide (0<=(i*m_1)/\(i*m_1)<=((i+1)*m_1)/\((i+1)*m_1)<=((b.length:Nat):Int))&&k0 (Int.toNat (i*m_1)) ((Int.toNat ((i+1)*m_1)) - (Int.toNat (i*m_1)))))))
def ge (N:Nat):Int->Int->Int->LF->(Nat->Nat->Bool)->Bool:=aC N (q8 N)
def lf (N:Nat) (j_1 t11 m m_3:Int) (m_4:LF) (e0:Kz2):(Int × LF)->((Int × LF)->Bool)->Bool:=λv_ K=>match v_ with
 | (t12,out)=>(cond (decide (t12<t11)) (ah .i64 (t12*m_3)&&(ah .i64 ((t12*m_3)+j_1)&&(inR ((t12*m_3)+j_1) m_4.length&&(inR t12 out.length&&(decide (t12.toNat<out.length)&&(ah .i64 (t12+1)&&K ((t12+1),(out.set t12.toNat (m_4.getD (Int.toNat ((t12*m_3)+j_1)) none))))))))) (e0 out))
def ur (N:Nat) (m_0 m_1:Int) (m_2:LF) (j:Int) (k0:Kz2):Bool:=
 (gc 8 m_0 m_0&&al N (lf N j (((List.length (List.replicate m_0.toNat (some 0))):Nat):Int) m_0 m_1 m_2 (λacH=>k0 acH)) (0,(List.replicate m_0.toNat (some 0))))
def qE (N:Nat):Int->Int->LF->Int->(Kz2)->Bool:=aC N (ur N)
def HX (N t10 adu:Nat) (t11:Int) (s_1:LF) (s_2 s_3:Int) (s_4 s_5:LF) (s_6 s_7 s_8:Fl) (ac9 acY b3 b4:LF) (e0:Ky3):(Fl × Int × Bool)->((Fl × Int × Bool)->Bool)->Bool:=λv_ K=>match v_ with
 | (t,t12,s)=>(cond (decide (t12<t11)) (inR t12 adu&&(decide ((t10+t12.toNat)<ac9.length)&&(inR t12 acY.length&&(decide (t12.toNat<acY.length)&&A7 N (ac9.getD (t10+t12.toNat) none) (acY.getD t12.toNat none) s s_1 s_2 s_3 s_4 s_5 s_6 s_7 s_8 b3 b4 (λxr cr=>z9 N (cD t xr) cr s_1 s_2 s_3 s_4 s_5 s_6 s_7 s_8 b3 b4 (λacs=>ah .i64 (t12+1)&&K ((cD t xr),(t12+1),acs))))))) (e0 t s))
def W9 (N a_0 a_1:Nat) (b:Bool) (b_1:LF) (b_2 b_3:Int) (b_4 b_5:LF) (b_6 b_7 b_8:Fl) (b_9 acp acI acR:LF) (k0:Ky3):Bool:=
 (al N (HX N a_0 a_1 ((a_1:Nat):Int) b_1 b_2 b_3 b_4 b_5 b_6 b_7 b_8 b_9 acp acI acR (λt_1 b0=>k0 t_1 b0)) ((some 0),0,b))
def TK (N:Nat):Nat->Nat->Bool->LF->Int->Int->LF->LF->Fl->Fl->Fl->LF->LF->LF->LF->(Ky3)->Bool:=aC N (W9 N)
def bL (N:Nat) (i_1 afe ad2 adk:Int) (aex:LF) (aey aez:Int) (aeA aeB:LF) (aeC aeD aeE:Fl) (ady adR afN:LF) (a_5 a_6 ah0 ah1:Int) (ah2:LF) (agn ago afb afc:Int) (e0:Ky4):(Int × Bool × LF)->((Int × Bool × LF)->Bool)->Bool:=λv_ K=>match v_ with
 | (adb,af8,b8)=>(cond (decide (adb<adk)) (ge N a_5 a_6 i_1 ady (λacL ae0=>qE N ah0 ah1 ah2 adb (λacM=>TK N acL ae0 af8 aex aey aez aeA aeB aeC aeD aeE ady acM adR afN (λac5 acs=>decide ((List.length (b8++[ac5]))*8<=140737488355328)&&(ah .i64 (adb+1)&&K ((adb+1),acs,(b8++[ac5]))))))) (e0 af8 b8))
def bK (N:Nat) (aeN:Int) (aeF:LF) (aeG aeH:Int) (aeI aeJ:LF) (aeK aeL aeM:Fl) (ad7 afM afO:LF) (a_7 a_8 aim ah3:Int) (ain:LF) (afU afV aev aew:Int) (e0:Ky4):(Int × Bool × LF)->((Int × Bool × LF)->Bool)->Bool:=λv_ K=>match v_ with
 | (adn,af9,aiW)=>(cond (decide (adn<aeN)) (al N (bL N adn aeN adn ah3 aeF aeG aeH aeI aeJ aeK aeL aeM ad7 afM afO a_7 a_8 aim ah3 ain afU afV aev aew (λaht ajj=>ah .i64 (adn+1)&&K ((adn+1),aht,ajj))) (0,af9,aiW)) (e0 af9 aiW))
def du (N:Nat) (a_0 a_1 b_0 b_1:Int) (b_2:LF) (b:Bool) (b_3:LF) (b_4 b_5:Int) (b_6 b_7:LF) (b_8 b_9 acp:Fl) (acI acR acY:LF) (k0:Ky4):Bool:=
 (al N (bK N a_0 b_3 b_4 b_5 b_6 b_7 b_8 b_9 acp acI acR acY a_0 a_1 b_0 b_1 b_2 0 0 a_0 b_1 (λb0 b6=>k0 b0 b6)) (0,b,[]))
def dA (N:Nat):Int->Int->Int->Int->LF->Bool->LF->Int->Int->LF->LF->Fl->Fl->Fl->LF->LF->LF->(Ky4)->Bool:=aC N (du N)
def HW (N adJ ad_ t10 adu:Nat) (t11:Int) (s_1:LF) (s_2 s_3:Int) (s_4 s_5:LF) (s_6 s_7 s_8:Fl) (ac9 adp b3 b4:LF) (e0:Ky3):(Fl × Int × Bool)->((Fl × Int × Bool)->Bool)->Bool:=λv_ K=>match v_ with
 | (t,t12,s)=>(cond (decide (t12<t11)) (inR t12 adu&&(decide ((t10+t12.toNat)<ac9.length)&&(inR t12 ad_&&(decide ((adJ+t12.toNat)<adp.length)&&A7 N (ac9.getD (t10+t12.toNat) none) (adp.getD (adJ+t12.toNat) none) s s_1 s_2 s_3 s_4 s_5 s_6 s_7 s_8 b3 b4 (λxr cr=>z9 N (cD t xr) cr s_1 s_2 s_3 s_4 s_5 s_6 s_7 s_8 b3 b4 (λacs=>ah .i64 (t12+1)&&K ((cD t xr),(t12+1),acs))))))) (e0 t s))
def W8 (N a_0 a_1 b_0 b_1:Nat) (b:Bool) (b_2:LF) (b_3 b_4:Int) (b_5 b_6:LF) (b_7 b_8 b_9:Fl) (acp acI acR acY:LF) (k0:Ky3):Bool:=
 (al N (HW N b_0 b_1 a_0 a_1 ((a_1:Nat):Int) b_2 b_3 b_4 b_5 b_6 b_7 b_8 b_9 acp acI acR acY (λt_1 b0=>k0 t_1 b0)) ((some 0),0,b))
def TJ (N:Nat):Nat->Nat->Nat->Nat->Bool->LF->Int->Int->LF->LF->Fl->Fl->Fl->LF->LF->LF->LF->(Ky3)->Bool:=aC N (W8 N)
def bD (N:Nat) (i j b b_1 b_2 b_3:Int) (b_4:Bool) (b_5:LF) (b_6 b_7:Int) (b_8 b_9:LF) (acp acI acR:Fl) (acY adJ ad_ adp:LF) (k0:Ky3):Bool:=
 (ge N b b_1 i acY (λmr acZ=>ge N b_2 b_3 j adJ (λacL ae0=>TJ N mr acZ acL ae0 b_4 b_5 b_6 b_7 b_8 b_9 acp acI acR acY adJ ad_ adp (λxr cr=>inR i adp.length&&(decide (i.toNat<adp.length)&&A7 N (adp.getD i.toNat none) acp cr b_5 b_6 b_7 b_8 b_9 acp acI acR ad_ adp (λac5 acs=>inR j adp.length&&(decide (j.toNat<adp.length)&&A7 N ac5 (adp.getD j.toNat none) acs b_5 b_6 b_7 b_8 b_9 acp acI acR ad_ adp (λadv acJ=>z9 N (cD xr adv) acJ b_5 b_6 b_7 b_8 b_9 acp acI acR ad_ adp (λacT=>k0 (cD xr adv) acT)))))))))
def bE (N:Nat):Int->Int->Int->Int->Int->Int->Bool->LF->Int->Int->LF->LF->Fl->Fl->Fl->LF->LF->LF->LF->(Ky3)->Bool:=aC N (bD N)
def bC (N:Nat) (n_2 i ad0 ad1 t21 aeq aer aes aet:Int) (agA:LF) (agB agC:Int) (agD agE:LF) (agF agG agH:Fl) (afi ado ad9 aeS:LF) (aek ael adj adY:Int) (e0:Ky4):(Int × Bool × LF)->((Int × Bool × LF)->Bool)->Bool:=λv_ K=>match v_ with
 | (t22,aiT,afq)=>(cond (decide (t22<t21)) (bE N i t22 aeq aer aes aet aiT agA agB agC agD agE agF agG agH afi ado ad9 aeS (λxr cr=>ah .i64 (i*n_2)&&(ah .i64 ((i*n_2)+t22)&&(ah .i64 (t22*n_2)&&(ah .i64 ((t22*n_2)+i)&&(inR ((i*n_2)+t22) afq.length&&(decide ((Int.toNat ((i*n_2)+t22))<afq.length)&&(inR ((t22*n_2)+i) (List.length (afq.set (Int.toNat ((i*n_2)+t22)) xr))&&(decide ((Int.toNat ((t22*n_2)+i))<(List.length (afq.set (Int.toNat ((i*n_2)+t22)) xr)))&&(ah .i64 (t22+1)&&K ((t22+1),cr,(List.set (afq.set (Int.toNat ((i*n_2)+t22)) xr) (Int.toNat ((t22*n_2)+i)) xr)))))))))))) (e0 aiT afq))
def bB (N:Nat) (n_1 t16 at_ aen aeo aep:Int) (ahU:LF) (afN afO:Int) (ahV ahW:LF) (ahX ahY ahZ:Fl) (b4 b5 b6 b7:LF) (t4 aeT out acH:Int) (e0:Ky4):(Int × Bool × LF)->((Int × Bool × LF)->Bool)->Bool:=λv_ K=>match v_ with
 | (t17,b3,b10)=>(cond (decide (t17<t16)) (ah .i64 (t17+1)&&al N (bC N n_1 t17 t16 t17 (t17+1) at_ aen aeo aep ahU afN afO ahV ahW ahX ahY ahZ b4 b5 b6 b7 t4 aeT out acH (λaiR aiP=>ah .i64 (t17+1)&&K ((t17+1),aiR,aiP))) (0,b3,b10)) (e0 b3 b10))
def co (N:Nat) (n b b_1 b_2 b_3:Int) (b_4:Bool) (b_5:LF) (b_6 b_7:Int) (b_8 b_9:LF) (acp acI acR:Fl) (acY adJ ad_ adp:LF) (k0:Ky4):Bool:=
 (ah .i64 (n*n)&&(gc 8 (n*n) (n*n)&&al N (bB N n n b b_1 b_2 b_3 b_5 b_6 b_7 b_8 b_9 acp acI acR acY adJ ad_ adp 0 0 n n (λaiS aiQ=>k0 aiS aiQ)) (0,b_4,(List.replicate (Int.toNat (n*n)) (some 0)))))
def cw (N:Nat):Int->Int->Int->Int->Int->Bool->LF->Int->Int->LF->LF->Fl->Fl->Fl->LF->LF->LF->LF->(Ky4)->Bool:=aC N (co N)
def bH (N:Nat) (n_2 i_1 ad2 ahz adk:Int) (ae5:LF) (ae6 ae7:Int) (ae8 adX:LF) (ae9 ae_ afa:Fl) (ady adR:LF) (aiw aix a_4 a_5:Int) (e0:Ky4):(Int × Bool × LF)->((Int × Bool × LF)->Bool)->Bool:=λv_ K=>match v_ with
 | (adb,ahc,b6)=>(cond (decide (adb<adk)) (cond (i_1==adb) (inR i_1 adR.length&&(decide (i_1.toNat<adR.length)&&(inR adb adX.length&&A7 N (adR.getD i_1.toNat none) (adX.getD adb.toNat none) ahc ae5 ae6 ae7 ae8 adX ae9 ae_ afa ady adR (λac5 acJ=>z9 N (lj (some 4607182418800017408) ac5) acJ ae5 ae6 ae7 ae8 adX ae9 ae_ afa ady adR (λacT=>decide ((List.length (b6++[(lj (some 4607182418800017408) ac5)]))*8<=140737488355328)&&(ah .i64 (adb+1)&&K ((adb+1),acT,(b6++[(lj (some 4607182418800017408) ac5)])))))))) (inR i_1 adR.length&&(decide (i_1.toNat<adR.length)&&(inR adb adX.length&&A7 N (adR.getD i_1.toNat none) (adX.getD adb.toNat none) ahc ae5 ae6 ae7 ae8 adX ae9 ae_ afa ady adR (λadv adf=>z9 N (lj (some 0) adv) adf ae5 ae6 ae7 ae8 adX ae9 ae_ afa ady adR (λadS=>decide ((List.length (b6++[(lj (some 0) adv)]))*8<=140737488355328)&&(ah .i64 (adb+1)&&K ((adb+1),adS,(b6++[(lj (some 0) adv)]))))))))) (e0 ahc b6))
def bG (N:Nat) (n_3 adn:Int) (ags:LF) (agt agu:Int) (agv agw:LF) (agx agy agz:Fl) (ad7 afM:LF) (ah5 ah6 a_6 a_7:Int) (e0:Ky4):(Int × Bool × LF)->((Int × Bool × LF)->Bool)->Bool:=λv_ K=>match v_ with
 | (aga,aia,aiU)=>(cond (decide (aga<adn)) (al N (bH N n_3 aga adn aga n_3 ags agt agu agv agw agx agy agz ad7 afM ah5 ah6 a_6 a_7 (λaiN aji=>ah .i64 (aga+1)&&K ((aga+1),aiN,aji))) (0,aia,aiU)) (e0 aia aiU))
def cJ (N:Nat) (b:Bool) (b_1:LF) (b_2 b_3:Int) (b_4 b_5:LF) (b_6 b_7 b_8:Fl) (b_9 acp:LF) (k0:Int->Int->Bool->LF->Bool):Bool:=
 (al N (bG N ((b_5.length:Nat):Int) ((b_5.length:Nat):Int) b_1 b_2 b_3 b_4 b_5 b_6 b_7 b_8 b_9 acp 0 0 ((b_5.length:Nat):Int) ((b_5.length:Nat):Int) (λaiO aiV=>dA N ((b_5.length:Nat):Int) ((b_5.length:Nat):Int) b_2 b_3 b_4 aiO b_1 b_2 b_3 b_4 b_5 b_6 b_7 b_8 aiV b_9 acp (λaea xsr=>cw N ((b_5.length:Nat):Int) ((b_5.length:Nat):Int) b_3 ((b_5.length:Nat):Int) ((b_5.length:Nat):Int) aea b_1 b_2 b_3 b_4 b_5 b_6 b_7 b_8 xsr aiV b_9 acp (λaeb acM=>k0 ((b_5.length:Nat):Int) ((b_5.length:Nat):Int) aeb acM)))) (0,b,[]))
def bP (N:Nat):Bool->LF->Int->Int->LF->LF->Fl->Fl->Fl->LF->LF->(Int->Int->Bool->LF->Bool)->Bool:=aC N (cJ N)
def XD (N:Nat) (b:Bool) (b_1:LF) (b_2 b_3:Int) (b_4 b_5:LF) (b_6 b_7 b_8:Fl) (b_9 acp:LF) (k0:Bool):Bool:=
 k0
def VC (N:Nat):Bool->LF->Int->Int->LF->LF->Fl->Fl->Fl->LF->LF->(Bool)->Bool:=aC N (XD N)
def cS (N:Nat) (p_0 p_1:Int) (b:Bool) (b_1:LF) (b_2 b_3:Int) (b_4 b_5:LF) (b_6 b_7 b_8:Fl) (b_9 acp acI acR:LF) (k0:Kx9) (k1:Ky9):Bool:=
 (VC N b b_1 b_2 b_3 b_4 b_5 b_6 b_7 b_8 acI acR (cond b (k0 0 0 5) (cz N p_0 p_1 acp (λcr=>cond (!cr) (k0 0 0 151) (k1 0)))))
def dd (N:Nat):Int->Int->Bool->LF->Int->Int->LF->LF->Fl->Fl->Fl->LF->LF->LF->LF->(Kx9)->(Ky9)->Bool:=aC N (cS N)
def cj (N:Nat) (y_1:Fl) (ahG:Int) (s_7:LF) (s_8 s_9:Int) (agj:LF) (ac9 ahu:Int) (ahv ahw ahx:Fl) (ad3:LF) (adm adW:Int) (adH adC:LF) (aeU ae3 ad4:Fl) (ado:LF) (e0:Bool->LF->LF->Bool):(Int × Bool × LF × LF)->((Int × Bool × LF × LF)->Bool)->Bool:=λv_ K=>match v_ with
 | (ac7,aee,x_1,b6)=>(cond (decide (ac7<ahG)) (inR ac7 ado.length&&(decide (ac7.toNat<ado.length)&&z9 N (fdiv (ado.getD ac7.toNat none) ad4) aee ad3 adm adW adH adC aeU ae3 ad4 ado b6 (λc8=>decide ((List.length (b6++[(fdiv (ado.getD ac7.toNat none) ad4)]))*8<=140737488355328)&&(inR ac7 s_7.length&&(inR ac7 (List.length (b6++[(fdiv (ado.getD ac7.toNat none) ad4)]))&&(decide (ac7.toNat<(List.length (b6++[(fdiv (ado.getD ac7.toNat none) ad4)])))&&A7 N (List.getD (b6++[(fdiv (ado.getD ac7.toNat none) ad4)]) ac7.toNat none) y_1 c8 ad3 adm adW adH adC aeU ae3 ad4 ado (b6++[(fdiv (ado.getD ac7.toNat none) ad4)]) (λadM c9=>z9 N (cD (s_7.getD ac7.toNat none) adM) c9 ad3 adm adW adH adC aeU ae3 ad4 ado (b6++[(fdiv (ado.getD ac7.toNat none) ad4)]) (λc10=>inR ac7 x_1.length&&(decide (ac7.toNat<x_1.length)&&(ah .i64 (ac7+1)&&K ((ac7+1),c10,(x_1.set ac7.toNat (cD (s_7.getD ac7.toNat none) adM)),(b6++[(fdiv (ado.getD ac7.toNat none) ad4)])))))))))))) (e0 aee x_1 b6))
def pP (N:Nat) (s_0:LF) (s_1 s_2:Int) (s_3 h:LF) (r z y_3 ad5:Fl) (ahK:Bool) (ahL ag3:Fl) (b3 ahd agZ ad9:LF) (t_2 t_3:Int) (k0:Kx2) (k1:Kx1) (k2:Kx0):Bool:=
 (k2 t_2 t_3 y_3 ag3 ad5 0 b3 ad9 agZ)
def pO (N:Nat) (s_0:LF) (s_1 s_2:Int) (s_3 h:LF) (r z y_2 score:Fl) (ahI:Bool) (ahJ ag2:Fl) (afi afj:LF) (t t_1:Int) (k0:Kx2) (k1:Kx1) (k2:Kx0):Bool:=
 (k1 t t_1 y_2 ag2 score 0 afj)
def fW (N:Nat) (s_0:LF) (s_1 s_2:Int) (s_3 h:LF) (r z:Fl) (e_2:Int) (u:Bool) (u_1 u_2:Fl) (b4:LF) (k0:Kx2) (k1:Kx1) (k2:Kx0):Bool:=
 (cond (e_2 != 0) (k0 0 0 (some 0) (some 0) (some 0) e_2) (FI N (lj z u_1) u s_0 s_1 s_2 s_3 h r u_1 u_2 b4 (λadf=>gc 8 ((h.length:Nat):Int) ((h.length:Nat):Int)&&al N (cj N (lj z u_1) (((List.length (List.replicate (Int.toNat ((h.length:Nat):Int)) (some 0))):Nat):Int) s_0 s_1 s_2 s_3 0 0 (some 0) (some 0) (some 0) s_0 s_1 s_2 s_3 h r u_1 u_2 b4 (λaiC x_2 adE=>A7 N (lj z u_1) (lj z u_1) aiC s_0 s_1 s_2 s_3 h r u_1 u_2 b4 adE (λadw c11=>z9 N (fdiv adw u_2) c11 s_0 s_1 s_2 s_3 h r u_1 u_2 b4 adE (λc12=>dH N c12 s_0 s_1 s_2 s_3 h r u_1 u_2 b4 adE (bP N c12 s_0 s_1 s_2 s_3 h r u_1 u_2 b4 adE (λacn acC c13 acM=>dd N acn acC c13 s_0 s_1 s_2 s_3 h r u_1 u_2 x_2 acM b4 adE (λacP n5 n6=>cond (n6 != 0) (k0 0 0 (some 0) (some 0) (some 0) n6) (pO N s_0 s_1 s_2 s_3 h r z (lj z u_1) (fdiv adw u_2) c13 u_1 u_2 b4 adE acP n5 k0 k1 k2)) (λn7=>cond (n7 != 0) (k0 0 0 (some 0) (some 0) (some 0) n7) (pP N s_0 s_1 s_2 s_3 h r z (lj z u_1) (fdiv adw u_2) c13 u_1 u_2 x_2 b4 adE acM acn acC k0 k1 k2)))))))) (0,adf,(List.replicate (Int.toNat ((h.length:Nat):Int)) (some 0)),[]))))
def pN (N:Nat) (s_0:LF) (s_1 s_2:Int) (s_3 h:LF) (r z:Fl) (e_1:Int) (k0:Kx2) (k1:Kx1) (k2:Kx0):Bool:=
 (cond (e_1 != 0) (k0 0 0 (some 0) (some 0) (some 0) e_1) false)
def fV (N:Nat) (s_0:LF) (s_1 s_2:Int) (s_3 h:LF) (r z:Fl) (e:Int) (k0:Kx2) (k1:Kx1) (k2:Kx0):Bool:=
 (cond (e != 0) (k0 0 0 (some 0) (some 0) (some 0) e) false)
def eS (N:Nat) (s_0:LF) (s_1 s_2:Int) (s_3 h:LF) (r z:Fl) (k0:Kx2) (k1:Kx1) (k2:Kx0):Bool:=
 (jS N s_0 s_1 s_2 s_3 h r (λnr=>cond ((nr==0)==false) (fV N s_0 s_1 s_2 s_3 h r z nr k0 k1 k2) (vQ N [z] (λacs=>cond (!acs) (k0 0 0 (some 0) (some 0) (some 0) 4) (pN N s_0 s_1 s_2 s_3 h r z nr k0 k1 k2)))) (λacl cr xr ac5 xsr=>cond ((acl==0)==false) (vQ N [z] (λacJ=>cond (!acJ) (k0 0 0 (some 0) (some 0) (some 0) 4) (fW N s_0 s_1 s_2 s_3 h r z acl cr xr ac5 xsr k0 k1 k2))) (vQ N [z] (λacT=>cond (!acT) (k0 0 0 (some 0) (some 0) (some 0) 4) (fW N s_0 s_1 s_2 s_3 h r z acl cr xr ac5 xsr k0 k1 k2)))))
def mA (N:Nat):LF->Int->Int->LF->LF->Fl->Fl->(Kx2)->(Kx1)->(Kx0)->Bool:=aC N (eS N)
def pj (N:Nat) (s_0:LF) (s_1 s_2:Int) (s_3 h:LF) (r z:Fl) (k0:Kx2) (k1:Kx1) (k2:Kx0):Bool:=
 (mA N s_0 s_1 s_2 s_3 h r z (λnr acl xr ac5 adv acn=>k0 nr acl xr ac5 adv acn) (λacC acP adM adw afW n5 xsr=>k1 acC acP adM adw afW n5 xsr) (λn6 n7 afn afo afp n8 acM adI aef=>k2 n6 n7 afn afo afp n8 acM adI aef))
def dz (N:Nat):LF->Int->Int->LF->LF->Fl->Fl->(Kx2)->(Kx1)->(Kx0)->Bool:=aC N (pj N)
def GQ0 (N:Nat) (k0:Ky8):Bool:=
 (dz N [(some 0)] 1 1 [(some 4616189618054758400)] [(some 4607182418800017408)] (some 4607182418800017408) (some 4617315517961601024) (λnr acl xr ac5 adv acn=>cond ((acn==0)==true) (k0 false) (k0 false)) (λacC acP adM adw afW n5 xsr=>cond ((n5==0)==true) (k0 false) (k0 false)) (λn6 n7 afn afo afp n8 acM adI aef=>cond ((n8==0)==true) (cond ((((acM.length:Nat):Int)==1)==true) (inR 0 acM.length&&(decide (0<acM.length)&&cond ((feq (acM.getD 0 none) (some 4616189618054758400))==true) (cond ((feq afo (some 4617315517961601024))==true) (cond ((feq afn (some 4617315517961601024))==true) (cond ((feq afp (some 4617315517961601024))==true) (jx N [(some 0)] 1 1 [(some 4616189618054758400)] (λn9=>k0 (n9==0))) (k0 false)) (k0 false)) (k0 false)) (k0 false))) (k0 false)) (k0 false)))
def sQ0 (N:Nat):(Ky8)->Bool:=aC N (GQ0 N)
def Dx (N:Nat) (rows cols:Int) (k0:Kz2):Bool:=
 (ah .i64 (rows*cols)&&(gc 8 (rows*cols) (rows*cols)&&k0 (List.replicate (Int.toNat (rows*cols)) (some 0))))
def rO (N:Nat):Int->Int->(Kz2)->Bool:=Dx N
def Cc (N:Nat) (m_0 m_1 i j:Int) (x:Fl) (b:LF) (k0:Kz2):Bool:=
 (ah .i64 (i*m_1)&&(ah .i64 ((i*m_1)+j)&&(inR ((i*m_1)+j) b.length&&(decide ((Int.toNat ((i*m_1)+j))<b.length)&&k0 (b.set (Int.toNat ((i*m_1)+j)) x)))))
def xC (N:Nat):Int->Int->Int->Int->Fl->LF->(Kz2)->Bool:=Cc N
def ot (N:Nat) (n_1 t2 aej u u_1:Int) (e0:Kz2):(Int × LF)->((Int × LF)->Bool)->Bool:=λv_ K=>match v_ with
 | (i,b2)=>(cond (decide (i<n_1)) (xC N u u_1 i i (some 4607182418800017408) b2 (λacM=>ah .i64 (i+1)&&K ((i+1),acM))) (e0 b2))
def zy (N:Nat) (n:Int) (k0:Kz2):Bool:=
 (rO N n n (λxsr=>al N (ot N n 0 0 n n (λaeh=>k0 aeh)) (0,xsr)))
def vv (N:Nat):Int->(Kz2)->Bool:=aC N (zy N)
def pk (N:Nat) (m_0 m_1:Int) (m_2:LF) (n:Int) (k0:Ky9):Bool:=
 (PP N m_0 m_1 m_2 (λnr=>cond (nr != 0) (k0 nr) (cond ((m_0 != m_1)==false) (cond (m_0 != n) (k0 3) (k0 0)) (k0 3))))
def lc (N:Nat):Int->Int->LF->Int->(Ky9)->Bool:=aC N (pk N)
def M4 (N:Nat) (x:Fl) (b:Bool) (k0:Ky8):Bool:=
 (cond ((!feq x x)==false) (jU N x 0 (λcr=>cond cr (k0 true) (k0 b))) (k0 true))
def xv (N:Nat):Fl->Bool->(Ky8)->Bool:=aC N (M4 N)
def QI (N:Nat) (a b:Fl) (b_1:Bool) (k0:Ky3):Bool:=
 (xv N (bA a b) b_1 (λcr=>k0 (bA a b) cr))
def EX (N:Nat):Fl->Fl->Bool->(Ky3)->Bool:=aC N (QI N)
def mL (N:Nat) (b_2 t10:LF) (t11:Int) (e0:Ky3):(Fl × Int × Bool)->((Fl × Int × Bool)->Bool)->Bool:=λv_ K=>match v_ with
 | (t,t12,s)=>(cond (decide (t12<t11)) (inR t12 t10.length&&(inR t12 b_2.length&&EX N (t10.getD t12.toNat none) (b_2.getD t12.toNat none) s (λxr cr=>xv N (cD t xr) cr (λacs=>ah .i64 (t12+1)&&K ((cD t xr),(t12+1),acs))))) (e0 t s))
def QD (N:Nat) (a b:LF) (b_1:Bool) (k0:Ky3):Bool:=
 (al N (mL N b a ((a.length:Nat):Int) (λt_1 b0=>k0 t_1 b0)) ((some 0),0,b_1))
def J9 (N:Nat):LF->LF->Bool->(Ky3)->Bool:=aC N (QD N)
def jY (N:Nat) (t10:LF) (t11:Int) (b_2:LF) (e0:Ky3):(Fl × Int × Bool)->((Fl × Int × Bool)->Bool)->Bool:=λv_ K=>match v_ with
 | (t,t12,s)=>(cond (decide (t12<t11)) (inR t12 t10.length&&(inR t12 b_2.length&&(decide (t12.toNat<b_2.length)&&EX N (t10.getD t12.toNat none) (b_2.getD t12.toNat none) s (λxr cr=>xv N (cD t xr) cr (λacs=>ah .i64 (t12+1)&&K ((cD t xr),(t12+1),acs)))))) (e0 t s))
def Qm (N:Nat) (a:LF) (b:Bool) (b_1:LF) (k0:Ky3):Bool:=
 (al N (jY N a ((a.length:Nat):Int) b_1 (λt_1 b0=>k0 t_1 b0)) ((some 0),0,b))
def J3 (N:Nat):LF->Bool->LF->(Ky3)->Bool:=aC N (Qm N)
def dJ (N:Nat) (i_1 afe ad2 adk a_8 a_9:Int) (ahS:LF) (b_9 acp:Int) (acI:LF) (agn ago afb afc:Int) (e0:Ky4):(Int × Bool × LF)->((Int × Bool × LF)->Bool)->Bool:=λv_ K=>match v_ with
 | (adb,agI,b5)=>(cond (decide (adb<adk)) (jT N a_8 a_9 ahS i_1 (λadI=>qE N b_9 acp acI adb (λaef=>J3 N adI agI aef (λac5 acs=>decide ((List.length (b5++[ac5]))*8<=140737488355328)&&(ah .i64 (adb+1)&&K ((adb+1),acs,(b5++[ac5]))))))) (e0 agI b5))
def dI (N:Nat) (aeN aii aij:Int) (aik:LF) (acR acY:Int) (adJ:LF) (afU afV aev aew:Int) (e0:Ky4):(Int × Bool × LF)->((Int × Bool × LF)->Bool)->Bool:=λv_ K=>match v_ with
 | (adn,agJ,adE)=>(cond (decide (adn<aeN)) (al N (dJ N adn aeN adn acY aii aij aik acR acY adJ afU afV aev aew (λah4 afj=>ah .i64 (adn+1)&&K ((adn+1),ah4,afj))) (0,agJ,adE)) (e0 agJ adE))
def kh (N:Nat) (a_0 a_1:Int) (a_2:LF) (b_0 b_1:Int) (b_2:LF) (b:Bool) (k0:Ky4):Bool:=
 (al N (dI N a_0 a_0 a_1 a_2 b_0 b_1 b_2 0 0 a_0 b_1 (λb0 b3=>k0 b0 b3)) (0,b,[]))
def kp (N:Nat):Int->Int->LF->Int->Int->LF->Bool->(Ky4)->Bool:=aC N (kh N)
def jX (N:Nat) (b_3:LF) (t10 adu:Nat) (t11:Int) (ac9:LF) (e0:Ky3):(Fl × Int × Bool)->((Fl × Int × Bool)->Bool)->Bool:=λv_ K=>match v_ with
 | (t,t12,s)=>(cond (decide (t12<t11)) (inR t12 adu&&(decide ((t10+t12.toNat)<ac9.length)&&(inR t12 b_3.length&&EX N (ac9.getD (t10+t12.toNat) none) (b_3.getD t12.toNat none) s (λxr cr=>xv N (cD t xr) cr (λacs=>ah .i64 (t12+1)&&K ((cD t xr),(t12+1),acs)))))) (e0 t s))
def Ql (N a_0 a_1:Nat) (b:LF) (b_1:Bool) (b_2:LF) (k0:Ky3):Bool:=
 (al N (jX N b a_0 a_1 ((a_1:Nat):Int) b_2 (λt_1 b0=>k0 t_1 b0)) ((some 0),0,b_1))
def J2 (N:Nat):Nat->Nat->LF->Bool->LF->(Ky3)->Bool:=aC N (Ql N)
def bU (N:Nat) (i j b b_1 b_2 b_3:Int) (b_4:LF) (b_5 b_6:Int) (b_7:LF) (b_8:Int) (b_9:Bool) (acp:LF) (k0:Ky3):Bool:=
 (ge N b b_1 i acp (λmr acZ=>jT N b_2 b_3 b_4 j (λxsr=>J2 N mr acZ xsr b_9 acp (λxr cr=>ah .i64 (i*b_8)&&(ah .i64 ((i*b_8)+j)&&(inR ((i*b_8)+j) b_7.length&&xv N (cD xr (b_7.getD (Int.toNat ((i*b_8)+j)) none)) cr (λacs=>k0 (cD xr (b_7.getD (Int.toNat ((i*b_8)+j)) none)) acs)))))))
def dR (N:Nat):Int->Int->Int->Int->Int->Int->LF->Int->Int->LF->Int->Bool->LF->(Ky3)->Bool:=aC N (bU N)
def cd (N:Nat) (n_2 i ad0 ad1 t21 agr afD afE afF:Int) (afG:LF) (afH afI:Int) (afJ:LF) (afK:Int) (ad9:LF) (aek ael adj adY:Int) (e0:Ky4):(Int × Bool × LF)->((Int × Bool × LF)->Bool)->Bool:=λv_ K=>match v_ with
 | (t22,ado,aeY)=>(cond (decide (t22<t21)) (dR N i t22 agr afD afE afF afG afH afI afJ afK ado ad9 (λxr cr=>ah .i64 (i*n_2)&&(ah .i64 ((i*n_2)+t22)&&(ah .i64 (t22*n_2)&&(ah .i64 ((t22*n_2)+i)&&(inR ((i*n_2)+t22) aeY.length&&(decide ((Int.toNat ((i*n_2)+t22))<aeY.length)&&(inR ((t22*n_2)+i) (List.length (aeY.set (Int.toNat ((i*n_2)+t22)) xr))&&(decide ((Int.toNat ((t22*n_2)+i))<(List.length (aeY.set (Int.toNat ((i*n_2)+t22)) xr)))&&(ah .i64 (t22+1)&&K ((t22+1),cr,(List.set (aeY.set (Int.toNat ((i*n_2)+t22)) xr) (Int.toNat ((t22*n_2)+i)) xr)))))))))))) (e0 ado aeY))
def cb (N:Nat) (n_1 t16 at_ aen aeo aep:Int) (aeq:LF) (aer aes:Int) (aet:LF) (agq:Int) (b6:LF) (t4 aeT out acH:Int) (e0:Ky4):(Int × Bool × LF)->((Int × Bool × LF)->Bool)->Bool:=λv_ K=>match v_ with
 | (t17,b5,b9)=>(cond (decide (t17<t16)) (ah .i64 (t17+1)&&al N (cd N n_1 t17 t16 t17 (t17+1) at_ aen aeo aep aeq aer aes aet agq b6 t4 aeT out acH (λadE af2=>ah .i64 (t17+1)&&K ((t17+1),adE,af2))) (0,b5,b9)) (e0 b5 b9))
def eP (N:Nat) (n b b_1 b_2 b_3:Int) (b_4:LF) (b_5 b_6:Int) (b_7:LF) (b_8:Int) (b_9:Bool) (acp:LF) (k0:Ky4):Bool:=
 (ah .i64 (n*n)&&(gc 8 (n*n) (n*n)&&al N (cb N n n b b_1 b_2 b_3 b_4 b_5 b_6 b_7 b_8 acp 0 0 n n (λafj ajk=>k0 afj ajk)) (0,b_9,(List.replicate (Int.toNat (n*n)) (some 0)))))
def eQ (N:Nat):Int->Int->Int->Int->Int->LF->Int->Int->LF->Int->Bool->LF->(Ky4)->Bool:=aC N (eP N)
def QP (N:Nat) (b k0:Bool):Bool:=
 k0
def N6 (N:Nat):Bool->(Bool)->Bool:=aC N (QP N)
def gE (N:Nat) (p_0 p_1:Int) (b:Bool) (b_1 b_2:LF) (k0:Kx9) (k1:Ky9):Bool:=
 (N6 N b (cond b (k0 0 0 5) (cz N p_0 p_1 b_2 (λcr=>cond (!cr) (k0 0 0 151) (k1 0)))))
def mz (N:Nat):Int->Int->Bool->LF->LF->(Kx9)->(Ky9)->Bool:=aC N (gE N)
def fY (N:Nat) (t49:Int) (s:LF) (s_4 s_5:Int) (s_6:LF) (f f_3:Int) (f_4:LF) (q q_3:Int) (q_4:LF) (t6 ae2 n:Int) (e0:LF->Bool->Bool):(Int × LF × Bool)->((Int × LF × Bool)->Bool)->Bool:=λv_ K=>match v_ with
 | (t50,x,b7)=>(cond (decide (t50<t49)) (jT N f f_3 f_4 t50 (λxsr=>J9 N xsr s b7 (λxr acs=>inR t50 x.length&&(decide (t50.toNat<x.length)&&(ah .i64 (t50+1)&&K ((t50+1),(x.set t50.toNat xr),acs)))))) (e0 x b7))
def nw (N:Nat) (s_0:LF) (s_1 s_2:Int) (s_3:LF) (f_0 f_1:Int) (f_2:LF) (q_0 q_1:Int) (q_2:LF) (k0:Kx9) (k1:Int->Int->Int->LF->LF->Bool):Bool:=
 (jx N s_0 s_1 s_2 s_3 (λnr=>cond (nr != 0) (k0 0 0 nr) (lc N f_0 f_1 f_2 ((s_0.length:Nat):Int) (λacl=>cond (acl != 0) (k0 0 0 acl) (lc N q_0 q_1 q_2 ((s_0.length:Nat):Int) (λacn=>cond (acn != 0) (k0 0 0 acn) (Vt N q_0 q_1 q_2 (λcr=>cond (!cr) (k0 0 0 150) (gc 8 ((s_0.length:Nat):Int) ((s_0.length:Nat):Int)&&al N (fY N (((List.length (List.replicate (Int.toNat ((s_0.length:Nat):Int)) (some 0))):Nat):Int) s_0 s_1 s_2 s_3 f_0 f_1 f_2 q_0 q_1 q_2 0 0 ((s_0.length:Nat):Int) (λx_1 aeS=>kp N f_0 f_1 f_2 s_1 s_2 s_3 aeS (λacJ acM=>eQ N ((s_0.length:Nat):Int) f_0 s_2 f_0 f_1 f_2 q_0 q_1 q_2 ((s_0.length:Nat):Int) acJ acM (λacT adI=>mz N ((s_0.length:Nat):Int) ((s_0.length:Nat):Int) acT x_1 adI (λacC acP n5=>k0 acC acP n5) (λn6=>k1 ((s_0.length:Nat):Int) ((s_0.length:Nat):Int) n6 x_1 adI))))) (0,(List.replicate (Int.toNat ((s_0.length:Nat):Int)) (some 0)),false))))))))))
def jR (N:Nat):LF->Int->Int->LF->Int->Int->LF->Int->Int->LF->(Kx9)->(Int->Int->Int->LF->LF->Bool)->Bool:=aC N (nw N)
def HV (N:Nat) (a_1 b_1:LF) (t12:Int) (e0:Ky8) (e1:Bool):(Int)->((Int)->Bool)->Bool:=λv_ K=>match v_ with
 | t13=>(cond (decide (t13<t12)) (inR t13 a_1.length&&(inR t13 b_1.length&&cond (!feq (a_1.getD t13.toNat none) (b_1.getD t13.toNat none)) (e0 false) (ah .i64 (t13+1)&&K (t13+1)))) e1)
def GQ2 (N:Nat) (a b:LF) (k0:Ky8):Bool:=
 (cond (((a.length:Nat):Int) != ((b.length:Nat):Int)) (k0 false) (al N (HV N a b ((a.length:Nat):Int) (λt4=>k0 t4) (k0 true)) 0))
def sQ2 (N:Nat):LF->LF->(Ky8)->Bool:=aC N (GQ2 N)
def Ie (N:Nat) (x:Fl) (k0:Ky8):Bool:=
 (A8 N x (λnr=>ah .i64 nr&&k0 (decide (nr<0))))
def Kh (N:Nat):Fl->(Ky8)->Bool:=Ie N
def HZ (N:Nat) (t5:LF) (t6:Int) (e0:Ky8) (e1:Bool):(Int)->((Int)->Bool)->Bool:=λv_ K=>match v_ with
 | t7=>(cond (decide (t7<t6)) (inR t7 t5.length&&cond ((feq (t5.getD t7.toNat none) (some 0))==true) (Kh N (t5.getD t7.toNat none) (λcr=>cond cr (e0 false) (ah .i64 (t7+1)&&K (t7+1)))) (ah .i64 (t7+1)&&K (t7+1))) e1)
def GQ8 (N:Nat) (a:LF) (k0:Ky8):Bool:=
 (al N (HZ N a ((a.length:Nat):Int) (λt2=>k0 t2) (k0 true)) 0)
def sQ8 (N:Nat):LF->(Ky8)->Bool:=aC N (GQ8 N)
def GQ1 (N:Nat) (b:Int) (k0:Kz1):Bool:=
 (EW N b (λxr=>k0 xr))
def sQ1 (N:Nat):Int->(Kz1)->Bool:=GQ1 N
def Zi (N:Nat) (a b:Fl) (k0:Ky8):Bool:=
 (A8 N a (λnr=>A8 N b (λacl=>k0 (nr==acl))))
def Kc (N:Nat):Fl->Fl->(Ky8)->Bool:=Zi N
def Um (N:Nat) (x:LI) (n:Int) (p:LI) (r z e_5:Int) (agV agY af2 b10 b11:LF) (ac8 ac_:Int) (af6 aft af7:Fl) (k0:Ky8):Bool:=
 (cond (e_5 != 0) (cond ((e_5==5)==true) (sQ1 N z (λx60=>sQ1 N z (λx61=>sQ1 N r (λx62=>ko N (fdiv (bA x60 x61) x62) (λc69=>cond ((!c69)==true) (sQ0 N (λc70=>k0 c70)) (k0 false)))))) (k0 false)) (sQ2 N af2 agV (λc71=>cond (c71==true) (sQ2 N b10 agY (λc72=>cond (c72==true) (sQ1 N r (λx63=>Kc N aft x63 (λc73=>cond (c73==true) (sQ0 N (λc74=>k0 c74)) (k0 false)))) (k0 false))) (k0 false))))
def Zw (N:Nat) (x:LI) (n:Int) (p:LI) (r z e_4:Int) (agU agX aeY:LF) (u_8 u_9:Int) (af4 afs af5:Fl) (k0:Ky8):Bool:=
 (cond (e_4 != 0) (cond ((e_4==5)==true) (sQ1 N z (λx56=>sQ1 N z (λx57=>sQ1 N r (λx58=>ko N (fdiv (bA x56 x57) x58) (λc63=>cond ((!c63)==true) (sQ0 N (λaiZ=>k0 aiZ)) (k0 false)))))) (k0 false)) (sQ2 N [] agU (λc65=>cond (c65==true) (sQ2 N [] agX (λc66=>cond (c66==true) (sQ1 N r (λx59=>Kc N afs x59 (λc67=>cond (c67==true) (sQ0 N (λc68=>k0 c68)) (k0 false)))) (k0 false))) (k0 false))))
def Ul (N:Nat) (x:LI) (n:Int) (p:LI) (r z e_3:Int) (af1 agW:LF) (u_6 u_7:Int) (ahl afr af3:Fl) (k0:Ky8):Bool:=
 (cond (e_3 != 0) (cond ((e_3==5)==true) (sQ1 N z (λx52=>sQ1 N z (λx53=>sQ1 N r (λx54=>ko N (fdiv (bA x52 x53) x54) (λc57=>cond ((!c57)==true) (sQ0 N (λc58=>k0 c58)) (k0 false)))))) (k0 false)) (sQ2 N [] af1 (λc59=>cond (c59==true) (sQ2 N [] agW (λc60=>cond (c60==true) (sQ1 N r (λx55=>Kc N afr x55 (λc61=>cond (c61==true) (sQ0 N (λc62=>k0 c62)) (k0 false)))) (k0 false))) (k0 false))))
def JQ7 (N:Nat) (x:LI) (n:Int) (p:LI) (r z:Int) (adQ ad8:LF) (k0:Ky8):Bool:=
 (gc 8 n n&&sQ1 N r (λx32=>sQ1 N z (λx33=>dz N adQ n n ad8 (List.replicate n.toNat (some 0)) x32 x33 (λn16 n17 x34 x35 x36 n18=>sQ1 N r (λx43=>cond ((!(fgt x43 (some 0)))==false) (sQ1 N r (λx44=>ko N x44 (λc42=>cond ((!c42)==false) (sQ1 N z (λx45=>ko N x45 (λc43=>cond (!c43) (cond ((n18 != 0)==true) (sQ0 N (λc48=>k0 c48)) (k0 false)) (Ul N x n p r z n18 adQ ad8 n16 n17 x34 x35 x36 k0)))) (cond ((n18 != 0)==true) (sQ0 N (λc49=>k0 c49)) (k0 false))))) (cond ((n18 != 0)==true) (sQ0 N (λc50=>k0 c50)) (k0 false)))) (λn19 n20 x37 x38 x39 n21 agp=>sQ1 N r (λx46=>cond ((!(fgt x46 (some 0)))==false) (sQ1 N r (λx47=>ko N x47 (λc44=>cond ((!c44)==false) (sQ1 N z (λx48=>ko N x48 (λc45=>cond (!c45) (cond ((n21 != 0)==true) (sQ0 N (λc51=>k0 c51)) (k0 false)) (Zw N x n p r z n21 adQ ad8 agp n19 n20 x37 x38 x39 k0)))) (cond ((n21 != 0)==true) (sQ0 N (λc52=>k0 c52)) (k0 false))))) (cond ((n21 != 0)==true) (sQ0 N (λc53=>k0 c53)) (k0 false)))) (λn22 n23 x40 x41 x42 n24 y11 y12 y13=>sQ1 N r (λx49=>cond ((!(fgt x49 (some 0)))==false) (sQ1 N r (λx50=>ko N x50 (λc46=>cond ((!c46)==false) (sQ1 N z (λx51=>ko N x51 (λc47=>cond (!c47) (cond ((n24 != 0)==true) (sQ0 N (λc54=>k0 c54)) (k0 false)) (Um N x n p r z n24 adQ ad8 y11 y12 y13 n22 n23 x40 x41 x42 k0)))) (cond ((n24 != 0)==true) (sQ0 N (λc55=>k0 c55)) (k0 false))))) (cond ((n24 != 0)==true) (sQ0 N (λc56=>k0 c56)) (k0 false)))))))
def Zv (N:Nat) (x:LI) (n:Int) (p:LI) (r z e_2:Int) (afL ad7 aeS b8 b9:LF) (u_4 u_5:Int) (ahj ag1 ahk:Fl) (k0:Ky8):Bool:=
 (cond (e_2 != 0) (cond ((e_2==5)==true) (sQ1 N z (λx28=>sQ1 N z (λx29=>sQ1 N r (λx30=>ko N (fdiv (bA x28 x29) x30) (λc36=>cond ((!c36)==true) (sQ0 N (λc37=>k0 c37)) (k0 false)))))) (k0 false)) (sQ2 N aeS afL (λc38=>cond (c38==true) (sQ2 N b8 ad7 (λc39=>cond (c39==true) (sQ1 N r (λx31=>Kc N ag1 x31 (λc40=>cond (c40==true) (sQ0 N (λc41=>k0 c41)) (k0 false)))) (k0 false))) (k0 false))))
def Zu (N:Nat) (x:LI) (n:Int) (p:LI) (r z e_1:Int) (af0 ady b7:LF) (u_2 u_3:Int) (ahh ag0 ahi:Fl) (k0:Ky8):Bool:=
 (cond (e_1 != 0) (cond ((e_1==5)==true) (sQ1 N z (λx24=>sQ1 N z (λx25=>sQ1 N r (λx26=>ko N (fdiv (bA x24 x25) x26) (λc30=>cond ((!c30)==true) (sQ0 N (λc31=>k0 c31)) (k0 false)))))) (k0 false)) (sQ2 N [] af0 (λaiY=>cond (aiY==true) (sQ2 N [] ady (λc33=>cond (c33==true) (sQ1 N r (λx27=>Kc N ag0 x27 (λc34=>cond (c34==true) (sQ0 N (λc35=>k0 c35)) (k0 false)))) (k0 false))) (k0 false))))
def Zt (N:Nat) (x:LI) (n:Int) (p:LI) (r z e:Int) (adx aeg:LF) (u u_1:Int) (k_ aeu ahg:Fl) (k0:Ky8):Bool:=
 (cond (e != 0) (cond ((e==5)==true) (sQ1 N z (λx20=>sQ1 N z (λai9=>sQ1 N r (λx22=>ko N (fdiv (bA x20 ai9) x22) (λc24=>cond ((!c24)==true) (sQ0 N (λc25=>k0 c25)) (k0 false)))))) (k0 false)) (sQ2 N [] adx (λc26=>cond (c26==true) (sQ2 N [] aeg (λc27=>cond (c27==true) (sQ1 N r (λx23=>Kc N aeu x23 (λc28=>cond (c28==true) (sQ0 N (λc29=>k0 c29)) (k0 false)))) (k0 false))) (k0 false))))
def Zs (N:Nat) (x:LI) (n:Int) (p:LI) (r z:Int) (b0 b1:LF) (k0:Ky8):Bool:=
 (gc 8 n n&&sQ1 N r (λxr=>sQ1 N z (λac5=>dz N b0 n n b1 (List.replicate n.toNat (some 0)) xr ac5 (λn7 n8 adv adM adw n9=>sQ1 N r (λafw=>cond ((!(fgt afw (some 0)))==false) (sQ1 N r (λagO=>ko N agO (λc9=>cond ((!c9)==false) (sQ1 N z (λagP=>ko N agP (λc10=>cond (!c10) (cond ((n9 != 0)==true) (sQ0 N (λc15=>k0 c15)) (k0 false)) (Zt N x n p r z n9 b0 b1 n7 n8 adv adM adw k0)))) (cond ((n9 != 0)==true) (sQ0 N (λc16=>k0 c16)) (k0 false))))) (cond ((n9 != 0)==true) (sQ0 N (λc17=>k0 c17)) (k0 false)))) (λn10 n11 afW afn afo n12 ahM=>sQ1 N r (λafx=>cond ((!(fgt afx (some 0)))==false) (sQ1 N r (λagQ=>ko N agQ (λc11=>cond ((!c11)==false) (sQ1 N z (λagR=>ko N agR (λc12=>cond (!c12) (cond ((n12 != 0)==true) (sQ0 N (λc18=>k0 c18)) (k0 false)) (Zu N x n p r z n12 b0 b1 ahM n10 n11 afW afn afo k0)))) (cond ((n12 != 0)==true) (sQ0 N (λc19=>k0 c19)) (k0 false))))) (cond ((n12 != 0)==true) (sQ0 N (λc20=>k0 c20)) (k0 false)))) (λn13 n14 afp ag6 afv n15 ahN ahO ahP=>sQ1 N r (λafy=>cond ((!(fgt afy (some 0)))==false) (sQ1 N r (λx18=>ko N x18 (λc13=>cond ((!c13)==false) (sQ1 N z (λx19=>ko N x19 (λc14=>cond (!c14) (cond ((n15 != 0)==true) (sQ0 N (λc21=>k0 c21)) (k0 false)) (Zv N x n p r z n15 b0 b1 ahN ahO ahP n13 n14 afp ag6 afv k0)))) (cond ((n15 != 0)==true) (sQ0 N (λc22=>k0 c22)) (k0 false))))) (cond ((n15 != 0)==true) (sQ0 N (λahe=>k0 ahe)) (k0 false)))))))
def GQ4 (N:Nat) (x:LI) (n:Int) (p:LI) (r z:Int) (k0:Ky8):Bool:=
 (VA N x n n p (λxsr acM=>sQ N xsr n n acM (λnr=>cond (nr != 0) (sQ0 N (λcr=>k0 cr)) (vv N n (λadI=>rO N n n (λaef=>jR N xsr n n acM n n adI n n aef (λacl acn acC=>cond ((acC != 0)==false) (sQ2 N [] xsr (λacs=>cond ((!acs)==false) (sQ2 N [] acM (λacJ=>cond ((!acJ)==false) (sQ8 N [] (λacT=>cond ((!acT)==false) (sQ8 N [] (λadf=>cond (!adf) (k0 false) (Zs N x n p r z xsr acM k0))) (k0 false))) (k0 false))) (k0 false))) (k0 false)) (λacP n5 n6 afz afA=>cond ((n6 != 0)==false) (sQ2 N afz xsr (λadS=>cond ((!adS)==false) (sQ2 N afA acM (λaea=>cond ((!aea)==false) (sQ8 N afz (λaeb=>cond ((!aeb)==false) (sQ8 N afA (λc8=>cond (!c8) (k0 false) (JQ7 N x n p r z xsr acM k0))) (k0 false))) (k0 false))) (k0 false))) (k0 false))))))))
def sQ4 (N:Nat):LI->Int->LI->Int->Int->(Ky8)->Bool:=GQ4 N
end Go.Proofs.YteifemaagdeomaaGreatDoor
