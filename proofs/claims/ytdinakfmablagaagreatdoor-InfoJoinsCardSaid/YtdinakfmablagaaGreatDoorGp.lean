/- The program's functions and their ties. Conditions: none. -/
import Derived.Test.YtdinakfmablagaaGreatDoorMachT
set_option linter.unusedVariables false
namespace Go.Proofs.YtdinakfmablagaaGreatDoor
open Go Go.Mach
abbrev LI:=List Int
abbrev LF:=List Fl
abbrev Kx0:=Int->Int->Int->Int->Bool->Bool
abbrev Kx1:=Int->Int->Int->LF->LF->Bool
abbrev Kx2:=Int->Int->LF->LF->Int->Bool
abbrev Kx3:=Bool->Int->Int->Int->Bool
abbrev Kx4:=Int->Int->Int->Int->Bool
abbrev Kx5:=Bool->LI->Bool->LI->Bool
abbrev Kx6:=Bool->Int->Int->Bool
abbrev Kx7:=Bool->Nat->Nat->Bool
abbrev Kx8:=Int->Int->Int->Bool
abbrev Kx9:=Int->Bool->LI->Bool
abbrev Ky0:=Bool->LF->LF->Bool
abbrev Ky1:=Bool->Bool->Bool
abbrev Ky2:=Int->Int->Bool
abbrev Ky3:=Bool->LI->Bool
abbrev Ky4:=Bool->LF->Bool
abbrev Ky5:=Fl->Bool->Bool
abbrev Ky6:=Int->LI->Bool
abbrev Ky7:=Nat->LI->Bool
abbrev Ky8:=LI->LI->Bool
abbrev Ky9:=Bool->Bool
abbrev Kz0:=Int->Bool
abbrev Kz1:=Nat->Bool
abbrev Kz2:=Fl->Bool
abbrev Kz3:=LI->Bool
abbrev RT0:RT:=(.ptr (.pair (.pair .bool (.ints .u64)) (.pair .bool (.ints .u64))))
abbrev RY0:=(Bool × LI) × Bool × LI
abbrev RT1:RT:=(.pair (.pair .bool (.ints .u32)) (.pair .bool (.ints .u32)))
abbrev RY1:=(Bool × LI) × Bool × LI
abbrev RT2:RT:=(.ptr (.pair (.pair .bool (.ints .u32)) (.pair .bool (.ints .u32))))
abbrev RY2:=(Bool × LI) × Bool × LI
def av:LI:=[0,1,2,2,3,3,3,3,4,4,4,4,4,4,4,4,5,5,5,5,5,5,5,5,5,5,5,5,5,5,5,5,6,6,6,6,6,6,6,6,6,6,6,6,6,6,6,6,6,6,6,6,6,6,6,6,6,6,6,6,6,6,6,6,7,7,7,7,7,7,7,7,7,7,7,7,7,7,7,7,7,7,7,7,7,7,7,7,7,7,7,7,7,7,7,7,7,7,7,7,7,7,7,7,7,7,7,7,7,7,7,7,7,7,7,7,7,7,7,7,7,7,7,7,7,7,7,7,8,8,8,8,8,8,8,8,8,8,8,8,8,8,8,8,8,8,8,8,8,8,8,8,8,8,8,8,8,8,8,8,8,8,8,8,8,8,8,8,8,8,8,8,8,8,8,8,8,8,8,8,8,8,8,8,8,8,8,8,8,8,8,8,8,8,8,8,8,8,8,8,8,8,8,8,8,8,8,8,8,8,8,8,8,8,8,8,8,8,8,8,8,8,8,8,8,8,8,8,8,8,8,8,8,8,8,8,8,8,8,8,8,8,8,8,8,8,8,8,8,8,8,8,8,8,8,8]
abbrev JF:=Nat->(Kz0)->Bool
def BI (N:Nat):JF:=λn k=>k n
def AR (N:Nat) (k0:Kx8):Bool:=
 (k0 52 2047 1075)
def rP (N:Nat):(Kx8)->Bool:=AR N
def G3 (N:Nat) (U8 Va Vh:Int) (k0:Kz0):Bool:=
 (ai .i64 (Va+1)&&(decide (0<=U8)&&k0 (IntKind.wrap .u64 ((IntKind.wrap .u64 (Va+1))*2 ^ (min U8.toNat 64)))))
def vh (N:Nat):Int->Int->Int->(Kz0)->Bool:=G3 N
def zo (N:Nat) (U8 Va Vh:Int) (k0:Kz0):Bool:=
 (decide (0<=U8)&&k0 (IntKind.wrap .u64 ((IntKind.wrap .u64 Va)*2 ^ (min U8.toNat 64))))
def nl (N:Nat):Int->Int->Int->(Kz0)->Bool:=zo N
def I7 (N:Nat) (b U8 Va Vh:Int) (k0:Ky9):Bool:=
 (vh N U8 Va Vh (λnr=>nl N U8 Va Vh (λUf=>k0 (decide ((aA .andNot .u64 b nr)>Uf)))))
def Ln (N:Nat):Int->Int->Int->Int->(Ky9)->Bool:=aB N (I7 N)
def B3 (N:Nat) (U8 Va Vh:Int) (k0:Kz0):Bool:=
 (decide (0<=U8)&&k0 (IntKind.wrap .u64 ((1:Int)*2 ^ (min U8.toNat 64))))
def kK (N:Nat):Int->Int->Int->(Kz0)->Bool:=B3 N
def uA (N:Nat) (U8 Va Vh:Int) (k0:Kz0):Bool:=
 (nl N U8 Va Vh (λnr=>kK N U8 Va Vh (λUf=>k0 (aA .or .u64 (aA .or .u64 nr (Int.fdiv Uf (2 ^ 1))) (IntKind.wrap .u64 (Int.tdiv U8 52))))))
def vg (N:Nat):Int->Int->Int->(Kz0)->Bool:=aB N (uA N)
def RU (N:Nat) (b U8 Va Vh:Int) (k0:Kz0):Bool:=
 (Ln N b U8 Va Vh (λcr=>cond cr (vg N U8 Va Vh (λnr=>k0 nr)) (k0 b)))
def Lz (N:Nat):Int->Int->Int->Int->(Kz0)->Bool:=RU N
def Pi (N:Nat) (b U8 Va Vh:Int) (k0:Kx6):Bool:=
 (Lz N b U8 Va Vh (λnr=>vh N U8 Va Vh (λUf=>decide (0<=U8)&&(ai .i64 (aA .and .u64 (Int.fdiv nr (2 ^ (min U8.toNat 64))) (IntKind.wrap .u64 Va))&&kK N U8 Va Vh (λUj=>k0 ((aA .and .u64 nr Uf) != 0) (aA .and .u64 (Int.fdiv nr (2 ^ (min U8.toNat 64))) (IntKind.wrap .u64 Va)) (aA .and .u64 nr (IntKind.wrap .u64 (Uj - 1))))))))
def NM (N:Nat):Int->Int->Int->Int->(Kx6)->Bool:=aB N (Pi N)
def Ph (N:Nat) (b U8 Va Vh:Int) (k0:Kz0):Bool:=
 (NM N b U8 Va Vh (λcr nr Uf=>cond ((nr==Va)==true) (cond (Uf != 0) (k0 1) (cond (nr==Va) (k0 2) (cond ((nr==0)==true) (cond (Uf==0) (k0 3) (cond (nr==0) (k0 4) (k0 5))) (cond (nr==0) (k0 4) (k0 5))))) (cond (nr==Va) (k0 2) (cond ((nr==0)==true) (cond (Uf==0) (k0 3) (cond (nr==0) (k0 4) (k0 5))) (cond (nr==0) (k0 4) (k0 5))))))
def NL (N:Nat):Int->Int->Int->Int->(Kz0)->Bool:=aB N (Ph N)
abbrev Oc:=Nat->(Kz0)->Bool
def RE (N x:Nat) (k0:Kz0):Bool:=
 (BI N x (λnr=>rP N (λUf Uj Up=>NL N nr Uf Uj Up (λUA=>k0 UA))))
def Fy (N:Nat):Nat->(Kz0)->Bool:=RE N
abbrev Od:=Nat->Nat->(Ky9)->Bool
def RF (N a b:Nat) (k0:Ky9):Bool:=
 (BI N a (λnr=>rP N (λUf Uj Up=>Lz N nr Uf Uj Up (λUA=>BI N b (λn5=>rP N (λn6 n7 VJ=>Lz N n5 n6 n7 VJ (λVF=>k0 (UA==VF))))))))
def Fz (N:Nat):Nat->Nat->(Ky9)->Bool:=RF N
abbrev Ei:=Int->(Kz2)->Bool
def wl (N:Nat):Ei:=λn k=>k (dD n.toNat)
abbrev Oe:=Nat->(Kz2)->Bool
def RQ (N x:Nat) (k0:Kz2):Bool:=
 (BI N x (λnr=>wl N (aA .andNot .u64 nr 9223372036854775808) (λxr=>k0 xr)))
def FC (N:Nat):Nat->(Kz2)->Bool:=RQ N
def ko (N:Nat) (UO:LI) (X0:Int) (e0:LF->Bool):(Int × LF)->((Int × LF)->Bool)->Bool:=λv_ K=>match v_ with
 | (Xo,x)=>(cond (decide (Xo<X0)) (inR Xo UO.length&&wl N (UO.getD Xo.toNat 0) (λVe=>decide ((List.length (x++[Ve]))*8<=140737488355328)&&(ai .i64 (Xo+1)&&K ((Xo+1),(x++[Ve]))))) (e0 x))
def sA (N:Nat) (l:LI) (k0:LF->Bool):Bool:=
 (am N (ko N l ((l.length:Nat):Int) (λUr=>k0 Ur)) (0,[]))
def mu (N:Nat):LI->(LF->Bool)->Bool:=aB N (sA N)
def RS (N:Nat) (v:LI) (rows cols:Int) (y:LI) (k0:LF->LF->Bool):Bool:=
 (mu N v (λxsr=>mu N y (λU5=>k0 U5 xsr)))
def NK (N:Nat):LI->Int->Int->LI->(LF->LF->Bool)->Bool:=RS N
def pS (N:Nat) (rows cols n:Int) (k0:Kz0):Bool:=
 (cond ((decide (rows<0))==false) (cond ((decide (rows>12))==false) (cond ((decide (cols<0))==false) (cond (decide (cols>12)) (k0 1) (ai .i64 (rows*cols)&&cond (n != (rows*cols)) (k0 3) (k0 0))) (k0 1)) (k0 1)) (k0 1))
def qM (N:Nat):Int->Int->Int->(Kz0)->Bool:=aB N (pS N)
abbrev Eh:=Fl->(Kz0)->Bool
def uf (N:Nat):Eh:=λx k=>match x with | some b=>k b | none=>false
def xm (N:Nat) (x:Fl) (k0:Kz0):Bool:=
 (cond (!feq x x) (k0 9221120237041090561) (uf N x (λnr=>k0 nr)))
def mq (N:Nat):Fl->(Kz0)->Bool:=xm N
def pQ (N:Nat) (x:Fl) (k0:Kx6):Bool:=
 (mq N x (λnr=>ai .i64 (Int.tmod (Int.fdiv nr (2 ^ 52)) 2048)&&k0 ((Int.fdiv nr (2 ^ 63))==1) (Int.tmod (Int.fdiv nr (2 ^ 52)) 2048) (Int.tmod nr 4503599627370496)))
def m_ (N:Nat):Fl->(Kx6)->Bool:=aB N (pQ N)
def Jt (N:Nat) (exp frac most:Int) (k0:Kz0):Bool:=
 (cond ((exp==most)==true) (cond (frac != 0) (k0 1) (cond (exp==most) (k0 2) (cond ((exp==0)==true) (cond (frac==0) (k0 3) (cond (exp==0) (k0 4) (k0 5))) (cond (exp==0) (k0 4) (k0 5))))) (cond (exp==most) (k0 2) (cond ((exp==0)==true) (cond (frac==0) (k0 3) (cond (exp==0) (k0 4) (k0 5))) (cond (exp==0) (k0 4) (k0 5)))))
def OI (N:Nat):Int->Int->Int->(Kz0)->Bool:=aB N (Jt N)
def vu (N:Nat) (x:Fl) (k0:Kz0):Bool:=
 (m_ N x (λcr nr Uf=>OI N nr Uf 2047 (λUj=>k0 Uj)))
def qI (N:Nat):Fl->(Kz0)->Bool:=vu N
def tD (N:Nat) (x:Fl) (k0:Ky9):Bool:=
 (qI N x (λnr=>k0 (decide (nr>2))))
def oX (N:Nat):Fl->(Ky9)->Bool:=tD N
def fo (N:Nat) (t5:LF) (t6:Int) (e0:Ky9) (e1:Bool):(Int)->((Int)->Bool)->Bool:=λv_ K=>match v_ with
 | t7=>(cond (decide (t7<t6)) (inR t7 t5.length&&oX N (t5.getD t7.toNat none) (λcr=>cond (!cr) (e0 false) (ai .i64 (t7+1)&&K (t7+1)))) e1)
def I5 (N:Nat) (l:LF) (k0:Ky9):Bool:=
 (am N (fo N l ((l.length:Nat):Int) (λt2=>k0 t2) (k0 true)) 0)
def GF (N:Nat):LF->(Ky9)->Bool:=aB N (I5 N)
def sC (N:Nat) (UE Uo:Int) (Uw:LF) (k0:Kz0):Bool:=
 (qM N UE Uo ((Uw.length:Nat):Int) (λnr=>cond (nr != 0) (k0 nr) (GF N Uw (λcr=>cond (!cr) (k0 4) (k0 0)))))
def oY (N:Nat):Int->Int->LF->(Kz0)->Bool:=aB N (sC N)
def xn (N:Nat) (UE Uo:Int) (Uw:LF) (k0:Kz0):Bool:=
 (oY N UE Uo Uw (λnr=>k0 nr))
def yO (N:Nat):Int->Int->LF->(Kz0)->Bool:=xn N
def B4 (N:Nat) (UE Uo:Int) (Uw:LF) (i j:Int) (k0:Kz2):Bool:=
 (ai .i64 (i*Uo)&&(ai .i64 ((i*Uo)+j)&&(inR ((i*Uo)+j) Uw.length&&k0 (Uw.getD (Int.toNat ((i*Uo)+j)) none))))
def um (N:Nat):Int->Int->LF->Int->Int->(Kz2)->Bool:=B4 N
def sB (N:Nat) (a b:Fl) (k0:Ky9):Bool:=
 (mq N a (λnr=>mq N b (λUf=>k0 (nr==Uf))))
def tm (N:Nat):Fl->Fl->(Ky9)->Bool:=aB N (sB N)
def fq (N:Nat) (UL W8 W9:Int) (W_:LF) (e0:Kz0) (e1:Bool):(Int)->((Int)->Bool)->Bool:=λv_ K=>match v_ with
 | j=>(cond (decide (j<UL)) (um N W8 W9 W_ UL j (λxr=>um N W8 W9 W_ j UL (λVe=>tm N xr Ve (λcr=>cond (!cr) (e0 91) (ai .i64 (j+1)&&K (j+1)))))) e1)
def fp (N:Nat) (m Vl:Int) (V9:LF) (e0:Kz0) (e1:Bool):(Int)->((Int)->Bool)->Bool:=λv_ K=>match v_ with
 | i=>(cond (decide (i<m)) (am N (fq N i m Vl V9 (λt2=>e0 t2) (ai .i64 (i+1)&&K (i+1))) 0) e1)
def Jc (N:Nat) (UE Uo:Int) (Uw:LF) (k0:Kz0):Bool:=
 (oY N UE Uo Uw (λnr=>cond (nr != 0) (k0 nr) (cond (UE != Uo) (k0 3) (am N (fp N UE Uo Uw (λVM=>k0 VM) (k0 0)) 0))))
def Lp (N:Nat):Int->Int->LF->(Kz0)->Bool:=aB N (Jc N)
def pU (N:Nat) (XF:LF) (VL WU:Int) (W0:LF) (k0:Kz0):Bool:=
 (yO N VL WU W0 (λnr=>cond (nr != 0) (k0 nr) (cond ((VL != WU)==false) (cond (((XF.length:Nat):Int) != VL) (k0 3) (GF N XF (λcr=>cond (!cr) (k0 4) (Lp N VL WU W0 (λUf=>cond (Uf != 0) (k0 150) (k0 0)))))) (k0 3))))
def wr (N:Nat):LF->Int->Int->LF->(Kz0)->Bool:=aB N (pU N)
def jN (N:Nat) (e0:Ky2):(Int × Int)->((Int × Int)->Bool)->Bool:=λv_ K=>match v_ with
 | (Uo,YH)=>(cond ((Int.tmod Uo 2)==0) (ai .i64 (YH+1)&&K ((IntKind.wrap .u64 (Int.tdiv Uo 2)),(YH+1))) (e0 Uo YH))
def q_ (N:Nat) (m e:Int) (k0:Ky2):Bool:=
 (cond (m==0) (k0 0 0) (am N (jN N (λUw YX=>k0 Uw YX)) (m,e)))
def nQ (N:Nat):Int->Int->(Ky2)->Bool:=aB N (q_ N)
def kg (N:Nat) (x:Fl) (neg:Bool) (e f:Int) (k0:Kx3):Bool:=
 (ai .i64 (e - 1074)&&nQ N f (e - 1074) (λUj Up=>k0 neg Uj Up 0))
def pP (N:Nat) (x:Fl) (k0:Kx3):Bool:=
 (m_ N x (λcr nr Uf=>cond (nr==2047) (k0 false 0 0 4) (cond (decide (nr>0)) (ai .i64 (nr - 1)&&kg N x cr (nr - 1) (IntKind.wrap .u64 (Uf+4503599627370496)) k0) (kg N x cr nr Uf k0))))
def qJ (N:Nat):Fl->(Kx3)->Bool:=aB N (pP N)
def tz (N Uo:Nat) (Vl:LI) (e0:Kz1):(Nat)->((Nat)->Bool)->Bool:=λv_ K=>match v_ with
 | Uw=>(cond ((decide (((Uw:Nat):Int)>0))==true) (ai .i64 (((Uw:Nat):Int) - 1)&&(inR (((Uw:Nat):Int) - 1) Uw&&(decide ((Uo+(Int.toNat (((Uw:Nat):Int) - 1)))<Vl.length)&&cond ((Vl.getD (Uo+(Int.toNat (((Uw:Nat):Int) - 1))) 0)==0) (ai .i64 (((Uw:Nat):Int) - 1)&&(decide (0<=(((Uw:Nat):Int) - 1)/\(((Uw:Nat):Int) - 1)<=((Uw:Nat):Int))&&K ((Int.toNat (((Uw:Nat):Int) - 1)) - 0))) (e0 Uw)))) (e0 Uw))
def O1 (N:Nat) (b:LI) (k0:Kz1):Bool:=
 (am N (tz N 0 b (λV9=>k0 V9)) b.length)
def nk (N:Nat):LI->(Kz1)->Bool:=aB N (O1 N)
def Jo (N:Nat) (n:Int) (k0:Kz3):Bool:=
 (nk N [(IntKind.wrap .u32 n),(IntKind.wrap .u32 (Int.fdiv n (2 ^ 32)))] (λmr=>decide ((0+mr)<=(List.length [(IntKind.wrap .u32 n),(IntKind.wrap .u32 (Int.fdiv n (2 ^ 32)))]))&&k0 (List.take mr (List.drop 0 [(IntKind.wrap .u32 n),(IntKind.wrap .u32 (Int.fdiv n (2 ^ 32)))]))))
def AH (N:Nat):Int->(Kz3)->Bool:=aB N (Jo N)
def fk (N:Nat) (e0:Kz3):(LI)->((LI)->Bool)->Bool:=λv_ K=>match v_ with
 | Uo=>(cond ((decide (((Uo.length:Nat):Int)>0))==true) (ai .i64 (((Uo.length:Nat):Int) - 1)&&(inR (((Uo.length:Nat):Int) - 1) Uo.length&&cond ((Uo.getD (Int.toNat (((Uo.length:Nat):Int) - 1)) 0)==0) (ai .i64 (((Uo.length:Nat):Int) - 1)&&(decide (0<=(((Uo.length:Nat):Int) - 1)/\(((Uo.length:Nat):Int) - 1)<=((Uo.length:Nat):Int))&&K (List.drop 0 (List.take (Int.toNat (((Uo.length:Nat):Int) - 1)) Uo)))) (e0 Uo))) (e0 Uo))
def uB (N:Nat) (m:LI) (k0:Kz3):Bool:=
 (am N (fk N (λUw=>k0 Uw)) m)
def kc (N:Nat):LI->(Kz3)->Bool:=aB N (uB N)
def N2 (N:Nat) (neg:Bool) (m:LI) (b:Bool) (k0:Ky3):Bool:=
 (kc N m (λnsr=>cond (neg==true) (k0 (decide (((nsr.length:Nat):Int)>0)) nsr) (k0 false nsr)))
def ug (N:Nat):Bool->LI->Bool->(Ky3)->Bool:=N2 N
def Pk (N:Nat) (n:Int) (b:Bool) (k0:Ky3):Bool:=
 (AH N n (λnsr=>ug N false nsr b (λcr Uc=>k0 cr Uc)))
def NN (N:Nat):Int->Bool->(Ky3)->Bool:=aB N (Pk N)
def pV (N:Nat) (neg b:Bool) (Ub Ud:LI) (k0:Kx7):Bool:=
 (nk N Ud (λmr=>cond (neg==true) (k0 (decide (((mr:Nat):Int)>0)) 0 mr) (k0 false 0 mr)))
def qO (N:Nat):Bool->Bool->LI->LI->(Kx7)->Bool:=pV N
def Jm (N:Nat) (b:Bool) (Ub:LI) (k0:Ky3):Bool:=
 (decide ((List.length ([]++Ub))*4<=140737488355328)&&qO N (!b) b Ub ([]++Ub) (λcr mr UI=>decide ((mr+UI)<=(List.length ([]++Ub)))&&k0 cr (List.take UI (List.drop mr ([]++Ub)))))
def Lv (N:Nat):Bool->LI->(Ky3)->Bool:=aB N (Jm N)
def IZ (N:Nat) (x:Fl) (k0:Kx9):Bool:=
 (qJ N x (λcr nr Uf Uj=>NN N nr false (λUi nsr=>cond cr (Lv N Ui nsr (λUs Uc=>k0 Uf Us Uc)) (k0 Uf Ui nsr))))
def e_ (N:Nat):Fl->(Kx9)->Bool:=aB N (IZ N)
def dU (N:Nat) (Uo:LI) (w s:Int) (e0:Kz3):(Int × LI)->((Int × LI)->Bool)->Bool:=λv_ K=>match v_ with
 | (i,out)=>(cond (decide (i<((Uo.length:Nat):Int))) (inR i Uo.length&&(decide (0<=s)&&(ai .i64 (w+i)&&(inR (w+i) out.length&&(decide ((Int.toNat (w+i))<out.length)&&(inR (w+i) out.length&&(decide ((Int.toNat (w+i))<out.length)&&(ai .i64 (w+i)&&(ai .i64 ((w+i)+1)&&(inR ((w+i)+1) (List.length (out.set (Int.toNat (w+i)) (aA .or .u32 (out.getD (Int.toNat (w+i)) 0) (IntKind.wrap .u32 (IntKind.wrap .u64 ((IntKind.wrap .u64 (Uo.getD i.toNat 0))*2 ^ (min s.toNat 64)))))))&&(decide ((Int.toNat ((w+i)+1))<(List.length (out.set (Int.toNat (w+i)) (aA .or .u32 (out.getD (Int.toNat (w+i)) 0) (IntKind.wrap .u32 (IntKind.wrap .u64 ((IntKind.wrap .u64 (Uo.getD i.toNat 0))*2 ^ (min s.toNat 64))))))))&&(ai .i64 (i+1)&&K ((i+1),(List.set (out.set (Int.toNat (w+i)) (aA .or .u32 (out.getD (Int.toNat (w+i)) 0) (IntKind.wrap .u32 (IntKind.wrap .u64 ((IntKind.wrap .u64 (Uo.getD i.toNat 0))*2 ^ (min s.toNat 64)))))) (Int.toNat ((w+i)+1)) (IntKind.wrap .u32 (Int.fdiv (IntKind.wrap .u64 ((IntKind.wrap .u64 (Uo.getD i.toNat 0))*2 ^ (min s.toNat 64))) (2 ^ 32))))))))))))))))) (e0 out))
def sw (N:Nat) (m:LI) (n:Int) (k0:Kz3):Bool:=
 (cond (((m.length:Nat):Int)==0) (k0 []) (ai .i64 (IntKind.wrap .u64 (Int.tdiv n 32))&&(ai .i64 ((IntKind.wrap .u64 (Int.tdiv n 32))+((m.length:Nat):Int))&&(ai .i64 (((IntKind.wrap .u64 (Int.tdiv n 32))+((m.length:Nat):Int))+1)&&(g_ 4 (((IntKind.wrap .u64 (Int.tdiv n 32))+((m.length:Nat):Int))+1) (((IntKind.wrap .u64 (Int.tdiv n 32))+((m.length:Nat):Int))+1)&&am N (dU N m (IntKind.wrap .u64 (Int.tdiv n 32)) (Int.tmod n 32) (λUu=>nk N Uu (λmr=>decide ((0+mr)<=Uu.length)&&k0 (List.take mr (List.drop 0 Uu))))) (0,(List.replicate (Int.toNat (((IntKind.wrap .u64 (Int.tdiv n 32))+((m.length:Nat):Int))+1)) (0:Int))))))))
def ti (N:Nat):LI->Int->(Kz3)->Bool:=aB N (sw N)
def I6 (N:Nat) (n:Int) (b Ub:Bool) (Ud:LI) (k0:Ky3):Bool:=
 (ti N Ud n (λnsr=>ug N Ub nsr b (λcr Uc=>k0 cr Uc)))
def GG (N:Nat):Int->Bool->Bool->LI->(Ky3)->Bool:=aB N (I6 N)
def RG (N:Nat) (x e:Int) (b:Bool) (Ub:LI) (k0:Bool) (k1:Ky3):Bool:=
 (cond (decide (e>=x)) k0 (ai .i64 (x - e)&&GG N (IntKind.wrap .u64 (x - e)) false b Ub (λcr nsr=>k1 cr nsr)))
def FB (N:Nat):Int->Int->Bool->LI->(Bool)->(Ky3)->Bool:=RG N
def FT (N:Nat) (k0:Kz3):Bool:=
 (k0 [1])
def pA (N:Nat):(Kz3)->Bool:=FT N
def Jf (N:Nat) (neg:Bool) (m:LI) (b Ub:Bool) (k0:Bool->LI->LI->Bool):Bool:=
 (kc N m (λnsr=>cond (neg==true) (k0 (decide (((nsr.length:Nat):Int)>0)) nsr []) (k0 false nsr [])))
def DJ (N:Nat):Bool->LI->Bool->Bool->(Bool->LI->LI->Bool)->Bool:=Jf N
def Jv (N:Nat) (neg:Bool) (m:LI) (b:Bool) (Ub:LI) (Ud:Bool) (Um:LI) (k0:Ky3):Bool:=
 (kc N m (λnsr=>cond (neg==true) (k0 (decide (((nsr.length:Nat):Int)>0)) nsr) (k0 false nsr)))
def DN (N:Nat):Bool->LI->Bool->LI->Bool->LI->(Ky3)->Bool:=Jv N
def Mo (N:Nat) (x:Int) (k0:Kz0):Bool:=
 (cond (x==0) (k0 32) (inR (Int.fdiv (IntKind.wrap .u32 ((aA .and .u32 x (IntKind.wrap .u32 (0 - x)))*125613361)) (2 ^ 27)) 32&&(ai .i64 (wz.getD (Int.toNat (Int.fdiv (IntKind.wrap .u32 ((aA .and .u32 x (IntKind.wrap .u32 (0 - x)))*125613361)) (2 ^ 27))) 0)&&k0 (wz.getD (Int.toNat (Int.fdiv (IntKind.wrap .u32 ((aA .and .u32 x (IntKind.wrap .u32 (0 - x)))*125613361)) (2 ^ 27))) 0))))
def Q6 (N:Nat):Int->(Kz0)->Bool:=aB N (Mo N)
def GR (N:Nat) (z:Bool) (UY:LI) (e0:Kz0) (e1:Bool):(Int)->((Int)->Bool)->Bool:=λv_ K=>match v_ with
 | i=>(cond (decide (i<((UY.length:Nat):Int))) (inR i UY.length&&cond ((UY.getD i.toNat 0) != 0) (ai .i64 (32*i)&&(inR i UY.length&&Q6 N (UY.getD i.toNat 0) (λnr=>ai .i64 ((32*i)+nr)&&e0 (IntKind.wrap .u64 ((32*i)+nr))))) (ai .i64 (i+1)&&K (i+1))) e1)
def GQ5 (N:Nat) (b:Bool) (Ub:LI) (k0:Kz0):Bool:=
 (am N (GR N b Ub (λt2=>k0 t2) (k0 0)) 0)
def sQ5 (N:Nat):Bool->LI->(Kz0)->Bool:=aB N (GQ5 N)
def jJ (N:Nat) (Uo:LI) (w s:Int) (e0:Kz3):(Int × LI)->((Int × LI)->Bool)->Bool:=λv_ K=>match v_ with
 | (i,out)=>(cond (decide (i<((out.length:Nat):Int))) (ai .i64 (w+i)&&(inR (w+i) Uo.length&&(ai .i64 (w+i)&&(ai .i64 ((w+i)+1)&&cond (decide (((w+i)+1)<((Uo.length:Nat):Int))) (ai .i64 (w+i)&&(ai .i64 ((w+i)+1)&&(inR ((w+i)+1) Uo.length&&(decide (0<=s)&&(inR i out.length&&(decide (i.toNat<out.length)&&(ai .i64 (i+1)&&K ((i+1),(out.set i.toNat (IntKind.wrap .u32 (Int.fdiv (aA .or .u64 (IntKind.wrap .u64 (Uo.getD (Int.toNat (w+i)) 0)) (IntKind.wrap .u64 ((IntKind.wrap .u64 (Uo.getD (Int.toNat ((w+i)+1)) 0))*2 ^ 32))) (2 ^ (min s.toNat 64))))))))))))) (decide (0<=s)&&(inR i out.length&&(decide (i.toNat<out.length)&&(ai .i64 (i+1)&&K ((i+1),(out.set i.toNat (IntKind.wrap .u32 (Int.fdiv (IntKind.wrap .u64 (Uo.getD (Int.toNat (w+i)) 0)) (2 ^ (min s.toNat 64)))))))))))))) (e0 out))
def Pq (N:Nat) (m:LI) (n:Int) (k0:Kz3):Bool:=
 (ai .i64 (IntKind.wrap .u64 (Int.tdiv n 32))&&cond (decide ((IntKind.wrap .u64 (Int.tdiv n 32))>=((m.length:Nat):Int))) (k0 []) (ai .i64 (((m.length:Nat):Int) - (IntKind.wrap .u64 (Int.tdiv n 32)))&&(g_ 4 (((m.length:Nat):Int) - (IntKind.wrap .u64 (Int.tdiv n 32))) (((m.length:Nat):Int) - (IntKind.wrap .u64 (Int.tdiv n 32)))&&am N (jJ N m (IntKind.wrap .u64 (Int.tdiv n 32)) (Int.tmod n 32) (λUu=>nk N Uu (λmr=>decide ((0+mr)<=Uu.length)&&k0 (List.take mr (List.drop 0 Uu))))) (0,(List.replicate (Int.toNat (((m.length:Nat):Int) - (IntKind.wrap .u64 (Int.tdiv n 32)))) (0:Int))))))
def zI (N:Nat):LI->Int->(Kz3)->Bool:=aB N (Pq N)
def Ja (N:Nat) (x:Int) (k0:Kz0):Bool:=
 (cond (decide (x>=65536)) (cond (decide ((Int.fdiv x (2 ^ 16))>=256)) (inR (IntKind.wrap .u8 (Int.fdiv (Int.fdiv x (2 ^ 16)) (2 ^ 8))) 256&&(ai .i64 (av.getD (Int.toNat (IntKind.wrap .u8 (Int.fdiv (Int.fdiv x (2 ^ 16)) (2 ^ 8)))) 0)&&(ai .i64 (24+(av.getD (Int.toNat (IntKind.wrap .u8 (Int.fdiv (Int.fdiv x (2 ^ 16)) (2 ^ 8)))) 0))&&k0 (24+(av.getD (Int.toNat (IntKind.wrap .u8 (Int.fdiv (Int.fdiv x (2 ^ 16)) (2 ^ 8)))) 0))))) (inR (IntKind.wrap .u8 (Int.fdiv x (2 ^ 16))) 256&&(ai .i64 (av.getD (Int.toNat (IntKind.wrap .u8 (Int.fdiv x (2 ^ 16)))) 0)&&(ai .i64 (16+(av.getD (Int.toNat (IntKind.wrap .u8 (Int.fdiv x (2 ^ 16)))) 0))&&k0 (16+(av.getD (Int.toNat (IntKind.wrap .u8 (Int.fdiv x (2 ^ 16)))) 0)))))) (cond (decide (x>=256)) (inR (IntKind.wrap .u8 (Int.fdiv x (2 ^ 8))) 256&&(ai .i64 (av.getD (Int.toNat (IntKind.wrap .u8 (Int.fdiv x (2 ^ 8)))) 0)&&(ai .i64 (8+(av.getD (Int.toNat (IntKind.wrap .u8 (Int.fdiv x (2 ^ 8)))) 0))&&k0 (8+(av.getD (Int.toNat (IntKind.wrap .u8 (Int.fdiv x (2 ^ 8)))) 0))))) (inR (IntKind.wrap .u8 x) 256&&(ai .i64 (av.getD (Int.toNat (IntKind.wrap .u8 x)) 0)&&(ai .i64 (0+(av.getD (Int.toNat (IntKind.wrap .u8 x)) 0))&&k0 (0+(av.getD (Int.toNat (IntKind.wrap .u8 x)) 0)))))))
def GI (N:Nat):Int->(Kz0)->Bool:=aB N (Ja N)
def Po (N:Nat) (b:Bool) (Ub:LI) (k0:Kz0):Bool:=
 (cond (((Ub.length:Nat):Int)==0) (k0 0) (ai .i64 (((Ub.length:Nat):Int) - 1)&&(ai .i64 (32*(((Ub.length:Nat):Int) - 1))&&(ai .i64 (((Ub.length:Nat):Int) - 1)&&(inR (((Ub.length:Nat):Int) - 1) Ub.length&&GI N (Ub.getD (Int.toNat (((Ub.length:Nat):Int) - 1)) 0) (λnr=>ai .i64 ((32*(((Ub.length:Nat):Int) - 1))+nr)&&k0 ((32*(((Ub.length:Nat):Int) - 1))+nr)))))))
def Iy (N:Nat):Bool->LI->(Kz0)->Bool:=aB N (Po N)
def tu (N:Nat) (Ut Ub:LI) (e0:Kz0) (e1:Bool):(Int)->((Int)->Bool)->Bool:=λv_ K=>match v_ with
 | i=>(cond (decide (i>=0)) (inR i Ut.length&&(inR i Ub.length&&cond (decide ((Ut.getD i.toNat 0)<(Ub.getD i.toNat 0))) (e0 (-1)) (inR i Ut.length&&(inR i Ub.length&&cond (decide ((Ut.getD i.toNat 0)>(Ub.getD i.toNat 0))) (e0 1) (ai .i64 (i - 1)&&K (i - 1)))))) e1)
def PB (N:Nat) (a b:LI) (k0:Kz0):Bool:=
 (cond (((a.length:Nat):Int) != ((b.length:Nat):Int)) (cond (decide (((a.length:Nat):Int)<((b.length:Nat):Int))) (k0 (-1)) (k0 1)) (ai .i64 (((a.length:Nat):Int) - 1)&&am N (tu N a b (λt4=>k0 t4) (k0 0)) (((a.length:Nat):Int) - 1)))
def DP (N:Nat):LI->LI->(Kz0)->Bool:=aB N (PB N)
def kn (N:Nat) (x:LI) (e0:Kz0):(Int × Int)->((Int × Int)->Bool)->Bool:=λv_ K=>match v_ with
 | (u,i)=>(cond (decide (i>=0)) (inR i x.length&&(ai .i64 (i - 1)&&K ((aA .or .u64 (IntKind.wrap .u64 (u*2 ^ 32)) (IntKind.wrap .u64 (x.getD i.toNat 0))),(i - 1)))) (e0 u))
def sv (N:Nat) (m:LI) (YC:Int) (k0:Kz0):Bool:=
 (zI N m (IntKind.wrap .u64 YC) (λnsr=>ai .i64 (((nsr.length:Nat):Int) - 1)&&am N (kn N nsr (λUS=>k0 US)) (0,(((nsr.length:Nat):Int) - 1))))
def oW (N:Nat):LI->Int->(Kz0)->Bool:=aB N (sv N)
def nU (N:Nat) (e0:Kx4):(Int × Int × Int × Int × Int × Int)->((Int × Int × Int × Int × Int × Int)->Bool)->Bool:=λv_ K=>match v_ with
 | (a,b,c,d,p,q)=>(ai .i64 (q+c)&&cond (((q+c) != 0)==true) (ai .i64 (q+d)&&cond ((q+d) != 0) (ai .i64 (p+a)&&(ai .i64 (q+c)&&((!decide ((q+c)=0))&&(ai .i64 (Int.tdiv (p+a) (q+c))&&(ai .i64 (p+b)&&(ai .i64 (q+d)&&((!decide ((q+d)=0))&&(ai .i64 (Int.tdiv (p+b) (q+d))&&cond ((Int.tdiv (p+a) (q+c)) != (Int.tdiv (p+b) (q+d))) (e0 a b c d) (ai .i64 ((Int.tdiv (p+a) (q+c))*c)&&(ai .i64 (a - ((Int.tdiv (p+a) (q+c))*c))&&(ai .i64 ((Int.tdiv (p+a) (q+c))*d)&&(ai .i64 (b - ((Int.tdiv (p+a) (q+c))*d))&&cond ((decide ((a - ((Int.tdiv (p+a) (q+c))*c))>1073741824))==false) (cond ((decide ((a - ((Int.tdiv (p+a) (q+c))*c))<(-1073741824)))==false) (cond ((decide ((b - ((Int.tdiv (p+a) (q+c))*d))>1073741824))==false) (cond (decide ((b - ((Int.tdiv (p+a) (q+c))*d))<(-1073741824))) (e0 a b c d) (ai .i64 ((Int.tdiv (p+a) (q+c))*q)&&(ai .i64 (p - ((Int.tdiv (p+a) (q+c))*q))&&K (c,d,(a - ((Int.tdiv (p+a) (q+c))*c)),(b - ((Int.tdiv (p+a) (q+c))*d)),q,(p - ((Int.tdiv (p+a) (q+c))*q)))))) (e0 a b c d)) (e0 a b c d)) (e0 a b c d))))))))))))) (e0 a b c d)) (e0 a b c d))
def pO (N:Nat) (x y:Int) (k0:Kx4):Bool:=
 (ai .i64 x&&(ai .i64 y&&am N (nU N (λUt Ub X5 UK=>k0 Ut Ub X5 UK)) (1,0,0,1,x,y)))
def qH (N:Nat):Int->Int->(Kx4)->Bool:=aB N (pO N)
def jK (N:Nat) (Uo:LI) (UK:Int) (e0:Ky6):(Int × Int × LI)->((Int × Int × LI)->Bool)->Bool:=λv_ K=>match v_ with
 | (r,i,out)=>(cond (decide (i>=0)) (inR i Uo.length&&((!decide ((IntKind.wrap .u64 UK)=0))&&(inR i out.length&&(decide (i.toNat<out.length)&&((!decide ((IntKind.wrap .u64 UK)=0))&&(ai .i64 (i - 1)&&K ((Int.tmod (aA .or .u64 (IntKind.wrap .u64 (r*2 ^ 32)) (IntKind.wrap .u64 (Uo.getD i.toNat 0))) (IntKind.wrap .u64 UK)),(i - 1),(out.set i.toNat (IntKind.wrap .u32 (IntKind.wrap .u64 (Int.tdiv (aA .or .u64 (IntKind.wrap .u64 (r*2 ^ 32)) (IntKind.wrap .u64 (Uo.getD i.toNat 0))) (IntKind.wrap .u64 UK)))))))))))) (e0 r out))
def pN (N:Nat) (m:LI) (d:Int) (k0:LI->Int->Bool):Bool:=
 (g_ 4 ((m.length:Nat):Int) ((m.length:Nat):Int)&&(ai .i64 (((m.length:Nat):Int) - 1)&&am N (jK N m d (λXe Uu=>nk N Uu (λmr=>decide ((0+mr)<=Uu.length)&&k0 (List.take mr (List.drop 0 Uu)) (IntKind.wrap .u32 Xe)))) (0,(((m.length:Nat):Int) - 1),(List.replicate (Int.toNat ((m.length:Nat):Int)) (0:Int)))))
def m9 (N:Nat):LI->Int->(LI->Int->Bool)->Bool:=aB N (pN N)
def RP (N:Nat) (x:Int) (k0:Kz0):Bool:=
 (GI N x (λnr=>ai .i64 (32 - nr)&&k0 (32 - nr)))
def Re (N:Nat):Int->(Kz0)->Bool:=RP N
def my (N:Nat) (Uo:LI) (w s:Int) (e0:Kz3):(Int × LI)->((Int × LI)->Bool)->Bool:=λv_ K=>match v_ with
 | (i,out)=>(cond (decide (i<((Uo.length:Nat):Int))) (inR i Uo.length&&(decide (0<=s)&&(ai .i64 (w+i)&&(inR (w+i) out.length&&(decide ((Int.toNat (w+i))<out.length)&&(inR (w+i) out.length&&(decide ((Int.toNat (w+i))<out.length)&&(ai .i64 (w+i)&&(ai .i64 ((w+i)+1)&&(inR ((w+i)+1) (List.length (out.set (Int.toNat (w+i)) (aA .or .u32 (out.getD (Int.toNat (w+i)) 0) (IntKind.wrap .u32 (IntKind.wrap .u64 ((IntKind.wrap .u64 (Uo.getD i.toNat 0))*2 ^ (min s.toNat 64)))))))&&(decide ((Int.toNat ((w+i)+1))<(List.length (out.set (Int.toNat (w+i)) (aA .or .u32 (out.getD (Int.toNat (w+i)) 0) (IntKind.wrap .u32 (IntKind.wrap .u64 ((IntKind.wrap .u64 (Uo.getD i.toNat 0))*2 ^ (min s.toNat 64))))))))&&(ai .i64 (i+1)&&K ((i+1),(List.set (out.set (Int.toNat (w+i)) (aA .or .u32 (out.getD (Int.toNat (w+i)) 0) (IntKind.wrap .u32 (IntKind.wrap .u64 ((IntKind.wrap .u64 (Uo.getD i.toNat 0))*2 ^ (min s.toNat 64)))))) (Int.toNat ((w+i)+1)) (IntKind.wrap .u32 (Int.fdiv (IntKind.wrap .u64 ((IntKind.wrap .u64 (Uo.getD i.toNat 0))*2 ^ (min s.toNat 64))) (2 ^ 32))))))))))))))))) (e0 out))
def IW (N:Nat) (m:LI) (n:Int) (k0:Bool) (k1:Ky7):Bool:=
 (cond (((m.length:Nat):Int)==0) k0 (ai .i64 (IntKind.wrap .u64 (Int.tdiv n 32))&&(ai .i64 ((IntKind.wrap .u64 (Int.tdiv n 32))+((m.length:Nat):Int))&&(ai .i64 (((IntKind.wrap .u64 (Int.tdiv n 32))+((m.length:Nat):Int))+1)&&(g_ 4 (((IntKind.wrap .u64 (Int.tdiv n 32))+((m.length:Nat):Int))+1) (((IntKind.wrap .u64 (Int.tdiv n 32))+((m.length:Nat):Int))+1)&&am N (my N m (IntKind.wrap .u64 (Int.tdiv n 32)) (Int.tmod n 32) (λUu=>nk N Uu (λmr=>k1 mr Uu))) (0,(List.replicate (Int.toNat (((IntKind.wrap .u64 (Int.tdiv n 32))+((m.length:Nat):Int))+1)) (0:Int))))))))
def DE (N:Nat):LI->Int->(Bool)->(Ky7)->Bool:=aB N (IW N)
def gj (N u Vi d VD:Nat) (UR U6:Int) (VU:LI) (e0:Int->Int->LI->Bool):(Int × Int × Int × LI)->((Int × Int × Int × LI)->Bool)->Bool:=λv_ K=>match v_ with
 | (carry,borrow,i,U9)=>(cond (decide (i<((VD:Nat):Int))) (inR i VD&&(decide ((d+i.toNat)<VU.length)&&(ai .i64 (UR+i)&&(inR (UR+i) Vi&&(decide ((u+(Int.toNat (UR+i)))<U9.length)&&cond (decide ((IntKind.wrap .u64 (U9.getD (u+(Int.toNat (UR+i))) 0))<(IntKind.wrap .u64 ((aA .and .u64 (IntKind.wrap .u64 ((IntKind.wrap .u64 (U6*(IntKind.wrap .u64 (VU.getD (d+i.toNat) 0))))+carry)) 4294967295)+borrow)))) (ai .i64 (UR+i)&&(inR (UR+i) Vi&&(decide ((u+(Int.toNat (UR+i)))<U9.length)&&(ai .i64 (i+1)&&K ((Int.fdiv (IntKind.wrap .u64 ((IntKind.wrap .u64 (U6*(IntKind.wrap .u64 (VU.getD (d+i.toNat) 0))))+carry)) (2 ^ 32)),1,(i+1),(U9.set (u+(Int.toNat (UR+i))) (IntKind.wrap .u32 (IntKind.wrap .u64 ((IntKind.wrap .u64 ((IntKind.wrap .u64 (U9.getD (u+(Int.toNat (UR+i))) 0))+4294967296)) - (IntKind.wrap .u64 ((aA .and .u64 (IntKind.wrap .u64 ((IntKind.wrap .u64 (U6*(IntKind.wrap .u64 (VU.getD (d+i.toNat) 0))))+carry)) 4294967295)+borrow))))))))))) (ai .i64 (UR+i)&&(inR (UR+i) Vi&&(decide ((u+(Int.toNat (UR+i)))<U9.length)&&(ai .i64 (i+1)&&K ((Int.fdiv (IntKind.wrap .u64 ((IntKind.wrap .u64 (U6*(IntKind.wrap .u64 (VU.getD (d+i.toNat) 0))))+carry)) (2 ^ 32)),0,(i+1),(U9.set (u+(Int.toNat (UR+i))) (IntKind.wrap .u32 (IntKind.wrap .u64 ((IntKind.wrap .u64 (U9.getD (u+(Int.toNat (UR+i))) 0)) - (IntKind.wrap .u64 ((aA .and .u64 (IntKind.wrap .u64 ((IntKind.wrap .u64 (U6*(IntKind.wrap .u64 (VU.getD (d+i.toNat) 0))))+carry)) 4294967295)+borrow)))))))))))))))) (e0 carry borrow U9))
def Jk (N UP US XR UK:Nat) (j g:Int) (b Ub:LI) (k0:Ky3):Bool:=
 (am N (gj N UP US XR UK j g Ub (λUv Vd VG=>ai .i64 (j+((UK:Nat):Int))&&(inR (j+((UK:Nat):Int)) US&&(decide ((UP+(Int.toNat (j+((UK:Nat):Int))))<VG.length)&&(ai .i64 (j+((UK:Nat):Int))&&(inR (j+((UK:Nat):Int)) US&&(decide ((UP+(Int.toNat (j+((UK:Nat):Int))))<VG.length)&&k0 (decide ((IntKind.wrap .u64 (VG.getD (UP+(Int.toNat (j+((UK:Nat):Int)))) 0))<(IntKind.wrap .u64 (Uv+Vd)))) (VG.set (UP+(Int.toNat (j+((UK:Nat):Int)))) (IntKind.wrap .u32 (IntKind.wrap .u64 ((IntKind.wrap .u64 (VG.getD (UP+(Int.toNat (j+((UK:Nat):Int)))) 0)) - (IntKind.wrap .u64 (Uv+Vd))))))))))))) (0,0,0,b))
def Lt (N:Nat):Nat->Nat->Nat->Nat->Int->Int->LI->LI->(Ky3)->Bool:=aB N (Jk N)
def gk (N u Vi d VD:Nat) (UR:Int) (VU:LI) (e0:Ky6):(Int × Int × LI)->((Int × Int × LI)->Bool)->Bool:=λv_ K=>match v_ with
 | (carry,i,U9)=>(cond (decide (i<((VD:Nat):Int))) (ai .i64 (UR+i)&&(inR (UR+i) Vi&&(decide ((u+(Int.toNat (UR+i)))<U9.length)&&(inR i VD&&(decide ((d+i.toNat)<VU.length)&&(ai .i64 (UR+i)&&(inR (UR+i) Vi&&(decide ((u+(Int.toNat (UR+i)))<U9.length)&&(ai .i64 (i+1)&&K ((Int.fdiv (IntKind.wrap .u64 ((IntKind.wrap .u64 ((IntKind.wrap .u64 (U9.getD (u+(Int.toNat (UR+i))) 0))+(IntKind.wrap .u64 (VU.getD (d+i.toNat) 0))))+carry)) (2 ^ 32)),(i+1),(U9.set (u+(Int.toNat (UR+i))) (IntKind.wrap .u32 (IntKind.wrap .u64 ((IntKind.wrap .u64 ((IntKind.wrap .u64 (U9.getD (u+(Int.toNat (UR+i))) 0))+(IntKind.wrap .u64 (VU.getD (d+i.toNat) 0))))+carry)))))))))))))) (e0 carry U9))
def Jl (N UP US XR UK:Nat) (j:Int) (b Ub:LI) (k0:Kz3):Bool:=
 (am N (gk N UP US XR UK j Ub (λUv VG=>ai .i64 (j+((UK:Nat):Int))&&(inR (j+((UK:Nat):Int)) US&&(decide ((UP+(Int.toNat (j+((UK:Nat):Int))))<VG.length)&&(inR (j+((UK:Nat):Int)) US&&(decide ((UP+(Int.toNat (j+((UK:Nat):Int))))<VG.length)&&k0 (VG.set (UP+(Int.toNat (j+((UK:Nat):Int)))) (IntKind.wrap .u32 ((VG.getD (UP+(Int.toNat (j+((UK:Nat):Int)))) 0)+(IntKind.wrap .u32 Uv)))))))))) (0,0,b))
def Lu (N:Nat):Nat->Nat->Nat->Nat->Int->LI->LI->(Kz3)->Bool:=aB N (Jl N)
def tx (N m:Nat) (Vl:LI) (e0:Kz1):(Nat)->((Nat)->Bool)->Bool:=λv_ K=>match v_ with
 | Uw=>(cond ((decide (((Uw:Nat):Int)>0))==true) (ai .i64 (((Uw:Nat):Int) - 1)&&(inR (((Uw:Nat):Int) - 1) Uw&&(decide ((m+(Int.toNat (((Uw:Nat):Int) - 1)))<Vl.length)&&cond ((Vl.getD (m+(Int.toNat (((Uw:Nat):Int) - 1))) 0)==0) (ai .i64 (((Uw:Nat):Int) - 1)&&(decide (0<=(((Uw:Nat):Int) - 1)/\(((Uw:Nat):Int) - 1)<=((Uw:Nat):Int))&&K ((Int.toNat (((Uw:Nat):Int) - 1)) - 0))) (e0 Uw)))) (e0 Uw))
def pL (N UE Uo:Nat) (b:LI) (k0:Kz1):Bool:=
 (am N (tx N UE b (λV9=>k0 V9)) Uo)
def qG (N:Nat):Nat->Nat->LI->(Kz1)->Bool:=aB N (pL N)
def ia (N m Uw:Nat) (w s:Int) (Vl:LI) (e0:Kz3):(Int × LI)->((Int × LI)->Bool)->Bool:=λv_ K=>match v_ with
 | (i,out)=>(cond (decide (i<((out.length:Nat):Int))) (ai .i64 (w+i)&&(inR (w+i) Uw&&(decide ((m+(Int.toNat (w+i)))<Vl.length)&&(ai .i64 (w+i)&&(ai .i64 ((w+i)+1)&&cond (decide (((w+i)+1)<((Uw:Nat):Int))) (ai .i64 (w+i)&&(ai .i64 ((w+i)+1)&&(inR ((w+i)+1) Uw&&(decide ((m+(Int.toNat ((w+i)+1)))<Vl.length)&&(decide (0<=s)&&(inR i out.length&&(decide (i.toNat<out.length)&&(ai .i64 (i+1)&&K ((i+1),(out.set i.toNat (IntKind.wrap .u32 (Int.fdiv (aA .or .u64 (IntKind.wrap .u64 (Vl.getD (m+(Int.toNat (w+i))) 0)) (IntKind.wrap .u64 ((IntKind.wrap .u64 (Vl.getD (m+(Int.toNat ((w+i)+1))) 0))*2 ^ 32))) (2 ^ (min s.toNat 64)))))))))))))) (decide (0<=s)&&(inR i out.length&&(decide (i.toNat<out.length)&&(ai .i64 (i+1)&&K ((i+1),(out.set i.toNat (IntKind.wrap .u32 (Int.fdiv (IntKind.wrap .u64 (Vl.getD (m+(Int.toNat (w+i))) 0)) (2 ^ (min s.toNat 64))))))))))))))) (e0 out))
def Jq (N UE Uo:Nat) (n:Int) (b:LI) (k0:Kz3):Bool:=
 (ai .i64 (IntKind.wrap .u64 (Int.tdiv n 32))&&cond (decide ((IntKind.wrap .u64 (Int.tdiv n 32))>=((Uo:Nat):Int))) (k0 []) (ai .i64 (((Uo:Nat):Int) - (IntKind.wrap .u64 (Int.tdiv n 32)))&&(g_ 4 (((Uo:Nat):Int) - (IntKind.wrap .u64 (Int.tdiv n 32))) (((Uo:Nat):Int) - (IntKind.wrap .u64 (Int.tdiv n 32)))&&am N (ia N UE Uo (IntKind.wrap .u64 (Int.tdiv n 32)) (Int.tmod n 32) b (λUu=>nk N Uu (λmr=>decide ((0+mr)<=Uu.length)&&k0 (List.take mr (List.drop 0 Uu))))) (0,(List.replicate (Int.toNat (((Uo:Nat):Int) - (IntKind.wrap .u64 (Int.tdiv n 32)))) (0:Int))))))
def Lw (N:Nat):Nat->Nat->Int->LI->(Kz3)->Bool:=aB N (Jq N)
def no (N:Nat) (Ut:LI) (s:Int) (e0:Ky7):(Nat × LI)->((Nat × LI)->Bool)->Bool:=λv_ K=>match v_ with
 | (u,US)=>(ai .i64 (((Ut.length:Nat):Int)+1)&&cond (decide (((u:Nat):Int)<(((Ut.length:Nat):Int)+1))) (decide ((0+u)<=US.length)&&(decide ((List.length ((List.take u (List.drop 0 US))++[0]))*4<=140737488355328)&&K ((List.length ((List.take u (List.drop 0 US))++[0])),((List.take u (List.drop 0 US))++[0])))) (e0 u US))
def qU (N:Nat) (UM:LI) (VL:Int) (d:Nat) (UK:LI) (e0:Ky7):(Nat × LI)->((Nat × LI)->Bool)->Bool:=λv_ K=>match v_ with
 | (VP,WL)=>(ai .i64 (((UM.length:Nat):Int)+1)&&cond (decide (((VP:Nat):Int)<(((UM.length:Nat):Int)+1))) (decide ((0+VP)<=WL.length)&&(decide ((List.length ((List.take VP (List.drop 0 WL))++[0]))*4<=140737488355328)&&K ((List.length ((List.take VP (List.drop 0 WL))++[0])),((List.take VP (List.drop 0 WL))++[0])))) (e0 VP WL))
def nn (N:Nat) (YK:Int) (Yp XC:Nat) (Un VO UR:Int) (Ye Xp We:LI) (e0:Kz0):(Int × Int)->((Int × Int)->Bool)->Bool:=λv_ K=>match v_ with
 | (g,r)=>(cond ((decide (g>=4294967296))==false) (ai .i64 (Un - 2)&&(inR (Un - 2) Yp&&(decide ((0+(Int.toNat (Un - 2)))<Ye.length)&&(ai .i64 (UR+Un)&&(ai .i64 ((UR+Un) - 2)&&(inR ((UR+Un) - 2) XC&&(decide ((0+(Int.toNat ((UR+Un) - 2)))<Xp.length)&&cond (decide ((IntKind.wrap .u64 (g*(IntKind.wrap .u64 (Ye.getD (0+(Int.toNat (Un - 2))) 0))))>(aA .or .u64 (IntKind.wrap .u64 (r*2 ^ 32)) (IntKind.wrap .u64 (Xp.getD (0+(Int.toNat ((UR+Un) - 2))) 0))))) (cond (decide ((IntKind.wrap .u64 (r+VO))>=4294967296)) (e0 (IntKind.wrap .u64 (g - 1))) (K ((IntKind.wrap .u64 (g - 1)),(IntKind.wrap .u64 (r+VO))))) (e0 g)))))))) (cond (decide ((IntKind.wrap .u64 (r+VO))>=4294967296)) (e0 (IntKind.wrap .u64 (g - 1))) (K ((IntKind.wrap .u64 (g - 1)),(IntKind.wrap .u64 (r+VO))))))
def iJ (N:Nat) (Yr:Int) (Yc Wi:Nat) (n top:Int) (Yd:LI) (e0:Ky8):(Int × LI × LI)->((Int × LI × LI)->Bool)->Bool:=λv_ K=>match v_ with
 | (j,Wa,q)=>(cond (decide (j>=0)) (ai .i64 (j+n)&&(inR (j+n) Wi&&(decide ((0+(Int.toNat (j+n)))<Wa.length)&&(ai .i64 (j+n)&&(ai .i64 ((j+n) - 1)&&(inR ((j+n) - 1) Wi&&(decide ((0+(Int.toNat ((j+n) - 1)))<Wa.length)&&((!decide (top=0))&&((!decide (top=0))&&am N (nn N Yr Yc Wi n top j Yd Wa q (λU6=>Lt N 0 Wi 0 Yc j U6 Wa Yd (λcr Uk=>cond cr (Lu N 0 Wi 0 Yc j Uk Yd (λUl=>inR j q.length&&(decide (j.toNat<q.length)&&(ai .i64 (j - 1)&&K ((j - 1),Ul,(q.set j.toNat (IntKind.wrap .u32 (IntKind.wrap .u64 (U6 - 1))))))))) (inR j q.length&&(decide (j.toNat<q.length)&&(ai .i64 (j - 1)&&K ((j - 1),Uk,(q.set j.toNat (IntKind.wrap .u32 U6))))))))) ((IntKind.wrap .u64 (Int.tdiv (aA .or .u64 (IntKind.wrap .u64 ((IntKind.wrap .u64 (Wa.getD (0+(Int.toNat (j+n))) 0))*2 ^ 32)) (IntKind.wrap .u64 (Wa.getD (0+(Int.toNat ((j+n) - 1))) 0))) top)),(Int.tmod (aA .or .u64 (IntKind.wrap .u64 ((IntKind.wrap .u64 (Wa.getD (0+(Int.toNat (j+n))) 0))*2 ^ 32)) (IntKind.wrap .u64 (Wa.getD (0+(Int.toNat ((j+n) - 1))) 0))) top))))))))))) (e0 Wa q))
def od (N:Nat) (a b:LI) (W0:Int) (VD Wh:Nat) (VU YM:LI) (k0:Ky8):Bool:=
 (ai .i64 (((Wh:Nat):Int) - ((VD:Nat):Int))&&(g_ 4 (((Wh:Nat):Int) - ((VD:Nat):Int)) (((Wh:Nat):Int) - ((VD:Nat):Int))&&(ai .i64 (((VD:Nat):Int) - 1)&&(inR (((VD:Nat):Int) - 1) VD&&(decide ((0+(Int.toNat (((VD:Nat):Int) - 1)))<VU.length)&&(ai .i64 ((((List.length (List.replicate (Int.toNat (((Wh:Nat):Int) - ((VD:Nat):Int))) (0:Int))):Nat):Int) - 1)&&am N (iJ N W0 VD Wh ((VD:Nat):Int) (IntKind.wrap .u64 (VU.getD (0+(Int.toNat (((VD:Nat):Int) - 1))) 0)) VU (λYi WS=>nk N WS (λXb=>decide (0<=((VD:Nat):Int)/\((VD:Nat):Int)<=((Wh:Nat):Int))&&qG N 0 ((Int.toNat ((VD:Nat):Int)) - 0) Yi (λYI=>Lw N 0 YI W0 Yi (λs6=>decide ((0+Xb)<=WS.length)&&k0 (List.take Xb (List.drop 0 WS)) s6))))) (((((List.length (List.replicate (Int.toNat (((Wh:Nat):Int) - ((VD:Nat):Int))) (0:Int))):Nat):Int) - 1),YM,(List.replicate (Int.toNat (((Wh:Nat):Int) - ((VD:Nat):Int))) (0:Int)))))))))
def tF (N:Nat) (a b:LI) (WU:Int) (X2:Nat) (Y0:LI) (k0:Ky8):Bool:=
 (ai .i64 (((X2:Nat):Int) - 0)&&(g_ 4 (((X2:Nat):Int) - 0) (((X2:Nat):Int) - 0)&&false))
def B2 (N:Nat) (a b:LI) (k0:Ky8):Bool:=
 (DP N a b (λnr=>cond (decide (nr<0)) (decide ((List.length ([]++a))*4<=140737488355328)&&k0 [] ([]++a)) (cond (((b.length:Nat):Int)==1) (inR 0 b.length&&m9 N a (b.getD 0 0) (λnsr Uf=>nk N [Uf] (λmr=>decide ((0+mr)<=(List.length [Uf]))&&k0 nsr (List.take mr (List.drop 0 [Uf]))))) (ai .i64 (((b.length:Nat):Int) - 1)&&(inR (((b.length:Nat):Int) - 1) b.length&&Re N (b.getD (Int.toNat (((b.length:Nat):Int) - 1)) 0) (λUj=>DE N b (IntKind.wrap .u64 Uj) (DE N a (IntKind.wrap .u64 Uj) (am N (no N a (IntKind.wrap .u64 Uj) (λVi U9=>tF N a b (IntKind.wrap .u64 Uj) Vi U9 k0)) (0,[])) (λUx Uh=>am N (no N a (IntKind.wrap .u64 Uj) (λVG VR=>tF N a b (IntKind.wrap .u64 Uj) VG VR k0)) (Ux,Uh))) (λUI Uc=>DE N a (IntKind.wrap .u64 Uj) (am N (qU N a (IntKind.wrap .u64 Uj) UI Uc (λWb WE=>od N a b (IntKind.wrap .u64 Uj) UI Wb Uc WE k0)) (0,[])) (λWQ Ug=>am N (qU N a (IntKind.wrap .u64 Uj) UI Uc (λVu VC=>od N a b (IntKind.wrap .u64 Uj) UI Vu Uc VC k0)) (WQ,Ug)))))))))
def nO (N:Nat):LI->LI->(Ky8)->Bool:=aB N (B2 N)
def jM (N:Nat) (UM Ud:LI) (UL:Int) (e0:Ky6):(Int × Int × LI)->((Int × Int × LI)->Bool)->Bool:=λv_ K=>match v_ with
 | (carry,k_,Uu)=>(cond (decide (k_<((Ud.length:Nat):Int))) (inR UL UM.length&&(inR k_ Ud.length&&(ai .i64 (UL+k_)&&(inR (UL+k_) Uu.length&&(decide ((Int.toNat (UL+k_))<Uu.length)&&(ai .i64 (UL+k_)&&(inR (UL+k_) Uu.length&&(decide ((Int.toNat (UL+k_))<Uu.length)&&(ai .i64 (k_+1)&&K ((Int.fdiv (IntKind.wrap .u64 ((IntKind.wrap .u64 ((IntKind.wrap .u64 ((IntKind.wrap .u64 (UM.getD UL.toNat 0))*(IntKind.wrap .u64 (Ud.getD k_.toNat 0))))+(IntKind.wrap .u64 (Uu.getD (Int.toNat (UL+k_)) 0))))+carry)) (2 ^ 32)),(k_+1),(Uu.set (Int.toNat (UL+k_)) (IntKind.wrap .u32 (IntKind.wrap .u64 ((IntKind.wrap .u64 ((IntKind.wrap .u64 ((IntKind.wrap .u64 (UM.getD UL.toNat 0))*(IntKind.wrap .u64 (Ud.getD k_.toNat 0))))+(IntKind.wrap .u64 (Uu.getD (Int.toNat (UL+k_)) 0))))+carry)))))))))))))) (e0 carry Uu))
def jL (N:Nat) (Ut Ub:LI) (e0:Kz3):(Int × LI)->((Int × LI)->Bool)->Bool:=λv_ K=>match v_ with
 | (i,out)=>(cond (decide (i<((Ut.length:Nat):Int))) (am N (jM N Ut Ub i (λUv Vz=>ai .i64 (i+((Ub.length:Nat):Int))&&(inR (i+((Ub.length:Nat):Int)) Vz.length&&(decide ((Int.toNat (i+((Ub.length:Nat):Int)))<Vz.length)&&(ai .i64 (i+1)&&K ((i+1),(Vz.set (Int.toNat (i+((Ub.length:Nat):Int))) (IntKind.wrap .u32 Uv)))))))) (0,0,out)) (e0 out))
def Ps (N:Nat) (a b:LI) (k0:Kz3):Bool:=
 (ai .i64 (((a.length:Nat):Int)+((b.length:Nat):Int))&&(g_ 4 (((a.length:Nat):Int)+((b.length:Nat):Int)) (((a.length:Nat):Int)+((b.length:Nat):Int))&&am N (jL N a b (λXd=>nk N Xd (λmr=>decide ((0+mr)<=Xd.length)&&k0 (List.take mr (List.drop 0 Xd))))) (0,(List.replicate (Int.toNat (((a.length:Nat):Int)+((b.length:Nat):Int))) (0:Int)))))
def u9 (N:Nat):LI->LI->(Kz3)->Bool:=aB N (Ps N)
def jI (N:Nat) (Ut Ub:LI) (e0:Kz3):(Int × Int × LI)->((Int × Int × LI)->Bool)->Bool:=λv_ K=>match v_ with
 | (borrow,i,out)=>(cond (decide (i<((Ut.length:Nat):Int))) (cond (decide (i<((Ub.length:Nat):Int))) (inR i Ub.length&&(inR i Ut.length&&cond (decide ((IntKind.wrap .u64 (Ut.getD i.toNat 0))<(IntKind.wrap .u64 (borrow+(IntKind.wrap .u64 (Ub.getD i.toNat 0)))))) (inR i out.length&&(decide (i.toNat<out.length)&&(ai .i64 (i+1)&&K (1,(i+1),(out.set i.toNat (IntKind.wrap .u32 (IntKind.wrap .u64 ((IntKind.wrap .u64 ((IntKind.wrap .u64 (Ut.getD i.toNat 0))+4294967296)) - (IntKind.wrap .u64 (borrow+(IntKind.wrap .u64 (Ub.getD i.toNat 0)))))))))))) (inR i out.length&&(decide (i.toNat<out.length)&&(ai .i64 (i+1)&&K (0,(i+1),(out.set i.toNat (IntKind.wrap .u32 (IntKind.wrap .u64 ((IntKind.wrap .u64 (Ut.getD i.toNat 0)) - (IntKind.wrap .u64 (borrow+(IntKind.wrap .u64 (Ub.getD i.toNat 0)))))))))))))) (inR i Ut.length&&cond (decide ((IntKind.wrap .u64 (Ut.getD i.toNat 0))<borrow)) (inR i out.length&&(decide (i.toNat<out.length)&&(ai .i64 (i+1)&&K (1,(i+1),(out.set i.toNat (IntKind.wrap .u32 (IntKind.wrap .u64 ((IntKind.wrap .u64 ((IntKind.wrap .u64 (Ut.getD i.toNat 0))+4294967296)) - borrow)))))))) (inR i out.length&&(decide (i.toNat<out.length)&&(ai .i64 (i+1)&&K (0,(i+1),(out.set i.toNat (IntKind.wrap .u32 (IntKind.wrap .u64 ((IntKind.wrap .u64 (Ut.getD i.toNat 0)) - borrow)))))))))) (e0 out))
def pM (N:Nat) (a b:LI) (k0:Kz3):Bool:=
 (g_ 4 ((a.length:Nat):Int) ((a.length:Nat):Int)&&am N (jI N a b (λUu=>nk N Uu (λmr=>decide ((0+mr)<=Uu.length)&&k0 (List.take mr (List.drop 0 Uu))))) (0,0,(List.replicate (Int.toNat ((a.length:Nat):Int)) (0:Int))))
def kN (N:Nat):LI->LI->(Kz3)->Bool:=aB N (pM N)
def Js (N:Nat) (a:LI) (u:Int) (b:LI) (v:Int) (k0:Kz3):Bool:=
 (AH N u (λnsr=>u9 N a nsr (λUc=>AH N v (λUh=>u9 N b Uh (λUg=>kN N Uc Ug (λUk=>k0 Uk))))))
def GM (N:Nat):LI->Int->LI->Int->(Kz3)->Bool:=aB N (Js N)
def q9 (N:Nat) (a:LI) (u:Int) (b:LI) (v:Int) (k0:Kz3):Bool:=
 (cond (decide (v<=0)) (ai .i64 (0 - v)&&GM N a (IntKind.wrap .u64 u) b (IntKind.wrap .u64 (0 - v)) (λnsr=>k0 nsr)) (ai .i64 (0 - u)&&GM N b (IntKind.wrap .u64 v) a (IntKind.wrap .u64 (0 - u)) (λUc=>k0 Uc)))
def lL (N:Nat):LI->Int->LI->Int->(Kz3)->Bool:=aB N (q9 N)
def yV (N:Nat) (e0:Ky8):(LI × LI)->((LI × LI)->Bool)->Bool:=λv_ K=>match v_ with
 | (UM,Ud)=>(cond (decide (((Ud.length:Nat):Int)>2)) (Iy N false UM (λUf=>ai .i64 (Uf - 62)&&oW N UM (Uf - 62) (λUj=>oW N Ud (Uf - 62) (λUp=>qH N Uj Up (λUA n5 n6 n7=>cond (n5==0) (nO N UM Ud (λnsr Uc=>K (Ud,Uc))) (lL N UM UA Ud n5 (λUh=>lL N UM n6 Ud n7 (λUg=>K (Uh,Ug))))))))) (e0 UM Ud))
def vn (N:Nat) (e0:Kz3):(LI × LI)->((LI × LI)->Bool)->Bool:=λv_ K=>match v_ with
 | (VE,Uq)=>(cond (decide (((Uq.length:Nat):Int)>0)) (nO N VE Uq (λUk Ul=>K (Uq,Ul))) (e0 VE))
def FU (N:Nat) (a b Ut Ub:LI) (k0:Kz3):Bool:=
 (am N (yV N (λUN Um=>am N (vn N (λWZ=>decide ((List.length ([]++WZ))*4<=140737488355328)&&k0 ([]++WZ))) (UN,Um))) (Ut,Ub))
def Jn (N:Nat) (a b:LI) (k0:Kz3):Bool:=
 (DP N a b (λnr=>cond (decide (nr<0)) (FU N a b b a k0) (FU N a b a b k0)))
def DK (N:Nat):LI->LI->(Kz3)->Bool:=aB N (Jn N)
def G4 (N:Nat) (neg:Bool) (a b:LI) (Ub Ud:Bool) (Ut Um:LI) (k0:Kx5):Bool:=
 (DJ N neg Ut Ub Ud (λUs s12 s13=>DN N false Um Us s12 Ud s13 (λUz s14=>k0 Us s12 Uz s14)))
def Jw (N:Nat) (neg:Bool) (a b:LI) (Ub Ud:Bool) (n:Int) (k0:Kx5):Bool:=
 (zI N a n (λUk=>zI N b n (λUl=>sQ5 N false Ul (λUj=>ai .i64 Uj&&Iy N false Ul (λUp=>ai .i64 (Up - 1)&&cond (Uj != (Up - 1)) (DK N Uk Ul (λs6=>pA N (λs7=>DP N s6 s7 (λUA=>cond (UA != 0) (nO N Uk s6 (λs8 s9=>nO N Ul s6 (λs10 s11=>G4 N neg a b Ub Ud s8 s10 k0))) (G4 N neg a b Ub Ud Uk Ul k0))))) (G4 N neg a b Ub Ud Uk Ul k0))))))
def O3 (N:Nat) (neg:Bool) (a b:LI) (Ub Ud:Bool) (k0:Kx5):Bool:=
 (cond (((a.length:Nat):Int)==0) (DJ N false [] Ub Ud (λcr nsr Uc=>pA N (λUh=>DN N false Uh cr nsr Ud Uc (λUi Ug=>k0 cr nsr Ui Ug)))) (sQ5 N false a (λnr=>sQ5 N false b (λUf=>cond (decide (Uf<nr)) (Jw N neg a b Ub Ud Uf k0) (Jw N neg a b Ub Ud nr k0)))))
def Iv (N:Nat):Bool->LI->LI->Bool->Bool->(Kx5)->Bool:=aB N (O3 N)
def RJ (N:Nat) (b Ub Ud:Bool) (Um:LI) (k0:Kx5):Bool:=
 (pA N (λnsr=>Iv N Ud Um nsr b Ub (λcr Uc Ui Uh=>k0 cr Uc Ui Uh)))
def ND (N:Nat):Bool->Bool->Bool->LI->(Kx5)->Bool:=RJ N
def io (N:Nat) (n:Int) (b:Bool) (u:Int) (k0:Ky3):Bool:=
 (AH N u (λnsr=>ug N (decide (n<0)) nsr b (λcr Uc=>k0 cr Uc)))
def I_ (N:Nat) (n:Int) (b:Bool) (k0:Ky3):Bool:=
 (cond (decide (n<0)) (io N n b (IntKind.wrap .u64 (0 - (IntKind.wrap .u64 n))) k0) (io N n b (IntKind.wrap .u64 n) k0))
def OD (N:Nat):Int->Bool->(Ky3)->Bool:=aB N (I_ N)
def N0 (N:Nat) (n:Int) (k0:Ky3):Bool:=
 (OD N n false (λcr nsr=>k0 cr nsr))
def yK (N:Nat):Int->(Ky3)->Bool:=N0 N
def RN (N:Nat) (b Ub Ud:Bool) (Um:LI) (Uq:Bool) (UT:LI) (k0:Kx5):Bool:=
 (Iv N (Ud != Uq) Um UT b Ub (λcr nsr Ui Uc=>k0 cr nsr Ui Uc))
def Sx (N:Nat):Bool->Bool->Bool->LI->Bool->LI->(Kx5)->Bool:=RN N
def Pv (N:Nat) (x:Int) (b:Bool) (Ub:LI) (k0:Kx5):Bool:=
 (cond (decide (x>=0)) (FB N x 0 b Ub (ND N false false b Ub (λcr nsr Ui Uc=>k0 cr nsr Ui Uc)) (λUs Uh=>ND N false false Us Uh (λUz Ug UW Uk=>k0 Uz Ug UW Uk))) (yK N 1 (λVr Ul=>ai .i64 (0 - x)&&GG N (IntKind.wrap .u64 (0 - x)) false Vr Ul (λU_ s6=>Sx N false false b Ub U_ s6 (λV3 s7 c8 s8=>k0 V3 s7 c8 s8)))))
def SB (N:Nat):Int->Bool->LI->(Kx5)->Bool:=aB N (Pv N)
def vv (N:Nat) (x:Fl) (k0:Kx5):Bool:=
 (e_ N x (λnr cr nsr=>SB N nr cr nsr (λUi Uc Us Uh=>k0 Ui Uc Us Uh)))
def qL (N:Nat):Fl->(Kx5)->Bool:=vv N
def jO (N:Nat) (VW:LF) (Xg WA WB WT Wy:Int) (e0:List RY1->Bool):(Int × List RY1)->((Int × List RY1)->Bool)->Bool:=λv_ K=>match v_ with
 | (Wf,b2)=>(cond (decide (Wf<Xg)) (inR Wf VW.length&&qL N (VW.getD Wf.toNat none) (λUs Uh Uz Ug=>decide ((List.length b2+1)*8<=140737488355328)&&(ai .i64 (Wf+1)&&K ((Wf+1),(b2++[((Us,Uh),(Uz,Ug))]))))) (e0 b2))
def pR (N:Nat) (UE Uo:Int) (Uw:LF) (k0:List RY1->Bool):Bool:=
 (am N (jO N Uw ((Uw.length:Nat):Int) 0 0 UE Uo (λ(W5:List RY1)=>k0 W5)) (0,[]))
def qK (N:Nat):Int->Int->LF->(List RY1->Bool)->Bool:=aB N (pR N)
def vw (N:Nat) (UE Uo:Int) (Uw:LF) (k0:List RY1->Bool):Bool:=
 (qK N UE Uo Uw (λ(lr:List RY1)=>k0 lr))
def wo (N:Nat):Int->Int->LF->(List RY1->Bool)->Bool:=vw N
def iP (N:Nat) (V_ V1 WC WD Uw Vl:Int) (e0:List RY1->Bool):(Int × List RY1)->((Int × List RY1)->Bool)->Bool:=λv_ K=>match v_ with
 | (UL,b2)=>(ai .i64 (V_*V1)&&cond (decide (UL<(V_*V1))) (decide ((List.length b2+1)*8<=140737488355328)&&(ai .i64 (UL+1)&&K ((UL+1),(b2++[((false,[]),(false,[]))])))) (e0 b2))
def ob (N:Nat) (rows cols:Int) (k0:List RY1->Bool):Bool:=
 (am N (iP N rows cols 0 0 rows cols (λ(W5:List RY1)=>k0 W5)) (0,[]))
def oZ (N:Nat):Int->Int->(List RY1->Bool)->Bool:=aB N (ob N)
def I9 (N:Nat) (Yq:Bool) (Xe:LI) (WT:Bool) (Wy:LI) (k0:Kz3):Bool:=
 (cond (((Wy.length:Nat):Int)==0) (pA N (λnsr=>k0 nsr)) (k0 Wy))
def Lo (N:Nat):Bool->LI->Bool->LI->(Kz3)->Bool:=aB N (I9 N)
def ph (N:Nat) (neg b:Bool) (Ub:LI) (Ud:Bool) (Um Uq:LI) (k0:Kx7):Bool:=
 (nk N Uq (λmr=>cond (neg==true) (k0 (decide (((mr:Nat):Int)>0)) 0 mr) (k0 false 0 mr)))
def pB (N:Nat):Bool->Bool->LI->Bool->LI->LI->(Kx7)->Bool:=ph N
def N6 (N:Nat) (neg b:Bool) (Ub Ud:Nat) (Um:Bool) (Uq UT Vk:LI) (k0:Kx7):Bool:=
 (nk N UT (λmr=>cond (neg==true) (k0 (decide (((mr:Nat):Int)>0)) 0 mr) (k0 false 0 mr)))
def OG (N:Nat):Bool->Bool->Nat->Nat->Bool->LI->LI->LI->(Kx7)->Bool:=N6 N
def PA (N:Nat) (UF:Bool) (Ur:LI) (UD:Bool) (UH:LI) (b:Bool) (Ub:LI) (Ud:Bool) (Um:LI) (k0:Kx5):Bool:=
 (decide ((List.length ([]++Ur))*4<=140737488355328)&&Lo N UF Ur UD UH (λnsr=>decide ((List.length ([]++nsr))*4<=140737488355328)&&pB N UF b Ub Ud Um ([]++Ur) (λcr mr UI=>OG N false cr mr UI Ud Um ([]++nsr) ([]++Ur) (λUi Ux WQ=>decide ((mr+UI)<=(List.length ([]++Ur)))&&(decide ((Ux+WQ)<=(List.length ([]++nsr)))&&k0 cr (List.take UI (List.drop mr ([]++Ur))) Ui (List.take WQ (List.drop Ux ([]++nsr))))))))
def Ro (N:Nat):Bool->LI->Bool->LI->Bool->LI->Bool->LI->(Kx5)->Bool:=aB N (PA N)
def BV (N:Nat) (t12 m Vl:Int) (V9:List RY2) (t2 VM t YL:Int) (e0:List RY1->Bool):(Int × List RY1)->((Int × List RY1)->Bool)->Bool:=λv_ K=>match v_ with
 | (t13,b3)=>(cond (decide (t13<t12)) (inR t13 b3.length&&(decide (t13.toNat<b3.length)&&(inR t13 V9.length&&Ro N (V9.getD t13.toNat ((false,[]),(false,[]))).1.1 (V9.getD t13.toNat ((false,[]),(false,[]))).1.2 (V9.getD t13.toNat ((false,[]),(false,[]))).2.1 (V9.getD t13.toNat ((false,[]),(false,[]))).2.2 (b3.getD t13.toNat ((false,[]),(false,[]))).1.1 (b3.getD t13.toNat ((false,[]),(false,[]))).1.2 (b3.getD t13.toNat ((false,[]),(false,[]))).2.1 (b3.getD t13.toNat ((false,[]),(false,[]))).2.2 (λcr nsr Ui Uc=>ai .i64 (t13+1)&&K ((t13+1),(b3.set t13.toNat ((cr,nsr),(Ui,Uc)))))))) (e0 b3))
def Pz (N:Nat) (UE Uo:Int) (Uw:List RY2) (k0:List RY1->Bool):Bool:=
 (oZ N UE Uo (λ(lr:List RY1)=>am N (BV N ((Uw.length:Nat):Int) UE Uo Uw 0 0 UE Uo (λ(b2:List RY1)=>k0 b2)) (0,lr)))
def Rn (N:Nat):Int->Int->List RY2->(List RY1->Bool)->Bool:=aB N (Pz N)
def RL (N:Nat) (UE Uo i j:Int) (b:List RY1) (k0:Kz1):Bool:=
 (ai .i64 (i*Uo)&&(ai .i64 ((i*Uo)+j)&&(inR ((i*Uo)+j) b.length&&(decide ((Int.toNat ((i*Uo)+j))<b.length)&&k0 (Int.toNat ((i*Uo)+j))))))
def DM (N:Nat):Int->Int->Int->Int->List RY1->(Kz1)->Bool:=RL N
def uC (N:Nat) (YV:Bool) (UY:LI) (X7:Bool) (X8:LI) (k0:Kz0):Bool:=
 (cond (((UY.length:Nat):Int)==0) (k0 0) (cond YV (k0 (-1)) (k0 1)))
def AJ (N:Nat):Bool->LI->Bool->LI->(Kz0)->Bool:=aB N (uC N)
def N4 (N:Nat) (Yq:Bool) (Xe:LI) (WT:Bool) (Wy:LI) (k0:Kz0):Bool:=
 (AJ N Yq Xe WT Wy (λnr=>k0 nr))
def DI (N:Nat):Bool->LI->Bool->LI->(Kz0)->Bool:=N4 N
def OU (N:Nat) (b:Bool) (Ub:LI) (Ud:Bool) (Um:LI) (k0:Kz3):Bool:=
 (cond (((Um.length:Nat):Int)==0) (pA N (λnsr=>k0 nsr)) (k0 Um))
def zE (N:Nat):Bool->LI->Bool->LI->(Kz3)->Bool:=aB N (OU N)
def OZ (N:Nat) (b Ub Ud:Bool) (Um:LI) (Uq:Bool) (UT:LI) (Vk:Bool) (VQ:LI) (Xy:Bool) (Xz:LI) (k0:Kx5):Bool:=
 (zE N Vk VQ Xy Xz (λnsr=>u9 N Um nsr (λUc=>zE N Ud Um Uq UT (λUh=>u9 N Uh VQ (λUg=>Iv N (Ud != Vk) Uc Ug b Ub (λcr Uk Ui Ul=>k0 cr Uk Ui Ul))))))
def Q9 (N:Nat):Bool->Bool->Bool->LI->Bool->LI->Bool->LI->Bool->LI->(Kx5)->Bool:=aB N (OZ N)
def OY (N:Nat) (b Ub Ud:Bool) (Um:LI) (Uq:Bool) (UT:LI) (Vk:Bool) (VQ:LI) (Xy:Bool) (Xz:LI) (k0:Kx5):Bool:=
 (u9 N Um VQ (λnsr=>zE N Ud Um Uq UT (λUc=>zE N Vk VQ Xy Xz (λUh=>u9 N Uc Uh (λUg=>Iv N (Ud != Vk) nsr Ug b Ub (λcr Uk Ui Ul=>k0 cr Uk Ui Ul))))))
def Q8 (N:Nat):Bool->Bool->Bool->LI->Bool->LI->Bool->LI->Bool->LI->(Kx5)->Bool:=aB N (OY N)
def Pu (N:Nat) (b:Bool) (Ub:LI) (Ud:Bool) (Um:LI) (Uq:Bool) (UT:LI) (Vk:Bool) (VQ:LI) (k0:Ky8):Bool:=
 (zE N Uq UT Vk VQ (λnsr=>u9 N Ub nsr (λUc=>zE N b Ub Ud Um (λUh=>u9 N UT Uh (λUg=>k0 Uc Ug)))))
def SA (N:Nat):Bool->LI->Bool->LI->Bool->LI->Bool->LI->(Ky8)->Bool:=aB N (Pu N)
def fH (N:Nat) (Ut Ub:LI) (e0:Ky6):(Int × Int × LI)->((Int × Int × LI)->Bool)->Bool:=λv_ K=>match v_ with
 | (carry,i,out)=>(cond (decide (i<((Ut.length:Nat):Int))) (inR i Ut.length&&cond (decide (i<((Ub.length:Nat):Int))) (inR i Ub.length&&(inR i out.length&&(decide (i.toNat<out.length)&&(ai .i64 (i+1)&&K ((Int.fdiv (IntKind.wrap .u64 ((IntKind.wrap .u64 ((IntKind.wrap .u64 (Ut.getD i.toNat 0))+carry))+(IntKind.wrap .u64 (Ub.getD i.toNat 0)))) (2 ^ 32)),(i+1),(out.set i.toNat (IntKind.wrap .u32 (IntKind.wrap .u64 ((IntKind.wrap .u64 ((IntKind.wrap .u64 (Ut.getD i.toNat 0))+carry))+(IntKind.wrap .u64 (Ub.getD i.toNat 0))))))))))) (inR i out.length&&(decide (i.toNat<out.length)&&(ai .i64 (i+1)&&K ((Int.fdiv (IntKind.wrap .u64 ((IntKind.wrap .u64 (Ut.getD i.toNat 0))+carry)) (2 ^ 32)),(i+1),(out.set i.toNat (IntKind.wrap .u32 (IntKind.wrap .u64 ((IntKind.wrap .u64 (Ut.getD i.toNat 0))+carry))))))))) (e0 carry out))
def sx (N:Nat) (a b:LI) (k0:Kz3):Bool:=
 (cond (decide (((a.length:Nat):Int)<((b.length:Nat):Int))) (ai .i64 (((b.length:Nat):Int)+1)&&(g_ 4 (((b.length:Nat):Int)+1) (((b.length:Nat):Int)+1)&&am N (fH N b a (λUv Uu=>inR ((b.length:Nat):Int) Uu.length&&(decide ((Int.toNat ((b.length:Nat):Int))<Uu.length)&&nk N (Uu.set (Int.toNat ((b.length:Nat):Int)) (IntKind.wrap .u32 Uv)) (λmr=>decide ((0+mr)<=(List.length (Uu.set (Int.toNat ((b.length:Nat):Int)) (IntKind.wrap .u32 Uv))))&&k0 (List.take mr (List.drop 0 (Uu.set (Int.toNat ((b.length:Nat):Int)) (IntKind.wrap .u32 Uv)))))))) (0,0,(List.replicate (Int.toNat (((b.length:Nat):Int)+1)) (0:Int))))) (ai .i64 (((a.length:Nat):Int)+1)&&(g_ 4 (((a.length:Nat):Int)+1) (((a.length:Nat):Int)+1)&&am N (fH N a b (λUV Vz=>inR ((a.length:Nat):Int) Vz.length&&(decide ((Int.toNat ((a.length:Nat):Int))<Vz.length)&&nk N (Vz.set (Int.toNat ((a.length:Nat):Int)) (IntKind.wrap .u32 UV)) (λUI=>decide ((0+UI)<=(List.length (Vz.set (Int.toNat ((a.length:Nat):Int)) (IntKind.wrap .u32 UV))))&&k0 (List.take UI (List.drop 0 (Vz.set (Int.toNat ((a.length:Nat):Int)) (IntKind.wrap .u32 UV)))))))) (0,0,(List.replicate (Int.toNat (((a.length:Nat):Int)+1)) (0:Int))))))
def tk (N:Nat):LI->LI->(Kz3)->Bool:=aB N (sx N)
def Pl (N:Nat) (turn b Ub:Bool) (Ud:LI) (Um:Bool) (Uq:LI) (k0:Ky3):Bool:=
 (cond (Ub==(Um != turn)) (tk N Ud Uq (λnsr=>ug N (Um != turn) nsr b (λcr Uc=>k0 cr Uc))) (DP N Ud Uq (λnr=>cond (decide (nr>=0)) (kN N Ud Uq (λUh=>ug N Ub Uh b (λUi Ug=>k0 Ui Ug))) (kN N Uq Ud (λUk=>ug N (Um != turn) Uk b (λUs Ul=>k0 Us Ul))))))
def NO (N:Nat):Bool->Bool->Bool->LI->Bool->LI->(Ky3)->Bool:=aB N (Pl N)
def N1 (N:Nat) (b Ub:Bool) (Ud:LI) (Um:Bool) (Uq:LI) (k0:Ky3):Bool:=
 (NO N true b Ub Ud Um Uq (λcr nsr=>k0 cr nsr))
def Lm (N:Nat):Bool->Bool->LI->Bool->LI->(Ky3)->Bool:=N1 N
def IX (N:Nat) (neg:Bool) (m:LI) (b:Bool) (Ub:LI) (Ud:Bool) (Um:LI) (k0:Ky3):Bool:=
 (kc N m (λnsr=>cond (neg==true) (k0 (decide (((nsr.length:Nat):Int)>0)) nsr) (k0 false nsr)))
def DF (N:Nat):Bool->LI->Bool->LI->Bool->LI->(Ky3)->Bool:=IX N
def G5 (N:Nat) (neg:Bool) (a b:LI) (Ub:Bool) (Ud:LI) (Um:Bool) (Uq Ut UT:LI) (k0:Kx5):Bool:=
 (DF N neg Ut Ub Ud Um Uq (λUs s11=>DN N false UT Us s11 Um Uq (λUz s12=>k0 Us s11 Uz s12)))
def Jx (N:Nat) (neg:Bool) (a b:LI) (Ub:Bool) (Ud:LI) (Um:Bool) (Uq:LI) (n:Int) (k0:Kx5):Bool:=
 (zI N a n (λUg=>zI N b n (λUk=>sQ5 N false Uk (λUj=>ai .i64 Uj&&Iy N false Uk (λUp=>ai .i64 (Up - 1)&&cond (Uj != (Up - 1)) (DK N Ug Uk (λUl=>pA N (λs6=>DP N Ul s6 (λUA=>cond (UA != 0) (nO N Ug Ul (λs7 s8=>nO N Uk Ul (λs9 s10=>G5 N neg a b Ub Ud Um Uq s7 s9 k0))) (G5 N neg a b Ub Ud Um Uq Ug Uk k0))))) (G5 N neg a b Ub Ud Um Uq Ug Uk k0))))))
def Pn (N:Nat) (neg:Bool) (a b:LI) (Ub:Bool) (Ud:LI) (Um:Bool) (Uq:LI) (k0:Kx5):Bool:=
 (cond (((a.length:Nat):Int)==0) (DF N false [] Ub Ud Um Uq (λcr nsr=>pA N (λUc=>DN N false Uc cr nsr Um Uq (λUi Uh=>k0 cr nsr Ui Uh)))) (sQ5 N false a (λnr=>sQ5 N false b (λUf=>cond (decide (Uf<nr)) (Jx N neg a b Ub Ud Um Uq Uf k0) (Jx N neg a b Ub Ud Um Uq nr k0)))))
def Rg (N:Nat):Bool->LI->LI->Bool->LI->Bool->LI->(Kx5)->Bool:=aB N (Pn N)
def O5 (N:Nat) (b:Bool) (Ub:LI) (Ud:Bool) (Um:LI) (Uq:Bool) (UT:LI) (Vk:Bool) (VQ:LI) (k0:Kx5):Bool:=
 (SA N b Ub Ud Um Uq UT Vk VQ (λnsr Uc=>zE N b Ub Ud Um (λUh=>zE N Uq UT Vk VQ (λUg=>u9 N Uh Ug (λUk=>Lm N false b nsr Uq Uc (λcr Ul=>Rg N cr Ul Uk b Ub Ud Um (λUi s6 Us s7=>k0 Ui s6 Us s7)))))))
def Q_ (N:Nat):Bool->LI->Bool->LI->Bool->LI->Bool->LI->(Kx5)->Bool:=aB N (O5 N)
def BR (N:Nat) (UL Wo:Int) (r:Bool) (Xe:LI) (WT:Bool) (Wy:LI) (m Uw:Int) (e0:List RY1->Bool):(Int × List RY1)->((Int × List RY1)->Bool)->Bool:=λv_ K=>match v_ with
 | (j,b0)=>(cond (decide (j<Uw)) (DM N m Uw UL j b0 (λmr=>DM N m Uw UL j b0 (λUI=>DM N m Uw Wo j b0 (λUx=>Q8 N false false r Xe WT Wy (b0.getD Ux ((false,[]),(false,[]))).1.1 (b0.getD Ux ((false,[]),(false,[]))).1.2 (b0.getD Ux ((false,[]),(false,[]))).2.1 (b0.getD Ux ((false,[]),(false,[]))).2.2 (λcr nsr Ui Uc=>decide (UI=mr)&&Q_ N (List.getD (b0.set Ux (((b0.getD Ux ((false,[]),(false,[]))).1.1,(b0.getD Ux ((false,[]),(false,[]))).1.2),((b0.getD Ux ((false,[]),(false,[]))).2.1,(b0.getD Ux ((false,[]),(false,[]))).2.2))) mr ((false,[]),(false,[]))).1.1 (List.getD (b0.set Ux (((b0.getD Ux ((false,[]),(false,[]))).1.1,(b0.getD Ux ((false,[]),(false,[]))).1.2),((b0.getD Ux ((false,[]),(false,[]))).2.1,(b0.getD Ux ((false,[]),(false,[]))).2.2))) mr ((false,[]),(false,[]))).1.2 (List.getD (b0.set Ux (((b0.getD Ux ((false,[]),(false,[]))).1.1,(b0.getD Ux ((false,[]),(false,[]))).1.2),((b0.getD Ux ((false,[]),(false,[]))).2.1,(b0.getD Ux ((false,[]),(false,[]))).2.2))) mr ((false,[]),(false,[]))).2.1 (List.getD (b0.set Ux (((b0.getD Ux ((false,[]),(false,[]))).1.1,(b0.getD Ux ((false,[]),(false,[]))).1.2),((b0.getD Ux ((false,[]),(false,[]))).2.1,(b0.getD Ux ((false,[]),(false,[]))).2.2))) mr ((false,[]),(false,[]))).2.2 cr nsr Ui Uc (λUs Uh Uz Ug=>ai .i64 (j+1)&&K ((j+1),(List.set (b0.set Ux (((b0.getD Ux ((false,[]),(false,[]))).1.1,(b0.getD Ux ((false,[]),(false,[]))).1.2),((b0.getD Ux ((false,[]),(false,[]))).2.1,(b0.getD Ux ((false,[]),(false,[]))).2.2))) mr ((Us,Uh),(Uz,Ug)))))))))) (e0 b0))
def O8 (N:Nat) (UE Uo i k_:Int) (b:List RY1) (Ub:Bool) (Ud:LI) (Um:Bool) (Uq:LI) (k0:List RY1->Bool):Bool:=
 (am N (BR N i k_ Ub Ud Um Uq UE Uo (λ(Uy:List RY1)=>k0 Uy)) (0,b))
def Rb (N:Nat):Int->Int->Int->Int->List RY1->Bool->LI->Bool->LI->(List RY1->Bool)->Bool:=aB N (O8 N)
def yZ (N:Nat) (X5 UM UN:Int) (Vc:List RY1) (e0:Kz0) (e1:Bool):(Int)->((Int)->Bool)->Bool:=λv_ K=>match v_ with
 | j=>(cond (decide (j<UN)) (DM N UM UN X5 j Vc (λUI=>DI N (Vc.getD UI ((false,[]),(false,[]))).1.1 (Vc.getD UI ((false,[]),(false,[]))).1.2 (Vc.getD UI ((false,[]),(false,[]))).2.1 (Vc.getD UI ((false,[]),(false,[]))).2.2 (λUj=>cond (Uj != 0) (e0 1) (ai .i64 (j+1)&&K (j+1))))) e1)
def yX (N:Nat) (Wz X_:Int) (d:Nat) (VE WZ:Int) (e0:List RY1->Bool):(Int × List RY1)->((Int × List RY1)->Bool)->Bool:=λv_ K=>match v_ with
 | (i,UK)=>(cond (decide (i<VE)) (DM N VE WZ i X_ UK (λUx=>((!decide (d=Ux))&&true)&&Q9 N false false (UK.getD Ux ((false,[]),(false,[]))).1.1 (UK.getD Ux ((false,[]),(false,[]))).1.2 (UK.getD Ux ((false,[]),(false,[]))).2.1 (UK.getD Ux ((false,[]),(false,[]))).2.2 (UK.getD d ((false,[]),(false,[]))).1.1 (UK.getD d ((false,[]),(false,[]))).1.2 (UK.getD d ((false,[]),(false,[]))).2.1 (UK.getD d ((false,[]),(false,[]))).2.2 (λcr nsr Ui Uc=>Rb N VE WZ i X_ (List.set (UK.set d (((UK.getD d ((false,[]),(false,[]))).1.1,(UK.getD d ((false,[]),(false,[]))).1.2),((UK.getD d ((false,[]),(false,[]))).2.1,(UK.getD d ((false,[]),(false,[]))).2.2))) Ux (((UK.getD Ux ((false,[]),(false,[]))).1.1,(UK.getD Ux ((false,[]),(false,[]))).1.2),((UK.getD Ux ((false,[]),(false,[]))).2.1,(UK.getD Ux ((false,[]),(false,[]))).2.2))) cr nsr Ui Uc (λ(Yf:List RY1)=>ai .i64 (i+1)&&K ((i+1),Yf))))) (e0 UK))
def yY (N:Nat) (a Ut:Int) (e0:Kz0) (e1:Kz0):(Int × Int × List RY1)->((Int × Int × List RY1)->Bool)->Bool:=λv_ K=>match v_ with
 | (sign,c,b1)=>(cond (decide (c<a)) (DM N a Ut c c b1 (λmr=>DI N (b1.getD mr ((false,[]),(false,[]))).1.1 (b1.getD mr ((false,[]),(false,[]))).1.2 (b1.getD mr ((false,[]),(false,[]))).2.1 (b1.getD mr ((false,[]),(false,[]))).2.2 (λnr=>cond (decide (nr<0)) (e0 1) (DI N (b1.getD mr ((false,[]),(false,[]))).1.1 (b1.getD mr ((false,[]),(false,[]))).1.2 (b1.getD mr ((false,[]),(false,[]))).2.1 (b1.getD mr ((false,[]),(false,[]))).2.2 (λUf=>cond (Uf==0) (ai .i64 (c+1)&&am N (yZ N c a Ut b1 (λt2=>e0 t2) (ai .i64 (c+1)&&K (2,(c+1),b1))) (c+1)) (ai .i64 (c+1)&&am N (yX N sign c mr a Ut (λ(YG:List RY1)=>ai .i64 (c+1)&&K (sign,(c+1),YG))) ((c+1),b1))))))) (e1 sign))
def Jg (N:Nat) (UE Uo:Int) (Uw:List RY2) (k0:Kz0):Bool:=
 (Rn N UE Uo Uw (λ(lr:List RY1)=>am N (yY N UE Uo (λVM=>k0 VM) (λXW=>k0 XW)) (3,0,lr)))
def OE (N:Nat):Int->Int->List RY2->(Kz0)->Bool:=aB N (Jg N)
def N9 (N:Nat) (UE Uo:Int) (Uw:LF) (k0:Ky9):Bool:=
 (wo N UE Uo Uw (λ(lr:List RY1)=>OE N UE Uo lr (λnr=>k0 (nr==3))))
def Lx (N:Nat):Int->Int->LF->(Ky9)->Bool:=N9 N
def pT (N:Nat) (XF:LF) (VL WU:Int) (W0:LF) (k0:Kz0):Bool:=
 (wr N XF VL WU W0 (λnr=>cond (nr != 0) (k0 nr) (Lx N VL WU W0 (λcr=>cond (!cr) (k0 151) (k0 0)))))
def qN (N:Nat):LF->Int->Int->LF->(Kz0)->Bool:=aB N (pT N)
def vz (N:Nat) (UU Ut:Int) (UM UN:LF) (k0:Kz0):Bool:=
 (qN N UN UU Ut UM (λnr=>cond (nr==151) (k0 170) (k0 nr)))
def nc (N:Nat):Int->Int->LF->LF->(Kz0)->Bool:=vz N
abbrev Qy:=(Ky9)->Bool
def sQ4 (N:Nat):Qy:=λk=>k true
def N3 (N:Nat) (n:Int) (k0:Ky9):Bool:=
 (cond ((decide (n>=0))==true) (k0 (decide (n<=12))) (k0 false))
def GH (N:Nat):Int->(Ky9)->Bool:=N3 N
abbrev JG:=Fl->(Kz0)->Bool
def Ly (N:Nat):JG:=λx k=>k (xA x)
def jE (N:Nat) (t6:LF) (t7:Int) (e0:Ky9) (e1:Bool):(Int)->((Int)->Bool)->Bool:=λv_ K=>match v_ with
 | t8=>(cond (decide (t8<t7)) (inR t8 t6.length&&Ly N (t6.getD t8.toNat none) (λnr=>cond ((nr==1)==false) (cond (nr==2) (e0 false) (ai .i64 (t8+1)&&K (t8+1))) (e0 false))) e1)
def Ji (N:Nat) (l:LF) (k0:Ky9):Bool:=
 (am N (jE N l ((l.length:Nat):Int) (λt2=>k0 t2) (k0 true)) 0)
def yL (N:Nat):LF->(Ky9)->Bool:=aB N (Ji N)
def Pj (N:Nat) (UE Uo:Int) (Uw:LF) (k0:Kz0):Bool:=
 (GH N UE (λcr=>cond ((!cr)==false) (GH N Uo (λUi=>cond (!Ui) (k0 1) (ai .i64 (UE*Uo)&&cond (((Uw.length:Nat):Int) != (UE*Uo)) (k0 3) (yL N Uw (λUs=>cond (!Us) (k0 4) (k0 0)))))) (k0 1)))
def LA (N:Nat):Int->Int->LF->(Kz0)->Bool:=aB N (Pj N)
def vt (N:Nat) (UE Uo:Int) (Uw:LF) (i j:Int) (k0:Kz2):Bool:=
 (ai .i64 (i*Uo)&&(ai .i64 ((i*Uo)+j)&&(inR ((i*Uo)+j) Uw.length&&k0 (Uw.getD (Int.toNat ((i*Uo)+j)) none))))
def m8 (N:Nat):Int->Int->LF->Int->Int->(Kz2)->Bool:=vt N
abbrev JH:=Fl->Fl->(Ky9)->Bool
def LB (N:Nat):JH:=λx y k=>k (decide (cn x=cn y))
def BU (N:Nat) (i Xh Xi t20 W8 W9:Int) (W_:LF) (e0:Ky9) (e1:Bool):(Int)->((Int)->Bool)->Bool:=λv_ K=>match v_ with
 | t21=>(cond (decide (t21<t20)) (m8 N W8 W9 W_ i t21 (λxr=>m8 N W8 W9 W_ t21 i (λVe=>LB N xr Ve (λcr=>cond (!cr) (e0 false) (ai .i64 (t21+1)&&K (t21+1)))))) e1)
def BT (N:Nat) (t16 m Vl:Int) (V9:LF) (e0:Ky9) (e1:Bool):(Int)->((Int)->Bool)->Bool:=λv_ K=>match v_ with
 | t17=>(cond (decide (t17<t16)) (am N (BU N t17 t16 t17 t17 m Vl V9 (λt2=>e0 t2) (ai .i64 (t17+1)&&K (t17+1))) 0) e1)
def Py (N:Nat) (UE Uo:Int) (Uw:LF) (k0:Ky9):Bool:=
 (LA N UE Uo Uw (λnr=>cond ((nr != 0)==false) (cond (UE != Uo) (k0 false) (am N (BT N UE UE Uo Uw (λVM=>k0 VM) (k0 true)) 0)) (k0 false)))
def Rm (N:Nat):Int->Int->LF->(Ky9)->Bool:=aB N (Py N)
def tC (N:Nat) (is:Bool) (e:Int) (k0:Bool):Bool:=
 (cond (!is) false k0)
def cW (N:Nat):Bool->Int->(Bool)->Bool:=tC N
def Mp (N:Nat) (x:Int) (k0:Kz0):Bool:=
 (cond (x==0) (k0 64) (inR (Int.fdiv (IntKind.wrap .u64 ((aA .and .u64 x (IntKind.wrap .u64 (0 - x)))*285870213051353865)) (2 ^ 58)) 64&&(ai .i64 (wA.getD (Int.toNat (Int.fdiv (IntKind.wrap .u64 ((aA .and .u64 x (IntKind.wrap .u64 (0 - x)))*285870213051353865)) (2 ^ 58))) 0)&&k0 (wA.getD (Int.toNat (Int.fdiv (IntKind.wrap .u64 ((aA .and .u64 x (IntKind.wrap .u64 (0 - x)))*285870213051353865)) (2 ^ 58))) 0))))
def Q7 (N:Nat):Int->(Kz0)->Bool:=aB N (Mp N)
def G6 (N:Nat) (b U8 Va Vh:Int) (p:Bool) (XB WR:Int) (k0:Kx3):Bool:=
 (Q7 N XB (λUA=>decide (0<=UA)&&(ai .i64 (WR+UA)&&k0 p (Int.fdiv XB (2 ^ (min UA.toNat 64))) (WR+UA) 0)))
def Pw (N:Nat) (b U8 Va Vh:Int) (k0:Kx3):Bool:=
 (NM N b U8 Va Vh (λcr nr Uf=>ai .i64 (nr - Vh)&&NL N b U8 Va Vh (λUj=>cond (Uj==1) (k0 false 0 0 4) (cond (Uj==2) (k0 false 0 0 4) (cond (Uj==3) (k0 cr 0 0 0) (cond (Uj==4) (ai .i64 ((nr - Vh)+1)&&G6 N b U8 Va Vh cr Uf ((nr - Vh)+1) k0) (kK N U8 Va Vh (λUp=>G6 N b U8 Va Vh cr (aA .or .u64 Uf Up) (nr - Vh) k0))))))))
def Rk (N:Nat):Int->Int->Int->Int->(Kx3)->Bool:=aB N (Pw N)
def xk (N:Nat) (x:Fl) (k0:Kx3):Bool:=
 (uf N x (λnr=>rP N (λUf Uj Up=>Rk N nr Uf Uj Up (λcr UA n5 n6=>k0 cr UA n5 n6))))
def oT (N:Nat):Fl->(Kx3)->Bool:=xk N
def tw (N:Nat) (x:LI) (e0:Kz0):(Int)->((Int)->Bool)->Bool:=λv_ K=>match v_ with
 | n=>(cond ((decide (n>0))==true) (ai .i64 (n - 1)&&(inR (n - 1) x.length&&(decide ((Int.toNat (n - 1))<x.length)&&cond ((x.getD (Int.toNat (n - 1)) 0)==0) (ai .i64 (n - 1)&&K (n - 1)) (e0 n)))) (e0 n))
def Pa (N:Nat) (b:LI) (k0:Kz1):Bool:=
 (am N (tw N b (λUn=>decide (0<=Un/\Un<=((b.length:Nat):Int))&&k0 (Un.toNat - 0))) ((b.length:Nat):Int))
def uh (N:Nat):LI->(Kz1)->Bool:=aB N (Pa N)
def xl (N:Nat) (n:Int) (k0:Kz3):Bool:=
 (uh N [n] (λmr=>decide ((0+mr)<=(List.length [n]))&&k0 (List.take mr (List.drop 0 [n]))))
def iW (N:Nat):Int->(Kz3)->Bool:=xl N
def RH (N:Nat) (neg:Bool) (abs:LI) (b:Bool) (k0:Ky9):Bool:=
 (cond (neg==true) (k0 (decide (((abs.length:Nat):Int)>0))) (k0 false))
def BG (N:Nat):Bool->LI->Bool->(Ky9)->Bool:=RH N
def O0 (N:Nat) (n:Int) (b:Bool) (k0:Ky3):Bool:=
 (iW N n (λnsr=>BG N false nsr b (λcr=>k0 cr nsr)))
def NB (N:Nat):Int->Bool->(Ky3)->Bool:=aB N (O0 N)
def NZ (N:Nat) (x:LI) (k0:Kz3):Bool:=
 (decide ((List.length ([]++x))*8<=140737488355328)&&k0 ([]++x))
def pz (N:Nat):LI->(Kz3)->Bool:=NZ N
def SS (N:Nat) (neg:Bool) (abs:LI) (b:Bool) (Ub:LI) (k0:Ky9):Bool:=
 (cond (neg==true) (k0 (decide (((abs.length:Nat):Int)>0))) (k0 false))
def Ix (N:Nat):Bool->LI->Bool->LI->(Ky9)->Bool:=SS N
def Pc (N:Nat) (b:Bool) (Ub:LI) (k0:Ky3):Bool:=
 (pz N Ub (λnsr=>Ix N (!b) nsr b Ub (λcr=>k0 cr nsr)))
def NI (N:Nat):Bool->LI->(Ky3)->Bool:=aB N (Pc N)
def Pf (N:Nat) (n:Int) (b:Bool) (k0:Ky3):Bool:=
 (cond (decide (n<0)) (iW N (IntKind.wrap .u64 (0 - (IntKind.wrap .u64 n))) (λnsr=>BG N true nsr b (λcr=>k0 cr nsr))) (iW N (IntKind.wrap .u64 n) (λUc=>BG N false Uc b (λUi=>k0 Ui Uc))))
def Sy (N:Nat):Int->Bool->(Ky3)->Bool:=aB N (Pf N)
def N8 (N:Nat) (n:Int) (k0:Ky3):Bool:=
 (Sy N n false (λcr nsr=>k0 cr nsr))
def DL (N:Nat):Int->(Ky3)->Bool:=N8 N
def dT (N:Nat) (words rest:Int) (t24:LI) (t25:Int) (e0:Kz3):(Int × LI)->((Int × LI)->Bool)->Bool:=λv_ K=>match v_ with
 | (t26,z)=>(cond (decide (t26<t25)) (inR t26 t24.length&&(ai .i64 (words+t26)&&(inR (words+t26) z.length&&(decide ((Int.toNat (words+t26))<z.length)&&(decide (0<=rest)&&(inR (words+t26) z.length&&(decide ((Int.toNat (words+t26))<z.length)&&(ai .i64 (words+t26)&&(ai .i64 ((words+t26)+1)&&(decide (0<=(IntKind.wrap .u64 (64 - rest)))&&(inR ((words+t26)+1) (List.length (z.set (Int.toNat (words+t26)) (aA .or .u64 (z.getD (Int.toNat (words+t26)) 0) (IntKind.wrap .u64 ((t24.getD t26.toNat 0)*2 ^ (min rest.toNat 64))))))&&(decide ((Int.toNat ((words+t26)+1))<(List.length (z.set (Int.toNat (words+t26)) (aA .or .u64 (z.getD (Int.toNat (words+t26)) 0) (IntKind.wrap .u64 ((t24.getD t26.toNat 0)*2 ^ (min rest.toNat 64)))))))&&(ai .i64 (t26+1)&&K ((t26+1),(List.set (z.set (Int.toNat (words+t26)) (aA .or .u64 (z.getD (Int.toNat (words+t26)) 0) (IntKind.wrap .u64 ((t24.getD t26.toNat 0)*2 ^ (min rest.toNat 64))))) (Int.toNat ((words+t26)+1)) (Int.fdiv (t24.getD t26.toNat 0) (2 ^ (min (Int.toNat (IntKind.wrap .u64 (64 - rest))) 64)))))))))))))))))) (e0 z))
def su (N:Nat) (x:LI) (n:Int) (k0:Kz3):Bool:=
 (cond (((x.length:Nat):Int)==0) (k0 []) (ai .i64 (IntKind.wrap .u64 (Int.tdiv n 64))&&(ai .i64 ((IntKind.wrap .u64 (Int.tdiv n 64))+((x.length:Nat):Int))&&(ai .i64 (((IntKind.wrap .u64 (Int.tdiv n 64))+((x.length:Nat):Int))+1)&&(g_ 8 (((IntKind.wrap .u64 (Int.tdiv n 64))+((x.length:Nat):Int))+1) (((IntKind.wrap .u64 (Int.tdiv n 64))+((x.length:Nat):Int))+1)&&am N (dT N (IntKind.wrap .u64 (Int.tdiv n 64)) (Int.tmod n 64) x ((x.length:Nat):Int) (λUY=>uh N UY (λmr=>decide ((0+mr)<=UY.length)&&k0 (List.take mr (List.drop 0 UY))))) (0,(List.replicate (Int.toNat (((IntKind.wrap .u64 (Int.tdiv n 64))+((x.length:Nat):Int))+1)) (0:Int))))))))
def th (N:Nat):LI->Int->(Kz3)->Bool:=aB N (su N)
def RV (N:Nat) (n:Int) (b Ub:Bool) (Ud:LI) (k0:Ky3):Bool:=
 (th N Ud n (λnsr=>BG N Ub nsr b (λcr=>k0 cr nsr)))
def Rh (N:Nat):Int->Bool->Bool->LI->(Ky3)->Bool:=RV N
def tn (N:Nat) (Ur UB:LI) (e0:Kz0) (e1:Bool):(Int)->((Int)->Bool)->Bool:=λv_ K=>match v_ with
 | i=>(cond (decide (i>=0)) (inR i Ur.length&&(inR i UB.length&&cond ((Ur.getD i.toNat 0) != (UB.getD i.toNat 0)) (inR i Ur.length&&(inR i UB.length&&cond (decide ((Ur.getD i.toNat 0)<(UB.getD i.toNat 0))) (e0 (-1)) (e0 1))) (ai .i64 (i - 1)&&K (i - 1)))) e1)
def I8 (N:Nat) (x y:LI) (k0:Kz0):Bool:=
 (cond (((x.length:Nat):Int) != ((y.length:Nat):Int)) (cond (decide (((x.length:Nat):Int)<((y.length:Nat):Int))) (k0 (-1)) (k0 1)) (ai .i64 (((x.length:Nat):Int) - 1)&&am N (tn N x y (λt4=>k0 t4) (k0 0)) (((x.length:Nat):Int) - 1)))
def AG (N:Nat):LI->LI->(Kz0)->Bool:=aB N (I8 N)
def FY (N:Nat) (x UD Un:Int) (k0:Kz0):Bool:=
 (cond (decide (UD>=256)) (ai .i64 (Un+8)&&(inR (IntKind.wrap .u8 (Int.fdiv UD (2 ^ 8))) 256&&(ai .i64 (av.getD (Int.toNat (IntKind.wrap .u8 (Int.fdiv UD (2 ^ 8)))) 0)&&(ai .i64 ((Un+8)+(av.getD (Int.toNat (IntKind.wrap .u8 (Int.fdiv UD (2 ^ 8)))) 0))&&k0 ((Un+8)+(av.getD (Int.toNat (IntKind.wrap .u8 (Int.fdiv UD (2 ^ 8)))) 0)))))) (inR (IntKind.wrap .u8 UD) 256&&(ai .i64 (av.getD (Int.toNat (IntKind.wrap .u8 UD)) 0)&&(ai .i64 (Un+(av.getD (Int.toNat (IntKind.wrap .u8 UD)) 0))&&k0 (Un+(av.getD (Int.toNat (IntKind.wrap .u8 UD)) 0))))))
def FX (N:Nat) (x Ur n:Int) (k0:Kz0):Bool:=
 (cond (decide (Ur>=65536)) (ai .i64 (n+16)&&FY N x (Int.fdiv Ur (2 ^ 16)) (n+16) k0) (FY N x Ur n k0))
def Pp (N:Nat) (x:Int) (k0:Kz0):Bool:=
 (cond (decide (x>=4294967296)) (FX N x (Int.fdiv x (2 ^ 32)) 32 k0) (FX N x x 0 k0))
def NP (N:Nat):Int->(Kz0)->Bool:=aB N (Pp N)
def nY (N:Nat) (x:LI) (k0:Kz0):Bool:=
 (cond (((x.length:Nat):Int)==0) (k0 0) (ai .i64 (((x.length:Nat):Int) - 1)&&(ai .i64 (64*(((x.length:Nat):Int) - 1))&&(ai .i64 (((x.length:Nat):Int) - 1)&&(inR (((x.length:Nat):Int) - 1) x.length&&NP N (x.getD (Int.toNat (((x.length:Nat):Int) - 1)) 0) (λnr=>ai .i64 ((64*(((x.length:Nat):Int) - 1))+nr)&&k0 ((64*(((x.length:Nat):Int) - 1))+nr)))))))
def oU (N:Nat):LI->(Kz0)->Bool:=aB N (nY N)
def N5 (N:Nat) (x:LI) (i:Int) (k0:Kz0):Bool:=
 (cond (decide (i<((x.length:Nat):Int))) (inR i x.length&&k0 (x.getD i.toNat 0)) (k0 0))
def wm (N:Nat):LI->Int->(Kz0)->Bool:=N5 N
def uz (N:Nat) (x:LI) (from_:Int) (k0:Kz0):Bool:=
 (ai .i64 (Int.tdiv from_ 64)&&wm N x (Int.tdiv from_ 64) (λnr=>decide (0<=(IntKind.wrap .u64 (Int.tmod from_ 64)))&&(ai .i64 ((Int.tdiv from_ 64)+1)&&wm N x ((Int.tdiv from_ 64)+1) (λUf=>decide (0<=(IntKind.wrap .u64 (64 - (IntKind.wrap .u64 (Int.tmod from_ 64)))))&&k0 (aA .or .u64 (Int.fdiv nr (2 ^ (min (Int.toNat (IntKind.wrap .u64 (Int.tmod from_ 64))) 64))) (IntKind.wrap .u64 (Uf*2 ^ (min (Int.toNat (IntKind.wrap .u64 (64 - (IntKind.wrap .u64 (Int.tmod from_ 64))))) 64))))))))
def rR (N:Nat):LI->Int->(Kz0)->Bool:=aB N (uz N)
def mv (N:Nat) (t4 XX WC WD:Int) (XY:Bool) (e0:Kx0):(Int × Int × Int × Int × Int × Int × Int × Int × Bool)->((Int × Int × Int × Int × Int × Int × Int × Int × Bool)->Bool)->Bool:=λv_ K=>match v_ with
 | (Ur,UB,u,v,w,Wj,Wc,WF,W1)=>(cond ((decide (UB>=v))==true) (cond (decide ((IntKind.wrap .u64 (Ur - UB))>=(IntKind.wrap .u64 (WF+v)))) ((!decide (UB=0))&&((!decide (UB=0))&&K (UB,(Int.tmod Ur UB),(IntKind.wrap .u64 (Wc+(IntKind.wrap .u64 ((IntKind.wrap .u64 (Int.tdiv Ur UB))*u)))),(IntKind.wrap .u64 (WF+(IntKind.wrap .u64 ((IntKind.wrap .u64 (Int.tdiv Ur UB))*v)))),Wc,WF,u,v,(!W1)))) (e0 w Wj Wc WF W1)) (e0 w Wj Wc WF W1))
def vq (N:Nat) (x y:Int) (k0:Kx0):Bool:=
 (am N (mv N 0 0 0 0 false (λYl X6 Ym Y1 Y2=>k0 Yl X6 Ym Y1 Y2)) (x,y,0,1,0,0,1,0,true))
def qF (N:Nat):Int->Int->(Kx0)->Bool:=aB N (vq N)
def I4 (N:Nat) (x y:Int) (k0:Ky2):Bool:=
 (k0 (IntKind.wrap .u64 ((IntKind.wrap .u64 ((IntKind.wrap .u64 ((Int.fdiv x (2 ^ 32))*(Int.fdiv y (2 ^ 32))))+(Int.fdiv (IntKind.wrap .u64 ((IntKind.wrap .u64 ((Int.fdiv x (2 ^ 32))*(aA .and .u64 y 4294967295)))+(Int.fdiv (IntKind.wrap .u64 ((aA .and .u64 x 4294967295)*(aA .and .u64 y 4294967295))) (2 ^ 32)))) (2 ^ 32))))+(Int.fdiv (IntKind.wrap .u64 ((aA .and .u64 (IntKind.wrap .u64 ((IntKind.wrap .u64 ((Int.fdiv x (2 ^ 32))*(aA .and .u64 y 4294967295)))+(Int.fdiv (IntKind.wrap .u64 ((aA .and .u64 x 4294967295)*(aA .and .u64 y 4294967295))) (2 ^ 32)))) 4294967295)+(IntKind.wrap .u64 ((aA .and .u64 x 4294967295)*(Int.fdiv y (2 ^ 32)))))) (2 ^ 32)))) (IntKind.wrap .u64 (x*y)))
def DH (N:Nat):Int->Int->(Ky2)->Bool:=aB N (I4 N)
abbrev Qz:=Int->Int->Int->(Ky2)->Bool
def sQ6 (N:Nat):Qz:=λx y c k=>(decide (c.toNat<=1))&&k (((x.toNat+y.toNat+c.toNat)%18446744073709551616:Nat):Int) (((x.toNat+y.toNat+c.toNat) / 18446744073709551616:Nat):Int)
def sr (N:Nat) (a b c d:Int) (k0:Ky2):Bool:=
 (DH N a b (λnr Uf=>sQ6 N Uf c 0 (λUj Up=>sQ6 N Uj d 0 (λUA n5=>k0 (IntKind.wrap .u64 ((IntKind.wrap .u64 (nr+Up))+n5)) UA))))
def ka (N:Nat):Int->Int->Int->Int->(Ky2)->Bool:=aB N (sr N)
def km (N:Nat) (Ur:LI) (UK:Int) (t14:LI) (t15:Int) (e0:Ky6):(Int × Int × LI)->((Int × Int × LI)->Bool)->Bool:=λv_ K=>match v_ with
 | (Xa,t16,z)=>(cond (decide (t16<t15)) (inR t16 t14.length&&ka N (t14.getD t16.toNat 0) UK 0 Xa (λnr Uf=>inR t16 z.length&&(decide (t16.toNat<z.length)&&(ai .i64 (t16+1)&&K (nr,(t16+1),(z.set t16.toNat Uf)))))) (e0 Xa z))
def Jh (N:Nat) (x:LI) (d more:Int) (k0:Kz3):Bool:=
 (ai .i64 (((x.length:Nat):Int)+1)&&(g_ 8 (((x.length:Nat):Int)+1) (((x.length:Nat):Int)+1)&&am N (km N x d x ((x.length:Nat):Int) (λWv UY=>inR ((x.length:Nat):Int) UY.length&&(decide ((Int.toNat ((x.length:Nat):Int))<UY.length)&&uh N (UY.set (Int.toNat ((x.length:Nat):Int)) Wv) (λmr=>decide ((0+mr)<=(List.length (UY.set (Int.toNat ((x.length:Nat):Int)) Wv)))&&k0 (List.take mr (List.drop 0 (UY.set (Int.toNat ((x.length:Nat):Int)) Wv))))))) (more,0,(List.replicate (Int.toNat (((x.length:Nat):Int)+1)) (0:Int)))))
def sm (N:Nat):LI->Int->Int->(Kz3)->Bool:=aB N (Jh N)
abbrev QA:=Int->Int->Int->(Ky2)->Bool
def sQ8 (N:Nat):QA:=λx y c k=>(decide (c.toNat<=1))&&k (((x.toNat+18446744073709551616 - y.toNat - c.toNat)%18446744073709551616:Nat):Int) (cond (decide (x.toNat<y.toNat+c.toNat)) 1 0)
def kl (N:Nat) (Ur UB:LI) (t12:Int) (e0:Kz3):(Int × Int × LI)->((Int × Int × LI)->Bool)->Bool:=λv_ K=>match v_ with
 | (borrow,t13,z)=>(cond (decide (t13<t12)) (inR t13 Ur.length&&wm N UB t13 (λnr=>sQ8 N (Ur.getD t13.toNat 0) nr borrow (λUf Uj=>inR t13 z.length&&(decide (t13.toNat<z.length)&&(ai .i64 (t13+1)&&K (Uj,(t13+1),(z.set t13.toNat Uf))))))) (e0 z))
def Jp (N:Nat) (x y:LI) (k0:Kz3):Bool:=
 (g_ 8 ((x.length:Nat):Int) ((x.length:Nat):Int)&&am N (kl N x y ((x.length:Nat):Int) (λUY=>uh N UY (λmr=>decide ((0+mr)<=UY.length)&&k0 (List.take mr (List.drop 0 UY))))) (0,0,(List.replicate (Int.toNat ((x.length:Nat):Int)) (0:Int))))
def wn (N:Nat):LI->LI->(Kz3)->Bool:=aB N (Jp N)
def dG (N:Nat) (WX Wj Wc WF:Int) (W1:Bool) (x y:LI) (k0:Ky8):Bool:=
 (cond W1 (sm N y Wj 0 (λnsr=>sm N x WX 0 (λUc=>wn N nsr Uc (λUh=>sm N x Wc 0 (λUg=>sm N y WF 0 (λUk=>wn N Ug Uk (λUl=>k0 Uh Ul))))))) (sm N x WX 0 (λs6=>sm N y Wj 0 (λs7=>wn N s6 s7 (λs8=>sm N y WF 0 (λs9=>sm N x Wc 0 (λs10=>wn N s9 s10 (λs11=>k0 s8 s11))))))))
def dO (N:Nat):Int->Int->Int->Int->Bool->LI->LI->(Ky8)->Bool:=aB N (dG N)
def RK (N:Nat) (x:Int) (k0:Kz0):Bool:=
 (NP N x (λnr=>ai .i64 (64 - nr)&&k0 (64 - nr)))
def NE (N:Nat):Int->(Kz0)->Bool:=RK N
def vk (N:Nat) (UB s yn1 yn0 un32 un1 un0:Int) (e0:Kz0):(Int × Int)->((Int × Int)->Bool)->Bool:=λv_ K=>match v_ with
 | (q1,rhat)=>(cond ((decide (q1>=4294967296))==false) (cond (decide ((IntKind.wrap .u64 (q1*yn0))>(IntKind.wrap .u64 ((IntKind.wrap .u64 (4294967296*rhat))+un1)))) (cond (decide ((IntKind.wrap .u64 (rhat+yn1))>=4294967296)) (e0 (IntKind.wrap .u64 (q1 - 1))) (K ((IntKind.wrap .u64 (q1 - 1)),(IntKind.wrap .u64 (rhat+yn1))))) (e0 q1)) (cond (decide ((IntKind.wrap .u64 (rhat+yn1))>=4294967296)) (e0 (IntKind.wrap .u64 (q1 - 1))) (K ((IntKind.wrap .u64 (q1 - 1)),(IntKind.wrap .u64 (rhat+yn1))))))
def vm (N:Nat) (UQ VL VX Xu WM XV un21:Int) (e0:Kz0):(Int × Int)->((Int × Int)->Bool)->Bool:=λv_ K=>match v_ with
 | (VK,q0)=>(cond ((decide (q0>=4294967296))==false) (cond (decide ((IntKind.wrap .u64 (q0*Xu))>(IntKind.wrap .u64 ((IntKind.wrap .u64 (4294967296*VK))+WM)))) (cond (decide ((IntKind.wrap .u64 (VK+VX))>=4294967296)) (e0 (IntKind.wrap .u64 (q0 - 1))) (K ((IntKind.wrap .u64 (VK+VX)),(IntKind.wrap .u64 (q0 - 1))))) (e0 q0)) (cond (decide ((IntKind.wrap .u64 (VK+VX))>=4294967296)) (e0 (IntKind.wrap .u64 (q0 - 1))) (K ((IntKind.wrap .u64 (VK+VX)),(IntKind.wrap .u64 (q0 - 1))))))
def I3 (N:Nat) (hi lo y:Int) (k0:Ky2):Bool:=
 (cond (y==0) false (cond (decide (y<=hi)) false (cond (hi==0) ((!decide (y=0))&&((!decide (y=0))&&k0 (IntKind.wrap .u64 (Int.tdiv lo y)) (Int.tmod lo y))) (NE N y (λnr=>decide (0<=(IntKind.wrap .u64 nr))&&(decide (0<=(IntKind.wrap .u64 nr))&&(decide (0<=(IntKind.wrap .u64 (64 - (IntKind.wrap .u64 nr))))&&(decide (0<=(IntKind.wrap .u64 nr))&&((!decide ((Int.fdiv (IntKind.wrap .u64 (y*2 ^ (min (Int.toNat (IntKind.wrap .u64 nr)) 64))) (2 ^ 32))=0))&&am N (vk N (IntKind.wrap .u64 (y*2 ^ (min (Int.toNat (IntKind.wrap .u64 nr)) 64))) (IntKind.wrap .u64 nr) (Int.fdiv (IntKind.wrap .u64 (y*2 ^ (min (Int.toNat (IntKind.wrap .u64 nr)) 64))) (2 ^ 32)) (aA .and .u64 (IntKind.wrap .u64 (y*2 ^ (min (Int.toNat (IntKind.wrap .u64 nr)) 64))) 4294967295) (aA .or .u64 (IntKind.wrap .u64 (hi*2 ^ (min (Int.toNat (IntKind.wrap .u64 nr)) 64))) (Int.fdiv lo (2 ^ (min (Int.toNat (IntKind.wrap .u64 (64 - (IntKind.wrap .u64 nr)))) 64)))) (Int.fdiv (IntKind.wrap .u64 (lo*2 ^ (min (Int.toNat (IntKind.wrap .u64 nr)) 64))) (2 ^ 32)) (aA .and .u64 (IntKind.wrap .u64 (lo*2 ^ (min (Int.toNat (IntKind.wrap .u64 nr)) 64))) 4294967295) (λWx=>(!decide ((Int.fdiv (IntKind.wrap .u64 (y*2 ^ (min (Int.toNat (IntKind.wrap .u64 nr)) 64))) (2 ^ 32))=0))&&am N (vm N (IntKind.wrap .u64 (y*2 ^ (min (Int.toNat (IntKind.wrap .u64 nr)) 64))) (IntKind.wrap .u64 nr) (Int.fdiv (IntKind.wrap .u64 (y*2 ^ (min (Int.toNat (IntKind.wrap .u64 nr)) 64))) (2 ^ 32)) (aA .and .u64 (IntKind.wrap .u64 (y*2 ^ (min (Int.toNat (IntKind.wrap .u64 nr)) 64))) 4294967295) (aA .and .u64 (IntKind.wrap .u64 (lo*2 ^ (min (Int.toNat (IntKind.wrap .u64 nr)) 64))) 4294967295) Wx (IntKind.wrap .u64 ((IntKind.wrap .u64 ((IntKind.wrap .u64 ((aA .or .u64 (IntKind.wrap .u64 (hi*2 ^ (min (Int.toNat (IntKind.wrap .u64 nr)) 64))) (Int.fdiv lo (2 ^ (min (Int.toNat (IntKind.wrap .u64 (64 - (IntKind.wrap .u64 nr)))) 64))))*4294967296))+(Int.fdiv (IntKind.wrap .u64 (lo*2 ^ (min (Int.toNat (IntKind.wrap .u64 nr)) 64))) (2 ^ 32)))) - (IntKind.wrap .u64 (Wx*(IntKind.wrap .u64 (y*2 ^ (min (Int.toNat (IntKind.wrap .u64 nr)) 64))))))) (λYh=>decide (0<=(IntKind.wrap .u64 nr))&&k0 (IntKind.wrap .u64 ((IntKind.wrap .u64 (Wx*4294967296))+Yh)) (Int.fdiv (IntKind.wrap .u64 ((IntKind.wrap .u64 ((IntKind.wrap .u64 ((IntKind.wrap .u64 ((IntKind.wrap .u64 ((IntKind.wrap .u64 ((aA .or .u64 (IntKind.wrap .u64 (hi*2 ^ (min (Int.toNat (IntKind.wrap .u64 nr)) 64))) (Int.fdiv lo (2 ^ (min (Int.toNat (IntKind.wrap .u64 (64 - (IntKind.wrap .u64 nr)))) 64))))*4294967296))+(Int.fdiv (IntKind.wrap .u64 (lo*2 ^ (min (Int.toNat (IntKind.wrap .u64 nr)) 64))) (2 ^ 32)))) - (IntKind.wrap .u64 (Wx*(IntKind.wrap .u64 (y*2 ^ (min (Int.toNat (IntKind.wrap .u64 nr)) 64)))))))*4294967296))+(aA .and .u64 (IntKind.wrap .u64 (lo*2 ^ (min (Int.toNat (IntKind.wrap .u64 nr)) 64))) 4294967295))) - (IntKind.wrap .u64 (Yh*(IntKind.wrap .u64 (y*2 ^ (min (Int.toNat (IntKind.wrap .u64 nr)) 64))))))) (2 ^ (min (Int.toNat (IntKind.wrap .u64 nr)) 64))))) ((IntKind.wrap .u64 ((IntKind.wrap .u64 ((IntKind.wrap .u64 ((IntKind.wrap .u64 ((aA .or .u64 (IntKind.wrap .u64 (hi*2 ^ (min (Int.toNat (IntKind.wrap .u64 nr)) 64))) (Int.fdiv lo (2 ^ (min (Int.toNat (IntKind.wrap .u64 (64 - (IntKind.wrap .u64 nr)))) 64))))*4294967296))+(Int.fdiv (IntKind.wrap .u64 (lo*2 ^ (min (Int.toNat (IntKind.wrap .u64 nr)) 64))) (2 ^ 32)))) - (IntKind.wrap .u64 (Wx*(IntKind.wrap .u64 (y*2 ^ (min (Int.toNat (IntKind.wrap .u64 nr)) 64))))))) - (IntKind.wrap .u64 ((IntKind.wrap .u64 (Int.tdiv (IntKind.wrap .u64 ((IntKind.wrap .u64 ((IntKind.wrap .u64 ((aA .or .u64 (IntKind.wrap .u64 (hi*2 ^ (min (Int.toNat (IntKind.wrap .u64 nr)) 64))) (Int.fdiv lo (2 ^ (min (Int.toNat (IntKind.wrap .u64 (64 - (IntKind.wrap .u64 nr)))) 64))))*4294967296))+(Int.fdiv (IntKind.wrap .u64 (lo*2 ^ (min (Int.toNat (IntKind.wrap .u64 nr)) 64))) (2 ^ 32)))) - (IntKind.wrap .u64 (Wx*(IntKind.wrap .u64 (y*2 ^ (min (Int.toNat (IntKind.wrap .u64 nr)) 64))))))) (Int.fdiv (IntKind.wrap .u64 (y*2 ^ (min (Int.toNat (IntKind.wrap .u64 nr)) 64))) (2 ^ 32))))*(Int.fdiv (IntKind.wrap .u64 (y*2 ^ (min (Int.toNat (IntKind.wrap .u64 nr)) 64))) (2 ^ 32)))))),(IntKind.wrap .u64 (Int.tdiv (IntKind.wrap .u64 ((IntKind.wrap .u64 ((IntKind.wrap .u64 ((aA .or .u64 (IntKind.wrap .u64 (hi*2 ^ (min (Int.toNat (IntKind.wrap .u64 nr)) 64))) (Int.fdiv lo (2 ^ (min (Int.toNat (IntKind.wrap .u64 (64 - (IntKind.wrap .u64 nr)))) 64))))*4294967296))+(Int.fdiv (IntKind.wrap .u64 (lo*2 ^ (min (Int.toNat (IntKind.wrap .u64 nr)) 64))) (2 ^ 32)))) - (IntKind.wrap .u64 (Wx*(IntKind.wrap .u64 (y*2 ^ (min (Int.toNat (IntKind.wrap .u64 nr)) 64))))))) (Int.fdiv (IntKind.wrap .u64 (y*2 ^ (min (Int.toNat (IntKind.wrap .u64 nr)) 64))) (2 ^ 32))))))) ((IntKind.wrap .u64 (Int.tdiv (aA .or .u64 (IntKind.wrap .u64 (hi*2 ^ (min (Int.toNat (IntKind.wrap .u64 nr)) 64))) (Int.fdiv lo (2 ^ (min (Int.toNat (IntKind.wrap .u64 (64 - (IntKind.wrap .u64 nr)))) 64)))) (Int.fdiv (IntKind.wrap .u64 (y*2 ^ (min (Int.toNat (IntKind.wrap .u64 nr)) 64))) (2 ^ 32)))),(IntKind.wrap .u64 ((aA .or .u64 (IntKind.wrap .u64 (hi*2 ^ (min (Int.toNat (IntKind.wrap .u64 nr)) 64))) (Int.fdiv lo (2 ^ (min (Int.toNat (IntKind.wrap .u64 (64 - (IntKind.wrap .u64 nr)))) 64)))) - (IntKind.wrap .u64 ((IntKind.wrap .u64 (Int.tdiv (aA .or .u64 (IntKind.wrap .u64 (hi*2 ^ (min (Int.toNat (IntKind.wrap .u64 nr)) 64))) (Int.fdiv lo (2 ^ (min (Int.toNat (IntKind.wrap .u64 (64 - (IntKind.wrap .u64 nr)))) 64)))) (Int.fdiv (IntKind.wrap .u64 (y*2 ^ (min (Int.toNat (IntKind.wrap .u64 nr)) 64))) (2 ^ 32))))*(Int.fdiv (IntKind.wrap .u64 (y*2 ^ (min (Int.toNat (IntKind.wrap .u64 nr)) 64))) (2 ^ 32))))))))))))))))
def DG (N:Nat):Int->Int->Int->(Ky2)->Bool:=aB N (I3 N)
def jF (N:Nat) (Ur:LI) (UK:Int) (e0:Ky6):(Int × Int × LI)->((Int × Int × LI)->Bool)->Bool:=λv_ K=>match v_ with
 | (rest,i,q)=>(cond (decide (i>=0)) (inR i Ur.length&&DG N rest (Ur.getD i.toNat 0) UK (λnr Uf=>inR i q.length&&(decide (i.toNat<q.length)&&(ai .i64 (i - 1)&&K (Uf,(i - 1),(q.set i.toNat nr)))))) (e0 rest q))
def pI (N:Nat) (x:LI) (d:Int) (k0:LI->Int->Bool):Bool:=
 (g_ 8 ((x.length:Nat):Int) ((x.length:Nat):Int)&&(ai .i64 (((x.length:Nat):Int) - 1)&&am N (jF N x d (λVm We=>uh N We (λmr=>decide ((0+mr)<=We.length)&&k0 (List.take mr (List.drop 0 We)) Vm))) (0,(((x.length:Nat):Int) - 1),(List.replicate (Int.toNat ((x.length:Nat):Int)) (0:Int)))))
def mY (N:Nat):LI->Int->(LI->Int->Bool)->Bool:=aB N (pI N)
def mw (N:Nat) (words rest:Int) (t24:LI) (t25:Int) (e0:Kz3):(Int × LI)->((Int × LI)->Bool)->Bool:=λv_ K=>match v_ with
 | (t26,z)=>(cond (decide (t26<t25)) (inR t26 t24.length&&(ai .i64 (words+t26)&&(inR (words+t26) z.length&&(decide ((Int.toNat (words+t26))<z.length)&&(decide (0<=rest)&&(inR (words+t26) z.length&&(decide ((Int.toNat (words+t26))<z.length)&&(ai .i64 (words+t26)&&(ai .i64 ((words+t26)+1)&&(decide (0<=(IntKind.wrap .u64 (64 - rest)))&&(inR ((words+t26)+1) (List.length (z.set (Int.toNat (words+t26)) (aA .or .u64 (z.getD (Int.toNat (words+t26)) 0) (IntKind.wrap .u64 ((t24.getD t26.toNat 0)*2 ^ (min rest.toNat 64))))))&&(decide ((Int.toNat ((words+t26)+1))<(List.length (z.set (Int.toNat (words+t26)) (aA .or .u64 (z.getD (Int.toNat (words+t26)) 0) (IntKind.wrap .u64 ((t24.getD t26.toNat 0)*2 ^ (min rest.toNat 64)))))))&&(ai .i64 (t26+1)&&K ((t26+1),(List.set (z.set (Int.toNat (words+t26)) (aA .or .u64 (z.getD (Int.toNat (words+t26)) 0) (IntKind.wrap .u64 ((t24.getD t26.toNat 0)*2 ^ (min rest.toNat 64))))) (Int.toNat ((words+t26)+1)) (Int.fdiv (t24.getD t26.toNat 0) (2 ^ (min (Int.toNat (IntKind.wrap .u64 (64 - rest))) 64)))))))))))))))))) (e0 z))
def PE (N:Nat) (x:LI) (n:Int) (k0:Bool) (k1:Ky7):Bool:=
 (cond (((x.length:Nat):Int)==0) k0 (ai .i64 (IntKind.wrap .u64 (Int.tdiv n 64))&&(ai .i64 ((IntKind.wrap .u64 (Int.tdiv n 64))+((x.length:Nat):Int))&&(ai .i64 (((IntKind.wrap .u64 (Int.tdiv n 64))+((x.length:Nat):Int))+1)&&(g_ 8 (((IntKind.wrap .u64 (Int.tdiv n 64))+((x.length:Nat):Int))+1) (((IntKind.wrap .u64 (Int.tdiv n 64))+((x.length:Nat):Int))+1)&&am N (mw N (IntKind.wrap .u64 (Int.tdiv n 64)) (Int.tmod n 64) x ((x.length:Nat):Int) (λUY=>uh N UY (λmr=>k1 mr UY))) (0,(List.replicate (Int.toNat (((IntKind.wrap .u64 (Int.tdiv n 64))+((x.length:Nat):Int))+1)) (0:Int))))))))
def LC (N:Nat):LI->Int->(Bool)->(Ky7)->Bool:=aB N (PE N)
def nV (N u Vi:Nat) (UC:LI) (n:Int) (U9:LI) (e0:Kz0):(Int × Int)->((Int × Int)->Bool)->Bool:=λv_ K=>match v_ with
 | (q,rest)=>(ai .i64 (n - 2)&&(inR (n - 2) UC.length&&DH N q (UC.getD (Int.toNat (n - 2)) 0) (λUj Up=>cond ((decide (Uj<rest))==false) (cond ((Uj==rest)==true) (ai .i64 (n - 2)&&(inR (n - 2) Vi&&(decide ((u+(Int.toNat (n - 2)))<U9.length)&&cond (decide (Up<=(U9.getD (u+(Int.toNat (n - 2))) 0))) (e0 q) (ai .i64 (n - 1)&&(inR (n - 1) UC.length&&sQ6 N rest (UC.getD (Int.toNat (n - 1)) 0) 0 (λUA n5=>cond (n5 != 0) (e0 (IntKind.wrap .u64 (q - 1))) (K ((IntKind.wrap .u64 (q - 1)),UA)))))))) (ai .i64 (n - 1)&&(inR (n - 1) UC.length&&sQ6 N rest (UC.getD (Int.toNat (n - 1)) 0) 0 (λn6 n7=>cond (n7 != 0) (e0 (IntKind.wrap .u64 (q - 1))) (K ((IntKind.wrap .u64 (q - 1)),n6)))))) (e0 q))))
def rW (N UP US:Nat) (v b:LI) (k0:Kz0):Bool:=
 (inR ((v.length:Nat):Int) US&&(decide ((UP+(Int.toNat ((v.length:Nat):Int)))<b.length)&&(ai .i64 (((v.length:Nat):Int) - 1)&&(inR (((v.length:Nat):Int) - 1) v.length&&cond (decide ((b.getD (UP+(Int.toNat ((v.length:Nat):Int))) 0)>=(v.getD (Int.toNat (((v.length:Nat):Int) - 1)) 0))) (k0 18446744073709551615) (inR ((v.length:Nat):Int) US&&(decide ((UP+(Int.toNat ((v.length:Nat):Int)))<b.length)&&(ai .i64 (((v.length:Nat):Int) - 1)&&(inR (((v.length:Nat):Int) - 1) US&&(decide ((UP+(Int.toNat (((v.length:Nat):Int) - 1)))<b.length)&&(ai .i64 (((v.length:Nat):Int) - 1)&&(inR (((v.length:Nat):Int) - 1) v.length&&DG N (b.getD (UP+(Int.toNat ((v.length:Nat):Int))) 0) (b.getD (UP+(Int.toNat (((v.length:Nat):Int) - 1))) 0) (v.getD (Int.toNat (((v.length:Nat):Int) - 1)) 0) (λnr Uf=>am N (nV N UP US v ((v.length:Nat):Int) b (λt4=>k0 t4)) (nr,Uf)))))))))))))
def zJ (N:Nat):Nat->Nat->LI->LI->(Kz0)->Bool:=aB N (rW N)
def pC (N u Vi:Nat) (UC:LI) (n q t17:Int) (e0:Int->Int->LI->Bool):(Int × Int × Int × LI)->((Int × Int × Int × LI)->Bool)->Bool:=λv_ K=>match v_ with
 | (carry,borrow,t18,U9)=>(cond (decide (t18<t17)) (inR t18 UC.length&&ka N q (UC.getD t18.toNat 0) 0 carry (λUf Uj=>inR t18 Vi&&(decide ((u+t18.toNat)<U9.length)&&sQ8 N (U9.getD (u+t18.toNat) 0) Uj borrow (λUp UA=>inR t18 Vi&&(decide ((u+t18.toNat)<U9.length)&&(ai .i64 (t18+1)&&K (Uf,UA,(t18+1),(U9.set (u+t18.toNat) Up)))))))) (e0 carry borrow U9))
def pF (N Wb WE:Nat) (VT:LI) (Vv WS U0 t60:Int) (e0:Ky6):(Int × Int × LI)->((Int × Int × LI)->Bool)->Bool:=λv_ K=>match v_ with
 | (UV,t61,Vu)=>(cond (decide (t61<t60)) (inR t61 WE&&(decide ((Wb+t61.toNat)<Vu.length)&&(inR t61 VT.length&&sQ6 N (Vu.getD (Wb+t61.toNat) 0) (VT.getD t61.toNat 0) UV (λn7 VJ=>inR t61 WE&&(decide ((Wb+t61.toNat)<Vu.length)&&(ai .i64 (t61+1)&&K (VJ,(t61+1),(Vu.set (Wb+t61.toNat) n7)))))))) (e0 UV Vu))
def pD (N VR VP:Nat) (Vw:LI) (Un:Int) (e0:Ky6):(Int × Int × LI)->((Int × Int × LI)->Bool)->Bool:=λv_ K=>match v_ with
 | (We,UZ,WL)=>(cond (UZ != 0) (am N (pF N VR VP Vw Un We UZ Un (λV0 VC=>inR Un VP&&(decide ((VR+Un.toNat)<VC.length)&&sQ6 N (VC.getD (VR+Un.toNat) 0) 0 V0 (λVF n10=>inR Un VP&&(decide ((VR+Un.toNat)<VC.length)&&K ((IntKind.wrap .u64 (We - 1)),(IntKind.wrap .u64 (UZ - n10)),(VC.set (VR+Un.toNat) VF))))))) (0,0,WL)) (e0 We WL))
def tB (N UP US:Nat) (v b:LI) (k0:Ky6):Bool:=
 (zJ N UP US v b (λnr=>am N (pC N UP US v ((v.length:Nat):Int) nr ((v.length:Nat):Int) (λUv Vd VG=>inR ((v.length:Nat):Int) US&&(decide ((UP+(Int.toNat ((v.length:Nat):Int)))<VG.length)&&sQ8 N (VG.getD (UP+(Int.toNat ((v.length:Nat):Int))) 0) Uv Vd (λn5 n6=>inR ((v.length:Nat):Int) US&&(decide ((UP+(Int.toNat ((v.length:Nat):Int)))<VG.length)&&am N (pD N UP US v ((v.length:Nat):Int) (λXE b0=>k0 XE b0)) (nr,n6,(VG.set (UP+(Int.toNat ((v.length:Nat):Int))) n5))))))) (0,0,0,b)))
def BJ (N:Nat):Nat->Nat->LI->LI->(Ky6)->Bool:=aB N (tB N)
def qV (N u Vi v Vw:Nat) (n:Int) (U9 VT:LI) (e0:Kz0):(Int × Int)->((Int × Int)->Bool)->Bool:=λv_ K=>match v_ with
 | (q,rest)=>(ai .i64 (n - 2)&&(inR (n - 2) Vw&&(decide ((v+(Int.toNat (n - 2)))<VT.length)&&DH N q (VT.getD (v+(Int.toNat (n - 2))) 0) (λUj Up=>cond ((decide (Uj<rest))==false) (cond ((Uj==rest)==true) (ai .i64 (n - 2)&&(inR (n - 2) Vi&&(decide ((u+(Int.toNat (n - 2)))<U9.length)&&cond (decide (Up<=(U9.getD (u+(Int.toNat (n - 2))) 0))) (e0 q) (ai .i64 (n - 1)&&(inR (n - 1) Vw&&(decide ((v+(Int.toNat (n - 1)))<VT.length)&&sQ6 N rest (VT.getD (v+(Int.toNat (n - 1))) 0) 0 (λUA n5=>cond (n5 != 0) (e0 (IntKind.wrap .u64 (q - 1))) (K ((IntKind.wrap .u64 (q - 1)),UA))))))))) (ai .i64 (n - 1)&&(inR (n - 1) Vw&&(decide ((v+(Int.toNat (n - 1)))<VT.length)&&sQ6 N rest (VT.getD (v+(Int.toNat (n - 1))) 0) 0 (λn6 n7=>cond (n7 != 0) (e0 (IntKind.wrap .u64 (q - 1))) (K ((IntKind.wrap .u64 (q - 1)),n6))))))) (e0 q)))))
def Ms (N UP US WW UC:Nat) (b Ub:LI) (k0:Kz0):Bool:=
 (inR ((UC:Nat):Int) US&&(decide ((UP+(Int.toNat ((UC:Nat):Int)))<b.length)&&(ai .i64 (((UC:Nat):Int) - 1)&&(inR (((UC:Nat):Int) - 1) UC&&(decide ((WW+(Int.toNat (((UC:Nat):Int) - 1)))<Ub.length)&&cond (decide ((b.getD (UP+(Int.toNat ((UC:Nat):Int))) 0)>=(Ub.getD (WW+(Int.toNat (((UC:Nat):Int) - 1))) 0))) (k0 18446744073709551615) (inR ((UC:Nat):Int) US&&(decide ((UP+(Int.toNat ((UC:Nat):Int)))<b.length)&&(ai .i64 (((UC:Nat):Int) - 1)&&(inR (((UC:Nat):Int) - 1) US&&(decide ((UP+(Int.toNat (((UC:Nat):Int) - 1)))<b.length)&&(ai .i64 (((UC:Nat):Int) - 1)&&(inR (((UC:Nat):Int) - 1) UC&&(decide ((WW+(Int.toNat (((UC:Nat):Int) - 1)))<Ub.length)&&DG N (b.getD (UP+(Int.toNat ((UC:Nat):Int))) 0) (b.getD (UP+(Int.toNat (((UC:Nat):Int) - 1))) 0) (Ub.getD (WW+(Int.toNat (((UC:Nat):Int) - 1))) 0) (λnr Uf=>am N (qV N UP US WW UC ((UC:Nat):Int) b Ub (λt4=>k0 t4)) (nr,Uf)))))))))))))))
def NQ (N:Nat):Nat->Nat->Nat->Nat->LI->LI->(Kz0)->Bool:=aB N (Ms N)
def gf (N u Vi v Vw:Nat) (n q t17:Int) (VT:LI) (e0:Int->Int->LI->Bool):(Int × Int × Int × LI)->((Int × Int × Int × LI)->Bool)->Bool:=λv_ K=>match v_ with
 | (carry,borrow,t18,U9)=>(cond (decide (t18<t17)) (inR t18 Vw&&(decide ((v+t18.toNat)<VT.length)&&ka N q (VT.getD (v+t18.toNat) 0) 0 carry (λUf Uj=>inR t18 Vi&&(decide ((u+t18.toNat)<U9.length)&&sQ8 N (U9.getD (u+t18.toNat) 0) Uj borrow (λUp UA=>inR t18 Vi&&(decide ((u+t18.toNat)<U9.length)&&(ai .i64 (t18+1)&&K (Uf,UA,(t18+1),(U9.set (u+t18.toNat) Up))))))))) (e0 carry borrow U9))
def gi (N Wb WE Yj Yt:Nat) (Vv WS U0 t60:Int) (Yk:LI) (e0:Ky6):(Int × Int × LI)->((Int × Int × LI)->Bool)->Bool:=λv_ K=>match v_ with
 | (UV,t61,Vu)=>(cond (decide (t61<t60)) (inR t61 WE&&(decide ((Wb+t61.toNat)<Vu.length)&&(inR t61 Yt&&(decide ((Yj+t61.toNat)<Yk.length)&&sQ6 N (Vu.getD (Wb+t61.toNat) 0) (Yk.getD (Yj+t61.toNat) 0) UV (λn7 VJ=>inR t61 WE&&(decide ((Wb+t61.toNat)<Vu.length)&&(ai .i64 (t61+1)&&K (VJ,(t61+1),(Vu.set (Wb+t61.toNat) n7))))))))) (e0 UV Vu))
def qT (N VR VP YO YP:Nat) (Un:Int) (Ys:LI) (e0:Ky6):(Int × Int × LI)->((Int × Int × LI)->Bool)->Bool:=λv_ K=>match v_ with
 | (We,UZ,WL)=>(cond (UZ != 0) (am N (gi N VR VP YO YP Un We UZ Un Ys (λV0 VC=>inR Un VP&&(decide ((VR+Un.toNat)<VC.length)&&sQ6 N (VC.getD (VR+Un.toNat) 0) 0 V0 (λVF n10=>inR Un VP&&(decide ((VR+Un.toNat)<VC.length)&&K ((IntKind.wrap .u64 (We - 1)),(IntKind.wrap .u64 (UZ - n10)),(VC.set (VR+Un.toNat) VF))))))) (0,0,WL)) (e0 We WL))
def Jj (N UP US WW UC:Nat) (b Ub:LI) (k0:Ky6):Bool:=
 (NQ N UP US WW UC b Ub (λnr=>am N (gf N UP US WW UC ((UC:Nat):Int) nr ((UC:Nat):Int) Ub (λUv Vd VG=>inR ((UC:Nat):Int) US&&(decide ((UP+(Int.toNat ((UC:Nat):Int)))<VG.length)&&sQ8 N (VG.getD (UP+(Int.toNat ((UC:Nat):Int))) 0) Uv Vd (λn5 n6=>inR ((UC:Nat):Int) US&&(decide ((UP+(Int.toNat ((UC:Nat):Int)))<VG.length)&&am N (qT N UP US WW UC ((UC:Nat):Int) Ub (λXE b0=>k0 XE b0)) (nr,n6,(VG.set (UP+(Int.toNat ((UC:Nat):Int))) n5))))))) (0,0,0,b)))
def Ls (N:Nat):Nat->Nat->Nat->Nat->LI->LI->(Ky6)->Bool:=aB N (Jj N)
def tv (N x UD:Nat) (UH:LI) (e0:Kz0):(Int)->((Int)->Bool)->Bool:=λv_ K=>match v_ with
 | n=>(cond ((decide (n>0))==true) (ai .i64 (n - 1)&&(inR (n - 1) UD&&(decide ((x+(Int.toNat (n - 1)))<UH.length)&&cond ((UH.getD (x+(Int.toNat (n - 1))) 0)==0) (ai .i64 (n - 1)&&K (n - 1)) (e0 n)))) (e0 n))
def nZ (N UF Ur:Nat) (b:LI) (k0:Kz1):Bool:=
 (am N (tv N UF Ur b (λUn=>decide (0<=Un/\Un<=((Ur:Nat):Int))&&k0 (Un.toNat - 0))) ((Ur:Nat):Int))
def oV (N:Nat):Nat->Nat->LI->(Kz1)->Bool:=aB N (nZ N)
def N7 (N UF Ur:Nat) (i:Int) (b:LI) (k0:Kz0):Bool:=
 (cond (decide (i<((Ur:Nat):Int))) (inR i Ur&&(decide ((UF+i.toNat)<b.length)&&k0 (b.getD (UF+i.toNat) 0))) (k0 0))
def GL (N:Nat):Nat->Nat->Int->LI->(Kz0)->Bool:=N7 N
def ke (N x UD:Nat) (words rest:Int) (t37 Xn:Nat) (t38:Int) (UH:LI) (e0:Kz0):(Int × Int)->((Int × Int)->Bool)->Bool:=λv_ K=>match v_ with
 | (lost,t39)=>(cond (decide (t39<t38)) (inR t39 Xn&&(decide ((t37+t39.toNat)<UH.length)&&(ai .i64 (t39+1)&&K ((aA .or .u64 lost (UH.getD (t37+t39.toNat) 0)),(t39+1))))) (e0 lost))
def h_ (N Xq XG:Nat) (Vg Vm Wu t53:Int) (XD:LI) (e0:Kz3):(Int × LI)->((Int × LI)->Bool)->Bool:=λv_ K=>match v_ with
 | (t54,z)=>(cond (decide (t54<t53)) (ai .i64 (Vg+t54)&&GL N Xq XG (Vg+t54) XD (λnr=>decide (0<=Vm)&&(ai .i64 (Vg+t54)&&(ai .i64 ((Vg+t54)+1)&&GL N Xq XG ((Vg+t54)+1) XD (λUf=>decide (0<=(IntKind.wrap .u64 (64 - Vm)))&&(inR t54 z.length&&(decide (t54.toNat<z.length)&&(ai .i64 (t54+1)&&K ((t54+1),(z.set t54.toNat (aA .or .u64 (Int.fdiv nr (2 ^ (min Vm.toNat 64))) (IntKind.wrap .u64 (Uf*2 ^ (min (Int.toNat (IntKind.wrap .u64 (64 - Vm))) 64)))))))))))))) (e0 z))
def FR (N UF Ur:Nat) (n:Int) (b:LI) (k0:LI->Bool->Bool):Bool:=
 (cond (decide ((IntKind.wrap .u64 (Int.tdiv n 64))>=(IntKind.wrap .u64 ((Ur:Nat):Int)))) (k0 [] (decide (((Ur:Nat):Int)>0))) (ai .i64 (IntKind.wrap .u64 (Int.tdiv n 64))&&(inR (IntKind.wrap .u64 (Int.tdiv n 64)) Ur&&(decide ((UF+(Int.toNat (IntKind.wrap .u64 (Int.tdiv n 64))))<b.length)&&(decide (0<=(Int.tmod n 64))&&(decide (0<=(IntKind.wrap .u64 (Int.tdiv n 64))/\(IntKind.wrap .u64 (Int.tdiv n 64))<=((Ur:Nat):Int))&&am N (ke N UF Ur (IntKind.wrap .u64 (Int.tdiv n 64)) (Int.tmod n 64) UF ((Int.toNat (IntKind.wrap .u64 (Int.tdiv n 64))) - 0) ((((Int.toNat (IntKind.wrap .u64 (Int.tdiv n 64))) - 0):Nat):Int) b (λW7=>ai .i64 (((Ur:Nat):Int) - (IntKind.wrap .u64 (Int.tdiv n 64)))&&(g_ 8 (((Ur:Nat):Int) - (IntKind.wrap .u64 (Int.tdiv n 64))) (((Ur:Nat):Int) - (IntKind.wrap .u64 (Int.tdiv n 64)))&&am N (h_ N UF Ur (IntKind.wrap .u64 (Int.tdiv n 64)) (Int.tmod n 64) W7 (((List.length (List.replicate (Int.toNat (((Ur:Nat):Int) - (IntKind.wrap .u64 (Int.tdiv n 64)))) (0:Int))):Nat):Int) b (λUY=>uh N UY (λmr=>decide ((0+mr)<=UY.length)&&k0 (List.take mr (List.drop 0 UY)) (W7 != 0)))) (0,(List.replicate (Int.toNat (((Ur:Nat):Int) - (IntKind.wrap .u64 (Int.tdiv n 64)))) (0:Int)))))) ((aA .and .u64 (b.getD (UF+(Int.toNat (IntKind.wrap .u64 (Int.tdiv n 64)))) 0) (IntKind.wrap .u64 ((IntKind.wrap .u64 ((1:Int)*2 ^ (min (Int.toNat (Int.tmod n 64)) 64))) - 1))),0)))))))
def GK (N:Nat):Nat->Nat->Int->LI->(LI->Bool->Bool)->Bool:=aB N (FR N)
def LZ (N:Nat) (up:Int) (u US:Nat) (n:Int) (e0:Ky8):(Int × LI × LI)->((Int × LI × LI)->Bool)->Bool:=λv_ K=>match v_ with
 | (j,Vi,q)=>(cond (decide (j>=0)) (ai .i64 (j+n)&&(ai .i64 ((j+n)+1)&&(decide (0<=j/\j<=((j+n)+1)/\((j+n)+1)<=((US:Nat):Int))&&BJ N (u+j.toNat) ((Int.toNat ((j+n)+1)) - j.toNat) [] Vi (λUp s6=>inR j q.length&&(decide (j.toNat<q.length)&&(ai .i64 (j - 1)&&K ((j - 1),s6,(q.set j.toNat Up)))))))) (e0 Vi q))
def yW (N:Nat) (X3:Int) (v UC VR VP:Nat) (Un:Int) (Vw:LI) (e0:Ky8):(Int × LI × LI)->((Int × LI × LI)->Bool)->Bool:=λv_ K=>match v_ with
 | (UR,WL,XE)=>(cond (decide (UR>=0)) (ai .i64 (UR+Un)&&(ai .i64 ((UR+Un)+1)&&(decide (0<=UR/\UR<=((UR+Un)+1)/\((UR+Un)+1)<=((VP:Nat):Int))&&Ls N (VR+UR.toNat) ((Int.toNat ((UR+Un)+1)) - UR.toNat) v UC WL Vw (λUA s7=>inR UR XE.length&&(decide (UR.toNat<XE.length)&&(ai .i64 (UR - 1)&&K ((UR - 1),s7,(XE.set UR.toNat UA)))))))) (e0 WL XE))
def Jy (N:Nat) (x y:LI) (YN:Int) (Vu:Nat) (VC YJ:LI) (k0:Ky8):Bool:=
 (oV N 0 Vu VC (λWQ=>GK N 0 WQ YN VC (λs8 cr=>uh N YJ (λXb=>decide ((0+Xb)<=YJ.length)&&k0 (List.take Xb (List.drop 0 YJ)) s8))))
def Ju (N:Nat) (x y:LI) (k0:Ky8):Bool:=
 (AG N x y (λnr=>cond (decide (nr<0)) (pz N x (λnsr=>k0 [] nsr)) (cond (((y.length:Nat):Int)==1) (inR 0 y.length&&mY N x (y.getD 0 0) (λUc Uf=>iW N Uf (λUh=>k0 Uc Uh))) (ai .i64 (((y.length:Nat):Int) - 1)&&(inR (((y.length:Nat):Int) - 1) y.length&&NE N (y.getD (Int.toNat (((y.length:Nat):Int) - 1)) 0) (λUj=>LC N y (IntKind.wrap .u64 Uj) (LC N x (IntKind.wrap .u64 Uj) (ai .i64 (((x.length:Nat):Int)+1)&&(decide (0<=(((x.length:Nat):Int)+1)/\(((x.length:Nat):Int)+1)<=2)&&(ai .i64 (((((Int.toNat (((x.length:Nat):Int)+1)) - 0):Nat):Int) - 0)&&(g_ 8 (((((Int.toNat (((x.length:Nat):Int)+1)) - 0):Nat):Int) - 0) (((((Int.toNat (((x.length:Nat):Int)+1)) - 0):Nat):Int) - 0)&&(ai .i64 (((((Int.toNat (((x.length:Nat):Int)+1)) - 0):Nat):Int) - 0)&&(ai .i64 ((((((Int.toNat (((x.length:Nat):Int)+1)) - 0):Nat):Int) - 0) - 1)&&am N (LZ N (IntKind.wrap .u64 Uj) 0 ((Int.toNat (((x.length:Nat):Int)+1)) - 0) 0 (λU9 We=>Jy N x y (IntKind.wrap .u64 Uj) ((Int.toNat (((x.length:Nat):Int)+1)) - 0) U9 We k0)) (((((((Int.toNat (((x.length:Nat):Int)+1)) - 0):Nat):Int) - 0) - 1),([]++[0,0]),(List.replicate (Int.toNat (((((Int.toNat (((x.length:Nat):Int)+1)) - 0):Nat):Int) - 0)) (0:Int))))))))) (λUI Uk=>decide ((0+UI)<=Uk.length)&&(decide ((List.length ((List.take UI (List.drop 0 Uk))++[0,0]))*8<=140737488355328)&&(ai .i64 (((x.length:Nat):Int)+1)&&(decide (0<=(((x.length:Nat):Int)+1)/\(((x.length:Nat):Int)+1)<=(((List.length ((List.take UI (List.drop 0 Uk))++[0,0])):Nat):Int))&&(ai .i64 (((((Int.toNat (((x.length:Nat):Int)+1)) - 0):Nat):Int) - 0)&&(g_ 8 (((((Int.toNat (((x.length:Nat):Int)+1)) - 0):Nat):Int) - 0) (((((Int.toNat (((x.length:Nat):Int)+1)) - 0):Nat):Int) - 0)&&(ai .i64 (((((Int.toNat (((x.length:Nat):Int)+1)) - 0):Nat):Int) - 0)&&(ai .i64 ((((((Int.toNat (((x.length:Nat):Int)+1)) - 0):Nat):Int) - 0) - 1)&&am N (LZ N (IntKind.wrap .u64 Uj) 0 ((Int.toNat (((x.length:Nat):Int)+1)) - 0) 0 (λVG WS=>Jy N x y (IntKind.wrap .u64 Uj) ((Int.toNat (((x.length:Nat):Int)+1)) - 0) VG WS k0)) (((((((Int.toNat (((x.length:Nat):Int)+1)) - 0):Nat):Int) - 0) - 1),((List.take UI (List.drop 0 Uk))++[0,0]),(List.replicate (Int.toNat (((((Int.toNat (((x.length:Nat):Int)+1)) - 0):Nat):Int) - 0)) (0:Int)))))))))))) (λmr Ug=>LC N x (IntKind.wrap .u64 Uj) (ai .i64 (((x.length:Nat):Int)+1)&&(decide (0<=(((x.length:Nat):Int)+1)/\(((x.length:Nat):Int)+1)<=2)&&(ai .i64 (((((Int.toNat (((x.length:Nat):Int)+1)) - 0):Nat):Int) - ((mr:Nat):Int))&&(g_ 8 (((((Int.toNat (((x.length:Nat):Int)+1)) - 0):Nat):Int) - ((mr:Nat):Int)) (((((Int.toNat (((x.length:Nat):Int)+1)) - 0):Nat):Int) - ((mr:Nat):Int))&&(ai .i64 (((((Int.toNat (((x.length:Nat):Int)+1)) - 0):Nat):Int) - ((mr:Nat):Int))&&(ai .i64 ((((((Int.toNat (((x.length:Nat):Int)+1)) - 0):Nat):Int) - ((mr:Nat):Int)) - 1)&&am N (yW N (IntKind.wrap .u64 Uj) 0 mr 0 ((Int.toNat (((x.length:Nat):Int)+1)) - 0) ((mr:Nat):Int) Ug (λWb YY=>Jy N x y (IntKind.wrap .u64 Uj) ((Int.toNat (((x.length:Nat):Int)+1)) - 0) Wb YY k0)) (((((((Int.toNat (((x.length:Nat):Int)+1)) - 0):Nat):Int) - ((mr:Nat):Int)) - 1),([]++[0,0]),(List.replicate (Int.toNat (((((Int.toNat (((x.length:Nat):Int)+1)) - 0):Nat):Int) - ((mr:Nat):Int))) (0:Int))))))))) (λUx Ul=>decide ((0+Ux)<=Ul.length)&&(decide ((List.length ((List.take Ux (List.drop 0 Ul))++[0,0]))*8<=140737488355328)&&(ai .i64 (((x.length:Nat):Int)+1)&&(decide (0<=(((x.length:Nat):Int)+1)/\(((x.length:Nat):Int)+1)<=(((List.length ((List.take Ux (List.drop 0 Ul))++[0,0])):Nat):Int))&&(ai .i64 (((((Int.toNat (((x.length:Nat):Int)+1)) - 0):Nat):Int) - ((mr:Nat):Int))&&(g_ 8 (((((Int.toNat (((x.length:Nat):Int)+1)) - 0):Nat):Int) - ((mr:Nat):Int)) (((((Int.toNat (((x.length:Nat):Int)+1)) - 0):Nat):Int) - ((mr:Nat):Int))&&(ai .i64 (((((Int.toNat (((x.length:Nat):Int)+1)) - 0):Nat):Int) - ((mr:Nat):Int))&&(ai .i64 ((((((Int.toNat (((x.length:Nat):Int)+1)) - 0):Nat):Int) - ((mr:Nat):Int)) - 1)&&am N (yW N (IntKind.wrap .u64 Uj) 0 mr 0 ((Int.toNat (((x.length:Nat):Int)+1)) - 0) ((mr:Nat):Int) Ug (λWE YZ=>Jy N x y (IntKind.wrap .u64 Uj) ((Int.toNat (((x.length:Nat):Int)+1)) - 0) WE YZ k0)) (((((((Int.toNat (((x.length:Nat):Int)+1)) - 0):Nat):Int) - ((mr:Nat):Int)) - 1),((List.take Ux (List.drop 0 Ul))++[0,0]),(List.replicate (Int.toNat (((((Int.toNat (((x.length:Nat):Int)+1)) - 0):Nat):Int) - ((mr:Nat):Int))) (0:Int))))))))))))))))))
def yM (N:Nat):LI->LI->(Ky8)->Bool:=aB N (Ju N)
def zN (N:Nat) (x:LI) (k0:Kz0):Bool:=
 (wm N x 0 (λnr=>k0 nr))
def rQ (N:Nat):LI->(Kz0)->Bool:=zN N
def D0 (N:Nat) (e0:Ky8):(LI × LI)->((LI × LI)->Bool)->Bool:=λv_ K=>match v_ with
 | (UD,UQ)=>(cond (decide (((UQ.length:Nat):Int)>1)) (oU N UD (λUf=>ai .i64 (Uf - 64)&&rR N UD (Uf - 64) (λUj=>rR N UQ (Uf - 64) (λUp=>qF N Uj Up (λUA n5 n6 n7 cr=>cond (n5 != 0) (dO N UA n5 n6 n7 cr UD UQ (λnsr Uc=>K (nsr,Uc))) (yM N UD UQ (λUh Ug=>K (UQ,Ug)))))))) (e0 UD UQ))
def eI (N:Nat) (e0:Kz0):(Int × Int)->((Int × Int)->Bool)->Bool:=λv_ K=>match v_ with
 | (a,b)=>(cond (decide (b>0)) ((!decide (b=0))&&K (b,(Int.tmod a b))) (e0 a))
def vA (N:Nat) (x y Xq YW:LI) (k0:Kz3):Bool:=
 (cond (((YW.length:Nat):Int)==0) (k0 Xq) (rQ N Xq (λVJ=>rQ N YW (λVF=>am N (eI N (λUt=>iW N Ut (λs6=>k0 s6))) (VJ,VF)))))
def Mt (N:Nat) (x y Ur UB:LI) (k0:Kz3):Bool:=
 (am N (D0 N (λUH U7=>cond ((decide (((U7.length:Nat):Int)>0))==true) (cond (decide (((UH.length:Nat):Int)>1)) (yM N UH U7 (λUk Ul=>vA N x y U7 Ul k0)) (vA N x y UH U7 k0)) (vA N x y UH U7 k0))) (Ur,UB))
def Pe (N:Nat) (x y:LI) (k0:Kz3):Bool:=
 (AG N x y (λnr=>cond (decide (nr<0)) (Mt N x y y x k0) (Mt N x y x y k0)))
def zH (N:Nat):LI->LI->(Kz3)->Bool:=aB N (Pe N)
def Mq (N:Nat) (neg:Bool) (abs:LI) (b Ub:Bool) (k0:Ky3):Bool:=
 (cond (neg==true) (k0 (decide (((abs.length:Nat):Int)>0)) []) (k0 false []))
def Iu (N:Nat):Bool->LI->Bool->Bool->(Ky3)->Bool:=Mq N
def Pd (N:Nat) (neg:Bool) (abs:LI) (b:Bool) (Ub:LI) (Ud:Bool) (Um:LI) (k0:Ky9):Bool:=
 (cond (neg==true) (k0 (decide (((abs.length:Nat):Int)>0))) (k0 false))
def NJ (N:Nat):Bool->LI->Bool->LI->Bool->LI->(Ky9)->Bool:=Pd N
def FV (N:Nat) (neg:Bool) (a b:LI) (Ub Ud:Bool) (Ut Um:LI) (k0:Kx5):Bool:=
 (pz N Ut (λUl=>Iu N neg Ul Ub Ud (λcr s6=>pz N Um (λs7=>NJ N false s7 cr Ul Ud s6 (λUi=>k0 cr Ul Ui s7)))))
def Pm (N:Nat) (neg:Bool) (a b:LI) (Ub Ud:Bool) (k0:Kx5):Bool:=
 (zH N a b (λnsr=>AG N nsr [1] (λnr=>cond (nr != 0) (yM N a nsr (λUc Uh=>yM N b nsr (λUg Uk=>FV N neg a b Ub Ud Uc Ug k0))) (FV N neg a b Ub Ud a b k0))))
def Rf (N:Nat):Bool->LI->LI->Bool->Bool->(Kx5)->Bool:=aB N (Pm N)
def OV (N:Nat) (b Ub Ud:Bool) (Um:LI) (Uq:Bool) (UT:LI) (k0:Kx5):Bool:=
 (Rf N (Ud != Uq) Um UT b Ub (λcr nsr Ui Uc=>k0 cr nsr Ui Uc))
def NA (N:Nat):Bool->Bool->Bool->LI->Bool->LI->(Kx5)->Bool:=OV N
def jH (N:Nat) (UQ:LI) (i a:Int) (Xk:LI) (Xl Xm:Int) (t32:LI) (t33:Int) (e0:Ky6):(Int × Int × LI)->((Int × Int × LI)->Bool)->Bool:=λv_ K=>match v_ with
 | (carry,t34,UY)=>(cond (decide (t34<t33)) (inR t34 t32.length&&(ai .i64 (i+t34)&&(ai .i64 (i+t34)&&(inR (i+t34) UY.length&&(decide ((Int.toNat (i+t34))<UY.length)&&ka N a (t32.getD t34.toNat 0) (UY.getD (Int.toNat (i+t34)) 0) carry (λnr Uf=>inR (i+t34) UY.length&&(decide ((Int.toNat (i+t34))<UY.length)&&(ai .i64 (t34+1)&&K (nr,(t34+1),(UY.set (Int.toNat (i+t34)) Uf)))))))))) (e0 carry UY))
def jG (N:Nat) (UB t25:LI) (t26:Int) (e0:Kz3):(Int × LI)->((Int × LI)->Bool)->Bool:=λv_ K=>match v_ with
 | (t27,z)=>(cond (decide (t27<t26)) (inR t27 t25.length&&am N (jH N UB t27 (t25.getD t27.toNat 0) t25 t26 t27 UB ((UB.length:Nat):Int) (λUv X7=>ai .i64 (t27+((UB.length:Nat):Int))&&(inR (t27+((UB.length:Nat):Int)) X7.length&&(decide ((Int.toNat (t27+((UB.length:Nat):Int)))<X7.length)&&(ai .i64 (t27+1)&&K ((t27+1),(X7.set (Int.toNat (t27+((UB.length:Nat):Int))) Uv))))))) (0,0,z)) (e0 z))
def PD (N:Nat) (x y:LI) (k0:Kz3):Bool:=
 (cond ((((x.length:Nat):Int)==0)==false) (cond (((y.length:Nat):Int)==0) (k0 []) (ai .i64 (((x.length:Nat):Int)+((y.length:Nat):Int))&&(g_ 8 (((x.length:Nat):Int)+((y.length:Nat):Int)) (((x.length:Nat):Int)+((y.length:Nat):Int))&&am N (jG N y x ((x.length:Nat):Int) (λX8=>uh N X8 (λmr=>decide ((0+mr)<=X8.length)&&k0 (List.take mr (List.drop 0 X8))))) (0,(List.replicate (Int.toNat (((x.length:Nat):Int)+((y.length:Nat):Int))) (0:Int)))))) (k0 []))
def wP (N:Nat):LI->LI->(Kz3)->Bool:=aB N (PD N)
def RY (N:Nat) (b:Bool) (Ub:LI) (Ud:Bool) (Um:LI) (k0:Ky3):Bool:=
 (wP N Ub Um (λnsr=>Ix N (b != Ud) nsr b Ub (λcr=>k0 cr nsr)))
def SC (N:Nat):Bool->LI->Bool->LI->(Ky3)->Bool:=RY N
def NY (N:Nat) (neg b:Bool) (Ub:LI) (Ud:Bool) (Um Uq:LI) (k0:Ky9):Bool:=
 (cond (neg==true) (k0 (decide (((Uq.length:Nat):Int)>0))) (k0 false))
def Oz (N:Nat):Bool->Bool->LI->Bool->LI->LI->(Ky9)->Bool:=NY N
def Pt (N:Nat) (neg:Bool) (a:LI) (b Ub:Bool) (Ud:LI) (k0:Ky1):Bool:=
 (Iu N neg a b Ub (λcr nsr=>Oz N false cr a Ub nsr Ud (λUi=>k0 cr Ui)))
def Sz (N:Nat):Bool->LI->Bool->Bool->LI->(Ky1)->Bool:=aB N (Pt N)
def RO (N:Nat) (b Ub Ud:Bool) (Um:LI) (k0:Kx5):Bool:=
 (pz N Um (λnsr=>Sz N Ud nsr b Ub [1] (λcr Ui=>k0 cr nsr Ui [1])))
def Rd (N:Nat):Bool->Bool->Bool->LI->(Kx5)->Bool:=RO N
def cd (N:Nat) (x:Fl) (p:Bool) (XB WR:Int) (n:Bool) (Un:LI) (k0:Kx5):Bool:=
 (DL N 1 (λUz Uh=>ai .i64 (0 - WR)&&Rh N (IntKind.wrap .u64 (imm true WR (0 - WR))) false Uz Uh (λUW Ug=>cond (decide (WR<0)) (NA N false false n Un UW Ug (λVr Uk U_ Ul=>k0 Vr Uk U_ Ul)) (SC N n Un UW Ug (λV3 s6=>Rd N false false V3 s6 (λc8 s7 c9 s8=>k0 c8 s7 c9 s8))))))
def iS (N:Nat) (x:Fl) (k0:Kx5):Bool:=
 (oT N x (λcr nr Uf Uj=>cW N (Uj==0) 4 (NB N nr false (λUi nsr=>cond cr (NI N Ui nsr (λUs Uc=>cd N x cr nr Uf Us Uc k0)) (cd N x cr nr Uf Ui nsr k0)))))
def iZ (N:Nat):Fl->(Kx5)->Bool:=aB N (iS N)
def dk (N:Nat) (WG:LF) (Xj WA WB Wd Wm:Int) (e0:List RY0->Bool):(Int × List RY0)->((Int × List RY0)->Bool)->Bool:=λv_ K=>match v_ with
 | (Wg,b2)=>(cond (decide (Wg<Xj)) (inR Wg WG.length&&iZ N (WG.getD Wg.toNat none) (λUs Uh Uz Ug=>decide ((List.length (b2++[((Us,Uh),(Uz,Ug))]))*8<=140737488355328)&&(ai .i64 (Wg+1)&&K ((Wg+1),(b2++[((Us,Uh),(Uz,Ug))]))))) (e0 b2))
def im (N:Nat) (UE Uo:Int) (Uw:LF) (k0:List RY0->Bool):Bool:=
 (LA N UE Uo Uw (λnr=>cW N (nr==0) nr (am N (dk N Uw ((Uw.length:Nat):Int) 0 0 UE Uo (λ(W5:List RY0)=>k0 W5)) (0,[]))))
def ir (N:Nat):Int->Int->LF->(List RY0->Bool)->Bool:=aB N (im N)
def eh (N:Nat) (VS U6 i j:Int) (b:List RY0) (k0:Kx5):Bool:=
 (ai .i64 (i*U6)&&(ai .i64 ((i*U6)+j)&&(inR ((i*U6)+j) b.length&&(decide ((Int.toNat ((i*U6)+j))<b.length)&&k0 (b.getD (Int.toNat ((i*U6)+j)) ((false,[]),(false,[]))).1.1 (b.getD (Int.toNat ((i*U6)+j)) ((false,[]),(false,[]))).1.2 (b.getD (Int.toNat ((i*U6)+j)) ((false,[]),(false,[]))).2.1 (b.getD (Int.toNat ((i*U6)+j)) ((false,[]),(false,[]))).2.2))))
def bd (N:Nat):Int->Int->Int->Int->List RY0->(Kx5)->Bool:=aB N (eh N)
def RM (N:Nat) (UF:Bool) (Ur:LI) (UD:Bool) (UH:LI) (k0:Kz3):Bool:=
 (cond (((UH.length:Nat):Int)==0) (k0 [1]) (k0 UH))
def zG (N:Nat):Bool->LI->Bool->LI->(Kz3)->Bool:=RM N
def O6 (N:Nat) (neg:Bool) (a b:LI) (Ub Ud:Bool) (k0:Ky1):Bool:=
 (Iu N neg a Ub Ud (λcr nsr=>NJ N false b cr a Ud nsr (λUi=>k0 cr Ui)))
def Iw (N:Nat):Bool->LI->LI->Bool->Bool->(Ky1)->Bool:=aB N (O6 N)
def Px (N:Nat) (UF:Bool) (Ur:LI) (UD:Bool) (UH:LI) (b Ub:Bool) (k0:Kx5):Bool:=
 (pz N Ur (λnsr=>zG N UF Ur UD UH (λUc=>pz N Uc (λUh=>Iw N (!UF) nsr Uh b Ub (λcr Ui=>k0 cr nsr Ui Uh)))))
def Rl (N:Nat):Bool->LI->Bool->LI->Bool->Bool->(Kx5)->Bool:=aB N (Px N)
def RW (N:Nat) (b:Bool) (Ub:LI) (Ud:Bool) (Um:LI) (k0:Kz3):Bool:=
 (cond (((Um.length:Nat):Int)==0) (k0 [1]) (k0 Um))
def Ri (N:Nat):Bool->LI->Bool->LI->(Kz3)->Bool:=RW N
def li (N:Nat) (x y:LI) (k0:Kz3):Bool:=
 (yM N x y (λnsr Uc=>k0 nsr))
def IV (N:Nat) (x y:LI) (k0:Kz3):Bool:=
 (cond ((((y.length:Nat):Int)==1)==true) (inR 0 y.length&&cond ((y.getD 0 0)==1) (k0 x) (li N x y k0)) (li N x y k0))
def mp (N:Nat):LI->LI->(Kz3)->Bool:=aB N (IV N)
def lB (N:Nat) (Ur UB:LI) (n t17:Int) (e0:Ky6):(Int × Int × LI)->((Int × Int × LI)->Bool)->Bool:=λv_ K=>match v_ with
 | (carry,t18,z)=>(cond (decide (t18<t17)) (wm N Ur t18 (λnr=>wm N UB t18 (λUf=>sQ6 N nr Uf carry (λUj Up=>inR t18 z.length&&(decide (t18.toNat<z.length)&&(ai .i64 (t18+1)&&K (Up,(t18+1),(z.set t18.toNat Uj)))))))) (e0 carry z))
def uy (N:Nat) (x y:LI) (k0:Kz3):Bool:=
 (ai .i64 ((imm true ((x.length:Nat):Int) ((y.length:Nat):Int))+1)&&(g_ 8 ((imm true ((x.length:Nat):Int) ((y.length:Nat):Int))+1) ((imm true ((x.length:Nat):Int) ((y.length:Nat):Int))+1)&&am N (lB N x y (imm true ((x.length:Nat):Int) ((y.length:Nat):Int)) (imm true ((x.length:Nat):Int) ((y.length:Nat):Int)) (λUv UY=>inR (imm true ((x.length:Nat):Int) ((y.length:Nat):Int)) UY.length&&(decide ((Int.toNat (imm true ((x.length:Nat):Int) ((y.length:Nat):Int)))<UY.length)&&uh N (UY.set (Int.toNat (imm true ((x.length:Nat):Int) ((y.length:Nat):Int))) Uv) (λmr=>decide ((0+mr)<=(List.length (UY.set (Int.toNat (imm true ((x.length:Nat):Int) ((y.length:Nat):Int))) Uv)))&&k0 (List.take mr (List.drop 0 (UY.set (Int.toNat (imm true ((x.length:Nat):Int) ((y.length:Nat):Int))) Uv))))))) (0,0,(List.replicate (Int.toNat ((imm true ((x.length:Nat):Int) ((y.length:Nat):Int))+1)) (0:Int)))))
def u_ (N:Nat):LI->LI->(Kz3)->Bool:=aB N (uy N)
def O9 (N:Nat) (neg:Bool) (y:LI) (b:Bool) (Ub:LI) (k0:Ky3):Bool:=
 (cond (b==neg) (u_ N Ub y (λnsr=>Ix N neg nsr b Ub (λcr=>k0 cr nsr))) (AG N Ub y (λnr=>cond (decide (nr>=0)) (wn N Ub y (λUc=>Ix N b Uc b Ub (λUi=>k0 Ui Uc))) (wn N y Ub (λUh=>Ix N neg Uh b Ub (λUs=>k0 Us Uh))))))
def NF (N:Nat):Bool->LI->Bool->LI->(Ky3)->Bool:=aB N (O9 N)
def O7 (N:Nat) (UF:Bool) (Ur:LI) (UD:Bool) (UH:LI) (b Ub Ud:Bool) (Um:LI) (Uq:Bool) (UT:LI) (k0:Kx5):Bool:=
 (zG N UF Ur UD UH (λnsr=>Ri N Ud Um Uq UT (λUc=>zH N nsr Uc (λUh=>mp N nsr Uh (λUg=>mp N Uc Uh (λUk=>wP N Ur Uk (λUl=>BG N UF Ul false (λcr=>wP N Um Ug (λs6=>NF N Ud s6 cr Ul (λUi s7=>zH N s7 Uh (λs8=>mp N s7 s8 (λs9=>pz N s9 (λs10=>mp N Uc s8 (λs11=>wP N Ug s11 (λs12=>Iw N Ui s10 s12 b Ub (λUs Uz=>k0 Us s10 Uz s12))))))))))))))))
def Ra (N:Nat):Bool->LI->Bool->LI->Bool->Bool->Bool->LI->Bool->LI->(Kx5)->Bool:=aB N (O7 N)
def I2 (N:Nat) (UF:Bool) (Ur:LI) (UD:Bool) (UH:LI) (Vo:Bool) (UB:LI) (UQ:Bool) (U7:LI) (b Ub:Bool) (k0:Kx5):Bool:=
 (Rl N Vo UB UQ U7 false false (λcr nsr Ui Uc=>Ra N UF Ur UD UH b Ub cr nsr Ui Uc (λUs Uh Uz Ug=>k0 Us Uh Uz Ug)))
def OC (N:Nat):Bool->LI->Bool->LI->Bool->LI->Bool->LI->Bool->Bool->(Kx5)->Bool:=aB N (I2 N)
def iy (N:Nat) (UF:Bool) (Ur:LI) (UD:Bool) (UH:LI) (Vo:Bool) (UB:LI) (UQ:Bool) (U7:LI) (k0:Kx5):Bool:=
 (OC N UF Ur UD UH Vo UB UQ U7 false false (λcr nsr Ui Uc=>k0 cr nsr Ui Uc))
def cK (N:Nat):Bool->LI->Bool->LI->Bool->LI->Bool->LI->(Kx5)->Bool:=iy N
def Jr (N:Nat) (UF:Bool) (Ur:LI) (UD:Bool) (UH:LI) (k0:Kz0):Bool:=
 (cond UF (k0 (-1)) (cond (((Ur.length:Nat):Int)==0) (k0 0) (k0 1)))
def OH (N:Nat):Bool->LI->Bool->LI->(Kz0)->Bool:=aB N (Jr N)
def pH (N:Nat) (UF:Bool) (Ur:LI) (UD:Bool) (UH:LI) (k0:Kz0):Bool:=
 (OH N UF Ur UD UH (λnr=>k0 nr))
def qE (N:Nat):Bool->LI->Bool->LI->(Kz0)->Bool:=pH N
def iB (N:Nat) (UF:Bool) (Ur:LI) (UD:Bool) (UH:LI) (k0:Kz0):Bool:=
 (qE N UF Ur UD UH (λnr=>k0 nr))
def bD (N:Nat):Bool->LI->Bool->LI->(Kz0)->Bool:=iB N
def bN (N:Nat) (i XZ UO t9:Int) (Uy:List RY0) (Wm W6:Int) (e0:Bool):(Int)->((Int)->Bool)->Bool:=λv_ K=>match v_ with
 | t10=>(cond (decide (t10<t9)) (bd N Wm W6 i t10 Uy (λcr nsr Ui Uc=>bd N Wm W6 t10 i Uy (λUs Uh Uz Ug=>cK N cr nsr Ui Uc Us Uh Uz Ug (λUW Uk Vr Ul=>bD N UW Uk Vr Ul (λnr=>cW N (nr==0) 112 (ai .i64 (t10+1)&&K (t10+1))))))) e0)
def bM (N:Nat) (t5:Int) (b0:List RY0) (g Wd:Int) (e0:Bool):(Int)->((Int)->Bool)->Bool:=λv_ K=>match v_ with
 | t6=>(cond (decide (t6<t5)) (am N (bN N t6 t5 t6 t6 b0 g Wd (ai .i64 (t6+1)&&K (t6+1))) 0) e0)
def cP (N:Nat) (VS U6:Int) (b:List RY0) (k0:Bool):Bool:=
 (am N (bM N VS b VS U6 k0) 0)
def cT (N:Nat):Int->Int->List RY0->(Bool)->Bool:=aB N (cP N)
def nX (N:Nat) (a b:Int) (k0:Kx5):Bool:=
 (DL N a (λcr nsr=>DL N b (λUi Uc=>NA N false false cr nsr Ui Uc (λUs Uh Uz Ug=>k0 Us Uh Uz Ug))))
def ui (N:Nat):Int->Int->(Kx5)->Bool:=aB N (nX N)
def np (N:Nat) (n:Int) (k0:Kx5):Bool:=
 (ui N n 1 (λcr nsr Ui Uc=>k0 cr nsr Ui Uc))
def kb (N:Nat):Int->(Kx5)->Bool:=np N
def O4 (N:Nat) (neg:Bool) (a b c d:LI) (Ub Ud:Bool) (k0:Kx5):Bool:=
 (zH N a d (λnsr=>zH N c b (λUc=>mp N a nsr (λUh=>mp N c Uc (λUg=>wP N Uh Ug (λUk=>mp N b Uc (λUl=>mp N d nsr (λs6=>wP N Ul s6 (λs7=>Iw N neg Uk s7 Ub Ud (λcr Ui=>k0 cr Uk Ui s7))))))))))
def NC (N:Nat):Bool->LI->LI->LI->LI->Bool->Bool->(Kx5)->Bool:=aB N (O4 N)
def I1 (N:Nat) (UF:Bool) (Ur:LI) (UD:Bool) (UH:LI) (Vo:Bool) (UB:LI) (UQ:Bool) (U7:LI) (b Ub:Bool) (k0:Kx5):Bool:=
 (zG N UF Ur UD UH (λnsr=>zG N Vo UB UQ U7 (λUc=>NC N (UF != Vo) Ur nsr Uc UB b Ub (λcr Uh Ui Ug=>k0 cr Uh Ui Ug))))
def OB (N:Nat):Bool->LI->Bool->LI->Bool->LI->Bool->LI->Bool->Bool->(Kx5)->Bool:=aB N (I1 N)
def iz (N:Nat) (UF:Bool) (Ur:LI) (UD:Bool) (UH:LI) (Vo:Bool) (UB:LI) (UQ:Bool) (U7:LI) (k0:Kx5):Bool:=
 (OB N UF Ur UD UH Vo UB UQ U7 false false (λcr nsr Ui Uc=>k0 cr nsr Ui Uc))
def dR (N:Nat):Bool->LI->Bool->LI->Bool->LI->Bool->LI->(Kx5)->Bool:=iz N
def I0 (N:Nat) (UF:Bool) (Ur:LI) (UD:Bool) (UH:LI) (Vo:Bool) (UB:LI) (UQ:Bool) (U7:LI) (b Ub:Bool) (k0:Kx5):Bool:=
 (zG N UF Ur UD UH (λnsr=>zG N Vo UB UQ U7 (λUc=>NC N (UF != Vo) Ur nsr UB Uc b Ub (λcr Uh Ui Ug=>k0 cr Uh Ui Ug))))
def OA (N:Nat):Bool->LI->Bool->LI->Bool->LI->Bool->LI->Bool->Bool->(Kx5)->Bool:=aB N (I0 N)
def ic (N:Nat) (UF:Bool) (Ur:LI) (UD:Bool) (UH:LI) (Vo:Bool) (UB:LI) (UQ:Bool) (U7:LI) (k0:Kx5):Bool:=
 (OA N UF Ur UD UH Vo UB UQ U7 false false (λcr nsr Ui Uc=>k0 cr nsr Ui Uc))
def dF (N:Nat):Bool->LI->Bool->LI->Bool->LI->Bool->LI->(Kx5)->Bool:=ic N
def Mr (N:Nat) (UF:Bool) (Ur:LI) (UD:Bool) (UH:LI) (Vo:Bool) (UB:LI) (UQ:Bool) (U7:LI) (b Ub:Bool) (k0:Kx5):Bool:=
 (zG N UF Ur UD UH (λnsr=>zG N Vo UB UQ U7 (λUc=>zH N nsr Uc (λUh=>mp N nsr Uh (λUg=>mp N Uc Uh (λUk=>wP N Ur Uk (λUl=>BG N UF Ul false (λcr=>wP N UB Ug (λs6=>NF N Vo s6 cr Ul (λUi s7=>zH N s7 Uh (λs8=>mp N s7 s8 (λs9=>pz N s9 (λs10=>mp N Uc s8 (λs11=>wP N Ug s11 (λs12=>Iw N Ui s10 s12 b Ub (λUs Uz=>k0 Us s10 Uz s12))))))))))))))))
def NH (N:Nat):Bool->LI->Bool->LI->Bool->LI->Bool->LI->Bool->Bool->(Kx5)->Bool:=aB N (Mr N)
def iA (N:Nat) (UF:Bool) (Ur:LI) (UD:Bool) (UH:LI) (Vo:Bool) (UB:LI) (UQ:Bool) (U7:LI) (k0:Kx5):Bool:=
 (NH N UF Ur UD UH Vo UB UQ U7 false false (λcr nsr Ui Uc=>k0 cr nsr Ui Uc))
def dS (N:Nat):Bool->LI->Bool->LI->Bool->LI->Bool->LI->(Kx5)->Bool:=iA N
def i5 (N:Nat) (VS U6 i j:Int) (UF:Bool) (Ur:LI) (UD:Bool) (UH:LI) (b:List RY0) (k0:List RY0->Bool):Bool:=
 (ai .i64 (i*U6)&&(ai .i64 ((i*U6)+j)&&(inR ((i*U6)+j) b.length&&(decide ((Int.toNat ((i*U6)+j))<b.length)&&k0 (b.set (Int.toNat ((i*U6)+j)) ((UF,Ur),(UD,UH)))))))
def eG (N:Nat):Int->Int->Int->Int->Bool->LI->Bool->LI->List RY0->(List RY0->Bool)->Bool:=i5 N
def cz (N:Nat) (UL Wo t10 g Wd:Int) (x:Bool) (Xq:LI) (XG:Bool) (XD:LI) (e0:List RY0->Bool):(Int × List RY0)->((Int × List RY0)->Bool)->Bool:=λv_ K=>match v_ with
 | (t11,b0)=>(cond (decide (t11<t10)) (bd N g Wd UL t11 b0 (λcr nsr Ui Uc=>bd N g Wd Wo t11 b0 (λUs Uh Uz Ug=>dF N Us Uh Uz Ug x Xq XG XD (λUW Uk Vr Ul=>dS N cr nsr Ui Uc UW Uk Vr Ul (λU_ s6 V3 s7=>eG N g Wd UL t11 U_ s6 V3 s7 b0 (λ(lr:List RY0)=>ai .i64 (t11+1)&&K ((t11+1),lr))))))) (e0 b0))
def eg (N:Nat) (VS U6 i k_:Int) (UF:Bool) (Ur:LI) (UD:Bool) (UH:LI) (b:List RY0) (k0:List RY0->Bool):Bool:=
 (am N (cz N i k_ U6 VS U6 UF Ur UD UH (λ(Uy:List RY0)=>k0 Uy)) (0,b))
def eF (N:Nat):Int->Int->Int->Int->Bool->LI->Bool->LI->List RY0->(List RY0->Bool)->Bool:=aB N (eg N)
def az (N:Nat) (VL k_ X1 Xf Wm W6:Int) (p:Bool) (XB:LI) (WR:Bool) (Yg:LI) (e0:Int->List RY0->Bool) (e1:List RY0->Bool):(Int × List RY0)->((Int × List RY0)->Bool)->Bool:=λv_ K=>match v_ with
 | (i,Uy)=>(cond (decide (i<Wm)) (bd N Wm W6 i k_ Uy (λUs Uh Uz Ug=>bD N Us Uh Uz Ug (λUf=>cond (Uf==0) (ai .i64 (i+1)&&K ((i+1),Uy)) (bD N p XB WR Yg (λUj=>cond (Uj==0) (e0 1 Uy) (kb N 0 (λUW Uk Vr Ul=>dR N Us Uh Uz Ug p XB WR Yg (λU_ s6 V3 s7=>cK N UW Uk Vr Ul U_ s6 V3 s7 (λc8 s8 c9 s9=>eF N Wm W6 i k_ c8 s8 c9 s9 Uy (λ(lr:List RY0)=>ai .i64 (i+1)&&K ((i+1),lr))))))))))) (e1 Uy))
def aN (N:Nat) (t9 g Wd:Int) (e0:Int->List RY0->Bool) (e1:Int->List RY0->Bool):(Int × Int × List RY0)->((Int × Int × List RY0)->Bool)->Bool:=λv_ K=>match v_ with
 | (s,t10,b0)=>(cond (decide (t10<t9)) (bd N g Wd t10 t10 b0 (λcr nsr Ui Uc=>bD N cr nsr Ui Uc (λnr=>cond (decide (nr<0)) (e0 1 b0) (ai .i64 (t10+1)&&am N (az N s t10 t9 t10 g Wd cr nsr Ui Uc (λ(t2:Int) (YD:List RY0)=>e0 t2 YD) (λ(X9:List RY0)=>bD N cr nsr Ui Uc (λUp=>cond (Up==0) (ai .i64 (t10+1)&&K (2,(t10+1),X9)) (ai .i64 (t10+1)&&K (s,(t10+1),X9))))) ((t10+1),b0))))) (e1 s b0))
def cY (N:Nat) (VS U6:Int) (b:List RY0) (k0:Int->List RY0->Bool):Bool:=
 (am N (aN N VS VS U6 (λ(VM:Int) (YE:List RY0)=>k0 VM YE) (λ(WU:Int) (YF:List RY0)=>k0 WU YF)) (3,0,b))
def fE (N:Nat):Int->Int->List RY0->(Int->List RY0->Bool)->Bool:=aB N (cY N)
def ix (N:Nat) (VS U6:Int) (b:List RY0) (k0:Int->List RY0->Bool):Bool:=
 (cW N (VS==U6) 3 (cT N VS U6 b (fE N VS U6 b (λ(nr:Int) (lr:List RY0)=>k0 nr lr))))
def dQ (N:Nat):Int->Int->List RY0->(Int->List RY0->Bool)->Bool:=ix N
def iR (N:Nat) (UE Uo:Int) (Uw:LF) (k0:Ky2):Bool:=
 (ir N UE Uo Uw (λ(lr:List RY0)=>dQ N UE Uo lr (λ(nr:Int) (Yf:List RY0)=>k0 nr 0)))
def iY (N:Nat):Int->Int->LF->(Ky2)->Bool:=aB N (iR N)
def pg (N:Nat) (Vo UB:Int) (UQ:LF) (k0:Ky9):Bool:=
 (iY N Vo UB UQ (λnr Uf=>cond ((Uf==0)==true) (k0 (nr==3)) (k0 false)))
def iO (N:Nat):Int->Int->LF->(Ky9)->Bool:=pg N
def oa (N:Nat) (UU Ut:Int) (UM UN:LF) (k0:Kz0):Bool:=
 (LA N UU Ut UM (λnr=>cond (nr != 0) (k0 nr) (cond ((UU != Ut)==false) (cond (((UN.length:Nat):Int) != UU) (k0 3) (yL N UN (λcr=>cond (!cr) (k0 4) (Rm N UU Ut UM (λUi=>cond (!Ui) (k0 150) (iO N UU Ut UM (λUs=>cond (!Us) (k0 170) (k0 0)))))))) (k0 3))))
def dN (N:Nat):Int->Int->LF->LF->(Kz0)->Bool:=aB N (oa N)
def iw (N:Nat) (i j:Int) (b:Bool) (Ub Ud Um:Int) (Uq UT:LF) (k0:Kz2):Bool:=
 (ai .i64 (i*Um)&&(ai .i64 ((i*Um)+j)&&(inR ((i*Um)+j) Uq.length&&(decide ((Int.toNat ((i*Um)+j))<Uq.length)&&k0 (Uq.getD (Int.toNat ((i*Um)+j)) none)))))
def dP (N:Nat):Int->Int->Bool->Int->Int->Int->LF->LF->(Kz2)->Bool:=iw N
abbrev xt:=Fl->(Kz2)->Bool
def uk (N:Nat):xt:=λx k=>k (zp x)
def q8 (N:Nat) (f:Fl) (sign:Int) (k0:Ky9):Bool:=
 (cond (sign==0) (uk N f (λxr=>k0 (fgt xr (some 9218868437227405311)))) (cond (decide (sign<0)) (k0 (fgt (QG f) (some 9218868437227405311))) (k0 (fgt f (some 9218868437227405311)))))
def lK (N:Nat):Fl->Int->(Ky9)->Bool:=aB N (q8 N)
def O2 (N:Nat) (x:Fl) (b:Bool) (k0:Ky9):Bool:=
 (cond ((!feq x x)==false) (lK N x 0 (λcr=>cond cr (k0 true) (k0 b))) (k0 true))
def kV (N:Nat):Fl->Bool->(Ky9)->Bool:=aB N (O2 N)
def jf (N:Nat) (i v_:Int) (b:Bool) (Ub Ud:Int) (Um Uq:LF) (k0:Kz2):Bool:=
 (inR i Uq.length&&(decide (i.toNat<Uq.length)&&k0 (Uq.getD i.toNat none)))
def fj (N:Nat):Int->Int->Bool->Int->Int->LF->LF->(Kz2)->Bool:=jf N
def n_ (N:Nat) (b k0:Bool):Bool:=
 k0
def uj (N:Nat):Bool->(Bool)->Bool:=aB N (n_ N)
def gr (N:Nat) (Vo UB:Int) (b:Bool) (Ub Ud:LF) (k0:Kx8) (k1:Kz0):Bool:=
 (uj N b (cond b (k0 0 0 5) (iO N Vo UB Ud (λcr=>cond (!cr) (k0 0 0 170) (k1 0)))))
def cj (N:Nat):Int->Int->Bool->LF->LF->(Kx8)->(Kz0)->Bool:=aB N (gr N)
def cw (N:Nat) (Un i U2 U4 t34:Int) (Uy Vc:LF) (Vq VA VB:Int) (Xx VZ:LF) (UN VE Vs Vt UQ U7:Int) (UC:LF) (e0:Ky4):(Int × Bool × LF)->((Int × Bool × LF)->Bool)->Bool:=λv_ K=>match v_ with
 | (t35,UG,Vb)=>(cond (decide (t35<t34)) (ai .i64 (i*Un)&&(ai .i64 ((i*Un)+t35)&&(inR ((i*Un)+t35) Uy.length&&(decide ((Int.toNat ((i*Un)+t35))<Uy.length)&&dP N i t35 UG Vq VA VB Xx VZ (λxr=>kV N (bL (Uy.getD (Int.toNat ((i*Un)+t35)) none) xr) UG (λcr=>ai .i64 (i*Un)&&(ai .i64 ((i*Un)+t35)&&(ai .i64 (t35*Un)&&(ai .i64 ((t35*Un)+i)&&(inR ((i*Un)+t35) Vb.length&&(decide ((Int.toNat ((i*Un)+t35))<Vb.length)&&(inR ((t35*Un)+i) (List.length (Vb.set (Int.toNat ((i*Un)+t35)) (bL (Uy.getD (Int.toNat ((i*Un)+t35)) none) xr)))&&(decide ((Int.toNat ((t35*Un)+i))<(List.length (Vb.set (Int.toNat ((i*Un)+t35)) (bL (Uy.getD (Int.toNat ((i*Un)+t35)) none) xr))))&&(ai .i64 (t35+1)&&K ((t35+1),cr,(List.set (Vb.set (Int.toNat ((i*Un)+t35)) (bL (Uy.getD (Int.toNat ((i*Un)+t35)) none) xr)) (Int.toNat ((t35*Un)+i)) (bL (Uy.getD (Int.toNat ((i*Un)+t35)) none) xr))))))))))))))))) (e0 UG Vb))
def cu (N:Nat) (n t29:Int) (b0 b1:LF) (toY UJ Vp:Int) (b4 b5:LF) (a UM t6 UO y UB:Int) (e0:Ky0):(Int × Bool × LF × LF)->((Int × Bool × LF × LF)->Bool)->Bool:=λv_ K=>match v_ with
 | (t30,Vn,v,b11)=>(cond (decide (t30<t29)) (ai .i64 (t30+1)&&am N (cw N n t30 t29 t30 (t30+1) b0 b1 toY UJ Vp b4 b5 a UM t6 UO y UB v (λUX W4=>inR t30 b1.length&&(decide (t30.toNat<b1.length)&&fj N t30 0 UX toY UJ b4 b5 (λVe=>kV N (bL (b1.getD t30.toNat none) Ve) UX (λUi=>inR t30 v.length&&(decide (t30.toNat<v.length)&&(ai .i64 (t30+1)&&K ((t30+1),Ui,(v.set t30.toNat (bL (b1.getD t30.toNat none) Ve)),W4)))))))) (0,Vn,b11)) (e0 Vn v b11))
def d_ (N:Nat) (UU Ut:Int) (b Ub:LF) (Ud Um Uq:Int) (UT Vk:LF) (k0:Kx8) (k1:Kx1):Bool:=
 (ai .i64 (((Ub.length:Nat):Int)*((Ub.length:Nat):Int))&&(g_ 8 (((Ub.length:Nat):Int)*((Ub.length:Nat):Int)) (((Ub.length:Nat):Int)*((Ub.length:Nat):Int))&&(g_ 8 ((Ub.length:Nat):Int) ((Ub.length:Nat):Int)&&am N (cu N ((Ub.length:Nat):Int) ((Ub.length:Nat):Int) b Ub Ud Um Uq UT Vk UU Ut 0 0 ((Ub.length:Nat):Int) ((Ub.length:Nat):Int) (λVf Vw b10=>cj N ((Ub.length:Nat):Int) ((Ub.length:Nat):Int) Vf Vw b10 (λnr Uf Uj=>k0 nr Uf Uj) (λUp=>k1 ((Ub.length:Nat):Int) ((Ub.length:Nat):Int) Up b10 Vw))) (0,false,(List.replicate (Int.toNat ((Ub.length:Nat):Int)) (some 0)),(List.replicate (Int.toNat (((Ub.length:Nat):Int)*((Ub.length:Nat):Int))) (some 0))))))
def eD (N:Nat):Int->Int->LF->LF->Int->Int->Int->LF->LF->(Kx8)->(Kx1)->Bool:=aB N (d_ N)
def ik (N:Nat) (UU Ut Wn Ub:Int) (b Ud Um Uq:LF) (k0:Kx2):Bool:=
 (dN N UU Ut b Ud (λnr=>cond (nr != 0) (k0 0 0 [] [] nr) (dN N Wn Ub Um Uq (λUf=>cond (Uf != 0) (k0 0 0 [] [] Uf) (cond (((Ud.length:Nat):Int) != ((Uq.length:Nat):Int)) (k0 0 0 [] [] 3) (eD N UU Ut b Ud Wn Ub ((Ud.length:Nat):Int) Um Uq (λUj Up UA=>k0 Uj Up [] [] UA) (λn5 n6 n7 xsr U5=>k0 n5 n6 xsr U5 n7)))))))
def d9 (N:Nat):Int->Int->Int->Int->LF->LF->LF->LF->(Kx2)->Bool:=aB N (ik N)
def BS (N:Nat) (Ut Ub:LF) (t12:Int) (e0:Ky9) (e1:Bool):(Int)->((Int)->Bool)->Bool:=λv_ K=>match v_ with
 | t13=>(cond (decide (t13<t12)) (inR t13 Ut.length&&uf N (Ut.getD t13.toNat none) (λnr=>inR t13 Ub.length&&uf N (Ub.getD t13.toNat none) (λUf=>cond (nr != Uf) (e0 false) (ai .i64 (t13+1)&&K (t13+1))))) e1)
def O_ (N:Nat) (a b:LF) (k0:Ky9):Bool:=
 (cond (((a.length:Nat):Int) != ((b.length:Nat):Int)) (k0 false) (am N (BS N a b ((a.length:Nat):Int) (λt4=>k0 t4) (k0 true)) 0))
def NG (N:Nat):LF->LF->(Ky9)->Bool:=aB N (O_ N)
def IY (N:Nat) (UU Ut:Int) (UM:LF) (Wn Ub:Int) (Ud:LF) (k0:Ky9):Bool:=
 (cond ((UU==Wn)==true) (cond ((Ut==Ub)==true) (NG N UM Ud (λcr=>k0 cr)) (k0 false)) (k0 false))
def Oy (N:Nat):Int->Int->LF->Int->Int->LF->(Ky9)->Bool:=aB N (IY N)
def RX (N:Nat) (UU Ut:Int) (UM UN:LF) (Wn Ub:Int) (Ud Um:LF) (k0:Ky9):Bool:=
 (NG N UN Um (λcr=>cond (cr==true) (Oy N UU Ut UM Wn Ub Ud (λUi=>k0 Ui)) (k0 false)))
def Rj (N:Nat):Int->Int->LF->LF->Int->Int->LF->LF->(Ky9)->Bool:=RX N
def SR (N:Nat) (b:Int) (k0:Kz2):Bool:=
 (wl N b (λxr=>k0 xr))
def zF (N:Nat):Int->(Kz2)->Bool:=SR N
def pK (N:Nat) (n:Int) (h:LF) (r z:Fl) (k0:Kz0):Bool:=
 (cond (((h.length:Nat):Int) != n) (k0 3) (yL N h (λcr=>cond (!cr) (k0 4) (yL N [r] (λUi=>cond (!Ui) (k0 4) (cond (fle r (some 0)) (k0 152) (yL N [z] (λUs=>cond (!Us) (k0 4) (k0 0)))))))))
def m0 (N:Nat):Int->LF->Fl->Fl->(Kz0)->Bool:=aB N (pK N)
def pJ (N:Nat) (a b:Fl) (Ub:Bool) (k0:Ky5):Bool:=
 (kV N (kT a b) Ub (λcr=>k0 (kT a b) cr))
def mZ (N:Nat):Fl->Fl->Bool->(Ky5)->Bool:=aB N (pJ N)
def cI (N:Nat) (i j:Int) (b:Bool) (Ub:Fl) (Ud:LF) (k0:Ky5):Bool:=
 (inR i Ud.length&&(decide (i.toNat<Ud.length)&&(inR j Ud.length&&(decide (j.toNat<Ud.length)&&mZ N (Ud.getD i.toNat none) (Ud.getD j.toNat none) b (λxr cr=>kV N (fdiv xr Ub) cr (λUi=>k0 (fdiv xr Ub) Ui))))))
def bK (N:Nat):Int->Int->Bool->Fl->LF->(Ky5)->Bool:=aB N (cI N)
def cl (N:Nat) (i v_:Int) (b:Bool) (Ub Ud:Fl) (Um:LF) (k0:Ky5):Bool:=
 (inR i Um.length&&(decide (i.toNat<Um.length)&&mZ N (Um.getD i.toNat none) Ub b (λxr cr=>kV N (fdiv xr Ud) cr (λUi=>k0 (fdiv xr Ud) Ui))))
def bH (N:Nat):Int->Int->Bool->Fl->Fl->LF->(Ky5)->Bool:=aB N (cl N)
def dC (N:Nat) (Un i U2 U4 t34:Int) (UJ VN:Fl) (Xw:LF) (Yx Yy:Int) (Xv XO:LF) (Vs Vt UQ U7:Int) (UC:LF) (e0:Ky4):(Int × Bool × LF)->((Int × Bool × LF)->Bool)->Bool:=λv_ K=>match v_ with
 | (t35,UG,Vj)=>(cond (decide (t35<t34)) (ai .i64 (i*Un)&&(ai .i64 ((i*Un)+t35)&&(inR ((i*Un)+t35) Xv.length&&bK N i t35 UG UJ Xw (λxr cr=>kV N (bL (Xv.getD (Int.toNat ((i*Un)+t35)) none) xr) cr (λUi=>ai .i64 (i*Un)&&(ai .i64 ((i*Un)+t35)&&(ai .i64 (t35*Un)&&(ai .i64 ((t35*Un)+i)&&(inR ((i*Un)+t35) Vj.length&&(decide ((Int.toNat ((i*Un)+t35))<Vj.length)&&(inR ((t35*Un)+i) (List.length (Vj.set (Int.toNat ((i*Un)+t35)) (bL (Xv.getD (Int.toNat ((i*Un)+t35)) none) xr)))&&(decide ((Int.toNat ((t35*Un)+i))<(List.length (Vj.set (Int.toNat ((i*Un)+t35)) (bL (Xv.getD (Int.toNat ((i*Un)+t35)) none) xr))))&&(ai .i64 (t35+1)&&K ((t35+1),Ui,(List.set (Vj.set (Int.toNat ((i*Un)+t35)) (bL (Xv.getD (Int.toNat ((i*Un)+t35)) none) xr)) (Int.toNat ((t35*Un)+i)) (bL (Xv.getD (Int.toNat ((i*Un)+t35)) none) xr)))))))))))))))) (e0 UG Vj))
def dB (N:Nat) (n t29:Int) (toY toV:Fl) (b3:LF) (a VE:Int) (WZ X4:LF) (t6 UO y UB:Int) (e0:Ky0):(Int × Bool × LF × LF)->((Int × Bool × LF × LF)->Bool)->Bool:=λv_ K=>match v_ with
 | (t30,Vn,v,b9)=>(cond (decide (t30<t29)) (ai .i64 (t30+1)&&am N (dC N n t30 t29 t30 (t30+1) toY toV b3 a VE WZ X4 t6 UO y UB v (λUX XQ=>inR t30 X4.length&&bH N t30 0 UX toV toY b3 (λVe Us=>kV N (bL (X4.getD t30.toNat none) Ve) Us (λUz=>inR t30 v.length&&(decide (t30.toNat<v.length)&&(ai .i64 (t30+1)&&K ((t30+1),Uz,(v.set t30.toNat (bL (X4.getD t30.toNat none) Ve)),XQ))))))) (0,Vn,b9)) (e0 Vn v b9))
def iQ (N:Nat) (UU Ut:Int) (UM UN:LF) (b Ub:Fl) (Ud:LF) (k0:Kx8) (k1:Kx1):Bool:=
 (ai .i64 (((UN.length:Nat):Int)*((UN.length:Nat):Int))&&(g_ 8 (((UN.length:Nat):Int)*((UN.length:Nat):Int)) (((UN.length:Nat):Int)*((UN.length:Nat):Int))&&(g_ 8 ((UN.length:Nat):Int) ((UN.length:Nat):Int)&&am N (dB N ((UN.length:Nat):Int) ((UN.length:Nat):Int) b Ub Ud UU Ut UM UN 0 0 ((UN.length:Nat):Int) ((UN.length:Nat):Int) (λVf Vw b8=>cj N ((UN.length:Nat):Int) ((UN.length:Nat):Int) Vf Vw b8 (λnr Uf Uj=>k0 nr Uf Uj) (λUp=>k1 ((UN.length:Nat):Int) ((UN.length:Nat):Int) Up b8 Vw))) (0,false,(List.replicate (Int.toNat ((UN.length:Nat):Int)) (some 0)),(List.replicate (Int.toNat (((UN.length:Nat):Int)*((UN.length:Nat):Int))) (some 0))))))
def iX (N:Nat):Int->Int->LF->LF->Fl->Fl->LF->(Kx8)->(Kx1)->Bool:=aB N (iQ N)
def kQ (N:Nat) (UU Ut:Int) (UM UN:LF) (r z:Fl) (b:LF) (k0:Kx2):Bool:=
 (dN N UU Ut UM UN (λnr=>cond (nr != 0) (k0 0 0 [] [] nr) (m0 N ((UN.length:Nat):Int) b r z (λUf=>cond (Uf != 0) (k0 0 0 [] [] Uf) (iX N UU Ut UM UN r z b (λUj Up UA=>k0 Uj Up [] [] UA) (λn5 n6 n7 xsr U5=>k0 n5 n6 xsr U5 n7))))))
def kX (N:Nat):Int->Int->LF->LF->Fl->Fl->LF->(Kx2)->Bool:=aB N (kQ N)
def cO (N:Nat) (Un i U2 U4 t34:Int) (Uy Vc:LF) (UJ VN:Fl) (VZ:LF) (UN VE Vs Vt UQ U7:Int) (UC:LF) (e0:Ky4):(Int × Bool × LF)->((Int × Bool × LF)->Bool)->Bool:=λv_ K=>match v_ with
 | (t35,UG,Vb)=>(cond (decide (t35<t34)) (ai .i64 (i*Un)&&(ai .i64 ((i*Un)+t35)&&(inR ((i*Un)+t35) Uy.length&&(decide ((Int.toNat ((i*Un)+t35))<Uy.length)&&bK N i t35 UG UJ VZ (λxr cr=>kV N (bL (Uy.getD (Int.toNat ((i*Un)+t35)) none) xr) cr (λUi=>ai .i64 (i*Un)&&(ai .i64 ((i*Un)+t35)&&(ai .i64 (t35*Un)&&(ai .i64 ((t35*Un)+i)&&(inR ((i*Un)+t35) Vb.length&&(decide ((Int.toNat ((i*Un)+t35))<Vb.length)&&(inR ((t35*Un)+i) (List.length (Vb.set (Int.toNat ((i*Un)+t35)) (bL (Uy.getD (Int.toNat ((i*Un)+t35)) none) xr)))&&(decide ((Int.toNat ((t35*Un)+i))<(List.length (Vb.set (Int.toNat ((i*Un)+t35)) (bL (Uy.getD (Int.toNat ((i*Un)+t35)) none) xr))))&&(ai .i64 (t35+1)&&K ((t35+1),Ui,(List.set (Vb.set (Int.toNat ((i*Un)+t35)) (bL (Uy.getD (Int.toNat ((i*Un)+t35)) none) xr)) (Int.toNat ((t35*Un)+i)) (bL (Uy.getD (Int.toNat ((i*Un)+t35)) none) xr))))))))))))))))) (e0 UG Vb))
def cN (N:Nat) (n t29:Int) (b0 b1:LF) (toY toV:Fl) (b5:LF) (a UM t6 UO y UB:Int) (e0:Ky0):(Int × Bool × LF × LF)->((Int × Bool × LF × LF)->Bool)->Bool:=λv_ K=>match v_ with
 | (t30,Vn,v,b11)=>(cond (decide (t30<t29)) (ai .i64 (t30+1)&&am N (cO N n t30 t29 t30 (t30+1) b0 b1 toY toV b5 a UM t6 UO y UB v (λUX W4=>inR t30 b1.length&&(decide (t30.toNat<b1.length)&&bH N t30 0 UX toV toY b5 (λVe Us=>kV N (bL (b1.getD t30.toNat none) Ve) Us (λUz=>inR t30 v.length&&(decide (t30.toNat<v.length)&&(ai .i64 (t30+1)&&K ((t30+1),Uz,(v.set t30.toNat (bL (b1.getD t30.toNat none) Ve)),W4)))))))) (0,Vn,b11)) (e0 Vn v b11))
def fK (N:Nat) (UU Ut:Int) (b Ub:LF) (Ud Um:Fl) (Uq:LF) (k0:Kx8) (k1:Kx1):Bool:=
 (ai .i64 (((Ub.length:Nat):Int)*((Ub.length:Nat):Int))&&(g_ 8 (((Ub.length:Nat):Int)*((Ub.length:Nat):Int)) (((Ub.length:Nat):Int)*((Ub.length:Nat):Int))&&(g_ 8 ((Ub.length:Nat):Int) ((Ub.length:Nat):Int)&&am N (cN N ((Ub.length:Nat):Int) ((Ub.length:Nat):Int) b Ub Ud Um Uq UU Ut 0 0 ((Ub.length:Nat):Int) ((Ub.length:Nat):Int) (λVf Vw b10=>cj N ((Ub.length:Nat):Int) ((Ub.length:Nat):Int) Vf Vw b10 (λnr Uf Uj=>k0 nr Uf Uj) (λUp=>k1 ((Ub.length:Nat):Int) ((Ub.length:Nat):Int) Up b10 Vw))) (0,false,(List.replicate (Int.toNat ((Ub.length:Nat):Int)) (some 0)),(List.replicate (Int.toNat (((Ub.length:Nat):Int)*((Ub.length:Nat):Int))) (some 0))))))
def fO (N:Nat):Int->Int->LF->LF->Fl->Fl->LF->(Kx8)->(Kx1)->Bool:=aB N (fK N)
def il (N:Nat) (UU Ut:Int) (r z:Fl) (b Ub Ud:LF) (k0:Kx2):Bool:=
 (dN N UU Ut b Ub (λnr=>cond (nr != 0) (k0 0 0 [] [] nr) (m0 N ((Ub.length:Nat):Int) Ud r z (λUf=>cond (Uf != 0) (k0 0 0 [] [] Uf) (fO N UU Ut b Ub r z Ud (λUj Up UA=>k0 Uj Up [] [] UA) (λn5 n6 n7 xsr U5=>k0 n5 n6 xsr U5 n7))))))
def iq (N:Nat):Int->Int->Fl->Fl->LF->LF->LF->(Kx2)->Bool:=aB N (il N)
def je (N:Nat) (i j:Int) (b:Bool) (Ub Ud:Int) (Um Uq:LF) (UT:Int) (k0:Kz2):Bool:=
 (ai .i64 (i*UT)&&(ai .i64 ((i*UT)+j)&&(inR ((i*UT)+j) Um.length&&k0 (Um.getD (Int.toNat ((i*UT)+j)) none))))
def fi (N:Nat):Int->Int->Bool->Int->Int->LF->LF->Int->(Kz2)->Bool:=je N
def kp (N:Nat) (i v_:Int) (b:Bool) (Ub Ud:Int) (Um Uq:LF) (k0:Kz2):Bool:=
 (inR i Uq.length&&k0 (Uq.getD i.toNat none))
def gQ (N:Nat):Int->Int->Bool->Int->Int->LF->LF->(Kz2)->Bool:=kp N
def cM (N:Nat) (Un i U2 U4 t34:Int) (Uy Vc:LF) (VB WH:Int) (WI WJ:LF) (WK UN VE Vs Vt UQ U7:Int) (UC:LF) (e0:Ky4):(Int × Bool × LF)->((Int × Bool × LF)->Bool)->Bool:=λv_ K=>match v_ with
 | (t35,UG,Vj)=>(cond (decide (t35<t34)) (ai .i64 (i*Un)&&(ai .i64 ((i*Un)+t35)&&(inR ((i*Un)+t35) Uy.length&&(decide ((Int.toNat ((i*Un)+t35))<Uy.length)&&fi N i t35 UG VB WH WI WJ WK (λxr=>kV N (bL (Uy.getD (Int.toNat ((i*Un)+t35)) none) xr) UG (λcr=>ai .i64 (i*Un)&&(ai .i64 ((i*Un)+t35)&&(ai .i64 (t35*Un)&&(ai .i64 ((t35*Un)+i)&&(inR ((i*Un)+t35) Vj.length&&(decide ((Int.toNat ((i*Un)+t35))<Vj.length)&&(inR ((t35*Un)+i) (List.length (Vj.set (Int.toNat ((i*Un)+t35)) (bL (Uy.getD (Int.toNat ((i*Un)+t35)) none) xr)))&&(decide ((Int.toNat ((t35*Un)+i))<(List.length (Vj.set (Int.toNat ((i*Un)+t35)) (bL (Uy.getD (Int.toNat ((i*Un)+t35)) none) xr))))&&(ai .i64 (t35+1)&&K ((t35+1),cr,(List.set (Vj.set (Int.toNat ((i*Un)+t35)) (bL (Uy.getD (Int.toNat ((i*Un)+t35)) none) xr)) (Int.toNat ((t35*Un)+i)) (bL (Uy.getD (Int.toNat ((i*Un)+t35)) none) xr))))))))))))))))) (e0 UG Vj))
def cL (N:Nat) (n t29:Int) (b0 b1:LF) (toY UJ:Int) (Vp Vq:LF) (VA a UM t6 UO y UB:Int) (e0:Ky0):(Int × Bool × LF × LF)->((Int × Bool × LF × LF)->Bool)->Bool:=λv_ K=>match v_ with
 | (t30,Vn,v,b9)=>(cond (decide (t30<t29)) (ai .i64 (t30+1)&&am N (cM N n t30 t29 t30 (t30+1) b0 b1 toY UJ Vp Vq VA a UM t6 UO y UB v (λUX XQ=>inR t30 b1.length&&(decide (t30.toNat<b1.length)&&gQ N t30 0 UX toY UJ Vp Vq (λVe=>kV N (bL (b1.getD t30.toNat none) Ve) UX (λUi=>inR t30 v.length&&(decide (t30.toNat<v.length)&&(ai .i64 (t30+1)&&K ((t30+1),Ui,(v.set t30.toNat (bL (b1.getD t30.toNat none) Ve)),XQ)))))))) (0,Vn,b9)) (e0 Vn v b9))
def fJ (N:Nat) (UU Ut:Int) (b Ub:LF) (Ud Um:Int) (Uq UT:LF) (Vk:Int) (k0:Kx8) (k1:Kx1):Bool:=
 (ai .i64 (((Ub.length:Nat):Int)*((Ub.length:Nat):Int))&&(g_ 8 (((Ub.length:Nat):Int)*((Ub.length:Nat):Int)) (((Ub.length:Nat):Int)*((Ub.length:Nat):Int))&&(g_ 8 ((Ub.length:Nat):Int) ((Ub.length:Nat):Int)&&am N (cL N ((Ub.length:Nat):Int) ((Ub.length:Nat):Int) b Ub Ud Um Uq UT Vk UU Ut 0 0 ((Ub.length:Nat):Int) ((Ub.length:Nat):Int) (λVf Vw b8=>cj N ((Ub.length:Nat):Int) ((Ub.length:Nat):Int) Vf Vw b8 (λnr Uf Uj=>k0 nr Uf Uj) (λUp=>k1 ((Ub.length:Nat):Int) ((Ub.length:Nat):Int) Up b8 Vw))) (0,false,(List.replicate (Int.toNat ((Ub.length:Nat):Int)) (some 0)),(List.replicate (Int.toNat (((Ub.length:Nat):Int)*((Ub.length:Nat):Int))) (some 0))))))
def fN (N:Nat):Int->Int->LF->LF->Int->Int->LF->LF->Int->(Kx8)->(Kx1)->Bool:=aB N (fJ N)
def kP (N:Nat) (UU Ut Wn Ub:Int) (Ud Um b Uq:LF) (k0:Kx2):Bool:=
 (dN N UU Ut b Uq (λnr=>cond (nr != 0) (k0 0 0 [] [] nr) (dN N Wn Ub Ud Um (λUf=>cond (Uf != 0) (k0 0 0 [] [] Uf) (cond (((Uq.length:Nat):Int) != ((Um.length:Nat):Int)) (k0 0 0 [] [] 3) (fN N UU Ut b Uq Wn Ub Ud Um ((Uq.length:Nat):Int) (λUj Up UA=>k0 Uj Up [] [] UA) (λn5 n6 n7 xsr U5=>k0 n5 n6 xsr U5 n7)))))))
def kW (N:Nat):Int->Int->Int->Int->LF->LF->LF->LF->(Kx2)->Bool:=aB N (kP N)
def Jb (N:Nat) (neg b:Bool) (Ub:LI) (k0:Kx7):Bool:=
 (nk N Ub (λmr=>cond (neg==true) (k0 (decide (((mr:Nat):Int)>0)) 0 mr) (k0 false 0 mr)))
def GJ (N:Nat):Bool->Bool->LI->(Kx7)->Bool:=Jb N
def Je (N:Nat) (b Ub:Bool) (Ud:LI) (k0:Ky3):Bool:=
 (decide ((List.length ([]++Ud))*4<=140737488355328)&&GJ N (!Ub) b ([]++Ud) (λcr mr UI=>decide ((mr+UI)<=(List.length ([]++Ud)))&&k0 cr (List.take UI (List.drop mr ([]++Ud)))))
def Lr (N:Nat):Bool->Bool->LI->(Ky3)->Bool:=aB N (Je N)
def OX (N:Nat) (x:Int) (b:Bool) (Ub:LI) (k0:Ky3):Bool:=
 (Lr N false b Ub (λcr nsr=>k0 cr nsr))
def It (N:Nat):Int->Bool->LI->(Ky3)->Bool:=OX N
def Pb (N:Nat) (b:Bool) (Ub:LI) (k0:Kz0):Bool:=
 (cond (((Ub.length:Nat):Int)==0) (k0 0) (cond b (k0 (-1)) (k0 1)))
def yN (N:Nat):Bool->LI->(Kz0)->Bool:=aB N (Pb N)
def RI (N:Nat) (b Ub:Bool) (Ud:LI) (Um:Bool) (Uq:LI) (k0:Ky3):Bool:=
 (NO N false b Ub Ud Um Uq (λcr nsr=>k0 cr nsr))
def BH (N:Nat):Bool->Bool->LI->Bool->LI->(Ky3)->Bool:=RI N
def GQ3 (N:Nat) (x y:Int) (b:Bool) (Ub:LI) (Ud:Bool) (Um:LI) (k0 k1:Bool) (k2:Kx9):Bool:=
 (yN N b Ub (λnr=>cond (nr==0) k0 (yN N Ud Um (λUf=>cond (Uf==0) k1 (FB N x (imm false x y) b Ub (FB N y (imm false x y) Ud Um (BH N false b Ub Ud Um (λcr nsr=>k2 (imm false x y) cr nsr)) (λUi Uc=>BH N false b Ub Ui Uc (λUs Uh=>k2 (imm false x y) Us Uh))) (λUz Ug=>FB N y (imm false x y) Ud Um (BH N false Uz Ug Ud Um (λUW Uk=>k2 (imm false x y) UW Uk)) (λVr Ul=>BH N false Uz Ug Vr Ul (λU_ s6=>k2 (imm false x y) U_ s6))))))))
def sQ3 (N:Nat):Int->Int->Bool->LI->Bool->LI->(Bool)->(Bool)->(Kx9)->Bool:=aB N (GQ3 N)
def Jd (N:Nat) (b Ub:Bool) (Ud:LI) (k0:Ky3):Bool:=
 (decide ((List.length ([]++Ud))*4<=140737488355328)&&GJ N false b ([]++Ud) (λcr mr UI=>decide ((mr+UI)<=(List.length ([]++Ud)))&&k0 cr (List.take UI (List.drop mr ([]++Ud)))))
def Lq (N:Nat):Bool->Bool->LI->(Ky3)->Bool:=aB N (Jd N)
def GQ2 (N:Nat) (x:Int) (b:Bool) (Ub:LI) (k0:Ky3):Bool:=
 (Lq N false b Ub (λcr nsr=>k0 cr nsr))
def sQ2 (N:Nat):Int->Bool->LI->(Ky3)->Bool:=GQ2 N
def SQ (N:Nat) (n:Int) (k0:Kx9):Bool:=
 (yK N n (λcr nsr=>k0 0 cr nsr))
def jA (N:Nat):Int->(Kx9)->Bool:=SQ N
def PC (N:Nat) (b Ub:Bool) (Ud:LI) (Um:Bool) (Uq:LI) (k0:Ky3):Bool:=
 (u9 N Ud Uq (λnsr=>ug N (Ub != Um) nsr b (λcr Uc=>k0 cr Uc)))
def Rp (N:Nat):Bool->Bool->LI->Bool->LI->(Ky3)->Bool:=aB N (PC N)
def GQ0 (N:Nat) (x y:Int) (b:Bool) (Ub:LI) (Ud:Bool) (Um:LI) (k0:Kx9):Bool:=
 (Rp N false b Ub Ud Um (λcr nsr=>ai .i64 (x+y)&&k0 (x+y) cr nsr))
def sQ0 (N:Nat):Int->Int->Bool->LI->Bool->LI->(Kx9)->Bool:=GQ0 N
def SP (N:Nat) (e:Int) (k0:Ky3):Bool:=
 (yK N 1 (λcr nsr=>k0 cr nsr))
def jz (N:Nat):Int->(Ky3)->Bool:=SP N
def GQ1 (N:Nat) (x y:Int) (b:Bool) (Ub:LI) (Ud:Bool) (Um:LI) (k0:Kz0):Bool:=
 (It N y Ud Um (λcr nsr=>sQ3 N x y b Ub cr nsr (yN N cr nsr (λnr=>k0 nr)) (yN N b Ub (λUf=>k0 Uf)) (λUj Ui Uc=>yN N Ui Uc (λUp=>k0 Up))))
def sQ1 (N:Nat):Int->Int->Bool->LI->Bool->LI->(Kz0)->Bool:=aB N (GQ1 N)
def OW (N:Nat) (x y a b c:Fl) (k0:Ky9):Bool:=
 (e_ N x (λnr cr nsr=>e_ N y (λUf Ui Uc=>It N Uf Ui Uc (λUs Uh=>sQ3 N nr Uf cr nsr Us Uh (sQ2 N Uf Us Uh (λUz Ug=>e_ N a (λUp V3 s7=>sQ2 N Up V3 s7 (λc8 s8=>e_ N b (λUA c9 s9=>sQ2 N UA c9 s9 (λc10 s10=>sQ3 N Up UA c8 s8 c10 s10 (e_ N c (λn5 c11 s11=>sQ2 N n5 c11 s11 (λc12 s12=>sQ3 N UA n5 c10 s10 c12 s12 (jA N 5 (λn30 c49 s49=>sQ0 N n5 n30 c12 s12 c49 s49 (λn31 c50 s50=>jz N (-53) (λc51 s51=>sQ0 N n31 (-53) c50 s50 c51 s51 (λn32 c52 s52=>sQ1 N Uf n32 Uz Ug c52 s52 (λn33=>k0 (decide (n33<=0)))))))) (jA N 5 (λn34 c53 s53=>sQ0 N UA n34 c10 s10 c53 s53 (λn35 c54 s54=>jz N (-53) (λc55 s55=>sQ0 N n35 (-53) c54 s54 c55 s55 (λn36 c56 s56=>sQ1 N Uf n36 Uz Ug c56 s56 (λn37=>k0 (decide (n37<=0)))))))) (λn6 c13 s13=>jA N 5 (λn38 c57 s57=>sQ0 N n6 n38 c13 s13 c57 s57 (λn39 c58 s58=>jz N (-53) (λc59 s59=>sQ0 N n39 (-53) c58 s58 c59 s59 (λn40 c60 s60=>sQ1 N Uf n40 Uz Ug c60 s60 (λn41=>k0 (decide (n41<=0))))))))))) (e_ N c (λn7 c14 s14=>sQ2 N n7 c14 s14 (λc15 s15=>sQ3 N Up n7 c8 s8 c15 s15 (jA N 5 (λn42 c61 s61=>sQ0 N n7 n42 c15 s15 c61 s61 (λn43 c62 s62=>jz N (-53) (λc63 s63=>sQ0 N n43 (-53) c62 s62 c63 s63 (λn44 Yb XU=>sQ1 N Uf n44 Uz Ug Yb XU (λn45=>k0 (decide (n45<=0)))))))) (jA N 5 (λn46 c65 s65=>sQ0 N Up n46 c8 s8 c65 s65 (λn47 c66 s66=>jz N (-53) (λc67 s67=>sQ0 N n47 (-53) c66 s66 c67 s67 (λn48 c68 s68=>sQ1 N Uf n48 Uz Ug c68 s68 (λn49=>k0 (decide (n49<=0)))))))) (λVJ c16 s16=>jA N 5 (λn50 c69 s69=>sQ0 N VJ n50 c16 s16 c69 s69 (λn51 c70 s70=>jz N (-53) (λc71 s71=>sQ0 N n51 (-53) c70 s70 c71 s71 (λn52 c72 s72=>sQ1 N Uf n52 Uz Ug c72 s72 (λn53=>k0 (decide (n53<=0))))))))))) (λVF c17 s17=>e_ N c (λn10 c18 s18=>sQ2 N n10 c18 s18 (λc19 s19=>sQ3 N VF n10 c17 s17 c19 s19 (jA N 5 (λn54 c73 s73=>sQ0 N n10 n54 c19 s19 c73 s73 (λn55 c74 s74=>jz N (-53) (λc75 s75=>sQ0 N n55 (-53) c74 s74 c75 s75 (λn56 c76 s76=>sQ1 N Uf n56 Uz Ug c76 s76 (λn57=>k0 (decide (n57<=0)))))))) (jA N 5 (λn58 c77 s77=>sQ0 N VF n58 c17 s17 c77 s77 (λn59 c78 s78=>jz N (-53) (λc79 s79=>sQ0 N n59 (-53) c78 s78 c79 s79 (λn60 c80 s80=>sQ1 N Uf n60 Uz Ug c80 s80 (λn61=>k0 (decide (n61<=0)))))))) (λXc c20 s20=>jA N 5 (λn62 c81 s81=>sQ0 N Xc n62 c20 s20 c81 s81 (λn63 c82 s82=>jz N (-53) (λc83 s83=>sQ0 N n63 (-53) c82 s82 c83 s83 (λn64 c84 s84=>sQ1 N Uf n64 Uz Ug c84 s84 (λn65=>k0 (decide (n65<=0))))))))))))))))) (sQ2 N nr cr nsr (λUW Uk=>e_ N a (λVV c21 s21=>sQ2 N VV c21 s21 (λc22 Ww=>e_ N b (λn13 c23 s23=>sQ2 N n13 c23 s23 (λc24 s24=>sQ3 N VV n13 c22 Ww c24 s24 (e_ N c (λn14 c25 XS=>sQ2 N n14 c25 XS (λc26 s26=>sQ3 N n13 n14 c24 s24 c26 s26 (jA N 5 (λn66 c85 s85=>sQ0 N n14 n66 c26 s26 c85 s85 (λn67 c86 s86=>jz N (-53) (λc87 s87=>sQ0 N n67 (-53) c86 s86 c87 s87 (λn68 c88 s88=>sQ1 N nr n68 UW Uk c88 s88 (λn69=>k0 (decide (n69<=0)))))))) (jA N 5 (λn70 c89 s89=>sQ0 N n13 n70 c24 s24 c89 s89 (λn71 c90 s90=>jz N (-53) (λc91 s91=>sQ0 N n71 (-53) c90 s90 c91 s91 (λn72 c92 s92=>sQ1 N nr n72 UW Uk c92 s92 (λn73=>k0 (decide (n73<=0)))))))) (λn15 c27 s27=>jA N 5 (λn74 c93 s93=>sQ0 N n15 n74 c27 s27 c93 s93 (λn75 c94 s94=>jz N (-53) (λc95 s95=>sQ0 N n75 (-53) c94 s94 c95 s95 (λn76 c96 s96=>sQ1 N nr n76 UW Uk c96 s96 (λn77=>k0 (decide (n77<=0))))))))))) (e_ N c (λn16 c28 s28=>sQ2 N n16 c28 s28 (λc29 s29=>sQ3 N VV n16 c22 Ww c29 s29 (jA N 5 (λn78 c97 s97=>sQ0 N n16 n78 c29 s29 c97 s97 (λn79 c98 s98=>jz N (-53) (λc99 s99=>sQ0 N n79 (-53) c98 s98 c99 s99 (λn80 c100 s100=>sQ1 N nr n80 UW Uk c100 s100 (λn81=>k0 (decide (n81<=0)))))))) (jA N 5 (λn82 c101 s101=>sQ0 N VV n82 c22 Ww c101 s101 (λn83 c102 s102=>jz N (-53) (λc103 s103=>sQ0 N n83 (-53) c102 s102 c103 s103 (λn84 c104 s104=>sQ1 N nr n84 UW Uk c104 s104 (λn85=>k0 (decide (n85<=0)))))))) (λn17 c30 s30=>jA N 5 (λn86 c105 s105=>sQ0 N n17 n86 c30 s30 c105 s105 (λn87 c106 s106=>jz N (-53) (λc107 s107=>sQ0 N n87 (-53) c106 s106 c107 s107 (λn88 c108 s108=>sQ1 N nr n88 UW Uk c108 s108 (λn89=>k0 (decide (n89<=0))))))))))) (λn18 c31 s31=>e_ N c (λn19 Ya XT=>sQ2 N n19 Ya XT (λc33 s33=>sQ3 N n18 n19 c31 s31 c33 s33 (jA N 5 (λn90 c109 s109=>sQ0 N n19 n90 c33 s33 c109 s109 (λn91 c110 s110=>jz N (-53) (λc111 s111=>sQ0 N n91 (-53) c110 s110 c111 s111 (λn92 c112 s112=>sQ1 N nr n92 UW Uk c112 s112 (λn93=>k0 (decide (n93<=0)))))))) (jA N 5 (λn94 c113 s113=>sQ0 N n18 n94 c31 s31 c113 s113 (λn95 c114 s114=>jz N (-53) (λc115 s115=>sQ0 N n95 (-53) c114 s114 c115 s115 (λn96 c116 s116=>sQ1 N nr n96 UW Uk c116 s116 (λn97=>k0 (decide (n97<=0)))))))) (λn20 c34 s34=>jA N 5 (λn98 c117 s117=>sQ0 N n20 n98 c34 s34 c117 s117 (λn99 c118 s118=>jz N (-53) (λc119 s119=>sQ0 N n99 (-53) c118 s118 c119 s119 (λn100 c120 s120=>sQ1 N nr n100 UW Uk c120 s120 (λn101=>k0 (decide (n101<=0))))))))))))))))) (λUj Vr Ul=>sQ2 N Uj Vr Ul (λU_ s6=>e_ N a (λn21 c35 s35=>sQ2 N n21 c35 s35 (λc36 s36=>e_ N b (λn22 c37 s37=>sQ2 N n22 c37 s37 (λc38 s38=>sQ3 N n21 n22 c36 s36 c38 s38 (e_ N c (λn23 c39 s39=>sQ2 N n23 c39 s39 (λc40 s40=>sQ3 N n22 n23 c38 s38 c40 s40 (jA N 5 (λn102 c121 s121=>sQ0 N n23 n102 c40 s40 c121 s121 (λn103 c122 s122=>jz N (-53) (λc123 s123=>sQ0 N n103 (-53) c122 s122 c123 s123 (λn104 c124 s124=>sQ1 N Uj n104 U_ s6 c124 s124 (λn105=>k0 (decide (n105<=0)))))))) (jA N 5 (λn106 c125 s125=>sQ0 N n22 n106 c38 s38 c125 s125 (λn107 c126 s126=>jz N (-53) (λc127 s127=>sQ0 N n107 (-53) c126 s126 c127 s127 (λn108 c128 s128=>sQ1 N Uj n108 U_ s6 c128 s128 (λn109=>k0 (decide (n109<=0)))))))) (λn24 c41 s41=>jA N 5 (λn110 c129 s129=>sQ0 N n24 n110 c41 s41 c129 s129 (λn111 c130 s130=>jz N (-53) (λc131 s131=>sQ0 N n111 (-53) c130 s130 c131 s131 (λn112 c132 s132=>sQ1 N Uj n112 U_ s6 c132 s132 (λn113=>k0 (decide (n113<=0))))))))))) (e_ N c (λn25 c42 s42=>sQ2 N n25 c42 s42 (λc43 s43=>sQ3 N n21 n25 c36 s36 c43 s43 (jA N 5 (λn114 c133 s133=>sQ0 N n25 n114 c43 s43 c133 s133 (λn115 c134 s134=>jz N (-53) (λc135 s135=>sQ0 N n115 (-53) c134 s134 c135 s135 (λn116 c136 s136=>sQ1 N Uj n116 U_ s6 c136 s136 (λn117=>k0 (decide (n117<=0)))))))) (jA N 5 (λn118 c137 s137=>sQ0 N n21 n118 c36 s36 c137 s137 (λn119 c138 s138=>jz N (-53) (λc139 s139=>sQ0 N n119 (-53) c138 s138 c139 s139 (λn120 c140 s140=>sQ1 N Uj n120 U_ s6 c140 s140 (λn121=>k0 (decide (n121<=0)))))))) (λn26 c44 s44=>jA N 5 (λn122 c141 s141=>sQ0 N n26 n122 c44 s44 c141 s141 (λn123 c142 s142=>jz N (-53) (λc143 s143=>sQ0 N n123 (-53) c142 s142 c143 s143 (λn124 c144 s144=>sQ1 N Uj n124 U_ s6 c144 s144 (λn125=>k0 (decide (n125<=0))))))))))) (λn27 c45 s45=>e_ N c (λn28 c46 s46=>sQ2 N n28 c46 s46 (λc47 s47=>sQ3 N n27 n28 c45 s45 c47 s47 (jA N 5 (λn126 c145 s145=>sQ0 N n28 n126 c47 s47 c145 s145 (λn127 c146 s146=>jz N (-53) (λc147 s147=>sQ0 N n127 (-53) c146 s146 c147 s147 (λn128 c148 s148=>sQ1 N Uj n128 U_ s6 c148 s148 (λn129=>k0 (decide (n129<=0)))))))) (jA N 5 (λn130 c149 s149=>sQ0 N n27 n130 c45 s45 c149 s149 (λn131 c150 s150=>jz N (-53) (λc151 s151=>sQ0 N n131 (-53) c150 s150 c151 s151 (λn132 c152 s152=>sQ1 N Uj n132 U_ s6 c152 s152 (λn133=>k0 (decide (n133<=0)))))))) (λn29 c48 s48=>jA N 5 (λn134 c153 s153=>sQ0 N n29 n134 c48 s48 c153 s153 (λn135 c154 s154=>jz N (-53) (λc155 s155=>sQ0 N n135 (-53) c154 s154 c155 s155 (λn136 c156 s156=>sQ1 N Uj n136 U_ s6 c156 s156 (λn137=>k0 (decide (n137<=0)))))))))))))))))))))
def FA (N:Nat):Fl->Fl->Fl->Fl->Fl->(Ky9)->Bool:=aB N (OW N)
def DZ (N:Nat) (Vv UL:Int) (Yl:LI) (X6 Ym UM UN Ud Um:Int) (XA:LF) (Wr Ws:Int) (VI Wt:LF) (V6 V7:Int) (Vy V8 WO XP WP Vj:LF) (e0:Ky9) (e1:Bool):(Int)->((Int)->Bool)->Bool:=λv_ K=>match v_ with
 | j=>(cond (decide (j<Vv)) (ai .i64 (UL*Vv)&&(ai .i64 ((UL*Vv)+j)&&(inR ((UL*Vv)+j) VI.length&&(ai .i64 (UL*Vv)&&(ai .i64 ((UL*Vv)+j)&&(inR ((UL*Vv)+j) Vy.length&&(ai .i64 (UL*Vv)&&(ai .i64 ((UL*Vv)+j)&&(inR ((UL*Vv)+j) WO.length&&(decide ((Int.toNat ((UL*Vv)+j))<WO.length)&&(ai .i64 (UL*Vv)&&(ai .i64 ((UL*Vv)+j)&&(inR ((UL*Vv)+j) WP.length&&(decide ((Int.toNat ((UL*Vv)+j))<WP.length)&&(inR (imm true UL j) XA.length&&(decide ((Int.toNat (imm true UL j))<XA.length)&&(inR (imm false UL j) XA.length&&(decide ((Int.toNat (imm false UL j))<XA.length)&&zF N X6 (λYU=>FA N (VI.getD (Int.toNat ((UL*Vv)+j)) none) (Vy.getD (Int.toNat ((UL*Vv)+j)) none) (WO.getD (Int.toNat ((UL*Vv)+j)) none) (WP.getD (Int.toNat ((UL*Vv)+j)) none) (fdiv (kT (XA.getD (Int.toNat (imm true UL j)) none) (XA.getD (Int.toNat (imm false UL j)) none)) YU) (λU_=>cond (!U_) (e0 false) (ai .i64 (j+1)&&K (j+1)))))))))))))))))))))) e1)
def Ma (N:Nat) (Un:Int) (w:LI) (WF W1 a Ut b Ub:Int) (h:LF) (late Wp:Int) (Wq VH:LF) (early V4:Int) (V5 Vx b6 b7 b8 b9:LF) (e0:Ky9) (e1:Bool):(Int)->((Int)->Bool)->Bool:=λv_ K=>match v_ with
 | i=>(cond (decide (i<Un)) (inR i VH.length&&(inR i Vx.length&&(inR i b7.length&&(decide (i.toNat<b7.length)&&(inR i b9.length&&(decide (i.toNat<b9.length)&&(inR i h.length&&(decide (i.toNat<h.length)&&zF N W1 (λYS=>zF N WF (λYT=>FA N (VH.getD i.toNat none) (Vx.getD i.toNat none) (b7.getD i.toNat none) (b9.getD i.toNat none) (fdiv (kT (h.getD i.toNat none) YS) YT) (λVr=>cond (!Vr) (e0 false) (am N (DZ N Un i w WF W1 a Ut b Ub h late Wp Wq VH early V4 V5 Vx b6 b7 b8 b9 (λt12=>e0 t12) (ai .i64 (i+1)&&K (i+1))) 0)))))))))))) e1)
def JQ9 (N:Nat) (v:LI) (n:Int) (y u k_ WX:LI) (Wj Wc e:Int) (b1 b2 b3 b4:LF) (ab Yz:Int) (YA YB:LF) (k0:Ky9):Bool:=
 (mu N WX (λWN=>zF N Wj (λxr=>zF N Wc (λVe=>kX N ab Yz YA YB xr Ve WN (λVJ VF XH Xr n10=>zF N Wj (λYQ=>zF N Wc (λYR=>iq N n n YQ YR b3 b4 WN (λXc VV y11 y12 n13=>cond ((e != 0)==false) (cond ((n10 != 0)==false) (cond (n13 != 0) (k0 true) (kW N n n Xc VV y11 y12 b1 b2 (λn14 n15 y13 y14 n16=>cond (n16 != 0) (k0 true) (cond ((((WN.length:Nat):Int) != n)==false) (cond ((((Xr.length:Nat):Int) != n)==false) (cond ((((y14.length:Nat):Int) != n)==false) (ai .i64 (n*n)&&cond ((((XH.length:Nat):Int) != (n*n))==false) (ai .i64 (n*n)&&cond (((y13.length:Nat):Int) != (n*n)) (k0 false) (am N (Ma N n WX Wj Wc n n n n WN VJ VF XH Xr n14 n15 y13 y14 b1 b2 b3 b4 (λVW=>k0 VW) (k0 true)) 0)) (k0 false)) (k0 false)) (k0 false)) (k0 false))))) (k0 true)) (k0 true)))))))))
def GQ7 (N:Nat) (v:LI) (n:Int) (y u k_ WX:LI) (Wj Wc:Int) (k0:Ky9):Bool:=
 (NK N v n n y (λxsr U5=>NK N u n n k_ (λWk Wl=>nc N n n xsr U5 (λnr=>cond ((nr != 0)==false) (nc N n n Wk Wl (λUf=>cond (Uf != 0) (sQ4 N (λcr=>k0 cr)) (d9 N n n n n xsr U5 Wk Wl (λUj Up Xs Xt UA=>d9 N n n n n Wk Wl xsr U5 (λn5 n6 Yn Yo n7=>cond ((UA != n7)==false) (cond ((UA==0)==true) (Rj N Uj Up Xs Xt n5 n6 Yn Yo (λUs=>cond ((!Us)==false) (sQ4 N (λUz=>cond (!Uz) (k0 false) (JQ9 N v n y u k_ WX Wj Wc UA xsr U5 Wk Wl Uj Up Xs Xt k0))) (k0 false))) (sQ4 N (λUW=>cond (!UW) (k0 false) (JQ9 N v n y u k_ WX Wj Wc UA xsr U5 Wk Wl Uj Up Xs Xt k0)))) (k0 false)))))) (sQ4 N (λUi=>k0 Ui))))))
def sQ7 (N:Nat):LI->Int->LI->LI->LI->LI->Int->Int->(Ky9)->Bool:=GQ7 N
end Go.Proofs.YtdinakfmablagaaGreatDoor
