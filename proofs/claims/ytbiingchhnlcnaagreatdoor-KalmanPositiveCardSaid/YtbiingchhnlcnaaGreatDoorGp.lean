/- The program's functions and their ties. Conditions: none. -/
import Derived.Test.YtbiingchhnlcnaaGreatDoorMachT
set_option linter.unusedVariables false
namespace Go.Proofs.YtbiingchhnlcnaaGreatDoor
open Go Go.Mach
abbrev LI:=List Int
abbrev LF:=List Fl
abbrev Kx0:=Int->Int->Fl->Fl->Fl->Int->LF->LF->LF->Bool
abbrev Kx1:=Int->Int->Fl->Fl->Fl->Int->LF->Bool
abbrev Kx2:=Int->Int->Fl->Fl->Fl->Int->Bool
abbrev Kx3:=Int->Int->Int->Int->Bool->Bool
abbrev Kx4:=Int->Int->Int->LF->LF->Bool
abbrev Kx5:=Bool->Int->Int->Int->Bool
abbrev Kx6:=Bool->LI->Bool->LI->Bool
abbrev Kx7:=Int->Int->Bool->LF->Bool
abbrev Kx8:=Int->Int->Int->Int->Bool
abbrev Kx9:=Int->Int->Int->LF->Bool
abbrev Ky0:=Bool->Int->Int->Bool
abbrev Ky1:=Bool->Nat->Nat->Bool
abbrev Ky2:=Int->Int->Int->Bool
abbrev Ky3:=LF->LF->LF->Bool
abbrev Ky4:=Bool->Bool->Bool
abbrev Ky5:=Bool->LI->Bool
abbrev Ky6:=Int->Int->Bool
abbrev Ky7:=Fl->Bool->Bool
abbrev Ky8:=Bool->LF->Bool
abbrev Ky9:=Int->LI->Bool
abbrev Kz0:=Nat->LI->Bool
abbrev Kz1:=Int->LF->Bool
abbrev Kz2:=LF->LF->Bool
abbrev Kz3:=LI->LI->Bool
abbrev Kz4:=Bool->Bool
abbrev Kz5:=Int->Bool
abbrev Kz6:=Nat->Bool
abbrev Kz7:=Fl->Bool
abbrev Kz8:=LF->Bool
abbrev Kz9:=LI->Bool
abbrev RT0:RT:=(.pair (.int .i64) (.pair (.int .i64) (.pair .flt .flt)))
abbrev RY0:=Int × Int × Fl × Fl
abbrev RT1:RT:=(.ptr (.pair (.pair .bool (.ints .u64)) (.pair .bool (.ints .u64))))
abbrev RY1:=(Bool × LI) × Bool × LI
abbrev RT2:RT:=(.pair (.pair .bool (.ints .u32)) (.pair .bool (.ints .u32)))
abbrev RY2:=(Bool × LI) × Bool × LI
abbrev RT3:RT:=(.ptr (.pair (.pair .bool (.ints .u32)) (.pair .bool (.ints .u32))))
abbrev RY3:=(Bool × LI) × Bool × LI
abbrev RT4:RT:=(.pair (.ints .u64) (.pair (.int .u64) (.int .u64)))
abbrev RY4:=LI × Int × Int
def ay:LI:=[0,1,2,2,3,3,3,3,4,4,4,4,4,4,4,4,5,5,5,5,5,5,5,5,5,5,5,5,5,5,5,5,6,6,6,6,6,6,6,6,6,6,6,6,6,6,6,6,6,6,6,6,6,6,6,6,6,6,6,6,6,6,6,6,7,7,7,7,7,7,7,7,7,7,7,7,7,7,7,7,7,7,7,7,7,7,7,7,7,7,7,7,7,7,7,7,7,7,7,7,7,7,7,7,7,7,7,7,7,7,7,7,7,7,7,7,7,7,7,7,7,7,7,7,7,7,7,7,8,8,8,8,8,8,8,8,8,8,8,8,8,8,8,8,8,8,8,8,8,8,8,8,8,8,8,8,8,8,8,8,8,8,8,8,8,8,8,8,8,8,8,8,8,8,8,8,8,8,8,8,8,8,8,8,8,8,8,8,8,8,8,8,8,8,8,8,8,8,8,8,8,8,8,8,8,8,8,8,8,8,8,8,8,8,8,8,8,8,8,8,8,8,8,8,8,8,8,8,8,8,8,8,8,8,8,8,8,8,8,8,8,8,8,8,8,8,8,8,8,8,8,8,8,8,8,8]
abbrev Mm:=Nat->(Kz5)->Bool
def D0 (N:Nat):Mm:=λn k=>k n
def C_ (N:Nat) (k0:Ky2):Bool:=
 (k0 52 2047 1075)
def uR (N:Nat):(Ky2)->Bool:=C_ N
def JC (N:Nat) (YD YE YL:Int) (k0:Kz5):Bool:=
 (ac .i64 (YE+1)&&(decide (0<=YD)&&k0 (IntKind.wrap .u64 ((IntKind.wrap .u64 (YE+1))*2 ^ (min YD.toNat 64)))))
def yc (N:Nat):Int->Int->Int->(Kz5)->Bool:=JC N
def BJ (N:Nat) (YD YE YL:Int) (k0:Kz5):Bool:=
 (decide (0<=YD)&&k0 (IntKind.wrap .u64 ((IntKind.wrap .u64 YE)*2 ^ (min YD.toNat 64))))
def pR (N:Nat):Int->Int->Int->(Kz5)->Bool:=BJ N
def Lv (N:Nat) (b YD YE YL:Int) (k0:Kz4):Bool:=
 (yc N YD YE YL (λnr=>pR N YD YE YL (λW4=>k0 (decide ((aA .andNot .u64 b nr)>W4)))))
def N0 (N:Nat):Int->Int->Int->Int->(Kz4)->Bool:=aw N (Lv N)
def Er (N:Nat) (YD YE YL:Int) (k0:Kz5):Bool:=
 (decide (0<=YD)&&k0 (IntKind.wrap .u64 ((1:Int)*2 ^ (min YD.toNat 64))))
def nn (N:Nat):Int->Int->Int->(Kz5)->Bool:=Er N
def xy (N:Nat) (YD YE YL:Int) (k0:Kz5):Bool:=
 (pR N YD YE YL (λnr=>nn N YD YE YL (λW4=>k0 (aA .or .u64 (aA .or .u64 nr (Int.fdiv W4 (2 ^ 1))) (IntKind.wrap .u64 (Int.tdiv YD 52))))))
def yb (N:Nat):Int->Int->Int->(Kz5)->Bool:=aw N (xy N)
def Ul (N:Nat) (b YD YE YL:Int) (k0:Kz5):Bool:=
 (N0 N b YD YE YL (λcr=>cond cr (yb N YD YE YL (λnr=>k0 nr)) (k0 b)))
def Oc (N:Nat):Int->Int->Int->Int->(Kz5)->Bool:=Ul N
def Q_ (N:Nat) (b YD YE YL:Int) (k0:Ky0):Bool:=
 (Oc N b YD YE YL (λnr=>yc N YD YE YL (λW4=>decide (0<=YD)&&(ac .i64 (aA .and .u64 (Int.fdiv nr (2 ^ (min YD.toNat 64))) (IntKind.wrap .u64 YE))&&nn N YD YE YL (λW_=>k0 ((aA .and .u64 nr W4) != 0) (aA .and .u64 (Int.fdiv nr (2 ^ (min YD.toNat 64))) (IntKind.wrap .u64 YE)) (aA .and .u64 nr (IntKind.wrap .u64 (W_ - 1))))))))
def PT (N:Nat):Int->Int->Int->Int->(Ky0)->Bool:=aw N (Q_ N)
def Q9 (N:Nat) (b YD YE YL:Int) (k0:Kz5):Bool:=
 (PT N b YD YE YL (λcr nr W4=>cond ((nr==YE)==true) (cond (W4 != 0) (k0 1) (cond (nr==YE) (k0 2) (cond ((nr==0)==true) (cond (W4==0) (k0 3) (cond (nr==0) (k0 4) (k0 5))) (cond (nr==0) (k0 4) (k0 5))))) (cond (nr==YE) (k0 2) (cond ((nr==0)==true) (cond (W4==0) (k0 3) (cond (nr==0) (k0 4) (k0 5))) (cond (nr==0) (k0 4) (k0 5))))))
def PS (N:Nat):Int->Int->Int->Int->(Kz5)->Bool:=aw N (Q9 N)
abbrev Ut:=Nat->(Kz5)->Bool
def GQ8 (N x:Nat) (k0:Kz5):Bool:=
 (D0 N x (λnr=>uR N (λW4 W_ Xx=>PS N nr W4 W_ Xx (λXJ=>k0 XJ))))
def sQ8 (N:Nat):Nat->(Kz5)->Bool:=GQ8 N
abbrev Uu:=Nat->Nat->(Kz4)->Bool
def GQ9 (N a b:Nat) (k0:Kz4):Bool:=
 (D0 N a (λnr=>uR N (λW4 W_ Xx=>Oc N nr W4 W_ Xx (λXJ=>D0 N b (λn5=>uR N (λn6 n7 n8=>Oc N n5 n6 n7 n8 (λn9=>k0 (XJ==n9))))))))
def sQ9 (N:Nat):Nat->Nat->(Kz4)->Bool:=GQ9 N
abbrev GU:=Int->(Kz7)->Bool
def Be (N:Nat):GU:=λn k=>k (gw n.toNat)
abbrev Qf:=Nat->(Kz7)->Bool
def Uk (N x:Nat) (k0:Kz7):Bool:=
 (D0 N x (λnr=>Be N (aA .andNot .u64 nr 9223372036854775808) (λxr=>k0 xr)))
def Ic (N:Nat):Nat->(Kz7)->Bool:=Uk N
def mX (N:Nat) (Yf:LI) (aha:Int) (e0:Kz8):(Int × LF)->((Int × LF)->Bool)->Bool:=λv_ K=>match v_ with
 | (agw,x)=>(cond (decide (agw<aha)) (inR agw Yf.length&&Be N (Yf.getD agw.toNat 0) (λYe=>decide ((List.length (x++[Ye]))*8<=140737488355328)&&(ac .i64 (agw+1)&&K ((agw+1),(x++[Ye]))))) (e0 x))
def vI (N:Nat) (l:LI) (k0:Kz8):Bool:=
 (ah N (mX N l ((l.length:Nat):Int) (λXm=>k0 Xm)) (0,[]))
def oQ (N:Nat):LI->(Kz8)->Bool:=aw N (vI N)
def Um (N:Nat) (x:LI) (rows cols:Int) (p:LI) (k0:Kz2):Bool:=
 (oQ N x (λxsr=>oQ N p (λXM=>k0 xsr XM)))
def TO (N:Nat):LI->Int->Int->LI->(Kz2)->Bool:=Um N
def Rt (N:Nat) (n:Int) (k0:Kz4):Bool:=
 (cond ((decide (n>=0))==true) (k0 (decide (n<=12))) (k0 false))
def Gr (N:Nat):Int->(Kz4)->Bool:=Rt N
abbrev Mn:=Fl->(Kz5)->Bool
def Ob (N:Nat):Mn:=λx k=>k (Ad x)
def lH (N:Nat) (t6:LF) (t7:Int) (e0:Kz4) (e1:Bool):(Int)->((Int)->Bool)->Bool:=λv_ K=>match v_ with
 | t8=>(cond (decide (t8<t7)) (inR t8 t6.length&&Ob N (t6.getD t8.toNat none) (λnr=>cond ((nr==1)==false) (cond (nr==2) (e0 false) (ac .i64 (t8+1)&&K (t8+1))) (e0 false))) e1)
def Q3 (N:Nat) (l:LF) (k0:Kz4):Bool:=
 (ah N (lH N l ((l.length:Nat):Int) (λt2=>k0 t2) (k0 true)) 0)
def vh (N:Nat):LF->(Kz4)->Bool:=aw N (Q3 N)
def Q6 (N:Nat) (XK W9:Int) (Xu:LF) (k0:Kz5):Bool:=
 (Gr N XK (λcr=>cond ((!cr)==false) (Gr N W9 (λW3=>cond (!W3) (k0 1) (ac .i64 (XK*W9)&&cond (((Xu.length:Nat):Int) != (XK*W9)) (k0 3) (vh N Xu (λXA=>cond (!XA) (k0 4) (k0 0)))))) (k0 1)))
def KZ (N:Nat):Int->Int->LF->(Kz5)->Bool:=aw N (Q6 N)
def yl (N:Nat) (XK W9:Int) (Xu:LF) (i j:Int) (k0:Kz7):Bool:=
 (ac .i64 (i*W9)&&(ac .i64 ((i*W9)+j)&&(inR ((i*W9)+j) Xu.length&&k0 (Xu.getD (Int.toNat ((i*W9)+j)) none))))
def pz (N:Nat):Int->Int->LF->Int->Int->(Kz7)->Bool:=yl N
abbrev Mo:=Fl->Fl->(Kz4)->Bool
def Oe (N:Nat):Mo:=λx y k=>k (decide (cn x=cn y))
def Eh (N:Nat) (i YQ Yo t20 m_5 m_6:Int) (m_7:LF) (e0:Kz4) (e1:Bool):(Int)->((Int)->Bool)->Bool:=λv_ K=>match v_ with
 | t21=>(cond (decide (t21<t20)) (pz N m_5 m_6 m_7 i t21 (λxr=>pz N m_5 m_6 m_7 t21 i (λYe=>Oe N xr Ye (λcr=>cond (!cr) (e0 false) (ac .i64 (t21+1)&&K (t21+1)))))) e1)
def Eg (N:Nat) (t16 m X6:Int) (m_4:LF) (e0:Kz4) (e1:Bool):(Int)->((Int)->Bool)->Bool:=λv_ K=>match v_ with
 | t17=>(cond (decide (t17<t16)) (ah N (Eh N t17 t16 t17 t17 m X6 m_4 (λt2=>e0 t2) (ac .i64 (t17+1)&&K (t17+1))) 0) e1)
def Ra (N:Nat) (XK W9:Int) (Xu:LF) (k0:Kz4):Bool:=
 (KZ N XK W9 Xu (λnr=>cond ((nr != 0)==false) (cond (XK != W9) (k0 false) (ah N (Eg N XK XK W9 Xu (λabU=>k0 abU) (k0 true)) 0)) (k0 false)))
def PU (N:Nat):Int->Int->LF->(Kz4)->Bool:=aw N (Ra N)
def wK (N:Nat) (is:Bool) (e:Int) (k0:Bool):Bool:=
 (cond (!is) false k0)
def dw (N:Nat):Bool->Int->(Bool)->Bool:=wK N
abbrev GT:=Fl->(Kz5)->Bool
def CW (N:Nat):GT:=λx k=>match x with | some b=>k b | none=>false
def OH (N:Nat) (x:Int) (k0:Kz5):Bool:=
 (cond (x==0) (k0 64) (inR (Int.fdiv (IntKind.wrap .u64 ((aA .and .u64 x (IntKind.wrap .u64 (0 - x)))*285870213051353865)) (2 ^ 58)) 64&&(ac .i64 (zb.getD (Int.toNat (Int.fdiv (IntKind.wrap .u64 ((aA .and .u64 x (IntKind.wrap .u64 (0 - x)))*285870213051353865)) (2 ^ 58))) 0)&&k0 (zb.getD (Int.toNat (Int.fdiv (IntKind.wrap .u64 ((aA .and .u64 x (IntKind.wrap .u64 (0 - x)))*285870213051353865)) (2 ^ 58))) 0))))
def TB (N:Nat):Int->(Kz5)->Bool:=aw N (OH N)
def JG (N:Nat) (b YD YE YL:Int) (p:Bool) (Z9 Zc:Int) (k0:Kx5):Bool:=
 (TB N Z9 (λXJ=>decide (0<=XJ)&&(ac .i64 (Zc+XJ)&&k0 p (Int.fdiv Z9 (2 ^ (min XJ.toNat 64))) (Zc+XJ) 0)))
def Rr (N:Nat) (b YD YE YL:Int) (k0:Kx5):Bool:=
 (PT N b YD YE YL (λcr nr W4=>ac .i64 (nr - YL)&&PS N b YD YE YL (λW_=>cond (W_==1) (k0 false 0 0 4) (cond (W_==2) (k0 false 0 0 4) (cond (W_==3) (k0 cr 0 0 0) (cond (W_==4) (ac .i64 ((nr - YL)+1)&&JG N b YD YE YL cr W4 ((nr - YL)+1) k0) (nn N YD YE YL (λXx=>JG N b YD YE YL cr (aA .or .u64 W4 Xx) (nr - YL) k0))))))))
def TU (N:Nat):Int->Int->Int->Int->(Kx5)->Bool:=aw N (Rr N)
def zQ (N:Nat) (x:Fl) (k0:Kx5):Bool:=
 (CW N x (λnr=>uR N (λW4 W_ Xx=>TU N nr W4 W_ Xx (λcr XJ n5 n6=>k0 cr XJ n5 n6))))
def ru (N:Nat):Fl->(Kx5)->Bool:=zQ N
def wF (N:Nat) (x:LI) (e0:Kz5):(Int)->((Int)->Bool)->Bool:=λv_ K=>match v_ with
 | n=>(cond ((decide (n>0))==true) (ac .i64 (n - 1)&&(inR (n - 1) x.length&&(decide ((Int.toNat (n - 1))<x.length)&&cond ((x.getD (Int.toNat (n - 1)) 0)==0) (ac .i64 (n - 1)&&K (n - 1)) (e0 n)))) (e0 n))
def Q1 (N:Nat) (b:LI) (k0:Kz6):Bool:=
 (ah N (wF N b (λXT=>decide (0<=XT/\XT<=((b.length:Nat):Int))&&k0 (XT.toNat - 0))) ((b.length:Nat):Int))
def xh (N:Nat):LI->(Kz6)->Bool:=aw N (Q1 N)
def zR (N:Nat) (n:Int) (k0:Kz9):Bool:=
 (xh N [n] (λmr=>decide ((0+mr)<=(List.length [n]))&&k0 (List.take mr (List.drop 0 [n]))))
def kt (N:Nat):Int->(Kz9)->Bool:=zR N
def Uc (N:Nat) (neg:Bool) (abs:LI) (b:Bool) (k0:Kz4):Bool:=
 (cond (neg==true) (k0 (decide (((abs.length:Nat):Int)>0))) (k0 false))
def DY (N:Nat):Bool->LI->Bool->(Kz4)->Bool:=Uc N
def QO (N:Nat) (n:Int) (b:Bool) (k0:Ky5):Bool:=
 (kt N n (λnsr=>DY N false nsr b (λcr=>k0 cr nsr)))
def PJ (N:Nat):Int->Bool->(Ky5)->Bool:=aw N (QO N)
def P8 (N:Nat) (x:LI) (k0:Kz9):Bool:=
 (decide ((List.length ([]++x))*8<=140737488355328)&&k0 ([]++x))
def rY (N:Nat):LI->(Kz9)->Bool:=P8 N
def Vd (N:Nat) (neg:Bool) (abs:LI) (b:Bool) (W0:LI) (k0:Kz4):Bool:=
 (cond (neg==true) (k0 (decide (((abs.length:Nat):Int)>0))) (k0 false))
def K0 (N:Nat):Bool->LI->Bool->LI->(Kz4)->Bool:=Vd N
def Q4 (N:Nat) (b:Bool) (W0:LI) (k0:Ky5):Bool:=
 (rY N W0 (λnsr=>K0 N (!b) nsr b W0 (λcr=>k0 cr nsr)))
def PQ (N:Nat):Bool->LI->(Ky5)->Bool:=aw N (Q4 N)
def Q8 (N:Nat) (n:Int) (b:Bool) (k0:Ky5):Bool:=
 (cond (decide (n<0)) (kt N (IntKind.wrap .u64 (0 - (IntKind.wrap .u64 n))) (λnsr=>DY N true nsr b (λcr=>k0 cr nsr))) (kt N (IntKind.wrap .u64 n) (λW1=>DY N false W1 b (λW3=>k0 W3 W1))))
def UT (N:Nat):Int->Bool->(Ky5)->Bool:=aw N (Q8 N)
def Qe (N:Nat) (n:Int) (k0:Ky5):Bool:=
 (UT N n false (λcr nsr=>k0 cr nsr))
def Gm (N:Nat):Int->(Ky5)->Bool:=Qe N
def e9 (N:Nat) (words rest:Int) (t24:LI) (t25:Int) (e0:Kz9):(Int × LI)->((Int × LI)->Bool)->Bool:=λv_ K=>match v_ with
 | (t26,z)=>(cond (decide (t26<t25)) (inR t26 t24.length&&(ac .i64 (words+t26)&&(inR (words+t26) z.length&&(decide ((Int.toNat (words+t26))<z.length)&&(decide (0<=rest)&&(inR (words+t26) z.length&&(decide ((Int.toNat (words+t26))<z.length)&&(ac .i64 (words+t26)&&(ac .i64 ((words+t26)+1)&&(decide (0<=(IntKind.wrap .u64 (64 - rest)))&&(inR ((words+t26)+1) (List.length (z.set (Int.toNat (words+t26)) (aA .or .u64 (z.getD (Int.toNat (words+t26)) 0) (IntKind.wrap .u64 ((t24.getD t26.toNat 0)*2 ^ (min rest.toNat 64))))))&&(decide ((Int.toNat ((words+t26)+1))<(List.length (z.set (Int.toNat (words+t26)) (aA .or .u64 (z.getD (Int.toNat (words+t26)) 0) (IntKind.wrap .u64 ((t24.getD t26.toNat 0)*2 ^ (min rest.toNat 64)))))))&&(ac .i64 (t26+1)&&K ((t26+1),(List.set (z.set (Int.toNat (words+t26)) (aA .or .u64 (z.getD (Int.toNat (words+t26)) 0) (IntKind.wrap .u64 ((t24.getD t26.toNat 0)*2 ^ (min rest.toNat 64))))) (Int.toNat ((words+t26)+1)) (Int.fdiv (t24.getD t26.toNat 0) (2 ^ (min (Int.toNat (IntKind.wrap .u64 (64 - rest))) 64)))))))))))))))))) (e0 z))
def vD (N:Nat) (x:LI) (n:Int) (k0:Kz9):Bool:=
 (cond (((x.length:Nat):Int)==0) (k0 []) (ac .i64 (IntKind.wrap .u64 (Int.tdiv n 64))&&(ac .i64 ((IntKind.wrap .u64 (Int.tdiv n 64))+((x.length:Nat):Int))&&(ac .i64 (((IntKind.wrap .u64 (Int.tdiv n 64))+((x.length:Nat):Int))+1)&&(iW 8 (((IntKind.wrap .u64 (Int.tdiv n 64))+((x.length:Nat):Int))+1) (((IntKind.wrap .u64 (Int.tdiv n 64))+((x.length:Nat):Int))+1)&&ah N (e9 N (IntKind.wrap .u64 (Int.tdiv n 64)) (Int.tmod n 64) x ((x.length:Nat):Int) (λYI=>xh N YI (λmr=>decide ((0+mr)<=YI.length)&&k0 (List.take mr (List.drop 0 YI))))) (0,(List.replicate (Int.toNat (((IntKind.wrap .u64 (Int.tdiv n 64))+((x.length:Nat):Int))+1)) (0:Int))))))))
def wt (N:Nat):LI->Int->(Kz9)->Bool:=aw N (vD N)
def Uo (N:Nat) (n:Int) (b W0:Bool) (W2:LI) (k0:Ky5):Bool:=
 (wt N W2 n (λnsr=>DY N W0 nsr b (λcr=>k0 cr nsr)))
def TS (N:Nat):Int->Bool->Bool->LI->(Ky5)->Bool:=Uo N
def wC (N:Nat) (Xm X0:LI) (e0:Kz5) (e1:Bool):(Int)->((Int)->Bool)->Bool:=λv_ K=>match v_ with
 | i=>(cond (decide (i>=0)) (inR i Xm.length&&(inR i X0.length&&cond ((Xm.getD i.toNat 0) != (X0.getD i.toNat 0)) (inR i Xm.length&&(inR i X0.length&&cond (decide ((Xm.getD i.toNat 0)<(X0.getD i.toNat 0))) (e0 (-1)) (e0 1))) (ac .i64 (i - 1)&&K (i - 1)))) e1)
def Lw (N:Nat) (x y:LI) (k0:Kz5):Bool:=
 (cond (((x.length:Nat):Int) != ((y.length:Nat):Int)) (cond (decide (((x.length:Nat):Int)<((y.length:Nat):Int))) (k0 (-1)) (k0 1)) (ac .i64 (((x.length:Nat):Int) - 1)&&ah N (wC N x y (λt4=>k0 t4) (k0 0)) (((x.length:Nat):Int) - 1)))
def CV (N:Nat):LI->LI->(Kz5)->Bool:=aw N (Lw N)
def Ix (N:Nat) (x XV XT:Int) (k0:Kz5):Bool:=
 (cond (decide (XV>=256)) (ac .i64 (XT+8)&&(inR (IntKind.wrap .u8 (Int.fdiv XV (2 ^ 8))) 256&&(ac .i64 (ay.getD (Int.toNat (IntKind.wrap .u8 (Int.fdiv XV (2 ^ 8)))) 0)&&(ac .i64 ((XT+8)+(ay.getD (Int.toNat (IntKind.wrap .u8 (Int.fdiv XV (2 ^ 8)))) 0))&&k0 ((XT+8)+(ay.getD (Int.toNat (IntKind.wrap .u8 (Int.fdiv XV (2 ^ 8)))) 0)))))) (inR (IntKind.wrap .u8 XV) 256&&(ac .i64 (ay.getD (Int.toNat (IntKind.wrap .u8 XV)) 0)&&(ac .i64 (XT+(ay.getD (Int.toNat (IntKind.wrap .u8 XV)) 0))&&k0 (XT+(ay.getD (Int.toNat (IntKind.wrap .u8 XV)) 0))))))
def Iw (N:Nat) (x Xm n:Int) (k0:Kz5):Bool:=
 (cond (decide (Xm>=65536)) (ac .i64 (n+16)&&Ix N x (Int.fdiv Xm (2 ^ 16)) (n+16) k0) (Ix N x Xm n k0))
def Rm (N:Nat) (x:Int) (k0:Kz5):Bool:=
 (cond (decide (x>=4294967296)) (Iw N x (Int.fdiv x (2 ^ 32)) 32 k0) (Iw N x x 0 k0))
def PY (N:Nat):Int->(Kz5)->Bool:=aw N (Rm N)
def qF (N:Nat) (x:LI) (k0:Kz5):Bool:=
 (cond (((x.length:Nat):Int)==0) (k0 0) (ac .i64 (((x.length:Nat):Int) - 1)&&(ac .i64 (64*(((x.length:Nat):Int) - 1))&&(ac .i64 (((x.length:Nat):Int) - 1)&&(inR (((x.length:Nat):Int) - 1) x.length&&PY N (x.getD (Int.toNat (((x.length:Nat):Int) - 1)) 0) (λnr=>ac .i64 ((64*(((x.length:Nat):Int) - 1))+nr)&&k0 ((64*(((x.length:Nat):Int) - 1))+nr)))))))
def rv (N:Nat):LI->(Kz5)->Bool:=aw N (qF N)
def Qb (N:Nat) (x:LI) (i:Int) (k0:Kz5):Bool:=
 (cond (decide (i<((x.length:Nat):Int))) (inR i x.length&&k0 (x.getD i.toNat 0)) (k0 0))
def yV (N:Nat):LI->Int->(Kz5)->Bool:=Qb N
def xw (N:Nat) (x:LI) (from_:Int) (k0:Kz5):Bool:=
 (ac .i64 (Int.tdiv from_ 64)&&yV N x (Int.tdiv from_ 64) (λnr=>decide (0<=(IntKind.wrap .u64 (Int.tmod from_ 64)))&&(ac .i64 ((Int.tdiv from_ 64)+1)&&yV N x ((Int.tdiv from_ 64)+1) (λW4=>decide (0<=(IntKind.wrap .u64 (64 - (IntKind.wrap .u64 (Int.tmod from_ 64)))))&&k0 (aA .or .u64 (Int.fdiv nr (2 ^ (min (Int.toNat (IntKind.wrap .u64 (Int.tmod from_ 64))) 64))) (IntKind.wrap .u64 (W4*2 ^ (min (Int.toNat (IntKind.wrap .u64 (64 - (IntKind.wrap .u64 (Int.tmod from_ 64))))) 64))))))))
def uU (N:Nat):LI->Int->(Kz5)->Bool:=aw N (xw N)
def oS (N:Nat) (t4 ZH Zt Zu:Int) (ag9:Bool) (e0:Kx3):(Int × Int × Int × Int × Int × Int × Int × Int × Bool)->((Int × Int × Int × Int × Int × Int × Int × Int × Bool)->Bool)->Bool:=λv_ K=>match v_ with
 | (Xm,X0,u,v,w,w_1,w_2,w_3,w_4)=>(cond ((decide (X0>=v))==true) (cond (decide ((IntKind.wrap .u64 (Xm - X0))>=(IntKind.wrap .u64 (w_3+v)))) ((!decide (X0=0))&&((!decide (X0=0))&&K (X0,(Int.tmod Xm X0),(IntKind.wrap .u64 (w_2+(IntKind.wrap .u64 ((IntKind.wrap .u64 (Int.tdiv Xm X0))*u)))),(IntKind.wrap .u64 (w_3+(IntKind.wrap .u64 ((IntKind.wrap .u64 (Int.tdiv Xm X0))*v)))),w_2,w_3,u,v,(!w_4)))) (e0 w w_1 w_2 w_3 w_4)) (e0 w w_1 w_2 w_3 w_4))
def yk (N:Nat) (x y:Int) (k0:Kx3):Bool:=
 (ah N (oS N 0 0 0 0 false (λw_5 w_6 w_7 w_8 w_9=>k0 w_5 w_6 w_7 w_8 w_9)) (x,y,0,1,0,0,1,0,true))
def tN (N:Nat):Int->Int->(Kx3)->Bool:=aw N (yk N)
def Lr (N:Nat) (x y:Int) (k0:Ky6):Bool:=
 (k0 (IntKind.wrap .u64 ((IntKind.wrap .u64 ((IntKind.wrap .u64 ((Int.fdiv x (2 ^ 32))*(Int.fdiv y (2 ^ 32))))+(Int.fdiv (IntKind.wrap .u64 ((IntKind.wrap .u64 ((Int.fdiv x (2 ^ 32))*(aA .and .u64 y 4294967295)))+(Int.fdiv (IntKind.wrap .u64 ((aA .and .u64 x 4294967295)*(aA .and .u64 y 4294967295))) (2 ^ 32)))) (2 ^ 32))))+(Int.fdiv (IntKind.wrap .u64 ((aA .and .u64 (IntKind.wrap .u64 ((IntKind.wrap .u64 ((Int.fdiv x (2 ^ 32))*(aA .and .u64 y 4294967295)))+(Int.fdiv (IntKind.wrap .u64 ((aA .and .u64 x 4294967295)*(aA .and .u64 y 4294967295))) (2 ^ 32)))) 4294967295)+(IntKind.wrap .u64 ((aA .and .u64 x 4294967295)*(Int.fdiv y (2 ^ 32)))))) (2 ^ 32)))) (IntKind.wrap .u64 (x*y)))
def Gi (N:Nat):Int->Int->(Ky6)->Bool:=aw N (Lr N)
abbrev S8:=Int->Int->Int->(Ky6)->Bool
def sQ3 (N:Nat):S8:=λx y c k=>(decide (c.toNat<=1))&&k (((x.toNat+y.toNat+c.toNat)%18446744073709551616:Nat):Int) (((x.toNat+y.toNat+c.toNat) / 18446744073709551616:Nat):Int)
def vC (N:Nat) (a b c d:Int) (k0:Ky6):Bool:=
 (Gi N a b (λnr W4=>sQ3 N W4 c 0 (λW_ Xx=>sQ3 N W_ d 0 (λXJ n5=>k0 (IntKind.wrap .u64 ((IntKind.wrap .u64 (nr+Xx))+n5)) XJ))))
def mH (N:Nat):Int->Int->Int->Int->(Ky6)->Bool:=aw N (vC N)
def mV (N:Nat) (Xm:LI) (X8:Int) (t14:LI) (t15:Int) (e0:Ky9):(Int × Int × LI)->((Int × Int × LI)->Bool)->Bool:=λv_ K=>match v_ with
 | (agi,t16,z)=>(cond (decide (t16<t15)) (inR t16 t14.length&&mH N (t14.getD t16.toNat 0) X8 0 agi (λnr W4=>inR t16 z.length&&(decide (t16.toNat<z.length)&&(ac .i64 (t16+1)&&K (nr,(t16+1),(z.set t16.toNat W4)))))) (e0 agi z))
def LD (N:Nat) (x:LI) (d more:Int) (k0:Kz9):Bool:=
 (ac .i64 (((x.length:Nat):Int)+1)&&(iW 8 (((x.length:Nat):Int)+1) (((x.length:Nat):Int)+1)&&ah N (mV N x d x ((x.length:Nat):Int) (λafu YI=>inR ((x.length:Nat):Int) YI.length&&(decide ((Int.toNat ((x.length:Nat):Int))<YI.length)&&xh N (YI.set (Int.toNat ((x.length:Nat):Int)) afu) (λmr=>decide ((0+mr)<=(List.length (YI.set (Int.toNat ((x.length:Nat):Int)) afu)))&&k0 (List.take mr (List.drop 0 (YI.set (Int.toNat ((x.length:Nat):Int)) afu))))))) (more,0,(List.replicate (Int.toNat (((x.length:Nat):Int)+1)) (0:Int)))))
def vy (N:Nat):LI->Int->Int->(Kz9)->Bool:=aw N (LD N)
abbrev S9:=Int->Int->Int->(Ky6)->Bool
def sQ6 (N:Nat):S9:=λx y c k=>(decide (c.toNat<=1))&&k (((x.toNat+18446744073709551616 - y.toNat - c.toNat)%18446744073709551616:Nat):Int) (cond (decide (x.toNat<y.toNat+c.toNat)) 1 0)
def mU (N:Nat) (Xm X0:LI) (t12:Int) (e0:Kz9):(Int × Int × LI)->((Int × Int × LI)->Bool)->Bool:=λv_ K=>match v_ with
 | (borrow,t13,z)=>(cond (decide (t13<t12)) (inR t13 Xm.length&&yV N X0 t13 (λnr=>sQ6 N (Xm.getD t13.toNat 0) nr borrow (λW4 W_=>inR t13 z.length&&(decide (t13.toNat<z.length)&&(ac .i64 (t13+1)&&K (W_,(t13+1),(z.set t13.toNat W4))))))) (e0 z))
def LR (N:Nat) (x y:LI) (k0:Kz9):Bool:=
 (iW 8 ((x.length:Nat):Int) ((x.length:Nat):Int)&&ah N (mU N x y ((x.length:Nat):Int) (λYI=>xh N YI (λmr=>decide ((0+mr)<=YI.length)&&k0 (List.take mr (List.drop 0 YI))))) (0,0,(List.replicate (Int.toNat ((x.length:Nat):Int)) (0:Int))))
def yW (N:Nat):LI->LI->(Kz9)->Bool:=aw N (LR N)
def eD (N:Nat) (w_0 w_1 w_2 w_3:Int) (w_4:Bool) (x y:LI) (k0:Kz3):Bool:=
 (cond w_4 (vy N y w_1 0 (λnsr=>vy N x w_0 0 (λW1=>yW N nsr W1 (λW6=>vy N x w_2 0 (λW8=>vy N y w_3 0 (λXh=>yW N W8 Xh (λXg=>k0 W6 Xg))))))) (vy N x w_0 0 (λs6=>vy N y w_1 0 (λs7=>yW N s6 s7 (λs8=>vy N y w_3 0 (λs9=>vy N x w_2 0 (λs10=>yW N s9 s10 (λs11=>k0 s8 s11))))))))
def eV (N:Nat):Int->Int->Int->Int->Bool->LI->LI->(Kz3)->Bool:=aw N (eD N)
def Ue (N:Nat) (x:Int) (k0:Kz5):Bool:=
 (PY N x (λnr=>ac .i64 (64 - nr)&&k0 (64 - nr)))
def PM (N:Nat):Int->(Kz5)->Bool:=Ue N
def yf (N:Nat) (X0 s yn1 yn0 un32 un1 un0:Int) (e0:Kz5):(Int × Int)->((Int × Int)->Bool)->Bool:=λv_ K=>match v_ with
 | (q1,rhat)=>(cond ((decide (q1>=4294967296))==false) (cond (decide ((IntKind.wrap .u64 (q1*yn0))>(IntKind.wrap .u64 ((IntKind.wrap .u64 (4294967296*rhat))+un1)))) (cond (decide ((IntKind.wrap .u64 (rhat+yn1))>=4294967296)) (e0 (IntKind.wrap .u64 (q1 - 1))) (K ((IntKind.wrap .u64 (q1 - 1)),(IntKind.wrap .u64 (rhat+yn1))))) (e0 q1)) (cond (decide ((IntKind.wrap .u64 (rhat+yn1))>=4294967296)) (e0 (IntKind.wrap .u64 (q1 - 1))) (K ((IntKind.wrap .u64 (q1 - 1)),(IntKind.wrap .u64 (rhat+yn1))))))
def yg (N:Nat) (YS Xj aeb agB af1 ag3 un21:Int) (e0:Kz5):(Int × Int)->((Int × Int)->Bool)->Bool:=λv_ K=>match v_ with
 | (acC,q0)=>(cond ((decide (q0>=4294967296))==false) (cond (decide ((IntKind.wrap .u64 (q0*agB))>(IntKind.wrap .u64 ((IntKind.wrap .u64 (4294967296*acC))+af1)))) (cond (decide ((IntKind.wrap .u64 (acC+aeb))>=4294967296)) (e0 (IntKind.wrap .u64 (q0 - 1))) (K ((IntKind.wrap .u64 (acC+aeb)),(IntKind.wrap .u64 (q0 - 1))))) (e0 q0)) (cond (decide ((IntKind.wrap .u64 (acC+aeb))>=4294967296)) (e0 (IntKind.wrap .u64 (q0 - 1))) (K ((IntKind.wrap .u64 (acC+aeb)),(IntKind.wrap .u64 (q0 - 1))))))
def Lq (N:Nat) (hi lo y:Int) (k0:Ky6):Bool:=
 (cond (y==0) false (cond (decide (y<=hi)) false (cond (hi==0) ((!decide (y=0))&&((!decide (y=0))&&k0 (IntKind.wrap .u64 (Int.tdiv lo y)) (Int.tmod lo y))) (PM N y (λnr=>decide (0<=(IntKind.wrap .u64 nr))&&(decide (0<=(IntKind.wrap .u64 nr))&&(decide (0<=(IntKind.wrap .u64 (64 - (IntKind.wrap .u64 nr))))&&(decide (0<=(IntKind.wrap .u64 nr))&&((!decide ((Int.fdiv (IntKind.wrap .u64 (y*2 ^ (min (Int.toNat (IntKind.wrap .u64 nr)) 64))) (2 ^ 32))=0))&&ah N (yf N (IntKind.wrap .u64 (y*2 ^ (min (Int.toNat (IntKind.wrap .u64 nr)) 64))) (IntKind.wrap .u64 nr) (Int.fdiv (IntKind.wrap .u64 (y*2 ^ (min (Int.toNat (IntKind.wrap .u64 nr)) 64))) (2 ^ 32)) (aA .and .u64 (IntKind.wrap .u64 (y*2 ^ (min (Int.toNat (IntKind.wrap .u64 nr)) 64))) 4294967295) (aA .or .u64 (IntKind.wrap .u64 (hi*2 ^ (min (Int.toNat (IntKind.wrap .u64 nr)) 64))) (Int.fdiv lo (2 ^ (min (Int.toNat (IntKind.wrap .u64 (64 - (IntKind.wrap .u64 nr)))) 64)))) (Int.fdiv (IntKind.wrap .u64 (lo*2 ^ (min (Int.toNat (IntKind.wrap .u64 nr)) 64))) (2 ^ 32)) (aA .and .u64 (IntKind.wrap .u64 (lo*2 ^ (min (Int.toNat (IntKind.wrap .u64 nr)) 64))) 4294967295) (λafv=>(!decide ((Int.fdiv (IntKind.wrap .u64 (y*2 ^ (min (Int.toNat (IntKind.wrap .u64 nr)) 64))) (2 ^ 32))=0))&&ah N (yg N (IntKind.wrap .u64 (y*2 ^ (min (Int.toNat (IntKind.wrap .u64 nr)) 64))) (IntKind.wrap .u64 nr) (Int.fdiv (IntKind.wrap .u64 (y*2 ^ (min (Int.toNat (IntKind.wrap .u64 nr)) 64))) (2 ^ 32)) (aA .and .u64 (IntKind.wrap .u64 (y*2 ^ (min (Int.toNat (IntKind.wrap .u64 nr)) 64))) 4294967295) (aA .and .u64 (IntKind.wrap .u64 (lo*2 ^ (min (Int.toNat (IntKind.wrap .u64 nr)) 64))) 4294967295) afv (IntKind.wrap .u64 ((IntKind.wrap .u64 ((IntKind.wrap .u64 ((aA .or .u64 (IntKind.wrap .u64 (hi*2 ^ (min (Int.toNat (IntKind.wrap .u64 nr)) 64))) (Int.fdiv lo (2 ^ (min (Int.toNat (IntKind.wrap .u64 (64 - (IntKind.wrap .u64 nr)))) 64))))*4294967296))+(Int.fdiv (IntKind.wrap .u64 (lo*2 ^ (min (Int.toNat (IntKind.wrap .u64 nr)) 64))) (2 ^ 32)))) - (IntKind.wrap .u64 (afv*(IntKind.wrap .u64 (y*2 ^ (min (Int.toNat (IntKind.wrap .u64 nr)) 64))))))) (λahF=>decide (0<=(IntKind.wrap .u64 nr))&&k0 (IntKind.wrap .u64 ((IntKind.wrap .u64 (afv*4294967296))+ahF)) (Int.fdiv (IntKind.wrap .u64 ((IntKind.wrap .u64 ((IntKind.wrap .u64 ((IntKind.wrap .u64 ((IntKind.wrap .u64 ((IntKind.wrap .u64 ((aA .or .u64 (IntKind.wrap .u64 (hi*2 ^ (min (Int.toNat (IntKind.wrap .u64 nr)) 64))) (Int.fdiv lo (2 ^ (min (Int.toNat (IntKind.wrap .u64 (64 - (IntKind.wrap .u64 nr)))) 64))))*4294967296))+(Int.fdiv (IntKind.wrap .u64 (lo*2 ^ (min (Int.toNat (IntKind.wrap .u64 nr)) 64))) (2 ^ 32)))) - (IntKind.wrap .u64 (afv*(IntKind.wrap .u64 (y*2 ^ (min (Int.toNat (IntKind.wrap .u64 nr)) 64)))))))*4294967296))+(aA .and .u64 (IntKind.wrap .u64 (lo*2 ^ (min (Int.toNat (IntKind.wrap .u64 nr)) 64))) 4294967295))) - (IntKind.wrap .u64 (ahF*(IntKind.wrap .u64 (y*2 ^ (min (Int.toNat (IntKind.wrap .u64 nr)) 64))))))) (2 ^ (min (Int.toNat (IntKind.wrap .u64 nr)) 64))))) ((IntKind.wrap .u64 ((IntKind.wrap .u64 ((IntKind.wrap .u64 ((IntKind.wrap .u64 ((aA .or .u64 (IntKind.wrap .u64 (hi*2 ^ (min (Int.toNat (IntKind.wrap .u64 nr)) 64))) (Int.fdiv lo (2 ^ (min (Int.toNat (IntKind.wrap .u64 (64 - (IntKind.wrap .u64 nr)))) 64))))*4294967296))+(Int.fdiv (IntKind.wrap .u64 (lo*2 ^ (min (Int.toNat (IntKind.wrap .u64 nr)) 64))) (2 ^ 32)))) - (IntKind.wrap .u64 (afv*(IntKind.wrap .u64 (y*2 ^ (min (Int.toNat (IntKind.wrap .u64 nr)) 64))))))) - (IntKind.wrap .u64 ((IntKind.wrap .u64 (Int.tdiv (IntKind.wrap .u64 ((IntKind.wrap .u64 ((IntKind.wrap .u64 ((aA .or .u64 (IntKind.wrap .u64 (hi*2 ^ (min (Int.toNat (IntKind.wrap .u64 nr)) 64))) (Int.fdiv lo (2 ^ (min (Int.toNat (IntKind.wrap .u64 (64 - (IntKind.wrap .u64 nr)))) 64))))*4294967296))+(Int.fdiv (IntKind.wrap .u64 (lo*2 ^ (min (Int.toNat (IntKind.wrap .u64 nr)) 64))) (2 ^ 32)))) - (IntKind.wrap .u64 (afv*(IntKind.wrap .u64 (y*2 ^ (min (Int.toNat (IntKind.wrap .u64 nr)) 64))))))) (Int.fdiv (IntKind.wrap .u64 (y*2 ^ (min (Int.toNat (IntKind.wrap .u64 nr)) 64))) (2 ^ 32))))*(Int.fdiv (IntKind.wrap .u64 (y*2 ^ (min (Int.toNat (IntKind.wrap .u64 nr)) 64))) (2 ^ 32)))))),(IntKind.wrap .u64 (Int.tdiv (IntKind.wrap .u64 ((IntKind.wrap .u64 ((IntKind.wrap .u64 ((aA .or .u64 (IntKind.wrap .u64 (hi*2 ^ (min (Int.toNat (IntKind.wrap .u64 nr)) 64))) (Int.fdiv lo (2 ^ (min (Int.toNat (IntKind.wrap .u64 (64 - (IntKind.wrap .u64 nr)))) 64))))*4294967296))+(Int.fdiv (IntKind.wrap .u64 (lo*2 ^ (min (Int.toNat (IntKind.wrap .u64 nr)) 64))) (2 ^ 32)))) - (IntKind.wrap .u64 (afv*(IntKind.wrap .u64 (y*2 ^ (min (Int.toNat (IntKind.wrap .u64 nr)) 64))))))) (Int.fdiv (IntKind.wrap .u64 (y*2 ^ (min (Int.toNat (IntKind.wrap .u64 nr)) 64))) (2 ^ 32))))))) ((IntKind.wrap .u64 (Int.tdiv (aA .or .u64 (IntKind.wrap .u64 (hi*2 ^ (min (Int.toNat (IntKind.wrap .u64 nr)) 64))) (Int.fdiv lo (2 ^ (min (Int.toNat (IntKind.wrap .u64 (64 - (IntKind.wrap .u64 nr)))) 64)))) (Int.fdiv (IntKind.wrap .u64 (y*2 ^ (min (Int.toNat (IntKind.wrap .u64 nr)) 64))) (2 ^ 32)))),(IntKind.wrap .u64 ((aA .or .u64 (IntKind.wrap .u64 (hi*2 ^ (min (Int.toNat (IntKind.wrap .u64 nr)) 64))) (Int.fdiv lo (2 ^ (min (Int.toNat (IntKind.wrap .u64 (64 - (IntKind.wrap .u64 nr)))) 64)))) - (IntKind.wrap .u64 ((IntKind.wrap .u64 (Int.tdiv (aA .or .u64 (IntKind.wrap .u64 (hi*2 ^ (min (Int.toNat (IntKind.wrap .u64 nr)) 64))) (Int.fdiv lo (2 ^ (min (Int.toNat (IntKind.wrap .u64 (64 - (IntKind.wrap .u64 nr)))) 64)))) (Int.fdiv (IntKind.wrap .u64 (y*2 ^ (min (Int.toNat (IntKind.wrap .u64 nr)) 64))) (2 ^ 32))))*(Int.fdiv (IntKind.wrap .u64 (y*2 ^ (min (Int.toNat (IntKind.wrap .u64 nr)) 64))) (2 ^ 32))))))))))))))))
def Gg (N:Nat):Int->Int->Int->(Ky6)->Bool:=aw N (Lq N)
def lI (N:Nat) (Xm:LI) (X8:Int) (e0:Ky9):(Int × Int × LI)->((Int × Int × LI)->Bool)->Bool:=λv_ K=>match v_ with
 | (rest,i,q)=>(cond (decide (i>=0)) (inR i Xm.length&&Gg N rest (Xm.getD i.toNat 0) X8 (λnr W4=>inR i q.length&&(decide (i.toNat<q.length)&&(ac .i64 (i - 1)&&K (W4,(i - 1),(q.set i.toNat nr)))))) (e0 rest q))
def su (N:Nat) (x:LI) (d:Int) (k0:LI->Int->Bool):Bool:=
 (iW 8 ((x.length:Nat):Int) ((x.length:Nat):Int)&&(ac .i64 (((x.length:Nat):Int) - 1)&&ah N (lI N x d (λZQ q_1=>xh N q_1 (λmr=>decide ((0+mr)<=q_1.length)&&k0 (List.take mr (List.drop 0 q_1)) ZQ))) (0,(((x.length:Nat):Int) - 1),(List.replicate (Int.toNat ((x.length:Nat):Int)) (0:Int)))))
def px (N:Nat):LI->Int->(LI->Int->Bool)->Bool:=aw N (su N)
def oT (N:Nat) (words rest:Int) (t24:LI) (t25:Int) (e0:Kz9):(Int × LI)->((Int × LI)->Bool)->Bool:=λv_ K=>match v_ with
 | (t26,z)=>(cond (decide (t26<t25)) (inR t26 t24.length&&(ac .i64 (words+t26)&&(inR (words+t26) z.length&&(decide ((Int.toNat (words+t26))<z.length)&&(decide (0<=rest)&&(inR (words+t26) z.length&&(decide ((Int.toNat (words+t26))<z.length)&&(ac .i64 (words+t26)&&(ac .i64 ((words+t26)+1)&&(decide (0<=(IntKind.wrap .u64 (64 - rest)))&&(inR ((words+t26)+1) (List.length (z.set (Int.toNat (words+t26)) (aA .or .u64 (z.getD (Int.toNat (words+t26)) 0) (IntKind.wrap .u64 ((t24.getD t26.toNat 0)*2 ^ (min rest.toNat 64))))))&&(decide ((Int.toNat ((words+t26)+1))<(List.length (z.set (Int.toNat (words+t26)) (aA .or .u64 (z.getD (Int.toNat (words+t26)) 0) (IntKind.wrap .u64 ((t24.getD t26.toNat 0)*2 ^ (min rest.toNat 64)))))))&&(ac .i64 (t26+1)&&K ((t26+1),(List.set (z.set (Int.toNat (words+t26)) (aA .or .u64 (z.getD (Int.toNat (words+t26)) 0) (IntKind.wrap .u64 ((t24.getD t26.toNat 0)*2 ^ (min rest.toNat 64))))) (Int.toNat ((words+t26)+1)) (Int.fdiv (t24.getD t26.toNat 0) (2 ^ (min (Int.toNat (IntKind.wrap .u64 (64 - rest))) 64)))))))))))))))))) (e0 z))
def Ry (N:Nat) (x:LI) (n:Int) (k0:Bool) (k1:Kz0):Bool:=
 (cond (((x.length:Nat):Int)==0) k0 (ac .i64 (IntKind.wrap .u64 (Int.tdiv n 64))&&(ac .i64 ((IntKind.wrap .u64 (Int.tdiv n 64))+((x.length:Nat):Int))&&(ac .i64 (((IntKind.wrap .u64 (Int.tdiv n 64))+((x.length:Nat):Int))+1)&&(iW 8 (((IntKind.wrap .u64 (Int.tdiv n 64))+((x.length:Nat):Int))+1) (((IntKind.wrap .u64 (Int.tdiv n 64))+((x.length:Nat):Int))+1)&&ah N (oT N (IntKind.wrap .u64 (Int.tdiv n 64)) (Int.tmod n 64) x ((x.length:Nat):Int) (λYI=>xh N YI (λmr=>k1 mr YI))) (0,(List.replicate (Int.toNat (((IntKind.wrap .u64 (Int.tdiv n 64))+((x.length:Nat):Int))+1)) (0:Int))))))))
def Of (N:Nat):LI->Int->(Bool)->(Kz0)->Bool:=aw N (Ry N)
def qC (N u Yg:Nat) (Yt:LI) (n:Int) (YY:LI) (e0:Kz5):(Int × Int)->((Int × Int)->Bool)->Bool:=λv_ K=>match v_ with
 | (q,rest)=>(ac .i64 (n - 2)&&(inR (n - 2) Yt.length&&Gi N q (Yt.getD (Int.toNat (n - 2)) 0) (λW_ Xx=>cond ((decide (W_<rest))==false) (cond ((W_==rest)==true) (ac .i64 (n - 2)&&(inR (n - 2) Yg&&(decide ((u+(Int.toNat (n - 2)))<YY.length)&&cond (decide (Xx<=(YY.getD (u+(Int.toNat (n - 2))) 0))) (e0 q) (ac .i64 (n - 1)&&(inR (n - 1) Yt.length&&sQ3 N rest (Yt.getD (Int.toNat (n - 1)) 0) 0 (λXJ n5=>cond (n5 != 0) (e0 (IntKind.wrap .u64 (q - 1))) (K ((IntKind.wrap .u64 (q - 1)),XJ)))))))) (ac .i64 (n - 1)&&(inR (n - 1) Yt.length&&sQ3 N rest (Yt.getD (Int.toNat (n - 1)) 0) 0 (λn6 n7=>cond (n7 != 0) (e0 (IntKind.wrap .u64 (q - 1))) (K ((IntKind.wrap .u64 (q - 1)),n6)))))) (e0 q))))
def vj (N Yv XU:Nat) (v b:LI) (k0:Kz5):Bool:=
 (inR ((v.length:Nat):Int) XU&&(decide ((Yv+(Int.toNat ((v.length:Nat):Int)))<b.length)&&(ac .i64 (((v.length:Nat):Int) - 1)&&(inR (((v.length:Nat):Int) - 1) v.length&&cond (decide ((b.getD (Yv+(Int.toNat ((v.length:Nat):Int))) 0)>=(v.getD (Int.toNat (((v.length:Nat):Int) - 1)) 0))) (k0 18446744073709551615) (inR ((v.length:Nat):Int) XU&&(decide ((Yv+(Int.toNat ((v.length:Nat):Int)))<b.length)&&(ac .i64 (((v.length:Nat):Int) - 1)&&(inR (((v.length:Nat):Int) - 1) XU&&(decide ((Yv+(Int.toNat (((v.length:Nat):Int) - 1)))<b.length)&&(ac .i64 (((v.length:Nat):Int) - 1)&&(inR (((v.length:Nat):Int) - 1) v.length&&Gg N (b.getD (Yv+(Int.toNat ((v.length:Nat):Int))) 0) (b.getD (Yv+(Int.toNat (((v.length:Nat):Int) - 1))) 0) (v.getD (Int.toNat (((v.length:Nat):Int) - 1)) 0) (λnr W4=>ah N (qC N Yv XU v ((v.length:Nat):Int) b (λt4=>k0 t4)) (nr,W4)))))))))))))
def B0 (N:Nat):Nat->Nat->LI->LI->(Kz5)->Bool:=aw N (vj N)
def sb (N u Yg:Nat) (Yt:LI) (n q t17:Int) (e0:Int->Int->LI->Bool):(Int × Int × Int × LI)->((Int × Int × Int × LI)->Bool)->Bool:=λv_ K=>match v_ with
 | (carry,borrow,t18,YY)=>(cond (decide (t18<t17)) (inR t18 Yt.length&&mH N q (Yt.getD t18.toNat 0) 0 carry (λW4 W_=>inR t18 Yg&&(decide ((u+t18.toNat)<YY.length)&&sQ6 N (YY.getD (u+t18.toNat) 0) W_ borrow (λXx XJ=>inR t18 Yg&&(decide ((u+t18.toNat)<YY.length)&&(ac .i64 (t18+1)&&K (W4,XJ,(t18+1),(YY.set (u+t18.toNat) Xx)))))))) (e0 carry borrow YY))
def se (N u_8 u_9:Nat) (v_3:LI) (X_ q_2 YK t60:Int) (e0:Ky9):(Int × Int × LI)->((Int × Int × LI)->Bool)->Bool:=λv_ K=>match v_ with
 | (YH,t61,Zi)=>(cond (decide (t61<t60)) (inR t61 u_9&&(decide ((u_8+t61.toNat)<Zi.length)&&(inR t61 v_3.length&&sQ3 N (Zi.getD (u_8+t61.toNat) 0) (v_3.getD t61.toNat 0) YH (λn7 n8=>inR t61 u_9&&(decide ((u_8+t61.toNat)<Zi.length)&&(ac .i64 (t61+1)&&K (n8,(t61+1),(Zi.set (u_8+t61.toNat) n7)))))))) (e0 YH Zi))
def sc (N u_5 u_6:Nat) (v_2:LI) (XT:Int) (e0:Ky9):(Int × Int × LI)->((Int × Int × LI)->Bool)->Bool:=λv_ K=>match v_ with
 | (q_1,YJ,u_7)=>(cond (YJ != 0) (ah N (se N u_5 u_6 v_2 XT q_1 YJ XT (λaex ZA=>inR XT u_6&&(decide ((u_5+XT.toNat)<ZA.length)&&sQ3 N (ZA.getD (u_5+XT.toNat) 0) 0 aex (λn9 n10=>inR XT u_6&&(decide ((u_5+XT.toNat)<ZA.length)&&K ((IntKind.wrap .u64 (q_1 - 1)),(IntKind.wrap .u64 (YJ - n10)),(ZA.set (u_5+XT.toNat) n9))))))) (0,0,u_7)) (e0 q_1 u_7))
def wJ (N Yv XU:Nat) (v b:LI) (k0:Ky9):Bool:=
 (B0 N Yv XU v b (λnr=>ah N (sb N Yv XU v ((v.length:Nat):Int) nr ((v.length:Nat):Int) (λXL Zf u_4=>inR ((v.length:Nat):Int) XU&&(decide ((Yv+(Int.toNat ((v.length:Nat):Int)))<u_4.length)&&sQ6 N (u_4.getD (Yv+(Int.toNat ((v.length:Nat):Int))) 0) XL Zf (λn5 n6=>inR ((v.length:Nat):Int) XU&&(decide ((Yv+(Int.toNat ((v.length:Nat):Int)))<u_4.length)&&ah N (sc N Yv XU v ((v.length:Nat):Int) (λq_3 b0=>k0 q_3 b0)) (nr,n6,(u_4.set (Yv+(Int.toNat ((v.length:Nat):Int))) n5))))))) (0,0,0,b)))
def D3 (N:Nat):Nat->Nat->LI->LI->(Ky9)->Bool:=aw N (wJ N)
def ub (N u Yg v v_2:Nat) (n:Int) (YY v_3:LI) (e0:Kz5):(Int × Int)->((Int × Int)->Bool)->Bool:=λv_ K=>match v_ with
 | (q,rest)=>(ac .i64 (n - 2)&&(inR (n - 2) v_2&&(decide ((v+(Int.toNat (n - 2)))<v_3.length)&&Gi N q (v_3.getD (v+(Int.toNat (n - 2))) 0) (λW_ Xx=>cond ((decide (W_<rest))==false) (cond ((W_==rest)==true) (ac .i64 (n - 2)&&(inR (n - 2) Yg&&(decide ((u+(Int.toNat (n - 2)))<YY.length)&&cond (decide (Xx<=(YY.getD (u+(Int.toNat (n - 2))) 0))) (e0 q) (ac .i64 (n - 1)&&(inR (n - 1) v_2&&(decide ((v+(Int.toNat (n - 1)))<v_3.length)&&sQ3 N rest (v_3.getD (v+(Int.toNat (n - 1))) 0) 0 (λXJ n5=>cond (n5 != 0) (e0 (IntKind.wrap .u64 (q - 1))) (K ((IntKind.wrap .u64 (q - 1)),XJ))))))))) (ac .i64 (n - 1)&&(inR (n - 1) v_2&&(decide ((v+(Int.toNat (n - 1)))<v_3.length)&&sQ3 N rest (v_3.getD (v+(Int.toNat (n - 1))) 0) 0 (λn6 n7=>cond (n7 != 0) (e0 (IntKind.wrap .u64 (q - 1))) (K ((IntKind.wrap .u64 (q - 1)),n6))))))) (e0 q)))))
def OL (N Yv XU v_0 Yt:Nat) (b W0:LI) (k0:Kz5):Bool:=
 (inR ((Yt:Nat):Int) XU&&(decide ((Yv+(Int.toNat ((Yt:Nat):Int)))<b.length)&&(ac .i64 (((Yt:Nat):Int) - 1)&&(inR (((Yt:Nat):Int) - 1) Yt&&(decide ((v_0+(Int.toNat (((Yt:Nat):Int) - 1)))<W0.length)&&cond (decide ((b.getD (Yv+(Int.toNat ((Yt:Nat):Int))) 0)>=(W0.getD (v_0+(Int.toNat (((Yt:Nat):Int) - 1))) 0))) (k0 18446744073709551615) (inR ((Yt:Nat):Int) XU&&(decide ((Yv+(Int.toNat ((Yt:Nat):Int)))<b.length)&&(ac .i64 (((Yt:Nat):Int) - 1)&&(inR (((Yt:Nat):Int) - 1) XU&&(decide ((Yv+(Int.toNat (((Yt:Nat):Int) - 1)))<b.length)&&(ac .i64 (((Yt:Nat):Int) - 1)&&(inR (((Yt:Nat):Int) - 1) Yt&&(decide ((v_0+(Int.toNat (((Yt:Nat):Int) - 1)))<W0.length)&&Gg N (b.getD (Yv+(Int.toNat ((Yt:Nat):Int))) 0) (b.getD (Yv+(Int.toNat (((Yt:Nat):Int) - 1))) 0) (W0.getD (v_0+(Int.toNat (((Yt:Nat):Int) - 1))) 0) (λnr W4=>ah N (ub N Yv XU v_0 Yt ((Yt:Nat):Int) b W0 (λt4=>k0 t4)) (nr,W4)))))))))))))))
def PZ (N:Nat):Nat->Nat->Nat->Nat->LI->LI->(Kz5)->Bool:=aw N (OL N)
def gR (N u Yg v v_2:Nat) (n q t17:Int) (v_3:LI) (e0:Int->Int->LI->Bool):(Int × Int × Int × LI)->((Int × Int × Int × LI)->Bool)->Bool:=λv_ K=>match v_ with
 | (carry,borrow,t18,YY)=>(cond (decide (t18<t17)) (inR t18 v_2&&(decide ((v+t18.toNat)<v_3.length)&&mH N q (v_3.getD (v+t18.toNat) 0) 0 carry (λW4 W_=>inR t18 Yg&&(decide ((u+t18.toNat)<YY.length)&&sQ6 N (YY.getD (u+t18.toNat) 0) W_ borrow (λXx XJ=>inR t18 Yg&&(decide ((u+t18.toNat)<YY.length)&&(ac .i64 (t18+1)&&K (W4,XJ,(t18+1),(YY.set (u+t18.toNat) Xx))))))))) (e0 carry borrow YY))
def gS (N u_8 u_9 v_7 v_8:Nat) (X_ q_2 YK t60:Int) (v_9:LI) (e0:Ky9):(Int × Int × LI)->((Int × Int × LI)->Bool)->Bool:=λv_ K=>match v_ with
 | (YH,t61,Zi)=>(cond (decide (t61<t60)) (inR t61 u_9&&(decide ((u_8+t61.toNat)<Zi.length)&&(inR t61 v_8&&(decide ((v_7+t61.toNat)<v_9.length)&&sQ3 N (Zi.getD (u_8+t61.toNat) 0) (v_9.getD (v_7+t61.toNat) 0) YH (λn7 n8=>inR t61 u_9&&(decide ((u_8+t61.toNat)<Zi.length)&&(ac .i64 (t61+1)&&K (n8,(t61+1),(Zi.set (u_8+t61.toNat) n7))))))))) (e0 YH Zi))
def t_ (N u_5 u_6 v_4 v_5:Nat) (XT:Int) (v_6:LI) (e0:Ky9):(Int × Int × LI)->((Int × Int × LI)->Bool)->Bool:=λv_ K=>match v_ with
 | (q_1,YJ,u_7)=>(cond (YJ != 0) (ah N (gS N u_5 u_6 v_4 v_5 XT q_1 YJ XT v_6 (λaex ZA=>inR XT u_6&&(decide ((u_5+XT.toNat)<ZA.length)&&sQ3 N (ZA.getD (u_5+XT.toNat) 0) 0 aex (λn9 n10=>inR XT u_6&&(decide ((u_5+XT.toNat)<ZA.length)&&K ((IntKind.wrap .u64 (q_1 - 1)),(IntKind.wrap .u64 (YJ - n10)),(ZA.set (u_5+XT.toNat) n9))))))) (0,0,u_7)) (e0 q_1 u_7))
def LG (N Yv XU v_0 Yt:Nat) (b W0:LI) (k0:Ky9):Bool:=
 (PZ N Yv XU v_0 Yt b W0 (λnr=>ah N (gR N Yv XU v_0 Yt ((Yt:Nat):Int) nr ((Yt:Nat):Int) W0 (λXL Zf u_4=>inR ((Yt:Nat):Int) XU&&(decide ((Yv+(Int.toNat ((Yt:Nat):Int)))<u_4.length)&&sQ6 N (u_4.getD (Yv+(Int.toNat ((Yt:Nat):Int))) 0) XL Zf (λn5 n6=>inR ((Yt:Nat):Int) XU&&(decide ((Yv+(Int.toNat ((Yt:Nat):Int)))<u_4.length)&&ah N (t_ N Yv XU v_0 Yt ((Yt:Nat):Int) W0 (λq_3 b0=>k0 q_3 b0)) (nr,n6,(u_4.set (Yv+(Int.toNat ((Yt:Nat):Int))) n5))))))) (0,0,0,b)))
def N4 (N:Nat):Nat->Nat->Nat->Nat->LI->LI->(Ky9)->Bool:=aw N (LG N)
def wE (N x XV:Nat) (X9:LI) (e0:Kz5):(Int)->((Int)->Bool)->Bool:=λv_ K=>match v_ with
 | n=>(cond ((decide (n>0))==true) (ac .i64 (n - 1)&&(inR (n - 1) XV&&(decide ((x+(Int.toNat (n - 1)))<X9.length)&&cond ((X9.getD (x+(Int.toNat (n - 1))) 0)==0) (ac .i64 (n - 1)&&K (n - 1)) (e0 n)))) (e0 n))
def qG (N X1 Xm:Nat) (b:LI) (k0:Kz6):Bool:=
 (ah N (wE N X1 Xm b (λXT=>decide (0<=XT/\XT<=((Xm:Nat):Int))&&k0 (XT.toNat - 0))) ((Xm:Nat):Int))
def rz (N:Nat):Nat->Nat->LI->(Kz6)->Bool:=aw N (qG N)
def Qd (N X1 Xm:Nat) (i:Int) (b:LI) (k0:Kz5):Bool:=
 (cond (decide (i<((Xm:Nat):Int))) (inR i Xm&&(decide ((X1+i.toNat)<b.length)&&k0 (b.getD (X1+i.toNat) 0))) (k0 0))
def Jl (N:Nat):Nat->Nat->Int->LI->(Kz5)->Bool:=Qd N
def mL (N x XV:Nat) (words rest:Int) (t37 agu:Nat) (t38:Int) (X9:LI) (e0:Kz5):(Int × Int)->((Int × Int)->Bool)->Bool:=λv_ K=>match v_ with
 | (lost,t39)=>(cond (decide (t39<t38)) (inR t39 agu&&(decide ((t37+t39.toNat)<X9.length)&&(ac .i64 (t39+1)&&K ((aA .or .u64 lost (X9.getD (t37+t39.toNat) 0)),(t39+1))))) (e0 lost))
def i8 (N x_4 x_5:Nat) (ZD ZQ aft t53:Int) (x_6:LI) (e0:Kz9):(Int × LI)->((Int × LI)->Bool)->Bool:=λv_ K=>match v_ with
 | (t54,z)=>(cond (decide (t54<t53)) (ac .i64 (ZD+t54)&&Jl N x_4 x_5 (ZD+t54) x_6 (λnr=>decide (0<=ZQ)&&(ac .i64 (ZD+t54)&&(ac .i64 ((ZD+t54)+1)&&Jl N x_4 x_5 ((ZD+t54)+1) x_6 (λW4=>decide (0<=(IntKind.wrap .u64 (64 - ZQ)))&&(inR t54 z.length&&(decide (t54.toNat<z.length)&&(ac .i64 (t54+1)&&K ((t54+1),(z.set t54.toNat (aA .or .u64 (Int.fdiv nr (2 ^ (min ZQ.toNat 64))) (IntKind.wrap .u64 (W4*2 ^ (min (Int.toNat (IntKind.wrap .u64 (64 - ZQ))) 64)))))))))))))) (e0 z))
def Is (N X1 Xm:Nat) (n:Int) (b:LI) (k0:LI->Bool->Bool):Bool:=
 (cond (decide ((IntKind.wrap .u64 (Int.tdiv n 64))>=(IntKind.wrap .u64 ((Xm:Nat):Int)))) (k0 [] (decide (((Xm:Nat):Int)>0))) (ac .i64 (IntKind.wrap .u64 (Int.tdiv n 64))&&(inR (IntKind.wrap .u64 (Int.tdiv n 64)) Xm&&(decide ((X1+(Int.toNat (IntKind.wrap .u64 (Int.tdiv n 64))))<b.length)&&(decide (0<=(Int.tmod n 64))&&(decide (0<=(IntKind.wrap .u64 (Int.tdiv n 64))/\(IntKind.wrap .u64 (Int.tdiv n 64))<=((Xm:Nat):Int))&&ah N (mL N X1 Xm (IntKind.wrap .u64 (Int.tdiv n 64)) (Int.tmod n 64) X1 ((Int.toNat (IntKind.wrap .u64 (Int.tdiv n 64))) - 0) ((((Int.toNat (IntKind.wrap .u64 (Int.tdiv n 64))) - 0):Nat):Int) b (λagh=>ac .i64 (((Xm:Nat):Int) - (IntKind.wrap .u64 (Int.tdiv n 64)))&&(iW 8 (((Xm:Nat):Int) - (IntKind.wrap .u64 (Int.tdiv n 64))) (((Xm:Nat):Int) - (IntKind.wrap .u64 (Int.tdiv n 64)))&&ah N (i8 N X1 Xm (IntKind.wrap .u64 (Int.tdiv n 64)) (Int.tmod n 64) agh (((List.length (List.replicate (Int.toNat (((Xm:Nat):Int) - (IntKind.wrap .u64 (Int.tdiv n 64)))) (0:Int))):Nat):Int) b (λYI=>xh N YI (λmr=>decide ((0+mr)<=YI.length)&&k0 (List.take mr (List.drop 0 YI)) (agh != 0)))) (0,(List.replicate (Int.toNat (((Xm:Nat):Int) - (IntKind.wrap .u64 (Int.tdiv n 64)))) (0:Int)))))) ((aA .and .u64 (b.getD (X1+(Int.toNat (IntKind.wrap .u64 (Int.tdiv n 64)))) 0) (IntKind.wrap .u64 ((IntKind.wrap .u64 ((1:Int)*2 ^ (min (Int.toNat (Int.tmod n 64)) 64))) - 1))),0)))))))
def Jj (N:Nat):Nat->Nat->Int->LI->(LI->Bool->Bool)->Bool:=aw N (Is N)
def Ou (N:Nat) (up:Int) (u XU:Nat) (n:Int) (e0:Kz3):(Int × LI × LI)->((Int × LI × LI)->Bool)->Bool:=λv_ K=>match v_ with
 | (j,Yg,q)=>(cond (decide (j>=0)) (ac .i64 (j+n)&&(ac .i64 ((j+n)+1)&&(decide (0<=j/\j<=((j+n)+1)/\((j+n)+1)<=((XU:Nat):Int))&&D3 N (u+j.toNat) ((Int.toNat ((j+n)+1)) - j.toNat) [] Yg (λXx s6=>inR j q.length&&(decide (j.toNat<q.length)&&(ac .i64 (j - 1)&&K ((j - 1),s6,(q.set j.toNat Xx)))))))) (e0 Yg q))
def Bo (N:Nat) (ahf:Int) (v Yt u_5 u_6:Nat) (XT:Int) (v_2:LI) (e0:Kz3):(Int × LI × LI)->((Int × LI × LI)->Bool)->Bool:=λv_ K=>match v_ with
 | (Yj,u_7,q_3)=>(cond (decide (Yj>=0)) (ac .i64 (Yj+XT)&&(ac .i64 ((Yj+XT)+1)&&(decide (0<=Yj/\Yj<=((Yj+XT)+1)/\((Yj+XT)+1)<=((u_6:Nat):Int))&&N4 N (u_5+Yj.toNat) ((Int.toNat ((Yj+XT)+1)) - Yj.toNat) v Yt u_7 v_2 (λXJ s7=>inR Yj q_3.length&&(decide (Yj.toNat<q_3.length)&&(ac .i64 (Yj - 1)&&K ((Yj - 1),s7,(q_3.set Yj.toNat XJ)))))))) (e0 u_7 q_3))
def Me (N:Nat) (x y:LI) (aic:Int) (Zi:Nat) (ZA q_6:LI) (k0:Kz3):Bool:=
 (rz N 0 Zi ZA (λad4=>Jj N 0 ad4 aic ZA (λs8 cr=>xh N q_6 (λagj=>decide ((0+agj)<=q_6.length)&&k0 (List.take agj (List.drop 0 q_6)) s8))))
def LY (N:Nat) (x y:LI) (k0:Kz3):Bool:=
 (CV N x y (λnr=>cond (decide (nr<0)) (rY N x (λnsr=>k0 [] nsr)) (cond (((y.length:Nat):Int)==1) (inR 0 y.length&&px N x (y.getD 0 0) (λW1 W4=>kt N W4 (λW6=>k0 W1 W6))) (ac .i64 (((y.length:Nat):Int) - 1)&&(inR (((y.length:Nat):Int) - 1) y.length&&PM N (y.getD (Int.toNat (((y.length:Nat):Int) - 1)) 0) (λW_=>Of N y (IntKind.wrap .u64 W_) (Of N x (IntKind.wrap .u64 W_) (ac .i64 (((x.length:Nat):Int)+1)&&(decide (0<=(((x.length:Nat):Int)+1)/\(((x.length:Nat):Int)+1)<=2)&&(ac .i64 (((((Int.toNat (((x.length:Nat):Int)+1)) - 0):Nat):Int) - 0)&&(iW 8 (((((Int.toNat (((x.length:Nat):Int)+1)) - 0):Nat):Int) - 0) (((((Int.toNat (((x.length:Nat):Int)+1)) - 0):Nat):Int) - 0)&&(ac .i64 (((((Int.toNat (((x.length:Nat):Int)+1)) - 0):Nat):Int) - 0)&&(ac .i64 ((((((Int.toNat (((x.length:Nat):Int)+1)) - 0):Nat):Int) - 0) - 1)&&ah N (Ou N (IntKind.wrap .u64 W_) 0 ((Int.toNat (((x.length:Nat):Int)+1)) - 0) 0 (λYY q_1=>Me N x y (IntKind.wrap .u64 W_) ((Int.toNat (((x.length:Nat):Int)+1)) - 0) YY q_1 k0)) (((((((Int.toNat (((x.length:Nat):Int)+1)) - 0):Nat):Int) - 0) - 1),([]++[0,0]),(List.replicate (Int.toNat (((((Int.toNat (((x.length:Nat):Int)+1)) - 0):Nat):Int) - 0)) (0:Int))))))))) (λYk Xh=>decide ((0+Yk)<=Xh.length)&&(decide ((List.length ((List.take Yk (List.drop 0 Xh))++[0,0]))*8<=140737488355328)&&(ac .i64 (((x.length:Nat):Int)+1)&&(decide (0<=(((x.length:Nat):Int)+1)/\(((x.length:Nat):Int)+1)<=(((List.length ((List.take Yk (List.drop 0 Xh))++[0,0])):Nat):Int))&&(ac .i64 (((((Int.toNat (((x.length:Nat):Int)+1)) - 0):Nat):Int) - 0)&&(iW 8 (((((Int.toNat (((x.length:Nat):Int)+1)) - 0):Nat):Int) - 0) (((((Int.toNat (((x.length:Nat):Int)+1)) - 0):Nat):Int) - 0)&&(ac .i64 (((((Int.toNat (((x.length:Nat):Int)+1)) - 0):Nat):Int) - 0)&&(ac .i64 ((((((Int.toNat (((x.length:Nat):Int)+1)) - 0):Nat):Int) - 0) - 1)&&ah N (Ou N (IntKind.wrap .u64 W_) 0 ((Int.toNat (((x.length:Nat):Int)+1)) - 0) 0 (λu_4 q_2=>Me N x y (IntKind.wrap .u64 W_) ((Int.toNat (((x.length:Nat):Int)+1)) - 0) u_4 q_2 k0)) (((((((Int.toNat (((x.length:Nat):Int)+1)) - 0):Nat):Int) - 0) - 1),((List.take Yk (List.drop 0 Xh))++[0,0]),(List.replicate (Int.toNat (((((Int.toNat (((x.length:Nat):Int)+1)) - 0):Nat):Int) - 0)) (0:Int)))))))))))) (λmr W8=>Of N x (IntKind.wrap .u64 W_) (ac .i64 (((x.length:Nat):Int)+1)&&(decide (0<=(((x.length:Nat):Int)+1)/\(((x.length:Nat):Int)+1)<=2)&&(ac .i64 (((((Int.toNat (((x.length:Nat):Int)+1)) - 0):Nat):Int) - ((mr:Nat):Int))&&(iW 8 (((((Int.toNat (((x.length:Nat):Int)+1)) - 0):Nat):Int) - ((mr:Nat):Int)) (((((Int.toNat (((x.length:Nat):Int)+1)) - 0):Nat):Int) - ((mr:Nat):Int))&&(ac .i64 (((((Int.toNat (((x.length:Nat):Int)+1)) - 0):Nat):Int) - ((mr:Nat):Int))&&(ac .i64 ((((((Int.toNat (((x.length:Nat):Int)+1)) - 0):Nat):Int) - ((mr:Nat):Int)) - 1)&&ah N (Bo N (IntKind.wrap .u64 W_) 0 mr 0 ((Int.toNat (((x.length:Nat):Int)+1)) - 0) ((mr:Nat):Int) W8 (λu_8 q_4=>Me N x y (IntKind.wrap .u64 W_) ((Int.toNat (((x.length:Nat):Int)+1)) - 0) u_8 q_4 k0)) (((((((Int.toNat (((x.length:Nat):Int)+1)) - 0):Nat):Int) - ((mr:Nat):Int)) - 1),([]++[0,0]),(List.replicate (Int.toNat (((((Int.toNat (((x.length:Nat):Int)+1)) - 0):Nat):Int) - ((mr:Nat):Int))) (0:Int))))))))) (λXF Xg=>decide ((0+XF)<=Xg.length)&&(decide ((List.length ((List.take XF (List.drop 0 Xg))++[0,0]))*8<=140737488355328)&&(ac .i64 (((x.length:Nat):Int)+1)&&(decide (0<=(((x.length:Nat):Int)+1)/\(((x.length:Nat):Int)+1)<=(((List.length ((List.take XF (List.drop 0 Xg))++[0,0])):Nat):Int))&&(ac .i64 (((((Int.toNat (((x.length:Nat):Int)+1)) - 0):Nat):Int) - ((mr:Nat):Int))&&(iW 8 (((((Int.toNat (((x.length:Nat):Int)+1)) - 0):Nat):Int) - ((mr:Nat):Int)) (((((Int.toNat (((x.length:Nat):Int)+1)) - 0):Nat):Int) - ((mr:Nat):Int))&&(ac .i64 (((((Int.toNat (((x.length:Nat):Int)+1)) - 0):Nat):Int) - ((mr:Nat):Int))&&(ac .i64 ((((((Int.toNat (((x.length:Nat):Int)+1)) - 0):Nat):Int) - ((mr:Nat):Int)) - 1)&&ah N (Bo N (IntKind.wrap .u64 W_) 0 mr 0 ((Int.toNat (((x.length:Nat):Int)+1)) - 0) ((mr:Nat):Int) W8 (λu_9 q_5=>Me N x y (IntKind.wrap .u64 W_) ((Int.toNat (((x.length:Nat):Int)+1)) - 0) u_9 q_5 k0)) (((((((Int.toNat (((x.length:Nat):Int)+1)) - 0):Nat):Int) - ((mr:Nat):Int)) - 1),((List.take XF (List.drop 0 Xg))++[0,0]),(List.replicate (Int.toNat (((((Int.toNat (((x.length:Nat):Int)+1)) - 0):Nat):Int) - ((mr:Nat):Int))) (0:Int))))))))))))))))))
def Bf (N:Nat):LI->LI->(Kz3)->Bool:=aw N (LY N)
def B8 (N:Nat) (x:LI) (k0:Kz5):Bool:=
 (yV N x 0 (λnr=>k0 nr))
def uT (N:Nat):LI->(Kz5)->Bool:=B8 N
def GD (N:Nat) (e0:Kz3):(LI × LI)->((LI × LI)->Bool)->Bool:=λv_ K=>match v_ with
 | (XV,YS)=>(cond (decide (((YS.length:Nat):Int)>1)) (rv N XV (λW4=>ac .i64 (W4 - 64)&&uU N XV (W4 - 64) (λW_=>uU N YS (W4 - 64) (λXx=>tN N W_ Xx (λXJ n5 n6 n7 cr=>cond (n5 != 0) (eV N XJ n5 n6 n7 cr XV YS (λnsr W1=>K (nsr,W1))) (Bf N XV YS (λW6 W8=>K (YS,W8)))))))) (e0 XV YS))
def fG (N:Nat) (e0:Kz5):(Int × Int)->((Int × Int)->Bool)->Bool:=λv_ K=>match v_ with
 | (a,b)=>(cond (decide (b>0)) ((!decide (b=0))&&K (b,(Int.tmod a b))) (e0 a))
def yo (N:Nat) (x y x_4 y_4:LI) (k0:Kz9):Bool:=
 (cond (((y_4.length:Nat):Int)==0) (k0 x_4) (uT N x_4 (λn8=>uT N y_4 (λn9=>ah N (fG N (λXP=>kt N XP (λs6=>k0 s6))) (n8,n9)))))
def OM (N:Nat) (x y Xm X0:LI) (k0:Kz9):Bool:=
 (ah N (GD N (λX9 ZJ=>cond ((decide (((ZJ.length:Nat):Int)>0))==true) (cond (decide (((X9.length:Nat):Int)>1)) (Bf N X9 ZJ (λXh Xg=>yo N x y ZJ Xg k0)) (yo N x y X9 ZJ k0)) (yo N x y X9 ZJ k0))) (Xm,X0))
def Q7 (N:Nat) (x y:LI) (k0:Kz9):Bool:=
 (CV N x y (λnr=>cond (decide (nr<0)) (OM N x y y x k0) (OM N x y x y k0)))
def BX (N:Nat):LI->LI->(Kz9)->Bool:=aw N (Q7 N)
def OI (N:Nat) (neg:Bool) (abs:LI) (b W0:Bool) (k0:Ky5):Bool:=
 (cond (neg==true) (k0 (decide (((abs.length:Nat):Int)>0)) []) (k0 false []))
def KW (N:Nat):Bool->LI->Bool->Bool->(Ky5)->Bool:=OI N
def Q5 (N:Nat) (neg:Bool) (abs:LI) (b:Bool) (W0:LI) (W2:Bool) (W7:LI) (k0:Kz4):Bool:=
 (cond (neg==true) (k0 (decide (((abs.length:Nat):Int)>0))) (k0 false))
def PR (N:Nat):Bool->LI->Bool->LI->Bool->LI->(Kz4)->Bool:=Q5 N
def Iv (N:Nat) (neg:Bool) (a b:LI) (W0 W2:Bool) (XP W7:LI) (k0:Kx6):Bool:=
 (rY N XP (λXg=>KW N neg Xg W0 W2 (λcr s6=>rY N W7 (λs7=>PR N false s7 cr Xg W2 s6 (λW3=>k0 cr Xg W3 s7)))))
def Re (N:Nat) (neg:Bool) (a b:LI) (W0 W2:Bool) (k0:Kx6):Bool:=
 (BX N a b (λnsr=>CV N nsr [1] (λnr=>cond (nr != 0) (Bf N a nsr (λW1 W6=>Bf N b nsr (λW8 Xh=>Iv N neg a b W0 W2 W1 W8 k0))) (Iv N neg a b W0 W2 a b k0))))
def TN (N:Nat):Bool->LI->LI->Bool->Bool->(Kx6)->Bool:=aw N (Re N)
def QL (N:Nat) (b W0 W2:Bool) (W7:LI) (Xd:Bool) (Xe:LI) (k0:Kx6):Bool:=
 (TN N (W2 != Xd) W7 Xe b W0 (λcr nsr W3 W1=>k0 cr nsr W3 W1))
def PI (N:Nat):Bool->Bool->Bool->LI->Bool->LI->(Kx6)->Bool:=QL N
def lK (N:Nat) (YS:LI) (i a:Int) (agq:LI) (agr ags:Int) (t32:LI) (t33:Int) (e0:Ky9):(Int × Int × LI)->((Int × Int × LI)->Bool)->Bool:=λv_ K=>match v_ with
 | (carry,t34,YI)=>(cond (decide (t34<t33)) (inR t34 t32.length&&(ac .i64 (i+t34)&&(ac .i64 (i+t34)&&(inR (i+t34) YI.length&&(decide ((Int.toNat (i+t34))<YI.length)&&mH N a (t32.getD t34.toNat 0) (YI.getD (Int.toNat (i+t34)) 0) carry (λnr W4=>inR (i+t34) YI.length&&(decide ((Int.toNat (i+t34))<YI.length)&&(ac .i64 (t34+1)&&K (nr,(t34+1),(YI.set (Int.toNat (i+t34)) W4)))))))))) (e0 carry YI))
def lJ (N:Nat) (X0 t25:LI) (t26:Int) (e0:Kz9):(Int × LI)->((Int × LI)->Bool)->Bool:=λv_ K=>match v_ with
 | (t27,z)=>(cond (decide (t27<t26)) (inR t27 t25.length&&ah N (lK N X0 t27 (t25.getD t27.toNat 0) t25 t26 t27 X0 ((X0.length:Nat):Int) (λXL z_2=>ac .i64 (t27+((X0.length:Nat):Int))&&(inR (t27+((X0.length:Nat):Int)) z_2.length&&(decide ((Int.toNat (t27+((X0.length:Nat):Int)))<z_2.length)&&(ac .i64 (t27+1)&&K ((t27+1),(z_2.set (Int.toNat (t27+((X0.length:Nat):Int))) XL))))))) (0,0,z)) (e0 z))
def Rx (N:Nat) (x y:LI) (k0:Kz9):Bool:=
 (cond ((((x.length:Nat):Int)==0)==false) (cond (((y.length:Nat):Int)==0) (k0 []) (ac .i64 (((x.length:Nat):Int)+((y.length:Nat):Int))&&(iW 8 (((x.length:Nat):Int)+((y.length:Nat):Int)) (((x.length:Nat):Int)+((y.length:Nat):Int))&&ah N (lJ N y x ((x.length:Nat):Int) (λz_3=>xh N z_3 (λmr=>decide ((0+mr)<=z_3.length)&&k0 (List.take mr (List.drop 0 z_3))))) (0,(List.replicate (Int.toNat (((x.length:Nat):Int)+((y.length:Nat):Int))) (0:Int)))))) (k0 []))
def zt (N:Nat):LI->LI->(Kz9)->Bool:=aw N (Rx N)
def Uq (N:Nat) (b:Bool) (W0:LI) (W2:Bool) (W7:LI) (k0:Ky5):Bool:=
 (zt N W0 W7 (λnsr=>K0 N (b != W2) nsr b W0 (λcr=>k0 cr nsr)))
def UX (N:Nat):Bool->LI->Bool->LI->(Ky5)->Bool:=Uq N
def P7 (N:Nat) (neg b:Bool) (W0:LI) (W2:Bool) (W7 Xd:LI) (k0:Kz4):Bool:=
 (cond (neg==true) (k0 (decide (((Xd.length:Nat):Int)>0))) (k0 false))
def Qs (N:Nat):Bool->Bool->LI->Bool->LI->LI->(Kz4)->Bool:=P7 N
def Ro (N:Nat) (neg:Bool) (a:LI) (b W0:Bool) (W2:LI) (k0:Ky4):Bool:=
 (KW N neg a b W0 (λcr nsr=>Qs N false cr a W0 nsr W2 (λW3=>k0 cr W3)))
def UU (N:Nat):Bool->LI->Bool->Bool->LI->(Ky4)->Bool:=aw N (Ro N)
def Uh (N:Nat) (b W0 W2:Bool) (W7:LI) (k0:Kx6):Bool:=
 (rY N W7 (λnsr=>UU N W2 nsr b W0 [1] (λcr W3=>k0 cr nsr W3 [1])))
def TJ (N:Nat):Bool->Bool->Bool->LI->(Kx6)->Bool:=Uh N
def cu (N:Nat) (x:Fl) (p:Bool) (Z9 Zc:Int) (n:Bool) (XT:LI) (k0:Kx6):Bool:=
 (Gm N 1 (λXS W6=>ac .i64 (0 - Zc)&&TS N (IntKind.wrap .u64 (imm true Zc (0 - Zc))) false XS W6 (λYT W8=>cond (decide (Zc<0)) (PI N false false n XT YT W8 (λacu Xh acv Xg=>k0 acu Xh acv Xg)) (UX N n XT YT W8 (λacw s6=>TJ N false false acw s6 (λc8 s7 c9 s8=>k0 c8 s7 c9 s8))))))
def kn (N:Nat) (x:Fl) (k0:Kx6):Bool:=
 (ru N x (λcr nr W4 W_=>dw N (W_==0) 4 (PJ N nr false (λW3 nsr=>cond cr (PQ N W3 nsr (λXA W1=>cu N x cr nr W4 XA W1 k0)) (cu N x cr nr W4 W3 nsr k0)))))
def kv (N:Nat):Fl->(Kx6)->Bool:=aw N (kn N)
def dQ (N:Nat) (afY:LF) (agp afx afy g_2 g_3:Int) (e0:List RY1->Bool):(Int × List RY1)->((Int × List RY1)->Bool)->Bool:=λv_ K=>match v_ with
 | (YC,b2)=>(cond (decide (YC<agp)) (inR YC afY.length&&kv N (afY.getD YC.toNat none) (λXA W6 XS W8=>decide ((List.length (b2++[((XA,W6),(XS,W8))]))*8<=140737488355328)&&(ac .i64 (YC+1)&&K ((YC+1),(b2++[((XA,W6),(XS,W8))]))))) (e0 b2))
def js (N:Nat) (XK W9:Int) (Xu:LF) (k0:List RY1->Bool):Bool:=
 (KZ N XK W9 Xu (λnr=>dw N (nr==0) nr (ah N (dQ N Xu ((Xu.length:Nat):Int) 0 0 XK W9 (λ(YB:List RY1)=>k0 YB)) (0,[]))))
def jz (N:Nat):Int->Int->LF->(List RY1->Bool)->Bool:=aw N (js N)
def fv (N:Nat) (g_0 YU i j:Int) (b:List RY1) (k0:Kx6):Bool:=
 (ac .i64 (i*YU)&&(ac .i64 ((i*YU)+j)&&(inR ((i*YU)+j) b.length&&(decide ((Int.toNat ((i*YU)+j))<b.length)&&k0 (b.getD (Int.toNat ((i*YU)+j)) ((false,[]),(false,[]))).1.1 (b.getD (Int.toNat ((i*YU)+j)) ((false,[]),(false,[]))).1.2 (b.getD (Int.toNat ((i*YU)+j)) ((false,[]),(false,[]))).2.1 (b.getD (Int.toNat ((i*YU)+j)) ((false,[]),(false,[]))).2.2))))
def aY (N:Nat):Int->Int->Int->Int->List RY1->(Kx6)->Bool:=aw N (fv N)
def Uf (N:Nat) (X1:Bool) (Xm:LI) (XV:Bool) (X9:LI) (k0:Kz9):Bool:=
 (cond (((X9.length:Nat):Int)==0) (k0 [1]) (k0 X9))
def BW (N:Nat):Bool->LI->Bool->LI->(Kz9)->Bool:=Uf N
def QU (N:Nat) (neg:Bool) (a b:LI) (W0 W2:Bool) (k0:Ky4):Bool:=
 (KW N neg a W0 W2 (λcr nsr=>PR N false b cr a W2 nsr (λW3=>k0 cr W3)))
def KY (N:Nat):Bool->LI->LI->Bool->Bool->(Ky4)->Bool:=aw N (QU N)
def Rs (N:Nat) (X1:Bool) (Xm:LI) (XV:Bool) (X9:LI) (b W0:Bool) (k0:Kx6):Bool:=
 (rY N Xm (λnsr=>BW N X1 Xm XV X9 (λW1=>rY N W1 (λW6=>KY N (!X1) nsr W6 b W0 (λcr W3=>k0 cr nsr W3 W6)))))
def TV (N:Nat):Bool->LI->Bool->LI->Bool->Bool->(Kx6)->Bool:=aw N (Rs N)
def Up (N:Nat) (b:Bool) (W0:LI) (W2:Bool) (W7:LI) (k0:Kz9):Bool:=
 (cond (((W7.length:Nat):Int)==0) (k0 [1]) (k0 W7))
def TT (N:Nat):Bool->LI->Bool->LI->(Kz9)->Bool:=Up N
def nM (N:Nat) (x y:LI) (k0:Kz9):Bool:=
 (Bf N x y (λnsr W1=>k0 nsr))
def Rz (N:Nat) (x y:LI) (k0:Kz9):Bool:=
 (cond ((((y.length:Nat):Int)==1)==true) (inR 0 y.length&&cond ((y.getD 0 0)==1) (k0 x) (nM N x y k0)) (nM N x y k0))
def wr (N:Nat):LI->LI->(Kz9)->Bool:=aw N (Rz N)
def nX (N:Nat) (Xm X0:LI) (n t17:Int) (e0:Ky9):(Int × Int × LI)->((Int × Int × LI)->Bool)->Bool:=λv_ K=>match v_ with
 | (carry,t18,z)=>(cond (decide (t18<t17)) (yV N Xm t18 (λnr=>yV N X0 t18 (λW4=>sQ3 N nr W4 carry (λW_ Xx=>inR t18 z.length&&(decide (t18.toNat<z.length)&&(ac .i64 (t18+1)&&K (Xx,(t18+1),(z.set t18.toNat W_)))))))) (e0 carry z))
def xv (N:Nat) (x y:LI) (k0:Kz9):Bool:=
 (ac .i64 ((imm true ((x.length:Nat):Int) ((y.length:Nat):Int))+1)&&(iW 8 ((imm true ((x.length:Nat):Int) ((y.length:Nat):Int))+1) ((imm true ((x.length:Nat):Int) ((y.length:Nat):Int))+1)&&ah N (nX N x y (imm true ((x.length:Nat):Int) ((y.length:Nat):Int)) (imm true ((x.length:Nat):Int) ((y.length:Nat):Int)) (λXL YI=>inR (imm true ((x.length:Nat):Int) ((y.length:Nat):Int)) YI.length&&(decide ((Int.toNat (imm true ((x.length:Nat):Int) ((y.length:Nat):Int)))<YI.length)&&xh N (YI.set (Int.toNat (imm true ((x.length:Nat):Int) ((y.length:Nat):Int))) XL) (λmr=>decide ((0+mr)<=(List.length (YI.set (Int.toNat (imm true ((x.length:Nat):Int) ((y.length:Nat):Int))) XL)))&&k0 (List.take mr (List.drop 0 (YI.set (Int.toNat (imm true ((x.length:Nat):Int) ((y.length:Nat):Int))) XL))))))) (0,0,(List.replicate (Int.toNat ((imm true ((x.length:Nat):Int) ((y.length:Nat):Int))+1)) (0:Int)))))
def xZ (N:Nat):LI->LI->(Kz9)->Bool:=aw N (xv N)
def Q0 (N:Nat) (neg:Bool) (y:LI) (b:Bool) (W0:LI) (k0:Ky5):Bool:=
 (cond (b==neg) (xZ N W0 y (λnsr=>K0 N neg nsr b W0 (λcr=>k0 cr nsr))) (CV N W0 y (λnr=>cond (decide (nr>=0)) (yW N W0 y (λW1=>K0 N b W1 b W0 (λW3=>k0 W3 W1))) (yW N y W0 (λW6=>K0 N neg W6 b W0 (λXA=>k0 XA W6))))))
def PN (N:Nat):Bool->LI->Bool->LI->(Ky5)->Bool:=aw N (Q0 N)
def QW (N:Nat) (X1:Bool) (Xm:LI) (XV:Bool) (X9:LI) (b W0 W2:Bool) (W7:LI) (Xd:Bool) (Xe:LI) (k0:Kx6):Bool:=
 (BW N X1 Xm XV X9 (λnsr=>TT N W2 W7 Xd Xe (λW1=>BX N nsr W1 (λW6=>wr N nsr W6 (λW8=>wr N W1 W6 (λXh=>zt N Xm Xh (λXg=>DY N X1 Xg false (λcr=>zt N W7 W8 (λs6=>PN N W2 s6 cr Xg (λW3 s7=>BX N s7 W6 (λs8=>wr N s7 s8 (λs9=>rY N s9 (λs10=>wr N W1 s8 (λs11=>zt N W8 s11 (λs12=>KY N W3 s10 s12 b W0 (λXA XS=>k0 XA s10 XS s12))))))))))))))))
def TF (N:Nat):Bool->LI->Bool->LI->Bool->Bool->Bool->LI->Bool->LI->(Kx6)->Bool:=aw N (QW N)
def Lo (N:Nat) (X1:Bool) (Xm:LI) (XV:Bool) (X9:LI) (y_0:Bool) (X0:LI) (YS:Bool) (ZJ:LI) (b W0:Bool) (k0:Kx6):Bool:=
 (TV N y_0 X0 YS ZJ false false (λcr nsr W3 W1=>TF N X1 Xm XV X9 b W0 cr nsr W3 W1 (λXA W6 XS W8=>k0 XA W6 XS W8)))
def Qv (N:Nat):Bool->LI->Bool->LI->Bool->LI->Bool->LI->Bool->Bool->(Kx6)->Bool:=aw N (Lo N)
def jD (N:Nat) (X1:Bool) (Xm:LI) (XV:Bool) (X9:LI) (y_0:Bool) (X0:LI) (YS:Bool) (ZJ:LI) (k0:Kx6):Bool:=
 (Qv N X1 Xm XV X9 y_0 X0 YS ZJ false false (λcr nsr W3 W1=>k0 cr nsr W3 W1))
def cX (N:Nat):Bool->LI->Bool->LI->Bool->LI->Bool->LI->(Kx6)->Bool:=jD N
def LX (N:Nat) (X1:Bool) (Xm:LI) (XV:Bool) (X9:LI) (k0:Kz5):Bool:=
 (cond X1 (k0 (-1)) (cond (((Xm.length:Nat):Int)==0) (k0 0) (k0 1)))
def QA (N:Nat):Bool->LI->Bool->LI->(Kz5)->Bool:=aw N (LX N)
def sr (N:Nat) (X1:Bool) (Xm:LI) (XV:Bool) (X9:LI) (k0:Kz5):Bool:=
 (QA N X1 Xm XV X9 (λnr=>k0 nr))
def tM (N:Nat):Bool->LI->Bool->LI->(Kz5)->Bool:=sr N
def jG (N:Nat) (X1:Bool) (Xm:LI) (XV:Bool) (X9:LI) (k0:Kz5):Bool:=
 (tM N X1 Xm XV X9 (λnr=>k0 nr))
def bg (N:Nat):Bool->LI->Bool->LI->(Kz5)->Bool:=jG N
def bE (N:Nat) (i ag_ Yf t9:Int) (aax:List RY1) (g_3 g_4:Int) (e0:Bool):(Int)->((Int)->Bool)->Bool:=λv_ K=>match v_ with
 | t10=>(cond (decide (t10<t9)) (aY N g_3 g_4 i t10 aax (λcr nsr W3 W1=>aY N g_3 g_4 t10 i aax (λXA W6 XS W8=>cX N cr nsr W3 W1 XA W6 XS W8 (λYT Xh acu Xg=>bg N YT Xh acu Xg (λnr=>dw N (nr==0) 112 (ac .i64 (t10+1)&&K (t10+1))))))) e0)
def bD (N:Nat) (t5:Int) (b0:List RY1) (g g_2:Int) (e0:Bool):(Int)->((Int)->Bool)->Bool:=λv_ K=>match v_ with
 | t6=>(cond (decide (t6<t5)) (ah N (bE N t6 t5 t6 t6 b0 g g_2 (ac .i64 (t6+1)&&K (t6+1))) 0) e0)
def cZ (N:Nat) (g_0 YU:Int) (b:List RY1) (k0:Bool):Bool:=
 (ah N (bD N g_0 b g_0 YU k0) 0)
def dm (N:Nat):Int->Int->List RY1->(Bool)->Bool:=aw N (cZ N)
def qE (N:Nat) (a b:Int) (k0:Kx6):Bool:=
 (Gm N a (λcr nsr=>Gm N b (λW3 W1=>PI N false false cr nsr W3 W1 (λXA W6 XS W8=>k0 XA W6 XS W8))))
def xj (N:Nat):Int->Int->(Kx6)->Bool:=aw N (qE N)
def pX (N:Nat) (n:Int) (k0:Kx6):Bool:=
 (xj N n 1 (λcr nsr W3 W1=>k0 cr nsr W3 W1))
def mI (N:Nat):Int->(Kx6)->Bool:=pX N
def QR (N:Nat) (neg:Bool) (a b c d:LI) (W0 W2:Bool) (k0:Kx6):Bool:=
 (BX N a d (λnsr=>BX N c b (λW1=>wr N a nsr (λW6=>wr N c W1 (λW8=>zt N W6 W8 (λXh=>wr N b W1 (λXg=>wr N d nsr (λs6=>zt N Xg s6 (λs7=>KY N neg Xh s7 W0 W2 (λcr W3=>k0 cr Xh W3 s7))))))))))
def PK (N:Nat):Bool->LI->LI->LI->LI->Bool->Bool->(Kx6)->Bool:=aw N (QR N)
def Ln (N:Nat) (X1:Bool) (Xm:LI) (XV:Bool) (X9:LI) (y_0:Bool) (X0:LI) (YS:Bool) (ZJ:LI) (b W0:Bool) (k0:Kx6):Bool:=
 (BW N X1 Xm XV X9 (λnsr=>BW N y_0 X0 YS ZJ (λW1=>PK N (X1 != y_0) Xm nsr W1 X0 b W0 (λcr W6 W3 W8=>k0 cr W6 W3 W8))))
def Qu (N:Nat):Bool->LI->Bool->LI->Bool->LI->Bool->LI->Bool->Bool->(Kx6)->Bool:=aw N (Ln N)
def jE (N:Nat) (X1:Bool) (Xm:LI) (XV:Bool) (X9:LI) (y_0:Bool) (X0:LI) (YS:Bool) (ZJ:LI) (k0:Kx6):Bool:=
 (Qu N X1 Xm XV X9 y_0 X0 YS ZJ false false (λcr nsr W3 W1=>k0 cr nsr W3 W1))
def eX (N:Nat):Bool->LI->Bool->LI->Bool->LI->Bool->LI->(Kx6)->Bool:=jE N
def Lm (N:Nat) (X1:Bool) (Xm:LI) (XV:Bool) (X9:LI) (y_0:Bool) (X0:LI) (YS:Bool) (ZJ:LI) (b W0:Bool) (k0:Kx6):Bool:=
 (BW N X1 Xm XV X9 (λnsr=>BW N y_0 X0 YS ZJ (λW1=>PK N (X1 != y_0) Xm nsr X0 W1 b W0 (λcr W6 W3 W8=>k0 cr W6 W3 W8))))
def Qt (N:Nat):Bool->LI->Bool->LI->Bool->LI->Bool->LI->Bool->Bool->(Kx6)->Bool:=aw N (Lm N)
def je (N:Nat) (X1:Bool) (Xm:LI) (XV:Bool) (X9:LI) (y_0:Bool) (X0:LI) (YS:Bool) (ZJ:LI) (k0:Kx6):Bool:=
 (Qt N X1 Xm XV X9 y_0 X0 YS ZJ false false (λcr nsr W3 W1=>k0 cr nsr W3 W1))
def eC (N:Nat):Bool->LI->Bool->LI->Bool->LI->Bool->LI->(Kx6)->Bool:=je N
def OJ (N:Nat) (X1:Bool) (Xm:LI) (XV:Bool) (X9:LI) (y_0:Bool) (X0:LI) (YS:Bool) (ZJ:LI) (b W0:Bool) (k0:Kx6):Bool:=
 (BW N X1 Xm XV X9 (λnsr=>BW N y_0 X0 YS ZJ (λW1=>BX N nsr W1 (λW6=>wr N nsr W6 (λW8=>wr N W1 W6 (λXh=>zt N Xm Xh (λXg=>DY N X1 Xg false (λcr=>zt N X0 W8 (λs6=>PN N y_0 s6 cr Xg (λW3 s7=>BX N s7 W6 (λs8=>wr N s7 s8 (λs9=>rY N s9 (λs10=>wr N W1 s8 (λs11=>zt N W8 s11 (λs12=>KY N W3 s10 s12 b W0 (λXA XS=>k0 XA s10 XS s12))))))))))))))))
def PO (N:Nat):Bool->LI->Bool->LI->Bool->LI->Bool->LI->Bool->Bool->(Kx6)->Bool:=aw N (OJ N)
def jF (N:Nat) (X1:Bool) (Xm:LI) (XV:Bool) (X9:LI) (y_0:Bool) (X0:LI) (YS:Bool) (ZJ:LI) (k0:Kx6):Bool:=
 (PO N X1 Xm XV X9 y_0 X0 YS ZJ false false (λcr nsr W3 W1=>k0 cr nsr W3 W1))
def eZ (N:Nat):Bool->LI->Bool->LI->Bool->LI->Bool->LI->(Kx6)->Bool:=jF N
def kw (N:Nat) (g_0 YU i j:Int) (X1:Bool) (Xm:LI) (XV:Bool) (X9:LI) (b:List RY1) (k0:List RY1->Bool):Bool:=
 (ac .i64 (i*YU)&&(ac .i64 ((i*YU)+j)&&(inR ((i*YU)+j) b.length&&(decide ((Int.toNat ((i*YU)+j))<b.length)&&k0 (b.set (Int.toNat ((i*YU)+j)) ((X1,Xm),(XV,X9)))))))
def fF (N:Nat):Int->Int->Int->Int->Bool->LI->Bool->LI->List RY1->(List RY1->Bool)->Bool:=kw N
def cH (N:Nat) (Yi afs t10 g g_2:Int) (x:Bool) (x_4:LI) (x_5:Bool) (x_6:LI) (e0:List RY1->Bool):(Int × List RY1)->((Int × List RY1)->Bool)->Bool:=λv_ K=>match v_ with
 | (t11,b0)=>(cond (decide (t11<t10)) (aY N g g_2 Yi t11 b0 (λcr nsr W3 W1=>aY N g g_2 afs t11 b0 (λXA W6 XS W8=>eC N XA W6 XS W8 x x_4 x_5 x_6 (λYT Xh acu Xg=>eZ N cr nsr W3 W1 YT Xh acu Xg (λacv s6 acw s7=>fF N g g_2 Yi t11 acv s6 acw s7 b0 (λ(lr:List RY1)=>ac .i64 (t11+1)&&K ((t11+1),lr))))))) (e0 b0))
def fu (N:Nat) (g_0 YU i k_:Int) (X1:Bool) (Xm:LI) (XV:Bool) (X9:LI) (b:List RY1) (k0:List RY1->Bool):Bool:=
 (ah N (cH N i k_ YU g_0 YU X1 Xm XV X9 (λ(aax:List RY1)=>k0 aax)) (0,b))
def fE (N:Nat):Int->Int->Int->Int->Bool->LI->Bool->LI->List RY1->(List RY1->Bool)->Bool:=aw N (fu N)
def az (N:Nat) (Xj k_ ahb YP g_3 g_4:Int) (p:Bool) (Z9:LI) (Zc:Bool) (p_3:LI) (e0:Int->List RY1->Bool) (e1:List RY1->Bool):(Int × List RY1)->((Int × List RY1)->Bool)->Bool:=λv_ K=>match v_ with
 | (i,aax)=>(cond (decide (i<g_3)) (aY N g_3 g_4 i k_ aax (λXA W6 XS W8=>bg N XA W6 XS W8 (λW4=>cond (W4==0) (ac .i64 (i+1)&&K ((i+1),aax)) (bg N p Z9 Zc p_3 (λW_=>cond (W_==0) (e0 1 aax) (mI N 0 (λYT Xh acu Xg=>eX N XA W6 XS W8 p Z9 Zc p_3 (λacv s6 acw s7=>cX N YT Xh acu Xg acv s6 acw s7 (λc8 s8 c9 s9=>fE N g_3 g_4 i k_ c8 s8 c9 s9 aax (λ(lr:List RY1)=>ac .i64 (i+1)&&K ((i+1),lr))))))))))) (e1 aax))
def aN (N:Nat) (t9 g g_2:Int) (e0:Int->List RY1->Bool) (e1:Int->List RY1->Bool):(Int × Int × List RY1)->((Int × Int × List RY1)->Bool)->Bool:=λv_ K=>match v_ with
 | (s,t10,b0)=>(cond (decide (t10<t9)) (aY N g g_2 t10 t10 b0 (λcr nsr W3 W1=>bg N cr nsr W3 W1 (λnr=>cond (decide (nr<0)) (e0 1 b0) (ac .i64 (t10+1)&&ah N (az N s t10 t9 t10 g g_2 cr nsr W3 W1 (λ(t2:Int) (ahS:List RY1)=>e0 t2 ahS) (λ(aho:List RY1)=>bg N cr nsr W3 W1 (λXx=>cond (Xx==0) (ac .i64 (t10+1)&&K (2,(t10+1),aho)) (ac .i64 (t10+1)&&K (s,(t10+1),aho))))) ((t10+1),b0))))) (e1 s b0))
def dA (N:Nat) (g_0 YU:Int) (b:List RY1) (k0:Int->List RY1->Bool):Bool:=
 (ah N (aN N g_0 g_0 YU (λ(abU:Int) (ahT:List RY1)=>k0 abU ahT) (λ(Xr:Int) (ahU:List RY1)=>k0 Xr ahU)) (3,0,b))
def ge (N:Nat):Int->Int->List RY1->(Int->List RY1->Bool)->Bool:=aw N (dA N)
def jC (N:Nat) (g_0 YU:Int) (b:List RY1) (k0:Int->List RY1->Bool):Bool:=
 (dw N (g_0==YU) 3 (dm N g_0 YU b (ge N g_0 YU b (λ(nr:Int) (lr:List RY1)=>k0 nr lr))))
def eW (N:Nat):Int->Int->List RY1->(Int->List RY1->Bool)->Bool:=jC N
def km (N:Nat) (XK W9:Int) (Xu:LF) (k0:Ky6):Bool:=
 (jz N XK W9 Xu (λ(lr:List RY1)=>eW N XK W9 lr (λ(nr:Int) (ahE:List RY1)=>k0 nr 0)))
def ku (N:Nat):Int->Int->LF->(Ky6)->Bool:=aw N (km N)
def oZ (N:Nat) (p_0 Z9:Int) (Zc:LF) (k0:Kz4):Bool:=
 (ku N p_0 Z9 Zc (λnr W4=>cond ((W4==0)==true) (k0 (nr==3)) (k0 false)))
def bV (N:Nat):Int->Int->LF->(Kz4)->Bool:=oZ N
def ol (N:Nat) (XC:LF) (Xj Xr:Int) (Xt:LF) (k0:Kz5):Bool:=
 (KZ N Xj Xr Xt (λnr=>cond (nr != 0) (k0 nr) (cond ((Xj != Xr)==false) (cond (((XC.length:Nat):Int) != Xj) (k0 3) (vh N XC (λcr=>cond (!cr) (k0 4) (PU N Xj Xr Xt (λW3=>cond (!W3) (k0 150) (bV N Xj Xr Xt (λXA=>cond (!XA) (k0 151) (k0 0)))))))) (k0 3))))
def dj (N:Nat):LF->Int->Int->LF->(Kz5)->Bool:=aw N (ol N)
def pK (N:Nat) (n:Int) (h:LF) (r:Fl) (k0:Kz5):Bool:=
 (cond (((h.length:Nat):Int) != n) (k0 3) (vh N h (λcr=>cond (!cr) (k0 4) (vh N [r] (λW3=>cond (!W3) (k0 4) (cond (fle r (some 0)) (k0 152) (k0 0)))))))
def pP (N:Nat):Int->LF->Fl->(Kz5)->Bool:=aw N (pK N)
def qJ (N:Nat) (XK W9:Int) (Xu:LF) (i:Int) (k0:Kz8):Bool:=
 (ac .i64 (i*W9)&&(ac .i64 (i+1)&&(ac .i64 ((i+1)*W9)&&(decide (0<=(i*W9)/\(i*W9)<=((i+1)*W9)/\((i+1)*W9)<=((Xu.length:Nat):Int))&&k0 (List.drop (Int.toNat (i*W9)) (List.take (Int.toNat ((i+1)*W9)) Xu))))))
def i5 (N:Nat):Int->Int->LF->Int->(Kz8)->Bool:=aw N (qJ N)
abbrev zY:=Fl->(Kz7)->Bool
def xl (N:Nat):zY:=λx k=>k (BK x)
def uj (N:Nat) (f:Fl) (sign:Int) (k0:Kz4):Bool:=
 (cond (sign==0) (xl N f (λxr=>k0 (fgt xr (some 9218868437227405311)))) (cond (decide (sign<0)) (k0 (fgt (Tf f) (some 9218868437227405311))) (k0 (fgt f (some 9218868437227405311)))))
def i6 (N:Nat):Fl->Int->(Kz4)->Bool:=aw N (uj N)
def rJ (N:Nat) (x:Fl) (b:Bool) (W0:LF) (W2 W7:Int) (Xd Xe:LF) (Xn Xk Xw:Fl) (k0:Kz4):Bool:=
 (cond ((!feq x x)==false) (i6 N x 0 (λcr=>cond cr (k0 true) (k0 b))) (k0 true))
def r_ (N:Nat):Fl->Bool->LF->Int->Int->LF->LF->Fl->Fl->Fl->(Kz4)->Bool:=aw N (rJ N)
def pW (N:Nat) (a b:Fl) (W0:Bool) (W2:LF) (W7 Xd:Int) (Xe Xn:LF) (Xk Xw Xy:Fl) (k0:Ky7):Bool:=
 (r_ N (aF a b) W0 W2 W7 Xd Xe Xn Xk Xw Xy (λcr=>k0 (aF a b) cr))
def x_ (N:Nat):Fl->Fl->Bool->LF->Int->Int->LF->LF->Fl->Fl->Fl->(Ky7)->Bool:=aw N (pW N)
def nI (N:Nat) (W5 t10:LF) (t11:Int) (Xj:LF) (Xr Xt:Int) (X2 X5:LF) (Z8 YV Zl:Fl) (e0:Ky7):(Fl × Int × Bool)->((Fl × Int × Bool)->Bool)->Bool:=λv_ K=>match v_ with
 | (t,t12,s)=>(cond (decide (t12<t11)) (inR t12 t10.length&&(inR t12 W5.length&&x_ N (t10.getD t12.toNat none) (W5.getD t12.toNat none) s Xj Xr Xt X2 X5 Z8 YV Zl (λxr cr=>r_ N (ep t xr) cr Xj Xr Xt X2 X5 Z8 YV Zl (λW3=>ac .i64 (t12+1)&&K ((ep t xr),(t12+1),W3))))) (e0 t s))
def xx (N:Nat) (a b:LF) (W0:Bool) (W2:LF) (W7 Xd:Int) (Xe Xn:LF) (Xk Xw Xy:Fl) (k0:Ky7):Bool:=
 (ah N (nI N b a ((a.length:Nat):Int) W2 W7 Xd Xe Xn Xk Xw Xy (λt_1 b0=>k0 t_1 b0)) ((some 0),0,W0))
def QV (N:Nat) (x:Fl) (b:Bool) (W0:LF) (W2 W7:Int) (Xd Xe:LF) (Xn Xk Xw:Fl) (Xy:LF) (k0:Kz4):Bool:=
 (cond ((!feq x x)==false) (i6 N x 0 (λcr=>cond cr (k0 true) (k0 b))) (k0 true))
def Gp (N:Nat):Fl->Bool->LF->Int->Int->LF->LF->Fl->Fl->Fl->LF->(Kz4)->Bool:=aw N (QV N)
def Rl (N:Nat) (a b:Fl) (W0:Bool) (W2:LF) (W7 Xd:Int) (Xe Xn:LF) (Xk Xw Xy:Fl) (W5:LF) (k0:Ky7):Bool:=
 (Gp N (aF a b) W0 W2 W7 Xd Xe Xn Xk Xw Xy W5 (λcr=>k0 (aF a b) cr))
def PX (N:Nat):Fl->Fl->Bool->LF->Int->Int->LF->LF->Fl->Fl->Fl->LF->(Ky7)->Bool:=aw N (Rl N)
def Ej (N:Nat) (Xo t10:LF) (t11:Int) (Xj:LF) (Xr Xt:Int) (X2 X5:LF) (Z8 YV Zl:Fl) (b1:LF) (e0:Ky7):(Fl × Int × Bool)->((Fl × Int × Bool)->Bool)->Bool:=λv_ K=>match v_ with
 | (t,t12,s)=>(cond (decide (t12<t11)) (inR t12 t10.length&&(inR t12 Xo.length&&PX N (t10.getD t12.toNat none) (Xo.getD t12.toNat none) s Xj Xr Xt X2 X5 Z8 YV Zl b1 (λxr cr=>Gp N (ep t xr) cr Xj Xr Xt X2 X5 Z8 YV Zl b1 (λW3=>ac .i64 (t12+1)&&K ((ep t xr),(t12+1),W3))))) (e0 t s))
def Rk (N:Nat) (a b:LF) (W0:Bool) (W2:LF) (W7 Xd:Int) (Xe Xn:LF) (Xk Xw Xy:Fl) (W5:LF) (k0:Ky7):Bool:=
 (ah N (Ej N b a ((a.length:Nat):Int) W2 W7 Xd Xe Xn Xk Xw Xy W5 (λt_1 b0=>k0 t_1 b0)) ((some 0),0,W0))
def PW (N:Nat):LF->LF->Bool->LF->Int->Int->LF->LF->Fl->Fl->Fl->LF->(Ky7)->Bool:=aw N (Rk N)
def Ef (N:Nat) (t10:LF) (t11:Int) (Xj:LF) (Xr Xt:Int) (X2 X5:LF) (Z8 YV Zl:Fl) (W5:LF) (e0:Ky7):(Fl × Int × Bool)->((Fl × Int × Bool)->Bool)->Bool:=λv_ K=>match v_ with
 | (t,t12,s)=>(cond (decide (t12<t11)) (inR t12 t10.length&&(inR t12 W5.length&&(decide (t12.toNat<W5.length)&&PX N (t10.getD t12.toNat none) (W5.getD t12.toNat none) s Xj Xr Xt X2 X5 Z8 YV Zl W5 (λxr cr=>Gp N (ep t xr) cr Xj Xr Xt X2 X5 Z8 YV Zl W5 (λW3=>ac .i64 (t12+1)&&K ((ep t xr),(t12+1),W3)))))) (e0 t s))
def Rf (N:Nat) (a:LF) (b:Bool) (W0:LF) (W2 W7:Int) (Xd Xe:LF) (Xn Xk Xw:Fl) (Xy:LF) (k0:Ky7):Bool:=
 (ah N (Ef N a ((a.length:Nat):Int) W0 W2 W7 Xd Xe Xn Xk Xw Xy (λt_1 b0=>k0 t_1 b0)) ((some 0),0,b))
def TP (N:Nat):LF->Bool->LF->Int->Int->LF->LF->Fl->Fl->Fl->LF->(Ky7)->Bool:=aw N (Rf N)
def Lp (N:Nat) (b:Bool) (W0:LF) (W2 W7:Int) (Xd Xe:LF) (Xn Xk Xw:Fl) (Xy:LF) (k0:Bool):Bool:=
 k0
def Qw (N:Nat):Bool->LF->Int->Int->LF->LF->Fl->Fl->Fl->LF->(Bool)->Bool:=aw N (Lp N)
def ft (N:Nat) (h_2:LF) (r_2:Fl) (agt:Int) (YV:LF) (Zl s_9:Int) (ad6 Zi:LF) (ZA abJ:Int) (ZB Yy:LF) (Zj Yz Yu:Fl) (e0:Ky8):(Int × Bool × LF)->((Int × Bool × LF)->Bool)->Bool:=λv_ K=>match v_ with
 | (afZ,u_9,b2)=>(cond (decide (afZ<agt)) (i5 N Zl s_9 ad6 afZ (λXM=>PW N XM h_2 u_9 Zi ZA abJ ZB Yy Zj Yz Yu b2 (λYe W3=>decide ((List.length (b2++[Ye]))*8<=140737488355328)&&(ac .i64 (afZ+1)&&K ((afZ+1),W3,(b2++[Ye])))))) (e0 u_9 b2))
def mp (N:Nat) (XC:LF) (Xj Xr:Int) (Xt h:LF) (r:Fl) (k0:Kz5) (k1:Int->Bool->Fl->Fl->LF->Bool):Bool:=
 (dj N XC Xj Xr Xt (λnr=>cond (nr != 0) (k0 nr) (pP N ((XC.length:Nat):Int) h r (λW4=>cond (W4 != 0) (k0 W4) (ah N (ft N h r ((XC.length:Nat):Int) XC Xj Xr Xt XC Xj Xr Xt h r (some 0) (some 0) (λZk YB=>PW N h XC Zk XC Xj Xr Xt h r (some 0) (some 0) YB (λZI XA=>TP N h XA XC Xj Xr Xt h r ZI (some 0) YB (λZ2 XS=>Gp N (ep Z2 r) XS XC Xj Xr Xt h r ZI (some 0) YB (λYT=>Qw N YT XC Xj Xr Xt h r ZI (ep Z2 r) YB (cond YT (k1 5 YT ZI (ep Z2 r) YB) (cond (!(fgt (ep Z2 r) (some 0))) (k1 153 YT ZI (ep Z2 r) YB) (k1 0 YT ZI (ep Z2 r) YB)))))))) (0,false,[]))))))
def iZ (N:Nat):LF->Int->Int->LF->LF->Fl->(Kz5)->(Int->Bool->Fl->Fl->LF->Bool)->Bool:=aw N (mp N)
def GQ4 (N:Nat) (x:Fl) (b:Bool) (W0:LF) (W2 W7:Int) (Xd Xe:LF) (Xn Xk Xw:Fl) (Xy W5:LF) (k0:Kz4):Bool:=
 (cond ((!feq x x)==false) (i6 N x 0 (λcr=>cond cr (k0 true) (k0 b))) (k0 true))
def sQ4 (N:Nat):Fl->Bool->LF->Int->Int->LF->LF->Fl->Fl->Fl->LF->LF->(Kz4)->Bool:=aw N (GQ4 N)
def GQ5 (N:Nat) (a b:Fl) (W0:Bool) (W2:LF) (W7 Xd:Int) (Xe Xn:LF) (Xk Xw Xy:Fl) (W5 Xo:LF) (k0:Ky7):Bool:=
 (sQ4 N (aF a b) W0 W2 W7 Xd Xe Xn Xk Xw Xy W5 Xo (λcr=>k0 (aF a b) cr))
def sQ5 (N:Nat):Fl->Fl->Bool->LF->Int->Int->LF->LF->Fl->Fl->Fl->LF->LF->(Ky7)->Bool:=aw N (GQ5 N)
def gu (N:Nat) (b:Bool) (W0:LF) (W2 W7:Int) (Xd Xe:LF) (Xn Xk Xw:Fl) (Xy W5:LF) (k0:Bool):Bool:=
 k0
def gQ (N:Nat):Bool->LF->Int->Int->LF->LF->Fl->Fl->Fl->LF->LF->(Bool)->Bool:=gu N
def oq (N:Nat) (XK W9 i:Int) (b:LF) (k0:Nat->Nat->Bool):Bool:=
 (ac .i64 (i*W9)&&(ac .i64 (i+1)&&(ac .i64 ((i+1)*W9)&&(decide (0<=(i*W9)/\(i*W9)<=((i+1)*W9)/\((i+1)*W9)<=((b.length:Nat):Int))&&k0 (Int.toNat (i*W9)) ((Int.toNat ((i+1)*W9)) - (Int.toNat (i*W9)))))))
def fD (N:Nat):Int->Int->Int->LF->(Nat->Nat->Bool)->Bool:=aw N (oq N)
def ki (N:Nat) (Yj t11 m X6:Int) (m_4:LF) (e0:Kz8):(Int × LF)->((Int × LF)->Bool)->Bool:=λv_ K=>match v_ with
 | (t12,out)=>(cond (decide (t12<t11)) (ac .i64 (t12*X6)&&(ac .i64 ((t12*X6)+Yj)&&(inR ((t12*X6)+Yj) m_4.length&&(inR t12 out.length&&(decide (t12.toNat<out.length)&&(ac .i64 (t12+1)&&K ((t12+1),(out.set t12.toNat (m_4.getD (Int.toNat ((t12*X6)+Yj)) none))))))))) (e0 out))
def qI (N:Nat) (XK W9:Int) (Xu:LF) (j:Int) (k0:Kz8):Bool:=
 (iW 8 XK XK&&ah N (ki N j (((List.length (List.replicate XK.toNat (some 0))):Nat):Int) XK W9 Xu (λXf=>k0 Xf)) (0,(List.replicate XK.toNat (some 0))))
def nV (N:Nat):Int->Int->LF->Int->(Kz8)->Bool:=aw N (qI N)
def Eb (N t10 YP:Nat) (t11:Int) (Xj:LF) (Xr Xt:Int) (X2 X5:LF) (Z8 YV Zl:Fl) (X7 XZ b3 b4:LF) (e0:Ky7):(Fl × Int × Bool)->((Fl × Int × Bool)->Bool)->Bool:=λv_ K=>match v_ with
 | (t,t12,s)=>(cond (decide (t12<t11)) (inR t12 YP&&(decide ((t10+t12.toNat)<X7.length)&&(inR t12 XZ.length&&(decide (t12.toNat<XZ.length)&&sQ5 N (X7.getD (t10+t12.toNat) none) (XZ.getD t12.toNat none) s Xj Xr Xt X2 X5 Z8 YV Zl b3 b4 (λxr cr=>sQ4 N (ep t xr) cr Xj Xr Xt X2 X5 Z8 YV Zl b3 b4 (λW3=>ac .i64 (t12+1)&&K ((ep t xr),(t12+1),W3))))))) (e0 t s))
def QY (N a_0 XP:Nat) (b:Bool) (W0:LF) (W2 W7:Int) (Xd Xe:LF) (Xn Xk Xw:Fl) (Xy W5 Xo XR:LF) (k0:Ky7):Bool:=
 (ah N (Eb N a_0 XP ((XP:Nat):Int) W0 W2 W7 Xd Xe Xn Xk Xw Xy W5 Xo XR (λt_1 b0=>k0 t_1 b0)) ((some 0),0,b))
def TH (N:Nat):Nat->Nat->Bool->LF->Int->Int->LF->LF->Fl->Fl->Fl->LF->LF->LF->LF->(Ky7)->Bool:=aw N (QY N)
def bM (N:Nat) (Yi acH ZR YC:Int) (abi:LF) (abj abk:Int) (abl abm:LF) (abn abo abp:Fl) (aay Xl XD:LF) (a_5 a_6 aaz Z4:Int) (Z5:LF) (aaZ aa0 acA acB:Int) (e0:Ky8):(Int × Bool × LF)->((Int × Bool × LF)->Bool)->Bool:=λv_ K=>match v_ with
 | (Yh,ae1,b8)=>(cond (decide (Yh<YC)) (fD N a_5 a_6 Yi aay (λXF ad4=>nV N aaz Z4 Z5 Yh (λXM=>TH N XF ad4 ae1 abi abj abk abl abm abn abo abp aay XM Xl XD (λYe W3=>decide ((List.length (b8++[Ye]))*8<=140737488355328)&&(ac .i64 (Yh+1)&&K ((Yh+1),W3,(b8++[Ye]))))))) (e0 ae1 b8))
def bL (N:Nat) (abz:Int) (abq:LF) (abr abt:Int) (abu abv:LF) (abw abx aby:Fl) (aep Zd ZO:LF) (a_7 a_8 abQ abe:Int) (abR:LF) (Zy Zz abg abh:Int) (e0:Ky8):(Int × Bool × LF)->((Int × Bool × LF)->Bool)->Bool:=λv_ K=>match v_ with
 | (YG,ae2,ahA)=>(cond (decide (YG<abz)) (ah N (bM N YG abz YG abe abq abr abt abu abv abw abx aby aep Zd ZO a_7 a_8 abQ abe abR Zy Zz abg abh (λagl ahZ=>ac .i64 (YG+1)&&K ((YG+1),agl,ahZ))) (0,ae2,ahA)) (e0 ae2 ahA))
def dz (N:Nat) (a_0 XP b_0 W0:Int) (W2:LF) (b:Bool) (W7:LF) (Xd Xe:Int) (Xn Xk:LF) (Xw Xy W5:Fl) (Xo XR XZ:LF) (k0:Ky8):Bool:=
 (ah N (bL N a_0 W7 Xd Xe Xn Xk Xw Xy W5 Xo XR XZ a_0 XP b_0 W0 W2 0 0 a_0 W0 (λb0 b6=>k0 b0 b6)) (0,b,[]))
def dF (N:Nat):Int->Int->Int->Int->LF->Bool->LF->Int->Int->LF->LF->Fl->Fl->Fl->LF->LF->LF->(Ky8)->Bool:=aw N (dz N)
def Ea (N Yw YF t10 YP:Nat) (t11:Int) (Xj:LF) (Xr Xt:Int) (X2 X5:LF) (Z8 YV Zl:Fl) (X7 Ya b3 b4:LF) (e0:Ky7):(Fl × Int × Bool)->((Fl × Int × Bool)->Bool)->Bool:=λv_ K=>match v_ with
 | (t,t12,s)=>(cond (decide (t12<t11)) (inR t12 YP&&(decide ((t10+t12.toNat)<X7.length)&&(inR t12 YF&&(decide ((Yw+t12.toNat)<Ya.length)&&sQ5 N (X7.getD (t10+t12.toNat) none) (Ya.getD (Yw+t12.toNat) none) s Xj Xr Xt X2 X5 Z8 YV Zl b3 b4 (λxr cr=>sQ4 N (ep t xr) cr Xj Xr Xt X2 X5 Z8 YV Zl b3 b4 (λW3=>ac .i64 (t12+1)&&K ((ep t xr),(t12+1),W3))))))) (e0 t s))
def QX (N a_0 XP b_0 W0:Nat) (b:Bool) (W2:LF) (W7 Xd:Int) (Xe Xn:LF) (Xk Xw Xy:Fl) (W5 Xo XR XZ:LF) (k0:Ky7):Bool:=
 (ah N (Ea N b_0 W0 a_0 XP ((XP:Nat):Int) W2 W7 Xd Xe Xn Xk Xw Xy W5 Xo XR XZ (λt_1 b0=>k0 t_1 b0)) ((some 0),0,b))
def TG (N:Nat):Nat->Nat->Nat->Nat->Bool->LF->Int->Int->LF->LF->Fl->Fl->Fl->LF->LF->LF->LF->(Ky7)->Bool:=aw N (QX N)
def bv (N:Nat) (i j b W0 W2 W7:Int) (Xd:Bool) (Xe:LF) (Xn Xk:Int) (Xw Xy:LF) (W5 Xo XR:Fl) (XZ Yw YF Ya:LF) (k0:Ky7):Bool:=
 (fD N b W0 i XZ (λmr Yk=>fD N W2 W7 j Yw (λXF ad4=>TG N mr Yk XF ad4 Xd Xe Xn Xk Xw Xy W5 Xo XR XZ Yw YF Ya (λxr cr=>inR i Ya.length&&(decide (i.toNat<Ya.length)&&sQ5 N (Ya.getD i.toNat none) W5 cr Xe Xn Xk Xw Xy W5 Xo XR YF Ya (λYe W3=>inR j Ya.length&&(decide (j.toNat<Ya.length)&&sQ5 N Ye (Ya.getD j.toNat none) W3 Xe Xn Xk Xw Xy W5 Xo XR YF Ya (λZI XA=>sQ4 N (ep xr ZI) XA Xe Xn Xk Xw Xy W5 Xo XR YF Ya (λXS=>k0 (ep xr ZI) XS)))))))))
def bw (N:Nat):Int->Int->Int->Int->Int->Int->Bool->LF->Int->Int->LF->LF->Fl->Fl->Fl->LF->LF->LF->LF->(Ky7)->Bool:=aw N (bv N)
def bu (N:Nat) (X_ i YQ Yo t21 aa9 aa_ aba abb:Int) (ZM:LF) (ZN abc:Int) (YX abV:LF) (afR afS afT:Fl) (acr XY abO abP:LF) (Zt Zu Yc YO:Int) (e0:Ky8):(Int × Bool × LF)->((Int × Bool × LF)->Bool)->Bool:=λv_ K=>match v_ with
 | (t22,aer,ad_)=>(cond (decide (t22<t21)) (bw N i t22 aa9 aa_ aba abb aer ZM ZN abc YX abV afR afS afT acr XY abO abP (λxr cr=>ac .i64 (i*X_)&&(ac .i64 ((i*X_)+t22)&&(ac .i64 (t22*X_)&&(ac .i64 ((t22*X_)+i)&&(inR ((i*X_)+t22) ad_.length&&(decide ((Int.toNat ((i*X_)+t22))<ad_.length)&&(inR ((t22*X_)+i) (List.length (ad_.set (Int.toNat ((i*X_)+t22)) xr))&&(decide ((Int.toNat ((t22*X_)+i))<(List.length (ad_.set (Int.toNat ((i*X_)+t22)) xr)))&&(ac .i64 (t22+1)&&K ((t22+1),cr,(List.set (ad_.set (Int.toNat ((i*X_)+t22)) xr) (Int.toNat ((t22*X_)+i)) xr)))))))))))) (e0 aer ad_))
def bt (N:Nat) (XT t16 at_ YW aa7 aa8:Int) (YZ:LF) (XD ZO:Int) (acq aeq:LF) (abd aeS acd:Fl) (b4 b5 b6 b7:LF) (t4 ZH out Xf:Int) (e0:Ky8):(Int × Bool × LF)->((Int × Bool × LF)->Bool)->Bool:=λv_ K=>match v_ with
 | (t17,b3,b10)=>(cond (decide (t17<t16)) (ac .i64 (t17+1)&&ah N (bu N XT t17 t16 t17 (t17+1) at_ YW aa7 aa8 YZ XD ZO acq aeq abd aeS acd b4 b5 b6 b7 t4 ZH out Xf (λahw ahr=>ac .i64 (t17+1)&&K ((t17+1),ahw,ahr))) (0,b3,b10)) (e0 b3 b10))
def cD (N:Nat) (n b W0 W2 W7:Int) (Xd:Bool) (Xe:LF) (Xn Xk:Int) (Xw Xy:LF) (W5 Xo XR:Fl) (XZ Yw YF Ya:LF) (k0:Ky8):Bool:=
 (ac .i64 (n*n)&&(iW 8 (n*n) (n*n)&&ah N (bt N n n b W0 W2 W7 Xe Xn Xk Xw Xy W5 Xo XR XZ Yw YF Ya 0 0 n n (λahx ahs=>k0 ahx ahs)) (0,Xd,(List.replicate (Int.toNat (n*n)) (some 0)))))
def cG (N:Nat):Int->Int->Int->Int->Int->Bool->LF->Int->Int->LF->LF->Fl->Fl->Fl->LF->LF->LF->LF->(Ky8)->Bool:=aw N (cD N)
def bC (N:Nat) (X_ Yi ZR ago YC:Int) (acj:LF) (ack acl:Int) (acm ZL:LF) (acn aco acp:Fl) (aay Xl:LF) (ag7 ag8 a_4 a_5:Int) (e0:Ky8):(Int × Bool × LF)->((Int × Bool × LF)->Bool)->Bool:=λv_ K=>match v_ with
 | (Yh,agd,b6)=>(cond (decide (Yh<YC)) (cond (Yi==Yh) (inR Yi Xl.length&&(decide (Yi.toNat<Xl.length)&&(inR Yh ZL.length&&sQ5 N (Xl.getD Yi.toNat none) (ZL.getD Yh.toNat none) agd acj ack acl acm ZL acn aco acp aay Xl (λYe XA=>sQ4 N (iS (some 4607182418800017408) Ye) XA acj ack acl acm ZL acn aco acp aay Xl (λXS=>decide ((List.length (b6++[(iS (some 4607182418800017408) Ye)]))*8<=140737488355328)&&(ac .i64 (Yh+1)&&K ((Yh+1),XS,(b6++[(iS (some 4607182418800017408) Ye)])))))))) (inR Yi Xl.length&&(decide (Yi.toNat<Xl.length)&&(inR Yh ZL.length&&sQ5 N (Xl.getD Yi.toNat none) (ZL.getD Yh.toNat none) agd acj ack acl acm ZL acn aco acp aay Xl (λZI YT=>sQ4 N (iS (some 0) ZI) YT acj ack acl acm ZL acn aco acp aay Xl (λacu=>decide ((List.length (b6++[(iS (some 0) ZI)]))*8<=140737488355328)&&(ac .i64 (Yh+1)&&K ((Yh+1),acu,(b6++[(iS (some 0) ZI)]))))))))) (e0 agd b6))
def bB (N:Nat) (n_3 YG:Int) (afB:LF) (afC afD:Int) (afE afF:LF) (afG afH afI:Fl) (aep Zd:LF) (agJ agK a_6 a_7:Int) (e0:Ky8):(Int × Bool × LF)->((Int × Bool × LF)->Bool)->Bool:=λv_ K=>match v_ with
 | (ae4,agO,ahy)=>(cond (decide (ae4<YG)) (ah N (bC N n_3 ae4 YG ae4 n_3 afB afC afD afE afF afG afH afI aep Zd agJ agK a_6 a_7 (λahp ahW=>ac .i64 (ae4+1)&&K ((ae4+1),ahp,ahW))) (0,agO,ahy)) (e0 agO ahy))
def cQ (N:Nat) (b:Bool) (W0:LF) (W2 W7:Int) (Xd Xe:LF) (Xn Xk Xw:Fl) (Xy W5:LF) (k0:Kx7):Bool:=
 (ah N (bB N ((Xe.length:Nat):Int) ((Xe.length:Nat):Int) W0 W2 W7 Xd Xe Xn Xk Xw Xy W5 0 0 ((Xe.length:Nat):Int) ((Xe.length:Nat):Int) (λahq ahz=>dF N ((Xe.length:Nat):Int) ((Xe.length:Nat):Int) W2 W7 Xd ahq W0 W2 W7 Xd Xe Xn Xk Xw ahz Xy W5 (λacv xsr=>cG N ((Xe.length:Nat):Int) ((Xe.length:Nat):Int) W7 ((Xe.length:Nat):Int) ((Xe.length:Nat):Int) acv W0 W2 W7 Xd Xe Xn Xk Xw xsr ahz Xy W5 (λacw XM=>k0 ((Xe.length:Nat):Int) ((Xe.length:Nat):Int) acw XM)))) (0,b,[]))
def cT (N:Nat):Bool->LF->Int->Int->LF->LF->Fl->Fl->Fl->LF->LF->(Kx7)->Bool:=aw N (cQ N)
def OK (N:Nat) (b:Bool) (W0:LF) (W2 W7:Int) (Xd Xe:LF) (Xn Xk Xw:Fl) (Xy W5:LF) (k0:Bool):Bool:=
 k0
def TL (N:Nat):Bool->LF->Int->Int->LF->LF->Fl->Fl->Fl->LF->LF->(Bool)->Bool:=aw N (OK N)
def bT (N:Nat) (p_0 Z9:Int) (b:Bool) (W0:LF) (W2 W7:Int) (Xd Xe:LF) (Xn Xk Xw:Fl) (Xy W5 Xo XR:LF) (k0:Ky2) (k1:Kz5):Bool:=
 (TL N b W0 W2 W7 Xd Xe Xn Xk Xw Xo XR (cond b (k0 0 0 5) (bV N p_0 Z9 W5 (λcr=>cond (!cr) (k0 0 0 151) (k1 0)))))
def bU (N:Nat):Int->Int->Bool->LF->Int->Int->LF->LF->Fl->Fl->Fl->LF->LF->LF->LF->(Ky2)->(Kz5)->Bool:=aw N (bT N)
def dn (N:Nat) (X0:Fl) (ac2:Int) (YV:LF) (Zl s_9:Int) (ad6:LF) (X7 acD:Int) (acE acF acG:Fl) (ZB:LF) (Yy Zj:Int) (Yz Yu:LF) (Zk ZC Yd:Fl) (XY:LF) (e0:Bool->LF->LF->Bool):(Int × Bool × LF × LF)->((Int × Bool × LF × LF)->Bool)->Bool:=λv_ K=>match v_ with
 | (Xs,abJ,Xm,b6)=>(cond (decide (Xs<ac2)) (inR Xs XY.length&&(decide (Xs.toNat<XY.length)&&sQ4 N (fdiv (XY.getD Xs.toNat none) Yd) abJ ZB Yy Zj Yz Yu Zk ZC Yd XY b6 (λc8=>decide ((List.length (b6++[(fdiv (XY.getD Xs.toNat none) Yd)]))*8<=140737488355328)&&(inR Xs YV.length&&(inR Xs (List.length (b6++[(fdiv (XY.getD Xs.toNat none) Yd)]))&&(decide (Xs.toNat<(List.length (b6++[(fdiv (XY.getD Xs.toNat none) Yd)])))&&sQ5 N (List.getD (b6++[(fdiv (XY.getD Xs.toNat none) Yd)]) Xs.toNat none) X0 c8 ZB Yy Zj Yz Yu Zk ZC Yd XY (b6++[(fdiv (XY.getD Xs.toNat none) Yd)]) (λZ2 c9=>sQ4 N (ep (YV.getD Xs.toNat none) Z2) c9 ZB Yy Zj Yz Yu Zk ZC Yd XY (b6++[(fdiv (XY.getD Xs.toNat none) Yd)]) (λc10=>inR Xs Xm.length&&(decide (Xs.toNat<Xm.length)&&(ac .i64 (Xs+1)&&K ((Xs+1),c10,(Xm.set Xs.toNat (ep (YV.getD Xs.toNat none) Z2)),(b6++[(fdiv (XY.getD Xs.toNat none) Yd)])))))))))))) (e0 abJ Xm b6))
def u_ (N:Nat) (XC:LF) (Xj Xr:Int) (Xt h:LF) (r z ZJ aeC:Fl) (aia:Bool) (aib ahe:Fl) (b3 ahV agZ abO:LF) (t_2 t_3:Int) (k0:Kx2) (k1:Kx1) (k2:Kx0):Bool:=
 (k2 t_2 t_3 ZJ ahe aeC 0 b3 abO agZ)
def u9 (N:Nat) (XC:LF) (Xj Xr:Int) (Xt h:LF) (r z YS score:Fl) (ah9:Bool) (ah_ ahd:Fl) (acr afj:LF) (t t_1:Int) (k0:Kx2) (k1:Kx1) (k2:Kx0):Bool:=
 (k1 t t_1 YS ahd score 0 afj)
def ju (N:Nat) (XC:LF) (Xj Xr:Int) (Xt h:LF) (r z:Fl) (e_2:Int) (u:Bool) (XU Yg:Fl) (b4:LF) (k0:Kx2) (k1:Kx1) (k2:Kx0):Bool:=
 (cond (e_2 != 0) (k0 0 0 (some 0) (some 0) (some 0) e_2) (Gp N (iS z XU) u XC Xj Xr Xt h r XU Yg b4 (λYT=>iW 8 ((h.length:Nat):Int) ((h.length:Nat):Int)&&ah N (dn N (iS z XU) (((List.length (List.replicate (Int.toNat ((h.length:Nat):Int)) (some 0))):Nat):Int) XC Xj Xr Xt 0 0 (some 0) (some 0) (some 0) XC Xj Xr Xt h r XU Yg b4 (λahc XV Ze=>sQ5 N (iS z XU) (iS z XU) ahc XC Xj Xr Xt h r XU Yg b4 Ze (λacg c11=>sQ4 N (fdiv acg Yg) c11 XC Xj Xr Xt h r XU Yg b4 Ze (λc12=>gQ N c12 XC Xj Xr Xt h r XU Yg b4 Ze (cT N c12 XC Xj Xr Xt h r XU Yg b4 Ze (λW_ Xx c13 XM=>bU N W_ Xx c13 XC Xj Xr Xt h r XU Yg XV XM b4 Ze (λXJ n5 n6=>cond (n6 != 0) (k0 0 0 (some 0) (some 0) (some 0) n6) (u9 N XC Xj Xr Xt h r z (iS z XU) (fdiv acg Yg) c13 XU Yg b4 Ze XJ n5 k0 k1 k2)) (λn7=>cond (n7 != 0) (k0 0 0 (some 0) (some 0) (some 0) n7) (u_ N XC Xj Xr Xt h r z (iS z XU) (fdiv acg Yg) c13 XU Yg XV b4 Ze XM W_ Xx k0 k1 k2)))))))) (0,YT,(List.replicate (Int.toNat ((h.length:Nat):Int)) (some 0)),[]))))
def u7 (N:Nat) (XC:LF) (Xj Xr:Int) (Xt h:LF) (r z:Fl) (e_1:Int) (k0:Kx2) (k1:Kx1) (k2:Kx0):Bool:=
 (cond (e_1 != 0) (k0 0 0 (some 0) (some 0) (some 0) e_1) false)
def jt (N:Nat) (XC:LF) (Xj Xr:Int) (Xt h:LF) (r z:Fl) (e:Int) (k0:Kx2) (k1:Kx1) (k2:Kx0):Bool:=
 (cond (e != 0) (k0 0 0 (some 0) (some 0) (some 0) e) false)
def kR (N:Nat) (XC:LF) (Xj Xr:Int) (Xt h:LF) (r z:Fl) (k0:Kx2) (k1:Kx1) (k2:Kx0):Bool:=
 (iZ N XC Xj Xr Xt h r (λnr=>cond ((nr==0)==false) (jt N XC Xj Xr Xt h r z nr k0 k1 k2) (vh N [z] (λW3=>cond (!W3) (k0 0 0 (some 0) (some 0) (some 0) 4) (u7 N XC Xj Xr Xt h r z nr k0 k1 k2)))) (λW4 cr xr Ye xsr=>cond ((W4==0)==false) (vh N [z] (λXA=>cond (!XA) (k0 0 0 (some 0) (some 0) (some 0) 4) (ju N XC Xj Xr Xt h r z W4 cr xr Ye xsr k0 k1 k2))) (vh N [z] (λXS=>cond (!XS) (k0 0 0 (some 0) (some 0) (some 0) 4) (ju N XC Xj Xr Xt h r z W4 cr xr Ye xsr k0 k1 k2)))))
def lE (N:Nat):LF->Int->Int->LF->LF->Fl->Fl->(Kx2)->(Kx1)->(Kx0)->Bool:=aw N (kR N)
def np (N:Nat) (XC:LF) (Xj Xr:Int) (Xt h:LF) (r z:Fl) (k0:Kx2) (k1:Kx1) (k2:Kx0):Bool:=
 (lE N XC Xj Xr Xt h r z (λnr W4 xr Ye ZI W_=>k0 nr W4 xr Ye ZI W_) (λXx XJ Z2 acg agN n5 xsr=>k1 Xx XJ Z2 acg agN n5 xsr) (λn6 n7 agy agz agA n8 XM YR ZG=>k2 n6 n7 agy agz agA n8 XM YR ZG))
def kf (N:Nat):LF->Int->Int->LF->LF->Fl->Fl->(Kx2)->(Kx1)->(Kx0)->Bool:=aw N (np N)
def Ui (N:Nat) (k0:Kz4):Bool:=
 (kf N [(some 0)] 1 1 [(some 4616189618054758400)] [(some 4607182418800017408)] (some 4607182418800017408) (some 4617315517961601024) (λnr W4 xr Ye ZI W_=>cond ((W_==0)==true) (k0 false) (k0 false)) (λXx XJ Z2 acg agN n5 xsr=>cond ((n5==0)==true) (k0 false) (k0 false)) (λn6 n7 agy agz agA n8 XM YR ZG=>cond ((n8==0)==true) (cond ((((XM.length:Nat):Int)==1)==true) (inR 0 XM.length&&(decide (0<XM.length)&&cond ((feq (XM.getD 0 none) (some 4616189618054758400))==true) (cond ((feq agz (some 4617315517961601024))==true) (cond ((feq agy (some 4617315517961601024))==true) (cond ((feq agA (some 4617315517961601024))==true) (dj N [(some 0)] 1 1 [(some 4616189618054758400)] (λn9=>k0 (n9==0))) (k0 false)) (k0 false)) (k0 false)) (k0 false))) (k0 false)) (k0 false)))
def PP (N:Nat):(Kz4)->Bool:=aw N (Ui N)
def Vc (N:Nat) (b:Int) (k0:Kz7):Bool:=
 (Be N b (λxr=>k0 xr))
def DZ (N:Nat):Int->(Kz7)->Bool:=Vc N
def gY (N:Nat) (b:Bool) (W0:LF) (W2 W7:Int) (Xd Xe:LF) (Xn Xk Xw:Fl) (Xy W5:LF) (k0:Bool):Bool:=
 k0
def iL (N:Nat):Bool->LF->Int->Int->LF->LF->Fl->Fl->Fl->LF->LF->(Bool)->Bool:=gY N
def cb (N:Nat) (i j b:Int) (W0:Bool) (W2:LF) (W7 Xd:Int) (Xe Xn:LF) (Xk Xw Xy:Fl) (W5 Xo:LF) (k0:Ky7):Bool:=
 (ac .i64 (i*b)&&(ac .i64 ((i*b)+j)&&(inR ((i*b)+j) Xe.length&&(inR i Xo.length&&(decide (i.toNat<Xo.length)&&(inR j W5.length&&(decide (j.toNat<W5.length)&&sQ5 N (Xo.getD i.toNat none) (W5.getD j.toNat none) W0 W2 W7 Xd Xe Xn Xk Xw Xy W5 Xo (λxr cr=>sQ4 N (iS (Xe.getD (Int.toNat ((i*b)+j)) none) xr) cr W2 W7 Xd Xe Xn Xk Xw Xy W5 Xo (λW3=>k0 (iS (Xe.getD (Int.toNat ((i*b)+j)) none) xr) W3)))))))))
def cl (N:Nat):Int->Int->Int->Bool->LF->Int->Int->LF->LF->Fl->Fl->Fl->LF->LF->(Ky7)->Bool:=aw N (cb N)
def bK (N:Nat) (X_ i YQ Yo t21 YW:Int) (afJ:LF) (afK afL:Int) (afM afN:LF) (afO afP afQ:Fl) (YZ acr:LF) (Zt Zu Yc YO:Int) (e0:Ky8):(Int × Bool × LF)->((Int × Bool × LF)->Bool)->Bool:=λv_ K=>match v_ with
 | (t22,ahv,abP)=>(cond (decide (t22<t21)) (cl N i t22 YW ahv afJ afK afL afM afN afO afP afQ YZ acr (λxr cr=>ac .i64 (i*X_)&&(ac .i64 ((i*X_)+t22)&&(ac .i64 (t22*X_)&&(ac .i64 ((t22*X_)+i)&&(inR ((i*X_)+t22) abP.length&&(decide ((Int.toNat ((i*X_)+t22))<abP.length)&&(inR ((t22*X_)+i) (List.length (abP.set (Int.toNat ((i*X_)+t22)) xr))&&(decide ((Int.toNat ((t22*X_)+i))<(List.length (abP.set (Int.toNat ((i*X_)+t22)) xr)))&&(ac .i64 (t22+1)&&K ((t22+1),cr,(List.set (abP.set (Int.toNat ((i*X_)+t22)) xr) (Int.toNat ((t22*X_)+i)) xr)))))))))))) (e0 ahv abP))
def bJ (N:Nat) (XT t16 at_:Int) (YB:LF) (Xl Zd:Int) (aeR adW:LF) (agE agF agG:Fl) (b3 b4:LF) (t4 ZH out Xf:Int) (e0:Ky8):(Int × Bool × LF)->((Int × Bool × LF)->Bool)->Bool:=λv_ K=>match v_ with
 | (t17,b2,b7)=>(cond (decide (t17<t16)) (ac .i64 (t17+1)&&ah N (bK N XT t17 t16 t17 (t17+1) at_ YB Xl Zd aeR adW agE agF agG b3 b4 t4 ZH out Xf (λaht ahX=>ac .i64 (t17+1)&&K ((t17+1),aht,ahX))) (0,b2,b7)) (e0 b2 b7))
def dy (N:Nat) (n b:Int) (W0:Bool) (W2:LF) (W7 Xd:Int) (Xe Xn:LF) (Xk Xw Xy:Fl) (W5 Xo:LF) (k0:Ky8):Bool:=
 (ac .i64 (n*n)&&(iW 8 (n*n) (n*n)&&ah N (bJ N n n b W2 W7 Xd Xe Xn Xk Xw Xy W5 Xo 0 0 n n (λahu ahY=>k0 ahu ahY)) (0,W0,(List.replicate (Int.toNat (n*n)) (some 0)))))
def dE (N:Nat):Int->Int->Bool->LF->Int->Int->LF->LF->Fl->Fl->Fl->LF->LF->(Ky8)->Bool:=aw N (dy N)
def cY (N:Nat) (b:Bool) (W0:LF) (W2 W7:Int) (Xd Xe:LF) (Xn Xk Xw:Fl) (Xy W5:LF) (k0:Kx7):Bool:=
 (dE N ((Xe.length:Nat):Int) ((Xe.length:Nat):Int) b W0 W2 W7 Xd Xe Xn Xk Xw Xy W5 (λcr xsr=>k0 ((Xe.length:Nat):Int) ((Xe.length:Nat):Int) cr xsr))
def dk (N:Nat):Bool->LF->Int->Int->LF->LF->Fl->Fl->Fl->LF->LF->(Kx7)->Bool:=aw N (cY N)
def fS (N:Nat) (X0:Fl) (ac2:Int) (YV:LF) (Zl s_9:Int) (ad6:LF) (X7 acD:Int) (acE acF acG:Fl) (ZB:LF) (Yy Zj:Int) (Yz Yu:LF) (Zk ZC Yd:Fl) (XY:LF) (e0:Bool->LF->LF->Bool):(Int × Bool × LF × LF)->((Int × Bool × LF × LF)->Bool)->Bool:=λv_ K=>match v_ with
 | (Xs,abJ,Xm,b6)=>(cond (decide (Xs<ac2)) (inR Xs XY.length&&(decide (Xs.toNat<XY.length)&&sQ4 N (fdiv (XY.getD Xs.toNat none) Yd) abJ ZB Yy Zj Yz Yu Zk ZC Yd XY b6 (λc8=>decide ((List.length (b6++[(fdiv (XY.getD Xs.toNat none) Yd)]))*8<=140737488355328)&&(inR Xs YV.length&&(inR Xs (List.length (b6++[(fdiv (XY.getD Xs.toNat none) Yd)]))&&(decide (Xs.toNat<(List.length (b6++[(fdiv (XY.getD Xs.toNat none) Yd)])))&&sQ5 N (List.getD (b6++[(fdiv (XY.getD Xs.toNat none) Yd)]) Xs.toNat none) X0 c8 ZB Yy Zj Yz Yu Zk ZC Yd XY (b6++[(fdiv (XY.getD Xs.toNat none) Yd)]) (λZ2 c9=>sQ4 N (ep (YV.getD Xs.toNat none) Z2) c9 ZB Yy Zj Yz Yu Zk ZC Yd XY (b6++[(fdiv (XY.getD Xs.toNat none) Yd)]) (λc10=>inR Xs Xm.length&&(decide (Xs.toNat<Xm.length)&&(ac .i64 (Xs+1)&&K ((Xs+1),c10,(Xm.set Xs.toNat (ep (YV.getD Xs.toNat none) Z2)),(b6++[(fdiv (XY.getD Xs.toNat none) Yd)])))))))))))) (e0 abJ Xm b6))
def sk (N:Nat) (XC:LF) (Xj Xr:Int) (Xt h:LF) (r z ZJ aeC:Fl) (aia:Bool) (aib ahe:Fl) (b3 ahV agZ abO:LF) (t_2 t_3:Int) (k0:Kx2) (k1:Kx1) (k2:Kx0):Bool:=
 (k2 t_2 t_3 ZJ ahe aeC 0 b3 abO agZ)
def sj (N:Nat) (XC:LF) (Xj Xr:Int) (Xt h:LF) (r z YS score:Fl) (ah9:Bool) (ah_ ahd:Fl) (acr afj:LF) (t t_1:Int) (k0:Kx2) (k1:Kx1) (k2:Kx0):Bool:=
 (k1 t t_1 YS ahd score 0 afj)
def gp (N:Nat) (XC:LF) (Xj Xr:Int) (Xt h:LF) (r z:Fl) (e_2:Int) (u:Bool) (XU Yg:Fl) (b4:LF) (k0:Kx2) (k1:Kx1) (k2:Kx0):Bool:=
 (cond (e_2 != 0) (k0 0 0 (some 0) (some 0) (some 0) e_2) (Gp N (iS z XU) u XC Xj Xr Xt h r XU Yg b4 (λYT=>iW 8 ((h.length:Nat):Int) ((h.length:Nat):Int)&&ah N (fS N (iS z XU) (((List.length (List.replicate (Int.toNat ((h.length:Nat):Int)) (some 0))):Nat):Int) XC Xj Xr Xt 0 0 (some 0) (some 0) (some 0) XC Xj Xr Xt h r XU Yg b4 (λahc XV Ze=>sQ5 N (iS z XU) (iS z XU) ahc XC Xj Xr Xt h r XU Yg b4 Ze (λacg c11=>sQ4 N (fdiv acg Yg) c11 XC Xj Xr Xt h r XU Yg b4 Ze (λc12=>iL N c12 XC Xj Xr Xt h r XU Yg b4 Ze (dk N c12 XC Xj Xr Xt h r XU Yg b4 Ze (λW_ Xx c13 XM=>bU N W_ Xx c13 XC Xj Xr Xt h r XU Yg XV XM b4 Ze (λXJ n5 n6=>cond (n6 != 0) (k0 0 0 (some 0) (some 0) (some 0) n6) (sj N XC Xj Xr Xt h r z (iS z XU) (fdiv acg Yg) c13 XU Yg b4 Ze XJ n5 k0 k1 k2)) (λn7=>cond (n7 != 0) (k0 0 0 (some 0) (some 0) (some 0) n7) (sk N XC Xj Xr Xt h r z (iS z XU) (fdiv acg Yg) c13 XU Yg XV b4 Ze XM W_ Xx k0 k1 k2)))))))) (0,YT,(List.replicate (Int.toNat ((h.length:Nat):Int)) (some 0)),[]))))
def si (N:Nat) (XC:LF) (Xj Xr:Int) (Xt h:LF) (r z:Fl) (e_1:Int) (k0:Kx2) (k1:Kx1) (k2:Kx0):Bool:=
 (cond (e_1 != 0) (k0 0 0 (some 0) (some 0) (some 0) e_1) false)
def gl (N:Nat) (XC:LF) (Xj Xr:Int) (Xt h:LF) (r z:Fl) (e:Int) (k0:Kx2) (k1:Kx1) (k2:Kx0):Bool:=
 (cond (e != 0) (k0 0 0 (some 0) (some 0) (some 0) e) false)
def jr (N:Nat) (XC:LF) (Xj Xr:Int) (Xt h:LF) (r z:Fl) (k0:Kx2) (k1:Kx1) (k2:Kx0):Bool:=
 (iZ N XC Xj Xr Xt h r (λnr=>cond ((nr==0)==false) (gl N XC Xj Xr Xt h r z nr k0 k1 k2) (vh N [z] (λW3=>cond (!W3) (k0 0 0 (some 0) (some 0) (some 0) 4) (si N XC Xj Xr Xt h r z nr k0 k1 k2)))) (λW4 cr xr Ye xsr=>cond ((W4==0)==false) (vh N [z] (λXA=>cond (!XA) (k0 0 0 (some 0) (some 0) (some 0) 4) (gp N XC Xj Xr Xt h r z W4 cr xr Ye xsr k0 k1 k2))) (vh N [z] (λXS=>cond (!XS) (k0 0 0 (some 0) (some 0) (some 0) 4) (gp N XC Xj Xr Xt h r z W4 cr xr Ye xsr k0 k1 k2)))))
def jy (N:Nat):LF->Int->Int->LF->LF->Fl->Fl->(Kx2)->(Kx1)->(Kx0)->Bool:=aw N (jr N)
def om (N:Nat) (XC:LF) (Xj Xr:Int) (Xt h:LF) (r z:Fl) (k0:Kx2) (k1:Kx1) (k2:Kx0):Bool:=
 (jy N XC Xj Xr Xt h r z (λnr W4 xr Ye ZI W_=>k0 nr W4 xr Ye ZI W_) (λXx XJ Z2 acg agN n5 xsr=>k1 Xx XJ Z2 acg agN n5 xsr) (λn6 n7 agy agz agA n8 XM YR ZG=>k2 n6 n7 agy agz agA n8 XM YR ZG))
def iK (N:Nat):LF->Int->Int->LF->LF->Fl->Fl->(Kx2)->(Kx1)->(Kx0)->Bool:=aw N (om N)
def sK (N:Nat) (rows cols n:Int) (k0:Kz5):Bool:=
 (cond ((decide (rows<0))==false) (cond ((decide (rows>12))==false) (cond ((decide (cols<0))==false) (cond (decide (cols>12)) (k0 1) (ac .i64 (rows*cols)&&cond (n != (rows*cols)) (k0 3) (k0 0))) (k0 1)) (k0 1)) (k0 1))
def tV (N:Nat):Int->Int->Int->(Kz5)->Bool:=aw N (sK N)
def zS (N:Nat) (x:Fl) (k0:Kz5):Bool:=
 (cond (!feq x x) (k0 9221120237041090561) (CW N x (λnr=>k0 nr)))
def oP (N:Nat):Fl->(Kz5)->Bool:=zS N
def sI (N:Nat) (x:Fl) (k0:Ky0):Bool:=
 (oP N x (λnr=>ac .i64 (Int.tmod (Int.fdiv nr (2 ^ 52)) 2048)&&k0 ((Int.fdiv nr (2 ^ 63))==1) (Int.tmod (Int.fdiv nr (2 ^ 52)) 2048) (Int.tmod nr 4503599627370496)))
def pE (N:Nat):Fl->(Ky0)->Bool:=aw N (sI N)
def Ma (N:Nat) (exp frac most:Int) (k0:Kz5):Bool:=
 (cond ((exp==most)==true) (cond (frac != 0) (k0 1) (cond (exp==most) (k0 2) (cond ((exp==0)==true) (cond (frac==0) (k0 3) (cond (exp==0) (k0 4) (k0 5))) (cond (exp==0) (k0 4) (k0 5))))) (cond (exp==most) (k0 2) (cond ((exp==0)==true) (cond (frac==0) (k0 3) (cond (exp==0) (k0 4) (k0 5))) (cond (exp==0) (k0 4) (k0 5)))))
def QB (N:Nat):Int->Int->Int->(Kz5)->Bool:=aw N (Ma N)
def ym (N:Nat) (x:Fl) (k0:Kz5):Bool:=
 (pE N x (λcr nr W4=>QB N nr W4 2047 (λW_=>k0 W_)))
def tR (N:Nat):Fl->(Kz5)->Bool:=ym N
def wM (N:Nat) (x:Fl) (k0:Kz4):Bool:=
 (tR N x (λnr=>k0 (decide (nr>2))))
def rB (N:Nat):Fl->(Kz4)->Bool:=wM N
def fV (N:Nat) (t5:LF) (t6:Int) (e0:Kz4) (e1:Bool):(Int)->((Int)->Bool)->Bool:=λv_ K=>match v_ with
 | t7=>(cond (decide (t7<t6)) (inR t7 t5.length&&rB N (t5.getD t7.toNat none) (λcr=>cond (!cr) (e0 false) (ac .i64 (t7+1)&&K (t7+1)))) e1)
def LB (N:Nat) (l:LF) (k0:Kz4):Bool:=
 (ah N (fV N l ((l.length:Nat):Int) (λt2=>k0 t2) (k0 true)) 0)
def N3 (N:Nat):LF->(Kz4)->Bool:=aw N (LB N)
def vK (N:Nat) (XK W9:Int) (Xu:LF) (k0:Kz5):Bool:=
 (tV N XK W9 ((Xu.length:Nat):Int) (λnr=>cond (nr != 0) (k0 nr) (N3 N Xu (λcr=>cond (!cr) (k0 4) (k0 0)))))
def rC (N:Nat):Int->Int->LF->(Kz5)->Bool:=aw N (vK N)
def lV (N:Nat) (e0:Ky6):(Int × Int)->((Int × Int)->Bool)->Bool:=λv_ K=>match v_ with
 | (W9,e_1)=>(cond ((Int.tmod W9 2)==0) (ac .i64 (e_1+1)&&K ((IntKind.wrap .u64 (Int.tdiv W9 2)),(e_1+1))) (e0 W9 e_1))
def um (N:Nat) (m e:Int) (k0:Ky6):Bool:=
 (cond (m==0) (k0 0 0) (ah N (lV N (λXu e_2=>k0 Xu e_2)) (m,e)))
def qz (N:Nat):Int->Int->(Ky6)->Bool:=aw N (um N)
def mO (N:Nat) (x:Fl) (neg:Bool) (e f:Int) (k0:Kx5):Bool:=
 (ac .i64 (e - 1074)&&qz N f (e - 1074) (λW_ Xx=>k0 neg W_ Xx 0))
def sH (N:Nat) (x:Fl) (k0:Kx5):Bool:=
 (pE N x (λcr nr W4=>cond (nr==2047) (k0 false 0 0 4) (cond (decide (nr>0)) (ac .i64 (nr - 1)&&mO N x cr (nr - 1) (IntKind.wrap .u64 (W4+4503599627370496)) k0) (mO N x cr nr W4 k0))))
def tS (N:Nat):Fl->(Kx5)->Bool:=aw N (sH N)
def wH (N W9:Nat) (X6:LI) (e0:Kz6):(Nat)->((Nat)->Bool)->Bool:=λv_ K=>match v_ with
 | Xu=>(cond ((decide (((Xu:Nat):Int)>0))==true) (ac .i64 (((Xu:Nat):Int) - 1)&&(inR (((Xu:Nat):Int) - 1) Xu&&(decide ((W9+(Int.toNat (((Xu:Nat):Int) - 1)))<X6.length)&&cond ((X6.getD (W9+(Int.toNat (((Xu:Nat):Int) - 1))) 0)==0) (ac .i64 (((Xu:Nat):Int) - 1)&&(decide (0<=(((Xu:Nat):Int) - 1)/\(((Xu:Nat):Int) - 1)<=((Xu:Nat):Int))&&K ((Int.toNat (((Xu:Nat):Int) - 1)) - 0))) (e0 Xu)))) (e0 Xu))
def QT (N:Nat) (b:LI) (k0:Kz6):Bool:=
 (ah N (wH N 0 b (λm_4=>k0 m_4)) b.length)
def qx (N:Nat):LI->(Kz6)->Bool:=aw N (QT N)
def LQ (N:Nat) (n:Int) (k0:Kz9):Bool:=
 (qx N [(IntKind.wrap .u32 n),(IntKind.wrap .u32 (Int.fdiv n (2 ^ 32)))] (λmr=>decide ((0+mr)<=(List.length [(IntKind.wrap .u32 n),(IntKind.wrap .u32 (Int.fdiv n (2 ^ 32)))]))&&k0 (List.take mr (List.drop 0 [(IntKind.wrap .u32 n),(IntKind.wrap .u32 (Int.fdiv n (2 ^ 32)))]))))
def CX (N:Nat):Int->(Kz9)->Bool:=aw N (LQ N)
def fU (N:Nat) (e0:Kz9):(LI)->((LI)->Bool)->Bool:=λv_ K=>match v_ with
 | W9=>(cond ((decide (((W9.length:Nat):Int)>0))==true) (ac .i64 (((W9.length:Nat):Int) - 1)&&(inR (((W9.length:Nat):Int) - 1) W9.length&&cond ((W9.getD (Int.toNat (((W9.length:Nat):Int) - 1)) 0)==0) (ac .i64 (((W9.length:Nat):Int) - 1)&&(decide (0<=(((W9.length:Nat):Int) - 1)/\(((W9.length:Nat):Int) - 1)<=((W9.length:Nat):Int))&&K (List.drop 0 (List.take (Int.toNat (((W9.length:Nat):Int) - 1)) W9)))) (e0 W9))) (e0 W9))
def xz (N:Nat) (m:LI) (k0:Kz9):Bool:=
 (ah N (fU N (λXu=>k0 Xu)) m)
def mJ (N:Nat):LI->(Kz9)->Bool:=aw N (xz N)
def P_ (N:Nat) (neg:Bool) (m:LI) (b:Bool) (k0:Ky5):Bool:=
 (mJ N m (λnsr=>cond (neg==true) (k0 (decide (((nsr.length:Nat):Int)>0)) nsr) (k0 false nsr)))
def yU (N:Nat):Bool->LI->Bool->(Ky5)->Bool:=P_ N
def Rb (N:Nat) (n:Int) (b:Bool) (k0:Ky5):Bool:=
 (CX N n (λnsr=>yU N false nsr b (λcr W1=>k0 cr W1)))
def PV (N:Nat):Int->Bool->(Ky5)->Bool:=aw N (Rb N)
def sL (N:Nat) (neg b:Bool) (W0 W2:LI) (k0:Ky1):Bool:=
 (qx N W2 (λmr=>cond (neg==true) (k0 (decide (((mr:Nat):Int)>0)) 0 mr) (k0 false 0 mr)))
def tW (N:Nat):Bool->Bool->LI->LI->(Ky1)->Bool:=sL N
def LN (N:Nat) (b:Bool) (W0:LI) (k0:Ky5):Bool:=
 (decide ((List.length ([]++W0))*4<=140737488355328)&&tW N (!b) b W0 ([]++W0) (λcr mr Yk=>decide ((mr+Yk)<=(List.length ([]++W0)))&&k0 cr (List.take Yk (List.drop mr ([]++W0)))))
def N7 (N:Nat):Bool->LI->(Ky5)->Bool:=aw N (LN N)
def zT (N:Nat) (x:Fl) (k0:Int->Bool->LI->Bool):Bool:=
 (tS N x (λcr nr W4 W_=>PV N nr false (λW3 nsr=>cond cr (N7 N W3 nsr (λXA W1=>k0 W4 XA W1)) (k0 W4 W3 nsr))))
def Bg (N:Nat):Fl->(Int->Bool->LI->Bool)->Bool:=aw N (zT N)
def e_ (N:Nat) (W9:LI) (w s:Int) (e0:Kz9):(Int × LI)->((Int × LI)->Bool)->Bool:=λv_ K=>match v_ with
 | (i,out)=>(cond (decide (i<((W9.length:Nat):Int))) (inR i W9.length&&(decide (0<=s)&&(ac .i64 (w+i)&&(inR (w+i) out.length&&(decide ((Int.toNat (w+i))<out.length)&&(inR (w+i) out.length&&(decide ((Int.toNat (w+i))<out.length)&&(ac .i64 (w+i)&&(ac .i64 ((w+i)+1)&&(inR ((w+i)+1) (List.length (out.set (Int.toNat (w+i)) (aA .or .u32 (out.getD (Int.toNat (w+i)) 0) (IntKind.wrap .u32 (IntKind.wrap .u64 ((IntKind.wrap .u64 (W9.getD i.toNat 0))*2 ^ (min s.toNat 64)))))))&&(decide ((Int.toNat ((w+i)+1))<(List.length (out.set (Int.toNat (w+i)) (aA .or .u32 (out.getD (Int.toNat (w+i)) 0) (IntKind.wrap .u32 (IntKind.wrap .u64 ((IntKind.wrap .u64 (W9.getD i.toNat 0))*2 ^ (min s.toNat 64))))))))&&(ac .i64 (i+1)&&K ((i+1),(List.set (out.set (Int.toNat (w+i)) (aA .or .u32 (out.getD (Int.toNat (w+i)) 0) (IntKind.wrap .u32 (IntKind.wrap .u64 ((IntKind.wrap .u64 (W9.getD i.toNat 0))*2 ^ (min s.toNat 64)))))) (Int.toNat ((w+i)+1)) (IntKind.wrap .u32 (Int.fdiv (IntKind.wrap .u64 ((IntKind.wrap .u64 (W9.getD i.toNat 0))*2 ^ (min s.toNat 64))) (2 ^ 32))))))))))))))))) (e0 out))
def vG (N:Nat) (m:LI) (n:Int) (k0:Kz9):Bool:=
 (cond (((m.length:Nat):Int)==0) (k0 []) (ac .i64 (IntKind.wrap .u64 (Int.tdiv n 32))&&(ac .i64 ((IntKind.wrap .u64 (Int.tdiv n 32))+((m.length:Nat):Int))&&(ac .i64 (((IntKind.wrap .u64 (Int.tdiv n 32))+((m.length:Nat):Int))+1)&&(iW 4 (((IntKind.wrap .u64 (Int.tdiv n 32))+((m.length:Nat):Int))+1) (((IntKind.wrap .u64 (Int.tdiv n 32))+((m.length:Nat):Int))+1)&&ah N (e_ N m (IntKind.wrap .u64 (Int.tdiv n 32)) (Int.tmod n 32) (λXf=>qx N Xf (λmr=>decide ((0+mr)<=Xf.length)&&k0 (List.take mr (List.drop 0 Xf))))) (0,(List.replicate (Int.toNat (((IntKind.wrap .u64 (Int.tdiv n 32))+((m.length:Nat):Int))+1)) (0:Int))))))))
def ww (N:Nat):LI->Int->(Kz9)->Bool:=aw N (vG N)
def Lu (N:Nat) (n:Int) (b W0:Bool) (W2:LI) (k0:Ky5):Bool:=
 (ww N W2 n (λnsr=>yU N W0 nsr b (λcr W1=>k0 cr W1)))
def Jh (N:Nat):Int->Bool->Bool->LI->(Ky5)->Bool:=aw N (Lu N)
def Un (N:Nat) (x e:Int) (b:Bool) (W0:LI) (k0:Bool) (k1:Ky5):Bool:=
 (cond (decide (e>=x)) k0 (ac .i64 (x - e)&&Jh N (IntKind.wrap .u64 (x - e)) false b W0 (λcr nsr=>k1 cr nsr)))
def TQ (N:Nat):Int->Int->Bool->LI->(Bool)->(Ky5)->Bool:=Un N
def It (N:Nat) (k0:Kz9):Bool:=
 (k0 [1])
def rZ (N:Nat):(Kz9)->Bool:=It N
def LC (N:Nat) (neg:Bool) (m:LI) (b W0:Bool) (k0:Bool->LI->LI->Bool):Bool:=
 (mJ N m (λnsr=>cond (neg==true) (k0 (decide (((nsr.length:Nat):Int)>0)) nsr []) (k0 false nsr [])))
def Gk (N:Nat):Bool->LI->Bool->Bool->(Bool->LI->LI->Bool)->Bool:=LC N
def Mb (N:Nat) (neg:Bool) (m:LI) (b:Bool) (W0:LI) (W2:Bool) (W7:LI) (k0:Ky5):Bool:=
 (mJ N m (λnsr=>cond (neg==true) (k0 (decide (((nsr.length:Nat):Int)>0)) nsr) (k0 false nsr)))
def Gq (N:Nat):Bool->LI->Bool->LI->Bool->LI->(Ky5)->Bool:=Mb N
def OG (N:Nat) (x:Int) (k0:Kz5):Bool:=
 (cond (x==0) (k0 32) (inR (Int.fdiv (IntKind.wrap .u32 ((aA .and .u32 x (IntKind.wrap .u32 (0 - x)))*125613361)) (2 ^ 27)) 32&&(ac .i64 (za.getD (Int.toNat (Int.fdiv (IntKind.wrap .u32 ((aA .and .u32 x (IntKind.wrap .u32 (0 - x)))*125613361)) (2 ^ 27))) 0)&&k0 (za.getD (Int.toNat (Int.fdiv (IntKind.wrap .u32 ((aA .and .u32 x (IntKind.wrap .u32 (0 - x)))*125613361)) (2 ^ 27))) 0))))
def TA (N:Nat):Int->(Kz5)->Bool:=aw N (OG N)
def Jq (N:Nat) (z:Bool) (YI:LI) (e0:Kz5) (e1:Bool):(Int)->((Int)->Bool)->Bool:=λv_ K=>match v_ with
 | i=>(cond (decide (i<((YI.length:Nat):Int))) (inR i YI.length&&cond ((YI.getD i.toNat 0) != 0) (ac .i64 (32*i)&&(inR i YI.length&&TA N (YI.getD i.toNat 0) (λnr=>ac .i64 ((32*i)+nr)&&e0 (IntKind.wrap .u64 ((32*i)+nr))))) (ac .i64 (i+1)&&K (i+1))) e1)
def GQ2 (N:Nat) (b:Bool) (W0:LI) (k0:Kz5):Bool:=
 (ah N (Jq N b W0 (λt2=>k0 t2) (k0 0)) 0)
def sQ2 (N:Nat):Bool->LI->(Kz5)->Bool:=aw N (GQ2 N)
def lR (N:Nat) (W9:LI) (w s:Int) (e0:Kz9):(Int × LI)->((Int × LI)->Bool)->Bool:=λv_ K=>match v_ with
 | (i,out)=>(cond (decide (i<((out.length:Nat):Int))) (ac .i64 (w+i)&&(inR (w+i) W9.length&&(ac .i64 (w+i)&&(ac .i64 ((w+i)+1)&&cond (decide (((w+i)+1)<((W9.length:Nat):Int))) (ac .i64 (w+i)&&(ac .i64 ((w+i)+1)&&(inR ((w+i)+1) W9.length&&(decide (0<=s)&&(inR i out.length&&(decide (i.toNat<out.length)&&(ac .i64 (i+1)&&K ((i+1),(out.set i.toNat (IntKind.wrap .u32 (Int.fdiv (aA .or .u64 (IntKind.wrap .u64 (W9.getD (Int.toNat (w+i)) 0)) (IntKind.wrap .u64 ((IntKind.wrap .u64 (W9.getD (Int.toNat ((w+i)+1)) 0))*2 ^ 32))) (2 ^ (min s.toNat 64))))))))))))) (decide (0<=s)&&(inR i out.length&&(decide (i.toNat<out.length)&&(ac .i64 (i+1)&&K ((i+1),(out.set i.toNat (IntKind.wrap .u32 (Int.fdiv (IntKind.wrap .u64 (W9.getD (Int.toNat (w+i)) 0)) (2 ^ (min s.toNat 64)))))))))))))) (e0 out))
def Rn (N:Nat) (m:LI) (n:Int) (k0:Kz9):Bool:=
 (ac .i64 (IntKind.wrap .u64 (Int.tdiv n 32))&&cond (decide ((IntKind.wrap .u64 (Int.tdiv n 32))>=((m.length:Nat):Int))) (k0 []) (ac .i64 (((m.length:Nat):Int) - (IntKind.wrap .u64 (Int.tdiv n 32)))&&(iW 4 (((m.length:Nat):Int) - (IntKind.wrap .u64 (Int.tdiv n 32))) (((m.length:Nat):Int) - (IntKind.wrap .u64 (Int.tdiv n 32)))&&ah N (lR N m (IntKind.wrap .u64 (Int.tdiv n 32)) (Int.tmod n 32) (λXf=>qx N Xf (λmr=>decide ((0+mr)<=Xf.length)&&k0 (List.take mr (List.drop 0 Xf))))) (0,(List.replicate (Int.toNat (((m.length:Nat):Int) - (IntKind.wrap .u64 (Int.tdiv n 32)))) (0:Int))))))
def BZ (N:Nat):LI->Int->(Kz9)->Bool:=aw N (Rn N)
def Lz (N:Nat) (x:Int) (k0:Kz5):Bool:=
 (cond (decide (x>=65536)) (cond (decide ((Int.fdiv x (2 ^ 16))>=256)) (inR (IntKind.wrap .u8 (Int.fdiv (Int.fdiv x (2 ^ 16)) (2 ^ 8))) 256&&(ac .i64 (ay.getD (Int.toNat (IntKind.wrap .u8 (Int.fdiv (Int.fdiv x (2 ^ 16)) (2 ^ 8)))) 0)&&(ac .i64 (24+(ay.getD (Int.toNat (IntKind.wrap .u8 (Int.fdiv (Int.fdiv x (2 ^ 16)) (2 ^ 8)))) 0))&&k0 (24+(ay.getD (Int.toNat (IntKind.wrap .u8 (Int.fdiv (Int.fdiv x (2 ^ 16)) (2 ^ 8)))) 0))))) (inR (IntKind.wrap .u8 (Int.fdiv x (2 ^ 16))) 256&&(ac .i64 (ay.getD (Int.toNat (IntKind.wrap .u8 (Int.fdiv x (2 ^ 16)))) 0)&&(ac .i64 (16+(ay.getD (Int.toNat (IntKind.wrap .u8 (Int.fdiv x (2 ^ 16)))) 0))&&k0 (16+(ay.getD (Int.toNat (IntKind.wrap .u8 (Int.fdiv x (2 ^ 16)))) 0)))))) (cond (decide (x>=256)) (inR (IntKind.wrap .u8 (Int.fdiv x (2 ^ 8))) 256&&(ac .i64 (ay.getD (Int.toNat (IntKind.wrap .u8 (Int.fdiv x (2 ^ 8)))) 0)&&(ac .i64 (8+(ay.getD (Int.toNat (IntKind.wrap .u8 (Int.fdiv x (2 ^ 8)))) 0))&&k0 (8+(ay.getD (Int.toNat (IntKind.wrap .u8 (Int.fdiv x (2 ^ 8)))) 0))))) (inR (IntKind.wrap .u8 x) 256&&(ac .i64 (ay.getD (Int.toNat (IntKind.wrap .u8 x)) 0)&&(ac .i64 (0+(ay.getD (Int.toNat (IntKind.wrap .u8 x)) 0))&&k0 (0+(ay.getD (Int.toNat (IntKind.wrap .u8 x)) 0)))))))
def Ji (N:Nat):Int->(Kz5)->Bool:=aw N (Lz N)
def Rj (N:Nat) (b:Bool) (W0:LI) (k0:Kz5):Bool:=
 (cond (((W0.length:Nat):Int)==0) (k0 0) (ac .i64 (((W0.length:Nat):Int) - 1)&&(ac .i64 (32*(((W0.length:Nat):Int) - 1))&&(ac .i64 (((W0.length:Nat):Int) - 1)&&(inR (((W0.length:Nat):Int) - 1) W0.length&&Ji N (W0.getD (Int.toNat (((W0.length:Nat):Int) - 1)) 0) (λnr=>ac .i64 ((32*(((W0.length:Nat):Int) - 1))+nr)&&k0 ((32*(((W0.length:Nat):Int) - 1))+nr)))))))
def K1 (N:Nat):Bool->LI->(Kz5)->Bool:=aw N (Rj N)
def wD (N:Nat) (XP W0:LI) (e0:Kz5) (e1:Bool):(Int)->((Int)->Bool)->Bool:=λv_ K=>match v_ with
 | i=>(cond (decide (i>=0)) (inR i XP.length&&(inR i W0.length&&cond (decide ((XP.getD i.toNat 0)<(W0.getD i.toNat 0))) (e0 (-1)) (inR i XP.length&&(inR i W0.length&&cond (decide ((XP.getD i.toNat 0)>(W0.getD i.toNat 0))) (e0 1) (ac .i64 (i - 1)&&K (i - 1)))))) e1)
def Rh (N:Nat) (a b:LI) (k0:Kz5):Bool:=
 (cond (((a.length:Nat):Int) != ((b.length:Nat):Int)) (cond (decide (((a.length:Nat):Int)<((b.length:Nat):Int))) (k0 (-1)) (k0 1)) (ac .i64 (((a.length:Nat):Int) - 1)&&ah N (wD N a b (λt4=>k0 t4) (k0 0)) (((a.length:Nat):Int) - 1)))
def D2 (N:Nat):LI->LI->(Kz5)->Bool:=aw N (Rh N)
def mW (N:Nat) (x:LI) (e0:Kz5):(Int × Int)->((Int × Int)->Bool)->Bool:=λv_ K=>match v_ with
 | (u,i)=>(cond (decide (i>=0)) (inR i x.length&&(ac .i64 (i - 1)&&K ((aA .or .u64 (IntKind.wrap .u64 (u*2 ^ 32)) (IntKind.wrap .u64 (x.getD i.toNat 0))),(i - 1)))) (e0 u))
def vF (N:Nat) (m:LI) (at_:Int) (k0:Kz5):Bool:=
 (BZ N m (IntKind.wrap .u64 at_) (λnsr=>ac .i64 (((nsr.length:Nat):Int) - 1)&&ah N (mW N nsr (λXU=>k0 XU)) (0,(((nsr.length:Nat):Int) - 1))))
def rA (N:Nat):LI->Int->(Kz5)->Bool:=aw N (vF N)
def qB (N:Nat) (e0:Kx8):(Int × Int × Int × Int × Int × Int)->((Int × Int × Int × Int × Int × Int)->Bool)->Bool:=λv_ K=>match v_ with
 | (a,b,c,d,p,q)=>(ac .i64 (q+c)&&cond (((q+c) != 0)==true) (ac .i64 (q+d)&&cond ((q+d) != 0) (ac .i64 (p+a)&&(ac .i64 (q+c)&&((!decide ((q+c)=0))&&(ac .i64 (Int.tdiv (p+a) (q+c))&&(ac .i64 (p+b)&&(ac .i64 (q+d)&&((!decide ((q+d)=0))&&(ac .i64 (Int.tdiv (p+b) (q+d))&&cond ((Int.tdiv (p+a) (q+c)) != (Int.tdiv (p+b) (q+d))) (e0 a b c d) (ac .i64 ((Int.tdiv (p+a) (q+c))*c)&&(ac .i64 (a - ((Int.tdiv (p+a) (q+c))*c))&&(ac .i64 ((Int.tdiv (p+a) (q+c))*d)&&(ac .i64 (b - ((Int.tdiv (p+a) (q+c))*d))&&cond ((decide ((a - ((Int.tdiv (p+a) (q+c))*c))>1073741824))==false) (cond ((decide ((a - ((Int.tdiv (p+a) (q+c))*c))<(-1073741824)))==false) (cond ((decide ((b - ((Int.tdiv (p+a) (q+c))*d))>1073741824))==false) (cond (decide ((b - ((Int.tdiv (p+a) (q+c))*d))<(-1073741824))) (e0 a b c d) (ac .i64 ((Int.tdiv (p+a) (q+c))*q)&&(ac .i64 (p - ((Int.tdiv (p+a) (q+c))*q))&&K (c,d,(a - ((Int.tdiv (p+a) (q+c))*c)),(b - ((Int.tdiv (p+a) (q+c))*d)),q,(p - ((Int.tdiv (p+a) (q+c))*q)))))) (e0 a b c d)) (e0 a b c d)) (e0 a b c d))))))))))))) (e0 a b c d)) (e0 a b c d))
def sG (N:Nat) (x y:Int) (k0:Kx8):Bool:=
 (ac .i64 x&&(ac .i64 y&&ah N (qB N (λXP W0 c_1 X8=>k0 XP W0 c_1 X8)) (1,0,0,1,x,y)))
def tQ (N:Nat):Int->Int->(Kx8)->Bool:=aw N (sG N)
def lS (N:Nat) (W9:LI) (X8:Int) (e0:Ky9):(Int × Int × LI)->((Int × Int × LI)->Bool)->Bool:=λv_ K=>match v_ with
 | (r,i,out)=>(cond (decide (i>=0)) (inR i W9.length&&((!decide ((IntKind.wrap .u64 X8)=0))&&(inR i out.length&&(decide (i.toNat<out.length)&&((!decide ((IntKind.wrap .u64 X8)=0))&&(ac .i64 (i - 1)&&K ((Int.tmod (aA .or .u64 (IntKind.wrap .u64 (r*2 ^ 32)) (IntKind.wrap .u64 (W9.getD i.toNat 0))) (IntKind.wrap .u64 X8)),(i - 1),(out.set i.toNat (IntKind.wrap .u32 (IntKind.wrap .u64 (Int.tdiv (aA .or .u64 (IntKind.wrap .u64 (r*2 ^ 32)) (IntKind.wrap .u64 (W9.getD i.toNat 0))) (IntKind.wrap .u64 X8)))))))))))) (e0 r out))
def sF (N:Nat) (m:LI) (d:Int) (k0:LI->Int->Bool):Bool:=
 (iW 4 ((m.length:Nat):Int) ((m.length:Nat):Int)&&(ac .i64 (((m.length:Nat):Int) - 1)&&ah N (lS N m d (λr_1 Xf=>qx N Xf (λmr=>decide ((0+mr)<=Xf.length)&&k0 (List.take mr (List.drop 0 Xf)) (IntKind.wrap .u32 r_1)))) (0,(((m.length:Nat):Int) - 1),(List.replicate (Int.toNat ((m.length:Nat):Int)) (0:Int)))))
def pD (N:Nat):LI->Int->(LI->Int->Bool)->Bool:=aw N (sF N)
def Uj (N:Nat) (x:Int) (k0:Kz5):Bool:=
 (Ji N x (λnr=>ac .i64 (32 - nr)&&k0 (32 - nr)))
def TM (N:Nat):Int->(Kz5)->Bool:=Uj N
def oU (N:Nat) (W9:LI) (w s:Int) (e0:Kz9):(Int × LI)->((Int × LI)->Bool)->Bool:=λv_ K=>match v_ with
 | (i,out)=>(cond (decide (i<((W9.length:Nat):Int))) (inR i W9.length&&(decide (0<=s)&&(ac .i64 (w+i)&&(inR (w+i) out.length&&(decide ((Int.toNat (w+i))<out.length)&&(inR (w+i) out.length&&(decide ((Int.toNat (w+i))<out.length)&&(ac .i64 (w+i)&&(ac .i64 ((w+i)+1)&&(inR ((w+i)+1) (List.length (out.set (Int.toNat (w+i)) (aA .or .u32 (out.getD (Int.toNat (w+i)) 0) (IntKind.wrap .u32 (IntKind.wrap .u64 ((IntKind.wrap .u64 (W9.getD i.toNat 0))*2 ^ (min s.toNat 64)))))))&&(decide ((Int.toNat ((w+i)+1))<(List.length (out.set (Int.toNat (w+i)) (aA .or .u32 (out.getD (Int.toNat (w+i)) 0) (IntKind.wrap .u32 (IntKind.wrap .u64 ((IntKind.wrap .u64 (W9.getD i.toNat 0))*2 ^ (min s.toNat 64))))))))&&(ac .i64 (i+1)&&K ((i+1),(List.set (out.set (Int.toNat (w+i)) (aA .or .u32 (out.getD (Int.toNat (w+i)) 0) (IntKind.wrap .u32 (IntKind.wrap .u64 ((IntKind.wrap .u64 (W9.getD i.toNat 0))*2 ^ (min s.toNat 64)))))) (Int.toNat ((w+i)+1)) (IntKind.wrap .u32 (Int.fdiv (IntKind.wrap .u64 ((IntKind.wrap .u64 (W9.getD i.toNat 0))*2 ^ (min s.toNat 64))) (2 ^ 32))))))))))))))))) (e0 out))
def Lk (N:Nat) (m:LI) (n:Int) (k0:Bool) (k1:Kz0):Bool:=
 (cond (((m.length:Nat):Int)==0) k0 (ac .i64 (IntKind.wrap .u64 (Int.tdiv n 32))&&(ac .i64 ((IntKind.wrap .u64 (Int.tdiv n 32))+((m.length:Nat):Int))&&(ac .i64 (((IntKind.wrap .u64 (Int.tdiv n 32))+((m.length:Nat):Int))+1)&&(iW 4 (((IntKind.wrap .u64 (Int.tdiv n 32))+((m.length:Nat):Int))+1) (((IntKind.wrap .u64 (Int.tdiv n 32))+((m.length:Nat):Int))+1)&&ah N (oU N m (IntKind.wrap .u64 (Int.tdiv n 32)) (Int.tmod n 32) (λXf=>qx N Xf (λmr=>k1 mr Xf))) (0,(List.replicate (Int.toNat (((IntKind.wrap .u64 (Int.tdiv n 32))+((m.length:Nat):Int))+1)) (0:Int))))))))
def Ge (N:Nat):LI->Int->(Bool)->(Kz0)->Bool:=aw N (Lk N)
def gT (N u Yg d ZK:Nat) (Yj YU:Int) (d_3:LI) (e0:Int->Int->LI->Bool):(Int × Int × Int × LI)->((Int × Int × Int × LI)->Bool)->Bool:=λv_ K=>match v_ with
 | (carry,borrow,i,YY)=>(cond (decide (i<((ZK:Nat):Int))) (inR i ZK&&(decide ((d+i.toNat)<d_3.length)&&(ac .i64 (Yj+i)&&(inR (Yj+i) Yg&&(decide ((u+(Int.toNat (Yj+i)))<YY.length)&&cond (decide ((IntKind.wrap .u64 (YY.getD (u+(Int.toNat (Yj+i))) 0))<(IntKind.wrap .u64 ((aA .and .u64 (IntKind.wrap .u64 ((IntKind.wrap .u64 (YU*(IntKind.wrap .u64 (d_3.getD (d+i.toNat) 0))))+carry)) 4294967295)+borrow)))) (ac .i64 (Yj+i)&&(inR (Yj+i) Yg&&(decide ((u+(Int.toNat (Yj+i)))<YY.length)&&(ac .i64 (i+1)&&K ((Int.fdiv (IntKind.wrap .u64 ((IntKind.wrap .u64 (YU*(IntKind.wrap .u64 (d_3.getD (d+i.toNat) 0))))+carry)) (2 ^ 32)),1,(i+1),(YY.set (u+(Int.toNat (Yj+i))) (IntKind.wrap .u32 (IntKind.wrap .u64 ((IntKind.wrap .u64 ((IntKind.wrap .u64 (YY.getD (u+(Int.toNat (Yj+i))) 0))+4294967296)) - (IntKind.wrap .u64 ((aA .and .u64 (IntKind.wrap .u64 ((IntKind.wrap .u64 (YU*(IntKind.wrap .u64 (d_3.getD (d+i.toNat) 0))))+carry)) 4294967295)+borrow))))))))))) (ac .i64 (Yj+i)&&(inR (Yj+i) Yg&&(decide ((u+(Int.toNat (Yj+i)))<YY.length)&&(ac .i64 (i+1)&&K ((Int.fdiv (IntKind.wrap .u64 ((IntKind.wrap .u64 (YU*(IntKind.wrap .u64 (d_3.getD (d+i.toNat) 0))))+carry)) (2 ^ 32)),0,(i+1),(YY.set (u+(Int.toNat (Yj+i))) (IntKind.wrap .u32 (IntKind.wrap .u64 ((IntKind.wrap .u64 (YY.getD (u+(Int.toNat (Yj+i))) 0)) - (IntKind.wrap .u64 ((aA .and .u64 (IntKind.wrap .u64 ((IntKind.wrap .u64 (YU*(IntKind.wrap .u64 (d_3.getD (d+i.toNat) 0))))+carry)) 4294967295)+borrow)))))))))))))))) (e0 carry borrow YY))
def LJ (N Yv XU d_0 X8:Nat) (j g:Int) (b W0:LI) (k0:Ky5):Bool:=
 (ah N (gT N Yv XU d_0 X8 j g W0 (λXL Zf u_4=>ac .i64 (j+((X8:Nat):Int))&&(inR (j+((X8:Nat):Int)) XU&&(decide ((Yv+(Int.toNat (j+((X8:Nat):Int))))<u_4.length)&&(ac .i64 (j+((X8:Nat):Int))&&(inR (j+((X8:Nat):Int)) XU&&(decide ((Yv+(Int.toNat (j+((X8:Nat):Int))))<u_4.length)&&k0 (decide ((IntKind.wrap .u64 (u_4.getD (Yv+(Int.toNat (j+((X8:Nat):Int)))) 0))<(IntKind.wrap .u64 (XL+Zf)))) (u_4.set (Yv+(Int.toNat (j+((X8:Nat):Int)))) (IntKind.wrap .u32 (IntKind.wrap .u64 ((IntKind.wrap .u64 (u_4.getD (Yv+(Int.toNat (j+((X8:Nat):Int)))) 0)) - (IntKind.wrap .u64 (XL+Zf))))))))))))) (0,0,0,b))
def N5 (N:Nat):Nat->Nat->Nat->Nat->Int->Int->LI->LI->(Ky5)->Bool:=aw N (LJ N)
def gU (N u Yg d ZK:Nat) (Yj:Int) (d_3:LI) (e0:Ky9):(Int × Int × LI)->((Int × Int × LI)->Bool)->Bool:=λv_ K=>match v_ with
 | (carry,i,YY)=>(cond (decide (i<((ZK:Nat):Int))) (ac .i64 (Yj+i)&&(inR (Yj+i) Yg&&(decide ((u+(Int.toNat (Yj+i)))<YY.length)&&(inR i ZK&&(decide ((d+i.toNat)<d_3.length)&&(ac .i64 (Yj+i)&&(inR (Yj+i) Yg&&(decide ((u+(Int.toNat (Yj+i)))<YY.length)&&(ac .i64 (i+1)&&K ((Int.fdiv (IntKind.wrap .u64 ((IntKind.wrap .u64 ((IntKind.wrap .u64 (YY.getD (u+(Int.toNat (Yj+i))) 0))+(IntKind.wrap .u64 (d_3.getD (d+i.toNat) 0))))+carry)) (2 ^ 32)),(i+1),(YY.set (u+(Int.toNat (Yj+i))) (IntKind.wrap .u32 (IntKind.wrap .u64 ((IntKind.wrap .u64 ((IntKind.wrap .u64 (YY.getD (u+(Int.toNat (Yj+i))) 0))+(IntKind.wrap .u64 (d_3.getD (d+i.toNat) 0))))+carry)))))))))))))) (e0 carry YY))
def LM (N Yv XU d_0 X8:Nat) (j:Int) (b W0:LI) (k0:Kz9):Bool:=
 (ah N (gU N Yv XU d_0 X8 j W0 (λXL u_4=>ac .i64 (j+((X8:Nat):Int))&&(inR (j+((X8:Nat):Int)) XU&&(decide ((Yv+(Int.toNat (j+((X8:Nat):Int))))<u_4.length)&&(inR (j+((X8:Nat):Int)) XU&&(decide ((Yv+(Int.toNat (j+((X8:Nat):Int))))<u_4.length)&&k0 (u_4.set (Yv+(Int.toNat (j+((X8:Nat):Int)))) (IntKind.wrap .u32 ((u_4.getD (Yv+(Int.toNat (j+((X8:Nat):Int)))) 0)+(IntKind.wrap .u32 XL)))))))))) (0,0,b))
def N6 (N:Nat):Nat->Nat->Nat->Nat->Int->LI->LI->(Kz9)->Bool:=aw N (LM N)
def wG (N m:Nat) (X6:LI) (e0:Kz6):(Nat)->((Nat)->Bool)->Bool:=λv_ K=>match v_ with
 | Xu=>(cond ((decide (((Xu:Nat):Int)>0))==true) (ac .i64 (((Xu:Nat):Int) - 1)&&(inR (((Xu:Nat):Int) - 1) Xu&&(decide ((m+(Int.toNat (((Xu:Nat):Int) - 1)))<X6.length)&&cond ((X6.getD (m+(Int.toNat (((Xu:Nat):Int) - 1))) 0)==0) (ac .i64 (((Xu:Nat):Int) - 1)&&(decide (0<=(((Xu:Nat):Int) - 1)/\(((Xu:Nat):Int) - 1)<=((Xu:Nat):Int))&&K ((Int.toNat (((Xu:Nat):Int) - 1)) - 0))) (e0 Xu)))) (e0 Xu))
def sD (N XK W9:Nat) (b:LI) (k0:Kz6):Bool:=
 (ah N (wG N XK b (λm_4=>k0 m_4)) W9)
def tP (N:Nat):Nat->Nat->LI->(Kz6)->Bool:=aw N (sD N)
def jb (N m Xu:Nat) (w s:Int) (X6:LI) (e0:Kz9):(Int × LI)->((Int × LI)->Bool)->Bool:=λv_ K=>match v_ with
 | (i,out)=>(cond (decide (i<((out.length:Nat):Int))) (ac .i64 (w+i)&&(inR (w+i) Xu&&(decide ((m+(Int.toNat (w+i)))<X6.length)&&(ac .i64 (w+i)&&(ac .i64 ((w+i)+1)&&cond (decide (((w+i)+1)<((Xu:Nat):Int))) (ac .i64 (w+i)&&(ac .i64 ((w+i)+1)&&(inR ((w+i)+1) Xu&&(decide ((m+(Int.toNat ((w+i)+1)))<X6.length)&&(decide (0<=s)&&(inR i out.length&&(decide (i.toNat<out.length)&&(ac .i64 (i+1)&&K ((i+1),(out.set i.toNat (IntKind.wrap .u32 (Int.fdiv (aA .or .u64 (IntKind.wrap .u64 (X6.getD (m+(Int.toNat (w+i))) 0)) (IntKind.wrap .u64 ((IntKind.wrap .u64 (X6.getD (m+(Int.toNat ((w+i)+1))) 0))*2 ^ 32))) (2 ^ (min s.toNat 64)))))))))))))) (decide (0<=s)&&(inR i out.length&&(decide (i.toNat<out.length)&&(ac .i64 (i+1)&&K ((i+1),(out.set i.toNat (IntKind.wrap .u32 (Int.fdiv (IntKind.wrap .u64 (X6.getD (m+(Int.toNat (w+i))) 0)) (2 ^ (min s.toNat 64))))))))))))))) (e0 out))
def LW (N XK W9:Nat) (n:Int) (b:LI) (k0:Kz9):Bool:=
 (ac .i64 (IntKind.wrap .u64 (Int.tdiv n 32))&&cond (decide ((IntKind.wrap .u64 (Int.tdiv n 32))>=((W9:Nat):Int))) (k0 []) (ac .i64 (((W9:Nat):Int) - (IntKind.wrap .u64 (Int.tdiv n 32)))&&(iW 4 (((W9:Nat):Int) - (IntKind.wrap .u64 (Int.tdiv n 32))) (((W9:Nat):Int) - (IntKind.wrap .u64 (Int.tdiv n 32)))&&ah N (jb N XK W9 (IntKind.wrap .u64 (Int.tdiv n 32)) (Int.tmod n 32) b (λXf=>qx N Xf (λmr=>decide ((0+mr)<=Xf.length)&&k0 (List.take mr (List.drop 0 Xf))))) (0,(List.replicate (Int.toNat (((W9:Nat):Int) - (IntKind.wrap .u64 (Int.tdiv n 32)))) (0:Int))))))
def Oa (N:Nat):Nat->Nat->Int->LI->(Kz9)->Bool:=aw N (LW N)
def pV (N:Nat) (XP:LI) (s:Int) (e0:Kz0):(Nat × LI)->((Nat × LI)->Bool)->Bool:=λv_ K=>match v_ with
 | (u,XU)=>(ac .i64 (((XP.length:Nat):Int)+1)&&cond (decide (((u:Nat):Int)<(((XP.length:Nat):Int)+1))) (decide ((0+u)<=XU.length)&&(decide ((List.length ((List.take u (List.drop 0 XU))++[0]))*4<=140737488355328)&&K ((List.length ((List.take u (List.drop 0 XU))++[0])),((List.take u (List.drop 0 XU))++[0])))) (e0 u XU))
def ua (N:Nat) (ZE:LI) (Xj:Int) (d:Nat) (X8:LI) (e0:Kz0):(Nat × LI)->((Nat × LI)->Bool)->Bool:=λv_ K=>match v_ with
 | (u_6,u_7)=>(ac .i64 (((ZE.length:Nat):Int)+1)&&cond (decide (((u_6:Nat):Int)<(((ZE.length:Nat):Int)+1))) (decide ((0+u_6)<=u_7.length)&&(decide ((List.length ((List.take u_6 (List.drop 0 u_7))++[0]))*4<=140737488355328)&&K ((List.length ((List.take u_6 (List.drop 0 u_7))++[0])),((List.take u_6 (List.drop 0 u_7))++[0])))) (e0 u_6 u_7))
def pU (N:Nat) (X5:Int) (d_6 Zk:Nat) (XT adJ Yj:Int) (d_7 ZC q_1:LI) (e0:Kz5):(Int × Int)->((Int × Int)->Bool)->Bool:=λv_ K=>match v_ with
 | (g,r)=>(cond ((decide (g>=4294967296))==false) (ac .i64 (XT - 2)&&(inR (XT - 2) d_6&&(decide ((0+(Int.toNat (XT - 2)))<d_7.length)&&(ac .i64 (Yj+XT)&&(ac .i64 ((Yj+XT) - 2)&&(inR ((Yj+XT) - 2) Zk&&(decide ((0+(Int.toNat ((Yj+XT) - 2)))<ZC.length)&&cond (decide ((IntKind.wrap .u64 (g*(IntKind.wrap .u64 (d_7.getD (0+(Int.toNat (XT - 2))) 0))))>(aA .or .u64 (IntKind.wrap .u64 (r*2 ^ 32)) (IntKind.wrap .u64 (ZC.getD (0+(Int.toNat ((Yj+XT) - 2))) 0))))) (cond (decide ((IntKind.wrap .u64 (r+adJ))>=4294967296)) (e0 (IntKind.wrap .u64 (g - 1))) (K ((IntKind.wrap .u64 (g - 1)),(IntKind.wrap .u64 (r+adJ))))) (e0 g)))))))) (cond (decide ((IntKind.wrap .u64 (r+adJ))>=4294967296)) (e0 (IntKind.wrap .u64 (g - 1))) (K ((IntKind.wrap .u64 (g - 1)),(IntKind.wrap .u64 (r+adJ))))))
def ka (N:Nat) (X2:Int) (d_4 Yz:Nat) (n top:Int) (d_5:LI) (e0:Kz3):(Int × LI × LI)->((Int × LI × LI)->Bool)->Bool:=λv_ K=>match v_ with
 | (j,Yu,q)=>(cond (decide (j>=0)) (ac .i64 (j+n)&&(inR (j+n) Yz&&(decide ((0+(Int.toNat (j+n)))<Yu.length)&&(ac .i64 (j+n)&&(ac .i64 ((j+n) - 1)&&(inR ((j+n) - 1) Yz&&(decide ((0+(Int.toNat ((j+n) - 1)))<Yu.length)&&((!decide (top=0))&&((!decide (top=0))&&ah N (pU N X2 d_4 Yz n top j d_5 Yu q (λYU=>N5 N 0 Yz 0 d_4 j YU Yu d_5 (λcr Xh=>cond cr (N6 N 0 Yz 0 d_4 j Xh d_5 (λXg=>inR j q.length&&(decide (j.toNat<q.length)&&(ac .i64 (j - 1)&&K ((j - 1),Xg,(q.set j.toNat (IntKind.wrap .u32 (IntKind.wrap .u64 (YU - 1))))))))) (inR j q.length&&(decide (j.toNat<q.length)&&(ac .i64 (j - 1)&&K ((j - 1),Xh,(q.set j.toNat (IntKind.wrap .u32 YU))))))))) ((IntKind.wrap .u64 (Int.tdiv (aA .or .u64 (IntKind.wrap .u64 ((IntKind.wrap .u64 (Yu.getD (0+(Int.toNat (j+n))) 0))*2 ^ 32)) (IntKind.wrap .u64 (Yu.getD (0+(Int.toNat ((j+n) - 1))) 0))) top)),(Int.tmod (aA .or .u64 (IntKind.wrap .u64 ((IntKind.wrap .u64 (Yu.getD (0+(Int.toNat (j+n))) 0))*2 ^ 32)) (IntKind.wrap .u64 (Yu.getD (0+(Int.toNat ((j+n) - 1))) 0))) top))))))))))) (e0 Yu q))
def qL (N:Nat) (a b:LI) (Xt:Int) (ZK Yy:Nat) (d_3 Zj:LI) (k0:Kz3):Bool:=
 (ac .i64 (((Yy:Nat):Int) - ((ZK:Nat):Int))&&(iW 4 (((Yy:Nat):Int) - ((ZK:Nat):Int)) (((Yy:Nat):Int) - ((ZK:Nat):Int))&&(ac .i64 (((ZK:Nat):Int) - 1)&&(inR (((ZK:Nat):Int) - 1) ZK&&(decide ((0+(Int.toNat (((ZK:Nat):Int) - 1)))<d_3.length)&&(ac .i64 ((((List.length (List.replicate (Int.toNat (((Yy:Nat):Int) - ((ZK:Nat):Int))) (0:Int))):Nat):Int) - 1)&&ah N (ka N Xt ZK Yy ((ZK:Nat):Int) (IntKind.wrap .u64 (d_3.getD (0+(Int.toNat (((ZK:Nat):Int) - 1))) 0)) d_3 (λYd q_2=>qx N q_2 (λagj=>decide (0<=((ZK:Nat):Int)/\((ZK:Nat):Int)<=((Yy:Nat):Int))&&tP N 0 ((Int.toNat ((ZK:Nat):Int)) - 0) Yd (λah5=>Oa N 0 ah5 Xt Yd (λs6=>decide ((0+agj)<=q_2.length)&&k0 (List.take agj (List.drop 0 q_2)) s6))))) (((((List.length (List.replicate (Int.toNat (((Yy:Nat):Int) - ((ZK:Nat):Int))) (0:Int))):Nat):Int) - 1),Zj,(List.replicate (Int.toNat (((Yy:Nat):Int) - ((ZK:Nat):Int))) (0:Int)))))))))
def wO (N:Nat) (a b:LI) (Xr:Int) (abJ:Nat) (ZB:LI) (k0:Kz3):Bool:=
 (ac .i64 (((abJ:Nat):Int) - 0)&&(iW 4 (((abJ:Nat):Int) - 0) (((abJ:Nat):Int) - 0)&&false))
def Ep (N:Nat) (a b:LI) (k0:Kz3):Bool:=
 (D2 N a b (λnr=>cond (decide (nr<0)) (decide ((List.length ([]++a))*4<=140737488355328)&&k0 [] ([]++a)) (cond (((b.length:Nat):Int)==1) (inR 0 b.length&&pD N a (b.getD 0 0) (λnsr W4=>qx N [W4] (λmr=>decide ((0+mr)<=(List.length [W4]))&&k0 nsr (List.take mr (List.drop 0 [W4]))))) (ac .i64 (((b.length:Nat):Int) - 1)&&(inR (((b.length:Nat):Int) - 1) b.length&&TM N (b.getD (Int.toNat (((b.length:Nat):Int) - 1)) 0) (λW_=>Ge N b (IntKind.wrap .u64 W_) (Ge N a (IntKind.wrap .u64 W_) (ah N (pV N a (IntKind.wrap .u64 W_) (λYg YY=>wO N a b (IntKind.wrap .u64 W_) Yg YY k0)) (0,[])) (λXF W6=>ah N (pV N a (IntKind.wrap .u64 W_) (λu_4 u_5=>wO N a b (IntKind.wrap .u64 W_) u_4 u_5 k0)) (XF,W6))) (λYk W1=>Ge N a (IntKind.wrap .u64 W_) (ah N (ua N a (IntKind.wrap .u64 W_) Yk W1 (λu_8 u_9=>qL N a b (IntKind.wrap .u64 W_) Yk u_8 W1 u_9 k0)) (0,[])) (λad4 W8=>ah N (ua N a (IntKind.wrap .u64 W_) Yk W1 (λZi ZA=>qL N a b (IntKind.wrap .u64 W_) Yk Zi W1 ZA k0)) (ad4,W8)))))))))
def qw (N:Nat):LI->LI->(Kz3)->Bool:=aw N (Ep N)
def lU (N:Nat) (ZE W2:LI) (Yi:Int) (e0:Ky9):(Int × Int × LI)->((Int × Int × LI)->Bool)->Bool:=λv_ K=>match v_ with
 | (carry,k_,Xf)=>(cond (decide (k_<((W2.length:Nat):Int))) (inR Yi ZE.length&&(inR k_ W2.length&&(ac .i64 (Yi+k_)&&(inR (Yi+k_) Xf.length&&(decide ((Int.toNat (Yi+k_))<Xf.length)&&(ac .i64 (Yi+k_)&&(inR (Yi+k_) Xf.length&&(decide ((Int.toNat (Yi+k_))<Xf.length)&&(ac .i64 (k_+1)&&K ((Int.fdiv (IntKind.wrap .u64 ((IntKind.wrap .u64 ((IntKind.wrap .u64 ((IntKind.wrap .u64 (ZE.getD Yi.toNat 0))*(IntKind.wrap .u64 (W2.getD k_.toNat 0))))+(IntKind.wrap .u64 (Xf.getD (Int.toNat (Yi+k_)) 0))))+carry)) (2 ^ 32)),(k_+1),(Xf.set (Int.toNat (Yi+k_)) (IntKind.wrap .u32 (IntKind.wrap .u64 ((IntKind.wrap .u64 ((IntKind.wrap .u64 ((IntKind.wrap .u64 (ZE.getD Yi.toNat 0))*(IntKind.wrap .u64 (W2.getD k_.toNat 0))))+(IntKind.wrap .u64 (Xf.getD (Int.toNat (Yi+k_)) 0))))+carry)))))))))))))) (e0 carry Xf))
def lT (N:Nat) (XP W0:LI) (e0:Kz9):(Int × LI)->((Int × LI)->Bool)->Bool:=λv_ K=>match v_ with
 | (i,out)=>(cond (decide (i<((XP.length:Nat):Int))) (ah N (lU N XP W0 i (λXL Yc=>ac .i64 (i+((W0.length:Nat):Int))&&(inR (i+((W0.length:Nat):Int)) Yc.length&&(decide ((Int.toNat (i+((W0.length:Nat):Int)))<Yc.length)&&(ac .i64 (i+1)&&K ((i+1),(Yc.set (Int.toNat (i+((W0.length:Nat):Int))) (IntKind.wrap .u32 XL)))))))) (0,0,out)) (e0 out))
def Rd (N:Nat) (a b:LI) (k0:Kz9):Bool:=
 (ac .i64 (((a.length:Nat):Int)+((b.length:Nat):Int))&&(iW 4 (((a.length:Nat):Int)+((b.length:Nat):Int)) (((a.length:Nat):Int)+((b.length:Nat):Int))&&ah N (lT N a b (λYO=>qx N YO (λmr=>decide ((0+mr)<=YO.length)&&k0 (List.take mr (List.drop 0 YO))))) (0,(List.replicate (Int.toNat (((a.length:Nat):Int)+((b.length:Nat):Int))) (0:Int)))))
def xi (N:Nat):LI->LI->(Kz9)->Bool:=aw N (Rd N)
def lQ (N:Nat) (XP W0:LI) (e0:Kz9):(Int × Int × LI)->((Int × Int × LI)->Bool)->Bool:=λv_ K=>match v_ with
 | (borrow,i,out)=>(cond (decide (i<((XP.length:Nat):Int))) (cond (decide (i<((W0.length:Nat):Int))) (inR i W0.length&&(inR i XP.length&&cond (decide ((IntKind.wrap .u64 (XP.getD i.toNat 0))<(IntKind.wrap .u64 (borrow+(IntKind.wrap .u64 (W0.getD i.toNat 0)))))) (inR i out.length&&(decide (i.toNat<out.length)&&(ac .i64 (i+1)&&K (1,(i+1),(out.set i.toNat (IntKind.wrap .u32 (IntKind.wrap .u64 ((IntKind.wrap .u64 ((IntKind.wrap .u64 (XP.getD i.toNat 0))+4294967296)) - (IntKind.wrap .u64 (borrow+(IntKind.wrap .u64 (W0.getD i.toNat 0)))))))))))) (inR i out.length&&(decide (i.toNat<out.length)&&(ac .i64 (i+1)&&K (0,(i+1),(out.set i.toNat (IntKind.wrap .u32 (IntKind.wrap .u64 ((IntKind.wrap .u64 (XP.getD i.toNat 0)) - (IntKind.wrap .u64 (borrow+(IntKind.wrap .u64 (W0.getD i.toNat 0)))))))))))))) (inR i XP.length&&cond (decide ((IntKind.wrap .u64 (XP.getD i.toNat 0))<borrow)) (inR i out.length&&(decide (i.toNat<out.length)&&(ac .i64 (i+1)&&K (1,(i+1),(out.set i.toNat (IntKind.wrap .u32 (IntKind.wrap .u64 ((IntKind.wrap .u64 ((IntKind.wrap .u64 (XP.getD i.toNat 0))+4294967296)) - borrow)))))))) (inR i out.length&&(decide (i.toNat<out.length)&&(ac .i64 (i+1)&&K (0,(i+1),(out.set i.toNat (IntKind.wrap .u32 (IntKind.wrap .u64 ((IntKind.wrap .u64 (XP.getD i.toNat 0)) - borrow)))))))))) (e0 out))
def sE (N:Nat) (a b:LI) (k0:Kz9):Bool:=
 (iW 4 ((a.length:Nat):Int) ((a.length:Nat):Int)&&ah N (lQ N a b (λXf=>qx N Xf (λmr=>decide ((0+mr)<=Xf.length)&&k0 (List.take mr (List.drop 0 Xf))))) (0,0,(List.replicate (Int.toNat ((a.length:Nat):Int)) (0:Int))))
def no (N:Nat):LI->LI->(Kz9)->Bool:=aw N (sE N)
def LZ (N:Nat) (a:LI) (u:Int) (b:LI) (v:Int) (k0:Kz9):Bool:=
 (CX N u (λnsr=>xi N a nsr (λW1=>CX N v (λW6=>xi N b W6 (λW8=>no N W1 W8 (λXh=>k0 Xh))))))
def Jm (N:Nat):LI->Int->LI->Int->(Kz9)->Bool:=aw N (LZ N)
def uk (N:Nat) (a:LI) (u:Int) (b:LI) (v:Int) (k0:Kz9):Bool:=
 (cond (decide (v<=0)) (ac .i64 (0 - v)&&Jm N a (IntKind.wrap .u64 u) b (IntKind.wrap .u64 (0 - v)) (λnsr=>k0 nsr)) (ac .i64 (0 - u)&&Jm N b (IntKind.wrap .u64 v) a (IntKind.wrap .u64 (0 - u)) (λW1=>k0 W1)))
def oh (N:Nat):LI->Int->LI->Int->(Kz9)->Bool:=aw N (uk N)
def Bn (N:Nat) (e0:Kz3):(LI × LI)->((LI × LI)->Bool)->Bool:=λv_ K=>match v_ with
 | (ZE,W2)=>(cond (decide (((W2.length:Nat):Int)>2)) (K1 N false ZE (λW4=>ac .i64 (W4 - 62)&&rA N ZE (W4 - 62) (λW_=>rA N W2 (W4 - 62) (λXx=>tQ N W_ Xx (λXJ n5 n6 n7=>cond (n5==0) (qw N ZE W2 (λnsr W1=>K (W2,W1))) (oh N ZE XJ W2 n5 (λW6=>oh N ZE n6 W2 n7 (λW8=>K (W6,W8))))))))) (e0 ZE W2))
def yh (N:Nat) (e0:Kz9):(LI × LI)->((LI × LI)->Bool)->Bool:=λv_ K=>match v_ with
 | (a_4,Xd)=>(cond (decide (((Xd.length:Nat):Int)>0)) (qw N a_4 Xd (λXh Xg=>K (Xd,Xg))) (e0 a_4))
def Iu (N:Nat) (a b XP W0:LI) (k0:Kz9):Bool:=
 (ah N (Bn N (λa_3 W7=>ah N (yh N (λa_5=>decide ((List.length ([]++a_5))*4<=140737488355328)&&k0 ([]++a_5))) (a_3,W7))) (XP,W0))
def LO (N:Nat) (a b:LI) (k0:Kz9):Bool:=
 (D2 N a b (λnr=>cond (decide (nr<0)) (Iu N a b b a k0) (Iu N a b a b k0)))
def Gl (N:Nat):LI->LI->(Kz9)->Bool:=aw N (LO N)
def JE (N:Nat) (neg:Bool) (a b:LI) (W0 W2:Bool) (XP W7:LI) (k0:Kx6):Bool:=
 (Gk N neg XP W0 W2 (λXA s12 s13=>Gq N false W7 XA s12 W2 s13 (λXS s14=>k0 XA s12 XS s14)))
def Mc (N:Nat) (neg:Bool) (a b:LI) (W0 W2:Bool) (n:Int) (k0:Kx6):Bool:=
 (BZ N a n (λXh=>BZ N b n (λXg=>sQ2 N false Xg (λW_=>ac .i64 W_&&K1 N false Xg (λXx=>ac .i64 (Xx - 1)&&cond (W_ != (Xx - 1)) (Gl N Xh Xg (λs6=>rZ N (λs7=>D2 N s6 s7 (λXJ=>cond (XJ != 0) (qw N Xh s6 (λs8 s9=>qw N Xg s6 (λs10 s11=>JE N neg a b W0 W2 s8 s10 k0))) (JE N neg a b W0 W2 Xh Xg k0))))) (JE N neg a b W0 W2 Xh Xg k0))))))
def QQ (N:Nat) (neg:Bool) (a b:LI) (W0 W2:Bool) (k0:Kx6):Bool:=
 (cond (((a.length:Nat):Int)==0) (Gk N false [] W0 W2 (λcr nsr W1=>rZ N (λW6=>Gq N false W6 cr nsr W2 W1 (λW3 W8=>k0 cr nsr W3 W8)))) (sQ2 N false a (λnr=>sQ2 N false b (λW4=>cond (decide (W4<nr)) (Mc N neg a b W0 W2 W4 k0) (Mc N neg a b W0 W2 nr k0)))))
def KX (N:Nat):Bool->LI->LI->Bool->Bool->(Kx6)->Bool:=aw N (QQ N)
def Ud (N:Nat) (b W0 W2:Bool) (W7:LI) (k0:Kx6):Bool:=
 (rZ N (λnsr=>KX N W2 W7 nsr b W0 (λcr W1 W3 W6=>k0 cr W1 W3 W6)))
def PL (N:Nat):Bool->Bool->Bool->LI->(Kx6)->Bool:=Ud N
def jv (N:Nat) (n:Int) (b:Bool) (u:Int) (k0:Ky5):Bool:=
 (CX N u (λnsr=>yU N (decide (n<0)) nsr b (λcr W1=>k0 cr W1)))
def Ly (N:Nat) (n:Int) (b:Bool) (k0:Ky5):Bool:=
 (cond (decide (n<0)) (jv N n b (IntKind.wrap .u64 (0 - (IntKind.wrap .u64 n))) k0) (jv N n b (IntKind.wrap .u64 n) k0))
def Qx (N:Nat):Int->Bool->(Ky5)->Bool:=aw N (Ly N)
def wL (N:Nat) (n:Int) (k0:Ky5):Bool:=
 (Qx N n false (λcr nsr=>k0 cr nsr))
def nW (N:Nat):Int->(Ky5)->Bool:=wL N
def Ug (N:Nat) (b W0 W2:Bool) (W7:LI) (Xd:Bool) (Xe:LI) (k0:Kx6):Bool:=
 (KX N (W2 != Xd) W7 Xe b W0 (λcr nsr W3 W1=>k0 cr nsr W3 W1))
def US (N:Nat):Bool->Bool->Bool->LI->Bool->LI->(Kx6)->Bool:=Ug N
def Rq (N:Nat) (x:Int) (b:Bool) (W0:LI) (k0:Kx6):Bool:=
 (cond (decide (x>=0)) (TQ N x 0 b W0 (PL N false false b W0 (λcr nsr W3 W1=>k0 cr nsr W3 W1)) (λXA W6=>PL N false false XA W6 (λXS W8 YT Xh=>k0 XS W8 YT Xh))) (nW N 1 (λacu Xg=>ac .i64 (0 - x)&&Jh N (IntKind.wrap .u64 (0 - x)) false acu Xg (λacv s6=>US N false false b W0 acv s6 (λacw s7 c8 s8=>k0 acw s7 c8 s8)))))
def UW (N:Nat):Int->Bool->LI->(Kx6)->Bool:=aw N (Rq N)
def yn (N:Nat) (x:Fl) (k0:Kx6):Bool:=
 (Bg N x (λnr cr nsr=>UW N nr cr nsr (λW3 W1 XA W6=>k0 W3 W1 XA W6)))
def tU (N:Nat):Fl->(Kx6)->Bool:=yn N
def lW (N:Nat) (afX:LF) (agm afx afy r_2 r_3:Int) (e0:List RY2->Bool):(Int × List RY2)->((Int × List RY2)->Bool)->Bool:=λv_ K=>match v_ with
 | (ae3,b2)=>(cond (decide (ae3<agm)) (inR ae3 afX.length&&tU N (afX.getD ae3.toNat none) (λXA W6 XS W8=>decide ((List.length b2+1)*8<=140737488355328)&&(ac .i64 (ae3+1)&&K ((ae3+1),(b2++[((XA,W6),(XS,W8))]))))) (e0 b2))
def sJ (N:Nat) (XK W9:Int) (Xu:LF) (k0:List RY2->Bool):Bool:=
 (ah N (lW N Xu ((Xu.length:Nat):Int) 0 0 XK W9 (λ(YB:List RY2)=>k0 YB)) (0,[]))
def tT (N:Nat):Int->Int->LF->(List RY2->Bool)->Bool:=aw N (sJ N)
def Ls (N:Nat) (XK W9:Int) (Xu:List RY3) (i j:Int) (k0:Kx6):Bool:=
 (ac .i64 (i*W9)&&(ac .i64 ((i*W9)+j)&&(inR ((i*W9)+j) Xu.length&&k0 (Xu.getD (Int.toNat ((i*W9)+j)) ((false,[]),(false,[]))).1.1 (Xu.getD (Int.toNat ((i*W9)+j)) ((false,[]),(false,[]))).1.2 (Xu.getD (Int.toNat ((i*W9)+j)) ((false,[]),(false,[]))).2.1 (Xu.getD (Int.toNat ((i*W9)+j)) ((false,[]),(false,[]))).2.2)))
def Jf (N:Nat):Int->Int->List RY3->Int->Int->(Kx6)->Bool:=aw N (Ls N)
def Ri (N:Nat) (r_0:Bool) (r_1:LI) (r_2:Bool) (r_3:LI) (k0:Kz9):Bool:=
 (cond (((r_3.length:Nat):Int)==0) (rZ N (λnsr=>k0 nsr)) (k0 r_3))
def Od (N:Nat):Bool->LI->Bool->LI->(Kz9)->Bool:=aw N (Ri N)
def sC (N:Nat) (X1:Bool) (Xm:LI) (XV:Bool) (X9:LI) (y_0:Bool) (X0:LI) (YS:Bool) (ZJ:LI) (k0:Kz3):Bool:=
 (Od N y_0 X0 YS ZJ (λnsr=>xi N Xm nsr (λW1=>Od N X1 Xm XV X9 (λW6=>xi N X0 W6 (λW8=>k0 W1 W8)))))
def yY (N:Nat):Bool->LI->Bool->LI->Bool->LI->Bool->LI->(Kz3)->Bool:=aw N (sC N)
def LP (N:Nat) (b:Bool) (W0:LI) (W2:Bool) (W7:LI) (k0:Kz5):Bool:=
 (cond (b != W2) (cond b (k0 (-1)) (k0 1)) (D2 N W0 W7 (λnr=>cond b (ac .i64 (0 - nr)&&k0 (0 - nr)) (k0 nr))))
def Qy (N:Nat):Bool->LI->Bool->LI->(Kz5)->Bool:=aw N (LP N)
def vk (N:Nat) (r_0:Bool) (r_1:LI) (r_2:Bool) (r_3:LI) (X1:Bool) (Xm:LI) (XV:Bool) (X9:LI) (k0:Kz5):Bool:=
 (yY N r_0 r_1 r_2 r_3 X1 Xm XV X9 (λnsr W1=>Qy N r_0 nsr X1 W1 (λnr=>k0 nr)))
def pS (N:Nat):Bool->LI->Bool->LI->Bool->LI->Bool->LI->(Kz5)->Bool:=vk N
def Ee (N:Nat) (Yi m_5 m_6:Int) (m_7:List RY3) (e0:Kz4) (e1:Bool):(Int)->((Int)->Bool)->Bool:=λv_ K=>match v_ with
 | j=>(cond (decide (j<Yi)) (Jf N m_5 m_6 m_7 Yi j (λcr nsr W3 W1=>Jf N m_5 m_6 m_7 j Yi (λXA W6 XS W8=>pS N cr nsr W3 W1 XA W6 XS W8 (λnr=>cond (nr != 0) (e0 false) (ac .i64 (j+1)&&K (j+1)))))) e1)
def Ed (N:Nat) (m X6:Int) (m_4:List RY3) (e0:Kz4) (e1:Bool):(Int)->((Int)->Bool)->Bool:=λv_ K=>match v_ with
 | i=>(cond (decide (i<m)) (ah N (Ee N i m X6 m_4 (λt2=>e0 t2) (ac .i64 (i+1)&&K (i+1))) 0) e1)
def Q2 (N:Nat) (XK W9:Int) (Xu:List RY3) (k0:Kz4):Bool:=
 (ah N (Ed N XK W9 Xu (λabU=>k0 abU) (k0 true)) 0)
def TK (N:Nat):Int->Int->List RY3->(Kz4)->Bool:=aw N (Q2 N)
def kj (N:Nat) (aeB ZP Zt Zu Xu X6:Int) (e0:List RY2->Bool):(Int × List RY2)->((Int × List RY2)->Bool)->Bool:=λv_ K=>match v_ with
 | (Yi,b2)=>(ac .i64 (aeB*ZP)&&cond (decide (Yi<(aeB*ZP))) (decide ((List.length b2+1)*8<=140737488355328)&&(ac .i64 (Yi+1)&&K ((Yi+1),(b2++[((false,[]),(false,[]))])))) (e0 b2))
def qK (N:Nat) (rows cols:Int) (k0:List RY2->Bool):Bool:=
 (ah N (kj N rows cols 0 0 rows cols (λ(YB:List RY2)=>k0 YB)) (0,[]))
def rD (N:Nat):Int->Int->(List RY2->Bool)->Bool:=aw N (qK N)
def rK (N:Nat) (neg b:Bool) (W0:LI) (W2:Bool) (W7 Xd:LI) (k0:Ky1):Bool:=
 (qx N Xd (λmr=>cond (neg==true) (k0 (decide (((mr:Nat):Int)>0)) 0 mr) (k0 false 0 mr)))
def sa (N:Nat):Bool->Bool->LI->Bool->LI->LI->(Ky1)->Bool:=rK N
def Qc (N:Nat) (neg b:Bool) (W0 W2:Nat) (W7:Bool) (Xd Xe Xn:LI) (k0:Ky1):Bool:=
 (qx N Xe (λmr=>cond (neg==true) (k0 (decide (((mr:Nat):Int)>0)) 0 mr) (k0 false 0 mr)))
def Qz (N:Nat):Bool->Bool->Nat->Nat->Bool->LI->LI->LI->(Ky1)->Bool:=Qc N
def Rv (N:Nat) (X1:Bool) (Xm:LI) (XV:Bool) (X9:LI) (b:Bool) (W0:LI) (W2:Bool) (W7:LI) (k0:Kx6):Bool:=
 (decide ((List.length ([]++Xm))*4<=140737488355328)&&Od N X1 Xm XV X9 (λnsr=>decide ((List.length ([]++nsr))*4<=140737488355328)&&sa N X1 b W0 W2 W7 ([]++Xm) (λcr mr Yk=>Qz N false cr mr Yk W2 W7 ([]++nsr) ([]++Xm) (λW3 XF ad4=>decide ((mr+Yk)<=(List.length ([]++Xm)))&&(decide ((XF+ad4)<=(List.length ([]++nsr)))&&k0 cr (List.take Yk (List.drop mr ([]++Xm))) W3 (List.take ad4 (List.drop XF ([]++nsr))))))))
def TX (N:Nat):Bool->LI->Bool->LI->Bool->LI->Bool->LI->(Kx6)->Bool:=aw N (Rv N)
def Ei (N:Nat) (t12 m X6:Int) (m_4:List RY3) (t2 abU t t_1:Int) (e0:List RY2->Bool):(Int × List RY2)->((Int × List RY2)->Bool)->Bool:=λv_ K=>match v_ with
 | (t13,b3)=>(cond (decide (t13<t12)) (inR t13 b3.length&&(decide (t13.toNat<b3.length)&&(inR t13 m_4.length&&TX N (m_4.getD t13.toNat ((false,[]),(false,[]))).1.1 (m_4.getD t13.toNat ((false,[]),(false,[]))).1.2 (m_4.getD t13.toNat ((false,[]),(false,[]))).2.1 (m_4.getD t13.toNat ((false,[]),(false,[]))).2.2 (b3.getD t13.toNat ((false,[]),(false,[]))).1.1 (b3.getD t13.toNat ((false,[]),(false,[]))).1.2 (b3.getD t13.toNat ((false,[]),(false,[]))).2.1 (b3.getD t13.toNat ((false,[]),(false,[]))).2.2 (λcr nsr W3 W1=>ac .i64 (t13+1)&&K ((t13+1),(b3.set t13.toNat ((cr,nsr),(W3,W1)))))))) (e0 b3))
def Ru (N:Nat) (XK W9:Int) (Xu:List RY3) (k0:List RY2->Bool):Bool:=
 (rD N XK W9 (λ(lr:List RY2)=>ah N (Ei N ((Xu.length:Nat):Int) XK W9 Xu 0 0 XK W9 (λ(b2:List RY2)=>k0 b2)) (0,lr)))
def TW (N:Nat):Int->Int->List RY3->(List RY2->Bool)->Bool:=aw N (Ru N)
def QP (N:Nat) (XK W9 i j:Int) (b:List RY2) (k0:Kz6):Bool:=
 (ac .i64 (i*W9)&&(ac .i64 ((i*W9)+j)&&(inR ((i*W9)+j) b.length&&(decide ((Int.toNat ((i*W9)+j))<b.length)&&k0 (Int.toNat ((i*W9)+j))))))
def Gn (N:Nat):Int->Int->Int->Int->List RY2->(Kz6)->Bool:=aw N (QP N)
def xA (N:Nat) (z_0:Bool) (YI:LI) (z_2:Bool) (z_3:LI) (k0:Kz5):Bool:=
 (cond (((YI.length:Nat):Int)==0) (k0 0) (cond z_0 (k0 (-1)) (k0 1)))
def CY (N:Nat):Bool->LI->Bool->LI->(Kz5)->Bool:=aw N (xA N)
def Qa (N:Nat) (r_0:Bool) (r_1:LI) (r_2:Bool) (r_3:LI) (k0:Kz5):Bool:=
 (CY N r_0 r_1 r_2 r_3 (λnr=>k0 nr))
def Gj (N:Nat):Bool->LI->Bool->LI->(Kz5)->Bool:=Qa N
def GQ7 (N:Nat) (b:Bool) (W0:LI) (W2:Bool) (W7:LI) (k0:Kz9):Bool:=
 (cond (((W7.length:Nat):Int)==0) (rZ N (λnsr=>k0 nsr)) (k0 W7))
def sQ7 (N:Nat):Bool->LI->Bool->LI->(Kz9)->Bool:=aw N (GQ7 N)
def QN (N:Nat) (b W0 W2:Bool) (W7:LI) (Xd:Bool) (Xe:LI) (Xn:Bool) (Xk:LI) (Xw:Bool) (Xy:LI) (k0:Kx6):Bool:=
 (sQ7 N Xn Xk Xw Xy (λnsr=>xi N W7 nsr (λW1=>sQ7 N W2 W7 Xd Xe (λW6=>xi N W6 Xk (λW8=>KX N (W2 != Xn) W1 W8 b W0 (λcr Xh W3 Xg=>k0 cr Xh W3 Xg))))))
def TD (N:Nat):Bool->Bool->Bool->LI->Bool->LI->Bool->LI->Bool->LI->(Kx6)->Bool:=aw N (QN N)
def QM (N:Nat) (b W0 W2:Bool) (W7:LI) (Xd:Bool) (Xe:LI) (Xn:Bool) (Xk:LI) (Xw:Bool) (Xy:LI) (k0:Kx6):Bool:=
 (xi N W7 Xk (λnsr=>sQ7 N W2 W7 Xd Xe (λW1=>sQ7 N Xn Xk Xw Xy (λW6=>xi N W1 W6 (λW8=>KX N (W2 != Xn) nsr W8 b W0 (λcr Xh W3 Xg=>k0 cr Xh W3 Xg))))))
def TC (N:Nat):Bool->Bool->Bool->LI->Bool->LI->Bool->LI->Bool->LI->(Kx6)->Bool:=aw N (QM N)
def Rp (N:Nat) (b:Bool) (W0:LI) (W2:Bool) (W7:LI) (Xd:Bool) (Xe:LI) (Xn:Bool) (Xk:LI) (k0:Kz3):Bool:=
 (sQ7 N Xd Xe Xn Xk (λnsr=>xi N W0 nsr (λW1=>sQ7 N b W0 W2 W7 (λW6=>xi N Xe W6 (λW8=>k0 W1 W8)))))
def UV (N:Nat):Bool->LI->Bool->LI->Bool->LI->Bool->LI->(Kz3)->Bool:=aw N (Rp N)
def gj (N:Nat) (XP W0:LI) (e0:Ky9):(Int × Int × LI)->((Int × Int × LI)->Bool)->Bool:=λv_ K=>match v_ with
 | (carry,i,out)=>(cond (decide (i<((XP.length:Nat):Int))) (inR i XP.length&&cond (decide (i<((W0.length:Nat):Int))) (inR i W0.length&&(inR i out.length&&(decide (i.toNat<out.length)&&(ac .i64 (i+1)&&K ((Int.fdiv (IntKind.wrap .u64 ((IntKind.wrap .u64 ((IntKind.wrap .u64 (XP.getD i.toNat 0))+carry))+(IntKind.wrap .u64 (W0.getD i.toNat 0)))) (2 ^ 32)),(i+1),(out.set i.toNat (IntKind.wrap .u32 (IntKind.wrap .u64 ((IntKind.wrap .u64 ((IntKind.wrap .u64 (XP.getD i.toNat 0))+carry))+(IntKind.wrap .u64 (W0.getD i.toNat 0))))))))))) (inR i out.length&&(decide (i.toNat<out.length)&&(ac .i64 (i+1)&&K ((Int.fdiv (IntKind.wrap .u64 ((IntKind.wrap .u64 (XP.getD i.toNat 0))+carry)) (2 ^ 32)),(i+1),(out.set i.toNat (IntKind.wrap .u32 (IntKind.wrap .u64 ((IntKind.wrap .u64 (XP.getD i.toNat 0))+carry))))))))) (e0 carry out))
def vH (N:Nat) (a b:LI) (k0:Kz9):Bool:=
 (cond (decide (((a.length:Nat):Int)<((b.length:Nat):Int))) (ac .i64 (((b.length:Nat):Int)+1)&&(iW 4 (((b.length:Nat):Int)+1) (((b.length:Nat):Int)+1)&&ah N (gj N b a (λXL Xf=>inR ((b.length:Nat):Int) Xf.length&&(decide ((Int.toNat ((b.length:Nat):Int))<Xf.length)&&qx N (Xf.set (Int.toNat ((b.length:Nat):Int)) (IntKind.wrap .u32 XL)) (λmr=>decide ((0+mr)<=(List.length (Xf.set (Int.toNat ((b.length:Nat):Int)) (IntKind.wrap .u32 XL))))&&k0 (List.take mr (List.drop 0 (Xf.set (Int.toNat ((b.length:Nat):Int)) (IntKind.wrap .u32 XL)))))))) (0,0,(List.replicate (Int.toNat (((b.length:Nat):Int)+1)) (0:Int))))) (ac .i64 (((a.length:Nat):Int)+1)&&(iW 4 (((a.length:Nat):Int)+1) (((a.length:Nat):Int)+1)&&ah N (gj N a b (λYH Yc=>inR ((a.length:Nat):Int) Yc.length&&(decide ((Int.toNat ((a.length:Nat):Int))<Yc.length)&&qx N (Yc.set (Int.toNat ((a.length:Nat):Int)) (IntKind.wrap .u32 YH)) (λYk=>decide ((0+Yk)<=(List.length (Yc.set (Int.toNat ((a.length:Nat):Int)) (IntKind.wrap .u32 YH))))&&k0 (List.take Yk (List.drop 0 (Yc.set (Int.toNat ((a.length:Nat):Int)) (IntKind.wrap .u32 YH)))))))) (0,0,(List.replicate (Int.toNat (((a.length:Nat):Int)+1)) (0:Int))))))
def wz (N:Nat):LI->LI->(Kz9)->Bool:=aw N (vH N)
def Rw (N:Nat) (turn b W0:Bool) (W2:LI) (W7:Bool) (Xd:LI) (k0:Ky5):Bool:=
 (cond (W0==(W7 != turn)) (wz N W2 Xd (λnsr=>yU N (W7 != turn) nsr b (λcr W1=>k0 cr W1))) (D2 N W2 Xd (λnr=>cond (decide (nr>=0)) (no N W2 Xd (λW6=>yU N W0 W6 b (λW3 W8=>k0 W3 W8))) (no N Xd W2 (λXh=>yU N (W7 != turn) Xh b (λXA Xg=>k0 XA Xg))))))
def TY (N:Nat):Bool->Bool->Bool->LI->Bool->LI->(Ky5)->Bool:=aw N (Rw N)
def P9 (N:Nat) (b W0:Bool) (W2:LI) (W7:Bool) (Xd:LI) (k0:Ky5):Bool:=
 (TY N true b W0 W2 W7 Xd (λcr nsr=>k0 cr nsr))
def NZ (N:Nat):Bool->Bool->LI->Bool->LI->(Ky5)->Bool:=P9 N
def Ll (N:Nat) (neg:Bool) (m:LI) (b:Bool) (W0:LI) (W2:Bool) (W7:LI) (k0:Ky5):Bool:=
 (mJ N m (λnsr=>cond (neg==true) (k0 (decide (((nsr.length:Nat):Int)>0)) nsr) (k0 false nsr)))
def Gf (N:Nat):Bool->LI->Bool->LI->Bool->LI->(Ky5)->Bool:=Ll N
def JF (N:Nat) (neg:Bool) (a b:LI) (W0:Bool) (W2:LI) (W7:Bool) (Xd XP Xe:LI) (k0:Kx6):Bool:=
 (Gf N neg XP W0 W2 W7 Xd (λXA s11=>Gq N false Xe XA s11 W7 Xd (λXS s12=>k0 XA s11 XS s12)))
def Md (N:Nat) (neg:Bool) (a b:LI) (W0:Bool) (W2:LI) (W7:Bool) (Xd:LI) (n:Int) (k0:Kx6):Bool:=
 (BZ N a n (λW8=>BZ N b n (λXh=>sQ2 N false Xh (λW_=>ac .i64 W_&&K1 N false Xh (λXx=>ac .i64 (Xx - 1)&&cond (W_ != (Xx - 1)) (Gl N W8 Xh (λXg=>rZ N (λs6=>D2 N Xg s6 (λXJ=>cond (XJ != 0) (qw N W8 Xg (λs7 s8=>qw N Xh Xg (λs9 s10=>JF N neg a b W0 W2 W7 Xd s7 s9 k0))) (JF N neg a b W0 W2 W7 Xd W8 Xh k0))))) (JF N neg a b W0 W2 W7 Xd W8 Xh k0))))))
def Rg (N:Nat) (neg:Bool) (a b:LI) (W0:Bool) (W2:LI) (W7:Bool) (Xd:LI) (k0:Kx6):Bool:=
 (cond (((a.length:Nat):Int)==0) (Gf N false [] W0 W2 W7 Xd (λcr nsr=>rZ N (λW1=>Gq N false W1 cr nsr W7 Xd (λW3 W6=>k0 cr nsr W3 W6)))) (sQ2 N false a (λnr=>sQ2 N false b (λW4=>cond (decide (W4<nr)) (Md N neg a b W0 W2 W7 Xd W4 k0) (Md N neg a b W0 W2 W7 Xd nr k0)))))
def TR (N:Nat):Bool->LI->LI->Bool->LI->Bool->LI->(Kx6)->Bool:=aw N (Rg N)
def QS (N:Nat) (b:Bool) (W0:LI) (W2:Bool) (W7:LI) (Xd:Bool) (Xe:LI) (Xn:Bool) (Xk:LI) (k0:Kx6):Bool:=
 (UV N b W0 W2 W7 Xd Xe Xn Xk (λnsr W1=>sQ7 N b W0 W2 W7 (λW6=>sQ7 N Xd Xe Xn Xk (λW8=>xi N W6 W8 (λXh=>NZ N false b nsr Xd W1 (λcr Xg=>TR N cr Xg Xh b W0 W2 W7 (λW3 s6 XA s7=>k0 W3 s6 XA s7)))))))
def TE (N:Nat):Bool->LI->Bool->LI->Bool->LI->Bool->LI->(Kx6)->Bool:=aw N (QS N)
def Ec (N:Nat) (Yi afs:Int) (r:Bool) (r_1:LI) (r_2:Bool) (r_3:LI) (m Xu:Int) (e0:List RY2->Bool):(Int × List RY2)->((Int × List RY2)->Bool)->Bool:=λv_ K=>match v_ with
 | (j,b0)=>(cond (decide (j<Xu)) (Gn N m Xu Yi j b0 (λmr=>Gn N m Xu Yi j b0 (λYk=>Gn N m Xu afs j b0 (λXF=>TC N false false r r_1 r_2 r_3 (b0.getD XF ((false,[]),(false,[]))).1.1 (b0.getD XF ((false,[]),(false,[]))).1.2 (b0.getD XF ((false,[]),(false,[]))).2.1 (b0.getD XF ((false,[]),(false,[]))).2.2 (λcr nsr W3 W1=>decide (Yk=mr)&&TE N (List.getD (b0.set XF (((b0.getD XF ((false,[]),(false,[]))).1.1,(b0.getD XF ((false,[]),(false,[]))).1.2),((b0.getD XF ((false,[]),(false,[]))).2.1,(b0.getD XF ((false,[]),(false,[]))).2.2))) mr ((false,[]),(false,[]))).1.1 (List.getD (b0.set XF (((b0.getD XF ((false,[]),(false,[]))).1.1,(b0.getD XF ((false,[]),(false,[]))).1.2),((b0.getD XF ((false,[]),(false,[]))).2.1,(b0.getD XF ((false,[]),(false,[]))).2.2))) mr ((false,[]),(false,[]))).1.2 (List.getD (b0.set XF (((b0.getD XF ((false,[]),(false,[]))).1.1,(b0.getD XF ((false,[]),(false,[]))).1.2),((b0.getD XF ((false,[]),(false,[]))).2.1,(b0.getD XF ((false,[]),(false,[]))).2.2))) mr ((false,[]),(false,[]))).2.1 (List.getD (b0.set XF (((b0.getD XF ((false,[]),(false,[]))).1.1,(b0.getD XF ((false,[]),(false,[]))).1.2),((b0.getD XF ((false,[]),(false,[]))).2.1,(b0.getD XF ((false,[]),(false,[]))).2.2))) mr ((false,[]),(false,[]))).2.2 cr nsr W3 W1 (λXA W6 XS W8=>ac .i64 (j+1)&&K ((j+1),(List.set (b0.set XF (((b0.getD XF ((false,[]),(false,[]))).1.1,(b0.getD XF ((false,[]),(false,[]))).1.2),((b0.getD XF ((false,[]),(false,[]))).2.1,(b0.getD XF ((false,[]),(false,[]))).2.2))) mr ((XA,W6),(XS,W8)))))))))) (e0 b0))
def QZ (N:Nat) (XK W9 i k_:Int) (b:List RY2) (W0:Bool) (W2:LI) (W7:Bool) (Xd:LI) (k0:List RY2->Bool):Bool:=
 (ah N (Ec N i k_ W0 W2 W7 Xd XK W9 (λ(aax:List RY2)=>k0 aax)) (0,b))
def TI (N:Nat):Int->Int->Int->Int->List RY2->Bool->LI->Bool->LI->(List RY2->Bool)->Bool:=aw N (QZ N)
def Bt (N:Nat) (c_1 ZE a_3:Int) (aeQ:List RY2) (e0:Kz5) (e1:Bool):(Int)->((Int)->Bool)->Bool:=λv_ K=>match v_ with
 | j=>(cond (decide (j<a_3)) (Gn N ZE a_3 c_1 j aeQ (λYk=>Gj N (aeQ.getD Yk ((false,[]),(false,[]))).1.1 (aeQ.getD Yk ((false,[]),(false,[]))).1.2 (aeQ.getD Yk ((false,[]),(false,[]))).2.1 (aeQ.getD Yk ((false,[]),(false,[]))).2.2 (λW_=>cond (W_ != 0) (e0 1) (ac .i64 (j+1)&&K (j+1))))) e1)
def Bp (N:Nat) (afw c_2:Int) (d:Nat) (a_4 a_5:Int) (e0:List RY2->Bool):(Int × List RY2)->((Int × List RY2)->Bool)->Bool:=λv_ K=>match v_ with
 | (i,X8)=>(cond (decide (i<a_4)) (Gn N a_4 a_5 i c_2 X8 (λXF=>((!decide (d=XF))&&true)&&TD N false false (X8.getD XF ((false,[]),(false,[]))).1.1 (X8.getD XF ((false,[]),(false,[]))).1.2 (X8.getD XF ((false,[]),(false,[]))).2.1 (X8.getD XF ((false,[]),(false,[]))).2.2 (X8.getD d ((false,[]),(false,[]))).1.1 (X8.getD d ((false,[]),(false,[]))).1.2 (X8.getD d ((false,[]),(false,[]))).2.1 (X8.getD d ((false,[]),(false,[]))).2.2 (λcr nsr W3 W1=>TI N a_4 a_5 i c_2 (List.set (X8.set d (((X8.getD d ((false,[]),(false,[]))).1.1,(X8.getD d ((false,[]),(false,[]))).1.2),((X8.getD d ((false,[]),(false,[]))).2.1,(X8.getD d ((false,[]),(false,[]))).2.2))) XF (((X8.getD XF ((false,[]),(false,[]))).1.1,(X8.getD XF ((false,[]),(false,[]))).1.2),((X8.getD XF ((false,[]),(false,[]))).2.1,(X8.getD XF ((false,[]),(false,[]))).2.2))) cr nsr W3 W1 (λ(ahE:List RY2)=>ac .i64 (i+1)&&K ((i+1),ahE))))) (e0 X8))
def Bs (N:Nat) (a XP:Int) (e0:Kz5) (e1:Kz5):(Int × Int × List RY2)->((Int × Int × List RY2)->Bool)->Bool:=λv_ K=>match v_ with
 | (sign,c,b1)=>(cond (decide (c<a)) (Gn N a XP c c b1 (λmr=>Gj N (b1.getD mr ((false,[]),(false,[]))).1.1 (b1.getD mr ((false,[]),(false,[]))).1.2 (b1.getD mr ((false,[]),(false,[]))).2.1 (b1.getD mr ((false,[]),(false,[]))).2.2 (λnr=>cond (decide (nr<0)) (e0 1) (Gj N (b1.getD mr ((false,[]),(false,[]))).1.1 (b1.getD mr ((false,[]),(false,[]))).1.2 (b1.getD mr ((false,[]),(false,[]))).2.1 (b1.getD mr ((false,[]),(false,[]))).2.2 (λW4=>cond (W4==0) (ac .i64 (c+1)&&ah N (Bt N c a XP b1 (λt2=>e0 t2) (ac .i64 (c+1)&&K (2,(c+1),b1))) (c+1)) (ac .i64 (c+1)&&ah N (Bp N sign c mr a XP (λ(aay:List RY2)=>ac .i64 (c+1)&&K (sign,(c+1),aay))) ((c+1),b1))))))) (e1 sign))
def Lx (N:Nat) (XK W9:Int) (Xu:List RY3) (k0:Kz5):Bool:=
 (TW N XK W9 Xu (λ(lr:List RY2)=>ah N (Bs N XK W9 (λabU=>k0 abU) (λag6=>k0 ag6)) (3,0,lr)))
def N1 (N:Nat):Int->Int->List RY3->(Kz5)->Bool:=aw N (Lx N)
def pM (N:Nat) (XK W9:Int) (Xu:LF) (k0:Ky6):Bool:=
 (rC N XK W9 Xu (λnr=>cond (nr != 0) (k0 0 nr) (cond (XK != W9) (k0 0 3) (tT N XK W9 Xu (λ(lr:List RY2)=>TK N XK W9 lr (λcr=>cond (!cr) (k0 0 112) (N1 N XK W9 lr (λW4=>k0 W4 0))))))))
def vz (N:Nat):Int->Int->LF->(Ky6)->Bool:=aw N (pM N)
def vl (N:Nat) (XK W9:Int) (Xu:LF) (k0:Ky6):Bool:=
 (vz N XK W9 Xu (λnr W4=>k0 nr W4))
def pT (N:Nat):Int->Int->LF->(Ky6)->Bool:=vl N
def Es (N:Nat) (XK W9:Int) (Xu:LF) (i j:Int) (k0:Kz7):Bool:=
 (ac .i64 (i*W9)&&(ac .i64 ((i*W9)+j)&&(inR ((i*W9)+j) Xu.length&&k0 (Xu.getD (Int.toNat ((i*W9)+j)) none))))
def xm (N:Nat):Int->Int->LF->Int->Int->(Kz7)->Bool:=Es N
def vJ (N:Nat) (a b:Fl) (k0:Kz4):Bool:=
 (oP N a (λnr=>oP N b (λW4=>k0 (nr==W4))))
def wA (N:Nat):Fl->Fl->(Kz4)->Bool:=aw N (vJ N)
def fX (N:Nat) (Yi m_5 m_6:Int) (m_7:LF) (e0:Kz5) (e1:Bool):(Int)->((Int)->Bool)->Bool:=λv_ K=>match v_ with
 | j=>(cond (decide (j<Yi)) (xm N m_5 m_6 m_7 Yi j (λxr=>xm N m_5 m_6 m_7 j Yi (λYe=>wA N xr Ye (λcr=>cond (!cr) (e0 91) (ac .i64 (j+1)&&K (j+1)))))) e1)
def fW (N:Nat) (m X6:Int) (m_4:LF) (e0:Kz5) (e1:Bool):(Int)->((Int)->Bool)->Bool:=λv_ K=>match v_ with
 | i=>(cond (decide (i<m)) (ah N (fX N i m X6 m_4 (λt2=>e0 t2) (ac .i64 (i+1)&&K (i+1))) 0) e1)
def Lt (N:Nat) (XK W9:Int) (Xu:LF) (k0:Kz5):Bool:=
 (rC N XK W9 Xu (λnr=>cond (nr != 0) (k0 nr) (cond (XK != W9) (k0 3) (ah N (fW N XK W9 Xu (λabU=>k0 abU) (k0 0)) 0))))
def Jg (N:Nat):Int->Int->LF->(Kz5)->Bool:=aw N (Lt N)
def GQ0 (N:Nat) (XC:LF) (Xj Xr:Int) (Xt:LF) (k0:Kz4):Bool:=
 (pT N Xj Xr Xt (λnr W4=>cond ((W4==0)==true) (cond ((nr==3)==true) (Jg N Xj Xr Xt (λW_=>cond ((W_==0)==true) (cond ((((XC.length:Nat):Int)==Xj)==true) (dj N XC Xj Xr Xt (λXx=>k0 (Xx==0))) (k0 false)) (k0 false))) (k0 false)) (k0 false)))
def sQ0 (N:Nat):LF->Int->Int->LF->(Kz4)->Bool:=aw N (GQ0 N)
def ot (N:Nat) (kind:Int) (k0:Kz5):Bool:=
 (cond (kind==0) (k0 1) (cond (kind==1) (k0 1) (cond (kind==4) (k0 1) (cond (kind==2) (k0 2) (cond (kind==3) (k0 3) (k0 0))))))
def iM (N:Nat):Int->(Kz5)->Bool:=aw N (ot N)
def sB (N:Nat) (x:Fl) (k0:Kz4):Bool:=
 (k0 (feq (iS x x) (some 0)))
def oO (N:Nat):Fl->(Kz4)->Bool:=sB N
def kS (N:Nat) (p_0 Z9:Int) (Zc p_3:Fl) (k0:Kz5):Bool:=
 (iM N p_0 (λnr=>cond (nr==0) (k0 140) (cond ((decide (Z9<1))==false) (cond (decide (Z9>12)) (k0 1) (oO N Zc (λcr=>cond ((!cr)==false) (oO N p_3 (λW3=>cond (!W3) (k0 4) (cond ((flt Zc (some 0))==false) (cond ((flt p_3 (some 0))==false) (cond ((fgt Zc (some 5057542381537067008))==false) (cond (fgt p_3 (some 5057542381537067008)) (k0 141) (k0 0)) (k0 141)) (k0 141)) (k0 141)))) (k0 4)))) (k0 1))))
def lF (N:Nat):Int->Int->Fl->Fl->(Kz5)->Bool:=aw N (kS N)
def cz (N:Nat) (t12:List RY0) (t13:Int) (e0:Kz5) (e1:Kz5):(Int × Int)->((Int × Int)->Bool)->Bool:=λv_ K=>match v_ with
 | (n,t14)=>(cond (decide (t14<t13)) (inR t14 t12.length&&lF N (t12.getD t14.toNat (0,(0,(none,none)))).1 (t12.getD t14.toNat (0,(0,(none,none)))).2.1 (t12.getD t14.toNat (0,(0,(none,none)))).2.2.1 (t12.getD t14.toNat (0,(0,(none,none)))).2.2.2 (λnr=>cond (nr != 0) (e0 nr) (iM N (t12.getD t14.toNat (0,(0,(none,none)))).1 (λW4=>ac .i64 ((t12.getD t14.toNat (0,(0,(none,none)))).2.1*W4)&&(ac .i64 (n+((t12.getD t14.toNat (0,(0,(none,none)))).2.1*W4))&&(ac .i64 (t14+1)&&K ((imm false (n+((t12.getD t14.toNat (0,(0,(none,none)))).2.1*W4)) 13),(t14+1)))))))) (e1 n))
def pL (N:Nat) (m:List RY0) (k0:Kz5):Bool:=
 (cond (((m.length:Nat):Int)==0) (k0 1) (ah N (cz N m ((m.length:Nat):Int) (λt2=>k0 t2) (λXT=>cond (decide (XT>12)) (k0 2) (k0 0))) (0,0)))
def pQ (N:Nat):List RY0->(Kz5)->Bool:=aw N (pL N)
def lM (N:Nat) (t14:List RY0) (t15:Int) (e0:Kz5):(Int × Int)->((Int × Int)->Bool)->Bool:=λv_ K=>match v_ with
 | (n,t16)=>(cond (decide (t16<t15)) (inR t16 t14.length&&iM N (t14.getD t16.toNat (0,(0,(none,none)))).1 (λW4=>ac .i64 ((t14.getD t16.toNat (0,(0,(none,none)))).2.1*W4)&&(ac .i64 (n+((t14.getD t16.toNat (0,(0,(none,none)))).2.1*W4))&&(ac .i64 (t16+1)&&K ((n+((t14.getD t16.toNat (0,(0,(none,none)))).2.1*W4)),(t16+1)))))) (e0 n))
def sx (N:Nat) (m:List RY0) (k0:Ky6):Bool:=
 (pQ N m (λnr=>cond (nr != 0) (k0 0 nr) (ah N (lM N m ((m.length:Nat):Int) (λXT=>k0 XT 0)) (0,0))))
def pA (N:Nat):List RY0->(Ky6)->Bool:=aw N (sx N)
def nt (N:Nat) (ticks:Int) (k0:Fl->Int->Bool):Bool:=
 (cond ((decide (ticks<(-1125899906842624)))==false) (cond (decide (ticks>1125899906842624)) (k0 (some 0) 1) (k0 (fdiv (some (FloatKind.nearest .f64 ticks)) (some 4696837146684686336)) 0)) (k0 (some 0) 1))
def kh (N:Nat):Int->(Fl->Int->Bool)->Bool:=aw N (nt N)
def zc (N:Nat) (i j:Int) (k0:Kz7):Bool:=
 (k0 (some 0))
def zu (N:Nat):Int->Int->(Kz7)->Bool:=zc N
def Br (N:Nat) (ZP i Yo agn t21 abF abI Xu X6:Int) (e0:Kz8):(Int × LF)->((Int × LF)->Bool)->Bool:=λv_ K=>match v_ with
 | (t22,YB)=>(cond (decide (t22<t21)) (zu N i t22 (λxr=>decide ((List.length (YB++[xr]))*8<=140737488355328)&&(ac .i64 (t22+1)&&K ((t22+1),(YB++[xr]))))) (e0 YB))
def fT (N:Nat) (aey t17 t6 Yf m W9:Int) (e0:Kz8):(Int × LF)->((Int × LF)->Bool)->Bool:=λv_ K=>match v_ with
 | (t18,b2)=>(cond (decide (t18<t17)) (ah N (Br N aey t18 t17 t18 aey t6 Yf m W9 (λXl=>ac .i64 (t18+1)&&K ((t18+1),Xl))) (0,b2)) (e0 b2))
def LA (N:Nat) (rows cols:Int) (k0:Kz8):Bool:=
 (ac .i64 (rows*cols)&&(iW 8 0 (rows*cols)&&ah N (fT N cols rows 0 0 rows cols (λZd=>k0 Zd)) (0,[])))
def N2 (N:Nat):Int->Int->(Kz8)->Bool:=aw N (LA N)
def LH (N:Nat) (rows cols:Int) (k0:Ky2) (k1:Kz1):Bool:=
 (Gr N rows (λcr=>cond ((!cr)==false) (Gr N cols (λW3=>cond (!W3) (k0 0 0 1) (N2 N rows cols (λxsr=>k1 0 xsr)))) (k0 0 0 1)))
def Jk (N:Nat):Int->Int->(Ky2)->(Kz1)->Bool:=aw N (LH N)
def sy (N:Nat) (p_0 Z9:Int) (Zc p_3 d:Fl) (k0:Kz2) (k1:Ky3) (k2:Kz8):Bool:=
 (cond (p_0==2) (k0 [(some 4607182418800017408),d] [(some 0),(some 4607182418800017408)]) (cond (p_0==3) (k1 [(some 4607182418800017408),d,(fdiv (aF d d) (some 4611686018427387904))] [(some 0),(some 4607182418800017408),d] [(some 0),(some 0),(some 4607182418800017408)]) (cond (p_0==4) (k2 [(fdiv (some 4607182418800017408) (ep (some 4607182418800017408) (aF p_3 d)))]) (k2 [(some 4607182418800017408)]))))
def pB (N:Nat):Int->Int->Fl->Fl->Fl->(Kz2)->(Ky3)->(Kz8)->Bool:=aw N (sy N)
def nL (N:Nat) (X_:Int) (ZK:Fl) (XN:Int) (acI:List RY0) (acM acQ acU acY t63 t64 t71 t72 aaZ aa0 a_4 a_5:Int) (W2 W7:LF) (e0:Bool):(Unit)->((Unit)->Bool)->Bool:=λv_ K=>match v_ with
 | _=>(cond (decide (t72<t71)) (ac .i64 (XN+0)&&(ac .i64 ((XN+0)*X_)&&(ac .i64 (((XN+0)*X_)+XN)&&(ac .i64 ((((XN+0)*X_)+XN)+t72)&&(inR t72 W2.length&&false))))) e0)
def mc (N:Nat) (n_3:Int) (d_3:Fl) (Yl:Int) (abA:List RY0) (abB abC abD abE ac3 adb adz ZX Zy Zz a_6 a_7:Int) (Xd Xe:LF) (e0:Bool):(Unit)->((Unit)->Bool)->Bool:=λv_ K=>match v_ with
 | _=>(cond (decide (ZX<adz)) (ac .i64 (Yl+1)&&(ac .i64 ((Yl+1)*n_3)&&(ac .i64 (((Yl+1)*n_3)+Yl)&&(ac .i64 ((((Yl+1)*n_3)+Yl)+ZX)&&(inR ZX Xe.length&&false))))) e0)
def nK (N:Nat) (XT:Int) (X8:Fl) (Z_:List RY0) (aac aaf t59 abF abI ZE a_3:Int) (b W0:LF) (e0:Kz5):(Int × Int)->((Int × Int)->Bool)->Bool:=λv_ K=>match v_ with
 | (YA,t60)=>(cond (decide (t60<t59)) (ah (N+24) (nL N XT X8 YA Z_ aac aaf t59 t60 2 0 ((b.length:Nat):Int) 0 abF abI ZE a_3 b W0 (ah (N+24) (mc N XT X8 YA Z_ aac aaf t59 t60 2 1 ((W0.length:Nat):Int) 0 abF abI ZE a_3 b W0 (ac .i64 (YA+2)&&(ac .i64 (t60+1)&&K ((YA+2),(t60+1))))) ())) ()) (e0 YA))
def me (N:Nat) (n_5:Int) (d_5:Fl) (XO:Int) (acJ:List RY0) (acN acR acV acZ ac4 adc adA ZY adl adm aca aci:Int) (Xy W5 Xo:LF) (e0:Bool):(Unit)->((Unit)->Bool)->Bool:=λv_ K=>match v_ with
 | _=>(cond (decide (ZY<adA)) (ac .i64 (XO+0)&&(ac .i64 ((XO+0)*n_5)&&(ac .i64 (((XO+0)*n_5)+XO)&&(ac .i64 ((((XO+0)*n_5)+XO)+ZY)&&(inR ZY Xy.length&&false))))) e0)
def mg (N:Nat) (n_6:Int) (d_6:Fl) (Ym:Int) (aab:List RY0) (aae aah aaj aam ac5 ade adB ZZ aao aap aa5 aa6:Int) (XR XZ Yw:LF) (e0:Bool):(Unit)->((Unit)->Bool)->Bool:=λv_ K=>match v_ with
 | _=>(cond (decide (ZZ<adB)) (ac .i64 (Ym+1)&&(ac .i64 ((Ym+1)*n_6)&&(ac .i64 (((Ym+1)*n_6)+Ym)&&(ac .i64 ((((Ym+1)*n_6)+Ym)+ZZ)&&(inR ZZ XZ.length&&false))))) e0)
def mh (N:Nat) (n_7:Int) (d_7:Fl) (XX:Int) (acK:List RY0) (acO acS acW ac0 ac6 adf adC Z0 adn ado ae7 ae8:Int) (YF Ya aeT:LF) (e0:Bool):(Unit)->((Unit)->Bool)->Bool:=λv_ K=>match v_ with
 | _=>(cond (decide (Z0<adC)) (ac .i64 (XX+2)&&(ac .i64 ((XX+2)*n_7)&&(ac .i64 (((XX+2)*n_7)+XX)&&(ac .i64 ((((XX+2)*n_7)+XX)+Z0)&&(inR Z0 aeT.length&&false))))) e0)
def l_ (N:Nat) (n_4:Int) (d_4:Fl) (aaa:List RY0) (aad aag aai ad7 ad8 a_8 a_9:Int) (Xn Xk Xw:LF) (e0:Kz5):(Int × Int)->((Int × Int)->Bool)->Bool:=λv_ K=>match v_ with
 | (XW,aal)=>(cond (decide (aal<aai)) (ah (N+24) (me N n_4 d_4 XW aaa aad aag aai aal 3 0 ((Xn.length:Nat):Int) 0 ad7 ad8 a_8 a_9 Xn Xk Xw (ah (N+24) (mg N n_4 d_4 XW aaa aad aag aai aal 3 1 ((Xk.length:Nat):Int) 0 ad7 ad8 a_8 a_9 Xn Xk Xw (ah (N+24) (mh N n_4 d_4 XW aaa aad aag aai aal 3 2 ((Xw.length:Nat):Int) 0 ad7 ad8 a_8 a_9 Xn Xk Xw (ac .i64 (XW+3)&&(ac .i64 (aal+1)&&K ((XW+3),(aal+1))))) ())) ())) ()) (e0 XW))
def mi (N:Nat) (n_9:Int) (d_9:Fl) (XB:Int) (acL:List RY0) (acP acT acX ac1 ac7 adg adD Z1 adp adq ae9 ae_:Int) (aes:LF) (e0:Bool):(Unit)->((Unit)->Bool)->Bool:=λv_ K=>match v_ with
 | _=>(cond (decide (Z1<adD)) (ac .i64 (XB+0)&&(ac .i64 ((XB+0)*n_9)&&(ac .i64 (((XB+0)*n_9)+XB)&&(ac .i64 ((((XB+0)*n_9)+XB)+Z1)&&(inR Z1 aes.length&&false))))) e0)
def ma (N:Nat) (n_8:Int) (d_8:Fl) (abX:List RY0) (abY abZ ab0 ab2 ab3 aeM aeN:Int) (aeU:LF) (e0:Kz5):(Int × Int)->((Int × Int)->Bool)->Bool:=λv_ K=>match v_ with
 | (XQ,ab1)=>(cond (decide (ab1<ab0)) (ah (N+24) (mi N n_8 d_8 XQ abX abY abZ ab0 ab1 1 0 ((aeU.length:Nat):Int) 0 ab2 ab3 aeM aeN aeU (ac .i64 (XQ+1)&&(ac .i64 (ab1+1)&&K ((XQ+1),(ab1+1))))) ()) (e0 XQ))
def nJ (N:Nat) (n:Int) (d:Fl) (t48:List RY0) (t49 t6 Yf a XP:Int) (e0:Bool):(Int × Int)->((Int × Int)->Bool)->Bool:=λv_ K=>match v_ with
 | (from_,t50)=>(cond (decide (t50<t49)) (inR t50 t48.length&&pB N (t48.getD t50.toNat (0,(0,(none,none)))).1 (t48.getD t50.toNat (0,(0,(none,none)))).2.1 (t48.getD t50.toNat (0,(0,(none,none)))).2.2.1 (t48.getD t50.toNat (0,(0,(none,none)))).2.2.2 d (λXM YR=>ah (N+24) (nK N n d t48 t49 t50 (t48.getD t50.toNat (0,(0,(none,none)))).2.1 t6 Yf a XP XM YR (λZm=>ac .i64 (t50+1)&&K (Zm,(t50+1)))) (from_,0)) (λZG aaw ab6=>ah (N+24) (l_ N n d t48 t49 t50 (t48.getD t50.toNat (0,(0,(none,none)))).2.1 t6 Yf a XP ZG aaw ab6 (λYn=>ac .i64 (t50+1)&&K (Yn,(t50+1)))) (from_,0)) (λab7=>ah (N+24) (ma N n d t48 t49 t50 (t48.getD t50.toNat (0,(0,(none,none)))).2.1 t6 Yf a XP ab7 (λacx=>ac .i64 (t50+1)&&K (acx,(t50+1)))) (from_,0))) e0)
def mj (N:Nat) (Zn:Int) (afn:Fl) (Xa:Int) (aaB:List RY0) (aaF aaJ aaN aaR ac8 adh adE adr ads afa afb:Int) (Z5 abQ:LF) (e0:Kz8):(Int × LF)->((Int × LF)->Bool)->Bool:=λv_ K=>match v_ with
 | (Yp,YZ)=>(cond (decide (Yp<adE)) (ac .i64 (Xa+0)&&(ac .i64 ((Xa+0)*Zn)&&(ac .i64 (((Xa+0)*Zn)+Xa)&&(ac .i64 ((((Xa+0)*Zn)+Xa)+Yp)&&(inR Yp Z5.length&&(inR ((((Xa+0)*Zn)+Xa)+Yp) YZ.length&&(decide ((Int.toNat ((((Xa+0)*Zn)+Xa)+Yp))<YZ.length)&&(ac .i64 (Yp+1)&&K ((Yp+1),(YZ.set (Int.toNat ((((Xa+0)*Zn)+Xa)+Yp)) (Z5.getD Yp.toNat none))))))))))) (e0 YZ))
def ml (N:Nat) (aaA:Int) (aez:Fl) (XG:Int) (Zr:List RY0) (Zs Zv Zw Zx ac9 adi adF abG abH aed aee:Int) (abe abR:LF) (e0:Kz8):(Int × LF)->((Int × LF)->Bool)->Bool:=λv_ K=>match v_ with
 | (Yq,ZO)=>(cond (decide (Yq<adF)) (ac .i64 (XG+1)&&(ac .i64 ((XG+1)*aaA)&&(ac .i64 (((XG+1)*aaA)+XG)&&(ac .i64 ((((XG+1)*aaA)+XG)+Yq)&&(inR Yq abR.length&&(inR ((((XG+1)*aaA)+XG)+Yq) ZO.length&&(decide ((Int.toNat ((((XG+1)*aaA)+XG)+Yq))<ZO.length)&&(ac .i64 (Yq+1)&&K ((Yq+1),(ZO.set (Int.toNat ((((XG+1)*aaA)+XG)+Yq)) (abR.getD Yq.toNat none))))))))))) (e0 ZO))
def bY (N:Nat) (ad5:Int) (adZ:Fl) (Y0:List RY0) (Y3 Y6 aak aaq aar adN adP:Int) (aaz Z4:LF) (e0:Kz1):(Int × Int × LF)->((Int × Int × LF)->Bool)->Bool:=λv_ K=>match v_ with
 | (Yb,aan,b3)=>(cond (decide (aan<aak)) (ah (N+24) (mj N ad5 adZ Yb Y0 Y3 Y6 aak aan 2 0 ((aaz.length:Nat):Int) aaq aar adN adP aaz Z4 (λXD=>ah (N+24) (ml N ad5 adZ Yb Y0 Y3 Y6 aak aan 2 1 ((Z4.length:Nat):Int) aaq aar adN adP aaz Z4 (λacq=>ac .i64 (Yb+2)&&(ac .i64 (aan+1)&&K ((Yb+2),(aan+1),acq)))) (0,XD))) (0,b3)) (e0 Yb b3))
def mm (N:Nat) (Zo:Int) (afo:Fl) (Xb:Int) (aaC:List RY0) (aaG aaK aaO aaS ac_ adj adG adt adu afc afd:Int) (acf adY aet:LF) (e0:Kz8):(Int × LF)->((Int × LF)->Bool)->Bool:=λv_ K=>match v_ with
 | (Yr,abd)=>(cond (decide (Yr<adG)) (ac .i64 (Xb+0)&&(ac .i64 ((Xb+0)*Zo)&&(ac .i64 (((Xb+0)*Zo)+Xb)&&(ac .i64 ((((Xb+0)*Zo)+Xb)+Yr)&&(inR Yr acf.length&&(inR ((((Xb+0)*Zo)+Xb)+Yr) abd.length&&(decide ((Int.toNat ((((Xb+0)*Zo)+Xb)+Yr))<abd.length)&&(ac .i64 (Yr+1)&&K ((Yr+1),(abd.set (Int.toNat ((((Xb+0)*Zo)+Xb)+Yr)) (acf.getD Yr.toNat none))))))))))) (e0 abd))
def mn (N:Nat) (Z7:Int) (ad2:Fl) (XH:Int) (Y2:List RY0) (Y5 Y8 Y_ Zb ada adk adH aau aav adS adU:Int) (afk aeu afl:LF) (e0:Kz8):(Int × LF)->((Int × LF)->Bool)->Bool:=λv_ K=>match v_ with
 | (Ys,acd)=>(cond (decide (Ys<adH)) (ac .i64 (XH+1)&&(ac .i64 ((XH+1)*Z7)&&(ac .i64 (((XH+1)*Z7)+XH)&&(ac .i64 ((((XH+1)*Z7)+XH)+Ys)&&(inR Ys aeu.length&&(inR ((((XH+1)*Z7)+XH)+Ys) acd.length&&(decide ((Int.toNat ((((XH+1)*Z7)+XH)+Ys))<acd.length)&&(ac .i64 (Ys+1)&&K ((Ys+1),(acd.set (Int.toNat ((((XH+1)*Z7)+XH)+Ys)) (aeu.getD Ys.toNat none))))))))))) (e0 acd))
def lO (N:Nat) (Zp:Int) (afp:Fl) (Xq:Int) (aaD:List RY0) (aaH aaL aaP aaT aaV aaX aa1 adv adw afe aff:Int) (aev afm aew:LF) (e0:Kz8):(Int × LF)->((Int × LF)->Bool)->Bool:=λv_ K=>match v_ with
 | (X3,ZM)=>(cond (decide (X3<aa1)) (ac .i64 (Xq+2)&&(ac .i64 ((Xq+2)*Zp)&&(ac .i64 (((Xq+2)*Zp)+Xq)&&(ac .i64 ((((Xq+2)*Zp)+Xq)+X3)&&(inR X3 aew.length&&(inR ((((Xq+2)*Zp)+Xq)+X3) ZM.length&&(decide ((Int.toNat ((((Xq+2)*Zp)+Xq)+X3))<ZM.length)&&(ac .i64 (X3+1)&&K ((X3+1),(ZM.set (Int.toNat ((((Xq+2)*Zp)+Xq)+X3)) (aew.getD X3.toNat none))))))))))) (e0 ZM))
def bZ (N:Nat) (Z6:Int) (ad0:Fl) (Y1:List RY0) (Y4 Y7 Y9 aas aat adQ adR:Int) (adX ace abS:LF) (e0:Kz1):(Int × Int × LF)->((Int × Int × LF)->Bool)->Bool:=λv_ K=>match v_ with
 | (Xp,Za,aeq)=>(cond (decide (Za<Y9)) (ah (N+24) (mm N Z6 ad0 Xp Y1 Y4 Y7 Y9 Za 3 0 ((adX.length:Nat):Int) aas aat adQ adR adX ace abS (λaeS=>ah (N+24) (mn N Z6 ad0 Xp Y1 Y4 Y7 Y9 Za 3 1 ((ace.length:Nat):Int) aas aat adQ adR adX ace abS (λaer=>ah (N+24) (lO N Z6 ad0 Xp Y1 Y4 Y7 Y9 Za 3 2 ((abS.length:Nat):Int) aas aat adQ adR adX ace abS (λZN=>ac .i64 (Xp+3)&&(ac .i64 (Za+1)&&K ((Xp+3),(Za+1),ZN)))) (0,aer))) (0,aeS))) (0,aeq)) (e0 Xp aeq))
def lP (N:Nat) (Zq:Int) (afq:Fl) (Xc:Int) (aaE:List RY0) (aaI aaM aaQ aaU aaW aaY aa2 adx ady afg afh:Int) (acs:LF) (e0:Kz8):(Int × LF)->((Int × LF)->Bool)->Bool:=λv_ K=>match v_ with
 | (X4,YX)=>(cond (decide (X4<aa2)) (ac .i64 (Xc+0)&&(ac .i64 ((Xc+0)*Zq)&&(ac .i64 (((Xc+0)*Zq)+Xc)&&(ac .i64 ((((Xc+0)*Zq)+Xc)+X4)&&(inR X4 acs.length&&(inR ((((Xc+0)*Zq)+Xc)+X4) YX.length&&(decide ((Int.toNat ((((Xc+0)*Zq)+Xc)+X4))<YX.length)&&(ac .i64 (X4+1)&&K ((X4+1),(YX.set (Int.toNat ((((Xc+0)*Zq)+Xc)+X4)) (acs.getD X4.toNat none))))))))))) (e0 YX))
def b_ (N:Nat) (abf:Int) (aeW:Fl) (ZS:List RY0) (ZT ZU ZV ab4 ab5 aeO aeP:Int) (aeV:LF) (e0:Kz1):(Int × Int × LF)->((Int × Int × LF)->Bool)->Bool:=λv_ K=>match v_ with
 | (Xz,ZW,abc)=>(cond (decide (ZW<ZV)) (ah (N+24) (lP N abf aeW Xz ZS ZT ZU ZV ZW 1 0 ((aeV.length:Nat):Int) ab4 ab5 aeO aeP aeV (λabV=>ac .i64 (Xz+1)&&(ac .i64 (ZW+1)&&K ((Xz+1),(ZW+1),abV)))) (0,abc)) (e0 Xz abc))
def cP (N:Nat) (acz:Int) (abT:Fl) (XE:List RY0) (Yx Zg Zh abM abN:Int) (e0:Kz8):(Int × Int × LF)->((Int × Int × LF)->Bool)->Bool:=λv_ K=>match v_ with
 | (YM,Xi,b2)=>(cond (decide (Xi<Yx)) (inR Xi XE.length&&pB N (XE.getD Xi.toNat (0,(0,(none,none)))).1 (XE.getD Xi.toNat (0,(0,(none,none)))).2.1 (XE.getD Xi.toNat (0,(0,(none,none)))).2.2.1 (XE.getD Xi.toNat (0,(0,(none,none)))).2.2.2 abT (λab8 ab9=>ah (N+24) (bY N acz abT XE Yx Xi (XE.getD Xi.toNat (0,(0,(none,none)))).2.1 Zg Zh abM abN ab8 ab9 (λYN YB=>ac .i64 (Xi+1)&&K (YN,(Xi+1),YB))) (YM,0,b2)) (λaea Z3 y11=>ah (N+24) (bZ N acz abT XE Yx Xi (XE.getD Xi.toNat (0,(0,(none,none)))).2.1 Zg Zh abM abN aea Z3 y11 (λXI Xl=>ac .i64 (Xi+1)&&K (XI,(Xi+1),Xl))) (YM,0,b2)) (λy12=>ah (N+24) (b_ N acz abT XE Yx Xi (XE.getD Xi.toNat (0,(0,(none,none)))).2.1 Zg Zh abM abN y12 (λacy Zd=>ac .i64 (Xi+1)&&K (acy,(Xi+1),Zd))) (YM,0,b2))) (e0 b2))
def ko (N:Nat) (m:List RY0) (ticks agX agY:Int) (adW:LF) (k0:Ky2) (k1:Kx9):Bool:=
 (vh N adW (λW3=>cond (!W3) (k0 0 0 5) (k1 agX agY 0 adW)))
def vL (N:Nat) (m:List RY0) (ticks agV agW:Int) (k0:Ky2) (k1:Kx9):Bool:=
 (vh N [] (λcr=>cond (!cr) (k0 0 0 5) (k0 agV agW 0)))
def mq (N:Nat) (m:List RY0) (ticks:Int) (k0:Ky2) (k1:Kx9):Bool:=
 (pA N m (λnr W4=>cond (W4 != 0) (k0 0 0 W4) (cond ((decide (ticks<0))==false) (cond (decide (ticks>1125899906842624)) (k0 0 0 1) (kh N ticks (λxr W_=>Jk N nr nr (λXx XJ n5=>ah (N+24) (nJ N nr xr m ((m.length:Nat):Int) 0 0 Xx XJ (vL N m ticks Xx XJ k0 k1)) (0,0)) (λn6 xsr=>ah (N+24) (cP N nr xr m ((m.length:Nat):Int) 0 0 nr nr (λaeR=>ko N m ticks nr nr aeR k0 k1)) (0,0,xsr))))) (k0 0 0 1))))
def qy (N:Nat):List RY0->Int->(Ky2)->(Kx9)->Bool:=aw N (mq N)
def B9 (N:Nat) (m:List RY0) (ticks:Int) (k0:Ky2) (k1:Kx9):Bool:=
 (qy N m ticks (λnr W4 W_=>k0 nr W4 W_) (λXx XJ n5 xsr=>k1 Xx XJ n5 xsr))
def ya (N:Nat):List RY0->Int->(Ky2)->(Kx9)->Bool:=B9 N
def sA (N:Nat) (p_0 Z9:Int) (Zc p_3 d:Fl) (k0:Kz8) (k1:Kz2) (k2:Ky3):Bool:=
 (cond (p_0==1) (k0 [(aF Zc d)]) (cond (p_0==4) (k0 [(aF Zc d)]) (cond (p_0==2) (k1 [(fdiv (aF (aF (aF Zc d) d) d) (some 4613937818241073152)),(fdiv (aF (aF Zc d) d) (some 4611686018427387904))] [(fdiv (aF (aF Zc d) d) (some 4611686018427387904)),(aF Zc d)]) (cond (p_0==3) (k2 [(fdiv (aF (aF (aF (aF (aF Zc d) d) d) d) d) (some 4626322717216342016)),(fdiv (aF (aF (aF (aF Zc d) d) d) d) (some 4620693217682128896)),(fdiv (aF (aF (aF Zc d) d) d) (some 4618441417868443648))] [(fdiv (aF (aF (aF (aF Zc d) d) d) d) (some 4620693217682128896)),(fdiv (aF (aF (aF Zc d) d) d) (some 4613937818241073152)),(fdiv (aF (aF Zc d) d) (some 4611686018427387904))] [(fdiv (aF (aF (aF Zc d) d) d) (some 4618441417868443648)),(fdiv (aF (aF Zc d) d) (some 4611686018427387904)),(aF Zc d)]) (k0 [(some 0)])))))
def pC (N:Nat):Int->Int->Fl->Fl->Fl->(Kz8)->(Kz2)->(Ky3)->Bool:=aw N (sA N)
def mb (N:Nat) (X_:Int) (ZK:Fl) (XN:Int) (acI:List RY0) (acM acQ acU acY t63 t64 t71 t72 aaZ aa0 a_4 a_5:Int) (W0:LF) (e0:Bool):(Unit)->((Unit)->Bool)->Bool:=λv_ K=>match v_ with
 | _=>(cond (decide (t72<t71)) (ac .i64 (XN+0)&&(ac .i64 ((XN+0)*X_)&&(ac .i64 (((XN+0)*X_)+XN)&&(ac .i64 ((((XN+0)*X_)+XN)+t72)&&(inR t72 W0.length&&false))))) e0)
def lN (N:Nat) (XT:Int) (X8:Fl) (Z_:List RY0) (aac aaf t59 abF abI ZE a_3:Int) (b:LF) (e0:Kz5):(Int × Int)->((Int × Int)->Bool)->Bool:=λv_ K=>match v_ with
 | (YA,t60)=>(cond (decide (t60<t59)) (ah (N+24) (mb N XT X8 YA Z_ aac aaf t59 t60 1 0 ((b.length:Nat):Int) 0 abF abI ZE a_3 b (ac .i64 (YA+1)&&(ac .i64 (t60+1)&&K ((YA+1),(t60+1))))) ()) (e0 YA))
def kF (N:Nat) (n_4:Int) (d_4:Fl) (XW:Int) (aaa:List RY0) (aad aag aai aal ac3 adb adz ZX ad7 ad8 a_8 a_9:Int) (Xd Xe:LF) (e0:Bool):(Unit)->((Unit)->Bool)->Bool:=λv_ K=>match v_ with
 | _=>(cond (decide (ZX<adz)) (ac .i64 (XW+0)&&(ac .i64 ((XW+0)*n_4)&&(ac .i64 (((XW+0)*n_4)+XW)&&(ac .i64 ((((XW+0)*n_4)+XW)+ZX)&&(inR ZX Xd.length&&false))))) e0)
def kG (N:Nat) (n_5:Int) (d_5:Fl) (XO:Int) (acJ:List RY0) (acN acR acV acZ ac4 adc adA ZY adl adm aca aci:Int) (Xn Xk:LF) (e0:Bool):(Unit)->((Unit)->Bool)->Bool:=λv_ K=>match v_ with
 | _=>(cond (decide (ZY<adA)) (ac .i64 (XO+1)&&(ac .i64 ((XO+1)*n_5)&&(ac .i64 (((XO+1)*n_5)+XO)&&(ac .i64 ((((XO+1)*n_5)+XO)+ZY)&&(inR ZY Xk.length&&false))))) e0)
def kD (N:Nat) (n_3:Int) (d_3:Fl) (abA:List RY0) (abB abC abD Zy Zz a_6 a_7:Int) (W2 W7:LF) (e0:Kz5):(Int × Int)->((Int × Int)->Bool)->Bool:=λv_ K=>match v_ with
 | (Zm,abE)=>(cond (decide (abE<abD)) (ah (N+24) (kF N n_3 d_3 Zm abA abB abC abD abE 2 0 ((W2.length:Nat):Int) 0 Zy Zz a_6 a_7 W2 W7 (ah (N+24) (kG N n_3 d_3 Zm abA abB abC abD abE 2 1 ((W7.length:Nat):Int) 0 Zy Zz a_6 a_7 W2 W7 (ac .i64 (Zm+2)&&(ac .i64 (abE+1)&&K ((Zm+2),(abE+1))))) ())) ()) (e0 Zm))
def kH (N:Nat) (n_7:Int) (d_7:Fl) (Yn:Int) (acK:List RY0) (acO acS acW ac0 ac5 ade adB ZZ adn ado ae7 ae8:Int) (Xo XR XZ:LF) (e0:Bool):(Unit)->((Unit)->Bool)->Bool:=λv_ K=>match v_ with
 | _=>(cond (decide (ZZ<adB)) (ac .i64 (Yn+0)&&(ac .i64 ((Yn+0)*n_7)&&(ac .i64 (((Yn+0)*n_7)+Yn)&&(ac .i64 ((((Yn+0)*n_7)+Yn)+ZZ)&&(inR ZZ Xo.length&&false))))) e0)
def kI (N:Nat) (n_8:Int) (d_8:Fl) (XQ:Int) (abX:List RY0) (abY abZ ab0 ab1 ac6 adf adC Z0 ab2 ab3 aeM aeN:Int) (Yw YF Ya:LF) (e0:Bool):(Unit)->((Unit)->Bool)->Bool:=λv_ K=>match v_ with
 | _=>(cond (decide (Z0<adC)) (ac .i64 (XQ+1)&&(ac .i64 ((XQ+1)*n_8)&&(ac .i64 (((XQ+1)*n_8)+XQ)&&(ac .i64 ((((XQ+1)*n_8)+XQ)+Z0)&&(inR Z0 YF.length&&false))))) e0)
def kJ (N:Nat) (n_9:Int) (d_9:Fl) (XB:Int) (acL:List RY0) (acP acT acX ac1 ac7 adg adD Z1 adp adq ae9 ae_:Int) (aeT aeU aes:LF) (e0:Bool):(Unit)->((Unit)->Bool)->Bool:=λv_ K=>match v_ with
 | _=>(cond (decide (Z1<adD)) (ac .i64 (XB+2)&&(ac .i64 ((XB+2)*n_9)&&(ac .i64 (((XB+2)*n_9)+XB)&&(ac .i64 ((((XB+2)*n_9)+XB)+Z1)&&(inR Z1 aes.length&&false))))) e0)
def kE (N:Nat) (n_6:Int) (d_6:Fl) (aab:List RY0) (aae aah aaj aao aap aa5 aa6:Int) (Xw Xy W5:LF) (e0:Kz5):(Int × Int)->((Int × Int)->Bool)->Bool:=λv_ K=>match v_ with
 | (XX,aam)=>(cond (decide (aam<aaj)) (ah (N+24) (kH N n_6 d_6 XX aab aae aah aaj aam 3 0 ((Xw.length:Nat):Int) 0 aao aap aa5 aa6 Xw Xy W5 (ah (N+24) (kI N n_6 d_6 XX aab aae aah aaj aam 3 1 ((Xy.length:Nat):Int) 0 aao aap aa5 aa6 Xw Xy W5 (ah (N+24) (kJ N n_6 d_6 XX aab aae aah aaj aam 3 2 ((W5.length:Nat):Int) 0 aao aap aa5 aa6 Xw Xy W5 (ac .i64 (XX+3)&&(ac .i64 (aam+1)&&K ((XX+3),(aam+1))))) ())) ())) ()) (e0 XX))
def l9 (N:Nat) (n:Int) (d:Fl) (t48:List RY0) (t49 t6 Yf a XP:Int) (e0:Bool):(Int × Int)->((Int × Int)->Bool)->Bool:=λv_ K=>match v_ with
 | (from_,t50)=>(cond (decide (t50<t49)) (inR t50 t48.length&&pC N (t48.getD t50.toNat (0,(0,(none,none)))).1 (t48.getD t50.toNat (0,(0,(none,none)))).2.1 (t48.getD t50.toNat (0,(0,(none,none)))).2.2.1 (t48.getD t50.toNat (0,(0,(none,none)))).2.2.2 d (λXM=>ah (N+24) (lN N n d t48 t49 t50 (t48.getD t50.toNat (0,(0,(none,none)))).2.1 t6 Yf a XP XM (λYl=>ac .i64 (t50+1)&&K (Yl,(t50+1)))) (from_,0)) (λYR ZG=>ah (N+24) (kD N n d t48 t49 t50 (t48.getD t50.toNat (0,(0,(none,none)))).2.1 t6 Yf a XP YR ZG (λYm=>ac .i64 (t50+1)&&K (Ym,(t50+1)))) (from_,0)) (λaaw ab6 ab7=>ah (N+24) (kE N n d t48 t49 t50 (t48.getD t50.toNat (0,(0,(none,none)))).2.1 t6 Yf a XP aaw ab6 ab7 (λacx=>ac .i64 (t50+1)&&K (acx,(t50+1)))) (from_,0))) e0)
def kK (N:Nat) (Zn:Int) (afn:Fl) (Xa:Int) (aaB:List RY0) (aaF aaJ aaN aaR ac8 adh adE adr ads afa afb:Int) (Z4:LF) (e0:Kz8):(Int × LF)->((Int × LF)->Bool)->Bool:=λv_ K=>match v_ with
 | (Yp,YZ)=>(cond (decide (Yp<adE)) (ac .i64 (Xa+0)&&(ac .i64 ((Xa+0)*Zn)&&(ac .i64 (((Xa+0)*Zn)+Xa)&&(ac .i64 ((((Xa+0)*Zn)+Xa)+Yp)&&(inR Yp Z4.length&&(inR ((((Xa+0)*Zn)+Xa)+Yp) YZ.length&&(decide ((Int.toNat ((((Xa+0)*Zn)+Xa)+Yp))<YZ.length)&&(ac .i64 (Yp+1)&&K ((Yp+1),(YZ.set (Int.toNat ((((Xa+0)*Zn)+Xa)+Yp)) (Z4.getD Yp.toNat none))))))))))) (e0 YZ))
def bG (N:Nat) (ad5:Int) (adZ:Fl) (Y0:List RY0) (Y3 Y6 aak aaq aar adN adP:Int) (aaz:LF) (e0:Kz1):(Int × Int × LF)->((Int × Int × LF)->Bool)->Bool:=λv_ K=>match v_ with
 | (Yb,aan,b3)=>(cond (decide (aan<aak)) (ah (N+24) (kK N ad5 adZ Yb Y0 Y3 Y6 aak aan 1 0 ((aaz.length:Nat):Int) aaq aar adN adP aaz (λXD=>ac .i64 (Yb+1)&&(ac .i64 (aan+1)&&K ((Yb+1),(aan+1),XD)))) (0,b3)) (e0 Yb b3))
def kL (N:Nat) (Z6:Int) (ad0:Fl) (Xp:Int) (Y1:List RY0) (Y4 Y7 Y9 Za ac9 adi adF aas aat adQ adR:Int) (abe abR:LF) (e0:Kz8):(Int × LF)->((Int × LF)->Bool)->Bool:=λv_ K=>match v_ with
 | (Yq,acq)=>(cond (decide (Yq<adF)) (ac .i64 (Xp+0)&&(ac .i64 ((Xp+0)*Z6)&&(ac .i64 (((Xp+0)*Z6)+Xp)&&(ac .i64 ((((Xp+0)*Z6)+Xp)+Yq)&&(inR Yq abe.length&&(inR ((((Xp+0)*Z6)+Xp)+Yq) acq.length&&(decide ((Int.toNat ((((Xp+0)*Z6)+Xp)+Yq))<acq.length)&&(ac .i64 (Yq+1)&&K ((Yq+1),(acq.set (Int.toNat ((((Xp+0)*Z6)+Xp)+Yq)) (abe.getD Yq.toNat none))))))))))) (e0 acq))
def kN (N:Nat) (Zo:Int) (afo:Fl) (Xb:Int) (aaC:List RY0) (aaG aaK aaO aaS ac_ adj adG adt adu afc afd:Int) (adX ace:LF) (e0:Kz8):(Int × LF)->((Int × LF)->Bool)->Bool:=λv_ K=>match v_ with
 | (Yr,abd)=>(cond (decide (Yr<adG)) (ac .i64 (Xb+1)&&(ac .i64 ((Xb+1)*Zo)&&(ac .i64 (((Xb+1)*Zo)+Xb)&&(ac .i64 ((((Xb+1)*Zo)+Xb)+Yr)&&(inR Yr ace.length&&(inR ((((Xb+1)*Zo)+Xb)+Yr) abd.length&&(decide ((Int.toNat ((((Xb+1)*Zo)+Xb)+Yr))<abd.length)&&(ac .i64 (Yr+1)&&K ((Yr+1),(abd.set (Int.toNat ((((Xb+1)*Zo)+Xb)+Yr)) (ace.getD Yr.toNat none))))))))))) (e0 abd))
def bH (N:Nat) (aaA:Int) (aez:Fl) (Zr:List RY0) (Zs Zv Zw abG abH aed aee:Int) (Z5 abQ:LF) (e0:Kz1):(Int × Int × LF)->((Int × Int × LF)->Bool)->Bool:=λv_ K=>match v_ with
 | (YN,Zx,ZO)=>(cond (decide (Zx<Zw)) (ah (N+24) (kL N aaA aez YN Zr Zs Zv Zw Zx 2 0 ((Z5.length:Nat):Int) abG abH aed aee Z5 abQ (λaeq=>ah (N+24) (kN N aaA aez YN Zr Zs Zv Zw Zx 2 1 ((abQ.length:Nat):Int) abG abH aed aee Z5 abQ (λaeS=>ac .i64 (YN+2)&&(ac .i64 (Zx+1)&&K ((YN+2),(Zx+1),aeS)))) (0,aeq))) (0,ZO)) (e0 YN ZO))
def kO (N:Nat) (Zp:Int) (afp:Fl) (XI:Int) (aaD:List RY0) (aaH aaL aaP aaT ada adk adH adv adw afe aff:Int) (aet afk aeu:LF) (e0:Kz8):(Int × LF)->((Int × LF)->Bool)->Bool:=λv_ K=>match v_ with
 | (Ys,aer)=>(cond (decide (Ys<adH)) (ac .i64 (XI+0)&&(ac .i64 ((XI+0)*Zp)&&(ac .i64 (((XI+0)*Zp)+XI)&&(ac .i64 ((((XI+0)*Zp)+XI)+Ys)&&(inR Ys aet.length&&(inR ((((XI+0)*Zp)+XI)+Ys) aer.length&&(decide ((Int.toNat ((((XI+0)*Zp)+XI)+Ys))<aer.length)&&(ac .i64 (Ys+1)&&K ((Ys+1),(aer.set (Int.toNat ((((XI+0)*Zp)+XI)+Ys)) (aet.getD Ys.toNat none))))))))))) (e0 aer))
def j9 (N:Nat) (abf:Int) (aeW:Fl) (Xz:Int) (ZS:List RY0) (ZT ZU ZV ZW aaV aaX aa1 ab4 ab5 aeO aeP:Int) (afl aev afm:LF) (e0:Kz8):(Int × LF)->((Int × LF)->Bool)->Bool:=λv_ K=>match v_ with
 | (X3,ZN)=>(cond (decide (X3<aa1)) (ac .i64 (Xz+1)&&(ac .i64 ((Xz+1)*abf)&&(ac .i64 (((Xz+1)*abf)+Xz)&&(ac .i64 ((((Xz+1)*abf)+Xz)+X3)&&(inR X3 aev.length&&(inR ((((Xz+1)*abf)+Xz)+X3) ZN.length&&(decide ((Int.toNat ((((Xz+1)*abf)+Xz)+X3))<ZN.length)&&(ac .i64 (X3+1)&&K ((X3+1),(ZN.set (Int.toNat ((((Xz+1)*abf)+Xz)+X3)) (aev.getD X3.toNat none))))))))))) (e0 ZN))
def j_ (N:Nat) (Zq:Int) (afq:Fl) (Xc:Int) (aaE:List RY0) (aaI aaM aaQ aaU aaW aaY aa2 adx ady afg afh:Int) (aew aeV acs:LF) (e0:Kz8):(Int × LF)->((Int × LF)->Bool)->Bool:=λv_ K=>match v_ with
 | (X4,YX)=>(cond (decide (X4<aa2)) (ac .i64 (Xc+2)&&(ac .i64 ((Xc+2)*Zq)&&(ac .i64 (((Xc+2)*Zq)+Xc)&&(ac .i64 ((((Xc+2)*Zq)+Xc)+X4)&&(inR X4 acs.length&&(inR ((((Xc+2)*Zq)+Xc)+X4) YX.length&&(decide ((Int.toNat ((((Xc+2)*Zq)+Xc)+X4))<YX.length)&&(ac .i64 (X4+1)&&K ((X4+1),(YX.set (Int.toNat ((((Xc+2)*Zq)+Xc)+X4)) (acs.getD X4.toNat none))))))))))) (e0 YX))
def bI (N:Nat) (Z7:Int) (ad2:Fl) (Y2:List RY0) (Y5 Y8 Y_ aau aav adS adU:Int) (abS acf adY:LF) (e0:Kz1):(Int × Int × LF)->((Int × Int × LF)->Bool)->Bool:=λv_ K=>match v_ with
 | (Xq,Zb,acd)=>(cond (decide (Zb<Y_)) (ah (N+24) (kO N Z7 ad2 Xq Y2 Y5 Y8 Y_ Zb 3 0 ((abS.length:Nat):Int) aau aav adS adU abS acf adY (λZM=>ah (N+24) (j9 N Z7 ad2 Xq Y2 Y5 Y8 Y_ Zb 3 1 ((acf.length:Nat):Int) aau aav adS adU abS acf adY (λabc=>ah (N+24) (j_ N Z7 ad2 Xq Y2 Y5 Y8 Y_ Zb 3 2 ((adY.length:Nat):Int) aau aav adS adU abS acf adY (λabV=>ac .i64 (Xq+3)&&(ac .i64 (Zb+1)&&K ((Xq+3),(Zb+1),abV)))) (0,abc))) (0,ZM))) (0,acd)) (e0 Xq acd))
def cA (N:Nat) (acz:Int) (abT:Fl) (XE:List RY0) (Yx Zg Zh abM abN:Int) (e0:Kz8):(Int × Int × LF)->((Int × Int × LF)->Bool)->Bool:=λv_ K=>match v_ with
 | (YM,Xi,b2)=>(cond (decide (Xi<Yx)) (inR Xi XE.length&&pC N (XE.getD Xi.toNat (0,(0,(none,none)))).1 (XE.getD Xi.toNat (0,(0,(none,none)))).2.1 (XE.getD Xi.toNat (0,(0,(none,none)))).2.2.1 (XE.getD Xi.toNat (0,(0,(none,none)))).2.2.2 abT (λab8=>ah (N+24) (bG N acz abT XE Yx Xi (XE.getD Xi.toNat (0,(0,(none,none)))).2.1 Zg Zh abM abN ab8 (λXG YB=>ac .i64 (Xi+1)&&K (XG,(Xi+1),YB))) (YM,0,b2)) (λab9 aea=>ah (N+24) (bH N acz abT XE Yx Xi (XE.getD Xi.toNat (0,(0,(none,none)))).2.1 Zg Zh abM abN ab9 aea (λXH Xl=>ac .i64 (Xi+1)&&K (XH,(Xi+1),Xl))) (YM,0,b2)) (λZ3 y11 y12=>ah (N+24) (bI N acz abT XE Yx Xi (XE.getD Xi.toNat (0,(0,(none,none)))).2.1 Zg Zh abM abN Z3 y11 y12 (λacy Zd=>ac .i64 (Xi+1)&&K (acy,(Xi+1),Zd))) (YM,0,b2))) (e0 b2))
def gZ (N:Nat) (m:List RY0) (ticks agX agY:Int) (adW:LF) (k0:Ky2) (k1:Kx9):Bool:=
 (vh N adW (λW3=>cond (!W3) (k0 0 0 5) (k1 agX agY 0 adW)))
def sM (N:Nat) (m:List RY0) (ticks agV agW:Int) (k0:Ky2) (k1:Kx9):Bool:=
 (vh N [] (λcr=>cond (!cr) (k0 0 0 5) (k0 agV agW 0)))
def kl (N:Nat) (m:List RY0) (ticks:Int) (k0:Ky2) (k1:Kx9):Bool:=
 (pA N m (λnr W4=>cond (W4 != 0) (k0 0 0 W4) (cond ((decide (ticks<0))==false) (cond (decide (ticks>1125899906842624)) (k0 0 0 1) (kh N ticks (λxr W_=>Jk N nr nr (λXx XJ n5=>ah (N+24) (l9 N nr xr m ((m.length:Nat):Int) 0 0 Xx XJ (sM N m ticks Xx XJ k0 k1)) (0,0)) (λn6 xsr=>ah (N+24) (cA N nr xr m ((m.length:Nat):Int) 0 0 nr nr (λaeR=>gZ N m ticks nr nr aeR k0 k1)) (0,0,xsr))))) (k0 0 0 1))))
def oN (N:Nat):List RY0->Int->(Ky2)->(Kx9)->Bool:=aw N (kl N)
def B_ (N:Nat) (m:List RY0) (ticks:Int) (k0:Ky2) (k1:Kx9):Bool:=
 (oN N m ticks (λnr W4 W_=>k0 nr W4 W_) (λXx XJ n5 xsr=>k1 Xx XJ n5 xsr))
def uX (N:Nat):List RY0->Int->(Ky2)->(Kx9)->Bool:=B_ N
def nq (N:Nat) (XK W9:Int) (Xu:LF) (n:Int) (k0:Kz5):Bool:=
 (KZ N XK W9 Xu (λnr=>cond (nr != 0) (k0 nr) (cond ((XK != W9)==false) (cond (XK != n) (k0 3) (k0 0)) (k0 3))))
def kg (N:Nat):Int->Int->LF->Int->(Kz5)->Bool:=aw N (nq N)
def LS (N:Nat) (x:Fl) (b:Bool) (k0:Kz4):Bool:=
 (cond ((!feq x x)==false) (i6 N x 0 (λcr=>cond cr (k0 true) (k0 b))) (k0 true))
def yX (N:Nat):Fl->Bool->(Kz4)->Bool:=aw N (LS N)
def sw (N:Nat) (a b:Fl) (W0:Bool) (k0:Ky7):Bool:=
 (yX N (aF a b) W0 (λcr=>k0 (aF a b) cr))
def nl (N:Nat):Fl->Fl->Bool->(Ky7)->Bool:=aw N (sw N)
def lL (N:Nat) (W2 t10:LF) (t11:Int) (e0:Ky7):(Fl × Int × Bool)->((Fl × Int × Bool)->Bool)->Bool:=λv_ K=>match v_ with
 | (t,t12,s)=>(cond (decide (t12<t11)) (inR t12 t10.length&&(inR t12 W2.length&&nl N (t10.getD t12.toNat none) (W2.getD t12.toNat none) s (λxr cr=>yX N (ep t xr) cr (λW3=>ac .i64 (t12+1)&&K ((ep t xr),(t12+1),W3))))) (e0 t s))
def sv (N:Nat) (a b:LF) (W0:Bool) (k0:Ky7):Bool:=
 (ah N (lL N b a ((a.length:Nat):Int) (λt_1 b0=>k0 t_1 b0)) ((some 0),0,W0))
def tO (N:Nat):LF->LF->Bool->(Ky7)->Bool:=aw N (sv N)
def ja (N:Nat) (t10:LF) (t11:Int) (W2:LF) (e0:Ky7):(Fl × Int × Bool)->((Fl × Int × Bool)->Bool)->Bool:=λv_ K=>match v_ with
 | (t,t12,s)=>(cond (decide (t12<t11)) (inR t12 t10.length&&(inR t12 W2.length&&(decide (t12.toNat<W2.length)&&nl N (t10.getD t12.toNat none) (W2.getD t12.toNat none) s (λxr cr=>yX N (ep t xr) cr (λW3=>ac .i64 (t12+1)&&K ((ep t xr),(t12+1),W3)))))) (e0 t s))
def LV (N:Nat) (a:LF) (b:Bool) (W0:LF) (k0:Ky7):Bool:=
 (ah N (ja N a ((a.length:Nat):Int) W0 (λt_1 b0=>k0 t_1 b0)) ((some 0),0,b))
def N9 (N:Nat):LF->Bool->LF->(Ky7)->Bool:=aw N (LV N)
def dP (N:Nat) (Yi acH ZR YC a_8 a_9:Int) (aca:LF) (Xy W5:Int) (Xo:LF) (aaZ aa0 acA acB:Int) (e0:Ky8):(Int × Bool × LF)->((Int × Bool × LF)->Bool)->Bool:=λv_ K=>match v_ with
 | (Yh,afV,b5)=>(cond (decide (Yh<YC)) (i5 N a_8 a_9 aca Yi (λYR=>nV N Xy W5 Xo Yh (λZG=>N9 N YR afV ZG (λYe W3=>decide ((List.length (b5++[Ye]))*8<=140737488355328)&&(ac .i64 (Yh+1)&&K ((Yh+1),W3,(b5++[Ye]))))))) (e0 afV b5))
def dN (N:Nat) (abz aci aa5:Int) (aa6:LF) (XR XZ:Int) (Yw:LF) (Zy Zz abg abh:Int) (e0:Ky8):(Int × Bool × LF)->((Int × Bool × LF)->Bool)->Bool:=λv_ K=>match v_ with
 | (YG,afW,Ze)=>(cond (decide (YG<abz)) (ah N (dP N YG abz YG XZ aci aa5 aa6 XR XZ Yw Zy Zz abg abh (λagI afj=>ac .i64 (YG+1)&&K ((YG+1),agI,afj))) (0,afW,Ze)) (e0 afW Ze))
def jq (N:Nat) (a_0 XP:Int) (ZE:LF) (b_0 W0:Int) (W2:LF) (b:Bool) (k0:Ky8):Bool:=
 (ah N (dN N a_0 a_0 XP ZE b_0 W0 W2 0 0 a_0 W0 (λb0 b3=>k0 b0 b3)) (0,b,[]))
def jx (N:Nat):Int->Int->LF->Int->Int->LF->Bool->(Ky8)->Bool:=aw N (jq N)
def i9 (N:Nat) (W7:LF) (t10 YP:Nat) (t11:Int) (X7:LF) (e0:Ky7):(Fl × Int × Bool)->((Fl × Int × Bool)->Bool)->Bool:=λv_ K=>match v_ with
 | (t,t12,s)=>(cond (decide (t12<t11)) (inR t12 YP&&(decide ((t10+t12.toNat)<X7.length)&&(inR t12 W7.length&&nl N (X7.getD (t10+t12.toNat) none) (W7.getD t12.toNat none) s (λxr cr=>yX N (ep t xr) cr (λW3=>ac .i64 (t12+1)&&K ((ep t xr),(t12+1),W3)))))) (e0 t s))
def LU (N a_0 XP:Nat) (b:LF) (W0:Bool) (W2:LF) (k0:Ky7):Bool:=
 (ah N (i9 N b a_0 XP ((XP:Nat):Int) W2 (λt_1 b0=>k0 t_1 b0)) ((some 0),0,W0))
def N8 (N:Nat):Nat->Nat->LF->Bool->LF->(Ky7)->Bool:=aw N (LU N)
def ca (N:Nat) (i j b W0 W2 W7:Int) (Xd:LF) (Xe Xn:Int) (Xk:LF) (Xw:Int) (Xy:Bool) (W5:LF) (k0:Ky7):Bool:=
 (fD N b W0 i W5 (λmr Yk=>i5 N W2 W7 Xd j (λxsr=>N8 N mr Yk xsr Xy W5 (λxr cr=>ac .i64 (i*Xw)&&(ac .i64 ((i*Xw)+j)&&(inR ((i*Xw)+j) Xk.length&&yX N (ep xr (Xk.getD (Int.toNat ((i*Xw)+j)) none)) cr (λW3=>k0 (ep xr (Xk.getD (Int.toNat ((i*Xw)+j)) none)) W3)))))))
def dU (N:Nat):Int->Int->Int->Int->Int->Int->LF->Int->Int->LF->Int->Bool->LF->(Ky7)->Bool:=aw N (ca N)
def ct (N:Nat) (X_ i YQ Yo t21 afA aeh aei aej:Int) (aek:LF) (ael aem:Int) (aen:LF) (aeo:Int) (abO:LF) (Zt Zu Yc YO:Int) (e0:Ky8):(Int × Bool × LF)->((Int × Bool × LF)->Bool)->Bool:=λv_ K=>match v_ with
 | (t22,XY,af2)=>(cond (decide (t22<t21)) (dU N i t22 afA aeh aei aej aek ael aem aen aeo XY abO (λxr cr=>ac .i64 (i*X_)&&(ac .i64 ((i*X_)+t22)&&(ac .i64 (t22*X_)&&(ac .i64 ((t22*X_)+i)&&(inR ((i*X_)+t22) af2.length&&(decide ((Int.toNat ((i*X_)+t22))<af2.length)&&(inR ((t22*X_)+i) (List.length (af2.set (Int.toNat ((i*X_)+t22)) xr))&&(decide ((Int.toNat ((t22*X_)+i))<(List.length (af2.set (Int.toNat ((i*X_)+t22)) xr)))&&(ac .i64 (t22+1)&&K ((t22+1),cr,(List.set (af2.set (Int.toNat ((i*X_)+t22)) xr) (Int.toNat ((t22*X_)+i)) xr)))))))))))) (e0 XY af2))
def co (N:Nat) (XT t16 at_ YW aa7 aa8:Int) (aa9:LF) (aa_ aba:Int) (abb:LF) (afz:Int) (b6:LF) (t4 ZH out Xf:Int) (e0:Ky8):(Int × Bool × LF)->((Int × Bool × LF)->Bool)->Bool:=λv_ K=>match v_ with
 | (t17,b5,b9)=>(cond (decide (t17<t16)) (ac .i64 (t17+1)&&ah N (ct N XT t17 t16 t17 (t17+1) at_ YW aa7 aa8 aa9 aa_ aba abb afz b6 t4 ZH out Xf (λZe ah0=>ac .i64 (t17+1)&&K ((t17+1),Ze,ah0))) (0,b5,b9)) (e0 b5 b9))
def eA (N:Nat) (n b W0 W2 W7:Int) (Xd:LF) (Xe Xn:Int) (Xk:LF) (Xw:Int) (Xy:Bool) (W5:LF) (k0:Ky8):Bool:=
 (ac .i64 (n*n)&&(iW 8 (n*n) (n*n)&&ah N (co N n n b W0 W2 W7 Xd Xe Xn Xk Xw W5 0 0 n n (λafj ah1=>k0 afj ah1)) (0,Xy,(List.replicate (Int.toNat (n*n)) (some 0)))))
def eB (N:Nat):Int->Int->Int->Int->Int->LF->Int->Int->LF->Int->Bool->LF->(Ky8)->Bool:=aw N (eA N)
def qH (N:Nat) (b k0:Bool):Bool:=
 k0
def xk (N:Nat):Bool->(Bool)->Bool:=aw N (qH N)
def fQ (N:Nat) (p_0 Z9:Int) (b:Bool) (W0 W2:LF) (k0:Ky2) (k1:Kz5):Bool:=
 (xk N b (cond b (k0 0 0 5) (bV N p_0 Z9 W2 (λcr=>cond (!cr) (k0 0 0 151) (k1 0)))))
def lD (N:Nat):Int->Int->Bool->LF->LF->(Ky2)->(Kz5)->Bool:=aw N (fQ N)
def fp (N:Nat) (t49:Int) (s:LF) (X2 X5:Int) (Z8:LF) (f f_3:Int) (f_4:LF) (q q_3:Int) (q_4:LF) (t6 Yf n:Int) (e0:LF->Bool->Bool):(Int × LF × Bool)->((Int × LF × Bool)->Bool)->Bool:=λv_ K=>match v_ with
 | (t50,x,b7)=>(cond (decide (t50<t49)) (i5 N f f_3 f_4 t50 (λxsr=>tO N xsr s b7 (λxr W3=>inR t50 x.length&&(decide (t50.toNat<x.length)&&(ac .i64 (t50+1)&&K ((t50+1),(x.set t50.toNat xr),W3)))))) (e0 x b7))
def mo (N:Nat) (XC:LF) (Xj Xr:Int) (Xt:LF) (YD YE:Int) (YL:LF) (q_0 q_1:Int) (q_2:LF) (k0:Ky2) (k1:Kx4):Bool:=
 (dj N XC Xj Xr Xt (λnr=>cond (nr != 0) (k0 0 0 nr) (kg N YD YE YL ((XC.length:Nat):Int) (λW4=>cond (W4 != 0) (k0 0 0 W4) (kg N q_0 q_1 q_2 ((XC.length:Nat):Int) (λW_=>cond (W_ != 0) (k0 0 0 W_) (PU N q_0 q_1 q_2 (λcr=>cond (!cr) (k0 0 0 150) (iW 8 ((XC.length:Nat):Int) ((XC.length:Nat):Int)&&ah N (fp N (((List.length (List.replicate (Int.toNat ((XC.length:Nat):Int)) (some 0))):Nat):Int) XC Xj Xr Xt YD YE YL q_0 q_1 q_2 0 0 ((XC.length:Nat):Int) (λXm abP=>jx N YD YE YL Xj Xr Xt abP (λXA XM=>eB N ((XC.length:Nat):Int) YD Xr YD YE YL q_0 q_1 q_2 ((XC.length:Nat):Int) XA XM (λXS YR=>lD N ((XC.length:Nat):Int) ((XC.length:Nat):Int) XS Xm YR (λXx XJ n5=>k0 Xx XJ n5) (λn6=>k1 ((XC.length:Nat):Int) ((XC.length:Nat):Int) n6 Xm YR))))) (0,(List.replicate (Int.toNat ((XC.length:Nat):Int)) (some 0)),false))))))))))
def dW (N:Nat):LF->Int->Int->LF->Int->Int->LF->Int->Int->LF->(Ky2)->(Kx4)->Bool:=aw N (mo N)
def rM (N:Nat) (XC:LF) (Xj Xr:Int) (Xt:LF) (m:List RY0) (ticks:Int) (XD:LF) (ah2 ah3:Int) (b5:LF) (q_6 q_7:Int) (k0:Ky2) (k1:Kx4):Bool:=
 (dW N XC Xj Xr Xt ah2 ah3 XD q_6 q_7 b5 (λn37 n38 n39=>k0 n37 n38 n39) (λn40 n41 n42 aea Z3=>k1 n40 n41 n42 aea Z3))
def zg (N:Nat) (XC:LF) (Xj Xr:Int) (Xt:LF) (m:List RY0) (ticks:Int) (YZ:LF) (f_8 f_9 q_4 q_5:Int) (k0:Ky2) (k1:Kx4):Bool:=
 (dW N XC Xj Xr Xt f_8 f_9 YZ q_4 q_5 [] (λn31 n32 n33=>k0 n31 n32 n33) (λn34 n35 n36 ab8 ab9=>k1 n34 n35 n36 ab8 ab9))
def rL (N:Nat) (XC:LF) (Xj Xr:Int) (Xt:LF) (m:List RY0) (ticks:Int) (b3:LF) (f_6 f_7:Int) (k0:Ky2) (k1:Kx4):Bool:=
 (cond (f_6 != ((XC.length:Nat):Int)) (k0 0 0 3) (uX N m ticks (λn25 n26 n27=>cond (n27 != 0) (k0 0 0 n27) (zg N XC Xj Xr Xt m ticks b3 f_6 f_7 n25 n26 k0 k1)) (λn28 n29 n30 ab7=>cond (n30 != 0) (k0 0 0 n30) (rM N XC Xj Xr Xt m ticks b3 f_6 f_7 ab7 n28 n29 k0 k1))))
def zf (N:Nat) (XC:LF) (Xj Xr:Int) (Xt:LF) (m:List RY0) (ticks f_4 f_5:Int) (b4:LF) (q_2 q_3:Int) (k0:Ky2) (k1:Kx4):Bool:=
 (dW N XC Xj Xr Xt f_4 f_5 [] q_2 q_3 b4 (λn19 n20 n21=>k0 n19 n20 n21) (λn22 n23 n24 aaw ab6=>k1 n22 n23 n24 aaw ab6))
def ze (N:Nat) (XC:LF) (Xj Xr:Int) (Xt:LF) (m:List RY0) (ticks YL f_3 q q_1:Int) (k0:Ky2) (k1:Kx4):Bool:=
 (dW N XC Xj Xr Xt YL f_3 [] q q_1 [] (λn13 n14 n15=>k0 n13 n14 n15) (λn16 n17 n18 YR ZG=>k1 n16 n17 n18 YR ZG))
def zd (N:Nat) (XC:LF) (Xj Xr:Int) (Xt:LF) (m:List RY0) (ticks f YE:Int) (k0:Ky2) (k1:Kx4):Bool:=
 (cond (f != ((XC.length:Nat):Int)) (k0 0 0 3) (uX N m ticks (λn7 n8 n9=>cond (n9 != 0) (k0 0 0 n9) (ze N XC Xj Xr Xt m ticks f YE n7 n8 k0 k1)) (λn10 n11 n12 XM=>cond (n12 != 0) (k0 0 0 n12) (zf N XC Xj Xr Xt m ticks f YE XM n10 n11 k0 k1))))
def pJ (N:Nat) (XC:LF) (Xj Xr:Int) (Xt:LF) (m:List RY0) (ticks:Int) (k0:Ky2) (k1:Kx4):Bool:=
 (dj N XC Xj Xr Xt (λnr=>cond (nr != 0) (k0 0 0 nr) (ya N m ticks (λW4 W_ Xx=>cond (Xx != 0) (k0 0 0 Xx) (zd N XC Xj Xr Xt m ticks W4 W_ k0 k1)) (λXJ n5 n6 xsr=>cond (n6 != 0) (k0 0 0 n6) (rL N XC Xj Xr Xt m ticks xsr XJ n5 k0 k1)))))
def aB (N:Nat):LF->Int->Int->LF->List RY0->Int->(Ky2)->(Kx4)->Bool:=aw N (pJ N)
def GC (N:Nat) (Xv:Int) (ZF:List RY4) (agv:Int) (X6:List RY0) (e0:Kz4) (e1:Bool):(Int × Int × Int × LF × LF)->((Int × Int × Int × LF × LF)->Bool)->Bool:=λv_ K=>match v_ with
 | (WZ,X2,X5,Xl,XD)=>(cond (decide (WZ<agv)) (inR WZ ZF.length&&oQ N (ZF.getD WZ.toNat ([],(0,0))).1 (λaaw=>DZ N (ZF.getD WZ.toNat ([],(0,0))).2.1 (λx20=>DZ N (ZF.getD WZ.toNat ([],(0,0))).2.2 (λahJ=>kf N Xl X2 X5 XD aaw x20 ahJ (λn19 n20 x22 x23 x24 n21=>cond ((Int.tmod WZ 3)==1) (DZ N (ZF.getD WZ.toNat ([],(0,0))).2.1 (λx25=>DZ N (ZF.getD WZ.toNat ([],(0,0))).2.2 (λx26=>iK N Xl X2 X5 XD aaw x25 x26 (λn22 n23 x27 x28 x29 n24=>cond (n24==0) (sQ0 N [] n22 n23 [] (λacv=>cond (!acv) (e0 false) (aB N [] n22 n23 [] X6 Xv (λn25 n26 n27=>cond (n27==0) (sQ0 N [] n25 n26 [] (λacw=>cond (!acw) (e0 false) (ac .i64 (WZ+1)&&K ((WZ+1),n25,n26,[],[])))) (ac .i64 (WZ+1)&&K ((WZ+1),n22,n23,[],[]))) (λn28 n29 n30 ab6 ab7=>cond (n30==0) (sQ0 N ab6 n28 n29 ab7 (λc8=>cond (!c8) (e0 false) (ac .i64 (WZ+1)&&K ((WZ+1),n28,n29,ab6,ab7)))) (ac .i64 (WZ+1)&&K ((WZ+1),n22,n23,[],[])))))) (aB N Xl X2 X5 XD X6 Xv (λn31 n32 n33=>cond (n33==0) (sQ0 N [] n31 n32 [] (λc9=>cond (!c9) (e0 false) (ac .i64 (WZ+1)&&K ((WZ+1),n31,n32,[],[])))) (ac .i64 (WZ+1)&&K ((WZ+1),X2,X5,Xl,XD))) (λn34 n35 n36 ab8 ab9=>cond (n36==0) (sQ0 N ab8 n34 n35 ab9 (λc10=>cond (!c10) (e0 false) (ac .i64 (WZ+1)&&K ((WZ+1),n34,n35,ab8,ab9)))) (ac .i64 (WZ+1)&&K ((WZ+1),X2,X5,Xl,XD))))) (λn37 n38 x30 x31 x32 n39 aea=>cond (n39==0) (sQ0 N [] n37 n38 [] (λc11=>cond (!c11) (e0 false) (aB N [] n37 n38 [] X6 Xv (λn40 n41 n42=>cond (n42==0) (sQ0 N [] n40 n41 [] (λc12=>cond (!c12) (e0 false) (ac .i64 (WZ+1)&&K ((WZ+1),n40,n41,[],[])))) (ac .i64 (WZ+1)&&K ((WZ+1),n37,n38,[],[]))) (λn43 n44 n45 Z3 y11=>cond (n45==0) (sQ0 N Z3 n43 n44 y11 (λc13=>cond (!c13) (e0 false) (ac .i64 (WZ+1)&&K ((WZ+1),n43,n44,Z3,y11)))) (ac .i64 (WZ+1)&&K ((WZ+1),n37,n38,[],[])))))) (aB N Xl X2 X5 XD X6 Xv (λn46 n47 n48=>cond (n48==0) (sQ0 N [] n46 n47 [] (λc14=>cond (!c14) (e0 false) (ac .i64 (WZ+1)&&K ((WZ+1),n46,n47,[],[])))) (ac .i64 (WZ+1)&&K ((WZ+1),X2,X5,Xl,XD))) (λn49 n50 n51 y12 y13=>cond (n51==0) (sQ0 N y12 n49 n50 y13 (λc15=>cond (!c15) (e0 false) (ac .i64 (WZ+1)&&K ((WZ+1),n49,n50,y12,y13)))) (ac .i64 (WZ+1)&&K ((WZ+1),X2,X5,Xl,XD))))) (λn52 n53 x33 x34 x35 n54 y14 y15 y16=>cond (n54==0) (sQ0 N y14 n52 n53 y15 (λc16=>cond (!c16) (e0 false) (aB N y14 n52 n53 y15 X6 Xv (λn55 n56 n57=>cond (n57==0) (sQ0 N [] n55 n56 [] (λc17=>cond (!c17) (e0 false) (ac .i64 (WZ+1)&&K ((WZ+1),n55,n56,[],[])))) (ac .i64 (WZ+1)&&K ((WZ+1),n52,n53,y14,y15))) (λn58 n59 n60 y17 y18=>cond (n60==0) (sQ0 N y17 n58 n59 y18 (λc18=>cond (!c18) (e0 false) (ac .i64 (WZ+1)&&K ((WZ+1),n58,n59,y17,y18)))) (ac .i64 (WZ+1)&&K ((WZ+1),n52,n53,y14,y15)))))) (aB N Xl X2 X5 XD X6 Xv (λn61 n62 n63=>cond (n63==0) (sQ0 N [] n61 n62 [] (λc19=>cond (!c19) (e0 false) (ac .i64 (WZ+1)&&K ((WZ+1),n61,n62,[],[])))) (ac .i64 (WZ+1)&&K ((WZ+1),X2,X5,Xl,XD))) (λn64 n65 n66 y19 y20=>cond (n66==0) (sQ0 N y19 n64 n65 y20 (λc20=>cond (!c20) (e0 false) (ac .i64 (WZ+1)&&K ((WZ+1),n64,n65,y19,y20)))) (ac .i64 (WZ+1)&&K ((WZ+1),X2,X5,Xl,XD)))))))) (cond (n21==0) (sQ0 N [] n19 n20 [] (λc21=>cond (!c21) (e0 false) (aB N [] n19 n20 [] X6 Xv (λn67 n68 n69=>cond (n69==0) (sQ0 N [] n67 n68 [] (λc22=>cond (!c22) (e0 false) (ac .i64 (WZ+1)&&K ((WZ+1),n67,n68,[],[])))) (ac .i64 (WZ+1)&&K ((WZ+1),n19,n20,[],[]))) (λn70 n71 n72 y21 y22=>cond (n72==0) (sQ0 N y21 n70 n71 y22 (λc23=>cond (!c23) (e0 false) (ac .i64 (WZ+1)&&K ((WZ+1),n70,n71,y21,y22)))) (ac .i64 (WZ+1)&&K ((WZ+1),n19,n20,[],[])))))) (aB N Xl X2 X5 XD X6 Xv (λn73 n74 n75=>cond (n75==0) (sQ0 N [] n73 n74 [] (λc24=>cond (!c24) (e0 false) (ac .i64 (WZ+1)&&K ((WZ+1),n73,n74,[],[])))) (ac .i64 (WZ+1)&&K ((WZ+1),X2,X5,Xl,XD))) (λn76 n77 n78 y23 y24=>cond (n78==0) (sQ0 N y23 n76 n77 y24 (λc25=>cond (!c25) (e0 false) (ac .i64 (WZ+1)&&K ((WZ+1),n76,n77,y23,y24)))) (ac .i64 (WZ+1)&&K ((WZ+1),X2,X5,Xl,XD)))))) (λn79 n80 x36 x37 x38 n81 y25=>cond ((Int.tmod WZ 3)==1) (DZ N (ZF.getD WZ.toNat ([],(0,0))).2.1 (λx39=>DZ N (ZF.getD WZ.toNat ([],(0,0))).2.2 (λx40=>iK N Xl X2 X5 XD aaw x39 x40 (λn82 n83 x41 x42 x43 n84=>cond (n84==0) (sQ0 N [] n82 n83 [] (λc26=>cond (!c26) (e0 false) (aB N [] n82 n83 [] X6 Xv (λn85 n86 n87=>cond (n87==0) (sQ0 N [] n85 n86 [] (λc27=>cond (!c27) (e0 false) (ac .i64 (WZ+1)&&K ((WZ+1),n85,n86,[],[])))) (ac .i64 (WZ+1)&&K ((WZ+1),n82,n83,[],[]))) (λn88 n89 n90 y26 y27=>cond (n90==0) (sQ0 N y26 n88 n89 y27 (λc28=>cond (!c28) (e0 false) (ac .i64 (WZ+1)&&K ((WZ+1),n88,n89,y26,y27)))) (ac .i64 (WZ+1)&&K ((WZ+1),n82,n83,[],[])))))) (aB N Xl X2 X5 XD X6 Xv (λn91 n92 n93=>cond (n93==0) (sQ0 N [] n91 n92 [] (λc29=>cond (!c29) (e0 false) (ac .i64 (WZ+1)&&K ((WZ+1),n91,n92,[],[])))) (ac .i64 (WZ+1)&&K ((WZ+1),X2,X5,Xl,XD))) (λn94 n95 n96 y28 y29=>cond (n96==0) (sQ0 N y28 n94 n95 y29 (λc30=>cond (!c30) (e0 false) (ac .i64 (WZ+1)&&K ((WZ+1),n94,n95,y28,y29)))) (ac .i64 (WZ+1)&&K ((WZ+1),X2,X5,Xl,XD))))) (λn97 n98 x44 x45 x46 n99 y30=>cond (n99==0) (sQ0 N [] n97 n98 [] (λc31=>cond (!c31) (e0 false) (aB N [] n97 n98 [] X6 Xv (λn100 n101 n102=>cond (n102==0) (sQ0 N [] n100 n101 [] (λahC=>cond (!ahC) (e0 false) (ac .i64 (WZ+1)&&K ((WZ+1),n100,n101,[],[])))) (ac .i64 (WZ+1)&&K ((WZ+1),n97,n98,[],[]))) (λn103 n104 n105 y31 y32=>cond (n105==0) (sQ0 N y31 n103 n104 y32 (λc33=>cond (!c33) (e0 false) (ac .i64 (WZ+1)&&K ((WZ+1),n103,n104,y31,y32)))) (ac .i64 (WZ+1)&&K ((WZ+1),n97,n98,[],[])))))) (aB N Xl X2 X5 XD X6 Xv (λn106 n107 n108=>cond (n108==0) (sQ0 N [] n106 n107 [] (λc34=>cond (!c34) (e0 false) (ac .i64 (WZ+1)&&K ((WZ+1),n106,n107,[],[])))) (ac .i64 (WZ+1)&&K ((WZ+1),X2,X5,Xl,XD))) (λn109 n110 n111 y33 y34=>cond (n111==0) (sQ0 N y33 n109 n110 y34 (λc35=>cond (!c35) (e0 false) (ac .i64 (WZ+1)&&K ((WZ+1),n109,n110,y33,y34)))) (ac .i64 (WZ+1)&&K ((WZ+1),X2,X5,Xl,XD))))) (λn112 n113 x47 x48 x49 n114 y35 y36 y37=>cond (n114==0) (sQ0 N y35 n112 n113 y36 (λc36=>cond (!c36) (e0 false) (aB N y35 n112 n113 y36 X6 Xv (λn115 n116 n117=>cond (n117==0) (sQ0 N [] n115 n116 [] (λc37=>cond (!c37) (e0 false) (ac .i64 (WZ+1)&&K ((WZ+1),n115,n116,[],[])))) (ac .i64 (WZ+1)&&K ((WZ+1),n112,n113,y35,y36))) (λn118 n119 n120 y38 y39=>cond (n120==0) (sQ0 N y38 n118 n119 y39 (λc38=>cond (!c38) (e0 false) (ac .i64 (WZ+1)&&K ((WZ+1),n118,n119,y38,y39)))) (ac .i64 (WZ+1)&&K ((WZ+1),n112,n113,y35,y36)))))) (aB N Xl X2 X5 XD X6 Xv (λn121 n122 n123=>cond (n123==0) (sQ0 N [] n121 n122 [] (λc39=>cond (!c39) (e0 false) (ac .i64 (WZ+1)&&K ((WZ+1),n121,n122,[],[])))) (ac .i64 (WZ+1)&&K ((WZ+1),X2,X5,Xl,XD))) (λn124 n125 n126 y40 y41=>cond (n126==0) (sQ0 N y40 n124 n125 y41 (λc40=>cond (!c40) (e0 false) (ac .i64 (WZ+1)&&K ((WZ+1),n124,n125,y40,y41)))) (ac .i64 (WZ+1)&&K ((WZ+1),X2,X5,Xl,XD)))))))) (cond (n81==0) (sQ0 N [] n79 n80 [] (λc41=>cond (!c41) (e0 false) (aB N [] n79 n80 [] X6 Xv (λn127 n128 n129=>cond (n129==0) (sQ0 N [] n127 n128 [] (λc42=>cond (!c42) (e0 false) (ac .i64 (WZ+1)&&K ((WZ+1),n127,n128,[],[])))) (ac .i64 (WZ+1)&&K ((WZ+1),n79,n80,[],[]))) (λn130 n131 n132 y42 y43=>cond (n132==0) (sQ0 N y42 n130 n131 y43 (λc43=>cond (!c43) (e0 false) (ac .i64 (WZ+1)&&K ((WZ+1),n130,n131,y42,y43)))) (ac .i64 (WZ+1)&&K ((WZ+1),n79,n80,[],[])))))) (aB N Xl X2 X5 XD X6 Xv (λn133 n134 n135=>cond (n135==0) (sQ0 N [] n133 n134 [] (λc44=>cond (!c44) (e0 false) (ac .i64 (WZ+1)&&K ((WZ+1),n133,n134,[],[])))) (ac .i64 (WZ+1)&&K ((WZ+1),X2,X5,Xl,XD))) (λn136 n137 n138 y44 y45=>cond (n138==0) (sQ0 N y44 n136 n137 y45 (λc45=>cond (!c45) (e0 false) (ac .i64 (WZ+1)&&K ((WZ+1),n136,n137,y44,y45)))) (ac .i64 (WZ+1)&&K ((WZ+1),X2,X5,Xl,XD)))))) (λn139 n140 x50 x51 x52 n141 y46 y47 y48=>cond ((Int.tmod WZ 3)==1) (DZ N (ZF.getD WZ.toNat ([],(0,0))).2.1 (λx53=>DZ N (ZF.getD WZ.toNat ([],(0,0))).2.2 (λx54=>iK N Xl X2 X5 XD aaw x53 x54 (λn142 n143 x55 x56 x57 n144=>cond (n144==0) (sQ0 N [] n142 n143 [] (λc46=>cond (!c46) (e0 false) (aB N [] n142 n143 [] X6 Xv (λn145 n146 n147=>cond (n147==0) (sQ0 N [] n145 n146 [] (λc47=>cond (!c47) (e0 false) (ac .i64 (WZ+1)&&K ((WZ+1),n145,n146,[],[])))) (ac .i64 (WZ+1)&&K ((WZ+1),n142,n143,[],[]))) (λn148 n149 n150 y49 y50=>cond (n150==0) (sQ0 N y49 n148 n149 y50 (λc48=>cond (!c48) (e0 false) (ac .i64 (WZ+1)&&K ((WZ+1),n148,n149,y49,y50)))) (ac .i64 (WZ+1)&&K ((WZ+1),n142,n143,[],[])))))) (aB N Xl X2 X5 XD X6 Xv (λn151 n152 n153=>cond (n153==0) (sQ0 N [] n151 n152 [] (λc49=>cond (!c49) (e0 false) (ac .i64 (WZ+1)&&K ((WZ+1),n151,n152,[],[])))) (ac .i64 (WZ+1)&&K ((WZ+1),X2,X5,Xl,XD))) (λn154 n155 n156 y51 y52=>cond (n156==0) (sQ0 N y51 n154 n155 y52 (λc50=>cond (!c50) (e0 false) (ac .i64 (WZ+1)&&K ((WZ+1),n154,n155,y51,y52)))) (ac .i64 (WZ+1)&&K ((WZ+1),X2,X5,Xl,XD))))) (λn157 n158 x58 x59 x60 n159 y53=>cond (n159==0) (sQ0 N [] n157 n158 [] (λc51=>cond (!c51) (e0 false) (aB N [] n157 n158 [] X6 Xv (λn160 n161 n162=>cond (n162==0) (sQ0 N [] n160 n161 [] (λc52=>cond (!c52) (e0 false) (ac .i64 (WZ+1)&&K ((WZ+1),n160,n161,[],[])))) (ac .i64 (WZ+1)&&K ((WZ+1),n157,n158,[],[]))) (λn163 n164 n165 y54 y55=>cond (n165==0) (sQ0 N y54 n163 n164 y55 (λc53=>cond (!c53) (e0 false) (ac .i64 (WZ+1)&&K ((WZ+1),n163,n164,y54,y55)))) (ac .i64 (WZ+1)&&K ((WZ+1),n157,n158,[],[])))))) (aB N Xl X2 X5 XD X6 Xv (λn166 n167 n168=>cond (n168==0) (sQ0 N [] n166 n167 [] (λc54=>cond (!c54) (e0 false) (ac .i64 (WZ+1)&&K ((WZ+1),n166,n167,[],[])))) (ac .i64 (WZ+1)&&K ((WZ+1),X2,X5,Xl,XD))) (λn169 n170 n171 y56 y57=>cond (n171==0) (sQ0 N y56 n169 n170 y57 (λc55=>cond (!c55) (e0 false) (ac .i64 (WZ+1)&&K ((WZ+1),n169,n170,y56,y57)))) (ac .i64 (WZ+1)&&K ((WZ+1),X2,X5,Xl,XD))))) (λn172 n173 x61 x62 x63 n174 y58 y59 y60=>cond (n174==0) (sQ0 N y58 n172 n173 y59 (λc56=>cond (!c56) (e0 false) (aB N y58 n172 n173 y59 X6 Xv (λn175 n176 n177=>cond (n177==0) (sQ0 N [] n175 n176 [] (λc57=>cond (!c57) (e0 false) (ac .i64 (WZ+1)&&K ((WZ+1),n175,n176,[],[])))) (ac .i64 (WZ+1)&&K ((WZ+1),n172,n173,y58,y59))) (λn178 n179 n180 y61 y62=>cond (n180==0) (sQ0 N y61 n178 n179 y62 (λc58=>cond (!c58) (e0 false) (ac .i64 (WZ+1)&&K ((WZ+1),n178,n179,y61,y62)))) (ac .i64 (WZ+1)&&K ((WZ+1),n172,n173,y58,y59)))))) (aB N Xl X2 X5 XD X6 Xv (λn181 n182 n183=>cond (n183==0) (sQ0 N [] n181 n182 [] (λc59=>cond (!c59) (e0 false) (ac .i64 (WZ+1)&&K ((WZ+1),n181,n182,[],[])))) (ac .i64 (WZ+1)&&K ((WZ+1),X2,X5,Xl,XD))) (λn184 n185 n186 y63 y64=>cond (n186==0) (sQ0 N y63 n184 n185 y64 (λc60=>cond (!c60) (e0 false) (ac .i64 (WZ+1)&&K ((WZ+1),n184,n185,y63,y64)))) (ac .i64 (WZ+1)&&K ((WZ+1),X2,X5,Xl,XD)))))))) (cond (n141==0) (sQ0 N y46 n139 n140 y47 (λc61=>cond (!c61) (e0 false) (aB N y46 n139 n140 y47 X6 Xv (λn187 n188 n189=>cond (n189==0) (sQ0 N [] n187 n188 [] (λc62=>cond (!c62) (e0 false) (ac .i64 (WZ+1)&&K ((WZ+1),n187,n188,[],[])))) (ac .i64 (WZ+1)&&K ((WZ+1),n139,n140,y46,y47))) (λn190 n191 n192 y65 y66=>cond (n192==0) (sQ0 N y65 n190 n191 y66 (λc63=>cond (!c63) (e0 false) (ac .i64 (WZ+1)&&K ((WZ+1),n190,n191,y65,y66)))) (ac .i64 (WZ+1)&&K ((WZ+1),n139,n140,y46,y47)))))) (aB N Xl X2 X5 XD X6 Xv (λn193 n194 n195=>cond (n195==0) (sQ0 N [] n193 n194 [] (λahD=>cond (!ahD) (e0 false) (ac .i64 (WZ+1)&&K ((WZ+1),n193,n194,[],[])))) (ac .i64 (WZ+1)&&K ((WZ+1),X2,X5,Xl,XD))) (λn196 n197 n198 y67 y68=>cond (n198==0) (sQ0 N y67 n196 n197 y68 (λc65=>cond (!c65) (e0 false) (ac .i64 (WZ+1)&&K ((WZ+1),n196,n197,y67,y68)))) (ac .i64 (WZ+1)&&K ((WZ+1),X2,X5,Xl,XD)))))))))) e1)
def GQ1 (N:Nat) (x:LI) (n:Int) (p:LI) (l:List RY4) (m:List RY0) (ticks:Int) (k0:Kz4):Bool:=
 (TO N x n n p (λxsr XM=>dj N xsr n n XM (λnr=>cond ((nr != 0)==false) (cond (decide (((l.length:Nat):Int)>20)) (PP N (λcr=>k0 cr)) (ah N (GC N ticks l ((l.length:Nat):Int) m (λt12=>k0 t12) (PP N (λc66=>k0 c66))) (0,n,n,xsr,XM))) (PP N (λW3=>k0 W3)))))
def sQ1 (N:Nat):LI->Int->LI->List RY4->List RY0->Int->(Kz4)->Bool:=GQ1 N
end Go.Proofs.YtbiingchhnlcnaaGreatDoor
