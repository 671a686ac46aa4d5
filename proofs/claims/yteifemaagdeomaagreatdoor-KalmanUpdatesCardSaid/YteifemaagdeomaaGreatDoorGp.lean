/-
  THE PROGRAM's FUNCTIONS, as their meanings (written by program).
  Conditions: none.
-/
import Derived.Test.YteifemaagdeomaaGreatDoorMachT
set_option linter.unusedVariables false
namespace Go.Proofs.YteifemaagdeomaaGreatDoor
open Go Go.Mach
abbrev LI:=List Int
abbrev LF:=List Fl
abbrev Kx0:=Int->Int->Fl->Fl->Fl->Int->LF->LF->LF->Bool
abbrev Kx1:=Int->Int->Fl->Fl->Fl->Int->LF->Bool
abbrev Kx2:=Int->Int->Fl->Fl->Fl->Int->Bool
abbrev Kx3:=Int->Int->Int->Int->Bool->Bool
abbrev Kx4:=Bool->Int->Int->Int->Bool
abbrev Kx5:=Bool->LI->Bool->LI->Bool
abbrev Kx6:=Int->Int->Int->Int->Bool
abbrev Kx7:=Int->Int->Bool->LF->Bool
abbrev Kx8:=Bool->Int->Int->Bool
abbrev Kx9:=Bool->Nat->Nat->Bool
abbrev Ky0:=Int->Int->Int->Bool
abbrev Ky1:=Fl->Fl->Int->Bool
abbrev Ky2:=Bool->Bool->Bool
abbrev Ky3:=Bool->LI->Bool
abbrev Ky4:=Int->Int->Bool
abbrev Ky5:=Fl->Bool->Bool
abbrev Ky6:=Bool->LF->Bool
abbrev Ky7:=Nat->Nat->Bool
abbrev Ky8:=Int->LI->Bool
abbrev Ky9:=Nat->LI->Bool
abbrev Kz0:=LI->LI->Bool
abbrev Kz1:=Bool->Bool
abbrev Kz2:=Int->Bool
abbrev Kz3:=Nat->Bool
abbrev Kz4:=Fl->Bool
abbrev Kz5:=LF->Bool
abbrev Kz6:=LI->Bool
abbrev RT0:RT:=(.pair (.ints .u64) (.pair (.int .u64) (.int .u64)))
abbrev RT1:RT:=(.ptr (.pair (.pair .bool (.ints .u64)) (.pair .bool (.ints .u64))))
abbrev RY1:=(Bool × LI) × Bool × LI
abbrev RT2:RT:=(.pair (.pair .bool (.ints .u32)) (.pair .bool (.ints .u32)))
abbrev RY2:=(Bool × LI) × Bool × LI
abbrev RT3:RT:=(.ptr (.pair (.pair .bool (.ints .u32)) (.pair .bool (.ints .u32))))
abbrev RY3:=(Bool × LI) × Bool × LI
def ax:LI:=[0,1,2,2,3,3,3,3,4,4,4,4,4,4,4,4,5,5,5,5,5,5,5,5,5,5,5,5,5,5,5,5,6,6,6,6,6,6,6,6,6,6,6,6,6,6,6,6,6,6,6,6,6,6,6,6,6,6,6,6,6,6,6,6,7,7,7,7,7,7,7,7,7,7,7,7,7,7,7,7,7,7,7,7,7,7,7,7,7,7,7,7,7,7,7,7,7,7,7,7,7,7,7,7,7,7,7,7,7,7,7,7,7,7,7,7,7,7,7,7,7,7,7,7,7,7,7,7,8,8,8,8,8,8,8,8,8,8,8,8,8,8,8,8,8,8,8,8,8,8,8,8,8,8,8,8,8,8,8,8,8,8,8,8,8,8,8,8,8,8,8,8,8,8,8,8,8,8,8,8,8,8,8,8,8,8,8,8,8,8,8,8,8,8,8,8,8,8,8,8,8,8,8,8,8,8,8,8,8,8,8,8,8,8,8,8,8,8,8,8,8,8,8,8,8,8,8,8,8,8,8,8,8,8,8,8,8,8,8,8,8,8,8,8,8,8,8,8,8,8,8,8,8,8,8,8]
abbrev JQ:=Nat->(Kz2)->Bool
def BE (N:Nat):JQ:=λn k=>k n
def AQ (N:Nat) (k0:Ky0):Bool:=
 (k0 52 2047 1075)
def sc (N:Nat):(Ky0)->Bool:=AQ N
def He (N:Nat) (Wj Wm WB:Int) (k0:Kz2):Bool:=
 (ah .i64 (Wm+1)&&(decide (0<=Wj)&&k0 (IntKind.wrap .u64 ((IntKind.wrap .u64 (Wm+1))*2 ^ (min Wj.toNat 64)))))
def vD (N:Nat):Int->Int->Int->(Kz2)->Bool:=He N
def zn (N:Nat) (Wj Wm WB:Int) (k0:Kz2):Bool:=
 (decide (0<=Wj)&&k0 (IntKind.wrap .u64 ((IntKind.wrap .u64 Wm)*2 ^ (min Wj.toNat 64))))
def nE (N:Nat):Int->Int->Int->(Kz2)->Bool:=zn N
def Jg (N:Nat) (b Wj Wm WB:Int) (k0:Kz1):Bool:=
 (vD N Wj Wm WB (λnr=>nE N Wj Wm WB (λUt=>k0 (decide ((az .andNot .u64 b nr)>Ut)))))
def Ln (N:Nat):Int->Int->Int->Int->(Kz1)->Bool:=aw N (Jg N)
def B3 (N:Nat) (Wj Wm WB:Int) (k0:Kz2):Bool:=
 (decide (0<=Wj)&&k0 (IntKind.wrap .u64 ((1:Int)*2 ^ (min Wj.toNat 64))))
def lC (N:Nat):Int->Int->Int->(Kz2)->Bool:=B3 N
def uQ (N:Nat) (Wj Wm WB:Int) (k0:Kz2):Bool:=
 (nE N Wj Wm WB (λnr=>lC N Wj Wm WB (λUt=>k0 (az .or .u64 (az .or .u64 nr (Int.fdiv Ut (2 ^ 1))) (IntKind.wrap .u64 (Int.tdiv Wj 52))))))
def vC (N:Nat):Int->Int->Int->(Kz2)->Bool:=aw N (uQ N)
def RK (N:Nat) (b Wj Wm WB:Int) (k0:Kz2):Bool:=
 (Ln N b Wj Wm WB (λcr=>cond cr (vC N Wj Wm WB (λnr=>k0 nr)) (k0 b)))
def Lz (N:Nat):Int->Int->Int->Int->(Kz2)->Bool:=RK N
def O3 (N:Nat) (b Wj Wm WB:Int) (k0:Kx8):Bool:=
 (Lz N b Wj Wm WB (λnr=>vD N Wj Wm WB (λUt=>decide (0<=Wj)&&(ah .i64 (az .and .u64 (Int.fdiv nr (2 ^ (min Wj.toNat 64))) (IntKind.wrap .u64 Wm))&&lC N Wj Wm WB (λUx=>k0 ((az .and .u64 nr Ut) != 0) (az .and .u64 (Int.fdiv nr (2 ^ (min Wj.toNat 64))) (IntKind.wrap .u64 Wm)) (az .and .u64 nr (IntKind.wrap .u64 (Ux - 1))))))))
def Nm (N:Nat):Int->Int->Int->Int->(Kx8)->Bool:=aw N (O3 N)
def O2 (N:Nat) (b Wj Wm WB:Int) (k0:Kz2):Bool:=
 (Nm N b Wj Wm WB (λcr nr Ut=>cond ((nr==Wm)==true) (cond (Ut != 0) (k0 1) (cond (nr==Wm) (k0 2) (cond ((nr==0)==true) (cond (Ut==0) (k0 3) (cond (nr==0) (k0 4) (k0 5))) (cond (nr==0) (k0 4) (k0 5))))) (cond (nr==Wm) (k0 2) (cond ((nr==0)==true) (cond (Ut==0) (k0 3) (cond (nr==0) (k0 4) (k0 5))) (cond (nr==0) (k0 4) (k0 5))))))
def Nl (N:Nat):Int->Int->Int->Int->(Kz2)->Bool:=aw N (O2 N)
abbrev NP:=Nat->(Kz2)->Bool
def Rx (N x:Nat) (k0:Kz2):Bool:=
 (BE N x (λnr=>sc N (λUt Ux UK=>Nl N nr Ut Ux UK (λUP=>k0 UP))))
def FG (N:Nat):Nat->(Kz2)->Bool:=Rx N
abbrev NQ:=Nat->Nat->(Kz1)->Bool
def Ry (N a b:Nat) (k0:Kz1):Bool:=
 (BE N a (λnr=>sc N (λUt Ux UK=>Lz N nr Ut Ux UK (λUP=>BE N b (λn5=>sc N (λn6 n7 n8=>Lz N n5 n6 n7 n8 (λn9=>k0 (UP==n9))))))))
def FH (N:Nat):Nat->Nat->(Kz1)->Bool:=Ry N
abbrev Ed:=Int->(Kz4)->Bool
def yM (N:Nat):Ed:=λn k=>k (fJ n.toNat)
abbrev NR:=Nat->(Kz4)->Bool
def RJ (N x:Nat) (k0:Kz4):Bool:=
 (BE N x (λnr=>yM N (az .andNot .u64 nr 9223372036854775808) (λxr=>k0 xr)))
def FI (N:Nat):Nat->(Kz4)->Bool:=RJ N
def kY (N:Nat) (Xv:LI) (abT:Int) (e0:Kz5):(Int × LF)->((Int × LF)->Bool)->Bool:=λv_ K=>match v_ with
 | (aaV,x)=>(cond (decide (aaV<abT)) (inR aaV Xv.length&&yM N (Xv.getD aaV.toNat 0) (λUC=>decide ((List.length (x++[UC]))*8<=140737488355328)&&(ah .i64 (aaV+1)&&K ((aaV+1),(x++[UC]))))) (e0 x))
def sU (N:Nat) (l:LI) (k0:Kz5):Bool:=
 (ak N (kY N l ((l.length:Nat):Int) (λUQ=>k0 UQ)) (0,[]))
def kK (N:Nat):LI->(Kz5)->Bool:=aw N (sU N)
def RH (N:Nat) (x:LI) (rows cols:Int) (p:LI) (k0:LF->LF->Bool):Bool:=
 (kK N x (λxsr=>kK N p (λUB=>k0 xsr UB)))
def Ni (N:Nat):LI->Int->Int->LI->(LF->LF->Bool)->Bool:=RH N
def GQ3 (N:Nat) (b:Int) (k0:Kz4):Bool:=
 (yM N b (λxr=>k0 xr))
def sQ3 (N:Nat):Int->(Kz4)->Bool:=GQ3 N
def NF (N:Nat) (n:Int) (k0:Kz1):Bool:=
 (cond ((decide (n>=0))==true) (k0 (decide (n<=12))) (k0 false))
def GP (N:Nat):Int->(Kz1)->Bool:=NF N
abbrev JR:=Fl->(Kz2)->Bool
def Ly (N:Nat):JR:=λx k=>k (xB x)
def j7 (N:Nat) (t6:LF) (t7:Int) (e0:Kz1) (e1:Bool):(Int)->((Int)->Bool)->Bool:=λv_ K=>match v_ with
 | t8=>(cond (decide (t8<t7)) (inR t8 t6.length&&Ly N (t6.getD t8.toNat none) (λnr=>cond ((nr==1)==false) (cond (nr==2) (e0 false) (ah .i64 (t8+1)&&K (t8+1))) (e0 false))) e1)
def I0 (N:Nat) (l:LF) (k0:Kz1):Bool:=
 (ak N (j7 N l ((l.length:Nat):Int) (λt2=>k0 t2) (k0 true)) 0)
def pO (N:Nat):LF->(Kz1)->Bool:=aw N (I0 N)
def O4 (N:Nat) (U_ Uy:Int) (UV:LF) (k0:Kz2):Bool:=
 (GP N U_ (λcr=>cond ((!cr)==false) (GP N Uy (λUu=>cond (!Uu) (k0 1) (ah .i64 (U_*Uy)&&cond (((UV.length:Nat):Int) != (U_*Uy)) (k0 3) (pO N UV (λUS=>cond (!US) (k0 4) (k0 0)))))) (k0 1)))
def LA (N:Nat):Int->Int->LF->(Kz2)->Bool:=aw N (O4 N)
def vP (N:Nat) (U_ Uy:Int) (UV:LF) (i j:Int) (k0:Kz4):Bool:=
 (ah .i64 (i*Uy)&&(ah .i64 ((i*Uy)+j)&&(inR ((i*Uy)+j) UV.length&&k0 (UV.getD (Int.toNat ((i*Uy)+j)) none))))
def nn (N:Nat):Int->Int->LF->Int->Int->(Kz4)->Bool:=vP N
abbrev Eb:=Fl->Fl->(Kz1)->Bool
def Dx (N:Nat):Eb:=λx y k=>k (decide (cn x=cn y))
def BT (N:Nat) (i Wb VZ t20 X5 X9:Int) (X_:LF) (e0:Kz1) (e1:Bool):(Int)->((Int)->Bool)->Bool:=λv_ K=>match v_ with
 | t21=>(cond (decide (t21<t20)) (nn N X5 X9 X_ i t21 (λxr=>nn N X5 X9 X_ t21 i (λUC=>Dx N xr UC (λcr=>cond (!cr) (e0 false) (ah .i64 (t21+1)&&K (t21+1)))))) e1)
def BS (N:Nat) (t16 m VU:Int) (Xs:LF) (e0:Kz1) (e1:Bool):(Int)->((Int)->Bool)->Bool:=λv_ K=>match v_ with
 | t17=>(cond (decide (t17<t16)) (ak N (BT N t17 t16 t17 t17 m VU Xs (λt2=>e0 t2) (ah .i64 (t17+1)&&K (t17+1))) 0) e1)
def Pj (N:Nat) (U_ Uy:Int) (UV:LF) (k0:Kz1):Bool:=
 (LA N U_ Uy UV (λnr=>cond ((nr != 0)==false) (cond (U_ != Uy) (k0 false) (ak N (BS N U_ U_ Uy UV (λWP=>k0 WP) (k0 true)) 0)) (k0 false)))
def Rm (N:Nat):Int->Int->LF->(Kz1)->Bool:=aw N (Pj N)
def tW (N:Nat) (is:Bool) (e:Int) (k0:Bool):Bool:=
 (cond (!is) false k0)
def cY (N:Nat):Bool->Int->(Bool)->Bool:=tW N
abbrev Ec:=Fl->(Kz2)->Bool
def wH (N:Nat):Ec:=λx k=>match x with | some b=>k b | none=>false
def Me (N:Nat) (x:Int) (k0:Kz2):Bool:=
 (cond (x==0) (k0 64) (inR (Int.fdiv (IntKind.wrap .u64 ((az .and .u64 x (IntKind.wrap .u64 (0 - x)))*285870213051353865)) (2 ^ 58)) 64&&(ah .i64 (wQ.getD (Int.toNat (Int.fdiv (IntKind.wrap .u64 ((az .and .u64 x (IntKind.wrap .u64 (0 - x)))*285870213051353865)) (2 ^ 58))) 0)&&k0 (wQ.getD (Int.toNat (Int.fdiv (IntKind.wrap .u64 ((az .and .u64 x (IntKind.wrap .u64 (0 - x)))*285870213051353865)) (2 ^ 58))) 0))))
def Q3 (N:Nat):Int->(Kz2)->Bool:=aw N (Me N)
def Hi (N:Nat) (b Wj Wm WB:Int) (p:Bool) (WN XF:Int) (k0:Kx4):Bool:=
 (Q3 N WN (λUP=>decide (0<=UP)&&(ah .i64 (XF+UP)&&k0 p (Int.fdiv WN (2 ^ (min UP.toNat 64))) (XF+UP) 0)))
def Ph (N:Nat) (b Wj Wm WB:Int) (k0:Kx4):Bool:=
 (Nm N b Wj Wm WB (λcr nr Ut=>ah .i64 (nr - WB)&&Nl N b Wj Wm WB (λUx=>cond (Ux==1) (k0 false 0 0 4) (cond (Ux==2) (k0 false 0 0 4) (cond (Ux==3) (k0 cr 0 0 0) (cond (Ux==4) (ah .i64 ((nr - WB)+1)&&Hi N b Wj Wm WB cr Ut ((nr - WB)+1) k0) (lC N Wj Wm WB (λUK=>Hi N b Wj Wm WB cr (az .or .u64 Ut UK) (nr - WB) k0))))))))
def Rk (N:Nat):Int->Int->Int->Int->(Kx4)->Bool:=aw N (Ph N)
def xj (N:Nat) (x:Fl) (k0:Kx4):Bool:=
 (wH N x (λnr=>sc N (λUt Ux UK=>Rk N nr Ut Ux UK (λcr UP n5 n6=>k0 cr UP n5 n6))))
def ph (N:Nat):Fl->(Kx4)->Bool:=xj N
def tQ (N:Nat) (x:LI) (e0:Kz2):(Int)->((Int)->Bool)->Bool:=λv_ K=>match v_ with
 | n=>(cond ((decide (n>0))==true) (ah .i64 (n - 1)&&(inR (n - 1) x.length&&(decide ((Int.toNat (n - 1))<x.length)&&cond ((x.getD (Int.toNat (n - 1)) 0)==0) (ah .i64 (n - 1)&&K (n - 1)) (e0 n)))) (e0 n))
def OW (N:Nat) (b:LI) (k0:Kz3):Bool:=
 (ak N (tQ N b (λVr=>decide (0<=Vr/\Vr<=((b.length:Nat):Int))&&k0 (Vr.toNat - 0))) ((b.length:Nat):Int))
def uC (N:Nat):LI->(Kz3)->Bool:=aw N (OW N)
def xk (N:Nat) (n:Int) (k0:Kz6):Bool:=
 (uC N [n] (λmr=>decide ((0+mr)<=(List.length [n]))&&k0 (List.take mr (List.drop 0 [n]))))
def jm (N:Nat):Int->(Kz6)->Bool:=xk N
def RA (N:Nat) (neg:Bool) (abs:LI) (b:Bool) (k0:Kz1):Bool:=
 (cond (neg==true) (k0 (decide (((abs.length:Nat):Int)>0))) (k0 false))
def BD (N:Nat):Bool->LI->Bool->(Kz1)->Bool:=RA N
def OI (N:Nat) (n:Int) (b:Bool) (k0:Ky3):Bool:=
 (jm N n (λnsr=>BD N false nsr b (λcr=>k0 cr nsr)))
def Nb (N:Nat):Int->Bool->(Ky3)->Bool:=aw N (OI N)
def ND (N:Nat) (x:LI) (k0:Kz6):Bool:=
 (decide ((List.length ([]++x))*8<=140737488355328)&&k0 ([]++x))
def pR (N:Nat):LI->(Kz6)->Bool:=ND N
def SP (N:Nat) (neg:Bool) (abs:LI) (b:Bool) (Us:LI) (k0:Kz1):Bool:=
 (cond (neg==true) (k0 (decide (((abs.length:Nat):Int)>0))) (k0 false))
def IB (N:Nat):Bool->LI->Bool->LI->(Kz1)->Bool:=SP N
def OX (N:Nat) (b:Bool) (Us:LI) (k0:Ky3):Bool:=
 (pR N Us (λnsr=>IB N (!b) nsr b Us (λcr=>k0 cr nsr)))
def Nj (N:Nat):Bool->LI->(Ky3)->Bool:=aw N (OX N)
def O1 (N:Nat) (n:Int) (b:Bool) (k0:Ky3):Bool:=
 (cond (decide (n<0)) (jm N (IntKind.wrap .u64 (0 - (IntKind.wrap .u64 n))) (λnsr=>BD N true nsr b (λcr=>k0 cr nsr))) (jm N (IntKind.wrap .u64 n) (λUv=>BD N false Uv b (λUu=>k0 Uu Uv))))
def Sz (N:Nat):Int->Bool->(Ky3)->Bool:=aw N (O1 N)
def NO (N:Nat) (n:Int) (k0:Ky3):Bool:=
 (Sz N n false (λcr nsr=>k0 cr nsr))
def DH (N:Nat):Int->(Ky3)->Bool:=NO N
def eu (N:Nat) (words rest:Int) (t24:LI) (t25:Int) (e0:Kz6):(Int × LI)->((Int × LI)->Bool)->Bool:=λv_ K=>match v_ with
 | (t26,z)=>(cond (decide (t26<t25)) (inR t26 t24.length&&(ah .i64 (words+t26)&&(inR (words+t26) z.length&&(decide ((Int.toNat (words+t26))<z.length)&&(decide (0<=rest)&&(inR (words+t26) z.length&&(decide ((Int.toNat (words+t26))<z.length)&&(ah .i64 (words+t26)&&(ah .i64 ((words+t26)+1)&&(decide (0<=(IntKind.wrap .u64 (64 - rest)))&&(inR ((words+t26)+1) (List.length (z.set (Int.toNat (words+t26)) (az .or .u64 (z.getD (Int.toNat (words+t26)) 0) (IntKind.wrap .u64 ((t24.getD t26.toNat 0)*2 ^ (min rest.toNat 64))))))&&(decide ((Int.toNat ((words+t26)+1))<(List.length (z.set (Int.toNat (words+t26)) (az .or .u64 (z.getD (Int.toNat (words+t26)) 0) (IntKind.wrap .u64 ((t24.getD t26.toNat 0)*2 ^ (min rest.toNat 64)))))))&&(ah .i64 (t26+1)&&K ((t26+1),(List.set (z.set (Int.toNat (words+t26)) (az .or .u64 (z.getD (Int.toNat (words+t26)) 0) (IntKind.wrap .u64 ((t24.getD t26.toNat 0)*2 ^ (min rest.toNat 64))))) (Int.toNat ((words+t26)+1)) (Int.fdiv (t24.getD t26.toNat 0) (2 ^ (min (Int.toNat (IntKind.wrap .u64 (64 - rest))) 64)))))))))))))))))) (e0 z))
def sQ (N:Nat) (x:LI) (n:Int) (k0:Kz6):Bool:=
 (cond (((x.length:Nat):Int)==0) (k0 []) (ah .i64 (IntKind.wrap .u64 (Int.tdiv n 64))&&(ah .i64 ((IntKind.wrap .u64 (Int.tdiv n 64))+((x.length:Nat):Int))&&(ah .i64 (((IntKind.wrap .u64 (Int.tdiv n 64))+((x.length:Nat):Int))+1)&&(i7 8 (((IntKind.wrap .u64 (Int.tdiv n 64))+((x.length:Nat):Int))+1) (((IntKind.wrap .u64 (Int.tdiv n 64))+((x.length:Nat):Int))+1)&&ak N (eu N (IntKind.wrap .u64 (Int.tdiv n 64)) (Int.tmod n 64) x ((x.length:Nat):Int) (λV7=>uC N V7 (λmr=>decide ((0+mr)<=V7.length)&&k0 (List.take mr (List.drop 0 V7))))) (0,(List.replicate (Int.toNat (((IntKind.wrap .u64 (Int.tdiv n 64))+((x.length:Nat):Int))+1)) (0:Int))))))))
def tJ (N:Nat):LI->Int->(Kz6)->Bool:=aw N (sQ N)
def RM (N:Nat) (n:Int) (b Us:Bool) (Uw:LI) (k0:Ky3):Bool:=
 (tJ N Uw n (λnsr=>BD N Us nsr b (λcr=>k0 cr nsr)))
def Ri (N:Nat):Int->Bool->Bool->LI->(Ky3)->Bool:=RM N
def tN (N:Nat) (UQ Vo:LI) (e0:Kz2) (e1:Bool):(Int)->((Int)->Bool)->Bool:=λv_ K=>match v_ with
 | i=>(cond (decide (i>=0)) (inR i UQ.length&&(inR i Vo.length&&cond ((UQ.getD i.toNat 0) != (Vo.getD i.toNat 0)) (inR i UQ.length&&(inR i Vo.length&&cond (decide ((UQ.getD i.toNat 0)<(Vo.getD i.toNat 0))) (e0 (-1)) (e0 1))) (ah .i64 (i - 1)&&K (i - 1)))) e1)
def Jh (N:Nat) (x y:LI) (k0:Kz2):Bool:=
 (cond (((x.length:Nat):Int) != ((y.length:Nat):Int)) (cond (decide (((x.length:Nat):Int)<((y.length:Nat):Int))) (k0 (-1)) (k0 1)) (ah .i64 (((x.length:Nat):Int) - 1)&&ak N (tN N x y (λt4=>k0 t4) (k0 0)) (((x.length:Nat):Int) - 1)))
def AB (N:Nat):LI->LI->(Kz2)->Bool:=aw N (Jh N)
def F6 (N:Nat) (x Vg Vr:Int) (k0:Kz2):Bool:=
 (cond (decide (Vg>=256)) (ah .i64 (Vr+8)&&(inR (IntKind.wrap .u8 (Int.fdiv Vg (2 ^ 8))) 256&&(ah .i64 (ax.getD (Int.toNat (IntKind.wrap .u8 (Int.fdiv Vg (2 ^ 8)))) 0)&&(ah .i64 ((Vr+8)+(ax.getD (Int.toNat (IntKind.wrap .u8 (Int.fdiv Vg (2 ^ 8)))) 0))&&k0 ((Vr+8)+(ax.getD (Int.toNat (IntKind.wrap .u8 (Int.fdiv Vg (2 ^ 8)))) 0)))))) (inR (IntKind.wrap .u8 Vg) 256&&(ah .i64 (ax.getD (Int.toNat (IntKind.wrap .u8 Vg)) 0)&&(ah .i64 (Vr+(ax.getD (Int.toNat (IntKind.wrap .u8 Vg)) 0))&&k0 (Vr+(ax.getD (Int.toNat (IntKind.wrap .u8 Vg)) 0))))))
def F5 (N:Nat) (x UQ n:Int) (k0:Kz2):Bool:=
 (cond (decide (UQ>=65536)) (ah .i64 (n+16)&&F6 N x (Int.fdiv UQ (2 ^ 16)) (n+16) k0) (F6 N x UQ n k0))
def Pb (N:Nat) (x:Int) (k0:Kz2):Bool:=
 (cond (decide (x>=4294967296)) (F5 N x (Int.fdiv x (2 ^ 32)) 32 k0) (F5 N x x 0 k0))
def Ns (N:Nat):Int->(Kz2)->Bool:=aw N (Pb N)
def ot (N:Nat) (x:LI) (k0:Kz2):Bool:=
 (cond (((x.length:Nat):Int)==0) (k0 0) (ah .i64 (((x.length:Nat):Int) - 1)&&(ah .i64 (64*(((x.length:Nat):Int) - 1))&&(ah .i64 (((x.length:Nat):Int) - 1)&&(inR (((x.length:Nat):Int) - 1) x.length&&Ns N (x.getD (Int.toNat (((x.length:Nat):Int) - 1)) 0) (λnr=>ah .i64 ((64*(((x.length:Nat):Int) - 1))+nr)&&k0 ((64*(((x.length:Nat):Int) - 1))+nr)))))))
def pj (N:Nat):LI->(Kz2)->Bool:=aw N (ot N)
def NJ (N:Nat) (x:LI) (i:Int) (k0:Kz2):Bool:=
 (cond (decide (i<((x.length:Nat):Int))) (inR i x.length&&k0 (x.getD i.toNat 0)) (k0 0))
def wJ (N:Nat):LI->Int->(Kz2)->Bool:=NJ N
def uO (N:Nat) (x:LI) (from_:Int) (k0:Kz2):Bool:=
 (ah .i64 (Int.tdiv from_ 64)&&wJ N x (Int.tdiv from_ 64) (λnr=>decide (0<=(IntKind.wrap .u64 (Int.tmod from_ 64)))&&(ah .i64 ((Int.tdiv from_ 64)+1)&&wJ N x ((Int.tdiv from_ 64)+1) (λUt=>decide (0<=(IntKind.wrap .u64 (64 - (IntKind.wrap .u64 (Int.tmod from_ 64)))))&&k0 (az .or .u64 (Int.fdiv nr (2 ^ (min (Int.toNat (IntKind.wrap .u64 (Int.tmod from_ 64))) 64))) (IntKind.wrap .u64 (Ut*2 ^ (min (Int.toNat (IntKind.wrap .u64 (64 - (IntKind.wrap .u64 (Int.tmod from_ 64))))) 64))))))))
def si (N:Nat):LI->Int->(Kz2)->Bool:=aw N (uO N)
def mN (N:Nat) (t4 Xu WX WY:Int) (abN:Bool) (e0:Kx3):(Int × Int × Int × Int × Int × Int × Int × Int × Bool)->((Int × Int × Int × Int × Int × Int × Int × Int × Bool)->Bool)->Bool:=λv_ K=>match v_ with
 | (UQ,Vo,u,v,w,UE,UG,Zm,w_4)=>(cond ((decide (Vo>=v))==true) (cond (decide ((IntKind.wrap .u64 (UQ - Vo))>=(IntKind.wrap .u64 (Zm+v)))) ((!decide (Vo=0))&&((!decide (Vo=0))&&K (Vo,(Int.tmod UQ Vo),(IntKind.wrap .u64 (UG+(IntKind.wrap .u64 ((IntKind.wrap .u64 (Int.tdiv UQ Vo))*u)))),(IntKind.wrap .u64 (Zm+(IntKind.wrap .u64 ((IntKind.wrap .u64 (Int.tdiv UQ Vo))*v)))),UG,Zm,u,v,(!w_4)))) (e0 w UE UG Zm w_4)) (e0 w UE UG Zm w_4))
def vO (N:Nat) (x y:Int) (k0:Kx3):Bool:=
 (ak N (mN N 0 0 0 0 false (λw_5 w_6 w_7 w_8 w_9=>k0 w_5 w_6 w_7 w_8 w_9)) (x,y,0,1,0,0,1,0,true))
def q7 (N:Nat):Int->Int->(Kx3)->Bool:=aw N (vO N)
def Je (N:Nat) (x y:Int) (k0:Ky4):Bool:=
 (k0 (IntKind.wrap .u64 ((IntKind.wrap .u64 ((IntKind.wrap .u64 ((Int.fdiv x (2 ^ 32))*(Int.fdiv y (2 ^ 32))))+(Int.fdiv (IntKind.wrap .u64 ((IntKind.wrap .u64 ((Int.fdiv x (2 ^ 32))*(az .and .u64 y 4294967295)))+(Int.fdiv (IntKind.wrap .u64 ((az .and .u64 x 4294967295)*(az .and .u64 y 4294967295))) (2 ^ 32)))) (2 ^ 32))))+(Int.fdiv (IntKind.wrap .u64 ((az .and .u64 (IntKind.wrap .u64 ((IntKind.wrap .u64 ((Int.fdiv x (2 ^ 32))*(az .and .u64 y 4294967295)))+(Int.fdiv (IntKind.wrap .u64 ((az .and .u64 x 4294967295)*(az .and .u64 y 4294967295))) (2 ^ 32)))) 4294967295)+(IntKind.wrap .u64 ((az .and .u64 x 4294967295)*(Int.fdiv y (2 ^ 32)))))) (2 ^ 32)))) (IntKind.wrap .u64 (x*y)))
def DD (N:Nat):Int->Int->(Ky4)->Bool:=aw N (Je N)
abbrev QF:=Int->Int->Int->(Ky4)->Bool
def sQ6 (N:Nat):QF:=λx y c k=>(decide (c.toNat<=1))&&k (((x.toNat+y.toNat+c.toNat)%18446744073709551616:Nat):Int) (((x.toNat+y.toNat+c.toNat) / 18446744073709551616:Nat):Int)
def sP (N:Nat) (a b c d:Int) (k0:Ky4):Bool:=
 (DD N a b (λnr Ut=>sQ6 N Ut c 0 (λUx UK=>sQ6 N Ux d 0 (λUP n5=>k0 (IntKind.wrap .u64 ((IntKind.wrap .u64 (nr+UK))+n5)) UP))))
def kH (N:Nat):Int->Int->Int->Int->(Ky4)->Bool:=aw N (sP N)
def kW (N:Nat) (UQ:LI) (VE:Int) (t14:LI) (t15:Int) (e0:Ky8):(Int × Int × LI)->((Int × Int × LI)->Bool)->Bool:=λv_ K=>match v_ with
 | (aaB,t16,z)=>(cond (decide (t16<t15)) (inR t16 t14.length&&kH N (t14.getD t16.toNat 0) VE 0 aaB (λnr Ut=>inR t16 z.length&&(decide (t16.toNat<z.length)&&(ah .i64 (t16+1)&&K (nr,(t16+1),(z.set t16.toNat Ut)))))) (e0 aaB z))
def Jq (N:Nat) (x:LI) (d more:Int) (k0:Kz6):Bool:=
 (ah .i64 (((x.length:Nat):Int)+1)&&(i7 8 (((x.length:Nat):Int)+1) (((x.length:Nat):Int)+1)&&ak N (kW N x d x ((x.length:Nat):Int) (λZd V7=>inR ((x.length:Nat):Int) V7.length&&(decide ((Int.toNat ((x.length:Nat):Int))<V7.length)&&uC N (V7.set (Int.toNat ((x.length:Nat):Int)) Zd) (λmr=>decide ((0+mr)<=(List.length (V7.set (Int.toNat ((x.length:Nat):Int)) Zd)))&&k0 (List.take mr (List.drop 0 (V7.set (Int.toNat ((x.length:Nat):Int)) Zd))))))) (more,0,(List.replicate (Int.toNat (((x.length:Nat):Int)+1)) (0:Int)))))
def sM (N:Nat):LI->Int->Int->(Kz6)->Bool:=aw N (Jq N)
abbrev QG:=Int->Int->Int->(Ky4)->Bool
def sQ9 (N:Nat):QG:=λx y c k=>(decide (c.toNat<=1))&&k (((x.toNat+18446744073709551616 - y.toNat - c.toNat)%18446744073709551616:Nat):Int) (cond (decide (x.toNat<y.toNat+c.toNat)) 1 0)
def kV (N:Nat) (UQ Vo:LI) (t12:Int) (e0:Kz6):(Int × Int × LI)->((Int × Int × LI)->Bool)->Bool:=λv_ K=>match v_ with
 | (borrow,t13,z)=>(cond (decide (t13<t12)) (inR t13 UQ.length&&wJ N Vo t13 (λnr=>sQ9 N (UQ.getD t13.toNat 0) nr borrow (λUt Ux=>inR t13 z.length&&(decide (t13.toNat<z.length)&&(ah .i64 (t13+1)&&K (Ux,(t13+1),(z.set t13.toNat Ut))))))) (e0 z))
def JA (N:Nat) (x y:LI) (k0:Kz6):Bool:=
 (i7 8 ((x.length:Nat):Int) ((x.length:Nat):Int)&&ak N (kV N x y ((x.length:Nat):Int) (λV7=>uC N V7 (λmr=>decide ((0+mr)<=V7.length)&&k0 (List.take mr (List.drop 0 V7))))) (0,0,(List.replicate (Int.toNat ((x.length:Nat):Int)) (0:Int))))
def wK (N:Nat):LI->LI->(Kz6)->Bool:=aw N (JA N)
def dU (N:Nat) (U5 UE UG Zm:Int) (w_4:Bool) (x y:LI) (k0:Kz0):Bool:=
 (cond w_4 (sM N y UE 0 (λnsr=>sM N x U5 0 (λUv=>wK N nsr Uv (λUz=>sM N x UG 0 (λUD=>sM N y Zm 0 (λUL=>wK N UD UL (λUI=>k0 Uz UI))))))) (sM N x U5 0 (λs6=>sM N y UE 0 (λs7=>wK N s6 s7 (λs8=>sM N y Zm 0 (λs9=>sM N x UG 0 (λs10=>wK N s9 s10 (λs11=>k0 s8 s11))))))))
def eh (N:Nat):Int->Int->Int->Int->Bool->LI->LI->(Kz0)->Bool:=aw N (dU N)
def RC (N:Nat) (x:Int) (k0:Kz2):Bool:=
 (Ns N x (λnr=>ah .i64 (64 - nr)&&k0 (64 - nr)))
def Nf (N:Nat):Int->(Kz2)->Bool:=RC N
def vI (N:Nat) (Vo s yn1 yn0 un32 un1 un0:Int) (e0:Kz2):(Int × Int)->((Int × Int)->Bool)->Bool:=λv_ K=>match v_ with
 | (q1,rhat)=>(cond ((decide (q1>=4294967296))==false) (cond (decide ((IntKind.wrap .u64 (q1*yn0))>(IntKind.wrap .u64 ((IntKind.wrap .u64 (4294967296*rhat))+un1)))) (cond (decide ((IntKind.wrap .u64 (rhat+yn1))>=4294967296)) (e0 (IntKind.wrap .u64 (q1 - 1))) (K ((IntKind.wrap .u64 (q1 - 1)),(IntKind.wrap .u64 (rhat+yn1))))) (e0 q1)) (cond (decide ((IntKind.wrap .u64 (rhat+yn1))>=4294967296)) (e0 (IntKind.wrap .u64 (q1 - 1))) (K ((IntKind.wrap .u64 (q1 - 1)),(IntKind.wrap .u64 (rhat+yn1))))))
def vJ (N:Nat) (V1 UR Yf aaY ZY abI un21:Int) (e0:Kz2):(Int × Int)->((Int × Int)->Bool)->Bool:=λv_ K=>match v_ with
 | (XV,q0)=>(cond ((decide (q0>=4294967296))==false) (cond (decide ((IntKind.wrap .u64 (q0*aaY))>(IntKind.wrap .u64 ((IntKind.wrap .u64 (4294967296*XV))+ZY)))) (cond (decide ((IntKind.wrap .u64 (XV+Yf))>=4294967296)) (e0 (IntKind.wrap .u64 (q0 - 1))) (K ((IntKind.wrap .u64 (XV+Yf)),(IntKind.wrap .u64 (q0 - 1))))) (e0 q0)) (cond (decide ((IntKind.wrap .u64 (XV+Yf))>=4294967296)) (e0 (IntKind.wrap .u64 (q0 - 1))) (K ((IntKind.wrap .u64 (XV+Yf)),(IntKind.wrap .u64 (q0 - 1))))))
def Jd (N:Nat) (hi lo y:Int) (k0:Ky4):Bool:=
 (cond (y==0) false (cond (decide (y<=hi)) false (cond (hi==0) ((!decide (y=0))&&((!decide (y=0))&&k0 (IntKind.wrap .u64 (Int.tdiv lo y)) (Int.tmod lo y))) (Nf N y (λnr=>decide (0<=(IntKind.wrap .u64 nr))&&(decide (0<=(IntKind.wrap .u64 nr))&&(decide (0<=(IntKind.wrap .u64 (64 - (IntKind.wrap .u64 nr))))&&(decide (0<=(IntKind.wrap .u64 nr))&&((!decide ((Int.fdiv (IntKind.wrap .u64 (y*2 ^ (min (Int.toNat (IntKind.wrap .u64 nr)) 64))) (2 ^ 32))=0))&&ak N (vI N (IntKind.wrap .u64 (y*2 ^ (min (Int.toNat (IntKind.wrap .u64 nr)) 64))) (IntKind.wrap .u64 nr) (Int.fdiv (IntKind.wrap .u64 (y*2 ^ (min (Int.toNat (IntKind.wrap .u64 nr)) 64))) (2 ^ 32)) (az .and .u64 (IntKind.wrap .u64 (y*2 ^ (min (Int.toNat (IntKind.wrap .u64 nr)) 64))) 4294967295) (az .or .u64 (IntKind.wrap .u64 (hi*2 ^ (min (Int.toNat (IntKind.wrap .u64 nr)) 64))) (Int.fdiv lo (2 ^ (min (Int.toNat (IntKind.wrap .u64 (64 - (IntKind.wrap .u64 nr)))) 64)))) (Int.fdiv (IntKind.wrap .u64 (lo*2 ^ (min (Int.toNat (IntKind.wrap .u64 nr)) 64))) (2 ^ 32)) (az .and .u64 (IntKind.wrap .u64 (lo*2 ^ (min (Int.toNat (IntKind.wrap .u64 nr)) 64))) 4294967295) (λZf=>(!decide ((Int.fdiv (IntKind.wrap .u64 (y*2 ^ (min (Int.toNat (IntKind.wrap .u64 nr)) 64))) (2 ^ 32))=0))&&ak N (vJ N (IntKind.wrap .u64 (y*2 ^ (min (Int.toNat (IntKind.wrap .u64 nr)) 64))) (IntKind.wrap .u64 nr) (Int.fdiv (IntKind.wrap .u64 (y*2 ^ (min (Int.toNat (IntKind.wrap .u64 nr)) 64))) (2 ^ 32)) (az .and .u64 (IntKind.wrap .u64 (y*2 ^ (min (Int.toNat (IntKind.wrap .u64 nr)) 64))) 4294967295) (az .and .u64 (IntKind.wrap .u64 (lo*2 ^ (min (Int.toNat (IntKind.wrap .u64 nr)) 64))) 4294967295) Zf (IntKind.wrap .u64 ((IntKind.wrap .u64 ((IntKind.wrap .u64 ((az .or .u64 (IntKind.wrap .u64 (hi*2 ^ (min (Int.toNat (IntKind.wrap .u64 nr)) 64))) (Int.fdiv lo (2 ^ (min (Int.toNat (IntKind.wrap .u64 (64 - (IntKind.wrap .u64 nr)))) 64))))*4294967296))+(Int.fdiv (IntKind.wrap .u64 (lo*2 ^ (min (Int.toNat (IntKind.wrap .u64 nr)) 64))) (2 ^ 32)))) - (IntKind.wrap .u64 (Zf*(IntKind.wrap .u64 (y*2 ^ (min (Int.toNat (IntKind.wrap .u64 nr)) 64))))))) (λacE=>decide (0<=(IntKind.wrap .u64 nr))&&k0 (IntKind.wrap .u64 ((IntKind.wrap .u64 (Zf*4294967296))+acE)) (Int.fdiv (IntKind.wrap .u64 ((IntKind.wrap .u64 ((IntKind.wrap .u64 ((IntKind.wrap .u64 ((IntKind.wrap .u64 ((IntKind.wrap .u64 ((az .or .u64 (IntKind.wrap .u64 (hi*2 ^ (min (Int.toNat (IntKind.wrap .u64 nr)) 64))) (Int.fdiv lo (2 ^ (min (Int.toNat (IntKind.wrap .u64 (64 - (IntKind.wrap .u64 nr)))) 64))))*4294967296))+(Int.fdiv (IntKind.wrap .u64 (lo*2 ^ (min (Int.toNat (IntKind.wrap .u64 nr)) 64))) (2 ^ 32)))) - (IntKind.wrap .u64 (Zf*(IntKind.wrap .u64 (y*2 ^ (min (Int.toNat (IntKind.wrap .u64 nr)) 64)))))))*4294967296))+(az .and .u64 (IntKind.wrap .u64 (lo*2 ^ (min (Int.toNat (IntKind.wrap .u64 nr)) 64))) 4294967295))) - (IntKind.wrap .u64 (acE*(IntKind.wrap .u64 (y*2 ^ (min (Int.toNat (IntKind.wrap .u64 nr)) 64))))))) (2 ^ (min (Int.toNat (IntKind.wrap .u64 nr)) 64))))) ((IntKind.wrap .u64 ((IntKind.wrap .u64 ((IntKind.wrap .u64 ((IntKind.wrap .u64 ((az .or .u64 (IntKind.wrap .u64 (hi*2 ^ (min (Int.toNat (IntKind.wrap .u64 nr)) 64))) (Int.fdiv lo (2 ^ (min (Int.toNat (IntKind.wrap .u64 (64 - (IntKind.wrap .u64 nr)))) 64))))*4294967296))+(Int.fdiv (IntKind.wrap .u64 (lo*2 ^ (min (Int.toNat (IntKind.wrap .u64 nr)) 64))) (2 ^ 32)))) - (IntKind.wrap .u64 (Zf*(IntKind.wrap .u64 (y*2 ^ (min (Int.toNat (IntKind.wrap .u64 nr)) 64))))))) - (IntKind.wrap .u64 ((IntKind.wrap .u64 (Int.tdiv (IntKind.wrap .u64 ((IntKind.wrap .u64 ((IntKind.wrap .u64 ((az .or .u64 (IntKind.wrap .u64 (hi*2 ^ (min (Int.toNat (IntKind.wrap .u64 nr)) 64))) (Int.fdiv lo (2 ^ (min (Int.toNat (IntKind.wrap .u64 (64 - (IntKind.wrap .u64 nr)))) 64))))*4294967296))+(Int.fdiv (IntKind.wrap .u64 (lo*2 ^ (min (Int.toNat (IntKind.wrap .u64 nr)) 64))) (2 ^ 32)))) - (IntKind.wrap .u64 (Zf*(IntKind.wrap .u64 (y*2 ^ (min (Int.toNat (IntKind.wrap .u64 nr)) 64))))))) (Int.fdiv (IntKind.wrap .u64 (y*2 ^ (min (Int.toNat (IntKind.wrap .u64 nr)) 64))) (2 ^ 32))))*(Int.fdiv (IntKind.wrap .u64 (y*2 ^ (min (Int.toNat (IntKind.wrap .u64 nr)) 64))) (2 ^ 32)))))),(IntKind.wrap .u64 (Int.tdiv (IntKind.wrap .u64 ((IntKind.wrap .u64 ((IntKind.wrap .u64 ((az .or .u64 (IntKind.wrap .u64 (hi*2 ^ (min (Int.toNat (IntKind.wrap .u64 nr)) 64))) (Int.fdiv lo (2 ^ (min (Int.toNat (IntKind.wrap .u64 (64 - (IntKind.wrap .u64 nr)))) 64))))*4294967296))+(Int.fdiv (IntKind.wrap .u64 (lo*2 ^ (min (Int.toNat (IntKind.wrap .u64 nr)) 64))) (2 ^ 32)))) - (IntKind.wrap .u64 (Zf*(IntKind.wrap .u64 (y*2 ^ (min (Int.toNat (IntKind.wrap .u64 nr)) 64))))))) (Int.fdiv (IntKind.wrap .u64 (y*2 ^ (min (Int.toNat (IntKind.wrap .u64 nr)) 64))) (2 ^ 32))))))) ((IntKind.wrap .u64 (Int.tdiv (az .or .u64 (IntKind.wrap .u64 (hi*2 ^ (min (Int.toNat (IntKind.wrap .u64 nr)) 64))) (Int.fdiv lo (2 ^ (min (Int.toNat (IntKind.wrap .u64 (64 - (IntKind.wrap .u64 nr)))) 64)))) (Int.fdiv (IntKind.wrap .u64 (y*2 ^ (min (Int.toNat (IntKind.wrap .u64 nr)) 64))) (2 ^ 32)))),(IntKind.wrap .u64 ((az .or .u64 (IntKind.wrap .u64 (hi*2 ^ (min (Int.toNat (IntKind.wrap .u64 nr)) 64))) (Int.fdiv lo (2 ^ (min (Int.toNat (IntKind.wrap .u64 (64 - (IntKind.wrap .u64 nr)))) 64)))) - (IntKind.wrap .u64 ((IntKind.wrap .u64 (Int.tdiv (az .or .u64 (IntKind.wrap .u64 (hi*2 ^ (min (Int.toNat (IntKind.wrap .u64 nr)) 64))) (Int.fdiv lo (2 ^ (min (Int.toNat (IntKind.wrap .u64 (64 - (IntKind.wrap .u64 nr)))) 64)))) (Int.fdiv (IntKind.wrap .u64 (y*2 ^ (min (Int.toNat (IntKind.wrap .u64 nr)) 64))) (2 ^ 32))))*(Int.fdiv (IntKind.wrap .u64 (y*2 ^ (min (Int.toNat (IntKind.wrap .u64 nr)) 64))) (2 ^ 32))))))))))))))))
def DC (N:Nat):Int->Int->Int->(Ky4)->Bool:=aw N (Jd N)
def j8 (N:Nat) (UQ:LI) (VE:Int) (e0:Ky8):(Int × Int × LI)->((Int × Int × LI)->Bool)->Bool:=λv_ K=>match v_ with
 | (rest,i,q)=>(cond (decide (i>=0)) (inR i UQ.length&&DC N rest (UQ.getD i.toNat 0) VE (λnr Ut=>inR i q.length&&(decide (i.toNat<q.length)&&(ah .i64 (i - 1)&&K (Ut,(i - 1),(q.set i.toNat nr)))))) (e0 rest q))
def p9 (N:Nat) (x:LI) (d:Int) (k0:LI->Int->Bool):Bool:=
 (i7 8 ((x.length:Nat):Int) ((x.length:Nat):Int)&&(ah .i64 (((x.length:Nat):Int) - 1)&&ak N (j8 N x d (λWI Y2=>uC N Y2 (λmr=>decide ((0+mr)<=Y2.length)&&k0 (List.take mr (List.drop 0 Y2)) WI))) (0,(((x.length:Nat):Int) - 1),(List.replicate (Int.toNat ((x.length:Nat):Int)) (0:Int)))))
def nl (N:Nat):LI->Int->(LI->Int->Bool)->Bool:=aw N (p9 N)
def mO (N:Nat) (words rest:Int) (t24:LI) (t25:Int) (e0:Kz6):(Int × LI)->((Int × LI)->Bool)->Bool:=λv_ K=>match v_ with
 | (t26,z)=>(cond (decide (t26<t25)) (inR t26 t24.length&&(ah .i64 (words+t26)&&(inR (words+t26) z.length&&(decide ((Int.toNat (words+t26))<z.length)&&(decide (0<=rest)&&(inR (words+t26) z.length&&(decide ((Int.toNat (words+t26))<z.length)&&(ah .i64 (words+t26)&&(ah .i64 ((words+t26)+1)&&(decide (0<=(IntKind.wrap .u64 (64 - rest)))&&(inR ((words+t26)+1) (List.length (z.set (Int.toNat (words+t26)) (az .or .u64 (z.getD (Int.toNat (words+t26)) 0) (IntKind.wrap .u64 ((t24.getD t26.toNat 0)*2 ^ (min rest.toNat 64))))))&&(decide ((Int.toNat ((words+t26)+1))<(List.length (z.set (Int.toNat (words+t26)) (az .or .u64 (z.getD (Int.toNat (words+t26)) 0) (IntKind.wrap .u64 ((t24.getD t26.toNat 0)*2 ^ (min rest.toNat 64)))))))&&(ah .i64 (t26+1)&&K ((t26+1),(List.set (z.set (Int.toNat (words+t26)) (az .or .u64 (z.getD (Int.toNat (words+t26)) 0) (IntKind.wrap .u64 ((t24.getD t26.toNat 0)*2 ^ (min rest.toNat 64))))) (Int.toNat ((words+t26)+1)) (Int.fdiv (t24.getD t26.toNat 0) (2 ^ (min (Int.toNat (IntKind.wrap .u64 (64 - rest))) 64)))))))))))))))))) (e0 z))
def I3 (N:Nat) (x:LI) (n:Int) (k0:Bool) (k1:Ky9):Bool:=
 (cond (((x.length:Nat):Int)==0) k0 (ah .i64 (IntKind.wrap .u64 (Int.tdiv n 64))&&(ah .i64 ((IntKind.wrap .u64 (Int.tdiv n 64))+((x.length:Nat):Int))&&(ah .i64 (((IntKind.wrap .u64 (Int.tdiv n 64))+((x.length:Nat):Int))+1)&&(i7 8 (((IntKind.wrap .u64 (Int.tdiv n 64))+((x.length:Nat):Int))+1) (((IntKind.wrap .u64 (Int.tdiv n 64))+((x.length:Nat):Int))+1)&&ak N (mO N (IntKind.wrap .u64 (Int.tdiv n 64)) (Int.tmod n 64) x ((x.length:Nat):Int) (λV7=>uC N V7 (λmr=>k1 mr V7))) (0,(List.replicate (Int.toNat (((IntKind.wrap .u64 (Int.tdiv n 64))+((x.length:Nat):Int))+1)) (0:Int))))))))
def Dy (N:Nat):LI->Int->(Bool)->(Ky9)->Bool:=aw N (I3 N)
def ol (N u Vy:Nat) (VI:LI) (n:Int) (V0:LI) (e0:Kz2):(Int × Int)->((Int × Int)->Bool)->Bool:=λv_ K=>match v_ with
 | (q,rest)=>(ah .i64 (n - 2)&&(inR (n - 2) VI.length&&DD N q (VI.getD (Int.toNat (n - 2)) 0) (λUx UK=>cond ((decide (Ux<rest))==false) (cond ((Ux==rest)==true) (ah .i64 (n - 2)&&(inR (n - 2) Vy&&(decide ((u+(Int.toNat (n - 2)))<V0.length)&&cond (decide (UK<=(V0.getD (u+(Int.toNat (n - 2))) 0))) (e0 q) (ah .i64 (n - 1)&&(inR (n - 1) VI.length&&sQ6 N rest (VI.getD (Int.toNat (n - 1)) 0) 0 (λUP n5=>cond (n5 != 0) (e0 (IntKind.wrap .u64 (q - 1))) (K ((IntKind.wrap .u64 (q - 1)),UP)))))))) (ah .i64 (n - 1)&&(inR (n - 1) VI.length&&sQ6 N rest (VI.getD (Int.toNat (n - 1)) 0) 0 (λn6 n7=>cond (n7 != 0) (e0 (IntKind.wrap .u64 (q - 1))) (K ((IntKind.wrap .u64 (q - 1)),n6)))))) (e0 q))))
def sA (N VL Vc:Nat) (v b:LI) (k0:Kz2):Bool:=
 (inR ((v.length:Nat):Int) Vc&&(decide ((VL+(Int.toNat ((v.length:Nat):Int)))<b.length)&&(ah .i64 (((v.length:Nat):Int) - 1)&&(inR (((v.length:Nat):Int) - 1) v.length&&cond (decide ((b.getD (VL+(Int.toNat ((v.length:Nat):Int))) 0)>=(v.getD (Int.toNat (((v.length:Nat):Int) - 1)) 0))) (k0 18446744073709551615) (inR ((v.length:Nat):Int) Vc&&(decide ((VL+(Int.toNat ((v.length:Nat):Int)))<b.length)&&(ah .i64 (((v.length:Nat):Int) - 1)&&(inR (((v.length:Nat):Int) - 1) Vc&&(decide ((VL+(Int.toNat (((v.length:Nat):Int) - 1)))<b.length)&&(ah .i64 (((v.length:Nat):Int) - 1)&&(inR (((v.length:Nat):Int) - 1) v.length&&DC N (b.getD (VL+(Int.toNat ((v.length:Nat):Int))) 0) (b.getD (VL+(Int.toNat (((v.length:Nat):Int) - 1))) 0) (v.getD (Int.toNat (((v.length:Nat):Int) - 1)) 0) (λnr Ut=>ak N (ol N VL Vc v ((v.length:Nat):Int) b (λt4=>k0 t4)) (nr,Ut)))))))))))))
def zG (N:Nat):Nat->Nat->LI->LI->(Kz2)->Bool:=aw N (sA N)
def pV (N u Vy:Nat) (VI:LI) (n q t17:Int) (e0:Int->Int->LI->Bool):(Int × Int × Int × LI)->((Int × Int × Int × LI)->Bool)->Bool:=λv_ K=>match v_ with
 | (carry,borrow,t18,V0)=>(cond (decide (t18<t17)) (inR t18 VI.length&&kH N q (VI.getD t18.toNat 0) 0 carry (λUt Ux=>inR t18 Vy&&(decide ((u+t18.toNat)<V0.length)&&sQ9 N (V0.getD (u+t18.toNat) 0) Ux borrow (λUK UP=>inR t18 Vy&&(decide ((u+t18.toNat)<V0.length)&&(ah .i64 (t18+1)&&K (Ut,UP,(t18+1),(V0.set (u+t18.toNat) UK)))))))) (e0 carry borrow V0))
def pX (N XH XJ:Nat) (XI:LI) (V6 Z3 V_ t60:Int) (e0:Ky8):(Int × Int × LI)->((Int × Int × LI)->Bool)->Bool:=λv_ K=>match v_ with
 | (V5,t61,VP)=>(cond (decide (t61<t60)) (inR t61 XJ&&(decide ((XH+t61.toNat)<VP.length)&&(inR t61 XI.length&&sQ6 N (VP.getD (XH+t61.toNat) 0) (XI.getD t61.toNat 0) V5 (λn7 n8=>inR t61 XJ&&(decide ((XH+t61.toNat)<VP.length)&&(ah .i64 (t61+1)&&K (n8,(t61+1),(VP.set (XH+t61.toNat) n7)))))))) (e0 V5 VP))
def pW (N Xt Xp:Nat) (WQ:LI) (Vr:Int) (e0:Ky8):(Int × Int × LI)->((Int × Int × LI)->Bool)->Bool:=λv_ K=>match v_ with
 | (Y2,V9,Yd)=>(cond (V9 != 0) (ak N (pX N Xt Xp WQ Vr Y2 V9 Vr (λYr VV=>inR Vr Xp&&(decide ((Xt+Vr.toNat)<VV.length)&&sQ6 N (VV.getD (Xt+Vr.toNat) 0) 0 Yr (λn9 n10=>inR Vr Xp&&(decide ((Xt+Vr.toNat)<VV.length)&&K ((IntKind.wrap .u64 (Y2 - 1)),(IntKind.wrap .u64 (V9 - n10)),(VV.set (Xt+Vr.toNat) n9))))))) (0,0,Yd)) (e0 Y2 Yd))
def tV (N VL Vc:Nat) (v b:LI) (k0:Ky8):Bool:=
 (zG N VL Vc v b (λnr=>ak N (pV N VL Vc v ((v.length:Nat):Int) nr ((v.length:Nat):Int) (λVa Wp WZ=>inR ((v.length:Nat):Int) Vc&&(decide ((VL+(Int.toNat ((v.length:Nat):Int)))<WZ.length)&&sQ9 N (WZ.getD (VL+(Int.toNat ((v.length:Nat):Int))) 0) Va Wp (λn5 n6=>inR ((v.length:Nat):Int) Vc&&(decide ((VL+(Int.toNat ((v.length:Nat):Int)))<WZ.length)&&ak N (pW N VL Vc v ((v.length:Nat):Int) (λq_3 b0=>k0 q_3 b0)) (nr,n6,(WZ.set (VL+(Int.toNat ((v.length:Nat):Int))) n5))))))) (0,0,0,b)))
def BF (N:Nat):Nat->Nat->LI->LI->(Ky8)->Bool:=aw N (tV N)
def rm (N u Vy v WQ:Nat) (n:Int) (V0 XI:LI) (e0:Kz2):(Int × Int)->((Int × Int)->Bool)->Bool:=λv_ K=>match v_ with
 | (q,rest)=>(ah .i64 (n - 2)&&(inR (n - 2) WQ&&(decide ((v+(Int.toNat (n - 2)))<XI.length)&&DD N q (XI.getD (v+(Int.toNat (n - 2))) 0) (λUx UK=>cond ((decide (Ux<rest))==false) (cond ((Ux==rest)==true) (ah .i64 (n - 2)&&(inR (n - 2) Vy&&(decide ((u+(Int.toNat (n - 2)))<V0.length)&&cond (decide (UK<=(V0.getD (u+(Int.toNat (n - 2))) 0))) (e0 q) (ah .i64 (n - 1)&&(inR (n - 1) WQ&&(decide ((v+(Int.toNat (n - 1)))<XI.length)&&sQ6 N rest (XI.getD (v+(Int.toNat (n - 1))) 0) 0 (λUP n5=>cond (n5 != 0) (e0 (IntKind.wrap .u64 (q - 1))) (K ((IntKind.wrap .u64 (q - 1)),UP))))))))) (ah .i64 (n - 1)&&(inR (n - 1) WQ&&(decide ((v+(Int.toNat (n - 1)))<XI.length)&&sQ6 N rest (XI.getD (v+(Int.toNat (n - 1))) 0) 0 (λn6 n7=>cond (n7 != 0) (e0 (IntKind.wrap .u64 (q - 1))) (K ((IntKind.wrap .u64 (q - 1)),n6))))))) (e0 q)))))
def F0 (N VL Vc Z4 VI:Nat) (b Us:LI) (k0:Kz2):Bool:=
 (inR ((VI:Nat):Int) Vc&&(decide ((VL+(Int.toNat ((VI:Nat):Int)))<b.length)&&(ah .i64 (((VI:Nat):Int) - 1)&&(inR (((VI:Nat):Int) - 1) VI&&(decide ((Z4+(Int.toNat (((VI:Nat):Int) - 1)))<Us.length)&&cond (decide ((b.getD (VL+(Int.toNat ((VI:Nat):Int))) 0)>=(Us.getD (Z4+(Int.toNat (((VI:Nat):Int) - 1))) 0))) (k0 18446744073709551615) (inR ((VI:Nat):Int) Vc&&(decide ((VL+(Int.toNat ((VI:Nat):Int)))<b.length)&&(ah .i64 (((VI:Nat):Int) - 1)&&(inR (((VI:Nat):Int) - 1) Vc&&(decide ((VL+(Int.toNat (((VI:Nat):Int) - 1)))<b.length)&&(ah .i64 (((VI:Nat):Int) - 1)&&(inR (((VI:Nat):Int) - 1) VI&&(decide ((Z4+(Int.toNat (((VI:Nat):Int) - 1)))<Us.length)&&DC N (b.getD (VL+(Int.toNat ((VI:Nat):Int))) 0) (b.getD (VL+(Int.toNat (((VI:Nat):Int) - 1))) 0) (Us.getD (Z4+(Int.toNat (((VI:Nat):Int) - 1))) 0) (λnr Ut=>ak N (rm N VL Vc Z4 VI ((VI:Nat):Int) b Us (λt4=>k0 t4)) (nr,Ut)))))))))))))))
def GM (N:Nat):Nat->Nat->Nat->Nat->LI->LI->(Kz2)->Bool:=aw N (F0 N)
def gH (N u Vy v WQ:Nat) (n q t17:Int) (XI:LI) (e0:Int->Int->LI->Bool):(Int × Int × Int × LI)->((Int × Int × Int × LI)->Bool)->Bool:=λv_ K=>match v_ with
 | (carry,borrow,t18,V0)=>(cond (decide (t18<t17)) (inR t18 WQ&&(decide ((v+t18.toNat)<XI.length)&&kH N q (XI.getD (v+t18.toNat) 0) 0 carry (λUt Ux=>inR t18 Vy&&(decide ((u+t18.toNat)<V0.length)&&sQ9 N (V0.getD (u+t18.toNat) 0) Ux borrow (λUK UP=>inR t18 Vy&&(decide ((u+t18.toNat)<V0.length)&&(ah .i64 (t18+1)&&K (Ut,UP,(t18+1),(V0.set (u+t18.toNat) UK))))))))) (e0 carry borrow V0))
def gI (N XH XJ v_7 v_8:Nat) (V6 Z3 V_ t60:Int) (v_9:LI) (e0:Ky8):(Int × Int × LI)->((Int × Int × LI)->Bool)->Bool:=λv_ K=>match v_ with
 | (V5,t61,VP)=>(cond (decide (t61<t60)) (inR t61 XJ&&(decide ((XH+t61.toNat)<VP.length)&&(inR t61 v_8&&(decide ((v_7+t61.toNat)<v_9.length)&&sQ6 N (VP.getD (XH+t61.toNat) 0) (v_9.getD (v_7+t61.toNat) 0) V5 (λn7 n8=>inR t61 XJ&&(decide ((XH+t61.toNat)<VP.length)&&(ah .i64 (t61+1)&&K (n8,(t61+1),(VP.set (XH+t61.toNat) n7))))))))) (e0 V5 VP))
def rj (N Xt Xp Z6 v_5:Nat) (Vr:Int) (v_6:LI) (e0:Ky8):(Int × Int × LI)->((Int × Int × LI)->Bool)->Bool:=λv_ K=>match v_ with
 | (Y2,V9,Yd)=>(cond (V9 != 0) (ak N (gI N Xt Xp Z6 v_5 Vr Y2 V9 Vr v_6 (λYr VV=>inR Vr Xp&&(decide ((Xt+Vr.toNat)<VV.length)&&sQ6 N (VV.getD (Xt+Vr.toNat) 0) 0 Yr (λn9 n10=>inR Vr Xp&&(decide ((Xt+Vr.toNat)<VV.length)&&K ((IntKind.wrap .u64 (Y2 - 1)),(IntKind.wrap .u64 (V9 - n10)),(VV.set (Xt+Vr.toNat) n9))))))) (0,0,Yd)) (e0 Y2 Yd))
def Jr (N VL Vc Z4 VI:Nat) (b Us:LI) (k0:Ky8):Bool:=
 (GM N VL Vc Z4 VI b Us (λnr=>ak N (gH N VL Vc Z4 VI ((VI:Nat):Int) nr ((VI:Nat):Int) Us (λVa Wp WZ=>inR ((VI:Nat):Int) Vc&&(decide ((VL+(Int.toNat ((VI:Nat):Int)))<WZ.length)&&sQ9 N (WZ.getD (VL+(Int.toNat ((VI:Nat):Int))) 0) Va Wp (λn5 n6=>inR ((VI:Nat):Int) Vc&&(decide ((VL+(Int.toNat ((VI:Nat):Int)))<WZ.length)&&ak N (rj N VL Vc Z4 VI ((VI:Nat):Int) Us (λq_3 b0=>k0 q_3 b0)) (nr,n6,(WZ.set (VL+(Int.toNat ((VI:Nat):Int))) n5))))))) (0,0,0,b)))
def Ls (N:Nat):Nat->Nat->Nat->Nat->LI->LI->(Ky8)->Bool:=aw N (Jr N)
def tP (N x Vg:Nat) (Vt:LI) (e0:Kz2):(Int)->((Int)->Bool)->Bool:=λv_ K=>match v_ with
 | n=>(cond ((decide (n>0))==true) (ah .i64 (n - 1)&&(inR (n - 1) Vg&&(decide ((x+(Int.toNat (n - 1)))<Vt.length)&&cond ((Vt.getD (x+(Int.toNat (n - 1))) 0)==0) (ah .i64 (n - 1)&&K (n - 1)) (e0 n)))) (e0 n))
def ou (N Vs UQ:Nat) (b:LI) (k0:Kz3):Bool:=
 (ak N (tP N Vs UQ b (λVr=>decide (0<=Vr/\Vr<=((UQ:Nat):Int))&&k0 (Vr.toNat - 0))) ((UQ:Nat):Int))
def pk (N:Nat):Nat->Nat->LI->(Kz3)->Bool:=aw N (ou N)
def NN (N Vs UQ:Nat) (i:Int) (b:LI) (k0:Kz2):Bool:=
 (cond (decide (i<((UQ:Nat):Int))) (inR i UQ&&(decide ((Vs+i.toNat)<b.length)&&k0 (b.getD (Vs+i.toNat) 0))) (k0 0))
def GV (N:Nat):Nat->Nat->Int->LI->(Kz2)->Bool:=NN N
def kN (N x Vg:Nat) (words rest:Int) (t37 aaT:Nat) (t38:Int) (Vt:LI) (e0:Kz2):(Int × Int)->((Int × Int)->Bool)->Bool:=λv_ K=>match v_ with
 | (lost,t39)=>(cond (decide (t39<t38)) (inR t39 aaT&&(decide ((t37+t39.toNat)<Vt.length)&&(ah .i64 (t39+1)&&K ((az .or .u64 lost (Vt.getD (t37+t39.toNat) 0)),(t39+1))))) (e0 lost))
def iy (N ZZ x_5:Nat) (Wz WI Zc t53:Int) (x_6:LI) (e0:Kz6):(Int × LI)->((Int × LI)->Bool)->Bool:=λv_ K=>match v_ with
 | (t54,z)=>(cond (decide (t54<t53)) (ah .i64 (Wz+t54)&&GV N ZZ x_5 (Wz+t54) x_6 (λnr=>decide (0<=WI)&&(ah .i64 (Wz+t54)&&(ah .i64 ((Wz+t54)+1)&&GV N ZZ x_5 ((Wz+t54)+1) x_6 (λUt=>decide (0<=(IntKind.wrap .u64 (64 - WI)))&&(inR t54 z.length&&(decide (t54.toNat<z.length)&&(ah .i64 (t54+1)&&K ((t54+1),(z.set t54.toNat (az .or .u64 (Int.fdiv nr (2 ^ (min WI.toNat 64))) (IntKind.wrap .u64 (Ut*2 ^ (min (Int.toNat (IntKind.wrap .u64 (64 - WI))) 64)))))))))))))) (e0 z))
def F1 (N Vs UQ:Nat) (n:Int) (b:LI) (k0:LI->Bool->Bool):Bool:=
 (cond (decide ((IntKind.wrap .u64 (Int.tdiv n 64))>=(IntKind.wrap .u64 ((UQ:Nat):Int)))) (k0 [] (decide (((UQ:Nat):Int)>0))) (ah .i64 (IntKind.wrap .u64 (Int.tdiv n 64))&&(inR (IntKind.wrap .u64 (Int.tdiv n 64)) UQ&&(decide ((Vs+(Int.toNat (IntKind.wrap .u64 (Int.tdiv n 64))))<b.length)&&(decide (0<=(Int.tmod n 64))&&(decide (0<=(IntKind.wrap .u64 (Int.tdiv n 64))/\(IntKind.wrap .u64 (Int.tdiv n 64))<=((UQ:Nat):Int))&&ak N (kN N Vs UQ (IntKind.wrap .u64 (Int.tdiv n 64)) (Int.tmod n 64) Vs ((Int.toNat (IntKind.wrap .u64 (Int.tdiv n 64))) - 0) ((((Int.toNat (IntKind.wrap .u64 (Int.tdiv n 64))) - 0):Nat):Int) b (λaaA=>ah .i64 (((UQ:Nat):Int) - (IntKind.wrap .u64 (Int.tdiv n 64)))&&(i7 8 (((UQ:Nat):Int) - (IntKind.wrap .u64 (Int.tdiv n 64))) (((UQ:Nat):Int) - (IntKind.wrap .u64 (Int.tdiv n 64)))&&ak N (iy N Vs UQ (IntKind.wrap .u64 (Int.tdiv n 64)) (Int.tmod n 64) aaA (((List.length (List.replicate (Int.toNat (((UQ:Nat):Int) - (IntKind.wrap .u64 (Int.tdiv n 64)))) (0:Int))):Nat):Int) b (λV7=>uC N V7 (λmr=>decide ((0+mr)<=V7.length)&&k0 (List.take mr (List.drop 0 V7)) (aaA != 0)))) (0,(List.replicate (Int.toNat (((UQ:Nat):Int) - (IntKind.wrap .u64 (Int.tdiv n 64)))) (0:Int)))))) ((az .and .u64 (b.getD (Vs+(Int.toNat (IntKind.wrap .u64 (Int.tdiv n 64)))) 0) (IntKind.wrap .u64 ((IntKind.wrap .u64 ((1:Int)*2 ^ (min (Int.toNat (Int.tmod n 64)) 64))) - 1))),0)))))))
def GR (N:Nat):Nat->Nat->Int->LI->(LI->Bool->Bool)->Bool:=aw N (F1 N)
def LR (N:Nat) (up:Int) (u Vc:Nat) (n:Int) (e0:Kz0):(Int × LI × LI)->((Int × LI × LI)->Bool)->Bool:=λv_ K=>match v_ with
 | (j,Vy,q)=>(cond (decide (j>=0)) (ah .i64 (j+n)&&(ah .i64 ((j+n)+1)&&(decide (0<=j/\j<=((j+n)+1)/\((j+n)+1)<=((Vc:Nat):Int))&&BF N (u+j.toNat) ((Int.toNat ((j+n)+1)) - j.toNat) [] Vy (λUK s6=>inR j q.length&&(decide (j.toNat<q.length)&&(ah .i64 (j - 1)&&K ((j - 1),s6,(q.set j.toNat UK)))))))) (e0 Vy q))
def yW (N:Nat) (ab0:Int) (v VI Xt Xp:Nat) (Vr:Int) (WQ:LI) (e0:Kz0):(Int × LI × LI)->((Int × LI × LI)->Bool)->Bool:=λv_ K=>match v_ with
 | (Vu,Yd,q_3)=>(cond (decide (Vu>=0)) (ah .i64 (Vu+Vr)&&(ah .i64 ((Vu+Vr)+1)&&(decide (0<=Vu/\Vu<=((Vu+Vr)+1)/\((Vu+Vr)+1)<=((Xp:Nat):Int))&&Ls N (Xt+Vu.toNat) ((Int.toNat ((Vu+Vr)+1)) - Vu.toNat) v VI Yd WQ (λUP s7=>inR Vu q_3.length&&(decide (Vu.toNat<q_3.length)&&(ah .i64 (Vu - 1)&&K ((Vu - 1),s7,(q_3.set Vu.toNat UP)))))))) (e0 Yd q_3))
def JK (N:Nat) (x y:LI) (ac4:Int) (VP:Nat) (VV q_6:LI) (k0:Kz0):Bool:=
 (pk N 0 VP VV (λXE=>GR N 0 XE ac4 VV (λs8 cr=>uC N q_6 (λaaC=>decide ((0+aaC)<=q_6.length)&&k0 (List.take aaC (List.drop 0 q_6)) s8))))
def JG (N:Nat) (x y:LI) (k0:Kz0):Bool:=
 (AB N x y (λnr=>cond (decide (nr<0)) (pR N x (λnsr=>k0 [] nsr)) (cond (((y.length:Nat):Int)==1) (inR 0 y.length&&nl N x (y.getD 0 0) (λUv Ut=>jm N Ut (λUz=>k0 Uv Uz))) (ah .i64 (((y.length:Nat):Int) - 1)&&(inR (((y.length:Nat):Int) - 1) y.length&&Nf N (y.getD (Int.toNat (((y.length:Nat):Int) - 1)) 0) (λUx=>Dy N y (IntKind.wrap .u64 Ux) (Dy N x (IntKind.wrap .u64 Ux) (ah .i64 (((x.length:Nat):Int)+1)&&(decide (0<=(((x.length:Nat):Int)+1)/\(((x.length:Nat):Int)+1)<=2)&&(ah .i64 (((((Int.toNat (((x.length:Nat):Int)+1)) - 0):Nat):Int) - 0)&&(i7 8 (((((Int.toNat (((x.length:Nat):Int)+1)) - 0):Nat):Int) - 0) (((((Int.toNat (((x.length:Nat):Int)+1)) - 0):Nat):Int) - 0)&&(ah .i64 (((((Int.toNat (((x.length:Nat):Int)+1)) - 0):Nat):Int) - 0)&&(ah .i64 ((((((Int.toNat (((x.length:Nat):Int)+1)) - 0):Nat):Int) - 0) - 1)&&ak N (LR N (IntKind.wrap .u64 Ux) 0 ((Int.toNat (((x.length:Nat):Int)+1)) - 0) 0 (λV0 Y2=>JK N x y (IntKind.wrap .u64 Ux) ((Int.toNat (((x.length:Nat):Int)+1)) - 0) V0 Y2 k0)) (((((((Int.toNat (((x.length:Nat):Int)+1)) - 0):Nat):Int) - 0) - 1),([]++[0,0]),(List.replicate (Int.toNat (((((Int.toNat (((x.length:Nat):Int)+1)) - 0):Nat):Int) - 0)) (0:Int))))))))) (λVH UL=>decide ((0+VH)<=UL.length)&&(decide ((List.length ((List.take VH (List.drop 0 UL))++[0,0]))*8<=140737488355328)&&(ah .i64 (((x.length:Nat):Int)+1)&&(decide (0<=(((x.length:Nat):Int)+1)/\(((x.length:Nat):Int)+1)<=(((List.length ((List.take VH (List.drop 0 UL))++[0,0])):Nat):Int))&&(ah .i64 (((((Int.toNat (((x.length:Nat):Int)+1)) - 0):Nat):Int) - 0)&&(i7 8 (((((Int.toNat (((x.length:Nat):Int)+1)) - 0):Nat):Int) - 0) (((((Int.toNat (((x.length:Nat):Int)+1)) - 0):Nat):Int) - 0)&&(ah .i64 (((((Int.toNat (((x.length:Nat):Int)+1)) - 0):Nat):Int) - 0)&&(ah .i64 ((((((Int.toNat (((x.length:Nat):Int)+1)) - 0):Nat):Int) - 0) - 1)&&ak N (LR N (IntKind.wrap .u64 Ux) 0 ((Int.toNat (((x.length:Nat):Int)+1)) - 0) 0 (λWZ Z3=>JK N x y (IntKind.wrap .u64 Ux) ((Int.toNat (((x.length:Nat):Int)+1)) - 0) WZ Z3 k0)) (((((((Int.toNat (((x.length:Nat):Int)+1)) - 0):Nat):Int) - 0) - 1),((List.take VH (List.drop 0 UL))++[0,0]),(List.replicate (Int.toNat (((((Int.toNat (((x.length:Nat):Int)+1)) - 0):Nat):Int) - 0)) (0:Int)))))))))))) (λmr UD=>Dy N x (IntKind.wrap .u64 Ux) (ah .i64 (((x.length:Nat):Int)+1)&&(decide (0<=(((x.length:Nat):Int)+1)/\(((x.length:Nat):Int)+1)<=2)&&(ah .i64 (((((Int.toNat (((x.length:Nat):Int)+1)) - 0):Nat):Int) - ((mr:Nat):Int))&&(i7 8 (((((Int.toNat (((x.length:Nat):Int)+1)) - 0):Nat):Int) - ((mr:Nat):Int)) (((((Int.toNat (((x.length:Nat):Int)+1)) - 0):Nat):Int) - ((mr:Nat):Int))&&(ah .i64 (((((Int.toNat (((x.length:Nat):Int)+1)) - 0):Nat):Int) - ((mr:Nat):Int))&&(ah .i64 ((((((Int.toNat (((x.length:Nat):Int)+1)) - 0):Nat):Int) - ((mr:Nat):Int)) - 1)&&ak N (yW N (IntKind.wrap .u64 Ux) 0 mr 0 ((Int.toNat (((x.length:Nat):Int)+1)) - 0) ((mr:Nat):Int) UD (λXH q_4=>JK N x y (IntKind.wrap .u64 Ux) ((Int.toNat (((x.length:Nat):Int)+1)) - 0) XH q_4 k0)) (((((((Int.toNat (((x.length:Nat):Int)+1)) - 0):Nat):Int) - ((mr:Nat):Int)) - 1),([]++[0,0]),(List.replicate (Int.toNat (((((Int.toNat (((x.length:Nat):Int)+1)) - 0):Nat):Int) - ((mr:Nat):Int))) (0:Int))))))))) (λU2 UI=>decide ((0+U2)<=UI.length)&&(decide ((List.length ((List.take U2 (List.drop 0 UI))++[0,0]))*8<=140737488355328)&&(ah .i64 (((x.length:Nat):Int)+1)&&(decide (0<=(((x.length:Nat):Int)+1)/\(((x.length:Nat):Int)+1)<=(((List.length ((List.take U2 (List.drop 0 UI))++[0,0])):Nat):Int))&&(ah .i64 (((((Int.toNat (((x.length:Nat):Int)+1)) - 0):Nat):Int) - ((mr:Nat):Int))&&(i7 8 (((((Int.toNat (((x.length:Nat):Int)+1)) - 0):Nat):Int) - ((mr:Nat):Int)) (((((Int.toNat (((x.length:Nat):Int)+1)) - 0):Nat):Int) - ((mr:Nat):Int))&&(ah .i64 (((((Int.toNat (((x.length:Nat):Int)+1)) - 0):Nat):Int) - ((mr:Nat):Int))&&(ah .i64 ((((((Int.toNat (((x.length:Nat):Int)+1)) - 0):Nat):Int) - ((mr:Nat):Int)) - 1)&&ak N (yW N (IntKind.wrap .u64 Ux) 0 mr 0 ((Int.toNat (((x.length:Nat):Int)+1)) - 0) ((mr:Nat):Int) UD (λXJ q_5=>JK N x y (IntKind.wrap .u64 Ux) ((Int.toNat (((x.length:Nat):Int)+1)) - 0) XJ q_5 k0)) (((((((Int.toNat (((x.length:Nat):Int)+1)) - 0):Nat):Int) - ((mr:Nat):Int)) - 1),((List.take U2 (List.drop 0 UI))++[0,0]),(List.replicate (Int.toNat (((((Int.toNat (((x.length:Nat):Int)+1)) - 0):Nat):Int) - ((mr:Nat):Int))) (0:Int))))))))))))))))))
def yN (N:Nat):LI->LI->(Kz0)->Bool:=aw N (JG N)
def zM (N:Nat) (x:LI) (k0:Kz2):Bool:=
 (wJ N x 0 (λnr=>k0 nr))
def se (N:Nat):LI->(Kz2)->Bool:=zM N
def DW (N:Nat) (e0:Kz0):(LI × LI)->((LI × LI)->Bool)->Bool:=λv_ K=>match v_ with
 | (Vg,V1)=>(cond (decide (((V1.length:Nat):Int)>1)) (pj N Vg (λUt=>ah .i64 (Ut - 64)&&si N Vg (Ut - 64) (λUx=>si N V1 (Ut - 64) (λUK=>q7 N Ux UK (λUP n5 n6 n7 cr=>cond (n5 != 0) (eh N UP n5 n6 n7 cr Vg V1 (λnsr Uv=>K (nsr,Uv))) (yN N Vg V1 (λUz UD=>K (V1,UD)))))))) (e0 Vg V1))
def fh (N:Nat) (e0:Kz2):(Int × Int)->((Int × Int)->Bool)->Bool:=λv_ K=>match v_ with
 | (a,b)=>(cond (decide (b>0)) ((!decide (b=0))&&K (b,(Int.tmod a b))) (e0 a))
def vT (N:Nat) (x y ZZ y_4:LI) (k0:Kz6):Bool:=
 (cond (((y_4.length:Nat):Int)==0) (k0 ZZ) (se N ZZ (λn8=>se N y_4 (λn9=>ak N (fh N (λU4=>jm N U4 (λs6=>k0 s6))) (n8,n9)))))
def Mi (N:Nat) (x y UQ Vo:LI) (k0:Kz6):Bool:=
 (ak N (DW N (λVt WC=>cond ((decide (((WC.length:Nat):Int)>0))==true) (cond (decide (((Vt.length:Nat):Int)>1)) (yN N Vt WC (λUL UI=>vT N x y WC UI k0)) (vT N x y Vt WC k0)) (vT N x y Vt WC k0))) (UQ,Vo))
def O0 (N:Nat) (x y:LI) (k0:Kz6):Bool:=
 (AB N x y (λnr=>cond (decide (nr<0)) (Mi N x y y x k0) (Mi N x y x y k0)))
def zE (N:Nat):LI->LI->(Kz6)->Bool:=aw N (O0 N)
def Mf (N:Nat) (neg:Bool) (abs:LI) (b Us:Bool) (k0:Ky3):Bool:=
 (cond (neg==true) (k0 (decide (((abs.length:Nat):Int)>0)) []) (k0 false []))
def Iw (N:Nat):Bool->LI->Bool->Bool->(Ky3)->Bool:=Mf N
def OY (N:Nat) (neg:Bool) (abs:LI) (b:Bool) (Us:LI) (Uw:Bool) (UA:LI) (k0:Kz1):Bool:=
 (cond (neg==true) (k0 (decide (((abs.length:Nat):Int)>0))) (k0 false))
def Nk (N:Nat):Bool->LI->Bool->LI->Bool->LI->(Kz1)->Bool:=OY N
def F4 (N:Nat) (neg:Bool) (a b:LI) (Us Uw:Bool) (U4 UA:LI) (k0:Kx5):Bool:=
 (pR N U4 (λUI=>Iw N neg UI Us Uw (λcr s6=>pR N UA (λs7=>Nk N false s7 cr UI Uw s6 (λUu=>k0 cr UI Uu s7)))))
def O6 (N:Nat) (neg:Bool) (a b:LI) (Us Uw:Bool) (k0:Kx5):Bool:=
 (zE N a b (λnsr=>AB N nsr [1] (λnr=>cond (nr != 0) (yN N a nsr (λUv Uz=>yN N b nsr (λUD UL=>F4 N neg a b Us Uw Uv UD k0))) (F4 N neg a b Us Uw a b k0))))
def Re (N:Nat):Bool->LI->LI->Bool->Bool->(Kx5)->Bool:=aw N (O6 N)
def OC (N:Nat) (b Us Uw:Bool) (UA:LI) (UH:Bool) (UJ:LI) (k0:Kx5):Bool:=
 (Re N (Uw != UH) UA UJ b Us (λcr nsr Uu Uv=>k0 cr nsr Uu Uv))
def Na (N:Nat):Bool->Bool->Bool->LI->Bool->LI->(Kx5)->Bool:=OC N
def j_ (N:Nat) (V1:LI) (i a:Int) (aaP:LI) (aaQ aaR:Int) (t32:LI) (t33:Int) (e0:Ky8):(Int × Int × LI)->((Int × Int × LI)->Bool)->Bool:=λv_ K=>match v_ with
 | (carry,t34,V7)=>(cond (decide (t34<t33)) (inR t34 t32.length&&(ah .i64 (i+t34)&&(ah .i64 (i+t34)&&(inR (i+t34) V7.length&&(decide ((Int.toNat (i+t34))<V7.length)&&kH N a (t32.getD t34.toNat 0) (V7.getD (Int.toNat (i+t34)) 0) carry (λnr Ut=>inR (i+t34) V7.length&&(decide ((Int.toNat (i+t34))<V7.length)&&(ah .i64 (t34+1)&&K (nr,(t34+1),(V7.set (Int.toNat (i+t34)) Ut)))))))))) (e0 carry V7))
def j9 (N:Nat) (Vo t25:LI) (t26:Int) (e0:Kz6):(Int × LI)->((Int × LI)->Bool)->Bool:=λv_ K=>match v_ with
 | (t27,z)=>(cond (decide (t27<t26)) (inR t27 t25.length&&ak N (j_ N Vo t27 (t25.getD t27.toNat 0) t25 t26 t27 Vo ((Vo.length:Nat):Int) (λVa z_2=>ah .i64 (t27+((Vo.length:Nat):Int))&&(inR (t27+((Vo.length:Nat):Int)) z_2.length&&(decide ((Int.toNat (t27+((Vo.length:Nat):Int)))<z_2.length)&&(ah .i64 (t27+1)&&K ((t27+1),(z_2.set (Int.toNat (t27+((Vo.length:Nat):Int))) Va))))))) (0,0,z)) (e0 z))
def I1 (N:Nat) (x y:LI) (k0:Kz6):Bool:=
 (cond ((((x.length:Nat):Int)==0)==false) (cond (((y.length:Nat):Int)==0) (k0 []) (ah .i64 (((x.length:Nat):Int)+((y.length:Nat):Int))&&(i7 8 (((x.length:Nat):Int)+((y.length:Nat):Int)) (((x.length:Nat):Int)+((y.length:Nat):Int))&&ak N (j9 N y x ((x.length:Nat):Int) (λz_3=>uC N z_3 (λmr=>decide ((0+mr)<=z_3.length)&&k0 (List.take mr (List.drop 0 z_3))))) (0,(List.replicate (Int.toNat (((x.length:Nat):Int)+((y.length:Nat):Int))) (0:Int)))))) (k0 []))
def pP (N:Nat):LI->LI->(Kz6)->Bool:=aw N (I1 N)
def NB (N:Nat) (b:Bool) (Us:LI) (Uw:Bool) (UA:LI) (k0:Ky3):Bool:=
 (pP N Us UA (λnsr=>IB N (b != Uw) nsr b Us (λcr=>k0 cr nsr)))
def Od (N:Nat):Bool->LI->Bool->LI->(Ky3)->Bool:=NB N
def NC (N:Nat) (neg b:Bool) (Us:LI) (Uw:Bool) (UA UH:LI) (k0:Kz1):Bool:=
 (cond (neg==true) (k0 (decide (((UH.length:Nat):Int)>0))) (k0 false))
def Oe (N:Nat):Bool->Bool->LI->Bool->LI->LI->(Kz1)->Bool:=NC N
def Pd (N:Nat) (neg:Bool) (a:LI) (b Us:Bool) (Uw:LI) (k0:Ky2):Bool:=
 (Iw N neg a b Us (λcr nsr=>Oe N false cr a Us nsr Uw (λUu=>k0 cr Uu)))
def SA (N:Nat):Bool->LI->Bool->Bool->LI->(Ky2)->Bool:=aw N (Pd N)
def RG (N:Nat) (b Us Uw:Bool) (UA:LI) (k0:Kx5):Bool:=
 (pR N UA (λnsr=>SA N Uw nsr b Us [1] (λcr Uu=>k0 cr nsr Uu [1])))
def Ra (N:Nat):Bool->Bool->Bool->LI->(Kx5)->Bool:=RG N
def bZ (N:Nat) (x:Fl) (p:Bool) (WN XF:Int) (n:Bool) (Vr:LI) (k0:Kx5):Bool:=
 (DH N 1 (λU9 Uz=>ah .i64 (0 - XF)&&Ri N (IntKind.wrap .u64 (imm true XF (0 - XF))) false U9 Uz (λVC UD=>cond (decide (XF<0)) (Na N false false n Vr VC UD (λWq UL WG UI=>k0 Wq UL WG UI)) (Od N n Vr VC UD (λWE s6=>Ra N false false WE s6 (λc8 s7 c9 s8=>k0 c8 s7 c9 s8))))))
def jk (N:Nat) (x:Fl) (k0:Kx5):Bool:=
 (ph N x (λcr nr Ut Ux=>cY N (Ux==0) 4 (Nb N nr false (λUu nsr=>cond cr (Nj N Uu nsr (λUS Uv=>bZ N x cr nr Ut US Uv k0)) (bZ N x cr nr Ut Uu nsr k0)))))
def jp (N:Nat):Fl->(Kx5)->Bool:=aw N (jk N)
def dw (N:Nat) (ZW:LF) (aaO X0 X1 YF Y_:Int) (e0:List RY1->Bool):(Int × List RY1)->((Int × List RY1)->Bool)->Bool:=λv_ K=>match v_ with
 | (Wr,b2)=>(cond (decide (Wr<aaO)) (inR Wr ZW.length&&jp N (ZW.getD Wr.toNat none) (λUS Uz U9 UD=>decide ((List.length (b2++[((US,Uz),(U9,UD))]))*8<=140737488355328)&&(ah .i64 (Wr+1)&&K ((Wr+1),(b2++[((US,Uz),(U9,UD))]))))) (e0 b2))
def iJ (N:Nat) (U_ Uy:Int) (UV:LF) (k0:List RY1->Bool):Bool:=
 (LA N U_ Uy UV (λnr=>cY N (nr==0) nr (ak N (dw N UV ((UV.length:Nat):Int) 0 0 U_ Uy (λ(VJ:List RY1)=>k0 VJ)) (0,[]))))
def iP (N:Nat):Int->Int->LF->(List RY1->Bool)->Bool:=aw N (iJ N)
def eQ (N:Nat) (X8 Wf i j:Int) (b:List RY1) (k0:Kx5):Bool:=
 (ah .i64 (i*Wf)&&(ah .i64 ((i*Wf)+j)&&(inR ((i*Wf)+j) b.length&&(decide ((Int.toNat ((i*Wf)+j))<b.length)&&k0 (b.getD (Int.toNat ((i*Wf)+j)) ((false,[]),(false,[]))).1.1 (b.getD (Int.toNat ((i*Wf)+j)) ((false,[]),(false,[]))).1.2 (b.getD (Int.toNat ((i*Wf)+j)) ((false,[]),(false,[]))).2.1 (b.getD (Int.toNat ((i*Wf)+j)) ((false,[]),(false,[]))).2.2))))
def aV (N:Nat):Int->Int->Int->Int->List RY1->(Kx5)->Bool:=aw N (eQ N)
def RE (N:Nat) (Vs:Bool) (UQ:LI) (Vg:Bool) (Vt:LI) (k0:Kz6):Bool:=
 (cond (((Vt.length:Nat):Int)==0) (k0 [1]) (k0 Vt))
def zD (N:Nat):Bool->LI->Bool->LI->(Kz6)->Bool:=RE N
def ON (N:Nat) (neg:Bool) (a b:LI) (Us Uw:Bool) (k0:Ky2):Bool:=
 (Iw N neg a Us Uw (λcr nsr=>Nk N false b cr a Uw nsr (λUu=>k0 cr Uu)))
def Iz (N:Nat):Bool->LI->LI->Bool->Bool->(Ky2)->Bool:=aw N (ON N)
def Pi (N:Nat) (Vs:Bool) (UQ:LI) (Vg:Bool) (Vt:LI) (b Us:Bool) (k0:Kx5):Bool:=
 (pR N UQ (λnsr=>zD N Vs UQ Vg Vt (λUv=>pR N Uv (λUz=>Iz N (!Vs) nsr Uz b Us (λcr Uu=>k0 cr nsr Uu Uz)))))
def Rl (N:Nat):Bool->LI->Bool->LI->Bool->Bool->(Kx5)->Bool:=aw N (Pi N)
def RN (N:Nat) (b:Bool) (Us:LI) (Uw:Bool) (UA:LI) (k0:Kz6):Bool:=
 (cond (((UA.length:Nat):Int)==0) (k0 [1]) (k0 UA))
def Rj (N:Nat):Bool->LI->Bool->LI->(Kz6)->Bool:=RN N
def lW (N:Nat) (x y:LI) (k0:Kz6):Bool:=
 (yN N x y (λnsr Uv=>k0 nsr))
def I4 (N:Nat) (x y:LI) (k0:Kz6):Bool:=
 (cond ((((y.length:Nat):Int)==1)==true) (inR 0 y.length&&cond ((y.getD 0 0)==1) (k0 x) (lW N x y k0)) (lW N x y k0))
def mK (N:Nat):LI->LI->(Kz6)->Bool:=aw N (I4 N)
def l9 (N:Nat) (UQ Vo:LI) (n t17:Int) (e0:Ky8):(Int × Int × LI)->((Int × Int × LI)->Bool)->Bool:=λv_ K=>match v_ with
 | (carry,t18,z)=>(cond (decide (t18<t17)) (wJ N UQ t18 (λnr=>wJ N Vo t18 (λUt=>sQ6 N nr Ut carry (λUx UK=>inR t18 z.length&&(decide (t18.toNat<z.length)&&(ah .i64 (t18+1)&&K (UK,(t18+1),(z.set t18.toNat Ux)))))))) (e0 carry z))
def uN (N:Nat) (x y:LI) (k0:Kz6):Bool:=
 (ah .i64 ((imm true ((x.length:Nat):Int) ((y.length:Nat):Int))+1)&&(i7 8 ((imm true ((x.length:Nat):Int) ((y.length:Nat):Int))+1) ((imm true ((x.length:Nat):Int) ((y.length:Nat):Int))+1)&&ak N (l9 N x y (imm true ((x.length:Nat):Int) ((y.length:Nat):Int)) (imm true ((x.length:Nat):Int) ((y.length:Nat):Int)) (λVa V7=>inR (imm true ((x.length:Nat):Int) ((y.length:Nat):Int)) V7.length&&(decide ((Int.toNat (imm true ((x.length:Nat):Int) ((y.length:Nat):Int)))<V7.length)&&uC N (V7.set (Int.toNat (imm true ((x.length:Nat):Int) ((y.length:Nat):Int))) Va) (λmr=>decide ((0+mr)<=(List.length (V7.set (Int.toNat (imm true ((x.length:Nat):Int) ((y.length:Nat):Int))) Va)))&&k0 (List.take mr (List.drop 0 (V7.set (Int.toNat (imm true ((x.length:Nat):Int) ((y.length:Nat):Int))) Va))))))) (0,0,(List.replicate (Int.toNat ((imm true ((x.length:Nat):Int) ((y.length:Nat):Int))+1)) (0:Int)))))
def vA (N:Nat):LI->LI->(Kz6)->Bool:=aw N (uN N)
def OV (N:Nat) (neg:Bool) (y:LI) (b:Bool) (Us:LI) (k0:Ky3):Bool:=
 (cond (b==neg) (vA N Us y (λnsr=>IB N neg nsr b Us (λcr=>k0 cr nsr))) (AB N Us y (λnr=>cond (decide (nr>=0)) (wK N Us y (λUv=>IB N b Uv b Us (λUu=>k0 Uu Uv))) (wK N y Us (λUz=>IB N neg Uz b Us (λUS=>k0 US Uz))))))
def Ng (N:Nat):Bool->LI->Bool->LI->(Ky3)->Bool:=aw N (OV N)
def OQ (N:Nat) (Vs:Bool) (UQ:LI) (Vg:Bool) (Vt:LI) (b Us Uw:Bool) (UA:LI) (UH:Bool) (UJ:LI) (k0:Kx5):Bool:=
 (zD N Vs UQ Vg Vt (λnsr=>Rj N Uw UA UH UJ (λUv=>zE N nsr Uv (λUz=>mK N nsr Uz (λUD=>mK N Uv Uz (λUL=>pP N UQ UL (λUI=>BD N Vs UI false (λcr=>pP N UA UD (λs6=>Ng N Uw s6 cr UI (λUu s7=>zE N s7 Uz (λs8=>mK N s7 s8 (λs9=>pR N s9 (λs10=>mK N Uv s8 (λs11=>pP N UD s11 (λs12=>Iz N Uu s10 s12 b Us (λUS U9=>k0 US s10 U9 s12))))))))))))))))
def Q7 (N:Nat):Bool->LI->Bool->LI->Bool->Bool->Bool->LI->Bool->LI->(Kx5)->Bool:=aw N (OQ N)
def Ja (N:Nat) (Vs:Bool) (UQ:LI) (Vg:Bool) (Vt:LI) (XC:Bool) (Vo:LI) (V1:Bool) (WC:LI) (b Us:Bool) (k0:Kx5):Bool:=
 (Rl N XC Vo V1 WC false false (λcr nsr Uu Uv=>Q7 N Vs UQ Vg Vt b Us cr nsr Uu Uv (λUS Uz U9 UD=>k0 US Uz U9 UD)))
def Oh (N:Nat):Bool->LI->Bool->LI->Bool->LI->Bool->LI->Bool->Bool->(Kx5)->Bool:=aw N (Ja N)
def iT (N:Nat) (Vs:Bool) (UQ:LI) (Vg:Bool) (Vt:LI) (XC:Bool) (Vo:LI) (V1:Bool) (WC:LI) (k0:Kx5):Bool:=
 (Oh N Vs UQ Vg Vt XC Vo V1 WC false false (λcr nsr Uu Uv=>k0 cr nsr Uu Uv))
def cG (N:Nat):Bool->LI->Bool->LI->Bool->LI->Bool->LI->(Kx5)->Bool:=iT N
def JC (N:Nat) (Vs:Bool) (UQ:LI) (Vg:Bool) (Vt:LI) (k0:Kz2):Bool:=
 (cond Vs (k0 (-1)) (cond (((UQ.length:Nat):Int)==0) (k0 0) (k0 1)))
def On (N:Nat):Bool->LI->Bool->LI->(Kz2)->Bool:=aw N (JC N)
def p7 (N:Nat) (Vs:Bool) (UQ:LI) (Vg:Bool) (Vt:LI) (k0:Kz2):Bool:=
 (On N Vs UQ Vg Vt (λnr=>k0 nr))
def qZ (N:Nat):Bool->LI->Bool->LI->(Kz2)->Bool:=p7 N
def iW (N:Nat) (Vs:Bool) (UQ:LI) (Vg:Bool) (Vt:LI) (k0:Kz2):Bool:=
 (qZ N Vs UQ Vg Vt (λnr=>k0 nr))
def be (N:Nat):Bool->LI->Bool->LI->(Kz2)->Bool:=iW N
def bE (N:Nat) (i abO Xv t9:Int) (WT:List RY1) (Y_ g_4:Int) (e0:Bool):(Int)->((Int)->Bool)->Bool:=λv_ K=>match v_ with
 | t10=>(cond (decide (t10<t9)) (aV N Y_ g_4 i t10 WT (λcr nsr Uu Uv=>aV N Y_ g_4 t10 i WT (λUS Uz U9 UD=>cG N cr nsr Uu Uv US Uz U9 UD (λVC UL Wq UI=>be N VC UL Wq UI (λnr=>cY N (nr==0) 112 (ah .i64 (t10+1)&&K (t10+1))))))) e0)
def bD (N:Nat) (t5:Int) (b0:List RY1) (g YF:Int) (e0:Bool):(Int)->((Int)->Bool)->Bool:=λv_ K=>match v_ with
 | t6=>(cond (decide (t6<t5)) (ak N (bE N t6 t5 t6 t6 b0 g YF (ah .i64 (t6+1)&&K (t6+1))) 0) e0)
def cI (N:Nat) (X8 Wf:Int) (b:List RY1) (k0:Bool):Bool:=
 (ak N (bD N X8 b X8 Wf k0) 0)
def cS (N:Nat):Int->Int->List RY1->(Bool)->Bool:=aw N (cI N)
def oq (N:Nat) (a b:Int) (k0:Kx5):Bool:=
 (DH N a (λcr nsr=>DH N b (λUu Uv=>Na N false false cr nsr Uu Uv (λUS Uz U9 UD=>k0 US Uz U9 UD))))
def uD (N:Nat):Int->Int->(Kx5)->Bool:=aw N (oq N)
def nI (N:Nat) (n:Int) (k0:Kx5):Bool:=
 (uD N n 1 (λcr nsr Uu Uv=>k0 cr nsr Uu Uv))
def kI (N:Nat):Int->(Kx5)->Bool:=nI N
def OK (N:Nat) (neg:Bool) (a b c d:LI) (Us Uw:Bool) (k0:Kx5):Bool:=
 (zE N a d (λnsr=>zE N c b (λUv=>mK N a nsr (λUz=>mK N c Uv (λUD=>pP N Uz UD (λUL=>mK N b Uv (λUI=>mK N d nsr (λs6=>pP N UI s6 (λs7=>Iz N neg UL s7 Us Uw (λcr Uu=>k0 cr UL Uu s7))))))))))
def Nc (N:Nat):Bool->LI->LI->LI->LI->Bool->Bool->(Kx5)->Bool:=aw N (OK N)
def I_ (N:Nat) (Vs:Bool) (UQ:LI) (Vg:Bool) (Vt:LI) (XC:Bool) (Vo:LI) (V1:Bool) (WC:LI) (b Us:Bool) (k0:Kx5):Bool:=
 (zD N Vs UQ Vg Vt (λnsr=>zD N XC Vo V1 WC (λUv=>Nc N (Vs != XC) UQ nsr Uv Vo b Us (λcr Uz Uu UD=>k0 cr Uz Uu UD))))
def Og (N:Nat):Bool->LI->Bool->LI->Bool->LI->Bool->LI->Bool->Bool->(Kx5)->Bool:=aw N (I_ N)
def iU (N:Nat) (Vs:Bool) (UQ:LI) (Vg:Bool) (Vt:LI) (XC:Bool) (Vo:LI) (V1:Bool) (WC:LI) (k0:Kx5):Bool:=
 (Og N Vs UQ Vg Vt XC Vo V1 WC false false (λcr nsr Uu Uv=>k0 cr nsr Uu Uv))
def eo (N:Nat):Bool->LI->Bool->LI->Bool->LI->Bool->LI->(Kx5)->Bool:=iU N
def I9 (N:Nat) (Vs:Bool) (UQ:LI) (Vg:Bool) (Vt:LI) (XC:Bool) (Vo:LI) (V1:Bool) (WC:LI) (b Us:Bool) (k0:Kx5):Bool:=
 (zD N Vs UQ Vg Vt (λnsr=>zD N XC Vo V1 WC (λUv=>Nc N (Vs != XC) UQ nsr Vo Uv b Us (λcr Uz Uu UD=>k0 cr Uz Uu UD))))
def Of (N:Nat):Bool->LI->Bool->LI->Bool->LI->Bool->LI->Bool->Bool->(Kx5)->Bool:=aw N (I9 N)
def iC (N:Nat) (Vs:Bool) (UQ:LI) (Vg:Bool) (Vt:LI) (XC:Bool) (Vo:LI) (V1:Bool) (WC:LI) (k0:Kx5):Bool:=
 (Of N Vs UQ Vg Vt XC Vo V1 WC false false (λcr nsr Uu Uv=>k0 cr nsr Uu Uv))
def dT (N:Nat):Bool->LI->Bool->LI->Bool->LI->Bool->LI->(Kx5)->Bool:=iC N
def Mg (N:Nat) (Vs:Bool) (UQ:LI) (Vg:Bool) (Vt:LI) (XC:Bool) (Vo:LI) (V1:Bool) (WC:LI) (b Us:Bool) (k0:Kx5):Bool:=
 (zD N Vs UQ Vg Vt (λnsr=>zD N XC Vo V1 WC (λUv=>zE N nsr Uv (λUz=>mK N nsr Uz (λUD=>mK N Uv Uz (λUL=>pP N UQ UL (λUI=>BD N Vs UI false (λcr=>pP N Vo UD (λs6=>Ng N XC s6 cr UI (λUu s7=>zE N s7 Uz (λs8=>mK N s7 s8 (λs9=>pR N s9 (λs10=>mK N Uv s8 (λs11=>pP N UD s11 (λs12=>Iz N Uu s10 s12 b Us (λUS U9=>k0 US s10 U9 s12))))))))))))))))
def Nh (N:Nat):Bool->LI->Bool->LI->Bool->LI->Bool->LI->Bool->Bool->(Kx5)->Bool:=aw N (Mg N)
def iV (N:Nat) (Vs:Bool) (UQ:LI) (Vg:Bool) (Vt:LI) (XC:Bool) (Vo:LI) (V1:Bool) (WC:LI) (k0:Kx5):Bool:=
 (Nh N Vs UQ Vg Vt XC Vo V1 WC false false (λcr nsr Uu Uv=>k0 cr nsr Uu Uv))
def ep (N:Nat):Bool->LI->Bool->LI->Bool->LI->Bool->LI->(Kx5)->Bool:=iV N
def jr (N:Nat) (X8 Wf i j:Int) (Vs:Bool) (UQ:LI) (Vg:Bool) (Vt:LI) (b:List RY1) (k0:List RY1->Bool):Bool:=
 (ah .i64 (i*Wf)&&(ah .i64 ((i*Wf)+j)&&(inR ((i*Wf)+j) b.length&&(decide ((Int.toNat ((i*Wf)+j))<b.length)&&k0 (b.set (Int.toNat ((i*Wf)+j)) ((Vs,UQ),(Vg,Vt)))))))
def fe (N:Nat):Int->Int->Int->Int->Bool->LI->Bool->LI->List RY1->(List RY1->Bool)->Bool:=jr N
def ck (N:Nat) (Ve VK t10 g YF:Int) (x:Bool) (ZZ:LI) (x_5:Bool) (x_6:LI) (e0:List RY1->Bool):(Int × List RY1)->((Int × List RY1)->Bool)->Bool:=λv_ K=>match v_ with
 | (t11,b0)=>(cond (decide (t11<t10)) (aV N g YF Ve t11 b0 (λcr nsr Uu Uv=>aV N g YF VK t11 b0 (λUS Uz U9 UD=>dT N US Uz U9 UD x ZZ x_5 x_6 (λVC UL Wq UI=>ep N cr nsr Uu Uv VC UL Wq UI (λWG s6 WE s7=>fe N g YF Ve t11 WG s6 WE s7 b0 (λ(lr:List RY1)=>ah .i64 (t11+1)&&K ((t11+1),lr))))))) (e0 b0))
def eP (N:Nat) (X8 Wf i k_:Int) (Vs:Bool) (UQ:LI) (Vg:Bool) (Vt:LI) (b:List RY1) (k0:List RY1->Bool):Bool:=
 (ak N (ck N i k_ Wf X8 Wf Vs UQ Vg Vt (λ(WT:List RY1)=>k0 WT)) (0,b))
def fa (N:Nat):Int->Int->Int->Int->Bool->LI->Bool->LI->List RY1->(List RY1->Bool)->Bool:=aw N (eP N)
def ay (N:Nat) (UR k_ abU VY Y_ g_4:Int) (p:Bool) (WN:LI) (XF:Bool) (Ze:LI) (e0:Int->List RY1->Bool) (e1:List RY1->Bool):(Int × List RY1)->((Int × List RY1)->Bool)->Bool:=λv_ K=>match v_ with
 | (i,WT)=>(cond (decide (i<Y_)) (aV N Y_ g_4 i k_ WT (λUS Uz U9 UD=>be N US Uz U9 UD (λUt=>cond (Ut==0) (ah .i64 (i+1)&&K ((i+1),WT)) (be N p WN XF Ze (λUx=>cond (Ux==0) (e0 1 WT) (kI N 0 (λVC UL Wq UI=>eo N US Uz U9 UD p WN XF Ze (λWG s6 WE s7=>cG N VC UL Wq UI WG s6 WE s7 (λc8 s8 c9 s9=>fa N Y_ g_4 i k_ c8 s8 c9 s9 WT (λ(lr:List RY1)=>ah .i64 (i+1)&&K ((i+1),lr))))))))))) (e1 WT))
def aK (N:Nat) (t9 g YF:Int) (e0:Int->List RY1->Bool) (e1:Int->List RY1->Bool):(Int × Int × List RY1)->((Int × Int × List RY1)->Bool)->Bool:=λv_ K=>match v_ with
 | (s,t10,b0)=>(cond (decide (t10<t9)) (aV N g YF t10 t10 b0 (λcr nsr Uu Uv=>be N cr nsr Uu Uv (λnr=>cond (decide (nr<0)) (e0 1 b0) (ah .i64 (t10+1)&&ak N (ay N s t10 t9 t10 g YF cr nsr Uu Uv (λ(t2:Int) (acT:List RY1)=>e0 t2 acT) (λ(acb:List RY1)=>be N cr nsr Uu Uv (λUK=>cond (UK==0) (ah .i64 (t10+1)&&K (2,(t10+1),acb)) (ah .i64 (t10+1)&&K (s,(t10+1),acb))))) ((t10+1),b0))))) (e1 s b0))
def dc (N:Nat) (X8 Wf:Int) (b:List RY1) (k0:Int->List RY1->Bool):Bool:=
 (ak N (aK N X8 X8 Wf (λ(WP:Int) (acU:List RY1)=>k0 WP acU) (λ(UX:Int) (acV:List RY1)=>k0 UX acV)) (3,0,b))
def ga (N:Nat):Int->Int->List RY1->(Int->List RY1->Bool)->Bool:=aw N (dc N)
def iS (N:Nat) (X8 Wf:Int) (b:List RY1) (k0:Int->List RY1->Bool):Bool:=
 (cY N (X8==Wf) 3 (cS N X8 Wf b (ga N X8 Wf b (λ(nr:Int) (lr:List RY1)=>k0 nr lr))))
def ek (N:Nat):Int->Int->List RY1->(Int->List RY1->Bool)->Bool:=iS N
def jj (N:Nat) (U_ Uy:Int) (UV:LF) (k0:Ky4):Bool:=
 (iP N U_ Uy UV (λ(lr:List RY1)=>ek N U_ Uy lr (λ(nr:Int) (acD:List RY1)=>k0 nr 0)))
def jo (N:Nat):Int->Int->LF->(Ky4)->Bool:=aw N (jj N)
def mU (N:Nat) (Y1 WN:Int) (XF:LF) (k0:Kz1):Bool:=
 (jo N Y1 WN XF (λnr Ut=>cond ((Ut==0)==true) (k0 (nr==3)) (k0 false)))
def cX (N:Nat):Int->Int->LF->(Kz1)->Bool:=mU N
def mm (N:Nat) (Vf:LF) (UR UX:Int) (UZ:LF) (k0:Kz2):Bool:=
 (LA N UR UX UZ (λnr=>cond (nr != 0) (k0 nr) (cond ((UR != UX)==false) (cond (((Vf.length:Nat):Int) != UR) (k0 3) (pO N Vf (λcr=>cond (!cr) (k0 4) (Rm N UR UX UZ (λUu=>cond (!Uu) (k0 150) (cX N UR UX UZ (λUS=>cond (!US) (k0 151) (k0 0)))))))) (k0 3))))
def j4 (N:Nat):LF->Int->Int->LF->(Kz2)->Bool:=aw N (mm N)
def nz (N:Nat) (n:Int) (h:LF) (r:Fl) (k0:Kz2):Bool:=
 (cond (((h.length:Nat):Int) != n) (k0 3) (pO N h (λcr=>cond (!cr) (k0 4) (pO N [r] (λUu=>cond (!Uu) (k0 4) (cond (fle r (some 0)) (k0 152) (k0 0)))))))
def nD (N:Nat):Int->LF->Fl->(Kz2)->Bool:=aw N (nz N)
def ow (N:Nat) (U_ Uy:Int) (UV:LF) (i:Int) (k0:Kz5):Bool:=
 (ah .i64 (i*Uy)&&(ah .i64 (i+1)&&(ah .i64 ((i+1)*Uy)&&(decide (0<=(i*Uy)/\(i*Uy)<=((i+1)*Uy)/\((i+1)*Uy)<=((UV.length:Nat):Int))&&k0 (List.drop (Int.toNat (i*Uy)) (List.take (Int.toNat ((i+1)*Uy)) UV))))))
def pn (N:Nat):Int->Int->LF->Int->(Kz5)->Bool:=aw N (ow N)
abbrev xv:=Fl->(Kz4)->Bool
def uG (N:Nat):xv:=λx k=>k (zo x)
def rz (N:Nat) (f:Fl) (sign:Int) (k0:Kz1):Bool:=
 (cond (sign==0) (uG N f (λxr=>k0 (fgt xr (some 9218868437227405311)))) (cond (decide (sign<0)) (k0 (fgt (QL f) (some 9218868437227405311))) (k0 (fgt f (some 9218868437227405311)))))
def jB (N:Nat):Fl->Int->(Kz1)->Bool:=aw N (rz N)
def pC (N:Nat) (x:Fl) (b:Bool) (Us:LF) (Uw UA:Int) (UH UJ:LF) (UU UY U6:Fl) (k0:Kz1):Bool:=
 (cond ((!feq x x)==false) (jB N x 0 (λcr=>cond cr (k0 true) (k0 b))) (k0 true))
def pT (N:Nat):Fl->Bool->LF->Int->Int->LF->LF->Fl->Fl->Fl->(Kz1)->Bool:=aw N (pC N)
def nH (N:Nat) (a b:Fl) (Us:Bool) (Uw:LF) (UA UH:Int) (UJ UU:LF) (UY U6 Vb:Fl) (k0:Ky5):Bool:=
 (pT N (bc a b) Us Uw UA UH UJ UU UY U6 Vb (λcr=>k0 (bc a b) cr))
def vB (N:Nat):Fl->Fl->Bool->LF->Int->Int->LF->LF->Fl->Fl->Fl->(Ky5)->Bool:=aw N (nH N)
def lU (N:Nat) (UF t10:LF) (t11:Int) (UR:LF) (UX UZ:Int) (Wv Wx:LF) (WO Wa Wn:Fl) (e0:Ky5):(Fl × Int × Bool)->((Fl × Int × Bool)->Bool)->Bool:=λv_ K=>match v_ with
 | (t,t12,s)=>(cond (decide (t12<t11)) (inR t12 t10.length&&(inR t12 UF.length&&vB N (t10.getD t12.toNat none) (UF.getD t12.toNat none) s UR UX UZ Wv Wx WO Wa Wn (λxr cr=>pT N (dR t xr) cr UR UX UZ Wv Wx WO Wa Wn (λUu=>ah .i64 (t12+1)&&K ((dR t xr),(t12+1),Uu))))) (e0 t s))
def uP (N:Nat) (a b:LF) (Us:Bool) (Uw:LF) (UA UH:Int) (UJ UU:LF) (UY U6 Vb:Fl) (k0:Ky5):Bool:=
 (ak N (lU N b a ((a.length:Nat):Int) Uw UA UH UJ UU UY U6 Vb (λVG b0=>k0 VG b0)) ((some 0),0,Us))
def OO (N:Nat) (x:Fl) (b:Bool) (Us:LF) (Uw UA:Int) (UH UJ:LF) (UU UY U6:Fl) (Vb:LF) (k0:Kz1):Bool:=
 (cond ((!feq x x)==false) (jB N x 0 (λcr=>cond cr (k0 true) (k0 b))) (k0 true))
def DJ (N:Nat):Fl->Bool->LF->Int->Int->LF->LF->Fl->Fl->Fl->LF->(Kz1)->Bool:=aw N (OO N)
def Pa (N:Nat) (a b:Fl) (Us:Bool) (Uw:LF) (UA UH:Int) (UJ UU:LF) (UY U6 Vb:Fl) (UF:LF) (k0:Ky5):Bool:=
 (DJ N (bc a b) Us Uw UA UH UJ UU UY U6 Vb UF (λcr=>k0 (bc a b) cr))
def Nr (N:Nat):Fl->Fl->Bool->LF->Int->Int->LF->LF->Fl->Fl->Fl->LF->(Ky5)->Bool:=aw N (Pa N)
def BV (N:Nat) (U7 t10:LF) (t11:Int) (UR:LF) (UX UZ:Int) (Wv Wx:LF) (WO Wa Wn:Fl) (b1:LF) (e0:Ky5):(Fl × Int × Bool)->((Fl × Int × Bool)->Bool)->Bool:=λv_ K=>match v_ with
 | (t,t12,s)=>(cond (decide (t12<t11)) (inR t12 t10.length&&(inR t12 U7.length&&Nr N (t10.getD t12.toNat none) (U7.getD t12.toNat none) s UR UX UZ Wv Wx WO Wa Wn b1 (λxr cr=>DJ N (dR t xr) cr UR UX UZ Wv Wx WO Wa Wn b1 (λUu=>ah .i64 (t12+1)&&K ((dR t xr),(t12+1),Uu))))) (e0 t s))
def O_ (N:Nat) (a b:LF) (Us:Bool) (Uw:LF) (UA UH:Int) (UJ UU:LF) (UY U6 Vb:Fl) (UF:LF) (k0:Ky5):Bool:=
 (ak N (BV N b a ((a.length:Nat):Int) Uw UA UH UJ UU UY U6 Vb UF (λVG b0=>k0 VG b0)) ((some 0),0,Us))
def Nq (N:Nat):LF->LF->Bool->LF->Int->Int->LF->LF->Fl->Fl->Fl->LF->(Ky5)->Bool:=aw N (O_ N)
def BR (N:Nat) (t10:LF) (t11:Int) (UR:LF) (UX UZ:Int) (Wv Wx:LF) (WO Wa Wn:Fl) (UF:LF) (e0:Ky5):(Fl × Int × Bool)->((Fl × Int × Bool)->Bool)->Bool:=λv_ K=>match v_ with
 | (t,t12,s)=>(cond (decide (t12<t11)) (inR t12 t10.length&&(inR t12 UF.length&&(decide (t12.toNat<UF.length)&&Nr N (t10.getD t12.toNat none) (UF.getD t12.toNat none) s UR UX UZ Wv Wx WO Wa Wn UF (λxr cr=>DJ N (dR t xr) cr UR UX UZ Wv Wx WO Wa Wn UF (λUu=>ah .i64 (t12+1)&&K ((dR t xr),(t12+1),Uu)))))) (e0 t s))
def O7 (N:Nat) (a:LF) (b:Bool) (Us:LF) (Uw UA:Int) (UH UJ:LF) (UU UY U6:Fl) (Vb:LF) (k0:Ky5):Bool:=
 (ak N (BR N a ((a.length:Nat):Int) Us Uw UA UH UJ UU UY U6 Vb (λVG b0=>k0 VG b0)) ((some 0),0,b))
def Rf (N:Nat):LF->Bool->LF->Int->Int->LF->LF->Fl->Fl->Fl->LF->(Ky5)->Bool:=aw N (O7 N)
def Jb (N:Nat) (b:Bool) (Us:LF) (Uw UA:Int) (UH UJ:LF) (UU UY U6:Fl) (Vb:LF) (k0:Bool):Bool:=
 k0
def Oi (N:Nat):Bool->LF->Int->Int->LF->LF->Fl->Fl->Fl->LF->(Bool)->Bool:=aw N (Jb N)
def eO (N:Nat) (WW:LF) (XG:Fl) (aaS:Int) (Wa:LF) (Wn Z5:Int) (Ya VP:LF) (VV Ws:Int) (VW VA:LF) (VQ VB Vx:Fl) (e0:Ky6):(Int × Bool × LF)->((Int × Bool × LF)->Bool)->Bool:=λv_ K=>match v_ with
 | (ZX,XJ,b2)=>(cond (decide (ZX<aaS)) (pn N Wn Z5 Ya ZX (λUB=>Nq N UB WW XJ VP VV Ws VW VA VQ VB Vx b2 (λUC Uu=>decide ((List.length (b2++[UC]))*8<=140737488355328)&&(ah .i64 (ZX+1)&&K ((ZX+1),Uu,(b2++[UC])))))) (e0 XJ b2))
def kp (N:Nat) (Vf:LF) (UR UX:Int) (UZ h:LF) (r:Fl) (k0:Kz2) (k1:Int->Bool->Fl->Fl->LF->Bool):Bool:=
 (j4 N Vf UR UX UZ (λnr=>cond (nr != 0) (k0 nr) (nD N ((Vf.length:Nat):Int) h r (λUt=>cond (Ut != 0) (k0 Ut) (ak N (eO N h r ((Vf.length:Nat):Int) Vf UR UX UZ Vf UR UX UZ h r (some 0) (some 0) (λWt VJ=>Nq N h Vf Wt Vf UR UX UZ h r (some 0) (some 0) VJ (λUM US=>Rf N h US Vf UR UX UZ h r UM (some 0) VJ (λVp U9=>DJ N (dR Vp r) U9 Vf UR UX UZ h r UM (some 0) VJ (λVC=>Oi N VC Vf UR UX UZ h r UM (dR Vp r) VJ (cond VC (k1 5 VC UM (dR Vp r) VJ) (cond (!(fgt (dR Vp r) (some 0))) (k1 153 VC UM (dR Vp r) VJ) (k1 0 VC UM (dR Vp r) VJ)))))))) (0,false,[]))))))
def e_ (N:Nat):LF->Int->Int->LF->LF->Fl->(Kz2)->(Int->Bool->Fl->Fl->LF->Bool)->Bool:=aw N (kp N)
def ko (N:Nat) (Vf:LF) (UR UX:Int) (UZ h:LF) (r:Fl) (k0:Ky1):Bool:=
 (e_ N Vf UR UX UZ h r (λnr=>cond (nr != 0) (k0 (some 0) (some 0) nr) false) (λUt cr xr UC xsr=>cond (Ut != 0) (k0 (some 0) (some 0) Ut) (k0 xr UC 0)))
def iw (N:Nat):LF->Int->Int->LF->LF->Fl->(Ky1)->Bool:=aw N (ko N)
def qi (N:Nat) (rows cols n:Int) (k0:Kz2):Bool:=
 (cond ((decide (rows<0))==false) (cond ((decide (rows>12))==false) (cond ((decide (cols<0))==false) (cond (decide (cols>12)) (k0 1) (ah .i64 (rows*cols)&&cond (n != (rows*cols)) (k0 3) (k0 0))) (k0 1)) (k0 1)) (k0 1))
def rf (N:Nat):Int->Int->Int->(Kz2)->Bool:=aw N (qi N)
def xl (N:Nat) (x:Fl) (k0:Kz2):Bool:=
 (cond (!feq x x) (k0 9221120237041090561) (wH N x (λnr=>k0 nr)))
def mL (N:Nat):Fl->(Kz2)->Bool:=xl N
def qg (N:Nat) (x:Fl) (k0:Kx8):Bool:=
 (mL N x (λnr=>ah .i64 (Int.tmod (Int.fdiv nr (2 ^ 52)) 2048)&&k0 ((Int.fdiv nr (2 ^ 63))==1) (Int.tmod (Int.fdiv nr (2 ^ 52)) 2048) (Int.tmod nr 4503599627370496)))
def np (N:Nat):Fl->(Kx8)->Bool:=aw N (qg N)
def JE (N:Nat) (exp frac most:Int) (k0:Kz2):Bool:=
 (cond ((exp==most)==true) (cond (frac != 0) (k0 1) (cond (exp==most) (k0 2) (cond ((exp==0)==true) (cond (frac==0) (k0 3) (cond (exp==0) (k0 4) (k0 5))) (cond (exp==0) (k0 4) (k0 5))))) (cond (exp==most) (k0 2) (cond ((exp==0)==true) (cond (frac==0) (k0 3) (cond (exp==0) (k0 4) (k0 5))) (cond (exp==0) (k0 4) (k0 5)))))
def Oo (N:Nat):Int->Int->Int->(Kz2)->Bool:=aw N (JE N)
def vQ (N:Nat) (x:Fl) (k0:Kz2):Bool:=
 (np N x (λcr nr Ut=>Oo N nr Ut 2047 (λUx=>k0 Ux)))
def q_ (N:Nat):Fl->(Kz2)->Bool:=vQ N
def NL (N:Nat) (x:Fl) (k0:Kz1):Bool:=
 (q_ N x (λnr=>k0 (decide (nr>2))))
def AC (N:Nat):Fl->(Kz1)->Bool:=NL N
def fA (N:Nat) (t5:LF) (t6:Int) (e0:Kz1) (e1:Bool):(Int)->((Int)->Bool)->Bool:=λv_ K=>match v_ with
 | t7=>(cond (decide (t7<t6)) (inR t7 t5.length&&AC N (t5.getD t7.toNat none) (λcr=>cond (!cr) (e0 false) (ah .i64 (t7+1)&&K (t7+1)))) e1)
def I6 (N:Nat) (l:LF) (k0:Kz1):Bool:=
 (ak N (fA N l ((l.length:Nat):Int) (λt2=>k0 t2) (k0 true)) 0)
def DA (N:Nat):LF->(Kz1)->Bool:=aw N (I6 N)
def sW (N:Nat) (U_ Uy:Int) (UV:LF) (k0:Kz2):Bool:=
 (rf N U_ Uy ((UV.length:Nat):Int) (λnr=>cond (nr != 0) (k0 nr) (DA N UV (λcr=>cond (!cr) (k0 4) (k0 0)))))
def pp (N:Nat):Int->Int->LF->(Kz2)->Bool:=aw N (sW N)
def xo (N:Nat) (U_ Uy:Int) (UV:LF) (k0:Kz2):Bool:=
 (pp N U_ Uy UV (λnr=>k0 nr))
def yP (N:Nat):Int->Int->LF->(Kz2)->Bool:=xo N
def B4 (N:Nat) (U_ Uy:Int) (UV:LF) (i j:Int) (k0:Kz4):Bool:=
 (ah .i64 (i*Uy)&&(ah .i64 ((i*Uy)+j)&&(inR ((i*Uy)+j) UV.length&&k0 (UV.getD (Int.toNat ((i*Uy)+j)) none))))
def lE (N:Nat):Int->Int->LF->Int->Int->(Kz4)->Bool:=B4 N
def sV (N:Nat) (a b:Fl) (k0:Kz1):Bool:=
 (mL N a (λnr=>mL N b (λUt=>k0 (nr==Ut))))
def tM (N:Nat):Fl->Fl->(Kz1)->Bool:=aw N (sV N)
def fC (N:Nat) (Ve X5 X9:Int) (X_:LF) (e0:Kz2) (e1:Bool):(Int)->((Int)->Bool)->Bool:=λv_ K=>match v_ with
 | j=>(cond (decide (j<Ve)) (lE N X5 X9 X_ Ve j (λxr=>lE N X5 X9 X_ j Ve (λUC=>tM N xr UC (λcr=>cond (!cr) (e0 91) (ah .i64 (j+1)&&K (j+1)))))) e1)
def fB (N:Nat) (m VU:Int) (Xs:LF) (e0:Kz2) (e1:Bool):(Int)->((Int)->Bool)->Bool:=λv_ K=>match v_ with
 | i=>(cond (decide (i<m)) (ak N (fC N i m VU Xs (λt2=>e0 t2) (ah .i64 (i+1)&&K (i+1))) 0) e1)
def Jl (N:Nat) (U_ Uy:Int) (UV:LF) (k0:Kz2):Bool:=
 (pp N U_ Uy UV (λnr=>cond (nr != 0) (k0 nr) (cond (U_ != Uy) (k0 3) (ak N (fB N U_ Uy UV (λWP=>k0 WP) (k0 0)) 0))))
def Lp (N:Nat):Int->Int->LF->(Kz2)->Bool:=aw N (Jl N)
def qm (N:Nat) (Vf:LF) (UR UX:Int) (UZ:LF) (k0:Kz2):Bool:=
 (yP N UR UX UZ (λnr=>cond (nr != 0) (k0 nr) (cond ((UR != UX)==false) (cond (((Vf.length:Nat):Int) != UR) (k0 3) (DA N Vf (λcr=>cond (!cr) (k0 4) (Lp N UR UX UZ (λUt=>cond (Ut != 0) (k0 150) (k0 0)))))) (k0 3))))
def wM (N:Nat):LF->Int->Int->LF->(Kz2)->Bool:=aw N (qm N)
def kf (N:Nat) (e0:Ky4):(Int × Int)->((Int × Int)->Bool)->Bool:=λv_ K=>match v_ with
 | (Uy,e_1)=>(cond ((Int.tmod Uy 2)==0) (ah .i64 (e_1+1)&&K ((IntKind.wrap .u64 (Int.tdiv Uy 2)),(e_1+1))) (e0 Uy e_1))
def rB (N:Nat) (m e:Int) (k0:Ky4):Bool:=
 (cond (m==0) (k0 0 0) (ak N (kf N (λUV e_2=>k0 UV e_2)) (m,e)))
def oh (N:Nat):Int->Int->(Ky4)->Bool:=aw N (rB N)
def kP (N:Nat) (x:Fl) (neg:Bool) (e f:Int) (k0:Kx4):Bool:=
 (ah .i64 (e - 1074)&&oh N f (e - 1074) (λUx UK=>k0 neg Ux UK 0))
def qf (N:Nat) (x:Fl) (k0:Kx4):Bool:=
 (np N x (λcr nr Ut=>cond (nr==2047) (k0 false 0 0 4) (cond (decide (nr>0)) (ah .i64 (nr - 1)&&kP N x cr (nr - 1) (IntKind.wrap .u64 (Ut+4503599627370496)) k0) (kP N x cr nr Ut k0))))
def ra (N:Nat):Fl->(Kx4)->Bool:=aw N (qf N)
def tS (N Uy:Nat) (VU:LI) (e0:Kz3):(Nat)->((Nat)->Bool)->Bool:=λv_ K=>match v_ with
 | UV=>(cond ((decide (((UV:Nat):Int)>0))==true) (ah .i64 (((UV:Nat):Int) - 1)&&(inR (((UV:Nat):Int) - 1) UV&&(decide ((Uy+(Int.toNat (((UV:Nat):Int) - 1)))<VU.length)&&cond ((VU.getD (Uy+(Int.toNat (((UV:Nat):Int) - 1))) 0)==0) (ah .i64 (((UV:Nat):Int) - 1)&&(decide (0<=(((UV:Nat):Int) - 1)/\(((UV:Nat):Int) - 1)<=((UV:Nat):Int))&&K ((Int.toNat (((UV:Nat):Int) - 1)) - 0))) (e0 UV)))) (e0 UV))
def OM (N:Nat) (b:LI) (k0:Kz3):Bool:=
 (ak N (tS N 0 b (λXs=>k0 Xs)) b.length)
def og (N:Nat):LI->(Kz3)->Bool:=aw N (OM N)
def Jz (N:Nat) (n:Int) (k0:Kz6):Bool:=
 (og N [(IntKind.wrap .u32 n),(IntKind.wrap .u32 (Int.fdiv n (2 ^ 32)))] (λmr=>decide ((0+mr)<=(List.length [(IntKind.wrap .u32 n),(IntKind.wrap .u32 (Int.fdiv n (2 ^ 32)))]))&&k0 (List.take mr (List.drop 0 [(IntKind.wrap .u32 n),(IntKind.wrap .u32 (Int.fdiv n (2 ^ 32)))]))))
def AD (N:Nat):Int->(Kz6)->Bool:=aw N (Jz N)
def fz (N:Nat) (e0:Kz6):(LI)->((LI)->Bool)->Bool:=λv_ K=>match v_ with
 | Uy=>(cond ((decide (((Uy.length:Nat):Int)>0))==true) (ah .i64 (((Uy.length:Nat):Int) - 1)&&(inR (((Uy.length:Nat):Int) - 1) Uy.length&&cond ((Uy.getD (Int.toNat (((Uy.length:Nat):Int) - 1)) 0)==0) (ah .i64 (((Uy.length:Nat):Int) - 1)&&(decide (0<=(((Uy.length:Nat):Int) - 1)/\(((Uy.length:Nat):Int) - 1)<=((Uy.length:Nat):Int))&&K (List.drop 0 (List.take (Int.toNat (((Uy.length:Nat):Int) - 1)) Uy)))) (e0 Uy))) (e0 Uy))
def uR (N:Nat) (m:LI) (k0:Kz6):Bool:=
 (ak N (fz N (λUV=>k0 UV)) m)
def kJ (N:Nat):LI->(Kz6)->Bool:=aw N (uR N)
def NH (N:Nat) (neg:Bool) (m:LI) (b:Bool) (k0:Ky3):Bool:=
 (kJ N m (λnsr=>cond (neg==true) (k0 (decide (((nsr.length:Nat):Int)>0)) nsr) (k0 false nsr)))
def wI (N:Nat):Bool->LI->Bool->(Ky3)->Bool:=NH N
def O5 (N:Nat) (n:Int) (b:Bool) (k0:Ky3):Bool:=
 (AD N n (λnsr=>wI N false nsr b (λcr Uv=>k0 cr Uv)))
def Np (N:Nat):Int->Bool->(Ky3)->Bool:=aw N (O5 N)
def qn (N:Nat) (neg b:Bool) (Us Uw:LI) (k0:Kx9):Bool:=
 (og N Uw (λmr=>cond (neg==true) (k0 (decide (((mr:Nat):Int)>0)) 0 mr) (k0 false 0 mr)))
def rg (N:Nat):Bool->Bool->LI->LI->(Kx9)->Bool:=qn N
def Jw (N:Nat) (b:Bool) (Us:LI) (k0:Ky3):Bool:=
 (decide ((List.length ([]++Us))*4<=140737488355328)&&rg N (!b) b Us ([]++Us) (λcr mr VH=>decide ((mr+VH)<=(List.length ([]++Us)))&&k0 cr (List.take VH (List.drop mr ([]++Us)))))
def Lw (N:Nat):Bool->LI->(Ky3)->Bool:=aw N (Jw N)
def xm (N:Nat) (x:Fl) (k0:Int->Bool->LI->Bool):Bool:=
 (ra N x (λcr nr Ut Ux=>Np N nr false (λUu nsr=>cond cr (Lw N Uu nsr (λUS Uv=>k0 Ut US Uv)) (k0 Ut Uu nsr))))
def yO (N:Nat):Fl->(Int->Bool->LI->Bool)->Bool:=aw N (xm N)
def eA (N:Nat) (Uy:LI) (w s:Int) (e0:Kz6):(Int × LI)->((Int × LI)->Bool)->Bool:=λv_ K=>match v_ with
 | (i,out)=>(cond (decide (i<((Uy.length:Nat):Int))) (inR i Uy.length&&(decide (0<=s)&&(ah .i64 (w+i)&&(inR (w+i) out.length&&(decide ((Int.toNat (w+i))<out.length)&&(inR (w+i) out.length&&(decide ((Int.toNat (w+i))<out.length)&&(ah .i64 (w+i)&&(ah .i64 ((w+i)+1)&&(inR ((w+i)+1) (List.length (out.set (Int.toNat (w+i)) (az .or .u32 (out.getD (Int.toNat (w+i)) 0) (IntKind.wrap .u32 (IntKind.wrap .u64 ((IntKind.wrap .u64 (Uy.getD i.toNat 0))*2 ^ (min s.toNat 64)))))))&&(decide ((Int.toNat ((w+i)+1))<(List.length (out.set (Int.toNat (w+i)) (az .or .u32 (out.getD (Int.toNat (w+i)) 0) (IntKind.wrap .u32 (IntKind.wrap .u64 ((IntKind.wrap .u64 (Uy.getD i.toNat 0))*2 ^ (min s.toNat 64))))))))&&(ah .i64 (i+1)&&K ((i+1),(List.set (out.set (Int.toNat (w+i)) (az .or .u32 (out.getD (Int.toNat (w+i)) 0) (IntKind.wrap .u32 (IntKind.wrap .u64 ((IntKind.wrap .u64 (Uy.getD i.toNat 0))*2 ^ (min s.toNat 64)))))) (Int.toNat ((w+i)+1)) (IntKind.wrap .u32 (Int.fdiv (IntKind.wrap .u64 ((IntKind.wrap .u64 (Uy.getD i.toNat 0))*2 ^ (min s.toNat 64))) (2 ^ 32))))))))))))))))) (e0 out))
def sS (N:Nat) (m:LI) (n:Int) (k0:Kz6):Bool:=
 (cond (((m.length:Nat):Int)==0) (k0 []) (ah .i64 (IntKind.wrap .u64 (Int.tdiv n 32))&&(ah .i64 ((IntKind.wrap .u64 (Int.tdiv n 32))+((m.length:Nat):Int))&&(ah .i64 (((IntKind.wrap .u64 (Int.tdiv n 32))+((m.length:Nat):Int))+1)&&(i7 4 (((IntKind.wrap .u64 (Int.tdiv n 32))+((m.length:Nat):Int))+1) (((IntKind.wrap .u64 (Int.tdiv n 32))+((m.length:Nat):Int))+1)&&ak N (eA N m (IntKind.wrap .u64 (Int.tdiv n 32)) (Int.tmod n 32) (λUN=>og N UN (λmr=>decide ((0+mr)<=UN.length)&&k0 (List.take mr (List.drop 0 UN))))) (0,(List.replicate (Int.toNat (((IntKind.wrap .u64 (Int.tdiv n 32))+((m.length:Nat):Int))+1)) (0:Int))))))))
def tK (N:Nat):LI->Int->(Kz6)->Bool:=aw N (sS N)
def Jf (N:Nat) (n:Int) (b Us:Bool) (Uw:LI) (k0:Ky3):Bool:=
 (tK N Uw n (λnsr=>wI N Us nsr b (λcr Uv=>k0 cr Uv)))
def GO (N:Nat):Int->Bool->Bool->LI->(Ky3)->Bool:=aw N (Jf N)
def RL (N:Nat) (x e:Int) (b:Bool) (Us:LI) (k0:Bool) (k1:Ky3):Bool:=
 (cond (decide (e>=x)) k0 (ah .i64 (x - e)&&GO N (IntKind.wrap .u64 (x - e)) false b Us (λcr nsr=>k1 cr nsr)))
def Rg (N:Nat):Int->Int->Bool->LI->(Bool)->(Ky3)->Bool:=RL N
def F2 (N:Nat) (k0:Kz6):Bool:=
 (k0 [1])
def pS (N:Nat):(Kz6)->Bool:=F2 N
def Jn (N:Nat) (neg:Bool) (m:LI) (b Us:Bool) (k0:Bool->LI->LI->Bool):Bool:=
 (kJ N m (λnsr=>cond (neg==true) (k0 (decide (((nsr.length:Nat):Int)>0)) nsr []) (k0 false nsr [])))
def DF (N:Nat):Bool->LI->Bool->Bool->(Bool->LI->LI->Bool)->Bool:=Jn N
def JH (N:Nat) (neg:Bool) (m:LI) (b:Bool) (Us:LI) (Uw:Bool) (UA:LI) (k0:Ky3):Bool:=
 (kJ N m (λnsr=>cond (neg==true) (k0 (decide (((nsr.length:Nat):Int)>0)) nsr) (k0 false nsr)))
def DK (N:Nat):Bool->LI->Bool->LI->Bool->LI->(Ky3)->Bool:=JH N
def Md (N:Nat) (x:Int) (k0:Kz2):Bool:=
 (cond (x==0) (k0 32) (inR (Int.fdiv (IntKind.wrap .u32 ((az .and .u32 x (IntKind.wrap .u32 (0 - x)))*125613361)) (2 ^ 27)) 32&&(ah .i64 (wP.getD (Int.toNat (Int.fdiv (IntKind.wrap .u32 ((az .and .u32 x (IntKind.wrap .u32 (0 - x)))*125613361)) (2 ^ 27))) 0)&&k0 (wP.getD (Int.toNat (Int.fdiv (IntKind.wrap .u32 ((az .and .u32 x (IntKind.wrap .u32 (0 - x)))*125613361)) (2 ^ 27))) 0))))
def Q2 (N:Nat):Int->(Kz2)->Bool:=aw N (Md N)
def G2 (N:Nat) (z:Bool) (V7:LI) (e0:Kz2) (e1:Bool):(Int)->((Int)->Bool)->Bool:=λv_ K=>match v_ with
 | i=>(cond (decide (i<((V7.length:Nat):Int))) (inR i V7.length&&cond ((V7.getD i.toNat 0) != 0) (ah .i64 (32*i)&&(inR i V7.length&&Q2 N (V7.getD i.toNat 0) (λnr=>ah .i64 ((32*i)+nr)&&e0 (IntKind.wrap .u64 ((32*i)+nr))))) (ah .i64 (i+1)&&K (i+1))) e1)
def GQ5 (N:Nat) (b:Bool) (Us:LI) (k0:Kz2):Bool:=
 (ak N (G2 N b Us (λt2=>k0 t2) (k0 0)) 0)
def sQ5 (N:Nat):Bool->LI->(Kz2)->Bool:=aw N (GQ5 N)
def kb (N:Nat) (Uy:LI) (w s:Int) (e0:Kz6):(Int × LI)->((Int × LI)->Bool)->Bool:=λv_ K=>match v_ with
 | (i,out)=>(cond (decide (i<((out.length:Nat):Int))) (ah .i64 (w+i)&&(inR (w+i) Uy.length&&(ah .i64 (w+i)&&(ah .i64 ((w+i)+1)&&cond (decide (((w+i)+1)<((Uy.length:Nat):Int))) (ah .i64 (w+i)&&(ah .i64 ((w+i)+1)&&(inR ((w+i)+1) Uy.length&&(decide (0<=s)&&(inR i out.length&&(decide (i.toNat<out.length)&&(ah .i64 (i+1)&&K ((i+1),(out.set i.toNat (IntKind.wrap .u32 (Int.fdiv (az .or .u64 (IntKind.wrap .u64 (Uy.getD (Int.toNat (w+i)) 0)) (IntKind.wrap .u64 ((IntKind.wrap .u64 (Uy.getD (Int.toNat ((w+i)+1)) 0))*2 ^ 32))) (2 ^ (min s.toNat 64))))))))))))) (decide (0<=s)&&(inR i out.length&&(decide (i.toNat<out.length)&&(ah .i64 (i+1)&&K ((i+1),(out.set i.toNat (IntKind.wrap .u32 (Int.fdiv (IntKind.wrap .u64 (Uy.getD (Int.toNat (w+i)) 0)) (2 ^ (min s.toNat 64)))))))))))))) (e0 out))
def Pc (N:Nat) (m:LI) (n:Int) (k0:Kz6):Bool:=
 (ah .i64 (IntKind.wrap .u64 (Int.tdiv n 32))&&cond (decide ((IntKind.wrap .u64 (Int.tdiv n 32))>=((m.length:Nat):Int))) (k0 []) (ah .i64 (((m.length:Nat):Int) - (IntKind.wrap .u64 (Int.tdiv n 32)))&&(i7 4 (((m.length:Nat):Int) - (IntKind.wrap .u64 (Int.tdiv n 32))) (((m.length:Nat):Int) - (IntKind.wrap .u64 (Int.tdiv n 32)))&&ak N (kb N m (IntKind.wrap .u64 (Int.tdiv n 32)) (Int.tmod n 32) (λUN=>og N UN (λmr=>decide ((0+mr)<=UN.length)&&k0 (List.take mr (List.drop 0 UN))))) (0,(List.replicate (Int.toNat (((m.length:Nat):Int) - (IntKind.wrap .u64 (Int.tdiv n 32)))) (0:Int))))))
def zF (N:Nat):LI->Int->(Kz6)->Bool:=aw N (Pc N)
def Jk (N:Nat) (x:Int) (k0:Kz2):Bool:=
 (cond (decide (x>=65536)) (cond (decide ((Int.fdiv x (2 ^ 16))>=256)) (inR (IntKind.wrap .u8 (Int.fdiv (Int.fdiv x (2 ^ 16)) (2 ^ 8))) 256&&(ah .i64 (ax.getD (Int.toNat (IntKind.wrap .u8 (Int.fdiv (Int.fdiv x (2 ^ 16)) (2 ^ 8)))) 0)&&(ah .i64 (24+(ax.getD (Int.toNat (IntKind.wrap .u8 (Int.fdiv (Int.fdiv x (2 ^ 16)) (2 ^ 8)))) 0))&&k0 (24+(ax.getD (Int.toNat (IntKind.wrap .u8 (Int.fdiv (Int.fdiv x (2 ^ 16)) (2 ^ 8)))) 0))))) (inR (IntKind.wrap .u8 (Int.fdiv x (2 ^ 16))) 256&&(ah .i64 (ax.getD (Int.toNat (IntKind.wrap .u8 (Int.fdiv x (2 ^ 16)))) 0)&&(ah .i64 (16+(ax.getD (Int.toNat (IntKind.wrap .u8 (Int.fdiv x (2 ^ 16)))) 0))&&k0 (16+(ax.getD (Int.toNat (IntKind.wrap .u8 (Int.fdiv x (2 ^ 16)))) 0)))))) (cond (decide (x>=256)) (inR (IntKind.wrap .u8 (Int.fdiv x (2 ^ 8))) 256&&(ah .i64 (ax.getD (Int.toNat (IntKind.wrap .u8 (Int.fdiv x (2 ^ 8)))) 0)&&(ah .i64 (8+(ax.getD (Int.toNat (IntKind.wrap .u8 (Int.fdiv x (2 ^ 8)))) 0))&&k0 (8+(ax.getD (Int.toNat (IntKind.wrap .u8 (Int.fdiv x (2 ^ 8)))) 0))))) (inR (IntKind.wrap .u8 x) 256&&(ah .i64 (ax.getD (Int.toNat (IntKind.wrap .u8 x)) 0)&&(ah .i64 (0+(ax.getD (Int.toNat (IntKind.wrap .u8 x)) 0))&&k0 (0+(ax.getD (Int.toNat (IntKind.wrap .u8 x)) 0)))))))
def GQ (N:Nat):Int->(Kz2)->Bool:=aw N (Jk N)
def O9 (N:Nat) (b:Bool) (Us:LI) (k0:Kz2):Bool:=
 (cond (((Us.length:Nat):Int)==0) (k0 0) (ah .i64 (((Us.length:Nat):Int) - 1)&&(ah .i64 (32*(((Us.length:Nat):Int) - 1))&&(ah .i64 (((Us.length:Nat):Int) - 1)&&(inR (((Us.length:Nat):Int) - 1) Us.length&&GQ N (Us.getD (Int.toNat (((Us.length:Nat):Int) - 1)) 0) (λnr=>ah .i64 ((32*(((Us.length:Nat):Int) - 1))+nr)&&k0 ((32*(((Us.length:Nat):Int) - 1))+nr)))))))
def IC (N:Nat):Bool->LI->(Kz2)->Bool:=aw N (O9 N)
def tO (N:Nat) (U4 Us:LI) (e0:Kz2) (e1:Bool):(Int)->((Int)->Bool)->Bool:=λv_ K=>match v_ with
 | i=>(cond (decide (i>=0)) (inR i U4.length&&(inR i Us.length&&cond (decide ((U4.getD i.toNat 0)<(Us.getD i.toNat 0))) (e0 (-1)) (inR i U4.length&&(inR i Us.length&&cond (decide ((U4.getD i.toNat 0)>(Us.getD i.toNat 0))) (e0 1) (ah .i64 (i - 1)&&K (i - 1)))))) e1)
def IY (N:Nat) (a b:LI) (k0:Kz2):Bool:=
 (cond (((a.length:Nat):Int) != ((b.length:Nat):Int)) (cond (decide (((a.length:Nat):Int)<((b.length:Nat):Int))) (k0 (-1)) (k0 1)) (ah .i64 (((a.length:Nat):Int) - 1)&&ak N (tO N a b (λt4=>k0 t4) (k0 0)) (((a.length:Nat):Int) - 1)))
def wF (N:Nat):LI->LI->(Kz2)->Bool:=aw N (IY N)
def kX (N:Nat) (x:LI) (e0:Kz2):(Int × Int)->((Int × Int)->Bool)->Bool:=λv_ K=>match v_ with
 | (u,i)=>(cond (decide (i>=0)) (inR i x.length&&(ah .i64 (i - 1)&&K ((az .or .u64 (IntKind.wrap .u64 (u*2 ^ 32)) (IntKind.wrap .u64 (x.getD i.toNat 0))),(i - 1)))) (e0 u))
def sR (N:Nat) (m:LI) (Z0:Int) (k0:Kz2):Bool:=
 (zF N m (IntKind.wrap .u64 Z0) (λnsr=>ah .i64 (((nsr.length:Nat):Int) - 1)&&ak N (kX N nsr (λVc=>k0 Vc)) (0,(((nsr.length:Nat):Int) - 1))))
def po (N:Nat):LI->Int->(Kz2)->Bool:=aw N (sR N)
def oj (N:Nat) (e0:Kx6):(Int × Int × Int × Int × Int × Int)->((Int × Int × Int × Int × Int × Int)->Bool)->Bool:=λv_ K=>match v_ with
 | (a,b,c,d,p,q)=>(ah .i64 (q+c)&&cond (((q+c) != 0)==true) (ah .i64 (q+d)&&cond ((q+d) != 0) (ah .i64 (p+a)&&(ah .i64 (q+c)&&((!decide ((q+c)=0))&&(ah .i64 (Int.tdiv (p+a) (q+c))&&(ah .i64 (p+b)&&(ah .i64 (q+d)&&((!decide ((q+d)=0))&&(ah .i64 (Int.tdiv (p+b) (q+d))&&cond ((Int.tdiv (p+a) (q+c)) != (Int.tdiv (p+b) (q+d))) (e0 a b c d) (ah .i64 ((Int.tdiv (p+a) (q+c))*c)&&(ah .i64 (a - ((Int.tdiv (p+a) (q+c))*c))&&(ah .i64 ((Int.tdiv (p+a) (q+c))*d)&&(ah .i64 (b - ((Int.tdiv (p+a) (q+c))*d))&&cond ((decide ((a - ((Int.tdiv (p+a) (q+c))*c))>1073741824))==false) (cond ((decide ((a - ((Int.tdiv (p+a) (q+c))*c))<(-1073741824)))==false) (cond ((decide ((b - ((Int.tdiv (p+a) (q+c))*d))>1073741824))==false) (cond (decide ((b - ((Int.tdiv (p+a) (q+c))*d))<(-1073741824))) (e0 a b c d) (ah .i64 ((Int.tdiv (p+a) (q+c))*q)&&(ah .i64 (p - ((Int.tdiv (p+a) (q+c))*q))&&K (c,d,(a - ((Int.tdiv (p+a) (q+c))*c)),(b - ((Int.tdiv (p+a) (q+c))*d)),q,(p - ((Int.tdiv (p+a) (q+c))*q)))))) (e0 a b c d)) (e0 a b c d)) (e0 a b c d))))))))))))) (e0 a b c d)) (e0 a b c d))
def qe (N:Nat) (x y:Int) (k0:Kx6):Bool:=
 (ah .i64 x&&(ah .i64 y&&ak N (oj N (λU4 Us c_1 VE=>k0 U4 Us c_1 VE)) (1,0,0,1,x,y)))
def q9 (N:Nat):Int->Int->(Kx6)->Bool:=aw N (qe N)
def kc (N:Nat) (Uy:LI) (VE:Int) (e0:Ky8):(Int × Int × LI)->((Int × Int × LI)->Bool)->Bool:=λv_ K=>match v_ with
 | (r,i,out)=>(cond (decide (i>=0)) (inR i Uy.length&&((!decide ((IntKind.wrap .u64 VE)=0))&&(inR i out.length&&(decide (i.toNat<out.length)&&((!decide ((IntKind.wrap .u64 VE)=0))&&(ah .i64 (i - 1)&&K ((Int.tmod (az .or .u64 (IntKind.wrap .u64 (r*2 ^ 32)) (IntKind.wrap .u64 (Uy.getD i.toNat 0))) (IntKind.wrap .u64 VE)),(i - 1),(out.set i.toNat (IntKind.wrap .u32 (IntKind.wrap .u64 (Int.tdiv (az .or .u64 (IntKind.wrap .u64 (r*2 ^ 32)) (IntKind.wrap .u64 (Uy.getD i.toNat 0))) (IntKind.wrap .u64 VE)))))))))))) (e0 r out))
def qb (N:Nat) (m:LI) (d:Int) (k0:LI->Int->Bool):Bool:=
 (i7 4 ((m.length:Nat):Int) ((m.length:Nat):Int)&&(ah .i64 (((m.length:Nat):Int) - 1)&&ak N (kc N m d (λZa UN=>og N UN (λmr=>decide ((0+mr)<=UN.length)&&k0 (List.take mr (List.drop 0 UN)) (IntKind.wrap .u32 Za)))) (0,(((m.length:Nat):Int) - 1),(List.replicate (Int.toNat ((m.length:Nat):Int)) (0:Int)))))
def no (N:Nat):LI->Int->(LI->Int->Bool)->Bool:=aw N (qb N)
def RI (N:Nat) (x:Int) (k0:Kz2):Bool:=
 (GQ N x (λnr=>ah .i64 (32 - nr)&&k0 (32 - nr)))
def Rd (N:Nat):Int->(Kz2)->Bool:=RI N
def mP (N:Nat) (Uy:LI) (w s:Int) (e0:Kz6):(Int × LI)->((Int × LI)->Bool)->Bool:=λv_ K=>match v_ with
 | (i,out)=>(cond (decide (i<((Uy.length:Nat):Int))) (inR i Uy.length&&(decide (0<=s)&&(ah .i64 (w+i)&&(inR (w+i) out.length&&(decide ((Int.toNat (w+i))<out.length)&&(inR (w+i) out.length&&(decide ((Int.toNat (w+i))<out.length)&&(ah .i64 (w+i)&&(ah .i64 ((w+i)+1)&&(inR ((w+i)+1) (List.length (out.set (Int.toNat (w+i)) (az .or .u32 (out.getD (Int.toNat (w+i)) 0) (IntKind.wrap .u32 (IntKind.wrap .u64 ((IntKind.wrap .u64 (Uy.getD i.toNat 0))*2 ^ (min s.toNat 64)))))))&&(decide ((Int.toNat ((w+i)+1))<(List.length (out.set (Int.toNat (w+i)) (az .or .u32 (out.getD (Int.toNat (w+i)) 0) (IntKind.wrap .u32 (IntKind.wrap .u64 ((IntKind.wrap .u64 (Uy.getD i.toNat 0))*2 ^ (min s.toNat 64))))))))&&(ah .i64 (i+1)&&K ((i+1),(List.set (out.set (Int.toNat (w+i)) (az .or .u32 (out.getD (Int.toNat (w+i)) 0) (IntKind.wrap .u32 (IntKind.wrap .u64 ((IntKind.wrap .u64 (Uy.getD i.toNat 0))*2 ^ (min s.toNat 64)))))) (Int.toNat ((w+i)+1)) (IntKind.wrap .u32 (Int.fdiv (IntKind.wrap .u64 ((IntKind.wrap .u64 (Uy.getD i.toNat 0))*2 ^ (min s.toNat 64))) (2 ^ 32))))))))))))))))) (e0 out))
def I5 (N:Nat) (m:LI) (n:Int) (k0:Bool) (k1:Ky9):Bool:=
 (cond (((m.length:Nat):Int)==0) k0 (ah .i64 (IntKind.wrap .u64 (Int.tdiv n 32))&&(ah .i64 ((IntKind.wrap .u64 (Int.tdiv n 32))+((m.length:Nat):Int))&&(ah .i64 (((IntKind.wrap .u64 (Int.tdiv n 32))+((m.length:Nat):Int))+1)&&(i7 4 (((IntKind.wrap .u64 (Int.tdiv n 32))+((m.length:Nat):Int))+1) (((IntKind.wrap .u64 (Int.tdiv n 32))+((m.length:Nat):Int))+1)&&ak N (mP N m (IntKind.wrap .u64 (Int.tdiv n 32)) (Int.tmod n 32) (λUN=>og N UN (λmr=>k1 mr UN))) (0,(List.replicate (Int.toNat (((IntKind.wrap .u64 (Int.tdiv n 32))+((m.length:Nat):Int))+1)) (0:Int))))))))
def Dz (N:Nat):LI->Int->(Bool)->(Ky9)->Bool:=aw N (I5 N)
def gJ (N u Vy d Xr:Nat) (Vu Wf:Int) (Yc:LI) (e0:Int->Int->LI->Bool):(Int × Int × Int × LI)->((Int × Int × Int × LI)->Bool)->Bool:=λv_ K=>match v_ with
 | (carry,borrow,i,V0)=>(cond (decide (i<((Xr:Nat):Int))) (inR i Xr&&(decide ((d+i.toNat)<Yc.length)&&(ah .i64 (Vu+i)&&(inR (Vu+i) Vy&&(decide ((u+(Int.toNat (Vu+i)))<V0.length)&&cond (decide ((IntKind.wrap .u64 (V0.getD (u+(Int.toNat (Vu+i))) 0))<(IntKind.wrap .u64 ((az .and .u64 (IntKind.wrap .u64 ((IntKind.wrap .u64 (Wf*(IntKind.wrap .u64 (Yc.getD (d+i.toNat) 0))))+carry)) 4294967295)+borrow)))) (ah .i64 (Vu+i)&&(inR (Vu+i) Vy&&(decide ((u+(Int.toNat (Vu+i)))<V0.length)&&(ah .i64 (i+1)&&K ((Int.fdiv (IntKind.wrap .u64 ((IntKind.wrap .u64 (Wf*(IntKind.wrap .u64 (Yc.getD (d+i.toNat) 0))))+carry)) (2 ^ 32)),1,(i+1),(V0.set (u+(Int.toNat (Vu+i))) (IntKind.wrap .u32 (IntKind.wrap .u64 ((IntKind.wrap .u64 ((IntKind.wrap .u64 (V0.getD (u+(Int.toNat (Vu+i))) 0))+4294967296)) - (IntKind.wrap .u64 ((az .and .u64 (IntKind.wrap .u64 ((IntKind.wrap .u64 (Wf*(IntKind.wrap .u64 (Yc.getD (d+i.toNat) 0))))+carry)) 4294967295)+borrow))))))))))) (ah .i64 (Vu+i)&&(inR (Vu+i) Vy&&(decide ((u+(Int.toNat (Vu+i)))<V0.length)&&(ah .i64 (i+1)&&K ((Int.fdiv (IntKind.wrap .u64 ((IntKind.wrap .u64 (Wf*(IntKind.wrap .u64 (Yc.getD (d+i.toNat) 0))))+carry)) (2 ^ 32)),0,(i+1),(V0.set (u+(Int.toNat (Vu+i))) (IntKind.wrap .u32 (IntKind.wrap .u64 ((IntKind.wrap .u64 (V0.getD (u+(Int.toNat (Vu+i))) 0)) - (IntKind.wrap .u64 ((az .and .u64 (IntKind.wrap .u64 ((IntKind.wrap .u64 (Wf*(IntKind.wrap .u64 (Yc.getD (d+i.toNat) 0))))+carry)) 4294967295)+borrow)))))))))))))))) (e0 carry borrow V0))
def Js (N VL Vc d_0 VE:Nat) (j g:Int) (b Us:LI) (k0:Ky3):Bool:=
 (ak N (gJ N VL Vc d_0 VE j g Us (λVa Wp WZ=>ah .i64 (j+((VE:Nat):Int))&&(inR (j+((VE:Nat):Int)) Vc&&(decide ((VL+(Int.toNat (j+((VE:Nat):Int))))<WZ.length)&&(ah .i64 (j+((VE:Nat):Int))&&(inR (j+((VE:Nat):Int)) Vc&&(decide ((VL+(Int.toNat (j+((VE:Nat):Int))))<WZ.length)&&k0 (decide ((IntKind.wrap .u64 (WZ.getD (VL+(Int.toNat (j+((VE:Nat):Int)))) 0))<(IntKind.wrap .u64 (Va+Wp)))) (WZ.set (VL+(Int.toNat (j+((VE:Nat):Int)))) (IntKind.wrap .u32 (IntKind.wrap .u64 ((IntKind.wrap .u64 (WZ.getD (VL+(Int.toNat (j+((VE:Nat):Int)))) 0)) - (IntKind.wrap .u64 (Va+Wp))))))))))))) (0,0,0,b))
def Lt (N:Nat):Nat->Nat->Nat->Nat->Int->Int->LI->LI->(Ky3)->Bool:=aw N (Js N)
def gL (N u Vy d Xr:Nat) (Vu:Int) (Yc:LI) (e0:Ky8):(Int × Int × LI)->((Int × Int × LI)->Bool)->Bool:=λv_ K=>match v_ with
 | (carry,i,V0)=>(cond (decide (i<((Xr:Nat):Int))) (ah .i64 (Vu+i)&&(inR (Vu+i) Vy&&(decide ((u+(Int.toNat (Vu+i)))<V0.length)&&(inR i Xr&&(decide ((d+i.toNat)<Yc.length)&&(ah .i64 (Vu+i)&&(inR (Vu+i) Vy&&(decide ((u+(Int.toNat (Vu+i)))<V0.length)&&(ah .i64 (i+1)&&K ((Int.fdiv (IntKind.wrap .u64 ((IntKind.wrap .u64 ((IntKind.wrap .u64 (V0.getD (u+(Int.toNat (Vu+i))) 0))+(IntKind.wrap .u64 (Yc.getD (d+i.toNat) 0))))+carry)) (2 ^ 32)),(i+1),(V0.set (u+(Int.toNat (Vu+i))) (IntKind.wrap .u32 (IntKind.wrap .u64 ((IntKind.wrap .u64 ((IntKind.wrap .u64 (V0.getD (u+(Int.toNat (Vu+i))) 0))+(IntKind.wrap .u64 (Yc.getD (d+i.toNat) 0))))+carry)))))))))))))) (e0 carry V0))
def Jt (N VL Vc d_0 VE:Nat) (j:Int) (b Us:LI) (k0:Kz6):Bool:=
 (ak N (gL N VL Vc d_0 VE j Us (λVa WZ=>ah .i64 (j+((VE:Nat):Int))&&(inR (j+((VE:Nat):Int)) Vc&&(decide ((VL+(Int.toNat (j+((VE:Nat):Int))))<WZ.length)&&(inR (j+((VE:Nat):Int)) Vc&&(decide ((VL+(Int.toNat (j+((VE:Nat):Int))))<WZ.length)&&k0 (WZ.set (VL+(Int.toNat (j+((VE:Nat):Int)))) (IntKind.wrap .u32 ((WZ.getD (VL+(Int.toNat (j+((VE:Nat):Int)))) 0)+(IntKind.wrap .u32 Va)))))))))) (0,0,b))
def Lu (N:Nat):Nat->Nat->Nat->Nat->Int->LI->LI->(Kz6)->Bool:=aw N (Jt N)
def tR (N m:Nat) (VU:LI) (e0:Kz3):(Nat)->((Nat)->Bool)->Bool:=λv_ K=>match v_ with
 | UV=>(cond ((decide (((UV:Nat):Int)>0))==true) (ah .i64 (((UV:Nat):Int) - 1)&&(inR (((UV:Nat):Int) - 1) UV&&(decide ((m+(Int.toNat (((UV:Nat):Int) - 1)))<VU.length)&&cond ((VU.getD (m+(Int.toNat (((UV:Nat):Int) - 1))) 0)==0) (ah .i64 (((UV:Nat):Int) - 1)&&(decide (0<=(((UV:Nat):Int) - 1)/\(((UV:Nat):Int) - 1)<=((UV:Nat):Int))&&K ((Int.toNat (((UV:Nat):Int) - 1)) - 0))) (e0 UV)))) (e0 UV))
def p_ (N U_ Uy:Nat) (b:LI) (k0:Kz3):Bool:=
 (ak N (tR N U_ b (λXs=>k0 Xs)) Uy)
def q8 (N:Nat):Nat->Nat->LI->(Kz3)->Bool:=aw N (p_ N)
def iz (N m UV:Nat) (w s:Int) (VU:LI) (e0:Kz6):(Int × LI)->((Int × LI)->Bool)->Bool:=λv_ K=>match v_ with
 | (i,out)=>(cond (decide (i<((out.length:Nat):Int))) (ah .i64 (w+i)&&(inR (w+i) UV&&(decide ((m+(Int.toNat (w+i)))<VU.length)&&(ah .i64 (w+i)&&(ah .i64 ((w+i)+1)&&cond (decide (((w+i)+1)<((UV:Nat):Int))) (ah .i64 (w+i)&&(ah .i64 ((w+i)+1)&&(inR ((w+i)+1) UV&&(decide ((m+(Int.toNat ((w+i)+1)))<VU.length)&&(decide (0<=s)&&(inR i out.length&&(decide (i.toNat<out.length)&&(ah .i64 (i+1)&&K ((i+1),(out.set i.toNat (IntKind.wrap .u32 (Int.fdiv (az .or .u64 (IntKind.wrap .u64 (VU.getD (m+(Int.toNat (w+i))) 0)) (IntKind.wrap .u64 ((IntKind.wrap .u64 (VU.getD (m+(Int.toNat ((w+i)+1))) 0))*2 ^ 32))) (2 ^ (min s.toNat 64)))))))))))))) (decide (0<=s)&&(inR i out.length&&(decide (i.toNat<out.length)&&(ah .i64 (i+1)&&K ((i+1),(out.set i.toNat (IntKind.wrap .u32 (Int.fdiv (IntKind.wrap .u64 (VU.getD (m+(Int.toNat (w+i))) 0)) (2 ^ (min s.toNat 64))))))))))))))) (e0 out))
def JB (N U_ Uy:Nat) (n:Int) (b:LI) (k0:Kz6):Bool:=
 (ah .i64 (IntKind.wrap .u64 (Int.tdiv n 32))&&cond (decide ((IntKind.wrap .u64 (Int.tdiv n 32))>=((Uy:Nat):Int))) (k0 []) (ah .i64 (((Uy:Nat):Int) - (IntKind.wrap .u64 (Int.tdiv n 32)))&&(i7 4 (((Uy:Nat):Int) - (IntKind.wrap .u64 (Int.tdiv n 32))) (((Uy:Nat):Int) - (IntKind.wrap .u64 (Int.tdiv n 32)))&&ak N (iz N U_ Uy (IntKind.wrap .u64 (Int.tdiv n 32)) (Int.tmod n 32) b (λUN=>og N UN (λmr=>decide ((0+mr)<=UN.length)&&k0 (List.take mr (List.drop 0 UN))))) (0,(List.replicate (Int.toNat (((Uy:Nat):Int) - (IntKind.wrap .u64 (Int.tdiv n 32)))) (0:Int))))))
def Lx (N:Nat):Nat->Nat->Int->LI->(Kz6)->Bool:=aw N (JB N)
def nG (N:Nat) (U4:LI) (s:Int) (e0:Ky9):(Nat × LI)->((Nat × LI)->Bool)->Bool:=λv_ K=>match v_ with
 | (u,Vc)=>(ah .i64 (((U4.length:Nat):Int)+1)&&cond (decide (((u:Nat):Int)<(((U4.length:Nat):Int)+1))) (decide ((0+u)<=Vc.length)&&(decide ((List.length ((List.take u (List.drop 0 Vc))++[0]))*4<=140737488355328)&&K ((List.length ((List.take u (List.drop 0 Vc))++[0])),((List.take u (List.drop 0 Vc))++[0])))) (e0 u Vc))
def rk (N:Nat) (Wd:LI) (UR:Int) (d:Nat) (VE:LI) (e0:Ky9):(Nat × LI)->((Nat × LI)->Bool)->Bool:=λv_ K=>match v_ with
 | (Xp,Yd)=>(ah .i64 (((Wd.length:Nat):Int)+1)&&cond (decide (((Xp:Nat):Int)<(((Wd.length:Nat):Int)+1))) (decide ((0+Xp)<=Yd.length)&&(decide ((List.length ((List.take Xp (List.drop 0 Yd))++[0]))*4<=140737488355328)&&K ((List.length ((List.take Xp (List.drop 0 Yd))++[0])),((List.take Xp (List.drop 0 Yd))++[0])))) (e0 Xp Yd))
def nF (N:Nat) (Wx:Int) (d_6 Wt:Nat) (Vr X3 Vu:Int) (d_7 Wy Y2:LI) (e0:Kz2):(Int × Int)->((Int × Int)->Bool)->Bool:=λv_ K=>match v_ with
 | (g,r)=>(cond ((decide (g>=4294967296))==false) (ah .i64 (Vr - 2)&&(inR (Vr - 2) d_6&&(decide ((0+(Int.toNat (Vr - 2)))<d_7.length)&&(ah .i64 (Vu+Vr)&&(ah .i64 ((Vu+Vr) - 2)&&(inR ((Vu+Vr) - 2) Wt&&(decide ((0+(Int.toNat ((Vu+Vr) - 2)))<Wy.length)&&cond (decide ((IntKind.wrap .u64 (g*(IntKind.wrap .u64 (d_7.getD (0+(Int.toNat (Vr - 2))) 0))))>(az .or .u64 (IntKind.wrap .u64 (r*2 ^ 32)) (IntKind.wrap .u64 (Wy.getD (0+(Int.toNat ((Vu+Vr) - 2))) 0))))) (cond (decide ((IntKind.wrap .u64 (r+X3))>=4294967296)) (e0 (IntKind.wrap .u64 (g - 1))) (K ((IntKind.wrap .u64 (g - 1)),(IntKind.wrap .u64 (r+X3))))) (e0 g)))))))) (cond (decide ((IntKind.wrap .u64 (r+X3))>=4294967296)) (e0 (IntKind.wrap .u64 (g - 1))) (K ((IntKind.wrap .u64 (g - 1)),(IntKind.wrap .u64 (r+X3))))))
def i8 (N:Nat) (Wv:Int) (d_4 VB:Nat) (n top:Int) (d_5:LI) (e0:Kz0):(Int × LI × LI)->((Int × LI × LI)->Bool)->Bool:=λv_ K=>match v_ with
 | (j,Vx,q)=>(cond (decide (j>=0)) (ah .i64 (j+n)&&(inR (j+n) VB&&(decide ((0+(Int.toNat (j+n)))<Vx.length)&&(ah .i64 (j+n)&&(ah .i64 ((j+n) - 1)&&(inR ((j+n) - 1) VB&&(decide ((0+(Int.toNat ((j+n) - 1)))<Vx.length)&&((!decide (top=0))&&((!decide (top=0))&&ak N (nF N Wv d_4 VB n top j d_5 Vx q (λWf=>Lt N 0 VB 0 d_4 j Wf Vx d_5 (λcr UL=>cond cr (Lu N 0 VB 0 d_4 j UL d_5 (λUI=>inR j q.length&&(decide (j.toNat<q.length)&&(ah .i64 (j - 1)&&K ((j - 1),UI,(q.set j.toNat (IntKind.wrap .u32 (IntKind.wrap .u64 (Wf - 1))))))))) (inR j q.length&&(decide (j.toNat<q.length)&&(ah .i64 (j - 1)&&K ((j - 1),UL,(q.set j.toNat (IntKind.wrap .u32 Wf))))))))) ((IntKind.wrap .u64 (Int.tdiv (az .or .u64 (IntKind.wrap .u64 ((IntKind.wrap .u64 (Vx.getD (0+(Int.toNat (j+n))) 0))*2 ^ 32)) (IntKind.wrap .u64 (Vx.getD (0+(Int.toNat ((j+n) - 1))) 0))) top)),(Int.tmod (az .or .u64 (IntKind.wrap .u64 ((IntKind.wrap .u64 (Vx.getD (0+(Int.toNat (j+n))) 0))*2 ^ 32)) (IntKind.wrap .u64 (Vx.getD (0+(Int.toNat ((j+n) - 1))) 0))) top))))))))))) (e0 Vx q))
def oB (N:Nat) (a b:LI) (UZ:Int) (Xr VA:Nat) (Yc VQ:LI) (k0:Kz0):Bool:=
 (ah .i64 (((VA:Nat):Int) - ((Xr:Nat):Int))&&(i7 4 (((VA:Nat):Int) - ((Xr:Nat):Int)) (((VA:Nat):Int) - ((Xr:Nat):Int))&&(ah .i64 (((Xr:Nat):Int) - 1)&&(inR (((Xr:Nat):Int) - 1) Xr&&(decide ((0+(Int.toNat (((Xr:Nat):Int) - 1)))<Yc.length)&&(ah .i64 ((((List.length (List.replicate (Int.toNat (((VA:Nat):Int) - ((Xr:Nat):Int))) (0:Int))):Nat):Int) - 1)&&ak N (i8 N UZ Xr VA ((Xr:Nat):Int) (IntKind.wrap .u64 (Yc.getD (0+(Int.toNat (((Xr:Nat):Int) - 1))) 0)) Yc (λVD Z3=>og N Z3 (λaaC=>decide (0<=((Xr:Nat):Int)/\((Xr:Nat):Int)<=((VA:Nat):Int))&&q8 N 0 ((Int.toNat ((Xr:Nat):Int)) - 0) VD (λacY=>Lx N 0 acY UZ VD (λs6=>decide ((0+aaC)<=Z3.length)&&k0 (List.take aaC (List.drop 0 Z3)) s6))))) (((((List.length (List.replicate (Int.toNat (((VA:Nat):Int) - ((Xr:Nat):Int))) (0:Int))):Nat):Int) - 1),VQ,(List.replicate (Int.toNat (((VA:Nat):Int) - ((Xr:Nat):Int))) (0:Int)))))))))
def tZ (N:Nat) (a b:LI) (UX:Int) (Ws:Nat) (VW:LI) (k0:Kz0):Bool:=
 (ah .i64 (((Ws:Nat):Int) - 0)&&(i7 4 (((Ws:Nat):Int) - 0) (((Ws:Nat):Int) - 0)&&false))
def B2 (N:Nat) (a b:LI) (k0:Kz0):Bool:=
 (wF N a b (λnr=>cond (decide (nr<0)) (decide ((List.length ([]++a))*4<=140737488355328)&&k0 [] ([]++a)) (cond (((b.length:Nat):Int)==1) (inR 0 b.length&&no N a (b.getD 0 0) (λnsr Ut=>og N [Ut] (λmr=>decide ((0+mr)<=(List.length [Ut]))&&k0 nsr (List.take mr (List.drop 0 [Ut]))))) (ah .i64 (((b.length:Nat):Int) - 1)&&(inR (((b.length:Nat):Int) - 1) b.length&&Rd N (b.getD (Int.toNat (((b.length:Nat):Int) - 1)) 0) (λUx=>Dz N b (IntKind.wrap .u64 Ux) (Dz N a (IntKind.wrap .u64 Ux) (ak N (nG N a (IntKind.wrap .u64 Ux) (λVy V0=>tZ N a b (IntKind.wrap .u64 Ux) Vy V0 k0)) (0,[])) (λU2 Uz=>ak N (nG N a (IntKind.wrap .u64 Ux) (λWZ Xt=>tZ N a b (IntKind.wrap .u64 Ux) WZ Xt k0)) (U2,Uz))) (λVH Uv=>Dz N a (IntKind.wrap .u64 Ux) (ak N (rk N a (IntKind.wrap .u64 Ux) VH Uv (λXH XJ=>oB N a b (IntKind.wrap .u64 Ux) VH XH Uv XJ k0)) (0,[])) (λXE UD=>ak N (rk N a (IntKind.wrap .u64 Ux) VH Uv (λVP VV=>oB N a b (IntKind.wrap .u64 Ux) VH VP Uv VV k0)) (XE,UD)))))))))
def oe (N:Nat):LI->LI->(Kz0)->Bool:=aw N (B2 N)
def ke (N:Nat) (Wd Uw:LI) (Ve:Int) (e0:Ky8):(Int × Int × LI)->((Int × Int × LI)->Bool)->Bool:=λv_ K=>match v_ with
 | (carry,k_,UN)=>(cond (decide (k_<((Uw.length:Nat):Int))) (inR Ve Wd.length&&(inR k_ Uw.length&&(ah .i64 (Ve+k_)&&(inR (Ve+k_) UN.length&&(decide ((Int.toNat (Ve+k_))<UN.length)&&(ah .i64 (Ve+k_)&&(inR (Ve+k_) UN.length&&(decide ((Int.toNat (Ve+k_))<UN.length)&&(ah .i64 (k_+1)&&K ((Int.fdiv (IntKind.wrap .u64 ((IntKind.wrap .u64 ((IntKind.wrap .u64 ((IntKind.wrap .u64 (Wd.getD Ve.toNat 0))*(IntKind.wrap .u64 (Uw.getD k_.toNat 0))))+(IntKind.wrap .u64 (UN.getD (Int.toNat (Ve+k_)) 0))))+carry)) (2 ^ 32)),(k_+1),(UN.set (Int.toNat (Ve+k_)) (IntKind.wrap .u32 (IntKind.wrap .u64 ((IntKind.wrap .u64 ((IntKind.wrap .u64 ((IntKind.wrap .u64 (Wd.getD Ve.toNat 0))*(IntKind.wrap .u64 (Uw.getD k_.toNat 0))))+(IntKind.wrap .u64 (UN.getD (Int.toNat (Ve+k_)) 0))))+carry)))))))))))))) (e0 carry UN))
def kd (N:Nat) (U4 Us:LI) (e0:Kz6):(Int × LI)->((Int × LI)->Bool)->Bool:=λv_ K=>match v_ with
 | (i,out)=>(cond (decide (i<((U4.length:Nat):Int))) (ak N (ke N U4 Us i (λVa VO=>ah .i64 (i+((Us.length:Nat):Int))&&(inR (i+((Us.length:Nat):Int)) VO.length&&(decide ((Int.toNat (i+((Us.length:Nat):Int)))<VO.length)&&(ah .i64 (i+1)&&K ((i+1),(VO.set (Int.toNat (i+((Us.length:Nat):Int))) (IntKind.wrap .u32 Va)))))))) (0,0,out)) (e0 out))
def I2 (N:Nat) (a b:LI) (k0:Kz6):Bool:=
 (ah .i64 (((a.length:Nat):Int)+((b.length:Nat):Int))&&(i7 4 (((a.length:Nat):Int)+((b.length:Nat):Int)) (((a.length:Nat):Int)+((b.length:Nat):Int))&&ak N (kd N a b (λWH=>og N WH (λmr=>decide ((0+mr)<=WH.length)&&k0 (List.take mr (List.drop 0 WH))))) (0,(List.replicate (Int.toNat (((a.length:Nat):Int)+((b.length:Nat):Int))) (0:Int)))))
def pQ (N:Nat):LI->LI->(Kz6)->Bool:=aw N (I2 N)
def ka (N:Nat) (U4 Us:LI) (e0:Kz6):(Int × Int × LI)->((Int × Int × LI)->Bool)->Bool:=λv_ K=>match v_ with
 | (borrow,i,out)=>(cond (decide (i<((U4.length:Nat):Int))) (cond (decide (i<((Us.length:Nat):Int))) (inR i Us.length&&(inR i U4.length&&cond (decide ((IntKind.wrap .u64 (U4.getD i.toNat 0))<(IntKind.wrap .u64 (borrow+(IntKind.wrap .u64 (Us.getD i.toNat 0)))))) (inR i out.length&&(decide (i.toNat<out.length)&&(ah .i64 (i+1)&&K (1,(i+1),(out.set i.toNat (IntKind.wrap .u32 (IntKind.wrap .u64 ((IntKind.wrap .u64 ((IntKind.wrap .u64 (U4.getD i.toNat 0))+4294967296)) - (IntKind.wrap .u64 (borrow+(IntKind.wrap .u64 (Us.getD i.toNat 0)))))))))))) (inR i out.length&&(decide (i.toNat<out.length)&&(ah .i64 (i+1)&&K (0,(i+1),(out.set i.toNat (IntKind.wrap .u32 (IntKind.wrap .u64 ((IntKind.wrap .u64 (U4.getD i.toNat 0)) - (IntKind.wrap .u64 (borrow+(IntKind.wrap .u64 (Us.getD i.toNat 0)))))))))))))) (inR i U4.length&&cond (decide ((IntKind.wrap .u64 (U4.getD i.toNat 0))<borrow)) (inR i out.length&&(decide (i.toNat<out.length)&&(ah .i64 (i+1)&&K (1,(i+1),(out.set i.toNat (IntKind.wrap .u32 (IntKind.wrap .u64 ((IntKind.wrap .u64 ((IntKind.wrap .u64 (U4.getD i.toNat 0))+4294967296)) - borrow)))))))) (inR i out.length&&(decide (i.toNat<out.length)&&(ah .i64 (i+1)&&K (0,(i+1),(out.set i.toNat (IntKind.wrap .u32 (IntKind.wrap .u64 ((IntKind.wrap .u64 (U4.getD i.toNat 0)) - borrow)))))))))) (e0 out))
def qa (N:Nat) (a b:LI) (k0:Kz6):Bool:=
 (i7 4 ((a.length:Nat):Int) ((a.length:Nat):Int)&&ak N (ka N a b (λUN=>og N UN (λmr=>decide ((0+mr)<=UN.length)&&k0 (List.take mr (List.drop 0 UN))))) (0,0,(List.replicate (Int.toNat ((a.length:Nat):Int)) (0:Int))))
def lD (N:Nat):LI->LI->(Kz6)->Bool:=aw N (qa N)
def JD (N:Nat) (a:LI) (u:Int) (b:LI) (v:Int) (k0:Kz6):Bool:=
 (AD N u (λnsr=>pQ N a nsr (λUv=>AD N v (λUz=>pQ N b Uz (λUD=>lD N Uv UD (λUL=>k0 UL))))))
def GW (N:Nat):LI->Int->LI->Int->(Kz6)->Bool:=aw N (JD N)
def rA (N:Nat) (a:LI) (u:Int) (b:LI) (v:Int) (k0:Kz6):Bool:=
 (cond (decide (v<=0)) (ah .i64 (0 - v)&&GW N a (IntKind.wrap .u64 u) b (IntKind.wrap .u64 (0 - v)) (λnsr=>k0 nsr)) (ah .i64 (0 - u)&&GW N b (IntKind.wrap .u64 v) a (IntKind.wrap .u64 (0 - u)) (λUv=>k0 Uv)))
def mj (N:Nat):LI->Int->LI->Int->(Kz6)->Bool:=aw N (rA N)
def yV (N:Nat) (e0:Kz0):(LI × LI)->((LI × LI)->Bool)->Bool:=λv_ K=>match v_ with
 | (Wd,Uw)=>(cond (decide (((Uw.length:Nat):Int)>2)) (IC N false Wd (λUt=>ah .i64 (Ut - 62)&&po N Wd (Ut - 62) (λUx=>po N Uw (Ut - 62) (λUK=>q9 N Ux UK (λUP n5 n6 n7=>cond (n5==0) (oe N Wd Uw (λnsr Uv=>K (Uw,Uv))) (mj N Wd UP Uw n5 (λUz=>mj N Wd n6 Uw n7 (λUD=>K (Uz,UD))))))))) (e0 Wd Uw))
def vK (N:Nat) (e0:Kz6):(LI × LI)->((LI × LI)->Bool)->Bool:=λv_ K=>match v_ with
 | (X6,UH)=>(cond (decide (((UH.length:Nat):Int)>0)) (oe N X6 UH (λUL UI=>K (UH,UI))) (e0 X6))
def F3 (N:Nat) (a b U4 Us:LI) (k0:Kz6):Bool:=
 (ak N (yV N (λWL UA=>ak N (vK N (λXx=>decide ((List.length ([]++Xx))*4<=140737488355328)&&k0 ([]++Xx))) (WL,UA))) (U4,Us))
def Jy (N:Nat) (a b:LI) (k0:Kz6):Bool:=
 (wF N a b (λnr=>cond (decide (nr<0)) (F3 N a b b a k0) (F3 N a b a b k0)))
def DG (N:Nat):LI->LI->(Kz6)->Bool:=aw N (Jy N)
def Hg (N:Nat) (neg:Bool) (a b:LI) (Us Uw:Bool) (U4 UA:LI) (k0:Kx5):Bool:=
 (DF N neg U4 Us Uw (λUS s12 s13=>DK N false UA US s12 Uw s13 (λU9 s14=>k0 US s12 U9 s14)))
def JI (N:Nat) (neg:Bool) (a b:LI) (Us Uw:Bool) (n:Int) (k0:Kx5):Bool:=
 (zF N a n (λUL=>zF N b n (λUI=>sQ5 N false UI (λUx=>ah .i64 Ux&&IC N false UI (λUK=>ah .i64 (UK - 1)&&cond (Ux != (UK - 1)) (DG N UL UI (λs6=>pS N (λs7=>wF N s6 s7 (λUP=>cond (UP != 0) (oe N UL s6 (λs8 s9=>oe N UI s6 (λs10 s11=>Hg N neg a b Us Uw s8 s10 k0))) (Hg N neg a b Us Uw UL UI k0))))) (Hg N neg a b Us Uw UL UI k0))))))
def OJ (N:Nat) (neg:Bool) (a b:LI) (Us Uw:Bool) (k0:Kx5):Bool:=
 (cond (((a.length:Nat):Int)==0) (DF N false [] Us Uw (λcr nsr Uv=>pS N (λUz=>DK N false Uz cr nsr Uw Uv (λUu UD=>k0 cr nsr Uu UD)))) (sQ5 N false a (λnr=>sQ5 N false b (λUt=>cond (decide (Ut<nr)) (JI N neg a b Us Uw Ut k0) (JI N neg a b Us Uw nr k0)))))
def Iy (N:Nat):Bool->LI->LI->Bool->Bool->(Kx5)->Bool:=aw N (OJ N)
def RB (N:Nat) (b Us Uw:Bool) (UA:LI) (k0:Kx5):Bool:=
 (pS N (λnsr=>Iy N Uw UA nsr b Us (λcr Uv Uu Uz=>k0 cr Uv Uu Uz)))
def Nd (N:Nat):Bool->Bool->Bool->LI->(Kx5)->Bool:=RB N
def iM (N:Nat) (n:Int) (b:Bool) (u:Int) (k0:Ky3):Bool:=
 (AD N u (λnsr=>wI N (decide (n<0)) nsr b (λcr Uv=>k0 cr Uv)))
def Jj (N:Nat) (n:Int) (b:Bool) (k0:Ky3):Bool:=
 (cond (decide (n<0)) (iM N n b (IntKind.wrap .u64 (0 - (IntKind.wrap .u64 n))) k0) (iM N n b (IntKind.wrap .u64 n) k0))
def Oj (N:Nat):Int->Bool->(Ky3)->Bool:=aw N (Jj N)
def tX (N:Nat) (n:Int) (k0:Ky3):Bool:=
 (Oj N n false (λcr nsr=>k0 cr nsr))
def l8 (N:Nat):Int->(Ky3)->Bool:=tX N
def RF (N:Nat) (b Us Uw:Bool) (UA:LI) (UH:Bool) (UJ:LI) (k0:Kx5):Bool:=
 (Iy N (Uw != UH) UA UJ b Us (λcr nsr Uu Uv=>k0 cr nsr Uu Uv))
def Sy (N:Nat):Bool->Bool->Bool->LI->Bool->LI->(Kx5)->Bool:=RF N
def Pf (N:Nat) (x:Int) (b:Bool) (Us:LI) (k0:Kx5):Bool:=
 (cond (decide (x>=0)) (Rg N x 0 b Us (Nd N false false b Us (λcr nsr Uu Uv=>k0 cr nsr Uu Uv)) (λUS Uz=>Nd N false false US Uz (λU9 UD VC UL=>k0 U9 UD VC UL))) (l8 N 1 (λWq UI=>ah .i64 (0 - x)&&GO N (IntKind.wrap .u64 (0 - x)) false Wq UI (λWG s6=>Sy N false false b Us WG s6 (λWE s7 c8 s8=>k0 WE s7 c8 s8)))))
def SC (N:Nat):Int->Bool->LI->(Kx5)->Bool:=aw N (Pf N)
def vR (N:Nat) (x:Fl) (k0:Kx5):Bool:=
 (yO N x (λnr cr nsr=>SC N nr cr nsr (λUu Uv US Uz=>k0 Uu Uv US Uz)))
def re (N:Nat):Fl->(Kx5)->Bool:=vR N
def kg (N:Nat) (ZU:LF) (aaL X0 X1 XG XU:Int) (e0:List RY2->Bool):(Int × List RY2)->((Int × List RY2)->Bool)->Bool:=λv_ K=>match v_ with
 | (Y5,b2)=>(cond (decide (Y5<aaL)) (inR Y5 ZU.length&&re N (ZU.getD Y5.toNat none) (λUS Uz U9 UD=>decide ((List.length b2+1)*8<=140737488355328)&&(ah .i64 (Y5+1)&&K ((Y5+1),(b2++[((US,Uz),(U9,UD))]))))) (e0 b2))
def qh (N:Nat) (U_ Uy:Int) (UV:LF) (k0:List RY2->Bool):Bool:=
 (ak N (kg N UV ((UV.length:Nat):Int) 0 0 U_ Uy (λ(VJ:List RY2)=>k0 VJ)) (0,[]))
def rb (N:Nat):Int->Int->LF->(List RY2->Bool)->Bool:=aw N (qh N)
def vS (N:Nat) (U_ Uy:Int) (UV:LF) (k0:List RY2->Bool):Bool:=
 (rb N U_ Uy UV (λ(lr:List RY2)=>k0 lr))
def wL (N:Nat):Int->Int->LF->(List RY2->Bool)->Bool:=vS N
def je (N:Nat) (Yt Ys WX WY UV VU:Int) (e0:List RY2->Bool):(Int × List RY2)->((Int × List RY2)->Bool)->Bool:=λv_ K=>match v_ with
 | (Ve,b2)=>(ah .i64 (Yt*Ys)&&cond (decide (Ve<(Yt*Ys))) (decide ((List.length b2+1)*8<=140737488355328)&&(ah .i64 (Ve+1)&&K ((Ve+1),(b2++[((false,[]),(false,[]))])))) (e0 b2))
def ox (N:Nat) (rows cols:Int) (k0:List RY2->Bool):Bool:=
 (ak N (je N rows cols 0 0 rows cols (λ(VJ:List RY2)=>k0 VJ)) (0,[]))
def pq (N:Nat):Int->Int->(List RY2->Bool)->Bool:=aw N (ox N)
def Ji (N:Nat) (r_0:Bool) (Za:LI) (XG:Bool) (XU:LI) (k0:Kz6):Bool:=
 (cond (((XU.length:Nat):Int)==0) (pS N (λnsr=>k0 nsr)) (k0 XU))
def Lo (N:Nat):Bool->LI->Bool->LI->(Kz6)->Bool:=aw N (Ji N)
def pD (N:Nat) (neg b:Bool) (Us:LI) (Uw:Bool) (UA UH:LI) (k0:Kx9):Bool:=
 (og N UH (λmr=>cond (neg==true) (k0 (decide (((mr:Nat):Int)>0)) 0 mr) (k0 false 0 mr)))
def pU (N:Nat):Bool->Bool->LI->Bool->LI->LI->(Kx9)->Bool:=pD N
def NM (N:Nat) (neg b:Bool) (Us Uw:Nat) (UA:Bool) (UH UJ UU:LI) (k0:Kx9):Bool:=
 (og N UJ (λmr=>cond (neg==true) (k0 (decide (((mr:Nat):Int)>0)) 0 mr) (k0 false 0 mr)))
def Om (N:Nat):Bool->Bool->Nat->Nat->Bool->LI->LI->LI->(Kx9)->Bool:=NM N
def IX (N:Nat) (Vs:Bool) (UQ:LI) (Vg:Bool) (Vt:LI) (b:Bool) (Us:LI) (Uw:Bool) (UA:LI) (k0:Kx5):Bool:=
 (decide ((List.length ([]++UQ))*4<=140737488355328)&&Lo N Vs UQ Vg Vt (λnsr=>decide ((List.length ([]++nsr))*4<=140737488355328)&&pU N Vs b Us Uw UA ([]++UQ) (λcr mr VH=>Om N false cr mr VH Uw UA ([]++nsr) ([]++UQ) (λUu U2 XE=>decide ((mr+VH)<=(List.length ([]++UQ)))&&(decide ((U2+XE)<=(List.length ([]++nsr)))&&k0 cr (List.take VH (List.drop mr ([]++UQ))) Uu (List.take XE (List.drop U2 ([]++nsr))))))))
def Lk (N:Nat):Bool->LI->Bool->LI->Bool->LI->Bool->LI->(Kx5)->Bool:=aw N (IX N)
def BU (N:Nat) (t12 m VU:Int) (Xs:List RY3) (t2 WP t VG:Int) (e0:List RY2->Bool):(Int × List RY2)->((Int × List RY2)->Bool)->Bool:=λv_ K=>match v_ with
 | (t13,b3)=>(cond (decide (t13<t12)) (inR t13 b3.length&&(decide (t13.toNat<b3.length)&&(inR t13 Xs.length&&Lk N (Xs.getD t13.toNat ((false,[]),(false,[]))).1.1 (Xs.getD t13.toNat ((false,[]),(false,[]))).1.2 (Xs.getD t13.toNat ((false,[]),(false,[]))).2.1 (Xs.getD t13.toNat ((false,[]),(false,[]))).2.2 (b3.getD t13.toNat ((false,[]),(false,[]))).1.1 (b3.getD t13.toNat ((false,[]),(false,[]))).1.2 (b3.getD t13.toNat ((false,[]),(false,[]))).2.1 (b3.getD t13.toNat ((false,[]),(false,[]))).2.2 (λcr nsr Uu Uv=>ah .i64 (t13+1)&&K ((t13+1),(b3.set t13.toNat ((cr,nsr),(Uu,Uv)))))))) (e0 b3))
def IW (N:Nat) (U_ Uy:Int) (UV:List RY3) (k0:List RY2->Bool):Bool:=
 (pq N U_ Uy (λ(lr:List RY2)=>ak N (BU N ((UV.length:Nat):Int) U_ Uy UV 0 0 U_ Uy (λ(b2:List RY2)=>k0 b2)) (0,lr)))
def Lj (N:Nat):Int->Int->List RY3->(List RY2->Bool)->Bool:=aw N (IW N)
def RD (N:Nat) (U_ Uy i j:Int) (b:List RY2) (k0:Kz3):Bool:=
 (ah .i64 (i*Uy)&&(ah .i64 ((i*Uy)+j)&&(inR ((i*Uy)+j) b.length&&(decide ((Int.toNat ((i*Uy)+j))<b.length)&&k0 (Int.toNat ((i*Uy)+j))))))
def DI (N:Nat):Int->Int->Int->Int->List RY2->(Kz3)->Bool:=RD N
def uX (N:Nat) (z_0:Bool) (V7:LI) (z_2:Bool) (z_3:LI) (k0:Kz2):Bool:=
 (cond (((V7.length:Nat):Int)==0) (k0 0) (cond z_0 (k0 (-1)) (k0 1)))
def AE (N:Nat):Bool->LI->Bool->LI->(Kz2)->Bool:=aw N (uX N)
def NI (N:Nat) (r_0:Bool) (Za:LI) (XG:Bool) (XU:LI) (k0:Kz2):Bool:=
 (AE N r_0 Za XG XU (λnr=>k0 nr))
def DE (N:Nat):Bool->LI->Bool->LI->(Kz2)->Bool:=NI N
def OB (N:Nat) (b:Bool) (Us:LI) (Uw:Bool) (UA:LI) (k0:Kz6):Bool:=
 (cond (((UA.length:Nat):Int)==0) (pS N (λnsr=>k0 nsr)) (k0 UA))
def zB (N:Nat):Bool->LI->Bool->LI->(Kz6)->Bool:=aw N (OB N)
def OG (N:Nat) (b Us Uw:Bool) (UA:LI) (UH:Bool) (UJ:LI) (UU:Bool) (UY:LI) (U6:Bool) (Vb:LI) (k0:Kx5):Bool:=
 (zB N UU UY U6 Vb (λnsr=>pQ N UA nsr (λUv=>zB N Uw UA UH UJ (λUz=>pQ N Uz UY (λUD=>Iy N (Uw != UU) Uv UD b Us (λcr UL Uu UI=>k0 cr UL Uu UI))))))
def Q5 (N:Nat):Bool->Bool->Bool->LI->Bool->LI->Bool->LI->Bool->LI->(Kx5)->Bool:=aw N (OG N)
def OE (N:Nat) (b Us Uw:Bool) (UA:LI) (UH:Bool) (UJ:LI) (UU:Bool) (UY:LI) (U6:Bool) (Vb:LI) (k0:Kx5):Bool:=
 (pQ N UA UY (λnsr=>zB N Uw UA UH UJ (λUv=>zB N UU UY U6 Vb (λUz=>pQ N Uv Uz (λUD=>Iy N (Uw != UU) nsr UD b Us (λcr UL Uu UI=>k0 cr UL Uu UI))))))
def Q4 (N:Nat):Bool->Bool->Bool->LI->Bool->LI->Bool->LI->Bool->LI->(Kx5)->Bool:=aw N (OE N)
def Pe (N:Nat) (b:Bool) (Us:LI) (Uw:Bool) (UA:LI) (UH:Bool) (UJ:LI) (UU:Bool) (UY:LI) (k0:Kz0):Bool:=
 (zB N UH UJ UU UY (λnsr=>pQ N Us nsr (λUv=>zB N b Us Uw UA (λUz=>pQ N UJ Uz (λUD=>k0 Uv UD)))))
def SB (N:Nat):Bool->LI->Bool->LI->Bool->LI->Bool->LI->(Kz0)->Bool:=aw N (Pe N)
def gf (N:Nat) (U4 Us:LI) (e0:Ky8):(Int × Int × LI)->((Int × Int × LI)->Bool)->Bool:=λv_ K=>match v_ with
 | (carry,i,out)=>(cond (decide (i<((U4.length:Nat):Int))) (inR i U4.length&&cond (decide (i<((Us.length:Nat):Int))) (inR i Us.length&&(inR i out.length&&(decide (i.toNat<out.length)&&(ah .i64 (i+1)&&K ((Int.fdiv (IntKind.wrap .u64 ((IntKind.wrap .u64 ((IntKind.wrap .u64 (U4.getD i.toNat 0))+carry))+(IntKind.wrap .u64 (Us.getD i.toNat 0)))) (2 ^ 32)),(i+1),(out.set i.toNat (IntKind.wrap .u32 (IntKind.wrap .u64 ((IntKind.wrap .u64 ((IntKind.wrap .u64 (U4.getD i.toNat 0))+carry))+(IntKind.wrap .u64 (Us.getD i.toNat 0))))))))))) (inR i out.length&&(decide (i.toNat<out.length)&&(ah .i64 (i+1)&&K ((Int.fdiv (IntKind.wrap .u64 ((IntKind.wrap .u64 (U4.getD i.toNat 0))+carry)) (2 ^ 32)),(i+1),(out.set i.toNat (IntKind.wrap .u32 (IntKind.wrap .u64 ((IntKind.wrap .u64 (U4.getD i.toNat 0))+carry))))))))) (e0 carry out))
def sT (N:Nat) (a b:LI) (k0:Kz6):Bool:=
 (cond (decide (((a.length:Nat):Int)<((b.length:Nat):Int))) (ah .i64 (((b.length:Nat):Int)+1)&&(i7 4 (((b.length:Nat):Int)+1) (((b.length:Nat):Int)+1)&&ak N (gf N b a (λVa UN=>inR ((b.length:Nat):Int) UN.length&&(decide ((Int.toNat ((b.length:Nat):Int))<UN.length)&&og N (UN.set (Int.toNat ((b.length:Nat):Int)) (IntKind.wrap .u32 Va)) (λmr=>decide ((0+mr)<=(List.length (UN.set (Int.toNat ((b.length:Nat):Int)) (IntKind.wrap .u32 Va))))&&k0 (List.take mr (List.drop 0 (UN.set (Int.toNat ((b.length:Nat):Int)) (IntKind.wrap .u32 Va)))))))) (0,0,(List.replicate (Int.toNat (((b.length:Nat):Int)+1)) (0:Int))))) (ah .i64 (((a.length:Nat):Int)+1)&&(i7 4 (((a.length:Nat):Int)+1) (((a.length:Nat):Int)+1)&&ak N (gf N a b (λV5 VO=>inR ((a.length:Nat):Int) VO.length&&(decide ((Int.toNat ((a.length:Nat):Int))<VO.length)&&og N (VO.set (Int.toNat ((a.length:Nat):Int)) (IntKind.wrap .u32 V5)) (λVH=>decide ((0+VH)<=(List.length (VO.set (Int.toNat ((a.length:Nat):Int)) (IntKind.wrap .u32 V5))))&&k0 (List.take VH (List.drop 0 (VO.set (Int.toNat ((a.length:Nat):Int)) (IntKind.wrap .u32 V5)))))))) (0,0,(List.replicate (Int.toNat (((a.length:Nat):Int)+1)) (0:Int))))))
def tL (N:Nat):LI->LI->(Kz6)->Bool:=aw N (sT N)
def IZ (N:Nat) (turn b Us:Bool) (Uw:LI) (UA:Bool) (UH:LI) (k0:Ky3):Bool:=
 (cond (Us==(UA != turn)) (tL N Uw UH (λnsr=>wI N (UA != turn) nsr b (λcr Uv=>k0 cr Uv))) (wF N Uw UH (λnr=>cond (decide (nr>=0)) (lD N Uw UH (λUz=>wI N Us Uz b (λUu UD=>k0 Uu UD))) (lD N UH Uw (λUL=>wI N (UA != turn) UL b (λUS UI=>k0 US UI))))))
def Ll (N:Nat):Bool->Bool->Bool->LI->Bool->LI->(Ky3)->Bool:=aw N (IZ N)
def NE (N:Nat) (b Us:Bool) (Uw:LI) (UA:Bool) (UH:LI) (k0:Ky3):Bool:=
 (Ll N true b Us Uw UA UH (λcr nsr=>k0 cr nsr))
def Lm (N:Nat):Bool->Bool->LI->Bool->LI->(Ky3)->Bool:=NE N
def I7 (N:Nat) (neg:Bool) (m:LI) (b:Bool) (Us:LI) (Uw:Bool) (UA:LI) (k0:Ky3):Bool:=
 (kJ N m (λnsr=>cond (neg==true) (k0 (decide (((nsr.length:Nat):Int)>0)) nsr) (k0 false nsr)))
def DB (N:Nat):Bool->LI->Bool->LI->Bool->LI->(Ky3)->Bool:=I7 N
def Hh (N:Nat) (neg:Bool) (a b:LI) (Us:Bool) (Uw:LI) (UA:Bool) (UH U4 UJ:LI) (k0:Kx5):Bool:=
 (DB N neg U4 Us Uw UA UH (λUS s11=>DK N false UJ US s11 UA UH (λU9 s12=>k0 US s11 U9 s12)))
def JJ (N:Nat) (neg:Bool) (a b:LI) (Us:Bool) (Uw:LI) (UA:Bool) (UH:LI) (n:Int) (k0:Kx5):Bool:=
 (zF N a n (λUD=>zF N b n (λUL=>sQ5 N false UL (λUx=>ah .i64 Ux&&IC N false UL (λUK=>ah .i64 (UK - 1)&&cond (Ux != (UK - 1)) (DG N UD UL (λUI=>pS N (λs6=>wF N UI s6 (λUP=>cond (UP != 0) (oe N UD UI (λs7 s8=>oe N UL UI (λs9 s10=>Hh N neg a b Us Uw UA UH s7 s9 k0))) (Hh N neg a b Us Uw UA UH UD UL k0))))) (Hh N neg a b Us Uw UA UH UD UL k0))))))
def O8 (N:Nat) (neg:Bool) (a b:LI) (Us:Bool) (Uw:LI) (UA:Bool) (UH:LI) (k0:Kx5):Bool:=
 (cond (((a.length:Nat):Int)==0) (DB N false [] Us Uw UA UH (λcr nsr=>pS N (λUv=>DK N false Uv cr nsr UA UH (λUu Uz=>k0 cr nsr Uu Uz)))) (sQ5 N false a (λnr=>sQ5 N false b (λUt=>cond (decide (Ut<nr)) (JJ N neg a b Us Uw UA UH Ut k0) (JJ N neg a b Us Uw UA UH nr k0)))))
def Rh (N:Nat):Bool->LI->LI->Bool->LI->Bool->LI->(Kx5)->Bool:=aw N (O8 N)
def OL (N:Nat) (b:Bool) (Us:LI) (Uw:Bool) (UA:LI) (UH:Bool) (UJ:LI) (UU:Bool) (UY:LI) (k0:Kx5):Bool:=
 (SB N b Us Uw UA UH UJ UU UY (λnsr Uv=>zB N b Us Uw UA (λUz=>zB N UH UJ UU UY (λUD=>pQ N Uz UD (λUL=>Lm N false b nsr UH Uv (λcr UI=>Rh N cr UI UL b Us Uw UA (λUu s6 US s7=>k0 Uu s6 US s7)))))))
def Q6 (N:Nat):Bool->LI->Bool->LI->Bool->LI->Bool->LI->(Kx5)->Bool:=aw N (OL N)
def BP (N:Nat) (Ve VK:Int) (r:Bool) (Za:LI) (XG:Bool) (XU:LI) (m UV:Int) (e0:List RY2->Bool):(Int × List RY2)->((Int × List RY2)->Bool)->Bool:=λv_ K=>match v_ with
 | (j,b0)=>(cond (decide (j<UV)) (DI N m UV Ve j b0 (λmr=>DI N m UV Ve j b0 (λVH=>DI N m UV VK j b0 (λU2=>Q4 N false false r Za XG XU (b0.getD U2 ((false,[]),(false,[]))).1.1 (b0.getD U2 ((false,[]),(false,[]))).1.2 (b0.getD U2 ((false,[]),(false,[]))).2.1 (b0.getD U2 ((false,[]),(false,[]))).2.2 (λcr nsr Uu Uv=>decide (VH=mr)&&Q6 N (List.getD (b0.set U2 (((b0.getD U2 ((false,[]),(false,[]))).1.1,(b0.getD U2 ((false,[]),(false,[]))).1.2),((b0.getD U2 ((false,[]),(false,[]))).2.1,(b0.getD U2 ((false,[]),(false,[]))).2.2))) mr ((false,[]),(false,[]))).1.1 (List.getD (b0.set U2 (((b0.getD U2 ((false,[]),(false,[]))).1.1,(b0.getD U2 ((false,[]),(false,[]))).1.2),((b0.getD U2 ((false,[]),(false,[]))).2.1,(b0.getD U2 ((false,[]),(false,[]))).2.2))) mr ((false,[]),(false,[]))).1.2 (List.getD (b0.set U2 (((b0.getD U2 ((false,[]),(false,[]))).1.1,(b0.getD U2 ((false,[]),(false,[]))).1.2),((b0.getD U2 ((false,[]),(false,[]))).2.1,(b0.getD U2 ((false,[]),(false,[]))).2.2))) mr ((false,[]),(false,[]))).2.1 (List.getD (b0.set U2 (((b0.getD U2 ((false,[]),(false,[]))).1.1,(b0.getD U2 ((false,[]),(false,[]))).1.2),((b0.getD U2 ((false,[]),(false,[]))).2.1,(b0.getD U2 ((false,[]),(false,[]))).2.2))) mr ((false,[]),(false,[]))).2.2 cr nsr Uu Uv (λUS Uz U9 UD=>ah .i64 (j+1)&&K ((j+1),(List.set (b0.set U2 (((b0.getD U2 ((false,[]),(false,[]))).1.1,(b0.getD U2 ((false,[]),(false,[]))).1.2),((b0.getD U2 ((false,[]),(false,[]))).2.1,(b0.getD U2 ((false,[]),(false,[]))).2.2))) mr ((US,Uz),(U9,UD)))))))))) (e0 b0))
def OU (N:Nat) (U_ Uy i k_:Int) (b:List RY2) (Us:Bool) (Uw:LI) (UA:Bool) (UH:LI) (k0:List RY2->Bool):Bool:=
 (ak N (BP N i k_ Us Uw UA UH U_ Uy (λ(WT:List RY2)=>k0 WT)) (0,b))
def Q_ (N:Nat):Int->Int->Int->Int->List RY2->Bool->LI->Bool->LI->(List RY2->Bool)->Bool:=aw N (OU N)
def y_ (N:Nat) (c_1 Wd WL:Int) (WD:List RY2) (e0:Kz2) (e1:Bool):(Int)->((Int)->Bool)->Bool:=λv_ K=>match v_ with
 | j=>(cond (decide (j<WL)) (DI N Wd WL c_1 j WD (λVH=>DE N (WD.getD VH ((false,[]),(false,[]))).1.1 (WD.getD VH ((false,[]),(false,[]))).1.2 (WD.getD VH ((false,[]),(false,[]))).2.1 (WD.getD VH ((false,[]),(false,[]))).2.2 (λUx=>cond (Ux != 0) (e0 1) (ah .i64 (j+1)&&K (j+1))))) e1)
def yX (N:Nat) (Zg c_2:Int) (d:Nat) (X6 Xx:Int) (e0:List RY2->Bool):(Int × List RY2)->((Int × List RY2)->Bool)->Bool:=λv_ K=>match v_ with
 | (i,VE)=>(cond (decide (i<X6)) (DI N X6 Xx i c_2 VE (λU2=>((!decide (d=U2))&&true)&&Q5 N false false (VE.getD U2 ((false,[]),(false,[]))).1.1 (VE.getD U2 ((false,[]),(false,[]))).1.2 (VE.getD U2 ((false,[]),(false,[]))).2.1 (VE.getD U2 ((false,[]),(false,[]))).2.2 (VE.getD d ((false,[]),(false,[]))).1.1 (VE.getD d ((false,[]),(false,[]))).1.2 (VE.getD d ((false,[]),(false,[]))).2.1 (VE.getD d ((false,[]),(false,[]))).2.2 (λcr nsr Uu Uv=>Q_ N X6 Xx i c_2 (List.set (VE.set d (((VE.getD d ((false,[]),(false,[]))).1.1,(VE.getD d ((false,[]),(false,[]))).1.2),((VE.getD d ((false,[]),(false,[]))).2.1,(VE.getD d ((false,[]),(false,[]))).2.2))) U2 (((VE.getD U2 ((false,[]),(false,[]))).1.1,(VE.getD U2 ((false,[]),(false,[]))).1.2),((VE.getD U2 ((false,[]),(false,[]))).2.1,(VE.getD U2 ((false,[]),(false,[]))).2.2))) cr nsr Uu Uv (λ(acD:List RY2)=>ah .i64 (i+1)&&K ((i+1),acD))))) (e0 VE))
def yZ (N:Nat) (a U4:Int) (e0:Kz2) (e1:Kz2):(Int × Int × List RY2)->((Int × Int × List RY2)->Bool)->Bool:=λv_ K=>match v_ with
 | (sign,c,b1)=>(cond (decide (c<a)) (DI N a U4 c c b1 (λmr=>DE N (b1.getD mr ((false,[]),(false,[]))).1.1 (b1.getD mr ((false,[]),(false,[]))).1.2 (b1.getD mr ((false,[]),(false,[]))).2.1 (b1.getD mr ((false,[]),(false,[]))).2.2 (λnr=>cond (decide (nr<0)) (e0 1) (DE N (b1.getD mr ((false,[]),(false,[]))).1.1 (b1.getD mr ((false,[]),(false,[]))).1.2 (b1.getD mr ((false,[]),(false,[]))).2.1 (b1.getD mr ((false,[]),(false,[]))).2.2 (λUt=>cond (Ut==0) (ah .i64 (c+1)&&ak N (y_ N c a U4 b1 (λt2=>e0 t2) (ah .i64 (c+1)&&K (2,(c+1),b1))) (c+1)) (ah .i64 (c+1)&&ak N (yX N sign c mr a U4 (λ(VT:List RY2)=>ah .i64 (c+1)&&K (sign,(c+1),VT))) ((c+1),b1))))))) (e1 sign))
def Jp (N:Nat) (U_ Uy:Int) (UV:List RY3) (k0:Kz2):Bool:=
 (Lj N U_ Uy UV (λ(lr:List RY2)=>ak N (yZ N U_ Uy (λWP=>k0 WP) (λabK=>k0 abK)) (3,0,lr)))
def Ol (N:Nat):Int->Int->List RY3->(Kz2)->Bool:=aw N (Jp N)
def NK (N:Nat) (U_ Uy:Int) (UV:LF) (k0:Kz1):Bool:=
 (wL N U_ Uy UV (λ(lr:List RY2)=>Ol N U_ Uy lr (λnr=>k0 (nr==3))))
def GT (N:Nat):Int->Int->LF->(Kz1)->Bool:=NK N
def qk (N:Nat) (Vf:LF) (UR UX:Int) (UZ:LF) (k0:Kz2):Bool:=
 (wM N Vf UR UX UZ (λnr=>cond (nr != 0) (k0 nr) (GT N UR UX UZ (λcr=>cond (!cr) (k0 151) (k0 0)))))
def nt (N:Nat):LF->Int->Int->LF->(Kz2)->Bool:=aw N (qk N)
def uU (N:Nat) (n:Int) (h:LF) (r:Fl) (k0:Kz2):Bool:=
 (cond (((h.length:Nat):Int) != n) (k0 3) (DA N h (λcr=>cond ((!cr)==false) (AC N r (λUu=>cond (!Uu) (k0 4) (cond (!(fgt r (some 0))) (k0 152) (k0 0)))) (k0 4))))
def sk (N:Nat):Int->LF->Fl->(Kz2)->Bool:=aw N (uU N)
def uT (N:Nat) (U_ Uy:Int) (UV:LF) (i:Int) (k0:Kz5):Bool:=
 (ah .i64 (i*Uy)&&(ah .i64 (i+1)&&(ah .i64 ((i+1)*Uy)&&(decide (0<=(i*Uy)/\(i*Uy)<=((i+1)*Uy)/\((i+1)*Uy)<=((UV.length:Nat):Int))&&k0 (List.drop (Int.toNat (i*Uy)) (List.take (Int.toNat ((i+1)*Uy)) UV))))))
def sj (N:Nat):Int->Int->LF->Int->(Kz5)->Bool:=aw N (uT N)
def OP (N:Nat) (x:Fl) (b:Bool) (k0:Kz1):Bool:=
 (cond (b==false) (AC N x (λcr=>k0 (!cr))) (k0 true))
def jD (N:Nat):Fl->Bool->(Kz1)->Bool:=aw N (OP N)
def kh (N:Nat) (U4 Uw:LF) (t10:Int) (e0:Ky5):(Fl × Int × Bool)->((Fl × Int × Bool)->Bool)->Bool:=λv_ K=>match v_ with
 | (t,t11,s)=>(cond (decide (t11<t10)) (inR t11 U4.length&&(inR t11 Uw.length&&jD N (bc (U4.getD t11.toNat none) (Uw.getD t11.toNat none)) s (λcr=>jD N (dR t (bc (U4.getD t11.toNat none) (Uw.getD t11.toNat none))) cr (λUu=>ah .i64 (t11+1)&&K ((dR t (bc (U4.getD t11.toNat none) (Uw.getD t11.toNat none))),(t11+1),Uu))))) (e0 t s))
def qo (N:Nat) (a b:LF) (Us:Bool) (k0:Ky5):Bool:=
 (ak N (kh N a b ((a.length:Nat):Int) (λVG b0=>k0 VG b0)) ((some 0),0,Us))
def nu (N:Nat):LF->LF->Bool->(Ky5)->Bool:=aw N (qo N)
def iA (N:Nat) (U4:LF) (t10:Int) (Uw:LF) (e0:Ky5):(Fl × Int × Bool)->((Fl × Int × Bool)->Bool)->Bool:=λv_ K=>match v_ with
 | (t,t11,s)=>(cond (decide (t11<t10)) (inR t11 U4.length&&(inR t11 Uw.length&&(decide (t11.toNat<Uw.length)&&jD N (bc (U4.getD t11.toNat none) (Uw.getD t11.toNat none)) s (λcr=>jD N (dR t (bc (U4.getD t11.toNat none) (Uw.getD t11.toNat none))) cr (λUu=>ah .i64 (t11+1)&&K ((dR t (bc (U4.getD t11.toNat none) (Uw.getD t11.toNat none))),(t11+1),Uu)))))) (e0 t s))
def Jx (N:Nat) (a:LF) (b:Bool) (Us:LF) (k0:Ky5):Bool:=
 (ak N (iA N a ((a.length:Nat):Int) Us (λVG b0=>k0 VG b0)) ((some 0),0,b))
def GU (N:Nat):LF->Bool->LF->(Ky5)->Bool:=aw N (Jx N)
def BW (N:Nat) (WW:LF) (XG:Fl) (Wb:Int) (t_7:LF) (t_8 t_9:Int) (Yb:LF) (e0:Ky6):(Int × Bool × LF)->((Int × Bool × LF)->Bool)->Bool:=λv_ K=>match v_ with
 | (VZ,UR,v)=>(cond (decide (VZ<Wb)) (sj N t_8 t_9 Yb VZ (λUB=>nu N UB WW UR (λUC Uu=>decide ((List.length (v++[UC]))*8<=140737488355328)&&(ah .i64 (VZ+1)&&K ((VZ+1),Uu,(v++[UC])))))) (e0 UR v))
def I8 (N:Nat) (WS:LF) (VG Wk:Int) (Wl h:LF) (r:Fl) (b:Bool) (k0:Fl->Fl->Bool->LF->Bool):Bool:=
 (ak N (BW N h r ((WS.length:Nat):Int) WS VG Wk Wl (λUX VI=>nu N h WS UX (λUM US=>GU N h US VI (λVp U9=>jD N (dR Vp r) U9 (λVC=>k0 UM (dR Vp r) VC VI))))) (0,b,[]))
def GN (N:Nat):LF->Int->Int->LF->LF->Fl->Bool->(Fl->Fl->Bool->LF->Bool)->Bool:=aw N (I8 N)
def Ju (N:Nat) (WS:LF) (VG Wk:Int) (Wl h:LF) (r:Fl) (k0:Ky1):Bool:=
 (nt N WS VG Wk Wl (λnr=>cond (nr != 0) (k0 (some 0) (some 0) nr) (sk N ((WS.length:Nat):Int) h r (λUt=>cond (Ut != 0) (k0 (some 0) (some 0) Ut) (GN N WS VG Wk Wl h r false (λxr UC cr xsr=>cond cr (k0 (some 0) (some 0) 5) (cond (!(fgt UC (some 0))) (k0 (some 0) (some 0) 153) (k0 xr UC 0))))))))
def GS (N:Nat):LF->Int->Int->LF->LF->Fl->(Ky1)->Bool:=aw N (Ju N)
def Rz (N:Nat) (a b:Fl) (k0:Kz1):Bool:=
 (wH N a (λnr=>wH N b (λUt=>k0 (nr==Ut))))
def zC (N:Nat):Fl->Fl->(Kz1)->Bool:=Rz N
def GQ7 (N:Nat) (x:Fl) (b:Bool) (Us:LF) (Uw UA:Int) (UH UJ:LF) (UU UY U6:Fl) (Vb UF:LF) (k0:Kz1):Bool:=
 (cond ((!feq x x)==false) (jB N x 0 (λcr=>cond cr (k0 true) (k0 b))) (k0 true))
def sQ7 (N:Nat):Fl->Bool->LF->Int->Int->LF->LF->Fl->Fl->Fl->LF->LF->(Kz1)->Bool:=aw N (GQ7 N)
def GQ8 (N:Nat) (a b:Fl) (Us:Bool) (Uw:LF) (UA UH:Int) (UJ UU:LF) (UY U6 Vb:Fl) (UF U7:LF) (k0:Ky5):Bool:=
 (sQ7 N (bc a b) Us Uw UA UH UJ UU UY U6 Vb UF U7 (λcr=>k0 (bc a b) cr))
def sQ8 (N:Nat):Fl->Fl->Bool->LF->Int->Int->LF->LF->Fl->Fl->Fl->LF->LF->(Ky5)->Bool:=aw N (GQ8 N)
def gp (N:Nat) (b:Bool) (Us:LF) (Uw UA:Int) (UH UJ:LF) (UU UY U6:Fl) (Vb UF:LF) (k0:Bool):Bool:=
 k0
def gG (N:Nat):Bool->LF->Int->Int->LF->LF->Fl->Fl->Fl->LF->LF->(Bool)->Bool:=gp N
def mo (N:Nat) (U_ Uy i:Int) (b:LF) (k0:Ky7):Bool:=
 (ah .i64 (i*Uy)&&(ah .i64 (i+1)&&(ah .i64 ((i+1)*Uy)&&(decide (0<=(i*Uy)/\(i*Uy)<=((i+1)*Uy)/\((i+1)*Uy)<=((b.length:Nat):Int))&&k0 (Int.toNat (i*Uy)) ((Int.toNat ((i+1)*Uy)) - (Int.toNat (i*Uy)))))))
def ij (N:Nat):Int->Int->Int->LF->(Ky7)->Bool:=aw N (mo N)
def jc (N:Nat) (Vu t11 m VU:Int) (Xs:LF) (e0:Kz5):(Int × LF)->((Int × LF)->Bool)->Bool:=λv_ K=>match v_ with
 | (t12,out)=>(cond (decide (t12<t11)) (ah .i64 (t12*VU)&&(ah .i64 ((t12*VU)+Vu)&&(inR ((t12*VU)+Vu) Xs.length&&(inR t12 out.length&&(decide (t12.toNat<out.length)&&(ah .i64 (t12+1)&&K ((t12+1),(out.set t12.toNat (Xs.getD (Int.toNat ((t12*VU)+Vu)) none))))))))) (e0 out))
def ov (N:Nat) (U_ Uy:Int) (UV:LF) (j:Int) (k0:Kz5):Bool:=
 (i7 8 U_ U_&&ak N (jc N j (((List.length (List.replicate U_.toNat (some 0))):Nat):Int) U_ Uy UV (λUN=>k0 UN)) (0,(List.replicate U_.toNat (some 0))))
def pm (N:Nat):Int->Int->LF->Int->(Kz5)->Bool:=aw N (ov N)
def BO (N t10 VY:Nat) (t11:Int) (UR:LF) (UX UZ:Int) (Wv Wx:LF) (WO Wa Wn:Fl) (Vv VN b3 b4:LF) (e0:Ky5):(Fl × Int × Bool)->((Fl × Int × Bool)->Bool)->Bool:=λv_ K=>match v_ with
 | (t,t12,s)=>(cond (decide (t12<t11)) (inR t12 VY&&(decide ((t10+t12.toNat)<Vv.length)&&(inR t12 VN.length&&(decide (t12.toNat<VN.length)&&sQ8 N (Vv.getD (t10+t12.toNat) none) (VN.getD t12.toNat none) s UR UX UZ Wv Wx WO Wa Wn b3 b4 (λxr cr=>sQ7 N (dR t xr) cr UR UX UZ Wv Wx WO Wa Wn b3 b4 (λUu=>ah .i64 (t12+1)&&K ((dR t xr),(t12+1),Uu))))))) (e0 t s))
def OT (N WK U4:Nat) (b:Bool) (Us:LF) (Uw UA:Int) (UH UJ:LF) (UU UY U6:Fl) (Vb UF U7 VF:LF) (k0:Ky5):Bool:=
 (ak N (BO N WK U4 ((U4:Nat):Int) Us Uw UA UH UJ UU UY U6 Vb UF U7 VF (λVG b0=>k0 VG b0)) ((some 0),0,b))
def Q9 (N:Nat):Nat->Nat->Bool->LF->Int->Int->LF->LF->Fl->Fl->Fl->LF->LF->LF->LF->(Ky5)->Bool:=aw N (OT N)
def bI (N:Nat) (Ve aaM XZ Wr:Int) (W_:LF) (Xa Xb:Int) (Xc Xd:LF) (Xe Xf Xg:Fl) (VT Vz XS:LF) (Xx Yh aa9 aa_:Int) (aba:LF) (abR abS aaD aaE:Int) (e0:Ky6):(Int × Bool × LF)->((Int × Bool × LF)->Bool)->Bool:=λv_ K=>match v_ with
 | (Wc,Y3,b8)=>(cond (decide (Wc<Wr)) (ij N Xx Yh Ve VT (λU2 XE=>pm N aa9 aa_ aba Wc (λUB=>Q9 N U2 XE Y3 W_ Xa Xb Xc Xd Xe Xf Xg VT UB Vz XS (λUC Uu=>decide ((List.length (b8++[UC]))*8<=140737488355328)&&(ah .i64 (Wc+1)&&K ((Wc+1),Uu,(b8++[UC]))))))) (e0 Y3 b8))
def bH (N:Nat) (ZV:Int) (Xh:LF) (Xi Xj:Int) (Xk Xl:LF) (Xm Xn Xo:Fl) (Ww V3 Yn:LF) (YE a_8 abC abb:Int) (abD:LF) (abl abm ZR ZS:Int) (e0:Ky6):(Int × Bool × LF)->((Int × Bool × LF)->Bool)->Bool:=λv_ K=>match v_ with
 | (WR,Y4,X7)=>(cond (decide (WR<ZV)) (ak N (bI N WR ZV WR abb Xh Xi Xj Xk Xl Xm Xn Xo Ww V3 Yn YE a_8 abC abb abD abl abm ZR ZS (λaaF abB=>ah .i64 (WR+1)&&K ((WR+1),aaF,abB))) (0,Y4,X7)) (e0 Y4 X7))
def db (N:Nat) (WK U4 XT Us:Int) (Uw:LF) (b:Bool) (UA:LF) (UH UJ:Int) (UU UY:LF) (U6 Vb UF:Fl) (U7 VF VN:LF) (k0:Ky6):Bool:=
 (ak N (bH N WK UA UH UJ UU UY U6 Vb UF U7 VF VN WK U4 XT Us Uw 0 0 WK Us (λb0 b6=>k0 b0 b6)) (0,b,[]))
def dj (N:Nat):Int->Int->Int->Int->LF->Bool->LF->Int->Int->LF->LF->Fl->Fl->Fl->LF->LF->LF->(Ky6)->Bool:=aw N (db N)
def BN (N WV WM t10 VY:Nat) (t11:Int) (UR:LF) (UX UZ:Int) (Wv Wx:LF) (WO Wa Wn:Fl) (Vv V4 b3 b4:LF) (e0:Ky5):(Fl × Int × Bool)->((Fl × Int × Bool)->Bool)->Bool:=λv_ K=>match v_ with
 | (t,t12,s)=>(cond (decide (t12<t11)) (inR t12 VY&&(decide ((t10+t12.toNat)<Vv.length)&&(inR t12 WM&&(decide ((WV+t12.toNat)<V4.length)&&sQ8 N (Vv.getD (t10+t12.toNat) none) (V4.getD (WV+t12.toNat) none) s UR UX UZ Wv Wx WO Wa Wn b3 b4 (λxr cr=>sQ7 N (dR t xr) cr UR UX UZ Wv Wx WO Wa Wn b3 b4 (λUu=>ah .i64 (t12+1)&&K ((dR t xr),(t12+1),Uu))))))) (e0 t s))
def OR (N WK U4 XT Us:Nat) (b:Bool) (Uw:LF) (UA UH:Int) (UJ UU:LF) (UY U6 Vb:Fl) (UF U7 VF VN:LF) (k0:Ky5):Bool:=
 (ak N (BN N XT Us WK U4 ((U4:Nat):Int) Uw UA UH UJ UU UY U6 Vb UF U7 VF VN (λVG b0=>k0 VG b0)) ((some 0),0,b))
def Q8 (N:Nat):Nat->Nat->Nat->Nat->Bool->LF->Int->Int->LF->LF->Fl->Fl->Fl->LF->LF->LF->LF->(Ky5)->Bool:=aw N (OR N)
def bt (N:Nat) (i j b Us Uw UA:Int) (UH:Bool) (UJ:LF) (UU UY:Int) (U6 Vb:LF) (UF U7 VF:Fl) (VN WV WM V4:LF) (k0:Ky5):Bool:=
 (ij N b Us i VN (λmr VH=>ij N Uw UA j WV (λU2 XE=>Q8 N mr VH U2 XE UH UJ UU UY U6 Vb UF U7 VF VN WV WM V4 (λxr cr=>inR i V4.length&&(decide (i.toNat<V4.length)&&sQ8 N (V4.getD i.toNat none) UF cr UJ UU UY U6 Vb UF U7 VF WM V4 (λUC Uu=>inR j V4.length&&(decide (j.toNat<V4.length)&&sQ8 N UC (V4.getD j.toNat none) Uu UJ UU UY U6 Vb UF U7 VF WM V4 (λUM US=>sQ7 N (dR xr UM) US UJ UU UY U6 Vb UF U7 VF WM V4 (λU9=>k0 (dR xr UM) U9)))))))))
def bu (N:Nat):Int->Int->Int->Int->Int->Int->Bool->LF->Int->Int->LF->LF->Fl->Fl->Fl->LF->LF->LF->LF->(Ky5)->Bool:=aw N (bt N)
def br (N:Nat) (V6 i Wb VZ t21 Zp Zq Zr Zs:Int) (ZJ:LF) (ZK ZL:Int) (ZM ZN:LF) (ZO ZP ZQ:Fl) (WU U8 We Wo:LF) (WX WY VO WH:Int) (e0:Ky6):(Int × Bool × LF)->((Int × Bool × LF)->Bool)->Bool:=λv_ K=>match v_ with
 | (t22,acl,WA)=>(cond (decide (t22<t21)) (bu N i t22 Zp Zq Zr Zs acl ZJ ZK ZL ZM ZN ZO ZP ZQ WU U8 We Wo (λxr cr=>ah .i64 (i*V6)&&(ah .i64 ((i*V6)+t22)&&(ah .i64 (t22*V6)&&(ah .i64 ((t22*V6)+i)&&(inR ((i*V6)+t22) WA.length&&(decide ((Int.toNat ((i*V6)+t22))<WA.length)&&(inR ((t22*V6)+i) (List.length (WA.set (Int.toNat ((i*V6)+t22)) xr))&&(decide ((Int.toNat ((t22*V6)+i))<(List.length (WA.set (Int.toNat ((i*V6)+t22)) xr)))&&(ah .i64 (t22+1)&&K ((t22+1),cr,(List.set (WA.set (Int.toNat ((i*V6)+t22)) xr) (Int.toNat ((t22*V6)+i)) xr)))))))))))) (e0 acl WA))
def bh (N:Nat) (Vr t16 Z0 W0 Zn Zo:Int) (XD:LF) (XS Yn:Int) (aa4 aa5:LF) (aa6 aa7 aa8:Fl) (b4 b5 b6 b7:LF) (t4 Xu out UN:Int) (e0:Ky6):(Int × Bool × LF)->((Int × Bool × LF)->Bool)->Bool:=λv_ K=>match v_ with
 | (t17,b3,b10)=>(cond (decide (t17<t16)) (ah .i64 (t17+1)&&ak N (br N Vr t17 t16 t17 (t17+1) Z0 W0 Zn Zo XD XS Yn aa4 aa5 aa6 aa7 aa8 b4 b5 b6 b7 t4 Xu out UN (λacj XR=>ah .i64 (t17+1)&&K ((t17+1),acj,XR))) (0,b3,b10)) (e0 b3 b10))
def cd (N:Nat) (n b Us Uw UA:Int) (UH:Bool) (UJ:LF) (UU UY:Int) (U6 Vb:LF) (UF U7 VF:Fl) (VN WV WM V4:LF) (k0:Ky6):Bool:=
 (ah .i64 (n*n)&&(i7 8 (n*n) (n*n)&&ak N (bh N n n b Us Uw UA UJ UU UY U6 Vb UF U7 VF VN WV WM V4 0 0 n n (λack acf=>k0 ack acf)) (0,UH,(List.replicate (Int.toNat (n*n)) (some 0)))))
def cj (N:Nat):Int->Int->Int->Int->Int->Bool->LF->Int->Int->LF->LF->Fl->Fl->Fl->LF->LF->LF->LF->(Ky6)->Bool:=aw N (cd N)
def bB (N:Nat) (V6 Ve XZ aaN Wr:Int) (XK:LF) (XL XM:Int) (XN WF:LF) (XO XP XQ:Fl) (VT Vz:LF) (abL abM X6 Xx:Int) (e0:Ky6):(Int × Bool × LF)->((Int × Bool × LF)->Bool)->Bool:=λv_ K=>match v_ with
 | (Wc,Z_,b6)=>(cond (decide (Wc<Wr)) (cond (Ve==Wc) (inR Ve Vz.length&&(decide (Ve.toNat<Vz.length)&&(inR Wc WF.length&&sQ8 N (Vz.getD Ve.toNat none) (WF.getD Wc.toNat none) Z_ XK XL XM XN WF XO XP XQ VT Vz (λUC US=>sQ7 N (co (some 4607182418800017408) UC) US XK XL XM XN WF XO XP XQ VT Vz (λU9=>decide ((List.length (b6++[(co (some 4607182418800017408) UC)]))*8<=140737488355328)&&(ah .i64 (Wc+1)&&K ((Wc+1),U9,(b6++[(co (some 4607182418800017408) UC)])))))))) (inR Ve Vz.length&&(decide (Ve.toNat<Vz.length)&&(inR Wc WF.length&&sQ8 N (Vz.getD Ve.toNat none) (WF.getD Wc.toNat none) Z_ XK XL XM XN WF XO XP XQ VT Vz (λUM VC=>sQ7 N (co (some 0) UM) VC XK XL XM XN WF XO XP XQ VT Vz (λWq=>decide ((List.length (b6++[(co (some 0) UM)]))*8<=140737488355328)&&(ah .i64 (Wc+1)&&K ((Wc+1),Wq,(b6++[(co (some 0) UM)]))))))))) (e0 Z_ b6))
def bA (N:Nat) (n_3 WR:Int) (Zt:LF) (Zu Zv:Int) (Zw Zx:LF) (Zy Zz ZA:Fl) (Ww V3:LF) (abj abk Yh YE:Int) (e0:Ky6):(Int × Bool × LF)->((Int × Bool × LF)->Bool)->Bool:=λv_ K=>match v_ with
 | (Y6,abt,YG)=>(cond (decide (Y6<WR)) (ak N (bB N n_3 Y6 WR Y6 n_3 Zt Zu Zv Zw Zx Zy Zz ZA Ww V3 abj abk Yh YE (λacd acW=>ah .i64 (Y6+1)&&K ((Y6+1),acd,acW))) (0,abt,YG)) (e0 abt YG))
def cA (N:Nat) (b:Bool) (Us:LF) (Uw UA:Int) (UH UJ:LF) (UU UY U6:Fl) (Vb UF:LF) (k0:Kx7):Bool:=
 (ak N (bA N ((UJ.length:Nat):Int) ((UJ.length:Nat):Int) Us Uw UA UH UJ UU UY U6 Vb UF 0 0 ((UJ.length:Nat):Int) ((UJ.length:Nat):Int) (λace acn=>dj N ((UJ.length:Nat):Int) ((UJ.length:Nat):Int) Uw UA UH ace Us Uw UA UH UJ UU UY U6 acn Vb UF (λWG xsr=>cj N ((UJ.length:Nat):Int) ((UJ.length:Nat):Int) UA ((UJ.length:Nat):Int) ((UJ.length:Nat):Int) WG Us Uw UA UH UJ UU UY U6 xsr acn Vb UF (λWE UB=>k0 ((UJ.length:Nat):Int) ((UJ.length:Nat):Int) WE UB)))) (0,b,[]))
def cC (N:Nat):Bool->LF->Int->Int->LF->LF->Fl->Fl->Fl->LF->LF->(Kx7)->Bool:=aw N (cA N)
def Mh (N:Nat) (b:Bool) (Us:LF) (Uw UA:Int) (UH UJ:LF) (UU UY U6:Fl) (Vb UF:LF) (k0:Bool):Bool:=
 k0
def Rb (N:Nat):Bool->LF->Int->Int->LF->LF->Fl->Fl->Fl->LF->LF->(Bool)->Bool:=aw N (Mh N)
def bN (N:Nat) (Y1 WN:Int) (b:Bool) (Us:LF) (Uw UA:Int) (UH UJ:LF) (UU UY U6:Fl) (Vb UF U7 VF:LF) (k0:Ky0) (k1:Kz2):Bool:=
 (Rb N b Us Uw UA UH UJ UU UY U6 U7 VF (cond b (k0 0 0 5) (cX N Y1 WN UF (λcr=>cond (!cr) (k0 0 0 151) (k1 0)))))
def bO (N:Nat):Int->Int->Bool->LF->Int->Int->LF->LF->Fl->Fl->Fl->LF->LF->LF->LF->(Ky0)->(Kz2)->Bool:=aw N (bN N)
def cT (N:Nat) (Vo:Fl) (X2:Int) (Wa:LF) (Wn Z5:Int) (Ya:LF) (Vv WJ:Int) (XW XX XY:Fl) (VW:LF) (VA VQ:Int) (VB Vx:LF) (Wt Wy VD:Fl) (U8:LF) (e0:Bool->LF->LF->Bool):(Int × Bool × LF × LF)->((Int × Bool × LF × LF)->Bool)->Bool:=λv_ K=>match v_ with
 | (UT,Ws,UQ,b6)=>(cond (decide (UT<X2)) (inR UT U8.length&&(decide (UT.toNat<U8.length)&&sQ7 N (fdiv (U8.getD UT.toNat none) VD) Ws VW VA VQ VB Vx Wt Wy VD U8 b6 (λc8=>decide ((List.length (b6++[(fdiv (U8.getD UT.toNat none) VD)]))*8<=140737488355328)&&(inR UT Wa.length&&(inR UT (List.length (b6++[(fdiv (U8.getD UT.toNat none) VD)]))&&(decide (UT.toNat<(List.length (b6++[(fdiv (U8.getD UT.toNat none) VD)])))&&sQ8 N (List.getD (b6++[(fdiv (U8.getD UT.toNat none) VD)]) UT.toNat none) Vo c8 VW VA VQ VB Vx Wt Wy VD U8 (b6++[(fdiv (U8.getD UT.toNat none) VD)]) (λVp c9=>sQ7 N (dR (Wa.getD UT.toNat none) Vp) c9 VW VA VQ VB Vx Wt Wy VD U8 (b6++[(fdiv (U8.getD UT.toNat none) VD)]) (λc10=>inR UT UQ.length&&(decide (UT.toNat<UQ.length)&&(ah .i64 (UT+1)&&K ((UT+1),c10,(UQ.set UT.toNat (dR (Wa.getD UT.toNat none) Vp)),(b6++[(fdiv (U8.getD UT.toNat none) VD)])))))))))))) (e0 Ws UQ b6))
def sv (N:Nat) (Vf:LF) (UR UX:Int) (UZ h:LF) (r z WC Yu:Fl) (ac2:Bool) (ac3 abZ:Fl) (b3 abA Yp We:LF) (Wk Wl:Int) (k0:Kx2) (k1:Kx1) (k2:Kx0):Bool:=
 (k2 Wk Wl WC abZ Yu 0 b3 We Yp)
def su (N:Nat) (Vf:LF) (UR UX:Int) (UZ h:LF) (r z V1 score:Fl) (ac0:Bool) (ac1 abY:Fl) (WU Yo:LF) (t VG:Int) (k0:Kx2) (k1:Kx1) (k2:Kx0):Bool:=
 (k1 t VG V1 abY score 0 Yo)
def iL (N:Nat) (Vf:LF) (UR UX:Int) (UZ h:LF) (r z:Fl) (e_2:Int) (u:Bool) (Vc Vy:Fl) (b4:LF) (k0:Kx2) (k1:Kx1) (k2:Kx0):Bool:=
 (cond (e_2 != 0) (k0 0 0 (some 0) (some 0) (some 0) e_2) (DJ N (co z Vc) u Vf UR UX UZ h r Vc Vy b4 (λVC=>i7 8 ((h.length:Nat):Int) ((h.length:Nat):Int)&&ak N (cT N (co z Vc) (((List.length (List.replicate (Int.toNat ((h.length:Nat):Int)) (some 0))):Nat):Int) Vf UR UX UZ 0 0 (some 0) (some 0) (some 0) Vf UR UX UZ h r Vc Vy b4 (λabX Vg V8=>sQ8 N (co z Vc) (co z Vc) abX Vf UR UX UZ h r Vc Vy b4 V8 (λUW c11=>sQ7 N (fdiv UW Vy) c11 Vf UR UX UZ h r Vc Vy b4 V8 (λc12=>gG N c12 Vf UR UX UZ h r Vc Vy b4 V8 (cC N c12 Vf UR UX UZ h r Vc Vy b4 V8 (λUx UK c13 UB=>bO N Ux UK c13 Vf UR UX UZ h r Vc Vy Vg UB b4 V8 (λUP n5 n6=>cond (n6 != 0) (k0 0 0 (some 0) (some 0) (some 0) n6) (su N Vf UR UX UZ h r z (co z Vc) (fdiv UW Vy) c13 Vc Vy b4 V8 UP n5 k0 k1 k2)) (λn7=>cond (n7 != 0) (k0 0 0 (some 0) (some 0) (some 0) n7) (sv N Vf UR UX UZ h r z (co z Vc) (fdiv UW Vy) c13 Vc Vy Vg b4 V8 UB Ux UK k0 k1 k2)))))))) (0,VC,(List.replicate (Int.toNat ((h.length:Nat):Int)) (some 0)),[]))))
def sr (N:Nat) (Vf:LF) (UR UX:Int) (UZ h:LF) (r z:Fl) (e_1:Int) (k0:Kx2) (k1:Kx1) (k2:Kx0):Bool:=
 (cond (e_1 != 0) (k0 0 0 (some 0) (some 0) (some 0) e_1) false)
def iK (N:Nat) (Vf:LF) (UR UX:Int) (UZ h:LF) (r z:Fl) (e:Int) (k0:Kx2) (k1:Kx1) (k2:Kx0):Bool:=
 (cond (e != 0) (k0 0 0 (some 0) (some 0) (some 0) e) false)
def jE (N:Nat) (Vf:LF) (UR UX:Int) (UZ h:LF) (r z:Fl) (k0:Kx2) (k1:Kx1) (k2:Kx0):Bool:=
 (e_ N Vf UR UX UZ h r (λnr=>cond ((nr==0)==false) (iK N Vf UR UX UZ h r z nr k0 k1 k2) (pO N [z] (λUu=>cond (!Uu) (k0 0 0 (some 0) (some 0) (some 0) 4) (sr N Vf UR UX UZ h r z nr k0 k1 k2)))) (λUt cr xr UC xsr=>cond ((Ut==0)==false) (pO N [z] (λUS=>cond (!US) (k0 0 0 (some 0) (some 0) (some 0) 4) (iL N Vf UR UX UZ h r z Ut cr xr UC xsr k0 k1 k2))) (pO N [z] (λU9=>cond (!U9) (k0 0 0 (some 0) (some 0) (some 0) 4) (iL N Vf UR UX UZ h r z Ut cr xr UC xsr k0 k1 k2)))))
def j5 (N:Nat):LF->Int->Int->LF->LF->Fl->Fl->(Kx2)->(Kx1)->(Kx0)->Bool:=aw N (jE N)
def lH (N:Nat) (Vf:LF) (UR UX:Int) (UZ h:LF) (r z:Fl) (k0:Kx2) (k1:Kx1) (k2:Kx0):Bool:=
 (j5 N Vf UR UX UZ h r z (λnr Ut xr UC UM Ux=>k0 nr Ut xr UC UM Ux) (λUK UP Vp UW U0 n5 xsr=>k1 UK UP Vp UW U0 n5 xsr) (λn6 n7 Wh Wi Vw n8 UB UO Vd=>k2 n6 n7 Wh Wi Vw n8 UB UO Vd))
def f_ (N:Nat):LF->Int->Int->LF->LF->Fl->Fl->(Kx2)->(Kx1)->(Kx0)->Bool:=aw N (lH N)
def xn (N:Nat) (rows cols:Int) (k0:Kz5):Bool:=
 (ah .i64 (rows*cols)&&(i7 8 (rows*cols) (rows*cols)&&k0 (List.replicate (Int.toNat (rows*cols)) (some 0))))
def jq (N:Nat):Int->Int->(Kz5)->Bool:=xn N
def NG (N:Nat) (U_ Uy i j:Int) (x:Fl) (b:LF) (k0:Kz5):Bool:=
 (ah .i64 (i*Uy)&&(ah .i64 ((i*Uy)+j)&&(inR ((i*Uy)+j) b.length&&(decide ((Int.toNat ((i*Uy)+j))<b.length)&&k0 (b.set (Int.toNat ((i*Uy)+j)) x)))))
def sL (N:Nat):Int->Int->Int->Int->Fl->LF->(Kz5)->Bool:=NG N
def jf (N:Nat) (j_2 X5 X9:Int) (X_:LF) (e0:Kz5):(Int × LF)->((Int × LF)->Bool)->Bool:=λv_ K=>match v_ with
 | (Ve,l)=>(cond (decide (Ve<X5)) (lE N X5 X9 X_ Ve j_2 (λUC=>decide ((List.length (l++[UC]))*8<=140737488355328)&&(ah .i64 (Ve+1)&&K ((Ve+1),(l++[UC]))))) (e0 l))
def oy (N:Nat) (U_ Uy:Int) (UV:LF) (j:Int) (k0:Kz5):Bool:=
 (ak N (jf N j U_ Uy UV (λl_1=>k0 l_1)) (0,[]))
def pr (N:Nat):Int->Int->LF->Int->(Kz5)->Bool:=aw N (oy N)
def gN (N:Nat) (Ve Xx Yh:Int) (YE:LF) (UU UY:Int) (U6:LF) (abP abQ UV VU:Int) (e0:Ky6):(Int × Bool × LF)->((Int × Bool × LF)->Bool)->Bool:=λv_ K=>match v_ with
 | (j,UR,U8)=>(cond (decide (j<UY)) (sj N Xx Yh YE Ve (λUB=>pr N UU UY U6 j (λUO=>GU N UB UR UO (λxr cr=>sL N UV VU Ve j xr U8 (λVd=>ah .i64 (j+1)&&K ((j+1),cr,Vd)))))) (e0 UR U8))
def gM (N:Nat) (a WL:Int) (X6:LF) (UA UH:Int) (UJ:LF) (t6 Xv m Uy:Int) (e0:Ky6):(Int × Bool × LF)->((Int × Bool × LF)->Bool)->Bool:=λv_ K=>match v_ with
 | (i,s,b5)=>(cond (decide (i<a)) (ak N (gN N i a WL X6 UA UH UJ t6 Xv m Uy (λUX V8=>ah .i64 (i+1)&&K ((i+1),UX,V8))) (0,s,b5)) (e0 s b5))
def Jv (N:Nat) (WK U4:Int) (Wd:LF) (XT Us:Int) (Uw:LF) (b:Bool) (k0:Ky6):Bool:=
 (jq N WK Us (λxsr=>ak N (gM N WK U4 Wd XT Us Uw 0 0 WK Us (λb0 b3=>k0 b0 b3)) (0,b,xsr)))
def Lv (N:Nat):Int->Int->LF->Int->Int->LF->Bool->(Ky6)->Bool:=aw N (Jv N)
def qj (N:Nat) (U_ Uy i:Int) (b:LF) (k0:Ky7):Bool:=
 (ah .i64 (i*Uy)&&(ah .i64 (i+1)&&(ah .i64 ((i+1)*Uy)&&(decide (0<=(i*Uy)/\(i*Uy)<=((i+1)*Uy)/\((i+1)*Uy)<=((b.length:Nat):Int))&&k0 (Int.toNat (i*Uy)) ((Int.toNat ((i+1)*Uy)) - (Int.toNat (i*Uy)))))))
def nq (N:Nat):Int->Int->Int->LF->(Ky7)->Bool:=aw N (qj N)
def fI (N a Wd UH UJ:Nat) (t10:Int) (WL UU:LF) (e0:Ky5):(Fl × Int × Bool)->((Fl × Int × Bool)->Bool)->Bool:=λv_ K=>match v_ with
 | (t,t11,s)=>(cond (decide (t11<t10)) (inR t11 Wd&&(decide ((a+t11.toNat)<WL.length)&&(inR t11 UJ&&(decide ((UH+t11.toNat)<UU.length)&&jD N (bc (WL.getD (a+t11.toNat) none) (UU.getD (UH+t11.toNat) none)) s (λcr=>jD N (dR t (bc (WL.getD (a+t11.toNat) none) (UU.getD (UH+t11.toNat) none))) cr (λUu=>ah .i64 (t11+1)&&K ((dR t (bc (WL.getD (a+t11.toNat) none) (UU.getD (UH+t11.toNat) none))),(t11+1),Uu))))))) (e0 t s))
def Jo (N WK U4 XT Us:Nat) (b:Bool) (Uw UA:LF) (k0:Ky5):Bool:=
 (ak N (fI N WK U4 XT Us ((U4:Nat):Int) Uw UA (λVG b0=>k0 VG b0)) ((some 0),0,b))
def Lr (N:Nat):Nat->Nat->Nat->Nat->Bool->LF->LF->(Ky5)->Bool:=aw N (Jo N)
def fE (N:Nat) (WW:LF) (XG:Fl) (Wg:LF) (Vr Ve p_5 p_6:Int) (p_7:LF) (Vv WJ Wd WL:Int) (e0:Ky6):(Int × Bool × LF)->((Int × Bool × LF)->Bool)->Bool:=λv_ K=>match v_ with
 | (j,UR,WU)=>(cond (decide (j<Vr)) (cond (Ve==j) (inR Ve Wg.length&&(inR j WW.length&&jD N (bc (Wg.getD Ve.toNat none) (WW.getD j.toNat none)) UR (λcr=>jD N (co (some 4607182418800017408) (bc (Wg.getD Ve.toNat none) (WW.getD j.toNat none))) cr (λUu=>sL N Wd WL Ve j (co (some 4607182418800017408) (bc (Wg.getD Ve.toNat none) (WW.getD j.toNat none))) WU (λUB=>ah .i64 (j+1)&&K ((j+1),Uu,UB)))))) (inR Ve Wg.length&&(inR j WW.length&&jD N (bc (Wg.getD Ve.toNat none) (WW.getD j.toNat none)) UR (λUS=>jD N (co (some 0) (bc (Wg.getD Ve.toNat none) (WW.getD j.toNat none))) US (λU9=>sL N Wd WL Ve j (co (some 0) (bc (Wg.getD Ve.toNat none) (WW.getD j.toNat none))) WU (λUO=>ah .i64 (j+1)&&K ((j+1),U9,UO))))))) (e0 UR WU))
def fD (N:Nat) (Z1:LF) (Za:Fl) (VK:LF) (n p Ze:Int) (p_4:LF) (t10 VY a U4:Int) (e0:Ky6):(Int × Bool × LF)->((Int × Bool × LF)->Bool)->Bool:=λv_ K=>match v_ with
 | (i,s,b4)=>(cond (decide (i<n)) (ak N (fE N Z1 Za VK n i p Ze p_4 t10 VY a U4 (λUX abA=>ah .i64 (i+1)&&K ((i+1),UX,abA))) (0,s,b4)) (e0 s b4))
def fH (N:Nat) (r_4:Fl) (VM:LF) (n_3 i_3 XA XB Yh YE UA UH c_2 c_3:Int) (U8 We:LF) (e0:Ky6):(Int × Bool × LF)->((Int × Bool × LF)->Bool)->Bool:=λv_ K=>match v_ with
 | (Vu,Wx,Wo)=>(cond (decide (Vu<=i_3)) (inR i_3 VM.length&&jD N (bc (VM.getD i_3.toNat none) r_4) Wx (λWq=>inR Vu VM.length&&jD N (bc (bc (VM.getD i_3.toNat none) r_4) (VM.getD Vu.toNat none)) Wq (λWG=>nq N UA UH i_3 We (λmr VH=>nq N Yh YE Vu U8 (λU2 XE=>Lr N mr VH U2 XE WG We U8 (λxr WE=>jD N (dR xr (bc (bc (VM.getD i_3.toNat none) r_4) (VM.getD Vu.toNat none))) WE (λc8=>sL N c_2 c_3 i_3 Vu (dR xr (bc (bc (VM.getD i_3.toNat none) r_4) (VM.getD Vu.toNat none))) Wo (λVS=>ah .i64 (Vu+1)&&K ((Vu+1),c8,VS))))))))) (e0 Wx Wo))
def fF (N:Nat) (XU:Fl) (W6:LF) (V6 Xy Xz X6 Xx Us Uw c c_1:Int) (b5 b6:LF) (e0:Ky6):(Int × Bool × LF)->((Int × Bool × LF)->Bool)->Bool:=λv_ K=>match v_ with
 | (i_2,Wv,b7)=>(cond (decide (i_2<V6)) (ak N (fH N XU W6 V6 i_2 Xy Xz X6 Xx Us Uw c c_1 b5 b6 (λWO Yq=>ah .i64 (i_2+1)&&K ((i_2+1),WO,Yq))) (0,Wv,b7)) (e0 Wv b7))
def Jm (N:Nat) (Y1 WN:Int) (XF h:LF) (r:Fl) (k_:LF) (b:Bool) (k0:Kx7):Bool:=
 (jq N ((h.length:Nat):Int) ((h.length:Nat):Int) (λxsr=>ak N (fD N h r k_ ((h.length:Nat):Int) Y1 WN XF 0 0 ((h.length:Nat):Int) ((h.length:Nat):Int) (λUZ acm=>Lv N ((h.length:Nat):Int) ((h.length:Nat):Int) acm Y1 WN XF UZ (λVC Vd=>jq N ((h.length:Nat):Int) ((h.length:Nat):Int) (λVR=>ak N (fF N r k_ ((h.length:Nat):Int) 0 0 ((h.length:Nat):Int) ((h.length:Nat):Int) ((h.length:Nat):Int) WN ((h.length:Nat):Int) ((h.length:Nat):Int) acm Vd (λb0 b3=>k0 ((h.length:Nat):Int) ((h.length:Nat):Int) b0 b3)) (0,VC,VR))))) (0,b,xsr)))
def Lq (N:Nat):Int->Int->LF->LF->Fl->LF->Bool->(Kx7)->Bool:=aw N (Jm N)
def jh (N:Nat) (Ve X5 X9:Int) (X_:LF) (X0 X1 Wk Wl:Int) (e0:Kz5):(Int × LF)->((Int × LF)->Bool)->Bool:=λv_ K=>match v_ with
 | (j,XD)=>(cond (decide (j<=Ve)) (lE N X5 X9 X_ Ve j (λxr=>sL N Wk Wl Ve j xr XD (λUB=>lE N X5 X9 X_ Ve j (λUC=>sL N Wk Wl j Ve UC UB (λUO=>ah .i64 (j+1)&&K ((j+1),UO)))))) (e0 XD))
def jg (N:Nat) (m VU:Int) (Xs:LF) (t2 WP t VG:Int) (e0:Kz5):(Int × LF)->((Int × LF)->Bool)->Bool:=λv_ K=>match v_ with
 | (i,b3)=>(cond (decide (i<m)) (ak N (jh N i m VU Xs t2 WP t VG (λXS=>ah .i64 (i+1)&&K ((i+1),XS))) (0,b3)) (e0 b3))
def oz (N:Nat) (U_ Uy:Int) (UV:LF) (k0:Kz5):Bool:=
 (jq N U_ Uy (λxsr=>ak N (jg N U_ Uy UV 0 0 U_ Uy (λb2=>k0 b2)) (0,xsr)))
def pu (N:Nat):Int->Int->LF->(Kz5)->Bool:=aw N (oz N)
def OZ (N:Nat) (Y1 WN:Int) (b Us:LF) (Uw:Bool) (k0:Ky0) (k1:Int->LF->Bool):Bool:=
 (cond Uw (k0 0 0 5) (pu N Y1 WN Us (λxsr=>GT N Y1 WN xsr (λcr=>cond (!cr) (k0 0 0 151) (k1 0 xsr)))))
def IA (N:Nat):Int->Int->LF->LF->Bool->(Ky0)->(Int->LF->Bool)->Bool:=aw N (OZ N)
def yY (N:Nat) (Z2:LF) (XU:Fl) (Yv:Bool) (UG V1:Fl) (aaU:Int) (Xw:LF) (Yy Yz:Int) (YA:LF) (Xy Xz:Int) (aaI aaJ aaK:Fl) (WQ:LF) (e0:Bool->LF->LF->Bool):(Int × Bool × LF × LF)->((Int × Bool × LF × LF)->Bool)->Bool:=λv_ K=>match v_ with
 | (Vq,UX,VK,x)=>(cond (decide (Vq<aaU)) (inR Vq WQ.length&&(decide (Vq.toNat<WQ.length)&&jD N (fdiv (WQ.getD Vq.toNat none) UG) UX (λc9=>decide ((List.length (VK++[(fdiv (WQ.getD Vq.toNat none) UG)]))*8<=140737488355328)&&(inR Vq Xw.length&&(inR Vq (List.length (VK++[(fdiv (WQ.getD Vq.toNat none) UG)]))&&(decide (Vq.toNat<(List.length (VK++[(fdiv (WQ.getD Vq.toNat none) UG)])))&&jD N (bc (List.getD (VK++[(fdiv (WQ.getD Vq.toNat none) UG)]) Vq.toNat none) V1) c9 (λc10=>jD N (dR (Xw.getD Vq.toNat none) (bc (List.getD (VK++[(fdiv (WQ.getD Vq.toNat none) UG)]) Vq.toNat none) V1)) c10 (λc11=>decide ((List.length (x++[(dR (Xw.getD Vq.toNat none) (bc (List.getD (VK++[(fdiv (WQ.getD Vq.toNat none) UG)]) Vq.toNat none) V1))]))*8<=140737488355328)&&(ah .i64 (Vq+1)&&K ((Vq+1),c11,(VK++[(fdiv (WQ.getD Vq.toNat none) UG)]),(x++[(dR (Xw.getD Vq.toNat none) (bc (List.getD (VK++[(fdiv (WQ.getD Vq.toNat none) UG)]) Vq.toNat none) V1))]))))))))))) (e0 UX VK x))
def ji (N:Nat) (w_4 y_4:Fl) (i Zk Zl:Int) (abW:LF) (abn abo:Int) (abp:LF) (aaG aaH:Int) (Zh Zi Zj:Fl) (Z6 VM Vt:LF) (XF Ze:Int) (e0:Ky6):(Int × Bool × LF)->((Int × Bool × LF)->Bool)->Bool:=λv_ K=>match v_ with
 | (j,Wx,YH)=>(cond (decide (j<=i)) (lE N abn abo abp i j (λUM=>inR i VM.length&&(decide (i.toNat<VM.length)&&(inR j Z6.length&&(decide (j.toNat<Z6.length)&&jD N (bc (VM.getD i.toNat none) (Z6.getD j.toNat none)) Wx (λc12=>jD N (co UM (bc (VM.getD i.toNat none) (Z6.getD j.toNat none))) c12 (λc13=>sL N XF Ze i j (co UM (bc (VM.getD i.toNat none) (Z6.getD j.toNat none))) YH (λUO=>ah .i64 (j+1)&&K ((j+1),c13,UO))))))))) (e0 Wx YH))
def gb (N:Nat) (Zm WC:Fl) (t124:Int) (YB:LF) (YC YD:Int) (abV:LF) (XA XB:Int) (ZT Yw Yx:Fl) (XI W6 Vg:LF) (p WN:Int) (e0:Ky6):(Int × Bool × LF)->((Int × Bool × LF)->Bool)->Bool:=λv_ K=>match v_ with
 | (t125,Wv,b8)=>(cond (decide (t125<t124)) (ak N (ji N Zm WC t125 t124 t125 YB YC YD abV XA XB ZT Yw Yx XI W6 Vg p WN (λWO X7=>ah .i64 (t125+1)&&K ((t125+1),WO,X7))) (0,Wv,b8)) (e0 Wv b8))
def xq (N:Nat) (WS:LF) (VG Wk:Int) (Wl h:LF) (r z:Fl) (short:Bool) (w_6 y_6:Fl) (Z5:Bool) (Y0 x_5:LF) (p_6 p_7:Int) (abB:LF) (k0:Kx2) (k1:Kx1) (k2:Kx0):Bool:=
 (jD N (bc y_6 y_6) Z5 (λc17=>jD N (fdiv (bc y_6 y_6) w_6) c17 (λc18=>IA N p_6 p_7 x_5 abB c18 (λn8 n9 n10=>cond (n10 != 0) (k0 0 0 (some 0) (some 0) (some 0) n10) (k1 n8 n9 y_6 w_6 (fdiv (bc y_6 y_6) w_6) 0 Y0)) (λn11 VS=>cond (n11 != 0) (k0 0 0 (some 0) (some 0) (some 0) n11) (k2 p_6 p_7 y_6 w_6 (fdiv (bc y_6 y_6) w_6) 0 x_5 VS Y0)))))
def RO (N:Nat) (WS:LF) (VG Wk:Int) (Wl h:LF) (r z:Fl) (short:Bool) (w_5 y_5:Fl) (Wn:Bool) (YZ ZZ:LF) (p_4 p_5:Int) (We:LF) (k0:Kx2) (k1:Kx1) (k2:Kx0):Bool:=
 (jD N (bc y_5 y_5) Wn (λc15=>jD N (fdiv (bc y_5 y_5) w_5) c15 (λc16=>IA N p_4 p_5 ZZ We c16 (λUP n5 n6=>cond (n6 != 0) (k0 0 0 (some 0) (some 0) (some 0) n6) (k1 UP n5 y_5 w_5 (fdiv (bc y_5 y_5) w_5) 0 YZ)) (λn7 VR=>cond (n7 != 0) (k0 0 0 (some 0) (some 0) (some 0) n7) (k2 p_4 p_5 y_5 w_5 (fdiv (bc y_5 y_5) w_5) 0 ZZ VR YZ)))))
def JF (N:Nat) (WS:LF) (VG Wk:Int) (Wl h:LF) (r z:Fl) (short:Bool) (k0:Kx2) (k1:Kx1) (k2:Kx0):Bool:=
 (nt N WS VG Wk Wl (λnr=>cond (nr != 0) (k0 0 0 (some 0) (some 0) (some 0) nr) (sk N ((WS.length:Nat):Int) h r (λUt=>cond (Ut != 0) (k0 0 0 (some 0) (some 0) (some 0) Ut) (AC N z (λcr=>cond (!cr) (k0 0 0 (some 0) (some 0) (some 0) 4) (GN N WS VG Wk Wl h r false (λxr UC Uu xsr=>cond Uu (k0 0 0 (some 0) (some 0) (some 0) 5) (cond (!(fgt UC (some 0))) (k0 0 0 (some 0) (some 0) (some 0) 153) (jD N (co z xr) Uu (λUS=>ak N (yY N h r short UC (co z xr) ((WS.length:Nat):Int) WS VG Wk Wl 0 0 (some 0) (some 0) (some 0) xsr (λUZ Wg UQ=>cond short (jq N ((UQ.length:Nat):Int) ((UQ.length:Nat):Int) (λUB=>ak N (gb N UC (co z xr) ((UQ.length:Nat):Int) WS VG Wk Wl 0 0 (some 0) (some 0) (some 0) xsr Wg UQ ((UQ.length:Nat):Int) ((UQ.length:Nat):Int) (λWa b6=>RO N WS VG Wk Wl h r z short UC (co z xr) Wa Wg UQ ((UQ.length:Nat):Int) ((UQ.length:Nat):Int) b6 k0 k1 k2)) (0,UZ,UB))) (Lq N VG Wk Wl h r Wg UZ (λUx UK c14 Vd=>xq N WS VG Wk Wl h r z short UC (co z xr) c14 Wg UQ Ux UK Vd k0 k1 k2)))) (0,US,[],[]))))))))))))
def GX (N:Nat):LF->Int->Int->LF->LF->Fl->Fl->Bool->(Kx2)->(Kx1)->(Kx0)->Bool:=aw N (JF N)
def Jc (N:Nat) (WS:LF) (VG Wk:Int) (Wl h:LF) (r z:Fl) (k0:Kx2) (k1:Kx1) (k2:Kx0):Bool:=
 (GX N WS VG Wk Wl h r z false (λnr Ut xr UC UM Ux=>k0 nr Ut xr UC UM Ux) (λUK UP Vp UW U0 n5 xsr=>k1 UK UP Vp UW U0 n5 xsr) (λn6 n7 Wh Wi Vw n8 UB UO Vd=>k2 n6 n7 Wh Wi Vw n8 UB UO Vd))
def wG (N:Nat):LF->Int->Int->LF->LF->Fl->Fl->(Kx2)->(Kx1)->(Kx0)->Bool:=aw N (Jc N)
def BQ (N:Nat) (U4 Us:LF) (t12:Int) (e0:Kz1) (e1:Bool):(Int)->((Int)->Bool)->Bool:=λv_ K=>match v_ with
 | t13=>(cond (decide (t13<t12)) (inR t13 U4.length&&(inR t13 Us.length&&zC N (U4.getD t13.toNat none) (Us.getD t13.toNat none) (λcr=>cond (!cr) (e0 false) (ah .i64 (t13+1)&&K (t13+1))))) e1)
def OH (N:Nat) (a b:LF) (k0:Kz1):Bool:=
 (cond (((a.length:Nat):Int) != ((b.length:Nat):Int)) (k0 false) (ak N (BQ N a b ((a.length:Nat):Int) (λt4=>k0 t4) (k0 true)) 0))
def Ix (N:Nat):LF->LF->(Kz1)->Bool:=aw N (OH N)
def GQ0 (N:Nat) (WK:LF) (U4 Wd:Int) (WL XT:LF) (Us Uw:Int) (UA:LF) (k0:Kz1):Bool:=
 (Ix N WK XT (λcr=>cond (cr==true) (cond ((U4==Us)==true) (cond ((Wd==Uw)==true) (Ix N WL UA (λUu=>k0 Uu)) (k0 false)) (k0 false)) (k0 false)))
def sQ0 (N:Nat):LF->Int->Int->LF->LF->Int->Int->LF->(Kz1)->Bool:=aw N (GQ0 N)
def GQ1 (N:Nat) (WK U4 Wd:Fl) (WL:LF) (XT Us Uw:Fl) (UA:LF) (k0:Kz1):Bool:=
 (zC N WK XT (λcr=>cond (cr==true) (zC N U4 Us (λUu=>cond (Uu==true) (zC N Wd Uw (λUS=>cond (US==true) (Ix N WL UA (λU9=>k0 U9)) (k0 false))) (k0 false))) (k0 false)))
def sQ1 (N:Nat):Fl->Fl->Fl->LF->Fl->Fl->Fl->LF->(Kz1)->Bool:=aw N (GQ1 N)
def gR (N:Nat) (b:Bool) (Us:LF) (Uw UA:Int) (UH UJ:LF) (UU UY U6:Fl) (Vb UF:LF) (k0:Bool):Bool:=
 k0
def ii (N:Nat):Bool->LF->Int->Int->LF->LF->Fl->Fl->Fl->LF->LF->(Bool)->Bool:=gR N
def bR (N:Nat) (i j b:Int) (Us:Bool) (Uw:LF) (UA UH:Int) (UJ UU:LF) (UY U6 Vb:Fl) (UF U7:LF) (k0:Ky5):Bool:=
 (ah .i64 (i*b)&&(ah .i64 ((i*b)+j)&&(inR ((i*b)+j) UJ.length&&(inR i U7.length&&(decide (i.toNat<U7.length)&&(inR j UF.length&&(decide (j.toNat<UF.length)&&sQ8 N (U7.getD i.toNat none) (UF.getD j.toNat none) Us Uw UA UH UJ UU UY U6 Vb UF U7 (λxr cr=>sQ7 N (co (UJ.getD (Int.toNat ((i*b)+j)) none) xr) cr Uw UA UH UJ UU UY U6 Vb UF U7 (λUu=>k0 (co (UJ.getD (Int.toNat ((i*b)+j)) none) xr) Uu)))))))))
def bX (N:Nat):Int->Int->Int->Bool->LF->Int->Int->LF->LF->Fl->Fl->Fl->LF->LF->(Ky5)->Bool:=aw N (bR N)
def bG (N:Nat) (V6 i Wb VZ t21 W0:Int) (ZB:LF) (ZC ZD:Int) (ZE ZF:LF) (ZG ZH ZI:Fl) (XD WU:LF) (WX WY VO WH:Int) (e0:Ky6):(Int × Bool × LF)->((Int × Bool × LF)->Bool)->Bool:=λv_ K=>match v_ with
 | (t22,aci,Wo)=>(cond (decide (t22<t21)) (bX N i t22 W0 aci ZB ZC ZD ZE ZF ZG ZH ZI XD WU (λxr cr=>ah .i64 (i*V6)&&(ah .i64 ((i*V6)+t22)&&(ah .i64 (t22*V6)&&(ah .i64 ((t22*V6)+i)&&(inR ((i*V6)+t22) Wo.length&&(decide ((Int.toNat ((i*V6)+t22))<Wo.length)&&(inR ((t22*V6)+i) (List.length (Wo.set (Int.toNat ((i*V6)+t22)) xr))&&(decide ((Int.toNat ((t22*V6)+i))<(List.length (Wo.set (Int.toNat ((i*V6)+t22)) xr)))&&(ah .i64 (t22+1)&&K ((t22+1),cr,(List.set (Wo.set (Int.toNat ((i*V6)+t22)) xr) (Int.toNat ((t22*V6)+i)) xr)))))))))))) (e0 aci Wo))
def bF (N:Nat) (Vr t16 Z0:Int) (VJ:LF) (Vz V3:Int) (W1 W2:LF) (W3 W4 W5:Fl) (b3 b4:LF) (t4 Xu out UN:Int) (e0:Ky6):(Int × Bool × LF)->((Int × Bool × LF)->Bool)->Bool:=λv_ K=>match v_ with
 | (t17,b2,b7)=>(cond (decide (t17<t16)) (ah .i64 (t17+1)&&ak N (bG N Vr t17 t16 t17 (t17+1) Z0 VJ Vz V3 W1 W2 W3 W4 W5 b3 b4 t4 Xu out UN (λacg Yq=>ah .i64 (t17+1)&&K ((t17+1),acg,Yq))) (0,b2,b7)) (e0 b2 b7))
def da (N:Nat) (n b:Int) (Us:Bool) (Uw:LF) (UA UH:Int) (UJ UU:LF) (UY U6 Vb:Fl) (UF U7:LF) (k0:Ky6):Bool:=
 (ah .i64 (n*n)&&(i7 8 (n*n) (n*n)&&ak N (bF N n n b Uw UA UH UJ UU UY U6 Vb UF U7 0 0 n n (λach Zb=>k0 ach Zb)) (0,Us,(List.replicate (Int.toNat (n*n)) (some 0)))))
def di (N:Nat):Int->Int->Bool->LF->Int->Int->LF->LF->Fl->Fl->Fl->LF->LF->(Ky6)->Bool:=aw N (da N)
def cH (N:Nat) (b:Bool) (Us:LF) (Uw UA:Int) (UH UJ:LF) (UU UY U6:Fl) (Vb UF:LF) (k0:Kx7):Bool:=
 (di N ((UJ.length:Nat):Int) ((UJ.length:Nat):Int) b Us Uw UA UH UJ UU UY U6 Vb UF (λcr xsr=>k0 ((UJ.length:Nat):Int) ((UJ.length:Nat):Int) cr xsr))
def cR (N:Nat):Bool->LF->Int->Int->LF->LF->Fl->Fl->Fl->LF->LF->(Kx7)->Bool:=aw N (cH N)
def fw (N:Nat) (Vo:Fl) (X2:Int) (Wa:LF) (Wn Z5:Int) (Ya:LF) (Vv WJ:Int) (XW XX XY:Fl) (VW:LF) (VA VQ:Int) (VB Vx:LF) (Wt Wy VD:Fl) (U8:LF) (e0:Bool->LF->LF->Bool):(Int × Bool × LF × LF)->((Int × Bool × LF × LF)->Bool)->Bool:=λv_ K=>match v_ with
 | (UT,Ws,UQ,b6)=>(cond (decide (UT<X2)) (inR UT U8.length&&(decide (UT.toNat<U8.length)&&sQ7 N (fdiv (U8.getD UT.toNat none) VD) Ws VW VA VQ VB Vx Wt Wy VD U8 b6 (λc8=>decide ((List.length (b6++[(fdiv (U8.getD UT.toNat none) VD)]))*8<=140737488355328)&&(inR UT Wa.length&&(inR UT (List.length (b6++[(fdiv (U8.getD UT.toNat none) VD)]))&&(decide (UT.toNat<(List.length (b6++[(fdiv (U8.getD UT.toNat none) VD)])))&&sQ8 N (List.getD (b6++[(fdiv (U8.getD UT.toNat none) VD)]) UT.toNat none) Vo c8 VW VA VQ VB Vx Wt Wy VD U8 (b6++[(fdiv (U8.getD UT.toNat none) VD)]) (λVp c9=>sQ7 N (dR (Wa.getD UT.toNat none) Vp) c9 VW VA VQ VB Vx Wt Wy VD U8 (b6++[(fdiv (U8.getD UT.toNat none) VD)]) (λc10=>inR UT UQ.length&&(decide (UT.toNat<UQ.length)&&(ah .i64 (UT+1)&&K ((UT+1),c10,(UQ.set UT.toNat (dR (Wa.getD UT.toNat none) Vp)),(b6++[(fdiv (U8.getD UT.toNat none) VD)])))))))))))) (e0 Ws UQ b6))
def p6 (N:Nat) (Vf:LF) (UR UX:Int) (UZ h:LF) (r z WC Yu:Fl) (ac2:Bool) (ac3 abZ:Fl) (b3 abA Yp We:LF) (Wk Wl:Int) (k0:Kx2) (k1:Kx1) (k2:Kx0):Bool:=
 (k2 Wk Wl WC abZ Yu 0 b3 We Yp)
def pZ (N:Nat) (Vf:LF) (UR UX:Int) (UZ h:LF) (r z V1 score:Fl) (ac0:Bool) (ac1 abY:Fl) (WU Yo:LF) (t VG:Int) (k0:Kx2) (k1:Kx1) (k2:Kx0):Bool:=
 (k1 t VG V1 abY score 0 Yo)
def gk (N:Nat) (Vf:LF) (UR UX:Int) (UZ h:LF) (r z:Fl) (e_2:Int) (u:Bool) (Vc Vy:Fl) (b4:LF) (k0:Kx2) (k1:Kx1) (k2:Kx0):Bool:=
 (cond (e_2 != 0) (k0 0 0 (some 0) (some 0) (some 0) e_2) (DJ N (co z Vc) u Vf UR UX UZ h r Vc Vy b4 (λVC=>i7 8 ((h.length:Nat):Int) ((h.length:Nat):Int)&&ak N (fw N (co z Vc) (((List.length (List.replicate (Int.toNat ((h.length:Nat):Int)) (some 0))):Nat):Int) Vf UR UX UZ 0 0 (some 0) (some 0) (some 0) Vf UR UX UZ h r Vc Vy b4 (λabX Vg V8=>sQ8 N (co z Vc) (co z Vc) abX Vf UR UX UZ h r Vc Vy b4 V8 (λUW c11=>sQ7 N (fdiv UW Vy) c11 Vf UR UX UZ h r Vc Vy b4 V8 (λc12=>ii N c12 Vf UR UX UZ h r Vc Vy b4 V8 (cR N c12 Vf UR UX UZ h r Vc Vy b4 V8 (λUx UK c13 UB=>bO N Ux UK c13 Vf UR UX UZ h r Vc Vy Vg UB b4 V8 (λUP n5 n6=>cond (n6 != 0) (k0 0 0 (some 0) (some 0) (some 0) n6) (pZ N Vf UR UX UZ h r z (co z Vc) (fdiv UW Vy) c13 Vc Vy b4 V8 UP n5 k0 k1 k2)) (λn7=>cond (n7 != 0) (k0 0 0 (some 0) (some 0) (some 0) n7) (p6 N Vf UR UX UZ h r z (co z Vc) (fdiv UW Vy) c13 Vc Vy Vg b4 V8 UB Ux UK k0 k1 k2)))))))) (0,VC,(List.replicate (Int.toNat ((h.length:Nat):Int)) (some 0)),[]))))
def pY (N:Nat) (Vf:LF) (UR UX:Int) (UZ h:LF) (r z:Fl) (e_1:Int) (k0:Kx2) (k1:Kx1) (k2:Kx0):Bool:=
 (cond (e_1 != 0) (k0 0 0 (some 0) (some 0) (some 0) e_1) false)
def gj (N:Nat) (Vf:LF) (UR UX:Int) (UZ h:LF) (r z:Fl) (e:Int) (k0:Kx2) (k1:Kx1) (k2:Kx0):Bool:=
 (cond (e != 0) (k0 0 0 (some 0) (some 0) (some 0) e) false)
def iI (N:Nat) (Vf:LF) (UR UX:Int) (UZ h:LF) (r z:Fl) (k0:Kx2) (k1:Kx1) (k2:Kx0):Bool:=
 (e_ N Vf UR UX UZ h r (λnr=>cond ((nr==0)==false) (gj N Vf UR UX UZ h r z nr k0 k1 k2) (pO N [z] (λUu=>cond (!Uu) (k0 0 0 (some 0) (some 0) (some 0) 4) (pY N Vf UR UX UZ h r z nr k0 k1 k2)))) (λUt cr xr UC xsr=>cond ((Ut==0)==false) (pO N [z] (λUS=>cond (!US) (k0 0 0 (some 0) (some 0) (some 0) 4) (gk N Vf UR UX UZ h r z Ut cr xr UC xsr k0 k1 k2))) (pO N [z] (λU9=>cond (!U9) (k0 0 0 (some 0) (some 0) (some 0) 4) (gk N Vf UR UX UZ h r z Ut cr xr UC xsr k0 k1 k2)))))
def iO (N:Nat):LF->Int->Int->LF->LF->Fl->Fl->(Kx2)->(Kx1)->(Kx0)->Bool:=aw N (iI N)
def mn (N:Nat) (Vf:LF) (UR UX:Int) (UZ h:LF) (r z:Fl) (k0:Kx2) (k1:Kx1) (k2:Kx0):Bool:=
 (iO N Vf UR UX UZ h r z (λnr Ut xr UC UM Ux=>k0 nr Ut xr UC UM Ux) (λUK UP Vp UW U0 n5 xsr=>k1 UK UP Vp UW U0 n5 xsr) (λn6 n7 Wh Wi Vw n8 UB UO Vd=>k2 n6 n7 Wh Wi Vw n8 UB UO Vd))
def bJ (N:Nat):LF->Int->Int->LF->LF->Fl->Fl->(Kx2)->(Kx1)->(Kx0)->Bool:=aw N (mn N)
def OD (N:Nat) (WS:LF) (VG Wk:Int) (Wl h:LF) (r z:Fl) (k0:Kx2) (k1:Kx1) (k2:Kx0):Bool:=
 (GX N WS VG Wk Wl h r z true (λnr Ut xr UC UM Ux=>k0 nr Ut xr UC UM Ux) (λUK UP Vp UW U0 n5 xsr=>k1 UK UP Vp UW U0 n5 xsr) (λn6 n7 Wh Wi Vw n8 UB UO Vd=>k2 n6 n7 Wh Wi Vw n8 UB UO Vd))
def jZ (N:Nat):LF->Int->Int->LF->LF->Fl->Fl->(Kx2)->(Kx1)->(Kx0)->Bool:=aw N (OD N)
def GQ2 (N:Nat) (k0:Kz1):Bool:=
 (f_ N [(some 0)] 1 1 [(some 4616189618054758400)] [(some 4607182418800017408)] (some 4607182418800017408) (some 4617315517961601024) (λnr Ut xr UC UM Ux=>cond ((Ux==0)==true) (k0 false) (k0 false)) (λUK UP Vp UW U0 n5 xsr=>cond ((n5==0)==true) (k0 false) (k0 false)) (λn6 n7 Wh Wi Vw n8 UB UO Vd=>cond ((n8==0)==true) (cond ((((UB.length:Nat):Int)==1)==true) (inR 0 UB.length&&(decide (0<UB.length)&&cond ((feq (UB.getD 0 none) (some 4616189618054758400))==true) (cond ((feq Wi (some 4617315517961601024))==true) (cond ((feq Wh (some 4617315517961601024))==true) (cond ((feq Vw (some 4617315517961601024))==true) (j4 N [(some 0)] 1 1 [(some 4616189618054758400)] (λn9=>k0 (n9==0))) (k0 false)) (k0 false)) (k0 false)) (k0 false))) (k0 false)) (k0 false)))
def sQ2 (N:Nat):(Kz1)->Bool:=aw N (GQ2 N)
def Pl (N:Nat) (x:LI) (rows:Int) (p U5:LI) (UE UG:Int) (Ym W5 h_8 aaa YG aab:LF) (YC YD:Int) (YW YX YY:Fl) (XR b11 b12:LF) (VB Vx:Int) (aax aay aaz:Fl) (k0:Kz1):Bool:=
 (sQ3 N UE (λx402=>sQ3 N UG (λx403=>bJ N Ym rows rows W5 h_8 x402 x403 (λn326 n327 x404 x405 x406 n328=>sQ3 N UE (λx413=>sQ3 N UG (λx414=>jZ N Ym rows rows W5 h_8 x413 x414 (λn335 n336 x415 x416 x417 n337=>sQ0 N [] n326 n327 [] [] n335 n336 [] (λc236=>cond (c236==true) (sQ1 N x404 x405 x406 [] x415 x416 x417 [] (λc237=>cond (c237==true) (cond ((n328==n337)==true) (sQ2 N (λc238=>k0 c238)) (k0 false)) (k0 false))) (k0 false))) (λn338 n339 x418 x419 x420 n340 y151=>sQ0 N [] n326 n327 [] [] n338 n339 [] (λc239=>cond (c239==true) (sQ1 N x404 x405 x406 [] x418 x419 x420 y151 (λc240=>cond (c240==true) (cond ((n328==n340)==true) (sQ2 N (λc241=>k0 c241)) (k0 false)) (k0 false))) (k0 false))) (λn341 n342 x421 x422 x423 n343 y152 y153 y154=>sQ0 N [] n326 n327 [] y152 n341 n342 y153 (λc242=>cond (c242==true) (sQ1 N x404 x405 x406 [] x421 x422 x423 y154 (λc243=>cond (c243==true) (cond ((n328==n343)==true) (sQ2 N (λc244=>k0 c244)) (k0 false)) (k0 false))) (k0 false)))))) (λn329 n330 x407 x408 x409 n331 y147=>sQ3 N UE (λx424=>sQ3 N UG (λx425=>jZ N Ym rows rows W5 h_8 x424 x425 (λn344 n345 x426 x427 x428 n346=>sQ0 N [] n329 n330 [] [] n344 n345 [] (λc245=>cond (c245==true) (sQ1 N x407 x408 x409 y147 x426 x427 x428 [] (λc246=>cond (c246==true) (cond ((n331==n346)==true) (sQ2 N (λc247=>k0 c247)) (k0 false)) (k0 false))) (k0 false))) (λn347 n348 x429 x430 x431 n349 y155=>sQ0 N [] n329 n330 [] [] n347 n348 [] (λc248=>cond (c248==true) (sQ1 N x407 x408 x409 y147 x429 x430 x431 y155 (λc249=>cond (c249==true) (cond ((n331==n349)==true) (sQ2 N (λc250=>k0 c250)) (k0 false)) (k0 false))) (k0 false))) (λn350 n351 x432 x433 x434 n352 y156 y157 y158=>sQ0 N [] n329 n330 [] y156 n350 n351 y157 (λc251=>cond (c251==true) (sQ1 N x407 x408 x409 y147 x432 x433 x434 y158 (λc252=>cond (c252==true) (cond ((n331==n352)==true) (sQ2 N (λc253=>k0 c253)) (k0 false)) (k0 false))) (k0 false)))))) (λn332 n333 x410 x411 x412 n334 y148 y149 y150=>sQ3 N UE (λx435=>sQ3 N UG (λx436=>jZ N Ym rows rows W5 h_8 x435 x436 (λn353 n354 x437 x438 x439 n355=>sQ0 N y148 n332 n333 y149 [] n353 n354 [] (λc254=>cond (c254==true) (sQ1 N x410 x411 x412 y150 x437 x438 x439 [] (λc255=>cond (c255==true) (cond ((n334==n355)==true) (sQ2 N (λc256=>k0 c256)) (k0 false)) (k0 false))) (k0 false))) (λn356 n357 x440 x441 x442 n358 y159=>sQ0 N y148 n332 n333 y149 [] n356 n357 [] (λc257=>cond (c257==true) (sQ1 N x410 x411 x412 y150 x440 x441 x442 y159 (λc258=>cond (c258==true) (cond ((n334==n358)==true) (sQ2 N (λc259=>k0 c259)) (k0 false)) (k0 false))) (k0 false))) (λn359 n360 x443 x444 x445 n361 y160 y161 y162=>sQ0 N y148 n332 n333 y149 y160 n359 n360 y161 (λc260=>cond (c260==true) (sQ1 N x410 x411 x412 y150 x443 x444 x445 y162 (λc261=>cond (c261==true) (cond ((n334==n361)==true) (sQ2 N (λc262=>k0 c262)) (k0 false)) (k0 false))) (k0 false)))))))))
def RX (N:Nat) (x:LI) (rows:Int) (p U5:LI) (UE UG:Int) (Yl W4 h_7 Yp We Zb:LF) (YA YB:Int) (YT YU YV:Fl) (WA:LF) (VA VQ:Int) (aau aav aaw:Fl) (k0:Kz1):Bool:=
 (sQ3 N UE (λx358=>sQ3 N UG (λx359=>bJ N Yl rows rows W4 h_7 x358 x359 (λn290 n291 x360 x361 x362 n292=>sQ3 N UE (λx369=>sQ3 N UG (λx370=>jZ N Yl rows rows W4 h_7 x369 x370 (λn299 n300 x371 x372 x373 n301=>sQ0 N [] n290 n291 [] [] n299 n300 [] (λc209=>cond (c209==true) (sQ1 N x360 x361 x362 [] x371 x372 x373 [] (λc210=>cond (c210==true) (cond ((n292==n301)==true) (sQ2 N (λc211=>k0 c211)) (k0 false)) (k0 false))) (k0 false))) (λn302 n303 x374 x375 x376 n304 y135=>sQ0 N [] n290 n291 [] [] n302 n303 [] (λc212=>cond (c212==true) (sQ1 N x360 x361 x362 [] x374 x375 x376 y135 (λc213=>cond (c213==true) (cond ((n292==n304)==true) (sQ2 N (λc214=>k0 c214)) (k0 false)) (k0 false))) (k0 false))) (λn305 n306 x377 x378 x379 n307 y136 y137 y138=>sQ0 N [] n290 n291 [] y136 n305 n306 y137 (λc215=>cond (c215==true) (sQ1 N x360 x361 x362 [] x377 x378 x379 y138 (λc216=>cond (c216==true) (cond ((n292==n307)==true) (sQ2 N (λc217=>k0 c217)) (k0 false)) (k0 false))) (k0 false)))))) (λn293 n294 x363 x364 x365 n295 y131=>sQ3 N UE (λx380=>sQ3 N UG (λx381=>jZ N Yl rows rows W4 h_7 x380 x381 (λn308 n309 x382 x383 x384 n310=>sQ0 N [] n293 n294 [] [] n308 n309 [] (λc218=>cond (c218==true) (sQ1 N x363 x364 x365 y131 x382 x383 x384 [] (λc219=>cond (c219==true) (cond ((n295==n310)==true) (sQ2 N (λc220=>k0 c220)) (k0 false)) (k0 false))) (k0 false))) (λn311 n312 x385 x386 x387 n313 y139=>sQ0 N [] n293 n294 [] [] n311 n312 [] (λc221=>cond (c221==true) (sQ1 N x363 x364 x365 y131 x385 x386 x387 y139 (λc222=>cond (c222==true) (cond ((n295==n313)==true) (sQ2 N (λc223=>k0 c223)) (k0 false)) (k0 false))) (k0 false))) (λn314 n315 x388 x389 x390 n316 y140 y141 y142=>sQ0 N [] n293 n294 [] y140 n314 n315 y141 (λc224=>cond (c224==true) (sQ1 N x363 x364 x365 y131 x388 x389 x390 y142 (λc225=>cond (c225==true) (cond ((n295==n316)==true) (sQ2 N (λc226=>k0 c226)) (k0 false)) (k0 false))) (k0 false)))))) (λn296 n297 x366 x367 x368 n298 y132 y133 y134=>sQ3 N UE (λx391=>sQ3 N UG (λx392=>jZ N Yl rows rows W4 h_7 x391 x392 (λn317 n318 x393 x394 x395 n319=>sQ0 N y132 n296 n297 y133 [] n317 n318 [] (λc227=>cond (c227==true) (sQ1 N x366 x367 x368 y134 x393 x394 x395 [] (λc228=>cond (c228==true) (cond ((n298==n319)==true) (sQ2 N (λc229=>k0 c229)) (k0 false)) (k0 false))) (k0 false))) (λn320 n321 x396 x397 x398 n322 y143=>sQ0 N y132 n296 n297 y133 [] n320 n321 [] (λc230=>cond (c230==true) (sQ1 N x366 x367 x368 y134 x396 x397 x398 y143 (λc231=>cond (c231==true) (cond ((n298==n322)==true) (sQ2 N (λc232=>k0 c232)) (k0 false)) (k0 false))) (k0 false))) (λn323 n324 x399 x400 x401 n325 y144 y145 y146=>sQ0 N y132 n296 n297 y133 y144 n323 n324 y145 (λc233=>cond (c233==true) (sQ1 N x366 x367 x368 y134 x399 x400 x401 y146 (λc234=>cond (c234==true) (cond ((n298==n325)==true) (sQ2 N (λc235=>k0 c235)) (k0 false)) (k0 false))) (k0 false)))))))))
def RW (N:Nat) (x:LI) (rows:Int) (p U5:LI) (UE UG:Int) (Yk W3 h_6 Yo b6 Yq:LF) (Yy Yz:Int) (YQ YR YS:Fl) (Ws VW:Int) (aar aas aat:Fl) (k0:Kz1):Bool:=
 (sQ3 N UE (λx314=>sQ3 N UG (λx315=>bJ N Yk rows rows W3 h_6 x314 x315 (λn254 n255 x316 x317 x318 n256=>sQ3 N UE (λx325=>sQ3 N UG (λx326=>jZ N Yk rows rows W3 h_6 x325 x326 (λn263 n264 x327 x328 x329 n265=>sQ0 N [] n254 n255 [] [] n263 n264 [] (λc182=>cond (c182==true) (sQ1 N x316 x317 x318 [] x327 x328 x329 [] (λc183=>cond (c183==true) (cond ((n256==n265)==true) (sQ2 N (λc184=>k0 c184)) (k0 false)) (k0 false))) (k0 false))) (λn266 n267 x330 x331 x332 n268 y119=>sQ0 N [] n254 n255 [] [] n266 n267 [] (λc185=>cond (c185==true) (sQ1 N x316 x317 x318 [] x330 x331 x332 y119 (λc186=>cond (c186==true) (cond ((n256==n268)==true) (sQ2 N (λc187=>k0 c187)) (k0 false)) (k0 false))) (k0 false))) (λn269 n270 x333 x334 x335 n271 y120 y121 y122=>sQ0 N [] n254 n255 [] y120 n269 n270 y121 (λc188=>cond (c188==true) (sQ1 N x316 x317 x318 [] x333 x334 x335 y122 (λc189=>cond (c189==true) (cond ((n256==n271)==true) (sQ2 N (λc190=>k0 c190)) (k0 false)) (k0 false))) (k0 false)))))) (λn257 n258 x319 x320 x321 n259 y115=>sQ3 N UE (λx336=>sQ3 N UG (λx337=>jZ N Yk rows rows W3 h_6 x336 x337 (λn272 n273 x338 x339 x340 n274=>sQ0 N [] n257 n258 [] [] n272 n273 [] (λc191=>cond (c191==true) (sQ1 N x319 x320 x321 y115 x338 x339 x340 [] (λc192=>cond (c192==true) (cond ((n259==n274)==true) (sQ2 N (λc193=>k0 c193)) (k0 false)) (k0 false))) (k0 false))) (λn275 n276 x341 x342 x343 n277 y123=>sQ0 N [] n257 n258 [] [] n275 n276 [] (λc194=>cond (c194==true) (sQ1 N x319 x320 x321 y115 x341 x342 x343 y123 (λc195=>cond (c195==true) (cond ((n259==n277)==true) (sQ2 N (λc196=>k0 c196)) (k0 false)) (k0 false))) (k0 false))) (λn278 n279 x344 x345 x346 n280 y124 y125 y126=>sQ0 N [] n257 n258 [] y124 n278 n279 y125 (λc197=>cond (c197==true) (sQ1 N x319 x320 x321 y115 x344 x345 x346 y126 (λc198=>cond (c198==true) (cond ((n259==n280)==true) (sQ2 N (λc199=>k0 c199)) (k0 false)) (k0 false))) (k0 false)))))) (λn260 n261 x322 x323 x324 n262 y116 y117 y118=>sQ3 N UE (λx347=>sQ3 N UG (λx348=>jZ N Yk rows rows W3 h_6 x347 x348 (λn281 n282 x349 x350 x351 n283=>sQ0 N y116 n260 n261 y117 [] n281 n282 [] (λc200=>cond (c200==true) (sQ1 N x322 x323 x324 y118 x349 x350 x351 [] (λc201=>cond (c201==true) (cond ((n262==n283)==true) (sQ2 N (λc202=>k0 c202)) (k0 false)) (k0 false))) (k0 false))) (λn284 n285 x352 x353 x354 n286 y127=>sQ0 N y116 n260 n261 y117 [] n284 n285 [] (λc203=>cond (c203==true) (sQ1 N x322 x323 x324 y118 x352 x353 x354 y127 (λc204=>cond (c204==true) (cond ((n262==n286)==true) (sQ2 N (λc205=>k0 c205)) (k0 false)) (k0 false))) (k0 false))) (λn287 n288 x355 x356 x357 n289 y128 y129 y130=>sQ0 N y116 n260 n261 y117 y128 n287 n288 y129 (λc206=>cond (c206==true) (sQ1 N x322 x323 x324 y118 x355 x356 x357 y130 (λc207=>cond (c207==true) (cond ((n262==n289)==true) (sQ2 N (λc208=>k0 c208)) (k0 false)) (k0 false))) (k0 false)))))))))
def RV (N:Nat) (x:LI) (rows:Int) (p U5:LI) (UE UG:Int) (Yj W2 h_5 V8:LF) (Yb Xw:Int) (YN YO YP:Fl) (X7 aac b10:LF) (VP VV:Int) (aao aap aaq:Fl) (k0:Kz1):Bool:=
 (sQ3 N UE (λx270=>sQ3 N UG (λx271=>bJ N Yj rows rows W2 h_5 x270 x271 (λn218 n219 x272 x273 x274 n220=>sQ3 N UE (λx281=>sQ3 N UG (λx282=>jZ N Yj rows rows W2 h_5 x281 x282 (λn227 n228 x283 x284 x285 n229=>sQ0 N [] n218 n219 [] [] n227 n228 [] (λc155=>cond (c155==true) (sQ1 N x272 x273 x274 [] x283 x284 x285 [] (λc156=>cond (c156==true) (cond ((n220==n229)==true) (sQ2 N (λc157=>k0 c157)) (k0 false)) (k0 false))) (k0 false))) (λn230 n231 x286 x287 x288 n232 y103=>sQ0 N [] n218 n219 [] [] n230 n231 [] (λc158=>cond (c158==true) (sQ1 N x272 x273 x274 [] x286 x287 x288 y103 (λc159=>cond (c159==true) (cond ((n220==n232)==true) (sQ2 N (λc160=>k0 c160)) (k0 false)) (k0 false))) (k0 false))) (λn233 n234 x289 x290 x291 n235 y104 y105 y106=>sQ0 N [] n218 n219 [] y104 n233 n234 y105 (λc161=>cond (c161==true) (sQ1 N x272 x273 x274 [] x289 x290 x291 y106 (λc162=>cond (c162==true) (cond ((n220==n235)==true) (sQ2 N (λc163=>k0 c163)) (k0 false)) (k0 false))) (k0 false)))))) (λn221 n222 x275 x276 x277 n223 y99=>sQ3 N UE (λx292=>sQ3 N UG (λx293=>jZ N Yj rows rows W2 h_5 x292 x293 (λn236 n237 x294 x295 x296 n238=>sQ0 N [] n221 n222 [] [] n236 n237 [] (λc164=>cond (c164==true) (sQ1 N x275 x276 x277 y99 x294 x295 x296 [] (λc165=>cond (c165==true) (cond ((n223==n238)==true) (sQ2 N (λc166=>k0 c166)) (k0 false)) (k0 false))) (k0 false))) (λn239 n240 x297 x298 x299 n241 y107=>sQ0 N [] n221 n222 [] [] n239 n240 [] (λc167=>cond (c167==true) (sQ1 N x275 x276 x277 y99 x297 x298 x299 y107 (λc168=>cond (c168==true) (cond ((n223==n241)==true) (sQ2 N (λc169=>k0 c169)) (k0 false)) (k0 false))) (k0 false))) (λn242 n243 x300 x301 x302 n244 y108 y109 y110=>sQ0 N [] n221 n222 [] y108 n242 n243 y109 (λc170=>cond (c170==true) (sQ1 N x275 x276 x277 y99 x300 x301 x302 y110 (λc171=>cond (c171==true) (cond ((n223==n244)==true) (sQ2 N (λc172=>k0 c172)) (k0 false)) (k0 false))) (k0 false)))))) (λn224 n225 x278 x279 x280 n226 y100 y101 y102=>sQ3 N UE (λx303=>sQ3 N UG (λx304=>jZ N Yj rows rows W2 h_5 x303 x304 (λn245 n246 x305 x306 x307 n247=>sQ0 N y100 n224 n225 y101 [] n245 n246 [] (λc173=>cond (c173==true) (sQ1 N x278 x279 x280 y102 x305 x306 x307 [] (λc174=>cond (c174==true) (cond ((n226==n247)==true) (sQ2 N (λc175=>k0 c175)) (k0 false)) (k0 false))) (k0 false))) (λn248 n249 x308 x309 x310 n250 y111=>sQ0 N y100 n224 n225 y101 [] n248 n249 [] (λc176=>cond (c176==true) (sQ1 N x278 x279 x280 y102 x308 x309 x310 y111 (λc177=>cond (c177==true) (cond ((n226==n250)==true) (sQ2 N (λc178=>k0 c178)) (k0 false)) (k0 false))) (k0 false))) (λn251 n252 x311 x312 x313 n253 y112 y113 y114=>sQ0 N y100 n224 n225 y101 y112 n251 n252 y113 (λc179=>cond (c179==true) (sQ1 N x278 x279 x280 y102 x311 x312 x313 y114 (λc180=>cond (c180==true) (cond ((n226==n253)==true) (sQ2 N (λc181=>k0 c181)) (k0 false)) (k0 false))) (k0 false)))))))))
def RU (N:Nat) (x:LI) (rows:Int) (p U5:LI) (UE UG:Int) (Yi W1 h_4 U8:LF) (t_8 t_9:Int) (YK YL YM:Fl) (YH:LF) (XH XJ:Int) (aal aam aan:Fl) (k0:Kz1):Bool:=
 (sQ3 N UE (λx226=>sQ3 N UG (λx227=>bJ N Yi rows rows W1 h_4 x226 x227 (λn182 n183 x228 x229 x230 n184=>sQ3 N UE (λx237=>sQ3 N UG (λx238=>jZ N Yi rows rows W1 h_4 x237 x238 (λn191 n192 x239 x240 x241 n193=>sQ0 N [] n182 n183 [] [] n191 n192 [] (λc128=>cond (c128==true) (sQ1 N x228 x229 x230 [] x239 x240 x241 [] (λc129=>cond (c129==true) (cond ((n184==n193)==true) (sQ2 N (λc130=>k0 c130)) (k0 false)) (k0 false))) (k0 false))) (λn194 n195 x242 x243 x244 n196 y87=>sQ0 N [] n182 n183 [] [] n194 n195 [] (λc131=>cond (c131==true) (sQ1 N x228 x229 x230 [] x242 x243 x244 y87 (λc132=>cond (c132==true) (cond ((n184==n196)==true) (sQ2 N (λc133=>k0 c133)) (k0 false)) (k0 false))) (k0 false))) (λn197 n198 x245 x246 x247 n199 y88 y89 y90=>sQ0 N [] n182 n183 [] y88 n197 n198 y89 (λc134=>cond (c134==true) (sQ1 N x228 x229 x230 [] x245 x246 x247 y90 (λc135=>cond (c135==true) (cond ((n184==n199)==true) (sQ2 N (λc136=>k0 c136)) (k0 false)) (k0 false))) (k0 false)))))) (λn185 n186 x231 x232 x233 n187 y83=>sQ3 N UE (λx248=>sQ3 N UG (λx249=>jZ N Yi rows rows W1 h_4 x248 x249 (λn200 n201 x250 x251 x252 n202=>sQ0 N [] n185 n186 [] [] n200 n201 [] (λc137=>cond (c137==true) (sQ1 N x231 x232 x233 y83 x250 x251 x252 [] (λc138=>cond (c138==true) (cond ((n187==n202)==true) (sQ2 N (λc139=>k0 c139)) (k0 false)) (k0 false))) (k0 false))) (λn203 n204 x253 x254 x255 n205 y91=>sQ0 N [] n185 n186 [] [] n203 n204 [] (λc140=>cond (c140==true) (sQ1 N x231 x232 x233 y83 x253 x254 x255 y91 (λc141=>cond (c141==true) (cond ((n187==n205)==true) (sQ2 N (λc142=>k0 c142)) (k0 false)) (k0 false))) (k0 false))) (λn206 n207 x256 x257 x258 n208 y92 y93 y94=>sQ0 N [] n185 n186 [] y92 n206 n207 y93 (λc143=>cond (c143==true) (sQ1 N x231 x232 x233 y83 x256 x257 x258 y94 (λc144=>cond (c144==true) (cond ((n187==n208)==true) (sQ2 N (λc145=>k0 c145)) (k0 false)) (k0 false))) (k0 false)))))) (λn188 n189 x234 x235 x236 n190 y84 y85 y86=>sQ3 N UE (λx259=>sQ3 N UG (λx260=>jZ N Yi rows rows W1 h_4 x259 x260 (λn209 n210 x261 x262 x263 n211=>sQ0 N y84 n188 n189 y85 [] n209 n210 [] (λc146=>cond (c146==true) (sQ1 N x234 x235 x236 y86 x261 x262 x263 [] (λc147=>cond (c147==true) (cond ((n190==n211)==true) (sQ2 N (λc148=>k0 c148)) (k0 false)) (k0 false))) (k0 false))) (λn212 n213 x264 x265 x266 n214 y95=>sQ0 N y84 n188 n189 y85 [] n212 n213 [] (λc149=>cond (c149==true) (sQ1 N x234 x235 x236 y86 x264 x265 x266 y95 (λc150=>cond (c150==true) (cond ((n190==n214)==true) (sQ2 N (λc151=>k0 c151)) (k0 false)) (k0 false))) (k0 false))) (λn215 n216 x267 x268 x269 n217 y96 y97 y98=>sQ0 N y84 n188 n189 y85 y96 n215 n216 y97 (λc152=>cond (c152==true) (sQ1 N x234 x235 x236 y86 x267 x268 x269 y98 (λc153=>cond (c153==true) (cond ((n190==n217)==true) (sQ2 N (λc154=>k0 c154)) (k0 false)) (k0 false))) (k0 false)))))))))
def RS (N:Nat) (x:LI) (rows:Int) (p U5:LI) (UE UG:Int) (Ww V3 Z2 b5:LF) (t_6 t_7:Int) (aai YI YJ:Fl) (Xp Yd:Int) (l_9 aaj aak:Fl) (k0:Kz1):Bool:=
 (sQ3 N UE (λx182=>sQ3 N UG (λx183=>bJ N Ww rows rows V3 Z2 x182 x183 (λn146 n147 x184 x185 x186 n148=>sQ3 N UE (λx193=>sQ3 N UG (λx194=>jZ N Ww rows rows V3 Z2 x193 x194 (λn155 n156 x195 x196 x197 n157=>sQ0 N [] n146 n147 [] [] n155 n156 [] (λc101=>cond (c101==true) (sQ1 N x184 x185 x186 [] x195 x196 x197 [] (λc102=>cond (c102==true) (cond ((n148==n157)==true) (sQ2 N (λc103=>k0 c103)) (k0 false)) (k0 false))) (k0 false))) (λn158 n159 x198 x199 x200 n160 y71=>sQ0 N [] n146 n147 [] [] n158 n159 [] (λc104=>cond (c104==true) (sQ1 N x184 x185 x186 [] x198 x199 x200 y71 (λc105=>cond (c105==true) (cond ((n148==n160)==true) (sQ2 N (λc106=>k0 c106)) (k0 false)) (k0 false))) (k0 false))) (λn161 n162 x201 x202 x203 n163 y72 y73 y74=>sQ0 N [] n146 n147 [] y72 n161 n162 y73 (λc107=>cond (c107==true) (sQ1 N x184 x185 x186 [] x201 x202 x203 y74 (λc108=>cond (c108==true) (cond ((n148==n163)==true) (sQ2 N (λc109=>k0 c109)) (k0 false)) (k0 false))) (k0 false)))))) (λn149 n150 x187 x188 x189 n151 y67=>sQ3 N UE (λx204=>sQ3 N UG (λx205=>jZ N Ww rows rows V3 Z2 x204 x205 (λn164 n165 x206 x207 x208 n166=>sQ0 N [] n149 n150 [] [] n164 n165 [] (λc110=>cond (c110==true) (sQ1 N x187 x188 x189 y67 x206 x207 x208 [] (λc111=>cond (c111==true) (cond ((n151==n166)==true) (sQ2 N (λc112=>k0 c112)) (k0 false)) (k0 false))) (k0 false))) (λn167 n168 x209 x210 x211 n169 y75=>sQ0 N [] n149 n150 [] [] n167 n168 [] (λc113=>cond (c113==true) (sQ1 N x187 x188 x189 y67 x209 x210 x211 y75 (λc114=>cond (c114==true) (cond ((n151==n169)==true) (sQ2 N (λc115=>k0 c115)) (k0 false)) (k0 false))) (k0 false))) (λn170 n171 x212 x213 x214 n172 y76 y77 y78=>sQ0 N [] n149 n150 [] y76 n170 n171 y77 (λc116=>cond (c116==true) (sQ1 N x187 x188 x189 y67 x212 x213 x214 y78 (λc117=>cond (c117==true) (cond ((n151==n172)==true) (sQ2 N (λc118=>k0 c118)) (k0 false)) (k0 false))) (k0 false)))))) (λn152 n153 x190 x191 x192 n154 y68 y69 y70=>sQ3 N UE (λx215=>sQ3 N UG (λx216=>jZ N Ww rows rows V3 Z2 x215 x216 (λn173 n174 x217 x218 x219 n175=>sQ0 N y68 n152 n153 y69 [] n173 n174 [] (λc119=>cond (c119==true) (sQ1 N x190 x191 x192 y70 x217 x218 x219 [] (λc120=>cond (c120==true) (cond ((n154==n175)==true) (sQ2 N (λc121=>k0 c121)) (k0 false)) (k0 false))) (k0 false))) (λn176 n177 x220 x221 x222 n178 y79=>sQ0 N y68 n152 n153 y69 [] n176 n177 [] (λc122=>cond (c122==true) (sQ1 N x190 x191 x192 y70 x220 x221 x222 y79 (λc123=>cond (c123==true) (cond ((n154==n178)==true) (sQ2 N (λc124=>k0 c124)) (k0 false)) (k0 false))) (k0 false))) (λn179 n180 x223 x224 x225 n181 y80 y81 y82=>sQ0 N y68 n152 n153 y69 y80 n179 n180 y81 (λc125=>cond (c125==true) (sQ1 N x190 x191 x192 y70 x223 x224 x225 y82 (λc126=>cond (c126==true) (cond ((n154==n181)==true) (sQ2 N (λc127=>k0 c127)) (k0 false)) (k0 false))) (k0 false)))))))))
def RQ (N:Nat) (x:LI) (rows:Int) (p U5:LI) (UE UG:Int) (VT Vz WW:LF) (t_4 t_5:Int) (Y0 aag aah:Fl) (Wo b8 b9:LF) (WZ Xt:Int) (l_6 l_7 l_8:Fl) (k0:Kz1):Bool:=
 (sQ3 N UE (λx138=>sQ3 N UG (λx139=>bJ N VT rows rows Vz WW x138 x139 (λn110 n111 x140 x141 x142 n112=>sQ3 N UE (λx149=>sQ3 N UG (λx150=>jZ N VT rows rows Vz WW x149 x150 (λn119 n120 x151 x152 x153 n121=>sQ0 N [] n110 n111 [] [] n119 n120 [] (λc74=>cond (c74==true) (sQ1 N x140 x141 x142 [] x151 x152 x153 [] (λc75=>cond (c75==true) (cond ((n112==n121)==true) (sQ2 N (λc76=>k0 c76)) (k0 false)) (k0 false))) (k0 false))) (λn122 n123 x154 x155 x156 n124 y55=>sQ0 N [] n110 n111 [] [] n122 n123 [] (λc77=>cond (c77==true) (sQ1 N x140 x141 x142 [] x154 x155 x156 y55 (λc78=>cond (c78==true) (cond ((n112==n124)==true) (sQ2 N (λc79=>k0 c79)) (k0 false)) (k0 false))) (k0 false))) (λn125 n126 x157 x158 x159 n127 y56 y57 y58=>sQ0 N [] n110 n111 [] y56 n125 n126 y57 (λc80=>cond (c80==true) (sQ1 N x140 x141 x142 [] x157 x158 x159 y58 (λc81=>cond (c81==true) (cond ((n112==n127)==true) (sQ2 N (λc82=>k0 c82)) (k0 false)) (k0 false))) (k0 false)))))) (λn113 n114 x143 x144 x145 n115 y51=>sQ3 N UE (λx160=>sQ3 N UG (λx161=>jZ N VT rows rows Vz WW x160 x161 (λn128 n129 x162 x163 x164 n130=>sQ0 N [] n113 n114 [] [] n128 n129 [] (λc83=>cond (c83==true) (sQ1 N x143 x144 x145 y51 x162 x163 x164 [] (λc84=>cond (c84==true) (cond ((n115==n130)==true) (sQ2 N (λc85=>k0 c85)) (k0 false)) (k0 false))) (k0 false))) (λn131 n132 x165 x166 x167 n133 y59=>sQ0 N [] n113 n114 [] [] n131 n132 [] (λc86=>cond (c86==true) (sQ1 N x143 x144 x145 y51 x165 x166 x167 y59 (λc87=>cond (c87==true) (cond ((n115==n133)==true) (sQ2 N (λc88=>k0 c88)) (k0 false)) (k0 false))) (k0 false))) (λn134 n135 x168 x169 x170 n136 y60 y61 y62=>sQ0 N [] n113 n114 [] y60 n134 n135 y61 (λc89=>cond (c89==true) (sQ1 N x143 x144 x145 y51 x168 x169 x170 y62 (λc90=>cond (c90==true) (cond ((n115==n136)==true) (sQ2 N (λc91=>k0 c91)) (k0 false)) (k0 false))) (k0 false)))))) (λn116 n117 x146 x147 x148 n118 y52 y53 y54=>sQ3 N UE (λx171=>sQ3 N UG (λx172=>jZ N VT rows rows Vz WW x171 x172 (λn137 n138 x173 x174 x175 n139=>sQ0 N y52 n116 n117 y53 [] n137 n138 [] (λc92=>cond (c92==true) (sQ1 N x146 x147 x148 y54 x173 x174 x175 [] (λc93=>cond (c93==true) (cond ((n118==n139)==true) (sQ2 N (λc94=>k0 c94)) (k0 false)) (k0 false))) (k0 false))) (λn140 n141 x176 x177 x178 n142 y63=>sQ0 N y52 n116 n117 y53 [] n140 n141 [] (λc95=>cond (c95==true) (sQ1 N x146 x147 x148 y54 x176 x177 x178 y63 (λc96=>cond (c96==true) (cond ((n118==n142)==true) (sQ2 N (λc97=>k0 c97)) (k0 false)) (k0 false))) (k0 false))) (λn143 n144 x179 x180 x181 n145 y64 y65 y66=>sQ0 N y52 n116 n117 y53 y64 n143 n144 y65 (λc98=>cond (c98==true) (sQ1 N x146 x147 x148 y54 x179 x180 x181 y66 (λc99=>cond (c99==true) (cond ((n118==n145)==true) (sQ2 N (λc100=>k0 c100)) (k0 false)) (k0 false))) (k0 false)))))))))
def RP (N:Nat) (x:LI) (rows:Int) (p U5:LI) (UE UG:Int) (WD VJ Z1:LF) (Wk Wl:Int) (W6 VM YZ:Fl) (b7:LF) (Vy V0:Int) (l_3 l_4 l_5:Fl) (k0:Kz1):Bool:=
 (sQ3 N UE (λx94=>sQ3 N UG (λx95=>bJ N WD rows rows VJ Z1 x94 x95 (λn74 n75 x96 x97 x98 n76=>sQ3 N UE (λx105=>sQ3 N UG (λx106=>jZ N WD rows rows VJ Z1 x105 x106 (λn83 n84 x107 x108 x109 n85=>sQ0 N [] n74 n75 [] [] n83 n84 [] (λc47=>cond (c47==true) (sQ1 N x96 x97 x98 [] x107 x108 x109 [] (λc48=>cond (c48==true) (cond ((n76==n85)==true) (sQ2 N (λc49=>k0 c49)) (k0 false)) (k0 false))) (k0 false))) (λn86 n87 x110 x111 x112 n88 y39=>sQ0 N [] n74 n75 [] [] n86 n87 [] (λc50=>cond (c50==true) (sQ1 N x96 x97 x98 [] x110 x111 x112 y39 (λc51=>cond (c51==true) (cond ((n76==n88)==true) (sQ2 N (λc52=>k0 c52)) (k0 false)) (k0 false))) (k0 false))) (λn89 n90 x113 x114 x115 n91 y40 y41 y42=>sQ0 N [] n74 n75 [] y40 n89 n90 y41 (λc53=>cond (c53==true) (sQ1 N x96 x97 x98 [] x113 x114 x115 y42 (λc54=>cond (c54==true) (cond ((n76==n91)==true) (sQ2 N (λc55=>k0 c55)) (k0 false)) (k0 false))) (k0 false)))))) (λn77 n78 x99 x100 x101 n79 y35=>sQ3 N UE (λx116=>sQ3 N UG (λx117=>jZ N WD rows rows VJ Z1 x116 x117 (λn92 n93 x118 x119 x120 n94=>sQ0 N [] n77 n78 [] [] n92 n93 [] (λc56=>cond (c56==true) (sQ1 N x99 x100 x101 y35 x118 x119 x120 [] (λc57=>cond (c57==true) (cond ((n79==n94)==true) (sQ2 N (λc58=>k0 c58)) (k0 false)) (k0 false))) (k0 false))) (λn95 n96 x121 x122 x123 n97 y43=>sQ0 N [] n77 n78 [] [] n95 n96 [] (λc59=>cond (c59==true) (sQ1 N x99 x100 x101 y35 x121 x122 x123 y43 (λc60=>cond (c60==true) (cond ((n79==n97)==true) (sQ2 N (λc61=>k0 c61)) (k0 false)) (k0 false))) (k0 false))) (λn98 n99 x124 x125 x126 n100 y44 y45 y46=>sQ0 N [] n77 n78 [] y44 n98 n99 y45 (λc62=>cond (c62==true) (sQ1 N x99 x100 x101 y35 x124 x125 x126 y46 (λc63=>cond (c63==true) (cond ((n79==n100)==true) (sQ2 N (λacq=>k0 acq)) (k0 false)) (k0 false))) (k0 false)))))) (λn80 n81 x102 x103 x104 n82 y36 y37 y38=>sQ3 N UE (λx127=>sQ3 N UG (λx128=>jZ N WD rows rows VJ Z1 x127 x128 (λn101 n102 x129 x130 x131 n103=>sQ0 N y36 n80 n81 y37 [] n101 n102 [] (λc65=>cond (c65==true) (sQ1 N x102 x103 x104 y38 x129 x130 x131 [] (λc66=>cond (c66==true) (cond ((n82==n103)==true) (sQ2 N (λc67=>k0 c67)) (k0 false)) (k0 false))) (k0 false))) (λn104 n105 x132 x133 x134 n106 y47=>sQ0 N y36 n80 n81 y37 [] n104 n105 [] (λc68=>cond (c68==true) (sQ1 N x102 x103 x104 y38 x132 x133 x134 y47 (λc69=>cond (c69==true) (cond ((n82==n106)==true) (sQ2 N (λc70=>k0 c70)) (k0 false)) (k0 false))) (k0 false))) (λn107 n108 x135 x136 x137 n109 y48 y49 y50=>sQ0 N y36 n80 n81 y37 y48 n107 n108 y49 (λc71=>cond (c71==true) (sQ1 N x102 x103 x104 y38 x135 x136 x137 y50 (λc72=>cond (c72==true) (cond ((n82==n109)==true) (sQ2 N (λc73=>k0 c73)) (k0 false)) (k0 false))) (k0 false)))))))))
def Pk (N:Nat) (x:LI) (rows:Int) (p U5:LI) (UE UG:Int) (b1 b2 h:LF) (t VG:Int) (k_ VK Wg:Fl) (u Vc:Int) (l l_1 l_2:Fl) (k0:Kz1):Bool:=
 (sQ3 N UE (λx50=>sQ3 N UG (λx51=>bJ N b1 rows rows b2 h x50 x51 (λn38 n39 x52 x53 x54 n40=>sQ3 N UE (λx61=>sQ3 N UG (λx62=>jZ N b1 rows rows b2 h x61 x62 (λn47 n48 x63 x64 x65 n49=>sQ0 N [] n38 n39 [] [] n47 n48 [] (λc20=>cond (c20==true) (sQ1 N x52 x53 x54 [] x63 x64 x65 [] (λc21=>cond (c21==true) (cond ((n40==n49)==true) (sQ2 N (λc22=>k0 c22)) (k0 false)) (k0 false))) (k0 false))) (λn50 n51 x66 x67 x68 n52 y23=>sQ0 N [] n38 n39 [] [] n50 n51 [] (λaco=>cond (aco==true) (sQ1 N x52 x53 x54 [] x66 x67 x68 y23 (λc24=>cond (c24==true) (cond ((n40==n52)==true) (sQ2 N (λc25=>k0 c25)) (k0 false)) (k0 false))) (k0 false))) (λn53 n54 x69 x70 x71 n55 y24 y25 y26=>sQ0 N [] n38 n39 [] y24 n53 n54 y25 (λc26=>cond (c26==true) (sQ1 N x52 x53 x54 [] x69 x70 x71 y26 (λc27=>cond (c27==true) (cond ((n40==n55)==true) (sQ2 N (λc28=>k0 c28)) (k0 false)) (k0 false))) (k0 false)))))) (λn41 n42 x55 x56 x57 n43 y19=>sQ3 N UE (λx72=>sQ3 N UG (λx73=>jZ N b1 rows rows b2 h x72 x73 (λn56 n57 x74 x75 x76 n58=>sQ0 N [] n41 n42 [] [] n56 n57 [] (λc29=>cond (c29==true) (sQ1 N x55 x56 x57 y19 x74 x75 x76 [] (λc30=>cond (c30==true) (cond ((n43==n58)==true) (sQ2 N (λc31=>k0 c31)) (k0 false)) (k0 false))) (k0 false))) (λn59 n60 x77 x78 x79 n61 y27=>sQ0 N [] n41 n42 [] [] n59 n60 [] (λacp=>cond (acp==true) (sQ1 N x55 x56 x57 y19 x77 x78 x79 y27 (λc33=>cond (c33==true) (cond ((n43==n61)==true) (sQ2 N (λc34=>k0 c34)) (k0 false)) (k0 false))) (k0 false))) (λn62 n63 x80 x81 x82 n64 y28 y29 ab3=>sQ0 N [] n41 n42 [] y28 n62 n63 y29 (λc35=>cond (c35==true) (sQ1 N x55 x56 x57 y19 x80 x81 x82 ab3 (λc36=>cond (c36==true) (cond ((n43==n64)==true) (sQ2 N (λc37=>k0 c37)) (k0 false)) (k0 false))) (k0 false)))))) (λn44 n45 x58 x59 x60 n46 y20 y21 y22=>sQ3 N UE (λx83=>sQ3 N UG (λx84=>jZ N b1 rows rows b2 h x83 x84 (λn65 n66 x85 x86 x87 n67=>sQ0 N y20 n44 n45 y21 [] n65 n66 [] (λc38=>cond (c38==true) (sQ1 N x58 x59 x60 y22 x85 x86 x87 [] (λc39=>cond (c39==true) (cond ((n46==n67)==true) (sQ2 N (λc40=>k0 c40)) (k0 false)) (k0 false))) (k0 false))) (λn68 n69 x88 x89 x90 n70 ab4=>sQ0 N y20 n44 n45 y21 [] n68 n69 [] (λc41=>cond (c41==true) (sQ1 N x58 x59 x60 y22 x88 x89 x90 ab4 (λc42=>cond (c42==true) (cond ((n46==n70)==true) (sQ2 N (λc43=>k0 c43)) (k0 false)) (k0 false))) (k0 false))) (λn71 n72 x91 x92 x93 n73 ab5 y33 y34=>sQ0 N y20 n44 n45 y21 ab5 n71 n72 y33 (λc44=>cond (c44==true) (sQ1 N x58 x59 x60 y22 x91 x92 x93 y34 (λc45=>cond (c45==true) (cond ((n46==n73)==true) (sQ2 N (λc46=>k0 c46)) (k0 false)) (k0 false))) (k0 false)))))))))
def GQ4 (N:Nat) (x:LI) (rows:Int) (p U5:LI) (UE UG:Int) (k0:Kz1):Bool:=
 (Ni N x rows rows p (λxsr UB=>kK N U5 (λUO=>sQ3 N UE (λxr=>iw N xsr rows rows UB UO xr (λUC UM nr=>sQ3 N UE (λVp=>GS N xsr rows rows UB UO Vp (λUW U0 Ut=>zC N UC UW (λcr=>cond ((!cr)==false) (zC N UM U0 (λUu=>cond ((!Uu)==false) (cond (nr != Ut) (k0 false) (sQ3 N UE (λWh=>sQ3 N UG (λWi=>f_ N xsr rows rows UB UO Wh Wi (λUx UK Vw VX Vh UP=>sQ3 N UE (λYe=>sQ3 N UG (λx18=>wG N xsr rows rows UB UO Ye x18 (λn11 n12 x19 x20 Xq n13=>sQ0 N [] Ux UK [] [] n11 n12 [] (λUS=>cond ((!US)==false) (sQ1 N Vw VX Vh [] x19 x20 Xq [] (λU9=>cond ((!U9)==false) (cond (UP != n13) (k0 false) (Pk N x rows p U5 UE UG xsr UB UO Ux UK Vw VX Vh n11 n12 x19 x20 Xq k0)) (k0 false))) (k0 false))) (λn14 n15 x22 x23 x24 n16 Y7=>sQ0 N [] Ux UK [] [] n14 n15 [] (λVC=>cond ((!VC)==false) (sQ1 N Vw VX Vh [] x22 x23 x24 Y7 (λWq=>cond ((!Wq)==false) (cond (UP != n16) (k0 false) (RP N x rows p U5 UE UG xsr UB UO Ux UK Vw VX Vh Y7 n14 n15 x22 x23 x24 k0)) (k0 false))) (k0 false))) (λn17 n18 x25 x26 x27 n19 Y8 Y9 X4=>sQ0 N [] Ux UK [] Y8 n17 n18 Y9 (λWG=>cond ((!WG)==false) (sQ1 N Vw VX Vh [] x25 x26 x27 X4 (λWE=>cond ((!WE)==false) (cond (UP != n19) (k0 false) (RQ N x rows p U5 UE UG xsr UB UO Ux UK Vw VX Vh Y8 Y9 X4 n17 n18 x25 x26 x27 k0)) (k0 false))) (k0 false)))))) (λn5 n6 Vi Vj Vk n7 Vd=>sQ3 N UE (λx28=>sQ3 N UG (λx29=>wG N xsr rows rows UB UO x28 x29 (λn20 n21 x30 x31 x32 n22=>sQ0 N [] n5 n6 [] [] n20 n21 [] (λc8=>cond ((!c8)==false) (sQ1 N Vi Vj Vk Vd x30 x31 x32 [] (λc9=>cond ((!c9)==false) (cond (n7 != n22) (k0 false) (RS N x rows p U5 UE UG xsr UB UO Vd n5 n6 Vi Vj Vk n20 n21 x30 x31 x32 k0)) (k0 false))) (k0 false))) (λn23 n24 x33 x34 x35 n25 y11=>sQ0 N [] n5 n6 [] [] n23 n24 [] (λc10=>cond ((!c10)==false) (sQ1 N Vi Vj Vk Vd x33 x34 x35 y11 (λc11=>cond ((!c11)==false) (cond (n7 != n25) (k0 false) (RU N x rows p U5 UE UG xsr UB UO Vd n5 n6 Vi Vj Vk y11 n23 n24 x33 x34 x35 k0)) (k0 false))) (k0 false))) (λn26 n27 x36 x37 x38 n28 y12 y13 y14=>sQ0 N [] n5 n6 [] y12 n26 n27 y13 (λc12=>cond ((!c12)==false) (sQ1 N Vi Vj Vk Vd x36 x37 x38 y14 (λc13=>cond ((!c13)==false) (cond (n7 != n28) (k0 false) (RV N x rows p U5 UE UG xsr UB UO Vd n5 n6 Vi Vj Vk y12 y13 y14 n26 n27 x36 x37 x38 k0)) (k0 false))) (k0 false)))))) (λn8 n9 Vl Vm Vn n10 VR VS Wu=>sQ3 N UE (λx39=>sQ3 N UG (λx40=>wG N xsr rows rows UB UO x39 x40 (λn29 W7 x41 x42 x43 W8=>sQ0 N VR n8 n9 VS [] n29 W7 [] (λc14=>cond ((!c14)==false) (sQ1 N Vl Vm Vn Wu x41 x42 x43 [] (λc15=>cond ((!c15)==false) (cond (n10 != W8) (k0 false) (RW N x rows p U5 UE UG xsr UB UO VR VS Wu n8 n9 Vl Vm Vn n29 W7 x41 x42 x43 k0)) (k0 false))) (k0 false))) (λW9 n33 x44 x45 x46 n34 y15=>sQ0 N VR n8 n9 VS [] W9 n33 [] (λc16=>cond ((!c16)==false) (sQ1 N Vl Vm Vn Wu x44 x45 x46 y15 (λc17=>cond ((!c17)==false) (cond (n10 != n34) (k0 false) (RX N x rows p U5 UE UG xsr UB UO VR VS Wu n8 n9 Vl Vm Vn y15 W9 n33 x44 x45 x46 k0)) (k0 false))) (k0 false))) (λn35 n36 x47 x48 x49 n37 y16 y17 y18=>sQ0 N VR n8 n9 VS y16 n35 n36 y17 (λc18=>cond ((!c18)==false) (sQ1 N Vl Vm Vn Wu x47 x48 x49 y18 (λc19=>cond ((!c19)==false) (cond (n10 != n37) (k0 false) (Pl N x rows p U5 UE UG xsr UB UO VR VS Wu n8 n9 Vl Vm Vn y16 y17 y18 n35 n36 x47 x48 x49 k0)) (k0 false))) (k0 false)))))))))) (k0 false))) (k0 false)))))))))
def sQ4 (N:Nat):LI->Int->LI->LI->Int->Int->(Kz1)->Bool:=GQ4 N
end Go.Proofs.YteifemaagdeomaaGreatDoor
