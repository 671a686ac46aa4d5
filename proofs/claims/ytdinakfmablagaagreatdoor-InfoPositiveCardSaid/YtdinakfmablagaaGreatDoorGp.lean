/- The program's functions and their ties. Conditions: none. -/
import Derived.Test.YtdinakfmablagaaGreatDoorMachT
set_option linter.unusedVariables false
namespace Go.Proofs.YtdinakfmablagaaGreatDoor
open Go Go.Mach
abbrev LI:=List Int
abbrev LF:=List Fl
abbrev Kx0:=Int->Int->Int->Int->Bool->Bool
abbrev Kx1:=Int->Int->LF->Int->Int->Bool
abbrev Kx2:=Int->Int->LF->LF->Int->Bool
abbrev Kx3:=Bool->Int->Int->Int->Bool
abbrev Kx4:=Bool->LI->Bool->LI->Bool
abbrev Kx5:=Int->Int->Bool->LF->Bool
abbrev Kx6:=Int->Int->Int->Int->Bool
abbrev Kx7:=Int->Int->LF->Int->Bool
abbrev Kx8:=Bool->Int->Int->Bool
abbrev Kx9:=Bool->Nat->Nat->Bool
abbrev Ky0:=Int->Int->Int->Bool
abbrev Ky1:=Bool->Bool->Bool
abbrev Ky2:=Bool->LI->Bool
abbrev Ky3:=Int->Int->Bool
abbrev Ky4:=Fl->Bool->Bool
abbrev Ky5:=Bool->LF->Bool
abbrev Ky6:=LF->Bool->Bool
abbrev Ky7:=Int->LI->Bool
abbrev Ky8:=Nat->LI->Bool
abbrev Ky9:=LF->Int->Bool
abbrev Kz0:=LI->LI->Bool
abbrev Kz1:=Bool->Bool
abbrev Kz2:=Int->Bool
abbrev Kz3:=Nat->Bool
abbrev Kz4:=Fl->Bool
abbrev Kz5:=LF->Bool
abbrev Kz6:=LI->Bool
abbrev RT0:RT:=(.ptr (.pair (.pair .bool (.ints .u64)) (.pair .bool (.ints .u64))))
abbrev RY0:=(Bool × LI) × Bool × LI
abbrev RT1:RT:=(.pair (.pair .bool (.ints .u32)) (.pair .bool (.ints .u32)))
abbrev RY1:=(Bool × LI) × Bool × LI
abbrev RT2:RT:=(.ptr (.pair (.pair .bool (.ints .u32)) (.pair .bool (.ints .u32))))
abbrev RY2:=(Bool × LI) × Bool × LI
abbrev RT3:RT:=(.pair (.ints .u64) (.pair (.int .u64) (.int .u64)))
abbrev RY3:=LI × Int × Int
def aA:LI:=[0,1,2,2,3,3,3,3,4,4,4,4,4,4,4,4,5,5,5,5,5,5,5,5,5,5,5,5,5,5,5,5,6,6,6,6,6,6,6,6,6,6,6,6,6,6,6,6,6,6,6,6,6,6,6,6,6,6,6,6,6,6,6,6,7,7,7,7,7,7,7,7,7,7,7,7,7,7,7,7,7,7,7,7,7,7,7,7,7,7,7,7,7,7,7,7,7,7,7,7,7,7,7,7,7,7,7,7,7,7,7,7,7,7,7,7,7,7,7,7,7,7,7,7,7,7,7,7,8,8,8,8,8,8,8,8,8,8,8,8,8,8,8,8,8,8,8,8,8,8,8,8,8,8,8,8,8,8,8,8,8,8,8,8,8,8,8,8,8,8,8,8,8,8,8,8,8,8,8,8,8,8,8,8,8,8,8,8,8,8,8,8,8,8,8,8,8,8,8,8,8,8,8,8,8,8,8,8,8,8,8,8,8,8,8,8,8,8,8,8,8,8,8,8,8,8,8,8,8,8,8,8,8,8,8,8,8,8,8,8,8,8,8,8,8,8,8,8,8,8,8,8,8,8,8,8]
abbrev ND:=Nat->(Kz2)->Bool
def Ef (N:Nat):ND:=λn k=>k n
def Dp (N:Nat) (k0:Ky0):Bool:=
 (k0 52 2047 1075)
def uB (N:Nat):(Ky0)->Bool:=Dp N
def Ks (N:Nat) (f_0 f_1 f_2:Int) (k0:Kz2):Bool:=
 (af .i64 (f_1+1)&&(decide (0<=f_0)&&k0 (IntKind.wrap .u64 ((IntKind.wrap .u64 (f_1+1))*2 ^ (min f_0.toNat 64)))))
def yk (N:Nat):Int->Int->Int->(Kz2)->Bool:=Ks N
def B4 (N:Nat) (f_0 f_1 f_2:Int) (k0:Kz2):Bool:=
 (decide (0<=f_0)&&k0 (IntKind.wrap .u64 ((IntKind.wrap .u64 f_1)*2 ^ (min f_0.toNat 64))))
def pz (N:Nat):Int->Int->Int->(Kz2)->Bool:=B4 N
def MY (N:Nat) (b f_0 f_1 f_2:Int) (k0:Kz1):Bool:=
 (yk N f_0 f_1 f_2 (λnr=>pz N f_0 f_1 f_2 (λZD=>k0 (decide ((aD .andNot .u64 b nr)>ZD)))))
def PG (N:Nat):Int->Int->Int->Int->(Kz1)->Bool:=az N (MY N)
def EJ (N:Nat) (f_0 f_1 f_2:Int) (k0:Kz2):Bool:=
 (decide (0<=f_0)&&k0 (IntKind.wrap .u64 ((1:Int)*2 ^ (min f_0.toNat 64))))
def mH (N:Nat):Int->Int->Int->(Kz2)->Bool:=EJ N
def xz (N:Nat) (f_0 f_1 f_2:Int) (k0:Kz2):Bool:=
 (pz N f_0 f_1 f_2 (λnr=>mH N f_0 f_1 f_2 (λZD=>k0 (aD .or .u64 (aD .or .u64 nr (Int.fdiv ZD (2 ^ 1))) (IntKind.wrap .u64 (Int.tdiv f_0 52))))))
def yj (N:Nat):Int->Int->Int->(Kz2)->Bool:=az N (xz N)
def WT (N:Nat) (b f_0 f_1 f_2:Int) (k0:Kz2):Bool:=
 (PG N b f_0 f_1 f_2 (λcr=>cond cr (yj N f_0 f_1 f_2 (λnr=>k0 nr)) (k0 b)))
def PV (N:Nat):Int->Int->Int->Int->(Kz2)->Bool:=WT N
def TH (N:Nat) (b f_0 f_1 f_2:Int) (k0:Kx8):Bool:=
 (PV N b f_0 f_1 f_2 (λnr=>yk N f_0 f_1 f_2 (λZD=>decide (0<=f_0)&&(af .i64 (aD .and .u64 (Int.fdiv nr (2 ^ (min f_0.toNat 64))) (IntKind.wrap .u64 f_1))&&mH N f_0 f_1 f_2 (λZI=>k0 ((aD .and .u64 nr ZD) != 0) (aD .and .u64 (Int.fdiv nr (2 ^ (min f_0.toNat 64))) (IntKind.wrap .u64 f_1)) (aD .and .u64 nr (IntKind.wrap .u64 (ZI - 1))))))))
def R5 (N:Nat):Int->Int->Int->Int->(Kx8)->Bool:=az N (TH N)
def TG (N:Nat) (b f_0 f_1 f_2:Int) (k0:Kz2):Bool:=
 (R5 N b f_0 f_1 f_2 (λcr nr ZD=>cond ((nr==f_1)==true) (cond (ZD != 0) (k0 1) (cond (nr==f_1) (k0 2) (cond ((nr==0)==true) (cond (ZD==0) (k0 3) (cond (nr==0) (k0 4) (k0 5))) (cond (nr==0) (k0 4) (k0 5))))) (cond (nr==f_1) (k0 2) (cond ((nr==0)==true) (cond (ZD==0) (k0 3) (cond (nr==0) (k0 4) (k0 5))) (cond (nr==0) (k0 4) (k0 5))))))
def R4 (N:Nat):Int->Int->Int->Int->(Kz2)->Bool:=az N (TG N)
abbrev W2:=Nat->(Kz2)->Bool
def GQ7 (N x:Nat) (k0:Kz2):Bool:=
 (Ef N x (λnr=>uB N (λZD ZI ZX=>R4 N nr ZD ZI ZX (λZR=>k0 ZR))))
def sQ7 (N:Nat):Nat->(Kz2)->Bool:=GQ7 N
abbrev W3:=Nat->Nat->(Kz1)->Bool
def GQ8 (N a b:Nat) (k0:Kz1):Bool:=
 (Ef N a (λnr=>uB N (λZD ZI ZX=>PV N nr ZD ZI ZX (λZR=>Ef N b (λn5=>uB N (λn6 n7 n8=>PV N n5 n6 n7 n8 (λn9=>k0 (ZR==n9))))))))
def sQ8 (N:Nat):Nat->Nat->(Kz1)->Bool:=GQ8 N
abbrev Hk:=Int->(Kz4)->Bool
def ze (N:Nat):Hk:=λn k=>k (fp n.toNat)
abbrev SA:=Nat->(Kz4)->Bool
def WS (N x:Nat) (k0:Kz4):Bool:=
 (Ef N x (λnr=>ze N (aD .andNot .u64 nr 9223372036854775808) (λxr=>k0 xr)))
def IJ (N:Nat):Nat->(Kz4)->Bool:=WS N
def l9 (N:Nat) (aaj:LI) (ad4:Int) (e0:Kz5):(Int × LF)->((Int × LF)->Bool)->Bool:=λv_ K=>match v_ with
 | (abh,x)=>(cond (decide (abh<ad4)) (inR abh aaj.length&&ze N (aaj.getD abh.toNat 0) (λaae=>decide ((List.length (x++[aae]))*8<=140737488355328)&&(af .i64 (abh+1)&&K ((abh+1),(x++[aae]))))) (e0 x))
def vp (N:Nat) (l:LI) (k0:Kz5):Bool:=
 (ah N (l9 N l ((l.length:Nat):Int) (λZQ=>k0 ZQ)) (0,[]))
def oh (N:Nat):LI->(Kz5)->Bool:=az N (vp N)
def WY (N:Nat) (v:LI) (rows cols:Int) (y:LI) (k0:LF->LF->Bool):Bool:=
 (oh N v (λxsr=>oh N y (λZ2=>k0 Z2 xsr)))
def Wl (N:Nat):LI->Int->Int->LI->(LF->LF->Bool)->Bool:=WY N
def Qw (N:Nat) (n:Int) (k0:Kz1):Bool:=
 (cond ((decide (n>=0))==true) (k0 (decide (n<=12))) (k0 false))
def GN (N:Nat):Int->(Kz1)->Bool:=Qw N
abbrev NE:=Fl->(Kz2)->Bool
def PU (N:Nat):NE:=λx k=>k (Ag x)
def kT (N:Nat) (t6:LF) (t7:Int) (e0:Kz1) (e1:Bool):(Int)->((Int)->Bool)->Bool:=λv_ K=>match v_ with
 | t8=>(cond (decide (t8<t7)) (inR t8 t6.length&&PU N (t6.getD t8.toNat none) (λnr=>cond ((nr==1)==false) (cond (nr==2) (e0 false) (af .i64 (t8+1)&&K (t8+1))) (e0 false))) e1)
def MR (N:Nat) (l:LF) (k0:Kz1):Bool:=
 (ah N (kT N l ((l.length:Nat):Int) (λt2=>k0 t2) (k0 true)) 0)
def u_ (N:Nat):LF->(Kz1)->Bool:=az N (MR N)
def Qt (N:Nat) (ZP ZE:Int) (ZK:LF) (k0:Kz2):Bool:=
 (GN N ZP (λcr=>cond ((!cr)==false) (GN N ZE (λZF=>cond (!ZF) (k0 1) (af .i64 (ZP*ZE)&&cond (((ZK.length:Nat):Int) != (ZP*ZE)) (k0 3) (u_ N ZK (λZT=>cond (!ZT) (k0 4) (k0 0)))))) (k0 1)))
def v7 (N:Nat):Int->Int->LF->(Kz2)->Bool:=az N (Qt N)
def Ss (N:Nat) (ZP ZE:Int) (ZK:LF) (i j:Int) (k0:Kz4):Bool:=
 (af .i64 (i*ZE)&&(af .i64 ((i*ZE)+j)&&(inR ((i*ZE)+j) ZK.length&&k0 (ZK.getD (Int.toNat ((i*ZE)+j)) none))))
def zh (N:Nat):Int->Int->LF->Int->Int->(Kz4)->Bool:=Ss N
abbrev NF:=Fl->Fl->(Kz1)->Bool
def IL (N:Nat):NF:=λx y k=>k (decide (cn x=cn y))
def Ew (N:Nat) (i aaY aai t20 m_5 m_6:Int) (m_7:LF) (e0:Kz1) (e1:Bool):(Int)->((Int)->Bool)->Bool:=λv_ K=>match v_ with
 | t21=>(cond (decide (t21<t20)) (zh N m_5 m_6 m_7 i t21 (λxr=>zh N m_5 m_6 m_7 t21 i (λaae=>IL N xr aae (λcr=>cond (!cr) (e0 false) (af .i64 (t21+1)&&K (t21+1)))))) e1)
def Ev (N:Nat) (t16 m m_3:Int) (m_4:LF) (e0:Kz1) (e1:Bool):(Int)->((Int)->Bool)->Bool:=λv_ K=>match v_ with
 | t17=>(cond (decide (t17<t16)) (ah N (Ew N t17 t16 t17 t17 m m_3 m_4 (λt2=>e0 t2) (af .i64 (t17+1)&&K (t17+1))) 0) e1)
def TI (N:Nat) (ZP ZE:Int) (ZK:LF) (k0:Kz1):Bool:=
 (v7 N ZP ZE ZK (λnr=>cond ((nr != 0)==false) (cond (ZP != ZE) (k0 false) (ah N (Ev N ZP ZP ZE ZK (λZ8=>k0 Z8) (k0 true)) 0)) (k0 false)))
def R6 (N:Nat):Int->Int->LF->(Kz1)->Bool:=az N (TI N)
def wA (N:Nat) (is:Bool) (e:Int) (k0:Bool):Bool:=
 (cond (!is) false k0)
def dx (N:Nat):Bool->Int->(Bool)->Bool:=wA N
abbrev Hj:=Fl->(Kz2)->Bool
def zd (N:Nat):Hj:=λx k=>match x with | some b=>k b | none=>false
def Qs (N:Nat) (x:Int) (k0:Kz2):Bool:=
 (cond (x==0) (k0 64) (inR (Int.fdiv (IntKind.wrap .u64 ((aD .and .u64 x (IntKind.wrap .u64 (0 - x)))*285870213051353865)) (2 ^ 58)) 64&&(af .i64 (zp.getD (Int.toNat (Int.fdiv (IntKind.wrap .u64 ((aD .and .u64 x (IntKind.wrap .u64 (0 - x)))*285870213051353865)) (2 ^ 58))) 0)&&k0 (zp.getD (Int.toNat (Int.fdiv (IntKind.wrap .u64 ((aD .and .u64 x (IntKind.wrap .u64 (0 - x)))*285870213051353865)) (2 ^ 58))) 0))))
def V5 (N:Nat):Int->(Kz2)->Bool:=az N (Qs N)
def Kv (N:Nat) (b f_0 f_1 f_2:Int) (p:Bool) (p_1 p_2:Int) (k0:Kx3):Bool:=
 (V5 N p_1 (λZR=>decide (0<=ZR)&&(af .i64 (p_2+ZR)&&k0 p (Int.fdiv p_1 (2 ^ (min ZR.toNat 64))) (p_2+ZR) 0)))
def TV (N:Nat) (b f_0 f_1 f_2:Int) (k0:Kx3):Bool:=
 (R5 N b f_0 f_1 f_2 (λcr nr ZD=>af .i64 (nr - f_2)&&R4 N b f_0 f_1 f_2 (λZI=>cond (ZI==1) (k0 false 0 0 4) (cond (ZI==2) (k0 false 0 0 4) (cond (ZI==3) (k0 cr 0 0 0) (cond (ZI==4) (af .i64 ((nr - f_2)+1)&&Kv N b f_0 f_1 f_2 cr ZD ((nr - f_2)+1) k0) (mH N f_0 f_1 f_2 (λZX=>Kv N b f_0 f_1 f_2 cr (aD .or .u64 ZD ZX) (nr - f_2) k0))))))))
def Wm (N:Nat):Int->Int->Int->Int->(Kx3)->Bool:=az N (TV N)
def zT (N:Nat) (x:Fl) (k0:Kx3):Bool:=
 (zd N x (λnr=>uB N (λZD ZI ZX=>Wm N nr ZD ZI ZX (λcr ZR n5 n6=>k0 cr ZR n5 n6))))
def qX (N:Nat):Fl->(Kx3)->Bool:=zT N
def wl (N:Nat) (x:LI) (e0:Kz2):(Int)->((Int)->Bool)->Bool:=λv_ K=>match v_ with
 | n=>(cond ((decide (n>0))==true) (af .i64 (n - 1)&&(inR (n - 1) x.length&&(decide ((Int.toNat (n - 1))<x.length)&&cond ((x.getD (Int.toNat (n - 1)) 0)==0) (af .i64 (n - 1)&&K (n - 1)) (e0 n)))) (e0 n))
def Tw (N:Nat) (b:LI) (k0:Kz3):Bool:=
 (ah N (wl N b (λZS=>decide (0<=ZS/\ZS<=((b.length:Nat):Int))&&k0 (ZS.toNat - 0))) ((b.length:Nat):Int))
def xf (N:Nat):LI->(Kz3)->Bool:=az N (Tw N)
def zU (N:Nat) (n:Int) (k0:Kz6):Bool:=
 (xf N [n] (λmr=>decide ((0+mr)<=(List.length [n]))&&k0 (List.take mr (List.drop 0 [n]))))
def jT (N:Nat):Int->(Kz6)->Bool:=zU N
def WJ (N:Nat) (neg:Bool) (abs:LI) (b:Bool) (k0:Kz1):Bool:=
 (cond (neg==true) (k0 (decide (((abs.length:Nat):Int)>0))) (k0 false))
def Ee (N:Nat):Bool->LI->Bool->(Kz1)->Bool:=WJ N
def Tk (N:Nat) (n:Int) (b:Bool) (k0:Ky2):Bool:=
 (jT N n (λnsr=>Ee N false nsr b (λcr=>k0 cr nsr)))
def RQ (N:Nat):Int->Bool->(Ky2)->Bool:=az N (Tk N)
def Sl (N:Nat) (x:LI) (k0:Kz6):Bool:=
 (decide ((List.length ([]++x))*8<=140737488355328)&&k0 ([]++x))
def rG (N:Nat):LI->(Kz6)->Bool:=Sl N
def XS (N:Nat) (neg:Bool) (abs:LI) (b:Bool) (ZB:LI) (k0:Kz1):Bool:=
 (cond (neg==true) (k0 (decide (((abs.length:Nat):Int)>0))) (k0 false))
def Mm (N:Nat):Bool->LI->Bool->LI->(Kz1)->Bool:=XS N
def Tz (N:Nat) (b:Bool) (ZB:LI) (k0:Ky2):Bool:=
 (rG N ZB (λnsr=>Mm N (!b) nsr b ZB (λcr=>k0 cr nsr)))
def RY (N:Nat):Bool->LI->(Ky2)->Bool:=az N (Tz N)
def TF (N:Nat) (n:Int) (b:Bool) (k0:Ky2):Bool:=
 (cond (decide (n<0)) (jT N (IntKind.wrap .u64 (0 - (IntKind.wrap .u64 n))) (λnsr=>Ee N true nsr b (λcr=>k0 cr nsr))) (jT N (IntKind.wrap .u64 n) (λZC=>Ee N false ZC b (λZF=>k0 ZF ZC))))
def XB (N:Nat):Int->Bool->(Ky2)->Bool:=az N (TF N)
def Sx (N:Nat) (n:Int) (k0:Ky2):Bool:=
 (XB N n false (λcr nsr=>k0 cr nsr))
def GK (N:Nat):Int->(Ky2)->Bool:=Sx N
def fk (N:Nat) (words rest:Int) (t24:LI) (t25:Int) (e0:Kz6):(Int × LI)->((Int × LI)->Bool)->Bool:=λv_ K=>match v_ with
 | (t26,z)=>(cond (decide (t26<t25)) (inR t26 t24.length&&(af .i64 (words+t26)&&(inR (words+t26) z.length&&(decide ((Int.toNat (words+t26))<z.length)&&(decide (0<=rest)&&(inR (words+t26) z.length&&(decide ((Int.toNat (words+t26))<z.length)&&(af .i64 (words+t26)&&(af .i64 ((words+t26)+1)&&(decide (0<=(IntKind.wrap .u64 (64 - rest)))&&(inR ((words+t26)+1) (List.length (z.set (Int.toNat (words+t26)) (aD .or .u64 (z.getD (Int.toNat (words+t26)) 0) (IntKind.wrap .u64 ((t24.getD t26.toNat 0)*2 ^ (min rest.toNat 64))))))&&(decide ((Int.toNat ((words+t26)+1))<(List.length (z.set (Int.toNat (words+t26)) (aD .or .u64 (z.getD (Int.toNat (words+t26)) 0) (IntKind.wrap .u64 ((t24.getD t26.toNat 0)*2 ^ (min rest.toNat 64)))))))&&(af .i64 (t26+1)&&K ((t26+1),(List.set (z.set (Int.toNat (words+t26)) (aD .or .u64 (z.getD (Int.toNat (words+t26)) 0) (IntKind.wrap .u64 ((t24.getD t26.toNat 0)*2 ^ (min rest.toNat 64))))) (Int.toNat ((words+t26)+1)) (Int.fdiv (t24.getD t26.toNat 0) (2 ^ (min (Int.toNat (IntKind.wrap .u64 (64 - rest))) 64)))))))))))))))))) (e0 z))
def vj (N:Nat) (x:LI) (n:Int) (k0:Kz6):Bool:=
 (cond (((x.length:Nat):Int)==0) (k0 []) (af .i64 (IntKind.wrap .u64 (Int.tdiv n 64))&&(af .i64 ((IntKind.wrap .u64 (Int.tdiv n 64))+((x.length:Nat):Int))&&(af .i64 (((IntKind.wrap .u64 (Int.tdiv n 64))+((x.length:Nat):Int))+1)&&(fY 8 (((IntKind.wrap .u64 (Int.tdiv n 64))+((x.length:Nat):Int))+1) (((IntKind.wrap .u64 (Int.tdiv n 64))+((x.length:Nat):Int))+1)&&ah N (fk N (IntKind.wrap .u64 (Int.tdiv n 64)) (Int.tmod n 64) x ((x.length:Nat):Int) (λz_1=>xf N z_1 (λmr=>decide ((0+mr)<=z_1.length)&&k0 (List.take mr (List.drop 0 z_1))))) (0,(List.replicate (Int.toNat (((IntKind.wrap .u64 (Int.tdiv n 64))+((x.length:Nat):Int))+1)) (0:Int))))))))
def wa (N:Nat):LI->Int->(Kz6)->Bool:=az N (vj N)
def WW (N:Nat) (n:Int) (b ZB:Bool) (ZH:LI) (k0:Ky2):Bool:=
 (wa N ZH n (λnsr=>Ee N ZB nsr b (λcr=>k0 cr nsr)))
def Wj (N:Nat):Int->Bool->Bool->LI->(Ky2)->Bool:=WW N
def wi (N:Nat) (ZQ Z3:LI) (e0:Kz2) (e1:Bool):(Int)->((Int)->Bool)->Bool:=λv_ K=>match v_ with
 | i=>(cond (decide (i>=0)) (inR i ZQ.length&&(inR i Z3.length&&cond ((ZQ.getD i.toNat 0) != (Z3.getD i.toNat 0)) (inR i ZQ.length&&(inR i Z3.length&&cond (decide ((ZQ.getD i.toNat 0)<(Z3.getD i.toNat 0))) (e0 (-1)) (e0 1))) (af .i64 (i - 1)&&K (i - 1)))) e1)
def MZ (N:Nat) (x y:LI) (k0:Kz2):Bool:=
 (cond (((x.length:Nat):Int) != ((y.length:Nat):Int)) (cond (decide (((x.length:Nat):Int)<((y.length:Nat):Int))) (k0 (-1)) (k0 1)) (af .i64 (((x.length:Nat):Int) - 1)&&ah N (wi N x y (λt4=>k0 t4) (k0 0)) (((x.length:Nat):Int) - 1)))
def Dc (N:Nat):LI->LI->(Kz2)->Bool:=az N (MZ N)
def Ja (N:Nat) (x Z5 ZS:Int) (k0:Kz2):Bool:=
 (cond (decide (Z5>=256)) (af .i64 (ZS+8)&&(inR (IntKind.wrap .u8 (Int.fdiv Z5 (2 ^ 8))) 256&&(af .i64 (aA.getD (Int.toNat (IntKind.wrap .u8 (Int.fdiv Z5 (2 ^ 8)))) 0)&&(af .i64 ((ZS+8)+(aA.getD (Int.toNat (IntKind.wrap .u8 (Int.fdiv Z5 (2 ^ 8)))) 0))&&k0 ((ZS+8)+(aA.getD (Int.toNat (IntKind.wrap .u8 (Int.fdiv Z5 (2 ^ 8)))) 0)))))) (inR (IntKind.wrap .u8 Z5) 256&&(af .i64 (aA.getD (Int.toNat (IntKind.wrap .u8 Z5)) 0)&&(af .i64 (ZS+(aA.getD (Int.toNat (IntKind.wrap .u8 Z5)) 0))&&k0 (ZS+(aA.getD (Int.toNat (IntKind.wrap .u8 Z5)) 0))))))
def I_ (N:Nat) (x ZQ n:Int) (k0:Kz2):Bool:=
 (cond (decide (ZQ>=65536)) (af .i64 (n+16)&&Ja N x (Int.fdiv ZQ (2 ^ 16)) (n+16) k0) (Ja N x ZQ n k0))
def TQ (N:Nat) (x:Int) (k0:Kz2):Bool:=
 (cond (decide (x>=4294967296)) (I_ N x (Int.fdiv x (2 ^ 32)) 32 k0) (I_ N x x 0 k0))
def R8 (N:Nat):Int->(Kz2)->Bool:=az N (TQ N)
def qe (N:Nat) (x:LI) (k0:Kz2):Bool:=
 (cond (((x.length:Nat):Int)==0) (k0 0) (af .i64 (((x.length:Nat):Int) - 1)&&(af .i64 (64*(((x.length:Nat):Int) - 1))&&(af .i64 (((x.length:Nat):Int) - 1)&&(inR (((x.length:Nat):Int) - 1) x.length&&R8 N (x.getD (Int.toNat (((x.length:Nat):Int) - 1)) 0) (λnr=>af .i64 ((64*(((x.length:Nat):Int) - 1))+nr)&&k0 ((64*(((x.length:Nat):Int) - 1))+nr)))))))
def qY (N:Nat):LI->(Kz2)->Bool:=az N (qe N)
def Sr (N:Nat) (x:LI) (i:Int) (k0:Kz2):Bool:=
 (cond (decide (i<((x.length:Nat):Int))) (inR i x.length&&k0 (x.getD i.toNat 0)) (k0 0))
def zg (N:Nat):LI->Int->(Kz2)->Bool:=Sr N
def xy (N:Nat) (x:LI) (from_:Int) (k0:Kz2):Bool:=
 (af .i64 (Int.tdiv from_ 64)&&zg N x (Int.tdiv from_ 64) (λnr=>decide (0<=(IntKind.wrap .u64 (Int.tmod from_ 64)))&&(af .i64 ((Int.tdiv from_ 64)+1)&&zg N x ((Int.tdiv from_ 64)+1) (λZD=>decide (0<=(IntKind.wrap .u64 (64 - (IntKind.wrap .u64 (Int.tmod from_ 64)))))&&k0 (aD .or .u64 (Int.fdiv nr (2 ^ (min (Int.toNat (IntKind.wrap .u64 (Int.tmod from_ 64))) 64))) (IntKind.wrap .u64 (ZD*2 ^ (min (Int.toNat (IntKind.wrap .u64 (64 - (IntKind.wrap .u64 (Int.tmod from_ 64))))) 64))))))))
def uD (N:Nat):LI->Int->(Kz2)->Bool:=az N (xy N)
def oj (N:Nat) (t4 abg aa5 aa6:Int) (ad2:Bool) (e0:Kx0):(Int × Int × Int × Int × Int × Int × Int × Int × Bool)->((Int × Int × Int × Int × Int × Int × Int × Int × Bool)->Bool)->Bool:=λv_ K=>match v_ with
 | (ZQ,Z3,u,v,w,w_1,w_2,w_3,w_4)=>(cond ((decide (Z3>=v))==true) (cond (decide ((IntKind.wrap .u64 (ZQ - Z3))>=(IntKind.wrap .u64 (w_3+v)))) ((!decide (Z3=0))&&((!decide (Z3=0))&&K (Z3,(Int.tmod ZQ Z3),(IntKind.wrap .u64 (w_2+(IntKind.wrap .u64 ((IntKind.wrap .u64 (Int.tdiv ZQ Z3))*u)))),(IntKind.wrap .u64 (w_3+(IntKind.wrap .u64 ((IntKind.wrap .u64 (Int.tdiv ZQ Z3))*v)))),w_2,w_3,u,v,(!w_4)))) (e0 w w_1 w_2 w_3 w_4)) (e0 w w_1 w_2 w_3 w_4))
def yv (N:Nat) (x y:Int) (k0:Kx0):Bool:=
 (ah N (oj N 0 0 0 0 false (λw_5 w_6 w_7 w_8 w_9=>k0 w_5 w_6 w_7 w_8 w_9)) (x,y,0,1,0,0,1,0,true))
def tg (N:Nat):Int->Int->(Kx0)->Bool:=az N (yv N)
def MT (N:Nat) (x y:Int) (k0:Ky3):Bool:=
 (k0 (IntKind.wrap .u64 ((IntKind.wrap .u64 ((IntKind.wrap .u64 ((Int.fdiv x (2 ^ 32))*(Int.fdiv y (2 ^ 32))))+(Int.fdiv (IntKind.wrap .u64 ((IntKind.wrap .u64 ((Int.fdiv x (2 ^ 32))*(aD .and .u64 y 4294967295)))+(Int.fdiv (IntKind.wrap .u64 ((aD .and .u64 x 4294967295)*(aD .and .u64 y 4294967295))) (2 ^ 32)))) (2 ^ 32))))+(Int.fdiv (IntKind.wrap .u64 ((aD .and .u64 (IntKind.wrap .u64 ((IntKind.wrap .u64 ((Int.fdiv x (2 ^ 32))*(aD .and .u64 y 4294967295)))+(Int.fdiv (IntKind.wrap .u64 ((aD .and .u64 x 4294967295)*(aD .and .u64 y 4294967295))) (2 ^ 32)))) 4294967295)+(IntKind.wrap .u64 ((aD .and .u64 x 4294967295)*(Int.fdiv y (2 ^ 32)))))) (2 ^ 32)))) (IntKind.wrap .u64 (x*y)))
def GE (N:Nat):Int->Int->(Ky3)->Bool:=az N (MT N)
abbrev Vs:=Int->Int->Int->(Ky3)->Bool
def sQ3 (N:Nat):Vs:=λx y c k=>(decide (c.toNat<=1))&&k (((x.toNat+y.toNat+c.toNat)%18446744073709551616:Nat):Int) (((x.toNat+y.toNat+c.toNat) / 18446744073709551616:Nat):Int)
def vi (N:Nat) (a b c d:Int) (k0:Ky3):Bool:=
 (GE N a b (λnr ZD=>sQ3 N ZD c 0 (λZI ZX=>sQ3 N ZI d 0 (λZR n5=>k0 (IntKind.wrap .u64 ((IntKind.wrap .u64 (nr+ZX))+n5)) ZR))))
def lM (N:Nat):Int->Int->Int->Int->(Ky3)->Bool:=az N (vi N)
def l7 (N:Nat) (ZQ:LI) (d_1:Int) (t14:LI) (t15:Int) (e0:Ky7):(Int × Int × LI)->((Int × Int × LI)->Bool)->Bool:=λv_ K=>match v_ with
 | (ac7,t16,z)=>(cond (decide (t16<t15)) (inR t16 t14.length&&lM N (t14.getD t16.toNat 0) d_1 0 ac7 (λnr ZD=>inR t16 z.length&&(decide (t16.toNat<z.length)&&(af .i64 (t16+1)&&K (nr,(t16+1),(z.set t16.toNat ZD)))))) (e0 ac7 z))
def M_ (N:Nat) (x:LI) (d more:Int) (k0:Kz6):Bool:=
 (af .i64 (((x.length:Nat):Int)+1)&&(fY 8 (((x.length:Nat):Int)+1) (((x.length:Nat):Int)+1)&&ah N (l7 N x d x ((x.length:Nat):Int) (λacp z_1=>inR ((x.length:Nat):Int) z_1.length&&(decide ((Int.toNat ((x.length:Nat):Int))<z_1.length)&&xf N (z_1.set (Int.toNat ((x.length:Nat):Int)) acp) (λmr=>decide ((0+mr)<=(List.length (z_1.set (Int.toNat ((x.length:Nat):Int)) acp)))&&k0 (List.take mr (List.drop 0 (z_1.set (Int.toNat ((x.length:Nat):Int)) acp))))))) (more,0,(List.replicate (Int.toNat (((x.length:Nat):Int)+1)) (0:Int)))))
def va (N:Nat):LI->Int->Int->(Kz6)->Bool:=az N (M_ N)
abbrev Vt:=Int->Int->Int->(Ky3)->Bool
def sQ5 (N:Nat):Vt:=λx y c k=>(decide (c.toNat<=1))&&k (((x.toNat+18446744073709551616 - y.toNat - c.toNat)%18446744073709551616:Nat):Int) (cond (decide (x.toNat<y.toNat+c.toNat)) 1 0)
def l6 (N:Nat) (ZQ Z3:LI) (t12:Int) (e0:Kz6):(Int × Int × LI)->((Int × Int × LI)->Bool)->Bool:=λv_ K=>match v_ with
 | (borrow,t13,z)=>(cond (decide (t13<t12)) (inR t13 ZQ.length&&zg N Z3 t13 (λnr=>sQ5 N (ZQ.getD t13.toNat 0) nr borrow (λZD ZI=>inR t13 z.length&&(decide (t13.toNat<z.length)&&(af .i64 (t13+1)&&K (ZI,(t13+1),(z.set t13.toNat ZD))))))) (e0 z))
def Nk (N:Nat) (x y:LI) (k0:Kz6):Bool:=
 (fY 8 ((x.length:Nat):Int) ((x.length:Nat):Int)&&ah N (l6 N x y ((x.length:Nat):Int) (λz_1=>xf N z_1 (λmr=>decide ((0+mr)<=z_1.length)&&k0 (List.take mr (List.drop 0 z_1))))) (0,0,(List.replicate (Int.toNat ((x.length:Nat):Int)) (0:Int))))
def zi (N:Nat):LI->LI->(Kz6)->Bool:=az N (Nk N)
def eJ (N:Nat) (w_0 w_1 w_2 w_3:Int) (w_4:Bool) (x y:LI) (k0:Kz0):Bool:=
 (cond w_4 (va N y w_1 0 (λnsr=>va N x w_0 0 (λZC=>zi N nsr ZC (λZG=>va N x w_2 0 (λZJ=>va N y w_3 0 (λZN=>zi N ZJ ZN (λZL=>k0 ZG ZL))))))) (va N x w_0 0 (λs6=>va N y w_1 0 (λs7=>zi N s6 s7 (λs8=>va N y w_3 0 (λs9=>va N x w_2 0 (λs10=>zi N s9 s10 (λs11=>k0 s8 s11))))))))
def eV (N:Nat):Int->Int->Int->Int->Bool->LI->LI->(Kz0)->Bool:=az N (eJ N)
def WM (N:Nat) (x:Int) (k0:Kz2):Bool:=
 (R8 N x (λnr=>af .i64 (64 - nr)&&k0 (64 - nr)))
def RV (N:Nat):Int->(Kz2)->Bool:=WM N
def yo (N:Nat) (Z3 s yn1 yn0 un32 un1 un0:Int) (e0:Kz2):(Int × Int)->((Int × Int)->Bool)->Bool:=λv_ K=>match v_ with
 | (q1,rhat)=>(cond ((decide (q1>=4294967296))==false) (cond (decide ((IntKind.wrap .u64 (q1*yn0))>(IntKind.wrap .u64 ((IntKind.wrap .u64 (4294967296*rhat))+un1)))) (cond (decide ((IntKind.wrap .u64 (rhat+yn1))>=4294967296)) (e0 (IntKind.wrap .u64 (q1 - 1))) (K ((IntKind.wrap .u64 (q1 - 1)),(IntKind.wrap .u64 (rhat+yn1))))) (e0 q1)) (cond (decide ((IntKind.wrap .u64 (rhat+yn1))>=4294967296)) (e0 (IntKind.wrap .u64 (q1 - 1))) (K ((IntKind.wrap .u64 (q1 - 1)),(IntKind.wrap .u64 (rhat+yn1))))))
def yp (N:Nat) (y_2 s_1 abT adt acJ adW un21:Int) (e0:Kz2):(Int × Int)->((Int × Int)->Bool)->Bool:=λv_ K=>match v_ with
 | (abD,q0)=>(cond ((decide (q0>=4294967296))==false) (cond (decide ((IntKind.wrap .u64 (q0*adt))>(IntKind.wrap .u64 ((IntKind.wrap .u64 (4294967296*abD))+acJ)))) (cond (decide ((IntKind.wrap .u64 (abD+abT))>=4294967296)) (e0 (IntKind.wrap .u64 (q0 - 1))) (K ((IntKind.wrap .u64 (abD+abT)),(IntKind.wrap .u64 (q0 - 1))))) (e0 q0)) (cond (decide ((IntKind.wrap .u64 (abD+abT))>=4294967296)) (e0 (IntKind.wrap .u64 (q0 - 1))) (K ((IntKind.wrap .u64 (abD+abT)),(IntKind.wrap .u64 (q0 - 1))))))
def MS (N:Nat) (hi lo y:Int) (k0:Ky3):Bool:=
 (cond (y==0) false (cond (decide (y<=hi)) false (cond (hi==0) ((!decide (y=0))&&((!decide (y=0))&&k0 (IntKind.wrap .u64 (Int.tdiv lo y)) (Int.tmod lo y))) (RV N y (λnr=>decide (0<=(IntKind.wrap .u64 nr))&&(decide (0<=(IntKind.wrap .u64 nr))&&(decide (0<=(IntKind.wrap .u64 (64 - (IntKind.wrap .u64 nr))))&&(decide (0<=(IntKind.wrap .u64 nr))&&((!decide ((Int.fdiv (IntKind.wrap .u64 (y*2 ^ (min (Int.toNat (IntKind.wrap .u64 nr)) 64))) (2 ^ 32))=0))&&ah N (yo N (IntKind.wrap .u64 (y*2 ^ (min (Int.toNat (IntKind.wrap .u64 nr)) 64))) (IntKind.wrap .u64 nr) (Int.fdiv (IntKind.wrap .u64 (y*2 ^ (min (Int.toNat (IntKind.wrap .u64 nr)) 64))) (2 ^ 32)) (aD .and .u64 (IntKind.wrap .u64 (y*2 ^ (min (Int.toNat (IntKind.wrap .u64 nr)) 64))) 4294967295) (aD .or .u64 (IntKind.wrap .u64 (hi*2 ^ (min (Int.toNat (IntKind.wrap .u64 nr)) 64))) (Int.fdiv lo (2 ^ (min (Int.toNat (IntKind.wrap .u64 (64 - (IntKind.wrap .u64 nr)))) 64)))) (Int.fdiv (IntKind.wrap .u64 (lo*2 ^ (min (Int.toNat (IntKind.wrap .u64 nr)) 64))) (2 ^ 32)) (aD .and .u64 (IntKind.wrap .u64 (lo*2 ^ (min (Int.toNat (IntKind.wrap .u64 nr)) 64))) 4294967295) (λacq=>(!decide ((Int.fdiv (IntKind.wrap .u64 (y*2 ^ (min (Int.toNat (IntKind.wrap .u64 nr)) 64))) (2 ^ 32))=0))&&ah N (yp N (IntKind.wrap .u64 (y*2 ^ (min (Int.toNat (IntKind.wrap .u64 nr)) 64))) (IntKind.wrap .u64 nr) (Int.fdiv (IntKind.wrap .u64 (y*2 ^ (min (Int.toNat (IntKind.wrap .u64 nr)) 64))) (2 ^ 32)) (aD .and .u64 (IntKind.wrap .u64 (y*2 ^ (min (Int.toNat (IntKind.wrap .u64 nr)) 64))) 4294967295) (aD .and .u64 (IntKind.wrap .u64 (lo*2 ^ (min (Int.toNat (IntKind.wrap .u64 nr)) 64))) 4294967295) acq (IntKind.wrap .u64 ((IntKind.wrap .u64 ((IntKind.wrap .u64 ((aD .or .u64 (IntKind.wrap .u64 (hi*2 ^ (min (Int.toNat (IntKind.wrap .u64 nr)) 64))) (Int.fdiv lo (2 ^ (min (Int.toNat (IntKind.wrap .u64 (64 - (IntKind.wrap .u64 nr)))) 64))))*4294967296))+(Int.fdiv (IntKind.wrap .u64 (lo*2 ^ (min (Int.toNat (IntKind.wrap .u64 nr)) 64))) (2 ^ 32)))) - (IntKind.wrap .u64 (acq*(IntKind.wrap .u64 (y*2 ^ (min (Int.toNat (IntKind.wrap .u64 nr)) 64))))))) (λaeo=>decide (0<=(IntKind.wrap .u64 nr))&&k0 (IntKind.wrap .u64 ((IntKind.wrap .u64 (acq*4294967296))+aeo)) (Int.fdiv (IntKind.wrap .u64 ((IntKind.wrap .u64 ((IntKind.wrap .u64 ((IntKind.wrap .u64 ((IntKind.wrap .u64 ((IntKind.wrap .u64 ((aD .or .u64 (IntKind.wrap .u64 (hi*2 ^ (min (Int.toNat (IntKind.wrap .u64 nr)) 64))) (Int.fdiv lo (2 ^ (min (Int.toNat (IntKind.wrap .u64 (64 - (IntKind.wrap .u64 nr)))) 64))))*4294967296))+(Int.fdiv (IntKind.wrap .u64 (lo*2 ^ (min (Int.toNat (IntKind.wrap .u64 nr)) 64))) (2 ^ 32)))) - (IntKind.wrap .u64 (acq*(IntKind.wrap .u64 (y*2 ^ (min (Int.toNat (IntKind.wrap .u64 nr)) 64)))))))*4294967296))+(aD .and .u64 (IntKind.wrap .u64 (lo*2 ^ (min (Int.toNat (IntKind.wrap .u64 nr)) 64))) 4294967295))) - (IntKind.wrap .u64 (aeo*(IntKind.wrap .u64 (y*2 ^ (min (Int.toNat (IntKind.wrap .u64 nr)) 64))))))) (2 ^ (min (Int.toNat (IntKind.wrap .u64 nr)) 64))))) ((IntKind.wrap .u64 ((IntKind.wrap .u64 ((IntKind.wrap .u64 ((IntKind.wrap .u64 ((aD .or .u64 (IntKind.wrap .u64 (hi*2 ^ (min (Int.toNat (IntKind.wrap .u64 nr)) 64))) (Int.fdiv lo (2 ^ (min (Int.toNat (IntKind.wrap .u64 (64 - (IntKind.wrap .u64 nr)))) 64))))*4294967296))+(Int.fdiv (IntKind.wrap .u64 (lo*2 ^ (min (Int.toNat (IntKind.wrap .u64 nr)) 64))) (2 ^ 32)))) - (IntKind.wrap .u64 (acq*(IntKind.wrap .u64 (y*2 ^ (min (Int.toNat (IntKind.wrap .u64 nr)) 64))))))) - (IntKind.wrap .u64 ((IntKind.wrap .u64 (Int.tdiv (IntKind.wrap .u64 ((IntKind.wrap .u64 ((IntKind.wrap .u64 ((aD .or .u64 (IntKind.wrap .u64 (hi*2 ^ (min (Int.toNat (IntKind.wrap .u64 nr)) 64))) (Int.fdiv lo (2 ^ (min (Int.toNat (IntKind.wrap .u64 (64 - (IntKind.wrap .u64 nr)))) 64))))*4294967296))+(Int.fdiv (IntKind.wrap .u64 (lo*2 ^ (min (Int.toNat (IntKind.wrap .u64 nr)) 64))) (2 ^ 32)))) - (IntKind.wrap .u64 (acq*(IntKind.wrap .u64 (y*2 ^ (min (Int.toNat (IntKind.wrap .u64 nr)) 64))))))) (Int.fdiv (IntKind.wrap .u64 (y*2 ^ (min (Int.toNat (IntKind.wrap .u64 nr)) 64))) (2 ^ 32))))*(Int.fdiv (IntKind.wrap .u64 (y*2 ^ (min (Int.toNat (IntKind.wrap .u64 nr)) 64))) (2 ^ 32)))))),(IntKind.wrap .u64 (Int.tdiv (IntKind.wrap .u64 ((IntKind.wrap .u64 ((IntKind.wrap .u64 ((aD .or .u64 (IntKind.wrap .u64 (hi*2 ^ (min (Int.toNat (IntKind.wrap .u64 nr)) 64))) (Int.fdiv lo (2 ^ (min (Int.toNat (IntKind.wrap .u64 (64 - (IntKind.wrap .u64 nr)))) 64))))*4294967296))+(Int.fdiv (IntKind.wrap .u64 (lo*2 ^ (min (Int.toNat (IntKind.wrap .u64 nr)) 64))) (2 ^ 32)))) - (IntKind.wrap .u64 (acq*(IntKind.wrap .u64 (y*2 ^ (min (Int.toNat (IntKind.wrap .u64 nr)) 64))))))) (Int.fdiv (IntKind.wrap .u64 (y*2 ^ (min (Int.toNat (IntKind.wrap .u64 nr)) 64))) (2 ^ 32))))))) ((IntKind.wrap .u64 (Int.tdiv (aD .or .u64 (IntKind.wrap .u64 (hi*2 ^ (min (Int.toNat (IntKind.wrap .u64 nr)) 64))) (Int.fdiv lo (2 ^ (min (Int.toNat (IntKind.wrap .u64 (64 - (IntKind.wrap .u64 nr)))) 64)))) (Int.fdiv (IntKind.wrap .u64 (y*2 ^ (min (Int.toNat (IntKind.wrap .u64 nr)) 64))) (2 ^ 32)))),(IntKind.wrap .u64 ((aD .or .u64 (IntKind.wrap .u64 (hi*2 ^ (min (Int.toNat (IntKind.wrap .u64 nr)) 64))) (Int.fdiv lo (2 ^ (min (Int.toNat (IntKind.wrap .u64 (64 - (IntKind.wrap .u64 nr)))) 64)))) - (IntKind.wrap .u64 ((IntKind.wrap .u64 (Int.tdiv (aD .or .u64 (IntKind.wrap .u64 (hi*2 ^ (min (Int.toNat (IntKind.wrap .u64 nr)) 64))) (Int.fdiv lo (2 ^ (min (Int.toNat (IntKind.wrap .u64 (64 - (IntKind.wrap .u64 nr)))) 64)))) (Int.fdiv (IntKind.wrap .u64 (y*2 ^ (min (Int.toNat (IntKind.wrap .u64 nr)) 64))) (2 ^ 32))))*(Int.fdiv (IntKind.wrap .u64 (y*2 ^ (min (Int.toNat (IntKind.wrap .u64 nr)) 64))) (2 ^ 32))))))))))))))))
def GD (N:Nat):Int->Int->Int->(Ky3)->Bool:=az N (MS N)
def kU (N:Nat) (ZQ:LI) (d_1:Int) (e0:Ky7):(Int × Int × LI)->((Int × Int × LI)->Bool)->Bool:=λv_ K=>match v_ with
 | (rest,i,q)=>(cond (decide (i>=0)) (inR i ZQ.length&&GD N rest (ZQ.getD i.toNat 0) d_1 (λnr ZD=>inR i q.length&&(decide (i.toNat<q.length)&&(af .i64 (i - 1)&&K (ZD,(i - 1),(q.set i.toNat nr)))))) (e0 rest q))
def rO (N:Nat) (x:LI) (d:Int) (k0:LI->Int->Bool):Bool:=
 (fY 8 ((x.length:Nat):Int) ((x.length:Nat):Int)&&(af .i64 (((x.length:Nat):Int) - 1)&&ah N (kU N x d (λaar q_1=>xf N q_1 (λmr=>decide ((0+mr)<=q_1.length)&&k0 (List.take mr (List.drop 0 q_1)) aar))) (0,(((x.length:Nat):Int) - 1),(List.replicate (Int.toNat ((x.length:Nat):Int)) (0:Int)))))
def oV (N:Nat):LI->Int->(LI->Int->Bool)->Bool:=az N (rO N)
def ol (N:Nat) (words rest:Int) (t24:LI) (t25:Int) (e0:Kz6):(Int × LI)->((Int × LI)->Bool)->Bool:=λv_ K=>match v_ with
 | (t26,z)=>(cond (decide (t26<t25)) (inR t26 t24.length&&(af .i64 (words+t26)&&(inR (words+t26) z.length&&(decide ((Int.toNat (words+t26))<z.length)&&(decide (0<=rest)&&(inR (words+t26) z.length&&(decide ((Int.toNat (words+t26))<z.length)&&(af .i64 (words+t26)&&(af .i64 ((words+t26)+1)&&(decide (0<=(IntKind.wrap .u64 (64 - rest)))&&(inR ((words+t26)+1) (List.length (z.set (Int.toNat (words+t26)) (aD .or .u64 (z.getD (Int.toNat (words+t26)) 0) (IntKind.wrap .u64 ((t24.getD t26.toNat 0)*2 ^ (min rest.toNat 64))))))&&(decide ((Int.toNat ((words+t26)+1))<(List.length (z.set (Int.toNat (words+t26)) (aD .or .u64 (z.getD (Int.toNat (words+t26)) 0) (IntKind.wrap .u64 ((t24.getD t26.toNat 0)*2 ^ (min rest.toNat 64)))))))&&(af .i64 (t26+1)&&K ((t26+1),(List.set (z.set (Int.toNat (words+t26)) (aD .or .u64 (z.getD (Int.toNat (words+t26)) 0) (IntKind.wrap .u64 ((t24.getD t26.toNat 0)*2 ^ (min rest.toNat 64))))) (Int.toNat ((words+t26)+1)) (Int.fdiv (t24.getD t26.toNat 0) (2 ^ (min (Int.toNat (IntKind.wrap .u64 (64 - rest))) 64)))))))))))))))))) (e0 z))
def T1 (N:Nat) (x:LI) (n:Int) (k0:Bool) (k1:Ky8):Bool:=
 (cond (((x.length:Nat):Int)==0) k0 (af .i64 (IntKind.wrap .u64 (Int.tdiv n 64))&&(af .i64 ((IntKind.wrap .u64 (Int.tdiv n 64))+((x.length:Nat):Int))&&(af .i64 (((IntKind.wrap .u64 (Int.tdiv n 64))+((x.length:Nat):Int))+1)&&(fY 8 (((IntKind.wrap .u64 (Int.tdiv n 64))+((x.length:Nat):Int))+1) (((IntKind.wrap .u64 (Int.tdiv n 64))+((x.length:Nat):Int))+1)&&ah N (ol N (IntKind.wrap .u64 (Int.tdiv n 64)) (Int.tmod n 64) x ((x.length:Nat):Int) (λz_1=>xf N z_1 (λmr=>k1 mr z_1))) (0,(List.replicate (Int.toNat (((IntKind.wrap .u64 (Int.tdiv n 64))+((x.length:Nat):Int))+1)) (0:Int))))))))
def PY (N:Nat):LI->Int->(Bool)->(Ky8)->Bool:=az N (T1 N)
def p_ (N u u_2:Nat) (v_1:LI) (n:Int) (u_3:LI) (e0:Kz2):(Int × Int)->((Int × Int)->Bool)->Bool:=λv_ K=>match v_ with
 | (q,rest)=>(af .i64 (n - 2)&&(inR (n - 2) v_1.length&&GE N q (v_1.getD (Int.toNat (n - 2)) 0) (λZI ZX=>cond ((decide (ZI<rest))==false) (cond ((ZI==rest)==true) (af .i64 (n - 2)&&(inR (n - 2) u_2&&(decide ((u+(Int.toNat (n - 2)))<u_3.length)&&cond (decide (ZX<=(u_3.getD (u+(Int.toNat (n - 2))) 0))) (e0 q) (af .i64 (n - 1)&&(inR (n - 1) v_1.length&&sQ3 N rest (v_1.getD (Int.toNat (n - 1)) 0) 0 (λZR n5=>cond (n5 != 0) (e0 (IntKind.wrap .u64 (q - 1))) (K ((IntKind.wrap .u64 (q - 1)),ZR)))))))) (af .i64 (n - 1)&&(inR (n - 1) v_1.length&&sQ3 N rest (v_1.getD (Int.toNat (n - 1)) 0) 0 (λn6 n7=>cond (n7 != 0) (e0 (IntKind.wrap .u64 (q - 1))) (K ((IntKind.wrap .u64 (q - 1)),n6)))))) (e0 q))))
def uK (N u_0 u_1:Nat) (v b:LI) (k0:Kz2):Bool:=
 (inR ((v.length:Nat):Int) u_1&&(decide ((u_0+(Int.toNat ((v.length:Nat):Int)))<b.length)&&(af .i64 (((v.length:Nat):Int) - 1)&&(inR (((v.length:Nat):Int) - 1) v.length&&cond (decide ((b.getD (u_0+(Int.toNat ((v.length:Nat):Int))) 0)>=(v.getD (Int.toNat (((v.length:Nat):Int) - 1)) 0))) (k0 18446744073709551615) (inR ((v.length:Nat):Int) u_1&&(decide ((u_0+(Int.toNat ((v.length:Nat):Int)))<b.length)&&(af .i64 (((v.length:Nat):Int) - 1)&&(inR (((v.length:Nat):Int) - 1) u_1&&(decide ((u_0+(Int.toNat (((v.length:Nat):Int) - 1)))<b.length)&&(af .i64 (((v.length:Nat):Int) - 1)&&(inR (((v.length:Nat):Int) - 1) v.length&&GD N (b.getD (u_0+(Int.toNat ((v.length:Nat):Int))) 0) (b.getD (u_0+(Int.toNat (((v.length:Nat):Int) - 1))) 0) (v.getD (Int.toNat (((v.length:Nat):Int) - 1)) 0) (λnr ZD=>ah N (p_ N u_0 u_1 v ((v.length:Nat):Int) b (λt4=>k0 t4)) (nr,ZD)))))))))))))
def Cg (N:Nat):Nat->Nat->LI->LI->(Kz2)->Bool:=az N (uK N)
def rJ (N u u_2:Nat) (v_1:LI) (n q t17:Int) (e0:Int->Int->LI->Bool):(Int × Int × Int × LI)->((Int × Int × Int × LI)->Bool)->Bool:=λv_ K=>match v_ with
 | (carry,borrow,t18,u_3)=>(cond (decide (t18<t17)) (inR t18 v_1.length&&lM N q (v_1.getD t18.toNat 0) 0 carry (λZD ZI=>inR t18 u_2&&(decide ((u+t18.toNat)<u_3.length)&&sQ5 N (u_3.getD (u+t18.toNat) 0) ZI borrow (λZX ZR=>inR t18 u_2&&(decide ((u+t18.toNat)<u_3.length)&&(af .i64 (t18+1)&&K (ZD,ZR,(t18+1),(u_3.set (u+t18.toNat) ZX)))))))) (e0 carry borrow u_3))
def rM (N u_8 u_9:Nat) (v_3:LI) (n_2 q_2 aaw t60:Int) (e0:Ky7):(Int × Int × LI)->((Int × Int × LI)->Bool)->Bool:=λv_ K=>match v_ with
 | (aau,t61,aa9)=>(cond (decide (t61<t60)) (inR t61 u_9&&(decide ((u_8+t61.toNat)<aa9.length)&&(inR t61 v_3.length&&sQ3 N (aa9.getD (u_8+t61.toNat) 0) (v_3.getD t61.toNat 0) aau (λn7 n8=>inR t61 u_9&&(decide ((u_8+t61.toNat)<aa9.length)&&(af .i64 (t61+1)&&K (n8,(t61+1),(aa9.set (u_8+t61.toNat) n7)))))))) (e0 aau aa9))
def rK (N u_5 u_6:Nat) (v_2:LI) (ZS:Int) (e0:Ky7):(Int × Int × LI)->((Int × Int × LI)->Bool)->Bool:=λv_ K=>match v_ with
 | (q_1,aav,u_7)=>(cond (aav != 0) (ah N (rM N u_5 u_6 v_2 ZS q_1 aav ZS (λabX abc=>inR ZS u_6&&(decide ((u_5+ZS.toNat)<abc.length)&&sQ3 N (abc.getD (u_5+ZS.toNat) 0) 0 abX (λn9 n10=>inR ZS u_6&&(decide ((u_5+ZS.toNat)<abc.length)&&K ((IntKind.wrap .u64 (q_1 - 1)),(IntKind.wrap .u64 (aav - n10)),(abc.set (u_5+ZS.toNat) n9))))))) (0,0,u_7)) (e0 q_1 u_7))
def wr (N u_0 u_1:Nat) (v b:LI) (k0:Ky7):Bool:=
 (Cg N u_0 u_1 v b (λnr=>ah N (rJ N u_0 u_1 v ((v.length:Nat):Int) nr ((v.length:Nat):Int) (λZZ aaH u_4=>inR ((v.length:Nat):Int) u_1&&(decide ((u_0+(Int.toNat ((v.length:Nat):Int)))<u_4.length)&&sQ5 N (u_4.getD (u_0+(Int.toNat ((v.length:Nat):Int))) 0) ZZ aaH (λn5 n6=>inR ((v.length:Nat):Int) u_1&&(decide ((u_0+(Int.toNat ((v.length:Nat):Int)))<u_4.length)&&ah N (rK N u_0 u_1 v ((v.length:Nat):Int) (λq_3 b0=>k0 q_3 b0)) (nr,n6,(u_4.set (u_0+(Int.toNat ((v.length:Nat):Int))) n5))))))) (0,0,0,b)))
def Eh (N:Nat):Nat->Nat->LI->LI->(Ky7)->Bool:=az N (wr N)
def tF (N u u_2 v v_2:Nat) (n:Int) (u_3 v_3:LI) (e0:Kz2):(Int × Int)->((Int × Int)->Bool)->Bool:=λv_ K=>match v_ with
 | (q,rest)=>(af .i64 (n - 2)&&(inR (n - 2) v_2&&(decide ((v+(Int.toNat (n - 2)))<v_3.length)&&GE N q (v_3.getD (v+(Int.toNat (n - 2))) 0) (λZI ZX=>cond ((decide (ZI<rest))==false) (cond ((ZI==rest)==true) (af .i64 (n - 2)&&(inR (n - 2) u_2&&(decide ((u+(Int.toNat (n - 2)))<u_3.length)&&cond (decide (ZX<=(u_3.getD (u+(Int.toNat (n - 2))) 0))) (e0 q) (af .i64 (n - 1)&&(inR (n - 1) v_2&&(decide ((v+(Int.toNat (n - 1)))<v_3.length)&&sQ3 N rest (v_3.getD (v+(Int.toNat (n - 1))) 0) 0 (λZR n5=>cond (n5 != 0) (e0 (IntKind.wrap .u64 (q - 1))) (K ((IntKind.wrap .u64 (q - 1)),ZR))))))))) (af .i64 (n - 1)&&(inR (n - 1) v_2&&(decide ((v+(Int.toNat (n - 1)))<v_3.length)&&sQ3 N rest (v_3.getD (v+(Int.toNat (n - 1))) 0) 0 (λn6 n7=>cond (n7 != 0) (e0 (IntKind.wrap .u64 (q - 1))) (K ((IntKind.wrap .u64 (q - 1)),n6))))))) (e0 q)))))
def Qx (N u_0 u_1 v_0 v_1:Nat) (b ZB:LI) (k0:Kz2):Bool:=
 (inR ((v_1:Nat):Int) u_1&&(decide ((u_0+(Int.toNat ((v_1:Nat):Int)))<b.length)&&(af .i64 (((v_1:Nat):Int) - 1)&&(inR (((v_1:Nat):Int) - 1) v_1&&(decide ((v_0+(Int.toNat (((v_1:Nat):Int) - 1)))<ZB.length)&&cond (decide ((b.getD (u_0+(Int.toNat ((v_1:Nat):Int))) 0)>=(ZB.getD (v_0+(Int.toNat (((v_1:Nat):Int) - 1))) 0))) (k0 18446744073709551615) (inR ((v_1:Nat):Int) u_1&&(decide ((u_0+(Int.toNat ((v_1:Nat):Int)))<b.length)&&(af .i64 (((v_1:Nat):Int) - 1)&&(inR (((v_1:Nat):Int) - 1) u_1&&(decide ((u_0+(Int.toNat (((v_1:Nat):Int) - 1)))<b.length)&&(af .i64 (((v_1:Nat):Int) - 1)&&(inR (((v_1:Nat):Int) - 1) v_1&&(decide ((v_0+(Int.toNat (((v_1:Nat):Int) - 1)))<ZB.length)&&GD N (b.getD (u_0+(Int.toNat ((v_1:Nat):Int))) 0) (b.getD (u_0+(Int.toNat (((v_1:Nat):Int) - 1))) 0) (ZB.getD (v_0+(Int.toNat (((v_1:Nat):Int) - 1))) 0) (λnr ZD=>ah N (tF N u_0 u_1 v_0 v_1 ((v_1:Nat):Int) b ZB (λt4=>k0 t4)) (nr,ZD)))))))))))))))
def R9 (N:Nat):Nat->Nat->Nat->Nat->LI->LI->(Kz2)->Bool:=az N (Qx N)
def ia (N u u_2 v v_2:Nat) (n q t17:Int) (v_3:LI) (e0:Int->Int->LI->Bool):(Int × Int × Int × LI)->((Int × Int × Int × LI)->Bool)->Bool:=λv_ K=>match v_ with
 | (carry,borrow,t18,u_3)=>(cond (decide (t18<t17)) (inR t18 v_2&&(decide ((v+t18.toNat)<v_3.length)&&lM N q (v_3.getD (v+t18.toNat) 0) 0 carry (λZD ZI=>inR t18 u_2&&(decide ((u+t18.toNat)<u_3.length)&&sQ5 N (u_3.getD (u+t18.toNat) 0) ZI borrow (λZX ZR=>inR t18 u_2&&(decide ((u+t18.toNat)<u_3.length)&&(af .i64 (t18+1)&&K (ZD,ZR,(t18+1),(u_3.set (u+t18.toNat) ZX))))))))) (e0 carry borrow u_3))
def ib (N u_8 u_9 v_7 v_8:Nat) (n_2 q_2 aaw t60:Int) (v_9:LI) (e0:Ky7):(Int × Int × LI)->((Int × Int × LI)->Bool)->Bool:=λv_ K=>match v_ with
 | (aau,t61,aa9)=>(cond (decide (t61<t60)) (inR t61 u_9&&(decide ((u_8+t61.toNat)<aa9.length)&&(inR t61 v_8&&(decide ((v_7+t61.toNat)<v_9.length)&&sQ3 N (aa9.getD (u_8+t61.toNat) 0) (v_9.getD (v_7+t61.toNat) 0) aau (λn7 n8=>inR t61 u_9&&(decide ((u_8+t61.toNat)<aa9.length)&&(af .i64 (t61+1)&&K (n8,(t61+1),(aa9.set (u_8+t61.toNat) n7))))))))) (e0 aau aa9))
def tD (N u_5 u_6 v_4 v_5:Nat) (ZS:Int) (v_6:LI) (e0:Ky7):(Int × Int × LI)->((Int × Int × LI)->Bool)->Bool:=λv_ K=>match v_ with
 | (q_1,aav,u_7)=>(cond (aav != 0) (ah N (ib N u_5 u_6 v_4 v_5 ZS q_1 aav ZS v_6 (λabX abc=>inR ZS u_6&&(decide ((u_5+ZS.toNat)<abc.length)&&sQ3 N (abc.getD (u_5+ZS.toNat) 0) 0 abX (λn9 n10=>inR ZS u_6&&(decide ((u_5+ZS.toNat)<abc.length)&&K ((IntKind.wrap .u64 (q_1 - 1)),(IntKind.wrap .u64 (aav - n10)),(abc.set (u_5+ZS.toNat) n9))))))) (0,0,u_7)) (e0 q_1 u_7))
def Na (N u_0 u_1 v_0 v_1:Nat) (b ZB:LI) (k0:Ky7):Bool:=
 (R9 N u_0 u_1 v_0 v_1 b ZB (λnr=>ah N (ia N u_0 u_1 v_0 v_1 ((v_1:Nat):Int) nr ((v_1:Nat):Int) ZB (λZZ aaH u_4=>inR ((v_1:Nat):Int) u_1&&(decide ((u_0+(Int.toNat ((v_1:Nat):Int)))<u_4.length)&&sQ5 N (u_4.getD (u_0+(Int.toNat ((v_1:Nat):Int))) 0) ZZ aaH (λn5 n6=>inR ((v_1:Nat):Int) u_1&&(decide ((u_0+(Int.toNat ((v_1:Nat):Int)))<u_4.length)&&ah N (tD N u_0 u_1 v_0 v_1 ((v_1:Nat):Int) ZB (λq_3 b0=>k0 q_3 b0)) (nr,n6,(u_4.set (u_0+(Int.toNat ((v_1:Nat):Int))) n5))))))) (0,0,0,b)))
def PL (N:Nat):Nat->Nat->Nat->Nat->LI->LI->(Ky7)->Bool:=az N (Na N)
def wk (N x Z5:Nat) (Z9:LI) (e0:Kz2):(Int)->((Int)->Bool)->Bool:=λv_ K=>match v_ with
 | n=>(cond ((decide (n>0))==true) (af .i64 (n - 1)&&(inR (n - 1) Z5&&(decide ((x+(Int.toNat (n - 1)))<Z9.length)&&cond ((Z9.getD (x+(Int.toNat (n - 1))) 0)==0) (af .i64 (n - 1)&&K (n - 1)) (e0 n)))) (e0 n))
def qf (N Z6 ZQ:Nat) (b:LI) (k0:Kz3):Bool:=
 (ah N (wk N Z6 ZQ b (λZS=>decide (0<=ZS/\ZS<=((ZQ:Nat):Int))&&k0 (ZS.toNat - 0))) ((ZQ:Nat):Int))
def qZ (N:Nat):Nat->Nat->LI->(Kz3)->Bool:=az N (qf N)
def Sw (N Z6 ZQ:Nat) (i:Int) (b:LI) (k0:Kz2):Bool:=
 (cond (decide (i<((ZQ:Nat):Int))) (inR i ZQ&&(decide ((Z6+i.toNat)<b.length)&&k0 (b.getD (Z6+i.toNat) 0))) (k0 0))
def J3 (N:Nat):Nat->Nat->Int->LI->(Kz2)->Bool:=Sw N
def lR (N x Z5:Nat) (words rest:Int) (t37 adk:Nat) (t38:Int) (Z9:LI) (e0:Kz2):(Int × Int)->((Int × Int)->Bool)->Bool:=λv_ K=>match v_ with
 | (lost,t39)=>(cond (decide (t39<t38)) (inR t39 adk&&(decide ((t37+t39.toNat)<Z9.length)&&(af .i64 (t39+1)&&K ((aD .or .u64 lost (Z9.getD (t37+t39.toNat) 0)),(t39+1))))) (e0 lost))
def i6 (N x_4 x_5:Nat) (aaM aar aco t53:Int) (x_6:LI) (e0:Kz6):(Int × LI)->((Int × LI)->Bool)->Bool:=λv_ K=>match v_ with
 | (t54,z)=>(cond (decide (t54<t53)) (af .i64 (aaM+t54)&&J3 N x_4 x_5 (aaM+t54) x_6 (λnr=>decide (0<=aar)&&(af .i64 (aaM+t54)&&(af .i64 ((aaM+t54)+1)&&J3 N x_4 x_5 ((aaM+t54)+1) x_6 (λZD=>decide (0<=(IntKind.wrap .u64 (64 - aar)))&&(inR t54 z.length&&(decide (t54.toNat<z.length)&&(af .i64 (t54+1)&&K ((t54+1),(z.set t54.toNat (aD .or .u64 (Int.fdiv nr (2 ^ (min aar.toNat 64))) (IntKind.wrap .u64 (ZD*2 ^ (min (Int.toNat (IntKind.wrap .u64 (64 - aar))) 64)))))))))))))) (e0 z))
def I6 (N Z6 ZQ:Nat) (n:Int) (b:LI) (k0:LI->Bool->Bool):Bool:=
 (cond (decide ((IntKind.wrap .u64 (Int.tdiv n 64))>=(IntKind.wrap .u64 ((ZQ:Nat):Int)))) (k0 [] (decide (((ZQ:Nat):Int)>0))) (af .i64 (IntKind.wrap .u64 (Int.tdiv n 64))&&(inR (IntKind.wrap .u64 (Int.tdiv n 64)) ZQ&&(decide ((Z6+(Int.toNat (IntKind.wrap .u64 (Int.tdiv n 64))))<b.length)&&(decide (0<=(Int.tmod n 64))&&(decide (0<=(IntKind.wrap .u64 (Int.tdiv n 64))/\(IntKind.wrap .u64 (Int.tdiv n 64))<=((ZQ:Nat):Int))&&ah N (lR N Z6 ZQ (IntKind.wrap .u64 (Int.tdiv n 64)) (Int.tmod n 64) Z6 ((Int.toNat (IntKind.wrap .u64 (Int.tdiv n 64))) - 0) ((((Int.toNat (IntKind.wrap .u64 (Int.tdiv n 64))) - 0):Nat):Int) b (λac6=>af .i64 (((ZQ:Nat):Int) - (IntKind.wrap .u64 (Int.tdiv n 64)))&&(fY 8 (((ZQ:Nat):Int) - (IntKind.wrap .u64 (Int.tdiv n 64))) (((ZQ:Nat):Int) - (IntKind.wrap .u64 (Int.tdiv n 64)))&&ah N (i6 N Z6 ZQ (IntKind.wrap .u64 (Int.tdiv n 64)) (Int.tmod n 64) ac6 (((List.length (List.replicate (Int.toNat (((ZQ:Nat):Int) - (IntKind.wrap .u64 (Int.tdiv n 64)))) (0:Int))):Nat):Int) b (λz_1=>xf N z_1 (λmr=>decide ((0+mr)<=z_1.length)&&k0 (List.take mr (List.drop 0 z_1)) (ac6 != 0)))) (0,(List.replicate (Int.toNat (((ZQ:Nat):Int) - (IntKind.wrap .u64 (Int.tdiv n 64)))) (0:Int)))))) ((aD .and .u64 (b.getD (Z6+(Int.toNat (IntKind.wrap .u64 (Int.tdiv n 64)))) 0) (IntKind.wrap .u64 ((IntKind.wrap .u64 ((1:Int)*2 ^ (min (Int.toNat (Int.tmod n 64)) 64))) - 1))),0)))))))
def J1 (N:Nat):Nat->Nat->Int->LI->(LI->Bool->Bool)->Bool:=az N (I6 N)
def Qc (N:Nat) (up:Int) (u u_1:Nat) (n:Int) (e0:Kz0):(Int × LI × LI)->((Int × LI × LI)->Bool)->Bool:=λv_ K=>match v_ with
 | (j,u_2,q)=>(cond (decide (j>=0)) (af .i64 (j+n)&&(af .i64 ((j+n)+1)&&(decide (0<=j/\j<=((j+n)+1)/\((j+n)+1)<=((u_1:Nat):Int))&&Eh N (u+j.toNat) ((Int.toNat ((j+n)+1)) - j.toNat) [] u_2 (λZX s6=>inR j q.length&&(decide (j.toNat<q.length)&&(af .i64 (j - 1)&&K ((j - 1),s6,(q.set j.toNat ZX)))))))) (e0 u_2 q))
def BI (N:Nat) (ad8:Int) (v v_1 u_5 u_6:Nat) (ZS:Int) (v_2:LI) (e0:Kz0):(Int × LI × LI)->((Int × LI × LI)->Bool)->Bool:=λv_ K=>match v_ with
 | (j_1,u_7,q_3)=>(cond (decide (j_1>=0)) (af .i64 (j_1+ZS)&&(af .i64 ((j_1+ZS)+1)&&(decide (0<=j_1/\j_1<=((j_1+ZS)+1)/\((j_1+ZS)+1)<=((u_6:Nat):Int))&&PL N (u_5+j_1.toNat) ((Int.toNat ((j_1+ZS)+1)) - j_1.toNat) v v_1 u_7 v_2 (λZR s7=>inR j_1 q_3.length&&(decide (j_1.toNat<q_3.length)&&(af .i64 (j_1 - 1)&&K ((j_1 - 1),s7,(q_3.set j_1.toNat ZR)))))))) (e0 u_7 q_3))
def Nx (N:Nat) (x y:LI) (aeY:Int) (aa9:Nat) (abc q_6:LI) (k0:Kz0):Bool:=
 (qZ N 0 aa9 abc (λacT=>J1 N 0 acT aeY abc (λs8 cr=>xf N q_6 (λac8=>decide ((0+ac8)<=q_6.length)&&k0 (List.take ac8 (List.drop 0 q_6)) s8))))
def Nr (N:Nat) (x y:LI) (k0:Kz0):Bool:=
 (Dc N x y (λnr=>cond (decide (nr<0)) (rG N x (λnsr=>k0 [] nsr)) (cond (((y.length:Nat):Int)==1) (inR 0 y.length&&oV N x (y.getD 0 0) (λZC ZD=>jT N ZD (λZG=>k0 ZC ZG))) (af .i64 (((y.length:Nat):Int) - 1)&&(inR (((y.length:Nat):Int) - 1) y.length&&RV N (y.getD (Int.toNat (((y.length:Nat):Int) - 1)) 0) (λZI=>PY N y (IntKind.wrap .u64 ZI) (PY N x (IntKind.wrap .u64 ZI) (af .i64 (((x.length:Nat):Int)+1)&&(decide (0<=(((x.length:Nat):Int)+1)/\(((x.length:Nat):Int)+1)<=2)&&(af .i64 (((((Int.toNat (((x.length:Nat):Int)+1)) - 0):Nat):Int) - 0)&&(fY 8 (((((Int.toNat (((x.length:Nat):Int)+1)) - 0):Nat):Int) - 0) (((((Int.toNat (((x.length:Nat):Int)+1)) - 0):Nat):Int) - 0)&&(af .i64 (((((Int.toNat (((x.length:Nat):Int)+1)) - 0):Nat):Int) - 0)&&(af .i64 ((((((Int.toNat (((x.length:Nat):Int)+1)) - 0):Nat):Int) - 0) - 1)&&ah N (Qc N (IntKind.wrap .u64 ZI) 0 ((Int.toNat (((x.length:Nat):Int)+1)) - 0) 0 (λu_3 q_1=>Nx N x y (IntKind.wrap .u64 ZI) ((Int.toNat (((x.length:Nat):Int)+1)) - 0) u_3 q_1 k0)) (((((((Int.toNat (((x.length:Nat):Int)+1)) - 0):Nat):Int) - 0) - 1),([]++[0,0]),(List.replicate (Int.toNat (((((Int.toNat (((x.length:Nat):Int)+1)) - 0):Nat):Int) - 0)) (0:Int))))))))) (λaan ZN=>decide ((0+aan)<=ZN.length)&&(decide ((List.length ((List.take aan (List.drop 0 ZN))++[0,0]))*8<=140737488355328)&&(af .i64 (((x.length:Nat):Int)+1)&&(decide (0<=(((x.length:Nat):Int)+1)/\(((x.length:Nat):Int)+1)<=(((List.length ((List.take aan (List.drop 0 ZN))++[0,0])):Nat):Int))&&(af .i64 (((((Int.toNat (((x.length:Nat):Int)+1)) - 0):Nat):Int) - 0)&&(fY 8 (((((Int.toNat (((x.length:Nat):Int)+1)) - 0):Nat):Int) - 0) (((((Int.toNat (((x.length:Nat):Int)+1)) - 0):Nat):Int) - 0)&&(af .i64 (((((Int.toNat (((x.length:Nat):Int)+1)) - 0):Nat):Int) - 0)&&(af .i64 ((((((Int.toNat (((x.length:Nat):Int)+1)) - 0):Nat):Int) - 0) - 1)&&ah N (Qc N (IntKind.wrap .u64 ZI) 0 ((Int.toNat (((x.length:Nat):Int)+1)) - 0) 0 (λu_4 q_2=>Nx N x y (IntKind.wrap .u64 ZI) ((Int.toNat (((x.length:Nat):Int)+1)) - 0) u_4 q_2 k0)) (((((((Int.toNat (((x.length:Nat):Int)+1)) - 0):Nat):Int) - 0) - 1),((List.take aan (List.drop 0 ZN))++[0,0]),(List.replicate (Int.toNat (((((Int.toNat (((x.length:Nat):Int)+1)) - 0):Nat):Int) - 0)) (0:Int)))))))))))) (λmr ZJ=>PY N x (IntKind.wrap .u64 ZI) (af .i64 (((x.length:Nat):Int)+1)&&(decide (0<=(((x.length:Nat):Int)+1)/\(((x.length:Nat):Int)+1)<=2)&&(af .i64 (((((Int.toNat (((x.length:Nat):Int)+1)) - 0):Nat):Int) - ((mr:Nat):Int))&&(fY 8 (((((Int.toNat (((x.length:Nat):Int)+1)) - 0):Nat):Int) - ((mr:Nat):Int)) (((((Int.toNat (((x.length:Nat):Int)+1)) - 0):Nat):Int) - ((mr:Nat):Int))&&(af .i64 (((((Int.toNat (((x.length:Nat):Int)+1)) - 0):Nat):Int) - ((mr:Nat):Int))&&(af .i64 ((((((Int.toNat (((x.length:Nat):Int)+1)) - 0):Nat):Int) - ((mr:Nat):Int)) - 1)&&ah N (BI N (IntKind.wrap .u64 ZI) 0 mr 0 ((Int.toNat (((x.length:Nat):Int)+1)) - 0) ((mr:Nat):Int) ZJ (λu_8 q_4=>Nx N x y (IntKind.wrap .u64 ZI) ((Int.toNat (((x.length:Nat):Int)+1)) - 0) u_8 q_4 k0)) (((((((Int.toNat (((x.length:Nat):Int)+1)) - 0):Nat):Int) - ((mr:Nat):Int)) - 1),([]++[0,0]),(List.replicate (Int.toNat (((((Int.toNat (((x.length:Nat):Int)+1)) - 0):Nat):Int) - ((mr:Nat):Int))) (0:Int))))))))) (λZ1 ZL=>decide ((0+Z1)<=ZL.length)&&(decide ((List.length ((List.take Z1 (List.drop 0 ZL))++[0,0]))*8<=140737488355328)&&(af .i64 (((x.length:Nat):Int)+1)&&(decide (0<=(((x.length:Nat):Int)+1)/\(((x.length:Nat):Int)+1)<=(((List.length ((List.take Z1 (List.drop 0 ZL))++[0,0])):Nat):Int))&&(af .i64 (((((Int.toNat (((x.length:Nat):Int)+1)) - 0):Nat):Int) - ((mr:Nat):Int))&&(fY 8 (((((Int.toNat (((x.length:Nat):Int)+1)) - 0):Nat):Int) - ((mr:Nat):Int)) (((((Int.toNat (((x.length:Nat):Int)+1)) - 0):Nat):Int) - ((mr:Nat):Int))&&(af .i64 (((((Int.toNat (((x.length:Nat):Int)+1)) - 0):Nat):Int) - ((mr:Nat):Int))&&(af .i64 ((((((Int.toNat (((x.length:Nat):Int)+1)) - 0):Nat):Int) - ((mr:Nat):Int)) - 1)&&ah N (BI N (IntKind.wrap .u64 ZI) 0 mr 0 ((Int.toNat (((x.length:Nat):Int)+1)) - 0) ((mr:Nat):Int) ZJ (λu_9 q_5=>Nx N x y (IntKind.wrap .u64 ZI) ((Int.toNat (((x.length:Nat):Int)+1)) - 0) u_9 q_5 k0)) (((((((Int.toNat (((x.length:Nat):Int)+1)) - 0):Nat):Int) - ((mr:Nat):Int)) - 1),((List.take Z1 (List.drop 0 ZL))++[0,0]),(List.replicate (Int.toNat (((((Int.toNat (((x.length:Nat):Int)+1)) - 0):Nat):Int) - ((mr:Nat):Int))) (0:Int))))))))))))))))))
def Bv (N:Nat):LI->LI->(Kz0)->Bool:=az N (Nr N)
def Ck (N:Nat) (x:LI) (k0:Kz2):Bool:=
 (zg N x 0 (λnr=>k0 nr))
def uC (N:Nat):LI->(Kz2)->Bool:=Ck N
def G2 (N:Nat) (e0:Kz0):(LI × LI)->((LI × LI)->Bool)->Bool:=λv_ K=>match v_ with
 | (Z5,y_2)=>(cond (decide (((y_2.length:Nat):Int)>1)) (qY N Z5 (λZD=>af .i64 (ZD - 64)&&uD N Z5 (ZD - 64) (λZI=>uD N y_2 (ZD - 64) (λZX=>tg N ZI ZX (λZR n5 n6 n7 cr=>cond (n5 != 0) (eV N ZR n5 n6 n7 cr Z5 y_2 (λnsr ZC=>K (nsr,ZC))) (Bv N Z5 y_2 (λZG ZJ=>K (y_2,ZJ)))))))) (e0 Z5 y_2))
def fT (N:Nat) (e0:Kz2):(Int × Int)->((Int × Int)->Bool)->Bool:=λv_ K=>match v_ with
 | (a,b)=>(cond (decide (b>0)) ((!decide (b=0))&&K (b,(Int.tmod a b))) (e0 a))
def yz (N:Nat) (x y x_4 y_4:LI) (k0:Kz6):Bool:=
 (cond (((y_4.length:Nat):Int)==0) (k0 x_4) (uC N x_4 (λn8=>uC N y_4 (λn9=>ah N (fT N (λZM=>jT N ZM (λs6=>k0 s6))) (n8,n9)))))
def Qy (N:Nat) (x y ZQ Z3:LI) (k0:Kz6):Bool:=
 (ah N (G2 N (λZ9 y_3=>cond ((decide (((y_3.length:Nat):Int)>0))==true) (cond (decide (((Z9.length:Nat):Int)>1)) (Bv N Z9 y_3 (λZN ZL=>yz N x y y_3 ZL k0)) (yz N x y Z9 y_3 k0)) (yz N x y Z9 y_3 k0))) (ZQ,Z3))
def TB (N:Nat) (x y:LI) (k0:Kz6):Bool:=
 (Dc N x y (λnr=>cond (decide (nr<0)) (Qy N x y y x k0) (Qy N x y x y k0)))
def Ce (N:Nat):LI->LI->(Kz6)->Bool:=az N (TB N)
def Qu (N:Nat) (neg:Bool) (abs:LI) (b ZB:Bool) (k0:Ky2):Bool:=
 (cond (neg==true) (k0 (decide (((abs.length:Nat):Int)>0)) []) (k0 false []))
def Mj (N:Nat):Bool->LI->Bool->Bool->(Ky2)->Bool:=Qu N
def TA (N:Nat) (neg:Bool) (abs:LI) (b:Bool) (ZB:LI) (ZH:Bool) (ZW:LI) (k0:Kz1):Bool:=
 (cond (neg==true) (k0 (decide (((abs.length:Nat):Int)>0))) (k0 false))
def RZ (N:Nat):Bool->LI->Bool->LI->Bool->LI->(Kz1)->Bool:=TA N
def I9 (N:Nat) (neg:Bool) (a b:LI) (ZB ZH:Bool) (ZM ZW:LI) (k0:Kx4):Bool:=
 (rG N ZM (λZL=>Mj N neg ZL ZB ZH (λcr s6=>rG N ZW (λs7=>RZ N false s7 cr ZL ZH s6 (λZF=>k0 cr ZL ZF s7)))))
def TL (N:Nat) (neg:Bool) (a b:LI) (ZB ZH:Bool) (k0:Kx4):Bool:=
 (Ce N a b (λnsr=>Dc N nsr [1] (λnr=>cond (nr != 0) (Bv N a nsr (λZC ZG=>Bv N b nsr (λZJ ZN=>I9 N neg a b ZB ZH ZC ZJ k0))) (I9 N neg a b ZB ZH a b k0))))
def Wg (N:Nat):Bool->LI->LI->Bool->Bool->(Kx4)->Bool:=az N (TL N)
def Tg (N:Nat) (b ZB ZH:Bool) (ZW:LI) (Z7:Bool) (b_5:LI) (k0:Kx4):Bool:=
 (Wg N (ZH != Z7) ZW b_5 b ZB (λcr nsr ZF ZC=>k0 cr nsr ZF ZC))
def RP (N:Nat):Bool->Bool->Bool->LI->Bool->LI->(Kx4)->Bool:=Tg N
def kW (N:Nat) (y_2:LI) (i a:Int) (adf:LI) (adg adh:Int) (t32:LI) (t33:Int) (e0:Ky7):(Int × Int × LI)->((Int × Int × LI)->Bool)->Bool:=λv_ K=>match v_ with
 | (carry,t34,z_1)=>(cond (decide (t34<t33)) (inR t34 t32.length&&(af .i64 (i+t34)&&(af .i64 (i+t34)&&(inR (i+t34) z_1.length&&(decide ((Int.toNat (i+t34))<z_1.length)&&lM N a (t32.getD t34.toNat 0) (z_1.getD (Int.toNat (i+t34)) 0) carry (λnr ZD=>inR (i+t34) z_1.length&&(decide ((Int.toNat (i+t34))<z_1.length)&&(af .i64 (t34+1)&&K (nr,(t34+1),(z_1.set (Int.toNat (i+t34)) ZD)))))))))) (e0 carry z_1))
def kV (N:Nat) (Z3 t25:LI) (t26:Int) (e0:Kz6):(Int × LI)->((Int × LI)->Bool)->Bool:=λv_ K=>match v_ with
 | (t27,z)=>(cond (decide (t27<t26)) (inR t27 t25.length&&ah N (kW N Z3 t27 (t25.getD t27.toNat 0) t25 t26 t27 Z3 ((Z3.length:Nat):Int) (λZZ z_2=>af .i64 (t27+((Z3.length:Nat):Int))&&(inR (t27+((Z3.length:Nat):Int)) z_2.length&&(decide ((Int.toNat (t27+((Z3.length:Nat):Int)))<z_2.length)&&(af .i64 (t27+1)&&K ((t27+1),(z_2.set (Int.toNat (t27+((Z3.length:Nat):Int))) ZZ))))))) (0,0,z)) (e0 z))
def T0 (N:Nat) (x y:LI) (k0:Kz6):Bool:=
 (cond ((((x.length:Nat):Int)==0)==false) (cond (((y.length:Nat):Int)==0) (k0 []) (af .i64 (((x.length:Nat):Int)+((y.length:Nat):Int))&&(fY 8 (((x.length:Nat):Int)+((y.length:Nat):Int)) (((x.length:Nat):Int)+((y.length:Nat):Int))&&ah N (kV N y x ((x.length:Nat):Int) (λz_3=>xf N z_3 (λmr=>decide ((0+mr)<=z_3.length)&&k0 (List.take mr (List.drop 0 z_3))))) (0,(List.replicate (Int.toNat (((x.length:Nat):Int)+((y.length:Nat):Int))) (0:Int)))))) (k0 []))
def zE (N:Nat):LI->LI->(Kz6)->Bool:=az N (T0 N)
def WZ (N:Nat) (b:Bool) (ZB:LI) (ZH:Bool) (ZW:LI) (k0:Ky2):Bool:=
 (zE N ZB ZW (λnsr=>Mm N (b != ZH) nsr b ZB (λcr=>k0 cr nsr)))
def XF (N:Nat):Bool->LI->Bool->LI->(Ky2)->Bool:=WZ N
def Sk (N:Nat) (neg b:Bool) (ZB:LI) (ZH:Bool) (ZW Z7:LI) (k0:Kz1):Bool:=
 (cond (neg==true) (k0 (decide (((Z7.length:Nat):Int)>0))) (k0 false))
def SR (N:Nat):Bool->Bool->LI->Bool->LI->LI->(Kz1)->Bool:=Sk N
def TS (N:Nat) (neg:Bool) (a:LI) (b ZB:Bool) (ZH:LI) (k0:Ky1):Bool:=
 (Mj N neg a b ZB (λcr nsr=>SR N false cr a ZB nsr ZH (λZF=>k0 cr ZF)))
def XC (N:Nat):Bool->LI->Bool->Bool->LI->(Ky1)->Bool:=az N (TS N)
def WP (N:Nat) (b ZB ZH:Bool) (ZW:LI) (k0:Kx4):Bool:=
 (rG N ZW (λnsr=>XC N ZH nsr b ZB [1] (λcr ZF=>k0 cr nsr ZF [1])))
def Wb (N:Nat):Bool->Bool->Bool->LI->(Kx4)->Bool:=WP N
def cB (N:Nat) (x:Fl) (p:Bool) (p_1 p_2:Int) (n:Bool) (ZS:LI) (k0:Kx4):Bool:=
 (GK N 1 (λZ4 ZG=>af .i64 (0 - p_2)&&Wj N (IntKind.wrap .u64 (imm true p_2 (0 - p_2))) false Z4 ZG (λaa1 ZJ=>cond (decide (p_2<0)) (RP N false false n ZS aa1 ZJ (λaaW ZN abz ZL=>k0 aaW ZN abz ZL)) (XF N n ZS aa1 ZJ (λabA s6=>Wb N false false abA s6 (λc8 s7 c9 s8=>k0 c8 s7 c9 s8))))))
def jP (N:Nat) (x:Fl) (k0:Kx4):Bool:=
 (qX N x (λcr nr ZD ZI=>dx N (ZI==0) 4 (RQ N nr false (λZF nsr=>cond cr (RY N ZF nsr (λZT ZC=>cB N x cr nr ZD ZT ZC k0)) (cB N x cr nr ZD ZF nsr k0)))))
def jV (N:Nat):Fl->(Kx4)->Bool:=az N (jP N)
def dQ (N:Nat) (acE:LF) (adb aaI aaJ g_2 g_3:Int) (e0:List RY0->Bool):(Int × List RY0)->((Int × List RY0)->Bool)->Bool:=λv_ K=>match v_ with
 | (aca,b2)=>(cond (decide (aca<adb)) (inR aca acE.length&&jV N (acE.getD aca.toNat none) (λZT ZG Z4 ZJ=>decide ((List.length (b2++[((ZT,ZG),(Z4,ZJ))]))*8<=140737488355328)&&(af .i64 (aca+1)&&K ((aca+1),(b2++[((ZT,ZG),(Z4,ZJ))]))))) (e0 b2))
def ji (N:Nat) (ZP ZE:Int) (ZK:LF) (k0:List RY0->Bool):Bool:=
 (v7 N ZP ZE ZK (λnr=>dx N (nr==0) nr (ah N (dQ N ZK ((ZK.length:Nat):Int) 0 0 ZP ZE (λ(aaV:List RY0)=>k0 aaV)) (0,[]))))
def jl (N:Nat):Int->Int->LF->(List RY0->Bool)->Bool:=az N (ji N)
def fD (N:Nat) (g_0 g_1 i j:Int) (b:List RY0) (k0:Kx4):Bool:=
 (af .i64 (i*g_1)&&(af .i64 ((i*g_1)+j)&&(inR ((i*g_1)+j) b.length&&(decide ((Int.toNat ((i*g_1)+j))<b.length)&&k0 (b.getD (Int.toNat ((i*g_1)+j)) ((false,[]),(false,[]))).1.1 (b.getD (Int.toNat ((i*g_1)+j)) ((false,[]),(false,[]))).1.2 (b.getD (Int.toNat ((i*g_1)+j)) ((false,[]),(false,[]))).2.1 (b.getD (Int.toNat ((i*g_1)+j)) ((false,[]),(false,[]))).2.2))))
def br (N:Nat):Int->Int->Int->Int->List RY0->(Kx4)->Bool:=az N (fD N)
def WN (N:Nat) (Z6:Bool) (ZQ:LI) (Z5:Bool) (Z9:LI) (k0:Kz6):Bool:=
 (cond (((Z9.length:Nat):Int)==0) (k0 [1]) (k0 Z9))
def Cc (N:Nat):Bool->LI->Bool->LI->(Kz6)->Bool:=WN N
def Ts (N:Nat) (neg:Bool) (a b:LI) (ZB ZH:Bool) (k0:Ky1):Bool:=
 (Mj N neg a ZB ZH (λcr nsr=>RZ N false b cr a ZH nsr (λZF=>k0 cr ZF)))
def Ml (N:Nat):Bool->LI->LI->Bool->Bool->(Ky1)->Bool:=az N (Ts N)
def TW (N:Nat) (Z6:Bool) (ZQ:LI) (Z5:Bool) (Z9:LI) (b ZB:Bool) (k0:Kx4):Bool:=
 (rG N ZQ (λnsr=>Cc N Z6 ZQ Z5 Z9 (λZC=>rG N ZC (λZG=>Ml N (!Z6) nsr ZG b ZB (λcr ZF=>k0 cr nsr ZF ZG)))))
def Wn (N:Nat):Bool->LI->Bool->LI->Bool->Bool->(Kx4)->Bool:=az N (TW N)
def WX (N:Nat) (b:Bool) (ZB:LI) (ZH:Bool) (ZW:LI) (k0:Kz6):Bool:=
 (cond (((ZW.length:Nat):Int)==0) (k0 [1]) (k0 ZW))
def Wk (N:Nat):Bool->LI->Bool->LI->(Kz6)->Bool:=WX N
def ng (N:Nat) (x y:LI) (k0:Kz6):Bool:=
 (Bv N x y (λnsr ZC=>k0 nsr))
def T2 (N:Nat) (x y:LI) (k0:Kz6):Bool:=
 (cond ((((y.length:Nat):Int)==1)==true) (inR 0 y.length&&cond ((y.getD 0 0)==1) (k0 x) (ng N x y k0)) (ng N x y k0))
def v8 (N:Nat):LI->LI->(Kz6)->Bool:=az N (T2 N)
def nu (N:Nat) (ZQ Z3:LI) (n t17:Int) (e0:Ky7):(Int × Int × LI)->((Int × Int × LI)->Bool)->Bool:=λv_ K=>match v_ with
 | (carry,t18,z)=>(cond (decide (t18<t17)) (zg N ZQ t18 (λnr=>zg N Z3 t18 (λZD=>sQ3 N nr ZD carry (λZI ZX=>inR t18 z.length&&(decide (t18.toNat<z.length)&&(af .i64 (t18+1)&&K (ZX,(t18+1),(z.set t18.toNat ZI)))))))) (e0 carry z))
def xx (N:Nat) (x y:LI) (k0:Kz6):Bool:=
 (af .i64 ((imm true ((x.length:Nat):Int) ((y.length:Nat):Int))+1)&&(fY 8 ((imm true ((x.length:Nat):Int) ((y.length:Nat):Int))+1) ((imm true ((x.length:Nat):Int) ((y.length:Nat):Int))+1)&&ah N (nu N x y (imm true ((x.length:Nat):Int) ((y.length:Nat):Int)) (imm true ((x.length:Nat):Int) ((y.length:Nat):Int)) (λZZ z_1=>inR (imm true ((x.length:Nat):Int) ((y.length:Nat):Int)) z_1.length&&(decide ((Int.toNat (imm true ((x.length:Nat):Int) ((y.length:Nat):Int)))<z_1.length)&&xf N (z_1.set (Int.toNat (imm true ((x.length:Nat):Int) ((y.length:Nat):Int))) ZZ) (λmr=>decide ((0+mr)<=(List.length (z_1.set (Int.toNat (imm true ((x.length:Nat):Int) ((y.length:Nat):Int))) ZZ)))&&k0 (List.take mr (List.drop 0 (z_1.set (Int.toNat (imm true ((x.length:Nat):Int) ((y.length:Nat):Int))) ZZ))))))) (0,0,(List.replicate (Int.toNat ((imm true ((x.length:Nat):Int) ((y.length:Nat):Int))+1)) (0:Int)))))
def yi (N:Nat):LI->LI->(Kz6)->Bool:=az N (xx N)
def Tv (N:Nat) (neg:Bool) (y:LI) (b:Bool) (ZB:LI) (k0:Ky2):Bool:=
 (cond (b==neg) (yi N ZB y (λnsr=>Mm N neg nsr b ZB (λcr=>k0 cr nsr))) (Dc N ZB y (λnr=>cond (decide (nr>=0)) (zi N ZB y (λZC=>Mm N b ZC b ZB (λZF=>k0 ZF ZC))) (zi N y ZB (λZG=>Mm N neg ZG b ZB (λZT=>k0 ZT ZG))))))
def RW (N:Nat):Bool->LI->Bool->LI->(Ky2)->Bool:=az N (Tv N)
def Tt (N:Nat) (Z6:Bool) (ZQ:LI) (Z5:Bool) (Z9:LI) (b ZB ZH:Bool) (ZW:LI) (Z7:Bool) (b_5:LI) (k0:Kx4):Bool:=
 (Cc N Z6 ZQ Z5 Z9 (λnsr=>Wk N ZH ZW Z7 b_5 (λZC=>Ce N nsr ZC (λZG=>v8 N nsr ZG (λZJ=>v8 N ZC ZG (λZN=>zE N ZQ ZN (λZL=>Ee N Z6 ZL false (λcr=>zE N ZW ZJ (λs6=>RW N ZH s6 cr ZL (λZF s7=>Ce N s7 ZG (λs8=>v8 N s7 s8 (λs9=>rG N s9 (λs10=>v8 N ZC s8 (λs11=>zE N ZJ s11 (λs12=>Ml N ZF s10 s12 b ZB (λZT Z4=>k0 ZT s10 Z4 s12))))))))))))))))
def V_ (N:Nat):Bool->LI->Bool->LI->Bool->Bool->Bool->LI->Bool->LI->(Kx4)->Bool:=az N (Tt N)
def MQ (N:Nat) (Z6:Bool) (ZQ:LI) (Z5:Bool) (Z9:LI) (y_0:Bool) (Z3:LI) (y_2:Bool) (y_3:LI) (b ZB:Bool) (k0:Kx4):Bool:=
 (Wn N y_0 Z3 y_2 y_3 false false (λcr nsr ZF ZC=>V_ N Z6 ZQ Z5 Z9 b ZB cr nsr ZF ZC (λZT ZG Z4 ZJ=>k0 ZT ZG Z4 ZJ)))
def SW (N:Nat):Bool->LI->Bool->LI->Bool->LI->Bool->LI->Bool->Bool->(Kx4)->Bool:=az N (MQ N)
def jp (N:Nat) (Z6:Bool) (ZQ:LI) (Z5:Bool) (Z9:LI) (y_0:Bool) (Z3:LI) (y_2:Bool) (y_3:LI) (k0:Kx4):Bool:=
 (SW N Z6 ZQ Z5 Z9 y_0 Z3 y_2 y_3 false false (λcr nsr ZF ZC=>k0 cr nsr ZF ZC))
def dd (N:Nat):Bool->LI->Bool->LI->Bool->LI->Bool->LI->(Kx4)->Bool:=jp N
def Nm (N:Nat) (Z6:Bool) (ZQ:LI) (Z5:Bool) (Z9:LI) (k0:Kz2):Bool:=
 (cond Z6 (k0 (-1)) (cond (((ZQ.length:Nat):Int)==0) (k0 0) (k0 1)))
def S1 (N:Nat):Bool->LI->Bool->LI->(Kz2)->Bool:=az N (Nm N)
def rN (N:Nat) (Z6:Bool) (ZQ:LI) (Z5:Bool) (Z9:LI) (k0:Kz2):Bool:=
 (S1 N Z6 ZQ Z5 Z9 (λnr=>k0 nr))
def tf (N:Nat):Bool->LI->Bool->LI->(Kz2)->Bool:=rN N
def js (N:Nat) (Z6:Bool) (ZQ:LI) (Z5:Bool) (Z9:LI) (k0:Kz2):Bool:=
 (tf N Z6 ZQ Z5 Z9 (λnr=>k0 nr))
def bD (N:Nat):Bool->LI->Bool->LI->(Kz2)->Bool:=js N
def bT (N:Nat) (i ad3 aaj t9:Int) (aa4:List RY0) (g_3 g_4:Int) (e0:Bool):(Int)->((Int)->Bool)->Bool:=λv_ K=>match v_ with
 | t10=>(cond (decide (t10<t9)) (br N g_3 g_4 i t10 aa4 (λcr nsr ZF ZC=>br N g_3 g_4 t10 i aa4 (λZT ZG Z4 ZJ=>dd N cr nsr ZF ZC ZT ZG Z4 ZJ (λaa1 ZN aaW ZL=>bD N aa1 ZN aaW ZL (λnr=>dx N (nr==0) 112 (af .i64 (t10+1)&&K (t10+1))))))) e0)
def bS (N:Nat) (t5:Int) (b0:List RY0) (g g_2:Int) (e0:Bool):(Int)->((Int)->Bool)->Bool:=λv_ K=>match v_ with
 | t6=>(cond (decide (t6<t5)) (ah N (bT N t6 t5 t6 t6 b0 g g_2 (af .i64 (t6+1)&&K (t6+1))) 0) e0)
def de (N:Nat) (g_0 g_1:Int) (b:List RY0) (k0:Bool):Bool:=
 (ah N (bS N g_0 b g_0 g_1 k0) 0)
def dm (N:Nat):Int->Int->List RY0->(Bool)->Bool:=az N (de N)
def qb (N:Nat) (a b:Int) (k0:Kx4):Bool:=
 (GK N a (λcr nsr=>GK N b (λZF ZC=>RP N false false cr nsr ZF ZC (λZT ZG Z4 ZJ=>k0 ZT ZG Z4 ZJ))))
def xh (N:Nat):Int->Int->(Kx4)->Bool:=az N (qb N)
def pG (N:Nat) (n:Int) (k0:Kx4):Bool:=
 (xh N n 1 (λcr nsr ZF ZC=>k0 cr nsr ZF ZC))
def lN (N:Nat):Int->(Kx4)->Bool:=pG N
def To (N:Nat) (neg:Bool) (a b c d:LI) (ZB ZH:Bool) (k0:Kx4):Bool:=
 (Ce N a d (λnsr=>Ce N c b (λZC=>v8 N a nsr (λZG=>v8 N c ZC (λZJ=>zE N ZG ZJ (λZN=>v8 N b ZC (λZL=>v8 N d nsr (λs6=>zE N ZL s6 (λs7=>Ml N neg ZN s7 ZB ZH (λcr ZF=>k0 cr ZN ZF s7))))))))))
def RS (N:Nat):Bool->LI->LI->LI->LI->Bool->Bool->(Kx4)->Bool:=az N (To N)
def MP (N:Nat) (Z6:Bool) (ZQ:LI) (Z5:Bool) (Z9:LI) (y_0:Bool) (Z3:LI) (y_2:Bool) (y_3:LI) (b ZB:Bool) (k0:Kx4):Bool:=
 (Cc N Z6 ZQ Z5 Z9 (λnsr=>Cc N y_0 Z3 y_2 y_3 (λZC=>RS N (Z6 != y_0) ZQ nsr ZC Z3 b ZB (λcr ZG ZF ZJ=>k0 cr ZG ZF ZJ))))
def SV (N:Nat):Bool->LI->Bool->LI->Bool->LI->Bool->LI->Bool->Bool->(Kx4)->Bool:=az N (MP N)
def jq (N:Nat) (Z6:Bool) (ZQ:LI) (Z5:Bool) (Z9:LI) (y_0:Bool) (Z3:LI) (y_2:Bool) (y_3:LI) (k0:Kx4):Bool:=
 (SV N Z6 ZQ Z5 Z9 y_0 Z3 y_2 y_3 false false (λcr nsr ZF ZC=>k0 cr nsr ZF ZC))
def fi (N:Nat):Bool->LI->Bool->LI->Bool->LI->Bool->LI->(Kx4)->Bool:=jq N
def MO (N:Nat) (Z6:Bool) (ZQ:LI) (Z5:Bool) (Z9:LI) (y_0:Bool) (Z3:LI) (y_2:Bool) (y_3:LI) (b ZB:Bool) (k0:Kx4):Bool:=
 (Cc N Z6 ZQ Z5 Z9 (λnsr=>Cc N y_0 Z3 y_2 y_3 (λZC=>RS N (Z6 != y_0) ZQ nsr Z3 ZC b ZB (λcr ZG ZF ZJ=>k0 cr ZG ZF ZJ))))
def SU (N:Nat):Bool->LI->Bool->LI->Bool->LI->Bool->LI->Bool->Bool->(Kx4)->Bool:=az N (MO N)
def jc (N:Nat) (Z6:Bool) (ZQ:LI) (Z5:Bool) (Z9:LI) (y_0:Bool) (Z3:LI) (y_2:Bool) (y_3:LI) (k0:Kx4):Bool:=
 (SU N Z6 ZQ Z5 Z9 y_0 Z3 y_2 y_3 false false (λcr nsr ZF ZC=>k0 cr nsr ZF ZC))
def eG (N:Nat):Bool->LI->Bool->LI->Bool->LI->Bool->LI->(Kx4)->Bool:=jc N
def Qv (N:Nat) (Z6:Bool) (ZQ:LI) (Z5:Bool) (Z9:LI) (y_0:Bool) (Z3:LI) (y_2:Bool) (y_3:LI) (b ZB:Bool) (k0:Kx4):Bool:=
 (Cc N Z6 ZQ Z5 Z9 (λnsr=>Cc N y_0 Z3 y_2 y_3 (λZC=>Ce N nsr ZC (λZG=>v8 N nsr ZG (λZJ=>v8 N ZC ZG (λZN=>zE N ZQ ZN (λZL=>Ee N Z6 ZL false (λcr=>zE N Z3 ZJ (λs6=>RW N y_0 s6 cr ZL (λZF s7=>Ce N s7 ZG (λs8=>v8 N s7 s8 (λs9=>rG N s9 (λs10=>v8 N ZC s8 (λs11=>zE N ZJ s11 (λs12=>Ml N ZF s10 s12 b ZB (λZT Z4=>k0 ZT s10 Z4 s12))))))))))))))))
def RX (N:Nat):Bool->LI->Bool->LI->Bool->LI->Bool->LI->Bool->Bool->(Kx4)->Bool:=az N (Qv N)
def jr (N:Nat) (Z6:Bool) (ZQ:LI) (Z5:Bool) (Z9:LI) (y_0:Bool) (Z3:LI) (y_2:Bool) (y_3:LI) (k0:Kx4):Bool:=
 (RX N Z6 ZQ Z5 Z9 y_0 Z3 y_2 y_3 false false (λcr nsr ZF ZC=>k0 cr nsr ZF ZC))
def fj (N:Nat):Bool->LI->Bool->LI->Bool->LI->Bool->LI->(Kx4)->Bool:=jr N
def jW (N:Nat) (g_0 g_1 i j:Int) (Z6:Bool) (ZQ:LI) (Z5:Bool) (Z9:LI) (b:List RY0) (k0:List RY0->Bool):Bool:=
 (af .i64 (i*g_1)&&(af .i64 ((i*g_1)+j)&&(inR ((i*g_1)+j) b.length&&(decide ((Int.toNat ((i*g_1)+j))<b.length)&&k0 (b.set (Int.toNat ((i*g_1)+j)) ((Z6,ZQ),(Z5,Z9)))))))
def fS (N:Nat):Int->Int->Int->Int->Bool->LI->Bool->LI->List RY0->(List RY0->Bool)->Bool:=jW N
def cK (N:Nat) (Z_ acn t10 g g_2:Int) (x:Bool) (x_4:LI) (x_5:Bool) (x_6:LI) (e0:List RY0->Bool):(Int × List RY0)->((Int × List RY0)->Bool)->Bool:=λv_ K=>match v_ with
 | (t11,b0)=>(cond (decide (t11<t10)) (br N g g_2 Z_ t11 b0 (λcr nsr ZF ZC=>br N g g_2 acn t11 b0 (λZT ZG Z4 ZJ=>eG N ZT ZG Z4 ZJ x x_4 x_5 x_6 (λaa1 ZN aaW ZL=>fj N cr nsr ZF ZC aa1 ZN aaW ZL (λabz s6 abA s7=>fS N g g_2 Z_ t11 abz s6 abA s7 b0 (λ(lr:List RY0)=>af .i64 (t11+1)&&K ((t11+1),lr))))))) (e0 b0))
def fC (N:Nat) (g_0 g_1 i k_:Int) (Z6:Bool) (ZQ:LI) (Z5:Bool) (Z9:LI) (b:List RY0) (k0:List RY0->Bool):Bool:=
 (ah N (cK N i k_ g_1 g_0 g_1 Z6 ZQ Z5 Z9 (λ(aa4:List RY0)=>k0 aa4)) (0,b))
def fO (N:Nat):Int->Int->Int->Int->Bool->LI->Bool->LI->List RY0->(List RY0->Bool)->Bool:=az N (fC N)
def aC (N:Nat) (s_1 k_ acd ac_ g_3 g_4:Int) (p:Bool) (p_1:LI) (p_2:Bool) (p_3:LI) (e0:Int->List RY0->Bool) (e1:List RY0->Bool):(Int × List RY0)->((Int × List RY0)->Bool)->Bool:=λv_ K=>match v_ with
 | (i,aa4)=>(cond (decide (i<g_3)) (br N g_3 g_4 i k_ aa4 (λZT ZG Z4 ZJ=>bD N ZT ZG Z4 ZJ (λZD=>cond (ZD==0) (af .i64 (i+1)&&K ((i+1),aa4)) (bD N p p_1 p_2 p_3 (λZI=>cond (ZI==0) (e0 1 aa4) (lN N 0 (λaa1 ZN aaW ZL=>fi N ZT ZG Z4 ZJ p p_1 p_2 p_3 (λabz s6 abA s7=>dd N aa1 ZN aaW ZL abz s6 abA s7 (λc8 s8 c9 s9=>fO N g_3 g_4 i k_ c8 s8 c9 s9 aa4 (λ(lr:List RY0)=>af .i64 (i+1)&&K ((i+1),lr))))))))))) (e1 aa4))
def aR (N:Nat) (t9 g g_2:Int) (e0:Int->List RY0->Bool) (e1:Int->List RY0->Bool):(Int × Int × List RY0)->((Int × Int × List RY0)->Bool)->Bool:=λv_ K=>match v_ with
 | (s,t10,b0)=>(cond (decide (t10<t9)) (br N g g_2 t10 t10 b0 (λcr nsr ZF ZC=>bD N cr nsr ZF ZC (λnr=>cond (decide (nr<0)) (e0 1 b0) (af .i64 (t10+1)&&ah N (aC N s t10 t9 t10 g g_2 cr nsr ZF ZC (λ(t2:Int) (aeJ:List RY0)=>e0 t2 aeJ) (λ(acm:List RY0)=>bD N cr nsr ZF ZC (λZX=>cond (ZX==0) (af .i64 (t10+1)&&K (2,(t10+1),acm)) (af .i64 (t10+1)&&K (s,(t10+1),acm))))) ((t10+1),b0))))) (e1 s b0))
def dB (N:Nat) (g_0 g_1:Int) (b:List RY0) (k0:Int->List RY0->Bool):Bool:=
 (ah N (aR N g_0 g_0 g_1 (λ(Z8:Int) (acM:List RY0)=>k0 Z8 acM) (λ(s_2:Int) (acN:List RY0)=>k0 s_2 acN)) (3,0,b))
def gH (N:Nat):Int->Int->List RY0->(Int->List RY0->Bool)->Bool:=az N (dB N)
def jo (N:Nat) (g_0 g_1:Int) (b:List RY0) (k0:Int->List RY0->Bool):Bool:=
 (dx N (g_0==g_1) 3 (dm N g_0 g_1 b (gH N g_0 g_1 b (λ(nr:Int) (lr:List RY0)=>k0 nr lr))))
def fh (N:Nat):Int->Int->List RY0->(Int->List RY0->Bool)->Bool:=jo N
def jO (N:Nat) (ZP ZE:Int) (ZK:LF) (k0:Ky3):Bool:=
 (jl N ZP ZE ZK (λ(lr:List RY0)=>fh N ZP ZE lr (λ(nr:Int) (ael:List RY0)=>k0 nr 0)))
def jU (N:Nat):Int->Int->LF->(Ky3)->Bool:=az N (jO N)
def rm (N:Nat) (y_0 Z3:Int) (y_2:LF) (k0:Kz1):Bool:=
 (jU N y_0 Z3 y_2 (λnr ZD=>cond ((ZD==0)==true) (k0 (nr==3)) (k0 false)))
def bM (N:Nat):Int->Int->LF->(Kz1)->Bool:=rm N
def qh (N:Nat) (Z0 ZM:Int) (ZV ZY:LF) (k0:Kz2):Bool:=
 (v7 N Z0 ZM ZV (λnr=>cond (nr != 0) (k0 nr) (cond ((Z0 != ZM)==false) (cond (((ZY.length:Nat):Int) != Z0) (k0 3) (u_ N ZY (λcr=>cond (!cr) (k0 4) (R6 N Z0 ZM ZV (λZF=>cond (!ZF) (k0 150) (bM N Z0 ZM ZV (λZT=>cond (!ZT) (k0 170) (k0 0)))))))) (k0 3))))
def gf (N:Nat):Int->Int->LF->LF->(Kz2)->Bool:=az N (qh N)
abbrev Vr:=(Kz1)->Bool
def sQ0 (N:Nat):Vr:=λk=>k true
def rR (N:Nat) (Z0 ZM:Int) (ZV:LF) (k0:Kz2):Bool:=
 (v7 N Z0 ZM ZV (λnr=>cond (nr != 0) (k0 nr) (cond (Z0 != ZM) (k0 3) (k0 0))))
def mF (N:Nat):Int->Int->LF->(Kz2)->Bool:=az N (rR N)
def pj (N:Nat) (Z0 ZM:Int) (ZV:LF) (k0:Kz2):Bool:=
 (mF N Z0 ZM ZV (λnr=>cond (nr != 0) (k0 nr) (R6 N Z0 ZM ZV (λcr=>cond (!cr) (k0 91) (k0 0)))))
def l4 (N:Nat):Int->Int->LF->(Kz2)->Bool:=az N (pj N)
def mc (N:Nat) (b k0:Bool):Bool:=
 k0
def mG (N:Nat):Bool->(Bool)->Bool:=mc N
def Cl (N:Nat) (ZP ZE:Int) (ZK:LF) (i j:Int) (k0:Kz4):Bool:=
 (af .i64 (i*ZE)&&(af .i64 ((i*ZE)+j)&&(inR ((i*ZE)+j) ZK.length&&k0 (ZK.getD (Int.toNat ((i*ZE)+j)) none))))
def gJ (N:Nat):Int->Int->LF->Int->Int->(Kz4)->Bool:=Cl N
def oy (N:Nat) (i j b ZB:Int) (ZH:LF) (k0:Kz4):Bool:=
 (gJ N b ZB ZH i j (λxr=>k0 xr))
def oW (N:Nat):Int->Int->Int->Int->LF->(Kz4)->Bool:=oy N
def nH (N:Nat) (x:Fl) (b:Bool) (k0:Kz1):Bool:=
 (u_ N [x] (λcr=>cond (!cr) (k0 true) (k0 b)))
def bV (N:Nat):Fl->Bool->(Kz1)->Bool:=nH N
def lh (N:Nat) (a b:Fl) (ZB:Bool) (k0:Ky4):Bool:=
 (bV N (dq a b) ZB (λcr=>k0 (dq a b) cr))
def ca (N:Nat):Fl->Fl->Bool->(Ky4)->Bool:=lh N
def mb (N:Nat) (t p:Fl) (b:Bool) (k0:Ky4):Bool:=
 (bV N (wN t p) b (λcr=>k0 (wN t p) cr))
def dk (N:Nat):Fl->Fl->Bool->(Ky4)->Bool:=mb N
def eZ (N:Nat) (t a b:Fl) (v_:Int) (ZB:Bool) (k0:Ky4):Bool:=
 (ca N a b ZB (λxr cr=>dk N t xr cr (λaae ZF=>k0 aae ZF)))
def jB (N:Nat):Fl->Fl->Fl->Int->Bool->(Ky4)->Bool:=az N (eZ N)
def aZ (N:Nat) (Z_ j_1 t17 t4 b4 aat:Int) (abV b5:LF) (e0:Ky4):(Fl × Int × Bool)->((Fl × Int × Bool)->Bool)->Bool:=λv_ K=>match v_ with
 | (t,t18,b7)=>(cond (decide (t18<t17)) (af .i64 (Z_*t4)&&(af .i64 ((Z_*t4)+t18)&&(inR ((Z_*t4)+t18) b5.length&&(decide ((Int.toNat ((Z_*t4)+t18))<b5.length)&&(af .i64 (j_1*t4)&&(af .i64 ((j_1*t4)+t18)&&(inR ((j_1*t4)+t18) b5.length&&(decide ((Int.toNat ((j_1*t4)+t18))<b5.length)&&jB N t (b5.getD (Int.toNat ((Z_*t4)+t18)) none) (b5.getD (Int.toNat ((j_1*t4)+t18)) none) t18 b7 (λaae cr=>af .i64 (t18+1)&&K (aae,(t18+1),cr)))))))))) (e0 t b7))
def bR (N:Nat) (i j b ZB ZH:Int) (ZW Z7:LF) (b_5:Bool) (k0:Ky4):Bool:=
 (oW N i j ZB ZH ZW (λxr=>ah N (aZ N i j j b ZB ZH ZW Z7 (λt_1 aeQ=>k0 t_1 aeQ)) (xr,0,b_5)))
def bh (N:Nat):Int->Int->Int->Int->Int->LF->LF->Bool->(Ky4)->Bool:=az N (bR N)
abbrev Hl:=Fl->(Kz4)->Bool
def J2 (N:Nat):Hl:=λx k=>k (ba x)
def EI (N:Nat) (x:Fl) (k0:Kz4):Bool:=
 (J2 N x (λxr=>k0 xr))
def pZ (N:Nat):Fl->(Kz4)->Bool:=EI N
def e9 (N:Nat) (d:Fl) (b:Bool) (k0:Fl->Int->Bool):Bool:=
 (cond b (k0 (some 0) 5) (cond (!(fgt d (some 0))) (k0 (some 0) 90) (pZ N d (λxr=>k0 xr 0))))
def jC (N:Nat):Fl->Bool->(Fl->Int->Bool)->Bool:=az N (e9 N)
def e_ (N:Nat) (t head:Fl) (b:Bool) (k0:Ky4):Bool:=
 (bV N (fdiv t head) b (λcr=>k0 (fdiv t head) cr))
def jD (N:Nat):Fl->Fl->Bool->(Ky4)->Bool:=az N (e_ N)
def bF (N:Nat) (j:Int) (head:Fl) (adc ade t45 acm acM:Int) (acN:LF) (n_2:Int) (heads:LF) (e0:Ky5):(Int × Bool × LF)->((Int × Bool × LF)->Bool)->Bool:=λv_ K=>match v_ with
 | (t46,aaV,b8)=>(cond (decide (t46<t45)) (cond (decide (t46<=j)) (af .i64 (t46+1)&&K ((t46+1),aaV,b8)) (af .i64 (t46*n_2)&&(af .i64 ((t46*n_2)+j)&&bh N t46 j n_2 acm acM acN b8 aaV (λaa2 ZF=>jD N aa2 head ZF (λaaz ZT=>inR ((t46*n_2)+j) b8.length&&(decide ((Int.toNat ((t46*n_2)+j))<b8.length)&&(af .i64 (t46+1)&&K ((t46+1),ZT,(b8.set (Int.toNat ((t46*n_2)+j)) aaz))))))))) (e0 aaV b8))
def aH (N:Nat) (acF acO acP:Int) (acQ:LF) (n_3:Int) (e0:Kx5) (e1:Bool->LF->LF->Bool):(Int × Bool × LF × LF)->((Int × Bool × LF × LF)->Bool)->Bool:=λv_ K=>match v_ with
 | (abl,acR,aaB,ac3)=>(cond (decide (abl<acF)) (bh N abl abl n_3 acO acP acQ ac3 acR (λadG Z4=>jC N adG Z4 (λach ZD=>cond (ZD != 0) (e0 abl ZD Z4 aaB) (decide ((List.length (aaB++[ach]))*8<=140737488355328)&&ah N (bF N abl ach acF abl n_3 acO acP acQ n_3 (aaB++[ach]) (λaeL aeR=>af .i64 (abl+1)&&K ((abl+1),aeL,(aaB++[ach]),aeR))) (0,Z4,ac3))))) (e1 acR aaB ac3))
def dA (N:Nat) (n b ZB:Int) (ZH:LF) (ZW:Bool) (k0:Kx5) (k1:Int->Int->Bool->LF->LF->Bool):Bool:=
 (af .i64 (n*n)&&(fY 8 (n*n) (n*n)&&ah N (aH N n b ZB ZH n (λt8 t9 aeM t7=>k0 t8 t9 aeM t7) (λaeN adw b5=>k1 0 0 aeN b5 adw)) (0,ZW,[],(List.replicate (Int.toNat (n*n)) (some 0)))))
def gG (N:Nat):Int->Int->Int->LF->Bool->(Kx5)->(Int->Int->Bool->LF->LF->Bool)->Bool:=az N (dA N)
def EH (N:Nat) (place e:Int) (k0:Kz2):Bool:=
 (cond (e==5) (k0 0) (k0 place))
def zk (N:Nat):Int->Int->(Kz2)->Bool:=EH N
def tG (N:Nat) (t52 t53 a ZY:Int) (a_4:LF) (t2 Z8:Int) (t51:LF) (e0:Bool):(Unit)->((Unit)->Bool)->Bool:=λv_ K=>match v_ with
 | _=>(cond (decide (t53<t52)) (inR t53 t51.length&&(decide (t53.toNat<t51.length)&&(af .i64 (t53*a)&&(af .i64 ((t53*a)+t53)&&false)))) e0)
def fU (N:Nat) (adl a_5 a_6:Int) (a_7:LF) (aaI aaJ:Int) (acb:LF) (e0:Kz5):(Int × LF)->((Int × LF)->Bool)->Bool:=λv_ K=>match v_ with
 | (aax,acC)=>(cond (decide (aax<adl)) (inR aax acb.length&&(decide (aax.toNat<acb.length)&&(af .i64 (aax*a_5)&&(af .i64 ((aax*a_5)+aax)&&(inR ((aax*a_5)+aax) acC.length&&(decide ((Int.toNat ((aax*a_5)+aax))<acC.length)&&(af .i64 (aax+1)&&K ((aax+1),(acC.set (Int.toNat ((aax*a_5)+aax)) (acb.getD aax.toNat none)))))))))) (e0 acC))
def jt (N:Nat) (Z0 ZM:Int) (ZV:LF) (ady e_1:Int) (low aaB:LF) (k0:Kx1):Bool:=
 (cond (e_1 != 0) (zk N ady e_1 (λn6=>k0 0 0 [] n6 e_1)) (ah N (fU N ((aaB.length:Nat):Int) Z0 ZM ZV 0 0 aaB (λaek=>k0 Z0 Z0 aek 0 0)) (0,low)))
def po (N:Nat) (Z0 ZM:Int) (ZV:LF) (place e:Int) (heads:LF) (k0:Kx1):Bool:=
 (cond (e != 0) (zk N place e (λn5=>k0 0 0 [] n5 e)) (ah N (tG N ((heads.length:Nat):Int) 0 Z0 ZM ZV 0 0 heads (k0 Z0 Z0 [] 0 0)) ()))
def rP (N:Nat) (Z0 ZM:Int) (ZV:LF) (k0:Kx1):Bool:=
 (l4 N Z0 ZM ZV (λnr=>cond (nr != 0) (k0 0 0 [] 0 nr) (mG N false (gG N Z0 Z0 ZM ZV false (λZD ZI cr xsr=>cond ((ZI==0)==true) (cond cr (po N Z0 ZM ZV ZD 5 xsr k0) (po N Z0 ZM ZV ZD ZI xsr k0)) (po N Z0 ZM ZV ZD ZI xsr k0)) (λZX ZR ZF Z2 aas=>cond ((ZR==0)==true) (cond ZF (jt N Z0 ZM ZV ZX 5 Z2 aas k0) (jt N Z0 ZM ZV ZX ZR Z2 aas k0)) (jt N Z0 ZM ZV ZX ZR Z2 aas k0))))))
def mE (N:Nat):Int->Int->LF->(Kx1)->Bool:=az N (rP N)
def BL (N:Nat) (i aaY aai m_5 m_6:Int) (m_7:LF) (e0:Kz1) (e1:Bool):(Int)->((Int)->Bool)->Bool:=λv_ K=>match v_ with
 | j=>(cond (decide (j<m_6)) (zh N m_5 m_6 m_7 i j (λxr=>IL N xr (some 0) (λcr=>cond (!cr) (e0 false) (af .i64 (j+1)&&K (j+1))))) e1)
def ic (N:Nat) (t16 m m_3:Int) (m_4:LF) (e0:Kz1) (e1:Bool):(Int)->((Int)->Bool)->Bool:=λv_ K=>match v_ with
 | t17=>(cond (decide (t17<t16)) (af .i64 (t17+1)&&ah N (BL N t17 t16 t17 m m_3 m_4 (λt2=>e0 t2) (af .i64 (t17+1)&&K (t17+1))) (t17+1)) e1)
def Nb (N:Nat) (ZP ZE:Int) (ZK:LF) (k0:Kz1):Bool:=
 (v7 N ZP ZE ZK (λnr=>cond ((nr != 0)==false) (cond (ZP != ZE) (k0 false) (ah N (ic N ZP ZP ZE ZK (λZ8=>k0 Z8) (k0 true)) 0)) (k0 false)))
def PM (N:Nat):Int->Int->LF->(Kz1)->Bool:=az N (Nb N)
def gl (N:Nat) (t16 l l_3:Int) (l_4:LF) (e0:Kz2) (e1:Bool):(Int)->((Int)->Bool)->Bool:=λv_ K=>match v_ with
 | t17=>(cond (decide (t17<t16)) (gJ N l l_3 l_4 t17 t17 (λxr=>cond (!(fgt xr (some 0))) (e0 93) (af .i64 (t17+1)&&K (t17+1)))) e1)
def mL (N:Nat) (l_0 l_1:Int) (l_2:LF) (k0:Kz2):Bool:=
 (v7 N l_0 l_1 l_2 (λnr=>cond (nr != 0) (k0 nr) (cond (l_0 != l_1) (k0 3) (ah N (gl N l_0 l_0 l_1 l_2 (λt2=>k0 t2) (PM N l_0 l_1 l_2 (λcr=>cond (!cr) (k0 93) (k0 0)))) 0))))
def jJ (N:Nat):Int->Int->LF->(Kz2)->Bool:=az N (mL N)
def rS (N:Nat) (rows:Int) (b:LF) (k0:Kz2):Bool:=
 (cond (((b.length:Nat):Int) != rows) (k0 3) (u_ N b (λcr=>cond (!cr) (k0 4) (k0 0))))
def oX (N:Nat):Int->LF->(Kz2)->Bool:=az N (rS N)
def cG (N:Nat) (ZW:LF) (i ada aaY t23 l_5 l_6:Int) (l_7 ZQ:LF) (e0:Ky4):(Fl × Int × Bool)->((Fl × Int × Bool)->Bool)->Bool:=λv_ K=>match v_ with
 | (t,t24,s_1)=>(cond (decide (t24<t23)) (gJ N l_5 l_6 l_7 i t24 (λxr=>inR t24 ZQ.length&&(decide (t24.toNat<ZQ.length)&&ca N xr (ZQ.getD t24.toNat none) s_1 (λaae cr=>dk N t aae cr (λaa2 ZF=>af .i64 (t24+1)&&K (aa2,(t24+1),ZF)))))) (e0 t s_1))
def dz (N:Nat) (ZH:LF) (t15 l l_3:Int) (l_4:LF) (e0:Ky5):(Int × Bool × LF)->((Int × Bool × LF)->Bool)->Bool:=λv_ K=>match v_ with
 | (t16,s,x)=>(cond (decide (t16<t15)) (inR t16 ZH.length&&ah N (cG N ZH t16 t15 t16 t16 l l_3 l_4 x (λt_1 s_2=>gJ N l l_3 l_4 t16 t16 (λaaz=>bV N (fdiv t_1 aaz) s_2 (λZT=>inR t16 x.length&&(decide (t16.toNat<x.length)&&(af .i64 (t16+1)&&K ((t16+1),ZT,(x.set t16.toNat (fdiv t_1 aaz))))))))) ((ZH.getD t16.toNat none),0,s)) (e0 s x))
def il (N:Nat) (l_0 l_1:Int) (l_2 b:LF) (ZB:Bool) (k0:Ky6):Bool:=
 (fY 8 ((b.length:Nat):Int) ((b.length:Nat):Int)&&ah N (dz N b ((b.length:Nat):Int) l_0 l_1 l_2 (λb0 Z5=>k0 Z5 b0)) (0,ZB,(List.replicate (Int.toNat ((b.length:Nat):Int)) (some 0))))
def cF (N:Nat):Int->Int->LF->LF->Bool->(Ky6)->Bool:=az N (il N)
def rQ (N:Nat) (l_0 l_1:Int) (l_2 b:LF) (k0:Ky9):Bool:=
 (jJ N l_0 l_1 l_2 (λnr=>cond (nr != 0) (k0 [] nr) (oX N l_0 b (λZD=>cond (ZD != 0) (k0 [] ZD) (cF N l_0 l_1 l_2 b false (λxsr cr=>cond cr (k0 [] 5) (k0 xsr 0)))))))
def zj (N:Nat):Int->Int->LF->LF->(Ky9)->Bool:=az N (rQ N)
def wt (N:Nat) (l_0 l_1:Int) (l_2 b:LF) (k0:Ky9):Bool:=
 (zj N l_0 l_1 l_2 b (λxsr nr=>k0 xsr nr))
def q7 (N:Nat):Int->Int->LF->LF->(Ky9)->Bool:=wt N
def WQ (N:Nat) (i j b ZB:Int) (ZH:LF) (k0:Kz4):Bool:=
 (zh N b ZB ZH j i (λxr=>k0 xr))
def Wc (N:Nat):Int->Int->Int->Int->LF->(Kz4)->Bool:=WQ N
def BJ (N:Nat) (aac i aai aaZ t21 acx acy:Int) (acz:LF) (aa7 aa8 ZK m_3:Int) (e0:Kz5):(Int × LF)->((Int × LF)->Bool)->Bool:=λv_ K=>match v_ with
 | (t22,abf)=>(cond (decide (t22<t21)) (Wc N i t22 acx acy acz (λxr=>decide ((List.length (abf++[xr]))*8<=140737488355328)&&(af .i64 (t22+1)&&K ((t22+1),(abf++[xr]))))) (e0 abf))
def EA (N:Nat) (aah t17 at_ acv:Int) (acw:LF) (t6 aaj m ZE:Int) (e0:Kz5):(Int × LF)->((Int × LF)->Bool)->Bool:=λv_ K=>match v_ with
 | (t18,b3)=>(cond (decide (t18<t17)) (ah N (BJ N aah t18 t17 t18 aah at_ acv acw t6 aaj m ZE (λac2=>af .i64 (t18+1)&&K ((t18+1),ac2))) (0,b3)) (e0 b3))
def M0 (N:Nat) (rows cols b ZB:Int) (ZH:LF) (k0:Kz5):Bool:=
 (af .i64 (rows*cols)&&(fY 8 0 (rows*cols)&&ah N (EA N cols rows b ZB ZH 0 0 rows cols (λadR=>k0 adR)) (0,[])))
def PH (N:Nat):Int->Int->Int->Int->LF->(Kz5)->Bool:=az N (M0 N)
def WU (N:Nat) (ZP ZE:Int) (ZK:LF) (k0:Kx7):Bool:=
 (v7 N ZP ZE ZK (λnr=>cond (nr != 0) (k0 0 0 [] nr) (PH N ZE ZP ZP ZE ZK (λxsr=>k0 ZE ZP xsr 0))))
def PW (N:Nat):Int->Int->LF->(Kx7)->Bool:=WU N
def pk (N:Nat) (Z0 ZM:Int) (ZV ZY:LF) (k0:Kx2):Bool:=
 (gf N Z0 ZM ZV ZY (λnr=>cond (nr != 0) (k0 0 0 [] [] nr) (mE N Z0 ZM ZV (λZD ZI xsr ZX ZR=>cond (ZR != 0) (k0 0 0 [] [] ZR) (q7 N ZD ZI xsr ZY (λZ2 n5=>cond (n5 != 0) (k0 0 0 [] [] n5) (PW N ZD ZI xsr (λn6 n7 aas n8=>k0 n6 n7 aas Z2 n8))))))))
def l5 (N:Nat):Int->Int->LF->LF->(Kx2)->Bool:=az N (pk N)
def XR (N:Nat) (b:Int) (k0:Kz4):Bool:=
 (ze N b (λxr=>k0 xr))
def xe (N:Nat):Int->(Kz4)->Bool:=XR N
def rT (N:Nat) (n:Int) (h:LF) (r z:Fl) (k0:Kz2):Bool:=
 (cond (((h.length:Nat):Int) != n) (k0 3) (u_ N h (λcr=>cond (!cr) (k0 4) (u_ N [r] (λZF=>cond (!ZF) (k0 4) (cond (fle r (some 0)) (k0 152) (u_ N [z] (λZT=>cond (!ZT) (k0 4) (k0 0)))))))))
def oY (N:Nat):Int->LF->Fl->Fl->(Kz2)->Bool:=az N (rT N)
abbrev z8:=Fl->(Kz4)->Bool
def xi (N:Nat):z8:=λx k=>k (B5 x)
def tP (N:Nat) (f:Fl) (sign:Int) (k0:Kz1):Bool:=
 (cond (sign==0) (xi N f (λxr=>k0 (fgt xr (some 9218868437227405311)))) (cond (decide (sign<0)) (k0 (fgt (VE f) (some 9218868437227405311))) (k0 (fgt f (some 9218868437227405311)))))
def nD (N:Nat):Fl->Int->(Kz1)->Bool:=az N (tP N)
def Tm (N:Nat) (x:Fl) (b:Bool) (k0:Kz1):Bool:=
 (cond ((!feq x x)==false) (nD N x 0 (λcr=>cond cr (k0 true) (k0 b))) (k0 true))
def mR (N:Nat):Fl->Bool->(Kz1)->Bool:=az N (Tm N)
def MN (N:Nat) (a b:Fl) (ZB:Bool) (k0:Ky4):Bool:=
 (mR N (dq a b) ZB (λcr=>k0 (dq a b) cr))
def te (N:Nat):Fl->Fl->Bool->(Ky4)->Bool:=az N (MN N)
def fA (N:Nat) (i j:Int) (b:Bool) (ZB:LF) (ZH:Fl) (k0:Ky4):Bool:=
 (inR i ZB.length&&(inR j ZB.length&&te N (ZB.getD i.toNat none) (ZB.getD j.toNat none) b (λxr cr=>mR N (fdiv xr ZH) cr (λZF=>k0 (fdiv xr ZH) ZF))))
def fN (N:Nat):Int->Int->Bool->LF->Fl->(Ky4)->Bool:=az N (fA N)
def jb (N:Nat) (i v_:Int) (b:Bool) (ZB:LF) (ZH ZW:Fl) (k0:Ky4):Bool:=
 (inR i ZB.length&&te N (ZB.getD i.toNat none) ZH b (λxr cr=>mR N (fdiv xr ZW) cr (λZF=>k0 (fdiv xr ZW) ZF)))
def eF (N:Nat):Int->Int->Bool->LF->Fl->Fl->(Ky4)->Bool:=jb N
def Kr (N:Nat) (b k0:Bool):Bool:=
 k0
def Cd (N:Nat):Bool->(Bool)->Bool:=az N (Kr N)
def im (N:Nat) (y_0 Z3:Int) (b:Bool) (ZB ZH:LF) (k0:Ky0) (k1:Kz2):Bool:=
 (Cd N b (cond b (k0 0 0 5) (bM N y_0 Z3 ZH (λcr=>cond (!cr) (k0 0 0 170) (k1 0)))))
def iN (N:Nat):Int->Int->Bool->LF->LF->(Ky0)->(Kz2)->Bool:=az N (im N)
def eX (N:Nat) (ZS i abm abn t34:Int) (acG:LF) (acH adq:Fl) (a_7 a_8:Int) (a_9 ack:LF) (aa7 aa8 y_2 y_3:Int) (v_1:LF) (e0:Ky5):(Int × Bool × LF)->((Int × Bool × LF)->Bool)->Bool:=λv_ K=>match v_ with
 | (t35,aa0,acS)=>(cond (decide (t35<t34)) (af .i64 (i*ZS)&&(af .i64 ((i*ZS)+t35)&&(inR ((i*ZS)+t35) a_9.length&&fN N i t35 aa0 acG acH (λxr cr=>mR N (kl (a_9.getD (Int.toNat ((i*ZS)+t35)) none) xr) cr (λZF=>af .i64 (i*ZS)&&(af .i64 ((i*ZS)+t35)&&(af .i64 (t35*ZS)&&(af .i64 ((t35*ZS)+i)&&(inR ((i*ZS)+t35) acS.length&&(decide ((Int.toNat ((i*ZS)+t35))<acS.length)&&(inR ((t35*ZS)+i) (List.length (acS.set (Int.toNat ((i*ZS)+t35)) (kl (a_9.getD (Int.toNat ((i*ZS)+t35)) none) xr)))&&(decide ((Int.toNat ((t35*ZS)+i))<(List.length (acS.set (Int.toNat ((i*ZS)+t35)) (kl (a_9.getD (Int.toNat ((i*ZS)+t35)) none) xr))))&&(af .i64 (t35+1)&&K ((t35+1),ZF,(List.set (acS.set (Int.toNat ((i*ZS)+t35)) (kl (a_9.getD (Int.toNat ((i*ZS)+t35)) none) xr)) (Int.toNat ((t35*ZS)+i)) (kl (a_9.getD (Int.toNat ((i*ZS)+t35)) none) xr)))))))))))))))) (e0 aa0 acS))
def eW (N:Nat) (n t29:Int) (toY:LF) (ace toV:Fl) (a a_4:Int) (a_5 a_6:LF) (t6 aaj y Z3:Int) (e0:Bool->LF->LF->Bool):(Int × Bool × LF × LF)->((Int × Bool × LF × LF)->Bool)->Bool:=λv_ K=>match v_ with
 | (t30,abj,v,b8)=>(cond (decide (t30<t29)) (af .i64 (t30+1)&&ah N (eX N n t30 t29 t30 (t30+1) toY ace toV a a_4 a_5 a_6 t6 aaj y Z3 v (λabb ac3=>inR t30 a_6.length&&eF N t30 0 abb toY toV ace (λaae ZT=>mR N (kl (a_6.getD t30.toNat none) aae) ZT (λZ4=>inR t30 v.length&&(decide (t30.toNat<v.length)&&(af .i64 (t30+1)&&K ((t30+1),Z4,(v.set t30.toNat (kl (a_6.getD t30.toNat none) aae)),ac3))))))) (0,abj,b8)) (e0 abj v b8))
def ke (N:Nat) (Z0 ZM:Int) (ZV ZY b:LF) (ZB ZH:Fl) (k0:Ky0) (k1:Int->Int->Int->LF->LF->Bool):Bool:=
 (af .i64 (((ZY.length:Nat):Int)*((ZY.length:Nat):Int))&&(fY 8 (((ZY.length:Nat):Int)*((ZY.length:Nat):Int)) (((ZY.length:Nat):Int)*((ZY.length:Nat):Int))&&(fY 8 ((ZY.length:Nat):Int) ((ZY.length:Nat):Int)&&ah N (eW N ((ZY.length:Nat):Int) ((ZY.length:Nat):Int) b ZB ZH Z0 ZM ZV ZY 0 0 ((ZY.length:Nat):Int) ((ZY.length:Nat):Int) (λabx v_2 b7=>iN N ((ZY.length:Nat):Int) ((ZY.length:Nat):Int) abx v_2 b7 (λnr ZD ZI=>k0 nr ZD ZI) (λZX=>k1 ((ZY.length:Nat):Int) ((ZY.length:Nat):Int) ZX b7 v_2))) (0,false,(List.replicate (Int.toNat ((ZY.length:Nat):Int)) (some 0)),(List.replicate (Int.toNat (((ZY.length:Nat):Int)*((ZY.length:Nat):Int))) (some 0))))))
def kR (N:Nat):Int->Int->LF->LF->LF->Fl->Fl->(Ky0)->(Int->Int->Int->LF->LF->Bool)->Bool:=az N (ke N)
def pm (N:Nat) (Z0 ZM:Int) (ZV ZY h:LF) (r z:Fl) (k0:Kx2):Bool:=
 (gf N Z0 ZM ZV ZY (λnr=>cond (nr != 0) (k0 0 0 [] [] nr) (oY N ((ZY.length:Nat):Int) h r z (λZD=>cond (ZD != 0) (k0 0 0 [] [] ZD) (kR N Z0 ZM ZV ZY h r z (λZI ZX ZR=>k0 ZI ZX [] [] ZR) (λn5 n6 n7 xsr Z2=>k0 n5 n6 xsr Z2 n7))))))
def px (N:Nat):Int->Int->LF->LF->LF->Fl->Fl->(Kx2)->Bool:=az N (pm N)
def sb (N:Nat) (rows cols n:Int) (k0:Kz2):Bool:=
 (cond ((decide (rows<0))==false) (cond ((decide (rows>12))==false) (cond ((decide (cols<0))==false) (cond (decide (cols>12)) (k0 1) (af .i64 (rows*cols)&&cond (n != (rows*cols)) (k0 3) (k0 0))) (k0 1)) (k0 1)) (k0 1))
def tv (N:Nat):Int->Int->Int->(Kz2)->Bool:=az N (sb N)
def zV (N:Nat) (x:Fl) (k0:Kz2):Bool:=
 (cond (!feq x x) (k0 9221120237041090561) (zd N x (λnr=>k0 nr)))
def og (N:Nat):Fl->(Kz2)->Bool:=zV N
def r_ (N:Nat) (x:Fl) (k0:Kx8):Bool:=
 (og N x (λnr=>af .i64 (Int.tmod (Int.fdiv nr (2 ^ 52)) 2048)&&k0 ((Int.fdiv nr (2 ^ 63))==1) (Int.tmod (Int.fdiv nr (2 ^ 52)) 2048) (Int.tmod nr 4503599627370496)))
def o_ (N:Nat):Fl->(Kx8)->Bool:=az N (r_ N)
def Nq (N:Nat) (exp frac most:Int) (k0:Kz2):Bool:=
 (cond ((exp==most)==true) (cond (frac != 0) (k0 1) (cond (exp==most) (k0 2) (cond ((exp==0)==true) (cond (frac==0) (k0 3) (cond (exp==0) (k0 4) (k0 5))) (cond (exp==0) (k0 4) (k0 5))))) (cond (exp==most) (k0 2) (cond ((exp==0)==true) (cond (frac==0) (k0 3) (cond (exp==0) (k0 4) (k0 5))) (cond (exp==0) (k0 4) (k0 5)))))
def S2 (N:Nat):Int->Int->Int->(Kz2)->Bool:=az N (Nq N)
def yw (N:Nat) (x:Fl) (k0:Kz2):Bool:=
 (o_ N x (λcr nr ZD=>S2 N nr ZD 2047 (λZI=>k0 ZI)))
def tk (N:Nat):Fl->(Kz2)->Bool:=yw N
def wE (N:Nat) (x:Fl) (k0:Kz1):Bool:=
 (tk N x (λnr=>k0 (decide (nr>2))))
def rb (N:Nat):Fl->(Kz1)->Bool:=wE N
def gr (N:Nat) (t5:LF) (t6:Int) (e0:Kz1) (e1:Bool):(Int)->((Int)->Bool)->Bool:=λv_ K=>match v_ with
 | t7=>(cond (decide (t7<t6)) (inR t7 t5.length&&rb N (t5.getD t7.toNat none) (λcr=>cond (!cr) (e0 false) (af .i64 (t7+1)&&K (t7+1)))) e1)
def MW (N:Nat) (l:LF) (k0:Kz1):Bool:=
 (ah N (gr N l ((l.length:Nat):Int) (λt2=>k0 t2) (k0 true)) 0)
def JY (N:Nat):LF->(Kz1)->Bool:=az N (MW N)
def vt (N:Nat) (ZP ZE:Int) (ZK:LF) (k0:Kz2):Bool:=
 (tv N ZP ZE ((ZK.length:Nat):Int) (λnr=>cond (nr != 0) (k0 nr) (JY N ZK (λcr=>cond (!cr) (k0 4) (k0 0)))))
def lP (N:Nat):Int->Int->LF->(Kz2)->Bool:=az N (vt N)
def lc (N:Nat) (e0:Ky3):(Int × Int)->((Int × Int)->Bool)->Bool:=λv_ K=>match v_ with
 | (ZE,e_1)=>(cond ((Int.tmod ZE 2)==0) (af .i64 (e_1+1)&&K ((IntKind.wrap .u64 (Int.tdiv ZE 2)),(e_1+1))) (e0 ZE e_1))
def tR (N:Nat) (m e:Int) (k0:Ky3):Bool:=
 (cond (m==0) (k0 0 0) (ah N (lc N (λZK e_2=>k0 ZK e_2)) (m,e)))
def p6 (N:Nat):Int->Int->(Ky3)->Bool:=az N (tR N)
def lU (N:Nat) (x:Fl) (neg:Bool) (e f:Int) (k0:Kx3):Bool:=
 (af .i64 (e - 1074)&&p6 N f (e - 1074) (λZI ZX=>k0 neg ZI ZX 0))
def rZ (N:Nat) (x:Fl) (k0:Kx3):Bool:=
 (o_ N x (λcr nr ZD=>cond (nr==2047) (k0 false 0 0 4) (cond (decide (nr>0)) (af .i64 (nr - 1)&&lU N x cr (nr - 1) (IntKind.wrap .u64 (ZD+4503599627370496)) k0) (lU N x cr nr ZD k0))))
def tm (N:Nat):Fl->(Kx3)->Bool:=az N (rZ N)
def wn (N ZE:Nat) (m_3:LI) (e0:Kz3):(Nat)->((Nat)->Bool)->Bool:=λv_ K=>match v_ with
 | ZK=>(cond ((decide (((ZK:Nat):Int)>0))==true) (af .i64 (((ZK:Nat):Int) - 1)&&(inR (((ZK:Nat):Int) - 1) ZK&&(decide ((ZE+(Int.toNat (((ZK:Nat):Int) - 1)))<m_3.length)&&cond ((m_3.getD (ZE+(Int.toNat (((ZK:Nat):Int) - 1))) 0)==0) (af .i64 (((ZK:Nat):Int) - 1)&&(decide (0<=(((ZK:Nat):Int) - 1)/\(((ZK:Nat):Int) - 1)<=((ZK:Nat):Int))&&K ((Int.toNat (((ZK:Nat):Int) - 1)) - 0))) (e0 ZK)))) (e0 ZK))
def Tq (N:Nat) (b:LI) (k0:Kz3):Bool:=
 (ah N (wn N 0 b (λm_4=>k0 m_4)) b.length)
def pY (N:Nat):LI->(Kz3)->Bool:=az N (Tq N)
def Nj (N:Nat) (n:Int) (k0:Kz6):Bool:=
 (pY N [(IntKind.wrap .u32 n),(IntKind.wrap .u32 (Int.fdiv n (2 ^ 32)))] (λmr=>decide ((0+mr)<=(List.length [(IntKind.wrap .u32 n),(IntKind.wrap .u32 (Int.fdiv n (2 ^ 32)))]))&&k0 (List.take mr (List.drop 0 [(IntKind.wrap .u32 n),(IntKind.wrap .u32 (Int.fdiv n (2 ^ 32)))]))))
def Dd (N:Nat):Int->(Kz6)->Bool:=az N (Nj N)
def gq (N:Nat) (e0:Kz6):(LI)->((LI)->Bool)->Bool:=λv_ K=>match v_ with
 | ZE=>(cond ((decide (((ZE.length:Nat):Int)>0))==true) (af .i64 (((ZE.length:Nat):Int) - 1)&&(inR (((ZE.length:Nat):Int) - 1) ZE.length&&cond ((ZE.getD (Int.toNat (((ZE.length:Nat):Int) - 1)) 0)==0) (af .i64 (((ZE.length:Nat):Int) - 1)&&(decide (0<=(((ZE.length:Nat):Int) - 1)/\(((ZE.length:Nat):Int) - 1)<=((ZE.length:Nat):Int))&&K (List.drop 0 (List.take (Int.toNat (((ZE.length:Nat):Int) - 1)) ZE)))) (e0 ZE))) (e0 ZE))
def xA (N:Nat) (m:LI) (k0:Kz6):Bool:=
 (ah N (gq N (λZK=>k0 ZK)) m)
def lO (N:Nat):LI->(Kz6)->Bool:=az N (xA N)
def So (N:Nat) (neg:Bool) (m:LI) (b:Bool) (k0:Ky2):Bool:=
 (lO N m (λnsr=>cond (neg==true) (k0 (decide (((nsr.length:Nat):Int)>0)) nsr) (k0 false nsr)))
def zf (N:Nat):Bool->LI->Bool->(Ky2)->Bool:=So N
def TJ (N:Nat) (n:Int) (b:Bool) (k0:Ky2):Bool:=
 (Dd N n (λnsr=>zf N false nsr b (λcr ZC=>k0 cr ZC)))
def R7 (N:Nat):Int->Bool->(Ky2)->Bool:=az N (TJ N)
def sc (N:Nat) (neg b:Bool) (ZB ZH:LI) (k0:Kx9):Bool:=
 (pY N ZH (λmr=>cond (neg==true) (k0 (decide (((mr:Nat):Int)>0)) 0 mr) (k0 false 0 mr)))
def tx (N:Nat):Bool->Bool->LI->LI->(Kx9)->Bool:=sc N
def Nf (N:Nat) (b:Bool) (ZB:LI) (k0:Ky2):Bool:=
 (decide ((List.length ([]++ZB))*4<=140737488355328)&&tx N (!b) b ZB ([]++ZB) (λcr mr aan=>decide ((mr+aan)<=(List.length ([]++ZB)))&&k0 cr (List.take aan (List.drop mr ([]++ZB)))))
def PP (N:Nat):Bool->LI->(Ky2)->Bool:=az N (Nf N)
def zW (N:Nat) (x:Fl) (k0:Int->Bool->LI->Bool):Bool:=
 (tm N x (λcr nr ZD ZI=>R7 N nr false (λZF nsr=>cond cr (PP N ZF nsr (λZT ZC=>k0 ZD ZT ZC)) (k0 ZD ZF nsr))))
def Bw (N:Nat):Fl->(Int->Bool->LI->Bool)->Bool:=az N (zW N)
def fo (N:Nat) (ZE:LI) (w s:Int) (e0:Kz6):(Int × LI)->((Int × LI)->Bool)->Bool:=λv_ K=>match v_ with
 | (i,out)=>(cond (decide (i<((ZE.length:Nat):Int))) (inR i ZE.length&&(decide (0<=s)&&(af .i64 (w+i)&&(inR (w+i) out.length&&(decide ((Int.toNat (w+i))<out.length)&&(inR (w+i) out.length&&(decide ((Int.toNat (w+i))<out.length)&&(af .i64 (w+i)&&(af .i64 ((w+i)+1)&&(inR ((w+i)+1) (List.length (out.set (Int.toNat (w+i)) (aD .or .u32 (out.getD (Int.toNat (w+i)) 0) (IntKind.wrap .u32 (IntKind.wrap .u64 ((IntKind.wrap .u64 (ZE.getD i.toNat 0))*2 ^ (min s.toNat 64)))))))&&(decide ((Int.toNat ((w+i)+1))<(List.length (out.set (Int.toNat (w+i)) (aD .or .u32 (out.getD (Int.toNat (w+i)) 0) (IntKind.wrap .u32 (IntKind.wrap .u64 ((IntKind.wrap .u64 (ZE.getD i.toNat 0))*2 ^ (min s.toNat 64))))))))&&(af .i64 (i+1)&&K ((i+1),(List.set (out.set (Int.toNat (w+i)) (aD .or .u32 (out.getD (Int.toNat (w+i)) 0) (IntKind.wrap .u32 (IntKind.wrap .u64 ((IntKind.wrap .u64 (ZE.getD i.toNat 0))*2 ^ (min s.toNat 64)))))) (Int.toNat ((w+i)+1)) (IntKind.wrap .u32 (Int.fdiv (IntKind.wrap .u64 ((IntKind.wrap .u64 (ZE.getD i.toNat 0))*2 ^ (min s.toNat 64))) (2 ^ 32))))))))))))))))) (e0 out))
def vn (N:Nat) (m:LI) (n:Int) (k0:Kz6):Bool:=
 (cond (((m.length:Nat):Int)==0) (k0 []) (af .i64 (IntKind.wrap .u64 (Int.tdiv n 32))&&(af .i64 ((IntKind.wrap .u64 (Int.tdiv n 32))+((m.length:Nat):Int))&&(af .i64 (((IntKind.wrap .u64 (Int.tdiv n 32))+((m.length:Nat):Int))+1)&&(fY 4 (((IntKind.wrap .u64 (Int.tdiv n 32))+((m.length:Nat):Int))+1) (((IntKind.wrap .u64 (Int.tdiv n 32))+((m.length:Nat):Int))+1)&&ah N (fo N m (IntKind.wrap .u64 (Int.tdiv n 32)) (Int.tmod n 32) (λZO=>pY N ZO (λmr=>decide ((0+mr)<=ZO.length)&&k0 (List.take mr (List.drop 0 ZO))))) (0,(List.replicate (Int.toNat (((IntKind.wrap .u64 (Int.tdiv n 32))+((m.length:Nat):Int))+1)) (0:Int))))))))
def wc (N:Nat):LI->Int->(Kz6)->Bool:=az N (vn N)
def MX (N:Nat) (n:Int) (b ZB:Bool) (ZH:LI) (k0:Ky2):Bool:=
 (wc N ZH n (λnsr=>zf N ZB nsr b (λcr ZC=>k0 cr ZC)))
def JZ (N:Nat):Int->Bool->Bool->LI->(Ky2)->Bool:=az N (MX N)
def WV (N:Nat) (x e:Int) (b:Bool) (ZB:LI) (k0:Bool) (k1:Ky2):Bool:=
 (cond (decide (e>=x)) k0 (af .i64 (x - e)&&JZ N (IntKind.wrap .u64 (x - e)) false b ZB (λcr nsr=>k1 cr nsr)))
def Wh (N:Nat):Int->Int->Bool->LI->(Bool)->(Ky2)->Bool:=WV N
def I7 (N:Nat) (k0:Kz6):Bool:=
 (k0 [1])
def rH (N:Nat):(Kz6)->Bool:=I7 N
def M9 (N:Nat) (neg:Bool) (m:LI) (b ZB:Bool) (k0:Bool->LI->LI->Bool):Bool:=
 (lO N m (λnsr=>cond (neg==true) (k0 (decide (((nsr.length:Nat):Int)>0)) nsr []) (k0 false nsr [])))
def GI (N:Nat):Bool->LI->Bool->Bool->(Bool->LI->LI->Bool)->Bool:=M9 N
def Ns (N:Nat) (neg:Bool) (m:LI) (b:Bool) (ZB:LI) (ZH:Bool) (ZW:LI) (k0:Ky2):Bool:=
 (lO N m (λnsr=>cond (neg==true) (k0 (decide (((nsr.length:Nat):Int)>0)) nsr) (k0 false nsr)))
def GM (N:Nat):Bool->LI->Bool->LI->Bool->LI->(Ky2)->Bool:=Ns N
def GQ9 (N:Nat) (x:Int) (k0:Kz2):Bool:=
 (cond (x==0) (k0 32) (inR (Int.fdiv (IntKind.wrap .u32 ((aD .and .u32 x (IntKind.wrap .u32 (0 - x)))*125613361)) (2 ^ 27)) 32&&(af .i64 (zo.getD (Int.toNat (Int.fdiv (IntKind.wrap .u32 ((aD .and .u32 x (IntKind.wrap .u32 (0 - x)))*125613361)) (2 ^ 27))) 0)&&k0 (zo.getD (Int.toNat (Int.fdiv (IntKind.wrap .u32 ((aD .and .u32 x (IntKind.wrap .u32 (0 - x)))*125613361)) (2 ^ 27))) 0))))
def sQ9 (N:Nat):Int->(Kz2)->Bool:=az N (GQ9 N)
def Kc (N:Nat) (z:Bool) (z_1:LI) (e0:Kz2) (e1:Bool):(Int)->((Int)->Bool)->Bool:=λv_ K=>match v_ with
 | i=>(cond (decide (i<((z_1.length:Nat):Int))) (inR i z_1.length&&cond ((z_1.getD i.toNat 0) != 0) (af .i64 (32*i)&&(inR i z_1.length&&sQ9 N (z_1.getD i.toNat 0) (λnr=>af .i64 ((32*i)+nr)&&e0 (IntKind.wrap .u64 ((32*i)+nr))))) (af .i64 (i+1)&&K (i+1))) e1)
def GQ2 (N:Nat) (b:Bool) (ZB:LI) (k0:Kz2):Bool:=
 (ah N (Kc N b ZB (λt2=>k0 t2) (k0 0)) 0)
def sQ2 (N:Nat):Bool->LI->(Kz2)->Bool:=az N (GQ2 N)
def kZ (N:Nat) (ZE:LI) (w s:Int) (e0:Kz6):(Int × LI)->((Int × LI)->Bool)->Bool:=λv_ K=>match v_ with
 | (i,out)=>(cond (decide (i<((out.length:Nat):Int))) (af .i64 (w+i)&&(inR (w+i) ZE.length&&(af .i64 (w+i)&&(af .i64 ((w+i)+1)&&cond (decide (((w+i)+1)<((ZE.length:Nat):Int))) (af .i64 (w+i)&&(af .i64 ((w+i)+1)&&(inR ((w+i)+1) ZE.length&&(decide (0<=s)&&(inR i out.length&&(decide (i.toNat<out.length)&&(af .i64 (i+1)&&K ((i+1),(out.set i.toNat (IntKind.wrap .u32 (Int.fdiv (aD .or .u64 (IntKind.wrap .u64 (ZE.getD (Int.toNat (w+i)) 0)) (IntKind.wrap .u64 ((IntKind.wrap .u64 (ZE.getD (Int.toNat ((w+i)+1)) 0))*2 ^ 32))) (2 ^ (min s.toNat 64))))))))))))) (decide (0<=s)&&(inR i out.length&&(decide (i.toNat<out.length)&&(af .i64 (i+1)&&K ((i+1),(out.set i.toNat (IntKind.wrap .u32 (Int.fdiv (IntKind.wrap .u64 (ZE.getD (Int.toNat (w+i)) 0)) (2 ^ (min s.toNat 64)))))))))))))) (e0 out))
def TR (N:Nat) (m:LI) (n:Int) (k0:Kz6):Bool:=
 (af .i64 (IntKind.wrap .u64 (Int.tdiv n 32))&&cond (decide ((IntKind.wrap .u64 (Int.tdiv n 32))>=((m.length:Nat):Int))) (k0 []) (af .i64 (((m.length:Nat):Int) - (IntKind.wrap .u64 (Int.tdiv n 32)))&&(fY 4 (((m.length:Nat):Int) - (IntKind.wrap .u64 (Int.tdiv n 32))) (((m.length:Nat):Int) - (IntKind.wrap .u64 (Int.tdiv n 32)))&&ah N (kZ N m (IntKind.wrap .u64 (Int.tdiv n 32)) (Int.tmod n 32) (λZO=>pY N ZO (λmr=>decide ((0+mr)<=ZO.length)&&k0 (List.take mr (List.drop 0 ZO))))) (0,(List.replicate (Int.toNat (((m.length:Nat):Int) - (IntKind.wrap .u64 (Int.tdiv n 32)))) (0:Int))))))
def Cf (N:Nat):LI->Int->(Kz6)->Bool:=az N (TR N)
def M5 (N:Nat) (x:Int) (k0:Kz2):Bool:=
 (cond (decide (x>=65536)) (cond (decide ((Int.fdiv x (2 ^ 16))>=256)) (inR (IntKind.wrap .u8 (Int.fdiv (Int.fdiv x (2 ^ 16)) (2 ^ 8))) 256&&(af .i64 (aA.getD (Int.toNat (IntKind.wrap .u8 (Int.fdiv (Int.fdiv x (2 ^ 16)) (2 ^ 8)))) 0)&&(af .i64 (24+(aA.getD (Int.toNat (IntKind.wrap .u8 (Int.fdiv (Int.fdiv x (2 ^ 16)) (2 ^ 8)))) 0))&&k0 (24+(aA.getD (Int.toNat (IntKind.wrap .u8 (Int.fdiv (Int.fdiv x (2 ^ 16)) (2 ^ 8)))) 0))))) (inR (IntKind.wrap .u8 (Int.fdiv x (2 ^ 16))) 256&&(af .i64 (aA.getD (Int.toNat (IntKind.wrap .u8 (Int.fdiv x (2 ^ 16)))) 0)&&(af .i64 (16+(aA.getD (Int.toNat (IntKind.wrap .u8 (Int.fdiv x (2 ^ 16)))) 0))&&k0 (16+(aA.getD (Int.toNat (IntKind.wrap .u8 (Int.fdiv x (2 ^ 16)))) 0)))))) (cond (decide (x>=256)) (inR (IntKind.wrap .u8 (Int.fdiv x (2 ^ 8))) 256&&(af .i64 (aA.getD (Int.toNat (IntKind.wrap .u8 (Int.fdiv x (2 ^ 8)))) 0)&&(af .i64 (8+(aA.getD (Int.toNat (IntKind.wrap .u8 (Int.fdiv x (2 ^ 8)))) 0))&&k0 (8+(aA.getD (Int.toNat (IntKind.wrap .u8 (Int.fdiv x (2 ^ 8)))) 0))))) (inR (IntKind.wrap .u8 x) 256&&(af .i64 (aA.getD (Int.toNat (IntKind.wrap .u8 x)) 0)&&(af .i64 (0+(aA.getD (Int.toNat (IntKind.wrap .u8 x)) 0))&&k0 (0+(aA.getD (Int.toNat (IntKind.wrap .u8 x)) 0)))))))
def J0 (N:Nat):Int->(Kz2)->Bool:=az N (M5 N)
def TP (N:Nat) (b:Bool) (ZB:LI) (k0:Kz2):Bool:=
 (cond (((ZB.length:Nat):Int)==0) (k0 0) (af .i64 (((ZB.length:Nat):Int) - 1)&&(af .i64 (32*(((ZB.length:Nat):Int) - 1))&&(af .i64 (((ZB.length:Nat):Int) - 1)&&(inR (((ZB.length:Nat):Int) - 1) ZB.length&&J0 N (ZB.getD (Int.toNat (((ZB.length:Nat):Int) - 1)) 0) (λnr=>af .i64 ((32*(((ZB.length:Nat):Int) - 1))+nr)&&k0 ((32*(((ZB.length:Nat):Int) - 1))+nr)))))))
def Mn (N:Nat):Bool->LI->(Kz2)->Bool:=az N (TP N)
def wj (N:Nat) (ZM ZB:LI) (e0:Kz2) (e1:Bool):(Int)->((Int)->Bool)->Bool:=λv_ K=>match v_ with
 | i=>(cond (decide (i>=0)) (inR i ZM.length&&(inR i ZB.length&&cond (decide ((ZM.getD i.toNat 0)<(ZB.getD i.toNat 0))) (e0 (-1)) (inR i ZM.length&&(inR i ZB.length&&cond (decide ((ZM.getD i.toNat 0)>(ZB.getD i.toNat 0))) (e0 1) (af .i64 (i - 1)&&K (i - 1)))))) e1)
def TN (N:Nat) (a b:LI) (k0:Kz2):Bool:=
 (cond (((a.length:Nat):Int) != ((b.length:Nat):Int)) (cond (decide (((a.length:Nat):Int)<((b.length:Nat):Int))) (k0 (-1)) (k0 1)) (af .i64 (((a.length:Nat):Int) - 1)&&ah N (wj N a b (λt4=>k0 t4) (k0 0)) (((a.length:Nat):Int) - 1)))
def Eg (N:Nat):LI->LI->(Kz2)->Bool:=az N (TN N)
def l8 (N:Nat) (x:LI) (e0:Kz2):(Int × Int)->((Int × Int)->Bool)->Bool:=λv_ K=>match v_ with
 | (u,i)=>(cond (decide (i>=0)) (inR i x.length&&(af .i64 (i - 1)&&K ((aD .or .u64 (IntKind.wrap .u64 (u*2 ^ 32)) (IntKind.wrap .u64 (x.getD i.toNat 0))),(i - 1)))) (e0 u))
def vm (N:Nat) (m:LI) (at_:Int) (k0:Kz2):Bool:=
 (Cf N m (IntKind.wrap .u64 at_) (λnsr=>af .i64 (((nsr.length:Nat):Int) - 1)&&ah N (l8 N nsr (λu_1=>k0 u_1)) (0,(((nsr.length:Nat):Int) - 1))))
def ra (N:Nat):LI->Int->(Kz2)->Bool:=az N (vm N)
def p9 (N:Nat) (e0:Kx6):(Int × Int × Int × Int × Int × Int)->((Int × Int × Int × Int × Int × Int)->Bool)->Bool:=λv_ K=>match v_ with
 | (a,b,c,d,p,q)=>(af .i64 (q+c)&&cond (((q+c) != 0)==true) (af .i64 (q+d)&&cond ((q+d) != 0) (af .i64 (p+a)&&(af .i64 (q+c)&&((!decide ((q+c)=0))&&(af .i64 (Int.tdiv (p+a) (q+c))&&(af .i64 (p+b)&&(af .i64 (q+d)&&((!decide ((q+d)=0))&&(af .i64 (Int.tdiv (p+b) (q+d))&&cond ((Int.tdiv (p+a) (q+c)) != (Int.tdiv (p+b) (q+d))) (e0 a b c d) (af .i64 ((Int.tdiv (p+a) (q+c))*c)&&(af .i64 (a - ((Int.tdiv (p+a) (q+c))*c))&&(af .i64 ((Int.tdiv (p+a) (q+c))*d)&&(af .i64 (b - ((Int.tdiv (p+a) (q+c))*d))&&cond ((decide ((a - ((Int.tdiv (p+a) (q+c))*c))>1073741824))==false) (cond ((decide ((a - ((Int.tdiv (p+a) (q+c))*c))<(-1073741824)))==false) (cond ((decide ((b - ((Int.tdiv (p+a) (q+c))*d))>1073741824))==false) (cond (decide ((b - ((Int.tdiv (p+a) (q+c))*d))<(-1073741824))) (e0 a b c d) (af .i64 ((Int.tdiv (p+a) (q+c))*q)&&(af .i64 (p - ((Int.tdiv (p+a) (q+c))*q))&&K (c,d,(a - ((Int.tdiv (p+a) (q+c))*c)),(b - ((Int.tdiv (p+a) (q+c))*d)),q,(p - ((Int.tdiv (p+a) (q+c))*q)))))) (e0 a b c d)) (e0 a b c d)) (e0 a b c d))))))))))))) (e0 a b c d)) (e0 a b c d))
def rY (N:Nat) (x y:Int) (k0:Kx6):Bool:=
 (af .i64 x&&(af .i64 y&&ah N (p9 N (λZM ZB c_1 d_1=>k0 ZM ZB c_1 d_1)) (1,0,0,1,x,y)))
def ti (N:Nat):Int->Int->(Kx6)->Bool:=az N (rY N)
def k6 (N:Nat) (ZE:LI) (d_1:Int) (e0:Ky7):(Int × Int × LI)->((Int × Int × LI)->Bool)->Bool:=λv_ K=>match v_ with
 | (r,i,out)=>(cond (decide (i>=0)) (inR i ZE.length&&((!decide ((IntKind.wrap .u64 d_1)=0))&&(inR i out.length&&(decide (i.toNat<out.length)&&((!decide ((IntKind.wrap .u64 d_1)=0))&&(af .i64 (i - 1)&&K ((Int.tmod (aD .or .u64 (IntKind.wrap .u64 (r*2 ^ 32)) (IntKind.wrap .u64 (ZE.getD i.toNat 0))) (IntKind.wrap .u64 d_1)),(i - 1),(out.set i.toNat (IntKind.wrap .u32 (IntKind.wrap .u64 (Int.tdiv (aD .or .u64 (IntKind.wrap .u64 (r*2 ^ 32)) (IntKind.wrap .u64 (ZE.getD i.toNat 0))) (IntKind.wrap .u64 d_1)))))))))))) (e0 r out))
def rX (N:Nat) (m:LI) (d:Int) (k0:LI->Int->Bool):Bool:=
 (fY 4 ((m.length:Nat):Int) ((m.length:Nat):Int)&&(af .i64 (((m.length:Nat):Int) - 1)&&ah N (k6 N m d (λr_1 ZO=>pY N ZO (λmr=>decide ((0+mr)<=ZO.length)&&k0 (List.take mr (List.drop 0 ZO)) (IntKind.wrap .u32 r_1)))) (0,(((m.length:Nat):Int) - 1),(List.replicate (Int.toNat ((m.length:Nat):Int)) (0:Int)))))
def oZ (N:Nat):LI->Int->(LI->Int->Bool)->Bool:=az N (rX N)
def WR (N:Nat) (x:Int) (k0:Kz2):Bool:=
 (J0 N x (λnr=>af .i64 (32 - nr)&&k0 (32 - nr)))
def We (N:Nat):Int->(Kz2)->Bool:=WR N
def om (N:Nat) (ZE:LI) (w s:Int) (e0:Kz6):(Int × LI)->((Int × LI)->Bool)->Bool:=λv_ K=>match v_ with
 | (i,out)=>(cond (decide (i<((ZE.length:Nat):Int))) (inR i ZE.length&&(decide (0<=s)&&(af .i64 (w+i)&&(inR (w+i) out.length&&(decide ((Int.toNat (w+i))<out.length)&&(inR (w+i) out.length&&(decide ((Int.toNat (w+i))<out.length)&&(af .i64 (w+i)&&(af .i64 ((w+i)+1)&&(inR ((w+i)+1) (List.length (out.set (Int.toNat (w+i)) (aD .or .u32 (out.getD (Int.toNat (w+i)) 0) (IntKind.wrap .u32 (IntKind.wrap .u64 ((IntKind.wrap .u64 (ZE.getD i.toNat 0))*2 ^ (min s.toNat 64)))))))&&(decide ((Int.toNat ((w+i)+1))<(List.length (out.set (Int.toNat (w+i)) (aD .or .u32 (out.getD (Int.toNat (w+i)) 0) (IntKind.wrap .u32 (IntKind.wrap .u64 ((IntKind.wrap .u64 (ZE.getD i.toNat 0))*2 ^ (min s.toNat 64))))))))&&(af .i64 (i+1)&&K ((i+1),(List.set (out.set (Int.toNat (w+i)) (aD .or .u32 (out.getD (Int.toNat (w+i)) 0) (IntKind.wrap .u32 (IntKind.wrap .u64 ((IntKind.wrap .u64 (ZE.getD i.toNat 0))*2 ^ (min s.toNat 64)))))) (Int.toNat ((w+i)+1)) (IntKind.wrap .u32 (Int.fdiv (IntKind.wrap .u64 ((IntKind.wrap .u64 (ZE.getD i.toNat 0))*2 ^ (min s.toNat 64))) (2 ^ 32))))))))))))))))) (e0 out))
def T3 (N:Nat) (m:LI) (n:Int) (k0:Bool) (k1:Ky8):Bool:=
 (cond (((m.length:Nat):Int)==0) k0 (af .i64 (IntKind.wrap .u64 (Int.tdiv n 32))&&(af .i64 ((IntKind.wrap .u64 (Int.tdiv n 32))+((m.length:Nat):Int))&&(af .i64 (((IntKind.wrap .u64 (Int.tdiv n 32))+((m.length:Nat):Int))+1)&&(fY 4 (((IntKind.wrap .u64 (Int.tdiv n 32))+((m.length:Nat):Int))+1) (((IntKind.wrap .u64 (Int.tdiv n 32))+((m.length:Nat):Int))+1)&&ah N (om N m (IntKind.wrap .u64 (Int.tdiv n 32)) (Int.tmod n 32) (λZO=>pY N ZO (λmr=>k1 mr ZO))) (0,(List.replicate (Int.toNat (((IntKind.wrap .u64 (Int.tdiv n 32))+((m.length:Nat):Int))+1)) (0:Int))))))))
def PZ (N:Nat):LI->Int->(Bool)->(Ky8)->Bool:=az N (T3 N)
def ie (N u u_2 d d_2:Nat) (j_1 g_1:Int) (d_3:LI) (e0:Int->Int->LI->Bool):(Int × Int × Int × LI)->((Int × Int × Int × LI)->Bool)->Bool:=λv_ K=>match v_ with
 | (carry,borrow,i,u_3)=>(cond (decide (i<((d_2:Nat):Int))) (inR i d_2&&(decide ((d+i.toNat)<d_3.length)&&(af .i64 (j_1+i)&&(inR (j_1+i) u_2&&(decide ((u+(Int.toNat (j_1+i)))<u_3.length)&&cond (decide ((IntKind.wrap .u64 (u_3.getD (u+(Int.toNat (j_1+i))) 0))<(IntKind.wrap .u64 ((aD .and .u64 (IntKind.wrap .u64 ((IntKind.wrap .u64 (g_1*(IntKind.wrap .u64 (d_3.getD (d+i.toNat) 0))))+carry)) 4294967295)+borrow)))) (af .i64 (j_1+i)&&(inR (j_1+i) u_2&&(decide ((u+(Int.toNat (j_1+i)))<u_3.length)&&(af .i64 (i+1)&&K ((Int.fdiv (IntKind.wrap .u64 ((IntKind.wrap .u64 (g_1*(IntKind.wrap .u64 (d_3.getD (d+i.toNat) 0))))+carry)) (2 ^ 32)),1,(i+1),(u_3.set (u+(Int.toNat (j_1+i))) (IntKind.wrap .u32 (IntKind.wrap .u64 ((IntKind.wrap .u64 ((IntKind.wrap .u64 (u_3.getD (u+(Int.toNat (j_1+i))) 0))+4294967296)) - (IntKind.wrap .u64 ((aD .and .u64 (IntKind.wrap .u64 ((IntKind.wrap .u64 (g_1*(IntKind.wrap .u64 (d_3.getD (d+i.toNat) 0))))+carry)) 4294967295)+borrow))))))))))) (af .i64 (j_1+i)&&(inR (j_1+i) u_2&&(decide ((u+(Int.toNat (j_1+i)))<u_3.length)&&(af .i64 (i+1)&&K ((Int.fdiv (IntKind.wrap .u64 ((IntKind.wrap .u64 (g_1*(IntKind.wrap .u64 (d_3.getD (d+i.toNat) 0))))+carry)) (2 ^ 32)),0,(i+1),(u_3.set (u+(Int.toNat (j_1+i))) (IntKind.wrap .u32 (IntKind.wrap .u64 ((IntKind.wrap .u64 (u_3.getD (u+(Int.toNat (j_1+i))) 0)) - (IntKind.wrap .u64 ((aD .and .u64 (IntKind.wrap .u64 ((IntKind.wrap .u64 (g_1*(IntKind.wrap .u64 (d_3.getD (d+i.toNat) 0))))+carry)) 4294967295)+borrow)))))))))))))))) (e0 carry borrow u_3))
def Nc (N u_0 u_1 d_0 d_1:Nat) (j g:Int) (b ZB:LI) (k0:Ky2):Bool:=
 (ah N (ie N u_0 u_1 d_0 d_1 j g ZB (λZZ aaH u_4=>af .i64 (j+((d_1:Nat):Int))&&(inR (j+((d_1:Nat):Int)) u_1&&(decide ((u_0+(Int.toNat (j+((d_1:Nat):Int))))<u_4.length)&&(af .i64 (j+((d_1:Nat):Int))&&(inR (j+((d_1:Nat):Int)) u_1&&(decide ((u_0+(Int.toNat (j+((d_1:Nat):Int))))<u_4.length)&&k0 (decide ((IntKind.wrap .u64 (u_4.getD (u_0+(Int.toNat (j+((d_1:Nat):Int)))) 0))<(IntKind.wrap .u64 (ZZ+aaH)))) (u_4.set (u_0+(Int.toNat (j+((d_1:Nat):Int)))) (IntKind.wrap .u32 (IntKind.wrap .u64 ((IntKind.wrap .u64 (u_4.getD (u_0+(Int.toNat (j+((d_1:Nat):Int)))) 0)) - (IntKind.wrap .u64 (ZZ+aaH))))))))))))) (0,0,0,b))
def PN (N:Nat):Nat->Nat->Nat->Nat->Int->Int->LI->LI->(Ky2)->Bool:=az N (Nc N)
def ig (N u u_2 d d_2:Nat) (j_1:Int) (d_3:LI) (e0:Ky7):(Int × Int × LI)->((Int × Int × LI)->Bool)->Bool:=λv_ K=>match v_ with
 | (carry,i,u_3)=>(cond (decide (i<((d_2:Nat):Int))) (af .i64 (j_1+i)&&(inR (j_1+i) u_2&&(decide ((u+(Int.toNat (j_1+i)))<u_3.length)&&(inR i d_2&&(decide ((d+i.toNat)<d_3.length)&&(af .i64 (j_1+i)&&(inR (j_1+i) u_2&&(decide ((u+(Int.toNat (j_1+i)))<u_3.length)&&(af .i64 (i+1)&&K ((Int.fdiv (IntKind.wrap .u64 ((IntKind.wrap .u64 ((IntKind.wrap .u64 (u_3.getD (u+(Int.toNat (j_1+i))) 0))+(IntKind.wrap .u64 (d_3.getD (d+i.toNat) 0))))+carry)) (2 ^ 32)),(i+1),(u_3.set (u+(Int.toNat (j_1+i))) (IntKind.wrap .u32 (IntKind.wrap .u64 ((IntKind.wrap .u64 ((IntKind.wrap .u64 (u_3.getD (u+(Int.toNat (j_1+i))) 0))+(IntKind.wrap .u64 (d_3.getD (d+i.toNat) 0))))+carry)))))))))))))) (e0 carry u_3))
def Nd (N u_0 u_1 d_0 d_1:Nat) (j:Int) (b ZB:LI) (k0:Kz6):Bool:=
 (ah N (ig N u_0 u_1 d_0 d_1 j ZB (λZZ u_4=>af .i64 (j+((d_1:Nat):Int))&&(inR (j+((d_1:Nat):Int)) u_1&&(decide ((u_0+(Int.toNat (j+((d_1:Nat):Int))))<u_4.length)&&(inR (j+((d_1:Nat):Int)) u_1&&(decide ((u_0+(Int.toNat (j+((d_1:Nat):Int))))<u_4.length)&&k0 (u_4.set (u_0+(Int.toNat (j+((d_1:Nat):Int)))) (IntKind.wrap .u32 ((u_4.getD (u_0+(Int.toNat (j+((d_1:Nat):Int)))) 0)+(IntKind.wrap .u32 ZZ)))))))))) (0,0,b))
def PO (N:Nat):Nat->Nat->Nat->Nat->Int->LI->LI->(Kz6)->Bool:=az N (Nd N)
def wm (N m:Nat) (m_3:LI) (e0:Kz3):(Nat)->((Nat)->Bool)->Bool:=λv_ K=>match v_ with
 | ZK=>(cond ((decide (((ZK:Nat):Int)>0))==true) (af .i64 (((ZK:Nat):Int) - 1)&&(inR (((ZK:Nat):Int) - 1) ZK&&(decide ((m+(Int.toNat (((ZK:Nat):Int) - 1)))<m_3.length)&&cond ((m_3.getD (m+(Int.toNat (((ZK:Nat):Int) - 1))) 0)==0) (af .i64 (((ZK:Nat):Int) - 1)&&(decide (0<=(((ZK:Nat):Int) - 1)/\(((ZK:Nat):Int) - 1)<=((ZK:Nat):Int))&&K ((Int.toNat (((ZK:Nat):Int) - 1)) - 0))) (e0 ZK)))) (e0 ZK))
def rV (N ZP ZE:Nat) (b:LI) (k0:Kz3):Bool:=
 (ah N (wm N ZP b (λm_4=>k0 m_4)) ZE)
def th (N:Nat):Nat->Nat->LI->(Kz3)->Bool:=az N (rV N)
def i9 (N m ZK:Nat) (w s:Int) (m_3:LI) (e0:Kz6):(Int × LI)->((Int × LI)->Bool)->Bool:=λv_ K=>match v_ with
 | (i,out)=>(cond (decide (i<((out.length:Nat):Int))) (af .i64 (w+i)&&(inR (w+i) ZK&&(decide ((m+(Int.toNat (w+i)))<m_3.length)&&(af .i64 (w+i)&&(af .i64 ((w+i)+1)&&cond (decide (((w+i)+1)<((ZK:Nat):Int))) (af .i64 (w+i)&&(af .i64 ((w+i)+1)&&(inR ((w+i)+1) ZK&&(decide ((m+(Int.toNat ((w+i)+1)))<m_3.length)&&(decide (0<=s)&&(inR i out.length&&(decide (i.toNat<out.length)&&(af .i64 (i+1)&&K ((i+1),(out.set i.toNat (IntKind.wrap .u32 (Int.fdiv (aD .or .u64 (IntKind.wrap .u64 (m_3.getD (m+(Int.toNat (w+i))) 0)) (IntKind.wrap .u64 ((IntKind.wrap .u64 (m_3.getD (m+(Int.toNat ((w+i)+1))) 0))*2 ^ 32))) (2 ^ (min s.toNat 64)))))))))))))) (decide (0<=s)&&(inR i out.length&&(decide (i.toNat<out.length)&&(af .i64 (i+1)&&K ((i+1),(out.set i.toNat (IntKind.wrap .u32 (Int.fdiv (IntKind.wrap .u64 (m_3.getD (m+(Int.toNat (w+i))) 0)) (2 ^ (min s.toNat 64))))))))))))))) (e0 out))
def Nl (N ZP ZE:Nat) (n:Int) (b:LI) (k0:Kz6):Bool:=
 (af .i64 (IntKind.wrap .u64 (Int.tdiv n 32))&&cond (decide ((IntKind.wrap .u64 (Int.tdiv n 32))>=((ZE:Nat):Int))) (k0 []) (af .i64 (((ZE:Nat):Int) - (IntKind.wrap .u64 (Int.tdiv n 32)))&&(fY 4 (((ZE:Nat):Int) - (IntKind.wrap .u64 (Int.tdiv n 32))) (((ZE:Nat):Int) - (IntKind.wrap .u64 (Int.tdiv n 32)))&&ah N (i9 N ZP ZE (IntKind.wrap .u64 (Int.tdiv n 32)) (Int.tmod n 32) b (λZO=>pY N ZO (λmr=>decide ((0+mr)<=ZO.length)&&k0 (List.take mr (List.drop 0 ZO))))) (0,(List.replicate (Int.toNat (((ZE:Nat):Int) - (IntKind.wrap .u64 (Int.tdiv n 32)))) (0:Int))))))
def PS (N:Nat):Nat->Nat->Int->LI->(Kz6)->Bool:=az N (Nl N)
def pE (N:Nat) (ZM:LI) (s:Int) (e0:Ky8):(Nat × LI)->((Nat × LI)->Bool)->Bool:=λv_ K=>match v_ with
 | (u,u_1)=>(af .i64 (((ZM.length:Nat):Int)+1)&&cond (decide (((u:Nat):Int)<(((ZM.length:Nat):Int)+1))) (decide ((0+u)<=u_1.length)&&(decide ((List.length ((List.take u (List.drop 0 u_1))++[0]))*4<=140737488355328)&&K ((List.length ((List.take u (List.drop 0 u_1))++[0])),((List.take u (List.drop 0 u_1))++[0])))) (e0 u u_1))
def tE (N:Nat) (ZV:LI) (s_1:Int) (d:Nat) (d_1:LI) (e0:Ky8):(Nat × LI)->((Nat × LI)->Bool)->Bool:=λv_ K=>match v_ with
 | (u_6,u_7)=>(af .i64 (((ZV.length:Nat):Int)+1)&&cond (decide (((u_6:Nat):Int)<(((ZV.length:Nat):Int)+1))) (decide ((0+u_6)<=u_7.length)&&(decide ((List.length ((List.take u_6 (List.drop 0 u_7))++[0]))*4<=140737488355328)&&K ((List.length ((List.take u_6 (List.drop 0 u_7))++[0])),((List.take u_6 (List.drop 0 u_7))++[0])))) (e0 u_6 u_7))
def pC (N:Nat) (s_5:Int) (d_6 adC:Nat) (ZS abH j_1:Int) (d_7 adr q_1:LI) (e0:Kz2):(Int × Int)->((Int × Int)->Bool)->Bool:=λv_ K=>match v_ with
 | (g,r)=>(cond ((decide (g>=4294967296))==false) (af .i64 (ZS - 2)&&(inR (ZS - 2) d_6&&(decide ((0+(Int.toNat (ZS - 2)))<d_7.length)&&(af .i64 (j_1+ZS)&&(af .i64 ((j_1+ZS) - 2)&&(inR ((j_1+ZS) - 2) adC&&(decide ((0+(Int.toNat ((j_1+ZS) - 2)))<adr.length)&&cond (decide ((IntKind.wrap .u64 (g*(IntKind.wrap .u64 (d_7.getD (0+(Int.toNat (ZS - 2))) 0))))>(aD .or .u64 (IntKind.wrap .u64 (r*2 ^ 32)) (IntKind.wrap .u64 (adr.getD (0+(Int.toNat ((j_1+ZS) - 2))) 0))))) (cond (decide ((IntKind.wrap .u64 (r+abH))>=4294967296)) (e0 (IntKind.wrap .u64 (g - 1))) (K ((IntKind.wrap .u64 (g - 1)),(IntKind.wrap .u64 (r+abH))))) (e0 g)))))))) (cond (decide ((IntKind.wrap .u64 (r+abH))>=4294967296)) (e0 (IntKind.wrap .u64 (g - 1))) (K ((IntKind.wrap .u64 (g - 1)),(IntKind.wrap .u64 (r+abH))))))
def jF (N:Nat) (s_4:Int) (d_4 acg:Nat) (n top:Int) (d_5:LI) (e0:Kz0):(Int × LI × LI)->((Int × LI × LI)->Bool)->Bool:=λv_ K=>match v_ with
 | (j,abZ,q)=>(cond (decide (j>=0)) (af .i64 (j+n)&&(inR (j+n) acg&&(decide ((0+(Int.toNat (j+n)))<abZ.length)&&(af .i64 (j+n)&&(af .i64 ((j+n) - 1)&&(inR ((j+n) - 1) acg&&(decide ((0+(Int.toNat ((j+n) - 1)))<abZ.length)&&((!decide (top=0))&&((!decide (top=0))&&ah N (pC N s_4 d_4 acg n top j d_5 abZ q (λg_1=>PN N 0 acg 0 d_4 j g_1 abZ d_5 (λcr ZN=>cond cr (PO N 0 acg 0 d_4 j ZN d_5 (λZL=>inR j q.length&&(decide (j.toNat<q.length)&&(af .i64 (j - 1)&&K ((j - 1),ZL,(q.set j.toNat (IntKind.wrap .u32 (IntKind.wrap .u64 (g_1 - 1))))))))) (inR j q.length&&(decide (j.toNat<q.length)&&(af .i64 (j - 1)&&K ((j - 1),ZN,(q.set j.toNat (IntKind.wrap .u32 g_1))))))))) ((IntKind.wrap .u64 (Int.tdiv (aD .or .u64 (IntKind.wrap .u64 ((IntKind.wrap .u64 (abZ.getD (0+(Int.toNat (j+n))) 0))*2 ^ 32)) (IntKind.wrap .u64 (abZ.getD (0+(Int.toNat ((j+n) - 1))) 0))) top)),(Int.tmod (aD .or .u64 (IntKind.wrap .u64 ((IntKind.wrap .u64 (abZ.getD (0+(Int.toNat (j+n))) 0))*2 ^ 32)) (IntKind.wrap .u64 (abZ.getD (0+(Int.toNat ((j+n) - 1))) 0))) top))))))))))) (e0 abZ q))
def qo (N:Nat) (a b:LI) (s_3:Int) (d_2 acf:Nat) (d_3 aeX:LI) (k0:Kz0):Bool:=
 (af .i64 (((acf:Nat):Int) - ((d_2:Nat):Int))&&(fY 4 (((acf:Nat):Int) - ((d_2:Nat):Int)) (((acf:Nat):Int) - ((d_2:Nat):Int))&&(af .i64 (((d_2:Nat):Int) - 1)&&(inR (((d_2:Nat):Int) - 1) d_2&&(decide ((0+(Int.toNat (((d_2:Nat):Int) - 1)))<d_3.length)&&(af .i64 ((((List.length (List.replicate (Int.toNat (((acf:Nat):Int) - ((d_2:Nat):Int))) (0:Int))):Nat):Int) - 1)&&ah N (jF N s_3 d_2 acf ((d_2:Nat):Int) (IntKind.wrap .u64 (d_3.getD (0+(Int.toNat (((d_2:Nat):Int) - 1))) 0)) d_3 (λaeq q_2=>pY N q_2 (λac8=>decide (0<=((d_2:Nat):Int)/\((d_2:Nat):Int)<=((acf:Nat):Int))&&th N 0 ((Int.toNat ((d_2:Nat):Int)) - 0) aeq (λaeT=>PS N 0 aeT s_3 aeq (λs6=>decide ((0+ac8)<=q_2.length)&&k0 (List.take ac8 (List.drop 0 q_2)) s6))))) (((((List.length (List.replicate (Int.toNat (((acf:Nat):Int) - ((d_2:Nat):Int))) (0:Int))):Nat):Int) - 1),aeX,(List.replicate (Int.toNat (((acf:Nat):Int) - ((d_2:Nat):Int))) (0:Int)))))))))
def wG (N:Nat) (a b:LI) (s_2:Int) (ad7:Nat) (afa:LI) (k0:Kz0):Bool:=
 (af .i64 (((ad7:Nat):Int) - 0)&&(fY 4 (((ad7:Nat):Int) - 0) (((ad7:Nat):Int) - 0)&&false))
def Nt (N:Nat) (a b:LI) (k0:Kz0):Bool:=
 (Eg N a b (λnr=>cond (decide (nr<0)) (decide ((List.length ([]++a))*4<=140737488355328)&&k0 [] ([]++a)) (cond (((b.length:Nat):Int)==1) (inR 0 b.length&&oZ N a (b.getD 0 0) (λnsr ZD=>pY N [ZD] (λmr=>decide ((0+mr)<=(List.length [ZD]))&&k0 nsr (List.take mr (List.drop 0 [ZD]))))) (af .i64 (((b.length:Nat):Int) - 1)&&(inR (((b.length:Nat):Int) - 1) b.length&&We N (b.getD (Int.toNat (((b.length:Nat):Int) - 1)) 0) (λZI=>PZ N b (IntKind.wrap .u64 ZI) (PZ N a (IntKind.wrap .u64 ZI) (ah N (pE N a (IntKind.wrap .u64 ZI) (λu_2 u_3=>wG N a b (IntKind.wrap .u64 ZI) u_2 u_3 k0)) (0,[])) (λZ1 ZG=>ah N (pE N a (IntKind.wrap .u64 ZI) (λu_4 u_5=>wG N a b (IntKind.wrap .u64 ZI) u_4 u_5 k0)) (Z1,ZG))) (λaan ZC=>PZ N a (IntKind.wrap .u64 ZI) (ah N (tE N a (IntKind.wrap .u64 ZI) aan ZC (λu_8 u_9=>qo N a b (IntKind.wrap .u64 ZI) aan u_8 ZC u_9 k0)) (0,[])) (λacT ZJ=>ah N (tE N a (IntKind.wrap .u64 ZI) aan ZC (λaa9 abc=>qo N a b (IntKind.wrap .u64 ZI) aan aa9 ZC abc k0)) (acT,ZJ)))))))))
def yh (N:Nat):LI->LI->(Kz0)->Bool:=az N (Nt N)
def k9 (N:Nat) (ZV ZH:LI) (Z_:Int) (e0:Ky7):(Int × Int × LI)->((Int × Int × LI)->Bool)->Bool:=λv_ K=>match v_ with
 | (carry,k_,ZO)=>(cond (decide (k_<((ZH.length:Nat):Int))) (inR Z_ ZV.length&&(inR k_ ZH.length&&(af .i64 (Z_+k_)&&(inR (Z_+k_) ZO.length&&(decide ((Int.toNat (Z_+k_))<ZO.length)&&(af .i64 (Z_+k_)&&(inR (Z_+k_) ZO.length&&(decide ((Int.toNat (Z_+k_))<ZO.length)&&(af .i64 (k_+1)&&K ((Int.fdiv (IntKind.wrap .u64 ((IntKind.wrap .u64 ((IntKind.wrap .u64 ((IntKind.wrap .u64 (ZV.getD Z_.toNat 0))*(IntKind.wrap .u64 (ZH.getD k_.toNat 0))))+(IntKind.wrap .u64 (ZO.getD (Int.toNat (Z_+k_)) 0))))+carry)) (2 ^ 32)),(k_+1),(ZO.set (Int.toNat (Z_+k_)) (IntKind.wrap .u32 (IntKind.wrap .u64 ((IntKind.wrap .u64 ((IntKind.wrap .u64 ((IntKind.wrap .u64 (ZV.getD Z_.toNat 0))*(IntKind.wrap .u64 (ZH.getD k_.toNat 0))))+(IntKind.wrap .u64 (ZO.getD (Int.toNat (Z_+k_)) 0))))+carry)))))))))))))) (e0 carry ZO))
def k8 (N:Nat) (ZM ZB:LI) (e0:Kz6):(Int × LI)->((Int × LI)->Bool)->Bool:=λv_ K=>match v_ with
 | (i,out)=>(cond (decide (i<((ZM.length:Nat):Int))) (ah N (k9 N ZM ZB i (λZZ aaa=>af .i64 (i+((ZB.length:Nat):Int))&&(inR (i+((ZB.length:Nat):Int)) aaa.length&&(decide ((Int.toNat (i+((ZB.length:Nat):Int)))<aaa.length)&&(af .i64 (i+1)&&K ((i+1),(aaa.set (Int.toNat (i+((ZB.length:Nat):Int))) (IntKind.wrap .u32 ZZ)))))))) (0,0,out)) (e0 out))
def TK (N:Nat) (a b:LI) (k0:Kz6):Bool:=
 (af .i64 (((a.length:Nat):Int)+((b.length:Nat):Int))&&(fY 4 (((a.length:Nat):Int)+((b.length:Nat):Int)) (((a.length:Nat):Int)+((b.length:Nat):Int))&&ah N (k8 N a b (λaao=>pY N aao (λmr=>decide ((0+mr)<=aao.length)&&k0 (List.take mr (List.drop 0 aao))))) (0,(List.replicate (Int.toNat (((a.length:Nat):Int)+((b.length:Nat):Int))) (0:Int)))))
def xg (N:Nat):LI->LI->(Kz6)->Bool:=az N (TK N)
def kY (N:Nat) (ZM ZB:LI) (e0:Kz6):(Int × Int × LI)->((Int × Int × LI)->Bool)->Bool:=λv_ K=>match v_ with
 | (borrow,i,out)=>(cond (decide (i<((ZM.length:Nat):Int))) (cond (decide (i<((ZB.length:Nat):Int))) (inR i ZB.length&&(inR i ZM.length&&cond (decide ((IntKind.wrap .u64 (ZM.getD i.toNat 0))<(IntKind.wrap .u64 (borrow+(IntKind.wrap .u64 (ZB.getD i.toNat 0)))))) (inR i out.length&&(decide (i.toNat<out.length)&&(af .i64 (i+1)&&K (1,(i+1),(out.set i.toNat (IntKind.wrap .u32 (IntKind.wrap .u64 ((IntKind.wrap .u64 ((IntKind.wrap .u64 (ZM.getD i.toNat 0))+4294967296)) - (IntKind.wrap .u64 (borrow+(IntKind.wrap .u64 (ZB.getD i.toNat 0)))))))))))) (inR i out.length&&(decide (i.toNat<out.length)&&(af .i64 (i+1)&&K (0,(i+1),(out.set i.toNat (IntKind.wrap .u32 (IntKind.wrap .u64 ((IntKind.wrap .u64 (ZM.getD i.toNat 0)) - (IntKind.wrap .u64 (borrow+(IntKind.wrap .u64 (ZB.getD i.toNat 0)))))))))))))) (inR i ZM.length&&cond (decide ((IntKind.wrap .u64 (ZM.getD i.toNat 0))<borrow)) (inR i out.length&&(decide (i.toNat<out.length)&&(af .i64 (i+1)&&K (1,(i+1),(out.set i.toNat (IntKind.wrap .u32 (IntKind.wrap .u64 ((IntKind.wrap .u64 ((IntKind.wrap .u64 (ZM.getD i.toNat 0))+4294967296)) - borrow)))))))) (inR i out.length&&(decide (i.toNat<out.length)&&(af .i64 (i+1)&&K (0,(i+1),(out.set i.toNat (IntKind.wrap .u32 (IntKind.wrap .u64 ((IntKind.wrap .u64 (ZM.getD i.toNat 0)) - borrow)))))))))) (e0 out))
def rW (N:Nat) (a b:LI) (k0:Kz6):Bool:=
 (fY 4 ((a.length:Nat):Int) ((a.length:Nat):Int)&&ah N (kY N a b (λZO=>pY N ZO (λmr=>decide ((0+mr)<=ZO.length)&&k0 (List.take mr (List.drop 0 ZO))))) (0,0,(List.replicate (Int.toNat ((a.length:Nat):Int)) (0:Int))))
def mI (N:Nat):LI->LI->(Kz6)->Bool:=az N (rW N)
def Np (N:Nat) (a:LI) (u:Int) (b:LI) (v:Int) (k0:Kz6):Bool:=
 (Dd N u (λnsr=>xg N a nsr (λZC=>Dd N v (λZG=>xg N b ZG (λZJ=>mI N ZC ZJ (λZN=>k0 ZN))))))
def J4 (N:Nat):LI->Int->LI->Int->(Kz6)->Bool:=az N (Np N)
def tQ (N:Nat) (a:LI) (u:Int) (b:LI) (v:Int) (k0:Kz6):Bool:=
 (cond (decide (v<=0)) (af .i64 (0 - v)&&J4 N a (IntKind.wrap .u64 u) b (IntKind.wrap .u64 (0 - v)) (λnsr=>k0 nsr)) (af .i64 (0 - u)&&J4 N b (IntKind.wrap .u64 v) a (IntKind.wrap .u64 (0 - u)) (λZC=>k0 ZC)))
def nE (N:Nat):LI->Int->LI->Int->(Kz6)->Bool:=az N (tQ N)
def BG (N:Nat) (e0:Kz0):(LI × LI)->((LI × LI)->Bool)->Bool:=λv_ K=>match v_ with
 | (ZV,ZH)=>(cond (decide (((ZH.length:Nat):Int)>2)) (Mn N false ZV (λZD=>af .i64 (ZD - 62)&&ra N ZV (ZD - 62) (λZI=>ra N ZH (ZD - 62) (λZX=>ti N ZI ZX (λZR n5 n6 n7=>cond (n5==0) (yh N ZV ZH (λnsr ZC=>K (ZH,ZC))) (nE N ZV ZR ZH n5 (λZG=>nE N ZV n6 ZH n7 (λZJ=>K (ZG,ZJ))))))))) (e0 ZV ZH))
def yq (N:Nat) (e0:Kz6):(LI × LI)->((LI × LI)->Bool)->Bool:=λv_ K=>match v_ with
 | (a_4,Z7)=>(cond (decide (((Z7.length:Nat):Int)>0)) (yh N a_4 Z7 (λZN ZL=>K (Z7,ZL))) (e0 a_4))
def I8 (N:Nat) (a b ZM ZB:LI) (k0:Kz6):Bool:=
 (ah N (BG N (λZY ZW=>ah N (yq N (λa_5=>decide ((List.length ([]++a_5))*4<=140737488355328)&&k0 ([]++a_5))) (ZY,ZW))) (ZM,ZB))
def Ng (N:Nat) (a b:LI) (k0:Kz6):Bool:=
 (Eg N a b (λnr=>cond (decide (nr<0)) (I8 N a b b a k0) (I8 N a b a b k0)))
def GJ (N:Nat):LI->LI->(Kz6)->Bool:=az N (Ng N)
def Kt (N:Nat) (neg:Bool) (a b:LI) (ZB ZH:Bool) (ZM ZW:LI) (k0:Kx4):Bool:=
 (GI N neg ZM ZB ZH (λZT s12 s13=>GM N false ZW ZT s12 ZH s13 (λZ4 s14=>k0 ZT s12 Z4 s14)))
def Nv (N:Nat) (neg:Bool) (a b:LI) (ZB ZH:Bool) (n:Int) (k0:Kx4):Bool:=
 (Cf N a n (λZN=>Cf N b n (λZL=>sQ2 N false ZL (λZI=>af .i64 ZI&&Mn N false ZL (λZX=>af .i64 (ZX - 1)&&cond (ZI != (ZX - 1)) (GJ N ZN ZL (λs6=>rH N (λs7=>Eg N s6 s7 (λZR=>cond (ZR != 0) (yh N ZN s6 (λs8 s9=>yh N ZL s6 (λs10 s11=>Kt N neg a b ZB ZH s8 s10 k0))) (Kt N neg a b ZB ZH ZN ZL k0))))) (Kt N neg a b ZB ZH ZN ZL k0))))))
def Tn (N:Nat) (neg:Bool) (a b:LI) (ZB ZH:Bool) (k0:Kx4):Bool:=
 (cond (((a.length:Nat):Int)==0) (GI N false [] ZB ZH (λcr nsr ZC=>rH N (λZG=>GM N false ZG cr nsr ZH ZC (λZF ZJ=>k0 cr nsr ZF ZJ)))) (sQ2 N false a (λnr=>sQ2 N false b (λZD=>cond (decide (ZD<nr)) (Nv N neg a b ZB ZH ZD k0) (Nv N neg a b ZB ZH nr k0)))))
def Mk (N:Nat):Bool->LI->LI->Bool->Bool->(Kx4)->Bool:=az N (Tn N)
def WL (N:Nat) (b ZB ZH:Bool) (ZW:LI) (k0:Kx4):Bool:=
 (rH N (λnsr=>Mk N ZH ZW nsr b ZB (λcr ZC ZF ZG=>k0 cr ZC ZF ZG)))
def RU (N:Nat):Bool->Bool->Bool->LI->(Kx4)->Bool:=WL N
def jj (N:Nat) (n:Int) (b:Bool) (u:Int) (k0:Ky2):Bool:=
 (Dd N u (λnsr=>zf N (decide (n<0)) nsr b (λcr ZC=>k0 cr ZC)))
def M4 (N:Nat) (n:Int) (b:Bool) (k0:Ky2):Bool:=
 (cond (decide (n<0)) (jj N n b (IntKind.wrap .u64 (0 - (IntKind.wrap .u64 n))) k0) (jj N n b (IntKind.wrap .u64 n) k0))
def SX (N:Nat):Int->Bool->(Ky2)->Bool:=az N (M4 N)
def wD (N:Nat) (n:Int) (k0:Ky2):Bool:=
 (SX N n false (λcr nsr=>k0 cr nsr))
def nt (N:Nat):Int->(Ky2)->Bool:=wD N
def WO (N:Nat) (b ZB ZH:Bool) (ZW:LI) (Z7:Bool) (b_5:LI) (k0:Kx4):Bool:=
 (Mk N (ZH != Z7) ZW b_5 b ZB (λcr nsr ZF ZC=>k0 cr nsr ZF ZC))
def XA (N:Nat):Bool->Bool->Bool->LI->Bool->LI->(Kx4)->Bool:=WO N
def TU (N:Nat) (x:Int) (b:Bool) (ZB:LI) (k0:Kx4):Bool:=
 (cond (decide (x>=0)) (Wh N x 0 b ZB (RU N false false b ZB (λcr nsr ZF ZC=>k0 cr nsr ZF ZC)) (λZT ZG=>RU N false false ZT ZG (λZ4 ZJ aa1 ZN=>k0 Z4 ZJ aa1 ZN))) (nt N 1 (λaaW ZL=>af .i64 (0 - x)&&JZ N (IntKind.wrap .u64 (0 - x)) false aaW ZL (λabz s6=>XA N false false b ZB abz s6 (λabA s7 c8 s8=>k0 abA s7 c8 s8)))))
def XE (N:Nat):Int->Bool->LI->(Kx4)->Bool:=az N (TU N)
def yx (N:Nat) (x:Fl) (k0:Kx4):Bool:=
 (Bw N x (λnr cr nsr=>XE N nr cr nsr (λZF ZC ZT ZG=>k0 ZF ZC ZT ZG)))
def tu (N:Nat):Fl->(Kx4)->Bool:=yx N
def lf (N:Nat) (abk:LF) (abE aaI aaJ r_2 r_3:Int) (e0:List RY1->Bool):(Int × List RY1)->((Int × List RY1)->Bool)->Bool:=λv_ K=>match v_ with
 | (ab_,b2)=>(cond (decide (ab_<abE)) (inR ab_ abk.length&&tu N (abk.getD ab_.toNat none) (λZT ZG Z4 ZJ=>decide ((List.length b2+1)*8<=140737488355328)&&(af .i64 (ab_+1)&&K ((ab_+1),(b2++[((ZT,ZG),(Z4,ZJ))]))))) (e0 b2))
def sa (N:Nat) (ZP ZE:Int) (ZK:LF) (k0:List RY1->Bool):Bool:=
 (ah N (lf N ZK ((ZK.length:Nat):Int) 0 0 ZP ZE (λ(aaV:List RY1)=>k0 aaV)) (0,[]))
def tn (N:Nat):Int->Int->LF->(List RY1->Bool)->Bool:=az N (sa N)
def MV (N:Nat) (ZP ZE:Int) (ZK:List RY2) (i j:Int) (k0:Kx4):Bool:=
 (af .i64 (i*ZE)&&(af .i64 ((i*ZE)+j)&&(inR ((i*ZE)+j) ZK.length&&k0 (ZK.getD (Int.toNat ((i*ZE)+j)) ((false,[]),(false,[]))).1.1 (ZK.getD (Int.toNat ((i*ZE)+j)) ((false,[]),(false,[]))).1.2 (ZK.getD (Int.toNat ((i*ZE)+j)) ((false,[]),(false,[]))).2.1 (ZK.getD (Int.toNat ((i*ZE)+j)) ((false,[]),(false,[]))).2.2)))
def JX (N:Nat):Int->Int->List RY2->Int->Int->(Kx4)->Bool:=az N (MV N)
def TO (N:Nat) (r_0:Bool) (r_1:LI) (r_2:Bool) (r_3:LI) (k0:Kz6):Bool:=
 (cond (((r_3.length:Nat):Int)==0) (rH N (λnsr=>k0 nsr)) (k0 r_3))
def PX (N:Nat):Bool->LI->Bool->LI->(Kz6)->Bool:=az N (TO N)
def rU (N:Nat) (Z6:Bool) (ZQ:LI) (Z5:Bool) (Z9:LI) (y_0:Bool) (Z3:LI) (y_2:Bool) (y_3:LI) (k0:Kz0):Bool:=
 (PX N y_0 Z3 y_2 y_3 (λnsr=>xg N ZQ nsr (λZC=>PX N Z6 ZQ Z5 Z9 (λZG=>xg N Z3 ZG (λZJ=>k0 ZC ZJ)))))
def zl (N:Nat):Bool->LI->Bool->LI->Bool->LI->Bool->LI->(Kz0)->Bool:=az N (rU N)
def Nh (N:Nat) (b:Bool) (ZB:LI) (ZH:Bool) (ZW:LI) (k0:Kz2):Bool:=
 (cond (b != ZH) (cond b (k0 (-1)) (k0 1)) (Eg N ZB ZW (λnr=>cond b (af .i64 (0 - nr)&&k0 (0 - nr)) (k0 nr))))
def SZ (N:Nat):Bool->LI->Bool->LI->(Kz2)->Bool:=az N (Nh N)
def uL (N:Nat) (r_0:Bool) (r_1:LI) (r_2:Bool) (r_3:LI) (Z6:Bool) (ZQ:LI) (Z5:Bool) (Z9:LI) (k0:Kz2):Bool:=
 (zl N r_0 r_1 r_2 r_3 Z6 ZQ Z5 Z9 (λnsr ZC=>SZ N r_0 nsr Z6 ZC (λnr=>k0 nr)))
def pA (N:Nat):Bool->LI->Bool->LI->Bool->LI->Bool->LI->(Kz2)->Bool:=uL N
def Es (N:Nat) (Z_ m_5 m_6:Int) (m_7:List RY2) (e0:Kz1) (e1:Bool):(Int)->((Int)->Bool)->Bool:=λv_ K=>match v_ with
 | j=>(cond (decide (j<Z_)) (JX N m_5 m_6 m_7 Z_ j (λcr nsr ZF ZC=>JX N m_5 m_6 m_7 j Z_ (λZT ZG Z4 ZJ=>pA N cr nsr ZF ZC ZT ZG Z4 ZJ (λnr=>cond (nr != 0) (e0 false) (af .i64 (j+1)&&K (j+1)))))) e1)
def Er (N:Nat) (m m_3:Int) (m_4:List RY2) (e0:Kz1) (e1:Bool):(Int)->((Int)->Bool)->Bool:=λv_ K=>match v_ with
 | i=>(cond (decide (i<m)) (ah N (Es N i m m_3 m_4 (λt2=>e0 t2) (af .i64 (i+1)&&K (i+1))) 0) e1)
def Tx (N:Nat) (ZP ZE:Int) (ZK:List RY2) (k0:Kz1):Bool:=
 (ah N (Er N ZP ZE ZK (λZ8=>k0 Z8) (k0 true)) 0)
def Wd (N:Nat):Int->Int->List RY2->(Kz1)->Bool:=az N (Tx N)
def jL (N:Nat) (abY aac aa5 aa6 ZK m_3:Int) (e0:List RY1->Bool):(Int × List RY1)->((Int × List RY1)->Bool)->Bool:=λv_ K=>match v_ with
 | (Z_,b2)=>(af .i64 (abY*aac)&&cond (decide (Z_<(abY*aac))) (decide ((List.length b2+1)*8<=140737488355328)&&(af .i64 (Z_+1)&&K ((Z_+1),(b2++[((false,[]),(false,[]))])))) (e0 b2))
def qm (N:Nat) (rows cols:Int) (k0:List RY1->Bool):Bool:=
 (ah N (jL N rows cols 0 0 rows cols (λ(aaV:List RY1)=>k0 aaV)) (0,[]))
def rf (N:Nat):Int->Int->(List RY1->Bool)->Bool:=az N (qm N)
def rn (N:Nat) (neg b:Bool) (ZB:LI) (ZH:Bool) (ZW Z7:LI) (k0:Kx9):Bool:=
 (pY N Z7 (λmr=>cond (neg==true) (k0 (decide (((mr:Nat):Int)>0)) 0 mr) (k0 false 0 mr)))
def rI (N:Nat):Bool->Bool->LI->Bool->LI->LI->(Kx9)->Bool:=rn N
def Sv (N:Nat) (neg b:Bool) (ZB ZH:Nat) (ZW:Bool) (Z7 b_5 b_6:LI) (k0:Kx9):Bool:=
 (pY N b_5 (λmr=>cond (neg==true) (k0 (decide (((mr:Nat):Int)>0)) 0 mr) (k0 false 0 mr)))
def S0 (N:Nat):Bool->Bool->Nat->Nat->Bool->LI->LI->LI->(Kx9)->Bool:=Sv N
def TY (N:Nat) (Z6:Bool) (ZQ:LI) (Z5:Bool) (Z9:LI) (b:Bool) (ZB:LI) (ZH:Bool) (ZW:LI) (k0:Kx4):Bool:=
 (decide ((List.length ([]++ZQ))*4<=140737488355328)&&PX N Z6 ZQ Z5 Z9 (λnsr=>decide ((List.length ([]++nsr))*4<=140737488355328)&&rI N Z6 b ZB ZH ZW ([]++ZQ) (λcr mr aan=>S0 N false cr mr aan ZH ZW ([]++nsr) ([]++ZQ) (λZF Z1 acT=>decide ((mr+aan)<=(List.length ([]++ZQ)))&&(decide ((Z1+acT)<=(List.length ([]++nsr)))&&k0 cr (List.take aan (List.drop mr ([]++ZQ))) ZF (List.take acT (List.drop Z1 ([]++nsr))))))))
def Wp (N:Nat):Bool->LI->Bool->LI->Bool->LI->Bool->LI->(Kx4)->Bool:=az N (TY N)
def Ey (N:Nat) (t12 m m_3:Int) (m_4:List RY2) (t2 Z8 t t_1:Int) (e0:List RY1->Bool):(Int × List RY1)->((Int × List RY1)->Bool)->Bool:=λv_ K=>match v_ with
 | (t13,b3)=>(cond (decide (t13<t12)) (inR t13 b3.length&&(decide (t13.toNat<b3.length)&&(inR t13 m_4.length&&Wp N (m_4.getD t13.toNat ((false,[]),(false,[]))).1.1 (m_4.getD t13.toNat ((false,[]),(false,[]))).1.2 (m_4.getD t13.toNat ((false,[]),(false,[]))).2.1 (m_4.getD t13.toNat ((false,[]),(false,[]))).2.2 (b3.getD t13.toNat ((false,[]),(false,[]))).1.1 (b3.getD t13.toNat ((false,[]),(false,[]))).1.2 (b3.getD t13.toNat ((false,[]),(false,[]))).2.1 (b3.getD t13.toNat ((false,[]),(false,[]))).2.2 (λcr nsr ZF ZC=>af .i64 (t13+1)&&K ((t13+1),(b3.set t13.toNat ((cr,nsr),(ZF,ZC)))))))) (e0 b3))
def TX (N:Nat) (ZP ZE:Int) (ZK:List RY2) (k0:List RY1->Bool):Bool:=
 (rf N ZP ZE (λ(lr:List RY1)=>ah N (Ey N ((ZK.length:Nat):Int) ZP ZE ZK 0 0 ZP ZE (λ(b2:List RY1)=>k0 b2)) (0,lr)))
def Wo (N:Nat):Int->Int->List RY2->(List RY1->Bool)->Bool:=az N (TX N)
def Tl (N:Nat) (ZP ZE i j:Int) (b:List RY1) (k0:Kz3):Bool:=
 (af .i64 (i*ZE)&&(af .i64 ((i*ZE)+j)&&(inR ((i*ZE)+j) b.length&&(decide ((Int.toNat ((i*ZE)+j))<b.length)&&k0 (Int.toNat ((i*ZE)+j))))))
def GL (N:Nat):Int->Int->Int->Int->List RY1->(Kz3)->Bool:=az N (Tl N)
def xB (N:Nat) (z_0:Bool) (z_1:LI) (z_2:Bool) (z_3:LI) (k0:Kz2):Bool:=
 (cond (((z_1.length:Nat):Int)==0) (k0 0) (cond z_0 (k0 (-1)) (k0 1)))
def De (N:Nat):Bool->LI->Bool->LI->(Kz2)->Bool:=az N (xB N)
def Sq (N:Nat) (r_0:Bool) (r_1:LI) (r_2:Bool) (r_3:LI) (k0:Kz2):Bool:=
 (De N r_0 r_1 r_2 r_3 (λnr=>k0 nr))
def GG (N:Nat):Bool->LI->Bool->LI->(Kz2)->Bool:=Sq N
def GQ6 (N:Nat) (b:Bool) (ZB:LI) (ZH:Bool) (ZW:LI) (k0:Kz6):Bool:=
 (cond (((ZW.length:Nat):Int)==0) (rH N (λnsr=>k0 nsr)) (k0 ZW))
def sQ6 (N:Nat):Bool->LI->Bool->LI->(Kz6)->Bool:=az N (GQ6 N)
def Tj (N:Nat) (b ZB ZH:Bool) (ZW:LI) (Z7:Bool) (b_5:LI) (b_6:Bool) (b_7:LI) (b_8:Bool) (b_9:LI) (k0:Kx4):Bool:=
 (sQ6 N b_6 b_7 b_8 b_9 (λnsr=>xg N ZW nsr (λZC=>sQ6 N ZH ZW Z7 b_5 (λZG=>xg N ZG b_7 (λZJ=>Mk N (ZH != b_6) ZC ZJ b ZB (λcr ZN ZF ZL=>k0 cr ZN ZF ZL))))))
def V8 (N:Nat):Bool->Bool->Bool->LI->Bool->LI->Bool->LI->Bool->LI->(Kx4)->Bool:=az N (Tj N)
def Ti (N:Nat) (b ZB ZH:Bool) (ZW:LI) (Z7:Bool) (b_5:LI) (b_6:Bool) (b_7:LI) (b_8:Bool) (b_9:LI) (k0:Kx4):Bool:=
 (xg N ZW b_7 (λnsr=>sQ6 N ZH ZW Z7 b_5 (λZC=>sQ6 N b_6 b_7 b_8 b_9 (λZG=>xg N ZC ZG (λZJ=>Mk N (ZH != b_6) nsr ZJ b ZB (λcr ZN ZF ZL=>k0 cr ZN ZF ZL))))))
def V7 (N:Nat):Bool->Bool->Bool->LI->Bool->LI->Bool->LI->Bool->LI->(Kx4)->Bool:=az N (Ti N)
def TT (N:Nat) (b:Bool) (ZB:LI) (ZH:Bool) (ZW:LI) (Z7:Bool) (b_5:LI) (b_6:Bool) (b_7:LI) (k0:Kz0):Bool:=
 (sQ6 N Z7 b_5 b_6 b_7 (λnsr=>xg N ZB nsr (λZC=>sQ6 N b ZB ZH ZW (λZG=>xg N b_5 ZG (λZJ=>k0 ZC ZJ)))))
def XD (N:Nat):Bool->LI->Bool->LI->Bool->LI->Bool->LI->(Kz0)->Bool:=az N (TT N)
def gL (N:Nat) (ZM ZB:LI) (e0:Ky7):(Int × Int × LI)->((Int × Int × LI)->Bool)->Bool:=λv_ K=>match v_ with
 | (carry,i,out)=>(cond (decide (i<((ZM.length:Nat):Int))) (inR i ZM.length&&cond (decide (i<((ZB.length:Nat):Int))) (inR i ZB.length&&(inR i out.length&&(decide (i.toNat<out.length)&&(af .i64 (i+1)&&K ((Int.fdiv (IntKind.wrap .u64 ((IntKind.wrap .u64 ((IntKind.wrap .u64 (ZM.getD i.toNat 0))+carry))+(IntKind.wrap .u64 (ZB.getD i.toNat 0)))) (2 ^ 32)),(i+1),(out.set i.toNat (IntKind.wrap .u32 (IntKind.wrap .u64 ((IntKind.wrap .u64 ((IntKind.wrap .u64 (ZM.getD i.toNat 0))+carry))+(IntKind.wrap .u64 (ZB.getD i.toNat 0))))))))))) (inR i out.length&&(decide (i.toNat<out.length)&&(af .i64 (i+1)&&K ((Int.fdiv (IntKind.wrap .u64 ((IntKind.wrap .u64 (ZM.getD i.toNat 0))+carry)) (2 ^ 32)),(i+1),(out.set i.toNat (IntKind.wrap .u32 (IntKind.wrap .u64 ((IntKind.wrap .u64 (ZM.getD i.toNat 0))+carry))))))))) (e0 carry out))
def vo (N:Nat) (a b:LI) (k0:Kz6):Bool:=
 (cond (decide (((a.length:Nat):Int)<((b.length:Nat):Int))) (af .i64 (((b.length:Nat):Int)+1)&&(fY 4 (((b.length:Nat):Int)+1) (((b.length:Nat):Int)+1)&&ah N (gL N b a (λZZ ZO=>inR ((b.length:Nat):Int) ZO.length&&(decide ((Int.toNat ((b.length:Nat):Int))<ZO.length)&&pY N (ZO.set (Int.toNat ((b.length:Nat):Int)) (IntKind.wrap .u32 ZZ)) (λmr=>decide ((0+mr)<=(List.length (ZO.set (Int.toNat ((b.length:Nat):Int)) (IntKind.wrap .u32 ZZ))))&&k0 (List.take mr (List.drop 0 (ZO.set (Int.toNat ((b.length:Nat):Int)) (IntKind.wrap .u32 ZZ)))))))) (0,0,(List.replicate (Int.toNat (((b.length:Nat):Int)+1)) (0:Int))))) (af .i64 (((a.length:Nat):Int)+1)&&(fY 4 (((a.length:Nat):Int)+1) (((a.length:Nat):Int)+1)&&ah N (gL N a b (λaau aaa=>inR ((a.length:Nat):Int) aaa.length&&(decide ((Int.toNat ((a.length:Nat):Int))<aaa.length)&&pY N (aaa.set (Int.toNat ((a.length:Nat):Int)) (IntKind.wrap .u32 aau)) (λaan=>decide ((0+aan)<=(List.length (aaa.set (Int.toNat ((a.length:Nat):Int)) (IntKind.wrap .u32 aau))))&&k0 (List.take aan (List.drop 0 (aaa.set (Int.toNat ((a.length:Nat):Int)) (IntKind.wrap .u32 aau)))))))) (0,0,(List.replicate (Int.toNat (((a.length:Nat):Int)+1)) (0:Int))))))
def we (N:Nat):LI->LI->(Kz6)->Bool:=az N (vo N)
def TZ (N:Nat) (turn b ZB:Bool) (ZH:LI) (ZW:Bool) (Z7:LI) (k0:Ky2):Bool:=
 (cond (ZB==(ZW != turn)) (we N ZH Z7 (λnsr=>zf N (ZW != turn) nsr b (λcr ZC=>k0 cr ZC))) (Eg N ZH Z7 (λnr=>cond (decide (nr>=0)) (mI N ZH Z7 (λZG=>zf N ZB ZG b (λZF ZJ=>k0 ZF ZJ))) (mI N Z7 ZH (λZN=>zf N (ZW != turn) ZN b (λZT ZL=>k0 ZT ZL))))))
def Wq (N:Nat):Bool->Bool->Bool->LI->Bool->LI->(Ky2)->Bool:=az N (TZ N)
def Sn (N:Nat) (b ZB:Bool) (ZH:LI) (ZW:Bool) (Z7:LI) (k0:Ky2):Bool:=
 (Wq N true b ZB ZH ZW Z7 (λcr nsr=>k0 cr nsr))
def PF (N:Nat):Bool->Bool->LI->Bool->LI->(Ky2)->Bool:=Sn N
def MM (N:Nat) (neg:Bool) (m:LI) (b:Bool) (ZB:LI) (ZH:Bool) (ZW:LI) (k0:Ky2):Bool:=
 (lO N m (λnsr=>cond (neg==true) (k0 (decide (((nsr.length:Nat):Int)>0)) nsr) (k0 false nsr)))
def GB (N:Nat):Bool->LI->Bool->LI->Bool->LI->(Ky2)->Bool:=MM N
def Ku (N:Nat) (neg:Bool) (a b:LI) (ZB:Bool) (ZH:LI) (ZW:Bool) (Z7 ZM b_5:LI) (k0:Kx4):Bool:=
 (GB N neg ZM ZB ZH ZW Z7 (λZT s11=>GM N false b_5 ZT s11 ZW Z7 (λZ4 s12=>k0 ZT s11 Z4 s12)))
def Nw (N:Nat) (neg:Bool) (a b:LI) (ZB:Bool) (ZH:LI) (ZW:Bool) (Z7:LI) (n:Int) (k0:Kx4):Bool:=
 (Cf N a n (λZJ=>Cf N b n (λZN=>sQ2 N false ZN (λZI=>af .i64 ZI&&Mn N false ZN (λZX=>af .i64 (ZX - 1)&&cond (ZI != (ZX - 1)) (GJ N ZJ ZN (λZL=>rH N (λs6=>Eg N ZL s6 (λZR=>cond (ZR != 0) (yh N ZJ ZL (λs7 s8=>yh N ZN ZL (λs9 s10=>Ku N neg a b ZB ZH ZW Z7 s7 s9 k0))) (Ku N neg a b ZB ZH ZW Z7 ZJ ZN k0))))) (Ku N neg a b ZB ZH ZW Z7 ZJ ZN k0))))))
def TM (N:Nat) (neg:Bool) (a b:LI) (ZB:Bool) (ZH:LI) (ZW:Bool) (Z7:LI) (k0:Kx4):Bool:=
 (cond (((a.length:Nat):Int)==0) (GB N false [] ZB ZH ZW Z7 (λcr nsr=>rH N (λZC=>GM N false ZC cr nsr ZW Z7 (λZF ZG=>k0 cr nsr ZF ZG)))) (sQ2 N false a (λnr=>sQ2 N false b (λZD=>cond (decide (ZD<nr)) (Nw N neg a b ZB ZH ZW Z7 ZD k0) (Nw N neg a b ZB ZH ZW Z7 nr k0)))))
def Wi (N:Nat):Bool->LI->LI->Bool->LI->Bool->LI->(Kx4)->Bool:=az N (TM N)
def Tp (N:Nat) (b:Bool) (ZB:LI) (ZH:Bool) (ZW:LI) (Z7:Bool) (b_5:LI) (b_6:Bool) (b_7:LI) (k0:Kx4):Bool:=
 (XD N b ZB ZH ZW Z7 b_5 b_6 b_7 (λnsr ZC=>sQ6 N b ZB ZH ZW (λZG=>sQ6 N Z7 b_5 b_6 b_7 (λZJ=>xg N ZG ZJ (λZN=>PF N false b nsr Z7 ZC (λcr ZL=>Wi N cr ZL ZN b ZB ZH ZW (λZF s6 ZT s7=>k0 ZF s6 ZT s7)))))))
def V9 (N:Nat):Bool->LI->Bool->LI->Bool->LI->Bool->LI->(Kx4)->Bool:=az N (Tp N)
def Ep (N:Nat) (Z_ acn:Int) (r:Bool) (r_1:LI) (r_2:Bool) (r_3:LI) (m ZK:Int) (e0:List RY1->Bool):(Int × List RY1)->((Int × List RY1)->Bool)->Bool:=λv_ K=>match v_ with
 | (j,b0)=>(cond (decide (j<ZK)) (GL N m ZK Z_ j b0 (λmr=>GL N m ZK Z_ j b0 (λaan=>GL N m ZK acn j b0 (λZ1=>V7 N false false r r_1 r_2 r_3 (b0.getD Z1 ((false,[]),(false,[]))).1.1 (b0.getD Z1 ((false,[]),(false,[]))).1.2 (b0.getD Z1 ((false,[]),(false,[]))).2.1 (b0.getD Z1 ((false,[]),(false,[]))).2.2 (λcr nsr ZF ZC=>decide (aan=mr)&&V9 N (List.getD (b0.set Z1 (((b0.getD Z1 ((false,[]),(false,[]))).1.1,(b0.getD Z1 ((false,[]),(false,[]))).1.2),((b0.getD Z1 ((false,[]),(false,[]))).2.1,(b0.getD Z1 ((false,[]),(false,[]))).2.2))) mr ((false,[]),(false,[]))).1.1 (List.getD (b0.set Z1 (((b0.getD Z1 ((false,[]),(false,[]))).1.1,(b0.getD Z1 ((false,[]),(false,[]))).1.2),((b0.getD Z1 ((false,[]),(false,[]))).2.1,(b0.getD Z1 ((false,[]),(false,[]))).2.2))) mr ((false,[]),(false,[]))).1.2 (List.getD (b0.set Z1 (((b0.getD Z1 ((false,[]),(false,[]))).1.1,(b0.getD Z1 ((false,[]),(false,[]))).1.2),((b0.getD Z1 ((false,[]),(false,[]))).2.1,(b0.getD Z1 ((false,[]),(false,[]))).2.2))) mr ((false,[]),(false,[]))).2.1 (List.getD (b0.set Z1 (((b0.getD Z1 ((false,[]),(false,[]))).1.1,(b0.getD Z1 ((false,[]),(false,[]))).1.2),((b0.getD Z1 ((false,[]),(false,[]))).2.1,(b0.getD Z1 ((false,[]),(false,[]))).2.2))) mr ((false,[]),(false,[]))).2.2 cr nsr ZF ZC (λZT ZG Z4 ZJ=>af .i64 (j+1)&&K ((j+1),(List.set (b0.set Z1 (((b0.getD Z1 ((false,[]),(false,[]))).1.1,(b0.getD Z1 ((false,[]),(false,[]))).1.2),((b0.getD Z1 ((false,[]),(false,[]))).2.1,(b0.getD Z1 ((false,[]),(false,[]))).2.2))) mr ((ZT,ZG),(Z4,ZJ)))))))))) (e0 b0))
def Tu (N:Nat) (ZP ZE i k_:Int) (b:List RY1) (ZB:Bool) (ZH:LI) (ZW:Bool) (Z7:LI) (k0:List RY1->Bool):Bool:=
 (ah N (Ep N i k_ ZB ZH ZW Z7 ZP ZE (λ(aa4:List RY1)=>k0 aa4)) (0,b))
def Wa (N:Nat):Int->Int->Int->Int->List RY1->Bool->LI->Bool->LI->(List RY1->Bool)->Bool:=az N (Tu N)
def BO (N:Nat) (c_1 ZV ZY:Int) (ab7:List RY1) (e0:Kz2) (e1:Bool):(Int)->((Int)->Bool)->Bool:=λv_ K=>match v_ with
 | j=>(cond (decide (j<ZY)) (GL N ZV ZY c_1 j ab7 (λaan=>GG N (ab7.getD aan ((false,[]),(false,[]))).1.1 (ab7.getD aan ((false,[]),(false,[]))).1.2 (ab7.getD aan ((false,[]),(false,[]))).2.1 (ab7.getD aan ((false,[]),(false,[]))).2.2 (λZI=>cond (ZI != 0) (e0 1) (af .i64 (j+1)&&K (j+1))))) e1)
def BK (N:Nat) (acs c_2:Int) (d:Nat) (a_4 a_5:Int) (e0:List RY1->Bool):(Int × List RY1)->((Int × List RY1)->Bool)->Bool:=λv_ K=>match v_ with
 | (i,d_1)=>(cond (decide (i<a_4)) (GL N a_4 a_5 i c_2 d_1 (λZ1=>((!decide (d=Z1))&&true)&&V8 N false false (d_1.getD Z1 ((false,[]),(false,[]))).1.1 (d_1.getD Z1 ((false,[]),(false,[]))).1.2 (d_1.getD Z1 ((false,[]),(false,[]))).2.1 (d_1.getD Z1 ((false,[]),(false,[]))).2.2 (d_1.getD d ((false,[]),(false,[]))).1.1 (d_1.getD d ((false,[]),(false,[]))).1.2 (d_1.getD d ((false,[]),(false,[]))).2.1 (d_1.getD d ((false,[]),(false,[]))).2.2 (λcr nsr ZF ZC=>Wa N a_4 a_5 i c_2 (List.set (d_1.set d (((d_1.getD d ((false,[]),(false,[]))).1.1,(d_1.getD d ((false,[]),(false,[]))).1.2),((d_1.getD d ((false,[]),(false,[]))).2.1,(d_1.getD d ((false,[]),(false,[]))).2.2))) Z1 (((d_1.getD Z1 ((false,[]),(false,[]))).1.1,(d_1.getD Z1 ((false,[]),(false,[]))).1.2),((d_1.getD Z1 ((false,[]),(false,[]))).2.1,(d_1.getD Z1 ((false,[]),(false,[]))).2.2))) cr nsr ZF ZC (λ(ael:List RY1)=>af .i64 (i+1)&&K ((i+1),ael))))) (e0 d_1))
def BN (N:Nat) (a ZM:Int) (e0:Kz2) (e1:Kz2):(Int × Int × List RY1)->((Int × Int × List RY1)->Bool)->Bool:=λv_ K=>match v_ with
 | (sign,c,b1)=>(cond (decide (c<a)) (GL N a ZM c c b1 (λmr=>GG N (b1.getD mr ((false,[]),(false,[]))).1.1 (b1.getD mr ((false,[]),(false,[]))).1.2 (b1.getD mr ((false,[]),(false,[]))).2.1 (b1.getD mr ((false,[]),(false,[]))).2.2 (λnr=>cond (decide (nr<0)) (e0 1) (GG N (b1.getD mr ((false,[]),(false,[]))).1.1 (b1.getD mr ((false,[]),(false,[]))).1.2 (b1.getD mr ((false,[]),(false,[]))).2.1 (b1.getD mr ((false,[]),(false,[]))).2.2 (λZD=>cond (ZD==0) (af .i64 (c+1)&&ah N (BO N c a ZM b1 (λt2=>e0 t2) (af .i64 (c+1)&&K (2,(c+1),b1))) (c+1)) (af .i64 (c+1)&&ah N (BK N sign c mr a ZM (λ(aeK:List RY1)=>af .i64 (c+1)&&K (sign,(c+1),aeK))) ((c+1),b1))))))) (e1 sign))
def M3 (N:Nat) (ZP ZE:Int) (ZK:List RY2) (k0:Kz2):Bool:=
 (Wo N ZP ZE ZK (λ(lr:List RY1)=>ah N (BN N ZP ZE (λZ8=>k0 Z8) (λadY=>k0 adY)) (3,0,lr)))
def PI (N:Nat):Int->Int->List RY2->(Kz2)->Bool:=az N (M3 N)
def pn (N:Nat) (ZP ZE:Int) (ZK:LF) (k0:Ky3):Bool:=
 (lP N ZP ZE ZK (λnr=>cond (nr != 0) (k0 0 nr) (cond (ZP != ZE) (k0 0 3) (tn N ZP ZE ZK (λ(lr:List RY1)=>Wd N ZP ZE lr (λcr=>cond (!cr) (k0 0 112) (PI N ZP ZE lr (λZD=>k0 ZD 0))))))))
def vb (N:Nat):Int->Int->LF->(Ky3)->Bool:=az N (pn N)
def uM (N:Nat) (ZP ZE:Int) (ZK:LF) (k0:Ky3):Bool:=
 (vb N ZP ZE ZK (λnr ZD=>k0 nr ZD))
def pB (N:Nat):Int->Int->LF->(Ky3)->Bool:=uM N
def EK (N:Nat) (ZP ZE:Int) (ZK:LF) (i j:Int) (k0:Kz4):Bool:=
 (af .i64 (i*ZE)&&(af .i64 ((i*ZE)+j)&&(inR ((i*ZE)+j) ZK.length&&k0 (ZK.getD (Int.toNat ((i*ZE)+j)) none))))
def oi (N:Nat):Int->Int->LF->Int->Int->(Kz4)->Bool:=EK N
def vq (N:Nat) (a b:Fl) (k0:Kz1):Bool:=
 (og N a (λnr=>og N b (λZD=>k0 (nr==ZD))))
def re (N:Nat):Fl->Fl->(Kz1)->Bool:=az N (vq N)
def gv (N:Nat) (Z_ m_5 m_6:Int) (m_7:LF) (e0:Kz2) (e1:Bool):(Int)->((Int)->Bool)->Bool:=λv_ K=>match v_ with
 | j=>(cond (decide (j<Z_)) (oi N m_5 m_6 m_7 Z_ j (λxr=>oi N m_5 m_6 m_7 j Z_ (λaae=>re N xr aae (λcr=>cond (!cr) (e0 91) (af .i64 (j+1)&&K (j+1)))))) e1)
def gu (N:Nat) (m m_3:Int) (m_4:LF) (e0:Kz2) (e1:Bool):(Int)->((Int)->Bool)->Bool:=λv_ K=>match v_ with
 | i=>(cond (decide (i<m)) (ah N (gv N i m m_3 m_4 (λt2=>e0 t2) (af .i64 (i+1)&&K (i+1))) 0) e1)
def TD (N:Nat) (ZP ZE:Int) (ZK:LF) (k0:Kz2):Bool:=
 (lP N ZP ZE ZK (λnr=>cond (nr != 0) (k0 nr) (cond (ZP != ZE) (k0 3) (ah N (gu N ZP ZE ZK (λZ8=>k0 Z8) (k0 0)) 0))))
def R3 (N:Nat):Int->Int->LF->(Kz2)->Bool:=az N (TD N)
def GQ4 (N:Nat) (ZP ZE:Int) (ZK:LF) (k0:Kz1):Bool:=
 (pB N ZP ZE ZK (λnr ZD=>cond ((ZD==0)==true) (cond ((nr==3)==true) (R3 N ZP ZE ZK (λZI=>k0 (ZI==0))) (k0 false)) (k0 false)))
def sQ4 (N:Nat):Int->Int->LF->(Kz1)->Bool:=az N (GQ4 N)
def Sy (N:Nat) (i j:Int) (k0:Kz4):Bool:=
 (cond (i==j) (k0 (some 4607182418800017408)) (k0 (some 0)))
def PT (N:Nat):Int->Int->(Kz4)->Bool:=Sy N
def G0 (N:Nat) (aac i aai aaZ t21 aa7 aa8 ZK m_3:Int) (e0:Kz5):(Int × LF)->((Int × LF)->Bool)->Bool:=λv_ K=>match v_ with
 | (t22,aaV)=>(cond (decide (t22<t21)) (PT N i t22 (λxr=>decide ((List.length (aaV++[xr]))*8<=140737488355328)&&(af .i64 (t22+1)&&K ((t22+1),(aaV++[xr]))))) (e0 aaV))
def gp (N:Nat) (aah t17 t6 aaj m ZE:Int) (e0:Kz5):(Int × LF)->((Int × LF)->Bool)->Bool:=λv_ K=>match v_ with
 | (t18,b2)=>(cond (decide (t18<t17)) (ah N (G0 N aah t18 t17 t18 aah t6 aaj m ZE (λadQ=>af .i64 (t18+1)&&K ((t18+1),adQ))) (0,b2)) (e0 b2))
def M7 (N:Nat) (rows cols:Int) (k0:Kz5):Bool:=
 (af .i64 (rows*cols)&&(fY 8 0 (rows*cols)&&ah N (gp N cols rows 0 0 rows cols (λacR=>k0 acR)) (0,[])))
def PK (N:Nat):Int->Int->(Kz5)->Bool:=az N (M7 N)
def wz (N:Nat) (n:Int) (k0:Kz5):Bool:=
 (PK N n n (λxsr=>k0 xsr))
def xk (N:Nat):Int->(Kz5)->Bool:=wz N
def ww (N:Nat) (n:Int) (k0:Kx7):Bool:=
 (GN N n (λcr=>cond (!cr) (k0 0 0 [] 1) (xk N n (λxsr=>k0 n n xsr 0))))
def q_ (N:Nat):Int->(Kx7)->Bool:=ww N
def M8 (N:Nat) (is:Bool) (e:Int) (k0:Kz2):Bool:=
 (cond is (k0 e) (k0 0))
def GH (N:Nat):Bool->Int->(Kz2)->Bool:=M8 N
def pe (N:Nat) (t5:LI) (t6:Int) (e0:Kz2) (e1:Bool):(Int)->((Int)->Bool)->Bool:=λv_ K=>match v_ with
 | t7=>(cond (decide (t7<t6)) (inR t7 t5.length&&cond ((t5.getD t7.toNat 0) != 0) (e0 (t5.getD t7.toNat 0)) (af .i64 (t7+1)&&K (t7+1))) e1)
def MU (N:Nat) (l:LI) (k0:Kz2):Bool:=
 (ah N (pe N l ((l.length:Nat):Int) (λt2=>k0 t2) (k0 0)) 0)
def GF (N:Nat):LI->(Kz2)->Bool:=az N (MU N)
def jK (N:Nat) (j_2 abh m_5 m_6:Int) (m_7:LF) (e0:Kz5):(Int × LF)->((Int × LF)->Bool)->Bool:=λv_ K=>match v_ with
 | (acd,l)=>(cond (decide (acd<abh)) (zh N m_5 m_6 m_7 acd j_2 (λaae=>decide ((List.length (l++[aae]))*8<=140737488355328)&&(af .i64 (acd+1)&&K ((acd+1),(l++[aae]))))) (e0 l))
def qk (N:Nat) (ZP ZE:Int) (ZK:LF) (j:Int) (k0:Kz5):Bool:=
 (ah N (jK N j ZP ZP ZE ZK (λl_1=>k0 l_1)) (0,[]))
def xj (N:Nat):Int->Int->LF->Int->(Kz5)->Bool:=az N (qk N)
def nI (N:Nat) (ZP ZE:Int) (ZK:LF) (j:Int) (k0:Ky9):Bool:=
 (xj N ZP ZE ZK j (λxsr=>k0 xsr 0))
def qj (N:Nat) (ZP ZE:Int) (ZK:LF) (j:Int) (k0:Ky9):Bool:=
 (v7 N ZP ZE ZK (λnr=>cond ((decide (j<0))==false) (GH N (decide (j>=ZE)) 1 (λZD=>GF N [nr,ZD] (λZI=>cond (ZI != 0) (k0 [] ZI) (nI N ZP ZE ZK j k0)))) (GH N true 1 (λZX=>GF N [nr,ZX] (λZR=>cond (ZR != 0) (k0 [] ZR) (nI N ZP ZE ZK j k0))))))
def q9 (N:Nat):Int->Int->LF->Int->(Ky9)->Bool:=az N (qj N)
def cZ (N:Nat) (ZW:LF) (Z_ l_5 l_6:Int) (l_7 ZQ:LF) (e0:Ky4):(Fl × Int × Bool)->((Fl × Int × Bool)->Bool)->Bool:=λv_ K=>match v_ with
 | (t,k_,s_1)=>(cond (decide (k_<((ZW.length:Nat):Int))) (gJ N l_5 l_6 l_7 k_ Z_ (λxr=>inR k_ ZQ.length&&(decide (k_.toNat<ZQ.length)&&ca N xr (ZQ.getD k_.toNat none) s_1 (λaae cr=>dk N t aae cr (λaa2 ZF=>af .i64 (k_+1)&&K (aa2,(k_+1),ZF)))))) (e0 t s_1))
def eA (N:Nat) (ZH:LF) (l l_3:Int) (l_4:LF) (e0:Ky5):(Int × Bool × LF)->((Int × Bool × LF)->Bool)->Bool:=λv_ K=>match v_ with
 | (i,s,x)=>(cond (decide (i>=0)) (inR i ZH.length&&(af .i64 (i+1)&&ah N (cZ N ZH i l l_3 l_4 x (λt_1 s_2=>gJ N l l_3 l_4 i i (λaaz=>bV N (fdiv t_1 aaz) s_2 (λZT=>inR i x.length&&(decide (i.toNat<x.length)&&(af .i64 (i - 1)&&K ((i - 1),ZT,(x.set i.toNat (fdiv t_1 aaz))))))))) ((ZH.getD i.toNat none),(i+1),s))) (e0 s x))
def jM (N:Nat) (l_0 l_1:Int) (l_2 b:LF) (ZB:Bool) (k0:Ky6):Bool:=
 (fY 8 ((b.length:Nat):Int) ((b.length:Nat):Int)&&(af .i64 (((b.length:Nat):Int) - 1)&&ah N (eA N b l_0 l_1 l_2 (λb0 Z5=>k0 Z5 b0)) ((((b.length:Nat):Int) - 1),ZB,(List.replicate (Int.toNat ((b.length:Nat):Int)) (some 0)))))
def eh (N:Nat):Int->Int->LF->LF->Bool->(Ky6)->Bool:=az N (jM N)
def gk (N:Nat) (j adm adn:Int) (t76:LF) (t77 b_5 b_6:Int) (b_7:LF) (aa5 aa6 l_3 l_4:Int) (l_5:LF) (s_1:Bool) (aaa aao:Int) (e0:Kz5):(Int × LF)->((Int × LF)->Bool)->Bool:=λv_ K=>match v_ with
 | (t78,aba)=>(cond (decide (t78<t77)) (inR t78 t76.length&&(af .i64 (t78*b_6)&&(af .i64 ((t78*b_6)+j)&&(inR ((t78*b_6)+j) aba.length&&(decide ((Int.toNat ((t78*b_6)+j))<aba.length)&&(af .i64 (t78+1)&&K ((t78+1),(aba.set (Int.toNat ((t78*b_6)+j)) (t76.getD t78.toNat none))))))))) (e0 aba))
def ep (N:Nat) (t60 b ZW:Int) (Z7:LF) (t4 abg l l_1:Int) (l_2:LF) (out ZO:Int) (e0:Ky5):(Int × Bool × LF)->((Int × Bool × LF)->Bool)->Bool:=λv_ K=>match v_ with
 | (t61,s,b5)=>(cond (decide (t61<t60)) (q9 N b ZW Z7 t61 (λZ2 n6=>cF N l l_1 l_2 Z2 s (λaas cr=>eh N l l_1 l_2 aas cr (λacK ZF=>ah N (gk N t61 t60 t61 acK ((acK.length:Nat):Int) b ZW Z7 t4 abg l l_1 l_2 ZF out ZO (λabW=>af .i64 (t61+1)&&K ((t61+1),ZF,abW))) (0,b5))))) (e0 s b5))
def mK (N:Nat) (Z0 ZM:Int) (ZV:LF) (b_0 ZB:Int) (ZH:LF) (k0:Kx1):Bool:=
 (mF N Z0 ZM ZV (λnr=>cond (nr != 0) (k0 0 0 [] 0 nr) (v7 N b_0 ZB ZH (λZD=>cond (ZD != 0) (k0 0 0 [] 0 ZD) (cond (b_0 != Z0) (k0 0 0 [] 0 3) (mE N Z0 ZM ZV (λZI ZX xsr ZR n5=>cond (n5 != 0) (k0 0 0 [] ZR n5) (fY 8 ((ZH.length:Nat):Int) ((ZH.length:Nat):Int)&&ah N (ep N ZB b_0 ZB ZH 0 0 ZI ZX xsr b_0 ZB (λs_2 b3=>cond s_2 (k0 0 0 [] 0 5) (k0 b_0 ZB b3 0 0))) (0,false,(List.replicate (Int.toNat ((ZH.length:Nat):Int)) (some 0)))))))))))
def mT (N:Nat):Int->Int->LF->Int->Int->LF->(Kx1)->Bool:=az N (mK N)
def Su (N:Nat) (ZP ZE:Int) (ZK:LF) (k0:Kz2):Bool:=
 (v7 N ZP ZE ZK (λnr=>GH N (ZP != ZE) 3 (λZD=>GF N [nr,ZD] (λZI=>k0 ZI))))
def PQ (N:Nat):Int->Int->LF->(Kz2)->Bool:=Su N
def WK (N:Nat) (i j:Int) (k0:Kz4):Bool:=
 (k0 (some 0))
def SY (N:Nat):Int->Int->(Kz4)->Bool:=WK N
def BH (N:Nat) (aac i aai aaZ t21 aa7 aa8 ZK m_3:Int) (e0:Kz5):(Int × LF)->((Int × LF)->Bool)->Bool:=λv_ K=>match v_ with
 | (t22,aaV)=>(cond (decide (t22<t21)) (SY N i t22 (λxr=>decide ((List.length (aaV++[xr]))*8<=140737488355328)&&(af .i64 (t22+1)&&K ((t22+1),(aaV++[xr]))))) (e0 aaV))
def Ez (N:Nat) (aah t17 t6 aaj m ZE:Int) (e0:Kz5):(Int × LF)->((Int × LF)->Bool)->Bool:=λv_ K=>match v_ with
 | (t18,b2)=>(cond (decide (t18<t17)) (ah N (BH N aah t18 t17 t18 aah t6 aaj m ZE (λadQ=>af .i64 (t18+1)&&K ((t18+1),adQ))) (0,b2)) (e0 b2))
def Th (N:Nat) (rows cols:Int) (k0:Kz5):Bool:=
 (af .i64 (rows*cols)&&(fY 8 0 (rows*cols)&&ah N (Ez N cols rows 0 0 rows cols (λacR=>k0 acR)) (0,[])))
def V6 (N:Nat):Int->Int->(Kz5)->Bool:=az N (Th N)
def Sm (N:Nat) (i j b ZB:Int) (ZH:LF) (k0:Kz4):Bool:=
 (zh N b ZB ZH i j (λxr=>k0 xr))
def SS (N:Nat):Int->Int->Int->Int->LF->(Kz4)->Bool:=Sm N
def Eu (N:Nat) (n_2 i abk abE t17 abt abu:Int) (abv:LF) (aa5 aa6 ZK m_3:Int) (e0:Kz5):(Int × LF)->((Int × LF)->Bool)->Bool:=λv_ K=>match v_ with
 | (t18,abf)=>(cond (decide (t18<t17)) (SS N i t18 abt abu abv (λxr=>af .i64 (i*n_2)&&(af .i64 ((i*n_2)+t18)&&(af .i64 (t18*n_2)&&(af .i64 ((t18*n_2)+i)&&(inR ((i*n_2)+t18) abf.length&&(decide ((Int.toNat ((i*n_2)+t18))<abf.length)&&(inR ((t18*n_2)+i) (List.length (abf.set (Int.toNat ((i*n_2)+t18)) xr))&&(decide ((Int.toNat ((t18*n_2)+i))<(List.length (abf.set (Int.toNat ((i*n_2)+t18)) xr)))&&(af .i64 (t18+1)&&K ((t18+1),(List.set (abf.set (Int.toNat ((i*n_2)+t18)) xr) (Int.toNat ((t18*n_2)+i)) xr)))))))))))) (e0 abf))
def Et (N:Nat) (ZS t12 below abq:Int) (abr:LF) (t4 abg m ZE:Int) (e0:Kz5):(Int × LF)->((Int × LF)->Bool)->Bool:=λv_ K=>match v_ with
 | (t13,b3)=>(cond (decide (t13<t12)) (af .i64 (t13+1)&&ah N (Eu N ZS t13 t12 t13 (t13+1) below abq abr t4 abg m ZE (λac2=>af .i64 (t13+1)&&K ((t13+1),ac2))) (0,b3)) (e0 b3))
def TC (N:Nat) (n b ZB:Int) (ZH:LF) (k0:Kz5):Bool:=
 (V6 N n n (λxsr=>ah N (Et N n n b ZB ZH 0 0 n n (λadR=>k0 adR)) (0,xsr)))
def Wf (N:Nat):Int->Int->Int->LF->(Kz5)->Bool:=az N (TC N)
def M6 (N:Nat) (ZP ZE:Int) (ZK:LF) (k0:Kx7):Bool:=
 (PQ N ZP ZE ZK (λnr=>cond (nr != 0) (k0 0 0 [] nr) (Wf N ZP ZP ZE ZK (λxsr=>k0 ZP ZP xsr 0))))
def PJ (N:Nat):Int->Int->LF->(Kx7)->Bool:=az N (M6 N)
def nG (N:Nat) (Z0 ZM:Int) (ZV:LF) (k0:Kx1):Bool:=
 (l4 N Z0 ZM ZV (λnr=>cond (nr != 0) (k0 0 0 [] 0 nr) (q_ N Z0 (λZD ZI xsr ZX=>mT N Z0 ZM ZV ZD ZI xsr (λZR n5 Z2 n6 n7=>cond (n7 != 0) (k0 0 0 [] n6 n7) (PJ N ZR n5 Z2 (λn8 n9 aas n10=>k0 n8 n9 aas 0 n10)))))))
def oe (N:Nat):Int->Int->LF->(Kx1)->Bool:=az N (nG N)
def qg (N:Nat) (Z0 ZM:Int) (ZV b:LF) (k0:LF->Int->Int->Bool):Bool:=
 (mF N Z0 ZM ZV (λnr=>cond (nr != 0) (k0 [] 0 nr) (oX N Z0 b (λZD=>cond (ZD != 0) (k0 [] 0 ZD) (mE N Z0 ZM ZV (λZI ZX xsr ZR n5=>cond (n5 != 0) (k0 [] ZR n5) (cF N ZI ZX xsr b false (λZ2 cr=>eh N ZI ZX xsr Z2 cr (λaas ZF=>cond ZF (k0 [] 0 5) (k0 aas 0 0))))))))))
def q8 (N:Nat):Int->Int->LF->LF->(LF->Int->Int->Bool)->Bool:=az N (qg N)
def qi (N:Nat) (Z0 ZM:Int) (ZV ZY:LF) (k0:LF->Int->Int->LF->Int->Bool):Bool:=
 (gf N Z0 ZM ZV ZY (λnr=>cond (nr != 0) (k0 [] 0 0 [] nr) (oe N Z0 ZM ZV (λZD ZI xsr ZX ZR=>cond (ZR != 0) (k0 [] 0 0 [] ZR) (bM N ZD ZI xsr (λcr=>cond (!cr) (k0 [] 0 0 [] 151) (q8 N Z0 ZM ZV ZY (λZ2 n5 n6=>cond (n6 != 0) (k0 [] 0 0 [] n6) (k0 Z2 ZD ZI xsr 0)))))))))
def i5 (N:Nat):Int->Int->LF->LF->(LF->Int->Int->LF->Int->Bool)->Bool:=az N (qi N)
def dL (N:Nat) (ZS i abF abG t50 a_7 a_8:Int) (a_9 ack:LF) (e0:Kz2) (e1:Bool):(Int)->((Int)->Bool)->Bool:=λv_ K=>match v_ with
 | t51=>(cond (decide (t51<t50)) (af .i64 (i*ZS)&&(af .i64 ((i*ZS)+t51)&&(inR ((i*ZS)+t51) a_9.length&&zd N (a_9.getD (Int.toNat ((i*ZS)+t51)) none) (λZD=>cond (ZD != 0) (e0 171) (af .i64 (t51+1)&&K (t51+1)))))) e1)
def dK (N:Nat) (n t34 a a_4:Int) (a_5 a_6:LF) (e0:Kz2) (e1:Bool):(Int)->((Int)->Bool)->Bool:=λv_ K=>match v_ with
 | t35=>(cond (decide (t35<t34)) (af .i64 (t35*n)&&(af .i64 ((t35*n)+t35)&&(inR ((t35*n)+t35) a_5.length&&cond (!(fgt (a_5.getD (Int.toNat ((t35*n)+t35)) none) (some 0))) (e0 171) (ah N (dL N n t35 t34 t35 t35 a a_4 a_5 a_6 (λt2=>e0 t2) (af .i64 (t35+1)&&K (t35+1))) 0)))) e1)
def lB (N:Nat) (Z0 ZM:Int) (ZV ZY:LF) (k0:Kz2):Bool:=
 (v7 N Z0 ZM ZV (λnr=>cond (nr != 0) (k0 nr) (cond ((Z0 != ZM)==false) (cond (((ZY.length:Nat):Int) != Z0) (k0 3) (u_ N ZY (λcr=>cond (!cr) (k0 4) (ah N (dK N Z0 Z0 Z0 ZM ZV ZY (λZ8=>k0 Z8) (k0 0)) 0)))) (k0 3))))
def iZ (N:Nat):Int->Int->LF->LF->(Kz2)->Bool:=az N (lB N)
abbrev cz:=LF->(Kz5)->Bool
def aO (N:Nat):cz:=λx k=>(decide (x.length*8<=140737488355328))&&k x
def eD (N:Nat) (r_0 r_1 a b:Fl) (ZB:Bool) (k0:Fl->Fl->Bool->Bool):Bool:=
 (te N r_0 a ZB (λxr cr=>te N r_1 b cr (λaae ZF=>mR N (kl xr aae) ZF (λZT=>te N r_0 b ZT (λaa2 Z4=>te N r_1 a Z4 (λaaz aa1=>mR N (wN aa2 aaz) aa1 (λaaW=>k0 (kl xr aae) (wN aa2 aaz) aaW)))))))
def cX (N:Nat):Fl->Fl->Fl->Fl->Bool->(Fl->Fl->Bool->Bool)->Bool:=az N (eD N)
def dn (N:Nat) (h_1:LF) (z_1:Fl) (n:Int) (d:Fl) (t60 t8 abh out ZO:Int) (b4 b5:LF) (e0:Ky5):(Int × Bool × LF)->((Int × Bool × LF)->Bool)->Bool:=λv_ K=>match v_ with
 | (t61,abj,w)=>(cond (decide (t61<t60)) (inR t61 h_1.length&&mR N (fdiv (h_1.getD t61.toNat none) d) abj (λcr=>inR t61 w.length&&(decide (t61.toNat<w.length)&&(af .i64 (t61+1)&&K ((t61+1),cr,(w.set t61.toNat (fdiv (h_1.getD t61.toNat none) d))))))) (e0 abj w))
def bd (N:Nat) (n_2:Int) (aar:Fl) (i ado adp ad5 ad6 abB abC:Int) (t t_1:Fl) (b6:LF) (e0:Bool->LF->LF->Bool):(Int × Bool × LF × LF)->((Int × Bool × LF × LF)->Bool)->Bool:=λv_ K=>match v_ with
 | (j,abx,w_3,abW)=>(cond (decide (j<n_2)) (af .i64 (i*n_2)&&(af .i64 ((i*n_2)+j)&&(af .i64 (i*n_2)&&(af .i64 ((i*n_2)+j)&&(inR ((i*n_2)+j) abW.length&&(decide ((Int.toNat ((i*n_2)+j))<abW.length)&&(inR j w_3.length&&(decide (j.toNat<w_3.length)&&cX N t t_1 (abW.getD (Int.toNat ((i*n_2)+j)) none) (w_3.getD j.toNat none) abx (λadG ach c8=>inR ((i*n_2)+j) abW.length&&(decide ((Int.toNat ((i*n_2)+j))<abW.length)&&(inR j w_3.length&&(decide (j.toNat<w_3.length)&&(af .i64 (j+1)&&K ((j+1),c8,(w_3.set j.toNat ach),(abW.set (Int.toNat ((i*n_2)+j)) adG))))))))))))))) (e0 abx w_3 abW))
def bC (N:Nat) (ZS t81 adA adB aaa aao:Int) (e0:Fl->Int->Int->Int->Bool) (e1:Fl->Bool->LF->LF->Bool):(Fl × Int × Bool × LF × LF × LF)->((Fl × Int × Bool × LF × LF × LF)->Bool)->Bool:=λv_ K=>match v_ with
 | (rest,t82,abb,w_2,aat,aba)=>(cond (decide (t82<t81)) (inR t82 w_2.length&&(decide (t82.toNat<w_2.length)&&cond (feq (w_2.getD t82.toNat none) (some 0)) (af .i64 (t82+1)&&K (rest,(t82+1),abb,w_2,aat,aba)) (af .i64 (t82*ZS)&&(af .i64 ((t82*ZS)+t82)&&(inR ((t82*ZS)+t82) aat.length&&(decide ((Int.toNat ((t82*ZS)+t82))<aat.length)&&te N (aat.getD (Int.toNat ((t82*ZS)+t82)) none) (aat.getD (Int.toNat ((t82*ZS)+t82)) none) abb (λaae ZT=>inR t82 w_2.length&&(decide (t82.toNat<w_2.length)&&(inR t82 w_2.length&&(decide (t82.toNat<w_2.length)&&te N (w_2.getD t82.toNat none) (w_2.getD t82.toNat none) ZT (λaa2 Z4=>mR N (kl aae aa2) Z4 (λaa1=>pZ N (kl aae aa2) (λaaz=>mR N aaz aa1 (λaaW=>Cd N aaW (cond aaW (e0 (some 0) 5 0 0) (cond (!(fgt aaz (some 0))) (e0 (some 0) 171 0 0) (mR N (fdiv (aat.getD (Int.toNat ((t82*ZS)+t82)) none) aaz) aaW (λabz=>inR t82 w_2.length&&(decide (t82.toNat<w_2.length)&&mR N (fdiv (w_2.getD t82.toNat none) aaz) abz (λabA=>af .i64 (t82*ZS)&&(af .i64 ((t82*ZS)+t82)&&(inR ((t82*ZS)+t82) aat.length&&(decide ((Int.toNat ((t82*ZS)+t82))<aat.length)&&(af .i64 (t82+1)&&ah N (bd N ZS rest t82 t81 t82 adA adB aaa aao (fdiv (aat.getD (Int.toNat ((t82*ZS)+t82)) none) aaz) (fdiv (w_2.getD t82.toNat none) aaz) aba (λadz w_4 aeP=>inR t82 aba.length&&(decide (t82.toNat<aba.length)&&cX N (fdiv (aat.getD (Int.toNat ((t82*ZS)+t82)) none) aaz) (fdiv (w_2.getD t82.toNat none) aaz) (aba.getD t82.toNat none) rest adz (λad9 aev c9=>inR t82 aba.length&&(decide (t82.toNat<aba.length)&&(af .i64 (t82+1)&&K (aev,(t82+1),c9,w_4,aeP,(aba.set t82.toNat ad9)))))))) ((t82+1),abA,w_2,(aat.set (Int.toNat ((t82*ZS)+t82)) aaz)))))))))))))))))))))))))) (e1 rest abb aat aba))
def kd (N:Nat) (Z0 ZM:Int) (ZV ZY h:LF) (r z:Fl) (k0:Int->Int->LF->LF->Fl->Int->Bool):Bool:=
 (iZ N Z0 ZM ZV ZY (λnr=>cond (nr != 0) (k0 0 0 [] [] (some 0) nr) (oY N ((ZY.length:Nat):Int) h r z (λZD=>cond (ZD != 0) (k0 0 0 [] [] (some 0) ZD) (pZ N r (λxr=>aO N ZV (λxsr=>aO N ZY (λZ2=>fY 8 ((ZY.length:Nat):Int) ((ZY.length:Nat):Int)&&ah N (dn N h z ((ZY.length:Nat):Int) xr ((ZY.length:Nat):Int) 0 0 ((ZY.length:Nat):Int) ((ZY.length:Nat):Int) xsr Z2 (λaa0 w_1=>mR N (fdiv z xr) aa0 (λZF=>ah N (bC N ((ZY.length:Nat):Int) ((ZY.length:Nat):Int) 0 0 ((ZY.length:Nat):Int) ((ZY.length:Nat):Int) (λt9 t10 aeV aeW=>k0 aeV aeW [] [] t9 t10) (λadX acD b3 abV=>Cd N acD (cond acD (k0 0 0 [] [] (some 0) 5) (k0 ((ZY.length:Nat):Int) ((ZY.length:Nat):Int) b3 abV adX 0)))) ((fdiv z xr),0,ZF,w_1,xsr,Z2)))) (0,false,(List.replicate (Int.toNat ((ZY.length:Nat):Int)) (some 0)))))))))))
def cJ (N:Nat):Int->Int->LF->LF->LF->Fl->Fl->(Int->Int->LF->LF->Fl->Int->Bool)->Bool:=az N (kd N)
def Hi (N:Nat) (ZP ZE:Int) (ZK:LF) (k0:Kz2):Bool:=
 (lP N ZP ZE ZK (λnr=>k0 nr))
def Bx (N:Nat):Int->Int->LF->(Kz2)->Bool:=Hi N
def zX (N:Nat) (rows cols:Int) (k0:Kz5):Bool:=
 (af .i64 (rows*cols)&&(fY 8 (rows*cols) (rows*cols)&&k0 (List.replicate (Int.toNat (rows*cols)) (some 0))))
def wh (N:Nat):Int->Int->(Kz5)->Bool:=zX N
def yy (N:Nat) (ZP ZE i j:Int) (x:Fl) (b:LF) (k0:Kz5):Bool:=
 (af .i64 (i*ZE)&&(af .i64 ((i*ZE)+j)&&(inR ((i*ZE)+j) b.length&&(decide ((Int.toNat ((i*ZE)+j))<b.length)&&k0 (b.set (Int.toNat ((i*ZE)+j)) x)))))
def tw (N:Nat):Int->Int->Int->Int->Fl->LF->(Kz5)->Bool:=yy N
def ma (N:Nat) (Z_ m_5 m_6:Int) (m_7:LF) (aaI aaJ t_2 t_3:Int) (e0:Kz5):(Int × LF)->((Int × LF)->Bool)->Bool:=λv_ K=>match v_ with
 | (j,abf)=>(cond (decide (j<m_6)) (oi N m_5 m_6 m_7 Z_ j (λxr=>tw N t_2 t_3 j Z_ xr abf (λZ2=>af .i64 (j+1)&&K ((j+1),Z2)))) (e0 abf))
def l_ (N:Nat) (m m_3:Int) (m_4:LF) (t2 Z8 t t_1:Int) (e0:Kz5):(Int × LF)->((Int × LF)->Bool)->Bool:=λv_ K=>match v_ with
 | (i,b3)=>(cond (decide (i<m)) (ah N (ma N i m m_3 m_4 t2 Z8 t t_1 (λac2=>af .i64 (i+1)&&K ((i+1),ac2))) (0,b3)) (e0 b3))
def vu (N:Nat) (ZP ZE:Int) (ZK:LF) (k0:Kz5):Bool:=
 (wh N ZE ZP (λxsr=>ah N (l_ N ZP ZE ZK 0 0 ZE ZP (λb2=>k0 b2)) (0,xsr)))
def rg (N:Nat):Int->Int->LF->(Kz5)->Bool:=az N (vu N)
def BM (N:Nat) (Z_ m_5 m_6:Int) (m_7:LF) (e0:Kz2) (e1:Bool):(Int)->((Int)->Bool)->Bool:=λv_ K=>match v_ with
 | j=>(cond (decide (j<m_6)) (oi N m_5 m_6 m_7 Z_ j (λaae=>re N aae (some 0) (λcr=>cond (!cr) (e0 93) (af .i64 (j+1)&&K (j+1))))) e1)
def ii (N:Nat) (m m_3:Int) (m_4:LF) (e0:Kz2) (e1:Bool):(Int)->((Int)->Bool)->Bool:=λv_ K=>match v_ with
 | i=>(cond (decide (i<m)) (oi N m m_3 m_4 i i (λxr=>cond (!(fgt xr (some 0))) (e0 93) (af .i64 (i+1)&&ah N (BM N i m m_3 m_4 (λt2=>e0 t2) (af .i64 (i+1)&&K (i+1))) (i+1)))) e1)
def I5 (N:Nat) (ZP ZE:Int) (ZK:LF) (k0:Kz2):Bool:=
 (lP N ZP ZE ZK (λnr=>cond (nr != 0) (k0 nr) (cond (ZP != ZE) (k0 3) (ah N (ii N ZP ZE ZK (λZ8=>k0 Z8) (k0 0)) 0))))
def GC (N:Nat):Int->Int->LF->(Kz2)->Bool:=az N (I5 N)
def TE (N:Nat) (Z0 ZM:Int) (ZV ZY:LF) (k0:Kz2):Bool:=
 (Bx N Z0 ZM ZV (λnr=>cond (nr != 0) (k0 nr) (cond ((Z0 != ZM)==false) (cond (((ZY.length:Nat):Int) != Z0) (k0 3) (JY N ZY (λcr=>cond (!cr) (k0 4) (rg N Z0 ZM ZV (λxsr=>GC N ZM Z0 xsr (λZD=>cond (ZD != 0) (k0 171) (k0 0))))))) (k0 3))))
def IK (N:Nat):Int->Int->LF->LF->(Kz2)->Bool:=az N (TE N)
def fV (N:Nat) (n_2 Z_ j adi adj abF abG t39 l_8 l_9:Int) (ac5:LF) (adZ ad0 abB abC:Int) (abV:LF) (e0:Ky4):(Fl × Int × Bool)->((Fl × Int × Bool)->Bool)->Bool:=λv_ K=>match v_ with
 | (t,t40,s_2)=>(cond (decide (t40<t39)) (gJ N l_8 l_9 ac5 Z_ t40 (λxr=>gJ N l_8 l_9 ac5 j t40 (λaae=>ca N xr aae s_2 (λaa2 cr=>bV N (kl t aa2) cr (λZF=>af .i64 (t40+1)&&K ((kl t aa2),(t40+1),ZF)))))) (e0 t s_2))
def i8 (N:Nat) (ZS i abm abn t34 l_5 l_6:Int) (l_7:LF) (aaI aaJ aaa aao:Int) (e0:Ky5):(Int × Bool × LF)->((Int × Bool × LF)->Bool)->Bool:=λv_ K=>match v_ with
 | (t35,s_1,aat)=>(cond (decide (t35<t34)) (af .i64 (t35+1)&&ah N (fV N ZS i t35 abm abn t34 t35 (t35+1) l_5 l_6 l_7 aaI aaJ aaa aao aat (λt_1 s_3=>af .i64 (i*ZS)&&(af .i64 ((i*ZS)+t35)&&(af .i64 (t35*ZS)&&(af .i64 ((t35*ZS)+i)&&(inR ((i*ZS)+t35) aat.length&&(decide ((Int.toNat ((i*ZS)+t35))<aat.length)&&(inR ((t35*ZS)+i) (List.length (aat.set (Int.toNat ((i*ZS)+t35)) t_1))&&(decide ((Int.toNat ((t35*ZS)+i))<(List.length (aat.set (Int.toNat ((i*ZS)+t35)) t_1)))&&(af .i64 (t35+1)&&K ((t35+1),s_3,(List.set (aat.set (Int.toNat ((i*ZS)+t35)) t_1) (Int.toNat ((t35*ZS)+i)) t_1)))))))))))) ((some 0),0,s_1)) (e0 s_1 aat))
def i7 (N:Nat) (n t29 l l_3:Int) (l_4:LF) (t2 Z8 out ZO:Int) (e0:Ky5):(Int × Bool × LF)->((Int × Bool × LF)->Bool)->Bool:=λv_ K=>match v_ with
 | (t30,s,b4)=>(cond (decide (t30<t29)) (af .i64 (t30+1)&&ah N (i8 N n t30 t29 t30 (t30+1) l l_3 l_4 t2 Z8 out ZO (λs_4 aeO=>af .i64 (t30+1)&&K ((t30+1),s_4,aeO))) (0,s,b4)) (e0 s b4))
def ph (N:Nat) (l_0 l_1:Int) (l_2:LF) (k0:Kx7):Bool:=
 (jJ N l_0 l_1 l_2 (λnr=>cond (nr != 0) (k0 0 0 [] nr) (af .i64 (l_0*l_0)&&(fY 8 (l_0*l_0) (l_0*l_0)&&ah N (i7 N l_0 l_0 l_0 l_1 l_2 0 0 l_0 l_0 (λs_5 b3=>cond s_5 (k0 0 0 [] 5) (k0 l_0 l_0 b3 0))) (0,false,(List.replicate (Int.toNat (l_0*l_0)) (some 0)))))))
def pw (N:Nat):Int->Int->LF->(Kx7)->Bool:=az N (ph N)
def vk (N:Nat) (ZP ZE:Int) (ZK:LF) (i:Int) (k0:Kz5):Bool:=
 (af .i64 (i*ZE)&&(af .i64 (i+1)&&(af .i64 ((i+1)*ZE)&&(decide (0<=(i*ZE)/\(i*ZE)<=((i+1)*ZE)/\((i+1)*ZE)<=((ZK.length:Nat):Int))&&k0 (List.drop (Int.toNat (i*ZE)) (List.take (Int.toNat ((i+1)*ZE)) ZK))))))
def wb (N:Nat):Int->Int->LF->Int->(Kz5)->Bool:=az N (vk N)
def kX (N:Nat) (ZH t10:LF) (t11:Int) (e0:Ky4):(Fl × Int × Bool)->((Fl × Int × Bool)->Bool)->Bool:=λv_ K=>match v_ with
 | (t,t12,s)=>(cond (decide (t12<t11)) (inR t12 t10.length&&(inR t12 ZH.length&&te N (t10.getD t12.toNat none) (ZH.getD t12.toNat none) s (λxr cr=>mR N (kl t xr) cr (λZF=>af .i64 (t12+1)&&K ((kl t xr),(t12+1),ZF))))) (e0 t s))
def Ni (N:Nat) (a b:LF) (ZB:Bool) (k0:Ky4):Bool:=
 (ah N (kX N b a ((a.length:Nat):Int) (λt_1 b0=>k0 t_1 b0)) ((some 0),0,ZB))
def PR (N:Nat):LF->LF->Bool->(Ky4)->Bool:=az N (Ni N)
def jN (N:Nat) (y_0 Z3:Int) (y_2:LF) (b:Bool) (ZB:LF) (k0:Ky0) (k1:Kz2):Bool:=
 (Cd N b (cond b (k0 0 0 5) (bM N y_0 Z3 y_2 (λcr=>cond (!cr) (k0 0 0 170) (k1 0)))))
def gj (N:Nat):Int->Int->LF->Bool->LF->(Ky0)->(Kz2)->Bool:=az N (jN N)
def dU (N:Nat) (t40 a a_4:Int) (a_5 a_6:LF) (t2 Z8 l l_1:Int) (l_2:LF) (y Z3:Int) (y_2:LF) (e0:Ky5):(Int × Bool × LF)->((Int × Bool × LF)->Bool)->Bool:=λv_ K=>match v_ with
 | (t41,abj,v)=>(cond (decide (t41<t40)) (wb N l l_1 l_2 t41 (λaas=>af .i64 (t41+1)&&(decide (0<=(t41+1)/\(t41+1)<=((aas.length:Nat):Int))&&PR N (List.drop 0 (List.take (Int.toNat (t41+1)) aas)) a_6 abj (λxr cr=>inR t41 v.length&&(decide (t41.toNat<v.length)&&(af .i64 (t41+1)&&K ((t41+1),cr,(v.set t41.toNat xr)))))))) (e0 abj v))
def lT (N:Nat) (Z0 ZM:Int) (ZV ZY:LF) (k0:Kx2):Bool:=
 (iZ N Z0 ZM ZV ZY (λnr=>cond (nr != 0) (k0 0 0 [] [] nr) (PW N Z0 ZM ZV (λZD ZI xsr ZX=>pw N ZD ZI xsr (λZR n5 Z2 n6=>cond (n6 != 0) (k0 0 0 [] [] n6) (fY 8 ((ZY.length:Nat):Int) ((ZY.length:Nat):Int)&&ah N (dU N (((List.length (List.replicate (Int.toNat ((ZY.length:Nat):Int)) (some 0))):Nat):Int) Z0 ZM ZV ZY 0 0 ZD ZI xsr ZR n5 Z2 (λaa0 v_1=>gj N ZR n5 Z2 aa0 v_1 (λn7 n8 n9=>k0 n7 n8 [] [] n9) (λn10=>k0 ZR n5 Z2 v_1 n10))) (0,false,(List.replicate (Int.toNat ((ZY.length:Nat):Int)) (some 0)))))))))
def bN (N:Nat):Int->Int->LF->LF->(Kx2)->Bool:=az N (lT N)
def Kb (N:Nat) (rooted:Bool) (t46:List RY3) (t47:Int) (e0:Kz1) (e1:Bool):(Int × Int × Int × LF × LF × Int × Int × LF × LF)->((Int × Int × Int × LF × LF × Int × Int × LF × LF)->Bool)->Bool:=λv_ K=>match v_ with
 | (t48,a,ZM,ZV,ZY,o,o_1,o_2,o_3)=>(cond (decide (t48<t47)) (inR t48 t46.length&&oh N (t46.getD t48.toNat ([],(0,0))).1 (λaci=>xe N (t46.getD t48.toNat ([],(0,0))).2.1 (λxr=>xe N (t46.getD t48.toNat ([],(0,0))).2.2 (λaae=>px N a ZM ZV ZY aci xr aae (λZR n5 aaK aaP n6=>cond (n6==0) (sQ4 N ZR n5 aaK (λZT=>cond ((!ZT)==false) (gf N ZR n5 aaK aaP (λn7=>cond (n7 != 0) (e0 false) (i5 N ZR n5 aaK aaP (λae6 n8 n9 aew n10=>cond ((n10==0)==true) (sQ4 N n8 n9 aew (λZ4=>cond (!Z4) (e0 false) (cond rooted (xe N (t46.getD t48.toNat ([],(0,0))).2.1 (λaa2=>xe N (t46.getD t48.toNat ([],(0,0))).2.2 (λaaz=>cJ N o o_1 o_2 o_3 aci aa2 aaz (λn11 n12 acL ab1 adG n13=>cond (n13==0) (IK N n11 n12 acL ab1 (λn14=>cond (n14 != 0) (e0 false) (bN N n11 n12 acL ab1 (λn15 n16 y11 y12 n17=>cond ((n17==0)==true) (sQ4 N n15 n16 y11 (λaa1=>cond (!aa1) (e0 false) (af .i64 (t48+1)&&K ((t48+1),ZR,n5,aaK,aaP,n11,n12,acL,ab1)))) (af .i64 (t48+1)&&K ((t48+1),ZR,n5,aaK,aaP,n11,n12,acL,ab1)))))) (bN N o o_1 o_2 o_3 (λn18 n19 y13 y14 n20=>cond ((n20==0)==true) (sQ4 N n18 n19 y13 (λaaW=>cond (!aaW) (e0 false) (af .i64 (t48+1)&&K ((t48+1),ZR,n5,aaK,aaP,o,o_1,o_2,o_3)))) (af .i64 (t48+1)&&K ((t48+1),ZR,n5,aaK,aaP,o,o_1,o_2,o_3)))))))) (af .i64 (t48+1)&&K ((t48+1),ZR,n5,aaK,aaP,o,o_1,o_2,o_3))))) (cond rooted (xe N (t46.getD t48.toNat ([],(0,0))).2.1 (λach=>xe N (t46.getD t48.toNat ([],(0,0))).2.2 (λad9=>cJ N o o_1 o_2 o_3 aci ach ad9 (λn21 n22 y15 y16 aev n23=>cond (n23==0) (IK N n21 n22 y15 y16 (λn24=>cond (n24 != 0) (e0 false) (bN N n21 n22 y15 y16 (λn25 n26 y17 y18 n27=>cond ((n27==0)==true) (sQ4 N n25 n26 y17 (λabz=>cond (!abz) (e0 false) (af .i64 (t48+1)&&K ((t48+1),ZR,n5,aaK,aaP,n21,n22,y15,y16)))) (af .i64 (t48+1)&&K ((t48+1),ZR,n5,aaK,aaP,n21,n22,y15,y16)))))) (bN N o o_1 o_2 o_3 (λn28 n29 y19 y20 n30=>cond ((n30==0)==true) (sQ4 N n28 n29 y19 (λabA=>cond (!abA) (e0 false) (af .i64 (t48+1)&&K ((t48+1),ZR,n5,aaK,aaP,o,o_1,o_2,o_3)))) (af .i64 (t48+1)&&K ((t48+1),ZR,n5,aaK,aaP,o,o_1,o_2,o_3)))))))) (af .i64 (t48+1)&&K ((t48+1),ZR,n5,aaK,aaP,o,o_1,o_2,o_3))))))) (e0 false))) (i5 N a ZM ZV ZY (λy21 n31 n32 y22 n33=>cond ((n33==0)==true) (sQ4 N n31 n32 y22 (λc8=>cond (!c8) (e0 false) (cond rooted (xe N (t46.getD t48.toNat ([],(0,0))).2.1 (λae1=>xe N (t46.getD t48.toNat ([],(0,0))).2.2 (λae2=>cJ N o o_1 o_2 o_3 aci ae1 ae2 (λn34 n35 y23 y24 ae4 n36=>cond (n36==0) (IK N n34 n35 y23 y24 (λn37=>cond (n37 != 0) (e0 false) (bN N n34 n35 y23 y24 (λn38 n39 y25 y26 n40=>cond ((n40==0)==true) (sQ4 N n38 n39 y25 (λc9=>cond (!c9) (e0 false) (af .i64 (t48+1)&&K ((t48+1),a,ZM,ZV,ZY,n34,n35,y23,y24)))) (af .i64 (t48+1)&&K ((t48+1),a,ZM,ZV,ZY,n34,n35,y23,y24)))))) (bN N o o_1 o_2 o_3 (λn41 n42 y27 y28 n43=>cond ((n43==0)==true) (sQ4 N n41 n42 y27 (λc10=>cond (!c10) (e0 false) (af .i64 (t48+1)&&K ((t48+1),a,ZM,ZV,ZY,o,o_1,o_2,o_3)))) (af .i64 (t48+1)&&K ((t48+1),a,ZM,ZV,ZY,o,o_1,o_2,o_3)))))))) (af .i64 (t48+1)&&K ((t48+1),a,ZM,ZV,ZY,o,o_1,o_2,o_3))))) (cond rooted (xe N (t46.getD t48.toNat ([],(0,0))).2.1 (λaet=>xe N (t46.getD t48.toNat ([],(0,0))).2.2 (λaeu=>cJ N o o_1 o_2 o_3 aci aet aeu (λn44 n45 y29 y30 ae5 n46=>cond (n46==0) (IK N n44 n45 y29 y30 (λn47=>cond (n47 != 0) (e0 false) (bN N n44 n45 y29 y30 (λn48 n49 y31 y32 n50=>cond ((n50==0)==true) (sQ4 N n48 n49 y31 (λc11=>cond (!c11) (e0 false) (af .i64 (t48+1)&&K ((t48+1),a,ZM,ZV,ZY,n44,n45,y29,y30)))) (af .i64 (t48+1)&&K ((t48+1),a,ZM,ZV,ZY,n44,n45,y29,y30)))))) (bN N o o_1 o_2 o_3 (λn51 n52 y33 y34 n53=>cond ((n53==0)==true) (sQ4 N n51 n52 y33 (λc12=>cond (!c12) (e0 false) (af .i64 (t48+1)&&K ((t48+1),a,ZM,ZV,ZY,o,o_1,o_2,o_3)))) (af .i64 (t48+1)&&K ((t48+1),a,ZM,ZV,ZY,o,o_1,o_2,o_3)))))))) (af .i64 (t48+1)&&K ((t48+1),a,ZM,ZV,ZY,o,o_1,o_2,o_3)))))))))) e1)
def GQ1 (N:Nat) (v:LI) (n:Int) (y:LI) (l:List RY3) (k0:Kz1):Bool:=
 (Wl N v n n y (λxsr Z2=>gf N n n xsr Z2 (λnr=>cond ((nr != 0)==false) (cond (decide (((l.length:Nat):Int)>20)) (sQ0 N (λcr=>k0 cr)) (l5 N n n xsr Z2 (λZD ZI aas acK ZX=>ah N (Kb N (ZX==0) l ((l.length:Nat):Int) (λt8=>k0 t8) (sQ0 N (λc13=>k0 c13))) (0,n,n,xsr,Z2,ZD,ZI,aas,acK)))) (sQ0 N (λZF=>k0 ZF)))))
def sQ1 (N:Nat):LI->Int->LI->List RY3->(Kz1)->Bool:=GQ1 N
end Go.Proofs.YtdinakfmablagaaGreatDoor
