/- The program's functions and their ties. Conditions: none. -/
import Derived.Test.YtdinakfmablagaaGreatDoorMachT
set_option linter.unusedVariables false
namespace Go.Proofs.YtdinakfmablagaaGreatDoor
open Go Go.Mach
abbrev LI:=List Int
abbrev LF:=List Fl
abbrev Kx0:=Int->Int->Int->Int->Bool->Bool
abbrev Kx1:=Int->Int->LF->Int->Int->Bool
abbrev Kx2:=Int->Int->LF->LF->Int->Bool
abbrev Kx3:=LF->Int->Int->LF->Int->Bool
abbrev Kx4:=Bool->Int->Int->Int->Bool
abbrev Kx5:=Bool->LI->Bool->LI->Bool
abbrev Kx6:=Int->Int->Bool->LF->Bool
abbrev Kx7:=Int->Int->Int->Int->Bool
abbrev Kx8:=Int->Int->LF->Int->Bool
abbrev Kx9:=Bool->Int->Int->Bool
abbrev Ky0:=Bool->Nat->Nat->Bool
abbrev Ky1:=Int->Int->Int->Bool
abbrev Ky2:=LF->Int->Int->Bool
abbrev Ky3:=Bool->Bool->Bool
abbrev Ky4:=Bool->LI->Bool
abbrev Ky5:=Int->Int->Bool
abbrev Ky6:=Fl->Bool->Bool
abbrev Ky7:=Bool->LF->Bool
abbrev Ky8:=LF->Bool->Bool
abbrev Ky9:=Nat->Nat->Bool
abbrev Kz0:=Int->LI->Bool
abbrev Kz1:=Nat->LI->Bool
abbrev Kz2:=LF->Int->Bool
abbrev Kz3:=LI->LI->Bool
abbrev Kz4:=Bool->Bool
abbrev Kz5:=Int->Bool
abbrev Kz6:=Nat->Bool
abbrev Kz7:=Fl->Bool
abbrev Kz8:=LF->Bool
abbrev Kz9:=LI->Bool
abbrev RT0:RT:=(.ptr (.pair (.pair .bool (.ints .u64)) (.pair .bool (.ints .u64))))
abbrev RY0:=(Bool × LI) × Bool × LI
abbrev RT1:RT:=(.pair (.pair .bool (.ints .u32)) (.pair .bool (.ints .u32)))
abbrev RY1:=(Bool × LI) × Bool × LI
abbrev RT2:RT:=(.ptr (.pair (.pair .bool (.ints .u32)) (.pair .bool (.ints .u32))))
abbrev RY2:=(Bool × LI) × Bool × LI
def az:LI:=[0,1,2,2,3,3,3,3,4,4,4,4,4,4,4,4,5,5,5,5,5,5,5,5,5,5,5,5,5,5,5,5,6,6,6,6,6,6,6,6,6,6,6,6,6,6,6,6,6,6,6,6,6,6,6,6,6,6,6,6,6,6,6,6,7,7,7,7,7,7,7,7,7,7,7,7,7,7,7,7,7,7,7,7,7,7,7,7,7,7,7,7,7,7,7,7,7,7,7,7,7,7,7,7,7,7,7,7,7,7,7,7,7,7,7,7,7,7,7,7,7,7,7,7,7,7,7,7,8,8,8,8,8,8,8,8,8,8,8,8,8,8,8,8,8,8,8,8,8,8,8,8,8,8,8,8,8,8,8,8,8,8,8,8,8,8,8,8,8,8,8,8,8,8,8,8,8,8,8,8,8,8,8,8,8,8,8,8,8,8,8,8,8,8,8,8,8,8,8,8,8,8,8,8,8,8,8,8,8,8,8,8,8,8,8,8,8,8,8,8,8,8,8,8,8,8,8,8,8,8,8,8,8,8,8,8,8,8,8,8,8,8,8,8,8,8,8,8,8,8,8,8,8,8,8,8]
abbrev Nh:=Nat->(Kz5)->Bool
def Ef (N:Nat):Nh:=λn k=>k n
def Dr (N:Nat) (k0:Ky1):Bool:=
 (k0 52 2047 1075)
def uv (N:Nat):(Ky1)->Bool:=Dr N
def Kd (N:Nat) (ZW ZZ Z1:Int) (k0:Kz5):Bool:=
 (af .i64 (ZZ+1)&&(decide (0<=ZW)&&k0 (IntKind.wrap .u64 ((IntKind.wrap .u64 (ZZ+1))*2 ^ (min ZW.toNat 64)))))
def xV (N:Nat):Int->Int->Int->(Kz5)->Bool:=Kd N
def B6 (N:Nat) (ZW ZZ Z1:Int) (k0:Kz5):Bool:=
 (decide (0<=ZW)&&k0 (IntKind.wrap .u64 ((IntKind.wrap .u64 ZZ)*2 ^ (min ZW.toNat 64))))
def pk (N:Nat):Int->Int->Int->(Kz5)->Bool:=B6 N
def Ms (N:Nat) (b ZW ZZ Z1:Int) (k0:Kz4):Bool:=
 (xV N ZW ZZ Z1 (λnr=>pk N ZW ZZ Z1 (λZo=>k0 (decide ((aB .andNot .u64 b nr)>Zo)))))
def O5 (N:Nat):Int->Int->Int->Int->(Kz4)->Bool:=ay N (Ms N)
def EG (N:Nat) (ZW ZZ Z1:Int) (k0:Kz5):Bool:=
 (decide (0<=ZW)&&k0 (IntKind.wrap .u64 ((1:Int)*2 ^ (min ZW.toNat 64))))
def mO (N:Nat):Int->Int->Int->(Kz5)->Bool:=EG N
def xi (N:Nat) (ZW ZZ Z1:Int) (k0:Kz5):Bool:=
 (pk N ZW ZZ Z1 (λnr=>mO N ZW ZZ Z1 (λZo=>k0 (aB .or .u64 (aB .or .u64 nr (Int.fdiv Zo (2 ^ 1))) (IntKind.wrap .u64 (Int.tdiv ZW 52))))))
def xU (N:Nat):Int->Int->Int->(Kz5)->Bool:=ay N (xi N)
def Ww (N:Nat) (b ZW ZZ Z1:Int) (k0:Kz5):Bool:=
 (O5 N b ZW ZZ Z1 (λcr=>cond cr (xU N ZW ZZ Z1 (λnr=>k0 nr)) (k0 b)))
def Pp (N:Nat):Int->Int->Int->Int->(Kz5)->Bool:=Ww N
def S2 (N:Nat) (b ZW ZZ Z1:Int) (k0:Kx9):Bool:=
 (Pp N b ZW ZZ Z1 (λnr=>xV N ZW ZZ Z1 (λZo=>decide (0<=ZW)&&(af .i64 (aB .and .u64 (Int.fdiv nr (2 ^ (min ZW.toNat 64))) (IntKind.wrap .u64 ZZ))&&mO N ZW ZZ Z1 (λZr=>k0 ((aB .and .u64 nr Zo) != 0) (aB .and .u64 (Int.fdiv nr (2 ^ (min ZW.toNat 64))) (IntKind.wrap .u64 ZZ)) (aB .and .u64 nr (IntKind.wrap .u64 (Zr - 1))))))))
def Rw (N:Nat):Int->Int->Int->Int->(Kx9)->Bool:=ay N (S2 N)
def S1 (N:Nat) (b ZW ZZ Z1:Int) (k0:Kz5):Bool:=
 (Rw N b ZW ZZ Z1 (λcr nr Zo=>cond ((nr==ZZ)==true) (cond (Zo != 0) (k0 1) (cond (nr==ZZ) (k0 2) (cond ((nr==0)==true) (cond (Zo==0) (k0 3) (cond (nr==0) (k0 4) (k0 5))) (cond (nr==0) (k0 4) (k0 5))))) (cond (nr==ZZ) (k0 2) (cond ((nr==0)==true) (cond (Zo==0) (k0 3) (cond (nr==0) (k0 4) (k0 5))) (cond (nr==0) (k0 4) (k0 5))))))
def Rv (N:Nat):Int->Int->Int->Int->(Kz5)->Bool:=ay N (S1 N)
abbrev WG:=Nat->(Kz5)->Bool
def GQ6 (N x:Nat) (k0:Kz5):Bool:=
 (Ef N x (λnr=>uv N (λZo Zr ZF=>Rv N nr Zo Zr ZF (λZC=>k0 ZC))))
def sQ6 (N:Nat):Nat->(Kz5)->Bool:=GQ6 N
abbrev WH:=Nat->Nat->(Kz4)->Bool
def GQ7 (N a b:Nat) (k0:Kz4):Bool:=
 (Ef N a (λnr=>uv N (λZo Zr ZF=>Pp N nr Zo Zr ZF (λZC=>Ef N b (λn5=>uv N (λn6 n7 n8=>Pp N n5 n6 n7 n8 (λn9=>k0 (ZC==n9))))))))
def sQ7 (N:Nat):Nat->Nat->(Kz4)->Bool:=GQ7 N
abbrev G7:=Int->(Kz7)->Bool
def Bw (N:Nat):G7:=λn k=>k (jF n.toNat)
abbrev RX:=Nat->(Kz7)->Bool
def Wu (N x:Nat) (k0:Kz7):Bool:=
 (Ef N x (λnr=>Bw N (aB .andNot .u64 nr 9223372036854775808) (λxr=>k0 xr)))
def Iw (N:Nat):Nat->(Kz7)->Bool:=Wu N
def mm (N:Nat) (aab:LI) (aex:Int) (e0:Kz8):(Int × LF)->((Int × LF)->Bool)->Bool:=λv_ K=>match v_ with
 | (ab0,x)=>(cond (decide (ab0<aex)) (inR ab0 aab.length&&Bw N (aab.getD ab0.toNat 0) (λZQ=>decide ((List.length (x++[ZQ]))*8<=140737488355328)&&(af .i64 (ab0+1)&&K ((ab0+1),(x++[ZQ]))))) (e0 x))
def MX (N:Nat) (l:LI) (k0:Kz8):Bool:=
 (ai N (mm N l ((l.length:Nat):Int) (λZw=>k0 Zw)) (0,[]))
def y_ (N:Nat):LI->(Kz8)->Bool:=ay N (MX N)
def Wx (N:Nat) (x:LI) (rows cols:Int) (p:LI) (k0:LF->LF->Bool):Bool:=
 (y_ N x (λxsr=>y_ N p (λZE=>k0 xsr ZE)))
def VQ (N:Nat):LI->Int->Int->LI->(LF->LF->Bool)->Bool:=Wx N
def S5 (N:Nat) (n:Int) (k0:Kz4):Bool:=
 (cond ((decide (n>=0))==true) (k0 (decide (n<=12))) (k0 false))
def LN (N:Nat):Int->(Kz4)->Bool:=S5 N
abbrev Ni:=Fl->(Kz5)->Bool
def Po (N:Nat):Ni:=λx k=>k (Ai x)
def k6 (N:Nat) (t6:LF) (t7:Int) (e0:Kz4) (e1:Bool):(Int)->((Int)->Bool)->Bool:=λv_ K=>match v_ with
 | t8=>(cond (decide (t8<t7)) (inR t8 t6.length&&Po N (t6.getD t8.toNat none) (λnr=>cond ((nr==1)==false) (cond (nr==2) (e0 false) (af .i64 (t8+1)&&K (t8+1))) (e0 false))) e1)
def MF (N:Nat) (l:LF) (k0:Kz4):Bool:=
 (ai N (k6 N l ((l.length:Nat):Int) (λt2=>k0 t2) (k0 true)) 0)
def Bz (N:Nat):LF->(Kz4)->Bool:=ay N (MF N)
def SF (N:Nat) (ZB Zn:Int) (Zv:LF) (k0:Kz5):Bool:=
 (LN N ZB (λcr=>cond ((!cr)==false) (LN N Zn (λZp=>cond (!Zp) (k0 1) (af .i64 (ZB*Zn)&&cond (((Zv.length:Nat):Int) != (ZB*Zn)) (k0 3) (Bz N Zv (λZG=>cond (!ZG) (k0 4) (k0 0)))))) (k0 1)))
def Bv (N:Nat):Int->Int->LF->(Kz5)->Bool:=ay N (SF N)
def yg (N:Nat) (ZB Zn:Int) (Zv:LF) (i j:Int) (k0:Kz7):Bool:=
 (af .i64 (i*Zn)&&(af .i64 ((i*Zn)+j)&&(inR ((i*Zn)+j) Zv.length&&k0 (Zv.getD (Int.toNat ((i*Zn)+j)) none))))
def kt (N:Nat):Int->Int->LF->Int->Int->(Kz7)->Bool:=yg N
abbrev Nj:=Fl->Fl->(Kz4)->Bool
def Pq (N:Nat):Nj:=λx y k=>k (decide (cn x=cn y))
def Eu (N:Nat) (i aaM aao t20 m_5 m_6:Int) (m_7:LF) (e0:Kz4) (e1:Bool):(Int)->((Int)->Bool)->Bool:=λv_ K=>match v_ with
 | t21=>(cond (decide (t21<t20)) (kt N m_5 m_6 m_7 i t21 (λxr=>kt N m_5 m_6 m_7 t21 i (λZQ=>Pq N xr ZQ (λcr=>cond (!cr) (e0 false) (af .i64 (t21+1)&&K (t21+1)))))) e1)
def Et (N:Nat) (t16 m ZX:Int) (m_4:LF) (e0:Kz4) (e1:Bool):(Int)->((Int)->Bool)->Bool:=λv_ K=>match v_ with
 | t17=>(cond (decide (t17<t16)) (ai N (Eu N t17 t16 t17 t17 m ZX m_4 (λt2=>e0 t2) (af .i64 (t17+1)&&K (t17+1))) 0) e1)
def SP (N:Nat) (ZB Zn:Int) (Zv:LF) (k0:Kz4):Bool:=
 (Bv N ZB Zn Zv (λnr=>cond ((nr != 0)==false) (cond (ZB != Zn) (k0 false) (ai N (Et N ZB ZB Zn Zv (λZR=>k0 ZR) (k0 true)) 0)) (k0 false)))
def LJ (N:Nat):Int->Int->LF->(Kz4)->Bool:=ay N (SP N)
def wb (N:Nat) (is:Bool) (e:Int) (k0:Bool):Bool:=
 (cond (!is) false k0)
def cX (N:Nat):Bool->Int->(Bool)->Bool:=wb N
abbrev G6:=Fl->(Kz5)->Bool
def wU (N:Nat):G6:=λx k=>match x with | some b=>k b | none=>false
def GQ9 (N:Nat) (x:Int) (k0:Kz5):Bool:=
 (cond (x==0) (k0 64) (inR (Int.fdiv (IntKind.wrap .u64 ((aB .and .u64 x (IntKind.wrap .u64 (0 - x)))*285870213051353865)) (2 ^ 58)) 64&&(af .i64 (zh.getD (Int.toNat (Int.fdiv (IntKind.wrap .u64 ((aB .and .u64 x (IntKind.wrap .u64 (0 - x)))*285870213051353865)) (2 ^ 58))) 0)&&k0 (zh.getD (Int.toNat (Int.fdiv (IntKind.wrap .u64 ((aB .and .u64 x (IntKind.wrap .u64 (0 - x)))*285870213051353865)) (2 ^ 58))) 0))))
def sQ9 (N:Nat):Int->(Kz5)->Bool:=ay N (GQ9 N)
def Kg (N:Nat) (b ZW ZZ Z1:Int) (p:Bool) (p_1 p_2:Int) (k0:Kx4):Bool:=
 (sQ9 N p_1 (λZC=>decide (0<=ZC)&&(af .i64 (p_2+ZC)&&k0 p (Int.fdiv p_1 (2 ^ (min ZC.toNat 64))) (p_2+ZC) 0)))
def Td (N:Nat) (b ZW ZZ Z1:Int) (k0:Kx4):Bool:=
 (Rw N b ZW ZZ Z1 (λcr nr Zo=>af .i64 (nr - Z1)&&Rv N b ZW ZZ Z1 (λZr=>cond (Zr==1) (k0 false 0 0 4) (cond (Zr==2) (k0 false 0 0 4) (cond (Zr==3) (k0 cr 0 0 0) (cond (Zr==4) (af .i64 ((nr - Z1)+1)&&Kg N b ZW ZZ Z1 cr Zo ((nr - Z1)+1) k0) (mO N ZW ZZ Z1 (λZF=>Kg N b ZW ZZ Z1 cr (aB .or .u64 Zo ZF) (nr - Z1) k0))))))))
def VW (N:Nat):Int->Int->Int->Int->(Kx4)->Bool:=ay N (Td N)
def zU (N:Nat) (x:Fl) (k0:Kx4):Bool:=
 (wU N x (λnr=>uv N (λZo Zr ZF=>VW N nr Zo Zr ZF (λcr ZC n5 n6=>k0 cr ZC n5 n6))))
def qS (N:Nat):Fl->(Kx4)->Bool:=zU N
def vW (N:Nat) (x:LI) (e0:Kz5):(Int)->((Int)->Bool)->Bool:=λv_ K=>match v_ with
 | n=>(cond ((decide (n>0))==true) (af .i64 (n - 1)&&(inR (n - 1) x.length&&(decide ((Int.toNat (n - 1))<x.length)&&cond ((x.getD (Int.toNat (n - 1)) 0)==0) (af .i64 (n - 1)&&K (n - 1)) (e0 n)))) (e0 n))
def SV (N:Nat) (b:LI) (k0:Kz6):Bool:=
 (ai N (vW N b (λZV=>decide (0<=ZV/\ZV<=((b.length:Nat):Int))&&k0 (ZV.toNat - 0))) ((b.length:Nat):Int))
def wW (N:Nat):LI->(Kz6)->Bool:=ay N (SV N)
def zV (N:Nat) (n:Int) (k0:Kz9):Bool:=
 (wW N [n] (λmr=>decide ((0+mr)<=(List.length [n]))&&k0 (List.take mr (List.drop 0 [n]))))
def kc (N:Nat):Int->(Kz9)->Bool:=zV N
def Wk (N:Nat) (neg:Bool) (abs:LI) (b:Bool) (k0:Kz4):Bool:=
 (cond (neg==true) (k0 (decide (((abs.length:Nat):Int)>0))) (k0 false))
def Ee (N:Nat):Bool->LI->Bool->(Kz4)->Bool:=Wk N
def SJ (N:Nat) (n:Int) (b:Bool) (k0:Ky4):Bool:=
 (kc N n (λnsr=>Ee N false nsr b (λcr=>k0 cr nsr)))
def Rl (N:Nat):Int->Bool->(Ky4)->Bool:=ay N (SJ N)
def RH (N:Nat) (x:LI) (k0:Kz9):Bool:=
 (decide ((List.length ([]++x))*8<=140737488355328)&&k0 ([]++x))
def rG (N:Nat):LI->(Kz9)->Bool:=RH N
def Xn (N:Nat) (neg:Bool) (abs:LI) (b:Bool) (Zl:LI) (k0:Kz4):Bool:=
 (cond (neg==true) (k0 (decide (((abs.length:Nat):Int)>0))) (k0 false))
def LM (N:Nat):Bool->LI->Bool->LI->(Kz4)->Bool:=Xn N
def SW (N:Nat) (b:Bool) (Zl:LI) (k0:Ky4):Bool:=
 (rG N Zl (λnsr=>LM N (!b) nsr b Zl (λcr=>k0 cr nsr)))
def Rs (N:Nat):Bool->LI->(Ky4)->Bool:=ay N (SW N)
def S0 (N:Nat) (n:Int) (b:Bool) (k0:Ky4):Bool:=
 (cond (decide (n<0)) (kc N (IntKind.wrap .u64 (0 - (IntKind.wrap .u64 n))) (λnsr=>Ee N true nsr b (λcr=>k0 cr nsr))) (kc N (IntKind.wrap .u64 n) (λZm=>Ee N false Zm b (λZp=>k0 Zp Zm))))
def W5 (N:Nat):Int->Bool->(Ky4)->Bool:=ay N (S0 N)
def RV (N:Nat) (n:Int) (k0:Ky4):Bool:=
 (W5 N n false (λcr nsr=>k0 cr nsr))
def Gy (N:Nat):Int->(Ky4)->Bool:=RV N
def eD (N:Nat) (words rest:Int) (t24:LI) (t25:Int) (e0:Kz9):(Int × LI)->((Int × LI)->Bool)->Bool:=λv_ K=>match v_ with
 | (t26,z)=>(cond (decide (t26<t25)) (inR t26 t24.length&&(af .i64 (words+t26)&&(inR (words+t26) z.length&&(decide ((Int.toNat (words+t26))<z.length)&&(decide (0<=rest)&&(inR (words+t26) z.length&&(decide ((Int.toNat (words+t26))<z.length)&&(af .i64 (words+t26)&&(af .i64 ((words+t26)+1)&&(decide (0<=(IntKind.wrap .u64 (64 - rest)))&&(inR ((words+t26)+1) (List.length (z.set (Int.toNat (words+t26)) (aB .or .u64 (z.getD (Int.toNat (words+t26)) 0) (IntKind.wrap .u64 ((t24.getD t26.toNat 0)*2 ^ (min rest.toNat 64))))))&&(decide ((Int.toNat ((words+t26)+1))<(List.length (z.set (Int.toNat (words+t26)) (aB .or .u64 (z.getD (Int.toNat (words+t26)) 0) (IntKind.wrap .u64 ((t24.getD t26.toNat 0)*2 ^ (min rest.toNat 64)))))))&&(af .i64 (t26+1)&&K ((t26+1),(List.set (z.set (Int.toNat (words+t26)) (aB .or .u64 (z.getD (Int.toNat (words+t26)) 0) (IntKind.wrap .u64 ((t24.getD t26.toNat 0)*2 ^ (min rest.toNat 64))))) (Int.toNat ((words+t26)+1)) (Int.fdiv (t24.getD t26.toNat 0) (2 ^ (min (Int.toNat (IntKind.wrap .u64 (64 - rest))) 64)))))))))))))))))) (e0 z))
def uV (N:Nat) (x:LI) (n:Int) (k0:Kz9):Bool:=
 (cond (((x.length:Nat):Int)==0) (k0 []) (af .i64 (IntKind.wrap .u64 (Int.tdiv n 64))&&(af .i64 ((IntKind.wrap .u64 (Int.tdiv n 64))+((x.length:Nat):Int))&&(af .i64 (((IntKind.wrap .u64 (Int.tdiv n 64))+((x.length:Nat):Int))+1)&&(gb 8 (((IntKind.wrap .u64 (Int.tdiv n 64))+((x.length:Nat):Int))+1) (((IntKind.wrap .u64 (Int.tdiv n 64))+((x.length:Nat):Int))+1)&&ai N (eD N (IntKind.wrap .u64 (Int.tdiv n 64)) (Int.tmod n 64) x ((x.length:Nat):Int) (λz_1=>wW N z_1 (λmr=>decide ((0+mr)<=z_1.length)&&k0 (List.take mr (List.drop 0 z_1))))) (0,(List.replicate (Int.toNat (((IntKind.wrap .u64 (Int.tdiv n 64))+((x.length:Nat):Int))+1)) (0:Int))))))))
def vM (N:Nat):LI->Int->(Kz9)->Bool:=ay N (uV N)
def Wz (N:Nat) (n:Int) (b Zl:Bool) (Zq:LI) (k0:Ky4):Bool:=
 (vM N Zq n (λnsr=>Ee N Zl nsr b (λcr=>k0 cr nsr)))
def VT (N:Nat):Int->Bool->Bool->LI->(Ky4)->Bool:=Wz N
def vT (N:Nat) (Zw ZS:LI) (e0:Kz5) (e1:Bool):(Int)->((Int)->Bool)->Bool:=λv_ K=>match v_ with
 | i=>(cond (decide (i>=0)) (inR i Zw.length&&(inR i ZS.length&&cond ((Zw.getD i.toNat 0) != (ZS.getD i.toNat 0)) (inR i Zw.length&&(inR i ZS.length&&cond (decide ((Zw.getD i.toNat 0)<(ZS.getD i.toNat 0))) (e0 (-1)) (e0 1))) (af .i64 (i - 1)&&K (i - 1)))) e1)
def Mt (N:Nat) (x y:LI) (k0:Kz5):Bool:=
 (cond (((x.length:Nat):Int) != ((y.length:Nat):Int)) (cond (decide (((x.length:Nat):Int)<((y.length:Nat):Int))) (k0 (-1)) (k0 1)) (af .i64 (((x.length:Nat):Int) - 1)&&ai N (vT N x y (λt4=>k0 t4) (k0 0)) (((x.length:Nat):Int) - 1)))
def Dd (N:Nat):LI->LI->(Kz5)->Bool:=ay N (Mt N)
def IV (N:Nat) (x ZN ZV:Int) (k0:Kz5):Bool:=
 (cond (decide (ZN>=256)) (af .i64 (ZV+8)&&(inR (IntKind.wrap .u8 (Int.fdiv ZN (2 ^ 8))) 256&&(af .i64 (az.getD (Int.toNat (IntKind.wrap .u8 (Int.fdiv ZN (2 ^ 8)))) 0)&&(af .i64 ((ZV+8)+(az.getD (Int.toNat (IntKind.wrap .u8 (Int.fdiv ZN (2 ^ 8)))) 0))&&k0 ((ZV+8)+(az.getD (Int.toNat (IntKind.wrap .u8 (Int.fdiv ZN (2 ^ 8)))) 0)))))) (inR (IntKind.wrap .u8 ZN) 256&&(af .i64 (az.getD (Int.toNat (IntKind.wrap .u8 ZN)) 0)&&(af .i64 (ZV+(az.getD (Int.toNat (IntKind.wrap .u8 ZN)) 0))&&k0 (ZV+(az.getD (Int.toNat (IntKind.wrap .u8 ZN)) 0))))))
def IU (N:Nat) (x Zw n:Int) (k0:Kz5):Bool:=
 (cond (decide (Zw>=65536)) (af .i64 (n+16)&&IV N x (Int.fdiv Zw (2 ^ 16)) (n+16) k0) (IV N x Zw n k0))
def S8 (N:Nat) (x:Int) (k0:Kz5):Bool:=
 (cond (decide (x>=4294967296)) (IU N x (Int.fdiv x (2 ^ 32)) 32 k0) (IU N x x 0 k0))
def Ry (N:Nat):Int->(Kz5)->Bool:=ay N (S8 N)
def p6 (N:Nat) (x:LI) (k0:Kz5):Bool:=
 (cond (((x.length:Nat):Int)==0) (k0 0) (af .i64 (((x.length:Nat):Int) - 1)&&(af .i64 (64*(((x.length:Nat):Int) - 1))&&(af .i64 (((x.length:Nat):Int) - 1)&&(inR (((x.length:Nat):Int) - 1) x.length&&Ry N (x.getD (Int.toNat (((x.length:Nat):Int) - 1)) 0) (λnr=>af .i64 ((64*(((x.length:Nat):Int) - 1))+nr)&&k0 ((64*(((x.length:Nat):Int) - 1))+nr)))))))
def qT (N:Nat):LI->(Kz5)->Bool:=ay N (p6 N)
def RO (N:Nat) (x:LI) (i:Int) (k0:Kz5):Bool:=
 (cond (decide (i<((x.length:Nat):Int))) (inR i x.length&&k0 (x.getD i.toNat 0)) (k0 0))
def yX (N:Nat):LI->Int->(Kz5)->Bool:=RO N
def xh (N:Nat) (x:LI) (from_:Int) (k0:Kz5):Bool:=
 (af .i64 (Int.tdiv from_ 64)&&yX N x (Int.tdiv from_ 64) (λnr=>decide (0<=(IntKind.wrap .u64 (Int.tmod from_ 64)))&&(af .i64 ((Int.tdiv from_ 64)+1)&&yX N x ((Int.tdiv from_ 64)+1) (λZo=>decide (0<=(IntKind.wrap .u64 (64 - (IntKind.wrap .u64 (Int.tmod from_ 64)))))&&k0 (aB .or .u64 (Int.fdiv nr (2 ^ (min (Int.toNat (IntKind.wrap .u64 (Int.tmod from_ 64))) 64))) (IntKind.wrap .u64 (Zo*2 ^ (min (Int.toNat (IntKind.wrap .u64 (64 - (IntKind.wrap .u64 (Int.tmod from_ 64))))) 64))))))))
def ux (N:Nat):LI->Int->(Kz5)->Bool:=ay N (xh N)
def ou (N:Nat) (t4 aap aaq aar:Int) (aev:Bool) (e0:Kx0):(Int × Int × Int × Int × Int × Int × Int × Int × Bool)->((Int × Int × Int × Int × Int × Int × Int × Int × Bool)->Bool)->Bool:=λv_ K=>match v_ with
 | (Zw,ZS,u,v,w,w_1,w_2,w_3,w_4)=>(cond ((decide (ZS>=v))==true) (cond (decide ((IntKind.wrap .u64 (Zw - ZS))>=(IntKind.wrap .u64 (w_3+v)))) ((!decide (ZS=0))&&((!decide (ZS=0))&&K (ZS,(Int.tmod Zw ZS),(IntKind.wrap .u64 (w_2+(IntKind.wrap .u64 ((IntKind.wrap .u64 (Int.tdiv Zw ZS))*u)))),(IntKind.wrap .u64 (w_3+(IntKind.wrap .u64 ((IntKind.wrap .u64 (Int.tdiv Zw ZS))*v)))),w_2,w_3,u,v,(!w_4)))) (e0 w w_1 w_2 w_3 w_4)) (e0 w w_1 w_2 w_3 w_4))
def yf (N:Nat) (x y:Int) (k0:Kx0):Bool:=
 (ai N (ou N 0 0 0 0 false (λw_5 w_6 w_7 w_8 w_9=>k0 w_5 w_6 w_7 w_8 w_9)) (x,y,0,1,0,0,1,0,true))
def ti (N:Nat):Int->Int->(Kx0)->Bool:=ay N (yf N)
def Mn (N:Nat) (x y:Int) (k0:Ky5):Bool:=
 (k0 (IntKind.wrap .u64 ((IntKind.wrap .u64 ((IntKind.wrap .u64 ((Int.fdiv x (2 ^ 32))*(Int.fdiv y (2 ^ 32))))+(Int.fdiv (IntKind.wrap .u64 ((IntKind.wrap .u64 ((Int.fdiv x (2 ^ 32))*(aB .and .u64 y 4294967295)))+(Int.fdiv (IntKind.wrap .u64 ((aB .and .u64 x 4294967295)*(aB .and .u64 y 4294967295))) (2 ^ 32)))) (2 ^ 32))))+(Int.fdiv (IntKind.wrap .u64 ((aB .and .u64 (IntKind.wrap .u64 ((IntKind.wrap .u64 ((Int.fdiv x (2 ^ 32))*(aB .and .u64 y 4294967295)))+(Int.fdiv (IntKind.wrap .u64 ((aB .and .u64 x 4294967295)*(aB .and .u64 y 4294967295))) (2 ^ 32)))) 4294967295)+(IntKind.wrap .u64 ((aB .and .u64 x 4294967295)*(Int.fdiv y (2 ^ 32)))))) (2 ^ 32)))) (IntKind.wrap .u64 (x*y)))
def Gn (N:Nat):Int->Int->(Ky5)->Bool:=ay N (Mn N)
abbrev U9:=Int->Int->Int->(Ky5)->Bool
def sQ2 (N:Nat):U9:=λx y c k=>(decide (c.toNat<=1))&&k (((x.toNat+y.toNat+c.toNat)%18446744073709551616:Nat):Int) (((x.toNat+y.toNat+c.toNat) / 18446744073709551616:Nat):Int)
def uU (N:Nat) (a b c d:Int) (k0:Ky5):Bool:=
 (Gn N a b (λnr Zo=>sQ2 N Zo c 0 (λZr ZF=>sQ2 N Zr d 0 (λZC n5=>k0 (IntKind.wrap .u64 ((IntKind.wrap .u64 (nr+ZF))+n5)) ZC))))
def lV (N:Nat):Int->Int->Int->Int->(Ky5)->Bool:=ay N (uU N)
def mj (N:Nat) (Zw:LI) (Z0:Int) (t14:LI) (t15:Int) (e0:Kz0):(Int × Int × LI)->((Int × Int × LI)->Bool)->Bool:=λv_ K=>match v_ with
 | (ade,t16,z)=>(cond (decide (t16<t15)) (inR t16 t14.length&&lV N (t14.getD t16.toNat 0) Z0 0 ade (λnr Zo=>inR t16 z.length&&(decide (t16.toNat<z.length)&&(af .i64 (t16+1)&&K (nr,(t16+1),(z.set t16.toNat Zo)))))) (e0 ade z))
def ME (N:Nat) (x:LI) (d more:Int) (k0:Kz9):Bool:=
 (af .i64 (((x.length:Nat):Int)+1)&&(gb 8 (((x.length:Nat):Int)+1) (((x.length:Nat):Int)+1)&&ai N (mj N x d x ((x.length:Nat):Int) (λacq z_1=>inR ((x.length:Nat):Int) z_1.length&&(decide ((Int.toNat ((x.length:Nat):Int))<z_1.length)&&wW N (z_1.set (Int.toNat ((x.length:Nat):Int)) acq) (λmr=>decide ((0+mr)<=(List.length (z_1.set (Int.toNat ((x.length:Nat):Int)) acq)))&&k0 (List.take mr (List.drop 0 (z_1.set (Int.toNat ((x.length:Nat):Int)) acq))))))) (more,0,(List.replicate (Int.toNat (((x.length:Nat):Int)+1)) (0:Int)))))
def uQ (N:Nat):LI->Int->Int->(Kz9)->Bool:=ay N (ME N)
abbrev U_:=Int->Int->Int->(Ky5)->Bool
def sQ4 (N:Nat):U_:=λx y c k=>(decide (c.toNat<=1))&&k (((x.toNat+18446744073709551616 - y.toNat - c.toNat)%18446744073709551616:Nat):Int) (cond (decide (x.toNat<y.toNat+c.toNat)) 1 0)
def mi (N:Nat) (Zw ZS:LI) (t12:Int) (e0:Kz9):(Int × Int × LI)->((Int × Int × LI)->Bool)->Bool:=λv_ K=>match v_ with
 | (borrow,t13,z)=>(cond (decide (t13<t12)) (inR t13 Zw.length&&yX N ZS t13 (λnr=>sQ4 N (Zw.getD t13.toNat 0) nr borrow (λZo Zr=>inR t13 z.length&&(decide (t13.toNat<z.length)&&(af .i64 (t13+1)&&K (Zr,(t13+1),(z.set t13.toNat Zo))))))) (e0 z))
def MV (N:Nat) (x y:LI) (k0:Kz9):Bool:=
 (gb 8 ((x.length:Nat):Int) ((x.length:Nat):Int)&&ai N (mi N x y ((x.length:Nat):Int) (λz_1=>wW N z_1 (λmr=>decide ((0+mr)<=z_1.length)&&k0 (List.take mr (List.drop 0 z_1))))) (0,0,(List.replicate (Int.toNat ((x.length:Nat):Int)) (0:Int))))
def yY (N:Nat):LI->LI->(Kz9)->Bool:=ay N (MV N)
def dQ (N:Nat) (w_0 w_1 w_2 w_3:Int) (w_4:Bool) (x y:LI) (k0:Kz3):Bool:=
 (cond w_4 (uQ N y w_1 0 (λnsr=>uQ N x w_0 0 (λZm=>yY N nsr Zm (λZs=>uQ N x w_2 0 (λZt=>uQ N y w_3 0 (λZz=>yY N Zt Zz (λZx=>k0 Zs Zx))))))) (uQ N x w_0 0 (λs6=>uQ N y w_1 0 (λs7=>yY N s6 s7 (λs8=>uQ N y w_3 0 (λs9=>uQ N x w_2 0 (λs10=>yY N s9 s10 (λs11=>k0 s8 s11))))))))
def eh (N:Nat):Int->Int->Int->Int->Bool->LI->LI->(Kz3)->Bool:=ay N (dQ N)
def Wo (N:Nat) (x:Int) (k0:Kz5):Bool:=
 (Ry N x (λnr=>af .i64 (64 - nr)&&k0 (64 - nr)))
def Ro (N:Nat):Int->(Kz5)->Bool:=Wo N
def x_ (N:Nat) (ZS s yn1 yn0 un32 un1 un0:Int) (e0:Kz5):(Int × Int)->((Int × Int)->Bool)->Bool:=λv_ K=>match v_ with
 | (q1,rhat)=>(cond ((decide (q1>=4294967296))==false) (cond (decide ((IntKind.wrap .u64 (q1*yn0))>(IntKind.wrap .u64 ((IntKind.wrap .u64 (4294967296*rhat))+un1)))) (cond (decide ((IntKind.wrap .u64 (rhat+yn1))>=4294967296)) (e0 (IntKind.wrap .u64 (q1 - 1))) (K ((IntKind.wrap .u64 (q1 - 1)),(IntKind.wrap .u64 (rhat+yn1))))) (e0 q1)) (cond (decide ((IntKind.wrap .u64 (rhat+yn1))>=4294967296)) (e0 (IntKind.wrap .u64 (q1 - 1))) (K ((IntKind.wrap .u64 (q1 - 1)),(IntKind.wrap .u64 (rhat+yn1))))))
def ya (N:Nat) (y_2 ZU abK adB acP aep un21:Int) (e0:Kz5):(Int × Int)->((Int × Int)->Bool)->Bool:=λv_ K=>match v_ with
 | (abt,q0)=>(cond ((decide (q0>=4294967296))==false) (cond (decide ((IntKind.wrap .u64 (q0*adB))>(IntKind.wrap .u64 ((IntKind.wrap .u64 (4294967296*abt))+acP)))) (cond (decide ((IntKind.wrap .u64 (abt+abK))>=4294967296)) (e0 (IntKind.wrap .u64 (q0 - 1))) (K ((IntKind.wrap .u64 (abt+abK)),(IntKind.wrap .u64 (q0 - 1))))) (e0 q0)) (cond (decide ((IntKind.wrap .u64 (abt+abK))>=4294967296)) (e0 (IntKind.wrap .u64 (q0 - 1))) (K ((IntKind.wrap .u64 (abt+abK)),(IntKind.wrap .u64 (q0 - 1))))))
def Mm (N:Nat) (hi lo y:Int) (k0:Ky5):Bool:=
 (cond (y==0) false (cond (decide (y<=hi)) false (cond (hi==0) ((!decide (y=0))&&((!decide (y=0))&&k0 (IntKind.wrap .u64 (Int.tdiv lo y)) (Int.tmod lo y))) (Ro N y (λnr=>decide (0<=(IntKind.wrap .u64 nr))&&(decide (0<=(IntKind.wrap .u64 nr))&&(decide (0<=(IntKind.wrap .u64 (64 - (IntKind.wrap .u64 nr))))&&(decide (0<=(IntKind.wrap .u64 nr))&&((!decide ((Int.fdiv (IntKind.wrap .u64 (y*2 ^ (min (Int.toNat (IntKind.wrap .u64 nr)) 64))) (2 ^ 32))=0))&&ai N (x_ N (IntKind.wrap .u64 (y*2 ^ (min (Int.toNat (IntKind.wrap .u64 nr)) 64))) (IntKind.wrap .u64 nr) (Int.fdiv (IntKind.wrap .u64 (y*2 ^ (min (Int.toNat (IntKind.wrap .u64 nr)) 64))) (2 ^ 32)) (aB .and .u64 (IntKind.wrap .u64 (y*2 ^ (min (Int.toNat (IntKind.wrap .u64 nr)) 64))) 4294967295) (aB .or .u64 (IntKind.wrap .u64 (hi*2 ^ (min (Int.toNat (IntKind.wrap .u64 nr)) 64))) (Int.fdiv lo (2 ^ (min (Int.toNat (IntKind.wrap .u64 (64 - (IntKind.wrap .u64 nr)))) 64)))) (Int.fdiv (IntKind.wrap .u64 (lo*2 ^ (min (Int.toNat (IntKind.wrap .u64 nr)) 64))) (2 ^ 32)) (aB .and .u64 (IntKind.wrap .u64 (lo*2 ^ (min (Int.toNat (IntKind.wrap .u64 nr)) 64))) 4294967295) (λacr=>(!decide ((Int.fdiv (IntKind.wrap .u64 (y*2 ^ (min (Int.toNat (IntKind.wrap .u64 nr)) 64))) (2 ^ 32))=0))&&ai N (ya N (IntKind.wrap .u64 (y*2 ^ (min (Int.toNat (IntKind.wrap .u64 nr)) 64))) (IntKind.wrap .u64 nr) (Int.fdiv (IntKind.wrap .u64 (y*2 ^ (min (Int.toNat (IntKind.wrap .u64 nr)) 64))) (2 ^ 32)) (aB .and .u64 (IntKind.wrap .u64 (y*2 ^ (min (Int.toNat (IntKind.wrap .u64 nr)) 64))) 4294967295) (aB .and .u64 (IntKind.wrap .u64 (lo*2 ^ (min (Int.toNat (IntKind.wrap .u64 nr)) 64))) 4294967295) acr (IntKind.wrap .u64 ((IntKind.wrap .u64 ((IntKind.wrap .u64 ((aB .or .u64 (IntKind.wrap .u64 (hi*2 ^ (min (Int.toNat (IntKind.wrap .u64 nr)) 64))) (Int.fdiv lo (2 ^ (min (Int.toNat (IntKind.wrap .u64 (64 - (IntKind.wrap .u64 nr)))) 64))))*4294967296))+(Int.fdiv (IntKind.wrap .u64 (lo*2 ^ (min (Int.toNat (IntKind.wrap .u64 nr)) 64))) (2 ^ 32)))) - (IntKind.wrap .u64 (acr*(IntKind.wrap .u64 (y*2 ^ (min (Int.toNat (IntKind.wrap .u64 nr)) 64))))))) (λaeV=>decide (0<=(IntKind.wrap .u64 nr))&&k0 (IntKind.wrap .u64 ((IntKind.wrap .u64 (acr*4294967296))+aeV)) (Int.fdiv (IntKind.wrap .u64 ((IntKind.wrap .u64 ((IntKind.wrap .u64 ((IntKind.wrap .u64 ((IntKind.wrap .u64 ((IntKind.wrap .u64 ((aB .or .u64 (IntKind.wrap .u64 (hi*2 ^ (min (Int.toNat (IntKind.wrap .u64 nr)) 64))) (Int.fdiv lo (2 ^ (min (Int.toNat (IntKind.wrap .u64 (64 - (IntKind.wrap .u64 nr)))) 64))))*4294967296))+(Int.fdiv (IntKind.wrap .u64 (lo*2 ^ (min (Int.toNat (IntKind.wrap .u64 nr)) 64))) (2 ^ 32)))) - (IntKind.wrap .u64 (acr*(IntKind.wrap .u64 (y*2 ^ (min (Int.toNat (IntKind.wrap .u64 nr)) 64)))))))*4294967296))+(aB .and .u64 (IntKind.wrap .u64 (lo*2 ^ (min (Int.toNat (IntKind.wrap .u64 nr)) 64))) 4294967295))) - (IntKind.wrap .u64 (aeV*(IntKind.wrap .u64 (y*2 ^ (min (Int.toNat (IntKind.wrap .u64 nr)) 64))))))) (2 ^ (min (Int.toNat (IntKind.wrap .u64 nr)) 64))))) ((IntKind.wrap .u64 ((IntKind.wrap .u64 ((IntKind.wrap .u64 ((IntKind.wrap .u64 ((aB .or .u64 (IntKind.wrap .u64 (hi*2 ^ (min (Int.toNat (IntKind.wrap .u64 nr)) 64))) (Int.fdiv lo (2 ^ (min (Int.toNat (IntKind.wrap .u64 (64 - (IntKind.wrap .u64 nr)))) 64))))*4294967296))+(Int.fdiv (IntKind.wrap .u64 (lo*2 ^ (min (Int.toNat (IntKind.wrap .u64 nr)) 64))) (2 ^ 32)))) - (IntKind.wrap .u64 (acr*(IntKind.wrap .u64 (y*2 ^ (min (Int.toNat (IntKind.wrap .u64 nr)) 64))))))) - (IntKind.wrap .u64 ((IntKind.wrap .u64 (Int.tdiv (IntKind.wrap .u64 ((IntKind.wrap .u64 ((IntKind.wrap .u64 ((aB .or .u64 (IntKind.wrap .u64 (hi*2 ^ (min (Int.toNat (IntKind.wrap .u64 nr)) 64))) (Int.fdiv lo (2 ^ (min (Int.toNat (IntKind.wrap .u64 (64 - (IntKind.wrap .u64 nr)))) 64))))*4294967296))+(Int.fdiv (IntKind.wrap .u64 (lo*2 ^ (min (Int.toNat (IntKind.wrap .u64 nr)) 64))) (2 ^ 32)))) - (IntKind.wrap .u64 (acr*(IntKind.wrap .u64 (y*2 ^ (min (Int.toNat (IntKind.wrap .u64 nr)) 64))))))) (Int.fdiv (IntKind.wrap .u64 (y*2 ^ (min (Int.toNat (IntKind.wrap .u64 nr)) 64))) (2 ^ 32))))*(Int.fdiv (IntKind.wrap .u64 (y*2 ^ (min (Int.toNat (IntKind.wrap .u64 nr)) 64))) (2 ^ 32)))))),(IntKind.wrap .u64 (Int.tdiv (IntKind.wrap .u64 ((IntKind.wrap .u64 ((IntKind.wrap .u64 ((aB .or .u64 (IntKind.wrap .u64 (hi*2 ^ (min (Int.toNat (IntKind.wrap .u64 nr)) 64))) (Int.fdiv lo (2 ^ (min (Int.toNat (IntKind.wrap .u64 (64 - (IntKind.wrap .u64 nr)))) 64))))*4294967296))+(Int.fdiv (IntKind.wrap .u64 (lo*2 ^ (min (Int.toNat (IntKind.wrap .u64 nr)) 64))) (2 ^ 32)))) - (IntKind.wrap .u64 (acr*(IntKind.wrap .u64 (y*2 ^ (min (Int.toNat (IntKind.wrap .u64 nr)) 64))))))) (Int.fdiv (IntKind.wrap .u64 (y*2 ^ (min (Int.toNat (IntKind.wrap .u64 nr)) 64))) (2 ^ 32))))))) ((IntKind.wrap .u64 (Int.tdiv (aB .or .u64 (IntKind.wrap .u64 (hi*2 ^ (min (Int.toNat (IntKind.wrap .u64 nr)) 64))) (Int.fdiv lo (2 ^ (min (Int.toNat (IntKind.wrap .u64 (64 - (IntKind.wrap .u64 nr)))) 64)))) (Int.fdiv (IntKind.wrap .u64 (y*2 ^ (min (Int.toNat (IntKind.wrap .u64 nr)) 64))) (2 ^ 32)))),(IntKind.wrap .u64 ((aB .or .u64 (IntKind.wrap .u64 (hi*2 ^ (min (Int.toNat (IntKind.wrap .u64 nr)) 64))) (Int.fdiv lo (2 ^ (min (Int.toNat (IntKind.wrap .u64 (64 - (IntKind.wrap .u64 nr)))) 64)))) - (IntKind.wrap .u64 ((IntKind.wrap .u64 (Int.tdiv (aB .or .u64 (IntKind.wrap .u64 (hi*2 ^ (min (Int.toNat (IntKind.wrap .u64 nr)) 64))) (Int.fdiv lo (2 ^ (min (Int.toNat (IntKind.wrap .u64 (64 - (IntKind.wrap .u64 nr)))) 64)))) (Int.fdiv (IntKind.wrap .u64 (y*2 ^ (min (Int.toNat (IntKind.wrap .u64 nr)) 64))) (2 ^ 32))))*(Int.fdiv (IntKind.wrap .u64 (y*2 ^ (min (Int.toNat (IntKind.wrap .u64 nr)) 64))) (2 ^ 32))))))))))))))))
def Gm (N:Nat):Int->Int->Int->(Ky5)->Bool:=ay N (Mm N)
def k8 (N:Nat) (Zw:LI) (Z0:Int) (e0:Kz0):(Int × Int × LI)->((Int × Int × LI)->Bool)->Bool:=λv_ K=>match v_ with
 | (rest,i,q)=>(cond (decide (i>=0)) (inR i Zw.length&&Gm N rest (Zw.getD i.toNat 0) Z0 (λnr Zo=>inR i q.length&&(decide (i.toNat<q.length)&&(af .i64 (i - 1)&&K (Zo,(i - 1),(q.set i.toNat nr)))))) (e0 rest q))
def rQ (N:Nat) (x:LI) (d:Int) (k0:LI->Int->Bool):Bool:=
 (gb 8 ((x.length:Nat):Int) ((x.length:Nat):Int)&&(af .i64 (((x.length:Nat):Int) - 1)&&ai N (k8 N x d (λaaL q_1=>wW N q_1 (λmr=>decide ((0+mr)<=q_1.length)&&k0 (List.take mr (List.drop 0 q_1)) aaL))) (0,(((x.length:Nat):Int) - 1),(List.replicate (Int.toNat ((x.length:Nat):Int)) (0:Int)))))
def oV (N:Nat):LI->Int->(LI->Int->Bool)->Bool:=ay N (rQ N)
def ov (N:Nat) (words rest:Int) (t24:LI) (t25:Int) (e0:Kz9):(Int × LI)->((Int × LI)->Bool)->Bool:=λv_ K=>match v_ with
 | (t26,z)=>(cond (decide (t26<t25)) (inR t26 t24.length&&(af .i64 (words+t26)&&(inR (words+t26) z.length&&(decide ((Int.toNat (words+t26))<z.length)&&(decide (0<=rest)&&(inR (words+t26) z.length&&(decide ((Int.toNat (words+t26))<z.length)&&(af .i64 (words+t26)&&(af .i64 ((words+t26)+1)&&(decide (0<=(IntKind.wrap .u64 (64 - rest)))&&(inR ((words+t26)+1) (List.length (z.set (Int.toNat (words+t26)) (aB .or .u64 (z.getD (Int.toNat (words+t26)) 0) (IntKind.wrap .u64 ((t24.getD t26.toNat 0)*2 ^ (min rest.toNat 64))))))&&(decide ((Int.toNat ((words+t26)+1))<(List.length (z.set (Int.toNat (words+t26)) (aB .or .u64 (z.getD (Int.toNat (words+t26)) 0) (IntKind.wrap .u64 ((t24.getD t26.toNat 0)*2 ^ (min rest.toNat 64)))))))&&(af .i64 (t26+1)&&K ((t26+1),(List.set (z.set (Int.toNat (words+t26)) (aB .or .u64 (z.getD (Int.toNat (words+t26)) 0) (IntKind.wrap .u64 ((t24.getD t26.toNat 0)*2 ^ (min rest.toNat 64))))) (Int.toNat ((words+t26)+1)) (Int.fdiv (t24.getD t26.toNat 0) (2 ^ (min (Int.toNat (IntKind.wrap .u64 (64 - rest))) 64)))))))))))))))))) (e0 z))
def Tl (N:Nat) (x:LI) (n:Int) (k0:Bool) (k1:Kz1):Bool:=
 (cond (((x.length:Nat):Int)==0) k0 (af .i64 (IntKind.wrap .u64 (Int.tdiv n 64))&&(af .i64 ((IntKind.wrap .u64 (Int.tdiv n 64))+((x.length:Nat):Int))&&(af .i64 (((IntKind.wrap .u64 (Int.tdiv n 64))+((x.length:Nat):Int))+1)&&(gb 8 (((IntKind.wrap .u64 (Int.tdiv n 64))+((x.length:Nat):Int))+1) (((IntKind.wrap .u64 (Int.tdiv n 64))+((x.length:Nat):Int))+1)&&ai N (ov N (IntKind.wrap .u64 (Int.tdiv n 64)) (Int.tmod n 64) x ((x.length:Nat):Int) (λz_1=>wW N z_1 (λmr=>k1 mr z_1))) (0,(List.replicate (Int.toNat (((IntKind.wrap .u64 (Int.tdiv n 64))+((x.length:Nat):Int))+1)) (0:Int))))))))
def Ps (N:Nat):LI->Int->(Bool)->(Kz1)->Bool:=ay N (Tl N)
def pW (N u u_2:Nat) (Z3:LI) (n:Int) (u_3:LI) (e0:Kz5):(Int × Int)->((Int × Int)->Bool)->Bool:=λv_ K=>match v_ with
 | (q,rest)=>(af .i64 (n - 2)&&(inR (n - 2) Z3.length&&Gn N q (Z3.getD (Int.toNat (n - 2)) 0) (λZr ZF=>cond ((decide (Zr<rest))==false) (cond ((Zr==rest)==true) (af .i64 (n - 2)&&(inR (n - 2) u_2&&(decide ((u+(Int.toNat (n - 2)))<u_3.length)&&cond (decide (ZF<=(u_3.getD (u+(Int.toNat (n - 2))) 0))) (e0 q) (af .i64 (n - 1)&&(inR (n - 1) Z3.length&&sQ2 N rest (Z3.getD (Int.toNat (n - 1)) 0) 0 (λZC n5=>cond (n5 != 0) (e0 (IntKind.wrap .u64 (q - 1))) (K ((IntKind.wrap .u64 (q - 1)),ZC)))))))) (af .i64 (n - 1)&&(inR (n - 1) Z3.length&&sQ2 N rest (Z3.getD (Int.toNat (n - 1)) 0) 0 (λn6 n7=>cond (n7 != 0) (e0 (IntKind.wrap .u64 (q - 1))) (K ((IntKind.wrap .u64 (q - 1)),n6)))))) (e0 q))))
def uD (N Z7 Z5:Nat) (v b:LI) (k0:Kz5):Bool:=
 (inR ((v.length:Nat):Int) Z5&&(decide ((Z7+(Int.toNat ((v.length:Nat):Int)))<b.length)&&(af .i64 (((v.length:Nat):Int) - 1)&&(inR (((v.length:Nat):Int) - 1) v.length&&cond (decide ((b.getD (Z7+(Int.toNat ((v.length:Nat):Int))) 0)>=(v.getD (Int.toNat (((v.length:Nat):Int) - 1)) 0))) (k0 18446744073709551615) (inR ((v.length:Nat):Int) Z5&&(decide ((Z7+(Int.toNat ((v.length:Nat):Int)))<b.length)&&(af .i64 (((v.length:Nat):Int) - 1)&&(inR (((v.length:Nat):Int) - 1) Z5&&(decide ((Z7+(Int.toNat (((v.length:Nat):Int) - 1)))<b.length)&&(af .i64 (((v.length:Nat):Int) - 1)&&(inR (((v.length:Nat):Int) - 1) v.length&&Gm N (b.getD (Z7+(Int.toNat ((v.length:Nat):Int))) 0) (b.getD (Z7+(Int.toNat (((v.length:Nat):Int) - 1))) 0) (v.getD (Int.toNat (((v.length:Nat):Int) - 1)) 0) (λnr Zo=>ai N (pW N Z7 Z5 v ((v.length:Nat):Int) b (λt4=>k0 t4)) (nr,Zo)))))))))))))
def Cj (N:Nat):Nat->Nat->LI->LI->(Kz5)->Bool:=ay N (uD N)
def rK (N u u_2:Nat) (Z3:LI) (n q t17:Int) (e0:Int->Int->LI->Bool):(Int × Int × Int × LI)->((Int × Int × Int × LI)->Bool)->Bool:=λv_ K=>match v_ with
 | (carry,borrow,t18,u_3)=>(cond (decide (t18<t17)) (inR t18 Z3.length&&lV N q (Z3.getD t18.toNat 0) 0 carry (λZo Zr=>inR t18 u_2&&(decide ((u+t18.toNat)<u_3.length)&&sQ4 N (u_3.getD (u+t18.toNat) 0) Zr borrow (λZF ZC=>inR t18 u_2&&(decide ((u+t18.toNat)<u_3.length)&&(af .i64 (t18+1)&&K (Zo,ZC,(t18+1),(u_3.set (u+t18.toNat) ZF)))))))) (e0 carry borrow u_3))
def rN (N u_8 u_9:Nat) (v_3:LI) (Z8 q_2 aam t60:Int) (e0:Kz0):(Int × Int × LI)->((Int × Int × LI)->Bool)->Bool:=λv_ K=>match v_ with
 | (aai,t61,aaX)=>(cond (decide (t61<t60)) (inR t61 u_9&&(decide ((u_8+t61.toNat)<aaX.length)&&(inR t61 v_3.length&&sQ2 N (aaX.getD (u_8+t61.toNat) 0) (v_3.getD t61.toNat 0) aai (λn7 n8=>inR t61 u_9&&(decide ((u_8+t61.toNat)<aaX.length)&&(af .i64 (t61+1)&&K (n8,(t61+1),(aaX.set (u_8+t61.toNat) n7)))))))) (e0 aai aaX))
def rM (N u_5 u_6:Nat) (v_2:LI) (ZV:Int) (e0:Kz0):(Int × Int × LI)->((Int × Int × LI)->Bool)->Bool:=λv_ K=>match v_ with
 | (q_1,aal,u_7)=>(cond (aal != 0) (ai N (rN N u_5 u_6 v_2 ZV q_1 aal ZV (λabW aa2=>inR ZV u_6&&(decide ((u_5+ZV.toNat)<aa2.length)&&sQ2 N (aa2.getD (u_5+ZV.toNat) 0) 0 abW (λn9 n10=>inR ZV u_6&&(decide ((u_5+ZV.toNat)<aa2.length)&&K ((IntKind.wrap .u64 (q_1 - 1)),(IntKind.wrap .u64 (aal - n10)),(aa2.set (u_5+ZV.toNat) n9))))))) (0,0,u_7)) (e0 q_1 u_7))
def v7 (N Z7 Z5:Nat) (v b:LI) (k0:Kz0):Bool:=
 (Cj N Z7 Z5 v b (λnr=>ai N (rK N Z7 Z5 v ((v.length:Nat):Int) nr ((v.length:Nat):Int) (λZJ aay u_4=>inR ((v.length:Nat):Int) Z5&&(decide ((Z7+(Int.toNat ((v.length:Nat):Int)))<u_4.length)&&sQ4 N (u_4.getD (Z7+(Int.toNat ((v.length:Nat):Int))) 0) ZJ aay (λn5 n6=>inR ((v.length:Nat):Int) Z5&&(decide ((Z7+(Int.toNat ((v.length:Nat):Int)))<u_4.length)&&ai N (rM N Z7 Z5 v ((v.length:Nat):Int) (λq_3 b0=>k0 q_3 b0)) (nr,n6,(u_4.set (Z7+(Int.toNat ((v.length:Nat):Int))) n5))))))) (0,0,0,b)))
def Eg (N:Nat):Nat->Nat->LI->LI->(Kz0)->Bool:=ay N (v7 N)
def tI (N u u_2 v v_2:Nat) (n:Int) (u_3 v_3:LI) (e0:Kz5):(Int × Int)->((Int × Int)->Bool)->Bool:=λv_ K=>match v_ with
 | (q,rest)=>(af .i64 (n - 2)&&(inR (n - 2) v_2&&(decide ((v+(Int.toNat (n - 2)))<v_3.length)&&Gn N q (v_3.getD (v+(Int.toNat (n - 2))) 0) (λZr ZF=>cond ((decide (Zr<rest))==false) (cond ((Zr==rest)==true) (af .i64 (n - 2)&&(inR (n - 2) u_2&&(decide ((u+(Int.toNat (n - 2)))<u_3.length)&&cond (decide (ZF<=(u_3.getD (u+(Int.toNat (n - 2))) 0))) (e0 q) (af .i64 (n - 1)&&(inR (n - 1) v_2&&(decide ((v+(Int.toNat (n - 1)))<v_3.length)&&sQ2 N rest (v_3.getD (v+(Int.toNat (n - 1))) 0) 0 (λZC n5=>cond (n5 != 0) (e0 (IntKind.wrap .u64 (q - 1))) (K ((IntKind.wrap .u64 (q - 1)),ZC))))))))) (af .i64 (n - 1)&&(inR (n - 1) v_2&&(decide ((v+(Int.toNat (n - 1)))<v_3.length)&&sQ2 N rest (v_3.getD (v+(Int.toNat (n - 1))) 0) 0 (λn6 n7=>cond (n7 != 0) (e0 (IntKind.wrap .u64 (q - 1))) (K ((IntKind.wrap .u64 (q - 1)),n6))))))) (e0 q)))))
def PX (N Z7 Z5 v_0 Z3:Nat) (b Zl:LI) (k0:Kz5):Bool:=
 (inR ((Z3:Nat):Int) Z5&&(decide ((Z7+(Int.toNat ((Z3:Nat):Int)))<b.length)&&(af .i64 (((Z3:Nat):Int) - 1)&&(inR (((Z3:Nat):Int) - 1) Z3&&(decide ((v_0+(Int.toNat (((Z3:Nat):Int) - 1)))<Zl.length)&&cond (decide ((b.getD (Z7+(Int.toNat ((Z3:Nat):Int))) 0)>=(Zl.getD (v_0+(Int.toNat (((Z3:Nat):Int) - 1))) 0))) (k0 18446744073709551615) (inR ((Z3:Nat):Int) Z5&&(decide ((Z7+(Int.toNat ((Z3:Nat):Int)))<b.length)&&(af .i64 (((Z3:Nat):Int) - 1)&&(inR (((Z3:Nat):Int) - 1) Z5&&(decide ((Z7+(Int.toNat (((Z3:Nat):Int) - 1)))<b.length)&&(af .i64 (((Z3:Nat):Int) - 1)&&(inR (((Z3:Nat):Int) - 1) Z3&&(decide ((v_0+(Int.toNat (((Z3:Nat):Int) - 1)))<Zl.length)&&Gm N (b.getD (Z7+(Int.toNat ((Z3:Nat):Int))) 0) (b.getD (Z7+(Int.toNat (((Z3:Nat):Int) - 1))) 0) (Zl.getD (v_0+(Int.toNat (((Z3:Nat):Int) - 1))) 0) (λnr Zo=>ai N (tI N Z7 Z5 v_0 Z3 ((Z3:Nat):Int) b Zl (λt4=>k0 t4)) (nr,Zo)))))))))))))))
def Rz (N:Nat):Nat->Nat->Nat->Nat->LI->LI->(Kz5)->Bool:=ay N (PX N)
def gZ (N u u_2 v v_2:Nat) (n q t17:Int) (v_3:LI) (e0:Int->Int->LI->Bool):(Int × Int × Int × LI)->((Int × Int × Int × LI)->Bool)->Bool:=λv_ K=>match v_ with
 | (carry,borrow,t18,u_3)=>(cond (decide (t18<t17)) (inR t18 v_2&&(decide ((v+t18.toNat)<v_3.length)&&lV N q (v_3.getD (v+t18.toNat) 0) 0 carry (λZo Zr=>inR t18 u_2&&(decide ((u+t18.toNat)<u_3.length)&&sQ4 N (u_3.getD (u+t18.toNat) 0) Zr borrow (λZF ZC=>inR t18 u_2&&(decide ((u+t18.toNat)<u_3.length)&&(af .i64 (t18+1)&&K (Zo,ZC,(t18+1),(u_3.set (u+t18.toNat) ZF))))))))) (e0 carry borrow u_3))
def g8 (N u_8 u_9 v_7 v_8:Nat) (Z8 q_2 aam t60:Int) (v_9:LI) (e0:Kz0):(Int × Int × LI)->((Int × Int × LI)->Bool)->Bool:=λv_ K=>match v_ with
 | (aai,t61,aaX)=>(cond (decide (t61<t60)) (inR t61 u_9&&(decide ((u_8+t61.toNat)<aaX.length)&&(inR t61 v_8&&(decide ((v_7+t61.toNat)<v_9.length)&&sQ2 N (aaX.getD (u_8+t61.toNat) 0) (v_9.getD (v_7+t61.toNat) 0) aai (λn7 n8=>inR t61 u_9&&(decide ((u_8+t61.toNat)<aaX.length)&&(af .i64 (t61+1)&&K (n8,(t61+1),(aaX.set (u_8+t61.toNat) n7))))))))) (e0 aai aaX))
def ze (N u_5 u_6 v_4 v_5:Nat) (ZV:Int) (v_6:LI) (e0:Kz0):(Int × Int × LI)->((Int × Int × LI)->Bool)->Bool:=λv_ K=>match v_ with
 | (q_1,aal,u_7)=>(cond (aal != 0) (ai N (g8 N u_5 u_6 v_4 v_5 ZV q_1 aal ZV v_6 (λabW aa2=>inR ZV u_6&&(decide ((u_5+ZV.toNat)<aa2.length)&&sQ2 N (aa2.getD (u_5+ZV.toNat) 0) 0 abW (λn9 n10=>inR ZV u_6&&(decide ((u_5+ZV.toNat)<aa2.length)&&K ((IntKind.wrap .u64 (q_1 - 1)),(IntKind.wrap .u64 (aal - n10)),(aa2.set (u_5+ZV.toNat) n9))))))) (0,0,u_7)) (e0 q_1 u_7))
def MG (N Z7 Z5 v_0 Z3:Nat) (b Zl:LI) (k0:Kz0):Bool:=
 (Rz N Z7 Z5 v_0 Z3 b Zl (λnr=>ai N (gZ N Z7 Z5 v_0 Z3 ((Z3:Nat):Int) nr ((Z3:Nat):Int) Zl (λZJ aay u_4=>inR ((Z3:Nat):Int) Z5&&(decide ((Z7+(Int.toNat ((Z3:Nat):Int)))<u_4.length)&&sQ4 N (u_4.getD (Z7+(Int.toNat ((Z3:Nat):Int))) 0) ZJ aay (λn5 n6=>inR ((Z3:Nat):Int) Z5&&(decide ((Z7+(Int.toNat ((Z3:Nat):Int)))<u_4.length)&&ai N (ze N Z7 Z5 v_0 Z3 ((Z3:Nat):Int) Zl (λq_3 b0=>k0 q_3 b0)) (nr,n6,(u_4.set (Z7+(Int.toNat ((Z3:Nat):Int))) n5))))))) (0,0,0,b)))
def Pa (N:Nat):Nat->Nat->Nat->Nat->LI->LI->(Kz0)->Bool:=ay N (MG N)
def vV (N x ZN:Nat) (ZT:LI) (e0:Kz5):(Int)->((Int)->Bool)->Bool:=λv_ K=>match v_ with
 | n=>(cond ((decide (n>0))==true) (af .i64 (n - 1)&&(inR (n - 1) ZN&&(decide ((x+(Int.toNat (n - 1)))<ZT.length)&&cond ((ZT.getD (x+(Int.toNat (n - 1))) 0)==0) (af .i64 (n - 1)&&K (n - 1)) (e0 n)))) (e0 n))
def p7 (N ZY Zw:Nat) (b:LI) (k0:Kz6):Bool:=
 (ai N (vV N ZY Zw b (λZV=>decide (0<=ZV/\ZV<=((Zw:Nat):Int))&&k0 (ZV.toNat - 0))) ((Zw:Nat):Int))
def qU (N:Nat):Nat->Nat->LI->(Kz6)->Bool:=ay N (p7 N)
def RU (N ZY Zw:Nat) (i:Int) (b:LI) (k0:Kz5):Bool:=
 (cond (decide (i<((Zw:Nat):Int))) (inR i Zw&&(decide ((ZY+i.toNat)<b.length)&&k0 (b.getD (ZY+i.toNat) 0))) (k0 0))
def JP (N:Nat):Nat->Nat->Int->LI->(Kz5)->Bool:=RU N
def l7 (N x ZN:Nat) (words rest:Int) (t37 abe:Nat) (t38:Int) (ZT:LI) (e0:Kz5):(Int × Int)->((Int × Int)->Bool)->Bool:=λv_ K=>match v_ with
 | (lost,t39)=>(cond (decide (t39<t38)) (inR t39 abe&&(decide ((t37+t39.toNat)<ZT.length)&&(af .i64 (t39+1)&&K ((aB .or .u64 lost (ZT.getD (t37+t39.toNat) 0)),(t39+1))))) (e0 lost))
def i6 (N x_4 x_5:Nat) (aaF aaL acp t53:Int) (x_6:LI) (e0:Kz9):(Int × LI)->((Int × LI)->Bool)->Bool:=λv_ K=>match v_ with
 | (t54,z)=>(cond (decide (t54<t53)) (af .i64 (aaF+t54)&&JP N x_4 x_5 (aaF+t54) x_6 (λnr=>decide (0<=aaL)&&(af .i64 (aaF+t54)&&(af .i64 ((aaF+t54)+1)&&JP N x_4 x_5 ((aaF+t54)+1) x_6 (λZo=>decide (0<=(IntKind.wrap .u64 (64 - aaL)))&&(inR t54 z.length&&(decide (t54.toNat<z.length)&&(af .i64 (t54+1)&&K ((t54+1),(z.set t54.toNat (aB .or .u64 (Int.fdiv nr (2 ^ (min aaL.toNat 64))) (IntKind.wrap .u64 (Zo*2 ^ (min (Int.toNat (IntKind.wrap .u64 (64 - aaL))) 64)))))))))))))) (e0 z))
def IK (N ZY Zw:Nat) (n:Int) (b:LI) (k0:LI->Bool->Bool):Bool:=
 (cond (decide ((IntKind.wrap .u64 (Int.tdiv n 64))>=(IntKind.wrap .u64 ((Zw:Nat):Int)))) (k0 [] (decide (((Zw:Nat):Int)>0))) (af .i64 (IntKind.wrap .u64 (Int.tdiv n 64))&&(inR (IntKind.wrap .u64 (Int.tdiv n 64)) Zw&&(decide ((ZY+(Int.toNat (IntKind.wrap .u64 (Int.tdiv n 64))))<b.length)&&(decide (0<=(Int.tmod n 64))&&(decide (0<=(IntKind.wrap .u64 (Int.tdiv n 64))/\(IntKind.wrap .u64 (Int.tdiv n 64))<=((Zw:Nat):Int))&&ai N (l7 N ZY Zw (IntKind.wrap .u64 (Int.tdiv n 64)) (Int.tmod n 64) ZY ((Int.toNat (IntKind.wrap .u64 (Int.tdiv n 64))) - 0) ((((Int.toNat (IntKind.wrap .u64 (Int.tdiv n 64))) - 0):Nat):Int) b (λadc=>af .i64 (((Zw:Nat):Int) - (IntKind.wrap .u64 (Int.tdiv n 64)))&&(gb 8 (((Zw:Nat):Int) - (IntKind.wrap .u64 (Int.tdiv n 64))) (((Zw:Nat):Int) - (IntKind.wrap .u64 (Int.tdiv n 64)))&&ai N (i6 N ZY Zw (IntKind.wrap .u64 (Int.tdiv n 64)) (Int.tmod n 64) adc (((List.length (List.replicate (Int.toNat (((Zw:Nat):Int) - (IntKind.wrap .u64 (Int.tdiv n 64)))) (0:Int))):Nat):Int) b (λz_1=>wW N z_1 (λmr=>decide ((0+mr)<=z_1.length)&&k0 (List.take mr (List.drop 0 z_1)) (adc != 0)))) (0,(List.replicate (Int.toNat (((Zw:Nat):Int) - (IntKind.wrap .u64 (Int.tdiv n 64)))) (0:Int)))))) ((aB .and .u64 (b.getD (ZY+(Int.toNat (IntKind.wrap .u64 (Int.tdiv n 64)))) 0) (IntKind.wrap .u64 ((IntKind.wrap .u64 ((1:Int)*2 ^ (min (Int.toNat (Int.tmod n 64)) 64))) - 1))),0)))))))
def JK (N:Nat):Nat->Nat->Int->LI->(LI->Bool->Bool)->Bool:=ay N (IK N)
def PG (N:Nat) (up:Int) (u Z5:Nat) (n:Int) (e0:Kz3):(Int × LI × LI)->((Int × LI × LI)->Bool)->Bool:=λv_ K=>match v_ with
 | (j,u_2,q)=>(cond (decide (j>=0)) (af .i64 (j+n)&&(af .i64 ((j+n)+1)&&(decide (0<=j/\j<=((j+n)+1)/\((j+n)+1)<=((Z5:Nat):Int))&&Eg N (u+j.toNat) ((Int.toNat ((j+n)+1)) - j.toNat) [] u_2 (λZF s6=>inR j q.length&&(decide (j.toNat<q.length)&&(af .i64 (j - 1)&&K ((j - 1),s6,(q.set j.toNat ZF)))))))) (e0 u_2 q))
def BI (N:Nat) (aez:Int) (v Z3 u_5 u_6:Nat) (ZV:Int) (v_2:LI) (e0:Kz3):(Int × LI × LI)->((Int × LI × LI)->Bool)->Bool:=λv_ K=>match v_ with
 | (ZP,u_7,q_3)=>(cond (decide (ZP>=0)) (af .i64 (ZP+ZV)&&(af .i64 ((ZP+ZV)+1)&&(decide (0<=ZP/\ZP<=((ZP+ZV)+1)/\((ZP+ZV)+1)<=((u_6:Nat):Int))&&Pa N (u_5+ZP.toNat) ((Int.toNat ((ZP+ZV)+1)) - ZP.toNat) v Z3 u_7 v_2 (λZC s7=>inR ZP q_3.length&&(decide (ZP.toNat<q_3.length)&&(af .i64 (ZP - 1)&&K ((ZP - 1),s7,(q_3.set ZP.toNat ZC)))))))) (e0 u_7 q_3))
def Nb (N:Nat) (x y:LI) (afB:Int) (aaX:Nat) (aa2 q_6:LI) (k0:Kz3):Bool:=
 (qU N 0 aaX aa2 (λacY=>JK N 0 acY afB aa2 (λs8 cr=>wW N q_6 (λadf=>decide ((0+adf)<=q_6.length)&&k0 (List.take adf (List.drop 0 q_6)) s8))))
def MR (N:Nat) (x y:LI) (k0:Kz3):Bool:=
 (Dd N x y (λnr=>cond (decide (nr<0)) (rG N x (λnsr=>k0 [] nsr)) (cond (((y.length:Nat):Int)==1) (inR 0 y.length&&oV N x (y.getD 0 0) (λZm Zo=>kc N Zo (λZs=>k0 Zm Zs))) (af .i64 (((y.length:Nat):Int) - 1)&&(inR (((y.length:Nat):Int) - 1) y.length&&Ro N (y.getD (Int.toNat (((y.length:Nat):Int) - 1)) 0) (λZr=>Ps N y (IntKind.wrap .u64 Zr) (Ps N x (IntKind.wrap .u64 Zr) (af .i64 (((x.length:Nat):Int)+1)&&(decide (0<=(((x.length:Nat):Int)+1)/\(((x.length:Nat):Int)+1)<=2)&&(af .i64 (((((Int.toNat (((x.length:Nat):Int)+1)) - 0):Nat):Int) - 0)&&(gb 8 (((((Int.toNat (((x.length:Nat):Int)+1)) - 0):Nat):Int) - 0) (((((Int.toNat (((x.length:Nat):Int)+1)) - 0):Nat):Int) - 0)&&(af .i64 (((((Int.toNat (((x.length:Nat):Int)+1)) - 0):Nat):Int) - 0)&&(af .i64 ((((((Int.toNat (((x.length:Nat):Int)+1)) - 0):Nat):Int) - 0) - 1)&&ai N (PG N (IntKind.wrap .u64 Zr) 0 ((Int.toNat (((x.length:Nat):Int)+1)) - 0) 0 (λu_3 q_1=>Nb N x y (IntKind.wrap .u64 Zr) ((Int.toNat (((x.length:Nat):Int)+1)) - 0) u_3 q_1 k0)) (((((((Int.toNat (((x.length:Nat):Int)+1)) - 0):Nat):Int) - 0) - 1),([]++[0,0]),(List.replicate (Int.toNat (((((Int.toNat (((x.length:Nat):Int)+1)) - 0):Nat):Int) - 0)) (0:Int))))))))) (λZ4 Zz=>decide ((0+Z4)<=Zz.length)&&(decide ((List.length ((List.take Z4 (List.drop 0 Zz))++[0,0]))*8<=140737488355328)&&(af .i64 (((x.length:Nat):Int)+1)&&(decide (0<=(((x.length:Nat):Int)+1)/\(((x.length:Nat):Int)+1)<=(((List.length ((List.take Z4 (List.drop 0 Zz))++[0,0])):Nat):Int))&&(af .i64 (((((Int.toNat (((x.length:Nat):Int)+1)) - 0):Nat):Int) - 0)&&(gb 8 (((((Int.toNat (((x.length:Nat):Int)+1)) - 0):Nat):Int) - 0) (((((Int.toNat (((x.length:Nat):Int)+1)) - 0):Nat):Int) - 0)&&(af .i64 (((((Int.toNat (((x.length:Nat):Int)+1)) - 0):Nat):Int) - 0)&&(af .i64 ((((((Int.toNat (((x.length:Nat):Int)+1)) - 0):Nat):Int) - 0) - 1)&&ai N (PG N (IntKind.wrap .u64 Zr) 0 ((Int.toNat (((x.length:Nat):Int)+1)) - 0) 0 (λu_4 q_2=>Nb N x y (IntKind.wrap .u64 Zr) ((Int.toNat (((x.length:Nat):Int)+1)) - 0) u_4 q_2 k0)) (((((((Int.toNat (((x.length:Nat):Int)+1)) - 0):Nat):Int) - 0) - 1),((List.take Z4 (List.drop 0 Zz))++[0,0]),(List.replicate (Int.toNat (((((Int.toNat (((x.length:Nat):Int)+1)) - 0):Nat):Int) - 0)) (0:Int)))))))))))) (λmr Zt=>Ps N x (IntKind.wrap .u64 Zr) (af .i64 (((x.length:Nat):Int)+1)&&(decide (0<=(((x.length:Nat):Int)+1)/\(((x.length:Nat):Int)+1)<=2)&&(af .i64 (((((Int.toNat (((x.length:Nat):Int)+1)) - 0):Nat):Int) - ((mr:Nat):Int))&&(gb 8 (((((Int.toNat (((x.length:Nat):Int)+1)) - 0):Nat):Int) - ((mr:Nat):Int)) (((((Int.toNat (((x.length:Nat):Int)+1)) - 0):Nat):Int) - ((mr:Nat):Int))&&(af .i64 (((((Int.toNat (((x.length:Nat):Int)+1)) - 0):Nat):Int) - ((mr:Nat):Int))&&(af .i64 ((((((Int.toNat (((x.length:Nat):Int)+1)) - 0):Nat):Int) - ((mr:Nat):Int)) - 1)&&ai N (BI N (IntKind.wrap .u64 Zr) 0 mr 0 ((Int.toNat (((x.length:Nat):Int)+1)) - 0) ((mr:Nat):Int) Zt (λu_8 q_4=>Nb N x y (IntKind.wrap .u64 Zr) ((Int.toNat (((x.length:Nat):Int)+1)) - 0) u_8 q_4 k0)) (((((((Int.toNat (((x.length:Nat):Int)+1)) - 0):Nat):Int) - ((mr:Nat):Int)) - 1),([]++[0,0]),(List.replicate (Int.toNat (((((Int.toNat (((x.length:Nat):Int)+1)) - 0):Nat):Int) - ((mr:Nat):Int))) (0:Int))))))))) (λZL Zx=>decide ((0+ZL)<=Zx.length)&&(decide ((List.length ((List.take ZL (List.drop 0 Zx))++[0,0]))*8<=140737488355328)&&(af .i64 (((x.length:Nat):Int)+1)&&(decide (0<=(((x.length:Nat):Int)+1)/\(((x.length:Nat):Int)+1)<=(((List.length ((List.take ZL (List.drop 0 Zx))++[0,0])):Nat):Int))&&(af .i64 (((((Int.toNat (((x.length:Nat):Int)+1)) - 0):Nat):Int) - ((mr:Nat):Int))&&(gb 8 (((((Int.toNat (((x.length:Nat):Int)+1)) - 0):Nat):Int) - ((mr:Nat):Int)) (((((Int.toNat (((x.length:Nat):Int)+1)) - 0):Nat):Int) - ((mr:Nat):Int))&&(af .i64 (((((Int.toNat (((x.length:Nat):Int)+1)) - 0):Nat):Int) - ((mr:Nat):Int))&&(af .i64 ((((((Int.toNat (((x.length:Nat):Int)+1)) - 0):Nat):Int) - ((mr:Nat):Int)) - 1)&&ai N (BI N (IntKind.wrap .u64 Zr) 0 mr 0 ((Int.toNat (((x.length:Nat):Int)+1)) - 0) ((mr:Nat):Int) Zt (λu_9 q_5=>Nb N x y (IntKind.wrap .u64 Zr) ((Int.toNat (((x.length:Nat):Int)+1)) - 0) u_9 q_5 k0)) (((((((Int.toNat (((x.length:Nat):Int)+1)) - 0):Nat):Int) - ((mr:Nat):Int)) - 1),((List.take ZL (List.drop 0 Zx))++[0,0]),(List.replicate (Int.toNat (((((Int.toNat (((x.length:Nat):Int)+1)) - 0):Nat):Int) - ((mr:Nat):Int))) (0:Int))))))))))))))))))
def BA (N:Nat):LI->LI->(Kz3)->Bool:=ay N (MR N)
def Cn (N:Nat) (x:LI) (k0:Kz5):Bool:=
 (yX N x 0 (λnr=>k0 nr))
def uw (N:Nat):LI->(Kz5)->Bool:=Cn N
def GP (N:Nat) (e0:Kz3):(LI × LI)->((LI × LI)->Bool)->Bool:=λv_ K=>match v_ with
 | (ZN,y_2)=>(cond (decide (((y_2.length:Nat):Int)>1)) (qT N ZN (λZo=>af .i64 (Zo - 64)&&ux N ZN (Zo - 64) (λZr=>ux N y_2 (Zo - 64) (λZF=>ti N Zr ZF (λZC n5 n6 n7 cr=>cond (n5 != 0) (eh N ZC n5 n6 n7 cr ZN y_2 (λnsr Zm=>K (nsr,Zm))) (BA N ZN y_2 (λZs Zt=>K (y_2,Zt)))))))) (e0 ZN y_2))
def fD (N:Nat) (e0:Kz5):(Int × Int)->((Int × Int)->Bool)->Bool:=λv_ K=>match v_ with
 | (a,b)=>(cond (decide (b>0)) ((!decide (b=0))&&K (b,(Int.tmod a b))) (e0 a))
def yl (N:Nat) (x y x_4 y_4:LI) (k0:Kz9):Bool:=
 (cond (((y_4.length:Nat):Int)==0) (k0 x_4) (uw N x_4 (λn8=>uw N y_4 (λn9=>ai N (fD N (λZu=>kc N Zu (λs6=>k0 s6))) (n8,n9)))))
def PY (N:Nat) (x y Zw ZS:LI) (k0:Kz9):Bool:=
 (ai N (GP N (λZT y_3=>cond ((decide (((y_3.length:Nat):Int)>0))==true) (cond (decide (((ZT.length:Nat):Int)>1)) (BA N ZT y_3 (λZz Zx=>yl N x y y_3 Zx k0)) (yl N x y ZT y_3 k0)) (yl N x y ZT y_3 k0))) (Zw,ZS))
def SY (N:Nat) (x y:LI) (k0:Kz9):Bool:=
 (Dd N x y (λnr=>cond (decide (nr<0)) (PY N x y y x k0) (PY N x y x y k0)))
def Ch (N:Nat):LI->LI->(Kz9)->Bool:=ay N (SY N)
def PU (N:Nat) (neg:Bool) (abs:LI) (b Zl:Bool) (k0:Ky4):Bool:=
 (cond (neg==true) (k0 (decide (((abs.length:Nat):Int)>0)) []) (k0 false []))
def LD (N:Nat):Bool->LI->Bool->Bool->(Ky4)->Bool:=PU N
def SX (N:Nat) (neg:Bool) (abs:LI) (b:Bool) (Zl:LI) (Zq:Bool) (Zy:LI) (k0:Kz4):Bool:=
 (cond (neg==true) (k0 (decide (((abs.length:Nat):Int)>0))) (k0 false))
def Rt (N:Nat):Bool->LI->Bool->LI->Bool->LI->(Kz4)->Bool:=SX N
def IR (N:Nat) (neg:Bool) (a b:LI) (Zl Zq:Bool) (Zu Zy:LI) (k0:Kx5):Bool:=
 (rG N Zu (λZx=>LD N neg Zx Zl Zq (λcr s6=>rG N Zy (λs7=>Rt N false s7 cr Zx Zq s6 (λZp=>k0 cr Zx Zp s7)))))
def S4 (N:Nat) (neg:Bool) (a b:LI) (Zl Zq:Bool) (k0:Kx5):Bool:=
 (Ch N a b (λnsr=>Dd N nsr [1] (λnr=>cond (nr != 0) (BA N a nsr (λZm Zs=>BA N b nsr (λZt Zz=>IR N neg a b Zl Zq Zm Zt k0))) (IR N neg a b Zl Zq a b k0))))
def VP (N:Nat):Bool->LI->LI->Bool->Bool->(Kx5)->Bool:=ay N (S4 N)
def SE (N:Nat) (b Zl Zq:Bool) (Zy:LI) (ZK:Bool) (Z2:LI) (k0:Kx5):Bool:=
 (VP N (Zq != ZK) Zy Z2 b Zl (λcr nsr Zp Zm=>k0 cr nsr Zp Zm))
def Rk (N:Nat):Bool->Bool->Bool->LI->Bool->LI->(Kx5)->Bool:=SE N
def lc (N:Nat) (y_2:LI) (i a:Int) (adp:LI) (adq adr:Int) (t32:LI) (t33:Int) (e0:Kz0):(Int × Int × LI)->((Int × Int × LI)->Bool)->Bool:=λv_ K=>match v_ with
 | (carry,t34,z_1)=>(cond (decide (t34<t33)) (inR t34 t32.length&&(af .i64 (i+t34)&&(af .i64 (i+t34)&&(inR (i+t34) z_1.length&&(decide ((Int.toNat (i+t34))<z_1.length)&&lV N a (t32.getD t34.toNat 0) (z_1.getD (Int.toNat (i+t34)) 0) carry (λnr Zo=>inR (i+t34) z_1.length&&(decide ((Int.toNat (i+t34))<z_1.length)&&(af .i64 (t34+1)&&K (nr,(t34+1),(z_1.set (Int.toNat (i+t34)) Zo)))))))))) (e0 carry z_1))
def k9 (N:Nat) (ZS t25:LI) (t26:Int) (e0:Kz9):(Int × LI)->((Int × LI)->Bool)->Bool:=λv_ K=>match v_ with
 | (t27,z)=>(cond (decide (t27<t26)) (inR t27 t25.length&&ai N (lc N ZS t27 (t25.getD t27.toNat 0) t25 t26 t27 ZS ((ZS.length:Nat):Int) (λZJ z_2=>af .i64 (t27+((ZS.length:Nat):Int))&&(inR (t27+((ZS.length:Nat):Int)) z_2.length&&(decide ((Int.toNat (t27+((ZS.length:Nat):Int)))<z_2.length)&&(af .i64 (t27+1)&&K ((t27+1),(z_2.set (Int.toNat (t27+((ZS.length:Nat):Int))) ZJ))))))) (0,0,z)) (e0 z))
def Tj (N:Nat) (x y:LI) (k0:Kz9):Bool:=
 (cond ((((x.length:Nat):Int)==0)==false) (cond (((y.length:Nat):Int)==0) (k0 []) (af .i64 (((x.length:Nat):Int)+((y.length:Nat):Int))&&(gb 8 (((x.length:Nat):Int)+((y.length:Nat):Int)) (((x.length:Nat):Int)+((y.length:Nat):Int))&&ai N (k9 N y x ((x.length:Nat):Int) (λz_3=>wW N z_3 (λmr=>decide ((0+mr)<=z_3.length)&&k0 (List.take mr (List.drop 0 z_3))))) (0,(List.replicate (Int.toNat (((x.length:Nat):Int)+((y.length:Nat):Int))) (0:Int)))))) (k0 []))
def zu (N:Nat):LI->LI->(Kz9)->Bool:=ay N (Tj N)
def WC (N:Nat) (b:Bool) (Zl:LI) (Zq:Bool) (Zy:LI) (k0:Ky4):Bool:=
 (zu N Zl Zy (λnsr=>LM N (b != Zq) nsr b Zl (λcr=>k0 cr nsr)))
def W9 (N:Nat):Bool->LI->Bool->LI->(Ky4)->Bool:=WC N
def WD (N:Nat) (neg b:Bool) (Zl:LI) (Zq:Bool) (Zy ZK:LI) (k0:Kz4):Bool:=
 (cond (neg==true) (k0 (decide (((ZK.length:Nat):Int)>0))) (k0 false))
def Xa (N:Nat):Bool->Bool->LI->Bool->LI->LI->(Kz4)->Bool:=WD N
def Ta (N:Nat) (neg:Bool) (a:LI) (b Zl:Bool) (Zq:LI) (k0:Ky3):Bool:=
 (LD N neg a b Zl (λcr nsr=>Xa N false cr a Zl nsr Zq (λZp=>k0 cr Zp)))
def W6 (N:Nat):Bool->LI->Bool->Bool->LI->(Ky3)->Bool:=ay N (Ta N)
def Ws (N:Nat) (b Zl Zq:Bool) (Zy:LI) (k0:Kx5):Bool:=
 (rG N Zy (λnsr=>W6 N Zq nsr b Zl [1] (λcr Zp=>k0 cr nsr Zp [1])))
def VM (N:Nat):Bool->Bool->Bool->LI->(Kx5)->Bool:=Ws N
def ca (N:Nat) (x:Fl) (p:Bool) (p_1 p_2:Int) (n:Bool) (ZV:LI) (k0:Kx5):Bool:=
 (Gy N 1 (λZO Zs=>af .i64 (0 - p_2)&&VT N (IntKind.wrap .u64 (imm true p_2 (0 - p_2))) false ZO Zs (λaaZ Zt=>cond (decide (p_2<0)) (Rk N false false n ZV aaZ Zt (λabX Zz acn Zx=>k0 abX Zz acn Zx)) (W9 N n ZV aaZ Zt (λaco s6=>VM N false false aco s6 (λc8 s7 c9 s8=>k0 c8 s7 c9 s8))))))
def j_ (N:Nat) (x:Fl) (k0:Kx5):Bool:=
 (qS N x (λcr nr Zo Zr=>cX N (Zr==0) 4 (Rl N nr false (λZp nsr=>cond cr (Rs N Zp nsr (λZG Zm=>ca N x cr nr Zo ZG Zm k0)) (ca N x cr nr Zo Zp nsr k0)))))
def kd (N:Nat):Fl->(Kx5)->Bool:=ay N (j_ N)
def dn (N:Nat) (acM:LF) (adn Z_ aaa g_2 g_3:Int) (e0:List RY0->Bool):(Int × List RY0)->((Int × List RY0)->Bool)->Bool:=λv_ K=>match v_ with
 | (aa1,b2)=>(cond (decide (aa1<adn)) (inR aa1 acM.length&&kd N (acM.getD aa1.toNat none) (λZG Zs ZO Zt=>decide ((List.length (b2++[((ZG,Zs),(ZO,Zt))]))*8<=140737488355328)&&(af .i64 (aa1+1)&&K ((aa1+1),(b2++[((ZG,Zs),(ZO,Zt))]))))) (e0 b2))
def jr (N:Nat) (ZB Zn:Int) (Zv:LF) (k0:List RY0->Bool):Bool:=
 (Bv N ZB Zn Zv (λnr=>cX N (nr==0) nr (ai N (dn N Zv ((Zv.length:Nat):Int) 0 0 ZB Zn (λ(aaB:List RY0)=>k0 aaB)) (0,[]))))
def jw (N:Nat):Int->Int->LF->(List RY0->Bool)->Bool:=ay N (jr N)
def eW (N:Nat) (g_0 g_1 i j:Int) (b:List RY0) (k0:Kx5):Bool:=
 (af .i64 (i*g_1)&&(af .i64 ((i*g_1)+j)&&(inR ((i*g_1)+j) b.length&&(decide ((Int.toNat ((i*g_1)+j))<b.length)&&k0 (b.getD (Int.toNat ((i*g_1)+j)) ((false,[]),(false,[]))).1.1 (b.getD (Int.toNat ((i*g_1)+j)) ((false,[]),(false,[]))).1.2 (b.getD (Int.toNat ((i*g_1)+j)) ((false,[]),(false,[]))).2.1 (b.getD (Int.toNat ((i*g_1)+j)) ((false,[]),(false,[]))).2.2))))
def bd (N:Nat):Int->Int->Int->Int->List RY0->(Kx5)->Bool:=ay N (eW N)
def Wq (N:Nat) (ZY:Bool) (Zw:LI) (ZN:Bool) (ZT:LI) (k0:Kz9):Bool:=
 (cond (((ZT.length:Nat):Int)==0) (k0 [1]) (k0 ZT))
def Cg (N:Nat):Bool->LI->Bool->LI->(Kz9)->Bool:=Wq N
def SO (N:Nat) (neg:Bool) (a b:LI) (Zl Zq:Bool) (k0:Ky3):Bool:=
 (LD N neg a Zl Zq (λcr nsr=>Rt N false b cr a Zq nsr (λZp=>k0 cr Zp)))
def LH (N:Nat):Bool->LI->LI->Bool->Bool->(Ky3)->Bool:=ay N (SO N)
def Te (N:Nat) (ZY:Bool) (Zw:LI) (ZN:Bool) (ZT:LI) (b Zl:Bool) (k0:Kx5):Bool:=
 (rG N Zw (λnsr=>Cg N ZY Zw ZN ZT (λZm=>rG N Zm (λZs=>LH N (!ZY) nsr Zs b Zl (λcr Zp=>k0 cr nsr Zp Zs)))))
def VX (N:Nat):Bool->LI->Bool->LI->Bool->Bool->(Kx5)->Bool:=ay N (Te N)
def WA (N:Nat) (b:Bool) (Zl:LI) (Zq:Bool) (Zy:LI) (k0:Kz9):Bool:=
 (cond (((Zy.length:Nat):Int)==0) (k0 [1]) (k0 Zy))
def VU (N:Nat):Bool->LI->Bool->LI->(Kz9)->Bool:=WA N
def ng (N:Nat) (x y:LI) (k0:Kz9):Bool:=
 (BA N x y (λnsr Zm=>k0 nsr))
def Tm (N:Nat) (x y:LI) (k0:Kz9):Bool:=
 (cond ((((y.length:Nat):Int)==1)==true) (inR 0 y.length&&cond ((y.getD 0 0)==1) (k0 x) (ng N x y k0)) (ng N x y k0))
def vL (N:Nat):LI->LI->(Kz9)->Bool:=ay N (Tm N)
def nv (N:Nat) (Zw ZS:LI) (n t17:Int) (e0:Kz0):(Int × Int × LI)->((Int × Int × LI)->Bool)->Bool:=λv_ K=>match v_ with
 | (carry,t18,z)=>(cond (decide (t18<t17)) (yX N Zw t18 (λnr=>yX N ZS t18 (λZo=>sQ2 N nr Zo carry (λZr ZF=>inR t18 z.length&&(decide (t18.toNat<z.length)&&(af .i64 (t18+1)&&K (ZF,(t18+1),(z.set t18.toNat Zr)))))))) (e0 carry z))
def xg (N:Nat) (x y:LI) (k0:Kz9):Bool:=
 (af .i64 ((imm true ((x.length:Nat):Int) ((y.length:Nat):Int))+1)&&(gb 8 ((imm true ((x.length:Nat):Int) ((y.length:Nat):Int))+1) ((imm true ((x.length:Nat):Int) ((y.length:Nat):Int))+1)&&ai N (nv N x y (imm true ((x.length:Nat):Int) ((y.length:Nat):Int)) (imm true ((x.length:Nat):Int) ((y.length:Nat):Int)) (λZJ z_1=>inR (imm true ((x.length:Nat):Int) ((y.length:Nat):Int)) z_1.length&&(decide ((Int.toNat (imm true ((x.length:Nat):Int) ((y.length:Nat):Int)))<z_1.length)&&wW N (z_1.set (Int.toNat (imm true ((x.length:Nat):Int) ((y.length:Nat):Int))) ZJ) (λmr=>decide ((0+mr)<=(List.length (z_1.set (Int.toNat (imm true ((x.length:Nat):Int) ((y.length:Nat):Int))) ZJ)))&&k0 (List.take mr (List.drop 0 (z_1.set (Int.toNat (imm true ((x.length:Nat):Int) ((y.length:Nat):Int))) ZJ))))))) (0,0,(List.replicate (Int.toNat ((imm true ((x.length:Nat):Int) ((y.length:Nat):Int))+1)) (0:Int)))))
def xT (N:Nat):LI->LI->(Kz9)->Bool:=ay N (xg N)
def SS (N:Nat) (neg:Bool) (y:LI) (b:Bool) (Zl:LI) (k0:Ky4):Bool:=
 (cond (b==neg) (xT N Zl y (λnsr=>LM N neg nsr b Zl (λcr=>k0 cr nsr))) (Dd N Zl y (λnr=>cond (decide (nr>=0)) (yY N Zl y (λZm=>LM N b Zm b Zl (λZp=>k0 Zp Zm))) (yY N y Zl (λZs=>LM N neg Zs b Zl (λZG=>k0 ZG Zs))))))
def Rp (N:Nat):Bool->LI->Bool->LI->(Ky4)->Bool:=ay N (SS N)
def SQ (N:Nat) (ZY:Bool) (Zw:LI) (ZN:Bool) (ZT:LI) (b Zl Zq:Bool) (Zy:LI) (ZK:Bool) (Z2:LI) (k0:Kx5):Bool:=
 (Cg N ZY Zw ZN ZT (λnsr=>VU N Zq Zy ZK Z2 (λZm=>Ch N nsr Zm (λZs=>vL N nsr Zs (λZt=>vL N Zm Zs (λZz=>zu N Zw Zz (λZx=>Ee N ZY Zx false (λcr=>zu N Zy Zt (λs6=>Rp N Zq s6 cr Zx (λZp s7=>Ch N s7 Zs (λs8=>vL N s7 s8 (λs9=>rG N s9 (λs10=>vL N Zm s8 (λs11=>zu N Zt s11 (λaax=>LH N Zp s10 aax b Zl (λZG ZO=>k0 ZG s10 ZO aax))))))))))))))))
def VK (N:Nat):Bool->LI->Bool->LI->Bool->Bool->Bool->LI->Bool->LI->(Kx5)->Bool:=ay N (SQ N)
def Ml (N:Nat) (ZY:Bool) (Zw:LI) (ZN:Bool) (ZT:LI) (y_0:Bool) (ZS:LI) (y_2:Bool) (y_3:LI) (b Zl:Bool) (k0:Kx5):Bool:=
 (VX N y_0 ZS y_2 y_3 false false (λcr nsr Zp Zm=>VK N ZY Zw ZN ZT b Zl cr nsr Zp Zm (λZG Zs ZO Zt=>k0 ZG Zs ZO Zt)))
def Sk (N:Nat):Bool->LI->Bool->LI->Bool->LI->Bool->LI->Bool->Bool->(Kx5)->Bool:=ay N (Ml N)
def jz (N:Nat) (ZY:Bool) (Zw:LI) (ZN:Bool) (ZT:LI) (y_0:Bool) (ZS:LI) (y_2:Bool) (y_3:LI) (k0:Kx5):Bool:=
 (Sk N ZY Zw ZN ZT y_0 ZS y_2 y_3 false false (λcr nsr Zp Zm=>k0 cr nsr Zp Zm))
def cF (N:Nat):Bool->LI->Bool->LI->Bool->LI->Bool->LI->(Kx5)->Bool:=jz N
def M4 (N:Nat) (ZY:Bool) (Zw:LI) (ZN:Bool) (ZT:LI) (k0:Kz5):Bool:=
 (cond ZY (k0 (-1)) (cond (((Zw.length:Nat):Int)==0) (k0 0) (k0 1)))
def Sp (N:Nat):Bool->LI->Bool->LI->(Kz5)->Bool:=ay N (M4 N)
def rP (N:Nat) (ZY:Bool) (Zw:LI) (ZN:Bool) (ZT:LI) (k0:Kz5):Bool:=
 (Sp N ZY Zw ZN ZT (λnr=>k0 nr))
def th (N:Nat):Bool->LI->Bool->LI->(Kz5)->Bool:=rP N
def jC (N:Nat) (ZY:Bool) (Zw:LI) (ZN:Bool) (ZT:LI) (k0:Kz5):Bool:=
 (th N ZY Zw ZN ZT (λnr=>k0 nr))
def bw (N:Nat):Bool->LI->Bool->LI->(Kz5)->Bool:=jC N
def bI (N:Nat) (i aew aab t9:Int) (aaw:List RY0) (g_3 g_4:Int) (e0:Bool):(Int)->((Int)->Bool)->Bool:=λv_ K=>match v_ with
 | t10=>(cond (decide (t10<t9)) (bd N g_3 g_4 i t10 aaw (λcr nsr Zp Zm=>bd N g_3 g_4 t10 i aaw (λZG Zs ZO Zt=>cF N cr nsr Zp Zm ZG Zs ZO Zt (λaaZ Zz abX Zx=>bw N aaZ Zz abX Zx (λnr=>cX N (nr==0) 112 (af .i64 (t10+1)&&K (t10+1))))))) e0)
def bH (N:Nat) (t5:Int) (b0:List RY0) (g g_2:Int) (e0:Bool):(Int)->((Int)->Bool)->Bool:=λv_ K=>match v_ with
 | t6=>(cond (decide (t6<t5)) (ai N (bI N t6 t5 t6 t6 b0 g g_2 (af .i64 (t6+1)&&K (t6+1))) 0) e0)
def cG (N:Nat) (g_0 g_1:Int) (b:List RY0) (k0:Bool):Bool:=
 (ai N (bH N g_0 b g_0 g_1 k0) 0)
def cS (N:Nat):Int->Int->List RY0->(Bool)->Bool:=ay N (cG N)
def pZ (N:Nat) (a b:Int) (k0:Kx5):Bool:=
 (Gy N a (λcr nsr=>Gy N b (λZp Zm=>Rk N false false cr nsr Zp Zm (λZG Zs ZO Zt=>k0 ZG Zs ZO Zt))))
def wX (N:Nat):Int->Int->(Kx5)->Bool:=ay N (pZ N)
def po (N:Nat) (n:Int) (k0:Kx5):Bool:=
 (wX N n 1 (λcr nsr Zp Zm=>k0 cr nsr Zp Zm))
def lZ (N:Nat):Int->(Kx5)->Bool:=po N
def SL (N:Nat) (neg:Bool) (a b c d:LI) (Zl Zq:Bool) (k0:Kx5):Bool:=
 (Ch N a d (λnsr=>Ch N c b (λZm=>vL N a nsr (λZs=>vL N c Zm (λZt=>zu N Zs Zt (λZz=>vL N b Zm (λZx=>vL N d nsr (λs6=>zu N Zx s6 (λs7=>LH N neg Zz s7 Zl Zq (λcr Zp=>k0 cr Zz Zp s7))))))))))
def Rm (N:Nat):Bool->LI->LI->LI->LI->Bool->Bool->(Kx5)->Bool:=ay N (SL N)
def Mk (N:Nat) (ZY:Bool) (Zw:LI) (ZN:Bool) (ZT:LI) (y_0:Bool) (ZS:LI) (y_2:Bool) (y_3:LI) (b Zl:Bool) (k0:Kx5):Bool:=
 (Cg N ZY Zw ZN ZT (λnsr=>Cg N y_0 ZS y_2 y_3 (λZm=>Rm N (ZY != y_0) Zw nsr Zm ZS b Zl (λcr Zs Zp Zt=>k0 cr Zs Zp Zt))))
def Sj (N:Nat):Bool->LI->Bool->LI->Bool->LI->Bool->LI->Bool->Bool->(Kx5)->Bool:=ay N (Mk N)
def jA (N:Nat) (ZY:Bool) (Zw:LI) (ZN:Bool) (ZT:LI) (y_0:Bool) (ZS:LI) (y_2:Bool) (y_3:LI) (k0:Kx5):Bool:=
 (Sj N ZY Zw ZN ZT y_0 ZS y_2 y_3 false false (λcr nsr Zp Zm=>k0 cr nsr Zp Zm))
def eB (N:Nat):Bool->LI->Bool->LI->Bool->LI->Bool->LI->(Kx5)->Bool:=jA N
def Mj (N:Nat) (ZY:Bool) (Zw:LI) (ZN:Bool) (ZT:LI) (y_0:Bool) (ZS:LI) (y_2:Bool) (y_3:LI) (b Zl:Bool) (k0:Kx5):Bool:=
 (Cg N ZY Zw ZN ZT (λnsr=>Cg N y_0 ZS y_2 y_3 (λZm=>Rm N (ZY != y_0) Zw nsr ZS Zm b Zl (λcr Zs Zp Zt=>k0 cr Zs Zp Zt))))
def Si (N:Nat):Bool->LI->Bool->LI->Bool->LI->Bool->LI->Bool->Bool->(Kx5)->Bool:=ay N (Mj N)
def jh (N:Nat) (ZY:Bool) (Zw:LI) (ZN:Bool) (ZT:LI) (y_0:Bool) (ZS:LI) (y_2:Bool) (y_3:LI) (k0:Kx5):Bool:=
 (Si N ZY Zw ZN ZT y_0 ZS y_2 y_3 false false (λcr nsr Zp Zm=>k0 cr nsr Zp Zm))
def dN (N:Nat):Bool->LI->Bool->LI->Bool->LI->Bool->LI->(Kx5)->Bool:=jh N
def PV (N:Nat) (ZY:Bool) (Zw:LI) (ZN:Bool) (ZT:LI) (y_0:Bool) (ZS:LI) (y_2:Bool) (y_3:LI) (b Zl:Bool) (k0:Kx5):Bool:=
 (Cg N ZY Zw ZN ZT (λnsr=>Cg N y_0 ZS y_2 y_3 (λZm=>Ch N nsr Zm (λZs=>vL N nsr Zs (λZt=>vL N Zm Zs (λZz=>zu N Zw Zz (λZx=>Ee N ZY Zx false (λcr=>zu N ZS Zt (λs6=>Rp N y_0 s6 cr Zx (λZp s7=>Ch N s7 Zs (λs8=>vL N s7 s8 (λs9=>rG N s9 (λs10=>vL N Zm s8 (λs11=>zu N Zt s11 (λaax=>LH N Zp s10 aax b Zl (λZG ZO=>k0 ZG s10 ZO aax))))))))))))))))
def Rr (N:Nat):Bool->LI->Bool->LI->Bool->LI->Bool->LI->Bool->Bool->(Kx5)->Bool:=ay N (PV N)
def jB (N:Nat) (ZY:Bool) (Zw:LI) (ZN:Bool) (ZT:LI) (y_0:Bool) (ZS:LI) (y_2:Bool) (y_3:LI) (k0:Kx5):Bool:=
 (Rr N ZY Zw ZN ZT y_0 ZS y_2 y_3 false false (λcr nsr Zp Zm=>k0 cr nsr Zp Zm))
def eC (N:Nat):Bool->LI->Bool->LI->Bool->LI->Bool->LI->(Kx5)->Bool:=jB N
def ke (N:Nat) (g_0 g_1 i j:Int) (ZY:Bool) (Zw:LI) (ZN:Bool) (ZT:LI) (b:List RY0) (k0:List RY0->Bool):Bool:=
 (af .i64 (i*g_1)&&(af .i64 ((i*g_1)+j)&&(inR ((i*g_1)+j) b.length&&(decide ((Int.toNat ((i*g_1)+j))<b.length)&&k0 (b.set (Int.toNat ((i*g_1)+j)) ((ZY,Zw),(ZN,ZT)))))))
def fC (N:Nat):Int->Int->Int->Int->Bool->LI->Bool->LI->List RY0->(List RY0->Bool)->Bool:=ke N
def ck (N:Nat) (ZM aan t10 g g_2:Int) (x:Bool) (x_4:LI) (x_5:Bool) (x_6:LI) (e0:List RY0->Bool):(Int × List RY0)->((Int × List RY0)->Bool)->Bool:=λv_ K=>match v_ with
 | (t11,b0)=>(cond (decide (t11<t10)) (bd N g g_2 ZM t11 b0 (λcr nsr Zp Zm=>bd N g g_2 aan t11 b0 (λZG Zs ZO Zt=>dN N ZG Zs ZO Zt x x_4 x_5 x_6 (λaaZ Zz abX Zx=>eC N cr nsr Zp Zm aaZ Zz abX Zx (λacn s6 aco s7=>fC N g g_2 ZM t11 acn s6 aco s7 b0 (λ(lr:List RY0)=>af .i64 (t11+1)&&K ((t11+1),lr))))))) (e0 b0))
def eV (N:Nat) (g_0 g_1 i k_:Int) (ZY:Bool) (Zw:LI) (ZN:Bool) (ZT:LI) (b:List RY0) (k0:List RY0->Bool):Bool:=
 (ai N (ck N i k_ g_1 g_0 g_1 ZY Zw ZN ZT (λ(aaw:List RY0)=>k0 aaw)) (0,b))
def fA (N:Nat):Int->Int->Int->Int->Bool->LI->Bool->LI->List RY0->(List RY0->Bool)->Bool:=ay N (eV N)
def aA (N:Nat) (ZU k_ acd abu g_3 g_4:Int) (p:Bool) (p_1:LI) (p_2:Bool) (p_3:LI) (e0:Int->List RY0->Bool) (e1:List RY0->Bool):(Int × List RY0)->((Int × List RY0)->Bool)->Bool:=λv_ K=>match v_ with
 | (i,aaw)=>(cond (decide (i<g_3)) (bd N g_3 g_4 i k_ aaw (λZG Zs ZO Zt=>bw N ZG Zs ZO Zt (λZo=>cond (Zo==0) (af .i64 (i+1)&&K ((i+1),aaw)) (bw N p p_1 p_2 p_3 (λZr=>cond (Zr==0) (e0 1 aaw) (lZ N 0 (λaaZ Zz abX Zx=>eB N ZG Zs ZO Zt p p_1 p_2 p_3 (λacn s6 aco s7=>cF N aaZ Zz abX Zx acn s6 aco s7 (λc8 s8 c9 s9=>fA N g_3 g_4 i k_ c8 s8 c9 s9 aaw (λ(lr:List RY0)=>af .i64 (i+1)&&K ((i+1),lr))))))))))) (e1 aaw))
def aO (N:Nat) (t9 g g_2:Int) (e0:Int->List RY0->Bool) (e1:Int->List RY0->Bool):(Int × Int × List RY0)->((Int × Int × List RY0)->Bool)->Bool:=λv_ K=>match v_ with
 | (s,t10,b0)=>(cond (decide (t10<t9)) (bd N g g_2 t10 t10 b0 (λcr nsr Zp Zm=>bw N cr nsr Zp Zm (λnr=>cond (decide (nr<0)) (e0 1 b0) (af .i64 (t10+1)&&ai N (aA N s t10 t9 t10 g g_2 cr nsr Zp Zm (λ(t2:Int) (afi:List RY0)=>e0 t2 afi) (λ(acm:List RY0)=>bw N cr nsr Zp Zm (λZF=>cond (ZF==0) (af .i64 (t10+1)&&K (2,(t10+1),acm)) (af .i64 (t10+1)&&K (s,(t10+1),acm))))) ((t10+1),b0))))) (e1 s b0))
def db (N:Nat) (g_0 g_1:Int) (b:List RY0) (k0:Int->List RY0->Bool):Bool:=
 (ai N (aO N g_0 g_0 g_1 (λ(ZR:Int) (acR:List RY0)=>k0 ZR acR) (λ(Z9:Int) (acS:List RY0)=>k0 Z9 acS)) (3,0,b))
def gG (N:Nat):Int->Int->List RY0->(Int->List RY0->Bool)->Bool:=ay N (db N)
def jy (N:Nat) (g_0 g_1:Int) (b:List RY0) (k0:Int->List RY0->Bool):Bool:=
 (cX N (g_0==g_1) 3 (cS N g_0 g_1 b (gG N g_0 g_1 b (λ(nr:Int) (lr:List RY0)=>k0 nr lr))))
def eA (N:Nat):Int->Int->List RY0->(Int->List RY0->Bool)->Bool:=jy N
def j9 (N:Nat) (ZB Zn:Int) (Zv:LF) (k0:Ky5):Bool:=
 (jw N ZB Zn Zv (λ(lr:List RY0)=>eA N ZB Zn lr (λ(nr:Int) (aeU:List RY0)=>k0 nr 0)))
def gd (N:Nat):Int->Int->LF->(Ky5)->Bool:=ay N (j9 N)
def oB (N:Nat) (p_0 p_1:Int) (p_2:LF) (k0:Kz4):Bool:=
 (gd N p_0 p_1 p_2 (λnr Zo=>cond ((Zo==0)==true) (k0 (nr==3)) (k0 false)))
def eg (N:Nat):Int->Int->LF->(Kz4)->Bool:=oB N
def nM (N:Nat) (s_0:LF) (ZU Z9:Int) (s_3:LF) (k0:Kz5):Bool:=
 (Bv N ZU Z9 s_3 (λnr=>cond (nr != 0) (k0 nr) (cond ((ZU != Z9)==false) (cond (((s_0.length:Nat):Int) != ZU) (k0 3) (Bz N s_0 (λcr=>cond (!cr) (k0 4) (LJ N ZU Z9 s_3 (λZp=>cond (!Zp) (k0 150) (eg N ZU Z9 s_3 (λZG=>cond (!ZG) (k0 151) (k0 0)))))))) (k0 3))))
def kW (N:Nat):LF->Int->Int->LF->(Kz5)->Bool:=ay N (nM N)
def rT (N:Nat) (ZD Zu:Int) (ZH:LF) (k0:Kz5):Bool:=
 (Bv N ZD Zu ZH (λnr=>cond (nr != 0) (k0 nr) (cond (ZD != Zu) (k0 3) (k0 0))))
def mL (N:Nat):Int->Int->LF->(Kz5)->Bool:=ay N (rT N)
def pd (N:Nat) (ZD Zu:Int) (ZH:LF) (k0:Kz5):Bool:=
 (mL N ZD Zu ZH (λnr=>cond (nr != 0) (k0 nr) (LJ N ZD Zu ZH (λcr=>cond (!cr) (k0 91) (k0 0)))))
def mh (N:Nat):Int->Int->LF->(Kz5)->Bool:=ay N (pd N)
def RW (N:Nat) (i j:Int) (k0:Kz7):Bool:=
 (cond (i==j) (k0 (some 4607182418800017408)) (k0 (some 0)))
def Pn (N:Nat):Int->Int->(Kz7)->Bool:=RW N
def GO (N:Nat) (aae i aao abw t21 aaV aaW Zv ZX:Int) (e0:Kz8):(Int × LF)->((Int × LF)->Bool)->Bool:=λv_ K=>match v_ with
 | (t22,aaB)=>(cond (decide (t22<t21)) (Pn N i t22 (λxr=>decide ((List.length (aaB++[xr]))*8<=140737488355328)&&(af .i64 (t22+1)&&K ((t22+1),(aaB++[xr]))))) (e0 aaB))
def gf (N:Nat) (aaC t17 t6 aab m Zn:Int) (e0:Kz8):(Int × LF)->((Int × LF)->Bool)->Bool:=λv_ K=>match v_ with
 | (t18,b2)=>(cond (decide (t18<t17)) (ai N (GO N aaC t18 t17 t18 aaC t6 aab m Zn (λaeh=>af .i64 (t18+1)&&K ((t18+1),aeh))) (0,b2)) (e0 b2))
def Mz (N:Nat) (rows cols:Int) (k0:Kz8):Bool:=
 (af .i64 (rows*cols)&&(gb 8 0 (rows*cols)&&ai N (gf N cols rows 0 0 rows cols (λacW=>k0 acW)) (0,[])))
def O9 (N:Nat):Int->Int->(Kz8)->Bool:=ay N (Mz N)
def wa (N:Nat) (n:Int) (k0:Kz8):Bool:=
 (O9 N n n (λxsr=>k0 xsr))
def w7 (N:Nat):Int->(Kz8)->Bool:=wa N
def v8 (N:Nat) (n:Int) (k0:Kx8):Bool:=
 (LN N n (λcr=>cond (!cr) (k0 0 0 [] 1) (w7 N n (λxsr=>k0 n n xsr 0))))
def qZ (N:Nat):Int->(Kx8)->Bool:=v8 N
def mp (N:Nat) (b k0:Bool):Bool:=
 k0
def mM (N:Nat):Bool->(Bool)->Bool:=mp N
def Co (N:Nat) (ZB Zn:Int) (Zv:LF) (i j:Int) (k0:Kz7):Bool:=
 (af .i64 (i*Zn)&&(af .i64 ((i*Zn)+j)&&(inR ((i*Zn)+j) Zv.length&&k0 (Zv.getD (Int.toNat ((i*Zn)+j)) none))))
def lW (N:Nat):Int->Int->LF->Int->Int->(Kz7)->Bool:=Co N
def oA (N:Nat) (i j b Zl:Int) (Zq:LF) (k0:Kz7):Bool:=
 (lW N b Zl Zq i j (λxr=>k0 xr))
def oX (N:Nat):Int->Int->Int->Int->LF->(Kz7)->Bool:=oA N
def nK (N:Nat) (x:Fl) (b:Bool) (k0:Kz4):Bool:=
 (Bz N [x] (λcr=>cond (!cr) (k0 true) (k0 b)))
def b_ (N:Nat):Fl->Bool->(Kz4)->Bool:=nK N
def ly (N:Nat) (a b:Fl) (Zl:Bool) (k0:Ky6):Bool:=
 (b_ N (dU a b) Zl (λcr=>k0 (dU a b) cr))
def cw (N:Nat):Fl->Fl->Bool->(Ky6)->Bool:=ly N
def mo (N:Nat) (t p:Fl) (b:Bool) (k0:Ky6):Bool:=
 (b_ N (qz t p) b (λcr=>k0 (qz t p) cr))
def cP (N:Nat):Fl->Fl->Bool->(Ky6)->Bool:=mo N
def ek (N:Nat) (t a b:Fl) (v_:Int) (Zl:Bool) (k0:Ky6):Bool:=
 (cw N a b Zl (λxr cr=>cP N t xr cr (λZQ Zp=>k0 ZQ Zp)))
def jO (N:Nat):Fl->Fl->Fl->Int->Bool->(Ky6)->Bool:=ay N (ek N)
def aV (N:Nat) (ZM ZP t17 t4 b4 abf:Int) (abD b5:LF) (e0:Ky6):(Fl × Int × Bool)->((Fl × Int × Bool)->Bool)->Bool:=λv_ K=>match v_ with
 | (t,t18,b7)=>(cond (decide (t18<t17)) (af .i64 (ZM*t4)&&(af .i64 ((ZM*t4)+t18)&&(inR ((ZM*t4)+t18) b5.length&&(decide ((Int.toNat ((ZM*t4)+t18))<b5.length)&&(af .i64 (ZP*t4)&&(af .i64 ((ZP*t4)+t18)&&(inR ((ZP*t4)+t18) b5.length&&(decide ((Int.toNat ((ZP*t4)+t18))<b5.length)&&jO N t (b5.getD (Int.toNat ((ZM*t4)+t18)) none) (b5.getD (Int.toNat ((ZP*t4)+t18)) none) t18 b7 (λZQ cr=>af .i64 (t18+1)&&K (ZQ,(t18+1),cr)))))))))) (e0 t b7))
def bG (N:Nat) (i j b Zl Zq:Int) (Zy ZK:LF) (Z2:Bool) (k0:Ky6):Bool:=
 (oX N i j Zl Zq Zy (λxr=>ai N (aV N i j j b Zl Zq Zy ZK (λt_1 abV=>k0 t_1 abV)) (xr,0,Z2)))
def bc (N:Nat):Int->Int->Int->Int->Int->LF->LF->Bool->(Ky6)->Bool:=ay N (bG N)
abbrev G8:=Fl->(Kz7)->Bool
def Gv (N:Nat):G8:=λx k=>k (uJ x)
def zW (N:Nat) (x:Fl) (k0:Kz7):Bool:=
 (Gv N x (λxr=>k0 xr))
def w5 (N:Nat):Fl->(Kz7)->Bool:=zW N
def eo (N:Nat) (d:Fl) (b:Bool) (k0:Fl->Int->Bool):Bool:=
 (cond b (k0 (some 0) 5) (cond (!(fgt d (some 0))) (k0 (some 0) 90) (w5 N d (λxr=>k0 xr 0))))
def jP (N:Nat):Fl->Bool->(Fl->Int->Bool)->Bool:=ay N (eo N)
def ep (N:Nat) (t head:Fl) (b:Bool) (k0:Ky6):Bool:=
 (b_ N (fdiv t head) b (λcr=>k0 (fdiv t head) cr))
def jQ (N:Nat):Fl->Fl->Bool->(Ky6)->Bool:=ay N (ep N)
def bA (N:Nat) (j:Int) (head:Fl) (abc ado t45 acm acR:Int) (acS:LF) (Z8:Int) (heads:LF) (e0:Ky7):(Int × Bool × LF)->((Int × Bool × LF)->Bool)->Bool:=λv_ K=>match v_ with
 | (t46,aaB,b8)=>(cond (decide (t46<t45)) (cond (decide (t46<=j)) (af .i64 (t46+1)&&K ((t46+1),aaB,b8)) (af .i64 (t46*Z8)&&(af .i64 ((t46*Z8)+j)&&bc N t46 j Z8 acm acR acS b8 aaB (λaaP Zp=>jQ N aaP head Zp (λaaQ ZG=>inR ((t46*Z8)+j) b8.length&&(decide ((Int.toNat ((t46*Z8)+j))<b8.length)&&(af .i64 (t46+1)&&K ((t46+1),ZG,(b8.set (Int.toNat ((t46*Z8)+j)) aaQ))))))))) (e0 aaB b8))
def aE (N:Nat) (acN acT acU:Int) (acV:LF) (n_3:Int) (e0:Kx6) (e1:Bool->LF->LF->Bool):(Int × Bool × LF × LF)->((Int × Bool × LF × LF)->Bool)->Bool:=λv_ K=>match v_ with
 | (abd,acW,aau,ada)=>(cond (decide (abd<acN)) (bc N abd abd n_3 acT acU acV ada acW (λaeC ZO=>jP N aeC ZO (λacg Zo=>cond (Zo != 0) (e0 abd Zo ZO aau) (decide ((List.length (aau++[acg]))*8<=140737488355328)&&ai N (bA N abd acg acN abd n_3 acT acU acV n_3 (aau++[acg]) (λafk afp=>af .i64 (abd+1)&&K ((abd+1),afk,(aau++[acg]),afp))) (0,ZO,ada))))) (e1 acW aau ada))
def da (N:Nat) (n b Zl:Int) (Zq:LF) (Zy:Bool) (k0:Kx6) (k1:Int->Int->Bool->LF->LF->Bool):Bool:=
 (af .i64 (n*n)&&(gb 8 (n*n) (n*n)&&ai N (aE N n b Zl Zq n (λt8 t9 afl t7=>k0 t8 t9 afl t7) (λafm adM b5=>k1 0 0 afm b5 adM)) (0,Zy,[],(List.replicate (Int.toNat (n*n)) (some 0)))))
def gF (N:Nat):Int->Int->Int->LF->Bool->(Kx6)->(Int->Int->Bool->LF->LF->Bool)->Bool:=ay N (da N)
def EF (N:Nat) (place e:Int) (k0:Kz5):Bool:=
 (cond (e==5) (k0 0) (k0 place))
def za (N:Nat):Int->Int->(Kz5)->Bool:=EF N
def tJ (N:Nat) (t52 t53 a Z6:Int) (a_4:LF) (t2 ZR:Int) (t51:LF) (e0:Bool):(Unit)->((Unit)->Bool)->Bool:=λv_ K=>match v_ with
 | _=>(cond (decide (t53<t52)) (inR t53 t51.length&&(decide (t53.toNat<t51.length)&&(af .i64 (t53*a)&&(af .i64 ((t53*a)+t53)&&false)))) e0)
def fE (N:Nat) (adu a_5 a_6:Int) (a_7:LF) (Z_ aaa:Int) (aaS:LF) (e0:Kz8):(Int × LF)->((Int × LF)->Bool)->Bool:=λv_ K=>match v_ with
 | (aas,acF)=>(cond (decide (aas<adu)) (inR aas aaS.length&&(decide (aas.toNat<aaS.length)&&(af .i64 (aas*a_5)&&(af .i64 ((aas*a_5)+aas)&&(inR ((aas*a_5)+aas) acF.length&&(decide ((Int.toNat ((aas*a_5)+aas))<acF.length)&&(af .i64 (aas+1)&&K ((aas+1),(acF.set (Int.toNat ((aas*a_5)+aas)) (aaS.getD aas.toNat none)))))))))) (e0 acF))
def jD (N:Nat) (ZD Zu:Int) (ZH:LF) (adU e_1:Int) (low aau:LF) (k0:Kx1):Bool:=
 (cond (e_1 != 0) (za N adU e_1 (λn6=>k0 0 0 [] n6 e_1)) (ai N (fE N ((aau.length:Nat):Int) ZD Zu ZH 0 0 aau (λaeT=>k0 ZD ZD aeT 0 0)) (0,low)))
def pe (N:Nat) (ZD Zu:Int) (ZH:LF) (place e:Int) (heads:LF) (k0:Kx1):Bool:=
 (cond (e != 0) (za N place e (λn5=>k0 0 0 [] n5 e)) (ai N (tJ N ((heads.length:Nat):Int) 0 ZD Zu ZH 0 0 heads (k0 ZD ZD [] 0 0)) ()))
def rR (N:Nat) (ZD Zu:Int) (ZH:LF) (k0:Kx1):Bool:=
 (mh N ZD Zu ZH (λnr=>cond (nr != 0) (k0 0 0 [] 0 nr) (mM N false (gF N ZD ZD Zu ZH false (λZo Zr cr xsr=>cond ((Zr==0)==true) (cond cr (pe N ZD Zu ZH Zo 5 xsr k0) (pe N ZD Zu ZH Zo Zr xsr k0)) (pe N ZD Zu ZH Zo Zr xsr k0)) (λZF ZC Zp ZE ZI=>cond ((ZC==0)==true) (cond Zp (jD N ZD Zu ZH ZF 5 ZE ZI k0) (jD N ZD Zu ZH ZF ZC ZE ZI k0)) (jD N ZD Zu ZH ZF ZC ZE ZI k0))))))
def oW (N:Nat):Int->Int->LF->(Kx1)->Bool:=ay N (rR N)
def MA (N:Nat) (is:Bool) (e:Int) (k0:Kz5):Bool:=
 (cond is (k0 e) (k0 0))
def Gt (N:Nat):Bool->Int->(Kz5)->Bool:=MA N
def pb (N:Nat) (t5:LI) (t6:Int) (e0:Kz5) (e1:Bool):(Int)->((Int)->Bool)->Bool:=λv_ K=>match v_ with
 | t7=>(cond (decide (t7<t6)) (inR t7 t5.length&&cond ((t5.getD t7.toNat 0) != 0) (e0 (t5.getD t7.toNat 0)) (af .i64 (t7+1)&&K (t7+1))) e1)
def Mo (N:Nat) (l:LI) (k0:Kz5):Bool:=
 (ai N (pb N l ((l.length:Nat):Int) (λt2=>k0 t2) (k0 0)) 0)
def Gp (N:Nat):LI->(Kz5)->Bool:=ay N (Mo N)
def j5 (N:Nat) (j_2 ab0 m_5 m_6:Int) (m_7:LF) (e0:Kz8):(Int × LF)->((Int × LF)->Bool)->Bool:=λv_ K=>match v_ with
 | (acd,l)=>(cond (decide (acd<ab0)) (kt N m_5 m_6 m_7 acd j_2 (λZQ=>decide ((List.length (l++[ZQ]))*8<=140737488355328)&&(af .i64 (acd+1)&&K ((acd+1),(l++[ZQ]))))) (e0 l))
def qg (N:Nat) (ZB Zn:Int) (Zv:LF) (j:Int) (k0:Kz8):Bool:=
 (ai N (j5 N j ZB ZB Zn Zv (λl_1=>k0 l_1)) (0,[]))
def w6 (N:Nat):Int->Int->LF->Int->(Kz8)->Bool:=ay N (qg N)
def nO (N:Nat) (ZB Zn:Int) (Zv:LF) (j:Int) (k0:Kz2):Bool:=
 (w6 N ZB Zn Zv j (λxsr=>k0 xsr 0))
def qf (N:Nat) (ZB Zn:Int) (Zv:LF) (j:Int) (k0:Kz2):Bool:=
 (Bv N ZB Zn Zv (λnr=>cond ((decide (j<0))==false) (Gt N (decide (j>=Zn)) 1 (λZo=>Gp N [nr,Zo] (λZr=>cond (Zr != 0) (k0 [] Zr) (nO N ZB Zn Zv j k0)))) (Gt N true 1 (λZF=>Gp N [nr,ZF] (λZC=>cond (ZC != 0) (k0 [] ZC) (nO N ZB Zn Zv j k0))))))
def qY (N:Nat):Int->Int->LF->Int->(Kz2)->Bool:=ay N (qf N)
def ce (N:Nat) (Zy:LF) (i adk aaM t23 l_5 l_6:Int) (l_7 Zw:LF) (e0:Ky6):(Fl × Int × Bool)->((Fl × Int × Bool)->Bool)->Bool:=λv_ K=>match v_ with
 | (t,t24,ZU)=>(cond (decide (t24<t23)) (lW N l_5 l_6 l_7 i t24 (λxr=>inR t24 Zw.length&&(decide (t24.toNat<Zw.length)&&cw N xr (Zw.getD t24.toNat none) ZU (λZQ cr=>cP N t ZQ cr (λaaP Zp=>af .i64 (t24+1)&&K (aaP,(t24+1),Zp)))))) (e0 t ZU))
def cZ (N:Nat) (Zq:LF) (t15 l l_3:Int) (l_4:LF) (e0:Ky7):(Int × Bool × LF)->((Int × Bool × LF)->Bool)->Bool:=λv_ K=>match v_ with
 | (t16,s,x)=>(cond (decide (t16<t15)) (inR t16 Zq.length&&ai N (ce N Zq t16 t15 t16 t16 l l_3 l_4 x (λt_1 Z9=>lW N l l_3 l_4 t16 t16 (λaaQ=>b_ N (fdiv t_1 aaQ) Z9 (λZG=>inR t16 x.length&&(decide (t16.toNat<x.length)&&(af .i64 (t16+1)&&K ((t16+1),ZG,(x.set t16.toNat (fdiv t_1 aaQ))))))))) ((Zq.getD t16.toNat none),0,s)) (e0 s x))
def ij (N:Nat) (l_0 l_1:Int) (l_2 b:LF) (Zl:Bool) (k0:Ky8):Bool:=
 (gb 8 ((b.length:Nat):Int) ((b.length:Nat):Int)&&ai N (cZ N b ((b.length:Nat):Int) l_0 l_1 l_2 (λb0 ZN=>k0 ZN b0)) (0,Zl,(List.replicate (Int.toNat ((b.length:Nat):Int)) (some 0))))
def cN (N:Nat):Int->Int->LF->LF->Bool->(Ky8)->Bool:=ay N (ij N)
def cA (N:Nat) (Zy:LF) (ZM l_5 l_6:Int) (l_7 Zw:LF) (e0:Ky6):(Fl × Int × Bool)->((Fl × Int × Bool)->Bool)->Bool:=λv_ K=>match v_ with
 | (t,k_,ZU)=>(cond (decide (k_<((Zy.length:Nat):Int))) (lW N l_5 l_6 l_7 k_ ZM (λxr=>inR k_ Zw.length&&(decide (k_.toNat<Zw.length)&&cw N xr (Zw.getD k_.toNat none) ZU (λZQ cr=>cP N t ZQ cr (λaaP Zp=>af .i64 (k_+1)&&K (aaP,(k_+1),Zp)))))) (e0 t ZU))
def dJ (N:Nat) (Zq:LF) (l l_3:Int) (l_4:LF) (e0:Ky7):(Int × Bool × LF)->((Int × Bool × LF)->Bool)->Bool:=λv_ K=>match v_ with
 | (i,s,x)=>(cond (decide (i>=0)) (inR i Zq.length&&(af .i64 (i+1)&&ai N (cA N Zq i l l_3 l_4 x (λt_1 Z9=>lW N l l_3 l_4 i i (λaaQ=>b_ N (fdiv t_1 aaQ) Z9 (λZG=>inR i x.length&&(decide (i.toNat<x.length)&&(af .i64 (i - 1)&&K ((i - 1),ZG,(x.set i.toNat (fdiv t_1 aaQ))))))))) ((Zq.getD i.toNat none),(i+1),s))) (e0 s x))
def j7 (N:Nat) (l_0 l_1:Int) (l_2 b:LF) (Zl:Bool) (k0:Ky8):Bool:=
 (gb 8 ((b.length:Nat):Int) ((b.length:Nat):Int)&&(af .i64 (((b.length:Nat):Int) - 1)&&ai N (dJ N b l_0 l_1 l_2 (λb0 ZN=>k0 ZN b0)) ((((b.length:Nat):Int) - 1),Zl,(List.replicate (Int.toNat ((b.length:Nat):Int)) (some 0)))))
def dF (N:Nat):Int->Int->LF->LF->Bool->(Ky8)->Bool:=ay N (j7 N)
def ge (N:Nat) (j adv adw:Int) (t76:LF) (t77 Z2 b_6:Int) (b_7:LF) (aaq aar l_3 l_4:Int) (l_5:LF) (ZU:Bool) (aac aaJ:Int) (e0:Kz8):(Int × LF)->((Int × LF)->Bool)->Bool:=λv_ K=>match v_ with
 | (t78,aa8)=>(cond (decide (t78<t77)) (inR t78 t76.length&&(af .i64 (t78*b_6)&&(af .i64 ((t78*b_6)+j)&&(inR ((t78*b_6)+j) aa8.length&&(decide ((Int.toNat ((t78*b_6)+j))<aa8.length)&&(af .i64 (t78+1)&&K ((t78+1),(aa8.set (Int.toNat ((t78*b_6)+j)) (t76.getD t78.toNat none))))))))) (e0 aa8))
def dH (N:Nat) (t60 b Zy:Int) (ZK:LF) (t4 aap l l_1:Int) (l_2:LF) (out ZA:Int) (e0:Ky7):(Int × Bool × LF)->((Int × Bool × LF)->Bool)->Bool:=λv_ K=>match v_ with
 | (t61,s,b5)=>(cond (decide (t61<t60)) (qY N b Zy ZK t61 (λZE n6=>cN N l l_1 l_2 ZE s (λZI cr=>dF N l l_1 l_2 ZI cr (λaag Zp=>ai N (ge N t61 t60 t61 aag ((aag.length:Nat):Int) b Zy ZK t4 aap l l_1 l_2 Zp out ZA (λabE=>af .i64 (t61+1)&&K ((t61+1),Zp,abE))) (0,b5))))) (e0 s b5))
def mR (N:Nat) (ZD Zu:Int) (ZH:LF) (b_0 Zl:Int) (Zq:LF) (k0:Kx1):Bool:=
 (mL N ZD Zu ZH (λnr=>cond (nr != 0) (k0 0 0 [] 0 nr) (Bv N b_0 Zl Zq (λZo=>cond (Zo != 0) (k0 0 0 [] 0 Zo) (cond (b_0 != ZD) (k0 0 0 [] 0 3) (oW N ZD Zu ZH (λZr ZF xsr ZC n5=>cond (n5 != 0) (k0 0 0 [] ZC n5) (gb 8 ((Zq.length:Nat):Int) ((Zq.length:Nat):Int)&&ai N (dH N Zl b_0 Zl Zq 0 0 Zr ZF xsr b_0 Zl (λZ9 b3=>cond Z9 (k0 0 0 [] 0 5) (k0 b_0 Zl b3 0 0))) (0,false,(List.replicate (Int.toNat ((Zq.length:Nat):Int)) (some 0)))))))))))
def mX (N:Nat):Int->Int->LF->Int->Int->LF->(Kx1)->Bool:=ay N (mR N)
def RP (N:Nat) (ZB Zn:Int) (Zv:LF) (k0:Kz5):Bool:=
 (Bv N ZB Zn Zv (λnr=>Gt N (ZB != Zn) 3 (λZo=>Gp N [nr,Zo] (λZr=>k0 Zr))))
def Pi (N:Nat):Int->Int->LF->(Kz5)->Bool:=RP N
def Wl (N:Nat) (i j:Int) (k0:Kz7):Bool:=
 (k0 (some 0))
def Sn (N:Nat):Int->Int->(Kz7)->Bool:=Wl N
def BH (N:Nat) (aae i aao abw t21 aaV aaW Zv ZX:Int) (e0:Kz8):(Int × LF)->((Int × LF)->Bool)->Bool:=λv_ K=>match v_ with
 | (t22,aaB)=>(cond (decide (t22<t21)) (Sn N i t22 (λxr=>decide ((List.length (aaB++[xr]))*8<=140737488355328)&&(af .i64 (t22+1)&&K ((t22+1),(aaB++[xr]))))) (e0 aaB))
def Ew (N:Nat) (aaC t17 t6 aab m Zn:Int) (e0:Kz8):(Int × LF)->((Int × LF)->Bool)->Bool:=λv_ K=>match v_ with
 | (t18,b2)=>(cond (decide (t18<t17)) (ai N (BH N aaC t18 t17 t18 aaC t6 aab m Zn (λaeh=>af .i64 (t18+1)&&K ((t18+1),aeh))) (0,b2)) (e0 b2))
def SG (N:Nat) (rows cols:Int) (k0:Kz8):Bool:=
 (af .i64 (rows*cols)&&(gb 8 0 (rows*cols)&&ai N (Ew N cols rows 0 0 rows cols (λacW=>k0 acW)) (0,[])))
def VG (N:Nat):Int->Int->(Kz8)->Bool:=ay N (SG N)
def RI (N:Nat) (i j b Zl:Int) (Zq:LF) (k0:Kz7):Bool:=
 (kt N b Zl Zq i j (λxr=>k0 xr))
def Sg (N:Nat):Int->Int->Int->Int->LF->(Kz7)->Bool:=RI N
def Es (N:Nat) (Z8 i abb abv t17 abm abn:Int) (abo:LF) (aaq aar Zv ZX:Int) (e0:Kz8):(Int × LF)->((Int × LF)->Bool)->Bool:=λv_ K=>match v_ with
 | (t18,abU)=>(cond (decide (t18<t17)) (Sg N i t18 abm abn abo (λxr=>af .i64 (i*Z8)&&(af .i64 ((i*Z8)+t18)&&(af .i64 (t18*Z8)&&(af .i64 ((t18*Z8)+i)&&(inR ((i*Z8)+t18) abU.length&&(decide ((Int.toNat ((i*Z8)+t18))<abU.length)&&(inR ((t18*Z8)+i) (List.length (abU.set (Int.toNat ((i*Z8)+t18)) xr))&&(decide ((Int.toNat ((t18*Z8)+i))<(List.length (abU.set (Int.toNat ((i*Z8)+t18)) xr)))&&(af .i64 (t18+1)&&K ((t18+1),(List.set (abU.set (Int.toNat ((i*Z8)+t18)) xr) (Int.toNat ((t18*Z8)+i)) xr)))))))))))) (e0 abU))
def Er (N:Nat) (ZV t12 below abk:Int) (abl:LF) (t4 aap m Zn:Int) (e0:Kz8):(Int × LF)->((Int × LF)->Bool)->Bool:=λv_ K=>match v_ with
 | (t13,b3)=>(cond (decide (t13<t12)) (af .i64 (t13+1)&&ai N (Es N ZV t13 t12 t13 (t13+1) below abk abl t4 aap m Zn (λaei=>af .i64 (t13+1)&&K ((t13+1),aei))) (0,b3)) (e0 b3))
def SZ (N:Nat) (n b Zl:Int) (Zq:LF) (k0:Kz8):Bool:=
 (VG N n n (λxsr=>ai N (Er N n n b Zl Zq 0 0 n n (λafn=>k0 afn)) (0,xsr)))
def VO (N:Nat):Int->Int->Int->LF->(Kz8)->Bool:=ay N (SZ N)
def My (N:Nat) (ZB Zn:Int) (Zv:LF) (k0:Kx8):Bool:=
 (Pi N ZB Zn Zv (λnr=>cond (nr != 0) (k0 0 0 [] nr) (VO N ZB ZB Zn Zv (λxsr=>k0 ZB ZB xsr 0))))
def O8 (N:Nat):Int->Int->LF->(Kx8)->Bool:=ay N (My N)
def nJ (N:Nat) (ZD Zu:Int) (ZH:LF) (k0:Kx1):Bool:=
 (mh N ZD Zu ZH (λnr=>cond (nr != 0) (k0 0 0 [] 0 nr) (qZ N ZD (λZo Zr xsr ZF=>mX N ZD Zu ZH Zo Zr xsr (λZC n5 ZE n6 n7=>cond (n7 != 0) (k0 0 0 [] n6 n7) (O8 N ZC n5 ZE (λn8 n9 ZI n10=>k0 n8 n9 ZI 0 n10)))))))
def kU (N:Nat):Int->Int->LF->(Kx1)->Bool:=ay N (nJ N)
def rj (N:Nat) (y_0 ZS:Int) (y_2:LF) (k0:Kz4):Bool:=
 (gd N y_0 ZS y_2 (λnr Zo=>cond ((Zo==0)==true) (k0 (nr==3)) (k0 false)))
def br (N:Nat):Int->Int->LF->(Kz4)->Bool:=rj N
def uY (N:Nat) (ZB Zn:Int) (Zv:LF) (i:Int) (k0:Kz8):Bool:=
 (af .i64 (i*Zn)&&(af .i64 (i+1)&&(af .i64 ((i+1)*Zn)&&(decide (0<=(i*Zn)/\(i*Zn)<=((i+1)*Zn)/\((i+1)*Zn)<=((Zv.length:Nat):Int))&&k0 (List.drop (Int.toNat (i*Zn)) (List.take (Int.toNat ((i+1)*Zn)) Zv))))))
def vN (N:Nat):Int->Int->LF->Int->(Kz8)->Bool:=ay N (uY N)
abbrev z9:=Fl->(Kz7)->Bool
def wZ (N:Nat):z9:=λx k=>k (B8 x)
def tP (N:Nat) (f:Fl) (sign:Int) (k0:Kz4):Bool:=
 (cond (sign==0) (wZ N f (λxr=>k0 (fgt xr (some 9218868437227405311)))) (cond (decide (sign<0)) (k0 (fgt (Ve f) (some 9218868437227405311))) (k0 (fgt f (some 9218868437227405311)))))
def nG (N:Nat):Fl->Int->(Kz4)->Bool:=ay N (tP N)
def MW (N:Nat) (x:Fl) (b:Bool) (k0:Kz4):Bool:=
 (cond ((!feq x x)==false) (nG N x 0 (λcr=>cond cr (k0 true) (k0 b))) (k0 true))
def yZ (N:Nat):Fl->Bool->(Kz4)->Bool:=ay N (MW N)
def rV (N:Nat) (a b:Fl) (Zl:Bool) (k0:Ky6):Bool:=
 (yZ N (dU a b) Zl (λcr=>k0 (dU a b) cr))
def mN (N:Nat):Fl->Fl->Bool->(Ky6)->Bool:=ay N (rV N)
def fF (N:Nat) (Zq t10:LF) (t11:Int) (e0:Ky6):(Fl × Int × Bool)->((Fl × Int × Bool)->Bool)->Bool:=λv_ K=>match v_ with
 | (t,t12,s)=>(cond (decide (t12<t11)) (inR t12 t10.length&&(inR t12 Zq.length&&mN N (t10.getD t12.toNat none) (Zq.getD t12.toNat none) s (λxr cr=>yZ N (nl t xr) cr (λZp=>af .i64 (t12+1)&&K ((nl t xr),(t12+1),Zp))))) (e0 t s))
def IM (N:Nat) (a b:LF) (Zl:Bool) (k0:Ky6):Bool:=
 (ai N (fF N b a ((a.length:Nat):Int) (λt_1 b0=>k0 t_1 b0)) ((some 0),0,Zl))
def Df (N:Nat):LF->LF->Bool->(Ky6)->Bool:=ay N (IM N)
def IQ (N:Nat) (b k0:Bool):Bool:=
 k0
def JO (N:Nat):Bool->(Bool)->Bool:=ay N (IQ N)
def j8 (N:Nat) (y_0 ZS:Int) (y_2:LF) (b:Bool) (Zl:LF) (k0:Ky1) (k1:Kz5):Bool:=
 (JO N b (cond b (k0 0 0 5) (br N y_0 ZS y_2 (λcr=>cond (!cr) (k0 0 0 170) (k1 0)))))
def gc (N:Nat):Int->Int->LF->Bool->LF->(Ky1)->(Kz5)->Bool:=ay N (j8 N)
def i9 (N:Nat) (t39:Int) (s:LF) (s_4 s_5:Int) (s_6:LF) (t2 ZR y ZS:Int) (y_2:LF) (e0:Ky7):(Int × Bool × LF)->((Int × Bool × LF)->Bool)->Bool:=λv_ K=>match v_ with
 | (t40,ad8,v)=>(cond (decide (t40<t39)) (vN N y ZS y_2 t40 (λZE=>Df N ZE s ad8 (λxr Zp=>inR t40 v.length&&(decide (t40.toNat<v.length)&&(af .i64 (t40+1)&&K ((t40+1),Zp,(v.set t40.toNat xr))))))) (e0 ad8 v))
def tO (N:Nat) (s_0:LF) (ZU Z9:Int) (s_3:LF) (k0:Kx2):Bool:=
 (kW N s_0 ZU Z9 s_3 (λnr=>cond (nr != 0) (k0 0 0 [] [] nr) (kU N ZU Z9 s_3 (λZo Zr xsr ZF ZC=>cond (ZC != 0) (k0 0 0 [] [] ZC) (br N Zo Zr xsr (λcr=>cond (!cr) (k0 0 0 [] [] 170) (gb 8 ((s_0.length:Nat):Int) ((s_0.length:Nat):Int)&&ai N (i9 N (((List.length (List.replicate (Int.toNat ((s_0.length:Nat):Int)) (some 0))):Nat):Int) s_0 ZU Z9 s_3 0 0 Zo Zr xsr (λadY Z3=>gc N Zo Zr xsr adY Z3 (λn5 n6 n7=>k0 n5 n6 [] [] n7) (λn8=>k0 Zo Zr xsr Z3 n8))) (0,false,(List.replicate (Int.toNat ((s_0.length:Nat):Int)) (some 0))))))))))
def lY (N:Nat):LF->Int->Int->LF->(Kx2)->Bool:=ay N (tO N)
def sc (N:Nat) (rows cols n:Int) (k0:Kz5):Bool:=
 (cond ((decide (rows<0))==false) (cond ((decide (rows>12))==false) (cond ((decide (cols<0))==false) (cond (decide (cols>12)) (k0 1) (af .i64 (rows*cols)&&cond (n != (rows*cols)) (k0 3) (k0 0))) (k0 1)) (k0 1)) (k0 1))
def tz (N:Nat):Int->Int->Int->(Kz5)->Bool:=ay N (sc N)
def zX (N:Nat) (x:Fl) (k0:Kz5):Bool:=
 (cond (!feq x x) (k0 9221120237041090561) (wU N x (λnr=>k0 nr)))
def oq (N:Nat):Fl->(Kz5)->Bool:=zX N
def sa (N:Nat) (x:Fl) (k0:Kx9):Bool:=
 (oq N x (λnr=>af .i64 (Int.tmod (Int.fdiv nr (2 ^ 52)) 2048)&&k0 ((Int.fdiv nr (2 ^ 63))==1) (Int.tmod (Int.fdiv nr (2 ^ 52)) 2048) (Int.tmod nr 4503599627370496)))
def oZ (N:Nat):Fl->(Kx9)->Bool:=ay N (sa N)
def M6 (N:Nat) (exp frac most:Int) (k0:Kz5):Bool:=
 (cond ((exp==most)==true) (cond (frac != 0) (k0 1) (cond (exp==most) (k0 2) (cond ((exp==0)==true) (cond (frac==0) (k0 3) (cond (exp==0) (k0 4) (k0 5))) (cond (exp==0) (k0 4) (k0 5))))) (cond (exp==most) (k0 2) (cond ((exp==0)==true) (cond (frac==0) (k0 3) (cond (exp==0) (k0 4) (k0 5))) (cond (exp==0) (k0 4) (k0 5)))))
def Sq (N:Nat):Int->Int->Int->(Kz5)->Bool:=ay N (M6 N)
def yh (N:Nat) (x:Fl) (k0:Kz5):Bool:=
 (oZ N x (λcr nr Zo=>Sq N nr Zo 2047 (λZr=>k0 Zr)))
def tu (N:Nat):Fl->(Kz5)->Bool:=yh N
def we (N:Nat) (x:Fl) (k0:Kz4):Bool:=
 (tu N x (λnr=>k0 (decide (nr>2))))
def nu (N:Nat):Fl->(Kz4)->Bool:=we N
def gj (N:Nat) (t5:LF) (t6:Int) (e0:Kz4) (e1:Bool):(Int)->((Int)->Bool)->Bool:=λv_ K=>match v_ with
 | t7=>(cond (decide (t7<t6)) (inR t7 t5.length&&nu N (t5.getD t7.toNat none) (λcr=>cond (!cr) (e0 false) (af .i64 (t7+1)&&K (t7+1)))) e1)
def To (N:Nat) (l:LF) (k0:Kz4):Bool:=
 (ai N (gj N l ((l.length:Nat):Int) (λt2=>k0 t2) (k0 true)) 0)
def Pu (N:Nat):LF->(Kz4)->Bool:=ay N (To N)
def va (N:Nat) (ZB Zn:Int) (Zv:LF) (k0:Kz5):Bool:=
 (tz N ZB Zn ((Zv.length:Nat):Int) (λnr=>cond (nr != 0) (k0 nr) (Pu N Zv (λcr=>cond (!cr) (k0 4) (k0 0)))))
def l5 (N:Nat):Int->Int->LF->(Kz5)->Bool:=ay N (va N)
def vh (N:Nat) (ZB Zn:Int) (Zv:LF) (k0:Kz5):Bool:=
 (l5 N ZB Zn Zv (λnr=>k0 nr))
def q_ (N:Nat):Int->Int->LF->(Kz5)->Bool:=vh N
def RN (N:Nat) (ZB Zn:Int) (Zv:LF) (i j:Int) (k0:Kz7):Bool:=
 (af .i64 (i*Zn)&&(af .i64 ((i*Zn)+j)&&(inR ((i*Zn)+j) Zv.length&&k0 (Zv.getD (Int.toNat ((i*Zn)+j)) none))))
def jp (N:Nat):Int->Int->LF->Int->Int->(Kz7)->Bool:=RN N
def u_ (N:Nat) (a b:Fl) (k0:Kz4):Bool:=
 (oq N a (λnr=>oq N b (λZo=>k0 (nr==Zo))))
def vQ (N:Nat):Fl->Fl->(Kz4)->Bool:=ay N (u_ N)
def gl (N:Nat) (ZM m_5 m_6:Int) (m_7:LF) (e0:Kz5) (e1:Bool):(Int)->((Int)->Bool)->Bool:=λv_ K=>match v_ with
 | j=>(cond (decide (j<ZM)) (jp N m_5 m_6 m_7 ZM j (λxr=>jp N m_5 m_6 m_7 j ZM (λZQ=>vQ N xr ZQ (λcr=>cond (!cr) (e0 91) (af .i64 (j+1)&&K (j+1)))))) e1)
def gk (N:Nat) (m ZX:Int) (m_4:LF) (e0:Kz5) (e1:Bool):(Int)->((Int)->Bool)->Bool:=λv_ K=>match v_ with
 | i=>(cond (decide (i<m)) (ai N (gl N i m ZX m_4 (λt2=>e0 t2) (af .i64 (i+1)&&K (i+1))) 0) e1)
def PW (N:Nat) (ZB Zn:Int) (Zv:LF) (k0:Kz5):Bool:=
 (l5 N ZB Zn Zv (λnr=>cond (nr != 0) (k0 nr) (cond (ZB != Zn) (k0 3) (ai N (gk N ZB Zn Zv (λZR=>k0 ZR) (k0 0)) 0))))
def Iv (N:Nat):Int->Int->LF->(Kz5)->Bool:=ay N (PW N)
def sj (N:Nat) (s_0:LF) (ZU Z9:Int) (s_3:LF) (k0:Kz5):Bool:=
 (q_ N ZU Z9 s_3 (λnr=>cond (nr != 0) (k0 nr) (cond ((ZU != Z9)==false) (cond (((s_0.length:Nat):Int) != ZU) (k0 3) (Pu N s_0 (λcr=>cond (!cr) (k0 4) (Iv N ZU Z9 s_3 (λZo=>cond (Zo != 0) (k0 150) (k0 0)))))) (k0 3))))
def zc (N:Nat):LF->Int->Int->LF->(Kz5)->Bool:=ay N (sj N)
def lm (N:Nat) (e0:Ky5):(Int × Int)->((Int × Int)->Bool)->Bool:=λv_ K=>match v_ with
 | (Zn,e_1)=>(cond ((Int.tmod Zn 2)==0) (af .i64 (e_1+1)&&K ((IntKind.wrap .u64 (Int.tdiv Zn 2)),(e_1+1))) (e0 Zn e_1))
def tR (N:Nat) (m e:Int) (k0:Ky5):Bool:=
 (cond (m==0) (k0 0 0) (ai N (lm N (λZv e_2=>k0 Zv e_2)) (m,e)))
def pT (N:Nat):Int->Int->(Ky5)->Bool:=ay N (tR N)
def l9 (N:Nat) (x:Fl) (neg:Bool) (e f:Int) (k0:Kx4):Bool:=
 (af .i64 (e - 1074)&&pT N f (e - 1074) (λZr ZF=>k0 neg Zr ZF 0))
def r_ (N:Nat) (x:Fl) (k0:Kx4):Bool:=
 (oZ N x (λcr nr Zo=>cond (nr==2047) (k0 false 0 0 4) (cond (decide (nr>0)) (af .i64 (nr - 1)&&l9 N x cr (nr - 1) (IntKind.wrap .u64 (Zo+4503599627370496)) k0) (l9 N x cr nr Zo k0))))
def tv (N:Nat):Fl->(Kx4)->Bool:=ay N (r_ N)
def vY (N Zn:Nat) (ZX:LI) (e0:Kz6):(Nat)->((Nat)->Bool)->Bool:=λv_ K=>match v_ with
 | Zv=>(cond ((decide (((Zv:Nat):Int)>0))==true) (af .i64 (((Zv:Nat):Int) - 1)&&(inR (((Zv:Nat):Int) - 1) Zv&&(decide ((Zn+(Int.toNat (((Zv:Nat):Int) - 1)))<ZX.length)&&cond ((ZX.getD (Zn+(Int.toNat (((Zv:Nat):Int) - 1))) 0)==0) (af .i64 (((Zv:Nat):Int) - 1)&&(decide (0<=(((Zv:Nat):Int) - 1)/\(((Zv:Nat):Int) - 1)<=((Zv:Nat):Int))&&K ((Int.toNat (((Zv:Nat):Int) - 1)) - 0))) (e0 Zv)))) (e0 Zv))
def SN (N:Nat) (b:LI) (k0:Kz6):Bool:=
 (ai N (vY N 0 b (λm_4=>k0 m_4)) b.length)
def pS (N:Nat):LI->(Kz6)->Bool:=ay N (SN N)
def MT (N:Nat) (n:Int) (k0:Kz9):Bool:=
 (pS N [(IntKind.wrap .u32 n),(IntKind.wrap .u32 (Int.fdiv n (2 ^ 32)))] (λmr=>decide ((0+mr)<=(List.length [(IntKind.wrap .u32 n),(IntKind.wrap .u32 (Int.fdiv n (2 ^ 32)))]))&&k0 (List.take mr (List.drop 0 [(IntKind.wrap .u32 n),(IntKind.wrap .u32 (Int.fdiv n (2 ^ 32)))]))))
def Dg (N:Nat):Int->(Kz9)->Bool:=ay N (MT N)
def gi (N:Nat) (e0:Kz9):(LI)->((LI)->Bool)->Bool:=λv_ K=>match v_ with
 | Zn=>(cond ((decide (((Zn.length:Nat):Int)>0))==true) (af .i64 (((Zn.length:Nat):Int) - 1)&&(inR (((Zn.length:Nat):Int) - 1) Zn.length&&cond ((Zn.getD (Int.toNat (((Zn.length:Nat):Int) - 1)) 0)==0) (af .i64 (((Zn.length:Nat):Int) - 1)&&(decide (0<=(((Zn.length:Nat):Int) - 1)/\(((Zn.length:Nat):Int) - 1)<=((Zn.length:Nat):Int))&&K (List.drop 0 (List.take (Int.toNat (((Zn.length:Nat):Int) - 1)) Zn)))) (e0 Zn))) (e0 Zn))
def xj (N:Nat) (m:LI) (k0:Kz9):Bool:=
 (ai N (gi N (λZv=>k0 Zv)) m)
def l4 (N:Nat):LI->(Kz9)->Bool:=ay N (xj N)
def RL (N:Nat) (neg:Bool) (m:LI) (b:Bool) (k0:Ky4):Bool:=
 (l4 N m (λnsr=>cond (neg==true) (k0 (decide (((nsr.length:Nat):Int)>0)) nsr) (k0 false nsr)))
def yW (N:Nat):Bool->LI->Bool->(Ky4)->Bool:=RL N
def S3 (N:Nat) (n:Int) (b:Bool) (k0:Ky4):Bool:=
 (Dg N n (λnsr=>yW N false nsr b (λcr Zm=>k0 cr Zm)))
def Rx (N:Nat):Int->Bool->(Ky4)->Bool:=ay N (S3 N)
def sk (N:Nat) (neg b:Bool) (Zl Zq:LI) (k0:Ky0):Bool:=
 (pS N Zq (λmr=>cond (neg==true) (k0 (decide (((mr:Nat):Int)>0)) 0 mr) (k0 false 0 mr)))
def tD (N:Nat):Bool->Bool->LI->LI->(Ky0)->Bool:=sk N
def MP (N:Nat) (b:Bool) (Zl:LI) (k0:Ky4):Bool:=
 (decide ((List.length ([]++Zl))*4<=140737488355328)&&tD N (!b) b Zl ([]++Zl) (λcr mr Z4=>decide ((mr+Z4)<=(List.length ([]++Zl)))&&k0 cr (List.take Z4 (List.drop mr ([]++Zl)))))
def Ph (N:Nat):Bool->LI->(Ky4)->Bool:=ay N (MP N)
def zY (N:Nat) (x:Fl) (k0:Int->Bool->LI->Bool):Bool:=
 (tv N x (λcr nr Zo Zr=>Rx N nr false (λZp nsr=>cond cr (Ph N Zp nsr (λZG Zm=>k0 Zo ZG Zm)) (k0 Zo Zp nsr))))
def BB (N:Nat):Fl->(Int->Bool->LI->Bool)->Bool:=ay N (zY N)
def eE (N:Nat) (Zn:LI) (w s:Int) (e0:Kz9):(Int × LI)->((Int × LI)->Bool)->Bool:=λv_ K=>match v_ with
 | (i,out)=>(cond (decide (i<((Zn.length:Nat):Int))) (inR i Zn.length&&(decide (0<=s)&&(af .i64 (w+i)&&(inR (w+i) out.length&&(decide ((Int.toNat (w+i))<out.length)&&(inR (w+i) out.length&&(decide ((Int.toNat (w+i))<out.length)&&(af .i64 (w+i)&&(af .i64 ((w+i)+1)&&(inR ((w+i)+1) (List.length (out.set (Int.toNat (w+i)) (aB .or .u32 (out.getD (Int.toNat (w+i)) 0) (IntKind.wrap .u32 (IntKind.wrap .u64 ((IntKind.wrap .u64 (Zn.getD i.toNat 0))*2 ^ (min s.toNat 64)))))))&&(decide ((Int.toNat ((w+i)+1))<(List.length (out.set (Int.toNat (w+i)) (aB .or .u32 (out.getD (Int.toNat (w+i)) 0) (IntKind.wrap .u32 (IntKind.wrap .u64 ((IntKind.wrap .u64 (Zn.getD i.toNat 0))*2 ^ (min s.toNat 64))))))))&&(af .i64 (i+1)&&K ((i+1),(List.set (out.set (Int.toNat (w+i)) (aB .or .u32 (out.getD (Int.toNat (w+i)) 0) (IntKind.wrap .u32 (IntKind.wrap .u64 ((IntKind.wrap .u64 (Zn.getD i.toNat 0))*2 ^ (min s.toNat 64)))))) (Int.toNat ((w+i)+1)) (IntKind.wrap .u32 (Int.fdiv (IntKind.wrap .u64 ((IntKind.wrap .u64 (Zn.getD i.toNat 0))*2 ^ (min s.toNat 64))) (2 ^ 32))))))))))))))))) (e0 out))
def u7 (N:Nat) (m:LI) (n:Int) (k0:Kz9):Bool:=
 (cond (((m.length:Nat):Int)==0) (k0 []) (af .i64 (IntKind.wrap .u64 (Int.tdiv n 32))&&(af .i64 ((IntKind.wrap .u64 (Int.tdiv n 32))+((m.length:Nat):Int))&&(af .i64 (((IntKind.wrap .u64 (Int.tdiv n 32))+((m.length:Nat):Int))+1)&&(gb 4 (((IntKind.wrap .u64 (Int.tdiv n 32))+((m.length:Nat):Int))+1) (((IntKind.wrap .u64 (Int.tdiv n 32))+((m.length:Nat):Int))+1)&&ai N (eE N m (IntKind.wrap .u64 (Int.tdiv n 32)) (Int.tmod n 32) (λZA=>pS N ZA (λmr=>decide ((0+mr)<=ZA.length)&&k0 (List.take mr (List.drop 0 ZA))))) (0,(List.replicate (Int.toNat (((IntKind.wrap .u64 (Int.tdiv n 32))+((m.length:Nat):Int))+1)) (0:Int))))))))
def vO (N:Nat):LI->Int->(Kz9)->Bool:=ay N (u7 N)
def Mr (N:Nat) (n:Int) (b Zl:Bool) (Zq:LI) (k0:Ky4):Bool:=
 (vO N Zq n (λnsr=>yW N Zl nsr b (λcr Zm=>k0 cr Zm)))
def JI (N:Nat):Int->Bool->Bool->LI->(Ky4)->Bool:=ay N (Mr N)
def Wy (N:Nat) (x e:Int) (b:Bool) (Zl:LI) (k0:Bool) (k1:Ky4):Bool:=
 (cond (decide (e>=x)) k0 (af .i64 (x - e)&&JI N (IntKind.wrap .u64 (x - e)) false b Zl (λcr nsr=>k1 cr nsr)))
def VR (N:Nat):Int->Int->Bool->LI->(Bool)->(Ky4)->Bool:=Wy N
def IP (N:Nat) (k0:Kz9):Bool:=
 (k0 [1])
def rI (N:Nat):(Kz9)->Bool:=IP N
def MB (N:Nat) (neg:Bool) (m:LI) (b Zl:Bool) (k0:Bool->LI->LI->Bool):Bool:=
 (l4 N m (λnsr=>cond (neg==true) (k0 (decide (((nsr.length:Nat):Int)>0)) nsr []) (k0 false nsr [])))
def Gu (N:Nat):Bool->LI->Bool->Bool->(Bool->LI->LI->Bool)->Bool:=MB N
def M8 (N:Nat) (neg:Bool) (m:LI) (b:Bool) (Zl:LI) (Zq:Bool) (Zy:LI) (k0:Ky4):Bool:=
 (l4 N m (λnsr=>cond (neg==true) (k0 (decide (((nsr.length:Nat):Int)>0)) nsr) (k0 false nsr)))
def GA (N:Nat):Bool->LI->Bool->LI->Bool->LI->(Ky4)->Bool:=M8 N
def GQ8 (N:Nat) (x:Int) (k0:Kz5):Bool:=
 (cond (x==0) (k0 32) (inR (Int.fdiv (IntKind.wrap .u32 ((aB .and .u32 x (IntKind.wrap .u32 (0 - x)))*125613361)) (2 ^ 27)) 32&&(af .i64 (zg.getD (Int.toNat (Int.fdiv (IntKind.wrap .u32 ((aB .and .u32 x (IntKind.wrap .u32 (0 - x)))*125613361)) (2 ^ 27))) 0)&&k0 (zg.getD (Int.toNat (Int.fdiv (IntKind.wrap .u32 ((aB .and .u32 x (IntKind.wrap .u32 (0 - x)))*125613361)) (2 ^ 27))) 0))))
def sQ8 (N:Nat):Int->(Kz5)->Bool:=ay N (GQ8 N)
def J0 (N:Nat) (z:Bool) (z_1:LI) (e0:Kz5) (e1:Bool):(Int)->((Int)->Bool)->Bool:=λv_ K=>match v_ with
 | i=>(cond (decide (i<((z_1.length:Nat):Int))) (inR i z_1.length&&cond ((z_1.getD i.toNat 0) != 0) (af .i64 (32*i)&&(inR i z_1.length&&sQ8 N (z_1.getD i.toNat 0) (λnr=>af .i64 ((32*i)+nr)&&e0 (IntKind.wrap .u64 ((32*i)+nr))))) (af .i64 (i+1)&&K (i+1))) e1)
def GQ1 (N:Nat) (b:Bool) (Zl:LI) (k0:Kz5):Bool:=
 (ai N (J0 N b Zl (λt2=>k0 t2) (k0 0)) 0)
def sQ1 (N:Nat):Bool->LI->(Kz5)->Bool:=ay N (GQ1 N)
def lh (N:Nat) (Zn:LI) (w s:Int) (e0:Kz9):(Int × LI)->((Int × LI)->Bool)->Bool:=λv_ K=>match v_ with
 | (i,out)=>(cond (decide (i<((out.length:Nat):Int))) (af .i64 (w+i)&&(inR (w+i) Zn.length&&(af .i64 (w+i)&&(af .i64 ((w+i)+1)&&cond (decide (((w+i)+1)<((Zn.length:Nat):Int))) (af .i64 (w+i)&&(af .i64 ((w+i)+1)&&(inR ((w+i)+1) Zn.length&&(decide (0<=s)&&(inR i out.length&&(decide (i.toNat<out.length)&&(af .i64 (i+1)&&K ((i+1),(out.set i.toNat (IntKind.wrap .u32 (Int.fdiv (aB .or .u64 (IntKind.wrap .u64 (Zn.getD (Int.toNat (w+i)) 0)) (IntKind.wrap .u64 ((IntKind.wrap .u64 (Zn.getD (Int.toNat ((w+i)+1)) 0))*2 ^ 32))) (2 ^ (min s.toNat 64))))))))))))) (decide (0<=s)&&(inR i out.length&&(decide (i.toNat<out.length)&&(af .i64 (i+1)&&K ((i+1),(out.set i.toNat (IntKind.wrap .u32 (Int.fdiv (IntKind.wrap .u64 (Zn.getD (Int.toNat (w+i)) 0)) (2 ^ (min s.toNat 64)))))))))))))) (e0 out))
def S9 (N:Nat) (m:LI) (n:Int) (k0:Kz9):Bool:=
 (af .i64 (IntKind.wrap .u64 (Int.tdiv n 32))&&cond (decide ((IntKind.wrap .u64 (Int.tdiv n 32))>=((m.length:Nat):Int))) (k0 []) (af .i64 (((m.length:Nat):Int) - (IntKind.wrap .u64 (Int.tdiv n 32)))&&(gb 4 (((m.length:Nat):Int) - (IntKind.wrap .u64 (Int.tdiv n 32))) (((m.length:Nat):Int) - (IntKind.wrap .u64 (Int.tdiv n 32)))&&ai N (lh N m (IntKind.wrap .u64 (Int.tdiv n 32)) (Int.tmod n 32) (λZA=>pS N ZA (λmr=>decide ((0+mr)<=ZA.length)&&k0 (List.take mr (List.drop 0 ZA))))) (0,(List.replicate (Int.toNat (((m.length:Nat):Int) - (IntKind.wrap .u64 (Int.tdiv n 32)))) (0:Int))))))
def Ci (N:Nat):LI->Int->(Kz9)->Bool:=ay N (S9 N)
def Mx (N:Nat) (x:Int) (k0:Kz5):Bool:=
 (cond (decide (x>=65536)) (cond (decide ((Int.fdiv x (2 ^ 16))>=256)) (inR (IntKind.wrap .u8 (Int.fdiv (Int.fdiv x (2 ^ 16)) (2 ^ 8))) 256&&(af .i64 (az.getD (Int.toNat (IntKind.wrap .u8 (Int.fdiv (Int.fdiv x (2 ^ 16)) (2 ^ 8)))) 0)&&(af .i64 (24+(az.getD (Int.toNat (IntKind.wrap .u8 (Int.fdiv (Int.fdiv x (2 ^ 16)) (2 ^ 8)))) 0))&&k0 (24+(az.getD (Int.toNat (IntKind.wrap .u8 (Int.fdiv (Int.fdiv x (2 ^ 16)) (2 ^ 8)))) 0))))) (inR (IntKind.wrap .u8 (Int.fdiv x (2 ^ 16))) 256&&(af .i64 (az.getD (Int.toNat (IntKind.wrap .u8 (Int.fdiv x (2 ^ 16)))) 0)&&(af .i64 (16+(az.getD (Int.toNat (IntKind.wrap .u8 (Int.fdiv x (2 ^ 16)))) 0))&&k0 (16+(az.getD (Int.toNat (IntKind.wrap .u8 (Int.fdiv x (2 ^ 16)))) 0)))))) (cond (decide (x>=256)) (inR (IntKind.wrap .u8 (Int.fdiv x (2 ^ 8))) 256&&(af .i64 (az.getD (Int.toNat (IntKind.wrap .u8 (Int.fdiv x (2 ^ 8)))) 0)&&(af .i64 (8+(az.getD (Int.toNat (IntKind.wrap .u8 (Int.fdiv x (2 ^ 8)))) 0))&&k0 (8+(az.getD (Int.toNat (IntKind.wrap .u8 (Int.fdiv x (2 ^ 8)))) 0))))) (inR (IntKind.wrap .u8 x) 256&&(af .i64 (az.getD (Int.toNat (IntKind.wrap .u8 x)) 0)&&(af .i64 (0+(az.getD (Int.toNat (IntKind.wrap .u8 x)) 0))&&k0 (0+(az.getD (Int.toNat (IntKind.wrap .u8 x)) 0)))))))
def JJ (N:Nat):Int->(Kz5)->Bool:=ay N (Mx N)
def S7 (N:Nat) (b:Bool) (Zl:LI) (k0:Kz5):Bool:=
 (cond (((Zl.length:Nat):Int)==0) (k0 0) (af .i64 (((Zl.length:Nat):Int) - 1)&&(af .i64 (32*(((Zl.length:Nat):Int) - 1))&&(af .i64 (((Zl.length:Nat):Int) - 1)&&(inR (((Zl.length:Nat):Int) - 1) Zl.length&&JJ N (Zl.getD (Int.toNat (((Zl.length:Nat):Int) - 1)) 0) (λnr=>af .i64 ((32*(((Zl.length:Nat):Int) - 1))+nr)&&k0 ((32*(((Zl.length:Nat):Int) - 1))+nr)))))))
def LO (N:Nat):Bool->LI->(Kz5)->Bool:=ay N (S7 N)
def vU (N:Nat) (Zu Zl:LI) (e0:Kz5) (e1:Bool):(Int)->((Int)->Bool)->Bool:=λv_ K=>match v_ with
 | i=>(cond (decide (i>=0)) (inR i Zu.length&&(inR i Zl.length&&cond (decide ((Zu.getD i.toNat 0)<(Zl.getD i.toNat 0))) (e0 (-1)) (inR i Zu.length&&(inR i Zl.length&&cond (decide ((Zu.getD i.toNat 0)>(Zl.getD i.toNat 0))) (e0 1) (af .i64 (i - 1)&&K (i - 1)))))) e1)
def Th (N:Nat) (a b:LI) (k0:Kz5):Bool:=
 (cond (((a.length:Nat):Int) != ((b.length:Nat):Int)) (cond (decide (((a.length:Nat):Int)<((b.length:Nat):Int))) (k0 (-1)) (k0 1)) (af .i64 (((a.length:Nat):Int) - 1)&&ai N (vU N a b (λt4=>k0 t4) (k0 0)) (((a.length:Nat):Int) - 1)))
def GB (N:Nat):LI->LI->(Kz5)->Bool:=ay N (Th N)
def ml (N:Nat) (x:LI) (e0:Kz5):(Int × Int)->((Int × Int)->Bool)->Bool:=λv_ K=>match v_ with
 | (u,i)=>(cond (decide (i>=0)) (inR i x.length&&(af .i64 (i - 1)&&K ((aB .or .u64 (IntKind.wrap .u64 (u*2 ^ 32)) (IntKind.wrap .u64 (x.getD i.toNat 0))),(i - 1)))) (e0 u))
def uZ (N:Nat) (m:LI) (at_:Int) (k0:Kz5):Bool:=
 (Ci N m (IntKind.wrap .u64 at_) (λnsr=>af .i64 (((nsr.length:Nat):Int) - 1)&&ai N (ml N nsr (λZ5=>k0 Z5)) (0,(((nsr.length:Nat):Int) - 1))))
def q7 (N:Nat):LI->Int->(Kz5)->Bool:=ay N (uZ N)
def pV (N:Nat) (e0:Kx7):(Int × Int × Int × Int × Int × Int)->((Int × Int × Int × Int × Int × Int)->Bool)->Bool:=λv_ K=>match v_ with
 | (a,b,c,d,p,q)=>(af .i64 (q+c)&&cond (((q+c) != 0)==true) (af .i64 (q+d)&&cond ((q+d) != 0) (af .i64 (p+a)&&(af .i64 (q+c)&&((!decide ((q+c)=0))&&(af .i64 (Int.tdiv (p+a) (q+c))&&(af .i64 (p+b)&&(af .i64 (q+d)&&((!decide ((q+d)=0))&&(af .i64 (Int.tdiv (p+b) (q+d))&&cond ((Int.tdiv (p+a) (q+c)) != (Int.tdiv (p+b) (q+d))) (e0 a b c d) (af .i64 ((Int.tdiv (p+a) (q+c))*c)&&(af .i64 (a - ((Int.tdiv (p+a) (q+c))*c))&&(af .i64 ((Int.tdiv (p+a) (q+c))*d)&&(af .i64 (b - ((Int.tdiv (p+a) (q+c))*d))&&cond ((decide ((a - ((Int.tdiv (p+a) (q+c))*c))>1073741824))==false) (cond ((decide ((a - ((Int.tdiv (p+a) (q+c))*c))<(-1073741824)))==false) (cond ((decide ((b - ((Int.tdiv (p+a) (q+c))*d))>1073741824))==false) (cond (decide ((b - ((Int.tdiv (p+a) (q+c))*d))<(-1073741824))) (e0 a b c d) (af .i64 ((Int.tdiv (p+a) (q+c))*q)&&(af .i64 (p - ((Int.tdiv (p+a) (q+c))*q))&&K (c,d,(a - ((Int.tdiv (p+a) (q+c))*c)),(b - ((Int.tdiv (p+a) (q+c))*d)),q,(p - ((Int.tdiv (p+a) (q+c))*q)))))) (e0 a b c d)) (e0 a b c d)) (e0 a b c d))))))))))))) (e0 a b c d)) (e0 a b c d))
def rZ (N:Nat) (x y:Int) (k0:Kx7):Bool:=
 (af .i64 x&&(af .i64 y&&ai N (pV N (λZu Zl c_1 Z0=>k0 Zu Zl c_1 Z0)) (1,0,0,1,x,y)))
def tn (N:Nat):Int->Int->(Kx7)->Bool:=ay N (rZ N)
def li (N:Nat) (Zn:LI) (Z0:Int) (e0:Kz0):(Int × Int × LI)->((Int × Int × LI)->Bool)->Bool:=λv_ K=>match v_ with
 | (r,i,out)=>(cond (decide (i>=0)) (inR i Zn.length&&((!decide ((IntKind.wrap .u64 Z0)=0))&&(inR i out.length&&(decide (i.toNat<out.length)&&((!decide ((IntKind.wrap .u64 Z0)=0))&&(af .i64 (i - 1)&&K ((Int.tmod (aB .or .u64 (IntKind.wrap .u64 (r*2 ^ 32)) (IntKind.wrap .u64 (Zn.getD i.toNat 0))) (IntKind.wrap .u64 Z0)),(i - 1),(out.set i.toNat (IntKind.wrap .u32 (IntKind.wrap .u64 (Int.tdiv (aB .or .u64 (IntKind.wrap .u64 (r*2 ^ 32)) (IntKind.wrap .u64 (Zn.getD i.toNat 0))) (IntKind.wrap .u64 Z0)))))))))))) (e0 r out))
def rY (N:Nat) (m:LI) (d:Int) (k0:LI->Int->Bool):Bool:=
 (gb 4 ((m.length:Nat):Int) ((m.length:Nat):Int)&&(af .i64 (((m.length:Nat):Int) - 1)&&ai N (li N m d (λr_1 ZA=>pS N ZA (λmr=>decide ((0+mr)<=ZA.length)&&k0 (List.take mr (List.drop 0 ZA)) (IntKind.wrap .u32 r_1)))) (0,(((m.length:Nat):Int) - 1),(List.replicate (Int.toNat ((m.length:Nat):Int)) (0:Int)))))
def oY (N:Nat):LI->Int->(LI->Int->Bool)->Bool:=ay N (rY N)
def Wt (N:Nat) (x:Int) (k0:Kz5):Bool:=
 (JJ N x (λnr=>af .i64 (32 - nr)&&k0 (32 - nr)))
def VN (N:Nat):Int->(Kz5)->Bool:=Wt N
def ow (N:Nat) (Zn:LI) (w s:Int) (e0:Kz9):(Int × LI)->((Int × LI)->Bool)->Bool:=λv_ K=>match v_ with
 | (i,out)=>(cond (decide (i<((Zn.length:Nat):Int))) (inR i Zn.length&&(decide (0<=s)&&(af .i64 (w+i)&&(inR (w+i) out.length&&(decide ((Int.toNat (w+i))<out.length)&&(inR (w+i) out.length&&(decide ((Int.toNat (w+i))<out.length)&&(af .i64 (w+i)&&(af .i64 ((w+i)+1)&&(inR ((w+i)+1) (List.length (out.set (Int.toNat (w+i)) (aB .or .u32 (out.getD (Int.toNat (w+i)) 0) (IntKind.wrap .u32 (IntKind.wrap .u64 ((IntKind.wrap .u64 (Zn.getD i.toNat 0))*2 ^ (min s.toNat 64)))))))&&(decide ((Int.toNat ((w+i)+1))<(List.length (out.set (Int.toNat (w+i)) (aB .or .u32 (out.getD (Int.toNat (w+i)) 0) (IntKind.wrap .u32 (IntKind.wrap .u64 ((IntKind.wrap .u64 (Zn.getD i.toNat 0))*2 ^ (min s.toNat 64))))))))&&(af .i64 (i+1)&&K ((i+1),(List.set (out.set (Int.toNat (w+i)) (aB .or .u32 (out.getD (Int.toNat (w+i)) 0) (IntKind.wrap .u32 (IntKind.wrap .u64 ((IntKind.wrap .u64 (Zn.getD i.toNat 0))*2 ^ (min s.toNat 64)))))) (Int.toNat ((w+i)+1)) (IntKind.wrap .u32 (Int.fdiv (IntKind.wrap .u64 ((IntKind.wrap .u64 (Zn.getD i.toNat 0))*2 ^ (min s.toNat 64))) (2 ^ 32))))))))))))))))) (e0 out))
def Tn (N:Nat) (m:LI) (n:Int) (k0:Bool) (k1:Kz1):Bool:=
 (cond (((m.length:Nat):Int)==0) k0 (af .i64 (IntKind.wrap .u64 (Int.tdiv n 32))&&(af .i64 ((IntKind.wrap .u64 (Int.tdiv n 32))+((m.length:Nat):Int))&&(af .i64 (((IntKind.wrap .u64 (Int.tdiv n 32))+((m.length:Nat):Int))+1)&&(gb 4 (((IntKind.wrap .u64 (Int.tdiv n 32))+((m.length:Nat):Int))+1) (((IntKind.wrap .u64 (Int.tdiv n 32))+((m.length:Nat):Int))+1)&&ai N (ow N m (IntKind.wrap .u64 (Int.tdiv n 32)) (Int.tmod n 32) (λZA=>pS N ZA (λmr=>k1 mr ZA))) (0,(List.replicate (Int.toNat (((IntKind.wrap .u64 (Int.tdiv n 32))+((m.length:Nat):Int))+1)) (0:Int))))))))
def Pt (N:Nat):LI->Int->(Bool)->(Kz1)->Bool:=ay N (Tn N)
def g9 (N u u_2 d d_2:Nat) (ZP g_1:Int) (d_3:LI) (e0:Int->Int->LI->Bool):(Int × Int × Int × LI)->((Int × Int × Int × LI)->Bool)->Bool:=λv_ K=>match v_ with
 | (carry,borrow,i,u_3)=>(cond (decide (i<((d_2:Nat):Int))) (inR i d_2&&(decide ((d+i.toNat)<d_3.length)&&(af .i64 (ZP+i)&&(inR (ZP+i) u_2&&(decide ((u+(Int.toNat (ZP+i)))<u_3.length)&&cond (decide ((IntKind.wrap .u64 (u_3.getD (u+(Int.toNat (ZP+i))) 0))<(IntKind.wrap .u64 ((aB .and .u64 (IntKind.wrap .u64 ((IntKind.wrap .u64 (g_1*(IntKind.wrap .u64 (d_3.getD (d+i.toNat) 0))))+carry)) 4294967295)+borrow)))) (af .i64 (ZP+i)&&(inR (ZP+i) u_2&&(decide ((u+(Int.toNat (ZP+i)))<u_3.length)&&(af .i64 (i+1)&&K ((Int.fdiv (IntKind.wrap .u64 ((IntKind.wrap .u64 (g_1*(IntKind.wrap .u64 (d_3.getD (d+i.toNat) 0))))+carry)) (2 ^ 32)),1,(i+1),(u_3.set (u+(Int.toNat (ZP+i))) (IntKind.wrap .u32 (IntKind.wrap .u64 ((IntKind.wrap .u64 ((IntKind.wrap .u64 (u_3.getD (u+(Int.toNat (ZP+i))) 0))+4294967296)) - (IntKind.wrap .u64 ((aB .and .u64 (IntKind.wrap .u64 ((IntKind.wrap .u64 (g_1*(IntKind.wrap .u64 (d_3.getD (d+i.toNat) 0))))+carry)) 4294967295)+borrow))))))))))) (af .i64 (ZP+i)&&(inR (ZP+i) u_2&&(decide ((u+(Int.toNat (ZP+i)))<u_3.length)&&(af .i64 (i+1)&&K ((Int.fdiv (IntKind.wrap .u64 ((IntKind.wrap .u64 (g_1*(IntKind.wrap .u64 (d_3.getD (d+i.toNat) 0))))+carry)) (2 ^ 32)),0,(i+1),(u_3.set (u+(Int.toNat (ZP+i))) (IntKind.wrap .u32 (IntKind.wrap .u64 ((IntKind.wrap .u64 (u_3.getD (u+(Int.toNat (ZP+i))) 0)) - (IntKind.wrap .u64 ((aB .and .u64 (IntKind.wrap .u64 ((IntKind.wrap .u64 (g_1*(IntKind.wrap .u64 (d_3.getD (d+i.toNat) 0))))+carry)) 4294967295)+borrow)))))))))))))))) (e0 carry borrow u_3))
def MH (N Z7 Z5 d_0 Z0:Nat) (j g:Int) (b Zl:LI) (k0:Ky4):Bool:=
 (ai N (g9 N Z7 Z5 d_0 Z0 j g Zl (λZJ aay u_4=>af .i64 (j+((Z0:Nat):Int))&&(inR (j+((Z0:Nat):Int)) Z5&&(decide ((Z7+(Int.toNat (j+((Z0:Nat):Int))))<u_4.length)&&(af .i64 (j+((Z0:Nat):Int))&&(inR (j+((Z0:Nat):Int)) Z5&&(decide ((Z7+(Int.toNat (j+((Z0:Nat):Int))))<u_4.length)&&k0 (decide ((IntKind.wrap .u64 (u_4.getD (Z7+(Int.toNat (j+((Z0:Nat):Int)))) 0))<(IntKind.wrap .u64 (ZJ+aay)))) (u_4.set (Z7+(Int.toNat (j+((Z0:Nat):Int)))) (IntKind.wrap .u32 (IntKind.wrap .u64 ((IntKind.wrap .u64 (u_4.getD (Z7+(Int.toNat (j+((Z0:Nat):Int)))) 0)) - (IntKind.wrap .u64 (ZJ+aay))))))))))))) (0,0,0,b))
def Pb (N:Nat):Nat->Nat->Nat->Nat->Int->Int->LI->LI->(Ky4)->Bool:=ay N (MH N)
def g_ (N u u_2 d d_2:Nat) (ZP:Int) (d_3:LI) (e0:Kz0):(Int × Int × LI)->((Int × Int × LI)->Bool)->Bool:=λv_ K=>match v_ with
 | (carry,i,u_3)=>(cond (decide (i<((d_2:Nat):Int))) (af .i64 (ZP+i)&&(inR (ZP+i) u_2&&(decide ((u+(Int.toNat (ZP+i)))<u_3.length)&&(inR i d_2&&(decide ((d+i.toNat)<d_3.length)&&(af .i64 (ZP+i)&&(inR (ZP+i) u_2&&(decide ((u+(Int.toNat (ZP+i)))<u_3.length)&&(af .i64 (i+1)&&K ((Int.fdiv (IntKind.wrap .u64 ((IntKind.wrap .u64 ((IntKind.wrap .u64 (u_3.getD (u+(Int.toNat (ZP+i))) 0))+(IntKind.wrap .u64 (d_3.getD (d+i.toNat) 0))))+carry)) (2 ^ 32)),(i+1),(u_3.set (u+(Int.toNat (ZP+i))) (IntKind.wrap .u32 (IntKind.wrap .u64 ((IntKind.wrap .u64 ((IntKind.wrap .u64 (u_3.getD (u+(Int.toNat (ZP+i))) 0))+(IntKind.wrap .u64 (d_3.getD (d+i.toNat) 0))))+carry)))))))))))))) (e0 carry u_3))
def MI (N Z7 Z5 d_0 Z0:Nat) (j:Int) (b Zl:LI) (k0:Kz9):Bool:=
 (ai N (g_ N Z7 Z5 d_0 Z0 j Zl (λZJ u_4=>af .i64 (j+((Z0:Nat):Int))&&(inR (j+((Z0:Nat):Int)) Z5&&(decide ((Z7+(Int.toNat (j+((Z0:Nat):Int))))<u_4.length)&&(inR (j+((Z0:Nat):Int)) Z5&&(decide ((Z7+(Int.toNat (j+((Z0:Nat):Int))))<u_4.length)&&k0 (u_4.set (Z7+(Int.toNat (j+((Z0:Nat):Int)))) (IntKind.wrap .u32 ((u_4.getD (Z7+(Int.toNat (j+((Z0:Nat):Int)))) 0)+(IntKind.wrap .u32 ZJ)))))))))) (0,0,b))
def Pc (N:Nat):Nat->Nat->Nat->Nat->Int->LI->LI->(Kz9)->Bool:=ay N (MI N)
def vX (N m:Nat) (ZX:LI) (e0:Kz6):(Nat)->((Nat)->Bool)->Bool:=λv_ K=>match v_ with
 | Zv=>(cond ((decide (((Zv:Nat):Int)>0))==true) (af .i64 (((Zv:Nat):Int) - 1)&&(inR (((Zv:Nat):Int) - 1) Zv&&(decide ((m+(Int.toNat (((Zv:Nat):Int) - 1)))<ZX.length)&&cond ((ZX.getD (m+(Int.toNat (((Zv:Nat):Int) - 1))) 0)==0) (af .i64 (((Zv:Nat):Int) - 1)&&(decide (0<=(((Zv:Nat):Int) - 1)/\(((Zv:Nat):Int) - 1)<=((Zv:Nat):Int))&&K ((Int.toNat (((Zv:Nat):Int) - 1)) - 0))) (e0 Zv)))) (e0 Zv))
def rW (N ZB Zn:Nat) (b:LI) (k0:Kz6):Bool:=
 (ai N (vX N ZB b (λm_4=>k0 m_4)) Zn)
def tm (N:Nat):Nat->Nat->LI->(Kz6)->Bool:=ay N (rW N)
def ja (N m Zv:Nat) (w s:Int) (ZX:LI) (e0:Kz9):(Int × LI)->((Int × LI)->Bool)->Bool:=λv_ K=>match v_ with
 | (i,out)=>(cond (decide (i<((out.length:Nat):Int))) (af .i64 (w+i)&&(inR (w+i) Zv&&(decide ((m+(Int.toNat (w+i)))<ZX.length)&&(af .i64 (w+i)&&(af .i64 ((w+i)+1)&&cond (decide (((w+i)+1)<((Zv:Nat):Int))) (af .i64 (w+i)&&(af .i64 ((w+i)+1)&&(inR ((w+i)+1) Zv&&(decide ((m+(Int.toNat ((w+i)+1)))<ZX.length)&&(decide (0<=s)&&(inR i out.length&&(decide (i.toNat<out.length)&&(af .i64 (i+1)&&K ((i+1),(out.set i.toNat (IntKind.wrap .u32 (Int.fdiv (aB .or .u64 (IntKind.wrap .u64 (ZX.getD (m+(Int.toNat (w+i))) 0)) (IntKind.wrap .u64 ((IntKind.wrap .u64 (ZX.getD (m+(Int.toNat ((w+i)+1))) 0))*2 ^ 32))) (2 ^ (min s.toNat 64)))))))))))))) (decide (0<=s)&&(inR i out.length&&(decide (i.toNat<out.length)&&(af .i64 (i+1)&&K ((i+1),(out.set i.toNat (IntKind.wrap .u32 (Int.fdiv (IntKind.wrap .u64 (ZX.getD (m+(Int.toNat (w+i))) 0)) (2 ^ (min s.toNat 64))))))))))))))) (e0 out))
def M0 (N ZB Zn:Nat) (n:Int) (b:LI) (k0:Kz9):Bool:=
 (af .i64 (IntKind.wrap .u64 (Int.tdiv n 32))&&cond (decide ((IntKind.wrap .u64 (Int.tdiv n 32))>=((Zn:Nat):Int))) (k0 []) (af .i64 (((Zn:Nat):Int) - (IntKind.wrap .u64 (Int.tdiv n 32)))&&(gb 4 (((Zn:Nat):Int) - (IntKind.wrap .u64 (Int.tdiv n 32))) (((Zn:Nat):Int) - (IntKind.wrap .u64 (Int.tdiv n 32)))&&ai N (ja N ZB Zn (IntKind.wrap .u64 (Int.tdiv n 32)) (Int.tmod n 32) b (λZA=>pS N ZA (λmr=>decide ((0+mr)<=ZA.length)&&k0 (List.take mr (List.drop 0 ZA))))) (0,(List.replicate (Int.toNat (((Zn:Nat):Int) - (IntKind.wrap .u64 (Int.tdiv n 32)))) (0:Int))))))
def Pl (N:Nat):Nat->Nat->Int->LI->(Kz9)->Bool:=ay N (M0 N)
def pn (N:Nat) (Zu:LI) (s:Int) (e0:Kz1):(Nat × LI)->((Nat × LI)->Bool)->Bool:=λv_ K=>match v_ with
 | (u,Z5)=>(af .i64 (((Zu.length:Nat):Int)+1)&&cond (decide (((u:Nat):Int)<(((Zu.length:Nat):Int)+1))) (decide ((0+u)<=Z5.length)&&(decide ((List.length ((List.take u (List.drop 0 Z5))++[0]))*4<=140737488355328)&&K ((List.length ((List.take u (List.drop 0 Z5))++[0])),((List.take u (List.drop 0 Z5))++[0])))) (e0 u Z5))
def tH (N:Nat) (ZH:LI) (ZU:Int) (d:Nat) (Z0:LI) (e0:Kz1):(Nat × LI)->((Nat × LI)->Bool)->Bool:=λv_ K=>match v_ with
 | (u_6,u_7)=>(af .i64 (((ZH.length:Nat):Int)+1)&&cond (decide (((u_6:Nat):Int)<(((ZH.length:Nat):Int)+1))) (decide ((0+u_6)<=u_7.length)&&(decide ((List.length ((List.take u_6 (List.drop 0 u_7))++[0]))*4<=140737488355328)&&K ((List.length ((List.take u_6 (List.drop 0 u_7))++[0])),((List.take u_6 (List.drop 0 u_7))++[0])))) (e0 u_6 u_7))
def pm (N:Nat) (s_5:Int) (d_6 ad3:Nat) (ZV aby ZP:Int) (d_7 adz q_1:LI) (e0:Kz5):(Int × Int)->((Int × Int)->Bool)->Bool:=λv_ K=>match v_ with
 | (g,r)=>(cond ((decide (g>=4294967296))==false) (af .i64 (ZV - 2)&&(inR (ZV - 2) d_6&&(decide ((0+(Int.toNat (ZV - 2)))<d_7.length)&&(af .i64 (ZP+ZV)&&(af .i64 ((ZP+ZV) - 2)&&(inR ((ZP+ZV) - 2) ad3&&(decide ((0+(Int.toNat ((ZP+ZV) - 2)))<adz.length)&&cond (decide ((IntKind.wrap .u64 (g*(IntKind.wrap .u64 (d_7.getD (0+(Int.toNat (ZV - 2))) 0))))>(aB .or .u64 (IntKind.wrap .u64 (r*2 ^ 32)) (IntKind.wrap .u64 (adz.getD (0+(Int.toNat ((ZP+ZV) - 2))) 0))))) (cond (decide ((IntKind.wrap .u64 (r+aby))>=4294967296)) (e0 (IntKind.wrap .u64 (g - 1))) (K ((IntKind.wrap .u64 (g - 1)),(IntKind.wrap .u64 (r+aby))))) (e0 g)))))))) (cond (decide ((IntKind.wrap .u64 (r+aby))>=4294967296)) (e0 (IntKind.wrap .u64 (g - 1))) (K ((IntKind.wrap .u64 (g - 1)),(IntKind.wrap .u64 (r+aby))))))
def jR (N:Nat) (s_4:Int) (d_4 acf:Nat) (n top:Int) (d_5:LI) (e0:Kz3):(Int × LI × LI)->((Int × LI × LI)->Bool)->Bool:=λv_ K=>match v_ with
 | (j,ab1,q)=>(cond (decide (j>=0)) (af .i64 (j+n)&&(inR (j+n) acf&&(decide ((0+(Int.toNat (j+n)))<ab1.length)&&(af .i64 (j+n)&&(af .i64 ((j+n) - 1)&&(inR ((j+n) - 1) acf&&(decide ((0+(Int.toNat ((j+n) - 1)))<ab1.length)&&((!decide (top=0))&&((!decide (top=0))&&ai N (pm N s_4 d_4 acf n top j d_5 ab1 q (λg_1=>Pb N 0 acf 0 d_4 j g_1 ab1 d_5 (λcr Zz=>cond cr (Pc N 0 acf 0 d_4 j Zz d_5 (λZx=>inR j q.length&&(decide (j.toNat<q.length)&&(af .i64 (j - 1)&&K ((j - 1),Zx,(q.set j.toNat (IntKind.wrap .u32 (IntKind.wrap .u64 (g_1 - 1))))))))) (inR j q.length&&(decide (j.toNat<q.length)&&(af .i64 (j - 1)&&K ((j - 1),Zz,(q.set j.toNat (IntKind.wrap .u32 g_1))))))))) ((IntKind.wrap .u64 (Int.tdiv (aB .or .u64 (IntKind.wrap .u64 ((IntKind.wrap .u64 (ab1.getD (0+(Int.toNat (j+n))) 0))*2 ^ 32)) (IntKind.wrap .u64 (ab1.getD (0+(Int.toNat ((j+n) - 1))) 0))) top)),(Int.tmod (aB .or .u64 (IntKind.wrap .u64 ((IntKind.wrap .u64 (ab1.getD (0+(Int.toNat (j+n))) 0))*2 ^ 32)) (IntKind.wrap .u64 (ab1.getD (0+(Int.toNat ((j+n) - 1))) 0))) top))))))))))) (e0 ab1 q))
def qj (N:Nat) (a b:LI) (s_3:Int) (d_2 ace:Nat) (d_3 afA:LI) (k0:Kz3):Bool:=
 (af .i64 (((ace:Nat):Int) - ((d_2:Nat):Int))&&(gb 4 (((ace:Nat):Int) - ((d_2:Nat):Int)) (((ace:Nat):Int) - ((d_2:Nat):Int))&&(af .i64 (((d_2:Nat):Int) - 1)&&(inR (((d_2:Nat):Int) - 1) d_2&&(decide ((0+(Int.toNat (((d_2:Nat):Int) - 1)))<d_3.length)&&(af .i64 ((((List.length (List.replicate (Int.toNat (((ace:Nat):Int) - ((d_2:Nat):Int))) (0:Int))):Nat):Int) - 1)&&ai N (jR N s_3 d_2 ace ((d_2:Nat):Int) (IntKind.wrap .u64 (d_3.getD (0+(Int.toNat (((d_2:Nat):Int) - 1))) 0)) d_3 (λaeY q_2=>pS N q_2 (λadf=>decide (0<=((d_2:Nat):Int)/\((d_2:Nat):Int)<=((ace:Nat):Int))&&tm N 0 ((Int.toNat ((d_2:Nat):Int)) - 0) aeY (λafu=>Pl N 0 afu s_3 aeY (λs6=>decide ((0+adf)<=q_2.length)&&k0 (List.take adf (List.drop 0 q_2)) s6))))) (((((List.length (List.replicate (Int.toNat (((ace:Nat):Int) - ((d_2:Nat):Int))) (0:Int))):Nat):Int) - 1),afA,(List.replicate (Int.toNat (((ace:Nat):Int) - ((d_2:Nat):Int))) (0:Int)))))))))
def wj (N:Nat) (a b:LI) (Z9:Int) (aey:Nat) (afG:LI) (k0:Kz3):Bool:=
 (af .i64 (((aey:Nat):Int) - 0)&&(gb 4 (((aey:Nat):Int) - 0) (((aey:Nat):Int) - 0)&&false))
def M9 (N:Nat) (a b:LI) (k0:Kz3):Bool:=
 (GB N a b (λnr=>cond (decide (nr<0)) (decide ((List.length ([]++a))*4<=140737488355328)&&k0 [] ([]++a)) (cond (((b.length:Nat):Int)==1) (inR 0 b.length&&oY N a (b.getD 0 0) (λnsr Zo=>pS N [Zo] (λmr=>decide ((0+mr)<=(List.length [Zo]))&&k0 nsr (List.take mr (List.drop 0 [Zo]))))) (af .i64 (((b.length:Nat):Int) - 1)&&(inR (((b.length:Nat):Int) - 1) b.length&&VN N (b.getD (Int.toNat (((b.length:Nat):Int) - 1)) 0) (λZr=>Pt N b (IntKind.wrap .u64 Zr) (Pt N a (IntKind.wrap .u64 Zr) (ai N (pn N a (IntKind.wrap .u64 Zr) (λu_2 u_3=>wj N a b (IntKind.wrap .u64 Zr) u_2 u_3 k0)) (0,[])) (λZL Zs=>ai N (pn N a (IntKind.wrap .u64 Zr) (λu_4 u_5=>wj N a b (IntKind.wrap .u64 Zr) u_4 u_5 k0)) (ZL,Zs))) (λZ4 Zm=>Pt N a (IntKind.wrap .u64 Zr) (ai N (tH N a (IntKind.wrap .u64 Zr) Z4 Zm (λu_8 u_9=>qj N a b (IntKind.wrap .u64 Zr) Z4 u_8 Zm u_9 k0)) (0,[])) (λacY Zt=>ai N (tH N a (IntKind.wrap .u64 Zr) Z4 Zm (λaaX aa2=>qj N a b (IntKind.wrap .u64 Zr) Z4 aaX Zm aa2 k0)) (acY,Zt)))))))))
def xS (N:Nat):LI->LI->(Kz3)->Bool:=ay N (M9 N)
def ll (N:Nat) (ZH Zq:LI) (ZM:Int) (e0:Kz0):(Int × Int × LI)->((Int × Int × LI)->Bool)->Bool:=λv_ K=>match v_ with
 | (carry,k_,ZA)=>(cond (decide (k_<((Zq.length:Nat):Int))) (inR ZM ZH.length&&(inR k_ Zq.length&&(af .i64 (ZM+k_)&&(inR (ZM+k_) ZA.length&&(decide ((Int.toNat (ZM+k_))<ZA.length)&&(af .i64 (ZM+k_)&&(inR (ZM+k_) ZA.length&&(decide ((Int.toNat (ZM+k_))<ZA.length)&&(af .i64 (k_+1)&&K ((Int.fdiv (IntKind.wrap .u64 ((IntKind.wrap .u64 ((IntKind.wrap .u64 ((IntKind.wrap .u64 (ZH.getD ZM.toNat 0))*(IntKind.wrap .u64 (Zq.getD k_.toNat 0))))+(IntKind.wrap .u64 (ZA.getD (Int.toNat (ZM+k_)) 0))))+carry)) (2 ^ 32)),(k_+1),(ZA.set (Int.toNat (ZM+k_)) (IntKind.wrap .u32 (IntKind.wrap .u64 ((IntKind.wrap .u64 ((IntKind.wrap .u64 ((IntKind.wrap .u64 (ZH.getD ZM.toNat 0))*(IntKind.wrap .u64 (Zq.getD k_.toNat 0))))+(IntKind.wrap .u64 (ZA.getD (Int.toNat (ZM+k_)) 0))))+carry)))))))))))))) (e0 carry ZA))
def lj (N:Nat) (Zu Zl:LI) (e0:Kz9):(Int × LI)->((Int × LI)->Bool)->Bool:=λv_ K=>match v_ with
 | (i,out)=>(cond (decide (i<((Zu.length:Nat):Int))) (ai N (ll N Zu Zl i (λZJ aac=>af .i64 (i+((Zl.length:Nat):Int))&&(inR (i+((Zl.length:Nat):Int)) aac.length&&(decide ((Int.toNat (i+((Zl.length:Nat):Int)))<aac.length)&&(af .i64 (i+1)&&K ((i+1),(aac.set (Int.toNat (i+((Zl.length:Nat):Int))) (IntKind.wrap .u32 ZJ)))))))) (0,0,out)) (e0 out))
def Tk (N:Nat) (a b:LI) (k0:Kz9):Bool:=
 (af .i64 (((a.length:Nat):Int)+((b.length:Nat):Int))&&(gb 4 (((a.length:Nat):Int)+((b.length:Nat):Int)) (((a.length:Nat):Int)+((b.length:Nat):Int))&&ai N (lj N a b (λaaJ=>pS N aaJ (λmr=>decide ((0+mr)<=aaJ.length)&&k0 (List.take mr (List.drop 0 aaJ))))) (0,(List.replicate (Int.toNat (((a.length:Nat):Int)+((b.length:Nat):Int))) (0:Int)))))
def zw (N:Nat):LI->LI->(Kz9)->Bool:=ay N (Tk N)
def lf (N:Nat) (Zu Zl:LI) (e0:Kz9):(Int × Int × LI)->((Int × Int × LI)->Bool)->Bool:=λv_ K=>match v_ with
 | (borrow,i,out)=>(cond (decide (i<((Zu.length:Nat):Int))) (cond (decide (i<((Zl.length:Nat):Int))) (inR i Zl.length&&(inR i Zu.length&&cond (decide ((IntKind.wrap .u64 (Zu.getD i.toNat 0))<(IntKind.wrap .u64 (borrow+(IntKind.wrap .u64 (Zl.getD i.toNat 0)))))) (inR i out.length&&(decide (i.toNat<out.length)&&(af .i64 (i+1)&&K (1,(i+1),(out.set i.toNat (IntKind.wrap .u32 (IntKind.wrap .u64 ((IntKind.wrap .u64 ((IntKind.wrap .u64 (Zu.getD i.toNat 0))+4294967296)) - (IntKind.wrap .u64 (borrow+(IntKind.wrap .u64 (Zl.getD i.toNat 0)))))))))))) (inR i out.length&&(decide (i.toNat<out.length)&&(af .i64 (i+1)&&K (0,(i+1),(out.set i.toNat (IntKind.wrap .u32 (IntKind.wrap .u64 ((IntKind.wrap .u64 (Zu.getD i.toNat 0)) - (IntKind.wrap .u64 (borrow+(IntKind.wrap .u64 (Zl.getD i.toNat 0)))))))))))))) (inR i Zu.length&&cond (decide ((IntKind.wrap .u64 (Zu.getD i.toNat 0))<borrow)) (inR i out.length&&(decide (i.toNat<out.length)&&(af .i64 (i+1)&&K (1,(i+1),(out.set i.toNat (IntKind.wrap .u32 (IntKind.wrap .u64 ((IntKind.wrap .u64 ((IntKind.wrap .u64 (Zu.getD i.toNat 0))+4294967296)) - borrow)))))))) (inR i out.length&&(decide (i.toNat<out.length)&&(af .i64 (i+1)&&K (0,(i+1),(out.set i.toNat (IntKind.wrap .u32 (IntKind.wrap .u64 ((IntKind.wrap .u64 (Zu.getD i.toNat 0)) - borrow)))))))))) (e0 out))
def rX (N:Nat) (a b:LI) (k0:Kz9):Bool:=
 (gb 4 ((a.length:Nat):Int) ((a.length:Nat):Int)&&ai N (lf N a b (λZA=>pS N ZA (λmr=>decide ((0+mr)<=ZA.length)&&k0 (List.take mr (List.drop 0 ZA))))) (0,0,(List.replicate (Int.toNat ((a.length:Nat):Int)) (0:Int))))
def mP (N:Nat):LI->LI->(Kz9)->Bool:=ay N (rX N)
def M5 (N:Nat) (a:LI) (u:Int) (b:LI) (v:Int) (k0:Kz9):Bool:=
 (Dg N u (λnsr=>zw N a nsr (λZm=>Dg N v (λZs=>zw N b Zs (λZt=>mP N Zm Zt (λZz=>k0 Zz))))))
def JQ (N:Nat):LI->Int->LI->Int->(Kz9)->Bool:=ay N (M5 N)
def tQ (N:Nat) (a:LI) (u:Int) (b:LI) (v:Int) (k0:Kz9):Bool:=
 (cond (decide (v<=0)) (af .i64 (0 - v)&&JQ N a (IntKind.wrap .u64 u) b (IntKind.wrap .u64 (0 - v)) (λnsr=>k0 nsr)) (af .i64 (0 - u)&&JQ N b (IntKind.wrap .u64 v) a (IntKind.wrap .u64 (0 - u)) (λZm=>k0 Zm)))
def nH (N:Nat):LI->Int->LI->Int->(Kz9)->Bool:=ay N (tQ N)
def GQ (N:Nat) (e0:Kz3):(LI × LI)->((LI × LI)->Bool)->Bool:=λv_ K=>match v_ with
 | (ZH,Zq)=>(cond (decide (((Zq.length:Nat):Int)>2)) (LO N false ZH (λZo=>af .i64 (Zo - 62)&&q7 N ZH (Zo - 62) (λZr=>q7 N Zq (Zo - 62) (λZF=>tn N Zr ZF (λZC n5 n6 n7=>cond (n5==0) (xS N ZH Zq (λnsr Zm=>K (Zq,Zm))) (nH N ZH ZC Zq n5 (λZs=>nH N ZH n6 Zq n7 (λZt=>K (Zs,Zt))))))))) (e0 ZH Zq))
def yb (N:Nat) (e0:Kz9):(LI × LI)->((LI × LI)->Bool)->Bool:=λv_ K=>match v_ with
 | (a_4,ZK)=>(cond (decide (((ZK.length:Nat):Int)>0)) (xS N a_4 ZK (λZz Zx=>K (ZK,Zx))) (e0 a_4))
def PZ (N:Nat) (a b Zu Zl:LI) (k0:Kz9):Bool:=
 (ai N (GQ N (λZ6 Zy=>ai N (yb N (λa_5=>decide ((List.length ([]++a_5))*4<=140737488355328)&&k0 ([]++a_5))) (Z6,Zy))) (Zu,Zl))
def MQ (N:Nat) (a b:LI) (k0:Kz9):Bool:=
 (GB N a b (λnr=>cond (decide (nr<0)) (PZ N a b b a k0) (PZ N a b a b k0)))
def Gw (N:Nat):LI->LI->(Kz9)->Bool:=ay N (MQ N)
def Ke (N:Nat) (neg:Bool) (a b:LI) (Zl Zq:Bool) (Zu Zy:LI) (k0:Kx5):Bool:=
 (Gu N neg Zu Zl Zq (λZG aax s13=>GA N false Zy ZG aax Zq s13 (λZO s14=>k0 ZG aax ZO s14)))
def M_ (N:Nat) (neg:Bool) (a b:LI) (Zl Zq:Bool) (n:Int) (k0:Kx5):Bool:=
 (Ci N a n (λZz=>Ci N b n (λZx=>sQ1 N false Zx (λZr=>af .i64 Zr&&LO N false Zx (λZF=>af .i64 (ZF - 1)&&cond (Zr != (ZF - 1)) (Gw N Zz Zx (λs6=>rI N (λs7=>GB N s6 s7 (λZC=>cond (ZC != 0) (xS N Zz s6 (λs8 s9=>xS N Zx s6 (λs10 s11=>Ke N neg a b Zl Zq s8 s10 k0))) (Ke N neg a b Zl Zq Zz Zx k0))))) (Ke N neg a b Zl Zq Zz Zx k0))))))
def SK (N:Nat) (neg:Bool) (a b:LI) (Zl Zq:Bool) (k0:Kx5):Bool:=
 (cond (((a.length:Nat):Int)==0) (Gu N false [] Zl Zq (λcr nsr Zm=>rI N (λZs=>GA N false Zs cr nsr Zq Zm (λZp Zt=>k0 cr nsr Zp Zt)))) (sQ1 N false a (λnr=>sQ1 N false b (λZo=>cond (decide (Zo<nr)) (M_ N neg a b Zl Zq Zo k0) (M_ N neg a b Zl Zq nr k0)))))
def LG (N:Nat):Bool->LI->LI->Bool->Bool->(Kx5)->Bool:=ay N (SK N)
def Wn (N:Nat) (b Zl Zq:Bool) (Zy:LI) (k0:Kx5):Bool:=
 (rI N (λnsr=>LG N Zq Zy nsr b Zl (λcr Zm Zp Zs=>k0 cr Zm Zp Zs)))
def Rn (N:Nat):Bool->Bool->Bool->LI->(Kx5)->Bool:=Wn N
def js (N:Nat) (n:Int) (b:Bool) (u:Int) (k0:Ky4):Bool:=
 (Dg N u (λnsr=>yW N (decide (n<0)) nsr b (λcr Zm=>k0 cr Zm)))
def Mw (N:Nat) (n:Int) (b:Bool) (k0:Ky4):Bool:=
 (cond (decide (n<0)) (js N n b (IntKind.wrap .u64 (0 - (IntKind.wrap .u64 n))) k0) (js N n b (IntKind.wrap .u64 n) k0))
def Sl (N:Nat):Int->Bool->(Ky4)->Bool:=ay N (Mw N)
def wc (N:Nat) (n:Int) (k0:Ky4):Bool:=
 (Sl N n false (λcr nsr=>k0 cr nsr))
def nt (N:Nat):Int->(Ky4)->Bool:=wc N
def Wr (N:Nat) (b Zl Zq:Bool) (Zy:LI) (ZK:Bool) (Z2:LI) (k0:Kx5):Bool:=
 (LG N (Zq != ZK) Zy Z2 b Zl (λcr nsr Zp Zm=>k0 cr nsr Zp Zm))
def W4 (N:Nat):Bool->Bool->Bool->LI->Bool->LI->(Kx5)->Bool:=Wr N
def Tc (N:Nat) (x:Int) (b:Bool) (Zl:LI) (k0:Kx5):Bool:=
 (cond (decide (x>=0)) (VR N x 0 b Zl (Rn N false false b Zl (λcr nsr Zp Zm=>k0 cr nsr Zp Zm)) (λZG Zs=>Rn N false false ZG Zs (λZO Zt aaZ Zz=>k0 ZO Zt aaZ Zz))) (nt N 1 (λabX Zx=>af .i64 (0 - x)&&JI N (IntKind.wrap .u64 (0 - x)) false abX Zx (λacn s6=>W4 N false false b Zl acn s6 (λaco s7 c8 s8=>k0 aco s7 c8 s8)))))
def W8 (N:Nat):Int->Bool->LI->(Kx5)->Bool:=ay N (Tc N)
def yi (N:Nat) (x:Fl) (k0:Kx5):Bool:=
 (BB N x (λnr cr nsr=>W8 N nr cr nsr (λZp Zm ZG Zs=>k0 Zp Zm ZG Zs)))
def tx (N:Nat):Fl->(Kx5)->Bool:=yi N
def lq (N:Nat) (abb:LF) (abv Z_ aaa r_2 r_3:Int) (e0:List RY1->Bool):(Int × List RY1)->((Int × List RY1)->Bool)->Bool:=λv_ K=>match v_ with
 | (ab7,b2)=>(cond (decide (ab7<abv)) (inR ab7 abb.length&&tx N (abb.getD ab7.toNat none) (λZG Zs ZO Zt=>decide ((List.length b2+1)*8<=140737488355328)&&(af .i64 (ab7+1)&&K ((ab7+1),(b2++[((ZG,Zs),(ZO,Zt))]))))) (e0 b2))
def sb (N:Nat) (ZB Zn:Int) (Zv:LF) (k0:List RY1->Bool):Bool:=
 (ai N (lq N Zv ((Zv.length:Nat):Int) 0 0 ZB Zn (λ(aaB:List RY1)=>k0 aaB)) (0,[]))
def tw (N:Nat):Int->Int->LF->(List RY1->Bool)->Bool:=ay N (sb N)
def yj (N:Nat) (ZB Zn:Int) (Zv:LF) (k0:List RY1->Bool):Bool:=
 (tw N ZB Zn Zv (λ(lr:List RY1)=>k0 lr))
def zb (N:Nat):Int->Int->LF->(List RY1->Bool)->Bool:=yj N
def j6 (N:Nat) (abY aae aaq aar Zv ZX:Int) (e0:List RY1->Bool):(Int × List RY1)->((Int × List RY1)->Bool)->Bool:=λv_ K=>match v_ with
 | (ZM,b2)=>(af .i64 (abY*aae)&&cond (decide (ZM<(abY*aae))) (decide ((List.length b2+1)*8<=140737488355328)&&(af .i64 (ZM+1)&&K ((ZM+1),(b2++[((false,[]),(false,[]))])))) (e0 b2))
def qh (N:Nat) (rows cols:Int) (k0:List RY1->Bool):Bool:=
 (ai N (j6 N rows cols 0 0 rows cols (λ(aaB:List RY1)=>k0 aaB)) (0,[]))
def q8 (N:Nat):Int->Int->(List RY1->Bool)->Bool:=ay N (qh N)
def Mu (N:Nat) (r_0:Bool) (r_1:LI) (r_2:Bool) (r_3:LI) (k0:Kz9):Bool:=
 (cond (((r_3.length:Nat):Int)==0) (rI N (λnsr=>k0 nsr)) (k0 r_3))
def O6 (N:Nat):Bool->LI->Bool->LI->(Kz9)->Bool:=ay N (Mu N)
def rk (N:Nat) (neg b:Bool) (Zl:LI) (Zq:Bool) (Zy ZK:LI) (k0:Ky0):Bool:=
 (pS N ZK (λmr=>cond (neg==true) (k0 (decide (((mr:Nat):Int)>0)) 0 mr) (k0 false 0 mr)))
def rJ (N:Nat):Bool->Bool->LI->Bool->LI->LI->(Ky0)->Bool:=rk N
def RQ (N:Nat) (neg b:Bool) (Zl Zq:Nat) (Zy:Bool) (ZK Z2 b_6:LI) (k0:Ky0):Bool:=
 (pS N Z2 (λmr=>cond (neg==true) (k0 (decide (((mr:Nat):Int)>0)) 0 mr) (k0 false 0 mr)))
def So (N:Nat):Bool->Bool->Nat->Nat->Bool->LI->LI->LI->(Ky0)->Bool:=RQ N
def Tg (N:Nat) (ZY:Bool) (Zw:LI) (ZN:Bool) (ZT:LI) (b:Bool) (Zl:LI) (Zq:Bool) (Zy:LI) (k0:Kx5):Bool:=
 (decide ((List.length ([]++Zw))*4<=140737488355328)&&O6 N ZY Zw ZN ZT (λnsr=>decide ((List.length ([]++nsr))*4<=140737488355328)&&rJ N ZY b Zl Zq Zy ([]++Zw) (λcr mr Z4=>So N false cr mr Z4 Zq Zy ([]++nsr) ([]++Zw) (λZp ZL acY=>decide ((mr+Z4)<=(List.length ([]++Zw)))&&(decide ((ZL+acY)<=(List.length ([]++nsr)))&&k0 cr (List.take Z4 (List.drop mr ([]++Zw))) Zp (List.take acY (List.drop ZL ([]++nsr))))))))
def VZ (N:Nat):Bool->LI->Bool->LI->Bool->LI->Bool->LI->(Kx5)->Bool:=ay N (Tg N)
def Ev (N:Nat) (t12 m ZX:Int) (m_4:List RY2) (t2 ZR t t_1:Int) (e0:List RY1->Bool):(Int × List RY1)->((Int × List RY1)->Bool)->Bool:=λv_ K=>match v_ with
 | (t13,b3)=>(cond (decide (t13<t12)) (inR t13 b3.length&&(decide (t13.toNat<b3.length)&&(inR t13 m_4.length&&VZ N (m_4.getD t13.toNat ((false,[]),(false,[]))).1.1 (m_4.getD t13.toNat ((false,[]),(false,[]))).1.2 (m_4.getD t13.toNat ((false,[]),(false,[]))).2.1 (m_4.getD t13.toNat ((false,[]),(false,[]))).2.2 (b3.getD t13.toNat ((false,[]),(false,[]))).1.1 (b3.getD t13.toNat ((false,[]),(false,[]))).1.2 (b3.getD t13.toNat ((false,[]),(false,[]))).2.1 (b3.getD t13.toNat ((false,[]),(false,[]))).2.2 (λcr nsr Zp Zm=>af .i64 (t13+1)&&K ((t13+1),(b3.set t13.toNat ((cr,nsr),(Zp,Zm)))))))) (e0 b3))
def Tf (N:Nat) (ZB Zn:Int) (Zv:List RY2) (k0:List RY1->Bool):Bool:=
 (q8 N ZB Zn (λ(lr:List RY1)=>ai N (Ev N ((Zv.length:Nat):Int) ZB Zn Zv 0 0 ZB Zn (λ(b2:List RY1)=>k0 b2)) (0,lr)))
def VY (N:Nat):Int->Int->List RY2->(List RY1->Bool)->Bool:=ay N (Tf N)
def Wp (N:Nat) (ZB Zn i j:Int) (b:List RY1) (k0:Kz6):Bool:=
 (af .i64 (i*Zn)&&(af .i64 ((i*Zn)+j)&&(inR ((i*Zn)+j) b.length&&(decide ((Int.toNat ((i*Zn)+j))<b.length)&&k0 (Int.toNat ((i*Zn)+j))))))
def Gz (N:Nat):Int->Int->Int->Int->List RY1->(Kz6)->Bool:=Wp N
def xk (N:Nat) (z_0:Bool) (z_1:LI) (z_2:Bool) (z_3:LI) (k0:Kz5):Bool:=
 (cond (((z_1.length:Nat):Int)==0) (k0 0) (cond z_0 (k0 (-1)) (k0 1)))
def Di (N:Nat):Bool->LI->Bool->LI->(Kz5)->Bool:=ay N (xk N)
def RM (N:Nat) (r_0:Bool) (r_1:LI) (r_2:Bool) (r_3:LI) (k0:Kz5):Bool:=
 (Di N r_0 r_1 r_2 r_3 (λnr=>k0 nr))
def Gs (N:Nat):Bool->LI->Bool->LI->(Kz5)->Bool:=RM N
def GQ5 (N:Nat) (b:Bool) (Zl:LI) (Zq:Bool) (Zy:LI) (k0:Kz9):Bool:=
 (cond (((Zy.length:Nat):Int)==0) (rI N (λnsr=>k0 nsr)) (k0 Zy))
def sQ5 (N:Nat):Bool->LI->Bool->LI->(Kz9)->Bool:=ay N (GQ5 N)
def SI (N:Nat) (b Zl Zq:Bool) (Zy:LI) (ZK:Bool) (Z2:LI) (b_6:Bool) (b_7:LI) (b_8:Bool) (b_9:LI) (k0:Kx5):Bool:=
 (sQ5 N b_6 b_7 b_8 b_9 (λnsr=>zw N Zy nsr (λZm=>sQ5 N Zq Zy ZK Z2 (λZs=>zw N Zs b_7 (λZt=>LG N (Zq != b_6) Zm Zt b Zl (λcr Zz Zp Zx=>k0 cr Zz Zp Zx))))))
def VI (N:Nat):Bool->Bool->Bool->LI->Bool->LI->Bool->LI->Bool->LI->(Kx5)->Bool:=ay N (SI N)
def SH (N:Nat) (b Zl Zq:Bool) (Zy:LI) (ZK:Bool) (Z2:LI) (b_6:Bool) (b_7:LI) (b_8:Bool) (b_9:LI) (k0:Kx5):Bool:=
 (zw N Zy b_7 (λnsr=>sQ5 N Zq Zy ZK Z2 (λZm=>sQ5 N b_6 b_7 b_8 b_9 (λZs=>zw N Zm Zs (λZt=>LG N (Zq != b_6) nsr Zt b Zl (λcr Zz Zp Zx=>k0 cr Zz Zp Zx))))))
def VH (N:Nat):Bool->Bool->Bool->LI->Bool->LI->Bool->LI->Bool->LI->(Kx5)->Bool:=ay N (SH N)
def Tb (N:Nat) (b:Bool) (Zl:LI) (Zq:Bool) (Zy:LI) (ZK:Bool) (Z2:LI) (b_6:Bool) (b_7:LI) (k0:Kz3):Bool:=
 (sQ5 N ZK Z2 b_6 b_7 (λnsr=>zw N Zl nsr (λZm=>sQ5 N b Zl Zq Zy (λZs=>zw N Z2 Zs (λZt=>k0 Zm Zt)))))
def W7 (N:Nat):Bool->LI->Bool->LI->Bool->LI->Bool->LI->(Kz3)->Bool:=ay N (Tb N)
def gI (N:Nat) (Zu Zl:LI) (e0:Kz0):(Int × Int × LI)->((Int × Int × LI)->Bool)->Bool:=λv_ K=>match v_ with
 | (carry,i,out)=>(cond (decide (i<((Zu.length:Nat):Int))) (inR i Zu.length&&cond (decide (i<((Zl.length:Nat):Int))) (inR i Zl.length&&(inR i out.length&&(decide (i.toNat<out.length)&&(af .i64 (i+1)&&K ((Int.fdiv (IntKind.wrap .u64 ((IntKind.wrap .u64 ((IntKind.wrap .u64 (Zu.getD i.toNat 0))+carry))+(IntKind.wrap .u64 (Zl.getD i.toNat 0)))) (2 ^ 32)),(i+1),(out.set i.toNat (IntKind.wrap .u32 (IntKind.wrap .u64 ((IntKind.wrap .u64 ((IntKind.wrap .u64 (Zu.getD i.toNat 0))+carry))+(IntKind.wrap .u64 (Zl.getD i.toNat 0))))))))))) (inR i out.length&&(decide (i.toNat<out.length)&&(af .i64 (i+1)&&K ((Int.fdiv (IntKind.wrap .u64 ((IntKind.wrap .u64 (Zu.getD i.toNat 0))+carry)) (2 ^ 32)),(i+1),(out.set i.toNat (IntKind.wrap .u32 (IntKind.wrap .u64 ((IntKind.wrap .u64 (Zu.getD i.toNat 0))+carry))))))))) (e0 carry out))
def u9 (N:Nat) (a b:LI) (k0:Kz9):Bool:=
 (cond (decide (((a.length:Nat):Int)<((b.length:Nat):Int))) (af .i64 (((b.length:Nat):Int)+1)&&(gb 4 (((b.length:Nat):Int)+1) (((b.length:Nat):Int)+1)&&ai N (gI N b a (λZJ ZA=>inR ((b.length:Nat):Int) ZA.length&&(decide ((Int.toNat ((b.length:Nat):Int))<ZA.length)&&pS N (ZA.set (Int.toNat ((b.length:Nat):Int)) (IntKind.wrap .u32 ZJ)) (λmr=>decide ((0+mr)<=(List.length (ZA.set (Int.toNat ((b.length:Nat):Int)) (IntKind.wrap .u32 ZJ))))&&k0 (List.take mr (List.drop 0 (ZA.set (Int.toNat ((b.length:Nat):Int)) (IntKind.wrap .u32 ZJ)))))))) (0,0,(List.replicate (Int.toNat (((b.length:Nat):Int)+1)) (0:Int))))) (af .i64 (((a.length:Nat):Int)+1)&&(gb 4 (((a.length:Nat):Int)+1) (((a.length:Nat):Int)+1)&&ai N (gI N a b (λaai aac=>inR ((a.length:Nat):Int) aac.length&&(decide ((Int.toNat ((a.length:Nat):Int))<aac.length)&&pS N (aac.set (Int.toNat ((a.length:Nat):Int)) (IntKind.wrap .u32 aai)) (λZ4=>decide ((0+Z4)<=(List.length (aac.set (Int.toNat ((a.length:Nat):Int)) (IntKind.wrap .u32 aai))))&&k0 (List.take Z4 (List.drop 0 (aac.set (Int.toNat ((a.length:Nat):Int)) (IntKind.wrap .u32 aai)))))))) (0,0,(List.replicate (Int.toNat (((a.length:Nat):Int)+1)) (0:Int))))))
def vP (N:Nat):LI->LI->(Kz9)->Bool:=ay N (u9 N)
def Ti (N:Nat) (turn b Zl:Bool) (Zq:LI) (Zy:Bool) (ZK:LI) (k0:Ky4):Bool:=
 (cond (Zl==(Zy != turn)) (vP N Zq ZK (λnsr=>yW N (Zy != turn) nsr b (λcr Zm=>k0 cr Zm))) (GB N Zq ZK (λnr=>cond (decide (nr>=0)) (mP N Zq ZK (λZs=>yW N Zl Zs b (λZp Zt=>k0 Zp Zt))) (mP N ZK Zq (λZz=>yW N (Zy != turn) Zz b (λZG Zx=>k0 ZG Zx))))))
def V0 (N:Nat):Bool->Bool->Bool->LI->Bool->LI->(Ky4)->Bool:=ay N (Ti N)
def RK (N:Nat) (b Zl:Bool) (Zq:LI) (Zy:Bool) (ZK:LI) (k0:Ky4):Bool:=
 (V0 N true b Zl Zq Zy ZK (λcr nsr=>k0 cr nsr))
def O4 (N:Nat):Bool->Bool->LI->Bool->LI->(Ky4)->Bool:=RK N
def Tp (N:Nat) (neg:Bool) (m:LI) (b:Bool) (Zl:LI) (Zq:Bool) (Zy:LI) (k0:Ky4):Bool:=
 (l4 N m (λnsr=>cond (neg==true) (k0 (decide (((nsr.length:Nat):Int)>0)) nsr) (k0 false nsr)))
def Pv (N:Nat):Bool->LI->Bool->LI->Bool->LI->(Ky4)->Bool:=Tp N
def Kf (N:Nat) (neg:Bool) (a b:LI) (Zl:Bool) (Zq:LI) (Zy:Bool) (ZK Zu Z2:LI) (k0:Kx5):Bool:=
 (Pv N neg Zu Zl Zq Zy ZK (λZG s11=>GA N false Z2 ZG s11 Zy ZK (λZO aax=>k0 ZG s11 ZO aax)))
def Na (N:Nat) (neg:Bool) (a b:LI) (Zl:Bool) (Zq:LI) (Zy:Bool) (ZK:LI) (n:Int) (k0:Kx5):Bool:=
 (Ci N a n (λZt=>Ci N b n (λZz=>sQ1 N false Zz (λZr=>af .i64 Zr&&LO N false Zz (λZF=>af .i64 (ZF - 1)&&cond (Zr != (ZF - 1)) (Gw N Zt Zz (λZx=>rI N (λs6=>GB N Zx s6 (λZC=>cond (ZC != 0) (xS N Zt Zx (λs7 s8=>xS N Zz Zx (λs9 s10=>Kf N neg a b Zl Zq Zy ZK s7 s9 k0))) (Kf N neg a b Zl Zq Zy ZK Zt Zz k0))))) (Kf N neg a b Zl Zq Zy ZK Zt Zz k0))))))
def S6 (N:Nat) (neg:Bool) (a b:LI) (Zl:Bool) (Zq:LI) (Zy:Bool) (ZK:LI) (k0:Kx5):Bool:=
 (cond (((a.length:Nat):Int)==0) (Pv N false [] Zl Zq Zy ZK (λcr nsr=>rI N (λZm=>GA N false Zm cr nsr Zy ZK (λZp Zs=>k0 cr nsr Zp Zs)))) (sQ1 N false a (λnr=>sQ1 N false b (λZo=>cond (decide (Zo<nr)) (Na N neg a b Zl Zq Zy ZK Zo k0) (Na N neg a b Zl Zq Zy ZK nr k0)))))
def VS (N:Nat):Bool->LI->LI->Bool->LI->Bool->LI->(Kx5)->Bool:=ay N (S6 N)
def SM (N:Nat) (b:Bool) (Zl:LI) (Zq:Bool) (Zy:LI) (ZK:Bool) (Z2:LI) (b_6:Bool) (b_7:LI) (k0:Kx5):Bool:=
 (W7 N b Zl Zq Zy ZK Z2 b_6 b_7 (λnsr Zm=>sQ5 N b Zl Zq Zy (λZs=>sQ5 N ZK Z2 b_6 b_7 (λZt=>zw N Zs Zt (λZz=>O4 N false b nsr ZK Zm (λcr Zx=>VS N cr Zx Zz b Zl Zq Zy (λZp s6 ZG s7=>k0 Zp s6 ZG s7)))))))
def VJ (N:Nat):Bool->LI->Bool->LI->Bool->LI->Bool->LI->(Kx5)->Bool:=ay N (SM N)
def Eo (N:Nat) (ZM aan:Int) (r:Bool) (r_1:LI) (r_2:Bool) (r_3:LI) (m Zv:Int) (e0:List RY1->Bool):(Int × List RY1)->((Int × List RY1)->Bool)->Bool:=λv_ K=>match v_ with
 | (j,b0)=>(cond (decide (j<Zv)) (Gz N m Zv ZM j b0 (λmr=>Gz N m Zv ZM j b0 (λZ4=>Gz N m Zv aan j b0 (λZL=>VH N false false r r_1 r_2 r_3 (b0.getD ZL ((false,[]),(false,[]))).1.1 (b0.getD ZL ((false,[]),(false,[]))).1.2 (b0.getD ZL ((false,[]),(false,[]))).2.1 (b0.getD ZL ((false,[]),(false,[]))).2.2 (λcr nsr Zp Zm=>decide (Z4=mr)&&VJ N (List.getD (b0.set ZL (((b0.getD ZL ((false,[]),(false,[]))).1.1,(b0.getD ZL ((false,[]),(false,[]))).1.2),((b0.getD ZL ((false,[]),(false,[]))).2.1,(b0.getD ZL ((false,[]),(false,[]))).2.2))) mr ((false,[]),(false,[]))).1.1 (List.getD (b0.set ZL (((b0.getD ZL ((false,[]),(false,[]))).1.1,(b0.getD ZL ((false,[]),(false,[]))).1.2),((b0.getD ZL ((false,[]),(false,[]))).2.1,(b0.getD ZL ((false,[]),(false,[]))).2.2))) mr ((false,[]),(false,[]))).1.2 (List.getD (b0.set ZL (((b0.getD ZL ((false,[]),(false,[]))).1.1,(b0.getD ZL ((false,[]),(false,[]))).1.2),((b0.getD ZL ((false,[]),(false,[]))).2.1,(b0.getD ZL ((false,[]),(false,[]))).2.2))) mr ((false,[]),(false,[]))).2.1 (List.getD (b0.set ZL (((b0.getD ZL ((false,[]),(false,[]))).1.1,(b0.getD ZL ((false,[]),(false,[]))).1.2),((b0.getD ZL ((false,[]),(false,[]))).2.1,(b0.getD ZL ((false,[]),(false,[]))).2.2))) mr ((false,[]),(false,[]))).2.2 cr nsr Zp Zm (λZG Zs ZO Zt=>af .i64 (j+1)&&K ((j+1),(List.set (b0.set ZL (((b0.getD ZL ((false,[]),(false,[]))).1.1,(b0.getD ZL ((false,[]),(false,[]))).1.2),((b0.getD ZL ((false,[]),(false,[]))).2.1,(b0.getD ZL ((false,[]),(false,[]))).2.2))) mr ((ZG,Zs),(ZO,Zt)))))))))) (e0 b0))
def SR (N:Nat) (ZB Zn i k_:Int) (b:List RY1) (Zl:Bool) (Zq:LI) (Zy:Bool) (ZK:LI) (k0:List RY1->Bool):Bool:=
 (ai N (Eo N i k_ Zl Zq Zy ZK ZB Zn (λ(aaw:List RY1)=>k0 aaw)) (0,b))
def VL (N:Nat):Int->Int->Int->Int->List RY1->Bool->LI->Bool->LI->(List RY1->Bool)->Bool:=ay N (SR N)
def BO (N:Nat) (c_1 ZH Z6:Int) (ab5:List RY1) (e0:Kz5) (e1:Bool):(Int)->((Int)->Bool)->Bool:=λv_ K=>match v_ with
 | j=>(cond (decide (j<Z6)) (Gz N ZH Z6 c_1 j ab5 (λZ4=>Gs N (ab5.getD Z4 ((false,[]),(false,[]))).1.1 (ab5.getD Z4 ((false,[]),(false,[]))).1.2 (ab5.getD Z4 ((false,[]),(false,[]))).2.1 (ab5.getD Z4 ((false,[]),(false,[]))).2.2 (λZr=>cond (Zr != 0) (e0 1) (af .i64 (j+1)&&K (j+1))))) e1)
def BJ (N:Nat) (acu c_2:Int) (d:Nat) (a_4 a_5:Int) (e0:List RY1->Bool):(Int × List RY1)->((Int × List RY1)->Bool)->Bool:=λv_ K=>match v_ with
 | (i,Z0)=>(cond (decide (i<a_4)) (Gz N a_4 a_5 i c_2 Z0 (λZL=>((!decide (d=ZL))&&true)&&VI N false false (Z0.getD ZL ((false,[]),(false,[]))).1.1 (Z0.getD ZL ((false,[]),(false,[]))).1.2 (Z0.getD ZL ((false,[]),(false,[]))).2.1 (Z0.getD ZL ((false,[]),(false,[]))).2.2 (Z0.getD d ((false,[]),(false,[]))).1.1 (Z0.getD d ((false,[]),(false,[]))).1.2 (Z0.getD d ((false,[]),(false,[]))).2.1 (Z0.getD d ((false,[]),(false,[]))).2.2 (λcr nsr Zp Zm=>VL N a_4 a_5 i c_2 (List.set (Z0.set d (((Z0.getD d ((false,[]),(false,[]))).1.1,(Z0.getD d ((false,[]),(false,[]))).1.2),((Z0.getD d ((false,[]),(false,[]))).2.1,(Z0.getD d ((false,[]),(false,[]))).2.2))) ZL (((Z0.getD ZL ((false,[]),(false,[]))).1.1,(Z0.getD ZL ((false,[]),(false,[]))).1.2),((Z0.getD ZL ((false,[]),(false,[]))).2.1,(Z0.getD ZL ((false,[]),(false,[]))).2.2))) cr nsr Zp Zm (λ(aeU:List RY1)=>af .i64 (i+1)&&K ((i+1),aeU))))) (e0 Z0))
def BN (N:Nat) (a Zu:Int) (e0:Kz5) (e1:Kz5):(Int × Int × List RY1)->((Int × Int × List RY1)->Bool)->Bool:=λv_ K=>match v_ with
 | (sign,c,b1)=>(cond (decide (c<a)) (Gz N a Zu c c b1 (λmr=>Gs N (b1.getD mr ((false,[]),(false,[]))).1.1 (b1.getD mr ((false,[]),(false,[]))).1.2 (b1.getD mr ((false,[]),(false,[]))).2.1 (b1.getD mr ((false,[]),(false,[]))).2.2 (λnr=>cond (decide (nr<0)) (e0 1) (Gs N (b1.getD mr ((false,[]),(false,[]))).1.1 (b1.getD mr ((false,[]),(false,[]))).1.2 (b1.getD mr ((false,[]),(false,[]))).2.1 (b1.getD mr ((false,[]),(false,[]))).2.2 (λZo=>cond (Zo==0) (af .i64 (c+1)&&ai N (BO N c a Zu b1 (λt2=>e0 t2) (af .i64 (c+1)&&K (2,(c+1),b1))) (c+1)) (af .i64 (c+1)&&ai N (BJ N sign c mr a Zu (λ(afj:List RY1)=>af .i64 (c+1)&&K (sign,(c+1),afj))) ((c+1),b1))))))) (e1 sign))
def MC (N:Nat) (ZB Zn:Int) (Zv:List RY2) (k0:Kz5):Bool:=
 (VY N ZB Zn Zv (λ(lr:List RY1)=>ai N (BN N ZB Zn (λZR=>k0 ZR) (λaes=>k0 aes)) (3,0,lr)))
def Sm (N:Nat):Int->Int->List RY2->(Kz5)->Bool:=ay N (MC N)
def Wm (N:Nat) (ZB Zn:Int) (Zv:LF) (k0:Kz4):Bool:=
 (zb N ZB Zn Zv (λ(lr:List RY1)=>Sm N ZB Zn lr (λnr=>k0 (nr==3))))
def xR (N:Nat):Int->Int->LF->(Kz4)->Bool:=Wm N
def si (N:Nat) (s_0:LF) (ZU Z9:Int) (s_3:LF) (k0:Kz5):Bool:=
 (zc N s_0 ZU Z9 s_3 (λnr=>cond (nr != 0) (k0 nr) (xR N ZU Z9 s_3 (λcr=>cond (!cr) (k0 151) (k0 0)))))
def mQ (N:Nat):LF->Int->Int->LF->(Kz5)->Bool:=ay N (si N)
def MS (N:Nat) (ZD Zu:Int) (ZH:LF) (k0:Kz5):Bool:=
 (l5 N ZD Zu ZH (λnr=>cond (nr != 0) (k0 nr) (cond (ZD != Zu) (k0 3) (k0 0))))
def Gx (N:Nat):Int->Int->LF->(Kz5)->Bool:=ay N (MS N)
def RS (N:Nat) (rows cols:Int) (k0:Kz8):Bool:=
 (af .i64 (rows*cols)&&(gb 8 (rows*cols) (rows*cols)&&k0 (List.replicate (Int.toNat (rows*cols)) (some 0))))
def wV (N:Nat):Int->Int->(Kz8)->Bool:=RS N
def RJ (N:Nat) (ZB Zn i j:Int) (x:Fl) (b:LF) (k0:Kz8):Bool:=
 (af .i64 (i*Zn)&&(af .i64 ((i*Zn)+j)&&(inR ((i*Zn)+j) b.length&&(decide ((Int.toNat ((i*Zn)+j))<b.length)&&k0 (b.set (Int.toNat ((i*Zn)+j)) x)))))
def rH (N:Nat):Int->Int->Int->Int->Fl->LF->(Kz8)->Bool:=RJ N
def mn (N:Nat) (ZV t2 ZR u Z5:Int) (e0:Kz8):(Int × LF)->((Int × LF)->Bool)->Bool:=λv_ K=>match v_ with
 | (i,b2)=>(cond (decide (i<ZV)) (rH N u Z5 i i (some 4607182418800017408) b2 (λZE=>af .i64 (i+1)&&K ((i+1),ZE))) (e0 b2))
def vc (N:Nat) (n:Int) (k0:Kz8):Bool:=
 (wV N n n (λxsr=>ai N (mn N n 0 0 n n (λaaB=>k0 aaB)) (0,xsr)))
def vR (N:Nat):Int->(Kz8)->Bool:=ay N (vc N)
def Mi (N:Nat) (x:Fl) (b:Bool) (k0:Kz4):Bool:=
 (cond (b==false) (nu N x (λcr=>k0 (!cr))) (k0 true))
def lI (N:Nat):Fl->Bool->(Kz4)->Bool:=ay N (Mi N)
def jS (N:Nat) (ZV ZP a_5 a_6:Int) (a_7:LF) (Z_ aaa l_2 l_3:Int) (abf:LF) (e0:Ky6):(Fl × Int × Bool)->((Fl × Int × Bool)->Bool)->Bool:=λv_ K=>match v_ with
 | (d,k_,ZU)=>(cond (decide (k_<ZP)) (jp N l_2 l_3 abf ZP k_ (λZQ=>jp N l_2 l_3 abf ZP k_ (λaaP=>lI N (dU ZQ aaP) ZU (λcr=>lI N (qz d (dU ZQ aaP)) cr (λZp=>af .i64 (k_+1)&&K ((qz d (dU ZQ aaP)),(k_+1),Zp)))))) (e0 d ZU))
def jU (N:Nat) (n_3 j_3 ZM acj ack:Int) (acl:LF) (aet aeu l_6 l_7:Int) (ac_:LF) (e0:Ky6):(Fl × Int × Bool)->((Fl × Int × Bool)->Bool)->Bool:=λv_ K=>match v_ with
 | (t,aan,s_4)=>(cond (decide (aan<j_3)) (jp N l_6 l_7 ac_ ZM aan (λacg=>jp N l_6 l_7 ac_ j_3 aan (λaeD=>lI N (dU acg aeD) s_4 (λZG=>lI N (qz t (dU acg aeD)) ZG (λZO=>af .i64 (aan+1)&&K ((qz t (dU acg aeD)),(aan+1),ZO)))))) (e0 t s_4))
def jT (N:Nat) (Z8 j_2 a_8 a_9:Int) (abC:LF) (ad0 ad2 l_4 l_5:Int) (e0:Ky7):(Int × Bool × LF)->((Int × Bool × LF)->Bool)->Bool:=λv_ K=>match v_ with
 | (i,s_3,abD)=>(cond (decide (i<Z8)) (jp N a_8 a_9 abC i j_2 (λaeC=>ai N (jU N Z8 j_2 i a_8 a_9 abC ad0 ad2 l_4 l_5 abD (λt_1 s_5=>jp N l_4 l_5 abD j_2 j_2 (λae1=>lI N (fdiv t_1 ae1) s_5 (λaaZ=>rH N l_4 l_5 i j_2 (fdiv t_1 ae1) abD (λZI=>af .i64 (i+1)&&K ((i+1),aaZ,ZI)))))) (aeC,0,s_3))) (e0 s_3 abD))
def re (N:Nat) (n a Z6:Int) (a_4:LF) (t2 ZR l l_1:Int) (e0:Kx7) (e1:Kz8):(Int × Bool × LF)->((Int × Bool × LF)->Bool)->Bool:=λv_ K=>match v_ with
 | (j,s,b4)=>(cond (decide (j<n)) (jp N a Z6 a_4 j j (λxr=>ai N (jS N n j a Z6 a_4 t2 ZR l l_1 b4 (λZ0 Z9=>cond Z9 (e0 0 5 0 0) (cond (!(fgt Z0 (some 0))) (e0 j 90 0 0) (w5 N Z0 (λaaQ=>rH N l l_1 j j aaQ b4 (λZE=>af .i64 (j+1)&&ai N (jT N n j a Z6 a_4 t2 ZR l l_1 (λs_6 afo=>cond s_6 (e0 0 5 0 0) (af .i64 (j+1)&&K ((j+1),s_6,afo)))) ((j+1),Z9,ZE))))))) (xr,0,s))) (e1 b4))
def vb (N:Nat) (ZD Zu:Int) (ZH:LF) (k0:Kx1):Bool:=
 (Iv N ZD Zu ZH (λnr=>cond (nr != 0) (k0 0 0 [] 0 nr) (wV N ZD ZD (λxsr=>ai N (re N ZD ZD Zu ZH 0 0 ZD ZD (λt3 t4 afy afz=>k0 afy afz [] t3 t4) (λb2=>k0 ZD ZD b2 0 0)) (0,false,xsr)))))
def q9 (N:Nat):Int->Int->LF->(Kx1)->Bool:=ay N (vb N)
def yc (N:Nat) (j_2 m_5 m_6:Int) (m_7:LF) (e0:Kz8):(Int × LF)->((Int × LF)->Bool)->Bool:=λv_ K=>match v_ with
 | (ZM,l)=>(cond (decide (ZM<m_5)) (jp N m_5 m_6 m_7 ZM j_2 (λZQ=>decide ((List.length (l++[ZQ]))*8<=140737488355328)&&(af .i64 (ZM+1)&&K ((ZM+1),(l++[ZQ]))))) (e0 l))
def IJ (N:Nat) (ZB Zn:Int) (Zv:LF) (j:Int) (k0:Kz8):Bool:=
 (ai N (yc N j ZB Zn Zv (λl_1=>k0 l_1)) (0,[]))
def De (N:Nat):Int->Int->LF->Int->(Kz8)->Bool:=ay N (IJ N)
def xc (N:Nat) (Zy:LF) (ZM:Int) (t:Fl) (k_:Int) (ZU:Bool) (l_5 l_6:Int) (l_7:LF) (e0:Bool):(Unit)->((Unit)->Bool)->Bool:=λv_ K=>match v_ with
 | _=>(cond (decide (k_<ZM)) (jp N l_5 l_6 l_7 ZM k_ (λxr=>false)) e0)
def BK (N:Nat) (Z2:LF) (i_3 adP adQ:Int) (adR Zw:LF) (e0:Ky6):(Fl × Int × Bool)->((Fl × Int × Bool)->Bool)->Bool:=λv_ K=>match v_ with
 | (t_1,aan,s_3)=>(cond (decide (aan<i_3)) (jp N adP adQ adR i_3 aan (λaaP=>inR aan Zw.length&&(decide (aan.toNat<Zw.length)&&lI N (dU aaP (Zw.getD aan.toNat none)) s_3 (λZp=>lI N (qz t_1 (dU aaP (Zw.getD aan.toNat none))) Zp (λZG=>af .i64 (aan+1)&&K ((qz t_1 (dU aaP (Zw.getD aan.toNat none))),(aan+1),ZG)))))) (e0 t_1 s_3))
def ia (N:Nat) (ZK:LF) (l_8 l_9:Int) (adN:LF) (e0:Ky7):(Int × Bool × LF)->((Int × Bool × LF)->Bool)->Bool:=λv_ K=>match v_ with
 | (i_2,Z9,x)=>(cond (decide (i_2<l_8)) (inR i_2 ZK.length&&ai N (BK N ZK i_2 l_8 l_9 adN x (λt_2 s_4=>jp N l_8 l_9 adN i_2 i_2 (λaaQ=>lI N (fdiv t_2 aaQ) s_4 (λZO=>decide ((List.length (x++[(fdiv t_2 aaQ)]))*8<=140737488355328)&&(af .i64 (i_2+1)&&K ((i_2+1),ZO,(x++[(fdiv t_2 aaQ)]))))))) ((ZK.getD i_2.toNat none),0,Z9)) (e0 Z9 x))
def Mp (N:Nat) (l_0 l_1:Int) (l_2 b:LF) (Zl:Bool) (k0:Ky8):Bool:=
 (ai N (ia N b l_0 l_1 l_2 (λb0 ZN=>k0 ZN b0)) (0,Zl,[]))
def Gq (N:Nat):Int->Int->LF->LF->Bool->(Ky8)->Bool:=ay N (Mp N)
def BM (N:Nat) (Zy:LF) (ZM l_5 l_6:Int) (l_7 Zw:LF) (e0:Ky6):(Fl × Int × Bool)->((Fl × Int × Bool)->Bool)->Bool:=λv_ K=>match v_ with
 | (t,k_,ZU)=>(cond (decide (k_<l_5)) (jp N l_5 l_6 l_7 k_ ZM (λxr=>inR k_ Zw.length&&(decide (k_.toNat<Zw.length)&&lI N (dU xr (Zw.getD k_.toNat none)) ZU (λcr=>lI N (qz t (dU xr (Zw.getD k_.toNat none))) cr (λZp=>af .i64 (k_+1)&&K ((qz t (dU xr (Zw.getD k_.toNat none))),(k_+1),Zp)))))) (e0 t ZU))
def ib (N:Nat) (Zq:LF) (l l_3:Int) (l_4:LF) (e0:Ky7):(Int × Bool × LF)->((Int × Bool × LF)->Bool)->Bool:=λv_ K=>match v_ with
 | (i,s,x)=>(cond (decide (i>=0)) (inR i Zq.length&&(af .i64 (i+1)&&ai N (BM N Zq i l l_3 l_4 x (λt_1 Z9=>jp N l l_3 l_4 i i (λZQ=>lI N (fdiv t_1 ZQ) Z9 (λZG=>inR i x.length&&(decide (i.toNat<x.length)&&(af .i64 (i - 1)&&K ((i - 1),ZG,(x.set i.toNat (fdiv t_1 ZQ))))))))) ((Zq.getD i.toNat none),(i+1),s))) (e0 s x))
def Mq (N:Nat) (l_0 l_1:Int) (l_2 b:LF) (Zl:Bool) (k0:Ky8):Bool:=
 (gb 8 l_0 l_0&&(af .i64 (l_0 - 1)&&ai N (ib N b l_0 l_1 l_2 (λb0 ZN=>k0 ZN b0)) ((l_0 - 1),Zl,(List.replicate l_0.toNat (some 0)))))
def Gr (N:Nat):Int->Int->LF->LF->Bool->(Ky8)->Bool:=ay N (Mq N)
def h_ (N:Nat) (ZP:Int) (t67:LF) (t68 Z2 b_6:Int) (b_7:LF) (aaq aar l_3 l_4:Int) (l_5:LF) (ZU:Bool) (ZN ZT:Int) (e0:Kz8):(Int × LF)->((Int × LF)->Bool)->Bool:=λv_ K=>match v_ with
 | (t69,aa8)=>(cond (decide (t69<t68)) (inR t69 t67.length&&rH N ZN ZT t69 ZP (t67.getD t69.toNat none) aa8 (λaa3=>af .i64 (t69+1)&&K ((t69+1),aa3))) (e0 aa8))
def BL (N:Nat) (b Zy:Int) (ZK:LF) (t4 aap l l_1:Int) (l_2:LF) (x Zw:Int) (e0:Ky7):(Int × Bool × LF)->((Int × Bool × LF)->Bool)->Bool:=λv_ K=>match v_ with
 | (j,s,b5)=>(cond (decide (j<Zy)) (De N b Zy ZK j (λZI=>Gq N l l_1 l_2 ZI s (λaag cr=>Gr N l l_1 l_2 aag cr (λaaT Zp=>ai N (h_ N j aaT ((aaT.length:Nat):Int) b Zy ZK t4 aap l l_1 l_2 Zp x Zw (λabE=>af .i64 (j+1)&&K ((j+1),Zp,abE))) (0,b5))))) (e0 s b5))
def ML (N:Nat) (ZD Zu:Int) (ZH:LF) (b_0 Zl:Int) (Zq:LF) (k0:Kx1):Bool:=
 (Gx N ZD Zu ZH (λnr=>cond (nr != 0) (k0 0 0 [] 0 nr) (l5 N b_0 Zl Zq (λZo=>cond (Zo != 0) (k0 0 0 [] 0 Zo) (cond (b_0 != ZD) (k0 0 0 [] 0 3) (q9 N ZD Zu ZH (λZr ZF xsr ZC n5=>cond (n5 != 0) (k0 0 0 [] ZC n5) (wV N b_0 Zl (λZE=>ai N (BL N b_0 Zl Zq 0 0 Zr ZF xsr b_0 Zl (λZ9 b3=>cond Z9 (k0 0 0 [] 0 5) (k0 b_0 Zl b3 0 0))) (0,false,ZE))))))))))
def Pe (N:Nat):Int->Int->LF->Int->Int->LF->(Kx1)->Bool:=ay N (ML N)
def Ez (N:Nat) (ZM m_5 m_6:Int) (m_7:LF) (Z_ aaa t_2 t_3:Int) (e0:Kz8):(Int × LF)->((Int × LF)->Bool)->Bool:=λv_ K=>match v_ with
 | (j,abU)=>(cond (decide (j<=ZM)) (jp N m_5 m_6 m_7 ZM j (λxr=>rH N t_2 t_3 ZM j xr abU (λZE=>jp N m_5 m_6 m_7 ZM j (λZQ=>rH N t_2 t_3 j ZM ZQ ZE (λZI=>af .i64 (j+1)&&K ((j+1),ZI)))))) (e0 abU))
def Ey (N:Nat) (m ZX:Int) (m_4:LF) (t2 ZR t t_1:Int) (e0:Kz8):(Int × LF)->((Int × LF)->Bool)->Bool:=λv_ K=>match v_ with
 | (i,b3)=>(cond (decide (i<m)) (ai N (Ez N i m ZX m_4 t2 ZR t t_1 (λaei=>af .i64 (i+1)&&K ((i+1),aei))) (0,b3)) (e0 b3))
def MD (N:Nat) (ZB Zn:Int) (Zv:LF) (k0:Kz8):Bool:=
 (wV N ZB Zn (λxsr=>ai N (Ey N ZB Zn Zv 0 0 ZB Zn (λb2=>k0 b2)) (0,xsr)))
def O_ (N:Nat):Int->Int->LF->(Kz8)->Bool:=ay N (MD N)
def MJ (N:Nat) (ZD Zu:Int) (ZH:LF) (k0:Kx1):Bool:=
 (Gx N ZD Zu ZH (λnr=>cond (nr != 0) (k0 0 0 [] 0 nr) (vR N ZD (λxsr=>Pe N ZD Zu ZH ZD ZD xsr (λZo Zr ZE ZF ZC=>cond (ZC != 0) (k0 0 0 [] ZF ZC) (O_ N Zo Zr ZE (λZI=>k0 Zo Zr ZI 0 0)))))))
def JL (N:Nat):Int->Int->LF->(Kx1)->Bool:=ay N (MJ N)
def tS (N:Nat) (ZB Zn:Int) (Zv:LF) (i:Int) (k0:Kz8):Bool:=
 (af .i64 (i*Zn)&&(af .i64 (i+1)&&(af .i64 ((i+1)*Zn)&&(decide (0<=(i*Zn)/\(i*Zn)<=((i+1)*Zn)/\((i+1)*Zn)<=((Zv.length:Nat):Int))&&k0 (List.drop (Int.toNat (i*Zn)) (List.take (Int.toNat ((i+1)*Zn)) Zv))))))
def ku (N:Nat):Int->Int->LF->Int->(Kz8)->Bool:=ay N (tS N)
def fG (N:Nat) (Zu Zq:LF) (t10:Int) (e0:Ky6):(Fl × Int × Bool)->((Fl × Int × Bool)->Bool)->Bool:=λv_ K=>match v_ with
 | (t,t11,s)=>(cond (decide (t11<t10)) (inR t11 Zu.length&&(inR t11 Zq.length&&lI N (dU (Zu.getD t11.toNat none) (Zq.getD t11.toNat none)) s (λcr=>lI N (nl t (dU (Zu.getD t11.toNat none) (Zq.getD t11.toNat none))) cr (λZp=>af .i64 (t11+1)&&K ((nl t (dU (Zu.getD t11.toNat none) (Zq.getD t11.toNat none))),(t11+1),Zp))))) (e0 t s))
def IL (N:Nat) (a b:LF) (Zl:Bool) (k0:Ky6):Bool:=
 (ai N (fG N a b ((a.length:Nat):Int) (λt_1 b0=>k0 t_1 b0)) ((some 0),0,Zl))
def Bx (N:Nat):LF->LF->Bool->(Ky6)->Bool:=ay N (IL N)
def kv (N:Nat) (ads:Int) (t_7:LF) (t_8 t_9:Int) (ac1:LF) (Z_ aaa y_3 y_4:Int) (y_5:LF) (e0:Ky7):(Int × Bool × LF)->((Int × Bool × LF)->Bool)->Bool:=λv_ K=>match v_ with
 | (abe,ZU,v)=>(cond (decide (abe<ads)) (ku N y_3 y_4 y_5 abe (λZI=>Bx N ZI t_7 ZU (λZQ ZG=>decide ((List.length (v++[ZQ]))*8<=140737488355328)&&(af .i64 (abe+1)&&K ((abe+1),ZG,(v++[ZQ])))))) (e0 ZU v))
def wh (N:Nat) (t_0:LF) (t_1 t_2:Int) (t_3:LF) (k0:Kx2):Bool:=
 (mQ N t_0 t_1 t_2 t_3 (λnr=>cond (nr != 0) (k0 0 0 [] [] nr) (JL N t_1 t_2 t_3 (λZo Zr xsr ZF ZC=>cond (ZC != 0) (k0 0 0 [] [] ZC) (xR N Zo Zr xsr (λcr=>cond (!cr) (k0 0 0 [] [] 170) (ai N (kv N ((t_0.length:Nat):Int) t_0 t_1 t_2 t_3 0 0 Zo Zr xsr (λZ9 Z3=>cond Z9 (k0 0 0 [] [] 5) (k0 Zo Zr xsr Z3 0))) (0,false,[]))))))))
def ot (N:Nat):LF->Int->Int->LF->(Kx2)->Bool:=ay N (wh N)
def Ep (N:Nat) (Zu Zl:LF) (t12:Int) (e0:Kz4) (e1:Bool):(Int)->((Int)->Bool)->Bool:=λv_ K=>match v_ with
 | t13=>(cond (decide (t13<t12)) (inR t13 Zu.length&&wU N (Zu.getD t13.toNat none) (λnr=>inR t13 Zl.length&&wU N (Zl.getD t13.toNat none) (λZo=>cond (nr != Zo) (e0 false) (af .i64 (t13+1)&&K (t13+1))))) e1)
def SU (N:Nat) (a b:LF) (k0:Kz4):Bool:=
 (cond (((a.length:Nat):Int) != ((b.length:Nat):Int)) (k0 false) (ai N (Ep N a b ((a.length:Nat):Int) (λt4=>k0 t4) (k0 true)) 0))
def Rq (N:Nat):LF->LF->(Kz4)->Bool:=ay N (SU N)
def Tq (N:Nat) (ZD Zu:Int) (ZH:LF) (b_0 Zl:Int) (Zq:LF) (k0:Kz4):Bool:=
 (cond ((ZD==b_0)==true) (cond ((Zu==Zl)==true) (Rq N ZH Zq (λcr=>k0 cr)) (k0 false)) (k0 false))
def W_ (N:Nat):Int->Int->LF->Int->Int->LF->(Kz4)->Bool:=ay N (Tq N)
def Wv (N:Nat) (ZD Zu:Int) (ZH Z6:LF) (b_0 Zl:Int) (Zq Zy:LF) (k0:Kz4):Bool:=
 (Rq N Z6 Zy (λcr=>cond (cr==true) (W_ N ZD Zu ZH b_0 Zl Zq (λZp=>k0 Zp)) (k0 false)))
def Ru (N:Nat):Int->Int->LF->LF->Int->Int->LF->LF->(Kz4)->Bool:=Wv N
def WB (N:Nat) (v:LI) (rows cols:Int) (y:LI) (k0:LF->LF->Bool):Bool:=
 (y_ N v (λxsr=>y_ N y (λZE=>k0 ZE xsr)))
def VV (N:Nat):LI->Int->Int->LI->(LF->LF->Bool)->Bool:=WB N
def p_ (N:Nat) (ZD Zu:Int) (ZH Z6:LF) (k0:Kz5):Bool:=
 (Bv N ZD Zu ZH (λnr=>cond (nr != 0) (k0 nr) (cond ((ZD != Zu)==false) (cond (((Z6.length:Nat):Int) != ZD) (k0 3) (Bz N Z6 (λcr=>cond (!cr) (k0 4) (LJ N ZD Zu ZH (λZp=>cond (!Zp) (k0 150) (br N ZD Zu ZH (λZG=>cond (!ZG) (k0 170) (k0 0)))))))) (k0 3))))
def qW (N:Nat):Int->Int->LF->LF->(Kz5)->Bool:=ay N (p_ N)
def rU (N:Nat) (rows:Int) (b:LF) (k0:Kz5):Bool:=
 (cond (((b.length:Nat):Int) != rows) (k0 3) (Bz N b (λcr=>cond (!cr) (k0 4) (k0 0))))
def tk (N:Nat):Int->LF->(Kz5)->Bool:=ay N (rU N)
def p9 (N:Nat) (ZD Zu:Int) (ZH b:LF) (k0:Ky2):Bool:=
 (mL N ZD Zu ZH (λnr=>cond (nr != 0) (k0 [] 0 nr) (tk N ZD b (λZo=>cond (Zo != 0) (k0 [] 0 Zo) (oW N ZD Zu ZH (λZr ZF xsr ZC n5=>cond (n5 != 0) (k0 [] ZC n5) (cN N Zr ZF xsr b false (λZE cr=>dF N Zr ZF xsr ZE cr (λZI Zp=>cond Zp (k0 [] 0 5) (k0 ZI 0 0))))))))))
def qV (N:Nat):Int->Int->LF->LF->(Ky2)->Bool:=ay N (p9 N)
def qa (N:Nat) (ZD Zu:Int) (ZH Z6:LF) (k0:Kx3):Bool:=
 (qW N ZD Zu ZH Z6 (λnr=>cond (nr != 0) (k0 [] 0 0 [] nr) (kU N ZD Zu ZH (λZo Zr xsr ZF ZC=>cond (ZC != 0) (k0 [] 0 0 [] ZC) (br N Zo Zr xsr (λcr=>cond (!cr) (k0 [] 0 0 [] 151) (qV N ZD Zu ZH Z6 (λZE n5 n6=>cond (n6 != 0) (k0 [] 0 0 [] n6) (k0 ZE Zo Zr xsr 0)))))))))
def iY (N:Nat):Int->Int->LF->LF->(Kx3)->Bool:=ay N (qa N)
def mT (N:Nat) (ZB Zn:Int) (Zv:LF) (n:Int) (k0:Kz5):Bool:=
 (Bv N ZB Zn Zv (λnr=>cond (nr != 0) (k0 nr) (cond ((ZB != Zn)==false) (cond (ZB != n) (k0 3) (k0 0)) (k0 3))))
def jZ (N:Nat):Int->Int->LF->Int->(Kz5)->Bool:=ay N (mT N)
def qe (N:Nat) (ZB Zn:Int) (Zv:LF) (i:Int) (k0:Kz8):Bool:=
 (af .i64 (i*Zn)&&(af .i64 (i+1)&&(af .i64 ((i+1)*Zn)&&(decide (0<=(i*Zn)/\(i*Zn)<=((i+1)*Zn)/\((i+1)*Zn)<=((Zv.length:Nat):Int))&&k0 (List.drop (Int.toNat (i*Zn)) (List.take (Int.toNat ((i+1)*Zn)) Zv))))))
def kY (N:Nat):Int->Int->LF->Int->(Kz8)->Bool:=ay N (qe N)
def j4 (N:Nat) (ZP t11 m ZX:Int) (m_4:LF) (e0:Kz8):(Int × LF)->((Int × LF)->Bool)->Bool:=λv_ K=>match v_ with
 | (t12,out)=>(cond (decide (t12<t11)) (af .i64 (t12*ZX)&&(af .i64 ((t12*ZX)+ZP)&&(inR ((t12*ZX)+ZP) m_4.length&&(inR t12 out.length&&(decide (t12.toNat<out.length)&&(af .i64 (t12+1)&&K ((t12+1),(out.set t12.toNat (m_4.getD (Int.toNat ((t12*ZX)+ZP)) none))))))))) (e0 out))
def qb (N:Nat) (ZB Zn:Int) (Zv:LF) (j:Int) (k0:Kz8):Bool:=
 (gb 8 ZB ZB&&ai N (j4 N j (((List.length (List.replicate ZB.toNat (some 0))):Nat):Int) ZB Zn Zv (λZA=>k0 ZA)) (0,(List.replicate ZB.toNat (some 0))))
def qX (N:Nat):Int->Int->LF->Int->(Kz8)->Bool:=ay N (qb N)
def i8 (N:Nat) (t10:LF) (t11:Int) (Zq:LF) (e0:Ky6):(Fl × Int × Bool)->((Fl × Int × Bool)->Bool)->Bool:=λv_ K=>match v_ with
 | (t,t12,s)=>(cond (decide (t12<t11)) (inR t12 t10.length&&(inR t12 Zq.length&&(decide (t12.toNat<Zq.length)&&mN N (t10.getD t12.toNat none) (Zq.getD t12.toNat none) s (λxr cr=>yZ N (nl t xr) cr (λZp=>af .i64 (t12+1)&&K ((nl t xr),(t12+1),Zp)))))) (e0 t s))
def MZ (N:Nat) (a:LF) (b:Bool) (Zl:LF) (k0:Ky6):Bool:=
 (ai N (i8 N a ((a.length:Nat):Int) Zl (λt_1 b0=>k0 t_1 b0)) ((some 0),0,b))
def Pk (N:Nat):LF->Bool->LF->(Ky6)->Bool:=ay N (MZ N)
def dm (N:Nat) (ZM adl adm aa1 a_8 a_9:Int) (abC:LF) (b_9 aaU:Int) (adH:LF) (ab9 ab_ adg adh:Int) (e0:Ky7):(Int × Bool × LF)->((Int × Bool × LF)->Bool)->Bool:=λv_ K=>match v_ with
 | (abc,acJ,b5)=>(cond (decide (abc<aa1)) (kY N a_8 a_9 abC ZM (λZI=>qX N b_9 aaU adH abc (λaag=>Pk N ZI acJ aag (λZQ Zp=>decide ((List.length (b5++[ZQ]))*8<=140737488355328)&&(af .i64 (abc+1)&&K ((abc+1),Zp,(b5++[ZQ]))))))) (e0 acJ b5))
def dk (N:Nat) (acL acj ack:Int) (acl:LF) (aek adI:Int) (ael:LF) (aca acb acG acH:Int) (e0:Ky7):(Int × Bool × LF)->((Int × Bool × LF)->Bool)->Bool:=λv_ K=>match v_ with
 | (ab8,acK,abE)=>(cond (decide (ab8<acL)) (ai N (dm N ab8 acL ab8 adI acj ack acl aek adI ael aca acb acG acH (λadZ aej=>af .i64 (ab8+1)&&K ((ab8+1),adZ,aej))) (0,acK,abE)) (e0 acK abE))
def jq (N:Nat) (ZD Zu:Int) (ZH:LF) (b_0 Zl:Int) (Zq:LF) (b:Bool) (k0:Ky7):Bool:=
 (ai N (dk N ZD ZD Zu ZH b_0 Zl Zq 0 0 ZD Zl (λb0 b3=>k0 b0 b3)) (0,b,[]))
def jv (N:Nat):Int->Int->LF->Int->Int->LF->Bool->(Ky7)->Bool:=ay N (jq N)
def nN (N:Nat) (ZB Zn i:Int) (b:LF) (k0:Ky9):Bool:=
 (af .i64 (i*Zn)&&(af .i64 (i+1)&&(af .i64 ((i+1)*Zn)&&(decide (0<=(i*Zn)/\(i*Zn)<=((i+1)*Zn)/\((i+1)*Zn)<=((b.length:Nat):Int))&&k0 (Int.toNat (i*Zn)) ((Int.toNat ((i+1)*Zn)) - (Int.toNat (i*Zn)))))))
def om (N:Nat):Int->Int->Int->LF->(Ky9)->Bool:=ay N (nN N)
def i7 (N:Nat) (Zy:LF) (t10 abu:Nat) (t11:Int) (ab6:LF) (e0:Ky6):(Fl × Int × Bool)->((Fl × Int × Bool)->Bool)->Bool:=λv_ K=>match v_ with
 | (t,t12,s)=>(cond (decide (t12<t11)) (inR t12 abu&&(decide ((t10+t12.toNat)<ab6.length)&&(inR t12 Zy.length&&mN N (ab6.getD (t10+t12.toNat) none) (Zy.getD t12.toNat none) s (λxr cr=>yZ N (nl t xr) cr (λZp=>af .i64 (t12+1)&&K ((nl t xr),(t12+1),Zp)))))) (e0 t s))
def MY (N ZD Zu:Nat) (b:LF) (Zl:Bool) (Zq:LF) (k0:Ky6):Bool:=
 (ai N (i7 N b ZD Zu ((Zu:Nat):Int) Zq (λt_1 b0=>k0 t_1 b0)) ((some 0),0,Zl))
def Pj (N:Nat):Nat->Nat->LF->Bool->LF->(Ky6)->Bool:=ay N (MY N)
def bQ (N:Nat) (i j b Zl Zq Zy:Int) (ZK:LF) (Z2 b_6:Int) (b_7:LF) (b_8:Int) (b_9:Bool) (aaU:LF) (k0:Ky6):Bool:=
 (om N b Zl i aaU (λmr Z4=>kY N Zq Zy ZK j (λxsr=>Pj N mr Z4 xsr b_9 aaU (λxr cr=>af .i64 (i*b_8)&&(af .i64 ((i*b_8)+j)&&(inR ((i*b_8)+j) b_7.length&&yZ N (nl xr (b_7.getD (Int.toNat ((i*b_8)+j)) none)) cr (λZp=>k0 (nl xr (b_7.getD (Int.toNat ((i*b_8)+j)) none)) Zp)))))))
def dr (N:Nat):Int->Int->Int->Int->Int->Int->LF->Int->Int->LF->Int->Bool->LF->(Ky6)->Bool:=ay N (bQ N)
def bZ (N:Nat) (Z8 i aaM aao t21 acE abM abN abO:Int) (abP:LF) (abQ abR:Int) (abS:LF) (abT:Int) (adG:LF) (aaq aar aac aaJ:Int) (e0:Ky7):(Int × Bool × LF)->((Int × Bool × LF)->Bool)->Bool:=λv_ K=>match v_ with
 | (t22,aa8,acX)=>(cond (decide (t22<t21)) (dr N i t22 acE abM abN abO abP abQ abR abS abT aa8 adG (λxr cr=>af .i64 (i*Z8)&&(af .i64 ((i*Z8)+t22)&&(af .i64 (t22*Z8)&&(af .i64 ((t22*Z8)+i)&&(inR ((i*Z8)+t22) acX.length&&(decide ((Int.toNat ((i*Z8)+t22))<acX.length)&&(inR ((t22*Z8)+i) (List.length (acX.set (Int.toNat ((i*Z8)+t22)) xr))&&(decide ((Int.toNat ((t22*Z8)+i))<(List.length (acX.set (Int.toNat ((i*Z8)+t22)) xr)))&&(af .i64 (t22+1)&&K ((t22+1),cr,(List.set (acX.set (Int.toNat ((i*Z8)+t22)) xr) (Int.toNat ((t22*Z8)+i)) xr)))))))))))) (e0 aa8 acX))
def bX (N:Nat) (ZV t16 at_ acw acx acy:Int) (acz:LF) (acA acB:Int) (acC:LF) (acD:Int) (b6:LF) (t4 aap out ZA:Int) (e0:Ky7):(Int × Bool × LF)->((Int × Bool × LF)->Bool)->Bool:=λv_ K=>match v_ with
 | (t17,b5,b9)=>(cond (decide (t17<t16)) (af .i64 (t17+1)&&ai N (bZ N ZV t17 t16 t17 (t17+1) at_ acw acx acy acz acA acB acC acD b6 t4 aap out ZA (λabE afq=>af .i64 (t17+1)&&K ((t17+1),abE,afq))) (0,b5,b9)) (e0 b5 b9))
def dK (N:Nat) (n b Zl Zq Zy:Int) (ZK:LF) (Z2 b_6:Int) (b_7:LF) (b_8:Int) (b_9:Bool) (aaU:LF) (k0:Ky7):Bool:=
 (af .i64 (n*n)&&(gb 8 (n*n) (n*n)&&ai N (bX N n n b Zl Zq Zy ZK Z2 b_6 b_7 b_8 aaU 0 0 n n (λaej afr=>k0 aej afr)) (0,b_9,(List.replicate (Int.toNat (n*n)) (some 0)))))
def dM (N:Nat):Int->Int->Int->Int->Int->LF->Int->Int->LF->Int->Bool->LF->(Ky7)->Bool:=ay N (dK N)
def f8 (N:Nat) (p_0 p_1:Int) (b:Bool) (Zl Zq:LF) (k0:Ky1) (k1:Kz5):Bool:=
 (JO N b (cond b (k0 0 0 5) (eg N p_0 p_1 Zq (λcr=>cond (!cr) (k0 0 0 151) (k1 0)))))
def kX (N:Nat):Int->Int->Bool->LF->LF->(Ky1)->(Kz5)->Bool:=ay N (f8 N)
def eR (N:Nat) (t49:Int) (s:LF) (s_4 s_5:Int) (s_6:LF) (f f_3:Int) (f_4:LF) (q q_3:Int) (q_4:LF) (t6 aab n:Int) (e0:Ky8):(Int × LF × Bool)->((Int × LF × Bool)->Bool)->Bool:=λv_ K=>match v_ with
 | (t50,x,b7)=>(cond (decide (t50<t49)) (kY N f f_3 f_4 t50 (λxsr=>Df N xsr s b7 (λxr Zp=>inR t50 x.length&&(decide (t50.toNat<x.length)&&(af .i64 (t50+1)&&K ((t50+1),(x.set t50.toNat xr),Zp)))))) (e0 x b7))
def lJ (N:Nat) (s_0:LF) (ZU Z9:Int) (s_3:LF) (ZW ZZ:Int) (Z1:LF) (q_0 q_1:Int) (q_2:LF) (k0:Kx3):Bool:=
 (kW N s_0 ZU Z9 s_3 (λnr=>cond (nr != 0) (k0 [] 0 0 [] nr) (jZ N ZW ZZ Z1 ((s_0.length:Nat):Int) (λZo=>cond (Zo != 0) (k0 [] 0 0 [] Zo) (jZ N q_0 q_1 q_2 ((s_0.length:Nat):Int) (λZr=>cond (Zr != 0) (k0 [] 0 0 [] Zr) (LJ N q_0 q_1 q_2 (λcr=>cond (!cr) (k0 [] 0 0 [] 150) (gb 8 ((s_0.length:Nat):Int) ((s_0.length:Nat):Int)&&ai N (eR N (((List.length (List.replicate (Int.toNat ((s_0.length:Nat):Int)) (some 0))):Nat):Int) s_0 ZU Z9 s_3 ZW ZZ Z1 q_0 q_1 q_2 0 0 ((s_0.length:Nat):Int) (λZw abV=>jv N ZW ZZ Z1 ZU Z9 s_3 abV (λZG ZE=>dM N ((s_0.length:Nat):Int) ZW Z9 ZW ZZ Z1 q_0 q_1 q_2 ((s_0.length:Nat):Int) ZG ZE (λZO ZI=>kX N ((s_0.length:Nat):Int) ((s_0.length:Nat):Int) ZO Zw ZI (λZF ZC n5=>k0 [] ZF ZC [] n5) (λn6=>k0 Zw ((s_0.length:Nat):Int) ((s_0.length:Nat):Int) ZI n6))))) (0,(List.replicate (Int.toNat ((s_0.length:Nat):Int)) (some 0)),false))))))))))
def iZ (N:Nat):LF->Int->Int->LF->Int->Int->LF->Int->Int->LF->(Kx3)->Bool:=ay N (lJ N)
def nL (N:Nat) (ZD Zu:Int) (ZH Z6:LF) (ZW ZZ:Int) (Z1:LF) (q_0 q_1:Int) (q_2:LF) (k0:Kx2):Bool:=
 (iY N ZD Zu ZH Z6 (λxsr nr Zo ZE Zr=>cond (Zr != 0) (k0 0 0 [] [] Zr) (iZ N xsr nr Zo ZE ZW ZZ Z1 q_0 q_1 q_2 (λZI ZF ZC aag n5=>cond (n5 != 0) (k0 0 0 [] [] n5) (lY N ZI ZF ZC aag (λn6 n7 aaT aa3 n8=>k0 n6 n7 aaT aa3 n8))))))
def kV (N:Nat):Int->Int->LF->LF->Int->Int->LF->Int->Int->LF->(Kx2)->Bool:=ay N (nL N)
def yk (N:Nat) (ZD Zu:Int) (ZH Z6:LF) (k0:Kz5):Bool:=
 (mQ N Z6 ZD Zu ZH (λnr=>cond (nr==151) (k0 170) (k0 nr)))
def tC (N:Nat):Int->Int->LF->LF->(Kz5)->Bool:=yk N
def vg (N:Nat) (l_0 l_1:Int) (l_2 b:LF) (k0:Kz5):Bool:=
 (cond (((b.length:Nat):Int) != l_0) (k0 3) (Pu N b (λcr=>cond (!cr) (k0 4) (k0 0))))
def vS (N:Nat):Int->Int->LF->LF->(Kz5)->Bool:=ay N (vg N)
def sf (N:Nat) (ZD Zu:Int) (ZH b:LF) (k0:Ky2):Bool:=
 (Gx N ZD Zu ZH (λnr=>cond (nr != 0) (k0 [] 0 nr) (vS N ZD Zu ZH b (λZo=>cond (Zo != 0) (k0 [] 0 Zo) (q9 N ZD Zu ZH (λZr ZF xsr ZC n5=>cond (n5 != 0) (k0 [] ZC n5) (Gq N Zr ZF xsr b false (λZE cr=>Gr N Zr ZF xsr ZE cr (λZI Zp=>cond Zp (k0 [] 0 5) (k0 ZI 0 0))))))))))
def tB (N:Nat):Int->Int->LF->LF->(Ky2)->Bool:=ay N (sf N)
def MU (N:Nat) (ZD Zu:Int) (ZH Z6:LF) (k0:Kx3):Bool:=
 (tC N ZD Zu ZH Z6 (λnr=>cond (nr != 0) (k0 [] 0 0 [] nr) (JL N ZD Zu ZH (λZo Zr xsr ZF ZC=>cond (ZC != 0) (k0 [] 0 0 [] ZC) (xR N Zo Zr xsr (λcr=>cond (!cr) (k0 [] 0 0 [] 151) (tB N ZD Zu ZH Z6 (λZE n5 n6=>cond (n6 != 0) (k0 [] 0 0 [] n6) (k0 ZE Zo Zr xsr 0)))))))))
def Dh (N:Nat):Int->Int->LF->LF->(Kx3)->Bool:=ay N (MU N)
def M7 (N:Nat) (ZW ZZ:Int) (Z1:LF) (rows:Int) (k0:Kz5):Bool:=
 (q_ N ZW ZZ Z1 (λnr=>cond (nr != 0) (k0 nr) (cond ((ZW != ZZ)==false) (cond (ZW != rows) (k0 3) (k0 0)) (k0 3))))
def JR (N:Nat):Int->Int->LF->Int->(Kz5)->Bool:=ay N (M7 N)
def ie (N:Nat) (ZM a_5 a_6:Int) (a_7:LF) (b_6 b_7:Int) (b_8:LF) (aaV aaW Zv ZX:Int) (e0:Ky7):(Int × Bool × LF)->((Int × Bool × LF)->Bool)->Bool:=λv_ K=>match v_ with
 | (j,ZU,aa8)=>(cond (decide (j<b_7)) (ku N a_5 a_6 a_7 ZM (λZE=>De N b_6 b_7 b_8 j (λZI=>Bx N ZE ZI ZU (λxr cr=>rH N Zv ZX ZM j xr aa8 (λaag=>af .i64 (j+1)&&K ((j+1),cr,aag)))))) (e0 ZU aa8))
def ic (N:Nat) (a Z6:Int) (a_4:LF) (Zy ZK:Int) (Z2:LF) (t6 aab m Zn:Int) (e0:Ky7):(Int × Bool × LF)->((Int × Bool × LF)->Bool)->Bool:=λv_ K=>match v_ with
 | (i,s,b5)=>(cond (decide (i<a)) (ai N (ie N i a Z6 a_4 Zy ZK Z2 t6 aab m Zn (λZ9 abE=>af .i64 (i+1)&&K ((i+1),Z9,abE))) (0,s,b5)) (e0 s b5))
def MN (N:Nat) (ZD Zu:Int) (ZH:LF) (b_0 Zl:Int) (Zq:LF) (b:Bool) (k0:Ky7):Bool:=
 (wV N ZD Zl (λxsr=>ai N (ic N ZD Zu ZH b_0 Zl Zq 0 0 ZD Zl (λb0 b3=>k0 b0 b3)) (0,b,xsr)))
def Pf (N:Nat):Int->Int->LF->Int->Int->LF->Bool->(Ky7)->Bool:=ay N (MN N)
def se (N:Nat) (ZB Zn i:Int) (b:LF) (k0:Ky9):Bool:=
 (af .i64 (i*Zn)&&(af .i64 (i+1)&&(af .i64 ((i+1)*Zn)&&(decide (0<=(i*Zn)/\(i*Zn)<=((i+1)*Zn)/\((i+1)*Zn)<=((b.length:Nat):Int))&&k0 (Int.toNat (i*Zn)) ((Int.toNat ((i+1)*Zn)) - (Int.toNat (i*Zn)))))))
def tA (N:Nat):Int->Int->Int->LF->(Ky9)->Bool:=ay N (se N)
def jf (N a ZH:Nat) (Zy:LF) (t10:Int) (Z6:LF) (e0:Ky6):(Fl × Int × Bool)->((Fl × Int × Bool)->Bool)->Bool:=λv_ K=>match v_ with
 | (t,t11,s)=>(cond (decide (t11<t10)) (inR t11 ZH&&(decide ((a+t11.toNat)<Z6.length)&&(inR t11 Zy.length&&lI N (dU (Z6.getD (a+t11.toNat) none) (Zy.getD t11.toNat none)) s (λcr=>lI N (nl t (dU (Z6.getD (a+t11.toNat) none) (Zy.getD t11.toNat none))) cr (λZp=>af .i64 (t11+1)&&K ((nl t (dU (Z6.getD (a+t11.toNat) none) (Zy.getD t11.toNat none))),(t11+1),Zp)))))) (e0 t s))
def M3 (N ZD Zu:Nat) (b:LF) (Zl:Bool) (Zq:LF) (k0:Ky6):Bool:=
 (ai N (jf N ZD Zu b ((Zu:Nat):Int) Zq (λt_1 b0=>k0 t_1 b0)) ((some 0),0,Zl))
def Pm (N:Nat):Nat->Nat->LF->Bool->LF->(Ky6)->Bool:=ay N (M3 N)
def hK (N:Nat) (ZM:Int) (aaw:LF) (ZX m_4 Z_ aaa t_2 t_3:Int) (e0:Kz8):(Int × LF)->((Int × LF)->Bool)->Bool:=λv_ K=>match v_ with
 | (j,abf)=>(cond (decide (j<=ZM)) (jp N ZX m_4 aaw ZM j (λxr=>rH N t_2 t_3 ZM j xr abf (λZE=>jp N ZX m_4 aaw ZM j (λZQ=>rH N t_2 t_3 j ZM ZQ ZE (λZI=>af .i64 (j+1)&&K ((j+1),ZI)))))) (e0 abf))
def hI (N:Nat) (b0:LF) (m Zv t2 ZR t t_1:Int) (e0:Kz8):(Int × LF)->((Int × LF)->Bool)->Bool:=λv_ K=>match v_ with
 | (i,b4)=>(cond (decide (i<m)) (ai N (hK N i b0 m Zv t2 ZR t t_1 (λabD=>af .i64 (i+1)&&K ((i+1),abD))) (0,b4)) (e0 b4))
def MK (N:Nat) (ZB Zn:Int) (b:LF) (k0:Kz8):Bool:=
 (wV N ZB Zn (λxsr=>ai N (hI N b ZB Zn 0 0 ZB Zn (λb3=>k0 b3)) (0,xsr)))
def Pd (N:Nat):Int->Int->LF->(Kz8)->Bool:=ay N (MK N)
def Mv (N:Nat) (p_0 p_1:Int) (b Zl:LF) (Zq:Bool) (k0:Ky1) (k1:Kz2):Bool:=
 (cond Zq (k0 0 0 5) (Pd N p_0 p_1 Zl (λxsr=>xR N p_0 p_1 xsr (λcr=>cond (!cr) (k0 0 0 151) (k1 xsr 0)))))
def O7 (N:Nat):Int->Int->LF->LF->Bool->(Ky1)->(Kz2)->Bool:=ay N (Mv N)
def jb (N:Nat) (adt:Int) (t_7:LF) (t_8 t_9:Int) (ac1:LF) (f_5 f_6:Int) (f_7:LF) (q_5 q_6:Int) (q_7:LF) (aaV aaW:Int) (e0:Ky7):(Int × Bool × LF)->((Int × Bool × LF)->Bool)->Bool:=λv_ K=>match v_ with
 | (aaS,ZU,x)=>(cond (decide (aaS<adt)) (ku N f_5 f_6 f_7 aaS (λZE=>Bx N ZE t_7 ZU (λZQ Zp=>decide ((List.length (x++[ZQ]))*8<=140737488355328)&&(af .i64 (aaS+1)&&K ((aaS+1),Zp,(x++[ZQ])))))) (e0 ZU x))
def je (N:Nat) (i adx ady adJ adK:Int) (adL:LF) (adV adW:Int) (adX:LF) (aca acb:Int) (ZT:LF) (Zv ZX p_2 p_3:Int) (abV:LF) (e0:Ky7):(Int × Bool × LF)->((Int × Bool × LF)->Bool)->Bool:=λv_ K=>match v_ with
 | (j,s_4,aeL)=>(cond (decide (j<=i)) (tA N Zv ZX i abV (λmr Z4=>ku N adJ adK adL j (λaaT=>Pm N mr Z4 aaT s_4 abV (λaaP ZO=>jp N adV adW adX i j (λaaQ=>lI N (nl aaP aaQ) ZO (λaaZ=>rH N p_2 p_3 i j (nl aaP aaQ) aeL (λaa3=>af .i64 (j+1)&&K ((j+1),aaZ,aa3)))))))) (e0 s_4 aeL))
def jc (N:Nat) (t76 f_8 f_9:Int) (aeo:LF) (q_8 q_9:Int) (aeq:LF) (ab9 ab_:Int) (ZN:LF) (m Zn p p_1:Int) (b7:LF) (e0:Ky7):(Int × Bool × LF)->((Int × Bool × LF)->Bool)->Bool:=λv_ K=>match v_ with
 | (t77,s_3,b8)=>(cond (decide (t77<t76)) (ai N (je N t77 t76 t77 f_8 f_9 aeo q_8 q_9 aeq ab9 ab_ ZN m Zn p p_1 b7 (λs_5 ada=>af .i64 (t77+1)&&K ((t77+1),s_5,ada))) (0,s_3,b8)) (e0 s_3 b8))
def MM (N:Nat) (t_0:LF) (t_1 t_2:Int) (t_3:LF) (ZW ZZ:Int) (Z1:LF) (q_0 q_1:Int) (q_2:LF) (k0:Kx3):Bool:=
 (mQ N t_0 t_1 t_2 t_3 (λnr=>cond (nr != 0) (k0 [] 0 0 [] nr) (JR N ZW ZZ Z1 ((t_0.length:Nat):Int) (λZo=>cond (Zo != 0) (k0 [] 0 0 [] Zo) (JR N q_0 q_1 q_2 ((t_0.length:Nat):Int) (λZr=>cond (Zr != 0) (k0 [] 0 0 [] Zr) (Iv N q_0 q_1 q_2 (λZF=>cond (ZF != 0) (k0 [] 0 0 [] 150) (ai N (jb N ((t_0.length:Nat):Int) t_0 t_1 t_2 t_3 ZW ZZ Z1 q_0 q_1 q_2 0 0 (λZ9 Zw=>Pf N ZW ZZ Z1 t_1 t_2 t_3 Z9 (λZG ZI=>wV N ((Zw.length:Nat):Int) ((Zw.length:Nat):Int) (λaag=>ai N (jc N ((Zw.length:Nat):Int) ZW ZZ Z1 q_0 q_1 q_2 0 0 Zw ZW t_2 ((Zw.length:Nat):Int) ((Zw.length:Nat):Int) ZI (λs_6 b4=>O7 N ((Zw.length:Nat):Int) ((Zw.length:Nat):Int) Zw b4 s_6 (λZC n5 n6=>k0 [] ZC n5 [] n6) (λacQ n7=>k0 Zw ((Zw.length:Nat):Int) ((Zw.length:Nat):Int) acQ n7))) (0,ZG,aag))))) (0,false,[]))))))))))
def JM (N:Nat):LF->Int->Int->LF->Int->Int->LF->Int->Int->LF->(Kx3)->Bool:=ay N (MM N)
def MO (N:Nat) (ZD Zu:Int) (ZH Z6:LF) (ZW ZZ:Int) (Z1:LF) (q_0 q_1:Int) (q_2:LF) (k0:Kx2):Bool:=
 (Dh N ZD Zu ZH Z6 (λxsr nr Zo ZE Zr=>cond (Zr != 0) (k0 0 0 [] [] Zr) (JM N xsr nr Zo ZE ZW ZZ Z1 q_0 q_1 q_2 (λZI ZF ZC aag n5=>cond (n5 != 0) (k0 0 0 [] [] n5) (ot N ZI ZF ZC aag (λn6 n7 aaT aa3 n8=>k0 n6 n7 aaT aa3 n8))))))
def JN (N:Nat):Int->Int->LF->LF->Int->Int->LF->Int->Int->LF->(Kx2)->Bool:=ay N (MO N)
abbrev U8:=(Kz4)->Bool
def sQ0 (N:Nat):U8:=λk=>k true
def GQ3 (N:Nat) (x:LI) (rows:Int) (p m q:LI) (k0:Kz4):Bool:=
 (VQ N x rows rows p (λxsr ZE=>lY N xsr rows rows ZE (λnr Zo ZI aag Zr=>ot N xsr rows rows ZE (λZF ZC aaT aa3 n5=>Ru N nr Zo ZI aag ZF ZC aaT aa3 (λcr=>cond ((!cr)==false) (cond (Zr != n5) (k0 false) (VV N x rows rows p (λacQ aea=>y_ N m (λaeb=>y_ N q (λaec=>kV N rows rows acQ aea rows rows aeb rows rows aec (λn6 n7 aeE y11 n8=>JN N rows rows acQ aea rows rows aeb rows rows aec (λn9 n10 y12 y13 n11=>Ru N n6 n7 aeE y11 n9 n10 y12 y13 (λZp=>cond (Zp==true) (cond ((n8==n11)==true) (sQ0 N (λZG=>k0 ZG)) (k0 false)) (k0 false))))))))) (k0 false))))))
def sQ3 (N:Nat):LI->Int->LI->LI->LI->(Kz4)->Bool:=GQ3 N
end Go.Proofs.YtdinakfmablagaaGreatDoor
