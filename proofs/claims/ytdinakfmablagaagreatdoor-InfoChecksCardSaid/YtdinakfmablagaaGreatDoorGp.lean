/- The program's functions and their ties. Conditions: none. -/
import Derived.Test.YtdinakfmablagaaGreatDoorMachT
set_option linter.unusedVariables false
namespace Go.Proofs.YtdinakfmablagaaGreatDoor
open Go Go.Mach
abbrev LI:=List Int
abbrev LF:=List Fl
abbrev Kx0:=Int->Int->Int->Int->Bool->Bool
abbrev Kx1:=Int->Int->LF->Int->Int->Bool
abbrev Kx2:=LF->Int->Int->LF->Int->Bool
abbrev Kx3:=Int->Int->LF->LF->Int->Bool
abbrev Kx4:=Bool->Int->Int->Int->Bool
abbrev Kx5:=Bool->LI->Bool->LI->Bool
abbrev Kx6:=Int->Int->Bool->LF->Bool
abbrev Kx7:=Int->Int->Int->Int->Bool
abbrev Kx8:=Int->Int->LF->Int->Bool
abbrev Kx9:=Bool->Int->Int->Bool
abbrev Ky0:=Bool->Nat->Nat->Bool
abbrev Ky1:=Int->Int->Int->Bool
abbrev Ky2:=LF->Int->Int->Bool
abbrev Ky3:=Bool->Bool->Bool
abbrev Ky4:=Bool->LI->Bool
abbrev Ky5:=Int->Int->Bool
abbrev Ky6:=Fl->Bool->Bool
abbrev Ky7:=Bool->LF->Bool
abbrev Ky8:=LF->Bool->Bool
abbrev Ky9:=Int->LI->Bool
abbrev Kz0:=Nat->LI->Bool
abbrev Kz1:=LF->Int->Bool
abbrev Kz2:=LI->LI->Bool
abbrev Kz3:=Bool->Bool
abbrev Kz4:=Int->Bool
abbrev Kz5:=Nat->Bool
abbrev Kz6:=Fl->Bool
abbrev Kz7:=LF->Bool
abbrev Kz8:=LI->Bool
abbrev RT0:RT:=(.ptr (.pair (.pair .bool (.ints .u64)) (.pair .bool (.ints .u64))))
abbrev RY0:=(Bool × LI) × Bool × LI
abbrev RT1:RT:=(.pair (.pair .bool (.ints .u32)) (.pair .bool (.ints .u32)))
abbrev RY1:=(Bool × LI) × Bool × LI
abbrev RT2:RT:=(.ptr (.pair (.pair .bool (.ints .u32)) (.pair .bool (.ints .u32))))
abbrev RY2:=(Bool × LI) × Bool × LI
def ay:LI:=[0,1,2,2,3,3,3,3,4,4,4,4,4,4,4,4,5,5,5,5,5,5,5,5,5,5,5,5,5,5,5,5,6,6,6,6,6,6,6,6,6,6,6,6,6,6,6,6,6,6,6,6,6,6,6,6,6,6,6,6,6,6,6,6,7,7,7,7,7,7,7,7,7,7,7,7,7,7,7,7,7,7,7,7,7,7,7,7,7,7,7,7,7,7,7,7,7,7,7,7,7,7,7,7,7,7,7,7,7,7,7,7,7,7,7,7,7,7,7,7,7,7,7,7,7,7,7,7,8,8,8,8,8,8,8,8,8,8,8,8,8,8,8,8,8,8,8,8,8,8,8,8,8,8,8,8,8,8,8,8,8,8,8,8,8,8,8,8,8,8,8,8,8,8,8,8,8,8,8,8,8,8,8,8,8,8,8,8,8,8,8,8,8,8,8,8,8,8,8,8,8,8,8,8,8,8,8,8,8,8,8,8,8,8,8,8,8,8,8,8,8,8,8,8,8,8,8,8,8,8,8,8,8,8,8,8,8,8,8,8,8,8,8,8,8,8,8,8,8,8,8,8,8,8,8,8]
abbrev NN:=Nat->(Kz4)->Bool
def Ev (N:Nat):NN:=λn k=>k n
def DJ (N:Nat) (k0:Ky1):Bool:=
 (k0 52 2047 1075)
def uO (N:Nat):(Ky1)->Bool:=DJ N
def KG (N:Nat) (f_0 f_1 f_2:Int) (k0:Kz4):Bool:=
 (af .i64 (f_1+1)&&(decide (0<=f_0)&&k0 (IntKind.wrap .u64 ((IntKind.wrap .u64 (f_1+1))*2 ^ (min f_0.toNat 64)))))
def yq (N:Nat):Int->Int->Int->(Kz4)->Bool:=KG N
def Cm (N:Nat) (f_0 f_1 f_2:Int) (k0:Kz4):Bool:=
 (decide (0<=f_0)&&k0 (IntKind.wrap .u64 ((IntKind.wrap .u64 f_1)*2 ^ (min f_0.toNat 64))))
def pr (N:Nat):Int->Int->Int->(Kz4)->Bool:=Cm N
def M0 (N:Nat) (b f_0 f_1 f_2:Int) (k0:Kz3):Bool:=
 (yq N f_0 f_1 f_2 (λnr=>pr N f_0 f_1 f_2 (λZY=>k0 (decide ((aD .andNot .u64 b nr)>ZY)))))
def PF (N:Nat):Int->Int->Int->Int->(Kz3)->Bool:=ax N (M0 N)
def E0 (N:Nat) (f_0 f_1 f_2:Int) (k0:Kz4):Bool:=
 (decide (0<=f_0)&&k0 (IntKind.wrap .u64 ((1:Int)*2 ^ (min f_0.toNat 64))))
def mJ (N:Nat):Int->Int->Int->(Kz4)->Bool:=E0 N
def xA (N:Nat) (f_0 f_1 f_2:Int) (k0:Kz4):Bool:=
 (pr N f_0 f_1 f_2 (λnr=>mJ N f_0 f_1 f_2 (λZY=>k0 (aD .or .u64 (aD .or .u64 nr (Int.fdiv ZY (2 ^ 1))) (IntKind.wrap .u64 (Int.tdiv f_0 52))))))
def yp (N:Nat):Int->Int->Int->(Kz4)->Bool:=ax N (xA N)
def Xa (N:Nat) (b f_0 f_1 f_2:Int) (k0:Kz4):Bool:=
 (PF N b f_0 f_1 f_2 (λcr=>cond cr (yp N f_0 f_1 f_2 (λnr=>k0 nr)) (k0 b)))
def PW (N:Nat):Int->Int->Int->Int->(Kz4)->Bool:=Xa N
def TF (N:Nat) (b f_0 f_1 f_2:Int) (k0:Kx9):Bool:=
 (PW N b f_0 f_1 f_2 (λnr=>yq N f_0 f_1 f_2 (λZY=>decide (0<=f_0)&&(af .i64 (aD .and .u64 (Int.fdiv nr (2 ^ (min f_0.toNat 64))) (IntKind.wrap .u64 f_1))&&mJ N f_0 f_1 f_2 (λZ2=>k0 ((aD .and .u64 nr ZY) != 0) (aD .and .u64 (Int.fdiv nr (2 ^ (min f_0.toNat 64))) (IntKind.wrap .u64 f_1)) (aD .and .u64 nr (IntKind.wrap .u64 (Z2 - 1))))))))
def RY (N:Nat):Int->Int->Int->Int->(Kx9)->Bool:=ax N (TF N)
def TE (N:Nat) (b f_0 f_1 f_2:Int) (k0:Kz4):Bool:=
 (RY N b f_0 f_1 f_2 (λcr nr ZY=>cond ((nr==f_1)==true) (cond (ZY != 0) (k0 1) (cond (nr==f_1) (k0 2) (cond ((nr==0)==true) (cond (ZY==0) (k0 3) (cond (nr==0) (k0 4) (k0 5))) (cond (nr==0) (k0 4) (k0 5))))) (cond (nr==f_1) (k0 2) (cond ((nr==0)==true) (cond (ZY==0) (k0 3) (cond (nr==0) (k0 4) (k0 5))) (cond (nr==0) (k0 4) (k0 5))))))
def RX (N:Nat):Int->Int->Int->Int->(Kz4)->Bool:=ax N (TE N)
abbrev Xl:=Nat->(Kz4)->Bool
def GQ6 (N x:Nat) (k0:Kz4):Bool:=
 (Ev N x (λnr=>uO N (λZY Z2 aag=>RX N nr ZY Z2 aag (λaae=>k0 aae))))
def sQ6 (N:Nat):Nat->(Kz4)->Bool:=GQ6 N
abbrev Xm:=Nat->Nat->(Kz3)->Bool
def GQ7 (N a b:Nat) (k0:Kz3):Bool:=
 (Ev N a (λnr=>uO N (λZY Z2 aag=>PW N nr ZY Z2 aag (λaae=>Ev N b (λn5=>uO N (λn6 n7 n8=>PW N n5 n6 n7 n8 (λn9=>k0 (aae==n9))))))))
def sQ7 (N:Nat):Nat->Nat->(Kz3)->Bool:=GQ7 N
abbrev Hv:=Int->(Kz6)->Bool
def BJ (N:Nat):Hv:=λn k=>k (jt n.toNat)
abbrev Sx:=Nat->(Kz6)->Bool
def W_ (N x:Nat) (k0:Kz6):Bool:=
 (Ev N x (λnr=>BJ N (aD .andNot .u64 nr 9223372036854775808) (λxr=>k0 xr)))
def I0 (N:Nat):Nat->(Kz6)->Bool:=W_ N
def l9 (N:Nat) (aa0:LI) (aem:Int) (e0:Kz7):(Int × LF)->((Int × LF)->Bool)->Bool:=λv_ K=>match v_ with
 | (acd,x)=>(cond (decide (acd<aem)) (inR acd aa0.length&&BJ N (aa0.getD acd.toNat 0) (λaaA=>decide ((List.length (x++[aaA]))*8<=140737488355328)&&(af .i64 (acd+1)&&K ((acd+1),(x++[aaA]))))) (e0 x))
def vz (N:Nat) (l:LI) (k0:Kz7):Bool:=
 (ah N (l9 N l ((l.length:Nat):Int) (λx_1=>k0 x_1)) (0,[]))
def lN (N:Nat):LI->(Kz7)->Bool:=ax N (vz N)
def Xe (N:Nat) (v:LI) (rows cols:Int) (y:LI) (k0:LF->LF->Bool):Bool:=
 (lN N v (λxsr=>lN N y (λZ8=>k0 Z8 xsr)))
def Wt (N:Nat):LI->Int->Int->LI->(LF->LF->Bool)->Bool:=Xe N
def Xf (N:Nat) (z:LI) (rows:Int) (r:LI) (k0:LF->LF->Bool):Bool:=
 (lN N z (λxsr=>lN N r (λZ8=>k0 Z8 xsr)))
def Wu (N:Nat):LI->Int->LI->(LF->LF->Bool)->Bool:=Xf N
def Qp (N:Nat) (n:Int) (k0:Kz3):Bool:=
 (cond ((decide (n>=0))==true) (k0 (decide (n<=12))) (k0 false))
def G0 (N:Nat):Int->(Kz3)->Bool:=Qp N
abbrev NO:=Fl->(Kz4)->Bool
def PV (N:Nat):NO:=λx k=>k (Av x)
def kK (N:Nat) (t6:LF) (t7:Int) (e0:Kz3) (e1:Bool):(Int)->((Int)->Bool)->Bool:=λv_ K=>match v_ with
 | t8=>(cond (decide (t8<t7)) (inR t8 t6.length&&PV N (t6.getD t8.toNat none) (λnr=>cond ((nr==1)==false) (cond (nr==2) (e0 false) (af .i64 (t8+1)&&K (t8+1))) (e0 false))) e1)
def Nh (N:Nat) (l:LF) (k0:Kz3):Bool:=
 (ah N (kK N l ((l.length:Nat):Int) (λt2=>k0 t2) (k0 true)) 0)
def BK (N:Nat):LF->(Kz3)->Bool:=ax N (Nh N)
def Qj (N:Nat) (m_0 Z0:Int) (Z7:LF) (k0:Kz4):Bool:=
 (G0 N m_0 (λcr=>cond ((!cr)==false) (G0 N Z0 (λZ1=>cond (!Z1) (k0 1) (af .i64 (m_0*Z0)&&cond (((Z7.length:Nat):Int) != (m_0*Z0)) (k0 3) (BK N Z7 (λaaj=>cond (!aaj) (k0 4) (k0 0)))))) (k0 1)))
def we (N:Nat):Int->Int->LF->(Kz4)->Bool:=ax N (Qj N)
def Sp (N:Nat) (m_0 Z0:Int) (Z7:LF) (i j:Int) (k0:Kz6):Bool:=
 (af .i64 (i*Z0)&&(af .i64 ((i*Z0)+j)&&(inR ((i*Z0)+j) Z7.length&&k0 (Z7.getD (Int.toNat ((i*Z0)+j)) none))))
def zo (N:Nat):Int->Int->LF->Int->Int->(Kz6)->Bool:=Sp N
abbrev NP:=Fl->Fl->(Kz3)->Bool
def I1 (N:Nat):NP:=λx y k=>k (decide (cn x=cn y))
def EL (N:Nat) (i abv aaJ t20 m_5 m_6:Int) (m_7:LF) (e0:Kz3) (e1:Bool):(Int)->((Int)->Bool)->Bool:=λv_ K=>match v_ with
 | t21=>(cond (decide (t21<t20)) (zo N m_5 m_6 m_7 i t21 (λxr=>zo N m_5 m_6 m_7 t21 i (λaaA=>I1 N xr aaA (λcr=>cond (!cr) (e0 false) (af .i64 (t21+1)&&K (t21+1)))))) e1)
def EK (N:Nat) (t16 m m_3:Int) (m_4:LF) (e0:Kz3) (e1:Bool):(Int)->((Int)->Bool)->Bool:=λv_ K=>match v_ with
 | t17=>(cond (decide (t17<t16)) (ah N (EL N t17 t16 t17 t17 m m_3 m_4 (λt2=>e0 t2) (af .i64 (t17+1)&&K (t17+1))) 0) e1)
def TG (N:Nat) (m_0 Z0:Int) (Z7:LF) (k0:Kz3):Bool:=
 (we N m_0 Z0 Z7 (λnr=>cond ((nr != 0)==false) (cond (m_0 != Z0) (k0 false) (ah N (EK N m_0 m_0 Z0 Z7 (λaai=>k0 aai) (k0 true)) 0)) (k0 false)))
def RZ (N:Nat):Int->Int->LF->(Kz3)->Bool:=ax N (TG N)
def wF (N:Nat) (is:Bool) (e:Int) (k0:Bool):Bool:=
 (cond (!is) false k0)
def cX (N:Nat):Bool->Int->(Bool)->Bool:=wF N
abbrev NQ:=Fl->(Kz4)->Bool
def yn (N:Nat):NQ:=λx k=>match x with | some b=>k b | none=>false
def GQ9 (N:Nat) (x:Int) (k0:Kz4):Bool:=
 (cond (x==0) (k0 64) (inR (Int.fdiv (IntKind.wrap .u64 ((aD .and .u64 x (IntKind.wrap .u64 (0 - x)))*285870213051353865)) (2 ^ 58)) 64&&(af .i64 (zA.getD (Int.toNat (Int.fdiv (IntKind.wrap .u64 ((aD .and .u64 x (IntKind.wrap .u64 (0 - x)))*285870213051353865)) (2 ^ 58))) 0)&&k0 (zA.getD (Int.toNat (Int.fdiv (IntKind.wrap .u64 ((aD .and .u64 x (IntKind.wrap .u64 (0 - x)))*285870213051353865)) (2 ^ 58))) 0))))
def sQ9 (N:Nat):Int->(Kz4)->Bool:=ax N (GQ9 N)
def KK (N:Nat) (b f_0 f_1 f_2:Int) (p:Bool) (p_1 p_2:Int) (k0:Kx4):Bool:=
 (sQ9 N p_1 (λaae=>decide (0<=aae)&&(af .i64 (p_2+aae)&&k0 p (Int.fdiv p_1 (2 ^ (min aae.toNat 64))) (p_2+aae) 0)))
def TR (N:Nat) (b f_0 f_1 f_2:Int) (k0:Kx4):Bool:=
 (RY N b f_0 f_1 f_2 (λcr nr ZY=>af .i64 (nr - f_2)&&RX N b f_0 f_1 f_2 (λZ2=>cond (Z2==1) (k0 false 0 0 4) (cond (Z2==2) (k0 false 0 0 4) (cond (Z2==3) (k0 cr 0 0 0) (cond (Z2==4) (af .i64 ((nr - f_2)+1)&&KK N b f_0 f_1 f_2 cr ZY ((nr - f_2)+1) k0) (mJ N f_0 f_1 f_2 (λaag=>KK N b f_0 f_1 f_2 cr (aD .or .u64 ZY aag) (nr - f_2) k0))))))))
def Wx (N:Nat):Int->Int->Int->Int->(Kx4)->Bool:=ax N (TR N)
def Ad (N:Nat) (x:Fl) (k0:Kx4):Bool:=
 (yn N x (λnr=>uO N (λZY Z2 aag=>Wx N nr ZY Z2 aag (λcr aae n5 n6=>k0 cr aae n5 n6))))
def q9 (N:Nat):Fl->(Kx4)->Bool:=Ad N
def wr (N:Nat) (x:LI) (e0:Kz4):(Int)->((Int)->Bool)->Bool:=λv_ K=>match v_ with
 | n=>(cond ((decide (n>0))==true) (af .i64 (n - 1)&&(inR (n - 1) x.length&&(decide ((Int.toNat (n - 1))<x.length)&&cond ((x.getD (Int.toNat (n - 1)) 0)==0) (af .i64 (n - 1)&&K (n - 1)) (e0 n)))) (e0 n))
def Tw (N:Nat) (b:LI) (k0:Kz5):Bool:=
 (ah N (wr N b (λn_1=>decide (0<=n_1/\n_1<=((b.length:Nat):Int))&&k0 (n_1.toNat - 0))) ((b.length:Nat):Int))
def xh (N:Nat):LI->(Kz5)->Bool:=ax N (Tw N)
def Ae (N:Nat) (n:Int) (k0:Kz8):Bool:=
 (xh N [n] (λmr=>decide ((0+mr)<=(List.length [n]))&&k0 (List.take mr (List.drop 0 [n]))))
def jY (N:Nat):Int->(Kz8)->Bool:=Ae N
def WY (N:Nat) (neg:Bool) (abs:LI) (b:Bool) (k0:Kz3):Bool:=
 (cond (neg==true) (k0 (decide (((abs.length:Nat):Int)>0))) (k0 false))
def Eu (N:Nat):Bool->LI->Bool->(Kz3)->Bool:=WY N
def Tl (N:Nat) (n:Int) (b:Bool) (k0:Ky4):Bool:=
 (jY N n (λnsr=>Eu N false nsr b (λcr=>k0 cr nsr)))
def RL (N:Nat):Int->Bool->(Ky4)->Bool:=ax N (Tl N)
def Sf (N:Nat) (x:LI) (k0:Kz8):Bool:=
 (decide ((List.length ([]++x))*8<=140737488355328)&&k0 ([]++x))
def rR (N:Nat):LI->(Kz8)->Bool:=Sf N
def X1 (N:Nat) (neg:Bool) (abs:LI) (b:Bool) (ZX:LI) (k0:Kz3):Bool:=
 (cond (neg==true) (k0 (decide (((abs.length:Nat):Int)>0))) (k0 false))
def Mr (N:Nat):Bool->LI->Bool->LI->(Kz3)->Bool:=X1 N
def Tx (N:Nat) (b:Bool) (ZX:LI) (k0:Ky4):Bool:=
 (rR N ZX (λnsr=>Mr N (!b) nsr b ZX (λcr=>k0 cr nsr)))
def RV (N:Nat):Bool->LI->(Ky4)->Bool:=ax N (Tx N)
def TD (N:Nat) (n:Int) (b:Bool) (k0:Ky4):Bool:=
 (cond (decide (n<0)) (jY N (IntKind.wrap .u64 (0 - (IntKind.wrap .u64 n))) (λnsr=>Eu N true nsr b (λcr=>k0 cr nsr))) (jY N (IntKind.wrap .u64 n) (λZZ=>Eu N false ZZ b (λZ1=>k0 Z1 ZZ))))
def XL (N:Nat):Int->Bool->(Ky4)->Bool:=ax N (TD N)
def Sv (N:Nat) (n:Int) (k0:Ky4):Bool:=
 (XL N n false (λcr nsr=>k0 cr nsr))
def GW (N:Nat):Int->(Ky4)->Bool:=Sv N
def eC (N:Nat) (words rest:Int) (t24:LI) (t25:Int) (e0:Kz8):(Int × LI)->((Int × LI)->Bool)->Bool:=λv_ K=>match v_ with
 | (t26,z)=>(cond (decide (t26<t25)) (inR t26 t24.length&&(af .i64 (words+t26)&&(inR (words+t26) z.length&&(decide ((Int.toNat (words+t26))<z.length)&&(decide (0<=rest)&&(inR (words+t26) z.length&&(decide ((Int.toNat (words+t26))<z.length)&&(af .i64 (words+t26)&&(af .i64 ((words+t26)+1)&&(decide (0<=(IntKind.wrap .u64 (64 - rest)))&&(inR ((words+t26)+1) (List.length (z.set (Int.toNat (words+t26)) (aD .or .u64 (z.getD (Int.toNat (words+t26)) 0) (IntKind.wrap .u64 ((t24.getD t26.toNat 0)*2 ^ (min rest.toNat 64))))))&&(decide ((Int.toNat ((words+t26)+1))<(List.length (z.set (Int.toNat (words+t26)) (aD .or .u64 (z.getD (Int.toNat (words+t26)) 0) (IntKind.wrap .u64 ((t24.getD t26.toNat 0)*2 ^ (min rest.toNat 64)))))))&&(af .i64 (t26+1)&&K ((t26+1),(List.set (z.set (Int.toNat (words+t26)) (aD .or .u64 (z.getD (Int.toNat (words+t26)) 0) (IntKind.wrap .u64 ((t24.getD t26.toNat 0)*2 ^ (min rest.toNat 64))))) (Int.toNat ((words+t26)+1)) (Int.fdiv (t24.getD t26.toNat 0) (2 ^ (min (Int.toNat (IntKind.wrap .u64 (64 - rest))) 64)))))))))))))))))) (e0 z))
def vt (N:Nat) (x:LI) (n:Int) (k0:Kz8):Bool:=
 (cond (((x.length:Nat):Int)==0) (k0 []) (af .i64 (IntKind.wrap .u64 (Int.tdiv n 64))&&(af .i64 ((IntKind.wrap .u64 (Int.tdiv n 64))+((x.length:Nat):Int))&&(af .i64 (((IntKind.wrap .u64 (Int.tdiv n 64))+((x.length:Nat):Int))+1)&&(gu 8 (((IntKind.wrap .u64 (Int.tdiv n 64))+((x.length:Nat):Int))+1) (((IntKind.wrap .u64 (Int.tdiv n 64))+((x.length:Nat):Int))+1)&&ah N (eC N (IntKind.wrap .u64 (Int.tdiv n 64)) (Int.tmod n 64) x ((x.length:Nat):Int) (λz_1=>xh N z_1 (λmr=>decide ((0+mr)<=z_1.length)&&k0 (List.take mr (List.drop 0 z_1))))) (0,(List.replicate (Int.toNat (((IntKind.wrap .u64 (Int.tdiv n 64))+((x.length:Nat):Int))+1)) (0:Int))))))))
def wh (N:Nat):LI->Int->(Kz8)->Bool:=ax N (vt N)
def Xc (N:Nat) (n:Int) (b ZX:Bool) (Z3:LI) (k0:Ky4):Bool:=
 (wh N Z3 n (λnsr=>Eu N ZX nsr b (λcr=>k0 cr nsr)))
def Wr (N:Nat):Int->Bool->Bool->LI->(Ky4)->Bool:=Xc N
def wm (N:Nat) (x_1 y_1:LI) (e0:Kz4) (e1:Bool):(Int)->((Int)->Bool)->Bool:=λv_ K=>match v_ with
 | i=>(cond (decide (i>=0)) (inR i x_1.length&&(inR i y_1.length&&cond ((x_1.getD i.toNat 0) != (y_1.getD i.toNat 0)) (inR i x_1.length&&(inR i y_1.length&&cond (decide ((x_1.getD i.toNat 0)<(y_1.getD i.toNat 0))) (e0 (-1)) (e0 1))) (af .i64 (i - 1)&&K (i - 1)))) e1)
def M3 (N:Nat) (x y:LI) (k0:Kz4):Bool:=
 (cond (((x.length:Nat):Int) != ((y.length:Nat):Int)) (cond (decide (((x.length:Nat):Int)<((y.length:Nat):Int))) (k0 (-1)) (k0 1)) (af .i64 (((x.length:Nat):Int) - 1)&&ah N (wm N x y (λt4=>k0 t4) (k0 0)) (((x.length:Nat):Int) - 1)))
def Dx (N:Nat):LI->LI->(Kz4)->Bool:=ax N (M3 N)
def Jl (N:Nat) (x x_2 n_1:Int) (k0:Kz4):Bool:=
 (cond (decide (x_2>=256)) (af .i64 (n_1+8)&&(inR (IntKind.wrap .u8 (Int.fdiv x_2 (2 ^ 8))) 256&&(af .i64 (ay.getD (Int.toNat (IntKind.wrap .u8 (Int.fdiv x_2 (2 ^ 8)))) 0)&&(af .i64 ((n_1+8)+(ay.getD (Int.toNat (IntKind.wrap .u8 (Int.fdiv x_2 (2 ^ 8)))) 0))&&k0 ((n_1+8)+(ay.getD (Int.toNat (IntKind.wrap .u8 (Int.fdiv x_2 (2 ^ 8)))) 0)))))) (inR (IntKind.wrap .u8 x_2) 256&&(af .i64 (ay.getD (Int.toNat (IntKind.wrap .u8 x_2)) 0)&&(af .i64 (n_1+(ay.getD (Int.toNat (IntKind.wrap .u8 x_2)) 0))&&k0 (n_1+(ay.getD (Int.toNat (IntKind.wrap .u8 x_2)) 0))))))
def Jk (N:Nat) (x x_1 n:Int) (k0:Kz4):Bool:=
 (cond (decide (x_1>=65536)) (af .i64 (n+16)&&Jl N x (Int.fdiv x_1 (2 ^ 16)) (n+16) k0) (Jl N x x_1 n k0))
def TM (N:Nat) (x:Int) (k0:Kz4):Bool:=
 (cond (decide (x>=4294967296)) (Jk N x (Int.fdiv x (2 ^ 32)) 32 k0) (Jk N x x 0 k0))
def R4 (N:Nat):Int->(Kz4)->Bool:=ax N (TM N)
def qg (N:Nat) (x:LI) (k0:Kz4):Bool:=
 (cond (((x.length:Nat):Int)==0) (k0 0) (af .i64 (((x.length:Nat):Int) - 1)&&(af .i64 (64*(((x.length:Nat):Int) - 1))&&(af .i64 (((x.length:Nat):Int) - 1)&&(inR (((x.length:Nat):Int) - 1) x.length&&R4 N (x.getD (Int.toNat (((x.length:Nat):Int) - 1)) 0) (λnr=>af .i64 ((64*(((x.length:Nat):Int) - 1))+nr)&&k0 ((64*(((x.length:Nat):Int) - 1))+nr)))))))
def q_ (N:Nat):LI->(Kz4)->Bool:=ax N (qg N)
def So (N:Nat) (x:LI) (i:Int) (k0:Kz4):Bool:=
 (cond (decide (i<((x.length:Nat):Int))) (inR i x.length&&k0 (x.getD i.toNat 0)) (k0 0))
def zn (N:Nat):LI->Int->(Kz4)->Bool:=So N
def xz (N:Nat) (x:LI) (from_:Int) (k0:Kz4):Bool:=
 (af .i64 (Int.tdiv from_ 64)&&zn N x (Int.tdiv from_ 64) (λnr=>decide (0<=(IntKind.wrap .u64 (Int.tmod from_ 64)))&&(af .i64 ((Int.tdiv from_ 64)+1)&&zn N x ((Int.tdiv from_ 64)+1) (λZY=>decide (0<=(IntKind.wrap .u64 (64 - (IntKind.wrap .u64 (Int.tmod from_ 64)))))&&k0 (aD .or .u64 (Int.fdiv nr (2 ^ (min (Int.toNat (IntKind.wrap .u64 (Int.tmod from_ 64))) 64))) (IntKind.wrap .u64 (ZY*2 ^ (min (Int.toNat (IntKind.wrap .u64 (64 - (IntKind.wrap .u64 (Int.tmod from_ 64))))) 64))))))))
def uR (N:Nat):LI->Int->(Kz4)->Bool:=ax N (xz N)
def ow (N:Nat) (t4 abn abh abi:Int) (aek:Bool) (e0:Kx0):(Int × Int × Int × Int × Int × Int × Int × Int × Bool)->((Int × Int × Int × Int × Int × Int × Int × Int × Bool)->Bool)->Bool:=λv_ K=>match v_ with
 | (x_1,y_1,u,v,w,w_1,w_2,w_3,w_4)=>(cond ((decide (y_1>=v))==true) (cond (decide ((IntKind.wrap .u64 (x_1 - y_1))>=(IntKind.wrap .u64 (w_3+v)))) ((!decide (y_1=0))&&((!decide (y_1=0))&&K (y_1,(Int.tmod x_1 y_1),(IntKind.wrap .u64 (w_2+(IntKind.wrap .u64 ((IntKind.wrap .u64 (Int.tdiv x_1 y_1))*u)))),(IntKind.wrap .u64 (w_3+(IntKind.wrap .u64 ((IntKind.wrap .u64 (Int.tdiv x_1 y_1))*v)))),w_2,w_3,u,v,(!w_4)))) (e0 w w_1 w_2 w_3 w_4)) (e0 w w_1 w_2 w_3 w_4))
def yD (N:Nat) (x y:Int) (k0:Kx0):Bool:=
 (ah N (ow N 0 0 0 0 false (λw_5 w_6 w_7 w_8 w_9=>k0 w_5 w_6 w_7 w_8 w_9)) (x,y,0,1,0,0,1,0,true))
def tH (N:Nat):Int->Int->(Kx0)->Bool:=ax N (yD N)
def MX (N:Nat) (x y:Int) (k0:Ky5):Bool:=
 (k0 (IntKind.wrap .u64 ((IntKind.wrap .u64 ((IntKind.wrap .u64 ((Int.fdiv x (2 ^ 32))*(Int.fdiv y (2 ^ 32))))+(Int.fdiv (IntKind.wrap .u64 ((IntKind.wrap .u64 ((Int.fdiv x (2 ^ 32))*(aD .and .u64 y 4294967295)))+(Int.fdiv (IntKind.wrap .u64 ((aD .and .u64 x 4294967295)*(aD .and .u64 y 4294967295))) (2 ^ 32)))) (2 ^ 32))))+(Int.fdiv (IntKind.wrap .u64 ((aD .and .u64 (IntKind.wrap .u64 ((IntKind.wrap .u64 ((Int.fdiv x (2 ^ 32))*(aD .and .u64 y 4294967295)))+(Int.fdiv (IntKind.wrap .u64 ((aD .and .u64 x 4294967295)*(aD .and .u64 y 4294967295))) (2 ^ 32)))) 4294967295)+(IntKind.wrap .u64 ((aD .and .u64 x 4294967295)*(Int.fdiv y (2 ^ 32)))))) (2 ^ 32)))) (IntKind.wrap .u64 (x*y)))
def GN (N:Nat):Int->Int->(Ky5)->Bool:=ax N (MX N)
abbrev VF:=Int->Int->Int->(Ky5)->Bool
def sQ2 (N:Nat):VF:=λx y c k=>(decide (c.toNat<=1))&&k (((x.toNat+y.toNat+c.toNat)%18446744073709551616:Nat):Int) (((x.toNat+y.toNat+c.toNat) / 18446744073709551616:Nat):Int)
def vq (N:Nat) (a b c d:Int) (k0:Ky5):Bool:=
 (GN N a b (λnr ZY=>sQ2 N ZY c 0 (λZ2 aag=>sQ2 N Z2 d 0 (λaae n5=>k0 (IntKind.wrap .u64 ((IntKind.wrap .u64 (nr+aag))+n5)) aae))))
def lJ (N:Nat):Int->Int->Int->Int->(Ky5)->Bool:=ax N (vq N)
def l7 (N:Nat) (x_1:LI) (d_1:Int) (t14:LI) (t15:Int) (e0:Ky9):(Int × Int × LI)->((Int × Int × LI)->Bool)->Bool:=λv_ K=>match v_ with
 | (adg,t16,z)=>(cond (decide (t16<t15)) (inR t16 t14.length&&lJ N (t14.getD t16.toNat 0) d_1 0 adg (λnr ZY=>inR t16 z.length&&(decide (t16.toNat<z.length)&&(af .i64 (t16+1)&&K (nr,(t16+1),(z.set t16.toNat ZY)))))) (e0 adg z))
def Ng (N:Nat) (x:LI) (d more:Int) (k0:Kz8):Bool:=
 (af .i64 (((x.length:Nat):Int)+1)&&(gu 8 (((x.length:Nat):Int)+1) (((x.length:Nat):Int)+1)&&ah N (l7 N x d x ((x.length:Nat):Int) (λacG z_1=>inR ((x.length:Nat):Int) z_1.length&&(decide ((Int.toNat ((x.length:Nat):Int))<z_1.length)&&xh N (z_1.set (Int.toNat ((x.length:Nat):Int)) acG) (λmr=>decide ((0+mr)<=(List.length (z_1.set (Int.toNat ((x.length:Nat):Int)) acG)))&&k0 (List.take mr (List.drop 0 (z_1.set (Int.toNat ((x.length:Nat):Int)) acG))))))) (more,0,(List.replicate (Int.toNat (((x.length:Nat):Int)+1)) (0:Int)))))
def vm (N:Nat):LI->Int->Int->(Kz8)->Bool:=ax N (Ng N)
abbrev VG:=Int->Int->Int->(Ky5)->Bool
def sQ4 (N:Nat):VG:=λx y c k=>(decide (c.toNat<=1))&&k (((x.toNat+18446744073709551616 - y.toNat - c.toNat)%18446744073709551616:Nat):Int) (cond (decide (x.toNat<y.toNat+c.toNat)) 1 0)
def l6 (N:Nat) (x_1 y_1:LI) (t12:Int) (e0:Kz8):(Int × Int × LI)->((Int × Int × LI)->Bool)->Bool:=λv_ K=>match v_ with
 | (borrow,t13,z)=>(cond (decide (t13<t12)) (inR t13 x_1.length&&zn N y_1 t13 (λnr=>sQ4 N (x_1.getD t13.toNat 0) nr borrow (λZY Z2=>inR t13 z.length&&(decide (t13.toNat<z.length)&&(af .i64 (t13+1)&&K (Z2,(t13+1),(z.set t13.toNat ZY))))))) (e0 z))
def Nw (N:Nat) (x y:LI) (k0:Kz8):Bool:=
 (gu 8 ((x.length:Nat):Int) ((x.length:Nat):Int)&&ah N (l6 N x y ((x.length:Nat):Int) (λz_1=>xh N z_1 (λmr=>decide ((0+mr)<=z_1.length)&&k0 (List.take mr (List.drop 0 z_1))))) (0,0,(List.replicate (Int.toNat ((x.length:Nat):Int)) (0:Int))))
def zp (N:Nat):LI->LI->(Kz8)->Bool:=ax N (Nw N)
def dQ (N:Nat) (w_0 w_1 w_2 w_3:Int) (w_4:Bool) (x y:LI) (k0:Kz2):Bool:=
 (cond w_4 (vm N y w_1 0 (λnsr=>vm N x w_0 0 (λZZ=>zp N nsr ZZ (λZ5=>vm N x w_2 0 (λZ6=>vm N y w_3 0 (λaac=>zp N Z6 aac (λZ_=>k0 Z5 Z_))))))) (vm N x w_0 0 (λs6=>vm N y w_1 0 (λs7=>zp N s6 s7 (λs8=>vm N y w_3 0 (λs9=>vm N x w_2 0 (λs10=>zp N s9 s10 (λs11=>k0 s8 s11))))))))
def d_ (N:Nat):Int->Int->Int->Int->Bool->LI->LI->(Kz2)->Bool:=ax N (dQ N)
def W1 (N:Nat) (x:Int) (k0:Kz4):Bool:=
 (R4 N x (λnr=>af .i64 (64 - nr)&&k0 (64 - nr)))
def RO (N:Nat):Int->(Kz4)->Bool:=W1 N
def yx (N:Nat) (y_1 s yn1 yn0 un32 un1 un0:Int) (e0:Kz4):(Int × Int)->((Int × Int)->Bool)->Bool:=λv_ K=>match v_ with
 | (q1,rhat)=>(cond ((decide (q1>=4294967296))==false) (cond (decide ((IntKind.wrap .u64 (q1*yn0))>(IntKind.wrap .u64 ((IntKind.wrap .u64 (4294967296*rhat))+un1)))) (cond (decide ((IntKind.wrap .u64 (rhat+yn1))>=4294967296)) (e0 (IntKind.wrap .u64 (q1 - 1))) (K ((IntKind.wrap .u64 (q1 - 1)),(IntKind.wrap .u64 (rhat+yn1))))) (e0 q1)) (cond (decide ((IntKind.wrap .u64 (rhat+yn1))>=4294967296)) (e0 (IntKind.wrap .u64 (q1 - 1))) (K ((IntKind.wrap .u64 (q1 - 1)),(IntKind.wrap .u64 (rhat+yn1))))))
def yy (N:Nat) (y_2 s_1 ab8 adE acZ aef un21:Int) (e0:Kz4):(Int × Int)->((Int × Int)->Bool)->Bool:=λv_ K=>match v_ with
 | (abU,q0)=>(cond ((decide (q0>=4294967296))==false) (cond (decide ((IntKind.wrap .u64 (q0*adE))>(IntKind.wrap .u64 ((IntKind.wrap .u64 (4294967296*abU))+acZ)))) (cond (decide ((IntKind.wrap .u64 (abU+ab8))>=4294967296)) (e0 (IntKind.wrap .u64 (q0 - 1))) (K ((IntKind.wrap .u64 (abU+ab8)),(IntKind.wrap .u64 (q0 - 1))))) (e0 q0)) (cond (decide ((IntKind.wrap .u64 (abU+ab8))>=4294967296)) (e0 (IntKind.wrap .u64 (q0 - 1))) (K ((IntKind.wrap .u64 (abU+ab8)),(IntKind.wrap .u64 (q0 - 1))))))
def MW (N:Nat) (hi lo y:Int) (k0:Ky5):Bool:=
 (cond (y==0) false (cond (decide (y<=hi)) false (cond (hi==0) ((!decide (y=0))&&((!decide (y=0))&&k0 (IntKind.wrap .u64 (Int.tdiv lo y)) (Int.tmod lo y))) (RO N y (λnr=>decide (0<=(IntKind.wrap .u64 nr))&&(decide (0<=(IntKind.wrap .u64 nr))&&(decide (0<=(IntKind.wrap .u64 (64 - (IntKind.wrap .u64 nr))))&&(decide (0<=(IntKind.wrap .u64 nr))&&((!decide ((Int.fdiv (IntKind.wrap .u64 (y*2 ^ (min (Int.toNat (IntKind.wrap .u64 nr)) 64))) (2 ^ 32))=0))&&ah N (yx N (IntKind.wrap .u64 (y*2 ^ (min (Int.toNat (IntKind.wrap .u64 nr)) 64))) (IntKind.wrap .u64 nr) (Int.fdiv (IntKind.wrap .u64 (y*2 ^ (min (Int.toNat (IntKind.wrap .u64 nr)) 64))) (2 ^ 32)) (aD .and .u64 (IntKind.wrap .u64 (y*2 ^ (min (Int.toNat (IntKind.wrap .u64 nr)) 64))) 4294967295) (aD .or .u64 (IntKind.wrap .u64 (hi*2 ^ (min (Int.toNat (IntKind.wrap .u64 nr)) 64))) (Int.fdiv lo (2 ^ (min (Int.toNat (IntKind.wrap .u64 (64 - (IntKind.wrap .u64 nr)))) 64)))) (Int.fdiv (IntKind.wrap .u64 (lo*2 ^ (min (Int.toNat (IntKind.wrap .u64 nr)) 64))) (2 ^ 32)) (aD .and .u64 (IntKind.wrap .u64 (lo*2 ^ (min (Int.toNat (IntKind.wrap .u64 nr)) 64))) 4294967295) (λacI=>(!decide ((Int.fdiv (IntKind.wrap .u64 (y*2 ^ (min (Int.toNat (IntKind.wrap .u64 nr)) 64))) (2 ^ 32))=0))&&ah N (yy N (IntKind.wrap .u64 (y*2 ^ (min (Int.toNat (IntKind.wrap .u64 nr)) 64))) (IntKind.wrap .u64 nr) (Int.fdiv (IntKind.wrap .u64 (y*2 ^ (min (Int.toNat (IntKind.wrap .u64 nr)) 64))) (2 ^ 32)) (aD .and .u64 (IntKind.wrap .u64 (y*2 ^ (min (Int.toNat (IntKind.wrap .u64 nr)) 64))) 4294967295) (aD .and .u64 (IntKind.wrap .u64 (lo*2 ^ (min (Int.toNat (IntKind.wrap .u64 nr)) 64))) 4294967295) acI (IntKind.wrap .u64 ((IntKind.wrap .u64 ((IntKind.wrap .u64 ((aD .or .u64 (IntKind.wrap .u64 (hi*2 ^ (min (Int.toNat (IntKind.wrap .u64 nr)) 64))) (Int.fdiv lo (2 ^ (min (Int.toNat (IntKind.wrap .u64 (64 - (IntKind.wrap .u64 nr)))) 64))))*4294967296))+(Int.fdiv (IntKind.wrap .u64 (lo*2 ^ (min (Int.toNat (IntKind.wrap .u64 nr)) 64))) (2 ^ 32)))) - (IntKind.wrap .u64 (acI*(IntKind.wrap .u64 (y*2 ^ (min (Int.toNat (IntKind.wrap .u64 nr)) 64))))))) (λaeI=>decide (0<=(IntKind.wrap .u64 nr))&&k0 (IntKind.wrap .u64 ((IntKind.wrap .u64 (acI*4294967296))+aeI)) (Int.fdiv (IntKind.wrap .u64 ((IntKind.wrap .u64 ((IntKind.wrap .u64 ((IntKind.wrap .u64 ((IntKind.wrap .u64 ((IntKind.wrap .u64 ((aD .or .u64 (IntKind.wrap .u64 (hi*2 ^ (min (Int.toNat (IntKind.wrap .u64 nr)) 64))) (Int.fdiv lo (2 ^ (min (Int.toNat (IntKind.wrap .u64 (64 - (IntKind.wrap .u64 nr)))) 64))))*4294967296))+(Int.fdiv (IntKind.wrap .u64 (lo*2 ^ (min (Int.toNat (IntKind.wrap .u64 nr)) 64))) (2 ^ 32)))) - (IntKind.wrap .u64 (acI*(IntKind.wrap .u64 (y*2 ^ (min (Int.toNat (IntKind.wrap .u64 nr)) 64)))))))*4294967296))+(aD .and .u64 (IntKind.wrap .u64 (lo*2 ^ (min (Int.toNat (IntKind.wrap .u64 nr)) 64))) 4294967295))) - (IntKind.wrap .u64 (aeI*(IntKind.wrap .u64 (y*2 ^ (min (Int.toNat (IntKind.wrap .u64 nr)) 64))))))) (2 ^ (min (Int.toNat (IntKind.wrap .u64 nr)) 64))))) ((IntKind.wrap .u64 ((IntKind.wrap .u64 ((IntKind.wrap .u64 ((IntKind.wrap .u64 ((aD .or .u64 (IntKind.wrap .u64 (hi*2 ^ (min (Int.toNat (IntKind.wrap .u64 nr)) 64))) (Int.fdiv lo (2 ^ (min (Int.toNat (IntKind.wrap .u64 (64 - (IntKind.wrap .u64 nr)))) 64))))*4294967296))+(Int.fdiv (IntKind.wrap .u64 (lo*2 ^ (min (Int.toNat (IntKind.wrap .u64 nr)) 64))) (2 ^ 32)))) - (IntKind.wrap .u64 (acI*(IntKind.wrap .u64 (y*2 ^ (min (Int.toNat (IntKind.wrap .u64 nr)) 64))))))) - (IntKind.wrap .u64 ((IntKind.wrap .u64 (Int.tdiv (IntKind.wrap .u64 ((IntKind.wrap .u64 ((IntKind.wrap .u64 ((aD .or .u64 (IntKind.wrap .u64 (hi*2 ^ (min (Int.toNat (IntKind.wrap .u64 nr)) 64))) (Int.fdiv lo (2 ^ (min (Int.toNat (IntKind.wrap .u64 (64 - (IntKind.wrap .u64 nr)))) 64))))*4294967296))+(Int.fdiv (IntKind.wrap .u64 (lo*2 ^ (min (Int.toNat (IntKind.wrap .u64 nr)) 64))) (2 ^ 32)))) - (IntKind.wrap .u64 (acI*(IntKind.wrap .u64 (y*2 ^ (min (Int.toNat (IntKind.wrap .u64 nr)) 64))))))) (Int.fdiv (IntKind.wrap .u64 (y*2 ^ (min (Int.toNat (IntKind.wrap .u64 nr)) 64))) (2 ^ 32))))*(Int.fdiv (IntKind.wrap .u64 (y*2 ^ (min (Int.toNat (IntKind.wrap .u64 nr)) 64))) (2 ^ 32)))))),(IntKind.wrap .u64 (Int.tdiv (IntKind.wrap .u64 ((IntKind.wrap .u64 ((IntKind.wrap .u64 ((aD .or .u64 (IntKind.wrap .u64 (hi*2 ^ (min (Int.toNat (IntKind.wrap .u64 nr)) 64))) (Int.fdiv lo (2 ^ (min (Int.toNat (IntKind.wrap .u64 (64 - (IntKind.wrap .u64 nr)))) 64))))*4294967296))+(Int.fdiv (IntKind.wrap .u64 (lo*2 ^ (min (Int.toNat (IntKind.wrap .u64 nr)) 64))) (2 ^ 32)))) - (IntKind.wrap .u64 (acI*(IntKind.wrap .u64 (y*2 ^ (min (Int.toNat (IntKind.wrap .u64 nr)) 64))))))) (Int.fdiv (IntKind.wrap .u64 (y*2 ^ (min (Int.toNat (IntKind.wrap .u64 nr)) 64))) (2 ^ 32))))))) ((IntKind.wrap .u64 (Int.tdiv (aD .or .u64 (IntKind.wrap .u64 (hi*2 ^ (min (Int.toNat (IntKind.wrap .u64 nr)) 64))) (Int.fdiv lo (2 ^ (min (Int.toNat (IntKind.wrap .u64 (64 - (IntKind.wrap .u64 nr)))) 64)))) (Int.fdiv (IntKind.wrap .u64 (y*2 ^ (min (Int.toNat (IntKind.wrap .u64 nr)) 64))) (2 ^ 32)))),(IntKind.wrap .u64 ((aD .or .u64 (IntKind.wrap .u64 (hi*2 ^ (min (Int.toNat (IntKind.wrap .u64 nr)) 64))) (Int.fdiv lo (2 ^ (min (Int.toNat (IntKind.wrap .u64 (64 - (IntKind.wrap .u64 nr)))) 64)))) - (IntKind.wrap .u64 ((IntKind.wrap .u64 (Int.tdiv (aD .or .u64 (IntKind.wrap .u64 (hi*2 ^ (min (Int.toNat (IntKind.wrap .u64 nr)) 64))) (Int.fdiv lo (2 ^ (min (Int.toNat (IntKind.wrap .u64 (64 - (IntKind.wrap .u64 nr)))) 64)))) (Int.fdiv (IntKind.wrap .u64 (y*2 ^ (min (Int.toNat (IntKind.wrap .u64 nr)) 64))) (2 ^ 32))))*(Int.fdiv (IntKind.wrap .u64 (y*2 ^ (min (Int.toNat (IntKind.wrap .u64 nr)) 64))) (2 ^ 32))))))))))))))))
def GM (N:Nat):Int->Int->Int->(Ky5)->Bool:=ax N (MW N)
def kN (N:Nat) (x_1:LI) (d_1:Int) (e0:Ky9):(Int × Int × LI)->((Int × Int × LI)->Bool)->Bool:=λv_ K=>match v_ with
 | (rest,i,q)=>(cond (decide (i>=0)) (inR i x_1.length&&GM N rest (x_1.getD i.toNat 0) d_1 (λnr ZY=>inR i q.length&&(decide (i.toNat<q.length)&&(af .i64 (i - 1)&&K (ZY,(i - 1),(q.set i.toNat nr)))))) (e0 rest q))
def sa (N:Nat) (x:LI) (d:Int) (k0:LI->Int->Bool):Bool:=
 (gu 8 ((x.length:Nat):Int) ((x.length:Nat):Int)&&(af .i64 (((x.length:Nat):Int) - 1)&&ah N (kN N x d (λabu q_1=>xh N q_1 (λmr=>decide ((0+mr)<=q_1.length)&&k0 (List.take mr (List.drop 0 q_1)) abu))) (0,(((x.length:Nat):Int) - 1),(List.replicate (Int.toNat ((x.length:Nat):Int)) (0:Int)))))
def oX (N:Nat):LI->Int->(LI->Int->Bool)->Bool:=ax N (sa N)
def ox (N:Nat) (words rest:Int) (t24:LI) (t25:Int) (e0:Kz8):(Int × LI)->((Int × LI)->Bool)->Bool:=λv_ K=>match v_ with
 | (t26,z)=>(cond (decide (t26<t25)) (inR t26 t24.length&&(af .i64 (words+t26)&&(inR (words+t26) z.length&&(decide ((Int.toNat (words+t26))<z.length)&&(decide (0<=rest)&&(inR (words+t26) z.length&&(decide ((Int.toNat (words+t26))<z.length)&&(af .i64 (words+t26)&&(af .i64 ((words+t26)+1)&&(decide (0<=(IntKind.wrap .u64 (64 - rest)))&&(inR ((words+t26)+1) (List.length (z.set (Int.toNat (words+t26)) (aD .or .u64 (z.getD (Int.toNat (words+t26)) 0) (IntKind.wrap .u64 ((t24.getD t26.toNat 0)*2 ^ (min rest.toNat 64))))))&&(decide ((Int.toNat ((words+t26)+1))<(List.length (z.set (Int.toNat (words+t26)) (aD .or .u64 (z.getD (Int.toNat (words+t26)) 0) (IntKind.wrap .u64 ((t24.getD t26.toNat 0)*2 ^ (min rest.toNat 64)))))))&&(af .i64 (t26+1)&&K ((t26+1),(List.set (z.set (Int.toNat (words+t26)) (aD .or .u64 (z.getD (Int.toNat (words+t26)) 0) (IntKind.wrap .u64 ((t24.getD t26.toNat 0)*2 ^ (min rest.toNat 64))))) (Int.toNat ((words+t26)+1)) (Int.fdiv (t24.getD t26.toNat 0) (2 ^ (min (Int.toNat (IntKind.wrap .u64 (64 - rest))) 64)))))))))))))))))) (e0 z))
def TZ (N:Nat) (x:LI) (n:Int) (k0:Bool) (k1:Kz0):Bool:=
 (cond (((x.length:Nat):Int)==0) k0 (af .i64 (IntKind.wrap .u64 (Int.tdiv n 64))&&(af .i64 ((IntKind.wrap .u64 (Int.tdiv n 64))+((x.length:Nat):Int))&&(af .i64 (((IntKind.wrap .u64 (Int.tdiv n 64))+((x.length:Nat):Int))+1)&&(gu 8 (((IntKind.wrap .u64 (Int.tdiv n 64))+((x.length:Nat):Int))+1) (((IntKind.wrap .u64 (Int.tdiv n 64))+((x.length:Nat):Int))+1)&&ah N (ox N (IntKind.wrap .u64 (Int.tdiv n 64)) (Int.tmod n 64) x ((x.length:Nat):Int) (λz_1=>xh N z_1 (λmr=>k1 mr z_1))) (0,(List.replicate (Int.toNat (((IntKind.wrap .u64 (Int.tdiv n 64))+((x.length:Nat):Int))+1)) (0:Int))))))))
def PX (N:Nat):LI->Int->(Bool)->(Kz0)->Bool:=ax N (TZ N)
def qa (N u u_2:Nat) (v_1:LI) (n:Int) (u_3:LI) (e0:Kz4):(Int × Int)->((Int × Int)->Bool)->Bool:=λv_ K=>match v_ with
 | (q,rest)=>(af .i64 (n - 2)&&(inR (n - 2) v_1.length&&GN N q (v_1.getD (Int.toNat (n - 2)) 0) (λZ2 aag=>cond ((decide (Z2<rest))==false) (cond ((Z2==rest)==true) (af .i64 (n - 2)&&(inR (n - 2) u_2&&(decide ((u+(Int.toNat (n - 2)))<u_3.length)&&cond (decide (aag<=(u_3.getD (u+(Int.toNat (n - 2))) 0))) (e0 q) (af .i64 (n - 1)&&(inR (n - 1) v_1.length&&sQ2 N rest (v_1.getD (Int.toNat (n - 1)) 0) 0 (λaae n5=>cond (n5 != 0) (e0 (IntKind.wrap .u64 (q - 1))) (K ((IntKind.wrap .u64 (q - 1)),aae)))))))) (af .i64 (n - 1)&&(inR (n - 1) v_1.length&&sQ2 N rest (v_1.getD (Int.toNat (n - 1)) 0) 0 (λn6 n7=>cond (n7 != 0) (e0 (IntKind.wrap .u64 (q - 1))) (K ((IntKind.wrap .u64 (q - 1)),n6)))))) (e0 q))))
def u7 (N u_0 u_1:Nat) (v b:LI) (k0:Kz4):Bool:=
 (inR ((v.length:Nat):Int) u_1&&(decide ((u_0+(Int.toNat ((v.length:Nat):Int)))<b.length)&&(af .i64 (((v.length:Nat):Int) - 1)&&(inR (((v.length:Nat):Int) - 1) v.length&&cond (decide ((b.getD (u_0+(Int.toNat ((v.length:Nat):Int))) 0)>=(v.getD (Int.toNat (((v.length:Nat):Int) - 1)) 0))) (k0 18446744073709551615) (inR ((v.length:Nat):Int) u_1&&(decide ((u_0+(Int.toNat ((v.length:Nat):Int)))<b.length)&&(af .i64 (((v.length:Nat):Int) - 1)&&(inR (((v.length:Nat):Int) - 1) u_1&&(decide ((u_0+(Int.toNat (((v.length:Nat):Int) - 1)))<b.length)&&(af .i64 (((v.length:Nat):Int) - 1)&&(inR (((v.length:Nat):Int) - 1) v.length&&GM N (b.getD (u_0+(Int.toNat ((v.length:Nat):Int))) 0) (b.getD (u_0+(Int.toNat (((v.length:Nat):Int) - 1))) 0) (v.getD (Int.toNat (((v.length:Nat):Int) - 1)) 0) (λnr ZY=>ah N (qa N u_0 u_1 v ((v.length:Nat):Int) b (λt4=>k0 t4)) (nr,ZY)))))))))))))
def CC (N:Nat):Nat->Nat->LI->LI->(Kz4)->Bool:=ax N (u7 N)
def rW (N u u_2:Nat) (v_1:LI) (n q t17:Int) (e0:Int->Int->LI->Bool):(Int × Int × Int × LI)->((Int × Int × Int × LI)->Bool)->Bool:=λv_ K=>match v_ with
 | (carry,borrow,t18,u_3)=>(cond (decide (t18<t17)) (inR t18 v_1.length&&lJ N q (v_1.getD t18.toNat 0) 0 carry (λZY Z2=>inR t18 u_2&&(decide ((u+t18.toNat)<u_3.length)&&sQ4 N (u_3.getD (u+t18.toNat) 0) Z2 borrow (λaag aae=>inR t18 u_2&&(decide ((u+t18.toNat)<u_3.length)&&(af .i64 (t18+1)&&K (ZY,aae,(t18+1),(u_3.set (u+t18.toNat) aag)))))))) (e0 carry borrow u_3))
def rY (N u_8 u_9:Nat) (v_3:LI) (n_2 q_2 aaX t60:Int) (e0:Ky9):(Int × Int × LI)->((Int × Int × LI)->Bool)->Bool:=λv_ K=>match v_ with
 | (aaT,t61,abB)=>(cond (decide (t61<t60)) (inR t61 u_9&&(decide ((u_8+t61.toNat)<abB.length)&&(inR t61 v_3.length&&sQ2 N (abB.getD (u_8+t61.toNat) 0) (v_3.getD t61.toNat 0) aaT (λn7 n8=>inR t61 u_9&&(decide ((u_8+t61.toNat)<abB.length)&&(af .i64 (t61+1)&&K (n8,(t61+1),(abB.set (u_8+t61.toNat) n7)))))))) (e0 aaT abB))
def rX (N u_5 u_6:Nat) (v_2:LI) (n_1:Int) (e0:Ky9):(Int × Int × LI)->((Int × Int × LI)->Bool)->Bool:=λv_ K=>match v_ with
 | (q_1,aaW,u_7)=>(cond (aaW != 0) (ah N (rY N u_5 u_6 v_2 n_1 q_1 aaW n_1 (λab_ abG=>inR n_1 u_6&&(decide ((u_5+n_1.toNat)<abG.length)&&sQ2 N (abG.getD (u_5+n_1.toNat) 0) 0 ab_ (λn9 n10=>inR n_1 u_6&&(decide ((u_5+n_1.toNat)<abG.length)&&K ((IntKind.wrap .u64 (q_1 - 1)),(IntKind.wrap .u64 (aaW - n10)),(abG.set (u_5+n_1.toNat) n9))))))) (0,0,u_7)) (e0 q_1 u_7))
def wA (N u_0 u_1:Nat) (v b:LI) (k0:Ky9):Bool:=
 (CC N u_0 u_1 v b (λnr=>ah N (rW N u_0 u_1 v ((v.length:Nat):Int) nr ((v.length:Nat):Int) (λaam abd u_4=>inR ((v.length:Nat):Int) u_1&&(decide ((u_0+(Int.toNat ((v.length:Nat):Int)))<u_4.length)&&sQ4 N (u_4.getD (u_0+(Int.toNat ((v.length:Nat):Int))) 0) aam abd (λn5 n6=>inR ((v.length:Nat):Int) u_1&&(decide ((u_0+(Int.toNat ((v.length:Nat):Int)))<u_4.length)&&ah N (rX N u_0 u_1 v ((v.length:Nat):Int) (λq_3 b0=>k0 q_3 b0)) (nr,n6,(u_4.set (u_0+(Int.toNat ((v.length:Nat):Int))) n5))))))) (0,0,0,b)))
def Ew (N:Nat):Nat->Nat->LI->LI->(Ky9)->Bool:=ax N (wA N)
def ua (N u u_2 v v_2:Nat) (n:Int) (u_3 v_3:LI) (e0:Kz4):(Int × Int)->((Int × Int)->Bool)->Bool:=λv_ K=>match v_ with
 | (q,rest)=>(af .i64 (n - 2)&&(inR (n - 2) v_2&&(decide ((v+(Int.toNat (n - 2)))<v_3.length)&&GN N q (v_3.getD (v+(Int.toNat (n - 2))) 0) (λZ2 aag=>cond ((decide (Z2<rest))==false) (cond ((Z2==rest)==true) (af .i64 (n - 2)&&(inR (n - 2) u_2&&(decide ((u+(Int.toNat (n - 2)))<u_3.length)&&cond (decide (aag<=(u_3.getD (u+(Int.toNat (n - 2))) 0))) (e0 q) (af .i64 (n - 1)&&(inR (n - 1) v_2&&(decide ((v+(Int.toNat (n - 1)))<v_3.length)&&sQ2 N rest (v_3.getD (v+(Int.toNat (n - 1))) 0) 0 (λaae n5=>cond (n5 != 0) (e0 (IntKind.wrap .u64 (q - 1))) (K ((IntKind.wrap .u64 (q - 1)),aae))))))))) (af .i64 (n - 1)&&(inR (n - 1) v_2&&(decide ((v+(Int.toNat (n - 1)))<v_3.length)&&sQ2 N rest (v_3.getD (v+(Int.toNat (n - 1))) 0) 0 (λn6 n7=>cond (n7 != 0) (e0 (IntKind.wrap .u64 (q - 1))) (K ((IntKind.wrap .u64 (q - 1)),n6))))))) (e0 q)))))
def Qq (N u_0 u_1 v_0 v_1:Nat) (b ZX:LI) (k0:Kz4):Bool:=
 (inR ((v_1:Nat):Int) u_1&&(decide ((u_0+(Int.toNat ((v_1:Nat):Int)))<b.length)&&(af .i64 (((v_1:Nat):Int) - 1)&&(inR (((v_1:Nat):Int) - 1) v_1&&(decide ((v_0+(Int.toNat (((v_1:Nat):Int) - 1)))<ZX.length)&&cond (decide ((b.getD (u_0+(Int.toNat ((v_1:Nat):Int))) 0)>=(ZX.getD (v_0+(Int.toNat (((v_1:Nat):Int) - 1))) 0))) (k0 18446744073709551615) (inR ((v_1:Nat):Int) u_1&&(decide ((u_0+(Int.toNat ((v_1:Nat):Int)))<b.length)&&(af .i64 (((v_1:Nat):Int) - 1)&&(inR (((v_1:Nat):Int) - 1) u_1&&(decide ((u_0+(Int.toNat (((v_1:Nat):Int) - 1)))<b.length)&&(af .i64 (((v_1:Nat):Int) - 1)&&(inR (((v_1:Nat):Int) - 1) v_1&&(decide ((v_0+(Int.toNat (((v_1:Nat):Int) - 1)))<ZX.length)&&GM N (b.getD (u_0+(Int.toNat ((v_1:Nat):Int))) 0) (b.getD (u_0+(Int.toNat (((v_1:Nat):Int) - 1))) 0) (ZX.getD (v_0+(Int.toNat (((v_1:Nat):Int) - 1))) 0) (λnr ZY=>ah N (ua N u_0 u_1 v_0 v_1 ((v_1:Nat):Int) b ZX (λt4=>k0 t4)) (nr,ZY)))))))))))))))
def R5 (N:Nat):Nat->Nat->Nat->Nat->LI->LI->(Kz4)->Bool:=ax N (Qq N)
def gX (N u u_2 v v_2:Nat) (n q t17:Int) (v_3:LI) (e0:Int->Int->LI->Bool):(Int × Int × Int × LI)->((Int × Int × Int × LI)->Bool)->Bool:=λv_ K=>match v_ with
 | (carry,borrow,t18,u_3)=>(cond (decide (t18<t17)) (inR t18 v_2&&(decide ((v+t18.toNat)<v_3.length)&&lJ N q (v_3.getD (v+t18.toNat) 0) 0 carry (λZY Z2=>inR t18 u_2&&(decide ((u+t18.toNat)<u_3.length)&&sQ4 N (u_3.getD (u+t18.toNat) 0) Z2 borrow (λaag aae=>inR t18 u_2&&(decide ((u+t18.toNat)<u_3.length)&&(af .i64 (t18+1)&&K (ZY,aae,(t18+1),(u_3.set (u+t18.toNat) aag))))))))) (e0 carry borrow u_3))
def gY (N u_8 u_9 v_7 v_8:Nat) (n_2 q_2 aaX t60:Int) (v_9:LI) (e0:Ky9):(Int × Int × LI)->((Int × Int × LI)->Bool)->Bool:=λv_ K=>match v_ with
 | (aaT,t61,abB)=>(cond (decide (t61<t60)) (inR t61 u_9&&(decide ((u_8+t61.toNat)<abB.length)&&(inR t61 v_8&&(decide ((v_7+t61.toNat)<v_9.length)&&sQ2 N (abB.getD (u_8+t61.toNat) 0) (v_9.getD (v_7+t61.toNat) 0) aaT (λn7 n8=>inR t61 u_9&&(decide ((u_8+t61.toNat)<abB.length)&&(af .i64 (t61+1)&&K (n8,(t61+1),(abB.set (u_8+t61.toNat) n7))))))))) (e0 aaT abB))
def tZ (N u_5 u_6 v_4 v_5:Nat) (n_1:Int) (v_6:LI) (e0:Ky9):(Int × Int × LI)->((Int × Int × LI)->Bool)->Bool:=λv_ K=>match v_ with
 | (q_1,aaW,u_7)=>(cond (aaW != 0) (ah N (gY N u_5 u_6 v_4 v_5 n_1 q_1 aaW n_1 v_6 (λab_ abG=>inR n_1 u_6&&(decide ((u_5+n_1.toNat)<abG.length)&&sQ2 N (abG.getD (u_5+n_1.toNat) 0) 0 ab_ (λn9 n10=>inR n_1 u_6&&(decide ((u_5+n_1.toNat)<abG.length)&&K ((IntKind.wrap .u64 (q_1 - 1)),(IntKind.wrap .u64 (aaW - n10)),(abG.set (u_5+n_1.toNat) n9))))))) (0,0,u_7)) (e0 q_1 u_7))
def Ni (N u_0 u_1 v_0 v_1:Nat) (b ZX:LI) (k0:Ky9):Bool:=
 (R5 N u_0 u_1 v_0 v_1 b ZX (λnr=>ah N (gX N u_0 u_1 v_0 v_1 ((v_1:Nat):Int) nr ((v_1:Nat):Int) ZX (λaam abd u_4=>inR ((v_1:Nat):Int) u_1&&(decide ((u_0+(Int.toNat ((v_1:Nat):Int)))<u_4.length)&&sQ4 N (u_4.getD (u_0+(Int.toNat ((v_1:Nat):Int))) 0) aam abd (λn5 n6=>inR ((v_1:Nat):Int) u_1&&(decide ((u_0+(Int.toNat ((v_1:Nat):Int)))<u_4.length)&&ah N (tZ N u_0 u_1 v_0 v_1 ((v_1:Nat):Int) ZX (λq_3 b0=>k0 q_3 b0)) (nr,n6,(u_4.set (u_0+(Int.toNat ((v_1:Nat):Int))) n5))))))) (0,0,0,b)))
def PK (N:Nat):Nat->Nat->Nat->Nat->LI->LI->(Ky9)->Bool:=ax N (Ni N)
def wo (N x x_2:Nat) (x_3:LI) (e0:Kz4):(Int)->((Int)->Bool)->Bool:=λv_ K=>match v_ with
 | n=>(cond ((decide (n>0))==true) (af .i64 (n - 1)&&(inR (n - 1) x_2&&(decide ((x+(Int.toNat (n - 1)))<x_3.length)&&cond ((x_3.getD (x+(Int.toNat (n - 1))) 0)==0) (af .i64 (n - 1)&&K (n - 1)) (e0 n)))) (e0 n))
def qh (N x_0 x_1:Nat) (b:LI) (k0:Kz5):Bool:=
 (ah N (wo N x_0 x_1 b (λn_1=>decide (0<=n_1/\n_1<=((x_1:Nat):Int))&&k0 (n_1.toNat - 0))) ((x_1:Nat):Int))
def ra (N:Nat):Nat->Nat->LI->(Kz5)->Bool:=ax N (qh N)
def Su (N x_0 x_1:Nat) (i:Int) (b:LI) (k0:Kz4):Bool:=
 (cond (decide (i<((x_1:Nat):Int))) (inR i x_1&&(decide ((x_0+i.toNat)<b.length)&&k0 (b.getD (x_0+i.toNat) 0))) (k0 0))
def Ki (N:Nat):Nat->Nat->Int->LI->(Kz4)->Bool:=Su N
def lP (N x x_2:Nat) (words rest:Int) (t37 adx:Nat) (t38:Int) (x_3:LI) (e0:Kz4):(Int × Int)->((Int × Int)->Bool)->Bool:=λv_ K=>match v_ with
 | (lost,t39)=>(cond (decide (t39<t38)) (inR t39 adx&&(decide ((t37+t39.toNat)<x_3.length)&&(af .i64 (t39+1)&&K ((aD .or .u64 lost (x_3.getD (t37+t39.toNat) 0)),(t39+1))))) (e0 lost))
def i5 (N x_4 x_5:Nat) (abj abu acF t53:Int) (x_6:LI) (e0:Kz8):(Int × LI)->((Int × LI)->Bool)->Bool:=λv_ K=>match v_ with
 | (t54,z)=>(cond (decide (t54<t53)) (af .i64 (abj+t54)&&Ki N x_4 x_5 (abj+t54) x_6 (λnr=>decide (0<=abu)&&(af .i64 (abj+t54)&&(af .i64 ((abj+t54)+1)&&Ki N x_4 x_5 ((abj+t54)+1) x_6 (λZY=>decide (0<=(IntKind.wrap .u64 (64 - abu)))&&(inR t54 z.length&&(decide (t54.toNat<z.length)&&(af .i64 (t54+1)&&K ((t54+1),(z.set t54.toNat (aD .or .u64 (Int.fdiv nr (2 ^ (min abu.toNat 64))) (IntKind.wrap .u64 (ZY*2 ^ (min (Int.toNat (IntKind.wrap .u64 (64 - abu))) 64)))))))))))))) (e0 z))
def Jf (N x_0 x_1:Nat) (n:Int) (b:LI) (k0:LI->Bool->Bool):Bool:=
 (cond (decide ((IntKind.wrap .u64 (Int.tdiv n 64))>=(IntKind.wrap .u64 ((x_1:Nat):Int)))) (k0 [] (decide (((x_1:Nat):Int)>0))) (af .i64 (IntKind.wrap .u64 (Int.tdiv n 64))&&(inR (IntKind.wrap .u64 (Int.tdiv n 64)) x_1&&(decide ((x_0+(Int.toNat (IntKind.wrap .u64 (Int.tdiv n 64))))<b.length)&&(decide (0<=(Int.tmod n 64))&&(decide (0<=(IntKind.wrap .u64 (Int.tdiv n 64))/\(IntKind.wrap .u64 (Int.tdiv n 64))<=((x_1:Nat):Int))&&ah N (lP N x_0 x_1 (IntKind.wrap .u64 (Int.tdiv n 64)) (Int.tmod n 64) x_0 ((Int.toNat (IntKind.wrap .u64 (Int.tdiv n 64))) - 0) ((((Int.toNat (IntKind.wrap .u64 (Int.tdiv n 64))) - 0):Nat):Int) b (λadf=>af .i64 (((x_1:Nat):Int) - (IntKind.wrap .u64 (Int.tdiv n 64)))&&(gu 8 (((x_1:Nat):Int) - (IntKind.wrap .u64 (Int.tdiv n 64))) (((x_1:Nat):Int) - (IntKind.wrap .u64 (Int.tdiv n 64)))&&ah N (i5 N x_0 x_1 (IntKind.wrap .u64 (Int.tdiv n 64)) (Int.tmod n 64) adf (((List.length (List.replicate (Int.toNat (((x_1:Nat):Int) - (IntKind.wrap .u64 (Int.tdiv n 64)))) (0:Int))):Nat):Int) b (λz_1=>xh N z_1 (λmr=>decide ((0+mr)<=z_1.length)&&k0 (List.take mr (List.drop 0 z_1)) (adf != 0)))) (0,(List.replicate (Int.toNat (((x_1:Nat):Int) - (IntKind.wrap .u64 (Int.tdiv n 64)))) (0:Int)))))) ((aD .and .u64 (b.getD (x_0+(Int.toNat (IntKind.wrap .u64 (Int.tdiv n 64)))) 0) (IntKind.wrap .u64 ((IntKind.wrap .u64 ((1:Int)*2 ^ (min (Int.toNat (Int.tmod n 64)) 64))) - 1))),0)))))))
def Kh (N:Nat):Nat->Nat->Int->LI->(LI->Bool->Bool)->Bool:=ax N (Jf N)
def P8 (N:Nat) (up:Int) (u u_1:Nat) (n:Int) (e0:Kz2):(Int × LI × LI)->((Int × LI × LI)->Bool)->Bool:=λv_ K=>match v_ with
 | (j,u_2,q)=>(cond (decide (j>=0)) (af .i64 (j+n)&&(af .i64 ((j+n)+1)&&(decide (0<=j/\j<=((j+n)+1)/\((j+n)+1)<=((u_1:Nat):Int))&&Ew N (u+j.toNat) ((Int.toNat ((j+n)+1)) - j.toNat) [] u_2 (λaag s6=>inR j q.length&&(decide (j.toNat<q.length)&&(af .i64 (j - 1)&&K ((j - 1),s6,(q.set j.toNat aag)))))))) (e0 u_2 q))
def BW (N:Nat) (aeo:Int) (v v_1 u_5 u_6:Nat) (n_1:Int) (v_2:LI) (e0:Kz2):(Int × LI × LI)->((Int × LI × LI)->Bool)->Bool:=λv_ K=>match v_ with
 | (j_1,u_7,q_3)=>(cond (decide (j_1>=0)) (af .i64 (j_1+n_1)&&(af .i64 ((j_1+n_1)+1)&&(decide (0<=j_1/\j_1<=((j_1+n_1)+1)/\((j_1+n_1)+1)<=((u_6:Nat):Int))&&PK N (u_5+j_1.toNat) ((Int.toNat ((j_1+n_1)+1)) - j_1.toNat) v v_1 u_7 v_2 (λaae s7=>inR j_1 q_3.length&&(decide (j_1.toNat<q_3.length)&&(af .i64 (j_1 - 1)&&K ((j_1 - 1),s7,(q_3.set j_1.toNat aae)))))))) (e0 u_7 q_3))
def NI (N:Nat) (x y:LI) (afd:Int) (abB:Nat) (abG q_6:LI) (k0:Kz2):Bool:=
 (ra N 0 abB abG (λac6=>Kh N 0 ac6 afd abG (λs8 cr=>xh N q_6 (λadh=>decide ((0+adh)<=q_6.length)&&k0 (List.take adh (List.drop 0 q_6)) s8))))
def Nu (N:Nat) (x y:LI) (k0:Kz2):Bool:=
 (Dx N x y (λnr=>cond (decide (nr<0)) (rR N x (λnsr=>k0 [] nsr)) (cond (((y.length:Nat):Int)==1) (inR 0 y.length&&oX N x (y.getD 0 0) (λZZ ZY=>jY N ZY (λZ5=>k0 ZZ Z5))) (af .i64 (((y.length:Nat):Int) - 1)&&(inR (((y.length:Nat):Int) - 1) y.length&&RO N (y.getD (Int.toNat (((y.length:Nat):Int) - 1)) 0) (λZ2=>PX N y (IntKind.wrap .u64 Z2) (PX N x (IntKind.wrap .u64 Z2) (af .i64 (((x.length:Nat):Int)+1)&&(decide (0<=(((x.length:Nat):Int)+1)/\(((x.length:Nat):Int)+1)<=2)&&(af .i64 (((((Int.toNat (((x.length:Nat):Int)+1)) - 0):Nat):Int) - 0)&&(gu 8 (((((Int.toNat (((x.length:Nat):Int)+1)) - 0):Nat):Int) - 0) (((((Int.toNat (((x.length:Nat):Int)+1)) - 0):Nat):Int) - 0)&&(af .i64 (((((Int.toNat (((x.length:Nat):Int)+1)) - 0):Nat):Int) - 0)&&(af .i64 ((((((Int.toNat (((x.length:Nat):Int)+1)) - 0):Nat):Int) - 0) - 1)&&ah N (P8 N (IntKind.wrap .u64 Z2) 0 ((Int.toNat (((x.length:Nat):Int)+1)) - 0) 0 (λu_3 q_1=>NI N x y (IntKind.wrap .u64 Z2) ((Int.toNat (((x.length:Nat):Int)+1)) - 0) u_3 q_1 k0)) (((((((Int.toNat (((x.length:Nat):Int)+1)) - 0):Nat):Int) - 0) - 1),([]++[0,0]),(List.replicate (Int.toNat (((((Int.toNat (((x.length:Nat):Int)+1)) - 0):Nat):Int) - 0)) (0:Int))))))))) (λaaO aac=>decide ((0+aaO)<=aac.length)&&(decide ((List.length ((List.take aaO (List.drop 0 aac))++[0,0]))*8<=140737488355328)&&(af .i64 (((x.length:Nat):Int)+1)&&(decide (0<=(((x.length:Nat):Int)+1)/\(((x.length:Nat):Int)+1)<=(((List.length ((List.take aaO (List.drop 0 aac))++[0,0])):Nat):Int))&&(af .i64 (((((Int.toNat (((x.length:Nat):Int)+1)) - 0):Nat):Int) - 0)&&(gu 8 (((((Int.toNat (((x.length:Nat):Int)+1)) - 0):Nat):Int) - 0) (((((Int.toNat (((x.length:Nat):Int)+1)) - 0):Nat):Int) - 0)&&(af .i64 (((((Int.toNat (((x.length:Nat):Int)+1)) - 0):Nat):Int) - 0)&&(af .i64 ((((((Int.toNat (((x.length:Nat):Int)+1)) - 0):Nat):Int) - 0) - 1)&&ah N (P8 N (IntKind.wrap .u64 Z2) 0 ((Int.toNat (((x.length:Nat):Int)+1)) - 0) 0 (λu_4 q_2=>NI N x y (IntKind.wrap .u64 Z2) ((Int.toNat (((x.length:Nat):Int)+1)) - 0) u_4 q_2 k0)) (((((((Int.toNat (((x.length:Nat):Int)+1)) - 0):Nat):Int) - 0) - 1),((List.take aaO (List.drop 0 aac))++[0,0]),(List.replicate (Int.toNat (((((Int.toNat (((x.length:Nat):Int)+1)) - 0):Nat):Int) - 0)) (0:Int)))))))))))) (λmr Z6=>PX N x (IntKind.wrap .u64 Z2) (af .i64 (((x.length:Nat):Int)+1)&&(decide (0<=(((x.length:Nat):Int)+1)/\(((x.length:Nat):Int)+1)<=2)&&(af .i64 (((((Int.toNat (((x.length:Nat):Int)+1)) - 0):Nat):Int) - ((mr:Nat):Int))&&(gu 8 (((((Int.toNat (((x.length:Nat):Int)+1)) - 0):Nat):Int) - ((mr:Nat):Int)) (((((Int.toNat (((x.length:Nat):Int)+1)) - 0):Nat):Int) - ((mr:Nat):Int))&&(af .i64 (((((Int.toNat (((x.length:Nat):Int)+1)) - 0):Nat):Int) - ((mr:Nat):Int))&&(af .i64 ((((((Int.toNat (((x.length:Nat):Int)+1)) - 0):Nat):Int) - ((mr:Nat):Int)) - 1)&&ah N (BW N (IntKind.wrap .u64 Z2) 0 mr 0 ((Int.toNat (((x.length:Nat):Int)+1)) - 0) ((mr:Nat):Int) Z6 (λu_8 q_4=>NI N x y (IntKind.wrap .u64 Z2) ((Int.toNat (((x.length:Nat):Int)+1)) - 0) u_8 q_4 k0)) (((((((Int.toNat (((x.length:Nat):Int)+1)) - 0):Nat):Int) - ((mr:Nat):Int)) - 1),([]++[0,0]),(List.replicate (Int.toNat (((((Int.toNat (((x.length:Nat):Int)+1)) - 0):Nat):Int) - ((mr:Nat):Int))) (0:Int))))))))) (λaan Z_=>decide ((0+aan)<=Z_.length)&&(decide ((List.length ((List.take aan (List.drop 0 Z_))++[0,0]))*8<=140737488355328)&&(af .i64 (((x.length:Nat):Int)+1)&&(decide (0<=(((x.length:Nat):Int)+1)/\(((x.length:Nat):Int)+1)<=(((List.length ((List.take aan (List.drop 0 Z_))++[0,0])):Nat):Int))&&(af .i64 (((((Int.toNat (((x.length:Nat):Int)+1)) - 0):Nat):Int) - ((mr:Nat):Int))&&(gu 8 (((((Int.toNat (((x.length:Nat):Int)+1)) - 0):Nat):Int) - ((mr:Nat):Int)) (((((Int.toNat (((x.length:Nat):Int)+1)) - 0):Nat):Int) - ((mr:Nat):Int))&&(af .i64 (((((Int.toNat (((x.length:Nat):Int)+1)) - 0):Nat):Int) - ((mr:Nat):Int))&&(af .i64 ((((((Int.toNat (((x.length:Nat):Int)+1)) - 0):Nat):Int) - ((mr:Nat):Int)) - 1)&&ah N (BW N (IntKind.wrap .u64 Z2) 0 mr 0 ((Int.toNat (((x.length:Nat):Int)+1)) - 0) ((mr:Nat):Int) Z6 (λu_9 q_5=>NI N x y (IntKind.wrap .u64 Z2) ((Int.toNat (((x.length:Nat):Int)+1)) - 0) u_9 q_5 k0)) (((((((Int.toNat (((x.length:Nat):Int)+1)) - 0):Nat):Int) - ((mr:Nat):Int)) - 1),((List.take aan (List.drop 0 Z_))++[0,0]),(List.replicate (Int.toNat (((((Int.toNat (((x.length:Nat):Int)+1)) - 0):Nat):Int) - ((mr:Nat):Int))) (0:Int))))))))))))))))))
def BL (N:Nat):LI->LI->(Kz2)->Bool:=ax N (Nu N)
def CG (N:Nat) (x:LI) (k0:Kz4):Bool:=
 (zn N x 0 (λnr=>k0 nr))
def uQ (N:Nat):LI->(Kz4)->Bool:=CG N
def Hg (N:Nat) (e0:Kz2):(LI × LI)->((LI × LI)->Bool)->Bool:=λv_ K=>match v_ with
 | (x_2,y_2)=>(cond (decide (((y_2.length:Nat):Int)>1)) (q_ N x_2 (λZY=>af .i64 (ZY - 64)&&uR N x_2 (ZY - 64) (λZ2=>uR N y_2 (ZY - 64) (λaag=>tH N Z2 aag (λaae n5 n6 n7 cr=>cond (n5 != 0) (d_ N aae n5 n6 n7 cr x_2 y_2 (λnsr ZZ=>K (nsr,ZZ))) (BL N x_2 y_2 (λZ5 Z6=>K (y_2,Z6)))))))) (e0 x_2 y_2))
def fu (N:Nat) (e0:Kz4):(Int × Int)->((Int × Int)->Bool)->Bool:=λv_ K=>match v_ with
 | (a,b)=>(cond (decide (b>0)) ((!decide (b=0))&&K (b,(Int.tmod a b))) (e0 a))
def yI (N:Nat) (x y x_4 y_4:LI) (k0:Kz8):Bool:=
 (cond (((y_4.length:Nat):Int)==0) (k0 x_4) (uQ N x_4 (λn8=>uQ N y_4 (λn9=>ah N (fu N (λZ4=>jY N Z4 (λs6=>k0 s6))) (n8,n9)))))
def Qr (N:Nat) (x y x_1 y_1:LI) (k0:Kz8):Bool:=
 (ah N (Hg N (λx_3 y_3=>cond ((decide (((y_3.length:Nat):Int)>0))==true) (cond (decide (((x_3.length:Nat):Int)>1)) (BL N x_3 y_3 (λaac Z_=>yI N x y y_3 Z_ k0)) (yI N x y x_3 y_3 k0)) (yI N x y x_3 y_3 k0))) (x_1,y_1))
def TA (N:Nat) (x y:LI) (k0:Kz8):Bool:=
 (Dx N x y (λnr=>cond (decide (nr<0)) (Qr N x y y x k0) (Qr N x y x y k0)))
def CA (N:Nat):LI->LI->(Kz8)->Bool:=ax N (TA N)
def Qk (N:Nat) (neg:Bool) (abs:LI) (b ZX:Bool) (k0:Ky4):Bool:=
 (cond (neg==true) (k0 (decide (((abs.length:Nat):Int)>0)) []) (k0 false []))
def Ml (N:Nat):Bool->LI->Bool->Bool->(Ky4)->Bool:=Qk N
def Tz (N:Nat) (neg:Bool) (abs:LI) (b:Bool) (ZX:LI) (Z3:Bool) (b_3:LI) (k0:Kz3):Bool:=
 (cond (neg==true) (k0 (decide (((abs.length:Nat):Int)>0))) (k0 false))
def RW (N:Nat):Bool->LI->Bool->LI->Bool->LI->(Kz3)->Bool:=Tz N
def Jj (N:Nat) (neg:Bool) (a b:LI) (ZX Z3:Bool) (Z4 b_3:LI) (k0:Kx5):Bool:=
 (rR N Z4 (λZ_=>Ml N neg Z_ ZX Z3 (λcr s6=>rR N b_3 (λs7=>RW N false s7 cr Z_ Z3 s6 (λZ1=>k0 cr Z_ Z1 s7)))))
def TI (N:Nat) (neg:Bool) (a b:LI) (ZX Z3:Bool) (k0:Kx5):Bool:=
 (CA N a b (λnsr=>Dx N nsr [1] (λnr=>cond (nr != 0) (BL N a nsr (λZZ Z5=>BL N b nsr (λZ6 aac=>Jj N neg a b ZX Z3 ZZ Z6 k0))) (Jj N neg a b ZX Z3 a b k0))))
def Wo (N:Nat):Bool->LI->LI->Bool->Bool->(Kx5)->Bool:=ax N (TI N)
def Tg (N:Nat) (b ZX Z3:Bool) (b_3:LI) (b_4:Bool) (b_5:LI) (k0:Kx5):Bool:=
 (Wo N (Z3 != b_4) b_3 b_5 b ZX (λcr nsr Z1 ZZ=>k0 cr nsr Z1 ZZ))
def RK (N:Nat):Bool->Bool->Bool->LI->Bool->LI->(Kx5)->Bool:=Tg N
def kP (N:Nat) (y_2:LI) (i a:Int) (adr:LI) (ads adt:Int) (t32:LI) (t33:Int) (e0:Ky9):(Int × Int × LI)->((Int × Int × LI)->Bool)->Bool:=λv_ K=>match v_ with
 | (carry,t34,z_1)=>(cond (decide (t34<t33)) (inR t34 t32.length&&(af .i64 (i+t34)&&(af .i64 (i+t34)&&(inR (i+t34) z_1.length&&(decide ((Int.toNat (i+t34))<z_1.length)&&lJ N a (t32.getD t34.toNat 0) (z_1.getD (Int.toNat (i+t34)) 0) carry (λnr ZY=>inR (i+t34) z_1.length&&(decide ((Int.toNat (i+t34))<z_1.length)&&(af .i64 (t34+1)&&K (nr,(t34+1),(z_1.set (Int.toNat (i+t34)) ZY)))))))))) (e0 carry z_1))
def kO (N:Nat) (y_1 t25:LI) (t26:Int) (e0:Kz8):(Int × LI)->((Int × LI)->Bool)->Bool:=λv_ K=>match v_ with
 | (t27,z)=>(cond (decide (t27<t26)) (inR t27 t25.length&&ah N (kP N y_1 t27 (t25.getD t27.toNat 0) t25 t26 t27 y_1 ((y_1.length:Nat):Int) (λaam z_2=>af .i64 (t27+((y_1.length:Nat):Int))&&(inR (t27+((y_1.length:Nat):Int)) z_2.length&&(decide ((Int.toNat (t27+((y_1.length:Nat):Int)))<z_2.length)&&(af .i64 (t27+1)&&K ((t27+1),(z_2.set (Int.toNat (t27+((y_1.length:Nat):Int))) aam))))))) (0,0,z)) (e0 z))
def TX (N:Nat) (x y:LI) (k0:Kz8):Bool:=
 (cond ((((x.length:Nat):Int)==0)==false) (cond (((y.length:Nat):Int)==0) (k0 []) (af .i64 (((x.length:Nat):Int)+((y.length:Nat):Int))&&(gu 8 (((x.length:Nat):Int)+((y.length:Nat):Int)) (((x.length:Nat):Int)+((y.length:Nat):Int))&&ah N (kO N y x ((x.length:Nat):Int) (λz_3=>xh N z_3 (λmr=>decide ((0+mr)<=z_3.length)&&k0 (List.take mr (List.drop 0 z_3))))) (0,(List.replicate (Int.toNat (((x.length:Nat):Int)+((y.length:Nat):Int))) (0:Int)))))) (k0 []))
def zM (N:Nat):LI->LI->(Kz8)->Bool:=ax N (TX N)
def Xi (N:Nat) (b:Bool) (ZX:LI) (Z3:Bool) (b_3:LI) (k0:Ky4):Bool:=
 (zM N ZX b_3 (λnsr=>Mr N (b != Z3) nsr b ZX (λcr=>k0 cr nsr)))
def XP (N:Nat):Bool->LI->Bool->LI->(Ky4)->Bool:=Xi N
def Se (N:Nat) (neg b:Bool) (ZX:LI) (Z3:Bool) (b_3 b_4:LI) (k0:Kz3):Bool:=
 (cond (neg==true) (k0 (decide (((b_4.length:Nat):Int)>0))) (k0 false))
def SO (N:Nat):Bool->Bool->LI->Bool->LI->LI->(Kz3)->Bool:=Se N
def TO (N:Nat) (neg:Bool) (a:LI) (b ZX:Bool) (Z3:LI) (k0:Ky3):Bool:=
 (Ml N neg a b ZX (λcr nsr=>SO N false cr a ZX nsr Z3 (λZ1=>k0 cr Z1)))
def XM (N:Nat):Bool->LI->Bool->Bool->LI->(Ky3)->Bool:=ax N (TO N)
def W5 (N:Nat) (b ZX Z3:Bool) (b_3:LI) (k0:Kx5):Bool:=
 (rR N b_3 (λnsr=>XM N Z3 nsr b ZX [1] (λcr Z1=>k0 cr nsr Z1 [1])))
def Wj (N:Nat):Bool->Bool->Bool->LI->(Kx5)->Bool:=W5 N
def cd (N:Nat) (x:Fl) (p:Bool) (p_1 p_2:Int) (n:Bool) (n_1:LI) (k0:Kx5):Bool:=
 (GW N 1 (λaay Z5=>af .i64 (0 - p_2)&&Wr N (IntKind.wrap .u64 (imm true p_2 (0 - p_2))) false aay Z5 (λabF Z6=>cond (decide (p_2<0)) (RK N false false n n_1 abF Z6 (λaca aac acD Z_=>k0 aca aac acD Z_)) (XP N n n_1 abF Z6 (λacE s6=>Wj N false false acE s6 (λc8 s7 c9 s8=>k0 c8 s7 c9 s8))))))
def jU (N:Nat) (x:Fl) (k0:Kx5):Bool:=
 (q9 N x (λcr nr ZY Z2=>cX N (Z2==0) 4 (RL N nr false (λZ1 nsr=>cond cr (RV N Z1 nsr (λaaj ZZ=>cd N x cr nr ZY aaj ZZ k0)) (cd N x cr nr ZY Z1 nsr k0)))))
def j4 (N:Nat):Fl->(Kx5)->Bool:=ax N (jU N)
def dq (N:Nat) (acU:LF) (ado aaw aax g_2 g_3:Int) (e0:List RY0->Bool):(Int × List RY0)->((Int × List RY0)->Bool)->Bool:=λv_ K=>match v_ with
 | (acm,b2)=>(cond (decide (acm<ado)) (inR acm acU.length&&j4 N (acU.getD acm.toNat none) (λaaj Z5 aay Z6=>decide ((List.length (b2++[((aaj,Z5),(aay,Z6))]))*8<=140737488355328)&&(af .i64 (acm+1)&&K ((acm+1),(b2++[((aaj,Z5),(aay,Z6))]))))) (e0 b2))
def jg (N:Nat) (m_0 Z0:Int) (Z7:LF) (k0:List RY0->Bool):Bool:=
 (we N m_0 Z0 Z7 (λnr=>cX N (nr==0) nr (ah N (dq N Z7 ((Z7.length:Nat):Int) 0 0 m_0 Z0 (λ(abg:List RY0)=>k0 abg)) (0,[]))))
def jj (N:Nat):Int->Int->LF->(List RY0->Bool)->Bool:=ax N (jg N)
def eO (N:Nat) (g_0 g_1 i j:Int) (b:List RY0) (k0:Kx5):Bool:=
 (af .i64 (i*g_1)&&(af .i64 ((i*g_1)+j)&&(inR ((i*g_1)+j) b.length&&(decide ((Int.toNat ((i*g_1)+j))<b.length)&&k0 (b.getD (Int.toNat ((i*g_1)+j)) ((false,[]),(false,[]))).1.1 (b.getD (Int.toNat ((i*g_1)+j)) ((false,[]),(false,[]))).1.2 (b.getD (Int.toNat ((i*g_1)+j)) ((false,[]),(false,[]))).2.1 (b.getD (Int.toNat ((i*g_1)+j)) ((false,[]),(false,[]))).2.2))))
def be (N:Nat):Int->Int->Int->Int->List RY0->(Kx5)->Bool:=ax N (eO N)
def W3 (N:Nat) (x_0:Bool) (x_1:LI) (x_2:Bool) (x_3:LI) (k0:Kz8):Bool:=
 (cond (((x_3.length:Nat):Int)==0) (k0 [1]) (k0 x_3))
def Cy (N:Nat):Bool->LI->Bool->LI->(Kz8)->Bool:=W3 N
def Tq (N:Nat) (neg:Bool) (a b:LI) (ZX Z3:Bool) (k0:Ky3):Bool:=
 (Ml N neg a ZX Z3 (λcr nsr=>RW N false b cr a Z3 nsr (λZ1=>k0 cr Z1)))
def Mo (N:Nat):Bool->LI->LI->Bool->Bool->(Ky3)->Bool:=ax N (Tq N)
def TS (N:Nat) (x_0:Bool) (x_1:LI) (x_2:Bool) (x_3:LI) (b ZX:Bool) (k0:Kx5):Bool:=
 (rR N x_1 (λnsr=>Cy N x_0 x_1 x_2 x_3 (λZZ=>rR N ZZ (λZ5=>Mo N (!x_0) nsr Z5 b ZX (λcr Z1=>k0 cr nsr Z1 Z5)))))
def Wy (N:Nat):Bool->LI->Bool->LI->Bool->Bool->(Kx5)->Bool:=ax N (TS N)
def Xd (N:Nat) (b:Bool) (ZX:LI) (Z3:Bool) (b_3:LI) (k0:Kz8):Bool:=
 (cond (((b_3.length:Nat):Int)==0) (k0 [1]) (k0 b_3))
def Ws (N:Nat):Bool->LI->Bool->LI->(Kz8)->Bool:=Xd N
def nj (N:Nat) (x y:LI) (k0:Kz8):Bool:=
 (BL N x y (λnsr ZZ=>k0 nsr))
def MN (N:Nat) (x y:LI) (k0:Kz8):Bool:=
 (cond ((((y.length:Nat):Int)==1)==true) (inR 0 y.length&&cond ((y.getD 0 0)==1) (k0 x) (nj N x y k0)) (nj N x y k0))
def ol (N:Nat):LI->LI->(Kz8)->Bool:=ax N (MN N)
def nv (N:Nat) (x_1 y_1:LI) (n t17:Int) (e0:Ky9):(Int × Int × LI)->((Int × Int × LI)->Bool)->Bool:=λv_ K=>match v_ with
 | (carry,t18,z)=>(cond (decide (t18<t17)) (zn N x_1 t18 (λnr=>zn N y_1 t18 (λZY=>sQ2 N nr ZY carry (λZ2 aag=>inR t18 z.length&&(decide (t18.toNat<z.length)&&(af .i64 (t18+1)&&K (aag,(t18+1),(z.set t18.toNat Z2)))))))) (e0 carry z))
def xy (N:Nat) (x y:LI) (k0:Kz8):Bool:=
 (af .i64 ((imm true ((x.length:Nat):Int) ((y.length:Nat):Int))+1)&&(gu 8 ((imm true ((x.length:Nat):Int) ((y.length:Nat):Int))+1) ((imm true ((x.length:Nat):Int) ((y.length:Nat):Int))+1)&&ah N (nv N x y (imm true ((x.length:Nat):Int) ((y.length:Nat):Int)) (imm true ((x.length:Nat):Int) ((y.length:Nat):Int)) (λaam z_1=>inR (imm true ((x.length:Nat):Int) ((y.length:Nat):Int)) z_1.length&&(decide ((Int.toNat (imm true ((x.length:Nat):Int) ((y.length:Nat):Int)))<z_1.length)&&xh N (z_1.set (Int.toNat (imm true ((x.length:Nat):Int) ((y.length:Nat):Int))) aam) (λmr=>decide ((0+mr)<=(List.length (z_1.set (Int.toNat (imm true ((x.length:Nat):Int) ((y.length:Nat):Int))) aam)))&&k0 (List.take mr (List.drop 0 (z_1.set (Int.toNat (imm true ((x.length:Nat):Int) ((y.length:Nat):Int))) aam))))))) (0,0,(List.replicate (Int.toNat ((imm true ((x.length:Nat):Int) ((y.length:Nat):Int))+1)) (0:Int)))))
def yo (N:Nat):LI->LI->(Kz8)->Bool:=ax N (xy N)
def Tu (N:Nat) (neg:Bool) (y:LI) (b:Bool) (ZX:LI) (k0:Ky4):Bool:=
 (cond (b==neg) (yo N ZX y (λnsr=>Mr N neg nsr b ZX (λcr=>k0 cr nsr))) (Dx N ZX y (λnr=>cond (decide (nr>=0)) (zp N ZX y (λZZ=>Mr N b ZZ b ZX (λZ1=>k0 Z1 ZZ))) (zp N y ZX (λZ5=>Mr N neg Z5 b ZX (λaaj=>k0 aaj Z5))))))
def RQ (N:Nat):Bool->LI->Bool->LI->(Ky4)->Bool:=ax N (Tu N)
def Ts (N:Nat) (x_0:Bool) (x_1:LI) (x_2:Bool) (x_3:LI) (b ZX Z3:Bool) (b_3:LI) (b_4:Bool) (b_5:LI) (k0:Kx5):Bool:=
 (Cy N x_0 x_1 x_2 x_3 (λnsr=>Ws N Z3 b_3 b_4 b_5 (λZZ=>CA N nsr ZZ (λZ5=>ol N nsr Z5 (λZ6=>ol N ZZ Z5 (λaac=>zM N x_1 aac (λZ_=>Eu N x_0 Z_ false (λcr=>zM N b_3 Z6 (λs6=>RQ N Z3 s6 cr Z_ (λZ1 s7=>CA N s7 Z5 (λs8=>ol N s7 s8 (λs9=>rR N s9 (λs10=>ol N ZZ s8 (λs11=>zM N Z6 s11 (λaba=>Mo N Z1 s10 aba b ZX (λaaj aay=>k0 aaj s10 aay aba))))))))))))))))
def Wh (N:Nat):Bool->LI->Bool->LI->Bool->Bool->Bool->LI->Bool->LI->(Kx5)->Bool:=ax N (Ts N)
def MV (N:Nat) (x_0:Bool) (x_1:LI) (x_2:Bool) (x_3:LI) (y_0:Bool) (y_1:LI) (y_2:Bool) (y_3:LI) (b ZX:Bool) (k0:Kx5):Bool:=
 (Wy N y_0 y_1 y_2 y_3 false false (λcr nsr Z1 ZZ=>Wh N x_0 x_1 x_2 x_3 b ZX cr nsr Z1 ZZ (λaaj Z5 aay Z6=>k0 aaj Z5 aay Z6)))
def SS (N:Nat):Bool->LI->Bool->LI->Bool->LI->Bool->LI->Bool->Bool->(Kx5)->Bool:=ax N (MV N)
def jm (N:Nat) (x_0:Bool) (x_1:LI) (x_2:Bool) (x_3:LI) (y_0:Bool) (y_1:LI) (y_2:Bool) (y_3:LI) (k0:Kx5):Bool:=
 (SS N x_0 x_1 x_2 x_3 y_0 y_1 y_2 y_3 false false (λcr nsr Z1 ZZ=>k0 cr nsr Z1 ZZ))
def cI (N:Nat):Bool->LI->Bool->LI->Bool->LI->Bool->LI->(Kx5)->Bool:=jm N
def NA (N:Nat) (x_0:Bool) (x_1:LI) (x_2:Bool) (x_3:LI) (k0:Kz4):Bool:=
 (cond x_0 (k0 (-1)) (cond (((x_1.length:Nat):Int)==0) (k0 0) (k0 1)))
def SZ (N:Nat):Bool->LI->Bool->LI->(Kz4)->Bool:=ax N (NA N)
def r_ (N:Nat) (x_0:Bool) (x_1:LI) (x_2:Bool) (x_3:LI) (k0:Kz4):Bool:=
 (SZ N x_0 x_1 x_2 x_3 (λnr=>k0 nr))
def tG (N:Nat):Bool->LI->Bool->LI->(Kz4)->Bool:=r_ N
def jq (N:Nat) (x_0:Bool) (x_1:LI) (x_2:Bool) (x_3:LI) (k0:Kz4):Bool:=
 (tG N x_0 x_1 x_2 x_3 (λnr=>k0 nr))
def bv (N:Nat):Bool->LI->Bool->LI->(Kz4)->Bool:=jq N
def bJ (N:Nat) (i ael aa0 t9:Int) (aa8:List RY0) (g_3 g_4:Int) (e0:Bool):(Int)->((Int)->Bool)->Bool:=λv_ K=>match v_ with
 | t10=>(cond (decide (t10<t9)) (be N g_3 g_4 i t10 aa8 (λcr nsr Z1 ZZ=>be N g_3 g_4 t10 i aa8 (λaaj Z5 aay Z6=>cI N cr nsr Z1 ZZ aaj Z5 aay Z6 (λabF aac aca Z_=>bv N abF aac aca Z_ (λnr=>cX N (nr==0) 112 (af .i64 (t10+1)&&K (t10+1))))))) e0)
def bI (N:Nat) (t5:Int) (b0:List RY0) (g g_2:Int) (e0:Bool):(Int)->((Int)->Bool)->Bool:=λv_ K=>match v_ with
 | t6=>(cond (decide (t6<t5)) (ah N (bJ N t6 t5 t6 t6 b0 g g_2 (af .i64 (t6+1)&&K (t6+1))) 0) e0)
def cJ (N:Nat) (g_0 g_1:Int) (b:List RY0) (k0:Bool):Bool:=
 (ah N (bI N g_0 b g_0 g_1 k0) 0)
def cS (N:Nat):Int->Int->List RY0->(Bool)->Bool:=ax N (cJ N)
def qf (N:Nat) (a b:Int) (k0:Kx5):Bool:=
 (GW N a (λcr nsr=>GW N b (λZ1 ZZ=>RK N false false cr nsr Z1 ZZ (λaaj Z5 aay Z6=>k0 aaj Z5 aay Z6))))
def xi (N:Nat):Int->Int->(Kx5)->Bool:=ax N (qf N)
def px (N:Nat) (n:Int) (k0:Kx5):Bool:=
 (xi N n 1 (λcr nsr Z1 ZZ=>k0 cr nsr Z1 ZZ))
def lK (N:Nat):Int->(Kx5)->Bool:=px N
def Tn (N:Nat) (neg:Bool) (a b c d:LI) (ZX Z3:Bool) (k0:Kx5):Bool:=
 (CA N a d (λnsr=>CA N c b (λZZ=>ol N a nsr (λZ5=>ol N c ZZ (λZ6=>zM N Z5 Z6 (λaac=>ol N b ZZ (λZ_=>ol N d nsr (λs6=>zM N Z_ s6 (λs7=>Mo N neg aac s7 ZX Z3 (λcr Z1=>k0 cr aac Z1 s7))))))))))
def RM (N:Nat):Bool->LI->LI->LI->LI->Bool->Bool->(Kx5)->Bool:=ax N (Tn N)
def MU (N:Nat) (x_0:Bool) (x_1:LI) (x_2:Bool) (x_3:LI) (y_0:Bool) (y_1:LI) (y_2:Bool) (y_3:LI) (b ZX:Bool) (k0:Kx5):Bool:=
 (Cy N x_0 x_1 x_2 x_3 (λnsr=>Cy N y_0 y_1 y_2 y_3 (λZZ=>RM N (x_0 != y_0) x_1 nsr ZZ y_1 b ZX (λcr Z5 Z1 Z6=>k0 cr Z5 Z1 Z6))))
def SR (N:Nat):Bool->LI->Bool->LI->Bool->LI->Bool->LI->Bool->Bool->(Kx5)->Bool:=ax N (MU N)
def jo (N:Nat) (x_0:Bool) (x_1:LI) (x_2:Bool) (x_3:LI) (y_0:Bool) (y_1:LI) (y_2:Bool) (y_3:LI) (k0:Kx5):Bool:=
 (SR N x_0 x_1 x_2 x_3 y_0 y_1 y_2 y_3 false false (λcr nsr Z1 ZZ=>k0 cr nsr Z1 ZZ))
def eA (N:Nat):Bool->LI->Bool->LI->Bool->LI->Bool->LI->(Kx5)->Bool:=jo N
def MT (N:Nat) (x_0:Bool) (x_1:LI) (x_2:Bool) (x_3:LI) (y_0:Bool) (y_1:LI) (y_2:Bool) (y_3:LI) (b ZX:Bool) (k0:Kx5):Bool:=
 (Cy N x_0 x_1 x_2 x_3 (λnsr=>Cy N y_0 y_1 y_2 y_3 (λZZ=>RM N (x_0 != y_0) x_1 nsr y_1 ZZ b ZX (λcr Z5 Z1 Z6=>k0 cr Z5 Z1 Z6))))
def SQ (N:Nat):Bool->LI->Bool->LI->Bool->LI->Bool->LI->Bool->Bool->(Kx5)->Bool:=ax N (MT N)
def jb (N:Nat) (x_0:Bool) (x_1:LI) (x_2:Bool) (x_3:LI) (y_0:Bool) (y_1:LI) (y_2:Bool) (y_3:LI) (k0:Kx5):Bool:=
 (SQ N x_0 x_1 x_2 x_3 y_0 y_1 y_2 y_3 false false (λcr nsr Z1 ZZ=>k0 cr nsr Z1 ZZ))
def dN (N:Nat):Bool->LI->Bool->LI->Bool->LI->Bool->LI->(Kx5)->Bool:=jb N
def Qm (N:Nat) (x_0:Bool) (x_1:LI) (x_2:Bool) (x_3:LI) (y_0:Bool) (y_1:LI) (y_2:Bool) (y_3:LI) (b ZX:Bool) (k0:Kx5):Bool:=
 (Cy N x_0 x_1 x_2 x_3 (λnsr=>Cy N y_0 y_1 y_2 y_3 (λZZ=>CA N nsr ZZ (λZ5=>ol N nsr Z5 (λZ6=>ol N ZZ Z5 (λaac=>zM N x_1 aac (λZ_=>Eu N x_0 Z_ false (λcr=>zM N y_1 Z6 (λs6=>RQ N y_0 s6 cr Z_ (λZ1 s7=>CA N s7 Z5 (λs8=>ol N s7 s8 (λs9=>rR N s9 (λs10=>ol N ZZ s8 (λs11=>zM N Z6 s11 (λaba=>Mo N Z1 s10 aba b ZX (λaaj aay=>k0 aaj s10 aay aba))))))))))))))))
def RU (N:Nat):Bool->LI->Bool->LI->Bool->LI->Bool->LI->Bool->Bool->(Kx5)->Bool:=ax N (Qm N)
def jp (N:Nat) (x_0:Bool) (x_1:LI) (x_2:Bool) (x_3:LI) (y_0:Bool) (y_1:LI) (y_2:Bool) (y_3:LI) (k0:Kx5):Bool:=
 (RU N x_0 x_1 x_2 x_3 y_0 y_1 y_2 y_3 false false (λcr nsr Z1 ZZ=>k0 cr nsr Z1 ZZ))
def eB (N:Nat):Bool->LI->Bool->LI->Bool->LI->Bool->LI->(Kx5)->Bool:=jp N
def j6 (N:Nat) (g_0 g_1 i j:Int) (x_0:Bool) (x_1:LI) (x_2:Bool) (x_3:LI) (b:List RY0) (k0:List RY0->Bool):Bool:=
 (af .i64 (i*g_1)&&(af .i64 ((i*g_1)+j)&&(inR ((i*g_1)+j) b.length&&(decide ((Int.toNat ((i*g_1)+j))<b.length)&&k0 (b.set (Int.toNat ((i*g_1)+j)) ((x_0,x_1),(x_2,x_3)))))))
def ft (N:Nat):Int->Int->Int->Int->Bool->LI->Bool->LI->List RY0->(List RY0->Bool)->Bool:=j6 N
def co (N:Nat) (i_1 aaY t10 g g_2:Int) (x:Bool) (x_4:LI) (x_5:Bool) (x_6:LI) (e0:List RY0->Bool):(Int × List RY0)->((Int × List RY0)->Bool)->Bool:=λv_ K=>match v_ with
 | (t11,b0)=>(cond (decide (t11<t10)) (be N g g_2 i_1 t11 b0 (λcr nsr Z1 ZZ=>be N g g_2 aaY t11 b0 (λaaj Z5 aay Z6=>dN N aaj Z5 aay Z6 x x_4 x_5 x_6 (λabF aac aca Z_=>eB N cr nsr Z1 ZZ abF aac aca Z_ (λacD s6 acE s7=>ft N g g_2 i_1 t11 acD s6 acE s7 b0 (λ(lr:List RY0)=>af .i64 (t11+1)&&K ((t11+1),lr))))))) (e0 b0))
def eK (N:Nat) (g_0 g_1 i k_:Int) (x_0:Bool) (x_1:LI) (x_2:Bool) (x_3:LI) (b:List RY0) (k0:List RY0->Bool):Bool:=
 (ah N (co N i k_ g_1 g_0 g_1 x_0 x_1 x_2 x_3 (λ(aa8:List RY0)=>k0 aa8)) (0,b))
def fq (N:Nat):Int->Int->Int->Int->Bool->LI->Bool->LI->List RY0->(List RY0->Bool)->Bool:=ax N (eK N)
def aB (N:Nat) (s_1 k_ acq adm g_3 g_4:Int) (p:Bool) (p_1:LI) (p_2:Bool) (p_3:LI) (e0:Int->List RY0->Bool) (e1:List RY0->Bool):(Int × List RY0)->((Int × List RY0)->Bool)->Bool:=λv_ K=>match v_ with
 | (i,aa8)=>(cond (decide (i<g_3)) (be N g_3 g_4 i k_ aa8 (λaaj Z5 aay Z6=>bv N aaj Z5 aay Z6 (λZY=>cond (ZY==0) (af .i64 (i+1)&&K ((i+1),aa8)) (bv N p p_1 p_2 p_3 (λZ2=>cond (Z2==0) (e0 1 aa8) (lK N 0 (λabF aac aca Z_=>eA N aaj Z5 aay Z6 p p_1 p_2 p_3 (λacD s6 acE s7=>cI N abF aac aca Z_ acD s6 acE s7 (λc8 s8 c9 s9=>fq N g_3 g_4 i k_ c8 s8 c9 s9 aa8 (λ(lr:List RY0)=>af .i64 (i+1)&&K ((i+1),lr))))))))))) (e1 aa8))
def aO (N:Nat) (t9 g g_2:Int) (e0:Int->List RY0->Bool) (e1:Int->List RY0->Bool):(Int × Int × List RY0)->((Int × Int × List RY0)->Bool)->Bool:=λv_ K=>match v_ with
 | (s,t10,b0)=>(cond (decide (t10<t9)) (be N g g_2 t10 t10 b0 (λcr nsr Z1 ZZ=>bv N cr nsr Z1 ZZ (λnr=>cond (decide (nr<0)) (e0 1 b0) (af .i64 (t10+1)&&ah N (aB N s t10 t9 t10 g g_2 cr nsr Z1 ZZ (λ(t2:Int) (ae1:List RY0)=>e0 t2 ae1) (λ(acz:List RY0)=>bv N cr nsr Z1 ZZ (λaag=>cond (aag==0) (af .i64 (t10+1)&&K (2,(t10+1),acz)) (af .i64 (t10+1)&&K (s,(t10+1),acz))))) ((t10+1),b0))))) (e1 s b0))
def db (N:Nat) (g_0 g_1:Int) (b:List RY0) (k0:Int->List RY0->Bool):Bool:=
 (ah N (aO N g_0 g_0 g_1 (λ(aai:Int) (ac0:List RY0)=>k0 aai ac0) (λ(s_2:Int) (ac1:List RY0)=>k0 s_2 ac1)) (3,0,b))
def gA (N:Nat):Int->Int->List RY0->(Int->List RY0->Bool)->Bool:=ax N (db N)
def jl (N:Nat) (g_0 g_1:Int) (b:List RY0) (k0:Int->List RY0->Bool):Bool:=
 (cX N (g_0==g_1) 3 (cS N g_0 g_1 b (gA N g_0 g_1 b (λ(nr:Int) (lr:List RY0)=>k0 nr lr))))
def eu (N:Nat):Int->Int->List RY0->(Int->List RY0->Bool)->Bool:=jl N
def jT (N:Nat) (m_0 Z0:Int) (Z7:LF) (k0:Ky5):Bool:=
 (jj N m_0 Z0 Z7 (λ(lr:List RY0)=>eu N m_0 Z0 lr (λ(nr:Int) (aeF:List RY0)=>k0 nr 0)))
def jZ (N:Nat):Int->Int->LF->(Ky5)->Bool:=ax N (jT N)
def rE (N:Nat) (y_0 y_1:Int) (y_2:LF) (k0:Kz3):Bool:=
 (jZ N y_0 y_1 y_2 (λnr ZY=>cond ((ZY==0)==true) (k0 (nr==3)) (k0 false)))
def bN (N:Nat):Int->Int->LF->(Kz3)->Bool:=rE N
def qk (N:Nat) (Z9 Z4:Int) (a_2 a_3:LF) (k0:Kz4):Bool:=
 (we N Z9 Z4 a_2 (λnr=>cond (nr != 0) (k0 nr) (cond ((Z9 != Z4)==false) (cond (((a_3.length:Nat):Int) != Z9) (k0 3) (BK N a_3 (λcr=>cond (!cr) (k0 4) (RZ N Z9 Z4 a_2 (λZ1=>cond (!Z1) (k0 150) (bN N Z9 Z4 a_2 (λaaj=>cond (!aaj) (k0 170) (k0 0)))))))) (k0 3))))
def kH (N:Nat):Int->Int->LF->LF->(Kz4)->Bool:=ax N (qk N)
def se (N:Nat) (Z9 Z4:Int) (a_2:LF) (k0:Kz4):Bool:=
 (we N Z9 Z4 a_2 (λnr=>cond (nr != 0) (k0 nr) (cond (Z9 != Z4) (k0 3) (k0 0))))
def mG (N:Nat):Int->Int->LF->(Kz4)->Bool:=ax N (se N)
def pj (N:Nat) (Z9 Z4:Int) (a_2:LF) (k0:Kz4):Bool:=
 (mG N Z9 Z4 a_2 (λnr=>cond (nr != 0) (k0 nr) (RZ N Z9 Z4 a_2 (λcr=>cond (!cr) (k0 91) (k0 0)))))
def l4 (N:Nat):Int->Int->LF->(Kz4)->Bool:=ax N (pj N)
def Sw (N:Nat) (i j:Int) (k0:Kz6):Bool:=
 (cond (i==j) (k0 (some 4607182418800017408)) (k0 (some 0)))
def PU (N:Nat):Int->Int->(Kz6)->Bool:=Sw N
def Hf (N:Nat) (aaE i aaJ abw t21 abX abY Z7 m_3:Int) (e0:Kz7):(Int × LF)->((Int × LF)->Bool)->Bool:=λv_ K=>match v_ with
 | (t22,abg)=>(cond (decide (t22<t21)) (PU N i t22 (λxr=>decide ((List.length (abg++[xr]))*8<=140737488355328)&&(af .i64 (t22+1)&&K ((t22+1),(abg++[xr]))))) (e0 abg))
def fU (N:Nat) (aaI t17 t6 aa0 m Z0:Int) (e0:Kz7):(Int × LF)->((Int × LF)->Bool)->Bool:=λv_ K=>match v_ with
 | (t18,b2)=>(cond (decide (t18<t17)) (ah N (Hf N aaI t18 t17 t18 aaI t6 aa0 m Z0 (λad_=>af .i64 (t18+1)&&K ((t18+1),ad_))) (0,b2)) (e0 b2))
def Na (N:Nat) (rows cols:Int) (k0:Kz7):Bool:=
 (af .i64 (rows*cols)&&(gu 8 0 (rows*cols)&&ah N (fU N cols rows 0 0 rows cols (λac5=>k0 ac5)) (0,[])))
def PJ (N:Nat):Int->Int->(Kz7)->Bool:=ax N (Na N)
def wE (N:Nat) (n:Int) (k0:Kz7):Bool:=
 (PJ N n n (λxsr=>k0 xsr))
def xn (N:Nat):Int->(Kz7)->Bool:=wE N
def wD (N:Nat) (n:Int) (k0:Kx8):Bool:=
 (G0 N n (λcr=>cond (!cr) (k0 0 0 [] 1) (xn N n (λxsr=>k0 n n xsr 0))))
def ri (N:Nat):Int->(Kx8)->Bool:=wD N
def me (N:Nat) (b k0:Bool):Bool:=
 k0
def mI (N:Nat):Bool->(Bool)->Bool:=me N
def CH (N:Nat) (m_0 Z0:Int) (Z7:LF) (i j:Int) (k0:Kz6):Bool:=
 (af .i64 (i*Z0)&&(af .i64 ((i*Z0)+j)&&(inR ((i*Z0)+j) Z7.length&&k0 (Z7.getD (Int.toNat ((i*Z0)+j)) none))))
def gC (N:Nat):Int->Int->LF->Int->Int->(Kz6)->Bool:=CH N
def oD (N:Nat) (i j b ZX:Int) (Z3:LF) (k0:Kz6):Bool:=
 (gC N b ZX Z3 i j (λxr=>k0 xr))
def oY (N:Nat):Int->Int->Int->Int->LF->(Kz6)->Bool:=oD N
def nJ (N:Nat) (x:Fl) (b:Bool) (k0:Kz3):Bool:=
 (BK N [x] (λcr=>cond (!cr) (k0 true) (k0 b)))
def bM (N:Nat):Fl->Bool->(Kz3)->Bool:=nJ N
def k6 (N:Nat) (a b:Fl) (ZX:Bool) (k0:Ky6):Bool:=
 (bM N (eP a b) ZX (λcr=>k0 (eP a b) cr))
def bV (N:Nat):Fl->Fl->Bool->(Ky6)->Bool:=k6 N
def mc (N:Nat) (t p:Fl) (b:Bool) (k0:Ky6):Bool:=
 (bM N (qG t p) b (λcr=>k0 (qG t p) cr))
def cP (N:Nat):Fl->Fl->Bool->(Ky6)->Bool:=mc N
def eg (N:Nat) (t a b:Fl) (v_:Int) (ZX:Bool) (k0:Ky6):Bool:=
 (bV N a b ZX (λxr cr=>cP N t xr cr (λaaA Z1=>k0 aaA Z1)))
def jA (N:Nat):Fl->Fl->Fl->Int->Bool->(Ky6)->Bool:=ax N (eg N)
def aW (N:Nat) (i_1 j_1 t17 t4 b4 aaV:Int) (aby b5:LF) (e0:Ky6):(Fl × Int × Bool)->((Fl × Int × Bool)->Bool)->Bool:=λv_ K=>match v_ with
 | (t,t18,b7)=>(cond (decide (t18<t17)) (af .i64 (i_1*t4)&&(af .i64 ((i_1*t4)+t18)&&(inR ((i_1*t4)+t18) b5.length&&(decide ((Int.toNat ((i_1*t4)+t18))<b5.length)&&(af .i64 (j_1*t4)&&(af .i64 ((j_1*t4)+t18)&&(inR ((j_1*t4)+t18) b5.length&&(decide ((Int.toNat ((j_1*t4)+t18))<b5.length)&&jA N t (b5.getD (Int.toNat ((i_1*t4)+t18)) none) (b5.getD (Int.toNat ((j_1*t4)+t18)) none) t18 b7 (λaaA cr=>af .i64 (t18+1)&&K (aaA,(t18+1),cr)))))))))) (e0 t b7))
def bG (N:Nat) (i j b ZX Z3:Int) (b_3 b_4:LF) (b_5:Bool) (k0:Ky6):Bool:=
 (oY N i j ZX Z3 b_3 (λxr=>ah N (aW N i j j b ZX Z3 b_3 b_4 (λt_1 ae7=>k0 t_1 ae7)) (xr,0,b_5)))
def bd (N:Nat):Int->Int->Int->Int->Int->LF->LF->Bool->(Ky6)->Bool:=ax N (bG N)
abbrev Hw:=Fl->(Kz6)->Bool
def GT (N:Nat):Hw:=λx k=>k (vg x)
def Af (N:Nat) (x:Fl) (k0:Kz6):Bool:=
 (GT N x (λxr=>k0 xr))
def xl (N:Nat):Fl->(Kz6)->Bool:=Af N
def eh (N:Nat) (d:Fl) (b:Bool) (k0:Fl->Int->Bool):Bool:=
 (cond b (k0 (some 0) 5) (cond (!(fgt d (some 0))) (k0 (some 0) 90) (xl N d (λxr=>k0 xr 0))))
def jB (N:Nat):Fl->Bool->(Fl->Int->Bool)->Bool:=ax N (eh N)
def ek (N:Nat) (t head:Fl) (b:Bool) (k0:Ky6):Bool:=
 (bM N (fdiv t head) b (λcr=>k0 (fdiv t head) cr))
def jC (N:Nat):Fl->Fl->Bool->(Ky6)->Bool:=ax N (ek N)
def bw (N:Nat) (j:Int) (head:Fl) (adp adq t45 acz ac0:Int) (ac1:LF) (n_2:Int) (heads:LF) (e0:Ky7):(Int × Bool × LF)->((Int × Bool × LF)->Bool)->Bool:=λv_ K=>match v_ with
 | (t46,abg,b8)=>(cond (decide (t46<t45)) (cond (decide (t46<=j)) (af .i64 (t46+1)&&K ((t46+1),abg,b8)) (af .i64 (t46*n_2)&&(af .i64 ((t46*n_2)+j)&&bd N t46 j n_2 acz ac0 ac1 b8 abg (λabz Z1=>jC N abz head Z1 (λabJ aaj=>inR ((t46*n_2)+j) b8.length&&(decide ((Int.toNat ((t46*n_2)+j))<b8.length)&&(af .i64 (t46+1)&&K ((t46+1),aaj,(b8.set (Int.toNat ((t46*n_2)+j)) abJ))))))))) (e0 abg b8))
def aG (N:Nat) (acV ac2 ac3:Int) (ac4:LF) (n_3:Int) (e0:Kx6) (e1:Bool->LF->LF->Bool):(Int × Bool × LF × LF)->((Int × Bool × LF × LF)->Bool)->Bool:=λv_ K=>match v_ with
 | (abM,ac5,aa6,aec)=>(cond (decide (abM<acV)) (bd N abM abM n_3 ac2 ac3 ac4 aec ac5 (λaer aay=>jB N aer aay (λacu ZY=>cond (ZY != 0) (e0 abM ZY aay aa6) (decide ((List.length (aa6++[acu]))*8<=140737488355328)&&ah N (bw N abM acu acV abM n_3 ac2 ac3 ac4 n_3 (aa6++[acu]) (λae3 ae8=>af .i64 (abM+1)&&K ((abM+1),ae3,(aa6++[acu]),ae8))) (0,aay,aec))))) (e1 ac5 aa6 aec))
def da (N:Nat) (n b ZX:Int) (Z3:LF) (b_3:Bool) (k0:Kx6) (k1:Int->Int->Bool->LF->LF->Bool):Bool:=
 (af .i64 (n*n)&&(gu 8 (n*n) (n*n)&&ah N (aG N n b ZX Z3 n (λt8 t9 ae4 t7=>k0 t8 t9 ae4 t7) (λae5 adJ b5=>k1 0 0 ae5 b5 adJ)) (0,b_3,[],(List.replicate (Int.toNat (n*n)) (some 0)))))
def gz (N:Nat):Int->Int->Int->LF->Bool->(Kx6)->(Int->Int->Bool->LF->LF->Bool)->Bool:=ax N (da N)
def EZ (N:Nat) (place e:Int) (k0:Kz4):Bool:=
 (cond (e==5) (k0 0) (k0 place))
def zt (N:Nat):Int->Int->(Kz4)->Bool:=EZ N
def ub (N:Nat) (t52 t53 a a_3:Int) (a_4:LF) (t2 aai:Int) (t51:LF) (e0:Bool):(Unit)->((Unit)->Bool)->Bool:=λv_ K=>match v_ with
 | _=>(cond (decide (t53<t52)) (inR t53 t51.length&&(decide (t53.toNat<t51.length)&&(af .i64 (t53*a)&&(af .i64 ((t53*a)+t53)&&false)))) e0)
def fv (N:Nat) (ady a_5 a_6:Int) (a_7:LF) (aaw aax:Int) (acp:LF) (e0:Kz7):(Int × LF)->((Int × LF)->Bool)->Bool:=λv_ K=>match v_ with
 | (aaZ,acT)=>(cond (decide (aaZ<ady)) (inR aaZ acp.length&&(decide (aaZ.toNat<acp.length)&&(af .i64 (aaZ*a_5)&&(af .i64 ((aaZ*a_5)+aaZ)&&(inR ((aaZ*a_5)+aaZ) acT.length&&(decide ((Int.toNat ((aaZ*a_5)+aaZ))<acT.length)&&(af .i64 (aaZ+1)&&K ((aaZ+1),(acT.set (Int.toNat ((aaZ*a_5)+aaZ)) (acp.getD aaZ.toNat none)))))))))) (e0 acT))
def jr (N:Nat) (Z9 Z4:Int) (a_2:LF) (adP e_1:Int) (low aa6:LF) (k0:Kx1):Bool:=
 (cond (e_1 != 0) (zt N adP e_1 (λn6=>k0 0 0 [] n6 e_1)) (ah N (fv N ((aa6.length:Nat):Int) Z9 Z4 a_2 0 0 aa6 (λaeE=>k0 Z9 Z9 aeE 0 0)) (0,low)))
def pm (N:Nat) (Z9 Z4:Int) (a_2:LF) (place e:Int) (heads:LF) (k0:Kx1):Bool:=
 (cond (e != 0) (zt N place e (λn5=>k0 0 0 [] n5 e)) (ah N (ub N ((heads.length:Nat):Int) 0 Z9 Z4 a_2 0 0 heads (k0 Z9 Z9 [] 0 0)) ()))
def sb (N:Nat) (Z9 Z4:Int) (a_2:LF) (k0:Kx1):Bool:=
 (l4 N Z9 Z4 a_2 (λnr=>cond (nr != 0) (k0 0 0 [] 0 nr) (mI N false (gz N Z9 Z9 Z4 a_2 false (λZY Z2 cr xsr=>cond ((Z2==0)==true) (cond cr (pm N Z9 Z4 a_2 ZY 5 xsr k0) (pm N Z9 Z4 a_2 ZY Z2 xsr k0)) (pm N Z9 Z4 a_2 ZY Z2 xsr k0)) (λaag aae Z1 Z8 aak=>cond ((aae==0)==true) (cond Z1 (jr N Z9 Z4 a_2 aag 5 Z8 aak k0) (jr N Z9 Z4 a_2 aag aae Z8 aak k0)) (jr N Z9 Z4 a_2 aag aae Z8 aak k0))))))
def mF (N:Nat):Int->Int->LF->(Kx1)->Bool:=ax N (sb N)
def Nb (N:Nat) (is:Bool) (e:Int) (k0:Kz4):Bool:=
 (cond is (k0 e) (k0 0))
def GQ (N:Nat):Bool->Int->(Kz4)->Bool:=Nb N
def pd (N:Nat) (t5:LI) (t6:Int) (e0:Kz4) (e1:Bool):(Int)->((Int)->Bool)->Bool:=λv_ K=>match v_ with
 | t7=>(cond (decide (t7<t6)) (inR t7 t5.length&&cond ((t5.getD t7.toNat 0) != 0) (e0 (t5.getD t7.toNat 0)) (af .i64 (t7+1)&&K (t7+1))) e1)
def MY (N:Nat) (l:LI) (k0:Kz4):Bool:=
 (ah N (pd N l ((l.length:Nat):Int) (λt2=>k0 t2) (k0 0)) 0)
def GO (N:Nat):LI->(Kz4)->Bool:=ax N (MY N)
def jM (N:Nat) (j_2 acd m_5 m_6:Int) (m_7:LF) (e0:Kz7):(Int × LF)->((Int × LF)->Bool)->Bool:=λv_ K=>match v_ with
 | (acq,l)=>(cond (decide (acq<acd)) (zo N m_5 m_6 m_7 acq j_2 (λaaA=>decide ((List.length (l++[aaA]))*8<=140737488355328)&&(af .i64 (acq+1)&&K ((acq+1),(l++[aaA]))))) (e0 l))
def qo (N:Nat) (m_0 Z0:Int) (Z7:LF) (j:Int) (k0:Kz7):Bool:=
 (ah N (jM N j m_0 m_0 Z0 Z7 (λl_1=>k0 l_1)) (0,[]))
def xm (N:Nat):Int->Int->LF->Int->(Kz7)->Bool:=ax N (qo N)
def nK (N:Nat) (m_0 Z0:Int) (Z7:LF) (j:Int) (k0:Kz1):Bool:=
 (xm N m_0 Z0 Z7 j (λxsr=>k0 xsr 0))
def qn (N:Nat) (m_0 Z0:Int) (Z7:LF) (j:Int) (k0:Kz1):Bool:=
 (we N m_0 Z0 Z7 (λnr=>cond ((decide (j<0))==false) (GQ N (decide (j>=Z0)) 1 (λZY=>GO N [nr,ZY] (λZ2=>cond (Z2 != 0) (k0 [] Z2) (nK N m_0 Z0 Z7 j k0)))) (GQ N true 1 (λaag=>GO N [nr,aag] (λaae=>cond (aae != 0) (k0 [] aae) (nK N m_0 Z0 Z7 j k0))))))
def rh (N:Nat):Int->Int->LF->Int->(Kz1)->Bool:=ax N (qn N)
def cj (N:Nat) (b_3:LF) (i adn abv t23 l_5 l_6:Int) (l_7 x_1:LF) (e0:Ky6):(Fl × Int × Bool)->((Fl × Int × Bool)->Bool)->Bool:=λv_ K=>match v_ with
 | (t,t24,s_1)=>(cond (decide (t24<t23)) (gC N l_5 l_6 l_7 i t24 (λxr=>inR t24 x_1.length&&(decide (t24.toNat<x_1.length)&&bV N xr (x_1.getD t24.toNat none) s_1 (λaaA cr=>cP N t aaA cr (λabz Z1=>af .i64 (t24+1)&&K (abz,(t24+1),Z1)))))) (e0 t s_1))
def cZ (N:Nat) (Z3:LF) (t15 l l_3:Int) (l_4:LF) (e0:Ky7):(Int × Bool × LF)->((Int × Bool × LF)->Bool)->Bool:=λv_ K=>match v_ with
 | (t16,s,x)=>(cond (decide (t16<t15)) (inR t16 Z3.length&&ah N (cj N Z3 t16 t15 t16 t16 l l_3 l_4 x (λt_1 s_2=>gC N l l_3 l_4 t16 t16 (λabJ=>bM N (fdiv t_1 abJ) s_2 (λaaj=>inR t16 x.length&&(decide (t16.toNat<x.length)&&(af .i64 (t16+1)&&K ((t16+1),aaj,(x.set t16.toNat (fdiv t_1 abJ))))))))) ((Z3.getD t16.toNat none),0,s)) (e0 s x))
def ig (N:Nat) (l_0 l_1:Int) (l_2 b:LF) (ZX:Bool) (k0:Ky8):Bool:=
 (gu 8 ((b.length:Nat):Int) ((b.length:Nat):Int)&&ah N (cZ N b ((b.length:Nat):Int) l_0 l_1 l_2 (λb0 x_2=>k0 x_2 b0)) (0,ZX,(List.replicate (Int.toNat ((b.length:Nat):Int)) (some 0))))
def ci (N:Nat):Int->Int->LF->LF->Bool->(Ky8)->Bool:=ax N (ig N)
def cB (N:Nat) (b_3:LF) (i_1 l_5 l_6:Int) (l_7 x_1:LF) (e0:Ky6):(Fl × Int × Bool)->((Fl × Int × Bool)->Bool)->Bool:=λv_ K=>match v_ with
 | (t,k_,s_1)=>(cond (decide (k_<((b_3.length:Nat):Int))) (gC N l_5 l_6 l_7 k_ i_1 (λxr=>inR k_ x_1.length&&(decide (k_.toNat<x_1.length)&&bV N xr (x_1.getD k_.toNat none) s_1 (λaaA cr=>cP N t aaA cr (λabz Z1=>af .i64 (k_+1)&&K (abz,(k_+1),Z1)))))) (e0 t s_1))
def dL (N:Nat) (Z3:LF) (l l_3:Int) (l_4:LF) (e0:Ky7):(Int × Bool × LF)->((Int × Bool × LF)->Bool)->Bool:=λv_ K=>match v_ with
 | (i,s,x)=>(cond (decide (i>=0)) (inR i Z3.length&&(af .i64 (i+1)&&ah N (cB N Z3 i l l_3 l_4 x (λt_1 s_2=>gC N l l_3 l_4 i i (λabJ=>bM N (fdiv t_1 abJ) s_2 (λaaj=>inR i x.length&&(decide (i.toNat<x.length)&&(af .i64 (i - 1)&&K ((i - 1),aaj,(x.set i.toNat (fdiv t_1 abJ))))))))) ((Z3.getD i.toNat none),(i+1),s))) (e0 s x))
def jR (N:Nat) (l_0 l_1:Int) (l_2 b:LF) (ZX:Bool) (k0:Ky8):Bool:=
 (gu 8 ((b.length:Nat):Int) ((b.length:Nat):Int)&&(af .i64 (((b.length:Nat):Int) - 1)&&ah N (dL N b l_0 l_1 l_2 (λb0 x_2=>k0 x_2 b0)) ((((b.length:Nat):Int) - 1),ZX,(List.replicate (Int.toNat ((b.length:Nat):Int)) (some 0)))))
def cF (N:Nat):Int->Int->LF->LF->Bool->(Ky8)->Bool:=ax N (jR N)
def fS (N:Nat) (j adz adA:Int) (t76:LF) (t77 b_5 b_6:Int) (b_7:LF) (abh abi l_3 l_4:Int) (l_5:LF) (s_1:Bool) (aaL abl:Int) (e0:Kz7):(Int × LF)->((Int × LF)->Bool)->Bool:=λv_ K=>match v_ with
 | (t78,acC)=>(cond (decide (t78<t77)) (inR t78 t76.length&&(af .i64 (t78*b_6)&&(af .i64 ((t78*b_6)+j)&&(inR ((t78*b_6)+j) acC.length&&(decide ((Int.toNat ((t78*b_6)+j))<acC.length)&&(af .i64 (t78+1)&&K ((t78+1),(acC.set (Int.toNat ((t78*b_6)+j)) (t76.getD t78.toNat none))))))))) (e0 acC))
def dJ (N:Nat) (t60 b b_3:Int) (b_4:LF) (t4 abn l l_1:Int) (l_2:LF) (out aaf:Int) (e0:Ky7):(Int × Bool × LF)->((Int × Bool × LF)->Bool)->Bool:=λv_ K=>match v_ with
 | (t61,s,b5)=>(cond (decide (t61<t60)) (rh N b b_3 b_4 t61 (λZ8 n6=>ci N l l_1 l_2 Z8 s (λaak cr=>cF N l l_1 l_2 aak cr (λaaS Z1=>ah N (fS N t61 t60 t61 aaS ((aaS.length:Nat):Int) b b_3 b_4 t4 abn l l_1 l_2 Z1 out aaf (λaeb=>af .i64 (t61+1)&&K ((t61+1),Z1,aeb))) (0,b5))))) (e0 s b5))
def mN (N:Nat) (Z9 Z4:Int) (a_2:LF) (b_0 ZX:Int) (Z3:LF) (k0:Kx1):Bool:=
 (mG N Z9 Z4 a_2 (λnr=>cond (nr != 0) (k0 0 0 [] 0 nr) (we N b_0 ZX Z3 (λZY=>cond (ZY != 0) (k0 0 0 [] 0 ZY) (cond (b_0 != Z9) (k0 0 0 [] 0 3) (mF N Z9 Z4 a_2 (λZ2 aag xsr aae n5=>cond (n5 != 0) (k0 0 0 [] aae n5) (gu 8 ((Z3.length:Nat):Int) ((Z3.length:Nat):Int)&&ah N (dJ N ZX b_0 ZX Z3 0 0 Z2 aag xsr b_0 ZX (λs_2 b3=>cond s_2 (k0 0 0 [] 0 5) (k0 b_0 ZX b3 0 0))) (0,false,(List.replicate (Int.toNat ((Z3.length:Nat):Int)) (some 0)))))))))))
def mT (N:Nat):Int->Int->LF->Int->Int->LF->(Kx1)->Bool:=ax N (mN N)
def Sq (N:Nat) (m_0 Z0:Int) (Z7:LF) (k0:Kz4):Bool:=
 (we N m_0 Z0 Z7 (λnr=>GQ N (m_0 != Z0) 3 (λZY=>GO N [nr,ZY] (λZ2=>k0 Z2))))
def PR (N:Nat):Int->Int->LF->(Kz4)->Bool:=Sq N
def WZ (N:Nat) (i j:Int) (k0:Kz6):Bool:=
 (k0 (some 0))
def SX (N:Nat):Int->Int->(Kz6)->Bool:=WZ N
def BV (N:Nat) (aaE i aaJ abw t21 abX abY Z7 m_3:Int) (e0:Kz7):(Int × LF)->((Int × LF)->Bool)->Bool:=λv_ K=>match v_ with
 | (t22,abg)=>(cond (decide (t22<t21)) (SX N i t22 (λxr=>decide ((List.length (abg++[xr]))*8<=140737488355328)&&(af .i64 (t22+1)&&K ((t22+1),(abg++[xr]))))) (e0 abg))
def EN (N:Nat) (aaI t17 t6 aa0 m Z0:Int) (e0:Kz7):(Int × LF)->((Int × LF)->Bool)->Bool:=λv_ K=>match v_ with
 | (t18,b2)=>(cond (decide (t18<t17)) (ah N (BV N aaI t18 t17 t18 aaI t6 aa0 m Z0 (λad_=>af .i64 (t18+1)&&K ((t18+1),ad_))) (0,b2)) (e0 b2))
def Th (N:Nat) (rows cols:Int) (k0:Kz7):Bool:=
 (af .i64 (rows*cols)&&(gu 8 0 (rows*cols)&&ah N (EN N cols rows 0 0 rows cols (λac5=>k0 ac5)) (0,[])))
def Wd (N:Nat):Int->Int->(Kz7)->Bool:=ax N (Th N)
def Sg (N:Nat) (i j b ZX:Int) (Z3:LF) (k0:Kz6):Bool:=
 (zo N b ZX Z3 i j (λxr=>k0 xr))
def SP (N:Nat):Int->Int->Int->Int->LF->(Kz6)->Bool:=Sg N
def EJ (N:Nat) (n_2 i abL abV t17 abQ abR:Int) (abS:LF) (abh abi Z7 m_3:Int) (e0:Kz7):(Int × LF)->((Int × LF)->Bool)->Bool:=λv_ K=>match v_ with
 | (t18,abx)=>(cond (decide (t18<t17)) (SP N i t18 abQ abR abS (λxr=>af .i64 (i*n_2)&&(af .i64 ((i*n_2)+t18)&&(af .i64 (t18*n_2)&&(af .i64 ((t18*n_2)+i)&&(inR ((i*n_2)+t18) abx.length&&(decide ((Int.toNat ((i*n_2)+t18))<abx.length)&&(inR ((t18*n_2)+i) (List.length (abx.set (Int.toNat ((i*n_2)+t18)) xr))&&(decide ((Int.toNat ((t18*n_2)+i))<(List.length (abx.set (Int.toNat ((i*n_2)+t18)) xr)))&&(af .i64 (t18+1)&&K ((t18+1),(List.set (abx.set (Int.toNat ((i*n_2)+t18)) xr) (Int.toNat ((t18*n_2)+i)) xr)))))))))))) (e0 abx))
def EI (N:Nat) (n_1 t12 below abO:Int) (abP:LF) (t4 abn m Z0:Int) (e0:Kz7):(Int × LF)->((Int × LF)->Bool)->Bool:=λv_ K=>match v_ with
 | (t13,b3)=>(cond (decide (t13<t12)) (af .i64 (t13+1)&&ah N (EJ N n_1 t13 t12 t13 (t13+1) below abO abP t4 abn m Z0 (λacA=>af .i64 (t13+1)&&K ((t13+1),acA))) (0,b3)) (e0 b3))
def TC (N:Nat) (n b ZX:Int) (Z3:LF) (k0:Kz7):Bool:=
 (Wd N n n (λxsr=>ah N (EI N n n b ZX Z3 0 0 n n (λaea=>k0 aea)) (0,xsr)))
def Wn (N:Nat):Int->Int->Int->LF->(Kz7)->Bool:=ax N (TC N)
def M_ (N:Nat) (m_0 Z0:Int) (Z7:LF) (k0:Kx8):Bool:=
 (PR N m_0 Z0 Z7 (λnr=>cond (nr != 0) (k0 0 0 [] nr) (Wn N m_0 m_0 Z0 Z7 (λxsr=>k0 m_0 m_0 xsr 0))))
def PI (N:Nat):Int->Int->LF->(Kx8)->Bool:=ax N (M_ N)
def nI (N:Nat) (Z9 Z4:Int) (a_2:LF) (k0:Kx1):Bool:=
 (l4 N Z9 Z4 a_2 (λnr=>cond (nr != 0) (k0 0 0 [] 0 nr) (ri N Z9 (λZY Z2 xsr aag=>mT N Z9 Z4 a_2 ZY Z2 xsr (λaae n5 Z8 n6 n7=>cond (n7 != 0) (k0 0 0 [] n6 n7) (PI N aae n5 Z8 (λn8 n9 aak n10=>k0 n8 n9 aak 0 n10)))))))
def oq (N:Nat):Int->Int->LF->(Kx1)->Bool:=ax N (nI N)
def sf (N:Nat) (rows:Int) (b:LF) (k0:Kz4):Bool:=
 (cond (((b.length:Nat):Int) != rows) (k0 3) (BK N b (λcr=>cond (!cr) (k0 4) (k0 0))))
def mH (N:Nat):Int->LF->(Kz4)->Bool:=ax N (sf N)
def qi (N:Nat) (Z9 Z4:Int) (a_2 b:LF) (k0:Ky2):Bool:=
 (mG N Z9 Z4 a_2 (λnr=>cond (nr != 0) (k0 [] 0 nr) (mH N Z9 b (λZY=>cond (ZY != 0) (k0 [] 0 ZY) (mF N Z9 Z4 a_2 (λZ2 aag xsr aae n5=>cond (n5 != 0) (k0 [] aae n5) (ci N Z2 aag xsr b false (λZ8 cr=>cF N Z2 aag xsr Z8 cr (λaak Z1=>cond Z1 (k0 [] 0 5) (k0 aak 0 0))))))))))
def re (N:Nat):Int->Int->LF->LF->(Ky2)->Bool:=ax N (qi N)
def qm (N:Nat) (Z9 Z4:Int) (a_2 a_3:LF) (k0:Kx2):Bool:=
 (kH N Z9 Z4 a_2 a_3 (λnr=>cond (nr != 0) (k0 [] 0 0 [] nr) (oq N Z9 Z4 a_2 (λZY Z2 xsr aag aae=>cond (aae != 0) (k0 [] 0 0 [] aae) (bN N ZY Z2 xsr (λcr=>cond (!cr) (k0 [] 0 0 [] 151) (re N Z9 Z4 a_2 a_3 (λZ8 n5 n6=>cond (n6 != 0) (k0 [] 0 0 [] n6) (k0 Z8 ZY Z2 xsr 0)))))))))
def iY (N:Nat):Int->Int->LF->LF->(Kx2)->Bool:=ax N (qm N)
def sw (N:Nat) (rows cols n:Int) (k0:Kz4):Bool:=
 (cond ((decide (rows<0))==false) (cond ((decide (rows>12))==false) (cond ((decide (cols<0))==false) (cond (decide (cols>12)) (k0 1) (af .i64 (rows*cols)&&cond (n != (rows*cols)) (k0 3) (k0 0))) (k0 1)) (k0 1)) (k0 1))
def tR (N:Nat):Int->Int->Int->(Kz4)->Bool:=ax N (sw N)
def Ag (N:Nat) (x:Fl) (k0:Kz4):Bool:=
 (cond (!feq x x) (k0 9221120237041090561) (yn N x (λnr=>k0 nr)))
def ot (N:Nat):Fl->(Kz4)->Bool:=Ag N
def su (N:Nat) (x:Fl) (k0:Kx9):Bool:=
 (ot N x (λnr=>af .i64 (Int.tmod (Int.fdiv nr (2 ^ 52)) 2048)&&k0 ((Int.fdiv nr (2 ^ 63))==1) (Int.tmod (Int.fdiv nr (2 ^ 52)) 2048) (Int.tmod nr 4503599627370496)))
def o_ (N:Nat):Fl->(Kx9)->Bool:=ax N (su N)
def NC (N:Nat) (exp frac most:Int) (k0:Kz4):Bool:=
 (cond ((exp==most)==true) (cond (frac != 0) (k0 1) (cond (exp==most) (k0 2) (cond ((exp==0)==true) (cond (frac==0) (k0 3) (cond (exp==0) (k0 4) (k0 5))) (cond (exp==0) (k0 4) (k0 5))))) (cond (exp==most) (k0 2) (cond ((exp==0)==true) (cond (frac==0) (k0 3) (cond (exp==0) (k0 4) (k0 5))) (cond (exp==0) (k0 4) (k0 5)))))
def S0 (N:Nat):Int->Int->Int->(Kz4)->Bool:=ax N (NC N)
def yE (N:Nat) (x:Fl) (k0:Kz4):Bool:=
 (o_ N x (λcr nr ZY=>S0 N nr ZY 2047 (λZ2=>k0 Z2)))
def tN (N:Nat):Fl->(Kz4)->Bool:=yE N
def wH (N:Nat) (x:Fl) (k0:Kz3):Bool:=
 (tN N x (λnr=>k0 (decide (nr>2))))
def nu (N:Nat):Fl->(Kz3)->Bool:=wH N
def fX (N:Nat) (t5:LF) (t6:Int) (e0:Kz3) (e1:Bool):(Int)->((Int)->Bool)->Bool:=λv_ K=>match v_ with
 | t7=>(cond (decide (t7<t6)) (inR t7 t5.length&&nu N (t5.getD t7.toNat none) (λcr=>cond (!cr) (e0 false) (af .i64 (t7+1)&&K (t7+1)))) e1)
def TK (N:Nat) (l:LF) (k0:Kz3):Bool:=
 (ah N (fX N l ((l.length:Nat):Int) (λt2=>k0 t2) (k0 true)) 0)
def Ms (N:Nat):LF->(Kz3)->Bool:=ax N (TK N)
def vB (N:Nat) (m_0 Z0:Int) (Z7:LF) (k0:Kz4):Bool:=
 (tR N m_0 Z0 ((Z7.length:Nat):Int) (λnr=>cond (nr != 0) (k0 nr) (Ms N Z7 (λcr=>cond (!cr) (k0 4) (k0 0)))))
def j5 (N:Nat):Int->Int->LF->(Kz4)->Bool:=ax N (vB N)
def Ai (N:Nat) (m_0 Z0:Int) (Z7:LF) (k0:Kz4):Bool:=
 (j5 N m_0 Z0 Z7 (λnr=>k0 nr))
def ru (N:Nat):Int->Int->LF->(Kz4)->Bool:=Ai N
def Sl (N:Nat) (m_0 Z0:Int) (Z7:LF) (i j:Int) (k0:Kz6):Bool:=
 (af .i64 (i*Z0)&&(af .i64 ((i*Z0)+j)&&(inR ((i*Z0)+j) Z7.length&&k0 (Z7.getD (Int.toNat ((i*Z0)+j)) none))))
def gW (N:Nat):Int->Int->LF->Int->Int->(Kz6)->Bool:=Sl N
def vA (N:Nat) (a b:Fl) (k0:Kz3):Bool:=
 (ot N a (λnr=>ot N b (λZY=>k0 (nr==ZY))))
def rk (N:Nat):Fl->Fl->(Kz3)->Bool:=ax N (vA N)
def f9 (N:Nat) (i_1 m_5 m_6:Int) (m_7:LF) (e0:Kz4) (e1:Bool):(Int)->((Int)->Bool)->Bool:=λv_ K=>match v_ with
 | j=>(cond (decide (j<i_1)) (gW N m_5 m_6 m_7 i_1 j (λxr=>gW N m_5 m_6 m_7 j i_1 (λaaA=>rk N xr aaA (λcr=>cond (!cr) (e0 91) (af .i64 (j+1)&&K (j+1)))))) e1)
def f8 (N:Nat) (m m_3:Int) (m_4:LF) (e0:Kz4) (e1:Bool):(Int)->((Int)->Bool)->Bool:=λv_ K=>match v_ with
 | i=>(cond (decide (i<m)) (ah N (f9 N i m m_3 m_4 (λt2=>e0 t2) (af .i64 (i+1)&&K (i+1))) 0) e1)
def Qo (N:Nat) (m_0 Z0:Int) (Z7:LF) (k0:Kz4):Bool:=
 (j5 N m_0 Z0 Z7 (λnr=>cond (nr != 0) (k0 nr) (cond (m_0 != Z0) (k0 3) (ah N (f8 N m_0 Z0 Z7 (λaai=>k0 aai) (k0 0)) 0))))
def Mq (N:Nat):Int->Int->LF->(Kz4)->Bool:=ax N (Qo N)
def sC (N:Nat) (s_0:LF) (s_1 s_2:Int) (s_3:LF) (k0:Kz4):Bool:=
 (ru N s_1 s_2 s_3 (λnr=>cond (nr != 0) (k0 nr) (cond ((s_1 != s_2)==false) (cond (((s_0.length:Nat):Int) != s_1) (k0 3) (Ms N s_0 (λcr=>cond (!cr) (k0 4) (Mq N s_1 s_2 s_3 (λZY=>cond (ZY != 0) (k0 150) (k0 0)))))) (k0 3))))
def zw (N:Nat):LF->Int->Int->LF->(Kz4)->Bool:=ax N (sC N)
def kW (N:Nat) (e0:Ky5):(Int × Int)->((Int × Int)->Bool)->Bool:=λv_ K=>match v_ with
 | (Z0,e_1)=>(cond ((Int.tmod Z0 2)==0) (af .i64 (e_1+1)&&K ((IntKind.wrap .u64 (Int.tdiv Z0 2)),(e_1+1))) (e0 Z0 e_1))
def uk (N:Nat) (m e:Int) (k0:Ky5):Bool:=
 (cond (m==0) (k0 0 0) (ah N (kW N (λZ7 e_2=>k0 Z7 e_2)) (m,e)))
def pZ (N:Nat):Int->Int->(Ky5)->Bool:=ax N (uk N)
def lS (N:Nat) (x:Fl) (neg:Bool) (e f:Int) (k0:Kx4):Bool:=
 (af .i64 (e - 1074)&&pZ N f (e - 1074) (λZ2 aag=>k0 neg Z2 aag 0))
def sr (N:Nat) (x:Fl) (k0:Kx4):Bool:=
 (o_ N x (λcr nr ZY=>cond (nr==2047) (k0 false 0 0 4) (cond (decide (nr>0)) (af .i64 (nr - 1)&&lS N x cr (nr - 1) (IntKind.wrap .u64 (ZY+4503599627370496)) k0) (lS N x cr nr ZY k0))))
def tO (N:Nat):Fl->(Kx4)->Bool:=ax N (sr N)
def ww (N Z0:Nat) (m_3:LI) (e0:Kz5):(Nat)->((Nat)->Bool)->Bool:=λv_ K=>match v_ with
 | Z7=>(cond ((decide (((Z7:Nat):Int)>0))==true) (af .i64 (((Z7:Nat):Int) - 1)&&(inR (((Z7:Nat):Int) - 1) Z7&&(decide ((Z0+(Int.toNat (((Z7:Nat):Int) - 1)))<m_3.length)&&cond ((m_3.getD (Z0+(Int.toNat (((Z7:Nat):Int) - 1))) 0)==0) (af .i64 (((Z7:Nat):Int) - 1)&&(decide (0<=(((Z7:Nat):Int) - 1)/\(((Z7:Nat):Int) - 1)<=((Z7:Nat):Int))&&K ((Int.toNat (((Z7:Nat):Int) - 1)) - 0))) (e0 Z7)))) (e0 Z7))
def Tp (N:Nat) (b:LI) (k0:Kz5):Bool:=
 (ah N (ww N 0 b (λm_4=>k0 m_4)) b.length)
def pY (N:Nat):LI->(Kz5)->Bool:=ax N (Tp N)
def Nt (N:Nat) (n:Int) (k0:Kz8):Bool:=
 (pY N [(IntKind.wrap .u32 n),(IntKind.wrap .u32 (Int.fdiv n (2 ^ 32)))] (λmr=>decide ((0+mr)<=(List.length [(IntKind.wrap .u32 n),(IntKind.wrap .u32 (Int.fdiv n (2 ^ 32)))]))&&k0 (List.take mr (List.drop 0 [(IntKind.wrap .u32 n),(IntKind.wrap .u32 (Int.fdiv n (2 ^ 32)))]))))
def Dy (N:Nat):Int->(Kz8)->Bool:=ax N (Nt N)
def fW (N:Nat) (e0:Kz8):(LI)->((LI)->Bool)->Bool:=λv_ K=>match v_ with
 | Z0=>(cond ((decide (((Z0.length:Nat):Int)>0))==true) (af .i64 (((Z0.length:Nat):Int) - 1)&&(inR (((Z0.length:Nat):Int) - 1) Z0.length&&cond ((Z0.getD (Int.toNat (((Z0.length:Nat):Int) - 1)) 0)==0) (af .i64 (((Z0.length:Nat):Int) - 1)&&(decide (0<=(((Z0.length:Nat):Int) - 1)/\(((Z0.length:Nat):Int) - 1)<=((Z0.length:Nat):Int))&&K (List.drop 0 (List.take (Int.toNat (((Z0.length:Nat):Int) - 1)) Z0)))) (e0 Z0))) (e0 Z0))
def xB (N:Nat) (m:LI) (k0:Kz8):Bool:=
 (ah N (fW N (λZ7=>k0 Z7)) m)
def lM (N:Nat):LI->(Kz8)->Bool:=ax N (xB N)
def Sm (N:Nat) (neg:Bool) (m:LI) (b:Bool) (k0:Ky4):Bool:=
 (lM N m (λnsr=>cond (neg==true) (k0 (decide (((nsr.length:Nat):Int)>0)) nsr) (k0 false nsr)))
def zm (N:Nat):Bool->LI->Bool->(Ky4)->Bool:=Sm N
def TH (N:Nat) (n:Int) (b:Bool) (k0:Ky4):Bool:=
 (Dy N n (λnsr=>zm N false nsr b (λcr ZZ=>k0 cr ZZ)))
def R3 (N:Nat):Int->Bool->(Ky4)->Bool:=ax N (TH N)
def sE (N:Nat) (neg b:Bool) (ZX Z3:LI) (k0:Ky0):Bool:=
 (pY N Z3 (λmr=>cond (neg==true) (k0 (decide (((mr:Nat):Int)>0)) 0 mr) (k0 false 0 mr)))
def tW (N:Nat):Bool->Bool->LI->LI->(Ky0)->Bool:=sE N
def Nq (N:Nat) (b:Bool) (ZX:LI) (k0:Ky4):Bool:=
 (decide ((List.length ([]++ZX))*4<=140737488355328)&&tW N (!b) b ZX ([]++ZX) (λcr mr aaO=>decide ((mr+aaO)<=(List.length ([]++ZX)))&&k0 cr (List.take aaO (List.drop mr ([]++ZX)))))
def PQ (N:Nat):Bool->LI->(Ky4)->Bool:=ax N (Nq N)
def Ah (N:Nat) (x:Fl) (k0:Int->Bool->LI->Bool):Bool:=
 (tO N x (λcr nr ZY Z2=>R3 N nr false (λZ1 nsr=>cond cr (PQ N Z1 nsr (λaaj ZZ=>k0 ZY aaj ZZ)) (k0 ZY Z1 nsr))))
def BM (N:Nat):Fl->(Int->Bool->LI->Bool)->Bool:=ax N (Ah N)
def eD (N:Nat) (Z0:LI) (w s:Int) (e0:Kz8):(Int × LI)->((Int × LI)->Bool)->Bool:=λv_ K=>match v_ with
 | (i,out)=>(cond (decide (i<((Z0.length:Nat):Int))) (inR i Z0.length&&(decide (0<=s)&&(af .i64 (w+i)&&(inR (w+i) out.length&&(decide ((Int.toNat (w+i))<out.length)&&(inR (w+i) out.length&&(decide ((Int.toNat (w+i))<out.length)&&(af .i64 (w+i)&&(af .i64 ((w+i)+1)&&(inR ((w+i)+1) (List.length (out.set (Int.toNat (w+i)) (aD .or .u32 (out.getD (Int.toNat (w+i)) 0) (IntKind.wrap .u32 (IntKind.wrap .u64 ((IntKind.wrap .u64 (Z0.getD i.toNat 0))*2 ^ (min s.toNat 64)))))))&&(decide ((Int.toNat ((w+i)+1))<(List.length (out.set (Int.toNat (w+i)) (aD .or .u32 (out.getD (Int.toNat (w+i)) 0) (IntKind.wrap .u32 (IntKind.wrap .u64 ((IntKind.wrap .u64 (Z0.getD i.toNat 0))*2 ^ (min s.toNat 64))))))))&&(af .i64 (i+1)&&K ((i+1),(List.set (out.set (Int.toNat (w+i)) (aD .or .u32 (out.getD (Int.toNat (w+i)) 0) (IntKind.wrap .u32 (IntKind.wrap .u64 ((IntKind.wrap .u64 (Z0.getD i.toNat 0))*2 ^ (min s.toNat 64)))))) (Int.toNat ((w+i)+1)) (IntKind.wrap .u32 (Int.fdiv (IntKind.wrap .u64 ((IntKind.wrap .u64 (Z0.getD i.toNat 0))*2 ^ (min s.toNat 64))) (2 ^ 32))))))))))))))))) (e0 out))
def vx (N:Nat) (m:LI) (n:Int) (k0:Kz8):Bool:=
 (cond (((m.length:Nat):Int)==0) (k0 []) (af .i64 (IntKind.wrap .u64 (Int.tdiv n 32))&&(af .i64 ((IntKind.wrap .u64 (Int.tdiv n 32))+((m.length:Nat):Int))&&(af .i64 (((IntKind.wrap .u64 (Int.tdiv n 32))+((m.length:Nat):Int))+1)&&(gu 4 (((IntKind.wrap .u64 (Int.tdiv n 32))+((m.length:Nat):Int))+1) (((IntKind.wrap .u64 (Int.tdiv n 32))+((m.length:Nat):Int))+1)&&ah N (eD N m (IntKind.wrap .u64 (Int.tdiv n 32)) (Int.tmod n 32) (λaaf=>pY N aaf (λmr=>decide ((0+mr)<=aaf.length)&&k0 (List.take mr (List.drop 0 aaf))))) (0,(List.replicate (Int.toNat (((IntKind.wrap .u64 (Int.tdiv n 32))+((m.length:Nat):Int))+1)) (0:Int))))))))
def wj (N:Nat):LI->Int->(Kz8)->Bool:=ax N (vx N)
def MZ (N:Nat) (n:Int) (b ZX:Bool) (Z3:LI) (k0:Ky4):Bool:=
 (wj N Z3 n (λnsr=>zm N ZX nsr b (λcr ZZ=>k0 cr ZZ)))
def Kd (N:Nat):Int->Bool->Bool->LI->(Ky4)->Bool:=ax N (MZ N)
def Xb (N:Nat) (x e:Int) (b:Bool) (ZX:LI) (k0:Bool) (k1:Ky4):Bool:=
 (cond (decide (e>=x)) k0 (af .i64 (x - e)&&Kd N (IntKind.wrap .u64 (x - e)) false b ZX (λcr nsr=>k1 cr nsr)))
def Wp (N:Nat):Int->Int->Bool->LI->(Bool)->(Ky4)->Bool:=Xb N
def Jh (N:Nat) (k0:Kz8):Bool:=
 (k0 [1])
def rU (N:Nat):(Kz8)->Bool:=Jh N
def Nc (N:Nat) (neg:Bool) (m:LI) (b ZX:Bool) (k0:Bool->LI->LI->Bool):Bool:=
 (lM N m (λnsr=>cond (neg==true) (k0 (decide (((nsr.length:Nat):Int)>0)) nsr []) (k0 false nsr [])))
def GR (N:Nat):Bool->LI->Bool->Bool->(Bool->LI->LI->Bool)->Bool:=Nc N
def NF (N:Nat) (neg:Bool) (m:LI) (b:Bool) (ZX:LI) (Z3:Bool) (b_3:LI) (k0:Ky4):Bool:=
 (lM N m (λnsr=>cond (neg==true) (k0 (decide (((nsr.length:Nat):Int)>0)) nsr) (k0 false nsr)))
def GZ (N:Nat):Bool->LI->Bool->LI->Bool->LI->(Ky4)->Bool:=NF N
def GQ8 (N:Nat) (x:Int) (k0:Kz4):Bool:=
 (cond (x==0) (k0 32) (inR (Int.fdiv (IntKind.wrap .u32 ((aD .and .u32 x (IntKind.wrap .u32 (0 - x)))*125613361)) (2 ^ 27)) 32&&(af .i64 (zz.getD (Int.toNat (Int.fdiv (IntKind.wrap .u32 ((aD .and .u32 x (IntKind.wrap .u32 (0 - x)))*125613361)) (2 ^ 27))) 0)&&k0 (zz.getD (Int.toNat (Int.fdiv (IntKind.wrap .u32 ((aD .and .u32 x (IntKind.wrap .u32 (0 - x)))*125613361)) (2 ^ 27))) 0))))
def sQ8 (N:Nat):Int->(Kz4)->Bool:=ax N (GQ8 N)
def Ks (N:Nat) (z:Bool) (z_1:LI) (e0:Kz4) (e1:Bool):(Int)->((Int)->Bool)->Bool:=λv_ K=>match v_ with
 | i=>(cond (decide (i<((z_1.length:Nat):Int))) (inR i z_1.length&&cond ((z_1.getD i.toNat 0) != 0) (af .i64 (32*i)&&(inR i z_1.length&&sQ8 N (z_1.getD i.toNat 0) (λnr=>af .i64 ((32*i)+nr)&&e0 (IntKind.wrap .u64 ((32*i)+nr))))) (af .i64 (i+1)&&K (i+1))) e1)
def GQ1 (N:Nat) (b:Bool) (ZX:LI) (k0:Kz4):Bool:=
 (ah N (Ks N b ZX (λt2=>k0 t2) (k0 0)) 0)
def sQ1 (N:Nat):Bool->LI->(Kz4)->Bool:=ax N (GQ1 N)
def kS (N:Nat) (Z0:LI) (w s:Int) (e0:Kz8):(Int × LI)->((Int × LI)->Bool)->Bool:=λv_ K=>match v_ with
 | (i,out)=>(cond (decide (i<((out.length:Nat):Int))) (af .i64 (w+i)&&(inR (w+i) Z0.length&&(af .i64 (w+i)&&(af .i64 ((w+i)+1)&&cond (decide (((w+i)+1)<((Z0.length:Nat):Int))) (af .i64 (w+i)&&(af .i64 ((w+i)+1)&&(inR ((w+i)+1) Z0.length&&(decide (0<=s)&&(inR i out.length&&(decide (i.toNat<out.length)&&(af .i64 (i+1)&&K ((i+1),(out.set i.toNat (IntKind.wrap .u32 (Int.fdiv (aD .or .u64 (IntKind.wrap .u64 (Z0.getD (Int.toNat (w+i)) 0)) (IntKind.wrap .u64 ((IntKind.wrap .u64 (Z0.getD (Int.toNat ((w+i)+1)) 0))*2 ^ 32))) (2 ^ (min s.toNat 64))))))))))))) (decide (0<=s)&&(inR i out.length&&(decide (i.toNat<out.length)&&(af .i64 (i+1)&&K ((i+1),(out.set i.toNat (IntKind.wrap .u32 (Int.fdiv (IntKind.wrap .u64 (Z0.getD (Int.toNat (w+i)) 0)) (2 ^ (min s.toNat 64)))))))))))))) (e0 out))
def TN (N:Nat) (m:LI) (n:Int) (k0:Kz8):Bool:=
 (af .i64 (IntKind.wrap .u64 (Int.tdiv n 32))&&cond (decide ((IntKind.wrap .u64 (Int.tdiv n 32))>=((m.length:Nat):Int))) (k0 []) (af .i64 (((m.length:Nat):Int) - (IntKind.wrap .u64 (Int.tdiv n 32)))&&(gu 4 (((m.length:Nat):Int) - (IntKind.wrap .u64 (Int.tdiv n 32))) (((m.length:Nat):Int) - (IntKind.wrap .u64 (Int.tdiv n 32)))&&ah N (kS N m (IntKind.wrap .u64 (Int.tdiv n 32)) (Int.tmod n 32) (λaaf=>pY N aaf (λmr=>decide ((0+mr)<=aaf.length)&&k0 (List.take mr (List.drop 0 aaf))))) (0,(List.replicate (Int.toNat (((m.length:Nat):Int) - (IntKind.wrap .u64 (Int.tdiv n 32)))) (0:Int))))))
def CB (N:Nat):LI->Int->(Kz8)->Bool:=ax N (TN N)
def M8 (N:Nat) (x:Int) (k0:Kz4):Bool:=
 (cond (decide (x>=65536)) (cond (decide ((Int.fdiv x (2 ^ 16))>=256)) (inR (IntKind.wrap .u8 (Int.fdiv (Int.fdiv x (2 ^ 16)) (2 ^ 8))) 256&&(af .i64 (ay.getD (Int.toNat (IntKind.wrap .u8 (Int.fdiv (Int.fdiv x (2 ^ 16)) (2 ^ 8)))) 0)&&(af .i64 (24+(ay.getD (Int.toNat (IntKind.wrap .u8 (Int.fdiv (Int.fdiv x (2 ^ 16)) (2 ^ 8)))) 0))&&k0 (24+(ay.getD (Int.toNat (IntKind.wrap .u8 (Int.fdiv (Int.fdiv x (2 ^ 16)) (2 ^ 8)))) 0))))) (inR (IntKind.wrap .u8 (Int.fdiv x (2 ^ 16))) 256&&(af .i64 (ay.getD (Int.toNat (IntKind.wrap .u8 (Int.fdiv x (2 ^ 16)))) 0)&&(af .i64 (16+(ay.getD (Int.toNat (IntKind.wrap .u8 (Int.fdiv x (2 ^ 16)))) 0))&&k0 (16+(ay.getD (Int.toNat (IntKind.wrap .u8 (Int.fdiv x (2 ^ 16)))) 0)))))) (cond (decide (x>=256)) (inR (IntKind.wrap .u8 (Int.fdiv x (2 ^ 8))) 256&&(af .i64 (ay.getD (Int.toNat (IntKind.wrap .u8 (Int.fdiv x (2 ^ 8)))) 0)&&(af .i64 (8+(ay.getD (Int.toNat (IntKind.wrap .u8 (Int.fdiv x (2 ^ 8)))) 0))&&k0 (8+(ay.getD (Int.toNat (IntKind.wrap .u8 (Int.fdiv x (2 ^ 8)))) 0))))) (inR (IntKind.wrap .u8 x) 256&&(af .i64 (ay.getD (Int.toNat (IntKind.wrap .u8 x)) 0)&&(af .i64 (0+(ay.getD (Int.toNat (IntKind.wrap .u8 x)) 0))&&k0 (0+(ay.getD (Int.toNat (IntKind.wrap .u8 x)) 0)))))))
def Kf (N:Nat):Int->(Kz4)->Bool:=ax N (M8 N)
def TL (N:Nat) (b:Bool) (ZX:LI) (k0:Kz4):Bool:=
 (cond (((ZX.length:Nat):Int)==0) (k0 0) (af .i64 (((ZX.length:Nat):Int) - 1)&&(af .i64 (32*(((ZX.length:Nat):Int) - 1))&&(af .i64 (((ZX.length:Nat):Int) - 1)&&(inR (((ZX.length:Nat):Int) - 1) ZX.length&&Kf N (ZX.getD (Int.toNat (((ZX.length:Nat):Int) - 1)) 0) (λnr=>af .i64 ((32*(((ZX.length:Nat):Int) - 1))+nr)&&k0 ((32*(((ZX.length:Nat):Int) - 1))+nr)))))))
def Mt (N:Nat):Bool->LI->(Kz4)->Bool:=ax N (TL N)
def wn (N:Nat) (Z4 ZX:LI) (e0:Kz4) (e1:Bool):(Int)->((Int)->Bool)->Bool:=λv_ K=>match v_ with
 | i=>(cond (decide (i>=0)) (inR i Z4.length&&(inR i ZX.length&&cond (decide ((Z4.getD i.toNat 0)<(ZX.getD i.toNat 0))) (e0 (-1)) (inR i Z4.length&&(inR i ZX.length&&cond (decide ((Z4.getD i.toNat 0)>(ZX.getD i.toNat 0))) (e0 1) (af .i64 (i - 1)&&K (i - 1)))))) e1)
def TV (N:Nat) (a b:LI) (k0:Kz4):Bool:=
 (cond (((a.length:Nat):Int) != ((b.length:Nat):Int)) (cond (decide (((a.length:Nat):Int)<((b.length:Nat):Int))) (k0 (-1)) (k0 1)) (af .i64 (((a.length:Nat):Int) - 1)&&ah N (wn N a b (λt4=>k0 t4) (k0 0)) (((a.length:Nat):Int) - 1)))
def G2 (N:Nat):LI->LI->(Kz4)->Bool:=ax N (TV N)
def l8 (N:Nat) (x:LI) (e0:Kz4):(Int × Int)->((Int × Int)->Bool)->Bool:=λv_ K=>match v_ with
 | (u,i)=>(cond (decide (i>=0)) (inR i x.length&&(af .i64 (i - 1)&&K ((aD .or .u64 (IntKind.wrap .u64 (u*2 ^ 32)) (IntKind.wrap .u64 (x.getD i.toNat 0))),(i - 1)))) (e0 u))
def vw (N:Nat) (m:LI) (at_:Int) (k0:Kz4):Bool:=
 (CB N m (IntKind.wrap .u64 at_) (λnsr=>af .i64 (((nsr.length:Nat):Int) - 1)&&ah N (l8 N nsr (λu_1=>k0 u_1)) (0,(((nsr.length:Nat):Int) - 1))))
def rj (N:Nat):LI->Int->(Kz4)->Bool:=ax N (vw N)
def p_ (N:Nat) (e0:Kx7):(Int × Int × Int × Int × Int × Int)->((Int × Int × Int × Int × Int × Int)->Bool)->Bool:=λv_ K=>match v_ with
 | (a,b,c,d,p,q)=>(af .i64 (q+c)&&cond (((q+c) != 0)==true) (af .i64 (q+d)&&cond ((q+d) != 0) (af .i64 (p+a)&&(af .i64 (q+c)&&((!decide ((q+c)=0))&&(af .i64 (Int.tdiv (p+a) (q+c))&&(af .i64 (p+b)&&(af .i64 (q+d)&&((!decide ((q+d)=0))&&(af .i64 (Int.tdiv (p+b) (q+d))&&cond ((Int.tdiv (p+a) (q+c)) != (Int.tdiv (p+b) (q+d))) (e0 a b c d) (af .i64 ((Int.tdiv (p+a) (q+c))*c)&&(af .i64 (a - ((Int.tdiv (p+a) (q+c))*c))&&(af .i64 ((Int.tdiv (p+a) (q+c))*d)&&(af .i64 (b - ((Int.tdiv (p+a) (q+c))*d))&&cond ((decide ((a - ((Int.tdiv (p+a) (q+c))*c))>1073741824))==false) (cond ((decide ((a - ((Int.tdiv (p+a) (q+c))*c))<(-1073741824)))==false) (cond ((decide ((b - ((Int.tdiv (p+a) (q+c))*d))>1073741824))==false) (cond (decide ((b - ((Int.tdiv (p+a) (q+c))*d))<(-1073741824))) (e0 a b c d) (af .i64 ((Int.tdiv (p+a) (q+c))*q)&&(af .i64 (p - ((Int.tdiv (p+a) (q+c))*q))&&K (c,d,(a - ((Int.tdiv (p+a) (q+c))*c)),(b - ((Int.tdiv (p+a) (q+c))*d)),q,(p - ((Int.tdiv (p+a) (q+c))*q)))))) (e0 a b c d)) (e0 a b c d)) (e0 a b c d))))))))))))) (e0 a b c d)) (e0 a b c d))
def sq (N:Nat) (x y:Int) (k0:Kx7):Bool:=
 (af .i64 x&&(af .i64 y&&ah N (p_ N (λZ4 ZX c_1 d_1=>k0 Z4 ZX c_1 d_1)) (1,0,0,1,x,y)))
def tM (N:Nat):Int->Int->(Kx7)->Bool:=ax N (sq N)
def kT (N:Nat) (Z0:LI) (d_1:Int) (e0:Ky9):(Int × Int × LI)->((Int × Int × LI)->Bool)->Bool:=λv_ K=>match v_ with
 | (r,i,out)=>(cond (decide (i>=0)) (inR i Z0.length&&((!decide ((IntKind.wrap .u64 d_1)=0))&&(inR i out.length&&(decide (i.toNat<out.length)&&((!decide ((IntKind.wrap .u64 d_1)=0))&&(af .i64 (i - 1)&&K ((Int.tmod (aD .or .u64 (IntKind.wrap .u64 (r*2 ^ 32)) (IntKind.wrap .u64 (Z0.getD i.toNat 0))) (IntKind.wrap .u64 d_1)),(i - 1),(out.set i.toNat (IntKind.wrap .u32 (IntKind.wrap .u64 (Int.tdiv (aD .or .u64 (IntKind.wrap .u64 (r*2 ^ 32)) (IntKind.wrap .u64 (Z0.getD i.toNat 0))) (IntKind.wrap .u64 d_1)))))))))))) (e0 r out))
def so (N:Nat) (m:LI) (d:Int) (k0:LI->Int->Bool):Bool:=
 (gu 4 ((m.length:Nat):Int) ((m.length:Nat):Int)&&(af .i64 (((m.length:Nat):Int) - 1)&&ah N (kT N m d (λr_1 aaf=>pY N aaf (λmr=>decide ((0+mr)<=aaf.length)&&k0 (List.take mr (List.drop 0 aaf)) (IntKind.wrap .u32 r_1)))) (0,(((m.length:Nat):Int) - 1),(List.replicate (Int.toNat ((m.length:Nat):Int)) (0:Int)))))
def oZ (N:Nat):LI->Int->(LI->Int->Bool)->Bool:=ax N (so N)
def W8 (N:Nat) (x:Int) (k0:Kz4):Bool:=
 (Kf N x (λnr=>af .i64 (32 - nr)&&k0 (32 - nr)))
def Wl (N:Nat):Int->(Kz4)->Bool:=W8 N
def oy (N:Nat) (Z0:LI) (w s:Int) (e0:Kz8):(Int × LI)->((Int × LI)->Bool)->Bool:=λv_ K=>match v_ with
 | (i,out)=>(cond (decide (i<((Z0.length:Nat):Int))) (inR i Z0.length&&(decide (0<=s)&&(af .i64 (w+i)&&(inR (w+i) out.length&&(decide ((Int.toNat (w+i))<out.length)&&(inR (w+i) out.length&&(decide ((Int.toNat (w+i))<out.length)&&(af .i64 (w+i)&&(af .i64 ((w+i)+1)&&(inR ((w+i)+1) (List.length (out.set (Int.toNat (w+i)) (aD .or .u32 (out.getD (Int.toNat (w+i)) 0) (IntKind.wrap .u32 (IntKind.wrap .u64 ((IntKind.wrap .u64 (Z0.getD i.toNat 0))*2 ^ (min s.toNat 64)))))))&&(decide ((Int.toNat ((w+i)+1))<(List.length (out.set (Int.toNat (w+i)) (aD .or .u32 (out.getD (Int.toNat (w+i)) 0) (IntKind.wrap .u32 (IntKind.wrap .u64 ((IntKind.wrap .u64 (Z0.getD i.toNat 0))*2 ^ (min s.toNat 64))))))))&&(af .i64 (i+1)&&K ((i+1),(List.set (out.set (Int.toNat (w+i)) (aD .or .u32 (out.getD (Int.toNat (w+i)) 0) (IntKind.wrap .u32 (IntKind.wrap .u64 ((IntKind.wrap .u64 (Z0.getD i.toNat 0))*2 ^ (min s.toNat 64)))))) (Int.toNat ((w+i)+1)) (IntKind.wrap .u32 (Int.fdiv (IntKind.wrap .u64 ((IntKind.wrap .u64 (Z0.getD i.toNat 0))*2 ^ (min s.toNat 64))) (2 ^ 32))))))))))))))))) (e0 out))
def MO (N:Nat) (m:LI) (n:Int) (k0:Bool) (k1:Kz0):Bool:=
 (cond (((m.length:Nat):Int)==0) k0 (af .i64 (IntKind.wrap .u64 (Int.tdiv n 32))&&(af .i64 ((IntKind.wrap .u64 (Int.tdiv n 32))+((m.length:Nat):Int))&&(af .i64 (((IntKind.wrap .u64 (Int.tdiv n 32))+((m.length:Nat):Int))+1)&&(gu 4 (((IntKind.wrap .u64 (Int.tdiv n 32))+((m.length:Nat):Int))+1) (((IntKind.wrap .u64 (Int.tdiv n 32))+((m.length:Nat):Int))+1)&&ah N (oy N m (IntKind.wrap .u64 (Int.tdiv n 32)) (Int.tmod n 32) (λaaf=>pY N aaf (λmr=>k1 mr aaf))) (0,(List.replicate (Int.toNat (((IntKind.wrap .u64 (Int.tdiv n 32))+((m.length:Nat):Int))+1)) (0:Int))))))))
def GJ (N:Nat):LI->Int->(Bool)->(Kz0)->Bool:=ax N (MO N)
def g8 (N u u_2 d d_2:Nat) (j_1 g_1:Int) (d_3:LI) (e0:Int->Int->LI->Bool):(Int × Int × Int × LI)->((Int × Int × Int × LI)->Bool)->Bool:=λv_ K=>match v_ with
 | (carry,borrow,i,u_3)=>(cond (decide (i<((d_2:Nat):Int))) (inR i d_2&&(decide ((d+i.toNat)<d_3.length)&&(af .i64 (j_1+i)&&(inR (j_1+i) u_2&&(decide ((u+(Int.toNat (j_1+i)))<u_3.length)&&cond (decide ((IntKind.wrap .u64 (u_3.getD (u+(Int.toNat (j_1+i))) 0))<(IntKind.wrap .u64 ((aD .and .u64 (IntKind.wrap .u64 ((IntKind.wrap .u64 (g_1*(IntKind.wrap .u64 (d_3.getD (d+i.toNat) 0))))+carry)) 4294967295)+borrow)))) (af .i64 (j_1+i)&&(inR (j_1+i) u_2&&(decide ((u+(Int.toNat (j_1+i)))<u_3.length)&&(af .i64 (i+1)&&K ((Int.fdiv (IntKind.wrap .u64 ((IntKind.wrap .u64 (g_1*(IntKind.wrap .u64 (d_3.getD (d+i.toNat) 0))))+carry)) (2 ^ 32)),1,(i+1),(u_3.set (u+(Int.toNat (j_1+i))) (IntKind.wrap .u32 (IntKind.wrap .u64 ((IntKind.wrap .u64 ((IntKind.wrap .u64 (u_3.getD (u+(Int.toNat (j_1+i))) 0))+4294967296)) - (IntKind.wrap .u64 ((aD .and .u64 (IntKind.wrap .u64 ((IntKind.wrap .u64 (g_1*(IntKind.wrap .u64 (d_3.getD (d+i.toNat) 0))))+carry)) 4294967295)+borrow))))))))))) (af .i64 (j_1+i)&&(inR (j_1+i) u_2&&(decide ((u+(Int.toNat (j_1+i)))<u_3.length)&&(af .i64 (i+1)&&K ((Int.fdiv (IntKind.wrap .u64 ((IntKind.wrap .u64 (g_1*(IntKind.wrap .u64 (d_3.getD (d+i.toNat) 0))))+carry)) (2 ^ 32)),0,(i+1),(u_3.set (u+(Int.toNat (j_1+i))) (IntKind.wrap .u32 (IntKind.wrap .u64 ((IntKind.wrap .u64 (u_3.getD (u+(Int.toNat (j_1+i))) 0)) - (IntKind.wrap .u64 ((aD .and .u64 (IntKind.wrap .u64 ((IntKind.wrap .u64 (g_1*(IntKind.wrap .u64 (d_3.getD (d+i.toNat) 0))))+carry)) 4294967295)+borrow)))))))))))))))) (e0 carry borrow u_3))
def Nk (N u_0 u_1 d_0 d_1:Nat) (j g:Int) (b ZX:LI) (k0:Ky4):Bool:=
 (ah N (g8 N u_0 u_1 d_0 d_1 j g ZX (λaam abd u_4=>af .i64 (j+((d_1:Nat):Int))&&(inR (j+((d_1:Nat):Int)) u_1&&(decide ((u_0+(Int.toNat (j+((d_1:Nat):Int))))<u_4.length)&&(af .i64 (j+((d_1:Nat):Int))&&(inR (j+((d_1:Nat):Int)) u_1&&(decide ((u_0+(Int.toNat (j+((d_1:Nat):Int))))<u_4.length)&&k0 (decide ((IntKind.wrap .u64 (u_4.getD (u_0+(Int.toNat (j+((d_1:Nat):Int)))) 0))<(IntKind.wrap .u64 (aam+abd)))) (u_4.set (u_0+(Int.toNat (j+((d_1:Nat):Int)))) (IntKind.wrap .u32 (IntKind.wrap .u64 ((IntKind.wrap .u64 (u_4.getD (u_0+(Int.toNat (j+((d_1:Nat):Int)))) 0)) - (IntKind.wrap .u64 (aam+abd))))))))))))) (0,0,0,b))
def PM (N:Nat):Nat->Nat->Nat->Nat->Int->Int->LI->LI->(Ky4)->Bool:=ax N (Nk N)
def g9 (N u u_2 d d_2:Nat) (j_1:Int) (d_3:LI) (e0:Ky9):(Int × Int × LI)->((Int × Int × LI)->Bool)->Bool:=λv_ K=>match v_ with
 | (carry,i,u_3)=>(cond (decide (i<((d_2:Nat):Int))) (af .i64 (j_1+i)&&(inR (j_1+i) u_2&&(decide ((u+(Int.toNat (j_1+i)))<u_3.length)&&(inR i d_2&&(decide ((d+i.toNat)<d_3.length)&&(af .i64 (j_1+i)&&(inR (j_1+i) u_2&&(decide ((u+(Int.toNat (j_1+i)))<u_3.length)&&(af .i64 (i+1)&&K ((Int.fdiv (IntKind.wrap .u64 ((IntKind.wrap .u64 ((IntKind.wrap .u64 (u_3.getD (u+(Int.toNat (j_1+i))) 0))+(IntKind.wrap .u64 (d_3.getD (d+i.toNat) 0))))+carry)) (2 ^ 32)),(i+1),(u_3.set (u+(Int.toNat (j_1+i))) (IntKind.wrap .u32 (IntKind.wrap .u64 ((IntKind.wrap .u64 ((IntKind.wrap .u64 (u_3.getD (u+(Int.toNat (j_1+i))) 0))+(IntKind.wrap .u64 (d_3.getD (d+i.toNat) 0))))+carry)))))))))))))) (e0 carry u_3))
def Nl (N u_0 u_1 d_0 d_1:Nat) (j:Int) (b ZX:LI) (k0:Kz8):Bool:=
 (ah N (g9 N u_0 u_1 d_0 d_1 j ZX (λaam u_4=>af .i64 (j+((d_1:Nat):Int))&&(inR (j+((d_1:Nat):Int)) u_1&&(decide ((u_0+(Int.toNat (j+((d_1:Nat):Int))))<u_4.length)&&(inR (j+((d_1:Nat):Int)) u_1&&(decide ((u_0+(Int.toNat (j+((d_1:Nat):Int))))<u_4.length)&&k0 (u_4.set (u_0+(Int.toNat (j+((d_1:Nat):Int)))) (IntKind.wrap .u32 ((u_4.getD (u_0+(Int.toNat (j+((d_1:Nat):Int)))) 0)+(IntKind.wrap .u32 aam)))))))))) (0,0,b))
def PN (N:Nat):Nat->Nat->Nat->Nat->Int->LI->LI->(Kz8)->Bool:=ax N (Nl N)
def wt (N m:Nat) (m_3:LI) (e0:Kz5):(Nat)->((Nat)->Bool)->Bool:=λv_ K=>match v_ with
 | Z7=>(cond ((decide (((Z7:Nat):Int)>0))==true) (af .i64 (((Z7:Nat):Int) - 1)&&(inR (((Z7:Nat):Int) - 1) Z7&&(decide ((m+(Int.toNat (((Z7:Nat):Int) - 1)))<m_3.length)&&cond ((m_3.getD (m+(Int.toNat (((Z7:Nat):Int) - 1))) 0)==0) (af .i64 (((Z7:Nat):Int) - 1)&&(decide (0<=(((Z7:Nat):Int) - 1)/\(((Z7:Nat):Int) - 1)<=((Z7:Nat):Int))&&K ((Int.toNat (((Z7:Nat):Int) - 1)) - 0))) (e0 Z7)))) (e0 Z7))
def sk (N m_0 Z0:Nat) (b:LI) (k0:Kz5):Bool:=
 (ah N (wt N m_0 b (λm_4=>k0 m_4)) Z0)
def tK (N:Nat):Nat->Nat->LI->(Kz5)->Bool:=ax N (sk N)
def i8 (N m Z7:Nat) (w s:Int) (m_3:LI) (e0:Kz8):(Int × LI)->((Int × LI)->Bool)->Bool:=λv_ K=>match v_ with
 | (i,out)=>(cond (decide (i<((out.length:Nat):Int))) (af .i64 (w+i)&&(inR (w+i) Z7&&(decide ((m+(Int.toNat (w+i)))<m_3.length)&&(af .i64 (w+i)&&(af .i64 ((w+i)+1)&&cond (decide (((w+i)+1)<((Z7:Nat):Int))) (af .i64 (w+i)&&(af .i64 ((w+i)+1)&&(inR ((w+i)+1) Z7&&(decide ((m+(Int.toNat ((w+i)+1)))<m_3.length)&&(decide (0<=s)&&(inR i out.length&&(decide (i.toNat<out.length)&&(af .i64 (i+1)&&K ((i+1),(out.set i.toNat (IntKind.wrap .u32 (Int.fdiv (aD .or .u64 (IntKind.wrap .u64 (m_3.getD (m+(Int.toNat (w+i))) 0)) (IntKind.wrap .u64 ((IntKind.wrap .u64 (m_3.getD (m+(Int.toNat ((w+i)+1))) 0))*2 ^ 32))) (2 ^ (min s.toNat 64)))))))))))))) (decide (0<=s)&&(inR i out.length&&(decide (i.toNat<out.length)&&(af .i64 (i+1)&&K ((i+1),(out.set i.toNat (IntKind.wrap .u32 (Int.fdiv (IntKind.wrap .u64 (m_3.getD (m+(Int.toNat (w+i))) 0)) (2 ^ (min s.toNat 64))))))))))))))) (e0 out))
def Ny (N m_0 Z0:Nat) (n:Int) (b:LI) (k0:Kz8):Bool:=
 (af .i64 (IntKind.wrap .u64 (Int.tdiv n 32))&&cond (decide ((IntKind.wrap .u64 (Int.tdiv n 32))>=((Z0:Nat):Int))) (k0 []) (af .i64 (((Z0:Nat):Int) - (IntKind.wrap .u64 (Int.tdiv n 32)))&&(gu 4 (((Z0:Nat):Int) - (IntKind.wrap .u64 (Int.tdiv n 32))) (((Z0:Nat):Int) - (IntKind.wrap .u64 (Int.tdiv n 32)))&&ah N (i8 N m_0 Z0 (IntKind.wrap .u64 (Int.tdiv n 32)) (Int.tmod n 32) b (λaaf=>pY N aaf (λmr=>decide ((0+mr)<=aaf.length)&&k0 (List.take mr (List.drop 0 aaf))))) (0,(List.replicate (Int.toNat (((Z0:Nat):Int) - (IntKind.wrap .u64 (Int.tdiv n 32)))) (0:Int))))))
def PS (N:Nat):Nat->Nat->Int->LI->(Kz8)->Bool:=ax N (Ny N)
def pw (N:Nat) (Z4:LI) (s:Int) (e0:Kz0):(Nat × LI)->((Nat × LI)->Bool)->Bool:=λv_ K=>match v_ with
 | (u,u_1)=>(af .i64 (((Z4.length:Nat):Int)+1)&&cond (decide (((u:Nat):Int)<(((Z4.length:Nat):Int)+1))) (decide ((0+u)<=u_1.length)&&(decide ((List.length ((List.take u (List.drop 0 u_1))++[0]))*4<=140737488355328)&&K ((List.length ((List.take u (List.drop 0 u_1))++[0])),((List.take u (List.drop 0 u_1))++[0])))) (e0 u u_1))
def t_ (N:Nat) (a_2:LI) (s_1:Int) (d:Nat) (d_1:LI) (e0:Kz0):(Nat × LI)->((Nat × LI)->Bool)->Bool:=λv_ K=>match v_ with
 | (u_6,u_7)=>(af .i64 (((a_2.length:Nat):Int)+1)&&cond (decide (((u_6:Nat):Int)<(((a_2.length:Nat):Int)+1))) (decide ((0+u_6)<=u_7.length)&&(decide ((List.length ((List.take u_6 (List.drop 0 u_7))++[0]))*4<=140737488355328)&&K ((List.length ((List.take u_6 (List.drop 0 u_7))++[0])),((List.take u_6 (List.drop 0 u_7))++[0])))) (e0 u_6 u_7))
def pu (N:Nat) (s_5:Int) (d_6 adR:Nat) (n_1 abZ j_1:Int) (d_7 adB q_1:LI) (e0:Kz4):(Int × Int)->((Int × Int)->Bool)->Bool:=λv_ K=>match v_ with
 | (g,r)=>(cond ((decide (g>=4294967296))==false) (af .i64 (n_1 - 2)&&(inR (n_1 - 2) d_6&&(decide ((0+(Int.toNat (n_1 - 2)))<d_7.length)&&(af .i64 (j_1+n_1)&&(af .i64 ((j_1+n_1) - 2)&&(inR ((j_1+n_1) - 2) adR&&(decide ((0+(Int.toNat ((j_1+n_1) - 2)))<adB.length)&&cond (decide ((IntKind.wrap .u64 (g*(IntKind.wrap .u64 (d_7.getD (0+(Int.toNat (n_1 - 2))) 0))))>(aD .or .u64 (IntKind.wrap .u64 (r*2 ^ 32)) (IntKind.wrap .u64 (adB.getD (0+(Int.toNat ((j_1+n_1) - 2))) 0))))) (cond (decide ((IntKind.wrap .u64 (r+abZ))>=4294967296)) (e0 (IntKind.wrap .u64 (g - 1))) (K ((IntKind.wrap .u64 (g - 1)),(IntKind.wrap .u64 (r+abZ))))) (e0 g)))))))) (cond (decide ((IntKind.wrap .u64 (r+abZ))>=4294967296)) (e0 (IntKind.wrap .u64 (g - 1))) (K ((IntKind.wrap .u64 (g - 1)),(IntKind.wrap .u64 (r+abZ))))))
def jE (N:Nat) (s_4:Int) (d_4 acs:Nat) (n top:Int) (d_5:LI) (e0:Kz2):(Int × LI × LI)->((Int × LI × LI)->Bool)->Bool:=λv_ K=>match v_ with
 | (j,ace,q)=>(cond (decide (j>=0)) (af .i64 (j+n)&&(inR (j+n) acs&&(decide ((0+(Int.toNat (j+n)))<ace.length)&&(af .i64 (j+n)&&(af .i64 ((j+n) - 1)&&(inR ((j+n) - 1) acs&&(decide ((0+(Int.toNat ((j+n) - 1)))<ace.length)&&((!decide (top=0))&&((!decide (top=0))&&ah N (pu N s_4 d_4 acs n top j d_5 ace q (λg_1=>PM N 0 acs 0 d_4 j g_1 ace d_5 (λcr aac=>cond cr (PN N 0 acs 0 d_4 j aac d_5 (λZ_=>inR j q.length&&(decide (j.toNat<q.length)&&(af .i64 (j - 1)&&K ((j - 1),Z_,(q.set j.toNat (IntKind.wrap .u32 (IntKind.wrap .u64 (g_1 - 1))))))))) (inR j q.length&&(decide (j.toNat<q.length)&&(af .i64 (j - 1)&&K ((j - 1),aac,(q.set j.toNat (IntKind.wrap .u32 g_1))))))))) ((IntKind.wrap .u64 (Int.tdiv (aD .or .u64 (IntKind.wrap .u64 ((IntKind.wrap .u64 (ace.getD (0+(Int.toNat (j+n))) 0))*2 ^ 32)) (IntKind.wrap .u64 (ace.getD (0+(Int.toNat ((j+n) - 1))) 0))) top)),(Int.tmod (aD .or .u64 (IntKind.wrap .u64 ((IntKind.wrap .u64 (ace.getD (0+(Int.toNat (j+n))) 0))*2 ^ 32)) (IntKind.wrap .u64 (ace.getD (0+(Int.toNat ((j+n) - 1))) 0))) top))))))))))) (e0 ace q))
def qt (N:Nat) (a b:LI) (s_3:Int) (d_2 acr:Nat) (d_3 afc:LI) (k0:Kz2):Bool:=
 (af .i64 (((acr:Nat):Int) - ((d_2:Nat):Int))&&(gu 4 (((acr:Nat):Int) - ((d_2:Nat):Int)) (((acr:Nat):Int) - ((d_2:Nat):Int))&&(af .i64 (((d_2:Nat):Int) - 1)&&(inR (((d_2:Nat):Int) - 1) d_2&&(decide ((0+(Int.toNat (((d_2:Nat):Int) - 1)))<d_3.length)&&(af .i64 ((((List.length (List.replicate (Int.toNat (((acr:Nat):Int) - ((d_2:Nat):Int))) (0:Int))):Nat):Int) - 1)&&ah N (jE N s_3 d_2 acr ((d_2:Nat):Int) (IntKind.wrap .u64 (d_3.getD (0+(Int.toNat (((d_2:Nat):Int) - 1))) 0)) d_3 (λaeJ q_2=>pY N q_2 (λadh=>decide (0<=((d_2:Nat):Int)/\((d_2:Nat):Int)<=((acr:Nat):Int))&&tK N 0 ((Int.toNat ((d_2:Nat):Int)) - 0) aeJ (λae9=>PS N 0 ae9 s_3 aeJ (λs6=>decide ((0+adh)<=q_2.length)&&k0 (List.take adh (List.drop 0 q_2)) s6))))) (((((List.length (List.replicate (Int.toNat (((acr:Nat):Int) - ((d_2:Nat):Int))) (0:Int))):Nat):Int) - 1),afc,(List.replicate (Int.toNat (((acr:Nat):Int) - ((d_2:Nat):Int))) (0:Int)))))))))
def wJ (N:Nat) (a b:LI) (s_2:Int) (aen:Nat) (afm:LI) (k0:Kz2):Bool:=
 (af .i64 (((aen:Nat):Int) - 0)&&(gu 4 (((aen:Nat):Int) - 0) (((aen:Nat):Int) - 0)&&false))
def EY (N:Nat) (a b:LI) (k0:Kz2):Bool:=
 (G2 N a b (λnr=>cond (decide (nr<0)) (decide ((List.length ([]++a))*4<=140737488355328)&&k0 [] ([]++a)) (cond (((b.length:Nat):Int)==1) (inR 0 b.length&&oZ N a (b.getD 0 0) (λnsr ZY=>pY N [ZY] (λmr=>decide ((0+mr)<=(List.length [ZY]))&&k0 nsr (List.take mr (List.drop 0 [ZY]))))) (af .i64 (((b.length:Nat):Int) - 1)&&(inR (((b.length:Nat):Int) - 1) b.length&&Wl N (b.getD (Int.toNat (((b.length:Nat):Int) - 1)) 0) (λZ2=>GJ N b (IntKind.wrap .u64 Z2) (GJ N a (IntKind.wrap .u64 Z2) (ah N (pw N a (IntKind.wrap .u64 Z2) (λu_2 u_3=>wJ N a b (IntKind.wrap .u64 Z2) u_2 u_3 k0)) (0,[])) (λaan Z5=>ah N (pw N a (IntKind.wrap .u64 Z2) (λu_4 u_5=>wJ N a b (IntKind.wrap .u64 Z2) u_4 u_5 k0)) (aan,Z5))) (λaaO ZZ=>GJ N a (IntKind.wrap .u64 Z2) (ah N (t_ N a (IntKind.wrap .u64 Z2) aaO ZZ (λu_8 u_9=>qt N a b (IntKind.wrap .u64 Z2) aaO u_8 ZZ u_9 k0)) (0,[])) (λac6 Z6=>ah N (t_ N a (IntKind.wrap .u64 Z2) aaO ZZ (λabB abG=>qt N a b (IntKind.wrap .u64 Z2) aaO abB ZZ abG k0)) (ac6,Z6)))))))))
def pX (N:Nat):LI->LI->(Kz2)->Bool:=ax N (EY N)
def kV (N:Nat) (a_2 Z3:LI) (i_1:Int) (e0:Ky9):(Int × Int × LI)->((Int × Int × LI)->Bool)->Bool:=λv_ K=>match v_ with
 | (carry,k_,aaf)=>(cond (decide (k_<((Z3.length:Nat):Int))) (inR i_1 a_2.length&&(inR k_ Z3.length&&(af .i64 (i_1+k_)&&(inR (i_1+k_) aaf.length&&(decide ((Int.toNat (i_1+k_))<aaf.length)&&(af .i64 (i_1+k_)&&(inR (i_1+k_) aaf.length&&(decide ((Int.toNat (i_1+k_))<aaf.length)&&(af .i64 (k_+1)&&K ((Int.fdiv (IntKind.wrap .u64 ((IntKind.wrap .u64 ((IntKind.wrap .u64 ((IntKind.wrap .u64 (a_2.getD i_1.toNat 0))*(IntKind.wrap .u64 (Z3.getD k_.toNat 0))))+(IntKind.wrap .u64 (aaf.getD (Int.toNat (i_1+k_)) 0))))+carry)) (2 ^ 32)),(k_+1),(aaf.set (Int.toNat (i_1+k_)) (IntKind.wrap .u32 (IntKind.wrap .u64 ((IntKind.wrap .u64 ((IntKind.wrap .u64 ((IntKind.wrap .u64 (a_2.getD i_1.toNat 0))*(IntKind.wrap .u64 (Z3.getD k_.toNat 0))))+(IntKind.wrap .u64 (aaf.getD (Int.toNat (i_1+k_)) 0))))+carry)))))))))))))) (e0 carry aaf))
def kU (N:Nat) (Z4 ZX:LI) (e0:Kz8):(Int × LI)->((Int × LI)->Bool)->Bool:=λv_ K=>match v_ with
 | (i,out)=>(cond (decide (i<((Z4.length:Nat):Int))) (ah N (kV N Z4 ZX i (λaam aaL=>af .i64 (i+((ZX.length:Nat):Int))&&(inR (i+((ZX.length:Nat):Int)) aaL.length&&(decide ((Int.toNat (i+((ZX.length:Nat):Int)))<aaL.length)&&(af .i64 (i+1)&&K ((i+1),(aaL.set (Int.toNat (i+((ZX.length:Nat):Int))) (IntKind.wrap .u32 aam)))))))) (0,0,out)) (e0 out))
def TY (N:Nat) (a b:LI) (k0:Kz8):Bool:=
 (af .i64 (((a.length:Nat):Int)+((b.length:Nat):Int))&&(gu 4 (((a.length:Nat):Int)+((b.length:Nat):Int)) (((a.length:Nat):Int)+((b.length:Nat):Int))&&ah N (kU N a b (λabl=>pY N abl (λmr=>decide ((0+mr)<=abl.length)&&k0 (List.take mr (List.drop 0 abl))))) (0,(List.replicate (Int.toNat (((a.length:Nat):Int)+((b.length:Nat):Int))) (0:Int)))))
def zN (N:Nat):LI->LI->(Kz8)->Bool:=ax N (TY N)
def kR (N:Nat) (Z4 ZX:LI) (e0:Kz8):(Int × Int × LI)->((Int × Int × LI)->Bool)->Bool:=λv_ K=>match v_ with
 | (borrow,i,out)=>(cond (decide (i<((Z4.length:Nat):Int))) (cond (decide (i<((ZX.length:Nat):Int))) (inR i ZX.length&&(inR i Z4.length&&cond (decide ((IntKind.wrap .u64 (Z4.getD i.toNat 0))<(IntKind.wrap .u64 (borrow+(IntKind.wrap .u64 (ZX.getD i.toNat 0)))))) (inR i out.length&&(decide (i.toNat<out.length)&&(af .i64 (i+1)&&K (1,(i+1),(out.set i.toNat (IntKind.wrap .u32 (IntKind.wrap .u64 ((IntKind.wrap .u64 ((IntKind.wrap .u64 (Z4.getD i.toNat 0))+4294967296)) - (IntKind.wrap .u64 (borrow+(IntKind.wrap .u64 (ZX.getD i.toNat 0)))))))))))) (inR i out.length&&(decide (i.toNat<out.length)&&(af .i64 (i+1)&&K (0,(i+1),(out.set i.toNat (IntKind.wrap .u32 (IntKind.wrap .u64 ((IntKind.wrap .u64 (Z4.getD i.toNat 0)) - (IntKind.wrap .u64 (borrow+(IntKind.wrap .u64 (ZX.getD i.toNat 0)))))))))))))) (inR i Z4.length&&cond (decide ((IntKind.wrap .u64 (Z4.getD i.toNat 0))<borrow)) (inR i out.length&&(decide (i.toNat<out.length)&&(af .i64 (i+1)&&K (1,(i+1),(out.set i.toNat (IntKind.wrap .u32 (IntKind.wrap .u64 ((IntKind.wrap .u64 ((IntKind.wrap .u64 (Z4.getD i.toNat 0))+4294967296)) - borrow)))))))) (inR i out.length&&(decide (i.toNat<out.length)&&(af .i64 (i+1)&&K (0,(i+1),(out.set i.toNat (IntKind.wrap .u32 (IntKind.wrap .u64 ((IntKind.wrap .u64 (Z4.getD i.toNat 0)) - borrow)))))))))) (e0 out))
def sm (N:Nat) (a b:LI) (k0:Kz8):Bool:=
 (gu 4 ((a.length:Nat):Int) ((a.length:Nat):Int)&&ah N (kR N a b (λaaf=>pY N aaf (λmr=>decide ((0+mr)<=aaf.length)&&k0 (List.take mr (List.drop 0 aaf))))) (0,0,(List.replicate (Int.toNat ((a.length:Nat):Int)) (0:Int))))
def mK (N:Nat):LI->LI->(Kz8)->Bool:=ax N (sm N)
def NB (N:Nat) (a:LI) (u:Int) (b:LI) (v:Int) (k0:Kz8):Bool:=
 (Dy N u (λnsr=>zN N a nsr (λZZ=>Dy N v (λZ5=>zN N b Z5 (λZ6=>mK N ZZ Z6 (λaac=>k0 aac))))))
def Kj (N:Nat):LI->Int->LI->Int->(Kz8)->Bool:=ax N (NB N)
def uj (N:Nat) (a:LI) (u:Int) (b:LI) (v:Int) (k0:Kz8):Bool:=
 (cond (decide (v<=0)) (af .i64 (0 - v)&&Kj N a (IntKind.wrap .u64 u) b (IntKind.wrap .u64 (0 - v)) (λnsr=>k0 nsr)) (af .i64 (0 - u)&&Kj N b (IntKind.wrap .u64 v) a (IntKind.wrap .u64 (0 - u)) (λZZ=>k0 ZZ)))
def nG (N:Nat):LI->Int->LI->Int->(Kz8)->Bool:=ax N (uj N)
def BU (N:Nat) (e0:Kz2):(LI × LI)->((LI × LI)->Bool)->Bool:=λv_ K=>match v_ with
 | (a_2,Z3)=>(cond (decide (((Z3.length:Nat):Int)>2)) (Mt N false a_2 (λZY=>af .i64 (ZY - 62)&&rj N a_2 (ZY - 62) (λZ2=>rj N Z3 (ZY - 62) (λaag=>tM N Z2 aag (λaae n5 n6 n7=>cond (n5==0) (pX N a_2 Z3 (λnsr ZZ=>K (Z3,ZZ))) (nG N a_2 aae Z3 n5 (λZ5=>nG N a_2 n6 Z3 n7 (λZ6=>K (Z5,Z6))))))))) (e0 a_2 Z3))
def yz (N:Nat) (e0:Kz8):(LI × LI)->((LI × LI)->Bool)->Bool:=λv_ K=>match v_ with
 | (a_4,b_4)=>(cond (decide (((b_4.length:Nat):Int)>0)) (pX N a_4 b_4 (λaac Z_=>K (b_4,Z_))) (e0 a_4))
def Ji (N:Nat) (a b Z4 ZX:LI) (k0:Kz8):Bool:=
 (ah N (BU N (λa_3 b_3=>ah N (yz N (λa_5=>decide ((List.length ([]++a_5))*4<=140737488355328)&&k0 ([]++a_5))) (a_3,b_3))) (Z4,ZX))
def Nr (N:Nat) (a b:LI) (k0:Kz8):Bool:=
 (G2 N a b (λnr=>cond (decide (nr<0)) (Ji N a b b a k0) (Ji N a b a b k0)))
def GU (N:Nat):LI->LI->(Kz8)->Bool:=ax N (Nr N)
def KH (N:Nat) (neg:Bool) (a b:LI) (ZX Z3:Bool) (Z4 b_3:LI) (k0:Kx5):Bool:=
 (GR N neg Z4 ZX Z3 (λaaj aba s13=>GZ N false b_3 aaj aba Z3 s13 (λaay s14=>k0 aaj aba aay s14)))
def NG (N:Nat) (neg:Bool) (a b:LI) (ZX Z3:Bool) (n:Int) (k0:Kx5):Bool:=
 (CB N a n (λaac=>CB N b n (λZ_=>sQ1 N false Z_ (λZ2=>af .i64 Z2&&Mt N false Z_ (λaag=>af .i64 (aag - 1)&&cond (Z2 != (aag - 1)) (GU N aac Z_ (λs6=>rU N (λs7=>G2 N s6 s7 (λaae=>cond (aae != 0) (pX N aac s6 (λs8 s9=>pX N Z_ s6 (λs10 s11=>KH N neg a b ZX Z3 s8 s10 k0))) (KH N neg a b ZX Z3 aac Z_ k0))))) (KH N neg a b ZX Z3 aac Z_ k0))))))
def Tm (N:Nat) (neg:Bool) (a b:LI) (ZX Z3:Bool) (k0:Kx5):Bool:=
 (cond (((a.length:Nat):Int)==0) (GR N false [] ZX Z3 (λcr nsr ZZ=>rU N (λZ5=>GZ N false Z5 cr nsr Z3 ZZ (λZ1 Z6=>k0 cr nsr Z1 Z6)))) (sQ1 N false a (λnr=>sQ1 N false b (λZY=>cond (decide (ZY<nr)) (NG N neg a b ZX Z3 ZY k0) (NG N neg a b ZX Z3 nr k0)))))
def Mn (N:Nat):Bool->LI->LI->Bool->Bool->(Kx5)->Bool:=ax N (Tm N)
def W0 (N:Nat) (b ZX Z3:Bool) (b_3:LI) (k0:Kx5):Bool:=
 (rU N (λnsr=>Mn N Z3 b_3 nsr b ZX (λcr ZZ Z1 Z5=>k0 cr ZZ Z1 Z5)))
def RN (N:Nat):Bool->Bool->Bool->LI->(Kx5)->Bool:=W0 N
def jh (N:Nat) (n:Int) (b:Bool) (u:Int) (k0:Ky4):Bool:=
 (Dy N u (λnsr=>zm N (decide (n<0)) nsr b (λcr ZZ=>k0 cr ZZ)))
def M7 (N:Nat) (n:Int) (b:Bool) (k0:Ky4):Bool:=
 (cond (decide (n<0)) (jh N n b (IntKind.wrap .u64 (0 - (IntKind.wrap .u64 n))) k0) (jh N n b (IntKind.wrap .u64 n) k0))
def SV (N:Nat):Int->Bool->(Ky4)->Bool:=ax N (M7 N)
def wG (N:Nat) (n:Int) (k0:Ky4):Bool:=
 (SV N n false (λcr nsr=>k0 cr nsr))
def nt (N:Nat):Int->(Ky4)->Bool:=wG N
def W4 (N:Nat) (b ZX Z3:Bool) (b_3:LI) (b_4:Bool) (b_5:LI) (k0:Kx5):Bool:=
 (Mn N (Z3 != b_4) b_3 b_5 b ZX (λcr nsr Z1 ZZ=>k0 cr nsr Z1 ZZ))
def XK (N:Nat):Bool->Bool->Bool->LI->Bool->LI->(Kx5)->Bool:=W4 N
def TQ (N:Nat) (x:Int) (b:Bool) (ZX:LI) (k0:Kx5):Bool:=
 (cond (decide (x>=0)) (Wp N x 0 b ZX (RN N false false b ZX (λcr nsr Z1 ZZ=>k0 cr nsr Z1 ZZ)) (λaaj Z5=>RN N false false aaj Z5 (λaay Z6 abF aac=>k0 aay Z6 abF aac))) (nt N 1 (λaca Z_=>af .i64 (0 - x)&&Kd N (IntKind.wrap .u64 (0 - x)) false aca Z_ (λacD s6=>XK N false false b ZX acD s6 (λacE s7 c8 s8=>k0 acE s7 c8 s8)))))
def XO (N:Nat):Int->Bool->LI->(Kx5)->Bool:=ax N (TQ N)
def yF (N:Nat) (x:Fl) (k0:Kx5):Bool:=
 (BM N x (λnr cr nsr=>XO N nr cr nsr (λZ1 ZZ aaj Z5=>k0 Z1 ZZ aaj Z5)))
def tQ (N:Nat):Fl->(Kx5)->Bool:=yF N
def kX (N:Nat) (abL:LF) (abV aaw aax r_2 r_3:Int) (e0:List RY1->Bool):(Int × List RY1)->((Int × List RY1)->Bool)->Bool:=λv_ K=>match v_ with
 | (acl,b2)=>(cond (decide (acl<abV)) (inR acl abL.length&&tQ N (abL.getD acl.toNat none) (λaaj Z5 aay Z6=>decide ((List.length b2+1)*8<=140737488355328)&&(af .i64 (acl+1)&&K ((acl+1),(b2++[((aaj,Z5),(aay,Z6))]))))) (e0 b2))
def sv (N:Nat) (m_0 Z0:Int) (Z7:LF) (k0:List RY1->Bool):Bool:=
 (ah N (kX N Z7 ((Z7.length:Nat):Int) 0 0 m_0 Z0 (λ(abg:List RY1)=>k0 abg)) (0,[]))
def tP (N:Nat):Int->Int->LF->(List RY1->Bool)->Bool:=ax N (sv N)
def yG (N:Nat) (m_0 Z0:Int) (Z7:LF) (k0:List RY1->Bool):Bool:=
 (tP N m_0 Z0 Z7 (λ(lr:List RY1)=>k0 lr))
def zu (N:Nat):Int->Int->LF->(List RY1->Bool)->Bool:=yG N
def jN (N:Nat) (acb aaE abh abi Z7 m_3:Int) (e0:List RY1->Bool):(Int × List RY1)->((Int × List RY1)->Bool)->Bool:=λv_ K=>match v_ with
 | (i_1,b2)=>(af .i64 (acb*aaE)&&cond (decide (i_1<(acb*aaE))) (decide ((List.length b2+1)*8<=140737488355328)&&(af .i64 (i_1+1)&&K ((i_1+1),(b2++[((false,[]),(false,[]))])))) (e0 b2))
def qp (N:Nat) (rows cols:Int) (k0:List RY1->Bool):Bool:=
 (ah N (jN N rows cols 0 0 rows cols (λ(abg:List RY1)=>k0 abg)) (0,[]))
def rm (N:Nat):Int->Int->(List RY1->Bool)->Bool:=ax N (qp N)
def M5 (N:Nat) (r_0:Bool) (r_1:LI) (r_2:Bool) (r_3:LI) (k0:Kz8):Bool:=
 (cond (((r_3.length:Nat):Int)==0) (rU N (λnsr=>k0 nsr)) (k0 r_3))
def PH (N:Nat):Bool->LI->Bool->LI->(Kz8)->Bool:=ax N (M5 N)
def rF (N:Nat) (neg b:Bool) (ZX:LI) (Z3:Bool) (b_3 b_4:LI) (k0:Ky0):Bool:=
 (pY N b_4 (λmr=>cond (neg==true) (k0 (decide (((mr:Nat):Int)>0)) 0 mr) (k0 false 0 mr)))
def rV (N:Nat):Bool->Bool->LI->Bool->LI->LI->(Ky0)->Bool:=rF N
def Sr (N:Nat) (neg b:Bool) (ZX Z3:Nat) (b_3:Bool) (b_4 b_5 b_6:LI) (k0:Ky0):Bool:=
 (pY N b_5 (λmr=>cond (neg==true) (k0 (decide (((mr:Nat):Int)>0)) 0 mr) (k0 false 0 mr)))
def SY (N:Nat):Bool->Bool->Nat->Nat->Bool->LI->LI->LI->(Ky0)->Bool:=Sr N
def TU (N:Nat) (x_0:Bool) (x_1:LI) (x_2:Bool) (x_3:LI) (b:Bool) (ZX:LI) (Z3:Bool) (b_3:LI) (k0:Kx5):Bool:=
 (decide ((List.length ([]++x_1))*4<=140737488355328)&&PH N x_0 x_1 x_2 x_3 (λnsr=>decide ((List.length ([]++nsr))*4<=140737488355328)&&rV N x_0 b ZX Z3 b_3 ([]++x_1) (λcr mr aaO=>SY N false cr mr aaO Z3 b_3 ([]++nsr) ([]++x_1) (λZ1 aan ac6=>decide ((mr+aaO)<=(List.length ([]++x_1)))&&(decide ((aan+ac6)<=(List.length ([]++nsr)))&&k0 cr (List.take aaO (List.drop mr ([]++x_1))) Z1 (List.take ac6 (List.drop aan ([]++nsr))))))))
def WA (N:Nat):Bool->LI->Bool->LI->Bool->LI->Bool->LI->(Kx5)->Bool:=ax N (TU N)
def EM (N:Nat) (t12 m m_3:Int) (m_4:List RY2) (t2 aai t t_1:Int) (e0:List RY1->Bool):(Int × List RY1)->((Int × List RY1)->Bool)->Bool:=λv_ K=>match v_ with
 | (t13,b3)=>(cond (decide (t13<t12)) (inR t13 b3.length&&(decide (t13.toNat<b3.length)&&(inR t13 m_4.length&&WA N (m_4.getD t13.toNat ((false,[]),(false,[]))).1.1 (m_4.getD t13.toNat ((false,[]),(false,[]))).1.2 (m_4.getD t13.toNat ((false,[]),(false,[]))).2.1 (m_4.getD t13.toNat ((false,[]),(false,[]))).2.2 (b3.getD t13.toNat ((false,[]),(false,[]))).1.1 (b3.getD t13.toNat ((false,[]),(false,[]))).1.2 (b3.getD t13.toNat ((false,[]),(false,[]))).2.1 (b3.getD t13.toNat ((false,[]),(false,[]))).2.2 (λcr nsr Z1 ZZ=>af .i64 (t13+1)&&K ((t13+1),(b3.set t13.toNat ((cr,nsr),(Z1,ZZ)))))))) (e0 b3))
def TT (N:Nat) (m_0 Z0:Int) (Z7:List RY2) (k0:List RY1->Bool):Bool:=
 (rm N m_0 Z0 (λ(lr:List RY1)=>ah N (EM N ((Z7.length:Nat):Int) m_0 Z0 Z7 0 0 m_0 Z0 (λ(b2:List RY1)=>k0 b2)) (0,lr)))
def Wz (N:Nat):Int->Int->List RY2->(List RY1->Bool)->Bool:=ax N (TT N)
def W2 (N:Nat) (m_0 Z0 i j:Int) (b:List RY1) (k0:Kz5):Bool:=
 (af .i64 (i*Z0)&&(af .i64 ((i*Z0)+j)&&(inR ((i*Z0)+j) b.length&&(decide ((Int.toNat ((i*Z0)+j))<b.length)&&k0 (Int.toNat ((i*Z0)+j))))))
def GX (N:Nat):Int->Int->Int->Int->List RY1->(Kz5)->Bool:=W2 N
def xD (N:Nat) (z_0:Bool) (z_1:LI) (z_2:Bool) (z_3:LI) (k0:Kz4):Bool:=
 (cond (((z_1.length:Nat):Int)==0) (k0 0) (cond z_0 (k0 (-1)) (k0 1)))
def DA (N:Nat):Bool->LI->Bool->LI->(Kz4)->Bool:=ax N (xD N)
def Sn (N:Nat) (r_0:Bool) (r_1:LI) (r_2:Bool) (r_3:LI) (k0:Kz4):Bool:=
 (DA N r_0 r_1 r_2 r_3 (λnr=>k0 nr))
def GP (N:Nat):Bool->LI->Bool->LI->(Kz4)->Bool:=Sn N
def GQ5 (N:Nat) (b:Bool) (ZX:LI) (Z3:Bool) (b_3:LI) (k0:Kz8):Bool:=
 (cond (((b_3.length:Nat):Int)==0) (rU N (λnsr=>k0 nsr)) (k0 b_3))
def sQ5 (N:Nat):Bool->LI->Bool->LI->(Kz8)->Bool:=ax N (GQ5 N)
def Tj (N:Nat) (b ZX Z3:Bool) (b_3:LI) (b_4:Bool) (b_5:LI) (b_6:Bool) (b_7:LI) (b_8:Bool) (b_9:LI) (k0:Kx5):Bool:=
 (sQ5 N b_6 b_7 b_8 b_9 (λnsr=>zN N b_3 nsr (λZZ=>sQ5 N Z3 b_3 b_4 b_5 (λZ5=>zN N Z5 b_7 (λZ6=>Mn N (Z3 != b_6) ZZ Z6 b ZX (λcr aac Z1 Z_=>k0 cr aac Z1 Z_))))))
def Wf (N:Nat):Bool->Bool->Bool->LI->Bool->LI->Bool->LI->Bool->LI->(Kx5)->Bool:=ax N (Tj N)
def Ti (N:Nat) (b ZX Z3:Bool) (b_3:LI) (b_4:Bool) (b_5:LI) (b_6:Bool) (b_7:LI) (b_8:Bool) (b_9:LI) (k0:Kx5):Bool:=
 (zN N b_3 b_7 (λnsr=>sQ5 N Z3 b_3 b_4 b_5 (λZZ=>sQ5 N b_6 b_7 b_8 b_9 (λZ5=>zN N ZZ Z5 (λZ6=>Mn N (Z3 != b_6) nsr Z6 b ZX (λcr aac Z1 Z_=>k0 cr aac Z1 Z_))))))
def We (N:Nat):Bool->Bool->Bool->LI->Bool->LI->Bool->LI->Bool->LI->(Kx5)->Bool:=ax N (Ti N)
def TP (N:Nat) (b:Bool) (ZX:LI) (Z3:Bool) (b_3:LI) (b_4:Bool) (b_5:LI) (b_6:Bool) (b_7:LI) (k0:Kz2):Bool:=
 (sQ5 N b_4 b_5 b_6 b_7 (λnsr=>zN N ZX nsr (λZZ=>sQ5 N b ZX Z3 b_3 (λZ5=>zN N b_5 Z5 (λZ6=>k0 ZZ Z6)))))
def XN (N:Nat):Bool->LI->Bool->LI->Bool->LI->Bool->LI->(Kz2)->Bool:=ax N (TP N)
def gD (N:Nat) (Z4 ZX:LI) (e0:Ky9):(Int × Int × LI)->((Int × Int × LI)->Bool)->Bool:=λv_ K=>match v_ with
 | (carry,i,out)=>(cond (decide (i<((Z4.length:Nat):Int))) (inR i Z4.length&&cond (decide (i<((ZX.length:Nat):Int))) (inR i ZX.length&&(inR i out.length&&(decide (i.toNat<out.length)&&(af .i64 (i+1)&&K ((Int.fdiv (IntKind.wrap .u64 ((IntKind.wrap .u64 ((IntKind.wrap .u64 (Z4.getD i.toNat 0))+carry))+(IntKind.wrap .u64 (ZX.getD i.toNat 0)))) (2 ^ 32)),(i+1),(out.set i.toNat (IntKind.wrap .u32 (IntKind.wrap .u64 ((IntKind.wrap .u64 ((IntKind.wrap .u64 (Z4.getD i.toNat 0))+carry))+(IntKind.wrap .u64 (ZX.getD i.toNat 0))))))))))) (inR i out.length&&(decide (i.toNat<out.length)&&(af .i64 (i+1)&&K ((Int.fdiv (IntKind.wrap .u64 ((IntKind.wrap .u64 (Z4.getD i.toNat 0))+carry)) (2 ^ 32)),(i+1),(out.set i.toNat (IntKind.wrap .u32 (IntKind.wrap .u64 ((IntKind.wrap .u64 (Z4.getD i.toNat 0))+carry))))))))) (e0 carry out))
def vy (N:Nat) (a b:LI) (k0:Kz8):Bool:=
 (cond (decide (((a.length:Nat):Int)<((b.length:Nat):Int))) (af .i64 (((b.length:Nat):Int)+1)&&(gu 4 (((b.length:Nat):Int)+1) (((b.length:Nat):Int)+1)&&ah N (gD N b a (λaam aaf=>inR ((b.length:Nat):Int) aaf.length&&(decide ((Int.toNat ((b.length:Nat):Int))<aaf.length)&&pY N (aaf.set (Int.toNat ((b.length:Nat):Int)) (IntKind.wrap .u32 aam)) (λmr=>decide ((0+mr)<=(List.length (aaf.set (Int.toNat ((b.length:Nat):Int)) (IntKind.wrap .u32 aam))))&&k0 (List.take mr (List.drop 0 (aaf.set (Int.toNat ((b.length:Nat):Int)) (IntKind.wrap .u32 aam)))))))) (0,0,(List.replicate (Int.toNat (((b.length:Nat):Int)+1)) (0:Int))))) (af .i64 (((a.length:Nat):Int)+1)&&(gu 4 (((a.length:Nat):Int)+1) (((a.length:Nat):Int)+1)&&ah N (gD N a b (λaaT aaL=>inR ((a.length:Nat):Int) aaL.length&&(decide ((Int.toNat ((a.length:Nat):Int))<aaL.length)&&pY N (aaL.set (Int.toNat ((a.length:Nat):Int)) (IntKind.wrap .u32 aaT)) (λaaO=>decide ((0+aaO)<=(List.length (aaL.set (Int.toNat ((a.length:Nat):Int)) (IntKind.wrap .u32 aaT))))&&k0 (List.take aaO (List.drop 0 (aaL.set (Int.toNat ((a.length:Nat):Int)) (IntKind.wrap .u32 aaT)))))))) (0,0,(List.replicate (Int.toNat (((a.length:Nat):Int)+1)) (0:Int))))))
def wk (N:Nat):LI->LI->(Kz8)->Bool:=ax N (vy N)
def TW (N:Nat) (turn b ZX:Bool) (Z3:LI) (b_3:Bool) (b_4:LI) (k0:Ky4):Bool:=
 (cond (ZX==(b_3 != turn)) (wk N Z3 b_4 (λnsr=>zm N (b_3 != turn) nsr b (λcr ZZ=>k0 cr ZZ))) (G2 N Z3 b_4 (λnr=>cond (decide (nr>=0)) (mK N Z3 b_4 (λZ5=>zm N ZX Z5 b (λZ1 Z6=>k0 Z1 Z6))) (mK N b_4 Z3 (λaac=>zm N (b_3 != turn) aac b (λaaj Z_=>k0 aaj Z_))))))
def WB (N:Nat):Bool->Bool->Bool->LI->Bool->LI->(Ky4)->Bool:=ax N (TW N)
def Sj (N:Nat) (b ZX:Bool) (Z3:LI) (b_3:Bool) (b_4:LI) (k0:Ky4):Bool:=
 (WB N true b ZX Z3 b_3 b_4 (λcr nsr=>k0 cr nsr))
def PE (N:Nat):Bool->Bool->LI->Bool->LI->(Ky4)->Bool:=Sj N
def MQ (N:Nat) (neg:Bool) (m:LI) (b:Bool) (ZX:LI) (Z3:Bool) (b_3:LI) (k0:Ky4):Bool:=
 (lM N m (λnsr=>cond (neg==true) (k0 (decide (((nsr.length:Nat):Int)>0)) nsr) (k0 false nsr)))
def GL (N:Nat):Bool->LI->Bool->LI->Bool->LI->(Ky4)->Bool:=MQ N
def KJ (N:Nat) (neg:Bool) (a b:LI) (ZX:Bool) (Z3:LI) (b_3:Bool) (b_4 Z4 b_5:LI) (k0:Kx5):Bool:=
 (GL N neg Z4 ZX Z3 b_3 b_4 (λaaj s11=>GZ N false b_5 aaj s11 b_3 b_4 (λaay aba=>k0 aaj s11 aay aba)))
def NH (N:Nat) (neg:Bool) (a b:LI) (ZX:Bool) (Z3:LI) (b_3:Bool) (b_4:LI) (n:Int) (k0:Kx5):Bool:=
 (CB N a n (λZ6=>CB N b n (λaac=>sQ1 N false aac (λZ2=>af .i64 Z2&&Mt N false aac (λaag=>af .i64 (aag - 1)&&cond (Z2 != (aag - 1)) (GU N Z6 aac (λZ_=>rU N (λs6=>G2 N Z_ s6 (λaae=>cond (aae != 0) (pX N Z6 Z_ (λs7 s8=>pX N aac Z_ (λs9 s10=>KJ N neg a b ZX Z3 b_3 b_4 s7 s9 k0))) (KJ N neg a b ZX Z3 b_3 b_4 Z6 aac k0))))) (KJ N neg a b ZX Z3 b_3 b_4 Z6 aac k0))))))
def TJ (N:Nat) (neg:Bool) (a b:LI) (ZX:Bool) (Z3:LI) (b_3:Bool) (b_4:LI) (k0:Kx5):Bool:=
 (cond (((a.length:Nat):Int)==0) (GL N false [] ZX Z3 b_3 b_4 (λcr nsr=>rU N (λZZ=>GZ N false ZZ cr nsr b_3 b_4 (λZ1 Z5=>k0 cr nsr Z1 Z5)))) (sQ1 N false a (λnr=>sQ1 N false b (λZY=>cond (decide (ZY<nr)) (NH N neg a b ZX Z3 b_3 b_4 ZY k0) (NH N neg a b ZX Z3 b_3 b_4 nr k0)))))
def Wq (N:Nat):Bool->LI->LI->Bool->LI->Bool->LI->(Kx5)->Bool:=ax N (TJ N)
def To (N:Nat) (b:Bool) (ZX:LI) (Z3:Bool) (b_3:LI) (b_4:Bool) (b_5:LI) (b_6:Bool) (b_7:LI) (k0:Kx5):Bool:=
 (XN N b ZX Z3 b_3 b_4 b_5 b_6 b_7 (λnsr ZZ=>sQ5 N b ZX Z3 b_3 (λZ5=>sQ5 N b_4 b_5 b_6 b_7 (λZ6=>zN N Z5 Z6 (λaac=>PE N false b nsr b_4 ZZ (λcr Z_=>Wq N cr Z_ aac b ZX Z3 b_3 (λZ1 s6 aaj s7=>k0 Z1 s6 aaj s7)))))))
def Wg (N:Nat):Bool->LI->Bool->LI->Bool->LI->Bool->LI->(Kx5)->Bool:=ax N (To N)
def EF (N:Nat) (i_1 aaY:Int) (r:Bool) (r_1:LI) (r_2:Bool) (r_3:LI) (m Z7:Int) (e0:List RY1->Bool):(Int × List RY1)->((Int × List RY1)->Bool)->Bool:=λv_ K=>match v_ with
 | (j,b0)=>(cond (decide (j<Z7)) (GX N m Z7 i_1 j b0 (λmr=>GX N m Z7 i_1 j b0 (λaaO=>GX N m Z7 aaY j b0 (λaan=>We N false false r r_1 r_2 r_3 (b0.getD aan ((false,[]),(false,[]))).1.1 (b0.getD aan ((false,[]),(false,[]))).1.2 (b0.getD aan ((false,[]),(false,[]))).2.1 (b0.getD aan ((false,[]),(false,[]))).2.2 (λcr nsr Z1 ZZ=>decide (aaO=mr)&&Wg N (List.getD (b0.set aan (((b0.getD aan ((false,[]),(false,[]))).1.1,(b0.getD aan ((false,[]),(false,[]))).1.2),((b0.getD aan ((false,[]),(false,[]))).2.1,(b0.getD aan ((false,[]),(false,[]))).2.2))) mr ((false,[]),(false,[]))).1.1 (List.getD (b0.set aan (((b0.getD aan ((false,[]),(false,[]))).1.1,(b0.getD aan ((false,[]),(false,[]))).1.2),((b0.getD aan ((false,[]),(false,[]))).2.1,(b0.getD aan ((false,[]),(false,[]))).2.2))) mr ((false,[]),(false,[]))).1.2 (List.getD (b0.set aan (((b0.getD aan ((false,[]),(false,[]))).1.1,(b0.getD aan ((false,[]),(false,[]))).1.2),((b0.getD aan ((false,[]),(false,[]))).2.1,(b0.getD aan ((false,[]),(false,[]))).2.2))) mr ((false,[]),(false,[]))).2.1 (List.getD (b0.set aan (((b0.getD aan ((false,[]),(false,[]))).1.1,(b0.getD aan ((false,[]),(false,[]))).1.2),((b0.getD aan ((false,[]),(false,[]))).2.1,(b0.getD aan ((false,[]),(false,[]))).2.2))) mr ((false,[]),(false,[]))).2.2 cr nsr Z1 ZZ (λaaj Z5 aay Z6=>af .i64 (j+1)&&K ((j+1),(List.set (b0.set aan (((b0.getD aan ((false,[]),(false,[]))).1.1,(b0.getD aan ((false,[]),(false,[]))).1.2),((b0.getD aan ((false,[]),(false,[]))).2.1,(b0.getD aan ((false,[]),(false,[]))).2.2))) mr ((aaj,Z5),(aay,Z6)))))))))) (e0 b0))
def Tt (N:Nat) (m_0 Z0 i k_:Int) (b:List RY1) (ZX:Bool) (Z3:LI) (b_3:Bool) (b_4:LI) (k0:List RY1->Bool):Bool:=
 (ah N (EF N i k_ ZX Z3 b_3 b_4 m_0 Z0 (λ(aa8:List RY1)=>k0 aa8)) (0,b))
def Wi (N:Nat):Int->Int->Int->Int->List RY1->Bool->LI->Bool->LI->(List RY1->Bool)->Bool:=ax N (Tt N)
def B6 (N:Nat) (c_1 a_2 a_3:Int) (aci:List RY1) (e0:Kz4) (e1:Bool):(Int)->((Int)->Bool)->Bool:=λv_ K=>match v_ with
 | j=>(cond (decide (j<a_3)) (GX N a_2 a_3 c_1 j aci (λaaO=>GP N (aci.getD aaO ((false,[]),(false,[]))).1.1 (aci.getD aaO ((false,[]),(false,[]))).1.2 (aci.getD aaO ((false,[]),(false,[]))).2.1 (aci.getD aaO ((false,[]),(false,[]))).2.2 (λZ2=>cond (Z2 != 0) (e0 1) (af .i64 (j+1)&&K (j+1))))) e1)
def BZ (N:Nat) (acK c_2:Int) (d:Nat) (a_4 a_5:Int) (e0:List RY1->Bool):(Int × List RY1)->((Int × List RY1)->Bool)->Bool:=λv_ K=>match v_ with
 | (i,d_1)=>(cond (decide (i<a_4)) (GX N a_4 a_5 i c_2 d_1 (λaan=>((!decide (d=aan))&&true)&&Wf N false false (d_1.getD aan ((false,[]),(false,[]))).1.1 (d_1.getD aan ((false,[]),(false,[]))).1.2 (d_1.getD aan ((false,[]),(false,[]))).2.1 (d_1.getD aan ((false,[]),(false,[]))).2.2 (d_1.getD d ((false,[]),(false,[]))).1.1 (d_1.getD d ((false,[]),(false,[]))).1.2 (d_1.getD d ((false,[]),(false,[]))).2.1 (d_1.getD d ((false,[]),(false,[]))).2.2 (λcr nsr Z1 ZZ=>Wi N a_4 a_5 i c_2 (List.set (d_1.set d (((d_1.getD d ((false,[]),(false,[]))).1.1,(d_1.getD d ((false,[]),(false,[]))).1.2),((d_1.getD d ((false,[]),(false,[]))).2.1,(d_1.getD d ((false,[]),(false,[]))).2.2))) aan (((d_1.getD aan ((false,[]),(false,[]))).1.1,(d_1.getD aan ((false,[]),(false,[]))).1.2),((d_1.getD aan ((false,[]),(false,[]))).2.1,(d_1.getD aan ((false,[]),(false,[]))).2.2))) cr nsr Z1 ZZ (λ(aeF:List RY1)=>af .i64 (i+1)&&K ((i+1),aeF))))) (e0 d_1))
def B5 (N:Nat) (a Z4:Int) (e0:Kz4) (e1:Kz4):(Int × Int × List RY1)->((Int × Int × List RY1)->Bool)->Bool:=λv_ K=>match v_ with
 | (sign,c,b1)=>(cond (decide (c<a)) (GX N a Z4 c c b1 (λmr=>GP N (b1.getD mr ((false,[]),(false,[]))).1.1 (b1.getD mr ((false,[]),(false,[]))).1.2 (b1.getD mr ((false,[]),(false,[]))).2.1 (b1.getD mr ((false,[]),(false,[]))).2.2 (λnr=>cond (decide (nr<0)) (e0 1) (GP N (b1.getD mr ((false,[]),(false,[]))).1.1 (b1.getD mr ((false,[]),(false,[]))).1.2 (b1.getD mr ((false,[]),(false,[]))).2.1 (b1.getD mr ((false,[]),(false,[]))).2.2 (λZY=>cond (ZY==0) (af .i64 (c+1)&&ah N (B6 N c a Z4 b1 (λt2=>e0 t2) (af .i64 (c+1)&&K (2,(c+1),b1))) (c+1)) (af .i64 (c+1)&&ah N (BZ N sign c mr a Z4 (λ(ae2:List RY1)=>af .i64 (c+1)&&K (sign,(c+1),ae2))) ((c+1),b1))))))) (e1 sign))
def Nf (N:Nat) (m_0 Z0:Int) (Z7:List RY2) (k0:Kz4):Bool:=
 (Wz N m_0 Z0 Z7 (λ(lr:List RY1)=>ah N (B5 N m_0 Z0 (λaai=>k0 aai) (λaeh=>k0 aeh)) (3,0,lr)))
def SW (N:Nat):Int->Int->List RY2->(Kz4)->Bool:=ax N (Nf N)
def W9 (N:Nat) (m_0 Z0:Int) (Z7:LF) (k0:Kz3):Bool:=
 (zu N m_0 Z0 Z7 (λ(lr:List RY1)=>SW N m_0 Z0 lr (λnr=>k0 (nr==3))))
def Cz (N:Nat):Int->Int->LF->(Kz3)->Bool:=W9 N
def sB (N:Nat) (s_0:LF) (s_1 s_2:Int) (s_3:LF) (k0:Kz4):Bool:=
 (zw N s_0 s_1 s_2 s_3 (λnr=>cond (nr != 0) (k0 nr) (Cz N s_1 s_2 s_3 (λcr=>cond (!cr) (k0 151) (k0 0)))))
def tV (N:Nat):LF->Int->Int->LF->(Kz4)->Bool:=ax N (sB N)
def yH (N:Nat) (Z9 Z4:Int) (a_2 a_3:LF) (k0:Kz4):Bool:=
 (tV N a_3 Z9 Z4 a_2 (λnr=>cond (nr==151) (k0 170) (k0 nr)))
def mL (N:Nat):Int->Int->LF->LF->(Kz4)->Bool:=yH N
def Ns (N:Nat) (Z9 Z4:Int) (a_2:LF) (k0:Kz4):Bool:=
 (j5 N Z9 Z4 a_2 (λnr=>cond (nr != 0) (k0 nr) (cond (Z9 != Z4) (k0 3) (k0 0))))
def GV (N:Nat):Int->Int->LF->(Kz4)->Bool:=ax N (Ns N)
def Ss (N:Nat) (rows cols:Int) (k0:Kz7):Bool:=
 (af .i64 (rows*cols)&&(gu 8 (rows*cols) (rows*cols)&&k0 (List.replicate (Int.toNat (rows*cols)) (some 0))))
def xg (N:Nat):Int->Int->(Kz7)->Bool:=Ss N
def Si (N:Nat) (m_0 Z0 i j:Int) (x:Fl) (b:LF) (k0:Kz7):Bool:=
 (af .i64 (i*Z0)&&(af .i64 ((i*Z0)+j)&&(inR ((i*Z0)+j) b.length&&(decide ((Int.toNat ((i*Z0)+j))<b.length)&&k0 (b.set (Int.toNat ((i*Z0)+j)) x)))))
def rT (N:Nat):Int->Int->Int->Int->Fl->LF->(Kz7)->Bool:=Si N
def l_ (N:Nat) (n_1 t2 aai u u_1:Int) (e0:Kz7):(Int × LF)->((Int × LF)->Bool)->Bool:=λv_ K=>match v_ with
 | (i,b2)=>(cond (decide (i<n_1)) (rT N u u_1 i i (some 4607182418800017408) b2 (λZ8=>af .i64 (i+1)&&K ((i+1),Z8))) (e0 b2))
def vD (N:Nat) (n:Int) (k0:Kz7):Bool:=
 (xg N n n (λxsr=>ah N (l_ N n 0 0 n n (λabg=>k0 abg)) (0,xsr)))
def wl (N:Nat):Int->(Kz7)->Bool:=ax N (vD N)
def Nd (N:Nat) (x:Fl) (b:Bool) (k0:Kz3):Bool:=
 (cond (b==false) (nu N x (λcr=>k0 (!cr))) (k0 true))
def om (N:Nat):Fl->Bool->(Kz3)->Bool:=ax N (Nd N)
def jF (N:Nat) (n_1 j_1 a_5 a_6:Int) (a_7:LF) (aaw aax l_2 l_3:Int) (aaV:LF) (e0:Ky6):(Fl × Int × Bool)->((Fl × Int × Bool)->Bool)->Bool:=λv_ K=>match v_ with
 | (d,k_,s_1)=>(cond (decide (k_<j_1)) (gW N l_2 l_3 aaV j_1 k_ (λaaA=>gW N l_2 l_3 aaV j_1 k_ (λabz=>om N (eP aaA abz) s_1 (λcr=>om N (qG d (eP aaA abz)) cr (λZ1=>af .i64 (k_+1)&&K ((qG d (eP aaA abz)),(k_+1),Z1)))))) (e0 d s_1))
def jH (N:Nat) (n_3 j_3 i_1 ad7 ad8:Int) (ad9:LF) (aei aej l_6 l_7:Int) (acB:LF) (e0:Ky6):(Fl × Int × Bool)->((Fl × Int × Bool)->Bool)->Bool:=λv_ K=>match v_ with
 | (t,aaY,s_4)=>(cond (decide (aaY<j_3)) (gW N l_6 l_7 acB i_1 aaY (λacu=>gW N l_6 l_7 acB j_3 aaY (λaes=>om N (eP acu aes) s_4 (λaaj=>om N (qG t (eP acu aes)) aaj (λaay=>af .i64 (aaY+1)&&K ((qG t (eP acu aes)),(aaY+1),aay)))))) (e0 t s_4))
def jG (N:Nat) (n_2 j_2 a_8 a_9:Int) (abE:LF) (acn aco l_4 l_5:Int) (e0:Ky7):(Int × Bool × LF)->((Int × Bool × LF)->Bool)->Bool:=λv_ K=>match v_ with
 | (i,s_3,aby)=>(cond (decide (i<n_2)) (gW N a_8 a_9 abE i j_2 (λaer=>ah N (jH N n_2 j_2 i a_8 a_9 abE acn aco l_4 l_5 aby (λt_1 s_5=>gW N l_4 l_5 aby j_2 j_2 (λaeM=>om N (fdiv t_1 aeM) s_5 (λabF=>rT N l_4 l_5 i j_2 (fdiv t_1 aeM) aby (λaak=>af .i64 (i+1)&&K ((i+1),abF,aak)))))) (aer,0,s_3))) (e0 s_3 aby))
def rA (N:Nat) (n a a_3:Int) (a_4:LF) (t2 aai l l_1:Int) (e0:Kx7) (e1:Kz7):(Int × Bool × LF)->((Int × Bool × LF)->Bool)->Bool:=λv_ K=>match v_ with
 | (j,s,b4)=>(cond (decide (j<n)) (gW N a a_3 a_4 j j (λxr=>ah N (jF N n j a a_3 a_4 t2 aai l l_1 b4 (λd_1 s_2=>cond s_2 (e0 0 5 0 0) (cond (!(fgt d_1 (some 0))) (e0 j 90 0 0) (xl N d_1 (λabJ=>rT N l l_1 j j abJ b4 (λZ8=>af .i64 (j+1)&&ah N (jG N n j a a_3 a_4 t2 aai l l_1 (λs_6 ae6=>cond s_6 (e0 0 5 0 0) (af .i64 (j+1)&&K ((j+1),s_6,ae6)))) ((j+1),s_2,Z8))))))) (xr,0,s))) (e1 b4))
def vC (N:Nat) (Z9 Z4:Int) (a_2:LF) (k0:Kx1):Bool:=
 (Mq N Z9 Z4 a_2 (λnr=>cond (nr != 0) (k0 0 0 [] 0 nr) (xg N Z9 Z9 (λxsr=>ah N (rA N Z9 Z9 Z4 a_2 0 0 Z9 Z9 (λt3 t4 afa afb=>k0 afa afb [] t3 t4) (λb2=>k0 Z9 Z9 b2 0 0)) (0,false,xsr)))))
def ou (N:Nat):Int->Int->LF->(Kx1)->Bool:=ax N (vC N)
def jO (N:Nat) (j_2 m_5 m_6:Int) (m_7:LF) (e0:Kz7):(Int × LF)->((Int × LF)->Bool)->Bool:=λv_ K=>match v_ with
 | (i_1,l)=>(cond (decide (i_1<m_5)) (gW N m_5 m_6 m_7 i_1 j_2 (λaaA=>decide ((List.length (l++[aaA]))*8<=140737488355328)&&(af .i64 (i_1+1)&&K ((i_1+1),(l++[aaA]))))) (e0 l))
def qq (N:Nat) (m_0 Z0:Int) (Z7:LF) (j:Int) (k0:Kz7):Bool:=
 (ah N (jO N j m_0 Z0 Z7 (λl_1=>k0 l_1)) (0,[]))
def rn (N:Nat):Int->Int->LF->Int->(Kz7)->Bool:=ax N (qq N)
def xt (N:Nat) (b_3:LF) (i_1:Int) (t:Fl) (k_:Int) (s_1:Bool) (l_5 l_6:Int) (l_7:LF) (e0:Bool):(Unit)->((Unit)->Bool)->Bool:=λv_ K=>match v_ with
 | _=>(cond (decide (k_<i_1)) (gW N l_5 l_6 l_7 i_1 k_ (λxr=>false)) e0)
def B0 (N:Nat) (b_5:LF) (i_3 adK adL:Int) (adM x_1:LF) (e0:Ky6):(Fl × Int × Bool)->((Fl × Int × Bool)->Bool)->Bool:=λv_ K=>match v_ with
 | (t_1,aaY,s_3)=>(cond (decide (aaY<i_3)) (gW N adK adL adM i_3 aaY (λabz=>inR aaY x_1.length&&(decide (aaY.toNat<x_1.length)&&om N (eP abz (x_1.getD aaY.toNat none)) s_3 (λZ1=>om N (qG t_1 (eP abz (x_1.getD aaY.toNat none))) Z1 (λaaj=>af .i64 (aaY+1)&&K ((qG t_1 (eP abz (x_1.getD aaY.toNat none))),(aaY+1),aaj)))))) (e0 t_1 s_3))
def ia (N:Nat) (b_4:LF) (l_8 l_9:Int) (ab4:LF) (e0:Ky7):(Int × Bool × LF)->((Int × Bool × LF)->Bool)->Bool:=λv_ K=>match v_ with
 | (i_2,s_2,x)=>(cond (decide (i_2<l_8)) (inR i_2 b_4.length&&ah N (B0 N b_4 i_2 l_8 l_9 ab4 x (λt_2 s_4=>gW N l_8 l_9 ab4 i_2 i_2 (λabJ=>om N (fdiv t_2 abJ) s_4 (λaay=>decide ((List.length (x++[(fdiv t_2 abJ)]))*8<=140737488355328)&&(af .i64 (i_2+1)&&K ((i_2+1),aay,(x++[(fdiv t_2 abJ)]))))))) ((b_4.getD i_2.toNat none),0,s_2)) (e0 s_2 x))
def MR (N:Nat) (l_0 l_1:Int) (l_2 b:LF) (ZX:Bool) (k0:Ky8):Bool:=
 (ah N (ia N b l_0 l_1 l_2 (λb0 x_2=>k0 x_2 b0)) (0,ZX,[]))
def Du (N:Nat):Int->Int->LF->LF->Bool->(Ky8)->Bool:=ax N (MR N)
def B4 (N:Nat) (b_3:LF) (i_1 l_5 l_6:Int) (l_7 x_1:LF) (e0:Ky6):(Fl × Int × Bool)->((Fl × Int × Bool)->Bool)->Bool:=λv_ K=>match v_ with
 | (t,k_,s_1)=>(cond (decide (k_<l_5)) (gW N l_5 l_6 l_7 k_ i_1 (λxr=>inR k_ x_1.length&&(decide (k_.toNat<x_1.length)&&om N (eP xr (x_1.getD k_.toNat none)) s_1 (λcr=>om N (qG t (eP xr (x_1.getD k_.toNat none))) cr (λZ1=>af .i64 (k_+1)&&K ((qG t (eP xr (x_1.getD k_.toNat none))),(k_+1),Z1)))))) (e0 t s_1))
def ib (N:Nat) (Z3:LF) (l l_3:Int) (l_4:LF) (e0:Ky7):(Int × Bool × LF)->((Int × Bool × LF)->Bool)->Bool:=λv_ K=>match v_ with
 | (i,s,x)=>(cond (decide (i>=0)) (inR i Z3.length&&(af .i64 (i+1)&&ah N (B4 N Z3 i l l_3 l_4 x (λt_1 s_2=>gW N l l_3 l_4 i i (λaaA=>om N (fdiv t_1 aaA) s_2 (λaaj=>inR i x.length&&(decide (i.toNat<x.length)&&(af .i64 (i - 1)&&K ((i - 1),aaj,(x.set i.toNat (fdiv t_1 aaA))))))))) ((Z3.getD i.toNat none),(i+1),s))) (e0 s x))
def MS (N:Nat) (l_0 l_1:Int) (l_2 b:LF) (ZX:Bool) (k0:Ky8):Bool:=
 (gu 8 l_0 l_0&&(af .i64 (l_0 - 1)&&ah N (ib N b l_0 l_1 l_2 (λb0 x_2=>k0 x_2 b0)) ((l_0 - 1),ZX,(List.replicate l_0.toNat (some 0)))))
def Dw (N:Nat):Int->Int->LF->LF->Bool->(Ky8)->Bool:=ax N (MS N)
def hK (N:Nat) (j_1:Int) (t67:LF) (t68 b_5 b_6:Int) (b_7:LF) (abh abi l_3 l_4:Int) (l_5:LF) (s_1:Bool) (x_2 x_3:Int) (e0:Kz7):(Int × LF)->((Int × LF)->Bool)->Bool:=λv_ K=>match v_ with
 | (t69,acC)=>(cond (decide (t69<t68)) (inR t69 t67.length&&rT N x_2 x_3 t69 j_1 (t67.getD t69.toNat none) acC (λadD=>af .i64 (t69+1)&&K ((t69+1),adD))) (e0 acC))
def B2 (N:Nat) (b b_3:Int) (b_4:LF) (t4 abn l l_1:Int) (l_2:LF) (x x_1:Int) (e0:Ky7):(Int × Bool × LF)->((Int × Bool × LF)->Bool)->Bool:=λv_ K=>match v_ with
 | (j,s,b5)=>(cond (decide (j<b_3)) (rn N b b_3 b_4 j (λaak=>Du N l l_1 l_2 aak s (λaaS cr=>Dw N l l_1 l_2 aaS cr (λabN Z1=>ah N (hK N j abN ((abN.length:Nat):Int) b b_3 b_4 t4 abn l l_1 l_2 Z1 x x_1 (λaeb=>af .i64 (j+1)&&K ((j+1),Z1,aeb))) (0,b5))))) (e0 s b5))
def Np (N:Nat) (Z9 Z4:Int) (a_2:LF) (b_0 ZX:Int) (Z3:LF) (k0:Kx1):Bool:=
 (GV N Z9 Z4 a_2 (λnr=>cond (nr != 0) (k0 0 0 [] 0 nr) (j5 N b_0 ZX Z3 (λZY=>cond (ZY != 0) (k0 0 0 [] 0 ZY) (cond (b_0 != Z9) (k0 0 0 [] 0 3) (ou N Z9 Z4 a_2 (λZ2 aag xsr aae n5=>cond (n5 != 0) (k0 0 0 [] aae n5) (xg N b_0 ZX (λZ8=>ah N (B2 N b_0 ZX Z3 0 0 Z2 aag xsr b_0 ZX (λs_2 b3=>cond s_2 (k0 0 0 [] 0 5) (k0 b_0 ZX b3 0 0))) (0,false,Z8))))))))))
def PP (N:Nat):Int->Int->LF->Int->Int->LF->(Kx1)->Bool:=ax N (Np N)
def EQ (N:Nat) (i_1 m_5 m_6:Int) (m_7:LF) (aaw aax t_2 t_3:Int) (e0:Kz7):(Int × LF)->((Int × LF)->Bool)->Bool:=λv_ K=>match v_ with
 | (j,abx)=>(cond (decide (j<=i_1)) (gW N m_5 m_6 m_7 i_1 j (λxr=>rT N t_2 t_3 i_1 j xr abx (λZ8=>gW N m_5 m_6 m_7 i_1 j (λaaA=>rT N t_2 t_3 j i_1 aaA Z8 (λaak=>af .i64 (j+1)&&K ((j+1),aak)))))) (e0 abx))
def EP (N:Nat) (m m_3:Int) (m_4:LF) (t2 aai t t_1:Int) (e0:Kz7):(Int × LF)->((Int × LF)->Bool)->Bool:=λv_ K=>match v_ with
 | (i,b3)=>(cond (decide (i<m)) (ah N (EQ N i m m_3 m_4 t2 aai t t_1 (λacA=>af .i64 (i+1)&&K ((i+1),acA))) (0,b3)) (e0 b3))
def M6 (N:Nat) (m_0 Z0:Int) (Z7:LF) (k0:Kz7):Bool:=
 (xg N m_0 Z0 (λxsr=>ah N (EP N m_0 Z0 Z7 0 0 m_0 Z0 (λb2=>k0 b2)) (0,xsr)))
def Ke (N:Nat):Int->Int->LF->(Kz7)->Bool:=ax N (M6 N)
def Nz (N:Nat) (Z9 Z4:Int) (a_2:LF) (k0:Kx1):Bool:=
 (GV N Z9 Z4 a_2 (λnr=>cond (nr != 0) (k0 0 0 [] 0 nr) (wl N Z9 (λxsr=>PP N Z9 Z4 a_2 Z9 Z9 xsr (λZY Z2 Z8 aag aae=>cond (aae != 0) (k0 0 0 [] aag aae) (Ke N ZY Z2 Z8 (λaak=>k0 ZY Z2 aak 0 0)))))))
def PT (N:Nat):Int->Int->LF->(Kx1)->Bool:=ax N (Nz N)
def vF (N:Nat) (l_0 l_1:Int) (l_2 b:LF) (k0:Kz4):Bool:=
 (cond (((b.length:Nat):Int) != l_0) (k0 3) (Ms N b (λcr=>cond (!cr) (k0 4) (k0 0))))
def ov (N:Nat):Int->Int->LF->LF->(Kz4)->Bool:=ax N (vF N)
def sy (N:Nat) (Z9 Z4:Int) (a_2 b:LF) (k0:Ky2):Bool:=
 (GV N Z9 Z4 a_2 (λnr=>cond (nr != 0) (k0 [] 0 nr) (ov N Z9 Z4 a_2 b (λZY=>cond (ZY != 0) (k0 [] 0 ZY) (ou N Z9 Z4 a_2 (λZ2 aag xsr aae n5=>cond (n5 != 0) (k0 [] aae n5) (Du N Z2 aag xsr b false (λZ8 cr=>Dw N Z2 aag xsr Z8 cr (λaak Z1=>cond Z1 (k0 [] 0 5) (k0 aak 0 0))))))))))
def tT (N:Nat):Int->Int->LF->LF->(Ky2)->Bool:=ax N (sy N)
def Nv (N:Nat) (Z9 Z4:Int) (a_2 a_3:LF) (k0:Kx2):Bool:=
 (mL N Z9 Z4 a_2 a_3 (λnr=>cond (nr != 0) (k0 [] 0 0 [] nr) (PT N Z9 Z4 a_2 (λZY Z2 xsr aag aae=>cond (aae != 0) (k0 [] 0 0 [] aae) (Cz N ZY Z2 xsr (λcr=>cond (!cr) (k0 [] 0 0 [] 151) (tT N Z9 Z4 a_2 a_3 (λZ8 n5 n6=>cond (n6 != 0) (k0 [] 0 0 [] n6) (k0 Z8 ZY Z2 xsr 0)))))))))
def Dz (N:Nat):Int->Int->LF->LF->(Kx2)->Bool:=ax N (Nv N)
def dn (N:Nat) (n_1 i aaH abW t50 a_7 a_8:Int) (a_9 abE:LF) (e0:Kz4) (e1:Bool):(Int)->((Int)->Bool)->Bool:=λv_ K=>match v_ with
 | t51=>(cond (decide (t51<t50)) (af .i64 (i*n_1)&&(af .i64 ((i*n_1)+t51)&&(inR ((i*n_1)+t51) a_9.length&&yn N (a_9.getD (Int.toNat ((i*n_1)+t51)) none) (λZY=>cond (ZY != 0) (e0 171) (af .i64 (t51+1)&&K (t51+1)))))) e1)
def dm (N:Nat) (n t34 a a_4:Int) (a_5 a_6:LF) (e0:Kz4) (e1:Bool):(Int)->((Int)->Bool)->Bool:=λv_ K=>match v_ with
 | t35=>(cond (decide (t35<t34)) (af .i64 (t35*n)&&(af .i64 ((t35*n)+t35)&&(inR ((t35*n)+t35) a_5.length&&cond (!(fgt (a_5.getD (Int.toNat ((t35*n)+t35)) none) (some 0))) (e0 171) (ah N (dn N n t35 t34 t35 t35 a a_4 a_5 a_6 (λt2=>e0 t2) (af .i64 (t35+1)&&K (t35+1))) 0)))) e1)
def lq (N:Nat) (Z9 Z4:Int) (a_2 a_3:LF) (k0:Kz4):Bool:=
 (we N Z9 Z4 a_2 (λnr=>cond (nr != 0) (k0 nr) (cond ((Z9 != Z4)==false) (cond (((a_3.length:Nat):Int) != Z9) (k0 3) (BK N a_3 (λcr=>cond (!cr) (k0 4) (ah N (dm N Z9 Z9 Z9 Z4 a_2 a_3 (λaai=>k0 aai) (k0 0)) 0)))) (k0 3))))
def fo (N:Nat):Int->Int->LF->LF->(Kz4)->Bool:=ax N (lq N)
def mb (N:Nat) (i_1 m_5 m_6:Int) (m_7:LF) (aaw aax t_2 t_3:Int) (e0:Kz7):(Int × LF)->((Int × LF)->Bool)->Bool:=λv_ K=>match v_ with
 | (j,abx)=>(cond (decide (j<m_6)) (gW N m_5 m_6 m_7 i_1 j (λxr=>rT N t_2 t_3 j i_1 xr abx (λZ8=>af .i64 (j+1)&&K ((j+1),Z8)))) (e0 abx))
def ma (N:Nat) (m m_3:Int) (m_4:LF) (t2 aai t t_1:Int) (e0:Kz7):(Int × LF)->((Int × LF)->Bool)->Bool:=λv_ K=>match v_ with
 | (i,b3)=>(cond (decide (i<m)) (ah N (mb N i m m_3 m_4 t2 aai t t_1 (λacA=>af .i64 (i+1)&&K ((i+1),acA))) (0,b3)) (e0 b3))
def Nx (N:Nat) (m_0 Z0:Int) (Z7:LF) (k0:Kz7):Bool:=
 (xg N Z0 m_0 (λxsr=>ah N (ma N m_0 Z0 Z7 0 0 Z0 m_0 (λb2=>k0 b2)) (0,xsr)))
def zq (N:Nat):Int->Int->LF->(Kz7)->Bool:=ax N (Nx N)
def B3 (N:Nat) (i_1 m_5 m_6:Int) (m_7:LF) (e0:Kz4) (e1:Bool):(Int)->((Int)->Bool)->Bool:=λv_ K=>match v_ with
 | j=>(cond (decide (j<m_6)) (gW N m_5 m_6 m_7 i_1 j (λaaA=>rk N aaA (some 0) (λcr=>cond (!cr) (e0 93) (af .i64 (j+1)&&K (j+1))))) e1)
def h_ (N:Nat) (m m_3:Int) (m_4:LF) (e0:Kz4) (e1:Bool):(Int)->((Int)->Bool)->Bool:=λv_ K=>match v_ with
 | i=>(cond (decide (i<m)) (gW N m m_3 m_4 i i (λxr=>cond (!(fgt xr (some 0))) (e0 93) (af .i64 (i+1)&&ah N (B3 N i m m_3 m_4 (λt2=>e0 t2) (af .i64 (i+1)&&K (i+1))) (i+1)))) e1)
def Qn (N:Nat) (m_0 Z0:Int) (Z7:LF) (k0:Kz4):Bool:=
 (j5 N m_0 Z0 Z7 (λnr=>cond (nr != 0) (k0 nr) (cond (m_0 != Z0) (k0 3) (ah N (h_ N m_0 Z0 Z7 (λaai=>k0 aai) (k0 0)) 0))))
def GY (N:Nat):Int->Int->LF->(Kz4)->Bool:=ax N (Qn N)
def MP (N:Nat) (Z9 Z4:Int) (a_2 a_3:LF) (k0:Kz4):Bool:=
 (ru N Z9 Z4 a_2 (λnr=>cond (nr != 0) (k0 nr) (cond ((Z9 != Z4)==false) (cond (((a_3.length:Nat):Int) != Z9) (k0 3) (Ms N a_3 (λcr=>cond (!cr) (k0 4) (zq N Z9 Z4 a_2 (λxsr=>GY N Z4 Z9 xsr (λZY=>cond (ZY != 0) (k0 171) (k0 0))))))) (k0 3))))
def GK (N:Nat):Int->Int->LF->LF->(Kz4)->Bool:=ax N (MP N)
def Sk (N:Nat) (a b:Fl) (k0:Kz3):Bool:=
 (yn N a (λnr=>yn N b (λZY=>k0 (nr==ZY))))
def SU (N:Nat):Fl->Fl->(Kz3)->Bool:=Sk N
def EG (N:Nat) (Z4 ZX:LF) (t12:Int) (e0:Kz3) (e1:Bool):(Int)->((Int)->Bool)->Bool:=λv_ K=>match v_ with
 | t13=>(cond (decide (t13<t12)) (inR t13 Z4.length&&(inR t13 ZX.length&&SU N (Z4.getD t13.toNat none) (ZX.getD t13.toNat none) (λcr=>cond (!cr) (e0 false) (af .i64 (t13+1)&&K (t13+1))))) e1)
def Tv (N:Nat) (a b:LF) (k0:Kz3):Bool:=
 (cond (((a.length:Nat):Int) != ((b.length:Nat):Int)) (k0 false) (ah N (EG N a b ((a.length:Nat):Int) (λt4=>k0 t4) (k0 true)) 0))
def RS (N:Nat):LF->LF->(Kz3)->Bool:=ax N (Tv N)
def TB (N:Nat) (Z9:LF) (Z4 a_2:Int) (a_3 b_0:LF) (ZX Z3:Int) (b_3:LF) (k0:Kz3):Bool:=
 (RS N Z9 b_0 (λcr=>cond (cr==true) (cond ((Z4==ZX)==true) (cond ((a_2==Z3)==true) (RS N a_3 b_3 (λZ1=>k0 Z1)) (k0 false)) (k0 false)) (k0 false)))
def Wm (N:Nat):LF->Int->Int->LF->LF->Int->Int->LF->(Kz3)->Bool:=ax N (TB N)
def B1 (N:Nat) (i abv aaJ m_5 m_6:Int) (m_7:LF) (e0:Kz3) (e1:Bool):(Int)->((Int)->Bool)->Bool:=λv_ K=>match v_ with
 | j=>(cond (decide (j<m_6)) (zo N m_5 m_6 m_7 i j (λxr=>I1 N xr (some 0) (λcr=>cond (!cr) (e0 false) (af .i64 (j+1)&&K (j+1))))) e1)
def gZ (N:Nat) (t16 m m_3:Int) (m_4:LF) (e0:Kz3) (e1:Bool):(Int)->((Int)->Bool)->Bool:=λv_ K=>match v_ with
 | t17=>(cond (decide (t17<t16)) (af .i64 (t17+1)&&ah N (B1 N t17 t16 t17 m m_3 m_4 (λt2=>e0 t2) (af .i64 (t17+1)&&K (t17+1))) (t17+1)) e1)
def Nj (N:Nat) (m_0 Z0:Int) (Z7:LF) (k0:Kz3):Bool:=
 (we N m_0 Z0 Z7 (λnr=>cond ((nr != 0)==false) (cond (m_0 != Z0) (k0 false) (ah N (gZ N m_0 m_0 Z0 Z7 (λaai=>k0 aai) (k0 true)) 0)) (k0 false)))
def PL (N:Nat):Int->Int->LF->(Kz3)->Bool:=ax N (Nj N)
def fT (N:Nat) (t16 l l_3:Int) (l_4:LF) (e0:Kz4) (e1:Bool):(Int)->((Int)->Bool)->Bool:=λv_ K=>match v_ with
 | t17=>(cond (decide (t17<t16)) (gC N l l_3 l_4 t17 t17 (λxr=>cond (!(fgt xr (some 0))) (e0 93) (af .i64 (t17+1)&&K (t17+1)))) e1)
def mO (N:Nat) (l_0 l_1:Int) (l_2:LF) (k0:Kz4):Bool:=
 (we N l_0 l_1 l_2 (λnr=>cond (nr != 0) (k0 nr) (cond (l_0 != l_1) (k0 3) (ah N (fT N l_0 l_0 l_1 l_2 (λt2=>k0 t2) (PL N l_0 l_1 l_2 (λcr=>cond (!cr) (k0 93) (k0 0)))) 0))))
def gy (N:Nat):Int->Int->LF->(Kz4)->Bool:=ax N (mO N)
def sc (N:Nat) (l_0 l_1:Int) (l_2 b:LF) (k0:Kz1):Bool:=
 (gy N l_0 l_1 l_2 (λnr=>cond (nr != 0) (k0 [] nr) (mH N l_0 b (λZY=>cond (ZY != 0) (k0 [] ZY) (ci N l_0 l_1 l_2 b false (λxsr cr=>cond cr (k0 [] 5) (k0 xsr 0)))))))
def zr (N:Nat):Int->Int->LF->LF->(Kz1)->Bool:=ax N (sc N)
def wB (N:Nat) (l_0 l_1:Int) (l_2 b:LF) (k0:Kz1):Bool:=
 (zr N l_0 l_1 l_2 b (λxsr nr=>k0 xsr nr))
def rb (N:Nat):Int->Int->LF->LF->(Kz1)->Bool:=wB N
def W6 (N:Nat) (i j b ZX:Int) (Z3:LF) (k0:Kz6):Bool:=
 (zo N b ZX Z3 j i (λxr=>k0 xr))
def Wk (N:Nat):Int->Int->Int->Int->LF->(Kz6)->Bool:=W6 N
def BX (N:Nat) (aaE i aaJ abw t21 acQ acR:Int) (acS:LF) (abX abY Z7 m_3:Int) (e0:Kz7):(Int × LF)->((Int × LF)->Bool)->Bool:=λv_ K=>match v_ with
 | (t22,abx)=>(cond (decide (t22<t21)) (Wk N i t22 acQ acR acS (λxr=>decide ((List.length (abx++[xr]))*8<=140737488355328)&&(af .i64 (t22+1)&&K ((t22+1),(abx++[xr]))))) (e0 abx))
def EO (N:Nat) (aaI t17 at_ acO:Int) (acP:LF) (t6 aa0 m Z0:Int) (e0:Kz7):(Int × LF)->((Int × LF)->Bool)->Bool:=λv_ K=>match v_ with
 | (t18,b3)=>(cond (decide (t18<t17)) (ah N (BX N aaI t18 t17 t18 aaI at_ acO acP t6 aa0 m Z0 (λacA=>af .i64 (t18+1)&&K ((t18+1),acA))) (0,b3)) (e0 b3))
def M4 (N:Nat) (rows cols b ZX:Int) (Z3:LF) (k0:Kz7):Bool:=
 (af .i64 (rows*cols)&&(gu 8 0 (rows*cols)&&ah N (EO N cols rows b ZX Z3 0 0 rows cols (λaea=>k0 aea)) (0,[])))
def PG (N:Nat):Int->Int->Int->Int->LF->(Kz7)->Bool:=ax N (M4 N)
def W7 (N:Nat) (m_0 Z0:Int) (Z7:LF) (k0:Kx8):Bool:=
 (we N m_0 Z0 Z7 (λnr=>cond (nr != 0) (k0 0 0 [] nr) (PG N Z0 m_0 m_0 Z0 Z7 (λxsr=>k0 Z0 m_0 xsr 0))))
def Mp (N:Nat):Int->Int->LF->(Kx8)->Bool:=W7 N
def pk (N:Nat) (Z9 Z4:Int) (a_2 a_3:LF) (k0:Kx3):Bool:=
 (kH N Z9 Z4 a_2 a_3 (λnr=>cond (nr != 0) (k0 0 0 [] [] nr) (mF N Z9 Z4 a_2 (λZY Z2 xsr aag aae=>cond (aae != 0) (k0 0 0 [] [] aae) (rb N ZY Z2 xsr a_3 (λZ8 n5=>cond (n5 != 0) (k0 0 0 [] [] n5) (Mp N ZY Z2 xsr (λn6 n7 aak n8=>k0 n6 n7 aak Z8 n8))))))))
def l5 (N:Nat):Int->Int->LF->LF->(Kx3)->Bool:=ax N (pk N)
def sx (N:Nat) (l_0 l_1:Int) (l_2 b:LF) (k0:Kz1):Bool:=
 (GY N l_0 l_1 l_2 (λnr=>cond (nr != 0) (k0 [] nr) (ov N l_0 l_1 l_2 b (λZY=>cond (ZY != 0) (k0 [] ZY) (Du N l_0 l_1 l_2 b false (λxsr cr=>cond cr (k0 [] 5) (k0 xsr 0)))))))
def tS (N:Nat):Int->Int->LF->LF->(Kz1)->Bool:=ax N (sx N)
def NE (N:Nat) (Z9 Z4:Int) (a_2 a_3:LF) (k0:Kx3):Bool:=
 (mL N Z9 Z4 a_2 a_3 (λnr=>cond (nr != 0) (k0 0 0 [] [] nr) (ou N Z9 Z4 a_2 (λZY Z2 xsr aag aae=>cond (aae != 0) (k0 0 0 [] [] aae) (tS N ZY Z2 xsr a_3 (λZ8 n5=>cond (n5 != 0) (k0 0 0 [] [] n5) (zq N ZY Z2 xsr (λaak=>k0 Z2 ZY aak Z8 0))))))))
def Kk (N:Nat):Int->Int->LF->LF->(Kx3)->Bool:=ax N (NE N)
def EH (N:Nat) (Z4 ZX:LF) (t12:Int) (e0:Kz3) (e1:Bool):(Int)->((Int)->Bool)->Bool:=λv_ K=>match v_ with
 | t13=>(cond (decide (t13<t12)) (inR t13 Z4.length&&yn N (Z4.getD t13.toNat none) (λnr=>inR t13 ZX.length&&yn N (ZX.getD t13.toNat none) (λZY=>cond (nr != ZY) (e0 false) (af .i64 (t13+1)&&K (t13+1))))) e1)
def Tk (N:Nat) (a b:LF) (k0:Kz3):Bool:=
 (cond (((a.length:Nat):Int) != ((b.length:Nat):Int)) (k0 false) (ah N (EH N a b ((a.length:Nat):Int) (λt4=>k0 t4) (k0 true)) 0))
def Mm (N:Nat):LF->LF->(Kz3)->Bool:=ax N (Tk N)
def Ql (N:Nat) (Z9 Z4:Int) (a_2:LF) (b_0 ZX:Int) (Z3:LF) (k0:Kz3):Bool:=
 (cond ((Z9==b_0)==true) (cond ((Z4==ZX)==true) (Mm N a_2 Z3 (λcr=>k0 cr)) (k0 false)) (k0 false))
def RP (N:Nat):Int->Int->LF->Int->Int->LF->(Kz3)->Bool:=ax N (Ql N)
def Xg (N:Nat) (Z9 Z4:Int) (a_2 a_3:LF) (b_0 ZX:Int) (Z3 b_3:LF) (k0:Kz3):Bool:=
 (Mm N a_3 b_3 (λcr=>cond (cr==true) (RP N Z9 Z4 a_2 b_0 ZX Z3 (λZ1=>k0 Z1)) (k0 false)))
def Wv (N:Nat):Int->Int->LF->LF->Int->Int->LF->LF->(Kz3)->Bool:=Xg N
def fz (N:Nat) (n_2 i_1 j adu adv aaH abW t39 l_8 l_9:Int) (ab4:LF) (acn aco adi adj:Int) (aby:LF) (e0:Ky6):(Fl × Int × Bool)->((Fl × Int × Bool)->Bool)->Bool:=λv_ K=>match v_ with
 | (t,t40,s_2)=>(cond (decide (t40<t39)) (gC N l_8 l_9 ab4 i_1 t40 (λxr=>gC N l_8 l_9 ab4 j t40 (λaaA=>bV N xr aaA s_2 (λabz cr=>bM N (AO t abz) cr (λZ1=>af .i64 (t40+1)&&K ((AO t abz),(t40+1),Z1)))))) (e0 t s_2))
def i7 (N:Nat) (n_1 i acW acX t34 l_5 l_6:Int) (l_7:LF) (aaw aax aaL abl:Int) (e0:Ky7):(Int × Bool × LF)->((Int × Bool × LF)->Bool)->Bool:=λv_ K=>match v_ with
 | (t35,s_1,aaV)=>(cond (decide (t35<t34)) (af .i64 (t35+1)&&ah N (fz N n_1 i t35 acW acX t34 t35 (t35+1) l_5 l_6 l_7 aaw aax aaL abl aaV (λt_1 s_3=>af .i64 (i*n_1)&&(af .i64 ((i*n_1)+t35)&&(af .i64 (t35*n_1)&&(af .i64 ((t35*n_1)+i)&&(inR ((i*n_1)+t35) aaV.length&&(decide ((Int.toNat ((i*n_1)+t35))<aaV.length)&&(inR ((t35*n_1)+i) (List.length (aaV.set (Int.toNat ((i*n_1)+t35)) t_1))&&(decide ((Int.toNat ((t35*n_1)+i))<(List.length (aaV.set (Int.toNat ((i*n_1)+t35)) t_1)))&&(af .i64 (t35+1)&&K ((t35+1),s_3,(List.set (aaV.set (Int.toNat ((i*n_1)+t35)) t_1) (Int.toNat ((t35*n_1)+i)) t_1)))))))))))) ((some 0),0,s_1)) (e0 s_1 aaV))
def i6 (N:Nat) (n t29 l l_3:Int) (l_4:LF) (t2 aai out aaf:Int) (e0:Ky7):(Int × Bool × LF)->((Int × Bool × LF)->Bool)->Bool:=λv_ K=>match v_ with
 | (t30,s,b4)=>(cond (decide (t30<t29)) (af .i64 (t30+1)&&ah N (i7 N n t30 t29 t30 (t30+1) l l_3 l_4 t2 aai out aaf (λs_4 acB=>af .i64 (t30+1)&&K ((t30+1),s_4,acB))) (0,s,b4)) (e0 s b4))
def pg (N:Nat) (l_0 l_1:Int) (l_2:LF) (k0:Kx8):Bool:=
 (gy N l_0 l_1 l_2 (λnr=>cond (nr != 0) (k0 0 0 [] nr) (af .i64 (l_0*l_0)&&(gu 8 (l_0*l_0) (l_0*l_0)&&ah N (i6 N l_0 l_0 l_0 l_1 l_2 0 0 l_0 l_0 (λs_5 b3=>cond s_5 (k0 0 0 [] 5) (k0 l_0 l_0 b3 0))) (0,false,(List.replicate (Int.toNat (l_0*l_0)) (some 0)))))))
def pq (N:Nat):Int->Int->LF->(Kx8)->Bool:=ax N (pg N)
def vv (N:Nat) (m_0 Z0:Int) (Z7:LF) (i:Int) (k0:Kz7):Bool:=
 (af .i64 (i*Z0)&&(af .i64 (i+1)&&(af .i64 ((i+1)*Z0)&&(decide (0<=(i*Z0)/\(i*Z0)<=((i+1)*Z0)/\((i+1)*Z0)<=((Z7.length:Nat):Int))&&k0 (List.drop (Int.toNat (i*Z0)) (List.take (Int.toNat ((i+1)*Z0)) Z7))))))
def wi (N:Nat):Int->Int->LF->Int->(Kz7)->Bool:=ax N (vv N)
abbrev Am:=Fl->(Kz6)->Bool
def xk (N:Nat):Am:=λx k=>k (Co x)
def ui (N:Nat) (f:Fl) (sign:Int) (k0:Kz3):Bool:=
 (cond (sign==0) (xk N f (λxr=>k0 (fgt xr (some 9218868437227405311)))) (cond (decide (sign<0)) (k0 (fgt (VM f) (some 9218868437227405311))) (k0 (fgt f (some 9218868437227405311)))))
def nF (N:Nat):Fl->Int->(Kz3)->Bool:=ax N (ui N)
def vu (N:Nat) (x:Fl) (b:Bool) (k0:Kz3):Bool:=
 (cond ((!feq x x)==false) (nF N x 0 (λcr=>cond cr (k0 true) (k0 b))) (k0 true))
def rg (N:Nat):Fl->Bool->(Kz3)->Bool:=ax N (vu N)
def sj (N:Nat) (a b:Fl) (ZX:Bool) (k0:Ky6):Bool:=
 (rg N (eP a b) ZX (λcr=>k0 (eP a b) cr))
def tJ (N:Nat):Fl->Fl->Bool->(Ky6)->Bool:=ax N (sj N)
def kQ (N:Nat) (Z3 t10:LF) (t11:Int) (e0:Ky6):(Fl × Int × Bool)->((Fl × Int × Bool)->Bool)->Bool:=λv_ K=>match v_ with
 | (t,t12,s)=>(cond (decide (t12<t11)) (inR t12 t10.length&&(inR t12 Z3.length&&tJ N (t10.getD t12.toNat none) (Z3.getD t12.toNat none) s (λxr cr=>rg N (AO t xr) cr (λZ1=>af .i64 (t12+1)&&K ((AO t xr),(t12+1),Z1))))) (e0 t s))
def si (N:Nat) (a b:LF) (ZX:Bool) (k0:Ky6):Bool:=
 (ah N (kQ N b a ((a.length:Nat):Int) (λt_1 b0=>k0 t_1 b0)) ((some 0),0,ZX))
def tI (N:Nat):LF->LF->Bool->(Ky6)->Bool:=ax N (si N)
def qj (N:Nat) (b k0:Bool):Bool:=
 k0
def xj (N:Nat):Bool->(Bool)->Bool:=ax N (qj N)
def jS (N:Nat) (y_0 y_1:Int) (y_2:LF) (b:Bool) (ZX:LF) (k0:Ky1) (k1:Kz4):Bool:=
 (xj N b (cond b (k0 0 0 5) (bN N y_0 y_1 y_2 (λcr=>cond (!cr) (k0 0 0 170) (k1 0)))))
def fO (N:Nat):Int->Int->LF->Bool->LF->(Ky1)->(Kz4)->Bool:=ax N (jS N)
def dw (N:Nat) (t40 a a_4:Int) (a_5 a_6:LF) (t2 aai l l_1:Int) (l_2:LF) (y y_1:Int) (y_2:LF) (e0:Ky7):(Int × Bool × LF)->((Int × Bool × LF)->Bool)->Bool:=λv_ K=>match v_ with
 | (t41,adZ,v)=>(cond (decide (t41<t40)) (wi N l l_1 l_2 t41 (λaak=>af .i64 (t41+1)&&(decide (0<=(t41+1)/\(t41+1)<=((aak.length:Nat):Int))&&tI N (List.drop 0 (List.take (Int.toNat (t41+1)) aak)) a_6 adZ (λxr cr=>inR t41 v.length&&(decide (t41.toNat<v.length)&&(af .i64 (t41+1)&&K ((t41+1),cr,(v.set t41.toNat xr)))))))) (e0 adZ v))
def lR (N:Nat) (Z9 Z4:Int) (a_2 a_3:LF) (k0:Kx3):Bool:=
 (fo N Z9 Z4 a_2 a_3 (λnr=>cond (nr != 0) (k0 0 0 [] [] nr) (Mp N Z9 Z4 a_2 (λZY Z2 xsr aag=>pq N ZY Z2 xsr (λaae n5 Z8 n6=>cond (n6 != 0) (k0 0 0 [] [] n6) (gu 8 ((a_3.length:Nat):Int) ((a_3.length:Nat):Int)&&ah N (dw N (((List.length (List.replicate (Int.toNat ((a_3.length:Nat):Int)) (some 0))):Nat):Int) Z9 Z4 a_2 a_3 0 0 ZY Z2 xsr aae n5 Z8 (λadQ v_1=>fO N aae n5 Z8 adQ v_1 (λn7 n8 n9=>k0 n7 n8 [] [] n9) (λn10=>k0 aae n5 Z8 v_1 n10))) (0,false,(List.replicate (Int.toNat ((a_3.length:Nat):Int)) (some 0)))))))))
def jD (N:Nat):Int->Int->LF->LF->(Kx3)->Bool:=ax N (lR N)
def xC (N:Nat) (m_0 Z0:Int) (Z7:LF) (i:Int) (k0:Kz7):Bool:=
 (af .i64 (i*Z0)&&(af .i64 (i+1)&&(af .i64 ((i+1)*Z0)&&(decide (0<=(i*Z0)/\(i*Z0)<=((i+1)*Z0)/\((i+1)*Z0)<=((Z7.length:Nat):Int))&&k0 (List.drop (Int.toNat (i*Z0)) (List.take (Int.toNat ((i+1)*Z0)) Z7))))))
def p6 (N:Nat):Int->Int->LF->Int->(Kz7)->Bool:=ax N (xC N)
def kY (N:Nat) (Z4 Z3:LF) (t10:Int) (e0:Ky6):(Fl × Int × Bool)->((Fl × Int × Bool)->Bool)->Bool:=λv_ K=>match v_ with
 | (t,t11,s)=>(cond (decide (t11<t10)) (inR t11 Z4.length&&(inR t11 Z3.length&&om N (eP (Z4.getD t11.toNat none) (Z3.getD t11.toNat none)) s (λcr=>om N (AO t (eP (Z4.getD t11.toNat none) (Z3.getD t11.toNat none))) cr (λZ1=>af .i64 (t11+1)&&K ((AO t (eP (Z4.getD t11.toNat none) (Z3.getD t11.toNat none))),(t11+1),Z1))))) (e0 t s))
def sF (N:Nat) (a b:LF) (ZX:Bool) (k0:Ky6):Bool:=
 (ah N (kY N a b ((a.length:Nat):Int) (λt_1 b0=>k0 t_1 b0)) ((some 0),0,ZX))
def pa (N:Nat):LF->LF->Bool->(Ky6)->Bool:=ax N (sF N)
def hI (N:Nat) (i_1:Int) (aa8:LF) (m_3 m_4 aaw aax t_2 t_3:Int) (e0:Kz7):(Int × LF)->((Int × LF)->Bool)->Bool:=λv_ K=>match v_ with
 | (j,aaV)=>(cond (decide (j<=i_1)) (gW N m_3 m_4 aa8 i_1 j (λxr=>rT N t_2 t_3 i_1 j xr aaV (λZ8=>gW N m_3 m_4 aa8 i_1 j (λaaA=>rT N t_2 t_3 j i_1 aaA Z8 (λaak=>af .i64 (j+1)&&K ((j+1),aak)))))) (e0 aaV))
def g_ (N:Nat) (b0:LF) (m Z7 t2 aai t t_1:Int) (e0:Kz7):(Int × LF)->((Int × LF)->Bool)->Bool:=λv_ K=>match v_ with
 | (i,b4)=>(cond (decide (i<m)) (ah N (hI N i b0 m Z7 t2 aai t t_1 (λaby=>af .i64 (i+1)&&K ((i+1),aby))) (0,b4)) (e0 b4))
def Nm (N:Nat) (m_0 Z0:Int) (b:LF) (k0:Kz7):Bool:=
 (xg N m_0 Z0 (λxsr=>ah N (g_ N b m_0 Z0 0 0 m_0 Z0 (λb3=>k0 b3)) (0,xsr)))
def PO (N:Nat):Int->Int->LF->(Kz7)->Bool:=ax N (Nm N)
def jQ (N:Nat) (i_1 l_5 l_6:Int) (l_7:LF) (aaw aax Z7 m_3:Int) (e0:Ky7):(Int × Bool × LF)->((Int × Bool × LF)->Bool)->Bool:=λv_ K=>match v_ with
 | (j,s_1,aaV)=>(cond (decide (j<=i_1)) (p6 N l_5 l_6 l_7 i_1 (λZ8=>af .i64 (j+1)&&(decide (0<=(j+1)/\(j+1)<=((Z8.length:Nat):Int))&&p6 N l_5 l_6 l_7 j (λaak=>af .i64 (j+1)&&(decide (0<=(j+1)/\(j+1)<=((aak.length:Nat):Int))&&pa N (List.drop 0 (List.take (Int.toNat (j+1)) Z8)) (List.drop 0 (List.take (Int.toNat (j+1)) aak)) s_1 (λxr cr=>rT N Z7 m_3 i_1 j xr aaV (λaaS=>af .i64 (j+1)&&K ((j+1),cr,aaS)))))))) (e0 s_1 aaV))
def jP (N:Nat) (l l_3:Int) (l_4:LF) (t2 aai m Z0:Int) (e0:Ky7):(Int × Bool × LF)->((Int × Bool × LF)->Bool)->Bool:=λv_ K=>match v_ with
 | (i,s,b4)=>(cond (decide (i<l)) (ah N (jQ N i l l_3 l_4 t2 aai m Z0 (λs_2 aby=>af .i64 (i+1)&&K ((i+1),s_2,aby))) (0,s,b4)) (e0 s b4))
def qr (N:Nat) (l_0 l_1:Int) (l_2:LF) (k0:Kx8):Bool:=
 (GY N l_0 l_1 l_2 (λnr=>cond (nr != 0) (k0 0 0 [] nr) (xg N l_0 l_0 (λxsr=>ah N (jP N l_0 l_1 l_2 0 0 l_0 l_0 (λs_3 b3=>cond s_3 (k0 0 0 [] 5) (PO N l_0 l_0 b3 (λabN=>k0 l_0 l_0 abN 0)))) (0,false,xsr)))))
def rq (N:Nat):Int->Int->LF->(Kx8)->Bool:=ax N (qr N)
def ND (N:Nat) (p_0 p_1:Int) (p_2 b:LF) (ZX:Bool) (k0:Ky1) (k1:Kz1):Bool:=
 (cond ZX (k0 0 0 5) (Ke N p_0 p_1 p_2 (λxsr=>Cz N p_0 p_1 xsr (λcr=>cond (!cr) (k0 0 0 151) (k1 xsr 0)))))
def S1 (N:Nat):Int->Int->LF->LF->Bool->(Ky1)->(Kz1)->Bool:=ax N (ND N)
def M9 (N:Nat) (y_0 y_1:Int) (y_2 b:LF) (ZX:Bool) (k0:Ky1) (k1:Kz1):Bool:=
 (S1 N y_0 y_1 y_2 b ZX (λnr ZY Z2=>cond (Z2==151) (k0 nr ZY 170) (k0 nr ZY Z2)) (λxsr aag=>cond (aag==151) (k1 xsr 170) (k1 xsr aag)))
def Kg (N:Nat):Int->Int->LF->LF->Bool->(Ky1)->(Kz1)->Bool:=ax N (M9 N)
def yA (N:Nat) (adw a_7 a_8:Int) (a_9 abE:LF) (aaw aax l_3 l_4:Int) (l_5:LF) (y_3 y_4:Int) (y_5:LF) (e0:Ky7):(Int × Bool × LF)->((Int × Bool × LF)->Bool)->Bool:=λv_ K=>match v_ with
 | (aaH,s_1,v)=>(cond (decide (aaH<adw)) (p6 N l_3 l_4 l_5 aaH (λaaS=>af .i64 (aaH+1)&&(decide (0<=(aaH+1)/\(aaH+1)<=((aaS.length:Nat):Int))&&(af .i64 (aaH+1)&&(decide (0<=(aaH+1)/\(aaH+1)<=((abE.length:Nat):Int))&&pa N (List.drop 0 (List.take (Int.toNat (aaH+1)) aaS)) (List.drop 0 (List.take (Int.toNat (aaH+1)) abE)) s_1 (λaaA Z1=>decide ((List.length (v++[aaA]))*8<=140737488355328)&&(af .i64 (aaH+1)&&K ((aaH+1),Z1,(v++[aaA]))))))))) (e0 s_1 v))
def Jg (N:Nat) (Z9 Z4:Int) (a_2 a_3:LF) (k0:Kx3):Bool:=
 (GK N Z9 Z4 a_2 a_3 (λnr=>cond (nr != 0) (k0 0 0 [] [] nr) (zq N Z9 Z4 a_2 (λxsr=>rq N Z4 Z9 xsr (λZY Z2 Z8 aag=>cond (aag != 0) (k0 0 0 [] [] aag) (ah N (yA N ((a_3.length:Nat):Int) Z9 Z4 a_2 a_3 0 0 Z4 Z9 xsr ZY Z2 Z8 (λs_2 v_1=>Kg N ZY Z2 Z8 v_1 s_2 (λaae n5 n6=>k0 aae n5 [] [] n6) (λabN n7=>k0 ZY Z2 abN v_1 n7))) (0,false,[])))))))
def GS (N:Nat):Int->Int->LF->LF->(Kx3)->Bool:=ax N (Jg N)
def Xh (N:Nat) (Z9 Z4:Int) (a_2 a_3:LF) (b_0 ZX:Int) (Z3 b_3:LF) (k0:Kz3):Bool:=
 (Mm N a_3 b_3 (λcr=>cond (cr==true) (RP N Z9 Z4 a_2 b_0 ZX Z3 (λZ1=>k0 Z1)) (k0 false)))
def Ww (N:Nat):Int->Int->LF->LF->Int->Int->LF->LF->(Kz3)->Bool:=Xh N
def ph (N:Nat) (l_0 l_1:Int) (l_2 b:LF) (k0:Kz1):Bool:=
 (gy N l_0 l_1 l_2 (λnr=>cond (nr != 0) (k0 [] nr) (mH N l_0 b (λZY=>cond (ZY != 0) (k0 [] ZY) (cF N l_0 l_1 l_2 b false (λxsr cr=>cond cr (k0 [] 5) (k0 xsr 0)))))))
def vn (N:Nat):Int->Int->LF->LF->(Kz1)->Bool:=ax N (ph N)
def wC (N:Nat) (l_0 l_1:Int) (l_2 b:LF) (k0:Kz1):Bool:=
 (vn N l_0 l_1 l_2 b (λxsr nr=>k0 xsr nr))
def rf (N:Nat):Int->Int->LF->LF->(Kz1)->Bool:=wC N
def nh (N:Nat) (Z9 Z4:Int) (a_2 a_3:LF) (k0:Kz1):Bool:=
 (fo N Z9 Z4 a_2 a_3 (λnr=>cond (nr != 0) (k0 [] nr) (Mp N Z9 Z4 a_2 (λZY Z2 xsr aag=>rf N ZY Z2 xsr a_3 (λZ8 aae=>k0 Z8 aae)))))
def kI (N:Nat):Int->Int->LF->LF->(Kz1)->Bool:=ax N (nh N)
def sA (N:Nat) (l_0 l_1:Int) (l_2 b:LF) (k0:Kz1):Bool:=
 (GY N l_0 l_1 l_2 (λnr=>cond (nr != 0) (k0 [] nr) (ov N l_0 l_1 l_2 b (λZY=>cond (ZY != 0) (k0 [] ZY) (Dw N l_0 l_1 l_2 b false (λxsr cr=>cond cr (k0 [] 5) (k0 xsr 0)))))))
def tU (N:Nat):Int->Int->LF->LF->(Kz1)->Bool:=ax N (sA N)
def sD (N:Nat) (Z9 Z4:Int) (a_2 a_3:LF) (k0:Kz1):Bool:=
 (GK N Z9 Z4 a_2 a_3 (λnr=>cond (nr != 0) (k0 [] nr) (zq N Z9 Z4 a_2 (λxsr=>tU N Z4 Z9 xsr a_3 (λZ8 ZY=>k0 Z8 ZY)))))
def mM (N:Nat):Int->Int->LF->LF->(Kz1)->Bool:=sD N
abbrev VE:=(Kz3)->Bool
def sQ0 (N:Nat):VE:=λk=>k true
def GQ3 (N:Nat) (v:LI) (rows cols:Int) (y r:LI) (k0:Kz3):Bool:=
 (Wt N v rows cols y (λxsr Z8=>Wu N v rows r (λaak aaS=>iY N rows cols xsr Z8 (λabN nr ZY adD Z2=>Dz N rows cols xsr Z8 (λaeN aag aae aeO n5=>kH N rows cols xsr Z8 (λn6=>mL N rows cols xsr Z8 (λn7=>cond ((n6 != n7)==false) (fo N rows rows aak aaS (λn8=>GK N rows rows aak aaS (λn9=>cond ((n8 != n9)==false) (Wm N abN nr ZY adD aeN aag aae aeO (λcr=>cond ((!cr)==false) (cond (Z2 != n5) (k0 false) (l5 N rows cols xsr Z8 (λn10 n11 aeP aeQ n12=>Kk N rows cols xsr Z8 (λn13 n14 aet y11 n15=>Wv N n10 n11 aeP aeQ n13 n14 aet y11 (λZ1=>cond ((!Z1)==false) (cond (n12 != n15) (k0 false) (jD N rows rows aak aaS (λn16 n17 y12 y13 n18=>GS N rows rows aak aaS (λn19 n20 y14 y15 n21=>Ww N n16 n17 y12 y13 n19 n20 y14 y15 (λaaj=>cond ((!aaj)==false) (cond (n18 != n21) (k0 false) (kI N rows rows aak aaS (λy16 n22=>mM N rows rows aak aaS (λy17 n23=>Mm N y16 y17 (λaay=>cond (aay==true) (cond ((n22==n23)==true) (sQ0 N (λabF=>k0 abF)) (k0 false)) (k0 false)))))) (k0 false)))))) (k0 false)))))) (k0 false))) (k0 false)))) (k0 false))))))))
def sQ3 (N:Nat):LI->Int->Int->LI->LI->(Kz3)->Bool:=GQ3 N
end Go.Proofs.YtdinakfmablagaaGreatDoor
