/- The program's functions and their ties. Conditions: none. -/
import Derived.Test.YteifemaagdeomaaGreatDoorMachT
set_option linter.unusedVariables false
namespace Go.Proofs.YteifemaagdeomaaGreatDoor
open Go Go.Mach
variable (N:Nat)
abbrev LI:=List Int
abbrev LF:=List Fl
abbrev Kx0:=Int->Int->Fl->Fl->Fl->Int->LF->LF->LF->Bool
abbrev Kx1:=Int->Int->Fl->Fl->Fl->Int->LF->Bool
abbrev Kx2:=Int->Int->Fl->Fl->Fl->Int->Bool
abbrev Kx3:=Int->Int->Int->Int->Bool->Bool
abbrev Kx4:=Int->Int->Int->LF->LF->Bool
abbrev Kx5:=Bool->Int->Int->Int->Bool
abbrev Kx6:=Bool->LI->Bool->LI->Bool
abbrev Kx7:=Int->Int->Int->Int->Bool
abbrev Kx8:=Bool->Int->Int->Bool
abbrev Kx9:=Bool->Nat->Nat->Bool
abbrev Ky0:=Int->Int->Int->Bool
abbrev Ky1:=Bool->Bool->Bool
abbrev Ky2:=Bool->LI->Bool
abbrev Ky3:=Int->Int->Bool
abbrev Ky4:=Nat->Nat->Bool
abbrev Ky5:=Fl->Bool->Bool
abbrev Ky6:=Bool->LF->Bool
abbrev Ky7:=Int->LI->Bool
abbrev Ky8:=Nat->LI->Bool
abbrev Ky9:=LI->LI->Bool
abbrev Kz0:=Bool->Bool
abbrev Kz1:=Int->Bool
abbrev Kz2:=Nat->Bool
abbrev Kz3:=Fl->Bool
abbrev Kz4:=LF->Bool
abbrev Kz5:=LI->Bool
abbrev RT0:RT:=(.pair (.ints .u64) (.pair (.int .u64) (.int .u64)))
abbrev RT1:RT:=(.ptr (.pair (.pair .bool (.ints .u64)) (.pair .bool (.ints .u64))))
abbrev RY1:=(Bool × LI) × Bool × LI
abbrev RT2:RT:=(.pair (.pair .bool (.ints .u32)) (.pair .bool (.ints .u32)))
abbrev RY2:=(Bool × LI) × Bool × LI
abbrev RT3:RT:=(.ptr (.pair (.pair .bool (.ints .u32)) (.pair .bool (.ints .u32))))
abbrev RY3:=(Bool × LI) × Bool × LI
def aD:LI:=[0,1,2,2,3,3,3,3,4,4,4,4,4,4,4,4,5,5,5,5,5,5,5,5,5,5,5,5,5,5,5,5,6,6,6,6,6,6,6,6,6,6,6,6,6,6,6,6,6,6,6,6,6,6,6,6,6,6,6,6,6,6,6,6,7,7,7,7,7,7,7,7,7,7,7,7,7,7,7,7,7,7,7,7,7,7,7,7,7,7,7,7,7,7,7,7,7,7,7,7,7,7,7,7,7,7,7,7,7,7,7,7,7,7,7,7,7,7,7,7,7,7,7,7,7,7,7,7,8,8,8,8,8,8,8,8,8,8,8,8,8,8,8,8,8,8,8,8,8,8,8,8,8,8,8,8,8,8,8,8,8,8,8,8,8,8,8,8,8,8,8,8,8,8,8,8,8,8,8,8,8,8,8,8,8,8,8,8,8,8,8,8,8,8,8,8,8,8,8,8,8,8,8,8,8,8,8,8,8,8,8,8,8,8,8,8,8,8,8,8,8,8,8,8,8,8,8,8,8,8,8,8,8,8,8,8,8,8,8,8,8,8,8,8,8,8,8,8,8,8,8,8,8,8,8,8]
abbrev xm:=Nat->(Kz1)->Bool
def JW (N:Nat):xm:=λn k=>k n
abbrev oq:=(Ky0)->Bool
def GR (N:Nat) (k0:Ky0):Bool:=
 (k0 52 2047 1075)
def AW:oq:=GR N
abbrev Cc:=Int->Int->Int->(Kz1)->Bool
def alt (N:Nat) (f_0 f_1 f_2:Int) (k0:Kz1):Bool:=
 (aj .i64 (f_1+1)&&(decide (0<=f_0)&&k0 (IntKind.wrap .u64 ((IntKind.wrap .u64 (f_1+1))*2 ^ (min f_0.toNat 64)))))
def V7:Cc:=alt N
def als (N:Nat) (f_0 f_1 f_2:Int) (k0:Kz1):Bool:=
 (decide (0<=f_0)&&k0 (IntKind.wrap .u64 ((IntKind.wrap .u64 f_1)*2 ^ (min f_0.toNat 64))))
def VR:Cc:=als N
abbrev HA:=Int->Int->Int->Int->(Kz0)->Bool
def ZX (N:Nat) (ax2:Cc) (ax0:Cc) (b f_0 f_1 f_2:Int) (k0:Kz0):Bool:=
 (ax2 f_0 f_1 f_2 (λnr=>ax0 f_0 f_1 f_2 (λaur=>k0 (decide ((aF .andNot .u64 b nr)>aur)))))
def VQ:HA:=ZX N (V7 N) (VR N)
def alr (N:Nat) (f_0 f_1 f_2:Int) (k0:Kz1):Bool:=
 (decide (0<=f_0)&&k0 (IntKind.wrap .u64 ((1:Int)*2 ^ (min f_0.toNat 64))))
def D9:Cc:=alr N
def aax (N:Nat) (ax0:Cc) (avD:Cc) (f_0 f_1 f_2:Int) (k0:Kz1):Bool:=
 (ax0 f_0 f_1 f_2 (λnr=>avD f_0 f_1 f_2 (λaur=>k0 (aF .or .u64 (aF .or .u64 nr (Int.fdiv aur (2 ^ 1))) (IntKind.wrap .u64 (Int.tdiv f_0 52))))))
def Wb:Cc:=aax N (VR N) (D9 N)
abbrev BP:=Int->Int->Int->Int->(Kz1)->Bool
def Zn (N:Nat) (azN:HA) (az9:Cc) (b f_0 f_1 f_2:Int) (k0:Kz1):Bool:=
 (azN b f_0 f_1 f_2 (λcr=>cond cr (az9 f_0 f_1 f_2 (λnr=>k0 nr)) (k0 b)))
def P0:BP:=Zn N (VQ N) (Wb N)
abbrev Dk:=Int->Int->Int->Int->(Kx8)->Bool
def an1 (N:Nat) (axF:BP) (ax2:Cc) (avD:Cc) (b f_0 f_1 f_2:Int) (k0:Kx8):Bool:=
 (axF b f_0 f_1 f_2 (λnr=>ax2 f_0 f_1 f_2 (λaur=>decide (0<=f_0)&&(aj .i64 (aF .and .u64 (Int.fdiv nr (2 ^ (min f_0.toNat 64))) (IntKind.wrap .u64 f_1))&&avD f_0 f_1 f_2 (λaut=>k0 ((aF .and .u64 nr aur) != 0) (aF .and .u64 (Int.fdiv nr (2 ^ (min f_0.toNat 64))) (IntKind.wrap .u64 f_1)) (aF .and .u64 nr (IntKind.wrap .u64 (aut - 1))))))))
def Qn:Dk:=an1 N (P0 N) (V7 N) (D9 N)
def an0 (N:Nat) (awJ:Dk) (b f_0 f_1 f_2:Int) (k0:Kz1):Bool:=
 (awJ b f_0 f_1 f_2 (λcr nr aur=>cond ((nr==f_1)==true) (cond (aur != 0) (k0 1) (cond (nr==f_1) (k0 2) (cond ((nr==0)==true) (cond (aur==0) (k0 3) (cond (nr==0) (k0 4) (k0 5))) (cond (nr==0) (k0 4) (k0 5))))) (cond (nr==f_1) (k0 2) (cond ((nr==0)==true) (cond (aur==0) (k0 3) (cond (nr==0) (k0 4) (k0 5))) (cond (nr==0) (k0 4) (k0 5))))))
def Qm:BP:=an0 N (Qn N)
def aau (N:Nat) (aw0:xm) (av3:oq) (awI:BP) (x:Nat) (k0:Kz1):Bool:=
 (aw0 x (λnr=>av3 (λaur aut avw=>awI nr aur aut avw (λawc=>k0 awc))))
def L7:xm:=aau N (JW N) (AW N) (Qm N)
abbrev QW:=Nat->Nat->(Kz0)->Bool
def aav (N:Nat) (aw0:xm) (av3:oq) (axF:BP) (a b:Nat) (k0:Kz0):Bool:=
 (aw0 a (λnr=>av3 (λaur aut avw=>axF nr aur aut avw (λawc=>aw0 b (λn5=>av3 (λn6 n7 n8=>axF n5 n6 n7 n8 (λn9=>k0 (awc==n9))))))))
def L8:QW:=aav N (JW N) (AW N) (P0 N)
abbrev zc:=Int->(Kz3)->Bool
def Qg (N:Nat):zc:=λn k=>k (ow n.toNat)
abbrev QX:=Nat->(Kz3)->Bool
def aaA (N:Nat) (aw0:xm) (awE:zc) (x:Nat) (k0:Kz3):Bool:=
 (aw0 x (λnr=>awE (aF .andNot .u64 nr 9223372036854775808) (λxr=>k0 xr)))
def L9:QX:=aaA N (JW N) (Qg N)
abbrev xi:=LI->(Kz4)->Bool
def qI (N:Nat) (awE:zc) (awO:LI) (aAD:Int) (e0:Kz4):(Int × LF)->((Int × LF)->Bool)->Bool:=λv_ K=>match v_ with
 | (aAH,x)=>(cond (decide (aAH<aAD)) (inR aAH awO.length&&awE (awO.getD aAH.toNat 0) (λayy=>decide ((List.length (x++[ayy]))*8<=140737488355328)&&(aj .i64 (aAH+1)&&K ((aAH+1),(x++[ayy]))))) (e0 x))
def Zf (awE:zc) (l:LI) (k0:Kz4):Bool:=
 (ah N (qI N awE l ((l.length:Nat):Int) (λx_1=>k0 x_1)) (0,[]))
def PY:xi:=Zf N (Qg N)
abbrev QZ:=LI->Int->Int->LI->(LF->LF->Bool)->Bool
def GQ4 (N:Nat) (awx:xi) (x:LI) (rows cols:Int) (p:LI) (k0:LF->LF->Bool):Bool:=
 (awx x (λxsr=>awx p (λaxp=>k0 xsr axp)))
def sQ4:QZ:=GQ4 N (PY N)
abbrev HK:=Int->(Kz0)->Bool
def aac (N:Nat) (n:Int) (k0:Kz0):Bool:=
 (cond ((decide (n>=0))==true) (k0 (decide (n<=12))) (k0 false))
def VY:HK:=aac N
abbrev EM:=Fl->(Kz1)->Bool
def Qf (N:Nat):EM:=λx k=>k (IG x)
abbrev H_:=LF->(Kz0)->Bool
def o6 (N:Nat) (aw1:EM) (t6:LF) (t7:Int) (e0:Kz0) (e1:Bool):(Int)->((Int)->Bool)->Bool:=λv_ K=>match v_ with
 | t8=>(cond (decide (t8<t7)) (inR t8 t6.length&&aw1 (t6.getD t8.toNat none) (λnr=>cond ((nr==1)==false) (cond (nr==2) (e0 false) (aj .i64 (t8+1)&&K (t8+1))) (e0 false))) e1)
def anB (aw1:EM) (l:LF) (k0:Kz0):Bool:=
 (ah N (o6 N aw1 l ((l.length:Nat):Int) (λt2=>k0 t2) (k0 true)) 0)
def SY:H_:=anB N (Qf N)
abbrev wh:=Int->Int->LF->(Kz1)->Bool
def anC (N:Nat) (ayT:HK) (ay_:H_) (m_0 m_1:Int) (m_2:LF) (k0:Kz1):Bool:=
 (ayT m_0 (λcr=>cond ((!cr)==false) (ayT m_1 (λauN=>cond (!auN) (k0 1) (aj .i64 (m_0*m_1)&&cond (((m_2.length:Nat):Int) != (m_0*m_1)) (k0 3) (ay_ m_2 (λavT=>cond (!avT) (k0 4) (k0 0)))))) (k0 1)))
def SZ:wh:=anC N (VY N) (SY N)
abbrev EC:=Int->Int->LF->Int->Int->(Kz3)->Bool
def Zu (N:Nat) (m_0 m_1:Int) (m_2:LF) (i j:Int) (k0:Kz3):Bool:=
 (aj .i64 (i*m_1)&&(aj .i64 ((i*m_1)+j)&&(inR ((i*m_1)+j) m_2.length&&k0 (m_2.getD (Int.toNat ((i*m_1)+j)) none))))
def VC:EC:=Zu N
abbrev EL:=Fl->Fl->(Kz0)->Bool
def Qe (N:Nat):EL:=λx y k=>k (decide (cn x=cn y))
abbrev FB:=Int->Int->LF->(Kz0)->Bool
section
variable (N:Nat) (avF:wh) (awa:EC) (awh:EL)
def Nz (N:Nat) (avF:wh) (awa:EC) (awh:EL) (i ayu ayv t20 m_5 m_6:Int) (m_7:LF) (e0:Kz0) (e1:Bool):(Int)->((Int)->Bool)->Bool:=λv_ K=>match v_ with
 | t21=>(cond (decide (t21<t20)) (awa m_5 m_6 m_7 i t21 (λxr=>awa m_5 m_6 m_7 t21 i (λayy=>awh xr ayy (λcr=>cond (!cr) (e0 false) (aj .i64 (t21+1)&&K (t21+1)))))) e1)
def Ny (t16 m m_3:Int) (m_4:LF) (e0:Kz0) (e1:Bool):(Int)->((Int)->Bool)->Bool:=λv_ K=>match v_ with
 | t17=>(cond (decide (t17<t16)) (ah N (Nz N avF awa awh t17 t16 t17 t17 m m_3 m_4 (λt2=>e0 t2) (aj .i64 (t17+1)&&K (t17+1))) 0) e1)
def anW (m_0 m_1:Int) (m_2:LF) (k0:Kz0):Bool:=
 (avF m_0 m_1 m_2 (λnr=>cond ((nr != 0)==false) (cond (m_0 != m_1) (k0 false) (ah N (Ny N avF awa awh m_0 m_0 m_1 m_2 (λaxy=>k0 axy) (k0 true)) 0)) (k0 false)))
end
def aeU:FB:=anW N (SZ N) (VC N) (Qe N)
abbrev aR:=Bool->Int->(Bool)->Bool
def vh (N:Nat) (is:Bool) (e:Int) (k0:Bool):Bool:=
 (cond (!is) false k0)
def cG:aR:=vh N
def L6 (N:Nat):EM:=λx k=>match x with | some b=>k b | none=>false
abbrev Ib:=Int->(Kz1)->Bool
def aaD (N:Nat) (x:Int) (k0:Kz1):Bool:=
 (cond (x==0) (k0 64) (inR (Int.fdiv (IntKind.wrap .u64 ((aF .and .u64 x (IntKind.wrap .u64 (0 - x)))*285870213051353865)) (2 ^ 58)) 64&&(aj .i64 (Gl.getD (Int.toNat (Int.fdiv (IntKind.wrap .u64 ((aF .and .u64 x (IntKind.wrap .u64 (0 - x)))*285870213051353865)) (2 ^ 58))) 0)&&k0 (Gl.getD (Int.toNat (Int.fdiv (IntKind.wrap .u64 ((aF .and .u64 x (IntKind.wrap .u64 (0 - x)))*285870213051353865)) (2 ^ 58))) 0))))
def Tc:Ib:=aaD N
abbrev Hp:=Int->Int->Int->Int->(Kx5)->Bool
def Ha (N:Nat) (awJ:Dk) (awI:BP) (avD:Cc) (aw4:Ib) (b f_0 f_1 f_2:Int) (p:Bool) (p_1 p_2:Int) (k0:Kx5):Bool:=
 (aw4 p_1 (λawc=>decide (0<=awc)&&(aj .i64 (p_2+awc)&&k0 p (Int.fdiv p_1 (2 ^ (min awc.toNat 64))) (p_2+awc) 0)))
def KW (awJ:Dk) (awI:BP) (avD:Cc) (aw4:Ib) (b f_0 f_1 f_2:Int) (k0:Kx5):Bool:=
 (awJ b f_0 f_1 f_2 (λcr nr aur=>aj .i64 (nr - f_2)&&awI b f_0 f_1 f_2 (λaut=>cond (aut==1) (k0 false 0 0 4) (cond (aut==2) (k0 false 0 0 4) (cond (aut==3) (k0 cr 0 0 0) (cond (aut==4) (aj .i64 ((nr - f_2)+1)&&Ha N awJ awI avD aw4 b f_0 f_1 f_2 cr aur ((nr - f_2)+1) k0) (avD f_0 f_1 f_2 (λavw=>Ha N awJ awI avD aw4 b f_0 f_1 f_2 cr (aF .or .u64 aur avw) (nr - f_2) k0))))))))
def VJ:Hp:=KW N (Qn N) (Qm N) (D9 N) (Tc N)
abbrev B9:=Fl->(Kx5)->Bool
def aag (N:Nat) (aw2:EM) (av3:oq) (azC:Hp) (x:Fl) (k0:Kx5):Bool:=
 (aw2 x (λnr=>av3 (λaur aut avw=>azC nr aur aut avw (λcr awc n5 n6=>k0 cr awc n5 n6))))
def Gg:B9:=aag N (L6 N) (AW N) (VJ N)
abbrev lP:=LI->(Kz2)->Bool
def CY (N:Nat) (x:LI) (e0:Kz1):(Int)->((Int)->Bool)->Bool:=λv_ K=>match v_ with
 | n=>(cond ((decide (n>0))==true) (aj .i64 (n - 1)&&(inR (n - 1) x.length&&(decide ((Int.toNat (n - 1))<x.length)&&cond ((x.getD (Int.toNat (n - 1)) 0)==0) (aj .i64 (n - 1)&&K (n - 1)) (e0 n)))) (e0 n))
def GQ9 (b:LI) (k0:Kz2):Bool:=
 (ah N (CY N b (λn_1=>decide (0<=n_1/\n_1<=((b.length:Nat):Int))&&k0 (n_1.toNat - 0))) ((b.length:Nat):Int))
def sQ9:lP:=GQ9 N
abbrev sj:=Int->(Kz5)->Bool
def anV (N:Nat) (SQ9:lP) (n:Int) (k0:Kz5):Bool:=
 (SQ9 [n] (λmr=>decide ((0+mr)<=(List.length [n]))&&k0 (List.take mr (List.drop 0 [n]))))
def Fm:sj:=anV N (sQ9 N)
abbrev wi:=Bool->LI->Bool->(Kz0)->Bool
def anE (N:Nat) (neg:Bool) (abs:LI) (b:Bool) (k0:Kz0):Bool:=
 (cond (neg==true) (k0 (decide (((abs.length:Nat):Int)>0))) (k0 false))
def M8:wi:=anE N
abbrev Ie:=Int->Bool->(Ky2)->Bool
def anT (N:Nat) (auJ:sj) (aw3:wi) (n:Int) (b:Bool) (k0:Ky2):Bool:=
 (auJ n (λnsr=>aw3 false nsr b (λcr=>k0 cr nsr)))
def Ql:Ie:=anT N (Fm N) (M8 N)
abbrev mY:=LI->(Kz5)->Bool
def anG (N:Nat) (x:LI) (k0:Kz5):Bool:=
 (decide ((List.length ([]++x))*8<=140737488355328)&&k0 ([]++x))
def GJ:mY:=anG N
abbrev Dl:=Bool->LI->Bool->LI->(Kz0)->Bool
def aqJ (N:Nat) (neg:Bool) (abs:LI) (b:Bool) (b_1:LI) (k0:Kz0):Bool:=
 (cond (neg==true) (k0 (decide (((abs.length:Nat):Int)>0))) (k0 false))
def aeX:Dl:=aqJ N
abbrev Im:=Bool->LI->(Ky2)->Bool
def aob (N:Nat) (auR:mY) (ax3:Dl) (b:Bool) (b_1:LI) (k0:Ky2):Bool:=
 (auR b_1 (λnsr=>ax3 (!b) nsr b b_1 (λcr=>k0 cr nsr)))
def Qo:Im:=aob N (GJ N) (aeX N)
def Zs (N:Nat) (auJ:sj) (aw3:wi) (n:Int) (b:Bool) (k0:Ky2):Bool:=
 (cond (decide (n<0)) (auJ (IntKind.wrap .u64 (0 - (IntKind.wrap .u64 n))) (λnsr=>aw3 true nsr b (λcr=>k0 cr nsr))) (auJ (IntKind.wrap .u64 n) (λauo=>aw3 false auo b (λauN=>k0 auN auo))))
def aev:Ie:=Zs N (Fm N) (M8 N)
abbrev xj:=Int->(Ky2)->Bool
def ZO (N:Nat) (azt:Ie) (n:Int) (k0:Ky2):Bool:=
 (azt n false (λcr nsr=>k0 cr nsr))
def Ge:xj:=ZO N (aev N)
abbrev HY:=LI->Int->(Kz5)->Bool
def C1 (N:Nat) (SQ9:lP) (words rest:Int) (t24:LI) (t25:Int) (e0:Kz5):(Int × LI)->((Int × LI)->Bool)->Bool:=λv_ K=>match v_ with
 | (t26,z)=>(cond (decide (t26<t25)) (inR t26 t24.length&&(aj .i64 (words+t26)&&(inR (words+t26) z.length&&(decide ((Int.toNat (words+t26))<z.length)&&(decide (0<=rest)&&(inR (words+t26) z.length&&(decide ((Int.toNat (words+t26))<z.length)&&(aj .i64 (words+t26)&&(aj .i64 ((words+t26)+1)&&(decide (0<=(IntKind.wrap .u64 (64 - rest)))&&(inR ((words+t26)+1) (List.length (z.set (Int.toNat (words+t26)) (aF .or .u64 (z.getD (Int.toNat (words+t26)) 0) (IntKind.wrap .u64 ((t24.getD t26.toNat 0)*2 ^ (min rest.toNat 64))))))&&(decide ((Int.toNat ((words+t26)+1))<(List.length (z.set (Int.toNat (words+t26)) (aF .or .u64 (z.getD (Int.toNat (words+t26)) 0) (IntKind.wrap .u64 ((t24.getD t26.toNat 0)*2 ^ (min rest.toNat 64)))))))&&(aj .i64 (t26+1)&&K ((t26+1),(List.set (z.set (Int.toNat (words+t26)) (aF .or .u64 (z.getD (Int.toNat (words+t26)) 0) (IntKind.wrap .u64 ((t24.getD t26.toNat 0)*2 ^ (min rest.toNat 64))))) (Int.toNat ((words+t26)+1)) (Int.fdiv (t24.getD t26.toNat 0) (2 ^ (min (Int.toNat (IntKind.wrap .u64 (64 - rest))) 64)))))))))))))))))) (e0 z))
def aar (SQ9:lP) (x:LI) (n:Int) (k0:Kz5):Bool:=
 (cond (((x.length:Nat):Int)==0) (k0 []) (aj .i64 (IntKind.wrap .u64 (Int.tdiv n 64))&&(aj .i64 ((IntKind.wrap .u64 (Int.tdiv n 64))+((x.length:Nat):Int))&&(aj .i64 (((IntKind.wrap .u64 (Int.tdiv n 64))+((x.length:Nat):Int))+1)&&(mB 8 (((IntKind.wrap .u64 (Int.tdiv n 64))+((x.length:Nat):Int))+1) (((IntKind.wrap .u64 (Int.tdiv n 64))+((x.length:Nat):Int))+1)&&ah N (C1 N SQ9 (IntKind.wrap .u64 (Int.tdiv n 64)) (Int.tmod n 64) x ((x.length:Nat):Int) (λz_1=>SQ9 z_1 (λmr=>decide ((0+mr)<=z_1.length)&&k0 (List.take mr (List.drop 0 z_1))))) (0,(List.replicate (Int.toNat (((IntKind.wrap .u64 (Int.tdiv n 64))+((x.length:Nat):Int))+1)) (0:Int))))))))
def V8:HY:=aar N (sQ9 N)
abbrev Ii:=Int->Bool->Bool->LI->(Ky2)->Bool
def an8 (N:Nat) (az5:HY) (aw3:wi) (n:Int) (b b_1:Bool) (b_2:LI) (k0:Ky2):Bool:=
 (az5 b_2 n (λnsr=>aw3 b_1 nsr b (λcr=>k0 cr nsr)))
def Tf:Ii:=an8 N (V8 N) (M8 N)
abbrev pK:=LI->LI->(Kz1)->Bool
def CV (N:Nat) (x_1 y_1:LI) (e0:Kz1) (e1:Bool):(Int)->((Int)->Bool)->Bool:=λv_ K=>match v_ with
 | i=>(cond (decide (i>=0)) (inR i x_1.length&&(inR i y_1.length&&cond ((x_1.getD i.toNat 0) != (y_1.getD i.toNat 0)) (inR i x_1.length&&(inR i y_1.length&&cond (decide ((x_1.getD i.toNat 0)<(y_1.getD i.toNat 0))) (e0 (-1)) (e0 1))) (aj .i64 (i - 1)&&K (i - 1)))) e1)
def anv (x y:LI) (k0:Kz1):Bool:=
 (cond (((x.length:Nat):Int) != ((y.length:Nat):Int)) (cond (decide (((x.length:Nat):Int)<((y.length:Nat):Int))) (k0 (-1)) (k0 1)) (aj .i64 (((x.length:Nat):Int) - 1)&&ah N (CV N x y (λt4=>k0 t4) (k0 0)) (((x.length:Nat):Int) - 1)))
def Ea:pK:=anv N
def Oa (N:Nat) (x x_2 n_1:Int) (k0:Kz1):Bool:=
 (cond (decide (x_2>=256)) (aj .i64 (n_1+8)&&(inR (IntKind.wrap .u8 (Int.fdiv x_2 (2 ^ 8))) 256&&(aj .i64 (aD.getD (Int.toNat (IntKind.wrap .u8 (Int.fdiv x_2 (2 ^ 8)))) 0)&&(aj .i64 ((n_1+8)+(aD.getD (Int.toNat (IntKind.wrap .u8 (Int.fdiv x_2 (2 ^ 8)))) 0))&&k0 ((n_1+8)+(aD.getD (Int.toNat (IntKind.wrap .u8 (Int.fdiv x_2 (2 ^ 8)))) 0)))))) (inR (IntKind.wrap .u8 x_2) 256&&(aj .i64 (aD.getD (Int.toNat (IntKind.wrap .u8 x_2)) 0)&&(aj .i64 (n_1+(aD.getD (Int.toNat (IntKind.wrap .u8 x_2)) 0))&&k0 (n_1+(aD.getD (Int.toNat (IntKind.wrap .u8 x_2)) 0))))))
def N9 (x x_1 n:Int) (k0:Kz1):Bool:=
 (cond (decide (x_1>=65536)) (aj .i64 (n+16)&&Oa N x (Int.fdiv x_1 (2 ^ 16)) (n+16) k0) (Oa N x x_1 n k0))
def KX (x:Int) (k0:Kz1):Bool:=
 (cond (decide (x>=4294967296)) (N9 N x (Int.fdiv x (2 ^ 32)) 32 k0) (N9 N x x 0 k0))
def P3:Ib:=KX N
abbrev BO:=LI->(Kz1)->Bool
def Zm (N:Nat) (axW:Ib) (x:LI) (k0:Kz1):Bool:=
 (cond (((x.length:Nat):Int)==0) (k0 0) (aj .i64 (((x.length:Nat):Int) - 1)&&(aj .i64 (64*(((x.length:Nat):Int) - 1))&&(aj .i64 (((x.length:Nat):Int) - 1)&&(inR (((x.length:Nat):Int) - 1) x.length&&axW (x.getD (Int.toNat (((x.length:Nat):Int) - 1)) 0) (λnr=>aj .i64 ((64*(((x.length:Nat):Int) - 1))+nr)&&k0 ((64*(((x.length:Nat):Int) - 1))+nr)))))))
def BD:BO:=Zm N (P3 N)
abbrev pU:=LI->Int->(Kz1)->Bool
def Zl (N:Nat) (x:LI) (i:Int) (k0:Kz1):Bool:=
 (cond (decide (i<((x.length:Nat):Int))) (inR i x.length&&k0 (x.getD i.toNat 0)) (k0 0))
def JQ:pU:=Zl N
def Z1 (N:Nat) (avo:pU) (x:LI) (from_:Int) (k0:Kz1):Bool:=
 (aj .i64 (Int.tdiv from_ 64)&&avo x (Int.tdiv from_ 64) (λnr=>decide (0<=(IntKind.wrap .u64 (Int.tmod from_ 64)))&&(aj .i64 ((Int.tdiv from_ 64)+1)&&avo x ((Int.tdiv from_ 64)+1) (λaur=>decide (0<=(IntKind.wrap .u64 (64 - (IntKind.wrap .u64 (Int.tmod from_ 64)))))&&k0 (aF .or .u64 (Int.fdiv nr (2 ^ (min (Int.toNat (IntKind.wrap .u64 (Int.tmod from_ 64))) 64))) (IntKind.wrap .u64 (aur*2 ^ (min (Int.toNat (IntKind.wrap .u64 (64 - (IntKind.wrap .u64 (Int.tmod from_ 64))))) 64))))))))
def BF:pU:=Z1 N (JQ N)
abbrev BS:=Int->Int->(Kx3)->Bool
def uF (N:Nat) (t4 aAk ax7 ax8:Int) (aDb:Bool) (e0:Kx3):(Int × Int × Int × Int × Int × Int × Int × Int × Bool)->((Int × Int × Int × Int × Int × Int × Int × Int × Bool)->Bool)->Bool:=λv_ K=>match v_ with
 | (x_1,y_1,u,v,w,w_1,w_2,w_3,w_4)=>(cond ((decide (y_1>=v))==true) (cond (decide ((IntKind.wrap .u64 (x_1 - y_1))>=(IntKind.wrap .u64 (w_3+v)))) ((!decide (y_1=0))&&((!decide (y_1=0))&&K (y_1,(Int.tmod x_1 y_1),(IntKind.wrap .u64 (w_2+(IntKind.wrap .u64 ((IntKind.wrap .u64 (Int.tdiv x_1 y_1))*u)))),(IntKind.wrap .u64 (w_3+(IntKind.wrap .u64 ((IntKind.wrap .u64 (Int.tdiv x_1 y_1))*v)))),w_2,w_3,u,v,(!w_4)))) (e0 w w_1 w_2 w_3 w_4)) (e0 w w_1 w_2 w_3 w_4))
def alq (x y:Int) (k0:Kx3):Bool:=
 (ah N (uF N 0 0 0 0 false (λw_5 w_6 w_7 w_8 w_9=>k0 w_5 w_6 w_7 w_8 w_9)) (x,y,0,1,0,0,1,0,true))
def D8:BS:=alq N
abbrev zg:=Int->Int->(Ky3)->Bool
def anX (N:Nat) (x y:Int) (k0:Ky3):Bool:=
 (k0 (IntKind.wrap .u64 ((IntKind.wrap .u64 ((IntKind.wrap .u64 ((Int.fdiv x (2 ^ 32))*(Int.fdiv y (2 ^ 32))))+(Int.fdiv (IntKind.wrap .u64 ((IntKind.wrap .u64 ((Int.fdiv x (2 ^ 32))*(aF .and .u64 y 4294967295)))+(Int.fdiv (IntKind.wrap .u64 ((aF .and .u64 x 4294967295)*(aF .and .u64 y 4294967295))) (2 ^ 32)))) (2 ^ 32))))+(Int.fdiv (IntKind.wrap .u64 ((aF .and .u64 (IntKind.wrap .u64 ((IntKind.wrap .u64 ((Int.fdiv x (2 ^ 32))*(aF .and .u64 y 4294967295)))+(Int.fdiv (IntKind.wrap .u64 ((aF .and .u64 x 4294967295)*(aF .and .u64 y 4294967295))) (2 ^ 32)))) 4294967295)+(IntKind.wrap .u64 ((aF .and .u64 x 4294967295)*(Int.fdiv y (2 ^ 32)))))) (2 ^ 32)))) (IntKind.wrap .u64 (x*y)))
def JZ:zg:=anX N
abbrev mX:=Int->Int->Int->(Ky3)->Bool
def CQ (N:Nat):mX:=λx y c k=>(decide (c.toNat<=1))&&k (((x.toNat+y.toNat+c.toNat)%18446744073709551616:Nat):Int) (((x.toNat+y.toNat+c.toNat) / 18446744073709551616:Nat):Int)
abbrev pL:=Int->Int->Int->Int->(Ky3)->Bool
def anJ (N:Nat) (awm:zg) (auB:mX) (a b c d:Int) (k0:Ky3):Bool:=
 (awm a b (λnr aur=>auB aur c 0 (λaut avw=>auB aut d 0 (λawc n5=>k0 (IntKind.wrap .u64 ((IntKind.wrap .u64 (nr+avw))+n5)) awc))))
def Ta:pL:=anJ N (JZ N) (CQ N)
abbrev HU:=LI->Int->Int->(Kz5)->Bool
def qG (N:Nat) (auL:pL) (SQ9:lP) (x_1:LI) (d_1:Int) (t14:LI) (t15:Int) (e0:Ky7):(Int × Int × LI)->((Int × Int × LI)->Bool)->Bool:=λv_ K=>match v_ with
 | (ayN,t16,z)=>(cond (decide (t16<t15)) (inR t16 t14.length&&auL (t14.getD t16.toNat 0) d_1 0 ayN (λnr aur=>inR t16 z.length&&(decide (t16.toNat<z.length)&&(aj .i64 (t16+1)&&K (nr,(t16+1),(z.set t16.toNat aur)))))) (e0 ayN z))
def aao (auL:pL) (SQ9:lP) (x:LI) (d more:Int) (k0:Kz5):Bool:=
 (aj .i64 (((x.length:Nat):Int)+1)&&(mB 8 (((x.length:Nat):Int)+1) (((x.length:Nat):Int)+1)&&ah N (qG N auL SQ9 x d x ((x.length:Nat):Int) (λaBR z_1=>inR ((x.length:Nat):Int) z_1.length&&(decide ((Int.toNat ((x.length:Nat):Int))<z_1.length)&&SQ9 (z_1.set (Int.toNat ((x.length:Nat):Int)) aBR) (λmr=>decide ((0+mr)<=(List.length (z_1.set (Int.toNat ((x.length:Nat):Int)) aBR)))&&k0 (List.take mr (List.drop 0 (z_1.set (Int.toNat ((x.length:Nat):Int)) aBR))))))) (more,0,(List.replicate (Int.toNat (((x.length:Nat):Int)+1)) (0:Int)))))
def V6:HU:=aao N (Ta N) (sQ9 N)
def aeR (N:Nat):mX:=λx y c k=>(decide (c.toNat<=1))&&k (((x.toNat+18446744073709551616 - y.toNat - c.toNat)%18446744073709551616:Nat):Int) (cond (decide (x.toNat<y.toNat+c.toNat)) 1 0)
abbrev B8:=LI->LI->(Kz5)->Bool
def qF (N:Nat) (avo:pU) (au0:mX) (SQ9:lP) (x_1 y_1:LI) (t12:Int) (e0:Kz5):(Int × Int × LI)->((Int × Int × LI)->Bool)->Bool:=λv_ K=>match v_ with
 | (borrow,t13,z)=>(cond (decide (t13<t12)) (inR t13 x_1.length&&avo y_1 t13 (λnr=>au0 (x_1.getD t13.toNat 0) nr borrow (λaur aut=>inR t13 z.length&&(decide (t13.toNat<z.length)&&(aj .i64 (t13+1)&&K (aut,(t13+1),(z.set t13.toNat aur))))))) (e0 z))
def aae (avo:pU) (au0:mX) (SQ9:lP) (x y:LI) (k0:Kz5):Bool:=
 (mB 8 ((x.length:Nat):Int) ((x.length:Nat):Int)&&ah N (qF N avo au0 SQ9 x y ((x.length:Nat):Int) (λz_1=>SQ9 z_1 (λmr=>decide ((0+mr)<=z_1.length)&&k0 (List.take mr (List.drop 0 z_1))))) (0,0,(List.replicate (Int.toNat ((x.length:Nat):Int)) (0:Int))))
def Qa:B8:=aae N (JQ N) (aeR N) (sQ9 N)
abbrev cX:=Int->Int->Int->Int->Bool->LI->LI->(Ky9)->Bool
def jo (N:Nat) (axu:HU) (axj:B8) (w_0 w_1 w_2 w_3:Int) (w_4:Bool) (x y:LI) (k0:Ky9):Bool:=
 (cond w_4 (axu y w_1 0 (λnsr=>axu x w_0 0 (λauo=>axj nsr auo (λauF=>axu x w_2 0 (λauC=>axu y w_3 0 (λauv=>axj auC auv (λauu=>k0 auF auu))))))) (axu x w_0 0 (λs6=>axu y w_1 0 (λs7=>axj s6 s7 (λs8=>axu y w_3 0 (λs9=>axu x w_2 0 (λs10=>axj s9 s10 (λs11=>k0 s8 s11))))))))
def bh:cX:=jo N (V6 N) (Qa N)
def anj (N:Nat) (axW:Ib) (x:Int) (k0:Kz1):Bool:=
 (axW x (λnr=>aj .i64 (64 - nr)&&k0 (64 - nr)))
def aeu:Ib:=anj N (P3 N)
def Fv (N:Nat) (au_:Ib) (y_1 s yn1 yn0 un32 un1 un0:Int) (e0:Kz1):(Int × Int)->((Int × Int)->Bool)->Bool:=λv_ K=>match v_ with
 | (q1,rhat)=>(cond ((decide (q1>=4294967296))==false) (cond (decide ((IntKind.wrap .u64 (q1*yn0))>(IntKind.wrap .u64 ((IntKind.wrap .u64 (4294967296*rhat))+un1)))) (cond (decide ((IntKind.wrap .u64 (rhat+yn1))>=4294967296)) (e0 (IntKind.wrap .u64 (q1 - 1))) (K ((IntKind.wrap .u64 (q1 - 1)),(IntKind.wrap .u64 (rhat+yn1))))) (e0 q1)) (cond (decide ((IntKind.wrap .u64 (rhat+yn1))>=4294967296)) (e0 (IntKind.wrap .u64 (q1 - 1))) (K ((IntKind.wrap .u64 (q1 - 1)),(IntKind.wrap .u64 (rhat+yn1))))))
def Fw (N:Nat) (au_:Ib) (y_2 s_1 aAd aBE aA0 aC_ un21:Int) (e0:Kz1):(Int × Int)->((Int × Int)->Bool)->Bool:=λv_ K=>match v_ with
 | (axQ,q0)=>(cond ((decide (q0>=4294967296))==false) (cond (decide ((IntKind.wrap .u64 (q0*aBE))>(IntKind.wrap .u64 ((IntKind.wrap .u64 (4294967296*axQ))+aA0)))) (cond (decide ((IntKind.wrap .u64 (axQ+aAd))>=4294967296)) (e0 (IntKind.wrap .u64 (q0 - 1))) (K ((IntKind.wrap .u64 (axQ+aAd)),(IntKind.wrap .u64 (q0 - 1))))) (e0 q0)) (cond (decide ((IntKind.wrap .u64 (axQ+aAd))>=4294967296)) (e0 (IntKind.wrap .u64 (q0 - 1))) (K ((IntKind.wrap .u64 (axQ+aAd)),(IntKind.wrap .u64 (q0 - 1))))))
def anL (au_:Ib) (hi lo y:Int) (k0:Ky3):Bool:=
 (cond (y==0) false (cond (decide (y<=hi)) false (cond (hi==0) ((!decide (y=0))&&((!decide (y=0))&&k0 (IntKind.wrap .u64 (Int.tdiv lo y)) (Int.tmod lo y))) (au_ y (λnr=>decide (0<=(IntKind.wrap .u64 nr))&&(decide (0<=(IntKind.wrap .u64 nr))&&(decide (0<=(IntKind.wrap .u64 (64 - (IntKind.wrap .u64 nr))))&&(decide (0<=(IntKind.wrap .u64 nr))&&((!decide ((Int.fdiv (IntKind.wrap .u64 (y*2 ^ (min (Int.toNat (IntKind.wrap .u64 nr)) 64))) (2 ^ 32))=0))&&ah N (Fv N au_ (IntKind.wrap .u64 (y*2 ^ (min (Int.toNat (IntKind.wrap .u64 nr)) 64))) (IntKind.wrap .u64 nr) (Int.fdiv (IntKind.wrap .u64 (y*2 ^ (min (Int.toNat (IntKind.wrap .u64 nr)) 64))) (2 ^ 32)) (aF .and .u64 (IntKind.wrap .u64 (y*2 ^ (min (Int.toNat (IntKind.wrap .u64 nr)) 64))) 4294967295) (aF .or .u64 (IntKind.wrap .u64 (hi*2 ^ (min (Int.toNat (IntKind.wrap .u64 nr)) 64))) (Int.fdiv lo (2 ^ (min (Int.toNat (IntKind.wrap .u64 (64 - (IntKind.wrap .u64 nr)))) 64)))) (Int.fdiv (IntKind.wrap .u64 (lo*2 ^ (min (Int.toNat (IntKind.wrap .u64 nr)) 64))) (2 ^ 32)) (aF .and .u64 (IntKind.wrap .u64 (lo*2 ^ (min (Int.toNat (IntKind.wrap .u64 nr)) 64))) 4294967295) (λaBS=>(!decide ((Int.fdiv (IntKind.wrap .u64 (y*2 ^ (min (Int.toNat (IntKind.wrap .u64 nr)) 64))) (2 ^ 32))=0))&&ah N (Fw N au_ (IntKind.wrap .u64 (y*2 ^ (min (Int.toNat (IntKind.wrap .u64 nr)) 64))) (IntKind.wrap .u64 nr) (Int.fdiv (IntKind.wrap .u64 (y*2 ^ (min (Int.toNat (IntKind.wrap .u64 nr)) 64))) (2 ^ 32)) (aF .and .u64 (IntKind.wrap .u64 (y*2 ^ (min (Int.toNat (IntKind.wrap .u64 nr)) 64))) 4294967295) (aF .and .u64 (IntKind.wrap .u64 (lo*2 ^ (min (Int.toNat (IntKind.wrap .u64 nr)) 64))) 4294967295) aBS (IntKind.wrap .u64 ((IntKind.wrap .u64 ((IntKind.wrap .u64 ((aF .or .u64 (IntKind.wrap .u64 (hi*2 ^ (min (Int.toNat (IntKind.wrap .u64 nr)) 64))) (Int.fdiv lo (2 ^ (min (Int.toNat (IntKind.wrap .u64 (64 - (IntKind.wrap .u64 nr)))) 64))))*4294967296))+(Int.fdiv (IntKind.wrap .u64 (lo*2 ^ (min (Int.toNat (IntKind.wrap .u64 nr)) 64))) (2 ^ 32)))) - (IntKind.wrap .u64 (aBS*(IntKind.wrap .u64 (y*2 ^ (min (Int.toNat (IntKind.wrap .u64 nr)) 64))))))) (λaFB=>decide (0<=(IntKind.wrap .u64 nr))&&k0 (IntKind.wrap .u64 ((IntKind.wrap .u64 (aBS*4294967296))+aFB)) (Int.fdiv (IntKind.wrap .u64 ((IntKind.wrap .u64 ((IntKind.wrap .u64 ((IntKind.wrap .u64 ((IntKind.wrap .u64 ((IntKind.wrap .u64 ((aF .or .u64 (IntKind.wrap .u64 (hi*2 ^ (min (Int.toNat (IntKind.wrap .u64 nr)) 64))) (Int.fdiv lo (2 ^ (min (Int.toNat (IntKind.wrap .u64 (64 - (IntKind.wrap .u64 nr)))) 64))))*4294967296))+(Int.fdiv (IntKind.wrap .u64 (lo*2 ^ (min (Int.toNat (IntKind.wrap .u64 nr)) 64))) (2 ^ 32)))) - (IntKind.wrap .u64 (aBS*(IntKind.wrap .u64 (y*2 ^ (min (Int.toNat (IntKind.wrap .u64 nr)) 64)))))))*4294967296))+(aF .and .u64 (IntKind.wrap .u64 (lo*2 ^ (min (Int.toNat (IntKind.wrap .u64 nr)) 64))) 4294967295))) - (IntKind.wrap .u64 (aFB*(IntKind.wrap .u64 (y*2 ^ (min (Int.toNat (IntKind.wrap .u64 nr)) 64))))))) (2 ^ (min (Int.toNat (IntKind.wrap .u64 nr)) 64))))) ((IntKind.wrap .u64 ((IntKind.wrap .u64 ((IntKind.wrap .u64 ((IntKind.wrap .u64 ((aF .or .u64 (IntKind.wrap .u64 (hi*2 ^ (min (Int.toNat (IntKind.wrap .u64 nr)) 64))) (Int.fdiv lo (2 ^ (min (Int.toNat (IntKind.wrap .u64 (64 - (IntKind.wrap .u64 nr)))) 64))))*4294967296))+(Int.fdiv (IntKind.wrap .u64 (lo*2 ^ (min (Int.toNat (IntKind.wrap .u64 nr)) 64))) (2 ^ 32)))) - (IntKind.wrap .u64 (aBS*(IntKind.wrap .u64 (y*2 ^ (min (Int.toNat (IntKind.wrap .u64 nr)) 64))))))) - (IntKind.wrap .u64 ((IntKind.wrap .u64 (Int.tdiv (IntKind.wrap .u64 ((IntKind.wrap .u64 ((IntKind.wrap .u64 ((aF .or .u64 (IntKind.wrap .u64 (hi*2 ^ (min (Int.toNat (IntKind.wrap .u64 nr)) 64))) (Int.fdiv lo (2 ^ (min (Int.toNat (IntKind.wrap .u64 (64 - (IntKind.wrap .u64 nr)))) 64))))*4294967296))+(Int.fdiv (IntKind.wrap .u64 (lo*2 ^ (min (Int.toNat (IntKind.wrap .u64 nr)) 64))) (2 ^ 32)))) - (IntKind.wrap .u64 (aBS*(IntKind.wrap .u64 (y*2 ^ (min (Int.toNat (IntKind.wrap .u64 nr)) 64))))))) (Int.fdiv (IntKind.wrap .u64 (y*2 ^ (min (Int.toNat (IntKind.wrap .u64 nr)) 64))) (2 ^ 32))))*(Int.fdiv (IntKind.wrap .u64 (y*2 ^ (min (Int.toNat (IntKind.wrap .u64 nr)) 64))) (2 ^ 32)))))),(IntKind.wrap .u64 (Int.tdiv (IntKind.wrap .u64 ((IntKind.wrap .u64 ((IntKind.wrap .u64 ((aF .or .u64 (IntKind.wrap .u64 (hi*2 ^ (min (Int.toNat (IntKind.wrap .u64 nr)) 64))) (Int.fdiv lo (2 ^ (min (Int.toNat (IntKind.wrap .u64 (64 - (IntKind.wrap .u64 nr)))) 64))))*4294967296))+(Int.fdiv (IntKind.wrap .u64 (lo*2 ^ (min (Int.toNat (IntKind.wrap .u64 nr)) 64))) (2 ^ 32)))) - (IntKind.wrap .u64 (aBS*(IntKind.wrap .u64 (y*2 ^ (min (Int.toNat (IntKind.wrap .u64 nr)) 64))))))) (Int.fdiv (IntKind.wrap .u64 (y*2 ^ (min (Int.toNat (IntKind.wrap .u64 nr)) 64))) (2 ^ 32))))))) ((IntKind.wrap .u64 (Int.tdiv (aF .or .u64 (IntKind.wrap .u64 (hi*2 ^ (min (Int.toNat (IntKind.wrap .u64 nr)) 64))) (Int.fdiv lo (2 ^ (min (Int.toNat (IntKind.wrap .u64 (64 - (IntKind.wrap .u64 nr)))) 64)))) (Int.fdiv (IntKind.wrap .u64 (y*2 ^ (min (Int.toNat (IntKind.wrap .u64 nr)) 64))) (2 ^ 32)))),(IntKind.wrap .u64 ((aF .or .u64 (IntKind.wrap .u64 (hi*2 ^ (min (Int.toNat (IntKind.wrap .u64 nr)) 64))) (Int.fdiv lo (2 ^ (min (Int.toNat (IntKind.wrap .u64 (64 - (IntKind.wrap .u64 nr)))) 64)))) - (IntKind.wrap .u64 ((IntKind.wrap .u64 (Int.tdiv (aF .or .u64 (IntKind.wrap .u64 (hi*2 ^ (min (Int.toNat (IntKind.wrap .u64 nr)) 64))) (Int.fdiv lo (2 ^ (min (Int.toNat (IntKind.wrap .u64 (64 - (IntKind.wrap .u64 nr)))) 64)))) (Int.fdiv (IntKind.wrap .u64 (y*2 ^ (min (Int.toNat (IntKind.wrap .u64 nr)) 64))) (2 ^ 32))))*(Int.fdiv (IntKind.wrap .u64 (y*2 ^ (min (Int.toNat (IntKind.wrap .u64 nr)) 64))) (2 ^ 32))))))))))))))))
def JY:mX:=anL N (aeu N)
abbrev za:=LI->Int->(LI->Int->Bool)->Bool
def o7 (N:Nat) (avP:mX) (SQ9:lP) (x_1:LI) (d_1:Int) (e0:Ky7):(Int × Int × LI)->((Int × Int × LI)->Bool)->Bool:=λv_ K=>match v_ with
 | (rest,i,q)=>(cond (decide (i>=0)) (inR i x_1.length&&avP rest (x_1.getD i.toNat 0) d_1 (λnr aur=>inR i q.length&&(decide (i.toNat<q.length)&&(aj .i64 (i - 1)&&K (aur,(i - 1),(q.set i.toNat nr)))))) (e0 rest q))
def ZE (avP:mX) (SQ9:lP) (x:LI) (d:Int) (k0:LI->Int->Bool):Bool:=
 (mB 8 ((x.length:Nat):Int) ((x.length:Nat):Int)&&(aj .i64 (((x.length:Nat):Int) - 1)&&ah N (o7 N avP SQ9 x d (λaxP q_1=>SQ9 q_1 (λmr=>decide ((0+mr)<=q_1.length)&&k0 (List.take mr (List.drop 0 q_1)) axP))) (0,(((x.length:Nat):Int) - 1),(List.replicate (Int.toNat ((x.length:Nat):Int)) (0:Int)))))
def P2:za:=ZE N (JY N) (sQ9 N)
abbrev FC:=LI->Int->(Bool)->(Ky8)->Bool
def uG (N:Nat) (SQ9:lP) (words rest:Int) (t24:LI) (t25:Int) (e0:Kz5):(Int × LI)->((Int × LI)->Bool)->Bool:=λv_ K=>match v_ with
 | (t26,z)=>(cond (decide (t26<t25)) (inR t26 t24.length&&(aj .i64 (words+t26)&&(inR (words+t26) z.length&&(decide ((Int.toNat (words+t26))<z.length)&&(decide (0<=rest)&&(inR (words+t26) z.length&&(decide ((Int.toNat (words+t26))<z.length)&&(aj .i64 (words+t26)&&(aj .i64 ((words+t26)+1)&&(decide (0<=(IntKind.wrap .u64 (64 - rest)))&&(inR ((words+t26)+1) (List.length (z.set (Int.toNat (words+t26)) (aF .or .u64 (z.getD (Int.toNat (words+t26)) 0) (IntKind.wrap .u64 ((t24.getD t26.toNat 0)*2 ^ (min rest.toNat 64))))))&&(decide ((Int.toNat ((words+t26)+1))<(List.length (z.set (Int.toNat (words+t26)) (aF .or .u64 (z.getD (Int.toNat (words+t26)) 0) (IntKind.wrap .u64 ((t24.getD t26.toNat 0)*2 ^ (min rest.toNat 64)))))))&&(aj .i64 (t26+1)&&K ((t26+1),(List.set (z.set (Int.toNat (words+t26)) (aF .or .u64 (z.getD (Int.toNat (words+t26)) 0) (IntKind.wrap .u64 ((t24.getD t26.toNat 0)*2 ^ (min rest.toNat 64))))) (Int.toNat ((words+t26)+1)) (Int.fdiv (t24.getD t26.toNat 0) (2 ^ (min (Int.toNat (IntKind.wrap .u64 (64 - rest))) 64)))))))))))))))))) (e0 z))
def anY (SQ9:lP) (x:LI) (n:Int) (k0:Bool) (k1:Ky8):Bool:=
 (cond (((x.length:Nat):Int)==0) k0 (aj .i64 (IntKind.wrap .u64 (Int.tdiv n 64))&&(aj .i64 ((IntKind.wrap .u64 (Int.tdiv n 64))+((x.length:Nat):Int))&&(aj .i64 (((IntKind.wrap .u64 (Int.tdiv n 64))+((x.length:Nat):Int))+1)&&(mB 8 (((IntKind.wrap .u64 (Int.tdiv n 64))+((x.length:Nat):Int))+1) (((IntKind.wrap .u64 (Int.tdiv n 64))+((x.length:Nat):Int))+1)&&ah N (uG N SQ9 (IntKind.wrap .u64 (Int.tdiv n 64)) (Int.tmod n 64) x ((x.length:Nat):Int) (λz_1=>SQ9 z_1 (λmr=>k1 mr z_1))) (0,(List.replicate (Int.toNat (((IntKind.wrap .u64 (Int.tdiv n 64))+((x.length:Nat):Int))+1)) (0:Int))))))))
def ajI:FC:=anY N (sQ9 N)
abbrev BN:=Nat->Nat->LI->LI->(Kz1)->Bool
def xa (N:Nat) (avP:mX) (awm:zg) (auB:mX) (u u_2:Nat) (v_1:LI) (n:Int) (u_3:LI) (e0:Kz1):(Int × Int)->((Int × Int)->Bool)->Bool:=λv_ K=>match v_ with
 | (q,rest)=>(aj .i64 (n - 2)&&(inR (n - 2) v_1.length&&awm q (v_1.getD (Int.toNat (n - 2)) 0) (λaut avw=>cond ((decide (aut<rest))==false) (cond ((aut==rest)==true) (aj .i64 (n - 2)&&(inR (n - 2) u_2&&(decide ((u+(Int.toNat (n - 2)))<u_3.length)&&cond (decide (avw<=(u_3.getD (u+(Int.toNat (n - 2))) 0))) (e0 q) (aj .i64 (n - 1)&&(inR (n - 1) v_1.length&&auB rest (v_1.getD (Int.toNat (n - 1)) 0) 0 (λawc n5=>cond (n5 != 0) (e0 (IntKind.wrap .u64 (q - 1))) (K ((IntKind.wrap .u64 (q - 1)),awc)))))))) (aj .i64 (n - 1)&&(inR (n - 1) v_1.length&&auB rest (v_1.getD (Int.toNat (n - 1)) 0) 0 (λn6 n7=>cond (n7 != 0) (e0 (IntKind.wrap .u64 (q - 1))) (K ((IntKind.wrap .u64 (q - 1)),n6)))))) (e0 q))))
def alo (avP:mX) (awm:zg) (auB:mX) (u_0 u_1:Nat) (v b:LI) (k0:Kz1):Bool:=
 (inR ((v.length:Nat):Int) u_1&&(decide ((u_0+(Int.toNat ((v.length:Nat):Int)))<b.length)&&(aj .i64 (((v.length:Nat):Int) - 1)&&(inR (((v.length:Nat):Int) - 1) v.length&&cond (decide ((b.getD (u_0+(Int.toNat ((v.length:Nat):Int))) 0)>=(v.getD (Int.toNat (((v.length:Nat):Int) - 1)) 0))) (k0 18446744073709551615) (inR ((v.length:Nat):Int) u_1&&(decide ((u_0+(Int.toNat ((v.length:Nat):Int)))<b.length)&&(aj .i64 (((v.length:Nat):Int) - 1)&&(inR (((v.length:Nat):Int) - 1) u_1&&(decide ((u_0+(Int.toNat (((v.length:Nat):Int) - 1)))<b.length)&&(aj .i64 (((v.length:Nat):Int) - 1)&&(inR (((v.length:Nat):Int) - 1) v.length&&avP (b.getD (u_0+(Int.toNat ((v.length:Nat):Int))) 0) (b.getD (u_0+(Int.toNat (((v.length:Nat):Int) - 1))) 0) (v.getD (Int.toNat (((v.length:Nat):Int) - 1)) 0) (λnr aur=>ah N (xa N avP awm auB u_0 u_1 v ((v.length:Nat):Int) b (λt4=>k0 t4)) (nr,aur)))))))))))))
def al4:BN:=alo N (JY N) (JZ N) (CQ N)
abbrev yY:=Nat->Nat->LI->LI->(Ky7)->Bool
section
variable (N:Nat) (avG:BN) (auL:pL) (au0:mX) (auB:mX)
def yC (N:Nat) (avG:BN) (auL:pL) (au0:mX) (auB:mX) (u u_2:Nat) (v_1:LI) (n q t17:Int) (e0:Int->Int->LI->Bool):(Int × Int × Int × LI)->((Int × Int × Int × LI)->Bool)->Bool:=λv_ K=>match v_ with
 | (carry,borrow,t18,u_3)=>(cond (decide (t18<t17)) (inR t18 v_1.length&&auL q (v_1.getD t18.toNat 0) 0 carry (λaur aut=>inR t18 u_2&&(decide ((u+t18.toNat)<u_3.length)&&au0 (u_3.getD (u+t18.toNat) 0) aut borrow (λavw awc=>inR t18 u_2&&(decide ((u+t18.toNat)<u_3.length)&&(aj .i64 (t18+1)&&K (aur,awc,(t18+1),(u_3.set (u+t18.toNat) avw)))))))) (e0 carry borrow u_3))
def yE (N:Nat) (avG:BN) (auL:pL) (au0:mX) (auB:mX) (u_8 u_9:Nat) (v_3:LI) (n_2 q_2 awK t60:Int) (e0:Ky7):(Int × Int × LI)->((Int × Int × LI)->Bool)->Bool:=λv_ K=>match v_ with
 | (av4,t61,awR)=>(cond (decide (t61<t60)) (inR t61 u_9&&(decide ((u_8+t61.toNat)<awR.length)&&(inR t61 v_3.length&&auB (awR.getD (u_8+t61.toNat) 0) (v_3.getD t61.toNat 0) av4 (λn7 n8=>inR t61 u_9&&(decide ((u_8+t61.toNat)<awR.length)&&(aj .i64 (t61+1)&&K (n8,(t61+1),(awR.set (u_8+t61.toNat) n7)))))))) (e0 av4 awR))
def yD (u_5 u_6:Nat) (v_2:LI) (n_1:Int) (e0:Ky7):(Int × Int × LI)->((Int × Int × LI)->Bool)->Bool:=λv_ K=>match v_ with
 | (q_1,avS,u_7)=>(cond (avS != 0) (ah N (yE N avG auL au0 auB u_5 u_6 v_2 n_1 q_1 avS n_1 (λaA4 axR=>inR n_1 u_6&&(decide ((u_5+n_1.toNat)<axR.length)&&auB (axR.getD (u_5+n_1.toNat) 0) 0 aA4 (λn9 n10=>inR n_1 u_6&&(decide ((u_5+n_1.toNat)<axR.length)&&K ((IntKind.wrap .u64 (q_1 - 1)),(IntKind.wrap .u64 (avS - n10)),(axR.set (u_5+n_1.toNat) n9))))))) (0,0,u_7)) (e0 q_1 u_7))
def alp (u_0 u_1:Nat) (v b:LI) (k0:Ky7):Bool:=
 (avG u_0 u_1 v b (λnr=>ah N (yC N avG auL au0 auB u_0 u_1 v ((v.length:Nat):Int) nr ((v.length:Nat):Int) (λavX ax4 u_4=>inR ((v.length:Nat):Int) u_1&&(decide ((u_0+(Int.toNat ((v.length:Nat):Int)))<u_4.length)&&au0 (u_4.getD (u_0+(Int.toNat ((v.length:Nat):Int))) 0) avX ax4 (λn5 n6=>inR ((v.length:Nat):Int) u_1&&(decide ((u_0+(Int.toNat ((v.length:Nat):Int)))<u_4.length)&&ah N (yD N avG auL au0 auB u_0 u_1 v ((v.length:Nat):Int) (λq_3 b0=>k0 q_3 b0)) (nr,n6,(u_4.set (u_0+(Int.toNat ((v.length:Nat):Int))) n5))))))) (0,0,0,b)))
end
def al5:yY:=alp N (al4 N) (Ta N) (aeR N) (CQ N)
abbrev FD:=Nat->Nat->Nat->Nat->LI->LI->(Kz1)->Bool
def uE (N:Nat) (avP:mX) (awm:zg) (auB:mX) (u u_2 v v_2:Nat) (n:Int) (u_3 v_3:LI) (e0:Kz1):(Int × Int)->((Int × Int)->Bool)->Bool:=λv_ K=>match v_ with
 | (q,rest)=>(aj .i64 (n - 2)&&(inR (n - 2) v_2&&(decide ((v+(Int.toNat (n - 2)))<v_3.length)&&awm q (v_3.getD (v+(Int.toNat (n - 2))) 0) (λaut avw=>cond ((decide (aut<rest))==false) (cond ((aut==rest)==true) (aj .i64 (n - 2)&&(inR (n - 2) u_2&&(decide ((u+(Int.toNat (n - 2)))<u_3.length)&&cond (decide (avw<=(u_3.getD (u+(Int.toNat (n - 2))) 0))) (e0 q) (aj .i64 (n - 1)&&(inR (n - 1) v_2&&(decide ((v+(Int.toNat (n - 1)))<v_3.length)&&auB rest (v_3.getD (v+(Int.toNat (n - 1))) 0) 0 (λawc n5=>cond (n5 != 0) (e0 (IntKind.wrap .u64 (q - 1))) (K ((IntKind.wrap .u64 (q - 1)),awc))))))))) (aj .i64 (n - 1)&&(inR (n - 1) v_2&&(decide ((v+(Int.toNat (n - 1)))<v_3.length)&&auB rest (v_3.getD (v+(Int.toNat (n - 1))) 0) 0 (λn6 n7=>cond (n7 != 0) (e0 (IntKind.wrap .u64 (q - 1))) (K ((IntKind.wrap .u64 (q - 1)),n6))))))) (e0 q)))))
def aht (avP:mX) (awm:zg) (auB:mX) (u_0 u_1 v_0 v_1:Nat) (b b_1:LI) (k0:Kz1):Bool:=
 (inR ((v_1:Nat):Int) u_1&&(decide ((u_0+(Int.toNat ((v_1:Nat):Int)))<b.length)&&(aj .i64 (((v_1:Nat):Int) - 1)&&(inR (((v_1:Nat):Int) - 1) v_1&&(decide ((v_0+(Int.toNat (((v_1:Nat):Int) - 1)))<b_1.length)&&cond (decide ((b.getD (u_0+(Int.toNat ((v_1:Nat):Int))) 0)>=(b_1.getD (v_0+(Int.toNat (((v_1:Nat):Int) - 1))) 0))) (k0 18446744073709551615) (inR ((v_1:Nat):Int) u_1&&(decide ((u_0+(Int.toNat ((v_1:Nat):Int)))<b.length)&&(aj .i64 (((v_1:Nat):Int) - 1)&&(inR (((v_1:Nat):Int) - 1) u_1&&(decide ((u_0+(Int.toNat (((v_1:Nat):Int) - 1)))<b.length)&&(aj .i64 (((v_1:Nat):Int) - 1)&&(inR (((v_1:Nat):Int) - 1) v_1&&(decide ((v_0+(Int.toNat (((v_1:Nat):Int) - 1)))<b_1.length)&&avP (b.getD (u_0+(Int.toNat ((v_1:Nat):Int))) 0) (b.getD (u_0+(Int.toNat (((v_1:Nat):Int) - 1))) 0) (b_1.getD (v_0+(Int.toNat (((v_1:Nat):Int) - 1))) 0) (λnr aur=>ah N (uE N avP awm auB u_0 u_1 v_0 v_1 ((v_1:Nat):Int) b b_1 (λt4=>k0 t4)) (nr,aur)))))))))))))))
def aeV:FD:=aht N (JY N) (JZ N) (CQ N)
abbrev FE:=Nat->Nat->Nat->Nat->LI->LI->(Ky7)->Bool
section
variable (N:Nat) (awz:FD) (auL:pL) (au0:mX) (auB:mX)
def ND (N:Nat) (awz:FD) (auL:pL) (au0:mX) (auB:mX) (u u_2 v v_2:Nat) (n q t17:Int) (v_3:LI) (e0:Int->Int->LI->Bool):(Int × Int × Int × LI)->((Int × Int × Int × LI)->Bool)->Bool:=λv_ K=>match v_ with
 | (carry,borrow,t18,u_3)=>(cond (decide (t18<t17)) (inR t18 v_2&&(decide ((v+t18.toNat)<v_3.length)&&auL q (v_3.getD (v+t18.toNat) 0) 0 carry (λaur aut=>inR t18 u_2&&(decide ((u+t18.toNat)<u_3.length)&&au0 (u_3.getD (u+t18.toNat) 0) aut borrow (λavw awc=>inR t18 u_2&&(decide ((u+t18.toNat)<u_3.length)&&(aj .i64 (t18+1)&&K (aur,awc,(t18+1),(u_3.set (u+t18.toNat) avw))))))))) (e0 carry borrow u_3))
def NE (N:Nat) (awz:FD) (auL:pL) (au0:mX) (auB:mX) (u_8 u_9 v_7 v_8:Nat) (n_2 q_2 awK t60:Int) (v_9:LI) (e0:Ky7):(Int × Int × LI)->((Int × Int × LI)->Bool)->Bool:=λv_ K=>match v_ with
 | (av4,t61,awR)=>(cond (decide (t61<t60)) (inR t61 u_9&&(decide ((u_8+t61.toNat)<awR.length)&&(inR t61 v_8&&(decide ((v_7+t61.toNat)<v_9.length)&&auB (awR.getD (u_8+t61.toNat) 0) (v_9.getD (v_7+t61.toNat) 0) av4 (λn7 n8=>inR t61 u_9&&(decide ((u_8+t61.toNat)<awR.length)&&(aj .i64 (t61+1)&&K (n8,(t61+1),(awR.set (u_8+t61.toNat) n7))))))))) (e0 av4 awR))
def Af (u_5 u_6 v_4 v_5:Nat) (n_1:Int) (v_6:LI) (e0:Ky7):(Int × Int × LI)->((Int × Int × LI)->Bool)->Bool:=λv_ K=>match v_ with
 | (q_1,avS,u_7)=>(cond (avS != 0) (ah N (NE N awz auL au0 auB u_5 u_6 v_4 v_5 n_1 q_1 avS n_1 v_6 (λaA4 axR=>inR n_1 u_6&&(decide ((u_5+n_1.toNat)<axR.length)&&auB (axR.getD (u_5+n_1.toNat) 0) 0 aA4 (λn9 n10=>inR n_1 u_6&&(decide ((u_5+n_1.toNat)<axR.length)&&K ((IntKind.wrap .u64 (q_1 - 1)),(IntKind.wrap .u64 (avS - n10)),(axR.set (u_5+n_1.toNat) n9))))))) (0,0,u_7)) (e0 q_1 u_7))
def an6 (u_0 u_1 v_0 v_1:Nat) (b b_1:LI) (k0:Ky7):Bool:=
 (awz u_0 u_1 v_0 v_1 b b_1 (λnr=>ah N (ND N awz auL au0 auB u_0 u_1 v_0 v_1 ((v_1:Nat):Int) nr ((v_1:Nat):Int) b_1 (λavX ax4 u_4=>inR ((v_1:Nat):Int) u_1&&(decide ((u_0+(Int.toNat ((v_1:Nat):Int)))<u_4.length)&&au0 (u_4.getD (u_0+(Int.toNat ((v_1:Nat):Int))) 0) avX ax4 (λn5 n6=>inR ((v_1:Nat):Int) u_1&&(decide ((u_0+(Int.toNat ((v_1:Nat):Int)))<u_4.length)&&ah N (Af N awz auL au0 auB u_0 u_1 v_0 v_1 ((v_1:Nat):Int) b_1 (λq_3 b0=>k0 q_3 b0)) (nr,n6,(u_4.set (u_0+(Int.toNat ((v_1:Nat):Int))) n5))))))) (0,0,0,b)))
end
def ajJ:FE:=an6 N (aeV N) (Ta N) (aeR N) (CQ N)
abbrev yZ:=Nat->Nat->LI->(Kz2)->Bool
def CX (N x x_2:Nat) (x_3:LI) (e0:Kz1):(Int)->((Int)->Bool)->Bool:=λv_ K=>match v_ with
 | n=>(cond ((decide (n>0))==true) (aj .i64 (n - 1)&&(inR (n - 1) x_2&&(decide ((x+(Int.toNat (n - 1)))<x_3.length)&&cond ((x_3.getD (x+(Int.toNat (n - 1))) 0)==0) (aj .i64 (n - 1)&&K (n - 1)) (e0 n)))) (e0 n))
def Zq (N x_0 x_1:Nat) (b:LI) (k0:Kz2):Bool:=
 (ah N (CX N x_0 x_1 b (λn_1=>decide (0<=n_1/\n_1<=((x_1:Nat):Int))&&k0 (n_1.toNat - 0))) ((x_1:Nat):Int))
def Vz:yZ:=Zq N
abbrev BU:=Nat->Nat->Int->LI->(Kz1)->Bool
def Zz (N x_0 x_1:Nat) (i:Int) (b:LI) (k0:Kz1):Bool:=
 (cond (decide (i<((x_1:Nat):Int))) (inR i x_1&&(decide ((x_0+i.toNat)<b.length)&&k0 (b.getD (x_0+i.toNat) 0))) (k0 0))
def VI:BU:=Zz N
abbrev FF:=Nat->Nat->Int->LI->(LI->Bool->Bool)->Bool
def qo (N:Nat) (av9:BU) (SQ9:lP) (x x_2:Nat) (words rest:Int) (t37 aBx:Nat) (t38:Int) (x_3:LI) (e0:Kz1):(Int × Int)->((Int × Int)->Bool)->Bool:=λv_ K=>match v_ with
 | (lost,t39)=>(cond (decide (t39<t38)) (inR t39 aBx&&(decide ((t37+t39.toNat)<x_3.length)&&(aj .i64 (t39+1)&&K ((aF .or .u64 lost (x_3.getD (t37+t39.toNat) 0)),(t39+1))))) (e0 lost))
def mK (N:Nat) (av9:BU) (SQ9:lP) (x_4 x_5:Nat) (axt axP aAA t53:Int) (x_6:LI) (e0:Kz5):(Int × LI)->((Int × LI)->Bool)->Bool:=λv_ K=>match v_ with
 | (t54,z)=>(cond (decide (t54<t53)) (aj .i64 (axt+t54)&&av9 x_4 x_5 (axt+t54) x_6 (λnr=>decide (0<=axP)&&(aj .i64 (axt+t54)&&(aj .i64 ((axt+t54)+1)&&av9 x_4 x_5 ((axt+t54)+1) x_6 (λaur=>decide (0<=(IntKind.wrap .u64 (64 - axP)))&&(inR t54 z.length&&(decide (t54.toNat<z.length)&&(aj .i64 (t54+1)&&K ((t54+1),(z.set t54.toNat (aF .or .u64 (Int.fdiv nr (2 ^ (min axP.toNat 64))) (IntKind.wrap .u64 (aur*2 ^ (min (Int.toNat (IntKind.wrap .u64 (64 - axP))) 64)))))))))))))) (e0 z))
def ahv (av9:BU) (SQ9:lP) (x_0 x_1:Nat) (n:Int) (b:LI) (k0:LI->Bool->Bool):Bool:=
 (cond (decide ((IntKind.wrap .u64 (Int.tdiv n 64))>=(IntKind.wrap .u64 ((x_1:Nat):Int)))) (k0 [] (decide (((x_1:Nat):Int)>0))) (aj .i64 (IntKind.wrap .u64 (Int.tdiv n 64))&&(inR (IntKind.wrap .u64 (Int.tdiv n 64)) x_1&&(decide ((x_0+(Int.toNat (IntKind.wrap .u64 (Int.tdiv n 64))))<b.length)&&(decide (0<=(Int.tmod n 64))&&(decide (0<=(IntKind.wrap .u64 (Int.tdiv n 64))/\(IntKind.wrap .u64 (Int.tdiv n 64))<=((x_1:Nat):Int))&&ah N (qo N av9 SQ9 x_0 x_1 (IntKind.wrap .u64 (Int.tdiv n 64)) (Int.tmod n 64) x_0 ((Int.toNat (IntKind.wrap .u64 (Int.tdiv n 64))) - 0) ((((Int.toNat (IntKind.wrap .u64 (Int.tdiv n 64))) - 0):Nat):Int) b (λaC7=>aj .i64 (((x_1:Nat):Int) - (IntKind.wrap .u64 (Int.tdiv n 64)))&&(mB 8 (((x_1:Nat):Int) - (IntKind.wrap .u64 (Int.tdiv n 64))) (((x_1:Nat):Int) - (IntKind.wrap .u64 (Int.tdiv n 64)))&&ah N (mK N av9 SQ9 x_0 x_1 (IntKind.wrap .u64 (Int.tdiv n 64)) (Int.tmod n 64) aC7 (((List.length (List.replicate (Int.toNat (((x_1:Nat):Int) - (IntKind.wrap .u64 (Int.tdiv n 64)))) (0:Int))):Nat):Int) b (λz_1=>SQ9 z_1 (λmr=>decide ((0+mr)<=z_1.length)&&k0 (List.take mr (List.drop 0 z_1)) (aC7 != 0)))) (0,(List.replicate (Int.toNat (((x_1:Nat):Int) - (IntKind.wrap .u64 (Int.tdiv n 64)))) (0:Int)))))) ((aF .and .u64 (b.getD (x_0+(Int.toNat (IntKind.wrap .u64 (Int.tdiv n 64)))) 0) (IntKind.wrap .u64 ((IntKind.wrap .u64 ((1:Int)*2 ^ (min (Int.toNat (Int.tmod n 64)) 64))) - 1))),0)))))))
def ae0:FF:=ahv N (VI N) (sQ9 N)
abbrev tO:=LI->LI->(Ky9)->Bool
def Ka (N:Nat) (auz:pK) (auR:mY) (au9:za) (auJ:sj) (au_:Ib) (avH:FC) (ava:yY) (avL:FE) (avb:yZ) (avM:FF) (SQ9:lP) (up:Int) (u u_1:Nat) (n:Int) (e0:Ky9):(Int × LI × LI)->((Int × LI × LI)->Bool)->Bool:=λv_ K=>match v_ with
 | (j,u_2,q)=>(cond (decide (j>=0)) (aj .i64 (j+n)&&(aj .i64 ((j+n)+1)&&(decide (0<=j/\j<=((j+n)+1)/\((j+n)+1)<=((u_1:Nat):Int))&&ava (u+j.toNat) ((Int.toNat ((j+n)+1)) - j.toNat) [] u_2 (λavw s6=>inR j q.length&&(decide (j.toNat<q.length)&&(aj .i64 (j - 1)&&K ((j - 1),s6,(q.set j.toNat avw)))))))) (e0 u_2 q))
def CU (N:Nat) (auz:pK) (auR:mY) (au9:za) (auJ:sj) (au_:Ib) (avH:FC) (ava:yY) (avL:FE) (avb:yZ) (avM:FF) (SQ9:lP) (aDg:Int) (v v_1 u_5 u_6:Nat) (n_1:Int) (v_2:LI) (e0:Ky9):(Int × LI × LI)->((Int × LI × LI)->Bool)->Bool:=λv_ K=>match v_ with
 | (j_1,u_7,q_3)=>(cond (decide (j_1>=0)) (aj .i64 (j_1+n_1)&&(aj .i64 ((j_1+n_1)+1)&&(decide (0<=j_1/\j_1<=((j_1+n_1)+1)/\((j_1+n_1)+1)<=((u_6:Nat):Int))&&avL (u_5+j_1.toNat) ((Int.toNat ((j_1+n_1)+1)) - j_1.toNat) v v_1 u_7 v_2 (λawc s7=>inR j_1 q_3.length&&(decide (j_1.toNat<q_3.length)&&(aj .i64 (j_1 - 1)&&K ((j_1 - 1),s7,(q_3.set j_1.toNat awc)))))))) (e0 u_7 q_3))
def K2 (N:Nat) (auz:pK) (auR:mY) (au9:za) (auJ:sj) (au_:Ib) (avH:FC) (ava:yY) (avL:FE) (avb:yZ) (avM:FF) (SQ9:lP) (x y:LI) (aCg:Int) (awR:Nat) (axR q_6:LI) (k0:Ky9):Bool:=
 (avb 0 awR axR (λaBm=>avM 0 aBm aCg axR (λs8 cr=>SQ9 q_6 (λaC8=>decide ((0+aC8)<=q_6.length)&&k0 (List.take aC8 (List.drop 0 q_6)) s8))))
def N4 (auz:pK) (auR:mY) (au9:za) (auJ:sj) (au_:Ib) (avH:FC) (ava:yY) (avL:FE) (avb:yZ) (avM:FF) (SQ9:lP) (x y:LI) (k0:Ky9):Bool:=
 (auz x y (λnr=>cond (decide (nr<0)) (auR x (λnsr=>k0 [] nsr)) (cond (((y.length:Nat):Int)==1) (inR 0 y.length&&au9 x (y.getD 0 0) (λauo aur=>auJ aur (λauF=>k0 auo auF))) (aj .i64 (((y.length:Nat):Int) - 1)&&(inR (((y.length:Nat):Int) - 1) y.length&&au_ (y.getD (Int.toNat (((y.length:Nat):Int) - 1)) 0) (λaut=>avH y (IntKind.wrap .u64 aut) (avH x (IntKind.wrap .u64 aut) (aj .i64 (((x.length:Nat):Int)+1)&&(decide (0<=(((x.length:Nat):Int)+1)/\(((x.length:Nat):Int)+1)<=2)&&(aj .i64 (((((Int.toNat (((x.length:Nat):Int)+1)) - 0):Nat):Int) - 0)&&(mB 8 (((((Int.toNat (((x.length:Nat):Int)+1)) - 0):Nat):Int) - 0) (((((Int.toNat (((x.length:Nat):Int)+1)) - 0):Nat):Int) - 0)&&(aj .i64 (((((Int.toNat (((x.length:Nat):Int)+1)) - 0):Nat):Int) - 0)&&(aj .i64 ((((((Int.toNat (((x.length:Nat):Int)+1)) - 0):Nat):Int) - 0) - 1)&&ah N (Ka N auz auR au9 auJ au_ avH ava avL avb avM SQ9 (IntKind.wrap .u64 aut) 0 ((Int.toNat (((x.length:Nat):Int)+1)) - 0) 0 (λu_3 q_1=>K2 N auz auR au9 auJ au_ avH ava avL avb avM SQ9 x y (IntKind.wrap .u64 aut) ((Int.toNat (((x.length:Nat):Int)+1)) - 0) u_3 q_1 k0)) (((((((Int.toNat (((x.length:Nat):Int)+1)) - 0):Nat):Int) - 0) - 1),([]++[0,0]),(List.replicate (Int.toNat (((((Int.toNat (((x.length:Nat):Int)+1)) - 0):Nat):Int) - 0)) (0:Int))))))))) (λaww auv=>decide ((0+aww)<=auv.length)&&(decide ((List.length ((List.take aww (List.drop 0 auv))++[0,0]))*8<=140737488355328)&&(aj .i64 (((x.length:Nat):Int)+1)&&(decide (0<=(((x.length:Nat):Int)+1)/\(((x.length:Nat):Int)+1)<=(((List.length ((List.take aww (List.drop 0 auv))++[0,0])):Nat):Int))&&(aj .i64 (((((Int.toNat (((x.length:Nat):Int)+1)) - 0):Nat):Int) - 0)&&(mB 8 (((((Int.toNat (((x.length:Nat):Int)+1)) - 0):Nat):Int) - 0) (((((Int.toNat (((x.length:Nat):Int)+1)) - 0):Nat):Int) - 0)&&(aj .i64 (((((Int.toNat (((x.length:Nat):Int)+1)) - 0):Nat):Int) - 0)&&(aj .i64 ((((((Int.toNat (((x.length:Nat):Int)+1)) - 0):Nat):Int) - 0) - 1)&&ah N (Ka N auz auR au9 auJ au_ avH ava avL avb avM SQ9 (IntKind.wrap .u64 aut) 0 ((Int.toNat (((x.length:Nat):Int)+1)) - 0) 0 (λu_4 q_2=>K2 N auz auR au9 auJ au_ avH ava avL avb avM SQ9 x y (IntKind.wrap .u64 aut) ((Int.toNat (((x.length:Nat):Int)+1)) - 0) u_4 q_2 k0)) (((((((Int.toNat (((x.length:Nat):Int)+1)) - 0):Nat):Int) - 0) - 1),((List.take aww (List.drop 0 auv))++[0,0]),(List.replicate (Int.toNat (((((Int.toNat (((x.length:Nat):Int)+1)) - 0):Nat):Int) - 0)) (0:Int)))))))))))) (λmr auC=>avH x (IntKind.wrap .u64 aut) (aj .i64 (((x.length:Nat):Int)+1)&&(decide (0<=(((x.length:Nat):Int)+1)/\(((x.length:Nat):Int)+1)<=2)&&(aj .i64 (((((Int.toNat (((x.length:Nat):Int)+1)) - 0):Nat):Int) - ((mr:Nat):Int))&&(mB 8 (((((Int.toNat (((x.length:Nat):Int)+1)) - 0):Nat):Int) - ((mr:Nat):Int)) (((((Int.toNat (((x.length:Nat):Int)+1)) - 0):Nat):Int) - ((mr:Nat):Int))&&(aj .i64 (((((Int.toNat (((x.length:Nat):Int)+1)) - 0):Nat):Int) - ((mr:Nat):Int))&&(aj .i64 ((((((Int.toNat (((x.length:Nat):Int)+1)) - 0):Nat):Int) - ((mr:Nat):Int)) - 1)&&ah N (CU N auz auR au9 auJ au_ avH ava avL avb avM SQ9 (IntKind.wrap .u64 aut) 0 mr 0 ((Int.toNat (((x.length:Nat):Int)+1)) - 0) ((mr:Nat):Int) auC (λu_8 q_4=>K2 N auz auR au9 auJ au_ avH ava avL avb avM SQ9 x y (IntKind.wrap .u64 aut) ((Int.toNat (((x.length:Nat):Int)+1)) - 0) u_8 q_4 k0)) (((((((Int.toNat (((x.length:Nat):Int)+1)) - 0):Nat):Int) - ((mr:Nat):Int)) - 1),([]++[0,0]),(List.replicate (Int.toNat (((((Int.toNat (((x.length:Nat):Int)+1)) - 0):Nat):Int) - ((mr:Nat):Int))) (0:Int))))))))) (λavJ auu=>decide ((0+avJ)<=auu.length)&&(decide ((List.length ((List.take avJ (List.drop 0 auu))++[0,0]))*8<=140737488355328)&&(aj .i64 (((x.length:Nat):Int)+1)&&(decide (0<=(((x.length:Nat):Int)+1)/\(((x.length:Nat):Int)+1)<=(((List.length ((List.take avJ (List.drop 0 auu))++[0,0])):Nat):Int))&&(aj .i64 (((((Int.toNat (((x.length:Nat):Int)+1)) - 0):Nat):Int) - ((mr:Nat):Int))&&(mB 8 (((((Int.toNat (((x.length:Nat):Int)+1)) - 0):Nat):Int) - ((mr:Nat):Int)) (((((Int.toNat (((x.length:Nat):Int)+1)) - 0):Nat):Int) - ((mr:Nat):Int))&&(aj .i64 (((((Int.toNat (((x.length:Nat):Int)+1)) - 0):Nat):Int) - ((mr:Nat):Int))&&(aj .i64 ((((((Int.toNat (((x.length:Nat):Int)+1)) - 0):Nat):Int) - ((mr:Nat):Int)) - 1)&&ah N (CU N auz auR au9 auJ au_ avH ava avL avb avM SQ9 (IntKind.wrap .u64 aut) 0 mr 0 ((Int.toNat (((x.length:Nat):Int)+1)) - 0) ((mr:Nat):Int) auC (λu_9 q_5=>K2 N auz auR au9 auJ au_ avH ava avL avb avM SQ9 x y (IntKind.wrap .u64 aut) ((Int.toNat (((x.length:Nat):Int)+1)) - 0) u_9 q_5 k0)) (((((((Int.toNat (((x.length:Nat):Int)+1)) - 0):Nat):Int) - ((mr:Nat):Int)) - 1),((List.take avJ (List.drop 0 auu))++[0,0]),(List.replicate (Int.toNat (((((Int.toNat (((x.length:Nat):Int)+1)) - 0):Nat):Int) - ((mr:Nat):Int))) (0:Int))))))))))))))))))
def yS:tO:=N4 N (Ea N) (GJ N) (P2 N) (Fm N) (aeu N) (ajI N) (al5 N) (ajJ N) (Vz N) (ae0 N) (sQ9 N)
def Z0 (N:Nat) (avo:pU) (x:LI) (k0:Kz1):Bool:=
 (avo x 0 (λnr=>k0 nr))
def BE:BO:=Z0 N (JQ N)
section
variable (N:Nat) (auz:pK) (au6:BO) (au5:pU) (au8:BS) (at9:cX) (auO:tO) (au4:BO) (auJ:sj)
def Ft (N:Nat) (auz:pK) (au6:BO) (au5:pU) (au8:BS) (at9:cX) (auO:tO) (au4:BO) (auJ:sj) (e0:Ky9):(LI × LI)->((LI × LI)->Bool)->Bool:=λv_ K=>match v_ with
 | (x_2,y_2)=>(cond (decide (((y_2.length:Nat):Int)>1)) (au6 x_2 (λaur=>aj .i64 (aur - 64)&&au5 x_2 (aur - 64) (λaut=>au5 y_2 (aur - 64) (λavw=>au8 aut avw (λawc n5 n6 n7 cr=>cond (n5 != 0) (at9 awc n5 n6 n7 cr x_2 y_2 (λnsr auo=>K (nsr,auo))) (auO x_2 y_2 (λauF auC=>K (y_2,auC)))))))) (e0 x_2 y_2))
def Kf (N:Nat) (auz:pK) (au6:BO) (au5:pU) (au8:BS) (at9:cX) (auO:tO) (au4:BO) (auJ:sj) (e0:Kz1):(Int × Int)->((Int × Int)->Bool)->Bool:=λv_ K=>match v_ with
 | (a,b)=>(cond (decide (b>0)) ((!decide (b=0))&&K (b,(Int.tmod a b))) (e0 a))
def Da (x y x_4 y_4:LI) (k0:Kz5):Bool:=
 (cond (((y_4.length:Nat):Int)==0) (k0 x_4) (au4 x_4 (λn8=>au4 y_4 (λn9=>ah N (Kf N auz au6 au5 au8 at9 auO au4 auJ (λa_1=>auJ a_1 (λs6=>k0 s6))) (n8,n9)))))
def N7 (x y x_1 y_1:LI) (k0:Kz5):Bool:=
 (ah N (Ft N auz au6 au5 au8 at9 auO au4 auJ (λx_3 y_3=>cond ((decide (((y_3.length:Nat):Int)>0))==true) (cond (decide (((x_3.length:Nat):Int)>1)) (auO x_3 y_3 (λauv auu=>Da N auz au6 au5 au8 at9 auO au4 auJ x y y_3 auu k0)) (Da N auz au6 au5 au8 at9 auO au4 auJ x y x_3 y_3 k0)) (Da N auz au6 au5 au8 at9 auO au4 auJ x y x_3 y_3 k0))) (x_1,y_1))
def aaE (x y:LI) (k0:Kz5):Bool:=
 (auz x y (λnr=>cond (decide (nr<0)) (N7 N auz au6 au5 au8 at9 auO au4 auJ x y y x k0) (N7 N auz au6 au5 au8 at9 auO au4 auJ x y x y k0)))
end
def M9:B8:=aaE N (Ea N) (BD N) (BF N) (D8 N) (bh N) (yS N) (BE N) (Fm N)
abbrev zd:=Bool->LI->Bool->Bool->(Ky2)->Bool
def aaB (N:Nat) (neg:Bool) (abs:LI) (b b_1:Bool) (k0:Ky2):Bool:=
 (cond (neg==true) (k0 (decide (((abs.length:Nat):Int)>0)) []) (k0 false []))
def Qj:zd:=aaB N
abbrev Di:=Bool->LI->Bool->LI->Bool->LI->(Kz0)->Bool
def ahs (N:Nat) (neg:Bool) (abs:LI) (b:Bool) (b_1:LI) (b_2:Bool) (b_3:LI) (k0:Kz0):Bool:=
 (cond (neg==true) (k0 (decide (((abs.length:Nat):Int)>0))) (k0 false))
def X1:Di:=ahs N
abbrev Hk:=Bool->LI->LI->Bool->Bool->(Kx6)->Bool
def N8 (N:Nat) (av7:B8) (auz:pK) (auO:tO) (auR:mY) (awy:zd) (awN:Di) (neg:Bool) (a b:LI) (b_1 b_2:Bool) (a_1 b_3:LI) (k0:Kx6):Bool:=
 (auR a_1 (λauu=>awy neg auu b_1 b_2 (λcr s6=>auR b_3 (λs7=>awN false s7 cr auu b_2 s6 (λauN=>k0 cr auu auN s7)))))
def KU (av7:B8) (auz:pK) (auO:tO) (auR:mY) (awy:zd) (awN:Di) (neg:Bool) (a b:LI) (b_1 b_2:Bool) (k0:Kx6):Bool:=
 (av7 a b (λnsr=>auz nsr [1] (λnr=>cond (nr != 0) (auO a nsr (λauo auF=>auO b nsr (λauC auv=>N8 N av7 auz auO auR awy awN neg a b b_1 b_2 auo auC k0))) (N8 N av7 auz auO auR awy awN neg a b b_1 b_2 a b k0))))
def VG:Hk:=KU N (M9 N) (Ea N) (yS N) (GJ N) (Qj N) (X1 N)
abbrev Dc:=Bool->Bool->Bool->LI->Bool->LI->(Kx6)->Bool
def ahq (N:Nat) (azx:Hk) (b b_1 b_2:Bool) (b_3:LI) (b_4:Bool) (b_5:LI) (k0:Kx6):Bool:=
 (azx (b_2 != b_4) b_3 b_5 b b_1 (λcr nsr auN auo=>k0 cr nsr auN auo))
def Qh:Dc:=ahq N (VG N)
section
variable (N:Nat) (auL:pL) (SQ9:lP)
def o9 (N:Nat) (auL:pL) (SQ9:lP) (y_2:LI) (i a:Int) (aBu:LI) (aBv aBw:Int) (t32:LI) (t33:Int) (e0:Ky7):(Int × Int × LI)->((Int × Int × LI)->Bool)->Bool:=λv_ K=>match v_ with
 | (carry,t34,z_1)=>(cond (decide (t34<t33)) (inR t34 t32.length&&(aj .i64 (i+t34)&&(aj .i64 (i+t34)&&(inR (i+t34) z_1.length&&(decide ((Int.toNat (i+t34))<z_1.length)&&auL a (t32.getD t34.toNat 0) (z_1.getD (Int.toNat (i+t34)) 0) carry (λnr aur=>inR (i+t34) z_1.length&&(decide ((Int.toNat (i+t34))<z_1.length)&&(aj .i64 (t34+1)&&K (nr,(t34+1),(z_1.set (Int.toNat (i+t34)) aur)))))))))) (e0 carry z_1))
def o8 (y_1 t25:LI) (t26:Int) (e0:Kz5):(Int × LI)->((Int × LI)->Bool)->Bool:=λv_ K=>match v_ with
 | (t27,z)=>(cond (decide (t27<t26)) (inR t27 t25.length&&ah N (o9 N auL SQ9 y_1 t27 (t25.getD t27.toNat 0) t25 t26 t27 y_1 ((y_1.length:Nat):Int) (λavX z_2=>aj .i64 (t27+((y_1.length:Nat):Int))&&(inR (t27+((y_1.length:Nat):Int)) z_2.length&&(decide ((Int.toNat (t27+((y_1.length:Nat):Int)))<z_2.length)&&(aj .i64 (t27+1)&&K ((t27+1),(z_2.set (Int.toNat (t27+((y_1.length:Nat):Int))) avX))))))) (0,0,z)) (e0 z))
def ZD (x y:LI) (k0:Kz5):Bool:=
 (cond ((((x.length:Nat):Int)==0)==false) (cond (((y.length:Nat):Int)==0) (k0 []) (aj .i64 (((x.length:Nat):Int)+((y.length:Nat):Int))&&(mB 8 (((x.length:Nat):Int)+((y.length:Nat):Int)) (((x.length:Nat):Int)+((y.length:Nat):Int))&&ah N (o8 N auL SQ9 y x ((x.length:Nat):Int) (λz_3=>SQ9 z_3 (λmr=>decide ((0+mr)<=z_3.length)&&k0 (List.take mr (List.drop 0 z_3))))) (0,(List.replicate (Int.toNat (((x.length:Nat):Int)+((y.length:Nat):Int))) (0:Int)))))) (k0 []))
end
def Gd:B8:=ZD N (Ta N) (sQ9 N)
abbrev Ig:=Bool->LI->Bool->LI->(Ky2)->Bool
def anZ (N:Nat) (awl:B8) (ax3:Dl) (b:Bool) (b_1:LI) (b_2:Bool) (b_3:LI) (k0:Ky2):Bool:=
 (awl b_1 b_3 (λnsr=>ax3 (b != b_2) nsr b b_1 (λcr=>k0 cr nsr)))
def X2:Ig:=anZ N (Gd N) (aeX N)
abbrev Hj:=Bool->Bool->LI->Bool->LI->LI->(Kz0)->Bool
def Zx (N:Nat) (neg b:Bool) (b_1:LI) (b_2:Bool) (b_3 b_4:LI) (k0:Kz0):Bool:=
 (cond (neg==true) (k0 (decide (((b_4.length:Nat):Int)>0))) (k0 false))
def aew:Hj:=Zx N
abbrev Hm:=Bool->LI->Bool->Bool->LI->(Ky1)->Bool
def ZA (N:Nat) (awy:zd) (azw:Hj) (neg:Bool) (a:LI) (b b_1:Bool) (b_2:LI) (k0:Ky1):Bool:=
 (awy neg a b b_1 (λcr nsr=>azw false cr a b_1 nsr b_2 (λauN=>k0 cr auN)))
def aex:Hm:=ZA N (Qj N) (aew N)
abbrev Ic:=Bool->Bool->Bool->LI->(Kx6)->Bool
def anO (N:Nat) (auR:mY) (azz:Hm) (b b_1 b_2:Bool) (b_3:LI) (k0:Kx6):Bool:=
 (auR b_3 (λnsr=>azz b_2 nsr b b_1 [1] (λcr auN=>k0 cr nsr auN [1])))
def Td:Ic:=anO N (GJ N) (aex N)
abbrev gi:=Fl->(Kx6)->Bool
def dA (N:Nat) (awb:B9) (at8:aR) (awX:Ie) (awY:Im) (avN:xj) (aw8:Ii) (awM:Dc) (aw6:Ig) (aw5:Ic) (x:Fl) (p:Bool) (p_1 p_2:Int) (n:Bool) (n_1:LI) (k0:Kx6):Bool:=
 (avN 1 (λawL auF=>aj .i64 (0 - p_2)&&aw8 (IntKind.wrap .u64 (imm true p_2 (0 - p_2))) false awL auF (λayV auC=>cond (decide (p_2<0)) (awM false false n n_1 ayV auC (λaAs auv aA5 auu=>k0 aAs auv aA5 auu)) (aw6 n n_1 ayV auC (λaA6 s6=>aw5 false false aA6 s6 (λc8 s7 c9 s8=>k0 c8 s7 c9 s8))))))
def gG (awb:B9) (at8:aR) (awX:Ie) (awY:Im) (avN:xj) (aw8:Ii) (awM:Dc) (aw6:Ig) (aw5:Ic) (x:Fl) (k0:Kx6):Bool:=
 (awb x (λcr nr aur aut=>at8 (aut==0) 4 (awX nr false (λauN nsr=>cond cr (awY auN nsr (λavT auo=>dA N awb at8 awX awY avN aw8 awM aw6 aw5 x cr nr aur avT auo k0)) (dA N awb at8 awX awY avN aw8 awM aw6 aw5 x cr nr aur auN nsr k0)))))
def kK:gi:=gG N (Gg N) (cG N) (Ql N) (Qo N) (Ge N) (Tf N) (Qh N) (X2 N) (Td N)
abbrev fp:=Int->Int->LF->(List RY1->Bool)->Bool
def gf (N:Nat) (avF:wh) (at8:aR) (aul:gi) (aAb:LF) (aAC axz axA g_2 g_3:Int) (e0:List RY1->Bool):(Int × List RY1)->((Int × List RY1)->Bool)->Bool:=λv_ K=>match v_ with
 | (axb,b2)=>(cond (decide (axb<aAC)) (inR axb aAb.length&&aul (aAb.getD axb.toNat none) (λavT auF awL auC=>decide ((List.length (b2++[((avT,auF),(awL,auC))]))*8<=140737488355328)&&(aj .i64 (axb+1)&&K ((axb+1),(b2++[((avT,auF),(awL,auC))]))))) (e0 b2))
def nc (avF:wh) (at8:aR) (aul:gi) (m_0 m_1:Int) (m_2:LF) (k0:List RY1->Bool):Bool:=
 (avF m_0 m_1 m_2 (λnr=>at8 (nr==0) nr (ah N (gf N avF at8 aul m_2 ((m_2.length:Nat):Int) 0 0 m_0 m_1 (λ(aA2:List RY1)=>k0 aA2)) (0,[]))))
def jW:fp:=nc N (SZ N) (cG N) (kK N)
abbrev aJ:=Int->Int->Int->Int->List RY1->(Kx6)->Bool
def j_ (N:Nat) (g_0 g_1 i j:Int) (b:List RY1) (k0:Kx6):Bool:=
 (aj .i64 (i*g_1)&&(aj .i64 ((i*g_1)+j)&&(inR ((i*g_1)+j) b.length&&(decide ((Int.toNat ((i*g_1)+j))<b.length)&&k0 (b.getD (Int.toNat ((i*g_1)+j)) ((false,[]),(false,[]))).1.1 (b.getD (Int.toNat ((i*g_1)+j)) ((false,[]),(false,[]))).1.2 (b.getD (Int.toNat ((i*g_1)+j)) ((false,[]),(false,[]))).2.1 (b.getD (Int.toNat ((i*g_1)+j)) ((false,[]),(false,[]))).2.2))))
def bw:aJ:=j_ N
abbrev wj:=Bool->LI->Bool->LI->(Kz5)->Bool
def anR (N:Nat) (x_0:Bool) (x_1:LI) (x_2:Bool) (x_3:LI) (k0:Kz5):Bool:=
 (cond (((x_3.length:Nat):Int)==0) (k0 [1]) (k0 x_3))
def Qk:wj:=anR N
abbrev zf:=Bool->LI->LI->Bool->Bool->(Ky1)->Bool
def anM (N:Nat) (awy:zd) (awN:Di) (neg:Bool) (a b:LI) (b_1 b_2:Bool) (k0:Ky1):Bool:=
 (awy neg a b_1 b_2 (λcr nsr=>awN false b cr a b_2 nsr (λauN=>k0 cr auN)))
def Tb:zf:=anM N (Qj N) (X1 N)
abbrev Hs:=Bool->LI->Bool->LI->Bool->Bool->(Kx6)->Bool
def ZK (N:Nat) (auR:mY) (awT:wj) (axw:zf) (x_0:Bool) (x_1:LI) (x_2:Bool) (x_3:LI) (b b_1:Bool) (k0:Kx6):Bool:=
 (auR x_1 (λnsr=>awT x_0 x_1 x_2 x_3 (λauo=>auR auo (λauF=>axw (!x_0) nsr auF b b_1 (λcr auN=>k0 cr nsr auN auF)))))
def VL:Hs:=ZK N (GJ N) (Qk N) (Tb N)
def Zy (N:Nat) (b:Bool) (b_1:LI) (b_2:Bool) (b_3:LI) (k0:Kz5):Bool:=
 (cond (((b_3.length:Nat):Int)==0) (k0 [1]) (k0 b_3))
def VH:wj:=Zy N
def Oc (N:Nat) (auO:tO) (x y:LI) (k0:Kz5):Bool:=
 (auO x y (λnsr auo=>k0 nsr))
def KZ (auO:tO) (x y:LI) (k0:Kz5):Bool:=
 (cond ((((y.length:Nat):Int)==1)==true) (inR 0 y.length&&cond ((y.getD 0 0)==1) (k0 x) (Oc N auO x y k0)) (Oc N auO x y k0))
def JU:B8:=KZ N (yS N)
def tc (N:Nat) (avo:pU) (auB:mX) (SQ9:lP) (x_1 y_1:LI) (n t17:Int) (e0:Ky7):(Int × Int × LI)->((Int × Int × LI)->Bool)->Bool:=λv_ K=>match v_ with
 | (carry,t18,z)=>(cond (decide (t18<t17)) (avo x_1 t18 (λnr=>avo y_1 t18 (λaur=>auB nr aur carry (λaut avw=>inR t18 z.length&&(decide (t18.toNat<z.length)&&(aj .i64 (t18+1)&&K (avw,(t18+1),(z.set t18.toNat aut)))))))) (e0 carry z))
def aaw (avo:pU) (auB:mX) (SQ9:lP) (x y:LI) (k0:Kz5):Bool:=
 (aj .i64 ((imm true ((x.length:Nat):Int) ((y.length:Nat):Int))+1)&&(mB 8 ((imm true ((x.length:Nat):Int) ((y.length:Nat):Int))+1) ((imm true ((x.length:Nat):Int) ((y.length:Nat):Int))+1)&&ah N (tc N avo auB SQ9 x y (imm true ((x.length:Nat):Int) ((y.length:Nat):Int)) (imm true ((x.length:Nat):Int) ((y.length:Nat):Int)) (λavX z_1=>inR (imm true ((x.length:Nat):Int) ((y.length:Nat):Int)) z_1.length&&(decide ((Int.toNat (imm true ((x.length:Nat):Int) ((y.length:Nat):Int)))<z_1.length)&&SQ9 (z_1.set (Int.toNat (imm true ((x.length:Nat):Int) ((y.length:Nat):Int))) avX) (λmr=>decide ((0+mr)<=(List.length (z_1.set (Int.toNat (imm true ((x.length:Nat):Int) ((y.length:Nat):Int))) avX)))&&k0 (List.take mr (List.drop 0 (z_1.set (Int.toNat (imm true ((x.length:Nat):Int) ((y.length:Nat):Int))) avX))))))) (0,0,(List.replicate (Int.toNat ((imm true ((x.length:Nat):Int) ((y.length:Nat):Int))+1)) (0:Int)))))
def Wa:B8:=aaw N (JQ N) (CQ N) (sQ9 N)
def an_ (N:Nat) (az8:B8) (ax3:Dl) (auz:pK) (axj:B8) (neg:Bool) (y:LI) (b:Bool) (b_1:LI) (k0:Ky2):Bool:=
 (cond (b==neg) (az8 b_1 y (λnsr=>ax3 neg nsr b b_1 (λcr=>k0 cr nsr))) (auz b_1 y (λnr=>cond (decide (nr>=0)) (axj b_1 y (λauo=>ax3 b auo b b_1 (λauN=>k0 auN auo))) (axj y b_1 (λauF=>ax3 neg auF b b_1 (λavT=>k0 avT auF))))))
def aeZ:Ig:=an_ N (Wa N) (aeX N) (Ea N) (Qa N)
abbrev Hf:=Bool->LI->Bool->LI->Bool->Bool->Bool->LI->Bool->LI->(Kx6)->Bool
def Zr (N:Nat) (awT:wj) (azy:wj) (av7:B8) (awn:B8) (awl:B8) (aw3:wi) (azb:Ig) (auR:mY) (axw:zf) (x_0:Bool) (x_1:LI) (x_2:Bool) (x_3:LI) (b b_1 b_2:Bool) (b_3:LI) (b_4:Bool) (b_5:LI) (k0:Kx6):Bool:=
 (awT x_0 x_1 x_2 x_3 (λnsr=>azy b_2 b_3 b_4 b_5 (λauo=>av7 nsr auo (λauF=>awn nsr auF (λauC=>awn auo auF (λauv=>awl x_1 auv (λauu=>aw3 x_0 auu false (λcr=>awl b_3 auC (λs6=>azb b_2 s6 cr auu (λauN s7=>av7 s7 auF (λs8=>awn s7 s8 (λs9=>auR s9 (λs10=>awn auo s8 (λs11=>awl auC s11 (λs12=>axw auN s10 s12 b b_1 (λavT awL=>k0 avT s10 awL s12))))))))))))))))
def VA:Hf:=Zr N (Qk N) (VH N) (M9 N) (JU N) (Gd N) (M8 N) (aeZ N) (GJ N) (Tb N)
abbrev Hz:=Bool->LI->Bool->LI->Bool->LI->Bool->LI->Bool->Bool->(Kx6)->Bool
def ZR (N:Nat) (azF:Hs) (azs:Hf) (x_0:Bool) (x_1:LI) (x_2:Bool) (x_3:LI) (y_0:Bool) (y_1:LI) (y_2:Bool) (y_3:LI) (b b_1:Bool) (k0:Kx6):Bool:=
 (azF y_0 y_1 y_2 y_3 false false (λcr nsr auN auo=>azs x_0 x_1 x_2 x_3 b b_1 cr nsr auN auo (λavT auF awL auC=>k0 avT auF awL auC)))
def aeE:Hz:=ZR N (VL N) (VA N)
abbrev ba:=Bool->LI->Bool->LI->Bool->LI->Bool->LI->(Kx6)->Bool
def jE (N:Nat) (azM:Hz) (x_0:Bool) (x_1:LI) (x_2:Bool) (x_3:LI) (y_0:Bool) (y_1:LI) (y_2:Bool) (y_3:LI) (k0:Kx6):Bool:=
 (azM x_0 x_1 x_2 x_3 y_0 y_1 y_2 y_3 false false (λcr nsr auN auo=>k0 cr nsr auN auo))
def bC:ba:=jE N (aeE N)
abbrev HG:=Bool->LI->Bool->LI->(Kz1)->Bool
def Z7 (N:Nat) (x_0:Bool) (x_1:LI) (x_2:Bool) (x_3:LI) (k0:Kz1):Bool:=
 (cond x_0 (k0 (-1)) (cond (((x_1.length:Nat):Int)==0) (k0 0) (k0 1)))
def aeH:HG:=Z7 N
def Z8 (N:Nat) (azS:HG) (x_0:Bool) (x_1:LI) (x_2:Bool) (x_3:LI) (k0:Kz1):Bool:=
 (azS x_0 x_1 x_2 x_3 (λnr=>k0 nr))
def aeI:HG:=Z8 N (aeH N)
def jH (N:Nat) (azT:HG) (x_0:Bool) (x_1:LI) (x_2:Bool) (x_3:LI) (k0:Kz1):Bool:=
 (azT x_0 x_1 x_2 x_3 (λnr=>k0 nr))
def bD:HG:=jH N (aeI N)
abbrev cz:=Int->Int->List RY1->(Bool)->Bool
section
variable (N:Nat) (at5:aJ) (at7:ba) (at6:HG) (at8:aR)
def cd (N:Nat) (at5:aJ) (at7:ba) (at6:HG) (at8:aR) (i aBz awO t9:Int) (awU:List RY1) (g_3 g_4:Int) (e0:Bool):(Int)->((Int)->Bool)->Bool:=λv_ K=>match v_ with
 | t10=>(cond (decide (t10<t9)) (at5 g_3 g_4 i t10 awU (λcr nsr auN auo=>at5 g_3 g_4 t10 i awU (λavT auF awL auC=>at7 cr nsr auN auo avT auF awL auC (λayV auv aAs auu=>at6 ayV auv aAs auu (λnr=>at8 (nr==0) 112 (aj .i64 (t10+1)&&K (t10+1))))))) e0)
def cb (t5:Int) (b0:List RY1) (g g_2:Int) (e0:Bool):(Int)->((Int)->Bool)->Bool:=λv_ K=>match v_ with
 | t6=>(cond (decide (t6<t5)) (ah N (cd N at5 at7 at6 at8 t6 t5 t6 t6 b0 g g_2 (aj .i64 (t6+1)&&K (t6+1))) 0) e0)
def gZ (g_0 g_1:Int) (b:List RY1) (k0:Bool):Bool:=
 (ah N (cb N at5 at7 at6 at8 g_0 b g_0 g_1 k0) 0)
end
def d7:cz:=gZ N (bw N) (bC N) (bD N) (cG N)
abbrev HO:=Int->Int->(Kx6)->Bool
def aak (N:Nat) (avN:xj) (awM:Dc) (a b:Int) (k0:Kx6):Bool:=
 (avN a (λcr nsr=>avN b (λauN auo=>awM false false cr nsr auN auo (λavT auF awL auC=>k0 avT auF awL auC))))
def aeN:HO:=aak N (Ge N) (Qh N)
abbrev ie:=Int->(Kx6)->Bool
def pR (N:Nat) (azY:HO) (n:Int) (k0:Kx6):Bool:=
 (azY n 1 (λcr nsr auN auo=>k0 cr nsr auN auo))
def gI:ie:=pR N (aeN N)
abbrev Ih:=Bool->LI->LI->LI->LI->Bool->Bool->(Kx6)->Bool
def an2 (N:Nat) (av7:B8) (awn:B8) (awl:B8) (axw:zf) (neg:Bool) (a b c d:LI) (b_1 b_2:Bool) (k0:Kx6):Bool:=
 (av7 a d (λnsr=>av7 c b (λauo=>awn a nsr (λauF=>awn c auo (λauC=>awl auF auC (λauv=>awn b auo (λauu=>awn d nsr (λs6=>awl auu s6 (λs7=>axw neg auv s7 b_1 b_2 (λcr auN=>k0 cr auv auN s7))))))))))
def aeW:Ih:=an2 N (M9 N) (JU N) (Gd N) (Tb N)
def ZQ (N:Nat) (awT:wj) (aza:Ih) (x_0:Bool) (x_1:LI) (x_2:Bool) (x_3:LI) (y_0:Bool) (y_1:LI) (y_2:Bool) (y_3:LI) (b b_1:Bool) (k0:Kx6):Bool:=
 (awT x_0 x_1 x_2 x_3 (λnsr=>awT y_0 y_1 y_2 y_3 (λauo=>aza (x_0 != y_0) x_1 nsr auo y_1 b b_1 (λcr auF auN auC=>k0 cr auF auN auC))))
def aeD:Hz:=ZQ N (Qk N) (aeW N)
def jF (N:Nat) (azL:Hz) (x_0:Bool) (x_1:LI) (x_2:Bool) (x_3:LI) (y_0:Bool) (y_1:LI) (y_2:Bool) (y_3:LI) (k0:Kx6):Bool:=
 (azL x_0 x_1 x_2 x_3 y_0 y_1 y_2 y_3 false false (λcr nsr auN auo=>k0 cr nsr auN auo))
def ce:ba:=jF N (aeD N)
def ZP (N:Nat) (awT:wj) (aza:Ih) (x_0:Bool) (x_1:LI) (x_2:Bool) (x_3:LI) (y_0:Bool) (y_1:LI) (y_2:Bool) (y_3:LI) (b b_1:Bool) (k0:Kx6):Bool:=
 (awT x_0 x_1 x_2 x_3 (λnsr=>awT y_0 y_1 y_2 y_3 (λauo=>aza (x_0 != y_0) x_1 nsr y_1 auo b b_1 (λcr auF auN auC=>k0 cr auF auN auC))))
def aeC:Hz:=ZP N (Qk N) (aeW N)
def ji (N:Nat) (azK:Hz) (x_0:Bool) (x_1:LI) (x_2:Bool) (x_3:LI) (y_0:Bool) (y_1:LI) (y_2:Bool) (y_3:LI) (k0:Kx6):Bool:=
 (azK x_0 x_1 x_2 x_3 y_0 y_1 y_2 y_3 false false (λcr nsr auN auo=>k0 cr nsr auN auo))
def gA:ba:=ji N (aeC N)
def Uu (N:Nat) (awT:wj) (av7:B8) (awn:B8) (awl:B8) (aw3:wi) (azb:Ig) (auR:mY) (axw:zf) (x_0:Bool) (x_1:LI) (x_2:Bool) (x_3:LI) (y_0:Bool) (y_1:LI) (y_2:Bool) (y_3:LI) (b b_1:Bool) (k0:Kx6):Bool:=
 (awT x_0 x_1 x_2 x_3 (λnsr=>awT y_0 y_1 y_2 y_3 (λauo=>av7 nsr auo (λauF=>awn nsr auF (λauC=>awn auo auF (λauv=>awl x_1 auv (λauu=>aw3 x_0 auu false (λcr=>awl y_1 auC (λs6=>azb y_0 s6 cr auu (λauN s7=>av7 s7 auF (λs8=>awn s7 s8 (λs9=>auR s9 (λs10=>awn auo s8 (λs11=>awl auC s11 (λs12=>axw auN s10 s12 b b_1 (λavT awL=>k0 avT s10 awL s12))))))))))))))))
def P5:Hz:=Uu N (Qk N) (M9 N) (JU N) (Gd N) (M8 N) (aeZ N) (GJ N) (Tb N)
def jG (N:Nat) (azD:Hz) (x_0:Bool) (x_1:LI) (x_2:Bool) (x_3:LI) (y_0:Bool) (y_1:LI) (y_2:Bool) (y_3:LI) (k0:Kx6):Bool:=
 (azD x_0 x_1 x_2 x_3 y_0 y_1 y_2 y_3 false false (λcr nsr auN auo=>k0 cr nsr auN auo))
def gV:ba:=jG N (P5 N)
abbrev cW:=Int->Int->Int->Int->Bool->LI->Bool->LI->List RY1->(List RY1->Bool)->Bool
def ka (N:Nat) (g_0 g_1 i j:Int) (x_0:Bool) (x_1:LI) (x_2:Bool) (x_3:LI) (b:List RY1) (k0:List RY1->Bool):Bool:=
 (aj .i64 (i*g_1)&&(aj .i64 ((i*g_1)+j)&&(inR ((i*g_1)+j) b.length&&(decide ((Int.toNat ((i*g_1)+j))<b.length)&&k0 (b.set (Int.toNat ((i*g_1)+j)) ((x_0,x_1),(x_2,x_3)))))))
def ik:cW:=ka N
def dD (N:Nat) (at5:aJ) (aud:ba) (auf:ba) (aui:cW) (i_1 ayM t10 g g_2:Int) (x:Bool) (x_4:LI) (x_5:Bool) (x_6:LI) (e0:List RY1->Bool):(Int × List RY1)->((Int × List RY1)->Bool)->Bool:=λv_ K=>match v_ with
 | (t11,b0)=>(cond (decide (t11<t10)) (at5 g g_2 i_1 t11 b0 (λcr nsr auN auo=>at5 g g_2 ayM t11 b0 (λavT auF awL auC=>aud avT auF awL auC x x_4 x_5 x_6 (λayV auv aAs auu=>auf cr nsr auN auo ayV auv aAs auu (λaA5 s6 aA6 s7=>aui g g_2 i_1 t11 aA5 s6 aA6 s7 b0 (λ(lr:List RY1)=>aj .i64 (t11+1)&&K ((t11+1),lr))))))) (e0 b0))
def j9 (at5:aJ) (aud:ba) (auf:ba) (aui:cW) (g_0 g_1 i k_:Int) (x_0:Bool) (x_1:LI) (x_2:Bool) (x_3:LI) (b:List RY1) (k0:List RY1->Bool):Bool:=
 (ah N (dD N at5 aud auf aui i k_ g_1 g_0 g_1 x_0 x_1 x_2 x_3 (λ(awU:List RY1)=>k0 awU)) (0,b))
def cB:cW:=j9 N (bw N) (gA N) (gV N) (ik N)
abbrev cH:=Int->Int->List RY1->(Int->List RY1->Bool)->Bool
section
variable (N:Nat) (at5:aJ) (at6:HG) (aug:ie) (aub:ba) (at7:ba) (auc:cW)
def aE (N:Nat) (at5:aJ) (at6:HG) (aug:ie) (aub:ba) (at7:ba) (auc:cW) (s_1 k_ aBC axJ g_3 g_4:Int) (p:Bool) (p_1:LI) (p_2:Bool) (p_3:LI) (e0:Int->List RY1->Bool) (e1:List RY1->Bool):(Int × List RY1)->((Int × List RY1)->Bool)->Bool:=λv_ K=>match v_ with
 | (i,awU)=>(cond (decide (i<g_3)) (at5 g_3 g_4 i k_ awU (λavT auF awL auC=>at6 avT auF awL auC (λaur=>cond (aur==0) (aj .i64 (i+1)&&K ((i+1),awU)) (at6 p p_1 p_2 p_3 (λaut=>cond (aut==0) (e0 1 awU) (aug 0 (λayV auv aAs auu=>aub avT auF awL auC p p_1 p_2 p_3 (λaA5 s6 aA6 s7=>at7 ayV auv aAs auu aA5 s6 aA6 s7 (λc8 s8 c9 s9=>auc g_3 g_4 i k_ c8 s8 c9 s9 awU (λ(lr:List RY1)=>aj .i64 (i+1)&&K ((i+1),lr))))))))))) (e1 awU))
def aO (t9 g g_2:Int) (e0:Int->List RY1->Bool) (e1:Int->List RY1->Bool):(Int × Int × List RY1)->((Int × Int × List RY1)->Bool)->Bool:=λv_ K=>match v_ with
 | (s,t10,b0)=>(cond (decide (t10<t9)) (at5 g g_2 t10 t10 b0 (λcr nsr auN auo=>at6 cr nsr auN auo (λnr=>cond (decide (nr<0)) (e0 1 b0) (aj .i64 (t10+1)&&ah N (aE N at5 at6 aug aub at7 auc s t10 t9 t10 g g_2 cr nsr auN auo (λ(t2:Int) (aFO:List RY1)=>e0 t2 aFO) (λ(aEc:List RY1)=>at6 cr nsr auN auo (λavw=>cond (avw==0) (aj .i64 (t10+1)&&K (2,(t10+1),aEc)) (aj .i64 (t10+1)&&K (s,(t10+1),aEc))))) ((t10+1),b0))))) (e1 s b0))
def iq (g_0 g_1:Int) (b:List RY1) (k0:Int->List RY1->Bool):Bool:=
 (ah N (aO N at5 at6 aug aub at7 auc g_0 g_0 g_1 (λ(axy:Int) (aFP:List RY1)=>k0 axy aFP) (λ(s_2:Int) (aFQ:List RY1)=>k0 s_2 aFQ)) (3,0,b))
end
def iv:cH:=iq N (bw N) (bD N) (gI N) (ce N) (bC N) (cB N)
def jD (N:Nat) (at8:aR) (auH:cz) (auM:cH) (g_0 g_1:Int) (b:List RY1) (k0:Int->List RY1->Bool):Bool:=
 (at8 (g_0==g_1) 3 (auH g_0 g_1 b (auM g_0 g_1 b (λ(nr:Int) (lr:List RY1)=>k0 nr lr))))
def gU:cH:=jD N (cG N) (d7 N) (iv N)
abbrev ix:=Int->Int->LF->(Ky3)->Bool
def kw (N:Nat) (auQ:fp) (auw:cH) (m_0 m_1:Int) (m_2:LF) (k0:Ky3):Bool:=
 (auQ m_0 m_1 m_2 (λ(lr:List RY1)=>auw m_0 m_1 lr (λ(nr:Int) (aFz:List RY1)=>k0 nr 0)))
def kJ:ix:=kw N (jW N) (gU N)
def om (N:Nat) (avp:ix) (p_0 p_1:Int) (p_2:LF) (k0:Kz0):Bool:=
 (avp p_0 p_1 p_2 (λnr aur=>cond ((aur==0)==true) (k0 (nr==3)) (k0 false)))
def f7:FB:=om N (kJ N)
abbrev jk:=LF->Int->Int->LF->(Kz1)->Bool
def tG (N:Nat) (avF:wh) (ay_:H_) (axe:FB) (auU:FB) (s_0:LF) (s_1 s_2:Int) (s_3:LF) (k0:Kz1):Bool:=
 (avF s_1 s_2 s_3 (λnr=>cond (nr != 0) (k0 nr) (cond ((s_1 != s_2)==false) (cond (((s_0.length:Nat):Int) != s_1) (k0 3) (ay_ s_0 (λcr=>cond (!cr) (k0 4) (axe s_1 s_2 s_3 (λauN=>cond (!auN) (k0 150) (auU s_1 s_2 s_3 (λavT=>cond (!avT) (k0 151) (k0 0)))))))) (k0 3))))
def kf:jk:=tG N (SZ N) (SY N) (aeU N) (f7 N)
def aan (N:Nat) (rows cols n:Int) (k0:Kz1):Bool:=
 (cond ((decide (rows<0))==false) (cond ((decide (rows>12))==false) (cond ((decide (cols<0))==false) (cond (decide (cols>12)) (k0 1) (aj .i64 (rows*cols)&&cond (n != (rows*cols)) (k0 3) (k0 0))) (k0 1)) (k0 1)) (k0 1))
def V5:Cc:=aan N
def aaj (N:Nat) (aw2:EM) (x:Fl) (k0:Kz1):Bool:=
 (cond (!feq x x) (k0 9221120237041090561) (aw2 x (λnr=>k0 nr)))
def Qc:EM:=aaj N (L6 N)
abbrev xk:=Fl->(Kx8)->Bool
def ZY (N:Nat) (axH:EM) (x:Fl) (k0:Kx8):Bool:=
 (axH x (λnr=>aj .i64 (Int.tmod (Int.fdiv nr (2 ^ 52)) 2048)&&k0 ((Int.fdiv nr (2 ^ 63))==1) (Int.tmod (Int.fdiv nr (2 ^ 52)) 2048) (Int.tmod nr 4503599627370496)))
def L5:xk:=ZY N (Qc N)
def Z_ (N:Nat) (exp frac most:Int) (k0:Kz1):Bool:=
 (cond ((exp==most)==true) (cond (frac != 0) (k0 1) (cond (exp==most) (k0 2) (cond ((exp==0)==true) (cond (frac==0) (k0 3) (cond (exp==0) (k0 4) (k0 5))) (cond (exp==0) (k0 4) (k0 5))))) (cond (exp==most) (k0 2) (cond ((exp==0)==true) (cond (frac==0) (k0 3) (cond (exp==0) (k0 4) (k0 5))) (cond (exp==0) (k0 4) (k0 5)))))
def aeJ:Cc:=Z_ N
def aam (N:Nat) (avO:xk) (azU:Cc) (x:Fl) (k0:Kz1):Bool:=
 (avO x (λcr nr aur=>azU nr aur 2047 (λaut=>k0 aut)))
def V4:EM:=aam N (L5 N) (aeJ N)
abbrev FA:=Fl->(Kz0)->Bool
def anq (N:Nat) (az1:EM) (x:Fl) (k0:Kz0):Bool:=
 (az1 x (λnr=>k0 (decide (nr>2))))
def aeL:FA:=anq N (V4 N)
def NA (N:Nat) (axq:FA) (t5:LF) (t6:Int) (e0:Kz0) (e1:Bool):(Int)->((Int)->Bool)->Bool:=λv_ K=>match v_ with
 | t7=>(cond (decide (t7<t6)) (inR t7 t5.length&&axq (t5.getD t7.toNat none) (λcr=>cond (!cr) (e0 false) (aj .i64 (t7+1)&&K (t7+1)))) e1)
def Zk (axq:FA) (l:LF) (k0:Kz0):Bool:=
 (ah N (NA N axq l ((l.length:Nat):Int) (λt2=>k0 t2) (k0 true)) 0)
def PZ:H_:=Zk N (aeL N)
def ZW (N:Nat) (az2:Cc) (axV:H_) (m_0 m_1:Int) (m_2:LF) (k0:Kz1):Bool:=
 (az2 m_0 m_1 ((m_2.length:Nat):Int) (λnr=>cond (nr != 0) (k0 nr) (axV m_2 (λcr=>cond (!cr) (k0 4) (k0 0)))))
def P9:wh:=ZW N (V5 N) (PZ N)
def UA (N:Nat) (avW:wh) (m_0 m_1:Int) (m_2:LF) (k0:Kz1):Bool:=
 (avW m_0 m_1 m_2 (λnr=>k0 nr))
def Qd:wh:=UA N (P9 N)
def anU (N:Nat) (m_0 m_1:Int) (m_2:LF) (i j:Int) (k0:Kz3):Bool:=
 (aj .i64 (i*m_1)&&(aj .i64 ((i*m_1)+j)&&(inR ((i*m_1)+j) m_2.length&&k0 (m_2.getD (Int.toNat ((i*m_1)+j)) none))))
def Te:EC:=anU N
def Z4 (N:Nat) (axH:EM) (a b:Fl) (k0:Kz0):Bool:=
 (axH a (λnr=>axH b (λaur=>k0 (nr==aur))))
def VV:EL:=Z4 N (Qc N)
section
variable (N:Nat) (avW:wh) (auP:EC) (awg:EL)
def NC (N:Nat) (avW:wh) (auP:EC) (awg:EL) (i_1 m_5 m_6:Int) (m_7:LF) (e0:Kz1) (e1:Bool):(Int)->((Int)->Bool)->Bool:=λv_ K=>match v_ with
 | j=>(cond (decide (j<i_1)) (auP m_5 m_6 m_7 i_1 j (λxr=>auP m_5 m_6 m_7 j i_1 (λayy=>awg xr ayy (λcr=>cond (!cr) (e0 91) (aj .i64 (j+1)&&K (j+1)))))) e1)
def NB (m m_3:Int) (m_4:LF) (e0:Kz1) (e1:Bool):(Int)->((Int)->Bool)->Bool:=λv_ K=>match v_ with
 | i=>(cond (decide (i<m)) (ah N (NC N avW auP awg i m m_3 m_4 (λt2=>e0 t2) (aj .i64 (i+1)&&K (i+1))) 0) e1)
def anN (m_0 m_1:Int) (m_2:LF) (k0:Kz1):Bool:=
 (avW m_0 m_1 m_2 (λnr=>cond (nr != 0) (k0 nr) (cond (m_0 != m_1) (k0 3) (ah N (NB N avW auP awg m_0 m_1 m_2 (λaxy=>k0 axy) (k0 0)) 0))))
end
def aeT:wh:=anN N (P9 N) (Te N) (VV N)
def aaq (N:Nat) (ax1:wh) (axV:H_) (av_:wh) (s_0:LF) (s_1 s_2:Int) (s_3:LF) (k0:Kz1):Bool:=
 (ax1 s_1 s_2 s_3 (λnr=>cond (nr != 0) (k0 nr) (cond ((s_1 != s_2)==false) (cond (((s_0.length:Nat):Int) != s_1) (k0 3) (axV s_0 (λcr=>cond (!cr) (k0 4) (av_ s_1 s_2 s_3 (λaur=>cond (aur != 0) (k0 150) (k0 0)))))) (k0 3))))
def aeP:jk:=aaq N (Qd N) (PZ N) (aeT N)
def pe (N:Nat) (e0:Ky3):(Int × Int)->((Int × Int)->Bool)->Bool:=λv_ K=>match v_ with
 | (m_1,e_1)=>(cond ((Int.tmod m_1 2)==0) (aj .i64 (e_1+1)&&K ((IntKind.wrap .u64 (Int.tdiv m_1 2)),(e_1+1))) (e0 m_1 e_1))
def UB (m e:Int) (k0:Ky3):Bool:=
 (cond (m==0) (k0 0 0) (ah N (pe N (λm_2 e_2=>k0 m_2 e_2)) (m,e)))
def JX:zg:=UB N
def Ob (N:Nat) (avO:xk) (awi:zg) (x:Fl) (neg:Bool) (e f:Int) (k0:Kx5):Bool:=
 (aj .i64 (e - 1074)&&awi f (e - 1074) (λaut avw=>k0 neg aut avw 0))
def K0 (avO:xk) (awi:zg) (x:Fl) (k0:Kx5):Bool:=
 (avO x (λcr nr aur=>cond (nr==2047) (k0 false 0 0 4) (cond (decide (nr>0)) (aj .i64 (nr - 1)&&Ob N avO awi x cr (nr - 1) (IntKind.wrap .u64 (aur+4503599627370496)) k0) (Ob N avO awi x cr nr aur k0))))
def V1:B9:=K0 N (L5 N) (JX N)
def C0 (N m_1:Nat) (m_3:LI) (e0:Kz2):(Nat)->((Nat)->Bool)->Bool:=λv_ K=>match v_ with
 | m_2=>(cond ((decide (((m_2:Nat):Int)>0))==true) (aj .i64 (((m_2:Nat):Int) - 1)&&(inR (((m_2:Nat):Int) - 1) m_2&&(decide ((m_1+(Int.toNat (((m_2:Nat):Int) - 1)))<m_3.length)&&cond ((m_3.getD (m_1+(Int.toNat (((m_2:Nat):Int) - 1))) 0)==0) (aj .i64 (((m_2:Nat):Int) - 1)&&(decide (0<=(((m_2:Nat):Int) - 1)/\(((m_2:Nat):Int) - 1)<=((m_2:Nat):Int))&&K ((Int.toNat (((m_2:Nat):Int) - 1)) - 0))) (e0 m_2)))) (e0 m_2))
def GQ8 (b:LI) (k0:Kz2):Bool:=
 (ah N (C0 N 0 b (λm_4=>k0 m_4)) b.length)
def sQ8:lP:=GQ8 N
def ZJ (N:Nat) (SQ8:lP) (n:Int) (k0:Kz5):Bool:=
 (SQ8 [(IntKind.wrap .u32 n),(IntKind.wrap .u32 (Int.fdiv n (2 ^ 32)))] (λmr=>decide ((0+mr)<=(List.length [(IntKind.wrap .u32 n),(IntKind.wrap .u32 (Int.fdiv n (2 ^ 32)))]))&&k0 (List.take mr (List.drop 0 [(IntKind.wrap .u32 n),(IntKind.wrap .u32 (Int.fdiv n (2 ^ 32)))]))))
def L4:sj:=ZJ N (sQ8 N)
def kR (N:Nat) (e0:Kz5):(LI)->((LI)->Bool)->Bool:=λv_ K=>match v_ with
 | m_1=>(cond ((decide (((m_1.length:Nat):Int)>0))==true) (aj .i64 (((m_1.length:Nat):Int) - 1)&&(inR (((m_1.length:Nat):Int) - 1) m_1.length&&cond ((m_1.getD (Int.toNat (((m_1.length:Nat):Int) - 1)) 0)==0) (aj .i64 (((m_1.length:Nat):Int) - 1)&&(decide (0<=(((m_1.length:Nat):Int) - 1)/\(((m_1.length:Nat):Int) - 1)<=((m_1.length:Nat):Int))&&K (List.drop 0 (List.take (Int.toNat (((m_1.length:Nat):Int) - 1)) m_1)))) (e0 m_1))) (e0 m_1))
def Z5 (m:LI) (k0:Kz5):Bool:=
 (ah N (kR N (λm_2=>k0 m_2)) m)
def Gf:mY:=Z5 N
abbrev pV:=Bool->LI->Bool->(Ky2)->Bool
def Zp (N:Nat) (awH:mY) (neg:Bool) (m:LI) (b:Bool) (k0:Ky2):Bool:=
 (awH m (λnsr=>cond (neg==true) (k0 (decide (((nsr.length:Nat):Int)>0)) nsr) (k0 false nsr)))
def JR:pV:=Zp N (Gf N)
def ZI (N:Nat) (avE:sj) (avq:pV) (n:Int) (b:Bool) (k0:Ky2):Bool:=
 (avE n (λnsr=>avq false nsr b (λcr auo=>k0 cr auo)))
def P6:Ie:=ZI N (L4 N) (JR N)
abbrev HJ:=Bool->Bool->LI->LI->(Kx9)->Bool
def aaa (N:Nat) (SQ8:lP) (neg b:Bool) (b_1 b_2:LI) (k0:Kx9):Bool:=
 (SQ8 b_2 (λmr=>cond (neg==true) (k0 (decide (((mr:Nat):Int)>0)) 0 mr) (k0 false 0 mr)))
def aeK:HJ:=aaa N (sQ8 N)
def Z6 (N:Nat) (azV:HJ) (b:Bool) (b_1:LI) (k0:Ky2):Bool:=
 (decide ((List.length ([]++b_1))*4<=140737488355328)&&azV (!b) b b_1 ([]++b_1) (λcr mr aww=>decide ((mr+aww)<=(List.length ([]++b_1)))&&k0 cr (List.take aww (List.drop mr ([]++b_1)))))
def VW:Im:=Z6 N (aeK N)
abbrev H7:=Fl->(Int->Bool->LI->Bool)->Bool
def aaz (N:Nat) (azZ:B9) (azE:Ie) (azR:Im) (x:Fl) (k0:Int->Bool->LI->Bool):Bool:=
 (azZ x (λcr nr aur aut=>azE nr false (λauN nsr=>cond cr (azR auN nsr (λavT auo=>k0 aur avT auo)) (k0 aur auN nsr))))
def Wc:H7:=aaz N (V1 N) (P6 N) (VW N)
def C2 (N:Nat) (SQ8:lP) (m_1:LI) (w s:Int) (e0:Kz5):(Int × LI)->((Int × LI)->Bool)->Bool:=λv_ K=>match v_ with
 | (i,out)=>(cond (decide (i<((m_1.length:Nat):Int))) (inR i m_1.length&&(decide (0<=s)&&(aj .i64 (w+i)&&(inR (w+i) out.length&&(decide ((Int.toNat (w+i))<out.length)&&(inR (w+i) out.length&&(decide ((Int.toNat (w+i))<out.length)&&(aj .i64 (w+i)&&(aj .i64 ((w+i)+1)&&(inR ((w+i)+1) (List.length (out.set (Int.toNat (w+i)) (aF .or .u32 (out.getD (Int.toNat (w+i)) 0) (IntKind.wrap .u32 (IntKind.wrap .u64 ((IntKind.wrap .u64 (m_1.getD i.toNat 0))*2 ^ (min s.toNat 64)))))))&&(decide ((Int.toNat ((w+i)+1))<(List.length (out.set (Int.toNat (w+i)) (aF .or .u32 (out.getD (Int.toNat (w+i)) 0) (IntKind.wrap .u32 (IntKind.wrap .u64 ((IntKind.wrap .u64 (m_1.getD i.toNat 0))*2 ^ (min s.toNat 64))))))))&&(aj .i64 (i+1)&&K ((i+1),(List.set (out.set (Int.toNat (w+i)) (aF .or .u32 (out.getD (Int.toNat (w+i)) 0) (IntKind.wrap .u32 (IntKind.wrap .u64 ((IntKind.wrap .u64 (m_1.getD i.toNat 0))*2 ^ (min s.toNat 64)))))) (Int.toNat ((w+i)+1)) (IntKind.wrap .u32 (Int.fdiv (IntKind.wrap .u64 ((IntKind.wrap .u64 (m_1.getD i.toNat 0))*2 ^ (min s.toNat 64))) (2 ^ 32))))))))))))))))) (e0 out))
def aas (SQ8:lP) (m:LI) (n:Int) (k0:Kz5):Bool:=
 (cond (((m.length:Nat):Int)==0) (k0 []) (aj .i64 (IntKind.wrap .u64 (Int.tdiv n 32))&&(aj .i64 ((IntKind.wrap .u64 (Int.tdiv n 32))+((m.length:Nat):Int))&&(aj .i64 (((IntKind.wrap .u64 (Int.tdiv n 32))+((m.length:Nat):Int))+1)&&(mB 4 (((IntKind.wrap .u64 (Int.tdiv n 32))+((m.length:Nat):Int))+1) (((IntKind.wrap .u64 (Int.tdiv n 32))+((m.length:Nat):Int))+1)&&ah N (C2 N SQ8 m (IntKind.wrap .u64 (Int.tdiv n 32)) (Int.tmod n 32) (λavh=>SQ8 avh (λmr=>decide ((0+mr)<=avh.length)&&k0 (List.take mr (List.drop 0 avh))))) (0,(List.replicate (Int.toNat (((IntKind.wrap .u64 (Int.tdiv n 32))+((m.length:Nat):Int))+1)) (0:Int))))))))
def V9:HY:=aas N (sQ8 N)
def ZG (N:Nat) (az6:HY) (avq:pV) (n:Int) (b b_1:Bool) (b_2:LI) (k0:Ky2):Bool:=
 (az6 b_2 n (λnsr=>avq b_1 nsr b (λcr auo=>k0 cr auo)))
def P4:Ii:=ZG N (V9 N) (JR N)
abbrev Hh:=Int->Int->Bool->LI->(Bool)->(Ky2)->Bool
def Zw (N:Nat) (axX:Ii) (x e:Int) (b:Bool) (b_1:LI) (k0:Bool) (k1:Ky2):Bool:=
 (cond (decide (e>=x)) k0 (aj .i64 (x - e)&&axX (IntKind.wrap .u64 (x - e)) false b b_1 (λcr nsr=>k1 cr nsr)))
def VE:Hh:=Zw N (P4 N)
abbrev lT:=(Kz5)->Bool
def N3 (N:Nat) (k0:Kz5):Bool:=
 (k0 [1])
def rh:lT:=N3 N
abbrev BT:=Bool->LI->Bool->Bool->(Bool->LI->LI->Bool)->Bool
def Ut (N:Nat) (awH:mY) (neg:Bool) (m:LI) (b b_1:Bool) (k0:Bool->LI->LI->Bool):Bool:=
 (awH m (λnsr=>cond (neg==true) (k0 (decide (((nsr.length:Nat):Int)>0)) nsr []) (k0 false nsr [])))
def Gc:BT:=Ut N (Gf N)
abbrev zh:=Bool->LI->Bool->LI->Bool->LI->(Ky2)->Bool
def WK (N:Nat) (awH:mY) (neg:Bool) (m:LI) (b:Bool) (b_1:LI) (b_2:Bool) (b_3:LI) (k0:Ky2):Bool:=
 (awH m (λnsr=>cond (neg==true) (k0 (decide (((nsr.length:Nat):Int)>0)) nsr) (k0 false nsr)))
def Fo:zh:=WK N (Gf N)
def aaC (N:Nat) (x:Int) (k0:Kz1):Bool:=
 (cond (x==0) (k0 32) (inR (Int.fdiv (IntKind.wrap .u32 ((aF .and .u32 x (IntKind.wrap .u32 (0 - x)))*125613361)) (2 ^ 27)) 32&&(aj .i64 (Gk.getD (Int.toNat (Int.fdiv (IntKind.wrap .u32 ((aF .and .u32 x (IntKind.wrap .u32 (0 - x)))*125613361)) (2 ^ 27))) 0)&&k0 (Gk.getD (Int.toNat (Int.fdiv (IntKind.wrap .u32 ((aF .and .u32 x (IntKind.wrap .u32 (0 - x)))*125613361)) (2 ^ 27))) 0))))
def ajF:Ib:=aaC N
abbrev y_:=Bool->LI->(Kz1)->Bool
def Nw (N:Nat) (ax_:Ib) (z:Bool) (z_1:LI) (e0:Kz1) (e1:Bool):(Int)->((Int)->Bool)->Bool:=λv_ K=>match v_ with
 | i=>(cond (decide (i<((z_1.length:Nat):Int))) (inR i z_1.length&&cond ((z_1.getD i.toNat 0) != 0) (aj .i64 (32*i)&&(inR i z_1.length&&ax_ (z_1.getD i.toNat 0) (λnr=>aj .i64 ((32*i)+nr)&&e0 (IntKind.wrap .u64 ((32*i)+nr))))) (aj .i64 (i+1)&&K (i+1))) e1)
def anl (ax_:Ib) (b:Bool) (b_1:LI) (k0:Kz1):Bool:=
 (ah N (Nw N ax_ b b_1 (λt2=>k0 t2) (k0 0)) 0)
def D7:y_:=anl N (ajF N)
def NJ (N:Nat) (SQ8:lP) (m_1:LI) (w s:Int) (e0:Kz5):(Int × LI)->((Int × LI)->Bool)->Bool:=λv_ K=>match v_ with
 | (i,out)=>(cond (decide (i<((out.length:Nat):Int))) (aj .i64 (w+i)&&(inR (w+i) m_1.length&&(aj .i64 (w+i)&&(aj .i64 ((w+i)+1)&&cond (decide (((w+i)+1)<((m_1.length:Nat):Int))) (aj .i64 (w+i)&&(aj .i64 ((w+i)+1)&&(inR ((w+i)+1) m_1.length&&(decide (0<=s)&&(inR i out.length&&(decide (i.toNat<out.length)&&(aj .i64 (i+1)&&K ((i+1),(out.set i.toNat (IntKind.wrap .u32 (Int.fdiv (aF .or .u64 (IntKind.wrap .u64 (m_1.getD (Int.toNat (w+i)) 0)) (IntKind.wrap .u64 ((IntKind.wrap .u64 (m_1.getD (Int.toNat ((w+i)+1)) 0))*2 ^ 32))) (2 ^ (min s.toNat 64))))))))))))) (decide (0<=s)&&(inR i out.length&&(decide (i.toNat<out.length)&&(aj .i64 (i+1)&&K ((i+1),(out.set i.toNat (IntKind.wrap .u32 (Int.fdiv (IntKind.wrap .u64 (m_1.getD (Int.toNat (w+i)) 0)) (2 ^ (min s.toNat 64)))))))))))))) (e0 out))
def an3 (SQ8:lP) (m:LI) (n:Int) (k0:Kz5):Bool:=
 (aj .i64 (IntKind.wrap .u64 (Int.tdiv n 32))&&cond (decide ((IntKind.wrap .u64 (Int.tdiv n 32))>=((m.length:Nat):Int))) (k0 []) (aj .i64 (((m.length:Nat):Int) - (IntKind.wrap .u64 (Int.tdiv n 32)))&&(mB 4 (((m.length:Nat):Int) - (IntKind.wrap .u64 (Int.tdiv n 32))) (((m.length:Nat):Int) - (IntKind.wrap .u64 (Int.tdiv n 32)))&&ah N (NJ N SQ8 m (IntKind.wrap .u64 (Int.tdiv n 32)) (Int.tmod n 32) (λavh=>SQ8 avh (λmr=>decide ((0+mr)<=avh.length)&&k0 (List.take mr (List.drop 0 avh))))) (0,(List.replicate (Int.toNat (((m.length:Nat):Int) - (IntKind.wrap .u64 (Int.tdiv n 32)))) (0:Int))))))
def CR:HY:=an3 N (sQ8 N)
def ZS (N:Nat) (x:Int) (k0:Kz1):Bool:=
 (cond (decide (x>=65536)) (cond (decide ((Int.fdiv x (2 ^ 16))>=256)) (inR (IntKind.wrap .u8 (Int.fdiv (Int.fdiv x (2 ^ 16)) (2 ^ 8))) 256&&(aj .i64 (aD.getD (Int.toNat (IntKind.wrap .u8 (Int.fdiv (Int.fdiv x (2 ^ 16)) (2 ^ 8)))) 0)&&(aj .i64 (24+(aD.getD (Int.toNat (IntKind.wrap .u8 (Int.fdiv (Int.fdiv x (2 ^ 16)) (2 ^ 8)))) 0))&&k0 (24+(aD.getD (Int.toNat (IntKind.wrap .u8 (Int.fdiv (Int.fdiv x (2 ^ 16)) (2 ^ 8)))) 0))))) (inR (IntKind.wrap .u8 (Int.fdiv x (2 ^ 16))) 256&&(aj .i64 (aD.getD (Int.toNat (IntKind.wrap .u8 (Int.fdiv x (2 ^ 16)))) 0)&&(aj .i64 (16+(aD.getD (Int.toNat (IntKind.wrap .u8 (Int.fdiv x (2 ^ 16)))) 0))&&k0 (16+(aD.getD (Int.toNat (IntKind.wrap .u8 (Int.fdiv x (2 ^ 16)))) 0)))))) (cond (decide (x>=256)) (inR (IntKind.wrap .u8 (Int.fdiv x (2 ^ 8))) 256&&(aj .i64 (aD.getD (Int.toNat (IntKind.wrap .u8 (Int.fdiv x (2 ^ 8)))) 0)&&(aj .i64 (8+(aD.getD (Int.toNat (IntKind.wrap .u8 (Int.fdiv x (2 ^ 8)))) 0))&&k0 (8+(aD.getD (Int.toNat (IntKind.wrap .u8 (Int.fdiv x (2 ^ 8)))) 0))))) (inR (IntKind.wrap .u8 x) 256&&(aj .i64 (aD.getD (Int.toNat (IntKind.wrap .u8 x)) 0)&&(aj .i64 (0+(aD.getD (Int.toNat (IntKind.wrap .u8 x)) 0))&&k0 (0+(aD.getD (Int.toNat (IntKind.wrap .u8 x)) 0)))))))
def P7:Ib:=ZS N
def anu (N:Nat) (axY:Ib) (b:Bool) (b_1:LI) (k0:Kz1):Bool:=
 (cond (((b_1.length:Nat):Int)==0) (k0 0) (aj .i64 (((b_1.length:Nat):Int) - 1)&&(aj .i64 (32*(((b_1.length:Nat):Int) - 1))&&(aj .i64 (((b_1.length:Nat):Int) - 1)&&(inR (((b_1.length:Nat):Int) - 1) b_1.length&&axY (b_1.getD (Int.toNat (((b_1.length:Nat):Int) - 1)) 0) (λnr=>aj .i64 ((32*(((b_1.length:Nat):Int) - 1))+nr)&&k0 ((32*(((b_1.length:Nat):Int) - 1))+nr)))))))
def Be:y_:=anu N (P7 N)
def CW (N:Nat) (a_1 b_1:LI) (e0:Kz1) (e1:Bool):(Int)->((Int)->Bool)->Bool:=λv_ K=>match v_ with
 | i=>(cond (decide (i>=0)) (inR i a_1.length&&(inR i b_1.length&&cond (decide ((a_1.getD i.toNat 0)<(b_1.getD i.toNat 0))) (e0 (-1)) (inR i a_1.length&&(inR i b_1.length&&cond (decide ((a_1.getD i.toNat 0)>(b_1.getD i.toNat 0))) (e0 1) (aj .i64 (i - 1)&&K (i - 1)))))) e1)
def ank (a b:LI) (k0:Kz1):Bool:=
 (cond (((a.length:Nat):Int) != ((b.length:Nat):Int)) (cond (decide (((a.length:Nat):Int)<((b.length:Nat):Int))) (k0 (-1)) (k0 1)) (aj .i64 (((a.length:Nat):Int) - 1)&&ah N (CW N a b (λt4=>k0 t4) (k0 0)) (((a.length:Nat):Int) - 1)))
def w7:pK:=ank N
def qH (N:Nat) (auY:HY) (x:LI) (e0:Kz1):(Int × Int)->((Int × Int)->Bool)->Bool:=λv_ K=>match v_ with
 | (u,i)=>(cond (decide (i>=0)) (inR i x.length&&(aj .i64 (i - 1)&&K ((aF .or .u64 (IntKind.wrap .u64 (u*2 ^ 32)) (IntKind.wrap .u64 (x.getD i.toNat 0))),(i - 1)))) (e0 u))
def ZV (auY:HY) (m:LI) (at_:Int) (k0:Kz1):Bool:=
 (auY m (IntKind.wrap .u64 at_) (λnsr=>aj .i64 (((nsr.length:Nat):Int) - 1)&&ah N (qH N auY nsr (λu_1=>k0 u_1)) (0,(((nsr.length:Nat):Int) - 1))))
def JT:pU:=ZV N (CR N)
abbrev BW:=Int->Int->(Kx7)->Bool
def qn (N:Nat) (e0:Kx7):(Int × Int × Int × Int × Int × Int)->((Int × Int × Int × Int × Int × Int)->Bool)->Bool:=λv_ K=>match v_ with
 | (a,b,c,d,p,q)=>(aj .i64 (q+c)&&cond (((q+c) != 0)==true) (aj .i64 (q+d)&&cond ((q+d) != 0) (aj .i64 (p+a)&&(aj .i64 (q+c)&&((!decide ((q+c)=0))&&(aj .i64 (Int.tdiv (p+a) (q+c))&&(aj .i64 (p+b)&&(aj .i64 (q+d)&&((!decide ((q+d)=0))&&(aj .i64 (Int.tdiv (p+b) (q+d))&&cond ((Int.tdiv (p+a) (q+c)) != (Int.tdiv (p+b) (q+d))) (e0 a b c d) (aj .i64 ((Int.tdiv (p+a) (q+c))*c)&&(aj .i64 (a - ((Int.tdiv (p+a) (q+c))*c))&&(aj .i64 ((Int.tdiv (p+a) (q+c))*d)&&(aj .i64 (b - ((Int.tdiv (p+a) (q+c))*d))&&cond ((decide ((a - ((Int.tdiv (p+a) (q+c))*c))>1073741824))==false) (cond ((decide ((a - ((Int.tdiv (p+a) (q+c))*c))<(-1073741824)))==false) (cond ((decide ((b - ((Int.tdiv (p+a) (q+c))*d))>1073741824))==false) (cond (decide ((b - ((Int.tdiv (p+a) (q+c))*d))<(-1073741824))) (e0 a b c d) (aj .i64 ((Int.tdiv (p+a) (q+c))*q)&&(aj .i64 (p - ((Int.tdiv (p+a) (q+c))*q))&&K (c,d,(a - ((Int.tdiv (p+a) (q+c))*c)),(b - ((Int.tdiv (p+a) (q+c))*d)),q,(p - ((Int.tdiv (p+a) (q+c))*q)))))) (e0 a b c d)) (e0 a b c d)) (e0 a b c d))))))))))))) (e0 a b c d)) (e0 a b c d))
def ZF (x y:Int) (k0:Kx7):Bool:=
 (aj .i64 x&&(aj .i64 y&&ah N (qn N (λa_1 b_1 c_1 d_1=>k0 a_1 b_1 c_1 d_1)) (1,0,0,1,x,y)))
def JS:BW:=ZF N
def pb (N:Nat) (SQ8:lP) (m_1:LI) (d_1:Int) (e0:Ky7):(Int × Int × LI)->((Int × Int × LI)->Bool)->Bool:=λv_ K=>match v_ with
 | (r,i,out)=>(cond (decide (i>=0)) (inR i m_1.length&&((!decide ((IntKind.wrap .u64 d_1)=0))&&(inR i out.length&&(decide (i.toNat<out.length)&&((!decide ((IntKind.wrap .u64 d_1)=0))&&(aj .i64 (i - 1)&&K ((Int.tmod (aF .or .u64 (IntKind.wrap .u64 (r*2 ^ 32)) (IntKind.wrap .u64 (m_1.getD i.toNat 0))) (IntKind.wrap .u64 d_1)),(i - 1),(out.set i.toNat (IntKind.wrap .u32 (IntKind.wrap .u64 (Int.tdiv (aF .or .u64 (IntKind.wrap .u64 (r*2 ^ 32)) (IntKind.wrap .u64 (m_1.getD i.toNat 0))) (IntKind.wrap .u64 d_1)))))))))))) (e0 r out))
def aoc (SQ8:lP) (m:LI) (d:Int) (k0:LI->Int->Bool):Bool:=
 (mB 4 ((m.length:Nat):Int) ((m.length:Nat):Int)&&(aj .i64 (((m.length:Nat):Int) - 1)&&ah N (pb N SQ8 m d (λr_1 avh=>SQ8 avh (λmr=>decide ((0+mr)<=avh.length)&&k0 (List.take mr (List.drop 0 avh)) (IntKind.wrap .u32 r_1)))) (0,(((m.length:Nat):Int) - 1),(List.replicate (Int.toNat ((m.length:Nat):Int)) (0:Int)))))
def Th:za:=aoc N (sQ8 N)
def ano (N:Nat) (axY:Ib) (x:Int) (k0:Kz1):Bool:=
 (axY x (λnr=>aj .i64 (32 - nr)&&k0 (32 - nr)))
def XW:Ib:=ano N (P7 N)
def uH (N:Nat) (SQ8:lP) (m_1:LI) (w s:Int) (e0:Kz5):(Int × LI)->((Int × LI)->Bool)->Bool:=λv_ K=>match v_ with
 | (i,out)=>(cond (decide (i<((m_1.length:Nat):Int))) (inR i m_1.length&&(decide (0<=s)&&(aj .i64 (w+i)&&(inR (w+i) out.length&&(decide ((Int.toNat (w+i))<out.length)&&(inR (w+i) out.length&&(decide ((Int.toNat (w+i))<out.length)&&(aj .i64 (w+i)&&(aj .i64 ((w+i)+1)&&(inR ((w+i)+1) (List.length (out.set (Int.toNat (w+i)) (aF .or .u32 (out.getD (Int.toNat (w+i)) 0) (IntKind.wrap .u32 (IntKind.wrap .u64 ((IntKind.wrap .u64 (m_1.getD i.toNat 0))*2 ^ (min s.toNat 64)))))))&&(decide ((Int.toNat ((w+i)+1))<(List.length (out.set (Int.toNat (w+i)) (aF .or .u32 (out.getD (Int.toNat (w+i)) 0) (IntKind.wrap .u32 (IntKind.wrap .u64 ((IntKind.wrap .u64 (m_1.getD i.toNat 0))*2 ^ (min s.toNat 64))))))))&&(aj .i64 (i+1)&&K ((i+1),(List.set (out.set (Int.toNat (w+i)) (aF .or .u32 (out.getD (Int.toNat (w+i)) 0) (IntKind.wrap .u32 (IntKind.wrap .u64 ((IntKind.wrap .u64 (m_1.getD i.toNat 0))*2 ^ (min s.toNat 64)))))) (Int.toNat ((w+i)+1)) (IntKind.wrap .u32 (Int.fdiv (IntKind.wrap .u64 ((IntKind.wrap .u64 (m_1.getD i.toNat 0))*2 ^ (min s.toNat 64))) (2 ^ 32))))))))))))))))) (e0 out))
def anD (SQ8:lP) (m:LI) (n:Int) (k0:Bool) (k1:Ky8):Bool:=
 (cond (((m.length:Nat):Int)==0) k0 (aj .i64 (IntKind.wrap .u64 (Int.tdiv n 32))&&(aj .i64 ((IntKind.wrap .u64 (Int.tdiv n 32))+((m.length:Nat):Int))&&(aj .i64 (((IntKind.wrap .u64 (Int.tdiv n 32))+((m.length:Nat):Int))+1)&&(mB 4 (((IntKind.wrap .u64 (Int.tdiv n 32))+((m.length:Nat):Int))+1) (((IntKind.wrap .u64 (Int.tdiv n 32))+((m.length:Nat):Int))+1)&&ah N (uH N SQ8 m (IntKind.wrap .u64 (Int.tdiv n 32)) (Int.tmod n 32) (λavh=>SQ8 avh (λmr=>k1 mr avh))) (0,(List.replicate (Int.toNat (((IntKind.wrap .u64 (Int.tdiv n 32))+((m.length:Nat):Int))+1)) (0:Int))))))))
def XX:FC:=anD N (sQ8 N)
abbrev De:=Nat->Nat->Nat->Nat->Int->Int->LI->LI->(Ky2)->Bool
def NF (N u u_2 d d_2:Nat) (j_1 g_1:Int) (d_3:LI) (e0:Int->Int->LI->Bool):(Int × Int × Int × LI)->((Int × Int × Int × LI)->Bool)->Bool:=λv_ K=>match v_ with
 | (carry,borrow,i,u_3)=>(cond (decide (i<((d_2:Nat):Int))) (inR i d_2&&(decide ((d+i.toNat)<d_3.length)&&(aj .i64 (j_1+i)&&(inR (j_1+i) u_2&&(decide ((u+(Int.toNat (j_1+i)))<u_3.length)&&cond (decide ((IntKind.wrap .u64 (u_3.getD (u+(Int.toNat (j_1+i))) 0))<(IntKind.wrap .u64 ((aF .and .u64 (IntKind.wrap .u64 ((IntKind.wrap .u64 (g_1*(IntKind.wrap .u64 (d_3.getD (d+i.toNat) 0))))+carry)) 4294967295)+borrow)))) (aj .i64 (j_1+i)&&(inR (j_1+i) u_2&&(decide ((u+(Int.toNat (j_1+i)))<u_3.length)&&(aj .i64 (i+1)&&K ((Int.fdiv (IntKind.wrap .u64 ((IntKind.wrap .u64 (g_1*(IntKind.wrap .u64 (d_3.getD (d+i.toNat) 0))))+carry)) (2 ^ 32)),1,(i+1),(u_3.set (u+(Int.toNat (j_1+i))) (IntKind.wrap .u32 (IntKind.wrap .u64 ((IntKind.wrap .u64 ((IntKind.wrap .u64 (u_3.getD (u+(Int.toNat (j_1+i))) 0))+4294967296)) - (IntKind.wrap .u64 ((aF .and .u64 (IntKind.wrap .u64 ((IntKind.wrap .u64 (g_1*(IntKind.wrap .u64 (d_3.getD (d+i.toNat) 0))))+carry)) 4294967295)+borrow))))))))))) (aj .i64 (j_1+i)&&(inR (j_1+i) u_2&&(decide ((u+(Int.toNat (j_1+i)))<u_3.length)&&(aj .i64 (i+1)&&K ((Int.fdiv (IntKind.wrap .u64 ((IntKind.wrap .u64 (g_1*(IntKind.wrap .u64 (d_3.getD (d+i.toNat) 0))))+carry)) (2 ^ 32)),0,(i+1),(u_3.set (u+(Int.toNat (j_1+i))) (IntKind.wrap .u32 (IntKind.wrap .u64 ((IntKind.wrap .u64 (u_3.getD (u+(Int.toNat (j_1+i))) 0)) - (IntKind.wrap .u64 ((aF .and .u64 (IntKind.wrap .u64 ((IntKind.wrap .u64 (g_1*(IntKind.wrap .u64 (d_3.getD (d+i.toNat) 0))))+carry)) 4294967295)+borrow)))))))))))))))) (e0 carry borrow u_3))
def anH (N u_0 u_1 d_0 d_1:Nat) (j g:Int) (b b_1:LI) (k0:Ky2):Bool:=
 (ah N (NF N u_0 u_1 d_0 d_1 j g b_1 (λavX ax4 u_4=>aj .i64 (j+((d_1:Nat):Int))&&(inR (j+((d_1:Nat):Int)) u_1&&(decide ((u_0+(Int.toNat (j+((d_1:Nat):Int))))<u_4.length)&&(aj .i64 (j+((d_1:Nat):Int))&&(inR (j+((d_1:Nat):Int)) u_1&&(decide ((u_0+(Int.toNat (j+((d_1:Nat):Int))))<u_4.length)&&k0 (decide ((IntKind.wrap .u64 (u_4.getD (u_0+(Int.toNat (j+((d_1:Nat):Int)))) 0))<(IntKind.wrap .u64 (avX+ax4)))) (u_4.set (u_0+(Int.toNat (j+((d_1:Nat):Int)))) (IntKind.wrap .u32 (IntKind.wrap .u64 ((IntKind.wrap .u64 (u_4.getD (u_0+(Int.toNat (j+((d_1:Nat):Int)))) 0)) - (IntKind.wrap .u64 (avX+ax4))))))))))))) (0,0,0,b))
def XY:De:=anH N
abbrev Df:=Nat->Nat->Nat->Nat->Int->LI->LI->(Kz5)->Bool
def NG (N u u_2 d d_2:Nat) (j_1:Int) (d_3:LI) (e0:Ky7):(Int × Int × LI)->((Int × Int × LI)->Bool)->Bool:=λv_ K=>match v_ with
 | (carry,i,u_3)=>(cond (decide (i<((d_2:Nat):Int))) (aj .i64 (j_1+i)&&(inR (j_1+i) u_2&&(decide ((u+(Int.toNat (j_1+i)))<u_3.length)&&(inR i d_2&&(decide ((d+i.toNat)<d_3.length)&&(aj .i64 (j_1+i)&&(inR (j_1+i) u_2&&(decide ((u+(Int.toNat (j_1+i)))<u_3.length)&&(aj .i64 (i+1)&&K ((Int.fdiv (IntKind.wrap .u64 ((IntKind.wrap .u64 ((IntKind.wrap .u64 (u_3.getD (u+(Int.toNat (j_1+i))) 0))+(IntKind.wrap .u64 (d_3.getD (d+i.toNat) 0))))+carry)) (2 ^ 32)),(i+1),(u_3.set (u+(Int.toNat (j_1+i))) (IntKind.wrap .u32 (IntKind.wrap .u64 ((IntKind.wrap .u64 ((IntKind.wrap .u64 (u_3.getD (u+(Int.toNat (j_1+i))) 0))+(IntKind.wrap .u64 (d_3.getD (d+i.toNat) 0))))+carry)))))))))))))) (e0 carry u_3))
def anI (N u_0 u_1 d_0 d_1:Nat) (j:Int) (b b_1:LI) (k0:Kz5):Bool:=
 (ah N (NG N u_0 u_1 d_0 d_1 j b_1 (λavX u_4=>aj .i64 (j+((d_1:Nat):Int))&&(inR (j+((d_1:Nat):Int)) u_1&&(decide ((u_0+(Int.toNat (j+((d_1:Nat):Int))))<u_4.length)&&(inR (j+((d_1:Nat):Int)) u_1&&(decide ((u_0+(Int.toNat (j+((d_1:Nat):Int))))<u_4.length)&&k0 (u_4.set (u_0+(Int.toNat (j+((d_1:Nat):Int)))) (IntKind.wrap .u32 ((u_4.getD (u_0+(Int.toNat (j+((d_1:Nat):Int)))) 0)+(IntKind.wrap .u32 avX)))))))))) (0,0,b))
def XZ:Df:=anI N
def CZ (N m:Nat) (m_3:LI) (e0:Kz2):(Nat)->((Nat)->Bool)->Bool:=λv_ K=>match v_ with
 | m_2=>(cond ((decide (((m_2:Nat):Int)>0))==true) (aj .i64 (((m_2:Nat):Int) - 1)&&(inR (((m_2:Nat):Int) - 1) m_2&&(decide ((m+(Int.toNat (((m_2:Nat):Int) - 1)))<m_3.length)&&cond ((m_3.getD (m+(Int.toNat (((m_2:Nat):Int) - 1))) 0)==0) (aj .i64 (((m_2:Nat):Int) - 1)&&(decide (0<=(((m_2:Nat):Int) - 1)/\(((m_2:Nat):Int) - 1)<=((m_2:Nat):Int))&&K ((Int.toNat (((m_2:Nat):Int) - 1)) - 0))) (e0 m_2)))) (e0 m_2))
def aoe (N m_0 m_1:Nat) (b:LI) (k0:Kz2):Bool:=
 (ah N (CZ N m_0 b (λm_4=>k0 m_4)) m_1)
def X3:yZ:=aoe N
abbrev Dh:=Nat->Nat->Int->LI->(Kz5)->Bool
def mN (N:Nat) (SQ8:lP) (m m_2:Nat) (w s:Int) (m_3:LI) (e0:Kz5):(Int × LI)->((Int × LI)->Bool)->Bool:=λv_ K=>match v_ with
 | (i,out)=>(cond (decide (i<((out.length:Nat):Int))) (aj .i64 (w+i)&&(inR (w+i) m_2&&(decide ((m+(Int.toNat (w+i)))<m_3.length)&&(aj .i64 (w+i)&&(aj .i64 ((w+i)+1)&&cond (decide (((w+i)+1)<((m_2:Nat):Int))) (aj .i64 (w+i)&&(aj .i64 ((w+i)+1)&&(inR ((w+i)+1) m_2&&(decide ((m+(Int.toNat ((w+i)+1)))<m_3.length)&&(decide (0<=s)&&(inR i out.length&&(decide (i.toNat<out.length)&&(aj .i64 (i+1)&&K ((i+1),(out.set i.toNat (IntKind.wrap .u32 (Int.fdiv (aF .or .u64 (IntKind.wrap .u64 (m_3.getD (m+(Int.toNat (w+i))) 0)) (IntKind.wrap .u64 ((IntKind.wrap .u64 (m_3.getD (m+(Int.toNat ((w+i)+1))) 0))*2 ^ 32))) (2 ^ (min s.toNat 64)))))))))))))) (decide (0<=s)&&(inR i out.length&&(decide (i.toNat<out.length)&&(aj .i64 (i+1)&&K ((i+1),(out.set i.toNat (IntKind.wrap .u32 (Int.fdiv (IntKind.wrap .u64 (m_3.getD (m+(Int.toNat (w+i))) 0)) (2 ^ (min s.toNat 64))))))))))))))) (e0 out))
def anQ (SQ8:lP) (m_0 m_1:Nat) (n:Int) (b:LI) (k0:Kz5):Bool:=
 (aj .i64 (IntKind.wrap .u64 (Int.tdiv n 32))&&cond (decide ((IntKind.wrap .u64 (Int.tdiv n 32))>=((m_1:Nat):Int))) (k0 []) (aj .i64 (((m_1:Nat):Int) - (IntKind.wrap .u64 (Int.tdiv n 32)))&&(mB 4 (((m_1:Nat):Int) - (IntKind.wrap .u64 (Int.tdiv n 32))) (((m_1:Nat):Int) - (IntKind.wrap .u64 (Int.tdiv n 32)))&&ah N (mN N SQ8 m_0 m_1 (IntKind.wrap .u64 (Int.tdiv n 32)) (Int.tmod n 32) b (λavh=>SQ8 avh (λmr=>decide ((0+mr)<=avh.length)&&k0 (List.take mr (List.drop 0 avh))))) (0,(List.replicate (Int.toNat (((m_1:Nat):Int) - (IntKind.wrap .u64 (Int.tdiv n 32)))) (0:Int))))))
def X0:Dh:=anQ N (sQ8 N)
section
variable (N:Nat) (aum:pK) (avf:za) (SQ8:lP) (avd:Ib) (avc:FC) (avj:De) (avk:Df) (avm:yZ) (avl:Dh)
def Kc (N:Nat) (aum:pK) (avf:za) (SQ8:lP) (avd:Ib) (avc:FC) (avj:De) (avk:Df) (avm:yZ) (avl:Dh) (a_1:LI) (s:Int) (e0:Ky8):(Nat × LI)->((Nat × LI)->Bool)->Bool:=λv_ K=>match v_ with
 | (u,u_1)=>(aj .i64 (((a_1.length:Nat):Int)+1)&&cond (decide (((u:Nat):Int)<(((a_1.length:Nat):Int)+1))) (decide ((0+u)<=u_1.length)&&(decide ((List.length ((List.take u (List.drop 0 u_1))++[0]))*4<=140737488355328)&&K ((List.length ((List.take u (List.drop 0 u_1))++[0])),((List.take u (List.drop 0 u_1))++[0])))) (e0 u u_1))
def v7 (N:Nat) (aum:pK) (avf:za) (SQ8:lP) (avd:Ib) (avc:FC) (avj:De) (avk:Df) (avm:yZ) (avl:Dh) (a_2:LI) (s_1:Int) (d:Nat) (d_1:LI) (e0:Ky8):(Nat × LI)->((Nat × LI)->Bool)->Bool:=λv_ K=>match v_ with
 | (u_6,u_7)=>(aj .i64 (((a_2.length:Nat):Int)+1)&&cond (decide (((u_6:Nat):Int)<(((a_2.length:Nat):Int)+1))) (decide ((0+u_6)<=u_7.length)&&(decide ((List.length ((List.take u_6 (List.drop 0 u_7))++[0]))*4<=140737488355328)&&K ((List.length ((List.take u_6 (List.drop 0 u_7))++[0])),((List.take u_6 (List.drop 0 u_7))++[0])))) (e0 u_6 u_7))
def v8 (N:Nat) (aum:pK) (avf:za) (SQ8:lP) (avd:Ib) (avc:FC) (avj:De) (avk:Df) (avm:yZ) (avl:Dh) (s_5:Int) (d_6 aCf:Nat) (n_1 ay7 j_1:Int) (d_7 aBT q_1:LI) (e0:Kz1):(Int × Int)->((Int × Int)->Bool)->Bool:=λv_ K=>match v_ with
 | (g,r)=>(cond ((decide (g>=4294967296))==false) (aj .i64 (n_1 - 2)&&(inR (n_1 - 2) d_6&&(decide ((0+(Int.toNat (n_1 - 2)))<d_7.length)&&(aj .i64 (j_1+n_1)&&(aj .i64 ((j_1+n_1) - 2)&&(inR ((j_1+n_1) - 2) aCf&&(decide ((0+(Int.toNat ((j_1+n_1) - 2)))<aBT.length)&&cond (decide ((IntKind.wrap .u64 (g*(IntKind.wrap .u64 (d_7.getD (0+(Int.toNat (n_1 - 2))) 0))))>(aF .or .u64 (IntKind.wrap .u64 (r*2 ^ 32)) (IntKind.wrap .u64 (aBT.getD (0+(Int.toNat ((j_1+n_1) - 2))) 0))))) (cond (decide ((IntKind.wrap .u64 (r+ay7))>=4294967296)) (e0 (IntKind.wrap .u64 (g - 1))) (K ((IntKind.wrap .u64 (g - 1)),(IntKind.wrap .u64 (r+ay7))))) (e0 g)))))))) (cond (decide ((IntKind.wrap .u64 (r+ay7))>=4294967296)) (e0 (IntKind.wrap .u64 (g - 1))) (K ((IntKind.wrap .u64 (g - 1)),(IntKind.wrap .u64 (r+ay7))))))
def nF (s_4:Int) (d_4 aAI:Nat) (n top:Int) (d_5:LI) (e0:Ky9):(Int × LI × LI)->((Int × LI × LI)->Bool)->Bool:=λv_ K=>match v_ with
 | (j,ay8,q)=>(cond (decide (j>=0)) (aj .i64 (j+n)&&(inR (j+n) aAI&&(decide ((0+(Int.toNat (j+n)))<ay8.length)&&(aj .i64 (j+n)&&(aj .i64 ((j+n) - 1)&&(inR ((j+n) - 1) aAI&&(decide ((0+(Int.toNat ((j+n) - 1)))<ay8.length)&&((!decide (top=0))&&((!decide (top=0))&&ah N (v8 N aum avf SQ8 avd avc avj avk avm avl s_4 d_4 aAI n top j d_5 ay8 q (λg_1=>avj 0 aAI 0 d_4 j g_1 ay8 d_5 (λcr auv=>cond cr (avk 0 aAI 0 d_4 j auv d_5 (λauu=>inR j q.length&&(decide (j.toNat<q.length)&&(aj .i64 (j - 1)&&K ((j - 1),auu,(q.set j.toNat (IntKind.wrap .u32 (IntKind.wrap .u64 (g_1 - 1))))))))) (inR j q.length&&(decide (j.toNat<q.length)&&(aj .i64 (j - 1)&&K ((j - 1),auv,(q.set j.toNat (IntKind.wrap .u32 g_1))))))))) ((IntKind.wrap .u64 (Int.tdiv (aF .or .u64 (IntKind.wrap .u64 ((IntKind.wrap .u64 (ay8.getD (0+(Int.toNat (j+n))) 0))*2 ^ 32)) (IntKind.wrap .u64 (ay8.getD (0+(Int.toNat ((j+n) - 1))) 0))) top)),(Int.tmod (aF .or .u64 (IntKind.wrap .u64 ((IntKind.wrap .u64 (ay8.getD (0+(Int.toNat (j+n))) 0))*2 ^ 32)) (IntKind.wrap .u64 (ay8.getD (0+(Int.toNat ((j+n) - 1))) 0))) top))))))))))) (e0 ay8 q))
def UF (a b:LI) (s_3:Int) (d_2 azp:Nat) (d_3 aCe:LI) (k0:Ky9):Bool:=
 (aj .i64 (((azp:Nat):Int) - ((d_2:Nat):Int))&&(mB 4 (((azp:Nat):Int) - ((d_2:Nat):Int)) (((azp:Nat):Int) - ((d_2:Nat):Int))&&(aj .i64 (((d_2:Nat):Int) - 1)&&(inR (((d_2:Nat):Int) - 1) d_2&&(decide ((0+(Int.toNat (((d_2:Nat):Int) - 1)))<d_3.length)&&(aj .i64 ((((List.length (List.replicate (Int.toNat (((azp:Nat):Int) - ((d_2:Nat):Int))) (0:Int))):Nat):Int) - 1)&&ah N (nF N aum avf SQ8 avd avc avj avk avm avl s_3 d_2 azp ((d_2:Nat):Int) (IntKind.wrap .u64 (d_3.getD (0+(Int.toNat (((d_2:Nat):Int) - 1))) 0)) d_3 (λaFH q_2=>SQ8 q_2 (λaC8=>decide (0<=((d_2:Nat):Int)/\((d_2:Nat):Int)<=((azp:Nat):Int))&&avm 0 ((Int.toNat ((d_2:Nat):Int)) - 0) aFH (λaGr=>avl 0 aGr s_3 aFH (λs6=>decide ((0+aC8)<=q_2.length)&&k0 (List.take aC8 (List.drop 0 q_2)) s6))))) (((((List.length (List.replicate (Int.toNat (((azp:Nat):Int) - ((d_2:Nat):Int))) (0:Int))):Nat):Int) - 1),aCe,(List.replicate (Int.toNat (((azp:Nat):Int) - ((d_2:Nat):Int))) (0:Int)))))))))
def aaG (N:Nat) (aum:pK) (avf:za) (SQ8:lP) (avd:Ib) (avc:FC) (avj:De) (avk:Df) (avm:yZ) (avl:Dh) (a b:LI) (s_2:Int) (aBD:Nat) (aDf:LI) (k0:Ky9):Bool:=
 (aj .i64 (((aBD:Nat):Int) - 0)&&(mB 4 (((aBD:Nat):Int) - 0) (((aBD:Nat):Int) - 0)&&false))
def N5 (a b:LI) (k0:Ky9):Bool:=
 (aum a b (λnr=>cond (decide (nr<0)) (decide ((List.length ([]++a))*4<=140737488355328)&&k0 [] ([]++a)) (cond (((b.length:Nat):Int)==1) (inR 0 b.length&&avf a (b.getD 0 0) (λnsr aur=>SQ8 [aur] (λmr=>decide ((0+mr)<=(List.length [aur]))&&k0 nsr (List.take mr (List.drop 0 [aur]))))) (aj .i64 (((b.length:Nat):Int) - 1)&&(inR (((b.length:Nat):Int) - 1) b.length&&avd (b.getD (Int.toNat (((b.length:Nat):Int) - 1)) 0) (λaut=>avc b (IntKind.wrap .u64 aut) (avc a (IntKind.wrap .u64 aut) (ah N (Kc N aum avf SQ8 avd avc avj avk avm avl a (IntKind.wrap .u64 aut) (λu_2 u_3=>aaG N aum avf SQ8 avd avc avj avk avm avl a b (IntKind.wrap .u64 aut) u_2 u_3 k0)) (0,[])) (λavJ auF=>ah N (Kc N aum avf SQ8 avd avc avj avk avm avl a (IntKind.wrap .u64 aut) (λu_4 u_5=>aaG N aum avf SQ8 avd avc avj avk avm avl a b (IntKind.wrap .u64 aut) u_4 u_5 k0)) (avJ,auF))) (λaww auo=>avc a (IntKind.wrap .u64 aut) (ah N (v7 N aum avf SQ8 avd avc avj avk avm avl a (IntKind.wrap .u64 aut) aww auo (λu_8 u_9=>UF N aum avf SQ8 avd avc avj avk avm avl a b (IntKind.wrap .u64 aut) aww u_8 auo u_9 k0)) (0,[])) (λaBm auC=>ah N (v7 N aum avf SQ8 avd avc avj avk avm avl a (IntKind.wrap .u64 aut) aww auo (λawR axR=>UF N aum avf SQ8 avd avc avj avk avm avl a b (IntKind.wrap .u64 aut) aww awR auo axR k0)) (aBm,auC)))))))))
end
def vY:tO:=N5 N (w7 N) (Th N) (sQ8 N) (XW N) (XX N) (XY N) (XZ N) (X3 N) (X0 N)
def pd (N:Nat) (SQ8:lP) (a_2 b_2:LI) (i_1:Int) (e0:Ky7):(Int × Int × LI)->((Int × Int × LI)->Bool)->Bool:=λv_ K=>match v_ with
 | (carry,k_,avh)=>(cond (decide (k_<((b_2.length:Nat):Int))) (inR i_1 a_2.length&&(inR k_ b_2.length&&(aj .i64 (i_1+k_)&&(inR (i_1+k_) avh.length&&(decide ((Int.toNat (i_1+k_))<avh.length)&&(aj .i64 (i_1+k_)&&(inR (i_1+k_) avh.length&&(decide ((Int.toNat (i_1+k_))<avh.length)&&(aj .i64 (k_+1)&&K ((Int.fdiv (IntKind.wrap .u64 ((IntKind.wrap .u64 ((IntKind.wrap .u64 ((IntKind.wrap .u64 (a_2.getD i_1.toNat 0))*(IntKind.wrap .u64 (b_2.getD k_.toNat 0))))+(IntKind.wrap .u64 (avh.getD (Int.toNat (i_1+k_)) 0))))+carry)) (2 ^ 32)),(k_+1),(avh.set (Int.toNat (i_1+k_)) (IntKind.wrap .u32 (IntKind.wrap .u64 ((IntKind.wrap .u64 ((IntKind.wrap .u64 ((IntKind.wrap .u64 (a_2.getD i_1.toNat 0))*(IntKind.wrap .u64 (b_2.getD k_.toNat 0))))+(IntKind.wrap .u64 (avh.getD (Int.toNat (i_1+k_)) 0))))+carry)))))))))))))) (e0 carry avh))
def pc (SQ8:lP) (a_1 b_1:LI) (e0:Kz5):(Int × LI)->((Int × LI)->Bool)->Bool:=λv_ K=>match v_ with
 | (i,out)=>(cond (decide (i<((a_1.length:Nat):Int))) (ah N (pd N SQ8 a_1 b_1 i (λavX axx=>aj .i64 (i+((b_1.length:Nat):Int))&&(inR (i+((b_1.length:Nat):Int)) axx.length&&(decide ((Int.toNat (i+((b_1.length:Nat):Int)))<axx.length)&&(aj .i64 (i+1)&&K ((i+1),(axx.set (Int.toNat (i+((b_1.length:Nat):Int))) (IntKind.wrap .u32 avX)))))))) (0,0,out)) (e0 out))
def Zt (SQ8:lP) (a b:LI) (k0:Kz5):Bool:=
 (aj .i64 (((a.length:Nat):Int)+((b.length:Nat):Int))&&(mB 4 (((a.length:Nat):Int)+((b.length:Nat):Int)) (((a.length:Nat):Int)+((b.length:Nat):Int))&&ah N (pc N SQ8 a b (λay3=>SQ8 ay3 (λmr=>decide ((0+mr)<=ay3.length)&&k0 (List.take mr (List.drop 0 ay3))))) (0,(List.replicate (Int.toNat (((a.length:Nat):Int)+((b.length:Nat):Int))) (0:Int)))))
def D6:B8:=Zt N (sQ8 N)
def pa (N:Nat) (SQ8:lP) (a_1 b_1:LI) (e0:Kz5):(Int × Int × LI)->((Int × Int × LI)->Bool)->Bool:=λv_ K=>match v_ with
 | (borrow,i,out)=>(cond (decide (i<((a_1.length:Nat):Int))) (cond (decide (i<((b_1.length:Nat):Int))) (inR i b_1.length&&(inR i a_1.length&&cond (decide ((IntKind.wrap .u64 (a_1.getD i.toNat 0))<(IntKind.wrap .u64 (borrow+(IntKind.wrap .u64 (b_1.getD i.toNat 0)))))) (inR i out.length&&(decide (i.toNat<out.length)&&(aj .i64 (i+1)&&K (1,(i+1),(out.set i.toNat (IntKind.wrap .u32 (IntKind.wrap .u64 ((IntKind.wrap .u64 ((IntKind.wrap .u64 (a_1.getD i.toNat 0))+4294967296)) - (IntKind.wrap .u64 (borrow+(IntKind.wrap .u64 (b_1.getD i.toNat 0)))))))))))) (inR i out.length&&(decide (i.toNat<out.length)&&(aj .i64 (i+1)&&K (0,(i+1),(out.set i.toNat (IntKind.wrap .u32 (IntKind.wrap .u64 ((IntKind.wrap .u64 (a_1.getD i.toNat 0)) - (IntKind.wrap .u64 (borrow+(IntKind.wrap .u64 (b_1.getD i.toNat 0)))))))))))))) (inR i a_1.length&&cond (decide ((IntKind.wrap .u64 (a_1.getD i.toNat 0))<borrow)) (inR i out.length&&(decide (i.toNat<out.length)&&(aj .i64 (i+1)&&K (1,(i+1),(out.set i.toNat (IntKind.wrap .u32 (IntKind.wrap .u64 ((IntKind.wrap .u64 ((IntKind.wrap .u64 (a_1.getD i.toNat 0))+4294967296)) - borrow)))))))) (inR i out.length&&(decide (i.toNat<out.length)&&(aj .i64 (i+1)&&K (0,(i+1),(out.set i.toNat (IntKind.wrap .u32 (IntKind.wrap .u64 ((IntKind.wrap .u64 (a_1.getD i.toNat 0)) - borrow)))))))))) (e0 out))
def Z9 (SQ8:lP) (a b:LI) (k0:Kz5):Bool:=
 (mB 4 ((a.length:Nat):Int) ((a.length:Nat):Int)&&ah N (pa N SQ8 a b (λavh=>SQ8 avh (λmr=>decide ((0+mr)<=avh.length)&&k0 (List.take mr (List.drop 0 avh))))) (0,0,(List.replicate (Int.toNat ((a.length:Nat):Int)) (0:Int))))
def P_:B8:=Z9 N (sQ8 N)
abbrev HN:=LI->Int->LI->Int->(Kz5)->Bool
def aai (N:Nat) (avE:sj) (av5:B8) (axG:B8) (a:LI) (u:Int) (b:LI) (v:Int) (k0:Kz5):Bool:=
 (avE u (λnsr=>av5 a nsr (λauo=>avE v (λauF=>av5 b auF (λauC=>axG auo auC (λauv=>k0 auv))))))
def V0:HN:=aai N (L4 N) (D6 N) (P_ N)
def Ux (N:Nat) (ayU:HN) (a:LI) (u:Int) (b:LI) (v:Int) (k0:Kz5):Bool:=
 (cond (decide (v<=0)) (aj .i64 (0 - v)&&ayU a (IntKind.wrap .u64 u) b (IntKind.wrap .u64 (0 - v)) (λnsr=>k0 nsr)) (aj .i64 (0 - u)&&ayU b (IntKind.wrap .u64 v) a (IntKind.wrap .u64 (0 - u)) (λauo=>k0 auo)))
def D_:HN:=Ux N (V0 N)
section
variable (N:Nat) (aum:pK) (auK:y_) (avr:pU) (avu:BW) (auG:tO) (avs:HN)
def Kb (N:Nat) (aum:pK) (auK:y_) (avr:pU) (avu:BW) (auG:tO) (avs:HN) (e0:Ky9):(LI × LI)->((LI × LI)->Bool)->Bool:=λv_ K=>match v_ with
 | (a_2,b_2)=>(cond (decide (((b_2.length:Nat):Int)>2)) (auK false a_2 (λaur=>aj .i64 (aur - 62)&&avr a_2 (aur - 62) (λaut=>avr b_2 (aur - 62) (λavw=>avu aut avw (λawc n5 n6 n7=>cond (n5==0) (auG a_2 b_2 (λnsr auo=>K (b_2,auo))) (avs a_2 awc b_2 n5 (λauF=>avs a_2 n6 b_2 n7 (λauC=>K (auF,auC))))))))) (e0 a_2 b_2))
def Fx (N:Nat) (aum:pK) (auK:y_) (avr:pU) (avu:BW) (auG:tO) (avs:HN) (e0:Kz5):(LI × LI)->((LI × LI)->Bool)->Bool:=λv_ K=>match v_ with
 | (a_4,b_4)=>(cond (decide (((b_4.length:Nat):Int)>0)) (auG a_4 b_4 (λauv auu=>K (b_4,auu))) (e0 a_4))
def N_ (a b a_1 b_1:LI) (k0:Kz5):Bool:=
 (ah N (Kb N aum auK avr avu auG avs (λa_3 b_3=>ah N (Fx N aum auK avr avu auG avs (λa_5=>decide ((List.length ([]++a_5))*4<=140737488355328)&&k0 ([]++a_5))) (a_3,b_3))) (a_1,b_1))
def aaF (a b:LI) (k0:Kz5):Bool:=
 (aum a b (λnr=>cond (decide (nr<0)) (N_ N aum auK avr avu auG avs a b b a k0) (N_ N aum auK avr avu auG avs a b a b k0)))
end
def GK:B8:=aaF N (w7 N) (Be N) (JT N) (JS N) (vY N) (D_ N)
section
variable (N:Nat) (avC:BT) (auy:lT) (ave:zh) (au7:y_) (auY:HY) (auK:y_) (avn:B8) (aum:pK) (auG:tO)
def G9 (N:Nat) (avC:BT) (auy:lT) (ave:zh) (au7:y_) (auY:HY) (auK:y_) (avn:B8) (aum:pK) (auG:tO) (neg:Bool) (a b:LI) (b_1 b_2:Bool) (a_1 b_3:LI) (k0:Kx6):Bool:=
 (avC neg a_1 b_1 b_2 (λavT s12 s13=>ave false b_3 avT s12 b_2 s13 (λawL s14=>k0 avT s12 awL s14)))
def UC (neg:Bool) (a b:LI) (b_1 b_2:Bool) (n:Int) (k0:Kx6):Bool:=
 (auY a n (λauv=>auY b n (λauu=>au7 false auu (λaut=>aj .i64 aut&&auK false auu (λavw=>aj .i64 (avw - 1)&&cond (aut != (avw - 1)) (avn auv auu (λs6=>auy (λs7=>aum s6 s7 (λawc=>cond (awc != 0) (auG auv s6 (λs8 s9=>auG auu s6 (λs10 s11=>G9 N avC auy ave au7 auY auK avn aum auG neg a b b_1 b_2 s8 s10 k0))) (G9 N avC auy ave au7 auY auK avn aum auG neg a b b_1 b_2 auv auu k0))))) (G9 N avC auy ave au7 auY auK avn aum auG neg a b b_1 b_2 auv auu k0))))))
def WJ (neg:Bool) (a b:LI) (b_1 b_2:Bool) (k0:Kx6):Bool:=
 (cond (((a.length:Nat):Int)==0) (avC false [] b_1 b_2 (λcr nsr auo=>auy (λauF=>ave false auF cr nsr b_2 auo (λauN auC=>k0 cr nsr auN auC)))) (au7 false a (λnr=>au7 false b (λaur=>cond (decide (aur<nr)) (UC N avC auy ave au7 auY auK avn aum auG neg a b b_1 b_2 aur k0) (UC N avC auy ave au7 auY auK avn aum auG neg a b b_1 b_2 nr k0)))))
end
def S0:Hk:=WJ N (Gc N) (rh N) (Fo N) (D7 N) (CR N) (Be N) (GK N) (w7 N) (vY N)
def Zg (N:Nat) (auy:lT) (axv:Hk) (b b_1 b_2:Bool) (b_3:LI) (k0:Kx6):Bool:=
 (auy (λnsr=>axv b_2 b_3 nsr b b_1 (λcr auo auN auF=>k0 cr auo auN auF)))
def Vw:Ic:=Zg N (rh N) (S0 N)
def UE (N:Nat) (avE:sj) (avq:pV) (n:Int) (b:Bool) (u:Int) (k0:Ky2):Bool:=
 (avE u (λnsr=>avq (decide (n<0)) nsr b (λcr auo=>k0 cr auo)))
def KY (avE:sj) (avq:pV) (n:Int) (b:Bool) (k0:Ky2):Bool:=
 (cond (decide (n<0)) (UE N avE avq n b (IntKind.wrap .u64 (0 - (IntKind.wrap .u64 n))) k0) (UE N avE avq n b (IntKind.wrap .u64 n) k0))
def aeB:Ie:=KY N (L4 N) (JR N)
def aah (N:Nat) (azJ:Ie) (n:Int) (k0:Ky2):Bool:=
 (azJ n false (λcr nsr=>k0 cr nsr))
def Qb:xj:=aah N (aeB N)
def an4 (N:Nat) (axv:Hk) (b b_1 b_2:Bool) (b_3:LI) (b_4:Bool) (b_5:LI) (k0:Kx6):Bool:=
 (axv (b_2 != b_4) b_3 b_5 b b_1 (λcr nsr auN auo=>k0 cr nsr auN auo))
def apx:Dc:=an4 N (S0 N)
abbrev Ho:=Int->Bool->LI->(Kx6)->Bool
def ZC (N:Nat) (azu:Hh) (ayS:Ic) (azX:xj) (axX:Ii) (aBf:Dc) (x:Int) (b:Bool) (b_1:LI) (k0:Kx6):Bool:=
 (cond (decide (x>=0)) (azu x 0 b b_1 (ayS false false b b_1 (λcr nsr auN auo=>k0 cr nsr auN auo)) (λavT auF=>ayS false false avT auF (λawL auC ayV auv=>k0 awL auC ayV auv))) (azX 1 (λaAs auu=>aj .i64 (0 - x)&&axX (IntKind.wrap .u64 (0 - x)) false aAs auu (λaA5 s6=>aBf false false b b_1 aA5 s6 (λaA6 s7 c8 s8=>k0 aA6 s7 c8 s8)))))
def aez:Ho:=ZC N (VE N) (Vw N) (Qb N) (P4 N) (apx N)
def aab (N:Nat) (aAa:H7) (azB:Ho) (x:Fl) (k0:Kx6):Bool:=
 (aAa x (λnr cr nsr=>azB nr cr nsr (λauN auo avT auF=>k0 auN auo avT auF)))
def VX:gi:=aab N (Wc N) (aez N)
abbrev HR:=Int->Int->LF->(List RY2->Bool)->Bool
def mg (N:Nat) (awD:gi) (axK:LF) (axa axz axA r_2 r_3:Int) (e0:List RY2->Bool):(Int × List RY2)->((Int × List RY2)->Bool)->Bool:=λv_ K=>match v_ with
 | (aye,b2)=>(cond (decide (aye<axa)) (inR aye axK.length&&awD (axK.getD aye.toNat none) (λavT auF awL auC=>decide ((List.length b2+1)*8<=140737488355328)&&(aj .i64 (aye+1)&&K ((aye+1),(b2++[((avT,auF),(awL,auC))]))))) (e0 b2))
def aal (awD:gi) (m_0 m_1:Int) (m_2:LF) (k0:List RY2->Bool):Bool:=
 (ah N (mg N awD m_2 ((m_2.length:Nat):Int) 0 0 m_0 m_1 (λ(aA2:List RY2)=>k0 aA2)) (0,[]))
def V3:HR:=aal N (VX N)
def aap (N:Nat) (az0:HR) (m_0 m_1:Int) (m_2:LF) (k0:List RY2->Bool):Bool:=
 (az0 m_0 m_1 m_2 (λ(lr:List RY2)=>k0 lr))
def aeO:HR:=aap N (V3 N)
abbrev EG:=Int->Int->(List RY2->Bool)->Bool
def kY (N:Nat) (ayq ayn ax7 ax8 m_2 m_3:Int) (e0:List RY2->Bool):(Int × List RY2)->((Int × List RY2)->Bool)->Bool:=λv_ K=>match v_ with
 | (i_1,b2)=>(aj .i64 (ayq*ayn)&&cond (decide (i_1<(ayq*ayn))) (decide ((List.length b2+1)*8<=140737488355328)&&(aj .i64 (i_1+1)&&K ((i_1+1),(b2++[((false,[]),(false,[]))])))) (e0 b2))
def Z2 (rows cols:Int) (k0:List RY2->Bool):Bool:=
 (ah N (kY N rows cols 0 0 rows cols (λ(aA2:List RY2)=>k0 aA2)) (0,[]))
def VS:EG:=Z2 N
def ZU (N:Nat) (auy:lT) (r_0:Bool) (r_1:LI) (r_2:Bool) (r_3:LI) (k0:Kz5):Bool:=
 (cond (((r_3.length:Nat):Int)==0) (auy (λnsr=>k0 nsr)) (k0 r_3))
def VO:wj:=ZU N (rh N)
abbrev HC:=Bool->Bool->LI->Bool->LI->LI->(Kx9)->Bool
def Z3 (N:Nat) (SQ8:lP) (neg b:Bool) (b_1:LI) (b_2:Bool) (b_3 b_4:LI) (k0:Kx9):Bool:=
 (SQ8 b_4 (λmr=>cond (neg==true) (k0 (decide (((mr:Nat):Int)>0)) 0 mr) (k0 false 0 mr)))
def aeG:HC:=Z3 N (sQ8 N)
abbrev HB:=Bool->Bool->Nat->Nat->Bool->LI->LI->LI->(Kx9)->Bool
def ZZ (N:Nat) (SQ8:lP) (neg b:Bool) (b_1 b_2:Nat) (b_3:Bool) (b_4 b_5 b_6:LI) (k0:Kx9):Bool:=
 (SQ8 b_5 (λmr=>cond (neg==true) (k0 (decide (((mr:Nat):Int)>0)) 0 mr) (k0 false 0 mr)))
def aeF:HB:=ZZ N (sQ8 N)
def Zj (N:Nat) (ayj:wj) (azP:HC) (azO:HB) (x_0:Bool) (x_1:LI) (x_2:Bool) (x_3:LI) (b:Bool) (b_1:LI) (b_2:Bool) (b_3:LI) (k0:Kx6):Bool:=
 (decide ((List.length ([]++x_1))*4<=140737488355328)&&ayj x_0 x_1 x_2 x_3 (λnsr=>decide ((List.length ([]++nsr))*4<=140737488355328)&&azP x_0 b b_1 b_2 b_3 ([]++x_1) (λcr mr aww=>azO false cr mr aww b_2 b_3 ([]++nsr) ([]++x_1) (λauN avJ aBm=>decide ((mr+aww)<=(List.length ([]++x_1)))&&(decide ((avJ+aBm)<=(List.length ([]++nsr)))&&k0 cr (List.take aww (List.drop mr ([]++x_1))) auN (List.take aBm (List.drop avJ ([]++nsr))))))))
def Vy:ba:=Zj N (VO N) (aeG N) (aeF N)
abbrev Ia:=Int->Int->List RY3->(List RY2->Bool)->Bool
def Ke (N:Nat) (awC:EG) (awB:ba) (t12 m m_3:Int) (m_4:List RY3) (t2 axy t t_1:Int) (e0:List RY2->Bool):(Int × List RY2)->((Int × List RY2)->Bool)->Bool:=λv_ K=>match v_ with
 | (t13,b3)=>(cond (decide (t13<t12)) (inR t13 b3.length&&(decide (t13.toNat<b3.length)&&(inR t13 m_4.length&&awB (m_4.getD t13.toNat ((false,[]),(false,[]))).1.1 (m_4.getD t13.toNat ((false,[]),(false,[]))).1.2 (m_4.getD t13.toNat ((false,[]),(false,[]))).2.1 (m_4.getD t13.toNat ((false,[]),(false,[]))).2.2 (b3.getD t13.toNat ((false,[]),(false,[]))).1.1 (b3.getD t13.toNat ((false,[]),(false,[]))).1.2 (b3.getD t13.toNat ((false,[]),(false,[]))).2.1 (b3.getD t13.toNat ((false,[]),(false,[]))).2.2 (λcr nsr auN auo=>aj .i64 (t13+1)&&K ((t13+1),(b3.set t13.toNat ((cr,nsr),(auN,auo)))))))) (e0 b3))
def anF (awC:EG) (awB:ba) (m_0 m_1:Int) (m_2:List RY3) (k0:List RY2->Bool):Bool:=
 (awC m_0 m_1 (λ(lr:List RY2)=>ah N (Ke N awC awB ((m_2.length:Nat):Int) m_0 m_1 m_2 0 0 m_0 m_1 (λ(b2:List RY2)=>k0 b2)) (0,lr)))
def S_:Ia:=anF N (VS N) (Vy N)
abbrev Bp:=Int->Int->Int->Int->List RY2->(Kz2)->Bool
def anz (N:Nat) (m_0 m_1 i j:Int) (b:List RY2) (k0:Kz2):Bool:=
 (aj .i64 (i*m_1)&&(aj .i64 ((i*m_1)+j)&&(inR ((i*m_1)+j) b.length&&(decide ((Int.toNat ((i*m_1)+j))<b.length)&&k0 (Int.toNat ((i*m_1)+j))))))
def Qi:Bp:=anz N
def aay (N:Nat) (z_0:Bool) (z_1:LI) (z_2:Bool) (z_3:LI) (k0:Kz1):Bool:=
 (cond (((z_1.length:Nat):Int)==0) (k0 0) (cond z_0 (k0 (-1)) (k0 1)))
def aeQ:HG:=aay N
def an9 (N:Nat) (az_:HG) (r_0:Bool) (r_1:LI) (r_2:Bool) (r_3:LI) (k0:Kz1):Bool:=
 (az_ r_0 r_1 r_2 r_3 (λnr=>k0 nr))
def Tg:HG:=an9 N (aeQ N)
def anA (N:Nat) (auy:lT) (b:Bool) (b_1:LI) (b_2:Bool) (b_3:LI) (k0:Kz5):Bool:=
 (cond (((b_3.length:Nat):Int)==0) (auy (λnsr=>k0 nsr)) (k0 b_3))
def SX:wj:=anA N (rh N)
abbrev HX:=Bool->Bool->Bool->LI->Bool->LI->Bool->LI->Bool->LI->(Kx6)->Bool
def ans (N:Nat) (awP:wj) (av5:B8) (axv:Hk) (b b_1 b_2:Bool) (b_3:LI) (b_4:Bool) (b_5:LI) (b_6:Bool) (b_7:LI) (b_8:Bool) (b_9:LI) (k0:Kx6):Bool:=
 (awP b_6 b_7 b_8 b_9 (λnsr=>av5 b_3 nsr (λauo=>awP b_2 b_3 b_4 b_5 (λauF=>av5 auF b_7 (λauC=>axv (b_2 != b_6) auo auC b b_1 (λcr auv auN auu=>k0 cr auv auN auu))))))
def SU:HX:=ans N (SX N) (D6 N) (S0 N)
def anK (N:Nat) (av5:B8) (awP:wj) (axv:Hk) (b b_1 b_2:Bool) (b_3:LI) (b_4:Bool) (b_5:LI) (b_6:Bool) (b_7:LI) (b_8:Bool) (b_9:LI) (k0:Kx6):Bool:=
 (av5 b_3 b_7 (λnsr=>awP b_2 b_3 b_4 b_5 (λauo=>awP b_6 b_7 b_8 b_9 (λauF=>av5 auo auF (λauC=>axv (b_2 != b_6) nsr auC b b_1 (λcr auv auN auu=>k0 cr auv auN auu))))))
def ajE:HX:=anK N (D6 N) (SX N) (S0 N)
abbrev Hn:=Bool->LI->Bool->LI->Bool->LI->Bool->LI->(Ky9)->Bool
def ZB (N:Nat) (awP:wj) (av5:B8) (b:Bool) (b_1:LI) (b_2:Bool) (b_3:LI) (b_4:Bool) (b_5:LI) (b_6:Bool) (b_7:LI) (k0:Ky9):Bool:=
 (awP b_4 b_5 b_6 b_7 (λnsr=>av5 b_1 nsr (λauo=>awP b b_1 b_2 b_3 (λauF=>av5 b_5 auF (λauC=>k0 auo auC)))))
def aey:Hn:=ZB N (SX N) (D6 N)
def lc (N:Nat) (SQ8:lP) (a_1 b_1:LI) (e0:Ky7):(Int × Int × LI)->((Int × Int × LI)->Bool)->Bool:=λv_ K=>match v_ with
 | (carry,i,out)=>(cond (decide (i<((a_1.length:Nat):Int))) (inR i a_1.length&&cond (decide (i<((b_1.length:Nat):Int))) (inR i b_1.length&&(inR i out.length&&(decide (i.toNat<out.length)&&(aj .i64 (i+1)&&K ((Int.fdiv (IntKind.wrap .u64 ((IntKind.wrap .u64 ((IntKind.wrap .u64 (a_1.getD i.toNat 0))+carry))+(IntKind.wrap .u64 (b_1.getD i.toNat 0)))) (2 ^ 32)),(i+1),(out.set i.toNat (IntKind.wrap .u32 (IntKind.wrap .u64 ((IntKind.wrap .u64 ((IntKind.wrap .u64 (a_1.getD i.toNat 0))+carry))+(IntKind.wrap .u64 (b_1.getD i.toNat 0))))))))))) (inR i out.length&&(decide (i.toNat<out.length)&&(aj .i64 (i+1)&&K ((Int.fdiv (IntKind.wrap .u64 ((IntKind.wrap .u64 (a_1.getD i.toNat 0))+carry)) (2 ^ 32)),(i+1),(out.set i.toNat (IntKind.wrap .u32 (IntKind.wrap .u64 ((IntKind.wrap .u64 (a_1.getD i.toNat 0))+carry))))))))) (e0 carry out))
def aat (SQ8:lP) (a b:LI) (k0:Kz5):Bool:=
 (cond (decide (((a.length:Nat):Int)<((b.length:Nat):Int))) (aj .i64 (((b.length:Nat):Int)+1)&&(mB 4 (((b.length:Nat):Int)+1) (((b.length:Nat):Int)+1)&&ah N (lc N SQ8 b a (λavX avh=>inR ((b.length:Nat):Int) avh.length&&(decide ((Int.toNat ((b.length:Nat):Int))<avh.length)&&SQ8 (avh.set (Int.toNat ((b.length:Nat):Int)) (IntKind.wrap .u32 avX)) (λmr=>decide ((0+mr)<=(List.length (avh.set (Int.toNat ((b.length:Nat):Int)) (IntKind.wrap .u32 avX))))&&k0 (List.take mr (List.drop 0 (avh.set (Int.toNat ((b.length:Nat):Int)) (IntKind.wrap .u32 avX)))))))) (0,0,(List.replicate (Int.toNat (((b.length:Nat):Int)+1)) (0:Int))))) (aj .i64 (((a.length:Nat):Int)+1)&&(mB 4 (((a.length:Nat):Int)+1) (((a.length:Nat):Int)+1)&&ah N (lc N SQ8 a b (λav4 axx=>inR ((a.length:Nat):Int) axx.length&&(decide ((Int.toNat ((a.length:Nat):Int))<axx.length)&&SQ8 (axx.set (Int.toNat ((a.length:Nat):Int)) (IntKind.wrap .u32 av4)) (λaww=>decide ((0+aww)<=(List.length (axx.set (Int.toNat ((a.length:Nat):Int)) (IntKind.wrap .u32 av4))))&&k0 (List.take aww (List.drop 0 (axx.set (Int.toNat ((a.length:Nat):Int)) (IntKind.wrap .u32 av4)))))))) (0,0,(List.replicate (Int.toNat (((a.length:Nat):Int)+1)) (0:Int))))))
def V_:B8:=aat N (sQ8 N)
abbrev Hu:=Bool->Bool->Bool->LI->Bool->LI->(Ky2)->Bool
def ZM (N:Nat) (az7:B8) (avq:pV) (aum:pK) (axG:B8) (turn b b_1:Bool) (b_2:LI) (b_3:Bool) (b_4:LI) (k0:Ky2):Bool:=
 (cond (b_1==(b_3 != turn)) (az7 b_2 b_4 (λnsr=>avq (b_3 != turn) nsr b (λcr auo=>k0 cr auo))) (aum b_2 b_4 (λnr=>cond (decide (nr>=0)) (axG b_2 b_4 (λauF=>avq b_1 auF b (λauN auC=>k0 auN auC))) (axG b_4 b_2 (λauv=>avq (b_3 != turn) auv b (λavT auu=>k0 avT auu))))))
def VN:Hu:=ZM N (V_ N) (JR N) (w7 N) (P_ N)
abbrev Ht:=Bool->Bool->LI->Bool->LI->(Ky2)->Bool
def ZL (N:Nat) (azH:Hu) (b b_1:Bool) (b_2:LI) (b_3:Bool) (b_4:LI) (k0:Ky2):Bool:=
 (azH true b b_1 b_2 b_3 b_4 (λcr nsr=>k0 cr nsr))
def VM:Ht:=ZL N (VN N)
def Ur (N:Nat) (awH:mY) (neg:Bool) (m:LI) (b:Bool) (b_1:LI) (b_2:Bool) (b_3:LI) (k0:Ky2):Bool:=
 (awH m (λnsr=>cond (neg==true) (k0 (decide (((nsr.length:Nat):Int)>0)) nsr) (k0 false nsr)))
def Gb:zh:=Ur N (Gf N)
abbrev Hi:=Bool->LI->LI->Bool->LI->Bool->LI->(Kx6)->Bool
section
variable (N:Nat) (avB:zh) (auy:lT) (ave:zh) (au7:y_) (auY:HY) (auK:y_) (avn:B8) (aum:pK) (auG:tO)
def G_ (N:Nat) (avB:zh) (auy:lT) (ave:zh) (au7:y_) (auY:HY) (auK:y_) (avn:B8) (aum:pK) (auG:tO) (neg:Bool) (a b:LI) (b_1:Bool) (b_2:LI) (b_3:Bool) (b_4 a_1 b_5:LI) (k0:Kx6):Bool:=
 (avB neg a_1 b_1 b_2 b_3 b_4 (λavT s11=>ave false b_5 avT s11 b_3 b_4 (λawL s12=>k0 avT s11 awL s12)))
def UD (neg:Bool) (a b:LI) (b_1:Bool) (b_2:LI) (b_3:Bool) (b_4:LI) (n:Int) (k0:Kx6):Bool:=
 (auY a n (λauC=>auY b n (λauv=>au7 false auv (λaut=>aj .i64 aut&&auK false auv (λavw=>aj .i64 (avw - 1)&&cond (aut != (avw - 1)) (avn auC auv (λauu=>auy (λs6=>aum auu s6 (λawc=>cond (awc != 0) (auG auC auu (λs7 s8=>auG auv auu (λs9 s10=>G_ N avB auy ave au7 auY auK avn aum auG neg a b b_1 b_2 b_3 b_4 s7 s9 k0))) (G_ N avB auy ave au7 auY auK avn aum auG neg a b b_1 b_2 b_3 b_4 auC auv k0))))) (G_ N avB auy ave au7 auY auK avn aum auG neg a b b_1 b_2 b_3 b_4 auC auv k0))))))
def KT (neg:Bool) (a b:LI) (b_1:Bool) (b_2:LI) (b_3:Bool) (b_4:LI) (k0:Kx6):Bool:=
 (cond (((a.length:Nat):Int)==0) (avB false [] b_1 b_2 b_3 b_4 (λcr nsr=>auy (λauo=>ave false auo cr nsr b_3 b_4 (λauN auF=>k0 cr nsr auN auF)))) (au7 false a (λnr=>au7 false b (λaur=>cond (decide (aur<nr)) (UD N avB auy ave au7 auY auK avn aum auG neg a b b_1 b_2 b_3 b_4 aur k0) (UD N avB auy ave au7 auY auK avn aum auG neg a b b_1 b_2 b_3 b_4 nr k0)))))
end
def VF:Hi:=KT N (Gb N) (rh N) (Fo N) (D7 N) (CR N) (Be N) (GK N) (w7 N) (vY N)
def anP (N:Nat) (azA:Hn) (awP:wj) (av5:B8) (azG:Ht) (azv:Hi) (b:Bool) (b_1:LI) (b_2:Bool) (b_3:LI) (b_4:Bool) (b_5:LI) (b_6:Bool) (b_7:LI) (k0:Kx6):Bool:=
 (azA b b_1 b_2 b_3 b_4 b_5 b_6 b_7 (λnsr auo=>awP b b_1 b_2 b_3 (λauF=>awP b_4 b_5 b_6 b_7 (λauC=>av5 auF auC (λauv=>azG false b nsr b_4 auo (λcr auu=>azv cr auu auv b b_1 b_2 b_3 (λauN s6 avT s7=>k0 auN s6 avT s7)))))))
def ajG:ba:=anP N (aey N) (SX N) (D6 N) (VM N) (VF N)
abbrev H8:=Int->Int->Int->Int->List RY2->Bool->LI->Bool->LI->(List RY2->Bool)->Bool
def Kd (N:Nat) (avi:Bp) (axr:HX) (axs:ba) (i_1 ayM:Int) (r:Bool) (r_1:LI) (r_2:Bool) (r_3:LI) (m m_2:Int) (e0:List RY2->Bool):(Int × List RY2)->((Int × List RY2)->Bool)->Bool:=λv_ K=>match v_ with
 | (j,b0)=>(cond (decide (j<m_2)) (avi m m_2 i_1 j b0 (λmr=>avi m m_2 i_1 j b0 (λaww=>avi m m_2 ayM j b0 (λavJ=>axr false false r r_1 r_2 r_3 (b0.getD avJ ((false,[]),(false,[]))).1.1 (b0.getD avJ ((false,[]),(false,[]))).1.2 (b0.getD avJ ((false,[]),(false,[]))).2.1 (b0.getD avJ ((false,[]),(false,[]))).2.2 (λcr nsr auN auo=>decide (aww=mr)&&axs (List.getD (b0.set avJ (((b0.getD avJ ((false,[]),(false,[]))).1.1,(b0.getD avJ ((false,[]),(false,[]))).1.2),((b0.getD avJ ((false,[]),(false,[]))).2.1,(b0.getD avJ ((false,[]),(false,[]))).2.2))) mr ((false,[]),(false,[]))).1.1 (List.getD (b0.set avJ (((b0.getD avJ ((false,[]),(false,[]))).1.1,(b0.getD avJ ((false,[]),(false,[]))).1.2),((b0.getD avJ ((false,[]),(false,[]))).2.1,(b0.getD avJ ((false,[]),(false,[]))).2.2))) mr ((false,[]),(false,[]))).1.2 (List.getD (b0.set avJ (((b0.getD avJ ((false,[]),(false,[]))).1.1,(b0.getD avJ ((false,[]),(false,[]))).1.2),((b0.getD avJ ((false,[]),(false,[]))).2.1,(b0.getD avJ ((false,[]),(false,[]))).2.2))) mr ((false,[]),(false,[]))).2.1 (List.getD (b0.set avJ (((b0.getD avJ ((false,[]),(false,[]))).1.1,(b0.getD avJ ((false,[]),(false,[]))).1.2),((b0.getD avJ ((false,[]),(false,[]))).2.1,(b0.getD avJ ((false,[]),(false,[]))).2.2))) mr ((false,[]),(false,[]))).2.2 cr nsr auN auo (λavT auF awL auC=>aj .i64 (j+1)&&K ((j+1),(List.set (b0.set avJ (((b0.getD avJ ((false,[]),(false,[]))).1.1,(b0.getD avJ ((false,[]),(false,[]))).1.2),((b0.getD avJ ((false,[]),(false,[]))).2.1,(b0.getD avJ ((false,[]),(false,[]))).2.2))) mr ((avT,auF),(awL,auC)))))))))) (e0 b0))
def anw (avi:Bp) (axr:HX) (axs:ba) (m_0 m_1 i k_:Int) (b:List RY2) (b_1:Bool) (b_2:LI) (b_3:Bool) (b_4:LI) (k0:List RY2->Bool):Bool:=
 (ah N (Kd N avi axr axs i k_ b_1 b_2 b_3 b_4 m_0 m_1 (λ(awU:List RY2)=>k0 awU)) (0,b))
def SW:H8:=anw N (Qi N) (ajE N) (ajG N)
abbrev Hv:=Int->Int->List RY3->(Kz1)->Bool
section
variable (N:Nat) (av1:Ia) (avi:Bp) (avQ:HG) (avZ:HX) (av0:H8)
def Ae (N:Nat) (av1:Ia) (avi:Bp) (avQ:HG) (avZ:HX) (av0:H8) (c_1 a_2 a_3:Int) (axL:List RY2) (e0:Kz1) (e1:Bool):(Int)->((Int)->Bool)->Bool:=λv_ K=>match v_ with
 | j=>(cond (decide (j<a_3)) (avi a_2 a_3 c_1 j axL (λaww=>avQ (axL.getD aww ((false,[]),(false,[]))).1.1 (axL.getD aww ((false,[]),(false,[]))).1.2 (axL.getD aww ((false,[]),(false,[]))).2.1 (axL.getD aww ((false,[]),(false,[]))).2.2 (λaut=>cond (aut != 0) (e0 1) (aj .i64 (j+1)&&K (j+1))))) e1)
def Fu (N:Nat) (av1:Ia) (avi:Bp) (avQ:HG) (avZ:HX) (av0:H8) (ayr c_2:Int) (d:Nat) (a_4 a_5:Int) (e0:List RY2->Bool):(Int × List RY2)->((Int × List RY2)->Bool)->Bool:=λv_ K=>match v_ with
 | (i,d_1)=>(cond (decide (i<a_4)) (avi a_4 a_5 i c_2 d_1 (λavJ=>((!decide (d=avJ))&&true)&&avZ false false (d_1.getD avJ ((false,[]),(false,[]))).1.1 (d_1.getD avJ ((false,[]),(false,[]))).1.2 (d_1.getD avJ ((false,[]),(false,[]))).2.1 (d_1.getD avJ ((false,[]),(false,[]))).2.2 (d_1.getD d ((false,[]),(false,[]))).1.1 (d_1.getD d ((false,[]),(false,[]))).1.2 (d_1.getD d ((false,[]),(false,[]))).2.1 (d_1.getD d ((false,[]),(false,[]))).2.2 (λcr nsr auN auo=>av0 a_4 a_5 i c_2 (List.set (d_1.set d (((d_1.getD d ((false,[]),(false,[]))).1.1,(d_1.getD d ((false,[]),(false,[]))).1.2),((d_1.getD d ((false,[]),(false,[]))).2.1,(d_1.getD d ((false,[]),(false,[]))).2.2))) avJ (((d_1.getD avJ ((false,[]),(false,[]))).1.1,(d_1.getD avJ ((false,[]),(false,[]))).1.2),((d_1.getD avJ ((false,[]),(false,[]))).2.1,(d_1.getD avJ ((false,[]),(false,[]))).2.2))) cr nsr auN auo (λ(aFz:List RY2)=>aj .i64 (i+1)&&K ((i+1),aFz))))) (e0 d_1))
def Ad (a a_1:Int) (e0:Kz1) (e1:Kz1):(Int × Int × List RY2)->((Int × Int × List RY2)->Bool)->Bool:=λv_ K=>match v_ with
 | (sign,c,b1)=>(cond (decide (c<a)) (avi a a_1 c c b1 (λmr=>avQ (b1.getD mr ((false,[]),(false,[]))).1.1 (b1.getD mr ((false,[]),(false,[]))).1.2 (b1.getD mr ((false,[]),(false,[]))).2.1 (b1.getD mr ((false,[]),(false,[]))).2.2 (λnr=>cond (decide (nr<0)) (e0 1) (avQ (b1.getD mr ((false,[]),(false,[]))).1.1 (b1.getD mr ((false,[]),(false,[]))).1.2 (b1.getD mr ((false,[]),(false,[]))).2.1 (b1.getD mr ((false,[]),(false,[]))).2.2 (λaur=>cond (aur==0) (aj .i64 (c+1)&&ah N (Ae N av1 avi avQ avZ av0 c a a_1 b1 (λt2=>e0 t2) (aj .i64 (c+1)&&K (2,(c+1),b1))) (c+1)) (aj .i64 (c+1)&&ah N (Fu N av1 avi avQ avZ av0 sign c mr a a_1 (λ(aBF:List RY2)=>aj .i64 (c+1)&&K (sign,(c+1),aBF))) ((c+1),b1))))))) (e1 sign))
def ZN (m_0 m_1:Int) (m_2:List RY3) (k0:Kz1):Bool:=
 (av1 m_0 m_1 m_2 (λ(lr:List RY2)=>ah N (Ad N av1 avi avQ avZ av0 m_0 m_1 (λaxy=>k0 axy) (λaDR=>k0 aDR)) (3,0,lr)))
end
def aeA:Hv:=ZN N (S_ N) (Qi N) (Tg N) (SU N) (SW N)
def ZT (N:Nat) (az3:HR) (azI:Hv) (m_0 m_1:Int) (m_2:LF) (k0:Kz0):Bool:=
 (az3 m_0 m_1 m_2 (λ(lr:List RY2)=>azI m_0 m_1 lr (λnr=>k0 (nr==3))))
def P8:FB:=ZT N (aeO N) (aeA N)
def anp (N:Nat) (az4:jk) (axZ:FB) (s_0:LF) (s_1 s_2:Int) (s_3:LF) (k0:Kz1):Bool:=
 (az4 s_0 s_1 s_2 s_3 (λnr=>cond (nr != 0) (k0 nr) (axZ s_1 s_2 s_3 (λcr=>cond (!cr) (k0 151) (k0 0)))))
def ajB:jk:=anp N (aeP N) (P8 N)
abbrev sf:=Fl->Bool->(Kz0)->Bool
def ant (N:Nat) (axq:FA) (x:Fl) (b:Bool) (k0:Kz0):Bool:=
 (cond (b==false) (axq x (λcr=>k0 (!cr))) (k0 true))
def SV:sf:=ant N (aeL N)
def GQ3 (N:Nat) (aw2:EM) (a b:Fl) (k0:Kz0):Bool:=
 (aw2 a (λnr=>aw2 b (λaur=>k0 (nr==aur))))
def sQ3:EL:=GQ3 N (L6 N)
abbrev eC:=Int->Int->LF->Int->(Kz4)->Bool
def xh (N:Nat) (m_0 m_1:Int) (m_2:LF) (i:Int) (k0:Kz4):Bool:=
 (aj .i64 (i*m_1)&&(aj .i64 (i+1)&&(aj .i64 ((i+1)*m_1)&&(decide (0<=(i*m_1)/\(i*m_1)<=((i+1)*m_1)/\((i+1)*m_1)<=((m_2.length:Nat):Int))&&k0 (List.drop (Int.toNat (i*m_1)) (List.take (Int.toNat ((i+1)*m_1)) m_2))))))
def mE:eC:=xh N
abbrev zj:=Fl->(Kz3)->Bool
def Eb (N:Nat):zj:=λx k=>k (Kt x)
abbrev HD:=Fl->Int->(Kz0)->Bool
def Uz (N:Nat) (axI:zj) (f:Fl) (sign:Int) (k0:Kz0):Bool:=
 (cond (sign==0) (axI f (λxr=>k0 (fgt xr (some 9218868437227405311)))) (cond (decide (sign<0)) (k0 (fgt (aov f) (some 9218868437227405311))) (k0 (fgt f (some 9218868437227405311)))))
def JV:HD:=Uz N (Eb N)
abbrev kS:=Int->Int->Int->LF->(Ky4)->Bool
def tH (N:Nat) (m_0 m_1 i:Int) (b:LF) (k0:Ky4):Bool:=
 (aj .i64 (i*m_1)&&(aj .i64 (i+1)&&(aj .i64 ((i+1)*m_1)&&(decide (0<=(i*m_1)/\(i*m_1)<=((i+1)*m_1)/\((i+1)*m_1)<=((b.length:Nat):Int))&&k0 (Int.toNat (i*m_1)) ((Int.toNat ((i+1)*m_1)) - (Int.toNat (i*m_1)))))))
def oZ:kS:=tH N
def nP (N:Nat) (j_1 t11 m m_3:Int) (m_4:LF) (e0:Kz4):(Int × LF)->((Int × LF)->Bool)->Bool:=λv_ K=>match v_ with
 | (t12,out)=>(cond (decide (t12<t11)) (aj .i64 (t12*m_3)&&(aj .i64 ((t12*m_3)+j_1)&&(inR ((t12*m_3)+j_1) m_4.length&&(inR t12 out.length&&(decide (t12.toNat<out.length)&&(aj .i64 (t12+1)&&K ((t12+1),(out.set t12.toNat (m_4.getD (Int.toNat ((t12*m_3)+j_1)) none))))))))) (e0 out))
def xg (m_0 m_1:Int) (m_2:LF) (j:Int) (k0:Kz4):Bool:=
 (mB 8 m_0 m_0&&ah N (nP N j (((List.length (List.replicate m_0.toNat (some 0))):Nat):Int) m_0 m_1 m_2 (λavh=>k0 avh)) (0,(List.replicate m_0.toNat (some 0))))
def sZ:eC:=xg N
abbrev EN:=LF->Int->Int->LF->LF->Fl->Fl->(Kx2)->(Kx1)->(Kx0)->Bool
abbrev QU:=(Kz0)->Bool
def sQ0 (N:Nat):QU:=λk=>k true
abbrev BR:=Int->Int->LF->Int->(Kz1)->Bool
def Zv (N:Nat) (ax1:wh) (f_0 f_1:Int) (f_2:LF) (rows:Int) (k0:Kz1):Bool:=
 (ax1 f_0 f_1 f_2 (λnr=>cond (nr != 0) (k0 nr) (cond ((f_0 != f_1)==false) (cond (f_0 != rows) (k0 3) (k0 0)) (k0 3))))
def VD:BR:=Zv N (Qd N)
def Zo (N:Nat) (m_0 m_1:Int) (m_2:LF) (i:Int) (k0:Kz4):Bool:=
 (aj .i64 (i*m_1)&&(aj .i64 (i+1)&&(aj .i64 ((i+1)*m_1)&&(decide (0<=(i*m_1)/\(i*m_1)<=((i+1)*m_1)/\((i+1)*m_1)<=((m_2.length:Nat):Int))&&k0 (List.drop (Int.toNat (i*m_1)) (List.take (Int.toNat ((i+1)*m_1)) m_2))))))
def P1:eC:=Zo N
abbrev Il:=LF->LF->Bool->(Ky5)->Bool
def pg (N:Nat) (au2:sf) (a_1 b_2:LF) (t10:Int) (e0:Ky5):(Fl × Int × Bool)->((Fl × Int × Bool)->Bool)->Bool:=λv_ K=>match v_ with
 | (t,t11,s)=>(cond (decide (t11<t10)) (inR t11 a_1.length&&(inR t11 b_2.length&&au2 (vD (a_1.getD t11.toNat none) (b_2.getD t11.toNat none)) s (λcr=>au2 (qP t (vD (a_1.getD t11.toNat none) (b_2.getD t11.toNat none))) cr (λauN=>aj .i64 (t11+1)&&K ((qP t (vD (a_1.getD t11.toNat none) (b_2.getD t11.toNat none))),(t11+1),auN))))) (e0 t s))
def aoa (au2:sf) (a b:LF) (b_1:Bool) (k0:Ky5):Bool:=
 (ah N (pg N au2 a b ((a.length:Nat):Int) (λt_1 b0=>k0 t_1 b0)) ((some 0),0,b_1))
def ajL:Il:=aoa N (SV N)
abbrev wc:=Int->Int->(Kz4)->Bool
def anm (N:Nat) (rows cols:Int) (k0:Kz4):Bool:=
 (aj .i64 (rows*cols)&&(mB 8 (rows*cols) (rows*cols)&&k0 (List.replicate (Int.toNat (rows*cols)) (some 0))))
def XU:wc:=anm N
def nQ (N:Nat) (auP:EC) (j_2 m_5 m_6:Int) (m_7:LF) (e0:Kz4):(Int × LF)->((Int × LF)->Bool)->Bool:=λv_ K=>match v_ with
 | (i_1,l)=>(cond (decide (i_1<m_5)) (auP m_5 m_6 m_7 i_1 j_2 (λayy=>decide ((List.length (l++[ayy]))*8<=140737488355328)&&(aj .i64 (i_1+1)&&K ((i_1+1),(l++[ayy]))))) (e0 l))
def ZH (auP:EC) (m_0 m_1:Int) (m_2:LF) (j:Int) (k0:Kz4):Bool:=
 (ah N (nQ N auP j m_0 m_1 m_2 (λl_1=>k0 l_1)) (0,[]))
def VK:eC:=ZH N (Te N)
abbrev K8:=LF->Bool->LF->(Ky5)->Bool
def mT (N:Nat) (au2:sf) (a_1:LF) (t10:Int) (b_2:LF) (e0:Ky5):(Fl × Int × Bool)->((Fl × Int × Bool)->Bool)->Bool:=λv_ K=>match v_ with
 | (t,t11,s)=>(cond (decide (t11<t10)) (inR t11 a_1.length&&(inR t11 b_2.length&&(decide (t11.toNat<b_2.length)&&au2 (vD (a_1.getD t11.toNat none) (b_2.getD t11.toNat none)) s (λcr=>au2 (qP t (vD (a_1.getD t11.toNat none) (b_2.getD t11.toNat none))) cr (λauN=>aj .i64 (t11+1)&&K ((qP t (vD (a_1.getD t11.toNat none) (b_2.getD t11.toNat none))),(t11+1),auN)))))) (e0 t s))
def an7 (au2:sf) (a:LF) (b:Bool) (b_1:LF) (k0:Ky5):Bool:=
 (ah N (mT N au2 a ((a.length:Nat):Int) b_1 (λt_1 b0=>k0 t_1 b0)) ((some 0),0,b))
def ajK:K8:=an7 N (SV N)
abbrev we:=Int->Int->Int->Int->Fl->LF->(Kz4)->Bool
def ann (N:Nat) (m_0 m_1 i j:Int) (x:Fl) (b:LF) (k0:Kz4):Bool:=
 (aj .i64 (i*m_1)&&(aj .i64 ((i*m_1)+j)&&(inR ((i*m_1)+j) b.length&&(decide ((Int.toNat ((i*m_1)+j))<b.length)&&k0 (b.set (Int.toNat ((i*m_1)+j)) x)))))
def XV:we:=ann N
abbrev H9:=Int->Int->LF->Int->Int->LF->Bool->(Ky6)->Bool
section
variable (N:Nat) (au1:wc) (auV:eC) (awf:eC) (aw7:K8) (auZ:we)
def NI (N:Nat) (au1:wc) (auV:eC) (awf:eC) (aw7:K8) (auZ:we) (i_1 a_5 a_6:Int) (a_7:LF) (b_6 b_7:Int) (b_8:LF) (ayw ayx m_2 m_3:Int) (e0:Ky6):(Int × Bool × LF)->((Int × Bool × LF)->Bool)->Bool:=λv_ K=>match v_ with
 | (j,s_1,ayI)=>(cond (decide (j<b_7)) (auV a_5 a_6 a_7 i_1 (λaxp=>awf b_6 b_7 b_8 j (λaxl=>aw7 axp s_1 axl (λxr cr=>auZ m_2 m_3 i_1 j xr ayI (λayf=>aj .i64 (j+1)&&K ((j+1),cr,ayf)))))) (e0 s_1 ayI))
def NH (a a_3:Int) (a_4:LF) (b_3 b_4:Int) (b_5:LF) (t6 awO m m_1:Int) (e0:Ky6):(Int × Bool × LF)->((Int × Bool × LF)->Bool)->Bool:=λv_ K=>match v_ with
 | (i,s,b5)=>(cond (decide (i<a)) (ah N (NI N au1 auV awf aw7 auZ i a a_3 a_4 b_3 b_4 b_5 t6 awO m m_1 (λs_2 aAq=>aj .i64 (i+1)&&K ((i+1),s_2,aAq))) (0,s,b5)) (e0 s b5))
def anx (a_0 a_1:Int) (a_2:LF) (b_0 b_1:Int) (b_2:LF) (b:Bool) (k0:Ky6):Bool:=
 (au1 a_0 b_1 (λxsr=>ah N (NH N au1 auV awf aw7 auZ a_0 a_1 a_2 b_0 b_1 b_2 0 0 a_0 b_1 (λb0 b3=>k0 b0 b3)) (0,b,xsr)))
end
def ajD:H9:=anx N (XU N) (P1 N) (VK N) (ajK N) (XV N)
def anS (N:Nat) (m_0 m_1 i:Int) (b:LF) (k0:Ky4):Bool:=
 (aj .i64 (i*m_1)&&(aj .i64 (i+1)&&(aj .i64 ((i+1)*m_1)&&(decide (0<=(i*m_1)/\(i*m_1)<=((i+1)*m_1)/\((i+1)*m_1)<=((b.length:Nat):Int))&&k0 (Int.toNat (i*m_1)) ((Int.toNat ((i+1)*m_1)) - (Int.toNat (i*m_1)))))))
def ajH:kS:=anS N
abbrev BL:=Nat->Nat->LF->Bool->LF->(Ky5)->Bool
def mR (N:Nat) (au2:sf) (a a_2:Nat) (b_3:LF) (t10:Int) (a_3:LF) (e0:Ky5):(Fl × Int × Bool)->((Fl × Int × Bool)->Bool)->Bool:=λv_ K=>match v_ with
 | (t,t11,s)=>(cond (decide (t11<t10)) (inR t11 a_2&&(decide ((a+t11.toNat)<a_3.length)&&(inR t11 b_3.length&&au2 (vD (a_3.getD (a+t11.toNat) none) (b_3.getD t11.toNat none)) s (λcr=>au2 (qP t (vD (a_3.getD (a+t11.toNat) none) (b_3.getD t11.toNat none))) cr (λauN=>aj .i64 (t11+1)&&K ((qP t (vD (a_3.getD (a+t11.toNat) none) (b_3.getD t11.toNat none))),(t11+1),auN)))))) (e0 t s))
def Zi (au2:sf) (a_0 a_1:Nat) (b:LF) (b_1:Bool) (b_2:LF) (k0:Ky5):Bool:=
 (ah N (mR N au2 a_0 a_1 b ((a_1:Nat):Int) b_2 (λt_1 b0=>k0 t_1 b0)) ((some 0),0,b_1))
def Vx:BL:=Zi N (SV N)
abbrev HL:=Int->Int->LF->(Kz4)->Bool
section
variable (N:Nat) (au1:wc) (auP:EC) (auZ:we)
def nS (N:Nat) (au1:wc) (auP:EC) (auZ:we) (i_1 m_5 m_6:Int) (m_7:LF) (axz axA t_2 t_3:Int) (e0:Kz4):(Int × LF)->((Int × LF)->Bool)->Bool:=λv_ K=>match v_ with
 | (j,azk)=>(cond (decide (j<=i_1)) (auP m_5 m_6 m_7 i_1 j (λxr=>auZ t_2 t_3 i_1 j xr azk (λaxp=>auP m_5 m_6 m_7 i_1 j (λayy=>auZ t_2 t_3 j i_1 ayy axp (λaxl=>aj .i64 (j+1)&&K ((j+1),axl)))))) (e0 azk))
def nR (m m_3:Int) (m_4:LF) (t2 axy t t_1:Int) (e0:Kz4):(Int × LF)->((Int × LF)->Bool)->Bool:=λv_ K=>match v_ with
 | (i,b3)=>(cond (decide (i<m)) (ah N (nS N au1 auP auZ i m m_3 m_4 t2 axy t t_1 (λaDm=>aj .i64 (i+1)&&K ((i+1),aDm))) (0,b3)) (e0 b3))
def aad (m_0 m_1:Int) (m_2:LF) (k0:Kz4):Bool:=
 (au1 m_0 m_1 (λxsr=>ah N (nR N au1 auP auZ m_0 m_1 m_2 0 0 m_0 m_1 (λb2=>k0 b2)) (0,xsr)))
end
def VZ:HL:=aad N (XU N) (Te N) (XV N)
abbrev HP:=Int->Int->LF->LF->Bool->(Ky0)->(Int->LF->Bool)->Bool
def anr (N:Nat) (azW:HL) (axZ:FB) (p_0 p_1:Int) (b b_1:LF) (b_2:Bool) (k0:Ky0) (k1:Int->LF->Bool):Bool:=
 (cond b_2 (k0 0 0 5) (azW p_0 p_1 b_1 (λxsr=>axZ p_0 p_1 xsr (λcr=>cond (!cr) (k0 0 0 151) (k1 0 xsr)))))
def ajC:HP:=anr N (VZ N) (P8 N)
abbrev EF:=LF->Int->Int->LF->Int->Int->LF->Int->Int->LF->(Ky0)->(Kx4)->Bool
section
variable (N:Nat) (awo:jk) (avx:BR) (av_:wh) (auV:eC) (aws:Il) (awq:H9) (au1:wc) (awr:kS) (avz:BL) (auP:EC) (au2:sf) (auZ:we) (awp:HP)
def mO (N:Nat) (awo:jk) (avx:BR) (av_:wh) (auV:eC) (aws:Il) (awq:H9) (au1:wc) (awr:kS) (avz:BL) (auP:EC) (au2:sf) (auZ:we) (awp:HP) (aBy:Int) (t_7:LF) (t_8 t_9:Int) (aDe:LF) (f_5 f_6:Int) (f_7:LF) (q_5 q_6:Int) (q_7:LF) (ayw ayx:Int) (e0:Ky6):(Int × Bool × LF)->((Int × Bool × LF)->Bool)->Bool:=λv_ K=>match v_ with
 | (ay6,s_1,x)=>(cond (decide (ay6<aBy)) (auV f_5 f_6 f_7 ay6 (λaxp=>aws axp t_7 s_1 (λayy auN=>decide ((List.length (x++[ayy]))*8<=140737488355328)&&(aj .i64 (ay6+1)&&K ((ay6+1),auN,(x++[ayy])))))) (e0 s_1 x))
def mQ (N:Nat) (awo:jk) (avx:BR) (av_:wh) (auV:eC) (aws:Il) (awq:H9) (au1:wc) (awr:kS) (avz:BL) (auP:EC) (au2:sf) (auZ:we) (awp:HP) (i aBA aBB aB6 aB7:Int) (aB8:LF) (aB_ aCa:Int) (aCb:LF) (aAn aAo:Int) (x_3:LF) (m_2 m_3 p_2 p_3:Int) (aA3:LF) (e0:Ky6):(Int × Bool × LF)->((Int × Bool × LF)->Bool)->Bool:=λv_ K=>match v_ with
 | (j,s_4,aBG)=>(cond (decide (j<=i)) (awr m_2 m_3 i aA3 (λmr aww=>auV aB6 aB7 aB8 j (λaDh=>avz mr aww aDh s_4 aA3 (λaFK awL=>auP aB_ aCa aCb i j (λaFL=>au2 (qP aFK aFL) awL (λayV=>auZ p_2 p_3 i j (qP aFK aFL) aBG (λaDi=>aj .i64 (j+1)&&K ((j+1),ayV,aDi)))))))) (e0 s_4 aBG))
def mP (t76 f_8 f_9:Int) (aCC:LF) (q_8 q_9:Int) (aDa:LF) (aAl aAm:Int) (x_2:LF) (m m_1 p p_1:Int) (b7:LF) (e0:Ky6):(Int × Bool × LF)->((Int × Bool × LF)->Bool)->Bool:=λv_ K=>match v_ with
 | (t77,s_3,b8)=>(cond (decide (t77<t76)) (ah N (mQ N awo avx av_ auV aws awq au1 awr avz auP au2 auZ awp t77 t76 t77 f_8 f_9 aCC q_8 q_9 aDa aAl aAm x_2 m m_1 p p_1 b7 (λs_5 aFS=>aj .i64 (t77+1)&&K ((t77+1),s_5,aFS))) (0,s_3,b8)) (e0 s_3 b8))
def Uv (t_0:LF) (t_1 t_2:Int) (t_3:LF) (f_0 f_1:Int) (f_2:LF) (q_0 q_1:Int) (q_2:LF) (k0:Ky0) (k1:Kx4):Bool:=
 (awo t_0 t_1 t_2 t_3 (λnr=>cond (nr != 0) (k0 0 0 nr) (avx f_0 f_1 f_2 ((t_0.length:Nat):Int) (λaur=>cond (aur != 0) (k0 0 0 aur) (avx q_0 q_1 q_2 ((t_0.length:Nat):Int) (λaut=>cond (aut != 0) (k0 0 0 aut) (av_ q_0 q_1 q_2 (λavw=>cond (avw != 0) (k0 0 0 150) (ah N (mO N awo avx av_ auV aws awq au1 awr avz auP au2 auZ awp ((t_0.length:Nat):Int) t_0 t_1 t_2 t_3 f_0 f_1 f_2 q_0 q_1 q_2 0 0 (λs_2 x_1=>awq f_0 f_1 f_2 t_1 t_2 t_3 s_2 (λavT axl=>au1 ((x_1.length:Nat):Int) ((x_1.length:Nat):Int) (λayf=>ah N (mP N awo avx av_ auV aws awq au1 awr avz auP au2 auZ awp ((x_1.length:Nat):Int) f_0 f_1 f_2 q_0 q_1 q_2 0 0 x_1 f_0 t_2 ((x_1.length:Nat):Int) ((x_1.length:Nat):Int) axl (λs_6 b4=>awp ((x_1.length:Nat):Int) ((x_1.length:Nat):Int) x_1 b4 s_6 (λawc n5 n6=>k0 awc n5 n6) (λn7 aDj=>k1 ((x_1.length:Nat):Int) ((x_1.length:Nat):Int) n7 x_1 aDj))) (0,avT,ayf))))) (0,false,[]))))))))))
end
def VP:EF:=Uv N (ajB N) (VD N) (aeT N) (P1 N) (ajL N) (ajD N) (XU N) (ajH N) (Vx N) (Te N) (SV N) (XV N) (ajC N)
def ru (N:Nat) (avF:wh) (m_0 m_1:Int) (m_2:LF) (n:Int) (k0:Kz1):Bool:=
 (avF m_0 m_1 m_2 (λnr=>cond (nr != 0) (k0 nr) (cond ((m_0 != m_1)==false) (cond (m_0 != n) (k0 3) (k0 0)) (k0 3))))
def nN:BR:=ru N (SZ N)
def aod (N:Nat) (azQ:HD) (x:Fl) (b:Bool) (k0:Kz0):Bool:=
 (cond ((!feq x x)==false) (azQ x 0 (λcr=>cond cr (k0 true) (k0 b))) (k0 true))
def M_:sf:=aod N (JV N)
abbrev pT:=Fl->Fl->Bool->(Ky5)->Bool
def Zh (N:Nat) (avg:sf) (a b:Fl) (b_1:Bool) (k0:Ky5):Bool:=
 (avg (vD a b) b_1 (λcr=>k0 (vD a b) cr))
def L0:pT:=Zh N (M_ N)
def o_ (N:Nat) (auW:pT) (avg:sf) (b_2 t10:LF) (t11:Int) (e0:Ky5):(Fl × Int × Bool)->((Fl × Int × Bool)->Bool)->Bool:=λv_ K=>match v_ with
 | (t,t12,s)=>(cond (decide (t12<t11)) (inR t12 t10.length&&(inR t12 b_2.length&&auW (t10.getD t12.toNat none) (b_2.getD t12.toNat none) s (λxr cr=>avg (qP t xr) cr (λauN=>aj .i64 (t12+1)&&K ((qP t xr),(t12+1),auN))))) (e0 t s))
def Uw (auW:pT) (avg:sf) (a b:LF) (b_1:Bool) (k0:Ky5):Bool:=
 (ah N (o_ N auW avg b a ((a.length:Nat):Int) (λt_1 b0=>k0 t_1 b0)) ((some 0),0,b_1))
def VT:Il:=Uw N (L0 N) (M_ N)
def mM (N:Nat) (auW:pT) (avg:sf) (t10:LF) (t11:Int) (b_2:LF) (e0:Ky5):(Fl × Int × Bool)->((Fl × Int × Bool)->Bool)->Bool:=λv_ K=>match v_ with
 | (t,t12,s)=>(cond (decide (t12<t11)) (inR t12 t10.length&&(inR t12 b_2.length&&(decide (t12.toNat<b_2.length)&&auW (t10.getD t12.toNat none) (b_2.getD t12.toNat none) s (λxr cr=>avg (qP t xr) cr (λauN=>aj .i64 (t12+1)&&K ((qP t xr),(t12+1),auN)))))) (e0 t s))
def Us (auW:pT) (avg:sf) (a:LF) (b:Bool) (b_1:LF) (k0:Ky5):Bool:=
 (ah N (mM N auW avg a ((a.length:Nat):Int) b_1 (λt_1 b0=>k0 t_1 b0)) ((some 0),0,b))
def VB:K8:=Us N (L0 N) (M_ N)
section
variable (N:Nat) (aue:eC) (auq:eC) (avV:K8)
def iL (N:Nat) (aue:eC) (auq:eC) (avV:K8) (i_1 aBs aBt axb a_8 a_9:Int) (aB2:LF) (b_9 aym:Int) (aB4:LF) (aAl aAm aBn aBo:Int) (e0:Ky6):(Int × Bool × LF)->((Int × Bool × LF)->Bool)->Bool:=λv_ K=>match v_ with
 | (ay5,ayc,b5)=>(cond (decide (ay5<axb)) (aue a_8 a_9 aB2 i_1 (λaxl=>auq b_9 aym aB4 ay5 (λayf=>avV axl ayc ayf (λayy auN=>decide ((List.length (b5++[ayy]))*8<=140737488355328)&&(aj .i64 (ay5+1)&&K ((ay5+1),auN,(b5++[ayy]))))))) (e0 ayc b5))
def iK (aAZ aCp aCq:Int) (aCr:LF) (aCz aB5:Int) (aCA:LF) (aAn aAo aAW aAX:Int) (e0:Ky6):(Int × Bool × LF)->((Int × Bool × LF)->Bool)->Bool:=λv_ K=>match v_ with
 | (ayH,ayd,aAq)=>(cond (decide (ayH<aAZ)) (ah N (iL N aue auq avV ayH aAZ ayH aB5 aCp aCq aCr aCz aB5 aCA aAn aAo aAW aAX (λaDs aDw=>aj .i64 (ayH+1)&&K ((ayH+1),aDs,aDw))) (0,ayd,aAq)) (e0 ayd aAq))
def jM (a_0 a_1:Int) (a_2:LF) (b_0 b_1:Int) (b_2:LF) (b:Bool) (k0:Ky6):Bool:=
 (ah N (iK N aue auq avV a_0 a_0 a_1 a_2 b_0 b_1 b_2 0 0 a_0 b_1 (λb0 b3=>k0 b0 b3)) (0,b,[]))
end
def jV:H9:=jM N (mE N) (sZ N) (VB N)
def mL (N:Nat) (auW:pT) (avg:sf) (b_3:LF) (t10 axJ:Nat) (t11:Int) (aAB:LF) (e0:Ky5):(Fl × Int × Bool)->((Fl × Int × Bool)->Bool)->Bool:=λv_ K=>match v_ with
 | (t,t12,s)=>(cond (decide (t12<t11)) (inR t12 axJ&&(decide ((t10+t12.toNat)<aAB.length)&&(inR t12 b_3.length&&auW (aAB.getD (t10+t12.toNat) none) (b_3.getD t12.toNat none) s (λxr cr=>avg (qP t xr) cr (λauN=>aj .i64 (t12+1)&&K ((qP t xr),(t12+1),auN)))))) (e0 t s))
def Uy (auW:pT) (avg:sf) (a_0 a_1:Nat) (b:LF) (b_1:Bool) (b_2:LF) (k0:Ky5):Bool:=
 (ah N (mL N auW avg b a_0 a_1 ((a_1:Nat):Int) b_2 (λt_1 b0=>k0 t_1 b0)) ((some 0),0,b_1))
def VU:BL:=Uy N (L0 N) (M_ N)
abbrev aV:=Int->Int->Int->Int->Int->Int->LF->Int->Int->LF->Int->Bool->LF->(Ky5)->Bool
def eB (N:Nat) (avR:kS) (aue:eC) (ayk:BL) (avg:sf) (i j b b_1 b_2 b_3:Int) (b_4:LF) (b_5 b_6:Int) (b_7:LF) (b_8:Int) (b_9:Bool) (aym:LF) (k0:Ky5):Bool:=
 (avR b b_1 i aym (λmr aww=>aue b_2 b_3 b_4 j (λxsr=>ayk mr aww xsr b_9 aym (λxr cr=>aj .i64 (i*b_8)&&(aj .i64 ((i*b_8)+j)&&(inR ((i*b_8)+j) b_7.length&&avg (qP xr (b_7.getD (Int.toNat ((i*b_8)+j)) none)) cr (λauN=>k0 (qP xr (b_7.getD (Int.toNat ((i*b_8)+j)) none)) auN)))))))
def eK:aV:=eB N (oZ N) (mE N) (VU N) (M_ N)
abbrev cw:=Int->Int->Int->Int->Int->LF->Int->Int->LF->Int->Bool->LF->(Ky6)->Bool
section
variable (N:Nat) (aua:aV)
def fj (N:Nat) (aua:aV) (n_2 i ayu ayv t21 aAV azc azd aze:Int) (azf:LF) (azg azh:Int) (azi:LF) (azj:Int) (aB3:LF) (ax7 ax8 axx ay3:Int) (e0:Ky6):(Int × Bool × LF)->((Int × Bool × LF)->Bool)->Bool:=λv_ K=>match v_ with
 | (t22,ayI,aAr)=>(cond (decide (t22<t21)) (aua i t22 aAV azc azd aze azf azg azh azi azj ayI aB3 (λxr cr=>aj .i64 (i*n_2)&&(aj .i64 ((i*n_2)+t22)&&(aj .i64 (t22*n_2)&&(aj .i64 ((t22*n_2)+i)&&(inR ((i*n_2)+t22) aAr.length&&(decide ((Int.toNat ((i*n_2)+t22))<aAr.length)&&(inR ((t22*n_2)+i) (List.length (aAr.set (Int.toNat ((i*n_2)+t22)) xr))&&(decide ((Int.toNat ((t22*n_2)+i))<(List.length (aAr.set (Int.toNat ((i*n_2)+t22)) xr)))&&(aj .i64 (t22+1)&&K ((t22+1),cr,(List.set (aAr.set (Int.toNat ((i*n_2)+t22)) xr) (Int.toNat ((t22*n_2)+i)) xr)))))))))))) (e0 ayI aAr))
def fi (n_1 t16 at_ aAN aAO aAP:Int) (aAQ:LF) (aAR aAS:Int) (aAT:LF) (aAU:Int) (b6:LF) (t4 aAk out avh:Int) (e0:Ky6):(Int × Bool × LF)->((Int × Bool × LF)->Bool)->Bool:=λv_ K=>match v_ with
 | (t17,b5,b9)=>(cond (decide (t17<t16)) (aj .i64 (t17+1)&&ah N (fj N aua n_1 t17 t16 t17 (t17+1) at_ aAN aAO aAP aAQ aAR aAS aAT aAU b6 t4 aAk out avh (λaAq aFT=>aj .i64 (t17+1)&&K ((t17+1),aAq,aFT))) (0,b5,b9)) (e0 b5 b9))
def jh (n b b_1 b_2 b_3:Int) (b_4:LF) (b_5 b_6:Int) (b_7:LF) (b_8:Int) (b_9:Bool) (aym:LF) (k0:Ky6):Bool:=
 (aj .i64 (n*n)&&(mB 8 (n*n) (n*n)&&ah N (fi N aua n n b b_1 b_2 b_3 b_4 b_5 b_6 b_7 b_8 aym 0 0 n n (λaDw aFU=>k0 aDw aFU)) (0,b_9,(List.replicate (Int.toNat (n*n)) (some 0)))))
end
def gz:cw:=jh N (eK N)
abbrev EK:=Bool->(Bool)->Bool
def aaf (N:Nat) (b k0:Bool):Bool:=
 k0
def aeM:EK:=aaf N
abbrev dh:=Int->Int->Bool->LF->LF->(Ky0)->(Kz1)->Bool
def kv (N:Nat) (ayl:EK) (auU:FB) (p_0 p_1:Int) (b:Bool) (b_1 b_2:LF) (k0:Ky0) (k1:Kz1):Bool:=
 (ayl b (cond b (k0 0 0 5) (auU p_0 p_1 b_2 (λcr=>cond (!cr) (k0 0 0 151) (k1 0)))))
def kI:dh:=kv N (aeM N) (f7 N)
def j7 (N:Nat) (auA:jk) (aus:BR) (axe:FB) (aue:eC) (awA:Il) (aun:H9) (auh:cw) (auk:dh) (t49:Int) (s:LF) (s_4 s_5:Int) (s_6:LF) (f f_3:Int) (f_4:LF) (q q_3:Int) (q_4:LF) (t6 awO n:Int) (e0:LF->Bool->Bool):(Int × LF × Bool)->((Int × LF × Bool)->Bool)->Bool:=λv_ K=>match v_ with
 | (t50,x,b7)=>(cond (decide (t50<t49)) (aue f f_3 f_4 t50 (λxsr=>awA xsr s b7 (λxr auN=>inR t50 x.length&&(decide (t50.toNat<x.length)&&(aj .i64 (t50+1)&&K ((t50+1),(x.set t50.toNat xr),auN)))))) (e0 x b7))
def mn (auA:jk) (aus:BR) (axe:FB) (aue:eC) (awA:Il) (aun:H9) (auh:cw) (auk:dh) (s_0:LF) (s_1 s_2:Int) (s_3:LF) (f_0 f_1:Int) (f_2:LF) (q_0 q_1:Int) (q_2:LF) (k0:Ky0) (k1:Kx4):Bool:=
 (auA s_0 s_1 s_2 s_3 (λnr=>cond (nr != 0) (k0 0 0 nr) (aus f_0 f_1 f_2 ((s_0.length:Nat):Int) (λaur=>cond (aur != 0) (k0 0 0 aur) (aus q_0 q_1 q_2 ((s_0.length:Nat):Int) (λaut=>cond (aut != 0) (k0 0 0 aut) (axe q_0 q_1 q_2 (λcr=>cond (!cr) (k0 0 0 150) (mB 8 ((s_0.length:Nat):Int) ((s_0.length:Nat):Int)&&ah N (j7 N auA aus axe aue awA aun auh auk (((List.length (List.replicate (Int.toNat ((s_0.length:Nat):Int)) (some 0))):Nat):Int) s_0 s_1 s_2 s_3 f_0 f_1 f_2 q_0 q_1 q_2 0 0 ((s_0.length:Nat):Int) (λx_1 aA3=>aun f_0 f_1 f_2 s_1 s_2 s_3 aA3 (λavT axp=>auh ((s_0.length:Nat):Int) f_0 s_2 f_0 f_1 f_2 q_0 q_1 q_2 ((s_0.length:Nat):Int) avT axp (λawL axl=>auk ((s_0.length:Nat):Int) ((s_0.length:Nat):Int) awL x_1 axl (λavw awc n5=>k0 avw awc n5) (λn6=>k1 ((s_0.length:Nat):Int) ((s_0.length:Nat):Int) n6 x_1 axl))))) (0,(List.replicate (Int.toNat ((s_0.length:Nat):Int)) (some 0)),false))))))))))
def mD:EF:=mn N (kf N) (nN N) (aeU N) (mE N) (VT N) (jV N) (gz N) (kI N)
abbrev K3:=LF->LF->LF->LF->(LF->LF->LF->LF->Bool)->Bool
def Nv (N:Nat) (t6 t7 t12:Int) (b2 b3 b4:LF) (e0:Kz4):(Int × LF)->((Int × LF)->Bool)->Bool:=λv_ K=>match v_ with
 | (t13,l)=>(cond (decide (t13<t12)) (inR t13 l.length&&(decide (t13.toNat<l.length)&&(aj .i64 (t13+1)&&K ((t13+1),(l.set t13.toNat (some 4635118810238550016)))))) (e0 l))
def Ns (N:Nat) (awO aAD axK:Int) (axL azk aCw:LF) (e0:Kz4):(Int × LF)->((Int × LF)->Bool)->Bool:=λv_ K=>match v_ with
 | (axa,l_1)=>(cond (decide (axa<axK)) (inR axa l_1.length&&(decide (axa.toNat<l_1.length)&&(aj .i64 (axa+1)&&K ((axa+1),(l_1.set axa.toNat (some 4635118810238550016)))))) (e0 l_1))
def Nt (N:Nat) (ayw aDc aBq:Int) (aBF aCt aCx:LF) (e0:Kz4):(Int × LF)->((Int × LF)->Bool)->Bool:=λv_ K=>match v_ with
 | (ays,l_2)=>(cond (decide (ays<aBq)) (inR ays l_2.length&&(decide (ays.toNat<l_2.length)&&(aj .i64 (ays+1)&&K ((ays+1),(l_2.set ays.toNat (some 4635118810238550016)))))) (e0 l_2))
def Nu (N:Nat) (ayx aDd aBr:Int) (aCs aCu aCv:LF) (e0:Kz4):(Int × LF)->((Int × LF)->Bool)->Bool:=λv_ K=>match v_ with
 | (ayt,l_3)=>(cond (decide (ayt<aBr)) (inR ayt l_3.length&&(decide (ayt.toNat<l_3.length)&&(aj .i64 (ayt+1)&&K ((ayt+1),(l_3.set ayt.toNat (some 4635118810238550016)))))) (e0 l_3))
def ahr (b b_1 b_2 b_3:LF) (k0:LF->LF->LF->LF->Bool):Bool:=
 (ah N (Nv N 4 0 ((b.length:Nat):Int) b_1 b_2 b_3 (λb1=>ah N (Ns N 4 1 ((b_1.length:Nat):Int) b1 b_2 b_3 (λaA2=>ah N (Nt N 4 2 ((b_2.length:Nat):Int) b1 aA2 b_3 (λaDm=>ah N (Nu N 4 3 ((b_3.length:Nat):Int) b1 aA2 aDm (λaFR=>k0 b1 aA2 aDm aFR)) (0,b_3))) (0,b_2))) (0,b_1))) (0,b))
def aeS:K3:=ahr (N+24)
abbrev Oe:=LF->LF->(Kz0)->Bool
def Nx (N:Nat) (SQ3:EL) (a_1 b_1:LF) (t12:Int) (e0:Kz0) (e1:Bool):(Int)->((Int)->Bool)->Bool:=λv_ K=>match v_ with
 | t13=>(cond (decide (t13<t12)) (inR t13 a_1.length&&(inR t13 b_1.length&&SQ3 (a_1.getD t13.toNat none) (b_1.getD t13.toNat none) (λcr=>cond (!cr) (e0 false) (aj .i64 (t13+1)&&K (t13+1))))) e1)
def an5 (SQ3:EL) (a b:LF) (k0:Kz0):Bool:=
 (cond (((a.length:Nat):Int) != ((b.length:Nat):Int)) (k0 false) (ah N (Nx N SQ3 a b ((a.length:Nat):Int) (λt4=>k0 t4) (k0 true)) 0))
def aeY:Oe:=an5 N (sQ3 N)
abbrev Q0:=LF->Int->Int->LF->LF->Int->Int->LF->(Kz0)->Bool
def GQ7 (N:Nat) (aA1:Oe) (a_0:LF) (a_1 a_2:Int) (a_3 b_0:LF) (b_1 b_2:Int) (b_3:LF) (k0:Kz0):Bool:=
 (aA1 a_0 b_0 (λcr=>cond (cr==true) (cond ((a_1==b_1)==true) (cond ((a_2==b_2)==true) (aA1 a_3 b_3 (λauN=>k0 auN)) (k0 false)) (k0 false)) (k0 false)))
def sQ7:Q0:=GQ7 N (aeY N)
abbrev aqO:=LI->Int->LI->LI->LI->Int->(Kz0)->Bool
def ahu (N:Nat) (SQ4:QZ) (awx:xi) (axo:EF) (auE:EF) (ax9:K3) (SQ7:Q0) (SQ0:QU) (x:LI) (rows:Int) (p m q:LI) (other:Int) (k0:Kz0):Bool:=
 (SQ4 x rows rows p (λxsr axp=>awx m (λaxl=>awx q (λayf=>SQ4 x rows rows p (λaDh aDi=>awx m (λaDj=>awx q (λaFM=>axo aDh rows rows aDi rows rows aDj other other aFM (λnr aur aut=>auE xsr rows rows axp rows rows axl other other ayf (λn6 n7 n8=>ax9 xsr axp axl ayf (λy14 y15 y16 y17=>SQ7 [] n6 n7 [] [] nr aur [] (λcr=>cond (cr==true) (cond ((n8==aut)==true) (SQ0 (λauN=>k0 auN)) (k0 false)) (k0 false)))) (λn9 n10 n11 aDV y11=>ax9 xsr axp axl ayf (λy18 y19 y20 y21=>SQ7 aDV n9 n10 y11 [] nr aur [] (λavT=>cond (avT==true) (cond ((n11==aut)==true) (SQ0 (λawL=>k0 awL)) (k0 false)) (k0 false))))) (λavw awc n5 aDu aDv=>auE xsr rows rows axp rows rows axl other other ayf (λn12 n13 n14=>ax9 xsr axp axl ayf (λy22 y23 y24 y25=>SQ7 [] n12 n13 [] aDu avw awc aDv (λayV=>cond (ayV==true) (cond ((n14==n5)==true) (SQ0 (λaAs=>k0 aAs)) (k0 false)) (k0 false)))) (λn15 n16 n17 y12 y13=>ax9 xsr axp axl ayf (λy26 y27 y28 y29=>SQ7 y12 n15 n16 y13 aDu avw awc aDv (λaA5=>cond (aA5==true) (cond ((n17==n5)==true) (SQ0 (λaA6=>k0 aA6)) (k0 false)) (k0 false))))))))))))
def apy:aqO:=ahu N (sQ4 N) (PY N) (VP N) (mD N) (aeS N) (sQ7 N) (sQ0 N)
abbrev Do:=LF->Int->Int->LF->LF->Fl->(Fl->Fl->Int->Bool)->Bool
abbrev aqM:=Fl->Fl->Fl->LF->Fl->Fl->Fl->LF->(Kz0)->Bool
end Go.Proofs.YteifemaagdeomaaGreatDoor
