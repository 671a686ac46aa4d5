/-
  THE PROGRAM's FUNCTIONS, as their meanings (written by program).
  Conditions: none.
-/
import Derived.Test.YtldenpmpmifnlaaGreatDoorMachT
set_option linter.unusedVariables false
namespace Go.Proofs.YtldenpmpmifnlaaGreatDoor
open Go Go.Mach
abbrev LI:=List Int
abbrev LF:=List Fl
abbrev Kx0:=Int->Int->Fl->Fl->Fl->Int->LF->LF->LF->Bool
abbrev Kx1:=Int->Int->Fl->Fl->Fl->Int->LF->Bool
abbrev Kx2:=Int->Int->Fl->Fl->Fl->Int->Bool
abbrev Kx3:=Int->Int->Int->Int->Bool->Bool
abbrev Kx4:=Bool->Int->Int->Int->Bool
abbrev Kx5:=Bool->LI->Bool->LI->Bool
abbrev Kx6:=Bool->Int->Int->Bool
abbrev Kx7:=Bool->Nat->Nat->Bool
abbrev Kx8:=Int->Int->Int->Bool
abbrev Kx9:=Int->Bool->LI->Bool
abbrev Ky0:=Bool->Bool->Bool
abbrev Ky1:=Bool->LI->Bool
abbrev Ky2:=Int->Int->Bool
abbrev Ky3:=Fl->Bool->Bool
abbrev Ky4:=Bool->LF->Bool
abbrev Ky5:=Int->LI->Bool
abbrev Ky6:=LI->LI->Bool
abbrev Ky7:=Bool->Bool
abbrev Ky8:=Int->Bool
abbrev Ky9:=Nat->Bool
abbrev Kz0:=Fl->Bool
abbrev Kz1:=LI->Bool
abbrev RT0:RT:=(.ptr (.pair (.pair .bool (.ints .u64)) (.pair .bool (.ints .u64))))
abbrev RY0:=(Bool × LI) × Bool × LI
def di:LI:=[0,1,2,2,3,3,3,3,4,4,4,4,4,4,4,4,5,5,5,5,5,5,5,5,5,5,5,5,5,5,5,5,6,6,6,6,6,6,6,6,6,6,6,6,6,6,6,6,6,6,6,6,6,6,6,6,6,6,6,6,6,6,6,6,7,7,7,7,7,7,7,7,7,7,7,7,7,7,7,7,7,7,7,7,7,7,7,7,7,7,7,7,7,7,7,7,7,7,7,7,7,7,7,7,7,7,7,7,7,7,7,7,7,7,7,7,7,7,7,7,7,7,7,7,7,7,7,7,8,8,8,8,8,8,8,8,8,8,8,8,8,8,8,8,8,8,8,8,8,8,8,8,8,8,8,8,8,8,8,8,8,8,8,8,8,8,8,8,8,8,8,8,8,8,8,8,8,8,8,8,8,8,8,8,8,8,8,8,8,8,8,8,8,8,8,8,8,8,8,8,8,8,8,8,8,8,8,8,8,8,8,8,8,8,8,8,8,8,8,8,8,8,8,8,8,8,8,8,8,8,8,8,8,8,8,8,8,8,8,8,8,8,8,8,8,8,8,8,8,8,8,8,8,8,8,8]
abbrev pL:=Nat->(Ky8)->Bool
def Fq (N:Nat):pL:=λn k=>k n
abbrev kt:=(Kx8)->Bool
def zP (N:Nat) (k0:Kx8):Bool:=
 (k0 52 2047 1075)
def xQ (N:Nat):kt:=zP N
abbrev ue:=Int->Int->Int->(Ky8)->Bool
def TP (N:Nat) (f_0 f_1 f_2:Int) (k0:Ky8):Bool:=
 (au .i64 (f_1+1)&&(decide (0<=f_0)&&k0 (IntKind.wrap .u64 ((IntKind.wrap .u64 (f_1+1))*2 ^ (min f_0.toNat 64)))))
def Qr (N:Nat):ue:=TP N
abbrev z7:=Int->Int->Int->(Ky8)->Bool
def afi (N:Nat) (f_0 f_1 f_2:Int) (k0:Ky8):Bool:=
 (decide (0<=f_0)&&k0 (IntKind.wrap .u64 ((IntKind.wrap .u64 f_1)*2 ^ (min f_0.toNat 64))))
def aes (N:Nat):z7:=afi N
abbrev GV:=Int->Int->Int->Int->(Ky7)->Bool
def abB (N:Nat) (anN:ue) (aoS:z7) (b f_0 f_1 f_2:Int) (k0:Ky7):Bool:=
 (anN f_0 f_1 f_2 (λnr=>aoS f_0 f_1 f_2 (λaly=>k0 (decide ((az .andNot .u64 b nr)>aly)))))
def aer (N:Nat):GV:=abB N (Qr N) (aes N)
abbrev tm:=Int->Int->Int->(Ky8)->Bool
def afh (N:Nat) (f_0 f_1 f_2:Int) (k0:Ky8):Bool:=
 (decide (0<=f_0)&&k0 (IntKind.wrap .u64 ((1:Int)*2 ^ (min f_0.toNat 64))))
def IE (N:Nat):tm:=afh N
abbrev BC:=Int->Int->Int->(Ky8)->Bool
def Px (N:Nat) (aoS:z7) (amL:tm) (f_0 f_1 f_2:Int) (k0:Ky8):Bool:=
 (aoS f_0 f_1 f_2 (λnr=>amL f_0 f_1 f_2 (λaly=>k0 (az .or .u64 (az .or .u64 nr (Int.fdiv aly (2 ^ 1))) (IntKind.wrap .u64 (Int.tdiv f_0 52))))))
def Qz (N:Nat):BC:=Px N (aes N) (IE N)
abbrev zX:=Int->Int->Int->Int->(Ky8)->Bool
def abb (N:Nat) (aq9:GV) (apM:BC) (b f_0 f_1 f_2:Int) (k0:Ky8):Bool:=
 (aq9 b f_0 f_1 f_2 (λcr=>cond cr (apM f_0 f_1 f_2 (λnr=>k0 nr)) (k0 b)))
def WZ (N:Nat):zX:=abb N (aer N) (Qz N)
abbrev yq:=Int->Int->Int->Int->(Kx6)->Bool
def aaY (N:Nat) (aoJ:zX) (anN:ue) (amL:tm) (b f_0 f_1 f_2:Int) (k0:Kx6):Bool:=
 (aoJ b f_0 f_1 f_2 (λnr=>anN f_0 f_1 f_2 (λaly=>decide (0<=f_0)&&(au .i64 (az .and .u64 (Int.fdiv nr (2 ^ (min f_0.toNat 64))) (IntKind.wrap .u64 f_1))&&amL f_0 f_1 f_2 (λalQ=>k0 ((az .and .u64 nr aly) != 0) (az .and .u64 (Int.fdiv nr (2 ^ (min f_0.toNat 64))) (IntKind.wrap .u64 f_1)) (az .and .u64 nr (IntKind.wrap .u64 (alQ - 1))))))))
def K8 (N:Nat):yq:=aaY N (WZ N) (Qr N) (IE N)
abbrev yp:=Int->Int->Int->Int->(Ky8)->Bool
def aaX (N:Nat) (ane:yq) (b f_0 f_1 f_2:Int) (k0:Ky8):Bool:=
 (ane b f_0 f_1 f_2 (λcr nr aly=>cond ((nr==f_1)==true) (cond (aly != 0) (k0 1) (cond (nr==f_1) (k0 2) (cond ((nr==0)==true) (cond (aly==0) (k0 3) (cond (nr==0) (k0 4) (k0 5))) (cond (nr==0) (k0 4) (k0 5))))) (cond (nr==f_1) (k0 2) (cond ((nr==0)==true) (cond (aly==0) (k0 3) (cond (nr==0) (k0 4) (k0 5))) (cond (nr==0) (k0 4) (k0 5))))))
def K7 (N:Nat):yp:=aaX N (K8 N)
abbrev LD:=Nat->(Ky8)->Bool
def Pt (N:Nat) (amN:pL) (al4:kt) (anc:yp) (x:Nat) (k0:Ky8):Bool:=
 (amN x (λnr=>al4 (λaly alQ amB=>anc nr aly alQ amB (λanB=>k0 anB))))
def HH (N:Nat):LD:=Pt N (Fq N) (xQ N) (K7 N)
abbrev LG:=Nat->Nat->(Ky7)->Bool
def Pu (N:Nat) (amN:pL) (al4:kt) (aoJ:zX) (a b:Nat) (k0:Ky7):Bool:=
 (amN a (λnr=>al4 (λaly alQ amB=>aoJ nr aly alQ amB (λanB=>amN b (λn5=>al4 (λn6 n7 n8=>aoJ n5 n6 n7 n8 (λn9=>k0 (anB==n9))))))))
def HI (N:Nat):LG:=Pu N (Fq N) (xQ N) (WZ N)
abbrev jJ:=Int->(Kz0)->Bool
def Fp (N:Nat):jJ:=λn k=>k (ir n.toNat)
abbrev LH:=Nat->(Kz0)->Bool
def Pz (N:Nat) (amN:pL) (alL:jJ) (x:Nat) (k0:Kz0):Bool:=
 (amN x (λnr=>alL (az .andNot .u64 nr 9223372036854775808) (λxr=>k0 xr)))
def HJ (N:Nat):LH:=Pz N (Fq N) (Fp N)
abbrev GH:=Int->(Kz0)->Bool
def afg (N:Nat) (alL:jJ) (b:Int) (k0:Kz0):Bool:=
 (alL b (λxr=>k0 xr))
def agO (N:Nat):GH:=afg N (Fp N)
abbrev ku:=Fl->(Kz0)->Bool
def sF (N:Nat):ku:=λx k=>k (oJ x)
abbrev qe:=Fl->Int->(Ky7)->Bool
def TY (N:Nat) (alW:ku) (f:Fl) (sign:Int) (k0:Ky7):Bool:=
 (cond (sign==0) (alW f (λxr=>k0 (fgt xr (some 9218868437227405311)))) (cond (decide (sign<0)) (k0 (fgt (afZ f) (some 9218868437227405311))) (k0 (fgt f (some 9218868437227405311)))))
def Lg (N:Nat):qe:=TY N (sF N)
abbrev yO:=Fl->(Ky7)->Bool
def TO (N:Nat) (f:Fl) (k0:Ky7):Bool:=
 (k0 (!feq f f))
def WQ (N:Nat):yO:=TO N
abbrev D6:=Fl->(Fl->Int->Bool)->Bool
def TX (N:Nat) (alW:ku) (x:Fl) (k0:Fl->Int->Bool):Bool:=
 (alW x (λxr=>cond (flt xr (some 4503599627370496)) (k0 (aZ x (some 4841369599423283200)) (-52)) (k0 x 0)))
def W7 (N:Nat):D6:=TX N (sF N)
abbrev mo:=Fl->(Ky8)->Bool
def yH (N:Nat):mo:=λx k=>match x with | some b=>k b | none=>false
abbrev yK:=Fl->Fl->(Kz0)->Bool
def O_ (N:Nat) (alY:mo) (alL:jJ) (f sign:Fl) (k0:Kz0):Bool:=
 (alY f (λnr=>alY sign (λaly=>alL (az .or .u64 (az .andNot .u64 nr 9223372036854775808) (az .and .u64 aly 9223372036854775808)) (λxr=>k0 xr))))
def Qj (N:Nat):yK:=O_ N (yH N) (Fp N)
abbrev q9:=Int->(Kz0)->Bool
def A6 (N:Nat) (alL:jJ) (sign v:Int) (k0:Kz0):Bool:=
 (alL v (λxr=>k0 xr))
def ub (N:Nat) (alL:jJ) (sign:Int) (k0:Kz0):Bool:=
 (cond (decide (sign>=0)) (A6 N alL sign 9218868437227405312 k0) (A6 N alL sign 18442240474082181120 k0))
def xR (N:Nat):q9:=ub N (Fp N)
abbrev Bz:=Fl->Int->(Kz0)->Bool
def Jg (N:Nat) (ams:qe) (amX:yO) (anZ:D6) (alY:mo) (amU:yK) (al1:q9) (alL:jJ) (frac:Fl) (exp arg x:Int) (m:Fl) (k0:Kz0):Bool:=
 (au .i64 (arg+1023)&&alL (az .or .u64 (az .andNot .u64 x 9218868437227405312) (IntKind.wrap .u64 ((IntKind.wrap .u64 (arg+1023))*2 ^ 52))) (λaoM=>k0 (aZ m aoM)))
def DG (N:Nat) (ams:qe) (amX:yO) (anZ:D6) (alY:mo) (amU:yK) (al1:q9) (alL:jJ) (frac:Fl) (exp:Int) (k0:Kz0):Bool:=
 (cond (feq frac (some 0)) (k0 frac) (ams frac 0 (λcr=>cond (cr==false) (amX frac (λalT=>cond alT (k0 frac) (anZ frac (λxr nr=>au .i64 (exp+nr)&&alY xr (λaly=>au .i64 (Int.fdiv aly (2 ^ 52))&&(au .i64 ((az .and .i64 (Int.fdiv aly (2 ^ 52)) 2047) - 1023)&&(au .i64 ((exp+nr)+((az .and .i64 (Int.fdiv aly (2 ^ 52)) 2047) - 1023))&&cond (decide (((exp+nr)+((az .and .i64 (Int.fdiv aly (2 ^ 52)) 2047) - 1023))<(-1075))) (amU (some 0) xr (λanR=>k0 anR)) (cond (decide (((exp+nr)+((az .and .i64 (Int.fdiv aly (2 ^ 52)) 2047) - 1023))>1023)) (cond (flt xr (some 0)) (al1 (-1) (λaou=>k0 aou)) (al1 1 (λapr=>k0 apr))) (cond (decide (((exp+nr)+((az .and .i64 (Int.fdiv aly (2 ^ 52)) 2047) - 1023))<(-1022))) (au .i64 (((exp+nr)+((az .and .i64 (Int.fdiv aly (2 ^ 52)) 2047) - 1023))+53)&&Jg N ams amX anZ alY amU al1 alL frac exp (((exp+nr)+((az .and .i64 (Int.fdiv aly (2 ^ 52)) 2047) - 1023))+53) aly (some 4368491638549381120) k0) (Jg N ams amX anZ alY amU al1 alL frac exp ((exp+nr)+((az .and .i64 (Int.fdiv aly (2 ^ 52)) 2047) - 1023)) aly (some 4607182418800017408) k0)))))))))) (k0 frac))))
def Qw (N:Nat):Bz:=DG N (Lg N) (WQ N) (W7 N) (yH N) (Qj N) (xR N) (Fp N)
abbrev Bw:=Fl->Int->(Kz0)->Bool
def I9 (N:Nat) (apJ:Bz) (frac:Fl) (exp:Int) (k0:Kz0):Bool:=
 (apJ frac exp (λxr=>k0 xr))
def HG (N:Nat):Bw:=I9 N (Qw N)
abbrev Bf:=Int->(Ky7)->Bool
def Pe (N:Nat) (n:Int) (k0:Ky7):Bool:=
 (cond ((decide (n>=0))==true) (k0 (decide (n<=12))) (k0 false))
def Ql (N:Nat):Bf:=Pe N
abbrev Br:=Fl->(Ky8)->Bool
def K2 (N:Nat):Br:=λx k=>k (JD x)
abbrev nz:=LF->(Ky7)->Bool
def oe (N:Nat) (anH:Br) (t6:LF) (t7:Int) (e0:Ky7) (e1:Bool):(Int)->((Int)->Bool)->Bool:=λv_ K=>match v_ with
 | t8=>(cond (decide (t8<t7)) (inR t8 t6.length&&anH (t6.getD t8.toNat none) (λnr=>cond ((nr==1)==false) (cond (nr==2) (e0 false) (au .i64 (t8+1)&&K (t8+1))) (e0 false))) e1)
def aa0 (N:Nat) (anH:Br) (l:LF) (k0:Ky7):Bool:=
 (al N (oe N anH l ((l.length:Nat):Int) (λt2=>k0 t2) (k0 true)) 0)
def K9 (N:Nat):nz:=aa0 N (K2 N)
abbrev uW:=Int->Int->LF->(Ky8)->Bool
def aaN (N:Nat) (aoY:Bf) (alV:nz) (m_0 m_1:Int) (m_2:LF) (k0:Ky8):Bool:=
 (aoY m_0 (λcr=>cond ((!cr)==false) (aoY m_1 (λalT=>cond (!alT) (k0 1) (au .i64 (m_0*m_1)&&cond (((m_2.length:Nat):Int) != (m_0*m_1)) (k0 3) (alV m_2 (λamQ=>cond (!amQ) (k0 4) (k0 0)))))) (k0 1)))
def Tg (N:Nat):uW:=aaN N (Ql N) (K9 N)
abbrev GU:=Int->Int->LF->Int->Int->(Kz0)->Bool
def abA (N:Nat) (m_0 m_1:Int) (m_2:LF) (i j:Int) (k0:Kz0):Bool:=
 (au .i64 (i*m_1)&&(au .i64 ((i*m_1)+j)&&(inR ((i*m_1)+j) m_2.length&&k0 (m_2.getD (Int.toNat ((i*m_1)+j)) none))))
def aeq (N:Nat):GU:=abA N
abbrev Bn:=Fl->Fl->(Ky7)->Bool
def K0 (N:Nat):Bn:=λx y k=>k (decide (cn x=cn y))
abbrev GI:=Int->Int->LF->(Ky7)->Bool
section
variable (N:Nat) (ame:uW) (anP:GU) (amO:Bn)
def IR (N:Nat) (ame:uW) (anP:GU) (amO:Bn) (i apW apX t20 m_5 m_6:Int) (m_7:LF) (e0:Ky7) (e1:Bool):(Int)->((Int)->Bool)->Bool:=λv_ K=>match v_ with
 | t21=>(cond (decide (t21<t20)) (anP m_5 m_6 m_7 i t21 (λxr=>anP m_5 m_6 m_7 t21 i (λanR=>amO xr anR (λcr=>cond (!cr) (e0 false) (au .i64 (t21+1)&&K (t21+1)))))) e1)
def IQ (t16 m m_3:Int) (m_4:LF) (e0:Ky7) (e1:Bool):(Int)->((Int)->Bool)->Bool:=λv_ K=>match v_ with
 | t17=>(cond (decide (t17<t16)) (al N (IR N ame anP amO t17 t16 t17 t17 m m_3 m_4 (λt2=>e0 t2) (au .i64 (t17+1)&&K (t17+1))) 0) e1)
def abm (m_0 m_1:Int) (m_2:LF) (k0:Ky7):Bool:=
 (ame m_0 m_1 m_2 (λnr=>cond ((nr != 0)==false) (cond (m_0 != m_1) (k0 false) (al N (IQ N ame anP amO m_0 m_0 m_1 m_2 (λauq=>k0 auq) (k0 true)) 0)) (k0 false)))
end
def ael (N:Nat):GI:=abm N (Tg N) (aeq N) (K0 N)
abbrev aR:=Bool->Int->(Bool)->Bool
def ny (N:Nat) (is:Bool) (e:Int) (k0:Bool):Bool:=
 (cond (!is) false k0)
def cM (N:Nat):aR:=ny N
abbrev DO:=Int->(Ky8)->Bool
def TQ (N:Nat) (x:Int) (k0:Ky8):Bool:=
 (cond (x==0) (k0 64) (inR (Int.fdiv (IntKind.wrap .u64 ((az .and .u64 x (IntKind.wrap .u64 (0 - x)))*285870213051353865)) (2 ^ 58)) 64&&(au .i64 (CY.getD (Int.toNat (Int.fdiv (IntKind.wrap .u64 ((az .and .u64 x (IntKind.wrap .u64 (0 - x)))*285870213051353865)) (2 ^ 58))) 0)&&k0 (CY.getD (Int.toNat (Int.fdiv (IntKind.wrap .u64 ((az .and .u64 x (IntKind.wrap .u64 (0 - x)))*285870213051353865)) (2 ^ 58))) 0))))
def Nk (N:Nat):DO:=TQ N
abbrev GJ:=Int->Int->Int->Int->(Kx4)->Bool
def DI (N:Nat) (ane:yq) (anc:yp) (amL:tm) (an3:DO) (b f_0 f_1 f_2:Int) (p:Bool) (p_1 p_2:Int) (k0:Kx4):Bool:=
 (an3 p_1 (λanB=>decide (0<=anB)&&(au .i64 (p_2+anB)&&k0 p (Int.fdiv p_1 (2 ^ (min anB.toNat 64))) (p_2+anB) 0)))
def RK (N:Nat) (ane:yq) (anc:yp) (amL:tm) (an3:DO) (b f_0 f_1 f_2:Int) (k0:Kx4):Bool:=
 (ane b f_0 f_1 f_2 (λcr nr aly=>au .i64 (nr - f_2)&&anc b f_0 f_1 f_2 (λalQ=>cond (alQ==1) (k0 false 0 0 4) (cond (alQ==2) (k0 false 0 0 4) (cond (alQ==3) (k0 cr 0 0 0) (cond (alQ==4) (au .i64 ((nr - f_2)+1)&&DI N ane anc amL an3 b f_0 f_1 f_2 cr aly ((nr - f_2)+1) k0) (amL f_0 f_1 f_2 (λamB=>DI N ane anc amL an3 b f_0 f_1 f_2 cr (az .or .u64 aly amB) (nr - f_2) k0))))))))
def aem (N:Nat):GJ:=RK N (K8 N) (K7 N) (IE N) (Nk N)
abbrev yM:=Fl->(Kx4)->Bool
def Pk (N:Nat) (alY:mo) (al4:kt) (aqZ:GJ) (x:Fl) (k0:Kx4):Bool:=
 (alY x (λnr=>al4 (λaly alQ amB=>aqZ nr aly alQ amB (λcr anB n5 n6=>k0 cr anB n5 n6))))
def CW (N:Nat):yM:=Pk N (yH N) (xQ N) (aem N)
abbrev kH:=LI->(Ky9)->Bool
def zD (N:Nat) (x:LI) (e0:Ky8):(Int)->((Int)->Bool)->Bool:=λv_ K=>match v_ with
 | n=>(cond ((decide (n>0))==true) (au .i64 (n - 1)&&(inR (n - 1) x.length&&(decide ((Int.toNat (n - 1))<x.length)&&cond ((x.getD (Int.toNat (n - 1)) 0)==0) (au .i64 (n - 1)&&K (n - 1)) (e0 n)))) (e0 n))
def GQ2 (N:Nat) (b:LI) (k0:Ky9):Bool:=
 (al N (zD N b (λn_1=>decide (0<=n_1/\n_1<=((b.length:Nat):Int))&&k0 (n_1.toNat - 0))) ((b.length:Nat):Int))
def sQ2 (N:Nat):kH:=GQ2 N
abbrev oF:=Int->(Kz1)->Bool
def aaS (N:Nat) (SQ2:kH) (n:Int) (k0:Kz1):Bool:=
 (SQ2 [n] (λmr=>decide ((0+mr)<=(List.length [n]))&&k0 (List.take mr (List.drop 0 [n]))))
def Ce (N:Nat):oF:=aaS N (sQ2 N)
abbrev oC:=Bool->LI->Bool->(Ky7)->Bool
def aaG (N:Nat) (neg:Bool) (abs:LI) (b:Bool) (k0:Ky7):Bool:=
 (cond (neg==true) (k0 (decide (((abs.length:Nat):Int)>0))) (k0 false))
def IB (N:Nat):oC:=aaG N
abbrev DQ:=Int->Bool->(Ky1)->Bool
def aaR (N:Nat) (alI:oF) (amJ:oC) (n:Int) (b:Bool) (k0:Ky1):Bool:=
 (alI n (λnsr=>amJ false nsr b (λcr=>k0 cr nsr)))
def K6 (N:Nat):DQ:=aaR N (Ce N) (IB N)
abbrev jK:=LI->(Kz1)->Bool
def aaI (N:Nat) (x:LI) (k0:Kz1):Bool:=
 (decide ((List.length ([]++x))*8<=140737488355328)&&k0 ([]++x))
def Dk (N:Nat):jK:=aaI N
abbrev uY:=Bool->LI->Bool->LI->(Ky7)->Bool
def ae8 (N:Nat) (neg:Bool) (abs:LI) (b:Bool) (b_1:LI) (k0:Ky7):Bool:=
 (cond (neg==true) (k0 (decide (((abs.length:Nat):Int)>0))) (k0 false))
def WU (N:Nat):uY:=ae8 N
abbrev DV:=Bool->LI->(Ky1)->Bool
def aa8 (N:Nat) (alH:jK) (anO:uY) (b:Bool) (b_1:LI) (k0:Ky1):Bool:=
 (alH b_1 (λnsr=>anO (!b) nsr b b_1 (λcr=>k0 cr nsr)))
def Ld (N:Nat):DV:=aa8 N (Dk N) (WU N)
abbrev GC:=Int->Bool->(Ky1)->Bool
def abf (N:Nat) (alI:oF) (amJ:oC) (n:Int) (b:Bool) (k0:Ky1):Bool:=
 (cond (decide (n<0)) (alI (IntKind.wrap .u64 (0 - (IntKind.wrap .u64 n))) (λnsr=>amJ true nsr b (λcr=>k0 cr nsr))) (alI (IntKind.wrap .u64 n) (λalG=>amJ false alG b (λalT=>k0 alT alG))))
def agJ (N:Nat):GC:=abf N (Ce N) (IB N)
abbrev yu:=Int->(Ky1)->Bool
def abv (N:Nat) (aqT:GC) (n:Int) (k0:Ky1):Bool:=
 (aqT n false (λcr nsr=>k0 cr nsr))
def Lf (N:Nat):yu:=abv N (agJ N)
abbrev Bt:=LI->Int->(Kz1)->Bool
def zF (N:Nat) (SQ2:kH) (words rest:Int) (t24:LI) (t25:Int) (e0:Kz1):(Int × LI)->((Int × LI)->Bool)->Bool:=λv_ K=>match v_ with
 | (t26,z)=>(cond (decide (t26<t25)) (inR t26 t24.length&&(au .i64 (words+t26)&&(inR (words+t26) z.length&&(decide ((Int.toNat (words+t26))<z.length)&&(decide (0<=rest)&&(inR (words+t26) z.length&&(decide ((Int.toNat (words+t26))<z.length)&&(au .i64 (words+t26)&&(au .i64 ((words+t26)+1)&&(decide (0<=(IntKind.wrap .u64 (64 - rest)))&&(inR ((words+t26)+1) (List.length (z.set (Int.toNat (words+t26)) (az .or .u64 (z.getD (Int.toNat (words+t26)) 0) (IntKind.wrap .u64 ((t24.getD t26.toNat 0)*2 ^ (min rest.toNat 64))))))&&(decide ((Int.toNat ((words+t26)+1))<(List.length (z.set (Int.toNat (words+t26)) (az .or .u64 (z.getD (Int.toNat (words+t26)) 0) (IntKind.wrap .u64 ((t24.getD t26.toNat 0)*2 ^ (min rest.toNat 64)))))))&&(au .i64 (t26+1)&&K ((t26+1),(List.set (z.set (Int.toNat (words+t26)) (az .or .u64 (z.getD (Int.toNat (words+t26)) 0) (IntKind.wrap .u64 ((t24.getD t26.toNat 0)*2 ^ (min rest.toNat 64))))) (Int.toNat ((words+t26)+1)) (Int.fdiv (t24.getD t26.toNat 0) (2 ^ (min (Int.toNat (IntKind.wrap .u64 (64 - rest))) 64)))))))))))))))))) (e0 z))
def Pp (N:Nat) (SQ2:kH) (x:LI) (n:Int) (k0:Kz1):Bool:=
 (cond (((x.length:Nat):Int)==0) (k0 []) (au .i64 (IntKind.wrap .u64 (Int.tdiv n 64))&&(au .i64 ((IntKind.wrap .u64 (Int.tdiv n 64))+((x.length:Nat):Int))&&(au .i64 (((IntKind.wrap .u64 (Int.tdiv n 64))+((x.length:Nat):Int))+1)&&(oB 8 (((IntKind.wrap .u64 (Int.tdiv n 64))+((x.length:Nat):Int))+1) (((IntKind.wrap .u64 (Int.tdiv n 64))+((x.length:Nat):Int))+1)&&al N (zF N SQ2 (IntKind.wrap .u64 (Int.tdiv n 64)) (Int.tmod n 64) x ((x.length:Nat):Int) (λz_1=>SQ2 z_1 (λmr=>decide ((0+mr)<=z_1.length)&&k0 (List.take mr (List.drop 0 z_1))))) (0,(List.replicate (Int.toNat (((IntKind.wrap .u64 (Int.tdiv n 64))+((x.length:Nat):Int))+1)) (0:Int))))))))
def Qs (N:Nat):Bt:=Pp N (sQ2 N)
abbrev DT:=Int->Bool->Bool->LI->(Ky1)->Bool
def aa3 (N:Nat) (apF:Bt) (amJ:oC) (n:Int) (b b_1:Bool) (b_2:LI) (k0:Ky1):Bool:=
 (apF b_2 n (λnsr=>amJ b_1 nsr b (λcr=>k0 cr nsr)))
def Nm (N:Nat):DT:=aa3 N (Qs N) (IB N)
abbrev uf:=LI->LI->(Ky8)->Bool
def zA (N:Nat) (x_1 y_1:LI) (e0:Ky8) (e1:Bool):(Int)->((Int)->Bool)->Bool:=λv_ K=>match v_ with
 | i=>(cond (decide (i>=0)) (inR i x_1.length&&(inR i y_1.length&&cond ((x_1.getD i.toNat 0) != (y_1.getD i.toNat 0)) (inR i x_1.length&&(inR i y_1.length&&cond (decide ((x_1.getD i.toNat 0)<(y_1.getD i.toNat 0))) (e0 (-1)) (e0 1))) (au .i64 (i - 1)&&K (i - 1)))) e1)
def GQ6 (N:Nat) (x y:LI) (k0:Ky8):Bool:=
 (cond (((x.length:Nat):Int) != ((y.length:Nat):Int)) (cond (decide (((x.length:Nat):Int)<((y.length:Nat):Int))) (k0 (-1)) (k0 1)) (au .i64 (((x.length:Nat):Int) - 1)&&al N (zA N x y (λt4=>k0 t4) (k0 0)) (((x.length:Nat):Int) - 1)))
def sQ6 (N:Nat):uf:=GQ6 N
abbrev zY:=Int->(Ky8)->Bool
def Jd (N:Nat) (x x_2 n_1:Int) (k0:Ky8):Bool:=
 (cond (decide (x_2>=256)) (au .i64 (n_1+8)&&(inR (IntKind.wrap .u8 (Int.fdiv x_2 (2 ^ 8))) 256&&(au .i64 (di.getD (Int.toNat (IntKind.wrap .u8 (Int.fdiv x_2 (2 ^ 8)))) 0)&&(au .i64 ((n_1+8)+(di.getD (Int.toNat (IntKind.wrap .u8 (Int.fdiv x_2 (2 ^ 8)))) 0))&&k0 ((n_1+8)+(di.getD (Int.toNat (IntKind.wrap .u8 (Int.fdiv x_2 (2 ^ 8)))) 0)))))) (inR (IntKind.wrap .u8 x_2) 256&&(au .i64 (di.getD (Int.toNat (IntKind.wrap .u8 x_2)) 0)&&(au .i64 (n_1+(di.getD (Int.toNat (IntKind.wrap .u8 x_2)) 0))&&k0 (n_1+(di.getD (Int.toNat (IntKind.wrap .u8 x_2)) 0))))))
def Jc (N:Nat) (x x_1 n:Int) (k0:Ky8):Bool:=
 (cond (decide (x_1>=65536)) (au .i64 (n+16)&&Jd N x (Int.fdiv x_1 (2 ^ 16)) (n+16) k0) (Jd N x x_1 n k0))
def RL (N:Nat) (x:Int) (k0:Ky8):Bool:=
 (cond (decide (x>=4294967296)) (Jc N x (Int.fdiv x (2 ^ 32)) 32 k0) (Jc N x x 0 k0))
def W3 (N:Nat):zY:=RL N
abbrev DZ:=LI->(Ky8)->Bool
def aba (N:Nat) (aoQ:zY) (x:LI) (k0:Ky8):Bool:=
 (cond (((x.length:Nat):Int)==0) (k0 0) (au .i64 (((x.length:Nat):Int) - 1)&&(au .i64 (64*(((x.length:Nat):Int) - 1))&&(au .i64 (((x.length:Nat):Int) - 1)&&(inR (((x.length:Nat):Int) - 1) x.length&&aoQ (x.getD (Int.toNat (((x.length:Nat):Int) - 1)) 0) (λnr=>au .i64 ((64*(((x.length:Nat):Int) - 1))+nr)&&k0 ((64*(((x.length:Nat):Int) - 1))+nr)))))))
def Gi (N:Nat):DZ:=aba N (W3 N)
abbrev q7:=LI->Int->(Ky8)->Bool
def aa_ (N:Nat) (x:LI) (i:Int) (k0:Ky8):Bool:=
 (cond (decide (i<((x.length:Nat):Int))) (inR i x.length&&k0 (x.getD i.toNat 0)) (k0 0))
def Np (N:Nat):q7:=aa_ N
abbrev D8:=LI->Int->(Ky8)->Bool
def abE (N:Nat) (amg:q7) (x:LI) (from_:Int) (k0:Ky8):Bool:=
 (au .i64 (Int.tdiv from_ 64)&&amg x (Int.tdiv from_ 64) (λnr=>decide (0<=(IntKind.wrap .u64 (Int.tmod from_ 64)))&&(au .i64 ((Int.tdiv from_ 64)+1)&&amg x ((Int.tdiv from_ 64)+1) (λaly=>decide (0<=(IntKind.wrap .u64 (64 - (IntKind.wrap .u64 (Int.tmod from_ 64)))))&&k0 (az .or .u64 (Int.fdiv nr (2 ^ (min (Int.toNat (IntKind.wrap .u64 (Int.tmod from_ 64))) 64))) (IntKind.wrap .u64 (aly*2 ^ (min (Int.toNat (IntKind.wrap .u64 (64 - (IntKind.wrap .u64 (Int.tmod from_ 64))))) 64))))))))
def Gk (N:Nat):D8:=abE N (Np N)
abbrev D3:=Int->Int->(Kx3)->Bool
def rN (N:Nat) (t4 arc arn aro:Int) (atI:Bool) (e0:Kx3):(Int × Int × Int × Int × Int × Int × Int × Int × Bool)->((Int × Int × Int × Int × Int × Int × Int × Int × Bool)->Bool)->Bool:=λv_ K=>match v_ with
 | (x_1,y_1,u,v,w,w_1,w_2,w_3,w_4)=>(cond ((decide (y_1>=v))==true) (cond (decide ((IntKind.wrap .u64 (x_1 - y_1))>=(IntKind.wrap .u64 (w_3+v)))) ((!decide (y_1=0))&&((!decide (y_1=0))&&K (y_1,(Int.tmod x_1 y_1),(IntKind.wrap .u64 (w_2+(IntKind.wrap .u64 ((IntKind.wrap .u64 (Int.tdiv x_1 y_1))*u)))),(IntKind.wrap .u64 (w_3+(IntKind.wrap .u64 ((IntKind.wrap .u64 (Int.tdiv x_1 y_1))*v)))),w_2,w_3,u,v,(!w_4)))) (e0 w w_1 w_2 w_3 w_4)) (e0 w w_1 w_2 w_3 w_4))
def aff (N:Nat) (x y:Int) (k0:Kx3):Bool:=
 (al N (rN N 0 0 0 0 false (λw_5 w_6 w_7 w_8 w_9=>k0 w_5 w_6 w_7 w_8 w_9)) (x,y,0,1,0,0,1,0,true))
def ID (N:Nat):D3:=aff N
abbrev uX:=Int->Int->(Ky2)->Bool
def aaU (N:Nat) (x y:Int) (k0:Ky2):Bool:=
 (k0 (IntKind.wrap .u64 ((IntKind.wrap .u64 ((IntKind.wrap .u64 ((Int.fdiv x (2 ^ 32))*(Int.fdiv y (2 ^ 32))))+(Int.fdiv (IntKind.wrap .u64 ((IntKind.wrap .u64 ((Int.fdiv x (2 ^ 32))*(az .and .u64 y 4294967295)))+(Int.fdiv (IntKind.wrap .u64 ((az .and .u64 x 4294967295)*(az .and .u64 y 4294967295))) (2 ^ 32)))) (2 ^ 32))))+(Int.fdiv (IntKind.wrap .u64 ((az .and .u64 (IntKind.wrap .u64 ((IntKind.wrap .u64 ((Int.fdiv x (2 ^ 32))*(az .and .u64 y 4294967295)))+(Int.fdiv (IntKind.wrap .u64 ((az .and .u64 x 4294967295)*(az .and .u64 y 4294967295))) (2 ^ 32)))) 4294967295)+(IntKind.wrap .u64 ((az .and .u64 x 4294967295)*(Int.fdiv y (2 ^ 32)))))) (2 ^ 32)))) (IntKind.wrap .u64 (x*y)))
def Fu (N:Nat):uX:=aaU N
abbrev qZ:=Int->Int->Int->(Ky2)->Bool
def sQ5 (N:Nat):qZ:=λx y c k=>(decide (c.toNat<=1))&&k (((x.toNat+y.toNat+c.toNat)%18446744073709551616:Nat):Int) (((x.toNat+y.toNat+c.toNat) / 18446744073709551616:Nat):Int)
abbrev oD:=Int->Int->Int->Int->(Ky2)->Bool
def aaJ (N:Nat) (amH:uX) (SQ5:qZ) (a b c d:Int) (k0:Ky2):Bool:=
 (amH a b (λnr aly=>SQ5 aly c 0 (λalQ amB=>SQ5 alQ d 0 (λanB n5=>k0 (IntKind.wrap .u64 ((IntKind.wrap .u64 (nr+amB))+n5)) anB))))
def Nh (N:Nat):oD:=aaJ N (Fu N) (sQ5 N)
abbrev Bs:=LI->Int->Int->(Kz1)->Bool
def pj (N:Nat) (alJ:oD) (SQ2:kH) (x_1:LI) (d_1:Int) (t14:LI) (t15:Int) (e0:Ky5):(Int × Int × LI)->((Int × Int × LI)->Bool)->Bool:=λv_ K=>match v_ with
 | (aqc,t16,z)=>(cond (decide (t16<t15)) (inR t16 t14.length&&alJ (t14.getD t16.toNat 0) d_1 0 aqc (λnr aly=>inR t16 z.length&&(decide (t16.toNat<z.length)&&(au .i64 (t16+1)&&K (nr,(t16+1),(z.set t16.toNat aly)))))) (e0 aqc z))
def Po (N:Nat) (alJ:oD) (SQ2:kH) (x:LI) (d more:Int) (k0:Kz1):Bool:=
 (au .i64 (((x.length:Nat):Int)+1)&&(oB 8 (((x.length:Nat):Int)+1) (((x.length:Nat):Int)+1)&&al N (pj N alJ SQ2 x d x ((x.length:Nat):Int) (λasH z_1=>inR ((x.length:Nat):Int) z_1.length&&(decide ((Int.toNat ((x.length:Nat):Int))<z_1.length)&&SQ2 (z_1.set (Int.toNat ((x.length:Nat):Int)) asH) (λmr=>decide ((0+mr)<=(List.length (z_1.set (Int.toNat ((x.length:Nat):Int)) asH)))&&k0 (List.take mr (List.drop 0 (z_1.set (Int.toNat ((x.length:Nat):Int)) asH))))))) (more,0,(List.replicate (Int.toNat (((x.length:Nat):Int)+1)) (0:Int)))))
def Qq (N:Nat):Bs:=Po N (Nh N) (sQ2 N)
abbrev yQ:=Int->Int->Int->(Ky2)->Bool
def sQ9 (N:Nat):yQ:=λx y c k=>(decide (c.toNat<=1))&&k (((x.toNat+18446744073709551616 - y.toNat - c.toNat)%18446744073709551616:Nat):Int) (cond (decide (x.toNat<y.toNat+c.toNat)) 1 0)
abbrev uc:=LI->LI->(Kz1)->Bool
def ph (N:Nat) (amg:q7) (SQ9:yQ) (SQ2:kH) (x_1 y_1:LI) (t12:Int) (e0:Kz1):(Int × Int × LI)->((Int × Int × LI)->Bool)->Bool:=λv_ K=>match v_ with
 | (borrow,t13,z)=>(cond (decide (t13<t12)) (inR t13 x_1.length&&amg y_1 t13 (λnr=>SQ9 (x_1.getD t13.toNat 0) nr borrow (λaly alQ=>inR t13 z.length&&(decide (t13.toNat<z.length)&&(au .i64 (t13+1)&&K (alQ,(t13+1),(z.set t13.toNat aly))))))) (e0 z))
def Pi (N:Nat) (amg:q7) (SQ9:yQ) (SQ2:kH) (x y:LI) (k0:Kz1):Bool:=
 (oB 8 ((x.length:Nat):Int) ((x.length:Nat):Int)&&al N (ph N amg SQ9 SQ2 x y ((x.length:Nat):Int) (λz_1=>SQ2 z_1 (λmr=>decide ((0+mr)<=z_1.length)&&k0 (List.take mr (List.drop 0 z_1))))) (0,0,(List.replicate (Int.toNat ((x.length:Nat):Int)) (0:Int))))
def KY (N:Nat):uc:=Pi N (Np N) (sQ9 N) (sQ2 N)
abbrev dw:=Int->Int->Int->Int->Bool->LI->LI->(Ky6)->Bool
def gu (N:Nat) (an1:Bs) (anl:uc) (w_0 w_1 w_2 w_3:Int) (w_4:Bool) (x y:LI) (k0:Ky6):Bool:=
 (cond w_4 (an1 y w_1 0 (λnsr=>an1 x w_0 0 (λalG=>anl nsr alG (λal3=>an1 x w_2 0 (λal5=>an1 y w_3 0 (λamd=>anl al5 amd (λs5=>k0 al3 s5))))))) (an1 x w_0 0 (λs6=>an1 y w_1 0 (λs7=>anl s6 s7 (λs8=>an1 y w_3 0 (λs9=>an1 x w_2 0 (λs10=>anl s9 s10 (λs11=>k0 s8 s11))))))))
def bt (N:Nat):dw:=gu N (Qq N) (KY N)
abbrev zU:=Int->(Ky8)->Bool
def GQ3 (N:Nat) (aoQ:zY) (x:Int) (k0:Ky8):Bool:=
 (aoQ x (λnr=>au .i64 (64 - nr)&&k0 (64 - nr)))
def sQ3 (N:Nat):zU:=GQ3 N (W3 N)
abbrev uV:=Int->Int->Int->(Ky2)->Bool
def Cj (N:Nat) (SQ3:zU) (y_1 s yn1 yn0 un32 un1 un0:Int) (e0:Ky8):(Int × Int)->((Int × Int)->Bool)->Bool:=λv_ K=>match v_ with
 | (q1,rhat)=>(cond ((decide (q1>=4294967296))==false) (cond (decide ((IntKind.wrap .u64 (q1*yn0))>(IntKind.wrap .u64 ((IntKind.wrap .u64 (4294967296*rhat))+un1)))) (cond (decide ((IntKind.wrap .u64 (rhat+yn1))>=4294967296)) (e0 (IntKind.wrap .u64 (q1 - 1))) (K ((IntKind.wrap .u64 (q1 - 1)),(IntKind.wrap .u64 (rhat+yn1))))) (e0 q1)) (cond (decide ((IntKind.wrap .u64 (rhat+yn1))>=4294967296)) (e0 (IntKind.wrap .u64 (q1 - 1))) (K ((IntKind.wrap .u64 (q1 - 1)),(IntKind.wrap .u64 (rhat+yn1))))))
def Ck (N:Nat) (SQ3:zU) (y_2 s_1 aqR ass arX atD un21:Int) (e0:Ky8):(Int × Int)->((Int × Int)->Bool)->Bool:=λv_ K=>match v_ with
 | (aoX,q0)=>(cond ((decide (q0>=4294967296))==false) (cond (decide ((IntKind.wrap .u64 (q0*ass))>(IntKind.wrap .u64 ((IntKind.wrap .u64 (4294967296*aoX))+arX)))) (cond (decide ((IntKind.wrap .u64 (aoX+aqR))>=4294967296)) (e0 (IntKind.wrap .u64 (q0 - 1))) (K ((IntKind.wrap .u64 (aoX+aqR)),(IntKind.wrap .u64 (q0 - 1))))) (e0 q0)) (cond (decide ((IntKind.wrap .u64 (aoX+aqR))>=4294967296)) (e0 (IntKind.wrap .u64 (q0 - 1))) (K ((IntKind.wrap .u64 (aoX+aqR)),(IntKind.wrap .u64 (q0 - 1))))))
def aaK (N:Nat) (SQ3:zU) (hi lo y:Int) (k0:Ky2):Bool:=
 (cond (y==0) false (cond (decide (y<=hi)) false (cond (hi==0) ((!decide (y=0))&&((!decide (y=0))&&k0 (IntKind.wrap .u64 (Int.tdiv lo y)) (Int.tmod lo y))) (SQ3 y (λnr=>decide (0<=(IntKind.wrap .u64 nr))&&(decide (0<=(IntKind.wrap .u64 nr))&&(decide (0<=(IntKind.wrap .u64 (64 - (IntKind.wrap .u64 nr))))&&(decide (0<=(IntKind.wrap .u64 nr))&&((!decide ((Int.fdiv (IntKind.wrap .u64 (y*2 ^ (min (Int.toNat (IntKind.wrap .u64 nr)) 64))) (2 ^ 32))=0))&&al N (Cj N SQ3 (IntKind.wrap .u64 (y*2 ^ (min (Int.toNat (IntKind.wrap .u64 nr)) 64))) (IntKind.wrap .u64 nr) (Int.fdiv (IntKind.wrap .u64 (y*2 ^ (min (Int.toNat (IntKind.wrap .u64 nr)) 64))) (2 ^ 32)) (az .and .u64 (IntKind.wrap .u64 (y*2 ^ (min (Int.toNat (IntKind.wrap .u64 nr)) 64))) 4294967295) (az .or .u64 (IntKind.wrap .u64 (hi*2 ^ (min (Int.toNat (IntKind.wrap .u64 nr)) 64))) (Int.fdiv lo (2 ^ (min (Int.toNat (IntKind.wrap .u64 (64 - (IntKind.wrap .u64 nr)))) 64)))) (Int.fdiv (IntKind.wrap .u64 (lo*2 ^ (min (Int.toNat (IntKind.wrap .u64 nr)) 64))) (2 ^ 32)) (az .and .u64 (IntKind.wrap .u64 (lo*2 ^ (min (Int.toNat (IntKind.wrap .u64 nr)) 64))) 4294967295) (λasJ=>(!decide ((Int.fdiv (IntKind.wrap .u64 (y*2 ^ (min (Int.toNat (IntKind.wrap .u64 nr)) 64))) (2 ^ 32))=0))&&al N (Ck N SQ3 (IntKind.wrap .u64 (y*2 ^ (min (Int.toNat (IntKind.wrap .u64 nr)) 64))) (IntKind.wrap .u64 nr) (Int.fdiv (IntKind.wrap .u64 (y*2 ^ (min (Int.toNat (IntKind.wrap .u64 nr)) 64))) (2 ^ 32)) (az .and .u64 (IntKind.wrap .u64 (y*2 ^ (min (Int.toNat (IntKind.wrap .u64 nr)) 64))) 4294967295) (az .and .u64 (IntKind.wrap .u64 (lo*2 ^ (min (Int.toNat (IntKind.wrap .u64 nr)) 64))) 4294967295) asJ (IntKind.wrap .u64 ((IntKind.wrap .u64 ((IntKind.wrap .u64 ((az .or .u64 (IntKind.wrap .u64 (hi*2 ^ (min (Int.toNat (IntKind.wrap .u64 nr)) 64))) (Int.fdiv lo (2 ^ (min (Int.toNat (IntKind.wrap .u64 (64 - (IntKind.wrap .u64 nr)))) 64))))*4294967296))+(Int.fdiv (IntKind.wrap .u64 (lo*2 ^ (min (Int.toNat (IntKind.wrap .u64 nr)) 64))) (2 ^ 32)))) - (IntKind.wrap .u64 (asJ*(IntKind.wrap .u64 (y*2 ^ (min (Int.toNat (IntKind.wrap .u64 nr)) 64))))))) (λavn=>decide (0<=(IntKind.wrap .u64 nr))&&k0 (IntKind.wrap .u64 ((IntKind.wrap .u64 (asJ*4294967296))+avn)) (Int.fdiv (IntKind.wrap .u64 ((IntKind.wrap .u64 ((IntKind.wrap .u64 ((IntKind.wrap .u64 ((IntKind.wrap .u64 ((IntKind.wrap .u64 ((az .or .u64 (IntKind.wrap .u64 (hi*2 ^ (min (Int.toNat (IntKind.wrap .u64 nr)) 64))) (Int.fdiv lo (2 ^ (min (Int.toNat (IntKind.wrap .u64 (64 - (IntKind.wrap .u64 nr)))) 64))))*4294967296))+(Int.fdiv (IntKind.wrap .u64 (lo*2 ^ (min (Int.toNat (IntKind.wrap .u64 nr)) 64))) (2 ^ 32)))) - (IntKind.wrap .u64 (asJ*(IntKind.wrap .u64 (y*2 ^ (min (Int.toNat (IntKind.wrap .u64 nr)) 64)))))))*4294967296))+(az .and .u64 (IntKind.wrap .u64 (lo*2 ^ (min (Int.toNat (IntKind.wrap .u64 nr)) 64))) 4294967295))) - (IntKind.wrap .u64 (avn*(IntKind.wrap .u64 (y*2 ^ (min (Int.toNat (IntKind.wrap .u64 nr)) 64))))))) (2 ^ (min (Int.toNat (IntKind.wrap .u64 nr)) 64))))) ((IntKind.wrap .u64 ((IntKind.wrap .u64 ((IntKind.wrap .u64 ((IntKind.wrap .u64 ((az .or .u64 (IntKind.wrap .u64 (hi*2 ^ (min (Int.toNat (IntKind.wrap .u64 nr)) 64))) (Int.fdiv lo (2 ^ (min (Int.toNat (IntKind.wrap .u64 (64 - (IntKind.wrap .u64 nr)))) 64))))*4294967296))+(Int.fdiv (IntKind.wrap .u64 (lo*2 ^ (min (Int.toNat (IntKind.wrap .u64 nr)) 64))) (2 ^ 32)))) - (IntKind.wrap .u64 (asJ*(IntKind.wrap .u64 (y*2 ^ (min (Int.toNat (IntKind.wrap .u64 nr)) 64))))))) - (IntKind.wrap .u64 ((IntKind.wrap .u64 (Int.tdiv (IntKind.wrap .u64 ((IntKind.wrap .u64 ((IntKind.wrap .u64 ((az .or .u64 (IntKind.wrap .u64 (hi*2 ^ (min (Int.toNat (IntKind.wrap .u64 nr)) 64))) (Int.fdiv lo (2 ^ (min (Int.toNat (IntKind.wrap .u64 (64 - (IntKind.wrap .u64 nr)))) 64))))*4294967296))+(Int.fdiv (IntKind.wrap .u64 (lo*2 ^ (min (Int.toNat (IntKind.wrap .u64 nr)) 64))) (2 ^ 32)))) - (IntKind.wrap .u64 (asJ*(IntKind.wrap .u64 (y*2 ^ (min (Int.toNat (IntKind.wrap .u64 nr)) 64))))))) (Int.fdiv (IntKind.wrap .u64 (y*2 ^ (min (Int.toNat (IntKind.wrap .u64 nr)) 64))) (2 ^ 32))))*(Int.fdiv (IntKind.wrap .u64 (y*2 ^ (min (Int.toNat (IntKind.wrap .u64 nr)) 64))) (2 ^ 32)))))),(IntKind.wrap .u64 (Int.tdiv (IntKind.wrap .u64 ((IntKind.wrap .u64 ((IntKind.wrap .u64 ((az .or .u64 (IntKind.wrap .u64 (hi*2 ^ (min (Int.toNat (IntKind.wrap .u64 nr)) 64))) (Int.fdiv lo (2 ^ (min (Int.toNat (IntKind.wrap .u64 (64 - (IntKind.wrap .u64 nr)))) 64))))*4294967296))+(Int.fdiv (IntKind.wrap .u64 (lo*2 ^ (min (Int.toNat (IntKind.wrap .u64 nr)) 64))) (2 ^ 32)))) - (IntKind.wrap .u64 (asJ*(IntKind.wrap .u64 (y*2 ^ (min (Int.toNat (IntKind.wrap .u64 nr)) 64))))))) (Int.fdiv (IntKind.wrap .u64 (y*2 ^ (min (Int.toNat (IntKind.wrap .u64 nr)) 64))) (2 ^ 32))))))) ((IntKind.wrap .u64 (Int.tdiv (az .or .u64 (IntKind.wrap .u64 (hi*2 ^ (min (Int.toNat (IntKind.wrap .u64 nr)) 64))) (Int.fdiv lo (2 ^ (min (Int.toNat (IntKind.wrap .u64 (64 - (IntKind.wrap .u64 nr)))) 64)))) (Int.fdiv (IntKind.wrap .u64 (y*2 ^ (min (Int.toNat (IntKind.wrap .u64 nr)) 64))) (2 ^ 32)))),(IntKind.wrap .u64 ((az .or .u64 (IntKind.wrap .u64 (hi*2 ^ (min (Int.toNat (IntKind.wrap .u64 nr)) 64))) (Int.fdiv lo (2 ^ (min (Int.toNat (IntKind.wrap .u64 (64 - (IntKind.wrap .u64 nr)))) 64)))) - (IntKind.wrap .u64 ((IntKind.wrap .u64 (Int.tdiv (az .or .u64 (IntKind.wrap .u64 (hi*2 ^ (min (Int.toNat (IntKind.wrap .u64 nr)) 64))) (Int.fdiv lo (2 ^ (min (Int.toNat (IntKind.wrap .u64 (64 - (IntKind.wrap .u64 nr)))) 64)))) (Int.fdiv (IntKind.wrap .u64 (y*2 ^ (min (Int.toNat (IntKind.wrap .u64 nr)) 64))) (2 ^ 32))))*(Int.fdiv (IntKind.wrap .u64 (y*2 ^ (min (Int.toNat (IntKind.wrap .u64 nr)) 64))) (2 ^ 32))))))))))))))))
def Ft (N:Nat):uV:=aaK N (sQ3 N)
abbrev Cw:=LI->Int->(LI->Int->Bool)->Bool
def og (N:Nat) (ami:uV) (SQ2:kH) (x_1:LI) (d_1:Int) (e0:Ky5):(Int × Int × LI)->((Int × Int × LI)->Bool)->Bool:=λv_ K=>match v_ with
 | (rest,i,q)=>(cond (decide (i>=0)) (inR i x_1.length&&ami rest (x_1.getD i.toNat 0) d_1 (λnr aly=>inR i q.length&&(decide (i.toNat<q.length)&&(au .i64 (i - 1)&&K (aly,(i - 1),(q.set i.toNat nr)))))) (e0 rest q))
def abp (N:Nat) (ami:uV) (SQ2:kH) (x:LI) (d:Int) (k0:LI->Int->Bool):Bool:=
 (oB 8 ((x.length:Nat):Int) ((x.length:Nat):Int)&&(au .i64 (((x.length:Nat):Int) - 1)&&al N (og N ami SQ2 x d (λaoW q_1=>SQ2 q_1 (λmr=>decide ((0+mr)<=q_1.length)&&k0 (List.take mr (List.drop 0 q_1)) aoW))) (0,(((x.length:Nat):Int) - 1),(List.replicate (Int.toNat ((x.length:Nat):Int)) (0:Int)))))
def W2 (N:Nat):Cw:=abp N (Ft N) (sQ2 N)
abbrev Cq:=LI->Int->(Bool)->(Nat->LI->Bool)->Bool
def rO (N:Nat) (SQ2:kH) (words rest:Int) (t24:LI) (t25:Int) (e0:Kz1):(Int × LI)->((Int × LI)->Bool)->Bool:=λv_ K=>match v_ with
 | (t26,z)=>(cond (decide (t26<t25)) (inR t26 t24.length&&(au .i64 (words+t26)&&(inR (words+t26) z.length&&(decide ((Int.toNat (words+t26))<z.length)&&(decide (0<=rest)&&(inR (words+t26) z.length&&(decide ((Int.toNat (words+t26))<z.length)&&(au .i64 (words+t26)&&(au .i64 ((words+t26)+1)&&(decide (0<=(IntKind.wrap .u64 (64 - rest)))&&(inR ((words+t26)+1) (List.length (z.set (Int.toNat (words+t26)) (az .or .u64 (z.getD (Int.toNat (words+t26)) 0) (IntKind.wrap .u64 ((t24.getD t26.toNat 0)*2 ^ (min rest.toNat 64))))))&&(decide ((Int.toNat ((words+t26)+1))<(List.length (z.set (Int.toNat (words+t26)) (az .or .u64 (z.getD (Int.toNat (words+t26)) 0) (IntKind.wrap .u64 ((t24.getD t26.toNat 0)*2 ^ (min rest.toNat 64)))))))&&(au .i64 (t26+1)&&K ((t26+1),(List.set (z.set (Int.toNat (words+t26)) (az .or .u64 (z.getD (Int.toNat (words+t26)) 0) (IntKind.wrap .u64 ((t24.getD t26.toNat 0)*2 ^ (min rest.toNat 64))))) (Int.toNat ((words+t26)+1)) (Int.fdiv (t24.getD t26.toNat 0) (2 ^ (min (Int.toNat (IntKind.wrap .u64 (64 - rest))) 64)))))))))))))))))) (e0 z))
def aaV (N:Nat) (SQ2:kH) (x:LI) (n:Int) (k0:Bool) (k1:Nat->LI->Bool):Bool:=
 (cond (((x.length:Nat):Int)==0) k0 (au .i64 (IntKind.wrap .u64 (Int.tdiv n 64))&&(au .i64 ((IntKind.wrap .u64 (Int.tdiv n 64))+((x.length:Nat):Int))&&(au .i64 (((IntKind.wrap .u64 (Int.tdiv n 64))+((x.length:Nat):Int))+1)&&(oB 8 (((IntKind.wrap .u64 (Int.tdiv n 64))+((x.length:Nat):Int))+1) (((IntKind.wrap .u64 (Int.tdiv n 64))+((x.length:Nat):Int))+1)&&al N (rO N SQ2 (IntKind.wrap .u64 (Int.tdiv n 64)) (Int.tmod n 64) x ((x.length:Nat):Int) (λz_1=>SQ2 z_1 (λmr=>k1 mr z_1))) (0,(List.replicate (Int.toNat (((IntKind.wrap .u64 (Int.tdiv n 64))+((x.length:Nat):Int))+1)) (0:Int))))))))
def aeb (N:Nat):Cq:=aaV N (sQ2 N)
abbrev DY:=Nat->Nat->LI->LI->(Ky8)->Bool
def tV (N:Nat) (ami:uV) (amH:uX) (SQ5:qZ) (u u_2:Nat) (v_1:LI) (n:Int) (u_3:LI) (e0:Ky8):(Int × Int)->((Int × Int)->Bool)->Bool:=λv_ K=>match v_ with
 | (q,rest)=>(au .i64 (n - 2)&&(inR (n - 2) v_1.length&&amH q (v_1.getD (Int.toNat (n - 2)) 0) (λalQ amB=>cond ((decide (alQ<rest))==false) (cond ((alQ==rest)==true) (au .i64 (n - 2)&&(inR (n - 2) u_2&&(decide ((u+(Int.toNat (n - 2)))<u_3.length)&&cond (decide (amB<=(u_3.getD (u+(Int.toNat (n - 2))) 0))) (e0 q) (au .i64 (n - 1)&&(inR (n - 1) v_1.length&&SQ5 rest (v_1.getD (Int.toNat (n - 1)) 0) 0 (λanB n5=>cond (n5 != 0) (e0 (IntKind.wrap .u64 (q - 1))) (K ((IntKind.wrap .u64 (q - 1)),anB)))))))) (au .i64 (n - 1)&&(inR (n - 1) v_1.length&&SQ5 rest (v_1.getD (Int.toNat (n - 1)) 0) 0 (λn6 n7=>cond (n7 != 0) (e0 (IntKind.wrap .u64 (q - 1))) (K ((IntKind.wrap .u64 (q - 1)),n6)))))) (e0 q))))
def afb (N:Nat) (ami:uV) (amH:uX) (SQ5:qZ) (u_0 u_1:Nat) (v b:LI) (k0:Ky8):Bool:=
 (inR ((v.length:Nat):Int) u_1&&(decide ((u_0+(Int.toNat ((v.length:Nat):Int)))<b.length)&&(au .i64 (((v.length:Nat):Int) - 1)&&(inR (((v.length:Nat):Int) - 1) v.length&&cond (decide ((b.getD (u_0+(Int.toNat ((v.length:Nat):Int))) 0)>=(v.getD (Int.toNat (((v.length:Nat):Int) - 1)) 0))) (k0 18446744073709551615) (inR ((v.length:Nat):Int) u_1&&(decide ((u_0+(Int.toNat ((v.length:Nat):Int)))<b.length)&&(au .i64 (((v.length:Nat):Int) - 1)&&(inR (((v.length:Nat):Int) - 1) u_1&&(decide ((u_0+(Int.toNat (((v.length:Nat):Int) - 1)))<b.length)&&(au .i64 (((v.length:Nat):Int) - 1)&&(inR (((v.length:Nat):Int) - 1) v.length&&ami (b.getD (u_0+(Int.toNat ((v.length:Nat):Int))) 0) (b.getD (u_0+(Int.toNat (((v.length:Nat):Int) - 1))) 0) (v.getD (Int.toNat (((v.length:Nat):Int) - 1)) 0) (λnr aly=>al N (tV N ami amH SQ5 u_0 u_1 v ((v.length:Nat):Int) b (λt4=>k0 t4)) (nr,aly)))))))))))))
def ajz (N:Nat):DY:=afb N (Ft N) (Fu N) (sQ5 N)
abbrev Cu:=Nat->Nat->LI->LI->(Ky5)->Bool
section
variable (N:Nat) (am9:DY) (alJ:oD) (SQ9:yQ) (SQ5:qZ)
def vk (N:Nat) (am9:DY) (alJ:oD) (SQ9:yQ) (SQ5:qZ) (u u_2:Nat) (v_1:LI) (n q t17:Int) (e0:Int->Int->LI->Bool):(Int × Int × Int × LI)->((Int × Int × Int × LI)->Bool)->Bool:=λv_ K=>match v_ with
 | (carry,borrow,t18,u_3)=>(cond (decide (t18<t17)) (inR t18 v_1.length&&alJ q (v_1.getD t18.toNat 0) 0 carry (λaly alQ=>inR t18 u_2&&(decide ((u+t18.toNat)<u_3.length)&&SQ9 (u_3.getD (u+t18.toNat) 0) alQ borrow (λamB anB=>inR t18 u_2&&(decide ((u+t18.toNat)<u_3.length)&&(au .i64 (t18+1)&&K (aly,anB,(t18+1),(u_3.set (u+t18.toNat) amB)))))))) (e0 carry borrow u_3))
def vn (N:Nat) (am9:DY) (alJ:oD) (SQ9:yQ) (SQ5:qZ) (u_8 u_9:Nat) (v_3:LI) (n_2 q_2 anD t60:Int) (e0:Ky5):(Int × Int × LI)->((Int × Int × LI)->Bool)->Bool:=λv_ K=>match v_ with
 | (amK,t61,anF)=>(cond (decide (t61<t60)) (inR t61 u_9&&(decide ((u_8+t61.toNat)<anF.length)&&(inR t61 v_3.length&&SQ5 (anF.getD (u_8+t61.toNat) 0) (v_3.getD t61.toNat 0) amK (λn7 n8=>inR t61 u_9&&(decide ((u_8+t61.toNat)<anF.length)&&(au .i64 (t61+1)&&K (n8,(t61+1),(anF.set (u_8+t61.toNat) n7)))))))) (e0 amK anF))
def vm (u_5 u_6:Nat) (v_2:LI) (n_1:Int) (e0:Ky5):(Int × Int × LI)->((Int × Int × LI)->Bool)->Bool:=λv_ K=>match v_ with
 | (q_1,amA,u_7)=>(cond (amA != 0) (al N (vn N am9 alJ SQ9 SQ5 u_5 u_6 v_2 n_1 q_1 amA n_1 (λarZ aoB=>inR n_1 u_6&&(decide ((u_5+n_1.toNat)<aoB.length)&&SQ5 (aoB.getD (u_5+n_1.toNat) 0) 0 arZ (λn9 n10=>inR n_1 u_6&&(decide ((u_5+n_1.toNat)<aoB.length)&&K ((IntKind.wrap .u64 (q_1 - 1)),(IntKind.wrap .u64 (amA - n10)),(aoB.set (u_5+n_1.toNat) n9))))))) (0,0,u_7)) (e0 q_1 u_7))
def afc (u_0 u_1:Nat) (v b:LI) (k0:Ky5):Bool:=
 (am9 u_0 u_1 v b (λnr=>al N (vk N am9 alJ SQ9 SQ5 u_0 u_1 v ((v.length:Nat):Int) nr ((v.length:Nat):Int) (λang arf u_4=>inR ((v.length:Nat):Int) u_1&&(decide ((u_0+(Int.toNat ((v.length:Nat):Int)))<u_4.length)&&SQ9 (u_4.getD (u_0+(Int.toNat ((v.length:Nat):Int))) 0) ang arf (λn5 n6=>inR ((v.length:Nat):Int) u_1&&(decide ((u_0+(Int.toNat ((v.length:Nat):Int)))<u_4.length)&&al N (vm N am9 alJ SQ9 SQ5 u_0 u_1 v ((v.length:Nat):Int) (λq_3 b0=>k0 q_3 b0)) (nr,n6,(u_4.set (u_0+(Int.toNat ((v.length:Nat):Int))) n5))))))) (0,0,0,b)))
end
def ajA (N:Nat):Cu:=afc N (ajz N) (Nh N) (sQ9 N) (sQ5 N)
abbrev Cr:=Nat->Nat->Nat->Nat->LI->LI->(Ky8)->Bool
def rM (N:Nat) (ami:uV) (amH:uX) (SQ5:qZ) (u u_2 v v_2:Nat) (n:Int) (u_3 v_3:LI) (e0:Ky8):(Int × Int)->((Int × Int)->Bool)->Bool:=λv_ K=>match v_ with
 | (q,rest)=>(au .i64 (n - 2)&&(inR (n - 2) v_2&&(decide ((v+(Int.toNat (n - 2)))<v_3.length)&&amH q (v_3.getD (v+(Int.toNat (n - 2))) 0) (λalQ amB=>cond ((decide (alQ<rest))==false) (cond ((alQ==rest)==true) (au .i64 (n - 2)&&(inR (n - 2) u_2&&(decide ((u+(Int.toNat (n - 2)))<u_3.length)&&cond (decide (amB<=(u_3.getD (u+(Int.toNat (n - 2))) 0))) (e0 q) (au .i64 (n - 1)&&(inR (n - 1) v_2&&(decide ((v+(Int.toNat (n - 1)))<v_3.length)&&SQ5 rest (v_3.getD (v+(Int.toNat (n - 1))) 0) 0 (λanB n5=>cond (n5 != 0) (e0 (IntKind.wrap .u64 (q - 1))) (K ((IntKind.wrap .u64 (q - 1)),anB))))))))) (au .i64 (n - 1)&&(inR (n - 1) v_2&&(decide ((v+(Int.toNat (n - 1)))<v_3.length)&&SQ5 rest (v_3.getD (v+(Int.toNat (n - 1))) 0) 0 (λn6 n7=>cond (n7 != 0) (e0 (IntKind.wrap .u64 (q - 1))) (K ((IntKind.wrap .u64 (q - 1)),n6))))))) (e0 q)))))
def TT (N:Nat) (ami:uV) (amH:uX) (SQ5:qZ) (u_0 u_1 v_0 v_1:Nat) (b b_1:LI) (k0:Ky8):Bool:=
 (inR ((v_1:Nat):Int) u_1&&(decide ((u_0+(Int.toNat ((v_1:Nat):Int)))<b.length)&&(au .i64 (((v_1:Nat):Int) - 1)&&(inR (((v_1:Nat):Int) - 1) v_1&&(decide ((v_0+(Int.toNat (((v_1:Nat):Int) - 1)))<b_1.length)&&cond (decide ((b.getD (u_0+(Int.toNat ((v_1:Nat):Int))) 0)>=(b_1.getD (v_0+(Int.toNat (((v_1:Nat):Int) - 1))) 0))) (k0 18446744073709551615) (inR ((v_1:Nat):Int) u_1&&(decide ((u_0+(Int.toNat ((v_1:Nat):Int)))<b.length)&&(au .i64 (((v_1:Nat):Int) - 1)&&(inR (((v_1:Nat):Int) - 1) u_1&&(decide ((u_0+(Int.toNat (((v_1:Nat):Int) - 1)))<b.length)&&(au .i64 (((v_1:Nat):Int) - 1)&&(inR (((v_1:Nat):Int) - 1) v_1&&(decide ((v_0+(Int.toNat (((v_1:Nat):Int) - 1)))<b_1.length)&&ami (b.getD (u_0+(Int.toNat ((v_1:Nat):Int))) 0) (b.getD (u_0+(Int.toNat (((v_1:Nat):Int) - 1))) 0) (b_1.getD (v_0+(Int.toNat (((v_1:Nat):Int) - 1))) 0) (λnr aly=>al N (rM N ami amH SQ5 u_0 u_1 v_0 v_1 ((v_1:Nat):Int) b b_1 (λt4=>k0 t4)) (nr,aly)))))))))))))))
def WS (N:Nat):Cr:=TT N (Ft N) (Fu N) (sQ5 N)
abbrev Cs:=Nat->Nat->Nat->Nat->LI->LI->(Ky5)->Bool
section
variable (N:Nat) (am8:Cr) (alJ:oD) (SQ9:yQ) (SQ5:qZ)
def IU (N:Nat) (am8:Cr) (alJ:oD) (SQ9:yQ) (SQ5:qZ) (u u_2 v v_2:Nat) (n q t17:Int) (v_3:LI) (e0:Int->Int->LI->Bool):(Int × Int × Int × LI)->((Int × Int × Int × LI)->Bool)->Bool:=λv_ K=>match v_ with
 | (carry,borrow,t18,u_3)=>(cond (decide (t18<t17)) (inR t18 v_2&&(decide ((v+t18.toNat)<v_3.length)&&alJ q (v_3.getD (v+t18.toNat) 0) 0 carry (λaly alQ=>inR t18 u_2&&(decide ((u+t18.toNat)<u_3.length)&&SQ9 (u_3.getD (u+t18.toNat) 0) alQ borrow (λamB anB=>inR t18 u_2&&(decide ((u+t18.toNat)<u_3.length)&&(au .i64 (t18+1)&&K (aly,anB,(t18+1),(u_3.set (u+t18.toNat) amB))))))))) (e0 carry borrow u_3))
def IV (N:Nat) (am8:Cr) (alJ:oD) (SQ9:yQ) (SQ5:qZ) (u_8 u_9 v_7 v_8:Nat) (n_2 q_2 anD t60:Int) (v_9:LI) (e0:Ky5):(Int × Int × LI)->((Int × Int × LI)->Bool)->Bool:=λv_ K=>match v_ with
 | (amK,t61,anF)=>(cond (decide (t61<t60)) (inR t61 u_9&&(decide ((u_8+t61.toNat)<anF.length)&&(inR t61 v_8&&(decide ((v_7+t61.toNat)<v_9.length)&&SQ5 (anF.getD (u_8+t61.toNat) 0) (v_9.getD (v_7+t61.toNat) 0) amK (λn7 n8=>inR t61 u_9&&(decide ((u_8+t61.toNat)<anF.length)&&(au .i64 (t61+1)&&K (n8,(t61+1),(anF.set (u_8+t61.toNat) n7))))))))) (e0 amK anF))
def w9 (u_5 u_6 v_4 v_5:Nat) (n_1:Int) (v_6:LI) (e0:Ky5):(Int × Int × LI)->((Int × Int × LI)->Bool)->Bool:=λv_ K=>match v_ with
 | (q_1,amA,u_7)=>(cond (amA != 0) (al N (IV N am8 alJ SQ9 SQ5 u_5 u_6 v_4 v_5 n_1 q_1 amA n_1 v_6 (λarZ aoB=>inR n_1 u_6&&(decide ((u_5+n_1.toNat)<aoB.length)&&SQ5 (aoB.getD (u_5+n_1.toNat) 0) 0 arZ (λn9 n10=>inR n_1 u_6&&(decide ((u_5+n_1.toNat)<aoB.length)&&K ((IntKind.wrap .u64 (q_1 - 1)),(IntKind.wrap .u64 (amA - n10)),(aoB.set (u_5+n_1.toNat) n9))))))) (0,0,u_7)) (e0 q_1 u_7))
def aa2 (u_0 u_1 v_0 v_1:Nat) (b b_1:LI) (k0:Ky5):Bool:=
 (am8 u_0 u_1 v_0 v_1 b b_1 (λnr=>al N (IU N am8 alJ SQ9 SQ5 u_0 u_1 v_0 v_1 ((v_1:Nat):Int) nr ((v_1:Nat):Int) b_1 (λang arf u_4=>inR ((v_1:Nat):Int) u_1&&(decide ((u_0+(Int.toNat ((v_1:Nat):Int)))<u_4.length)&&SQ9 (u_4.getD (u_0+(Int.toNat ((v_1:Nat):Int))) 0) ang arf (λn5 n6=>inR ((v_1:Nat):Int) u_1&&(decide ((u_0+(Int.toNat ((v_1:Nat):Int)))<u_4.length)&&al N (w9 N am8 alJ SQ9 SQ5 u_0 u_1 v_0 v_1 ((v_1:Nat):Int) b_1 (λq_3 b0=>k0 q_3 b0)) (nr,n6,(u_4.set (u_0+(Int.toNat ((v_1:Nat):Int))) n5))))))) (0,0,0,b)))
end
def aec (N:Nat):Cs:=aa2 N (WS N) (Nh N) (sQ9 N) (sQ5 N)
abbrev Cv:=Nat->Nat->LI->(Ky9)->Bool
def zC (N x x_2:Nat) (x_3:LI) (e0:Ky8):(Int)->((Int)->Bool)->Bool:=λv_ K=>match v_ with
 | n=>(cond ((decide (n>0))==true) (au .i64 (n - 1)&&(inR (n - 1) x_2&&(decide ((x+(Int.toNat (n - 1)))<x_3.length)&&cond ((x_3.getD (x+(Int.toNat (n - 1))) 0)==0) (au .i64 (n - 1)&&K (n - 1)) (e0 n)))) (e0 n))
def abc (N x_0 x_1:Nat) (b:LI) (k0:Ky9):Bool:=
 (al N (zC N x_0 x_1 b (λn_1=>decide (0<=n_1/\n_1<=((x_1:Nat):Int))&&k0 (n_1.toNat - 0))) ((x_1:Nat):Int))
def aeg (N:Nat):Cv:=abc N
abbrev D5:=Nat->Nat->Int->LI->(Ky8)->Bool
def abk (N x_0 x_1:Nat) (i:Int) (b:LI) (k0:Ky8):Bool:=
 (cond (decide (i<((x_1:Nat):Int))) (inR i x_1&&(decide ((x_0+i.toNat)<b.length)&&k0 (b.getD (x_0+i.toNat) 0))) (k0 0))
def aek (N:Nat):D5:=abk N
abbrev Ct:=Nat->Nat->Int->LI->(LI->Bool->Bool)->Bool
def o6 (N:Nat) (anL:D5) (SQ2:kH) (x x_2:Nat) (words rest:Int) (t37 asm:Nat) (t38:Int) (x_3:LI) (e0:Ky8):(Int × Int)->((Int × Int)->Bool)->Bool:=λv_ K=>match v_ with
 | (lost,t39)=>(cond (decide (t39<t38)) (inR t39 asm&&(decide ((t37+t39.toNat)<x_3.length)&&(au .i64 (t39+1)&&K ((az .or .u64 lost (x_3.getD (t37+t39.toNat) 0)),(t39+1))))) (e0 lost))
def me (N:Nat) (anL:D5) (SQ2:kH) (x_4 x_5:Nat) (aoC aoW arj t53:Int) (x_6:LI) (e0:Kz1):(Int × LI)->((Int × LI)->Bool)->Bool:=λv_ K=>match v_ with
 | (t54,z)=>(cond (decide (t54<t53)) (au .i64 (aoC+t54)&&anL x_4 x_5 (aoC+t54) x_6 (λnr=>decide (0<=aoW)&&(au .i64 (aoC+t54)&&(au .i64 ((aoC+t54)+1)&&anL x_4 x_5 ((aoC+t54)+1) x_6 (λaly=>decide (0<=(IntKind.wrap .u64 (64 - aoW)))&&(inR t54 z.length&&(decide (t54.toNat<z.length)&&(au .i64 (t54+1)&&K ((t54+1),(z.set t54.toNat (az .or .u64 (Int.fdiv nr (2 ^ (min aoW.toNat 64))) (IntKind.wrap .u64 (aly*2 ^ (min (Int.toNat (IntKind.wrap .u64 (64 - aoW))) 64)))))))))))))) (e0 z))
def TU (N:Nat) (anL:D5) (SQ2:kH) (x_0 x_1:Nat) (n:Int) (b:LI) (k0:LI->Bool->Bool):Bool:=
 (cond (decide ((IntKind.wrap .u64 (Int.tdiv n 64))>=(IntKind.wrap .u64 ((x_1:Nat):Int)))) (k0 [] (decide (((x_1:Nat):Int)>0))) (au .i64 (IntKind.wrap .u64 (Int.tdiv n 64))&&(inR (IntKind.wrap .u64 (Int.tdiv n 64)) x_1&&(decide ((x_0+(Int.toNat (IntKind.wrap .u64 (Int.tdiv n 64))))<b.length)&&(decide (0<=(Int.tmod n 64))&&(decide (0<=(IntKind.wrap .u64 (Int.tdiv n 64))/\(IntKind.wrap .u64 (Int.tdiv n 64))<=((x_1:Nat):Int))&&al N (o6 N anL SQ2 x_0 x_1 (IntKind.wrap .u64 (Int.tdiv n 64)) (Int.tmod n 64) x_0 ((Int.toNat (IntKind.wrap .u64 (Int.tdiv n 64))) - 0) ((((Int.toNat (IntKind.wrap .u64 (Int.tdiv n 64))) - 0):Nat):Int) b (λatB=>au .i64 (((x_1:Nat):Int) - (IntKind.wrap .u64 (Int.tdiv n 64)))&&(oB 8 (((x_1:Nat):Int) - (IntKind.wrap .u64 (Int.tdiv n 64))) (((x_1:Nat):Int) - (IntKind.wrap .u64 (Int.tdiv n 64)))&&al N (me N anL SQ2 x_0 x_1 (IntKind.wrap .u64 (Int.tdiv n 64)) (Int.tmod n 64) atB (((List.length (List.replicate (Int.toNat (((x_1:Nat):Int) - (IntKind.wrap .u64 (Int.tdiv n 64)))) (0:Int))):Nat):Int) b (λz_1=>SQ2 z_1 (λmr=>decide ((0+mr)<=z_1.length)&&k0 (List.take mr (List.drop 0 z_1)) (atB != 0)))) (0,(List.replicate (Int.toNat (((x_1:Nat):Int) - (IntKind.wrap .u64 (Int.tdiv n 64)))) (0:Int)))))) ((az .and .u64 (b.getD (x_0+(Int.toNat (IntKind.wrap .u64 (Int.tdiv n 64)))) 0) (IntKind.wrap .u64 ((IntKind.wrap .u64 ((1:Int)*2 ^ (min (Int.toNat (Int.tmod n 64)) 64))) - 1))),0)))))))
def WY (N:Nat):Ct:=TU N (aek N) (sQ2 N)
abbrev yP:=LI->LI->(Ky6)->Bool
def FI (N:Nat) (SQ6:uf) (alH:jK) (amu:Cw) (alI:oF) (SQ3:zU) (aml:Cq) (amy:Cu) (amw:Cs) (amz:Cv) (amx:Ct) (SQ2:kH) (up:Int) (u u_1:Nat) (n:Int) (e0:Ky6):(Int × LI × LI)->((Int × LI × LI)->Bool)->Bool:=λv_ K=>match v_ with
 | (j,u_2,q)=>(cond (decide (j>=0)) (au .i64 (j+n)&&(au .i64 ((j+n)+1)&&(decide (0<=j/\j<=((j+n)+1)/\((j+n)+1)<=((u_1:Nat):Int))&&amy (u+j.toNat) ((Int.toNat ((j+n)+1)) - j.toNat) [] u_2 (λamB s6=>inR j q.length&&(decide (j.toNat<q.length)&&(au .i64 (j - 1)&&K ((j - 1),s6,(q.set j.toNat amB)))))))) (e0 u_2 q))
def zy (N:Nat) (SQ6:uf) (alH:jK) (amu:Cw) (alI:oF) (SQ3:zU) (aml:Cq) (amy:Cu) (amw:Cs) (amz:Cv) (amx:Ct) (SQ2:kH) (atP:Int) (v v_1 u_5 u_6:Nat) (n_1:Int) (v_2:LI) (e0:Ky6):(Int × LI × LI)->((Int × LI × LI)->Bool)->Bool:=λv_ K=>match v_ with
 | (j_1,u_7,q_3)=>(cond (decide (j_1>=0)) (au .i64 (j_1+n_1)&&(au .i64 ((j_1+n_1)+1)&&(decide (0<=j_1/\j_1<=((j_1+n_1)+1)/\((j_1+n_1)+1)<=((u_6:Nat):Int))&&amw (u_5+j_1.toNat) ((Int.toNat ((j_1+n_1)+1)) - j_1.toNat) v v_1 u_7 v_2 (λanB s7=>inR j_1 q_3.length&&(decide (j_1.toNat<q_3.length)&&(au .i64 (j_1 - 1)&&K ((j_1 - 1),s7,(q_3.set j_1.toNat anB)))))))) (e0 u_7 q_3))
def Gv (N:Nat) (SQ6:uf) (alH:jK) (amu:Cw) (alI:oF) (SQ3:zU) (aml:Cq) (amy:Cu) (amw:Cs) (amz:Cv) (amx:Ct) (SQ2:kH) (x y:LI) (atd:Int) (anF:Nat) (aoB q_6:LI) (k0:Ky6):Bool:=
 (amz 0 anF aoB (λatC=>amx 0 atC atd aoB (λs8 cr=>SQ2 q_6 (λavk=>decide ((0+avk)<=q_6.length)&&k0 (List.take avk (List.drop 0 q_6)) s8))))
def GQ8 (N:Nat) (SQ6:uf) (alH:jK) (amu:Cw) (alI:oF) (SQ3:zU) (aml:Cq) (amy:Cu) (amw:Cs) (amz:Cv) (amx:Ct) (SQ2:kH) (x y:LI) (k0:Ky6):Bool:=
 (SQ6 x y (λnr=>cond (decide (nr<0)) (alH x (λnsr=>k0 [] nsr)) (cond (((y.length:Nat):Int)==1) (inR 0 y.length&&amu x (y.getD 0 0) (λalG aly=>alI aly (λal3=>k0 alG al3))) (au .i64 (((y.length:Nat):Int) - 1)&&(inR (((y.length:Nat):Int) - 1) y.length&&SQ3 (y.getD (Int.toNat (((y.length:Nat):Int) - 1)) 0) (λalQ=>aml y (IntKind.wrap .u64 alQ) (aml x (IntKind.wrap .u64 alQ) (au .i64 (((x.length:Nat):Int)+1)&&(decide (0<=(((x.length:Nat):Int)+1)/\(((x.length:Nat):Int)+1)<=2)&&(au .i64 (((((Int.toNat (((x.length:Nat):Int)+1)) - 0):Nat):Int) - 0)&&(oB 8 (((((Int.toNat (((x.length:Nat):Int)+1)) - 0):Nat):Int) - 0) (((((Int.toNat (((x.length:Nat):Int)+1)) - 0):Nat):Int) - 0)&&(au .i64 (((((Int.toNat (((x.length:Nat):Int)+1)) - 0):Nat):Int) - 0)&&(au .i64 ((((((Int.toNat (((x.length:Nat):Int)+1)) - 0):Nat):Int) - 0) - 1)&&al N (FI N SQ6 alH amu alI SQ3 aml amy amw amz amx SQ2 (IntKind.wrap .u64 alQ) 0 ((Int.toNat (((x.length:Nat):Int)+1)) - 0) 0 (λu_3 q_1=>Gv N SQ6 alH amu alI SQ3 aml amy amw amz amx SQ2 x y (IntKind.wrap .u64 alQ) ((Int.toNat (((x.length:Nat):Int)+1)) - 0) u_3 q_1 k0)) (((((((Int.toNat (((x.length:Nat):Int)+1)) - 0):Nat):Int) - 0) - 1),([]++[0,0]),(List.replicate (Int.toNat (((((Int.toNat (((x.length:Nat):Int)+1)) - 0):Nat):Int) - 0)) (0:Int))))))))) (λaoF amd=>decide ((0+aoF)<=amd.length)&&(decide ((List.length ((List.take aoF (List.drop 0 amd))++[0,0]))*8<=140737488355328)&&(au .i64 (((x.length:Nat):Int)+1)&&(decide (0<=(((x.length:Nat):Int)+1)/\(((x.length:Nat):Int)+1)<=(((List.length ((List.take aoF (List.drop 0 amd))++[0,0])):Nat):Int))&&(au .i64 (((((Int.toNat (((x.length:Nat):Int)+1)) - 0):Nat):Int) - 0)&&(oB 8 (((((Int.toNat (((x.length:Nat):Int)+1)) - 0):Nat):Int) - 0) (((((Int.toNat (((x.length:Nat):Int)+1)) - 0):Nat):Int) - 0)&&(au .i64 (((((Int.toNat (((x.length:Nat):Int)+1)) - 0):Nat):Int) - 0)&&(au .i64 ((((((Int.toNat (((x.length:Nat):Int)+1)) - 0):Nat):Int) - 0) - 1)&&al N (FI N SQ6 alH amu alI SQ3 aml amy amw amz amx SQ2 (IntKind.wrap .u64 alQ) 0 ((Int.toNat (((x.length:Nat):Int)+1)) - 0) 0 (λu_4 q_2=>Gv N SQ6 alH amu alI SQ3 aml amy amw amz amx SQ2 x y (IntKind.wrap .u64 alQ) ((Int.toNat (((x.length:Nat):Int)+1)) - 0) u_4 q_2 k0)) (((((((Int.toNat (((x.length:Nat):Int)+1)) - 0):Nat):Int) - 0) - 1),((List.take aoF (List.drop 0 amd))++[0,0]),(List.replicate (Int.toNat (((((Int.toNat (((x.length:Nat):Int)+1)) - 0):Nat):Int) - 0)) (0:Int)))))))))))) (λmr al5=>aml x (IntKind.wrap .u64 alQ) (au .i64 (((x.length:Nat):Int)+1)&&(decide (0<=(((x.length:Nat):Int)+1)/\(((x.length:Nat):Int)+1)<=2)&&(au .i64 (((((Int.toNat (((x.length:Nat):Int)+1)) - 0):Nat):Int) - ((mr:Nat):Int))&&(oB 8 (((((Int.toNat (((x.length:Nat):Int)+1)) - 0):Nat):Int) - ((mr:Nat):Int)) (((((Int.toNat (((x.length:Nat):Int)+1)) - 0):Nat):Int) - ((mr:Nat):Int))&&(au .i64 (((((Int.toNat (((x.length:Nat):Int)+1)) - 0):Nat):Int) - ((mr:Nat):Int))&&(au .i64 ((((((Int.toNat (((x.length:Nat):Int)+1)) - 0):Nat):Int) - ((mr:Nat):Int)) - 1)&&al N (zy N SQ6 alH amu alI SQ3 aml amy amw amz amx SQ2 (IntKind.wrap .u64 alQ) 0 mr 0 ((Int.toNat (((x.length:Nat):Int)+1)) - 0) ((mr:Nat):Int) al5 (λu_8 q_4=>Gv N SQ6 alH amu alI SQ3 aml amy amw amz amx SQ2 x y (IntKind.wrap .u64 alQ) ((Int.toNat (((x.length:Nat):Int)+1)) - 0) u_8 q_4 k0)) (((((((Int.toNat (((x.length:Nat):Int)+1)) - 0):Nat):Int) - ((mr:Nat):Int)) - 1),([]++[0,0]),(List.replicate (Int.toNat (((((Int.toNat (((x.length:Nat):Int)+1)) - 0):Nat):Int) - ((mr:Nat):Int))) (0:Int))))))))) (λaqK s5=>decide ((0+aqK)<=s5.length)&&(decide ((List.length ((List.take aqK (List.drop 0 s5))++[0,0]))*8<=140737488355328)&&(au .i64 (((x.length:Nat):Int)+1)&&(decide (0<=(((x.length:Nat):Int)+1)/\(((x.length:Nat):Int)+1)<=(((List.length ((List.take aqK (List.drop 0 s5))++[0,0])):Nat):Int))&&(au .i64 (((((Int.toNat (((x.length:Nat):Int)+1)) - 0):Nat):Int) - ((mr:Nat):Int))&&(oB 8 (((((Int.toNat (((x.length:Nat):Int)+1)) - 0):Nat):Int) - ((mr:Nat):Int)) (((((Int.toNat (((x.length:Nat):Int)+1)) - 0):Nat):Int) - ((mr:Nat):Int))&&(au .i64 (((((Int.toNat (((x.length:Nat):Int)+1)) - 0):Nat):Int) - ((mr:Nat):Int))&&(au .i64 ((((((Int.toNat (((x.length:Nat):Int)+1)) - 0):Nat):Int) - ((mr:Nat):Int)) - 1)&&al N (zy N SQ6 alH amu alI SQ3 aml amy amw amz amx SQ2 (IntKind.wrap .u64 alQ) 0 mr 0 ((Int.toNat (((x.length:Nat):Int)+1)) - 0) ((mr:Nat):Int) al5 (λu_9 q_5=>Gv N SQ6 alH amu alI SQ3 aml amy amw amz amx SQ2 x y (IntKind.wrap .u64 alQ) ((Int.toNat (((x.length:Nat):Int)+1)) - 0) u_9 q_5 k0)) (((((((Int.toNat (((x.length:Nat):Int)+1)) - 0):Nat):Int) - ((mr:Nat):Int)) - 1),((List.take aqK (List.drop 0 s5))++[0,0]),(List.replicate (Int.toNat (((((Int.toNat (((x.length:Nat):Int)+1)) - 0):Nat):Int) - ((mr:Nat):Int))) (0:Int))))))))))))))))))
def sQ8 (N:Nat):yP:=GQ8 N (sQ6 N) (Dk N) (W2 N) (Ce N) (sQ3 N) (aeb N) (ajA N) (aec N) (aeg N) (WY N) (sQ2 N)
abbrev D7:=LI->(Ky8)->Bool
def abD (N:Nat) (amg:q7) (x:LI) (k0:Ky8):Bool:=
 (amg x 0 (λnr=>k0 nr))
def Gj (N:Nat):D7:=abD N (Np N)
abbrev qb:=LI->LI->(Kz1)->Bool
section
variable (N:Nat) (SQ6:uf) (amq:DZ) (amo:D8) (amr:D3) (alk:dw) (SQ8:yP) (amn:D7) (alI:oF)
def Ci (N:Nat) (SQ6:uf) (amq:DZ) (amo:D8) (amr:D3) (alk:dw) (SQ8:yP) (amn:D7) (alI:oF) (e0:Ky6):(LI × LI)->((LI × LI)->Bool)->Bool:=λv_ K=>match v_ with
 | (x_2,y_2)=>(cond (decide (((y_2.length:Nat):Int)>1)) (amq x_2 (λaly=>au .i64 (aly - 64)&&amo x_2 (aly - 64) (λalQ=>amo y_2 (aly - 64) (λamB=>amr alQ amB (λanB n5 n6 n7 cr=>cond (n5 != 0) (alk anB n5 n6 n7 cr x_2 y_2 (λnsr alG=>K (nsr,alG))) (SQ8 x_2 y_2 (λal3 al5=>K (y_2,al5)))))))) (e0 x_2 y_2))
def FJ (N:Nat) (SQ6:uf) (amq:DZ) (amo:D8) (amr:D3) (alk:dw) (SQ8:yP) (amn:D7) (alI:oF) (e0:Ky8):(Int × Int)->((Int × Int)->Bool)->Bool:=λv_ K=>match v_ with
 | (a,b)=>(cond (decide (b>0)) ((!decide (b=0))&&K (b,(Int.tmod a b))) (e0 a))
def zQ (x y x_4 y_4:LI) (k0:Kz1):Bool:=
 (cond (((y_4.length:Nat):Int)==0) (k0 x_4) (amn x_4 (λn8=>amn y_4 (λn9=>al N (FJ N SQ6 amq amo amr alk SQ8 amn alI (λa_1=>alI a_1 (λs6=>k0 s6))) (n8,n9)))))
def Ja (x y x_1 y_1:LI) (k0:Kz1):Bool:=
 (al N (Ci N SQ6 amq amo amr alk SQ8 amn alI (λx_3 y_3=>cond ((decide (((y_3.length:Nat):Int)>0))==true) (cond (decide (((x_3.length:Nat):Int)>1)) (SQ8 x_3 y_3 (λamd s5=>zQ N SQ6 amq amo amr alk SQ8 amn alI x y y_3 s5 k0)) (zQ N SQ6 amq amo amr alk SQ8 amn alI x y x_3 y_3 k0)) (zQ N SQ6 amq amo amr alk SQ8 amn alI x y x_3 y_3 k0))) (x_1,y_1))
def RI (x y:LI) (k0:Kz1):Bool:=
 (SQ6 x y (λnr=>cond (decide (nr<0)) (Ja N SQ6 amq amo amr alk SQ8 amn alI x y y x k0) (Ja N SQ6 amq amo amr alk SQ8 amn alI x y x y k0)))
end
def IC (N:Nat):qb:=RI N (sQ6 N) (Gi N) (Gk N) (ID N) (bt N) (sQ8 N) (Gj N) (Ce N)
abbrev tk:=Bool->LI->Bool->Bool->(Ky1)->Bool
def RH (N:Nat) (neg:Bool) (abs:LI) (b b_1:Bool) (k0:Ky1):Bool:=
 (cond (neg==true) (k0 (decide (((abs.length:Nat):Int)>0)) []) (k0 false []))
def K3 (N:Nat):tk:=RH N
abbrev yo:=Bool->LI->Bool->LI->Bool->LI->(Ky7)->Bool
def TS (N:Nat) (neg:Bool) (abs:LI) (b:Bool) (b_1:LI) (b_2:Bool) (b_3:LI) (k0:Ky7):Bool:=
 (cond (neg==true) (k0 (decide (((abs.length:Nat):Int)>0))) (k0 false))
def Ti (N:Nat):yo:=TS N
abbrev GE:=Bool->LI->LI->Bool->Bool->(Kx5)->Bool
def Jb (N:Nat) (amj:qb) (SQ6:uf) (SQ8:yP) (alH:jK) (amP:tk) (anm:yo) (neg:Bool) (a b:LI) (b_1 b_2:Bool) (a_1 b_3:LI) (k0:Kx5):Bool:=
 (alH a_1 (λs5=>amP neg s5 b_1 b_2 (λcr s6=>alH b_3 (λs7=>anm false s7 cr s5 b_2 s6 (λalT=>k0 cr s5 alT s7)))))
def RJ (N:Nat) (amj:qb) (SQ6:uf) (SQ8:yP) (alH:jK) (amP:tk) (anm:yo) (neg:Bool) (a b:LI) (b_1 b_2:Bool) (k0:Kx5):Bool:=
 (amj a b (λnsr=>SQ6 nsr [1] (λnr=>cond (nr != 0) (SQ8 a nsr (λalG al3=>SQ8 b nsr (λal5 amd=>Jb N amj SQ6 SQ8 alH amP anm neg a b b_1 b_2 alG al5 k0))) (Jb N amj SQ6 SQ8 alH amP anm neg a b b_1 b_2 a b k0))))
def aei (N:Nat):GE:=RJ N (IC N) (sQ6 N) (sQ8 N) (Dk N) (K3 N) (Ti N)
abbrev F2:=Bool->Bool->Bool->LI->Bool->LI->(Kx5)->Bool
def GQ7 (N:Nat) (aqV:GE) (b b_1 b_2:Bool) (b_3:LI) (b_4:Bool) (b_5:LI) (k0:Kx5):Bool:=
 (aqV (b_2 != b_4) b_3 b_5 b b_1 (λcr nsr alT alG=>k0 cr nsr alT alG))
def sQ7 (N:Nat):F2:=GQ7 N (aei N)
abbrev q8:=LI->LI->(Kz1)->Bool
section
variable (N:Nat) (alJ:oD) (SQ2:kH)
def oi (N:Nat) (alJ:oD) (SQ2:kH) (y_2:LI) (i a:Int) (asf:LI) (asg ash:Int) (t32:LI) (t33:Int) (e0:Ky5):(Int × Int × LI)->((Int × Int × LI)->Bool)->Bool:=λv_ K=>match v_ with
 | (carry,t34,z_1)=>(cond (decide (t34<t33)) (inR t34 t32.length&&(au .i64 (i+t34)&&(au .i64 (i+t34)&&(inR (i+t34) z_1.length&&(decide ((Int.toNat (i+t34))<z_1.length)&&alJ a (t32.getD t34.toNat 0) (z_1.getD (Int.toNat (i+t34)) 0) carry (λnr aly=>inR (i+t34) z_1.length&&(decide ((Int.toNat (i+t34))<z_1.length)&&(au .i64 (t34+1)&&K (nr,(t34+1),(z_1.set (Int.toNat (i+t34)) aly)))))))))) (e0 carry z_1))
def oh (y_1 t25:LI) (t26:Int) (e0:Kz1):(Int × LI)->((Int × LI)->Bool)->Bool:=λv_ K=>match v_ with
 | (t27,z)=>(cond (decide (t27<t26)) (inR t27 t25.length&&al N (oi N alJ SQ2 y_1 t27 (t25.getD t27.toNat 0) t25 t26 t27 y_1 ((y_1.length:Nat):Int) (λang z_2=>au .i64 (t27+((y_1.length:Nat):Int))&&(inR (t27+((y_1.length:Nat):Int)) z_2.length&&(decide ((Int.toNat (t27+((y_1.length:Nat):Int)))<z_2.length)&&(au .i64 (t27+1)&&K ((t27+1),(z_2.set (Int.toNat (t27+((y_1.length:Nat):Int))) ang))))))) (0,0,z)) (e0 z))
def abn (x y:LI) (k0:Kz1):Bool:=
 (cond ((((x.length:Nat):Int)==0)==false) (cond (((y.length:Nat):Int)==0) (k0 []) (au .i64 (((x.length:Nat):Int)+((y.length:Nat):Int))&&(oB 8 (((x.length:Nat):Int)+((y.length:Nat):Int)) (((x.length:Nat):Int)+((y.length:Nat):Int))&&al N (oh N alJ SQ2 y x ((x.length:Nat):Int) (λz_3=>SQ2 z_3 (λmr=>decide ((0+mr)<=z_3.length)&&k0 (List.take mr (List.drop 0 z_3))))) (0,(List.replicate (Int.toNat (((x.length:Nat):Int)+((y.length:Nat):Int))) (0:Int)))))) (k0 []))
end
def Le (N:Nat):q8:=abn N (Nh N) (sQ2 N)
abbrev DR:=Bool->LI->Bool->LI->(Ky1)->Bool
def aaW (N:Nat) (am0:q8) (anO:uY) (b:Bool) (b_1:LI) (b_2:Bool) (b_3:LI) (k0:Ky1):Bool:=
 (am0 b_1 b_3 (λnsr=>anO (b != b_2) nsr b b_1 (λcr=>k0 cr nsr)))
def Tj (N:Nat):DR:=aaW N (Le N) (WU N)
abbrev GD:=Bool->Bool->LI->Bool->LI->LI->(Ky7)->Bool
def abh (N:Nat) (neg b:Bool) (b_1:LI) (b_2:Bool) (b_3 b_4:LI) (k0:Ky7):Bool:=
 (cond (neg==true) (k0 (decide (((b_4.length:Nat):Int)>0))) (k0 false))
def agL (N:Nat):GD:=abh N
abbrev GG:=Bool->LI->Bool->Bool->LI->(Ky0)->Bool
def abl (N:Nat) (amP:tk) (aqU:GD) (neg:Bool) (a:LI) (b b_1:Bool) (b_2:LI) (k0:Ky0):Bool:=
 (amP neg a b b_1 (λcr nsr=>aqU false cr a b_1 nsr b_2 (λalT=>k0 cr alT)))
def agN (N:Nat):GG:=abl N (K3 N) (agL N)
abbrev DP:=Bool->Bool->Bool->LI->(Kx5)->Bool
def aaP (N:Nat) (alH:jK) (aqX:GG) (b b_1 b_2:Bool) (b_3:LI) (k0:Kx5):Bool:=
 (alH b_3 (λnsr=>aqX b_2 nsr b b_1 [1] (λcr alT=>k0 cr nsr alT [1])))
def Nl (N:Nat):DP:=aaP N (Dk N) (agN N)
abbrev ft:=Fl->(Kx5)->Bool
def dC (N:Nat) (amW:yM) (ali:aR) (anX:DQ) (anY:DV) (anf:yu) (an6:DT) (SQ7:F2) (an5:DR) (an4:DP) (x:Fl) (p:Bool) (p_1 p_2:Int) (n:Bool) (n_1:LI) (k0:Kx5):Bool:=
 (anf 1 (λanA al3=>au .i64 (0 - p_2)&&an6 (IntKind.wrap .u64 (imm true p_2 (0 - p_2))) false anA al3 (λaoz al5=>cond (decide (p_2<0)) (SQ7 false false n n_1 aoz al5 (λaqF amd aqq s5=>k0 aqF amd aqq s5)) (an5 n n_1 aoz al5 (λaqr s6=>an4 false false aqr s6 (λc8 s7 c9 s8=>k0 c8 s7 c9 s8))))))
def fK (N:Nat) (amW:yM) (ali:aR) (anX:DQ) (anY:DV) (anf:yu) (an6:DT) (SQ7:F2) (an5:DR) (an4:DP) (x:Fl) (k0:Kx5):Bool:=
 (amW x (λcr nr aly alQ=>ali (alQ==0) 4 (anX nr false (λalT nsr=>cond cr (anY alT nsr (λamQ alG=>dC N amW ali anX anY anf an6 SQ7 an5 an4 x cr nr aly amQ alG k0)) (dC N amW ali anX anY anf an6 SQ7 an5 an4 x cr nr aly alT nsr k0)))))
def kh (N:Nat):ft:=fK N (CW N) (cM N) (K6 N) (Ld N) (Lf N) (Nm N) (sQ7 N) (Tj N) (Nl N)
abbrev eF:=Int->Int->LF->(List RY0->Bool)->Bool
def fo (N:Nat) (ame:uW) (ali:aR) (alw:ft) (aqO:LF) (arm asi asj g_2 g_3:Int) (e0:List RY0->Bool):(Int × List RY0)->((Int × List RY0)->Bool)->Bool:=λv_ K=>match v_ with
 | (anx,b2)=>(cond (decide (anx<arm)) (inR anx aqO.length&&alw (aqO.getD anx.toNat none) (λamQ al3 anA al5=>decide ((List.length (b2++[((amQ,al3),(anA,al5))]))*8<=140737488355328)&&(au .i64 (anx+1)&&K ((anx+1),(b2++[((amQ,al3),(anA,al5))]))))) (e0 b2))
def jr (N:Nat) (ame:uW) (ali:aR) (alw:ft) (m_0 m_1:Int) (m_2:LF) (k0:List RY0->Bool):Bool:=
 (ame m_0 m_1 m_2 (λnr=>ali (nr==0) nr (al N (fo N ame ali alw m_2 ((m_2.length:Nat):Int) 0 0 m_0 m_1 (λ(arY:List RY0)=>k0 arY)) (0,[]))))
def jz (N:Nat):eF:=jr N (Tg N) (cM N) (kh N)
abbrev aP:=Int->Int->Int->Int->List RY0->(Kx5)->Bool
def gN (N:Nat) (g_0 g_1 i j:Int) (b:List RY0) (k0:Kx5):Bool:=
 (au .i64 (i*g_1)&&(au .i64 ((i*g_1)+j)&&(inR ((i*g_1)+j) b.length&&(decide ((Int.toNat ((i*g_1)+j))<b.length)&&k0 (b.getD (Int.toNat ((i*g_1)+j)) ((false,[]),(false,[]))).1.1 (b.getD (Int.toNat ((i*g_1)+j)) ((false,[]),(false,[]))).1.2 (b.getD (Int.toNat ((i*g_1)+j)) ((false,[]),(false,[]))).2.1 (b.getD (Int.toNat ((i*g_1)+j)) ((false,[]),(false,[]))).2.2))))
def bv (N:Nat):aP:=gN N
abbrev oE:=Bool->LI->Bool->LI->(Kz1)->Bool
def aaQ (N:Nat) (x_0:Bool) (x_1:LI) (x_2:Bool) (x_3:LI) (k0:Kz1):Bool:=
 (cond (((x_3.length:Nat):Int)==0) (k0 [1]) (k0 x_3))
def K5 (N:Nat):oE:=aaQ N
abbrev qY:=Bool->LI->LI->Bool->Bool->(Ky0)->Bool
def aaM (N:Nat) (amP:tk) (anm:yo) (neg:Bool) (a b:LI) (b_1 b_2:Bool) (k0:Ky0):Bool:=
 (amP neg a b_1 b_2 (λcr nsr=>anm false b cr a b_2 nsr (λalT=>k0 cr alT)))
def Nj (N:Nat):qY:=aaM N (K3 N) (Ti N)
abbrev GN:=Bool->LI->Bool->LI->Bool->Bool->(Kx5)->Bool
def abr (N:Nat) (alH:jK) (amF:oE) (anb:qY) (x_0:Bool) (x_1:LI) (x_2:Bool) (x_3:LI) (b b_1:Bool) (k0:Kx5):Bool:=
 (alH x_1 (λnsr=>amF x_0 x_1 x_2 x_3 (λalG=>alH alG (λal3=>anb (!x_0) nsr al3 b b_1 (λcr alT=>k0 cr nsr alT al3)))))
def aen (N:Nat):GN:=abr N (Dk N) (K5 N) (Nj N)
abbrev GF:=Bool->LI->Bool->LI->(Kz1)->Bool
def abj (N:Nat) (b:Bool) (b_1:LI) (b_2:Bool) (b_3:LI) (k0:Kz1):Bool:=
 (cond (((b_3.length:Nat):Int)==0) (k0 [1]) (k0 b_3))
def aej (N:Nat):GF:=abj N
abbrev pK:=LI->LI->(Kz1)->Bool
def Jf (N:Nat) (SQ8:yP) (x y:LI) (k0:Kz1):Bool:=
 (SQ8 x y (λnsr alG=>k0 nsr))
def Gt (N:Nat) (SQ8:yP) (x y:LI) (k0:Kz1):Bool:=
 (cond ((((y.length:Nat):Int)==1)==true) (inR 0 y.length&&cond ((y.getD 0 0)==1) (k0 x) (Jf N SQ8 x y k0)) (Jf N SQ8 x y k0))
def Fo (N:Nat):pK:=Gt N (sQ8 N)
abbrev BB:=LI->LI->(Kz1)->Bool
def qL (N:Nat) (amg:q7) (SQ5:qZ) (SQ2:kH) (x_1 y_1:LI) (n t17:Int) (e0:Ky5):(Int × Int × LI)->((Int × Int × LI)->Bool)->Bool:=λv_ K=>match v_ with
 | (carry,t18,z)=>(cond (decide (t18<t17)) (amg x_1 t18 (λnr=>amg y_1 t18 (λaly=>SQ5 nr aly carry (λalQ amB=>inR t18 z.length&&(decide (t18.toNat<z.length)&&(au .i64 (t18+1)&&K (amB,(t18+1),(z.set t18.toNat alQ)))))))) (e0 carry z))
def Pw (N:Nat) (amg:q7) (SQ5:qZ) (SQ2:kH) (x y:LI) (k0:Kz1):Bool:=
 (au .i64 ((imm true ((x.length:Nat):Int) ((y.length:Nat):Int))+1)&&(oB 8 ((imm true ((x.length:Nat):Int) ((y.length:Nat):Int))+1) ((imm true ((x.length:Nat):Int) ((y.length:Nat):Int))+1)&&al N (qL N amg SQ5 SQ2 x y (imm true ((x.length:Nat):Int) ((y.length:Nat):Int)) (imm true ((x.length:Nat):Int) ((y.length:Nat):Int)) (λang z_1=>inR (imm true ((x.length:Nat):Int) ((y.length:Nat):Int)) z_1.length&&(decide ((Int.toNat (imm true ((x.length:Nat):Int) ((y.length:Nat):Int)))<z_1.length)&&SQ2 (z_1.set (Int.toNat (imm true ((x.length:Nat):Int) ((y.length:Nat):Int))) ang) (λmr=>decide ((0+mr)<=(List.length (z_1.set (Int.toNat (imm true ((x.length:Nat):Int) ((y.length:Nat):Int))) ang)))&&k0 (List.take mr (List.drop 0 (z_1.set (Int.toNat (imm true ((x.length:Nat):Int) ((y.length:Nat):Int))) ang))))))) (0,0,(List.replicate (Int.toNat ((imm true ((x.length:Nat):Int) ((y.length:Nat):Int))+1)) (0:Int)))))
def Qy (N:Nat):BB:=Pw N (Np N) (sQ5 N) (sQ2 N)
abbrev zW:=Bool->LI->Bool->LI->(Ky1)->Bool
def aa5 (N:Nat) (apL:BB) (anO:uY) (SQ6:uf) (anl:uc) (neg:Bool) (y:LI) (b:Bool) (b_1:LI) (k0:Ky1):Bool:=
 (cond (b==neg) (apL b_1 y (λnsr=>anO neg nsr b b_1 (λcr=>k0 cr nsr))) (SQ6 b_1 y (λnr=>cond (decide (nr>=0)) (anl b_1 y (λalG=>anO b alG b b_1 (λalT=>k0 alT alG))) (anl y b_1 (λal3=>anO neg al3 b b_1 (λamQ=>k0 amQ al3))))))
def WW (N:Nat):zW:=aa5 N (Qy N) (WU N) (sQ6 N) (KY N)
abbrev GA:=Bool->LI->Bool->LI->Bool->Bool->Bool->LI->Bool->LI->(Kx5)->Bool
def abd (N:Nat) (amF:oE) (aqW:GF) (amj:qb) (amk:pK) (am0:q8) (amJ:oC) (aoP:zW) (alH:jK) (anb:qY) (x_0:Bool) (x_1:LI) (x_2:Bool) (x_3:LI) (b b_1 b_2:Bool) (b_3:LI) (b_4:Bool) (b_5:LI) (k0:Kx5):Bool:=
 (amF x_0 x_1 x_2 x_3 (λnsr=>aqW b_2 b_3 b_4 b_5 (λalG=>amj nsr alG (λal3=>amk nsr al3 (λal5=>amk alG al3 (λamd=>am0 x_1 amd (λs5=>amJ x_0 s5 false (λcr=>am0 b_3 al5 (λs6=>aoP b_2 s6 cr s5 (λalT s7=>amj s7 al3 (λs8=>amk s7 s8 (λs9=>alH s9 (λs10=>amk alG s8 (λs11=>am0 al5 s11 (λs12=>anb alT s10 s12 b b_1 (λamQ anA=>k0 amQ s10 anA s12))))))))))))))))
def aeh (N:Nat):GA:=abd N (K5 N) (aej N) (IC N) (Fo N) (Le N) (IB N) (WW N) (Dk N) (Nj N)
abbrev GT:=Bool->LI->Bool->LI->Bool->LI->Bool->LI->Bool->Bool->(Kx5)->Bool
def aby (N:Nat) (aq2:GN) (aqS:GA) (x_0:Bool) (x_1:LI) (x_2:Bool) (x_3:LI) (y_0:Bool) (y_1:LI) (y_2:Bool) (y_3:LI) (b b_1:Bool) (k0:Kx5):Bool:=
 (aq2 y_0 y_1 y_2 y_3 false false (λcr nsr alT alG=>aqS x_0 x_1 x_2 x_3 b b_1 cr nsr alT alG (λamQ al3 anA al5=>k0 amQ al3 anA al5)))
def agS (N:Nat):GT:=aby N (aen N) (aeh N)
abbrev bf:=Bool->LI->Bool->LI->Bool->LI->Bool->LI->(Kx5)->Bool
def fZ (N:Nat) (aq8:GT) (x_0:Bool) (x_1:LI) (x_2:Bool) (x_3:LI) (y_0:Bool) (y_1:LI) (y_2:Bool) (y_3:LI) (k0:Kx5):Bool:=
 (aq8 x_0 x_1 x_2 x_3 y_0 y_1 y_2 y_3 false false (λcr nsr alT alG=>k0 cr nsr alT alG))
def bD (N:Nat):bf:=fZ N (agS N)
abbrev Bb:=Bool->LI->Bool->LI->(Ky8)->Bool
def Pb (N:Nat) (x_0:Bool) (x_1:LI) (x_2:Bool) (x_3:LI) (k0:Ky8):Bool:=
 (cond x_0 (k0 (-1)) (cond (((x_1.length:Nat):Int)==0) (k0 0) (k0 1)))
def WL (N:Nat):Bb:=Pb N
abbrev Bc:=Bool->LI->Bool->LI->(Ky8)->Bool
def Pc (N:Nat) (apx:Bb) (x_0:Bool) (x_1:LI) (x_2:Bool) (x_3:LI) (k0:Ky8):Bool:=
 (apx x_0 x_1 x_2 x_3 (λnr=>k0 nr))
def WM (N:Nat):Bc:=Pc N (WL N)
abbrev bg:=Bool->LI->Bool->LI->(Ky8)->Bool
def gd (N:Nat) (apy:Bc) (x_0:Bool) (x_1:LI) (x_2:Bool) (x_3:LI) (k0:Ky8):Bool:=
 (apy x_0 x_1 x_2 x_3 (λnr=>k0 nr))
def bE (N:Nat):bg:=gd N (WM N)
abbrev bH:=Int->Int->List RY0->(Bool)->Bool
section
variable (N:Nat) (alc:aP) (alg:bf) (ale:bg) (ali:aR)
def ck (N:Nat) (alc:aP) (alg:bf) (ale:bg) (ali:aR) (i asn asp t9:Int) (an7:List RY0) (g_3 g_4:Int) (e0:Bool):(Int)->((Int)->Bool)->Bool:=λv_ K=>match v_ with
 | t10=>(cond (decide (t10<t9)) (alc g_3 g_4 i t10 an7 (λcr nsr alT alG=>alc g_3 g_4 t10 i an7 (λamQ al3 anA al5=>alg cr nsr alT alG amQ al3 anA al5 (λaoz amd aqF s5=>ale aoz amd aqF s5 (λnr=>ali (nr==0) 112 (au .i64 (t10+1)&&K (t10+1))))))) e0)
def cj (t5:Int) (b0:List RY0) (g g_2:Int) (e0:Bool):(Int)->((Int)->Bool)->Bool:=λv_ K=>match v_ with
 | t6=>(cond (decide (t6<t5)) (al N (ck N alc alg ale ali t6 t5 t6 t6 b0 g g_2 (au .i64 (t6+1)&&K (t6+1))) 0) e0)
def dQ (g_0 g_1:Int) (b:List RY0) (k0:Bool):Bool:=
 (al N (cj N alc alg ale ali g_0 b g_0 g_1 k0) 0)
end
def dT (N:Nat):bH:=dQ N (bv N) (bD N) (bE N) (cM N)
abbrev Bl:=Int->Int->(Kx5)->Bool
def Pl (N:Nat) (anf:yu) (SQ7:F2) (a b:Int) (k0:Kx5):Bool:=
 (anf a (λcr nsr=>anf b (λalT alG=>SQ7 false false cr nsr alT alG (λamQ al3 anA al5=>k0 amQ al3 anA al5))))
def WP (N:Nat):Bl:=Pl N (Lf N) (sQ7 N)
abbrev gP:=Int->(Kx5)->Bool
def lP (N:Nat) (apC:Bl) (n:Int) (k0:Kx5):Bool:=
 (apC n 1 (λcr nsr alT alG=>k0 cr nsr alT alG))
def fQ (N:Nat):gP:=lP N (WP N)
abbrev zV:=Bool->LI->LI->LI->LI->Bool->Bool->(Kx5)->Bool
def aaZ (N:Nat) (amj:qb) (amk:pK) (am0:q8) (anb:qY) (neg:Bool) (a b c d:LI) (b_1 b_2:Bool) (k0:Kx5):Bool:=
 (amj a d (λnsr=>amj c b (λalG=>amk a nsr (λal3=>amk c alG (λal5=>am0 al3 al5 (λamd=>amk b alG (λs5=>amk d nsr (λs6=>am0 s5 s6 (λs7=>anb neg amd s7 b_1 b_2 (λcr alT=>k0 cr amd alT s7))))))))))
def WT (N:Nat):zV:=aaZ N (IC N) (Fo N) (Le N) (Nj N)
abbrev GS:=Bool->LI->Bool->LI->Bool->LI->Bool->LI->Bool->Bool->(Kx5)->Bool
def abx (N:Nat) (amF:oE) (aoO:zV) (x_0:Bool) (x_1:LI) (x_2:Bool) (x_3:LI) (y_0:Bool) (y_1:LI) (y_2:Bool) (y_3:LI) (b b_1:Bool) (k0:Kx5):Bool:=
 (amF x_0 x_1 x_2 x_3 (λnsr=>amF y_0 y_1 y_2 y_3 (λalG=>aoO (x_0 != y_0) x_1 nsr alG y_1 b b_1 (λcr al3 alT al5=>k0 cr al3 alT al5))))
def agR (N:Nat):GS:=abx N (K5 N) (WT N)
abbrev cW:=Bool->LI->Bool->LI->Bool->LI->Bool->LI->(Kx5)->Bool
def f_ (N:Nat) (aq7:GS) (x_0:Bool) (x_1:LI) (x_2:Bool) (x_3:LI) (y_0:Bool) (y_1:LI) (y_2:Bool) (y_3:LI) (k0:Kx5):Bool:=
 (aq7 x_0 x_1 x_2 x_3 y_0 y_1 y_2 y_3 false false (λcr nsr alT alG=>k0 cr nsr alT alG))
def cl (N:Nat):cW:=f_ N (agR N)
abbrev GR:=Bool->LI->Bool->LI->Bool->LI->Bool->LI->Bool->Bool->(Kx5)->Bool
def abw (N:Nat) (amF:oE) (aoO:zV) (x_0:Bool) (x_1:LI) (x_2:Bool) (x_3:LI) (y_0:Bool) (y_1:LI) (y_2:Bool) (y_3:LI) (b b_1:Bool) (k0:Kx5):Bool:=
 (amF x_0 x_1 x_2 x_3 (λnsr=>amF y_0 y_1 y_2 y_3 (λalG=>aoO (x_0 != y_0) x_1 nsr y_1 alG b b_1 (λcr al3 alT al5=>k0 cr al3 alT al5))))
def agQ (N:Nat):GR:=abw N (K5 N) (WT N)
abbrev cF:=Bool->LI->Bool->LI->Bool->LI->Bool->LI->(Kx5)->Bool
def fC (N:Nat) (aq6:GR) (x_0:Bool) (x_1:LI) (x_2:Bool) (x_3:LI) (y_0:Bool) (y_1:LI) (y_2:Bool) (y_3:LI) (k0:Kx5):Bool:=
 (aq6 x_0 x_1 x_2 x_3 y_0 y_1 y_2 y_3 false false (λcr nsr alT alG=>k0 cr nsr alT alG))
def fH (N:Nat):cF:=fC N (agQ N)
abbrev GL:=Bool->LI->Bool->LI->Bool->LI->Bool->LI->Bool->Bool->(Kx5)->Bool
def TV (N:Nat) (amF:oE) (amj:qb) (amk:pK) (am0:q8) (amJ:oC) (aoP:zW) (alH:jK) (anb:qY) (x_0:Bool) (x_1:LI) (x_2:Bool) (x_3:LI) (y_0:Bool) (y_1:LI) (y_2:Bool) (y_3:LI) (b b_1:Bool) (k0:Kx5):Bool:=
 (amF x_0 x_1 x_2 x_3 (λnsr=>amF y_0 y_1 y_2 y_3 (λalG=>amj nsr alG (λal3=>amk nsr al3 (λal5=>amk alG al3 (λamd=>am0 x_1 amd (λs5=>amJ x_0 s5 false (λcr=>am0 y_1 al5 (λs6=>aoP y_0 s6 cr s5 (λalT s7=>amj s7 al3 (λs8=>amk s7 s8 (λs9=>alH s9 (λs10=>amk alG s8 (λs11=>am0 al5 s11 (λs12=>anb alT s10 s12 b b_1 (λamQ anA=>k0 amQ s10 anA s12))))))))))))))))
def W4 (N:Nat):GL:=TV N (K5 N) (IC N) (Fo N) (Le N) (IB N) (WW N) (Dk N) (Nj N)
abbrev cX:=Bool->LI->Bool->LI->Bool->LI->Bool->LI->(Kx5)->Bool
def gc (N:Nat) (aq0:GL) (x_0:Bool) (x_1:LI) (x_2:Bool) (x_3:LI) (y_0:Bool) (y_1:LI) (y_2:Bool) (y_3:LI) (k0:Kx5):Bool:=
 (aq0 x_0 x_1 x_2 x_3 y_0 y_1 y_2 y_3 false false (λcr nsr alT alG=>k0 cr nsr alT alG))
def gp (N:Nat):cX:=gc N (W4 N)
abbrev du:=Int->Int->Int->Int->Bool->LI->Bool->LI->List RY0->(List RY0->Bool)->Bool
def gO (N:Nat) (g_0 g_1 i j:Int) (x_0:Bool) (x_1:LI) (x_2:Bool) (x_3:LI) (b:List RY0) (k0:List RY0->Bool):Bool:=
 (au .i64 (i*g_1)&&(au .i64 ((i*g_1)+j)&&(inR ((i*g_1)+j) b.length&&(decide ((Int.toNat ((i*g_1)+j))<b.length)&&k0 (b.set (Int.toNat ((i*g_1)+j)) ((x_0,x_1),(x_2,x_3)))))))
def gW (N:Nat):du:=gO N
abbrev dr:=Int->Int->Int->Int->Bool->LI->Bool->LI->List RY0->(List RY0->Bool)->Bool
def dD (N:Nat) (alc:aP) (alr:cF) (als:cX) (alt:du) (i_1 asG t10 g g_2:Int) (x:Bool) (x_4:LI) (x_5:Bool) (x_6:LI) (e0:List RY0->Bool):(Int × List RY0)->((Int × List RY0)->Bool)->Bool:=λv_ K=>match v_ with
 | (t11,b0)=>(cond (decide (t11<t10)) (alc g g_2 i_1 t11 b0 (λcr nsr alT alG=>alc g g_2 asG t11 b0 (λamQ al3 anA al5=>alr amQ al3 anA al5 x x_4 x_5 x_6 (λaoz amd aqF s5=>als cr nsr alT alG aoz amd aqF s5 (λaqq s6 aqr s7=>alt g g_2 i_1 t11 aqq s6 aqr s7 b0 (λ(lr:List RY0)=>au .i64 (t11+1)&&K ((t11+1),lr))))))) (e0 b0))
def gM (N:Nat) (alc:aP) (alr:cF) (als:cX) (alt:du) (g_0 g_1 i k_:Int) (x_0:Bool) (x_1:LI) (x_2:Bool) (x_3:LI) (b:List RY0) (k0:List RY0->Bool):Bool:=
 (al N (dD N alc alr als alt i k_ g_1 g_0 g_1 x_0 x_1 x_2 x_3 (λ(an7:List RY0)=>k0 an7)) (0,b))
def cG (N:Nat):dr:=gM N (bv N) (fH N) (gp N) (gW N)
abbrev bQ:=Int->Int->List RY0->(Int->List RY0->Bool)->Bool
section
variable (N:Nat) (alc:aP) (ale:bg) (alu:gP) (alo:cW) (alg:bf) (alp:dr)
def aE (N:Nat) (alc:aP) (ale:bg) (alu:gP) (alo:cW) (alg:bf) (alp:dr) (s_1 k_ asq anU g_3 g_4:Int) (p:Bool) (p_1:LI) (p_2:Bool) (p_3:LI) (e0:Int->List RY0->Bool) (e1:List RY0->Bool):(Int × List RY0)->((Int × List RY0)->Bool)->Bool:=λv_ K=>match v_ with
 | (i,an7)=>(cond (decide (i<g_3)) (alc g_3 g_4 i k_ an7 (λamQ al3 anA al5=>ale amQ al3 anA al5 (λaly=>cond (aly==0) (au .i64 (i+1)&&K ((i+1),an7)) (ale p p_1 p_2 p_3 (λalQ=>cond (alQ==0) (e0 1 an7) (alu 0 (λaoz amd aqF s5=>alo amQ al3 anA al5 p p_1 p_2 p_3 (λaqq s6 aqr s7=>alg aoz amd aqF s5 aqq s6 aqr s7 (λc8 s8 c9 s9=>alp g_3 g_4 i k_ c8 s8 c9 s9 an7 (λ(lr:List RY0)=>au .i64 (i+1)&&K ((i+1),lr))))))))))) (e1 an7))
def aV (t9 g g_2:Int) (e0:Int->List RY0->Bool) (e1:Int->List RY0->Bool):(Int × Int × List RY0)->((Int × Int × List RY0)->Bool)->Bool:=λv_ K=>match v_ with
 | (s,t10,b0)=>(cond (decide (t10<t9)) (alc g g_2 t10 t10 b0 (λcr nsr alT alG=>ale cr nsr alT alG (λnr=>cond (decide (nr<0)) (e0 1 b0) (au .i64 (t10+1)&&al N (aE N alc ale alu alo alg alp s t10 t9 t10 g g_2 cr nsr alT alG (λ(t2:Int) (avu:List RY0)=>e0 t2 avu) (λ(auE:List RY0)=>ale cr nsr alT alG (λamB=>cond (amB==0) (au .i64 (t10+1)&&K (2,(t10+1),auE)) (au .i64 (t10+1)&&K (s,(t10+1),auE))))) ((t10+1),b0))))) (e1 s b0))
def ep (g_0 g_1:Int) (b:List RY0) (k0:Int->List RY0->Bool):Bool:=
 (al N (aV N alc ale alu alo alg alp g_0 g_0 g_1 (λ(auq:Int) (avv:List RY0)=>k0 auq avv) (λ(s_2:Int) (avw:List RY0)=>k0 s_2 avw)) (3,0,b))
end
def g_ (N:Nat):bQ:=ep N (bv N) (bE N) (fQ N) (cl N) (bD N) (cG N)
abbrev cV:=Int->Int->List RY0->(Int->List RY0->Bool)->Bool
def fY (N:Nat) (ali:aR) (alz:bH) (alC:bQ) (g_0 g_1:Int) (b:List RY0) (k0:Int->List RY0->Bool):Bool:=
 (ali (g_0==g_1) 3 (alz g_0 g_1 b (alC g_0 g_1 b (λ(nr:Int) (lr:List RY0)=>k0 nr lr))))
def gl (N:Nat):cV:=fY N (cM N) (dT N) (g_ N)
abbrev fq:=Int->Int->LF->(Ky2)->Bool
def j6 (N:Nat) (alR:eF) (alF:cV) (m_0 m_1:Int) (m_2:LF) (k0:Ky2):Bool:=
 (alR m_0 m_1 m_2 (λ(lr:List RY0)=>alF m_0 m_1 lr (λ(nr:Int) (awE:List RY0)=>k0 nr 0)))
def kg (N:Nat):fq:=j6 N (jz N) (gl N)
abbrev cY:=Int->Int->LF->(Ky7)->Bool
def kM (N:Nat) (alS:fq) (p_0 p_1:Int) (p_2:LF) (k0:Ky7):Bool:=
 (alS p_0 p_1 p_2 (λnr aly=>cond ((aly==0)==true) (k0 (nr==3)) (k0 false)))
def gV (N:Nat):cY:=kM N (kg N)
abbrev eu:=LF->Int->Int->LF->(Ky8)->Bool
def nx (N:Nat) (ame:uW) (alV:nz) (aqY:GI) (alD:cY) (s_0:LF) (s_1 s_2:Int) (s_3:LF) (k0:Ky8):Bool:=
 (ame s_1 s_2 s_3 (λnr=>cond (nr != 0) (k0 nr) (cond ((s_1 != s_2)==false) (cond (((s_0.length:Nat):Int) != s_1) (k0 3) (alV s_0 (λcr=>cond (!cr) (k0 4) (aqY s_1 s_2 s_3 (λalT=>cond (!alT) (k0 150) (alD s_1 s_2 s_3 (λamQ=>cond (!amQ) (k0 151) (k0 0)))))))) (k0 3))))
def jR (N:Nat):eu:=nx N (Tg N) (K9 N) (ael N) (gV N)
abbrev jL:=Int->LF->Fl->(Ky8)->Bool
def pb (N:Nat) (alV:nz) (n:Int) (h:LF) (r:Fl) (k0:Ky8):Bool:=
 (cond (((h.length:Nat):Int) != n) (k0 3) (alV h (λcr=>cond (!cr) (k0 4) (alV [r] (λalT=>cond (!alT) (k0 4) (cond (fle r (some 0)) (k0 152) (k0 0)))))))
def mT (N:Nat):jL:=pb N (K9 N)
abbrev kC:=Int->Int->LF->Int->(LF->Bool)->Bool
def ua (N:Nat) (m_0 m_1:Int) (m_2:LF) (i:Int) (k0:LF->Bool):Bool:=
 (au .i64 (i*m_1)&&(au .i64 (i+1)&&(au .i64 ((i+1)*m_1)&&(decide (0<=(i*m_1)/\(i*m_1)<=((i+1)*m_1)/\((i+1)*m_1)<=((m_2.length:Nat):Int))&&k0 (List.drop (Int.toNat (i*m_1)) (List.take (Int.toNat ((i+1)*m_1)) m_2))))))
def qK (N:Nat):kC:=ua N
abbrev yr:=Fl->Bool->LF->Int->Int->LF->LF->Fl->Fl->Fl->(Ky7)->Bool
def afa (N:Nat) (ams:qe) (x:Fl) (b:Bool) (b_1:LF) (b_2 b_3:Int) (b_4 b_5:LF) (b_6 b_7 b_8:Fl) (k0:Ky7):Bool:=
 (cond ((!feq x x)==false) (ams x 0 (λcr=>cond cr (k0 true) (k0 b))) (k0 true))
def agI (N:Nat):yr:=afa N (Lg N)
abbrev D2:=Fl->Fl->Bool->LF->Int->Int->LF->LF->Fl->Fl->Fl->(Ky3)->Bool
def afe (N:Nat) (anC:yr) (a b:Fl) (b_1:Bool) (b_2:LF) (b_3 b_4:Int) (b_5 b_6:LF) (b_7 b_8 b_9:Fl) (k0:Ky3):Bool:=
 (anC (aZ a b) b_1 b_2 b_3 b_4 b_5 b_6 b_7 b_8 b_9 (λcr=>k0 (aZ a b) cr))
def ajC (N:Nat):D2:=afe N (agI N)
abbrev D0:=LF->LF->Bool->LF->Int->Int->LF->LF->Fl->Fl->Fl->(Ky3)->Bool
def qk (N:Nat) (aoo:D2) (anC:yr) (alZ t10:LF) (t11:Int) (s_1:LF) (s_2 s_3:Int) (s_4 s_5:LF) (s_6 s_7 s_8:Fl) (e0:Ky3):(Fl × Int × Bool)->((Fl × Int × Bool)->Bool)->Bool:=λv_ K=>match v_ with
 | (t,t12,s)=>(cond (decide (t12<t11)) (inR t12 t10.length&&(inR t12 alZ.length&&aoo (t10.getD t12.toNat none) (alZ.getD t12.toNat none) s s_1 s_2 s_3 s_4 s_5 s_6 s_7 s_8 (λxr cr=>anC (cu t xr) cr s_1 s_2 s_3 s_4 s_5 s_6 s_7 s_8 (λalT=>au .i64 (t12+1)&&K ((cu t xr),(t12+1),alT))))) (e0 t s))
def afd (N:Nat) (aoo:D2) (anC:yr) (a b:LF) (b_1:Bool) (b_2:LF) (b_3 b_4:Int) (b_5 b_6:LF) (b_7 b_8 b_9:Fl) (k0:Ky3):Bool:=
 (al N (qk N aoo anC b a ((a.length:Nat):Int) b_2 b_3 b_4 b_5 b_6 b_7 b_8 b_9 (λt_1 b0=>k0 t_1 b0)) ((some 0),0,b_1))
def ajB (N:Nat):D0:=afd N (ajC N) (agI N)
abbrev rT:=Fl->Bool->LF->Int->Int->LF->LF->Fl->Fl->Fl->LF->(Ky7)->Bool
def GQ4 (N:Nat) (ams:qe) (x:Fl) (b:Bool) (b_1:LF) (b_2 b_3:Int) (b_4 b_5:LF) (b_6 b_7 b_8:Fl) (b_9:LF) (k0:Ky7):Bool:=
 (cond ((!feq x x)==false) (ams x 0 (λcr=>cond cr (k0 true) (k0 b))) (k0 true))
def sQ4 (N:Nat):rT:=GQ4 N (Lg N)
abbrev zS:=Fl->Fl->Bool->LF->Int->Int->LF->LF->Fl->Fl->Fl->LF->(Ky3)->Bool
def aaL (N:Nat) (SQ4:rT) (a b:Fl) (b_1:Bool) (b_2:LF) (b_3 b_4:Int) (b_5 b_6:LF) (b_7 b_8 b_9:Fl) (alZ:LF) (k0:Ky3):Bool:=
 (SQ4 (aZ a b) b_1 b_2 b_3 b_4 b_5 b_6 b_7 b_8 b_9 alZ (λcr=>k0 (aZ a b) cr))
def Ni (N:Nat):zS:=aaL N (sQ4 N)
abbrev DU:=LF->LF->Bool->LF->Int->Int->LF->LF->Fl->Fl->Fl->LF->(Ky3)->Bool
def Oj (N:Nat) (am2:zS) (SQ4:rT) (amY t10:LF) (t11:Int) (s_1:LF) (s_2 s_3:Int) (s_4 s_5:LF) (s_6 s_7 s_8:Fl) (b1:LF) (e0:Ky3):(Fl × Int × Bool)->((Fl × Int × Bool)->Bool)->Bool:=λv_ K=>match v_ with
 | (t,t12,s)=>(cond (decide (t12<t11)) (inR t12 t10.length&&(inR t12 amY.length&&am2 (t10.getD t12.toNat none) (amY.getD t12.toNat none) s s_1 s_2 s_3 s_4 s_5 s_6 s_7 s_8 b1 (λxr cr=>SQ4 (cu t xr) cr s_1 s_2 s_3 s_4 s_5 s_6 s_7 s_8 b1 (λalT=>au .i64 (t12+1)&&K ((cu t xr),(t12+1),alT))))) (e0 t s))
def aa7 (N:Nat) (am2:zS) (SQ4:rT) (a b:LF) (b_1:Bool) (b_2:LF) (b_3 b_4:Int) (b_5 b_6:LF) (b_7 b_8 b_9:Fl) (alZ:LF) (k0:Ky3):Bool:=
 (al N (Oj N am2 SQ4 b a ((a.length:Nat):Int) b_2 b_3 b_4 b_5 b_6 b_7 b_8 b_9 alZ (λt_1 b0=>k0 t_1 b0)) ((some 0),0,b_1))
def WX (N:Nat):DU:=aa7 N (Ni N) (sQ4 N)
abbrev DS:=LF->Bool->LF->Int->Int->LF->LF->Fl->Fl->Fl->LF->(Ky3)->Bool
def Oi (N:Nat) (am2:zS) (SQ4:rT) (t10:LF) (t11:Int) (s_1:LF) (s_2 s_3:Int) (s_4 s_5:LF) (s_6 s_7 s_8:Fl) (alZ:LF) (e0:Ky3):(Fl × Int × Bool)->((Fl × Int × Bool)->Bool)->Bool:=λv_ K=>match v_ with
 | (t,t12,s)=>(cond (decide (t12<t11)) (inR t12 t10.length&&(inR t12 alZ.length&&(decide (t12.toNat<alZ.length)&&am2 (t10.getD t12.toNat none) (alZ.getD t12.toNat none) s s_1 s_2 s_3 s_4 s_5 s_6 s_7 s_8 alZ (λxr cr=>SQ4 (cu t xr) cr s_1 s_2 s_3 s_4 s_5 s_6 s_7 s_8 alZ (λalT=>au .i64 (t12+1)&&K ((cu t xr),(t12+1),alT)))))) (e0 t s))
def aa1 (N:Nat) (am2:zS) (SQ4:rT) (a:LF) (b:Bool) (b_1:LF) (b_2 b_3:Int) (b_4 b_5:LF) (b_6 b_7 b_8:Fl) (b_9:LF) (k0:Ky3):Bool:=
 (al N (Oi N am2 SQ4 a ((a.length:Nat):Int) b_1 b_2 b_3 b_4 b_5 b_6 b_7 b_8 b_9 (λt_1 b0=>k0 t_1 b0)) ((some 0),0,b))
def WV (N:Nat):DS:=aa1 N (Ni N) (sQ4 N)
abbrev DX:=Bool->LF->Int->Int->LF->LF->Fl->Fl->Fl->LF->(Bool)->Bool
def ae_ (N:Nat) (b:Bool) (b_1:LF) (b_2 b_3:Int) (b_4 b_5:LF) (b_6 b_7 b_8:Fl) (b_9:LF) (k0:Bool):Bool:=
 k0
def ajy (N:Nat):DX:=ae_ N
abbrev cI:=LF->Int->Int->LF->LF->Fl->(Ky8)->(Int->Bool->Fl->Fl->LF->Bool)->Bool
def jG (N:Nat) (alx:eu) (alK:jL) (alP:kC) (aox:D0) (aof:DU) (aom:DS) (SQ4:rT) (aon:DX) (h_2:LF) (r_2:Fl) (asl:Int) (s_7:LF) (s_8 s_9:Int) (arl anF:LF) (aoB aqy:Int) (aqd aqe:LF) (aqf aqg aqh:Fl) (e0:Ky4):(Int × Bool × LF)->((Int × Bool × LF)->Bool)->Bool:=λv_ K=>match v_ with
 | (aqx,u_9,b2)=>(cond (decide (aqx<asl)) (alP s_8 s_9 arl aqx (λanV=>aof anV h_2 u_9 anF aoB aqy aqd aqe aqf aqg aqh b2 (λanR alT=>decide ((List.length (b2++[anR]))*8<=140737488355328)&&(au .i64 (aqx+1)&&K ((aqx+1),alT,(b2++[anR])))))) (e0 u_9 b2))
def lO (N:Nat) (alx:eu) (alK:jL) (alP:kC) (aox:D0) (aof:DU) (aom:DS) (SQ4:rT) (aon:DX) (s_0:LF) (s_1 s_2:Int) (s_3 h:LF) (r:Fl) (k0:Ky8) (k1:Int->Bool->Fl->Fl->LF->Bool):Bool:=
 (alx s_0 s_1 s_2 s_3 (λnr=>cond (nr != 0) (k0 nr) (alK ((s_0.length:Nat):Int) h r (λaly=>cond (aly != 0) (k0 aly) (al N (jG N alx alK alP aox aof aom SQ4 aon h r ((s_0.length:Nat):Int) s_0 s_1 s_2 s_3 s_0 s_1 s_2 s_3 h r (some 0) (some 0) (λarw arY=>aof h s_0 arw s_0 s_1 s_2 s_3 h r (some 0) (some 0) arY (λaou amQ=>aom h amQ s_0 s_1 s_2 s_3 h r aou (some 0) arY (λapr anA=>SQ4 (cu apr r) anA s_0 s_1 s_2 s_3 h r aou (some 0) arY (λaoz=>aon aoz s_0 s_1 s_2 s_3 h r aou (cu apr r) arY (cond aoz (k1 5 aoz aou (cu apr r) arY) (cond (!(fgt (cu apr r) (some 0))) (k1 153 aoz aou (cu apr r) arY) (k1 0 aoz aou (cu apr r) arY)))))))) (0,false,[]))))))
def l_ (N:Nat):cI:=lO N (jR N) (mT N) (qK N) (ajB N) (WX N) (WV N) (sQ4 N) (ajy N)
abbrev pm:=Fl->Bool->LF->Int->Int->LF->LF->Fl->Fl->Fl->LF->LF->(Ky7)->Bool
def GQ1 (N:Nat) (ams:qe) (x:Fl) (b:Bool) (b_1:LF) (b_2 b_3:Int) (b_4 b_5:LF) (b_6 b_7 b_8:Fl) (b_9 alZ:LF) (k0:Ky7):Bool:=
 (cond ((!feq x x)==false) (ams x 0 (λcr=>cond cr (k0 true) (k0 b))) (k0 true))
def sQ1 (N:Nat):pm:=GQ1 N (Lg N)
abbrev qX:=Fl->Fl->Bool->LF->Int->Int->LF->LF->Fl->Fl->Fl->LF->LF->(Ky3)->Bool
def GQ0 (N:Nat) (SQ1:pm) (a b:Fl) (b_1:Bool) (b_2:LF) (b_3 b_4:Int) (b_5 b_6:LF) (b_7 b_8 b_9:Fl) (alZ amY:LF) (k0:Ky3):Bool:=
 (SQ1 (aZ a b) b_1 b_2 b_3 b_4 b_5 b_6 b_7 b_8 b_9 alZ amY (λcr=>k0 (aZ a b) cr))
def sQ0 (N:Nat):qX:=GQ0 N (sQ1 N)
abbrev aO:=Bool->LF->Int->Int->LF->LF->Fl->Fl->Fl->LF->LF->(Bool)->Bool
def ig (N:Nat) (b:Bool) (b_1:LF) (b_2 b_3:Int) (b_4 b_5:LF) (b_6 b_7 b_8:Fl) (b_9 alZ:LF) (k0:Bool):Bool:=
 k0
def im (N:Nat):aO:=ig N
abbrev eA:=Int->Int->Int->LF->(Nat->Nat->Bool)->Bool
def qV (N:Nat) (m_0 m_1 i:Int) (b:LF) (k0:Nat->Nat->Bool):Bool:=
 (au .i64 (i*m_1)&&(au .i64 (i+1)&&(au .i64 ((i+1)*m_1)&&(decide (0<=(i*m_1)/\(i*m_1)<=((i+1)*m_1)/\((i+1)*m_1)<=((b.length:Nat):Int))&&k0 (Int.toNat (i*m_1)) ((Int.toNat ((i+1)*m_1)) - (Int.toNat (i*m_1)))))))
def nY (N:Nat):eA:=qV N
abbrev kB:=Int->Int->LF->Int->(LF->Bool)->Bool
def vo (N:Nat) (j_1 t11 m m_3:Int) (m_4:LF) (e0:LF->Bool):(Int × LF)->((Int × LF)->Bool)->Bool:=λv_ K=>match v_ with
 | (t12,out)=>(cond (decide (t12<t11)) (au .i64 (t12*m_3)&&(au .i64 ((t12*m_3)+j_1)&&(inR ((t12*m_3)+j_1) m_4.length&&(inR t12 out.length&&(decide (t12.toNat<out.length)&&(au .i64 (t12+1)&&K ((t12+1),(out.set t12.toNat (m_4.getD (Int.toNat ((t12*m_3)+j_1)) none))))))))) (e0 out))
def qp (N:Nat) (m_0 m_1:Int) (m_2:LF) (j:Int) (k0:LF->Bool):Bool:=
 (oB 8 m_0 m_0&&al N (vo N j (((List.length (List.replicate m_0.toNat (some 0))):Nat):Int) m_0 m_1 m_2 (λamv=>k0 amv)) (0,(List.replicate m_0.toNat (some 0))))
def qJ (N:Nat):kB:=qp N
abbrev DN:=Nat->Nat->Bool->LF->Int->Int->LF->LF->Fl->Fl->Fl->LF->LF->LF->LF->(Ky3)->Bool
def Oh (N:Nat) (SQ0:qX) (SQ1:pm) (t10 anU:Nat) (t11:Int) (s_1:LF) (s_2 s_3:Int) (s_4 s_5:LF) (s_6 s_7 s_8:Fl) (anQ an8 b3 b4:LF) (e0:Ky3):(Fl × Int × Bool)->((Fl × Int × Bool)->Bool)->Bool:=λv_ K=>match v_ with
 | (t,t12,s)=>(cond (decide (t12<t11)) (inR t12 anU&&(decide ((t10+t12.toNat)<anQ.length)&&(inR t12 an8.length&&(decide (t12.toNat<an8.length)&&SQ0 (anQ.getD (t10+t12.toNat) none) (an8.getD t12.toNat none) s s_1 s_2 s_3 s_4 s_5 s_6 s_7 s_8 b3 b4 (λxr cr=>SQ1 (cu t xr) cr s_1 s_2 s_3 s_4 s_5 s_6 s_7 s_8 b3 b4 (λalT=>au .i64 (t12+1)&&K ((cu t xr),(t12+1),alT))))))) (e0 t s))
def aaE (N:Nat) (SQ0:qX) (SQ1:pm) (a_0 a_1:Nat) (b:Bool) (b_1:LF) (b_2 b_3:Int) (b_4 b_5:LF) (b_6 b_7 b_8:Fl) (b_9 alZ amY anM:LF) (k0:Ky3):Bool:=
 (al N (Oh N SQ0 SQ1 a_0 a_1 ((a_1:Nat):Int) b_1 b_2 b_3 b_4 b_5 b_6 b_7 b_8 b_9 alZ amY anM (λt_1 b0=>k0 t_1 b0)) ((some 0),0,b))
def ad9 (N:Nat):DN:=aaE N (sQ0 N) (sQ1 N)
abbrev bP:=Int->Int->Int->Int->LF->Bool->LF->Int->Int->LF->LF->Fl->Fl->Fl->LF->LF->LF->(Ky4)->Bool
section
variable (N:Nat) (alv:eA) (alE:kB) (anG:DN)
def fz (N:Nat) (alv:eA) (alE:kB) (anG:DN) (i_1 asd apY anx:Int) (ao4:LF) (ao5 ao6:Int) (ao7 ao8:LF) (ao9 ao_ apa:Fl) (apR aoK aqC:LF) (a_5 a_6 as2 as3:Int) (as4:LF) (atJ atK ar8 ar9:Int) (e0:Ky4):(Int × Bool × LF)->((Int × Bool × LF)->Bool)->Bool:=λv_ K=>match v_ with
 | (anv,aoH,b8)=>(cond (decide (anv<anx)) (alv a_5 a_6 i_1 apR (λaqK atC=>alE as2 as3 as4 anv (λanV=>anG aqK atC aoH ao4 ao5 ao6 ao7 ao8 ao9 ao_ apa apR anV aoK aqC (λanR alT=>decide ((List.length (b8++[anR]))*8<=140737488355328)&&(au .i64 (anv+1)&&K ((anv+1),alT,(b8++[anR]))))))) (e0 aoH b8))
def fw (arW:Int) (apb:LF) (apc apd:Int) (ape apf:LF) (apg aph api:Fl) (aqA aqB aqD:LF) (a_7 a_8 atn as5:Int) (ato:LF) (as9 as_ arU arV:Int) (e0:Ky4):(Int × Bool × LF)->((Int × Bool × LF)->Bool)->Bool:=λv_ K=>match v_ with
 | (aok,aoI,asx)=>(cond (decide (aok<arW)) (al N (fz N alv alE anG aok arW aok as5 apb apc apd ape apf apg aph api aqA aqB aqD a_7 a_8 atn as5 ato as9 as_ arU arV (λatF avy=>au .i64 (aok+1)&&K ((aok+1),atF,avy))) (0,aoI,asx)) (e0 aoI asx))
def eo (a_0 a_1 b_0 b_1:Int) (b_2:LF) (b:Bool) (b_3:LF) (b_4 b_5:Int) (b_6 b_7:LF) (b_8 b_9 alZ:Fl) (amY anM an8:LF) (k0:Ky4):Bool:=
 (al N (fw N alv alE anG a_0 b_3 b_4 b_5 b_6 b_7 b_8 b_9 alZ amY anM an8 a_0 a_1 b_0 b_1 b_2 0 0 a_0 b_1 (λb0 b6=>k0 b0 b6)) (0,b,[]))
end
def dh (N:Nat):bP:=eo N (nY N) (qJ N) (ad9 N)
abbrev DW:=Nat->Nat->Nat->Nat->Bool->LF->Int->Int->LF->LF->Fl->Fl->Fl->LF->LF->LF->LF->(Ky3)->Bool
def Og (N:Nat) (SQ0:qX) (SQ1:pm) (apS apO t10 anU:Nat) (t11:Int) (s_1:LF) (s_2 s_3:Int) (s_4 s_5:LF) (s_6 s_7 s_8:Fl) (anQ aog b3 b4:LF) (e0:Ky3):(Fl × Int × Bool)->((Fl × Int × Bool)->Bool)->Bool:=λv_ K=>match v_ with
 | (t,t12,s)=>(cond (decide (t12<t11)) (inR t12 anU&&(decide ((t10+t12.toNat)<anQ.length)&&(inR t12 apO&&(decide ((apS+t12.toNat)<aog.length)&&SQ0 (anQ.getD (t10+t12.toNat) none) (aog.getD (apS+t12.toNat) none) s s_1 s_2 s_3 s_4 s_5 s_6 s_7 s_8 b3 b4 (λxr cr=>SQ1 (cu t xr) cr s_1 s_2 s_3 s_4 s_5 s_6 s_7 s_8 b3 b4 (λalT=>au .i64 (t12+1)&&K ((cu t xr),(t12+1),alT))))))) (e0 t s))
def aa9 (N:Nat) (SQ0:qX) (SQ1:pm) (a_0 a_1 b_0 b_1:Nat) (b:Bool) (b_2:LF) (b_3 b_4:Int) (b_5 b_6:LF) (b_7 b_8 b_9:Fl) (alZ amY anM an8:LF) (k0:Ky3):Bool:=
 (al N (Og N SQ0 SQ1 b_0 b_1 a_0 a_1 ((a_1:Nat):Int) b_2 b_3 b_4 b_5 b_6 b_7 b_8 b_9 alZ amY anM an8 (λt_1 b0=>k0 t_1 b0)) ((some 0),0,b))
def aef (N:Nat):DW:=aa9 N (sQ0 N) (sQ1 N)
abbrev aN:=Int->Int->Int->Int->Int->Int->Bool->LF->Int->Int->LF->LF->Fl->Fl->Fl->LF->LF->LF->LF->(Ky3)->Bool
def bC (N:Nat) (alv:eA) (ap6:DW) (SQ0:qX) (SQ1:pm) (i j b b_1 b_2 b_3:Int) (b_4:Bool) (b_5:LF) (b_6 b_7:Int) (b_8 b_9:LF) (alZ amY anM:Fl) (an8 apS apO aog:LF) (k0:Ky3):Bool:=
 (alv b b_1 i an8 (λmr aoF=>alv b_2 b_3 j apS (λaqK atC=>ap6 mr aoF aqK atC b_4 b_5 b_6 b_7 b_8 b_9 alZ amY anM an8 apS apO aog (λxr cr=>inR i aog.length&&(decide (i.toNat<aog.length)&&SQ0 (aog.getD i.toNat none) alZ cr b_5 b_6 b_7 b_8 b_9 alZ amY anM apO aog (λanR alT=>inR j aog.length&&(decide (j.toNat<aog.length)&&SQ0 anR (aog.getD j.toNat none) alT b_5 b_6 b_7 b_8 b_9 alZ amY anM apO aog (λaou amQ=>SQ1 (cu xr aou) amQ b_5 b_6 b_7 b_8 b_9 alZ amY anM apO aog (λanA=>k0 (cu xr aou) anA)))))))))
def ba (N:Nat):aN:=bC N (nY N) (aef N) (sQ0 N) (sQ1 N)
abbrev br:=Int->Int->Int->Int->Int->Bool->LF->Int->Int->LF->LF->Fl->Fl->Fl->LF->LF->LF->LF->(Ky4)->Bool
section
variable (N:Nat) (alj:aN)
def eg (N:Nat) (alj:aN) (n_2 i apW apX t21 arA arB arC arD:Int) (arM:LF) (arN arO:Int) (arP arQ:LF) (arR arS arT:Fl) (aq_ aop aqE as1:LF) (arn aro aoG aqw:Int) (e0:Ky4):(Int × Bool × LF)->((Int × Bool × LF)->Bool)->Bool:=λv_ K=>match v_ with
 | (t22,asv,apQ)=>(cond (decide (t22<t21)) (alj i t22 arA arB arC arD asv arM arN arO arP arQ arR arS arT aq_ aop aqE as1 (λxr cr=>au .i64 (i*n_2)&&(au .i64 ((i*n_2)+t22)&&(au .i64 (t22*n_2)&&(au .i64 ((t22*n_2)+i)&&(inR ((i*n_2)+t22) apQ.length&&(decide ((Int.toNat ((i*n_2)+t22))<apQ.length)&&(inR ((t22*n_2)+i) (List.length (apQ.set (Int.toNat ((i*n_2)+t22)) xr))&&(decide ((Int.toNat ((t22*n_2)+i))<(List.length (apQ.set (Int.toNat ((i*n_2)+t22)) xr)))&&(au .i64 (t22+1)&&K ((t22+1),cr,(List.set (apQ.set (Int.toNat ((i*n_2)+t22)) xr) (Int.toNat ((t22*n_2)+i)) xr)))))))))))) (e0 asv apQ))
def dZ (n_1 t16 at_ arx ary arz:Int) (asT:LF) (aqC aqD:Int) (asU asV:LF) (asW asX asY:Fl) (b4 b5 b6 b7:LF) (t4 arc out amv:Int) (e0:Ky4):(Int × Bool × LF)->((Int × Bool × LF)->Bool)->Bool:=λv_ K=>match v_ with
 | (t17,b3,b10)=>(cond (decide (t17<t16)) (au .i64 (t17+1)&&al N (eg N alj n_1 t17 t16 t17 (t17+1) at_ arx ary arz asT aqC aqD asU asV asW asX asY b4 b5 b6 b7 t4 arc out amv (λauJ auH=>au .i64 (t17+1)&&K ((t17+1),auJ,auH))) (0,b3,b10)) (e0 b3 b10))
def dy (n b b_1 b_2 b_3:Int) (b_4:Bool) (b_5:LF) (b_6 b_7:Int) (b_8 b_9:LF) (alZ amY anM:Fl) (an8 apS apO aog:LF) (k0:Ky4):Bool:=
 (au .i64 (n*n)&&(oB 8 (n*n) (n*n)&&al N (dZ N alj n n b b_1 b_2 b_3 b_5 b_6 b_7 b_8 b_9 alZ amY anM an8 apS apO aog 0 0 n n (λauK auI=>k0 auK auI)) (0,b_4,(List.replicate (Int.toNat (n*n)) (some 0)))))
end
def ca (N:Nat):br:=dy N (ba N)
abbrev aG:=Bool->LF->Int->Int->LF->LF->Fl->Fl->Fl->LF->LF->(Int->Int->Bool->LF->Bool)->Bool
section
variable (N:Nat) (SQ0:qX) (SQ1:pm) (alq:bP) (alm:br)
def e9 (N:Nat) (SQ0:qX) (SQ1:pm) (alq:bP) (alm:br) (n_2 i_1 apY ase anx:Int) (aqj:LF) (aqk aql:Int) (aqm ao1:LF) (aqn aqo aqp:Fl) (apR aoK:LF) (atG atH a_4 a_5:Int) (e0:Ky4):(Int × Bool × LF)->((Int × Bool × LF)->Bool)->Bool:=λv_ K=>match v_ with
 | (anv,aqN,b6)=>(cond (decide (anv<anx)) (cond (i_1==anv) (inR i_1 aoK.length&&(decide (i_1.toNat<aoK.length)&&(inR anv ao1.length&&SQ0 (aoK.getD i_1.toNat none) (ao1.getD anv.toNat none) aqN aqj aqk aql aqm ao1 aqn aqo aqp apR aoK (λanR amQ=>SQ1 (dF (some 4607182418800017408) anR) amQ aqj aqk aql aqm ao1 aqn aqo aqp apR aoK (λanA=>decide ((List.length (b6++[(dF (some 4607182418800017408) anR)]))*8<=140737488355328)&&(au .i64 (anv+1)&&K ((anv+1),anA,(b6++[(dF (some 4607182418800017408) anR)])))))))) (inR i_1 aoK.length&&(decide (i_1.toNat<aoK.length)&&(inR anv ao1.length&&SQ0 (aoK.getD i_1.toNat none) (ao1.getD anv.toNat none) aqN aqj aqk aql aqm ao1 aqn aqo aqp apR aoK (λaou aoz=>SQ1 (dF (some 0) aou) aoz aqj aqk aql aqm ao1 aqn aqo aqp apR aoK (λaqF=>decide ((List.length (b6++[(dF (some 0) aou)]))*8<=140737488355328)&&(au .i64 (anv+1)&&K ((anv+1),aqF,(b6++[(dF (some 0) aou)]))))))))) (e0 aqN b6))
def dm (n_3 aok:Int) (arE:LF) (arF arG:Int) (arH arI:LF) (arJ arK arL:Fl) (aqA aqB:LF) (as7 as8 a_6 a_7:Int) (e0:Ky4):(Int × Bool × LF)->((Int × Bool × LF)->Bool)->Bool:=λv_ K=>match v_ with
 | (ap5,ard,asw)=>(cond (decide (ap5<aok)) (al N (e9 N SQ0 SQ1 alq alm n_3 ap5 aok ap5 n_3 arE arF arG arH arI arJ arK arL aqA aqB as7 as8 a_6 a_7 (λauF avx=>au .i64 (ap5+1)&&K ((ap5+1),auF,avx))) (0,ard,asw)) (e0 ard asw))
def dH (b:Bool) (b_1:LF) (b_2 b_3:Int) (b_4 b_5:LF) (b_6 b_7 b_8:Fl) (b_9 alZ:LF) (k0:Int->Int->Bool->LF->Bool):Bool:=
 (al N (dm N SQ0 SQ1 alq alm ((b_5.length:Nat):Int) ((b_5.length:Nat):Int) b_1 b_2 b_3 b_4 b_5 b_6 b_7 b_8 b_9 alZ 0 0 ((b_5.length:Nat):Int) ((b_5.length:Nat):Int) (λauG auL=>alq ((b_5.length:Nat):Int) ((b_5.length:Nat):Int) b_2 b_3 b_4 auG b_1 b_2 b_3 b_4 b_5 b_6 b_7 b_8 auL b_9 alZ (λaqq xsr=>alm ((b_5.length:Nat):Int) ((b_5.length:Nat):Int) b_3 ((b_5.length:Nat):Int) ((b_5.length:Nat):Int) aqq b_1 b_2 b_3 b_4 b_5 b_6 b_7 b_8 xsr auL b_9 alZ (λaqr anV=>k0 ((b_5.length:Nat):Int) ((b_5.length:Nat):Int) aqr anV)))) (0,b,[]))
end
def dK (N:Nat):aG:=dH N (sQ0 N) (sQ1 N) (dh N) (ca N)
abbrev D4:=Bool->LF->Int->Int->LF->LF->Fl->Fl->Fl->LF->LF->(Bool)->Bool
def abi (N:Nat) (b:Bool) (b_1:LF) (b_2 b_3:Int) (b_4 b_5:LF) (b_6 b_7 b_8:Fl) (b_9 alZ:LF) (k0:Bool):Bool:=
 k0
def agM (N:Nat):D4:=abi N
abbrev aI:=Int->Int->Bool->LF->Int->Int->LF->LF->Fl->Fl->Fl->LF->LF->LF->LF->(Kx8)->(Ky8)->Bool
def dP (N:Nat) (ap7:D4) (alD:cY) (p_0 p_1:Int) (b:Bool) (b_1:LF) (b_2 b_3:Int) (b_4 b_5:LF) (b_6 b_7 b_8:Fl) (b_9 alZ amY anM:LF) (k0:Kx8) (k1:Ky8):Bool:=
 (ap7 b b_1 b_2 b_3 b_4 b_5 b_6 b_7 b_8 amY anM (cond b (k0 0 0 5) (alD p_0 p_1 alZ (λcr=>cond (!cr) (k0 0 0 151) (k1 0)))))
def gB (N:Nat):aI:=dP N (agM N) (gV N)
abbrev fL:=LF->Int->Int->LF->LF->Fl->Fl->(Kx2)->(Kx1)->(Kx0)->Bool
section
variable (N:Nat) (aln:cI) (alV:nz) (SQ4:rT) (SQ0:qX) (SQ1:pm) (alh:aO) (ald:aG) (alf:aI)
def gG (N:Nat) (aln:cI) (alV:nz) (SQ4:rT) (SQ0:qX) (SQ1:pm) (alh:aO) (ald:aG) (alf:aI) (y_1:Fl) (aso:Int) (s_7:LF) (s_8 s_9:Int) (arl:LF) (anQ ar_:Int) (asa asb asc:Fl) (aqd:LF) (aqe aqf:Int) (aqg aqh:LF) (arw asr ap3:Fl) (aop:LF) (e0:Bool->LF->LF->Bool):(Int × Bool × LF × LF)->((Int × Bool × LF × LF)->Bool)->Bool:=λv_ K=>match v_ with
 | (am_,aqy,x_1,b6)=>(cond (decide (am_<aso)) (inR am_ aop.length&&(decide (am_.toNat<aop.length)&&SQ1 (fdiv (aop.getD am_.toNat none) ap3) aqy aqd aqe aqf aqg aqh arw asr ap3 aop b6 (λc8=>decide ((List.length (b6++[(fdiv (aop.getD am_.toNat none) ap3)]))*8<=140737488355328)&&(inR am_ s_7.length&&(inR am_ (List.length (b6++[(fdiv (aop.getD am_.toNat none) ap3)]))&&(decide (am_.toNat<(List.length (b6++[(fdiv (aop.getD am_.toNat none) ap3)])))&&SQ0 (List.getD (b6++[(fdiv (aop.getD am_.toNat none) ap3)]) am_.toNat none) y_1 c8 aqd aqe aqf aqg aqh arw asr ap3 aop (b6++[(fdiv (aop.getD am_.toNat none) ap3)]) (λapr c9=>SQ1 (cu (s_7.getD am_.toNat none) apr) c9 aqd aqe aqf aqg aqh arw asr ap3 aop (b6++[(fdiv (aop.getD am_.toNat none) ap3)]) (λc10=>inR am_ x_1.length&&(decide (am_.toNat<x_1.length)&&(au .i64 (am_+1)&&K ((am_+1),c10,(x_1.set am_.toNat (cu (s_7.getD am_.toNat none) apr)),(b6++[(fdiv (aop.getD am_.toNat none) ap3)])))))))))))) (e0 aqy x_1 b6))
def mm (N:Nat) (aln:cI) (alV:nz) (SQ4:rT) (SQ0:qX) (SQ1:pm) (alh:aO) (ald:aG) (alf:aI) (s_0:LF) (s_1 s_2:Int) (s_3 h:LF) (r z y_3 apZ:Fl) (atN:Bool) (atO atb:Fl) (b3 atm as0 aqE:LF) (t_2 t_3:Int) (k0:Kx2) (k1:Kx1) (k2:Kx0):Bool:=
 (k2 t_2 t_3 y_3 atb apZ 0 b3 aqE as0)
def qa (N:Nat) (aln:cI) (alV:nz) (SQ4:rT) (SQ0:qX) (SQ1:pm) (alh:aO) (ald:aG) (alf:aI) (s_0:LF) (s_1 s_2:Int) (s_3 h:LF) (r z y_2 score:Fl) (atL:Bool) (atM ata:Fl) (aq_ asZ:LF) (t t_1:Int) (k0:Kx2) (k1:Kx1) (k2:Kx0):Bool:=
 (k1 t t_1 y_2 ata score 0 asZ)
def js (s_0:LF) (s_1 s_2:Int) (s_3 h:LF) (r z:Fl) (e_2:Int) (u:Bool) (u_1 u_2:Fl) (b4:LF) (k0:Kx2) (k1:Kx1) (k2:Kx0):Bool:=
 (cond (e_2 != 0) (k0 0 0 (some 0) (some 0) (some 0) e_2) (SQ4 (dF z u_1) u s_0 s_1 s_2 s_3 h r u_1 u_2 b4 (λaoz=>oB 8 ((h.length:Nat):Int) ((h.length:Nat):Int)&&al N (gG N aln alV SQ4 SQ0 SQ1 alh ald alf (dF z u_1) (((List.length (List.replicate (Int.toNat ((h.length:Nat):Int)) (some 0))):Nat):Int) s_0 s_1 s_2 s_3 0 0 (some 0) (some 0) (some 0) s_0 s_1 s_2 s_3 h r u_1 u_2 b4 (λaur x_2 ap9=>SQ0 (dF z u_1) (dF z u_1) aur s_0 s_1 s_2 s_3 h r u_1 u_2 b4 ap9 (λaoM c11=>SQ1 (fdiv aoM u_2) c11 s_0 s_1 s_2 s_3 h r u_1 u_2 b4 ap9 (λc12=>alh c12 s_0 s_1 s_2 s_3 h r u_1 u_2 b4 ap9 (ald c12 s_0 s_1 s_2 s_3 h r u_1 u_2 b4 ap9 (λalQ amB c13 anV=>alf alQ amB c13 s_0 s_1 s_2 s_3 h r u_1 u_2 x_2 anV b4 ap9 (λanB n5 n6=>cond (n6 != 0) (k0 0 0 (some 0) (some 0) (some 0) n6) (qa N aln alV SQ4 SQ0 SQ1 alh ald alf s_0 s_1 s_2 s_3 h r z (dF z u_1) (fdiv aoM u_2) c13 u_1 u_2 b4 ap9 anB n5 k0 k1 k2)) (λn7=>cond (n7 != 0) (k0 0 0 (some 0) (some 0) (some 0) n7) (mm N aln alV SQ4 SQ0 SQ1 alh ald alf s_0 s_1 s_2 s_3 h r z (dF z u_1) (fdiv aoM u_2) c13 u_1 u_2 x_2 b4 ap9 anV alQ amB k0 k1 k2)))))))) (0,aoz,(List.replicate (Int.toNat ((h.length:Nat):Int)) (some 0)),[]))))
def p_ (N:Nat) (aln:cI) (alV:nz) (SQ4:rT) (SQ0:qX) (SQ1:pm) (alh:aO) (ald:aG) (alf:aI) (s_0:LF) (s_1 s_2:Int) (s_3 h:LF) (r z:Fl) (e_1:Int) (k0:Kx2) (k1:Kx1) (k2:Kx0):Bool:=
 (cond (e_1 != 0) (k0 0 0 (some 0) (some 0) (some 0) e_1) false)
def p9 (N:Nat) (aln:cI) (alV:nz) (SQ4:rT) (SQ0:qX) (SQ1:pm) (alh:aO) (ald:aG) (alf:aI) (s_0:LF) (s_1 s_2:Int) (s_3 h:LF) (r z:Fl) (e:Int) (k0:Kx2) (k1:Kx1) (k2:Kx0):Bool:=
 (cond (e != 0) (k0 0 0 (some 0) (some 0) (some 0) e) false)
def gL (s_0:LF) (s_1 s_2:Int) (s_3 h:LF) (r z:Fl) (k0:Kx2) (k1:Kx1) (k2:Kx0):Bool:=
 (aln s_0 s_1 s_2 s_3 h r (λnr=>cond ((nr==0)==false) (p9 N aln alV SQ4 SQ0 SQ1 alh ald alf s_0 s_1 s_2 s_3 h r z nr k0 k1 k2) (alV [z] (λalT=>cond (!alT) (k0 0 0 (some 0) (some 0) (some 0) 4) (p_ N aln alV SQ4 SQ0 SQ1 alh ald alf s_0 s_1 s_2 s_3 h r z nr k0 k1 k2)))) (λaly cr xr anR xsr=>cond ((aly==0)==false) (alV [z] (λamQ=>cond (!amQ) (k0 0 0 (some 0) (some 0) (some 0) 4) (js N aln alV SQ4 SQ0 SQ1 alh ald alf s_0 s_1 s_2 s_3 h r z aly cr xr anR xsr k0 k1 k2))) (alV [z] (λanA=>cond (!anA) (k0 0 0 (some 0) (some 0) (some 0) 4) (js N aln alV SQ4 SQ0 SQ1 alh ald alf s_0 s_1 s_2 s_3 h r z aly cr xr anR xsr k0 k1 k2)))))
end
def nZ (N:Nat):fL:=gL N (l_ N) (K9 N) (sQ4 N) (sQ0 N) (sQ1 N) (im N) (dK N) (gB N)
abbrev dI:=LF->Int->Int->LF->LF->Fl->Fl->(Kx2)->(Kx1)->(Kx0)->Bool
def mY (N:Nat) (alU:fL) (s_0:LF) (s_1 s_2:Int) (s_3 h:LF) (r z:Fl) (k0:Kx2) (k1:Kx1) (k2:Kx0):Bool:=
 (alU s_0 s_1 s_2 s_3 h r z (λnr aly xr anR aou alQ=>k0 nr aly xr anR aou alQ) (λamB anB apr aoM atY n5 xsr=>k1 amB anB apr aoM atY n5 xsr) (λn6 n7 atQ atR atS n8 anV apk atT=>k2 n6 n7 atQ atR atS n8 anV apk atT))
def kz (N:Nat):dI:=mY N (nZ N)
abbrev Gz:=(Ky7)->Bool
def ae9 (N:Nat) (alB:dI) (alx:eu) (k0:Ky7):Bool:=
 (alB [(some 0)] 1 1 [(some 4616189618054758400)] [(some 4607182418800017408)] (some 4607182418800017408) (some 4617315517961601024) (λnr aly xr anR aou alQ=>cond ((alQ==0)==true) (k0 false) (k0 false)) (λamB anB apr aoM atY n5 xsr=>cond ((n5==0)==true) (k0 false) (k0 false)) (λn6 n7 atQ atR atS n8 anV apk atT=>cond ((n8==0)==true) (cond ((((anV.length:Nat):Int)==1)==true) (inR 0 anV.length&&(decide (0<anV.length)&&cond ((feq (anV.getD 0 none) (some 4616189618054758400))==true) (cond ((feq atR (some 4617315517961601024))==true) (cond ((feq atQ (some 4617315517961601024))==true) (cond ((feq atS (some 4617315517961601024))==true) (alx [(some 0)] 1 1 [(some 4616189618054758400)] (λn9=>k0 (n9==0))) (k0 false)) (k0 false)) (k0 false)) (k0 false))) (k0 false)) (k0 false)))
def aee (N:Nat):Gz:=ae9 N (kz N) (jR N)
abbrev Bx:=Fl->(Ky8)->Bool
def Ps (N:Nat) (alY:mo) (x:Fl) (k0:Ky8):Bool:=
 (cond (!feq x x) (k0 9221120237041090561) (alY x (λnr=>k0 nr)))
def Qv (N:Nat):Bx:=Ps N (yH N)
abbrev yL:=Fl->(Kx6)->Bool
def Ph (N:Nat) (apI:Bx) (x:Fl) (k0:Kx6):Bool:=
 (apI x (λnr=>au .i64 (Int.tmod (Int.fdiv nr (2 ^ 52)) 2048)&&k0 ((Int.fdiv nr (2 ^ 63))==1) (Int.tmod (Int.fdiv nr (2 ^ 52)) 2048) (Int.tmod nr 4503599627370496)))
def KX (N:Nat):yL:=Ph N (Qv N)
abbrev yN:=Int->Int->(Ky2)->Bool
def oq (N:Nat) (e0:Ky2):(Int × Int)->((Int × Int)->Bool)->Bool:=λv_ K=>match v_ with
 | (m_1,e_1)=>(cond ((Int.tmod m_1 2)==0) (au .i64 (e_1+1)&&K ((IntKind.wrap .u64 (Int.tdiv m_1 2)),(e_1+1))) (e0 m_1 e_1))
def I8 (N:Nat) (m e:Int) (k0:Ky2):Bool:=
 (cond (m==0) (k0 0 0) (al N (oq N (λm_2 e_2=>k0 m_2 e_2)) (m,e)))
def Fr (N:Nat):yN:=I8 N
abbrev Bo:=Fl->(Kx4)->Bool
def Je (N:Nat) (amV:yL) (amZ:yN) (x:Fl) (neg:Bool) (e f:Int) (k0:Kx4):Bool:=
 (au .i64 (e - 1074)&&amZ f (e - 1074) (λalQ amB=>k0 neg alQ amB 0))
def Gu (N:Nat) (amV:yL) (amZ:yN) (x:Fl) (k0:Kx4):Bool:=
 (amV x (λcr nr aly=>cond (nr==2047) (k0 false 0 0 4) (cond (decide (nr>0)) (au .i64 (nr - 1)&&Je N amV amZ x cr (nr - 1) (IntKind.wrap .u64 (aly+4503599627370496)) k0) (Je N amV amZ x cr nr aly k0))))
def Qo (N:Nat):Bo:=Gu N (KX N) (Fr N)
abbrev ks:=LI->(Ky9)->Bool
def zE (N m_1:Nat) (m_3:LI) (e0:Ky9):(Nat)->((Nat)->Bool)->Bool:=λv_ K=>match v_ with
 | m_2=>(cond ((decide (((m_2:Nat):Int)>0))==true) (au .i64 (((m_2:Nat):Int) - 1)&&(inR (((m_2:Nat):Int) - 1) m_2&&(decide ((m_1+(Int.toNat (((m_2:Nat):Int) - 1)))<m_3.length)&&cond ((m_3.getD (m_1+(Int.toNat (((m_2:Nat):Int) - 1))) 0)==0) (au .i64 (((m_2:Nat):Int) - 1)&&(decide (0<=(((m_2:Nat):Int) - 1)/\(((m_2:Nat):Int) - 1)<=((m_2:Nat):Int))&&K ((Int.toNat (((m_2:Nat):Int) - 1)) - 0))) (e0 m_2)))) (e0 m_2))
def aaF (N:Nat) (b:LI) (k0:Ky9):Bool:=
 (al N (zE N 0 b (λm_4=>k0 m_4)) b.length)
def Cd (N:Nat):ks:=aaF N
abbrev yv:=Int->(Kz1)->Bool
def abC (N:Nat) (alN:ks) (n:Int) (k0:Kz1):Bool:=
 (alN [(IntKind.wrap .u32 n),(IntKind.wrap .u32 (Int.fdiv n (2 ^ 32)))] (λmr=>decide ((0+mr)<=(List.length [(IntKind.wrap .u32 n),(IntKind.wrap .u32 (Int.fdiv n (2 ^ 32)))]))&&k0 (List.take mr (List.drop 0 [(IntKind.wrap .u32 n),(IntKind.wrap .u32 (Int.fdiv n (2 ^ 32)))]))))
def W8 (N:Nat):yv:=abC N (Cd N)
abbrev BA:=LI->(Kz1)->Bool
def kp (N:Nat) (e0:Kz1):(LI)->((LI)->Bool)->Bool:=λv_ K=>match v_ with
 | m_1=>(cond ((decide (((m_1.length:Nat):Int)>0))==true) (au .i64 (((m_1.length:Nat):Int) - 1)&&(inR (((m_1.length:Nat):Int) - 1) m_1.length&&cond ((m_1.getD (Int.toNat (((m_1.length:Nat):Int) - 1)) 0)==0) (au .i64 (((m_1.length:Nat):Int) - 1)&&(decide (0<=(((m_1.length:Nat):Int) - 1)/\(((m_1.length:Nat):Int) - 1)<=((m_1.length:Nat):Int))&&K (List.drop 0 (List.take (Int.toNat (((m_1.length:Nat):Int) - 1)) m_1)))) (e0 m_1))) (e0 m_1))
def Pv (N:Nat) (m:LI) (k0:Kz1):Bool:=
 (al N (kp N (λm_2=>k0 m_2)) m)
def Qx (N:Nat):BA:=Pv N
abbrev nA:=Bool->LI->Bool->(Ky1)->Bool
def aa6 (N:Nat) (apK:BA) (neg:Bool) (m:LI) (b:Bool) (k0:Ky1):Bool:=
 (apK m (λnsr=>cond (neg==true) (k0 (decide (((nsr.length:Nat):Int)>0)) nsr) (k0 false nsr)))
def Lc (N:Nat):nA:=aa6 N (Qx N)
abbrev GM:=Int->Bool->(Ky1)->Bool
def abq (N:Nat) (ann:yv) (amb:nA) (n:Int) (b:Bool) (k0:Ky1):Bool:=
 (ann n (λnsr=>amb false nsr b (λcr alG=>k0 cr alG)))
def W5 (N:Nat):GM:=abq N (W8 N) (Lc N)
abbrev Be:=Bool->Bool->LI->LI->(Kx7)->Bool
def Pd (N:Nat) (alN:ks) (neg b:Bool) (b_1 b_2:LI) (k0:Kx7):Bool:=
 (alN b_2 (λmr=>cond (neg==true) (k0 (decide (((mr:Nat):Int)>0)) 0 mr) (k0 false 0 mr)))
def WN (N:Nat):Be:=Pd N (Cd N)
abbrev Ba:=Bool->LI->(Ky1)->Bool
def Pa (N:Nat) (apz:Be) (b:Bool) (b_1:LI) (k0:Ky1):Bool:=
 (decide ((List.length ([]++b_1))*4<=140737488355328)&&apz (!b) b b_1 ([]++b_1) (λcr mr aoF=>decide ((mr+aoF)<=(List.length ([]++b_1)))&&k0 cr (List.take aoF (List.drop mr ([]++b_1)))))
def Qk (N:Nat):Ba:=Pa N (WN N)
abbrev BD:=Fl->(Kx9)->Bool
def Py (N:Nat) (apE:Bo) (aq1:GM) (apw:Ba) (x:Fl) (k0:Kx9):Bool:=
 (apE x (λcr nr aly alQ=>aq1 nr false (λalT nsr=>cond cr (apw alT nsr (λamQ alG=>k0 aly amQ alG)) (k0 aly alT nsr))))
def QA (N:Nat):BD:=Py N (Qo N) (W5 N) (Qk N)
abbrev Bm:=LI->LI->(Kz1)->Bool
def om (N:Nat) (alN:ks) (a_2 b_2:LI) (i_1:Int) (e0:Ky5):(Int × Int × LI)->((Int × Int × LI)->Bool)->Bool:=λv_ K=>match v_ with
 | (carry,k_,amv)=>(cond (decide (k_<((b_2.length:Nat):Int))) (inR i_1 a_2.length&&(inR k_ b_2.length&&(au .i64 (i_1+k_)&&(inR (i_1+k_) amv.length&&(decide ((Int.toNat (i_1+k_))<amv.length)&&(au .i64 (i_1+k_)&&(inR (i_1+k_) amv.length&&(decide ((Int.toNat (i_1+k_))<amv.length)&&(au .i64 (k_+1)&&K ((Int.fdiv (IntKind.wrap .u64 ((IntKind.wrap .u64 ((IntKind.wrap .u64 ((IntKind.wrap .u64 (a_2.getD i_1.toNat 0))*(IntKind.wrap .u64 (b_2.getD k_.toNat 0))))+(IntKind.wrap .u64 (amv.getD (Int.toNat (i_1+k_)) 0))))+carry)) (2 ^ 32)),(k_+1),(amv.set (Int.toNat (i_1+k_)) (IntKind.wrap .u32 (IntKind.wrap .u64 ((IntKind.wrap .u64 ((IntKind.wrap .u64 ((IntKind.wrap .u64 (a_2.getD i_1.toNat 0))*(IntKind.wrap .u64 (b_2.getD k_.toNat 0))))+(IntKind.wrap .u64 (amv.getD (Int.toNat (i_1+k_)) 0))))+carry)))))))))))))) (e0 carry amv))
def ol (N:Nat) (alN:ks) (a_1 b_1:LI) (e0:Kz1):(Int × LI)->((Int × LI)->Bool)->Bool:=λv_ K=>match v_ with
 | (i,out)=>(cond (decide (i<((a_1.length:Nat):Int))) (al N (om N alN a_1 b_1 i (λang aoG=>au .i64 (i+((b_1.length:Nat):Int))&&(inR (i+((b_1.length:Nat):Int)) aoG.length&&(decide ((Int.toNat (i+((b_1.length:Nat):Int)))<aoG.length)&&(au .i64 (i+1)&&K ((i+1),(aoG.set (Int.toNat (i+((b_1.length:Nat):Int))) (IntKind.wrap .u32 ang)))))))) (0,0,out)) (e0 out))
def Pm (N:Nat) (alN:ks) (a b:LI) (k0:Kz1):Bool:=
 (au .i64 (((a.length:Nat):Int)+((b.length:Nat):Int))&&(oB 4 (((a.length:Nat):Int)+((b.length:Nat):Int)) (((a.length:Nat):Int)+((b.length:Nat):Int))&&al N (ol N alN a b (λaqw=>alN aqw (λmr=>decide ((0+mr)<=aqw.length)&&k0 (List.take mr (List.drop 0 aqw))))) (0,(List.replicate (Int.toNat (((a.length:Nat):Int)+((b.length:Nat):Int))) (0:Int)))))
def Qn (N:Nat):Bm:=Pm N (Cd N)
abbrev GO:=Bool->Bool->LI->Bool->LI->(Ky1)->Bool
def abt (N:Nat) (apD:Bm) (amb:nA) (b b_1:Bool) (b_2:LI) (b_3:Bool) (b_4:LI) (k0:Ky1):Bool:=
 (apD b_2 b_4 (λnsr=>amb (b_1 != b_3) nsr b (λcr alG=>k0 cr alG)))
def aeo (N:Nat):GO:=abt N (Qn N) (Lc N)
abbrev Gw:=Int->Int->Bool->LI->Bool->LI->(Kx9)->Bool
def aaO (N:Nat) (aq3:GO) (x y:Int) (b:Bool) (b_1:LI) (b_2:Bool) (b_3:LI) (k0:Kx9):Bool:=
 (aq3 false b b_1 b_2 b_3 (λcr nsr=>au .i64 (x+y)&&k0 (x+y) cr nsr))
def ad_ (N:Nat):Gw:=aaO N (aeo N)
abbrev GQ:=Int->Bool->(Ky1)->Bool
def PA (N:Nat) (ann:yv) (amb:nA) (n:Int) (b:Bool) (u:Int) (k0:Ky1):Bool:=
 (ann u (λnsr=>amb (decide (n<0)) nsr b (λcr alG=>k0 cr alG)))
def RM (N:Nat) (ann:yv) (amb:nA) (n:Int) (b:Bool) (k0:Ky1):Bool:=
 (cond (decide (n<0)) (PA N ann amb n b (IntKind.wrap .u64 (0 - (IntKind.wrap .u64 n))) k0) (PA N ann amb n b (IntKind.wrap .u64 n) k0))
def agP (N:Nat):GQ:=RM N (W8 N) (Lc N)
abbrev Bj:=Int->(Ky1)->Bool
def Pj (N:Nat) (aq5:GQ) (n:Int) (k0:Ky1):Bool:=
 (aq5 n false (λcr nsr=>k0 cr nsr))
def KZ (N:Nat):Bj:=Pj N (agP N)
abbrev Bi:=Int->(Ky1)->Bool
def TN (N:Nat) (apB:Bj) (e:Int) (k0:Ky1):Bool:=
 (apB 1 (λcr nsr=>k0 cr nsr))
def WO (N:Nat):Bi:=TN N (KZ N)
abbrev zZ:=Bool->Bool->LI->(Kx7)->Bool
def TW (N:Nat) (alN:ks) (neg b:Bool) (b_1:LI) (k0:Kx7):Bool:=
 (alN b_1 (λmr=>cond (neg==true) (k0 (decide (((mr:Nat):Int)>0)) 0 mr) (k0 false 0 mr)))
def W6 (N:Nat):zZ:=TW N (Cd N)
abbrev A_:=Bool->Bool->LI->(Ky1)->Bool
def O9 (N:Nat) (aoR:zZ) (b b_1:Bool) (b_2:LI) (k0:Ky1):Bool:=
 (decide ((List.length ([]++b_2))*4<=140737488355328)&&aoR (!b_1) b ([]++b_2) (λcr mr aoF=>decide ((mr+aoF)<=(List.length ([]++b_2)))&&k0 cr (List.take aoF (List.drop mr ([]++b_2)))))
def Qi (N:Nat):A_:=O9 N (W6 N)
abbrev zT:=Int->Bool->LI->(Ky1)->Bool
def TR (N:Nat) (apv:A_) (x:Int) (b:Bool) (b_1:LI) (k0:Ky1):Bool:=
 (apv false b b_1 (λcr nsr=>k0 cr nsr))
def Th (N:Nat):zT:=TR N (Qi N)
abbrev z6:=Bool->LI->(Ky8)->Bool
def abz (N:Nat) (b:Bool) (b_1:LI) (k0:Ky8):Bool:=
 (cond (((b_1.length:Nat):Int)==0) (k0 0) (cond b (k0 (-1)) (k0 1)))
def IF (N:Nat):z6:=abz N
abbrev Bu:=LI->Int->(Kz1)->Bool
def IW (N:Nat) (alN:ks) (m_1:LI) (w s:Int) (e0:Kz1):(Int × LI)->((Int × LI)->Bool)->Bool:=λv_ K=>match v_ with
 | (i,out)=>(cond (decide (i<((m_1.length:Nat):Int))) (inR i m_1.length&&(decide (0<=s)&&(au .i64 (w+i)&&(inR (w+i) out.length&&(decide ((Int.toNat (w+i))<out.length)&&(inR (w+i) out.length&&(decide ((Int.toNat (w+i))<out.length)&&(au .i64 (w+i)&&(au .i64 ((w+i)+1)&&(inR ((w+i)+1) (List.length (out.set (Int.toNat (w+i)) (az .or .u32 (out.getD (Int.toNat (w+i)) 0) (IntKind.wrap .u32 (IntKind.wrap .u64 ((IntKind.wrap .u64 (m_1.getD i.toNat 0))*2 ^ (min s.toNat 64)))))))&&(decide ((Int.toNat ((w+i)+1))<(List.length (out.set (Int.toNat (w+i)) (az .or .u32 (out.getD (Int.toNat (w+i)) 0) (IntKind.wrap .u32 (IntKind.wrap .u64 ((IntKind.wrap .u64 (m_1.getD i.toNat 0))*2 ^ (min s.toNat 64))))))))&&(au .i64 (i+1)&&K ((i+1),(List.set (out.set (Int.toNat (w+i)) (az .or .u32 (out.getD (Int.toNat (w+i)) 0) (IntKind.wrap .u32 (IntKind.wrap .u64 ((IntKind.wrap .u64 (m_1.getD i.toNat 0))*2 ^ (min s.toNat 64)))))) (Int.toNat ((w+i)+1)) (IntKind.wrap .u32 (Int.fdiv (IntKind.wrap .u64 ((IntKind.wrap .u64 (m_1.getD i.toNat 0))*2 ^ (min s.toNat 64))) (2 ^ 32))))))))))))))))) (e0 out))
def Pq (N:Nat) (alN:ks) (m:LI) (n:Int) (k0:Kz1):Bool:=
 (cond (((m.length:Nat):Int)==0) (k0 []) (au .i64 (IntKind.wrap .u64 (Int.tdiv n 32))&&(au .i64 ((IntKind.wrap .u64 (Int.tdiv n 32))+((m.length:Nat):Int))&&(au .i64 (((IntKind.wrap .u64 (Int.tdiv n 32))+((m.length:Nat):Int))+1)&&(oB 4 (((IntKind.wrap .u64 (Int.tdiv n 32))+((m.length:Nat):Int))+1) (((IntKind.wrap .u64 (Int.tdiv n 32))+((m.length:Nat):Int))+1)&&al N (IW N alN m (IntKind.wrap .u64 (Int.tdiv n 32)) (Int.tmod n 32) (λamv=>alN amv (λmr=>decide ((0+mr)<=amv.length)&&k0 (List.take mr (List.drop 0 amv))))) (0,(List.replicate (Int.toNat (((IntKind.wrap .u64 (Int.tdiv n 32))+((m.length:Nat):Int))+1)) (0:Int))))))))
def Qt (N:Nat):Bu:=Pq N (Cd N)
abbrev A9:=Int->Bool->Bool->LI->(Ky1)->Bool
def O8 (N:Nat) (apG:Bu) (amb:nA) (n:Int) (b b_1:Bool) (b_2:LI) (k0:Ky1):Bool:=
 (apG b_2 n (λnsr=>amb b_1 nsr b (λcr alG=>k0 cr alG)))
def Qh (N:Nat):A9:=O8 N (Qt N) (Lc N)
abbrev GB:=Int->Int->Bool->LI->(Bool)->(Ky1)->Bool
def abe (N:Nat) (apu:A9) (x e:Int) (b:Bool) (b_1:LI) (k0:Bool) (k1:Ky1):Bool:=
 (cond (decide (e>=x)) k0 (au .i64 (x - e)&&apu (IntKind.wrap .u64 (x - e)) false b b_1 (λcr nsr=>k1 cr nsr)))
def W0 (N:Nat):GB:=abe N (Qh N)
abbrev Bv:=LI->LI->(Kz1)->Bool
def kF (N:Nat) (alN:ks) (a_1 b_1:LI) (e0:Ky5):(Int × Int × LI)->((Int × Int × LI)->Bool)->Bool:=λv_ K=>match v_ with
 | (carry,i,out)=>(cond (decide (i<((a_1.length:Nat):Int))) (inR i a_1.length&&cond (decide (i<((b_1.length:Nat):Int))) (inR i b_1.length&&(inR i out.length&&(decide (i.toNat<out.length)&&(au .i64 (i+1)&&K ((Int.fdiv (IntKind.wrap .u64 ((IntKind.wrap .u64 ((IntKind.wrap .u64 (a_1.getD i.toNat 0))+carry))+(IntKind.wrap .u64 (b_1.getD i.toNat 0)))) (2 ^ 32)),(i+1),(out.set i.toNat (IntKind.wrap .u32 (IntKind.wrap .u64 ((IntKind.wrap .u64 ((IntKind.wrap .u64 (a_1.getD i.toNat 0))+carry))+(IntKind.wrap .u64 (b_1.getD i.toNat 0))))))))))) (inR i out.length&&(decide (i.toNat<out.length)&&(au .i64 (i+1)&&K ((Int.fdiv (IntKind.wrap .u64 ((IntKind.wrap .u64 (a_1.getD i.toNat 0))+carry)) (2 ^ 32)),(i+1),(out.set i.toNat (IntKind.wrap .u32 (IntKind.wrap .u64 ((IntKind.wrap .u64 (a_1.getD i.toNat 0))+carry))))))))) (e0 carry out))
def Pr (N:Nat) (alN:ks) (a b:LI) (k0:Kz1):Bool:=
 (cond (decide (((a.length:Nat):Int)<((b.length:Nat):Int))) (au .i64 (((b.length:Nat):Int)+1)&&(oB 4 (((b.length:Nat):Int)+1) (((b.length:Nat):Int)+1)&&al N (kF N alN b a (λang amv=>inR ((b.length:Nat):Int) amv.length&&(decide ((Int.toNat ((b.length:Nat):Int))<amv.length)&&alN (amv.set (Int.toNat ((b.length:Nat):Int)) (IntKind.wrap .u32 ang)) (λmr=>decide ((0+mr)<=(List.length (amv.set (Int.toNat ((b.length:Nat):Int)) (IntKind.wrap .u32 ang))))&&k0 (List.take mr (List.drop 0 (amv.set (Int.toNat ((b.length:Nat):Int)) (IntKind.wrap .u32 ang)))))))) (0,0,(List.replicate (Int.toNat (((b.length:Nat):Int)+1)) (0:Int))))) (au .i64 (((a.length:Nat):Int)+1)&&(oB 4 (((a.length:Nat):Int)+1) (((a.length:Nat):Int)+1)&&al N (kF N alN a b (λamK aoG=>inR ((a.length:Nat):Int) aoG.length&&(decide ((Int.toNat ((a.length:Nat):Int))<aoG.length)&&alN (aoG.set (Int.toNat ((a.length:Nat):Int)) (IntKind.wrap .u32 amK)) (λaoF=>decide ((0+aoF)<=(List.length (aoG.set (Int.toNat ((a.length:Nat):Int)) (IntKind.wrap .u32 amK))))&&k0 (List.take aoF (List.drop 0 (aoG.set (Int.toNat ((a.length:Nat):Int)) (IntKind.wrap .u32 amK)))))))) (0,0,(List.replicate (Int.toNat (((a.length:Nat):Int)+1)) (0:Int))))))
def Qu (N:Nat):Bv:=Pr N (Cd N)
abbrev Bh:=LI->LI->(Ky8)->Bool
def zB (N:Nat) (a_1 b_1:LI) (e0:Ky8) (e1:Bool):(Int)->((Int)->Bool)->Bool:=λv_ K=>match v_ with
 | i=>(cond (decide (i>=0)) (inR i a_1.length&&(inR i b_1.length&&cond (decide ((a_1.getD i.toNat 0)<(b_1.getD i.toNat 0))) (e0 (-1)) (inR i a_1.length&&(inR i b_1.length&&cond (decide ((a_1.getD i.toNat 0)>(b_1.getD i.toNat 0))) (e0 1) (au .i64 (i - 1)&&K (i - 1)))))) e1)
def Pf (N:Nat) (a b:LI) (k0:Ky8):Bool:=
 (cond (((a.length:Nat):Int) != ((b.length:Nat):Int)) (cond (decide (((a.length:Nat):Int)<((b.length:Nat):Int))) (k0 (-1)) (k0 1)) (au .i64 (((a.length:Nat):Int) - 1)&&al N (zB N a b (λt4=>k0 t4) (k0 0)) (((a.length:Nat):Int) - 1)))
def Qm (N:Nat):Bh:=Pf N
abbrev Bp:=LI->LI->(Kz1)->Bool
def oj (N:Nat) (alN:ks) (a_1 b_1:LI) (e0:Kz1):(Int × Int × LI)->((Int × Int × LI)->Bool)->Bool:=λv_ K=>match v_ with
 | (borrow,i,out)=>(cond (decide (i<((a_1.length:Nat):Int))) (cond (decide (i<((b_1.length:Nat):Int))) (inR i b_1.length&&(inR i a_1.length&&cond (decide ((IntKind.wrap .u64 (a_1.getD i.toNat 0))<(IntKind.wrap .u64 (borrow+(IntKind.wrap .u64 (b_1.getD i.toNat 0)))))) (inR i out.length&&(decide (i.toNat<out.length)&&(au .i64 (i+1)&&K (1,(i+1),(out.set i.toNat (IntKind.wrap .u32 (IntKind.wrap .u64 ((IntKind.wrap .u64 ((IntKind.wrap .u64 (a_1.getD i.toNat 0))+4294967296)) - (IntKind.wrap .u64 (borrow+(IntKind.wrap .u64 (b_1.getD i.toNat 0)))))))))))) (inR i out.length&&(decide (i.toNat<out.length)&&(au .i64 (i+1)&&K (0,(i+1),(out.set i.toNat (IntKind.wrap .u32 (IntKind.wrap .u64 ((IntKind.wrap .u64 (a_1.getD i.toNat 0)) - (IntKind.wrap .u64 (borrow+(IntKind.wrap .u64 (b_1.getD i.toNat 0)))))))))))))) (inR i a_1.length&&cond (decide ((IntKind.wrap .u64 (a_1.getD i.toNat 0))<borrow)) (inR i out.length&&(decide (i.toNat<out.length)&&(au .i64 (i+1)&&K (1,(i+1),(out.set i.toNat (IntKind.wrap .u32 (IntKind.wrap .u64 ((IntKind.wrap .u64 ((IntKind.wrap .u64 (a_1.getD i.toNat 0))+4294967296)) - borrow)))))))) (inR i out.length&&(decide (i.toNat<out.length)&&(au .i64 (i+1)&&K (0,(i+1),(out.set i.toNat (IntKind.wrap .u32 (IntKind.wrap .u64 ((IntKind.wrap .u64 (a_1.getD i.toNat 0)) - borrow)))))))))) (e0 out))
def Pn (N:Nat) (alN:ks) (a b:LI) (k0:Kz1):Bool:=
 (oB 4 ((a.length:Nat):Int) ((a.length:Nat):Int)&&al N (oj N alN a b (λamv=>alN amv (λmr=>decide ((0+mr)<=amv.length)&&k0 (List.take mr (List.drop 0 amv))))) (0,0,(List.replicate (Int.toNat ((a.length:Nat):Int)) (0:Int))))
def Qp (N:Nat):Bp:=Pn N (Cd N)
abbrev GP:=Bool->Bool->Bool->LI->Bool->LI->(Ky1)->Bool
def abu (N:Nat) (apH:Bv) (amb:nA) (apA:Bh) (aoZ:Bp) (turn b b_1:Bool) (b_2:LI) (b_3:Bool) (b_4:LI) (k0:Ky1):Bool:=
 (cond (b_1==(b_3 != turn)) (apH b_2 b_4 (λnsr=>amb (b_3 != turn) nsr b (λcr alG=>k0 cr alG))) (apA b_2 b_4 (λnr=>cond (decide (nr>=0)) (aoZ b_2 b_4 (λal3=>amb b_1 al3 b (λalT al5=>k0 alT al5))) (aoZ b_4 b_2 (λamd=>amb (b_3 != turn) amd b (λamQ s5=>k0 amQ s5))))))
def aep (N:Nat):GP:=abu N (Qu N) (Lc N) (Qm N) (Qp N)
abbrev GK:=Bool->Bool->LI->Bool->LI->(Ky1)->Bool
def abo (N:Nat) (aq4:GP) (b b_1:Bool) (b_2:LI) (b_3:Bool) (b_4:LI) (k0:Ky1):Bool:=
 (aq4 false b b_1 b_2 b_3 b_4 (λcr nsr=>k0 cr nsr))
def Nq (N:Nat):GK:=abo N (aep N)
abbrev zR:=Int->Int->Bool->LI->Bool->LI->(Bool)->(Bool)->(Kx9)->Bool
def aaH (N:Nat) (aoy:z6) (aqi:GB) (ap8:GK) (x y:Int) (b:Bool) (b_1:LI) (b_2:Bool) (b_3:LI) (k0 k1:Bool) (k2:Kx9):Bool:=
 (aoy b b_1 (λnr=>cond (nr==0) k0 (aoy b_2 b_3 (λaly=>cond (aly==0) k1 (aqi x (imm false x y) b b_1 (aqi y (imm false x y) b_2 b_3 (ap8 false b b_1 b_2 b_3 (λcr nsr=>k2 (imm false x y) cr nsr)) (λalT alG=>ap8 false b b_1 alT alG (λamQ al3=>k2 (imm false x y) amQ al3))) (λanA al5=>aqi y (imm false x y) b_2 b_3 (ap8 false anA al5 b_2 b_3 (λaoz amd=>k2 (imm false x y) aoz amd)) (λaqF s5=>ap8 false anA al5 aqF s5 (λaqq s6=>k2 (imm false x y) aqq s6))))))))
def WR (N:Nat):zR:=aaH N (IF N) (W0 N) (Nq N)
abbrev Gx:=Int->Int->Bool->LI->Bool->LI->(Ky8)->Bool
def aaT (N:Nat) (aob:zT) (aoa:zR) (aoy:z6) (x y:Int) (b:Bool) (b_1:LI) (b_2:Bool) (b_3:LI) (k0:Ky8):Bool:=
 (aob y b_2 b_3 (λcr nsr=>aoa x y b b_1 cr nsr (aoy cr nsr (λnr=>k0 nr)) (aoy b b_1 (λaly=>k0 aly)) (λalQ alT alG=>aoy alT alG (λamB=>k0 amB))))
def aea (N:Nat):Gx:=aaT N (Th N) (WR N) (IF N)
abbrev A8:=Bool->Bool->LI->(Ky1)->Bool
def O7 (N:Nat) (aoR:zZ) (b b_1:Bool) (b_2:LI) (k0:Ky1):Bool:=
 (decide ((List.length ([]++b_2))*4<=140737488355328)&&aoR false b ([]++b_2) (λcr mr aoF=>decide ((mr+aoF)<=(List.length ([]++b_2)))&&k0 cr (List.take aoF (List.drop mr ([]++b_2)))))
def Qg (N:Nat):A8:=O7 N (W6 N)
abbrev Gy:=Int->Bool->LI->(Ky1)->Bool
def aa4 (N:Nat) (apt:A8) (x:Int) (b:Bool) (b_1:LI) (k0:Ky1):Bool:=
 (apt false b b_1 (λcr nsr=>k0 cr nsr))
def aed (N:Nat):Gy:=aa4 N (Qg N)
abbrev ag9:=Int->Int->Int->Int->(Ky7)->Bool
def abg (N:Nat) (ao0:GH) (an2:Bw) (alW:ku) (aow:Gz) (anI:BD) (anK:Gw) (ank:Bi) (aol:Gx) (alB:dI) (aoa:zR) (aob:zT) (aov:Gy) (p h r z:Int) (k0:Ky7):Bool:=
 (ao0 p (λxr=>ao0 h (λanR=>ao0 r (λaou=>an2 (some 4607182418800017408) (-100) (λapr=>an2 (some 4607182418800017408) 100 (λaoM=>cond ((fge xr apr)==true) (cond ((fle xr aoM)==true) (cond ((fge aou apr)==true) (cond ((fle aou aoM)==true) (alW anR (λatY=>an2 (some 4607182418800017408) (-50) (λatQ=>cond ((fge atY atQ)==true) (alW anR (λatR=>an2 (some 4607182418800017408) 50 (λatS=>cond (!(fle atR atS)) (aow (λcr=>k0 cr)) (anI xr (λnr aqq nsr=>anI aou (λaly aqr alG=>anI anR (λalQ c8 al3=>anI anR (λamB c9 al5=>anK alQ amB c8 al3 c9 al5 (λanB c10 amd=>anK anB nr c10 amd aqq nsr (λn5 c11 s5=>ank 20 (λc12 s6=>anK aly 20 aqr alG c12 s6 (λn6 c13 s7=>aol n5 n6 c11 s5 c13 s7 (λn7=>cond ((decide (n7>0))==false) (ao0 z (λawu=>alW awu (λavr=>cond (!(fle avr aoM)) (aow (λc14=>k0 c14)) (ao0 z (λavs=>alB [(some 0)] 1 1 [xr] [anR] aou avs (λn8 n9 awy awz awA n10=>cond ((n10 != 0)==false) (k0 false) (k0 false)) (λn11 n12 awB awC awD n13 xsr=>cond ((n13 != 0)==false) (k0 false) (k0 false)) (λn14 n15 x18 x19 x20 n16 anV apk atT=>cond ((n16 != 0)==false) (cond ((((apk.length:Nat):Int) != 1)==false) (aow (λc16=>cond (!c16) (k0 false) (aoa n5 aly c11 s5 aqr alG (anK nr aly aqq nsr aqr alG (λn18 c18 s9=>inR 0 apk.length&&(decide (0<apk.length)&&anI (apk.getD 0 none) (λn21 c21 s12=>anK n21 aly c21 s12 aqr alG (λn22 c22 s13=>aob n18 c18 s9 (λc23 s14=>aoa n22 n18 c22 s13 c23 s14 (aov n18 c23 s14 (λc24 s15=>ank (-49) (λc42 s33=>anK n18 (-49) c18 s9 c42 s33 (λn30 c43 s34=>aol n18 n30 c24 s15 c43 s34 (λn31=>k0 (decide (n31<=0))))))) (aov n22 c22 s13 (λc25 s16=>ank (-49) (λc44 s35=>anK n18 (-49) c18 s9 c44 s35 (λn32 c45 s36=>aol n22 n32 c25 s16 c45 s36 (λn33=>k0 (decide (n33<=0))))))) (λn23 c26 s17=>aov n23 c26 s17 (λc27 s18=>ank (-49) (λc46 s37=>anK n18 (-49) c18 s9 c46 s37 (λn34 c47 s38=>aol n23 n34 c27 s18 c47 s38 (λn35=>k0 (decide (n35<=0))))))))))))) (anK nr aly aqq nsr aqr alG (λn19 c19 s10=>inR 0 apk.length&&(decide (0<apk.length)&&anI (apk.getD 0 none) (λn24 c28 s19=>anK n24 n5 c28 s19 c11 s5 (λn25 c29 s20=>aob n19 c19 s10 (λc30 s21=>aoa n25 n19 c29 s20 c30 s21 (aov n19 c30 s21 (λc31 auo=>ank (-49) (λc48 s39=>anK n19 (-49) c19 s10 c48 s39 (λn36 c49 s40=>aol n19 n36 c31 auo c49 s40 (λn37=>k0 (decide (n37<=0))))))) (aov n25 c29 s20 (λc32 s23=>ank (-49) (λc50 s41=>anK n19 (-49) c19 s10 c50 s41 (λn38 c51 s42=>aol n25 n38 c32 s23 c51 s42 (λn39=>k0 (decide (n39<=0))))))) (λn26 c33 s24=>aov n26 c33 s24 (λc34 s25=>ank (-49) (λc52 s43=>anK n19 (-49) c19 s10 c52 s43 (λn40 c53 s44=>aol n26 n40 c34 s25 c53 s44 (λn41=>k0 (decide (n41<=0))))))))))))) (λn17 c17 s8=>anK nr aly aqq nsr aqr alG (λn20 c20 s11=>inR 0 apk.length&&(decide (0<apk.length)&&anI (apk.getD 0 none) (λn27 c35 s26=>anK n27 n17 c35 s26 c17 s8 (λn28 c36 s27=>aob n20 c20 s11 (λc37 s28=>aoa n28 n20 c36 s27 c37 s28 (aov n20 c37 s28 (λc38 s29=>ank (-49) (λc54 s45=>anK n20 (-49) c20 s11 c54 s45 (λn42 c55 s46=>aol n20 n42 c38 s29 c55 s46 (λn43=>k0 (decide (n43<=0))))))) (aov n28 c36 s27 (λc39 s30=>ank (-49) (λc56 s47=>anK n20 (-49) c20 s11 c56 s47 (λn44 c57 s48=>aol n28 n44 c39 s30 c57 s48 (λn45=>k0 (decide (n45<=0))))))) (λn29 c40 s31=>aov n29 c40 s31 (λc41 s32=>ank (-49) (λc58 s49=>anK n20 (-49) c20 s11 c58 s49 (λn46 c59 s50=>aol n29 n46 c41 s32 c59 s50 (λn47=>k0 (decide (n47<=0)))))))))))))))) (k0 false)) (k0 false))))))) (aow (λc15=>k0 c15))))))))))))))) (aow (λalT=>k0 alT))))) (aow (λamQ=>k0 amQ))) (aow (λanA=>k0 anA))) (aow (λaoz=>k0 aoz))) (aow (λaqF=>k0 aqF))))))))
def agK (N:Nat):ag9:=abg N (agO N) (HG N) (sF N) (aee N) (QA N) (ad_ N) (WO N) (aea N) (kz N) (WR N) (Th N) (aed N)
end Go.Proofs.YtldenpmpmifnlaaGreatDoor
