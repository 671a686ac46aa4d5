/-
  THE PROGRAM's FUNCTIONS, as their meanings (written by program).
  Conditions: none.
-/
import Derived.Test.YteifemaagdeomaaGreatDoorMachT
set_option linter.unusedVariables false
namespace Go.Proofs.YteifemaagdeomaaGreatDoor
open Go Go.Mach
abbrev LI:=List Int
abbrev LF:=List Fl
abbrev Kx0:=Int->Int->Fl->Fl->Fl->Int->LF->LF->LF->Bool
abbrev Kx1:=Int->Int->Fl->Fl->Fl->Int->LF->Bool
abbrev Kx2:=Int->Int->Fl->Fl->Fl->Int->Bool
abbrev Kx3:=Int->Int->Int->Int->Bool->Bool
abbrev Kx4:=Bool->Int->Int->Int->Bool
abbrev Kx5:=Bool->LI->Bool->LI->Bool
abbrev Kx6:=Int->Int->Int->Int->Bool
abbrev Kx7:=Bool->Int->Int->Bool
abbrev Kx8:=Bool->Nat->Nat->Bool
abbrev Kx9:=Int->Int->Int->Bool
abbrev Ky0:=Bool->Bool->Bool
abbrev Ky1:=Bool->LI->Bool
abbrev Ky2:=Int->Int->Bool
abbrev Ky3:=Fl->Bool->Bool
abbrev Ky4:=Bool->LF->Bool
abbrev Ky5:=Int->LI->Bool
abbrev Ky6:=Nat->LI->Bool
abbrev Ky7:=Fl->Int->Bool
abbrev Ky8:=LI->LI->Bool
abbrev Ky9:=Bool->Bool
abbrev Kz0:=Int->Bool
abbrev Kz1:=Nat->Bool
abbrev Kz2:=Fl->Bool
abbrev Kz3:=LF->Bool
abbrev Kz4:=LI->Bool
abbrev RT0:RT:=(.pair (.ints .u64) (.pair (.int .u64) (.int .u64)))
abbrev RT1:RT:=(.ptr (.pair (.pair .bool (.ints .u64)) (.pair .bool (.ints .u64))))
abbrev RY1:=(Bool × LI) × Bool × LI
abbrev RT2:RT:=(.pair (.pair .bool (.ints .u32)) (.pair .bool (.ints .u32)))
abbrev RY2:=(Bool × LI) × Bool × LI
abbrev RT3:RT:=(.ptr (.pair (.pair .bool (.ints .u32)) (.pair .bool (.ints .u32))))
abbrev RY3:=(Bool × LI) × Bool × LI
def aE:LI:=[0,1,2,2,3,3,3,3,4,4,4,4,4,4,4,4,5,5,5,5,5,5,5,5,5,5,5,5,5,5,5,5,6,6,6,6,6,6,6,6,6,6,6,6,6,6,6,6,6,6,6,6,6,6,6,6,6,6,6,6,6,6,6,6,7,7,7,7,7,7,7,7,7,7,7,7,7,7,7,7,7,7,7,7,7,7,7,7,7,7,7,7,7,7,7,7,7,7,7,7,7,7,7,7,7,7,7,7,7,7,7,7,7,7,7,7,7,7,7,7,7,7,7,7,7,7,7,7,8,8,8,8,8,8,8,8,8,8,8,8,8,8,8,8,8,8,8,8,8,8,8,8,8,8,8,8,8,8,8,8,8,8,8,8,8,8,8,8,8,8,8,8,8,8,8,8,8,8,8,8,8,8,8,8,8,8,8,8,8,8,8,8,8,8,8,8,8,8,8,8,8,8,8,8,8,8,8,8,8,8,8,8,8,8,8,8,8,8,8,8,8,8,8,8,8,8,8,8,8,8,8,8,8,8,8,8,8,8,8,8,8,8,8,8,8,8,8,8,8,8,8,8,8,8,8,8]
abbrev wG:=Nat->(Kz0)->Bool
def Jn (N:Nat):wG:=λn k=>k n
abbrev ov:=(Kx9)->Bool
def Gt (N:Nat) (k0:Kx9):Bool:=
 (k0 52 2047 1075)
def Ay (N:Nat):ov:=Gt N
abbrev BM:=Int->Int->Int->(Kz0)->Bool
def akY (N:Nat) (f_0 f_1 f_2:Int) (k0:Kz0):Bool:=
 (aj .i64 (f_1+1)&&(decide (0<=f_0)&&k0 (IntKind.wrap .u64 ((IntKind.wrap .u64 (f_1+1))*2 ^ (min f_0.toNat 64)))))
def Vo (N:Nat):BM:=akY N
abbrev BD:=Int->Int->Int->(Kz0)->Bool
def akW (N:Nat) (f_0 f_1 f_2:Int) (k0:Kz0):Bool:=
 (decide (0<=f_0)&&k0 (IntKind.wrap .u64 ((IntKind.wrap .u64 f_1)*2 ^ (min f_0.toNat 64))))
def Va (N:Nat):BD:=akW N
abbrev G8:=Int->Int->Int->Int->(Ky9)->Bool
def Zp (N:Nat) (aws:BM) (awr:BD) (b f_0 f_1 f_2:Int) (k0:Ky9):Bool:=
 (aws f_0 f_1 f_2 (λnr=>awr f_0 f_1 f_2 (λask=>k0 (decide ((aH .andNot .u64 b nr)>ask)))))
def U_ (N:Nat):G8:=Zp N (Vo N) (Va N)
abbrev tk:=Int->Int->Int->(Kz0)->Bool
def akV (N:Nat) (f_0 f_1 f_2:Int) (k0:Kz0):Bool:=
 (decide (0<=f_0)&&k0 (IntKind.wrap .u64 ((1:Int)*2 ^ (min f_0.toNat 64))))
def DG (N:Nat):tk:=akV N
abbrev HA:=Int->Int->Int->(Kz0)->Bool
def ZR (N:Nat) (awr:BD) (atB:tk) (f_0 f_1 f_2:Int) (k0:Kz0):Bool:=
 (awr f_0 f_1 f_2 (λnr=>atB f_0 f_1 f_2 (λask=>k0 (aH .or .u64 (aH .or .u64 nr (Int.fdiv ask (2 ^ 1))) (IntKind.wrap .u64 (Int.tdiv f_0 52))))))
def Vt (N:Nat):HA:=ZR N (Va N) (DG N)
abbrev Br:=Int->Int->Int->Int->(Kz0)->Bool
def YV (N:Nat) (ayu:G8) (ayS:HA) (b f_0 f_1 f_2:Int) (k0:Kz0):Bool:=
 (ayu b f_0 f_1 f_2 (λcr=>cond cr (ayS f_0 f_1 f_2 (λnr=>k0 nr)) (k0 b)))
def Pa (N:Nat):Br:=YV N (U_ N) (Vt N)
abbrev CT:=Int->Int->Int->Int->(Kx7)->Bool
def amG (N:Nat) (awc:Br) (aws:BM) (atB:tk) (b f_0 f_1 f_2:Int) (k0:Kx7):Bool:=
 (awc b f_0 f_1 f_2 (λnr=>aws f_0 f_1 f_2 (λask=>decide (0<=f_0)&&(aj .i64 (aH .and .u64 (Int.fdiv nr (2 ^ (min f_0.toNat 64))) (IntKind.wrap .u64 f_1))&&atB f_0 f_1 f_2 (λasl=>k0 ((aH .and .u64 nr ask) != 0) (aH .and .u64 (Int.fdiv nr (2 ^ (min f_0.toNat 64))) (IntKind.wrap .u64 f_1)) (aH .and .u64 nr (IntKind.wrap .u64 (asl - 1))))))))
def Px (N:Nat):CT:=amG N (Pa N) (Vo N) (DG N)
abbrev CS:=Int->Int->Int->Int->(Kz0)->Bool
def amF (N:Nat) (au0:CT) (b f_0 f_1 f_2:Int) (k0:Kz0):Bool:=
 (au0 b f_0 f_1 f_2 (λcr nr ask=>cond ((nr==f_1)==true) (cond (ask != 0) (k0 1) (cond (nr==f_1) (k0 2) (cond ((nr==0)==true) (cond (ask==0) (k0 3) (cond (nr==0) (k0 4) (k0 5))) (cond (nr==0) (k0 4) (k0 5))))) (cond (nr==f_1) (k0 2) (cond ((nr==0)==true) (cond (ask==0) (k0 3) (cond (nr==0) (k0 4) (k0 5))) (cond (nr==0) (k0 4) (k0 5))))))
def Pw (N:Nat):CS:=amF N (Px N)
abbrev P5:=Nat->(Kz0)->Bool
def ZP (N:Nat) (avm:wG) (at4:ov) (auZ:CS) (x:Nat) (k0:Kz0):Bool:=
 (avm x (λnr=>at4 (λask asl atd=>auZ nr ask asl atd (λat9=>k0 at9))))
def Lk (N:Nat):P5:=ZP N (Jn N) (Ay N) (Pw N)
abbrev P6:=Nat->Nat->(Ky9)->Bool
def ZQ (N:Nat) (avm:wG) (at4:ov) (awc:Br) (a b:Nat) (k0:Ky9):Bool:=
 (avm a (λnr=>at4 (λask asl atd=>awc nr ask asl atd (λat9=>avm b (λn5=>at4 (λn6 n7 n8=>awc n5 n6 n7 n8 (λn9=>k0 (at9==n9))))))))
def Ll (N:Nat):P6:=ZQ N (Jn N) (Ay N) (Pa N)
abbrev yu:=Int->(Kz2)->Bool
def Pq (N:Nat):yu:=λn k=>k (qx n.toNat)
abbrev P7:=Nat->(Kz2)->Bool
def ZU (N:Nat) (avm:wG) (auq:yu) (x:Nat) (k0:Kz2):Bool:=
 (avm x (λnr=>auq (aH .andNot .u64 nr 9223372036854775808) (λxr=>k0 xr)))
def Lm (N:Nat):P7:=ZU N (Jn N) (Pq N)
abbrev Ky:=LI->(Kz3)->Bool
def qt (N:Nat) (auq:yu) (axy:LI) (aB2:Int) (e0:Kz3):(Int × LF)->((Int × LF)->Bool)->Bool:=λv_ K=>match v_ with
 | (azp,x)=>(cond (decide (azp<aB2)) (inR azp axy.length&&auq (axy.getD azp.toNat 0) (λavf=>decide ((List.length (x++[avf]))*8<=140737488355328)&&(aj .i64 (azp+1)&&K ((azp+1),(x++[avf]))))) (e0 x))
def aht (N:Nat) (auq:yu) (l:LI) (k0:Kz3):Bool:=
 (ah N (qt N auq l ((l.length:Nat):Int) (λx_1=>k0 x_1)) (0,[]))
def ajx (N:Nat):Ky:=aht N (Pq N)
abbrev P9:=LI->Int->Int->LI->(LF->LF->Bool)->Bool
def GQ4 (N:Nat) (azm:Ky) (x:LI) (rows cols:Int) (p:LI) (k0:LF->LF->Bool):Bool:=
 (azm x (λxsr=>azm p (λauE=>k0 xsr auE)))
def sQ4 (N:Nat):P9:=GQ4 N (ajx N)
abbrev Hi:=Int->(Ky9)->Bool
def ZD (N:Nat) (n:Int) (k0:Ky9):Bool:=
 (cond ((decide (n>=0))==true) (k0 (decide (n<=12))) (k0 false))
def Vg (N:Nat):Hi:=ZD N
abbrev Eg:=Fl->(Kz0)->Bool
def Pp (N:Nat):Eg:=λx k=>k (H_ x)
abbrev rT:=LF->(Ky9)->Bool
def o6 (N:Nat) (au9:Eg) (t6:LF) (t7:Int) (e0:Ky9) (e1:Bool):(Int)->((Int)->Bool)->Bool:=λv_ K=>match v_ with
 | t8=>(cond (decide (t8<t7)) (inR t8 t6.length&&au9 (t6.getD t8.toNat none) (λnr=>cond ((nr==1)==false) (cond (nr==2) (e0 false) (aj .i64 (t8+1)&&K (t8+1))) (e0 false))) e1)
def ahe (N:Nat) (au9:Eg) (l:LF) (k0:Ky9):Bool:=
 (ah N (o6 N au9 l ((l.length:Nat):Int) (λt2=>k0 t2) (k0 true)) 0)
def RM (N:Nat):rT:=ahe N (Pp N)
abbrev vz:=Int->Int->LF->(Kz0)->Bool
def amq (N:Nat) (axD:Hi) (as2:rT) (m_0 m_1:Int) (m_2:LF) (k0:Kz0):Bool:=
 (axD m_0 (λcr=>cond ((!cr)==false) (axD m_1 (λasD=>cond (!asD) (k0 1) (aj .i64 (m_0*m_1)&&cond (((m_2.length:Nat):Int) != (m_0*m_1)) (k0 3) (as2 m_2 (λatH=>cond (!atH) (k0 4) (k0 0)))))) (k0 1)))
def RL (N:Nat):vz:=amq N (Vg N) (RM N)
abbrev wB:=Int->Int->LF->Int->Int->(Kz2)->Bool
def Y1 (N:Nat) (m_0 m_1:Int) (m_2:LF) (i j:Int) (k0:Kz2):Bool:=
 (aj .i64 (i*m_1)&&(aj .i64 ((i*m_1)+j)&&(inR ((i*m_1)+j) m_2.length&&k0 (m_2.getD (Int.toNat ((i*m_1)+j)) none))))
def Pb (N:Nat):wB:=Y1 N
abbrev Ef:=Fl->Fl->(Ky9)->Bool
def Po (N:Nat):Ef:=λx y k=>k (decide (cn x=cn y))
abbrev Nq:=Int->Int->LF->(Ky9)->Bool
section
variable (N:Nat) (att:vz) (as8:wB) (auc:Ef)
def MG (N:Nat) (att:vz) (as8:wB) (auc:Ef) (i aw8 aw9 t20 m_5 m_6:Int) (m_7:LF) (e0:Ky9) (e1:Bool):(Int)->((Int)->Bool)->Bool:=λv_ K=>match v_ with
 | t21=>(cond (decide (t21<t20)) (as8 m_5 m_6 m_7 i t21 (λxr=>as8 m_5 m_6 m_7 t21 i (λavf=>auc xr avf (λcr=>cond (!cr) (e0 false) (aj .i64 (t21+1)&&K (t21+1)))))) e1)
def MF (t16 m m_3:Int) (m_4:LF) (e0:Ky9) (e1:Bool):(Int)->((Int)->Bool)->Bool:=λv_ K=>match v_ with
 | t17=>(cond (decide (t17<t16)) (ah N (MG N att as8 auc t17 t16 t17 t17 m m_3 m_4 (λt2=>e0 t2) (aj .i64 (t17+1)&&K (t17+1))) 0) e1)
def ahm (m_0 m_1:Int) (m_2:LF) (k0:Ky9):Bool:=
 (att m_0 m_1 m_2 (λnr=>cond ((nr != 0)==false) (cond (m_0 != m_1) (k0 false) (ah N (MF N att as8 auc m_0 m_0 m_1 m_2 (λaxj=>k0 axj) (k0 true)) 0)) (k0 false)))
end
def aju (N:Nat):Nq:=ahm N (RL N) (Pb N) (Po N)
abbrev aY:=Bool->Int->(Bool)->Bool
def uD (N:Nat) (is:Bool) (e:Int) (k0:Bool):Bool:=
 (cond (!is) false k0)
def cP (N:Nat):aY:=uD N
abbrev wH:=Fl->(Kz0)->Bool
def Lj (N:Nat):wH:=λx k=>match x with | some b=>k b | none=>false
abbrev HG:=Int->(Kz0)->Bool
def ZX (N:Nat) (x:Int) (k0:Kz0):Bool:=
 (cond (x==0) (k0 64) (inR (Int.fdiv (IntKind.wrap .u64 ((aH .and .u64 x (IntKind.wrap .u64 (0 - x)))*285870213051353865)) (2 ^ 58)) 64&&(aj .i64 (FV.getD (Int.toNat (Int.fdiv (IntKind.wrap .u64 ((aH .and .u64 x (IntKind.wrap .u64 (0 - x)))*285870213051353865)) (2 ^ 58))) 0)&&k0 (FV.getD (Int.toNat (Int.fdiv (IntKind.wrap .u64 ((aH .and .u64 x (IntKind.wrap .u64 (0 - x)))*285870213051353865)) (2 ^ 58))) 0))))
def RS (N:Nat):HG:=ZX N
abbrev GV:=Int->Int->Int->Int->(Kx4)->Bool
def GH (N:Nat) (au0:CT) (auZ:CS) (atB:tk) (avp:HG) (b f_0 f_1 f_2:Int) (p:Bool) (p_1 p_2:Int) (k0:Kx4):Bool:=
 (avp p_1 (λat9=>decide (0<=at9)&&(aj .i64 (p_2+at9)&&k0 p (Int.fdiv p_1 (2 ^ (min at9.toNat 64))) (p_2+at9) 0)))
def Kn (N:Nat) (au0:CT) (auZ:CS) (atB:tk) (avp:HG) (b f_0 f_1 f_2:Int) (k0:Kx4):Bool:=
 (au0 b f_0 f_1 f_2 (λcr nr ask=>aj .i64 (nr - f_2)&&auZ b f_0 f_1 f_2 (λasl=>cond (asl==1) (k0 false 0 0 4) (cond (asl==2) (k0 false 0 0 4) (cond (asl==3) (k0 cr 0 0 0) (cond (asl==4) (aj .i64 ((nr - f_2)+1)&&GH N au0 auZ atB avp b f_0 f_1 f_2 cr ask ((nr - f_2)+1) k0) (atB f_0 f_1 f_2 (λatd=>GH N au0 auZ atB avp b f_0 f_1 f_2 cr (aH .or .u64 ask atd) (nr - f_2) k0))))))))
def U4 (N:Nat):GV:=Kn N (Px N) (Pw N) (DG N) (RS N)
abbrev BJ:=Fl->(Kx4)->Bool
def ZF (N:Nat) (avn:wH) (at4:ov) (ayi:GV) (x:Fl) (k0:Kx4):Bool:=
 (avn x (λnr=>at4 (λask asl atd=>ayi nr ask asl atd (λcr at9 n5 n6=>k0 cr at9 n5 n6))))
def FQ (N:Nat):BJ:=ZF N (Lj N) (Ay N) (U4 N)
abbrev lQ:=LI->(Kz1)->Bool
def Cs (N:Nat) (x:LI) (e0:Kz0):(Int)->((Int)->Bool)->Bool:=λv_ K=>match v_ with
 | n=>(cond ((decide (n>0))==true) (aj .i64 (n - 1)&&(inR (n - 1) x.length&&(decide ((Int.toNat (n - 1))<x.length)&&cond ((x.getD (Int.toNat (n - 1)) 0)==0) (aj .i64 (n - 1)&&K (n - 1)) (e0 n)))) (e0 n))
def GQ9 (N:Nat) (b:LI) (k0:Kz1):Bool:=
 (ah N (Cs N b (λn_1=>decide (0<=n_1/\n_1<=((b.length:Nat):Int))&&k0 (n_1.toNat - 0))) ((b.length:Nat):Int))
def sQ9 (N:Nat):lQ:=GQ9 N
abbrev rU:=Int->(Kz4)->Bool
def amC (N:Nat) (SQ9:lQ) (n:Int) (k0:Kz4):Bool:=
 (SQ9 [n] (λmr=>decide ((0+mr)<=(List.length [n]))&&k0 (List.take mr (List.drop 0 [n]))))
def ER (N:Nat):rU:=amC N (sQ9 N)
abbrev vA:=Bool->LI->Bool->(Ky9)->Bool
def amr (N:Nat) (neg:Bool) (abs:LI) (b:Bool) (k0:Ky9):Bool:=
 (cond (neg==true) (k0 (decide (((abs.length:Nat):Int)>0))) (k0 false))
def Mo (N:Nat):vA:=amr N
abbrev HI:=Int->Bool->(Ky1)->Bool
def amA (N:Nat) (asB:rU) (avo:vA) (n:Int) (b:Bool) (k0:Ky1):Bool:=
 (asB n (λnsr=>avo false nsr b (λcr=>k0 cr nsr)))
def Pv (N:Nat):HI:=amA N (ER N) (Mo N)
abbrev mQ:=LI->(Kz4)->Bool
def amt (N:Nat) (x:LI) (k0:Kz4):Bool:=
 (decide ((List.length ([]++x))*8<=140737488355328)&&k0 ([]++x))
def Gj (N:Nat):mQ:=amt N
abbrev CU:=Bool->LI->Bool->LI->(Ky9)->Bool
def aoW (N:Nat) (neg:Bool) (abs:LI) (b:Bool) (b_1:LI) (k0:Ky9):Bool:=
 (cond (neg==true) (k0 (decide (((abs.length:Nat):Int)>0))) (k0 false))
def aes (N:Nat):CU:=aoW N
abbrev HP:=Bool->LI->(Ky1)->Bool
def amN (N:Nat) (asJ:mQ) (awt:CU) (b:Bool) (b_1:LI) (k0:Ky1):Bool:=
 (asJ b_1 (λnsr=>awt (!b) nsr b b_1 (λcr=>k0 cr nsr)))
def Py (N:Nat):HP:=amN N (Gj N) (aes N)
abbrev GM:=Int->Bool->(Ky1)->Bool
def Y0 (N:Nat) (asB:rU) (avo:vA) (n:Int) (b:Bool) (k0:Ky1):Bool:=
 (cond (decide (n<0)) (asB (IntKind.wrap .u64 (0 - (IntKind.wrap .u64 n))) (λnsr=>avo true nsr b (λcr=>k0 cr nsr))) (asB (IntKind.wrap .u64 n) (λasj=>avo false asj b (λasD=>k0 asD asj))))
def adY (N:Nat):GM:=Y0 N (ER N) (Mo N)
abbrev wC:=Int->(Ky1)->Bool
def Zh (N:Nat) (ax_:GM) (n:Int) (k0:Ky1):Bool:=
 (ax_ n false (λcr nsr=>k0 cr nsr))
def FO (N:Nat):wC:=Zh N (adY N)
abbrev Hw:=LI->Int->(Kz4)->Bool
def Cv (N:Nat) (SQ9:lQ) (words rest:Int) (t24:LI) (t25:Int) (e0:Kz4):(Int × LI)->((Int × LI)->Bool)->Bool:=λv_ K=>match v_ with
 | (t26,z)=>(cond (decide (t26<t25)) (inR t26 t24.length&&(aj .i64 (words+t26)&&(inR (words+t26) z.length&&(decide ((Int.toNat (words+t26))<z.length)&&(decide (0<=rest)&&(inR (words+t26) z.length&&(decide ((Int.toNat (words+t26))<z.length)&&(aj .i64 (words+t26)&&(aj .i64 ((words+t26)+1)&&(decide (0<=(IntKind.wrap .u64 (64 - rest)))&&(inR ((words+t26)+1) (List.length (z.set (Int.toNat (words+t26)) (aH .or .u64 (z.getD (Int.toNat (words+t26)) 0) (IntKind.wrap .u64 ((t24.getD t26.toNat 0)*2 ^ (min rest.toNat 64))))))&&(decide ((Int.toNat ((words+t26)+1))<(List.length (z.set (Int.toNat (words+t26)) (aH .or .u64 (z.getD (Int.toNat (words+t26)) 0) (IntKind.wrap .u64 ((t24.getD t26.toNat 0)*2 ^ (min rest.toNat 64)))))))&&(aj .i64 (t26+1)&&K ((t26+1),(List.set (z.set (Int.toNat (words+t26)) (aH .or .u64 (z.getD (Int.toNat (words+t26)) 0) (IntKind.wrap .u64 ((t24.getD t26.toNat 0)*2 ^ (min rest.toNat 64))))) (Int.toNat ((words+t26)+1)) (Int.fdiv (t24.getD t26.toNat 0) (2 ^ (min (Int.toNat (IntKind.wrap .u64 (64 - rest))) 64)))))))))))))))))) (e0 z))
def T8 (N:Nat) (SQ9:lQ) (x:LI) (n:Int) (k0:Kz4):Bool:=
 (cond (((x.length:Nat):Int)==0) (k0 []) (aj .i64 (IntKind.wrap .u64 (Int.tdiv n 64))&&(aj .i64 ((IntKind.wrap .u64 (Int.tdiv n 64))+((x.length:Nat):Int))&&(aj .i64 (((IntKind.wrap .u64 (Int.tdiv n 64))+((x.length:Nat):Int))+1)&&(mF 8 (((IntKind.wrap .u64 (Int.tdiv n 64))+((x.length:Nat):Int))+1) (((IntKind.wrap .u64 (Int.tdiv n 64))+((x.length:Nat):Int))+1)&&ah N (Cv N SQ9 (IntKind.wrap .u64 (Int.tdiv n 64)) (Int.tmod n 64) x ((x.length:Nat):Int) (λz_1=>SQ9 z_1 (λmr=>decide ((0+mr)<=z_1.length)&&k0 (List.take mr (List.drop 0 z_1))))) (0,(List.replicate (Int.toNat (((IntKind.wrap .u64 (Int.tdiv n 64))+((x.length:Nat):Int))+1)) (0:Int))))))))
def Vp (N:Nat):Hw:=T8 N (sQ9 N)
abbrev HM:=Int->Bool->Bool->LI->(Ky1)->Bool
def amK (N:Nat) (ayO:Hw) (avo:vA) (n:Int) (b b_1:Bool) (b_2:LI) (k0:Ky1):Bool:=
 (ayO b_2 n (λnsr=>avo b_1 nsr b (λcr=>k0 cr nsr)))
def RV (N:Nat):HM:=amK N (Vp N) (Mo N)
abbrev pF:=LI->LI->(Kz0)->Bool
def Cp (N:Nat) (x_1 y_1:LI) (e0:Kz0) (e1:Bool):(Int)->((Int)->Bool)->Bool:=λv_ K=>match v_ with
 | i=>(cond (decide (i>=0)) (inR i x_1.length&&(inR i y_1.length&&cond ((x_1.getD i.toNat 0) != (y_1.getD i.toNat 0)) (inR i x_1.length&&(inR i y_1.length&&cond (decide ((x_1.getD i.toNat 0)<(y_1.getD i.toNat 0))) (e0 (-1)) (e0 1))) (aj .i64 (i - 1)&&K (i - 1)))) e1)
def ahb (N:Nat) (x y:LI) (k0:Kz0):Bool:=
 (cond (((x.length:Nat):Int) != ((y.length:Nat):Int)) (cond (decide (((x.length:Nat):Int)<((y.length:Nat):Int))) (k0 (-1)) (k0 1)) (aj .i64 (((x.length:Nat):Int) - 1)&&ah N (Cp N x y (λt4=>k0 t4) (k0 0)) (((x.length:Nat):Int) - 1)))
def DI (N:Nat):pF:=ahb N
abbrev Bx:=Int->(Kz0)->Bool
def Nk (N:Nat) (x x_2 n_1:Int) (k0:Kz0):Bool:=
 (cond (decide (x_2>=256)) (aj .i64 (n_1+8)&&(inR (IntKind.wrap .u8 (Int.fdiv x_2 (2 ^ 8))) 256&&(aj .i64 (aE.getD (Int.toNat (IntKind.wrap .u8 (Int.fdiv x_2 (2 ^ 8)))) 0)&&(aj .i64 ((n_1+8)+(aE.getD (Int.toNat (IntKind.wrap .u8 (Int.fdiv x_2 (2 ^ 8)))) 0))&&k0 ((n_1+8)+(aE.getD (Int.toNat (IntKind.wrap .u8 (Int.fdiv x_2 (2 ^ 8)))) 0)))))) (inR (IntKind.wrap .u8 x_2) 256&&(aj .i64 (aE.getD (Int.toNat (IntKind.wrap .u8 x_2)) 0)&&(aj .i64 (n_1+(aE.getD (Int.toNat (IntKind.wrap .u8 x_2)) 0))&&k0 (n_1+(aE.getD (Int.toNat (IntKind.wrap .u8 x_2)) 0))))))
def Ni (N:Nat) (x x_1 n:Int) (k0:Kz0):Bool:=
 (cond (decide (x_1>=65536)) (aj .i64 (n+16)&&Nk N x (Int.fdiv x_1 (2 ^ 16)) (n+16) k0) (Nk N x x_1 n k0))
def Ko (N:Nat) (x:Int) (k0:Kz0):Bool:=
 (cond (decide (x>=4294967296)) (Ni N x (Int.fdiv x (2 ^ 32)) 32 k0) (Ni N x x 0 k0))
def Pd (N:Nat):Bx:=Ko N
abbrev Bp:=LI->(Kz0)->Bool
def YU (N:Nat) (awo:Bx) (x:LI) (k0:Kz0):Bool:=
 (cond (((x.length:Nat):Int)==0) (k0 0) (aj .i64 (((x.length:Nat):Int) - 1)&&(aj .i64 (64*(((x.length:Nat):Int) - 1))&&(aj .i64 (((x.length:Nat):Int) - 1)&&(inR (((x.length:Nat):Int) - 1) x.length&&awo (x.getD (Int.toNat (((x.length:Nat):Int) - 1)) 0) (λnr=>aj .i64 ((64*(((x.length:Nat):Int) - 1))+nr)&&k0 ((64*(((x.length:Nat):Int) - 1))+nr)))))))
def Bd (N:Nat):Bp:=YU N (Pd N)
abbrev pO:=LI->Int->(Kz0)->Bool
def YS (N:Nat) (x:LI) (i:Int) (k0:Kz0):Bool:=
 (cond (decide (i<((x.length:Nat):Int))) (inR i x.length&&k0 (x.getD i.toNat 0)) (k0 0))
def Ji (N:Nat):pO:=YS N
abbrev BF:=LI->Int->(Kz0)->Bool
def Zt (N:Nat) (as6:pO) (x:LI) (from_:Int) (k0:Kz0):Bool:=
 (aj .i64 (Int.tdiv from_ 64)&&as6 x (Int.tdiv from_ 64) (λnr=>decide (0<=(IntKind.wrap .u64 (Int.tmod from_ 64)))&&(aj .i64 ((Int.tdiv from_ 64)+1)&&as6 x ((Int.tdiv from_ 64)+1) (λask=>decide (0<=(IntKind.wrap .u64 (64 - (IntKind.wrap .u64 (Int.tmod from_ 64)))))&&k0 (aH .or .u64 (Int.fdiv nr (2 ^ (min (Int.toNat (IntKind.wrap .u64 (Int.tmod from_ 64))) 64))) (IntKind.wrap .u64 (ask*2 ^ (min (Int.toNat (IntKind.wrap .u64 (64 - (IntKind.wrap .u64 (Int.tmod from_ 64))))) 64))))))))
def Bf (N:Nat):BF:=Zt N (Ji N)
abbrev Bu:=Int->Int->(Kx3)->Bool
def ug (N:Nat) (t4 ay7 awO awP:Int) (aBZ:Bool) (e0:Kx3):(Int × Int × Int × Int × Int × Int × Int × Int × Bool)->((Int × Int × Int × Int × Int × Int × Int × Int × Bool)->Bool)->Bool:=λv_ K=>match v_ with
 | (x_1,y_1,u,v,w,w_1,w_2,w_3,w_4)=>(cond ((decide (y_1>=v))==true) (cond (decide ((IntKind.wrap .u64 (x_1 - y_1))>=(IntKind.wrap .u64 (w_3+v)))) ((!decide (y_1=0))&&((!decide (y_1=0))&&K (y_1,(Int.tmod x_1 y_1),(IntKind.wrap .u64 (w_2+(IntKind.wrap .u64 ((IntKind.wrap .u64 (Int.tdiv x_1 y_1))*u)))),(IntKind.wrap .u64 (w_3+(IntKind.wrap .u64 ((IntKind.wrap .u64 (Int.tdiv x_1 y_1))*v)))),w_2,w_3,u,v,(!w_4)))) (e0 w w_1 w_2 w_3 w_4)) (e0 w w_1 w_2 w_3 w_4))
def Y3 (N:Nat) (x y:Int) (k0:Kx3):Bool:=
 (ah N (ug N 0 0 0 0 false (λw_5 w_6 w_7 w_8 w_9=>k0 w_5 w_6 w_7 w_8 w_9)) (x,y,0,1,0,0,1,0,true))
def DE (N:Nat):Bu:=Y3 N
abbrev yy:=Int->Int->(Ky2)->Bool
def amD (N:Nat) (x y:Int) (k0:Ky2):Bool:=
 (k0 (IntKind.wrap .u64 ((IntKind.wrap .u64 ((IntKind.wrap .u64 ((Int.fdiv x (2 ^ 32))*(Int.fdiv y (2 ^ 32))))+(Int.fdiv (IntKind.wrap .u64 ((IntKind.wrap .u64 ((Int.fdiv x (2 ^ 32))*(aH .and .u64 y 4294967295)))+(Int.fdiv (IntKind.wrap .u64 ((aH .and .u64 x 4294967295)*(aH .and .u64 y 4294967295))) (2 ^ 32)))) (2 ^ 32))))+(Int.fdiv (IntKind.wrap .u64 ((aH .and .u64 (IntKind.wrap .u64 ((IntKind.wrap .u64 ((Int.fdiv x (2 ^ 32))*(aH .and .u64 y 4294967295)))+(Int.fdiv (IntKind.wrap .u64 ((aH .and .u64 x 4294967295)*(aH .and .u64 y 4294967295))) (2 ^ 32)))) 4294967295)+(IntKind.wrap .u64 ((aH .and .u64 x 4294967295)*(Int.fdiv y (2 ^ 32)))))) (2 ^ 32)))) (IntKind.wrap .u64 (x*y)))
def Jq (N:Nat):yy:=amD N
abbrev mP:=Int->Int->Int->(Ky2)->Bool
def Cl (N:Nat):mP:=λx y c k=>(decide (c.toNat<=1))&&k (((x.toNat+y.toNat+c.toNat)%18446744073709551616:Nat):Int) (((x.toNat+y.toNat+c.toNat) / 18446744073709551616:Nat):Int)
abbrev pG:=Int->Int->Int->Int->(Ky2)->Bool
def amu (N:Nat) (auf:yy) (asn:mP) (a b c d:Int) (k0:Ky2):Bool:=
 (auf a b (λnr ask=>asn ask c 0 (λasl atd=>asn asl d 0 (λat9 n5=>k0 (IntKind.wrap .u64 ((IntKind.wrap .u64 (nr+atd))+n5)) at9))))
def RP (N:Nat):pG:=amu N (Jq N) (Cl N)
abbrev Hs:=LI->Int->Int->(Kz4)->Bool
def qr (N:Nat) (asw:pG) (SQ9:lQ) (x_1:LI) (d_1:Int) (t14:LI) (t15:Int) (e0:Ky5):(Int × Int × LI)->((Int × Int × LI)->Bool)->Bool:=λv_ K=>match v_ with
 | (axv,t16,z)=>(cond (decide (t16<t15)) (inR t16 t14.length&&asw (t14.getD t16.toNat 0) d_1 0 axv (λnr ask=>inR t16 z.length&&(decide (t16.toNat<z.length)&&(aj .i64 (t16+1)&&K (nr,(t16+1),(z.set t16.toNat ask)))))) (e0 axv z))
def T7 (N:Nat) (asw:pG) (SQ9:lQ) (x:LI) (d more:Int) (k0:Kz4):Bool:=
 (aj .i64 (((x.length:Nat):Int)+1)&&(mF 8 (((x.length:Nat):Int)+1) (((x.length:Nat):Int)+1)&&ah N (qr N asw SQ9 x d x ((x.length:Nat):Int) (λaAK z_1=>inR ((x.length:Nat):Int) z_1.length&&(decide ((Int.toNat ((x.length:Nat):Int))<z_1.length)&&SQ9 (z_1.set (Int.toNat ((x.length:Nat):Int)) aAK) (λmr=>decide ((0+mr)<=(List.length (z_1.set (Int.toNat ((x.length:Nat):Int)) aAK)))&&k0 (List.take mr (List.drop 0 (z_1.set (Int.toNat ((x.length:Nat):Int)) aAK))))))) (more,0,(List.replicate (Int.toNat (((x.length:Nat):Int)+1)) (0:Int)))))
def Vn (N:Nat):Hs:=T7 N (RP N) (sQ9 N)
abbrev tw:=Int->Int->Int->(Ky2)->Bool
def aeo (N:Nat):tw:=λx y c k=>(decide (c.toNat<=1))&&k (((x.toNat+18446744073709551616 - y.toNat - c.toNat)%18446744073709551616:Nat):Int) (cond (decide (x.toNat<y.toNat+c.toNat)) 1 0)
abbrev BI:=LI->LI->(Kz4)->Bool
def qq (N:Nat) (as6:pO) (asO:tw) (SQ9:lQ) (x_1 y_1:LI) (t12:Int) (e0:Kz4):(Int × Int × LI)->((Int × Int × LI)->Bool)->Bool:=λv_ K=>match v_ with
 | (borrow,t13,z)=>(cond (decide (t13<t12)) (inR t13 x_1.length&&as6 y_1 t13 (λnr=>asO (x_1.getD t13.toNat 0) nr borrow (λask asl=>inR t13 z.length&&(decide (t13.toNat<z.length)&&(aj .i64 (t13+1)&&K (asl,(t13+1),(z.set t13.toNat ask))))))) (e0 z))
def T4 (N:Nat) (as6:pO) (asO:tw) (SQ9:lQ) (x y:LI) (k0:Kz4):Bool:=
 (mF 8 ((x.length:Nat):Int) ((x.length:Nat):Int)&&ah N (qq N as6 asO SQ9 x y ((x.length:Nat):Int) (λz_1=>SQ9 z_1 (λmr=>decide ((0+mr)<=z_1.length)&&k0 (List.take mr (List.drop 0 z_1))))) (0,0,(List.replicate (Int.toNat ((x.length:Nat):Int)) (0:Int))))
def Pl (N:Nat):BI:=T4 N (Ji N) (aeo N) (sQ9 N)
abbrev dx:=Int->Int->Int->Int->Bool->LI->LI->(Ky8)->Bool
def jf (N:Nat) (avX:Hs) (avE:BI) (w_0 w_1 w_2 w_3:Int) (w_4:Bool) (x y:LI) (k0:Ky8):Bool:=
 (cond w_4 (avX y w_1 0 (λnsr=>avX x w_0 0 (λasj=>avE nsr asj (λasy=>avX x w_2 0 (λast=>avX y w_3 0 (λasp=>avE ast asp (λaso=>k0 asy aso))))))) (avX x w_0 0 (λs6=>avX y w_1 0 (λs7=>avE s6 s7 (λs8=>avX y w_3 0 (λs9=>avX x w_2 0 (λs10=>avE s9 s10 (λs11=>k0 s8 s11))))))))
def bw (N:Nat):dx:=jf N (Vn N) (Pl N)
abbrev uE:=Int->(Kz0)->Bool
def amh (N:Nat) (awo:Bx) (x:Int) (k0:Kz0):Bool:=
 (awo x (λnr=>aj .i64 (64 - nr)&&k0 (64 - nr)))
def adW (N:Nat):uE:=amh N (Pd N)
abbrev xy:=Int->Int->Int->(Ky2)->Bool
def E4 (N:Nat) (asY:uE) (y_1 s yn1 yn0 un32 un1 un0:Int) (e0:Kz0):(Int × Int)->((Int × Int)->Bool)->Bool:=λv_ K=>match v_ with
 | (q1,rhat)=>(cond ((decide (q1>=4294967296))==false) (cond (decide ((IntKind.wrap .u64 (q1*yn0))>(IntKind.wrap .u64 ((IntKind.wrap .u64 (4294967296*rhat))+un1)))) (cond (decide ((IntKind.wrap .u64 (rhat+yn1))>=4294967296)) (e0 (IntKind.wrap .u64 (q1 - 1))) (K ((IntKind.wrap .u64 (q1 - 1)),(IntKind.wrap .u64 (rhat+yn1))))) (e0 q1)) (cond (decide ((IntKind.wrap .u64 (rhat+yn1))>=4294967296)) (e0 (IntKind.wrap .u64 (q1 - 1))) (K ((IntKind.wrap .u64 (q1 - 1)),(IntKind.wrap .u64 (rhat+yn1))))))
def E5 (N:Nat) (asY:uE) (y_2 s_1 ay0 aAt azQ aBU un21:Int) (e0:Kz0):(Int × Int)->((Int × Int)->Bool)->Bool:=λv_ K=>match v_ with
 | (awk,q0)=>(cond ((decide (q0>=4294967296))==false) (cond (decide ((IntKind.wrap .u64 (q0*aAt))>(IntKind.wrap .u64 ((IntKind.wrap .u64 (4294967296*awk))+azQ)))) (cond (decide ((IntKind.wrap .u64 (awk+ay0))>=4294967296)) (e0 (IntKind.wrap .u64 (q0 - 1))) (K ((IntKind.wrap .u64 (awk+ay0)),(IntKind.wrap .u64 (q0 - 1))))) (e0 q0)) (cond (decide ((IntKind.wrap .u64 (awk+ay0))>=4294967296)) (e0 (IntKind.wrap .u64 (q0 - 1))) (K ((IntKind.wrap .u64 (awk+ay0)),(IntKind.wrap .u64 (q0 - 1))))))
def ahj (N:Nat) (asY:uE) (hi lo y:Int) (k0:Ky2):Bool:=
 (cond (y==0) false (cond (decide (y<=hi)) false (cond (hi==0) ((!decide (y=0))&&((!decide (y=0))&&k0 (IntKind.wrap .u64 (Int.tdiv lo y)) (Int.tmod lo y))) (asY y (λnr=>decide (0<=(IntKind.wrap .u64 nr))&&(decide (0<=(IntKind.wrap .u64 nr))&&(decide (0<=(IntKind.wrap .u64 (64 - (IntKind.wrap .u64 nr))))&&(decide (0<=(IntKind.wrap .u64 nr))&&((!decide ((Int.fdiv (IntKind.wrap .u64 (y*2 ^ (min (Int.toNat (IntKind.wrap .u64 nr)) 64))) (2 ^ 32))=0))&&ah N (E4 N asY (IntKind.wrap .u64 (y*2 ^ (min (Int.toNat (IntKind.wrap .u64 nr)) 64))) (IntKind.wrap .u64 nr) (Int.fdiv (IntKind.wrap .u64 (y*2 ^ (min (Int.toNat (IntKind.wrap .u64 nr)) 64))) (2 ^ 32)) (aH .and .u64 (IntKind.wrap .u64 (y*2 ^ (min (Int.toNat (IntKind.wrap .u64 nr)) 64))) 4294967295) (aH .or .u64 (IntKind.wrap .u64 (hi*2 ^ (min (Int.toNat (IntKind.wrap .u64 nr)) 64))) (Int.fdiv lo (2 ^ (min (Int.toNat (IntKind.wrap .u64 (64 - (IntKind.wrap .u64 nr)))) 64)))) (Int.fdiv (IntKind.wrap .u64 (lo*2 ^ (min (Int.toNat (IntKind.wrap .u64 nr)) 64))) (2 ^ 32)) (aH .and .u64 (IntKind.wrap .u64 (lo*2 ^ (min (Int.toNat (IntKind.wrap .u64 nr)) 64))) 4294967295) (λaAM=>(!decide ((Int.fdiv (IntKind.wrap .u64 (y*2 ^ (min (Int.toNat (IntKind.wrap .u64 nr)) 64))) (2 ^ 32))=0))&&ah N (E5 N asY (IntKind.wrap .u64 (y*2 ^ (min (Int.toNat (IntKind.wrap .u64 nr)) 64))) (IntKind.wrap .u64 nr) (Int.fdiv (IntKind.wrap .u64 (y*2 ^ (min (Int.toNat (IntKind.wrap .u64 nr)) 64))) (2 ^ 32)) (aH .and .u64 (IntKind.wrap .u64 (y*2 ^ (min (Int.toNat (IntKind.wrap .u64 nr)) 64))) 4294967295) (aH .and .u64 (IntKind.wrap .u64 (lo*2 ^ (min (Int.toNat (IntKind.wrap .u64 nr)) 64))) 4294967295) aAM (IntKind.wrap .u64 ((IntKind.wrap .u64 ((IntKind.wrap .u64 ((aH .or .u64 (IntKind.wrap .u64 (hi*2 ^ (min (Int.toNat (IntKind.wrap .u64 nr)) 64))) (Int.fdiv lo (2 ^ (min (Int.toNat (IntKind.wrap .u64 (64 - (IntKind.wrap .u64 nr)))) 64))))*4294967296))+(Int.fdiv (IntKind.wrap .u64 (lo*2 ^ (min (Int.toNat (IntKind.wrap .u64 nr)) 64))) (2 ^ 32)))) - (IntKind.wrap .u64 (aAM*(IntKind.wrap .u64 (y*2 ^ (min (Int.toNat (IntKind.wrap .u64 nr)) 64))))))) (λaEq=>decide (0<=(IntKind.wrap .u64 nr))&&k0 (IntKind.wrap .u64 ((IntKind.wrap .u64 (aAM*4294967296))+aEq)) (Int.fdiv (IntKind.wrap .u64 ((IntKind.wrap .u64 ((IntKind.wrap .u64 ((IntKind.wrap .u64 ((IntKind.wrap .u64 ((IntKind.wrap .u64 ((aH .or .u64 (IntKind.wrap .u64 (hi*2 ^ (min (Int.toNat (IntKind.wrap .u64 nr)) 64))) (Int.fdiv lo (2 ^ (min (Int.toNat (IntKind.wrap .u64 (64 - (IntKind.wrap .u64 nr)))) 64))))*4294967296))+(Int.fdiv (IntKind.wrap .u64 (lo*2 ^ (min (Int.toNat (IntKind.wrap .u64 nr)) 64))) (2 ^ 32)))) - (IntKind.wrap .u64 (aAM*(IntKind.wrap .u64 (y*2 ^ (min (Int.toNat (IntKind.wrap .u64 nr)) 64)))))))*4294967296))+(aH .and .u64 (IntKind.wrap .u64 (lo*2 ^ (min (Int.toNat (IntKind.wrap .u64 nr)) 64))) 4294967295))) - (IntKind.wrap .u64 (aEq*(IntKind.wrap .u64 (y*2 ^ (min (Int.toNat (IntKind.wrap .u64 nr)) 64))))))) (2 ^ (min (Int.toNat (IntKind.wrap .u64 nr)) 64))))) ((IntKind.wrap .u64 ((IntKind.wrap .u64 ((IntKind.wrap .u64 ((IntKind.wrap .u64 ((aH .or .u64 (IntKind.wrap .u64 (hi*2 ^ (min (Int.toNat (IntKind.wrap .u64 nr)) 64))) (Int.fdiv lo (2 ^ (min (Int.toNat (IntKind.wrap .u64 (64 - (IntKind.wrap .u64 nr)))) 64))))*4294967296))+(Int.fdiv (IntKind.wrap .u64 (lo*2 ^ (min (Int.toNat (IntKind.wrap .u64 nr)) 64))) (2 ^ 32)))) - (IntKind.wrap .u64 (aAM*(IntKind.wrap .u64 (y*2 ^ (min (Int.toNat (IntKind.wrap .u64 nr)) 64))))))) - (IntKind.wrap .u64 ((IntKind.wrap .u64 (Int.tdiv (IntKind.wrap .u64 ((IntKind.wrap .u64 ((IntKind.wrap .u64 ((aH .or .u64 (IntKind.wrap .u64 (hi*2 ^ (min (Int.toNat (IntKind.wrap .u64 nr)) 64))) (Int.fdiv lo (2 ^ (min (Int.toNat (IntKind.wrap .u64 (64 - (IntKind.wrap .u64 nr)))) 64))))*4294967296))+(Int.fdiv (IntKind.wrap .u64 (lo*2 ^ (min (Int.toNat (IntKind.wrap .u64 nr)) 64))) (2 ^ 32)))) - (IntKind.wrap .u64 (aAM*(IntKind.wrap .u64 (y*2 ^ (min (Int.toNat (IntKind.wrap .u64 nr)) 64))))))) (Int.fdiv (IntKind.wrap .u64 (y*2 ^ (min (Int.toNat (IntKind.wrap .u64 nr)) 64))) (2 ^ 32))))*(Int.fdiv (IntKind.wrap .u64 (y*2 ^ (min (Int.toNat (IntKind.wrap .u64 nr)) 64))) (2 ^ 32)))))),(IntKind.wrap .u64 (Int.tdiv (IntKind.wrap .u64 ((IntKind.wrap .u64 ((IntKind.wrap .u64 ((aH .or .u64 (IntKind.wrap .u64 (hi*2 ^ (min (Int.toNat (IntKind.wrap .u64 nr)) 64))) (Int.fdiv lo (2 ^ (min (Int.toNat (IntKind.wrap .u64 (64 - (IntKind.wrap .u64 nr)))) 64))))*4294967296))+(Int.fdiv (IntKind.wrap .u64 (lo*2 ^ (min (Int.toNat (IntKind.wrap .u64 nr)) 64))) (2 ^ 32)))) - (IntKind.wrap .u64 (aAM*(IntKind.wrap .u64 (y*2 ^ (min (Int.toNat (IntKind.wrap .u64 nr)) 64))))))) (Int.fdiv (IntKind.wrap .u64 (y*2 ^ (min (Int.toNat (IntKind.wrap .u64 nr)) 64))) (2 ^ 32))))))) ((IntKind.wrap .u64 (Int.tdiv (aH .or .u64 (IntKind.wrap .u64 (hi*2 ^ (min (Int.toNat (IntKind.wrap .u64 nr)) 64))) (Int.fdiv lo (2 ^ (min (Int.toNat (IntKind.wrap .u64 (64 - (IntKind.wrap .u64 nr)))) 64)))) (Int.fdiv (IntKind.wrap .u64 (y*2 ^ (min (Int.toNat (IntKind.wrap .u64 nr)) 64))) (2 ^ 32)))),(IntKind.wrap .u64 ((aH .or .u64 (IntKind.wrap .u64 (hi*2 ^ (min (Int.toNat (IntKind.wrap .u64 nr)) 64))) (Int.fdiv lo (2 ^ (min (Int.toNat (IntKind.wrap .u64 (64 - (IntKind.wrap .u64 nr)))) 64)))) - (IntKind.wrap .u64 ((IntKind.wrap .u64 (Int.tdiv (aH .or .u64 (IntKind.wrap .u64 (hi*2 ^ (min (Int.toNat (IntKind.wrap .u64 nr)) 64))) (Int.fdiv lo (2 ^ (min (Int.toNat (IntKind.wrap .u64 (64 - (IntKind.wrap .u64 nr)))) 64)))) (Int.fdiv (IntKind.wrap .u64 (y*2 ^ (min (Int.toNat (IntKind.wrap .u64 nr)) 64))) (2 ^ 32))))*(Int.fdiv (IntKind.wrap .u64 (y*2 ^ (min (Int.toNat (IntKind.wrap .u64 nr)) 64))) (2 ^ 32))))))))))))))))
def Jp (N:Nat):xy:=ahj N (adW N)
abbrev yq:=LI->Int->(LI->Int->Bool)->Bool
def o7 (N:Nat) (atD:xy) (SQ9:lQ) (x_1:LI) (d_1:Int) (e0:Ky5):(Int × Int × LI)->((Int × Int × LI)->Bool)->Bool:=λv_ K=>match v_ with
 | (rest,i,q)=>(cond (decide (i>=0)) (inR i x_1.length&&atD rest (x_1.getD i.toNat 0) d_1 (λnr ask=>inR i q.length&&(decide (i.toNat<q.length)&&(aj .i64 (i - 1)&&K (ask,(i - 1),(q.set i.toNat nr)))))) (e0 rest q))
def TU (N:Nat) (atD:xy) (SQ9:lQ) (x:LI) (d:Int) (k0:LI->Int->Bool):Bool:=
 (mF 8 ((x.length:Nat):Int) ((x.length:Nat):Int)&&(aj .i64 (((x.length:Nat):Int) - 1)&&ah N (o7 N atD SQ9 x d (λawj q_1=>SQ9 q_1 (λmr=>decide ((0+mr)<=q_1.length)&&k0 (List.take mr (List.drop 0 q_1)) awj))) (0,(((x.length:Nat):Int) - 1),(List.replicate (Int.toNat ((x.length:Nat):Int)) (0:Int)))))
def Pc (N:Nat):yq:=TU N (Jp N) (sQ9 N)
abbrev Fa:=LI->Int->(Bool)->(Ky6)->Bool
def uh (N:Nat) (SQ9:lQ) (words rest:Int) (t24:LI) (t25:Int) (e0:Kz4):(Int × LI)->((Int × LI)->Bool)->Bool:=λv_ K=>match v_ with
 | (t26,z)=>(cond (decide (t26<t25)) (inR t26 t24.length&&(aj .i64 (words+t26)&&(inR (words+t26) z.length&&(decide ((Int.toNat (words+t26))<z.length)&&(decide (0<=rest)&&(inR (words+t26) z.length&&(decide ((Int.toNat (words+t26))<z.length)&&(aj .i64 (words+t26)&&(aj .i64 ((words+t26)+1)&&(decide (0<=(IntKind.wrap .u64 (64 - rest)))&&(inR ((words+t26)+1) (List.length (z.set (Int.toNat (words+t26)) (aH .or .u64 (z.getD (Int.toNat (words+t26)) 0) (IntKind.wrap .u64 ((t24.getD t26.toNat 0)*2 ^ (min rest.toNat 64))))))&&(decide ((Int.toNat ((words+t26)+1))<(List.length (z.set (Int.toNat (words+t26)) (aH .or .u64 (z.getD (Int.toNat (words+t26)) 0) (IntKind.wrap .u64 ((t24.getD t26.toNat 0)*2 ^ (min rest.toNat 64)))))))&&(aj .i64 (t26+1)&&K ((t26+1),(List.set (z.set (Int.toNat (words+t26)) (aH .or .u64 (z.getD (Int.toNat (words+t26)) 0) (IntKind.wrap .u64 ((t24.getD t26.toNat 0)*2 ^ (min rest.toNat 64))))) (Int.toNat ((words+t26)+1)) (Int.fdiv (t24.getD t26.toNat 0) (2 ^ (min (Int.toNat (IntKind.wrap .u64 (64 - rest))) 64)))))))))))))))))) (e0 z))
def aho (N:Nat) (SQ9:lQ) (x:LI) (n:Int) (k0:Bool) (k1:Ky6):Bool:=
 (cond (((x.length:Nat):Int)==0) k0 (aj .i64 (IntKind.wrap .u64 (Int.tdiv n 64))&&(aj .i64 ((IntKind.wrap .u64 (Int.tdiv n 64))+((x.length:Nat):Int))&&(aj .i64 (((IntKind.wrap .u64 (Int.tdiv n 64))+((x.length:Nat):Int))+1)&&(mF 8 (((IntKind.wrap .u64 (Int.tdiv n 64))+((x.length:Nat):Int))+1) (((IntKind.wrap .u64 (Int.tdiv n 64))+((x.length:Nat):Int))+1)&&ah N (uh N SQ9 (IntKind.wrap .u64 (Int.tdiv n 64)) (Int.tmod n 64) x ((x.length:Nat):Int) (λz_1=>SQ9 z_1 (λmr=>k1 mr z_1))) (0,(List.replicate (Int.toNat (((IntKind.wrap .u64 (Int.tdiv n 64))+((x.length:Nat):Int))+1)) (0:Int))))))))
def ajv (N:Nat):Fa:=aho N (sQ9 N)
abbrev Bo:=Nat->Nat->LI->LI->(Kz0)->Bool
def wl (N:Nat) (atD:xy) (auf:yy) (asn:mP) (u u_2:Nat) (v_1:LI) (n:Int) (u_3:LI) (e0:Kz0):(Int × Int)->((Int × Int)->Bool)->Bool:=λv_ K=>match v_ with
 | (q,rest)=>(aj .i64 (n - 2)&&(inR (n - 2) v_1.length&&auf q (v_1.getD (Int.toNat (n - 2)) 0) (λasl atd=>cond ((decide (asl<rest))==false) (cond ((asl==rest)==true) (aj .i64 (n - 2)&&(inR (n - 2) u_2&&(decide ((u+(Int.toNat (n - 2)))<u_3.length)&&cond (decide (atd<=(u_3.getD (u+(Int.toNat (n - 2))) 0))) (e0 q) (aj .i64 (n - 1)&&(inR (n - 1) v_1.length&&asn rest (v_1.getD (Int.toNat (n - 1)) 0) 0 (λat9 n5=>cond (n5 != 0) (e0 (IntKind.wrap .u64 (q - 1))) (K ((IntKind.wrap .u64 (q - 1)),at9)))))))) (aj .i64 (n - 1)&&(inR (n - 1) v_1.length&&asn rest (v_1.getD (Int.toNat (n - 1)) 0) 0 (λn6 n7=>cond (n7 != 0) (e0 (IntKind.wrap .u64 (q - 1))) (K ((IntKind.wrap .u64 (q - 1)),n6)))))) (e0 q))))
def YT (N:Nat) (atD:xy) (auf:yy) (asn:mP) (u_0 u_1:Nat) (v b:LI) (k0:Kz0):Bool:=
 (inR ((v.length:Nat):Int) u_1&&(decide ((u_0+(Int.toNat ((v.length:Nat):Int)))<b.length)&&(aj .i64 (((v.length:Nat):Int) - 1)&&(inR (((v.length:Nat):Int) - 1) v.length&&cond (decide ((b.getD (u_0+(Int.toNat ((v.length:Nat):Int))) 0)>=(v.getD (Int.toNat (((v.length:Nat):Int) - 1)) 0))) (k0 18446744073709551615) (inR ((v.length:Nat):Int) u_1&&(decide ((u_0+(Int.toNat ((v.length:Nat):Int)))<b.length)&&(aj .i64 (((v.length:Nat):Int) - 1)&&(inR (((v.length:Nat):Int) - 1) u_1&&(decide ((u_0+(Int.toNat (((v.length:Nat):Int) - 1)))<b.length)&&(aj .i64 (((v.length:Nat):Int) - 1)&&(inR (((v.length:Nat):Int) - 1) v.length&&atD (b.getD (u_0+(Int.toNat ((v.length:Nat):Int))) 0) (b.getD (u_0+(Int.toNat (((v.length:Nat):Int) - 1))) 0) (v.getD (Int.toNat (((v.length:Nat):Int) - 1)) 0) (λnr ask=>ah N (wl N atD auf asn u_0 u_1 v ((v.length:Nat):Int) b (λt4=>k0 t4)) (nr,ask)))))))))))))
def alr (N:Nat):Bo:=YT N (Jp N) (Jq N) (Cl N)
abbrev yn:=Nat->Nat->LI->LI->(Ky5)->Bool
section
variable (N:Nat) (atw:Bo) (asw:pG) (asO:tw) (asn:mP)
def xM (N:Nat) (atw:Bo) (asw:pG) (asO:tw) (asn:mP) (u u_2:Nat) (v_1:LI) (n q t17:Int) (e0:Int->Int->LI->Bool):(Int × Int × Int × LI)->((Int × Int × Int × LI)->Bool)->Bool:=λv_ K=>match v_ with
 | (carry,borrow,t18,u_3)=>(cond (decide (t18<t17)) (inR t18 v_1.length&&asw q (v_1.getD t18.toNat 0) 0 carry (λask asl=>inR t18 u_2&&(decide ((u+t18.toNat)<u_3.length)&&asO (u_3.getD (u+t18.toNat) 0) asl borrow (λatd at9=>inR t18 u_2&&(decide ((u+t18.toNat)<u_3.length)&&(aj .i64 (t18+1)&&K (ask,at9,(t18+1),(u_3.set (u+t18.toNat) atd)))))))) (e0 carry borrow u_3))
def xO (N:Nat) (atw:Bo) (asw:pG) (asO:tw) (asn:mP) (u_8 u_9:Nat) (v_3:LI) (n_2 q_2 au1 t60:Int) (e0:Ky5):(Int × Int × LI)->((Int × Int × LI)->Bool)->Bool:=λv_ K=>match v_ with
 | (at6,t61,auH)=>(cond (decide (t61<t60)) (inR t61 u_9&&(decide ((u_8+t61.toNat)<auH.length)&&(inR t61 v_3.length&&asn (auH.getD (u_8+t61.toNat) 0) (v_3.getD t61.toNat 0) at6 (λn7 n8=>inR t61 u_9&&(decide ((u_8+t61.toNat)<auH.length)&&(aj .i64 (t61+1)&&K (n8,(t61+1),(auH.set (u_8+t61.toNat) n7)))))))) (e0 at6 auH))
def xN (u_5 u_6:Nat) (v_2:LI) (n_1:Int) (e0:Ky5):(Int × Int × LI)->((Int × Int × LI)->Bool)->Bool:=λv_ K=>match v_ with
 | (q_1,atV,u_7)=>(cond (atV != 0) (ah N (xO N atw asw asO asn u_5 u_6 v_2 n_1 q_1 atV n_1 (λazR avx=>inR n_1 u_6&&(decide ((u_5+n_1.toNat)<avx.length)&&asn (avx.getD (u_5+n_1.toNat) 0) 0 azR (λn9 n10=>inR n_1 u_6&&(decide ((u_5+n_1.toNat)<avx.length)&&K ((IntKind.wrap .u64 (q_1 - 1)),(IntKind.wrap .u64 (atV - n10)),(avx.set (u_5+n_1.toNat) n9))))))) (0,0,u_7)) (e0 q_1 u_7))
def YW (u_0 u_1:Nat) (v b:LI) (k0:Ky5):Bool:=
 (atw u_0 u_1 v b (λnr=>ah N (xM N atw asw asO asn u_0 u_1 v ((v.length:Nat):Int) nr ((v.length:Nat):Int) (λatZ awv u_4=>inR ((v.length:Nat):Int) u_1&&(decide ((u_0+(Int.toNat ((v.length:Nat):Int)))<u_4.length)&&asO (u_4.getD (u_0+(Int.toNat ((v.length:Nat):Int))) 0) atZ awv (λn5 n6=>inR ((v.length:Nat):Int) u_1&&(decide ((u_0+(Int.toNat ((v.length:Nat):Int)))<u_4.length)&&ah N (xN N atw asw asO asn u_0 u_1 v ((v.length:Nat):Int) (λq_3 b0=>k0 q_3 b0)) (nr,n6,(u_4.set (u_0+(Int.toNat ((v.length:Nat):Int))) n5))))))) (0,0,0,b)))
end
def als (N:Nat):yn:=YW N (alr N) (RP N) (aeo N) (Cl N)
abbrev Fb:=Nat->Nat->Nat->Nat->LI->LI->(Kz0)->Bool
def uf (N:Nat) (atD:xy) (auf:yy) (asn:mP) (u u_2 v v_2:Nat) (n:Int) (u_3 v_3:LI) (e0:Kz0):(Int × Int)->((Int × Int)->Bool)->Bool:=λv_ K=>match v_ with
 | (q,rest)=>(aj .i64 (n - 2)&&(inR (n - 2) v_2&&(decide ((v+(Int.toNat (n - 2)))<v_3.length)&&auf q (v_3.getD (v+(Int.toNat (n - 2))) 0) (λasl atd=>cond ((decide (asl<rest))==false) (cond ((asl==rest)==true) (aj .i64 (n - 2)&&(inR (n - 2) u_2&&(decide ((u+(Int.toNat (n - 2)))<u_3.length)&&cond (decide (atd<=(u_3.getD (u+(Int.toNat (n - 2))) 0))) (e0 q) (aj .i64 (n - 1)&&(inR (n - 1) v_2&&(decide ((v+(Int.toNat (n - 1)))<v_3.length)&&asn rest (v_3.getD (v+(Int.toNat (n - 1))) 0) 0 (λat9 n5=>cond (n5 != 0) (e0 (IntKind.wrap .u64 (q - 1))) (K ((IntKind.wrap .u64 (q - 1)),at9))))))))) (aj .i64 (n - 1)&&(inR (n - 1) v_2&&(decide ((v+(Int.toNat (n - 1)))<v_3.length)&&asn rest (v_3.getD (v+(Int.toNat (n - 1))) 0) 0 (λn6 n7=>cond (n7 != 0) (e0 (IntKind.wrap .u64 (q - 1))) (K ((IntKind.wrap .u64 (q - 1)),n6))))))) (e0 q)))))
def ZY (N:Nat) (atD:xy) (auf:yy) (asn:mP) (u_0 u_1 v_0 v_1:Nat) (b b_1:LI) (k0:Kz0):Bool:=
 (inR ((v_1:Nat):Int) u_1&&(decide ((u_0+(Int.toNat ((v_1:Nat):Int)))<b.length)&&(aj .i64 (((v_1:Nat):Int) - 1)&&(inR (((v_1:Nat):Int) - 1) v_1&&(decide ((v_0+(Int.toNat (((v_1:Nat):Int) - 1)))<b_1.length)&&cond (decide ((b.getD (u_0+(Int.toNat ((v_1:Nat):Int))) 0)>=(b_1.getD (v_0+(Int.toNat (((v_1:Nat):Int) - 1))) 0))) (k0 18446744073709551615) (inR ((v_1:Nat):Int) u_1&&(decide ((u_0+(Int.toNat ((v_1:Nat):Int)))<b.length)&&(aj .i64 (((v_1:Nat):Int) - 1)&&(inR (((v_1:Nat):Int) - 1) u_1&&(decide ((u_0+(Int.toNat (((v_1:Nat):Int) - 1)))<b.length)&&(aj .i64 (((v_1:Nat):Int) - 1)&&(inR (((v_1:Nat):Int) - 1) v_1&&(decide ((v_0+(Int.toNat (((v_1:Nat):Int) - 1)))<b_1.length)&&atD (b.getD (u_0+(Int.toNat ((v_1:Nat):Int))) 0) (b.getD (u_0+(Int.toNat (((v_1:Nat):Int) - 1))) 0) (b_1.getD (v_0+(Int.toNat (((v_1:Nat):Int) - 1))) 0) (λnr ask=>ah N (uf N atD auf asn u_0 u_1 v_0 v_1 ((v_1:Nat):Int) b b_1 (λt4=>k0 t4)) (nr,ask)))))))))))))))
def aeq (N:Nat):Fb:=ZY N (Jp N) (Jq N) (Cl N)
abbrev Fc:=Nat->Nat->Nat->Nat->LI->LI->(Ky5)->Bool
section
variable (N:Nat) (aur:Fb) (asw:pG) (asO:tw) (asn:mP)
def MK (N:Nat) (aur:Fb) (asw:pG) (asO:tw) (asn:mP) (u u_2 v v_2:Nat) (n q t17:Int) (v_3:LI) (e0:Int->Int->LI->Bool):(Int × Int × Int × LI)->((Int × Int × Int × LI)->Bool)->Bool:=λv_ K=>match v_ with
 | (carry,borrow,t18,u_3)=>(cond (decide (t18<t17)) (inR t18 v_2&&(decide ((v+t18.toNat)<v_3.length)&&asw q (v_3.getD (v+t18.toNat) 0) 0 carry (λask asl=>inR t18 u_2&&(decide ((u+t18.toNat)<u_3.length)&&asO (u_3.getD (u+t18.toNat) 0) asl borrow (λatd at9=>inR t18 u_2&&(decide ((u+t18.toNat)<u_3.length)&&(aj .i64 (t18+1)&&K (ask,at9,(t18+1),(u_3.set (u+t18.toNat) atd))))))))) (e0 carry borrow u_3))
def ML (N:Nat) (aur:Fb) (asw:pG) (asO:tw) (asn:mP) (u_8 u_9 v_7 v_8:Nat) (n_2 q_2 au1 t60:Int) (v_9:LI) (e0:Ky5):(Int × Int × LI)->((Int × Int × LI)->Bool)->Bool:=λv_ K=>match v_ with
 | (at6,t61,auH)=>(cond (decide (t61<t60)) (inR t61 u_9&&(decide ((u_8+t61.toNat)<auH.length)&&(inR t61 v_8&&(decide ((v_7+t61.toNat)<v_9.length)&&asn (auH.getD (u_8+t61.toNat) 0) (v_9.getD (v_7+t61.toNat) 0) at6 (λn7 n8=>inR t61 u_9&&(decide ((u_8+t61.toNat)<auH.length)&&(aj .i64 (t61+1)&&K (n8,(t61+1),(auH.set (u_8+t61.toNat) n7))))))))) (e0 at6 auH))
def zT (u_5 u_6 v_4 v_5:Nat) (n_1:Int) (v_6:LI) (e0:Ky5):(Int × Int × LI)->((Int × Int × LI)->Bool)->Bool:=λv_ K=>match v_ with
 | (q_1,atV,u_7)=>(cond (atV != 0) (ah N (ML N aur asw asO asn u_5 u_6 v_4 v_5 n_1 q_1 atV n_1 v_6 (λazR avx=>inR n_1 u_6&&(decide ((u_5+n_1.toNat)<avx.length)&&asn (avx.getD (u_5+n_1.toNat) 0) 0 azR (λn9 n10=>inR n_1 u_6&&(decide ((u_5+n_1.toNat)<avx.length)&&K ((IntKind.wrap .u64 (q_1 - 1)),(IntKind.wrap .u64 (atV - n10)),(avx.set (u_5+n_1.toNat) n9))))))) (0,0,u_7)) (e0 q_1 u_7))
def ahq (u_0 u_1 v_0 v_1:Nat) (b b_1:LI) (k0:Ky5):Bool:=
 (aur u_0 u_1 v_0 v_1 b b_1 (λnr=>ah N (MK N aur asw asO asn u_0 u_1 v_0 v_1 ((v_1:Nat):Int) nr ((v_1:Nat):Int) b_1 (λatZ awv u_4=>inR ((v_1:Nat):Int) u_1&&(decide ((u_0+(Int.toNat ((v_1:Nat):Int)))<u_4.length)&&asO (u_4.getD (u_0+(Int.toNat ((v_1:Nat):Int))) 0) atZ awv (λn5 n6=>inR ((v_1:Nat):Int) u_1&&(decide ((u_0+(Int.toNat ((v_1:Nat):Int)))<u_4.length)&&ah N (zT N aur asw asO asn u_0 u_1 v_0 v_1 ((v_1:Nat):Int) b_1 (λq_3 b0=>k0 q_3 b0)) (nr,n6,(u_4.set (u_0+(Int.toNat ((v_1:Nat):Int))) n5))))))) (0,0,0,b)))
end
def ajw (N:Nat):Fc:=ahq N (aeq N) (RP N) (aeo N) (Cl N)
abbrev yo:=Nat->Nat->LI->(Kz1)->Bool
def Cr (N x x_2:Nat) (x_3:LI) (e0:Kz0):(Int)->((Int)->Bool)->Bool:=λv_ K=>match v_ with
 | n=>(cond ((decide (n>0))==true) (aj .i64 (n - 1)&&(inR (n - 1) x_2&&(decide ((x+(Int.toNat (n - 1)))<x_3.length)&&cond ((x_3.getD (x+(Int.toNat (n - 1))) 0)==0) (aj .i64 (n - 1)&&K (n - 1)) (e0 n)))) (e0 n))
def TQ (N x_0 x_1:Nat) (b:LI) (k0:Kz1):Bool:=
 (ah N (Cr N x_0 x_1 b (λn_1=>decide (0<=n_1/\n_1<=((x_1:Nat):Int))&&k0 (n_1.toNat - 0))) ((x_1:Nat):Int))
def UV (N:Nat):yo:=TQ N
abbrev Bw:=Nat->Nat->Int->LI->(Kz0)->Bool
def Y6 (N x_0 x_1:Nat) (i:Int) (b:LI) (k0:Kz0):Bool:=
 (cond (decide (i<((x_1:Nat):Int))) (inR i x_1&&(decide ((x_0+i.toNat)<b.length)&&k0 (b.getD (x_0+i.toNat) 0))) (k0 0))
def U2 (N:Nat):Bw:=Y6 N
abbrev Fd:=Nat->Nat->Int->LI->(LI->Bool->Bool)->Bool
def qf (N:Nat) (at2:Bw) (SQ9:lQ) (x x_2:Nat) (words rest:Int) (t37 aAp:Nat) (t38:Int) (x_3:LI) (e0:Kz0):(Int × Int)->((Int × Int)->Bool)->Bool:=λv_ K=>match v_ with
 | (lost,t39)=>(cond (decide (t39<t38)) (inR t39 aAp&&(decide ((t37+t39.toNat)<x_3.length)&&(aj .i64 (t39+1)&&K ((aH .or .u64 lost (x_3.getD (t37+t39.toNat) 0)),(t39+1))))) (e0 lost))
def mK (N:Nat) (at2:Bw) (SQ9:lQ) (x_4 x_5:Nat) (avW awj azg t53:Int) (x_6:LI) (e0:Kz4):(Int × LI)->((Int × LI)->Bool)->Bool:=λv_ K=>match v_ with
 | (t54,z)=>(cond (decide (t54<t53)) (aj .i64 (avW+t54)&&at2 x_4 x_5 (avW+t54) x_6 (λnr=>decide (0<=awj)&&(aj .i64 (avW+t54)&&(aj .i64 ((avW+t54)+1)&&at2 x_4 x_5 ((avW+t54)+1) x_6 (λask=>decide (0<=(IntKind.wrap .u64 (64 - awj)))&&(inR t54 z.length&&(decide (t54.toNat<z.length)&&(aj .i64 (t54+1)&&K ((t54+1),(z.set t54.toNat (aH .or .u64 (Int.fdiv nr (2 ^ (min awj.toNat 64))) (IntKind.wrap .u64 (ask*2 ^ (min (Int.toNat (IntKind.wrap .u64 (64 - awj))) 64)))))))))))))) (e0 z))
def ZZ (N:Nat) (at2:Bw) (SQ9:lQ) (x_0 x_1:Nat) (n:Int) (b:LI) (k0:LI->Bool->Bool):Bool:=
 (cond (decide ((IntKind.wrap .u64 (Int.tdiv n 64))>=(IntKind.wrap .u64 ((x_1:Nat):Int)))) (k0 [] (decide (((x_1:Nat):Int)>0))) (aj .i64 (IntKind.wrap .u64 (Int.tdiv n 64))&&(inR (IntKind.wrap .u64 (Int.tdiv n 64)) x_1&&(decide ((x_0+(Int.toNat (IntKind.wrap .u64 (Int.tdiv n 64))))<b.length)&&(decide (0<=(Int.tmod n 64))&&(decide (0<=(IntKind.wrap .u64 (Int.tdiv n 64))/\(IntKind.wrap .u64 (Int.tdiv n 64))<=((x_1:Nat):Int))&&ah N (qf N at2 SQ9 x_0 x_1 (IntKind.wrap .u64 (Int.tdiv n 64)) (Int.tmod n 64) x_0 ((Int.toNat (IntKind.wrap .u64 (Int.tdiv n 64))) - 0) ((((Int.toNat (IntKind.wrap .u64 (Int.tdiv n 64))) - 0):Nat):Int) b (λaBS=>aj .i64 (((x_1:Nat):Int) - (IntKind.wrap .u64 (Int.tdiv n 64)))&&(mF 8 (((x_1:Nat):Int) - (IntKind.wrap .u64 (Int.tdiv n 64))) (((x_1:Nat):Int) - (IntKind.wrap .u64 (Int.tdiv n 64)))&&ah N (mK N at2 SQ9 x_0 x_1 (IntKind.wrap .u64 (Int.tdiv n 64)) (Int.tmod n 64) aBS (((List.length (List.replicate (Int.toNat (((x_1:Nat):Int) - (IntKind.wrap .u64 (Int.tdiv n 64)))) (0:Int))):Nat):Int) b (λz_1=>SQ9 z_1 (λmr=>decide ((0+mr)<=z_1.length)&&k0 (List.take mr (List.drop 0 z_1)) (aBS != 0)))) (0,(List.replicate (Int.toNat (((x_1:Nat):Int) - (IntKind.wrap .u64 (Int.tdiv n 64)))) (0:Int)))))) ((aH .and .u64 (b.getD (x_0+(Int.toNat (IntKind.wrap .u64 (Int.tdiv n 64)))) 0) (IntKind.wrap .u64 ((IntKind.wrap .u64 ((1:Int)*2 ^ (min (Int.toNat (Int.tmod n 64)) 64))) - 1))),0)))))))
def aeu (N:Nat):Fd:=ZZ N (U2 N) (sQ9 N)
abbrev tv:=LI->LI->(Ky8)->Bool
def JD (N:Nat) (asq:pF) (asJ:mQ) (as1:yq) (asB:rU) (asY:uE) (atG:Fa) (as3:yn) (atO:Fc) (as4:yo) (atP:Fd) (SQ9:lQ) (up:Int) (u u_1:Nat) (n:Int) (e0:Ky8):(Int × LI × LI)->((Int × LI × LI)->Bool)->Bool:=λv_ K=>match v_ with
 | (j,u_2,q)=>(cond (decide (j>=0)) (aj .i64 (j+n)&&(aj .i64 ((j+n)+1)&&(decide (0<=j/\j<=((j+n)+1)/\((j+n)+1)<=((u_1:Nat):Int))&&as3 (u+j.toNat) ((Int.toNat ((j+n)+1)) - j.toNat) [] u_2 (λatd s6=>inR j q.length&&(decide (j.toNat<q.length)&&(aj .i64 (j - 1)&&K ((j - 1),s6,(q.set j.toNat atd)))))))) (e0 u_2 q))
def Co (N:Nat) (asq:pF) (asJ:mQ) (as1:yq) (asB:rU) (asY:uE) (atG:Fa) (as3:yn) (atO:Fc) (as4:yo) (atP:Fd) (SQ9:lQ) (aB9:Int) (v v_1 u_5 u_6:Nat) (n_1:Int) (v_2:LI) (e0:Ky8):(Int × LI × LI)->((Int × LI × LI)->Bool)->Bool:=λv_ K=>match v_ with
 | (j_1,u_7,q_3)=>(cond (decide (j_1>=0)) (aj .i64 (j_1+n_1)&&(aj .i64 ((j_1+n_1)+1)&&(decide (0<=j_1/\j_1<=((j_1+n_1)+1)/\((j_1+n_1)+1)<=((u_6:Nat):Int))&&atO (u_5+j_1.toNat) ((Int.toNat ((j_1+n_1)+1)) - j_1.toNat) v v_1 u_7 v_2 (λat9 s7=>inR j_1 q_3.length&&(decide (j_1.toNat<q_3.length)&&(aj .i64 (j_1 - 1)&&K ((j_1 - 1),s7,(q_3.set j_1.toNat at9)))))))) (e0 u_7 q_3))
def Kt (N:Nat) (asq:pF) (asJ:mQ) (as1:yq) (asB:rU) (asY:uE) (atG:Fa) (as3:yn) (atO:Fc) (as4:yo) (atP:Fd) (SQ9:lQ) (x y:LI) (aBe:Int) (auH:Nat) (avx q_6:LI) (k0:Ky8):Bool:=
 (as4 0 auH avx (λay6=>atP 0 ay6 aBe avx (λs8 cr=>SQ9 q_6 (λaBT=>decide ((0+aBT)<=q_6.length)&&k0 (List.take aBT (List.drop 0 q_6)) s8))))
def Nc (N:Nat) (asq:pF) (asJ:mQ) (as1:yq) (asB:rU) (asY:uE) (atG:Fa) (as3:yn) (atO:Fc) (as4:yo) (atP:Fd) (SQ9:lQ) (x y:LI) (k0:Ky8):Bool:=
 (asq x y (λnr=>cond (decide (nr<0)) (asJ x (λnsr=>k0 [] nsr)) (cond (((y.length:Nat):Int)==1) (inR 0 y.length&&as1 x (y.getD 0 0) (λasj ask=>asB ask (λasy=>k0 asj asy))) (aj .i64 (((y.length:Nat):Int) - 1)&&(inR (((y.length:Nat):Int) - 1) y.length&&asY (y.getD (Int.toNat (((y.length:Nat):Int) - 1)) 0) (λasl=>atG y (IntKind.wrap .u64 asl) (atG x (IntKind.wrap .u64 asl) (aj .i64 (((x.length:Nat):Int)+1)&&(decide (0<=(((x.length:Nat):Int)+1)/\(((x.length:Nat):Int)+1)<=2)&&(aj .i64 (((((Int.toNat (((x.length:Nat):Int)+1)) - 0):Nat):Int) - 0)&&(mF 8 (((((Int.toNat (((x.length:Nat):Int)+1)) - 0):Nat):Int) - 0) (((((Int.toNat (((x.length:Nat):Int)+1)) - 0):Nat):Int) - 0)&&(aj .i64 (((((Int.toNat (((x.length:Nat):Int)+1)) - 0):Nat):Int) - 0)&&(aj .i64 ((((((Int.toNat (((x.length:Nat):Int)+1)) - 0):Nat):Int) - 0) - 1)&&ah N (JD N asq asJ as1 asB asY atG as3 atO as4 atP SQ9 (IntKind.wrap .u64 asl) 0 ((Int.toNat (((x.length:Nat):Int)+1)) - 0) 0 (λu_3 q_1=>Kt N asq asJ as1 asB asY atG as3 atO as4 atP SQ9 x y (IntKind.wrap .u64 asl) ((Int.toNat (((x.length:Nat):Int)+1)) - 0) u_3 q_1 k0)) (((((((Int.toNat (((x.length:Nat):Int)+1)) - 0):Nat):Int) - 0) - 1),([]++[0,0]),(List.replicate (Int.toNat (((((Int.toNat (((x.length:Nat):Int)+1)) - 0):Nat):Int) - 0)) (0:Int))))))))) (λauL asp=>decide ((0+auL)<=asp.length)&&(decide ((List.length ((List.take auL (List.drop 0 asp))++[0,0]))*8<=140737488355328)&&(aj .i64 (((x.length:Nat):Int)+1)&&(decide (0<=(((x.length:Nat):Int)+1)/\(((x.length:Nat):Int)+1)<=(((List.length ((List.take auL (List.drop 0 asp))++[0,0])):Nat):Int))&&(aj .i64 (((((Int.toNat (((x.length:Nat):Int)+1)) - 0):Nat):Int) - 0)&&(mF 8 (((((Int.toNat (((x.length:Nat):Int)+1)) - 0):Nat):Int) - 0) (((((Int.toNat (((x.length:Nat):Int)+1)) - 0):Nat):Int) - 0)&&(aj .i64 (((((Int.toNat (((x.length:Nat):Int)+1)) - 0):Nat):Int) - 0)&&(aj .i64 ((((((Int.toNat (((x.length:Nat):Int)+1)) - 0):Nat):Int) - 0) - 1)&&ah N (JD N asq asJ as1 asB asY atG as3 atO as4 atP SQ9 (IntKind.wrap .u64 asl) 0 ((Int.toNat (((x.length:Nat):Int)+1)) - 0) 0 (λu_4 q_2=>Kt N asq asJ as1 asB asY atG as3 atO as4 atP SQ9 x y (IntKind.wrap .u64 asl) ((Int.toNat (((x.length:Nat):Int)+1)) - 0) u_4 q_2 k0)) (((((((Int.toNat (((x.length:Nat):Int)+1)) - 0):Nat):Int) - 0) - 1),((List.take auL (List.drop 0 asp))++[0,0]),(List.replicate (Int.toNat (((((Int.toNat (((x.length:Nat):Int)+1)) - 0):Nat):Int) - 0)) (0:Int)))))))))))) (λmr ast=>atG x (IntKind.wrap .u64 asl) (aj .i64 (((x.length:Nat):Int)+1)&&(decide (0<=(((x.length:Nat):Int)+1)/\(((x.length:Nat):Int)+1)<=2)&&(aj .i64 (((((Int.toNat (((x.length:Nat):Int)+1)) - 0):Nat):Int) - ((mr:Nat):Int))&&(mF 8 (((((Int.toNat (((x.length:Nat):Int)+1)) - 0):Nat):Int) - ((mr:Nat):Int)) (((((Int.toNat (((x.length:Nat):Int)+1)) - 0):Nat):Int) - ((mr:Nat):Int))&&(aj .i64 (((((Int.toNat (((x.length:Nat):Int)+1)) - 0):Nat):Int) - ((mr:Nat):Int))&&(aj .i64 ((((((Int.toNat (((x.length:Nat):Int)+1)) - 0):Nat):Int) - ((mr:Nat):Int)) - 1)&&ah N (Co N asq asJ as1 asB asY atG as3 atO as4 atP SQ9 (IntKind.wrap .u64 asl) 0 mr 0 ((Int.toNat (((x.length:Nat):Int)+1)) - 0) ((mr:Nat):Int) ast (λu_8 q_4=>Kt N asq asJ as1 asB asY atG as3 atO as4 atP SQ9 x y (IntKind.wrap .u64 asl) ((Int.toNat (((x.length:Nat):Int)+1)) - 0) u_8 q_4 k0)) (((((((Int.toNat (((x.length:Nat):Int)+1)) - 0):Nat):Int) - ((mr:Nat):Int)) - 1),([]++[0,0]),(List.replicate (Int.toNat (((((Int.toNat (((x.length:Nat):Int)+1)) - 0):Nat):Int) - ((mr:Nat):Int))) (0:Int))))))))) (λaty aso=>decide ((0+aty)<=aso.length)&&(decide ((List.length ((List.take aty (List.drop 0 aso))++[0,0]))*8<=140737488355328)&&(aj .i64 (((x.length:Nat):Int)+1)&&(decide (0<=(((x.length:Nat):Int)+1)/\(((x.length:Nat):Int)+1)<=(((List.length ((List.take aty (List.drop 0 aso))++[0,0])):Nat):Int))&&(aj .i64 (((((Int.toNat (((x.length:Nat):Int)+1)) - 0):Nat):Int) - ((mr:Nat):Int))&&(mF 8 (((((Int.toNat (((x.length:Nat):Int)+1)) - 0):Nat):Int) - ((mr:Nat):Int)) (((((Int.toNat (((x.length:Nat):Int)+1)) - 0):Nat):Int) - ((mr:Nat):Int))&&(aj .i64 (((((Int.toNat (((x.length:Nat):Int)+1)) - 0):Nat):Int) - ((mr:Nat):Int))&&(aj .i64 ((((((Int.toNat (((x.length:Nat):Int)+1)) - 0):Nat):Int) - ((mr:Nat):Int)) - 1)&&ah N (Co N asq asJ as1 asB asY atG as3 atO as4 atP SQ9 (IntKind.wrap .u64 asl) 0 mr 0 ((Int.toNat (((x.length:Nat):Int)+1)) - 0) ((mr:Nat):Int) ast (λu_9 q_5=>Kt N asq asJ as1 asB asY atG as3 atO as4 atP SQ9 x y (IntKind.wrap .u64 asl) ((Int.toNat (((x.length:Nat):Int)+1)) - 0) u_9 q_5 k0)) (((((((Int.toNat (((x.length:Nat):Int)+1)) - 0):Nat):Int) - ((mr:Nat):Int)) - 1),((List.take aty (List.drop 0 aso))++[0,0]),(List.replicate (Int.toNat (((((Int.toNat (((x.length:Nat):Int)+1)) - 0):Nat):Int) - ((mr:Nat):Int))) (0:Int))))))))))))))))))
def ye (N:Nat):tv:=Nc N (DI N) (Gj N) (Pc N) (ER N) (adW N) (ajv N) (als N) (ajw N) (UV N) (aeu N) (sQ9 N)
abbrev BE:=LI->(Kz0)->Bool
def Zs (N:Nat) (as6:pO) (x:LI) (k0:Kz0):Bool:=
 (as6 x 0 (λnr=>k0 nr))
def Be (N:Nat):BE:=Zs N (Ji N)
abbrev vC:=LI->LI->(Kz4)->Bool
section
variable (N:Nat) (asq:pF) (asU:Bp) (asT:BF) (asV:Bu) (ar4:dx) (asG:tv) (asS:BE) (asB:rU)
def E0 (N:Nat) (asq:pF) (asU:Bp) (asT:BF) (asV:Bu) (ar4:dx) (asG:tv) (asS:BE) (asB:rU) (e0:Ky8):(LI × LI)->((LI × LI)->Bool)->Bool:=λv_ K=>match v_ with
 | (x_2,y_2)=>(cond (decide (((y_2.length:Nat):Int)>1)) (asU x_2 (λask=>aj .i64 (ask - 64)&&asT x_2 (ask - 64) (λasl=>asT y_2 (ask - 64) (λatd=>asV asl atd (λat9 n5 n6 n7 cr=>cond (n5 != 0) (ar4 at9 n5 n6 n7 cr x_2 y_2 (λnsr asj=>K (nsr,asj))) (asG x_2 y_2 (λasy ast=>K (y_2,ast)))))))) (e0 x_2 y_2))
def JI (N:Nat) (asq:pF) (asU:Bp) (asT:BF) (asV:Bu) (ar4:dx) (asG:tv) (asS:BE) (asB:rU) (e0:Kz0):(Int × Int)->((Int × Int)->Bool)->Bool:=λv_ K=>match v_ with
 | (a,b)=>(cond (decide (b>0)) ((!decide (b=0))&&K (b,(Int.tmod a b))) (e0 a))
def CG (x y x_4 y_4:LI) (k0:Kz4):Bool:=
 (cond (((y_4.length:Nat):Int)==0) (k0 x_4) (asS x_4 (λn8=>asS y_4 (λn9=>ah N (JI N asq asU asT asV ar4 asG asS asB (λa_1=>asB a_1 (λs6=>k0 s6))) (n8,n9)))))
def Ng (x y x_1 y_1:LI) (k0:Kz4):Bool:=
 (ah N (E0 N asq asU asT asV ar4 asG asS asB (λx_3 y_3=>cond ((decide (((y_3.length:Nat):Int)>0))==true) (cond (decide (((x_3.length:Nat):Int)>1)) (asG x_3 y_3 (λasp aso=>CG N asq asU asT asV ar4 asG asS asB x y y_3 aso k0)) (CG N asq asU asT asV ar4 asG asS asB x y x_3 y_3 k0)) (CG N asq asU asT asV ar4 asG asS asB x y x_3 y_3 k0))) (x_1,y_1))
def Wm (x y:LI) (k0:Kz4):Bool:=
 (asq x y (λnr=>cond (decide (nr<0)) (Ng N asq asU asT asV ar4 asG asS asB x y y x k0) (Ng N asq asU asT asV ar4 asG asS asB x y x y k0)))
end
def Mp (N:Nat):vC:=Wm N (DI N) (Bd N) (Bf N) (DE N) (bw N) (ye N) (Be N) (ER N)
abbrev yv:=Bool->LI->Bool->Bool->(Ky1)->Bool
def ZV (N:Nat) (neg:Bool) (abs:LI) (b b_1:Bool) (k0:Ky1):Bool:=
 (cond (neg==true) (k0 (decide (((abs.length:Nat):Int)>0)) []) (k0 false []))
def Pt (N:Nat):yv:=ZV N
abbrev CR:=Bool->LI->Bool->LI->Bool->LI->(Ky9)->Bool
def ahn (N:Nat) (neg:Bool) (abs:LI) (b:Bool) (b_1:LI) (b_2:Bool) (b_3:LI) (k0:Ky9):Bool:=
 (cond (neg==true) (k0 (decide (((abs.length:Nat):Int)>0))) (k0 false))
def Xw (N:Nat):CR:=ahn N
abbrev GQ:=Bool->LI->LI->Bool->Bool->(Kx5)->Bool
def Nh (N:Nat) (at8:vC) (asq:pF) (asG:tv) (asJ:mQ) (auF:yv) (au5:CR) (neg:Bool) (a b:LI) (b_1 b_2:Bool) (a_1 b_3:LI) (k0:Kx5):Bool:=
 (asJ a_1 (λaso=>auF neg aso b_1 b_2 (λcr s6=>asJ b_3 (λs7=>au5 false s7 cr aso b_2 s6 (λasD=>k0 cr aso asD s7)))))
def Km (N:Nat) (at8:vC) (asq:pF) (asG:tv) (asJ:mQ) (auF:yv) (au5:CR) (neg:Bool) (a b:LI) (b_1 b_2:Bool) (k0:Kx5):Bool:=
 (at8 a b (λnsr=>asq nsr [1] (λnr=>cond (nr != 0) (asG a nsr (λasj asy=>asG b nsr (λast asp=>Nh N at8 asq asG asJ auF au5 neg a b b_1 b_2 asj ast k0))) (Nh N at8 asq asG asJ auF au5 neg a b b_1 b_2 a b k0))))
def UZ (N:Nat):GQ:=Km N (Mp N) (DI N) (ye N) (Gj N) (Pt N) (Xw N)
abbrev CK:=Bool->Bool->Bool->LI->Bool->LI->(Kx5)->Bool
def ahc (N:Nat) (ayd:GQ) (b b_1 b_2:Bool) (b_3:LI) (b_4:Bool) (b_5:LI) (k0:Kx5):Bool:=
 (ayd (b_2 != b_4) b_3 b_5 b b_1 (λcr nsr asD asj=>k0 cr nsr asD asj))
def Pr (N:Nat):CK:=ahc N (UZ N)
abbrev ti:=LI->LI->(Kz4)->Bool
section
variable (N:Nat) (asw:pG) (SQ9:lQ)
def o9 (N:Nat) (asw:pG) (SQ9:lQ) (y_2:LI) (i a:Int) (aAl:LI) (aAm aAn:Int) (t32:LI) (t33:Int) (e0:Ky5):(Int × Int × LI)->((Int × Int × LI)->Bool)->Bool:=λv_ K=>match v_ with
 | (carry,t34,z_1)=>(cond (decide (t34<t33)) (inR t34 t32.length&&(aj .i64 (i+t34)&&(aj .i64 (i+t34)&&(inR (i+t34) z_1.length&&(decide ((Int.toNat (i+t34))<z_1.length)&&asw a (t32.getD t34.toNat 0) (z_1.getD (Int.toNat (i+t34)) 0) carry (λnr ask=>inR (i+t34) z_1.length&&(decide ((Int.toNat (i+t34))<z_1.length)&&(aj .i64 (t34+1)&&K (nr,(t34+1),(z_1.set (Int.toNat (i+t34)) ask)))))))))) (e0 carry z_1))
def o8 (y_1 t25:LI) (t26:Int) (e0:Kz4):(Int × LI)->((Int × LI)->Bool)->Bool:=λv_ K=>match v_ with
 | (t27,z)=>(cond (decide (t27<t26)) (inR t27 t25.length&&ah N (o9 N asw SQ9 y_1 t27 (t25.getD t27.toNat 0) t25 t26 t27 y_1 ((y_1.length:Nat):Int) (λatZ z_2=>aj .i64 (t27+((y_1.length:Nat):Int))&&(inR (t27+((y_1.length:Nat):Int)) z_2.length&&(decide ((Int.toNat (t27+((y_1.length:Nat):Int)))<z_2.length)&&(aj .i64 (t27+1)&&K ((t27+1),(z_2.set (Int.toNat (t27+((y_1.length:Nat):Int))) atZ))))))) (0,0,z)) (e0 z))
def TT (x y:LI) (k0:Kz4):Bool:=
 (cond ((((x.length:Nat):Int)==0)==false) (cond (((y.length:Nat):Int)==0) (k0 []) (aj .i64 (((x.length:Nat):Int)+((y.length:Nat):Int))&&(mF 8 (((x.length:Nat):Int)+((y.length:Nat):Int)) (((x.length:Nat):Int)+((y.length:Nat):Int))&&ah N (o8 N asw SQ9 y x ((x.length:Nat):Int) (λz_3=>SQ9 z_3 (λmr=>decide ((0+mr)<=z_3.length)&&k0 (List.take mr (List.drop 0 z_3))))) (0,(List.replicate (Int.toNat (((x.length:Nat):Int)+((y.length:Nat):Int))) (0:Int)))))) (k0 []))
end
def FN (N:Nat):ti:=TT N (RP N) (sQ9 N)
abbrev HJ:=Bool->LI->Bool->LI->(Ky1)->Bool
def amE (N:Nat) (aun:ti) (awt:CU) (b:Bool) (b_1:LI) (b_2:Bool) (b_3:LI) (k0:Ky1):Bool:=
 (aun b_1 b_3 (λnsr=>awt (b != b_2) nsr b b_1 (λcr=>k0 cr nsr)))
def Xx (N:Nat):HJ:=amE N (FN N) (aes N)
abbrev GP:=Bool->Bool->LI->Bool->LI->LI->(Ky9)->Bool
def Y4 (N:Nat) (neg b:Bool) (b_1:LI) (b_2:Bool) (b_3 b_4:LI) (k0:Ky9):Bool:=
 (cond (neg==true) (k0 (decide (((b_4.length:Nat):Int)>0))) (k0 false))
def adZ (N:Nat):GP:=Y4 N
abbrev GS:=Bool->LI->Bool->Bool->LI->(Ky0)->Bool
def Y7 (N:Nat) (auF:yv) (ayc:GP) (neg:Bool) (a:LI) (b b_1:Bool) (b_2:LI) (k0:Ky0):Bool:=
 (auF neg a b b_1 (λcr nsr=>ayc false cr a b_1 nsr b_2 (λasD=>k0 cr asD)))
def ad0 (N:Nat):GS:=Y7 N (Pt N) (adZ N)
abbrev HH:=Bool->Bool->Bool->LI->(Kx5)->Bool
def amx (N:Nat) (asJ:mQ) (ayf:GS) (b b_1 b_2:Bool) (b_3:LI) (k0:Kx5):Bool:=
 (asJ b_3 (λnsr=>ayf b_2 nsr b b_1 [1] (λcr asD=>k0 cr nsr asD [1])))
def RU (N:Nat):HH:=amx N (Gj N) (ad0 N)
abbrev f_:=Fl->(Kx5)->Bool
def dR (N:Nat) (aug:BJ) (ar2:aY) (avi:HI) (avj:HP) (atQ:wC) (avs:HM) (au3:CK) (avr:HJ) (avq:HH) (x:Fl) (p:Bool) (p_1 p_2:Int) (n:Bool) (n_1:LI) (k0:Kx5):Bool:=
 (atQ 1 (λaus asy=>aj .i64 (0 - p_2)&&avs (IntKind.wrap .u64 (imm true p_2 (0 - p_2))) false aus asy (λav9 ast=>cond (decide (p_2<0)) (au3 false false n n_1 av9 ast (λay_ asp azS aso=>k0 ay_ asp azS aso)) (avr n n_1 av9 ast (λazT s6=>avq false false azT s6 (λc8 s7 c9 s8=>k0 c8 s7 c9 s8))))))
def gr (N:Nat) (aug:BJ) (ar2:aY) (avi:HI) (avj:HP) (atQ:wC) (avs:HM) (au3:CK) (avr:HJ) (avq:HH) (x:Fl) (k0:Kx5):Bool:=
 (aug x (λcr nr ask asl=>ar2 (asl==0) 4 (avi nr false (λasD nsr=>cond cr (avj asD nsr (λatH asj=>dR N aug ar2 avi avj atQ avs au3 avr avq x cr nr ask atH asj k0)) (dR N aug ar2 avi avj atQ avs au3 avr avq x cr nr ask asD nsr k0)))))
def kN (N:Nat):f_:=gr N (FQ N) (cP N) (Pv N) (Py N) (FO N) (RV N) (Pr N) (Xx N) (RU N)
abbrev eZ:=Int->Int->LF->(List RY1->Bool)->Bool
def f8 (N:Nat) (att:vz) (ar2:aY) (asg:f_) (ayY:LF) (azk axa axb g_2 g_3:Int) (e0:List RY1->Bool):(Int × List RY1)->((Int × List RY1)->Bool)->Bool:=λv_ K=>match v_ with
 | (auU,b2)=>(cond (decide (auU<azk)) (inR auU ayY.length&&asg (ayY.getD auU.toNat none) (λatH asy aus ast=>decide ((List.length (b2++[((atH,asy),(aus,ast))]))*8<=140737488355328)&&(aj .i64 (auU+1)&&K ((auU+1),(b2++[((atH,asy),(aus,ast))]))))) (e0 b2))
def jQ (N:Nat) (att:vz) (ar2:aY) (asg:f_) (m_0 m_1:Int) (m_2:LF) (k0:List RY1->Bool):Bool:=
 (att m_0 m_1 m_2 (λnr=>ar2 (nr==0) nr (ah N (f8 N att ar2 asg m_2 ((m_2.length:Nat):Int) 0 0 m_0 m_1 (λ(axY:List RY1)=>k0 axY)) (0,[]))))
def jY (N:Nat):eZ:=jQ N (RL N) (cP N) (kN N)
abbrev aO:=Int->Int->Int->Int->List RY1->(Kx5)->Bool
def j9 (N:Nat) (g_0 g_1 i j:Int) (b:List RY1) (k0:Kx5):Bool:=
 (aj .i64 (i*g_1)&&(aj .i64 ((i*g_1)+j)&&(inR ((i*g_1)+j) b.length&&(decide ((Int.toNat ((i*g_1)+j))<b.length)&&k0 (b.getD (Int.toNat ((i*g_1)+j)) ((false,[]),(false,[]))).1.1 (b.getD (Int.toNat ((i*g_1)+j)) ((false,[]),(false,[]))).1.2 (b.getD (Int.toNat ((i*g_1)+j)) ((false,[]),(false,[]))).2.1 (b.getD (Int.toNat ((i*g_1)+j)) ((false,[]),(false,[]))).2.2))))
def bC (N:Nat):aO:=j9 N
abbrev vB:=Bool->LI->Bool->LI->(Kz4)->Bool
def amz (N:Nat) (x_0:Bool) (x_1:LI) (x_2:Bool) (x_3:LI) (k0:Kz4):Bool:=
 (cond (((x_3.length:Nat):Int)==0) (k0 [1]) (k0 x_3))
def Pu (N:Nat):vB:=amz N
abbrev yx:=Bool->LI->LI->Bool->Bool->(Ky0)->Bool
def amw (N:Nat) (auF:yv) (au5:CR) (neg:Bool) (a b:LI) (b_1 b_2:Bool) (k0:Ky0):Bool:=
 (auF neg a b_1 b_2 (λcr nsr=>au5 false b cr a b_2 nsr (λasD=>k0 cr asD)))
def RQ (N:Nat):yx:=amw N (Pt N) (Xw N)
abbrev GY:=Bool->LI->Bool->LI->Bool->Bool->(Kx5)->Bool
def Ze (N:Nat) (asJ:mQ) (avd:vB) (avZ:yx) (x_0:Bool) (x_1:LI) (x_2:Bool) (x_3:LI) (b b_1:Bool) (k0:Kx5):Bool:=
 (asJ x_1 (λnsr=>avd x_0 x_1 x_2 x_3 (λasj=>asJ asj (λasy=>avZ (!x_0) nsr asy b b_1 (λcr asD=>k0 cr nsr asD asy)))))
def U5 (N:Nat):GY:=Ze N (Gj N) (Pu N) (RQ N)
abbrev GR:=Bool->LI->Bool->LI->(Kz4)->Bool
def Y5 (N:Nat) (b:Bool) (b_1:LI) (b_2:Bool) (b_3:LI) (k0:Kz4):Bool:=
 (cond (((b_3.length:Nat):Int)==0) (k0 [1]) (k0 b_3))
def U0 (N:Nat):GR:=Y5 N
abbrev wE:=LI->LI->(Kz4)->Bool
def Nm (N:Nat) (asG:tv) (x y:LI) (k0:Kz4):Bool:=
 (asG x y (λnsr asj=>k0 nsr))
def Kq (N:Nat) (asG:tv) (x y:LI) (k0:Kz4):Bool:=
 (cond ((((y.length:Nat):Int)==1)==true) (inR 0 y.length&&cond ((y.getD 0 0)==1) (k0 x) (Nm N asG x y k0)) (Nm N asG x y k0))
def Jm (N:Nat):wE:=Kq N (ye N)
abbrev Hz:=LI->LI->(Kz4)->Bool
def sM (N:Nat) (as6:pO) (asn:mP) (SQ9:lQ) (x_1 y_1:LI) (n t17:Int) (e0:Ky5):(Int × Int × LI)->((Int × Int × LI)->Bool)->Bool:=λv_ K=>match v_ with
 | (carry,t18,z)=>(cond (decide (t18<t17)) (as6 x_1 t18 (λnr=>as6 y_1 t18 (λask=>asn nr ask carry (λasl atd=>inR t18 z.length&&(decide (t18.toNat<z.length)&&(aj .i64 (t18+1)&&K (atd,(t18+1),(z.set t18.toNat asl)))))))) (e0 carry z))
def Ua (N:Nat) (as6:pO) (asn:mP) (SQ9:lQ) (x y:LI) (k0:Kz4):Bool:=
 (aj .i64 ((imm true ((x.length:Nat):Int) ((y.length:Nat):Int))+1)&&(mF 8 ((imm true ((x.length:Nat):Int) ((y.length:Nat):Int))+1) ((imm true ((x.length:Nat):Int) ((y.length:Nat):Int))+1)&&ah N (sM N as6 asn SQ9 x y (imm true ((x.length:Nat):Int) ((y.length:Nat):Int)) (imm true ((x.length:Nat):Int) ((y.length:Nat):Int)) (λatZ z_1=>inR (imm true ((x.length:Nat):Int) ((y.length:Nat):Int)) z_1.length&&(decide ((Int.toNat (imm true ((x.length:Nat):Int) ((y.length:Nat):Int)))<z_1.length)&&SQ9 (z_1.set (Int.toNat (imm true ((x.length:Nat):Int) ((y.length:Nat):Int))) atZ) (λmr=>decide ((0+mr)<=(List.length (z_1.set (Int.toNat (imm true ((x.length:Nat):Int) ((y.length:Nat):Int))) atZ)))&&k0 (List.take mr (List.drop 0 (z_1.set (Int.toNat (imm true ((x.length:Nat):Int) ((y.length:Nat):Int))) atZ))))))) (0,0,(List.replicate (Int.toNat ((imm true ((x.length:Nat):Int) ((y.length:Nat):Int))+1)) (0:Int)))))
def Vs (N:Nat):Hz:=Ua N (Ji N) (Cl N) (sQ9 N)
abbrev HO:=Bool->LI->Bool->LI->(Ky1)->Bool
def amM (N:Nat) (ayR:Hz) (awt:CU) (asq:pF) (avE:BI) (neg:Bool) (y:LI) (b:Bool) (b_1:LI) (k0:Ky1):Bool:=
 (cond (b==neg) (ayR b_1 y (λnsr=>awt neg nsr b b_1 (λcr=>k0 cr nsr))) (asq b_1 y (λnr=>cond (decide (nr>=0)) (avE b_1 y (λasj=>awt b asj b b_1 (λasD=>k0 asD asj))) (avE y b_1 (λasy=>awt neg asy b b_1 (λatH=>k0 atH asy))))))
def aet (N:Nat):HO:=amM N (Vs N) (aes N) (DI N) (Pl N)
abbrev GL:=Bool->LI->Bool->LI->Bool->Bool->Bool->LI->Bool->LI->(Kx5)->Bool
def YZ (N:Nat) (avd:vB) (aye:GR) (at8:vC) (aup:wE) (aun:ti) (avo:vA) (axW:HO) (asJ:mQ) (avZ:yx) (x_0:Bool) (x_1:LI) (x_2:Bool) (x_3:LI) (b b_1 b_2:Bool) (b_3:LI) (b_4:Bool) (b_5:LI) (k0:Kx5):Bool:=
 (avd x_0 x_1 x_2 x_3 (λnsr=>aye b_2 b_3 b_4 b_5 (λasj=>at8 nsr asj (λasy=>aup nsr asy (λast=>aup asj asy (λasp=>aun x_1 asp (λaso=>avo x_0 aso false (λcr=>aun b_3 ast (λs6=>axW b_2 s6 cr aso (λasD s7=>at8 s7 asy (λs8=>aup s7 s8 (λs9=>asJ s9 (λs10=>aup asj s8 (λs11=>aun ast s11 (λs12=>avZ asD s10 s12 b b_1 (λatH aus=>k0 atH s10 aus s12))))))))))))))))
def UW (N:Nat):GL:=YZ N (Pu N) (U0 N) (Mp N) (Jm N) (FN N) (Mo N) (aet N) (Gj N) (RQ N)
abbrev G6:=Bool->LI->Bool->LI->Bool->LI->Bool->LI->Bool->Bool->(Kx5)->Bool
def Zk (N:Nat) (ayl:GY) (ax9:GL) (x_0:Bool) (x_1:LI) (x_2:Bool) (x_3:LI) (y_0:Bool) (y_1:LI) (y_2:Bool) (y_3:LI) (b b_1:Bool) (k0:Kx5):Bool:=
 (ayl y_0 y_1 y_2 y_3 false false (λcr nsr asD asj=>ax9 x_0 x_1 x_2 x_3 b b_1 cr nsr asD asj (λatH asy aus ast=>k0 atH asy aus ast)))
def ad9 (N:Nat):G6:=Zk N (U5 N) (UW N)
abbrev bf:=Bool->LI->Bool->LI->Bool->LI->Bool->LI->(Kx5)->Bool
def jE (N:Nat) (ays:G6) (x_0:Bool) (x_1:LI) (x_2:Bool) (x_3:LI) (y_0:Bool) (y_1:LI) (y_2:Bool) (y_3:LI) (k0:Kx5):Bool:=
 (ays x_0 x_1 x_2 x_3 y_0 y_1 y_2 y_3 false false (λcr nsr asD asj=>k0 cr nsr asD asj))
def bI (N:Nat):bf:=jE N (ad9 N)
abbrev He:=Bool->LI->Bool->LI->(Kz0)->Bool
def Zy (N:Nat) (x_0:Bool) (x_1:LI) (x_2:Bool) (x_3:LI) (k0:Kz0):Bool:=
 (cond x_0 (k0 (-1)) (cond (((x_1.length:Nat):Int)==0) (k0 0) (k0 1)))
def aed (N:Nat):He:=Zy N
abbrev Hf:=Bool->LI->Bool->LI->(Kz0)->Bool
def Zz (N:Nat) (ayA:He) (x_0:Bool) (x_1:LI) (x_2:Bool) (x_3:LI) (k0:Kz0):Bool:=
 (ayA x_0 x_1 x_2 x_3 (λnr=>k0 nr))
def aee (N:Nat):Hf:=Zz N (aed N)
abbrev bg:=Bool->LI->Bool->LI->(Kz0)->Bool
def jH (N:Nat) (ayB:Hf) (x_0:Bool) (x_1:LI) (x_2:Bool) (x_3:LI) (k0:Kz0):Bool:=
 (ayB x_0 x_1 x_2 x_3 (λnr=>k0 nr))
def bJ (N:Nat):bg:=jH N (aee N)
abbrev cI:=Int->Int->List RY1->(Bool)->Bool
section
variable (N:Nat) (arW:aO) (ar0:bf) (arY:bg) (ar2:aY)
def cz (N:Nat) (arW:aO) (ar0:bf) (arY:bg) (ar2:aY) (i aAq axy t9:Int) (ave:List RY1) (g_3 g_4:Int) (e0:Bool):(Int)->((Int)->Bool)->Bool:=λv_ K=>match v_ with
 | t10=>(cond (decide (t10<t9)) (arW g_3 g_4 i t10 ave (λcr nsr asD asj=>arW g_3 g_4 t10 i ave (λatH asy aus ast=>ar0 cr nsr asD asj atH asy aus ast (λav9 asp ay_ aso=>arY av9 asp ay_ aso (λnr=>ar2 (nr==0) 112 (aj .i64 (t10+1)&&K (t10+1))))))) e0)
def cw (t5:Int) (b0:List RY1) (g g_2:Int) (e0:Bool):(Int)->((Int)->Bool)->Bool:=λv_ K=>match v_ with
 | t6=>(cond (decide (t6<t5)) (ah N (cz N arW ar0 arY ar2 t6 t5 t6 t6 b0 g g_2 (aj .i64 (t6+1)&&K (t6+1))) 0) e0)
def eg (g_0 g_1:Int) (b:List RY1) (k0:Bool):Bool:=
 (ah N (cw N arW ar0 arY ar2 g_0 b g_0 g_1 k0) 0)
end
def ep (N:Nat):cI:=eg N (bC N) (bI N) (bJ N) (cP N)
abbrev Hm:=Int->Int->(Kx5)->Bool
def ZJ (N:Nat) (atQ:wC) (au3:CK) (a b:Int) (k0:Kx5):Bool:=
 (atQ a (λcr nsr=>atQ b (λasD asj=>au3 false false cr nsr asD asj (λatH asy aus ast=>k0 atH asy aus ast))))
def aej (N:Nat):Hm:=ZJ N (FO N) (Pr N)
abbrev gZ:=Int->(Kx5)->Bool
def pM (N:Nat) (ayG:Hm) (n:Int) (k0:Kx5):Bool:=
 (ayG n 1 (λcr nsr asD asj=>k0 cr nsr asD asj))
def gw (N:Nat):gZ:=pM N (aej N)
abbrev HK:=Bool->LI->LI->LI->LI->Bool->Bool->(Kx5)->Bool
def amH (N:Nat) (at8:vC) (aup:wE) (aun:ti) (avZ:yx) (neg:Bool) (a b c d:LI) (b_1 b_2:Bool) (k0:Kx5):Bool:=
 (at8 a d (λnsr=>at8 c b (λasj=>aup a nsr (λasy=>aup c asj (λast=>aun asy ast (λasp=>aup b asj (λaso=>aup d nsr (λs6=>aun aso s6 (λs7=>avZ neg asp s7 b_1 b_2 (λcr asD=>k0 cr asp asD s7))))))))))
def aer (N:Nat):HK:=amH N (Mp N) (Jm N) (FN N) (RQ N)
abbrev G5:=Bool->LI->Bool->LI->Bool->LI->Bool->LI->Bool->Bool->(Kx5)->Bool
def Zj (N:Nat) (avd:vB) (axV:HK) (x_0:Bool) (x_1:LI) (x_2:Bool) (x_3:LI) (y_0:Bool) (y_1:LI) (y_2:Bool) (y_3:LI) (b b_1:Bool) (k0:Kx5):Bool:=
 (avd x_0 x_1 x_2 x_3 (λnsr=>avd y_0 y_1 y_2 y_3 (λasj=>axV (x_0 != y_0) x_1 nsr asj y_1 b b_1 (λcr asy asD ast=>k0 cr asy asD ast))))
def ad8 (N:Nat):G5:=Zj N (Pu N) (aer N)
abbrev cW:=Bool->LI->Bool->LI->Bool->LI->Bool->LI->(Kx5)->Bool
def jF (N:Nat) (ayr:G5) (x_0:Bool) (x_1:LI) (x_2:Bool) (x_3:LI) (y_0:Bool) (y_1:LI) (y_2:Bool) (y_3:LI) (k0:Kx5):Bool:=
 (ayr x_0 x_1 x_2 x_3 y_0 y_1 y_2 y_3 false false (λcr nsr asD asj=>k0 cr nsr asD asj))
def cA (N:Nat):cW:=jF N (ad8 N)
abbrev G4:=Bool->LI->Bool->LI->Bool->LI->Bool->LI->Bool->Bool->(Kx5)->Bool
def Zi (N:Nat) (avd:vB) (axV:HK) (x_0:Bool) (x_1:LI) (x_2:Bool) (x_3:LI) (y_0:Bool) (y_1:LI) (y_2:Bool) (y_3:LI) (b b_1:Bool) (k0:Kx5):Bool:=
 (avd x_0 x_1 x_2 x_3 (λnsr=>avd y_0 y_1 y_2 y_3 (λasj=>axV (x_0 != y_0) x_1 nsr y_1 asj b b_1 (λcr asy asD ast=>k0 cr asy asD ast))))
def ad7 (N:Nat):G4:=Zi N (Pu N) (aer N)
abbrev cJ:=Bool->LI->Bool->LI->Bool->LI->Bool->LI->(Kx5)->Bool
def ja (N:Nat) (ayq:G4) (x_0:Bool) (x_1:LI) (x_2:Bool) (x_3:LI) (y_0:Bool) (y_1:LI) (y_2:Bool) (y_3:LI) (k0:Kx5):Bool:=
 (ayq x_0 x_1 x_2 x_3 y_0 y_1 y_2 y_3 false false (λcr nsr asD asj=>k0 cr nsr asD asj))
def gk (N:Nat):cJ:=ja N (ad7 N)
abbrev GW:=Bool->LI->Bool->LI->Bool->LI->Bool->LI->Bool->Bool->(Kx5)->Bool
def TW (N:Nat) (avd:vB) (at8:vC) (aup:wE) (aun:ti) (avo:vA) (axW:HO) (asJ:mQ) (avZ:yx) (x_0:Bool) (x_1:LI) (x_2:Bool) (x_3:LI) (y_0:Bool) (y_1:LI) (y_2:Bool) (y_3:LI) (b b_1:Bool) (k0:Kx5):Bool:=
 (avd x_0 x_1 x_2 x_3 (λnsr=>avd y_0 y_1 y_2 y_3 (λasj=>at8 nsr asj (λasy=>aup nsr asy (λast=>aup asj asy (λasp=>aun x_1 asp (λaso=>avo x_0 aso false (λcr=>aun y_1 ast (λs6=>axW y_0 s6 cr aso (λasD s7=>at8 s7 asy (λs8=>aup s7 s8 (λs9=>asJ s9 (λs10=>aup asj s8 (λs11=>aun ast s11 (λs12=>avZ asD s10 s12 b b_1 (λatH aus=>k0 atH s10 aus s12))))))))))))))))
def Pf (N:Nat):GW:=TW N (Pu N) (Mp N) (Jm N) (FN N) (Mo N) (aet N) (Gj N) (RQ N)
abbrev cX:=Bool->LI->Bool->LI->Bool->LI->Bool->LI->(Kx5)->Bool
def jG (N:Nat) (ayj:GW) (x_0:Bool) (x_1:LI) (x_2:Bool) (x_3:LI) (y_0:Bool) (y_1:LI) (y_2:Bool) (y_3:LI) (k0:Kx5):Bool:=
 (ayj x_0 x_1 x_2 x_3 y_0 y_1 y_2 y_3 false false (λcr nsr asD asj=>k0 cr nsr asD asj))
def gJ (N:Nat):cX:=jG N (Pf N)
abbrev dw:=Int->Int->Int->Int->Bool->LI->Bool->LI->List RY1->(List RY1->Bool)->Bool
def j_ (N:Nat) (g_0 g_1 i j:Int) (x_0:Bool) (x_1:LI) (x_2:Bool) (x_3:LI) (b:List RY1) (k0:List RY1->Bool):Bool:=
 (aj .i64 (i*g_1)&&(aj .i64 ((i*g_1)+j)&&(inR ((i*g_1)+j) b.length&&(decide ((Int.toNat ((i*g_1)+j))<b.length)&&k0 (b.set (Int.toNat ((i*g_1)+j)) ((x_0,x_1),(x_2,x_3)))))))
def hK (N:Nat):dw:=j_ N
abbrev du:=Int->Int->Int->Int->Bool->LI->Bool->LI->List RY1->(List RY1->Bool)->Bool
def dS (N:Nat) (arW:aO) (ar_:cJ) (asa:cX) (asb:dw) (i_1 axu t10 g g_2:Int) (x:Bool) (x_4:LI) (x_5:Bool) (x_6:LI) (e0:List RY1->Bool):(Int × List RY1)->((Int × List RY1)->Bool)->Bool:=λv_ K=>match v_ with
 | (t11,b0)=>(cond (decide (t11<t10)) (arW g g_2 i_1 t11 b0 (λcr nsr asD asj=>arW g g_2 axu t11 b0 (λatH asy aus ast=>ar_ atH asy aus ast x x_4 x_5 x_6 (λav9 asp ay_ aso=>asa cr nsr asD asj av9 asp ay_ aso (λazS s6 azT s7=>asb g g_2 i_1 t11 azS s6 azT s7 b0 (λ(lr:List RY1)=>aj .i64 (t11+1)&&K ((t11+1),lr))))))) (e0 b0))
def gY (N:Nat) (arW:aO) (ar_:cJ) (asa:cX) (asb:dw) (g_0 g_1 i k_:Int) (x_0:Bool) (x_1:LI) (x_2:Bool) (x_3:LI) (b:List RY1) (k0:List RY1->Bool):Bool:=
 (ah N (dS N arW ar_ asa asb i k_ g_1 g_0 g_1 x_0 x_1 x_2 x_3 (λ(ave:List RY1)=>k0 ave)) (0,b))
def cK (N:Nat):du:=gY N (bC N) (gk N) (gJ N) (hK N)
abbrev cR:=Int->Int->List RY1->(Int->List RY1->Bool)->Bool
section
variable (N:Nat) (arW:aO) (arY:bg) (asc:gZ) (ar7:cW) (ar0:bf) (ar8:du)
def aF (N:Nat) (arW:aO) (arY:bg) (asc:gZ) (ar7:cW) (ar0:bf) (ar8:du) (s_1 k_ aAs avg g_3 g_4:Int) (p:Bool) (p_1:LI) (p_2:Bool) (p_3:LI) (e0:Int->List RY1->Bool) (e1:List RY1->Bool):(Int × List RY1)->((Int × List RY1)->Bool)->Bool:=λv_ K=>match v_ with
 | (i,ave)=>(cond (decide (i<g_3)) (arW g_3 g_4 i k_ ave (λatH asy aus ast=>arY atH asy aus ast (λask=>cond (ask==0) (aj .i64 (i+1)&&K ((i+1),ave)) (arY p p_1 p_2 p_3 (λasl=>cond (asl==0) (e0 1 ave) (asc 0 (λav9 asp ay_ aso=>ar7 atH asy aus ast p p_1 p_2 p_3 (λazS s6 azT s7=>ar0 av9 asp ay_ aso azS s6 azT s7 (λc8 s8 c9 s9=>ar8 g_3 g_4 i k_ c8 s8 c9 s9 ave (λ(lr:List RY1)=>aj .i64 (i+1)&&K ((i+1),lr))))))))))) (e1 ave))
def aV (t9 g g_2:Int) (e0:Int->List RY1->Bool) (e1:Int->List RY1->Bool):(Int × Int × List RY1)->((Int × Int × List RY1)->Bool)->Bool:=λv_ K=>match v_ with
 | (s,t10,b0)=>(cond (decide (t10<t9)) (arW g g_2 t10 t10 b0 (λcr nsr asD asj=>arY cr nsr asD asj (λnr=>cond (decide (nr<0)) (e0 1 b0) (aj .i64 (t10+1)&&ah N (aF N arW arY asc ar7 ar0 ar8 s t10 t9 t10 g g_2 cr nsr asD asj (λ(t2:Int) (aEz:List RY1)=>e0 t2 aEz) (λ(aCV:List RY1)=>arY cr nsr asD asj (λatd=>cond (atd==0) (aj .i64 (t10+1)&&K (2,(t10+1),aCV)) (aj .i64 (t10+1)&&K (s,(t10+1),aCV))))) ((t10+1),b0))))) (e1 s b0))
def eK (g_0 g_1:Int) (b:List RY1) (k0:Int->List RY1->Bool):Bool:=
 (ah N (aV N arW arY asc ar7 ar0 ar8 g_0 g_0 g_1 (λ(axj:Int) (aEA:List RY1)=>k0 axj aEA) (λ(s_2:Int) (aEB:List RY1)=>k0 s_2 aEB)) (3,0,b))
end
def ik (N:Nat):cR:=eK N (bC N) (bJ N) (gw N) (cA N) (bI N) (cK N)
abbrev cV:=Int->Int->List RY1->(Int->List RY1->Bool)->Bool
def jD (N:Nat) (ar2:aY) (asA:cI) (asE:cR) (g_0 g_1:Int) (b:List RY1) (k0:Int->List RY1->Bool):Bool:=
 (ar2 (g_0==g_1) 3 (asA g_0 g_1 b (asE g_0 g_1 b (λ(nr:Int) (lr:List RY1)=>k0 nr lr))))
def gI (N:Nat):cV:=jD N (cP N) (ep N) (ik N)
abbrev im:=Int->Int->LF->(Ky2)->Bool
def ky (N:Nat) (asI:eZ) (asr:cV) (m_0 m_1:Int) (m_2:LF) (k0:Ky2):Bool:=
 (asI m_0 m_1 m_2 (λ(lr:List RY1)=>asr m_0 m_1 lr (λ(nr:Int) (aEn:List RY1)=>k0 nr 0)))
def kM (N:Nat):im:=ky N (jY N) (gI N)
abbrev eX:=Int->Int->LF->(Ky9)->Bool
def ou (N:Nat) (atp:im) (p_0 p_1:Int) (p_2:LF) (k0:Ky9):Bool:=
 (atp p_0 p_1 p_2 (λnr ask=>cond ((ask==0)==true) (k0 (nr==3)) (k0 false)))
def jt (N:Nat):eX:=ou N (kM N)
abbrev bX:=LF->Int->Int->LF->(Kz0)->Bool
def tg (N:Nat) (att:vz) (as2:rT) (az6:Nq) (asM:eX) (s_0:LF) (s_1 s_2:Int) (s_3:LF) (k0:Kz0):Bool:=
 (att s_1 s_2 s_3 (λnr=>cond (nr != 0) (k0 nr) (cond ((s_1 != s_2)==false) (cond (((s_0.length:Nat):Int) != s_1) (k0 3) (as2 s_0 (λcr=>cond (!cr) (k0 4) (az6 s_1 s_2 s_3 (λasD=>cond (!asD) (k0 150) (asM s_1 s_2 s_3 (λatH=>cond (!atH) (k0 151) (k0 0)))))))) (k0 3))))
def gR (N:Nat):bX:=tg N (RL N) (RM N) (aju N) (jt N)
abbrev Hj:=Bool->Int->(Kz0)->Bool
def ZE (N:Nat) (is:Bool) (e:Int) (k0:Kz0):Bool:=
 (cond is (k0 e) (k0 0))
def aeh (N:Nat):Hj:=ZE N
abbrev Hb:=LI->(Kz0)->Bool
def uV (N:Nat) (t5:LI) (t6:Int) (e0:Kz0) (e1:Bool):(Int)->((Int)->Bool)->Bool:=λv_ K=>match v_ with
 | t7=>(cond (decide (t7<t6)) (inR t7 t5.length&&cond ((t5.getD t7.toNat 0) != 0) (e0 (t5.getD t7.toNat 0)) (aj .i64 (t7+1)&&K (t7+1))) e1)
def Zv (N:Nat) (l:LI) (k0:Kz0):Bool:=
 (ah N (uV N l ((l.length:Nat):Int) (λt2=>k0 t2) (k0 0)) 0)
def aec (N:Nat):Hb:=Zv N
abbrev D_:=Int->Int->LF->(Kz0)->Bool
def Za (N:Nat) (att:vz) (ayE:Hj) (ayy:Hb) (m_0 m_1:Int) (m_2:LF) (k0:Kz0):Bool:=
 (att m_0 m_1 m_2 (λnr=>ayE (m_0 != m_1) 3 (λask=>ayy [nr,ask] (λasl=>k0 asl))))
def ad4 (N:Nat):D_:=Za N (RL N) (aeh N) (aec N)
abbrev D9:=Fl->(Ky7)->Bool
def Y_ (N:Nat) (x:Fl) (k0:Ky7):Bool:=
 (cond (!feq (qD x x) (some 0)) (k0 (some 0) 5) (k0 x 0))
def ad3 (N:Nat):D9:=Y_ N
abbrev Ha:=Int->Int->LF->(Ky7)->Bool
def MM (N:Nat) (au8:D_) (as8:wB) (au7:D9) (t13 m m_3:Int) (m_4:LF) (e0:Kz2):(Fl × Int)->((Fl × Int)->Bool)->Bool:=λv_ K=>match v_ with
 | (s,t14)=>(cond (decide (t14<t13)) (as8 m m_3 m_4 t14 t14 (λxr=>aj .i64 (t14+1)&&K ((nZ s xr),(t14+1)))) (e0 s))
def T0 (N:Nat) (au8:D_) (as8:wB) (au7:D9) (m_0 m_1:Int) (m_2:LF) (k0:Ky7):Bool:=
 (au8 m_0 m_1 m_2 (λnr=>cond (nr != 0) (k0 (some 0) nr) (ah N (MM N au8 as8 au7 m_0 m_0 m_1 m_2 (λs_1=>au7 s_1 (λavf ask=>k0 avf ask))) ((some 0),0))))
def aeb (N:Nat):Ha:=T0 N (ad4 N) (Pb N) (ad3 N)
abbrev jb:=LF->Int->Int->LF->(Ky7)->Bool
def th (N:Nat) (asd:bX) (ayx:Ha) (s_0:LF) (s_1 s_2:Int) (s_3:LF) (k0:Ky7):Bool:=
 (asd s_0 s_1 s_2 s_3 (λnr=>cond (nr != 0) (k0 (some 0) nr) (ayx s_1 s_2 s_3 (λxr ask=>k0 xr ask))))
def oY (N:Nat):jb:=th N (gR N) (aeb N)
abbrev Hr:=Int->Int->Int->(Kz0)->Bool
def ZM (N:Nat) (rows cols n:Int) (k0:Kz0):Bool:=
 (cond ((decide (rows<0))==false) (cond ((decide (rows>12))==false) (cond ((decide (cols<0))==false) (cond (decide (cols>12)) (k0 1) (aj .i64 (rows*cols)&&cond (n != (rows*cols)) (k0 3) (k0 0))) (k0 1)) (k0 1)) (k0 1))
def Vm (N:Nat):Hr:=ZM N
abbrev BK:=Fl->(Kz0)->Bool
def ZI (N:Nat) (avn:wH) (x:Fl) (k0:Kz0):Bool:=
 (cond (!feq x x) (k0 9221120237041090561) (avn x (λnr=>k0 nr)))
def Pn (N:Nat):BK:=ZI N (Lj N)
abbrev wD:=Fl->(Kx7)->Bool
def Zq (N:Nat) (awe:BK) (x:Fl) (k0:Kx7):Bool:=
 (awe x (λnr=>aj .i64 (Int.tmod (Int.fdiv nr (2 ^ 52)) 2048)&&k0 ((Int.fdiv nr (2 ^ 63))==1) (Int.tmod (Int.fdiv nr (2 ^ 52)) 2048) (Int.tmod nr 4503599627370496)))
def Li (N:Nat):wD:=Zq N (Pn N)
abbrev Hg:=Int->Int->Int->(Kz0)->Bool
def ZA (N:Nat) (exp frac most:Int) (k0:Kz0):Bool:=
 (cond ((exp==most)==true) (cond (frac != 0) (k0 1) (cond (exp==most) (k0 2) (cond ((exp==0)==true) (cond (frac==0) (k0 3) (cond (exp==0) (k0 4) (k0 5))) (cond (exp==0) (k0 4) (k0 5))))) (cond (exp==most) (k0 2) (cond ((exp==0)==true) (cond (frac==0) (k0 3) (cond (exp==0) (k0 4) (k0 5))) (cond (exp==0) (k0 4) (k0 5)))))
def aef (N:Nat):Hg:=ZA N
abbrev Hq:=Fl->(Kz0)->Bool
def ZL (N:Nat) (atR:wD) (ayC:Hg) (x:Fl) (k0:Kz0):Bool:=
 (atR x (λcr nr ask=>ayC nr ask 2047 (λasl=>k0 asl)))
def Vl (N:Nat):Hq:=ZL N (Li N) (aef N)
abbrev E_:=Fl->(Ky9)->Bool
def amk (N:Nat) (ayK:Hq) (x:Fl) (k0:Ky9):Bool:=
 (ayK x (λnr=>k0 (decide (nr>2))))
def aei (N:Nat):E_:=amk N (Vl N)
abbrev Bn:=LF->(Ky9)->Bool
def MH (N:Nat) (avA:E_) (t5:LF) (t6:Int) (e0:Ky9) (e1:Bool):(Int)->((Int)->Bool)->Bool:=λv_ K=>match v_ with
 | t7=>(cond (decide (t7<t6)) (inR t7 t5.length&&avA (t5.getD t7.toNat none) (λcr=>cond (!cr) (e0 false) (aj .i64 (t7+1)&&K (t7+1)))) e1)
def TO (N:Nat) (avA:E_) (l:LF) (k0:Ky9):Bool:=
 (ah N (MH N avA l ((l.length:Nat):Int) (λt2=>k0 t2) (k0 true)) 0)
def O_ (N:Nat):Bn:=TO N (aei N)
abbrev yr:=Int->Int->LF->(Kz0)->Bool
def Zo (N:Nat) (ayL:Hr) (awn:Bn) (m_0 m_1:Int) (m_2:LF) (k0:Kz0):Bool:=
 (ayL m_0 m_1 ((m_2.length:Nat):Int) (λnr=>cond (nr != 0) (k0 nr) (awn m_2 (λcr=>cond (!cr) (k0 4) (k0 0)))))
def Pj (N:Nat):yr:=Zo N (Vm N) (O_ N)
abbrev Hn:=Int->Int->LF->(Kz0)->Bool
def ZK (N:Nat) (atN:yr) (m_0 m_1:Int) (m_2:LF) (k0:Kz0):Bool:=
 (atN m_0 m_1 m_2 (λnr=>k0 nr))
def aek (N:Nat):Hn:=ZK N (Pj N)
abbrev CQ:=Int->Int->LF->Int->Int->(Kz2)->Bool
def amB (N:Nat) (m_0 m_1:Int) (m_2:LF) (i j:Int) (k0:Kz2):Bool:=
 (aj .i64 (i*m_1)&&(aj .i64 ((i*m_1)+j)&&(inR ((i*m_1)+j) m_2.length&&k0 (m_2.getD (Int.toNat ((i*m_1)+j)) none))))
def aep (N:Nat):CQ:=amB N
abbrev Ec:=Fl->Fl->(Ky9)->Bool
def Zw (N:Nat) (awe:BK) (a b:Fl) (k0:Ky9):Bool:=
 (awe a (λnr=>awe b (λask=>k0 (nr==ask))))
def Vc (N:Nat):Ec:=Zw N (Pn N)
abbrev Np:=Int->Int->LF->(Kz0)->Bool
section
variable (N:Nat) (atN:yr) (at1:CQ) (aub:Ec)
def MJ (N:Nat) (atN:yr) (at1:CQ) (aub:Ec) (i_1 m_5 m_6:Int) (m_7:LF) (e0:Kz0) (e1:Bool):(Int)->((Int)->Bool)->Bool:=λv_ K=>match v_ with
 | j=>(cond (decide (j<i_1)) (at1 m_5 m_6 m_7 i_1 j (λxr=>at1 m_5 m_6 m_7 j i_1 (λavf=>aub xr avf (λcr=>cond (!cr) (e0 91) (aj .i64 (j+1)&&K (j+1)))))) e1)
def MI (m m_3:Int) (m_4:LF) (e0:Kz0) (e1:Bool):(Int)->((Int)->Bool)->Bool:=λv_ K=>match v_ with
 | i=>(cond (decide (i<m)) (ah N (MJ N atN at1 aub i m m_3 m_4 (λt2=>e0 t2) (aj .i64 (i+1)&&K (i+1))) 0) e1)
def ahk (m_0 m_1:Int) (m_2:LF) (k0:Kz0):Bool:=
 (atN m_0 m_1 m_2 (λnr=>cond (nr != 0) (k0 nr) (cond (m_0 != m_1) (k0 3) (ah N (MI N atN at1 aub m_0 m_1 m_2 (λaxj=>k0 axj) (k0 0)) 0))))
end
def ajr (N:Nat):Np:=ahk N (Pj N) (aep N) (Vc N)
abbrev Hu:=LF->Int->Int->LF->(Kz0)->Bool
def ZO (N:Nat) (ayH:Hn) (awn:Bn) (az5:Np) (s_0:LF) (s_1 s_2:Int) (s_3:LF) (k0:Kz0):Bool:=
 (ayH s_1 s_2 s_3 (λnr=>cond (nr != 0) (k0 nr) (cond ((s_1 != s_2)==false) (cond (((s_0.length:Nat):Int) != s_1) (k0 3) (awn s_0 (λcr=>cond (!cr) (k0 4) (az5 s_1 s_2 s_3 (λask=>cond (ask != 0) (k0 150) (k0 0)))))) (k0 3))))
def aem (N:Nat):Hu:=ZO N (aek N) (O_ N) (ajr N)
abbrev BL:=Int->Int->(Ky2)->Bool
def pd (N:Nat) (e0:Ky2):(Int × Int)->((Int × Int)->Bool)->Bool:=λv_ K=>match v_ with
 | (m_1,e_1)=>(cond ((Int.tmod m_1 2)==0) (aj .i64 (e_1+1)&&K ((IntKind.wrap .u64 (Int.tdiv m_1 2)),(e_1+1))) (e0 m_1 e_1))
def Nb (N:Nat) (m e:Int) (k0:Ky2):Bool:=
 (cond (m==0) (k0 0 0) (ah N (pd N (λm_2 e_2=>k0 m_2 e_2)) (m,e)))
def Jo (N:Nat):BL:=Nb N
abbrev Ho:=Fl->(Kx4)->Bool
def Nl (N:Nat) (atR:wD) (auj:BL) (x:Fl) (neg:Bool) (e f:Int) (k0:Kx4):Bool:=
 (aj .i64 (e - 1074)&&auj f (e - 1074) (λasl atd=>k0 neg asl atd 0))
def Kr (N:Nat) (atR:wD) (auj:BL) (x:Fl) (k0:Kx4):Bool:=
 (atR x (λcr nr ask=>cond (nr==2047) (k0 false 0 0 4) (cond (decide (nr>0)) (aj .i64 (nr - 1)&&Nl N atR auj x cr (nr - 1) (IntKind.wrap .u64 (ask+4503599627370496)) k0) (Nl N atR auj x cr nr ask k0))))
def Vj (N:Nat):Ho:=Kr N (Li N) (Jo N)
abbrev jN:=LI->(Kz1)->Bool
def Cu (N m_1:Nat) (m_3:LI) (e0:Kz1):(Nat)->((Nat)->Bool)->Bool:=λv_ K=>match v_ with
 | m_2=>(cond ((decide (((m_2:Nat):Int)>0))==true) (aj .i64 (((m_2:Nat):Int) - 1)&&(inR (((m_2:Nat):Int) - 1) m_2&&(decide ((m_1+(Int.toNat (((m_2:Nat):Int) - 1)))<m_3.length)&&cond ((m_3.getD (m_1+(Int.toNat (((m_2:Nat):Int) - 1))) 0)==0) (aj .i64 (((m_2:Nat):Int) - 1)&&(decide (0<=(((m_2:Nat):Int) - 1)/\(((m_2:Nat):Int) - 1)<=((m_2:Nat):Int))&&K ((Int.toNat (((m_2:Nat):Int) - 1)) - 0))) (e0 m_2)))) (e0 m_2))
def GQ7 (N:Nat) (b:LI) (k0:Kz1):Bool:=
 (ah N (Cu N 0 b (λm_4=>k0 m_4)) b.length)
def sQ7 (N:Nat):jN:=GQ7 N
abbrev tm:=Int->(Kz4)->Bool
def Zd (N:Nat) (SQ7:jN) (n:Int) (k0:Kz4):Bool:=
 (SQ7 [(IntKind.wrap .u32 n),(IntKind.wrap .u32 (Int.fdiv n (2 ^ 32)))] (λmr=>decide ((0+mr)<=(List.length [(IntKind.wrap .u32 n),(IntKind.wrap .u32 (Int.fdiv n (2 ^ 32)))]))&&k0 (List.take mr (List.drop 0 [(IntKind.wrap .u32 n),(IntKind.wrap .u32 (Int.fdiv n (2 ^ 32)))]))))
def Lh (N:Nat):tm:=Zd N (sQ7 N)
abbrev tn:=LI->(Kz4)->Bool
def kU (N:Nat) (e0:Kz4):(LI)->((LI)->Bool)->Bool:=λv_ K=>match v_ with
 | m_1=>(cond ((decide (((m_1.length:Nat):Int)>0))==true) (aj .i64 (((m_1.length:Nat):Int) - 1)&&(inR (((m_1.length:Nat):Int) - 1) m_1.length&&cond ((m_1.getD (Int.toNat (((m_1.length:Nat):Int) - 1)) 0)==0) (aj .i64 (((m_1.length:Nat):Int) - 1)&&(decide (0<=(((m_1.length:Nat):Int) - 1)/\(((m_1.length:Nat):Int) - 1)<=((m_1.length:Nat):Int))&&K (List.drop 0 (List.take (Int.toNat (((m_1.length:Nat):Int) - 1)) m_1)))) (e0 m_1))) (e0 m_1))
def T2 (N:Nat) (m:LI) (k0:Kz4):Bool:=
 (ah N (kU N (λm_2=>k0 m_2)) m)
def FP (N:Nat):tn:=T2 N
abbrev pP:=Bool->LI->Bool->(Ky1)->Bool
def YX (N:Nat) (auX:tn) (neg:Bool) (m:LI) (b:Bool) (k0:Ky1):Bool:=
 (auX m (λnsr=>cond (neg==true) (k0 (decide (((nsr.length:Nat):Int)>0)) nsr) (k0 false nsr)))
def Jj (N:Nat):pP:=YX N (FP N)
abbrev GX:=Int->Bool->(Ky1)->Bool
def Zc (N:Nat) (atC:tm) (atq:pP) (n:Int) (b:Bool) (k0:Ky1):Bool:=
 (atC n (λnsr=>atq false nsr b (λcr asj=>k0 cr asj)))
def Ph (N:Nat):GX:=Zc N (Lh N) (Jj N)
abbrev Hh:=Bool->Bool->LI->LI->(Kx8)->Bool
def ZB (N:Nat) (SQ7:jN) (neg b:Bool) (b_1 b_2:LI) (k0:Kx8):Bool:=
 (SQ7 b_2 (λmr=>cond (neg==true) (k0 (decide (((mr:Nat):Int)>0)) 0 mr) (k0 false 0 mr)))
def aeg (N:Nat):Hh:=ZB N (sQ7 N)
abbrev Hc:=Bool->LI->(Ky1)->Bool
def Zx (N:Nat) (ayD:Hh) (b:Bool) (b_1:LI) (k0:Ky1):Bool:=
 (decide ((List.length ([]++b_1))*4<=140737488355328)&&ayD (!b) b b_1 ([]++b_1) (λcr mr auL=>decide ((mr+auL)<=(List.length ([]++b_1)))&&k0 cr (List.take auL (List.drop mr ([]++b_1)))))
def Vd (N:Nat):Hc:=Zx N (aeg N)
abbrev HC:=Fl->(Int->Bool->LI->Bool)->Bool
def ZT (N:Nat) (ayI:Ho) (ayk:GX) (ayz:Hc) (x:Fl) (k0:Int->Bool->LI->Bool):Bool:=
 (ayI x (λcr nr ask asl=>ayk nr false (λasD nsr=>cond cr (ayz asD nsr (λatH asj=>k0 ask atH asj)) (k0 ask asD nsr))))
def Vu (N:Nat):HC:=ZT N (Vj N) (Ph N) (Vd N)
abbrev Hx:=LI->Int->(Kz4)->Bool
def Cw (N:Nat) (SQ7:jN) (m_1:LI) (w s:Int) (e0:Kz4):(Int × LI)->((Int × LI)->Bool)->Bool:=λv_ K=>match v_ with
 | (i,out)=>(cond (decide (i<((m_1.length:Nat):Int))) (inR i m_1.length&&(decide (0<=s)&&(aj .i64 (w+i)&&(inR (w+i) out.length&&(decide ((Int.toNat (w+i))<out.length)&&(inR (w+i) out.length&&(decide ((Int.toNat (w+i))<out.length)&&(aj .i64 (w+i)&&(aj .i64 ((w+i)+1)&&(inR ((w+i)+1) (List.length (out.set (Int.toNat (w+i)) (aH .or .u32 (out.getD (Int.toNat (w+i)) 0) (IntKind.wrap .u32 (IntKind.wrap .u64 ((IntKind.wrap .u64 (m_1.getD i.toNat 0))*2 ^ (min s.toNat 64)))))))&&(decide ((Int.toNat ((w+i)+1))<(List.length (out.set (Int.toNat (w+i)) (aH .or .u32 (out.getD (Int.toNat (w+i)) 0) (IntKind.wrap .u32 (IntKind.wrap .u64 ((IntKind.wrap .u64 (m_1.getD i.toNat 0))*2 ^ (min s.toNat 64))))))))&&(aj .i64 (i+1)&&K ((i+1),(List.set (out.set (Int.toNat (w+i)) (aH .or .u32 (out.getD (Int.toNat (w+i)) 0) (IntKind.wrap .u32 (IntKind.wrap .u64 ((IntKind.wrap .u64 (m_1.getD i.toNat 0))*2 ^ (min s.toNat 64)))))) (Int.toNat ((w+i)+1)) (IntKind.wrap .u32 (Int.fdiv (IntKind.wrap .u64 ((IntKind.wrap .u64 (m_1.getD i.toNat 0))*2 ^ (min s.toNat 64))) (2 ^ 32))))))))))))))))) (e0 out))
def T9 (N:Nat) (SQ7:jN) (m:LI) (n:Int) (k0:Kz4):Bool:=
 (cond (((m.length:Nat):Int)==0) (k0 []) (aj .i64 (IntKind.wrap .u64 (Int.tdiv n 32))&&(aj .i64 ((IntKind.wrap .u64 (Int.tdiv n 32))+((m.length:Nat):Int))&&(aj .i64 (((IntKind.wrap .u64 (Int.tdiv n 32))+((m.length:Nat):Int))+1)&&(mF 4 (((IntKind.wrap .u64 (Int.tdiv n 32))+((m.length:Nat):Int))+1) (((IntKind.wrap .u64 (Int.tdiv n 32))+((m.length:Nat):Int))+1)&&ah N (Cw N SQ7 m (IntKind.wrap .u64 (Int.tdiv n 32)) (Int.tmod n 32) (λate=>SQ7 ate (λmr=>decide ((0+mr)<=ate.length)&&k0 (List.take mr (List.drop 0 ate))))) (0,(List.replicate (Int.toNat (((IntKind.wrap .u64 (Int.tdiv n 32))+((m.length:Nat):Int))+1)) (0:Int))))))))
def Vq (N:Nat):Hx:=T9 N (sQ7 N)
abbrev BA:=Int->Bool->Bool->LI->(Ky1)->Bool
def Zb (N:Nat) (ayP:Hx) (atq:pP) (n:Int) (b b_1:Bool) (b_2:LI) (k0:Ky1):Bool:=
 (ayP b_2 n (λnsr=>atq b_1 nsr b (λcr asj=>k0 cr asj)))
def Pe (N:Nat):BA:=Zb N (Vq N) (Jj N)
abbrev GN:=Int->Int->Bool->LI->(Bool)->(Ky1)->Bool
def Y2 (N:Nat) (awp:BA) (x e:Int) (b:Bool) (b_1:LI) (k0:Bool) (k1:Ky1):Bool:=
 (cond (decide (e>=x)) k0 (aj .i64 (x - e)&&awp (IntKind.wrap .u64 (x - e)) false b b_1 (λcr nsr=>k1 cr nsr)))
def UX (N:Nat):GN:=Y2 N (Pe N)
abbrev l7:=(Kz4)->Bool
def Na (N:Nat) (k0:Kz4):Bool:=
 (k0 [1])
def qX (N:Nat):l7:=Na N
abbrev Bv:=Bool->LI->Bool->Bool->(Bool->LI->LI->Bool)->Bool
def TS (N:Nat) (auX:tn) (neg:Bool) (m:LI) (b b_1:Bool) (k0:Bool->LI->LI->Bool):Bool:=
 (auX m (λnsr=>cond (neg==true) (k0 (decide (((nsr.length:Nat):Int)>0)) nsr []) (k0 false nsr [])))
def FM (N:Nat):Bv:=TS N (FP N)
abbrev yz:=Bool->LI->Bool->LI->Bool->LI->(Ky1)->Bool
def Wl (N:Nat) (auX:tn) (neg:Bool) (m:LI) (b:Bool) (b_1:LI) (b_2:Bool) (b_3:LI) (k0:Ky1):Bool:=
 (auX m (λnsr=>cond (neg==true) (k0 (decide (((nsr.length:Nat):Int)>0)) nsr) (k0 false nsr)))
def ES (N:Nat):yz:=Wl N (FP N)
abbrev Kw:=Int->(Kz0)->Bool
def ZW (N:Nat) (x:Int) (k0:Kz0):Bool:=
 (cond (x==0) (k0 32) (inR (Int.fdiv (IntKind.wrap .u32 ((aH .and .u32 x (IntKind.wrap .u32 (0 - x)))*125613361)) (2 ^ 27)) 32&&(aj .i64 (FU.getD (Int.toNat (Int.fdiv (IntKind.wrap .u32 ((aH .and .u32 x (IntKind.wrap .u32 (0 - x)))*125613361)) (2 ^ 27))) 0)&&k0 (FU.getD (Int.toNat (Int.fdiv (IntKind.wrap .u32 ((aH .and .u32 x (IntKind.wrap .u32 (0 - x)))*125613361)) (2 ^ 27))) 0))))
def ajs (N:Nat):Kw:=ZW N
abbrev yp:=Bool->LI->(Kz0)->Bool
def ME (N:Nat) (av7:Kw) (z:Bool) (z_1:LI) (e0:Kz0) (e1:Bool):(Int)->((Int)->Bool)->Bool:=λv_ K=>match v_ with
 | i=>(cond (decide (i<((z_1.length:Nat):Int))) (inR i z_1.length&&cond ((z_1.getD i.toNat 0) != 0) (aj .i64 (32*i)&&(inR i z_1.length&&av7 (z_1.getD i.toNat 0) (λnr=>aj .i64 ((32*i)+nr)&&e0 (IntKind.wrap .u64 ((32*i)+nr))))) (aj .i64 (i+1)&&K (i+1))) e1)
def aha (N:Nat) (av7:Kw) (b:Bool) (b_1:LI) (k0:Kz0):Bool:=
 (ah N (ME N av7 b b_1 (λt2=>k0 t2) (k0 0)) 0)
def DF (N:Nat):yp:=aha N (ajs N)
abbrev uF:=LI->Int->(Kz4)->Bool
def MP (N:Nat) (SQ7:jN) (m_1:LI) (w s:Int) (e0:Kz4):(Int × LI)->((Int × LI)->Bool)->Bool:=λv_ K=>match v_ with
 | (i,out)=>(cond (decide (i<((out.length:Nat):Int))) (aj .i64 (w+i)&&(inR (w+i) m_1.length&&(aj .i64 (w+i)&&(aj .i64 ((w+i)+1)&&cond (decide (((w+i)+1)<((m_1.length:Nat):Int))) (aj .i64 (w+i)&&(aj .i64 ((w+i)+1)&&(inR ((w+i)+1) m_1.length&&(decide (0<=s)&&(inR i out.length&&(decide (i.toNat<out.length)&&(aj .i64 (i+1)&&K ((i+1),(out.set i.toNat (IntKind.wrap .u32 (Int.fdiv (aH .or .u64 (IntKind.wrap .u64 (m_1.getD (Int.toNat (w+i)) 0)) (IntKind.wrap .u64 ((IntKind.wrap .u64 (m_1.getD (Int.toNat ((w+i)+1)) 0))*2 ^ 32))) (2 ^ (min s.toNat 64))))))))))))) (decide (0<=s)&&(inR i out.length&&(decide (i.toNat<out.length)&&(aj .i64 (i+1)&&K ((i+1),(out.set i.toNat (IntKind.wrap .u32 (Int.fdiv (IntKind.wrap .u64 (m_1.getD (Int.toNat (w+i)) 0)) (2 ^ (min s.toNat 64)))))))))))))) (e0 out))
def ahp (N:Nat) (SQ7:jN) (m:LI) (n:Int) (k0:Kz4):Bool:=
 (aj .i64 (IntKind.wrap .u64 (Int.tdiv n 32))&&cond (decide ((IntKind.wrap .u64 (Int.tdiv n 32))>=((m.length:Nat):Int))) (k0 []) (aj .i64 (((m.length:Nat):Int) - (IntKind.wrap .u64 (Int.tdiv n 32)))&&(mF 4 (((m.length:Nat):Int) - (IntKind.wrap .u64 (Int.tdiv n 32))) (((m.length:Nat):Int) - (IntKind.wrap .u64 (Int.tdiv n 32)))&&ah N (MP N SQ7 m (IntKind.wrap .u64 (Int.tdiv n 32)) (Int.tmod n 32) (λate=>SQ7 ate (λmr=>decide ((0+mr)<=ate.length)&&k0 (List.take mr (List.drop 0 ate))))) (0,(List.replicate (Int.toNat (((m.length:Nat):Int) - (IntKind.wrap .u64 (Int.tdiv n 32)))) (0:Int))))))
def Cm (N:Nat):uF:=ahp N (sQ7 N)
abbrev BB:=Int->(Kz0)->Bool
def Zl (N:Nat) (x:Int) (k0:Kz0):Bool:=
 (cond (decide (x>=65536)) (cond (decide ((Int.fdiv x (2 ^ 16))>=256)) (inR (IntKind.wrap .u8 (Int.fdiv (Int.fdiv x (2 ^ 16)) (2 ^ 8))) 256&&(aj .i64 (aE.getD (Int.toNat (IntKind.wrap .u8 (Int.fdiv (Int.fdiv x (2 ^ 16)) (2 ^ 8)))) 0)&&(aj .i64 (24+(aE.getD (Int.toNat (IntKind.wrap .u8 (Int.fdiv (Int.fdiv x (2 ^ 16)) (2 ^ 8)))) 0))&&k0 (24+(aE.getD (Int.toNat (IntKind.wrap .u8 (Int.fdiv (Int.fdiv x (2 ^ 16)) (2 ^ 8)))) 0))))) (inR (IntKind.wrap .u8 (Int.fdiv x (2 ^ 16))) 256&&(aj .i64 (aE.getD (Int.toNat (IntKind.wrap .u8 (Int.fdiv x (2 ^ 16)))) 0)&&(aj .i64 (16+(aE.getD (Int.toNat (IntKind.wrap .u8 (Int.fdiv x (2 ^ 16)))) 0))&&k0 (16+(aE.getD (Int.toNat (IntKind.wrap .u8 (Int.fdiv x (2 ^ 16)))) 0)))))) (cond (decide (x>=256)) (inR (IntKind.wrap .u8 (Int.fdiv x (2 ^ 8))) 256&&(aj .i64 (aE.getD (Int.toNat (IntKind.wrap .u8 (Int.fdiv x (2 ^ 8)))) 0)&&(aj .i64 (8+(aE.getD (Int.toNat (IntKind.wrap .u8 (Int.fdiv x (2 ^ 8)))) 0))&&k0 (8+(aE.getD (Int.toNat (IntKind.wrap .u8 (Int.fdiv x (2 ^ 8)))) 0))))) (inR (IntKind.wrap .u8 x) 256&&(aj .i64 (aE.getD (Int.toNat (IntKind.wrap .u8 x)) 0)&&(aj .i64 (0+(aE.getD (Int.toNat (IntKind.wrap .u8 x)) 0))&&k0 (0+(aE.getD (Int.toNat (IntKind.wrap .u8 x)) 0)))))))
def Pi (N:Nat):BB:=Zl N
abbrev tu:=Bool->LI->(Kz0)->Bool
def amn (N:Nat) (awq:BB) (b:Bool) (b_1:LI) (k0:Kz0):Bool:=
 (cond (((b_1.length:Nat):Int)==0) (k0 0) (aj .i64 (((b_1.length:Nat):Int) - 1)&&(aj .i64 (32*(((b_1.length:Nat):Int) - 1))&&(aj .i64 (((b_1.length:Nat):Int) - 1)&&(inR (((b_1.length:Nat):Int) - 1) b_1.length&&awq (b_1.getD (Int.toNat (((b_1.length:Nat):Int) - 1)) 0) (λnr=>aj .i64 ((32*(((b_1.length:Nat):Int) - 1))+nr)&&k0 ((32*(((b_1.length:Nat):Int) - 1))+nr)))))))
def AQ (N:Nat):tu:=amn N (Pi N)
abbrev l6:=LI->LI->(Kz0)->Bool
def Cq (N:Nat) (a_1 b_1:LI) (e0:Kz0) (e1:Bool):(Int)->((Int)->Bool)->Bool:=λv_ K=>match v_ with
 | i=>(cond (decide (i>=0)) (inR i a_1.length&&(inR i b_1.length&&cond (decide ((a_1.getD i.toNat 0)<(b_1.getD i.toNat 0))) (e0 (-1)) (inR i a_1.length&&(inR i b_1.length&&cond (decide ((a_1.getD i.toNat 0)>(b_1.getD i.toNat 0))) (e0 1) (aj .i64 (i - 1)&&K (i - 1)))))) e1)
def ag_ (N:Nat) (a b:LI) (k0:Kz0):Bool:=
 (cond (((a.length:Nat):Int) != ((b.length:Nat):Int)) (cond (decide (((a.length:Nat):Int)<((b.length:Nat):Int))) (k0 (-1)) (k0 1)) (aj .i64 (((a.length:Nat):Int) - 1)&&ah N (Cq N a b (λt4=>k0 t4) (k0 0)) (((a.length:Nat):Int) - 1)))
def wh (N:Nat):l6:=ag_ N
abbrev BC:=LI->Int->(Kz0)->Bool
def qs (N:Nat) (asP:uF) (x:LI) (e0:Kz0):(Int × Int)->((Int × Int)->Bool)->Bool:=λv_ K=>match v_ with
 | (u,i)=>(cond (decide (i>=0)) (inR i x.length&&(aj .i64 (i - 1)&&K ((aH .or .u64 (IntKind.wrap .u64 (u*2 ^ 32)) (IntKind.wrap .u64 (x.getD i.toNat 0))),(i - 1)))) (e0 u))
def TY (N:Nat) (asP:uF) (m:LI) (at_:Int) (k0:Kz0):Bool:=
 (asP m (IntKind.wrap .u64 at_) (λnsr=>aj .i64 (((nsr.length:Nat):Int) - 1)&&ah N (qs N asP nsr (λu_1=>k0 u_1)) (0,(((nsr.length:Nat):Int) - 1))))
def Jl (N:Nat):BC:=TY N (Cm N)
abbrev Bz:=Int->Int->(Kx6)->Bool
def qe (N:Nat) (e0:Kx6):(Int × Int × Int × Int × Int × Int)->((Int × Int × Int × Int × Int × Int)->Bool)->Bool:=λv_ K=>match v_ with
 | (a,b,c,d,p,q)=>(aj .i64 (q+c)&&cond (((q+c) != 0)==true) (aj .i64 (q+d)&&cond ((q+d) != 0) (aj .i64 (p+a)&&(aj .i64 (q+c)&&((!decide ((q+c)=0))&&(aj .i64 (Int.tdiv (p+a) (q+c))&&(aj .i64 (p+b)&&(aj .i64 (q+d)&&((!decide ((q+d)=0))&&(aj .i64 (Int.tdiv (p+b) (q+d))&&cond ((Int.tdiv (p+a) (q+c)) != (Int.tdiv (p+b) (q+d))) (e0 a b c d) (aj .i64 ((Int.tdiv (p+a) (q+c))*c)&&(aj .i64 (a - ((Int.tdiv (p+a) (q+c))*c))&&(aj .i64 ((Int.tdiv (p+a) (q+c))*d)&&(aj .i64 (b - ((Int.tdiv (p+a) (q+c))*d))&&cond ((decide ((a - ((Int.tdiv (p+a) (q+c))*c))>1073741824))==false) (cond ((decide ((a - ((Int.tdiv (p+a) (q+c))*c))<(-1073741824)))==false) (cond ((decide ((b - ((Int.tdiv (p+a) (q+c))*d))>1073741824))==false) (cond (decide ((b - ((Int.tdiv (p+a) (q+c))*d))<(-1073741824))) (e0 a b c d) (aj .i64 ((Int.tdiv (p+a) (q+c))*q)&&(aj .i64 (p - ((Int.tdiv (p+a) (q+c))*q))&&K (c,d,(a - ((Int.tdiv (p+a) (q+c))*c)),(b - ((Int.tdiv (p+a) (q+c))*d)),q,(p - ((Int.tdiv (p+a) (q+c))*q)))))) (e0 a b c d)) (e0 a b c d)) (e0 a b c d))))))))))))) (e0 a b c d)) (e0 a b c d))
def TV (N:Nat) (x y:Int) (k0:Kx6):Bool:=
 (aj .i64 x&&(aj .i64 y&&ah N (qe N (λa_1 b_1 c_1 d_1=>k0 a_1 b_1 c_1 d_1)) (1,0,0,1,x,y)))
def Jk (N:Nat):Bz:=TV N
abbrev CV:=LI->Int->(LI->Int->Bool)->Bool
def pa (N:Nat) (SQ7:jN) (m_1:LI) (d_1:Int) (e0:Ky5):(Int × Int × LI)->((Int × Int × LI)->Bool)->Bool:=λv_ K=>match v_ with
 | (r,i,out)=>(cond (decide (i>=0)) (inR i m_1.length&&((!decide ((IntKind.wrap .u64 d_1)=0))&&(inR i out.length&&(decide (i.toNat<out.length)&&((!decide ((IntKind.wrap .u64 d_1)=0))&&(aj .i64 (i - 1)&&K ((Int.tmod (aH .or .u64 (IntKind.wrap .u64 (r*2 ^ 32)) (IntKind.wrap .u64 (m_1.getD i.toNat 0))) (IntKind.wrap .u64 d_1)),(i - 1),(out.set i.toNat (IntKind.wrap .u32 (IntKind.wrap .u64 (Int.tdiv (aH .or .u64 (IntKind.wrap .u64 (r*2 ^ 32)) (IntKind.wrap .u64 (m_1.getD i.toNat 0))) (IntKind.wrap .u64 d_1)))))))))))) (e0 r out))
def ahr (N:Nat) (SQ7:jN) (m:LI) (d:Int) (k0:LI->Int->Bool):Bool:=
 (mF 4 ((m.length:Nat):Int) ((m.length:Nat):Int)&&(aj .i64 (((m.length:Nat):Int) - 1)&&ah N (pa N SQ7 m d (λr_1 ate=>SQ7 ate (λmr=>decide ((0+mr)<=ate.length)&&k0 (List.take mr (List.drop 0 ate)) (IntKind.wrap .u32 r_1)))) (0,(((m.length:Nat):Int) - 1),(List.replicate (Int.toNat ((m.length:Nat):Int)) (0:Int)))))
def RX (N:Nat):CV:=ahr N (sQ7 N)
abbrev CI:=Int->(Kz0)->Bool
def ami (N:Nat) (awq:BB) (x:Int) (k0:Kz0):Bool:=
 (awq x (λnr=>aj .i64 (32 - nr)&&k0 (32 - nr)))
def Xq (N:Nat):CI:=ami N (Pi N)
abbrev CL:=LI->Int->(Bool)->(Ky6)->Bool
def ui (N:Nat) (SQ7:jN) (m_1:LI) (w s:Int) (e0:Kz4):(Int × LI)->((Int × LI)->Bool)->Bool:=λv_ K=>match v_ with
 | (i,out)=>(cond (decide (i<((m_1.length:Nat):Int))) (inR i m_1.length&&(decide (0<=s)&&(aj .i64 (w+i)&&(inR (w+i) out.length&&(decide ((Int.toNat (w+i))<out.length)&&(inR (w+i) out.length&&(decide ((Int.toNat (w+i))<out.length)&&(aj .i64 (w+i)&&(aj .i64 ((w+i)+1)&&(inR ((w+i)+1) (List.length (out.set (Int.toNat (w+i)) (aH .or .u32 (out.getD (Int.toNat (w+i)) 0) (IntKind.wrap .u32 (IntKind.wrap .u64 ((IntKind.wrap .u64 (m_1.getD i.toNat 0))*2 ^ (min s.toNat 64)))))))&&(decide ((Int.toNat ((w+i)+1))<(List.length (out.set (Int.toNat (w+i)) (aH .or .u32 (out.getD (Int.toNat (w+i)) 0) (IntKind.wrap .u32 (IntKind.wrap .u64 ((IntKind.wrap .u64 (m_1.getD i.toNat 0))*2 ^ (min s.toNat 64))))))))&&(aj .i64 (i+1)&&K ((i+1),(List.set (out.set (Int.toNat (w+i)) (aH .or .u32 (out.getD (Int.toNat (w+i)) 0) (IntKind.wrap .u32 (IntKind.wrap .u64 ((IntKind.wrap .u64 (m_1.getD i.toNat 0))*2 ^ (min s.toNat 64)))))) (Int.toNat ((w+i)+1)) (IntKind.wrap .u32 (Int.fdiv (IntKind.wrap .u64 ((IntKind.wrap .u64 (m_1.getD i.toNat 0))*2 ^ (min s.toNat 64))) (2 ^ 32))))))))))))))))) (e0 out))
def ahf (N:Nat) (SQ7:jN) (m:LI) (n:Int) (k0:Bool) (k1:Ky6):Bool:=
 (cond (((m.length:Nat):Int)==0) k0 (aj .i64 (IntKind.wrap .u64 (Int.tdiv n 32))&&(aj .i64 ((IntKind.wrap .u64 (Int.tdiv n 32))+((m.length:Nat):Int))&&(aj .i64 (((IntKind.wrap .u64 (Int.tdiv n 32))+((m.length:Nat):Int))+1)&&(mF 4 (((IntKind.wrap .u64 (Int.tdiv n 32))+((m.length:Nat):Int))+1) (((IntKind.wrap .u64 (Int.tdiv n 32))+((m.length:Nat):Int))+1)&&ah N (ui N SQ7 m (IntKind.wrap .u64 (Int.tdiv n 32)) (Int.tmod n 32) (λate=>SQ7 ate (λmr=>k1 mr ate))) (0,(List.replicate (Int.toNat (((IntKind.wrap .u64 (Int.tdiv n 32))+((m.length:Nat):Int))+1)) (0:Int))))))))
def Xs (N:Nat):CL:=ahf N (sQ7 N)
abbrev CM:=Nat->Nat->Nat->Nat->Int->Int->LI->LI->(Ky1)->Bool
def MN (N u u_2 d d_2:Nat) (j_1 g_1:Int) (d_3:LI) (e0:Int->Int->LI->Bool):(Int × Int × Int × LI)->((Int × Int × Int × LI)->Bool)->Bool:=λv_ K=>match v_ with
 | (carry,borrow,i,u_3)=>(cond (decide (i<((d_2:Nat):Int))) (inR i d_2&&(decide ((d+i.toNat)<d_3.length)&&(aj .i64 (j_1+i)&&(inR (j_1+i) u_2&&(decide ((u+(Int.toNat (j_1+i)))<u_3.length)&&cond (decide ((IntKind.wrap .u64 (u_3.getD (u+(Int.toNat (j_1+i))) 0))<(IntKind.wrap .u64 ((aH .and .u64 (IntKind.wrap .u64 ((IntKind.wrap .u64 (g_1*(IntKind.wrap .u64 (d_3.getD (d+i.toNat) 0))))+carry)) 4294967295)+borrow)))) (aj .i64 (j_1+i)&&(inR (j_1+i) u_2&&(decide ((u+(Int.toNat (j_1+i)))<u_3.length)&&(aj .i64 (i+1)&&K ((Int.fdiv (IntKind.wrap .u64 ((IntKind.wrap .u64 (g_1*(IntKind.wrap .u64 (d_3.getD (d+i.toNat) 0))))+carry)) (2 ^ 32)),1,(i+1),(u_3.set (u+(Int.toNat (j_1+i))) (IntKind.wrap .u32 (IntKind.wrap .u64 ((IntKind.wrap .u64 ((IntKind.wrap .u64 (u_3.getD (u+(Int.toNat (j_1+i))) 0))+4294967296)) - (IntKind.wrap .u64 ((aH .and .u64 (IntKind.wrap .u64 ((IntKind.wrap .u64 (g_1*(IntKind.wrap .u64 (d_3.getD (d+i.toNat) 0))))+carry)) 4294967295)+borrow))))))))))) (aj .i64 (j_1+i)&&(inR (j_1+i) u_2&&(decide ((u+(Int.toNat (j_1+i)))<u_3.length)&&(aj .i64 (i+1)&&K ((Int.fdiv (IntKind.wrap .u64 ((IntKind.wrap .u64 (g_1*(IntKind.wrap .u64 (d_3.getD (d+i.toNat) 0))))+carry)) (2 ^ 32)),0,(i+1),(u_3.set (u+(Int.toNat (j_1+i))) (IntKind.wrap .u32 (IntKind.wrap .u64 ((IntKind.wrap .u64 (u_3.getD (u+(Int.toNat (j_1+i))) 0)) - (IntKind.wrap .u64 ((aH .and .u64 (IntKind.wrap .u64 ((IntKind.wrap .u64 (g_1*(IntKind.wrap .u64 (d_3.getD (d+i.toNat) 0))))+carry)) 4294967295)+borrow)))))))))))))))) (e0 carry borrow u_3))
def ahh (N u_0 u_1 d_0 d_1:Nat) (j g:Int) (b b_1:LI) (k0:Ky1):Bool:=
 (ah N (MN N u_0 u_1 d_0 d_1 j g b_1 (λatZ awv u_4=>aj .i64 (j+((d_1:Nat):Int))&&(inR (j+((d_1:Nat):Int)) u_1&&(decide ((u_0+(Int.toNat (j+((d_1:Nat):Int))))<u_4.length)&&(aj .i64 (j+((d_1:Nat):Int))&&(inR (j+((d_1:Nat):Int)) u_1&&(decide ((u_0+(Int.toNat (j+((d_1:Nat):Int))))<u_4.length)&&k0 (decide ((IntKind.wrap .u64 (u_4.getD (u_0+(Int.toNat (j+((d_1:Nat):Int)))) 0))<(IntKind.wrap .u64 (atZ+awv)))) (u_4.set (u_0+(Int.toNat (j+((d_1:Nat):Int)))) (IntKind.wrap .u32 (IntKind.wrap .u64 ((IntKind.wrap .u64 (u_4.getD (u_0+(Int.toNat (j+((d_1:Nat):Int)))) 0)) - (IntKind.wrap .u64 (atZ+awv))))))))))))) (0,0,0,b))
def Xt (N:Nat):CM:=ahh N
abbrev CN:=Nat->Nat->Nat->Nat->Int->LI->LI->(Kz4)->Bool
def MO (N u u_2 d d_2:Nat) (j_1:Int) (d_3:LI) (e0:Ky5):(Int × Int × LI)->((Int × Int × LI)->Bool)->Bool:=λv_ K=>match v_ with
 | (carry,i,u_3)=>(cond (decide (i<((d_2:Nat):Int))) (aj .i64 (j_1+i)&&(inR (j_1+i) u_2&&(decide ((u+(Int.toNat (j_1+i)))<u_3.length)&&(inR i d_2&&(decide ((d+i.toNat)<d_3.length)&&(aj .i64 (j_1+i)&&(inR (j_1+i) u_2&&(decide ((u+(Int.toNat (j_1+i)))<u_3.length)&&(aj .i64 (i+1)&&K ((Int.fdiv (IntKind.wrap .u64 ((IntKind.wrap .u64 ((IntKind.wrap .u64 (u_3.getD (u+(Int.toNat (j_1+i))) 0))+(IntKind.wrap .u64 (d_3.getD (d+i.toNat) 0))))+carry)) (2 ^ 32)),(i+1),(u_3.set (u+(Int.toNat (j_1+i))) (IntKind.wrap .u32 (IntKind.wrap .u64 ((IntKind.wrap .u64 ((IntKind.wrap .u64 (u_3.getD (u+(Int.toNat (j_1+i))) 0))+(IntKind.wrap .u64 (d_3.getD (d+i.toNat) 0))))+carry)))))))))))))) (e0 carry u_3))
def ahi (N u_0 u_1 d_0 d_1:Nat) (j:Int) (b b_1:LI) (k0:Kz4):Bool:=
 (ah N (MO N u_0 u_1 d_0 d_1 j b_1 (λatZ u_4=>aj .i64 (j+((d_1:Nat):Int))&&(inR (j+((d_1:Nat):Int)) u_1&&(decide ((u_0+(Int.toNat (j+((d_1:Nat):Int))))<u_4.length)&&(inR (j+((d_1:Nat):Int)) u_1&&(decide ((u_0+(Int.toNat (j+((d_1:Nat):Int))))<u_4.length)&&k0 (u_4.set (u_0+(Int.toNat (j+((d_1:Nat):Int)))) (IntKind.wrap .u32 ((u_4.getD (u_0+(Int.toNat (j+((d_1:Nat):Int)))) 0)+(IntKind.wrap .u32 atZ)))))))))) (0,0,b))
def Xu (N:Nat):CN:=ahi N
abbrev CW:=Nat->Nat->LI->(Kz1)->Bool
def Ct (N m:Nat) (m_3:LI) (e0:Kz1):(Nat)->((Nat)->Bool)->Bool:=λv_ K=>match v_ with
 | m_2=>(cond ((decide (((m_2:Nat):Int)>0))==true) (aj .i64 (((m_2:Nat):Int) - 1)&&(inR (((m_2:Nat):Int) - 1) m_2&&(decide ((m+(Int.toNat (((m_2:Nat):Int) - 1)))<m_3.length)&&cond ((m_3.getD (m+(Int.toNat (((m_2:Nat):Int) - 1))) 0)==0) (aj .i64 (((m_2:Nat):Int) - 1)&&(decide (0<=(((m_2:Nat):Int) - 1)/\(((m_2:Nat):Int) - 1)<=((m_2:Nat):Int))&&K ((Int.toNat (((m_2:Nat):Int) - 1)) - 0))) (e0 m_2)))) (e0 m_2))
def ahs (N m_0 m_1:Nat) (b:LI) (k0:Kz1):Bool:=
 (ah N (Ct N m_0 b (λm_4=>k0 m_4)) m_1)
def Xy (N:Nat):CW:=ahs N
abbrev CP:=Nat->Nat->Int->LI->(Kz4)->Bool
def mL (N:Nat) (SQ7:jN) (m m_2:Nat) (w s:Int) (m_3:LI) (e0:Kz4):(Int × LI)->((Int × LI)->Bool)->Bool:=λv_ K=>match v_ with
 | (i,out)=>(cond (decide (i<((out.length:Nat):Int))) (aj .i64 (w+i)&&(inR (w+i) m_2&&(decide ((m+(Int.toNat (w+i)))<m_3.length)&&(aj .i64 (w+i)&&(aj .i64 ((w+i)+1)&&cond (decide (((w+i)+1)<((m_2:Nat):Int))) (aj .i64 (w+i)&&(aj .i64 ((w+i)+1)&&(inR ((w+i)+1) m_2&&(decide ((m+(Int.toNat ((w+i)+1)))<m_3.length)&&(decide (0<=s)&&(inR i out.length&&(decide (i.toNat<out.length)&&(aj .i64 (i+1)&&K ((i+1),(out.set i.toNat (IntKind.wrap .u32 (Int.fdiv (aH .or .u64 (IntKind.wrap .u64 (m_3.getD (m+(Int.toNat (w+i))) 0)) (IntKind.wrap .u64 ((IntKind.wrap .u64 (m_3.getD (m+(Int.toNat ((w+i)+1))) 0))*2 ^ 32))) (2 ^ (min s.toNat 64)))))))))))))) (decide (0<=s)&&(inR i out.length&&(decide (i.toNat<out.length)&&(aj .i64 (i+1)&&K ((i+1),(out.set i.toNat (IntKind.wrap .u32 (Int.fdiv (IntKind.wrap .u64 (m_3.getD (m+(Int.toNat (w+i))) 0)) (2 ^ (min s.toNat 64))))))))))))))) (e0 out))
def ahl (N:Nat) (SQ7:jN) (m_0 m_1:Nat) (n:Int) (b:LI) (k0:Kz4):Bool:=
 (aj .i64 (IntKind.wrap .u64 (Int.tdiv n 32))&&cond (decide ((IntKind.wrap .u64 (Int.tdiv n 32))>=((m_1:Nat):Int))) (k0 []) (aj .i64 (((m_1:Nat):Int) - (IntKind.wrap .u64 (Int.tdiv n 32)))&&(mF 4 (((m_1:Nat):Int) - (IntKind.wrap .u64 (Int.tdiv n 32))) (((m_1:Nat):Int) - (IntKind.wrap .u64 (Int.tdiv n 32)))&&ah N (mL N SQ7 m_0 m_1 (IntKind.wrap .u64 (Int.tdiv n 32)) (Int.tmod n 32) b (λate=>SQ7 ate (λmr=>decide ((0+mr)<=ate.length)&&k0 (List.take mr (List.drop 0 ate))))) (0,(List.replicate (Int.toNat (((m_1:Nat):Int) - (IntKind.wrap .u64 (Int.tdiv n 32)))) (0:Int))))))
def Xv (N:Nat):CP:=ahl N (sQ7 N)
abbrev tx:=LI->LI->(Ky8)->Bool
section
variable (N:Nat) (ash:l6) (ata:CV) (SQ7:jN) (as9:CI) (as5:CL) (atf:CM) (atg:CN) (ati:CW) (ath:CP)
def JF (N:Nat) (ash:l6) (ata:CV) (SQ7:jN) (as9:CI) (as5:CL) (atf:CM) (atg:CN) (ati:CW) (ath:CP) (a_1:LI) (s:Int) (e0:Ky6):(Nat × LI)->((Nat × LI)->Bool)->Bool:=λv_ K=>match v_ with
 | (u,u_1)=>(aj .i64 (((a_1.length:Nat):Int)+1)&&cond (decide (((u:Nat):Int)<(((a_1.length:Nat):Int)+1))) (decide ((0+u)<=u_1.length)&&(decide ((List.length ((List.take u (List.drop 0 u_1))++[0]))*4<=140737488355328)&&K ((List.length ((List.take u (List.drop 0 u_1))++[0])),((List.take u (List.drop 0 u_1))++[0])))) (e0 u u_1))
def vu (N:Nat) (ash:l6) (ata:CV) (SQ7:jN) (as9:CI) (as5:CL) (atf:CM) (atg:CN) (ati:CW) (ath:CP) (a_2:LI) (s_1:Int) (d:Nat) (d_1:LI) (e0:Ky6):(Nat × LI)->((Nat × LI)->Bool)->Bool:=λv_ K=>match v_ with
 | (u_6,u_7)=>(aj .i64 (((a_2.length:Nat):Int)+1)&&cond (decide (((u_6:Nat):Int)<(((a_2.length:Nat):Int)+1))) (decide ((0+u_6)<=u_7.length)&&(decide ((List.length ((List.take u_6 (List.drop 0 u_7))++[0]))*4<=140737488355328)&&K ((List.length ((List.take u_6 (List.drop 0 u_7))++[0])),((List.take u_6 (List.drop 0 u_7))++[0])))) (e0 u_6 u_7))
def vv (N:Nat) (ash:l6) (ata:CV) (SQ7:jN) (as9:CI) (as5:CL) (atf:CM) (atg:CN) (ati:CW) (ath:CP) (s_5:Int) (d_6 axc:Nat) (n_1 axT j_1:Int) (d_7 axk q_1:LI) (e0:Kz0):(Int × Int)->((Int × Int)->Bool)->Bool:=λv_ K=>match v_ with
 | (g,r)=>(cond ((decide (g>=4294967296))==false) (aj .i64 (n_1 - 2)&&(inR (n_1 - 2) d_6&&(decide ((0+(Int.toNat (n_1 - 2)))<d_7.length)&&(aj .i64 (j_1+n_1)&&(aj .i64 ((j_1+n_1) - 2)&&(inR ((j_1+n_1) - 2) axc&&(decide ((0+(Int.toNat ((j_1+n_1) - 2)))<axk.length)&&cond (decide ((IntKind.wrap .u64 (g*(IntKind.wrap .u64 (d_7.getD (0+(Int.toNat (n_1 - 2))) 0))))>(aH .or .u64 (IntKind.wrap .u64 (r*2 ^ 32)) (IntKind.wrap .u64 (axk.getD (0+(Int.toNat ((j_1+n_1) - 2))) 0))))) (cond (decide ((IntKind.wrap .u64 (r+axT))>=4294967296)) (e0 (IntKind.wrap .u64 (g - 1))) (K ((IntKind.wrap .u64 (g - 1)),(IntKind.wrap .u64 (r+axT))))) (e0 g)))))))) (cond (decide ((IntKind.wrap .u64 (r+axT))>=4294967296)) (e0 (IntKind.wrap .u64 (g - 1))) (K ((IntKind.wrap .u64 (g - 1)),(IntKind.wrap .u64 (r+axT))))))
def nE (s_4:Int) (d_4 avN:Nat) (n top:Int) (d_5:LI) (e0:Ky8):(Int × LI × LI)->((Int × LI × LI)->Bool)->Bool:=λv_ K=>match v_ with
 | (j,avk,q)=>(cond (decide (j>=0)) (aj .i64 (j+n)&&(inR (j+n) avN&&(decide ((0+(Int.toNat (j+n)))<avk.length)&&(aj .i64 (j+n)&&(aj .i64 ((j+n) - 1)&&(inR ((j+n) - 1) avN&&(decide ((0+(Int.toNat ((j+n) - 1)))<avk.length)&&((!decide (top=0))&&((!decide (top=0))&&ah N (vv N ash ata SQ7 as9 as5 atf atg ati ath s_4 d_4 avN n top j d_5 avk q (λg_1=>atf 0 avN 0 d_4 j g_1 avk d_5 (λcr asp=>cond cr (atg 0 avN 0 d_4 j asp d_5 (λaso=>inR j q.length&&(decide (j.toNat<q.length)&&(aj .i64 (j - 1)&&K ((j - 1),aso,(q.set j.toNat (IntKind.wrap .u32 (IntKind.wrap .u64 (g_1 - 1))))))))) (inR j q.length&&(decide (j.toNat<q.length)&&(aj .i64 (j - 1)&&K ((j - 1),asp,(q.set j.toNat (IntKind.wrap .u32 g_1))))))))) ((IntKind.wrap .u64 (Int.tdiv (aH .or .u64 (IntKind.wrap .u64 ((IntKind.wrap .u64 (avk.getD (0+(Int.toNat (j+n))) 0))*2 ^ 32)) (IntKind.wrap .u64 (avk.getD (0+(Int.toNat ((j+n) - 1))) 0))) top)),(Int.tmod (aH .or .u64 (IntKind.wrap .u64 ((IntKind.wrap .u64 (avk.getD (0+(Int.toNat (j+n))) 0))*2 ^ 32)) (IntKind.wrap .u64 (avk.getD (0+(Int.toNat ((j+n) - 1))) 0))) top))))))))))) (e0 avk q))
def Ue (a b:LI) (s_3:Int) (d_2 avw:Nat) (d_3 awb:LI) (k0:Ky8):Bool:=
 (aj .i64 (((avw:Nat):Int) - ((d_2:Nat):Int))&&(mF 4 (((avw:Nat):Int) - ((d_2:Nat):Int)) (((avw:Nat):Int) - ((d_2:Nat):Int))&&(aj .i64 (((d_2:Nat):Int) - 1)&&(inR (((d_2:Nat):Int) - 1) d_2&&(decide ((0+(Int.toNat (((d_2:Nat):Int) - 1)))<d_3.length)&&(aj .i64 ((((List.length (List.replicate (Int.toNat (((avw:Nat):Int) - ((d_2:Nat):Int))) (0:Int))):Nat):Int) - 1)&&ah N (nE N ash ata SQ7 as9 as5 atf atg ati ath s_3 d_2 avw ((d_2:Nat):Int) (IntKind.wrap .u64 (d_3.getD (0+(Int.toNat (((d_2:Nat):Int) - 1))) 0)) d_3 (λawS q_2=>SQ7 q_2 (λaBT=>decide (0<=((d_2:Nat):Int)/\((d_2:Nat):Int)<=((avw:Nat):Int))&&ati 0 ((Int.toNat ((d_2:Nat):Int)) - 0) awS (λaE_=>ath 0 aE_ s_3 awS (λs6=>decide ((0+aBT)<=q_2.length)&&k0 (List.take aBT (List.drop 0 q_2)) s6))))) (((((List.length (List.replicate (Int.toNat (((avw:Nat):Int) - ((d_2:Nat):Int))) (0:Int))):Nat):Int) - 1),awb,(List.replicate (Int.toNat (((avw:Nat):Int) - ((d_2:Nat):Int))) (0:Int)))))))))
def Z0 (N:Nat) (ash:l6) (ata:CV) (SQ7:jN) (as9:CI) (as5:CL) (atf:CM) (atg:CN) (ati:CW) (ath:CP) (a b:LI) (s_2:Int) (av4:Nat) (awl:LI) (k0:Ky8):Bool:=
 (aj .i64 (((av4:Nat):Int) - 0)&&(mF 4 (((av4:Nat):Int) - 0) (((av4:Nat):Int) - 0)&&false))
def Nd (a b:LI) (k0:Ky8):Bool:=
 (ash a b (λnr=>cond (decide (nr<0)) (decide ((List.length ([]++a))*4<=140737488355328)&&k0 [] ([]++a)) (cond (((b.length:Nat):Int)==1) (inR 0 b.length&&ata a (b.getD 0 0) (λnsr ask=>SQ7 [ask] (λmr=>decide ((0+mr)<=(List.length [ask]))&&k0 nsr (List.take mr (List.drop 0 [ask]))))) (aj .i64 (((b.length:Nat):Int) - 1)&&(inR (((b.length:Nat):Int) - 1) b.length&&as9 (b.getD (Int.toNat (((b.length:Nat):Int) - 1)) 0) (λasl=>as5 b (IntKind.wrap .u64 asl) (as5 a (IntKind.wrap .u64 asl) (ah N (JF N ash ata SQ7 as9 as5 atf atg ati ath a (IntKind.wrap .u64 asl) (λu_2 u_3=>Z0 N ash ata SQ7 as9 as5 atf atg ati ath a b (IntKind.wrap .u64 asl) u_2 u_3 k0)) (0,[])) (λaty asy=>ah N (JF N ash ata SQ7 as9 as5 atf atg ati ath a (IntKind.wrap .u64 asl) (λu_4 u_5=>Z0 N ash ata SQ7 as9 as5 atf atg ati ath a b (IntKind.wrap .u64 asl) u_4 u_5 k0)) (aty,asy))) (λauL asj=>as5 a (IntKind.wrap .u64 asl) (ah N (vu N ash ata SQ7 as9 as5 atf atg ati ath a (IntKind.wrap .u64 asl) auL asj (λu_8 u_9=>Ue N ash ata SQ7 as9 as5 atf atg ati ath a b (IntKind.wrap .u64 asl) auL u_8 asj u_9 k0)) (0,[])) (λay6 ast=>ah N (vu N ash ata SQ7 as9 as5 atf atg ati ath a (IntKind.wrap .u64 asl) auL asj (λauH avx=>Ue N ash ata SQ7 as9 as5 atf atg ati ath a b (IntKind.wrap .u64 asl) auL auH asj avx k0)) (ay6,ast)))))))))
end
def vq (N:Nat):tx:=Nd N (wh N) (RX N) (sQ7 N) (Xq N) (Xs N) (Xt N) (Xu N) (Xy N) (Xv N)
abbrev pQ:=LI->LI->(Kz4)->Bool
def pc (N:Nat) (SQ7:jN) (a_2 b_2:LI) (i_1:Int) (e0:Ky5):(Int × Int × LI)->((Int × Int × LI)->Bool)->Bool:=λv_ K=>match v_ with
 | (carry,k_,ate)=>(cond (decide (k_<((b_2.length:Nat):Int))) (inR i_1 a_2.length&&(inR k_ b_2.length&&(aj .i64 (i_1+k_)&&(inR (i_1+k_) ate.length&&(decide ((Int.toNat (i_1+k_))<ate.length)&&(aj .i64 (i_1+k_)&&(inR (i_1+k_) ate.length&&(decide ((Int.toNat (i_1+k_))<ate.length)&&(aj .i64 (k_+1)&&K ((Int.fdiv (IntKind.wrap .u64 ((IntKind.wrap .u64 ((IntKind.wrap .u64 ((IntKind.wrap .u64 (a_2.getD i_1.toNat 0))*(IntKind.wrap .u64 (b_2.getD k_.toNat 0))))+(IntKind.wrap .u64 (ate.getD (Int.toNat (i_1+k_)) 0))))+carry)) (2 ^ 32)),(k_+1),(ate.set (Int.toNat (i_1+k_)) (IntKind.wrap .u32 (IntKind.wrap .u64 ((IntKind.wrap .u64 ((IntKind.wrap .u64 ((IntKind.wrap .u64 (a_2.getD i_1.toNat 0))*(IntKind.wrap .u64 (b_2.getD k_.toNat 0))))+(IntKind.wrap .u64 (ate.getD (Int.toNat (i_1+k_)) 0))))+carry)))))))))))))) (e0 carry ate))
def pb (N:Nat) (SQ7:jN) (a_1 b_1:LI) (e0:Kz4):(Int × LI)->((Int × LI)->Bool)->Bool:=λv_ K=>match v_ with
 | (i,out)=>(cond (decide (i<((a_1.length:Nat):Int))) (ah N (pc N SQ7 a_1 b_1 i (λatZ av1=>aj .i64 (i+((b_1.length:Nat):Int))&&(inR (i+((b_1.length:Nat):Int)) av1.length&&(decide ((Int.toNat (i+((b_1.length:Nat):Int)))<av1.length)&&(aj .i64 (i+1)&&K ((i+1),(av1.set (Int.toNat (i+((b_1.length:Nat):Int))) (IntKind.wrap .u32 atZ)))))))) (0,0,out)) (e0 out))
def TR (N:Nat) (SQ7:jN) (a b:LI) (k0:Kz4):Bool:=
 (aj .i64 (((a.length:Nat):Int)+((b.length:Nat):Int))&&(mF 4 (((a.length:Nat):Int)+((b.length:Nat):Int)) (((a.length:Nat):Int)+((b.length:Nat):Int))&&ah N (pb N SQ7 a b (λaxR=>SQ7 axR (λmr=>decide ((0+mr)<=axR.length)&&k0 (List.take mr (List.drop 0 axR))))) (0,(List.replicate (Int.toNat (((a.length:Nat):Int)+((b.length:Nat):Int))) (0:Int)))))
def DD (N:Nat):pQ:=TR N (sQ7 N)
abbrev BH:=LI->LI->(Kz4)->Bool
def o_ (N:Nat) (SQ7:jN) (a_1 b_1:LI) (e0:Kz4):(Int × Int × LI)->((Int × Int × LI)->Bool)->Bool:=λv_ K=>match v_ with
 | (borrow,i,out)=>(cond (decide (i<((a_1.length:Nat):Int))) (cond (decide (i<((b_1.length:Nat):Int))) (inR i b_1.length&&(inR i a_1.length&&cond (decide ((IntKind.wrap .u64 (a_1.getD i.toNat 0))<(IntKind.wrap .u64 (borrow+(IntKind.wrap .u64 (b_1.getD i.toNat 0)))))) (inR i out.length&&(decide (i.toNat<out.length)&&(aj .i64 (i+1)&&K (1,(i+1),(out.set i.toNat (IntKind.wrap .u32 (IntKind.wrap .u64 ((IntKind.wrap .u64 ((IntKind.wrap .u64 (a_1.getD i.toNat 0))+4294967296)) - (IntKind.wrap .u64 (borrow+(IntKind.wrap .u64 (b_1.getD i.toNat 0)))))))))))) (inR i out.length&&(decide (i.toNat<out.length)&&(aj .i64 (i+1)&&K (0,(i+1),(out.set i.toNat (IntKind.wrap .u32 (IntKind.wrap .u64 ((IntKind.wrap .u64 (a_1.getD i.toNat 0)) - (IntKind.wrap .u64 (borrow+(IntKind.wrap .u64 (b_1.getD i.toNat 0)))))))))))))) (inR i a_1.length&&cond (decide ((IntKind.wrap .u64 (a_1.getD i.toNat 0))<borrow)) (inR i out.length&&(decide (i.toNat<out.length)&&(aj .i64 (i+1)&&K (1,(i+1),(out.set i.toNat (IntKind.wrap .u32 (IntKind.wrap .u64 ((IntKind.wrap .u64 ((IntKind.wrap .u64 (a_1.getD i.toNat 0))+4294967296)) - borrow)))))))) (inR i out.length&&(decide (i.toNat<out.length)&&(aj .i64 (i+1)&&K (0,(i+1),(out.set i.toNat (IntKind.wrap .u32 (IntKind.wrap .u64 ((IntKind.wrap .u64 (a_1.getD i.toNat 0)) - borrow)))))))))) (e0 out))
def T3 (N:Nat) (SQ7:jN) (a b:LI) (k0:Kz4):Bool:=
 (mF 4 ((a.length:Nat):Int) ((a.length:Nat):Int)&&ah N (o_ N SQ7 a b (λate=>SQ7 ate (λmr=>decide ((0+mr)<=ate.length)&&k0 (List.take mr (List.drop 0 ate))))) (0,0,(List.replicate (Int.toNat ((a.length:Nat):Int)) (0:Int))))
def Pk (N:Nat):BH:=T3 N (sQ7 N)
abbrev Hl:=LI->Int->LI->Int->(Kz4)->Bool
def ZH (N:Nat) (atC:tm) (at7:pQ) (awd:BH) (a:LI) (u:Int) (b:LI) (v:Int) (k0:Kz4):Bool:=
 (atC u (λnsr=>at7 a nsr (λasj=>atC v (λasy=>at7 b asy (λast=>awd asj ast (λasp=>k0 asp))))))
def Vi (N:Nat):Hl:=ZH N (Lh N) (DD N) (Pk N)
abbrev BG:=LI->Int->LI->Int->(Kz4)->Bool
def T1 (N:Nat) (axE:Hl) (a:LI) (u:Int) (b:LI) (v:Int) (k0:Kz4):Bool:=
 (cond (decide (v<=0)) (aj .i64 (0 - v)&&axE a (IntKind.wrap .u64 u) b (IntKind.wrap .u64 (0 - v)) (λnsr=>k0 nsr)) (aj .i64 (0 - u)&&axE b (IntKind.wrap .u64 v) a (IntKind.wrap .u64 (0 - u)) (λasj=>k0 asj)))
def DH (N:Nat):BG:=T1 N (Vi N)
abbrev yA:=LI->LI->(Kz4)->Bool
section
variable (N:Nat) (ash:l6) (asC:tu) (atl:BC) (ato:Bz) (asz:tx) (atm:BG)
def JE (N:Nat) (ash:l6) (asC:tu) (atl:BC) (ato:Bz) (asz:tx) (atm:BG) (e0:Ky8):(LI × LI)->((LI × LI)->Bool)->Bool:=λv_ K=>match v_ with
 | (a_2,b_2)=>(cond (decide (((b_2.length:Nat):Int)>2)) (asC false a_2 (λask=>aj .i64 (ask - 62)&&atl a_2 (ask - 62) (λasl=>atl b_2 (ask - 62) (λatd=>ato asl atd (λat9 n5 n6 n7=>cond (n5==0) (asz a_2 b_2 (λnsr asj=>K (b_2,asj))) (atm a_2 at9 b_2 n5 (λasy=>atm a_2 n6 b_2 n7 (λast=>K (asy,ast))))))))) (e0 a_2 b_2))
def E6 (N:Nat) (ash:l6) (asC:tu) (atl:BC) (ato:Bz) (asz:tx) (atm:BG) (e0:Kz4):(LI × LI)->((LI × LI)->Bool)->Bool:=λv_ K=>match v_ with
 | (a_4,b_4)=>(cond (decide (((b_4.length:Nat):Int)>0)) (asz a_4 b_4 (λasp aso=>K (b_4,aso))) (e0 a_4))
def Nj (a b a_1 b_1:LI) (k0:Kz4):Bool:=
 (ah N (JE N ash asC atl ato asz atm (λa_3 b_3=>ah N (E6 N ash asC atl ato asz atm (λa_5=>decide ((List.length ([]++a_5))*4<=140737488355328)&&k0 ([]++a_5))) (a_3,b_3))) (a_1,b_1))
def Wn (a b:LI) (k0:Kz4):Bool:=
 (ash a b (λnr=>cond (decide (nr<0)) (Nj N ash asC atl ato asz atm a b b a k0) (Nj N ash asC atl ato asz atm a b a b k0)))
end
def Gk (N:Nat):yA:=Wn N (wh N) (AQ N) (Jl N) (Jk N) (vq N) (DH N)
abbrev yw:=Bool->LI->LI->Bool->Bool->(Kx5)->Bool
section
variable (N:Nat) (atA:Bv) (ass:l7) (as_:yz) (as0:yp) (asP:uF) (asC:tu) (atj:yA) (ash:l6) (asz:tx)
def GF (N:Nat) (atA:Bv) (ass:l7) (as_:yz) (as0:yp) (asP:uF) (asC:tu) (atj:yA) (ash:l6) (asz:tx) (neg:Bool) (a b:LI) (b_1 b_2:Bool) (a_1 b_3:LI) (k0:Kx5):Bool:=
 (atA neg a_1 b_1 b_2 (λatH s12 s13=>as_ false b_3 atH s12 b_2 s13 (λaus s14=>k0 atH s12 aus s14)))
def Ub (neg:Bool) (a b:LI) (b_1 b_2:Bool) (n:Int) (k0:Kx5):Bool:=
 (asP a n (λasp=>asP b n (λaso=>as0 false aso (λasl=>aj .i64 asl&&asC false aso (λatd=>aj .i64 (atd - 1)&&cond (asl != (atd - 1)) (atj asp aso (λs6=>ass (λs7=>ash s6 s7 (λat9=>cond (at9 != 0) (asz asp s6 (λs8 s9=>asz aso s6 (λs10 s11=>GF N atA ass as_ as0 asP asC atj ash asz neg a b b_1 b_2 s8 s10 k0))) (GF N atA ass as_ as0 asP asC atj ash asz neg a b b_1 b_2 asp aso k0))))) (GF N atA ass as_ as0 asP asC atj ash asz neg a b b_1 b_2 asp aso k0))))))
def Wk (neg:Bool) (a b:LI) (b_1 b_2:Bool) (k0:Kx5):Bool:=
 (cond (((a.length:Nat):Int)==0) (atA false [] b_1 b_2 (λcr nsr asj=>ass (λasy=>as_ false asy cr nsr b_2 asj (λasD ast=>k0 cr nsr asD ast)))) (as0 false a (λnr=>as0 false b (λask=>cond (decide (ask<nr)) (Ub N atA ass as_ as0 asP asC atj ash asz neg a b b_1 b_2 ask k0) (Ub N atA ass as_ as0 asP asC atj ash asz neg a b b_1 b_2 nr k0)))))
end
def RN (N:Nat):yw:=Wk N (FM N) (qX N) (ES N) (DF N) (Cm N) (AQ N) (Gk N) (wh N) (vq N)
abbrev GK:=Bool->Bool->Bool->LI->(Kx5)->Bool
def YP (N:Nat) (ass:l7) (avY:yw) (b b_1 b_2:Bool) (b_3:LI) (k0:Kx5):Bool:=
 (ass (λnsr=>avY b_2 b_3 nsr b b_1 (λcr asj asD asy=>k0 cr asj asD asy)))
def UT (N:Nat):GK:=YP N (qX N) (RN N)
abbrev G3:=Int->Bool->(Ky1)->Bool
def Ud (N:Nat) (atC:tm) (atq:pP) (n:Int) (b:Bool) (u:Int) (k0:Ky1):Bool:=
 (atC u (λnsr=>atq (decide (n<0)) nsr b (λcr asj=>k0 cr asj)))
def Kp (N:Nat) (atC:tm) (atq:pP) (n:Int) (b:Bool) (k0:Ky1):Bool:=
 (cond (decide (n<0)) (Ud N atC atq n b (IntKind.wrap .u64 (0 - (IntKind.wrap .u64 n))) k0) (Ud N atC atq n b (IntKind.wrap .u64 n) k0))
def ad6 (N:Nat):G3:=Kp N (Lh N) (Jj N)
abbrev Hk:=Int->(Ky1)->Bool
def ZG (N:Nat) (ayp:G3) (n:Int) (k0:Ky1):Bool:=
 (ayp n false (λcr nsr=>k0 cr nsr))
def Pm (N:Nat):Hk:=ZG N (ad6 N)
abbrev Nr:=Bool->Bool->Bool->LI->Bool->LI->(Kx5)->Bool
def amI (N:Nat) (avY:yw) (b b_1 b_2:Bool) (b_3:LI) (b_4:Bool) (b_5:LI) (k0:Kx5):Bool:=
 (avY (b_2 != b_4) b_3 b_5 b b_1 (λcr nsr asD asj=>k0 cr nsr asD asj))
def an7 (N:Nat):Nr:=amI N (RN N)
abbrev GU:=Int->Bool->LI->(Kx5)->Bool
def Y9 (N:Nat) (aya:GN) (axC:GK) (ayF:Hk) (awp:BA) (az7:Nr) (x:Int) (b:Bool) (b_1:LI) (k0:Kx5):Bool:=
 (cond (decide (x>=0)) (aya x 0 b b_1 (axC false false b b_1 (λcr nsr asD asj=>k0 cr nsr asD asj)) (λatH asy=>axC false false atH asy (λaus ast av9 asp=>k0 aus ast av9 asp))) (ayF 1 (λay_ aso=>aj .i64 (0 - x)&&awp (IntKind.wrap .u64 (0 - x)) false ay_ aso (λazS s6=>az7 false false b b_1 azS s6 (λazT s7 c8 s8=>k0 azT s7 c8 s8)))))
def ad2 (N:Nat):GU:=Y9 N (UX N) (UT N) (Pm N) (Pe N) (an7 N)
abbrev Ed:=Fl->(Kx5)->Bool
def ZC (N:Nat) (ayU:HC) (ayh:GU) (x:Fl) (k0:Kx5):Bool:=
 (ayU x (λnr cr nsr=>ayh nr cr nsr (λasD asj atH asy=>k0 asD asj atH asy)))
def Vf (N:Nat):Ed:=ZC N (Vu N) (ad2 N)
abbrev Hp:=Int->Int->LF->(List RY2->Bool)->Bool
def mn (N:Nat) (auB:Ed) (ayX:LF) (azj axa axb r_2 r_3:Int) (e0:List RY2->Bool):(Int × List RY2)->((Int × List RY2)->Bool)->Bool:=λv_ K=>match v_ with
 | (awT,b2)=>(cond (decide (awT<azj)) (inR awT ayX.length&&auB (ayX.getD awT.toNat none) (λatH asy aus ast=>decide ((List.length b2+1)*8<=140737488355328)&&(aj .i64 (awT+1)&&K ((awT+1),(b2++[((atH,asy),(aus,ast))]))))) (e0 b2))
def T6 (N:Nat) (auB:Ed) (m_0 m_1:Int) (m_2:LF) (k0:List RY2->Bool):Bool:=
 (ah N (mn N auB m_2 ((m_2.length:Nat):Int) 0 0 m_0 m_1 (λ(axY:List RY2)=>k0 axY)) (0,[]))
def Vk (N:Nat):Hp:=T6 N (Vf N)
abbrev Ht:=Int->Int->LF->(List RY2->Bool)->Bool
def ZN (N:Nat) (ayJ:Hp) (m_0 m_1:Int) (m_2:LF) (k0:List RY2->Bool):Bool:=
 (ayJ m_0 m_1 m_2 (λ(lr:List RY2)=>k0 lr))
def ael (N:Nat):Ht:=ZN N (Vk N)
abbrev Eb:=Int->Int->(List RY2->Bool)->Bool
def lc (N:Nat) (aw6 aw2 awO awP m_2 m_3:Int) (e0:List RY2->Bool):(Int × List RY2)->((Int × List RY2)->Bool)->Bool:=λv_ K=>match v_ with
 | (i_1,b2)=>(aj .i64 (aw6*aw2)&&cond (decide (i_1<(aw6*aw2))) (decide ((List.length b2+1)*8<=140737488355328)&&(aj .i64 (i_1+1)&&K ((i_1+1),(b2++[((false,[]),(false,[]))])))) (e0 b2))
def TZ (N:Nat) (rows cols:Int) (k0:List RY2->Bool):Bool:=
 (ah N (lc N rows cols 0 0 rows cols (λ(axY:List RY2)=>k0 axY)) (0,[]))
def Vb (N:Nat):Eb:=TZ N
abbrev Ea:=Bool->LI->Bool->LI->(Kz4)->Bool
def Zn (N:Nat) (ass:l7) (r_0:Bool) (r_1:LI) (r_2:Bool) (r_3:LI) (k0:Kz4):Bool:=
 (cond (((r_3.length:Nat):Int)==0) (ass (λnsr=>k0 nsr)) (k0 r_3))
def U9 (N:Nat):Ea:=Zn N (qX N)
abbrev G_:=Bool->Bool->LI->Bool->LI->LI->(Kx8)->Bool
def Zu (N:Nat) (SQ7:jN) (neg b:Bool) (b_1:LI) (b_2:Bool) (b_3 b_4:LI) (k0:Kx8):Bool:=
 (SQ7 b_4 (λmr=>cond (neg==true) (k0 (decide (((mr:Nat):Int)>0)) 0 mr) (k0 false 0 mr)))
def aea (N:Nat):G_:=Zu N (sQ7 N)
abbrev G9:=Bool->Bool->Nat->Nat->Bool->LI->LI->LI->(Kx8)->Bool
def Zr (N:Nat) (SQ7:jN) (neg b:Bool) (b_1 b_2:Nat) (b_3:Bool) (b_4 b_5 b_6:LI) (k0:Kx8):Bool:=
 (SQ7 b_5 (λmr=>cond (neg==true) (k0 (decide (((mr:Nat):Int)>0)) 0 mr) (k0 false 0 mr)))
def ad_ (N:Nat):G9:=Zr N (sQ7 N)
abbrev D7:=Bool->LI->Bool->LI->Bool->LI->Bool->LI->(Kx5)->Bool
def YR (N:Nat) (awZ:Ea) (ayw:G_) (ayv:G9) (x_0:Bool) (x_1:LI) (x_2:Bool) (x_3:LI) (b:Bool) (b_1:LI) (b_2:Bool) (b_3:LI) (k0:Kx5):Bool:=
 (decide ((List.length ([]++x_1))*4<=140737488355328)&&awZ x_0 x_1 x_2 x_3 (λnsr=>decide ((List.length ([]++nsr))*4<=140737488355328)&&ayw x_0 b b_1 b_2 b_3 ([]++x_1) (λcr mr auL=>ayv false cr mr auL b_2 b_3 ([]++nsr) ([]++x_1) (λasD aty ay6=>decide ((mr+auL)<=(List.length ([]++x_1)))&&(decide ((aty+ay6)<=(List.length ([]++nsr)))&&k0 cr (List.take auL (List.drop mr ([]++x_1))) asD (List.take ay6 (List.drop aty ([]++nsr))))))))
def UU (N:Nat):D7:=YR N (U9 N) (aea N) (ad_ N)
abbrev HF:=Int->Int->List RY3->(List RY2->Bool)->Bool
def JH (N:Nat) (auA:Eb) (auz:D7) (t12 m m_3:Int) (m_4:List RY3) (t2 axj t t_1:Int) (e0:List RY2->Bool):(Int × List RY2)->((Int × List RY2)->Bool)->Bool:=λv_ K=>match v_ with
 | (t13,b3)=>(cond (decide (t13<t12)) (inR t13 b3.length&&(decide (t13.toNat<b3.length)&&(inR t13 m_4.length&&auz (m_4.getD t13.toNat ((false,[]),(false,[]))).1.1 (m_4.getD t13.toNat ((false,[]),(false,[]))).1.2 (m_4.getD t13.toNat ((false,[]),(false,[]))).2.1 (m_4.getD t13.toNat ((false,[]),(false,[]))).2.2 (b3.getD t13.toNat ((false,[]),(false,[]))).1.1 (b3.getD t13.toNat ((false,[]),(false,[]))).1.2 (b3.getD t13.toNat ((false,[]),(false,[]))).2.1 (b3.getD t13.toNat ((false,[]),(false,[]))).2.2 (λcr nsr asD asj=>aj .i64 (t13+1)&&K ((t13+1),(b3.set t13.toNat ((cr,nsr),(asD,asj)))))))) (e0 b3))
def ahg (N:Nat) (auA:Eb) (auz:D7) (m_0 m_1:Int) (m_2:List RY3) (k0:List RY2->Bool):Bool:=
 (auA m_0 m_1 (λ(lr:List RY2)=>ah N (JH N auA auz ((m_2.length:Nat):Int) m_0 m_1 m_2 0 0 m_0 m_1 (λ(b2:List RY2)=>k0 b2)) (0,lr)))
def RO (N:Nat):HF:=ahg N (Vb N) (UU N)
abbrev A2:=Int->Int->Int->Int->List RY2->(Kz1)->Bool
def amo (N:Nat) (m_0 m_1 i j:Int) (b:List RY2) (k0:Kz1):Bool:=
 (aj .i64 (i*m_1)&&(aj .i64 ((i*m_1)+j)&&(inR ((i*m_1)+j) b.length&&(decide ((Int.toNat ((i*m_1)+j))<b.length)&&k0 (Int.toNat ((i*m_1)+j))))))
def Ps (N:Nat):A2:=amo N
abbrev HB:=Bool->LI->Bool->LI->(Kz0)->Bool
def ZS (N:Nat) (z_0:Bool) (z_1:LI) (z_2:Bool) (z_3:LI) (k0:Kz0):Bool:=
 (cond (((z_1.length:Nat):Int)==0) (k0 0) (cond z_0 (k0 (-1)) (k0 1)))
def aen (N:Nat):HB:=ZS N
abbrev HN:=Bool->LI->Bool->LI->(Kz0)->Bool
def amL (N:Nat) (ayT:HB) (r_0:Bool) (r_1:LI) (r_2:Bool) (r_3:LI) (k0:Kz0):Bool:=
 (ayT r_0 r_1 r_2 r_3 (λnr=>k0 nr))
def RW (N:Nat):HN:=amL N (aen N)
abbrev xx:=Bool->LI->Bool->LI->(Kz4)->Bool
def amp (N:Nat) (ass:l7) (b:Bool) (b_1:LI) (b_2:Bool) (b_3:LI) (k0:Kz4):Bool:=
 (cond (((b_3.length:Nat):Int)==0) (ass (λnsr=>k0 nsr)) (k0 b_3))
def RK (N:Nat):xx:=amp N (qX N)
abbrev Hv:=Bool->Bool->Bool->LI->Bool->LI->Bool->LI->Bool->LI->(Kx5)->Bool
def aml (N:Nat) (au_:xx) (at7:pQ) (avY:yw) (b b_1 b_2:Bool) (b_3:LI) (b_4:Bool) (b_5:LI) (b_6:Bool) (b_7:LI) (b_8:Bool) (b_9:LI) (k0:Kx5):Bool:=
 (au_ b_6 b_7 b_8 b_9 (λnsr=>at7 b_3 nsr (λasj=>au_ b_2 b_3 b_4 b_5 (λasy=>at7 asy b_7 (λast=>avY (b_2 != b_6) asj ast b b_1 (λcr asp asD aso=>k0 cr asp asD aso))))))
def RI (N:Nat):Hv:=aml N (RK N) (DD N) (RN N)
abbrev Kv:=Bool->Bool->Bool->LI->Bool->LI->Bool->LI->Bool->LI->(Kx5)->Bool
def amv (N:Nat) (at7:pQ) (au_:xx) (avY:yw) (b b_1 b_2:Bool) (b_3:LI) (b_4:Bool) (b_5:LI) (b_6:Bool) (b_7:LI) (b_8:Bool) (b_9:LI) (k0:Kx5):Bool:=
 (at7 b_3 b_7 (λnsr=>au_ b_2 b_3 b_4 b_5 (λasj=>au_ b_6 b_7 b_8 b_9 (λasy=>at7 asj asy (λast=>avY (b_2 != b_6) nsr ast b b_1 (λcr asp asD aso=>k0 cr asp asD aso))))))
def ajq (N:Nat):Kv:=amv N (DD N) (RK N) (RN N)
abbrev GT:=Bool->LI->Bool->LI->Bool->LI->Bool->LI->(Ky8)->Bool
def Y8 (N:Nat) (au_:xx) (at7:pQ) (b:Bool) (b_1:LI) (b_2:Bool) (b_3:LI) (b_4:Bool) (b_5:LI) (b_6:Bool) (b_7:LI) (k0:Ky8):Bool:=
 (au_ b_4 b_5 b_6 b_7 (λnsr=>at7 b_1 nsr (λasj=>au_ b b_1 b_2 b_3 (λasy=>at7 b_5 asy (λast=>k0 asj ast)))))
def ad1 (N:Nat):GT:=Y8 N (RK N) (DD N)
abbrev Hy:=LI->LI->(Kz4)->Bool
def lm (N:Nat) (SQ7:jN) (a_1 b_1:LI) (e0:Ky5):(Int × Int × LI)->((Int × Int × LI)->Bool)->Bool:=λv_ K=>match v_ with
 | (carry,i,out)=>(cond (decide (i<((a_1.length:Nat):Int))) (inR i a_1.length&&cond (decide (i<((b_1.length:Nat):Int))) (inR i b_1.length&&(inR i out.length&&(decide (i.toNat<out.length)&&(aj .i64 (i+1)&&K ((Int.fdiv (IntKind.wrap .u64 ((IntKind.wrap .u64 ((IntKind.wrap .u64 (a_1.getD i.toNat 0))+carry))+(IntKind.wrap .u64 (b_1.getD i.toNat 0)))) (2 ^ 32)),(i+1),(out.set i.toNat (IntKind.wrap .u32 (IntKind.wrap .u64 ((IntKind.wrap .u64 ((IntKind.wrap .u64 (a_1.getD i.toNat 0))+carry))+(IntKind.wrap .u64 (b_1.getD i.toNat 0))))))))))) (inR i out.length&&(decide (i.toNat<out.length)&&(aj .i64 (i+1)&&K ((Int.fdiv (IntKind.wrap .u64 ((IntKind.wrap .u64 (a_1.getD i.toNat 0))+carry)) (2 ^ 32)),(i+1),(out.set i.toNat (IntKind.wrap .u32 (IntKind.wrap .u64 ((IntKind.wrap .u64 (a_1.getD i.toNat 0))+carry))))))))) (e0 carry out))
def T_ (N:Nat) (SQ7:jN) (a b:LI) (k0:Kz4):Bool:=
 (cond (decide (((a.length:Nat):Int)<((b.length:Nat):Int))) (aj .i64 (((b.length:Nat):Int)+1)&&(mF 4 (((b.length:Nat):Int)+1) (((b.length:Nat):Int)+1)&&ah N (lm N SQ7 b a (λatZ ate=>inR ((b.length:Nat):Int) ate.length&&(decide ((Int.toNat ((b.length:Nat):Int))<ate.length)&&SQ7 (ate.set (Int.toNat ((b.length:Nat):Int)) (IntKind.wrap .u32 atZ)) (λmr=>decide ((0+mr)<=(List.length (ate.set (Int.toNat ((b.length:Nat):Int)) (IntKind.wrap .u32 atZ))))&&k0 (List.take mr (List.drop 0 (ate.set (Int.toNat ((b.length:Nat):Int)) (IntKind.wrap .u32 atZ)))))))) (0,0,(List.replicate (Int.toNat (((b.length:Nat):Int)+1)) (0:Int))))) (aj .i64 (((a.length:Nat):Int)+1)&&(mF 4 (((a.length:Nat):Int)+1) (((a.length:Nat):Int)+1)&&ah N (lm N SQ7 a b (λat6 av1=>inR ((a.length:Nat):Int) av1.length&&(decide ((Int.toNat ((a.length:Nat):Int))<av1.length)&&SQ7 (av1.set (Int.toNat ((a.length:Nat):Int)) (IntKind.wrap .u32 at6)) (λauL=>decide ((0+auL)<=(List.length (av1.set (Int.toNat ((a.length:Nat):Int)) (IntKind.wrap .u32 at6))))&&k0 (List.take auL (List.drop 0 (av1.set (Int.toNat ((a.length:Nat):Int)) (IntKind.wrap .u32 at6)))))))) (0,0,(List.replicate (Int.toNat (((a.length:Nat):Int)+1)) (0:Int))))))
def Vr (N:Nat):Hy:=T_ N (sQ7 N)
abbrev G0:=Bool->Bool->Bool->LI->Bool->LI->(Ky1)->Bool
def Zg (N:Nat) (ayQ:Hy) (atq:pP) (ash:l6) (awd:BH) (turn b b_1:Bool) (b_2:LI) (b_3:Bool) (b_4:LI) (k0:Ky1):Bool:=
 (cond (b_1==(b_3 != turn)) (ayQ b_2 b_4 (λnsr=>atq (b_3 != turn) nsr b (λcr asj=>k0 cr asj))) (ash b_2 b_4 (λnr=>cond (decide (nr>=0)) (awd b_2 b_4 (λasy=>atq b_1 asy b (λasD ast=>k0 asD ast))) (awd b_4 b_2 (λasp=>atq (b_3 != turn) asp b (λatH aso=>k0 atH aso))))))
def U7 (N:Nat):G0:=Zg N (Vr N) (Jj N) (wh N) (Pk N)
abbrev GZ:=Bool->Bool->LI->Bool->LI->(Ky1)->Bool
def Zf (N:Nat) (ayn:G0) (b b_1:Bool) (b_2:LI) (b_3:Bool) (b_4:LI) (k0:Ky1):Bool:=
 (ayn true b b_1 b_2 b_3 b_4 (λcr nsr=>k0 cr nsr))
def U6 (N:Nat):GZ:=Zf N (U7 N)
abbrev Bm:=Bool->LI->Bool->LI->Bool->LI->(Ky1)->Bool
def TN (N:Nat) (auX:tn) (neg:Bool) (m:LI) (b:Bool) (b_1:LI) (b_2:Bool) (b_3:LI) (k0:Ky1):Bool:=
 (auX m (λnsr=>cond (neg==true) (k0 (decide (((nsr.length:Nat):Int)>0)) nsr) (k0 false nsr)))
def FL (N:Nat):Bm:=TN N (FP N)
abbrev GO:=Bool->LI->LI->Bool->LI->Bool->LI->(Kx5)->Bool
section
variable (N:Nat) (atz:Bm) (ass:l7) (as_:yz) (as0:yp) (asP:uF) (asC:tu) (atj:yA) (ash:l6) (asz:tx)
def GG (N:Nat) (atz:Bm) (ass:l7) (as_:yz) (as0:yp) (asP:uF) (asC:tu) (atj:yA) (ash:l6) (asz:tx) (neg:Bool) (a b:LI) (b_1:Bool) (b_2:LI) (b_3:Bool) (b_4 a_1 b_5:LI) (k0:Kx5):Bool:=
 (atz neg a_1 b_1 b_2 b_3 b_4 (λatH s11=>as_ false b_5 atH s11 b_3 b_4 (λaus s12=>k0 atH s11 aus s12)))
def Uc (neg:Bool) (a b:LI) (b_1:Bool) (b_2:LI) (b_3:Bool) (b_4:LI) (n:Int) (k0:Kx5):Bool:=
 (asP a n (λast=>asP b n (λasp=>as0 false asp (λasl=>aj .i64 asl&&asC false asp (λatd=>aj .i64 (atd - 1)&&cond (asl != (atd - 1)) (atj ast asp (λaso=>ass (λs6=>ash aso s6 (λat9=>cond (at9 != 0) (asz ast aso (λs7 s8=>asz asp aso (λs9 s10=>GG N atz ass as_ as0 asP asC atj ash asz neg a b b_1 b_2 b_3 b_4 s7 s9 k0))) (GG N atz ass as_ as0 asP asC atj ash asz neg a b b_1 b_2 b_3 b_4 ast asp k0))))) (GG N atz ass as_ as0 asP asC atj ash asz neg a b b_1 b_2 b_3 b_4 ast asp k0))))))
def Kl (neg:Bool) (a b:LI) (b_1:Bool) (b_2:LI) (b_3:Bool) (b_4:LI) (k0:Kx5):Bool:=
 (cond (((a.length:Nat):Int)==0) (atz false [] b_1 b_2 b_3 b_4 (λcr nsr=>ass (λasj=>as_ false asj cr nsr b_3 b_4 (λasD asy=>k0 cr nsr asD asy)))) (as0 false a (λnr=>as0 false b (λask=>cond (decide (ask<nr)) (Uc N atz ass as_ as0 asP asC atj ash asz neg a b b_1 b_2 b_3 b_4 ask k0) (Uc N atz ass as_ as0 asP asC atj ash asz neg a b b_1 b_2 b_3 b_4 nr k0)))))
end
def UY (N:Nat):GO:=Kl N (FL N) (qX N) (ES N) (DF N) (Cm N) (AQ N) (Gk N) (wh N) (vq N)
abbrev Kx:=Bool->LI->Bool->LI->Bool->LI->Bool->LI->(Kx5)->Bool
def amy (N:Nat) (ayg:GT) (au_:xx) (at7:pQ) (aym:GZ) (ayb:GO) (b:Bool) (b_1:LI) (b_2:Bool) (b_3:LI) (b_4:Bool) (b_5:LI) (b_6:Bool) (b_7:LI) (k0:Kx5):Bool:=
 (ayg b b_1 b_2 b_3 b_4 b_5 b_6 b_7 (λnsr asj=>au_ b b_1 b_2 b_3 (λasy=>au_ b_4 b_5 b_6 b_7 (λast=>at7 asy ast (λasp=>aym false b nsr b_4 asj (λcr aso=>ayb cr aso asp b b_1 b_2 b_3 (λasD s6 atH s7=>k0 asD s6 atH s7)))))))
def ajt (N:Nat):Kx:=amy N (ad1 N) (RK N) (DD N) (U6 N) (UY N)
abbrev HD:=Int->Int->Int->Int->List RY2->Bool->LI->Bool->LI->(List RY2->Bool)->Bool
def JG (N:Nat) (as7:A2) (avF:Kv) (avG:Kx) (i_1 axu:Int) (r:Bool) (r_1:LI) (r_2:Bool) (r_3:LI) (m m_2:Int) (e0:List RY2->Bool):(Int × List RY2)->((Int × List RY2)->Bool)->Bool:=λv_ K=>match v_ with
 | (j,b0)=>(cond (decide (j<m_2)) (as7 m m_2 i_1 j b0 (λmr=>as7 m m_2 i_1 j b0 (λauL=>as7 m m_2 axu j b0 (λaty=>avF false false r r_1 r_2 r_3 (b0.getD aty ((false,[]),(false,[]))).1.1 (b0.getD aty ((false,[]),(false,[]))).1.2 (b0.getD aty ((false,[]),(false,[]))).2.1 (b0.getD aty ((false,[]),(false,[]))).2.2 (λcr nsr asD asj=>decide (auL=mr)&&avG (List.getD (b0.set aty (((b0.getD aty ((false,[]),(false,[]))).1.1,(b0.getD aty ((false,[]),(false,[]))).1.2),((b0.getD aty ((false,[]),(false,[]))).2.1,(b0.getD aty ((false,[]),(false,[]))).2.2))) mr ((false,[]),(false,[]))).1.1 (List.getD (b0.set aty (((b0.getD aty ((false,[]),(false,[]))).1.1,(b0.getD aty ((false,[]),(false,[]))).1.2),((b0.getD aty ((false,[]),(false,[]))).2.1,(b0.getD aty ((false,[]),(false,[]))).2.2))) mr ((false,[]),(false,[]))).1.2 (List.getD (b0.set aty (((b0.getD aty ((false,[]),(false,[]))).1.1,(b0.getD aty ((false,[]),(false,[]))).1.2),((b0.getD aty ((false,[]),(false,[]))).2.1,(b0.getD aty ((false,[]),(false,[]))).2.2))) mr ((false,[]),(false,[]))).2.1 (List.getD (b0.set aty (((b0.getD aty ((false,[]),(false,[]))).1.1,(b0.getD aty ((false,[]),(false,[]))).1.2),((b0.getD aty ((false,[]),(false,[]))).2.1,(b0.getD aty ((false,[]),(false,[]))).2.2))) mr ((false,[]),(false,[]))).2.2 cr nsr asD asj (λatH asy aus ast=>aj .i64 (j+1)&&K ((j+1),(List.set (b0.set aty (((b0.getD aty ((false,[]),(false,[]))).1.1,(b0.getD aty ((false,[]),(false,[]))).1.2),((b0.getD aty ((false,[]),(false,[]))).2.1,(b0.getD aty ((false,[]),(false,[]))).2.2))) mr ((atH,asy),(aus,ast)))))))))) (e0 b0))
def ahd (N:Nat) (as7:A2) (avF:Kv) (avG:Kx) (m_0 m_1 i k_:Int) (b:List RY2) (b_1:Bool) (b_2:LI) (b_3:Bool) (b_4:LI) (k0:List RY2->Bool):Bool:=
 (ah N (JG N as7 avF avG i k_ b_1 b_2 b_3 b_4 m_0 m_1 (λ(ave:List RY2)=>k0 ave)) (0,b))
def RJ (N:Nat):HD:=ahd N (Ps N) (ajq N) (ajt N)
abbrev G2:=Int->Int->List RY3->(Kz0)->Bool
section
variable (N:Nat) (atU:HF) (as7:A2) (atK:HN) (atS:Hv) (atT:HD)
def zS (N:Nat) (atU:HF) (as7:A2) (atK:HN) (atS:Hv) (atT:HD) (c_1 a_2 a_3:Int) (axp:List RY2) (e0:Kz0) (e1:Bool):(Int)->((Int)->Bool)->Bool:=λv_ K=>match v_ with
 | j=>(cond (decide (j<a_3)) (as7 a_2 a_3 c_1 j axp (λauL=>atK (axp.getD auL ((false,[]),(false,[]))).1.1 (axp.getD auL ((false,[]),(false,[]))).1.2 (axp.getD auL ((false,[]),(false,[]))).2.1 (axp.getD auL ((false,[]),(false,[]))).2.2 (λasl=>cond (asl != 0) (e0 1) (aj .i64 (j+1)&&K (j+1))))) e1)
def E3 (N:Nat) (atU:HF) (as7:A2) (atK:HN) (atS:Hv) (atT:HD) (aw7 c_2:Int) (d:Nat) (a_4 a_5:Int) (e0:List RY2->Bool):(Int × List RY2)->((Int × List RY2)->Bool)->Bool:=λv_ K=>match v_ with
 | (i,d_1)=>(cond (decide (i<a_4)) (as7 a_4 a_5 i c_2 d_1 (λaty=>((!decide (d=aty))&&true)&&atS false false (d_1.getD aty ((false,[]),(false,[]))).1.1 (d_1.getD aty ((false,[]),(false,[]))).1.2 (d_1.getD aty ((false,[]),(false,[]))).2.1 (d_1.getD aty ((false,[]),(false,[]))).2.2 (d_1.getD d ((false,[]),(false,[]))).1.1 (d_1.getD d ((false,[]),(false,[]))).1.2 (d_1.getD d ((false,[]),(false,[]))).2.1 (d_1.getD d ((false,[]),(false,[]))).2.2 (λcr nsr asD asj=>atT a_4 a_5 i c_2 (List.set (d_1.set d (((d_1.getD d ((false,[]),(false,[]))).1.1,(d_1.getD d ((false,[]),(false,[]))).1.2),((d_1.getD d ((false,[]),(false,[]))).2.1,(d_1.getD d ((false,[]),(false,[]))).2.2))) aty (((d_1.getD aty ((false,[]),(false,[]))).1.1,(d_1.getD aty ((false,[]),(false,[]))).1.2),((d_1.getD aty ((false,[]),(false,[]))).2.1,(d_1.getD aty ((false,[]),(false,[]))).2.2))) cr nsr asD asj (λ(aEn:List RY2)=>aj .i64 (i+1)&&K ((i+1),aEn))))) (e0 d_1))
def zR (a a_1:Int) (e0:Kz0) (e1:Kz0):(Int × Int × List RY2)->((Int × Int × List RY2)->Bool)->Bool:=λv_ K=>match v_ with
 | (sign,c,b1)=>(cond (decide (c<a)) (as7 a a_1 c c b1 (λmr=>atK (b1.getD mr ((false,[]),(false,[]))).1.1 (b1.getD mr ((false,[]),(false,[]))).1.2 (b1.getD mr ((false,[]),(false,[]))).2.1 (b1.getD mr ((false,[]),(false,[]))).2.2 (λnr=>cond (decide (nr<0)) (e0 1) (atK (b1.getD mr ((false,[]),(false,[]))).1.1 (b1.getD mr ((false,[]),(false,[]))).1.2 (b1.getD mr ((false,[]),(false,[]))).2.1 (b1.getD mr ((false,[]),(false,[]))).2.2 (λask=>cond (ask==0) (aj .i64 (c+1)&&ah N (zS N atU as7 atK atS atT c a a_1 b1 (λt2=>e0 t2) (aj .i64 (c+1)&&K (2,(c+1),b1))) (c+1)) (aj .i64 (c+1)&&ah N (E3 N atU as7 atK atS atT sign c mr a a_1 (λ(awQ:List RY2)=>aj .i64 (c+1)&&K (sign,(c+1),awQ))) ((c+1),b1))))))) (e1 sign))
def TX (m_0 m_1:Int) (m_2:List RY3) (k0:Kz0):Bool:=
 (atU m_0 m_1 m_2 (λ(lr:List RY2)=>ah N (zR N atU as7 atK atS atT m_0 m_1 (λaxj=>k0 axj) (λaCF=>k0 aCF)) (3,0,lr)))
end
def ad5 (N:Nat):G2:=TX N (RO N) (Ps N) (RW N) (RI N) (RJ N)
abbrev G7:=Int->Int->LF->(Ky9)->Bool
def Zm (N:Nat) (ayM:Ht) (ayo:G2) (m_0 m_1:Int) (m_2:LF) (k0:Ky9):Bool:=
 (ayM m_0 m_1 m_2 (λ(lr:List RY2)=>ayo m_0 m_1 lr (λnr=>k0 (nr==3))))
def U8 (N:Nat):G7:=Zm N (ael N) (ad5 N)
abbrev CJ:=LF->Int->Int->LF->(Kz0)->Bool
def amj (N:Nat) (ayN:Hu) (ayt:G7) (s_0:LF) (s_1 s_2:Int) (s_3:LF) (k0:Kz0):Bool:=
 (ayN s_0 s_1 s_2 s_3 (λnr=>cond (nr != 0) (k0 nr) (ayt s_1 s_2 s_3 (λcr=>cond (!cr) (k0 151) (k0 0)))))
def Xr (N:Nat):CJ:=amj N (aem N) (U8 N)
abbrev Ku:=Fl->Bool->(Ky9)->Bool
def amm (N:Nat) (avA:E_) (x:Fl) (b:Bool) (k0:Ky9):Bool:=
 (cond (b==false) (avA x (λcr=>k0 (!cr))) (k0 true))
def ajp (N:Nat):Ku:=amm N (aei N)
abbrev Ee:=LF->Int->Int->LF->(Ky7)->Bool
def pe (N:Nat) (auY:CJ) (at1:CQ) (av6:Ku) (t17:Int) (t:LF) (t_4 t_5:Int) (t_6:LF) (e0:Ky3):(Fl × Int × Bool)->((Fl × Int × Bool)->Bool)->Bool:=λv_ K=>match v_ with
 | (x,t18,s)=>(cond (decide (t18<t17)) (at1 t_4 t_5 t_6 t18 t18 (λxr=>av6 (nZ x xr) s (λcr=>aj .i64 (t18+1)&&K ((nZ x xr),(t18+1),cr)))) (e0 x s))
def T5 (N:Nat) (auY:CJ) (at1:CQ) (av6:Ku) (t_0:LF) (t_1 t_2:Int) (t_3:LF) (k0:Ky7):Bool:=
 (auY t_0 t_1 t_2 t_3 (λnr=>cond (nr != 0) (k0 (some 0) nr) (ah N (pe N auY at1 av6 ((t_0.length:Nat):Int) t_0 t_1 t_2 t_3 (λx_1 s_1=>cond s_1 (k0 (some 0) 5) (k0 x_1 0))) ((some 0),0,false))))
def Vh (N:Nat):Ee:=T5 N (Xr N) (aep N) (ajp N)
abbrev P8:=Fl->Fl->(Ky9)->Bool
def GQ3 (N:Nat) (avn:wH) (a b:Fl) (k0:Ky9):Bool:=
 (avn a (λnr=>avn b (λask=>k0 (nr==ask))))
def sQ3 (N:Nat):P8:=GQ3 N (Lj N)
abbrev ka:=Int->LF->Fl->(Kz0)->Bool
def A1 (N:Nat) (as2:rT) (n:Int) (h:LF) (r:Fl) (k0:Kz0):Bool:=
 (cond (((h.length:Nat):Int) != n) (k0 3) (as2 h (λcr=>cond (!cr) (k0 4) (as2 [r] (λasD=>cond (!asD) (k0 4) (cond (fle r (some 0)) (k0 152) (k0 0)))))))
def Bg (N:Nat):ka:=A1 N (RM N)
abbrev lj:=Int->Int->LF->Int->(Kz3)->Bool
def CF (N:Nat) (m_0 m_1:Int) (m_2:LF) (i:Int) (k0:Kz3):Bool:=
 (aj .i64 (i*m_1)&&(aj .i64 (i+1)&&(aj .i64 ((i+1)*m_1)&&(decide (0<=(i*m_1)/\(i*m_1)<=((i+1)*m_1)/\((i+1)*m_1)<=((m_2.length:Nat):Int))&&k0 (List.drop (Int.toNat (i*m_1)) (List.take (Int.toNat ((i+1)*m_1)) m_2))))))
def DK (N:Nat):lj:=CF N
abbrev yB:=Fl->(Kz2)->Bool
def Gx (N:Nat):yB:=λx k=>k (Nu x)
abbrev wF:=Fl->Int->(Ky9)->Bool
def akX (N:Nat) (awf:yB) (f:Fl) (sign:Int) (k0:Ky9):Bool:=
 (cond (sign==0) (awf f (λxr=>k0 (fgt xr (some 9218868437227405311)))) (cond (decide (sign<0)) (k0 (fgt (am7 f) (some 9218868437227405311))) (k0 (fgt f (some 9218868437227405311)))))
def Ve (N:Nat):wF:=akX N (Gx N)
abbrev wA:=Fl->Bool->LF->Int->Int->LF->LF->Fl->Fl->Fl->(Ky9)->Bool
def akS (N:Nat) (avy:wF) (x:Fl) (b:Bool) (b_1:LF) (b_2 b_3:Int) (b_4 b_5:LF) (b_6 b_7 b_8:Fl) (k0:Ky9):Bool:=
 (cond ((!feq x x)==false) (avy x 0 (λcr=>cond cr (k0 true) (k0 b))) (k0 true))
def adV (N:Nat):wA:=akS N (Ve N)
abbrev Bt:=Fl->Fl->Bool->LF->Int->Int->LF->LF->Fl->Fl->Fl->(Ky3)->Bool
def akT (N:Nat) (aua:wA) (a b:Fl) (b_1:Bool) (b_2:LF) (b_3 b_4:Int) (b_5 b_6:LF) (b_7 b_8 b_9:Fl) (k0:Ky3):Bool:=
 (aua (QN a b) b_1 b_2 b_3 b_4 b_5 b_6 b_7 b_8 b_9 (λcr=>k0 (QN a b) cr))
def alu (N:Nat):Bt:=akT N (adV N)
abbrev Bs:=LF->LF->Bool->LF->Int->Int->LF->LF->Fl->Fl->Fl->(Ky3)->Bool
def rX (N:Nat) (auK:Bt) (aua:wA) (asW t10:LF) (t11:Int) (s_1:LF) (s_2 s_3:Int) (s_4 s_5:LF) (s_6 s_7 s_8:Fl) (e0:Ky3):(Fl × Int × Bool)->((Fl × Int × Bool)->Bool)->Bool:=λv_ K=>match v_ with
 | (t,t12,s)=>(cond (decide (t12<t11)) (inR t12 t10.length&&(inR t12 asW.length&&auK (t10.getD t12.toNat none) (asW.getD t12.toNat none) s s_1 s_2 s_3 s_4 s_5 s_6 s_7 s_8 (λxr cr=>aua (nZ t xr) cr s_1 s_2 s_3 s_4 s_5 s_6 s_7 s_8 (λasD=>aj .i64 (t12+1)&&K ((nZ t xr),(t12+1),asD))))) (e0 t s))
def YY (N:Nat) (auK:Bt) (aua:wA) (a b:LF) (b_1:Bool) (b_2:LF) (b_3 b_4:Int) (b_5 b_6:LF) (b_7 b_8 b_9:Fl) (k0:Ky3):Bool:=
 (ah N (rX N auK aua b a ((a.length:Nat):Int) b_2 b_3 b_4 b_5 b_6 b_7 b_8 b_9 (λt_1 b0=>k0 t_1 b0)) ((some 0),0,b_1))
def alt (N:Nat):Bs:=YY N (alu N) (adV N)
abbrev uW:=Fl->Bool->LF->Int->Int->LF->LF->Fl->Fl->Fl->LF->(Ky9)->Bool
def GQ6 (N:Nat) (avy:wF) (x:Fl) (b:Bool) (b_1:LF) (b_2 b_3:Int) (b_4 b_5:LF) (b_6 b_7 b_8:Fl) (b_9:LF) (k0:Ky9):Bool:=
 (cond ((!feq x x)==false) (avy x 0 (λcr=>cond cr (k0 true) (k0 b))) (k0 true))
def sQ6 (N:Nat):uW:=GQ6 N (Ve N)
abbrev CO:=Fl->Fl->Bool->LF->Int->Int->LF->LF->Fl->Fl->Fl->LF->(Ky3)->Bool
def aoV (N:Nat) (SQ6:uW) (a b:Fl) (b_1:Bool) (b_2:LF) (b_3 b_4:Int) (b_5 b_6:LF) (b_7 b_8 b_9:Fl) (asW:LF) (k0:Ky3):Bool:=
 (SQ6 (QN a b) b_1 b_2 b_3 b_4 b_5 b_6 b_7 b_8 b_9 asW (λcr=>k0 (QN a b) cr))
def an6 (N:Nat):CO:=aoV N (sQ6 N)
abbrev HQ:=LF->LF->Bool->LF->Int->Int->LF->LF->Fl->Fl->Fl->LF->(Ky3)->Bool
def q7 (N:Nat) (auk:CO) (SQ6:uW) (auh t10:LF) (t11:Int) (s_1:LF) (s_2 s_3:Int) (s_4 s_5:LF) (s_6 s_7 s_8:Fl) (b1:LF) (e0:Ky3):(Fl × Int × Bool)->((Fl × Int × Bool)->Bool)->Bool:=λv_ K=>match v_ with
 | (t,t12,s)=>(cond (decide (t12<t11)) (inR t12 t10.length&&(inR t12 auh.length&&auk (t10.getD t12.toNat none) (auh.getD t12.toNat none) s s_1 s_2 s_3 s_4 s_5 s_6 s_7 s_8 b1 (λxr cr=>SQ6 (nZ t xr) cr s_1 s_2 s_3 s_4 s_5 s_6 s_7 s_8 b1 (λasD=>aj .i64 (t12+1)&&K ((nZ t xr),(t12+1),asD))))) (e0 t s))
def amO (N:Nat) (auk:CO) (SQ6:uW) (a b:LF) (b_1:Bool) (b_2:LF) (b_3 b_4:Int) (b_5 b_6:LF) (b_7 b_8 b_9:Fl) (asW:LF) (k0:Ky3):Bool:=
 (ah N (q7 N auk SQ6 b a ((a.length:Nat):Int) b_2 b_3 b_4 b_5 b_6 b_7 b_8 b_9 asW (λt_1 b0=>k0 t_1 b0)) ((some 0),0,b_1))
def aqX (N:Nat):HQ:=amO N (an6 N) (sQ6 N)
abbrev HL:=LF->Bool->LF->Int->Int->LF->LF->Fl->Fl->Fl->LF->(Ky3)->Bool
def agD (N:Nat) (auk:CO) (SQ6:uW) (t10:LF) (t11:Int) (s_1:LF) (s_2 s_3:Int) (s_4 s_5:LF) (s_6 s_7 s_8:Fl) (asW:LF) (e0:Ky3):(Fl × Int × Bool)->((Fl × Int × Bool)->Bool)->Bool:=λv_ K=>match v_ with
 | (t,t12,s)=>(cond (decide (t12<t11)) (inR t12 t10.length&&(inR t12 asW.length&&(decide (t12.toNat<asW.length)&&auk (t10.getD t12.toNat none) (asW.getD t12.toNat none) s s_1 s_2 s_3 s_4 s_5 s_6 s_7 s_8 asW (λxr cr=>SQ6 (nZ t xr) cr s_1 s_2 s_3 s_4 s_5 s_6 s_7 s_8 asW (λasD=>aj .i64 (t12+1)&&K ((nZ t xr),(t12+1),asD)))))) (e0 t s))
def amJ (N:Nat) (auk:CO) (SQ6:uW) (a:LF) (b:Bool) (b_1:LF) (b_2 b_3:Int) (b_4 b_5:LF) (b_6 b_7 b_8:Fl) (b_9:LF) (k0:Ky3):Bool:=
 (ah N (agD N auk SQ6 a ((a.length:Nat):Int) b_1 b_2 b_3 b_4 b_5 b_6 b_7 b_8 b_9 (λt_1 b0=>k0 t_1 b0)) ((some 0),0,b))
def aqW (N:Nat):HL:=amJ N (an6 N) (sQ6 N)
abbrev Bl:=Bool->LF->Int->Int->LF->LF->Fl->Fl->Fl->LF->(Bool)->Bool
def akR (N:Nat) (b:Bool) (b_1:LF) (b_2 b_3:Int) (b_4 b_5:LF) (b_6 b_7 b_8:Fl) (b_9:LF) (k0:Bool):Bool:=
 k0
def alp (N:Nat):Bl:=akR N
abbrev cL:=LF->Int->Int->LF->LF->Fl->(Kz0)->(Int->Bool->Fl->Fl->LF->Bool)->Bool
def rY (N:Nat) (asd:bX) (asx:ka) (asH:lj) (auS:Bs) (avH:HQ) (avO:HL) (SQ6:uW) (auJ:Bl) (h_2:LF) (r_2:Fl) (aAo:Int) (s_7:LF) (s_8 s_9:Int) (azi auH:LF) (avx av4:Int) (awl avw:LF) (awb avN avk:Fl) (e0:Ky4):(Int × Bool × LF)->((Int × Bool × LF)->Bool)->Bool:=λv_ K=>match v_ with
 | (axS,u_9,b2)=>(cond (decide (axS<aAo)) (asH s_8 s_9 azi axS (λauE=>avH auE h_2 u_9 auH avx av4 awl avw awb avN avk b2 (λavf asD=>decide ((List.length (b2++[avf]))*8<=140737488355328)&&(aj .i64 (axS+1)&&K ((axS+1),asD,(b2++[avf])))))) (e0 u_9 b2))
def pL (N:Nat) (asd:bX) (asx:ka) (asH:lj) (auS:Bs) (avH:HQ) (avO:HL) (SQ6:uW) (auJ:Bl) (s_0:LF) (s_1 s_2:Int) (s_3 h:LF) (r:Fl) (k0:Kz0) (k1:Int->Bool->Fl->Fl->LF->Bool):Bool:=
 (asd s_0 s_1 s_2 s_3 (λnr=>cond (nr != 0) (k0 nr) (asx ((s_0.length:Nat):Int) h r (λask=>cond (ask != 0) (k0 ask) (ah N (rY N asd asx asH auS avH avO SQ6 auJ h r ((s_0.length:Nat):Int) s_0 s_1 s_2 s_3 s_0 s_1 s_2 s_3 h r (some 0) (some 0) (λaxc axY=>avH h s_0 axc s_0 s_1 s_2 s_3 h r (some 0) (some 0) axY (λaxl atH=>avO h atH s_0 s_1 s_2 s_3 h r axl (some 0) axY (λay8 aus=>SQ6 (nZ ay8 r) aus s_0 s_1 s_2 s_3 h r axl (some 0) axY (λav9=>auJ av9 s_0 s_1 s_2 s_3 h r axl (nZ ay8 r) axY (cond av9 (k1 5 av9 axl (nZ ay8 r) axY) (cond (!(fgt (nZ ay8 r) (some 0))) (k1 153 av9 axl (nZ ay8 r) axY) (k1 0 av9 axl (nZ ay8 r) axY)))))))) (0,false,[]))))))
def wi (N:Nat):cL:=pL N (gR N) (Bg N) (DK N) (alt N) (aqX N) (aqW N) (sQ6 N) (alp N)
abbrev sa:=Fl->Bool->LF->Int->Int->LF->LF->Fl->Fl->Fl->LF->LF->(Ky9)->Bool
def GQ2 (N:Nat) (avy:wF) (x:Fl) (b:Bool) (b_1:LF) (b_2 b_3:Int) (b_4 b_5:LF) (b_6 b_7 b_8:Fl) (b_9 asW:LF) (k0:Ky9):Bool:=
 (cond ((!feq x x)==false) (avy x 0 (λcr=>cond cr (k0 true) (k0 b))) (k0 true))
def sQ2 (N:Nat):sa:=GQ2 N (Ve N)
abbrev um:=Fl->Fl->Bool->LF->Int->Int->LF->LF->Fl->Fl->Fl->LF->LF->(Ky3)->Bool
def GQ1 (N:Nat) (SQ2:sa) (a b:Fl) (b_1:Bool) (b_2:LF) (b_3 b_4:Int) (b_5 b_6:LF) (b_7 b_8 b_9:Fl) (asW auh:LF) (k0:Ky3):Bool:=
 (SQ2 (QN a b) b_1 b_2 b_3 b_4 b_5 b_6 b_7 b_8 b_9 asW auh (λcr=>k0 (QN a b) cr))
def sQ1 (N:Nat):um:=GQ1 N (sQ2 N)
abbrev aN:=Bool->LF->Int->Int->LF->LF->Fl->Fl->Fl->LF->LF->(Bool)->Bool
def lA (N:Nat) (b:Bool) (b_1:LF) (b_2 b_3:Int) (b_4 b_5:LF) (b_6 b_7 b_8:Fl) (b_9 asW:LF) (k0:Bool):Bool:=
 k0
def lK (N:Nat):aN:=lA N
abbrev ga:=Int->Int->Int->LF->(Nat->Nat->Bool)->Bool
def ym (N:Nat) (m_0 m_1 i:Int) (b:LF) (k0:Nat->Nat->Bool):Bool:=
 (aj .i64 (i*m_1)&&(aj .i64 (i+1)&&(aj .i64 ((i+1)*m_1)&&(decide (0<=(i*m_1)/\(i*m_1)<=((i+1)*m_1)/\((i+1)*m_1)<=((b.length:Nat):Int))&&k0 (Int.toNat (i*m_1)) ((Int.toNat ((i+1)*m_1)) - (Int.toNat (i*m_1)))))))
def tW (N:Nat):ga:=ym N
abbrev li:=Int->Int->LF->Int->(Kz3)->Bool
def xP (N:Nat) (j_1 t11 m m_3:Int) (m_4:LF) (e0:Kz3):(Int × LF)->((Int × LF)->Bool)->Bool:=λv_ K=>match v_ with
 | (t12,out)=>(cond (decide (t12<t11)) (aj .i64 (t12*m_3)&&(aj .i64 ((t12*m_3)+j_1)&&(inR ((t12*m_3)+j_1) m_4.length&&(inR t12 out.length&&(decide (t12.toNat<out.length)&&(aj .i64 (t12+1)&&K ((t12+1),(out.set t12.toNat (m_4.getD (Int.toNat ((t12*m_3)+j_1)) none))))))))) (e0 out))
def ww (N:Nat) (m_0 m_1:Int) (m_2:LF) (j:Int) (k0:Kz3):Bool:=
 (mF 8 m_0 m_0&&ah N (xP N j (((List.length (List.replicate m_0.toNat (some 0))):Nat):Int) m_0 m_1 m_2 (λate=>k0 ate)) (0,(List.replicate m_0.toNat (some 0))))
def DJ (N:Nat):li:=ww N
abbrev HE:=Nat->Nat->Bool->LF->Int->Int->LF->LF->Fl->Fl->Fl->LF->LF->LF->LF->(Ky3)->Bool
def agC (N:Nat) (SQ1:um) (SQ2:sa) (t10 avg:Nat) (t11:Int) (s_1:LF) (s_2 s_3:Int) (s_4 s_5:LF) (s_6 s_7 s_8:Fl) (avb avt b3 b4:LF) (e0:Ky3):(Fl × Int × Bool)->((Fl × Int × Bool)->Bool)->Bool:=λv_ K=>match v_ with
 | (t,t12,s)=>(cond (decide (t12<t11)) (inR t12 avg&&(decide ((t10+t12.toNat)<avb.length)&&(inR t12 avt.length&&(decide (t12.toNat<avt.length)&&SQ1 (avb.getD (t10+t12.toNat) none) (avt.getD t12.toNat none) s s_1 s_2 s_3 s_4 s_5 s_6 s_7 s_8 b3 b4 (λxr cr=>SQ2 (nZ t xr) cr s_1 s_2 s_3 s_4 s_5 s_6 s_7 s_8 b3 b4 (λasD=>aj .i64 (t12+1)&&K ((nZ t xr),(t12+1),asD))))))) (e0 t s))
def ams (N:Nat) (SQ1:um) (SQ2:sa) (a_0 a_1:Nat) (b:Bool) (b_1:LF) (b_2 b_3:Int) (b_4 b_5:LF) (b_6 b_7 b_8:Fl) (b_9 asW auh ava:LF) (k0:Ky3):Bool:=
 (ah N (agC N SQ1 SQ2 a_0 a_1 ((a_1:Nat):Int) b_1 b_2 b_3 b_4 b_5 b_6 b_7 b_8 b_9 asW auh ava (λt_1 b0=>k0 t_1 b0)) ((some 0),0,b))
def aqV (N:Nat):HE:=ams N (sQ1 N) (sQ2 N)
abbrev bS:=Int->Int->Int->Int->LF->Bool->LF->Int->Int->LF->LF->Fl->Fl->Fl->LF->LF->LF->(Ky4)->Bool
section
variable (N:Nat) (asf:ga) (asm:li) (au4:HE)
def jM (N:Nat) (asf:ga) (asm:li) (au4:HE) (i_1 aAj aw_ auU:Int) (awy:LF) (awz awA:Int) (awB awC:LF) (awD awE awF:Fl) (awQ av8 ax0:LF) (a_5 a_6 aA4 aA5:Int) (aA6:LF) (aB0 aB1 aAd aAe:Int) (e0:Ky4):(Int × Bool × LF)->((Int × Bool × LF)->Bool)->Bool:=λv_ K=>match v_ with
 | (auR,av2,b8)=>(cond (decide (auR<auU)) (asf a_5 a_6 i_1 awQ (λaty ay6=>asm aA4 aA5 aA6 auR (λauE=>au4 aty ay6 av2 awy awz awA awB awC awD awE awF awQ auE av8 ax0 (λavf asD=>decide ((List.length (b8++[avf]))*8<=140737488355328)&&(aj .i64 (auR+1)&&K ((auR+1),asD,(b8++[avf]))))))) (e0 av2 b8))
def jL (azP:Int) (awG:LF) (awH awI:Int) (awJ awK:LF) (awL awM awN:Fl) (axX axZ ax1:LF) (a_7 a_8 aBp aA7:Int) (aBq:LF) (aBa aBb azN azO:Int) (e0:Ky4):(Int × Bool × LF)->((Int × Bool × LF)->Bool)->Bool:=λv_ K=>match v_ with
 | (avM,av3,aAx)=>(cond (decide (avM<azP)) (ah N (jM N asf asm au4 avM azP avM aA7 awG awH awI awJ awK awL awM awN axX axZ ax1 a_7 a_8 aBp aA7 aBq aBa aBb azN azO (λaBW aED=>aj .i64 (avM+1)&&K ((avM+1),aBW,aED))) (0,av3,aAx)) (e0 av3 aAx))
def ig (a_0 a_1 b_0 b_1:Int) (b_2:LF) (b:Bool) (b_3:LF) (b_4 b_5:Int) (b_6 b_7:LF) (b_8 b_9 asW:Fl) (auh ava avt:LF) (k0:Ky4):Bool:=
 (ah N (jL N asf asm au4 a_0 b_3 b_4 b_5 b_6 b_7 b_8 b_9 asW auh ava avt a_0 a_1 b_0 b_1 b_2 0 0 a_0 b_1 (λb0 b6=>k0 b0 b6)) (0,b,[]))
end
def k8 (N:Nat):bS:=ig N (tW N) (DJ N) (aqV N)
abbrev D6:=Nat->Nat->Nat->Nat->Bool->LF->Int->Int->LF->LF->Fl->Fl->Fl->LF->LF->LF->LF->(Ky3)->Bool
def agB (N:Nat) (SQ1:um) (SQ2:sa) (aw1 awV t10 avg:Nat) (t11:Int) (s_1:LF) (s_2 s_3:Int) (s_4 s_5:LF) (s_6 s_7 s_8:Fl) (avb avI b3 b4:LF) (e0:Ky3):(Fl × Int × Bool)->((Fl × Int × Bool)->Bool)->Bool:=λv_ K=>match v_ with
 | (t,t12,s)=>(cond (decide (t12<t11)) (inR t12 avg&&(decide ((t10+t12.toNat)<avb.length)&&(inR t12 awV&&(decide ((aw1+t12.toNat)<avI.length)&&SQ1 (avb.getD (t10+t12.toNat) none) (avI.getD (aw1+t12.toNat) none) s s_1 s_2 s_3 s_4 s_5 s_6 s_7 s_8 b3 b4 (λxr cr=>SQ2 (nZ t xr) cr s_1 s_2 s_3 s_4 s_5 s_6 s_7 s_8 b3 b4 (λasD=>aj .i64 (t12+1)&&K ((nZ t xr),(t12+1),asD))))))) (e0 t s))
def YQ (N:Nat) (SQ1:um) (SQ2:sa) (a_0 a_1 b_0 b_1:Nat) (b:Bool) (b_2:LF) (b_3 b_4:Int) (b_5 b_6:LF) (b_7 b_8 b_9:Fl) (asW auh ava avt:LF) (k0:Ky3):Bool:=
 (ah N (agB N SQ1 SQ2 b_0 b_1 a_0 a_1 ((a_1:Nat):Int) b_2 b_3 b_4 b_5 b_6 b_7 b_8 b_9 asW auh ava avt (λt_1 b0=>k0 t_1 b0)) ((some 0),0,b))
def alq (N:Nat):D6:=YQ N (sQ1 N) (sQ2 N)
abbrev aM:=Int->Int->Int->Int->Int->Int->Bool->LF->Int->Int->LF->LF->Fl->Fl->Fl->LF->LF->LF->LF->(Ky3)->Bool
def fK (N:Nat) (asf:ga) (awX:D6) (SQ1:um) (SQ2:sa) (i j b b_1 b_2 b_3:Int) (b_4:Bool) (b_5:LF) (b_6 b_7:Int) (b_8 b_9:LF) (asW auh ava:Fl) (avt aw1 awV avI:LF) (k0:Ky3):Bool:=
 (asf b b_1 i avt (λmr auL=>asf b_2 b_3 j aw1 (λaty ay6=>awX mr auL aty ay6 b_4 b_5 b_6 b_7 b_8 b_9 asW auh ava avt aw1 awV avI (λxr cr=>inR i avI.length&&(decide (i.toNat<avI.length)&&SQ1 (avI.getD i.toNat none) asW cr b_5 b_6 b_7 b_8 b_9 asW auh ava awV avI (λavf asD=>inR j avI.length&&(decide (j.toNat<avI.length)&&SQ1 avf (avI.getD j.toNat none) asD b_5 b_6 b_7 b_8 b_9 asW auh ava awV avI (λaxl atH=>SQ2 (nZ xr axl) atH b_5 b_6 b_7 b_8 b_9 asW auh ava awV avI (λaus=>k0 (nZ xr axl) aus)))))))))
def fT (N:Nat):aM:=fK N (tW N) (alq N) (sQ1 N) (sQ2 N)
abbrev bu:=Int->Int->Int->Int->Int->Bool->LF->Int->Int->LF->LF->Fl->Fl->Fl->LF->LF->LF->LF->(Ky4)->Bool
section
variable (N:Nat) (ar3:aM)
def iE (N:Nat) (ar3:aM) (n_2 i aw8 aw9 t21 azt azu azv azw:Int) (azF:LF) (azG azH:Int) (azI azJ:LF) (azK azL azM:Fl) (ay2 avP ax2 aA3:LF) (awO awP av1 axR:Int) (e0:Ky4):(Int × Bool × LF)->((Int × Bool × LF)->Bool)->Bool:=λv_ K=>match v_ with
 | (t22,aAv,aw0)=>(cond (decide (t22<t21)) (ar3 i t22 azt azu azv azw aAv azF azG azH azI azJ azK azL azM ay2 avP ax2 aA3 (λxr cr=>aj .i64 (i*n_2)&&(aj .i64 ((i*n_2)+t22)&&(aj .i64 (t22*n_2)&&(aj .i64 ((t22*n_2)+i)&&(inR ((i*n_2)+t22) aw0.length&&(decide ((Int.toNat ((i*n_2)+t22))<aw0.length)&&(inR ((t22*n_2)+i) (List.length (aw0.set (Int.toNat ((i*n_2)+t22)) xr))&&(decide ((Int.toNat ((t22*n_2)+i))<(List.length (aw0.set (Int.toNat ((i*n_2)+t22)) xr)))&&(aj .i64 (t22+1)&&K ((t22+1),cr,(List.set (aw0.set (Int.toNat ((i*n_2)+t22)) xr) (Int.toNat ((t22*n_2)+i)) xr)))))))))))) (e0 aAv aw0))
def iD (n_1 t16 at_ azq azr azs:Int) (aAV:LF) (ax0 ax1:Int) (aAW aAX:LF) (aAY aAZ aA0:Fl) (b4 b5 b6 b7:LF) (t4 ay7 out ate:Int) (e0:Ky4):(Int × Bool × LF)->((Int × Bool × LF)->Bool)->Bool:=λv_ K=>match v_ with
 | (t17,b3,b10)=>(cond (decide (t17<t16)) (aj .i64 (t17+1)&&ah N (iE N ar3 n_1 t17 t16 t17 (t17+1) at_ azq azr azs aAV ax0 ax1 aAW aAX aAY aAZ aA0 b4 b5 b6 b7 t4 ay7 out ate (λaC0 aCY=>aj .i64 (t17+1)&&K ((t17+1),aC0,aCY))) (0,b3,b10)) (e0 b3 b10))
def fJ (n b b_1 b_2 b_3:Int) (b_4:Bool) (b_5:LF) (b_6 b_7:Int) (b_8 b_9:LF) (asW auh ava:Fl) (avt aw1 awV avI:LF) (k0:Ky4):Bool:=
 (aj .i64 (n*n)&&(mF 8 (n*n) (n*n)&&ah N (iD N ar3 n n b b_1 b_2 b_3 b_5 b_6 b_7 b_8 b_9 asW auh ava avt aw1 awV avI 0 0 n n (λaC1 aCZ=>k0 aC1 aCZ)) (0,b_4,(List.replicate (Int.toNat (n*n)) (some 0)))))
end
def js (N:Nat):bu:=fJ N (fT N)
abbrev aG:=Bool->LF->Int->Int->LF->LF->Fl->Fl->Fl->LF->LF->(Int->Int->Bool->LF->Bool)->Bool
section
variable (N:Nat) (SQ1:um) (SQ2:sa) (ar9:bS) (ar5:bu)
def iZ (N:Nat) (SQ1:um) (SQ2:sa) (ar9:bS) (ar5:bu) (n_2 i_1 aw_ aAk auU:Int) (axF:LF) (axG axH:Int) (axI awu:LF) (axJ axK axL:Fl) (awQ av8:LF) (aBX aBY a_4 a_5:Int) (e0:Ky4):(Int × Bool × LF)->((Int × Bool × LF)->Bool)->Bool:=λv_ K=>match v_ with
 | (auR,ayW,b6)=>(cond (decide (auR<auU)) (cond (i_1==auR) (inR i_1 av8.length&&(decide (i_1.toNat<av8.length)&&(inR auR awu.length&&SQ1 (av8.getD i_1.toNat none) (awu.getD auR.toNat none) ayW axF axG axH axI awu axJ axK axL awQ av8 (λavf atH=>SQ2 (qD (some 4607182418800017408) avf) atH axF axG axH axI awu axJ axK axL awQ av8 (λaus=>decide ((List.length (b6++[(qD (some 4607182418800017408) avf)]))*8<=140737488355328)&&(aj .i64 (auR+1)&&K ((auR+1),aus,(b6++[(qD (some 4607182418800017408) avf)])))))))) (inR i_1 av8.length&&(decide (i_1.toNat<av8.length)&&(inR auR awu.length&&SQ1 (av8.getD i_1.toNat none) (awu.getD auR.toNat none) ayW axF axG axH axI awu axJ axK axL awQ av8 (λaxl av9=>SQ2 (qD (some 0) axl) av9 axF axG axH axI awu axJ axK axL awQ av8 (λay_=>decide ((List.length (b6++[(qD (some 0) axl)]))*8<=140737488355328)&&(aj .i64 (auR+1)&&K ((auR+1),ay_,(b6++[(qD (some 0) axl)]))))))))) (e0 ayW b6))
def iY (n_3 avM:Int) (azx:LF) (azy azz:Int) (azA azB:LF) (azC azD azE:Fl) (axX axZ:LF) (aA9 aA_ a_6 a_7:Int) (e0:Ky4):(Int × Bool × LF)->((Int × Bool × LF)->Bool)->Bool:=λv_ K=>match v_ with
 | (axo,ay9,aAw)=>(cond (decide (axo<avM)) (ah N (iZ N SQ1 SQ2 ar9 ar5 n_3 axo avM axo n_3 azx azy azz azA azB azC azD azE axX axZ aA9 aA_ a_6 a_7 (λaCW aEC=>aj .i64 (axo+1)&&K ((axo+1),aCW,aEC))) (0,ay9,aAw)) (e0 ay9 aAw))
def gq (b:Bool) (b_1:LF) (b_2 b_3:Int) (b_4 b_5:LF) (b_6 b_7 b_8:Fl) (b_9 asW:LF) (k0:Int->Int->Bool->LF->Bool):Bool:=
 (ah N (iY N SQ1 SQ2 ar9 ar5 ((b_5.length:Nat):Int) ((b_5.length:Nat):Int) b_1 b_2 b_3 b_4 b_5 b_6 b_7 b_8 b_9 asW 0 0 ((b_5.length:Nat):Int) ((b_5.length:Nat):Int) (λaCX aC2=>ar9 ((b_5.length:Nat):Int) ((b_5.length:Nat):Int) b_2 b_3 b_4 aCX b_1 b_2 b_3 b_4 b_5 b_6 b_7 b_8 aC2 b_9 asW (λazS xsr=>ar5 ((b_5.length:Nat):Int) ((b_5.length:Nat):Int) b_3 ((b_5.length:Nat):Int) ((b_5.length:Nat):Int) azS b_1 b_2 b_3 b_4 b_5 b_6 b_7 b_8 xsr aC2 b_9 asW (λazT auE=>k0 ((b_5.length:Nat):Int) ((b_5.length:Nat):Int) azT auE)))) (0,b,[]))
end
def kg (N:Nat):aG:=gq N (sQ1 N) (sQ2 N) (k8 N) (js N)
abbrev D8:=Bool->LF->Int->Int->LF->LF->Fl->Fl->Fl->LF->LF->(Bool)->Bool
def akU (N:Nat) (b:Bool) (b_1:LF) (b_2 b_3:Int) (b_4 b_5:LF) (b_6 b_7 b_8:Fl) (b_9 asW:LF) (k0:Bool):Bool:=
 k0
def alv (N:Nat):D8:=akU N
abbrev aI:=Int->Int->Bool->LF->Int->Int->LF->LF->Fl->Fl->Fl->LF->LF->LF->LF->(Kx9)->(Kz0)->Bool
def ko (N:Nat) (awY:D8) (asM:eX) (p_0 p_1:Int) (b:Bool) (b_1:LF) (b_2 b_3:Int) (b_4 b_5:LF) (b_6 b_7 b_8:Fl) (b_9 asW auh ava:LF) (k0:Kx9) (k1:Kz0):Bool:=
 (awY b b_1 b_2 b_3 b_4 b_5 b_6 b_7 b_8 auh ava (cond b (k0 0 0 5) (asM p_0 p_1 asW (λcr=>cond (!cr) (k0 0 0 151) (k1 0)))))
def kv (N:Nat):aI:=ko N (alv N) (jt N)
abbrev iN:=LF->Int->Int->LF->LF->Fl->Fl->(Kx2)->(Kx1)->(Kx0)->Bool
section
variable (N:Nat) (ar6:cL) (as2:rT) (SQ6:uW) (SQ1:um) (SQ2:sa) (ar1:aN) (arX:aG) (arZ:aI)
def mm (N:Nat) (ar6:cL) (as2:rT) (SQ6:uW) (SQ1:um) (SQ2:sa) (ar1:aN) (arX:aG) (arZ:aI) (y_1:Fl) (aAr:Int) (s_7:LF) (s_8 s_9:Int) (azi:LF) (avb aAf:Int) (aAg aAh aAi:Fl) (awl:LF) (avw awb:Int) (avN avk:LF) (axc axk awS:Fl) (avP:LF) (e0:Bool->LF->LF->Bool):(Int × Bool × LF × LF)->((Int × Bool × LF × LF)->Bool)->Bool:=λv_ K=>match v_ with
 | (auw,av4,x_1,b6)=>(cond (decide (auw<aAr)) (inR auw avP.length&&(decide (auw.toNat<avP.length)&&SQ2 (fdiv (avP.getD auw.toNat none) awS) av4 awl avw awb avN avk axc axk awS avP b6 (λc8=>decide ((List.length (b6++[(fdiv (avP.getD auw.toNat none) awS)]))*8<=140737488355328)&&(inR auw s_7.length&&(inR auw (List.length (b6++[(fdiv (avP.getD auw.toNat none) awS)]))&&(decide (auw.toNat<(List.length (b6++[(fdiv (avP.getD auw.toNat none) awS)])))&&SQ1 (List.getD (b6++[(fdiv (avP.getD auw.toNat none) awS)]) auw.toNat none) y_1 c8 awl avw awb avN avk axc axk awS avP (b6++[(fdiv (avP.getD auw.toNat none) awS)]) (λay8 c9=>SQ2 (nZ (s_7.getD auw.toNat none) ay8) c9 awl avw awb avN avk axc axk awS avP (b6++[(fdiv (avP.getD auw.toNat none) awS)]) (λc10=>inR auw x_1.length&&(decide (auw.toNat<x_1.length)&&(aj .i64 (auw+1)&&K ((auw+1),c10,(x_1.set auw.toNat (nZ (s_7.getD auw.toNat none) ay8)),(b6++[(fdiv (avP.getD auw.toNat none) awS)])))))))))))) (e0 av4 x_1 b6))
def rS (N:Nat) (ar6:cL) (as2:rT) (SQ6:uW) (SQ1:um) (SQ2:sa) (ar1:aN) (arX:aG) (arZ:aI) (s_0:LF) (s_1 s_2:Int) (s_3 h:LF) (r z y_3 axd:Fl) (aB7:Bool) (aB8 aBd:Fl) (b3 aBo aA2 ax2:LF) (t_2 t_3:Int) (k0:Kx2) (k1:Kx1) (k2:Kx0):Bool:=
 (k2 t_2 t_3 y_3 aBd axd 0 b3 ax2 aA2)
def rR (N:Nat) (ar6:cL) (as2:rT) (SQ6:uW) (SQ1:um) (SQ2:sa) (ar1:aN) (arX:aG) (arZ:aI) (s_0:LF) (s_1 s_2:Int) (s_3 h:LF) (r z y_2 score:Fl) (aB5:Bool) (aB6 aBc:Fl) (ay2 aA1:LF) (t t_1:Int) (k0:Kx2) (k1:Kx1) (k2:Kx0):Bool:=
 (k1 t t_1 y_2 aBc score 0 aA1)
def mX (s_0:LF) (s_1 s_2:Int) (s_3 h:LF) (r z:Fl) (e_2:Int) (u:Bool) (u_1 u_2:Fl) (b4:LF) (k0:Kx2) (k1:Kx1) (k2:Kx0):Bool:=
 (cond (e_2 != 0) (k0 0 0 (some 0) (some 0) (some 0) e_2) (SQ6 (qD z u_1) u s_0 s_1 s_2 s_3 h r u_1 u_2 b4 (λav9=>mF 8 ((h.length:Nat):Int) ((h.length:Nat):Int)&&ah N (mm N ar6 as2 SQ6 SQ1 SQ2 ar1 arX arZ (qD z u_1) (((List.length (List.replicate (Int.toNat ((h.length:Nat):Int)) (some 0))):Nat):Int) s_0 s_1 s_2 s_3 0 0 (some 0) (some 0) (some 0) s_0 s_1 s_2 s_3 h r u_1 u_2 b4 (λaCG x_2 axq=>SQ1 (qD z u_1) (qD z u_1) aCG s_0 s_1 s_2 s_3 h r u_1 u_2 b4 axq (λaxm c11=>SQ2 (fdiv axm u_2) c11 s_0 s_1 s_2 s_3 h r u_1 u_2 b4 axq (λc12=>ar1 c12 s_0 s_1 s_2 s_3 h r u_1 u_2 b4 axq (arX c12 s_0 s_1 s_2 s_3 h r u_1 u_2 b4 axq (λasl atd c13 auE=>arZ asl atd c13 s_0 s_1 s_2 s_3 h r u_1 u_2 x_2 auE b4 axq (λat9 n5 n6=>cond (n6 != 0) (k0 0 0 (some 0) (some 0) (some 0) n6) (rR N ar6 as2 SQ6 SQ1 SQ2 ar1 arX arZ s_0 s_1 s_2 s_3 h r z (qD z u_1) (fdiv axm u_2) c13 u_1 u_2 b4 axq at9 n5 k0 k1 k2)) (λn7=>cond (n7 != 0) (k0 0 0 (some 0) (some 0) (some 0) n7) (rS N ar6 as2 SQ6 SQ1 SQ2 ar1 arX arZ s_0 s_1 s_2 s_3 h r z (qD z u_1) (fdiv axm u_2) c13 u_1 u_2 x_2 b4 axq auE asl atd k0 k1 k2)))))))) (0,av9,(List.replicate (Int.toNat ((h.length:Nat):Int)) (some 0)),[]))))
def rQ (N:Nat) (ar6:cL) (as2:rT) (SQ6:uW) (SQ1:um) (SQ2:sa) (ar1:aN) (arX:aG) (arZ:aI) (s_0:LF) (s_1 s_2:Int) (s_3 h:LF) (r z:Fl) (e_1:Int) (k0:Kx2) (k1:Kx1) (k2:Kx0):Bool:=
 (cond (e_1 != 0) (k0 0 0 (some 0) (some 0) (some 0) e_1) false)
def rP (N:Nat) (ar6:cL) (as2:rT) (SQ6:uW) (SQ1:um) (SQ2:sa) (ar1:aN) (arX:aG) (arZ:aI) (s_0:LF) (s_1 s_2:Int) (s_3 h:LF) (r z:Fl) (e:Int) (k0:Kx2) (k1:Kx1) (k2:Kx0):Bool:=
 (cond (e != 0) (k0 0 0 (some 0) (some 0) (some 0) e) false)
def je (s_0:LF) (s_1 s_2:Int) (s_3 h:LF) (r z:Fl) (k0:Kx2) (k1:Kx1) (k2:Kx0):Bool:=
 (ar6 s_0 s_1 s_2 s_3 h r (λnr=>cond ((nr==0)==false) (rP N ar6 as2 SQ6 SQ1 SQ2 ar1 arX arZ s_0 s_1 s_2 s_3 h r z nr k0 k1 k2) (as2 [z] (λasD=>cond (!asD) (k0 0 0 (some 0) (some 0) (some 0) 4) (rQ N ar6 as2 SQ6 SQ1 SQ2 ar1 arX arZ s_0 s_1 s_2 s_3 h r z nr k0 k1 k2)))) (λask cr xr avf xsr=>cond ((ask==0)==false) (as2 [z] (λatH=>cond (!atH) (k0 0 0 (some 0) (some 0) (some 0) 4) (mX N ar6 as2 SQ6 SQ1 SQ2 ar1 arX arZ s_0 s_1 s_2 s_3 h r z ask cr xr avf xsr k0 k1 k2))) (as2 [z] (λaus=>cond (!aus) (k0 0 0 (some 0) (some 0) (some 0) 4) (mX N ar6 as2 SQ6 SQ1 SQ2 ar1 arX arZ s_0 s_1 s_2 s_3 h r z ask cr xr avf xsr k0 k1 k2)))))
end
def uS (N:Nat):iN:=je N (wi N) (RM N) (sQ6 N) (sQ1 N) (sQ2 N) (lK N) (kg N) (kv N)
abbrev iK:=LF->Int->Int->LF->LF->Fl->Fl->(Kx2)->(Kx1)->(Kx0)->Bool
def xv (N:Nat) (atr:iN) (s_0:LF) (s_1 s_2:Int) (s_3 h:LF) (r z:Fl) (k0:Kx2) (k1:Kx1) (k2:Kx0):Bool:=
 (atr s_0 s_1 s_2 s_3 h r z (λnr ask xr avf axl asl=>k0 nr ask xr avf axl asl) (λatd at9 ay8 axm aEx n5 xsr=>k1 atd at9 ay8 axm aEx n5 xsr) (λn6 n7 aCJ aCK aCL n8 auE aCh aCi=>k2 n6 n7 aCJ aCK aCL n8 auE aCh aCi))
def xI (N:Nat):iK:=xv N (uS N)
abbrev P4:=(Ky9)->Bool
def GQ0 (N:Nat) (atv:iK) (asd:bX) (k0:Ky9):Bool:=
 (atv [(some 0)] 1 1 [(some 4616189618054758400)] [(some 4607182418800017408)] (some 4607182418800017408) (some 4617315517961601024) (λnr ask xr avf axl asl=>cond ((asl==0)==true) (k0 false) (k0 false)) (λatd at9 ay8 axm aEx n5 xsr=>cond ((n5==0)==true) (k0 false) (k0 false)) (λn6 n7 aCJ aCK aCL n8 auE aCh aCi=>cond ((n8==0)==true) (cond ((((auE.length:Nat):Int)==1)==true) (inR 0 auE.length&&(decide (0<auE.length)&&cond ((feq (auE.getD 0 none) (some 4616189618054758400))==true) (cond ((feq aCK (some 4617315517961601024))==true) (cond ((feq aCJ (some 4617315517961601024))==true) (cond ((feq aCL (some 4617315517961601024))==true) (asd [(some 0)] 1 1 [(some 4616189618054758400)] (λn9=>k0 (n9==0))) (k0 false)) (k0 false)) (k0 false)) (k0 false))) (k0 false)) (k0 false)))
def sQ0 (N:Nat):P4:=GQ0 N (xI N) (gR N)
abbrev amS:=LI->Int->Int->LI->(Ky9)->Bool
def TP (N:Nat) (SQ4:P9) (asN:jb) (avU:Ee) (asd:bX) (auY:CJ) (SQ3:P8) (SQ0:P4) (x:LI) (rows cols:Int) (p:LI) (k0:Ky9):Bool:=
 (SQ4 x rows cols p (λxsr auE=>asN xsr rows cols auE (λxr nr=>avU xsr rows cols auE (λavf ask=>asd xsr rows cols auE (λasl=>auY xsr rows cols auE (λatd=>cond ((asl==atd)==true) (SQ3 xr avf (λcr=>cond (cr==true) (cond ((nr==ask)==true) (SQ0 (λasD=>k0 asD)) (k0 false)) (k0 false))) (k0 false)))))))
def adX (N:Nat):amS:=TP N (sQ4 N) (oY N) (Vh N) (gR N) (Xr N) (sQ3 N) (sQ0 N)
abbrev arg:=LF->Int->Int->LF->LF->Int->Int->LF->(Ky9)->Bool
abbrev arf:=Int->(Kz2)->Bool
abbrev CX:=LF->Int->Int->LF->LF->Fl->(Fl->Fl->Int->Bool)->Bool
abbrev ao0:=LF->Int->Int->LF->LF->Fl->(Fl->Fl->Int->Bool)->Bool
abbrev ao1:=LF->Int->Int->LF->LF->Fl->Fl->(Kx2)->(Kx1)->(Kx0)->Bool
abbrev aoZ:=Fl->Fl->Fl->LF->Fl->Fl->Fl->LF->(Ky9)->Bool
abbrev FY:=LF->Int->Int->LF->LF->Fl->Fl->(Kx2)->(Kx1)->(Kx0)->Bool
abbrev amR:=LF->Int->Int->LF->LF->Fl->Fl->(Kx2)->(Kx1)->(Kx0)->Bool
end Go.Proofs.YteifemaagdeomaaGreatDoor
