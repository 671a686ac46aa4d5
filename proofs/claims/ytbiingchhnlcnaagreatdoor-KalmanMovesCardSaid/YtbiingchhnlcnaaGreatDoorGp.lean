/- The program's functions and their ties. Conditions: none. -/
import Derived.Test.YtbiingchhnlcnaaGreatDoorMachT
set_option linter.unusedVariables false
namespace Go.Proofs.YtbiingchhnlcnaaGreatDoor
open Go Go.Mach
abbrev LI:=List Int
abbrev LF:=List Fl
abbrev Kx0:=Int->Int->Fl->Fl->Fl->Int->LF->LF->LF->Bool
abbrev Kx1:=Int->Int->Fl->Fl->Fl->Int->LF->Bool
abbrev Kx2:=Int->Int->Fl->Fl->Fl->Int->Bool
abbrev Kx3:=Int->Int->Int->Int->Bool->Bool
abbrev Kx4:=Int->Int->Int->LF->LF->Bool
abbrev Kx5:=Bool->Int->Int->Int->Bool
abbrev Kx6:=Bool->LI->Bool->LI->Bool
abbrev Kx7:=Int->Int->Int->Int->Bool
abbrev Kx8:=Int->Int->Int->LF->Bool
abbrev Kx9:=Int->Int->LF->Int->Bool
abbrev Ky0:=Bool->Int->Int->Bool
abbrev Ky1:=Bool->Nat->Nat->Bool
abbrev Ky2:=Int->Int->Int->Bool
abbrev Ky3:=LF->LF->LF->Bool
abbrev Ky4:=Bool->Bool->Bool
abbrev Ky5:=Bool->LI->Bool
abbrev Ky6:=Int->Int->Bool
abbrev Ky7:=Fl->Bool->Bool
abbrev Ky8:=Bool->LF->Bool
abbrev Ky9:=Nat->Nat->Bool
abbrev Kz0:=Int->LI->Bool
abbrev Kz1:=Nat->LI->Bool
abbrev Kz2:=Fl->Int->Bool
abbrev Kz3:=Int->LF->Bool
abbrev Kz4:=LF->LF->Bool
abbrev Kz5:=LI->LI->Bool
abbrev Kz6:=Bool->Bool
abbrev Kz7:=Int->Bool
abbrev Kz8:=Nat->Bool
abbrev Kz9:=Fl->Bool
abbrev RT0:RT:=(.pair (.int .i64) (.pair (.int .i64) (.pair .flt .flt)))
abbrev RY0:=Int × Int × Fl × Fl
abbrev RT1:RT:=(.ptr (.pair (.pair .bool (.ints .u64)) (.pair .bool (.ints .u64))))
abbrev RY1:=(Bool × LI) × Bool × LI
abbrev RT2:RT:=(.pair (.pair .bool (.ints .u32)) (.pair .bool (.ints .u32)))
abbrev RY2:=(Bool × LI) × Bool × LI
abbrev RT3:RT:=(.ptr (.pair (.pair .bool (.ints .u32)) (.pair .bool (.ints .u32))))
abbrev RY3:=(Bool × LI) × Bool × LI
def az:LI:=[0,1,2,2,3,3,3,3,4,4,4,4,4,4,4,4,5,5,5,5,5,5,5,5,5,5,5,5,5,5,5,5,6,6,6,6,6,6,6,6,6,6,6,6,6,6,6,6,6,6,6,6,6,6,6,6,6,6,6,6,6,6,6,6,7,7,7,7,7,7,7,7,7,7,7,7,7,7,7,7,7,7,7,7,7,7,7,7,7,7,7,7,7,7,7,7,7,7,7,7,7,7,7,7,7,7,7,7,7,7,7,7,7,7,7,7,7,7,7,7,7,7,7,7,7,7,7,7,8,8,8,8,8,8,8,8,8,8,8,8,8,8,8,8,8,8,8,8,8,8,8,8,8,8,8,8,8,8,8,8,8,8,8,8,8,8,8,8,8,8,8,8,8,8,8,8,8,8,8,8,8,8,8,8,8,8,8,8,8,8,8,8,8,8,8,8,8,8,8,8,8,8,8,8,8,8,8,8,8,8,8,8,8,8,8,8,8,8,8,8,8,8,8,8,8,8,8,8,8,8,8,8,8,8,8,8,8,8,8,8,8,8,8,8,8,8,8,8,8,8,8,8,8,8,8,8]
abbrev NG:=Nat->(Kz7)->Bool
def EQ (N:Nat):NG:=λn k=>k n
def DV (N:Nat) (k0:Ky2):Bool:=
 (k0 52 2047 1075)
def vb (N:Nat):(Ky2)->Bool:=DV N
def KI (N:Nat) (f_0 f_1 f_2:Int) (k0:Kz7):Bool:=
 (ac .i64 (f_1+1)&&(decide (0<=f_0)&&k0 (IntKind.wrap .u64 ((IntKind.wrap .u64 (f_1+1))*2 ^ (min f_0.toNat 64)))))
def yB (N:Nat):Int->Int->Int->(Kz7)->Bool:=KI N
def Cu (N:Nat) (f_0 f_1 f_2:Int) (k0:Kz7):Bool:=
 (decide (0<=f_0)&&k0 (IntKind.wrap .u64 ((IntKind.wrap .u64 f_1)*2 ^ (min f_0.toNat 64))))
def pR (N:Nat):Int->Int->Int->(Kz7)->Bool:=Cu N
def MT (N:Nat) (b f_0 f_1 f_2:Int) (k0:Kz6):Bool:=
 (yB N f_0 f_1 f_2 (λnr=>pR N f_0 f_1 f_2 (λY_=>k0 (decide ((aA .andNot .u64 b nr)>Y_)))))
def Pj (N:Nat):Int->Int->Int->Int->(Kz6)->Bool:=aw N (MT N)
def Fe (N:Nat) (f_0 f_1 f_2:Int) (k0:Kz7):Bool:=
 (decide (0<=f_0)&&k0 (IntKind.wrap .u64 ((1:Int)*2 ^ (min f_0.toNat 64))))
def ng (N:Nat):Int->Int->Int->(Kz7)->Bool:=Fe N
def xR (N:Nat) (f_0 f_1 f_2:Int) (k0:Kz7):Bool:=
 (pR N f_0 f_1 f_2 (λnr=>ng N f_0 f_1 f_2 (λY_=>k0 (aA .or .u64 (aA .or .u64 nr (Int.fdiv Y_ (2 ^ 1))) (IntKind.wrap .u64 (Int.tdiv f_0 52))))))
def yA (N:Nat):Int->Int->Int->(Kz7)->Bool:=aw N (xR N)
def Wc (N:Nat) (b f_0 f_1 f_2:Int) (k0:Kz7):Bool:=
 (Pj N b f_0 f_1 f_2 (λcr=>cond cr (yA N f_0 f_1 f_2 (λnr=>k0 nr)) (k0 b)))
def PE (N:Nat):Int->Int->Int->Int->(Kz7)->Bool:=Wc N
def SI (N:Nat) (b f_0 f_1 f_2:Int) (k0:Ky0):Bool:=
 (PE N b f_0 f_1 f_2 (λnr=>yB N f_0 f_1 f_2 (λY_=>decide (0<=f_0)&&(ac .i64 (aA .and .u64 (Int.fdiv nr (2 ^ (min f_0.toNat 64))) (IntKind.wrap .u64 f_1))&&ng N f_0 f_1 f_2 (λZe=>k0 ((aA .and .u64 nr Y_) != 0) (aA .and .u64 (Int.fdiv nr (2 ^ (min f_0.toNat 64))) (IntKind.wrap .u64 f_1)) (aA .and .u64 nr (IntKind.wrap .u64 (Ze - 1))))))))
def Rd (N:Nat):Int->Int->Int->Int->(Ky0)->Bool:=aw N (SI N)
def SH (N:Nat) (b f_0 f_1 f_2:Int) (k0:Kz7):Bool:=
 (Rd N b f_0 f_1 f_2 (λcr nr Y_=>cond ((nr==f_1)==true) (cond (Y_ != 0) (k0 1) (cond (nr==f_1) (k0 2) (cond ((nr==0)==true) (cond (Y_==0) (k0 3) (cond (nr==0) (k0 4) (k0 5))) (cond (nr==0) (k0 4) (k0 5))))) (cond (nr==f_1) (k0 2) (cond ((nr==0)==true) (cond (Y_==0) (k0 3) (cond (nr==0) (k0 4) (k0 5))) (cond (nr==0) (k0 4) (k0 5))))))
def Rb (N:Nat):Int->Int->Int->Int->(Kz7)->Bool:=aw N (SH N)
abbrev Wl:=Nat->(Kz7)->Bool
def GQ5 (N x:Nat) (k0:Kz7):Bool:=
 (EQ N x (λnr=>vb N (λY_ Ze Zt=>Rb N nr Y_ Ze Zt (λZC=>k0 ZC))))
def sQ5 (N:Nat):Nat->(Kz7)->Bool:=GQ5 N
abbrev Wm:=Nat->Nat->(Kz6)->Bool
def GQ6 (N a b:Nat) (k0:Kz6):Bool:=
 (EQ N a (λnr=>vb N (λY_ Ze Zt=>PE N nr Y_ Ze Zt (λZC=>EQ N b (λn5=>vb N (λn6 n7 n8=>PE N n5 n6 n7 n8 (λn9=>k0 (ZC==n9))))))))
def sQ6 (N:Nat):Nat->Nat->(Kz6)->Bool:=GQ6 N
abbrev HB:=Int->(Kz9)->Bool
def xz (N:Nat):HB:=λn k=>k (js n.toNat)
abbrev RI:=Nat->(Kz9)->Bool
def Wb (N x:Nat) (k0:Kz9):Bool:=
 (EQ N x (λnr=>xz N (aA .andNot .u64 nr 9223372036854775808) (λxr=>k0 xr)))
def I8 (N:Nat):Nat->(Kz9)->Bool:=Wb N
def mO (N:Nat) (ZU:LI) (ahK:Int) (e0:LF->Bool):(Int × LF)->((Int × LF)->Bool)->Bool:=λv_ K=>match v_ with
 | (aiK,x)=>(cond (decide (aiK<ahK)) (inR aiK ZU.length&&xz N (ZU.getD aiK.toNat 0) (λZ5=>decide ((List.length (x++[Z5]))*8<=140737488355328)&&(ac .i64 (aiK+1)&&K ((aiK+1),(x++[Z5]))))) (e0 x))
def vS (N:Nat) (l:LI) (k0:LF->Bool):Bool:=
 (af N (mO N l ((l.length:Nat):Int) (λZs=>k0 Zs)) (0,[]))
def rD (N:Nat):LI->(LF->Bool)->Bool:=aw N (vS N)
def V4 (N:Nat) (x:LI) (rows cols:Int) (p:LI) (k0:Kz4):Bool:=
 (rD N x (λxsr=>rD N p (λZD=>k0 xsr ZD)))
def PB (N:Nat):LI->Int->Int->LI->(Kz4)->Bool:=V4 N
def SX (N:Nat) (n:Int) (k0:Kz6):Bool:=
 (cond ((decide (n>=0))==true) (k0 (decide (n<=12))) (k0 false))
def G_ (N:Nat):Int->(Kz6)->Bool:=SX N
abbrev NH:=Fl->(Kz7)->Bool
def PD (N:Nat):NH:=λx k=>k (AN x)
def lm (N:Nat) (t6:LF) (t7:Int) (e0:Kz6) (e1:Bool):(Int)->((Int)->Bool)->Bool:=λv_ K=>match v_ with
 | t8=>(cond (decide (t8<t7)) (inR t8 t6.length&&PD N (t6.getD t8.toNat none) (λnr=>cond ((nr==1)==false) (cond (nr==2) (e0 false) (ac .i64 (t8+1)&&K (t8+1))) (e0 false))) e1)
def SO (N:Nat) (l:LF) (k0:Kz6):Bool:=
 (af N (lm N l ((l.length:Nat):Int) (λt2=>k0 t2) (k0 true)) 0)
def yu (N:Nat):LF->(Kz6)->Bool:=aw N (SO N)
def SE (N:Nat) (ZI Zc:Int) (Zp:LF) (k0:Kz7):Bool:=
 (G_ N ZI (λcr=>cond ((!cr)==false) (G_ N Zc (λZb=>cond (!Zb) (k0 1) (ac .i64 (ZI*Zc)&&cond (((Zp.length:Nat):Int) != (ZI*Zc)) (k0 3) (yu N Zp (λZE=>cond (!ZE) (k0 4) (k0 0)))))) (k0 1)))
def Mr (N:Nat):Int->Int->LF->(Kz7)->Bool:=aw N (SE N)
def yL (N:Nat) (ZI Zc:Int) (Zp:LF) (i j:Int) (k0:Kz9):Bool:=
 (ac .i64 (i*Zc)&&(ac .i64 ((i*Zc)+j)&&(inR ((i*Zc)+j) Zp.length&&k0 (Zp.getD (Int.toNat ((i*Zc)+j)) none))))
def pC (N:Nat):Int->Int->LF->Int->Int->(Kz9)->Bool:=yL N
abbrev NI:=Fl->Fl->(Kz6)->Bool
def PF (N:Nat):NI:=λx y k=>k (decide (cn x=cn y))
def E8 (N:Nat) (i ab8 aa5 t20 m_5 m_6:Int) (m_7:LF) (e0:Kz6) (e1:Bool):(Int)->((Int)->Bool)->Bool:=λv_ K=>match v_ with
 | t21=>(cond (decide (t21<t20)) (pC N m_5 m_6 m_7 i t21 (λxr=>pC N m_5 m_6 m_7 t21 i (λZ5=>PF N xr Z5 (λcr=>cond (!cr) (e0 false) (ac .i64 (t21+1)&&K (t21+1)))))) e1)
def E7 (N:Nat) (t16 m m_3:Int) (m_4:LF) (e0:Kz6) (e1:Bool):(Int)->((Int)->Bool)->Bool:=λv_ K=>match v_ with
 | t17=>(cond (decide (t17<t16)) (af N (E8 N t17 t16 t17 t17 m m_3 m_4 (λt2=>e0 t2) (ac .i64 (t17+1)&&K (t17+1))) 0) e1)
def SJ (N:Nat) (ZI Zc:Int) (Zp:LF) (k0:Kz6):Bool:=
 (Mr N ZI Zc Zp (λnr=>cond ((nr != 0)==false) (cond (ZI != Zc) (k0 false) (af N (E7 N ZI ZI Zc Zp (λacs=>k0 acs) (k0 true)) 0)) (k0 false)))
def Re (N:Nat):Int->Int->LF->(Kz6)->Bool:=aw N (SJ N)
def wV (N:Nat) (is:Bool) (e:Int) (k0:Bool):Bool:=
 (cond (!is) false k0)
def cP (N:Nat):Bool->Int->(Bool)->Bool:=wV N
abbrev HA:=Fl->(Kz7)->Bool
def tY (N:Nat):HA:=λx k=>match x with | some b=>k b | none=>false
def GQ8 (N:Nat) (x:Int) (k0:Kz7):Bool:=
 (cond (x==0) (k0 64) (inR (Int.fdiv (IntKind.wrap .u64 ((aA .and .u64 x (IntKind.wrap .u64 (0 - x)))*285870213051353865)) (2 ^ 58)) 64&&(ac .i64 (zL.getD (Int.toNat (Int.fdiv (IntKind.wrap .u64 ((aA .and .u64 x (IntKind.wrap .u64 (0 - x)))*285870213051353865)) (2 ^ 58))) 0)&&k0 (zL.getD (Int.toNat (Int.fdiv (IntKind.wrap .u64 ((aA .and .u64 x (IntKind.wrap .u64 (0 - x)))*285870213051353865)) (2 ^ 58))) 0))))
def sQ8 (N:Nat):Int->(Kz7)->Bool:=aw N (GQ8 N)
def KN (N:Nat) (b f_0 f_1 f_2:Int) (p:Bool) (p_1 Z4:Int) (k0:Kx5):Bool:=
 (sQ8 N p_1 (λZC=>decide (0<=ZC)&&(ac .i64 (Z4+ZC)&&k0 p (Int.fdiv p_1 (2 ^ (min ZC.toNat 64))) (Z4+ZC) 0)))
def SV (N:Nat) (b f_0 f_1 f_2:Int) (k0:Kx5):Bool:=
 (Rd N b f_0 f_1 f_2 (λcr nr Y_=>ac .i64 (nr - f_2)&&Rb N b f_0 f_1 f_2 (λZe=>cond (Ze==1) (k0 false 0 0 4) (cond (Ze==2) (k0 false 0 0 4) (cond (Ze==3) (k0 cr 0 0 0) (cond (Ze==4) (ac .i64 ((nr - f_2)+1)&&KN N b f_0 f_1 f_2 cr Y_ ((nr - f_2)+1) k0) (ng N f_0 f_1 f_2 (λZt=>KN N b f_0 f_1 f_2 cr (aA .or .u64 Y_ Zt) (nr - f_2) k0))))))))
def VD (N:Nat):Int->Int->Int->Int->(Kx5)->Bool:=aw N (SV N)
def At (N:Nat) (x:Fl) (k0:Kx5):Bool:=
 (tY N x (λnr=>vb N (λY_ Ze Zt=>VD N nr Y_ Ze Zt (λcr ZC n5 n6=>k0 cr ZC n5 n6))))
def rz (N:Nat):Fl->(Kx5)->Bool:=At N
def wP (N:Nat) (x:LI) (e0:Kz7):(Int)->((Int)->Bool)->Bool:=λv_ K=>match v_ with
 | n=>(cond ((decide (n>0))==true) (ac .i64 (n - 1)&&(inR (n - 1) x.length&&(decide ((Int.toNat (n - 1))<x.length)&&cond ((x.getD (Int.toNat (n - 1)) 0)==0) (ac .i64 (n - 1)&&K (n - 1)) (e0 n)))) (e0 n))
def SA (N:Nat) (b:LI) (k0:Kz8):Bool:=
 (af N (wP N b (λZY=>decide (0<=ZY/\ZY<=((b.length:Nat):Int))&&k0 (ZY.toNat - 0))) ((b.length:Nat):Int))
def xA (N:Nat):LI->(Kz8)->Bool:=aw N (SA N)
def Au (N:Nat) (n:Int) (k0:LI->Bool):Bool:=
 (xA N [n] (λmr=>decide ((0+mr)<=(List.length [n]))&&k0 (List.take mr (List.drop 0 [n]))))
def ka (N:Nat):Int->(LI->Bool)->Bool:=Au N
def VZ (N:Nat) (neg:Bool) (abs:LI) (b:Bool) (k0:Kz6):Bool:=
 (cond (neg==true) (k0 (decide (((abs.length:Nat):Int)>0))) (k0 false))
def EO (N:Nat):Bool->LI->Bool->(Kz6)->Bool:=VZ N
def Sp (N:Nat) (n:Int) (b:Bool) (k0:Ky5):Bool:=
 (ka N n (λnsr=>EO N false nsr b (λcr=>k0 cr nsr)))
def Q4 (N:Nat):Int->Bool->(Ky5)->Bool:=aw N (Sp N)
def Rs (N:Nat) (x:LI) (k0:LI->Bool):Bool:=
 (decide ((List.length ([]++x))*8<=140737488355328)&&k0 ([]++x))
def sk (N:Nat):LI->(LI->Bool)->Bool:=Rs N
def W4 (N:Nat) (neg:Bool) (abs:LI) (b:Bool) (Y8:LI) (k0:Kz6):Bool:=
 (cond (neg==true) (k0 (decide (((abs.length:Nat):Int)>0))) (k0 false))
def Ms (N:Nat):Bool->LI->Bool->LI->(Kz6)->Bool:=W4 N
def SC (N:Nat) (b:Bool) (Y8:LI) (k0:Ky5):Bool:=
 (sk N Y8 (λnsr=>Ms N (!b) nsr b Y8 (λcr=>k0 cr nsr)))
def Q_ (N:Nat):Bool->LI->(Ky5)->Bool:=aw N (SC N)
def SG (N:Nat) (n:Int) (b:Bool) (k0:Ky5):Bool:=
 (cond (decide (n<0)) (ka N (IntKind.wrap .u64 (0 - (IntKind.wrap .u64 n))) (λnsr=>EO N true nsr b (λcr=>k0 cr nsr))) (ka N (IntKind.wrap .u64 n) (λY9=>EO N false Y9 b (λZb=>k0 Zb Y9))))
def WO (N:Nat):Int->Bool->(Ky5)->Bool:=aw N (SG N)
def RH (N:Nat) (n:Int) (k0:Ky5):Bool:=
 (WO N n false (λcr nsr=>k0 cr nsr))
def G6 (N:Nat):Int->(Ky5)->Bool:=RH N
def eg (N:Nat) (words rest:Int) (t24:LI) (t25:Int) (e0:LI->Bool):(Int × LI)->((Int × LI)->Bool)->Bool:=λv_ K=>match v_ with
 | (t26,z)=>(cond (decide (t26<t25)) (inR t26 t24.length&&(ac .i64 (words+t26)&&(inR (words+t26) z.length&&(decide ((Int.toNat (words+t26))<z.length)&&(decide (0<=rest)&&(inR (words+t26) z.length&&(decide ((Int.toNat (words+t26))<z.length)&&(ac .i64 (words+t26)&&(ac .i64 ((words+t26)+1)&&(decide (0<=(IntKind.wrap .u64 (64 - rest)))&&(inR ((words+t26)+1) (List.length (z.set (Int.toNat (words+t26)) (aA .or .u64 (z.getD (Int.toNat (words+t26)) 0) (IntKind.wrap .u64 ((t24.getD t26.toNat 0)*2 ^ (min rest.toNat 64))))))&&(decide ((Int.toNat ((words+t26)+1))<(List.length (z.set (Int.toNat (words+t26)) (aA .or .u64 (z.getD (Int.toNat (words+t26)) 0) (IntKind.wrap .u64 ((t24.getD t26.toNat 0)*2 ^ (min rest.toNat 64)))))))&&(ac .i64 (t26+1)&&K ((t26+1),(List.set (z.set (Int.toNat (words+t26)) (aA .or .u64 (z.getD (Int.toNat (words+t26)) 0) (IntKind.wrap .u64 ((t24.getD t26.toNat 0)*2 ^ (min rest.toNat 64))))) (Int.toNat ((words+t26)+1)) (Int.fdiv (t24.getD t26.toNat 0) (2 ^ (min (Int.toNat (IntKind.wrap .u64 (64 - rest))) 64)))))))))))))))))) (e0 z))
def vO (N:Nat) (x:LI) (n:Int) (k0:LI->Bool):Bool:=
 (cond (((x.length:Nat):Int)==0) (k0 []) (ac .i64 (IntKind.wrap .u64 (Int.tdiv n 64))&&(ac .i64 ((IntKind.wrap .u64 (Int.tdiv n 64))+((x.length:Nat):Int))&&(ac .i64 (((IntKind.wrap .u64 (Int.tdiv n 64))+((x.length:Nat):Int))+1)&&(iF 8 (((IntKind.wrap .u64 (Int.tdiv n 64))+((x.length:Nat):Int))+1) (((IntKind.wrap .u64 (Int.tdiv n 64))+((x.length:Nat):Int))+1)&&af N (eg N (IntKind.wrap .u64 (Int.tdiv n 64)) (Int.tmod n 64) x ((x.length:Nat):Int) (λz_1=>xA N z_1 (λmr=>decide ((0+mr)<=z_1.length)&&k0 (List.take mr (List.drop 0 z_1))))) (0,(List.replicate (Int.toNat (((IntKind.wrap .u64 (Int.tdiv n 64))+((x.length:Nat):Int))+1)) (0:Int))))))))
def wI (N:Nat):LI->Int->(LI->Bool)->Bool:=aw N (vO N)
def We (N:Nat) (n:Int) (b Y8:Bool) (Za:LI) (k0:Ky5):Bool:=
 (wI N Za n (λnsr=>EO N Y8 nsr b (λcr=>k0 cr nsr)))
def VA (N:Nat):Int->Bool->Bool->LI->(Ky5)->Bool:=We N
def wM (N:Nat) (Zs y_1:LI) (e0:Kz7) (e1:Bool):(Int)->((Int)->Bool)->Bool:=λv_ K=>match v_ with
 | i=>(cond (decide (i>=0)) (inR i Zs.length&&(inR i y_1.length&&cond ((Zs.getD i.toNat 0) != (y_1.getD i.toNat 0)) (inR i Zs.length&&(inR i y_1.length&&cond (decide ((Zs.getD i.toNat 0)<(y_1.getD i.toNat 0))) (e0 (-1)) (e0 1))) (ac .i64 (i - 1)&&K (i - 1)))) e1)
def MU (N:Nat) (x y:LI) (k0:Kz7):Bool:=
 (cond (((x.length:Nat):Int) != ((y.length:Nat):Int)) (cond (decide (((x.length:Nat):Int)<((y.length:Nat):Int))) (k0 (-1)) (k0 1)) (ac .i64 (((x.length:Nat):Int) - 1)&&af N (wM N x y (λt4=>k0 t4) (k0 0)) (((x.length:Nat):Int) - 1)))
def DI (N:Nat):LI->LI->(Kz7)->Bool:=aw N (MU N)
def Jv (N:Nat) (x Z2 ZY:Int) (k0:Kz7):Bool:=
 (cond (decide (Z2>=256)) (ac .i64 (ZY+8)&&(inR (IntKind.wrap .u8 (Int.fdiv Z2 (2 ^ 8))) 256&&(ac .i64 (az.getD (Int.toNat (IntKind.wrap .u8 (Int.fdiv Z2 (2 ^ 8)))) 0)&&(ac .i64 ((ZY+8)+(az.getD (Int.toNat (IntKind.wrap .u8 (Int.fdiv Z2 (2 ^ 8)))) 0))&&k0 ((ZY+8)+(az.getD (Int.toNat (IntKind.wrap .u8 (Int.fdiv Z2 (2 ^ 8)))) 0)))))) (inR (IntKind.wrap .u8 Z2) 256&&(ac .i64 (az.getD (Int.toNat (IntKind.wrap .u8 Z2)) 0)&&(ac .i64 (ZY+(az.getD (Int.toNat (IntKind.wrap .u8 Z2)) 0))&&k0 (ZY+(az.getD (Int.toNat (IntKind.wrap .u8 Z2)) 0))))))
def Ju (N:Nat) (x Zs n:Int) (k0:Kz7):Bool:=
 (cond (decide (Zs>=65536)) (ac .i64 (n+16)&&Jv N x (Int.fdiv Zs (2 ^ 16)) (n+16) k0) (Jv N x Zs n k0))
def SP (N:Nat) (x:Int) (k0:Kz7):Bool:=
 (cond (decide (x>=4294967296)) (Ju N x (Int.fdiv x (2 ^ 32)) 32 k0) (Ju N x x 0 k0))
def Rg (N:Nat):Int->(Kz7)->Bool:=aw N (SP N)
def qD (N:Nat) (x:LI) (k0:Kz7):Bool:=
 (cond (((x.length:Nat):Int)==0) (k0 0) (ac .i64 (((x.length:Nat):Int) - 1)&&(ac .i64 (64*(((x.length:Nat):Int) - 1))&&(ac .i64 (((x.length:Nat):Int) - 1)&&(inR (((x.length:Nat):Int) - 1) x.length&&Rg N (x.getD (Int.toNat (((x.length:Nat):Int) - 1)) 0) (λnr=>ac .i64 ((64*(((x.length:Nat):Int) - 1))+nr)&&k0 ((64*(((x.length:Nat):Int) - 1))+nr)))))))
def rA (N:Nat):LI->(Kz7)->Bool:=aw N (qD N)
def Ry (N:Nat) (x:LI) (i:Int) (k0:Kz7):Bool:=
 (cond (decide (i<((x.length:Nat):Int))) (inR i x.length&&k0 (x.getD i.toNat 0)) (k0 0))
def zC (N:Nat):LI->Int->(Kz7)->Bool:=Ry N
def xP (N:Nat) (x:LI) (from_:Int) (k0:Kz7):Bool:=
 (ac .i64 (Int.tdiv from_ 64)&&zC N x (Int.tdiv from_ 64) (λnr=>decide (0<=(IntKind.wrap .u64 (Int.tmod from_ 64)))&&(ac .i64 ((Int.tdiv from_ 64)+1)&&zC N x ((Int.tdiv from_ 64)+1) (λY_=>decide (0<=(IntKind.wrap .u64 (64 - (IntKind.wrap .u64 (Int.tmod from_ 64)))))&&k0 (aA .or .u64 (Int.fdiv nr (2 ^ (min (Int.toNat (IntKind.wrap .u64 (Int.tmod from_ 64))) 64))) (IntKind.wrap .u64 (Y_*2 ^ (min (Int.toNat (IntKind.wrap .u64 (64 - (IntKind.wrap .u64 (Int.tmod from_ 64))))) 64))))))))
def vg (N:Nat):LI->Int->(Kz7)->Bool:=aw N (xP N)
def oW (N:Nat) (t4 aef ac_ ada:Int) (aju:Bool) (e0:Kx3):(Int × Int × Int × Int × Int × Int × Int × Int × Bool)->((Int × Int × Int × Int × Int × Int × Int × Int × Bool)->Bool)->Bool:=λv_ K=>match v_ with
 | (Zs,y_1,u,v,w,w_1,w_2,w_3,w_4)=>(cond ((decide (y_1>=v))==true) (cond (decide ((IntKind.wrap .u64 (Zs - y_1))>=(IntKind.wrap .u64 (w_3+v)))) ((!decide (y_1=0))&&((!decide (y_1=0))&&K (y_1,(Int.tmod Zs y_1),(IntKind.wrap .u64 (w_2+(IntKind.wrap .u64 ((IntKind.wrap .u64 (Int.tdiv Zs y_1))*u)))),(IntKind.wrap .u64 (w_3+(IntKind.wrap .u64 ((IntKind.wrap .u64 (Int.tdiv Zs y_1))*v)))),w_2,w_3,u,v,(!w_4)))) (e0 w w_1 w_2 w_3 w_4)) (e0 w w_1 w_2 w_3 w_4))
def yK (N:Nat) (x y:Int) (k0:Kx3):Bool:=
 (af N (oW N 0 0 0 0 false (λw_5 w_6 w_7 w_8 w_9=>k0 w_5 w_6 w_7 w_8 w_9)) (x,y,0,1,0,0,1,0,true))
def t_ (N:Nat):Int->Int->(Kx3)->Bool:=aw N (yK N)
def MQ (N:Nat) (x y:Int) (k0:Ky6):Bool:=
 (k0 (IntKind.wrap .u64 ((IntKind.wrap .u64 ((IntKind.wrap .u64 ((Int.fdiv x (2 ^ 32))*(Int.fdiv y (2 ^ 32))))+(Int.fdiv (IntKind.wrap .u64 ((IntKind.wrap .u64 ((Int.fdiv x (2 ^ 32))*(aA .and .u64 y 4294967295)))+(Int.fdiv (IntKind.wrap .u64 ((aA .and .u64 x 4294967295)*(aA .and .u64 y 4294967295))) (2 ^ 32)))) (2 ^ 32))))+(Int.fdiv (IntKind.wrap .u64 ((aA .and .u64 (IntKind.wrap .u64 ((IntKind.wrap .u64 ((Int.fdiv x (2 ^ 32))*(aA .and .u64 y 4294967295)))+(Int.fdiv (IntKind.wrap .u64 ((aA .and .u64 x 4294967295)*(aA .and .u64 y 4294967295))) (2 ^ 32)))) 4294967295)+(IntKind.wrap .u64 ((aA .and .u64 x 4294967295)*(Int.fdiv y (2 ^ 32)))))) (2 ^ 32)))) (IntKind.wrap .u64 (x*y)))
def G0 (N:Nat):Int->Int->(Ky6)->Bool:=aw N (MQ N)
abbrev US:=Int->Int->Int->(Ky6)->Bool
def sQ2 (N:Nat):US:=λx y c k=>(decide (c.toNat<=1))&&k (((x.toNat+y.toNat+c.toNat)%18446744073709551616:Nat):Int) (((x.toNat+y.toNat+c.toNat) / 18446744073709551616:Nat):Int)
def vN (N:Nat) (a b c d:Int) (k0:Ky6):Bool:=
 (G0 N a b (λnr Y_=>sQ2 N Y_ c 0 (λZe Zt=>sQ2 N Ze d 0 (λZC n5=>k0 (IntKind.wrap .u64 ((IntKind.wrap .u64 (nr+Zt))+n5)) ZC))))
def mw (N:Nat):Int->Int->Int->Int->(Ky6)->Bool:=aw N (vN N)
def mM (N:Nat) (Zs:LI) (Z6:Int) (t14:LI) (t15:Int) (e0:Kz0):(Int × Int × LI)->((Int × Int × LI)->Bool)->Bool:=λv_ K=>match v_ with
 | (aiq,t16,z)=>(cond (decide (t16<t15)) (inR t16 t14.length&&mw N (t14.getD t16.toNat 0) Z6 0 aiq (λnr Y_=>inR t16 z.length&&(decide (t16.toNat<z.length)&&(ac .i64 (t16+1)&&K (nr,(t16+1),(z.set t16.toNat Y_)))))) (e0 aiq z))
def M5 (N:Nat) (x:LI) (d more:Int) (k0:LI->Bool):Bool:=
 (ac .i64 (((x.length:Nat):Int)+1)&&(iF 8 (((x.length:Nat):Int)+1) (((x.length:Nat):Int)+1)&&af N (mM N x d x ((x.length:Nat):Int) (λahF z_1=>inR ((x.length:Nat):Int) z_1.length&&(decide ((Int.toNat ((x.length:Nat):Int))<z_1.length)&&xA N (z_1.set (Int.toNat ((x.length:Nat):Int)) ahF) (λmr=>decide ((0+mr)<=(List.length (z_1.set (Int.toNat ((x.length:Nat):Int)) ahF)))&&k0 (List.take mr (List.drop 0 (z_1.set (Int.toNat ((x.length:Nat):Int)) ahF))))))) (more,0,(List.replicate (Int.toNat (((x.length:Nat):Int)+1)) (0:Int)))))
def vJ (N:Nat):LI->Int->Int->(LI->Bool)->Bool:=aw N (M5 N)
abbrev UT:=Int->Int->Int->(Ky6)->Bool
def sQ3 (N:Nat):UT:=λx y c k=>(decide (c.toNat<=1))&&k (((x.toNat+18446744073709551616 - y.toNat - c.toNat)%18446744073709551616:Nat):Int) (cond (decide (x.toNat<y.toNat+c.toNat)) 1 0)
def mL (N:Nat) (Zs y_1:LI) (t12:Int) (e0:LI->Bool):(Int × Int × LI)->((Int × Int × LI)->Bool)->Bool:=λv_ K=>match v_ with
 | (borrow,t13,z)=>(cond (decide (t13<t12)) (inR t13 Zs.length&&zC N y_1 t13 (λnr=>sQ3 N (Zs.getD t13.toNat 0) nr borrow (λY_ Ze=>inR t13 z.length&&(decide (t13.toNat<z.length)&&(ac .i64 (t13+1)&&K (Ze,(t13+1),(z.set t13.toNat Y_))))))) (e0 z))
def Nf (N:Nat) (x y:LI) (k0:LI->Bool):Bool:=
 (iF 8 ((x.length:Nat):Int) ((x.length:Nat):Int)&&af N (mL N x y ((x.length:Nat):Int) (λz_1=>xA N z_1 (λmr=>decide ((0+mr)<=z_1.length)&&k0 (List.take mr (List.drop 0 z_1))))) (0,0,(List.replicate (Int.toNat ((x.length:Nat):Int)) (0:Int))))
def zD (N:Nat):LI->LI->(LI->Bool)->Bool:=aw N (Nf N)
def dQ (N:Nat) (w_0 w_1 w_2 w_3:Int) (w_4:Bool) (x y:LI) (k0:Kz5):Bool:=
 (cond w_4 (vJ N y w_1 0 (λnsr=>vJ N x w_0 0 (λY9=>zD N nsr Y9 (λZd=>vJ N x w_2 0 (λZg=>vJ N y w_3 0 (λZo=>zD N Zg Zo (λZn=>k0 Zd Zn))))))) (vJ N x w_0 0 (λs6=>vJ N y w_1 0 (λs7=>zD N s6 s7 (λs8=>vJ N y w_3 0 (λs9=>vJ N x w_2 0 (λs10=>zD N s9 s10 (λs11=>k0 s8 s11))))))))
def dZ (N:Nat):Int->Int->Int->Int->Bool->LI->LI->(Kz5)->Bool:=aw N (dQ N)
def V6 (N:Nat) (x:Int) (k0:Kz7):Bool:=
 (Rg N x (λnr=>ac .i64 (64 - nr)&&k0 (64 - nr)))
def Q7 (N:Nat):Int->(Kz7)->Bool:=V6 N
def yF (N:Nat) (y_1 s yn1 yn0 un32 un1 un0:Int) (e0:Kz7):(Int × Int)->((Int × Int)->Bool)->Bool:=λv_ K=>match v_ with
 | (q1,rhat)=>(cond ((decide (q1>=4294967296))==false) (cond (decide ((IntKind.wrap .u64 (q1*yn0))>(IntKind.wrap .u64 ((IntKind.wrap .u64 (4294967296*rhat))+un1)))) (cond (decide ((IntKind.wrap .u64 (rhat+yn1))>=4294967296)) (e0 (IntKind.wrap .u64 (q1 - 1))) (K ((IntKind.wrap .u64 (q1 - 1)),(IntKind.wrap .u64 (rhat+yn1))))) (e0 q1)) (cond (decide ((IntKind.wrap .u64 (rhat+yn1))>=4294967296)) (e0 (IntKind.wrap .u64 (q1 - 1))) (K ((IntKind.wrap .u64 (q1 - 1)),(IntKind.wrap .u64 (rhat+yn1))))))
def yG (N:Nat) (y_2 Zw agp aiM ah5 ajn un21:Int) (e0:Kz7):(Int × Int)->((Int × Int)->Bool)->Bool:=λv_ K=>match v_ with
 | (aeX,q0)=>(cond ((decide (q0>=4294967296))==false) (cond (decide ((IntKind.wrap .u64 (q0*aiM))>(IntKind.wrap .u64 ((IntKind.wrap .u64 (4294967296*aeX))+ah5)))) (cond (decide ((IntKind.wrap .u64 (aeX+agp))>=4294967296)) (e0 (IntKind.wrap .u64 (q0 - 1))) (K ((IntKind.wrap .u64 (aeX+agp)),(IntKind.wrap .u64 (q0 - 1))))) (e0 q0)) (cond (decide ((IntKind.wrap .u64 (aeX+agp))>=4294967296)) (e0 (IntKind.wrap .u64 (q0 - 1))) (K ((IntKind.wrap .u64 (aeX+agp)),(IntKind.wrap .u64 (q0 - 1))))))
def MP (N:Nat) (hi lo y:Int) (k0:Ky6):Bool:=
 (cond (y==0) false (cond (decide (y<=hi)) false (cond (hi==0) ((!decide (y=0))&&((!decide (y=0))&&k0 (IntKind.wrap .u64 (Int.tdiv lo y)) (Int.tmod lo y))) (Q7 N y (λnr=>decide (0<=(IntKind.wrap .u64 nr))&&(decide (0<=(IntKind.wrap .u64 nr))&&(decide (0<=(IntKind.wrap .u64 (64 - (IntKind.wrap .u64 nr))))&&(decide (0<=(IntKind.wrap .u64 nr))&&((!decide ((Int.fdiv (IntKind.wrap .u64 (y*2 ^ (min (Int.toNat (IntKind.wrap .u64 nr)) 64))) (2 ^ 32))=0))&&af N (yF N (IntKind.wrap .u64 (y*2 ^ (min (Int.toNat (IntKind.wrap .u64 nr)) 64))) (IntKind.wrap .u64 nr) (Int.fdiv (IntKind.wrap .u64 (y*2 ^ (min (Int.toNat (IntKind.wrap .u64 nr)) 64))) (2 ^ 32)) (aA .and .u64 (IntKind.wrap .u64 (y*2 ^ (min (Int.toNat (IntKind.wrap .u64 nr)) 64))) 4294967295) (aA .or .u64 (IntKind.wrap .u64 (hi*2 ^ (min (Int.toNat (IntKind.wrap .u64 nr)) 64))) (Int.fdiv lo (2 ^ (min (Int.toNat (IntKind.wrap .u64 (64 - (IntKind.wrap .u64 nr)))) 64)))) (Int.fdiv (IntKind.wrap .u64 (lo*2 ^ (min (Int.toNat (IntKind.wrap .u64 nr)) 64))) (2 ^ 32)) (aA .and .u64 (IntKind.wrap .u64 (lo*2 ^ (min (Int.toNat (IntKind.wrap .u64 nr)) 64))) 4294967295) (λahG=>(!decide ((Int.fdiv (IntKind.wrap .u64 (y*2 ^ (min (Int.toNat (IntKind.wrap .u64 nr)) 64))) (2 ^ 32))=0))&&af N (yG N (IntKind.wrap .u64 (y*2 ^ (min (Int.toNat (IntKind.wrap .u64 nr)) 64))) (IntKind.wrap .u64 nr) (Int.fdiv (IntKind.wrap .u64 (y*2 ^ (min (Int.toNat (IntKind.wrap .u64 nr)) 64))) (2 ^ 32)) (aA .and .u64 (IntKind.wrap .u64 (y*2 ^ (min (Int.toNat (IntKind.wrap .u64 nr)) 64))) 4294967295) (aA .and .u64 (IntKind.wrap .u64 (lo*2 ^ (min (Int.toNat (IntKind.wrap .u64 nr)) 64))) 4294967295) ahG (IntKind.wrap .u64 ((IntKind.wrap .u64 ((IntKind.wrap .u64 ((aA .or .u64 (IntKind.wrap .u64 (hi*2 ^ (min (Int.toNat (IntKind.wrap .u64 nr)) 64))) (Int.fdiv lo (2 ^ (min (Int.toNat (IntKind.wrap .u64 (64 - (IntKind.wrap .u64 nr)))) 64))))*4294967296))+(Int.fdiv (IntKind.wrap .u64 (lo*2 ^ (min (Int.toNat (IntKind.wrap .u64 nr)) 64))) (2 ^ 32)))) - (IntKind.wrap .u64 (ahG*(IntKind.wrap .u64 (y*2 ^ (min (Int.toNat (IntKind.wrap .u64 nr)) 64))))))) (λajV=>decide (0<=(IntKind.wrap .u64 nr))&&k0 (IntKind.wrap .u64 ((IntKind.wrap .u64 (ahG*4294967296))+ajV)) (Int.fdiv (IntKind.wrap .u64 ((IntKind.wrap .u64 ((IntKind.wrap .u64 ((IntKind.wrap .u64 ((IntKind.wrap .u64 ((IntKind.wrap .u64 ((aA .or .u64 (IntKind.wrap .u64 (hi*2 ^ (min (Int.toNat (IntKind.wrap .u64 nr)) 64))) (Int.fdiv lo (2 ^ (min (Int.toNat (IntKind.wrap .u64 (64 - (IntKind.wrap .u64 nr)))) 64))))*4294967296))+(Int.fdiv (IntKind.wrap .u64 (lo*2 ^ (min (Int.toNat (IntKind.wrap .u64 nr)) 64))) (2 ^ 32)))) - (IntKind.wrap .u64 (ahG*(IntKind.wrap .u64 (y*2 ^ (min (Int.toNat (IntKind.wrap .u64 nr)) 64)))))))*4294967296))+(aA .and .u64 (IntKind.wrap .u64 (lo*2 ^ (min (Int.toNat (IntKind.wrap .u64 nr)) 64))) 4294967295))) - (IntKind.wrap .u64 (ajV*(IntKind.wrap .u64 (y*2 ^ (min (Int.toNat (IntKind.wrap .u64 nr)) 64))))))) (2 ^ (min (Int.toNat (IntKind.wrap .u64 nr)) 64))))) ((IntKind.wrap .u64 ((IntKind.wrap .u64 ((IntKind.wrap .u64 ((IntKind.wrap .u64 ((aA .or .u64 (IntKind.wrap .u64 (hi*2 ^ (min (Int.toNat (IntKind.wrap .u64 nr)) 64))) (Int.fdiv lo (2 ^ (min (Int.toNat (IntKind.wrap .u64 (64 - (IntKind.wrap .u64 nr)))) 64))))*4294967296))+(Int.fdiv (IntKind.wrap .u64 (lo*2 ^ (min (Int.toNat (IntKind.wrap .u64 nr)) 64))) (2 ^ 32)))) - (IntKind.wrap .u64 (ahG*(IntKind.wrap .u64 (y*2 ^ (min (Int.toNat (IntKind.wrap .u64 nr)) 64))))))) - (IntKind.wrap .u64 ((IntKind.wrap .u64 (Int.tdiv (IntKind.wrap .u64 ((IntKind.wrap .u64 ((IntKind.wrap .u64 ((aA .or .u64 (IntKind.wrap .u64 (hi*2 ^ (min (Int.toNat (IntKind.wrap .u64 nr)) 64))) (Int.fdiv lo (2 ^ (min (Int.toNat (IntKind.wrap .u64 (64 - (IntKind.wrap .u64 nr)))) 64))))*4294967296))+(Int.fdiv (IntKind.wrap .u64 (lo*2 ^ (min (Int.toNat (IntKind.wrap .u64 nr)) 64))) (2 ^ 32)))) - (IntKind.wrap .u64 (ahG*(IntKind.wrap .u64 (y*2 ^ (min (Int.toNat (IntKind.wrap .u64 nr)) 64))))))) (Int.fdiv (IntKind.wrap .u64 (y*2 ^ (min (Int.toNat (IntKind.wrap .u64 nr)) 64))) (2 ^ 32))))*(Int.fdiv (IntKind.wrap .u64 (y*2 ^ (min (Int.toNat (IntKind.wrap .u64 nr)) 64))) (2 ^ 32)))))),(IntKind.wrap .u64 (Int.tdiv (IntKind.wrap .u64 ((IntKind.wrap .u64 ((IntKind.wrap .u64 ((aA .or .u64 (IntKind.wrap .u64 (hi*2 ^ (min (Int.toNat (IntKind.wrap .u64 nr)) 64))) (Int.fdiv lo (2 ^ (min (Int.toNat (IntKind.wrap .u64 (64 - (IntKind.wrap .u64 nr)))) 64))))*4294967296))+(Int.fdiv (IntKind.wrap .u64 (lo*2 ^ (min (Int.toNat (IntKind.wrap .u64 nr)) 64))) (2 ^ 32)))) - (IntKind.wrap .u64 (ahG*(IntKind.wrap .u64 (y*2 ^ (min (Int.toNat (IntKind.wrap .u64 nr)) 64))))))) (Int.fdiv (IntKind.wrap .u64 (y*2 ^ (min (Int.toNat (IntKind.wrap .u64 nr)) 64))) (2 ^ 32))))))) ((IntKind.wrap .u64 (Int.tdiv (aA .or .u64 (IntKind.wrap .u64 (hi*2 ^ (min (Int.toNat (IntKind.wrap .u64 nr)) 64))) (Int.fdiv lo (2 ^ (min (Int.toNat (IntKind.wrap .u64 (64 - (IntKind.wrap .u64 nr)))) 64)))) (Int.fdiv (IntKind.wrap .u64 (y*2 ^ (min (Int.toNat (IntKind.wrap .u64 nr)) 64))) (2 ^ 32)))),(IntKind.wrap .u64 ((aA .or .u64 (IntKind.wrap .u64 (hi*2 ^ (min (Int.toNat (IntKind.wrap .u64 nr)) 64))) (Int.fdiv lo (2 ^ (min (Int.toNat (IntKind.wrap .u64 (64 - (IntKind.wrap .u64 nr)))) 64)))) - (IntKind.wrap .u64 ((IntKind.wrap .u64 (Int.tdiv (aA .or .u64 (IntKind.wrap .u64 (hi*2 ^ (min (Int.toNat (IntKind.wrap .u64 nr)) 64))) (Int.fdiv lo (2 ^ (min (Int.toNat (IntKind.wrap .u64 (64 - (IntKind.wrap .u64 nr)))) 64)))) (Int.fdiv (IntKind.wrap .u64 (y*2 ^ (min (Int.toNat (IntKind.wrap .u64 nr)) 64))) (2 ^ 32))))*(Int.fdiv (IntKind.wrap .u64 (y*2 ^ (min (Int.toNat (IntKind.wrap .u64 nr)) 64))) (2 ^ 32))))))))))))))))
def GZ (N:Nat):Int->Int->Int->(Ky6)->Bool:=aw N (MP N)
def lq (N:Nat) (Zs:LI) (Z6:Int) (e0:Kz0):(Int × Int × LI)->((Int × Int × LI)->Bool)->Bool:=λv_ K=>match v_ with
 | (rest,i,q)=>(cond (decide (i>=0)) (inR i Zs.length&&GZ N rest (Zs.getD i.toNat 0) Z6 (λnr Y_=>inR i q.length&&(decide (i.toNat<q.length)&&(ac .i64 (i - 1)&&K (Y_,(i - 1),(q.set i.toNat nr)))))) (e0 rest q))
def sD (N:Nat) (x:LI) (d:Int) (k0:LI->Int->Bool):Bool:=
 (iF 8 ((x.length:Nat):Int) ((x.length:Nat):Int)&&(ac .i64 (((x.length:Nat):Int) - 1)&&af N (lq N x d (λab6 q_1=>xA N q_1 (λmr=>decide ((0+mr)<=q_1.length)&&k0 (List.take mr (List.drop 0 q_1)) ab6))) (0,(((x.length:Nat):Int) - 1),(List.replicate (Int.toNat ((x.length:Nat):Int)) (0:Int)))))
def pB (N:Nat):LI->Int->(LI->Int->Bool)->Bool:=aw N (sD N)
def oX (N:Nat) (words rest:Int) (t24:LI) (t25:Int) (e0:LI->Bool):(Int × LI)->((Int × LI)->Bool)->Bool:=λv_ K=>match v_ with
 | (t26,z)=>(cond (decide (t26<t25)) (inR t26 t24.length&&(ac .i64 (words+t26)&&(inR (words+t26) z.length&&(decide ((Int.toNat (words+t26))<z.length)&&(decide (0<=rest)&&(inR (words+t26) z.length&&(decide ((Int.toNat (words+t26))<z.length)&&(ac .i64 (words+t26)&&(ac .i64 ((words+t26)+1)&&(decide (0<=(IntKind.wrap .u64 (64 - rest)))&&(inR ((words+t26)+1) (List.length (z.set (Int.toNat (words+t26)) (aA .or .u64 (z.getD (Int.toNat (words+t26)) 0) (IntKind.wrap .u64 ((t24.getD t26.toNat 0)*2 ^ (min rest.toNat 64))))))&&(decide ((Int.toNat ((words+t26)+1))<(List.length (z.set (Int.toNat (words+t26)) (aA .or .u64 (z.getD (Int.toNat (words+t26)) 0) (IntKind.wrap .u64 ((t24.getD t26.toNat 0)*2 ^ (min rest.toNat 64)))))))&&(ac .i64 (t26+1)&&K ((t26+1),(List.set (z.set (Int.toNat (words+t26)) (aA .or .u64 (z.getD (Int.toNat (words+t26)) 0) (IntKind.wrap .u64 ((t24.getD t26.toNat 0)*2 ^ (min rest.toNat 64))))) (Int.toNat ((words+t26)+1)) (Int.fdiv (t24.getD t26.toNat 0) (2 ^ (min (Int.toNat (IntKind.wrap .u64 (64 - rest))) 64)))))))))))))))))) (e0 z))
def S4 (N:Nat) (x:LI) (n:Int) (k0:Bool) (k1:Kz1):Bool:=
 (cond (((x.length:Nat):Int)==0) k0 (ac .i64 (IntKind.wrap .u64 (Int.tdiv n 64))&&(ac .i64 ((IntKind.wrap .u64 (Int.tdiv n 64))+((x.length:Nat):Int))&&(ac .i64 (((IntKind.wrap .u64 (Int.tdiv n 64))+((x.length:Nat):Int))+1)&&(iF 8 (((IntKind.wrap .u64 (Int.tdiv n 64))+((x.length:Nat):Int))+1) (((IntKind.wrap .u64 (Int.tdiv n 64))+((x.length:Nat):Int))+1)&&af N (oX N (IntKind.wrap .u64 (Int.tdiv n 64)) (Int.tmod n 64) x ((x.length:Nat):Int) (λz_1=>xA N z_1 (λmr=>k1 mr z_1))) (0,(List.replicate (Int.toNat (((IntKind.wrap .u64 (Int.tdiv n 64))+((x.length:Nat):Int))+1)) (0:Int))))))))
def PG (N:Nat):LI->Int->(Bool)->(Kz1)->Bool:=aw N (S4 N)
def qy (N u u_2:Nat) (v_1:LI) (n:Int) (u_3:LI) (e0:Kz7):(Int × Int)->((Int × Int)->Bool)->Bool:=λv_ K=>match v_ with
 | (q,rest)=>(ac .i64 (n - 2)&&(inR (n - 2) v_1.length&&G0 N q (v_1.getD (Int.toNat (n - 2)) 0) (λZe Zt=>cond ((decide (Ze<rest))==false) (cond ((Ze==rest)==true) (ac .i64 (n - 2)&&(inR (n - 2) u_2&&(decide ((u+(Int.toNat (n - 2)))<u_3.length)&&cond (decide (Zt<=(u_3.getD (u+(Int.toNat (n - 2))) 0))) (e0 q) (ac .i64 (n - 1)&&(inR (n - 1) v_1.length&&sQ2 N rest (v_1.getD (Int.toNat (n - 1)) 0) 0 (λZC n5=>cond (n5 != 0) (e0 (IntKind.wrap .u64 (q - 1))) (K ((IntKind.wrap .u64 (q - 1)),ZC)))))))) (ac .i64 (n - 1)&&(inR (n - 1) v_1.length&&sQ2 N rest (v_1.getD (Int.toNat (n - 1)) 0) 0 (λn6 n7=>cond (n7 != 0) (e0 (IntKind.wrap .u64 (q - 1))) (K ((IntKind.wrap .u64 (q - 1)),n6)))))) (e0 q))))
def vx (N u_0 u_1:Nat) (v b:LI) (k0:Kz7):Bool:=
 (inR ((v.length:Nat):Int) u_1&&(decide ((u_0+(Int.toNat ((v.length:Nat):Int)))<b.length)&&(ac .i64 (((v.length:Nat):Int) - 1)&&(inR (((v.length:Nat):Int) - 1) v.length&&cond (decide ((b.getD (u_0+(Int.toNat ((v.length:Nat):Int))) 0)>=(v.getD (Int.toNat (((v.length:Nat):Int) - 1)) 0))) (k0 18446744073709551615) (inR ((v.length:Nat):Int) u_1&&(decide ((u_0+(Int.toNat ((v.length:Nat):Int)))<b.length)&&(ac .i64 (((v.length:Nat):Int) - 1)&&(inR (((v.length:Nat):Int) - 1) u_1&&(decide ((u_0+(Int.toNat (((v.length:Nat):Int) - 1)))<b.length)&&(ac .i64 (((v.length:Nat):Int) - 1)&&(inR (((v.length:Nat):Int) - 1) v.length&&GZ N (b.getD (u_0+(Int.toNat ((v.length:Nat):Int))) 0) (b.getD (u_0+(Int.toNat (((v.length:Nat):Int) - 1))) 0) (v.getD (Int.toNat (((v.length:Nat):Int) - 1)) 0) (λnr Y_=>af N (qy N u_0 u_1 v ((v.length:Nat):Int) b (λt4=>k0 t4)) (nr,Y_)))))))))))))
def CL (N:Nat):Nat->Nat->LI->LI->(Kz7)->Bool:=aw N (vx N)
def sr (N u u_2:Nat) (v_1:LI) (n q t17:Int) (e0:Int->Int->LI->Bool):(Int × Int × Int × LI)->((Int × Int × Int × LI)->Bool)->Bool:=λv_ K=>match v_ with
 | (carry,borrow,t18,u_3)=>(cond (decide (t18<t17)) (inR t18 v_1.length&&mw N q (v_1.getD t18.toNat 0) 0 carry (λY_ Ze=>inR t18 u_2&&(decide ((u+t18.toNat)<u_3.length)&&sQ3 N (u_3.getD (u+t18.toNat) 0) Ze borrow (λZt ZC=>inR t18 u_2&&(decide ((u+t18.toNat)<u_3.length)&&(ac .i64 (t18+1)&&K (Y_,ZC,(t18+1),(u_3.set (u+t18.toNat) Zt)))))))) (e0 carry borrow u_3))
def sv (N u_8 u_9:Nat) (v_3:LI) (n_2 q_2 aa1 t60:Int) (e0:Kz0):(Int × Int × LI)->((Int × Int × LI)->Bool)->Bool:=λv_ K=>match v_ with
 | (aaW,t61,abz)=>(cond (decide (t61<t60)) (inR t61 u_9&&(decide ((u_8+t61.toNat)<abz.length)&&(inR t61 v_3.length&&sQ2 N (abz.getD (u_8+t61.toNat) 0) (v_3.getD t61.toNat 0) aaW (λn7 n8=>inR t61 u_9&&(decide ((u_8+t61.toNat)<abz.length)&&(ac .i64 (t61+1)&&K (n8,(t61+1),(abz.set (u_8+t61.toNat) n7)))))))) (e0 aaW abz))
def su (N u_5 u_6:Nat) (v_2:LI) (ZY:Int) (e0:Kz0):(Int × Int × LI)->((Int × Int × LI)->Bool)->Bool:=λv_ K=>match v_ with
 | (q_1,aa0,u_7)=>(cond (aa0 != 0) (af N (sv N u_5 u_6 v_2 ZY q_1 aa0 ZY (λagL abR=>inR ZY u_6&&(decide ((u_5+ZY.toNat)<abR.length)&&sQ2 N (abR.getD (u_5+ZY.toNat) 0) 0 agL (λn9 n10=>inR ZY u_6&&(decide ((u_5+ZY.toNat)<abR.length)&&K ((IntKind.wrap .u64 (q_1 - 1)),(IntKind.wrap .u64 (aa0 - n10)),(abR.set (u_5+ZY.toNat) n9))))))) (0,0,u_7)) (e0 q_1 u_7))
def wU (N u_0 u_1:Nat) (v b:LI) (k0:Kz0):Bool:=
 (CL N u_0 u_1 v b (λnr=>af N (sr N u_0 u_1 v ((v.length:Nat):Int) nr ((v.length:Nat):Int) (λZQ abu u_4=>inR ((v.length:Nat):Int) u_1&&(decide ((u_0+(Int.toNat ((v.length:Nat):Int)))<u_4.length)&&sQ3 N (u_4.getD (u_0+(Int.toNat ((v.length:Nat):Int))) 0) ZQ abu (λn5 n6=>inR ((v.length:Nat):Int) u_1&&(decide ((u_0+(Int.toNat ((v.length:Nat):Int)))<u_4.length)&&af N (su N u_0 u_1 v ((v.length:Nat):Int) (λq_3 b0=>k0 q_3 b0)) (nr,n6,(u_4.set (u_0+(Int.toNat ((v.length:Nat):Int))) n5))))))) (0,0,0,b)))
def ER (N:Nat):Nat->Nat->LI->LI->(Kz0)->Bool:=aw N (wU N)
def uv (N u u_2 v v_2:Nat) (n:Int) (u_3 v_3:LI) (e0:Kz7):(Int × Int)->((Int × Int)->Bool)->Bool:=λv_ K=>match v_ with
 | (q,rest)=>(ac .i64 (n - 2)&&(inR (n - 2) v_2&&(decide ((v+(Int.toNat (n - 2)))<v_3.length)&&G0 N q (v_3.getD (v+(Int.toNat (n - 2))) 0) (λZe Zt=>cond ((decide (Ze<rest))==false) (cond ((Ze==rest)==true) (ac .i64 (n - 2)&&(inR (n - 2) u_2&&(decide ((u+(Int.toNat (n - 2)))<u_3.length)&&cond (decide (Zt<=(u_3.getD (u+(Int.toNat (n - 2))) 0))) (e0 q) (ac .i64 (n - 1)&&(inR (n - 1) v_2&&(decide ((v+(Int.toNat (n - 1)))<v_3.length)&&sQ2 N rest (v_3.getD (v+(Int.toNat (n - 1))) 0) 0 (λZC n5=>cond (n5 != 0) (e0 (IntKind.wrap .u64 (q - 1))) (K ((IntKind.wrap .u64 (q - 1)),ZC))))))))) (ac .i64 (n - 1)&&(inR (n - 1) v_2&&(decide ((v+(Int.toNat (n - 1)))<v_3.length)&&sQ2 N rest (v_3.getD (v+(Int.toNat (n - 1))) 0) 0 (λn6 n7=>cond (n7 != 0) (e0 (IntKind.wrap .u64 (q - 1))) (K ((IntKind.wrap .u64 (q - 1)),n6))))))) (e0 q)))))
def P7 (N u_0 u_1 v_0 v_1:Nat) (b Y8:LI) (k0:Kz7):Bool:=
 (inR ((v_1:Nat):Int) u_1&&(decide ((u_0+(Int.toNat ((v_1:Nat):Int)))<b.length)&&(ac .i64 (((v_1:Nat):Int) - 1)&&(inR (((v_1:Nat):Int) - 1) v_1&&(decide ((v_0+(Int.toNat (((v_1:Nat):Int) - 1)))<Y8.length)&&cond (decide ((b.getD (u_0+(Int.toNat ((v_1:Nat):Int))) 0)>=(Y8.getD (v_0+(Int.toNat (((v_1:Nat):Int) - 1))) 0))) (k0 18446744073709551615) (inR ((v_1:Nat):Int) u_1&&(decide ((u_0+(Int.toNat ((v_1:Nat):Int)))<b.length)&&(ac .i64 (((v_1:Nat):Int) - 1)&&(inR (((v_1:Nat):Int) - 1) u_1&&(decide ((u_0+(Int.toNat (((v_1:Nat):Int) - 1)))<b.length)&&(ac .i64 (((v_1:Nat):Int) - 1)&&(inR (((v_1:Nat):Int) - 1) v_1&&(decide ((v_0+(Int.toNat (((v_1:Nat):Int) - 1)))<Y8.length)&&GZ N (b.getD (u_0+(Int.toNat ((v_1:Nat):Int))) 0) (b.getD (u_0+(Int.toNat (((v_1:Nat):Int) - 1))) 0) (Y8.getD (v_0+(Int.toNat (((v_1:Nat):Int) - 1))) 0) (λnr Y_=>af N (uv N u_0 u_1 v_0 v_1 ((v_1:Nat):Int) b Y8 (λt4=>k0 t4)) (nr,Y_)))))))))))))))
def Rh (N:Nat):Nat->Nat->Nat->Nat->LI->LI->(Kz7)->Bool:=aw N (P7 N)
def gJ (N u u_2 v v_2:Nat) (n q t17:Int) (v_3:LI) (e0:Int->Int->LI->Bool):(Int × Int × Int × LI)->((Int × Int × Int × LI)->Bool)->Bool:=λv_ K=>match v_ with
 | (carry,borrow,t18,u_3)=>(cond (decide (t18<t17)) (inR t18 v_2&&(decide ((v+t18.toNat)<v_3.length)&&mw N q (v_3.getD (v+t18.toNat) 0) 0 carry (λY_ Ze=>inR t18 u_2&&(decide ((u+t18.toNat)<u_3.length)&&sQ3 N (u_3.getD (u+t18.toNat) 0) Ze borrow (λZt ZC=>inR t18 u_2&&(decide ((u+t18.toNat)<u_3.length)&&(ac .i64 (t18+1)&&K (Y_,ZC,(t18+1),(u_3.set (u+t18.toNat) Zt))))))))) (e0 carry borrow u_3))
def gK (N u_8 u_9 v_7 v_8:Nat) (n_2 q_2 aa1 t60:Int) (v_9:LI) (e0:Kz0):(Int × Int × LI)->((Int × Int × LI)->Bool)->Bool:=λv_ K=>match v_ with
 | (aaW,t61,abz)=>(cond (decide (t61<t60)) (inR t61 u_9&&(decide ((u_8+t61.toNat)<abz.length)&&(inR t61 v_8&&(decide ((v_7+t61.toNat)<v_9.length)&&sQ2 N (abz.getD (u_8+t61.toNat) 0) (v_9.getD (v_7+t61.toNat) 0) aaW (λn7 n8=>inR t61 u_9&&(decide ((u_8+t61.toNat)<abz.length)&&(ac .i64 (t61+1)&&K (n8,(t61+1),(abz.set (u_8+t61.toNat) n7))))))))) (e0 aaW abz))
def zI (N u_5 u_6 v_4 v_5:Nat) (ZY:Int) (v_6:LI) (e0:Kz0):(Int × Int × LI)->((Int × Int × LI)->Bool)->Bool:=λv_ K=>match v_ with
 | (q_1,aa0,u_7)=>(cond (aa0 != 0) (af N (gK N u_5 u_6 v_4 v_5 ZY q_1 aa0 ZY v_6 (λagL abR=>inR ZY u_6&&(decide ((u_5+ZY.toNat)<abR.length)&&sQ2 N (abR.getD (u_5+ZY.toNat) 0) 0 agL (λn9 n10=>inR ZY u_6&&(decide ((u_5+ZY.toNat)<abR.length)&&K ((IntKind.wrap .u64 (q_1 - 1)),(IntKind.wrap .u64 (aa0 - n10)),(abR.set (u_5+ZY.toNat) n9))))))) (0,0,u_7)) (e0 q_1 u_7))
def M6 (N u_0 u_1 v_0 v_1:Nat) (b Y8:LI) (k0:Kz0):Bool:=
 (Rh N u_0 u_1 v_0 v_1 b Y8 (λnr=>af N (gJ N u_0 u_1 v_0 v_1 ((v_1:Nat):Int) nr ((v_1:Nat):Int) Y8 (λZQ abu u_4=>inR ((v_1:Nat):Int) u_1&&(decide ((u_0+(Int.toNat ((v_1:Nat):Int)))<u_4.length)&&sQ3 N (u_4.getD (u_0+(Int.toNat ((v_1:Nat):Int))) 0) ZQ abu (λn5 n6=>inR ((v_1:Nat):Int) u_1&&(decide ((u_0+(Int.toNat ((v_1:Nat):Int)))<u_4.length)&&af N (zI N u_0 u_1 v_0 v_1 ((v_1:Nat):Int) Y8 (λq_3 b0=>k0 q_3 b0)) (nr,n6,(u_4.set (u_0+(Int.toNat ((v_1:Nat):Int))) n5))))))) (0,0,0,b)))
def Pn (N:Nat):Nat->Nat->Nat->Nat->LI->LI->(Kz0)->Bool:=aw N (M6 N)
def wO (N x Z2:Nat) (x_3:LI) (e0:Kz7):(Int)->((Int)->Bool)->Bool:=λv_ K=>match v_ with
 | n=>(cond ((decide (n>0))==true) (ac .i64 (n - 1)&&(inR (n - 1) Z2&&(decide ((x+(Int.toNat (n - 1)))<x_3.length)&&cond ((x_3.getD (x+(Int.toNat (n - 1))) 0)==0) (ac .i64 (n - 1)&&K (n - 1)) (e0 n)))) (e0 n))
def qE (N Z_ Zs:Nat) (b:LI) (k0:Kz8):Bool:=
 (af N (wO N Z_ Zs b (λZY=>decide (0<=ZY/\ZY<=((Zs:Nat):Int))&&k0 (ZY.toNat - 0))) ((Zs:Nat):Int))
def rB (N:Nat):Nat->Nat->LI->(Kz8)->Bool:=aw N (qE N)
def RG (N Z_ Zs:Nat) (i:Int) (b:LI) (k0:Kz7):Bool:=
 (cond (decide (i<((Zs:Nat):Int))) (inR i Zs&&(decide ((Z_+i.toNat)<b.length)&&k0 (b.getD (Z_+i.toNat) 0))) (k0 0))
def Kk (N:Nat):Nat->Nat->Int->LI->(Kz7)->Bool:=RG N
def mC (N x Z2:Nat) (words rest:Int) (t37 aiG:Nat) (t38:Int) (x_3:LI) (e0:Kz7):(Int × Int)->((Int × Int)->Bool)->Bool:=λv_ K=>match v_ with
 | (lost,t39)=>(cond (decide (t39<t38)) (inR t39 aiG&&(decide ((t37+t39.toNat)<x_3.length)&&(ac .i64 (t39+1)&&K ((aA .or .u64 lost (x_3.getD (t37+t39.toNat) 0)),(t39+1))))) (e0 lost))
def iK (N x_4 x_5:Nat) (abS ab6 ahE t53:Int) (x_6:LI) (e0:LI->Bool):(Int × LI)->((Int × LI)->Bool)->Bool:=λv_ K=>match v_ with
 | (t54,z)=>(cond (decide (t54<t53)) (ac .i64 (abS+t54)&&Kk N x_4 x_5 (abS+t54) x_6 (λnr=>decide (0<=ab6)&&(ac .i64 (abS+t54)&&(ac .i64 ((abS+t54)+1)&&Kk N x_4 x_5 ((abS+t54)+1) x_6 (λY_=>decide (0<=(IntKind.wrap .u64 (64 - ab6)))&&(inR t54 z.length&&(decide (t54.toNat<z.length)&&(ac .i64 (t54+1)&&K ((t54+1),(z.set t54.toNat (aA .or .u64 (Int.fdiv nr (2 ^ (min ab6.toNat 64))) (IntKind.wrap .u64 (Y_*2 ^ (min (Int.toNat (IntKind.wrap .u64 (64 - ab6))) 64)))))))))))))) (e0 z))
def Jm (N Z_ Zs:Nat) (n:Int) (b:LI) (k0:LI->Bool->Bool):Bool:=
 (cond (decide ((IntKind.wrap .u64 (Int.tdiv n 64))>=(IntKind.wrap .u64 ((Zs:Nat):Int)))) (k0 [] (decide (((Zs:Nat):Int)>0))) (ac .i64 (IntKind.wrap .u64 (Int.tdiv n 64))&&(inR (IntKind.wrap .u64 (Int.tdiv n 64)) Zs&&(decide ((Z_+(Int.toNat (IntKind.wrap .u64 (Int.tdiv n 64))))<b.length)&&(decide (0<=(Int.tmod n 64))&&(decide (0<=(IntKind.wrap .u64 (Int.tdiv n 64))/\(IntKind.wrap .u64 (Int.tdiv n 64))<=((Zs:Nat):Int))&&af N (mC N Z_ Zs (IntKind.wrap .u64 (Int.tdiv n 64)) (Int.tmod n 64) Z_ ((Int.toNat (IntKind.wrap .u64 (Int.tdiv n 64))) - 0) ((((Int.toNat (IntKind.wrap .u64 (Int.tdiv n 64))) - 0):Nat):Int) b (λaip=>ac .i64 (((Zs:Nat):Int) - (IntKind.wrap .u64 (Int.tdiv n 64)))&&(iF 8 (((Zs:Nat):Int) - (IntKind.wrap .u64 (Int.tdiv n 64))) (((Zs:Nat):Int) - (IntKind.wrap .u64 (Int.tdiv n 64)))&&af N (iK N Z_ Zs (IntKind.wrap .u64 (Int.tdiv n 64)) (Int.tmod n 64) aip (((List.length (List.replicate (Int.toNat (((Zs:Nat):Int) - (IntKind.wrap .u64 (Int.tdiv n 64)))) (0:Int))):Nat):Int) b (λz_1=>xA N z_1 (λmr=>decide ((0+mr)<=z_1.length)&&k0 (List.take mr (List.drop 0 z_1)) (aip != 0)))) (0,(List.replicate (Int.toNat (((Zs:Nat):Int) - (IntKind.wrap .u64 (Int.tdiv n 64)))) (0:Int)))))) ((aA .and .u64 (b.getD (Z_+(Int.toNat (IntKind.wrap .u64 (Int.tdiv n 64)))) 0) (IntKind.wrap .u64 ((IntKind.wrap .u64 ((1:Int)*2 ^ (min (Int.toNat (Int.tmod n 64)) 64))) - 1))),0)))))))
def Kh (N:Nat):Nat->Nat->Int->LI->(LI->Bool->Bool)->Bool:=aw N (Jm N)
def PV (N:Nat) (up:Int) (u u_1:Nat) (n:Int) (e0:Kz5):(Int × LI × LI)->((Int × LI × LI)->Bool)->Bool:=λv_ K=>match v_ with
 | (j,u_2,q)=>(cond (decide (j>=0)) (ac .i64 (j+n)&&(ac .i64 ((j+n)+1)&&(decide (0<=j/\j<=((j+n)+1)/\((j+n)+1)<=((u_1:Nat):Int))&&ER N (u+j.toNat) ((Int.toNat ((j+n)+1)) - j.toNat) [] u_2 (λZt s6=>inR j q.length&&(decide (j.toNat<q.length)&&(ac .i64 (j - 1)&&K ((j - 1),s6,(q.set j.toNat Zt)))))))) (e0 u_2 q))
def Ca (N:Nat) (ajy:Int) (v v_1 u_5 u_6:Nat) (ZY:Int) (v_2:LI) (e0:Kz5):(Int × LI × LI)->((Int × LI × LI)->Bool)->Bool:=λv_ K=>match v_ with
 | (j_1,u_7,q_3)=>(cond (decide (j_1>=0)) (ac .i64 (j_1+ZY)&&(ac .i64 ((j_1+ZY)+1)&&(decide (0<=j_1/\j_1<=((j_1+ZY)+1)/\((j_1+ZY)+1)<=((u_6:Nat):Int))&&Pn N (u_5+j_1.toNat) ((Int.toNat ((j_1+ZY)+1)) - j_1.toNat) v v_1 u_7 v_2 (λZC s7=>inR j_1 q_3.length&&(decide (j_1.toNat<q_3.length)&&(ac .i64 (j_1 - 1)&&K ((j_1 - 1),s7,(q_3.set j_1.toNat ZC)))))))) (e0 u_7 q_3))
def Nz (N:Nat) (x y:LI) (aky:Int) (abz:Nat) (abR q_6:LI) (k0:Kz5):Bool:=
 (rB N 0 abz abR (λagj=>Kh N 0 agj aky abR (λs8 cr=>xA N q_6 (λair=>decide ((0+air)<=q_6.length)&&k0 (List.take air (List.drop 0 q_6)) s8))))
def Nd (N:Nat) (x y:LI) (k0:Kz5):Bool:=
 (DI N x y (λnr=>cond (decide (nr<0)) (sk N x (λnsr=>k0 [] nsr)) (cond (((y.length:Nat):Int)==1) (inR 0 y.length&&pB N x (y.getD 0 0) (λY9 Y_=>ka N Y_ (λZd=>k0 Y9 Zd))) (ac .i64 (((y.length:Nat):Int) - 1)&&(inR (((y.length:Nat):Int) - 1) y.length&&Q7 N (y.getD (Int.toNat (((y.length:Nat):Int) - 1)) 0) (λZe=>PG N y (IntKind.wrap .u64 Ze) (PG N x (IntKind.wrap .u64 Ze) (ac .i64 (((x.length:Nat):Int)+1)&&(decide (0<=(((x.length:Nat):Int)+1)/\(((x.length:Nat):Int)+1)<=2)&&(ac .i64 (((((Int.toNat (((x.length:Nat):Int)+1)) - 0):Nat):Int) - 0)&&(iF 8 (((((Int.toNat (((x.length:Nat):Int)+1)) - 0):Nat):Int) - 0) (((((Int.toNat (((x.length:Nat):Int)+1)) - 0):Nat):Int) - 0)&&(ac .i64 (((((Int.toNat (((x.length:Nat):Int)+1)) - 0):Nat):Int) - 0)&&(ac .i64 ((((((Int.toNat (((x.length:Nat):Int)+1)) - 0):Nat):Int) - 0) - 1)&&af N (PV N (IntKind.wrap .u64 Ze) 0 ((Int.toNat (((x.length:Nat):Int)+1)) - 0) 0 (λu_3 q_1=>Nz N x y (IntKind.wrap .u64 Ze) ((Int.toNat (((x.length:Nat):Int)+1)) - 0) u_3 q_1 k0)) (((((((Int.toNat (((x.length:Nat):Int)+1)) - 0):Nat):Int) - 0) - 1),([]++[0,0]),(List.replicate (Int.toNat (((((Int.toNat (((x.length:Nat):Int)+1)) - 0):Nat):Int) - 0)) (0:Int))))))))) (λaak Zo=>decide ((0+aak)<=Zo.length)&&(decide ((List.length ((List.take aak (List.drop 0 Zo))++[0,0]))*8<=140737488355328)&&(ac .i64 (((x.length:Nat):Int)+1)&&(decide (0<=(((x.length:Nat):Int)+1)/\(((x.length:Nat):Int)+1)<=(((List.length ((List.take aak (List.drop 0 Zo))++[0,0])):Nat):Int))&&(ac .i64 (((((Int.toNat (((x.length:Nat):Int)+1)) - 0):Nat):Int) - 0)&&(iF 8 (((((Int.toNat (((x.length:Nat):Int)+1)) - 0):Nat):Int) - 0) (((((Int.toNat (((x.length:Nat):Int)+1)) - 0):Nat):Int) - 0)&&(ac .i64 (((((Int.toNat (((x.length:Nat):Int)+1)) - 0):Nat):Int) - 0)&&(ac .i64 ((((((Int.toNat (((x.length:Nat):Int)+1)) - 0):Nat):Int) - 0) - 1)&&af N (PV N (IntKind.wrap .u64 Ze) 0 ((Int.toNat (((x.length:Nat):Int)+1)) - 0) 0 (λu_4 q_2=>Nz N x y (IntKind.wrap .u64 Ze) ((Int.toNat (((x.length:Nat):Int)+1)) - 0) u_4 q_2 k0)) (((((((Int.toNat (((x.length:Nat):Int)+1)) - 0):Nat):Int) - 0) - 1),((List.take aak (List.drop 0 Zo))++[0,0]),(List.replicate (Int.toNat (((((Int.toNat (((x.length:Nat):Int)+1)) - 0):Nat):Int) - 0)) (0:Int)))))))))))) (λmr Zg=>PG N x (IntKind.wrap .u64 Ze) (ac .i64 (((x.length:Nat):Int)+1)&&(decide (0<=(((x.length:Nat):Int)+1)/\(((x.length:Nat):Int)+1)<=2)&&(ac .i64 (((((Int.toNat (((x.length:Nat):Int)+1)) - 0):Nat):Int) - ((mr:Nat):Int))&&(iF 8 (((((Int.toNat (((x.length:Nat):Int)+1)) - 0):Nat):Int) - ((mr:Nat):Int)) (((((Int.toNat (((x.length:Nat):Int)+1)) - 0):Nat):Int) - ((mr:Nat):Int))&&(ac .i64 (((((Int.toNat (((x.length:Nat):Int)+1)) - 0):Nat):Int) - ((mr:Nat):Int))&&(ac .i64 ((((((Int.toNat (((x.length:Nat):Int)+1)) - 0):Nat):Int) - ((mr:Nat):Int)) - 1)&&af N (Ca N (IntKind.wrap .u64 Ze) 0 mr 0 ((Int.toNat (((x.length:Nat):Int)+1)) - 0) ((mr:Nat):Int) Zg (λu_8 q_4=>Nz N x y (IntKind.wrap .u64 Ze) ((Int.toNat (((x.length:Nat):Int)+1)) - 0) u_8 q_4 k0)) (((((((Int.toNat (((x.length:Nat):Int)+1)) - 0):Nat):Int) - ((mr:Nat):Int)) - 1),([]++[0,0]),(List.replicate (Int.toNat (((((Int.toNat (((x.length:Nat):Int)+1)) - 0):Nat):Int) - ((mr:Nat):Int))) (0:Int))))))))) (λZM Zn=>decide ((0+ZM)<=Zn.length)&&(decide ((List.length ((List.take ZM (List.drop 0 Zn))++[0,0]))*8<=140737488355328)&&(ac .i64 (((x.length:Nat):Int)+1)&&(decide (0<=(((x.length:Nat):Int)+1)/\(((x.length:Nat):Int)+1)<=(((List.length ((List.take ZM (List.drop 0 Zn))++[0,0])):Nat):Int))&&(ac .i64 (((((Int.toNat (((x.length:Nat):Int)+1)) - 0):Nat):Int) - ((mr:Nat):Int))&&(iF 8 (((((Int.toNat (((x.length:Nat):Int)+1)) - 0):Nat):Int) - ((mr:Nat):Int)) (((((Int.toNat (((x.length:Nat):Int)+1)) - 0):Nat):Int) - ((mr:Nat):Int))&&(ac .i64 (((((Int.toNat (((x.length:Nat):Int)+1)) - 0):Nat):Int) - ((mr:Nat):Int))&&(ac .i64 ((((((Int.toNat (((x.length:Nat):Int)+1)) - 0):Nat):Int) - ((mr:Nat):Int)) - 1)&&af N (Ca N (IntKind.wrap .u64 Ze) 0 mr 0 ((Int.toNat (((x.length:Nat):Int)+1)) - 0) ((mr:Nat):Int) Zg (λu_9 q_5=>Nz N x y (IntKind.wrap .u64 Ze) ((Int.toNat (((x.length:Nat):Int)+1)) - 0) u_9 q_5 k0)) (((((((Int.toNat (((x.length:Nat):Int)+1)) - 0):Nat):Int) - ((mr:Nat):Int)) - 1),((List.take ZM (List.drop 0 Zn))++[0,0]),(List.replicate (Int.toNat (((((Int.toNat (((x.length:Nat):Int)+1)) - 0):Nat):Int) - ((mr:Nat):Int))) (0:Int))))))))))))))))))
def BU (N:Nat):LI->LI->(Kz5)->Bool:=aw N (Nd N)
def CS (N:Nat) (x:LI) (k0:Kz7):Bool:=
 (zC N x 0 (λnr=>k0 nr))
def vc (N:Nat):LI->(Kz7)->Bool:=CS N
def Hl (N:Nat) (e0:Kz5):(LI × LI)->((LI × LI)->Bool)->Bool:=λv_ K=>match v_ with
 | (Z2,y_2)=>(cond (decide (((y_2.length:Nat):Int)>1)) (rA N Z2 (λY_=>ac .i64 (Y_ - 64)&&vg N Z2 (Y_ - 64) (λZe=>vg N y_2 (Y_ - 64) (λZt=>t_ N Ze Zt (λZC n5 n6 n7 cr=>cond (n5 != 0) (dZ N ZC n5 n6 n7 cr Z2 y_2 (λnsr Y9=>K (nsr,Y9))) (BU N Z2 y_2 (λZd Zg=>K (y_2,Zg)))))))) (e0 Z2 y_2))
def fh (N:Nat) (e0:Kz7):(Int × Int)->((Int × Int)->Bool)->Bool:=λv_ K=>match v_ with
 | (a,b)=>(cond (decide (b>0)) ((!decide (b=0))&&K (b,(Int.tmod a b))) (e0 a))
def yS (N:Nat) (x y x_4 y_4:LI) (k0:LI->Bool):Bool:=
 (cond (((y_4.length:Nat):Int)==0) (k0 x_4) (vc N x_4 (λn8=>vc N y_4 (λn9=>af N (fh N (λZy=>ka N Zy (λs6=>k0 s6))) (n8,n9)))))
def P8 (N:Nat) (x y Zs y_1:LI) (k0:LI->Bool):Bool:=
 (af N (Hl N (λx_3 y_3=>cond ((decide (((y_3.length:Nat):Int)>0))==true) (cond (decide (((x_3.length:Nat):Int)>1)) (BU N x_3 y_3 (λZo Zn=>yS N x y y_3 Zn k0)) (yS N x y x_3 y_3 k0)) (yS N x y x_3 y_3 k0))) (Zs,y_1))
def SF (N:Nat) (x y:LI) (k0:LI->Bool):Bool:=
 (DI N x y (λnr=>cond (decide (nr<0)) (P8 N x y y x k0) (P8 N x y x y k0)))
def CJ (N:Nat):LI->LI->(LI->Bool)->Bool:=aw N (SF N)
def P5 (N:Nat) (neg:Bool) (abs:LI) (b Y8:Bool) (k0:Ky5):Bool:=
 (cond (neg==true) (k0 (decide (((abs.length:Nat):Int)>0)) []) (k0 false []))
def Mo (N:Nat):Bool->LI->Bool->Bool->(Ky5)->Bool:=P5 N
def SD (N:Nat) (neg:Bool) (abs:LI) (b:Bool) (Y8:LI) (Za:Bool) (Zf:LI) (k0:Kz6):Bool:=
 (cond (neg==true) (k0 (decide (((abs.length:Nat):Int)>0))) (k0 false))
def Ra (N:Nat):Bool->LI->Bool->LI->Bool->LI->(Kz6)->Bool:=SD N
def Jt (N:Nat) (neg:Bool) (a b:LI) (Y8 Za:Bool) (Zy Zf:LI) (k0:Kx6):Bool:=
 (sk N Zy (λZn=>Mo N neg Zn Y8 Za (λcr s6=>sk N Zf (λs7=>Ra N false s7 cr Zn Za s6 (λZb=>k0 cr Zn Zb s7)))))
def SL (N:Nat) (neg:Bool) (a b:LI) (Y8 Za:Bool) (k0:Kx6):Bool:=
 (CJ N a b (λnsr=>DI N nsr [1] (λnr=>cond (nr != 0) (BU N a nsr (λY9 Zd=>BU N b nsr (λZg Zo=>Jt N neg a b Y8 Za Y9 Zg k0))) (Jt N neg a b Y8 Za a b k0))))
def Vx (N:Nat):Bool->LI->LI->Bool->Bool->(Kx6)->Bool:=aw N (SL N)
def GQ9 (N:Nat) (b Y8 Za:Bool) (Zf:LI) (Zl:Bool) (Zr:LI) (k0:Kx6):Bool:=
 (Vx N (Za != Zl) Zf Zr b Y8 (λcr nsr Zb Y9=>k0 cr nsr Zb Y9))
def sQ9 (N:Nat):Bool->Bool->Bool->LI->Bool->LI->(Kx6)->Bool:=GQ9 N
def ly (N:Nat) (y_2:LI) (i a:Int) (aiC:LI) (aiD aiE:Int) (t32:LI) (t33:Int) (e0:Kz0):(Int × Int × LI)->((Int × Int × LI)->Bool)->Bool:=λv_ K=>match v_ with
 | (carry,t34,z_1)=>(cond (decide (t34<t33)) (inR t34 t32.length&&(ac .i64 (i+t34)&&(ac .i64 (i+t34)&&(inR (i+t34) z_1.length&&(decide ((Int.toNat (i+t34))<z_1.length)&&mw N a (t32.getD t34.toNat 0) (z_1.getD (Int.toNat (i+t34)) 0) carry (λnr Y_=>inR (i+t34) z_1.length&&(decide ((Int.toNat (i+t34))<z_1.length)&&(ac .i64 (t34+1)&&K (nr,(t34+1),(z_1.set (Int.toNat (i+t34)) Y_)))))))))) (e0 carry z_1))
def lw (N:Nat) (y_1 t25:LI) (t26:Int) (e0:LI->Bool):(Int × LI)->((Int × LI)->Bool)->Bool:=λv_ K=>match v_ with
 | (t27,z)=>(cond (decide (t27<t26)) (inR t27 t25.length&&af N (ly N y_1 t27 (t25.getD t27.toNat 0) t25 t26 t27 y_1 ((y_1.length:Nat):Int) (λZQ z_2=>ac .i64 (t27+((y_1.length:Nat):Int))&&(inR (t27+((y_1.length:Nat):Int)) z_2.length&&(decide ((Int.toNat (t27+((y_1.length:Nat):Int)))<z_2.length)&&(ac .i64 (t27+1)&&K ((t27+1),(z_2.set (Int.toNat (t27+((y_1.length:Nat):Int))) ZQ))))))) (0,0,z)) (e0 z))
def S2 (N:Nat) (x y:LI) (k0:LI->Bool):Bool:=
 (cond ((((x.length:Nat):Int)==0)==false) (cond (((y.length:Nat):Int)==0) (k0 []) (ac .i64 (((x.length:Nat):Int)+((y.length:Nat):Int))&&(iF 8 (((x.length:Nat):Int)+((y.length:Nat):Int)) (((x.length:Nat):Int)+((y.length:Nat):Int))&&af N (lw N y x ((x.length:Nat):Int) (λz_3=>xA N z_3 (λmr=>decide ((0+mr)<=z_3.length)&&k0 (List.take mr (List.drop 0 z_3))))) (0,(List.replicate (Int.toNat (((x.length:Nat):Int)+((y.length:Nat):Int))) (0:Int)))))) (k0 []))
def z_ (N:Nat):LI->LI->(LI->Bool)->Bool:=aw N (S2 N)
def Wh (N:Nat) (b:Bool) (Y8:LI) (Za:Bool) (Zf:LI) (k0:Ky5):Bool:=
 (z_ N Y8 Zf (λnsr=>Ms N (b != Za) nsr b Y8 (λcr=>k0 cr nsr)))
def WS (N:Nat):Bool->LI->Bool->LI->(Ky5)->Bool:=Wh N
def Rr (N:Nat) (neg b:Bool) (Y8:LI) (Za:Bool) (Zf Zl:LI) (k0:Kz6):Bool:=
 (cond (neg==true) (k0 (decide (((Zl.length:Nat):Int)>0))) (k0 false))
def RY (N:Nat):Bool->Bool->LI->Bool->LI->LI->(Kz6)->Bool:=Rr N
def SR (N:Nat) (neg:Bool) (a:LI) (b Y8:Bool) (Za:LI) (k0:Ky4):Bool:=
 (Mo N neg a b Y8 (λcr nsr=>RY N false cr a Y8 nsr Za (λZb=>k0 cr Zb)))
def WP (N:Nat):Bool->LI->Bool->Bool->LI->(Ky4)->Bool:=aw N (SR N)
def V_ (N:Nat) (b Y8 Za:Bool) (Zf:LI) (k0:Kx6):Bool:=
 (sk N Zf (λnsr=>WP N Za nsr b Y8 [1] (λcr Zb=>k0 cr nsr Zb [1])))
def Vv (N:Nat):Bool->Bool->Bool->LI->(Kx6)->Bool:=V_ N
def bW (N:Nat) (x:Fl) (p:Bool) (p_1 Z4:Int) (n:Bool) (ZY:LI) (k0:Kx6):Bool:=
 (G6 N 1 (λZX Zd=>ac .i64 (0 - Z4)&&VA N (IntKind.wrap .u64 (imm true Z4 (0 - Z4))) false ZX Zd (λaaX Zg=>cond (decide (Z4<0)) (sQ9 N false false n ZY aaX Zg (λaed Zo aeS Zn=>k0 aed Zo aeS Zn)) (WS N n ZY aaX Zg (λaeT s6=>Vv N false false aeT s6 (λc8 s7 c9 s8=>k0 c8 s7 c9 s8))))))
def j9 (N:Nat) (x:Fl) (k0:Kx6):Bool:=
 (rz N x (λcr nr Y_ Ze=>cP N (Ze==0) 4 (Q4 N nr false (λZb nsr=>cond cr (Q_ N Zb nsr (λZE Y9=>bW N x cr nr Y_ ZE Y9 k0)) (bW N x cr nr Y_ Zb nsr k0)))))
def kc (N:Nat):Fl->(Kx6)->Bool:=aw N (j9 N)
def de (N:Nat) (ah1:LF) (aiB aeZ ae0 g_2 g_3:Int) (e0:List RY1->Bool):(Int × List RY1)->((Int × List RY1)->Bool)->Bool:=λv_ K=>match v_ with
 | (aaN,b2)=>(cond (decide (aaN<aiB)) (inR aaN ah1.length&&kc N (ah1.getD aaN.toNat none) (λZE Zd ZX Zg=>decide ((List.length (b2++[((ZE,Zd),(ZX,Zg))]))*8<=140737488355328)&&(ac .i64 (aaN+1)&&K ((aaN+1),(b2++[((ZE,Zd),(ZX,Zg))]))))) (e0 b2))
def jc (N:Nat) (ZI Zc:Int) (Zp:LF) (k0:List RY1->Bool):Bool:=
 (Mr N ZI Zc Zp (λnr=>cP N (nr==0) nr (af N (de N Zp ((Zp.length:Nat):Int) 0 0 ZI Zc (λ(aaZ:List RY1)=>k0 aaZ)) (0,[]))))
def ji (N:Nat):Int->Int->LF->(List RY1->Bool)->Bool:=aw N (jc N)
def eO (N:Nat) (g_0 g_1 i j:Int) (b:List RY1) (k0:Kx6):Bool:=
 (ac .i64 (i*g_1)&&(ac .i64 ((i*g_1)+j)&&(inR ((i*g_1)+j) b.length&&(decide ((Int.toNat ((i*g_1)+j))<b.length)&&k0 (b.getD (Int.toNat ((i*g_1)+j)) ((false,[]),(false,[]))).1.1 (b.getD (Int.toNat ((i*g_1)+j)) ((false,[]),(false,[]))).1.2 (b.getD (Int.toNat ((i*g_1)+j)) ((false,[]),(false,[]))).2.1 (b.getD (Int.toNat ((i*g_1)+j)) ((false,[]),(false,[]))).2.2))))
def aX (N:Nat):Int->Int->Int->Int->List RY1->(Kx6)->Bool:=aw N (eO N)
def V8 (N:Nat) (Z_:Bool) (Zs:LI) (Z2:Bool) (x_3:LI) (k0:LI->Bool):Bool:=
 (cond (((x_3.length:Nat):Int)==0) (k0 [1]) (k0 x_3))
def CI (N:Nat):Bool->LI->Bool->LI->(LI->Bool)->Bool:=V8 N
def Sw (N:Nat) (neg:Bool) (a b:LI) (Y8 Za:Bool) (k0:Ky4):Bool:=
 (Mo N neg a Y8 Za (λcr nsr=>Ra N false b cr a Za nsr (λZb=>k0 cr Zb)))
def Mq (N:Nat):Bool->LI->LI->Bool->Bool->(Ky4)->Bool:=aw N (Sw N)
def SW (N:Nat) (Z_:Bool) (Zs:LI) (Z2:Bool) (x_3:LI) (b Y8:Bool) (k0:Kx6):Bool:=
 (sk N Zs (λnsr=>CI N Z_ Zs Z2 x_3 (λY9=>sk N Y9 (λZd=>Mq N (!Z_) nsr Zd b Y8 (λcr Zb=>k0 cr nsr Zb Zd)))))
def VE (N:Nat):Bool->LI->Bool->LI->Bool->Bool->(Kx6)->Bool:=aw N (SW N)
def Wf (N:Nat) (b:Bool) (Y8:LI) (Za:Bool) (Zf:LI) (k0:LI->Bool):Bool:=
 (cond (((Zf.length:Nat):Int)==0) (k0 [1]) (k0 Zf))
def VB (N:Nat):Bool->LI->Bool->LI->(LI->Bool)->Bool:=Wf N
def nN (N:Nat) (x y:LI) (k0:LI->Bool):Bool:=
 (BU N x y (λnsr Y9=>k0 nsr))
def S5 (N:Nat) (x y:LI) (k0:LI->Bool):Bool:=
 (cond ((((y.length:Nat):Int)==1)==true) (inR 0 y.length&&cond ((y.getD 0 0)==1) (k0 x) (nN N x y k0)) (nN N x y k0))
def wH (N:Nat):LI->LI->(LI->Bool)->Bool:=aw N (S5 N)
def n_ (N:Nat) (Zs y_1:LI) (n t17:Int) (e0:Kz0):(Int × Int × LI)->((Int × Int × LI)->Bool)->Bool:=λv_ K=>match v_ with
 | (carry,t18,z)=>(cond (decide (t18<t17)) (zC N Zs t18 (λnr=>zC N y_1 t18 (λY_=>sQ2 N nr Y_ carry (λZe Zt=>inR t18 z.length&&(decide (t18.toNat<z.length)&&(ac .i64 (t18+1)&&K (Zt,(t18+1),(z.set t18.toNat Ze)))))))) (e0 carry z))
def xO (N:Nat) (x y:LI) (k0:LI->Bool):Bool:=
 (ac .i64 ((imm true ((x.length:Nat):Int) ((y.length:Nat):Int))+1)&&(iF 8 ((imm true ((x.length:Nat):Int) ((y.length:Nat):Int))+1) ((imm true ((x.length:Nat):Int) ((y.length:Nat):Int))+1)&&af N (n_ N x y (imm true ((x.length:Nat):Int) ((y.length:Nat):Int)) (imm true ((x.length:Nat):Int) ((y.length:Nat):Int)) (λZQ z_1=>inR (imm true ((x.length:Nat):Int) ((y.length:Nat):Int)) z_1.length&&(decide ((Int.toNat (imm true ((x.length:Nat):Int) ((y.length:Nat):Int)))<z_1.length)&&xA N (z_1.set (Int.toNat (imm true ((x.length:Nat):Int) ((y.length:Nat):Int))) ZQ) (λmr=>decide ((0+mr)<=(List.length (z_1.set (Int.toNat (imm true ((x.length:Nat):Int) ((y.length:Nat):Int))) ZQ)))&&k0 (List.take mr (List.drop 0 (z_1.set (Int.toNat (imm true ((x.length:Nat):Int) ((y.length:Nat):Int))) ZQ))))))) (0,0,(List.replicate (Int.toNat ((imm true ((x.length:Nat):Int) ((y.length:Nat):Int))+1)) (0:Int)))))
def yw (N:Nat):LI->LI->(LI->Bool)->Bool:=aw N (xO N)
def Sz (N:Nat) (neg:Bool) (y:LI) (b:Bool) (Y8:LI) (k0:Ky5):Bool:=
 (cond (b==neg) (yw N Y8 y (λnsr=>Ms N neg nsr b Y8 (λcr=>k0 cr nsr))) (DI N Y8 y (λnr=>cond (decide (nr>=0)) (zD N Y8 y (λY9=>Ms N b Y9 b Y8 (λZb=>k0 Zb Y9))) (zD N y Y8 (λZd=>Ms N neg Zd b Y8 (λZE=>k0 ZE Zd))))))
def Q8 (N:Nat):Bool->LI->Bool->LI->(Ky5)->Bool:=aw N (Sz N)
def Sx (N:Nat) (Z_:Bool) (Zs:LI) (Z2:Bool) (x_3:LI) (b Y8 Za:Bool) (Zf:LI) (Zl:Bool) (Zr:LI) (k0:Kx6):Bool:=
 (CI N Z_ Zs Z2 x_3 (λnsr=>VB N Za Zf Zl Zr (λY9=>CJ N nsr Y9 (λZd=>wH N nsr Zd (λZg=>wH N Y9 Zd (λZo=>z_ N Zs Zo (λZn=>EO N Z_ Zn false (λcr=>z_ N Zf Zg (λs6=>Q8 N Za s6 cr Zn (λZb s7=>CJ N s7 Zd (λs8=>wH N s7 s8 (λs9=>sk N s9 (λs10=>wH N Y9 s8 (λs11=>z_ N Zg s11 (λs12=>Mq N Zb s10 s12 b Y8 (λZE ZX=>k0 ZE s10 ZX s12))))))))))))))))
def Vt (N:Nat):Bool->LI->Bool->LI->Bool->Bool->Bool->LI->Bool->LI->(Kx6)->Bool:=aw N (Sx N)
def MO (N:Nat) (Z_:Bool) (Zs:LI) (Z2:Bool) (x_3:LI) (y_0:Bool) (y_1:LI) (y_2:Bool) (y_3:LI) (b Y8:Bool) (k0:Kx6):Bool:=
 (VE N y_0 y_1 y_2 y_3 false false (λcr nsr Zb Y9=>Vt N Z_ Zs Z2 x_3 b Y8 cr nsr Zb Y9 (λZE Zd ZX Zg=>k0 ZE Zd ZX Zg)))
def R4 (N:Nat):Bool->LI->Bool->LI->Bool->LI->Bool->LI->Bool->Bool->(Kx6)->Bool:=aw N (MO N)
def jm (N:Nat) (Z_:Bool) (Zs:LI) (Z2:Bool) (x_3:LI) (y_0:Bool) (y_1:LI) (y_2:Bool) (y_3:LI) (k0:Kx6):Bool:=
 (R4 N Z_ Zs Z2 x_3 y_0 y_1 y_2 y_3 false false (λcr nsr Zb Y9=>k0 cr nsr Zb Y9))
def cA (N:Nat):Bool->LI->Bool->LI->Bool->LI->Bool->LI->(Kx6)->Bool:=jm N
def Np (N:Nat) (Z_:Bool) (Zs:LI) (Z2:Bool) (x_3:LI) (k0:Kz7):Bool:=
 (cond Z_ (k0 (-1)) (cond (((Zs.length:Nat):Int)==0) (k0 0) (k0 1)))
def R_ (N:Nat):Bool->LI->Bool->LI->(Kz7)->Bool:=aw N (Np N)
def sC (N:Nat) (Z_:Bool) (Zs:LI) (Z2:Bool) (x_3:LI) (k0:Kz7):Bool:=
 (R_ N Z_ Zs Z2 x_3 (λnr=>k0 nr))
def tZ (N:Nat):Bool->LI->Bool->LI->(Kz7)->Bool:=sC N
def jq (N:Nat) (Z_:Bool) (Zs:LI) (Z2:Bool) (x_3:LI) (k0:Kz7):Bool:=
 (tZ N Z_ Zs Z2 x_3 (λnr=>k0 nr))
def bd (N:Nat):Bool->LI->Bool->LI->(Kz7)->Bool:=jq N
def bt (N:Nat) (i ajv ZU t9:Int) (acW:List RY1) (g_3 g_4:Int) (e0:Bool):(Int)->((Int)->Bool)->Bool:=λv_ K=>match v_ with
 | t10=>(cond (decide (t10<t9)) (aX N g_3 g_4 i t10 acW (λcr nsr Zb Y9=>aX N g_3 g_4 t10 i acW (λZE Zd ZX Zg=>cA N cr nsr Zb Y9 ZE Zd ZX Zg (λaaX Zo aed Zn=>bd N aaX Zo aed Zn (λnr=>cP N (nr==0) 112 (ac .i64 (t10+1)&&K (t10+1))))))) e0)
def br (N:Nat) (t5:Int) (b0:List RY1) (g g_2:Int) (e0:Bool):(Int)->((Int)->Bool)->Bool:=λv_ K=>match v_ with
 | t6=>(cond (decide (t6<t5)) (af N (bt N t6 t5 t6 t6 b0 g g_2 (ac .i64 (t6+1)&&K (t6+1))) 0) e0)
def cB (N:Nat) (g_0 g_1:Int) (b:List RY1) (k0:Bool):Bool:=
 (af N (br N g_0 b g_0 g_1 k0) 0)
def cK (N:Nat):Int->Int->List RY1->(Bool)->Bool:=aw N (cB N)
def qC (N:Nat) (a b:Int) (k0:Kx6):Bool:=
 (G6 N a (λcr nsr=>G6 N b (λZb Y9=>sQ9 N false false cr nsr Zb Y9 (λZE Zd ZX Zg=>k0 ZE Zd ZX Zg))))
def xB (N:Nat):Int->Int->(Kx6)->Bool:=aw N (qC N)
def pW (N:Nat) (n:Int) (k0:Kx6):Bool:=
 (xB N n 1 (λcr nsr Zb Y9=>k0 cr nsr Zb Y9))
def mz (N:Nat):Int->(Kx6)->Bool:=pW N
def Sr (N:Nat) (neg:Bool) (a b c d:LI) (Y8 Za:Bool) (k0:Kx6):Bool:=
 (CJ N a d (λnsr=>CJ N c b (λY9=>wH N a nsr (λZd=>wH N c Y9 (λZg=>z_ N Zd Zg (λZo=>wH N b Y9 (λZn=>wH N d nsr (λs6=>z_ N Zn s6 (λs7=>Mq N neg Zo s7 Y8 Za (λcr Zb=>k0 cr Zo Zb s7))))))))))
def Q5 (N:Nat):Bool->LI->LI->LI->LI->Bool->Bool->(Kx6)->Bool:=aw N (Sr N)
def MN (N:Nat) (Z_:Bool) (Zs:LI) (Z2:Bool) (x_3:LI) (y_0:Bool) (y_1:LI) (y_2:Bool) (y_3:LI) (b Y8:Bool) (k0:Kx6):Bool:=
 (CI N Z_ Zs Z2 x_3 (λnsr=>CI N y_0 y_1 y_2 y_3 (λY9=>Q5 N (Z_ != y_0) Zs nsr Y9 y_1 b Y8 (λcr Zd Zb Zg=>k0 cr Zd Zb Zg))))
def R3 (N:Nat):Bool->LI->Bool->LI->Bool->LI->Bool->LI->Bool->Bool->(Kx6)->Bool:=aw N (MN N)
def jo (N:Nat) (Z_:Bool) (Zs:LI) (Z2:Bool) (x_3:LI) (y_0:Bool) (y_1:LI) (y_2:Bool) (y_3:LI) (k0:Kx6):Bool:=
 (R3 N Z_ Zs Z2 x_3 y_0 y_1 y_2 y_3 false false (λcr nsr Zb Y9=>k0 cr nsr Zb Y9))
def d9 (N:Nat):Bool->LI->Bool->LI->Bool->LI->Bool->LI->(Kx6)->Bool:=jo N
def MM (N:Nat) (Z_:Bool) (Zs:LI) (Z2:Bool) (x_3:LI) (y_0:Bool) (y_1:LI) (y_2:Bool) (y_3:LI) (b Y8:Bool) (k0:Kx6):Bool:=
 (CI N Z_ Zs Z2 x_3 (λnsr=>CI N y_0 y_1 y_2 y_3 (λY9=>Q5 N (Z_ != y_0) Zs nsr y_1 Y9 b Y8 (λcr Zd Zb Zg=>k0 cr Zd Zb Zg))))
def RZ (N:Nat):Bool->LI->Bool->LI->Bool->LI->Bool->LI->Bool->Bool->(Kx6)->Bool:=aw N (MM N)
def iU (N:Nat) (Z_:Bool) (Zs:LI) (Z2:Bool) (x_3:LI) (y_0:Bool) (y_1:LI) (y_2:Bool) (y_3:LI) (k0:Kx6):Bool:=
 (RZ N Z_ Zs Z2 x_3 y_0 y_1 y_2 y_3 false false (λcr nsr Zb Y9=>k0 cr nsr Zb Y9))
def dN (N:Nat):Bool->LI->Bool->LI->Bool->LI->Bool->LI->(Kx6)->Bool:=iU N
def P6 (N:Nat) (Z_:Bool) (Zs:LI) (Z2:Bool) (x_3:LI) (y_0:Bool) (y_1:LI) (y_2:Bool) (y_3:LI) (b Y8:Bool) (k0:Kx6):Bool:=
 (CI N Z_ Zs Z2 x_3 (λnsr=>CI N y_0 y_1 y_2 y_3 (λY9=>CJ N nsr Y9 (λZd=>wH N nsr Zd (λZg=>wH N Y9 Zd (λZo=>z_ N Zs Zo (λZn=>EO N Z_ Zn false (λcr=>z_ N y_1 Zg (λs6=>Q8 N y_0 s6 cr Zn (λZb s7=>CJ N s7 Zd (λs8=>wH N s7 s8 (λs9=>sk N s9 (λs10=>wH N Y9 s8 (λs11=>z_ N Zg s11 (λs12=>Mq N Zb s10 s12 b Y8 (λZE ZX=>k0 ZE s10 ZX s12))))))))))))))))
def Q9 (N:Nat):Bool->LI->Bool->LI->Bool->LI->Bool->LI->Bool->Bool->(Kx6)->Bool:=aw N (P6 N)
def jp (N:Nat) (Z_:Bool) (Zs:LI) (Z2:Bool) (x_3:LI) (y_0:Bool) (y_1:LI) (y_2:Bool) (y_3:LI) (k0:Kx6):Bool:=
 (Q9 N Z_ Zs Z2 x_3 y_0 y_1 y_2 y_3 false false (λcr nsr Zb Y9=>k0 cr nsr Zb Y9))
def d_ (N:Nat):Bool->LI->Bool->LI->Bool->LI->Bool->LI->(Kx6)->Bool:=jp N
def ke (N:Nat) (g_0 g_1 i j:Int) (Z_:Bool) (Zs:LI) (Z2:Bool) (x_3:LI) (b:List RY1) (k0:List RY1->Bool):Bool:=
 (ac .i64 (i*g_1)&&(ac .i64 ((i*g_1)+j)&&(inR ((i*g_1)+j) b.length&&(decide ((Int.toNat ((i*g_1)+j))<b.length)&&k0 (b.set (Int.toNat ((i*g_1)+j)) ((Z_,Zs),(Z2,x_3)))))))
def fe (N:Nat):Int->Int->Int->Int->Bool->LI->Bool->LI->List RY1->(List RY1->Bool)->Bool:=ke N
def ce (N:Nat) (Z7 ahD t10 g g_2:Int) (x:Bool) (x_4:LI) (x_5:Bool) (x_6:LI) (e0:List RY1->Bool):(Int × List RY1)->((Int × List RY1)->Bool)->Bool:=λv_ K=>match v_ with
 | (t11,b0)=>(cond (decide (t11<t10)) (aX N g g_2 Z7 t11 b0 (λcr nsr Zb Y9=>aX N g g_2 ahD t11 b0 (λZE Zd ZX Zg=>dN N ZE Zd ZX Zg x x_4 x_5 x_6 (λaaX Zo aed Zn=>d_ N cr nsr Zb Y9 aaX Zo aed Zn (λaeS s6 aeT s7=>fe N g g_2 Z7 t11 aeS s6 aeT s7 b0 (λ(lr:List RY1)=>ac .i64 (t11+1)&&K ((t11+1),lr))))))) (e0 b0))
def eK (N:Nat) (g_0 g_1 i k_:Int) (Z_:Bool) (Zs:LI) (Z2:Bool) (x_3:LI) (b:List RY1) (k0:List RY1->Bool):Bool:=
 (af N (ce N i k_ g_1 g_0 g_1 Z_ Zs Z2 x_3 (λ(acW:List RY1)=>k0 acW)) (0,b))
def fa (N:Nat):Int->Int->Int->Int->Bool->LI->Bool->LI->List RY1->(List RY1->Bool)->Bool:=aw N (eK N)
def aB (N:Nat) (Zw k_ ajw aa4 g_3 g_4:Int) (p:Bool) (p_1:LI) (Z4:Bool) (p_3:LI) (e0:Int->List RY1->Bool) (e1:List RY1->Bool):(Int × List RY1)->((Int × List RY1)->Bool)->Bool:=λv_ K=>match v_ with
 | (i,acW)=>(cond (decide (i<g_3)) (aX N g_3 g_4 i k_ acW (λZE Zd ZX Zg=>bd N ZE Zd ZX Zg (λY_=>cond (Y_==0) (ac .i64 (i+1)&&K ((i+1),acW)) (bd N p p_1 Z4 p_3 (λZe=>cond (Ze==0) (e0 1 acW) (mz N 0 (λaaX Zo aed Zn=>d9 N ZE Zd ZX Zg p p_1 Z4 p_3 (λaeS s6 aeT s7=>cA N aaX Zo aed Zn aeS s6 aeT s7 (λc8 s8 c9 s9=>fa N g_3 g_4 i k_ c8 s8 c9 s9 acW (λ(lr:List RY1)=>ac .i64 (i+1)&&K ((i+1),lr))))))))))) (e1 acW))
def aM (N:Nat) (t9 g g_2:Int) (e0:Int->List RY1->Bool) (e1:Int->List RY1->Bool):(Int × Int × List RY1)->((Int × Int × List RY1)->Bool)->Bool:=λv_ K=>match v_ with
 | (s,t10,b0)=>(cond (decide (t10<t9)) (aX N g g_2 t10 t10 b0 (λcr nsr Zb Y9=>bd N cr nsr Zb Y9 (λnr=>cond (decide (nr<0)) (e0 1 b0) (ac .i64 (t10+1)&&af N (aB N s t10 t9 t10 g g_2 cr nsr Zb Y9 (λ(t2:Int) (akg:List RY1)=>e0 t2 akg) (λ(ajJ:List RY1)=>bd N cr nsr Zb Y9 (λZt=>cond (Zt==0) (ac .i64 (t10+1)&&K (2,(t10+1),ajJ)) (ac .i64 (t10+1)&&K (s,(t10+1),ajJ))))) ((t10+1),b0))))) (e1 s b0))
def cR (N:Nat) (g_0 g_1:Int) (b:List RY1) (k0:Int->List RY1->Bool):Bool:=
 (af N (aM N g_0 g_0 g_1 (λ(acs:Int) (akh:List RY1)=>k0 acs akh) (λ(Zz:Int) (aki:List RY1)=>k0 Zz aki)) (3,0,b))
def f_ (N:Nat):Int->Int->List RY1->(Int->List RY1->Bool)->Bool:=aw N (cR N)
def jl (N:Nat) (g_0 g_1:Int) (b:List RY1) (k0:Int->List RY1->Bool):Bool:=
 (cP N (g_0==g_1) 3 (cK N g_0 g_1 b (f_ N g_0 g_1 b (λ(nr:Int) (lr:List RY1)=>k0 nr lr))))
def d8 (N:Nat):Int->Int->List RY1->(Int->List RY1->Bool)->Bool:=jl N
def j8 (N:Nat) (ZI Zc:Int) (Zp:LF) (k0:Ky6):Bool:=
 (ji N ZI Zc Zp (λ(lr:List RY1)=>d8 N ZI Zc lr (λ(nr:Int) (ajU:List RY1)=>k0 nr 0)))
def kb (N:Nat):Int->Int->LF->(Ky6)->Bool:=aw N (j8 N)
def pb (N:Nat) (p_0 p_1:Int) (Z4:LF) (k0:Kz6):Bool:=
 (kb N p_0 p_1 Z4 (λnr Y_=>cond ((Y_==0)==true) (k0 (nr==3)) (k0 false)))
def cO (N:Nat):Int->Int->LF->(Kz6)->Bool:=pb N
def ov (N:Nat) (ZT:LF) (Zw Zz:Int) (ZH:LF) (k0:Kz7):Bool:=
 (Mr N Zw Zz ZH (λnr=>cond (nr != 0) (k0 nr) (cond ((Zw != Zz)==false) (cond (((ZT.length:Nat):Int) != Zw) (k0 3) (yu N ZT (λcr=>cond (!cr) (k0 4) (Re N Zw Zz ZH (λZb=>cond (!Zb) (k0 150) (cO N Zw Zz ZH (λZE=>cond (!ZE) (k0 151) (k0 0)))))))) (k0 3))))
def e9 (N:Nat):LF->Int->Int->LF->(Kz7)->Bool:=aw N (ov N)
def ox (N:Nat) (kind:Int) (k0:Kz7):Bool:=
 (cond (kind==0) (k0 1) (cond (kind==1) (k0 1) (cond (kind==4) (k0 1) (cond (kind==2) (k0 2) (cond (kind==3) (k0 3) (k0 0))))))
def ix (N:Nat):Int->(Kz7)->Bool:=aw N (ox N)
def sJ (N:Nat) (x:Fl) (k0:Kz6):Bool:=
 (k0 (feq (sB x x) (some 0)))
def oT (N:Nat):Fl->(Kz6)->Bool:=sJ N
def kG (N:Nat) (p_0 p_1:Int) (Z4 p_3:Fl) (k0:Kz7):Bool:=
 (ix N p_0 (λnr=>cond (nr==0) (k0 140) (cond ((decide (p_1<1))==false) (cond (decide (p_1>12)) (k0 1) (oT N Z4 (λcr=>cond ((!cr)==false) (oT N p_3 (λZb=>cond (!Zb) (k0 4) (cond ((flt Z4 (some 0))==false) (cond ((flt p_3 (some 0))==false) (cond ((fgt Z4 (some 5057542381537067008))==false) (cond (fgt p_3 (some 5057542381537067008)) (k0 141) (k0 0)) (k0 141)) (k0 141)) (k0 141)))) (k0 4)))) (k0 1))))
def lj (N:Nat):Int->Int->Fl->Fl->(Kz7)->Bool:=aw N (kG N)
def bY (N:Nat) (t12:List RY0) (t13:Int) (e0:Kz7) (e1:Kz7):(Int × Int)->((Int × Int)->Bool)->Bool:=λv_ K=>match v_ with
 | (n,t14)=>(cond (decide (t14<t13)) (inR t14 t12.length&&lj N (t12.getD t14.toNat (0,(0,(none,none)))).1 (t12.getD t14.toNat (0,(0,(none,none)))).2.1 (t12.getD t14.toNat (0,(0,(none,none)))).2.2.1 (t12.getD t14.toNat (0,(0,(none,none)))).2.2.2 (λnr=>cond (nr != 0) (e0 nr) (ix N (t12.getD t14.toNat (0,(0,(none,none)))).1 (λY_=>ac .i64 ((t12.getD t14.toNat (0,(0,(none,none)))).2.1*Y_)&&(ac .i64 (n+((t12.getD t14.toNat (0,(0,(none,none)))).2.1*Y_))&&(ac .i64 (t14+1)&&K ((imm false (n+((t12.getD t14.toNat (0,(0,(none,none)))).2.1*Y_)) 13),(t14+1)))))))) (e1 n))
def pM (N:Nat) (m:List RY0) (k0:Kz7):Bool:=
 (cond (((m.length:Nat):Int)==0) (k0 1) (af N (bY N m ((m.length:Nat):Int) (λt2=>k0 t2) (λZY=>cond (decide (ZY>12)) (k0 2) (k0 0))) (0,0)))
def pQ (N:Nat):List RY0->(Kz7)->Bool:=aw N (pM N)
def lB (N:Nat) (t14:List RY0) (t15:Int) (e0:Kz7):(Int × Int)->((Int × Int)->Bool)->Bool:=λv_ K=>match v_ with
 | (n,t16)=>(cond (decide (t16<t15)) (inR t16 t14.length&&ix N (t14.getD t16.toNat (0,(0,(none,none)))).1 (λY_=>ac .i64 ((t14.getD t16.toNat (0,(0,(none,none)))).2.1*Y_)&&(ac .i64 (n+((t14.getD t16.toNat (0,(0,(none,none)))).2.1*Y_))&&(ac .i64 (t16+1)&&K ((n+((t14.getD t16.toNat (0,(0,(none,none)))).2.1*Y_)),(t16+1)))))) (e0 n))
def sG (N:Nat) (m:List RY0) (k0:Ky6):Bool:=
 (pQ N m (λnr=>cond (nr != 0) (k0 0 nr) (af N (lB N m ((m.length:Nat):Int) (λZY=>k0 ZY 0)) (0,0))))
def pD (N:Nat):List RY0->(Ky6)->Bool:=aw N (sG N)
def no (N:Nat) (ticks:Int) (k0:Kz2):Bool:=
 (cond ((decide (ticks<(-1125899906842624)))==false) (cond (decide (ticks>1125899906842624)) (k0 (some 0) 1) (k0 (fdiv (some (FloatKind.nearest .f64 ticks)) (some 4696837146684686336)) 0)) (k0 (some 0) 1))
def jX (N:Nat):Int->(Kz2)->Bool:=aw N (no N)
def zN (N:Nat) (i j:Int) (k0:Kz9):Bool:=
 (k0 (some 0))
def Ac (N:Nat):Int->Int->(Kz9)->Bool:=zN N
def Cc (N:Nat) (ab4 i aa5 aiz t21 aaG aaH Zp m_3:Int) (e0:LF->Bool):(Int × LF)->((Int × LF)->Bool)->Bool:=λv_ K=>match v_ with
 | (t22,aaZ)=>(cond (decide (t22<t21)) (Ac N i t22 (λxr=>decide ((List.length (aaZ++[xr]))*8<=140737488355328)&&(ac .i64 (t22+1)&&K ((t22+1),(aaZ++[xr]))))) (e0 aaZ))
def fG (N:Nat) (agM t17 t6 ZU m Zc:Int) (e0:LF->Bool):(Int × LF)->((Int × LF)->Bool)->Bool:=λv_ K=>match v_ with
 | (t18,b2)=>(cond (decide (t18<t17)) (af N (Cc N agM t18 t17 t18 agM t6 ZU m Zc (λaaV=>ac .i64 (t18+1)&&K ((t18+1),aaV))) (0,b2)) (e0 b2))
def M0 (N:Nat) (rows cols:Int) (k0:LF->Bool):Bool:=
 (ac .i64 (rows*cols)&&(iF 8 0 (rows*cols)&&af N (fG N cols rows 0 0 rows cols (λacY=>k0 acY)) (0,[])))
def Pm (N:Nat):Int->Int->(LF->Bool)->Bool:=aw N (M0 N)
def M7 (N:Nat) (rows cols:Int) (k0:Ky2) (k1:Kz3):Bool:=
 (G_ N rows (λcr=>cond ((!cr)==false) (G_ N cols (λZb=>cond (!Zb) (k0 0 0 1) (Pm N rows cols (λxsr=>k1 0 xsr)))) (k0 0 0 1)))
def Ki (N:Nat):Int->Int->(Ky2)->(Kz3)->Bool:=aw N (M7 N)
def sH (N:Nat) (p_0 p_1:Int) (Z4 p_3 d:Fl) (k0:Kz4) (k1:Ky3) (k2:LF->Bool):Bool:=
 (cond (p_0==2) (k0 [(some 4607182418800017408),d] [(some 0),(some 4607182418800017408)]) (cond (p_0==3) (k1 [(some 4607182418800017408),d,(fdiv (ay d d) (some 4611686018427387904))] [(some 0),(some 4607182418800017408),d] [(some 0),(some 0),(some 4607182418800017408)]) (cond (p_0==4) (k2 [(fdiv (some 4607182418800017408) (cV (some 4607182418800017408) (ay p_3 d)))]) (k2 [(some 4607182418800017408)]))))
def pE (N:Nat):Int->Int->Fl->Fl->Fl->(Kz4)->(Ky3)->(LF->Bool)->Bool:=aw N (sH N)
def nL (N:Nat) (n_2:Int) (d_2:Fl) (ZR:Int) (ae1:List RY0) (ae5 ae9 afc afg t63 t64 t71 t72 aaP aaQ a_4 a_5:Int) (Za Zf:LF) (e0:Bool):(Unit)->((Unit)->Bool)->Bool:=λv_ K=>match v_ with
 | _=>(cond (decide (t72<t71)) (ac .i64 (ZR+0)&&(ac .i64 ((ZR+0)*n_2)&&(ac .i64 (((ZR+0)*n_2)+ZR)&&(ac .i64 ((((ZR+0)*n_2)+ZR)+t72)&&(inR t72 Za.length&&false))))) e0)
def lZ (N:Nat) (n_3:Int) (d_3:Fl) (aar:Int) (adY:List RY0) (adZ ad0 ad2 ad3 afk aft afQ acf aaI aaJ a_6 a_7:Int) (Zl Zr:LF) (e0:Bool):(Unit)->((Unit)->Bool)->Bool:=λv_ K=>match v_ with
 | _=>(cond (decide (acf<afQ)) (ac .i64 (aar+1)&&(ac .i64 ((aar+1)*n_3)&&(ac .i64 (((aar+1)*n_3)+aar)&&(ac .i64 ((((aar+1)*n_3)+aar)+acf)&&(inR acf Zr.length&&false))))) e0)
def nK (N:Nat) (ZY:Int) (Z6:Fl) (acx:List RY0) (acA abb t59 aaG aaH a_2 a_3:Int) (b Y8:LF) (e0:Kz7):(Int × Int)->((Int × Int)->Bool)->Bool:=λv_ K=>match v_ with
 | (aaL,t60)=>(cond (decide (t60<t59)) (af (N+24) (nL N ZY Z6 aaL acx acA abb t59 t60 2 0 ((b.length:Nat):Int) 0 aaG aaH a_2 a_3 b Y8 (af (N+24) (lZ N ZY Z6 aaL acx acA abb t59 t60 2 1 ((Y8.length:Nat):Int) 0 aaG aaH a_2 a_3 b Y8 (ac .i64 (aaL+2)&&(ac .i64 (t60+1)&&K ((aaL+2),(t60+1))))) ())) ()) (e0 aaL))
def l4 (N:Nat) (n_5:Int) (d_5:Fl) (ZS:Int) (ae2:List RY0) (ae6 ae_ afd afh afl afu afR acg afC afD aev aeG:Int) (ZL Zh ZK:LF) (e0:Bool):(Unit)->((Unit)->Bool)->Bool:=λv_ K=>match v_ with
 | _=>(cond (decide (acg<afR)) (ac .i64 (ZS+0)&&(ac .i64 ((ZS+0)*n_5)&&(ac .i64 (((ZS+0)*n_5)+ZS)&&(ac .i64 ((((ZS+0)*n_5)+ZS)+acg)&&(inR acg ZL.length&&false))))) e0)
def l5 (N:Nat) (n_6:Int) (d_6:Fl) (aas:Int) (acz:List RY0) (acC acE acG acJ afm afv afS ach acL acM adw adx:Int) (ZW Z3 aaE:LF) (e0:Bool):(Unit)->((Unit)->Bool)->Bool:=λv_ K=>match v_ with
 | _=>(cond (decide (ach<afS)) (ac .i64 (aas+1)&&(ac .i64 ((aas+1)*n_6)&&(ac .i64 (((aas+1)*n_6)+aas)&&(ac .i64 ((((aas+1)*n_6)+aas)+ach)&&(inR ach Z3.length&&false))))) e0)
def l6 (N:Nat) (n_7:Int) (d_7:Fl) (Z1:Int) (ae3:List RY0) (ae7 afa afe afi afn afw afT aci afE afF ahf ahg:Int) (aaO aah ag2:LF) (e0:Bool):(Unit)->((Unit)->Bool)->Bool:=λv_ K=>match v_ with
 | _=>(cond (decide (aci<afT)) (ac .i64 (Z1+2)&&(ac .i64 ((Z1+2)*n_7)&&(ac .i64 (((Z1+2)*n_7)+Z1)&&(ac .i64 ((((Z1+2)*n_7)+Z1)+aci)&&(inR aci ag2.length&&false))))) e0)
def lV (N:Nat) (n_4:Int) (d_4:Fl) (acy:List RY0) (acB acD acF agl agm a_8 a_9:Int) (ZA Zx ZF:LF) (e0:Kz7):(Int × Int)->((Int × Int)->Bool)->Bool:=λv_ K=>match v_ with
 | (Z0,acI)=>(cond (decide (acI<acF)) (af (N+24) (l4 N n_4 d_4 Z0 acy acB acD acF acI 3 0 ((ZA.length:Nat):Int) 0 agl agm a_8 a_9 ZA Zx ZF (af (N+24) (l5 N n_4 d_4 Z0 acy acB acD acF acI 3 1 ((Zx.length:Nat):Int) 0 agl agm a_8 a_9 ZA Zx ZF (af (N+24) (l6 N n_4 d_4 Z0 acy acB acD acF acI 3 2 ((ZF.length:Nat):Int) 0 agl agm a_8 a_9 ZA Zx ZF (ac .i64 (Z0+3)&&(ac .i64 (acI+1)&&K ((Z0+3),(acI+1))))) ())) ())) ()) (e0 Z0))
def l7 (N:Nat) (n_9:Int) (d_9:Fl) (ZG:Int) (ae4:List RY0) (ae8 afb aff afj afo afx afU acj afG afH ahh ahi:Int) (agG:LF) (e0:Bool):(Unit)->((Unit)->Bool)->Bool:=λv_ K=>match v_ with
 | _=>(cond (decide (acj<afU)) (ac .i64 (ZG+0)&&(ac .i64 ((ZG+0)*n_9)&&(ac .i64 (((ZG+0)*n_9)+ZG)&&(ac .i64 ((((ZG+0)*n_9)+ZG)+acj)&&(inR acj agG.length&&false))))) e0)
def lW (N:Nat) (n_8:Int) (d_8:Fl) (aek:List RY0) (ael aem aen aep aeq agX agY:Int) (ag3:LF) (e0:Kz7):(Int × Int)->((Int × Int)->Bool)->Bool:=λv_ K=>match v_ with
 | (ZV,aeo)=>(cond (decide (aeo<aen)) (af (N+24) (l7 N n_8 d_8 ZV aek ael aem aen aeo 1 0 ((ag3.length:Nat):Int) 0 aep aeq agX agY ag3 (ac .i64 (ZV+1)&&(ac .i64 (aeo+1)&&K ((ZV+1),(aeo+1))))) ()) (e0 ZV))
def nJ (N:Nat) (n:Int) (d:Fl) (t48:List RY0) (t49 t6 ZU a Zy:Int) (e0:Bool):(Int × Int)->((Int × Int)->Bool)->Bool:=λv_ K=>match v_ with
 | (from_,t50)=>(cond (decide (t50<t49)) (inR t50 t48.length&&pE N (t48.getD t50.toNat (0,(0,(none,none)))).1 (t48.getD t50.toNat (0,(0,(none,none)))).2.1 (t48.getD t50.toNat (0,(0,(none,none)))).2.2.1 (t48.getD t50.toNat (0,(0,(none,none)))).2.2.2 d (λZD ZZ=>af (N+24) (nK N n d t48 t49 t50 (t48.getD t50.toNat (0,(0,(none,none)))).2.1 t6 ZU a Zy ZD ZZ (λabF=>ac .i64 (t50+1)&&K (abF,(t50+1)))) (from_,0)) (λaay acT acU=>af (N+24) (lV N n d t48 t49 t50 (t48.getD t50.toNat (0,(0,(none,none)))).2.1 t6 ZU a Zy aay acT acU (λaat=>ac .i64 (t50+1)&&K (aat,(t50+1)))) (from_,0)) (λacV=>af (N+24) (lW N n d t48 t49 t50 (t48.getD t50.toNat (0,(0,(none,none)))).2.1 t6 ZU a Zy acV (λaeU=>ac .i64 (t50+1)&&K (aeU,(t50+1)))) (from_,0))) e0)
def l8 (N:Nat) (abG:Int) (ahx:Fl) (Zi:Int) (ac2:List RY0) (ac6 adb adg adk afp afy afV afI afJ ahj ahk:Int) (acp aea:LF) (e0:LF->Bool):(Int × LF)->((Int × LF)->Bool)->Bool:=λv_ K=>match v_ with
 | (aau,abd)=>(cond (decide (aau<afV)) (ac .i64 (Zi+0)&&(ac .i64 ((Zi+0)*abG)&&(ac .i64 (((Zi+0)*abG)+Zi)&&(ac .i64 ((((Zi+0)*abG)+Zi)+aau)&&(inR aau acp.length&&(inR ((((Zi+0)*abG)+Zi)+aau) abd.length&&(decide ((Int.toNat ((((Zi+0)*abG)+Zi)+aau))<abd.length)&&(ac .i64 (aau+1)&&K ((aau+1),(abd.set (Int.toNat ((((Zi+0)*abG)+Zi)+aau)) (acp.getD aau.toNat none))))))))))) (e0 abd))
def l9 (N:Nat) (ac0:Int) (agN:Fl) (ZN:Int) (abM:List RY0) (abN abO abP abQ afq afz afW ad4 ad5 agr ags:Int) (adD aeb:LF) (e0:LF->Bool):(Int × LF)->((Int × LF)->Bool)->Bool:=λv_ K=>match v_ with
 | (aav,ab2)=>(cond (decide (aav<afW)) (ac .i64 (ZN+1)&&(ac .i64 ((ZN+1)*ac0)&&(ac .i64 (((ZN+1)*ac0)+ZN)&&(ac .i64 ((((ZN+1)*ac0)+ZN)+aav)&&(inR aav aeb.length&&(inR ((((ZN+1)*ac0)+ZN)+aav) ab2.length&&(decide ((Int.toNat ((((ZN+1)*ac0)+ZN)+aav))<ab2.length)&&(ac .i64 (aav+1)&&K ((aav+1),(ab2.set (Int.toNat ((((ZN+1)*ac0)+ZN)+aav)) (aeb.getD aav.toNat none))))))))))) (e0 ab2))
def bJ (N:Nat) (agk:Int) (agc:Fl) (abf:List RY0) (abi abl acH acN acO af5 af6:Int) (acZ aco:LF) (e0:Kz3):(Int × Int × LF)->((Int × Int × LF)->Bool)->Bool:=λv_ K=>match v_ with
 | (aai,acK,b3)=>(cond (decide (acK<acH)) (af (N+24) (l8 N agk agc aai abf abi abl acH acK 2 0 ((acZ.length:Nat):Int) acN acO af5 af6 acZ aco (λab1=>af (N+24) (l9 N agk agc aai abf abi abl acH acK 2 1 ((aco.length:Nat):Int) acN acO af5 af6 acZ aco (λaeP=>ac .i64 (aai+2)&&(ac .i64 (acK+1)&&K ((aai+2),(acK+1),aeP)))) (0,ab1))) (0,b3)) (e0 aai b3))
def l_ (N:Nat) (abH:Int) (ahy:Fl) (Zj:Int) (ac3:List RY0) (ac7 adc adh adl afr afA afX afK afL ahl ahm:Int) (aeB agb agH:LF) (e0:LF->Bool):(Int × LF)->((Int × LF)->Bool)->Bool:=λv_ K=>match v_ with
 | (aaw,adC)=>(cond (decide (aaw<afX)) (ac .i64 (Zj+0)&&(ac .i64 ((Zj+0)*abH)&&(ac .i64 (((Zj+0)*abH)+Zj)&&(ac .i64 ((((Zj+0)*abH)+Zj)+aaw)&&(inR aaw aeB.length&&(inR ((((Zj+0)*abH)+Zj)+aaw) adC.length&&(decide ((Int.toNat ((((Zj+0)*abH)+Zj)+aaw))<adC.length)&&(ac .i64 (aaw+1)&&K ((aaw+1),(adC.set (Int.toNat ((((Zj+0)*abH)+Zj)+aaw)) (aeB.getD aaw.toNat none))))))))))) (e0 adC))
def ma (N:Nat) (acr:Int) (age:Fl) (ZO:Int) (abh:List RY0) (abk abn abp abr afs afB afY acR acS af9 af_:Int) (ahu agI ahv:LF) (e0:LF->Bool):(Int × LF)->((Int × LF)->Bool)->Bool:=λv_ K=>match v_ with
 | (aax,aey)=>(cond (decide (aax<afY)) (ac .i64 (ZO+1)&&(ac .i64 ((ZO+1)*acr)&&(ac .i64 (((ZO+1)*acr)+ZO)&&(ac .i64 ((((ZO+1)*acr)+ZO)+aax)&&(inR aax agI.length&&(inR ((((ZO+1)*acr)+ZO)+aax) aey.length&&(decide ((Int.toNat ((((ZO+1)*acr)+ZO)+aax))<aey.length)&&(ac .i64 (aax+1)&&K ((aax+1),(aey.set (Int.toNat ((((ZO+1)*acr)+ZO)+aax)) (agI.getD aax.toNat none))))))))))) (e0 aey))
def lD (N:Nat) (abI:Int) (ahz:Fl) (Zv:Int) (ac4:List RY0) (ac8 ade adi adm ado adq ads afM afN ahn aho:Int) (agJ ahw agK:LF) (e0:LF->Bool):(Int × LF)->((Int × LF)->Bool)->Bool:=λv_ K=>match v_ with
 | (Z8,abZ)=>(cond (decide (Z8<ads)) (ac .i64 (Zv+2)&&(ac .i64 ((Zv+2)*abI)&&(ac .i64 (((Zv+2)*abI)+Zv)&&(ac .i64 ((((Zv+2)*abI)+Zv)+Z8)&&(inR Z8 agK.length&&(inR ((((Zv+2)*abI)+Zv)+Z8) abZ.length&&(decide ((Int.toNat ((((Zv+2)*abI)+Zv)+Z8))<abZ.length)&&(ac .i64 (Z8+1)&&K ((Z8+1),(abZ.set (Int.toNat ((((Zv+2)*abI)+Zv)+Z8)) (agK.getD Z8.toNat none))))))))))) (e0 abZ))
def bK (N:Nat) (acq:Int) (agd:Fl) (abg:List RY0) (abj abm abo acP acQ af7 af8:Int) (aga aeA aec:LF) (e0:Kz3):(Int × Int × LF)->((Int × Int × LF)->Bool)->Bool:=λv_ K=>match v_ with
 | (Zu,abq,agD)=>(cond (decide (abq<abo)) (af (N+24) (l_ N acq agd Zu abg abj abm abo abq 3 0 ((aga.length:Nat):Int) acP acQ af7 af8 aga aeA aec (λag1=>af (N+24) (ma N acq agd Zu abg abj abm abo abq 3 1 ((aeA.length:Nat):Int) acP acQ af7 af8 aga aeA aec (λagE=>af (N+24) (lD N acq agd Zu abg abj abm abo abq 3 2 ((aec.length:Nat):Int) acP acQ af7 af8 aga aeA aec (λab0=>ac .i64 (Zu+3)&&(ac .i64 (abq+1)&&K ((Zu+3),(abq+1),ab0)))) (0,agE))) (0,ag1))) (0,agD)) (e0 Zu agD))
def lE (N:Nat) (abJ:Int) (ahA:Fl) (Zk:Int) (ac5:List RY0) (ac9 adf adj adn adp adr adt afO afP ahp ahq:Int) (aeR:LF) (e0:LF->Bool):(Int × LF)->((Int × LF)->Bool)->Bool:=λv_ K=>match v_ with
 | (Z9,aa9)=>(cond (decide (Z9<adt)) (ac .i64 (Zk+0)&&(ac .i64 ((Zk+0)*abJ)&&(ac .i64 (((Zk+0)*abJ)+Zk)&&(ac .i64 ((((Zk+0)*abJ)+Zk)+Z9)&&(inR Z9 aeR.length&&(inR ((((Zk+0)*abJ)+Zk)+Z9) aa9.length&&(decide ((Int.toNat ((((Zk+0)*abJ)+Zk)+Z9))<aa9.length)&&(ac .i64 (Z9+1)&&K ((Z9+1),(aa9.set (Int.toNat ((((Zk+0)*abJ)+Zk)+Z9)) (aeR.getD Z9.toNat none))))))))))) (e0 aa9))
def bL (N:Nat) (adE:Int) (ag5:Fl) (ab_:List RY0) (aca acb acd aer aes agZ ag0:Int) (ag4:LF) (e0:Kz3):(Int × Int × LF)->((Int × Int × LF)->Bool)->Bool:=λv_ K=>match v_ with
 | (ZB,ace,adB)=>(cond (decide (ace<acd)) (af (N+24) (lE N adE ag5 ZB ab_ aca acb acd ace 1 0 ((ag4.length:Nat):Int) aer aes agZ ag0 ag4 (λaei=>ac .i64 (ZB+1)&&(ac .i64 (ace+1)&&K ((ZB+1),(ace+1),aei)))) (0,adB)) (e0 ZB adB))
def co (N:Nat) (aeW:Int) (aee:Fl) (ZJ:List RY0) (aaF abx aby ad9 ad_:Int) (e0:LF->Bool):(Int × Int × LF)->((Int × Int × LF)->Bool)->Bool:=λv_ K=>match v_ with
 | (aa2,Zq,b2)=>(cond (decide (Zq<aaF)) (inR Zq ZJ.length&&pE N (ZJ.getD Zq.toNat (0,(0,(none,none)))).1 (ZJ.getD Zq.toNat (0,(0,(none,none)))).2.1 (ZJ.getD Zq.toNat (0,(0,(none,none)))).2.2.1 (ZJ.getD Zq.toNat (0,(0,(none,none)))).2.2.2 aee (λaet ad7=>af (N+24) (bJ N aeW aee ZJ aaF Zq (ZJ.getD Zq.toNat (0,(0,(none,none)))).2.1 abx aby ad9 ad_ aet ad7 (λaa3 aaZ=>ac .i64 (Zq+1)&&K (aa3,(Zq+1),aaZ))) (aa2,0,b2)) (λad8 abT y11=>af (N+24) (bK N aeW aee ZJ aaF Zq (ZJ.getD Zq.toNat (0,(0,(none,none)))).2.1 abx aby ad9 ad_ ad8 abT y11 (λZP aaV=>ac .i64 (Zq+1)&&K (ZP,(Zq+1),aaV))) (aa2,0,b2)) (λy12=>af (N+24) (bL N aeW aee ZJ aaF Zq (ZJ.getD Zq.toNat (0,(0,(none,none)))).2.1 abx aby ad9 ad_ y12 (λaeV acY=>ac .i64 (Zq+1)&&K (aeV,(Zq+1),acY))) (aa2,0,b2))) (e0 b2))
def j_ (N:Nat) (m:List RY0) (ticks aje ajf:Int) (aim:LF) (k0:Ky2) (k1:Kx8):Bool:=
 (yu N aim (λZb=>cond (!Zb) (k0 0 0 5) (k1 aje ajf 0 aim)))
def vZ (N:Nat) (m:List RY0) (ticks ajc ajd:Int) (k0:Ky2) (k1:Kx8):Bool:=
 (yu N [] (λcr=>cond (!cr) (k0 0 0 5) (k0 ajc ajd 0)))
def mc (N:Nat) (m:List RY0) (ticks:Int) (k0:Ky2) (k1:Kx8):Bool:=
 (pD N m (λnr Y_=>cond (Y_ != 0) (k0 0 0 Y_) (cond ((decide (ticks<0))==false) (cond (decide (ticks>1125899906842624)) (k0 0 0 1) (jX N ticks (λxr Ze=>Ki N nr nr (λZt ZC n5=>af (N+24) (nJ N nr xr m ((m.length:Nat):Int) 0 0 Zt ZC (vZ N m ticks Zt ZC k0 k1)) (0,0)) (λn6 xsr=>af (N+24) (co N nr xr m ((m.length:Nat):Int) 0 0 nr nr (λajg=>j_ N m ticks nr nr ajg k0 k1)) (0,0,xsr))))) (k0 0 0 1))))
def qt (N:Nat):List RY0->Int->(Ky2)->(Kx8)->Bool:=aw N (mc N)
def CU (N:Nat) (m:List RY0) (ticks:Int) (k0:Ky2) (k1:Kx8):Bool:=
 (qt N m ticks (λnr Y_ Ze=>k0 nr Y_ Ze) (λZt ZC n5 xsr=>k1 Zt ZC n5 xsr))
def yz (N:Nat):List RY0->Int->(Ky2)->(Kx8)->Bool:=CU N
def sI (N:Nat) (p_0 p_1:Int) (Z4 p_3 d:Fl) (k0:LF->Bool) (k1:Kz4) (k2:Ky3):Bool:=
 (cond (p_0==1) (k0 [(ay Z4 d)]) (cond (p_0==4) (k0 [(ay Z4 d)]) (cond (p_0==2) (k1 [(fdiv (ay (ay (ay Z4 d) d) d) (some 4613937818241073152)),(fdiv (ay (ay Z4 d) d) (some 4611686018427387904))] [(fdiv (ay (ay Z4 d) d) (some 4611686018427387904)),(ay Z4 d)]) (cond (p_0==3) (k2 [(fdiv (ay (ay (ay (ay (ay Z4 d) d) d) d) d) (some 4626322717216342016)),(fdiv (ay (ay (ay (ay Z4 d) d) d) d) (some 4620693217682128896)),(fdiv (ay (ay (ay Z4 d) d) d) (some 4618441417868443648))] [(fdiv (ay (ay (ay (ay Z4 d) d) d) d) (some 4620693217682128896)),(fdiv (ay (ay (ay Z4 d) d) d) (some 4613937818241073152)),(fdiv (ay (ay Z4 d) d) (some 4611686018427387904))] [(fdiv (ay (ay (ay Z4 d) d) d) (some 4618441417868443648)),(fdiv (ay (ay Z4 d) d) (some 4611686018427387904)),(ay Z4 d)]) (k0 [(some 0)])))))
def pF (N:Nat):Int->Int->Fl->Fl->Fl->(LF->Bool)->(Kz4)->(Ky3)->Bool:=aw N (sI N)
def lY (N:Nat) (n_2:Int) (d_2:Fl) (ZR:Int) (ae1:List RY0) (ae5 ae9 afc afg t63 t64 t71 t72 aaP aaQ a_4 a_5:Int) (Y8:LF) (e0:Bool):(Unit)->((Unit)->Bool)->Bool:=λv_ K=>match v_ with
 | _=>(cond (decide (t72<t71)) (ac .i64 (ZR+0)&&(ac .i64 ((ZR+0)*n_2)&&(ac .i64 (((ZR+0)*n_2)+ZR)&&(ac .i64 ((((ZR+0)*n_2)+ZR)+t72)&&(inR t72 Y8.length&&false))))) e0)
def lC (N:Nat) (ZY:Int) (Z6:Fl) (acx:List RY0) (acA abb t59 aaG aaH a_2 a_3:Int) (b:LF) (e0:Kz7):(Int × Int)->((Int × Int)->Bool)->Bool:=λv_ K=>match v_ with
 | (aaL,t60)=>(cond (decide (t60<t59)) (af (N+24) (lY N ZY Z6 aaL acx acA abb t59 t60 1 0 ((b.length:Nat):Int) 0 aaG aaH a_2 a_3 b (ac .i64 (aaL+1)&&(ac .i64 (t60+1)&&K ((aaL+1),(t60+1))))) ()) (e0 aaL))
def kw (N:Nat) (n_4:Int) (d_4:Fl) (Z0:Int) (acy:List RY0) (acB acD acF acI afk aft afQ acf agl agm a_8 a_9:Int) (Zl Zr:LF) (e0:Bool):(Unit)->((Unit)->Bool)->Bool:=λv_ K=>match v_ with
 | _=>(cond (decide (acf<afQ)) (ac .i64 (Z0+0)&&(ac .i64 ((Z0+0)*n_4)&&(ac .i64 (((Z0+0)*n_4)+Z0)&&(ac .i64 ((((Z0+0)*n_4)+Z0)+acf)&&(inR acf Zl.length&&false))))) e0)
def kx (N:Nat) (n_5:Int) (d_5:Fl) (ZS:Int) (ae2:List RY0) (ae6 ae_ afd afh afl afu afR acg afC afD aev aeG:Int) (ZA Zx:LF) (e0:Bool):(Unit)->((Unit)->Bool)->Bool:=λv_ K=>match v_ with
 | _=>(cond (decide (acg<afR)) (ac .i64 (ZS+1)&&(ac .i64 ((ZS+1)*n_5)&&(ac .i64 (((ZS+1)*n_5)+ZS)&&(ac .i64 ((((ZS+1)*n_5)+ZS)+acg)&&(inR acg Zx.length&&false))))) e0)
def ku (N:Nat) (n_3:Int) (d_3:Fl) (adY:List RY0) (adZ ad0 ad2 aaI aaJ a_6 a_7:Int) (Za Zf:LF) (e0:Kz7):(Int × Int)->((Int × Int)->Bool)->Bool:=λv_ K=>match v_ with
 | (abF,ad3)=>(cond (decide (ad3<ad2)) (af (N+24) (kw N n_3 d_3 abF adY adZ ad0 ad2 ad3 2 0 ((Za.length:Nat):Int) 0 aaI aaJ a_6 a_7 Za Zf (af (N+24) (kx N n_3 d_3 abF adY adZ ad0 ad2 ad3 2 1 ((Zf.length:Nat):Int) 0 aaI aaJ a_6 a_7 Za Zf (ac .i64 (abF+2)&&(ac .i64 (ad3+1)&&K ((abF+2),(ad3+1))))) ())) ()) (e0 abF))
def ky (N:Nat) (n_7:Int) (d_7:Fl) (aat:Int) (ae3:List RY0) (ae7 afa afe afi afm afv afS ach afE afF ahf ahg:Int) (ZK ZW Z3:LF) (e0:Bool):(Unit)->((Unit)->Bool)->Bool:=λv_ K=>match v_ with
 | _=>(cond (decide (ach<afS)) (ac .i64 (aat+0)&&(ac .i64 ((aat+0)*n_7)&&(ac .i64 (((aat+0)*n_7)+aat)&&(ac .i64 ((((aat+0)*n_7)+aat)+ach)&&(inR ach ZK.length&&false))))) e0)
def kz (N:Nat) (n_8:Int) (d_8:Fl) (ZV:Int) (aek:List RY0) (ael aem aen aeo afn afw afT aci aep aeq agX agY:Int) (aaE aaO aah:LF) (e0:Bool):(Unit)->((Unit)->Bool)->Bool:=λv_ K=>match v_ with
 | _=>(cond (decide (aci<afT)) (ac .i64 (ZV+1)&&(ac .i64 ((ZV+1)*n_8)&&(ac .i64 (((ZV+1)*n_8)+ZV)&&(ac .i64 ((((ZV+1)*n_8)+ZV)+aci)&&(inR aci aaO.length&&false))))) e0)
def kA (N:Nat) (n_9:Int) (d_9:Fl) (ZG:Int) (ae4:List RY0) (ae8 afb aff afj afo afx afU acj afG afH ahh ahi:Int) (ag2 ag3 agG:LF) (e0:Bool):(Unit)->((Unit)->Bool)->Bool:=λv_ K=>match v_ with
 | _=>(cond (decide (acj<afU)) (ac .i64 (ZG+2)&&(ac .i64 ((ZG+2)*n_9)&&(ac .i64 (((ZG+2)*n_9)+ZG)&&(ac .i64 ((((ZG+2)*n_9)+ZG)+acj)&&(inR acj agG.length&&false))))) e0)
def kv (N:Nat) (n_6:Int) (d_6:Fl) (acz:List RY0) (acC acE acG acL acM adw adx:Int) (ZF ZL Zh:LF) (e0:Kz7):(Int × Int)->((Int × Int)->Bool)->Bool:=λv_ K=>match v_ with
 | (Z1,acJ)=>(cond (decide (acJ<acG)) (af (N+24) (ky N n_6 d_6 Z1 acz acC acE acG acJ 3 0 ((ZF.length:Nat):Int) 0 acL acM adw adx ZF ZL Zh (af (N+24) (kz N n_6 d_6 Z1 acz acC acE acG acJ 3 1 ((ZL.length:Nat):Int) 0 acL acM adw adx ZF ZL Zh (af (N+24) (kA N n_6 d_6 Z1 acz acC acE acG acJ 3 2 ((Zh.length:Nat):Int) 0 acL acM adw adx ZF ZL Zh (ac .i64 (Z1+3)&&(ac .i64 (acJ+1)&&K ((Z1+3),(acJ+1))))) ())) ())) ()) (e0 Z1))
def lU (N:Nat) (n:Int) (d:Fl) (t48:List RY0) (t49 t6 ZU a Zy:Int) (e0:Bool):(Int × Int)->((Int × Int)->Bool)->Bool:=λv_ K=>match v_ with
 | (from_,t50)=>(cond (decide (t50<t49)) (inR t50 t48.length&&pF N (t48.getD t50.toNat (0,(0,(none,none)))).1 (t48.getD t50.toNat (0,(0,(none,none)))).2.1 (t48.getD t50.toNat (0,(0,(none,none)))).2.2.1 (t48.getD t50.toNat (0,(0,(none,none)))).2.2.2 d (λZD=>af (N+24) (lC N n d t48 t49 t50 (t48.getD t50.toNat (0,(0,(none,none)))).2.1 t6 ZU a Zy ZD (λaar=>ac .i64 (t50+1)&&K (aar,(t50+1)))) (from_,0)) (λZZ aay=>af (N+24) (ku N n d t48 t49 t50 (t48.getD t50.toNat (0,(0,(none,none)))).2.1 t6 ZU a Zy ZZ aay (λaas=>ac .i64 (t50+1)&&K (aas,(t50+1)))) (from_,0)) (λacT acU acV=>af (N+24) (kv N n d t48 t49 t50 (t48.getD t50.toNat (0,(0,(none,none)))).2.1 t6 ZU a Zy acT acU acV (λaeU=>ac .i64 (t50+1)&&K (aeU,(t50+1)))) (from_,0))) e0)
def kB (N:Nat) (abG:Int) (ahx:Fl) (Zi:Int) (ac2:List RY0) (ac6 adb adg adk afp afy afV afI afJ ahj ahk:Int) (aco:LF) (e0:LF->Bool):(Int × LF)->((Int × LF)->Bool)->Bool:=λv_ K=>match v_ with
 | (aau,abd)=>(cond (decide (aau<afV)) (ac .i64 (Zi+0)&&(ac .i64 ((Zi+0)*abG)&&(ac .i64 (((Zi+0)*abG)+Zi)&&(ac .i64 ((((Zi+0)*abG)+Zi)+aau)&&(inR aau aco.length&&(inR ((((Zi+0)*abG)+Zi)+aau) abd.length&&(decide ((Int.toNat ((((Zi+0)*abG)+Zi)+aau))<abd.length)&&(ac .i64 (aau+1)&&K ((aau+1),(abd.set (Int.toNat ((((Zi+0)*abG)+Zi)+aau)) (aco.getD aau.toNat none))))))))))) (e0 abd))
def bu (N:Nat) (agk:Int) (agc:Fl) (abf:List RY0) (abi abl acH acN acO af5 af6:Int) (acZ:LF) (e0:Kz3):(Int × Int × LF)->((Int × Int × LF)->Bool)->Bool:=λv_ K=>match v_ with
 | (aai,acK,b3)=>(cond (decide (acK<acH)) (af (N+24) (kB N agk agc aai abf abi abl acH acK 1 0 ((acZ.length:Nat):Int) acN acO af5 af6 acZ (λab1=>ac .i64 (aai+1)&&(ac .i64 (acK+1)&&K ((aai+1),(acK+1),ab1)))) (0,b3)) (e0 aai b3))
def kC (N:Nat) (acq:Int) (agd:Fl) (Zu:Int) (abg:List RY0) (abj abm abo abq afq afz afW acP acQ af7 af8:Int) (adD aeb:LF) (e0:LF->Bool):(Int × LF)->((Int × LF)->Bool)->Bool:=λv_ K=>match v_ with
 | (aav,aeP)=>(cond (decide (aav<afW)) (ac .i64 (Zu+0)&&(ac .i64 ((Zu+0)*acq)&&(ac .i64 (((Zu+0)*acq)+Zu)&&(ac .i64 ((((Zu+0)*acq)+Zu)+aav)&&(inR aav adD.length&&(inR ((((Zu+0)*acq)+Zu)+aav) aeP.length&&(decide ((Int.toNat ((((Zu+0)*acq)+Zu)+aav))<aeP.length)&&(ac .i64 (aav+1)&&K ((aav+1),(aeP.set (Int.toNat ((((Zu+0)*acq)+Zu)+aav)) (adD.getD aav.toNat none))))))))))) (e0 aeP))
def kD (N:Nat) (abH:Int) (ahy:Fl) (Zj:Int) (ac3:List RY0) (ac7 adc adh adl afr afA afX afK afL ahl ahm:Int) (aga aeA:LF) (e0:LF->Bool):(Int × LF)->((Int × LF)->Bool)->Bool:=λv_ K=>match v_ with
 | (aaw,adC)=>(cond (decide (aaw<afX)) (ac .i64 (Zj+1)&&(ac .i64 ((Zj+1)*abH)&&(ac .i64 (((Zj+1)*abH)+Zj)&&(ac .i64 ((((Zj+1)*abH)+Zj)+aaw)&&(inR aaw aeA.length&&(inR ((((Zj+1)*abH)+Zj)+aaw) adC.length&&(decide ((Int.toNat ((((Zj+1)*abH)+Zj)+aaw))<adC.length)&&(ac .i64 (aaw+1)&&K ((aaw+1),(adC.set (Int.toNat ((((Zj+1)*abH)+Zj)+aaw)) (aeA.getD aaw.toNat none))))))))))) (e0 adC))
def bv (N:Nat) (ac0:Int) (agN:Fl) (abM:List RY0) (abN abO abP ad4 ad5 agr ags:Int) (acp aea:LF) (e0:Kz3):(Int × Int × LF)->((Int × Int × LF)->Bool)->Bool:=λv_ K=>match v_ with
 | (aa3,abQ,ab2)=>(cond (decide (abQ<abP)) (af (N+24) (kC N ac0 agN aa3 abM abN abO abP abQ 2 0 ((acp.length:Nat):Int) ad4 ad5 agr ags acp aea (λagD=>af (N+24) (kD N ac0 agN aa3 abM abN abO abP abQ 2 1 ((aea.length:Nat):Int) ad4 ad5 agr ags acp aea (λag1=>ac .i64 (aa3+2)&&(ac .i64 (abQ+1)&&K ((aa3+2),(abQ+1),ag1)))) (0,agD))) (0,ab2)) (e0 aa3 ab2))
def kE (N:Nat) (abI:Int) (ahz:Fl) (ZP:Int) (ac4:List RY0) (ac8 ade adi adm afs afB afY afM afN ahn aho:Int) (agH ahu agI:LF) (e0:LF->Bool):(Int × LF)->((Int × LF)->Bool)->Bool:=λv_ K=>match v_ with
 | (aax,agE)=>(cond (decide (aax<afY)) (ac .i64 (ZP+0)&&(ac .i64 ((ZP+0)*abI)&&(ac .i64 (((ZP+0)*abI)+ZP)&&(ac .i64 ((((ZP+0)*abI)+ZP)+aax)&&(inR aax agH.length&&(inR ((((ZP+0)*abI)+ZP)+aax) agE.length&&(decide ((Int.toNat ((((ZP+0)*abI)+ZP)+aax))<agE.length)&&(ac .i64 (aax+1)&&K ((aax+1),(agE.set (Int.toNat ((((ZP+0)*abI)+ZP)+aax)) (agH.getD aax.toNat none))))))))))) (e0 agE))
def jQ (N:Nat) (adE:Int) (ag5:Fl) (ZB:Int) (ab_:List RY0) (aca acb acd ace ado adq ads aer aes agZ ag0:Int) (ahv agJ ahw:LF) (e0:LF->Bool):(Int × LF)->((Int × LF)->Bool)->Bool:=λv_ K=>match v_ with
 | (Z8,ab0)=>(cond (decide (Z8<ads)) (ac .i64 (ZB+1)&&(ac .i64 ((ZB+1)*adE)&&(ac .i64 (((ZB+1)*adE)+ZB)&&(ac .i64 ((((ZB+1)*adE)+ZB)+Z8)&&(inR Z8 agJ.length&&(inR ((((ZB+1)*adE)+ZB)+Z8) ab0.length&&(decide ((Int.toNat ((((ZB+1)*adE)+ZB)+Z8))<ab0.length)&&(ac .i64 (Z8+1)&&K ((Z8+1),(ab0.set (Int.toNat ((((ZB+1)*adE)+ZB)+Z8)) (agJ.getD Z8.toNat none))))))))))) (e0 ab0))
def jR (N:Nat) (abJ:Int) (ahA:Fl) (Zk:Int) (ac5:List RY0) (ac9 adf adj adn adp adr adt afO afP ahp ahq:Int) (agK ag4 aeR:LF) (e0:LF->Bool):(Int × LF)->((Int × LF)->Bool)->Bool:=λv_ K=>match v_ with
 | (Z9,aa9)=>(cond (decide (Z9<adt)) (ac .i64 (Zk+2)&&(ac .i64 ((Zk+2)*abJ)&&(ac .i64 (((Zk+2)*abJ)+Zk)&&(ac .i64 ((((Zk+2)*abJ)+Zk)+Z9)&&(inR Z9 aeR.length&&(inR ((((Zk+2)*abJ)+Zk)+Z9) aa9.length&&(decide ((Int.toNat ((((Zk+2)*abJ)+Zk)+Z9))<aa9.length)&&(ac .i64 (Z9+1)&&K ((Z9+1),(aa9.set (Int.toNat ((((Zk+2)*abJ)+Zk)+Z9)) (aeR.getD Z9.toNat none))))))))))) (e0 aa9))
def bw (N:Nat) (acr:Int) (age:Fl) (abh:List RY0) (abk abn abp acR acS af9 af_:Int) (aec aeB agb:LF) (e0:Kz3):(Int × Int × LF)->((Int × Int × LF)->Bool)->Bool:=λv_ K=>match v_ with
 | (Zv,abr,aey)=>(cond (decide (abr<abp)) (af (N+24) (kE N acr age Zv abh abk abn abp abr 3 0 ((aec.length:Nat):Int) acR acS af9 af_ aec aeB agb (λabZ=>af (N+24) (jQ N acr age Zv abh abk abn abp abr 3 1 ((aeB.length:Nat):Int) acR acS af9 af_ aec aeB agb (λadB=>af (N+24) (jR N acr age Zv abh abk abn abp abr 3 2 ((agb.length:Nat):Int) acR acS af9 af_ aec aeB agb (λaei=>ac .i64 (Zv+3)&&(ac .i64 (abr+1)&&K ((Zv+3),(abr+1),aei)))) (0,adB))) (0,abZ))) (0,aey)) (e0 Zv aey))
def bZ (N:Nat) (aeW:Int) (aee:Fl) (ZJ:List RY0) (aaF abx aby ad9 ad_:Int) (e0:LF->Bool):(Int × Int × LF)->((Int × Int × LF)->Bool)->Bool:=λv_ K=>match v_ with
 | (aa2,Zq,b2)=>(cond (decide (Zq<aaF)) (inR Zq ZJ.length&&pF N (ZJ.getD Zq.toNat (0,(0,(none,none)))).1 (ZJ.getD Zq.toNat (0,(0,(none,none)))).2.1 (ZJ.getD Zq.toNat (0,(0,(none,none)))).2.2.1 (ZJ.getD Zq.toNat (0,(0,(none,none)))).2.2.2 aee (λaet=>af (N+24) (bu N aeW aee ZJ aaF Zq (ZJ.getD Zq.toNat (0,(0,(none,none)))).2.1 abx aby ad9 ad_ aet (λZN aaZ=>ac .i64 (Zq+1)&&K (ZN,(Zq+1),aaZ))) (aa2,0,b2)) (λad7 ad8=>af (N+24) (bv N aeW aee ZJ aaF Zq (ZJ.getD Zq.toNat (0,(0,(none,none)))).2.1 abx aby ad9 ad_ ad7 ad8 (λZO aaV=>ac .i64 (Zq+1)&&K (ZO,(Zq+1),aaV))) (aa2,0,b2)) (λabT y11 y12=>af (N+24) (bw N aeW aee ZJ aaF Zq (ZJ.getD Zq.toNat (0,(0,(none,none)))).2.1 abx aby ad9 ad_ abT y11 y12 (λaeV acY=>ac .i64 (Zq+1)&&K (aeV,(Zq+1),acY))) (aa2,0,b2))) (e0 b2))
def gR (N:Nat) (m:List RY0) (ticks aje ajf:Int) (aim:LF) (k0:Ky2) (k1:Kx8):Bool:=
 (yu N aim (λZb=>cond (!Zb) (k0 0 0 5) (k1 aje ajf 0 aim)))
def s_ (N:Nat) (m:List RY0) (ticks ajc ajd:Int) (k0:Ky2) (k1:Kx8):Bool:=
 (yu N [] (λcr=>cond (!cr) (k0 0 0 5) (k0 ajc ajd 0)))
def j7 (N:Nat) (m:List RY0) (ticks:Int) (k0:Ky2) (k1:Kx8):Bool:=
 (pD N m (λnr Y_=>cond (Y_ != 0) (k0 0 0 Y_) (cond ((decide (ticks<0))==false) (cond (decide (ticks>1125899906842624)) (k0 0 0 1) (jX N ticks (λxr Ze=>Ki N nr nr (λZt ZC n5=>af (N+24) (lU N nr xr m ((m.length:Nat):Int) 0 0 Zt ZC (s_ N m ticks Zt ZC k0 k1)) (0,0)) (λn6 xsr=>af (N+24) (bZ N nr xr m ((m.length:Nat):Int) 0 0 nr nr (λajg=>gR N m ticks nr nr ajg k0 k1)) (0,0,xsr))))) (k0 0 0 1))))
def oS (N:Nat):List RY0->Int->(Ky2)->(Kx8)->Bool:=aw N (j7 N)
def CV (N:Nat) (m:List RY0) (ticks:Int) (k0:Ky2) (k1:Kx8):Bool:=
 (oS N m ticks (λnr Y_ Ze=>k0 nr Y_ Ze) (λZt ZC n5 xsr=>k1 Zt ZC n5 xsr))
def vi (N:Nat):List RY0->Int->(Ky2)->(Kx8)->Bool:=CV N
def nn (N:Nat) (ZI Zc:Int) (Zp:LF) (n:Int) (k0:Kz7):Bool:=
 (Mr N ZI Zc Zp (λnr=>cond (nr != 0) (k0 nr) (cond ((ZI != Zc)==false) (cond (ZI != n) (k0 3) (k0 0)) (k0 3))))
def jW (N:Nat):Int->Int->LF->Int->(Kz7)->Bool:=aw N (nn N)
def qH (N:Nat) (ZI Zc:Int) (Zp:LF) (i:Int) (k0:LF->Bool):Bool:=
 (ac .i64 (i*Zc)&&(ac .i64 (i+1)&&(ac .i64 ((i+1)*Zc)&&(decide (0<=(i*Zc)/\(i*Zc)<=((i+1)*Zc)/\((i+1)*Zc)<=((Zp.length:Nat):Int))&&k0 (List.drop (Int.toNat (i*Zc)) (List.take (Int.toNat ((i+1)*Zc)) Zp))))))
def iH (N:Nat):Int->Int->LF->Int->(LF->Bool)->Bool:=aw N (qH N)
abbrev AE:=Fl->(Kz9)->Bool
def vh (N:Nat):AE:=λx k=>k (Cv x)
def Jo (N:Nat) (f:Fl) (sign:Int) (k0:Kz6):Bool:=
 (cond (sign==0) (vh N f (λxr=>k0 (fgt xr (some 9218868437227405311)))) (cond (decide (sign<0)) (k0 (fgt (UY f) (some 9218868437227405311))) (k0 (fgt f (some 9218868437227405311)))))
def vK (N:Nat):Fl->Int->(Kz6)->Bool:=aw N (Jo N)
def Ng (N:Nat) (x:Fl) (b:Bool) (k0:Kz6):Bool:=
 (cond ((!feq x x)==false) (vK N x 0 (λcr=>cond cr (k0 true) (k0 b))) (k0 true))
def zE (N:Nat):Fl->Bool->(Kz6)->Bool:=aw N (Ng N)
def sF (N:Nat) (a b:Fl) (Y8:Bool) (k0:Ky7):Bool:=
 (zE N (ay a b) Y8 (λcr=>k0 (ay a b) cr))
def nd (N:Nat):Fl->Fl->Bool->(Ky7)->Bool:=aw N (sF N)
def lz (N:Nat) (Za t10:LF) (t11:Int) (e0:Ky7):(Fl × Int × Bool)->((Fl × Int × Bool)->Bool)->Bool:=λv_ K=>match v_ with
 | (t,t12,s)=>(cond (decide (t12<t11)) (inR t12 t10.length&&(inR t12 Za.length&&nd N (t10.getD t12.toNat none) (Za.getD t12.toNat none) s (λxr cr=>zE N (cV t xr) cr (λZb=>ac .i64 (t12+1)&&K ((cV t xr),(t12+1),Zb))))) (e0 t s))
def sE (N:Nat) (a b:LF) (Y8:Bool) (k0:Ky7):Bool:=
 (af N (lz N b a ((a.length:Nat):Int) (λt_1 b0=>k0 t_1 b0)) ((some 0),0,Y8))
def ua (N:Nat):LF->LF->Bool->(Ky7)->Bool:=aw N (sE N)
def jY (N:Nat) (j_1 t11 m m_3:Int) (m_4:LF) (e0:LF->Bool):(Int × LF)->((Int × LF)->Bool)->Bool:=λv_ K=>match v_ with
 | (t12,out)=>(cond (decide (t12<t11)) (ac .i64 (t12*m_3)&&(ac .i64 ((t12*m_3)+j_1)&&(inR ((t12*m_3)+j_1) m_4.length&&(inR t12 out.length&&(decide (t12.toNat<out.length)&&(ac .i64 (t12+1)&&K ((t12+1),(out.set t12.toNat (m_4.getD (Int.toNat ((t12*m_3)+j_1)) none))))))))) (e0 out))
def qG (N:Nat) (ZI Zc:Int) (Zp:LF) (j:Int) (k0:LF->Bool):Bool:=
 (iF 8 ZI ZI&&af N (jY N j (((List.length (List.replicate ZI.toNat (some 0))):Nat):Int) ZI Zc Zp (λZm=>k0 Zm)) (0,(List.replicate ZI.toNat (some 0))))
def nX (N:Nat):Int->Int->LF->Int->(LF->Bool)->Bool:=aw N (qG N)
def iM (N:Nat) (t10:LF) (t11:Int) (Za:LF) (e0:Ky7):(Fl × Int × Bool)->((Fl × Int × Bool)->Bool)->Bool:=λv_ K=>match v_ with
 | (t,t12,s)=>(cond (decide (t12<t11)) (inR t12 t10.length&&(inR t12 Za.length&&(decide (t12.toNat<Za.length)&&nd N (t10.getD t12.toNat none) (Za.getD t12.toNat none) s (λxr cr=>zE N (cV t xr) cr (λZb=>ac .i64 (t12+1)&&K ((cV t xr),(t12+1),Zb)))))) (e0 t s))
def Ni (N:Nat) (a:LF) (b:Bool) (Y8:LF) (k0:Ky7):Bool:=
 (af N (iM N a ((a.length:Nat):Int) Y8 (λt_1 b0=>k0 t_1 b0)) ((some 0),0,b))
def Pv (N:Nat):LF->Bool->LF->(Ky7)->Bool:=aw N (Ni N)
def dd (N:Nat) (Z7 aeY ab9 aaN a_8 a_9:Int) (aev:LF) (ZL Zh:Int) (ZK:LF) (aaP aaQ abU abV:Int) (e0:Ky8):(Int × Bool × LF)->((Int × Bool × LF)->Bool)->Bool:=λv_ K=>match v_ with
 | (aan,ahZ,b5)=>(cond (decide (aan<aaN)) (iH N a_8 a_9 aev Z7 (λZZ=>nX N ZL Zh ZK aan (λaay=>Pv N ZZ ahZ aay (λZ5 Zb=>decide ((List.length (b5++[Z5]))*8<=140737488355328)&&(ac .i64 (aan+1)&&K ((aan+1),Zb,(b5++[Z5]))))))) (e0 ahZ b5))
def dc (N:Nat) (adX aeG adw:Int) (adx:LF) (ZW Z3:Int) (aaE:LF) (aaI aaJ aa_ aba:Int) (e0:Ky8):(Int × Bool × LF)->((Int × Bool × LF)->Bool)->Bool:=λv_ K=>match v_ with
 | (aaT,ah0,ab3)=>(cond (decide (aaT<adX)) (af N (dd N aaT adX aaT Z3 aeG adw adx ZW Z3 aaE aaI aaJ aa_ aba (λaiW aht=>ac .i64 (aaT+1)&&K ((aaT+1),aiW,aht))) (0,ah0,ab3)) (e0 ah0 ab3))
def jb (N:Nat) (a_0 Zy:Int) (a_2:LF) (b_0 Y8:Int) (Za:LF) (b:Bool) (k0:Ky8):Bool:=
 (af N (dc N a_0 a_0 Zy a_2 b_0 Y8 Za 0 0 a_0 Y8 (λb0 b3=>k0 b0 b3)) (0,b,[]))
def jh (N:Nat):Int->Int->LF->Int->Int->LF->Bool->(Ky8)->Bool:=aw N (jb N)
def ow (N:Nat) (ZI Zc i:Int) (b:LF) (k0:Ky9):Bool:=
 (ac .i64 (i*Zc)&&(ac .i64 (i+1)&&(ac .i64 ((i+1)*Zc)&&(decide (0<=(i*Zc)/\(i*Zc)<=((i+1)*Zc)/\((i+1)*Zc)<=((b.length:Nat):Int))&&k0 (Int.toNat (i*Zc)) ((Int.toNat ((i+1)*Zc)) - (Int.toNat (i*Zc)))))))
def e_ (N:Nat):Int->Int->Int->LF->(Ky9)->Bool:=aw N (ow N)
def iL (N:Nat) (Zf:LF) (t10 aa4:Nat) (t11:Int) (aal:LF) (e0:Ky7):(Fl × Int × Bool)->((Fl × Int × Bool)->Bool)->Bool:=λv_ K=>match v_ with
 | (t,t12,s)=>(cond (decide (t12<t11)) (inR t12 aa4&&(decide ((t10+t12.toNat)<aal.length)&&(inR t12 Zf.length&&nd N (aal.getD (t10+t12.toNat) none) (Zf.getD t12.toNat none) s (λxr cr=>zE N (cV t xr) cr (λZb=>ac .i64 (t12+1)&&K ((cV t xr),(t12+1),Zb)))))) (e0 t s))
def Nh (N a_0 Zy:Nat) (b:LF) (Y8:Bool) (Za:LF) (k0:Ky7):Bool:=
 (af N (iL N b a_0 Zy ((Zy:Nat):Int) Za (λt_1 b0=>k0 t_1 b0)) ((some 0),0,Y8))
def Pu (N:Nat):Nat->Nat->LF->Bool->LF->(Ky7)->Bool:=aw N (Nh N)
def bM (N:Nat) (i j b Y8 Za Zf:Int) (Zl:LF) (Zr ZA:Int) (Zx:LF) (ZF:Int) (ZL:Bool) (Zh:LF) (k0:Ky7):Bool:=
 (e_ N b Y8 i Zh (λmr aak=>iH N Za Zf Zl j (λxsr=>Pu N mr aak xsr ZL Zh (λxr cr=>ac .i64 (i*ZF)&&(ac .i64 ((i*ZF)+j)&&(inR ((i*ZF)+j) Zx.length&&zE N (cV xr (Zx.getD (Int.toNat ((i*ZF)+j)) none)) cr (λZb=>k0 (cV xr (Zx.getD (Int.toNat ((i*ZF)+j)) none)) Zb)))))))
def dm (N:Nat):Int->Int->Int->Int->Int->Int->LF->Int->Int->LF->Int->Bool->LF->(Ky7)->Bool:=aw N (bM N)
def bV (N:Nat) (n_2 i ab8 aa5 t21 ahN agu agv agw:Int) (agx:LF) (agy agz:Int) (agA:LF) (agB:Int) (aeQ:LF) (ac_ ada aad aaS:Int) (e0:Ky8):(Int × Bool × LF)->((Int × Bool × LF)->Bool)->Bool:=λv_ K=>match v_ with
 | (t22,aao,ah6)=>(cond (decide (t22<t21)) (dm N i t22 ahN agu agv agw agx agy agz agA agB aao aeQ (λxr cr=>ac .i64 (i*n_2)&&(ac .i64 ((i*n_2)+t22)&&(ac .i64 (t22*n_2)&&(ac .i64 ((t22*n_2)+i)&&(inR ((i*n_2)+t22) ah6.length&&(decide ((Int.toNat ((i*n_2)+t22))<ah6.length)&&(inR ((t22*n_2)+i) (List.length (ah6.set (Int.toNat ((i*n_2)+t22)) xr))&&(decide ((Int.toNat ((t22*n_2)+i))<(List.length (ah6.set (Int.toNat ((i*n_2)+t22)) xr)))&&(ac .i64 (t22+1)&&K ((t22+1),cr,(List.set (ah6.set (Int.toNat ((i*n_2)+t22)) xr) (Int.toNat ((t22*n_2)+i)) xr)))))))))))) (e0 aao ah6))
def bU (N:Nat) (ZY t16 at_ aa7 aa8 aaM:Int) (abX:LF) (ady adz:Int) (adA:LF) (ahM:Int) (b6:LF) (t4 aef out Zm:Int) (e0:Ky8):(Int × Bool × LF)->((Int × Bool × LF)->Bool)->Bool:=λv_ K=>match v_ with
 | (t17,b5,b9)=>(cond (decide (t17<t16)) (ac .i64 (t17+1)&&af N (bV N ZY t17 t16 t17 (t17+1) at_ aa7 aa8 aaM abX ady adz adA ahM b6 t4 aef out Zm (λab3 akl=>ac .i64 (t17+1)&&K ((t17+1),ab3,akl))) (0,b5,b9)) (e0 b5 b9))
def dL (N:Nat) (n b Y8 Za Zf:Int) (Zl:LF) (Zr ZA:Int) (Zx:LF) (ZF:Int) (ZL:Bool) (Zh:LF) (k0:Ky8):Bool:=
 (ac .i64 (n*n)&&(iF 8 (n*n) (n*n)&&af N (bU N n n b Y8 Za Zf Zl Zr ZA Zx ZF Zh 0 0 n n (λaht akm=>k0 aht akm)) (0,ZL,(List.replicate (Int.toNat (n*n)) (some 0)))))
def dM (N:Nat):Int->Int->Int->Int->Int->LF->Int->Int->LF->Int->Bool->LF->(Ky8)->Bool:=aw N (dL N)
def qF (N:Nat) (b k0:Bool):Bool:=
 k0
def xC (N:Nat):Bool->(Bool)->Bool:=aw N (qF N)
def fD (N:Nat) (p_0 p_1:Int) (b:Bool) (Y8 Za:LF) (k0:Ky2) (k1:Kz7):Bool:=
 (xC N b (cond b (k0 0 0 5) (cO N p_0 p_1 Za (λcr=>cond (!cr) (k0 0 0 151) (k1 0)))))
def lh (N:Nat):Int->Int->Bool->LF->LF->(Ky2)->(Kz7)->Bool:=aw N (fD N)
def eI (N:Nat) (t49:Int) (s:LF) (s_4 s_5:Int) (s_6:LF) (f f_3:Int) (f_4:LF) (q q_3:Int) (q_4:LF) (t6 ZU n:Int) (e0:LF->Bool->Bool):(Int × LF × Bool)->((Int × LF × Bool)->Bool)->Bool:=λv_ K=>match v_ with
 | (t50,x,b7)=>(cond (decide (t50<t49)) (iH N f f_3 f_4 t50 (λxsr=>ua N xsr s b7 (λxr Zb=>inR t50 x.length&&(decide (t50.toNat<x.length)&&(ac .i64 (t50+1)&&K ((t50+1),(x.set t50.toNat xr),Zb)))))) (e0 x b7))
def mb (N:Nat) (ZT:LF) (Zw Zz:Int) (ZH:LF) (f_0 f_1:Int) (f_2:LF) (q_0 q_1:Int) (q_2:LF) (k0:Ky2) (k1:Kx4):Bool:=
 (e9 N ZT Zw Zz ZH (λnr=>cond (nr != 0) (k0 0 0 nr) (jW N f_0 f_1 f_2 ((ZT.length:Nat):Int) (λY_=>cond (Y_ != 0) (k0 0 0 Y_) (jW N q_0 q_1 q_2 ((ZT.length:Nat):Int) (λZe=>cond (Ze != 0) (k0 0 0 Ze) (Re N q_0 q_1 q_2 (λcr=>cond (!cr) (k0 0 0 150) (iF 8 ((ZT.length:Nat):Int) ((ZT.length:Nat):Int)&&af N (eI N (((List.length (List.replicate (Int.toNat ((ZT.length:Nat):Int)) (some 0))):Nat):Int) ZT Zw Zz ZH f_0 f_1 f_2 q_0 q_1 q_2 0 0 ((ZT.length:Nat):Int) (λZs aez=>jh N f_0 f_1 f_2 Zw Zz ZH aez (λZE ZD=>dM N ((ZT.length:Nat):Int) f_0 Zz f_0 f_1 f_2 q_0 q_1 q_2 ((ZT.length:Nat):Int) ZE ZD (λZX ZZ=>lh N ((ZT.length:Nat):Int) ((ZT.length:Nat):Int) ZX Zs ZZ (λZt ZC n5=>k0 Zt ZC n5) (λn6=>k1 ((ZT.length:Nat):Int) ((ZT.length:Nat):Int) n6 Zs ZZ))))) (0,(List.replicate (Int.toNat ((ZT.length:Nat):Int)) (some 0)),false))))))))))
def dq (N:Nat):LF->Int->Int->LF->Int->Int->LF->Int->Int->LF->(Ky2)->(Kx4)->Bool:=aw N (mb N)
def rV (N:Nat) (ZT:LF) (Zw Zz:Int) (ZH:LF) (m:List RY0) (ticks:Int) (ab1:LF) (ahC ag6:Int) (b5:LF) (q_6 q_7:Int) (k0:Ky2) (k1:Kx4):Bool:=
 (dq N ZT Zw Zz ZH ahC ag6 ab1 q_6 q_7 b5 (λn37 n38 n39=>k0 n37 n38 n39) (λn40 n41 n42 ad8 abT=>k1 n40 n41 n42 ad8 abT))
def zR (N:Nat) (ZT:LF) (Zw Zz:Int) (ZH:LF) (m:List RY0) (ticks:Int) (abd:LF) (f_8 f_9 q_4 q_5:Int) (k0:Ky2) (k1:Kx4):Bool:=
 (dq N ZT Zw Zz ZH f_8 f_9 abd q_4 q_5 [] (λn31 n32 n33=>k0 n31 n32 n33) (λn34 n35 n36 aet ad7=>k1 n34 n35 n36 aet ad7))
def rU (N:Nat) (ZT:LF) (Zw Zz:Int) (ZH:LF) (m:List RY0) (ticks:Int) (b3:LF) (f_6 f_7:Int) (k0:Ky2) (k1:Kx4):Bool:=
 (cond (f_6 != ((ZT.length:Nat):Int)) (k0 0 0 3) (vi N m ticks (λn25 n26 n27=>cond (n27 != 0) (k0 0 0 n27) (zR N ZT Zw Zz ZH m ticks b3 f_6 f_7 n25 n26 k0 k1)) (λn28 n29 n30 acV=>cond (n30 != 0) (k0 0 0 n30) (rV N ZT Zw Zz ZH m ticks b3 f_6 f_7 acV n28 n29 k0 k1))))
def zQ (N:Nat) (ZT:LF) (Zw Zz:Int) (ZH:LF) (m:List RY0) (ticks f_4 f_5:Int) (b4:LF) (q_2 q_3:Int) (k0:Ky2) (k1:Kx4):Bool:=
 (dq N ZT Zw Zz ZH f_4 f_5 [] q_2 q_3 b4 (λn19 n20 n21=>k0 n19 n20 n21) (λn22 n23 n24 acT acU=>k1 n22 n23 n24 acT acU))
def zP (N:Nat) (ZT:LF) (Zw Zz:Int) (ZH:LF) (m:List RY0) (ticks f_2 f_3 q q_1:Int) (k0:Ky2) (k1:Kx4):Bool:=
 (dq N ZT Zw Zz ZH f_2 f_3 [] q q_1 [] (λn13 n14 n15=>k0 n13 n14 n15) (λn16 n17 n18 ZZ aay=>k1 n16 n17 n18 ZZ aay))
def zO (N:Nat) (ZT:LF) (Zw Zz:Int) (ZH:LF) (m:List RY0) (ticks f f_1:Int) (k0:Ky2) (k1:Kx4):Bool:=
 (cond (f != ((ZT.length:Nat):Int)) (k0 0 0 3) (vi N m ticks (λn7 n8 n9=>cond (n9 != 0) (k0 0 0 n9) (zP N ZT Zw Zz ZH m ticks f f_1 n7 n8 k0 k1)) (λn10 n11 n12 ZD=>cond (n12 != 0) (k0 0 0 n12) (zQ N ZT Zw Zz ZH m ticks f f_1 ZD n10 n11 k0 k1))))
def pL (N:Nat) (ZT:LF) (Zw Zz:Int) (ZH:LF) (m:List RY0) (ticks:Int) (k0:Ky2) (k1:Kx4):Bool:=
 (e9 N ZT Zw Zz ZH (λnr=>cond (nr != 0) (k0 0 0 nr) (yz N m ticks (λY_ Ze Zt=>cond (Zt != 0) (k0 0 0 Zt) (zO N ZT Zw Zz ZH m ticks Y_ Ze k0 k1)) (λZC n5 n6 xsr=>cond (n6 != 0) (k0 0 0 n6) (rU N ZT Zw Zz ZH m ticks xsr ZC n5 k0 k1)))))
def pP (N:Nat):LF->Int->Int->LF->List RY0->Int->(Ky2)->(Kx4)->Bool:=aw N (pL N)
def Ks (N:Nat) (t6 t7 t12:Int) (b2:LF) (e0:LF->Bool):(Int × LF)->((Int × LF)->Bool)->Bool:=λv_ K=>match v_ with
 | (t13,l)=>(cond (decide (t13<t12)) (inR t13 l.length&&(decide (t13.toNat<l.length)&&(ac .i64 (t13+1)&&K ((t13+1),(l.set t13.toNat (some 4635118810238550016)))))) (e0 l))
def Kr (N:Nat) (ZU ahK aej:Int) (aex:LF) (e0:LF->Bool):(Int × LF)->((Int × LF)->Bool)->Bool:=λv_ K=>match v_ with
 | (acw,l_1)=>(cond (decide (acw<aej)) (inR acw l_1.length&&(decide (acw.toNat<l_1.length)&&(ac .i64 (acw+1)&&K ((acw+1),(l_1.set acw.toNat (some 4635118810238550016)))))) (e0 l_1))
def Sl (N:Nat) (b Y8:LF) (k0:Kz4):Bool:=
 (af (N+24) (Ks N 2 0 ((b.length:Nat):Int) Y8 (λb1=>af (N+24) (Kr N 2 1 ((Y8.length:Nat):Int) b1 (λaaZ=>k0 b1 aaZ)) (0,Y8))) (0,b))
def Q3 (N:Nat):LF->LF->(Kz4)->Bool:=aw N (Sl N)
def sR (N:Nat) (rows cols n:Int) (k0:Kz7):Bool:=
 (cond ((decide (rows<0))==false) (cond ((decide (rows>12))==false) (cond ((decide (cols<0))==false) (cond (decide (cols>12)) (k0 1) (ac .i64 (rows*cols)&&cond (n != (rows*cols)) (k0 3) (k0 0))) (k0 1)) (k0 1)) (k0 1))
def ui (N:Nat):Int->Int->Int->(Kz7)->Bool:=aw N (sR N)
def Av (N:Nat) (x:Fl) (k0:Kz7):Bool:=
 (cond (!feq x x) (k0 9221120237041090561) (tY N x (λnr=>k0 nr)))
def oU (N:Nat):Fl->(Kz7)->Bool:=Av N
def sP (N:Nat) (x:Fl) (k0:Ky0):Bool:=
 (oU N x (λnr=>ac .i64 (Int.tmod (Int.fdiv nr (2 ^ 52)) 2048)&&k0 ((Int.fdiv nr (2 ^ 63))==1) (Int.tmod (Int.fdiv nr (2 ^ 52)) 2048) (Int.tmod nr 4503599627370496)))
def pH (N:Nat):Fl->(Ky0)->Bool:=aw N (sP N)
def Nr (N:Nat) (exp frac most:Int) (k0:Kz7):Bool:=
 (cond ((exp==most)==true) (cond (frac != 0) (k0 1) (cond (exp==most) (k0 2) (cond ((exp==0)==true) (cond (frac==0) (k0 3) (cond (exp==0) (k0 4) (k0 5))) (cond (exp==0) (k0 4) (k0 5))))) (cond (exp==most) (k0 2) (cond ((exp==0)==true) (cond (frac==0) (k0 3) (cond (exp==0) (k0 4) (k0 5))) (cond (exp==0) (k0 4) (k0 5)))))
def Sa (N:Nat):Int->Int->Int->(Kz7)->Bool:=aw N (Nr N)
def yM (N:Nat) (x:Fl) (k0:Kz7):Bool:=
 (pH N x (λcr nr Y_=>Sa N nr Y_ 2047 (λZe=>k0 Ze)))
def ue (N:Nat):Fl->(Kz7)->Bool:=yM N
def wX (N:Nat) (x:Fl) (k0:Kz6):Bool:=
 (ue N x (λnr=>k0 (decide (nr>2))))
def nZ (N:Nat):Fl->(Kz6)->Bool:=wX N
def fI (N:Nat) (t5:LF) (t6:Int) (e0:Kz6) (e1:Bool):(Int)->((Int)->Bool)->Bool:=λv_ K=>match v_ with
 | t7=>(cond (decide (t7<t6)) (inR t7 t5.length&&nZ N (t5.getD t7.toNat none) (λcr=>cond (!cr) (e0 false) (ac .i64 (t7+1)&&K (t7+1)))) e1)
def SB (N:Nat) (l:LF) (k0:Kz6):Bool:=
 (af N (fI N l ((l.length:Nat):Int) (λt2=>k0 t2) (k0 true)) 0)
def G8 (N:Nat):LF->(Kz6)->Bool:=aw N (SB N)
def vU (N:Nat) (ZI Zc:Int) (Zp:LF) (k0:Kz7):Bool:=
 (ui N ZI Zc ((Zp.length:Nat):Int) (λnr=>cond (nr != 0) (k0 nr) (G8 N Zp (λcr=>cond (!cr) (k0 4) (k0 0)))))
def rE (N:Nat):Int->Int->LF->(Kz7)->Bool:=aw N (vU N)
def vV (N:Nat) (ZI Zc:Int) (Zp:LF) (k0:Kz7):Bool:=
 (rE N ZI Zc Zp (λnr=>k0 nr))
def rI (N:Nat):Int->Int->LF->(Kz7)->Bool:=vV N
def Fg (N:Nat) (ZI Zc:Int) (Zp:LF) (i j:Int) (k0:Kz9):Bool:=
 (ac .i64 (i*Zc)&&(ac .i64 ((i*Zc)+j)&&(inR ((i*Zc)+j) Zp.length&&k0 (Zp.getD (Int.toNat ((i*Zc)+j)) none))))
def nj (N:Nat):Int->Int->LF->Int->Int->(Kz9)->Bool:=Fg N
def vT (N:Nat) (a b:Fl) (k0:Kz6):Bool:=
 (oU N a (λnr=>oU N b (λY_=>k0 (nr==Y_))))
def wL (N:Nat):Fl->Fl->(Kz6)->Bool:=aw N (vT N)
def fK (N:Nat) (Z7 m_5 m_6:Int) (m_7:LF) (e0:Kz7) (e1:Bool):(Int)->((Int)->Bool)->Bool:=λv_ K=>match v_ with
 | j=>(cond (decide (j<Z7)) (nj N m_5 m_6 m_7 Z7 j (λxr=>nj N m_5 m_6 m_7 j Z7 (λZ5=>wL N xr Z5 (λcr=>cond (!cr) (e0 91) (ac .i64 (j+1)&&K (j+1)))))) e1)
def fJ (N:Nat) (m m_3:Int) (m_4:LF) (e0:Kz7) (e1:Bool):(Int)->((Int)->Bool)->Bool:=λv_ K=>match v_ with
 | i=>(cond (decide (i<m)) (af N (fK N i m m_3 m_4 (λt2=>e0 t2) (ac .i64 (i+1)&&K (i+1))) 0) e1)
def MR (N:Nat) (ZI Zc:Int) (Zp:LF) (k0:Kz7):Bool:=
 (rE N ZI Zc Zp (λnr=>cond (nr != 0) (k0 nr) (cond (ZI != Zc) (k0 3) (af N (fJ N ZI Zc Zp (λacs=>k0 acs) (k0 0)) 0))))
def Ke (N:Nat):Int->Int->LF->(Kz7)->Bool:=aw N (MR N)
def sV (N:Nat) (ZT:LF) (Zw Zz:Int) (ZH:LF) (k0:Kz7):Bool:=
 (rI N Zw Zz ZH (λnr=>cond (nr != 0) (k0 nr) (cond ((Zw != Zz)==false) (cond (((ZT.length:Nat):Int) != Zw) (k0 3) (G8 N ZT (λcr=>cond (!cr) (k0 4) (Ke N Zw Zz ZH (λY_=>cond (Y_ != 0) (k0 150) (k0 0)))))) (k0 3))))
def zG (N:Nat):LF->Int->Int->LF->(Kz7)->Bool:=aw N (sV N)
def lK (N:Nat) (e0:Ky6):(Int × Int)->((Int × Int)->Bool)->Bool:=λv_ K=>match v_ with
 | (Zc,e_1)=>(cond ((Int.tmod Zc 2)==0) (ac .i64 (e_1+1)&&K ((IntKind.wrap .u64 (Int.tdiv Zc 2)),(e_1+1))) (e0 Zc e_1))
def uB (N:Nat) (m e:Int) (k0:Ky6):Bool:=
 (cond (m==0) (k0 0 0) (af N (lK N (λZp e_2=>k0 Zp e_2)) (m,e)))
def qu (N:Nat):Int->Int->(Ky6)->Bool:=aw N (uB N)
def mE (N:Nat) (x:Fl) (neg:Bool) (e f:Int) (k0:Kx5):Bool:=
 (ac .i64 (e - 1074)&&qu N f (e - 1074) (λZe Zt=>k0 neg Ze Zt 0))
def sO (N:Nat) (x:Fl) (k0:Kx5):Bool:=
 (pH N x (λcr nr Y_=>cond (nr==2047) (k0 false 0 0 4) (cond (decide (nr>0)) (ac .i64 (nr - 1)&&mE N x cr (nr - 1) (IntKind.wrap .u64 (Y_+4503599627370496)) k0) (mE N x cr nr Y_ k0))))
def uf (N:Nat):Fl->(Kx5)->Bool:=aw N (sO N)
def wS (N Zc:Nat) (m_3:LI) (e0:Kz8):(Nat)->((Nat)->Bool)->Bool:=λv_ K=>match v_ with
 | Zp=>(cond ((decide (((Zp:Nat):Int)>0))==true) (ac .i64 (((Zp:Nat):Int) - 1)&&(inR (((Zp:Nat):Int) - 1) Zp&&(decide ((Zc+(Int.toNat (((Zp:Nat):Int) - 1)))<m_3.length)&&cond ((m_3.getD (Zc+(Int.toNat (((Zp:Nat):Int) - 1))) 0)==0) (ac .i64 (((Zp:Nat):Int) - 1)&&(decide (0<=(((Zp:Nat):Int) - 1)/\(((Zp:Nat):Int) - 1)<=((Zp:Nat):Int))&&K ((Int.toNat (((Zp:Nat):Int) - 1)) - 0))) (e0 Zp)))) (e0 Zp))
def Sv (N:Nat) (b:LI) (k0:Kz8):Bool:=
 (af N (wS N 0 b (λm_4=>k0 m_4)) b.length)
def qs (N:Nat):LI->(Kz8)->Bool:=aw N (Sv N)
def Nc (N:Nat) (n:Int) (k0:LI->Bool):Bool:=
 (qs N [(IntKind.wrap .u32 n),(IntKind.wrap .u32 (Int.fdiv n (2 ^ 32)))] (λmr=>decide ((0+mr)<=(List.length [(IntKind.wrap .u32 n),(IntKind.wrap .u32 (Int.fdiv n (2 ^ 32)))]))&&k0 (List.take mr (List.drop 0 [(IntKind.wrap .u32 n),(IntKind.wrap .u32 (Int.fdiv n (2 ^ 32)))]))))
def DK (N:Nat):Int->(LI->Bool)->Bool:=aw N (Nc N)
def fH (N:Nat) (e0:LI->Bool):(LI)->((LI)->Bool)->Bool:=λv_ K=>match v_ with
 | Zc=>(cond ((decide (((Zc.length:Nat):Int)>0))==true) (ac .i64 (((Zc.length:Nat):Int) - 1)&&(inR (((Zc.length:Nat):Int) - 1) Zc.length&&cond ((Zc.getD (Int.toNat (((Zc.length:Nat):Int) - 1)) 0)==0) (ac .i64 (((Zc.length:Nat):Int) - 1)&&(decide (0<=(((Zc.length:Nat):Int) - 1)/\(((Zc.length:Nat):Int) - 1)<=((Zc.length:Nat):Int))&&K (List.drop 0 (List.take (Int.toNat (((Zc.length:Nat):Int) - 1)) Zc)))) (e0 Zc))) (e0 Zc))
def xS (N:Nat) (m:LI) (k0:LI->Bool):Bool:=
 (af N (fH N (λZp=>k0 Zp)) m)
def mA (N:Nat):LI->(LI->Bool)->Bool:=aw N (xS N)
def Rw (N:Nat) (neg:Bool) (m:LI) (b:Bool) (k0:Ky5):Bool:=
 (mA N m (λnsr=>cond (neg==true) (k0 (decide (((nsr.length:Nat):Int)>0)) nsr) (k0 false nsr)))
def zB (N:Nat):Bool->LI->Bool->(Ky5)->Bool:=Rw N
def SK (N:Nat) (n:Int) (b:Bool) (k0:Ky5):Bool:=
 (DK N n (λnsr=>zB N false nsr b (λcr Y9=>k0 cr Y9)))
def Rf (N:Nat):Int->Bool->(Ky5)->Bool:=aw N (SK N)
def sW (N:Nat) (neg b:Bool) (Y8 Za:LI) (k0:Ky1):Bool:=
 (qs N Za (λmr=>cond (neg==true) (k0 (decide (((mr:Nat):Int)>0)) 0 mr) (k0 false 0 mr)))
def un (N:Nat):Bool->Bool->LI->LI->(Ky1)->Bool:=sW N
def Na (N:Nat) (b:Bool) (Y8:LI) (k0:Ky5):Bool:=
 (decide ((List.length ([]++Y8))*4<=140737488355328)&&un N (!b) b Y8 ([]++Y8) (λcr mr aak=>decide ((mr+aak)<=(List.length ([]++Y8)))&&k0 cr (List.take aak (List.drop mr ([]++Y8)))))
def Ps (N:Nat):Bool->LI->(Ky5)->Bool:=aw N (Na N)
def Aw (N:Nat) (x:Fl) (k0:Int->Bool->LI->Bool):Bool:=
 (uf N x (λcr nr Y_ Ze=>Rf N nr false (λZb nsr=>cond cr (Ps N Zb nsr (λZE Y9=>k0 Y_ ZE Y9)) (k0 Y_ Zb nsr))))
def BV (N:Nat):Fl->(Int->Bool->LI->Bool)->Bool:=aw N (Aw N)
def eh (N:Nat) (Zc:LI) (w s:Int) (e0:LI->Bool):(Int × LI)->((Int × LI)->Bool)->Bool:=λv_ K=>match v_ with
 | (i,out)=>(cond (decide (i<((Zc.length:Nat):Int))) (inR i Zc.length&&(decide (0<=s)&&(ac .i64 (w+i)&&(inR (w+i) out.length&&(decide ((Int.toNat (w+i))<out.length)&&(inR (w+i) out.length&&(decide ((Int.toNat (w+i))<out.length)&&(ac .i64 (w+i)&&(ac .i64 ((w+i)+1)&&(inR ((w+i)+1) (List.length (out.set (Int.toNat (w+i)) (aA .or .u32 (out.getD (Int.toNat (w+i)) 0) (IntKind.wrap .u32 (IntKind.wrap .u64 ((IntKind.wrap .u64 (Zc.getD i.toNat 0))*2 ^ (min s.toNat 64)))))))&&(decide ((Int.toNat ((w+i)+1))<(List.length (out.set (Int.toNat (w+i)) (aA .or .u32 (out.getD (Int.toNat (w+i)) 0) (IntKind.wrap .u32 (IntKind.wrap .u64 ((IntKind.wrap .u64 (Zc.getD i.toNat 0))*2 ^ (min s.toNat 64))))))))&&(ac .i64 (i+1)&&K ((i+1),(List.set (out.set (Int.toNat (w+i)) (aA .or .u32 (out.getD (Int.toNat (w+i)) 0) (IntKind.wrap .u32 (IntKind.wrap .u64 ((IntKind.wrap .u64 (Zc.getD i.toNat 0))*2 ^ (min s.toNat 64)))))) (Int.toNat ((w+i)+1)) (IntKind.wrap .u32 (Int.fdiv (IntKind.wrap .u64 ((IntKind.wrap .u64 (Zc.getD i.toNat 0))*2 ^ (min s.toNat 64))) (2 ^ 32))))))))))))))))) (e0 out))
def vQ (N:Nat) (m:LI) (n:Int) (k0:LI->Bool):Bool:=
 (cond (((m.length:Nat):Int)==0) (k0 []) (ac .i64 (IntKind.wrap .u64 (Int.tdiv n 32))&&(ac .i64 ((IntKind.wrap .u64 (Int.tdiv n 32))+((m.length:Nat):Int))&&(ac .i64 (((IntKind.wrap .u64 (Int.tdiv n 32))+((m.length:Nat):Int))+1)&&(iF 4 (((IntKind.wrap .u64 (Int.tdiv n 32))+((m.length:Nat):Int))+1) (((IntKind.wrap .u64 (Int.tdiv n 32))+((m.length:Nat):Int))+1)&&af N (eh N m (IntKind.wrap .u64 (Int.tdiv n 32)) (Int.tmod n 32) (λZm=>qs N Zm (λmr=>decide ((0+mr)<=Zm.length)&&k0 (List.take mr (List.drop 0 Zm))))) (0,(List.replicate (Int.toNat (((IntKind.wrap .u64 (Int.tdiv n 32))+((m.length:Nat):Int))+1)) (0:Int))))))))
def wJ (N:Nat):LI->Int->(LI->Bool)->Bool:=aw N (vQ N)
def MS (N:Nat) (n:Int) (b Y8:Bool) (Za:LI) (k0:Ky5):Bool:=
 (wJ N Za n (λnsr=>zB N Y8 nsr b (λcr Y9=>k0 cr Y9)))
def Kf (N:Nat):Int->Bool->Bool->LI->(Ky5)->Bool:=aw N (MS N)
def Wd (N:Nat) (x e:Int) (b:Bool) (Y8:LI) (k0:Bool) (k1:Ky5):Bool:=
 (cond (decide (e>=x)) k0 (ac .i64 (x - e)&&Kf N (IntKind.wrap .u64 (x - e)) false b Y8 (λcr nsr=>k1 cr nsr)))
def Vy (N:Nat):Int->Int->Bool->LI->(Bool)->(Ky5)->Bool:=Wd N
def Jn (N:Nat) (k0:LI->Bool):Bool:=
 (k0 [1])
def sm (N:Nat):(LI->Bool)->Bool:=Jn N
def M3 (N:Nat) (neg:Bool) (m:LI) (b Y8:Bool) (k0:Bool->LI->LI->Bool):Bool:=
 (mA N m (λnsr=>cond (neg==true) (k0 (decide (((nsr.length:Nat):Int)>0)) nsr []) (k0 false nsr [])))
def G3 (N:Nat):Bool->LI->Bool->Bool->(Bool->LI->LI->Bool)->Bool:=M3 N
def Nu (N:Nat) (neg:Bool) (m:LI) (b:Bool) (Y8:LI) (Za:Bool) (Zf:LI) (k0:Ky5):Bool:=
 (mA N m (λnsr=>cond (neg==true) (k0 (decide (((nsr.length:Nat):Int)>0)) nsr) (k0 false nsr)))
def G9 (N:Nat):Bool->LI->Bool->LI->Bool->LI->(Ky5)->Bool:=Nu N
def GQ7 (N:Nat) (x:Int) (k0:Kz7):Bool:=
 (cond (x==0) (k0 32) (inR (Int.fdiv (IntKind.wrap .u32 ((aA .and .u32 x (IntKind.wrap .u32 (0 - x)))*125613361)) (2 ^ 27)) 32&&(ac .i64 (zK.getD (Int.toNat (Int.fdiv (IntKind.wrap .u32 ((aA .and .u32 x (IntKind.wrap .u32 (0 - x)))*125613361)) (2 ^ 27))) 0)&&k0 (zK.getD (Int.toNat (Int.fdiv (IntKind.wrap .u32 ((aA .and .u32 x (IntKind.wrap .u32 (0 - x)))*125613361)) (2 ^ 27))) 0))))
def sQ7 (N:Nat):Int->(Kz7)->Bool:=aw N (GQ7 N)
def Kt (N:Nat) (z:Bool) (z_1:LI) (e0:Kz7) (e1:Bool):(Int)->((Int)->Bool)->Bool:=λv_ K=>match v_ with
 | i=>(cond (decide (i<((z_1.length:Nat):Int))) (inR i z_1.length&&cond ((z_1.getD i.toNat 0) != 0) (ac .i64 (32*i)&&(inR i z_1.length&&sQ7 N (z_1.getD i.toNat 0) (λnr=>ac .i64 ((32*i)+nr)&&e0 (IntKind.wrap .u64 ((32*i)+nr))))) (ac .i64 (i+1)&&K (i+1))) e1)
def GQ0 (N:Nat) (b:Bool) (Y8:LI) (k0:Kz7):Bool:=
 (af N (Kt N b Y8 (λt2=>k0 t2) (k0 0)) 0)
def sQ0 (N:Nat):Bool->LI->(Kz7)->Bool:=aw N (GQ0 N)
def lG (N:Nat) (Zc:LI) (w s:Int) (e0:LI->Bool):(Int × LI)->((Int × LI)->Bool)->Bool:=λv_ K=>match v_ with
 | (i,out)=>(cond (decide (i<((out.length:Nat):Int))) (ac .i64 (w+i)&&(inR (w+i) Zc.length&&(ac .i64 (w+i)&&(ac .i64 ((w+i)+1)&&cond (decide (((w+i)+1)<((Zc.length:Nat):Int))) (ac .i64 (w+i)&&(ac .i64 ((w+i)+1)&&(inR ((w+i)+1) Zc.length&&(decide (0<=s)&&(inR i out.length&&(decide (i.toNat<out.length)&&(ac .i64 (i+1)&&K ((i+1),(out.set i.toNat (IntKind.wrap .u32 (Int.fdiv (aA .or .u64 (IntKind.wrap .u64 (Zc.getD (Int.toNat (w+i)) 0)) (IntKind.wrap .u64 ((IntKind.wrap .u64 (Zc.getD (Int.toNat ((w+i)+1)) 0))*2 ^ 32))) (2 ^ (min s.toNat 64))))))))))))) (decide (0<=s)&&(inR i out.length&&(decide (i.toNat<out.length)&&(ac .i64 (i+1)&&K ((i+1),(out.set i.toNat (IntKind.wrap .u32 (Int.fdiv (IntKind.wrap .u64 (Zc.getD (Int.toNat (w+i)) 0)) (2 ^ (min s.toNat 64)))))))))))))) (e0 out))
def SQ (N:Nat) (m:LI) (n:Int) (k0:LI->Bool):Bool:=
 (ac .i64 (IntKind.wrap .u64 (Int.tdiv n 32))&&cond (decide ((IntKind.wrap .u64 (Int.tdiv n 32))>=((m.length:Nat):Int))) (k0 []) (ac .i64 (((m.length:Nat):Int) - (IntKind.wrap .u64 (Int.tdiv n 32)))&&(iF 4 (((m.length:Nat):Int) - (IntKind.wrap .u64 (Int.tdiv n 32))) (((m.length:Nat):Int) - (IntKind.wrap .u64 (Int.tdiv n 32)))&&af N (lG N m (IntKind.wrap .u64 (Int.tdiv n 32)) (Int.tmod n 32) (λZm=>qs N Zm (λmr=>decide ((0+mr)<=Zm.length)&&k0 (List.take mr (List.drop 0 Zm))))) (0,(List.replicate (Int.toNat (((m.length:Nat):Int) - (IntKind.wrap .u64 (Int.tdiv n 32)))) (0:Int))))))
def CK (N:Nat):LI->Int->(LI->Bool)->Bool:=aw N (SQ N)
def MZ (N:Nat) (x:Int) (k0:Kz7):Bool:=
 (cond (decide (x>=65536)) (cond (decide ((Int.fdiv x (2 ^ 16))>=256)) (inR (IntKind.wrap .u8 (Int.fdiv (Int.fdiv x (2 ^ 16)) (2 ^ 8))) 256&&(ac .i64 (az.getD (Int.toNat (IntKind.wrap .u8 (Int.fdiv (Int.fdiv x (2 ^ 16)) (2 ^ 8)))) 0)&&(ac .i64 (24+(az.getD (Int.toNat (IntKind.wrap .u8 (Int.fdiv (Int.fdiv x (2 ^ 16)) (2 ^ 8)))) 0))&&k0 (24+(az.getD (Int.toNat (IntKind.wrap .u8 (Int.fdiv (Int.fdiv x (2 ^ 16)) (2 ^ 8)))) 0))))) (inR (IntKind.wrap .u8 (Int.fdiv x (2 ^ 16))) 256&&(ac .i64 (az.getD (Int.toNat (IntKind.wrap .u8 (Int.fdiv x (2 ^ 16)))) 0)&&(ac .i64 (16+(az.getD (Int.toNat (IntKind.wrap .u8 (Int.fdiv x (2 ^ 16)))) 0))&&k0 (16+(az.getD (Int.toNat (IntKind.wrap .u8 (Int.fdiv x (2 ^ 16)))) 0)))))) (cond (decide (x>=256)) (inR (IntKind.wrap .u8 (Int.fdiv x (2 ^ 8))) 256&&(ac .i64 (az.getD (Int.toNat (IntKind.wrap .u8 (Int.fdiv x (2 ^ 8)))) 0)&&(ac .i64 (8+(az.getD (Int.toNat (IntKind.wrap .u8 (Int.fdiv x (2 ^ 8)))) 0))&&k0 (8+(az.getD (Int.toNat (IntKind.wrap .u8 (Int.fdiv x (2 ^ 8)))) 0))))) (inR (IntKind.wrap .u8 x) 256&&(ac .i64 (az.getD (Int.toNat (IntKind.wrap .u8 x)) 0)&&(ac .i64 (0+(az.getD (Int.toNat (IntKind.wrap .u8 x)) 0))&&k0 (0+(az.getD (Int.toNat (IntKind.wrap .u8 x)) 0)))))))
def Kg (N:Nat):Int->(Kz7)->Bool:=aw N (MZ N)
def SN (N:Nat) (b:Bool) (Y8:LI) (k0:Kz7):Bool:=
 (cond (((Y8.length:Nat):Int)==0) (k0 0) (ac .i64 (((Y8.length:Nat):Int) - 1)&&(ac .i64 (32*(((Y8.length:Nat):Int) - 1))&&(ac .i64 (((Y8.length:Nat):Int) - 1)&&(inR (((Y8.length:Nat):Int) - 1) Y8.length&&Kg N (Y8.getD (Int.toNat (((Y8.length:Nat):Int) - 1)) 0) (λnr=>ac .i64 ((32*(((Y8.length:Nat):Int) - 1))+nr)&&k0 ((32*(((Y8.length:Nat):Int) - 1))+nr)))))))
def Mt (N:Nat):Bool->LI->(Kz7)->Bool:=aw N (SN N)
def wN (N:Nat) (Zy Y8:LI) (e0:Kz7) (e1:Bool):(Int)->((Int)->Bool)->Bool:=λv_ K=>match v_ with
 | i=>(cond (decide (i>=0)) (inR i Zy.length&&(inR i Y8.length&&cond (decide ((Zy.getD i.toNat 0)<(Y8.getD i.toNat 0))) (e0 (-1)) (inR i Zy.length&&(inR i Y8.length&&cond (decide ((Zy.getD i.toNat 0)>(Y8.getD i.toNat 0))) (e0 1) (ac .i64 (i - 1)&&K (i - 1)))))) e1)
def S0 (N:Nat) (a b:LI) (k0:Kz7):Bool:=
 (cond (((a.length:Nat):Int) != ((b.length:Nat):Int)) (cond (decide (((a.length:Nat):Int)<((b.length:Nat):Int))) (k0 (-1)) (k0 1)) (ac .i64 (((a.length:Nat):Int) - 1)&&af N (wN N a b (λt4=>k0 t4) (k0 0)) (((a.length:Nat):Int) - 1)))
def Ha (N:Nat):LI->LI->(Kz7)->Bool:=aw N (S0 N)
def mN (N:Nat) (x:LI) (e0:Kz7):(Int × Int)->((Int × Int)->Bool)->Bool:=λv_ K=>match v_ with
 | (u,i)=>(cond (decide (i>=0)) (inR i x.length&&(ac .i64 (i - 1)&&K ((aA .or .u64 (IntKind.wrap .u64 (u*2 ^ 32)) (IntKind.wrap .u64 (x.getD i.toNat 0))),(i - 1)))) (e0 u))
def vP (N:Nat) (m:LI) (at_:Int) (k0:Kz7):Bool:=
 (CK N m (IntKind.wrap .u64 at_) (λnsr=>ac .i64 (((nsr.length:Nat):Int) - 1)&&af N (mN N nsr (λu_1=>k0 u_1)) (0,(((nsr.length:Nat):Int) - 1))))
def rC (N:Nat):LI->Int->(Kz7)->Bool:=aw N (vP N)
def qx (N:Nat) (e0:Kx7):(Int × Int × Int × Int × Int × Int)->((Int × Int × Int × Int × Int × Int)->Bool)->Bool:=λv_ K=>match v_ with
 | (a,b,c,d,p,q)=>(ac .i64 (q+c)&&cond (((q+c) != 0)==true) (ac .i64 (q+d)&&cond ((q+d) != 0) (ac .i64 (p+a)&&(ac .i64 (q+c)&&((!decide ((q+c)=0))&&(ac .i64 (Int.tdiv (p+a) (q+c))&&(ac .i64 (p+b)&&(ac .i64 (q+d)&&((!decide ((q+d)=0))&&(ac .i64 (Int.tdiv (p+b) (q+d))&&cond ((Int.tdiv (p+a) (q+c)) != (Int.tdiv (p+b) (q+d))) (e0 a b c d) (ac .i64 ((Int.tdiv (p+a) (q+c))*c)&&(ac .i64 (a - ((Int.tdiv (p+a) (q+c))*c))&&(ac .i64 ((Int.tdiv (p+a) (q+c))*d)&&(ac .i64 (b - ((Int.tdiv (p+a) (q+c))*d))&&cond ((decide ((a - ((Int.tdiv (p+a) (q+c))*c))>1073741824))==false) (cond ((decide ((a - ((Int.tdiv (p+a) (q+c))*c))<(-1073741824)))==false) (cond ((decide ((b - ((Int.tdiv (p+a) (q+c))*d))>1073741824))==false) (cond (decide ((b - ((Int.tdiv (p+a) (q+c))*d))<(-1073741824))) (e0 a b c d) (ac .i64 ((Int.tdiv (p+a) (q+c))*q)&&(ac .i64 (p - ((Int.tdiv (p+a) (q+c))*q))&&K (c,d,(a - ((Int.tdiv (p+a) (q+c))*c)),(b - ((Int.tdiv (p+a) (q+c))*d)),q,(p - ((Int.tdiv (p+a) (q+c))*q)))))) (e0 a b c d)) (e0 a b c d)) (e0 a b c d))))))))))))) (e0 a b c d)) (e0 a b c d))
def sN (N:Nat) (x y:Int) (k0:Kx7):Bool:=
 (ac .i64 x&&(ac .i64 y&&af N (qx N (λZy Y8 c_1 Z6=>k0 Zy Y8 c_1 Z6)) (1,0,0,1,x,y)))
def uc (N:Nat):Int->Int->(Kx7)->Bool:=aw N (sN N)
def lH (N:Nat) (Zc:LI) (Z6:Int) (e0:Kz0):(Int × Int × LI)->((Int × Int × LI)->Bool)->Bool:=λv_ K=>match v_ with
 | (r,i,out)=>(cond (decide (i>=0)) (inR i Zc.length&&((!decide ((IntKind.wrap .u64 Z6)=0))&&(inR i out.length&&(decide (i.toNat<out.length)&&((!decide ((IntKind.wrap .u64 Z6)=0))&&(ac .i64 (i - 1)&&K ((Int.tmod (aA .or .u64 (IntKind.wrap .u64 (r*2 ^ 32)) (IntKind.wrap .u64 (Zc.getD i.toNat 0))) (IntKind.wrap .u64 Z6)),(i - 1),(out.set i.toNat (IntKind.wrap .u32 (IntKind.wrap .u64 (Int.tdiv (aA .or .u64 (IntKind.wrap .u64 (r*2 ^ 32)) (IntKind.wrap .u64 (Zc.getD i.toNat 0))) (IntKind.wrap .u64 Z6)))))))))))) (e0 r out))
def sM (N:Nat) (m:LI) (d:Int) (k0:LI->Int->Bool):Bool:=
 (iF 4 ((m.length:Nat):Int) ((m.length:Nat):Int)&&(ac .i64 (((m.length:Nat):Int) - 1)&&af N (lH N m d (λr_1 Zm=>qs N Zm (λmr=>decide ((0+mr)<=Zm.length)&&k0 (List.take mr (List.drop 0 Zm)) (IntKind.wrap .u32 r_1)))) (0,(((m.length:Nat):Int) - 1),(List.replicate (Int.toNat ((m.length:Nat):Int)) (0:Int)))))
def pG (N:Nat):LI->Int->(LI->Int->Bool)->Bool:=aw N (sM N)
def Wa (N:Nat) (x:Int) (k0:Kz7):Bool:=
 (Kg N x (λnr=>ac .i64 (32 - nr)&&k0 (32 - nr)))
def Vw (N:Nat):Int->(Kz7)->Bool:=Wa N
def oY (N:Nat) (Zc:LI) (w s:Int) (e0:LI->Bool):(Int × LI)->((Int × LI)->Bool)->Bool:=λv_ K=>match v_ with
 | (i,out)=>(cond (decide (i<((Zc.length:Nat):Int))) (inR i Zc.length&&(decide (0<=s)&&(ac .i64 (w+i)&&(inR (w+i) out.length&&(decide ((Int.toNat (w+i))<out.length)&&(inR (w+i) out.length&&(decide ((Int.toNat (w+i))<out.length)&&(ac .i64 (w+i)&&(ac .i64 ((w+i)+1)&&(inR ((w+i)+1) (List.length (out.set (Int.toNat (w+i)) (aA .or .u32 (out.getD (Int.toNat (w+i)) 0) (IntKind.wrap .u32 (IntKind.wrap .u64 ((IntKind.wrap .u64 (Zc.getD i.toNat 0))*2 ^ (min s.toNat 64)))))))&&(decide ((Int.toNat ((w+i)+1))<(List.length (out.set (Int.toNat (w+i)) (aA .or .u32 (out.getD (Int.toNat (w+i)) 0) (IntKind.wrap .u32 (IntKind.wrap .u64 ((IntKind.wrap .u64 (Zc.getD i.toNat 0))*2 ^ (min s.toNat 64))))))))&&(ac .i64 (i+1)&&K ((i+1),(List.set (out.set (Int.toNat (w+i)) (aA .or .u32 (out.getD (Int.toNat (w+i)) 0) (IntKind.wrap .u32 (IntKind.wrap .u64 ((IntKind.wrap .u64 (Zc.getD i.toNat 0))*2 ^ (min s.toNat 64)))))) (Int.toNat ((w+i)+1)) (IntKind.wrap .u32 (Int.fdiv (IntKind.wrap .u64 ((IntKind.wrap .u64 (Zc.getD i.toNat 0))*2 ^ (min s.toNat 64))) (2 ^ 32))))))))))))))))) (e0 out))
def S6 (N:Nat) (m:LI) (n:Int) (k0:Bool) (k1:Kz1):Bool:=
 (cond (((m.length:Nat):Int)==0) k0 (ac .i64 (IntKind.wrap .u64 (Int.tdiv n 32))&&(ac .i64 ((IntKind.wrap .u64 (Int.tdiv n 32))+((m.length:Nat):Int))&&(ac .i64 (((IntKind.wrap .u64 (Int.tdiv n 32))+((m.length:Nat):Int))+1)&&(iF 4 (((IntKind.wrap .u64 (Int.tdiv n 32))+((m.length:Nat):Int))+1) (((IntKind.wrap .u64 (Int.tdiv n 32))+((m.length:Nat):Int))+1)&&af N (oY N m (IntKind.wrap .u64 (Int.tdiv n 32)) (Int.tmod n 32) (λZm=>qs N Zm (λmr=>k1 mr Zm))) (0,(List.replicate (Int.toNat (((IntKind.wrap .u64 (Int.tdiv n 32))+((m.length:Nat):Int))+1)) (0:Int))))))))
def PH (N:Nat):LI->Int->(Bool)->(Kz1)->Bool:=aw N (S6 N)
def gL (N u u_2 d d_2:Nat) (j_1 g_1:Int) (d_3:LI) (e0:Int->Int->LI->Bool):(Int × Int × Int × LI)->((Int × Int × Int × LI)->Bool)->Bool:=λv_ K=>match v_ with
 | (carry,borrow,i,u_3)=>(cond (decide (i<((d_2:Nat):Int))) (inR i d_2&&(decide ((d+i.toNat)<d_3.length)&&(ac .i64 (j_1+i)&&(inR (j_1+i) u_2&&(decide ((u+(Int.toNat (j_1+i)))<u_3.length)&&cond (decide ((IntKind.wrap .u64 (u_3.getD (u+(Int.toNat (j_1+i))) 0))<(IntKind.wrap .u64 ((aA .and .u64 (IntKind.wrap .u64 ((IntKind.wrap .u64 (g_1*(IntKind.wrap .u64 (d_3.getD (d+i.toNat) 0))))+carry)) 4294967295)+borrow)))) (ac .i64 (j_1+i)&&(inR (j_1+i) u_2&&(decide ((u+(Int.toNat (j_1+i)))<u_3.length)&&(ac .i64 (i+1)&&K ((Int.fdiv (IntKind.wrap .u64 ((IntKind.wrap .u64 (g_1*(IntKind.wrap .u64 (d_3.getD (d+i.toNat) 0))))+carry)) (2 ^ 32)),1,(i+1),(u_3.set (u+(Int.toNat (j_1+i))) (IntKind.wrap .u32 (IntKind.wrap .u64 ((IntKind.wrap .u64 ((IntKind.wrap .u64 (u_3.getD (u+(Int.toNat (j_1+i))) 0))+4294967296)) - (IntKind.wrap .u64 ((aA .and .u64 (IntKind.wrap .u64 ((IntKind.wrap .u64 (g_1*(IntKind.wrap .u64 (d_3.getD (d+i.toNat) 0))))+carry)) 4294967295)+borrow))))))))))) (ac .i64 (j_1+i)&&(inR (j_1+i) u_2&&(decide ((u+(Int.toNat (j_1+i)))<u_3.length)&&(ac .i64 (i+1)&&K ((Int.fdiv (IntKind.wrap .u64 ((IntKind.wrap .u64 (g_1*(IntKind.wrap .u64 (d_3.getD (d+i.toNat) 0))))+carry)) (2 ^ 32)),0,(i+1),(u_3.set (u+(Int.toNat (j_1+i))) (IntKind.wrap .u32 (IntKind.wrap .u64 ((IntKind.wrap .u64 (u_3.getD (u+(Int.toNat (j_1+i))) 0)) - (IntKind.wrap .u64 ((aA .and .u64 (IntKind.wrap .u64 ((IntKind.wrap .u64 (g_1*(IntKind.wrap .u64 (d_3.getD (d+i.toNat) 0))))+carry)) 4294967295)+borrow)))))))))))))))) (e0 carry borrow u_3))
def M8 (N u_0 u_1 d_0 Z6:Nat) (j g:Int) (b Y8:LI) (k0:Ky5):Bool:=
 (af N (gL N u_0 u_1 d_0 Z6 j g Y8 (λZQ abu u_4=>ac .i64 (j+((Z6:Nat):Int))&&(inR (j+((Z6:Nat):Int)) u_1&&(decide ((u_0+(Int.toNat (j+((Z6:Nat):Int))))<u_4.length)&&(ac .i64 (j+((Z6:Nat):Int))&&(inR (j+((Z6:Nat):Int)) u_1&&(decide ((u_0+(Int.toNat (j+((Z6:Nat):Int))))<u_4.length)&&k0 (decide ((IntKind.wrap .u64 (u_4.getD (u_0+(Int.toNat (j+((Z6:Nat):Int)))) 0))<(IntKind.wrap .u64 (ZQ+abu)))) (u_4.set (u_0+(Int.toNat (j+((Z6:Nat):Int)))) (IntKind.wrap .u32 (IntKind.wrap .u64 ((IntKind.wrap .u64 (u_4.getD (u_0+(Int.toNat (j+((Z6:Nat):Int)))) 0)) - (IntKind.wrap .u64 (ZQ+abu))))))))))))) (0,0,0,b))
def Po (N:Nat):Nat->Nat->Nat->Nat->Int->Int->LI->LI->(Ky5)->Bool:=aw N (M8 N)
def gM (N u u_2 d d_2:Nat) (j_1:Int) (d_3:LI) (e0:Kz0):(Int × Int × LI)->((Int × Int × LI)->Bool)->Bool:=λv_ K=>match v_ with
 | (carry,i,u_3)=>(cond (decide (i<((d_2:Nat):Int))) (ac .i64 (j_1+i)&&(inR (j_1+i) u_2&&(decide ((u+(Int.toNat (j_1+i)))<u_3.length)&&(inR i d_2&&(decide ((d+i.toNat)<d_3.length)&&(ac .i64 (j_1+i)&&(inR (j_1+i) u_2&&(decide ((u+(Int.toNat (j_1+i)))<u_3.length)&&(ac .i64 (i+1)&&K ((Int.fdiv (IntKind.wrap .u64 ((IntKind.wrap .u64 ((IntKind.wrap .u64 (u_3.getD (u+(Int.toNat (j_1+i))) 0))+(IntKind.wrap .u64 (d_3.getD (d+i.toNat) 0))))+carry)) (2 ^ 32)),(i+1),(u_3.set (u+(Int.toNat (j_1+i))) (IntKind.wrap .u32 (IntKind.wrap .u64 ((IntKind.wrap .u64 ((IntKind.wrap .u64 (u_3.getD (u+(Int.toNat (j_1+i))) 0))+(IntKind.wrap .u64 (d_3.getD (d+i.toNat) 0))))+carry)))))))))))))) (e0 carry u_3))
def M9 (N u_0 u_1 d_0 Z6:Nat) (j:Int) (b Y8:LI) (k0:LI->Bool):Bool:=
 (af N (gM N u_0 u_1 d_0 Z6 j Y8 (λZQ u_4=>ac .i64 (j+((Z6:Nat):Int))&&(inR (j+((Z6:Nat):Int)) u_1&&(decide ((u_0+(Int.toNat (j+((Z6:Nat):Int))))<u_4.length)&&(inR (j+((Z6:Nat):Int)) u_1&&(decide ((u_0+(Int.toNat (j+((Z6:Nat):Int))))<u_4.length)&&k0 (u_4.set (u_0+(Int.toNat (j+((Z6:Nat):Int)))) (IntKind.wrap .u32 ((u_4.getD (u_0+(Int.toNat (j+((Z6:Nat):Int)))) 0)+(IntKind.wrap .u32 ZQ)))))))))) (0,0,b))
def Pp (N:Nat):Nat->Nat->Nat->Nat->Int->LI->LI->(LI->Bool)->Bool:=aw N (M9 N)
def wR (N m:Nat) (m_3:LI) (e0:Kz8):(Nat)->((Nat)->Bool)->Bool:=λv_ K=>match v_ with
 | Zp=>(cond ((decide (((Zp:Nat):Int)>0))==true) (ac .i64 (((Zp:Nat):Int) - 1)&&(inR (((Zp:Nat):Int) - 1) Zp&&(decide ((m+(Int.toNat (((Zp:Nat):Int) - 1)))<m_3.length)&&cond ((m_3.getD (m+(Int.toNat (((Zp:Nat):Int) - 1))) 0)==0) (ac .i64 (((Zp:Nat):Int) - 1)&&(decide (0<=(((Zp:Nat):Int) - 1)/\(((Zp:Nat):Int) - 1)<=((Zp:Nat):Int))&&K ((Int.toNat (((Zp:Nat):Int) - 1)) - 0))) (e0 Zp)))) (e0 Zp))
def sK (N ZI Zc:Nat) (b:LI) (k0:Kz8):Bool:=
 (af N (wR N ZI b (λm_4=>k0 m_4)) Zc)
def ub (N:Nat):Nat->Nat->LI->(Kz8)->Bool:=aw N (sK N)
def iN (N m Zp:Nat) (w s:Int) (m_3:LI) (e0:LI->Bool):(Int × LI)->((Int × LI)->Bool)->Bool:=λv_ K=>match v_ with
 | (i,out)=>(cond (decide (i<((out.length:Nat):Int))) (ac .i64 (w+i)&&(inR (w+i) Zp&&(decide ((m+(Int.toNat (w+i)))<m_3.length)&&(ac .i64 (w+i)&&(ac .i64 ((w+i)+1)&&cond (decide (((w+i)+1)<((Zp:Nat):Int))) (ac .i64 (w+i)&&(ac .i64 ((w+i)+1)&&(inR ((w+i)+1) Zp&&(decide ((m+(Int.toNat ((w+i)+1)))<m_3.length)&&(decide (0<=s)&&(inR i out.length&&(decide (i.toNat<out.length)&&(ac .i64 (i+1)&&K ((i+1),(out.set i.toNat (IntKind.wrap .u32 (Int.fdiv (aA .or .u64 (IntKind.wrap .u64 (m_3.getD (m+(Int.toNat (w+i))) 0)) (IntKind.wrap .u64 ((IntKind.wrap .u64 (m_3.getD (m+(Int.toNat ((w+i)+1))) 0))*2 ^ 32))) (2 ^ (min s.toNat 64)))))))))))))) (decide (0<=s)&&(inR i out.length&&(decide (i.toNat<out.length)&&(ac .i64 (i+1)&&K ((i+1),(out.set i.toNat (IntKind.wrap .u32 (Int.fdiv (IntKind.wrap .u64 (m_3.getD (m+(Int.toNat (w+i))) 0)) (2 ^ (min s.toNat 64))))))))))))))) (e0 out))
def Nj (N ZI Zc:Nat) (n:Int) (b:LI) (k0:LI->Bool):Bool:=
 (ac .i64 (IntKind.wrap .u64 (Int.tdiv n 32))&&cond (decide ((IntKind.wrap .u64 (Int.tdiv n 32))>=((Zc:Nat):Int))) (k0 []) (ac .i64 (((Zc:Nat):Int) - (IntKind.wrap .u64 (Int.tdiv n 32)))&&(iF 4 (((Zc:Nat):Int) - (IntKind.wrap .u64 (Int.tdiv n 32))) (((Zc:Nat):Int) - (IntKind.wrap .u64 (Int.tdiv n 32)))&&af N (iN N ZI Zc (IntKind.wrap .u64 (Int.tdiv n 32)) (Int.tmod n 32) b (λZm=>qs N Zm (λmr=>decide ((0+mr)<=Zm.length)&&k0 (List.take mr (List.drop 0 Zm))))) (0,(List.replicate (Int.toNat (((Zc:Nat):Int) - (IntKind.wrap .u64 (Int.tdiv n 32)))) (0:Int))))))
def Pw (N:Nat):Nat->Nat->Int->LI->(LI->Bool)->Bool:=aw N (Nj N)
def pT (N:Nat) (Zy:LI) (s:Int) (e0:Kz1):(Nat × LI)->((Nat × LI)->Bool)->Bool:=λv_ K=>match v_ with
 | (u,u_1)=>(ac .i64 (((Zy.length:Nat):Int)+1)&&cond (decide (((u:Nat):Int)<(((Zy.length:Nat):Int)+1))) (decide ((0+u)<=u_1.length)&&(decide ((List.length ((List.take u (List.drop 0 u_1))++[0]))*4<=140737488355328)&&K ((List.length ((List.take u (List.drop 0 u_1))++[0])),((List.take u (List.drop 0 u_1))++[0])))) (e0 u u_1))
def ut (N:Nat) (a_2:LI) (Zw:Int) (d:Nat) (Z6:LI) (e0:Kz1):(Nat × LI)->((Nat × LI)->Bool)->Bool:=λv_ K=>match v_ with
 | (u_6,u_7)=>(ac .i64 (((a_2.length:Nat):Int)+1)&&cond (decide (((u_6:Nat):Int)<(((a_2.length:Nat):Int)+1))) (decide ((0+u_6)<=u_7.length)&&(decide ((List.length ((List.take u_6 (List.drop 0 u_7))++[0]))*4<=140737488355328)&&K ((List.length ((List.take u_6 (List.drop 0 u_7))++[0])),((List.take u_6 (List.drop 0 u_7))++[0])))) (e0 u_6 u_7))
def pS (N:Nat) (s_5:Int) (d_6 aeh:Nat) (ZY afZ j_1:Int) (d_7 aeD q_1:LI) (e0:Kz7):(Int × Int)->((Int × Int)->Bool)->Bool:=λv_ K=>match v_ with
 | (g,r)=>(cond ((decide (g>=4294967296))==false) (ac .i64 (ZY - 2)&&(inR (ZY - 2) d_6&&(decide ((0+(Int.toNat (ZY - 2)))<d_7.length)&&(ac .i64 (j_1+ZY)&&(ac .i64 ((j_1+ZY) - 2)&&(inR ((j_1+ZY) - 2) aeh&&(decide ((0+(Int.toNat ((j_1+ZY) - 2)))<aeD.length)&&cond (decide ((IntKind.wrap .u64 (g*(IntKind.wrap .u64 (d_7.getD (0+(Int.toNat (ZY - 2))) 0))))>(aA .or .u64 (IntKind.wrap .u64 (r*2 ^ 32)) (IntKind.wrap .u64 (aeD.getD (0+(Int.toNat ((j_1+ZY) - 2))) 0))))) (cond (decide ((IntKind.wrap .u64 (r+afZ))>=4294967296)) (e0 (IntKind.wrap .u64 (g - 1))) (K ((IntKind.wrap .u64 (g - 1)),(IntKind.wrap .u64 (r+afZ))))) (e0 g)))))))) (cond (decide ((IntKind.wrap .u64 (r+afZ))>=4294967296)) (e0 (IntKind.wrap .u64 (g - 1))) (K ((IntKind.wrap .u64 (g - 1)),(IntKind.wrap .u64 (r+afZ))))))
def jS (N:Nat) (s_4:Int) (d_4 abB:Nat) (n top:Int) (d_5:LI) (e0:Kz5):(Int × LI × LI)->((Int × LI × LI)->Bool)->Bool:=λv_ K=>match v_ with
 | (j,abt,q)=>(cond (decide (j>=0)) (ac .i64 (j+n)&&(inR (j+n) abB&&(decide ((0+(Int.toNat (j+n)))<abt.length)&&(ac .i64 (j+n)&&(ac .i64 ((j+n) - 1)&&(inR ((j+n) - 1) abB&&(decide ((0+(Int.toNat ((j+n) - 1)))<abt.length)&&((!decide (top=0))&&((!decide (top=0))&&af N (pS N s_4 d_4 abB n top j d_5 abt q (λg_1=>Po N 0 abB 0 d_4 j g_1 abt d_5 (λcr Zo=>cond cr (Pp N 0 abB 0 d_4 j Zo d_5 (λZn=>inR j q.length&&(decide (j.toNat<q.length)&&(ac .i64 (j - 1)&&K ((j - 1),Zn,(q.set j.toNat (IntKind.wrap .u32 (IntKind.wrap .u64 (g_1 - 1))))))))) (inR j q.length&&(decide (j.toNat<q.length)&&(ac .i64 (j - 1)&&K ((j - 1),Zo,(q.set j.toNat (IntKind.wrap .u32 g_1))))))))) ((IntKind.wrap .u64 (Int.tdiv (aA .or .u64 (IntKind.wrap .u64 ((IntKind.wrap .u64 (abt.getD (0+(Int.toNat (j+n))) 0))*2 ^ 32)) (IntKind.wrap .u64 (abt.getD (0+(Int.toNat ((j+n) - 1))) 0))) top)),(Int.tmod (aA .or .u64 (IntKind.wrap .u64 ((IntKind.wrap .u64 (abt.getD (0+(Int.toNat (j+n))) 0))*2 ^ 32)) (IntKind.wrap .u64 (abt.getD (0+(Int.toNat ((j+n) - 1))) 0))) top))))))))))) (e0 abt q))
def qM (N:Nat) (a b:LI) (ZH:Int) (d_2 abA:Nat) (d_3 aeg:LI) (k0:Kz5):Bool:=
 (ac .i64 (((abA:Nat):Int) - ((d_2:Nat):Int))&&(iF 4 (((abA:Nat):Int) - ((d_2:Nat):Int)) (((abA:Nat):Int) - ((d_2:Nat):Int))&&(ac .i64 (((d_2:Nat):Int) - 1)&&(inR (((d_2:Nat):Int) - 1) d_2&&(decide ((0+(Int.toNat (((d_2:Nat):Int) - 1)))<d_3.length)&&(ac .i64 ((((List.length (List.replicate (Int.toNat (((abA:Nat):Int) - ((d_2:Nat):Int))) (0:Int))):Nat):Int) - 1)&&af N (jS N ZH d_2 abA ((d_2:Nat):Int) (IntKind.wrap .u64 (d_3.getD (0+(Int.toNat (((d_2:Nat):Int) - 1))) 0)) d_3 (λack q_2=>qs N q_2 (λair=>decide (0<=((d_2:Nat):Int)/\((d_2:Nat):Int)<=((abA:Nat):Int))&&ub N 0 ((Int.toNat ((d_2:Nat):Int)) - 0) ack (λakq=>Pw N 0 akq ZH ack (λs6=>decide ((0+air)<=q_2.length)&&k0 (List.take air (List.drop 0 q_2)) s6))))) (((((List.length (List.replicate (Int.toNat (((abA:Nat):Int) - ((d_2:Nat):Int))) (0:Int))):Nat):Int) - 1),aeg,(List.replicate (Int.toNat (((abA:Nat):Int) - ((d_2:Nat):Int))) (0:Int)))))))))
def wZ (N:Nat) (a b:LI) (Zz:Int) (af0:Nat) (aeC:LI) (k0:Kz5):Bool:=
 (ac .i64 (((af0:Nat):Int) - 0)&&(iF 4 (((af0:Nat):Int) - 0) (((af0:Nat):Int) - 0)&&false))
def Nv (N:Nat) (a b:LI) (k0:Kz5):Bool:=
 (Ha N a b (λnr=>cond (decide (nr<0)) (decide ((List.length ([]++a))*4<=140737488355328)&&k0 [] ([]++a)) (cond (((b.length:Nat):Int)==1) (inR 0 b.length&&pG N a (b.getD 0 0) (λnsr Y_=>qs N [Y_] (λmr=>decide ((0+mr)<=(List.length [Y_]))&&k0 nsr (List.take mr (List.drop 0 [Y_]))))) (ac .i64 (((b.length:Nat):Int) - 1)&&(inR (((b.length:Nat):Int) - 1) b.length&&Vw N (b.getD (Int.toNat (((b.length:Nat):Int) - 1)) 0) (λZe=>PH N b (IntKind.wrap .u64 Ze) (PH N a (IntKind.wrap .u64 Ze) (af N (pT N a (IntKind.wrap .u64 Ze) (λu_2 u_3=>wZ N a b (IntKind.wrap .u64 Ze) u_2 u_3 k0)) (0,[])) (λZM Zd=>af N (pT N a (IntKind.wrap .u64 Ze) (λu_4 u_5=>wZ N a b (IntKind.wrap .u64 Ze) u_4 u_5 k0)) (ZM,Zd))) (λaak Y9=>PH N a (IntKind.wrap .u64 Ze) (af N (ut N a (IntKind.wrap .u64 Ze) aak Y9 (λu_8 u_9=>qM N a b (IntKind.wrap .u64 Ze) aak u_8 Y9 u_9 k0)) (0,[])) (λagj Zg=>af N (ut N a (IntKind.wrap .u64 Ze) aak Y9 (λabz abR=>qM N a b (IntKind.wrap .u64 Ze) aak abz Y9 abR k0)) (agj,Zg)))))))))
def yv (N:Nat):LI->LI->(Kz5)->Bool:=aw N (Nv N)
def lJ (N:Nat) (a_2 Za:LI) (Z7:Int) (e0:Kz0):(Int × Int × LI)->((Int × Int × LI)->Bool)->Bool:=λv_ K=>match v_ with
 | (carry,k_,Zm)=>(cond (decide (k_<((Za.length:Nat):Int))) (inR Z7 a_2.length&&(inR k_ Za.length&&(ac .i64 (Z7+k_)&&(inR (Z7+k_) Zm.length&&(decide ((Int.toNat (Z7+k_))<Zm.length)&&(ac .i64 (Z7+k_)&&(inR (Z7+k_) Zm.length&&(decide ((Int.toNat (Z7+k_))<Zm.length)&&(ac .i64 (k_+1)&&K ((Int.fdiv (IntKind.wrap .u64 ((IntKind.wrap .u64 ((IntKind.wrap .u64 ((IntKind.wrap .u64 (a_2.getD Z7.toNat 0))*(IntKind.wrap .u64 (Za.getD k_.toNat 0))))+(IntKind.wrap .u64 (Zm.getD (Int.toNat (Z7+k_)) 0))))+carry)) (2 ^ 32)),(k_+1),(Zm.set (Int.toNat (Z7+k_)) (IntKind.wrap .u32 (IntKind.wrap .u64 ((IntKind.wrap .u64 ((IntKind.wrap .u64 ((IntKind.wrap .u64 (a_2.getD Z7.toNat 0))*(IntKind.wrap .u64 (Za.getD k_.toNat 0))))+(IntKind.wrap .u64 (Zm.getD (Int.toNat (Z7+k_)) 0))))+carry)))))))))))))) (e0 carry Zm))
def lI (N:Nat) (Zy Y8:LI) (e0:LI->Bool):(Int × LI)->((Int × LI)->Bool)->Bool:=λv_ K=>match v_ with
 | (i,out)=>(cond (decide (i<((Zy.length:Nat):Int))) (af N (lJ N Zy Y8 i (λZQ aad=>ac .i64 (i+((Y8.length:Nat):Int))&&(inR (i+((Y8.length:Nat):Int)) aad.length&&(decide ((Int.toNat (i+((Y8.length:Nat):Int)))<aad.length)&&(ac .i64 (i+1)&&K ((i+1),(aad.set (Int.toNat (i+((Y8.length:Nat):Int))) (IntKind.wrap .u32 ZQ)))))))) (0,0,out)) (e0 out))
def S3 (N:Nat) (a b:LI) (k0:LI->Bool):Bool:=
 (ac .i64 (((a.length:Nat):Int)+((b.length:Nat):Int))&&(iF 4 (((a.length:Nat):Int)+((b.length:Nat):Int)) (((a.length:Nat):Int)+((b.length:Nat):Int))&&af N (lI N a b (λaaS=>qs N aaS (λmr=>decide ((0+mr)<=aaS.length)&&k0 (List.take mr (List.drop 0 aaS))))) (0,(List.replicate (Int.toNat (((a.length:Nat):Int)+((b.length:Nat):Int))) (0:Int)))))
def Aa (N:Nat):LI->LI->(LI->Bool)->Bool:=aw N (S3 N)
def lF (N:Nat) (Zy Y8:LI) (e0:LI->Bool):(Int × Int × LI)->((Int × Int × LI)->Bool)->Bool:=λv_ K=>match v_ with
 | (borrow,i,out)=>(cond (decide (i<((Zy.length:Nat):Int))) (cond (decide (i<((Y8.length:Nat):Int))) (inR i Y8.length&&(inR i Zy.length&&cond (decide ((IntKind.wrap .u64 (Zy.getD i.toNat 0))<(IntKind.wrap .u64 (borrow+(IntKind.wrap .u64 (Y8.getD i.toNat 0)))))) (inR i out.length&&(decide (i.toNat<out.length)&&(ac .i64 (i+1)&&K (1,(i+1),(out.set i.toNat (IntKind.wrap .u32 (IntKind.wrap .u64 ((IntKind.wrap .u64 ((IntKind.wrap .u64 (Zy.getD i.toNat 0))+4294967296)) - (IntKind.wrap .u64 (borrow+(IntKind.wrap .u64 (Y8.getD i.toNat 0)))))))))))) (inR i out.length&&(decide (i.toNat<out.length)&&(ac .i64 (i+1)&&K (0,(i+1),(out.set i.toNat (IntKind.wrap .u32 (IntKind.wrap .u64 ((IntKind.wrap .u64 (Zy.getD i.toNat 0)) - (IntKind.wrap .u64 (borrow+(IntKind.wrap .u64 (Y8.getD i.toNat 0)))))))))))))) (inR i Zy.length&&cond (decide ((IntKind.wrap .u64 (Zy.getD i.toNat 0))<borrow)) (inR i out.length&&(decide (i.toNat<out.length)&&(ac .i64 (i+1)&&K (1,(i+1),(out.set i.toNat (IntKind.wrap .u32 (IntKind.wrap .u64 ((IntKind.wrap .u64 ((IntKind.wrap .u64 (Zy.getD i.toNat 0))+4294967296)) - borrow)))))))) (inR i out.length&&(decide (i.toNat<out.length)&&(ac .i64 (i+1)&&K (0,(i+1),(out.set i.toNat (IntKind.wrap .u32 (IntKind.wrap .u64 ((IntKind.wrap .u64 (Zy.getD i.toNat 0)) - borrow)))))))))) (e0 out))
def sL (N:Nat) (a b:LI) (k0:LI->Bool):Bool:=
 (iF 4 ((a.length:Nat):Int) ((a.length:Nat):Int)&&af N (lF N a b (λZm=>qs N Zm (λmr=>decide ((0+mr)<=Zm.length)&&k0 (List.take mr (List.drop 0 Zm))))) (0,0,(List.replicate (Int.toNat ((a.length:Nat):Int)) (0:Int))))
def nh (N:Nat):LI->LI->(LI->Bool)->Bool:=aw N (sL N)
def Nq (N:Nat) (a:LI) (u:Int) (b:LI) (v:Int) (k0:LI->Bool):Bool:=
 (DK N u (λnsr=>Aa N a nsr (λY9=>DK N v (λZd=>Aa N b Zd (λZg=>nh N Y9 Zg (λZo=>k0 Zo))))))
def Kl (N:Nat):LI->Int->LI->Int->(LI->Bool)->Bool:=aw N (Nq N)
def uA (N:Nat) (a:LI) (u:Int) (b:LI) (v:Int) (k0:LI->Bool):Bool:=
 (cond (decide (v<=0)) (ac .i64 (0 - v)&&Kl N a (IntKind.wrap .u64 u) b (IntKind.wrap .u64 (0 - v)) (λnsr=>k0 nsr)) (ac .i64 (0 - u)&&Kl N b (IntKind.wrap .u64 v) a (IntKind.wrap .u64 (0 - u)) (λY9=>k0 Y9)))
def ot (N:Nat):LI->Int->LI->Int->(LI->Bool)->Bool:=aw N (uA N)
def B_ (N:Nat) (e0:Kz5):(LI × LI)->((LI × LI)->Bool)->Bool:=λv_ K=>match v_ with
 | (a_2,Za)=>(cond (decide (((Za.length:Nat):Int)>2)) (Mt N false a_2 (λY_=>ac .i64 (Y_ - 62)&&rC N a_2 (Y_ - 62) (λZe=>rC N Za (Y_ - 62) (λZt=>uc N Ze Zt (λZC n5 n6 n7=>cond (n5==0) (yv N a_2 Za (λnsr Y9=>K (Za,Y9))) (ot N a_2 ZC Za n5 (λZd=>ot N a_2 n6 Za n7 (λZg=>K (Zd,Zg))))))))) (e0 a_2 Za))
def yH (N:Nat) (e0:LI->Bool):(LI × LI)->((LI × LI)->Bool)->Bool:=λv_ K=>match v_ with
 | (a_4,Zl)=>(cond (decide (((Zl.length:Nat):Int)>0)) (yv N a_4 Zl (λZo Zn=>K (Zl,Zn))) (e0 a_4))
def Js (N:Nat) (a b Zy Y8:LI) (k0:LI->Bool):Bool:=
 (af N (B_ N (λa_3 Zf=>af N (yH N (λa_5=>decide ((List.length ([]++a_5))*4<=140737488355328)&&k0 ([]++a_5))) (a_3,Zf))) (Zy,Y8))
def Nb (N:Nat) (a b:LI) (k0:LI->Bool):Bool:=
 (Ha N a b (λnr=>cond (decide (nr<0)) (Js N a b b a k0) (Js N a b a b k0)))
def G4 (N:Nat):LI->LI->(LI->Bool)->Bool:=aw N (Nb N)
def KL (N:Nat) (neg:Bool) (a b:LI) (Y8 Za:Bool) (Zy Zf:LI) (k0:Kx6):Bool:=
 (G3 N neg Zy Y8 Za (λZE s12 s13=>G9 N false Zf ZE s12 Za s13 (λZX s14=>k0 ZE s12 ZX s14)))
def Nx (N:Nat) (neg:Bool) (a b:LI) (Y8 Za:Bool) (n:Int) (k0:Kx6):Bool:=
 (CK N a n (λZo=>CK N b n (λZn=>sQ0 N false Zn (λZe=>ac .i64 Ze&&Mt N false Zn (λZt=>ac .i64 (Zt - 1)&&cond (Ze != (Zt - 1)) (G4 N Zo Zn (λs6=>sm N (λs7=>Ha N s6 s7 (λZC=>cond (ZC != 0) (yv N Zo s6 (λs8 s9=>yv N Zn s6 (λs10 s11=>KL N neg a b Y8 Za s8 s10 k0))) (KL N neg a b Y8 Za Zo Zn k0))))) (KL N neg a b Y8 Za Zo Zn k0))))))
def Sq (N:Nat) (neg:Bool) (a b:LI) (Y8 Za:Bool) (k0:Kx6):Bool:=
 (cond (((a.length:Nat):Int)==0) (G3 N false [] Y8 Za (λcr nsr Y9=>sm N (λZd=>G9 N false Zd cr nsr Za Y9 (λZb Zg=>k0 cr nsr Zb Zg)))) (sQ0 N false a (λnr=>sQ0 N false b (λY_=>cond (decide (Y_<nr)) (Nx N neg a b Y8 Za Y_ k0) (Nx N neg a b Y8 Za nr k0)))))
def Mp (N:Nat):Bool->LI->LI->Bool->Bool->(Kx6)->Bool:=aw N (Sq N)
def V3 (N:Nat) (b Y8 Za:Bool) (Zf:LI) (k0:Kx6):Bool:=
 (sm N (λnsr=>Mp N Za Zf nsr b Y8 (λcr Y9 Zb Zd=>k0 cr Y9 Zb Zd)))
def Q6 (N:Nat):Bool->Bool->Bool->LI->(Kx6)->Bool:=V3 N
def je (N:Nat) (n:Int) (b:Bool) (u:Int) (k0:Ky5):Bool:=
 (DK N u (λnsr=>zB N (decide (n<0)) nsr b (λcr Y9=>k0 cr Y9)))
def MY (N:Nat) (n:Int) (b:Bool) (k0:Ky5):Bool:=
 (cond (decide (n<0)) (je N n b (IntKind.wrap .u64 (0 - (IntKind.wrap .u64 n))) k0) (je N n b (IntKind.wrap .u64 n) k0))
def R5 (N:Nat):Int->Bool->(Ky5)->Bool:=aw N (MY N)
def wW (N:Nat) (n:Int) (k0:Ky5):Bool:=
 (R5 N n false (λcr nsr=>k0 cr nsr))
def nY (N:Nat):Int->(Ky5)->Bool:=wW N
def V9 (N:Nat) (b Y8 Za:Bool) (Zf:LI) (Zl:Bool) (Zr:LI) (k0:Kx6):Bool:=
 (Mp N (Za != Zl) Zf Zr b Y8 (λcr nsr Zb Y9=>k0 cr nsr Zb Y9))
def WN (N:Nat):Bool->Bool->Bool->LI->Bool->LI->(Kx6)->Bool:=V9 N
def SU (N:Nat) (x:Int) (b:Bool) (Y8:LI) (k0:Kx6):Bool:=
 (cond (decide (x>=0)) (Vy N x 0 b Y8 (Q6 N false false b Y8 (λcr nsr Zb Y9=>k0 cr nsr Zb Y9)) (λZE Zd=>Q6 N false false ZE Zd (λZX Zg aaX Zo=>k0 ZX Zg aaX Zo))) (nY N 1 (λaed Zn=>ac .i64 (0 - x)&&Kf N (IntKind.wrap .u64 (0 - x)) false aed Zn (λaeS s6=>WN N false false b Y8 aeS s6 (λaeT s7 c8 s8=>k0 aeT s7 c8 s8)))))
def WR (N:Nat):Int->Bool->LI->(Kx6)->Bool:=aw N (SU N)
def yN (N:Nat) (x:Fl) (k0:Kx6):Bool:=
 (BV N x (λnr cr nsr=>WR N nr cr nsr (λZb Y9 ZE Zd=>k0 Zb Y9 ZE Zd)))
def uh (N:Nat):Fl->(Kx6)->Bool:=yN N
def lL (N:Nat) (aej:LF) (acw aeZ ae0 r_2 r_3:Int) (e0:List RY2->Bool):(Int × List RY2)->((Int × List RY2)->Bool)->Bool:=λv_ K=>match v_ with
 | (ag_,b2)=>(cond (decide (ag_<acw)) (inR ag_ aej.length&&uh N (aej.getD ag_.toNat none) (λZE Zd ZX Zg=>decide ((List.length b2+1)*8<=140737488355328)&&(ac .i64 (ag_+1)&&K ((ag_+1),(b2++[((ZE,Zd),(ZX,Zg))]))))) (e0 b2))
def sQ (N:Nat) (ZI Zc:Int) (Zp:LF) (k0:List RY2->Bool):Bool:=
 (af N (lL N Zp ((Zp.length:Nat):Int) 0 0 ZI Zc (λ(aaZ:List RY2)=>k0 aaZ)) (0,[]))
def ug (N:Nat):Int->Int->LF->(List RY2->Bool)->Bool:=aw N (sQ N)
def yQ (N:Nat) (ZI Zc:Int) (Zp:LF) (k0:List RY2->Bool):Bool:=
 (ug N ZI Zc Zp (λ(lr:List RY2)=>k0 lr))
def zF (N:Nat):Int->Int->LF->(List RY2->Bool)->Bool:=yQ N
def jZ (N:Nat) (agO ab4 ac_ ada Zp m_3:Int) (e0:List RY2->Bool):(Int × List RY2)->((Int × List RY2)->Bool)->Bool:=λv_ K=>match v_ with
 | (Z7,b2)=>(ac .i64 (agO*ab4)&&cond (decide (Z7<(agO*ab4))) (decide ((List.length b2+1)*8<=140737488355328)&&(ac .i64 (Z7+1)&&K ((Z7+1),(b2++[((false,[]),(false,[]))])))) (e0 b2))
def qI (N:Nat) (rows cols:Int) (k0:List RY2->Bool):Bool:=
 (af N (jZ N rows cols 0 0 rows cols (λ(aaZ:List RY2)=>k0 aaZ)) (0,[]))
def rF (N:Nat):Int->Int->(List RY2->Bool)->Bool:=aw N (qI N)
def MV (N:Nat) (r_0:Bool) (r_1:LI) (r_2:Bool) (r_3:LI) (k0:LI->Bool):Bool:=
 (cond (((r_3.length:Nat):Int)==0) (sm N (λnsr=>k0 nsr)) (k0 r_3))
def Pk (N:Nat):Bool->LI->Bool->LI->(LI->Bool)->Bool:=aw N (MV N)
def rR (N:Nat) (neg b:Bool) (Y8:LI) (Za:Bool) (Zf Zl:LI) (k0:Ky1):Bool:=
 (qs N Zl (λmr=>cond (neg==true) (k0 (decide (((mr:Nat):Int)>0)) 0 mr) (k0 false 0 mr)))
def sq (N:Nat):Bool->Bool->LI->Bool->LI->LI->(Ky1)->Bool:=rR N
def RE (N:Nat) (neg b:Bool) (Y8 Za:Nat) (Zf:Bool) (Zl Zr ZA:LI) (k0:Ky1):Bool:=
 (qs N Zr (λmr=>cond (neg==true) (k0 (decide (((mr:Nat):Int)>0)) 0 mr) (k0 false 0 mr)))
def R9 (N:Nat):Bool->Bool->Nat->Nat->Bool->LI->LI->LI->(Ky1)->Bool:=RE N
def SZ (N:Nat) (Z_:Bool) (Zs:LI) (Z2:Bool) (x_3:LI) (b:Bool) (Y8:LI) (Za:Bool) (Zf:LI) (k0:Kx6):Bool:=
 (decide ((List.length ([]++Zs))*4<=140737488355328)&&Pk N Z_ Zs Z2 x_3 (λnsr=>decide ((List.length ([]++nsr))*4<=140737488355328)&&sq N Z_ b Y8 Za Zf ([]++Zs) (λcr mr aak=>R9 N false cr mr aak Za Zf ([]++nsr) ([]++Zs) (λZb ZM agj=>decide ((mr+aak)<=(List.length ([]++Zs)))&&(decide ((ZM+agj)<=(List.length ([]++nsr)))&&k0 cr (List.take aak (List.drop mr ([]++Zs))) Zb (List.take agj (List.drop ZM ([]++nsr))))))))
def VG (N:Nat):Bool->LI->Bool->LI->Bool->LI->Bool->LI->(Kx6)->Bool:=aw N (SZ N)
def E9 (N:Nat) (t12 m m_3:Int) (m_4:List RY3) (t2 acs t t_1:Int) (e0:List RY2->Bool):(Int × List RY2)->((Int × List RY2)->Bool)->Bool:=λv_ K=>match v_ with
 | (t13,b3)=>(cond (decide (t13<t12)) (inR t13 b3.length&&(decide (t13.toNat<b3.length)&&(inR t13 m_4.length&&VG N (m_4.getD t13.toNat ((false,[]),(false,[]))).1.1 (m_4.getD t13.toNat ((false,[]),(false,[]))).1.2 (m_4.getD t13.toNat ((false,[]),(false,[]))).2.1 (m_4.getD t13.toNat ((false,[]),(false,[]))).2.2 (b3.getD t13.toNat ((false,[]),(false,[]))).1.1 (b3.getD t13.toNat ((false,[]),(false,[]))).1.2 (b3.getD t13.toNat ((false,[]),(false,[]))).2.1 (b3.getD t13.toNat ((false,[]),(false,[]))).2.2 (λcr nsr Zb Y9=>ac .i64 (t13+1)&&K ((t13+1),(b3.set t13.toNat ((cr,nsr),(Zb,Y9)))))))) (e0 b3))
def SY (N:Nat) (ZI Zc:Int) (Zp:List RY3) (k0:List RY2->Bool):Bool:=
 (rF N ZI Zc (λ(lr:List RY2)=>af N (E9 N ((Zp.length:Nat):Int) ZI Zc Zp 0 0 ZI Zc (λ(b2:List RY2)=>k0 b2)) (0,lr)))
def VF (N:Nat):Int->Int->List RY3->(List RY2->Bool)->Bool:=aw N (SY N)
def V7 (N:Nat) (ZI Zc i j:Int) (b:List RY2) (k0:Kz8):Bool:=
 (ac .i64 (i*Zc)&&(ac .i64 ((i*Zc)+j)&&(inR ((i*Zc)+j) b.length&&(decide ((Int.toNat ((i*Zc)+j))<b.length)&&k0 (Int.toNat ((i*Zc)+j))))))
def G7 (N:Nat):Int->Int->Int->Int->List RY2->(Kz8)->Bool:=V7 N
def xV (N:Nat) (z_0:Bool) (z_1:LI) (z_2:Bool) (z_3:LI) (k0:Kz7):Bool:=
 (cond (((z_1.length:Nat):Int)==0) (k0 0) (cond z_0 (k0 (-1)) (k0 1)))
def DN (N:Nat):Bool->LI->Bool->LI->(Kz7)->Bool:=aw N (xV N)
def Rx (N:Nat) (r_0:Bool) (r_1:LI) (r_2:Bool) (r_3:LI) (k0:Kz7):Bool:=
 (DN N r_0 r_1 r_2 r_3 (λnr=>k0 nr))
def G2 (N:Nat):Bool->LI->Bool->LI->(Kz7)->Bool:=Rx N
def GQ4 (N:Nat) (b:Bool) (Y8:LI) (Za:Bool) (Zf:LI) (k0:LI->Bool):Bool:=
 (cond (((Zf.length:Nat):Int)==0) (sm N (λnsr=>k0 nsr)) (k0 Zf))
def sQ4 (N:Nat):Bool->LI->Bool->LI->(LI->Bool)->Bool:=aw N (GQ4 N)
def So (N:Nat) (b Y8 Za:Bool) (Zf:LI) (Zl:Bool) (Zr:LI) (ZA:Bool) (Zx:LI) (ZF:Bool) (ZL:LI) (k0:Kx6):Bool:=
 (sQ4 N ZA Zx ZF ZL (λnsr=>Aa N Zf nsr (λY9=>sQ4 N Za Zf Zl Zr (λZd=>Aa N Zd Zx (λZg=>Mp N (Za != ZA) Y9 Zg b Y8 (λcr Zo Zb Zn=>k0 cr Zo Zb Zn))))))
def Vr (N:Nat):Bool->Bool->Bool->LI->Bool->LI->Bool->LI->Bool->LI->(Kx6)->Bool:=aw N (So N)
def Sn (N:Nat) (b Y8 Za:Bool) (Zf:LI) (Zl:Bool) (Zr:LI) (ZA:Bool) (Zx:LI) (ZF:Bool) (ZL:LI) (k0:Kx6):Bool:=
 (Aa N Zf Zx (λnsr=>sQ4 N Za Zf Zl Zr (λY9=>sQ4 N ZA Zx ZF ZL (λZd=>Aa N Y9 Zd (λZg=>Mp N (Za != ZA) nsr Zg b Y8 (λcr Zo Zb Zn=>k0 cr Zo Zb Zn))))))
def Vq (N:Nat):Bool->Bool->Bool->LI->Bool->LI->Bool->LI->Bool->LI->(Kx6)->Bool:=aw N (Sn N)
def SS (N:Nat) (b:Bool) (Y8:LI) (Za:Bool) (Zf:LI) (Zl:Bool) (Zr:LI) (ZA:Bool) (Zx:LI) (k0:Kz5):Bool:=
 (sQ4 N Zl Zr ZA Zx (λnsr=>Aa N Y8 nsr (λY9=>sQ4 N b Y8 Za Zf (λZd=>Aa N Zr Zd (λZg=>k0 Y9 Zg)))))
def WQ (N:Nat):Bool->LI->Bool->LI->Bool->LI->Bool->LI->(Kz5)->Bool:=aw N (SS N)
def gf (N:Nat) (Zy Y8:LI) (e0:Kz0):(Int × Int × LI)->((Int × Int × LI)->Bool)->Bool:=λv_ K=>match v_ with
 | (carry,i,out)=>(cond (decide (i<((Zy.length:Nat):Int))) (inR i Zy.length&&cond (decide (i<((Y8.length:Nat):Int))) (inR i Y8.length&&(inR i out.length&&(decide (i.toNat<out.length)&&(ac .i64 (i+1)&&K ((Int.fdiv (IntKind.wrap .u64 ((IntKind.wrap .u64 ((IntKind.wrap .u64 (Zy.getD i.toNat 0))+carry))+(IntKind.wrap .u64 (Y8.getD i.toNat 0)))) (2 ^ 32)),(i+1),(out.set i.toNat (IntKind.wrap .u32 (IntKind.wrap .u64 ((IntKind.wrap .u64 ((IntKind.wrap .u64 (Zy.getD i.toNat 0))+carry))+(IntKind.wrap .u64 (Y8.getD i.toNat 0))))))))))) (inR i out.length&&(decide (i.toNat<out.length)&&(ac .i64 (i+1)&&K ((Int.fdiv (IntKind.wrap .u64 ((IntKind.wrap .u64 (Zy.getD i.toNat 0))+carry)) (2 ^ 32)),(i+1),(out.set i.toNat (IntKind.wrap .u32 (IntKind.wrap .u64 ((IntKind.wrap .u64 (Zy.getD i.toNat 0))+carry))))))))) (e0 carry out))
def vR (N:Nat) (a b:LI) (k0:LI->Bool):Bool:=
 (cond (decide (((a.length:Nat):Int)<((b.length:Nat):Int))) (ac .i64 (((b.length:Nat):Int)+1)&&(iF 4 (((b.length:Nat):Int)+1) (((b.length:Nat):Int)+1)&&af N (gf N b a (λZQ Zm=>inR ((b.length:Nat):Int) Zm.length&&(decide ((Int.toNat ((b.length:Nat):Int))<Zm.length)&&qs N (Zm.set (Int.toNat ((b.length:Nat):Int)) (IntKind.wrap .u32 ZQ)) (λmr=>decide ((0+mr)<=(List.length (Zm.set (Int.toNat ((b.length:Nat):Int)) (IntKind.wrap .u32 ZQ))))&&k0 (List.take mr (List.drop 0 (Zm.set (Int.toNat ((b.length:Nat):Int)) (IntKind.wrap .u32 ZQ)))))))) (0,0,(List.replicate (Int.toNat (((b.length:Nat):Int)+1)) (0:Int))))) (ac .i64 (((a.length:Nat):Int)+1)&&(iF 4 (((a.length:Nat):Int)+1) (((a.length:Nat):Int)+1)&&af N (gf N a b (λaaW aad=>inR ((a.length:Nat):Int) aad.length&&(decide ((Int.toNat ((a.length:Nat):Int))<aad.length)&&qs N (aad.set (Int.toNat ((a.length:Nat):Int)) (IntKind.wrap .u32 aaW)) (λaak=>decide ((0+aak)<=(List.length (aad.set (Int.toNat ((a.length:Nat):Int)) (IntKind.wrap .u32 aaW))))&&k0 (List.take aak (List.drop 0 (aad.set (Int.toNat ((a.length:Nat):Int)) (IntKind.wrap .u32 aaW)))))))) (0,0,(List.replicate (Int.toNat (((a.length:Nat):Int)+1)) (0:Int))))))
def wK (N:Nat):LI->LI->(LI->Bool)->Bool:=aw N (vR N)
def S1 (N:Nat) (turn b Y8:Bool) (Za:LI) (Zf:Bool) (Zl:LI) (k0:Ky5):Bool:=
 (cond (Y8==(Zf != turn)) (wK N Za Zl (λnsr=>zB N (Zf != turn) nsr b (λcr Y9=>k0 cr Y9))) (Ha N Za Zl (λnr=>cond (decide (nr>=0)) (nh N Za Zl (λZd=>zB N Y8 Zd b (λZb Zg=>k0 Zb Zg))) (nh N Zl Za (λZo=>zB N (Zf != turn) Zo b (λZE Zn=>k0 ZE Zn))))))
def VH (N:Nat):Bool->Bool->Bool->LI->Bool->LI->(Ky5)->Bool:=aw N (S1 N)
def Rt (N:Nat) (b Y8:Bool) (Za:LI) (Zf:Bool) (Zl:LI) (k0:Ky5):Bool:=
 (VH N true b Y8 Za Zf Zl (λcr nsr=>k0 cr nsr))
def Pi (N:Nat):Bool->Bool->LI->Bool->LI->(Ky5)->Bool:=Rt N
def S7 (N:Nat) (neg:Bool) (m:LI) (b:Bool) (Y8:LI) (Za:Bool) (Zf:LI) (k0:Ky5):Bool:=
 (mA N m (λnsr=>cond (neg==true) (k0 (decide (((nsr.length:Nat):Int)>0)) nsr) (k0 false nsr)))
def PI (N:Nat):Bool->LI->Bool->LI->Bool->LI->(Ky5)->Bool:=S7 N
def KM (N:Nat) (neg:Bool) (a b:LI) (Y8:Bool) (Za:LI) (Zf:Bool) (Zl Zy Zr:LI) (k0:Kx6):Bool:=
 (PI N neg Zy Y8 Za Zf Zl (λZE s11=>G9 N false Zr ZE s11 Zf Zl (λZX s12=>k0 ZE s11 ZX s12)))
def Ny (N:Nat) (neg:Bool) (a b:LI) (Y8:Bool) (Za:LI) (Zf:Bool) (Zl:LI) (n:Int) (k0:Kx6):Bool:=
 (CK N a n (λZg=>CK N b n (λZo=>sQ0 N false Zo (λZe=>ac .i64 Ze&&Mt N false Zo (λZt=>ac .i64 (Zt - 1)&&cond (Ze != (Zt - 1)) (G4 N Zg Zo (λZn=>sm N (λs6=>Ha N Zn s6 (λZC=>cond (ZC != 0) (yv N Zg Zn (λs7 s8=>yv N Zo Zn (λs9 s10=>KM N neg a b Y8 Za Zf Zl s7 s9 k0))) (KM N neg a b Y8 Za Zf Zl Zg Zo k0))))) (KM N neg a b Y8 Za Zf Zl Zg Zo k0))))))
def SM (N:Nat) (neg:Bool) (a b:LI) (Y8:Bool) (Za:LI) (Zf:Bool) (Zl:LI) (k0:Kx6):Bool:=
 (cond (((a.length:Nat):Int)==0) (PI N false [] Y8 Za Zf Zl (λcr nsr=>sm N (λY9=>G9 N false Y9 cr nsr Zf Zl (λZb Zd=>k0 cr nsr Zb Zd)))) (sQ0 N false a (λnr=>sQ0 N false b (λY_=>cond (decide (Y_<nr)) (Ny N neg a b Y8 Za Zf Zl Y_ k0) (Ny N neg a b Y8 Za Zf Zl nr k0)))))
def Vz (N:Nat):Bool->LI->LI->Bool->LI->Bool->LI->(Kx6)->Bool:=aw N (SM N)
def Ss (N:Nat) (b:Bool) (Y8:LI) (Za:Bool) (Zf:LI) (Zl:Bool) (Zr:LI) (ZA:Bool) (Zx:LI) (k0:Kx6):Bool:=
 (WQ N b Y8 Za Zf Zl Zr ZA Zx (λnsr Y9=>sQ4 N b Y8 Za Zf (λZd=>sQ4 N Zl Zr ZA Zx (λZg=>Aa N Zd Zg (λZo=>Pi N false b nsr Zl Y9 (λcr Zn=>Vz N cr Zn Zo b Y8 Za Zf (λZb s6 ZE s7=>k0 Zb s6 ZE s7)))))))
def Vs (N:Nat):Bool->LI->Bool->LI->Bool->LI->Bool->LI->(Kx6)->Bool:=aw N (Ss N)
def E5 (N:Nat) (Z7 ahD:Int) (r:Bool) (r_1:LI) (r_2:Bool) (r_3:LI) (m Zp:Int) (e0:List RY2->Bool):(Int × List RY2)->((Int × List RY2)->Bool)->Bool:=λv_ K=>match v_ with
 | (j,b0)=>(cond (decide (j<Zp)) (G7 N m Zp Z7 j b0 (λmr=>G7 N m Zp Z7 j b0 (λaak=>G7 N m Zp ahD j b0 (λZM=>Vq N false false r r_1 r_2 r_3 (b0.getD ZM ((false,[]),(false,[]))).1.1 (b0.getD ZM ((false,[]),(false,[]))).1.2 (b0.getD ZM ((false,[]),(false,[]))).2.1 (b0.getD ZM ((false,[]),(false,[]))).2.2 (λcr nsr Zb Y9=>decide (aak=mr)&&Vs N (List.getD (b0.set ZM (((b0.getD ZM ((false,[]),(false,[]))).1.1,(b0.getD ZM ((false,[]),(false,[]))).1.2),((b0.getD ZM ((false,[]),(false,[]))).2.1,(b0.getD ZM ((false,[]),(false,[]))).2.2))) mr ((false,[]),(false,[]))).1.1 (List.getD (b0.set ZM (((b0.getD ZM ((false,[]),(false,[]))).1.1,(b0.getD ZM ((false,[]),(false,[]))).1.2),((b0.getD ZM ((false,[]),(false,[]))).2.1,(b0.getD ZM ((false,[]),(false,[]))).2.2))) mr ((false,[]),(false,[]))).1.2 (List.getD (b0.set ZM (((b0.getD ZM ((false,[]),(false,[]))).1.1,(b0.getD ZM ((false,[]),(false,[]))).1.2),((b0.getD ZM ((false,[]),(false,[]))).2.1,(b0.getD ZM ((false,[]),(false,[]))).2.2))) mr ((false,[]),(false,[]))).2.1 (List.getD (b0.set ZM (((b0.getD ZM ((false,[]),(false,[]))).1.1,(b0.getD ZM ((false,[]),(false,[]))).1.2),((b0.getD ZM ((false,[]),(false,[]))).2.1,(b0.getD ZM ((false,[]),(false,[]))).2.2))) mr ((false,[]),(false,[]))).2.2 cr nsr Zb Y9 (λZE Zd ZX Zg=>ac .i64 (j+1)&&K ((j+1),(List.set (b0.set ZM (((b0.getD ZM ((false,[]),(false,[]))).1.1,(b0.getD ZM ((false,[]),(false,[]))).1.2),((b0.getD ZM ((false,[]),(false,[]))).2.1,(b0.getD ZM ((false,[]),(false,[]))).2.2))) mr ((ZE,Zd),(ZX,Zg)))))))))) (e0 b0))
def Sy (N:Nat) (ZI Zc i k_:Int) (b:List RY2) (Y8:Bool) (Za:LI) (Zf:Bool) (Zl:LI) (k0:List RY2->Bool):Bool:=
 (af N (E5 N i k_ Y8 Za Zf Zl ZI Zc (λ(acW:List RY2)=>k0 acW)) (0,b))
def Vu (N:Nat):Int->Int->Int->Int->List RY2->Bool->LI->Bool->LI->(List RY2->Bool)->Bool:=aw N (Sy N)
def Ce (N:Nat) (c_1 a_2 a_3:Int) (aex:List RY2) (e0:Kz7) (e1:Bool):(Int)->((Int)->Bool)->Bool:=λv_ K=>match v_ with
 | j=>(cond (decide (j<a_3)) (G7 N a_2 a_3 c_1 j aex (λaak=>G2 N (aex.getD aak ((false,[]),(false,[]))).1.1 (aex.getD aak ((false,[]),(false,[]))).1.2 (aex.getD aak ((false,[]),(false,[]))).2.1 (aex.getD aak ((false,[]),(false,[]))).2.2 (λZe=>cond (Ze != 0) (e0 1) (ac .i64 (j+1)&&K (j+1))))) e1)
def Cb (N:Nat) (ahJ c_2:Int) (d:Nat) (a_4 a_5:Int) (e0:List RY2->Bool):(Int × List RY2)->((Int × List RY2)->Bool)->Bool:=λv_ K=>match v_ with
 | (i,Z6)=>(cond (decide (i<a_4)) (G7 N a_4 a_5 i c_2 Z6 (λZM=>((!decide (d=ZM))&&true)&&Vr N false false (Z6.getD ZM ((false,[]),(false,[]))).1.1 (Z6.getD ZM ((false,[]),(false,[]))).1.2 (Z6.getD ZM ((false,[]),(false,[]))).2.1 (Z6.getD ZM ((false,[]),(false,[]))).2.2 (Z6.getD d ((false,[]),(false,[]))).1.1 (Z6.getD d ((false,[]),(false,[]))).1.2 (Z6.getD d ((false,[]),(false,[]))).2.1 (Z6.getD d ((false,[]),(false,[]))).2.2 (λcr nsr Zb Y9=>Vu N a_4 a_5 i c_2 (List.set (Z6.set d (((Z6.getD d ((false,[]),(false,[]))).1.1,(Z6.getD d ((false,[]),(false,[]))).1.2),((Z6.getD d ((false,[]),(false,[]))).2.1,(Z6.getD d ((false,[]),(false,[]))).2.2))) ZM (((Z6.getD ZM ((false,[]),(false,[]))).1.1,(Z6.getD ZM ((false,[]),(false,[]))).1.2),((Z6.getD ZM ((false,[]),(false,[]))).2.1,(Z6.getD ZM ((false,[]),(false,[]))).2.2))) cr nsr Zb Y9 (λ(ajU:List RY2)=>ac .i64 (i+1)&&K ((i+1),ajU))))) (e0 Z6))
def Cd (N:Nat) (a Zy:Int) (e0:Kz7) (e1:Kz7):(Int × Int × List RY2)->((Int × Int × List RY2)->Bool)->Bool:=λv_ K=>match v_ with
 | (sign,c,b1)=>(cond (decide (c<a)) (G7 N a Zy c c b1 (λmr=>G2 N (b1.getD mr ((false,[]),(false,[]))).1.1 (b1.getD mr ((false,[]),(false,[]))).1.2 (b1.getD mr ((false,[]),(false,[]))).2.1 (b1.getD mr ((false,[]),(false,[]))).2.2 (λnr=>cond (decide (nr<0)) (e0 1) (G2 N (b1.getD mr ((false,[]),(false,[]))).1.1 (b1.getD mr ((false,[]),(false,[]))).1.2 (b1.getD mr ((false,[]),(false,[]))).2.1 (b1.getD mr ((false,[]),(false,[]))).2.2 (λY_=>cond (Y_==0) (ac .i64 (c+1)&&af N (Ce N c a Zy b1 (λt2=>e0 t2) (ac .i64 (c+1)&&K (2,(c+1),b1))) (c+1)) (ac .i64 (c+1)&&af N (Cb N sign c mr a Zy (λ(acX:List RY2)=>ac .i64 (c+1)&&K (sign,(c+1),acX))) ((c+1),b1))))))) (e1 sign))
def M4 (N:Nat) (ZI Zc:Int) (Zp:List RY3) (k0:Kz7):Bool:=
 (VF N ZI Zc Zp (λ(lr:List RY2)=>af N (Cd N ZI Zc (λacs=>k0 acs) (λajr=>k0 ajr)) (3,0,lr)))
def R6 (N:Nat):Int->Int->List RY3->(Kz7)->Bool:=aw N (M4 N)
def RB (N:Nat) (ZI Zc:Int) (Zp:LF) (k0:Kz6):Bool:=
 (zF N ZI Zc Zp (λ(lr:List RY2)=>R6 N ZI Zc lr (λnr=>k0 (nr==3))))
def Kj (N:Nat):Int->Int->LF->(Kz6)->Bool:=RB N
def sU (N:Nat) (ZT:LF) (Zw Zz:Int) (ZH:LF) (k0:Kz7):Bool:=
 (zG N ZT Zw Zz ZH (λnr=>cond (nr != 0) (k0 nr) (Kj N Zw Zz ZH (λcr=>cond (!cr) (k0 151) (k0 0)))))
def pI (N:Nat):LF->Int->Int->LF->(Kz7)->Bool:=aw N (sU N)
def vX (N:Nat) (kind:Int) (k0:Kz7):Bool:=
 (cond (kind==0) (k0 1) (cond (kind==1) (k0 1) (cond (kind==4) (k0 1) (cond (kind==2) (k0 2) (cond (kind==3) (k0 3) (k0 0))))))
def kd (N:Nat):Int->(Kz7)->Bool:=aw N (vX N)
def KG (N:Nat) (f:Fl) (k0:Kz6):Bool:=
 (k0 (!feq f f))
def Mu (N:Nat):Fl->(Kz6)->Bool:=KG N
def Ct (N:Nat) (x:Fl) (k0:Kz2):Bool:=
 (vh N x (λxr=>cond (flt xr (some 4503599627370496)) (k0 (ay x (some 4841369599423283200)) (-52)) (k0 x 0)))
def CN (N:Nat):Fl->(Kz2)->Bool:=Ct N
def DW (N:Nat) (f sign:Fl) (k0:Kz9):Bool:=
 (tY N f (λnr=>tY N sign (λY_=>xz N (aA .or .u64 (aA .andNot .u64 nr 9223372036854775808) (aA .and .u64 Y_ 9223372036854775808)) (λxr=>k0 xr))))
def ES (N:Nat):Fl->Fl->(Kz9)->Bool:=DW N
def CY (N:Nat) (sign v:Int) (k0:Kz9):Bool:=
 (xz N v (λxr=>k0 xr))
def Jp (N:Nat) (sign:Int) (k0:Kz9):Bool:=
 (cond (decide (sign>=0)) (CY N sign 9218868437227405312 k0) (CY N sign 18442240474082181120 k0))
def Ko (N:Nat):Int->(Kz9)->Bool:=aw N (Jp N)
def yT (N:Nat) (frac:Fl) (exp ai3 x:Int) (m:Fl) (k0:Kz9):Bool:=
 (ac .i64 (ai3+1023)&&xz N (aA .or .u64 (aA .andNot .u64 x 9218868437227405312) (IntKind.wrap .u64 ((IntKind.wrap .u64 (ai3+1023))*2 ^ 52))) (λahb=>k0 (ay m ahb)))
def CT (N:Nat) (frac:Fl) (exp:Int) (k0:Kz9):Bool:=
 (cond (feq frac (some 0)) (k0 frac) (vK N frac 0 (λcr=>cond (cr==false) (Mu N frac (λZb=>cond Zb (k0 frac) (CN N frac (λxr nr=>ac .i64 (exp+nr)&&tY N xr (λY_=>ac .i64 (Int.fdiv Y_ (2 ^ 52))&&(ac .i64 ((aA .and .i64 (Int.fdiv Y_ (2 ^ 52)) 2047) - 1023)&&(ac .i64 ((exp+nr)+((aA .and .i64 (Int.fdiv Y_ (2 ^ 52)) 2047) - 1023))&&cond (decide (((exp+nr)+((aA .and .i64 (Int.fdiv Y_ (2 ^ 52)) 2047) - 1023))<(-1075))) (ES N (some 0) xr (λZ5=>k0 Z5)) (cond (decide (((exp+nr)+((aA .and .i64 (Int.fdiv Y_ (2 ^ 52)) 2047) - 1023))>1023)) (cond (flt xr (some 0)) (Ko N (-1) (λaaR=>k0 aaR)) (Ko N 1 (λabC=>k0 abC))) (cond (decide (((exp+nr)+((aA .and .i64 (Int.fdiv Y_ (2 ^ 52)) 2047) - 1023))<(-1022))) (ac .i64 (((exp+nr)+((aA .and .i64 (Int.fdiv Y_ (2 ^ 52)) 2047) - 1023))+53)&&yT N frac exp (((exp+nr)+((aA .and .i64 (Int.fdiv Y_ (2 ^ 52)) 2047) - 1023))+53) Y_ (some 4368491638549381120) k0) (yT N frac exp ((exp+nr)+((aA .and .i64 (Int.fdiv Y_ (2 ^ 52)) 2047) - 1023)) Y_ (some 4607182418800017408) k0)))))))))) (k0 frac))))
def Mv (N:Nat):Fl->Int->(Kz9)->Bool:=aw N (CT N)
def KH (N:Nat) (frac:Fl) (exp:Int) (k0:Kz9):Bool:=
 (Mv N frac exp (λxr=>k0 xr))
def DL (N:Nat):Fl->Int->(Kz9)->Bool:=KH N
def yR (N:Nat) (x:Fl) (k0:Kz6):Bool:=
 (cond ((fge x (some 0))==true) (DL N (some 4607182418800017408) 100 (λxr=>k0 (fle x xr))) (k0 false))
def kt (N:Nat):Fl->(Kz6)->Bool:=yR N
def Ff (N:Nat) (is:Bool) (e:Int) (k0:Kz7):Bool:=
 (cond is (k0 e) (k0 0))
def BW (N:Nat):Bool->Int->(Kz7)->Bool:=Ff N
def uu (N:Nat) (Zc:List RY0) (e0:Kz7) (e1:Kz7):(Int × Int)->((Int × Int)->Bool)->Bool:=λv_ K=>match v_ with
 | (n,i)=>(cond (decide (i<((Zc.length:Nat):Int))) (inR i Zc.length&&kd N (Zc.getD i.toNat (0,(0,(none,none)))).1 (λnr=>cond (nr==0) (e0 140) (cond ((decide ((Zc.getD i.toNat (0,(0,(none,none)))).2.1<1))==false) (cond (decide ((Zc.getD i.toNat (0,(0,(none,none)))).2.1>12)) (e0 1) (G8 N [(Zc.getD i.toNat (0,(0,(none,none)))).2.2.1,(Zc.getD i.toNat (0,(0,(none,none)))).2.2.2] (λcr=>cond (!cr) (e0 4) (kt N (Zc.getD i.toNat (0,(0,(none,none)))).2.2.1 (λZb=>cond ((!Zb)==false) (kt N (Zc.getD i.toNat (0,(0,(none,none)))).2.2.2 (λZE=>cond (!ZE) (e0 141) (kd N (Zc.getD i.toNat (0,(0,(none,none)))).1 (λY_=>ac .i64 ((Zc.getD i.toNat (0,(0,(none,none)))).2.1*Y_)&&(ac .i64 (n+((Zc.getD i.toNat (0,(0,(none,none)))).2.1*Y_))&&(ac .i64 (i+1)&&K ((imm false (n+((Zc.getD i.toNat (0,(0,(none,none)))).2.1*Y_)) 13),(i+1)))))))) (e0 141)))))) (e0 1)))) (e1 n))
def sT (N:Nat) (m:List RY0) (k0:Kz7):Bool:=
 (cond (((m.length:Nat):Int)==0) (k0 1) (af N (uu N m (λt2=>k0 t2) (λZY=>BW N (decide (ZY>12)) 2 (λZe=>k0 Ze))) (0,0)))
def um (N:Nat):List RY0->(Kz7)->Bool:=aw N (sT N)
def oa (N:Nat) (Zc:List RY0) (e0:Kz7):(Int × Int)->((Int × Int)->Bool)->Bool:=λv_ K=>match v_ with
 | (n,i)=>(cond (decide (i<((Zc.length:Nat):Int))) (inR i Zc.length&&(inR i Zc.length&&kd N (Zc.getD i.toNat (0,(0,(none,none)))).1 (λY_=>ac .i64 ((Zc.getD i.toNat (0,(0,(none,none)))).2.1*Y_)&&(ac .i64 (n+((Zc.getD i.toNat (0,(0,(none,none)))).2.1*Y_))&&(ac .i64 (i+1)&&K ((n+((Zc.getD i.toNat (0,(0,(none,none)))).2.1*Y_)),(i+1))))))) (e0 n))
def xU (N:Nat) (m:List RY0) (k0:Ky6):Bool:=
 (um N m (λnr=>cond (nr != 0) (k0 0 nr) (af N (oa N m (λZY=>k0 ZY 0)) (0,0))))
def yC (N:Nat):List RY0->(Ky6)->Bool:=aw N (xU N)
def Nk (N:Nat) (ticks:Int) (k0:Kz2):Bool:=
 (cond ((decide (ticks<(-1125899906842624)))==false) (cond (decide (ticks>1125899906842624)) (k0 (some 0) 1) (k0 (fdiv (some (FloatKind.nearest .f64 ticks)) (some 4696837146684686336)) 0)) (k0 (some 0) 1))
def Px (N:Nat):Int->(Kz2)->Bool:=aw N (Nk N)
def CW (N:Nat) (rows cols:Int) (k0:LF->Bool):Bool:=
 (ac .i64 (rows*cols)&&(iF 8 (rows*cols) (rows*cols)&&k0 (List.replicate (Int.toNat (rows*cols)) (some 0))))
def DM (N:Nat):Int->Int->(LF->Bool)->Bool:=CW N
def vW (N:Nat) (p_0 p_1:Int) (Z4 p_3 d:Fl) (k0:LF->Bool):Bool:=
 (cond (p_0==2) (k0 [(some 4607182418800017408),d,(some 0),(some 4607182418800017408)]) (cond (p_0==3) (k0 [(some 4607182418800017408),d,(fdiv (ay d d) (some 4611686018427387904)),(some 0),(some 4607182418800017408),d,(some 0),(some 0),(some 4607182418800017408)]) (cond (p_0==4) (k0 [(fdiv (some 4607182418800017408) (cV (some 4607182418800017408) (ay p_3 d)))]) (k0 [(some 4607182418800017408)]))))
def BZ (N:Nat):Int->Int->Fl->Fl->Fl->(LF->Bool)->Bool:=aw N (vW N)
def qL (N:Nat) (p_0 p_1:Int) (Z4 p_3 d:Fl) (k0:LF->Bool):Bool:=
 (cond (p_0==0) (k0 [(some 0)]) (cond (p_0==2) (k0 [(fdiv (ay (ay (ay Z4 d) d) d) (some 4613937818241073152)),(fdiv (ay (ay Z4 d) d) (some 4611686018427387904)),(fdiv (ay (ay Z4 d) d) (some 4611686018427387904)),(ay Z4 d)]) (cond (p_0==3) (k0 [(fdiv (ay (ay (ay (ay (ay Z4 d) d) d) d) d) (some 4626322717216342016)),(fdiv (ay (ay (ay (ay Z4 d) d) d) d) (some 4620693217682128896)),(fdiv (ay (ay (ay Z4 d) d) d) (some 4618441417868443648)),(fdiv (ay (ay (ay (ay Z4 d) d) d) d) (some 4620693217682128896)),(fdiv (ay (ay (ay Z4 d) d) d) (some 4613937818241073152)),(fdiv (ay (ay Z4 d) d) (some 4611686018427387904)),(fdiv (ay (ay (ay Z4 d) d) d) (some 4618441417868443648)),(fdiv (ay (ay Z4 d) d) (some 4611686018427387904)),(ay Z4 d)]) (k0 [(ay Z4 d)]))))
def xF (N:Nat):Int->Int->Fl->Fl->Fl->(LF->Bool)->Bool:=aw N (qL N)
abbrev HC:=Fl->(Kz9)->Bool
def Pt (N:Nat):HC:=λx k=>k (JJ x)
def Nw (N:Nat) (x:Fl) (k0:Kz9):Bool:=
 (Pt N x (λxr=>k0 xr))
def xE (N:Nat):Fl->(Kz9)->Bool:=Nw N
def Az (N:Nat) (p_0 p_1:Int) (Z4 p_3 d:Fl) (k0:LF->Bool):Bool:=
 (xE N (ay Z4 d) (λxr=>cond (p_0==0) (k0 [(some 0)]) (cond (p_0==2) (xE N (some 4613937818241073152) (λZ5=>k0 [(fdiv (ay xr d) Z5),(some 0),(fdiv (ay xr Z5) (some 4611686018427387904)),(fdiv xr (some 4611686018427387904))])) (cond (p_0==3) (xE N (some 4626322717216342016) (λaaR=>xE N (some 4631952216750555136) (λabC=>k0 [(fdiv (ay (ay xr d) d) aaR),(some 0),(some 0),(fdiv (ay (ay xr d) aaR) (some 4620693217682128896)),(fdiv (ay xr d) abC),(some 0),(fdiv (ay xr aaR) (some 4618441417868443648)),(fdiv (ay xr abC) (some 4622945017495814144)),(fdiv xr (some 4613937818241073152))]))) (k0 [xr])))))
def I9 (N:Nat):Int->Int->Fl->Fl->Fl->(LF->Bool)->Bool:=aw N (Az N)
def Jl (N:Nat) (p_0 p_1:Int) (Z4 p_3 d:Fl) (what:Int) (k0:LF->Bool):Bool:=
 (cond (what==0) (BZ N p_0 p_1 Z4 p_3 d (λxsr=>k0 xsr)) (cond (what==1) (xF N p_0 p_1 Z4 p_3 d (λZD=>k0 ZD)) (I9 N p_0 p_1 Z4 p_3 d (λZZ=>k0 ZZ))))
def zA (N:Nat):Int->Int->Fl->Fl->Fl->Int->(LF->Bool)->Bool:=aw N (Jl N)
def yO (N:Nat) (ZI Zc i j:Int) (x:Fl) (b:LF) (k0:LF->Bool):Bool:=
 (ac .i64 (i*Zc)&&(ac .i64 ((i*Zc)+j)&&(inR ((i*Zc)+j) b.length&&(decide ((Int.toNat ((i*Zc)+j))<b.length)&&k0 (b.set (Int.toNat ((i*Zc)+j)) x)))))
def uj (N:Nat):Int->Int->Int->Int->Fl->LF->(LF->Bool)->Bool:=yO N
def Ax (N:Nat) (ZI Zc:Int) (Zp:LF) (k0:Ky2) (k1:Kz7):Bool:=
 (G8 N Zp (λcr=>cond (!cr) (k0 0 0 5) (k1 0)))
def BX (N:Nat):Int->Int->LF->(Ky2)->(Kz7)->Bool:=Ax N
def gc (N:Nat) (ahL:Int) (d_3:Fl) (aaM i_3 Zz a_2 r_1:Int) (m_4:List RY0) (aaI aaJ aa_ aba p_8 p_9:Int) (ajl ajm:Fl) (Za:LF) (e0:LF->Bool):(Int × LF)->((Int × LF)->Bool)->Bool:=λv_ K=>match v_ with
 | (c,ab3)=>(cond (decide (c<Zz)) (ac .i64 (aaM+r_1)&&(ac .i64 (aaM+c)&&(ac .i64 (r_1*Zz)&&(ac .i64 ((r_1*Zz)+c)&&(inR ((r_1*Zz)+c) Za.length&&(decide ((Int.toNat ((r_1*Zz)+c))<Za.length)&&uj N aa_ aba (aaM+r_1) (aaM+c) (Za.getD (Int.toNat ((r_1*Zz)+c)) none) ab3 (λZZ=>ac .i64 (c+1)&&K ((c+1),ZZ)))))))) (e0 ab3))
def gb (N:Nat) (agS:Int) (d_2:Fl) (aa8 i_2 Zw Zy:Int) (m_3:List RY0) (aaP aaQ abU abV p_4 p_5:Int) (p_6 p_7:Fl) (Y8:LF) (e0:LF->Bool):(Int × LF)->((Int × LF)->Bool)->Bool:=λv_ K=>match v_ with
 | (r,aao)=>(cond (decide (r<Zw)) (af N (gc N agS d_2 aa8 i_2 Zw Zy r m_3 aaP aaQ abU abV p_4 p_5 p_6 p_7 Y8 (λaht=>ac .i64 (r+1)&&K ((r+1),aht))) (0,aao)) (e0 aao))
def wQ (N:Nat) (agR:Int) (Z6:Fl) (Z7 s:Int) (Zp:List RY0) (aaG aaH aad aaS p p_1:Int) (Z4 p_3:Fl) (b:LF) (e0:Kz3):(Int × Int × LF)->((Int × Int × LF)->Bool)->Bool:=λv_ K=>match v_ with
 | (aa7,a,b5)=>(cond (decide (a<p_1)) (af N (gb N agR Z6 aa7 Z7 s a Zp aaG aaH aad aaS p p_1 Z4 p_3 b (λajh=>ac .i64 (aa7+s)&&(ac .i64 (a+1)&&K ((aa7+s),(a+1),ajh)))) (0,b5)) (e0 aa7 b5))
def ga (N:Nat) (agQ:Int) (d:Fl) (Zc:List RY0) (t6 ZU out Zm:Int) (e0:LF->Bool):(Int × Int × LF)->((Int × Int × LF)->Bool)->Bool:=λv_ K=>match v_ with
 | (at_,i,b3)=>(cond (decide (i<((Zc.length:Nat):Int))) (inR i Zc.length&&kd N (Zc.getD i.toNat (0,(0,(none,none)))).1 (λZt=>zA N (Zc.getD i.toNat (0,(0,(none,none)))).1 (Zc.getD i.toNat (0,(0,(none,none)))).2.1 (Zc.getD i.toNat (0,(0,(none,none)))).2.2.1 (Zc.getD i.toNat (0,(0,(none,none)))).2.2.2 d agQ (λZD=>af N (wQ N agQ d i Zt Zc t6 ZU out Zm (Zc.getD i.toNat (0,(0,(none,none)))).1 (Zc.getD i.toNat (0,(0,(none,none)))).2.1 (Zc.getD i.toNat (0,(0,(none,none)))).2.2.1 (Zc.getD i.toNat (0,(0,(none,none)))).2.2.2 ZD (λabX abd=>ac .i64 (i+1)&&K (abX,(i+1),abd))) (at_,0,b3)))) (e0 b3))
def Ns (N:Nat) (m:List RY0) (ticks what:Int) (k0:Ky2) (k1:Kx9):Bool:=
 (yC N m (λnr Y_=>cond (Y_ != 0) (k0 0 0 Y_) (cond ((decide (ticks<0))==false) (cond (decide (ticks>1125899906842624)) (k0 0 0 1) (Px N ticks (λxr Ze=>DM N nr nr (λxsr=>af N (ga N what xr m 0 0 nr nr (λb2=>BX N nr nr b2 (λZC n5 n6=>k0 ZC n5 n6) (λn7=>k1 nr nr b2 n7))) (0,0,xsr))))) (k0 0 0 1))))
def Km (N:Nat):List RY0->Int->Int->(Ky2)->(Kx9)->Bool:=aw N (Ns N)
def Jq (N:Nat) (m:List RY0) (ticks:Int) (k0:Ky2) (k1:Kx9):Bool:=
 (Km N m ticks 0 (λnr Y_ Ze=>k0 nr Y_ Ze) (λZt ZC xsr n5=>k1 Zt ZC xsr n5))
def ET (N:Nat):List RY0->Int->(Ky2)->(Kx9)->Bool:=Jq N
def Jr (N:Nat) (m:List RY0) (ticks:Int) (k0:Ky2) (k1:Kx9):Bool:=
 (Km N m ticks 1 (λnr Y_ Ze=>k0 nr Y_ Ze) (λZt ZC xsr n5=>k1 Zt ZC xsr n5))
def As (N:Nat):List RY0->Int->(Ky2)->(Kx9)->Bool:=Jr N
def Nt (N:Nat) (f_0 f_1:Int) (f_2:LF) (rows:Int) (k0:Kz7):Bool:=
 (rI N f_0 f_1 f_2 (λnr=>cond (nr != 0) (k0 nr) (cond ((f_0 != f_1)==false) (cond (f_0 != rows) (k0 3) (k0 0)) (k0 3))))
def Kn (N:Nat):Int->Int->LF->Int->(Kz7)->Bool:=aw N (Nt N)
def xT (N:Nat) (ZI Zc:Int) (Zp:LF) (i:Int) (k0:LF->Bool):Bool:=
 (ac .i64 (i*Zc)&&(ac .i64 (i+1)&&(ac .i64 ((i+1)*Zc)&&(decide (0<=(i*Zc)/\(i*Zc)<=((i+1)*Zc)/\((i+1)*Zc)<=((Zp.length:Nat):Int))&&k0 (List.drop (Int.toNat (i*Zc)) (List.take (Int.toNat ((i+1)*Zc)) Zp))))))
def qv (N:Nat):Int->Int->LF->Int->(LF->Bool)->Bool:=aw N (xT N)
def xW (N:Nat) (x:Fl) (b:Bool) (k0:Kz6):Bool:=
 (cond (b==false) (nZ N x (λcr=>k0 (!cr))) (k0 true))
def iI (N:Nat):Fl->Bool->(Kz6)->Bool:=aw N (xW N)
def lM (N:Nat) (Zy Za:LF) (t10:Int) (e0:Ky7):(Fl × Int × Bool)->((Fl × Int × Bool)->Bool)->Bool:=λv_ K=>match v_ with
 | (t,t11,s)=>(cond (decide (t11<t10)) (inR t11 Zy.length&&(inR t11 Za.length&&iI N (ay (Zy.getD t11.toNat none) (Za.getD t11.toNat none)) s (λcr=>iI N (cV t (ay (Zy.getD t11.toNat none) (Za.getD t11.toNat none))) cr (λZb=>ac .i64 (t11+1)&&K ((cV t (ay (Zy.getD t11.toNat none) (Za.getD t11.toNat none))),(t11+1),Zb))))) (e0 t s))
def sZ (N:Nat) (a b:LF) (Y8:Bool) (k0:Ky7):Bool:=
 (af N (lM N a b ((a.length:Nat):Int) (λt_1 b0=>k0 t_1 b0)) ((some 0),0,Y8))
def uo (N:Nat):LF->LF->Bool->(Ky7)->Bool:=aw N (sZ N)
def Ay (N:Nat) (rows cols:Int) (k0:LF->Bool):Bool:=
 (ac .i64 (rows*cols)&&(iF 8 (rows*cols) (rows*cols)&&k0 (List.replicate (Int.toNat (rows*cols)) (some 0))))
def oV (N:Nat):Int->Int->(LF->Bool)->Bool:=Ay N
def j4 (N:Nat) (j_2 m_5 m_6:Int) (m_7:LF) (e0:LF->Bool):(Int × LF)->((Int × LF)->Bool)->Bool:=λv_ K=>match v_ with
 | (Z7,l)=>(cond (decide (Z7<m_5)) (nj N m_5 m_6 m_7 Z7 j_2 (λZ5=>decide ((List.length (l++[Z5]))*8<=140737488355328)&&(ac .i64 (Z7+1)&&K ((Z7+1),(l++[Z5]))))) (e0 l))
def qJ (N:Nat) (ZI Zc:Int) (Zp:LF) (j:Int) (k0:LF->Bool):Bool:=
 (af N (j4 N j ZI Zc Zp (λl_1=>k0 l_1)) (0,[]))
def rG (N:Nat):Int->Int->LF->Int->(LF->Bool)->Bool:=aw N (qJ N)
def iS (N:Nat) (Zy:LF) (t10:Int) (Za:LF) (e0:Ky7):(Fl × Int × Bool)->((Fl × Int × Bool)->Bool)->Bool:=λv_ K=>match v_ with
 | (t,t11,s)=>(cond (decide (t11<t10)) (inR t11 Zy.length&&(inR t11 Za.length&&(decide (t11.toNat<Za.length)&&iI N (ay (Zy.getD t11.toNat none) (Za.getD t11.toNat none)) s (λcr=>iI N (cV t (ay (Zy.getD t11.toNat none) (Za.getD t11.toNat none))) cr (λZb=>ac .i64 (t11+1)&&K ((cV t (ay (Zy.getD t11.toNat none) (Za.getD t11.toNat none))),(t11+1),Zb)))))) (e0 t s))
def Nm (N:Nat) (a:LF) (b:Bool) (Y8:LF) (k0:Ky7):Bool:=
 (af N (iS N a ((a.length:Nat):Int) Y8 (λt_1 b0=>k0 t_1 b0)) ((some 0),0,b))
def Pz (N:Nat):LF->Bool->LF->(Ky7)->Bool:=aw N (Nm N)
def yP (N:Nat) (ZI Zc i j:Int) (x:Fl) (b:LF) (k0:LF->Bool):Bool:=
 (ac .i64 (i*Zc)&&(ac .i64 ((i*Zc)+j)&&(inR ((i*Zc)+j) b.length&&(decide ((Int.toNat ((i*Zc)+j))<b.length)&&k0 (b.set (Int.toNat ((i*Zc)+j)) x)))))
def kp (N:Nat):Int->Int->Int->Int->Fl->LF->(LF->Bool)->Bool:=yP N
def gO (N:Nat) (Z7 a_5 a_6:Int) (a_7:LF) (ZA Zx:Int) (ZF:LF) (aaG aaH Zp m_3:Int) (e0:Ky8):(Int × Bool × LF)->((Int × Bool × LF)->Bool)->Bool:=λv_ K=>match v_ with
 | (j,Zw,aao)=>(cond (decide (j<Zx)) (qv N a_5 a_6 a_7 Z7 (λZD=>rG N ZA Zx ZF j (λZZ=>Pz N ZD Zw ZZ (λxr cr=>kp N Zp m_3 Z7 j xr aao (λaay=>ac .i64 (j+1)&&K ((j+1),cr,aay)))))) (e0 Zw aao))
def gN (N:Nat) (a a_3:Int) (a_4:LF) (Zf Zl:Int) (Zr:LF) (t6 ZU m Zc:Int) (e0:Ky8):(Int × Bool × LF)->((Int × Bool × LF)->Bool)->Bool:=λv_ K=>match v_ with
 | (i,s,b5)=>(cond (decide (i<a)) (af N (gO N i a a_3 a_4 Zf Zl Zr t6 ZU m Zc (λZz ab3=>ac .i64 (i+1)&&K ((i+1),Zz,ab3))) (0,s,b5)) (e0 s b5))
def M_ (N:Nat) (a_0 Zy:Int) (a_2:LF) (b_0 Y8:Int) (Za:LF) (b:Bool) (k0:Ky8):Bool:=
 (oV N a_0 Y8 (λxsr=>af N (gN N a_0 Zy a_2 b_0 Y8 Za 0 0 a_0 Y8 (λb0 b3=>k0 b0 b3)) (0,b,xsr)))
def Pq (N:Nat):Int->Int->LF->Int->Int->LF->Bool->(Ky8)->Bool:=aw N (M_ N)
def sS (N:Nat) (ZI Zc i:Int) (b:LF) (k0:Ky9):Bool:=
 (ac .i64 (i*Zc)&&(ac .i64 (i+1)&&(ac .i64 ((i+1)*Zc)&&(decide (0<=(i*Zc)/\(i*Zc)<=((i+1)*Zc)/\((i+1)*Zc)<=((b.length:Nat):Int))&&k0 (Int.toNat (i*Zc)) ((Int.toNat ((i+1)*Zc)) - (Int.toNat (i*Zc)))))))
def uk (N:Nat):Int->Int->Int->LF->(Ky9)->Bool:=aw N (sS N)
def iR (N a a_2:Nat) (Zf:LF) (t10:Int) (a_3:LF) (e0:Ky7):(Fl × Int × Bool)->((Fl × Int × Bool)->Bool)->Bool:=λv_ K=>match v_ with
 | (t,t11,s)=>(cond (decide (t11<t10)) (inR t11 a_2&&(decide ((a+t11.toNat)<a_3.length)&&(inR t11 Zf.length&&iI N (ay (a_3.getD (a+t11.toNat) none) (Zf.getD t11.toNat none)) s (λcr=>iI N (cV t (ay (a_3.getD (a+t11.toNat) none) (Zf.getD t11.toNat none))) cr (λZb=>ac .i64 (t11+1)&&K ((cV t (ay (a_3.getD (a+t11.toNat) none) (Zf.getD t11.toNat none))),(t11+1),Zb)))))) (e0 t s))
def Nl (N a_0 Zy:Nat) (b:LF) (Y8:Bool) (Za:LF) (k0:Ky7):Bool:=
 (af N (iR N a_0 Zy b ((Zy:Nat):Int) Za (λt_1 b0=>k0 t_1 b0)) ((some 0),0,Y8))
def Py (N:Nat):Nat->Nat->LF->Bool->LF->(Ky7)->Bool:=aw N (Nl N)
def j6 (N:Nat) (Z7 m_5 m_6:Int) (m_7:LF) (aeZ ae0 t_2 t_3:Int) (e0:LF->Bool):(Int × LF)->((Int × LF)->Bool)->Bool:=λv_ K=>match v_ with
 | (j,abd)=>(cond (decide (j<=Z7)) (nj N m_5 m_6 m_7 Z7 j (λxr=>kp N t_2 t_3 Z7 j xr abd (λZD=>nj N m_5 m_6 m_7 Z7 j (λZ5=>kp N t_2 t_3 j Z7 Z5 ZD (λZZ=>ac .i64 (j+1)&&K ((j+1),ZZ)))))) (e0 abd))
def j5 (N:Nat) (m m_3:Int) (m_4:LF) (t2 acs t t_1:Int) (e0:LF->Bool):(Int × LF)->((Int × LF)->Bool)->Bool:=λv_ K=>match v_ with
 | (i,b3)=>(cond (decide (i<m)) (af N (j6 N i m m_3 m_4 t2 acs t t_1 (λab1=>ac .i64 (i+1)&&K ((i+1),ab1))) (0,b3)) (e0 b3))
def qK (N:Nat) (ZI Zc:Int) (Zp:LF) (k0:LF->Bool):Bool:=
 (oV N ZI Zc (λxsr=>af N (j5 N ZI Zc Zp 0 0 ZI Zc (λb2=>k0 b2)) (0,xsr)))
def rH (N:Nat):Int->Int->LF->(LF->Bool)->Bool:=aw N (qK N)
def MW (N:Nat) (p_0 p_1:Int) (b Y8:LF) (Za:Bool) (k0:Ky2) (k1:Kz3):Bool:=
 (cond Za (k0 0 0 5) (rH N p_0 p_1 Y8 (λxsr=>Kj N p_0 p_1 xsr (λcr=>cond (!cr) (k0 0 0 151) (k1 0 xsr)))))
def Pl (N:Nat):Int->Int->LF->LF->Bool->(Ky2)->(Kz3)->Bool:=aw N (MW N)
def iO (N:Nat) (abb:Int) (t_7:LF) (t_8 t_9:Int) (ajx:LF) (f_5 f_6:Int) (f_7:LF) (q_5 q_6:Int) (q_7:LF) (aaG aaH:Int) (e0:Ky8):(Int × Bool × LF)->((Int × Bool × LF)->Bool)->Bool:=λv_ K=>match v_ with
 | (ah3,Zw,x)=>(cond (decide (ah3<abb)) (qv N f_5 f_6 f_7 ah3 (λZD=>uo N ZD t_7 Zw (λZ5 Zb=>decide ((List.length (x++[Z5]))*8<=140737488355328)&&(ac .i64 (ah3+1)&&K ((ah3+1),Zb,(x++[Z5])))))) (e0 Zw x))
def iQ (N:Nat) (i aiI aiJ ag6 ah9:Int) (ah_:LF) (aiQ aiR:Int) (aiS:LF) (aaI aaJ:Int) (x_3:LF) (Zp m_3 Z4 p_3:Int) (aez:LF) (e0:Ky8):(Int × Bool × LF)->((Int × Bool × LF)->Bool)->Bool:=λv_ K=>match v_ with
 | (j,s_4,ajS)=>(cond (decide (j<=i)) (uk N Zp m_3 i aez (λmr aak=>qv N ag6 ah9 ah_ j (λacT=>Py N mr aak acT s_4 aez (λaaR ZX=>nj N aiQ aiR aiS i j (λabC=>iI N (cV aaR abC) ZX (λaaX=>kp N Z4 p_3 i j (cV aaR abC) ajS (λacU=>ac .i64 (j+1)&&K ((j+1),aaX,acU)))))))) (e0 s_4 ajS))
def iP (N:Nat) (t76 f_8 f_9:Int) (ahC:LF) (q_8 q_9:Int) (ajo:LF) (aaP aaQ:Int) (Z2:LF) (m Zc p p_1:Int) (b7:LF) (e0:Ky8):(Int × Bool × LF)->((Int × Bool × LF)->Bool)->Bool:=λv_ K=>match v_ with
 | (t77,ZH,b8)=>(cond (decide (t77<t76)) (af N (iQ N t77 t76 t77 f_8 f_9 ahC q_8 q_9 ajo aaP aaQ Z2 m Zc p p_1 b7 (λs_5 aiP=>ac .i64 (t77+1)&&K ((t77+1),s_5,aiP))) (0,ZH,b8)) (e0 ZH b8))
def MX (N:Nat) (t_0:LF) (t_1 t_2:Int) (t_3:LF) (f_0 f_1:Int) (f_2:LF) (q_0 q_1:Int) (q_2:LF) (k0:Ky2) (k1:Kx4):Bool:=
 (pI N t_0 t_1 t_2 t_3 (λnr=>cond (nr != 0) (k0 0 0 nr) (Kn N f_0 f_1 f_2 ((t_0.length:Nat):Int) (λY_=>cond (Y_ != 0) (k0 0 0 Y_) (Kn N q_0 q_1 q_2 ((t_0.length:Nat):Int) (λZe=>cond (Ze != 0) (k0 0 0 Ze) (Ke N q_0 q_1 q_2 (λZt=>cond (Zt != 0) (k0 0 0 150) (af N (iO N ((t_0.length:Nat):Int) t_0 t_1 t_2 t_3 f_0 f_1 f_2 q_0 q_1 q_2 0 0 (λZz Zs=>Pq N f_0 f_1 f_2 t_1 t_2 t_3 Zz (λZE ZZ=>oV N ((Zs.length:Nat):Int) ((Zs.length:Nat):Int) (λaay=>af N (iP N ((Zs.length:Nat):Int) f_0 f_1 f_2 q_0 q_1 q_2 0 0 Zs f_0 t_2 ((Zs.length:Nat):Int) ((Zs.length:Nat):Int) ZZ (λs_6 b4=>Pl N ((Zs.length:Nat):Int) ((Zs.length:Nat):Int) Zs b4 s_6 (λZC n5 n6=>k0 ZC n5 n6) (λn7 acV=>k1 ((Zs.length:Nat):Int) ((Zs.length:Nat):Int) n7 Zs acV))) (0,ZE,aay))))) (0,false,[]))))))))))
def DJ (N:Nat):LF->Int->Int->LF->Int->Int->LF->Int->Int->LF->(Ky2)->(Kx4)->Bool:=aw N (MX N)
def w6 (N:Nat) (t_0:LF) (t_1 t_2:Int) (t_3:LF) (m:List RY0) (ticks ah9 ah_:Int) (akn:LF) (q_7 q_8:Int) (q_9:LF) (k0:Ky2) (k1:Kx4):Bool:=
 (DJ N t_0 t_1 t_2 t_3 ah9 ah_ akn q_7 q_8 q_9 (λn37 n38 n39=>k0 n37 n38 n39) (λn40 n41 n42 ad8 abT=>k1 n40 n41 n42 ad8 abT))
def D0 (N:Nat) (t_0:LF) (t_1 t_2:Int) (t_3:LF) (m:List RY0) (ticks f_9 ahC:Int) (ag6:LF) (q_5 q_6:Int) (k0:Ky2) (k1:Kx4):Bool:=
 (DJ N t_0 t_1 t_2 t_3 f_9 ahC ag6 q_5 q_6 [] (λn31 n32 n33=>k0 n31 n32 n33) (λn34 n35 n36 aet ad7=>k1 n34 n35 n36 aet ad7))
def w5 (N:Nat) (t_0:LF) (t_1 t_2:Int) (t_3:LF) (m:List RY0) (ticks f_6 f_7:Int) (f_8:LF) (k0:Ky2) (k1:Kx4):Bool:=
 (cond (f_6 != ((t_0.length:Nat):Int)) (k0 0 0 3) (As N m ticks (λn25 n26 n27=>cond (n27 != 0) (k0 0 0 n27) (D0 N t_0 t_1 t_2 t_3 m ticks f_6 f_7 f_8 n25 n26 k0 k1)) (λn28 n29 acV n30=>cond (n30 != 0) (k0 0 0 n30) (w6 N t_0 t_1 t_2 t_3 m ticks f_6 f_7 f_8 n28 n29 acV k0 k1))))
def DZ (N:Nat) (t_0:LF) (t_1 t_2:Int) (t_3:LF) (m:List RY0) (ticks f_4 f_5 q_2 q_3:Int) (q_4:LF) (k0:Ky2) (k1:Kx4):Bool:=
 (DJ N t_0 t_1 t_2 t_3 f_4 f_5 [] q_2 q_3 q_4 (λn19 n20 n21=>k0 n19 n20 n21) (λn22 n23 n24 acT acU=>k1 n22 n23 n24 acT acU))
def DY (N:Nat) (t_0:LF) (t_1 t_2:Int) (t_3:LF) (m:List RY0) (ticks f_2 f_3 q q_1:Int) (k0:Ky2) (k1:Kx4):Bool:=
 (DJ N t_0 t_1 t_2 t_3 f_2 f_3 [] q q_1 [] (λn13 n14 n15=>k0 n13 n14 n15) (λn16 n17 n18 ZZ aay=>k1 n16 n17 n18 ZZ aay))
def DX (N:Nat) (t_0:LF) (t_1 t_2:Int) (t_3:LF) (m:List RY0) (ticks f f_1:Int) (k0:Ky2) (k1:Kx4):Bool:=
 (cond (f != ((t_0.length:Nat):Int)) (k0 0 0 3) (As N m ticks (λn7 n8 n9=>cond (n9 != 0) (k0 0 0 n9) (DY N t_0 t_1 t_2 t_3 m ticks f f_1 n7 n8 k0 k1)) (λn10 n11 ZD n12=>cond (n12 != 0) (k0 0 0 n12) (DZ N t_0 t_1 t_2 t_3 m ticks f f_1 n10 n11 ZD k0 k1))))
def vY (N:Nat) (t_0:LF) (t_1 t_2:Int) (t_3:LF) (m:List RY0) (ticks:Int) (k0:Ky2) (k1:Kx4):Bool:=
 (pI N t_0 t_1 t_2 t_3 (λnr=>cond (nr != 0) (k0 0 0 nr) (ET N m ticks (λY_ Ze Zt=>cond (Zt != 0) (k0 0 0 Zt) (DX N t_0 t_1 t_2 t_3 m ticks Y_ Ze k0 k1)) (λZC n5 xsr n6=>cond (n6 != 0) (k0 0 0 n6) (w5 N t_0 t_1 t_2 t_3 m ticks ZC n5 xsr k0 k1)))))
def rJ (N:Nat):LF->Int->Int->LF->List RY0->Int->(Ky2)->(Kx4)->Bool:=aw N (vY N)
def Wg (N:Nat) (a b:Fl) (k0:Kz6):Bool:=
 (tY N a (λnr=>tY N b (λY_=>k0 (nr==Y_))))
def VC (N:Nat):Fl->Fl->(Kz6)->Bool:=Wg N
def E6 (N:Nat) (Zy Y8:LF) (t12:Int) (e0:Kz6) (e1:Bool):(Int)->((Int)->Bool)->Bool:=λv_ K=>match v_ with
 | t13=>(cond (decide (t13<t12)) (inR t13 Zy.length&&(inR t13 Y8.length&&VC N (Zy.getD t13.toNat none) (Y8.getD t13.toNat none) (λcr=>cond (!cr) (e0 false) (ac .i64 (t13+1)&&K (t13+1))))) e1)
def Su (N:Nat) (a b:LF) (k0:Kz6):Bool:=
 (cond (((a.length:Nat):Int) != ((b.length:Nat):Int)) (k0 false) (af N (E6 N a b ((a.length:Nat):Int) (λt4=>k0 t4) (k0 true)) 0))
def PA (N:Nat):LF->LF->(Kz6)->Bool:=aw N (Su N)
def Sm (N:Nat) (a_0:LF) (Zy a_2:Int) (a_3 b_0:LF) (Y8 Za:Int) (Zf:LF) (k0:Kz6):Bool:=
 (PA N a_0 b_0 (λcr=>cond (cr==true) (cond ((Zy==Y8)==true) (cond ((a_2==Za)==true) (PA N a_3 Zf (λZb=>k0 Zb)) (k0 false)) (k0 false)) (k0 false)))
def I7 (N:Nat):LF->Int->Int->LF->LF->Int->Int->LF->(Kz6)->Bool:=aw N (Sm N)
def vy (N:Nat) (n:Int) (h:LF) (r:Fl) (k0:Kz7):Bool:=
 (cond (((h.length:Nat):Int) != n) (k0 3) (yu N h (λcr=>cond (!cr) (k0 4) (yu N [r] (λZb=>cond (!Zb) (k0 4) (cond (fle r (some 0)) (k0 152) (k0 0)))))))
def CM (N:Nat):Int->LF->Fl->(Kz7)->Bool:=aw N (vy N)
def rP (N:Nat) (x:Fl) (b:Bool) (Y8:LF) (Za Zf:Int) (Zl Zr:LF) (ZA Zx ZF:Fl) (k0:Kz6):Bool:=
 (cond ((!feq x x)==false) (vK N x 0 (λcr=>cond cr (k0 true) (k0 b))) (k0 true))
def so (N:Nat):Fl->Bool->LF->Int->Int->LF->LF->Fl->Fl->Fl->(Kz6)->Bool:=aw N (rP N)
def pU (N:Nat) (a b:Fl) (Y8:Bool) (Za:LF) (Zf Zl:Int) (Zr ZA:LF) (Zx ZF ZL:Fl) (k0:Ky7):Bool:=
 (so N (ay a b) Y8 Za Zf Zl Zr ZA Zx ZF ZL (λcr=>k0 (ay a b) cr))
def yx (N:Nat):Fl->Fl->Bool->LF->Int->Int->LF->LF->Fl->Fl->Fl->(Ky7)->Bool:=aw N (pU N)
def nH (N:Nat) (Zh t10:LF) (t11:Int) (Zw:LF) (Zz ZH:Int) (s_4 s_5:LF) (s_6 s_7 s_8:Fl) (e0:Ky7):(Fl × Int × Bool)->((Fl × Int × Bool)->Bool)->Bool:=λv_ K=>match v_ with
 | (t,t12,s)=>(cond (decide (t12<t11)) (inR t12 t10.length&&(inR t12 Zh.length&&yx N (t10.getD t12.toNat none) (Zh.getD t12.toNat none) s Zw Zz ZH s_4 s_5 s_6 s_7 s_8 (λxr cr=>so N (cV t xr) cr Zw Zz ZH s_4 s_5 s_6 s_7 s_8 (λZb=>ac .i64 (t12+1)&&K ((cV t xr),(t12+1),Zb))))) (e0 t s))
def xQ (N:Nat) (a b:LF) (Y8:Bool) (Za:LF) (Zf Zl:Int) (Zr ZA:LF) (Zx ZF ZL:Fl) (k0:Ky7):Bool:=
 (af N (nH N b a ((a.length:Nat):Int) Za Zf Zl Zr ZA Zx ZF ZL (λt_1 b0=>k0 t_1 b0)) ((some 0),0,Y8))
def Wi (N:Nat) (x:Fl) (b:Bool) (Y8:LF) (Za Zf:Int) (Zl Zr:LF) (ZA Zx ZF:Fl) (ZL:LF) (k0:Kz6):Bool:=
 (cond ((!feq x x)==false) (vK N x 0 (λcr=>cond cr (k0 true) (k0 b))) (k0 true))
def PJ (N:Nat):Fl->Bool->LF->Int->Int->LF->LF->Fl->Fl->Fl->LF->(Kz6)->Bool:=aw N (Wi N)
def RA (N:Nat) (a b:Fl) (Y8:Bool) (Za:LF) (Zf Zl:Int) (Zr ZA:LF) (Zx ZF ZL:Fl) (Zh:LF) (k0:Ky7):Bool:=
 (PJ N (ay a b) Y8 Za Zf Zl Zr ZA Zx ZF ZL Zh (λcr=>k0 (ay a b) cr))
def R8 (N:Nat):Fl->Fl->Bool->LF->Int->Int->LF->LF->Fl->Fl->Fl->LF->(Ky7)->Bool:=aw N (RA N)
def nk (N:Nat) (ZK t10:LF) (t11:Int) (Zw:LF) (Zz ZH:Int) (s_4 s_5:LF) (s_6 s_7 s_8:Fl) (b1:LF) (e0:Ky7):(Fl × Int × Bool)->((Fl × Int × Bool)->Bool)->Bool:=λv_ K=>match v_ with
 | (t,t12,s)=>(cond (decide (t12<t11)) (inR t12 t10.length&&(inR t12 ZK.length&&R8 N (t10.getD t12.toNat none) (ZK.getD t12.toNat none) s Zw Zz ZH s_4 s_5 s_6 s_7 s_8 b1 (λxr cr=>PJ N (cV t xr) cr Zw Zz ZH s_4 s_5 s_6 s_7 s_8 b1 (λZb=>ac .i64 (t12+1)&&K ((cV t xr),(t12+1),Zb))))) (e0 t s))
def Rz (N:Nat) (a b:LF) (Y8:Bool) (Za:LF) (Zf Zl:Int) (Zr ZA:LF) (Zx ZF ZL:Fl) (Zh:LF) (k0:Ky7):Bool:=
 (af N (nk N b a ((a.length:Nat):Int) Za Zf Zl Zr ZA Zx ZF ZL Zh (λt_1 b0=>k0 t_1 b0)) ((some 0),0,Y8))
def R7 (N:Nat):LF->LF->Bool->LF->Int->Int->LF->LF->Fl->Fl->Fl->LF->(Ky7)->Bool:=aw N (Rz N)
def lA (N:Nat) (t10:LF) (t11:Int) (Zw:LF) (Zz ZH:Int) (s_4 s_5:LF) (s_6 s_7 s_8:Fl) (Zh:LF) (e0:Ky7):(Fl × Int × Bool)->((Fl × Int × Bool)->Bool)->Bool:=λv_ K=>match v_ with
 | (t,t12,s)=>(cond (decide (t12<t11)) (inR t12 t10.length&&(inR t12 Zh.length&&(decide (t12.toNat<Zh.length)&&R8 N (t10.getD t12.toNat none) (Zh.getD t12.toNat none) s Zw Zz ZH s_4 s_5 s_6 s_7 s_8 Zh (λxr cr=>PJ N (cV t xr) cr Zw Zz ZH s_4 s_5 s_6 s_7 s_8 Zh (λZb=>ac .i64 (t12+1)&&K ((cV t xr),(t12+1),Zb)))))) (e0 t s))
def RC (N:Nat) (a:LF) (b:Bool) (Y8:LF) (Za Zf:Int) (Zl Zr:LF) (ZA Zx ZF:Fl) (ZL:LF) (k0:Ky7):Bool:=
 (af N (lA N a ((a.length:Nat):Int) Y8 Za Zf Zl Zr ZA Zx ZF ZL (λt_1 b0=>k0 t_1 b0)) ((some 0),0,b))
def WK (N:Nat):LF->Bool->LF->Int->Int->LF->LF->Fl->Fl->Fl->LF->(Ky7)->Bool:=aw N (RC N)
def RF (N:Nat) (b:Bool) (Y8:LF) (Za Zf:Int) (Zl Zr:LF) (ZA Zx ZF:Fl) (ZL:LF) (k0:Bool):Bool:=
 k0
def WM (N:Nat):Bool->LF->Int->Int->LF->LF->Fl->Fl->Fl->LF->(Bool)->Bool:=aw N (RF N)
def nI (N:Nat) (h_2:LF) (r_2:Fl) (aiF:Int) (s_7:LF) (s_8 s_9:Int) (ahI abz:LF) (abR af0:Int) (aeC abA:LF) (aeg abB abt:Fl) (e0:Ky8):(Int × Bool × LF)->((Int × Bool × LF)->Bool)->Bool:=λv_ K=>match v_ with
 | (ah2,u_9,b2)=>(cond (decide (ah2<aiF)) (iH N s_8 s_9 ahI ah2 (λZD=>R7 N ZD h_2 u_9 abz abR af0 aeC abA aeg abB abt b2 (λZ5 Zb=>decide ((List.length (b2++[Z5]))*8<=140737488355328)&&(ac .i64 (ah2+1)&&K ((ah2+1),Zb,(b2++[Z5])))))) (e0 u_9 b2))
def pV (N:Nat) (ZT:LF) (Zw Zz:Int) (ZH h:LF) (r:Fl) (k0:Kz7) (k1:Int->Bool->Fl->Fl->LF->Bool):Bool:=
 (e9 N ZT Zw Zz ZH (λnr=>cond (nr != 0) (k0 nr) (CM N ((ZT.length:Nat):Int) h r (λY_=>cond (Y_ != 0) (k0 Y_) (af N (nI N h r ((ZT.length:Nat):Int) ZT Zw Zz ZH ZT Zw Zz ZH h r (some 0) (some 0) (λaeh aaZ=>R7 N h ZT aeh ZT Zw Zz ZH h r (some 0) (some 0) aaZ (λaaR ZE=>WK N h ZE ZT Zw Zz ZH h r aaR (some 0) aaZ (λabC ZX=>PJ N (cV abC r) ZX ZT Zw Zz ZH h r aaR (some 0) aaZ (λaaX=>WM N aaX ZT Zw Zz ZH h r aaR (cV abC r) aaZ (cond aaX (k1 5 aaX aaR (cV abC r) aaZ) (cond (!(fgt (cV abC r) (some 0))) (k1 153 aaX aaR (cV abC r) aaZ) (k1 0 aaX aaR (cV abC r) aaZ)))))))) (0,false,[]))))))
def yy (N:Nat):LF->Int->Int->LF->LF->Fl->(Kz7)->(Int->Bool->Fl->Fl->LF->Bool)->Bool:=aw N (pV N)
def V1 (N:Nat) (x:Fl) (b:Bool) (Y8:LF) (Za Zf:Int) (Zl Zr:LF) (ZA Zx ZF:Fl) (ZL Zh:LF) (k0:Kz6):Bool:=
 (cond ((!feq x x)==false) (vK N x 0 (λcr=>cond cr (k0 true) (k0 b))) (k0 true))
def EP (N:Nat):Fl->Bool->LF->Int->Int->LF->LF->Fl->Fl->Fl->LF->LF->(Kz6)->Bool:=aw N (V1 N)
def V0 (N:Nat) (a b:Fl) (Y8:Bool) (Za:LF) (Zf Zl:Int) (Zr ZA:LF) (Zx ZF ZL:Fl) (Zh ZK:LF) (k0:Ky7):Bool:=
 (EP N (ay a b) Y8 Za Zf Zl Zr ZA Zx ZF ZL Zh ZK (λcr=>k0 (ay a b) cr))
def G5 (N:Nat):Fl->Fl->Bool->LF->Int->Int->LF->LF->Fl->Fl->Fl->LF->LF->(Ky7)->Bool:=aw N (V0 N)
def nM (N:Nat) (b:Bool) (Y8:LF) (Za Zf:Int) (Zl Zr:LF) (ZA Zx ZF:Fl) (ZL Zh:LF) (k0:Bool):Bool:=
 k0
def nW (N:Nat):Bool->LF->Int->Int->LF->LF->Fl->Fl->Fl->LF->LF->(Bool)->Bool:=nM N
def ja (N t10 aa4:Nat) (t11:Int) (Zw:LF) (Zz ZH:Int) (s_4 s_5:LF) (s_6 s_7 s_8:Fl) (aal Z3 b3 b4:LF) (e0:Ky7):(Fl × Int × Bool)->((Fl × Int × Bool)->Bool)->Bool:=λv_ K=>match v_ with
 | (t,t12,s)=>(cond (decide (t12<t11)) (inR t12 aa4&&(decide ((t10+t12.toNat)<aal.length)&&(inR t12 Z3.length&&(decide (t12.toNat<Z3.length)&&G5 N (aal.getD (t10+t12.toNat) none) (Z3.getD t12.toNat none) s Zw Zz ZH s_4 s_5 s_6 s_7 s_8 b3 b4 (λxr cr=>EP N (cV t xr) cr Zw Zz ZH s_4 s_5 s_6 s_7 s_8 b3 b4 (λZb=>ac .i64 (t12+1)&&K ((cV t xr),(t12+1),Zb))))))) (e0 t s))
def Rv (N a_0 Zy:Nat) (b:Bool) (Y8:LF) (Za Zf:Int) (Zl Zr:LF) (ZA Zx ZF:Fl) (ZL Zh ZK ZW:LF) (k0:Ky7):Bool:=
 (af N (ja N a_0 Zy ((Zy:Nat):Int) Y8 Za Zf Zl Zr ZA Zx ZF ZL Zh ZK ZW (λt_1 b0=>k0 t_1 b0)) ((some 0),0,b))
def WJ (N:Nat):Nat->Nat->Bool->LF->Int->Int->LF->LF->Fl->Fl->Fl->LF->LF->LF->LF->(Ky7)->Bool:=aw N (Rv N)
def eD (N:Nat) (Z7 aeY ab9 aaN:Int) (adF:LF) (adG adH:Int) (adI adJ:LF) (adK adL adM:Fl) (acX aaV ab1:LF) (a_5 a_6 acZ aco:Int) (acp:LF) (aaP aaQ abU abV:Int) (e0:Ky8):(Int × Bool × LF)->((Int × Bool × LF)->Bool)->Bool:=λv_ K=>match v_ with
 | (aan,ag8,b8)=>(cond (decide (aan<aaN)) (e_ N a_5 a_6 Z7 acX (λZM agj=>nX N acZ aco acp aan (λZD=>WJ N ZM agj ag8 adF adG adH adI adJ adK adL adM acX ZD aaV ab1 (λZ5 Zb=>decide ((List.length (b8++[Z5]))*8<=140737488355328)&&(ac .i64 (aan+1)&&K ((aan+1),Zb,(b8++[Z5]))))))) (e0 ag8 b8))
def eC (N:Nat) (adX:Int) (adN:LF) (adP adQ:Int) (adR adS:LF) (adU adV adW:Fl) (agC acY ab2:LF) (a_7 a_8 aea adD:Int) (aeb:LF) (aaI aaJ aa_ aba:Int) (e0:Ky8):(Int × Bool × LF)->((Int × Bool × LF)->Bool)->Bool:=λv_ K=>match v_ with
 | (aaT,ag9,aiP)=>(cond (decide (aaT<adX)) (af N (eD N aaT adX aaT adD adN adP adQ adR adS adU adV adW agC acY ab2 a_7 a_8 aea adD aeb aaI aaJ aa_ aba (λaiu akk=>ac .i64 (aaT+1)&&K ((aaT+1),aiu,akk))) (0,ag9,aiP)) (e0 ag9 aiP))
def fL (N:Nat) (a_0 Zy b_0 Y8:Int) (Za:LF) (b:Bool) (Zf:LF) (Zl Zr:Int) (ZA Zx:LF) (ZF ZL Zh:Fl) (ZK ZW Z3:LF) (k0:Ky8):Bool:=
 (af N (eC N a_0 Zf Zl Zr ZA Zx ZF ZL Zh ZK ZW Z3 a_0 Zy b_0 Y8 Za 0 0 a_0 Y8 (λb0 b6=>k0 b0 b6)) (0,b,[]))
def nu (N:Nat):Int->Int->Int->Int->LF->Bool->LF->Int->Int->LF->LF->Fl->Fl->Fl->LF->LF->LF->(Ky8)->Bool:=aw N (fL N)
def i9 (N aaE aaO t10 aa4:Nat) (t11:Int) (Zw:LF) (Zz ZH:Int) (s_4 s_5:LF) (s_6 s_7 s_8:Fl) (aal aah b3 b4:LF) (e0:Ky7):(Fl × Int × Bool)->((Fl × Int × Bool)->Bool)->Bool:=λv_ K=>match v_ with
 | (t,t12,s)=>(cond (decide (t12<t11)) (inR t12 aa4&&(decide ((t10+t12.toNat)<aal.length)&&(inR t12 aaO&&(decide ((aaE+t12.toNat)<aah.length)&&G5 N (aal.getD (t10+t12.toNat) none) (aah.getD (aaE+t12.toNat) none) s Zw Zz ZH s_4 s_5 s_6 s_7 s_8 b3 b4 (λxr cr=>EP N (cV t xr) cr Zw Zz ZH s_4 s_5 s_6 s_7 s_8 b3 b4 (λZb=>ac .i64 (t12+1)&&K ((cV t xr),(t12+1),Zb))))))) (e0 t s))
def Ru (N a_0 Zy b_0 Y8:Nat) (b:Bool) (Za:LF) (Zf Zl:Int) (Zr ZA:LF) (Zx ZF ZL:Fl) (Zh ZK ZW Z3:LF) (k0:Ky7):Bool:=
 (af N (i9 N b_0 Y8 a_0 Zy ((Zy:Nat):Int) Za Zf Zl Zr ZA Zx ZF ZL Zh ZK ZW Z3 (λt_1 b0=>k0 t_1 b0)) ((some 0),0,b))
def WI (N:Nat):Nat->Nat->Nat->Nat->Bool->LF->Int->Int->LF->LF->Fl->Fl->Fl->LF->LF->LF->LF->(Ky7)->Bool:=aw N (Ru N)
def cb (N:Nat) (i j b Y8 Za Zf:Int) (Zl:Bool) (Zr:LF) (ZA Zx:Int) (ZF ZL:LF) (Zh ZK ZW:Fl) (Z3 aaE aaO aah:LF) (k0:Ky7):Bool:=
 (e_ N b Y8 i Z3 (λmr aak=>e_ N Za Zf j aaE (λZM agj=>WI N mr aak ZM agj Zl Zr ZA Zx ZF ZL Zh ZK ZW Z3 aaE aaO aah (λxr cr=>inR i aah.length&&(decide (i.toNat<aah.length)&&G5 N (aah.getD i.toNat none) Zh cr Zr ZA Zx ZF ZL Zh ZK ZW aaO aah (λZ5 Zb=>inR j aah.length&&(decide (j.toNat<aah.length)&&G5 N Z5 (aah.getD j.toNat none) Zb Zr ZA Zx ZF ZL Zh ZK ZW aaO aah (λaaR ZE=>EP N (cV xr aaR) ZE Zr ZA Zx ZF ZL Zh ZK ZW aaO aah (λZX=>k0 (cV xr aaR) ZX)))))))))
def fF (N:Nat):Int->Int->Int->Int->Int->Int->Bool->LF->Int->Int->LF->LF->Fl->Fl->Fl->LF->LF->LF->LF->(Ky7)->Bool:=aw N (cb N)
def dp (N:Nat) (n_2 i ab8 aa5 t21 abX ady adz adA:Int) (abZ:LF) (ab0 adB:Int) (aa9 aei:LF) (ahW ahX ahY:Fl) (ain aao aeQ aez:LF) (ac_ ada aad aaS:Int) (e0:Ky8):(Int × Bool × LF)->((Int × Bool × LF)->Bool)->Bool:=λv_ K=>match v_ with
 | (t22,agE,ago)=>(cond (decide (t22<t21)) (fF N i t22 abX ady adz adA agE abZ ab0 adB aa9 aei ahW ahX ahY ain aao aeQ aez (λxr cr=>ac .i64 (i*n_2)&&(ac .i64 ((i*n_2)+t22)&&(ac .i64 (t22*n_2)&&(ac .i64 ((t22*n_2)+i)&&(inR ((i*n_2)+t22) ago.length&&(decide ((Int.toNat ((i*n_2)+t22))<ago.length)&&(inR ((t22*n_2)+i) (List.length (ago.set (Int.toNat ((i*n_2)+t22)) xr))&&(decide ((Int.toNat ((t22*n_2)+i))<(List.length (ago.set (Int.toNat ((i*n_2)+t22)) xr)))&&(ac .i64 (t22+1)&&K ((t22+1),cr,(List.set (ago.set (Int.toNat ((i*n_2)+t22)) xr) (Int.toNat ((t22*n_2)+i)) xr)))))))))))) (e0 agE ago))
def dn (N:Nat) (ZY t16 at_ aa7 aa8 aaM:Int) (abd:LF) (ab1 ab2:Int) (aeP agD:LF) (adC ag1 aey:Fl) (b4 b5 b6 b7:LF) (t4 aef out Zm:Int) (e0:Ky8):(Int × Bool × LF)->((Int × Bool × LF)->Bool)->Bool:=λv_ K=>match v_ with
 | (t17,b3,b10)=>(cond (decide (t17<t16)) (ac .i64 (t17+1)&&af N (dp N ZY t17 t16 t17 (t17+1) at_ aa7 aa8 aaM abd ab1 ab2 aeP agD adC ag1 aey b4 b5 b6 b7 t4 aef out Zm (λajO ajM=>ac .i64 (t17+1)&&K ((t17+1),ajO,ajM))) (0,b3,b10)) (e0 b3 b10))
def dP (N:Nat) (n b Y8 Za Zf:Int) (Zl:Bool) (Zr:LF) (ZA Zx:Int) (ZF ZL:LF) (Zh ZK ZW:Fl) (Z3 aaE aaO aah:LF) (k0:Ky8):Bool:=
 (ac .i64 (n*n)&&(iF 8 (n*n) (n*n)&&af N (dn N n n b Y8 Za Zf Zr ZA Zx ZF ZL Zh ZK ZW Z3 aaE aaO aah 0 0 n n (λajP ajN=>k0 ajP ajN)) (0,Zl,(List.replicate (Int.toNat (n*n)) (some 0)))))
def li (N:Nat):Int->Int->Int->Int->Int->Bool->LF->Int->Int->LF->LF->Fl->Fl->Fl->LF->LF->LF->LF->(Ky8)->Bool:=aw N (dP N)
def dK (N:Nat) (n_2 Z7 ab9 aiA aaN:Int) (aeI:LF) (aeJ aeK:Int) (aeL abY:LF) (aeM aeN aeO:Fl) (acX aaV:LF) (ajs ajt a_4 a_5:Int) (e0:Ky8):(Int × Bool × LF)->((Int × Bool × LF)->Bool)->Bool:=λv_ K=>match v_ with
 | (aan,ail,b6)=>(cond (decide (aan<aaN)) (cond (Z7==aan) (inR Z7 aaV.length&&(decide (Z7.toNat<aaV.length)&&(inR aan abY.length&&G5 N (aaV.getD Z7.toNat none) (abY.getD aan.toNat none) ail aeI aeJ aeK aeL abY aeM aeN aeO acX aaV (λZ5 ZE=>EP N (sB (some 4607182418800017408) Z5) ZE aeI aeJ aeK aeL abY aeM aeN aeO acX aaV (λZX=>decide ((List.length (b6++[(sB (some 4607182418800017408) Z5)]))*8<=140737488355328)&&(ac .i64 (aan+1)&&K ((aan+1),ZX,(b6++[(sB (some 4607182418800017408) Z5)])))))))) (inR Z7 aaV.length&&(decide (Z7.toNat<aaV.length)&&(inR aan abY.length&&G5 N (aaV.getD Z7.toNat none) (abY.getD aan.toNat none) ail aeI aeJ aeK aeL abY aeM aeN aeO acX aaV (λaaR aaX=>EP N (sB (some 0) aaR) aaX aeI aeJ aeK aeL abY aeM aeN aeO acX aaV (λaed=>decide ((List.length (b6++[(sB (some 0) aaR)]))*8<=140737488355328)&&(ac .i64 (aan+1)&&K ((aan+1),aed,(b6++[(sB (some 0) aaR)]))))))))) (e0 ail b6))
def dJ (N:Nat) (n_3 aaT:Int) (ahO:LF) (ahP ahQ:Int) (ahR ahS:LF) (ahT ahU ahV:Fl) (agC acY:LF) (aiX aiY a_6 a_7:Int) (e0:Ky8):(Int × Bool × LF)->((Int × Bool × LF)->Bool)->Bool:=λv_ K=>match v_ with
 | (aha,ai1,ajQ)=>(cond (decide (aha<aaT)) (af N (dK N n_3 aha aaT aha n_3 ahO ahP ahQ ahR ahS ahT ahU ahV agC acY aiX aiY a_6 a_7 (λajK akj=>ac .i64 (aha+1)&&K ((aha+1),ajK,akj))) (0,ai1,ajQ)) (e0 ai1 ajQ))
def eJ (N:Nat) (b:Bool) (Y8:LF) (Za Zf:Int) (Zl Zr:LF) (ZA Zx ZF:Fl) (ZL Zh:LF) (k0:Int->Int->Bool->LF->Bool):Bool:=
 (af N (dJ N ((Zr.length:Nat):Int) ((Zr.length:Nat):Int) Y8 Za Zf Zl Zr ZA Zx ZF ZL Zh 0 0 ((Zr.length:Nat):Int) ((Zr.length:Nat):Int) (λajL ajR=>nu N ((Zr.length:Nat):Int) ((Zr.length:Nat):Int) Za Zf Zl ajL Y8 Za Zf Zl Zr ZA Zx ZF ajR ZL Zh (λaeS xsr=>li N ((Zr.length:Nat):Int) ((Zr.length:Nat):Int) Zf ((Zr.length:Nat):Int) ((Zr.length:Nat):Int) aeS Y8 Za Zf Zl Zr ZA Zx ZF xsr ajR ZL Zh (λaeT ZD=>k0 ((Zr.length:Nat):Int) ((Zr.length:Nat):Int) aeT ZD)))) (0,b,[]))
def my (N:Nat):Bool->LF->Int->Int->LF->LF->Fl->Fl->Fl->LF->LF->(Int->Int->Bool->LF->Bool)->Bool:=aw N (eJ N)
def RD (N:Nat) (b:Bool) (Y8:LF) (Za Zf:Int) (Zl Zr:LF) (ZA Zx ZF:Fl) (ZL Zh:LF) (k0:Bool):Bool:=
 k0
def WL (N:Nat):Bool->LF->Int->Int->LF->LF->Fl->Fl->Fl->LF->LF->(Bool)->Bool:=aw N (RD N)
def fi (N:Nat) (p_0 p_1:Int) (b:Bool) (Y8:LF) (Za Zf:Int) (Zl Zr:LF) (ZA Zx ZF:Fl) (ZL Zh ZK ZW:LF) (k0:Ky2) (k1:Kz7):Bool:=
 (WL N b Y8 Za Zf Zl Zr ZA Zx ZF ZK ZW (cond b (k0 0 0 5) (cO N p_0 p_1 Zh (λcr=>cond (!cr) (k0 0 0 151) (k1 0)))))
def ne (N:Nat):Int->Int->Bool->LF->Int->Int->LF->LF->Fl->Fl->Fl->LF->LF->LF->LF->(Ky2)->(Kz7)->Bool:=aw N (fi N)
def nl (N:Nat) (y_1:Fl) (aiH:Int) (s_7:LF) (s_8 s_9:Int) (ahI:LF) (aal aiv:Int) (aiw aix aiy:Fl) (aeC:LF) (abA aeg:Int) (abB abt:LF) (aeh aeD ack:Fl) (aao:LF) (e0:Bool->LF->LF->Bool):(Int × Bool × LF × LF)->((Int × Bool × LF × LF)->Bool)->Bool:=λv_ K=>match v_ with
 | (aae,af0,Zs,b6)=>(cond (decide (aae<aiH)) (inR aae aao.length&&(decide (aae.toNat<aao.length)&&EP N (fdiv (aao.getD aae.toNat none) ack) af0 aeC abA aeg abB abt aeh aeD ack aao b6 (λc8=>decide ((List.length (b6++[(fdiv (aao.getD aae.toNat none) ack)]))*8<=140737488355328)&&(inR aae s_7.length&&(inR aae (List.length (b6++[(fdiv (aao.getD aae.toNat none) ack)]))&&(decide (aae.toNat<(List.length (b6++[(fdiv (aao.getD aae.toNat none) ack)])))&&G5 N (List.getD (b6++[(fdiv (aao.getD aae.toNat none) ack)]) aae.toNat none) y_1 c8 aeC abA aeg abB abt aeh aeD ack aao (b6++[(fdiv (aao.getD aae.toNat none) ack)]) (λabC c9=>EP N (cV (s_7.getD aae.toNat none) abC) c9 aeC abA aeg abB abt aeh aeD ack aao (b6++[(fdiv (aao.getD aae.toNat none) ack)]) (λc10=>inR aae Zs.length&&(decide (aae.toNat<Zs.length)&&(ac .i64 (aae+1)&&K ((aae+1),c10,(Zs.set aae.toNat (cV (s_7.getD aae.toNat none) abC)),(b6++[(fdiv (aao.getD aae.toNat none) ack)])))))))))))) (e0 af0 Zs b6))
def vo (N:Nat) (ZT:LF) (Zw Zz:Int) (ZH h:LF) (r z y_3 aiV:Fl) (akG:Bool) (akH akx:Fl) (b3 akD ajh aeQ:LF) (t_2 t_3:Int) (k0:Kx2) (k1:Kx1) (k2:Kx0):Bool:=
 (k2 t_2 t_3 y_3 akx aiV 0 b3 aeQ ajh)
def vn (N:Nat) (ZT:LF) (Zw Zz:Int) (ZH h:LF) (r z y_2 score:Fl) (akE:Bool) (akF akw:Fl) (ain aht:LF) (t t_1:Int) (k0:Kx2) (k1:Kx1) (k2:Kx0):Bool:=
 (k1 t t_1 y_2 akw score 0 aht)
def nv (N:Nat) (ZT:LF) (Zw Zz:Int) (ZH h:LF) (r z:Fl) (e_2:Int) (u:Bool) (u_1 u_2:Fl) (b4:LF) (k0:Kx2) (k1:Kx1) (k2:Kx0):Bool:=
 (cond (e_2 != 0) (k0 0 0 (some 0) (some 0) (some 0) e_2) (PJ N (sB z u_1) u ZT Zw Zz ZH h r u_1 u_2 b4 (λaaX=>iF 8 ((h.length:Nat):Int) ((h.length:Nat):Int)&&af N (nl N (sB z u_1) (((List.length (List.replicate (Int.toNat ((h.length:Nat):Int)) (some 0))):Nat):Int) ZT Zw Zz ZH 0 0 (some 0) (some 0) (some 0) ZT Zw Zz ZH h r u_1 u_2 b4 (λakv Z2 ab3=>G5 N (sB z u_1) (sB z u_1) akv ZT Zw Zz ZH h r u_1 u_2 b4 ab3 (λahb c11=>EP N (fdiv ahb u_2) c11 ZT Zw Zz ZH h r u_1 u_2 b4 ab3 (λc12=>nW N c12 ZT Zw Zz ZH h r u_1 u_2 b4 ab3 (my N c12 ZT Zw Zz ZH h r u_1 u_2 b4 ab3 (λZe Zt c13 ZD=>ne N Ze Zt c13 ZT Zw Zz ZH h r u_1 u_2 Z2 ZD b4 ab3 (λZC n5 n6=>cond (n6 != 0) (k0 0 0 (some 0) (some 0) (some 0) n6) (vn N ZT Zw Zz ZH h r z (sB z u_1) (fdiv ahb u_2) c13 u_1 u_2 b4 ab3 ZC n5 k0 k1 k2)) (λn7=>cond (n7 != 0) (k0 0 0 (some 0) (some 0) (some 0) n7) (vo N ZT Zw Zz ZH h r z (sB z u_1) (fdiv ahb u_2) c13 u_1 u_2 Z2 b4 ab3 ZD Ze Zt k0 k1 k2)))))))) (0,aaX,(List.replicate (Int.toNat ((h.length:Nat):Int)) (some 0)),[]))))
def vm (N:Nat) (ZT:LF) (Zw Zz:Int) (ZH h:LF) (r z:Fl) (e_1:Int) (k0:Kx2) (k1:Kx1) (k2:Kx0):Bool:=
 (cond (e_1 != 0) (k0 0 0 (some 0) (some 0) (some 0) e_1) false)
def vl (N:Nat) (ZT:LF) (Zw Zz:Int) (ZH h:LF) (r z:Fl) (e:Int) (k0:Kx2) (k1:Kx1) (k2:Kx0):Bool:=
 (cond (e != 0) (k0 0 0 (some 0) (some 0) (some 0) e) false)
def pc (N:Nat) (ZT:LF) (Zw Zz:Int) (ZH h:LF) (r z:Fl) (k0:Kx2) (k1:Kx1) (k2:Kx0):Bool:=
 (yy N ZT Zw Zz ZH h r (λnr=>cond ((nr==0)==false) (vl N ZT Zw Zz ZH h r z nr k0 k1 k2) (yu N [z] (λZb=>cond (!Zb) (k0 0 0 (some 0) (some 0) (some 0) 4) (vm N ZT Zw Zz ZH h r z nr k0 k1 k2)))) (λY_ cr xr Z5 xsr=>cond ((Y_==0)==false) (yu N [z] (λZE=>cond (!ZE) (k0 0 0 (some 0) (some 0) (some 0) 4) (nv N ZT Zw Zz ZH h r z Y_ cr xr Z5 xsr k0 k1 k2))) (yu N [z] (λZX=>cond (!ZX) (k0 0 0 (some 0) (some 0) (some 0) 4) (nv N ZT Zw Zz ZH h r z Y_ cr xr Z5 xsr k0 k1 k2)))))
def xD (N:Nat):LF->Int->Int->LF->LF->Fl->Fl->(Kx2)->(Kx1)->(Kx0)->Bool:=aw N (pc N)
def rQ (N:Nat) (ZT:LF) (Zw Zz:Int) (ZH h:LF) (r z:Fl) (k0:Kx2) (k1:Kx1) (k2:Kx0):Bool:=
 (xD N ZT Zw Zz ZH h r z (λnr Y_ xr Z5 aaR Ze=>k0 nr Y_ xr Z5 aaR Ze) (λZt ZC abC ahb aj0 n5 xsr=>k1 Zt ZC abC ahb aj0 n5 xsr) (λn6 n7 ajB ajC ajD n8 ZD ZZ aay=>k2 n6 n7 ajB ajC ajD n8 ZD ZZ aay))
def Ab (N:Nat):LF->Int->Int->LF->LF->Fl->Fl->(Kx2)->(Kx1)->(Kx0)->Bool:=aw N (rQ N)
def V5 (N:Nat) (k0:Kz6):Bool:=
 (Ab N [(some 0)] 1 1 [(some 4616189618054758400)] [(some 4607182418800017408)] (some 4607182418800017408) (some 4617315517961601024) (λnr Y_ xr Z5 aaR Ze=>cond ((Ze==0)==true) (k0 false) (k0 false)) (λZt ZC abC ahb aj0 n5 xsr=>cond ((n5==0)==true) (k0 false) (k0 false)) (λn6 n7 ajB ajC ajD n8 ZD ZZ aay=>cond ((n8==0)==true) (cond ((((ZD.length:Nat):Int)==1)==true) (inR 0 ZD.length&&(decide (0<ZD.length)&&cond ((feq (ZD.getD 0 none) (some 4616189618054758400))==true) (cond ((feq ajC (some 4617315517961601024))==true) (cond ((feq ajB (some 4617315517961601024))==true) (cond ((feq ajD (some 4617315517961601024))==true) (e9 N [(some 0)] 1 1 [(some 4616189618054758400)] (λn9=>k0 (n9==0))) (k0 false)) (k0 false)) (k0 false)) (k0 false))) (k0 false)) (k0 false)))
def PC (N:Nat):(Kz6)->Bool:=aw N (V5 N)
def GQ1 (N:Nat) (x:LI) (rows:Int) (p:LI) (m:List RY0) (ticks:Int) (k0:Kz6):Bool:=
 (PB N x rows rows p (λxsr ZD=>pP N xsr rows rows ZD m ticks (λnr Y_ Ze=>Q3 N xsr ZD (λacT acU=>PB N x rows rows p (λad7 ad8=>rJ N ad7 rows rows ad8 m ticks (λn6 n7 n8=>I7 N [] nr Y_ [] [] n6 n7 [] (λcr=>cond (cr==true) (cond ((Ze==n8)==true) (PC N (λZb=>k0 Zb)) (k0 false)) (k0 false))) (λn9 n10 n11 abT y11=>I7 N [] nr Y_ [] abT n9 n10 y11 (λZE=>cond (ZE==true) (cond ((Ze==n11)==true) (PC N (λZX=>k0 ZX)) (k0 false)) (k0 false)))))) (λZt ZC n5 ZZ aay=>Q3 N xsr ZD (λacV aet=>PB N x rows rows p (λy12 y13=>rJ N y12 rows rows y13 m ticks (λn12 n13 n14=>I7 N ZZ Zt ZC aay [] n12 n13 [] (λaaX=>cond (aaX==true) (cond ((n5==n14)==true) (PC N (λaed=>k0 aed)) (k0 false)) (k0 false))) (λn15 n16 n17 y14 y15=>I7 N ZZ Zt ZC aay y14 n15 n16 y15 (λaeS=>cond (aeS==true) (cond ((n5==n17)==true) (PC N (λaeT=>k0 aeT)) (k0 false)) (k0 false))))))))
def sQ1 (N:Nat):LI->Int->LI->List RY0->Int->(Kz6)->Bool:=GQ1 N
end Go.Proofs.YtbiingchhnlcnaaGreatDoor
