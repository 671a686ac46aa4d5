/- The program's functions and their ties. Conditions: none. -/
import Derived.Test.YtdinakfmablagaaGreatDoorMachT
set_option linter.unusedVariables false
namespace Go.Proofs.YtdinakfmablagaaGreatDoor
open Go Go.Mach
abbrev LI:=List Int
abbrev LF:=List Fl
abbrev Kx0:=Int->Int->LF->LF->Fl->Int->Bool
abbrev Kx1:=Int->Int->Int->Int->Bool->Bool
abbrev Kx2:=Int->Int->Int->LF->LF->Bool
abbrev Kx3:=Int->Int->LF->LF->Int->Bool
abbrev Kx4:=Bool->Int->Int->Int->Bool
abbrev Kx5:=Bool->LI->Bool->LI->Bool
abbrev Kx6:=Int->Int->Int->Int->Bool
abbrev Kx7:=Bool->Int->Int->Bool
abbrev Kx8:=Bool->Nat->Nat->Bool
abbrev Kx9:=Int->Int->Int->Bool
abbrev Ky0:=Bool->LF->LF->Bool
abbrev Ky1:=Bool->Bool->Bool
abbrev Ky2:=Bool->LI->Bool
abbrev Ky3:=Int->Int->Bool
abbrev Ky4:=Fl->Bool->Bool
abbrev Ky5:=Bool->LF->Bool
abbrev Ky6:=Int->LI->Bool
abbrev Ky7:=Nat->LI->Bool
abbrev Ky8:=LF->LF->Bool
abbrev Ky9:=LI->LI->Bool
abbrev Kz0:=Bool->Bool
abbrev Kz1:=Int->Bool
abbrev Kz2:=Nat->Bool
abbrev Kz3:=Fl->Bool
abbrev Kz4:=LF->Bool
abbrev Kz5:=LI->Bool
abbrev RT0:RT:=(.ptr (.pair (.pair .bool (.ints .u64)) (.pair .bool (.ints .u64))))
abbrev RY0:=(Bool × LI) × Bool × LI
abbrev RT1:RT:=(.pair (.pair .bool (.ints .u32)) (.pair .bool (.ints .u32)))
abbrev RY1:=(Bool × LI) × Bool × LI
abbrev RT2:RT:=(.ptr (.pair (.pair .bool (.ints .u32)) (.pair .bool (.ints .u32))))
abbrev RY2:=(Bool × LI) × Bool × LI
def az:LI:=[0,1,2,2,3,3,3,3,4,4,4,4,4,4,4,4,5,5,5,5,5,5,5,5,5,5,5,5,5,5,5,5,6,6,6,6,6,6,6,6,6,6,6,6,6,6,6,6,6,6,6,6,6,6,6,6,6,6,6,6,6,6,6,6,7,7,7,7,7,7,7,7,7,7,7,7,7,7,7,7,7,7,7,7,7,7,7,7,7,7,7,7,7,7,7,7,7,7,7,7,7,7,7,7,7,7,7,7,7,7,7,7,7,7,7,7,7,7,7,7,7,7,7,7,7,7,7,7,8,8,8,8,8,8,8,8,8,8,8,8,8,8,8,8,8,8,8,8,8,8,8,8,8,8,8,8,8,8,8,8,8,8,8,8,8,8,8,8,8,8,8,8,8,8,8,8,8,8,8,8,8,8,8,8,8,8,8,8,8,8,8,8,8,8,8,8,8,8,8,8,8,8,8,8,8,8,8,8,8,8,8,8,8,8,8,8,8,8,8,8,8,8,8,8,8,8,8,8,8,8,8,8,8,8,8,8,8,8,8,8,8,8,8,8,8,8,8,8,8,8,8,8,8,8,8,8]
abbrev J_:=Nat->(Kz1)->Bool
def BV (N:Nat):J_:=λn k=>k n
def A7 (N:Nat) (k0:Kx9):Bool:=
 (k0 52 2047 1075)
def rN (N:Nat):(Kx9)->Bool:=A7 N
def Hw (N:Nat) (VR VY V7:Int) (k0:Kz1):Bool:=
 (af .i64 (VY+1)&&(decide (0<=VR)&&k0 (IntKind.wrap .u64 ((IntKind.wrap .u64 (VY+1))*2 ^ (min VR.toNat 64)))))
def vA (N:Nat):Int->Int->Int->(Kz1)->Bool:=Hw N
def zL (N:Nat) (VR VY V7:Int) (k0:Kz1):Bool:=
 (decide (0<=VR)&&k0 (IntKind.wrap .u64 ((IntKind.wrap .u64 VY)*2 ^ (min VR.toNat 64))))
def nu (N:Nat):Int->Int->Int->(Kz1)->Bool:=zL N
def JA (N:Nat) (b VR VY V7:Int) (k0:Kz0):Bool:=
 (vA N VR VY V7 (λnr=>nu N VR VY V7 (λUY=>k0 (decide ((aB .andNot .u64 b nr)>UY)))))
def Ma (N:Nat):Int->Int->Int->Int->(Kz0)->Bool:=aC N (JA N)
def Cj (N:Nat) (VR VY V7:Int) (k0:Kz1):Bool:=
 (decide (0<=VR)&&k0 (IntKind.wrap .u64 ((1:Int)*2 ^ (min VR.toNat 64))))
def lw (N:Nat):Int->Int->Int->(Kz1)->Bool:=Cj N
def uO (N:Nat) (VR VY V7:Int) (k0:Kz1):Bool:=
 (nu N VR VY V7 (λnr=>lw N VR VY V7 (λUY=>k0 (aB .or .u64 (aB .or .u64 nr (Int.fdiv UY (2 ^ 1))) (IntKind.wrap .u64 (Int.tdiv VR 52))))))
def vz (N:Nat):Int->Int->Int->(Kz1)->Bool:=aC N (uO N)
def SB (N:Nat) (b VR VY V7:Int) (k0:Kz1):Bool:=
 (Ma N b VR VY V7 (λcr=>cond cr (vz N VR VY V7 (λnr=>k0 nr)) (k0 b)))
def Mo (N:Nat):Int->Int->Int->Int->(Kz1)->Bool:=SB N
def PR (N:Nat) (b VR VY V7:Int) (k0:Kx7):Bool:=
 (Mo N b VR VY V7 (λnr=>vA N VR VY V7 (λUY=>decide (0<=VR)&&(af .i64 (aB .and .u64 (Int.fdiv nr (2 ^ (min VR.toNat 64))) (IntKind.wrap .u64 VY))&&lw N VR VY V7 (λU4=>k0 ((aB .and .u64 nr UY) != 0) (aB .and .u64 (Int.fdiv nr (2 ^ (min VR.toNat 64))) (IntKind.wrap .u64 VY)) (aB .and .u64 nr (IntKind.wrap .u64 (U4 - 1))))))))
def On (N:Nat):Int->Int->Int->Int->(Kx7)->Bool:=aC N (PR N)
def PQ (N:Nat) (b VR VY V7:Int) (k0:Kz1):Bool:=
 (On N b VR VY V7 (λcr nr UY=>cond ((nr==VY)==true) (cond (UY != 0) (k0 1) (cond (nr==VY) (k0 2) (cond ((nr==0)==true) (cond (UY==0) (k0 3) (cond (nr==0) (k0 4) (k0 5))) (cond (nr==0) (k0 4) (k0 5))))) (cond (nr==VY) (k0 2) (cond ((nr==0)==true) (cond (UY==0) (k0 3) (cond (nr==0) (k0 4) (k0 5))) (cond (nr==0) (k0 4) (k0 5))))))
def Om (N:Nat):Int->Int->Int->Int->(Kz1)->Bool:=aC N (PQ N)
abbrev SI:=Nat->(Kz1)->Bool
def GQ6 (N x:Nat) (k0:Kz1):Bool:=
 (BV N x (λnr=>rN N (λUY U4 Vg=>Om N nr UY U4 Vg (λVo=>k0 Vo))))
def sQ6 (N:Nat):Nat->(Kz1)->Bool:=GQ6 N
abbrev SJ:=Nat->Nat->(Kz0)->Bool
def GQ7 (N a b:Nat) (k0:Kz0):Bool:=
 (BV N a (λnr=>rN N (λUY U4 Vg=>Mo N nr UY U4 Vg (λVo=>BV N b (λn5=>rN N (λn6 n7 n8=>Mo N n5 n6 n7 n8 (λn9=>k0 (Vo==n9))))))))
def sQ7 (N:Nat):Nat->Nat->(Kz0)->Bool:=GQ7 N
abbrev EF:=Int->(Kz3)->Bool
def wH (N:Nat):EF:=λn k=>k (gk n.toNat)
abbrev OQ:=Nat->(Kz3)->Bool
def Sx (N x:Nat) (k0:Kz3):Bool:=
 (BV N x (λnr=>wH N (aB .andNot .u64 nr 9223372036854775808) (λxr=>k0 xr)))
def FV (N:Nat):Nat->(Kz3)->Bool:=Sx N
def kR (N:Nat) (VQ:LI) (XC:Int) (e0:Kz4):(Int × LF)->((Int × LF)->Bool)->Bool:=λv_ K=>match v_ with
 | (W5,x)=>(cond (decide (W5<XC)) (inR W5 VQ.length&&wH N (VQ.getD W5.toNat 0) (λVm=>decide ((List.length (x++[Vm]))*8<=140737488355328)&&(af .i64 (W5+1)&&K ((W5+1),(x++[Vm]))))) (e0 x))
def sD (N:Nat) (l:LI) (k0:Kz4):Bool:=
 (aj N (kR N l ((l.length:Nat):Int) (λVe=>k0 Ve)) (0,[]))
def ji (N:Nat):LI->(Kz4)->Bool:=aC N (sD N)
def Sy (N:Nat) (v:LI) (rows cols:Int) (y:LI) (k0:Ky8):Bool:=
 (ji N v (λxsr=>ji N y (λVp=>k0 Vp xsr)))
def Oi (N:Nat):LI->Int->Int->LI->(Ky8)->Bool:=Sy N
def Tw (N:Nat) (b:Int) (k0:Kz3):Bool:=
 (wH N b (λxr=>k0 xr))
def BU (N:Nat):Int->(Kz3)->Bool:=Tw N
def JC (N:Nat) (n:Int) (k0:Kz0):Bool:=
 (cond ((decide (n>=0))==true) (k0 (decide (n<=12))) (k0 false))
def AX (N:Nat):Int->(Kz0)->Bool:=JC N
abbrev Ka:=Fl->(Kz1)->Bool
def Mn (N:Nat):Ka:=λx k=>k (xT x)
def jZ (N:Nat) (t6:LF) (t7:Int) (e0:Kz0) (e1:Bool):(Int)->((Int)->Bool)->Bool:=λv_ K=>match v_ with
 | t8=>(cond (decide (t8<t7)) (inR t8 t6.length&&Mn N (t6.getD t8.toNat none) (λnr=>cond ((nr==1)==false) (cond (nr==2) (e0 false) (af .i64 (t8+1)&&K (t8+1))) (e0 false))) e1)
def JJ (N:Nat) (l:LF) (k0:Kz0):Bool:=
 (aj N (jZ N l ((l.length:Nat):Int) (λt2=>k0 t2) (k0 true)) 0)
def wK (N:Nat):LF->(Kz0)->Bool:=aC N (JJ N)
def MP (N:Nat) (Vk U5:Int) (Vd:LF) (k0:Kz1):Bool:=
 (AX N Vk (λcr=>cond ((!cr)==false) (AX N U5 (λUZ=>cond (!UZ) (k0 1) (af .i64 (Vk*U5)&&cond (((Vd.length:Nat):Int) != (Vk*U5)) (k0 3) (wK N Vd (λVc=>cond (!Vc) (k0 4) (k0 0)))))) (k0 1)))
def D7 (N:Nat):Int->Int->LF->(Kz1)->Bool:=aC N (MP N)
def vN (N:Nat) (Vk U5:Int) (Vd:LF) (i j:Int) (k0:Kz3):Bool:=
 (af .i64 (i*U5)&&(af .i64 ((i*U5)+j)&&(inR ((i*U5)+j) Vd.length&&k0 (Vd.getD (Int.toNat ((i*U5)+j)) none))))
def ne (N:Nat):Int->Int->LF->Int->Int->(Kz3)->Bool:=vN N
abbrev EE:=Fl->Fl->(Kz0)->Bool
def DT (N:Nat):EE:=λx y k=>k (decide (cn x=cn y))
def B_ (N:Nat) (i X8 X9 t20 Wd Wc:Int) (Wh:LF) (e0:Kz0) (e1:Bool):(Int)->((Int)->Bool)->Bool:=λv_ K=>match v_ with
 | t21=>(cond (decide (t21<t20)) (ne N Wd Wc Wh i t21 (λxr=>ne N Wd Wc Wh t21 i (λVm=>DT N xr Vm (λcr=>cond (!cr) (e0 false) (af .i64 (t21+1)&&K (t21+1)))))) e1)
def B9 (N:Nat) (t16 m VH:Int) (V5:LF) (e0:Kz0) (e1:Bool):(Int)->((Int)->Bool)->Bool:=λv_ K=>match v_ with
 | t17=>(cond (decide (t17<t16)) (aj N (B_ N t17 t16 t17 t17 m VH V5 (λt2=>e0 t2) (af .i64 (t17+1)&&K (t17+1))) 0) e1)
def P5 (N:Nat) (Vk U5:Int) (Vd:LF) (k0:Kz0):Bool:=
 (D7 N Vk U5 Vd (λnr=>cond ((nr != 0)==false) (cond (Vk != U5) (k0 false) (aj N (B9 N Vk Vk U5 Vd (λVK=>k0 VK) (k0 true)) 0)) (k0 false)))
def RZ (N:Nat):Int->Int->LF->(Kz0)->Bool:=aC N (P5 N)
def tR (N:Nat) (is:Bool) (e:Int) (k0:Bool):Bool:=
 (cond (!is) false k0)
def cW (N:Nat):Bool->Int->(Bool)->Bool:=tR N
abbrev Kb:=Fl->(Kz1)->Bool
def tB (N:Nat):Kb:=λx k=>match x with | some b=>k b | none=>false
def GQ9 (N:Nat) (x:Int) (k0:Kz1):Bool:=
 (cond (x==0) (k0 64) (inR (Int.fdiv (IntKind.wrap .u64 ((aB .and .u64 x (IntKind.wrap .u64 (0 - x)))*285870213051353865)) (2 ^ 58)) 64&&(af .i64 (wS.getD (Int.toNat (Int.fdiv (IntKind.wrap .u64 ((aB .and .u64 x (IntKind.wrap .u64 (0 - x)))*285870213051353865)) (2 ^ 58))) 0)&&k0 (wS.getD (Int.toNat (Int.fdiv (IntKind.wrap .u64 ((aB .and .u64 x (IntKind.wrap .u64 (0 - x)))*285870213051353865)) (2 ^ 58))) 0))))
def sQ9 (N:Nat):Int->(Kz1)->Bool:=aC N (GQ9 N)
def Hz (N:Nat) (b VR VY V7:Int) (p:Bool) (Xs XP:Int) (k0:Kx4):Bool:=
 (sQ9 N Xs (λVo=>decide (0<=Vo)&&(af .i64 (XP+Vo)&&k0 p (Int.fdiv Xs (2 ^ (min Vo.toNat 64))) (XP+Vo) 0)))
def P3 (N:Nat) (b VR VY V7:Int) (k0:Kx4):Bool:=
 (On N b VR VY V7 (λcr nr UY=>af .i64 (nr - V7)&&Om N b VR VY V7 (λU4=>cond (U4==1) (k0 false 0 0 4) (cond (U4==2) (k0 false 0 0 4) (cond (U4==3) (k0 cr 0 0 0) (cond (U4==4) (af .i64 ((nr - V7)+1)&&Hz N b VR VY V7 cr UY ((nr - V7)+1) k0) (lw N VR VY V7 (λVg=>Hz N b VR VY V7 cr (aB .or .u64 UY Vg) (nr - V7) k0))))))))
def RX (N:Nat):Int->Int->Int->Int->(Kx4)->Bool:=aC N (P3 N)
def xC (N:Nat) (x:Fl) (k0:Kx4):Bool:=
 (tB N x (λnr=>rN N (λUY U4 Vg=>RX N nr UY U4 Vg (λcr Vo n5 n6=>k0 cr Vo n5 n6))))
def oX (N:Nat):Fl->(Kx4)->Bool:=xC N
def tK (N:Nat) (x:LI) (e0:Kz1):(Int)->((Int)->Bool)->Bool:=λv_ K=>match v_ with
 | n=>(cond ((decide (n>0))==true) (af .i64 (n - 1)&&(inR (n - 1) x.length&&(decide ((Int.toNat (n - 1))<x.length)&&cond ((x.getD (Int.toNat (n - 1)) 0)==0) (af .i64 (n - 1)&&K (n - 1)) (e0 n)))) (e0 n))
def PL (N:Nat) (b:LI) (k0:Kz2):Bool:=
 (aj N (tK N b (λU8=>decide (0<=U8/\U8<=((b.length:Nat):Int))&&k0 (U8.toNat - 0))) ((b.length:Nat):Int))
def uA (N:Nat):LI->(Kz2)->Bool:=aC N (PL N)
def xD (N:Nat) (n:Int) (k0:Kz5):Bool:=
 (uA N [n] (λmr=>decide ((0+mr)<=(List.length [n]))&&k0 (List.take mr (List.drop 0 [n]))))
def jf (N:Nat):Int->(Kz5)->Bool:=xD N
def Sm (N:Nat) (neg:Bool) (abs:LI) (b:Bool) (k0:Kz0):Bool:=
 (cond (neg==true) (k0 (decide (((abs.length:Nat):Int)>0))) (k0 false))
def BT (N:Nat):Bool->LI->Bool->(Kz0)->Bool:=Sm N
def Pz (N:Nat) (n:Int) (b:Bool) (k0:Ky2):Bool:=
 (jf N n (λnsr=>BT N false nsr b (λcr=>k0 cr nsr)))
def N8 (N:Nat):Int->Bool->(Ky2)->Bool:=aC N (Pz N)
def OE (N:Nat) (x:LI) (k0:Kz5):Bool:=
 (decide ((List.length ([]++x))*8<=140737488355328)&&k0 ([]++x))
def pD (N:Nat):LI->(Kz5)->Bool:=OE N
def Tx (N:Nat) (neg:Bool) (abs:LI) (b:Bool) (UV:LI) (k0:Kz0):Bool:=
 (cond (neg==true) (k0 (decide (((abs.length:Nat):Int)>0))) (k0 false))
def I0 (N:Nat):Bool->LI->Bool->LI->(Kz0)->Bool:=Tx N
def PM (N:Nat) (b:Bool) (UV:LI) (k0:Ky2):Bool:=
 (pD N UV (λnsr=>I0 N (!b) nsr b UV (λcr=>k0 cr nsr)))
def Og (N:Nat):Bool->LI->(Ky2)->Bool:=aC N (PM N)
def PP (N:Nat) (n:Int) (b:Bool) (k0:Ky2):Bool:=
 (cond (decide (n<0)) (jf N (IntKind.wrap .u64 (0 - (IntKind.wrap .u64 n))) (λnsr=>BT N true nsr b (λcr=>k0 cr nsr))) (jf N (IntKind.wrap .u64 n) (λUW=>BT N false UW b (λUZ=>k0 UZ UW))))
def Te (N:Nat):Int->Bool->(Ky2)->Bool:=aC N (PP N)
def OO (N:Nat) (n:Int) (k0:Ky2):Bool:=
 (Te N n false (λcr nsr=>k0 cr nsr))
def D5 (N:Nat):Int->(Ky2)->Bool:=OO N
def eA (N:Nat) (words rest:Int) (t24:LI) (t25:Int) (e0:Kz5):(Int × LI)->((Int × LI)->Bool)->Bool:=λv_ K=>match v_ with
 | (t26,z)=>(cond (decide (t26<t25)) (inR t26 t24.length&&(af .i64 (words+t26)&&(inR (words+t26) z.length&&(decide ((Int.toNat (words+t26))<z.length)&&(decide (0<=rest)&&(inR (words+t26) z.length&&(decide ((Int.toNat (words+t26))<z.length)&&(af .i64 (words+t26)&&(af .i64 ((words+t26)+1)&&(decide (0<=(IntKind.wrap .u64 (64 - rest)))&&(inR ((words+t26)+1) (List.length (z.set (Int.toNat (words+t26)) (aB .or .u64 (z.getD (Int.toNat (words+t26)) 0) (IntKind.wrap .u64 ((t24.getD t26.toNat 0)*2 ^ (min rest.toNat 64))))))&&(decide ((Int.toNat ((words+t26)+1))<(List.length (z.set (Int.toNat (words+t26)) (aB .or .u64 (z.getD (Int.toNat (words+t26)) 0) (IntKind.wrap .u64 ((t24.getD t26.toNat 0)*2 ^ (min rest.toNat 64)))))))&&(af .i64 (t26+1)&&K ((t26+1),(List.set (z.set (Int.toNat (words+t26)) (aB .or .u64 (z.getD (Int.toNat (words+t26)) 0) (IntKind.wrap .u64 ((t24.getD t26.toNat 0)*2 ^ (min rest.toNat 64))))) (Int.toNat ((words+t26)+1)) (Int.fdiv (t24.getD t26.toNat 0) (2 ^ (min (Int.toNat (IntKind.wrap .u64 (64 - rest))) 64)))))))))))))))))) (e0 z))
def sy (N:Nat) (x:LI) (n:Int) (k0:Kz5):Bool:=
 (cond (((x.length:Nat):Int)==0) (k0 []) (af .i64 (IntKind.wrap .u64 (Int.tdiv n 64))&&(af .i64 ((IntKind.wrap .u64 (Int.tdiv n 64))+((x.length:Nat):Int))&&(af .i64 (((IntKind.wrap .u64 (Int.tdiv n 64))+((x.length:Nat):Int))+1)&&(iU 8 (((IntKind.wrap .u64 (Int.tdiv n 64))+((x.length:Nat):Int))+1) (((IntKind.wrap .u64 (Int.tdiv n 64))+((x.length:Nat):Int))+1)&&aj N (eA N (IntKind.wrap .u64 (Int.tdiv n 64)) (Int.tmod n 64) x ((x.length:Nat):Int) (λVI=>uA N VI (λmr=>decide ((0+mr)<=VI.length)&&k0 (List.take mr (List.drop 0 VI))))) (0,(List.replicate (Int.toNat (((IntKind.wrap .u64 (Int.tdiv n 64))+((x.length:Nat):Int))+1)) (0:Int))))))))
def tC (N:Nat):LI->Int->(Kz5)->Bool:=aC N (sy N)
def SD (N:Nat) (n:Int) (b UV:Bool) (UX:LI) (k0:Ky2):Bool:=
 (tC N UX n (λnsr=>BT N UV nsr b (λcr=>k0 cr nsr)))
def RV (N:Nat):Int->Bool->Bool->LI->(Ky2)->Bool:=SD N
def tG (N:Nat) (Ve Vl:LI) (e0:Kz1) (e1:Bool):(Int)->((Int)->Bool)->Bool:=λv_ K=>match v_ with
 | i=>(cond (decide (i>=0)) (inR i Ve.length&&(inR i Vl.length&&cond ((Ve.getD i.toNat 0) != (Vl.getD i.toNat 0)) (inR i Ve.length&&(inR i Vl.length&&cond (decide ((Ve.getD i.toNat 0)<(Vl.getD i.toNat 0))) (e0 (-1)) (e0 1))) (af .i64 (i - 1)&&K (i - 1)))) e1)
def JB (N:Nat) (x y:LI) (k0:Kz1):Bool:=
 (cond (((x.length:Nat):Int) != ((y.length:Nat):Int)) (cond (decide (((x.length:Nat):Int)<((y.length:Nat):Int))) (k0 (-1)) (k0 1)) (af .i64 (((x.length:Nat):Int) - 1)&&aj N (tG N x y (λt4=>k0 t4) (k0 0)) (((x.length:Nat):Int) - 1)))
def AW (N:Nat):LI->LI->(Kz1)->Bool:=aC N (JB N)
def Gj (N:Nat) (x Vs U8:Int) (k0:Kz1):Bool:=
 (cond (decide (Vs>=256)) (af .i64 (U8+8)&&(inR (IntKind.wrap .u8 (Int.fdiv Vs (2 ^ 8))) 256&&(af .i64 (az.getD (Int.toNat (IntKind.wrap .u8 (Int.fdiv Vs (2 ^ 8)))) 0)&&(af .i64 ((U8+8)+(az.getD (Int.toNat (IntKind.wrap .u8 (Int.fdiv Vs (2 ^ 8)))) 0))&&k0 ((U8+8)+(az.getD (Int.toNat (IntKind.wrap .u8 (Int.fdiv Vs (2 ^ 8)))) 0)))))) (inR (IntKind.wrap .u8 Vs) 256&&(af .i64 (az.getD (Int.toNat (IntKind.wrap .u8 Vs)) 0)&&(af .i64 (U8+(az.getD (Int.toNat (IntKind.wrap .u8 Vs)) 0))&&k0 (U8+(az.getD (Int.toNat (IntKind.wrap .u8 Vs)) 0))))))
def Gi (N:Nat) (x Ve n:Int) (k0:Kz1):Bool:=
 (cond (decide (Ve>=65536)) (af .i64 (n+16)&&Gj N x (Int.fdiv Ve (2 ^ 16)) (n+16) k0) (Gj N x Ve n k0))
def PY (N:Nat) (x:Int) (k0:Kz1):Bool:=
 (cond (decide (x>=4294967296)) (Gi N x (Int.fdiv x (2 ^ 32)) 32 k0) (Gi N x x 0 k0))
def Ou (N:Nat):Int->(Kz1)->Bool:=aC N (PY N)
def n_ (N:Nat) (x:LI) (k0:Kz1):Bool:=
 (cond (((x.length:Nat):Int)==0) (k0 0) (af .i64 (((x.length:Nat):Int) - 1)&&(af .i64 (64*(((x.length:Nat):Int) - 1))&&(af .i64 (((x.length:Nat):Int) - 1)&&(inR (((x.length:Nat):Int) - 1) x.length&&Ou N (x.getD (Int.toNat (((x.length:Nat):Int) - 1)) 0) (λnr=>af .i64 ((64*(((x.length:Nat):Int) - 1))+nr)&&k0 ((64*(((x.length:Nat):Int) - 1))+nr)))))))
def oY (N:Nat):LI->(Kz1)->Bool:=aC N (n_ N)
def OK (N:Nat) (x:LI) (i:Int) (k0:Kz1):Bool:=
 (cond (decide (i<((x.length:Nat):Int))) (inR i x.length&&k0 (x.getD i.toNat 0)) (k0 0))
def wL (N:Nat):LI->Int->(Kz1)->Bool:=OK N
def uN (N:Nat) (x:LI) (from_:Int) (k0:Kz1):Bool:=
 (af .i64 (Int.tdiv from_ 64)&&wL N x (Int.tdiv from_ 64) (λnr=>decide (0<=(IntKind.wrap .u64 (Int.tmod from_ 64)))&&(af .i64 ((Int.tdiv from_ 64)+1)&&wL N x ((Int.tdiv from_ 64)+1) (λUY=>decide (0<=(IntKind.wrap .u64 (64 - (IntKind.wrap .u64 (Int.tmod from_ 64)))))&&k0 (aB .or .u64 (Int.fdiv nr (2 ^ (min (Int.toNat (IntKind.wrap .u64 (Int.tmod from_ 64))) 64))) (IntKind.wrap .u64 (UY*2 ^ (min (Int.toNat (IntKind.wrap .u64 (64 - (IntKind.wrap .u64 (Int.tmod from_ 64))))) 64))))))))
def rP (N:Nat):LI->Int->(Kz1)->Bool:=aC N (uN N)
def mH (N:Nat) (t4 Xw Xx Xy:Int) (Xz:Bool) (e0:Kx1):(Int × Int × Int × Int × Int × Int × Int × Int × Bool)->((Int × Int × Int × Int × Int × Int × Int × Int × Bool)->Bool)->Bool:=λv_ K=>match v_ with
 | (Ve,Vl,u,v,w,W_,VB,Wi,Ym)=>(cond ((decide (Vl>=v))==true) (cond (decide ((IntKind.wrap .u64 (Ve - Vl))>=(IntKind.wrap .u64 (Wi+v)))) ((!decide (Vl=0))&&((!decide (Vl=0))&&K (Vl,(Int.tmod Ve Vl),(IntKind.wrap .u64 (VB+(IntKind.wrap .u64 ((IntKind.wrap .u64 (Int.tdiv Ve Vl))*u)))),(IntKind.wrap .u64 (Wi+(IntKind.wrap .u64 ((IntKind.wrap .u64 (Int.tdiv Ve Vl))*v)))),VB,Wi,u,v,(!Ym)))) (e0 w W_ VB Wi Ym)) (e0 w W_ VB Wi Ym))
def vM (N:Nat) (x y:Int) (k0:Kx1):Bool:=
 (aj N (mH N 0 0 0 0 false (λZ0 Z1 Z2 Z3 Z4=>k0 Z0 Z1 Z2 Z3 Z4)) (x,y,0,1,0,0,1,0,true))
def qK (N:Nat):Int->Int->(Kx1)->Bool:=aC N (vM N)
def Jy (N:Nat) (x y:Int) (k0:Ky3):Bool:=
 (k0 (IntKind.wrap .u64 ((IntKind.wrap .u64 ((IntKind.wrap .u64 ((Int.fdiv x (2 ^ 32))*(Int.fdiv y (2 ^ 32))))+(Int.fdiv (IntKind.wrap .u64 ((IntKind.wrap .u64 ((Int.fdiv x (2 ^ 32))*(aB .and .u64 y 4294967295)))+(Int.fdiv (IntKind.wrap .u64 ((aB .and .u64 x 4294967295)*(aB .and .u64 y 4294967295))) (2 ^ 32)))) (2 ^ 32))))+(Int.fdiv (IntKind.wrap .u64 ((aB .and .u64 (IntKind.wrap .u64 ((IntKind.wrap .u64 ((Int.fdiv x (2 ^ 32))*(aB .and .u64 y 4294967295)))+(Int.fdiv (IntKind.wrap .u64 ((aB .and .u64 x 4294967295)*(aB .and .u64 y 4294967295))) (2 ^ 32)))) 4294967295)+(IntKind.wrap .u64 ((aB .and .u64 x 4294967295)*(Int.fdiv y (2 ^ 32)))))) (2 ^ 32)))) (IntKind.wrap .u64 (x*y)))
def DY (N:Nat):Int->Int->(Ky3)->Bool:=aC N (Jy N)
abbrev Rd:=Int->Int->Int->(Ky3)->Bool
def sQ3 (N:Nat):Rd:=λx y c k=>(decide (c.toNat<=1))&&k (((x.toNat+y.toNat+c.toNat)%18446744073709551616:Nat):Int) (((x.toNat+y.toNat+c.toNat) / 18446744073709551616:Nat):Int)
def sx (N:Nat) (a b c d:Int) (k0:Ky3):Bool:=
 (DY N a b (λnr UY=>sQ3 N UY c 0 (λU4 Vg=>sQ3 N U4 d 0 (λVo n5=>k0 (IntKind.wrap .u64 ((IntKind.wrap .u64 (nr+Vg))+n5)) Vo))))
def kw (N:Nat):Int->Int->Int->Int->(Ky3)->Bool:=aC N (sx N)
def kP (N:Nat) (Ve:LI) (Vv:Int) (t14:LI) (t15:Int) (e0:Ky6):(Int × Int × LI)->((Int × Int × LI)->Bool)->Bool:=λv_ K=>match v_ with
 | (X3,t16,z)=>(cond (decide (t16<t15)) (inR t16 t14.length&&kw N (t14.getD t16.toNat 0) Vv 0 X3 (λnr UY=>inR t16 z.length&&(decide (t16.toNat<z.length)&&(af .i64 (t16+1)&&K (nr,(t16+1),(z.set t16.toNat UY)))))) (e0 X3 z))
def JL (N:Nat) (x:LI) (d more:Int) (k0:Kz5):Bool:=
 (af .i64 (((x.length:Nat):Int)+1)&&(iU 8 (((x.length:Nat):Int)+1) (((x.length:Nat):Int)+1)&&aj N (kP N x d x ((x.length:Nat):Int) (λXr VI=>inR ((x.length:Nat):Int) VI.length&&(decide ((Int.toNat ((x.length:Nat):Int))<VI.length)&&uA N (VI.set (Int.toNat ((x.length:Nat):Int)) Xr) (λmr=>decide ((0+mr)<=(List.length (VI.set (Int.toNat ((x.length:Nat):Int)) Xr)))&&k0 (List.take mr (List.drop 0 (VI.set (Int.toNat ((x.length:Nat):Int)) Xr))))))) (more,0,(List.replicate (Int.toNat (((x.length:Nat):Int)+1)) (0:Int)))))
def sr (N:Nat):LI->Int->Int->(Kz5)->Bool:=aC N (JL N)
abbrev Re:=Int->Int->Int->(Ky3)->Bool
def sQ4 (N:Nat):Re:=λx y c k=>(decide (c.toNat<=1))&&k (((x.toNat+18446744073709551616 - y.toNat - c.toNat)%18446744073709551616:Nat):Int) (cond (decide (x.toNat<y.toNat+c.toNat)) 1 0)
def kO (N:Nat) (Ve Vl:LI) (t12:Int) (e0:Kz5):(Int × Int × LI)->((Int × Int × LI)->Bool)->Bool:=λv_ K=>match v_ with
 | (borrow,t13,z)=>(cond (decide (t13<t12)) (inR t13 Ve.length&&wL N Vl t13 (λnr=>sQ4 N (Ve.getD t13.toNat 0) nr borrow (λUY U4=>inR t13 z.length&&(decide (t13.toNat<z.length)&&(af .i64 (t13+1)&&K (U4,(t13+1),(z.set t13.toNat UY))))))) (e0 z))
def JT (N:Nat) (x y:LI) (k0:Kz5):Bool:=
 (iU 8 ((x.length:Nat):Int) ((x.length:Nat):Int)&&aj N (kO N x y ((x.length:Nat):Int) (λVI=>uA N VI (λmr=>decide ((0+mr)<=VI.length)&&k0 (List.take mr (List.drop 0 VI))))) (0,0,(List.replicate (Int.toNat ((x.length:Nat):Int)) (0:Int))))
def wM (N:Nat):LI->LI->(Kz5)->Bool:=aC N (JT N)
def dR (N:Nat) (Yz W_ VB Wi:Int) (Ym:Bool) (x y:LI) (k0:Ky9):Bool:=
 (cond Ym (sr N y W_ 0 (λnsr=>sr N x Yz 0 (λUW=>wM N nsr UW (λU0=>sr N x VB 0 (λU2=>sr N y Wi 0 (λU7=>wM N U2 U7 (λU6=>k0 U0 U6))))))) (sr N x Yz 0 (λs6=>sr N y W_ 0 (λs7=>wM N s6 s7 (λs8=>sr N y Wi 0 (λs9=>sr N x VB 0 (λs10=>wM N s9 s10 (λs11=>k0 s8 s11))))))))
def d9 (N:Nat):Int->Int->Int->Int->Bool->LI->LI->(Ky9)->Bool:=aC N (dR N)
def So (N:Nat) (x:Int) (k0:Kz1):Bool:=
 (Ou N x (λnr=>af .i64 (64 - nr)&&k0 (64 - nr)))
def Oc (N:Nat):Int->(Kz1)->Bool:=So N
def vD (N:Nat) (Vl s yn1 yn0 un32 un1 un0:Int) (e0:Kz1):(Int × Int)->((Int × Int)->Bool)->Bool:=λv_ K=>match v_ with
 | (q1,rhat)=>(cond ((decide (q1>=4294967296))==false) (cond (decide ((IntKind.wrap .u64 (q1*yn0))>(IntKind.wrap .u64 ((IntKind.wrap .u64 (4294967296*rhat))+un1)))) (cond (decide ((IntKind.wrap .u64 (rhat+yn1))>=4294967296)) (e0 (IntKind.wrap .u64 (q1 - 1))) (K ((IntKind.wrap .u64 (q1 - 1)),(IntKind.wrap .u64 (rhat+yn1))))) (e0 q1)) (cond (decide ((IntKind.wrap .u64 (rhat+yn1))>=4294967296)) (e0 (IntKind.wrap .u64 (q1 - 1))) (K ((IntKind.wrap .u64 (q1 - 1)),(IntKind.wrap .u64 (rhat+yn1))))))
def vF (N:Nat) (VG Wn WZ Yq XM YT un21:Int) (e0:Kz1):(Int × Int)->((Int × Int)->Bool)->Bool:=λv_ K=>match v_ with
 | (WM,q0)=>(cond ((decide (q0>=4294967296))==false) (cond (decide ((IntKind.wrap .u64 (q0*Yq))>(IntKind.wrap .u64 ((IntKind.wrap .u64 (4294967296*WM))+XM)))) (cond (decide ((IntKind.wrap .u64 (WM+WZ))>=4294967296)) (e0 (IntKind.wrap .u64 (q0 - 1))) (K ((IntKind.wrap .u64 (WM+WZ)),(IntKind.wrap .u64 (q0 - 1))))) (e0 q0)) (cond (decide ((IntKind.wrap .u64 (WM+WZ))>=4294967296)) (e0 (IntKind.wrap .u64 (q0 - 1))) (K ((IntKind.wrap .u64 (WM+WZ)),(IntKind.wrap .u64 (q0 - 1))))))
def Jx (N:Nat) (hi lo y:Int) (k0:Ky3):Bool:=
 (cond (y==0) false (cond (decide (y<=hi)) false (cond (hi==0) ((!decide (y=0))&&((!decide (y=0))&&k0 (IntKind.wrap .u64 (Int.tdiv lo y)) (Int.tmod lo y))) (Oc N y (λnr=>decide (0<=(IntKind.wrap .u64 nr))&&(decide (0<=(IntKind.wrap .u64 nr))&&(decide (0<=(IntKind.wrap .u64 (64 - (IntKind.wrap .u64 nr))))&&(decide (0<=(IntKind.wrap .u64 nr))&&((!decide ((Int.fdiv (IntKind.wrap .u64 (y*2 ^ (min (Int.toNat (IntKind.wrap .u64 nr)) 64))) (2 ^ 32))=0))&&aj N (vD N (IntKind.wrap .u64 (y*2 ^ (min (Int.toNat (IntKind.wrap .u64 nr)) 64))) (IntKind.wrap .u64 nr) (Int.fdiv (IntKind.wrap .u64 (y*2 ^ (min (Int.toNat (IntKind.wrap .u64 nr)) 64))) (2 ^ 32)) (aB .and .u64 (IntKind.wrap .u64 (y*2 ^ (min (Int.toNat (IntKind.wrap .u64 nr)) 64))) 4294967295) (aB .or .u64 (IntKind.wrap .u64 (hi*2 ^ (min (Int.toNat (IntKind.wrap .u64 nr)) 64))) (Int.fdiv lo (2 ^ (min (Int.toNat (IntKind.wrap .u64 (64 - (IntKind.wrap .u64 nr)))) 64)))) (Int.fdiv (IntKind.wrap .u64 (lo*2 ^ (min (Int.toNat (IntKind.wrap .u64 nr)) 64))) (2 ^ 32)) (aB .and .u64 (IntKind.wrap .u64 (lo*2 ^ (min (Int.toNat (IntKind.wrap .u64 nr)) 64))) 4294967295) (λXt=>(!decide ((Int.fdiv (IntKind.wrap .u64 (y*2 ^ (min (Int.toNat (IntKind.wrap .u64 nr)) 64))) (2 ^ 32))=0))&&aj N (vF N (IntKind.wrap .u64 (y*2 ^ (min (Int.toNat (IntKind.wrap .u64 nr)) 64))) (IntKind.wrap .u64 nr) (Int.fdiv (IntKind.wrap .u64 (y*2 ^ (min (Int.toNat (IntKind.wrap .u64 nr)) 64))) (2 ^ 32)) (aB .and .u64 (IntKind.wrap .u64 (y*2 ^ (min (Int.toNat (IntKind.wrap .u64 nr)) 64))) 4294967295) (aB .and .u64 (IntKind.wrap .u64 (lo*2 ^ (min (Int.toNat (IntKind.wrap .u64 nr)) 64))) 4294967295) Xt (IntKind.wrap .u64 ((IntKind.wrap .u64 ((IntKind.wrap .u64 ((aB .or .u64 (IntKind.wrap .u64 (hi*2 ^ (min (Int.toNat (IntKind.wrap .u64 nr)) 64))) (Int.fdiv lo (2 ^ (min (Int.toNat (IntKind.wrap .u64 (64 - (IntKind.wrap .u64 nr)))) 64))))*4294967296))+(Int.fdiv (IntKind.wrap .u64 (lo*2 ^ (min (Int.toNat (IntKind.wrap .u64 nr)) 64))) (2 ^ 32)))) - (IntKind.wrap .u64 (Xt*(IntKind.wrap .u64 (y*2 ^ (min (Int.toNat (IntKind.wrap .u64 nr)) 64))))))) (λZi=>decide (0<=(IntKind.wrap .u64 nr))&&k0 (IntKind.wrap .u64 ((IntKind.wrap .u64 (Xt*4294967296))+Zi)) (Int.fdiv (IntKind.wrap .u64 ((IntKind.wrap .u64 ((IntKind.wrap .u64 ((IntKind.wrap .u64 ((IntKind.wrap .u64 ((IntKind.wrap .u64 ((aB .or .u64 (IntKind.wrap .u64 (hi*2 ^ (min (Int.toNat (IntKind.wrap .u64 nr)) 64))) (Int.fdiv lo (2 ^ (min (Int.toNat (IntKind.wrap .u64 (64 - (IntKind.wrap .u64 nr)))) 64))))*4294967296))+(Int.fdiv (IntKind.wrap .u64 (lo*2 ^ (min (Int.toNat (IntKind.wrap .u64 nr)) 64))) (2 ^ 32)))) - (IntKind.wrap .u64 (Xt*(IntKind.wrap .u64 (y*2 ^ (min (Int.toNat (IntKind.wrap .u64 nr)) 64)))))))*4294967296))+(aB .and .u64 (IntKind.wrap .u64 (lo*2 ^ (min (Int.toNat (IntKind.wrap .u64 nr)) 64))) 4294967295))) - (IntKind.wrap .u64 (Zi*(IntKind.wrap .u64 (y*2 ^ (min (Int.toNat (IntKind.wrap .u64 nr)) 64))))))) (2 ^ (min (Int.toNat (IntKind.wrap .u64 nr)) 64))))) ((IntKind.wrap .u64 ((IntKind.wrap .u64 ((IntKind.wrap .u64 ((IntKind.wrap .u64 ((aB .or .u64 (IntKind.wrap .u64 (hi*2 ^ (min (Int.toNat (IntKind.wrap .u64 nr)) 64))) (Int.fdiv lo (2 ^ (min (Int.toNat (IntKind.wrap .u64 (64 - (IntKind.wrap .u64 nr)))) 64))))*4294967296))+(Int.fdiv (IntKind.wrap .u64 (lo*2 ^ (min (Int.toNat (IntKind.wrap .u64 nr)) 64))) (2 ^ 32)))) - (IntKind.wrap .u64 (Xt*(IntKind.wrap .u64 (y*2 ^ (min (Int.toNat (IntKind.wrap .u64 nr)) 64))))))) - (IntKind.wrap .u64 ((IntKind.wrap .u64 (Int.tdiv (IntKind.wrap .u64 ((IntKind.wrap .u64 ((IntKind.wrap .u64 ((aB .or .u64 (IntKind.wrap .u64 (hi*2 ^ (min (Int.toNat (IntKind.wrap .u64 nr)) 64))) (Int.fdiv lo (2 ^ (min (Int.toNat (IntKind.wrap .u64 (64 - (IntKind.wrap .u64 nr)))) 64))))*4294967296))+(Int.fdiv (IntKind.wrap .u64 (lo*2 ^ (min (Int.toNat (IntKind.wrap .u64 nr)) 64))) (2 ^ 32)))) - (IntKind.wrap .u64 (Xt*(IntKind.wrap .u64 (y*2 ^ (min (Int.toNat (IntKind.wrap .u64 nr)) 64))))))) (Int.fdiv (IntKind.wrap .u64 (y*2 ^ (min (Int.toNat (IntKind.wrap .u64 nr)) 64))) (2 ^ 32))))*(Int.fdiv (IntKind.wrap .u64 (y*2 ^ (min (Int.toNat (IntKind.wrap .u64 nr)) 64))) (2 ^ 32)))))),(IntKind.wrap .u64 (Int.tdiv (IntKind.wrap .u64 ((IntKind.wrap .u64 ((IntKind.wrap .u64 ((aB .or .u64 (IntKind.wrap .u64 (hi*2 ^ (min (Int.toNat (IntKind.wrap .u64 nr)) 64))) (Int.fdiv lo (2 ^ (min (Int.toNat (IntKind.wrap .u64 (64 - (IntKind.wrap .u64 nr)))) 64))))*4294967296))+(Int.fdiv (IntKind.wrap .u64 (lo*2 ^ (min (Int.toNat (IntKind.wrap .u64 nr)) 64))) (2 ^ 32)))) - (IntKind.wrap .u64 (Xt*(IntKind.wrap .u64 (y*2 ^ (min (Int.toNat (IntKind.wrap .u64 nr)) 64))))))) (Int.fdiv (IntKind.wrap .u64 (y*2 ^ (min (Int.toNat (IntKind.wrap .u64 nr)) 64))) (2 ^ 32))))))) ((IntKind.wrap .u64 (Int.tdiv (aB .or .u64 (IntKind.wrap .u64 (hi*2 ^ (min (Int.toNat (IntKind.wrap .u64 nr)) 64))) (Int.fdiv lo (2 ^ (min (Int.toNat (IntKind.wrap .u64 (64 - (IntKind.wrap .u64 nr)))) 64)))) (Int.fdiv (IntKind.wrap .u64 (y*2 ^ (min (Int.toNat (IntKind.wrap .u64 nr)) 64))) (2 ^ 32)))),(IntKind.wrap .u64 ((aB .or .u64 (IntKind.wrap .u64 (hi*2 ^ (min (Int.toNat (IntKind.wrap .u64 nr)) 64))) (Int.fdiv lo (2 ^ (min (Int.toNat (IntKind.wrap .u64 (64 - (IntKind.wrap .u64 nr)))) 64)))) - (IntKind.wrap .u64 ((IntKind.wrap .u64 (Int.tdiv (aB .or .u64 (IntKind.wrap .u64 (hi*2 ^ (min (Int.toNat (IntKind.wrap .u64 nr)) 64))) (Int.fdiv lo (2 ^ (min (Int.toNat (IntKind.wrap .u64 (64 - (IntKind.wrap .u64 nr)))) 64)))) (Int.fdiv (IntKind.wrap .u64 (y*2 ^ (min (Int.toNat (IntKind.wrap .u64 nr)) 64))) (2 ^ 32))))*(Int.fdiv (IntKind.wrap .u64 (y*2 ^ (min (Int.toNat (IntKind.wrap .u64 nr)) 64))) (2 ^ 32))))))))))))))))
def DX (N:Nat):Int->Int->Int->(Ky3)->Bool:=aC N (Jx N)
def j4 (N:Nat) (Ve:LI) (Vv:Int) (e0:Ky6):(Int × Int × LI)->((Int × Int × LI)->Bool)->Bool:=λv_ K=>match v_ with
 | (rest,i,q)=>(cond (decide (i>=0)) (inR i Ve.length&&DX N rest (Ve.getD i.toNat 0) Vv (λnr UY=>inR i q.length&&(decide (i.toNat<q.length)&&(af .i64 (i - 1)&&K (UY,(i - 1),(q.set i.toNat nr)))))) (e0 rest q))
def pN (N:Nat) (x:LI) (d:Int) (k0:LI->Int->Bool):Bool:=
 (iU 8 ((x.length:Nat):Int) ((x.length:Nat):Int)&&(af .i64 (((x.length:Nat):Int) - 1)&&aj N (j4 N x d (λVJ Xd=>uA N Xd (λmr=>decide ((0+mr)<=Xd.length)&&k0 (List.take mr (List.drop 0 Xd)) VJ))) (0,(((x.length:Nat):Int) - 1),(List.replicate (Int.toNat ((x.length:Nat):Int)) (0:Int)))))
def nc (N:Nat):LI->Int->(LI->Int->Bool)->Bool:=aC N (pN N)
def mI (N:Nat) (words rest:Int) (t24:LI) (t25:Int) (e0:Kz5):(Int × LI)->((Int × LI)->Bool)->Bool:=λv_ K=>match v_ with
 | (t26,z)=>(cond (decide (t26<t25)) (inR t26 t24.length&&(af .i64 (words+t26)&&(inR (words+t26) z.length&&(decide ((Int.toNat (words+t26))<z.length)&&(decide (0<=rest)&&(inR (words+t26) z.length&&(decide ((Int.toNat (words+t26))<z.length)&&(af .i64 (words+t26)&&(af .i64 ((words+t26)+1)&&(decide (0<=(IntKind.wrap .u64 (64 - rest)))&&(inR ((words+t26)+1) (List.length (z.set (Int.toNat (words+t26)) (aB .or .u64 (z.getD (Int.toNat (words+t26)) 0) (IntKind.wrap .u64 ((t24.getD t26.toNat 0)*2 ^ (min rest.toNat 64))))))&&(decide ((Int.toNat ((words+t26)+1))<(List.length (z.set (Int.toNat (words+t26)) (aB .or .u64 (z.getD (Int.toNat (words+t26)) 0) (IntKind.wrap .u64 ((t24.getD t26.toNat 0)*2 ^ (min rest.toNat 64)))))))&&(af .i64 (t26+1)&&K ((t26+1),(List.set (z.set (Int.toNat (words+t26)) (aB .or .u64 (z.getD (Int.toNat (words+t26)) 0) (IntKind.wrap .u64 ((t24.getD t26.toNat 0)*2 ^ (min rest.toNat 64))))) (Int.toNat ((words+t26)+1)) (Int.fdiv (t24.getD t26.toNat 0) (2 ^ (min (Int.toNat (IntKind.wrap .u64 (64 - rest))) 64)))))))))))))))))) (e0 z))
def Jn (N:Nat) (x:LI) (n:Int) (k0:Bool) (k1:Ky7):Bool:=
 (cond (((x.length:Nat):Int)==0) k0 (af .i64 (IntKind.wrap .u64 (Int.tdiv n 64))&&(af .i64 ((IntKind.wrap .u64 (Int.tdiv n 64))+((x.length:Nat):Int))&&(af .i64 (((IntKind.wrap .u64 (Int.tdiv n 64))+((x.length:Nat):Int))+1)&&(iU 8 (((IntKind.wrap .u64 (Int.tdiv n 64))+((x.length:Nat):Int))+1) (((IntKind.wrap .u64 (Int.tdiv n 64))+((x.length:Nat):Int))+1)&&aj N (mI N (IntKind.wrap .u64 (Int.tdiv n 64)) (Int.tmod n 64) x ((x.length:Nat):Int) (λVI=>uA N VI (λmr=>k1 mr VI))) (0,(List.replicate (Int.toNat (((IntKind.wrap .u64 (Int.tdiv n 64))+((x.length:Nat):Int))+1)) (0:Int))))))))
def DU (N:Nat):LI->Int->(Bool)->(Ky7)->Bool:=aC N (Jn N)
def nW (N u V9:Nat) (Vt:LI) (n:Int) (VV:LI) (e0:Kz1):(Int × Int)->((Int × Int)->Bool)->Bool:=λv_ K=>match v_ with
 | (q,rest)=>(af .i64 (n - 2)&&(inR (n - 2) Vt.length&&DY N q (Vt.getD (Int.toNat (n - 2)) 0) (λU4 Vg=>cond ((decide (U4<rest))==false) (cond ((U4==rest)==true) (af .i64 (n - 2)&&(inR (n - 2) V9&&(decide ((u+(Int.toNat (n - 2)))<VV.length)&&cond (decide (Vg<=(VV.getD (u+(Int.toNat (n - 2))) 0))) (e0 q) (af .i64 (n - 1)&&(inR (n - 1) Vt.length&&sQ3 N rest (Vt.getD (Int.toNat (n - 1)) 0) 0 (λVo n5=>cond (n5 != 0) (e0 (IntKind.wrap .u64 (q - 1))) (K ((IntKind.wrap .u64 (q - 1)),Vo)))))))) (af .i64 (n - 1)&&(inR (n - 1) Vt.length&&sQ3 N rest (Vt.getD (Int.toNat (n - 1)) 0) 0 (λn6 n7=>cond (n7 != 0) (e0 (IntKind.wrap .u64 (q - 1))) (K ((IntKind.wrap .u64 (q - 1)),n6)))))) (e0 q))))
def rX (N VC VD:Nat) (v b:LI) (k0:Kz1):Bool:=
 (inR ((v.length:Nat):Int) VD&&(decide ((VC+(Int.toNat ((v.length:Nat):Int)))<b.length)&&(af .i64 (((v.length:Nat):Int) - 1)&&(inR (((v.length:Nat):Int) - 1) v.length&&cond (decide ((b.getD (VC+(Int.toNat ((v.length:Nat):Int))) 0)>=(v.getD (Int.toNat (((v.length:Nat):Int) - 1)) 0))) (k0 18446744073709551615) (inR ((v.length:Nat):Int) VD&&(decide ((VC+(Int.toNat ((v.length:Nat):Int)))<b.length)&&(af .i64 (((v.length:Nat):Int) - 1)&&(inR (((v.length:Nat):Int) - 1) VD&&(decide ((VC+(Int.toNat (((v.length:Nat):Int) - 1)))<b.length)&&(af .i64 (((v.length:Nat):Int) - 1)&&(inR (((v.length:Nat):Int) - 1) v.length&&DX N (b.getD (VC+(Int.toNat ((v.length:Nat):Int))) 0) (b.getD (VC+(Int.toNat (((v.length:Nat):Int) - 1))) 0) (v.getD (Int.toNat (((v.length:Nat):Int) - 1)) 0) (λnr UY=>aj N (nW N VC VD v ((v.length:Nat):Int) b (λt4=>k0 t4)) (nr,UY)))))))))))))
def zX (N:Nat):Nat->Nat->LI->LI->(Kz1)->Bool:=aC N (rX N)
def pG (N u V9:Nat) (Vt:LI) (n q t17:Int) (e0:Int->Int->LI->Bool):(Int × Int × Int × LI)->((Int × Int × Int × LI)->Bool)->Bool:=λv_ K=>match v_ with
 | (carry,borrow,t18,VV)=>(cond (decide (t18<t17)) (inR t18 Vt.length&&kw N q (Vt.getD t18.toNat 0) 0 carry (λUY U4=>inR t18 V9&&(decide ((u+t18.toNat)<VV.length)&&sQ4 N (VV.getD (u+t18.toNat) 0) U4 borrow (λVg Vo=>inR t18 V9&&(decide ((u+t18.toNat)<VV.length)&&(af .i64 (t18+1)&&K (UY,Vo,(t18+1),(VV.set (u+t18.toNat) Vg)))))))) (e0 carry borrow VV))
def pI (N W9 XD:Nat) (WW:LI) (Wj XQ VN t60:Int) (e0:Ky6):(Int × Int × LI)->((Int × Int × LI)->Bool)->Bool:=λv_ K=>match v_ with
 | (VL,t61,Wq)=>(cond (decide (t61<t60)) (inR t61 XD&&(decide ((W9+t61.toNat)<Wq.length)&&(inR t61 WW.length&&sQ3 N (Wq.getD (W9+t61.toNat) 0) (WW.getD t61.toNat 0) VL (λn7 n8=>inR t61 XD&&(decide ((W9+t61.toNat)<Wq.length)&&(af .i64 (t61+1)&&K (n8,(t61+1),(Wq.set (W9+t61.toNat) n7)))))))) (e0 VL Wq))
def pH (N WT WQ:Nat) (Wx:LI) (U8:Int) (e0:Ky6):(Int × Int × LI)->((Int × Int × LI)->Bool)->Bool:=λv_ K=>match v_ with
 | (Xd,VM,XL)=>(cond (VM != 0) (aj N (pI N WT WQ Wx U8 Xd VM U8 (λW2 Wr=>inR U8 WQ&&(decide ((WT+U8.toNat)<Wr.length)&&sQ3 N (Wr.getD (WT+U8.toNat) 0) 0 W2 (λn9 n10=>inR U8 WQ&&(decide ((WT+U8.toNat)<Wr.length)&&K ((IntKind.wrap .u64 (Xd - 1)),(IntKind.wrap .u64 (VM - n10)),(Wr.set (WT+U8.toNat) n9))))))) (0,0,XL)) (e0 Xd XL))
def tQ (N VC VD:Nat) (v b:LI) (k0:Ky6):Bool:=
 (zX N VC VD v b (λnr=>aj N (pG N VC VD v ((v.length:Nat):Int) nr ((v.length:Nat):Int) (λVi V3 WJ=>inR ((v.length:Nat):Int) VD&&(decide ((VC+(Int.toNat ((v.length:Nat):Int)))<WJ.length)&&sQ4 N (WJ.getD (VC+(Int.toNat ((v.length:Nat):Int))) 0) Vi V3 (λn5 n6=>inR ((v.length:Nat):Int) VD&&(decide ((VC+(Int.toNat ((v.length:Nat):Int)))<WJ.length)&&aj N (pH N VC VD v ((v.length:Nat):Int) (λYE b0=>k0 YE b0)) (nr,n6,(WJ.set (VC+(Int.toNat ((v.length:Nat):Int))) n5))))))) (0,0,0,b)))
def BW (N:Nat):Nat->Nat->LI->LI->(Ky6)->Bool:=aC N (tQ N)
def qY (N u V9 v Wx:Nat) (n:Int) (VV WW:LI) (e0:Kz1):(Int × Int)->((Int × Int)->Bool)->Bool:=λv_ K=>match v_ with
 | (q,rest)=>(af .i64 (n - 2)&&(inR (n - 2) Wx&&(decide ((v+(Int.toNat (n - 2)))<WW.length)&&DY N q (WW.getD (v+(Int.toNat (n - 2))) 0) (λU4 Vg=>cond ((decide (U4<rest))==false) (cond ((U4==rest)==true) (af .i64 (n - 2)&&(inR (n - 2) V9&&(decide ((u+(Int.toNat (n - 2)))<VV.length)&&cond (decide (Vg<=(VV.getD (u+(Int.toNat (n - 2))) 0))) (e0 q) (af .i64 (n - 1)&&(inR (n - 1) Wx&&(decide ((v+(Int.toNat (n - 1)))<WW.length)&&sQ3 N rest (WW.getD (v+(Int.toNat (n - 1))) 0) 0 (λVo n5=>cond (n5 != 0) (e0 (IntKind.wrap .u64 (q - 1))) (K ((IntKind.wrap .u64 (q - 1)),Vo))))))))) (af .i64 (n - 1)&&(inR (n - 1) Wx&&(decide ((v+(Int.toNat (n - 1)))<WW.length)&&sQ3 N rest (WW.getD (v+(Int.toNat (n - 1))) 0) 0 (λn6 n7=>cond (n7 != 0) (e0 (IntKind.wrap .u64 (q - 1))) (K ((IntKind.wrap .u64 (q - 1)),n6))))))) (e0 q)))))
def Gb (N VC VD XR Vt:Nat) (b UV:LI) (k0:Kz1):Bool:=
 (inR ((Vt:Nat):Int) VD&&(decide ((VC+(Int.toNat ((Vt:Nat):Int)))<b.length)&&(af .i64 (((Vt:Nat):Int) - 1)&&(inR (((Vt:Nat):Int) - 1) Vt&&(decide ((XR+(Int.toNat (((Vt:Nat):Int) - 1)))<UV.length)&&cond (decide ((b.getD (VC+(Int.toNat ((Vt:Nat):Int))) 0)>=(UV.getD (XR+(Int.toNat (((Vt:Nat):Int) - 1))) 0))) (k0 18446744073709551615) (inR ((Vt:Nat):Int) VD&&(decide ((VC+(Int.toNat ((Vt:Nat):Int)))<b.length)&&(af .i64 (((Vt:Nat):Int) - 1)&&(inR (((Vt:Nat):Int) - 1) VD&&(decide ((VC+(Int.toNat (((Vt:Nat):Int) - 1)))<b.length)&&(af .i64 (((Vt:Nat):Int) - 1)&&(inR (((Vt:Nat):Int) - 1) Vt&&(decide ((XR+(Int.toNat (((Vt:Nat):Int) - 1)))<UV.length)&&DX N (b.getD (VC+(Int.toNat ((Vt:Nat):Int))) 0) (b.getD (VC+(Int.toNat (((Vt:Nat):Int) - 1))) 0) (UV.getD (XR+(Int.toNat (((Vt:Nat):Int) - 1))) 0) (λnr UY=>aj N (qY N VC VD XR Vt ((Vt:Nat):Int) b UV (λt4=>k0 t4)) (nr,UY)))))))))))))))
def G7 (N:Nat):Nat->Nat->Nat->Nat->LI->LI->(Kz1)->Bool:=aC N (Gb N)
def gF (N u V9 v Wx:Nat) (n q t17:Int) (WW:LI) (e0:Int->Int->LI->Bool):(Int × Int × Int × LI)->((Int × Int × Int × LI)->Bool)->Bool:=λv_ K=>match v_ with
 | (carry,borrow,t18,VV)=>(cond (decide (t18<t17)) (inR t18 Wx&&(decide ((v+t18.toNat)<WW.length)&&kw N q (WW.getD (v+t18.toNat) 0) 0 carry (λUY U4=>inR t18 V9&&(decide ((u+t18.toNat)<VV.length)&&sQ4 N (VV.getD (u+t18.toNat) 0) U4 borrow (λVg Vo=>inR t18 V9&&(decide ((u+t18.toNat)<VV.length)&&(af .i64 (t18+1)&&K (UY,Vo,(t18+1),(VV.set (u+t18.toNat) Vg))))))))) (e0 carry borrow VV))
def gG (N W9 XD Zk Zt:Nat) (Wj XQ VN t60:Int) (Zl:LI) (e0:Ky6):(Int × Int × LI)->((Int × Int × LI)->Bool)->Bool:=λv_ K=>match v_ with
 | (VL,t61,Wq)=>(cond (decide (t61<t60)) (inR t61 XD&&(decide ((W9+t61.toNat)<Wq.length)&&(inR t61 Zt&&(decide ((Zk+t61.toNat)<Zl.length)&&sQ3 N (Wq.getD (W9+t61.toNat) 0) (Zl.getD (Zk+t61.toNat) 0) VL (λn7 n8=>inR t61 XD&&(decide ((W9+t61.toNat)<Wq.length)&&(af .i64 (t61+1)&&K (n8,(t61+1),(Wq.set (W9+t61.toNat) n7))))))))) (e0 VL Wq))
def qW (N WT WQ ZQ ZR:Nat) (U8:Int) (Zs:LI) (e0:Ky6):(Int × Int × LI)->((Int × Int × LI)->Bool)->Bool:=λv_ K=>match v_ with
 | (Xd,VM,XL)=>(cond (VM != 0) (aj N (gG N WT WQ ZQ ZR U8 Xd VM U8 Zs (λW2 Wr=>inR U8 WQ&&(decide ((WT+U8.toNat)<Wr.length)&&sQ3 N (Wr.getD (WT+U8.toNat) 0) 0 W2 (λn9 n10=>inR U8 WQ&&(decide ((WT+U8.toNat)<Wr.length)&&K ((IntKind.wrap .u64 (Xd - 1)),(IntKind.wrap .u64 (VM - n10)),(Wr.set (WT+U8.toNat) n9))))))) (0,0,XL)) (e0 Xd XL))
def JM (N VC VD XR Vt:Nat) (b UV:LI) (k0:Ky6):Bool:=
 (G7 N VC VD XR Vt b UV (λnr=>aj N (gF N VC VD XR Vt ((Vt:Nat):Int) nr ((Vt:Nat):Int) UV (λVi V3 WJ=>inR ((Vt:Nat):Int) VD&&(decide ((VC+(Int.toNat ((Vt:Nat):Int)))<WJ.length)&&sQ4 N (WJ.getD (VC+(Int.toNat ((Vt:Nat):Int))) 0) Vi V3 (λn5 n6=>inR ((Vt:Nat):Int) VD&&(decide ((VC+(Int.toNat ((Vt:Nat):Int)))<WJ.length)&&aj N (qW N VC VD XR Vt ((Vt:Nat):Int) UV (λYE b0=>k0 YE b0)) (nr,n6,(WJ.set (VC+(Int.toNat ((Vt:Nat):Int))) n5))))))) (0,0,0,b)))
def Me (N:Nat):Nat->Nat->Nat->Nat->LI->LI->(Ky6)->Bool:=aC N (JM N)
def tJ (N x Vs:Nat) (Vx:LI) (e0:Kz1):(Int)->((Int)->Bool)->Bool:=λv_ K=>match v_ with
 | n=>(cond ((decide (n>0))==true) (af .i64 (n - 1)&&(inR (n - 1) Vs&&(decide ((x+(Int.toNat (n - 1)))<Vx.length)&&cond ((Vx.getD (x+(Int.toNat (n - 1))) 0)==0) (af .i64 (n - 1)&&K (n - 1)) (e0 n)))) (e0 n))
def oa (N Vu Ve:Nat) (b:LI) (k0:Kz2):Bool:=
 (aj N (tJ N Vu Ve b (λU8=>decide (0<=U8/\U8<=((Ve:Nat):Int))&&k0 (U8.toNat - 0))) ((Ve:Nat):Int))
def oZ (N:Nat):Nat->Nat->LI->(Kz2)->Bool:=aC N (oa N)
def ON (N Vu Ve:Nat) (i:Int) (b:LI) (k0:Kz1):Bool:=
 (cond (decide (i<((Ve:Nat):Int))) (inR i Ve&&(decide ((Vu+i.toNat)<b.length)&&k0 (b.getD (Vu+i.toNat) 0))) (k0 0))
def Hc (N:Nat):Nat->Nat->Int->LI->(Kz1)->Bool:=ON N
def kC (N x Vs:Nat) (words rest:Int) (t37 Yf:Nat) (t38:Int) (Vx:LI) (e0:Kz1):(Int × Int)->((Int × Int)->Bool)->Bool:=λv_ K=>match v_ with
 | (lost,t39)=>(cond (decide (t39<t38)) (inR t39 Yf&&(decide ((t37+t39.toNat)<Vx.length)&&(af .i64 (t39+1)&&K ((aB .or .u64 lost (Vx.getD (t37+t39.toNat) 0)),(t39+1))))) (e0 lost))
def iq (N Yn YG:Nat) (V6 VJ Xq t53:Int) (YA:LI) (e0:Kz5):(Int × LI)->((Int × LI)->Bool)->Bool:=λv_ K=>match v_ with
 | (t54,z)=>(cond (decide (t54<t53)) (af .i64 (V6+t54)&&Hc N Yn YG (V6+t54) YA (λnr=>decide (0<=VJ)&&(af .i64 (V6+t54)&&(af .i64 ((V6+t54)+1)&&Hc N Yn YG ((V6+t54)+1) YA (λUY=>decide (0<=(IntKind.wrap .u64 (64 - VJ)))&&(inR t54 z.length&&(decide (t54.toNat<z.length)&&(af .i64 (t54+1)&&K ((t54+1),(z.set t54.toNat (aB .or .u64 (Int.fdiv nr (2 ^ (min VJ.toNat 64))) (IntKind.wrap .u64 (UY*2 ^ (min (Int.toNat (IntKind.wrap .u64 (64 - VJ))) 64)))))))))))))) (e0 z))
def Gc (N Vu Ve:Nat) (n:Int) (b:LI) (k0:LI->Bool->Bool):Bool:=
 (cond (decide ((IntKind.wrap .u64 (Int.tdiv n 64))>=(IntKind.wrap .u64 ((Ve:Nat):Int)))) (k0 [] (decide (((Ve:Nat):Int)>0))) (af .i64 (IntKind.wrap .u64 (Int.tdiv n 64))&&(inR (IntKind.wrap .u64 (Int.tdiv n 64)) Ve&&(decide ((Vu+(Int.toNat (IntKind.wrap .u64 (Int.tdiv n 64))))<b.length)&&(decide (0<=(Int.tmod n 64))&&(decide (0<=(IntKind.wrap .u64 (Int.tdiv n 64))/\(IntKind.wrap .u64 (Int.tdiv n 64))<=((Ve:Nat):Int))&&aj N (kC N Vu Ve (IntKind.wrap .u64 (Int.tdiv n 64)) (Int.tmod n 64) Vu ((Int.toNat (IntKind.wrap .u64 (Int.tdiv n 64))) - 0) ((((Int.toNat (IntKind.wrap .u64 (Int.tdiv n 64))) - 0):Nat):Int) b (λX2=>af .i64 (((Ve:Nat):Int) - (IntKind.wrap .u64 (Int.tdiv n 64)))&&(iU 8 (((Ve:Nat):Int) - (IntKind.wrap .u64 (Int.tdiv n 64))) (((Ve:Nat):Int) - (IntKind.wrap .u64 (Int.tdiv n 64)))&&aj N (iq N Vu Ve (IntKind.wrap .u64 (Int.tdiv n 64)) (Int.tmod n 64) X2 (((List.length (List.replicate (Int.toNat (((Ve:Nat):Int) - (IntKind.wrap .u64 (Int.tdiv n 64)))) (0:Int))):Nat):Int) b (λVI=>uA N VI (λmr=>decide ((0+mr)<=VI.length)&&k0 (List.take mr (List.drop 0 VI)) (X2 != 0)))) (0,(List.replicate (Int.toNat (((Ve:Nat):Int) - (IntKind.wrap .u64 (Int.tdiv n 64)))) (0:Int)))))) ((aB .and .u64 (b.getD (Vu+(Int.toNat (IntKind.wrap .u64 (Int.tdiv n 64)))) 0) (IntKind.wrap .u64 ((IntKind.wrap .u64 ((1:Int)*2 ^ (min (Int.toNat (Int.tmod n 64)) 64))) - 1))),0)))))))
def Ha (N:Nat):Nat->Nat->Int->LI->(LI->Bool->Bool)->Bool:=aC N (Gc N)
def My (N:Nat) (up:Int) (u VD:Nat) (n:Int) (e0:Ky9):(Int × LI × LI)->((Int × LI × LI)->Bool)->Bool:=λv_ K=>match v_ with
 | (j,V9,q)=>(cond (decide (j>=0)) (af .i64 (j+n)&&(af .i64 ((j+n)+1)&&(decide (0<=j/\j<=((j+n)+1)/\((j+n)+1)<=((VD:Nat):Int))&&BW N (u+j.toNat) ((Int.toNat ((j+n)+1)) - j.toNat) [] V9 (λVg s6=>inR j q.length&&(decide (j.toNat<q.length)&&(af .i64 (j - 1)&&K ((j - 1),s6,(q.set j.toNat Vg)))))))) (e0 V9 q))
def zt (N:Nat) (Y1:Int) (v Vt WT WQ:Nat) (U8:Int) (Wx:LI) (e0:Ky9):(Int × LI × LI)->((Int × LI × LI)->Bool)->Bool:=λv_ K=>match v_ with
 | (Vy,XL,YE)=>(cond (decide (Vy>=0)) (af .i64 (Vy+U8)&&(af .i64 ((Vy+U8)+1)&&(decide (0<=Vy/\Vy<=((Vy+U8)+1)/\((Vy+U8)+1)<=((WQ:Nat):Int))&&Me N (WT+Vy.toNat) ((Int.toNat ((Vy+U8)+1)) - Vy.toNat) v Vt XL Wx (λVo s7=>inR Vy YE.length&&(decide (Vy.toNat<YE.length)&&(af .i64 (Vy - 1)&&K ((Vy - 1),s7,(YE.set Vy.toNat Vo)))))))) (e0 XL YE))
def J5 (N:Nat) (x y:LI) (ZP:Int) (Wq:Nat) (Wr ZK:LI) (k0:Ky9):Bool:=
 (oZ N 0 Wq Wr (λXO=>Ha N 0 XO ZP Wr (λs8 cr=>uA N ZK (λX4=>decide ((0+X4)<=ZK.length)&&k0 (List.take X4 (List.drop 0 ZK)) s8))))
def JY (N:Nat) (x y:LI) (k0:Ky9):Bool:=
 (AW N x y (λnr=>cond (decide (nr<0)) (pD N x (λnsr=>k0 [] nsr)) (cond (((y.length:Nat):Int)==1) (inR 0 y.length&&nc N x (y.getD 0 0) (λUW UY=>jf N UY (λU0=>k0 UW U0))) (af .i64 (((y.length:Nat):Int) - 1)&&(inR (((y.length:Nat):Int) - 1) y.length&&Oc N (y.getD (Int.toNat (((y.length:Nat):Int) - 1)) 0) (λU4=>DU N y (IntKind.wrap .u64 U4) (DU N x (IntKind.wrap .u64 U4) (af .i64 (((x.length:Nat):Int)+1)&&(decide (0<=(((x.length:Nat):Int)+1)/\(((x.length:Nat):Int)+1)<=2)&&(af .i64 (((((Int.toNat (((x.length:Nat):Int)+1)) - 0):Nat):Int) - 0)&&(iU 8 (((((Int.toNat (((x.length:Nat):Int)+1)) - 0):Nat):Int) - 0) (((((Int.toNat (((x.length:Nat):Int)+1)) - 0):Nat):Int) - 0)&&(af .i64 (((((Int.toNat (((x.length:Nat):Int)+1)) - 0):Nat):Int) - 0)&&(af .i64 ((((((Int.toNat (((x.length:Nat):Int)+1)) - 0):Nat):Int) - 0) - 1)&&aj N (My N (IntKind.wrap .u64 U4) 0 ((Int.toNat (((x.length:Nat):Int)+1)) - 0) 0 (λVV Xd=>J5 N x y (IntKind.wrap .u64 U4) ((Int.toNat (((x.length:Nat):Int)+1)) - 0) VV Xd k0)) (((((((Int.toNat (((x.length:Nat):Int)+1)) - 0):Nat):Int) - 0) - 1),([]++[0,0]),(List.replicate (Int.toNat (((((Int.toNat (((x.length:Nat):Int)+1)) - 0):Nat):Int) - 0)) (0:Int))))))))) (λVE U7=>decide ((0+VE)<=U7.length)&&(decide ((List.length ((List.take VE (List.drop 0 U7))++[0,0]))*8<=140737488355328)&&(af .i64 (((x.length:Nat):Int)+1)&&(decide (0<=(((x.length:Nat):Int)+1)/\(((x.length:Nat):Int)+1)<=(((List.length ((List.take VE (List.drop 0 U7))++[0,0])):Nat):Int))&&(af .i64 (((((Int.toNat (((x.length:Nat):Int)+1)) - 0):Nat):Int) - 0)&&(iU 8 (((((Int.toNat (((x.length:Nat):Int)+1)) - 0):Nat):Int) - 0) (((((Int.toNat (((x.length:Nat):Int)+1)) - 0):Nat):Int) - 0)&&(af .i64 (((((Int.toNat (((x.length:Nat):Int)+1)) - 0):Nat):Int) - 0)&&(af .i64 ((((((Int.toNat (((x.length:Nat):Int)+1)) - 0):Nat):Int) - 0) - 1)&&aj N (My N (IntKind.wrap .u64 U4) 0 ((Int.toNat (((x.length:Nat):Int)+1)) - 0) 0 (λWJ XQ=>J5 N x y (IntKind.wrap .u64 U4) ((Int.toNat (((x.length:Nat):Int)+1)) - 0) WJ XQ k0)) (((((((Int.toNat (((x.length:Nat):Int)+1)) - 0):Nat):Int) - 0) - 1),((List.take VE (List.drop 0 U7))++[0,0]),(List.replicate (Int.toNat (((((Int.toNat (((x.length:Nat):Int)+1)) - 0):Nat):Int) - 0)) (0:Int)))))))))))) (λmr U2=>DU N x (IntKind.wrap .u64 U4) (af .i64 (((x.length:Nat):Int)+1)&&(decide (0<=(((x.length:Nat):Int)+1)/\(((x.length:Nat):Int)+1)<=2)&&(af .i64 (((((Int.toNat (((x.length:Nat):Int)+1)) - 0):Nat):Int) - ((mr:Nat):Int))&&(iU 8 (((((Int.toNat (((x.length:Nat):Int)+1)) - 0):Nat):Int) - ((mr:Nat):Int)) (((((Int.toNat (((x.length:Nat):Int)+1)) - 0):Nat):Int) - ((mr:Nat):Int))&&(af .i64 (((((Int.toNat (((x.length:Nat):Int)+1)) - 0):Nat):Int) - ((mr:Nat):Int))&&(af .i64 ((((((Int.toNat (((x.length:Nat):Int)+1)) - 0):Nat):Int) - ((mr:Nat):Int)) - 1)&&aj N (zt N (IntKind.wrap .u64 U4) 0 mr 0 ((Int.toNat (((x.length:Nat):Int)+1)) - 0) ((mr:Nat):Int) U2 (λW9 ZX=>J5 N x y (IntKind.wrap .u64 U4) ((Int.toNat (((x.length:Nat):Int)+1)) - 0) W9 ZX k0)) (((((((Int.toNat (((x.length:Nat):Int)+1)) - 0):Nat):Int) - ((mr:Nat):Int)) - 1),([]++[0,0]),(List.replicate (Int.toNat (((((Int.toNat (((x.length:Nat):Int)+1)) - 0):Nat):Int) - ((mr:Nat):Int))) (0:Int))))))))) (λVj U6=>decide ((0+Vj)<=U6.length)&&(decide ((List.length ((List.take Vj (List.drop 0 U6))++[0,0]))*8<=140737488355328)&&(af .i64 (((x.length:Nat):Int)+1)&&(decide (0<=(((x.length:Nat):Int)+1)/\(((x.length:Nat):Int)+1)<=(((List.length ((List.take Vj (List.drop 0 U6))++[0,0])):Nat):Int))&&(af .i64 (((((Int.toNat (((x.length:Nat):Int)+1)) - 0):Nat):Int) - ((mr:Nat):Int))&&(iU 8 (((((Int.toNat (((x.length:Nat):Int)+1)) - 0):Nat):Int) - ((mr:Nat):Int)) (((((Int.toNat (((x.length:Nat):Int)+1)) - 0):Nat):Int) - ((mr:Nat):Int))&&(af .i64 (((((Int.toNat (((x.length:Nat):Int)+1)) - 0):Nat):Int) - ((mr:Nat):Int))&&(af .i64 ((((((Int.toNat (((x.length:Nat):Int)+1)) - 0):Nat):Int) - ((mr:Nat):Int)) - 1)&&aj N (zt N (IntKind.wrap .u64 U4) 0 mr 0 ((Int.toNat (((x.length:Nat):Int)+1)) - 0) ((mr:Nat):Int) U2 (λXD ZY=>J5 N x y (IntKind.wrap .u64 U4) ((Int.toNat (((x.length:Nat):Int)+1)) - 0) XD ZY k0)) (((((((Int.toNat (((x.length:Nat):Int)+1)) - 0):Nat):Int) - ((mr:Nat):Int)) - 1),((List.take Vj (List.drop 0 U6))++[0,0]),(List.replicate (Int.toNat (((((Int.toNat (((x.length:Nat):Int)+1)) - 0):Nat):Int) - ((mr:Nat):Int))) (0:Int))))))))))))))))))
def zh (N:Nat):LI->LI->(Ky9)->Bool:=aC N (JY N)
def z8 (N:Nat) (x:LI) (k0:Kz1):Bool:=
 (wL N x 0 (λnr=>k0 nr))
def rO (N:Nat):LI->(Kz1)->Bool:=z8 N
def En (N:Nat) (e0:Ky9):(LI × LI)->((LI × LI)->Bool)->Bool:=λv_ K=>match v_ with
 | (Vs,VG)=>(cond (decide (((VG.length:Nat):Int)>1)) (oY N Vs (λUY=>af .i64 (UY - 64)&&rP N Vs (UY - 64) (λU4=>rP N VG (UY - 64) (λVg=>qK N U4 Vg (λVo n5 n6 n7 cr=>cond (n5 != 0) (d9 N Vo n5 n6 n7 cr Vs VG (λnsr UW=>K (nsr,UW))) (zh N Vs VG (λU0 U2=>K (VG,U2)))))))) (e0 Vs VG))
def fi (N:Nat) (e0:Kz1):(Int × Int)->((Int × Int)->Bool)->Bool:=λv_ K=>match v_ with
 | (a,b)=>(cond (decide (b>0)) ((!decide (b=0))&&K (b,(Int.tmod a b))) (e0 a))
def vS (N:Nat) (x y Yn Yp:LI) (k0:Kz5):Bool:=
 (cond (((Yp.length:Nat):Int)==0) (k0 Yn) (rO N Yn (λn8=>rO N Yp (λn9=>aj N (fi N (λU_=>jf N U_ (λs6=>k0 s6))) (n8,n9)))))
def MR (N:Nat) (x y Ve Vl:LI) (k0:Kz5):Bool:=
 (aj N (En N (λVx VZ=>cond ((decide (((VZ.length:Nat):Int)>0))==true) (cond (decide (((Vx.length:Nat):Int)>1)) (zh N Vx VZ (λU7 U6=>vS N x y VZ U6 k0)) (vS N x y Vx VZ k0)) (vS N x y Vx VZ k0))) (Ve,Vl))
def PO (N:Nat) (x y:LI) (k0:Kz5):Bool:=
 (AW N x y (λnr=>cond (decide (nr<0)) (MR N x y y x k0) (MR N x y x y k0)))
def zV (N:Nat):LI->LI->(Kz5)->Bool:=aC N (PO N)
def MM (N:Nat) (neg:Bool) (abs:LI) (b UV:Bool) (k0:Ky2):Bool:=
 (cond (neg==true) (k0 (decide (((abs.length:Nat):Int)>0)) []) (k0 false []))
def IX (N:Nat):Bool->LI->Bool->Bool->(Ky2)->Bool:=MM N
def PN (N:Nat) (neg:Bool) (abs:LI) (b:Bool) (UV:LI) (UX:Bool) (U9:LI) (k0:Kz0):Bool:=
 (cond (neg==true) (k0 (decide (((abs.length:Nat):Int)>0))) (k0 false))
def Oh (N:Nat):Bool->LI->Bool->LI->Bool->LI->(Kz0)->Bool:=PN N
def Gg (N:Nat) (neg:Bool) (a b:LI) (UV UX:Bool) (U_ U9:LI) (k0:Kx5):Bool:=
 (pD N U_ (λU6=>IX N neg U6 UV UX (λcr s6=>pD N U9 (λs7=>Oh N false s7 cr U6 UX s6 (λUZ=>k0 cr U6 UZ s7)))))
def PU (N:Nat) (neg:Bool) (a b:LI) (UV UX:Bool) (k0:Kx5):Bool:=
 (zV N a b (λnsr=>AW N nsr [1] (λnr=>cond (nr != 0) (zh N a nsr (λUW U0=>zh N b nsr (λU2 U7=>Gg N neg a b UV UX UW U2 k0))) (Gg N neg a b UV UX a b k0))))
def RQ (N:Nat):Bool->LI->LI->Bool->Bool->(Kx5)->Bool:=aC N (PU N)
def Pu (N:Nat) (b UV UX:Bool) (U9:LI) (Vh:Bool) (VO:LI) (k0:Kx5):Bool:=
 (RQ N (UX != Vh) U9 VO b UV (λcr nsr UZ UW=>k0 cr nsr UZ UW))
def N6 (N:Nat):Bool->Bool->Bool->LI->Bool->LI->(Kx5)->Bool:=Pu N
def j6 (N:Nat) (VG:LI) (i a:Int) (Ya:LI) (Yb Yc:Int) (t32:LI) (t33:Int) (e0:Ky6):(Int × Int × LI)->((Int × Int × LI)->Bool)->Bool:=λv_ K=>match v_ with
 | (carry,t34,VI)=>(cond (decide (t34<t33)) (inR t34 t32.length&&(af .i64 (i+t34)&&(af .i64 (i+t34)&&(inR (i+t34) VI.length&&(decide ((Int.toNat (i+t34))<VI.length)&&kw N a (t32.getD t34.toNat 0) (VI.getD (Int.toNat (i+t34)) 0) carry (λnr UY=>inR (i+t34) VI.length&&(decide ((Int.toNat (i+t34))<VI.length)&&(af .i64 (t34+1)&&K (nr,(t34+1),(VI.set (Int.toNat (i+t34)) UY)))))))))) (e0 carry VI))
def j5 (N:Nat) (Vl t25:LI) (t26:Int) (e0:Kz5):(Int × LI)->((Int × LI)->Bool)->Bool:=λv_ K=>match v_ with
 | (t27,z)=>(cond (decide (t27<t26)) (inR t27 t25.length&&aj N (j6 N Vl t27 (t25.getD t27.toNat 0) t25 t26 t27 Vl ((Vl.length:Nat):Int) (λVi XN=>af .i64 (t27+((Vl.length:Nat):Int))&&(inR (t27+((Vl.length:Nat):Int)) XN.length&&(decide ((Int.toNat (t27+((Vl.length:Nat):Int)))<XN.length)&&(af .i64 (t27+1)&&K ((t27+1),(XN.set (Int.toNat (t27+((Vl.length:Nat):Int))) Vi))))))) (0,0,z)) (e0 z))
def Qa (N:Nat) (x y:LI) (k0:Kz5):Bool:=
 (cond ((((x.length:Nat):Int)==0)==false) (cond (((y.length:Nat):Int)==0) (k0 []) (af .i64 (((x.length:Nat):Int)+((y.length:Nat):Int))&&(iU 8 (((x.length:Nat):Int)+((y.length:Nat):Int)) (((x.length:Nat):Int)+((y.length:Nat):Int))&&aj N (j5 N y x ((x.length:Nat):Int) (λXE=>uA N XE (λmr=>decide ((0+mr)<=XE.length)&&k0 (List.take mr (List.drop 0 XE))))) (0,(List.replicate (Int.toNat (((x.length:Nat):Int)+((y.length:Nat):Int))) (0:Int)))))) (k0 []))
def xe (N:Nat):LI->LI->(Kz5)->Bool:=aC N (Qa N)
def SF (N:Nat) (b:Bool) (UV:LI) (UX:Bool) (U9:LI) (k0:Ky2):Bool:=
 (xe N UV U9 (λnsr=>I0 N (b != UX) nsr b UV (λcr=>k0 cr nsr)))
def Ti (N:Nat):Bool->LI->Bool->LI->(Ky2)->Bool:=SF N
def OD (N:Nat) (neg b:Bool) (UV:LI) (UX:Bool) (U9 Vh:LI) (k0:Kz0):Bool:=
 (cond (neg==true) (k0 (decide (((Vh.length:Nat):Int)>0))) (k0 false))
def O7 (N:Nat):Bool->Bool->LI->Bool->LI->LI->(Kz0)->Bool:=OD N
def P0 (N:Nat) (neg:Bool) (a:LI) (b UV:Bool) (UX:LI) (k0:Ky1):Bool:=
 (IX N neg a b UV (λcr nsr=>O7 N false cr a UV nsr UX (λUZ=>k0 cr UZ)))
def Tf (N:Nat):Bool->LI->Bool->Bool->LI->(Ky1)->Bool:=aC N (P0 N)
def Sv (N:Nat) (b UV UX:Bool) (U9:LI) (k0:Kx5):Bool:=
 (pD N U9 (λnsr=>Tf N UX nsr b UV [1] (λcr UZ=>k0 cr nsr UZ [1])))
def RO (N:Nat):Bool->Bool->Bool->LI->(Kx5)->Bool:=Sv N
def cb (N:Nat) (x:Fl) (p:Bool) (Xs XP:Int) (n:Bool) (U8:LI) (k0:Kx5):Bool:=
 (D5 N 1 (λVn U0=>af .i64 (0 - XP)&&RV N (IntKind.wrap .u64 (imm true XP (0 - XP))) false Vn U0 (λWg U2=>cond (decide (XP<0)) (N6 N false false n U8 Wg U2 (λWb U7 WG U6=>k0 Wb U7 WG U6)) (Ti N n U8 Wg U2 (λWu s6=>RO N false false Wu s6 (λc8 s7 c9 s8=>k0 c8 s7 c9 s8))))))
def i9 (N:Nat) (x:Fl) (k0:Kx5):Bool:=
 (oX N x (λcr nr UY U4=>cW N (U4==0) 4 (N8 N nr false (λUZ nsr=>cond cr (Og N UZ nsr (λVc UW=>cb N x cr nr UY Vc UW k0)) (cb N x cr nr UY UZ nsr k0)))))
def jh (N:Nat):Fl->(Kx5)->Bool:=aC N (i9 N)
def dk (N:Nat) (XG:LF) (X_ Wo Wp Xb Xi:Int) (e0:List RY0->Bool):(Int × List RY0)->((Int × List RY0)->Bool)->Bool:=λv_ K=>match v_ with
 | (Xf,b2)=>(cond (decide (Xf<X_)) (inR Xf XG.length&&jh N (XG.getD Xf.toNat none) (λVc U0 Vn U2=>decide ((List.length (b2++[((Vc,U0),(Vn,U2))]))*8<=140737488355328)&&(af .i64 (Xf+1)&&K ((Xf+1),(b2++[((Vc,U0),(Vn,U2))]))))) (e0 b2))
def iB (N:Nat) (Vk U5:Int) (Vd:LF) (k0:List RY0->Bool):Bool:=
 (D7 N Vk U5 Vd (λnr=>cW N (nr==0) nr (aj N (dk N Vd ((Vd.length:Nat):Int) 0 0 Vk U5 (λ(Wm:List RY0)=>k0 Wm)) (0,[]))))
def iF (N:Nat):Int->Int->LF->(List RY0->Bool)->Bool:=aC N (iB N)
def eQ (N:Nat) (WV VP i j:Int) (b:List RY0) (k0:Kx5):Bool:=
 (af .i64 (i*VP)&&(af .i64 ((i*VP)+j)&&(inR ((i*VP)+j) b.length&&(decide ((Int.toNat ((i*VP)+j))<b.length)&&k0 (b.getD (Int.toNat ((i*VP)+j)) ((false,[]),(false,[]))).1.1 (b.getD (Int.toNat ((i*VP)+j)) ((false,[]),(false,[]))).1.2 (b.getD (Int.toNat ((i*VP)+j)) ((false,[]),(false,[]))).2.1 (b.getD (Int.toNat ((i*VP)+j)) ((false,[]),(false,[]))).2.2))))
def bf (N:Nat):Int->Int->Int->Int->List RY0->(Kx5)->Bool:=aC N (eQ N)
def Sr (N:Nat) (Vu:Bool) (Ve:LI) (Vs:Bool) (Vx:LI) (k0:Kz5):Bool:=
 (cond (((Vx.length:Nat):Int)==0) (k0 [1]) (k0 Vx))
def zU (N:Nat):Bool->LI->Bool->LI->(Kz5)->Bool:=Sr N
def PH (N:Nat) (neg:Bool) (a b:LI) (UV UX:Bool) (k0:Ky1):Bool:=
 (IX N neg a UV UX (λcr nsr=>Oh N false b cr a UX nsr (λUZ=>k0 cr UZ)))
def IZ (N:Nat):Bool->LI->LI->Bool->Bool->(Ky1)->Bool:=aC N (PH N)
def P4 (N:Nat) (Vu:Bool) (Ve:LI) (Vs:Bool) (Vx:LI) (b UV:Bool) (k0:Kx5):Bool:=
 (pD N Ve (λnsr=>zU N Vu Ve Vs Vx (λUW=>pD N UW (λU0=>IZ N (!Vu) nsr U0 b UV (λcr UZ=>k0 cr nsr UZ U0)))))
def RY (N:Nat):Bool->LI->Bool->LI->Bool->Bool->(Kx5)->Bool:=aC N (P4 N)
def SE (N:Nat) (b:Bool) (UV:LI) (UX:Bool) (U9:LI) (k0:Kz5):Bool:=
 (cond (((U9.length:Nat):Int)==0) (k0 [1]) (k0 U9))
def RW (N:Nat):Bool->LI->Bool->LI->(Kz5)->Bool:=SE N
def lM (N:Nat) (x y:LI) (k0:Kz5):Bool:=
 (zh N x y (λnsr UW=>k0 nsr))
def Jo (N:Nat) (x y:LI) (k0:Kz5):Bool:=
 (cond ((((y.length:Nat):Int)==1)==true) (inR 0 y.length&&cond ((y.getD 0 0)==1) (k0 x) (lM N x y k0)) (lM N x y k0))
def mE (N:Nat):LI->LI->(Kz5)->Bool:=aC N (Jo N)
def lW (N:Nat) (Ve Vl:LI) (n t17:Int) (e0:Ky6):(Int × Int × LI)->((Int × Int × LI)->Bool)->Bool:=λv_ K=>match v_ with
 | (carry,t18,z)=>(cond (decide (t18<t17)) (wL N Ve t18 (λnr=>wL N Vl t18 (λUY=>sQ3 N nr UY carry (λU4 Vg=>inR t18 z.length&&(decide (t18.toNat<z.length)&&(af .i64 (t18+1)&&K (Vg,(t18+1),(z.set t18.toNat U4)))))))) (e0 carry z))
def uM (N:Nat) (x y:LI) (k0:Kz5):Bool:=
 (af .i64 ((imm true ((x.length:Nat):Int) ((y.length:Nat):Int))+1)&&(iU 8 ((imm true ((x.length:Nat):Int) ((y.length:Nat):Int))+1) ((imm true ((x.length:Nat):Int) ((y.length:Nat):Int))+1)&&aj N (lW N x y (imm true ((x.length:Nat):Int) ((y.length:Nat):Int)) (imm true ((x.length:Nat):Int) ((y.length:Nat):Int)) (λVi VI=>inR (imm true ((x.length:Nat):Int) ((y.length:Nat):Int)) VI.length&&(decide ((Int.toNat (imm true ((x.length:Nat):Int) ((y.length:Nat):Int)))<VI.length)&&uA N (VI.set (Int.toNat (imm true ((x.length:Nat):Int) ((y.length:Nat):Int))) Vi) (λmr=>decide ((0+mr)<=(List.length (VI.set (Int.toNat (imm true ((x.length:Nat):Int) ((y.length:Nat):Int))) Vi)))&&k0 (List.take mr (List.drop 0 (VI.set (Int.toNat (imm true ((x.length:Nat):Int) ((y.length:Nat):Int))) Vi))))))) (0,0,(List.replicate (Int.toNat ((imm true ((x.length:Nat):Int) ((y.length:Nat):Int))+1)) (0:Int)))))
def vy (N:Nat):LI->LI->(Kz5)->Bool:=aC N (uM N)
def PK (N:Nat) (neg:Bool) (y:LI) (b:Bool) (UV:LI) (k0:Ky2):Bool:=
 (cond (b==neg) (vy N UV y (λnsr=>I0 N neg nsr b UV (λcr=>k0 cr nsr))) (AW N UV y (λnr=>cond (decide (nr>=0)) (wM N UV y (λUW=>I0 N b UW b UV (λUZ=>k0 UZ UW))) (wM N y UV (λU0=>I0 N neg U0 b UV (λVc=>k0 Vc U0))))))
def Oe (N:Nat):Bool->LI->Bool->LI->(Ky2)->Bool:=aC N (PK N)
def PI (N:Nat) (Vu:Bool) (Ve:LI) (Vs:Bool) (Vx:LI) (b UV UX:Bool) (U9:LI) (Vh:Bool) (VO:LI) (k0:Kx5):Bool:=
 (zU N Vu Ve Vs Vx (λnsr=>RW N UX U9 Vh VO (λUW=>zV N nsr UW (λU0=>mE N nsr U0 (λU2=>mE N UW U0 (λU7=>xe N Ve U7 (λU6=>BT N Vu U6 false (λcr=>xe N U9 U2 (λs6=>Oe N UX s6 cr U6 (λUZ s7=>zV N s7 U0 (λs8=>mE N s7 s8 (λs9=>pD N s9 (λs10=>mE N UW s8 (λs11=>xe N U2 s11 (λs12=>IZ N UZ s10 s12 b UV (λVc Vn=>k0 Vc s10 Vn s12))))))))))))))))
def RM (N:Nat):Bool->LI->Bool->LI->Bool->Bool->Bool->LI->Bool->LI->(Kx5)->Bool:=aC N (PI N)
def Jv (N:Nat) (Vu:Bool) (Ve:LI) (Vs:Bool) (Vx:LI) (V8:Bool) (Vl:LI) (VG:Bool) (VZ:LI) (b UV:Bool) (k0:Kx5):Bool:=
 (RY N V8 Vl VG VZ false false (λcr nsr UZ UW=>RM N Vu Ve Vs Vx b UV cr nsr UZ UW (λVc U0 Vn U2=>k0 Vc U0 Vn U2)))
def O_ (N:Nat):Bool->LI->Bool->LI->Bool->LI->Bool->LI->Bool->Bool->(Kx5)->Bool:=aC N (Jv N)
def iK (N:Nat) (Vu:Bool) (Ve:LI) (Vs:Bool) (Vx:LI) (V8:Bool) (Vl:LI) (VG:Bool) (VZ:LI) (k0:Kx5):Bool:=
 (O_ N Vu Ve Vs Vx V8 Vl VG VZ false false (λcr nsr UZ UW=>k0 cr nsr UZ UW))
def cH (N:Nat):Bool->LI->Bool->LI->Bool->LI->Bool->LI->(Kx5)->Bool:=iK N
def JV (N:Nat) (Vu:Bool) (Ve:LI) (Vs:Bool) (Vx:LI) (k0:Kz1):Bool:=
 (cond Vu (k0 (-1)) (cond (((Ve.length:Nat):Int)==0) (k0 0) (k0 1)))
def Pd (N:Nat):Bool->LI->Bool->LI->(Kz1)->Bool:=aC N (JV N)
def pM (N:Nat) (Vu:Bool) (Ve:LI) (Vs:Bool) (Vx:LI) (k0:Kz1):Bool:=
 (Pd N Vu Ve Vs Vx (λnr=>k0 nr))
def qJ (N:Nat):Bool->LI->Bool->LI->(Kz1)->Bool:=pM N
def iN (N:Nat) (Vu:Bool) (Ve:LI) (Vs:Bool) (Vx:LI) (k0:Kz1):Bool:=
 (qJ N Vu Ve Vs Vx (λnr=>k0 nr))
def bB (N:Nat):Bool->LI->Bool->LI->(Kz1)->Bool:=iN N
def bI (N:Nat) (i YY VQ t9:Int) (Vf:List RY0) (Xi X0:Int) (e0:Bool):(Int)->((Int)->Bool)->Bool:=λv_ K=>match v_ with
 | t10=>(cond (decide (t10<t9)) (bf N Xi X0 i t10 Vf (λcr nsr UZ UW=>bf N Xi X0 t10 i Vf (λVc U0 Vn U2=>cH N cr nsr UZ UW Vc U0 Vn U2 (λWg U7 Wb U6=>bB N Wg U7 Wb U6 (λnr=>cW N (nr==0) 112 (af .i64 (t10+1)&&K (t10+1))))))) e0)
def bH (N:Nat) (t5:Int) (b0:List RY0) (g Xb:Int) (e0:Bool):(Int)->((Int)->Bool)->Bool:=λv_ K=>match v_ with
 | t6=>(cond (decide (t6<t5)) (aj N (bI N t6 t5 t6 t6 b0 g Xb (af .i64 (t6+1)&&K (t6+1))) 0) e0)
def cK (N:Nat) (WV VP:Int) (b:List RY0) (k0:Bool):Bool:=
 (aj N (bH N WV b WV VP k0) 0)
def cS (N:Nat):Int->Int->List RY0->(Bool)->Bool:=aC N (cK N)
def nZ (N:Nat) (a b:Int) (k0:Kx5):Bool:=
 (D5 N a (λcr nsr=>D5 N b (λUZ UW=>N6 N false false cr nsr UZ UW (λVc U0 Vn U2=>k0 Vc U0 Vn U2))))
def uB (N:Nat):Int->Int->(Kx5)->Bool:=aC N (nZ N)
def nx (N:Nat) (n:Int) (k0:Kx5):Bool:=
 (uB N n 1 (λcr nsr UZ UW=>k0 cr nsr UZ UW))
def ky (N:Nat):Int->(Kx5)->Bool:=nx N
def PB (N:Nat) (neg:Bool) (a b c d:LI) (UV UX:Bool) (k0:Kx5):Bool:=
 (zV N a d (λnsr=>zV N c b (λUW=>mE N a nsr (λU0=>mE N c UW (λU2=>xe N U0 U2 (λU7=>mE N b UW (λU6=>mE N d nsr (λs6=>xe N U6 s6 (λs7=>IZ N neg U7 s7 UV UX (λcr UZ=>k0 cr U7 UZ s7))))))))))
def N9 (N:Nat):Bool->LI->LI->LI->LI->Bool->Bool->(Kx5)->Bool:=aC N (PB N)
def Ju (N:Nat) (Vu:Bool) (Ve:LI) (Vs:Bool) (Vx:LI) (V8:Bool) (Vl:LI) (VG:Bool) (VZ:LI) (b UV:Bool) (k0:Kx5):Bool:=
 (zU N Vu Ve Vs Vx (λnsr=>zU N V8 Vl VG VZ (λUW=>N9 N (Vu != V8) Ve nsr UW Vl b UV (λcr U0 UZ U2=>k0 cr U0 UZ U2))))
def O9 (N:Nat):Bool->LI->Bool->LI->Bool->LI->Bool->LI->Bool->Bool->(Kx5)->Bool:=aC N (Ju N)
def iL (N:Nat) (Vu:Bool) (Ve:LI) (Vs:Bool) (Vx:LI) (V8:Bool) (Vl:LI) (VG:Bool) (VZ:LI) (k0:Kx5):Bool:=
 (O9 N Vu Ve Vs Vx V8 Vl VG VZ false false (λcr nsr UZ UW=>k0 cr nsr UZ UW))
def ep (N:Nat):Bool->LI->Bool->LI->Bool->LI->Bool->LI->(Kx5)->Bool:=iL N
def Jt (N:Nat) (Vu:Bool) (Ve:LI) (Vs:Bool) (Vx:LI) (V8:Bool) (Vl:LI) (VG:Bool) (VZ:LI) (b UV:Bool) (k0:Kx5):Bool:=
 (zU N Vu Ve Vs Vx (λnsr=>zU N V8 Vl VG VZ (λUW=>N9 N (Vu != V8) Ve nsr Vl UW b UV (λcr U0 UZ U2=>k0 cr U0 UZ U2))))
def O8 (N:Nat):Bool->LI->Bool->LI->Bool->LI->Bool->LI->Bool->Bool->(Kx5)->Bool:=aC N (Jt N)
def iv (N:Nat) (Vu:Bool) (Ve:LI) (Vs:Bool) (Vx:LI) (V8:Bool) (Vl:LI) (VG:Bool) (VZ:LI) (k0:Kx5):Bool:=
 (O8 N Vu Ve Vs Vx V8 Vl VG VZ false false (λcr nsr UZ UW=>k0 cr nsr UZ UW))
def dP (N:Nat):Bool->LI->Bool->LI->Bool->LI->Bool->LI->(Kx5)->Bool:=iv N
def MO (N:Nat) (Vu:Bool) (Ve:LI) (Vs:Bool) (Vx:LI) (V8:Bool) (Vl:LI) (VG:Bool) (VZ:LI) (b UV:Bool) (k0:Kx5):Bool:=
 (zU N Vu Ve Vs Vx (λnsr=>zU N V8 Vl VG VZ (λUW=>zV N nsr UW (λU0=>mE N nsr U0 (λU2=>mE N UW U0 (λU7=>xe N Ve U7 (λU6=>BT N Vu U6 false (λcr=>xe N Vl U2 (λs6=>Oe N V8 s6 cr U6 (λUZ s7=>zV N s7 U0 (λs8=>mE N s7 s8 (λs9=>pD N s9 (λs10=>mE N UW s8 (λs11=>xe N U2 s11 (λs12=>IZ N UZ s10 s12 b UV (λVc Vn=>k0 Vc s10 Vn s12))))))))))))))))
def Of (N:Nat):Bool->LI->Bool->LI->Bool->LI->Bool->LI->Bool->Bool->(Kx5)->Bool:=aC N (MO N)
def iM (N:Nat) (Vu:Bool) (Ve:LI) (Vs:Bool) (Vx:LI) (V8:Bool) (Vl:LI) (VG:Bool) (VZ:LI) (k0:Kx5):Bool:=
 (Of N Vu Ve Vs Vx V8 Vl VG VZ false false (λcr nsr UZ UW=>k0 cr nsr UZ UW))
def eu (N:Nat):Bool->LI->Bool->LI->Bool->LI->Bool->LI->(Kx5)->Bool:=iM N
def jj (N:Nat) (WV VP i j:Int) (Vu:Bool) (Ve:LI) (Vs:Bool) (Vx:LI) (b:List RY0) (k0:List RY0->Bool):Bool:=
 (af .i64 (i*VP)&&(af .i64 ((i*VP)+j)&&(inR ((i*VP)+j) b.length&&(decide ((Int.toNat ((i*VP)+j))<b.length)&&k0 (b.set (Int.toNat ((i*VP)+j)) ((Vu,Ve),(Vs,Vx)))))))
def fe (N:Nat):Int->Int->Int->Int->Bool->LI->Bool->LI->List RY0->(List RY0->Bool)->Bool:=jj N
def ct (N:Nat) (Vr Xp t10 g Xb:Int) (x:Bool) (Yn:LI) (YG:Bool) (YA:LI) (e0:List RY0->Bool):(Int × List RY0)->((Int × List RY0)->Bool)->Bool:=λv_ K=>match v_ with
 | (t11,b0)=>(cond (decide (t11<t10)) (bf N g Xb Vr t11 b0 (λcr nsr UZ UW=>bf N g Xb Xp t11 b0 (λVc U0 Vn U2=>dP N Vc U0 Vn U2 x Yn YG YA (λWg U7 Wb U6=>eu N cr nsr UZ UW Wg U7 Wb U6 (λWG s6 Wu s7=>fe N g Xb Vr t11 WG s6 Wu s7 b0 (λ(lr:List RY0)=>af .i64 (t11+1)&&K ((t11+1),lr))))))) (e0 b0))
def eP (N:Nat) (WV VP i k_:Int) (Vu:Bool) (Ve:LI) (Vs:Bool) (Vx:LI) (b:List RY0) (k0:List RY0->Bool):Bool:=
 (aj N (ct N i k_ VP WV VP Vu Ve Vs Vx (λ(Vf:List RY0)=>k0 Vf)) (0,b))
def fa (N:Nat):Int->Int->Int->Int->Bool->LI->Bool->LI->List RY0->(List RY0->Bool)->Bool:=aC N (eP N)
def aA (N:Nat) (Wn k_ YZ X7 Xi X0:Int) (p:Bool) (Xs:LI) (XP:Bool) (Zh:LI) (e0:Int->List RY0->Bool) (e1:List RY0->Bool):(Int × List RY0)->((Int × List RY0)->Bool)->Bool:=λv_ K=>match v_ with
 | (i,Vf)=>(cond (decide (i<Xi)) (bf N Xi X0 i k_ Vf (λVc U0 Vn U2=>bB N Vc U0 Vn U2 (λUY=>cond (UY==0) (af .i64 (i+1)&&K ((i+1),Vf)) (bB N p Xs XP Zh (λU4=>cond (U4==0) (e0 1 Vf) (ky N 0 (λWg U7 Wb U6=>ep N Vc U0 Vn U2 p Xs XP Zh (λWG s6 Wu s7=>cH N Wg U7 Wb U6 WG s6 Wu s7 (λc8 s8 c9 s9=>fa N Xi X0 i k_ c8 s8 c9 s9 Vf (λ(lr:List RY0)=>af .i64 (i+1)&&K ((i+1),lr))))))))))) (e1 Vf))
def aR (N:Nat) (t9 g Xb:Int) (e0:Int->List RY0->Bool) (e1:Int->List RY0->Bool):(Int × Int × List RY0)->((Int × Int × List RY0)->Bool)->Bool:=λv_ K=>match v_ with
 | (s,t10,b0)=>(cond (decide (t10<t9)) (bf N g Xb t10 t10 b0 (λcr nsr UZ UW=>bB N cr nsr UZ UW (λnr=>cond (decide (nr<0)) (e0 1 b0) (af .i64 (t10+1)&&aj N (aA N s t10 t9 t10 g Xb cr nsr UZ UW (λ(t2:Int) (V0:List RY0)=>e0 t2 V0) (λ(WK:List RY0)=>bB N cr nsr UZ UW (λVg=>cond (Vg==0) (af .i64 (t10+1)&&K (2,(t10+1),WK)) (af .i64 (t10+1)&&K (s,(t10+1),WK))))) ((t10+1),b0))))) (e1 s b0))
def cY (N:Nat) (WV VP:Int) (b:List RY0) (k0:Int->List RY0->Bool):Bool:=
 (aj N (aR N WV WV VP (λ(VK:Int) (ZC:List RY0)=>k0 VK ZC) (λ(Xu:Int) (ZD:List RY0)=>k0 Xu ZD)) (3,0,b))
def f_ (N:Nat):Int->Int->List RY0->(Int->List RY0->Bool)->Bool:=aC N (cY N)
def iJ (N:Nat) (WV VP:Int) (b:List RY0) (k0:Int->List RY0->Bool):Bool:=
 (cW N (WV==VP) 3 (cS N WV VP b (f_ N WV VP b (λ(nr:Int) (lr:List RY0)=>k0 nr lr))))
def eo (N:Nat):Int->Int->List RY0->(Int->List RY0->Bool)->Bool:=iJ N
def i8 (N:Nat) (Vk U5:Int) (Vd:LF) (k0:Ky3):Bool:=
 (iF N Vk U5 Vd (λ(lr:List RY0)=>eo N Vk U5 lr (λ(nr:Int) (Zf:List RY0)=>k0 nr 0)))
def jg (N:Nat):Int->Int->LF->(Ky3)->Bool:=aC N (i8 N)
def pm (N:Nat) (V8 Vl:Int) (VG:LF) (k0:Kz0):Bool:=
 (jg N V8 Vl VG (λnr UY=>cond ((UY==0)==true) (k0 (nr==3)) (k0 false)))
def i6 (N:Nat):Int->Int->LF->(Kz0)->Bool:=pm N
def ob (N:Nat) (Vq U_:Int) (Vz VX:LF) (k0:Kz1):Bool:=
 (D7 N Vq U_ Vz (λnr=>cond (nr != 0) (k0 nr) (cond ((Vq != U_)==false) (cond (((VX.length:Nat):Int) != Vq) (k0 3) (wK N VX (λcr=>cond (!cr) (k0 4) (RZ N Vq U_ Vz (λUZ=>cond (!UZ) (k0 150) (i6 N Vq U_ Vz (λVc=>cond (!Vc) (k0 170) (k0 0)))))))) (k0 3))))
def jX (N:Nat):Int->Int->LF->LF->(Kz1)->Bool:=aC N (ob N)
def pO (N:Nat) (n:Int) (h:LF) (r z:Fl) (k0:Kz1):Bool:=
 (cond (((h.length:Nat):Int) != n) (k0 3) (wK N h (λcr=>cond (!cr) (k0 4) (wK N [r] (λUZ=>cond (!UZ) (k0 4) (cond (fle r (some 0)) (k0 152) (wK N [z] (λVc=>cond (!Vc) (k0 4) (k0 0)))))))))
def nd (N:Nat):Int->LF->Fl->Fl->(Kz1)->Bool:=aC N (pO N)
abbrev xL:=Fl->(Kz3)->Bool
def uC (N:Nat):xL:=λx k=>k (zM x)
def ra (N:Nat) (f:Fl) (sign:Int) (k0:Kz0):Bool:=
 (cond (sign==0) (uC N f (λxr=>k0 (fgt xr (some 9218868437227405311)))) (cond (decide (sign<0)) (k0 (fgt (Rm f) (some 9218868437227405311))) (k0 (fgt f (some 9218868437227405311)))))
def l_ (N:Nat):Fl->Int->(Kz0)->Bool:=aC N (ra N)
def Pw (N:Nat) (x:Fl) (b:Bool) (k0:Kz0):Bool:=
 (cond ((!feq x x)==false) (l_ N x 0 (λcr=>cond cr (k0 true) (k0 b))) (k0 true))
def jW (N:Nat):Fl->Bool->(Kz0)->Bool:=aC N (Pw N)
def Jw (N:Nat) (a b:Fl) (UV:Bool) (k0:Ky4):Bool:=
 (jW N (bD a b) UV (λcr=>k0 (bD a b) cr))
def so (N:Nat):Fl->Fl->Bool->(Ky4)->Bool:=aC N (Jw N)
def d_ (N:Nat) (i j:Int) (b:Bool) (UV:Fl) (UX:LF) (k0:Ky4):Bool:=
 (inR i UX.length&&(decide (i.toNat<UX.length)&&(inR j UX.length&&(decide (j.toNat<UX.length)&&so N (UX.getD i.toNat none) (UX.getD j.toNat none) b (λxr cr=>jW N (fdiv xr UV) cr (λUZ=>k0 (fdiv xr UV) UZ))))))
def ek (N:Nat):Int->Int->Bool->Fl->LF->(Ky4)->Bool:=aC N (d_ N)
def dr (N:Nat) (i v_:Int) (b:Bool) (UV UX:Fl) (U9:LF) (k0:Ky4):Bool:=
 (inR i U9.length&&(decide (i.toNat<U9.length)&&so N (U9.getD i.toNat none) UV b (λxr cr=>jW N (fdiv xr UX) cr (λUZ=>k0 (fdiv xr UX) UZ))))
def dH (N:Nat):Int->Int->Bool->Fl->Fl->LF->(Ky4)->Bool:=aC N (dr N)
def J0 (N:Nat) (b k0:Bool):Bool:=
 k0
def D9 (N:Nat):Bool->(Bool)->Bool:=aC N (J0 N)
def gO (N:Nat) (V8 Vl:Int) (b:Bool) (UV UX:LF) (k0:Kx9) (k1:Kz1):Bool:=
 (D9 N b (cond b (k0 0 0 5) (i6 N V8 Vl UX (λcr=>cond (!cr) (k0 0 0 170) (k1 0)))))
def d8 (N:Nat):Int->Int->Bool->LF->LF->(Kx9)->(Kz1)->Bool:=aC N (gO N)
def cJ (N:Nat) (U8 i WN WO t34:Int) (Vf Vw:LF) (Wl Yk:Fl) (W1:LF) (VX Wy XA XB VG VZ:Int) (Vt:LF) (e0:Ky5):(Int × Bool × LF)->((Int × Bool × LF)->Bool)->Bool:=λv_ K=>match v_ with
 | (t35,VT,V1)=>(cond (decide (t35<t34)) (af .i64 (i*U8)&&(af .i64 ((i*U8)+t35)&&(inR ((i*U8)+t35) Vf.length&&(decide ((Int.toNat ((i*U8)+t35))<Vf.length)&&ek N i t35 VT Wl W1 (λxr cr=>jW N (cD (Vf.getD (Int.toNat ((i*U8)+t35)) none) xr) cr (λUZ=>af .i64 (i*U8)&&(af .i64 ((i*U8)+t35)&&(af .i64 (t35*U8)&&(af .i64 ((t35*U8)+i)&&(inR ((i*U8)+t35) V1.length&&(decide ((Int.toNat ((i*U8)+t35))<V1.length)&&(inR ((t35*U8)+i) (List.length (V1.set (Int.toNat ((i*U8)+t35)) (cD (Vf.getD (Int.toNat ((i*U8)+t35)) none) xr)))&&(decide ((Int.toNat ((t35*U8)+i))<(List.length (V1.set (Int.toNat ((i*U8)+t35)) (cD (Vf.getD (Int.toNat ((i*U8)+t35)) none) xr))))&&(af .i64 (t35+1)&&K ((t35+1),UZ,(List.set (V1.set (Int.toNat ((i*U8)+t35)) (cD (Vf.getD (Int.toNat ((i*U8)+t35)) none) xr)) (Int.toNat ((t35*U8)+i)) (cD (Vf.getD (Int.toNat ((i*U8)+t35)) none) xr))))))))))))))))) (e0 VT V1))
def cI (N:Nat) (n t29:Int) (b0 b1:LF) (toY toV:Fl) (b5:LF) (a Vz t6 VQ y Vl:Int) (e0:Ky0):(Int × Bool × LF × LF)->((Int × Bool × LF × LF)->Bool)->Bool:=λv_ K=>match v_ with
 | (t30,WA,v,b11)=>(cond (decide (t30<t29)) (af .i64 (t30+1)&&aj N (cJ N n t30 t29 t30 (t30+1) b0 b1 toY toV b5 a Vz t6 VQ y Vl v (λVU XY=>inR t30 b1.length&&(decide (t30.toNat<b1.length)&&dH N t30 0 VU toV toY b5 (λVm Vc=>jW N (cD (b1.getD t30.toNat none) Vm) Vc (λVn=>inR t30 v.length&&(decide (t30.toNat<v.length)&&(af .i64 (t30+1)&&K ((t30+1),Vn,(v.set t30.toNat (cD (b1.getD t30.toNat none) Vm)),XY)))))))) (0,WA,b11)) (e0 WA v b11))
def gd (N:Nat) (Vq U_:Int) (b UV:LF) (UX U9:Fl) (Vh:LF) (k0:Kx9) (k1:Kx2):Bool:=
 (af .i64 (((UV.length:Nat):Int)*((UV.length:Nat):Int))&&(iU 8 (((UV.length:Nat):Int)*((UV.length:Nat):Int)) (((UV.length:Nat):Int)*((UV.length:Nat):Int))&&(iU 8 ((UV.length:Nat):Int) ((UV.length:Nat):Int)&&aj N (cI N ((UV.length:Nat):Int) ((UV.length:Nat):Int) b UV UX U9 Vh Vq U_ 0 0 ((UV.length:Nat):Int) ((UV.length:Nat):Int) (λWe Wx b10=>d8 N ((UV.length:Nat):Int) ((UV.length:Nat):Int) We Wx b10 (λnr UY U4=>k0 nr UY U4) (λVg=>k1 ((UV.length:Nat):Int) ((UV.length:Nat):Int) Vg b10 Wx))) (0,false,(List.replicate (Int.toNat ((UV.length:Nat):Int)) (some 0)),(List.replicate (Int.toNat (((UV.length:Nat):Int)*((UV.length:Nat):Int))) (some 0))))))
def gf (N:Nat):Int->Int->LF->LF->Fl->Fl->LF->(Kx9)->(Kx2)->Bool:=aC N (gd N)
def iA (N:Nat) (Vq U_:Int) (r z:Fl) (b UV UX:LF) (k0:Kx3):Bool:=
 (jX N Vq U_ b UV (λnr=>cond (nr != 0) (k0 0 0 [] [] nr) (nd N ((UV.length:Nat):Int) UX r z (λUY=>cond (UY != 0) (k0 0 0 [] [] UY) (gf N Vq U_ b UV r z UX (λU4 Vg Vo=>k0 U4 Vg [] [] Vo) (λn5 n6 n7 xsr Vp=>k0 n5 n6 xsr Vp n7))))))
def eJ (N:Nat):Int->Int->Fl->Fl->LF->LF->LF->(Kx3)->Bool:=aC N (iA N)
def pW (N:Nat) (rows cols n:Int) (k0:Kz1):Bool:=
 (cond ((decide (rows<0))==false) (cond ((decide (rows>12))==false) (cond ((decide (cols<0))==false) (cond (decide (cols>12)) (k0 1) (af .i64 (rows*cols)&&cond (n != (rows*cols)) (k0 3) (k0 0))) (k0 1)) (k0 1)) (k0 1))
def qR (N:Nat):Int->Int->Int->(Kz1)->Bool:=aC N (pW N)
def xE (N:Nat) (x:Fl) (k0:Kz1):Bool:=
 (cond (!feq x x) (k0 9221120237041090561) (tB N x (λnr=>k0 nr)))
def mF (N:Nat):Fl->(Kz1)->Bool:=xE N
def pU (N:Nat) (x:Fl) (k0:Kx7):Bool:=
 (mF N x (λnr=>af .i64 (Int.tmod (Int.fdiv nr (2 ^ 52)) 2048)&&k0 ((Int.fdiv nr (2 ^ 63))==1) (Int.tmod (Int.fdiv nr (2 ^ 52)) 2048) (Int.tmod nr 4503599627370496)))
def nh (N:Nat):Fl->(Kx7)->Bool:=aC N (pU N)
def JX (N:Nat) (exp frac most:Int) (k0:Kz1):Bool:=
 (cond ((exp==most)==true) (cond (frac != 0) (k0 1) (cond (exp==most) (k0 2) (cond ((exp==0)==true) (cond (frac==0) (k0 3) (cond (exp==0) (k0 4) (k0 5))) (cond (exp==0) (k0 4) (k0 5))))) (cond (exp==most) (k0 2) (cond ((exp==0)==true) (cond (frac==0) (k0 3) (cond (exp==0) (k0 4) (k0 5))) (cond (exp==0) (k0 4) (k0 5)))))
def Pe (N:Nat):Int->Int->Int->(Kz1)->Bool:=aC N (JX N)
def vO (N:Nat) (x:Fl) (k0:Kz1):Bool:=
 (nh N x (λcr nr UY=>Pe N nr UY 2047 (λU4=>k0 U4)))
def qN (N:Nat):Fl->(Kz1)->Bool:=vO N
def OH (N:Nat) (x:Fl) (k0:Kz0):Bool:=
 (qN N x (λnr=>k0 (decide (nr>2))))
def wI (N:Nat):Fl->(Kz0)->Bool:=OH N
def fJ (N:Nat) (t5:LF) (t6:Int) (e0:Kz0) (e1:Bool):(Int)->((Int)->Bool)->Bool:=λv_ K=>match v_ with
 | t7=>(cond (decide (t7<t6)) (inR t7 t5.length&&wI N (t5.getD t7.toNat none) (λcr=>cond (!cr) (e0 false) (af .i64 (t7+1)&&K (t7+1)))) e1)
def PW (N:Nat) (l:LF) (k0:Kz0):Bool:=
 (aj N (fJ N l ((l.length:Nat):Int) (λt2=>k0 t2) (k0 true)) 0)
def I1 (N:Nat):LF->(Kz0)->Bool:=aC N (PW N)
def sF (N:Nat) (Vk U5:Int) (Vd:LF) (k0:Kz1):Bool:=
 (qR N Vk U5 ((Vd.length:Nat):Int) (λnr=>cond (nr != 0) (k0 nr) (I1 N Vd (λcr=>cond (!cr) (k0 4) (k0 0)))))
def mG (N:Nat):Int->Int->LF->(Kz1)->Bool:=aC N (sF N)
def xH (N:Nat) (Vk U5:Int) (Vd:LF) (k0:Kz1):Bool:=
 (mG N Vk U5 Vd (λnr=>k0 nr))
def pc (N:Nat):Int->Int->LF->(Kz1)->Bool:=xH N
def Ck (N:Nat) (Vk U5:Int) (Vd:LF) (i j:Int) (k0:Kz3):Bool:=
 (af .i64 (i*U5)&&(af .i64 ((i*U5)+j)&&(inR ((i*U5)+j) Vd.length&&k0 (Vd.getD (Int.toNat ((i*U5)+j)) none))))
def fh (N:Nat):Int->Int->LF->Int->Int->(Kz3)->Bool:=Ck N
def sE (N:Nat) (a b:Fl) (k0:Kz0):Bool:=
 (mF N a (λnr=>mF N b (λUY=>k0 (nr==UY))))
def pa (N:Nat):Fl->Fl->(Kz0)->Bool:=aC N (sE N)
def fL (N:Nat) (Vr Wd Wc:Int) (Wh:LF) (e0:Kz1) (e1:Bool):(Int)->((Int)->Bool)->Bool:=λv_ K=>match v_ with
 | j=>(cond (decide (j<Vr)) (fh N Wd Wc Wh Vr j (λxr=>fh N Wd Wc Wh j Vr (λVm=>pa N xr Vm (λcr=>cond (!cr) (e0 91) (af .i64 (j+1)&&K (j+1)))))) e1)
def fK (N:Nat) (m VH:Int) (V5:LF) (e0:Kz1) (e1:Bool):(Int)->((Int)->Bool)->Bool:=λv_ K=>match v_ with
 | i=>(cond (decide (i<m)) (aj N (fL N i m VH V5 (λt2=>e0 t2) (af .i64 (i+1)&&K (i+1))) 0) e1)
def JG (N:Nat) (Vk U5:Int) (Vd:LF) (k0:Kz1):Bool:=
 (mG N Vk U5 Vd (λnr=>cond (nr != 0) (k0 nr) (cond (Vk != U5) (k0 3) (aj N (fK N Vk U5 Vd (λVK=>k0 VK) (k0 0)) 0))))
def Mc (N:Nat):Int->Int->LF->(Kz1)->Bool:=aC N (JG N)
def pY (N:Nat) (YF:LF) (Wn Xu:Int) (WS:LF) (k0:Kz1):Bool:=
 (pc N Wn Xu WS (λnr=>cond (nr != 0) (k0 nr) (cond ((Wn != Xu)==false) (cond (((YF.length:Nat):Int) != Wn) (k0 3) (I1 N YF (λcr=>cond (!cr) (k0 4) (Mc N Wn Xu WS (λUY=>cond (UY != 0) (k0 150) (k0 0)))))) (k0 3))))
def wO (N:Nat):LF->Int->Int->LF->(Kz1)->Bool:=aC N (pY N)
def kb (N:Nat) (e0:Ky3):(Int × Int)->((Int × Int)->Bool)->Bool:=λv_ K=>match v_ with
 | (U5,YS)=>(cond ((Int.tmod U5 2)==0) (af .i64 (YS+1)&&K ((IntKind.wrap .u64 (Int.tdiv U5 2)),(YS+1))) (e0 U5 YS))
def re (N:Nat) (m e:Int) (k0:Ky3):Bool:=
 (cond (m==0) (k0 0 0) (aj N (kb N (λVd ZG=>k0 Vd ZG)) (m,e)))
def nS (N:Nat):Int->Int->(Ky3)->Bool:=aC N (re N)
def kG (N:Nat) (x:Fl) (neg:Bool) (e f:Int) (k0:Kx4):Bool:=
 (af .i64 (e - 1074)&&nS N f (e - 1074) (λU4 Vg=>k0 neg U4 Vg 0))
def pT (N:Nat) (x:Fl) (k0:Kx4):Bool:=
 (nh N x (λcr nr UY=>cond (nr==2047) (k0 false 0 0 4) (cond (decide (nr>0)) (af .i64 (nr - 1)&&kG N x cr (nr - 1) (IntKind.wrap .u64 (UY+4503599627370496)) k0) (kG N x cr nr UY k0))))
def qO (N:Nat):Fl->(Kx4)->Bool:=aC N (pT N)
def tM (N U5:Nat) (VH:LI) (e0:Kz2):(Nat)->((Nat)->Bool)->Bool:=λv_ K=>match v_ with
 | Vd=>(cond ((decide (((Vd:Nat):Int)>0))==true) (af .i64 (((Vd:Nat):Int) - 1)&&(inR (((Vd:Nat):Int) - 1) Vd&&(decide ((U5+(Int.toNat (((Vd:Nat):Int) - 1)))<VH.length)&&cond ((VH.getD (U5+(Int.toNat (((Vd:Nat):Int) - 1))) 0)==0) (af .i64 (((Vd:Nat):Int) - 1)&&(decide (0<=(((Vd:Nat):Int) - 1)/\(((Vd:Nat):Int) - 1)<=((Vd:Nat):Int))&&K ((Int.toNat (((Vd:Nat):Int) - 1)) - 0))) (e0 Vd)))) (e0 Vd))
def PF (N:Nat) (b:LI) (k0:Kz2):Bool:=
 (aj N (tM N 0 b (λV5=>k0 V5)) b.length)
def nR (N:Nat):LI->(Kz2)->Bool:=aC N (PF N)
def JS (N:Nat) (n:Int) (k0:Kz5):Bool:=
 (nR N [(IntKind.wrap .u32 n),(IntKind.wrap .u32 (Int.fdiv n (2 ^ 32)))] (λmr=>decide ((0+mr)<=(List.length [(IntKind.wrap .u32 n),(IntKind.wrap .u32 (Int.fdiv n (2 ^ 32)))]))&&k0 (List.take mr (List.drop 0 [(IntKind.wrap .u32 n),(IntKind.wrap .u32 (Int.fdiv n (2 ^ 32)))]))))
def AY (N:Nat):Int->(Kz5)->Bool:=aC N (JS N)
def fI (N:Nat) (e0:Kz5):(LI)->((LI)->Bool)->Bool:=λv_ K=>match v_ with
 | U5=>(cond ((decide (((U5.length:Nat):Int)>0))==true) (af .i64 (((U5.length:Nat):Int) - 1)&&(inR (((U5.length:Nat):Int) - 1) U5.length&&cond ((U5.getD (Int.toNat (((U5.length:Nat):Int) - 1)) 0)==0) (af .i64 (((U5.length:Nat):Int) - 1)&&(decide (0<=(((U5.length:Nat):Int) - 1)/\(((U5.length:Nat):Int) - 1)<=((U5.length:Nat):Int))&&K (List.drop 0 (List.take (Int.toNat (((U5.length:Nat):Int) - 1)) U5)))) (e0 U5))) (e0 U5))
def uP (N:Nat) (m:LI) (k0:Kz5):Bool:=
 (aj N (fI N (λVd=>k0 Vd)) m)
def kz (N:Nat):LI->(Kz5)->Bool:=aC N (uP N)
def OI (N:Nat) (neg:Bool) (m:LI) (b:Bool) (k0:Ky2):Bool:=
 (kz N m (λnsr=>cond (neg==true) (k0 (decide (((nsr.length:Nat):Int)>0)) nsr) (k0 false nsr)))
def wJ (N:Nat):Bool->LI->Bool->(Ky2)->Bool:=OI N
def PT (N:Nat) (n:Int) (b:Bool) (k0:Ky2):Bool:=
 (AY N n (λnsr=>wJ N false nsr b (λcr UW=>k0 cr UW)))
def Oq (N:Nat):Int->Bool->(Ky2)->Bool:=aC N (PT N)
def pZ (N:Nat) (neg b:Bool) (UV UX:LI) (k0:Kx8):Bool:=
 (nR N UX (λmr=>cond (neg==true) (k0 (decide (((mr:Nat):Int)>0)) 0 mr) (k0 false 0 mr)))
def qT (N:Nat):Bool->Bool->LI->LI->(Kx8)->Bool:=pZ N
def JQ (N:Nat) (b:Bool) (UV:LI) (k0:Ky2):Bool:=
 (decide ((List.length ([]++UV))*4<=140737488355328)&&qT N (!b) b UV ([]++UV) (λcr mr VE=>decide ((mr+VE)<=(List.length ([]++UV)))&&k0 cr (List.take VE (List.drop mr ([]++UV)))))
def Mi (N:Nat):Bool->LI->(Ky2)->Bool:=aC N (JQ N)
def xF (N:Nat) (x:Fl) (k0:Int->Bool->LI->Bool):Bool:=
 (qO N x (λcr nr UY U4=>Oq N nr false (λUZ nsr=>cond cr (Mi N UZ nsr (λVc UW=>k0 UY Vc UW)) (k0 UY UZ nsr))))
def zi (N:Nat):Fl->(Int->Bool->LI->Bool)->Bool:=aC N (xF N)
def eB (N:Nat) (U5:LI) (w s:Int) (e0:Kz5):(Int × LI)->((Int × LI)->Bool)->Bool:=λv_ K=>match v_ with
 | (i,out)=>(cond (decide (i<((U5.length:Nat):Int))) (inR i U5.length&&(decide (0<=s)&&(af .i64 (w+i)&&(inR (w+i) out.length&&(decide ((Int.toNat (w+i))<out.length)&&(inR (w+i) out.length&&(decide ((Int.toNat (w+i))<out.length)&&(af .i64 (w+i)&&(af .i64 ((w+i)+1)&&(inR ((w+i)+1) (List.length (out.set (Int.toNat (w+i)) (aB .or .u32 (out.getD (Int.toNat (w+i)) 0) (IntKind.wrap .u32 (IntKind.wrap .u64 ((IntKind.wrap .u64 (U5.getD i.toNat 0))*2 ^ (min s.toNat 64)))))))&&(decide ((Int.toNat ((w+i)+1))<(List.length (out.set (Int.toNat (w+i)) (aB .or .u32 (out.getD (Int.toNat (w+i)) 0) (IntKind.wrap .u32 (IntKind.wrap .u64 ((IntKind.wrap .u64 (U5.getD i.toNat 0))*2 ^ (min s.toNat 64))))))))&&(af .i64 (i+1)&&K ((i+1),(List.set (out.set (Int.toNat (w+i)) (aB .or .u32 (out.getD (Int.toNat (w+i)) 0) (IntKind.wrap .u32 (IntKind.wrap .u64 ((IntKind.wrap .u64 (U5.getD i.toNat 0))*2 ^ (min s.toNat 64)))))) (Int.toNat ((w+i)+1)) (IntKind.wrap .u32 (Int.fdiv (IntKind.wrap .u64 ((IntKind.wrap .u64 (U5.getD i.toNat 0))*2 ^ (min s.toNat 64))) (2 ^ 32))))))))))))))))) (e0 out))
def sB (N:Nat) (m:LI) (n:Int) (k0:Kz5):Bool:=
 (cond (((m.length:Nat):Int)==0) (k0 []) (af .i64 (IntKind.wrap .u64 (Int.tdiv n 32))&&(af .i64 ((IntKind.wrap .u64 (Int.tdiv n 32))+((m.length:Nat):Int))&&(af .i64 (((IntKind.wrap .u64 (Int.tdiv n 32))+((m.length:Nat):Int))+1)&&(iU 4 (((IntKind.wrap .u64 (Int.tdiv n 32))+((m.length:Nat):Int))+1) (((IntKind.wrap .u64 (Int.tdiv n 32))+((m.length:Nat):Int))+1)&&aj N (eB N m (IntKind.wrap .u64 (Int.tdiv n 32)) (Int.tmod n 32) (λVa=>nR N Va (λmr=>decide ((0+mr)<=Va.length)&&k0 (List.take mr (List.drop 0 Va))))) (0,(List.replicate (Int.toNat (((IntKind.wrap .u64 (Int.tdiv n 32))+((m.length:Nat):Int))+1)) (0:Int))))))))
def tD (N:Nat):LI->Int->(Kz5)->Bool:=aC N (sB N)
def Jz (N:Nat) (n:Int) (b UV:Bool) (UX:LI) (k0:Ky2):Bool:=
 (tD N UX n (λnsr=>wJ N UV nsr b (λcr UW=>k0 cr UW)))
def G9 (N:Nat):Int->Bool->Bool->LI->(Ky2)->Bool:=aC N (Jz N)
def SC (N:Nat) (x e:Int) (b:Bool) (UV:LI) (k0:Bool) (k1:Ky2):Bool:=
 (cond (decide (e>=x)) k0 (af .i64 (x - e)&&G9 N (IntKind.wrap .u64 (x - e)) false b UV (λcr nsr=>k1 cr nsr)))
def RS (N:Nat):Int->Int->Bool->LI->(Bool)->(Ky2)->Bool:=SC N
def Ge (N:Nat) (k0:Kz5):Bool:=
 (k0 [1])
def pE (N:Nat):(Kz5)->Bool:=Ge N
def JI (N:Nat) (neg:Bool) (m:LI) (b UV:Bool) (k0:Bool->LI->LI->Bool):Bool:=
 (kz N m (λnsr=>cond (neg==true) (k0 (decide (((nsr.length:Nat):Int)>0)) nsr []) (k0 false nsr [])))
def D0 (N:Nat):Bool->LI->Bool->Bool->(Bool->LI->LI->Bool)->Bool:=JI N
def JZ (N:Nat) (neg:Bool) (m:LI) (b:Bool) (UV:LI) (UX:Bool) (U9:LI) (k0:Ky2):Bool:=
 (kz N m (λnsr=>cond (neg==true) (k0 (decide (((nsr.length:Nat):Int)>0)) nsr) (k0 false nsr)))
def D8 (N:Nat):Bool->LI->Bool->LI->Bool->LI->(Ky2)->Bool:=JZ N
def GQ8 (N:Nat) (x:Int) (k0:Kz1):Bool:=
 (cond (x==0) (k0 32) (inR (Int.fdiv (IntKind.wrap .u32 ((aB .and .u32 x (IntKind.wrap .u32 (0 - x)))*125613361)) (2 ^ 27)) 32&&(af .i64 (wR.getD (Int.toNat (Int.fdiv (IntKind.wrap .u32 ((aB .and .u32 x (IntKind.wrap .u32 (0 - x)))*125613361)) (2 ^ 27))) 0)&&k0 (wR.getD (Int.toNat (Int.fdiv (IntKind.wrap .u32 ((aB .and .u32 x (IntKind.wrap .u32 (0 - x)))*125613361)) (2 ^ 27))) 0))))
def sQ8 (N:Nat):Int->(Kz1)->Bool:=aC N (GQ8 N)
def Hl (N:Nat) (z:Bool) (VI:LI) (e0:Kz1) (e1:Bool):(Int)->((Int)->Bool)->Bool:=λv_ K=>match v_ with
 | i=>(cond (decide (i<((VI.length:Nat):Int))) (inR i VI.length&&cond ((VI.getD i.toNat 0) != 0) (af .i64 (32*i)&&(inR i VI.length&&sQ8 N (VI.getD i.toNat 0) (λnr=>af .i64 ((32*i)+nr)&&e0 (IntKind.wrap .u64 ((32*i)+nr))))) (af .i64 (i+1)&&K (i+1))) e1)
def GQ1 (N:Nat) (b:Bool) (UV:LI) (k0:Kz1):Bool:=
 (aj N (Hl N b UV (λt2=>k0 t2) (k0 0)) 0)
def sQ1 (N:Nat):Bool->LI->(Kz1)->Bool:=aC N (GQ1 N)
def j8 (N:Nat) (U5:LI) (w s:Int) (e0:Kz5):(Int × LI)->((Int × LI)->Bool)->Bool:=λv_ K=>match v_ with
 | (i,out)=>(cond (decide (i<((out.length:Nat):Int))) (af .i64 (w+i)&&(inR (w+i) U5.length&&(af .i64 (w+i)&&(af .i64 ((w+i)+1)&&cond (decide (((w+i)+1)<((U5.length:Nat):Int))) (af .i64 (w+i)&&(af .i64 ((w+i)+1)&&(inR ((w+i)+1) U5.length&&(decide (0<=s)&&(inR i out.length&&(decide (i.toNat<out.length)&&(af .i64 (i+1)&&K ((i+1),(out.set i.toNat (IntKind.wrap .u32 (Int.fdiv (aB .or .u64 (IntKind.wrap .u64 (U5.getD (Int.toNat (w+i)) 0)) (IntKind.wrap .u64 ((IntKind.wrap .u64 (U5.getD (Int.toNat ((w+i)+1)) 0))*2 ^ 32))) (2 ^ (min s.toNat 64))))))))))))) (decide (0<=s)&&(inR i out.length&&(decide (i.toNat<out.length)&&(af .i64 (i+1)&&K ((i+1),(out.set i.toNat (IntKind.wrap .u32 (Int.fdiv (IntKind.wrap .u64 (U5.getD (Int.toNat (w+i)) 0)) (2 ^ (min s.toNat 64)))))))))))))) (e0 out))
def PZ (N:Nat) (m:LI) (n:Int) (k0:Kz5):Bool:=
 (af .i64 (IntKind.wrap .u64 (Int.tdiv n 32))&&cond (decide ((IntKind.wrap .u64 (Int.tdiv n 32))>=((m.length:Nat):Int))) (k0 []) (af .i64 (((m.length:Nat):Int) - (IntKind.wrap .u64 (Int.tdiv n 32)))&&(iU 4 (((m.length:Nat):Int) - (IntKind.wrap .u64 (Int.tdiv n 32))) (((m.length:Nat):Int) - (IntKind.wrap .u64 (Int.tdiv n 32)))&&aj N (j8 N m (IntKind.wrap .u64 (Int.tdiv n 32)) (Int.tmod n 32) (λVa=>nR N Va (λmr=>decide ((0+mr)<=Va.length)&&k0 (List.take mr (List.drop 0 Va))))) (0,(List.replicate (Int.toNat (((m.length:Nat):Int) - (IntKind.wrap .u64 (Int.tdiv n 32)))) (0:Int))))))
def zW (N:Nat):LI->Int->(Kz5)->Bool:=aC N (PZ N)
def JF (N:Nat) (x:Int) (k0:Kz1):Bool:=
 (cond (decide (x>=65536)) (cond (decide ((Int.fdiv x (2 ^ 16))>=256)) (inR (IntKind.wrap .u8 (Int.fdiv (Int.fdiv x (2 ^ 16)) (2 ^ 8))) 256&&(af .i64 (az.getD (Int.toNat (IntKind.wrap .u8 (Int.fdiv (Int.fdiv x (2 ^ 16)) (2 ^ 8)))) 0)&&(af .i64 (24+(az.getD (Int.toNat (IntKind.wrap .u8 (Int.fdiv (Int.fdiv x (2 ^ 16)) (2 ^ 8)))) 0))&&k0 (24+(az.getD (Int.toNat (IntKind.wrap .u8 (Int.fdiv (Int.fdiv x (2 ^ 16)) (2 ^ 8)))) 0))))) (inR (IntKind.wrap .u8 (Int.fdiv x (2 ^ 16))) 256&&(af .i64 (az.getD (Int.toNat (IntKind.wrap .u8 (Int.fdiv x (2 ^ 16)))) 0)&&(af .i64 (16+(az.getD (Int.toNat (IntKind.wrap .u8 (Int.fdiv x (2 ^ 16)))) 0))&&k0 (16+(az.getD (Int.toNat (IntKind.wrap .u8 (Int.fdiv x (2 ^ 16)))) 0)))))) (cond (decide (x>=256)) (inR (IntKind.wrap .u8 (Int.fdiv x (2 ^ 8))) 256&&(af .i64 (az.getD (Int.toNat (IntKind.wrap .u8 (Int.fdiv x (2 ^ 8)))) 0)&&(af .i64 (8+(az.getD (Int.toNat (IntKind.wrap .u8 (Int.fdiv x (2 ^ 8)))) 0))&&k0 (8+(az.getD (Int.toNat (IntKind.wrap .u8 (Int.fdiv x (2 ^ 8)))) 0))))) (inR (IntKind.wrap .u8 x) 256&&(af .i64 (az.getD (Int.toNat (IntKind.wrap .u8 x)) 0)&&(af .i64 (0+(az.getD (Int.toNat (IntKind.wrap .u8 x)) 0))&&k0 (0+(az.getD (Int.toNat (IntKind.wrap .u8 x)) 0)))))))
def G_ (N:Nat):Int->(Kz1)->Bool:=aC N (JF N)
def PX (N:Nat) (b:Bool) (UV:LI) (k0:Kz1):Bool:=
 (cond (((UV.length:Nat):Int)==0) (k0 0) (af .i64 (((UV.length:Nat):Int) - 1)&&(af .i64 (32*(((UV.length:Nat):Int) - 1))&&(af .i64 (((UV.length:Nat):Int) - 1)&&(inR (((UV.length:Nat):Int) - 1) UV.length&&G_ N (UV.getD (Int.toNat (((UV.length:Nat):Int) - 1)) 0) (λnr=>af .i64 ((32*(((UV.length:Nat):Int) - 1))+nr)&&k0 ((32*(((UV.length:Nat):Int) - 1))+nr)))))))
def I2 (N:Nat):Bool->LI->(Kz1)->Bool:=aC N (PX N)
def tH (N:Nat) (U_ UV:LI) (e0:Kz1) (e1:Bool):(Int)->((Int)->Bool)->Bool:=λv_ K=>match v_ with
 | i=>(cond (decide (i>=0)) (inR i U_.length&&(inR i UV.length&&cond (decide ((U_.getD i.toNat 0)<(UV.getD i.toNat 0))) (e0 (-1)) (inR i U_.length&&(inR i UV.length&&cond (decide ((U_.getD i.toNat 0)>(UV.getD i.toNat 0))) (e0 1) (af .i64 (i - 1)&&K (i - 1)))))) e1)
def P8 (N:Nat) (a b:LI) (k0:Kz1):Bool:=
 (cond (((a.length:Nat):Int) != ((b.length:Nat):Int)) (cond (decide (((a.length:Nat):Int)<((b.length:Nat):Int))) (k0 (-1)) (k0 1)) (af .i64 (((a.length:Nat):Int) - 1)&&aj N (tH N a b (λt4=>k0 t4) (k0 0)) (((a.length:Nat):Int) - 1)))
def D_ (N:Nat):LI->LI->(Kz1)->Bool:=aC N (P8 N)
def kQ (N:Nat) (x:LI) (e0:Kz1):(Int × Int)->((Int × Int)->Bool)->Bool:=λv_ K=>match v_ with
 | (u,i)=>(cond (decide (i>=0)) (inR i x.length&&(af .i64 (i - 1)&&K ((aB .or .u64 (IntKind.wrap .u64 (u*2 ^ 32)) (IntKind.wrap .u64 (x.getD i.toNat 0))),(i - 1)))) (e0 u))
def sA (N:Nat) (m:LI) (ZB:Int) (k0:Kz1):Bool:=
 (zW N m (IntKind.wrap .u64 ZB) (λnsr=>af .i64 (((nsr.length:Nat):Int) - 1)&&aj N (kQ N nsr (λVD=>k0 VD)) (0,(((nsr.length:Nat):Int) - 1))))
def o_ (N:Nat):LI->Int->(Kz1)->Bool:=aC N (sA N)
def nV (N:Nat) (e0:Kx6):(Int × Int × Int × Int × Int × Int)->((Int × Int × Int × Int × Int × Int)->Bool)->Bool:=λv_ K=>match v_ with
 | (a,b,c,d,p,q)=>(af .i64 (q+c)&&cond (((q+c) != 0)==true) (af .i64 (q+d)&&cond ((q+d) != 0) (af .i64 (p+a)&&(af .i64 (q+c)&&((!decide ((q+c)=0))&&(af .i64 (Int.tdiv (p+a) (q+c))&&(af .i64 (p+b)&&(af .i64 (q+d)&&((!decide ((q+d)=0))&&(af .i64 (Int.tdiv (p+b) (q+d))&&cond ((Int.tdiv (p+a) (q+c)) != (Int.tdiv (p+b) (q+d))) (e0 a b c d) (af .i64 ((Int.tdiv (p+a) (q+c))*c)&&(af .i64 (a - ((Int.tdiv (p+a) (q+c))*c))&&(af .i64 ((Int.tdiv (p+a) (q+c))*d)&&(af .i64 (b - ((Int.tdiv (p+a) (q+c))*d))&&cond ((decide ((a - ((Int.tdiv (p+a) (q+c))*c))>1073741824))==false) (cond ((decide ((a - ((Int.tdiv (p+a) (q+c))*c))<(-1073741824)))==false) (cond ((decide ((b - ((Int.tdiv (p+a) (q+c))*d))>1073741824))==false) (cond (decide ((b - ((Int.tdiv (p+a) (q+c))*d))<(-1073741824))) (e0 a b c d) (af .i64 ((Int.tdiv (p+a) (q+c))*q)&&(af .i64 (p - ((Int.tdiv (p+a) (q+c))*q))&&K (c,d,(a - ((Int.tdiv (p+a) (q+c))*c)),(b - ((Int.tdiv (p+a) (q+c))*d)),q,(p - ((Int.tdiv (p+a) (q+c))*q)))))) (e0 a b c d)) (e0 a b c d)) (e0 a b c d))))))))))))) (e0 a b c d)) (e0 a b c d))
def pS (N:Nat) (x y:Int) (k0:Kx6):Bool:=
 (af .i64 x&&(af .i64 y&&aj N (nV N (λU_ UV Y7 Vv=>k0 U_ UV Y7 Vv)) (1,0,0,1,x,y)))
def qM (N:Nat):Int->Int->(Kx6)->Bool:=aC N (pS N)
def j9 (N:Nat) (U5:LI) (Vv:Int) (e0:Ky6):(Int × Int × LI)->((Int × Int × LI)->Bool)->Bool:=λv_ K=>match v_ with
 | (r,i,out)=>(cond (decide (i>=0)) (inR i U5.length&&((!decide ((IntKind.wrap .u64 Vv)=0))&&(inR i out.length&&(decide (i.toNat<out.length)&&((!decide ((IntKind.wrap .u64 Vv)=0))&&(af .i64 (i - 1)&&K ((Int.tmod (aB .or .u64 (IntKind.wrap .u64 (r*2 ^ 32)) (IntKind.wrap .u64 (U5.getD i.toNat 0))) (IntKind.wrap .u64 Vv)),(i - 1),(out.set i.toNat (IntKind.wrap .u32 (IntKind.wrap .u64 (Int.tdiv (aB .or .u64 (IntKind.wrap .u64 (r*2 ^ 32)) (IntKind.wrap .u64 (U5.getD i.toNat 0))) (IntKind.wrap .u64 Vv)))))))))))) (e0 r out))
def pR (N:Nat) (m:LI) (d:Int) (k0:LI->Int->Bool):Bool:=
 (iU 4 ((m.length:Nat):Int) ((m.length:Nat):Int)&&(af .i64 (((m.length:Nat):Int) - 1)&&aj N (j9 N m d (λXl Va=>nR N Va (λmr=>decide ((0+mr)<=Va.length)&&k0 (List.take mr (List.drop 0 Va)) (IntKind.wrap .u32 Xl)))) (0,(((m.length:Nat):Int) - 1),(List.replicate (Int.toNat ((m.length:Nat):Int)) (0:Int)))))
def ng (N:Nat):LI->Int->(LI->Int->Bool)->Bool:=aC N (pR N)
def Sw (N:Nat) (x:Int) (k0:Kz1):Bool:=
 (G_ N x (λnr=>af .i64 (32 - nr)&&k0 (32 - nr)))
def RP (N:Nat):Int->(Kz1)->Bool:=Sw N
def mJ (N:Nat) (U5:LI) (w s:Int) (e0:Kz5):(Int × LI)->((Int × LI)->Bool)->Bool:=λv_ K=>match v_ with
 | (i,out)=>(cond (decide (i<((U5.length:Nat):Int))) (inR i U5.length&&(decide (0<=s)&&(af .i64 (w+i)&&(inR (w+i) out.length&&(decide ((Int.toNat (w+i))<out.length)&&(inR (w+i) out.length&&(decide ((Int.toNat (w+i))<out.length)&&(af .i64 (w+i)&&(af .i64 ((w+i)+1)&&(inR ((w+i)+1) (List.length (out.set (Int.toNat (w+i)) (aB .or .u32 (out.getD (Int.toNat (w+i)) 0) (IntKind.wrap .u32 (IntKind.wrap .u64 ((IntKind.wrap .u64 (U5.getD i.toNat 0))*2 ^ (min s.toNat 64)))))))&&(decide ((Int.toNat ((w+i)+1))<(List.length (out.set (Int.toNat (w+i)) (aB .or .u32 (out.getD (Int.toNat (w+i)) 0) (IntKind.wrap .u32 (IntKind.wrap .u64 ((IntKind.wrap .u64 (U5.getD i.toNat 0))*2 ^ (min s.toNat 64))))))))&&(af .i64 (i+1)&&K ((i+1),(List.set (out.set (Int.toNat (w+i)) (aB .or .u32 (out.getD (Int.toNat (w+i)) 0) (IntKind.wrap .u32 (IntKind.wrap .u64 ((IntKind.wrap .u64 (U5.getD i.toNat 0))*2 ^ (min s.toNat 64)))))) (Int.toNat ((w+i)+1)) (IntKind.wrap .u32 (Int.fdiv (IntKind.wrap .u64 ((IntKind.wrap .u64 (U5.getD i.toNat 0))*2 ^ (min s.toNat 64))) (2 ^ 32))))))))))))))))) (e0 out))
def Jp (N:Nat) (m:LI) (n:Int) (k0:Bool) (k1:Ky7):Bool:=
 (cond (((m.length:Nat):Int)==0) k0 (af .i64 (IntKind.wrap .u64 (Int.tdiv n 32))&&(af .i64 ((IntKind.wrap .u64 (Int.tdiv n 32))+((m.length:Nat):Int))&&(af .i64 (((IntKind.wrap .u64 (Int.tdiv n 32))+((m.length:Nat):Int))+1)&&(iU 4 (((IntKind.wrap .u64 (Int.tdiv n 32))+((m.length:Nat):Int))+1) (((IntKind.wrap .u64 (Int.tdiv n 32))+((m.length:Nat):Int))+1)&&aj N (mJ N m (IntKind.wrap .u64 (Int.tdiv n 32)) (Int.tmod n 32) (λVa=>nR N Va (λmr=>k1 mr Va))) (0,(List.replicate (Int.toNat (((IntKind.wrap .u64 (Int.tdiv n 32))+((m.length:Nat):Int))+1)) (0:Int))))))))
def DV (N:Nat):LI->Int->(Bool)->(Ky7)->Bool:=aC N (Jp N)
def gH (N u V9 d Ws:Nat) (Vy VP:Int) (WX:LI) (e0:Int->Int->LI->Bool):(Int × Int × Int × LI)->((Int × Int × Int × LI)->Bool)->Bool:=λv_ K=>match v_ with
 | (carry,borrow,i,VV)=>(cond (decide (i<((Ws:Nat):Int))) (inR i Ws&&(decide ((d+i.toNat)<WX.length)&&(af .i64 (Vy+i)&&(inR (Vy+i) V9&&(decide ((u+(Int.toNat (Vy+i)))<VV.length)&&cond (decide ((IntKind.wrap .u64 (VV.getD (u+(Int.toNat (Vy+i))) 0))<(IntKind.wrap .u64 ((aB .and .u64 (IntKind.wrap .u64 ((IntKind.wrap .u64 (VP*(IntKind.wrap .u64 (WX.getD (d+i.toNat) 0))))+carry)) 4294967295)+borrow)))) (af .i64 (Vy+i)&&(inR (Vy+i) V9&&(decide ((u+(Int.toNat (Vy+i)))<VV.length)&&(af .i64 (i+1)&&K ((Int.fdiv (IntKind.wrap .u64 ((IntKind.wrap .u64 (VP*(IntKind.wrap .u64 (WX.getD (d+i.toNat) 0))))+carry)) (2 ^ 32)),1,(i+1),(VV.set (u+(Int.toNat (Vy+i))) (IntKind.wrap .u32 (IntKind.wrap .u64 ((IntKind.wrap .u64 ((IntKind.wrap .u64 (VV.getD (u+(Int.toNat (Vy+i))) 0))+4294967296)) - (IntKind.wrap .u64 ((aB .and .u64 (IntKind.wrap .u64 ((IntKind.wrap .u64 (VP*(IntKind.wrap .u64 (WX.getD (d+i.toNat) 0))))+carry)) 4294967295)+borrow))))))))))) (af .i64 (Vy+i)&&(inR (Vy+i) V9&&(decide ((u+(Int.toNat (Vy+i)))<VV.length)&&(af .i64 (i+1)&&K ((Int.fdiv (IntKind.wrap .u64 ((IntKind.wrap .u64 (VP*(IntKind.wrap .u64 (WX.getD (d+i.toNat) 0))))+carry)) (2 ^ 32)),0,(i+1),(VV.set (u+(Int.toNat (Vy+i))) (IntKind.wrap .u32 (IntKind.wrap .u64 ((IntKind.wrap .u64 (VV.getD (u+(Int.toNat (Vy+i))) 0)) - (IntKind.wrap .u64 ((aB .and .u64 (IntKind.wrap .u64 ((IntKind.wrap .u64 (VP*(IntKind.wrap .u64 (WX.getD (d+i.toNat) 0))))+carry)) 4294967295)+borrow)))))))))))))))) (e0 carry borrow VV))
def JN (N VC VD YR Vv:Nat) (j g:Int) (b UV:LI) (k0:Ky2):Bool:=
 (aj N (gH N VC VD YR Vv j g UV (λVi V3 WJ=>af .i64 (j+((Vv:Nat):Int))&&(inR (j+((Vv:Nat):Int)) VD&&(decide ((VC+(Int.toNat (j+((Vv:Nat):Int))))<WJ.length)&&(af .i64 (j+((Vv:Nat):Int))&&(inR (j+((Vv:Nat):Int)) VD&&(decide ((VC+(Int.toNat (j+((Vv:Nat):Int))))<WJ.length)&&k0 (decide ((IntKind.wrap .u64 (WJ.getD (VC+(Int.toNat (j+((Vv:Nat):Int)))) 0))<(IntKind.wrap .u64 (Vi+V3)))) (WJ.set (VC+(Int.toNat (j+((Vv:Nat):Int)))) (IntKind.wrap .u32 (IntKind.wrap .u64 ((IntKind.wrap .u64 (WJ.getD (VC+(Int.toNat (j+((Vv:Nat):Int)))) 0)) - (IntKind.wrap .u64 (Vi+V3))))))))))))) (0,0,0,b))
def Mf (N:Nat):Nat->Nat->Nat->Nat->Int->Int->LI->LI->(Ky2)->Bool:=aC N (JN N)
def gI (N u V9 d Ws:Nat) (Vy:Int) (WX:LI) (e0:Ky6):(Int × Int × LI)->((Int × Int × LI)->Bool)->Bool:=λv_ K=>match v_ with
 | (carry,i,VV)=>(cond (decide (i<((Ws:Nat):Int))) (af .i64 (Vy+i)&&(inR (Vy+i) V9&&(decide ((u+(Int.toNat (Vy+i)))<VV.length)&&(inR i Ws&&(decide ((d+i.toNat)<WX.length)&&(af .i64 (Vy+i)&&(inR (Vy+i) V9&&(decide ((u+(Int.toNat (Vy+i)))<VV.length)&&(af .i64 (i+1)&&K ((Int.fdiv (IntKind.wrap .u64 ((IntKind.wrap .u64 ((IntKind.wrap .u64 (VV.getD (u+(Int.toNat (Vy+i))) 0))+(IntKind.wrap .u64 (WX.getD (d+i.toNat) 0))))+carry)) (2 ^ 32)),(i+1),(VV.set (u+(Int.toNat (Vy+i))) (IntKind.wrap .u32 (IntKind.wrap .u64 ((IntKind.wrap .u64 ((IntKind.wrap .u64 (VV.getD (u+(Int.toNat (Vy+i))) 0))+(IntKind.wrap .u64 (WX.getD (d+i.toNat) 0))))+carry)))))))))))))) (e0 carry VV))
def JO (N VC VD YR Vv:Nat) (j:Int) (b UV:LI) (k0:Kz5):Bool:=
 (aj N (gI N VC VD YR Vv j UV (λVi WJ=>af .i64 (j+((Vv:Nat):Int))&&(inR (j+((Vv:Nat):Int)) VD&&(decide ((VC+(Int.toNat (j+((Vv:Nat):Int))))<WJ.length)&&(inR (j+((Vv:Nat):Int)) VD&&(decide ((VC+(Int.toNat (j+((Vv:Nat):Int))))<WJ.length)&&k0 (WJ.set (VC+(Int.toNat (j+((Vv:Nat):Int)))) (IntKind.wrap .u32 ((WJ.getD (VC+(Int.toNat (j+((Vv:Nat):Int)))) 0)+(IntKind.wrap .u32 Vi)))))))))) (0,0,b))
def Mg (N:Nat):Nat->Nat->Nat->Nat->Int->LI->LI->(Kz5)->Bool:=aC N (JO N)
def tL (N m:Nat) (VH:LI) (e0:Kz2):(Nat)->((Nat)->Bool)->Bool:=λv_ K=>match v_ with
 | Vd=>(cond ((decide (((Vd:Nat):Int)>0))==true) (af .i64 (((Vd:Nat):Int) - 1)&&(inR (((Vd:Nat):Int) - 1) Vd&&(decide ((m+(Int.toNat (((Vd:Nat):Int) - 1)))<VH.length)&&cond ((VH.getD (m+(Int.toNat (((Vd:Nat):Int) - 1))) 0)==0) (af .i64 (((Vd:Nat):Int) - 1)&&(decide (0<=(((Vd:Nat):Int) - 1)/\(((Vd:Nat):Int) - 1)<=((Vd:Nat):Int))&&K ((Int.toNat (((Vd:Nat):Int) - 1)) - 0))) (e0 Vd)))) (e0 Vd))
def pP (N Vk U5:Nat) (b:LI) (k0:Kz2):Bool:=
 (aj N (tL N Vk b (λV5=>k0 V5)) U5)
def qL (N:Nat):Nat->Nat->LI->(Kz2)->Bool:=aC N (pP N)
def ir (N m Vd:Nat) (w s:Int) (VH:LI) (e0:Kz5):(Int × LI)->((Int × LI)->Bool)->Bool:=λv_ K=>match v_ with
 | (i,out)=>(cond (decide (i<((out.length:Nat):Int))) (af .i64 (w+i)&&(inR (w+i) Vd&&(decide ((m+(Int.toNat (w+i)))<VH.length)&&(af .i64 (w+i)&&(af .i64 ((w+i)+1)&&cond (decide (((w+i)+1)<((Vd:Nat):Int))) (af .i64 (w+i)&&(af .i64 ((w+i)+1)&&(inR ((w+i)+1) Vd&&(decide ((m+(Int.toNat ((w+i)+1)))<VH.length)&&(decide (0<=s)&&(inR i out.length&&(decide (i.toNat<out.length)&&(af .i64 (i+1)&&K ((i+1),(out.set i.toNat (IntKind.wrap .u32 (Int.fdiv (aB .or .u64 (IntKind.wrap .u64 (VH.getD (m+(Int.toNat (w+i))) 0)) (IntKind.wrap .u64 ((IntKind.wrap .u64 (VH.getD (m+(Int.toNat ((w+i)+1))) 0))*2 ^ 32))) (2 ^ (min s.toNat 64)))))))))))))) (decide (0<=s)&&(inR i out.length&&(decide (i.toNat<out.length)&&(af .i64 (i+1)&&K ((i+1),(out.set i.toNat (IntKind.wrap .u32 (Int.fdiv (IntKind.wrap .u64 (VH.getD (m+(Int.toNat (w+i))) 0)) (2 ^ (min s.toNat 64))))))))))))))) (e0 out))
def JU (N Vk U5:Nat) (n:Int) (b:LI) (k0:Kz5):Bool:=
 (af .i64 (IntKind.wrap .u64 (Int.tdiv n 32))&&cond (decide ((IntKind.wrap .u64 (Int.tdiv n 32))>=((U5:Nat):Int))) (k0 []) (af .i64 (((U5:Nat):Int) - (IntKind.wrap .u64 (Int.tdiv n 32)))&&(iU 4 (((U5:Nat):Int) - (IntKind.wrap .u64 (Int.tdiv n 32))) (((U5:Nat):Int) - (IntKind.wrap .u64 (Int.tdiv n 32)))&&aj N (ir N Vk U5 (IntKind.wrap .u64 (Int.tdiv n 32)) (Int.tmod n 32) b (λVa=>nR N Va (λmr=>decide ((0+mr)<=Va.length)&&k0 (List.take mr (List.drop 0 Va))))) (0,(List.replicate (Int.toNat (((U5:Nat):Int) - (IntKind.wrap .u64 (Int.tdiv n 32)))) (0:Int))))))
def Mk (N:Nat):Nat->Nat->Int->LI->(Kz5)->Bool:=aC N (JU N)
def nw (N:Nat) (U_:LI) (s:Int) (e0:Ky7):(Nat × LI)->((Nat × LI)->Bool)->Bool:=λv_ K=>match v_ with
 | (u,VD)=>(af .i64 (((U_.length:Nat):Int)+1)&&cond (decide (((u:Nat):Int)<(((U_.length:Nat):Int)+1))) (decide ((0+u)<=VD.length)&&(decide ((List.length ((List.take u (List.drop 0 VD))++[0]))*4<=140737488355328)&&K ((List.length ((List.take u (List.drop 0 VD))++[0])),((List.take u (List.drop 0 VD))++[0])))) (e0 u VD))
def qX (N:Nat) (Vz:LI) (Wn:Int) (d:Nat) (Vv:LI) (e0:Ky7):(Nat × LI)->((Nat × LI)->Bool)->Bool:=λv_ K=>match v_ with
 | (WQ,XL)=>(af .i64 (((Vz.length:Nat):Int)+1)&&cond (decide (((WQ:Nat):Int)<(((Vz.length:Nat):Int)+1))) (decide ((0+WQ)<=XL.length)&&(decide ((List.length ((List.take WQ (List.drop 0 XL))++[0]))*4<=140737488355328)&&K ((List.length ((List.take WQ (List.drop 0 XL))++[0])),((List.take WQ (List.drop 0 XL))++[0])))) (e0 WQ XL))
def nv (N:Nat) (YV:Int) (Zq Yy:Nat) (U8 WP Vy:Int) (Ze Yl Xd:LI) (e0:Kz1):(Int × Int)->((Int × Int)->Bool)->Bool:=λv_ K=>match v_ with
 | (g,r)=>(cond ((decide (g>=4294967296))==false) (af .i64 (U8 - 2)&&(inR (U8 - 2) Zq&&(decide ((0+(Int.toNat (U8 - 2)))<Ze.length)&&(af .i64 (Vy+U8)&&(af .i64 ((Vy+U8) - 2)&&(inR ((Vy+U8) - 2) Yy&&(decide ((0+(Int.toNat ((Vy+U8) - 2)))<Yl.length)&&cond (decide ((IntKind.wrap .u64 (g*(IntKind.wrap .u64 (Ze.getD (0+(Int.toNat (U8 - 2))) 0))))>(aB .or .u64 (IntKind.wrap .u64 (r*2 ^ 32)) (IntKind.wrap .u64 (Yl.getD (0+(Int.toNat ((Vy+U8) - 2))) 0))))) (cond (decide ((IntKind.wrap .u64 (r+WP))>=4294967296)) (e0 (IntKind.wrap .u64 (g - 1))) (K ((IntKind.wrap .u64 (g - 1)),(IntKind.wrap .u64 (r+WP))))) (e0 g)))))))) (cond (decide ((IntKind.wrap .u64 (r+WP))>=4294967296)) (e0 (IntKind.wrap .u64 (g - 1))) (K ((IntKind.wrap .u64 (g - 1)),(IntKind.wrap .u64 (r+WP))))))
def iX (N:Nat) (XU:Int) (Zc Xh:Nat) (n top:Int) (Zd:LI) (e0:Ky9):(Int × LI × LI)->((Int × LI × LI)->Bool)->Bool:=λv_ K=>match v_ with
 | (j,W8,q)=>(cond (decide (j>=0)) (af .i64 (j+n)&&(inR (j+n) Xh&&(decide ((0+(Int.toNat (j+n)))<W8.length)&&(af .i64 (j+n)&&(af .i64 ((j+n) - 1)&&(inR ((j+n) - 1) Xh&&(decide ((0+(Int.toNat ((j+n) - 1)))<W8.length)&&((!decide (top=0))&&((!decide (top=0))&&aj N (nv N XU Zc Xh n top j Zd W8 q (λVP=>Mf N 0 Xh 0 Zc j VP W8 Zd (λcr U7=>cond cr (Mg N 0 Xh 0 Zc j U7 Zd (λU6=>inR j q.length&&(decide (j.toNat<q.length)&&(af .i64 (j - 1)&&K ((j - 1),U6,(q.set j.toNat (IntKind.wrap .u32 (IntKind.wrap .u64 (VP - 1))))))))) (inR j q.length&&(decide (j.toNat<q.length)&&(af .i64 (j - 1)&&K ((j - 1),U7,(q.set j.toNat (IntKind.wrap .u32 VP))))))))) ((IntKind.wrap .u64 (Int.tdiv (aB .or .u64 (IntKind.wrap .u64 ((IntKind.wrap .u64 (W8.getD (0+(Int.toNat (j+n))) 0))*2 ^ 32)) (IntKind.wrap .u64 (W8.getD (0+(Int.toNat ((j+n) - 1))) 0))) top)),(Int.tmod (aB .or .u64 (IntKind.wrap .u64 ((IntKind.wrap .u64 (W8.getD (0+(Int.toNat (j+n))) 0))*2 ^ 32)) (IntKind.wrap .u64 (W8.getD (0+(Int.toNat ((j+n) - 1))) 0))) top))))))))))) (e0 W8 q))
def od (N:Nat) (a b:LI) (WS:Int) (Ws Xg:Nat) (WX ZO:LI) (k0:Ky9):Bool:=
 (af .i64 (((Xg:Nat):Int) - ((Ws:Nat):Int))&&(iU 4 (((Xg:Nat):Int) - ((Ws:Nat):Int)) (((Xg:Nat):Int) - ((Ws:Nat):Int))&&(af .i64 (((Ws:Nat):Int) - 1)&&(inR (((Ws:Nat):Int) - 1) Ws&&(decide ((0+(Int.toNat (((Ws:Nat):Int) - 1)))<WX.length)&&(af .i64 ((((List.length (List.replicate (Int.toNat (((Xg:Nat):Int) - ((Ws:Nat):Int))) (0:Int))):Nat):Int) - 1)&&aj N (iX N WS Ws Xg ((Ws:Nat):Int) (IntKind.wrap .u64 (WX.getD (0+(Int.toNat (((Ws:Nat):Int) - 1))) 0)) WX (λZj XQ=>nR N XQ (λX4=>decide (0<=((Ws:Nat):Int)/\((Ws:Nat):Int)<=((Xg:Nat):Int))&&qL N 0 ((Int.toNat ((Ws:Nat):Int)) - 0) Zj (λZH=>Mk N 0 ZH WS Zj (λs6=>decide ((0+X4)<=XQ.length)&&k0 (List.take X4 (List.drop 0 XQ)) s6))))) (((((List.length (List.replicate (Int.toNat (((Xg:Nat):Int) - ((Ws:Nat):Int))) (0:Int))):Nat):Int) - 1),ZO,(List.replicate (Int.toNat (((Xg:Nat):Int) - ((Ws:Nat):Int))) (0:Int)))))))))
def tU (N:Nat) (a b:LI) (Xu:Int) (Y0:Nat) (ZZ:LI) (k0:Ky9):Bool:=
 (af .i64 (((Y0:Nat):Int) - 0)&&(iU 4 (((Y0:Nat):Int) - 0) (((Y0:Nat):Int) - 0)&&false))
def Ci (N:Nat) (a b:LI) (k0:Ky9):Bool:=
 (D_ N a b (λnr=>cond (decide (nr<0)) (decide ((List.length ([]++a))*4<=140737488355328)&&k0 [] ([]++a)) (cond (((b.length:Nat):Int)==1) (inR 0 b.length&&ng N a (b.getD 0 0) (λnsr UY=>nR N [UY] (λmr=>decide ((0+mr)<=(List.length [UY]))&&k0 nsr (List.take mr (List.drop 0 [UY]))))) (af .i64 (((b.length:Nat):Int) - 1)&&(inR (((b.length:Nat):Int) - 1) b.length&&RP N (b.getD (Int.toNat (((b.length:Nat):Int) - 1)) 0) (λU4=>DV N b (IntKind.wrap .u64 U4) (DV N a (IntKind.wrap .u64 U4) (aj N (nw N a (IntKind.wrap .u64 U4) (λV9 VV=>tU N a b (IntKind.wrap .u64 U4) V9 VV k0)) (0,[])) (λVj U0=>aj N (nw N a (IntKind.wrap .u64 U4) (λWJ WT=>tU N a b (IntKind.wrap .u64 U4) WJ WT k0)) (Vj,U0))) (λVE UW=>DV N a (IntKind.wrap .u64 U4) (aj N (qX N a (IntKind.wrap .u64 U4) VE UW (λW9 XD=>od N a b (IntKind.wrap .u64 U4) VE W9 UW XD k0)) (0,[])) (λXO U2=>aj N (qX N a (IntKind.wrap .u64 U4) VE UW (λWq Wr=>od N a b (IntKind.wrap .u64 U4) VE Wq UW Wr k0)) (XO,U2)))))))))
def nQ (N:Nat):LI->LI->(Ky9)->Bool:=aC N (Ci N)
def ka (N:Nat) (Vz UX:LI) (Vr:Int) (e0:Ky6):(Int × Int × LI)->((Int × Int × LI)->Bool)->Bool:=λv_ K=>match v_ with
 | (carry,k_,Va)=>(cond (decide (k_<((UX.length:Nat):Int))) (inR Vr Vz.length&&(inR k_ UX.length&&(af .i64 (Vr+k_)&&(inR (Vr+k_) Va.length&&(decide ((Int.toNat (Vr+k_))<Va.length)&&(af .i64 (Vr+k_)&&(inR (Vr+k_) Va.length&&(decide ((Int.toNat (Vr+k_))<Va.length)&&(af .i64 (k_+1)&&K ((Int.fdiv (IntKind.wrap .u64 ((IntKind.wrap .u64 ((IntKind.wrap .u64 ((IntKind.wrap .u64 (Vz.getD Vr.toNat 0))*(IntKind.wrap .u64 (UX.getD k_.toNat 0))))+(IntKind.wrap .u64 (Va.getD (Int.toNat (Vr+k_)) 0))))+carry)) (2 ^ 32)),(k_+1),(Va.set (Int.toNat (Vr+k_)) (IntKind.wrap .u32 (IntKind.wrap .u64 ((IntKind.wrap .u64 ((IntKind.wrap .u64 ((IntKind.wrap .u64 (Vz.getD Vr.toNat 0))*(IntKind.wrap .u64 (UX.getD k_.toNat 0))))+(IntKind.wrap .u64 (Va.getD (Int.toNat (Vr+k_)) 0))))+carry)))))))))))))) (e0 carry Va))
def j_ (N:Nat) (U_ UV:LI) (e0:Kz5):(Int × LI)->((Int × LI)->Bool)->Bool:=λv_ K=>match v_ with
 | (i,out)=>(cond (decide (i<((U_.length:Nat):Int))) (aj N (ka N U_ UV i (λVi VS=>af .i64 (i+((UV.length:Nat):Int))&&(inR (i+((UV.length:Nat):Int)) VS.length&&(decide ((Int.toNat (i+((UV.length:Nat):Int)))<VS.length)&&(af .i64 (i+1)&&K ((i+1),(VS.set (Int.toNat (i+((UV.length:Nat):Int))) (IntKind.wrap .u32 Vi)))))))) (0,0,out)) (e0 out))
def Jm (N:Nat) (a b:LI) (k0:Kz5):Bool:=
 (af .i64 (((a.length:Nat):Int)+((b.length:Nat):Int))&&(iU 4 (((a.length:Nat):Int)+((b.length:Nat):Int)) (((a.length:Nat):Int)+((b.length:Nat):Int))&&aj N (j_ N a b (λWz=>nR N Wz (λmr=>decide ((0+mr)<=Wz.length)&&k0 (List.take mr (List.drop 0 Wz))))) (0,(List.replicate (Int.toNat (((a.length:Nat):Int)+((b.length:Nat):Int))) (0:Int)))))
def pC (N:Nat):LI->LI->(Kz5)->Bool:=aC N (Jm N)
def j7 (N:Nat) (U_ UV:LI) (e0:Kz5):(Int × Int × LI)->((Int × Int × LI)->Bool)->Bool:=λv_ K=>match v_ with
 | (borrow,i,out)=>(cond (decide (i<((U_.length:Nat):Int))) (cond (decide (i<((UV.length:Nat):Int))) (inR i UV.length&&(inR i U_.length&&cond (decide ((IntKind.wrap .u64 (U_.getD i.toNat 0))<(IntKind.wrap .u64 (borrow+(IntKind.wrap .u64 (UV.getD i.toNat 0)))))) (inR i out.length&&(decide (i.toNat<out.length)&&(af .i64 (i+1)&&K (1,(i+1),(out.set i.toNat (IntKind.wrap .u32 (IntKind.wrap .u64 ((IntKind.wrap .u64 ((IntKind.wrap .u64 (U_.getD i.toNat 0))+4294967296)) - (IntKind.wrap .u64 (borrow+(IntKind.wrap .u64 (UV.getD i.toNat 0)))))))))))) (inR i out.length&&(decide (i.toNat<out.length)&&(af .i64 (i+1)&&K (0,(i+1),(out.set i.toNat (IntKind.wrap .u32 (IntKind.wrap .u64 ((IntKind.wrap .u64 (U_.getD i.toNat 0)) - (IntKind.wrap .u64 (borrow+(IntKind.wrap .u64 (UV.getD i.toNat 0)))))))))))))) (inR i U_.length&&cond (decide ((IntKind.wrap .u64 (U_.getD i.toNat 0))<borrow)) (inR i out.length&&(decide (i.toNat<out.length)&&(af .i64 (i+1)&&K (1,(i+1),(out.set i.toNat (IntKind.wrap .u32 (IntKind.wrap .u64 ((IntKind.wrap .u64 ((IntKind.wrap .u64 (U_.getD i.toNat 0))+4294967296)) - borrow)))))))) (inR i out.length&&(decide (i.toNat<out.length)&&(af .i64 (i+1)&&K (0,(i+1),(out.set i.toNat (IntKind.wrap .u32 (IntKind.wrap .u64 ((IntKind.wrap .u64 (U_.getD i.toNat 0)) - borrow)))))))))) (e0 out))
def pQ (N:Nat) (a b:LI) (k0:Kz5):Bool:=
 (iU 4 ((a.length:Nat):Int) ((a.length:Nat):Int)&&aj N (j7 N a b (λVa=>nR N Va (λmr=>decide ((0+mr)<=Va.length)&&k0 (List.take mr (List.drop 0 Va))))) (0,0,(List.replicate (Int.toNat ((a.length:Nat):Int)) (0:Int))))
def ly (N:Nat):LI->LI->(Kz5)->Bool:=aC N (pQ N)
def JW (N:Nat) (a:LI) (u:Int) (b:LI) (v:Int) (k0:Kz5):Bool:=
 (AY N u (λnsr=>pC N a nsr (λUW=>AY N v (λU0=>pC N b U0 (λU2=>ly N UW U2 (λU7=>k0 U7))))))
def He (N:Nat):LI->Int->LI->Int->(Kz5)->Bool:=aC N (JW N)
def rb (N:Nat) (a:LI) (u:Int) (b:LI) (v:Int) (k0:Kz5):Bool:=
 (cond (decide (v<=0)) (af .i64 (0 - v)&&He N a (IntKind.wrap .u64 u) b (IntKind.wrap .u64 (0 - v)) (λnsr=>k0 nsr)) (af .i64 (0 - u)&&He N b (IntKind.wrap .u64 v) a (IntKind.wrap .u64 (0 - u)) (λUW=>k0 UW)))
def ma (N:Nat):LI->Int->LI->Int->(Kz5)->Bool:=aC N (rb N)
def zo (N:Nat) (e0:Ky9):(LI × LI)->((LI × LI)->Bool)->Bool:=λv_ K=>match v_ with
 | (Vz,UX)=>(cond (decide (((UX.length:Nat):Int)>2)) (I2 N false Vz (λUY=>af .i64 (UY - 62)&&o_ N Vz (UY - 62) (λU4=>o_ N UX (UY - 62) (λVg=>qM N U4 Vg (λVo n5 n6 n7=>cond (n5==0) (nQ N Vz UX (λnsr UW=>K (UX,UW))) (ma N Vz Vo UX n5 (λU0=>ma N Vz n6 UX n7 (λU2=>K (U0,U2))))))))) (e0 Vz UX))
def vG (N:Nat) (e0:Kz5):(LI × LI)->((LI × LI)->Bool)->Bool:=λv_ K=>match v_ with
 | (Wy,Vh)=>(cond (decide (((Vh.length:Nat):Int)>0)) (nQ N Wy Vh (λU7 U6=>K (Vh,U6))) (e0 Wy))
def Gf (N:Nat) (a b U_ UV:LI) (k0:Kz5):Bool:=
 (aj N (zo N (λVX U9=>aj N (vG N (λWU=>decide ((List.length ([]++WU))*4<=140737488355328)&&k0 ([]++WU))) (VX,U9))) (U_,UV))
def JR (N:Nat) (a b:LI) (k0:Kz5):Bool:=
 (D_ N a b (λnr=>cond (decide (nr<0)) (Gf N a b b a k0) (Gf N a b a b k0)))
def D3 (N:Nat):LI->LI->(Kz5)->Bool:=aC N (JR N)
def Hx (N:Nat) (neg:Bool) (a b:LI) (UV UX:Bool) (U_ U9:LI) (k0:Kx5):Bool:=
 (D0 N neg U_ UV UX (λVc s12 s13=>D8 N false U9 Vc s12 UX s13 (λVn s14=>k0 Vc s12 Vn s14)))
def J3 (N:Nat) (neg:Bool) (a b:LI) (UV UX:Bool) (n:Int) (k0:Kx5):Bool:=
 (zW N a n (λU7=>zW N b n (λU6=>sQ1 N false U6 (λU4=>af .i64 U4&&I2 N false U6 (λVg=>af .i64 (Vg - 1)&&cond (U4 != (Vg - 1)) (D3 N U7 U6 (λs6=>pE N (λs7=>D_ N s6 s7 (λVo=>cond (Vo != 0) (nQ N U7 s6 (λs8 s9=>nQ N U6 s6 (λs10 s11=>Hx N neg a b UV UX s8 s10 k0))) (Hx N neg a b UV UX U7 U6 k0))))) (Hx N neg a b UV UX U7 U6 k0))))))
def PA (N:Nat) (neg:Bool) (a b:LI) (UV UX:Bool) (k0:Kx5):Bool:=
 (cond (((a.length:Nat):Int)==0) (D0 N false [] UV UX (λcr nsr UW=>pE N (λU0=>D8 N false U0 cr nsr UX UW (λUZ U2=>k0 cr nsr UZ U2)))) (sQ1 N false a (λnr=>sQ1 N false b (λUY=>cond (decide (UY<nr)) (J3 N neg a b UV UX UY k0) (J3 N neg a b UV UX nr k0)))))
def IY (N:Nat):Bool->LI->LI->Bool->Bool->(Kx5)->Bool:=aC N (PA N)
def Sn (N:Nat) (b UV UX:Bool) (U9:LI) (k0:Kx5):Bool:=
 (pE N (λnsr=>IY N UX U9 nsr b UV (λcr UW UZ U0=>k0 cr UW UZ U0)))
def Ob (N:Nat):Bool->Bool->Bool->LI->(Kx5)->Bool:=Sn N
def iC (N:Nat) (n:Int) (b:Bool) (u:Int) (k0:Ky2):Bool:=
 (AY N u (λnsr=>wJ N (decide (n<0)) nsr b (λcr UW=>k0 cr UW)))
def JE (N:Nat) (n:Int) (b:Bool) (k0:Ky2):Bool:=
 (cond (decide (n<0)) (iC N n b (IntKind.wrap .u64 (0 - (IntKind.wrap .u64 n))) k0) (iC N n b (IntKind.wrap .u64 n) k0))
def Pa (N:Nat):Int->Bool->(Ky2)->Bool:=aC N (JE N)
def tS (N:Nat) (n:Int) (k0:Ky2):Bool:=
 (Pa N n false (λcr nsr=>k0 cr nsr))
def lV (N:Nat):Int->(Ky2)->Bool:=tS N
def Ss (N:Nat) (b UV UX:Bool) (U9:LI) (Vh:Bool) (VO:LI) (k0:Kx5):Bool:=
 (IY N (UX != Vh) U9 VO b UV (λcr nsr UZ UW=>k0 cr nsr UZ UW))
def Td (N:Nat):Bool->Bool->Bool->LI->Bool->LI->(Kx5)->Bool:=Ss N
def P2 (N:Nat) (x:Int) (b:Bool) (UV:LI) (k0:Kx5):Bool:=
 (cond (decide (x>=0)) (RS N x 0 b UV (Ob N false false b UV (λcr nsr UZ UW=>k0 cr nsr UZ UW)) (λVc U0=>Ob N false false Vc U0 (λVn U2 Wg U7=>k0 Vn U2 Wg U7))) (lV N 1 (λWb U6=>af .i64 (0 - x)&&G9 N (IntKind.wrap .u64 (0 - x)) false Wb U6 (λWG s6=>Td N false false b UV WG s6 (λWu s7 c8 s8=>k0 Wu s7 c8 s8)))))
def Th (N:Nat):Int->Bool->LI->(Kx5)->Bool:=aC N (P2 N)
def vP (N:Nat) (x:Fl) (k0:Kx5):Bool:=
 (zi N x (λnr cr nsr=>Th N nr cr nsr (λUZ UW Vc U0=>k0 UZ UW Vc U0)))
def qQ (N:Nat):Fl->(Kx5)->Bool:=vP N
def kc (N:Nat) (WB:LF) (Wk Wo Wp WY WL:Int) (e0:List RY1->Bool):(Int × List RY1)->((Int × List RY1)->Bool)->Bool:=λv_ K=>match v_ with
 | (Xe,b2)=>(cond (decide (Xe<Wk)) (inR Xe WB.length&&qQ N (WB.getD Xe.toNat none) (λVc U0 Vn U2=>decide ((List.length b2+1)*8<=140737488355328)&&(af .i64 (Xe+1)&&K ((Xe+1),(b2++[((Vc,U0),(Vn,U2))]))))) (e0 b2))
def pV (N:Nat) (Vk U5:Int) (Vd:LF) (k0:List RY1->Bool):Bool:=
 (aj N (kc N Vd ((Vd.length:Nat):Int) 0 0 Vk U5 (λ(Wm:List RY1)=>k0 Wm)) (0,[]))
def qP (N:Nat):Int->Int->LF->(List RY1->Bool)->Bool:=aC N (pV N)
def vQ (N:Nat) (Vk U5:Int) (Vd:LF) (k0:List RY1->Bool):Bool:=
 (qP N Vk U5 Vd (λ(lr:List RY1)=>k0 lr))
def wN (N:Nat):Int->Int->LF->(List RY1->Bool)->Bool:=vQ N
def i7 (N:Nat) (W4 W3 Xx Xy Vd VH:Int) (e0:List RY1->Bool):(Int × List RY1)->((Int × List RY1)->Bool)->Bool:=λv_ K=>match v_ with
 | (Vr,b2)=>(af .i64 (W4*W3)&&cond (decide (Vr<(W4*W3))) (decide ((List.length b2+1)*8<=140737488355328)&&(af .i64 (Vr+1)&&K ((Vr+1),(b2++[((false,[]),(false,[]))])))) (e0 b2))
def oc (N:Nat) (rows cols:Int) (k0:List RY1->Bool):Bool:=
 (aj N (i7 N rows cols 0 0 rows cols (λ(Wm:List RY1)=>k0 Wm)) (0,[]))
def pb (N:Nat):Int->Int->(List RY1->Bool)->Bool:=aC N (oc N)
def JD (N:Nat) (Yw:Bool) (Xl:LI) (WY:Bool) (WL:LI) (k0:Kz5):Bool:=
 (cond (((WL.length:Nat):Int)==0) (pE N (λnsr=>k0 nsr)) (k0 WL))
def Mb (N:Nat):Bool->LI->Bool->LI->(Kz5)->Bool:=aC N (JD N)
def pn (N:Nat) (neg b:Bool) (UV:LI) (UX:Bool) (U9 Vh:LI) (k0:Kx8):Bool:=
 (nR N Vh (λmr=>cond (neg==true) (k0 (decide (((mr:Nat):Int)>0)) 0 mr) (k0 false 0 mr)))
def pF (N:Nat):Bool->Bool->LI->Bool->LI->LI->(Kx8)->Bool:=pn N
def OM (N:Nat) (neg b:Bool) (UV UX:Nat) (U9:Bool) (Vh VO Wf:LI) (k0:Kx8):Bool:=
 (nR N VO (λmr=>cond (neg==true) (k0 (decide (((mr:Nat):Int)>0)) 0 mr) (k0 false 0 mr)))
def Pc (N:Nat):Bool->Bool->Nat->Nat->Bool->LI->LI->LI->(Kx8)->Bool:=OM N
def P7 (N:Nat) (Vu:Bool) (Ve:LI) (Vs:Bool) (Vx:LI) (b:Bool) (UV:LI) (UX:Bool) (U9:LI) (k0:Kx5):Bool:=
 (decide ((List.length ([]++Ve))*4<=140737488355328)&&Mb N Vu Ve Vs Vx (λnsr=>decide ((List.length ([]++nsr))*4<=140737488355328)&&pF N Vu b UV UX U9 ([]++Ve) (λcr mr VE=>Pc N false cr mr VE UX U9 ([]++nsr) ([]++Ve) (λUZ Vj XO=>decide ((mr+VE)<=(List.length ([]++Ve)))&&(decide ((Vj+XO)<=(List.length ([]++nsr)))&&k0 cr (List.take VE (List.drop mr ([]++Ve))) UZ (List.take XO (List.drop Vj ([]++nsr))))))))
def R4 (N:Nat):Bool->LI->Bool->LI->Bool->LI->Bool->LI->(Kx5)->Bool:=aC N (P7 N)
def Ca (N:Nat) (t12 m VH:Int) (V5:List RY2) (t2 VK t Xc:Int) (e0:List RY1->Bool):(Int × List RY1)->((Int × List RY1)->Bool)->Bool:=λv_ K=>match v_ with
 | (t13,b3)=>(cond (decide (t13<t12)) (inR t13 b3.length&&(decide (t13.toNat<b3.length)&&(inR t13 V5.length&&R4 N (V5.getD t13.toNat ((false,[]),(false,[]))).1.1 (V5.getD t13.toNat ((false,[]),(false,[]))).1.2 (V5.getD t13.toNat ((false,[]),(false,[]))).2.1 (V5.getD t13.toNat ((false,[]),(false,[]))).2.2 (b3.getD t13.toNat ((false,[]),(false,[]))).1.1 (b3.getD t13.toNat ((false,[]),(false,[]))).1.2 (b3.getD t13.toNat ((false,[]),(false,[]))).2.1 (b3.getD t13.toNat ((false,[]),(false,[]))).2.2 (λcr nsr UZ UW=>af .i64 (t13+1)&&K ((t13+1),(b3.set t13.toNat ((cr,nsr),(UZ,UW)))))))) (e0 b3))
def P6 (N:Nat) (Vk U5:Int) (Vd:List RY2) (k0:List RY1->Bool):Bool:=
 (pb N Vk U5 (λ(lr:List RY1)=>aj N (Ca N ((Vd.length:Nat):Int) Vk U5 Vd 0 0 Vk U5 (λ(b2:List RY1)=>k0 b2)) (0,lr)))
def R3 (N:Nat):Int->Int->List RY2->(List RY1->Bool)->Bool:=aC N (P6 N)
def Sq (N:Nat) (Vk U5 i j:Int) (b:List RY1) (k0:Kz2):Bool:=
 (af .i64 (i*U5)&&(af .i64 ((i*U5)+j)&&(inR ((i*U5)+j) b.length&&(decide ((Int.toNat ((i*U5)+j))<b.length)&&k0 (Int.toNat ((i*U5)+j))))))
def D6 (N:Nat):Int->Int->Int->Int->List RY1->(Kz2)->Bool:=Sq N
def uR (N:Nat) (ZU:Bool) (VI:LI) (XN:Bool) (XE:LI) (k0:Kz1):Bool:=
 (cond (((VI.length:Nat):Int)==0) (k0 0) (cond ZU (k0 (-1)) (k0 1)))
def AZ (N:Nat):Bool->LI->Bool->LI->(Kz1)->Bool:=aC N (uR N)
def OJ (N:Nat) (Yw:Bool) (Xl:LI) (WY:Bool) (WL:LI) (k0:Kz1):Bool:=
 (AZ N Yw Xl WY WL (λnr=>k0 nr))
def DZ (N:Nat):Bool->LI->Bool->LI->(Kz1)->Bool:=OJ N
def GQ5 (N:Nat) (b:Bool) (UV:LI) (UX:Bool) (U9:LI) (k0:Kz5):Bool:=
 (cond (((U9.length:Nat):Int)==0) (pE N (λnsr=>k0 nsr)) (k0 U9))
def sQ5 (N:Nat):Bool->LI->Bool->LI->(Kz5)->Bool:=aC N (GQ5 N)
def Py (N:Nat) (b UV UX:Bool) (U9:LI) (Vh:Bool) (VO:LI) (Wf:Bool) (WR:LI) (Yv:Bool) (XS:LI) (k0:Kx5):Bool:=
 (sQ5 N Wf WR Yv XS (λnsr=>pC N U9 nsr (λUW=>sQ5 N UX U9 Vh VO (λU0=>pC N U0 WR (λU2=>IY N (UX != Wf) UW U2 b UV (λcr U7 UZ U6=>k0 cr U7 UZ U6))))))
def RK (N:Nat):Bool->Bool->Bool->LI->Bool->LI->Bool->LI->Bool->LI->(Kx5)->Bool:=aC N (Py N)
def Px (N:Nat) (b UV UX:Bool) (U9:LI) (Vh:Bool) (VO:LI) (Wf:Bool) (WR:LI) (Yv:Bool) (XS:LI) (k0:Kx5):Bool:=
 (pC N U9 WR (λnsr=>sQ5 N UX U9 Vh VO (λUW=>sQ5 N Wf WR Yv XS (λU0=>pC N UW U0 (λU2=>IY N (UX != Wf) nsr U2 b UV (λcr U7 UZ U6=>k0 cr U7 UZ U6))))))
def RJ (N:Nat):Bool->Bool->Bool->LI->Bool->LI->Bool->LI->Bool->LI->(Kx5)->Bool:=aC N (Px N)
def P1 (N:Nat) (b:Bool) (UV:LI) (UX:Bool) (U9:LI) (Vh:Bool) (VO:LI) (Wf:Bool) (WR:LI) (k0:Ky9):Bool:=
 (sQ5 N Vh VO Wf WR (λnsr=>pC N UV nsr (λUW=>sQ5 N b UV UX U9 (λU0=>pC N VO U0 (λU2=>k0 UW U2)))))
def Tg (N:Nat):Bool->LI->Bool->LI->Bool->LI->Bool->LI->(Ky9)->Bool:=aC N (P1 N)
def gb (N:Nat) (U_ UV:LI) (e0:Ky6):(Int × Int × LI)->((Int × Int × LI)->Bool)->Bool:=λv_ K=>match v_ with
 | (carry,i,out)=>(cond (decide (i<((U_.length:Nat):Int))) (inR i U_.length&&cond (decide (i<((UV.length:Nat):Int))) (inR i UV.length&&(inR i out.length&&(decide (i.toNat<out.length)&&(af .i64 (i+1)&&K ((Int.fdiv (IntKind.wrap .u64 ((IntKind.wrap .u64 ((IntKind.wrap .u64 (U_.getD i.toNat 0))+carry))+(IntKind.wrap .u64 (UV.getD i.toNat 0)))) (2 ^ 32)),(i+1),(out.set i.toNat (IntKind.wrap .u32 (IntKind.wrap .u64 ((IntKind.wrap .u64 ((IntKind.wrap .u64 (U_.getD i.toNat 0))+carry))+(IntKind.wrap .u64 (UV.getD i.toNat 0))))))))))) (inR i out.length&&(decide (i.toNat<out.length)&&(af .i64 (i+1)&&K ((Int.fdiv (IntKind.wrap .u64 ((IntKind.wrap .u64 (U_.getD i.toNat 0))+carry)) (2 ^ 32)),(i+1),(out.set i.toNat (IntKind.wrap .u32 (IntKind.wrap .u64 ((IntKind.wrap .u64 (U_.getD i.toNat 0))+carry))))))))) (e0 carry out))
def sC (N:Nat) (a b:LI) (k0:Kz5):Bool:=
 (cond (decide (((a.length:Nat):Int)<((b.length:Nat):Int))) (af .i64 (((b.length:Nat):Int)+1)&&(iU 4 (((b.length:Nat):Int)+1) (((b.length:Nat):Int)+1)&&aj N (gb N b a (λVi Va=>inR ((b.length:Nat):Int) Va.length&&(decide ((Int.toNat ((b.length:Nat):Int))<Va.length)&&nR N (Va.set (Int.toNat ((b.length:Nat):Int)) (IntKind.wrap .u32 Vi)) (λmr=>decide ((0+mr)<=(List.length (Va.set (Int.toNat ((b.length:Nat):Int)) (IntKind.wrap .u32 Vi))))&&k0 (List.take mr (List.drop 0 (Va.set (Int.toNat ((b.length:Nat):Int)) (IntKind.wrap .u32 Vi)))))))) (0,0,(List.replicate (Int.toNat (((b.length:Nat):Int)+1)) (0:Int))))) (af .i64 (((a.length:Nat):Int)+1)&&(iU 4 (((a.length:Nat):Int)+1) (((a.length:Nat):Int)+1)&&aj N (gb N a b (λVL VS=>inR ((a.length:Nat):Int) VS.length&&(decide ((Int.toNat ((a.length:Nat):Int))<VS.length)&&nR N (VS.set (Int.toNat ((a.length:Nat):Int)) (IntKind.wrap .u32 VL)) (λVE=>decide ((0+VE)<=(List.length (VS.set (Int.toNat ((a.length:Nat):Int)) (IntKind.wrap .u32 VL))))&&k0 (List.take VE (List.drop 0 (VS.set (Int.toNat ((a.length:Nat):Int)) (IntKind.wrap .u32 VL)))))))) (0,0,(List.replicate (Int.toNat (((a.length:Nat):Int)+1)) (0:Int))))))
def tE (N:Nat):LI->LI->(Kz5)->Bool:=aC N (sC N)
def P_ (N:Nat) (turn b UV:Bool) (UX:LI) (U9:Bool) (Vh:LI) (k0:Ky2):Bool:=
 (cond (UV==(U9 != turn)) (tE N UX Vh (λnsr=>wJ N (U9 != turn) nsr b (λcr UW=>k0 cr UW))) (D_ N UX Vh (λnr=>cond (decide (nr>=0)) (ly N UX Vh (λU0=>wJ N UV U0 b (λUZ U2=>k0 UZ U2))) (ly N Vh UX (λU7=>wJ N (U9 != turn) U7 b (λVc U6=>k0 Vc U6))))))
def R6 (N:Nat):Bool->Bool->Bool->LI->Bool->LI->(Ky2)->Bool:=aC N (P_ N)
def OG (N:Nat) (b UV:Bool) (UX:LI) (U9:Bool) (Vh:LI) (k0:Ky2):Bool:=
 (R6 N true b UV UX U9 Vh (λcr nsr=>k0 cr nsr))
def LZ (N:Nat):Bool->Bool->LI->Bool->LI->(Ky2)->Bool:=OG N
def Jq (N:Nat) (neg:Bool) (m:LI) (b:Bool) (UV:LI) (UX:Bool) (U9:LI) (k0:Ky2):Bool:=
 (kz N m (λnsr=>cond (neg==true) (k0 (decide (((nsr.length:Nat):Int)>0)) nsr) (k0 false nsr)))
def DW (N:Nat):Bool->LI->Bool->LI->Bool->LI->(Ky2)->Bool:=Jq N
def Hy (N:Nat) (neg:Bool) (a b:LI) (UV:Bool) (UX:LI) (U9:Bool) (Vh U_ VO:LI) (k0:Kx5):Bool:=
 (DW N neg U_ UV UX U9 Vh (λVc s11=>D8 N false VO Vc s11 U9 Vh (λVn s12=>k0 Vc s11 Vn s12)))
def J4 (N:Nat) (neg:Bool) (a b:LI) (UV:Bool) (UX:LI) (U9:Bool) (Vh:LI) (n:Int) (k0:Kx5):Bool:=
 (zW N a n (λU2=>zW N b n (λU7=>sQ1 N false U7 (λU4=>af .i64 U4&&I2 N false U7 (λVg=>af .i64 (Vg - 1)&&cond (U4 != (Vg - 1)) (D3 N U2 U7 (λU6=>pE N (λs6=>D_ N U6 s6 (λVo=>cond (Vo != 0) (nQ N U2 U6 (λs7 s8=>nQ N U7 U6 (λs9 s10=>Hy N neg a b UV UX U9 Vh s7 s9 k0))) (Hy N neg a b UV UX U9 Vh U2 U7 k0))))) (Hy N neg a b UV UX U9 Vh U2 U7 k0))))))
def PV (N:Nat) (neg:Bool) (a b:LI) (UV:Bool) (UX:LI) (U9:Bool) (Vh:LI) (k0:Kx5):Bool:=
 (cond (((a.length:Nat):Int)==0) (DW N false [] UV UX U9 Vh (λcr nsr=>pE N (λUW=>D8 N false UW cr nsr U9 Vh (λUZ U0=>k0 cr nsr UZ U0)))) (sQ1 N false a (λnr=>sQ1 N false b (λUY=>cond (decide (UY<nr)) (J4 N neg a b UV UX U9 Vh UY k0) (J4 N neg a b UV UX U9 Vh nr k0)))))
def RU (N:Nat):Bool->LI->LI->Bool->LI->Bool->LI->(Kx5)->Bool:=aC N (PV N)
def PD (N:Nat) (b:Bool) (UV:LI) (UX:Bool) (U9:LI) (Vh:Bool) (VO:LI) (Wf:Bool) (WR:LI) (k0:Kx5):Bool:=
 (Tg N b UV UX U9 Vh VO Wf WR (λnsr UW=>sQ5 N b UV UX U9 (λU0=>sQ5 N Vh VO Wf WR (λU2=>pC N U0 U2 (λU7=>LZ N false b nsr Vh UW (λcr U6=>RU N cr U6 U7 b UV UX U9 (λUZ s6 Vc s7=>k0 UZ s6 Vc s7)))))))
def RL (N:Nat):Bool->LI->Bool->LI->Bool->LI->Bool->LI->(Kx5)->Bool:=aC N (PD N)
def B6 (N:Nat) (Vr Xp:Int) (r:Bool) (Xl:LI) (WY:Bool) (WL:LI) (m Vd:Int) (e0:List RY1->Bool):(Int × List RY1)->((Int × List RY1)->Bool)->Bool:=λv_ K=>match v_ with
 | (j,b0)=>(cond (decide (j<Vd)) (D6 N m Vd Vr j b0 (λmr=>D6 N m Vd Vr j b0 (λVE=>D6 N m Vd Xp j b0 (λVj=>RJ N false false r Xl WY WL (b0.getD Vj ((false,[]),(false,[]))).1.1 (b0.getD Vj ((false,[]),(false,[]))).1.2 (b0.getD Vj ((false,[]),(false,[]))).2.1 (b0.getD Vj ((false,[]),(false,[]))).2.2 (λcr nsr UZ UW=>decide (VE=mr)&&RL N (List.getD (b0.set Vj (((b0.getD Vj ((false,[]),(false,[]))).1.1,(b0.getD Vj ((false,[]),(false,[]))).1.2),((b0.getD Vj ((false,[]),(false,[]))).2.1,(b0.getD Vj ((false,[]),(false,[]))).2.2))) mr ((false,[]),(false,[]))).1.1 (List.getD (b0.set Vj (((b0.getD Vj ((false,[]),(false,[]))).1.1,(b0.getD Vj ((false,[]),(false,[]))).1.2),((b0.getD Vj ((false,[]),(false,[]))).2.1,(b0.getD Vj ((false,[]),(false,[]))).2.2))) mr ((false,[]),(false,[]))).1.2 (List.getD (b0.set Vj (((b0.getD Vj ((false,[]),(false,[]))).1.1,(b0.getD Vj ((false,[]),(false,[]))).1.2),((b0.getD Vj ((false,[]),(false,[]))).2.1,(b0.getD Vj ((false,[]),(false,[]))).2.2))) mr ((false,[]),(false,[]))).2.1 (List.getD (b0.set Vj (((b0.getD Vj ((false,[]),(false,[]))).1.1,(b0.getD Vj ((false,[]),(false,[]))).1.2),((b0.getD Vj ((false,[]),(false,[]))).2.1,(b0.getD Vj ((false,[]),(false,[]))).2.2))) mr ((false,[]),(false,[]))).2.2 cr nsr UZ UW (λVc U0 Vn U2=>af .i64 (j+1)&&K ((j+1),(List.set (b0.set Vj (((b0.getD Vj ((false,[]),(false,[]))).1.1,(b0.getD Vj ((false,[]),(false,[]))).1.2),((b0.getD Vj ((false,[]),(false,[]))).2.1,(b0.getD Vj ((false,[]),(false,[]))).2.2))) mr ((Vc,U0),(Vn,U2)))))))))) (e0 b0))
def PJ (N:Nat) (Vk U5 i k_:Int) (b:List RY1) (UV:Bool) (UX:LI) (U9:Bool) (Vh:LI) (k0:List RY1->Bool):Bool:=
 (aj N (B6 N i k_ UV UX U9 Vh Vk U5 (λ(Vf:List RY1)=>k0 Vf)) (0,b))
def RN (N:Nat):Int->Int->Int->Int->List RY1->Bool->LI->Bool->LI->(List RY1->Bool)->Bool:=aC N (PJ N)
def zy (N:Nat) (Y7 Vz VX:Int) (Vw:List RY1) (e0:Kz1) (e1:Bool):(Int)->((Int)->Bool)->Bool:=λv_ K=>match v_ with
 | j=>(cond (decide (j<VX)) (D6 N Vz VX Y7 j Vw (λVE=>DZ N (Vw.getD VE ((false,[]),(false,[]))).1.1 (Vw.getD VE ((false,[]),(false,[]))).1.2 (Vw.getD VE ((false,[]),(false,[]))).2.1 (Vw.getD VE ((false,[]),(false,[]))).2.2 (λU4=>cond (U4 != 0) (e0 1) (af .i64 (j+1)&&K (j+1))))) e1)
def zu (N:Nat) (Xv Zb:Int) (d:Nat) (Wy WU:Int) (e0:List RY1->Bool):(Int × List RY1)->((Int × List RY1)->Bool)->Bool:=λv_ K=>match v_ with
 | (i,Vv)=>(cond (decide (i<Wy)) (D6 N Wy WU i Zb Vv (λVj=>((!decide (d=Vj))&&true)&&RK N false false (Vv.getD Vj ((false,[]),(false,[]))).1.1 (Vv.getD Vj ((false,[]),(false,[]))).1.2 (Vv.getD Vj ((false,[]),(false,[]))).2.1 (Vv.getD Vj ((false,[]),(false,[]))).2.2 (Vv.getD d ((false,[]),(false,[]))).1.1 (Vv.getD d ((false,[]),(false,[]))).1.2 (Vv.getD d ((false,[]),(false,[]))).2.1 (Vv.getD d ((false,[]),(false,[]))).2.2 (λcr nsr UZ UW=>RN N Wy WU i Zb (List.set (Vv.set d (((Vv.getD d ((false,[]),(false,[]))).1.1,(Vv.getD d ((false,[]),(false,[]))).1.2),((Vv.getD d ((false,[]),(false,[]))).2.1,(Vv.getD d ((false,[]),(false,[]))).2.2))) Vj (((Vv.getD Vj ((false,[]),(false,[]))).1.1,(Vv.getD Vj ((false,[]),(false,[]))).1.2),((Vv.getD Vj ((false,[]),(false,[]))).2.1,(Vv.getD Vj ((false,[]),(false,[]))).2.2))) cr nsr UZ UW (λ(Zf:List RY1)=>af .i64 (i+1)&&K ((i+1),Zf))))) (e0 Vv))
def zx (N:Nat) (a U_:Int) (e0:Kz1) (e1:Kz1):(Int × Int × List RY1)->((Int × Int × List RY1)->Bool)->Bool:=λv_ K=>match v_ with
 | (sign,c,b1)=>(cond (decide (c<a)) (D6 N a U_ c c b1 (λmr=>DZ N (b1.getD mr ((false,[]),(false,[]))).1.1 (b1.getD mr ((false,[]),(false,[]))).1.2 (b1.getD mr ((false,[]),(false,[]))).2.1 (b1.getD mr ((false,[]),(false,[]))).2.2 (λnr=>cond (decide (nr<0)) (e0 1) (DZ N (b1.getD mr ((false,[]),(false,[]))).1.1 (b1.getD mr ((false,[]),(false,[]))).1.2 (b1.getD mr ((false,[]),(false,[]))).2.1 (b1.getD mr ((false,[]),(false,[]))).2.2 (λUY=>cond (UY==0) (af .i64 (c+1)&&aj N (zy N c a U_ b1 (λt2=>e0 t2) (af .i64 (c+1)&&K (2,(c+1),b1))) (c+1)) (af .i64 (c+1)&&aj N (zu N sign c mr a U_ (λ(VA:List RY1)=>af .i64 (c+1)&&K (sign,(c+1),VA))) ((c+1),b1))))))) (e1 sign))
def JK (N:Nat) (Vk U5:Int) (Vd:List RY2) (k0:Kz1):Bool:=
 (R3 N Vk U5 Vd (λ(lr:List RY1)=>aj N (zx N Vk U5 (λVK=>k0 VK) (λYW=>k0 YW)) (3,0,lr)))
def Pb (N:Nat):Int->Int->List RY2->(Kz1)->Bool:=aC N (JK N)
def OL (N:Nat) (Vk U5:Int) (Vd:LF) (k0:Kz0):Bool:=
 (wN N Vk U5 Vd (λ(lr:List RY1)=>Pb N Vk U5 lr (λnr=>k0 (nr==3))))
def Hb (N:Nat):Int->Int->LF->(Kz0)->Bool:=OL N
def pX (N:Nat) (YF:LF) (Wn Xu:Int) (WS:LF) (k0:Kz1):Bool:=
 (wO N YF Wn Xu WS (λnr=>cond (nr != 0) (k0 nr) (Hb N Wn Xu WS (λcr=>cond (!cr) (k0 151) (k0 0)))))
def qS (N:Nat):LF->Int->Int->LF->(Kz1)->Bool:=aC N (pX N)
def vR (N:Nat) (Vq U_:Int) (Vz VX:LF) (k0:Kz1):Bool:=
 (qS N VX Vq U_ Vz (λnr=>cond (nr==151) (k0 170) (k0 nr)))
def lz (N:Nat):Int->Int->LF->LF->(Kz1)->Bool:=vR N
def uQ (N:Nat) (n:Int) (h:LF) (r:Fl) (k0:Kz1):Bool:=
 (cond (((h.length:Nat):Int) != n) (k0 3) (I1 N h (λcr=>cond ((!cr)==false) (wI N r (λUZ=>cond (!UZ) (k0 4) (cond (!(fgt r (some 0))) (k0 152) (k0 0)))) (k0 4))))
def rQ (N:Nat):Int->LF->Fl->(Kz1)->Bool:=aC N (uQ N)
def xG (N:Nat) (rows cols:Int) (k0:Kz4):Bool:=
 (af .i64 (rows*cols)&&(iU 8 (rows*cols) (rows*cols)&&k0 (List.replicate (Int.toNat (rows*cols)) (some 0))))
def kA (N:Nat):Int->Int->(Kz4)->Bool:=xG N
def PG (N:Nat) (x:Fl) (b:Bool) (k0:Kz0):Bool:=
 (cond (b==false) (wI N x (λcr=>k0 (!cr))) (k0 true))
def iV (N:Nat):Fl->Bool->(Kz0)->Bool:=aC N (PG N)
def Js (N:Nat) (Vk U5 i j:Int) (x:Fl) (b:LF) (k0:Kz4):Bool:=
 (af .i64 (i*U5)&&(af .i64 ((i*U5)+j)&&(inR ((i*U5)+j) b.length&&(decide ((Int.toNat ((i*U5)+j))<b.length)&&k0 (b.set (Int.toNat ((i*U5)+j)) x)))))
def qI (N:Nat):Int->Int->Int->Int->Fl->LF->(Kz4)->Bool:=Js N
def vI (N:Nat) (Vr Wd Wc:Int) (Wh:LF) (Wo Wp Ys Yt:Int) (e0:Kz4):(Int × LF)->((Int × LF)->Bool)->Bool:=λv_ K=>match v_ with
 | (j,XZ)=>(cond (decide (j<=Vr)) (fh N Wd Wc Wh Vr j (λxr=>qI N Ys Yt Vr j xr XZ (λVp=>fh N Wd Wc Wh Vr j (λVm=>qI N Ys Yt j Vr Vm Vp (λWE=>af .i64 (j+1)&&K ((j+1),WE)))))) (e0 XZ))
def vH (N:Nat) (m VH:Int) (V5:LF) (t2 VK t Xc:Int) (e0:Kz4):(Int × LF)->((Int × LF)->Bool)->Bool:=λv_ K=>match v_ with
 | (i,b3)=>(cond (decide (i<m)) (aj N (vI N i m VH V5 t2 VK t Xc (λWF=>af .i64 (i+1)&&K ((i+1),WF))) (0,b3)) (e0 b3))
def Gd (N:Nat) (Vk U5:Int) (Vd:LF) (k0:Kz4):Bool:=
 (kA N Vk U5 (λxsr=>aj N (vH N Vk U5 Vd 0 0 Vk U5 (λb2=>k0 b2)) (0,xsr)))
def D2 (N:Nat):Int->Int->LF->(Kz4)->Bool:=aC N (Gd N)
def MQ (N:Nat) (Zg Xs:Int) (b UV:LF) (UX:Bool) (k0:Kx9) (k1:Int->LF->Bool):Bool:=
 (cond UX (k0 0 0 5) (D2 N Zg Xs UV (λxsr=>Hb N Zg Xs xsr (λcr=>cond (!cr) (k0 0 0 151) (k1 0 xsr)))))
def Ot (N:Nat):Int->Int->LF->LF->Bool->(Kx9)->(Int->LF->Bool)->Bool:=aC N (MQ N)
def Jr (N:Nat) (V8 Vl:Int) (b UV:LF) (UX:Bool) (k0:Kx9) (k1:Int->LF->Bool):Bool:=
 (Ot N V8 Vl b UV UX (λnr UY U4=>cond (U4==151) (k0 nr UY 170) (k0 nr UY U4)) (λVg xsr=>cond (Vg==151) (k1 170 xsr) (k1 Vg xsr)))
def G8 (N:Nat):Int->Int->LF->LF->Bool->(Kx9)->(Int->LF->Bool)->Bool:=aC N (Jr N)
def pL (N:Nat) (WY XN:Fl) (U8 Vr:Int) (Vf Vw Xn:LF) (VX Wy WH WI VG VZ:Int) (e0:Ky5):(Int × Bool × LF)->((Int × Bool × LF)->Bool)->Bool:=λv_ K=>match v_ with
 | (j,Wn,V_)=>(cond (decide (j<=Vr)) (fh N VX Wy Vf Vr j (λxr=>inR Vr Xn.length&&(decide (Vr.toNat<Xn.length)&&(inR j Xn.length&&(decide (j.toNat<Xn.length)&&iV N (bD (Xn.getD Vr.toNat none) (Xn.getD j.toNat none)) Wn (λUZ=>iV N (fdiv (bD (Xn.getD Vr.toNat none) (Xn.getD j.toNat none)) WY) UZ (λVc=>iV N (cD xr (fdiv (bD (Xn.getD Vr.toNat none) (Xn.getD j.toNat none)) WY)) Vc (λVn=>qI N VG VZ Vr j (cD xr (fdiv (bD (Xn.getD Vr.toNat none) (Xn.getD j.toNat none)) WY)) V_ (λVp=>af .i64 (j+1)&&K ((j+1),Vn,Vp)))))))))) (e0 Wn V_))
def B8 (N:Nat) (Y8 ZV:Fl) (YD XT:Int) (WK Xm Xo:LF) (YB YC W6 W7 Zu Zv:Int) (Vt:LF) (e0:Ky5):(Int × Bool × LF)->((Int × Bool × LF)->Bool)->Bool:=λv_ K=>match v_ with
 | (Vy,XU,Wa)=>(cond (decide (Vy<=XT)) (fh N YB YC WK XT Vy (λVm=>inR XT Xo.length&&(decide (XT.toNat<Xo.length)&&(inR Vy Xo.length&&(decide (Vy.toNat<Xo.length)&&iV N (bD (Xo.getD XT.toNat none) (Xo.getD Vy.toNat none)) XU (λWu=>iV N (fdiv (bD (Xo.getD XT.toNat none) (Xo.getD Vy.toNat none)) Y8) Wu (λc8=>iV N (cD Vm (fdiv (bD (Xo.getD XT.toNat none) (Xo.getD Vy.toNat none)) Y8)) c8 (λc9=>qI N Zu Zv XT Vy (cD Vm (fdiv (bD (Xo.getD XT.toNat none) (Xo.getD Vy.toNat none)) Y8)) Wa (λWE=>af .i64 (Vy+1)&&K ((Vy+1),c9,WE)))))))))) (e0 XU Wa))
def zr (N:Nat) (WL XE:Fl) (Wj:Int) (V0 VA X1:LF) (WU Yr Wv Ww Yp YJ:Int) (e0:Ky0):(Int × Bool × LF × LF)->((Int × Bool × LF × LF)->Bool)->Bool:=λv_ K=>match v_ with
 | (Xj,WS,v,b8)=>(cond (decide (Xj<Wj)) (aj N (B8 N WL XE Wj Xj V0 VA X1 WU Yr Wv Ww Yp YJ v (λYV Wt=>inR Xj VA.length&&(decide (Xj.toNat<VA.length)&&(inR Xj X1.length&&(decide (Xj.toNat<X1.length)&&iV N (bD (X1.getD Xj.toNat none) XE) YV (λc10=>iV N (fdiv (bD (X1.getD Xj.toNat none) XE) WL) c10 (λc11=>iV N (cD (VA.getD Xj.toNat none) (fdiv (bD (X1.getD Xj.toNat none) XE) WL)) c11 (λc12=>decide ((List.length (v++[(cD (VA.getD Xj.toNat none) (fdiv (bD (X1.getD Xj.toNat none) XE) WL))]))*8<=140737488355328)&&(af .i64 (Xj+1)&&K ((Xj+1),c12,(v++[(cD (VA.getD Xj.toNat none) (fdiv (bD (X1.getD Xj.toNat none) XE) WL))]),Wt)))))))))) (0,WS,b8)) (e0 WS v b8))
def PS (N:Nat) (Vq U_:Int) (r z:Fl) (b UV UX:LF) (k0:Kx3):Bool:=
 (lz N Vq U_ b UV (λnr=>cond (nr != 0) (k0 0 0 [] [] nr) (rQ N ((UV.length:Nat):Int) UX r (λUY=>cond (UY != 0) (k0 0 0 [] [] UY) (wI N z (λcr=>cond (!cr) (k0 0 0 [] [] 4) (kA N ((UX.length:Nat):Int) ((UX.length:Nat):Int) (λxsr=>aj N (zr N r z ((UX.length:Nat):Int) b UV UX Vq U_ 0 0 ((UX.length:Nat):Int) ((UX.length:Nat):Int) (λZL Wx ZF=>G8 N ((UX.length:Nat):Int) ((UX.length:Nat):Int) Wx ZF ZL (λU4 Vg Vo=>k0 U4 Vg [] [] Vo) (λn5 Yo=>k0 ((UX.length:Nat):Int) ((UX.length:Nat):Int) Yo Wx n5))) (0,false,[],xsr)))))))))
def Oo (N:Nat):Int->Int->Fl->Fl->LF->LF->LF->(Kx3)->Bool:=aC N (PS N)
def B7 (N:Nat) (U_ UV:LF) (t12:Int) (e0:Kz0) (e1:Bool):(Int)->((Int)->Bool)->Bool:=λv_ K=>match v_ with
 | t13=>(cond (decide (t13<t12)) (inR t13 U_.length&&tB N (U_.getD t13.toNat none) (λnr=>inR t13 UV.length&&tB N (UV.getD t13.toNat none) (λUY=>cond (nr != UY) (e0 false) (af .i64 (t13+1)&&K (t13+1))))) e1)
def PE (N:Nat) (a b:LF) (k0:Kz0):Bool:=
 (cond (((a.length:Nat):Int) != ((b.length:Nat):Int)) (k0 false) (aj N (B7 N a b ((a.length:Nat):Int) (λt4=>k0 t4) (k0 true)) 0))
def Ml (N:Nat):LF->LF->(Kz0)->Bool:=aC N (PE N)
def MN (N:Nat) (Vq U_:Int) (Vz:LF) (Xa UV:Int) (UX:LF) (k0:Kz0):Bool:=
 (cond ((Vq==Xa)==true) (cond ((U_==UV)==true) (Ml N Vz UX (λcr=>k0 cr)) (k0 false)) (k0 false))
def Od (N:Nat):Int->Int->LF->Int->Int->LF->(Kz0)->Bool:=aC N (MN N)
def Su (N:Nat) (Vq U_:Int) (Vz VX:LF) (Xa UV:Int) (UX U9:LF) (k0:Kz0):Bool:=
 (Ml N VX U9 (λcr=>cond (cr==true) (Od N Vq U_ Vz Xa UV UX (λUZ=>k0 UZ)) (k0 false)))
def Mm (N:Nat):Int->Int->LF->LF->Int->Int->LF->LF->(Kz0)->Bool:=Su N
def Sz (N:Nat) (z:LI) (rows:Int) (r:LI) (k0:Ky8):Bool:=
 (ji N z (λxsr=>ji N r (λVp=>k0 Vp xsr)))
def Oj (N:Nat):LI->Int->LI->(Ky8)->Bool:=Sz N
def kT (N:Nat) (Vr Wd Wc:Int) (Wh:LF) (Wo Wp Ys Yt:Int) (e0:Kz4):(Int × LF)->((Int × LF)->Bool)->Bool:=λv_ K=>match v_ with
 | (j,XZ)=>(cond (decide (j<Wc)) (fh N Wd Wc Wh Vr j (λxr=>qI N Ys Yt j Vr xr XZ (λVp=>af .i64 (j+1)&&K ((j+1),Vp)))) (e0 XZ))
def kS (N:Nat) (m VH:Int) (V5:LF) (t2 VK t Xc:Int) (e0:Kz4):(Int × LF)->((Int × LF)->Bool)->Bool:=λv_ K=>match v_ with
 | (i,b3)=>(cond (decide (i<m)) (aj N (kT N i m VH V5 t2 VK t Xc (λWF=>af .i64 (i+1)&&K ((i+1),WF))) (0,b3)) (e0 b3))
def sG (N:Nat) (Vk U5:Int) (Vd:LF) (k0:Kz4):Bool:=
 (kA N U5 Vk (λxsr=>aj N (kS N Vk U5 Vd 0 0 U5 Vk (λb2=>k0 b2)) (0,xsr)))
def pd (N:Nat):Int->Int->LF->(Kz4)->Bool:=aC N (sG N)
def zw (N:Nat) (Vr Wd Wc:Int) (Wh:LF) (e0:Kz1) (e1:Bool):(Int)->((Int)->Bool)->Bool:=λv_ K=>match v_ with
 | j=>(cond (decide (j<Wc)) (fh N Wd Wc Wh Vr j (λVm=>pa N Vm (some 0) (λcr=>cond (!cr) (e0 93) (af .i64 (j+1)&&K (j+1))))) e1)
def gJ (N:Nat) (m VH:Int) (V5:LF) (e0:Kz1) (e1:Bool):(Int)->((Int)->Bool)->Bool:=λv_ K=>match v_ with
 | i=>(cond (decide (i<m)) (fh N m VH V5 i i (λxr=>cond (!(fgt xr (some 0))) (e0 93) (af .i64 (i+1)&&aj N (zw N i m VH V5 (λt2=>e0 t2) (af .i64 (i+1)&&K (i+1))) (i+1)))) e1)
def JP (N:Nat) (Vk U5:Int) (Vd:LF) (k0:Kz1):Bool:=
 (mG N Vk U5 Vd (λnr=>cond (nr != 0) (k0 nr) (cond (Vk != U5) (k0 3) (aj N (gJ N Vk U5 Vd (λVK=>k0 VK) (k0 0)) 0))))
def Mh (N:Nat):Int->Int->LF->(Kz1)->Bool:=aC N (JP N)
def JH (N:Nat) (Vq U_:Int) (Vz VX:LF) (k0:Kz1):Bool:=
 (pc N Vq U_ Vz (λnr=>cond (nr != 0) (k0 nr) (cond ((Vq != U_)==false) (cond (((VX.length:Nat):Int) != Vq) (k0 3) (I1 N VX (λcr=>cond (!cr) (k0 4) (pd N Vq U_ Vz (λxsr=>Mh N U_ Vq xsr (λUY=>cond (UY != 0) (k0 171) (k0 0))))))) (k0 3))))
def Md (N:Nat):Int->Int->LF->LF->(Kz1)->Bool:=aC N (JH N)
abbrev EG:=Fl->(Kz3)->Bool
def Mj (N:Nat):EG:=λx k=>k (aW x)
def J1 (N:Nat) (x:Fl) (k0:Kz3):Bool:=
 (Mj N x (λxr=>k0 xr))
def lq (N:Nat):Fl->(Kz3)->Bool:=J1 N
def Em (N:Nat) (XN:Fl) (U8:Int) (Vv:Fl) (Yg:Int) (Vf Vw WC:LF) (WH WI Vd VH:Int) (ZI b8:LF) (e0:Ky5):(Int × Bool × LF)->((Int × Bool × LF)->Bool)->Bool:=λv_ K=>match v_ with
 | (WD,Wn,w)=>(cond (decide (WD<Yg)) (inR WD WC.length&&(decide (WD.toNat<WC.length)&&iV N (fdiv (WC.getD WD.toNat none) Vv) Wn (λVc=>decide ((List.length (w++[(fdiv (WC.getD WD.toNat none) Vv)]))*8<=140737488355328)&&(af .i64 (WD+1)&&K ((WD+1),Vc,(w++[(fdiv (WC.getD WD.toNat none) Vv)])))))) (e0 Wn w))
def su (N:Nat) (YD:Int) (YS:Fl) (Vr:Int) (c v:Fl) (WK Xm Wm:LF) (W6 W7 Wc Wh:Int) (ZJ:LF) (e0:Ky0):(Int × Bool × LF × LF)->((Int × Bool × LF × LF)->Bool)->Bool:=λv_ K=>match v_ with
 | (j,XU,Wi,Wt)=>(cond (decide (j<YD)) (fh N Wc Wh Wt Vr j (λVW=>iV N (bD c VW) XU (λc9=>inR j Wi.length&&(decide (j.toNat<Wi.length)&&iV N (bD v (Wi.getD j.toNat none)) c9 (λc10=>iV N (cD (bD c VW) (bD v (Wi.getD j.toNat none))) c10 (λc11=>inR j Wi.length&&(decide (j.toNat<Wi.length)&&iV N (bD c (Wi.getD j.toNat none)) c11 (λc12=>iV N (bD v VW) c12 (λc13=>iV N (Br (bD c (Wi.getD j.toNat none)) (bD v VW)) c13 (λc14=>inR j Wi.length&&(decide (j.toNat<Wi.length)&&qI N Wc Wh Vr j (cD (bD c VW) (bD v (Wi.getD j.toNat none))) Wt (λVp=>af .i64 (j+1)&&K ((j+1),c14,(Wi.set j.toNat (Br (bD c (Wi.getD j.toNat none)) (bD v VW))),Vp))))))))))))) (e0 XU Wi Wt))
def uG (N:Nat) (Wj:Int) (V0 VA b2:LF) (Wv Ww V5 Wd:Int) (e0:Fl->Int->Int->Int->Bool) (e1:Fl->Bool->LF->LF->Bool):(Fl × Int × Bool × LF × LF × LF)->((Fl × Int × Bool × LF × LF × LF)->Bool)->Bool:=λv_ K=>match v_ with
 | (e,i,WS,Xk,VB,Wa)=>(cond (decide (i<Wj)) (inR i VB.length&&(decide (i.toNat<VB.length)&&cond (feq (VB.getD i.toNat none) (some 0)) (af .i64 (i+1)&&K (e,(i+1),WS,Xk,VB,Wa)) (fh N V5 Wd Wa i i (λVm=>iV N (bD Vm Vm) WS (λWg=>inR i VB.length&&(decide (i.toNat<VB.length)&&(inR i VB.length&&(decide (i.toNat<VB.length)&&iV N (bD (VB.getD i.toNat none) (VB.getD i.toNat none)) Wg (λWb=>iV N (cD (bD Vm Vm) (bD (VB.getD i.toNat none) (VB.getD i.toNat none))) Wb (λWG=>lq N (cD (bD Vm Vm) (bD (VB.getD i.toNat none) (VB.getD i.toNat none))) (λVF=>cond WG (e0 (some 0) 5 0 0) (cond (!(fgt VF (some 0))) (e0 (some 0) 171 0 0) (iV N (fdiv Vm VF) WG (λWu=>inR i VB.length&&(decide (i.toNat<VB.length)&&iV N (fdiv (VB.getD i.toNat none) VF) Wu (λc8=>qI N V5 Wd i i VF Wa (λxsr=>af .i64 (i+1)&&aj N (su N Wj e i (fdiv Vm VF) (fdiv (VB.getD i.toNat none) VF) V0 VA b2 Wv Ww V5 Wd Xk (λYV Ym YQ=>inR i Xk.length&&(decide (i.toNat<Xk.length)&&iV N (bD (fdiv Vm VF) (Xk.getD i.toNat none)) YV (λc15=>iV N (bD (fdiv (VB.getD i.toNat none) VF) e) c15 (λc16=>iV N (cD (bD (fdiv Vm VF) (Xk.getD i.toNat none)) (bD (fdiv (VB.getD i.toNat none) VF) e)) c16 (λc17=>iV N (bD (fdiv Vm VF) e) c17 (λc18=>inR i Xk.length&&(decide (i.toNat<Xk.length)&&iV N (bD (fdiv (VB.getD i.toNat none) VF) (Xk.getD i.toNat none)) c18 (λc19=>iV N (Br (bD (fdiv Vm VF) e) (bD (fdiv (VB.getD i.toNat none) VF) (Xk.getD i.toNat none))) c19 (λc20=>inR i Xk.length&&(decide (i.toNat<Xk.length)&&(af .i64 (i+1)&&K ((Br (bD (fdiv Vm VF) e) (bD (fdiv (VB.getD i.toNat none) VF) (Xk.getD i.toNat none))),(i+1),c20,(Xk.set i.toNat (cD (bD (fdiv Vm VF) (Xk.getD i.toNat none)) (bD (fdiv (VB.getD i.toNat none) VF) e))),Ym,YQ))))))))))))) ((i+1),c8,VB,xsr)))))))))))))))))) (e1 e WS Xk Wa))
def PC (N:Nat) (Vq U_:Int) (r z:Fl) (b UV UX:LF) (k0:Kx0):Bool:=
 (Md N Vq U_ b UV (λnr=>cond (nr != 0) (k0 0 0 [] [] (some 0) nr) (rQ N ((UV.length:Nat):Int) UX r (λUY=>cond (UY != 0) (k0 0 0 [] [] (some 0) UY) (wI N z (λcr=>cond (!cr) (k0 0 0 [] [] (some 0) 4) (decide ((List.length ([]++b))*8<=140737488355328)&&(decide ((List.length ([]++UV))*8<=140737488355328)&&lq N r (λxr=>aj N (Em N z ((UX.length:Nat):Int) xr ((UX.length:Nat):Int) b UV UX 0 0 ((UX.length:Nat):Int) ((UX.length:Nat):Int) ([]++UV) ([]++b) (λXu W_=>iV N (fdiv z xr) Xu (λVn=>aj N (uG N ((UX.length:Nat):Int) b UV UX 0 0 ((UX.length:Nat):Int) ((UX.length:Nat):Int) (λt9 t10 ZM ZN=>k0 ZM ZN [] [] t9 t10) (λZG ZL ZW V_=>cond ZL (k0 0 0 [] [] (some 0) 5) (k0 ((UX.length:Nat):Int) ((UX.length:Nat):Int) V_ ZW ZG 0))) ((fdiv z xr),0,Vn,([]++UV),W_,([]++b))))) (0,false,[]))))))))))
def Oa (N:Nat):Int->Int->Fl->Fl->LF->LF->LF->(Kx0)->Bool:=aC N (PC N)
def di (N:Nat) (U8 i Yd Ye t50 YB YC:Int) (Y9 YO:LF) (e0:Kz1) (e1:Bool):(Int)->((Int)->Bool)->Bool:=λv_ K=>match v_ with
 | t51=>(cond (decide (t51<t50)) (af .i64 (i*U8)&&(af .i64 ((i*U8)+t51)&&(inR ((i*U8)+t51) Y9.length&&tB N (Y9.getD (Int.toNat ((i*U8)+t51)) none) (λUY=>cond (UY != 0) (e0 171) (af .i64 (t51+1)&&K (t51+1)))))) e1)
def dh (N:Nat) (n t34 a Wy:Int) (WU Yr:LF) (e0:Kz1) (e1:Bool):(Int)->((Int)->Bool)->Bool:=λv_ K=>match v_ with
 | t35=>(cond (decide (t35<t34)) (af .i64 (t35*n)&&(af .i64 ((t35*n)+t35)&&(inR ((t35*n)+t35) WU.length&&cond (!(fgt (WU.getD (Int.toNat ((t35*n)+t35)) none) (some 0))) (e0 171) (aj N (di N n t35 t34 t35 t35 a Wy WU Yr (λt2=>e0 t2) (af .i64 (t35+1)&&K (t35+1))) 0)))) e1)
def kh (N:Nat) (Vq U_:Int) (Vz VX:LF) (k0:Kz1):Bool:=
 (D7 N Vq U_ Vz (λnr=>cond (nr != 0) (k0 nr) (cond ((Vq != U_)==false) (cond (((VX.length:Nat):Int) != Vq) (k0 3) (wK N VX (λcr=>cond (!cr) (k0 4) (aj N (dh N Vq Vq Vq U_ Vz VX (λVK=>k0 VK) (k0 0)) 0)))) (k0 3))))
def kx (N:Nat):Int->Int->LF->LF->(Kz1)->Bool:=aC N (kh N)
abbrev ca:=LF->(Kz4)->Bool
def aO (N:Nat):ca:=λx k=>(decide (x.length*8<=140737488355328))&&k x
def dO (N:Nat) (Yw Xl a b:Fl) (UV:Bool) (k0:Fl->Fl->Bool->Bool):Bool:=
 (so N Yw a UV (λxr cr=>so N Xl b cr (λVm UZ=>jW N (cD xr Vm) UZ (λVc=>so N Yw b Vc (λVF Vn=>so N Xl a Vn (λVW Wg=>jW N (Br VF VW) Wg (λWb=>k0 (cD xr Vm) (Br VF VW) Wb)))))))
def cB (N:Nat):Fl->Fl->Fl->Fl->Bool->(Fl->Fl->Bool->Bool)->Bool:=aC N (dO N)
def bK (N:Nat) (VI:Fl) (n:Int) (d:Fl) (t60:Int) (b0 b1 h:LF) (t8 W5 out Va:Int) (b7 b8:LF) (e0:Ky5):(Int × Bool × LF)->((Int × Bool × LF)->Bool)->Bool:=λv_ K=>match v_ with
 | (t61,WA,w)=>(cond (decide (t61<t60)) (inR t61 h.length&&(decide (t61.toNat<h.length)&&jW N (fdiv (h.getD t61.toNat none) d) WA (λcr=>inR t61 w.length&&(decide (t61.toNat<w.length)&&(af .i64 (t61+1)&&K ((t61+1),cr,(w.set t61.toNat (fdiv (h.getD t61.toNat none) d)))))))) (e0 WA w))
def aJ (N:Nat) (Wj:Int) (VJ:Fl) (i Yi Yj:Int) (V0 VA Wm:LF) (Wv Ww X5 X6:Int) (t Xc:Fl) (b9:LF) (e0:Ky0):(Int × Bool × LF × LF)->((Int × Bool × LF × LF)->Bool)->Bool:=λv_ K=>match v_ with
 | (j,We,Wi,Wt)=>(cond (decide (j<Wj)) (af .i64 (i*Wj)&&(af .i64 ((i*Wj)+j)&&(af .i64 (i*Wj)&&(af .i64 ((i*Wj)+j)&&(inR ((i*Wj)+j) Wt.length&&(decide ((Int.toNat ((i*Wj)+j))<Wt.length)&&(inR j Wi.length&&(decide (j.toNat<Wi.length)&&cB N t Xc (Wt.getD (Int.toNat ((i*Wj)+j)) none) (Wi.getD j.toNat none) We (λY2 Y3 c8=>inR ((i*Wj)+j) Wt.length&&(decide ((Int.toNat ((i*Wj)+j))<Wt.length)&&(inR j Wi.length&&(decide (j.toNat<Wi.length)&&(af .i64 (j+1)&&K ((j+1),c8,(Wi.set j.toNat Y3),(Wt.set (Int.toNat ((i*Wj)+j)) Y2))))))))))))))) (e0 We Wi Wt))
def aP (N:Nat) (U8 t81:Int) (Vf Vw b2:LF) (WH WI VS Wz:Int) (e0:Fl->Int->Int->Int->Bool) (e1:Fl->Bool->LF->LF->Bool):(Fl × Int × Bool × LF × LF × LF)->((Fl × Int × Bool × LF × LF × LF)->Bool)->Bool:=λv_ K=>match v_ with
 | (rest,t82,VU,VB,V_,Wa)=>(cond (decide (t82<t81)) (inR t82 VB.length&&(decide (t82.toNat<VB.length)&&cond (feq (VB.getD t82.toNat none) (some 0)) (af .i64 (t82+1)&&K (rest,(t82+1),VU,VB,V_,Wa)) (af .i64 (t82*U8)&&(af .i64 ((t82*U8)+t82)&&(inR ((t82*U8)+t82) V_.length&&(decide ((Int.toNat ((t82*U8)+t82))<V_.length)&&so N (V_.getD (Int.toNat ((t82*U8)+t82)) none) (V_.getD (Int.toNat ((t82*U8)+t82)) none) VU (λVm Vc=>inR t82 VB.length&&(decide (t82.toNat<VB.length)&&(inR t82 VB.length&&(decide (t82.toNat<VB.length)&&so N (VB.getD t82.toNat none) (VB.getD t82.toNat none) Vc (λVF Vn=>jW N (cD Vm VF) Vn (λWg=>lq N (cD Vm VF) (λVW=>jW N VW Wg (λWb=>D9 N Wb (cond Wb (e0 (some 0) 5 0 0) (cond (!(fgt VW (some 0))) (e0 (some 0) 171 0 0) (jW N (fdiv (V_.getD (Int.toNat ((t82*U8)+t82)) none) VW) Wb (λWG=>inR t82 VB.length&&(decide (t82.toNat<VB.length)&&jW N (fdiv (VB.getD t82.toNat none) VW) WG (λWu=>af .i64 (t82*U8)&&(af .i64 ((t82*U8)+t82)&&(inR ((t82*U8)+t82) V_.length&&(decide ((Int.toNat ((t82*U8)+t82))<V_.length)&&(af .i64 (t82+1)&&aj N (aJ N U8 rest t82 t81 t82 Vf Vw b2 WH WI VS Wz (fdiv (V_.getD (Int.toNat ((t82*U8)+t82)) none) VW) (fdiv (VB.getD t82.toNat none) VW) Wa (λYx Ym YQ=>inR t82 Wa.length&&(decide (t82.toNat<Wa.length)&&cB N (fdiv (V_.getD (Int.toNat ((t82*U8)+t82)) none) VW) (fdiv (VB.getD t82.toNat none) VW) (Wa.getD t82.toNat none) rest Yx (λY4 Y5 c9=>inR t82 Wa.length&&(decide (t82.toNat<Wa.length)&&(af .i64 (t82+1)&&K (Y5,(t82+1),c9,Ym,YQ,(Wa.set t82.toNat Y4)))))))) ((t82+1),Wu,VB,(V_.set (Int.toNat ((t82*U8)+t82)) VW)))))))))))))))))))))))))) (e1 rest VU V_ Wa))
def eK (N:Nat) (Vq U_:Int) (r z:Fl) (b UV UX:LF) (k0:Kx0):Bool:=
 (kx N Vq U_ b UV (λnr=>cond (nr != 0) (k0 0 0 [] [] (some 0) nr) (nd N ((UV.length:Nat):Int) UX r z (λUY=>cond (UY != 0) (k0 0 0 [] [] (some 0) UY) (lq N r (λxr=>aO N b (λxsr=>aO N UV (λVp=>iU 8 ((UV.length:Nat):Int) ((UV.length:Nat):Int)&&aj N (bK N z ((UV.length:Nat):Int) xr ((UV.length:Nat):Int) b UV UX 0 0 ((UV.length:Nat):Int) ((UV.length:Nat):Int) xsr Vp (λVT W_=>jW N (fdiv z xr) VT (λUZ=>aj N (aP N ((UV.length:Nat):Int) ((UV.length:Nat):Int) b UV UX 0 0 ((UV.length:Nat):Int) ((UV.length:Nat):Int) (λt9 t10 W6 W7=>k0 W6 W7 [] [] t9 t10) (λYU XF b6 ZE=>D9 N XF (cond XF (k0 0 0 [] [] (some 0) 5) (k0 ((UV.length:Nat):Int) ((UV.length:Nat):Int) b6 ZE YU 0)))) ((fdiv z xr),0,UZ,W_,xsr,Vp)))) (0,false,(List.replicate (Int.toNat ((UV.length:Nat):Int)) (some 0)))))))))))
def cV (N:Nat):Int->Int->Fl->Fl->LF->LF->LF->(Kx0)->Bool:=aC N (eK N)
def Hk (N:Nat) (t6 t7 t12:Int) (b2:LF) (e0:Kz4):(Int × LF)->((Int × LF)->Bool)->Bool:=λv_ K=>match v_ with
 | (t13,l)=>(cond (decide (t13<t12)) (inR t13 l.length&&(decide (t13.toNat<l.length)&&(af .i64 (t13+1)&&K ((t13+1),(l.set t13.toNat (some 4635118810238550016)))))) (e0 l))
def Hj (N:Nat) (VQ XC WB:Int) (Vw:LF) (e0:Kz4):(Int × LF)->((Int × LF)->Bool)->Bool:=λv_ K=>match v_ with
 | (Wk,Zr)=>(cond (decide (Wk<WB)) (inR Wk Zr.length&&(decide (Wk.toNat<Zr.length)&&(af .i64 (Wk+1)&&K ((Wk+1),(Zr.set Wk.toNat (some 4635118810238550016)))))) (e0 Zr))
def Pv (N:Nat) (b UV:LF) (k0:Ky8):Bool:=
 (aj (N+24) (Hk N 2 0 ((b.length:Nat):Int) UV (λb1=>aj (N+24) (Hj N 2 1 ((UV.length:Nat):Int) b1 (λWm=>k0 b1 Wm)) (0,UV))) (0,b))
def N7 (N:Nat):LF->LF->(Ky8)->Bool:=aC N (Pv N)
def SA (N:Nat) (Vq U_:Int) (Vz VX:LF) (Xa UV:Int) (UX U9:LF) (k0:Kz0):Bool:=
 (Ml N VX U9 (λcr=>cond (cr==true) (Od N Vq U_ Vz Xa UV UX (λUZ=>k0 UZ)) (k0 false)))
def Ol (N:Nat):Int->Int->LF->LF->Int->Int->LF->LF->(Kz0)->Bool:=SA N
def iI (N:Nat) (i j:Int) (b:Bool) (UV UX U9:Int) (Vh VO:LF) (k0:Kz3):Bool:=
 (af .i64 (i*U9)&&(af .i64 ((i*U9)+j)&&(inR ((i*U9)+j) Vh.length&&(decide ((Int.toNat ((i*U9)+j))<Vh.length)&&k0 (Vh.getD (Int.toNat ((i*U9)+j)) none)))))
def eh (N:Nat):Int->Int->Bool->Int->Int->Int->LF->LF->(Kz3)->Bool:=iI N
def ju (N:Nat) (i v_:Int) (b:Bool) (UV UX:Int) (U9 Vh:LF) (k0:Kz3):Bool:=
 (inR i Vh.length&&(decide (i.toNat<Vh.length)&&k0 (Vh.getD i.toNat none)))
def fH (N:Nat):Int->Int->Bool->Int->Int->LF->LF->(Kz3)->Bool:=ju N
def ck (N:Nat) (U8 i WN WO t34:Int) (Vf Vw:LF) (XI XJ XK:Int) (Yu W1:LF) (VX Wy XA XB VG VZ:Int) (Vt:LF) (e0:Ky5):(Int × Bool × LF)->((Int × Bool × LF)->Bool)->Bool:=λv_ K=>match v_ with
 | (t35,VT,V1)=>(cond (decide (t35<t34)) (af .i64 (i*U8)&&(af .i64 ((i*U8)+t35)&&(inR ((i*U8)+t35) Vf.length&&(decide ((Int.toNat ((i*U8)+t35))<Vf.length)&&eh N i t35 VT XI XJ XK Yu W1 (λxr=>jW N (cD (Vf.getD (Int.toNat ((i*U8)+t35)) none) xr) VT (λcr=>af .i64 (i*U8)&&(af .i64 ((i*U8)+t35)&&(af .i64 (t35*U8)&&(af .i64 ((t35*U8)+i)&&(inR ((i*U8)+t35) V1.length&&(decide ((Int.toNat ((i*U8)+t35))<V1.length)&&(inR ((t35*U8)+i) (List.length (V1.set (Int.toNat ((i*U8)+t35)) (cD (Vf.getD (Int.toNat ((i*U8)+t35)) none) xr)))&&(decide ((Int.toNat ((t35*U8)+i))<(List.length (V1.set (Int.toNat ((i*U8)+t35)) (cD (Vf.getD (Int.toNat ((i*U8)+t35)) none) xr))))&&(af .i64 (t35+1)&&K ((t35+1),cr,(List.set (V1.set (Int.toNat ((i*U8)+t35)) (cD (Vf.getD (Int.toNat ((i*U8)+t35)) none) xr)) (Int.toNat ((t35*U8)+i)) (cD (Vf.getD (Int.toNat ((i*U8)+t35)) none) xr))))))))))))))))) (e0 VT V1))
def cj (N:Nat) (n t29:Int) (b0 b1:LF) (toY Wl XH:Int) (b4 b5:LF) (a Vz t6 VQ y Vl:Int) (e0:Ky0):(Int × Bool × LF × LF)->((Int × Bool × LF × LF)->Bool)->Bool:=λv_ K=>match v_ with
 | (t30,WA,v,b11)=>(cond (decide (t30<t29)) (af .i64 (t30+1)&&aj N (ck N n t30 t29 t30 (t30+1) b0 b1 toY Wl XH b4 b5 a Vz t6 VQ y Vl v (λVU XY=>inR t30 b1.length&&(decide (t30.toNat<b1.length)&&fH N t30 0 VU toY Wl b4 b5 (λVm=>jW N (cD (b1.getD t30.toNat none) Vm) VU (λUZ=>inR t30 v.length&&(decide (t30.toNat<v.length)&&(af .i64 (t30+1)&&K ((t30+1),UZ,(v.set t30.toNat (cD (b1.getD t30.toNat none) Vm)),XY)))))))) (0,WA,b11)) (e0 WA v b11))
def eO (N:Nat) (Vq U_:Int) (b UV:LF) (UX U9 Vh:Int) (VO Wf:LF) (k0:Kx9) (k1:Kx2):Bool:=
 (af .i64 (((UV.length:Nat):Int)*((UV.length:Nat):Int))&&(iU 8 (((UV.length:Nat):Int)*((UV.length:Nat):Int)) (((UV.length:Nat):Int)*((UV.length:Nat):Int))&&(iU 8 ((UV.length:Nat):Int) ((UV.length:Nat):Int)&&aj N (cj N ((UV.length:Nat):Int) ((UV.length:Nat):Int) b UV UX U9 Vh VO Wf Vq U_ 0 0 ((UV.length:Nat):Int) ((UV.length:Nat):Int) (λWe Wx b10=>d8 N ((UV.length:Nat):Int) ((UV.length:Nat):Int) We Wx b10 (λnr UY U4=>k0 nr UY U4) (λVg=>k1 ((UV.length:Nat):Int) ((UV.length:Nat):Int) Vg b10 Wx))) (0,false,(List.replicate (Int.toNat ((UV.length:Nat):Int)) (some 0)),(List.replicate (Int.toNat (((UV.length:Nat):Int)*((UV.length:Nat):Int))) (some 0))))))
def e_ (N:Nat):Int->Int->LF->LF->Int->Int->Int->LF->LF->(Kx9)->(Kx2)->Bool:=aC N (eO N)
def iz (N:Nat) (Vq U_ Xa UV:Int) (b UX U9 Vh:LF) (k0:Kx3):Bool:=
 (jX N Vq U_ b UX (λnr=>cond (nr != 0) (k0 0 0 [] [] nr) (jX N Xa UV U9 Vh (λUY=>cond (UY != 0) (k0 0 0 [] [] UY) (cond (((UX.length:Nat):Int) != ((Vh.length:Nat):Int)) (k0 0 0 [] [] 3) (e_ N Vq U_ b UX Xa UV ((UX.length:Nat):Int) U9 Vh (λU4 Vg Vo=>k0 U4 Vg [] [] Vo) (λn5 n6 n7 xsr Vp=>k0 n5 n6 xsr Vp n7)))))))
def iE (N:Nat):Int->Int->Int->Int->LF->LF->LF->LF->(Kx3)->Bool:=aC N (iz N)
def zp (N:Nat) (t44:Int) (b0 b1 b2 b3:LF) (a Vz VO Wf t4 Xw y Vl:Int) (e0:Ky5):(Int × Bool × LF)->((Int × Bool × LF)->Bool)->Bool:=λv_ K=>match v_ with
 | (t45,s,b9)=>(cond (decide (t45<t44)) (inR t45 b0.length&&(decide (t45.toNat<b0.length)&&(inR t45 b2.length&&(decide (t45.toNat<b2.length)&&iV N (cD (b0.getD t45.toNat none) (b2.getD t45.toNat none)) s (λcr=>inR t45 b9.length&&(decide (t45.toNat<b9.length)&&(af .i64 (t45+1)&&K ((t45+1),cr,(b9.set t45.toNat (cD (b0.getD t45.toNat none) (b2.getD t45.toNat none))))))))))) (e0 s b9))
def zq (N:Nat) (Yh:Int) (V0 VA YP WF:LF) (WU Yr XS Za Xz YX Yp YJ:Int) (b10:LF) (e0:Ky5):(Int × Bool × LF)->((Int × Bool × LF)->Bool)->Bool:=λv_ K=>match v_ with
 | (V4,WS,v)=>(cond (decide (V4<Yh)) (inR V4 VA.length&&(decide (V4.toNat<VA.length)&&(inR V4 WF.length&&(decide (V4.toNat<WF.length)&&iV N (cD (VA.getD V4.toNat none) (WF.getD V4.toNat none)) WS (λVc=>decide ((List.length (v++[(cD (VA.getD V4.toNat none) (WF.getD V4.toNat none))]))*8<=140737488355328)&&(af .i64 (V4+1)&&K ((V4+1),Vc,(v++[(cD (VA.getD V4.toNat none) (WF.getD V4.toNat none))])))))))) (e0 WS v))
def P9 (N:Nat) (Vq U_ Xa UV:Int) (b UX U9 Vh:LF) (k0:Kx3):Bool:=
 (lz N Vq U_ b UX (λnr=>cond (nr != 0) (k0 0 0 [] [] nr) (lz N Xa UV U9 Vh (λUY=>cond (UY != 0) (k0 0 0 [] [] UY) (cond (((UX.length:Nat):Int) != ((Vh.length:Nat):Int)) (k0 0 0 [] [] 3) (kA N Vq U_ (λxsr=>aj N (zp N ((xsr.length:Nat):Int) b UX U9 Vh Vq U_ Xa UV 0 0 Vq U_ (λWn Y_=>aj N (zq N ((UX.length:Nat):Int) b UX U9 Vh Vq U_ Xa UV 0 0 Vq U_ Y_ (λXU Vt=>G8 N Vq U_ Vt Y_ XU (λU4 Vg Vo=>k0 U4 Vg [] [] Vo) (λn5 Vp=>k0 Vq U_ Vp Vt n5))) (0,Wn,[]))) (0,false,xsr))))))))
def R5 (N:Nat):Int->Int->Int->Int->LF->LF->LF->LF->(Kx3)->Bool:=aC N (P9 N)
abbrev Rb:=(Kz0)->Bool
def sQ0 (N:Nat):Rb:=λk=>k true
def GQ2 (N:Nat) (v:LI) (rows:Int) (y r Yz:LI) (W_ VB:Int) (u k_:LI) (k0:Kz0):Bool:=
 (Oi N v rows rows y (λxsr Vp=>ji N Yz (λWE=>BU N W_ (λxr=>BU N VB (λVm=>eJ N rows rows xr Vm xsr Vp WE (λnr UY Yo Zm U4=>BU N W_ (λVF=>BU N VB (λVW=>Oo N rows rows VF VW xsr Vp WE (λVg Vo Zn Zo n5=>Mm N nr UY Yo Zm Vg Vo Zn Zo (λcr=>cond ((!cr)==false) (cond (U4 != n5) (k0 false) (Oj N v rows r (λYH YI=>Oj N v rows r (λZp Y6=>BU N W_ (λY2=>BU N VB (λY3=>Oa N rows rows Y2 Y3 Zp Y6 WE (λn6 n7 y11 y12 Y4 n8=>BU N W_ (λY5=>BU N VB (λZS=>cV N rows rows Y5 ZS YH YI WE (λn9 n10 y13 y14 ZT n11=>N7 N YI YH (λy15 y16=>Ol N n9 n10 y13 y14 n6 n7 y11 y12 (λUZ=>cond ((!UZ)==false) (tB N ZT (λn12=>tB N Y4 (λn13=>cond ((n12 != n13)==false) (cond (n11 != n8) (k0 false) (Oi N u rows rows k_ (λy17 y18=>iE N rows rows rows rows xsr Vp y17 y18 (λn14 n15 y19 y20 n16=>R5 N rows rows rows rows xsr Vp y17 y18 (λn17 n18 y21 y22 n19=>Mm N n14 n15 y19 y20 n17 n18 y21 y22 (λVc=>cond (Vc==true) (cond ((n16==n19)==true) (sQ0 N (λVn=>k0 Vn)) (k0 false)) (k0 false))))))) (k0 false)))) (k0 false))))))))))))) (k0 false)))))))))))
def sQ2 (N:Nat):LI->Int->LI->LI->LI->Int->Int->LI->LI->(Kz0)->Bool:=GQ2 N
end Go.Proofs.YtdinakfmablagaaGreatDoor
