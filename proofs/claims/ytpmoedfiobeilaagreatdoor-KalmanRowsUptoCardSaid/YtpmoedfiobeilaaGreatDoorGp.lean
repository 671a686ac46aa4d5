/- The program's functions and their ties. Conditions: none. -/
import Derived.Test.YtpmoedfiobeilaaGreatDoorMachT
set_option linter.unusedVariables false
namespace Go.Proofs.YtpmoedfiobeilaaGreatDoor
open Go Go.Mach
abbrev LI:=List Int
abbrev LF:=List Fl
abbrev Kx0:=Int->Int->Fl->Fl->Fl->Int->LF->LF->LF->Bool
abbrev Kx1:=LF->Int->Int->LF->Fl->Fl->Fl->LF->Int->Bool
abbrev Kx2:=Int->Int->Fl->Fl->Fl->Int->LF->Bool
abbrev Kx3:=Int->Int->Fl->Fl->Fl->Int->Bool
abbrev Kx4:=Int->Int->Int->Int->Bool->Bool
abbrev Kx5:=LF->LF->LF->LF->LF->Bool
abbrev Kx6:=Bool->Int->Int->Int->Bool
abbrev Kx7:=Int->Int->Int->Int->Bool
abbrev Kx8:=Bool->LI->Bool->LI->Bool
abbrev Kx9:=Int->Int->Bool->LF->Bool
abbrev Ky0:=Bool->Int->Int->Bool
abbrev Ky1:=Bool->Nat->Nat->Bool
abbrev Ky2:=Int->Int->Int->Bool
abbrev Ky3:=Bool->Bool->Bool
abbrev Ky4:=Int->Int->Bool
abbrev Ky5:=Bool->LI->Bool
abbrev Ky6:=Nat->Nat->Bool
abbrev Ky7:=Fl->Bool->Bool
abbrev Ky8:=Bool->LF->Bool
abbrev Ky9:=Int->LI->Bool
abbrev Kz0:=Nat->LI->Bool
abbrev Kz1:=LI->LI->Bool
abbrev Kz2:=Bool->Bool
abbrev Kz3:=Int->Bool
abbrev Kz4:=Nat->Bool
abbrev Kz5:=Fl->Bool
abbrev Kz6:=LF->Bool
abbrev Kz7:=LI->Bool
abbrev RT0:RT:=(.ptr (.pair (.pair .bool (.ints .u64)) (.pair .bool (.ints .u64))))
abbrev RY0:=(Bool × LI) × Bool × LI
abbrev RT1:RT:=(.pair (.pair .bool (.ints .u32)) (.pair .bool (.ints .u32)))
abbrev RY1:=(Bool × LI) × Bool × LI
abbrev RT2:RT:=(.ptr (.pair (.pair .bool (.ints .u32)) (.pair .bool (.ints .u32))))
abbrev RY2:=(Bool × LI) × Bool × LI
abbrev RT3:RT:=(.pair (.ints .u64) (.pair (.int .u64) (.int .u64)))
abbrev RY3:=LI × Int × Int
abbrev RT4:RT:=(.pair .flt (.pair .flt (.pair .flt .fls)))
abbrev RY4:=Fl × Fl × Fl × LF
def ay:LI:=[0,1,2,2,3,3,3,3,4,4,4,4,4,4,4,4,5,5,5,5,5,5,5,5,5,5,5,5,5,5,5,5,6,6,6,6,6,6,6,6,6,6,6,6,6,6,6,6,6,6,6,6,6,6,6,6,6,6,6,6,6,6,6,6,7,7,7,7,7,7,7,7,7,7,7,7,7,7,7,7,7,7,7,7,7,7,7,7,7,7,7,7,7,7,7,7,7,7,7,7,7,7,7,7,7,7,7,7,7,7,7,7,7,7,7,7,7,7,7,7,7,7,7,7,7,7,7,7,8,8,8,8,8,8,8,8,8,8,8,8,8,8,8,8,8,8,8,8,8,8,8,8,8,8,8,8,8,8,8,8,8,8,8,8,8,8,8,8,8,8,8,8,8,8,8,8,8,8,8,8,8,8,8,8,8,8,8,8,8,8,8,8,8,8,8,8,8,8,8,8,8,8,8,8,8,8,8,8,8,8,8,8,8,8,8,8,8,8,8,8,8,8,8,8,8,8,8,8,8,8,8,8,8,8,8,8,8,8,8,8,8,8,8,8,8,8,8,8,8,8,8,8,8,8,8,8]
abbrev Ku:=Nat->(Kz3)->Bool
def B3 (N:Nat):Ku:=λn k=>k n
def Bj (N:Nat) (k0:Ky2):Bool:=
 (k0 52 2047 1075)
def sH (N:Nat):(Ky2)->Bool:=Bj N
def HK (N:Nat) (WM WU Xf:Int) (k0:Kz3):Bool:=
 (ah .i64 (WU+1)&&(decide (0<=WM)&&k0 (IntKind.wrap .u64 ((IntKind.wrap .u64 (WU+1))*2 ^ (min WM.toNat 64)))))
def v7 (N:Nat):Int->Int->Int->(Kz3)->Bool:=HK N
def zY (N:Nat) (WM WU Xf:Int) (k0:Kz3):Bool:=
 (decide (0<=WM)&&k0 (IntKind.wrap .u64 ((IntKind.wrap .u64 WU)*2 ^ (min WM.toNat 64))))
def nP (N:Nat):Int->Int->Int->(Kz3)->Bool:=zY N
def JP (N:Nat) (b WM WU Xf:Int) (k0:Kz2):Bool:=
 (v7 N WM WU Xf (λnr=>nP N WM WU Xf (λVs=>k0 (decide ((aA .andNot .u64 b nr)>Vs)))))
def Mn (N:Nat):Int->Int->Int->Int->(Kz2)->Bool:=ax N (JP N)
def Cr (N:Nat) (WM WU Xf:Int) (k0:Kz3):Bool:=
 (decide (0<=WM)&&k0 (IntKind.wrap .u64 ((1:Int)*2 ^ (min WM.toNat 64))))
def lG (N:Nat):Int->Int->Int->(Kz3)->Bool:=Cr N
def vp (N:Nat) (WM WU Xf:Int) (k0:Kz3):Bool:=
 (nP N WM WU Xf (λnr=>lG N WM WU Xf (λVs=>k0 (aA .or .u64 (aA .or .u64 nr (Int.fdiv Vs (2 ^ 1))) (IntKind.wrap .u64 (Int.tdiv WM 52))))))
def vZ (N:Nat):Int->Int->Int->(Kz3)->Bool:=ax N (vp N)
def S3 (N:Nat) (b WM WU Xf:Int) (k0:Kz3):Bool:=
 (Mn N b WM WU Xf (λcr=>cond cr (vZ N WM WU Xf (λnr=>k0 nr)) (k0 b)))
def MF (N:Nat):Int->Int->Int->Int->(Kz3)->Bool:=S3 N
def P6 (N:Nat) (b WM WU Xf:Int) (k0:Ky0):Bool:=
 (MF N b WM WU Xf (λnr=>v7 N WM WU Xf (λVs=>decide (0<=WM)&&(ah .i64 (aA .and .u64 (Int.fdiv nr (2 ^ (min WM.toNat 64))) (IntKind.wrap .u64 WU))&&lG N WM WU Xf (λVy=>k0 ((aA .and .u64 nr Vs) != 0) (aA .and .u64 (Int.fdiv nr (2 ^ (min WM.toNat 64))) (IntKind.wrap .u64 WU)) (aA .and .u64 nr (IntKind.wrap .u64 (Vy - 1))))))))
def Ow (N:Nat):Int->Int->Int->Int->(Ky0)->Bool:=ax N (P6 N)
def P5 (N:Nat) (b WM WU Xf:Int) (k0:Kz3):Bool:=
 (Ow N b WM WU Xf (λcr nr Vs=>cond ((nr==WU)==true) (cond (Vs != 0) (k0 1) (cond (nr==WU) (k0 2) (cond ((nr==0)==true) (cond (Vs==0) (k0 3) (cond (nr==0) (k0 4) (k0 5))) (cond (nr==0) (k0 4) (k0 5))))) (cond (nr==WU) (k0 2) (cond ((nr==0)==true) (cond (Vs==0) (k0 3) (cond (nr==0) (k0 4) (k0 5))) (cond (nr==0) (k0 4) (k0 5))))))
def Ov (N:Nat):Int->Int->Int->Int->(Kz3)->Bool:=ax N (P5 N)
abbrev Tb:=Nat->(Kz3)->Bool
def GQ8 (N x:Nat) (k0:Kz3):Bool:=
 (B3 N x (λnr=>sH N (λVs Vy VR=>Ov N nr Vs Vy VR (λVX=>k0 VX))))
def sQ8 (N:Nat):Nat->(Kz3)->Bool:=GQ8 N
abbrev Tc:=Nat->Nat->(Kz2)->Bool
def GQ9 (N a b:Nat) (k0:Kz2):Bool:=
 (B3 N a (λnr=>sH N (λVs Vy VR=>MF N nr Vs Vy VR (λVX=>B3 N b (λn5=>sH N (λn6 n7 n8=>MF N n5 n6 n7 n8 (λn9=>k0 (VX==n9))))))))
def sQ9 (N:Nat):Nat->Nat->(Kz2)->Bool:=GQ9 N
abbrev EM:=Int->(Kz5)->Bool
def zz (N:Nat):EM:=λn k=>k (fD n.toNat)
abbrev O0:=Nat->(Kz5)->Bool
def S2 (N x:Nat) (k0:Kz5):Bool:=
 (B3 N x (λnr=>zz N (aA .andNot .u64 nr 9223372036854775808) (λxr=>k0 xr)))
def F9 (N:Nat):Nat->(Kz5)->Bool:=S2 N
def k8 (N:Nat) (WR:LI) (YK:Int) (e0:Kz6):(Int × LF)->((Int × LF)->Bool)->Bool:=λv_ K=>match v_ with
 | (aaY,x)=>(cond (decide (aaY<YK)) (inR aaY WR.length&&zz N (WR.getD aaY.toNat 0) (λVW=>decide ((List.length (x++[VW]))*8<=140737488355328)&&(ah .i64 (aaY+1)&&K ((aaY+1),(x++[VW]))))) (e0 x))
def tB (N:Nat) (l:LI) (k0:Kz6):Bool:=
 (ai N (k8 N l ((l.length:Nat):Int) (λVD=>k0 VD)) (0,[]))
def mY (N:Nat):LI->(Kz6)->Bool:=ax N (tB N)
def SV (N:Nat) (x:LI) (rows cols:Int) (p:LI) (k0:LF->LF->Bool):Bool:=
 (mY N x (λxsr=>mY N p (λVO=>k0 xsr VO)))
def MD (N:Nat):LI->Int->Int->LI->(LF->LF->Bool)->Bool:=SV N
def SR (N:Nat) (b:Int) (k0:Kz5):Bool:=
 (zz N b (λxr=>k0 xr))
def Mw (N:Nat):Int->(Kz5)->Bool:=SR N
def Cf (N:Nat) (Xs:List RY3) (WN abO abP Yd Ye:Int) (e0:LF->LF->LF->Bool):(Int × LF × LF × LF)->((Int × LF × LF × LF)->Bool)->Bool:=λv_ K=>match v_ with
 | (W2,XK,VY,b4)=>(cond (decide (W2<WN)) (inR W2 Xs.length&&mY N (Xs.getD W2.toNat ([],(0,0))).1 (λWf=>decide ((List.length (b4++Wf))*8<=140737488355328)&&Mw N (Xs.getD W2.toNat ([],(0,0))).2.1 (λZn=>decide ((List.length (XK++[Zn]))*8<=140737488355328)&&Mw N (Xs.getD W2.toNat ([],(0,0))).2.2 (λZo=>decide ((List.length (VY++[Zo]))*8<=140737488355328)&&(ah .i64 (W2+1)&&K ((W2+1),(XK++[Zn]),(VY++[Zo]),(b4++Wf))))))) (e0 XK VY b4))
def P2 (N:Nat) (l:List RY3) (cols:Int) (k0:Int->LF->LF->LF->Bool):Bool:=
 (ai N (Cf N l ((l.length:Nat):Int) 0 0 ((l.length:Nat):Int) cols (λYg z_2 W_=>k0 ((l.length:Nat):Int) W_ Yg z_2)) (0,[],[],[]))
def Sq (N:Nat):List RY3->Int->(Int->LF->LF->LF->Bool)->Bool:=ax N (P2 N)
def qx (N:Nat) (rows cols n:Int) (k0:Kz3):Bool:=
 (cond ((decide (rows<0))==false) (cond ((decide (rows>12))==false) (cond ((decide (cols<0))==false) (cond (decide (cols>12)) (k0 1) (ah .i64 (rows*cols)&&cond (n != (rows*cols)) (k0 3) (k0 0))) (k0 1)) (k0 1)) (k0 1))
def rz (N:Nat):Int->Int->Int->(Kz3)->Bool:=ax N (qx N)
abbrev EL:=Fl->(Kz3)->Bool
def xa (N:Nat):EL:=λx k=>match x with | some b=>k b | none=>false
def xQ (N:Nat) (x:Fl) (k0:Kz3):Bool:=
 (cond (!feq x x) (k0 9221120237041090561) (xa N x (λnr=>k0 nr)))
def mX (N:Nat):Fl->(Kz3)->Bool:=xQ N
def qv (N:Nat) (x:Fl) (k0:Ky0):Bool:=
 (mX N x (λnr=>ah .i64 (Int.tmod (Int.fdiv nr (2 ^ 52)) 2048)&&k0 ((Int.fdiv nr (2 ^ 63))==1) (Int.tmod (Int.fdiv nr (2 ^ 52)) 2048) (Int.tmod nr 4503599627370496)))
def nF (N:Nat):Fl->(Ky0)->Bool:=ax N (qv N)
def Kj (N:Nat) (exp frac most:Int) (k0:Kz3):Bool:=
 (cond ((exp==most)==true) (cond (frac != 0) (k0 1) (cond (exp==most) (k0 2) (cond ((exp==0)==true) (cond (frac==0) (k0 3) (cond (exp==0) (k0 4) (k0 5))) (cond (exp==0) (k0 4) (k0 5))))) (cond (exp==most) (k0 2) (cond ((exp==0)==true) (cond (frac==0) (k0 3) (cond (exp==0) (k0 4) (k0 5))) (cond (exp==0) (k0 4) (k0 5)))))
def Ps (N:Nat):Int->Int->Int->(Kz3)->Bool:=ax N (Kj N)
def wr (N:Nat) (x:Fl) (k0:Kz3):Bool:=
 (nF N x (λcr nr Vs=>Ps N nr Vs 2047 (λVy=>k0 Vy)))
def rn (N:Nat):Fl->(Kz3)->Bool:=wr N
def OW (N:Nat) (x:Fl) (k0:Kz2):Bool:=
 (rn N x (λnr=>k0 (decide (nr>2))))
def A_ (N:Nat):Fl->(Kz2)->Bool:=OW N
def fO (N:Nat) (t5:LF) (t6:Int) (e0:Kz2) (e1:Bool):(Int)->((Int)->Bool)->Bool:=λv_ K=>match v_ with
 | t7=>(cond (decide (t7<t6)) (inR t7 t5.length&&A_ N (t5.getD t7.toNat none) (λcr=>cond (!cr) (e0 false) (ah .i64 (t7+1)&&K (t7+1)))) e1)
def JF (N:Nat) (l:LF) (k0:Kz2):Bool:=
 (ai N (fO N l ((l.length:Nat):Int) (λt2=>k0 t2) (k0 true)) 0)
def D4 (N:Nat):LF->(Kz2)->Bool:=ax N (JF N)
def tD (N:Nat) (VP Vt:Int) (VF:LF) (k0:Kz3):Bool:=
 (rz N VP Vt ((VF.length:Nat):Int) (λnr=>cond (nr != 0) (k0 nr) (D4 N VF (λcr=>cond (!cr) (k0 4) (k0 0)))))
def pF (N:Nat):Int->Int->LF->(Kz3)->Bool:=ax N (tD N)
def oM (N:Nat) (VP Vt:Int) (VF:LF) (k0:Kz3):Bool:=
 (pF N VP Vt VF (λnr=>k0 nr))
def kN (N:Nat):Int->Int->LF->(Kz3)->Bool:=oM N
def Cs (N:Nat) (VP Vt:Int) (VF:LF) (i j:Int) (k0:Kz5):Bool:=
 (ah .i64 (i*Vt)&&(ah .i64 ((i*Vt)+j)&&(inR ((i*Vt)+j) VF.length&&k0 (VF.getD (Int.toNat ((i*Vt)+j)) none))))
def lI (N:Nat):Int->Int->LF->Int->Int->(Kz5)->Bool:=Cs N
def tC (N:Nat) (a b:Fl) (k0:Kz2):Bool:=
 (mX N a (λnr=>mX N b (λVs=>k0 (nr==Vs))))
def uf (N:Nat):Fl->Fl->(Kz2)->Bool:=ax N (tC N)
def fQ (N:Nat) (VM YQ Yd:Int) (Ye:LF) (e0:Kz3) (e1:Bool):(Int)->((Int)->Bool)->Bool:=λv_ K=>match v_ with
 | j=>(cond (decide (j<VM)) (lI N YQ Yd Ye VM j (λxr=>lI N YQ Yd Ye j VM (λVW=>uf N xr VW (λcr=>cond (!cr) (e0 91) (ah .i64 (j+1)&&K (j+1)))))) e1)
def fP (N:Nat) (m Wx:Int) (X3:LF) (e0:Kz3) (e1:Bool):(Int)->((Int)->Bool)->Bool:=λv_ K=>match v_ with
 | i=>(cond (decide (i<m)) (ai N (fQ N i m Wx X3 (λt2=>e0 t2) (ah .i64 (i+1)&&K (i+1))) 0) e1)
def JZ (N:Nat) (VP Vt:Int) (VF:LF) (k0:Kz3):Bool:=
 (pF N VP Vt VF (λnr=>cond (nr != 0) (k0 nr) (cond (VP != Vt) (k0 3) (ai N (fP N VP Vt VF (λXC=>k0 XC) (k0 0)) 0))))
def Ms (N:Nat):Int->Int->LF->(Kz3)->Bool:=ax N (JZ N)
def qz (N:Nat) (Wd:LF) (VK VS:Int) (VV:LF) (k0:Kz3):Bool:=
 (kN N VK VS VV (λnr=>cond (nr != 0) (k0 nr) (cond ((VK != VS)==false) (cond (((Wd.length:Nat):Int) != VK) (k0 3) (D4 N Wd (λcr=>cond (!cr) (k0 4) (Ms N VK VS VV (λVs=>cond (Vs != 0) (k0 150) (k0 0)))))) (k0 3))))
def xg (N:Nat):LF->Int->Int->LF->(Kz3)->Bool:=ax N (qz N)
def kn (N:Nat) (e0:Ky4):(Int × Int)->((Int × Int)->Bool)->Bool:=λv_ K=>match v_ with
 | (Vt,e_1)=>(cond ((Int.tmod Vt 2)==0) (ah .i64 (e_1+1)&&K ((IntKind.wrap .u64 (Int.tdiv Vt 2)),(e_1+1))) (e0 Vt e_1))
def rN (N:Nat) (m e:Int) (k0:Ky4):Bool:=
 (cond (m==0) (k0 0 0) (ai N (kn N (λVF e_2=>k0 VF e_2)) (m,e)))
def oy (N:Nat):Int->Int->(Ky4)->Bool:=ax N (rN N)
def kS (N:Nat) (x:Fl) (neg:Bool) (e f:Int) (k0:Kx6):Bool:=
 (ah .i64 (e - 1074)&&oy N f (e - 1074) (λVy VR=>k0 neg Vy VR 0))
def qu (N:Nat) (x:Fl) (k0:Kx6):Bool:=
 (nF N x (λcr nr Vs=>cond (nr==2047) (k0 false 0 0 4) (cond (decide (nr>0)) (ah .i64 (nr - 1)&&kS N x cr (nr - 1) (IntKind.wrap .u64 (Vs+4503599627370496)) k0) (kS N x cr nr Vs k0))))
def rq (N:Nat):Fl->(Kx6)->Bool:=ax N (qu N)
def uq (N Vt:Nat) (Wx:LI) (e0:Kz4):(Nat)->((Nat)->Bool)->Bool:=λv_ K=>match v_ with
 | VF=>(cond ((decide (((VF:Nat):Int)>0))==true) (ah .i64 (((VF:Nat):Int) - 1)&&(inR (((VF:Nat):Int) - 1) VF&&(decide ((Vt+(Int.toNat (((VF:Nat):Int) - 1)))<Wx.length)&&cond ((Wx.getD (Vt+(Int.toNat (((VF:Nat):Int) - 1))) 0)==0) (ah .i64 (((VF:Nat):Int) - 1)&&(decide (0<=(((VF:Nat):Int) - 1)/\(((VF:Nat):Int) - 1)<=((VF:Nat):Int))&&K ((Int.toNat (((VF:Nat):Int) - 1)) - 0))) (e0 VF)))) (e0 VF))
def PN (N:Nat) (b:LI) (k0:Kz4):Bool:=
 (ai N (uq N 0 b (λX3=>k0 X3)) b.length)
def ox (N:Nat):LI->(Kz4)->Bool:=ax N (PN N)
def Kd (N:Nat) (n:Int) (k0:Kz7):Bool:=
 (ox N [(IntKind.wrap .u32 n),(IntKind.wrap .u32 (Int.fdiv n (2 ^ 32)))] (λmr=>decide ((0+mr)<=(List.length [(IntKind.wrap .u32 n),(IntKind.wrap .u32 (Int.fdiv n (2 ^ 32)))]))&&k0 (List.take mr (List.drop 0 [(IntKind.wrap .u32 n),(IntKind.wrap .u32 (Int.fdiv n (2 ^ 32)))]))))
def Ba (N:Nat):Int->(Kz7)->Bool:=ax N (Kd N)
def fN (N:Nat) (e0:Kz7):(LI)->((LI)->Bool)->Bool:=λv_ K=>match v_ with
 | Vt=>(cond ((decide (((Vt.length:Nat):Int)>0))==true) (ah .i64 (((Vt.length:Nat):Int) - 1)&&(inR (((Vt.length:Nat):Int) - 1) Vt.length&&cond ((Vt.getD (Int.toNat (((Vt.length:Nat):Int) - 1)) 0)==0) (ah .i64 (((Vt.length:Nat):Int) - 1)&&(decide (0<=(((Vt.length:Nat):Int) - 1)/\(((Vt.length:Nat):Int) - 1)<=((Vt.length:Nat):Int))&&K (List.drop 0 (List.take (Int.toNat (((Vt.length:Nat):Int) - 1)) Vt)))) (e0 Vt))) (e0 Vt))
def vq (N:Nat) (m:LI) (k0:Kz7):Bool:=
 (ai N (fN N (λVF=>k0 VF)) m)
def kL (N:Nat):LI->(Kz7)->Bool:=ax N (vq N)
def OR (N:Nat) (neg:Bool) (m:LI) (b:Bool) (k0:Ky5):Bool:=
 (kL N m (λnsr=>cond (neg==true) (k0 (decide (((nsr.length:Nat):Int)>0)) nsr) (k0 false nsr)))
def xc (N:Nat):Bool->LI->Bool->(Ky5)->Bool:=OR N
def P7 (N:Nat) (n:Int) (b:Bool) (k0:Ky5):Bool:=
 (Ba N n (λnsr=>xc N false nsr b (λcr Vp=>k0 cr Vp)))
def Ox (N:Nat):Int->Bool->(Ky5)->Bool:=ax N (P7 N)
def qA (N:Nat) (neg b:Bool) (Vo Vq:LI) (k0:Ky1):Bool:=
 (ox N Vq (λmr=>cond (neg==true) (k0 (decide (((mr:Nat):Int)>0)) 0 mr) (k0 false 0 mr)))
def rA (N:Nat):Bool->Bool->LI->LI->(Ky1)->Bool:=qA N
def Ka (N:Nat) (b:Bool) (Vo:LI) (k0:Ky5):Bool:=
 (decide ((List.length ([]++Vo))*4<=140737488355328)&&rA N (!b) b Vo ([]++Vo) (λcr mr Wi=>decide ((mr+Wi)<=(List.length ([]++Vo)))&&k0 cr (List.take Wi (List.drop mr ([]++Vo)))))
def MA (N:Nat):Bool->LI->(Ky5)->Bool:=ax N (Ka N)
def xR (N:Nat) (x:Fl) (k0:Int->Bool->LI->Bool):Bool:=
 (rq N x (λcr nr Vs Vy=>Ox N nr false (λVr nsr=>cond cr (MA N Vr nsr (λVH Vp=>k0 Vs VH Vp)) (k0 Vs Vr nsr))))
def zB (N:Nat):Fl->(Int->Bool->LI->Bool)->Bool:=ax N (xR N)
def eF (N:Nat) (Vt:LI) (w s:Int) (e0:Kz7):(Int × LI)->((Int × LI)->Bool)->Bool:=λv_ K=>match v_ with
 | (i,out)=>(cond (decide (i<((Vt.length:Nat):Int))) (inR i Vt.length&&(decide (0<=s)&&(ah .i64 (w+i)&&(inR (w+i) out.length&&(decide ((Int.toNat (w+i))<out.length)&&(inR (w+i) out.length&&(decide ((Int.toNat (w+i))<out.length)&&(ah .i64 (w+i)&&(ah .i64 ((w+i)+1)&&(inR ((w+i)+1) (List.length (out.set (Int.toNat (w+i)) (aA .or .u32 (out.getD (Int.toNat (w+i)) 0) (IntKind.wrap .u32 (IntKind.wrap .u64 ((IntKind.wrap .u64 (Vt.getD i.toNat 0))*2 ^ (min s.toNat 64)))))))&&(decide ((Int.toNat ((w+i)+1))<(List.length (out.set (Int.toNat (w+i)) (aA .or .u32 (out.getD (Int.toNat (w+i)) 0) (IntKind.wrap .u32 (IntKind.wrap .u64 ((IntKind.wrap .u64 (Vt.getD i.toNat 0))*2 ^ (min s.toNat 64))))))))&&(ah .i64 (i+1)&&K ((i+1),(List.set (out.set (Int.toNat (w+i)) (aA .or .u32 (out.getD (Int.toNat (w+i)) 0) (IntKind.wrap .u32 (IntKind.wrap .u64 ((IntKind.wrap .u64 (Vt.getD i.toNat 0))*2 ^ (min s.toNat 64)))))) (Int.toNat ((w+i)+1)) (IntKind.wrap .u32 (Int.fdiv (IntKind.wrap .u64 ((IntKind.wrap .u64 (Vt.getD i.toNat 0))*2 ^ (min s.toNat 64))) (2 ^ 32))))))))))))))))) (e0 out))
def tz (N:Nat) (m:LI) (n:Int) (k0:Kz7):Bool:=
 (cond (((m.length:Nat):Int)==0) (k0 []) (ah .i64 (IntKind.wrap .u64 (Int.tdiv n 32))&&(ah .i64 ((IntKind.wrap .u64 (Int.tdiv n 32))+((m.length:Nat):Int))&&(ah .i64 (((IntKind.wrap .u64 (Int.tdiv n 32))+((m.length:Nat):Int))+1)&&(jD 4 (((IntKind.wrap .u64 (Int.tdiv n 32))+((m.length:Nat):Int))+1) (((IntKind.wrap .u64 (Int.tdiv n 32))+((m.length:Nat):Int))+1)&&ai N (eF N m (IntKind.wrap .u64 (Int.tdiv n 32)) (Int.tmod n 32) (λVE=>ox N VE (λmr=>decide ((0+mr)<=VE.length)&&k0 (List.take mr (List.drop 0 VE))))) (0,(List.replicate (Int.toNat (((IntKind.wrap .u64 (Int.tdiv n 32))+((m.length:Nat):Int))+1)) (0:Int))))))))
def uc (N:Nat):LI->Int->(Kz7)->Bool:=ax N (tz N)
def JO (N:Nat) (n:Int) (b Vo:Bool) (Vq:LI) (k0:Ky5):Bool:=
 (uc N Vq n (λnsr=>xc N Vo nsr b (λcr Vp=>k0 cr Vp)))
def Hj (N:Nat):Int->Bool->Bool->LI->(Ky5)->Bool:=ax N (JO N)
def S5 (N:Nat) (x e:Int) (b:Bool) (Vo:LI) (k0:Bool) (k1:Ky5):Bool:=
 (cond (decide (e>=x)) k0 (ah .i64 (x - e)&&Hj N (IntKind.wrap .u64 (x - e)) false b Vo (λcr nsr=>k1 cr nsr)))
def Sw (N:Nat):Int->Int->Bool->LI->(Bool)->(Ky5)->Bool:=S5 N
def Gs (N:Nat) (k0:Kz7):Bool:=
 (k0 [1])
def qg (N:Nat):(Kz7)->Bool:=Gs N
def J1 (N:Nat) (neg:Bool) (m:LI) (b Vo:Bool) (k0:Bool->LI->LI->Bool):Bool:=
 (kL N m (λnsr=>cond (neg==true) (k0 (decide (((nsr.length:Nat):Int)>0)) nsr []) (k0 false nsr [])))
def D9 (N:Nat):Bool->LI->Bool->Bool->(Bool->LI->LI->Bool)->Bool:=J1 N
def Kk (N:Nat) (neg:Bool) (m:LI) (b:Bool) (Vo:LI) (Vq:Bool) (Vu:LI) (k0:Ky5):Bool:=
 (kL N m (λnsr=>cond (neg==true) (k0 (decide (((nsr.length:Nat):Int)>0)) nsr) (k0 false nsr)))
def Ec (N:Nat):Bool->LI->Bool->LI->Bool->LI->(Ky5)->Bool:=Kk N
def Nb (N:Nat) (x:Int) (k0:Kz3):Bool:=
 (cond (x==0) (k0 32) (inR (Int.fdiv (IntKind.wrap .u32 ((aA .and .u32 x (IntKind.wrap .u32 (0 - x)))*125613361)) (2 ^ 27)) 32&&(ah .i64 (xj.getD (Int.toNat (Int.fdiv (IntKind.wrap .u32 ((aA .and .u32 x (IntKind.wrap .u32 (0 - x)))*125613361)) (2 ^ 27))) 0)&&k0 (xj.getD (Int.toNat (Int.fdiv (IntKind.wrap .u32 ((aA .and .u32 x (IntKind.wrap .u32 (0 - x)))*125613361)) (2 ^ 27))) 0))))
def Se (N:Nat):Int->(Kz3)->Bool:=ax N (Nb N)
def Hx (N:Nat) (z:Bool) (VY:LI) (e0:Kz3) (e1:Bool):(Int)->((Int)->Bool)->Bool:=λv_ K=>match v_ with
 | i=>(cond (decide (i<((VY.length:Nat):Int))) (inR i VY.length&&cond ((VY.getD i.toNat 0) != 0) (ah .i64 (32*i)&&(inR i VY.length&&Se N (VY.getD i.toNat 0) (λnr=>ah .i64 ((32*i)+nr)&&e0 (IntKind.wrap .u64 ((32*i)+nr))))) (ah .i64 (i+1)&&K (i+1))) e1)
def GQ0 (N:Nat) (b:Bool) (Vo:LI) (k0:Kz3):Bool:=
 (ai N (Hx N b Vo (λt2=>k0 t2) (k0 0)) 0)
def sQ0 (N:Nat):Bool->LI->(Kz3)->Bool:=ax N (GQ0 N)
def ki (N:Nat) (Vt:LI) (w s:Int) (e0:Kz7):(Int × LI)->((Int × LI)->Bool)->Bool:=λv_ K=>match v_ with
 | (i,out)=>(cond (decide (i<((out.length:Nat):Int))) (ah .i64 (w+i)&&(inR (w+i) Vt.length&&(ah .i64 (w+i)&&(ah .i64 ((w+i)+1)&&cond (decide (((w+i)+1)<((Vt.length:Nat):Int))) (ah .i64 (w+i)&&(ah .i64 ((w+i)+1)&&(inR ((w+i)+1) Vt.length&&(decide (0<=s)&&(inR i out.length&&(decide (i.toNat<out.length)&&(ah .i64 (i+1)&&K ((i+1),(out.set i.toNat (IntKind.wrap .u32 (Int.fdiv (aA .or .u64 (IntKind.wrap .u64 (Vt.getD (Int.toNat (w+i)) 0)) (IntKind.wrap .u64 ((IntKind.wrap .u64 (Vt.getD (Int.toNat ((w+i)+1)) 0))*2 ^ 32))) (2 ^ (min s.toNat 64))))))))))))) (decide (0<=s)&&(inR i out.length&&(decide (i.toNat<out.length)&&(ah .i64 (i+1)&&K ((i+1),(out.set i.toNat (IntKind.wrap .u32 (Int.fdiv (IntKind.wrap .u64 (Vt.getD (Int.toNat (w+i)) 0)) (2 ^ (min s.toNat 64)))))))))))))) (e0 out))
def Qe (N:Nat) (m:LI) (n:Int) (k0:Kz7):Bool:=
 (ah .i64 (IntKind.wrap .u64 (Int.tdiv n 32))&&cond (decide ((IntKind.wrap .u64 (Int.tdiv n 32))>=((m.length:Nat):Int))) (k0 []) (ah .i64 (((m.length:Nat):Int) - (IntKind.wrap .u64 (Int.tdiv n 32)))&&(jD 4 (((m.length:Nat):Int) - (IntKind.wrap .u64 (Int.tdiv n 32))) (((m.length:Nat):Int) - (IntKind.wrap .u64 (Int.tdiv n 32)))&&ai N (ki N m (IntKind.wrap .u64 (Int.tdiv n 32)) (Int.tmod n 32) (λVE=>ox N VE (λmr=>decide ((0+mr)<=VE.length)&&k0 (List.take mr (List.drop 0 VE))))) (0,(List.replicate (Int.toNat (((m.length:Nat):Int) - (IntKind.wrap .u64 (Int.tdiv n 32)))) (0:Int))))))
def Ag (N:Nat):LI->Int->(Kz7)->Bool:=ax N (Qe N)
def JX (N:Nat) (x:Int) (k0:Kz3):Bool:=
 (cond (decide (x>=65536)) (cond (decide ((Int.fdiv x (2 ^ 16))>=256)) (inR (IntKind.wrap .u8 (Int.fdiv (Int.fdiv x (2 ^ 16)) (2 ^ 8))) 256&&(ah .i64 (ay.getD (Int.toNat (IntKind.wrap .u8 (Int.fdiv (Int.fdiv x (2 ^ 16)) (2 ^ 8)))) 0)&&(ah .i64 (24+(ay.getD (Int.toNat (IntKind.wrap .u8 (Int.fdiv (Int.fdiv x (2 ^ 16)) (2 ^ 8)))) 0))&&k0 (24+(ay.getD (Int.toNat (IntKind.wrap .u8 (Int.fdiv (Int.fdiv x (2 ^ 16)) (2 ^ 8)))) 0))))) (inR (IntKind.wrap .u8 (Int.fdiv x (2 ^ 16))) 256&&(ah .i64 (ay.getD (Int.toNat (IntKind.wrap .u8 (Int.fdiv x (2 ^ 16)))) 0)&&(ah .i64 (16+(ay.getD (Int.toNat (IntKind.wrap .u8 (Int.fdiv x (2 ^ 16)))) 0))&&k0 (16+(ay.getD (Int.toNat (IntKind.wrap .u8 (Int.fdiv x (2 ^ 16)))) 0)))))) (cond (decide (x>=256)) (inR (IntKind.wrap .u8 (Int.fdiv x (2 ^ 8))) 256&&(ah .i64 (ay.getD (Int.toNat (IntKind.wrap .u8 (Int.fdiv x (2 ^ 8)))) 0)&&(ah .i64 (8+(ay.getD (Int.toNat (IntKind.wrap .u8 (Int.fdiv x (2 ^ 8)))) 0))&&k0 (8+(ay.getD (Int.toNat (IntKind.wrap .u8 (Int.fdiv x (2 ^ 8)))) 0))))) (inR (IntKind.wrap .u8 x) 256&&(ah .i64 (ay.getD (Int.toNat (IntKind.wrap .u8 x)) 0)&&(ah .i64 (0+(ay.getD (Int.toNat (IntKind.wrap .u8 x)) 0))&&k0 (0+(ay.getD (Int.toNat (IntKind.wrap .u8 x)) 0)))))))
def Hl (N:Nat):Int->(Kz3)->Bool:=ax N (JX N)
def Qa (N:Nat) (b:Bool) (Vo:LI) (k0:Kz3):Bool:=
 (cond (((Vo.length:Nat):Int)==0) (k0 0) (ah .i64 (((Vo.length:Nat):Int) - 1)&&(ah .i64 (32*(((Vo.length:Nat):Int) - 1))&&(ah .i64 (((Vo.length:Nat):Int) - 1)&&(inR (((Vo.length:Nat):Int) - 1) Vo.length&&Hl N (Vo.getD (Int.toNat (((Vo.length:Nat):Int) - 1)) 0) (λnr=>ah .i64 ((32*(((Vo.length:Nat):Int) - 1))+nr)&&k0 ((32*(((Vo.length:Nat):Int) - 1))+nr)))))))
def Jd (N:Nat):Bool->LI->(Kz3)->Bool:=ax N (Qa N)
def uk (N:Nat) (VL Vo:LI) (e0:Kz3) (e1:Bool):(Int)->((Int)->Bool)->Bool:=λv_ K=>match v_ with
 | i=>(cond (decide (i>=0)) (inR i VL.length&&(inR i Vo.length&&cond (decide ((VL.getD i.toNat 0)<(Vo.getD i.toNat 0))) (e0 (-1)) (inR i VL.length&&(inR i Vo.length&&cond (decide ((VL.getD i.toNat 0)>(Vo.getD i.toNat 0))) (e0 1) (ah .i64 (i - 1)&&K (i - 1)))))) e1)
def Jy (N:Nat) (a b:LI) (k0:Kz3):Bool:=
 (cond (((a.length:Nat):Int) != ((b.length:Nat):Int)) (cond (decide (((a.length:Nat):Int)<((b.length:Nat):Int))) (k0 (-1)) (k0 1)) (ah .i64 (((a.length:Nat):Int) - 1)&&ai N (uk N a b (λt4=>k0 t4) (k0 0)) (((a.length:Nat):Int) - 1)))
def w_ (N:Nat):LI->LI->(Kz3)->Bool:=ax N (Jy N)
def k6 (N:Nat) (x:LI) (e0:Kz3):(Int × Int)->((Int × Int)->Bool)->Bool:=λv_ K=>match v_ with
 | (u,i)=>(cond (decide (i>=0)) (inR i x.length&&(ah .i64 (i - 1)&&K ((aA .or .u64 (IntKind.wrap .u64 (u*2 ^ 32)) (IntKind.wrap .u64 (x.getD i.toNat 0))),(i - 1)))) (e0 u))
def tx (N:Nat) (m:LI) (at_:Int) (k0:Kz3):Bool:=
 (Ag N m (IntKind.wrap .u64 at_) (λnsr=>ah .i64 (((nsr.length:Nat):Int) - 1)&&ai N (k6 N nsr (λWb=>k0 Wb)) (0,(((nsr.length:Nat):Int) - 1))))
def pD (N:Nat):LI->Int->(Kz3)->Bool:=ax N (tx N)
def oA (N:Nat) (e0:Kx7):(Int × Int × Int × Int × Int × Int)->((Int × Int × Int × Int × Int × Int)->Bool)->Bool:=λv_ K=>match v_ with
 | (a,b,c,d,p,q)=>(ah .i64 (q+c)&&cond (((q+c) != 0)==true) (ah .i64 (q+d)&&cond ((q+d) != 0) (ah .i64 (p+a)&&(ah .i64 (q+c)&&((!decide ((q+c)=0))&&(ah .i64 (Int.tdiv (p+a) (q+c))&&(ah .i64 (p+b)&&(ah .i64 (q+d)&&((!decide ((q+d)=0))&&(ah .i64 (Int.tdiv (p+b) (q+d))&&cond ((Int.tdiv (p+a) (q+c)) != (Int.tdiv (p+b) (q+d))) (e0 a b c d) (ah .i64 ((Int.tdiv (p+a) (q+c))*c)&&(ah .i64 (a - ((Int.tdiv (p+a) (q+c))*c))&&(ah .i64 ((Int.tdiv (p+a) (q+c))*d)&&(ah .i64 (b - ((Int.tdiv (p+a) (q+c))*d))&&cond ((decide ((a - ((Int.tdiv (p+a) (q+c))*c))>1073741824))==false) (cond ((decide ((a - ((Int.tdiv (p+a) (q+c))*c))<(-1073741824)))==false) (cond ((decide ((b - ((Int.tdiv (p+a) (q+c))*d))>1073741824))==false) (cond (decide ((b - ((Int.tdiv (p+a) (q+c))*d))<(-1073741824))) (e0 a b c d) (ah .i64 ((Int.tdiv (p+a) (q+c))*q)&&(ah .i64 (p - ((Int.tdiv (p+a) (q+c))*q))&&K (c,d,(a - ((Int.tdiv (p+a) (q+c))*c)),(b - ((Int.tdiv (p+a) (q+c))*d)),q,(p - ((Int.tdiv (p+a) (q+c))*q)))))) (e0 a b c d)) (e0 a b c d)) (e0 a b c d))))))))))))) (e0 a b c d)) (e0 a b c d))
def qt (N:Nat) (x y:Int) (k0:Kx7):Bool:=
 (ah .i64 x&&(ah .i64 y&&ai N (oA N (λVL Vo c_1 Wg=>k0 VL Vo c_1 Wg)) (1,0,0,1,x,y)))
def rm (N:Nat):Int->Int->(Kx7)->Bool:=ax N (qt N)
def kj (N:Nat) (Vt:LI) (Wg:Int) (e0:Ky9):(Int × Int × LI)->((Int × Int × LI)->Bool)->Bool:=λv_ K=>match v_ with
 | (r,i,out)=>(cond (decide (i>=0)) (inR i Vt.length&&((!decide ((IntKind.wrap .u64 Wg)=0))&&(inR i out.length&&(decide (i.toNat<out.length)&&((!decide ((IntKind.wrap .u64 Wg)=0))&&(ah .i64 (i - 1)&&K ((Int.tmod (aA .or .u64 (IntKind.wrap .u64 (r*2 ^ 32)) (IntKind.wrap .u64 (Vt.getD i.toNat 0))) (IntKind.wrap .u64 Wg)),(i - 1),(out.set i.toNat (IntKind.wrap .u32 (IntKind.wrap .u64 (Int.tdiv (aA .or .u64 (IntKind.wrap .u64 (r*2 ^ 32)) (IntKind.wrap .u64 (Vt.getD i.toNat 0))) (IntKind.wrap .u64 Wg)))))))))))) (e0 r out))
def qs (N:Nat) (m:LI) (d:Int) (k0:LI->Int->Bool):Bool:=
 (jD 4 ((m.length:Nat):Int) ((m.length:Nat):Int)&&(ah .i64 (((m.length:Nat):Int) - 1)&&ai N (kj N m d (λWy VE=>ox N VE (λmr=>decide ((0+mr)<=VE.length)&&k0 (List.take mr (List.drop 0 VE)) (IntKind.wrap .u32 Wy)))) (0,(((m.length:Nat):Int) - 1),(List.replicate (Int.toNat ((m.length:Nat):Int)) (0:Int)))))
def nE (N:Nat):LI->Int->(LI->Int->Bool)->Bool:=ax N (qs N)
def S1 (N:Nat) (x:Int) (k0:Kz3):Bool:=
 (Hl N x (λnr=>ah .i64 (32 - nr)&&k0 (32 - nr)))
def Sp (N:Nat):Int->(Kz3)->Bool:=S1 N
def m9 (N:Nat) (Vt:LI) (w s:Int) (e0:Kz7):(Int × LI)->((Int × LI)->Bool)->Bool:=λv_ K=>match v_ with
 | (i,out)=>(cond (decide (i<((Vt.length:Nat):Int))) (inR i Vt.length&&(decide (0<=s)&&(ah .i64 (w+i)&&(inR (w+i) out.length&&(decide ((Int.toNat (w+i))<out.length)&&(inR (w+i) out.length&&(decide ((Int.toNat (w+i))<out.length)&&(ah .i64 (w+i)&&(ah .i64 ((w+i)+1)&&(inR ((w+i)+1) (List.length (out.set (Int.toNat (w+i)) (aA .or .u32 (out.getD (Int.toNat (w+i)) 0) (IntKind.wrap .u32 (IntKind.wrap .u64 ((IntKind.wrap .u64 (Vt.getD i.toNat 0))*2 ^ (min s.toNat 64)))))))&&(decide ((Int.toNat ((w+i)+1))<(List.length (out.set (Int.toNat (w+i)) (aA .or .u32 (out.getD (Int.toNat (w+i)) 0) (IntKind.wrap .u32 (IntKind.wrap .u64 ((IntKind.wrap .u64 (Vt.getD i.toNat 0))*2 ^ (min s.toNat 64))))))))&&(ah .i64 (i+1)&&K ((i+1),(List.set (out.set (Int.toNat (w+i)) (aA .or .u32 (out.getD (Int.toNat (w+i)) 0) (IntKind.wrap .u32 (IntKind.wrap .u64 ((IntKind.wrap .u64 (Vt.getD i.toNat 0))*2 ^ (min s.toNat 64)))))) (Int.toNat ((w+i)+1)) (IntKind.wrap .u32 (Int.fdiv (IntKind.wrap .u64 ((IntKind.wrap .u64 (Vt.getD i.toNat 0))*2 ^ (min s.toNat 64))) (2 ^ 32))))))))))))))))) (e0 out))
def JE (N:Nat) (m:LI) (n:Int) (k0:Bool) (k1:Kz0):Bool:=
 (cond (((m.length:Nat):Int)==0) k0 (ah .i64 (IntKind.wrap .u64 (Int.tdiv n 32))&&(ah .i64 ((IntKind.wrap .u64 (Int.tdiv n 32))+((m.length:Nat):Int))&&(ah .i64 (((IntKind.wrap .u64 (Int.tdiv n 32))+((m.length:Nat):Int))+1)&&(jD 4 (((IntKind.wrap .u64 (Int.tdiv n 32))+((m.length:Nat):Int))+1) (((IntKind.wrap .u64 (Int.tdiv n 32))+((m.length:Nat):Int))+1)&&ai N (m9 N m (IntKind.wrap .u64 (Int.tdiv n 32)) (Int.tmod n 32) (λVE=>ox N VE (λmr=>k1 mr VE))) (0,(List.replicate (Int.toNat (((IntKind.wrap .u64 (Int.tdiv n 32))+((m.length:Nat):Int))+1)) (0:Int))))))))
def D3 (N:Nat):LI->Int->(Bool)->(Kz0)->Bool:=ax N (JE N)
def gQ (N u Wz d X2:Nat) (V9 WK:Int) (YZ:LI) (e0:Int->Int->LI->Bool):(Int × Int × Int × LI)->((Int × Int × Int × LI)->Bool)->Bool:=λv_ K=>match v_ with
 | (carry,borrow,i,WO)=>(cond (decide (i<((X2:Nat):Int))) (inR i X2&&(decide ((d+i.toNat)<YZ.length)&&(ah .i64 (V9+i)&&(inR (V9+i) Wz&&(decide ((u+(Int.toNat (V9+i)))<WO.length)&&cond (decide ((IntKind.wrap .u64 (WO.getD (u+(Int.toNat (V9+i))) 0))<(IntKind.wrap .u64 ((aA .and .u64 (IntKind.wrap .u64 ((IntKind.wrap .u64 (WK*(IntKind.wrap .u64 (YZ.getD (d+i.toNat) 0))))+carry)) 4294967295)+borrow)))) (ah .i64 (V9+i)&&(inR (V9+i) Wz&&(decide ((u+(Int.toNat (V9+i)))<WO.length)&&(ah .i64 (i+1)&&K ((Int.fdiv (IntKind.wrap .u64 ((IntKind.wrap .u64 (WK*(IntKind.wrap .u64 (YZ.getD (d+i.toNat) 0))))+carry)) (2 ^ 32)),1,(i+1),(WO.set (u+(Int.toNat (V9+i))) (IntKind.wrap .u32 (IntKind.wrap .u64 ((IntKind.wrap .u64 ((IntKind.wrap .u64 (WO.getD (u+(Int.toNat (V9+i))) 0))+4294967296)) - (IntKind.wrap .u64 ((aA .and .u64 (IntKind.wrap .u64 ((IntKind.wrap .u64 (WK*(IntKind.wrap .u64 (YZ.getD (d+i.toNat) 0))))+carry)) 4294967295)+borrow))))))))))) (ah .i64 (V9+i)&&(inR (V9+i) Wz&&(decide ((u+(Int.toNat (V9+i)))<WO.length)&&(ah .i64 (i+1)&&K ((Int.fdiv (IntKind.wrap .u64 ((IntKind.wrap .u64 (WK*(IntKind.wrap .u64 (YZ.getD (d+i.toNat) 0))))+carry)) (2 ^ 32)),0,(i+1),(WO.set (u+(Int.toNat (V9+i))) (IntKind.wrap .u32 (IntKind.wrap .u64 ((IntKind.wrap .u64 (WO.getD (u+(Int.toNat (V9+i))) 0)) - (IntKind.wrap .u64 ((aA .and .u64 (IntKind.wrap .u64 ((IntKind.wrap .u64 (WK*(IntKind.wrap .u64 (YZ.getD (d+i.toNat) 0))))+carry)) 4294967295)+borrow)))))))))))))))) (e0 carry borrow WO))
def J8 (N Wo Wb d_0 Wg:Nat) (j g:Int) (b Vo:LI) (k0:Ky5):Bool:=
 (ai N (gQ N Wo Wb d_0 Wg j g Vo (λVQ WV Yk=>ah .i64 (j+((Wg:Nat):Int))&&(inR (j+((Wg:Nat):Int)) Wb&&(decide ((Wo+(Int.toNat (j+((Wg:Nat):Int))))<Yk.length)&&(ah .i64 (j+((Wg:Nat):Int))&&(inR (j+((Wg:Nat):Int)) Wb&&(decide ((Wo+(Int.toNat (j+((Wg:Nat):Int))))<Yk.length)&&k0 (decide ((IntKind.wrap .u64 (Yk.getD (Wo+(Int.toNat (j+((Wg:Nat):Int)))) 0))<(IntKind.wrap .u64 (VQ+WV)))) (Yk.set (Wo+(Int.toNat (j+((Wg:Nat):Int)))) (IntKind.wrap .u32 (IntKind.wrap .u64 ((IntKind.wrap .u64 (Yk.getD (Wo+(Int.toNat (j+((Wg:Nat):Int)))) 0)) - (IntKind.wrap .u64 (VQ+WV))))))))))))) (0,0,0,b))
def Mx (N:Nat):Nat->Nat->Nat->Nat->Int->Int->LI->LI->(Ky5)->Bool:=ax N (J8 N)
def gR (N u Wz d X2:Nat) (V9:Int) (YZ:LI) (e0:Ky9):(Int × Int × LI)->((Int × Int × LI)->Bool)->Bool:=λv_ K=>match v_ with
 | (carry,i,WO)=>(cond (decide (i<((X2:Nat):Int))) (ah .i64 (V9+i)&&(inR (V9+i) Wz&&(decide ((u+(Int.toNat (V9+i)))<WO.length)&&(inR i X2&&(decide ((d+i.toNat)<YZ.length)&&(ah .i64 (V9+i)&&(inR (V9+i) Wz&&(decide ((u+(Int.toNat (V9+i)))<WO.length)&&(ah .i64 (i+1)&&K ((Int.fdiv (IntKind.wrap .u64 ((IntKind.wrap .u64 ((IntKind.wrap .u64 (WO.getD (u+(Int.toNat (V9+i))) 0))+(IntKind.wrap .u64 (YZ.getD (d+i.toNat) 0))))+carry)) (2 ^ 32)),(i+1),(WO.set (u+(Int.toNat (V9+i))) (IntKind.wrap .u32 (IntKind.wrap .u64 ((IntKind.wrap .u64 ((IntKind.wrap .u64 (WO.getD (u+(Int.toNat (V9+i))) 0))+(IntKind.wrap .u64 (YZ.getD (d+i.toNat) 0))))+carry)))))))))))))) (e0 carry WO))
def J9 (N Wo Wb d_0 Wg:Nat) (j:Int) (b Vo:LI) (k0:Kz7):Bool:=
 (ai N (gR N Wo Wb d_0 Wg j Vo (λVQ Yk=>ah .i64 (j+((Wg:Nat):Int))&&(inR (j+((Wg:Nat):Int)) Wb&&(decide ((Wo+(Int.toNat (j+((Wg:Nat):Int))))<Yk.length)&&(inR (j+((Wg:Nat):Int)) Wb&&(decide ((Wo+(Int.toNat (j+((Wg:Nat):Int))))<Yk.length)&&k0 (Yk.set (Wo+(Int.toNat (j+((Wg:Nat):Int)))) (IntKind.wrap .u32 ((Yk.getD (Wo+(Int.toNat (j+((Wg:Nat):Int)))) 0)+(IntKind.wrap .u32 VQ)))))))))) (0,0,b))
def My (N:Nat):Nat->Nat->Nat->Nat->Int->LI->LI->(Kz7)->Bool:=ax N (J9 N)
def uo (N m:Nat) (Wx:LI) (e0:Kz4):(Nat)->((Nat)->Bool)->Bool:=λv_ K=>match v_ with
 | VF=>(cond ((decide (((VF:Nat):Int)>0))==true) (ah .i64 (((VF:Nat):Int) - 1)&&(inR (((VF:Nat):Int) - 1) VF&&(decide ((m+(Int.toNat (((VF:Nat):Int) - 1)))<Wx.length)&&cond ((Wx.getD (m+(Int.toNat (((VF:Nat):Int) - 1))) 0)==0) (ah .i64 (((VF:Nat):Int) - 1)&&(decide (0<=(((VF:Nat):Int) - 1)/\(((VF:Nat):Int) - 1)<=((VF:Nat):Int))&&K ((Int.toNat (((VF:Nat):Int) - 1)) - 0))) (e0 VF)))) (e0 VF))
def qq (N VP Vt:Nat) (b:LI) (k0:Kz4):Bool:=
 (ai N (uo N VP b (λX3=>k0 X3)) Vt)
def rk (N:Nat):Nat->Nat->LI->(Kz4)->Bool:=ax N (qq N)
def iB (N m VF:Nat) (w s:Int) (Wx:LI) (e0:Kz7):(Int × LI)->((Int × LI)->Bool)->Bool:=λv_ K=>match v_ with
 | (i,out)=>(cond (decide (i<((out.length:Nat):Int))) (ah .i64 (w+i)&&(inR (w+i) VF&&(decide ((m+(Int.toNat (w+i)))<Wx.length)&&(ah .i64 (w+i)&&(ah .i64 ((w+i)+1)&&cond (decide (((w+i)+1)<((VF:Nat):Int))) (ah .i64 (w+i)&&(ah .i64 ((w+i)+1)&&(inR ((w+i)+1) VF&&(decide ((m+(Int.toNat ((w+i)+1)))<Wx.length)&&(decide (0<=s)&&(inR i out.length&&(decide (i.toNat<out.length)&&(ah .i64 (i+1)&&K ((i+1),(out.set i.toNat (IntKind.wrap .u32 (Int.fdiv (aA .or .u64 (IntKind.wrap .u64 (Wx.getD (m+(Int.toNat (w+i))) 0)) (IntKind.wrap .u64 ((IntKind.wrap .u64 (Wx.getD (m+(Int.toNat ((w+i)+1))) 0))*2 ^ 32))) (2 ^ (min s.toNat 64)))))))))))))) (decide (0<=s)&&(inR i out.length&&(decide (i.toNat<out.length)&&(ah .i64 (i+1)&&K ((i+1),(out.set i.toNat (IntKind.wrap .u32 (Int.fdiv (IntKind.wrap .u64 (Wx.getD (m+(Int.toNat (w+i))) 0)) (2 ^ (min s.toNat 64))))))))))))))) (e0 out))
def Kf (N VP Vt:Nat) (n:Int) (b:LI) (k0:Kz7):Bool:=
 (ah .i64 (IntKind.wrap .u64 (Int.tdiv n 32))&&cond (decide ((IntKind.wrap .u64 (Int.tdiv n 32))>=((Vt:Nat):Int))) (k0 []) (ah .i64 (((Vt:Nat):Int) - (IntKind.wrap .u64 (Int.tdiv n 32)))&&(jD 4 (((Vt:Nat):Int) - (IntKind.wrap .u64 (Int.tdiv n 32))) (((Vt:Nat):Int) - (IntKind.wrap .u64 (Int.tdiv n 32)))&&ai N (iB N VP Vt (IntKind.wrap .u64 (Int.tdiv n 32)) (Int.tmod n 32) b (λVE=>ox N VE (λmr=>decide ((0+mr)<=VE.length)&&k0 (List.take mr (List.drop 0 VE))))) (0,(List.replicate (Int.toNat (((Vt:Nat):Int) - (IntKind.wrap .u64 (Int.tdiv n 32)))) (0:Int))))))
def MB (N:Nat):Nat->Nat->Int->LI->(Kz7)->Bool:=ax N (Kf N)
def nR (N:Nat) (VL:LI) (s:Int) (e0:Kz0):(Nat × LI)->((Nat × LI)->Bool)->Bool:=λv_ K=>match v_ with
 | (u,Wb)=>(ah .i64 (((VL.length:Nat):Int)+1)&&cond (decide (((u:Nat):Int)<(((VL.length:Nat):Int)+1))) (decide ((0+u)<=Wb.length)&&(decide ((List.length ((List.take u (List.drop 0 Wb))++[0]))*4<=140737488355328)&&K ((List.length ((List.take u (List.drop 0 Wb))++[0])),((List.take u (List.drop 0 Wb))++[0])))) (e0 u Wb))
def rF (N:Nat) (WJ:LI) (VK:Int) (d:Nat) (Wg:LI) (e0:Kz0):(Nat × LI)->((Nat × LI)->Bool)->Bool:=λv_ K=>match v_ with
 | (YN,u_7)=>(ah .i64 (((WJ.length:Nat):Int)+1)&&cond (decide (((YN:Nat):Int)<(((WJ.length:Nat):Int)+1))) (decide ((0+YN)<=u_7.length)&&(decide ((List.length ((List.take YN (List.drop 0 u_7))++[0]))*4<=140737488355328)&&K ((List.length ((List.take YN (List.drop 0 u_7))++[0])),((List.take YN (List.drop 0 u_7))++[0])))) (e0 YN u_7))
def nQ (N:Nat) (Xb:Int) (d_6 X6:Nat) (Wc YL V9:Int) (d_7 Yi Zi:LI) (e0:Kz3):(Int × Int)->((Int × Int)->Bool)->Bool:=λv_ K=>match v_ with
 | (g,r)=>(cond ((decide (g>=4294967296))==false) (ah .i64 (Wc - 2)&&(inR (Wc - 2) d_6&&(decide ((0+(Int.toNat (Wc - 2)))<d_7.length)&&(ah .i64 (V9+Wc)&&(ah .i64 ((V9+Wc) - 2)&&(inR ((V9+Wc) - 2) X6&&(decide ((0+(Int.toNat ((V9+Wc) - 2)))<Yi.length)&&cond (decide ((IntKind.wrap .u64 (g*(IntKind.wrap .u64 (d_7.getD (0+(Int.toNat (Wc - 2))) 0))))>(aA .or .u64 (IntKind.wrap .u64 (r*2 ^ 32)) (IntKind.wrap .u64 (Yi.getD (0+(Int.toNat ((V9+Wc) - 2))) 0))))) (cond (decide ((IntKind.wrap .u64 (r+YL))>=4294967296)) (e0 (IntKind.wrap .u64 (g - 1))) (K ((IntKind.wrap .u64 (g - 1)),(IntKind.wrap .u64 (r+YL))))) (e0 g)))))))) (cond (decide ((IntKind.wrap .u64 (r+YL))>=4294967296)) (e0 (IntKind.wrap .u64 (g - 1))) (K ((IntKind.wrap .u64 (g - 1)),(IntKind.wrap .u64 (r+YL))))))
def i8 (N:Nat) (W7:Int) (d_4 W6:Nat) (n top:Int) (d_5:LI) (e0:Kz1):(Int × LI × LI)->((Int × LI × LI)->Bool)->Bool:=λv_ K=>match v_ with
 | (j,WS,q)=>(cond (decide (j>=0)) (ah .i64 (j+n)&&(inR (j+n) W6&&(decide ((0+(Int.toNat (j+n)))<WS.length)&&(ah .i64 (j+n)&&(ah .i64 ((j+n) - 1)&&(inR ((j+n) - 1) W6&&(decide ((0+(Int.toNat ((j+n) - 1)))<WS.length)&&((!decide (top=0))&&((!decide (top=0))&&ai N (nQ N W7 d_4 W6 n top j d_5 WS q (λWK=>Mx N 0 W6 0 d_4 j WK WS d_5 (λcr VA=>cond cr (My N 0 W6 0 d_4 j VA d_5 (λVz=>inR j q.length&&(decide (j.toNat<q.length)&&(ah .i64 (j - 1)&&K ((j - 1),Vz,(q.set j.toNat (IntKind.wrap .u32 (IntKind.wrap .u64 (WK - 1))))))))) (inR j q.length&&(decide (j.toNat<q.length)&&(ah .i64 (j - 1)&&K ((j - 1),VA,(q.set j.toNat (IntKind.wrap .u32 WK))))))))) ((IntKind.wrap .u64 (Int.tdiv (aA .or .u64 (IntKind.wrap .u64 ((IntKind.wrap .u64 (WS.getD (0+(Int.toNat (j+n))) 0))*2 ^ 32)) (IntKind.wrap .u64 (WS.getD (0+(Int.toNat ((j+n) - 1))) 0))) top)),(Int.tmod (aA .or .u64 (IntKind.wrap .u64 ((IntKind.wrap .u64 (WS.getD (0+(Int.toNat (j+n))) 0))*2 ^ 32)) (IntKind.wrap .u64 (WS.getD (0+(Int.toNat ((j+n) - 1))) 0))) top))))))))))) (e0 WS q))
def oO (N:Nat) (a b:LI) (VV:Int) (X2 W5:Nat) (YZ X5:LI) (k0:Kz1):Bool:=
 (ah .i64 (((W5:Nat):Int) - ((X2:Nat):Int))&&(jD 4 (((W5:Nat):Int) - ((X2:Nat):Int)) (((W5:Nat):Int) - ((X2:Nat):Int))&&(ah .i64 (((X2:Nat):Int) - 1)&&(inR (((X2:Nat):Int) - 1) X2&&(decide ((0+(Int.toNat (((X2:Nat):Int) - 1)))<YZ.length)&&(ah .i64 ((((List.length (List.replicate (Int.toNat (((W5:Nat):Int) - ((X2:Nat):Int))) (0:Int))):Nat):Int) - 1)&&ai N (i8 N VV X2 W5 ((X2:Nat):Int) (IntKind.wrap .u64 (YZ.getD (0+(Int.toNat (((X2:Nat):Int) - 1))) 0)) YZ (λXt q_2=>ox N q_2 (λaaC=>decide (0<=((X2:Nat):Int)/\((X2:Nat):Int)<=((W5:Nat):Int))&&rk N 0 ((Int.toNat ((X2:Nat):Int)) - 0) Xt (λac2=>MB N 0 ac2 VV Xt (λs6=>decide ((0+aaC)<=q_2.length)&&k0 (List.take aaC (List.drop 0 q_2)) s6))))) (((((List.length (List.replicate (Int.toNat (((W5:Nat):Int) - ((X2:Nat):Int))) (0:Int))):Nat):Int) - 1),X5,(List.replicate (Int.toNat (((W5:Nat):Int) - ((X2:Nat):Int))) (0:Int)))))))))
def ux (N:Nat) (a b:LI) (VS:Int) (YM:Nat) (Yh:LI) (k0:Kz1):Bool:=
 (ah .i64 (((YM:Nat):Int) - 0)&&(jD 4 (((YM:Nat):Int) - 0) (((YM:Nat):Int) - 0)&&false))
def Cq (N:Nat) (a b:LI) (k0:Kz1):Bool:=
 (w_ N a b (λnr=>cond (decide (nr<0)) (decide ((List.length ([]++a))*4<=140737488355328)&&k0 [] ([]++a)) (cond (((b.length:Nat):Int)==1) (inR 0 b.length&&nE N a (b.getD 0 0) (λnsr Vs=>ox N [Vs] (λmr=>decide ((0+mr)<=(List.length [Vs]))&&k0 nsr (List.take mr (List.drop 0 [Vs]))))) (ah .i64 (((b.length:Nat):Int) - 1)&&(inR (((b.length:Nat):Int) - 1) b.length&&Sp N (b.getD (Int.toNat (((b.length:Nat):Int) - 1)) 0) (λVy=>D3 N b (IntKind.wrap .u64 Vy) (D3 N a (IntKind.wrap .u64 Vy) (ai N (nR N a (IntKind.wrap .u64 Vy) (λWz WO=>ux N a b (IntKind.wrap .u64 Vy) Wz WO k0)) (0,[])) (λVG Vv=>ai N (nR N a (IntKind.wrap .u64 Vy) (λYk YR=>ux N a b (IntKind.wrap .u64 Vy) Yk YR k0)) (VG,Vv))) (λWi Vp=>D3 N a (IntKind.wrap .u64 Vy) (ai N (rF N a (IntKind.wrap .u64 Vy) Wi Vp (λZb Ze=>oO N a b (IntKind.wrap .u64 Vy) Wi Zb Vp Ze k0)) (0,[])) (λWW Vw=>ai N (rF N a (IntKind.wrap .u64 Vy) Wi Vp (λW4 Xd=>oO N a b (IntKind.wrap .u64 Vy) Wi W4 Vp Xd k0)) (WW,Vw)))))))))
def ow (N:Nat):LI->LI->(Kz1)->Bool:=ax N (Cq N)
def km (N:Nat) (WJ Vq:LI) (VM:Int) (e0:Ky9):(Int × Int × LI)->((Int × Int × LI)->Bool)->Bool:=λv_ K=>match v_ with
 | (carry,k_,VE)=>(cond (decide (k_<((Vq.length:Nat):Int))) (inR VM WJ.length&&(inR k_ Vq.length&&(ah .i64 (VM+k_)&&(inR (VM+k_) VE.length&&(decide ((Int.toNat (VM+k_))<VE.length)&&(ah .i64 (VM+k_)&&(inR (VM+k_) VE.length&&(decide ((Int.toNat (VM+k_))<VE.length)&&(ah .i64 (k_+1)&&K ((Int.fdiv (IntKind.wrap .u64 ((IntKind.wrap .u64 ((IntKind.wrap .u64 ((IntKind.wrap .u64 (WJ.getD VM.toNat 0))*(IntKind.wrap .u64 (Vq.getD k_.toNat 0))))+(IntKind.wrap .u64 (VE.getD (Int.toNat (VM+k_)) 0))))+carry)) (2 ^ 32)),(k_+1),(VE.set (Int.toNat (VM+k_)) (IntKind.wrap .u32 (IntKind.wrap .u64 ((IntKind.wrap .u64 ((IntKind.wrap .u64 ((IntKind.wrap .u64 (WJ.getD VM.toNat 0))*(IntKind.wrap .u64 (Vq.getD k_.toNat 0))))+(IntKind.wrap .u64 (VE.getD (Int.toNat (VM+k_)) 0))))+carry)))))))))))))) (e0 carry VE))
def kl (N:Nat) (VL Vo:LI) (e0:Kz7):(Int × LI)->((Int × LI)->Bool)->Bool:=λv_ K=>match v_ with
 | (i,out)=>(cond (decide (i<((VL.length:Nat):Int))) (ai N (km N VL Vo i (λVQ WX=>ah .i64 (i+((Vo.length:Nat):Int))&&(inR (i+((Vo.length:Nat):Int)) WX.length&&(decide ((Int.toNat (i+((Vo.length:Nat):Int)))<WX.length)&&(ah .i64 (i+1)&&K ((i+1),(WX.set (Int.toNat (i+((Vo.length:Nat):Int))) (IntKind.wrap .u32 VQ)))))))) (0,0,out)) (e0 out))
def JB (N:Nat) (a b:LI) (k0:Kz7):Bool:=
 (ah .i64 (((a.length:Nat):Int)+((b.length:Nat):Int))&&(jD 4 (((a.length:Nat):Int)+((b.length:Nat):Int)) (((a.length:Nat):Int)+((b.length:Nat):Int))&&ai N (kl N a b (λYv=>ox N Yv (λmr=>decide ((0+mr)<=Yv.length)&&k0 (List.take mr (List.drop 0 Yv))))) (0,(List.replicate (Int.toNat (((a.length:Nat):Int)+((b.length:Nat):Int))) (0:Int)))))
def qe (N:Nat):LI->LI->(Kz7)->Bool:=ax N (JB N)
def kh (N:Nat) (VL Vo:LI) (e0:Kz7):(Int × Int × LI)->((Int × Int × LI)->Bool)->Bool:=λv_ K=>match v_ with
 | (borrow,i,out)=>(cond (decide (i<((VL.length:Nat):Int))) (cond (decide (i<((Vo.length:Nat):Int))) (inR i Vo.length&&(inR i VL.length&&cond (decide ((IntKind.wrap .u64 (VL.getD i.toNat 0))<(IntKind.wrap .u64 (borrow+(IntKind.wrap .u64 (Vo.getD i.toNat 0)))))) (inR i out.length&&(decide (i.toNat<out.length)&&(ah .i64 (i+1)&&K (1,(i+1),(out.set i.toNat (IntKind.wrap .u32 (IntKind.wrap .u64 ((IntKind.wrap .u64 ((IntKind.wrap .u64 (VL.getD i.toNat 0))+4294967296)) - (IntKind.wrap .u64 (borrow+(IntKind.wrap .u64 (Vo.getD i.toNat 0)))))))))))) (inR i out.length&&(decide (i.toNat<out.length)&&(ah .i64 (i+1)&&K (0,(i+1),(out.set i.toNat (IntKind.wrap .u32 (IntKind.wrap .u64 ((IntKind.wrap .u64 (VL.getD i.toNat 0)) - (IntKind.wrap .u64 (borrow+(IntKind.wrap .u64 (Vo.getD i.toNat 0)))))))))))))) (inR i VL.length&&cond (decide ((IntKind.wrap .u64 (VL.getD i.toNat 0))<borrow)) (inR i out.length&&(decide (i.toNat<out.length)&&(ah .i64 (i+1)&&K (1,(i+1),(out.set i.toNat (IntKind.wrap .u32 (IntKind.wrap .u64 ((IntKind.wrap .u64 ((IntKind.wrap .u64 (VL.getD i.toNat 0))+4294967296)) - borrow)))))))) (inR i out.length&&(decide (i.toNat<out.length)&&(ah .i64 (i+1)&&K (0,(i+1),(out.set i.toNat (IntKind.wrap .u32 (IntKind.wrap .u64 ((IntKind.wrap .u64 (VL.getD i.toNat 0)) - borrow)))))))))) (e0 out))
def qr (N:Nat) (a b:LI) (k0:Kz7):Bool:=
 (jD 4 ((a.length:Nat):Int) ((a.length:Nat):Int)&&ai N (kh N a b (λVE=>ox N VE (λmr=>decide ((0+mr)<=VE.length)&&k0 (List.take mr (List.drop 0 VE))))) (0,0,(List.replicate (Int.toNat ((a.length:Nat):Int)) (0:Int))))
def lH (N:Nat):LI->LI->(Kz7)->Bool:=ax N (qr N)
def Kh (N:Nat) (a:LI) (u:Int) (b:LI) (v:Int) (k0:Kz7):Bool:=
 (Ba N u (λnsr=>qe N a nsr (λVp=>Ba N v (λVv=>qe N b Vv (λVw=>lH N Vp Vw (λVA=>k0 VA))))))
def Hr (N:Nat):LI->Int->LI->Int->(Kz7)->Bool:=ax N (Kh N)
def rM (N:Nat) (a:LI) (u:Int) (b:LI) (v:Int) (k0:Kz7):Bool:=
 (cond (decide (v<=0)) (ah .i64 (0 - v)&&Hr N a (IntKind.wrap .u64 u) b (IntKind.wrap .u64 (0 - v)) (λnsr=>k0 nsr)) (ah .i64 (0 - u)&&Hr N b (IntKind.wrap .u64 v) a (IntKind.wrap .u64 (0 - u)) (λVp=>k0 Vp)))
def mm (N:Nat):LI->Int->LI->Int->(Kz7)->Bool:=ax N (rM N)
def zH (N:Nat) (e0:Kz1):(LI × LI)->((LI × LI)->Bool)->Bool:=λv_ K=>match v_ with
 | (WJ,Vq)=>(cond (decide (((Vq.length:Nat):Int)>2)) (Jd N false WJ (λVs=>ah .i64 (Vs - 62)&&pD N WJ (Vs - 62) (λVy=>pD N Vq (Vs - 62) (λVR=>rm N Vy VR (λVX n5 n6 n7=>cond (n5==0) (ow N WJ Vq (λnsr Vp=>K (Vq,Vp))) (mm N WJ VX Vq n5 (λVv=>mm N WJ n6 Vq n7 (λVw=>K (Vv,Vw))))))))) (e0 WJ Vq))
def wj (N:Nat) (e0:Kz7):(LI × LI)->((LI × LI)->Bool)->Bool:=λv_ K=>match v_ with
 | (YT,Vx)=>(cond (decide (((Vx.length:Nat):Int)>0)) (ow N YT Vx (λVA Vz=>K (Vx,Vz))) (e0 YT))
def Gt (N:Nat) (a b VL Vo:LI) (k0:Kz7):Bool:=
 (ai N (zH N (λXx Vu=>ai N (wj N (λX7=>decide ((List.length ([]++X7))*4<=140737488355328)&&k0 ([]++X7))) (Xx,Vu))) (VL,Vo))
def Kc (N:Nat) (a b:LI) (k0:Kz7):Bool:=
 (w_ N a b (λnr=>cond (decide (nr<0)) (Gt N a b b a k0) (Gt N a b a b k0)))
def D_ (N:Nat):LI->LI->(Kz7)->Bool:=ax N (Kc N)
def HL (N:Nat) (neg:Bool) (a b:LI) (Vo Vq:Bool) (VL Vu:LI) (k0:Kx8):Bool:=
 (D9 N neg VL Vo Vq (λVH s12 s13=>Ec N false Vu VH s12 Vq s13 (λVU s14=>k0 VH s12 VU s14)))
def Kl (N:Nat) (neg:Bool) (a b:LI) (Vo Vq:Bool) (n:Int) (k0:Kx8):Bool:=
 (Ag N a n (λVA=>Ag N b n (λVz=>sQ0 N false Vz (λVy=>ah .i64 Vy&&Jd N false Vz (λVR=>ah .i64 (VR - 1)&&cond (Vy != (VR - 1)) (D_ N VA Vz (λs6=>qg N (λs7=>w_ N s6 s7 (λVX=>cond (VX != 0) (ow N VA s6 (λs8 s9=>ow N Vz s6 (λs10 s11=>HL N neg a b Vo Vq s8 s10 k0))) (HL N neg a b Vo Vq VA Vz k0))))) (HL N neg a b Vo Vq VA Vz k0))))))
def PJ (N:Nat) (neg:Bool) (a b:LI) (Vo Vq:Bool) (k0:Kx8):Bool:=
 (cond (((a.length:Nat):Int)==0) (D9 N false [] Vo Vq (λcr nsr Vp=>qg N (λVv=>Ec N false Vv cr nsr Vq Vp (λVr Vw=>k0 cr nsr Vr Vw)))) (sQ0 N false a (λnr=>sQ0 N false b (λVs=>cond (decide (Vs<nr)) (Kl N neg a b Vo Vq Vs k0) (Kl N neg a b Vo Vq nr k0)))))
def I9 (N:Nat):Bool->LI->LI->Bool->Bool->(Kx8)->Bool:=ax N (PJ N)
def SS (N:Nat) (b Vo Vq:Bool) (Vu:LI) (k0:Kx8):Bool:=
 (qg N (λnsr=>I9 N Vq Vu nsr b Vo (λcr Vp Vr Vv=>k0 cr Vp Vr Vv)))
def Om (N:Nat):Bool->Bool->Bool->LI->(Kx8)->Bool:=SS N
def iM (N:Nat) (n:Int) (b:Bool) (u:Int) (k0:Ky5):Bool:=
 (Ba N u (λnsr=>xc N (decide (n<0)) nsr b (λcr Vp=>k0 cr Vp)))
def JW (N:Nat) (n:Int) (b:Bool) (k0:Ky5):Bool:=
 (cond (decide (n<0)) (iM N n b (IntKind.wrap .u64 (0 - (IntKind.wrap .u64 n))) k0) (iM N n b (IntKind.wrap .u64 n) k0))
def Pl (N:Nat):Int->Bool->(Ky5)->Bool:=ax N (JW N)
def uv (N:Nat) (n:Int) (k0:Ky5):Bool:=
 (Pl N n false (λcr nsr=>k0 cr nsr))
def ma (N:Nat):Int->(Ky5)->Bool:=uv N
def SZ (N:Nat) (b Vo Vq:Bool) (Vu:LI) (Vx:Bool) (VC:LI) (k0:Kx8):Bool:=
 (I9 N (Vq != Vx) Vu VC b Vo (λcr nsr Vr Vp=>k0 cr nsr Vr Vp))
def Tt (N:Nat):Bool->Bool->Bool->LI->Bool->LI->(Kx8)->Bool:=SZ N
def Qh (N:Nat) (x:Int) (b:Bool) (Vo:LI) (k0:Kx8):Bool:=
 (cond (decide (x>=0)) (Sw N x 0 b Vo (Om N false false b Vo (λcr nsr Vr Vp=>k0 cr nsr Vr Vp)) (λVH Vv=>Om N false false VH Vv (λVU Vw Wt VA=>k0 VU Vw Wt VA))) (ma N 1 (λX4 Vz=>ah .i64 (0 - x)&&Hj N (IntKind.wrap .u64 (0 - x)) false X4 Vz (λYt s6=>Tt N false false b Vo Yt s6 (λYu s7 c8 s8=>k0 Yu s7 c8 s8)))))
def Tx (N:Nat):Int->Bool->LI->(Kx8)->Bool:=ax N (Qh N)
def wt (N:Nat) (x:Fl) (k0:Kx8):Bool:=
 (zB N x (λnr cr nsr=>Tx N nr cr nsr (λVr Vp VH Vv=>k0 Vr Vp VH Vv)))
def rv (N:Nat):Fl->(Kx8)->Bool:=wt N
def ko (N:Nat) (Xg:LF) (Wu YC YD XK Yg:Int) (e0:List RY1->Bool):(Int × List RY1)->((Int × List RY1)->Bool)->Bool:=λv_ K=>match v_ with
 | (Zl,b2)=>(cond (decide (Zl<Wu)) (inR Zl Xg.length&&rv N (Xg.getD Zl.toNat none) (λVH Vv VU Vw=>decide ((List.length b2+1)*8<=140737488355328)&&(ah .i64 (Zl+1)&&K ((Zl+1),(b2++[((VH,Vv),(VU,Vw))]))))) (e0 b2))
def qw (N:Nat) (VP Vt:Int) (VF:LF) (k0:List RY1->Bool):Bool:=
 (ai N (ko N VF ((VF.length:Nat):Int) 0 0 VP Vt (λ(V8:List RY1)=>k0 V8)) (0,[]))
def ru (N:Nat):Int->Int->LF->(List RY1->Bool)->Bool:=ax N (qw N)
def ww (N:Nat) (VP Vt:Int) (VF:LF) (k0:List RY1->Bool):Bool:=
 (ru N VP Vt VF (λ(lr:List RY1)=>k0 lr))
def xf (N:Nat):Int->Int->LF->(List RY1->Bool)->Bool:=ww N
def je (N:Nat) (Y8 Y5 YE YF VF Wx:Int) (e0:List RY1->Bool):(Int × List RY1)->((Int × List RY1)->Bool)->Bool:=λv_ K=>match v_ with
 | (VM,b2)=>(ah .i64 (Y8*Y5)&&cond (decide (VM<(Y8*Y5))) (decide ((List.length b2+1)*8<=140737488355328)&&(ah .i64 (VM+1)&&K ((VM+1),(b2++[((false,[]),(false,[]))])))) (e0 b2))
def oJ (N:Nat) (rows cols:Int) (k0:List RY1->Bool):Bool:=
 (ai N (je N rows cols 0 0 rows cols (λ(V8:List RY1)=>k0 V8)) (0,[]))
def pG (N:Nat):Int->Int->(List RY1->Bool)->Bool:=ax N (oJ N)
def JR (N:Nat) (r_0:Bool) (Wy:LI) (XK:Bool) (Yg:LI) (k0:Kz7):Bool:=
 (cond (((Yg.length:Nat):Int)==0) (qg N (λnsr=>k0 nsr)) (k0 Yg))
def Mo (N:Nat):Bool->LI->Bool->LI->(Kz7)->Bool:=ax N (JR N)
def pT (N:Nat) (neg b:Bool) (Vo:LI) (Vq:Bool) (Vu Vx:LI) (k0:Ky1):Bool:=
 (ox N Vx (λmr=>cond (neg==true) (k0 (decide (((mr:Nat):Int)>0)) 0 mr) (k0 false 0 mr)))
def qi (N:Nat):Bool->Bool->LI->Bool->LI->LI->(Ky1)->Bool:=pT N
def OX (N:Nat) (neg b:Bool) (Vo Vq:Nat) (Vu:Bool) (Vx VC VJ:LI) (k0:Ky1):Bool:=
 (ox N VC (λmr=>cond (neg==true) (k0 (decide (((mr:Nat):Int)>0)) 0 mr) (k0 false 0 mr)))
def Pp (N:Nat):Bool->Bool->Nat->Nat->Bool->LI->LI->LI->(Ky1)->Bool:=OX N
def Jx (N:Nat) (V6:Bool) (VD:LI) (V0:Bool) (V7:LI) (b:Bool) (Vo:LI) (Vq:Bool) (Vu:LI) (k0:Kx8):Bool:=
 (decide ((List.length ([]++VD))*4<=140737488355328)&&Mo N V6 VD V0 V7 (λnsr=>decide ((List.length ([]++nsr))*4<=140737488355328)&&qi N V6 b Vo Vq Vu ([]++VD) (λcr mr Wi=>Pp N false cr mr Wi Vq Vu ([]++nsr) ([]++VD) (λVr VG WW=>decide ((mr+Wi)<=(List.length ([]++VD)))&&(decide ((VG+WW)<=(List.length ([]++nsr)))&&k0 cr (List.take Wi (List.drop mr ([]++VD))) Vr (List.take WW (List.drop VG ([]++nsr))))))))
def Mk (N:Nat):Bool->LI->Bool->LI->Bool->LI->Bool->LI->(Kx8)->Bool:=ax N (Jx N)
def Cj (N:Nat) (t12 m Wx:Int) (X3:List RY2) (t2 XC t Wn:Int) (e0:List RY1->Bool):(Int × List RY1)->((Int × List RY1)->Bool)->Bool:=λv_ K=>match v_ with
 | (t13,b3)=>(cond (decide (t13<t12)) (inR t13 b3.length&&(decide (t13.toNat<b3.length)&&(inR t13 X3.length&&Mk N (X3.getD t13.toNat ((false,[]),(false,[]))).1.1 (X3.getD t13.toNat ((false,[]),(false,[]))).1.2 (X3.getD t13.toNat ((false,[]),(false,[]))).2.1 (X3.getD t13.toNat ((false,[]),(false,[]))).2.2 (b3.getD t13.toNat ((false,[]),(false,[]))).1.1 (b3.getD t13.toNat ((false,[]),(false,[]))).1.2 (b3.getD t13.toNat ((false,[]),(false,[]))).2.1 (b3.getD t13.toNat ((false,[]),(false,[]))).2.2 (λcr nsr Vr Vp=>ah .i64 (t13+1)&&K ((t13+1),(b3.set t13.toNat ((cr,nsr),(Vr,Vp)))))))) (e0 b3))
def Jw (N:Nat) (VP Vt:Int) (VF:List RY2) (k0:List RY1->Bool):Bool:=
 (pG N VP Vt (λ(lr:List RY1)=>ai N (Cj N ((VF.length:Nat):Int) VP Vt VF 0 0 VP Vt (λ(b2:List RY1)=>k0 b2)) (0,lr)))
def Mj (N:Nat):Int->Int->List RY2->(List RY1->Bool)->Bool:=ax N (Jw N)
def SX (N:Nat) (VP Vt i j:Int) (b:List RY1) (k0:Kz4):Bool:=
 (ah .i64 (i*Vt)&&(ah .i64 ((i*Vt)+j)&&(inR ((i*Vt)+j) b.length&&(decide ((Int.toNat ((i*Vt)+j))<b.length)&&k0 (Int.toNat ((i*Vt)+j))))))
def Eb (N:Nat):Int->Int->Int->Int->List RY1->(Kz4)->Bool:=SX N
def vv (N:Nat) (ZP:Bool) (VY:LI) (z_2:Bool) (z_3:LI) (k0:Kz3):Bool:=
 (cond (((VY.length:Nat):Int)==0) (k0 0) (cond ZP (k0 (-1)) (k0 1)))
def Bb (N:Nat):Bool->LI->Bool->LI->(Kz3)->Bool:=ax N (vv N)
def OT (N:Nat) (r_0:Bool) (Wy:LI) (XK:Bool) (Yg:LI) (k0:Kz3):Bool:=
 (Bb N r_0 Wy XK Yg (λnr=>k0 nr))
def D8 (N:Nat):Bool->LI->Bool->LI->(Kz3)->Bool:=OT N
def GQ5 (N:Nat) (b:Bool) (Vo:LI) (Vq:Bool) (Vu:LI) (k0:Kz7):Bool:=
 (cond (((Vu.length:Nat):Int)==0) (qg N (λnsr=>k0 nsr)) (k0 Vu))
def sQ5 (N:Nat):Bool->LI->Bool->LI->(Kz7)->Bool:=ax N (GQ5 N)
def PG (N:Nat) (b Vo Vq:Bool) (Vu:LI) (Vx:Bool) (VC:LI) (VJ:Bool) (VN:LI) (VT:Bool) (VZ:LI) (k0:Kx8):Bool:=
 (sQ5 N VJ VN VT VZ (λnsr=>qe N Vu nsr (λVp=>sQ5 N Vq Vu Vx VC (λVv=>qe N Vv VN (λVw=>I9 N (Vq != VJ) Vp Vw b Vo (λcr VA Vr Vz=>k0 cr VA Vr Vz))))))
def Si (N:Nat):Bool->Bool->Bool->LI->Bool->LI->Bool->LI->Bool->LI->(Kx8)->Bool:=ax N (PG N)
def PF (N:Nat) (b Vo Vq:Bool) (Vu:LI) (Vx:Bool) (VC:LI) (VJ:Bool) (VN:LI) (VT:Bool) (VZ:LI) (k0:Kx8):Bool:=
 (qe N Vu VN (λnsr=>sQ5 N Vq Vu Vx VC (λVp=>sQ5 N VJ VN VT VZ (λVv=>qe N Vp Vv (λVw=>I9 N (Vq != VJ) nsr Vw b Vo (λcr VA Vr Vz=>k0 cr VA Vr Vz))))))
def Sg (N:Nat):Bool->Bool->Bool->LI->Bool->LI->Bool->LI->Bool->LI->(Kx8)->Bool:=ax N (PF N)
def Qg (N:Nat) (b:Bool) (Vo:LI) (Vq:Bool) (Vu:LI) (Vx:Bool) (VC:LI) (VJ:Bool) (VN:LI) (k0:Kz1):Bool:=
 (sQ5 N Vx VC VJ VN (λnsr=>qe N Vo nsr (λVp=>sQ5 N b Vo Vq Vu (λVv=>qe N VC Vv (λVw=>k0 Vp Vw)))))
def Tw (N:Nat):Bool->LI->Bool->LI->Bool->LI->Bool->LI->(Kz1)->Bool:=ax N (Qg N)
def gp (N:Nat) (VL Vo:LI) (e0:Ky9):(Int × Int × LI)->((Int × Int × LI)->Bool)->Bool:=λv_ K=>match v_ with
 | (carry,i,out)=>(cond (decide (i<((VL.length:Nat):Int))) (inR i VL.length&&cond (decide (i<((Vo.length:Nat):Int))) (inR i Vo.length&&(inR i out.length&&(decide (i.toNat<out.length)&&(ah .i64 (i+1)&&K ((Int.fdiv (IntKind.wrap .u64 ((IntKind.wrap .u64 ((IntKind.wrap .u64 (VL.getD i.toNat 0))+carry))+(IntKind.wrap .u64 (Vo.getD i.toNat 0)))) (2 ^ 32)),(i+1),(out.set i.toNat (IntKind.wrap .u32 (IntKind.wrap .u64 ((IntKind.wrap .u64 ((IntKind.wrap .u64 (VL.getD i.toNat 0))+carry))+(IntKind.wrap .u64 (Vo.getD i.toNat 0))))))))))) (inR i out.length&&(decide (i.toNat<out.length)&&(ah .i64 (i+1)&&K ((Int.fdiv (IntKind.wrap .u64 ((IntKind.wrap .u64 (VL.getD i.toNat 0))+carry)) (2 ^ 32)),(i+1),(out.set i.toNat (IntKind.wrap .u32 (IntKind.wrap .u64 ((IntKind.wrap .u64 (VL.getD i.toNat 0))+carry))))))))) (e0 carry out))
def tA (N:Nat) (a b:LI) (k0:Kz7):Bool:=
 (cond (decide (((a.length:Nat):Int)<((b.length:Nat):Int))) (ah .i64 (((b.length:Nat):Int)+1)&&(jD 4 (((b.length:Nat):Int)+1) (((b.length:Nat):Int)+1)&&ai N (gp N b a (λVQ VE=>inR ((b.length:Nat):Int) VE.length&&(decide ((Int.toNat ((b.length:Nat):Int))<VE.length)&&ox N (VE.set (Int.toNat ((b.length:Nat):Int)) (IntKind.wrap .u32 VQ)) (λmr=>decide ((0+mr)<=(List.length (VE.set (Int.toNat ((b.length:Nat):Int)) (IntKind.wrap .u32 VQ))))&&k0 (List.take mr (List.drop 0 (VE.set (Int.toNat ((b.length:Nat):Int)) (IntKind.wrap .u32 VQ)))))))) (0,0,(List.replicate (Int.toNat (((b.length:Nat):Int)+1)) (0:Int))))) (ah .i64 (((a.length:Nat):Int)+1)&&(jD 4 (((a.length:Nat):Int)+1) (((a.length:Nat):Int)+1)&&ai N (gp N a b (λWB WX=>inR ((a.length:Nat):Int) WX.length&&(decide ((Int.toNat ((a.length:Nat):Int))<WX.length)&&ox N (WX.set (Int.toNat ((a.length:Nat):Int)) (IntKind.wrap .u32 WB)) (λWi=>decide ((0+Wi)<=(List.length (WX.set (Int.toNat ((a.length:Nat):Int)) (IntKind.wrap .u32 WB))))&&k0 (List.take Wi (List.drop 0 (WX.set (Int.toNat ((a.length:Nat):Int)) (IntKind.wrap .u32 WB)))))))) (0,0,(List.replicate (Int.toNat (((a.length:Nat):Int)+1)) (0:Int))))))
def ue (N:Nat):LI->LI->(Kz7)->Bool:=ax N (tA N)
def Jz (N:Nat) (turn b Vo:Bool) (Vq:LI) (Vu:Bool) (Vx:LI) (k0:Ky5):Bool:=
 (cond (Vo==(Vu != turn)) (ue N Vq Vx (λnsr=>xc N (Vu != turn) nsr b (λcr Vp=>k0 cr Vp))) (w_ N Vq Vx (λnr=>cond (decide (nr>=0)) (lH N Vq Vx (λVv=>xc N Vo Vv b (λVr Vw=>k0 Vr Vw))) (lH N Vx Vq (λVA=>xc N (Vu != turn) VA b (λVH Vz=>k0 VH Vz))))))
def Ml (N:Nat):Bool->Bool->Bool->LI->Bool->LI->(Ky5)->Bool:=ax N (Jz N)
def OO (N:Nat) (b Vo:Bool) (Vq:LI) (Vu:Bool) (Vx:LI) (k0:Ky5):Bool:=
 (Ml N true b Vo Vq Vu Vx (λcr nsr=>k0 cr nsr))
def Mm (N:Nat):Bool->Bool->LI->Bool->LI->(Ky5)->Bool:=OO N
def JG (N:Nat) (neg:Bool) (m:LI) (b:Bool) (Vo:LI) (Vq:Bool) (Vu:LI) (k0:Ky5):Bool:=
 (kL N m (λnsr=>cond (neg==true) (k0 (decide (((nsr.length:Nat):Int)>0)) nsr) (k0 false nsr)))
def D5 (N:Nat):Bool->LI->Bool->LI->Bool->LI->(Ky5)->Bool:=JG N
def HM (N:Nat) (neg:Bool) (a b:LI) (Vo:Bool) (Vq:LI) (Vu:Bool) (Vx VL VC:LI) (k0:Kx8):Bool:=
 (D5 N neg VL Vo Vq Vu Vx (λVH s11=>Ec N false VC VH s11 Vu Vx (λVU s12=>k0 VH s11 VU s12)))
def Km (N:Nat) (neg:Bool) (a b:LI) (Vo:Bool) (Vq:LI) (Vu:Bool) (Vx:LI) (n:Int) (k0:Kx8):Bool:=
 (Ag N a n (λVw=>Ag N b n (λVA=>sQ0 N false VA (λVy=>ah .i64 Vy&&Jd N false VA (λVR=>ah .i64 (VR - 1)&&cond (Vy != (VR - 1)) (D_ N Vw VA (λVz=>qg N (λs6=>w_ N Vz s6 (λVX=>cond (VX != 0) (ow N Vw Vz (λs7 s8=>ow N VA Vz (λs9 s10=>HM N neg a b Vo Vq Vu Vx s7 s9 k0))) (HM N neg a b Vo Vq Vu Vx Vw VA k0))))) (HM N neg a b Vo Vq Vu Vx Vw VA k0))))))
def P_ (N:Nat) (neg:Bool) (a b:LI) (Vo:Bool) (Vq:LI) (Vu:Bool) (Vx:LI) (k0:Kx8):Bool:=
 (cond (((a.length:Nat):Int)==0) (D5 N false [] Vo Vq Vu Vx (λcr nsr=>qg N (λVp=>Ec N false Vp cr nsr Vu Vx (λVr Vv=>k0 cr nsr Vr Vv)))) (sQ0 N false a (λnr=>sQ0 N false b (λVs=>cond (decide (Vs<nr)) (Km N neg a b Vo Vq Vu Vx Vs k0) (Km N neg a b Vo Vq Vu Vx nr k0)))))
def Sx (N:Nat):Bool->LI->LI->Bool->LI->Bool->LI->(Kx8)->Bool:=ax N (P_ N)
def PL (N:Nat) (b:Bool) (Vo:LI) (Vq:Bool) (Vu:LI) (Vx:Bool) (VC:LI) (VJ:Bool) (VN:LI) (k0:Kx8):Bool:=
 (Tw N b Vo Vq Vu Vx VC VJ VN (λnsr Vp=>sQ5 N b Vo Vq Vu (λVv=>sQ5 N Vx VC VJ VN (λVw=>qe N Vv Vw (λVA=>Mm N false b nsr Vx Vp (λcr Vz=>Sx N cr Vz VA b Vo Vq Vu (λVr s6 VH s7=>k0 Vr s6 VH s7)))))))
def Sj (N:Nat):Bool->LI->Bool->LI->Bool->LI->Bool->LI->(Kx8)->Bool:=ax N (PL N)
def Cd (N:Nat) (VM WL:Int) (r:Bool) (Wy:LI) (XK:Bool) (Yg:LI) (m VF:Int) (e0:List RY1->Bool):(Int × List RY1)->((Int × List RY1)->Bool)->Bool:=λv_ K=>match v_ with
 | (j,b0)=>(cond (decide (j<VF)) (Eb N m VF VM j b0 (λmr=>Eb N m VF VM j b0 (λWi=>Eb N m VF WL j b0 (λVG=>Sg N false false r Wy XK Yg (b0.getD VG ((false,[]),(false,[]))).1.1 (b0.getD VG ((false,[]),(false,[]))).1.2 (b0.getD VG ((false,[]),(false,[]))).2.1 (b0.getD VG ((false,[]),(false,[]))).2.2 (λcr nsr Vr Vp=>decide (Wi=mr)&&Sj N (List.getD (b0.set VG (((b0.getD VG ((false,[]),(false,[]))).1.1,(b0.getD VG ((false,[]),(false,[]))).1.2),((b0.getD VG ((false,[]),(false,[]))).2.1,(b0.getD VG ((false,[]),(false,[]))).2.2))) mr ((false,[]),(false,[]))).1.1 (List.getD (b0.set VG (((b0.getD VG ((false,[]),(false,[]))).1.1,(b0.getD VG ((false,[]),(false,[]))).1.2),((b0.getD VG ((false,[]),(false,[]))).2.1,(b0.getD VG ((false,[]),(false,[]))).2.2))) mr ((false,[]),(false,[]))).1.2 (List.getD (b0.set VG (((b0.getD VG ((false,[]),(false,[]))).1.1,(b0.getD VG ((false,[]),(false,[]))).1.2),((b0.getD VG ((false,[]),(false,[]))).2.1,(b0.getD VG ((false,[]),(false,[]))).2.2))) mr ((false,[]),(false,[]))).2.1 (List.getD (b0.set VG (((b0.getD VG ((false,[]),(false,[]))).1.1,(b0.getD VG ((false,[]),(false,[]))).1.2),((b0.getD VG ((false,[]),(false,[]))).2.1,(b0.getD VG ((false,[]),(false,[]))).2.2))) mr ((false,[]),(false,[]))).2.2 cr nsr Vr Vp (λVH Vv VU Vw=>ah .i64 (j+1)&&K ((j+1),(List.set (b0.set VG (((b0.getD VG ((false,[]),(false,[]))).1.1,(b0.getD VG ((false,[]),(false,[]))).1.2),((b0.getD VG ((false,[]),(false,[]))).2.1,(b0.getD VG ((false,[]),(false,[]))).2.2))) mr ((VH,Vv),(VU,Vw)))))))))) (e0 b0))
def PT (N:Nat) (VP Vt i k_:Int) (b:List RY1) (Vo:Bool) (Vq:LI) (Vu:Bool) (Vx:LI) (k0:List RY1->Bool):Bool:=
 (ai N (Cd N i k_ Vo Vq Vu Vx VP Vt (λ(V1:List RY1)=>k0 V1)) (0,b))
def Sn (N:Nat):Int->Int->Int->Int->List RY1->Bool->LI->Bool->LI->(List RY1->Bool)->Bool:=ax N (PT N)
def ui (N:Nat) (c_1 WJ Xx:Int) (Wq:List RY1) (e0:Kz3) (e1:Bool):(Int)->((Int)->Bool)->Bool:=λv_ K=>match v_ with
 | j=>(cond (decide (j<Xx)) (Eb N WJ Xx c_1 j Wq (λWi=>D8 N (Wq.getD Wi ((false,[]),(false,[]))).1.1 (Wq.getD Wi ((false,[]),(false,[]))).1.2 (Wq.getD Wi ((false,[]),(false,[]))).2.1 (Wq.getD Wi ((false,[]),(false,[]))).2.2 (λVy=>cond (Vy != 0) (e0 1) (ah .i64 (j+1)&&K (j+1))))) e1)
def zJ (N:Nat) (ZA c_2:Int) (d:Nat) (YT X7:Int) (e0:List RY1->Bool):(Int × List RY1)->((Int × List RY1)->Bool)->Bool:=λv_ K=>match v_ with
 | (i,Wg)=>(cond (decide (i<YT)) (Eb N YT X7 i c_2 Wg (λVG=>((!decide (d=VG))&&true)&&Si N false false (Wg.getD VG ((false,[]),(false,[]))).1.1 (Wg.getD VG ((false,[]),(false,[]))).1.2 (Wg.getD VG ((false,[]),(false,[]))).2.1 (Wg.getD VG ((false,[]),(false,[]))).2.2 (Wg.getD d ((false,[]),(false,[]))).1.1 (Wg.getD d ((false,[]),(false,[]))).1.2 (Wg.getD d ((false,[]),(false,[]))).2.1 (Wg.getD d ((false,[]),(false,[]))).2.2 (λcr nsr Vr Vp=>Sn N YT X7 i c_2 (List.set (Wg.set d (((Wg.getD d ((false,[]),(false,[]))).1.1,(Wg.getD d ((false,[]),(false,[]))).1.2),((Wg.getD d ((false,[]),(false,[]))).2.1,(Wg.getD d ((false,[]),(false,[]))).2.2))) VG (((Wg.getD VG ((false,[]),(false,[]))).1.1,(Wg.getD VG ((false,[]),(false,[]))).1.2),((Wg.getD VG ((false,[]),(false,[]))).2.1,(Wg.getD VG ((false,[]),(false,[]))).2.2))) cr nsr Vr Vp (λ(aam:List RY1)=>ah .i64 (i+1)&&K ((i+1),aam))))) (e0 Wg))
def uh (N:Nat) (a VL:Int) (e0:Kz3) (e1:Kz3):(Int × Int × List RY1)->((Int × Int × List RY1)->Bool)->Bool:=λv_ K=>match v_ with
 | (sign,c,b1)=>(cond (decide (c<a)) (Eb N a VL c c b1 (λmr=>D8 N (b1.getD mr ((false,[]),(false,[]))).1.1 (b1.getD mr ((false,[]),(false,[]))).1.2 (b1.getD mr ((false,[]),(false,[]))).2.1 (b1.getD mr ((false,[]),(false,[]))).2.2 (λnr=>cond (decide (nr<0)) (e0 1) (D8 N (b1.getD mr ((false,[]),(false,[]))).1.1 (b1.getD mr ((false,[]),(false,[]))).1.2 (b1.getD mr ((false,[]),(false,[]))).2.1 (b1.getD mr ((false,[]),(false,[]))).2.2 (λVs=>cond (Vs==0) (ah .i64 (c+1)&&ai N (ui N c a VL b1 (λt2=>e0 t2) (ah .i64 (c+1)&&K (2,(c+1),b1))) (c+1)) (ah .i64 (c+1)&&ai N (zJ N sign c mr a VL (λ(WE:List RY1)=>ah .i64 (c+1)&&K (sign,(c+1),WE))) ((c+1),b1))))))) (e1 sign))
def J3 (N:Nat) (VP Vt:Int) (VF:List RY2) (k0:Kz3):Bool:=
 (Mj N VP Vt VF (λ(lr:List RY1)=>ai N (uh N VP Vt (λXC=>k0 XC) (λabK=>k0 abK)) (3,0,lr)))
def Pm (N:Nat):Int->Int->List RY2->(Kz3)->Bool:=ax N (J3 N)
def OV (N:Nat) (VP Vt:Int) (VF:LF) (k0:Kz2):Bool:=
 (xf N VP Vt VF (λ(lr:List RY1)=>Pm N VP Vt lr (λnr=>k0 (nr==3))))
def Ho (N:Nat):Int->Int->LF->(Kz2)->Bool:=OV N
def qy (N:Nat) (Wd:LF) (VK VS:Int) (VV:LF) (k0:Kz3):Bool:=
 (xg N Wd VK VS VV (λnr=>cond (nr != 0) (k0 nr) (Ho N VK VS VV (λcr=>cond (!cr) (k0 151) (k0 0)))))
def lJ (N:Nat):LF->Int->Int->LF->(Kz3)->Bool:=ax N (qy N)
def J4 (N:Nat) (n WH WC:Int) (ZP VY:Nat) (b Vo Vq:LF) (k0:Kz3):Bool:=
 (kN N WH WC b (λnr=>cond (nr != 0) (k0 nr) (cond ((WC != n)==false) (cond ((((Vo.length:Nat):Int) != WH)==false) (cond (((VY:Nat):Int) != WH) (k0 3) (k0 0)) (k0 3)) (k0 3))))
def Pn (N:Nat):Int->Int->Int->Nat->Nat->LF->LF->LF->(Kz3)->Bool:=ax N (J4 N)
def Gq (N:Nat) (VP Vt i:Int) (b:LF) (k0:Ky6):Bool:=
 (ah .i64 (i*Vt)&&(ah .i64 (i+1)&&(ah .i64 ((i+1)*Vt)&&(decide (0<=(i*Vt)/\(i*Vt)<=((i+1)*Vt)/\((i+1)*Vt)<=((b.length:Nat):Int))&&k0 (Int.toNat (i*Vt)) ((Int.toNat ((i+1)*Vt)) - (Int.toNat (i*Vt)))))))
def xb (N:Nat):Int->Int->Int->LF->(Ky6)->Bool:=ax N (Gq N)
def vu (N:Nat) (n:Int) (h:LF) (r:Fl) (k0:Kz3):Bool:=
 (cond (((h.length:Nat):Int) != n) (k0 3) (D4 N h (λcr=>cond ((!cr)==false) (A_ N r (λVr=>cond (!Vr) (k0 4) (cond (!(fgt r (some 0))) (k0 152) (k0 0)))) (k0 4))))
def v8 (N:Nat):Int->LF->Fl->(Kz3)->Bool:=ax N (vu N)
def vt (N:Nat) (VP Vt:Int) (VF:LF) (i:Int) (k0:Kz6):Bool:=
 (ah .i64 (i*Vt)&&(ah .i64 (i+1)&&(ah .i64 ((i+1)*Vt)&&(decide (0<=(i*Vt)/\(i*Vt)<=((i+1)*Vt)/\((i+1)*Vt)<=((VF.length:Nat):Int))&&k0 (List.drop (Int.toNat (i*Vt)) (List.take (Int.toNat ((i+1)*Vt)) VF))))))
def sK (N:Nat):Int->Int->LF->Int->(Kz6)->Bool:=ax N (vt N)
def PP (N:Nat) (x:Fl) (b:Bool) (k0:Kz2):Bool:=
 (cond (b==false) (A_ N x (λcr=>k0 (!cr))) (k0 true))
def jE (N:Nat):Fl->Bool->(Kz2)->Bool:=ax N (PP N)
def kp (N:Nat) (VL Vq:LF) (t10:Int) (e0:Ky7):(Fl × Int × Bool)->((Fl × Int × Bool)->Bool)->Bool:=λv_ K=>match v_ with
 | (t,t11,s)=>(cond (decide (t11<t10)) (inR t11 VL.length&&(inR t11 Vq.length&&jE N (bd (VL.getD t11.toNat none) (Vq.getD t11.toNat none)) s (λcr=>jE N (dZ t (bd (VL.getD t11.toNat none) (Vq.getD t11.toNat none))) cr (λVr=>ah .i64 (t11+1)&&K ((dZ t (bd (VL.getD t11.toNat none) (Vq.getD t11.toNat none))),(t11+1),Vr))))) (e0 t s))
def qB (N:Nat) (a b:LF) (Vo:Bool) (k0:Ky7):Bool:=
 (ai N (kp N a b ((a.length:Nat):Int) (λWn b0=>k0 Wn b0)) ((some 0),0,Vo))
def nG (N:Nat):LF->LF->Bool->(Ky7)->Bool:=ax N (qB N)
def iC (N:Nat) (VL:LF) (t10:Int) (Vq:LF) (e0:Ky7):(Fl × Int × Bool)->((Fl × Int × Bool)->Bool)->Bool:=λv_ K=>match v_ with
 | (t,t11,s)=>(cond (decide (t11<t10)) (inR t11 VL.length&&(inR t11 Vq.length&&(decide (t11.toNat<Vq.length)&&jE N (bd (VL.getD t11.toNat none) (Vq.getD t11.toNat none)) s (λcr=>jE N (dZ t (bd (VL.getD t11.toNat none) (Vq.getD t11.toNat none))) cr (λVr=>ah .i64 (t11+1)&&K ((dZ t (bd (VL.getD t11.toNat none) (Vq.getD t11.toNat none))),(t11+1),Vr)))))) (e0 t s))
def Kb (N:Nat) (a:LF) (b:Bool) (Vo:LF) (k0:Ky7):Bool:=
 (ai N (iC N a ((a.length:Nat):Int) Vo (λWn b0=>k0 Wn b0)) ((some 0),0,b))
def Hp (N:Nat):LF->Bool->LF->(Ky7)->Bool:=ax N (Kb N)
def Cl (N:Nat) (YW:LF) (XK:Fl) (Xr:Int) (ZN:LF) (t_8 t_9:Int) (X1:LF) (e0:Ky8):(Int × Bool × LF)->((Int × Bool × LF)->Bool)->Bool:=λv_ K=>match v_ with
 | (Xh,VK,v)=>(cond (decide (Xh<Xr)) (sK N t_8 t_9 X1 Xh (λVO=>nG N VO YW VK (λVW Vr=>decide ((List.length (v++[VW]))*8<=140737488355328)&&(ah .i64 (Xh+1)&&K ((Xh+1),Vr,(v++[VW])))))) (e0 VK v))
def JU (N:Nat) (Xv:LF) (Wn Xi:Int) (Xj h:LF) (r:Fl) (b:Bool) (k0:Fl->Fl->Bool->LF->Bool):Bool:=
 (ai N (Cl N h r ((Xv.length:Nat):Int) Xv Wn Xi Xj (λVS Wj=>nG N h Xv VS (λWv VH=>Hp N h VH Wj (λWk VU=>jE N (dZ Wk r) VU (λWt=>k0 Wv (dZ Wk r) Wt Wj))))) (0,b,[]))
def Mr (N:Nat):LF->Int->Int->LF->LF->Fl->Bool->(Fl->Fl->Bool->LF->Bool)->Bool:=ax N (JU N)
def xS (N:Nat) (rows cols:Int) (k0:Kz6):Bool:=
 (ah .i64 (rows*cols)&&(jD 8 (rows*cols) (rows*cols)&&k0 (List.replicate (Int.toNat (rows*cols)) (some 0))))
def jq (N:Nat):Int->Int->(Kz6)->Bool:=xS N
def OQ (N:Nat) (VP Vt i j:Int) (x:Fl) (b:LF) (k0:Kz6):Bool:=
 (ah .i64 (i*Vt)&&(ah .i64 ((i*Vt)+j)&&(inR ((i*Vt)+j) b.length&&(decide ((Int.toNat ((i*Vt)+j))<b.length)&&k0 (b.set (Int.toNat ((i*Vt)+j)) x)))))
def tk (N:Nat):Int->Int->Int->Int->Fl->LF->(Kz6)->Bool:=OQ N
def jf (N:Nat) (j_2 YQ Yd:Int) (Ye:LF) (e0:Kz6):(Int × LF)->((Int × LF)->Bool)->Bool:=λv_ K=>match v_ with
 | (VM,l)=>(cond (decide (VM<YQ)) (lI N YQ Yd Ye VM j_2 (λVW=>decide ((List.length (l++[VW]))*8<=140737488355328)&&(ah .i64 (VM+1)&&K ((VM+1),(l++[VW]))))) (e0 l))
def oK (N:Nat) (VP Vt:Int) (VF:LF) (j:Int) (k0:Kz6):Bool:=
 (ai N (jf N j VP Vt VF (λY6=>k0 Y6)) (0,[]))
def pH (N:Nat):Int->Int->LF->Int->(Kz6)->Bool:=ax N (oK N)
def gT (N:Nat) (VM X7 Y2:Int) (Zc:LF) (VJ VN:Int) (VT:LF) (YH YI VF Wx:Int) (e0:Ky8):(Int × Bool × LF)->((Int × Bool × LF)->Bool)->Bool:=λv_ K=>match v_ with
 | (j,VK,V4)=>(cond (decide (j<VN)) (sK N X7 Y2 Zc VM (λVO=>pH N VJ VN VT j (λWp=>Hp N VO VK Wp (λxr cr=>tk N VF Wx VM j xr V4 (λWf=>ah .i64 (j+1)&&K ((j+1),cr,Wf)))))) (e0 VK V4))
def gS (N:Nat) (a Xx:Int) (YT:LF) (Vu Vx:Int) (VC:LF) (t6 WR m Vt:Int) (e0:Ky8):(Int × Bool × LF)->((Int × Bool × LF)->Bool)->Bool:=λv_ K=>match v_ with
 | (i,s,b5)=>(cond (decide (i<a)) (ai N (gT N i a Xx YT Vu Vx VC t6 WR m Vt (λVS Xp=>ah .i64 (i+1)&&K ((i+1),VS,Xp))) (0,s,b5)) (e0 s b5))
def J_ (N:Nat) (Xw VL:Int) (WJ:LF) (Ys Vo:Int) (Vq:LF) (b:Bool) (k0:Ky8):Bool:=
 (jq N Xw Vo (λxsr=>ai N (gS N Xw VL WJ Ys Vo Vq 0 0 Xw Vo (λb0 b3=>k0 b0 b3)) (0,b,xsr)))
def Mz (N:Nat):Int->Int->LF->Int->Int->LF->Bool->(Ky8)->Bool:=ax N (J_ N)
def fV (N a WJ Vx VC:Nat) (t10:Int) (Xx VJ:LF) (e0:Ky7):(Fl × Int × Bool)->((Fl × Int × Bool)->Bool)->Bool:=λv_ K=>match v_ with
 | (t,t11,s)=>(cond (decide (t11<t10)) (inR t11 WJ&&(decide ((a+t11.toNat)<Xx.length)&&(inR t11 VC&&(decide ((Vx+t11.toNat)<VJ.length)&&jE N (bd (Xx.getD (a+t11.toNat) none) (VJ.getD (Vx+t11.toNat) none)) s (λcr=>jE N (dZ t (bd (Xx.getD (a+t11.toNat) none) (VJ.getD (Vx+t11.toNat) none))) cr (λVr=>ah .i64 (t11+1)&&K ((dZ t (bd (Xx.getD (a+t11.toNat) none) (VJ.getD (Vx+t11.toNat) none))),(t11+1),Vr))))))) (e0 t s))
def J2 (N Xw VL Ys Vo:Nat) (b:Bool) (Vq Vu:LF) (k0:Ky7):Bool:=
 (ai N (fV N Xw VL Ys Vo ((VL:Nat):Int) Vq Vu (λWn b0=>k0 Wn b0)) ((some 0),0,b))
def Mu (N:Nat):Nat->Nat->Nat->Nat->Bool->LF->LF->(Ky7)->Bool:=ax N (J2 N)
def fS (N:Nat) (YW:LF) (XK:Fl) (Xz:LF) (Wc VM p_5 p_6:Int) (p_7:LF) (Wl Yx WJ Xx:Int) (e0:Ky8):(Int × Bool × LF)->((Int × Bool × LF)->Bool)->Bool:=λv_ K=>match v_ with
 | (j,VK,W_)=>(cond (decide (j<Wc)) (cond (VM==j) (inR VM Xz.length&&(inR j YW.length&&jE N (bd (Xz.getD VM.toNat none) (YW.getD j.toNat none)) VK (λcr=>jE N (dn (some 4607182418800017408) (bd (Xz.getD VM.toNat none) (YW.getD j.toNat none))) cr (λVr=>tk N WJ Xx VM j (dn (some 4607182418800017408) (bd (Xz.getD VM.toNat none) (YW.getD j.toNat none))) W_ (λVO=>ah .i64 (j+1)&&K ((j+1),Vr,VO)))))) (inR VM Xz.length&&(inR j YW.length&&jE N (bd (Xz.getD VM.toNat none) (YW.getD j.toNat none)) VK (λVH=>jE N (dn (some 0) (bd (Xz.getD VM.toNat none) (YW.getD j.toNat none))) VH (λVU=>tk N WJ Xx VM j (dn (some 0) (bd (Xz.getD VM.toNat none) (YW.getD j.toNat none))) W_ (λWp=>ah .i64 (j+1)&&K ((j+1),VU,Wp))))))) (e0 VK W_))
def fR (N:Nat) (WC:LF) (Wy:Fl) (WL:LF) (n p Zx:Int) (p_4:LF) (t10 Wm a VL:Int) (e0:Ky8):(Int × Bool × LF)->((Int × Bool × LF)->Bool)->Bool:=λv_ K=>match v_ with
 | (i,s,b4)=>(cond (decide (i<n)) (ai N (fS N WC Wy WL n i p Zx p_4 t10 Wm a VL (λVS YU=>ah .i64 (i+1)&&K ((i+1),VS,YU))) (0,s,b4)) (e0 s b4))
def fU (N:Nat) (r_4:Fl) (WQ:LF) (n_3 i_3 X_ Ya Y2 Zc Vu Vx c_2 c_3:Int) (V4 XJ:LF) (e0:Ky8):(Int × Bool × LF)->((Int × Bool × LF)->Bool)->Bool:=λv_ K=>match v_ with
 | (V9,Xb,Zt)=>(cond (decide (V9<=i_3)) (inR i_3 WQ.length&&jE N (bd (WQ.getD i_3.toNat none) r_4) Xb (λX4=>inR V9 WQ.length&&jE N (bd (bd (WQ.getD i_3.toNat none) r_4) (WQ.getD V9.toNat none)) X4 (λYt=>xb N Vu Vx i_3 XJ (λmr Wi=>xb N Y2 Zc V9 V4 (λVG WW=>Mu N mr Wi VG WW Yt XJ V4 (λxr Yu=>jE N (dZ xr (bd (bd (WQ.getD i_3.toNat none) r_4) (WQ.getD V9.toNat none))) Yu (λc8=>tk N c_2 c_3 i_3 V9 (dZ xr (bd (bd (WQ.getD i_3.toNat none) r_4) (WQ.getD V9.toNat none))) Zt (λWw=>ah .i64 (V9+1)&&K ((V9+1),c8,Ww))))))))) (e0 Xb Zt))
def fT (N:Nat) (Yg:Fl) (Zg:LF) (XE X8 X9 YT X7 Vo Vq c c_1:Int) (b5 b6:LF) (e0:Ky8):(Int × Bool × LF)->((Int × Bool × LF)->Bool)->Bool:=λv_ K=>match v_ with
 | (i_2,W7,b7)=>(cond (decide (i_2<XE)) (ai N (fU N Yg Zg XE i_2 X8 X9 YT X7 Vo Vq c c_1 b5 b6 (λXB acY=>ah .i64 (i_2+1)&&K ((i_2+1),XB,acY))) (0,W7,b7)) (e0 W7 b7))
def J0 (N:Nat) (Zh XA:Int) (Yf h:LF) (r:Fl) (k_:LF) (b:Bool) (k0:Kx9):Bool:=
 (jq N ((h.length:Nat):Int) ((h.length:Nat):Int) (λxsr=>ai N (fR N h r k_ ((h.length:Nat):Int) Zh XA Yf 0 0 ((h.length:Nat):Int) ((h.length:Nat):Int) (λVV Zf=>Mz N ((h.length:Nat):Int) ((h.length:Nat):Int) Zf Zh XA Yf VV (λWt Wf=>jq N ((h.length:Nat):Int) ((h.length:Nat):Int) (λWP=>ai N (fT N r k_ ((h.length:Nat):Int) 0 0 ((h.length:Nat):Int) ((h.length:Nat):Int) ((h.length:Nat):Int) XA ((h.length:Nat):Int) ((h.length:Nat):Int) Zf Wf (λb0 b3=>k0 ((h.length:Nat):Int) ((h.length:Nat):Int) b0 b3)) (0,Wt,WP))))) (0,b,xsr)))
def Mt (N:Nat):Int->Int->LF->LF->Fl->LF->Bool->(Kx9)->Bool:=ax N (J0 N)
def jh (N:Nat) (VM YQ Yd:Int) (Ye:LF) (YC YD Xi Xj:Int) (e0:Kz6):(Int × LF)->((Int × LF)->Bool)->Bool:=λv_ K=>match v_ with
 | (j,W8)=>(cond (decide (j<=VM)) (lI N YQ Yd Ye VM j (λxr=>tk N Xi Xj VM j xr W8 (λVO=>lI N YQ Yd Ye VM j (λVW=>tk N Xi Xj j VM VW VO (λWp=>ah .i64 (j+1)&&K ((j+1),Wp)))))) (e0 W8))
def jg (N:Nat) (m Wx:Int) (X3:LF) (t2 XC t Wn:Int) (e0:Kz6):(Int × LF)->((Int × LF)->Bool)->Bool:=λv_ K=>match v_ with
 | (i,b3)=>(cond (decide (i<m)) (ai N (jh N i m Wx X3 t2 XC t Wn (λW9=>ah .i64 (i+1)&&K ((i+1),W9))) (0,b3)) (e0 b3))
def oL (N:Nat) (VP Vt:Int) (VF:LF) (k0:Kz6):Bool:=
 (jq N VP Vt (λxsr=>ai N (jg N VP Vt VF 0 0 VP Vt (λb2=>k0 b2)) (0,xsr)))
def pI (N:Nat):Int->Int->LF->(Kz6)->Bool:=ax N (oL N)
def P0 (N:Nat) (Zh XA:Int) (b Vo:LF) (Vq:Bool) (k0:Ky2) (k1:Int->LF->Bool):Bool:=
 (cond Vq (k0 0 0 5) (pI N Zh XA Vo (λxsr=>Ho N Zh XA xsr (λcr=>cond (!cr) (k0 0 0 151) (k1 0 xsr)))))
def Jb (N:Nat):Int->Int->LF->LF->Bool->(Ky2)->(Int->LF->Bool)->Bool:=ax N (P0 N)
def zK (N:Nat) (YX:LF) (Yg:Fl) (Y9:Bool) (YS WD:Fl) (aaX:Int) (XI:LF) (ZK ZL:Int) (ZM:LF) (X8 X9:Int) (aaL aaM aaN:Fl) (XD:LF) (e0:Bool->LF->LF->Bool):(Int × Bool × LF × LF)->((Int × Bool × LF × LF)->Bool)->Bool:=λv_ K=>match v_ with
 | (V5,VS,WL,x)=>(cond (decide (V5<aaX)) (inR V5 XD.length&&(decide (V5.toNat<XD.length)&&jE N (fdiv (XD.getD V5.toNat none) YS) VS (λc9=>decide ((List.length (WL++[(fdiv (XD.getD V5.toNat none) YS)]))*8<=140737488355328)&&(inR V5 XI.length&&(inR V5 (List.length (WL++[(fdiv (XD.getD V5.toNat none) YS)]))&&(decide (V5.toNat<(List.length (WL++[(fdiv (XD.getD V5.toNat none) YS)])))&&jE N (bd (List.getD (WL++[(fdiv (XD.getD V5.toNat none) YS)]) V5.toNat none) WD) c9 (λc10=>jE N (dZ (XI.getD V5.toNat none) (bd (List.getD (WL++[(fdiv (XD.getD V5.toNat none) YS)]) V5.toNat none) WD)) c10 (λc11=>decide ((List.length (x++[(dZ (XI.getD V5.toNat none) (bd (List.getD (WL++[(fdiv (XD.getD V5.toNat none) YS)]) V5.toNat none) WD))]))*8<=140737488355328)&&(ah .i64 (V5+1)&&K ((V5+1),c11,(WL++[(fdiv (XD.getD V5.toNat none) YS)]),(x++[(dZ (XI.getD V5.toNat none) (bd (List.getD (WL++[(fdiv (XD.getD V5.toNat none) YS)]) V5.toNat none) WD))]))))))))))) (e0 VS WL x))
def ji (N:Nat) (w_4 y_4:Fl) (i ZE ZF:Int) (ab6:LF) (abq abr:Int) (abt:LF) (aaG aaH:Int) (ZB ZC ZD:Fl) (v_4 WQ V7:LF) (Yf Zx:Int) (e0:Ky8):(Int × Bool × LF)->((Int × Bool × LF)->Bool)->Bool:=λv_ K=>match v_ with
 | (j,Xb,acs)=>(cond (decide (j<=i)) (lI N abq abr abt i j (λWv=>inR i WQ.length&&(decide (i.toNat<WQ.length)&&(inR j v_4.length&&(decide (j.toNat<v_4.length)&&jE N (bd (WQ.getD i.toNat none) (v_4.getD j.toNat none)) Xb (λc12=>jE N (dn Wv (bd (WQ.getD i.toNat none) (v_4.getD j.toNat none))) c12 (λc13=>tk N Yf Zx i j (dn Wv (bd (WQ.getD i.toNat none) (v_4.getD j.toNat none))) acs (λWp=>ah .i64 (j+1)&&K ((j+1),c13,Wp))))))))) (e0 Xb acs))
def gk (N:Nat) (ZO Xk:Fl) (t124:Int) (ab2:LF) (ab3 ab4:Int) (ab5:LF) (X_ Ya:Int) (aae Y_ Za:Fl) (Yj Zg V0:LF) (p XA:Int) (e0:Ky8):(Int × Bool × LF)->((Int × Bool × LF)->Bool)->Bool:=λv_ K=>match v_ with
 | (t125,W7,b8)=>(cond (decide (t125<t124)) (ai N (ji N ZO Xk t125 t124 t125 ab2 ab3 ab4 ab5 X_ Ya aae Y_ Za Yj Zg V0 p XA (λXB abb=>ah .i64 (t125+1)&&K ((t125+1),XB,abb))) (0,W7,b8)) (e0 W7 b8))
def xV (N:Nat) (Xv:LF) (Wn Xi:Int) (Xj h:LF) (r z:Fl) (short:Bool) (w_6 y_6:Fl) (s_9:Bool) (acy x_5:LF) (p_6 p_7:Int) (abC:LF) (k0:Kx3) (k1:Kx2) (k2:Kx0):Bool:=
 (jE N (bd y_6 y_6) s_9 (λc17=>jE N (fdiv (bd y_6 y_6) w_6) c17 (λc18=>Jb N p_6 p_7 x_5 abC c18 (λn8 n9 n10=>cond (n10 != 0) (k0 0 0 (some 0) (some 0) (some 0) n10) (k1 n8 n9 y_6 w_6 (fdiv (bd y_6 y_6) w_6) 0 acy)) (λn11 Ww=>cond (n11 != 0) (k0 0 0 (some 0) (some 0) (some 0) n11) (k2 p_6 p_7 y_6 w_6 (fdiv (bd y_6 y_6) w_6) 0 x_5 Ww acy)))))
def S8 (N:Nat) (Xv:LF) (Wn Xi:Int) (Xj h:LF) (r z:Fl) (short:Bool) (w_5 y_5:Fl) (Xc:Bool) (acx x_4:LF) (p_4 p_5:Int) (XJ:LF) (k0:Kx3) (k1:Kx2) (k2:Kx0):Bool:=
 (jE N (bd y_5 y_5) Xc (λc15=>jE N (fdiv (bd y_5 y_5) w_5) c15 (λc16=>Jb N p_4 p_5 x_4 XJ c16 (λVX n5 n6=>cond (n6 != 0) (k0 0 0 (some 0) (some 0) (some 0) n6) (k1 VX n5 y_5 w_5 (fdiv (bd y_5 y_5) w_5) 0 acx)) (λn7 WP=>cond (n7 != 0) (k0 0 0 (some 0) (some 0) (some 0) n7) (k2 p_4 p_5 y_5 w_5 (fdiv (bd y_5 y_5) w_5) 0 x_4 WP acx)))))
def oN (N:Nat) (Xv:LF) (Wn Xi:Int) (Xj h:LF) (r z:Fl) (short:Bool) (k0:Kx3) (k1:Kx2) (k2:Kx0):Bool:=
 (lJ N Xv Wn Xi Xj (λnr=>cond (nr != 0) (k0 0 0 (some 0) (some 0) (some 0) nr) (v8 N ((Xv.length:Nat):Int) h r (λVs=>cond (Vs != 0) (k0 0 0 (some 0) (some 0) (some 0) Vs) (A_ N z (λcr=>cond (!cr) (k0 0 0 (some 0) (some 0) (some 0) 4) (Mr N Xv Wn Xi Xj h r false (λxr VW Vr xsr=>cond Vr (k0 0 0 (some 0) (some 0) (some 0) 5) (cond (!(fgt VW (some 0))) (k0 0 0 (some 0) (some 0) (some 0) 153) (jE N (dn z xr) Vr (λVH=>ai N (zK N h r short VW (dn z xr) ((Xv.length:Nat):Int) Xv Wn Xi Xj 0 0 (some 0) (some 0) (some 0) xsr (λVV Xz VD=>cond short (jq N ((VD.length:Nat):Int) ((VD.length:Nat):Int) (λVO=>ai N (gk N VW (dn z xr) ((VD.length:Nat):Int) Xv Wn Xi Xj 0 0 (some 0) (some 0) (some 0) xsr Xz VD ((VD.length:Nat):Int) ((VD.length:Nat):Int) (λWY b6=>S8 N Xv Wn Xi Xj h r z short VW (dn z xr) WY Xz VD ((VD.length:Nat):Int) ((VD.length:Nat):Int) b6 k0 k1 k2)) (0,VV,VO))) (Mt N Wn Xi Xj h r Xz VV (λVy VR c14 Wf=>xV N Xv Wn Xi Xj h r z short VW (dn z xr) c14 Xz VD Vy VR Wf k0 k1 k2)))) (0,VH,[],[]))))))))))))
def pJ (N:Nat):LF->Int->Int->LF->LF->Fl->Fl->Bool->(Kx3)->(Kx2)->(Kx0)->Bool:=ax N (oN N)
def JY (N:Nat) (Xv:LF) (Wn Xi:Int) (Xj:LF) (WH WC:Nat) (r z:Fl) (b:LF) (k0:Kx1):Bool:=
 (decide ((WH+WC)<=b.length)&&pJ N Xv Wn Xi Xj (List.take WC (List.drop WH b)) r z false (λnr Vs xr VW Wv Vy=>k0 [] nr Vs [] xr VW Wv [] Vy) (λVR VX Wk WT Xu n5 xsr=>k0 [] VR VX [] Wk WT Xu xsr n5) (λn6 n7 Zn Zo aa1 n8 VO Wp Wf=>k0 VO n6 n7 Wp Zn Zo aa1 Wf n8))
def Hm (N:Nat):LF->Int->Int->LF->Nat->Nat->Fl->Fl->LF->(Kx1)->Bool:=ax N (JY N)
def wc (N z_4 z_5:Nat) (V1 Wy z_6:LF) (YX Zu XG XH:Int) (e0:Kx7) (e1:LF->Int->Int->LF->List RY4->Bool):(Int × LF × Int × Int × LF × List RY4)->((Int × LF × Int × Int × LF × List RY4)->Bool)->Bool:=λv_ K=>match v_ with
 | (VM,ZN,t_8,t_9,X1,l)=>(cond (decide (VM<YX)) (xb N YX Zu VM V1 (λVG WW=>inR VM Wy.length&&(decide (VM.toNat<Wy.length)&&(inR VM z_5&&(decide ((z_4+VM.toNat)<z_6.length)&&Hm N ZN t_8 t_9 X1 VG WW (Wy.getD VM.toNat none) (z_6.getD (z_4+VM.toNat) none) V1 (λWf n5 n6 WP Wk WT Xu Ww n7=>cond (n7 != 0) (e0 VM n7 0 0) (decide ((List.length (l++[(Wk,(WT,(Xu,Ww)))]))*48<=140737488355328)&&(ah .i64 (VM+1)&&K ((VM+1),Wf,n5,n6,WP,(l++[(Wk,(WT,(Xu,Ww)))])))))))))) (e1 ZN t_8 t_9 X1 l))
def JS (N:Nat) (Xv:LF) (Wn Xi:Int) (Xj:LF) (WH WC:Int) (ZP VY:Nat) (b Vo Vq:LF) (k0:LF->Int->Int->LF->List RY4->Int->Int->Bool):Bool:=
 (lJ N Xv Wn Xi Xj (λnr=>cond (nr != 0) (k0 [] 0 0 [] [] 0 nr) (Pn N ((Xv.length:Nat):Int) WH WC ZP VY b Vo Vq (λVs=>cond (Vs != 0) (k0 [] 0 0 [] [] 0 Vs) (ai N (wc N ZP VY b Vo Vq WH WC 0 0 (λt10 t11 abZ ab0=>k0 [] abZ ab0 [] [] t10 t11) (λ(XI:LF) (ZK ZL:Int) (ZM:LF) (Y6:List RY4)=>k0 XI ZK ZL ZM Y6 0 0)) (0,Xv,Wn,Xi,Xj,[]))))))
def Mp (N:Nat):LF->Int->Int->LF->Int->Int->Nat->Nat->LF->LF->LF->(LF->Int->Int->LF->List RY4->Int->Int->Bool)->Bool:=ax N (JS N)
def OP (N:Nat) (n:Int) (k0:Kz2):Bool:=
 (cond ((decide (n>=0))==true) (k0 (decide (n<=12))) (k0 false))
def Hk (N:Nat):Int->(Kz2)->Bool:=OP N
abbrev Kv:=Fl->(Kz3)->Bool
def ME (N:Nat):Kv:=λx k=>k (yg x)
def kd (N:Nat) (t6:LF) (t7:Int) (e0:Kz2) (e1:Bool):(Int)->((Int)->Bool)->Bool:=λv_ K=>match v_ with
 | t8=>(cond (decide (t8<t7)) (inR t8 t6.length&&ME N (t6.getD t8.toNat none) (λnr=>cond ((nr==1)==false) (cond (nr==2) (e0 false) (ah .i64 (t8+1)&&K (t8+1))) (e0 false))) e1)
def JV (N:Nat) (l:LF) (k0:Kz2):Bool:=
 (ai N (kd N l ((l.length:Nat):Int) (λt2=>k0 t2) (k0 true)) 0)
def u_ (N:Nat):LF->(Kz2)->Bool:=ax N (JV N)
def PV (N:Nat) (VP Vt:Int) (VF:LF) (k0:Kz3):Bool:=
 (Hk N VP (λcr=>cond ((!cr)==false) (Hk N Vt (λVr=>cond (!Vr) (k0 1) (ah .i64 (VP*Vt)&&cond (((VF.length:Nat):Int) != (VP*Vt)) (k0 3) (u_ N VF (λVH=>cond (!VH) (k0 4) (k0 0)))))) (k0 1)))
def F7 (N:Nat):Int->Int->LF->(Kz3)->Bool:=ax N (PV N)
def wo (N:Nat) (VP Vt:Int) (VF:LF) (i j:Int) (k0:Kz5):Bool:=
 (ah .i64 (i*Vt)&&(ah .i64 ((i*Vt)+j)&&(inR ((i*Vt)+j) VF.length&&k0 (VF.getD (Int.toNat ((i*Vt)+j)) none))))
def nD (N:Nat):Int->Int->LF->Int->Int->(Kz5)->Bool:=wo N
abbrev EK:=Fl->Fl->(Kz2)->Bool
def D0 (N:Nat):EK:=λx y k=>k (decide (cn x=cn y))
def Ci (N:Nat) (i Xr Xh t20 YQ Yd:Int) (Ye:LF) (e0:Kz2) (e1:Bool):(Int)->((Int)->Bool)->Bool:=λv_ K=>match v_ with
 | t21=>(cond (decide (t21<t20)) (nD N YQ Yd Ye i t21 (λxr=>nD N YQ Yd Ye t21 i (λVW=>D0 N xr VW (λcr=>cond (!cr) (e0 false) (ah .i64 (t21+1)&&K (t21+1)))))) e1)
def Ch (N:Nat) (t16 m Wx:Int) (X3:LF) (e0:Kz2) (e1:Bool):(Int)->((Int)->Bool)->Bool:=λv_ K=>match v_ with
 | t17=>(cond (decide (t17<t16)) (ai N (Ci N t17 t16 t17 t17 m Wx X3 (λt2=>e0 t2) (ah .i64 (t17+1)&&K (t17+1))) 0) e1)
def Qk (N:Nat) (VP Vt:Int) (VF:LF) (k0:Kz2):Bool:=
 (F7 N VP Vt VF (λnr=>cond ((nr != 0)==false) (cond (VP != Vt) (k0 false) (ai N (Ch N VP VP Vt VF (λXC=>k0 XC) (k0 true)) 0)) (k0 false)))
def SC (N:Nat):Int->Int->LF->(Kz2)->Bool:=ax N (Qk N)
def uu (N:Nat) (is:Bool) (e:Int) (k0:Bool):Bool:=
 (cond (!is) false k0)
def dc (N:Nat):Bool->Int->(Bool)->Bool:=uu N
def Nc (N:Nat) (x:Int) (k0:Kz3):Bool:=
 (cond (x==0) (k0 64) (inR (Int.fdiv (IntKind.wrap .u64 ((aA .and .u64 x (IntKind.wrap .u64 (0 - x)))*285870213051353865)) (2 ^ 58)) 64&&(ah .i64 (xk.getD (Int.toNat (Int.fdiv (IntKind.wrap .u64 ((aA .and .u64 x (IntKind.wrap .u64 (0 - x)))*285870213051353865)) (2 ^ 58))) 0)&&k0 (xk.getD (Int.toNat (Int.fdiv (IntKind.wrap .u64 ((aA .and .u64 x (IntKind.wrap .u64 (0 - x)))*285870213051353865)) (2 ^ 58))) 0))))
def Sf (N:Nat):Int->(Kz3)->Bool:=ax N (Nc N)
def HN (N:Nat) (b WM WU Xf:Int) (p:Bool) (XA Yf:Int) (k0:Kx6):Bool:=
 (Sf N XA (λVX=>decide (0<=VX)&&(ah .i64 (Yf+VX)&&k0 p (Int.fdiv XA (2 ^ (min VX.toNat 64))) (Yf+VX) 0)))
def Qi (N:Nat) (b WM WU Xf:Int) (k0:Kx6):Bool:=
 (Ow N b WM WU Xf (λcr nr Vs=>ah .i64 (nr - Xf)&&Ov N b WM WU Xf (λVy=>cond (Vy==1) (k0 false 0 0 4) (cond (Vy==2) (k0 false 0 0 4) (cond (Vy==3) (k0 cr 0 0 0) (cond (Vy==4) (ah .i64 ((nr - Xf)+1)&&HN N b WM WU Xf cr Vs ((nr - Xf)+1) k0) (lG N WM WU Xf (λVR=>HN N b WM WU Xf cr (aA .or .u64 Vs VR) (nr - Xf) k0))))))))
def SA (N:Nat):Int->Int->Int->Int->(Kx6)->Bool:=ax N (Qi N)
def xO (N:Nat) (x:Fl) (k0:Kx6):Bool:=
 (xa N x (λnr=>sH N (λVs Vy VR=>SA N nr Vs Vy VR (λcr VX n5 n6=>k0 cr VX n5 n6))))
def px (N:Nat):Fl->(Kx6)->Bool:=xO N
def un (N:Nat) (x:LI) (e0:Kz3):(Int)->((Int)->Bool)->Bool:=λv_ K=>match v_ with
 | n=>(cond ((decide (n>0))==true) (ah .i64 (n - 1)&&(inR (n - 1) x.length&&(decide ((Int.toNat (n - 1))<x.length)&&cond ((x.getD (Int.toNat (n - 1)) 0)==0) (ah .i64 (n - 1)&&K (n - 1)) (e0 n)))) (e0 n))
def PW (N:Nat) (b:LI) (k0:Kz4):Bool:=
 (ai N (un N b (λWc=>decide (0<=Wc/\Wc<=((b.length:Nat):Int))&&k0 (Wc.toNat - 0))) ((b.length:Nat):Int))
def va (N:Nat):LI->(Kz4)->Bool:=ax N (PW N)
def xP (N:Nat) (n:Int) (k0:Kz7):Bool:=
 (va N [n] (λmr=>decide ((0+mr)<=(List.length [n]))&&k0 (List.take mr (List.drop 0 [n]))))
def jm (N:Nat):Int->(Kz7)->Bool:=xP N
def SQ (N:Nat) (neg:Bool) (abs:LI) (b:Bool) (k0:Kz2):Bool:=
 (cond (neg==true) (k0 (decide (((abs.length:Nat):Int)>0))) (k0 false))
def B2 (N:Nat):Bool->LI->Bool->(Kz2)->Bool:=SQ N
def PI (N:Nat) (n:Int) (b:Bool) (k0:Ky5):Bool:=
 (jm N n (λnsr=>B2 N false nsr b (λcr=>k0 cr nsr)))
def Oj (N:Nat):Int->Bool->(Ky5)->Bool:=ax N (PI N)
def ON (N:Nat) (x:LI) (k0:Kz7):Bool:=
 (decide ((List.length ([]++x))*8<=140737488355328)&&k0 ([]++x))
def qf (N:Nat):LI->(Kz7)->Bool:=ON N
def TL (N:Nat) (neg:Bool) (abs:LI) (b:Bool) (Vo:LI) (k0:Kz2):Bool:=
 (cond (neg==true) (k0 (decide (((abs.length:Nat):Int)>0))) (k0 false))
def Jc (N:Nat):Bool->LI->Bool->LI->(Kz2)->Bool:=TL N
def PY (N:Nat) (b:Bool) (Vo:LI) (k0:Ky5):Bool:=
 (qf N Vo (λnsr=>Jc N (!b) nsr b Vo (λcr=>k0 cr nsr)))
def Ot (N:Nat):Bool->LI->(Ky5)->Bool:=ax N (PY N)
def P4 (N:Nat) (n:Int) (b:Bool) (k0:Ky5):Bool:=
 (cond (decide (n<0)) (jm N (IntKind.wrap .u64 (0 - (IntKind.wrap .u64 n))) (λnsr=>B2 N true nsr b (λcr=>k0 cr nsr))) (jm N (IntKind.wrap .u64 n) (λVp=>B2 N false Vp b (λVr=>k0 Vr Vp))))
def Tu (N:Nat):Int->Bool->(Ky5)->Bool:=ax N (P4 N)
def OZ (N:Nat) (n:Int) (k0:Ky5):Bool:=
 (Tu N n false (λcr nsr=>k0 cr nsr))
def Ea (N:Nat):Int->(Ky5)->Bool:=OZ N
def eE (N:Nat) (words rest:Int) (t24:LI) (t25:Int) (e0:Kz7):(Int × LI)->((Int × LI)->Bool)->Bool:=λv_ K=>match v_ with
 | (t26,z)=>(cond (decide (t26<t25)) (inR t26 t24.length&&(ah .i64 (words+t26)&&(inR (words+t26) z.length&&(decide ((Int.toNat (words+t26))<z.length)&&(decide (0<=rest)&&(inR (words+t26) z.length&&(decide ((Int.toNat (words+t26))<z.length)&&(ah .i64 (words+t26)&&(ah .i64 ((words+t26)+1)&&(decide (0<=(IntKind.wrap .u64 (64 - rest)))&&(inR ((words+t26)+1) (List.length (z.set (Int.toNat (words+t26)) (aA .or .u64 (z.getD (Int.toNat (words+t26)) 0) (IntKind.wrap .u64 ((t24.getD t26.toNat 0)*2 ^ (min rest.toNat 64))))))&&(decide ((Int.toNat ((words+t26)+1))<(List.length (z.set (Int.toNat (words+t26)) (aA .or .u64 (z.getD (Int.toNat (words+t26)) 0) (IntKind.wrap .u64 ((t24.getD t26.toNat 0)*2 ^ (min rest.toNat 64)))))))&&(ah .i64 (t26+1)&&K ((t26+1),(List.set (z.set (Int.toNat (words+t26)) (aA .or .u64 (z.getD (Int.toNat (words+t26)) 0) (IntKind.wrap .u64 ((t24.getD t26.toNat 0)*2 ^ (min rest.toNat 64))))) (Int.toNat ((words+t26)+1)) (Int.fdiv (t24.getD t26.toNat 0) (2 ^ (min (Int.toNat (IntKind.wrap .u64 (64 - rest))) 64)))))))))))))))))) (e0 z))
def tw (N:Nat) (x:LI) (n:Int) (k0:Kz7):Bool:=
 (cond (((x.length:Nat):Int)==0) (k0 []) (ah .i64 (IntKind.wrap .u64 (Int.tdiv n 64))&&(ah .i64 ((IntKind.wrap .u64 (Int.tdiv n 64))+((x.length:Nat):Int))&&(ah .i64 (((IntKind.wrap .u64 (Int.tdiv n 64))+((x.length:Nat):Int))+1)&&(jD 8 (((IntKind.wrap .u64 (Int.tdiv n 64))+((x.length:Nat):Int))+1) (((IntKind.wrap .u64 (Int.tdiv n 64))+((x.length:Nat):Int))+1)&&ai N (eE N (IntKind.wrap .u64 (Int.tdiv n 64)) (Int.tmod n 64) x ((x.length:Nat):Int) (λVY=>va N VY (λmr=>decide ((0+mr)<=VY.length)&&k0 (List.take mr (List.drop 0 VY))))) (0,(List.replicate (Int.toNat (((IntKind.wrap .u64 (Int.tdiv n 64))+((x.length:Nat):Int))+1)) (0:Int))))))))
def ub (N:Nat):LI->Int->(Kz7)->Bool:=ax N (tw N)
def S6 (N:Nat) (n:Int) (b Vo:Bool) (Vq:LI) (k0:Ky5):Bool:=
 (ub N Vq n (λnsr=>B2 N Vo nsr b (λcr=>k0 cr nsr)))
def Sy (N:Nat):Int->Bool->Bool->LI->(Ky5)->Bool:=S6 N
def uj (N:Nat) (VD Wa:LI) (e0:Kz3) (e1:Bool):(Int)->((Int)->Bool)->Bool:=λv_ K=>match v_ with
 | i=>(cond (decide (i>=0)) (inR i VD.length&&(inR i Wa.length&&cond ((VD.getD i.toNat 0) != (Wa.getD i.toNat 0)) (inR i VD.length&&(inR i Wa.length&&cond (decide ((VD.getD i.toNat 0)<(Wa.getD i.toNat 0))) (e0 (-1)) (e0 1))) (ah .i64 (i - 1)&&K (i - 1)))) e1)
def JQ (N:Nat) (x y:LI) (k0:Kz3):Bool:=
 (cond (((x.length:Nat):Int) != ((y.length:Nat):Int)) (cond (decide (((x.length:Nat):Int)<((y.length:Nat):Int))) (k0 (-1)) (k0 1)) (ah .i64 (((x.length:Nat):Int) - 1)&&ai N (uj N x y (λt4=>k0 t4) (k0 0)) (((x.length:Nat):Int) - 1)))
def A9 (N:Nat):LI->LI->(Kz3)->Bool:=ax N (JQ N)
def Gw (N:Nat) (x V0 Wc:Int) (k0:Kz3):Bool:=
 (cond (decide (V0>=256)) (ah .i64 (Wc+8)&&(inR (IntKind.wrap .u8 (Int.fdiv V0 (2 ^ 8))) 256&&(ah .i64 (ay.getD (Int.toNat (IntKind.wrap .u8 (Int.fdiv V0 (2 ^ 8)))) 0)&&(ah .i64 ((Wc+8)+(ay.getD (Int.toNat (IntKind.wrap .u8 (Int.fdiv V0 (2 ^ 8)))) 0))&&k0 ((Wc+8)+(ay.getD (Int.toNat (IntKind.wrap .u8 (Int.fdiv V0 (2 ^ 8)))) 0)))))) (inR (IntKind.wrap .u8 V0) 256&&(ah .i64 (ay.getD (Int.toNat (IntKind.wrap .u8 V0)) 0)&&(ah .i64 (Wc+(ay.getD (Int.toNat (IntKind.wrap .u8 V0)) 0))&&k0 (Wc+(ay.getD (Int.toNat (IntKind.wrap .u8 V0)) 0))))))
def Gv (N:Nat) (x VD n:Int) (k0:Kz3):Bool:=
 (cond (decide (VD>=65536)) (ah .i64 (n+16)&&Gw N x (Int.fdiv VD (2 ^ 16)) (n+16) k0) (Gw N x VD n k0))
def Qd (N:Nat) (x:Int) (k0:Kz3):Bool:=
 (cond (decide (x>=4294967296)) (Gv N x (Int.fdiv x (2 ^ 32)) 32 k0) (Gv N x x 0 k0))
def OA (N:Nat):Int->(Kz3)->Bool:=ax N (Qd N)
def oF (N:Nat) (x:LI) (k0:Kz3):Bool:=
 (cond (((x.length:Nat):Int)==0) (k0 0) (ah .i64 (((x.length:Nat):Int) - 1)&&(ah .i64 (64*(((x.length:Nat):Int) - 1))&&(ah .i64 (((x.length:Nat):Int) - 1)&&(inR (((x.length:Nat):Int) - 1) x.length&&OA N (x.getD (Int.toNat (((x.length:Nat):Int) - 1)) 0) (λnr=>ah .i64 ((64*(((x.length:Nat):Int) - 1))+nr)&&k0 ((64*(((x.length:Nat):Int) - 1))+nr)))))))
def pz (N:Nat):LI->(Kz3)->Bool:=ax N (oF N)
def OU (N:Nat) (x:LI) (i:Int) (k0:Kz3):Bool:=
 (cond (decide (i<((x.length:Nat):Int))) (inR i x.length&&k0 (x.getD i.toNat 0)) (k0 0))
def xd (N:Nat):LI->Int->(Kz3)->Bool:=OU N
def vn (N:Nat) (x:LI) (from_:Int) (k0:Kz3):Bool:=
 (ah .i64 (Int.tdiv from_ 64)&&xd N x (Int.tdiv from_ 64) (λnr=>decide (0<=(IntKind.wrap .u64 (Int.tmod from_ 64)))&&(ah .i64 ((Int.tdiv from_ 64)+1)&&xd N x ((Int.tdiv from_ 64)+1) (λVs=>decide (0<=(IntKind.wrap .u64 (64 - (IntKind.wrap .u64 (Int.tmod from_ 64)))))&&k0 (aA .or .u64 (Int.fdiv nr (2 ^ (min (Int.toNat (IntKind.wrap .u64 (Int.tmod from_ 64))) 64))) (IntKind.wrap .u64 (Vs*2 ^ (min (Int.toNat (IntKind.wrap .u64 (64 - (IntKind.wrap .u64 (Int.tmod from_ 64))))) 64))))))))
def sJ (N:Nat):LI->Int->(Kz3)->Bool:=ax N (vn N)
def mZ (N:Nat) (t4 Zm YE YF:Int) (abN:Bool) (e0:Kx4):(Int × Int × Int × Int × Int × Int × Int × Int × Bool)->((Int × Int × Int × Int × Int × Int × Int × Int × Bool)->Bool)->Bool:=λv_ K=>match v_ with
 | (VD,Wa,u,v,w,w_1,YS,ZO,w_4)=>(cond ((decide (Wa>=v))==true) (cond (decide ((IntKind.wrap .u64 (VD - Wa))>=(IntKind.wrap .u64 (ZO+v)))) ((!decide (Wa=0))&&((!decide (Wa=0))&&K (Wa,(Int.tmod VD Wa),(IntKind.wrap .u64 (YS+(IntKind.wrap .u64 ((IntKind.wrap .u64 (Int.tdiv VD Wa))*u)))),(IntKind.wrap .u64 (ZO+(IntKind.wrap .u64 ((IntKind.wrap .u64 (Int.tdiv VD Wa))*v)))),YS,ZO,u,v,(!w_4)))) (e0 w w_1 YS ZO w_4)) (e0 w w_1 YS ZO w_4))
def wn (N:Nat) (x y:Int) (k0:Kx4):Bool:=
 (ai N (mZ N 0 0 0 0 false (λw_5 w_6 w_7 w_8 w_9=>k0 w_5 w_6 w_7 w_8 w_9)) (x,y,0,1,0,0,1,0,true))
def rj (N:Nat):Int->Int->(Kx4)->Bool:=ax N (wn N)
def JN (N:Nat) (x y:Int) (k0:Ky4):Bool:=
 (k0 (IntKind.wrap .u64 ((IntKind.wrap .u64 ((IntKind.wrap .u64 ((Int.fdiv x (2 ^ 32))*(Int.fdiv y (2 ^ 32))))+(Int.fdiv (IntKind.wrap .u64 ((IntKind.wrap .u64 ((Int.fdiv x (2 ^ 32))*(aA .and .u64 y 4294967295)))+(Int.fdiv (IntKind.wrap .u64 ((aA .and .u64 x 4294967295)*(aA .and .u64 y 4294967295))) (2 ^ 32)))) (2 ^ 32))))+(Int.fdiv (IntKind.wrap .u64 ((aA .and .u64 (IntKind.wrap .u64 ((IntKind.wrap .u64 ((Int.fdiv x (2 ^ 32))*(aA .and .u64 y 4294967295)))+(Int.fdiv (IntKind.wrap .u64 ((aA .and .u64 x 4294967295)*(aA .and .u64 y 4294967295))) (2 ^ 32)))) 4294967295)+(IntKind.wrap .u64 ((aA .and .u64 x 4294967295)*(Int.fdiv y (2 ^ 32)))))) (2 ^ 32)))) (IntKind.wrap .u64 (x*y)))
def D7 (N:Nat):Int->Int->(Ky4)->Bool:=ax N (JN N)
abbrev RH:=Int->Int->Int->(Ky4)->Bool
def sQ1 (N:Nat):RH:=λx y c k=>(decide (c.toNat<=1))&&k (((x.toNat+y.toNat+c.toNat)%18446744073709551616:Nat):Int) (((x.toNat+y.toNat+c.toNat) / 18446744073709551616:Nat):Int)
def tv (N:Nat) (a b c d:Int) (k0:Ky4):Bool:=
 (D7 N a b (λnr Vs=>sQ1 N Vs c 0 (λVy VR=>sQ1 N Vy d 0 (λVX n5=>k0 (IntKind.wrap .u64 ((IntKind.wrap .u64 (nr+VR))+n5)) VX))))
def kI (N:Nat):Int->Int->Int->Int->(Ky4)->Bool:=ax N (tv N)
def kZ (N:Nat) (VD:LI) (Wg:Int) (t14:LI) (t15:Int) (e0:Ky9):(Int × Int × LI)->((Int × Int × LI)->Bool)->Bool:=λv_ K=>match v_ with
 | (aaB,t16,z)=>(cond (decide (t16<t15)) (inR t16 t14.length&&kI N (t14.getD t16.toNat 0) Wg 0 aaB (λnr Vs=>inR t16 z.length&&(decide (t16.toNat<z.length)&&(ah .i64 (t16+1)&&K (nr,(t16+1),(z.set t16.toNat Vs)))))) (e0 aaB z))
def J6 (N:Nat) (x:LI) (d more:Int) (k0:Kz7):Bool:=
 (ah .i64 (((x.length:Nat):Int)+1)&&(jD 8 (((x.length:Nat):Int)+1) (((x.length:Nat):Int)+1)&&ai N (kZ N x d x ((x.length:Nat):Int) (λZw VY=>inR ((x.length:Nat):Int) VY.length&&(decide ((Int.toNat ((x.length:Nat):Int))<VY.length)&&va N (VY.set (Int.toNat ((x.length:Nat):Int)) Zw) (λmr=>decide ((0+mr)<=(List.length (VY.set (Int.toNat ((x.length:Nat):Int)) Zw)))&&k0 (List.take mr (List.drop 0 (VY.set (Int.toNat ((x.length:Nat):Int)) Zw))))))) (more,0,(List.replicate (Int.toNat (((x.length:Nat):Int)+1)) (0:Int)))))
def tm (N:Nat):LI->Int->Int->(Kz7)->Bool:=ax N (J6 N)
abbrev RI:=Int->Int->Int->(Ky4)->Bool
def sQ4 (N:Nat):RI:=λx y c k=>(decide (c.toNat<=1))&&k (((x.toNat+18446744073709551616 - y.toNat - c.toNat)%18446744073709551616:Nat):Int) (cond (decide (x.toNat<y.toNat+c.toNat)) 1 0)
def kY (N:Nat) (VD Wa:LI) (t12:Int) (e0:Kz7):(Int × Int × LI)->((Int × Int × LI)->Bool)->Bool:=λv_ K=>match v_ with
 | (borrow,t13,z)=>(cond (decide (t13<t12)) (inR t13 VD.length&&xd N Wa t13 (λnr=>sQ4 N (VD.getD t13.toNat 0) nr borrow (λVs Vy=>inR t13 z.length&&(decide (t13.toNat<z.length)&&(ah .i64 (t13+1)&&K (Vy,(t13+1),(z.set t13.toNat Vs))))))) (e0 z))
def Ke (N:Nat) (x y:LI) (k0:Kz7):Bool:=
 (jD 8 ((x.length:Nat):Int) ((x.length:Nat):Int)&&ai N (kY N x y ((x.length:Nat):Int) (λVY=>va N VY (λmr=>decide ((0+mr)<=VY.length)&&k0 (List.take mr (List.drop 0 VY))))) (0,0,(List.replicate (Int.toNat ((x.length:Nat):Int)) (0:Int))))
def xe (N:Nat):LI->LI->(Kz7)->Bool:=ax N (Ke N)
def dW (N:Nat) (w_0 w_1 YS ZO:Int) (w_4:Bool) (x y:LI) (k0:Kz1):Bool:=
 (cond w_4 (tm N y w_1 0 (λnsr=>tm N x w_0 0 (λVp=>xe N nsr Vp (λVv=>tm N x YS 0 (λVw=>tm N y ZO 0 (λVA=>xe N Vw VA (λVz=>k0 Vv Vz))))))) (tm N x w_0 0 (λs6=>tm N y w_1 0 (λs7=>xe N s6 s7 (λs8=>tm N y ZO 0 (λs9=>tm N x YS 0 (λs10=>xe N s9 s10 (λs11=>k0 s8 s11))))))))
def eA (N:Nat):Int->Int->Int->Int->Bool->LI->LI->(Kz1)->Bool:=ax N (dW N)
def SW (N:Nat) (x:Int) (k0:Kz3):Bool:=
 (OA N x (λnr=>ah .i64 (64 - nr)&&k0 (64 - nr)))
def On (N:Nat):Int->(Kz3)->Bool:=SW N
def wh (N:Nat) (Wa s yn1 yn0 un32 un1 un0:Int) (e0:Kz3):(Int × Int)->((Int × Int)->Bool)->Bool:=λv_ K=>match v_ with
 | (q1,rhat)=>(cond ((decide (q1>=4294967296))==false) (cond (decide ((IntKind.wrap .u64 (q1*yn0))>(IntKind.wrap .u64 ((IntKind.wrap .u64 (4294967296*rhat))+un1)))) (cond (decide ((IntKind.wrap .u64 (rhat+yn1))>=4294967296)) (e0 (IntKind.wrap .u64 (q1 - 1))) (K ((IntKind.wrap .u64 (q1 - 1)),(IntKind.wrap .u64 (rhat+yn1))))) (e0 q1)) (cond (decide ((IntKind.wrap .u64 (rhat+yn1))>=4294967296)) (e0 (IntKind.wrap .u64 (q1 - 1))) (K ((IntKind.wrap .u64 (q1 - 1)),(IntKind.wrap .u64 (rhat+yn1))))))
def wi (N:Nat) (WD VK Y0 aa2 aak abI un21:Int) (e0:Kz3):(Int × Int)->((Int × Int)->Bool)->Bool:=λv_ K=>match v_ with
 | (Yw,q0)=>(cond ((decide (q0>=4294967296))==false) (cond (decide ((IntKind.wrap .u64 (q0*aa2))>(IntKind.wrap .u64 ((IntKind.wrap .u64 (4294967296*Yw))+aak)))) (cond (decide ((IntKind.wrap .u64 (Yw+Y0))>=4294967296)) (e0 (IntKind.wrap .u64 (q0 - 1))) (K ((IntKind.wrap .u64 (Yw+Y0)),(IntKind.wrap .u64 (q0 - 1))))) (e0 q0)) (cond (decide ((IntKind.wrap .u64 (Yw+Y0))>=4294967296)) (e0 (IntKind.wrap .u64 (q0 - 1))) (K ((IntKind.wrap .u64 (Yw+Y0)),(IntKind.wrap .u64 (q0 - 1))))))
def JM (N:Nat) (hi lo y:Int) (k0:Ky4):Bool:=
 (cond (y==0) false (cond (decide (y<=hi)) false (cond (hi==0) ((!decide (y=0))&&((!decide (y=0))&&k0 (IntKind.wrap .u64 (Int.tdiv lo y)) (Int.tmod lo y))) (On N y (λnr=>decide (0<=(IntKind.wrap .u64 nr))&&(decide (0<=(IntKind.wrap .u64 nr))&&(decide (0<=(IntKind.wrap .u64 (64 - (IntKind.wrap .u64 nr))))&&(decide (0<=(IntKind.wrap .u64 nr))&&((!decide ((Int.fdiv (IntKind.wrap .u64 (y*2 ^ (min (Int.toNat (IntKind.wrap .u64 nr)) 64))) (2 ^ 32))=0))&&ai N (wh N (IntKind.wrap .u64 (y*2 ^ (min (Int.toNat (IntKind.wrap .u64 nr)) 64))) (IntKind.wrap .u64 nr) (Int.fdiv (IntKind.wrap .u64 (y*2 ^ (min (Int.toNat (IntKind.wrap .u64 nr)) 64))) (2 ^ 32)) (aA .and .u64 (IntKind.wrap .u64 (y*2 ^ (min (Int.toNat (IntKind.wrap .u64 nr)) 64))) 4294967295) (aA .or .u64 (IntKind.wrap .u64 (hi*2 ^ (min (Int.toNat (IntKind.wrap .u64 nr)) 64))) (Int.fdiv lo (2 ^ (min (Int.toNat (IntKind.wrap .u64 (64 - (IntKind.wrap .u64 nr)))) 64)))) (Int.fdiv (IntKind.wrap .u64 (lo*2 ^ (min (Int.toNat (IntKind.wrap .u64 nr)) 64))) (2 ^ 32)) (aA .and .u64 (IntKind.wrap .u64 (lo*2 ^ (min (Int.toNat (IntKind.wrap .u64 nr)) 64))) 4294967295) (λZy=>(!decide ((Int.fdiv (IntKind.wrap .u64 (y*2 ^ (min (Int.toNat (IntKind.wrap .u64 nr)) 64))) (2 ^ 32))=0))&&ai N (wi N (IntKind.wrap .u64 (y*2 ^ (min (Int.toNat (IntKind.wrap .u64 nr)) 64))) (IntKind.wrap .u64 nr) (Int.fdiv (IntKind.wrap .u64 (y*2 ^ (min (Int.toNat (IntKind.wrap .u64 nr)) 64))) (2 ^ 32)) (aA .and .u64 (IntKind.wrap .u64 (y*2 ^ (min (Int.toNat (IntKind.wrap .u64 nr)) 64))) 4294967295) (aA .and .u64 (IntKind.wrap .u64 (lo*2 ^ (min (Int.toNat (IntKind.wrap .u64 nr)) 64))) 4294967295) Zy (IntKind.wrap .u64 ((IntKind.wrap .u64 ((IntKind.wrap .u64 ((aA .or .u64 (IntKind.wrap .u64 (hi*2 ^ (min (Int.toNat (IntKind.wrap .u64 nr)) 64))) (Int.fdiv lo (2 ^ (min (Int.toNat (IntKind.wrap .u64 (64 - (IntKind.wrap .u64 nr)))) 64))))*4294967296))+(Int.fdiv (IntKind.wrap .u64 (lo*2 ^ (min (Int.toNat (IntKind.wrap .u64 nr)) 64))) (2 ^ 32)))) - (IntKind.wrap .u64 (Zy*(IntKind.wrap .u64 (y*2 ^ (min (Int.toNat (IntKind.wrap .u64 nr)) 64))))))) (λacA=>decide (0<=(IntKind.wrap .u64 nr))&&k0 (IntKind.wrap .u64 ((IntKind.wrap .u64 (Zy*4294967296))+acA)) (Int.fdiv (IntKind.wrap .u64 ((IntKind.wrap .u64 ((IntKind.wrap .u64 ((IntKind.wrap .u64 ((IntKind.wrap .u64 ((IntKind.wrap .u64 ((aA .or .u64 (IntKind.wrap .u64 (hi*2 ^ (min (Int.toNat (IntKind.wrap .u64 nr)) 64))) (Int.fdiv lo (2 ^ (min (Int.toNat (IntKind.wrap .u64 (64 - (IntKind.wrap .u64 nr)))) 64))))*4294967296))+(Int.fdiv (IntKind.wrap .u64 (lo*2 ^ (min (Int.toNat (IntKind.wrap .u64 nr)) 64))) (2 ^ 32)))) - (IntKind.wrap .u64 (Zy*(IntKind.wrap .u64 (y*2 ^ (min (Int.toNat (IntKind.wrap .u64 nr)) 64)))))))*4294967296))+(aA .and .u64 (IntKind.wrap .u64 (lo*2 ^ (min (Int.toNat (IntKind.wrap .u64 nr)) 64))) 4294967295))) - (IntKind.wrap .u64 (acA*(IntKind.wrap .u64 (y*2 ^ (min (Int.toNat (IntKind.wrap .u64 nr)) 64))))))) (2 ^ (min (Int.toNat (IntKind.wrap .u64 nr)) 64))))) ((IntKind.wrap .u64 ((IntKind.wrap .u64 ((IntKind.wrap .u64 ((IntKind.wrap .u64 ((aA .or .u64 (IntKind.wrap .u64 (hi*2 ^ (min (Int.toNat (IntKind.wrap .u64 nr)) 64))) (Int.fdiv lo (2 ^ (min (Int.toNat (IntKind.wrap .u64 (64 - (IntKind.wrap .u64 nr)))) 64))))*4294967296))+(Int.fdiv (IntKind.wrap .u64 (lo*2 ^ (min (Int.toNat (IntKind.wrap .u64 nr)) 64))) (2 ^ 32)))) - (IntKind.wrap .u64 (Zy*(IntKind.wrap .u64 (y*2 ^ (min (Int.toNat (IntKind.wrap .u64 nr)) 64))))))) - (IntKind.wrap .u64 ((IntKind.wrap .u64 (Int.tdiv (IntKind.wrap .u64 ((IntKind.wrap .u64 ((IntKind.wrap .u64 ((aA .or .u64 (IntKind.wrap .u64 (hi*2 ^ (min (Int.toNat (IntKind.wrap .u64 nr)) 64))) (Int.fdiv lo (2 ^ (min (Int.toNat (IntKind.wrap .u64 (64 - (IntKind.wrap .u64 nr)))) 64))))*4294967296))+(Int.fdiv (IntKind.wrap .u64 (lo*2 ^ (min (Int.toNat (IntKind.wrap .u64 nr)) 64))) (2 ^ 32)))) - (IntKind.wrap .u64 (Zy*(IntKind.wrap .u64 (y*2 ^ (min (Int.toNat (IntKind.wrap .u64 nr)) 64))))))) (Int.fdiv (IntKind.wrap .u64 (y*2 ^ (min (Int.toNat (IntKind.wrap .u64 nr)) 64))) (2 ^ 32))))*(Int.fdiv (IntKind.wrap .u64 (y*2 ^ (min (Int.toNat (IntKind.wrap .u64 nr)) 64))) (2 ^ 32)))))),(IntKind.wrap .u64 (Int.tdiv (IntKind.wrap .u64 ((IntKind.wrap .u64 ((IntKind.wrap .u64 ((aA .or .u64 (IntKind.wrap .u64 (hi*2 ^ (min (Int.toNat (IntKind.wrap .u64 nr)) 64))) (Int.fdiv lo (2 ^ (min (Int.toNat (IntKind.wrap .u64 (64 - (IntKind.wrap .u64 nr)))) 64))))*4294967296))+(Int.fdiv (IntKind.wrap .u64 (lo*2 ^ (min (Int.toNat (IntKind.wrap .u64 nr)) 64))) (2 ^ 32)))) - (IntKind.wrap .u64 (Zy*(IntKind.wrap .u64 (y*2 ^ (min (Int.toNat (IntKind.wrap .u64 nr)) 64))))))) (Int.fdiv (IntKind.wrap .u64 (y*2 ^ (min (Int.toNat (IntKind.wrap .u64 nr)) 64))) (2 ^ 32))))))) ((IntKind.wrap .u64 (Int.tdiv (aA .or .u64 (IntKind.wrap .u64 (hi*2 ^ (min (Int.toNat (IntKind.wrap .u64 nr)) 64))) (Int.fdiv lo (2 ^ (min (Int.toNat (IntKind.wrap .u64 (64 - (IntKind.wrap .u64 nr)))) 64)))) (Int.fdiv (IntKind.wrap .u64 (y*2 ^ (min (Int.toNat (IntKind.wrap .u64 nr)) 64))) (2 ^ 32)))),(IntKind.wrap .u64 ((aA .or .u64 (IntKind.wrap .u64 (hi*2 ^ (min (Int.toNat (IntKind.wrap .u64 nr)) 64))) (Int.fdiv lo (2 ^ (min (Int.toNat (IntKind.wrap .u64 (64 - (IntKind.wrap .u64 nr)))) 64)))) - (IntKind.wrap .u64 ((IntKind.wrap .u64 (Int.tdiv (aA .or .u64 (IntKind.wrap .u64 (hi*2 ^ (min (Int.toNat (IntKind.wrap .u64 nr)) 64))) (Int.fdiv lo (2 ^ (min (Int.toNat (IntKind.wrap .u64 (64 - (IntKind.wrap .u64 nr)))) 64)))) (Int.fdiv (IntKind.wrap .u64 (y*2 ^ (min (Int.toNat (IntKind.wrap .u64 nr)) 64))) (2 ^ 32))))*(Int.fdiv (IntKind.wrap .u64 (y*2 ^ (min (Int.toNat (IntKind.wrap .u64 nr)) 64))) (2 ^ 32))))))))))))))))
def D6 (N:Nat):Int->Int->Int->(Ky4)->Bool:=ax N (JM N)
def ke (N:Nat) (VD:LI) (Wg:Int) (e0:Ky9):(Int × Int × LI)->((Int × Int × LI)->Bool)->Bool:=λv_ K=>match v_ with
 | (rest,i,q)=>(cond (decide (i>=0)) (inR i VD.length&&D6 N rest (VD.getD i.toNat 0) Wg (λnr Vs=>inR i q.length&&(decide (i.toNat<q.length)&&(ah .i64 (i - 1)&&K (Vs,(i - 1),(q.set i.toNat nr)))))) (e0 rest q))
def qp (N:Nat) (x:LI) (d:Int) (k0:LI->Int->Bool):Bool:=
 (jD 8 ((x.length:Nat):Int) ((x.length:Nat):Int)&&(ah .i64 (((x.length:Nat):Int) - 1)&&ai N (ke N x d (λXq Zi=>va N Zi (λmr=>decide ((0+mr)<=Zi.length)&&k0 (List.take mr (List.drop 0 Zi)) Xq))) (0,(((x.length:Nat):Int) - 1),(List.replicate (Int.toNat ((x.length:Nat):Int)) (0:Int)))))
def nC (N:Nat):LI->Int->(LI->Int->Bool)->Bool:=ax N (qp N)
def m8 (N:Nat) (words rest:Int) (t24:LI) (t25:Int) (e0:Kz7):(Int × LI)->((Int × LI)->Bool)->Bool:=λv_ K=>match v_ with
 | (t26,z)=>(cond (decide (t26<t25)) (inR t26 t24.length&&(ah .i64 (words+t26)&&(inR (words+t26) z.length&&(decide ((Int.toNat (words+t26))<z.length)&&(decide (0<=rest)&&(inR (words+t26) z.length&&(decide ((Int.toNat (words+t26))<z.length)&&(ah .i64 (words+t26)&&(ah .i64 ((words+t26)+1)&&(decide (0<=(IntKind.wrap .u64 (64 - rest)))&&(inR ((words+t26)+1) (List.length (z.set (Int.toNat (words+t26)) (aA .or .u64 (z.getD (Int.toNat (words+t26)) 0) (IntKind.wrap .u64 ((t24.getD t26.toNat 0)*2 ^ (min rest.toNat 64))))))&&(decide ((Int.toNat ((words+t26)+1))<(List.length (z.set (Int.toNat (words+t26)) (aA .or .u64 (z.getD (Int.toNat (words+t26)) 0) (IntKind.wrap .u64 ((t24.getD t26.toNat 0)*2 ^ (min rest.toNat 64)))))))&&(ah .i64 (t26+1)&&K ((t26+1),(List.set (z.set (Int.toNat (words+t26)) (aA .or .u64 (z.getD (Int.toNat (words+t26)) 0) (IntKind.wrap .u64 ((t24.getD t26.toNat 0)*2 ^ (min rest.toNat 64))))) (Int.toNat ((words+t26)+1)) (Int.fdiv (t24.getD t26.toNat 0) (2 ^ (min (Int.toNat (IntKind.wrap .u64 (64 - rest))) 64)))))))))))))))))) (e0 z))
def JC (N:Nat) (x:LI) (n:Int) (k0:Bool) (k1:Kz0):Bool:=
 (cond (((x.length:Nat):Int)==0) k0 (ah .i64 (IntKind.wrap .u64 (Int.tdiv n 64))&&(ah .i64 ((IntKind.wrap .u64 (Int.tdiv n 64))+((x.length:Nat):Int))&&(ah .i64 (((IntKind.wrap .u64 (Int.tdiv n 64))+((x.length:Nat):Int))+1)&&(jD 8 (((IntKind.wrap .u64 (Int.tdiv n 64))+((x.length:Nat):Int))+1) (((IntKind.wrap .u64 (Int.tdiv n 64))+((x.length:Nat):Int))+1)&&ai N (m8 N (IntKind.wrap .u64 (Int.tdiv n 64)) (Int.tmod n 64) x ((x.length:Nat):Int) (λVY=>va N VY (λmr=>k1 mr VY))) (0,(List.replicate (Int.toNat (((IntKind.wrap .u64 (Int.tdiv n 64))+((x.length:Nat):Int))+1)) (0:Int))))))))
def D2 (N:Nat):LI->Int->(Bool)->(Kz0)->Bool:=ax N (JC N)
def oB (N u Wz:Nat) (Wj:LI) (n:Int) (WO:LI) (e0:Kz3):(Int × Int)->((Int × Int)->Bool)->Bool:=λv_ K=>match v_ with
 | (q,rest)=>(ah .i64 (n - 2)&&(inR (n - 2) Wj.length&&D7 N q (Wj.getD (Int.toNat (n - 2)) 0) (λVy VR=>cond ((decide (Vy<rest))==false) (cond ((Vy==rest)==true) (ah .i64 (n - 2)&&(inR (n - 2) Wz&&(decide ((u+(Int.toNat (n - 2)))<WO.length)&&cond (decide (VR<=(WO.getD (u+(Int.toNat (n - 2))) 0))) (e0 q) (ah .i64 (n - 1)&&(inR (n - 1) Wj.length&&sQ1 N rest (Wj.getD (Int.toNat (n - 1)) 0) 0 (λVX n5=>cond (n5 != 0) (e0 (IntKind.wrap .u64 (q - 1))) (K ((IntKind.wrap .u64 (q - 1)),VX)))))))) (ah .i64 (n - 1)&&(inR (n - 1) Wj.length&&sQ1 N rest (Wj.getD (Int.toNat (n - 1)) 0) 0 (λn6 n7=>cond (n7 != 0) (e0 (IntKind.wrap .u64 (q - 1))) (K ((IntKind.wrap .u64 (q - 1)),n6)))))) (e0 q))))
def sU (N Wo Wb:Nat) (v b:LI) (k0:Kz3):Bool:=
 (inR ((v.length:Nat):Int) Wb&&(decide ((Wo+(Int.toNat ((v.length:Nat):Int)))<b.length)&&(ah .i64 (((v.length:Nat):Int) - 1)&&(inR (((v.length:Nat):Int) - 1) v.length&&cond (decide ((b.getD (Wo+(Int.toNat ((v.length:Nat):Int))) 0)>=(v.getD (Int.toNat (((v.length:Nat):Int) - 1)) 0))) (k0 18446744073709551615) (inR ((v.length:Nat):Int) Wb&&(decide ((Wo+(Int.toNat ((v.length:Nat):Int)))<b.length)&&(ah .i64 (((v.length:Nat):Int) - 1)&&(inR (((v.length:Nat):Int) - 1) Wb&&(decide ((Wo+(Int.toNat (((v.length:Nat):Int) - 1)))<b.length)&&(ah .i64 (((v.length:Nat):Int) - 1)&&(inR (((v.length:Nat):Int) - 1) v.length&&D6 N (b.getD (Wo+(Int.toNat ((v.length:Nat):Int))) 0) (b.getD (Wo+(Int.toNat (((v.length:Nat):Int) - 1))) 0) (v.getD (Int.toNat (((v.length:Nat):Int) - 1)) 0) (λnr Vs=>ai N (oB N Wo Wb v ((v.length:Nat):Int) b (λt4=>k0 t4)) (nr,Vs)))))))))))))
def Ah (N:Nat):Nat->Nat->LI->LI->(Kz3)->Bool:=ax N (sU N)
def qj (N u Wz:Nat) (Wj:LI) (n q t17:Int) (e0:Int->Int->LI->Bool):(Int × Int × Int × LI)->((Int × Int × Int × LI)->Bool)->Bool:=λv_ K=>match v_ with
 | (carry,borrow,t18,WO)=>(cond (decide (t18<t17)) (inR t18 Wj.length&&kI N q (Wj.getD t18.toNat 0) 0 carry (λVs Vy=>inR t18 Wz&&(decide ((u+t18.toNat)<WO.length)&&sQ4 N (WO.getD (u+t18.toNat) 0) Vy borrow (λVR VX=>inR t18 Wz&&(decide ((u+t18.toNat)<WO.length)&&(ah .i64 (t18+1)&&K (Vs,VX,(t18+1),(WO.set (u+t18.toNat) VR)))))))) (e0 carry borrow WO))
def qm (N Zb Ze:Nat) (Yj:LI) (XE q_2 WG t60:Int) (e0:Ky9):(Int × Int × LI)->((Int × Int × LI)->Bool)->Bool:=λv_ K=>match v_ with
 | (WB,t61,W4)=>(cond (decide (t61<t60)) (inR t61 Ze&&(decide ((Zb+t61.toNat)<W4.length)&&(inR t61 Yj.length&&sQ1 N (W4.getD (Zb+t61.toNat) 0) (Yj.getD t61.toNat 0) WB (λn7 n8=>inR t61 Ze&&(decide ((Zb+t61.toNat)<W4.length)&&(ah .i64 (t61+1)&&K (n8,(t61+1),(W4.set (Zb+t61.toNat) n7)))))))) (e0 WB W4))
def qk (N YR YN:Nat) (XD:LI) (Wc:Int) (e0:Ky9):(Int × Int × LI)->((Int × Int × LI)->Bool)->Bool:=λv_ K=>match v_ with
 | (Zi,WF,u_7)=>(cond (WF != 0) (ai N (qm N YR YN XD Wc Zi WF Wc (λY4 Xd=>inR Wc YN&&(decide ((YR+Wc.toNat)<Xd.length)&&sQ1 N (Xd.getD (YR+Wc.toNat) 0) 0 Y4 (λn9 n10=>inR Wc YN&&(decide ((YR+Wc.toNat)<Xd.length)&&K ((IntKind.wrap .u64 (Zi - 1)),(IntKind.wrap .u64 (WF - n10)),(Xd.set (YR+Wc.toNat) n9))))))) (0,0,u_7)) (e0 Zi u_7))
def ut (N Wo Wb:Nat) (v b:LI) (k0:Ky9):Bool:=
 (Ah N Wo Wb v b (λnr=>ai N (qj N Wo Wb v ((v.length:Nat):Int) nr ((v.length:Nat):Int) (λVQ WV Yk=>inR ((v.length:Nat):Int) Wb&&(decide ((Wo+(Int.toNat ((v.length:Nat):Int)))<Yk.length)&&sQ4 N (Yk.getD (Wo+(Int.toNat ((v.length:Nat):Int))) 0) VQ WV (λn5 n6=>inR ((v.length:Nat):Int) Wb&&(decide ((Wo+(Int.toNat ((v.length:Nat):Int)))<Yk.length)&&ai N (qk N Wo Wb v ((v.length:Nat):Int) (λq_3 b0=>k0 q_3 b0)) (nr,n6,(Yk.set (Wo+(Int.toNat ((v.length:Nat):Int))) n5))))))) (0,0,0,b)))
def B4 (N:Nat):Nat->Nat->LI->LI->(Ky9)->Bool:=ax N (ut N)
def rG (N u Wz v XD:Nat) (n:Int) (WO Yj:LI) (e0:Kz3):(Int × Int)->((Int × Int)->Bool)->Bool:=λv_ K=>match v_ with
 | (q,rest)=>(ah .i64 (n - 2)&&(inR (n - 2) XD&&(decide ((v+(Int.toNat (n - 2)))<Yj.length)&&D7 N q (Yj.getD (v+(Int.toNat (n - 2))) 0) (λVy VR=>cond ((decide (Vy<rest))==false) (cond ((Vy==rest)==true) (ah .i64 (n - 2)&&(inR (n - 2) Wz&&(decide ((u+(Int.toNat (n - 2)))<WO.length)&&cond (decide (VR<=(WO.getD (u+(Int.toNat (n - 2))) 0))) (e0 q) (ah .i64 (n - 1)&&(inR (n - 1) XD&&(decide ((v+(Int.toNat (n - 1)))<Yj.length)&&sQ1 N rest (Yj.getD (v+(Int.toNat (n - 1))) 0) 0 (λVX n5=>cond (n5 != 0) (e0 (IntKind.wrap .u64 (q - 1))) (K ((IntKind.wrap .u64 (q - 1)),VX))))))))) (ah .i64 (n - 1)&&(inR (n - 1) XD&&(decide ((v+(Int.toNat (n - 1)))<Yj.length)&&sQ1 N rest (Yj.getD (v+(Int.toNat (n - 1))) 0) 0 (λn6 n7=>cond (n7 != 0) (e0 (IntKind.wrap .u64 (q - 1))) (K ((IntKind.wrap .u64 (q - 1)),n6))))))) (e0 q)))))
def Gp (N Wo Wb v_0 Wj:Nat) (b Vo:LI) (k0:Kz3):Bool:=
 (inR ((Wj:Nat):Int) Wb&&(decide ((Wo+(Int.toNat ((Wj:Nat):Int)))<b.length)&&(ah .i64 (((Wj:Nat):Int) - 1)&&(inR (((Wj:Nat):Int) - 1) Wj&&(decide ((v_0+(Int.toNat (((Wj:Nat):Int) - 1)))<Vo.length)&&cond (decide ((b.getD (Wo+(Int.toNat ((Wj:Nat):Int))) 0)>=(Vo.getD (v_0+(Int.toNat (((Wj:Nat):Int) - 1))) 0))) (k0 18446744073709551615) (inR ((Wj:Nat):Int) Wb&&(decide ((Wo+(Int.toNat ((Wj:Nat):Int)))<b.length)&&(ah .i64 (((Wj:Nat):Int) - 1)&&(inR (((Wj:Nat):Int) - 1) Wb&&(decide ((Wo+(Int.toNat (((Wj:Nat):Int) - 1)))<b.length)&&(ah .i64 (((Wj:Nat):Int) - 1)&&(inR (((Wj:Nat):Int) - 1) Wj&&(decide ((v_0+(Int.toNat (((Wj:Nat):Int) - 1)))<Vo.length)&&D6 N (b.getD (Wo+(Int.toNat ((Wj:Nat):Int))) 0) (b.getD (Wo+(Int.toNat (((Wj:Nat):Int) - 1))) 0) (Vo.getD (v_0+(Int.toNat (((Wj:Nat):Int) - 1))) 0) (λnr Vs=>ai N (rG N Wo Wb v_0 Wj ((Wj:Nat):Int) b Vo (λt4=>k0 t4)) (nr,Vs)))))))))))))))
def Hi (N:Nat):Nat->Nat->Nat->Nat->LI->LI->(Kz3)->Bool:=ax N (Gp N)
def gN (N u Wz v XD:Nat) (n q t17:Int) (Yj:LI) (e0:Int->Int->LI->Bool):(Int × Int × Int × LI)->((Int × Int × Int × LI)->Bool)->Bool:=λv_ K=>match v_ with
 | (carry,borrow,t18,WO)=>(cond (decide (t18<t17)) (inR t18 XD&&(decide ((v+t18.toNat)<Yj.length)&&kI N q (Yj.getD (v+t18.toNat) 0) 0 carry (λVs Vy=>inR t18 Wz&&(decide ((u+t18.toNat)<WO.length)&&sQ4 N (WO.getD (u+t18.toNat) 0) Vy borrow (λVR VX=>inR t18 Wz&&(decide ((u+t18.toNat)<WO.length)&&(ah .i64 (t18+1)&&K (Vs,VX,(t18+1),(WO.set (u+t18.toNat) VR))))))))) (e0 carry borrow WO))
def gP (N Zb Ze v_7 v_8:Nat) (XE q_2 WG t60:Int) (v_9:LI) (e0:Ky9):(Int × Int × LI)->((Int × Int × LI)->Bool)->Bool:=λv_ K=>match v_ with
 | (WB,t61,W4)=>(cond (decide (t61<t60)) (inR t61 Ze&&(decide ((Zb+t61.toNat)<W4.length)&&(inR t61 v_8&&(decide ((v_7+t61.toNat)<v_9.length)&&sQ1 N (W4.getD (Zb+t61.toNat) 0) (v_9.getD (v_7+t61.toNat) 0) WB (λn7 n8=>inR t61 Ze&&(decide ((Zb+t61.toNat)<W4.length)&&(ah .i64 (t61+1)&&K (n8,(t61+1),(W4.set (Zb+t61.toNat) n7))))))))) (e0 WB W4))
def rD (N YR YN v_4 v_5:Nat) (Wc:Int) (v_6:LI) (e0:Ky9):(Int × Int × LI)->((Int × Int × LI)->Bool)->Bool:=λv_ K=>match v_ with
 | (Zi,WF,u_7)=>(cond (WF != 0) (ai N (gP N YR YN v_4 v_5 Wc Zi WF Wc v_6 (λY4 Xd=>inR Wc YN&&(decide ((YR+Wc.toNat)<Xd.length)&&sQ1 N (Xd.getD (YR+Wc.toNat) 0) 0 Y4 (λn9 n10=>inR Wc YN&&(decide ((YR+Wc.toNat)<Xd.length)&&K ((IntKind.wrap .u64 (Zi - 1)),(IntKind.wrap .u64 (WF - n10)),(Xd.set (YR+Wc.toNat) n9))))))) (0,0,u_7)) (e0 Zi u_7))
def J7 (N Wo Wb v_0 Wj:Nat) (b Vo:LI) (k0:Ky9):Bool:=
 (Hi N Wo Wb v_0 Wj b Vo (λnr=>ai N (gN N Wo Wb v_0 Wj ((Wj:Nat):Int) nr ((Wj:Nat):Int) Vo (λVQ WV Yk=>inR ((Wj:Nat):Int) Wb&&(decide ((Wo+(Int.toNat ((Wj:Nat):Int)))<Yk.length)&&sQ4 N (Yk.getD (Wo+(Int.toNat ((Wj:Nat):Int))) 0) VQ WV (λn5 n6=>inR ((Wj:Nat):Int) Wb&&(decide ((Wo+(Int.toNat ((Wj:Nat):Int)))<Yk.length)&&ai N (rD N Wo Wb v_0 Wj ((Wj:Nat):Int) Vo (λq_3 b0=>k0 q_3 b0)) (nr,n6,(Yk.set (Wo+(Int.toNat ((Wj:Nat):Int))) n5))))))) (0,0,0,b)))
def Mv (N:Nat):Nat->Nat->Nat->Nat->LI->LI->(Ky9)->Bool:=ax N (J7 N)
def um (N x V0:Nat) (V7:LI) (e0:Kz3):(Int)->((Int)->Bool)->Bool:=λv_ K=>match v_ with
 | n=>(cond ((decide (n>0))==true) (ah .i64 (n - 1)&&(inR (n - 1) V0&&(decide ((x+(Int.toNat (n - 1)))<V7.length)&&cond ((V7.getD (x+(Int.toNat (n - 1))) 0)==0) (ah .i64 (n - 1)&&K (n - 1)) (e0 n)))) (e0 n))
def oG (N V6 VD:Nat) (b:LI) (k0:Kz4):Bool:=
 (ai N (um N V6 VD b (λWc=>decide (0<=Wc/\Wc<=((VD:Nat):Int))&&k0 (Wc.toNat - 0))) ((VD:Nat):Int))
def pA (N:Nat):Nat->Nat->LI->(Kz4)->Bool:=ax N (oG N)
def OY (N V6 VD:Nat) (i:Int) (b:LI) (k0:Kz3):Bool:=
 (cond (decide (i<((VD:Nat):Int))) (inR i VD&&(decide ((V6+i.toNat)<b.length)&&k0 (b.getD (V6+i.toNat) 0))) (k0 0))
def Hq (N:Nat):Nat->Nat->Int->LI->(Kz3)->Bool:=OY N
def kP (N x V0:Nat) (words rest:Int) (t37 aaV:Nat) (t38:Int) (V7:LI) (e0:Kz3):(Int × Int)->((Int × Int)->Bool)->Bool:=λv_ K=>match v_ with
 | (lost,t39)=>(cond (decide (t39<t38)) (inR t39 aaV&&(decide ((t37+t39.toNat)<V7.length)&&(ah .i64 (t39+1)&&K ((aA .or .u64 lost (V7.getD (t37+t39.toNat) 0)),(t39+1))))) (e0 lost))
def iA (N x_4 x_5:Nat) (Xe Xq Zv t53:Int) (x_6:LI) (e0:Kz7):(Int × LI)->((Int × LI)->Bool)->Bool:=λv_ K=>match v_ with
 | (t54,z)=>(cond (decide (t54<t53)) (ah .i64 (Xe+t54)&&Hq N x_4 x_5 (Xe+t54) x_6 (λnr=>decide (0<=Xq)&&(ah .i64 (Xe+t54)&&(ah .i64 ((Xe+t54)+1)&&Hq N x_4 x_5 ((Xe+t54)+1) x_6 (λVs=>decide (0<=(IntKind.wrap .u64 (64 - Xq)))&&(inR t54 z.length&&(decide (t54.toNat<z.length)&&(ah .i64 (t54+1)&&K ((t54+1),(z.set t54.toNat (aA .or .u64 (Int.fdiv nr (2 ^ (min Xq.toNat 64))) (IntKind.wrap .u64 (Vs*2 ^ (min (Int.toNat (IntKind.wrap .u64 (64 - Xq))) 64)))))))))))))) (e0 z))
def Gr (N V6 VD:Nat) (n:Int) (b:LI) (k0:LI->Bool->Bool):Bool:=
 (cond (decide ((IntKind.wrap .u64 (Int.tdiv n 64))>=(IntKind.wrap .u64 ((VD:Nat):Int)))) (k0 [] (decide (((VD:Nat):Int)>0))) (ah .i64 (IntKind.wrap .u64 (Int.tdiv n 64))&&(inR (IntKind.wrap .u64 (Int.tdiv n 64)) VD&&(decide ((V6+(Int.toNat (IntKind.wrap .u64 (Int.tdiv n 64))))<b.length)&&(decide (0<=(Int.tmod n 64))&&(decide (0<=(IntKind.wrap .u64 (Int.tdiv n 64))/\(IntKind.wrap .u64 (Int.tdiv n 64))<=((VD:Nat):Int))&&ai N (kP N V6 VD (IntKind.wrap .u64 (Int.tdiv n 64)) (Int.tmod n 64) V6 ((Int.toNat (IntKind.wrap .u64 (Int.tdiv n 64))) - 0) ((((Int.toNat (IntKind.wrap .u64 (Int.tdiv n 64))) - 0):Nat):Int) b (λaaA=>ah .i64 (((VD:Nat):Int) - (IntKind.wrap .u64 (Int.tdiv n 64)))&&(jD 8 (((VD:Nat):Int) - (IntKind.wrap .u64 (Int.tdiv n 64))) (((VD:Nat):Int) - (IntKind.wrap .u64 (Int.tdiv n 64)))&&ai N (iA N V6 VD (IntKind.wrap .u64 (Int.tdiv n 64)) (Int.tmod n 64) aaA (((List.length (List.replicate (Int.toNat (((VD:Nat):Int) - (IntKind.wrap .u64 (Int.tdiv n 64)))) (0:Int))):Nat):Int) b (λVY=>va N VY (λmr=>decide ((0+mr)<=VY.length)&&k0 (List.take mr (List.drop 0 VY)) (aaA != 0)))) (0,(List.replicate (Int.toNat (((VD:Nat):Int) - (IntKind.wrap .u64 (Int.tdiv n 64)))) (0:Int)))))) ((aA .and .u64 (b.getD (V6+(Int.toNat (IntKind.wrap .u64 (Int.tdiv n 64)))) 0) (IntKind.wrap .u64 ((IntKind.wrap .u64 ((1:Int)*2 ^ (min (Int.toNat (Int.tmod n 64)) 64))) - 1))),0)))))))
def Hn (N:Nat):Nat->Nat->Int->LI->(LI->Bool->Bool)->Bool:=ax N (Gr N)
def MX (N:Nat) (up:Int) (u Wb:Nat) (n:Int) (e0:Kz1):(Int × LI × LI)->((Int × LI × LI)->Bool)->Bool:=λv_ K=>match v_ with
 | (j,Wz,q)=>(cond (decide (j>=0)) (ah .i64 (j+n)&&(ah .i64 ((j+n)+1)&&(decide (0<=j/\j<=((j+n)+1)/\((j+n)+1)<=((Wb:Nat):Int))&&B4 N (u+j.toNat) ((Int.toNat ((j+n)+1)) - j.toNat) [] Wz (λVR s6=>inR j q.length&&(decide (j.toNat<q.length)&&(ah .i64 (j - 1)&&K ((j - 1),s6,(q.set j.toNat VR)))))))) (e0 Wz q))
def zI (N:Nat) (ab7:Int) (v Wj YR YN:Nat) (Wc:Int) (XD:LI) (e0:Kz1):(Int × LI × LI)->((Int × LI × LI)->Bool)->Bool:=λv_ K=>match v_ with
 | (V9,u_7,q_3)=>(cond (decide (V9>=0)) (ah .i64 (V9+Wc)&&(ah .i64 ((V9+Wc)+1)&&(decide (0<=V9/\V9<=((V9+Wc)+1)/\((V9+Wc)+1)<=((YN:Nat):Int))&&Mv N (YR+V9.toNat) ((Int.toNat ((V9+Wc)+1)) - V9.toNat) v Wj u_7 XD (λVX s7=>inR V9 q_3.length&&(decide (V9.toNat<q_3.length)&&(ah .i64 (V9 - 1)&&K ((V9 - 1),s7,(q_3.set V9.toNat VX)))))))) (e0 u_7 q_3))
def Kn (N:Nat) (x y:LI) (ac7:Int) (W4:Nat) (Xd q_6:LI) (k0:Kz1):Bool:=
 (pA N 0 W4 Xd (λWW=>Hn N 0 WW ac7 Xd (λs8 cr=>va N q_6 (λaaC=>decide ((0+aaC)<=q_6.length)&&k0 (List.take aaC (List.drop 0 q_6)) s8))))
def Ki (N:Nat) (x y:LI) (k0:Kz1):Bool:=
 (A9 N x y (λnr=>cond (decide (nr<0)) (qf N x (λnsr=>k0 [] nsr)) (cond (((y.length:Nat):Int)==1) (inR 0 y.length&&nC N x (y.getD 0 0) (λVp Vs=>jm N Vs (λVv=>k0 Vp Vv))) (ah .i64 (((y.length:Nat):Int) - 1)&&(inR (((y.length:Nat):Int) - 1) y.length&&On N (y.getD (Int.toNat (((y.length:Nat):Int) - 1)) 0) (λVy=>D2 N y (IntKind.wrap .u64 Vy) (D2 N x (IntKind.wrap .u64 Vy) (ah .i64 (((x.length:Nat):Int)+1)&&(decide (0<=(((x.length:Nat):Int)+1)/\(((x.length:Nat):Int)+1)<=2)&&(ah .i64 (((((Int.toNat (((x.length:Nat):Int)+1)) - 0):Nat):Int) - 0)&&(jD 8 (((((Int.toNat (((x.length:Nat):Int)+1)) - 0):Nat):Int) - 0) (((((Int.toNat (((x.length:Nat):Int)+1)) - 0):Nat):Int) - 0)&&(ah .i64 (((((Int.toNat (((x.length:Nat):Int)+1)) - 0):Nat):Int) - 0)&&(ah .i64 ((((((Int.toNat (((x.length:Nat):Int)+1)) - 0):Nat):Int) - 0) - 1)&&ai N (MX N (IntKind.wrap .u64 Vy) 0 ((Int.toNat (((x.length:Nat):Int)+1)) - 0) 0 (λWO Zi=>Kn N x y (IntKind.wrap .u64 Vy) ((Int.toNat (((x.length:Nat):Int)+1)) - 0) WO Zi k0)) (((((((Int.toNat (((x.length:Nat):Int)+1)) - 0):Nat):Int) - 0) - 1),([]++[0,0]),(List.replicate (Int.toNat (((((Int.toNat (((x.length:Nat):Int)+1)) - 0):Nat):Int) - 0)) (0:Int))))))))) (λWi VA=>decide ((0+Wi)<=VA.length)&&(decide ((List.length ((List.take Wi (List.drop 0 VA))++[0,0]))*8<=140737488355328)&&(ah .i64 (((x.length:Nat):Int)+1)&&(decide (0<=(((x.length:Nat):Int)+1)/\(((x.length:Nat):Int)+1)<=(((List.length ((List.take Wi (List.drop 0 VA))++[0,0])):Nat):Int))&&(ah .i64 (((((Int.toNat (((x.length:Nat):Int)+1)) - 0):Nat):Int) - 0)&&(jD 8 (((((Int.toNat (((x.length:Nat):Int)+1)) - 0):Nat):Int) - 0) (((((Int.toNat (((x.length:Nat):Int)+1)) - 0):Nat):Int) - 0)&&(ah .i64 (((((Int.toNat (((x.length:Nat):Int)+1)) - 0):Nat):Int) - 0)&&(ah .i64 ((((((Int.toNat (((x.length:Nat):Int)+1)) - 0):Nat):Int) - 0) - 1)&&ai N (MX N (IntKind.wrap .u64 Vy) 0 ((Int.toNat (((x.length:Nat):Int)+1)) - 0) 0 (λYk q_2=>Kn N x y (IntKind.wrap .u64 Vy) ((Int.toNat (((x.length:Nat):Int)+1)) - 0) Yk q_2 k0)) (((((((Int.toNat (((x.length:Nat):Int)+1)) - 0):Nat):Int) - 0) - 1),((List.take Wi (List.drop 0 VA))++[0,0]),(List.replicate (Int.toNat (((((Int.toNat (((x.length:Nat):Int)+1)) - 0):Nat):Int) - 0)) (0:Int)))))))))))) (λmr Vw=>D2 N x (IntKind.wrap .u64 Vy) (ah .i64 (((x.length:Nat):Int)+1)&&(decide (0<=(((x.length:Nat):Int)+1)/\(((x.length:Nat):Int)+1)<=2)&&(ah .i64 (((((Int.toNat (((x.length:Nat):Int)+1)) - 0):Nat):Int) - ((mr:Nat):Int))&&(jD 8 (((((Int.toNat (((x.length:Nat):Int)+1)) - 0):Nat):Int) - ((mr:Nat):Int)) (((((Int.toNat (((x.length:Nat):Int)+1)) - 0):Nat):Int) - ((mr:Nat):Int))&&(ah .i64 (((((Int.toNat (((x.length:Nat):Int)+1)) - 0):Nat):Int) - ((mr:Nat):Int))&&(ah .i64 ((((((Int.toNat (((x.length:Nat):Int)+1)) - 0):Nat):Int) - ((mr:Nat):Int)) - 1)&&ai N (zI N (IntKind.wrap .u64 Vy) 0 mr 0 ((Int.toNat (((x.length:Nat):Int)+1)) - 0) ((mr:Nat):Int) Vw (λZb q_4=>Kn N x y (IntKind.wrap .u64 Vy) ((Int.toNat (((x.length:Nat):Int)+1)) - 0) Zb q_4 k0)) (((((((Int.toNat (((x.length:Nat):Int)+1)) - 0):Nat):Int) - ((mr:Nat):Int)) - 1),([]++[0,0]),(List.replicate (Int.toNat (((((Int.toNat (((x.length:Nat):Int)+1)) - 0):Nat):Int) - ((mr:Nat):Int))) (0:Int))))))))) (λVG Vz=>decide ((0+VG)<=Vz.length)&&(decide ((List.length ((List.take VG (List.drop 0 Vz))++[0,0]))*8<=140737488355328)&&(ah .i64 (((x.length:Nat):Int)+1)&&(decide (0<=(((x.length:Nat):Int)+1)/\(((x.length:Nat):Int)+1)<=(((List.length ((List.take VG (List.drop 0 Vz))++[0,0])):Nat):Int))&&(ah .i64 (((((Int.toNat (((x.length:Nat):Int)+1)) - 0):Nat):Int) - ((mr:Nat):Int))&&(jD 8 (((((Int.toNat (((x.length:Nat):Int)+1)) - 0):Nat):Int) - ((mr:Nat):Int)) (((((Int.toNat (((x.length:Nat):Int)+1)) - 0):Nat):Int) - ((mr:Nat):Int))&&(ah .i64 (((((Int.toNat (((x.length:Nat):Int)+1)) - 0):Nat):Int) - ((mr:Nat):Int))&&(ah .i64 ((((((Int.toNat (((x.length:Nat):Int)+1)) - 0):Nat):Int) - ((mr:Nat):Int)) - 1)&&ai N (zI N (IntKind.wrap .u64 Vy) 0 mr 0 ((Int.toNat (((x.length:Nat):Int)+1)) - 0) ((mr:Nat):Int) Vw (λZe q_5=>Kn N x y (IntKind.wrap .u64 Vy) ((Int.toNat (((x.length:Nat):Int)+1)) - 0) Ze q_5 k0)) (((((((Int.toNat (((x.length:Nat):Int)+1)) - 0):Nat):Int) - ((mr:Nat):Int)) - 1),((List.take VG (List.drop 0 Vz))++[0,0]),(List.replicate (Int.toNat (((((Int.toNat (((x.length:Nat):Int)+1)) - 0):Nat):Int) - ((mr:Nat):Int))) (0:Int))))))))))))))))))
def zA (N:Nat):LI->LI->(Kz1)->Bool:=ax N (Ki N)
def Am (N:Nat) (x:LI) (k0:Kz3):Bool:=
 (xd N x 0 (λnr=>k0 nr))
def sI (N:Nat):LI->(Kz3)->Bool:=Am N
def Eu (N:Nat) (e0:Kz1):(LI × LI)->((LI × LI)->Bool)->Bool:=λv_ K=>match v_ with
 | (V0,WD)=>(cond (decide (((WD.length:Nat):Int)>1)) (pz N V0 (λVs=>ah .i64 (Vs - 64)&&sJ N V0 (Vs - 64) (λVy=>sJ N WD (Vs - 64) (λVR=>rj N Vy VR (λVX n5 n6 n7 cr=>cond (n5 != 0) (eA N VX n5 n6 n7 cr V0 WD (λnsr Vp=>K (nsr,Vp))) (zA N V0 WD (λVv Vw=>K (WD,Vw)))))))) (e0 V0 WD))
def fz (N:Nat) (e0:Kz3):(Int × Int)->((Int × Int)->Bool)->Bool:=λv_ K=>match v_ with
 | (a,b)=>(cond (decide (b>0)) ((!decide (b=0))&&K (b,(Int.tmod a b))) (e0 a))
def wz (N:Nat) (x y x_4 y_4:LI) (k0:Kz7):Bool:=
 (cond (((y_4.length:Nat):Int)==0) (k0 x_4) (sI N x_4 (λn8=>sI N y_4 (λn9=>ai N (fz N (λVL=>jm N VL (λs6=>k0 s6))) (n8,n9)))))
def Nh (N:Nat) (x y VD Wa:LI) (k0:Kz7):Bool:=
 (ai N (Eu N (λV7 Xk=>cond ((decide (((Xk.length:Nat):Int)>0))==true) (cond (decide (((V7.length:Nat):Int)>1)) (zA N V7 Xk (λVA Vz=>wz N x y Xk Vz k0)) (wz N x y V7 Xk k0)) (wz N x y V7 Xk k0))) (VD,Wa))
def P1 (N:Nat) (x y:LI) (k0:Kz7):Bool:=
 (A9 N x y (λnr=>cond (decide (nr<0)) (Nh N x y y x k0) (Nh N x y x y k0)))
def Af (N:Nat):LI->LI->(Kz7)->Bool:=ax N (P1 N)
def Nd (N:Nat) (neg:Bool) (abs:LI) (b Vo:Bool) (k0:Ky5):Bool:=
 (cond (neg==true) (k0 (decide (((abs.length:Nat):Int)>0)) []) (k0 false []))
def I7 (N:Nat):Bool->LI->Bool->Bool->(Ky5)->Bool:=Nd N
def PZ (N:Nat) (neg:Bool) (abs:LI) (b:Bool) (Vo:LI) (Vq:Bool) (Vu:LI) (k0:Kz2):Bool:=
 (cond (neg==true) (k0 (decide (((abs.length:Nat):Int)>0))) (k0 false))
def Ou (N:Nat):Bool->LI->Bool->LI->Bool->LI->(Kz2)->Bool:=PZ N
def Gu (N:Nat) (neg:Bool) (a b:LI) (Vo Vq:Bool) (VL Vu:LI) (k0:Kx8):Bool:=
 (qf N VL (λVz=>I7 N neg Vz Vo Vq (λcr s6=>qf N Vu (λs7=>Ou N false s7 cr Vz Vq s6 (λVr=>k0 cr Vz Vr s7)))))
def P8 (N:Nat) (neg:Bool) (a b:LI) (Vo Vq:Bool) (k0:Kx8):Bool:=
 (Af N a b (λnsr=>A9 N nsr [1] (λnr=>cond (nr != 0) (zA N a nsr (λVp Vv=>zA N b nsr (λVw VA=>Gu N neg a b Vo Vq Vp Vw k0))) (Gu N neg a b Vo Vq a b k0))))
def Ss (N:Nat):Bool->LI->LI->Bool->Bool->(Kx8)->Bool:=ax N (P8 N)
def PD (N:Nat) (b Vo Vq:Bool) (Vu:LI) (Vx:Bool) (VC:LI) (k0:Kx8):Bool:=
 (Ss N (Vq != Vx) Vu VC b Vo (λcr nsr Vr Vp=>k0 cr nsr Vr Vp))
def Oi (N:Nat):Bool->Bool->Bool->LI->Bool->LI->(Kx8)->Bool:=PD N
def kg (N:Nat) (WD:LI) (i a:Int) (aaR:LI) (aaS aaT:Int) (t32:LI) (t33:Int) (e0:Ky9):(Int × Int × LI)->((Int × Int × LI)->Bool)->Bool:=λv_ K=>match v_ with
 | (carry,t34,VY)=>(cond (decide (t34<t33)) (inR t34 t32.length&&(ah .i64 (i+t34)&&(ah .i64 (i+t34)&&(inR (i+t34) VY.length&&(decide ((Int.toNat (i+t34))<VY.length)&&kI N a (t32.getD t34.toNat 0) (VY.getD (Int.toNat (i+t34)) 0) carry (λnr Vs=>inR (i+t34) VY.length&&(decide ((Int.toNat (i+t34))<VY.length)&&(ah .i64 (t34+1)&&K (nr,(t34+1),(VY.set (Int.toNat (i+t34)) Vs)))))))))) (e0 carry VY))
def kf (N:Nat) (Wa t25:LI) (t26:Int) (e0:Kz7):(Int × LI)->((Int × LI)->Bool)->Bool:=λv_ K=>match v_ with
 | (t27,z)=>(cond (decide (t27<t26)) (inR t27 t25.length&&ai N (kg N Wa t27 (t25.getD t27.toNat 0) t25 t26 t27 Wa ((Wa.length:Nat):Int) (λVQ z_2=>ah .i64 (t27+((Wa.length:Nat):Int))&&(inR (t27+((Wa.length:Nat):Int)) z_2.length&&(decide ((Int.toNat (t27+((Wa.length:Nat):Int)))<z_2.length)&&(ah .i64 (t27+1)&&K ((t27+1),(z_2.set (Int.toNat (t27+((Wa.length:Nat):Int))) VQ))))))) (0,0,z)) (e0 z))
def JA (N:Nat) (x y:LI) (k0:Kz7):Bool:=
 (cond ((((x.length:Nat):Int)==0)==false) (cond (((y.length:Nat):Int)==0) (k0 []) (ah .i64 (((x.length:Nat):Int)+((y.length:Nat):Int))&&(jD 8 (((x.length:Nat):Int)+((y.length:Nat):Int)) (((x.length:Nat):Int)+((y.length:Nat):Int))&&ai N (kf N y x ((x.length:Nat):Int) (λz_3=>va N z_3 (λmr=>decide ((0+mr)<=z_3.length)&&k0 (List.take mr (List.drop 0 z_3))))) (0,(List.replicate (Int.toNat (((x.length:Nat):Int)+((y.length:Nat):Int))) (0:Int)))))) (k0 []))
def qb (N:Nat):LI->LI->(Kz7)->Bool:=ax N (JA N)
def OL (N:Nat) (b:Bool) (Vo:LI) (Vq:Bool) (Vu:LI) (k0:Ky5):Bool:=
 (qb N Vo Vu (λnsr=>Jc N (b != Vq) nsr b Vo (λcr=>k0 cr nsr)))
def Pd (N:Nat):Bool->LI->Bool->LI->(Ky5)->Bool:=OL N
def OM (N:Nat) (neg b:Bool) (Vo:LI) (Vq:Bool) (Vu Vx:LI) (k0:Kz2):Bool:=
 (cond (neg==true) (k0 (decide (((Vx.length:Nat):Int)>0))) (k0 false))
def Pf (N:Nat):Bool->Bool->LI->Bool->LI->LI->(Kz2)->Bool:=OM N
def Qf (N:Nat) (neg:Bool) (a:LI) (b Vo:Bool) (Vq:LI) (k0:Ky3):Bool:=
 (I7 N neg a b Vo (λcr nsr=>Pf N false cr a Vo nsr Vq (λVr=>k0 cr Vr)))
def Tv (N:Nat):Bool->LI->Bool->Bool->LI->(Ky3)->Bool:=ax N (Qf N)
def S0 (N:Nat) (b Vo Vq:Bool) (Vu:LI) (k0:Kx8):Bool:=
 (qf N Vu (λnsr=>Tv N Vq nsr b Vo [1] (λcr Vr=>k0 cr nsr Vr [1])))
def So (N:Nat):Bool->Bool->Bool->LI->(Kx8)->Bool:=S0 N
def bX (N:Nat) (x:Fl) (p:Bool) (XA Yf:Int) (n:Bool) (Wc:LI) (k0:Kx8):Bool:=
 (Ea N 1 (λVU Vv=>ah .i64 (0 - Yf)&&Sy N (IntKind.wrap .u64 (imm true Yf (0 - Yf))) false VU Vv (λWt Vw=>cond (decide (Yf<0)) (Oi N false false n Wc Wt Vw (λX4 VA Yt Vz=>k0 X4 VA Yt Vz)) (Pd N n Wc Wt Vw (λYu s6=>So N false false Yu s6 (λc8 s7 c9 s8=>k0 c8 s7 c9 s8))))))
def jk (N:Nat) (x:Fl) (k0:Kx8):Bool:=
 (px N x (λcr nr Vs Vy=>dc N (Vy==0) 4 (Oj N nr false (λVr nsr=>cond cr (Ot N Vr nsr (λVH Vp=>bX N x cr nr Vs VH Vp k0)) (bX N x cr nr Vs Vr nsr k0)))))
def jp (N:Nat):Fl->(Kx8)->Bool:=ax N (jk N)
def dw (N:Nat) (aaf:LF) (aaQ YC YD Zd Zp:Int) (e0:List RY0->Bool):(Int × List RY0)->((Int × List RY0)->Bool)->Bool:=λv_ K=>match v_ with
 | (W3,b2)=>(cond (decide (W3<aaQ)) (inR W3 aaf.length&&jp N (aaf.getD W3.toNat none) (λVH Vv VU Vw=>decide ((List.length (b2++[((VH,Vv),(VU,Vw))]))*8<=140737488355328)&&(ah .i64 (W3+1)&&K ((W3+1),(b2++[((VH,Vv),(VU,Vw))]))))) (e0 b2))
def iJ (N:Nat) (VP Vt:Int) (VF:LF) (k0:List RY0->Bool):Bool:=
 (F7 N VP Vt VF (λnr=>dc N (nr==0) nr (ai N (dw N VF ((VF.length:Nat):Int) 0 0 VP Vt (λ(V8:List RY0)=>k0 V8)) (0,[]))))
def iP (N:Nat):Int->Int->LF->(List RY0->Bool)->Bool:=ax N (iJ N)
def e_ (N:Nat) (YV WK i j:Int) (b:List RY0) (k0:Kx8):Bool:=
 (ah .i64 (i*WK)&&(ah .i64 ((i*WK)+j)&&(inR ((i*WK)+j) b.length&&(decide ((Int.toNat ((i*WK)+j))<b.length)&&k0 (b.getD (Int.toNat ((i*WK)+j)) ((false,[]),(false,[]))).1.1 (b.getD (Int.toNat ((i*WK)+j)) ((false,[]),(false,[]))).1.2 (b.getD (Int.toNat ((i*WK)+j)) ((false,[]),(false,[]))).2.1 (b.getD (Int.toNat ((i*WK)+j)) ((false,[]),(false,[]))).2.2))))
def aW (N:Nat):Int->Int->Int->Int->List RY0->(Kx8)->Bool:=ax N (e_ N)
def SY (N:Nat) (V6:Bool) (VD:LI) (V0:Bool) (V7:LI) (k0:Kz7):Bool:=
 (cond (((V7.length:Nat):Int)==0) (k0 [1]) (k0 V7))
def Ae (N:Nat):Bool->LI->Bool->LI->(Kz7)->Bool:=SY N
def PO (N:Nat) (neg:Bool) (a b:LI) (Vo Vq:Bool) (k0:Ky3):Bool:=
 (I7 N neg a Vo Vq (λcr nsr=>Ou N false b cr a Vq nsr (λVr=>k0 cr Vr)))
def Ja (N:Nat):Bool->LI->LI->Bool->Bool->(Ky3)->Bool:=ax N (PO N)
def Qj (N:Nat) (V6:Bool) (VD:LI) (V0:Bool) (V7:LI) (b Vo:Bool) (k0:Kx8):Bool:=
 (qf N VD (λnsr=>Ae N V6 VD V0 V7 (λVp=>qf N Vp (λVv=>Ja N (!V6) nsr Vv b Vo (λcr Vr=>k0 cr nsr Vr Vv)))))
def SB (N:Nat):Bool->LI->Bool->LI->Bool->Bool->(Kx8)->Bool:=ax N (Qj N)
def S7 (N:Nat) (b:Bool) (Vo:LI) (Vq:Bool) (Vu:LI) (k0:Kz7):Bool:=
 (cond (((Vu.length:Nat):Int)==0) (k0 [1]) (k0 Vu))
def Sz (N:Nat):Bool->LI->Bool->LI->(Kz7)->Bool:=S7 N
def lY (N:Nat) (x y:LI) (k0:Kz7):Bool:=
 (zA N x y (λnsr Vp=>k0 nsr))
def JD (N:Nat) (x y:LI) (k0:Kz7):Bool:=
 (cond ((((y.length:Nat):Int)==1)==true) (inR 0 y.length&&cond ((y.getD 0 0)==1) (k0 x) (lY N x y k0)) (lY N x y k0))
def mW (N:Nat):LI->LI->(Kz7)->Bool:=ax N (JD N)
def mb (N:Nat) (VD Wa:LI) (n t17:Int) (e0:Ky9):(Int × Int × LI)->((Int × Int × LI)->Bool)->Bool:=λv_ K=>match v_ with
 | (carry,t18,z)=>(cond (decide (t18<t17)) (xd N VD t18 (λnr=>xd N Wa t18 (λVs=>sQ1 N nr Vs carry (λVy VR=>inR t18 z.length&&(decide (t18.toNat<z.length)&&(ah .i64 (t18+1)&&K (VR,(t18+1),(z.set t18.toNat Vy)))))))) (e0 carry z))
def vm (N:Nat) (x y:LI) (k0:Kz7):Bool:=
 (ah .i64 ((imm true ((x.length:Nat):Int) ((y.length:Nat):Int))+1)&&(jD 8 ((imm true ((x.length:Nat):Int) ((y.length:Nat):Int))+1) ((imm true ((x.length:Nat):Int) ((y.length:Nat):Int))+1)&&ai N (mb N x y (imm true ((x.length:Nat):Int) ((y.length:Nat):Int)) (imm true ((x.length:Nat):Int) ((y.length:Nat):Int)) (λVQ VY=>inR (imm true ((x.length:Nat):Int) ((y.length:Nat):Int)) VY.length&&(decide ((Int.toNat (imm true ((x.length:Nat):Int) ((y.length:Nat):Int)))<VY.length)&&va N (VY.set (Int.toNat (imm true ((x.length:Nat):Int) ((y.length:Nat):Int))) VQ) (λmr=>decide ((0+mr)<=(List.length (VY.set (Int.toNat (imm true ((x.length:Nat):Int) ((y.length:Nat):Int))) VQ)))&&k0 (List.take mr (List.drop 0 (VY.set (Int.toNat (imm true ((x.length:Nat):Int) ((y.length:Nat):Int))) VQ))))))) (0,0,(List.replicate (Int.toNat ((imm true ((x.length:Nat):Int) ((y.length:Nat):Int))+1)) (0:Int)))))
def vX (N:Nat):LI->LI->(Kz7)->Bool:=ax N (vm N)
def PU (N:Nat) (neg:Bool) (y:LI) (b:Bool) (Vo:LI) (k0:Ky5):Bool:=
 (cond (b==neg) (vX N Vo y (λnsr=>Jc N neg nsr b Vo (λcr=>k0 cr nsr))) (A9 N Vo y (λnr=>cond (decide (nr>=0)) (xe N Vo y (λVp=>Jc N b Vp b Vo (λVr=>k0 Vr Vp))) (xe N y Vo (λVv=>Jc N neg Vv b Vo (λVH=>k0 VH Vv))))))
def Oo (N:Nat):Bool->LI->Bool->LI->(Ky5)->Bool:=ax N (PU N)
def PQ (N:Nat) (V6:Bool) (VD:LI) (V0:Bool) (V7:LI) (b Vo Vq:Bool) (Vu:LI) (Vx:Bool) (VC:LI) (k0:Kx8):Bool:=
 (Ae N V6 VD V0 V7 (λnsr=>Sz N Vq Vu Vx VC (λVp=>Af N nsr Vp (λVv=>mW N nsr Vv (λVw=>mW N Vp Vv (λVA=>qb N VD VA (λVz=>B2 N V6 Vz false (λcr=>qb N Vu Vw (λs6=>Oo N Vq s6 cr Vz (λVr s7=>Af N s7 Vv (λs8=>mW N s7 s8 (λs9=>qf N s9 (λs10=>mW N Vp s8 (λs11=>qb N Vw s11 (λs12=>Ja N Vr s10 s12 b Vo (λVH VU=>k0 VH s10 VU s12))))))))))))))))
def Sk (N:Nat):Bool->LI->Bool->LI->Bool->Bool->Bool->LI->Bool->LI->(Kx8)->Bool:=ax N (PQ N)
def JK (N:Nat) (V6:Bool) (VD:LI) (V0:Bool) (V7:LI) (Yb:Bool) (Wa:LI) (WD:Bool) (Xk:LI) (b Vo:Bool) (k0:Kx8):Bool:=
 (SB N Yb Wa WD Xk false false (λcr nsr Vr Vp=>Sk N V6 VD V0 V7 b Vo cr nsr Vr Vp (λVH Vv VU Vw=>k0 VH Vv VU Vw)))
def Pj (N:Nat):Bool->LI->Bool->LI->Bool->LI->Bool->LI->Bool->Bool->(Kx8)->Bool:=ax N (JK N)
def iT (N:Nat) (V6:Bool) (VD:LI) (V0:Bool) (V7:LI) (Yb:Bool) (Wa:LI) (WD:Bool) (Xk:LI) (k0:Kx8):Bool:=
 (Pj N V6 VD V0 V7 Yb Wa WD Xk false false (λcr nsr Vr Vp=>k0 cr nsr Vr Vp))
def cN (N:Nat):Bool->LI->Bool->LI->Bool->LI->Bool->LI->(Kx8)->Bool:=iT N
def Kg (N:Nat) (V6:Bool) (VD:LI) (V0:Bool) (V7:LI) (k0:Kz3):Bool:=
 (cond V6 (k0 (-1)) (cond (((VD.length:Nat):Int)==0) (k0 0) (k0 1)))
def Pq (N:Nat):Bool->LI->Bool->LI->(Kz3)->Bool:=ax N (Kg N)
def qo (N:Nat) (V6:Bool) (VD:LI) (V0:Bool) (V7:LI) (k0:Kz3):Bool:=
 (Pq N V6 VD V0 V7 (λnr=>k0 nr))
def ri (N:Nat):Bool->LI->Bool->LI->(Kz3)->Bool:=qo N
def iW (N:Nat) (V6:Bool) (VD:LI) (V0:Bool) (V7:LI) (k0:Kz3):Bool:=
 (ri N V6 VD V0 V7 (λnr=>k0 nr))
def bf (N:Nat):Bool->LI->Bool->LI->(Kz3)->Bool:=iW N
def bG (N:Nat) (i ZG WR t9:Int) (V1:List RY0) (Zp g_4:Int) (e0:Bool):(Int)->((Int)->Bool)->Bool:=λv_ K=>match v_ with
 | t10=>(cond (decide (t10<t9)) (aW N Zp g_4 i t10 V1 (λcr nsr Vr Vp=>aW N Zp g_4 t10 i V1 (λVH Vv VU Vw=>cN N cr nsr Vr Vp VH Vv VU Vw (λWt VA X4 Vz=>bf N Wt VA X4 Vz (λnr=>dc N (nr==0) 112 (ah .i64 (t10+1)&&K (t10+1))))))) e0)
def bF (N:Nat) (t5:Int) (b0:List RY0) (g Zd:Int) (e0:Bool):(Int)->((Int)->Bool)->Bool:=λv_ K=>match v_ with
 | t6=>(cond (decide (t6<t5)) (ai N (bG N t6 t5 t6 t6 b0 g Zd (ah .i64 (t6+1)&&K (t6+1))) 0) e0)
def cP (N:Nat) (YV WK:Int) (b:List RY0) (k0:Bool):Bool:=
 (ai N (bF N YV b YV WK k0) 0)
def cY (N:Nat):Int->Int->List RY0->(Bool)->Bool:=ax N (cP N)
def oE (N:Nat) (a b:Int) (k0:Kx8):Bool:=
 (Ea N a (λcr nsr=>Ea N b (λVr Vp=>Oi N false false cr nsr Vr Vp (λVH Vv VU Vw=>k0 VH Vv VU Vw))))
def vb (N:Nat):Int->Int->(Kx8)->Bool:=ax N (oE N)
def nT (N:Nat) (n:Int) (k0:Kx8):Bool:=
 (vb N n 1 (λcr nsr Vr Vp=>k0 cr nsr Vr Vp))
def kK (N:Nat):Int->(Kx8)->Bool:=nT N
def PK (N:Nat) (neg:Bool) (a b c d:LI) (Vo Vq:Bool) (k0:Kx8):Bool:=
 (Af N a d (λnsr=>Af N c b (λVp=>mW N a nsr (λVv=>mW N c Vp (λVw=>qb N Vv Vw (λVA=>mW N b Vp (λVz=>mW N d nsr (λs6=>qb N Vz s6 (λs7=>Ja N neg VA s7 Vo Vq (λcr Vr=>k0 cr VA Vr s7))))))))))
def Ol (N:Nat):Bool->LI->LI->LI->LI->Bool->Bool->(Kx8)->Bool:=ax N (PK N)
def JJ (N:Nat) (V6:Bool) (VD:LI) (V0:Bool) (V7:LI) (Yb:Bool) (Wa:LI) (WD:Bool) (Xk:LI) (b Vo:Bool) (k0:Kx8):Bool:=
 (Ae N V6 VD V0 V7 (λnsr=>Ae N Yb Wa WD Xk (λVp=>Ol N (V6 != Yb) VD nsr Vp Wa b Vo (λcr Vv Vr Vw=>k0 cr Vv Vr Vw))))
def Pi (N:Nat):Bool->LI->Bool->LI->Bool->LI->Bool->LI->Bool->Bool->(Kx8)->Bool:=ax N (JJ N)
def iU (N:Nat) (V6:Bool) (VD:LI) (V0:Bool) (V7:LI) (Yb:Bool) (Wa:LI) (WD:Bool) (Xk:LI) (k0:Kx8):Bool:=
 (Pi N V6 VD V0 V7 Yb Wa WD Xk false false (λcr nsr Vr Vp=>k0 cr nsr Vr Vp))
def eC (N:Nat):Bool->LI->Bool->LI->Bool->LI->Bool->LI->(Kx8)->Bool:=iU N
def JI (N:Nat) (V6:Bool) (VD:LI) (V0:Bool) (V7:LI) (Yb:Bool) (Wa:LI) (WD:Bool) (Xk:LI) (b Vo:Bool) (k0:Kx8):Bool:=
 (Ae N V6 VD V0 V7 (λnsr=>Ae N Yb Wa WD Xk (λVp=>Ol N (V6 != Yb) VD nsr Wa Vp b Vo (λcr Vv Vr Vw=>k0 cr Vv Vr Vw))))
def Ph (N:Nat):Bool->LI->Bool->LI->Bool->LI->Bool->LI->Bool->Bool->(Kx8)->Bool:=ax N (JI N)
def iE (N:Nat) (V6:Bool) (VD:LI) (V0:Bool) (V7:LI) (Yb:Bool) (Wa:LI) (WD:Bool) (Xk:LI) (k0:Kx8):Bool:=
 (Ph N V6 VD V0 V7 Yb Wa WD Xk false false (λcr nsr Vr Vp=>k0 cr nsr Vr Vp))
def dU (N:Nat):Bool->LI->Bool->LI->Bool->LI->Bool->LI->(Kx8)->Bool:=iE N
def Nf (N:Nat) (V6:Bool) (VD:LI) (V0:Bool) (V7:LI) (Yb:Bool) (Wa:LI) (WD:Bool) (Xk:LI) (b Vo:Bool) (k0:Kx8):Bool:=
 (Ae N V6 VD V0 V7 (λnsr=>Ae N Yb Wa WD Xk (λVp=>Af N nsr Vp (λVv=>mW N nsr Vv (λVw=>mW N Vp Vv (λVA=>qb N VD VA (λVz=>B2 N V6 Vz false (λcr=>qb N Wa Vw (λs6=>Oo N Yb s6 cr Vz (λVr s7=>Af N s7 Vv (λs8=>mW N s7 s8 (λs9=>qf N s9 (λs10=>mW N Vp s8 (λs11=>qb N Vw s11 (λs12=>Ja N Vr s10 s12 b Vo (λVH VU=>k0 VH s10 VU s12))))))))))))))))
def Oq (N:Nat):Bool->LI->Bool->LI->Bool->LI->Bool->LI->Bool->Bool->(Kx8)->Bool:=ax N (Nf N)
def iV (N:Nat) (V6:Bool) (VD:LI) (V0:Bool) (V7:LI) (Yb:Bool) (Wa:LI) (WD:Bool) (Xk:LI) (k0:Kx8):Bool:=
 (Oq N V6 VD V0 V7 Yb Wa WD Xk false false (λcr nsr Vr Vp=>k0 cr nsr Vr Vp))
def eD (N:Nat):Bool->LI->Bool->LI->Bool->LI->Bool->LI->(Kx8)->Bool:=iV N
def jr (N:Nat) (YV WK i j:Int) (V6:Bool) (VD:LI) (V0:Bool) (V7:LI) (b:List RY0) (k0:List RY0->Bool):Bool:=
 (ah .i64 (i*WK)&&(ah .i64 ((i*WK)+j)&&(inR ((i*WK)+j) b.length&&(decide ((Int.toNat ((i*WK)+j))<b.length)&&k0 (b.set (Int.toNat ((i*WK)+j)) ((V6,VD),(V0,V7)))))))
def fw (N:Nat):Int->Int->Int->Int->Bool->LI->Bool->LI->List RY0->(List RY0->Bool)->Bool:=jr N
def cj (N:Nat) (VM WL t10 g Zd:Int) (x:Bool) (x_4:LI) (x_5:Bool) (x_6:LI) (e0:List RY0->Bool):(Int × List RY0)->((Int × List RY0)->Bool)->Bool:=λv_ K=>match v_ with
 | (t11,b0)=>(cond (decide (t11<t10)) (aW N g Zd VM t11 b0 (λcr nsr Vr Vp=>aW N g Zd WL t11 b0 (λVH Vv VU Vw=>dU N VH Vv VU Vw x x_4 x_5 x_6 (λWt VA X4 Vz=>eD N cr nsr Vr Vp Wt VA X4 Vz (λYt s6 Yu s7=>fw N g Zd VM t11 Yt s6 Yu s7 b0 (λ(lr:List RY0)=>ah .i64 (t11+1)&&K ((t11+1),lr))))))) (e0 b0))
def e9 (N:Nat) (YV WK i k_:Int) (V6:Bool) (VD:LI) (V0:Bool) (V7:LI) (b:List RY0) (k0:List RY0->Bool):Bool:=
 (ai N (cj N i k_ WK YV WK V6 VD V0 V7 (λ(V1:List RY0)=>k0 V1)) (0,b))
def fv (N:Nat):Int->Int->Int->Int->Bool->LI->Bool->LI->List RY0->(List RY0->Bool)->Bool:=ax N (e9 N)
def az (N:Nat) (VK k_ ab1 Wm Zp g_4:Int) (p:Bool) (XA:LI) (Yf:Bool) (Zx:LI) (e0:Int->List RY0->Bool) (e1:List RY0->Bool):(Int × List RY0)->((Int × List RY0)->Bool)->Bool:=λv_ K=>match v_ with
 | (i,V1)=>(cond (decide (i<Zp)) (aW N Zp g_4 i k_ V1 (λVH Vv VU Vw=>bf N VH Vv VU Vw (λVs=>cond (Vs==0) (ah .i64 (i+1)&&K ((i+1),V1)) (bf N p XA Yf Zx (λVy=>cond (Vy==0) (e0 1 V1) (kK N 0 (λWt VA X4 Vz=>eC N VH Vv VU Vw p XA Yf Zx (λYt s6 Yu s7=>cN N Wt VA X4 Vz Yt s6 Yu s7 (λc8 s8 c9 s9=>fv N Zp g_4 i k_ c8 s8 c9 s9 V1 (λ(lr:List RY0)=>ah .i64 (i+1)&&K ((i+1),lr))))))))))) (e1 V1))
def aL (N:Nat) (t9 g Zd:Int) (e0:Int->List RY0->Bool) (e1:Int->List RY0->Bool):(Int × Int × List RY0)->((Int × Int × List RY0)->Bool)->Bool:=λv_ K=>match v_ with
 | (s,t10,b0)=>(cond (decide (t10<t9)) (aW N g Zd t10 t10 b0 (λcr nsr Vr Vp=>bf N cr nsr Vr Vp (λnr=>cond (decide (nr<0)) (e0 1 b0) (ah .i64 (t10+1)&&ai N (az N s t10 t9 t10 g Zd cr nsr Vr Vp (λ(t2:Int) (acU:List RY0)=>e0 t2 acU) (λ(aci:List RY0)=>bf N cr nsr Vr Vp (λVR=>cond (VR==0) (ah .i64 (t10+1)&&K (2,(t10+1),aci)) (ah .i64 (t10+1)&&K (s,(t10+1),aci))))) ((t10+1),b0))))) (e1 s b0))
def dh (N:Nat) (YV WK:Int) (b:List RY0) (k0:Int->List RY0->Bool):Bool:=
 (ai N (aL N YV YV WK (λ(XC:Int) (acV:List RY0)=>k0 XC acV) (λ(VS:Int) (acW:List RY0)=>k0 VS acW)) (3,0,b))
def gj (N:Nat):Int->Int->List RY0->(Int->List RY0->Bool)->Bool:=ax N (dh N)
def iS (N:Nat) (YV WK:Int) (b:List RY0) (k0:Int->List RY0->Bool):Bool:=
 (dc N (YV==WK) 3 (cY N YV WK b (gj N YV WK b (λ(nr:Int) (lr:List RY0)=>k0 nr lr))))
def eB (N:Nat):Int->Int->List RY0->(Int->List RY0->Bool)->Bool:=iS N
def jj (N:Nat) (VP Vt:Int) (VF:LF) (k0:Ky4):Bool:=
 (iP N VP Vt VF (λ(lr:List RY0)=>eB N VP Vt lr (λ(nr:Int) (aam:List RY0)=>k0 nr 0)))
def jo (N:Nat):Int->Int->LF->(Ky4)->Bool:=ax N (jj N)
def nd (N:Nat) (Zh XA:Int) (Yf:LF) (k0:Kz2):Bool:=
 (jo N Zh XA Yf (λnr Vs=>cond ((Vs==0)==true) (k0 (nr==3)) (k0 false)))
def eu (N:Nat):Int->Int->LF->(Kz2)->Bool:=nd N
def mo (N:Nat) (Wd:LF) (VK VS:Int) (VV:LF) (k0:Kz3):Bool:=
 (F7 N VK VS VV (λnr=>cond (nr != 0) (k0 nr) (cond ((VK != VS)==false) (cond (((Wd.length:Nat):Int) != VK) (k0 3) (u_ N Wd (λcr=>cond (!cr) (k0 4) (SC N VK VS VV (λVr=>cond (!Vr) (k0 150) (eu N VK VS VV (λVH=>cond (!VH) (k0 151) (k0 0)))))))) (k0 3))))
def fq (N:Nat):LF->Int->Int->LF->(Kz3)->Bool:=ax N (mo N)
abbrev bV:=LF->(Kz6)->Bool
def aw (N:Nat):bV:=λx k=>(decide (x.length*8<=140737488355328))&&k x
def jG (N:Nat) (VP Vt i:Int) (b:LF) (k0:Ky6):Bool:=
 (ah .i64 (i*Vt)&&(ah .i64 (i+1)&&(ah .i64 ((i+1)*Vt)&&(decide (0<=(i*Vt)/\(i*Vt)<=((i+1)*Vt)/\((i+1)*Vt)<=((b.length:Nat):Int))&&k0 (Int.toNat (i*Vt)) ((Int.toNat ((i+1)*Vt)) - (Int.toNat (i*Vt)))))))
def ci (N:Nat):Int->Int->Int->LF->(Ky6)->Bool:=ax N (jG N)
def nJ (N:Nat) (n:Int) (h:LF) (r:Fl) (k0:Kz3):Bool:=
 (cond (((h.length:Nat):Int) != n) (k0 3) (u_ N h (λcr=>cond (!cr) (k0 4) (u_ N [r] (λVr=>cond (!Vr) (k0 4) (cond (fle r (some 0)) (k0 152) (k0 0)))))))
def nO (N:Nat):Int->LF->Fl->(Kz3)->Bool:=ax N (nJ N)
def oI (N:Nat) (VP Vt:Int) (VF:LF) (i:Int) (k0:Kz6):Bool:=
 (ah .i64 (i*Vt)&&(ah .i64 (i+1)&&(ah .i64 ((i+1)*Vt)&&(decide (0<=(i*Vt)/\(i*Vt)<=((i+1)*Vt)/\((i+1)*Vt)<=((VF.length:Nat):Int))&&k0 (List.drop (Int.toNat (i*Vt)) (List.take (Int.toNat ((i+1)*Vt)) VF))))))
def pC (N:Nat):Int->Int->LF->Int->(Kz6)->Bool:=ax N (oI N)
abbrev xY:=Fl->(Kz5)->Bool
def vc (N:Nat):xY:=λx k=>k (z7 x)
def rL (N:Nat) (f:Fl) (sign:Int) (k0:Kz2):Bool:=
 (cond (sign==0) (vc N f (λxr=>k0 (fgt xr (some 9218868437227405311)))) (cond (decide (sign<0)) (k0 (fgt (RM f) (some 9218868437227405311))) (k0 (fgt f (some 9218868437227405311)))))
def jB (N:Nat):Fl->Int->(Kz2)->Bool:=ax N (rL N)
def pS (N:Nat) (x:Fl) (b:Bool) (Vo:LF) (Vq Vu:Int) (Vx VC:LF) (VJ VN VT:Fl) (k0:Kz2):Bool:=
 (cond ((!feq x x)==false) (jB N x 0 (λcr=>cond cr (k0 true) (k0 b))) (k0 true))
def qh (N:Nat):Fl->Bool->LF->Int->Int->LF->LF->Fl->Fl->Fl->(Kz2)->Bool:=ax N (pS N)
def nS (N:Nat) (a b:Fl) (Vo:Bool) (Vq:LF) (Vu Vx:Int) (VC VJ:LF) (VN VT VZ:Fl) (k0:Ky7):Bool:=
 (qh N (bd a b) Vo Vq Vu Vx VC VJ VN VT VZ (λcr=>k0 (bd a b) cr))
def vY (N:Nat):Fl->Fl->Bool->LF->Int->Int->LF->LF->Fl->Fl->Fl->(Ky7)->Bool:=ax N (nS N)
def lW (N:Nat) (VB t10:LF) (t11:Int) (VK:LF) (VS VV:Int) (W7 Xb:LF) (XB WY Xc:Fl) (e0:Ky7):(Fl × Int × Bool)->((Fl × Int × Bool)->Bool)->Bool:=λv_ K=>match v_ with
 | (t,t12,s)=>(cond (decide (t12<t11)) (inR t12 t10.length&&(inR t12 VB.length&&vY N (t10.getD t12.toNat none) (VB.getD t12.toNat none) s VK VS VV W7 Xb XB WY Xc (λxr cr=>qh N (dZ t xr) cr VK VS VV W7 Xb XB WY Xc (λVr=>ah .i64 (t12+1)&&K ((dZ t xr),(t12+1),Vr))))) (e0 t s))
def vo (N:Nat) (a b:LF) (Vo:Bool) (Vq:LF) (Vu Vx:Int) (VC VJ:LF) (VN VT VZ:Fl) (k0:Ky7):Bool:=
 (ai N (lW N b a ((a.length:Nat):Int) Vq Vu Vx VC VJ VN VT VZ (λWn b0=>k0 Wn b0)) ((some 0),0,Vo))
def PX (N:Nat) (x:Fl) (b:Bool) (Vo:LF) (Vq Vu:Int) (Vx VC:LF) (VJ VN VT:Fl) (VZ:LF) (k0:Kz2):Bool:=
 (cond ((!feq x x)==false) (jB N x 0 (λcr=>cond cr (k0 true) (k0 b))) (k0 true))
def F8 (N:Nat):Fl->Bool->LF->Int->Int->LF->LF->Fl->Fl->Fl->LF->(Kz2)->Bool:=ax N (PX N)
def Qc (N:Nat) (a b:Fl) (Vo:Bool) (Vq:LF) (Vu Vx:Int) (VC VJ:LF) (VN VT VZ:Fl) (VB:LF) (k0:Ky7):Bool:=
 (F8 N (bd a b) Vo Vq Vu Vx VC VJ VN VT VZ VB (λcr=>k0 (bd a b) cr))
def Oz (N:Nat):Fl->Fl->Bool->LF->Int->Int->LF->LF->Fl->Fl->Fl->LF->(Ky7)->Bool:=ax N (Qc N)
def Ck (N:Nat) (V3 t10:LF) (t11:Int) (VK:LF) (VS VV:Int) (W7 Xb:LF) (XB WY Xc:Fl) (b1:LF) (e0:Ky7):(Fl × Int × Bool)->((Fl × Int × Bool)->Bool)->Bool:=λv_ K=>match v_ with
 | (t,t12,s)=>(cond (decide (t12<t11)) (inR t12 t10.length&&(inR t12 V3.length&&Oz N (t10.getD t12.toNat none) (V3.getD t12.toNat none) s VK VS VV W7 Xb XB WY Xc b1 (λxr cr=>F8 N (dZ t xr) cr VK VS VV W7 Xb XB WY Xc b1 (λVr=>ah .i64 (t12+1)&&K ((dZ t xr),(t12+1),Vr))))) (e0 t s))
def Qb (N:Nat) (a b:LF) (Vo:Bool) (Vq:LF) (Vu Vx:Int) (VC VJ:LF) (VN VT VZ:Fl) (VB:LF) (k0:Ky7):Bool:=
 (ai N (Ck N b a ((a.length:Nat):Int) Vq Vu Vx VC VJ VN VT VZ VB (λWn b0=>k0 Wn b0)) ((some 0),0,Vo))
def Oy (N:Nat):LF->LF->Bool->LF->Int->Int->LF->LF->Fl->Fl->Fl->LF->(Ky7)->Bool:=ax N (Qb N)
def Cg (N:Nat) (t10:LF) (t11:Int) (VK:LF) (VS VV:Int) (W7 Xb:LF) (XB WY Xc:Fl) (VB:LF) (e0:Ky7):(Fl × Int × Bool)->((Fl × Int × Bool)->Bool)->Bool:=λv_ K=>match v_ with
 | (t,t12,s)=>(cond (decide (t12<t11)) (inR t12 t10.length&&(inR t12 VB.length&&(decide (t12.toNat<VB.length)&&Oz N (t10.getD t12.toNat none) (VB.getD t12.toNat none) s VK VS VV W7 Xb XB WY Xc VB (λxr cr=>F8 N (dZ t xr) cr VK VS VV W7 Xb XB WY Xc VB (λVr=>ah .i64 (t12+1)&&K ((dZ t xr),(t12+1),Vr)))))) (e0 t s))
def P9 (N:Nat) (a:LF) (b:Bool) (Vo:LF) (Vq Vu:Int) (Vx VC:LF) (VJ VN VT:Fl) (VZ:LF) (k0:Ky7):Bool:=
 (ai N (Cg N a ((a.length:Nat):Int) Vo Vq Vu Vx VC VJ VN VT VZ (λWn b0=>k0 Wn b0)) ((some 0),0,b))
def Sv (N:Nat):LF->Bool->LF->Int->Int->LF->LF->Fl->Fl->Fl->LF->(Ky7)->Bool:=ax N (P9 N)
def JL (N:Nat) (b:Bool) (Vo:LF) (Vq Vu:Int) (Vx VC:LF) (VJ VN VT:Fl) (VZ:LF) (k0:Bool):Bool:=
 k0
def Pk (N:Nat):Bool->LF->Int->Int->LF->LF->Fl->Fl->Fl->LF->(Bool)->Bool:=ax N (JL N)
def eW (N:Nat) (YW:LF) (XK:Fl) (aaU:Int) (WY:LF) (Xc s_9:Int) (Zz W4:LF) (Xd YM:Int) (Yh W5:LF) (X5 W6 WS:Fl) (e0:Ky8):(Int × Bool × LF)->((Int × Bool × LF)->Bool)->Bool:=λv_ K=>match v_ with
 | (aag,Ze,b2)=>(cond (decide (aag<aaU)) (pC N Xc s_9 Zz aag (λVO=>Oy N VO YW Ze W4 Xd YM Yh W5 X5 W6 WS b2 (λVW Vr=>decide ((List.length (b2++[VW]))*8<=140737488355328)&&(ah .i64 (aag+1)&&K ((aag+1),Vr,(b2++[VW])))))) (e0 Ze b2))
def kz (N:Nat) (Wd:LF) (VK VS:Int) (VV h:LF) (r:Fl) (k0:Kz3) (k1:Int->Bool->Fl->Fl->LF->Bool):Bool:=
 (fq N Wd VK VS VV (λnr=>cond (nr != 0) (k0 nr) (nO N ((Wd.length:Nat):Int) h r (λVs=>cond (Vs != 0) (k0 Vs) (ai N (eW N h r ((Wd.length:Nat):Int) Wd VK VS VV Wd VK VS VV h r (some 0) (some 0) (λX6 V8=>Oy N h Wd X6 Wd VK VS VV h r (some 0) (some 0) V8 (λWv VH=>Sv N h VH Wd VK VS VV h r Wv (some 0) V8 (λWk VU=>F8 N (dZ Wk r) VU Wd VK VS VV h r Wv (some 0) V8 (λWt=>Pk N Wt Wd VK VS VV h r Wv (dZ Wk r) V8 (cond Wt (k1 5 Wt Wv (dZ Wk r) V8) (cond (!(fgt (dZ Wk r) (some 0))) (k1 153 Wt Wv (dZ Wk r) V8) (k1 0 Wt Wv (dZ Wk r) V8)))))))) (0,false,[]))))))
def kJ (N:Nat):LF->Int->Int->LF->LF->Fl->(Kz3)->(Int->Bool->Fl->Fl->LF->Bool)->Bool:=ax N (kz N)
def PE (N:Nat) (x:Fl) (b:Bool) (Vo:LF) (Vq Vu:Int) (Vx VC:LF) (VJ VN VT:Fl) (VZ VB:LF) (k0:Kz2):Bool:=
 (cond ((!feq x x)==false) (jB N x 0 (λcr=>cond cr (k0 true) (k0 b))) (k0 true))
def xx (N:Nat):Fl->Bool->LF->Int->Int->LF->LF->Fl->Fl->Fl->LF->LF->(Kz2)->Bool:=ax N (PE N)
def PC (N:Nat) (a b:Fl) (Vo:Bool) (Vq:LF) (Vu Vx:Int) (VC VJ:LF) (VN VT VZ:Fl) (VB V3:LF) (k0:Ky7):Bool:=
 (xx N (bd a b) Vo Vq Vu Vx VC VJ VN VT VZ VB V3 (λcr=>k0 (bd a b) cr))
def zy (N:Nat):Fl->Fl->Bool->LF->Int->Int->LF->LF->Fl->Fl->Fl->LF->LF->(Ky7)->Bool:=ax N (PC N)
def gu (N:Nat) (b:Bool) (Vo:LF) (Vq Vu:Int) (Vx VC:LF) (VJ VN VT:Fl) (VZ VB:LF) (k0:Bool):Bool:=
 k0
def gJ (N:Nat):Bool->LF->Int->Int->LF->LF->Fl->Fl->Fl->LF->LF->(Bool)->Bool:=gu N
def jc (N:Nat) (V9 t11 m Wx:Int) (X3:LF) (e0:Kz6):(Int × LF)->((Int × LF)->Bool)->Bool:=λv_ K=>match v_ with
 | (t12,out)=>(cond (decide (t12<t11)) (ah .i64 (t12*Wx)&&(ah .i64 ((t12*Wx)+V9)&&(inR ((t12*Wx)+V9) X3.length&&(inR t12 out.length&&(decide (t12.toNat<out.length)&&(ah .i64 (t12+1)&&K ((t12+1),(out.set t12.toNat (X3.getD (Int.toNat ((t12*Wx)+V9)) none))))))))) (e0 out))
def oH (N:Nat) (VP Vt:Int) (VF:LF) (j:Int) (k0:Kz6):Bool:=
 (jD 8 VP VP&&ai N (jc N j (((List.length (List.replicate VP.toNat (some 0))):Nat):Int) VP Vt VF (λVE=>k0 VE)) (0,(List.replicate VP.toNat (some 0))))
def pB (N:Nat):Int->Int->LF->Int->(Kz6)->Bool:=ax N (oH N)
def Cc (N t10 Wm:Nat) (t11:Int) (VK:LF) (VS VV:Int) (W7 Xb:LF) (XB WY Xc:Fl) (Wl Ws b3 b4:LF) (e0:Ky7):(Fl × Int × Bool)->((Fl × Int × Bool)->Bool)->Bool:=λv_ K=>match v_ with
 | (t,t12,s)=>(cond (decide (t12<t11)) (inR t12 Wm&&(decide ((t10+t12.toNat)<Wl.length)&&(inR t12 Ws.length&&(decide (t12.toNat<Ws.length)&&zy N (Wl.getD (t10+t12.toNat) none) (Ws.getD t12.toNat none) s VK VS VV W7 Xb XB WY Xc b3 b4 (λxr cr=>xx N (dZ t xr) cr VK VS VV W7 Xb XB WY Xc b3 b4 (λVr=>ah .i64 (t12+1)&&K ((dZ t xr),(t12+1),Vr))))))) (e0 t s))
def PS (N Xw VL:Nat) (b:Bool) (Vo:LF) (Vq Vu:Int) (Vx VC:LF) (VJ VN VT:Fl) (VZ VB V3 Wh:LF) (k0:Ky7):Bool:=
 (ai N (Cc N Xw VL ((VL:Nat):Int) Vo Vq Vu Vx VC VJ VN VT VZ VB V3 Wh (λWn b0=>k0 Wn b0)) ((some 0),0,b))
def Sm (N:Nat):Nat->Nat->Bool->LF->Int->Int->LF->LF->Fl->Fl->Fl->LF->LF->LF->LF->(Ky7)->Bool:=ax N (PS N)
def bI (N:Nat) (VM aaO YB W3:Int) (XL:LF) (XM XN:Int) (XO XP:LF) (XQ XR XS:Fl) (WE Wr W9:LF) (X7 Y2 abc abd:Int) (abe:LF) (YJ abY aaD aaE:Int) (e0:Ky8):(Int × Bool × LF)->((Int × Bool × LF)->Bool)->Bool:=λv_ K=>match v_ with
 | (WI,Zj,b8)=>(cond (decide (WI<W3)) (ci N X7 Y2 VM WE (λVG WW=>pB N abc abd abe WI (λVO=>Sm N VG WW Zj XL XM XN XO XP XQ XR XS WE VO Wr W9 (λVW Vr=>decide ((List.length (b8++[VW]))*8<=140737488355328)&&(ah .i64 (WI+1)&&K ((WI+1),Vr,(b8++[VW]))))))) (e0 Zj b8))
def bH (N:Nat) (Xs:Int) (XT:LF) (XU XV:Int) (XW XX:LF) (XY XZ X0:Fl) (Xm Xn Xo:LF) (Zc a_8 abD abf:Int) (abE:LF) (abo abp aac aad:Int) (e0:Ky8):(Int × Bool × LF)->((Int × Bool × LF)->Bool)->Bool:=λv_ K=>match v_ with
 | (WN,Zk,abb)=>(cond (decide (WN<Xs)) (ai N (bI N WN Xs WN abf XT XU XV XW XX XY XZ X0 Xm Xn Xo Zc a_8 abD abf abE abo abp aac aad (λaaF abC=>ah .i64 (WN+1)&&K ((WN+1),aaF,abC))) (0,Zk,abb)) (e0 Zk abb))
def de (N:Nat) (Xw VL Ys Vo:Int) (Vq:LF) (b:Bool) (Vu:LF) (Vx VC:Int) (VJ VN:LF) (VT VZ VB:Fl) (V3 Wh Ws:LF) (k0:Ky8):Bool:=
 (ai N (bH N Xw Vu Vx VC VJ VN VT VZ VB V3 Wh Ws Xw VL Ys Vo Vq 0 0 Xw Vo (λb0 b6=>k0 b0 b6)) (0,b,[]))
def dk (N:Nat):Int->Int->Int->Int->LF->Bool->LF->Int->Int->LF->LF->Fl->Fl->Fl->LF->LF->LF->(Ky8)->Bool:=ax N (de N)
def Cb (N XF Xy t10 Wm:Nat) (t11:Int) (VK:LF) (VS VV:Int) (W7 Xb:LF) (XB WY Xc:Fl) (Wl WA b3 b4:LF) (e0:Ky7):(Fl × Int × Bool)->((Fl × Int × Bool)->Bool)->Bool:=λv_ K=>match v_ with
 | (t,t12,s)=>(cond (decide (t12<t11)) (inR t12 Wm&&(decide ((t10+t12.toNat)<Wl.length)&&(inR t12 Xy&&(decide ((XF+t12.toNat)<WA.length)&&zy N (Wl.getD (t10+t12.toNat) none) (WA.getD (XF+t12.toNat) none) s VK VS VV W7 Xb XB WY Xc b3 b4 (λxr cr=>xx N (dZ t xr) cr VK VS VV W7 Xb XB WY Xc b3 b4 (λVr=>ah .i64 (t12+1)&&K ((dZ t xr),(t12+1),Vr))))))) (e0 t s))
def PR (N Xw VL Ys Vo:Nat) (b:Bool) (Vq:LF) (Vu Vx:Int) (VC VJ:LF) (VN VT VZ:Fl) (VB V3 Wh Ws:LF) (k0:Ky7):Bool:=
 (ai N (Cb N Ys Vo Xw VL ((VL:Nat):Int) Vq Vu Vx VC VJ VN VT VZ VB V3 Wh Ws (λWn b0=>k0 Wn b0)) ((some 0),0,b))
def Sl (N:Nat):Nat->Nat->Nat->Nat->Bool->LF->Int->Int->LF->LF->Fl->Fl->Fl->LF->LF->LF->LF->(Ky7)->Bool:=ax N (PR N)
def bv (N:Nat) (i j b Vo Vq Vu:Int) (Vx:Bool) (VC:LF) (VJ VN:Int) (VT VZ:LF) (VB V3 Wh:Fl) (Ws XF Xy WA:LF) (k0:Ky7):Bool:=
 (ci N b Vo i Ws (λmr Wi=>ci N Vq Vu j XF (λVG WW=>Sl N mr Wi VG WW Vx VC VJ VN VT VZ VB V3 Wh Ws XF Xy WA (λxr cr=>inR i WA.length&&(decide (i.toNat<WA.length)&&zy N (WA.getD i.toNat none) VB cr VC VJ VN VT VZ VB V3 Wh Xy WA (λVW Vr=>inR j WA.length&&(decide (j.toNat<WA.length)&&zy N VW (WA.getD j.toNat none) Vr VC VJ VN VT VZ VB V3 Wh Xy WA (λWv VH=>xx N (dZ xr Wv) VH VC VJ VN VT VZ VB V3 Wh Xy WA (λVU=>k0 (dZ xr Wv) VU)))))))))
def bA (N:Nat):Int->Int->Int->Int->Int->Int->Bool->LF->Int->Int->LF->LF->Fl->Fl->Fl->LF->LF->LF->LF->(Ky7)->Bool:=ax N (bv N)
def bu (N:Nat) (XE i Xr Xh t21 ZT ZU ZV ZW:Int) (Z5:LF) (Z6 Z7:Int) (Z8 Z9:LF) (Z_ aaa aab:Fl) (W_ V4 XJ Zt:LF) (YE YF WX Yv:Int) (e0:Ky8):(Int × Bool × LF)->((Int × Bool × LF)->Bool)->Bool:=λv_ K=>match v_ with
 | (t22,acp,YY)=>(cond (decide (t22<t21)) (bA N i t22 ZT ZU ZV ZW acp Z5 Z6 Z7 Z8 Z9 Z_ aaa aab W_ V4 XJ Zt (λxr cr=>ah .i64 (i*XE)&&(ah .i64 ((i*XE)+t22)&&(ah .i64 (t22*XE)&&(ah .i64 ((t22*XE)+i)&&(inR ((i*XE)+t22) YY.length&&(decide ((Int.toNat ((i*XE)+t22))<YY.length)&&(inR ((t22*XE)+i) (List.length (YY.set (Int.toNat ((i*XE)+t22)) xr))&&(decide ((Int.toNat ((t22*XE)+i))<(List.length (YY.set (Int.toNat ((i*XE)+t22)) xr)))&&(ah .i64 (t22+1)&&K ((t22+1),cr,(List.set (YY.set (Int.toNat ((i*XE)+t22)) xr) (Int.toNat ((t22*XE)+i)) xr)))))))))))) (e0 acp YY))
def bt (N:Nat) (Wc t16 at_ ZQ ZR ZS:Int) (W8:LF) (W9 Xo:Int) (Yc aa8:LF) (aa9 aa_ aba:Fl) (b4 b5 b6 b7:LF) (t4 Zm out VE:Int) (e0:Ky8):(Int × Bool × LF)->((Int × Bool × LF)->Bool)->Bool:=λv_ K=>match v_ with
 | (t17,b3,b10)=>(cond (decide (t17<t16)) (ah .i64 (t17+1)&&ai N (bu N Wc t17 t16 t17 (t17+1) at_ ZQ ZR ZS W8 W9 Xo Yc aa8 aa9 aa_ aba b4 b5 b6 b7 t4 Zm out VE (λacn acl=>ah .i64 (t17+1)&&K ((t17+1),acn,acl))) (0,b3,b10)) (e0 b3 b10))
def b9 (N:Nat) (n b Vo Vq Vu:Int) (Vx:Bool) (VC:LF) (VJ VN:Int) (VT VZ:LF) (VB V3 Wh:Fl) (Ws XF Xy WA:LF) (k0:Ky8):Bool:=
 (ah .i64 (n*n)&&(jD 8 (n*n) (n*n)&&ai N (bt N n n b Vo Vq Vu VC VJ VN VT VZ VB V3 Wh Ws XF Xy WA 0 0 n n (λaco acm=>k0 aco acm)) (0,Vx,(List.replicate (Int.toNat (n*n)) (some 0)))))
def ce (N:Nat):Int->Int->Int->Int->Int->Bool->LF->Int->Int->LF->LF->Fl->Fl->Fl->LF->LF->LF->LF->(Ky8)->Bool:=ax N (b9 N)
def bD (N:Nat) (XE VM YB aaP W3:Int) (Yl:LF) (Ym Yn:Int) (Yo Xl:LF) (Yp Yq Yr:Fl) (WE Wr:LF) (abL abM YT X7:Int) (e0:Ky8):(Int × Bool × LF)->((Int × Bool × LF)->Bool)->Bool:=λv_ K=>match v_ with
 | (WI,aav,b6)=>(cond (decide (WI<W3)) (cond (VM==WI) (inR VM Wr.length&&(decide (VM.toNat<Wr.length)&&(inR WI Xl.length&&zy N (Wr.getD VM.toNat none) (Xl.getD WI.toNat none) aav Yl Ym Yn Yo Xl Yp Yq Yr WE Wr (λVW VH=>xx N (dn (some 4607182418800017408) VW) VH Yl Ym Yn Yo Xl Yp Yq Yr WE Wr (λVU=>decide ((List.length (b6++[(dn (some 4607182418800017408) VW)]))*8<=140737488355328)&&(ah .i64 (WI+1)&&K ((WI+1),VU,(b6++[(dn (some 4607182418800017408) VW)])))))))) (inR VM Wr.length&&(decide (VM.toNat<Wr.length)&&(inR WI Xl.length&&zy N (Wr.getD VM.toNat none) (Xl.getD WI.toNat none) aav Yl Ym Yn Yo Xl Yp Yq Yr WE Wr (λWv Wt=>xx N (dn (some 0) Wv) Wt Yl Ym Yn Yo Xl Yp Yq Yr WE Wr (λX4=>decide ((List.length (b6++[(dn (some 0) Wv)]))*8<=140737488355328)&&(ah .i64 (WI+1)&&K ((WI+1),X4,(b6++[(dn (some 0) Wv)]))))))))) (e0 aav b6))
def bC (N:Nat) (n_3 WN:Int) (ZX:LF) (ZY ZZ:Int) (Z0 Z1:LF) (Z2 Z3 Z4:Fl) (Xm Xn:LF) (abm abn Y2 Zc:Int) (e0:Ky8):(Int × Bool × LF)->((Int × Bool × LF)->Bool)->Bool:=λv_ K=>match v_ with
 | (W2,abx,acq)=>(cond (decide (W2<WN)) (ai N (bD N n_3 W2 WN W2 n_3 ZX ZY ZZ Z0 Z1 Z2 Z3 Z4 Xm Xn abm abn Y2 Zc (λacj acX=>ah .i64 (W2+1)&&K ((W2+1),acj,acX))) (0,abx,acq)) (e0 abx acq))
def cG (N:Nat) (b:Bool) (Vo:LF) (Vq Vu:Int) (Vx VC:LF) (VJ VN VT:Fl) (VZ VB:LF) (k0:Kx9):Bool:=
 (ai N (bC N ((VC.length:Nat):Int) ((VC.length:Nat):Int) Vo Vq Vu Vx VC VJ VN VT VZ VB 0 0 ((VC.length:Nat):Int) ((VC.length:Nat):Int) (λack acr=>dk N ((VC.length:Nat):Int) ((VC.length:Nat):Int) Vq Vu Vx ack Vo Vq Vu Vx VC VJ VN VT acr VZ VB (λYt xsr=>ce N ((VC.length:Nat):Int) ((VC.length:Nat):Int) Vu ((VC.length:Nat):Int) ((VC.length:Nat):Int) Yt Vo Vq Vu Vx VC VJ VN VT xsr acr VZ VB (λYu VO=>k0 ((VC.length:Nat):Int) ((VC.length:Nat):Int) Yu VO)))) (0,b,[]))
def cI (N:Nat):Bool->LF->Int->Int->LF->LF->Fl->Fl->Fl->LF->LF->(Kx9)->Bool:=ax N (cG N)
def JH (N:Nat) (b:Bool) (Vo:LF) (Vq Vu:Int) (Vx VC:LF) (VJ VN VT:Fl) (VZ VB:LF) (k0:Bool):Bool:=
 k0
def Pe (N:Nat):Bool->LF->Int->Int->LF->LF->Fl->Fl->Fl->LF->LF->(Bool)->Bool:=ax N (JH N)
def cO (N:Nat) (Zh XA:Int) (b:Bool) (Vo:LF) (Vq Vu:Int) (Vx VC:LF) (VJ VN VT:Fl) (VZ VB V3 Wh:LF) (k0:Ky2) (k1:Kz3):Bool:=
 (Pe N b Vo Vq Vu Vx VC VJ VN VT V3 Wh (cond b (k0 0 0 5) (eu N Zh XA VB (λcr=>cond (!cr) (k0 0 0 151) (k1 0)))))
def fL (N:Nat):Int->Int->Bool->LF->Int->Int->LF->LF->Fl->Fl->Fl->LF->LF->LF->LF->(Ky2)->(Kz3)->Bool:=ax N (cO N)
def cZ (N:Nat) (Wa:Fl) (aaW:Int) (WY:LF) (Xc s_9:Int) (Zz:LF) (Wl Yx:Int) (aaI aaJ aaK:Fl) (Yh:LF) (W5 X5:Int) (W6 WS:LF) (X6 Yi Xt:Fl) (V4:LF) (e0:Bool->LF->LF->Bool):(Int × Bool × LF × LF)->((Int × Bool × LF × LF)->Bool)->Bool:=λv_ K=>match v_ with
 | (We,YM,VD,b6)=>(cond (decide (We<aaW)) (inR We V4.length&&(decide (We.toNat<V4.length)&&xx N (fdiv (V4.getD We.toNat none) Xt) YM Yh W5 X5 W6 WS X6 Yi Xt V4 b6 (λc8=>decide ((List.length (b6++[(fdiv (V4.getD We.toNat none) Xt)]))*8<=140737488355328)&&(inR We WY.length&&(inR We (List.length (b6++[(fdiv (V4.getD We.toNat none) Xt)]))&&(decide (We.toNat<(List.length (b6++[(fdiv (V4.getD We.toNat none) Xt)])))&&zy N (List.getD (b6++[(fdiv (V4.getD We.toNat none) Xt)]) We.toNat none) Wa c8 Yh W5 X5 W6 WS X6 Yi Xt V4 (b6++[(fdiv (V4.getD We.toNat none) Xt)]) (λWk c9=>xx N (dZ (WY.getD We.toNat none) Wk) c9 Yh W5 X5 W6 WS X6 Yi Xt V4 (b6++[(fdiv (V4.getD We.toNat none) Xt)]) (λc10=>inR We VD.length&&(decide (We.toNat<VD.length)&&(ah .i64 (We+1)&&K ((We+1),c10,(VD.set We.toNat (dZ (WY.getD We.toNat none) Wk)),(b6++[(fdiv (V4.getD We.toNat none) Xt)])))))))))))) (e0 YM VD b6))
def sQ (N:Nat) (Wd:LF) (VK VS:Int) (VV h:LF) (r z Xk abl:Fl) (adc:Bool) (ade ac6:Fl) (b3 YU aaw XJ:LF) (Xi Xj:Int) (k0:Kx3) (k1:Kx2) (k2:Kx0):Bool:=
 (k2 Xi Xj Xk ac6 abl 0 b3 XJ aaw)
def sP (N:Nat) (Wd:LF) (VK VS:Int) (VV h:LF) (r z WD score:Fl) (ada:Bool) (adb ac5:Fl) (W_ Y3:LF) (t Wn:Int) (k0:Kx3) (k1:Kx2) (k2:Kx0):Bool:=
 (k1 t Wn WD ac5 score 0 Y3)
def iL (N:Nat) (Wd:LF) (VK VS:Int) (VV h:LF) (r z:Fl) (e_2:Int) (u:Bool) (Wb Wz:Fl) (b4:LF) (k0:Kx3) (k1:Kx2) (k2:Kx0):Bool:=
 (cond (e_2 != 0) (k0 0 0 (some 0) (some 0) (some 0) e_2) (F8 N (dn z Wb) u Wd VK VS VV h r Wb Wz b4 (λWt=>jD 8 ((h.length:Nat):Int) ((h.length:Nat):Int)&&ai N (cZ N (dn z Wb) (((List.length (List.replicate (Int.toNat ((h.length:Nat):Int)) (some 0))):Nat):Int) Wd VK VS VV 0 0 (some 0) (some 0) (some 0) Wd VK VS VV h r Wb Wz b4 (λac4 V0 Xp=>zy N (dn z Wb) (dn z Wb) ac4 Wd VK VS VV h r Wb Wz b4 Xp (λWT c11=>xx N (fdiv WT Wz) c11 Wd VK VS VV h r Wb Wz b4 Xp (λc12=>gJ N c12 Wd VK VS VV h r Wb Wz b4 Xp (cI N c12 Wd VK VS VV h r Wb Wz b4 Xp (λVy VR c13 VO=>fL N Vy VR c13 Wd VK VS VV h r Wb Wz V0 VO b4 Xp (λVX n5 n6=>cond (n6 != 0) (k0 0 0 (some 0) (some 0) (some 0) n6) (sP N Wd VK VS VV h r z (dn z Wb) (fdiv WT Wz) c13 Wb Wz b4 Xp VX n5 k0 k1 k2)) (λn7=>cond (n7 != 0) (k0 0 0 (some 0) (some 0) (some 0) n7) (sQ N Wd VK VS VV h r z (dn z Wb) (fdiv WT Wz) c13 Wb Wz V0 b4 Xp VO Vy VR k0 k1 k2)))))))) (0,Wt,(List.replicate (Int.toNat ((h.length:Nat):Int)) (some 0)),[]))))
def sO (N:Nat) (Wd:LF) (VK VS:Int) (VV h:LF) (r z:Fl) (e_1:Int) (k0:Kx3) (k1:Kx2) (k2:Kx0):Bool:=
 (cond (e_1 != 0) (k0 0 0 (some 0) (some 0) (some 0) e_1) false)
def iK (N:Nat) (Wd:LF) (VK VS:Int) (VV h:LF) (r z:Fl) (e:Int) (k0:Kx3) (k1:Kx2) (k2:Kx0):Bool:=
 (cond (e != 0) (k0 0 0 (some 0) (some 0) (some 0) e) false)
def jH (N:Nat) (Wd:LF) (VK VS:Int) (VV h:LF) (r z:Fl) (k0:Kx3) (k1:Kx2) (k2:Kx0):Bool:=
 (kJ N Wd VK VS VV h r (λnr=>cond ((nr==0)==false) (iK N Wd VK VS VV h r z nr k0 k1 k2) (u_ N [z] (λVr=>cond (!Vr) (k0 0 0 (some 0) (some 0) (some 0) 4) (sO N Wd VK VS VV h r z nr k0 k1 k2)))) (λVs cr xr VW xsr=>cond ((Vs==0)==false) (u_ N [z] (λVH=>cond (!VH) (k0 0 0 (some 0) (some 0) (some 0) 4) (iL N Wd VK VS VV h r z Vs cr xr VW xsr k0 k1 k2))) (u_ N [z] (λVU=>cond (!VU) (k0 0 0 (some 0) (some 0) (some 0) 4) (iL N Wd VK VS VV h r z Vs cr xr VW xsr k0 k1 k2)))))
def gM (N:Nat):LF->Int->Int->LF->LF->Fl->Fl->(Kx3)->(Kx2)->(Kx0)->Bool:=ax N (jH N)
def jF (N:Nat) (Wd:LF) (VK VS:Int) (VV:LF) (WH WC:Nat) (r z:Fl) (b:LF) (k0:Kx1):Bool:=
 (decide ((WH+WC)<=b.length)&&gM N Wd VK VS VV (List.take WC (List.drop WH b)) r z (λnr Vs xr VW Wv Vy=>k0 [] nr Vs [] xr VW Wv [] Vy) (λVR VX Wk WT Xu n5 xsr=>k0 [] VR VX [] Wk WT Xu xsr n5) (λn6 n7 Zn Zo aa1 n8 VO Wp Wf=>k0 VO n6 n7 Wp Zn Zo aa1 Wf n8))
def gL (N:Nat):LF->Int->Int->LF->Nat->Nat->Fl->Fl->LF->(Kx1)->Bool:=ax N (jF N)
def bh (N z_4 z_5:Nat) (Xa YG:Int) (V1 Wq V8 Wy z_6:LF) (YX Zu XG XH:Int) (e0:Int->Int->LF->Int->Int->LF->List RY4->Bool):(Int × Int × LF × Int × Int × LF × List RY4)->((Int × Int × LF × Int × Int × LF × List RY4)->Bool)->Bool:=λv_ K=>match v_ with
 | (e_1,V_,t_4,t_5,t_6,ZN,l)=>(cond (decide (V_<YG)) (ci N YX Zu V_ V8 (λVG WW=>inR V_ Wy.length&&(decide (V_.toNat<Wy.length)&&(inR V_ z_5&&(decide ((z_4+V_.toNat)<z_6.length)&&gL N t_4 t_5 t_6 ZN VG WW (Wy.getD V_.toNat none) (z_6.getD (z_4+V_.toNat) none) V8 (λWw n5 n6 YO Wk WT Xu YP n7=>cond (n7 != 0) (e0 V_ n7 Ww n5 n6 YO l) (decide ((List.length (l++[(Wk,(WT,(Xu,YP)))]))*48<=140737488355328)&&(ah .i64 (V_+1)&&K (n7,(V_+1),Ww,n5,n6,YO,(l++[(Wk,(WT,(Xu,YP)))])))))))))) (e0 Xa e_1 t_4 t_5 t_6 ZN l))
def eX (N:Nat) (Wd VK WH WC:Int) (ZP VY:Nat) (b Vo Vq Vu Vx:LF) (k0:LF->Int->Int->LF->List RY4->Int->Int->Bool):Bool:=
 (fq N b Wd VK Vo (λnr=>cond (nr != 0) (k0 [] 0 0 [] [] 0 nr) (F7 N WH WC Vq (λVs=>cond (Vs != 0) (k0 [] 0 0 [] [] 0 Vs) (cond ((WC != ((b.length:Nat):Int))==false) (cond ((((Vu.length:Nat):Int) != WH)==false) (cond (((VY:Nat):Int) != WH) (k0 [] 0 0 [] [] 0 3) (aw N b (λxsr=>aw N Vo (λVO=>ai N (bh N ZP VY 0 WH b Vo Vq Vu Vx WH WC 0 0 (λ(Y7 e_2:Int) (t_8:LF) (t_9 X1:Int) (XI:LF) (Y6:List RY4)=>cond (e_2 != 0) (k0 [] 0 0 [] [] Y7 e_2) (k0 t_8 t_9 X1 XI Y6 0 0))) (0,0,xsr,Wd,VK,VO,[]))))) (k0 [] 0 0 [] [] 0 3)) (k0 [] 0 0 [] [] 0 3))))))
def ft (N:Nat):Int->Int->Int->Int->Nat->Nat->LF->LF->LF->LF->LF->(LF->Int->Int->LF->List RY4->Int->Int->Bool)->Bool:=ax N (eX N)
def MV (N:Nat) (t6 t7 t12:Int) (t5 ZG:Nat) (b2 b3 b4 b5:LF) (e0:Kz6):(Int × LF)->((Int × LF)->Bool)->Bool:=λv_ K=>match v_ with
 | (t13,l)=>(cond (decide (t13<t12)) (inR t13 l.length&&(decide (t13.toNat<l.length)&&(ah .i64 (t13+1)&&K ((t13+1),(l.set t13.toNat (some 4635118810238550016)))))) (e0 l))
def MO (N:Nat) (WR YK Xg:Int) (abQ abR:Nat) (Wq W8 W_ V4:LF) (e0:Kz6):(Int × LF)->((Int × LF)->Bool)->Bool:=λv_ K=>match v_ with
 | (Wu,Y6)=>(cond (decide (Wu<Xg)) (inR Wu Y6.length&&(decide (Wu.toNat<Y6.length)&&(ah .i64 (Wu+1)&&K ((Wu+1),(Y6.set Wu.toNat (some 4635118810238550016)))))) (e0 Y6))
def MP (N:Nat) (YH ZH Yy:Int) (abS abT:Nat) (WE Wr YU Xp:LF) (e0:Kz6):(Int × LF)->((Int × LF)->Bool)->Bool:=λv_ K=>match v_ with
 | (WZ,l_2)=>(cond (decide (WZ<Yy)) (inR WZ l_2.length&&(decide (WZ.toNat<l_2.length)&&(ah .i64 (WZ+1)&&K ((WZ+1),(l_2.set WZ.toNat (some 4635118810238550016)))))) (e0 l_2))
def MQ (N:Nat) (YI ZI Yz:Int) (abU abV:Nat) (Xm Xn Xo Y3:LF) (e0:Kz6):(Int × LF)->((Int × LF)->Bool)->Bool:=λv_ K=>match v_ with
 | (W0,l_3)=>(cond (decide (W0<Yz)) (inR W0 l_3.length&&(decide (W0.toNat<l_3.length)&&(ah .i64 (W0+1)&&K ((W0+1),(l_3.set W0.toNat (some 4635118810238550016)))))) (e0 l_3))
def Hw (N l_4 l_5:Nat) (YJ ZJ YA:Int) (abW abX:Nat) (Zq Zr Yc Zs:LF) (e0:Kz6):(Int × LF)->((Int × LF)->Bool)->Bool:=λv_ K=>match v_ with
 | (W1,l_6)=>(cond (decide (W1<YA)) (inR W1 l_5&&(decide ((l_4+W1.toNat)<l_6.length)&&(ah .i64 (W1+1)&&K ((W1+1),(l_6.set (l_4+W1.toNat) (some 4635118810238550016)))))) (e0 l_6))
def GQ6 (N b Vo:Nat) (Vq Vu Vx VC VJ:LF) (k0:Kx5):Bool:=
 (ai (N+24) (MV N 5 0 ((Vq.length:Nat):Int) b Vo Vu Vx VC VJ (λb1=>ai (N+24) (MO N 5 1 ((Vu.length:Nat):Int) b Vo b1 Vx VC VJ (λV8=>ai (N+24) (MP N 5 2 ((Vx.length:Nat):Int) b Vo b1 V8 VC VJ (λW9=>ai (N+24) (MQ N 5 3 ((VC.length:Nat):Int) b Vo b1 V8 W9 VJ (λZf=>ai (N+24) (Hw N b Vo 5 4 ((Vo:Nat):Int) b Vo b1 V8 W9 Zf (λaaw=>k0 b1 V8 W9 Zf aaw)) (0,VJ))) (0,VC))) (0,Vx))) (0,Vu))) (0,Vq))
def sQ6 (N:Nat):Nat->Nat->LF->LF->LF->LF->LF->(Kx5)->Bool:=ax N (GQ6 N)
def SU (N:Nat) (a b:Fl) (k0:Kz2):Bool:=
 (xa N a (λnr=>xa N b (λVs=>k0 (nr==Vs))))
def I_ (N:Nat):Fl->Fl->(Kz2)->Bool:=SU N
def Ce (N:Nat) (VL Vo:LF) (t12:Int) (e0:Kz2) (e1:Bool):(Int)->((Int)->Bool)->Bool:=λv_ K=>match v_ with
 | t13=>(cond (decide (t13<t12)) (inR t13 VL.length&&(inR t13 Vo.length&&I_ N (VL.getD t13.toNat none) (Vo.getD t13.toNat none) (λcr=>cond (!cr) (e0 false) (ah .i64 (t13+1)&&K (t13+1))))) e1)
def PH (N:Nat) (a b:LF) (k0:Kz2):Bool:=
 (cond (((a.length:Nat):Int) != ((b.length:Nat):Int)) (k0 false) (ai N (Ce N a b ((a.length:Nat):Int) (λt4=>k0 t4) (k0 true)) 0))
def I8 (N:Nat):LF->LF->(Kz2)->Bool:=ax N (PH N)
def PM (N:Nat) (Xw:LF) (VL WJ:Int) (Xx Ys:LF) (Vo Vq:Int) (Vu:LF) (k0:Kz2):Bool:=
 (I8 N Xw Ys (λcr=>cond (cr==true) (cond ((VL==Vo)==true) (cond ((WJ==Vq)==true) (I8 N Xx Vu (λVr=>k0 Vr)) (k0 false)) (k0 false)) (k0 false)))
def MC (N:Nat):LF->Int->Int->LF->LF->Int->Int->LF->(Kz2)->Bool:=ax N (PM N)
def P3 (N:Nat) (Xw VL WJ:Fl) (Xx:LF) (Ys Vo Vq:Fl) (Vu:LF) (k0:Kz2):Bool:=
 (I_ N Xw Ys (λcr=>cond (cr==true) (I_ N VL Vo (λVr=>cond (Vr==true) (I_ N WJ Vq (λVH=>cond (VH==true) (I8 N Xx Vu (λVU=>k0 VU)) (k0 false))) (k0 false))) (k0 false)))
def Sr (N:Nat):Fl->Fl->Fl->LF->Fl->Fl->Fl->LF->(Kz2)->Bool:=ax N (P3 N)
def ku (N:Nat) (Wd VK:Int) (r z:Fl) (b Vo Vq:LF) (k0:Kx1):Bool:=
 (gM N b Wd VK Vo Vq r z (λnr Vs xr VW Wv Vy=>k0 [] nr Vs [] xr VW Wv [] Vy) (λVR VX Wk WT Xu n5 xsr=>k0 [] VR VX [] Wk WT Xu xsr n5) (λn6 n7 Zn Zo aa1 n8 VO Wp Wf=>k0 VO n6 n7 Wp Zn Zo aa1 Wf n8))
def qn (N:Nat):Int->Int->Fl->Fl->LF->LF->LF->(Kx1)->Bool:=ax N (ku N)
def S4 (N:Nat) (k0:Kz2):Bool:=
 (qn N 1 1 (some 4607182418800017408) (some 4617315517961601024) [(some 0)] [(some 4616189618054758400)] [(some 4607182418800017408)] (λxsr nr Vs VO xr VW Wv Wp Vy=>cond ((Vy==0)==true) (cond ((((xsr.length:Nat):Int)==1)==true) (inR 0 xsr.length&&cond ((feq (xsr.getD 0 none) (some 4616189618054758400))==true) (cond ((feq VW (some 4617315517961601024))==true) (cond ((feq xr (some 4617315517961601024))==true) (cond ((feq Wv (some 4617315517961601024))==true) (fq N [(some 0)] 1 1 [(some 4616189618054758400)] (λVR=>k0 (VR==0))) (k0 false)) (k0 false)) (k0 false)) (k0 false)) (k0 false)) (k0 false)))
def Su (N:Nat):(Kz2)->Bool:=ax N (S4 N)
def J5 (N:Nat) (n WH WC:Int) (b Vo Vq:LF) (k0:Kz3):Bool:=
 (kN N WH WC b (λnr=>cond (nr != 0) (k0 nr) (cond ((WC != n)==false) (cond ((((Vo.length:Nat):Int) != WH)==false) (cond (((Vq.length:Nat):Int) != WH) (k0 3) (k0 0)) (k0 3)) (k0 3))))
def Po (N:Nat):Int->Int->Int->LF->LF->LF->(Kz3)->Bool:=ax N (J5 N)
def we (N:Nat) (V1 Wy VY:LF) (YX Zu XG XH:Int) (e0:Kx7) (e1:LF->Int->Int->LF->List RY4->Bool):(Int × LF × Int × Int × LF × List RY4)->((Int × LF × Int × Int × LF × List RY4)->Bool)->Bool:=λv_ K=>match v_ with
 | (VM,ZN,t_8,t_9,X1,l)=>(cond (decide (VM<YX)) (xb N YX Zu VM V1 (λVG WW=>inR VM Wy.length&&(decide (VM.toNat<Wy.length)&&(inR VM VY.length&&(decide (VM.toNat<VY.length)&&Hm N ZN t_8 t_9 X1 VG WW (Wy.getD VM.toNat none) (VY.getD VM.toNat none) V1 (λWf n5 n6 WP Wk WT Xu Ww n7=>cond (n7 != 0) (e0 VM n7 0 0) (decide ((List.length (l++[(Wk,(WT,(Xu,Ww)))]))*48<=140737488355328)&&(ah .i64 (VM+1)&&K ((VM+1),Wf,n5,n6,WP,(l++[(Wk,(WT,(Xu,Ww)))])))))))))) (e1 ZN t_8 t_9 X1 l))
def JT (N:Nat) (Xv:LF) (Wn Xi:Int) (Xj:LF) (WH WC:Int) (b Vo Vq:LF) (k0:LF->Int->Int->LF->List RY4->Int->Int->Bool):Bool:=
 (lJ N Xv Wn Xi Xj (λnr=>cond (nr != 0) (k0 [] 0 0 [] [] 0 nr) (Po N ((Xv.length:Nat):Int) WH WC b Vo Vq (λVs=>cond (Vs != 0) (k0 [] 0 0 [] [] 0 Vs) (ai N (we N b Vo Vq WH WC 0 0 (λt10 t11 abZ ab0=>k0 [] abZ ab0 [] [] t10 t11) (λ(XI:LF) (ZK ZL:Int) (ZM:LF) (Y6:List RY4)=>k0 XI ZK ZL ZM Y6 0 0)) (0,Xv,Wn,Xi,Xj,[]))))))
def Mq (N:Nat):LF->Int->Int->LF->Int->Int->LF->LF->LF->(LF->Int->Int->LF->List RY4->Int->Int->Bool)->Bool:=ax N (JT N)
def br (N:Nat) (Xa YG:Int) (V1 Wq V8 Wy VY:LF) (YX Zu XG XH:Int) (e0:Int->Int->LF->Int->Int->LF->List RY4->Bool):(Int × Int × LF × Int × Int × LF × List RY4)->((Int × Int × LF × Int × Int × LF × List RY4)->Bool)->Bool:=λv_ K=>match v_ with
 | (e_1,V_,t_4,t_5,t_6,ZN,l)=>(cond (decide (V_<YG)) (ci N YX Zu V_ V8 (λVG WW=>inR V_ Wy.length&&(decide (V_.toNat<Wy.length)&&(inR V_ VY.length&&(decide (V_.toNat<VY.length)&&gL N t_4 t_5 t_6 ZN VG WW (Wy.getD V_.toNat none) (VY.getD V_.toNat none) V8 (λWw n5 n6 YO Wk WT Xu YP n7=>cond (n7 != 0) (e0 V_ n7 Ww n5 n6 YO l) (decide ((List.length (l++[(Wk,(WT,(Xu,YP)))]))*48<=140737488355328)&&(ah .i64 (V_+1)&&K (n7,(V_+1),Ww,n5,n6,YO,(l++[(Wk,(WT,(Xu,YP)))])))))))))) (e0 Xa e_1 t_4 t_5 t_6 ZN l))
def eZ (N:Nat) (Wd VK WH WC:Int) (b Vo Vq Vu Vx:LF) (k0:LF->Int->Int->LF->List RY4->Int->Int->Bool):Bool:=
 (fq N b Wd VK Vo (λnr=>cond (nr != 0) (k0 [] 0 0 [] [] 0 nr) (F7 N WH WC Vq (λVs=>cond (Vs != 0) (k0 [] 0 0 [] [] 0 Vs) (cond ((WC != ((b.length:Nat):Int))==false) (cond ((((Vu.length:Nat):Int) != WH)==false) (cond (((Vx.length:Nat):Int) != WH) (k0 [] 0 0 [] [] 0 3) (aw N b (λxsr=>aw N Vo (λVO=>ai N (br N 0 WH b Vo Vq Vu Vx WH WC 0 0 (λ(Y7 e_2:Int) (t_8:LF) (t_9 X1:Int) (XI:LF) (Y6:List RY4)=>cond (e_2 != 0) (k0 [] 0 0 [] [] Y7 e_2) (k0 t_8 t_9 X1 XI Y6 0 0))) (0,0,xsr,Wd,VK,VO,[]))))) (k0 [] 0 0 [] [] 0 3)) (k0 [] 0 0 [] [] 0 3))))))
def fu (N:Nat):Int->Int->Int->Int->LF->LF->LF->LF->LF->(LF->Int->Int->LF->List RY4->Int->Int->Bool)->Bool:=ax N (eZ N)
def MW (N:Nat) (t6 t7 t12:Int) (b2 b3 b4 b5:LF) (e0:Kz6):(Int × LF)->((Int × LF)->Bool)->Bool:=λv_ K=>match v_ with
 | (t13,l)=>(cond (decide (t13<t12)) (inR t13 l.length&&(decide (t13.toNat<l.length)&&(ah .i64 (t13+1)&&K ((t13+1),(l.set t13.toNat (some 4635118810238550016)))))) (e0 l))
def MR (N:Nat) (WR YK Xg:Int) (Wq W8 W_ V4:LF) (e0:Kz6):(Int × LF)->((Int × LF)->Bool)->Bool:=λv_ K=>match v_ with
 | (Wu,Y6)=>(cond (decide (Wu<Xg)) (inR Wu Y6.length&&(decide (Wu.toNat<Y6.length)&&(ah .i64 (Wu+1)&&K ((Wu+1),(Y6.set Wu.toNat (some 4635118810238550016)))))) (e0 Y6))
def MS (N:Nat) (YH ZH Yy:Int) (WE Wr YU Xp:LF) (e0:Kz6):(Int × LF)->((Int × LF)->Bool)->Bool:=λv_ K=>match v_ with
 | (WZ,l_2)=>(cond (decide (WZ<Yy)) (inR WZ l_2.length&&(decide (WZ.toNat<l_2.length)&&(ah .i64 (WZ+1)&&K ((WZ+1),(l_2.set WZ.toNat (some 4635118810238550016)))))) (e0 l_2))
def MT (N:Nat) (YI ZI Yz:Int) (Xm Xn Xo Y3:LF) (e0:Kz6):(Int × LF)->((Int × LF)->Bool)->Bool:=λv_ K=>match v_ with
 | (W0,l_3)=>(cond (decide (W0<Yz)) (inR W0 l_3.length&&(decide (W0.toNat<l_3.length)&&(ah .i64 (W0+1)&&K ((W0+1),(l_3.set W0.toNat (some 4635118810238550016)))))) (e0 l_3))
def MU (N:Nat) (YJ ZJ YA:Int) (Zq Zr Yc Zs:LF) (e0:Kz6):(Int × LF)->((Int × LF)->Bool)->Bool:=λv_ K=>match v_ with
 | (W1,l_4)=>(cond (decide (W1<YA)) (inR W1 l_4.length&&(decide (W1.toNat<l_4.length)&&(ah .i64 (W1+1)&&K ((W1+1),(l_4.set W1.toNat (some 4635118810238550016)))))) (e0 l_4))
def GQ7 (N:Nat) (b Vo Vq Vu Vx:LF) (k0:Kx5):Bool:=
 (ai (N+24) (MW N 5 0 ((b.length:Nat):Int) Vo Vq Vu Vx (λb1=>ai (N+24) (MR N 5 1 ((Vo.length:Nat):Int) b1 Vq Vu Vx (λV8=>ai (N+24) (MS N 5 2 ((Vq.length:Nat):Int) b1 V8 Vu Vx (λW9=>ai (N+24) (MT N 5 3 ((Vu.length:Nat):Int) b1 V8 W9 Vx (λZf=>ai (N+24) (MU N 5 4 ((Vx.length:Nat):Int) b1 V8 W9 Zf (λaaw=>k0 b1 V8 W9 Zf aaw)) (0,Vx))) (0,Vu))) (0,Vq))) (0,Vo))) (0,b))
def sQ7 (N:Nat):LF->LF->LF->LF->LF->(Kx5)->Bool:=ax N (GQ7 N)
def Jl (N:Nat) (o k_:List RY4) (t102:Int) (e0:Kz2) (e1:Bool):(Int)->((Int)->Bool)->Bool:=λv_ K=>match v_ with
 | t103=>(cond (decide (t103<t102)) (inR t103 k_.length&&(inR t103 o.length&&Sr N (k_.getD t103.toNat (none,(none,(none,[])))).1 (k_.getD t103.toNat (none,(none,(none,[])))).2.1 (k_.getD t103.toNat (none,(none,(none,[])))).2.2.1 (k_.getD t103.toNat (none,(none,(none,[])))).2.2.2 (o.getD t103.toNat (none,(none,(none,[])))).1 (o.getD t103.toNat (none,(none,(none,[])))).2.1 (o.getD t103.toNat (none,(none,(none,[])))).2.2.1 (o.getD t103.toNat (none,(none,(none,[])))).2.2.2 (λVr=>cond (!Vr) (e0 false) (ah .i64 (t103+1)&&K (t103+1))))) e1)
def Ng (N:Nat) (x:LI) (n:Int) (p:LI) (l:List RY3) (cut:Int) (V1 Wq W8 Wy z_2:LF) (WC:Int) (k0:Kz2):Bool:=
 (MD N x n n p (λy16 y17=>Mq N y16 n n y17 WC n W8 Wy z_2 (λ(y18:LF) (n9 n10:Int) (y19:LF) (acz:List RY4) (n11 n12:Int)=>fu N n n WC n V1 Wq W8 Wy z_2 (λ(y20:LF) (n13 n14:Int) (y21:LF) (abG:List RY4) (n15 n16:Int)=>sQ7 N V1 Wq W8 Wy z_2 (λy22 y23 y24 y25 y26=>MC N y20 n13 n14 y21 y18 n9 n10 y19 (λVU=>cond ((!VU)==false) (cond ((((abG.length:Nat):Int) != ((acz.length:Nat):Int))==false) (cond ((n15 != n11)==false) (cond (n16 != n12) (k0 false) (ai N (Jl N acz abG ((abG.length:Nat):Int) (λWm=>k0 Wm) (Su N (λWt=>k0 Wt))) 0)) (k0 false)) (k0 false)) (k0 false)))))))
def JQ3 (N:Nat) (x:LI) (n:Int) (p:LI) (l:List RY3) (cut:Int) (z:Nat) (b0 b1 b3 r VY:LF) (h:Int) (k0:Kz2):Bool:=
 (MD N x n n p (λWw YO=>Mp N Ww n n YO h n 1 z b3 r VY (λ(YP:LF) (Vs Vy:Int) (acG:LF) (lr:List RY4) (VR VX:Int)=>ft N n n h n 1 z b0 b1 b3 r VY (λ(acH:LF) (n5 n6:Int) (aca:LF) (aam:List RY4) (n7 n8:Int)=>sQ6 N 1 z b0 b1 b3 r VY (λy11 y12 y13 y14 y15=>MC N acH n5 n6 aca YP Vs Vy acG (λcr=>cond ((!cr)==false) (cond ((((aam.length:Nat):Int) != ((lr.length:Nat):Int))==false) (cond ((n7 != VR)==false) (cond (n8 != VX) (k0 false) (ai N (Jl N lr aam ((aam.length:Nat):Int) (λt10=>k0 t10) (Su N (λVH=>k0 VH))) 0)) (k0 false)) (k0 false)) (k0 false)))))))
def GQ2 (N:Nat) (x:LI) (n:Int) (p:LI) (l:List RY3) (cut:Int) (k0:Kz2):Bool:=
 (MD N x n n p (λxsr VO=>Sq N l n (λnr Wp Wf WP=>cond ((cut==1)==true) (cond (decide (((WP.length:Nat):Int)>0)) (decide ((0:Int)<=1/\1<=((WP.length:Nat):Int))&&JQ3 N x n p l cut (WP.length - 1) xsr VO Wp Wf WP nr k0) (Ng N x n p l cut xsr VO Wp Wf WP nr k0)) (Ng N x n p l cut xsr VO Wp Wf WP nr k0))))
def sQ2 (N:Nat):LI->Int->LI->List RY3->Int->(Kz2)->Bool:=GQ2 N
end Go.Proofs.YtpmoedfiobeilaaGreatDoor
