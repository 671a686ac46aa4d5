/-
  THE PROGRAM's FUNCTIONS, as their meanings (written by program).
  Conditions: none.
-/
import Derived.Test.YtadejnnigmcpdaaGreatDoorMachP
set_option linter.unusedVariables false
namespace Go.Proofs.YtadejnnigmcpdaaGreatDoor
open Go Go.Mach
abbrev LI:=List Int
abbrev LF:=List Fl
abbrev Kx0:=Fl->Fl->Fl->Fl->Fl->Int->Bool
abbrev Kx1:=Fl->Fl->Fl->Fl->Int->Bool
abbrev Kx2:=Bool->Int->Int->Int->Bool
abbrev Kx3:=Bool->Int->Int->LI->Bool
abbrev Kx4:=Int->LI->Bool->LI->Bool
abbrev Kx5:=Fl->Fl->Fl->Int->Bool
abbrev Kx6:=Fl->Fl->Fl->Fl->Bool
abbrev Kx7:=Bool->Int->Int->Bool
abbrev Kx8:=Bool->Bool->LI->Bool
abbrev Kx9:=Bool->Nat->Nat->Bool
abbrev Ky0:=Int->Int->Int->Bool
abbrev Ky1:=Int->Bool->LI->Bool
abbrev Ky2:=Fl->Fl->Fl->Bool
abbrev Ky3:=Int->Bool->Bool
abbrev Ky4:=Nat->Nat->Bool
abbrev Ky5:=Bool->LI->Bool
abbrev Ky6:=Int->Int->Bool
abbrev Ky7:=Fl->Int->Bool
abbrev Ky8:=Int->LI->Bool
abbrev Ky9:=Fl->LF->Bool
abbrev Kz0:=Bool->Bool
abbrev Kz1:=Int->Bool
abbrev Kz2:=Fl->Bool
abbrev Kz3:=LI->Bool
def aD:LI:=[0,1,2,2,3,3,3,3,4,4,4,4,4,4,4,4,5,5,5,5,5,5,5,5,5,5,5,5,5,5,5,5,6,6,6,6,6,6,6,6,6,6,6,6,6,6,6,6,6,6,6,6,6,6,6,6,6,6,6,6,6,6,6,6,7,7,7,7,7,7,7,7,7,7,7,7,7,7,7,7,7,7,7,7,7,7,7,7,7,7,7,7,7,7,7,7,7,7,7,7,7,7,7,7,7,7,7,7,7,7,7,7,7,7,7,7,7,7,7,7,7,7,7,7,7,7,7,7,8,8,8,8,8,8,8,8,8,8,8,8,8,8,8,8,8,8,8,8,8,8,8,8,8,8,8,8,8,8,8,8,8,8,8,8,8,8,8,8,8,8,8,8,8,8,8,8,8,8,8,8,8,8,8,8,8,8,8,8,8,8,8,8,8,8,8,8,8,8,8,8,8,8,8,8,8,8,8,8,8,8,8,8,8,8,8,8,8,8,8,8,8,8,8,8,8,8,8,8,8,8,8,8,8,8,8,8,8,8,8,8,8,8,8,8,8,8,8,8,8,8,8,8,8,8,8,8]
abbrev lH:=Nat->(Kz1)->Bool
def D1 (N:Nat):lH:=λn k=>k n
abbrev gE:=(Ky0)->Bool
def v5 (N:Nat) (k0:Ky0):Bool:=
 (k0 52 2047 1075)
def wm (N:Nat):gE:=v5 N
abbrev lI:=Int->Int->Int->(Kz1)->Bool
def Qh (N:Nat) (f_0 f_1 f_2:Int) (k0:Kz1):Bool:=
 (aw .i64 (f_1+1)&&(decide (0<=f_0)&&k0 (IntKind.wrap .u64 ((IntKind.wrap .u64 (f_1+1))*2 ^ (min f_0.toNat 64)))))
def Ls (N:Nat):lI:=Qh N
abbrev lj:=Int->Int->Int->(Kz1)->Bool
def PO (N:Nat) (f_0 f_1 f_2:Int) (k0:Kz1):Bool:=
 (decide (0<=f_0)&&k0 (IntKind.wrap .u64 ((IntKind.wrap .u64 f_1)*2 ^ (min f_0.toNat 64))))
def K6 (N:Nat):lj:=PO N
abbrev sG:=Int->Int->Int->Int->(Kz0)->Bool
def JJ (N:Nat) (SZ186:lI) (SZ115:lj) (b f_0 f_1 f_2:Int) (k0:Kz0):Bool:=
 (SZ186 f_0 f_1 f_2 (λnr=>SZ115 f_0 f_1 f_2 (λamU=>k0 (decide ((av .andNot .u64 b nr)>amU)))))
def K3 (N:Nat):sG:=JJ N (Ls N) (K6 N)
abbrev kO:=Int->Int->Int->(Kz1)->Bool
def ad1 (N:Nat) (f_0 f_1 f_2:Int) (k0:Kz1):Bool:=
 (decide (0<=f_0)&&k0 (IntKind.wrap .u64 ((1:Int)*2 ^ (min f_0.toNat 64))))
def UN (N:Nat):kO:=ad1 N
abbrev tU:=Int->Int->Int->(Kz1)->Bool
def Ke (N:Nat) (SZ115:lj) (SZ90:kO) (f_0 f_1 f_2:Int) (k0:Kz1):Bool:=
 (SZ115 f_0 f_1 f_2 (λnr=>SZ90 f_0 f_1 f_2 (λamU=>k0 (av .or .u64 (av .or .u64 nr (Int.fdiv amU (2 ^ 1))) (IntKind.wrap .u64 (Int.tdiv f_0 52))))))
def Lz (N:Nat):tU:=Ke N (K6 N) (UN N)
abbrev Af:=Int->Int->Int->Int->(Kz1)->Bool
def Zg (N:Nat) (SZ114:sG) (SZ200:tU) (b f_0 f_1 f_2:Int) (k0:Kz1):Bool:=
 (SZ114 b f_0 f_1 f_2 (λcr=>cond cr (SZ200 f_0 f_1 f_2 (λnr=>k0 nr)) (k0 b)))
def abK (N:Nat):Af:=Zg N (K3 N) (Lz N)
abbrev oT:=Int->Int->Int->Int->(Kx7)->Bool
def Y0 (N:Nat) (SZ92:Af) (SZ186:lI) (SZ90:kO) (b f_0 f_1 f_2:Int) (k0:Kx7):Bool:=
 (SZ92 b f_0 f_1 f_2 (λnr=>SZ186 f_0 f_1 f_2 (λamU=>decide (0<=f_0)&&(aw .i64 (av .and .u64 (Int.fdiv nr (2 ^ (min f_0.toNat 64))) (IntKind.wrap .u64 f_1))&&SZ90 f_0 f_1 f_2 (λam3=>k0 ((av .and .u64 nr amU) != 0) (av .and .u64 (Int.fdiv nr (2 ^ (min f_0.toNat 64))) (IntKind.wrap .u64 f_1)) (av .and .u64 nr (IntKind.wrap .u64 (am3 - 1))))))))
def UJ (N:Nat):oT:=Y0 N (abK N) (Ls N) (UN N)
abbrev oS:=Int->Int->Int->Int->(Kz1)->Bool
def YZ (N:Nat) (SZ39:oT) (b f_0 f_1 f_2:Int) (k0:Kz1):Bool:=
 (SZ39 b f_0 f_1 f_2 (λcr nr amU=>cond ((nr==f_1)==true) (cond (amU != 0) (k0 1) (cond (nr==f_1) (k0 2) (cond ((nr==0)==true) (cond (amU==0) (k0 3) (cond (nr==0) (k0 4) (k0 5))) (cond (nr==0) (k0 4) (k0 5))))) (cond (nr==f_1) (k0 2) (cond ((nr==0)==true) (cond (amU==0) (k0 3) (cond (nr==0) (k0 4) (k0 5))) (cond (nr==0) (k0 4) (k0 5))))))
def UI (N:Nat):oS:=YZ N (UJ N)
abbrev Et:=Nat->(Kz1)->Bool
def Kc (N:Nat) (SZ185:lH) (anm:gE) (SZ38:oS) (x:Nat) (k0:Kz1):Bool:=
 (SZ185 x (λnr=>anm (λamU am3 ane=>SZ38 nr amU am3 ane (λanw=>k0 anw))))
def A9 (N:Nat):Et:=Kc N (D1 N) (wm N) (UI N)
abbrev cV:=Int->(Kz2)->Bool
def pj (N:Nat):cV:=λn k=>k (cP n.toNat)
abbrev Eu:=Nat->(Kz2)->Bool
def Kg (N:Nat) (SZ185:lH) (SZ108:cV) (x:Nat) (k0:Kz2):Bool:=
 (SZ185 x (λnr=>SZ108 (av .andNot .u64 nr 9223372036854775808) (λxr=>k0 xr)))
def A_ (N:Nat):Eu:=Kg N (D1 N) (pj N)
abbrev ge:=LF->(Kz0)->Bool
def fI (N:Nat) (l_1:LF) (t5:Int) (e0:Kz0) (e1:Bool):(Int)->((Int)->Bool)->Bool:=λv_ K=>match v_ with
 | t6=>(cond (decide (t6<t5)) (inR t6 l_1.length&&(inR t6 l_1.length&&cond (!feq (co (l_1.getD t6.toNat none) (l_1.getD t6.toNat none)) (some 0)) (e0 false) (aw .i64 (t6+1)&&K (t6+1)))) e1)
def YW (N:Nat) (l:LF) (k0:Kz0):Bool:=
 (aH N (fI N l ((l.length:Nat):Int) (λt2=>k0 t2) (k0 true)) 0)
def D3 (N:Nat):ge:=YW N
abbrev gD:=Fl->Fl->Fl->Fl->(Kz0)->Bool
def YS (N:Nat) (SZ28:ge) (ao_ apa apb apc:Fl) (k0:Kz0):Bool:=
 (SZ28 [ao_,apa,apb,apc] (λcr=>cond (!cr) (k0 false) (k0 true)))
def Gi (N:Nat):gD:=YS (N+24) (D3 N)
abbrev hI:=Fl->Fl->Fl->Fl->(Bool)->Bool
def NK (N:Nat) (q_0 q_1 q_2 q_3:Fl) (k0:Bool):Bool:=
 k0
def Gl (N:Nat):hI:=NK N
abbrev aU:=Fl->(Kz2)->Bool
def dg (N:Nat):aU:=λx k=>k (cW x)
abbrev kw:=Fl->Int->(Kz0)->Bool
def Cs (N:Nat) (amQ:aU) (f:Fl) (sign:Int) (k0:Kz0):Bool:=
 (cond (sign==0) (amQ f (λxr=>k0 (fgt xr (some 9218868437227405311)))) (cond (decide (sign<0)) (k0 (fgt (afG f) (some 9218868437227405311))) (k0 (fgt f (some 9218868437227405311)))))
def A6 (N:Nat):kw:=Cs N (dg N)
abbrev kx:=Fl->(Kz0)->Bool
def P7 (N:Nat) (f:Fl) (k0:Kz0):Bool:=
 (k0 (!feq f f))
def Lk (N:Nat):kx:=P7 N
abbrev oX:=Fl->(Ky7)->Bool
def Qq (N:Nat) (amQ:aU) (x:Fl) (k0:Ky7):Bool:=
 (amQ x (λxr=>cond (flt xr (some 4503599627370496)) (k0 (af x (some 4841369599423283200)) (-52)) (k0 x 0)))
def O8 (N:Nat):oX:=Qq N (dg N)
abbrev du:=Fl->(Kz1)->Bool
def kr (N:Nat):du:=λx k=>match x with | some b=>k b | none=>false
abbrev t_:=Fl->(Ky7)->Bool
def Kf (N:Nat) (SZ154:kw) (SZ161:kx) (SZ80:oX) (SZ129:du) (SZ108:cV) (f:Fl) (k0:Ky7):Bool:=
 (cond (feq f (some 0)) (k0 f 0) (SZ154 f 0 (λcr=>cond (cr==false) (SZ161 f (λam1=>cond am1 (k0 f 0) (SZ80 f (λxr nr=>SZ129 xr (λamU=>aw .i64 (av .and .u64 (Int.fdiv amU (2 ^ 52)) 2047)&&(aw .i64 ((av .and .u64 (Int.fdiv amU (2 ^ 52)) 2047) - 1023)&&(aw .i64 (((av .and .u64 (Int.fdiv amU (2 ^ 52)) 2047) - 1023)+1)&&(aw .i64 (nr+(((av .and .u64 (Int.fdiv amU (2 ^ 52)) 2047) - 1023)+1))&&SZ108 (av .or .u64 (av .andNot .u64 amU 9218868437227405312) 4602678819172646912) (λamO=>k0 amO (nr+(((av .and .u64 (Int.fdiv amU (2 ^ 52)) 2047) - 1023)+1))))))))))) (k0 f 0))))
def UH (N:Nat):t_:=Kf N (A6 N) (Lk N) (O8 N) (kr N) (pj N)
abbrev iS:=Fl->(Ky7)->Bool
def JH (N:Nat) (SZ202:t_) (f:Fl) (k0:Ky7):Bool:=
 (SZ202 f (λxr nr=>k0 xr nr))
def kb (N:Nat):iS:=JH N (UH N)
abbrev pp:=Fl->Fl->(Kz2)->Bool
def JR (N:Nat) (SZ129:du) (SZ108:cV) (f sign:Fl) (k0:Kz2):Bool:=
 (SZ129 f (λnr=>SZ129 sign (λamU=>SZ108 (av .or .u64 (av .andNot .u64 nr 9223372036854775808) (av .and .u64 amU 9223372036854775808)) (λxr=>k0 xr))))
def Lc (N:Nat):pp:=JR N (kr N) (pj N)
abbrev jS:=Int->(Kz2)->Bool
def sn (N:Nat) (SZ108:cV) (sign v:Int) (k0:Kz2):Bool:=
 (SZ108 v (λxr=>k0 xr))
def lh (N:Nat) (SZ108:cV) (sign:Int) (k0:Kz2):Bool:=
 (cond (decide (sign>=0)) (sn N SZ108 sign 9218868437227405312 k0) (sn N SZ108 sign 18442240474082181120 k0))
def ov (N:Nat):jS:=lh N (pj N)
abbrev tR:=Fl->Int->(Kz2)->Bool
def CF (N:Nat) (SZ154:kw) (SZ161:kx) (SZ80:oX) (SZ129:du) (SZ128:pp) (am4:jS) (SZ108:cV) (frac:Fl) (exp aow x:Int) (m:Fl) (k0:Kz2):Bool:=
 (aw .i64 (aow+1023)&&SZ108 (av .or .u64 (av .andNot .u64 x 9218868437227405312) (IntKind.wrap .u64 ((IntKind.wrap .u64 (aow+1023))*2 ^ 52))) (λamV=>k0 (af m amV)))
def wA (N:Nat) (SZ154:kw) (SZ161:kx) (SZ80:oX) (SZ129:du) (SZ128:pp) (am4:jS) (SZ108:cV) (frac:Fl) (exp:Int) (k0:Kz2):Bool:=
 (cond (feq frac (some 0)) (k0 frac) (SZ154 frac 0 (λcr=>cond (cr==false) (SZ161 frac (λam1=>cond am1 (k0 frac) (SZ80 frac (λxr nr=>aw .i64 (exp+nr)&&SZ129 xr (λamU=>aw .i64 (Int.fdiv amU (2 ^ 52))&&(aw .i64 ((av .and .i64 (Int.fdiv amU (2 ^ 52)) 2047) - 1023)&&(aw .i64 ((exp+nr)+((av .and .i64 (Int.fdiv amU (2 ^ 52)) 2047) - 1023))&&cond (decide (((exp+nr)+((av .and .i64 (Int.fdiv amU (2 ^ 52)) 2047) - 1023))<(-1075))) (SZ128 (some 0) xr (λamO=>k0 amO)) (cond (decide (((exp+nr)+((av .and .i64 (Int.fdiv amU (2 ^ 52)) 2047) - 1023))>1023)) (cond (flt xr (some 0)) (am4 (-1) (λamR=>k0 amR)) (am4 1 (λamS=>k0 amS))) (cond (decide (((exp+nr)+((av .and .i64 (Int.fdiv amU (2 ^ 52)) 2047) - 1023))<(-1022))) (aw .i64 (((exp+nr)+((av .and .i64 (Int.fdiv amU (2 ^ 52)) 2047) - 1023))+53)&&CF N SZ154 SZ161 SZ80 SZ129 SZ128 am4 SZ108 frac exp (((exp+nr)+((av .and .i64 (Int.fdiv amU (2 ^ 52)) 2047) - 1023))+53) amU (some 4368491638549381120) k0) (CF N SZ154 SZ161 SZ80 SZ129 SZ128 am4 SZ108 frac exp ((exp+nr)+((av .and .i64 (Int.fdiv amU (2 ^ 52)) 2047) - 1023)) amU (some 4607182418800017408) k0)))))))))) (k0 frac))))
def Lx (N:Nat):tR:=wA N (A6 N) (Lk N) (O8 N) (kr N) (Lc N) (ov N) (pj N)
abbrev hJ:=Fl->Int->(Kz2)->Bool
def Qp (N:Nat) (SZ198:tR) (frac:Fl) (exp:Int) (k0:Kz2):Bool:=
 (SZ198 frac exp (λxr=>k0 xr))
def pZ (N:Nat):hJ:=Qp N (Lx N)
abbrev ub:=Fl->(Kz2)->Bool
def ac_ (N:Nat):ub:=λx k=>k (dm x)
abbrev f6:=Fl->(Kz2)->Bool
def PU (N:Nat) (SZ214:ub) (x:Fl) (k0:Kz2):Bool:=
 (SZ214 x (λxr=>k0 xr))
def DT (N:Nat):f6:=PU N (ac_ N)
abbrev tz:=Fl->Fl->Fl->Fl->(Bool)->Bool
def Qb (N:Nat) (l_0 l_1 l_2 l_3:Fl) (k0:Bool):Bool:=
 k0
def ac0 (N:Nat):tz:=Qb N
abbrev m4:=Fl->Fl->Fl->Fl->(Kx1)->Bool
def NL (N:Nat) (SZ18:gD) (SZ37:hI) (amQ:aU) (SZ111:iS) (SZ79:hJ) (SZ133:f6) (SZ174:tz) (q_0 q_1 q_2 q_3:Fl) (k0:Kx1):Bool:=
 (SZ18 q_0 q_1 q_2 q_3 (λcr=>cond (!cr) (k0 (some 0) (some 0) (some 0) (some 0) 4) (SZ37 q_0 q_1 q_2 q_3 (amQ q_0 (λxr=>amQ q_1 (λamO=>amQ q_2 (λamR=>amQ q_3 (λamS=>cond (feq (fmm true (fmm true (fmm true (fmm true (some 0) xr) amO) amR) amS) (some 0)) (k0 (some 0) (some 0) (some 0) (some 0) 120) (SZ111 (fmm true (fmm true (fmm true (fmm true (some 0) xr) amO) amR) amS) (λamV nr=>aw .i64 (1 - nr)&&SZ79 q_0 (1 - nr) (λamY=>aw .i64 (1 - nr)&&SZ79 q_1 (1 - nr) (λam8=>aw .i64 (1 - nr)&&SZ79 q_2 (1 - nr) (λam7=>aw .i64 (1 - nr)&&SZ79 q_3 (1 - nr) (λanb=>SZ133 (ai (ai (ai (ai (some 0) (af amY amY)) (af am8 am8)) (af am7 am7)) (af anb anb)) (λanP=>SZ174 (fdiv amY anP) (fdiv am8 anP) (fdiv am7 anP) (fdiv anb anP) (k0 (fdiv amY anP) (fdiv am8 anP) (fdiv am7 anP) (fdiv anb anP) 0))))))))))))))))
def uJ (N:Nat):m4:=NL (N+24) (Gi N) (Gl N) (dg N) (kb N) (pZ N) (DT N) (ac0 N)
abbrev mZ:=Fl->Fl->Fl->Fl->Fl->Fl->(Ky2)->Bool
def adV (N:Nat) (a_0 a_1 a_2 b_0 b_1 b_2:Fl) (k0:Ky2):Bool:=
 (k0 (co (af a_1 b_2) (af a_2 b_1)) (co (af a_2 b_0) (af a_0 b_2)) (co (af a_0 b_1) (af a_1 b_0)))
def abJ (N:Nat):mZ:=adV N
abbrev tJ:=Fl->Fl->Fl->(Kx5)->Bool
def Ka (N:Nat) (SZ28:ge) (v_0 v_1 v_2:Fl) (k0:Kx5):Bool:=
 (SZ28 [v_0,v_1,v_2] (λcr=>cond (!cr) (k0 (some 0) (some 0) (some 0) 5) (k0 v_0 v_1 v_2 0)))
def Lt (N:Nat):tJ:=Ka N (D3 N)
abbrev lr:=Fl->Fl->Fl->Fl->Fl->Fl->Fl->(Kx5)->Bool
def JM (N:Nat) (SZ18:gD) (SZ28:ge) (SZ71:mZ) (SZ188:tJ) (q_0 q_1 q_2 q_3 v_0 v_1 v_2:Fl) (k0:Kx5):Bool:=
 (SZ18 q_0 q_1 q_2 q_3 (λcr=>cond ((!cr)==false) (SZ28 [v_0,v_1,v_2] (λam1=>cond (!am1) (k0 (some 0) (some 0) (some 0) 4) (SZ71 q_1 q_2 q_3 v_0 v_1 v_2 (λxr amO amR=>SZ71 q_1 q_2 q_3 (af xr (some 4611686018427387904)) (af amO (some 4611686018427387904)) (af amR (some 4611686018427387904)) (λamS amV amY=>SZ188 (ai (ai v_0 (af q_0 (af xr (some 4611686018427387904)))) amS) (ai (ai v_1 (af q_0 (af amO (some 4611686018427387904)))) amV) (ai (ai v_2 (af q_0 (af amR (some 4611686018427387904)))) amY) (λam8 am7 anb nr=>k0 am8 am7 anb nr)))))) (k0 (some 0) (some 0) (some 0) 4)))
def A4 (N:Nat):lr:=JM (N+24) (Gi N) (D3 N) (abJ N) (Lt N)
abbrev sN:=Fl->Fl->Fl->Fl->Fl->Fl->Fl->Fl->(Kz0)->Bool
def JS (N:Nat) (SZ28:ge) (ao_ apa apb apc apH apI apJ apK:Fl) (k0:Kz0):Bool:=
 (SZ28 [ao_,apa,apb,apc] (λcr=>cond (!cr) (k0 false) (SZ28 [apH,apI,apJ,apK] (λam1=>cond (!am1) (k0 false) (k0 true)))))
def Lf (N:Nat):sN:=JS (N+24) (D3 N)
abbrev tP:=Fl->Fl->Fl->Fl->Fl->Fl->Fl->Fl->(Kx6)->Bool
def Qm (N:Nat) (a_0 a_1 a_2 a_3 b_0 b_1 b_2 b_3:Fl) (k0:Kx6):Bool:=
 (k0 (co (co (co (af a_0 b_0) (af a_1 b_1)) (af a_2 b_2)) (af a_3 b_3)) (co (ai (ai (af a_0 b_1) (af a_1 b_0)) (af a_2 b_3)) (af a_3 b_2)) (ai (ai (co (af a_0 b_2) (af a_1 b_3)) (af a_2 b_0)) (af a_3 b_1)) (ai (co (ai (af a_0 b_3) (af a_1 b_2)) (af a_2 b_1)) (af a_3 b_0)))
def ac7 (N:Nat):tP:=Qm N
abbrev tA:=Fl->Fl->Fl->Fl->(Kx1)->Bool
def Qc (N:Nat) (SZ18:gD) (q_0 q_1 q_2 q_3:Fl) (k0:Kx1):Bool:=
 (SZ18 q_0 q_1 q_2 q_3 (λcr=>cond (!cr) (k0 (some 0) (some 0) (some 0) (some 0) 5) (k0 q_0 q_1 q_2 q_3 0)))
def ac1 (N:Nat):tA:=Qc N (Gi N)
abbrev tM:=Fl->Fl->Fl->Fl->Fl->Fl->Fl->Fl->(Kx1)->Bool
def Ql (N:Nat) (SZ134:sN) (SZ195:tP) (SZ175:tA) (a_0 a_1 a_2 a_3 b_0 b_1 b_2 b_3:Fl) (k0:Kx1):Bool:=
 (SZ134 a_0 a_1 a_2 a_3 b_0 b_1 b_2 b_3 (λcr=>cond (!cr) (k0 (some 0) (some 0) (some 0) (some 0) 4) (SZ195 a_0 a_1 a_2 a_3 b_0 b_1 b_2 b_3 (λxr amO amR amS=>SZ175 xr amO amR amS (λamV amY am8 am7 nr=>k0 amV amY am8 am7 nr)))))
def ac6 (N:Nat):tM:=Ql N (Lf N) (ac7 N) (ac1 N)
abbrev tu:=Fl->(Kz1)->Bool
def DZ (N:Nat):tu:=λx k=>k (wN x)
abbrev li:=LF->(Kz0)->Bool
def gN (N:Nat) (SZ172:tu) (t6:LF) (t7:Int) (e0:Kz0) (e1:Bool):(Int)->((Int)->Bool)->Bool:=λv_ K=>match v_ with
 | t8=>(cond (decide (t8<t7)) (inR t8 t6.length&&SZ172 (t6.getD t8.toNat none) (λnr=>cond ((nr==1)==false) (cond (nr==2) (e0 false) (aw .i64 (t8+1)&&K (t8+1))) (e0 false))) e1)
def JG (N:Nat) (SZ172:tu) (l:LF) (k0:Kz0):Bool:=
 (aH N (gN N SZ172 l ((l.length:Nat):Int) (λt2=>k0 t2) (k0 true)) 0)
def DQ (N:Nat):li:=JG N (DZ N)
abbrev yD:=Int->(Kz1)->Bool
def GZ8 (N:Nat) (x:Int) (k0:Kz1):Bool:=
 (cond (x==0) (k0 64) (inR (Int.fdiv (IntKind.wrap .u64 ((av .and .u64 x (IntKind.wrap .u64 (0 - x)))*285870213051353865)) (2 ^ 58)) 64&&(aw .i64 (yn.getD (Int.toNat (Int.fdiv (IntKind.wrap .u64 ((av .and .u64 x (IntKind.wrap .u64 (0 - x)))*285870213051353865)) (2 ^ 58))) 0)&&k0 (yn.getD (Int.toNat (Int.fdiv (IntKind.wrap .u64 ((av .and .u64 x (IntKind.wrap .u64 (0 - x)))*285870213051353865)) (2 ^ 58))) 0))))
def sZ8 (N:Nat):yD:=GZ8 N
abbrev Ac:=Int->Int->Int->Int->(Kx2)->Bool
def Qv (N:Nat) (SZ39:oT) (SZ38:oS) (SZ90:kO) (SZ8:yD) (b f_0 f_1 f_2:Int) (p:Bool) (p_1 p_2:Int) (k0:Kx2):Bool:=
 (SZ8 p_1 (λanw=>decide (0<=anw)&&(aw .i64 (p_2+anw)&&k0 p (Int.fdiv p_1 (2 ^ (min anw.toNat 64))) (p_2+anw) 0)))
def Qr (N:Nat) (SZ39:oT) (SZ38:oS) (SZ90:kO) (SZ8:yD) (b f_0 f_1 f_2:Int) (k0:Kx2):Bool:=
 (SZ39 b f_0 f_1 f_2 (λcr nr amU=>aw .i64 (nr - f_2)&&SZ38 b f_0 f_1 f_2 (λam3=>cond (am3==1) (k0 false 0 0 4) (cond (am3==2) (k0 false 0 0 4) (cond (am3==3) (k0 cr 0 0 0) (cond (am3==4) (aw .i64 ((nr - f_2)+1)&&Qv N SZ39 SZ38 SZ90 SZ8 b f_0 f_1 f_2 cr amU ((nr - f_2)+1) k0) (SZ90 f_0 f_1 f_2 (λane=>Qv N SZ39 SZ38 SZ90 SZ8 b f_0 f_1 f_2 cr (av .or .u64 amU ane) (nr - f_2) k0))))))))
def als (N:Nat):Ac:=Qr N (UJ N) (UI N) (UN N) (sZ8 N)
abbrev tK:=Fl->(Kx2)->Bool
def Qk (N:Nat) (SZ129:du) (anm:gE) (SZ82:Ac) (x:Fl) (k0:Kx2):Bool:=
 (SZ129 x (λnr=>anm (λamU am3 ane=>SZ82 nr amU am3 ane (λcr anw n5 n6=>k0 cr anw n5 n6))))
def ac5 (N:Nat):tK:=Qk N (kr N) (wm N) (als N)
abbrev gY:=LI->(Ky4)->Bool
def XV (N:Nat) (x:LI) (e0:Kz1):(Int)->((Int)->Bool)->Bool:=λv_ K=>match v_ with
 | n=>(cond ((decide (n>0))==true) (aw .i64 (n - 1)&&(inR (n - 1) x.length&&(decide ((Int.toNat (n - 1))<x.length)&&cond ((x.getD (Int.toNat (n - 1)) 0)==0) (aw .i64 (n - 1)&&K (n - 1)) (e0 n)))) (e0 n))
def GZ3 (N:Nat) (b:LI) (k0:Ky4):Bool:=
 (aH N (XV N b (λn_1=>decide (0<=n_1/\n_1<=((b.length:Nat):Int))&&k0 0 (n_1.toNat - 0))) ((b.length:Nat):Int))
def sZ3 (N:Nat):gY:=GZ3 N
abbrev lD:=Int->(Kz3)->Bool
def P5 (N:Nat) (SZ3:gY) (n:Int) (k0:Kz3):Bool:=
 (SZ3 [n] (λmr anf=>decide ((mr+anf)<=(List.length [n]))&&k0 (List.take anf (List.drop mr [n]))))
def UA (N:Nat):lD:=P5 N (sZ3 N)
abbrev gu:=Bool->LI->Bool->(Kz0)->Bool
def GZ2 (N:Nat) (neg:Bool) (abs:LI) (b:Bool) (k0:Kz0):Bool:=
 (cond (neg==true) (k0 (decide (((abs.length:Nat):Int)>0))) (k0 false))
def sZ2 (N:Nat):gu:=GZ2 N
abbrev z7:=Int->Bool->(Ky5)->Bool
def adQ (N:Nat) (SZ157:lD) (SZ2:gu) (n:Int) (b:Bool) (k0:Ky5):Bool:=
 (SZ157 n (λnsr=>SZ2 false nsr b (λcr=>k0 cr nsr)))
def alm (N:Nat):z7:=adQ N (UA N) (sZ2 N)
abbrev jR:=LI->(Kz3)->Bool
def ad2 (N:Nat) (x:LI) (k0:Kz3):Bool:=
 (decide ((List.length ([]++x))*8<=140737488355328)&&k0 ([]++x))
def UO (N:Nat):jR:=ad2 N
abbrev mA:=Bool->LI->Bool->LI->(Kz0)->Bool
def adC (N:Nat) (neg:Bool) (abs:LI) (b:Bool) (b_1:LI) (k0:Kz0):Bool:=
 (cond (neg==true) (k0 (decide (((abs.length:Nat):Int)>0))) (k0 false))
def abG (N:Nat):mA:=adC N
abbrev qA:=Bool->LI->(Ky5)->Bool
def adz (N:Nat) (SZ91:jR) (SZ42:mA) (b:Bool) (b_1:LI) (k0:Ky5):Bool:=
 (SZ91 b_1 (λnsr=>SZ42 (!b) nsr b b_1 (λcr=>k0 cr nsr)))
def ag5 (N:Nat):qA:=adz N (UO N) (abG N)
abbrev tH:=Fl->(Ky1)->Bool
def Qg (N:Nat) (SZ190:tK) (SZ63:z7) (SZ34:qA) (x:Fl) (k0:Ky1):Bool:=
 (SZ190 x (λcr nr amU am3=>SZ63 nr false (λam1 nsr=>cond cr (SZ34 am1 nsr (λanl am2=>k0 amU anl am2)) (k0 amU am1 nsr))))
def ac3 (N:Nat):tH:=Qg N (ac5 N) (alm N) (ag5 N)
abbrev sP:=Int->Int->(Ky6)->Bool
def PV (N:Nat) (x y:Int) (k0:Ky6):Bool:=
 (k0 (IntKind.wrap .u64 ((IntKind.wrap .u64 ((IntKind.wrap .u64 ((Int.fdiv x (2 ^ 32))*(Int.fdiv y (2 ^ 32))))+(Int.fdiv (IntKind.wrap .u64 ((IntKind.wrap .u64 ((Int.fdiv x (2 ^ 32))*(av .and .u64 y 4294967295)))+(Int.fdiv (IntKind.wrap .u64 ((av .and .u64 x 4294967295)*(av .and .u64 y 4294967295))) (2 ^ 32)))) (2 ^ 32))))+(Int.fdiv (IntKind.wrap .u64 ((av .and .u64 (IntKind.wrap .u64 ((IntKind.wrap .u64 ((Int.fdiv x (2 ^ 32))*(av .and .u64 y 4294967295)))+(Int.fdiv (IntKind.wrap .u64 ((av .and .u64 x 4294967295)*(av .and .u64 y 4294967295))) (2 ^ 32)))) 4294967295)+(IntKind.wrap .u64 ((av .and .u64 x 4294967295)*(Int.fdiv y (2 ^ 32)))))) (2 ^ 32)))) (IntKind.wrap .u64 (x*y)))
def acS (N:Nat):sP:=PV N
abbrev qK:=Int->Int->Int->(Ky6)->Bool
def ahf (N:Nat):qK:=λx y c k=>(decide (c.toNat<=1))&&k (((x.toNat+y.toNat+c.toNat)%18446744073709551616:Nat):Int) (((x.toNat+y.toNat+c.toNat) / 18446744073709551616:Nat):Int)
abbrev sM:=Int->Int->Int->Int->(Ky6)->Bool
def PR (N:Nat) (SZ138:sP) (SZ86:qK) (a b c d:Int) (k0:Ky6):Bool:=
 (SZ138 a b (λnr amU=>SZ86 amU c 0 (λam3 ane=>SZ86 am3 d 0 (λanw n5=>k0 (IntKind.wrap .u64 ((IntKind.wrap .u64 (nr+ane))+n5)) anw))))
def acR (N:Nat):sM:=PR N (acS N) (ahf N)
abbrev tm:=LI->LI->(Kz3)->Bool
section
variable (N:Nat) (SZ130:sM) (SZ3:gY)
def nK (N:Nat) (SZ130:sM) (SZ3:gY) (y_2:LI) (i a:Int) (ao5:LI) (an6 aoc:Int) (t32:LI) (t33:Int) (e0:Ky8):(Int × Int × LI)->((Int × Int × LI)->Bool)->Bool:=λv_ K=>match v_ with
 | (carry,t34,z_1)=>(cond (decide (t34<t33)) (inR t34 t32.length&&(aw .i64 (i+t34)&&(aw .i64 (i+t34)&&(inR (i+t34) z_1.length&&(decide ((Int.toNat (i+t34))<z_1.length)&&SZ130 a (t32.getD t34.toNat 0) (z_1.getD (Int.toNat (i+t34)) 0) carry (λnr amU=>inR (i+t34) z_1.length&&(decide ((Int.toNat (i+t34))<z_1.length)&&(aw .i64 (t34+1)&&K (nr,(t34+1),(z_1.set (Int.toNat (i+t34)) amU)))))))))) (e0 carry z_1))
def nJ (y_1 t25:LI) (t26:Int) (e0:Kz3):(Int × LI)->((Int × LI)->Bool)->Bool:=λv_ K=>match v_ with
 | (t27,z)=>(cond (decide (t27<t26)) (inR t27 t25.length&&aH N (nK N SZ130 SZ3 y_1 t27 (t25.getD t27.toNat 0) t25 t26 t27 y_1 ((y_1.length:Nat):Int) (λanM z_2=>aw .i64 (t27+((y_1.length:Nat):Int))&&(inR (t27+((y_1.length:Nat):Int)) z_2.length&&(decide ((Int.toNat (t27+((y_1.length:Nat):Int)))<z_2.length)&&(aw .i64 (t27+1)&&K ((t27+1),(z_2.set (Int.toNat (t27+((y_1.length:Nat):Int))) anM))))))) (0,0,z)) (e0 z))
def Qa (x y:LI) (k0:Kz3):Bool:=
 (cond ((((x.length:Nat):Int)==0)==false) (cond (((y.length:Nat):Int)==0) (k0 []) (aw .i64 (((x.length:Nat):Int)+((y.length:Nat):Int))&&(nx 8 (((x.length:Nat):Int)+((y.length:Nat):Int)) (((x.length:Nat):Int)+((y.length:Nat):Int))&&aH N (nJ N SZ130 SZ3 y x ((x.length:Nat):Int) (λz_3=>SZ3 z_3 (λmr anf=>decide ((mr+anf)<=z_3.length)&&k0 (List.take anf (List.drop mr z_3))))) (0,(List.replicate (Int.toNat (((x.length:Nat):Int)+((y.length:Nat):Int))) (0:Int)))))) (k0 []))
end
def acZ (N:Nat):tm:=Qa N (acR N) (sZ3 N)
abbrev z8:=Bool->Bool->LI->Bool->LI->(Ky5)->Bool
def adR (N:Nat) (SZ167:tm) (SZ2:gu) (b b_1:Bool) (b_2:LI) (b_3:Bool) (b_4:LI) (k0:Ky5):Bool:=
 (SZ167 b_2 b_4 (λnsr=>SZ2 (b_1 != b_3) nsr b (λcr=>k0 cr nsr)))
def aln (N:Nat):z8:=adR N (acZ N) (sZ2 N)
abbrev zJ:=Int->Int->Bool->LI->Bool->LI->(Ky1)->Bool
def adq (N:Nat) (SZ66:z8) (x y:Int) (b:Bool) (b_1:LI) (b_2:Bool) (b_3:LI) (k0:Ky1):Bool:=
 (SZ66 false b b_1 b_2 b_3 (λcr nsr=>aw .i64 (x+y)&&k0 (x+y) cr nsr))
def ak7 (N:Nat):zJ:=adq N (aln N)
abbrev Aj:=Bool->(Ky8)->Bool
def ad3 (N:Nat) (b:Bool) (k0:Ky8):Bool:=
 (cond b (k0 (-1) []) (k0 0 []))
def alu (N:Nat):Aj:=ad3 N
abbrev mL:=Bool->LI->(Kz1)->Bool
def GZ5 (N:Nat) (b:Bool) (b_1:LI) (k0:Kz1):Bool:=
 (cond b (k0 (-1)) (cond (((b_1.length:Nat):Int)==0) (k0 0) (k0 1)))
def sZ5 (N:Nat):mL:=GZ5 N
abbrev iU:=LI->Int->(Kz3)->Bool
def pk (N:Nat) (SZ3:gY) (words rest:Int) (t24:LI) (t25:Int) (e0:Kz3):(Int × LI)->((Int × LI)->Bool)->Bool:=λv_ K=>match v_ with
 | (t26,z)=>(cond (decide (t26<t25)) (inR t26 t24.length&&(aw .i64 (words+t26)&&(inR (words+t26) z.length&&(decide ((Int.toNat (words+t26))<z.length)&&(decide (0<=rest)&&(inR (words+t26) z.length&&(decide ((Int.toNat (words+t26))<z.length)&&(aw .i64 (words+t26)&&(aw .i64 ((words+t26)+1)&&(decide (0<=(IntKind.wrap .u64 (64 - rest)))&&(inR ((words+t26)+1) (List.length (z.set (Int.toNat (words+t26)) (av .or .u64 (z.getD (Int.toNat (words+t26)) 0) (IntKind.wrap .u64 ((t24.getD t26.toNat 0)*2 ^ (min rest.toNat 64))))))&&(decide ((Int.toNat ((words+t26)+1))<(List.length (z.set (Int.toNat (words+t26)) (av .or .u64 (z.getD (Int.toNat (words+t26)) 0) (IntKind.wrap .u64 ((t24.getD t26.toNat 0)*2 ^ (min rest.toNat 64)))))))&&(aw .i64 (t26+1)&&K ((t26+1),(List.set (z.set (Int.toNat (words+t26)) (av .or .u64 (z.getD (Int.toNat (words+t26)) 0) (IntKind.wrap .u64 ((t24.getD t26.toNat 0)*2 ^ (min rest.toNat 64))))) (Int.toNat ((words+t26)+1)) (Int.fdiv (t24.getD t26.toNat 0) (2 ^ (min (Int.toNat (IntKind.wrap .u64 (64 - rest))) 64)))))))))))))))))) (e0 z))
def PS (N:Nat) (SZ3:gY) (x:LI) (n:Int) (k0:Kz3):Bool:=
 (cond (((x.length:Nat):Int)==0) (k0 []) (aw .i64 (IntKind.wrap .u64 (Int.tdiv n 64))&&(aw .i64 ((IntKind.wrap .u64 (Int.tdiv n 64))+((x.length:Nat):Int))&&(aw .i64 (((IntKind.wrap .u64 (Int.tdiv n 64))+((x.length:Nat):Int))+1)&&(nx 8 (((IntKind.wrap .u64 (Int.tdiv n 64))+((x.length:Nat):Int))+1) (((IntKind.wrap .u64 (Int.tdiv n 64))+((x.length:Nat):Int))+1)&&aH N (pk N SZ3 (IntKind.wrap .u64 (Int.tdiv n 64)) (Int.tmod n 64) x ((x.length:Nat):Int) (λz_1=>SZ3 z_1 (λmr anf=>decide ((mr+anf)<=z_1.length)&&k0 (List.take anf (List.drop mr z_1))))) (0,(List.replicate (Int.toNat (((IntKind.wrap .u64 (Int.tdiv n 64))+((x.length:Nat):Int))+1)) (0:Int))))))))
def Ld (N:Nat):iU:=PS N (sZ3 N)
abbrev Ab:=Int->Bool->Bool->LI->(Ky5)->Bool
def adZ (N:Nat) (SZ131:iU) (SZ2:gu) (n:Int) (b b_1:Bool) (b_2:LI) (k0:Ky5):Bool:=
 (SZ131 b_2 n (λnsr=>SZ2 b_1 nsr b (λcr=>k0 cr nsr)))
def alr (N:Nat):Ab:=adZ N (Ld N) (sZ2 N)
abbrev qD:=Int->Int->Bool->LI->(Ky5)->Bool
def adD (N:Nat) (SZ76:Ab) (x e:Int) (b:Bool) (b_1:LI) (k0:Ky5):Bool:=
 (aw .i64 (x - e)&&SZ76 (IntKind.wrap .u64 (x - e)) false b b_1 (λcr nsr=>k0 cr nsr))
def ag7 (N:Nat):qD:=adD N (alr N)
abbrev fL:=LI->Int->(Kz1)->Bool
def ads (N:Nat) (x:LI) (i:Int) (k0:Kz1):Bool:=
 (cond (decide (i<((x.length:Nat):Int))) (inR i x.length&&k0 (x.getD i.toNat 0)) (k0 0))
def Gk (N:Nat):fL:=ads N
abbrev lF:=LI->LI->(Kz3)->Bool
def rZ (N:Nat) (SZ24:fL) (SZ86:qK) (SZ3:gY) (x_1 y_1:LI) (n t17:Int) (e0:Ky8):(Int × Int × LI)->((Int × Int × LI)->Bool)->Bool:=λv_ K=>match v_ with
 | (carry,t18,z)=>(cond (decide (t18<t17)) (SZ24 x_1 t18 (λnr=>SZ24 y_1 t18 (λamU=>SZ86 nr amU carry (λam3 ane=>inR t18 z.length&&(decide (t18.toNat<z.length)&&(aw .i64 (t18+1)&&K (ane,(t18+1),(z.set t18.toNat am3)))))))) (e0 carry z))
def Qe (N:Nat) (SZ24:fL) (SZ86:qK) (SZ3:gY) (x y:LI) (k0:Kz3):Bool:=
 (aw .i64 ((imm true ((x.length:Nat):Int) ((y.length:Nat):Int))+1)&&(nx 8 ((imm true ((x.length:Nat):Int) ((y.length:Nat):Int))+1) ((imm true ((x.length:Nat):Int) ((y.length:Nat):Int))+1)&&aH N (rZ N SZ24 SZ86 SZ3 x y (imm true ((x.length:Nat):Int) ((y.length:Nat):Int)) (imm true ((x.length:Nat):Int) ((y.length:Nat):Int)) (λanM z_1=>inR (imm true ((x.length:Nat):Int) ((y.length:Nat):Int)) z_1.length&&(decide ((Int.toNat (imm true ((x.length:Nat):Int) ((y.length:Nat):Int)))<z_1.length)&&SZ3 (z_1.set (Int.toNat (imm true ((x.length:Nat):Int) ((y.length:Nat):Int))) anM) (λmr anf=>decide ((mr+anf)<=(List.length (z_1.set (Int.toNat (imm true ((x.length:Nat):Int) ((y.length:Nat):Int))) anM)))&&k0 (List.take anf (List.drop mr (z_1.set (Int.toNat (imm true ((x.length:Nat):Int) ((y.length:Nat):Int))) anM))))))) (0,0,(List.replicate (Int.toNat ((imm true ((x.length:Nat):Int) ((y.length:Nat):Int))+1)) (0:Int)))))
def UE (N:Nat):lF:=Qe N (Gk N) (ahf N) (sZ3 N)
abbrev sU:=LI->LI->(Kz1)->Bool
def XU (N:Nat) (x_1 y_1:LI) (e0:Kz1) (e1:Bool):(Int)->((Int)->Bool)->Bool:=λv_ K=>match v_ with
 | i=>(cond (decide (i>=0)) (inR i x_1.length&&(inR i y_1.length&&cond ((x_1.getD i.toNat 0) != (y_1.getD i.toNat 0)) (inR i x_1.length&&(inR i y_1.length&&cond (decide ((x_1.getD i.toNat 0)<(y_1.getD i.toNat 0))) (e0 (-1)) (e0 1))) (aw .i64 (i - 1)&&K (i - 1)))) e1)
def PX (N:Nat) (x y:LI) (k0:Kz1):Bool:=
 (cond (((x.length:Nat):Int) != ((y.length:Nat):Int)) (cond (decide (((x.length:Nat):Int)<((y.length:Nat):Int))) (k0 (-1)) (k0 1)) (aw .i64 (((x.length:Nat):Int) - 1)&&aH N (XU N x y (λt4=>k0 t4) (k0 0)) (((x.length:Nat):Int) - 1)))
def acT (N:Nat):sU:=PX N
abbrev sI:=Int->Int->Int->(Ky6)->Bool
def acQ (N:Nat):sI:=λx y c k=>(decide (c.toNat<=1))&&k (((x.toNat+18446744073709551616 - y.toNat - c.toNat)%18446744073709551616:Nat):Int) (cond (decide (x.toNat<y.toNat+c.toNat)) 1 0)
abbrev tI:=LI->LI->(Kz3)->Bool
def pm (N:Nat) (SZ24:fL) (SZ122:sI) (SZ3:gY) (x_1 y_1:LI) (t12:Int) (e0:Kz3):(Int × Int × LI)->((Int × Int × LI)->Bool)->Bool:=λv_ K=>match v_ with
 | (borrow,t13,z)=>(cond (decide (t13<t12)) (inR t13 x_1.length&&SZ24 y_1 t13 (λnr=>SZ122 (x_1.getD t13.toNat 0) nr borrow (λamU am3=>inR t13 z.length&&(decide (t13.toNat<z.length)&&(aw .i64 (t13+1)&&K (am3,(t13+1),(z.set t13.toNat amU))))))) (e0 z))
def Qi (N:Nat) (SZ24:fL) (SZ122:sI) (SZ3:gY) (x y:LI) (k0:Kz3):Bool:=
 (nx 8 ((x.length:Nat):Int) ((x.length:Nat):Int)&&aH N (pm N SZ24 SZ122 SZ3 x y ((x.length:Nat):Int) (λz_1=>SZ3 z_1 (λmr anf=>decide ((mr+anf)<=z_1.length)&&k0 (List.take anf (List.drop mr z_1))))) (0,0,(List.replicate (Int.toNat ((x.length:Nat):Int)) (0:Int))))
def ac4 (N:Nat):tI:=Qi N (Gk N) (acQ N) (sZ3 N)
abbrev Aa:=Bool->LI->Bool->Bool->LI->(Ky5)->Bool
def adY (N:Nat) (SZ181:lF) (SZ2:gu) (SZ146:sU) (SZ187:tI) (neg:Bool) (y:LI) (b b_1:Bool) (b_2:LI) (k0:Ky5):Bool:=
 (cond (b_1==neg) (SZ181 b_2 y (λnsr=>SZ2 neg nsr b (λcr=>k0 cr nsr))) (SZ146 b_2 y (λnr=>cond (decide (nr>=0)) (SZ187 b_2 y (λam2=>SZ2 b_1 am2 b (λam1=>k0 am1 am2))) (SZ187 y b_2 (λam6=>SZ2 neg am6 b (λanl=>k0 anl am6))))))
def alq (N:Nat):Aa:=adY N (UE N) (sZ2 N) (acT N) (ac4 N)
abbrev qB:=Bool->Bool->LI->Bool->LI->(Ky5)->Bool
def adA (N:Nat) (SZ74:Aa) (b b_1:Bool) (b_2:LI) (b_3:Bool) (b_4:LI) (k0:Ky5):Bool:=
 (SZ74 b_3 b_4 b b_1 b_2 (λcr nsr=>k0 cr nsr))
def ag6 (N:Nat):qB:=adA N (alq N)
abbrev zK:=Int->Int->Bool->Bool->LI->(Kz3)->(Kz3)->(Kx4)->Bool
def adt (N:Nat) (SZ96:Aj) (SZ5:mL) (SZ43:qD) (SZ35:qB) (x y:Int) (b b_1:Bool) (b_2:LI) (k0:Kz3) (k1:Kz3) (k2:Kx4):Bool:=
 (SZ96 b (λnr nsr=>cond (nr==0) (k0 nsr) (SZ5 b_1 b_2 (λamU=>cond (amU==0) (k1 nsr) (SZ43 x (imm false x y) b nsr (λcr am2=>SZ43 y (imm false x y) b_1 b_2 (λam1 am6=>SZ35 false cr am2 am1 am6 (λanl ank=>k2 (imm false x y) nsr anl ank))))))))
def ak8 (N:Nat):zK:=adt N (alu N) (sZ5 N) (ag7 N) (ag6 N)
abbrev vF:=Int->Int->Bool->LI->Bool->LI->(Bool)->(Bool)->(Ky1)->Bool
def GZ6 (N:Nat) (SZ5:mL) (SZ43:qD) (SZ35:qB) (x y:Int) (b:Bool) (b_1:LI) (b_2:Bool) (b_3:LI) (k0 k1:Bool) (k2:Ky1):Bool:=
 (SZ5 b b_1 (λnr=>cond (nr==0) k0 (SZ5 b_2 b_3 (λamU=>cond (amU==0) k1 (SZ43 x (imm false x y) b b_1 (λcr nsr=>SZ43 y (imm false x y) b_2 b_3 (λam1 am2=>SZ35 false cr nsr am1 am2 (λanl am6=>k2 (imm false x y) anl am6))))))))
def sZ6 (N:Nat):vF:=GZ6 N (sZ5 N) (ag7 N) (ag6 N)
abbrev zS:=Bool->Bool->LI->(Ky5)->Bool
def adE (N:Nat) (SZ91:jR) (SZ2:gu) (b b_1:Bool) (b_2:LI) (k0:Ky5):Bool:=
 (SZ91 b_2 (λnsr=>SZ2 b_1 nsr b (λcr=>k0 cr nsr)))
def alc (N:Nat):zS:=adE N (UO N) (sZ2 N)
abbrev z9:=Int->Bool->LI->(Kz1)->Bool
def adS (N:Nat) (SZ24:fL) (i:Int) (b:Bool) (b_1:LI) (k0:Kz1):Bool:=
 (aw .i64 (Int.tdiv i 64)&&SZ24 b_1 (Int.tdiv i 64) (λnr=>decide (0<=(Int.tmod i 64))&&k0 (av .and .u64 (Int.fdiv nr (2 ^ (min (Int.toNat (Int.tmod i 64)) 64))) 1)))
def alo (N:Nat):z9:=adS N (Gk N)
abbrev zH:=Bool->LI->(Kz1)->Bool
def XQ (N:Nat) (SZ8:yD) (t8:LI) (t9:Int) (b0:Bool) (an2:LI) (e0:Kz1) (e1:Bool):(Int)->((Int)->Bool)->Bool:=λv_ K=>match v_ with
 | t10=>(cond (decide (t10<t9)) (inR t10 t8.length&&cond ((t8.getD t10.toNat 0) != 0) (aw .i64 (64*t10)&&SZ8 (t8.getD t10.toNat 0) (λnr=>aw .i64 ((64*t10)+nr)&&e0 (IntKind.wrap .u64 ((64*t10)+nr)))) (aw .i64 (t10+1)&&K (t10+1))) e1)
def adn (N:Nat) (SZ8:yD) (b:Bool) (b_1:LI) (k0:Kz1):Bool:=
 (aH N (XQ N SZ8 b_1 ((b_1.length:Nat):Int) b b_1 (λt2=>k0 t2) (k0 0)) 0)
def ak6 (N:Nat):zH:=adn N (sZ8 N)
abbrev tg:=LI->Int->(LI->Bool->Bool)->Bool
def nH (N:Nat) (SZ24:fL) (SZ3:gY) (x_1:LI) (words rest:Int) (t37:LI) (t38:Int) (e0:Kz1):(Int × Int)->((Int × Int)->Bool)->Bool:=λv_ K=>match v_ with
 | (lost,t39)=>(cond (decide (t39<t38)) (inR t39 t37.length&&(aw .i64 (t39+1)&&K ((av .or .u64 lost (t37.getD t39.toNat 0)),(t39+1)))) (e0 lost))
def nI (N:Nat) (SZ24:fL) (SZ3:gY) (x_2:LI) (anS aob aox t53:Int) (e0:Kz3):(Int × LI)->((Int × LI)->Bool)->Bool:=λv_ K=>match v_ with
 | (t54,z)=>(cond (decide (t54<t53)) (aw .i64 (anS+t54)&&SZ24 x_2 (anS+t54) (λnr=>decide (0<=aob)&&(aw .i64 (anS+t54)&&(aw .i64 ((anS+t54)+1)&&SZ24 x_2 ((anS+t54)+1) (λamU=>decide (0<=(IntKind.wrap .u64 (64 - aob)))&&(inR t54 z.length&&(decide (t54.toNat<z.length)&&(aw .i64 (t54+1)&&K ((t54+1),(z.set t54.toNat (av .or .u64 (Int.fdiv nr (2 ^ (min aob.toNat 64))) (IntKind.wrap .u64 (amU*2 ^ (min (Int.toNat (IntKind.wrap .u64 (64 - aob))) 64)))))))))))))) (e0 z))
def P9 (N:Nat) (SZ24:fL) (SZ3:gY) (x:LI) (n:Int) (k0:LI->Bool->Bool):Bool:=
 (cond (decide ((IntKind.wrap .u64 (Int.tdiv n 64))>=(IntKind.wrap .u64 ((x.length:Nat):Int)))) (k0 [] (decide (((x.length:Nat):Int)>0))) (aw .i64 (IntKind.wrap .u64 (Int.tdiv n 64))&&(inR (IntKind.wrap .u64 (Int.tdiv n 64)) x.length&&(decide (0<=(Int.tmod n 64))&&(decide (0<=(IntKind.wrap .u64 (Int.tdiv n 64))/\(IntKind.wrap .u64 (Int.tdiv n 64))<=((x.length:Nat):Int))&&aH N (nH N SZ24 SZ3 x (IntKind.wrap .u64 (Int.tdiv n 64)) (Int.tmod n 64) (List.drop 0 (List.take (Int.toNat (IntKind.wrap .u64 (Int.tdiv n 64))) x)) (((List.length (List.drop 0 (List.take (Int.toNat (IntKind.wrap .u64 (Int.tdiv n 64))) x))):Nat):Int) (λapk=>aw .i64 (((x.length:Nat):Int) - (IntKind.wrap .u64 (Int.tdiv n 64)))&&(nx 8 (((x.length:Nat):Int) - (IntKind.wrap .u64 (Int.tdiv n 64))) (((x.length:Nat):Int) - (IntKind.wrap .u64 (Int.tdiv n 64)))&&aH N (nI N SZ24 SZ3 x (IntKind.wrap .u64 (Int.tdiv n 64)) (Int.tmod n 64) apk (((List.length (List.replicate (Int.toNat (((x.length:Nat):Int) - (IntKind.wrap .u64 (Int.tdiv n 64)))) (0:Int))):Nat):Int) (λz_1=>SZ3 z_1 (λmr anf=>decide ((mr+anf)<=z_1.length)&&k0 (List.take anf (List.drop mr z_1)) (apk != 0)))) (0,(List.replicate (Int.toNat (((x.length:Nat):Int) - (IntKind.wrap .u64 (Int.tdiv n 64)))) (0:Int)))))) ((av .and .u64 (x.getD (Int.toNat (IntKind.wrap .u64 (Int.tdiv n 64))) 0) (IntKind.wrap .u64 ((IntKind.wrap .u64 ((1:Int)*2 ^ (min (Int.toNat (Int.tmod n 64)) 64))) - 1))),0))))))
def acX (N:Nat):tg:=P9 N (Gk N) (sZ3 N)
abbrev qy:=Int->Bool->LI->(Ky5)->Bool
def adp (N:Nat) (SZ163:tg) (SZ181:lF) (SZ42:mA) (n:Int) (b:Bool) (b_1:LI) (k0:Ky5):Bool:=
 (SZ163 b_1 n (λnsr cr=>cond (b==true) (cond cr (SZ181 nsr [1] (λam2=>SZ42 b am2 b b_1 (λam1=>k0 am1 am2))) (SZ42 b nsr b b_1 (λanl=>k0 anl nsr))) (SZ42 b nsr b b_1 (λanq=>k0 anq nsr))))
def ag4 (N:Nat):qy:=adp N (acX N) (UE N) (abG N)
abbrev zL:=Int->Bool->LI->(Ky1)->Bool
def XP (N:Nat) (SZ46:zS) (SZ5:mL) (SZ67:z9) (SZ12:zH) (SZ20:qy) (b0:Bool) (an2:LI) (t2:Value) (apn:Int) (e0:Ky1):(Int × Bool × LI)->((Int × Bool × LI)->Bool)->Bool:=λv_ K=>match v_ with
 | (e,n,n_1)=>(SZ5 n n_1 (λnr=>cond ((nr != 0)==true) (SZ67 0 n n_1 (λamU=>cond (amU==0) (SZ12 n n_1 (λam3=>SZ20 am3 n n_1 (λam1 am2=>aw .i64 am3&&(aw .i64 (e+am3)&&K ((e+am3),am1,am2))))) (e0 e n n_1))) (e0 e n n_1)))
def adu (N:Nat) (SZ46:zS) (SZ5:mL) (SZ67:z9) (SZ12:zH) (SZ20:qy) (x:Int) (b:Bool) (b_1:LI) (k0:Ky1):Bool:=
 (SZ46 false b b_1 (λcr nsr=>aH N (XP N SZ46 SZ5 SZ67 SZ12 SZ20 b b_1 (.pointer none) 0 (λe_1 n_2 n_3=>k0 e_1 n_2 n_3)) (x,cr,nsr)))
def ak9 (N:Nat):zL:=adu N (alc N) (sZ5 N) (alo N) (ak6 N) (ag4 N)
abbrev sH:=Int->(Kz1)->Bool
def Qx (N:Nat) (x x_2 n_1:Int) (k0:Kz1):Bool:=
 (cond (decide (x_2>=256)) (aw .i64 (n_1+8)&&(inR (IntKind.wrap .u8 (Int.fdiv x_2 (2 ^ 8))) 256&&(aw .i64 (aD.getD (Int.toNat (IntKind.wrap .u8 (Int.fdiv x_2 (2 ^ 8)))) 0)&&(aw .i64 ((n_1+8)+(aD.getD (Int.toNat (IntKind.wrap .u8 (Int.fdiv x_2 (2 ^ 8)))) 0))&&k0 ((n_1+8)+(aD.getD (Int.toNat (IntKind.wrap .u8 (Int.fdiv x_2 (2 ^ 8)))) 0)))))) (inR (IntKind.wrap .u8 x_2) 256&&(aw .i64 (aD.getD (Int.toNat (IntKind.wrap .u8 x_2)) 0)&&(aw .i64 (n_1+(aD.getD (Int.toNat (IntKind.wrap .u8 x_2)) 0))&&k0 (n_1+(aD.getD (Int.toNat (IntKind.wrap .u8 x_2)) 0))))))
def Qw (N:Nat) (x x_1 n:Int) (k0:Kz1):Bool:=
 (cond (decide (x_1>=65536)) (aw .i64 (n+16)&&Qx N x (Int.fdiv x_1 (2 ^ 16)) (n+16) k0) (Qx N x x_1 n k0))
def Cp (N:Nat) (x:Int) (k0:Kz1):Bool:=
 (cond (decide (x>=4294967296)) (Qw N x (Int.fdiv x (2 ^ 32)) 32 k0) (Qw N x x 0 k0))
def acP (N:Nat):sH:=Cp N
abbrev ti:=LI->(Kz1)->Bool
def P_ (N:Nat) (SZ121:sH) (x:LI) (k0:Kz1):Bool:=
 (cond (((x.length:Nat):Int)==0) (k0 0) (aw .i64 (((x.length:Nat):Int) - 1)&&(aw .i64 (64*(((x.length:Nat):Int) - 1))&&(aw .i64 (((x.length:Nat):Int) - 1)&&(inR (((x.length:Nat):Int) - 1) x.length&&SZ121 (x.getD (Int.toNat (((x.length:Nat):Int) - 1)) 0) (λnr=>aw .i64 ((64*(((x.length:Nat):Int) - 1))+nr)&&k0 ((64*(((x.length:Nat):Int) - 1))+nr)))))))
def acY (N:Nat):ti:=P_ N (acP N)
abbrev zU:=Bool->LI->(Kz1)->Bool
def adG (N:Nat) (SZ165:ti) (b:Bool) (b_1:LI) (k0:Kz1):Bool:=
 (SZ165 b_1 (λnr=>k0 nr))
def ale (N:Nat):zU:=adG N (acY N)
abbrev z_:=Int->Bool->(Ky5)->Bool
def adT (N:Nat) (SZ157:lD) (SZ2:gu) (n:Int) (b:Bool) (k0:Ky5):Bool:=
 (cond (decide (n<0)) (SZ157 (IntKind.wrap .u64 (0 - (IntKind.wrap .u64 n))) (λnsr=>SZ2 true nsr b (λcr=>k0 cr nsr))) (SZ157 (IntKind.wrap .u64 n) (λam2=>SZ2 false am2 b (λam1=>k0 am1 am2))))
def alp (N:Nat):z_:=adT N (UA N) (sZ2 N)
abbrev qI:=Int->(Ky5)->Bool
def adX (N:Nat) (SZ68:z_) (n:Int) (k0:Ky5):Bool:=
 (SZ68 n false (λcr nsr=>k0 cr nsr))
def ahd (N:Nat):qI:=adX N (alp N)
abbrev zT:=Bool->Bool->LI->(Ky5)->Bool
def adF (N:Nat) (SZ91:jR) (SZ2:gu) (b b_1:Bool) (b_2:LI) (k0:Ky5):Bool:=
 (SZ91 b_2 (λnsr=>SZ2 false nsr b (λcr=>k0 cr nsr)))
def ald (N:Nat):zT:=adF N (UO N) (sZ2 N)
abbrev zW:=Bool->Nat->Nat->Bool->LI->(Kz0)->Bool
def adK (N:Nat) (neg:Bool) (aov aog:Nat) (b:Bool) (b_1:LI) (k0:Kz0):Bool:=
 (cond (neg==true) (k0 (decide (((aog:Nat):Int)>0))) (k0 false))
def alh (N:Nat):zW:=adK N
abbrev zN:=Bool->Bool->LI->Bool->LI->(Ky5)->Bool
def XR (N:Nat) (SZ3:gY) (SZ52:zW) (t22:Int) (z x:Bool) (x_1:LI) (y:Bool) (y_1:LI) (e0:Kz3):(Int × LI)->((Int × LI)->Bool)->Bool:=λv_ K=>match v_ with
 | (t23,r)=>(cond (decide (t23<t22)) (inR t23 x_1.length&&(inR t23 y_1.length&&(inR t23 r.length&&(decide (t23.toNat<r.length)&&(aw .i64 (t23+1)&&K ((t23+1),(r.set t23.toNat (av .and .u64 (x_1.getD t23.toNat 0) (y_1.getD t23.toNat 0))))))))) (e0 r))
def adw (N:Nat) (SZ3:gY) (SZ52:zW) (b b_1:Bool) (b_2:LI) (b_3:Bool) (b_4:LI) (k0:Ky5):Bool:=
 (nx 8 (imm false ((b_2.length:Nat):Int) ((b_4.length:Nat):Int)) (imm false ((b_2.length:Nat):Int) ((b_4.length:Nat):Int))&&aH N (XR N SZ3 SZ52 (((List.length (List.replicate (Int.toNat (imm false ((b_2.length:Nat):Int) ((b_4.length:Nat):Int))) (0:Int))):Nat):Int) b b_1 b_2 b_3 b_4 (λr_1=>SZ3 r_1 (λmr anf=>SZ52 false mr anf b r_1 (λcr=>decide ((mr+anf)<=r_1.length)&&k0 cr (List.take anf (List.drop mr r_1)))))) (0,(List.replicate (Int.toNat (imm false ((b_2.length:Nat):Int) ((b_4.length:Nat):Int))) (0:Int))))
def ala (N:Nat):zN:=adw N (sZ3 N) (alh N)
abbrev tV:=LI->(Kz1)->Bool
def Qn (N:Nat) (SZ24:fL) (x:LI) (k0:Kz1):Bool:=
 (SZ24 x 0 (λnr=>k0 nr))
def ac8 (N:Nat):tV:=Qn N (Gk N)
abbrev zV:=Bool->LI->(Kz1)->Bool
def adH (N:Nat) (SZ201:tV) (b:Bool) (b_1:LI) (k0:Kz1):Bool:=
 (SZ201 b_1 (λnr=>k0 nr))
def alf (N:Nat):zV:=adH N (ac8 N)
abbrev qw:=Int->Bool->LI->(Kx7)->(Kx3)->Bool
def XS (N:Nat) (SZ27:zL) (SZ5:mL) (SZ48:zU) (SZ73:qI) (SZ47:zT) (SZ31:zN) (SZ49:zV) (SZ20:qy) (aou:Bool) (api:LI) (aoG:Bool) (aoH:Int) (d_2:Bool) (d_3:Int) (aoy:Bool) (aoz:LI) (e0:Kz3):(Bool × LI × LI)->((Bool × LI × LI)->Bool)->Bool:=λv_ K=>match v_ with
 | (m_2,m_3,b5)=>(SZ5 m_2 m_3 (λn6=>cond (n6 != 0) (SZ31 false m_2 m_3 aoy aoz (λanz s5=>SZ49 anz s5 (λn7=>decide ((List.length (b5++[(IntKind.wrap .u32 n7)]))*4<=140737488355328)&&SZ20 32 m_2 m_3 (λanG s6=>K (anG,s6,(b5++[(IntKind.wrap .u32 n7)])))))) (e0 b5)))
def ado (N:Nat) (SZ27:zL) (SZ5:mL) (SZ48:zU) (SZ73:qI) (SZ47:zT) (SZ31:zN) (SZ49:zV) (SZ20:qy) (x:Int) (b:Bool) (b_1:LI) (k0:Kx7) (k1:Kx3):Bool:=
 (SZ27 x b b_1 (λnr cr nsr=>SZ5 cr nsr (λamU=>cond (amU==0) (k0 false 0 0) (SZ48 cr nsr (λam3=>cond ((decide (am3>65536))==false) (cond ((decide (nr>100000))==false) (cond (decide (nr<(-100000))) (k0 false 0 2) (SZ5 cr nsr (λane=>SZ73 4294967295 (λam1 am2=>SZ47 false cr nsr (λanl am6=>aH N (XS N SZ27 SZ5 SZ48 SZ73 SZ47 SZ31 SZ49 SZ20 b b_1 false 0 (decide (ane<0)) nr am1 am2 (λb3=>k1 (decide (ane<0)) nr 0 b3)) (anl,am6,[])))))) (k0 false 0 2)) (k0 false 0 2))))))
def ag3 (N:Nat):qw:=ado N (ak9 N) (sZ5 N) (ale N) (ahd N) (ald N) (ala N) (alf N) (ag4 N)
abbrev kt:=LF->LF->(Kx7)->(Kx3)->Bool
def pn (N:Nat) (SZ109:li) (SZ184:tH) (SZ22:zJ) (SZ25:zK) (SZ6:vF) (SZ17:qw) (b_2 an6:LF) (aoc:Int) (aoI:Bool) (aoJ:Int) (e0:Ky1):(Int × Int × Bool × LI)->((Int × Int × Bool × LI)->Bool)->Bool:=λv_ K=>match v_ with
 | (anR,s_1,an9,an_)=>(cond (decide (anR<aoc)) (inR anR an6.length&&SZ184 (an6.getD anR.toNat none) (λane anz ann=>inR anR b_2.length&&SZ184 (b_2.getD anR.toNat none) (λanw anG s5=>SZ22 ane anw anz ann anG s5 (λn5 c7 s6=>SZ6 s_1 n5 an9 an_ c7 s6 (aw .i64 (anR+1)&&K ((anR+1),n5,c7,s6)) (aw .i64 (anR+1)&&K ((anR+1),s_1,an9,an_)) (λn6 c8 s7=>aw .i64 (anR+1)&&K ((anR+1),n6,c8,s7)))))) (e0 s_1 an9 an_))
def PJ (N:Nat) (SZ109:li) (SZ184:tH) (SZ22:zJ) (SZ25:zK) (SZ6:vF) (SZ17:qw) (a b:LF) (k0:Kx7) (k1:Kx3):Bool:=
 (cond (((a.length:Nat):Int) != ((b.length:Nat):Int)) (k0 false 0 3) (SZ109 a (λcr=>cond ((!cr)==false) (SZ109 b (λam1=>cond (!am1) (k0 false 0 4) (aH N (pn N SZ109 SZ184 SZ22 SZ25 SZ6 SZ17 b a ((a.length:Nat):Int) false 0 (λs_2 apB apC=>SZ17 s_2 apB apC (λc9 n7 n8=>k0 c9 n7 n8) (λc10 n9 anU s8=>k1 c10 n9 anU s8))) (0,0,false,[])))) (k0 false 0 4))))
def acL (N:Nat):kt:=PJ N (DQ N) (ac3 N) (ak7 N) (ak8 N) (sZ6 N) (ag3 N)
abbrev lC:=Bool->LI->Int->(Kz0)->Bool
def P4 (N:Nat) (d_0:Bool) (d_1:LI) (d_2:Int) (k0:Kz0):Bool:=
 (cond (((d_1.length:Nat):Int)==0) (cond ((!d_0)==true) (k0 (d_2==0)) (k0 false)) (cond ((decide (((d_1.length:Nat):Int)<=2048))==true) (aw .i64 (((d_1.length:Nat):Int) - 1)&&(inR (((d_1.length:Nat):Int) - 1) d_1.length&&cond (((d_1.getD (Int.toNat (((d_1.length:Nat):Int) - 1)) 0) != 0)==true) (inR 0 d_1.length&&cond (((Int.tmod (d_1.getD 0 0) 2)==1)==true) (cond ((decide (d_2>=(-100000)))==true) (k0 (decide (d_2<=100000))) (k0 false)) (k0 false)) (k0 false))) (k0 false)))
def Uz (N:Nat):lC:=P4 N
abbrev zY:=Int->Bool->(Ky5)->Bool
def adM (N:Nat) (SZ131:iU) (SZ2:gu) (n:Int) (b:Bool) (k0:Ky5):Bool:=
 (SZ131 [] n (λnsr=>SZ2 b nsr b (λcr=>k0 cr nsr)))
def alj (N:Nat):zY:=adM N (Ld N) (sZ2 N)
abbrev zX:=Bool->Nat->Nat->Bool->LI->LI->(Kz0)->Bool
def adL (N:Nat) (neg:Bool) (aov aog:Nat) (b:Bool) (b_1 b_2:LI) (k0:Kz0):Bool:=
 (cond (neg==true) (k0 (decide (((aog:Nat):Int)>0))) (k0 false))
def ali (N:Nat):zX:=adL N
abbrev zQ:=Bool->LI->Bool->LI->(Ky5)->Bool
def XT (N:Nat) (SZ24:fL) (SZ3:gY) (SZ53:zX) (t22:Int) (z:Bool) (z_1:LI) (y:Bool) (y_1:LI) (e0:Kz3):(Int × LI)->((Int × LI)->Bool)->Bool:=λv_ K=>match v_ with
 | (t23,r)=>(cond (decide (t23<t22)) (SZ24 z_1 t23 (λnr=>SZ24 y_1 t23 (λamU=>inR t23 r.length&&(decide (t23.toNat<r.length)&&(aw .i64 (t23+1)&&K ((t23+1),(r.set t23.toNat (av .or .u64 nr amU)))))))) (e0 r))
def adB (N:Nat) (SZ24:fL) (SZ3:gY) (SZ53:zX) (b:Bool) (b_1:LI) (b_2:Bool) (b_3:LI) (k0:Ky5):Bool:=
 (nx 8 (imm true ((b_1.length:Nat):Int) ((b_3.length:Nat):Int)) (imm true ((b_1.length:Nat):Int) ((b_3.length:Nat):Int))&&aH N (XT N SZ24 SZ3 SZ53 (((List.length (List.replicate (Int.toNat (imm true ((b_1.length:Nat):Int) ((b_3.length:Nat):Int))) (0:Int))):Nat):Int) b b_1 b_2 b_3 (λr_1=>SZ3 r_1 (λmr anf=>SZ53 false mr anf b b_1 r_1 (λcr=>decide ((mr+anf)<=r_1.length)&&k0 cr (List.take anf (List.drop mr r_1)))))) (0,(List.replicate (Int.toNat (imm true ((b_1.length:Nat):Int) ((b_3.length:Nat):Int))) (0:Int))))
def alb (N:Nat):zQ:=adB N (Gk N) (sZ3 N) (ali N)
abbrev zZ:=Int->Bool->LI->(Ky5)->Bool
def adN (N:Nat) (SZ131:iU) (SZ42:mA) (n:Int) (b:Bool) (b_1:LI) (k0:Ky5):Bool:=
 (SZ131 b_1 n (λnsr=>SZ42 b nsr b b_1 (λcr=>k0 cr nsr)))
def alk (N:Nat):zZ:=adN N (Ld N) (abG N)
abbrev lw:=Bool->LI->Int->(Ky5)->Bool
def nL (N:Nat) (SZ54:zY) (SZ73:qI) (SZ40:zQ) (SZ55:zZ) (SZ34:qA) (d_3:Bool) (d_4:LI) (d_5:Int) (aoG:Value) (aoH:Int) (e0:Ky5):(Int × Bool × LI)->((Int × Bool × LI)->Bool)->Bool:=λv_ K=>match v_ with
 | (i_1,n_1,n_2)=>(cond (decide (i_1>=0)) (SZ55 32 n_1 n_2 (λanq ank=>inR i_1 d_4.length&&(aw .i64 (d_4.getD i_1.toNat 0)&&SZ73 (d_4.getD i_1.toNat 0) (λanu ann=>SZ40 anq ank anu ann (λanz s5=>aw .i64 (i_1 - 1)&&K ((i_1 - 1),anz,s5)))))) (e0 n_1 n_2))
def PW (N:Nat) (SZ54:zY) (SZ73:qI) (SZ40:zQ) (SZ55:zZ) (SZ34:qA) (d_0:Bool) (d_1:LI) (d_2:Int) (k0:Ky5):Bool:=
 (aw .i64 (((d_1.length:Nat):Int) - 1)&&aH N (nL N SZ54 SZ73 SZ40 SZ55 SZ34 d_0 d_1 d_2 (.pointer none) 0 (λn_3 n_4=>cond d_0 (SZ34 n_3 n_4 (λanG s6=>k0 anG s6)) (k0 n_3 n_4))) ((((d_1.length:Nat):Int) - 1),false,[]))
def Uw (N:Nat):lw:=PW N (alj N) (ahd N) (alb N) (alk N) (ag5 N)
abbrev qE:=Bool->Bool->LI->(Ky5)->Bool
def adJ (N:Nat) (SZ91:jR) (SZ2:gu) (b b_1:Bool) (b_2:LI) (k0:Ky5):Bool:=
 (SZ91 b_2 (λnsr=>SZ2 (!b_1) nsr b (λcr=>k0 cr nsr)))
def ag8 (N:Nat):qE:=adJ N (UO N) (sZ2 N)
abbrev Ad:=Int->Int->Bool->LI->Bool->LI->(Ky1)->(Bool)->Bool
def ad0 (N:Nat) (SZ51:qE) (SZ6:vF) (x y:Int) (b:Bool) (b_1:LI) (b_2:Bool) (b_3:LI) (k0:Ky1) (k1:Bool):Bool:=
 (SZ51 false b_2 b_3 (λcr nsr=>SZ6 x y b b_1 cr nsr (k0 y cr nsr) k1 (λnr am1 am2=>k0 nr am1 am2)))
def alt (N:Nat):Ad:=ad0 N (ag8 N) (sZ6 N)
abbrev sY:=Bool->LI->Int->Bool->LI->Int->(Kx7)->(Kx3)->Bool
def PY (N:Nat) (SZ156:lC) (SZ140:lw) (SZ87:Ad) (SZ17:qw) (a_0:Bool) (a_1:LI) (a_2:Int) (b_0:Bool) (b_1:LI) (b_2:Int) (k0:Kx7) (k1:Kx3):Bool:=
 (SZ156 a_0 a_1 a_2 (λcr=>cond ((!cr)==false) (SZ156 b_0 b_1 b_2 (λam1=>cond (!am1) (k0 false 0 30) (SZ140 a_0 a_1 a_2 (λanl nsr=>SZ140 b_0 b_1 b_2 (λanq am2=>SZ87 a_2 b_2 anl nsr anq am2 (λnr anu am6=>SZ17 nr anu am6 (λanz amU am3=>k0 anz amU am3) (λanG ane anw ank=>k1 anG ane anw ank)) (SZ17 a_2 anl nsr (λc7 n5 n6=>k0 c7 n5 n6) (λc8 n7 n8 ann=>k1 c8 n7 n8 ann))))))) (k0 false 0 30)))
def acV (N:Nat):sY:=PY N (Uz N) (Uw N) (alt N) (ag3 N)
abbrev ku:=Bool->LI->Int->Bool->LI->Int->(Kx7)->(Kx3)->Bool
def PL (N:Nat) (SZ149:sY) (a_0:Bool) (a_1:LI) (a_2:Int) (b_0:Bool) (b_1:LI) (b_2:Int) (k0:Kx7) (k1:Kx3):Bool:=
 (SZ149 a_0 a_1 a_2 b_0 b_1 b_2 (λcr nr amU=>k0 cr nr amU) (λam1 am3 ane nsr=>k1 am1 am3 ane nsr))
def acN (N:Nat):ku:=PL N (acV N)
abbrev oU:=Bool->LI->Int->Bool->LI->Int->(Ky6)->Bool
def adI (N:Nat) (SZ156:lC) (SZ140:lw) (SZ51:qE) (SZ6:vF) (SZ5:mL) (a_0:Bool) (a_1:LI) (a_2:Int) (b_0:Bool) (b_1:LI) (b_2:Int) (k0:Ky6):Bool:=
 (SZ156 a_0 a_1 a_2 (λcr=>cond ((!cr)==false) (SZ156 b_0 b_1 b_2 (λam1=>cond (!am1) (k0 0 30) (SZ140 a_0 a_1 a_2 (λanl nsr=>SZ140 b_0 b_1 b_2 (λanq am2=>SZ51 false anq am2 (λanu am6=>SZ6 a_2 b_2 anl nsr anu am6 (SZ5 anu am6 (λnr=>k0 nr 0)) (SZ5 anl nsr (λamU=>k0 amU 0)) (λam3 anz ank=>SZ5 anz ank (λane=>k0 ane 0)))))))) (k0 0 30)))
def alg (N:Nat):oU:=adI N (Uz N) (Uw N) (ag8 N) (sZ6 N) (sZ5 N)
abbrev sX:=Fl->Fl->Fl->Fl->(Kz0)->Bool
section
variable (N:Nat) (SZ18:gD) (SZ37:hI) (SZ102:kt) (SZ104:ku) (SZ50:oU)
def ab8 (N:Nat) (SZ18:gD) (SZ37:hI) (SZ102:kt) (SZ104:ku) (SZ50:oU) (q_0 q_1 q_2 q_3:Fl) (b7:LI) (ao4:Bool) (aoP:Int) (k0:Kz0):Bool:=
 (SZ50 false b7 aoP false [1] (-48) (λn18 n19=>cond ((n19==0)==true) (k0 (decide (n18<=0))) (k0 false)))
def ab7 (N:Nat) (SZ18:gD) (SZ37:hI) (SZ102:kt) (SZ104:ku) (SZ50:oU) (q_0 q_1 q_2 q_3:Fl) (ao3:Bool) (aoO:Int) (k0:Kz0):Bool:=
 (SZ50 false [] aoO false [1] (-48) (λn16 n17=>cond ((n17==0)==true) (k0 (decide (n16<=0))) (k0 false)))
def ab3 (q_0 q_1 q_2 q_3:Fl) (b3:LI) (n_2:Bool) (n_3:Int) (k0:Kz0):Bool:=
 (SZ104 n_2 b3 n_3 false [1] 0 (λanz anX n13=>cond (n13 != 0) (k0 false) (ab7 N SZ18 SZ37 SZ102 SZ104 SZ50 q_0 q_1 q_2 q_3 anz anX k0)) (λanG n14 n15 am6=>cond (n15 != 0) (k0 false) (ab8 N SZ18 SZ37 SZ102 SZ104 SZ50 q_0 q_1 q_2 q_3 am6 anG n14 k0)))
def ab6 (N:Nat) (SZ18:gD) (SZ37:hI) (SZ102:kt) (SZ104:ku) (SZ50:oU) (q_0 q_1 q_2 q_3:Fl) (b6:LI) (ao2:Bool) (aoN:Int) (k0:Kz0):Bool:=
 (SZ50 false b6 aoN false [1] (-48) (λanU aoa=>cond ((aoa==0)==true) (k0 (decide (anU<=0))) (k0 false)))
def ab5 (N:Nat) (SZ18:gD) (SZ37:hI) (SZ102:kt) (SZ104:ku) (SZ50:oU) (q_0 q_1 q_2 q_3:Fl) (off:Bool) (aoM:Int) (k0:Kz0):Bool:=
 (SZ50 false [] aoM false [1] (-48) (λn8 n9=>cond ((n9==0)==true) (k0 (decide (n8<=0))) (k0 false)))
def ab2 (q_0 q_1 q_2 q_3:Fl) (n:Bool) (n_1:Int) (k0:Kz0):Bool:=
 (SZ104 n [] n_1 false [1] 0 (λanq anw n5=>cond (n5 != 0) (k0 false) (ab5 N SZ18 SZ37 SZ102 SZ104 SZ50 q_0 q_1 q_2 q_3 anq anw k0)) (λanu n6 n7 am2=>cond (n7 != 0) (k0 false) (ab6 N SZ18 SZ37 SZ102 SZ104 SZ50 q_0 q_1 q_2 q_3 am2 anu n6 k0)))
def Cr (q_0 q_1 q_2 q_3:Fl) (k0:Kz0):Bool:=
 (SZ18 q_0 q_1 q_2 q_3 (λcr=>cond (!cr) (k0 false) (SZ37 q_0 q_1 q_2 q_3 (SZ102 [q_0,q_1,q_2,q_3] [q_0,q_1,q_2,q_3] (λam1 nr amU=>cond (amU != 0) (k0 false) (ab2 N SZ18 SZ37 SZ102 SZ104 SZ50 q_0 q_1 q_2 q_3 am1 nr k0)) (λanl am3 ane nsr=>cond (ane != 0) (k0 false) (ab3 N SZ18 SZ37 SZ102 SZ104 SZ50 q_0 q_1 q_2 q_3 nsr anl am3 k0))))))
end
def acU (N:Nat):sX:=Cr N (Gi N) (Gl N) (acL N) (acN N) (alg N)
abbrev Ak:=(Kx6)->Bool
def ad4 (N:Nat) (k0:Kx6):Bool:=
 (k0 (some 4611686018427387904) (some 0) (some 0) (some 0))
def alv (N:Nat):Ak:=ad4 N
abbrev z5:=(Kz0)->Bool
def adP (N:Nat) (SZ81:m4) (SZ120:lr) (SZ192:tM) (SZ148:sX) (SZ99:Ak) (k0:Kz0):Bool:=
 (SZ81 (some 0) (some 4613937818241073152) (some 4616189618054758400) (some 0) (λxr amO amR amS nr=>SZ120 (some 4602678819172646912) (some 4602678819172646912) (some 4602678819172646912) (some 4602678819172646912) (some 4607182418800017408) (some 4611686018427387904) (some 4613937818241073152) (λamV amY am8 amU=>SZ192 (some 0) (some 4607182418800017408) (some 0) (some 0) (some 0) (some 0) (some 4607182418800017408) (some 0) (λam7 anb anP anN am3=>cond ((nr==0)==true) (cond ((feq amO (some 4603579539098121011))==true) (cond ((feq amR (some 4605380978949069210))==true) (cond ((amU==0)==true) (cond ((feq amV (some 4613937818241073152))==true) (cond ((feq amY (some 4607182418800017408))==true) (cond ((feq am8 (some 4611686018427387904))==true) (cond ((am3==0)==true) (cond ((feq anN (some 4607182418800017408))==true) (cond ((feq am7 (some 0))==true) (SZ148 (some 4602678819172646912) (some 4602678819172646912) (some 4602678819172646912) (some 4602678819172646912) (λcr=>cond (cr==true) (SZ99 (λanO x12 x13 x14=>SZ148 anO x12 x13 x14 (λam1=>k0 (!am1)))) (k0 false))) (k0 false)) (k0 false)) (k0 false)) (k0 false)) (k0 false)) (k0 false)) (k0 false)) (k0 false)) (k0 false)) (k0 false)))))
def ag_ (N:Nat):z5:=adP N (uJ N) (A4 N) (ac6 N) (acU N) (alv N)
abbrev sy:=Int->(Kz2)->Bool
def PK (N:Nat) (SZ108:cV) (b:Int) (k0:Kz2):Bool:=
 (SZ108 b (λxr=>k0 xr))
def acM (N:Nat):sy:=PK N (pj N)
abbrev z4:=Int->Int->Int->(Ky2)->Bool
def adO (N:Nat) (SZ103:sy) (v_0 v_1 v_2:Int) (k0:Ky2):Bool:=
 (SZ103 v_0 (λxr=>SZ103 v_1 (λamO=>SZ103 v_2 (λamR=>k0 xr amO amR))))
def ag9 (N:Nat):z4:=adO N (acM N)
abbrev z6:=Fl->Fl->Fl->(Kz0)->Bool
def Y5 (N:Nat) (amQ:aU) (SZ79:hJ) (v_0 v_1 v_2:Fl) (k0:Kz0):Bool:=
 (amQ v_0 (λxr=>cond ((!feq v_0 (some 0))==true) (SZ79 (some 4607182418800017408) (-400) (λamO=>cond ((fge xr amO)==true) (SZ79 (some 4607182418800017408) 400 (λamR=>cond (!(fle xr amR)) (k0 false) (amQ v_1 (λamS=>cond ((!feq v_1 (some 0))==true) (SZ79 (some 4607182418800017408) (-400) (λamV=>cond ((fge amS amV)==true) (SZ79 (some 4607182418800017408) 400 (λamY=>cond (!(fle amS amY)) (k0 false) (amQ v_2 (λam8=>cond ((!feq v_2 (some 0))==true) (SZ79 (some 4607182418800017408) (-400) (λam7=>cond ((fge am8 am7)==true) (SZ79 (some 4607182418800017408) 400 (λanb=>cond (!(fle am8 anb)) (k0 false) (k0 true))) (k0 false))) (k0 true))))) (k0 false))) (amQ v_2 (λanP=>cond ((!feq v_2 (some 0))==true) (SZ79 (some 4607182418800017408) (-400) (λanN=>cond ((fge anP anN)==true) (SZ79 (some 4607182418800017408) 400 (λanO=>cond (!(fle anP anO)) (k0 false) (k0 true))) (k0 false))) (k0 true))))))) (k0 false))) (amQ v_1 (λx12=>cond ((!feq v_1 (some 0))==true) (SZ79 (some 4607182418800017408) (-400) (λx13=>cond ((fge x12 x13)==true) (SZ79 (some 4607182418800017408) 400 (λx14=>cond (!(fle x12 x14)) (k0 false) (amQ v_2 (λx15=>cond ((!feq v_2 (some 0))==true) (SZ79 (some 4607182418800017408) (-400) (λx16=>cond ((fge x15 x16)==true) (SZ79 (some 4607182418800017408) 400 (λx17=>cond (!(fle x15 x17)) (k0 false) (k0 true))) (k0 false))) (k0 true))))) (k0 false))) (amQ v_2 (λx18=>cond ((!feq v_2 (some 0))==true) (SZ79 (some 4607182418800017408) (-400) (λx19=>cond ((fge x18 x19)==true) (SZ79 (some 4607182418800017408) 400 (λx20=>cond (!(fle x18 x20)) (k0 false) (k0 true))) (k0 false))) (k0 true)))))))
def abI (N:Nat):z6:=Y5 (N+24) (dg N) (pZ N)
abbrev tO:=Fl->(Kz1)->Bool
def Kb (N:Nat) (SZ129:du) (x:Fl) (k0:Kz1):Bool:=
 (cond (!feq x x) (k0 9221120237041090561) (SZ129 x (λnr=>k0 nr)))
def Lv (N:Nat):tO:=Kb N (kr N)
abbrev kv:=Fl->(Kx7)->Bool
def JL (N:Nat) (SZ193:tO) (x:Fl) (k0:Kx7):Bool:=
 (SZ193 x (λnr=>aw .i64 (Int.tmod (Int.fdiv nr (2 ^ 52)) 2048)&&k0 ((Int.fdiv nr (2 ^ 63))==1) (Int.tmod (Int.fdiv nr (2 ^ 52)) 2048) (Int.tmod nr 4503599627370496)))
def A3 (N:Nat):kv:=JL N (Lv N)
abbrev sR:=Int->Int->Int->(Kz1)->Bool
def JY (N:Nat) (exp frac most:Int) (k0:Kz1):Bool:=
 (cond ((exp==most)==true) (cond (frac != 0) (k0 1) (cond (exp==most) (k0 2) (cond ((exp==0)==true) (cond (frac==0) (k0 3) (cond (exp==0) (k0 4) (k0 5))) (cond (exp==0) (k0 4) (k0 5))))) (cond (exp==most) (k0 2) (cond ((exp==0)==true) (cond (frac==0) (k0 3) (cond (exp==0) (k0 4) (k0 5))) (cond (exp==0) (k0 4) (k0 5)))))
def Ux (N:Nat):sR:=JY N
abbrev tB:=Fl->(Kz1)->Bool
def J6 (N:Nat) (SZ118:kv) (SZ142:sR) (x:Fl) (k0:Kz1):Bool:=
 (SZ118 x (λcr nr amU=>SZ142 nr amU 2047 (λam3=>k0 am3)))
def Lp (N:Nat):tB:=J6 N (A3 N) (Ux N)
abbrev qL:=Fl->(Kz0)->Bool
def Zk (N:Nat) (SZ176:tB) (x:Fl) (k0:Kz0):Bool:=
 (SZ176 x (λnr=>k0 (decide (nr>2))))
def UP (N:Nat):qL:=Zk N (Lp N)
abbrev mB:=LF->(Kz0)->Bool
def Ca (N:Nat) (SZ97:qL) (t5:LF) (t6:Int) (e0:Kz0) (e1:Bool):(Int)->((Int)->Bool)->Bool:=λv_ K=>match v_ with
 | t7=>(cond (decide (t7<t6)) (inR t7 t5.length&&SZ97 (t5.getD t7.toNat none) (λcr=>cond (!cr) (e0 false) (aw .i64 (t7+1)&&K (t7+1)))) e1)
def Y8 (N:Nat) (SZ97:qL) (l:LF) (k0:Kz0):Bool:=
 (aH N (Ca N SZ97 l ((l.length:Nat):Int) (λt2=>k0 t2) (k0 true)) 0)
def O6 (N:Nat):mB:=Y8 N (UP N)
abbrev uW:=Fl->Fl->Fl->(Kz0)->Bool
def adW (N:Nat) (SZ62:mB) (v_0 v_1 v_2:Fl) (k0:Kz0):Bool:=
 (SZ62 [v_0,v_1,v_2] (λcr=>k0 cr))
def ahc (N:Nat):uW:=adW N (O6 N)
abbrev uV:=Bool->Bool->(Kz1)->Bool
def Y9 (N:Nat) (apD apE:Bool) (k0:Kz1):Bool:=
 (cond (!apD) (k0 4) (cond (!apE) (k0 4) (k0 0)))
def ahb (N:Nat):uV:=Y9 (N+24)
abbrev tL:=LF->(Kz1)->Bool
def Cy (N:Nat) (SZ62:mB) (x:LF) (k0:Kz1):Bool:=
 (cond (decide (((x.length:Nat):Int)>48)) (k0 1) (SZ62 x (λcr=>cond (!cr) (k0 4) (k0 0))))
def Lu (N:Nat):tL:=Cy N (O6 N)
abbrev lv:=LF->(Ky3)->Bool
def gU (N:Nat) (amQ:aU) (SZ111:iS) (x_1:LF) (e0:Kz2):(Fl × Int)->((Fl × Int)->Bool)->Bool:=λv_ K=>match v_ with
 | (m,i)=>(cond (decide (i<((x_1.length:Nat):Int))) (inR i x_1.length&&amQ (x_1.getD i.toNat none) (λxr=>aw .i64 (i+1)&&K ((fmm true m xr),(i+1)))) (e0 m))
def JU (N:Nat) (amQ:aU) (SZ111:iS) (x:LF) (k0:Ky3):Bool:=
 (aH N (gU N amQ SZ111 x (λm_1=>cond (feq m_1 (some 0)) (k0 0 false) (SZ111 m_1 (λamO nr=>aw .i64 (nr - 1)&&k0 (nr - 1) true)))) ((some 0),0))
def A5 (N:Nat):lv:=JU N (dg N) (kb N)
abbrev mV:=(Bool)->Bool
def PT (N:Nat) (k0:Bool):Bool:=
 k0
def Le (N:Nat):mV:=PT N
abbrev mS:=(Bool)->Bool
def PN (N:Nat) (k0:Bool):Bool:=
 k0
def K1 (N:Nat):mS:=PN N
abbrev dN:=LI->(Ky4)->Bool
def p9 (N m_1:Nat) (m_3:LI) (e0:Nat->Bool):(Nat)->((Nat)->Bool)->Bool:=λv_ K=>match v_ with
 | m_2=>(cond ((decide (((m_2:Nat):Int)>0))==true) (aw .i64 (((m_2:Nat):Int) - 1)&&(inR (((m_2:Nat):Int) - 1) m_2&&(decide ((m_1+(Int.toNat (((m_2:Nat):Int) - 1)))<m_3.length)&&cond ((m_3.getD (m_1+(Int.toNat (((m_2:Nat):Int) - 1))) 0)==0) (aw .i64 (((m_2:Nat):Int) - 1)&&(decide (0<=(((m_2:Nat):Int) - 1)/\(((m_2:Nat):Int) - 1)<=((m_2:Nat):Int))&&K ((Int.toNat (((m_2:Nat):Int) - 1)) - 0))) (e0 m_2)))) (e0 m_2))
def YO (N:Nat) (b:LI) (k0:Ky4):Bool:=
 (aH N (p9 N 0 b (λm_4=>k0 0 m_4)) b.length)
def rN (N:Nat):dN:=YO N
abbrev iT:=Int->(Kz3)->Bool
def JK (N:Nat) (SZ11:dN) (n:Int) (k0:Kz3):Bool:=
 (SZ11 [(IntKind.wrap .u32 n),(IntKind.wrap .u32 (Int.fdiv n (2 ^ 32)))] (λmr anf=>decide ((mr+anf)<=(List.length [(IntKind.wrap .u32 n),(IntKind.wrap .u32 (Int.fdiv n (2 ^ 32)))]))&&k0 (List.take anf (List.drop mr [(IntKind.wrap .u32 n),(IntKind.wrap .u32 (Int.fdiv n (2 ^ 32)))]))))
def AZ (N:Nat):iT:=JK N (rN N)
abbrev lG:=LI->(Kz3)->Bool
def dS (N:Nat) (e0:Kz3):(LI)->((LI)->Bool)->Bool:=λv_ K=>match v_ with
 | m_1=>(cond ((decide (((m_1.length:Nat):Int)>0))==true) (aw .i64 (((m_1.length:Nat):Int) - 1)&&(inR (((m_1.length:Nat):Int) - 1) m_1.length&&cond ((m_1.getD (Int.toNat (((m_1.length:Nat):Int) - 1)) 0)==0) (aw .i64 (((m_1.length:Nat):Int) - 1)&&(decide (0<=(((m_1.length:Nat):Int) - 1)/\(((m_1.length:Nat):Int) - 1)<=((m_1.length:Nat):Int))&&K (List.drop 0 (List.take (Int.toNat (((m_1.length:Nat):Int) - 1)) m_1)))) (e0 m_1))) (e0 m_1))
def J_ (N:Nat) (m:LI) (k0:Kz3):Bool:=
 (aH N (dS N (λm_2=>k0 m_2)) m)
def D0 (N:Nat):lG:=J_ N
abbrev eu:=Bool->LI->Bool->(Ky5)->Bool
def YY (N:Nat) (SZ182:lG) (neg:Bool) (m:LI) (b:Bool) (k0:Ky5):Bool:=
 (SZ182 m (λnsr=>cond (neg==true) (k0 (decide (((nsr.length:Nat):Int)>0)) nsr) (k0 false nsr)))
def yW (N:Nat):eu:=YY N (D0 N)
abbrev qG:=Int->Bool->(Ky5)->Bool
def Y7 (N:Nat) (SZ117:iT) (SZ36:eu) (n:Int) (b:Bool) (k0:Ky5):Bool:=
 (SZ117 n (λnsr=>SZ36 false nsr b (λcr am2=>k0 cr am2)))
def O5 (N:Nat):qG:=Y7 N (AZ N) (yW N)
abbrev jQ:=Bool->LI->Bool->LI->(Ky5)->Bool
def Zb (N:Nat) (SZ182:lG) (neg:Bool) (m:LI) (b:Bool) (b_1:LI) (k0:Ky5):Bool:=
 (SZ182 m (λnsr=>cond (neg==true) (k0 (decide (((nsr.length:Nat):Int)>0)) nsr) (k0 false nsr)))
def Gm (N:Nat):jQ:=Zb N (D0 N)
abbrev Ah:=Int->Bool->LI->(Ky5)->Bool
def Zi (N:Nat) (SZ117:iT) (SZ75:jQ) (n:Int) (b:Bool) (b_1:LI) (k0:Ky5):Bool:=
 (SZ117 n (λnsr=>SZ75 false nsr b b_1 (λcr am2=>k0 cr am2)))
def abM (N:Nat):Ah:=Zi N (AZ N) (Gm N)
abbrev mX:=Int->(Kz0)->(Kx8)->(Bool->Int->Bool->LI->Bool)->(Kx8)->Bool
def Cv (N:Nat) (SZ61:qG) (SZ94:Ah) (bits:Int) (k0:Kz0) (k1:Kx8) (k2:Bool->Int->Bool->LI->Bool) (k3:Kx8):Bool:=
 (aw .i64 (av .and .u64 (Int.fdiv bits (2 ^ 52)) 2047)&&SZ61 (av .and .u64 bits 4503599627370495) false (λcr nsr=>cond ((av .and .u64 (Int.fdiv bits (2 ^ 52)) 2047)==2047) (cond ((av .and .u64 bits 4503599627370495) != 0) (k0 false) (k1 ((av .and .u64 (Int.fdiv bits (2 ^ 63)) 1)==1) cr nsr)) (cond (decide ((av .and .u64 (Int.fdiv bits (2 ^ 52)) 2047)>0)) (SZ94 (av .or .u64 (av .and .u64 bits 4503599627370495) 4503599627370496) cr nsr (λam1 am2=>aw .i64 ((av .and .u64 (Int.fdiv bits (2 ^ 52)) 2047) - 1)&&(aw .i64 (((av .and .u64 (Int.fdiv bits (2 ^ 52)) 2047) - 1)+(-1022))&&(aw .i64 ((((av .and .u64 (Int.fdiv bits (2 ^ 52)) 2047) - 1)+(-1022)) - 53)&&(aw .i64 (((((av .and .u64 (Int.fdiv bits (2 ^ 52)) 2047) - 1)+(-1022)) - 53)+1)&&k2 ((av .and .u64 (Int.fdiv bits (2 ^ 63)) 1)==1) (((((av .and .u64 (Int.fdiv bits (2 ^ 52)) 2047) - 1)+(-1022)) - 53)+1) am1 am2))))) (k3 ((av .and .u64 (Int.fdiv bits (2 ^ 63)) 1)==1) cr nsr))))
def A8 (N:Nat):mX:=Cv N (O5 N) (abM N)
abbrev lJ:=(Kz1)->Bool
def Qj (N:Nat) (k0:Kz1):Bool:=
 (k0 9221120237041090561)
def UG (N:Nat):lJ:=Qj N
abbrev mY:=Bool->(Ky6)->Bool
def Qd (N:Nat) (SZ189:lJ) (b:Bool) (k0:Ky6):Bool:=
 (SZ189 (λnr=>k0 nr 0))
def ac2 (N:Nat):mY:=Qd N (UG N)
abbrev jh:=Bool->Int->Int->(Kz1)->Bool
def Zc (N:Nat) (neg:Bool) (field frac:Int) (k0:Kz1):Bool:=
 (cond neg (k0 (av .or .u64 (av .or .u64 (IntKind.wrap .u64 ((IntKind.wrap .u64 field)*2 ^ 52)) frac) 9223372036854775808)) (k0 (av .or .u64 (IntKind.wrap .u64 ((IntKind.wrap .u64 field)*2 ^ 52)) frac)))
def pY (N:Nat):jh:=Zc N
abbrev lq:=Bool->(Kz1)->Bool
def PP (N:Nat) (SZ77:jh) (neg:Bool) (k0:Kz1):Bool:=
 (SZ77 neg 2047 0 (λnr=>k0 nr))
def K7 (N:Nat):lq:=PP N (pY N)
abbrev er:=Bool->LI->(Kz1)->Bool
def YV (N:Nat) (b:Bool) (b_1:LI) (k0:Kz1):Bool:=
 (cond (((b_1.length:Nat):Int)==0) (k0 0) (cond b (k0 (-1)) (k0 1)))
def nG (N:Nat):er:=YV N
abbrev tE:=Int->Bool->Int->Bool->LI->(Kz0)->Bool
def J9 (N:Nat) (SZ26:er) (n_0:Int) (n_1:Bool) (n_2:Int) (b:Bool) (b_1:LI) (k0:Kz0):Bool:=
 (cond ((n_0==0)==true) (SZ26 b b_1 (λnr=>k0 (nr==0))) (k0 false))
def UD (N:Nat):tE:=J9 N (nG N)
abbrev tF:=Bool->(Kz1)->Bool
def Qf (N:Nat) (SZ77:jh) (neg:Bool) (k0:Kz1):Bool:=
 (SZ77 neg 0 0 (λnr=>k0 nr))
def UF (N:Nat):tF:=Qf N (pY N)
abbrev sO:=Int->(Kz1)->Bool
def JV (N:Nat) (x:Int) (k0:Kz1):Bool:=
 (cond (decide (x>=65536)) (cond (decide ((Int.fdiv x (2 ^ 16))>=256)) (inR (IntKind.wrap .u8 (Int.fdiv (Int.fdiv x (2 ^ 16)) (2 ^ 8))) 256&&(aw .i64 (aD.getD (Int.toNat (IntKind.wrap .u8 (Int.fdiv (Int.fdiv x (2 ^ 16)) (2 ^ 8)))) 0)&&(aw .i64 (24+(aD.getD (Int.toNat (IntKind.wrap .u8 (Int.fdiv (Int.fdiv x (2 ^ 16)) (2 ^ 8)))) 0))&&k0 (24+(aD.getD (Int.toNat (IntKind.wrap .u8 (Int.fdiv (Int.fdiv x (2 ^ 16)) (2 ^ 8)))) 0))))) (inR (IntKind.wrap .u8 (Int.fdiv x (2 ^ 16))) 256&&(aw .i64 (aD.getD (Int.toNat (IntKind.wrap .u8 (Int.fdiv x (2 ^ 16)))) 0)&&(aw .i64 (16+(aD.getD (Int.toNat (IntKind.wrap .u8 (Int.fdiv x (2 ^ 16)))) 0))&&k0 (16+(aD.getD (Int.toNat (IntKind.wrap .u8 (Int.fdiv x (2 ^ 16)))) 0)))))) (cond (decide (x>=256)) (inR (IntKind.wrap .u8 (Int.fdiv x (2 ^ 8))) 256&&(aw .i64 (aD.getD (Int.toNat (IntKind.wrap .u8 (Int.fdiv x (2 ^ 8)))) 0)&&(aw .i64 (8+(aD.getD (Int.toNat (IntKind.wrap .u8 (Int.fdiv x (2 ^ 8)))) 0))&&k0 (8+(aD.getD (Int.toNat (IntKind.wrap .u8 (Int.fdiv x (2 ^ 8)))) 0))))) (inR (IntKind.wrap .u8 x) 256&&(aw .i64 (aD.getD (Int.toNat (IntKind.wrap .u8 x)) 0)&&(aw .i64 (0+(aD.getD (Int.toNat (IntKind.wrap .u8 x)) 0))&&k0 (0+(aD.getD (Int.toNat (IntKind.wrap .u8 x)) 0)))))))
def Lg (N:Nat):sO:=JV N
abbrev yC:=Bool->LI->(Kz1)->Bool
def GZ7 (N:Nat) (SZ137:sO) (b:Bool) (b_1:LI) (k0:Kz1):Bool:=
 (cond (((b_1.length:Nat):Int)==0) (k0 0) (aw .i64 (((b_1.length:Nat):Int) - 1)&&(aw .i64 (32*(((b_1.length:Nat):Int) - 1))&&(aw .i64 (((b_1.length:Nat):Int) - 1)&&(inR (((b_1.length:Nat):Int) - 1) b_1.length&&SZ137 (b_1.getD (Int.toNat (((b_1.length:Nat):Int) - 1)) 0) (λnr=>aw .i64 ((32*(((b_1.length:Nat):Int) - 1))+nr)&&k0 ((32*(((b_1.length:Nat):Int) - 1))+nr)))))))
def sZ7 (N:Nat):yC:=GZ7 N (Lg N)
abbrev qM:=Bool->Bool->LI->(Kx9)->Bool
def Qt (N:Nat) (SZ11:dN) (neg b:Bool) (b_1:LI) (k0:Kx9):Bool:=
 (SZ11 b_1 (λmr anf=>cond (neg==true) (k0 (decide (((anf:Nat):Int)>0)) mr anf) (k0 false mr anf)))
def UQ (N:Nat):qM:=Qt N (rN N)
abbrev oO:=Bool->Bool->LI->(Ky5)->Bool
def YN (N:Nat) (SZ98:qM) (b b_1:Bool) (b_2:LI) (k0:Ky5):Bool:=
 (decide ((List.length ([]++b_2))*4<=140737488355328)&&SZ98 b_1 b ([]++b_2) (λcr mr anf=>decide ((mr+anf)<=(List.length ([]++b_2)))&&k0 cr (List.take anf (List.drop mr ([]++b_2)))))
def vO (N:Nat):oO:=YN N (UQ N)
abbrev lA:=LI->Int->(Kz3)->Bool
def iD (N:Nat) (SZ11:dN) (m_1:LI) (w s:Int) (e0:Kz3):(Int × LI)->((Int × LI)->Bool)->Bool:=λv_ K=>match v_ with
 | (i,out)=>(cond (decide (i<((m_1.length:Nat):Int))) (inR i m_1.length&&(decide (0<=s)&&(aw .i64 (w+i)&&(inR (w+i) out.length&&(decide ((Int.toNat (w+i))<out.length)&&(inR (w+i) out.length&&(decide ((Int.toNat (w+i))<out.length)&&(aw .i64 (w+i)&&(aw .i64 ((w+i)+1)&&(inR ((w+i)+1) (List.length (out.set (Int.toNat (w+i)) (av .or .u32 (out.getD (Int.toNat (w+i)) 0) (IntKind.wrap .u32 (IntKind.wrap .u64 ((IntKind.wrap .u64 (m_1.getD i.toNat 0))*2 ^ (min s.toNat 64)))))))&&(decide ((Int.toNat ((w+i)+1))<(List.length (out.set (Int.toNat (w+i)) (av .or .u32 (out.getD (Int.toNat (w+i)) 0) (IntKind.wrap .u32 (IntKind.wrap .u64 ((IntKind.wrap .u64 (m_1.getD i.toNat 0))*2 ^ (min s.toNat 64))))))))&&(aw .i64 (i+1)&&K ((i+1),(List.set (out.set (Int.toNat (w+i)) (av .or .u32 (out.getD (Int.toNat (w+i)) 0) (IntKind.wrap .u32 (IntKind.wrap .u64 ((IntKind.wrap .u64 (m_1.getD i.toNat 0))*2 ^ (min s.toNat 64)))))) (Int.toNat ((w+i)+1)) (IntKind.wrap .u32 (Int.fdiv (IntKind.wrap .u64 ((IntKind.wrap .u64 (m_1.getD i.toNat 0))*2 ^ (min s.toNat 64))) (2 ^ 32))))))))))))))))) (e0 out))
def J1 (N:Nat) (SZ11:dN) (m:LI) (n:Int) (k0:Kz3):Bool:=
 (cond (((m.length:Nat):Int)==0) (k0 []) (aw .i64 (IntKind.wrap .u64 (Int.tdiv n 32))&&(aw .i64 ((IntKind.wrap .u64 (Int.tdiv n 32))+((m.length:Nat):Int))&&(aw .i64 (((IntKind.wrap .u64 (Int.tdiv n 32))+((m.length:Nat):Int))+1)&&(nx 4 (((IntKind.wrap .u64 (Int.tdiv n 32))+((m.length:Nat):Int))+1) (((IntKind.wrap .u64 (Int.tdiv n 32))+((m.length:Nat):Int))+1)&&aH N (iD N SZ11 m (IntKind.wrap .u64 (Int.tdiv n 32)) (Int.tmod n 32) (λanr=>SZ11 anr (λmr anf=>decide ((mr+anf)<=anr.length)&&k0 (List.take anf (List.drop mr anr))))) (0,(List.replicate (Int.toNat (((IntKind.wrap .u64 (Int.tdiv n 32))+((m.length:Nat):Int))+1)) (0:Int))))))))
def DX (N:Nat):lA:=J1 N (rN N)
abbrev oQ:=Int->Bool->LI->(Ky5)->Bool
def YR (N:Nat) (SZ153:lA) (SZ75:jQ) (n:Int) (b:Bool) (b_1:LI) (k0:Ky5):Bool:=
 (SZ153 b_1 n (λnsr=>SZ75 b nsr b b_1 (λcr am2=>k0 cr am2)))
def vP (N:Nat):oQ:=YR N (DX N) (Gm N)
abbrev lz:=LI->Int->(Kz3)->Bool
def gQ (N:Nat) (SZ11:dN) (m_1:LI) (w s:Int) (e0:Kz3):(Int × LI)->((Int × LI)->Bool)->Bool:=λv_ K=>match v_ with
 | (i,out)=>(cond (decide (i<((out.length:Nat):Int))) (aw .i64 (w+i)&&(inR (w+i) m_1.length&&(aw .i64 (w+i)&&(aw .i64 ((w+i)+1)&&cond (decide (((w+i)+1)<((m_1.length:Nat):Int))) (aw .i64 (w+i)&&(aw .i64 ((w+i)+1)&&(inR ((w+i)+1) m_1.length&&(decide (0<=s)&&(inR i out.length&&(decide (i.toNat<out.length)&&(aw .i64 (i+1)&&K ((i+1),(out.set i.toNat (IntKind.wrap .u32 (Int.fdiv (av .or .u64 (IntKind.wrap .u64 (m_1.getD (Int.toNat (w+i)) 0)) (IntKind.wrap .u64 ((IntKind.wrap .u64 (m_1.getD (Int.toNat ((w+i)+1)) 0))*2 ^ 32))) (2 ^ (min s.toNat 64))))))))))))) (decide (0<=s)&&(inR i out.length&&(decide (i.toNat<out.length)&&(aw .i64 (i+1)&&K ((i+1),(out.set i.toNat (IntKind.wrap .u32 (Int.fdiv (IntKind.wrap .u64 (m_1.getD (Int.toNat (w+i)) 0)) (2 ^ (min s.toNat 64)))))))))))))) (e0 out))
def JX (N:Nat) (SZ11:dN) (m:LI) (n:Int) (k0:Kz3):Bool:=
 (aw .i64 (IntKind.wrap .u64 (Int.tdiv n 32))&&cond (decide ((IntKind.wrap .u64 (Int.tdiv n 32))>=((m.length:Nat):Int))) (k0 []) (aw .i64 (((m.length:Nat):Int) - (IntKind.wrap .u64 (Int.tdiv n 32)))&&(nx 4 (((m.length:Nat):Int) - (IntKind.wrap .u64 (Int.tdiv n 32))) (((m.length:Nat):Int) - (IntKind.wrap .u64 (Int.tdiv n 32)))&&aH N (gQ N SZ11 m (IntKind.wrap .u64 (Int.tdiv n 32)) (Int.tmod n 32) (λanr=>SZ11 anr (λmr anf=>decide ((mr+anf)<=anr.length)&&k0 (List.take anf (List.drop mr anr))))) (0,(List.replicate (Int.toNat (((m.length:Nat):Int) - (IntKind.wrap .u64 (Int.tdiv n 32)))) (0:Int))))))
def DV (N:Nat):lz:=JX N (rN N)
abbrev gl:=LI->LI->(Kz3)->Bool
def gP (N:Nat) (SZ11:dN) (a_1 b_1:LI) (e0:Kz3):(Int × Int × LI)->((Int × Int × LI)->Bool)->Bool:=λv_ K=>match v_ with
 | (borrow,i,out)=>(cond (decide (i<((a_1.length:Nat):Int))) (cond (decide (i<((b_1.length:Nat):Int))) (inR i b_1.length&&(inR i a_1.length&&cond (decide ((IntKind.wrap .u64 (a_1.getD i.toNat 0))<(IntKind.wrap .u64 (borrow+(IntKind.wrap .u64 (b_1.getD i.toNat 0)))))) (inR i out.length&&(decide (i.toNat<out.length)&&(aw .i64 (i+1)&&K (1,(i+1),(out.set i.toNat (IntKind.wrap .u32 (IntKind.wrap .u64 ((IntKind.wrap .u64 ((IntKind.wrap .u64 (a_1.getD i.toNat 0))+4294967296)) - (IntKind.wrap .u64 (borrow+(IntKind.wrap .u64 (b_1.getD i.toNat 0)))))))))))) (inR i out.length&&(decide (i.toNat<out.length)&&(aw .i64 (i+1)&&K (0,(i+1),(out.set i.toNat (IntKind.wrap .u32 (IntKind.wrap .u64 ((IntKind.wrap .u64 (a_1.getD i.toNat 0)) - (IntKind.wrap .u64 (borrow+(IntKind.wrap .u64 (b_1.getD i.toNat 0)))))))))))))) (inR i a_1.length&&cond (decide ((IntKind.wrap .u64 (a_1.getD i.toNat 0))<borrow)) (inR i out.length&&(decide (i.toNat<out.length)&&(aw .i64 (i+1)&&K (1,(i+1),(out.set i.toNat (IntKind.wrap .u32 (IntKind.wrap .u64 ((IntKind.wrap .u64 ((IntKind.wrap .u64 (a_1.getD i.toNat 0))+4294967296)) - borrow)))))))) (inR i out.length&&(decide (i.toNat<out.length)&&(aw .i64 (i+1)&&K (0,(i+1),(out.set i.toNat (IntKind.wrap .u32 (IntKind.wrap .u64 ((IntKind.wrap .u64 (a_1.getD i.toNat 0)) - borrow)))))))))) (e0 out))
def Y3 (N:Nat) (SZ11:dN) (a b:LI) (k0:Kz3):Bool:=
 (nx 4 ((a.length:Nat):Int) ((a.length:Nat):Int)&&aH N (gP N SZ11 a b (λanr=>SZ11 anr (λmr anf=>decide ((mr+anf)<=anr.length)&&k0 (List.take anf (List.drop mr anr))))) (0,0,(List.replicate (Int.toNat ((a.length:Nat):Int)) (0:Int))))
def D5 (N:Nat):gl:=Y3 N (rN N)
abbrev f4:=LI->LI->(Kz3)->Bool
def eh (N:Nat) (SZ11:dN) (a_1 b_1:LI) (e0:Ky8):(Int × Int × LI)->((Int × Int × LI)->Bool)->Bool:=λv_ K=>match v_ with
 | (carry,i,out)=>(cond (decide (i<((a_1.length:Nat):Int))) (inR i a_1.length&&cond (decide (i<((b_1.length:Nat):Int))) (inR i b_1.length&&(inR i out.length&&(decide (i.toNat<out.length)&&(aw .i64 (i+1)&&K ((Int.fdiv (IntKind.wrap .u64 ((IntKind.wrap .u64 ((IntKind.wrap .u64 (a_1.getD i.toNat 0))+carry))+(IntKind.wrap .u64 (b_1.getD i.toNat 0)))) (2 ^ 32)),(i+1),(out.set i.toNat (IntKind.wrap .u32 (IntKind.wrap .u64 ((IntKind.wrap .u64 ((IntKind.wrap .u64 (a_1.getD i.toNat 0))+carry))+(IntKind.wrap .u64 (b_1.getD i.toNat 0))))))))))) (inR i out.length&&(decide (i.toNat<out.length)&&(aw .i64 (i+1)&&K ((Int.fdiv (IntKind.wrap .u64 ((IntKind.wrap .u64 (a_1.getD i.toNat 0))+carry)) (2 ^ 32)),(i+1),(out.set i.toNat (IntKind.wrap .u32 (IntKind.wrap .u64 ((IntKind.wrap .u64 (a_1.getD i.toNat 0))+carry))))))))) (e0 carry out))
def JI (N:Nat) (SZ11:dN) (a b:LI) (k0:Kz3):Bool:=
 (cond (decide (((a.length:Nat):Int)<((b.length:Nat):Int))) (aw .i64 (((b.length:Nat):Int)+1)&&(nx 4 (((b.length:Nat):Int)+1) (((b.length:Nat):Int)+1)&&aH N (eh N SZ11 b a (λanM anr=>inR ((b.length:Nat):Int) anr.length&&(decide ((Int.toNat ((b.length:Nat):Int))<anr.length)&&SZ11 (anr.set (Int.toNat ((b.length:Nat):Int)) (IntKind.wrap .u32 anM)) (λmr anf=>decide ((mr+anf)<=(List.length (anr.set (Int.toNat ((b.length:Nat):Int)) (IntKind.wrap .u32 anM))))&&k0 (List.take anf (List.drop mr (anr.set (Int.toNat ((b.length:Nat):Int)) (IntKind.wrap .u32 anM)))))))) (0,0,(List.replicate (Int.toNat (((b.length:Nat):Int)+1)) (0:Int))))) (aw .i64 (((a.length:Nat):Int)+1)&&(nx 4 (((a.length:Nat):Int)+1) (((a.length:Nat):Int)+1)&&aH N (eh N SZ11 a b (λaoR aoh=>inR ((a.length:Nat):Int) aoh.length&&(decide ((Int.toNat ((a.length:Nat):Int))<aoh.length)&&SZ11 (aoh.set (Int.toNat ((a.length:Nat):Int)) (IntKind.wrap .u32 aoR)) (λapM apN=>decide ((apM+apN)<=(List.length (aoh.set (Int.toNat ((a.length:Nat):Int)) (IntKind.wrap .u32 aoR))))&&k0 (List.take apN (List.drop apM (aoh.set (Int.toNat ((a.length:Nat):Int)) (IntKind.wrap .u32 aoR)))))))) (0,0,(List.replicate (Int.toNat (((a.length:Nat):Int)+1)) (0:Int))))))
def xW (N:Nat):f4:=JI N (rN N)
abbrev sL:=Int->Bool->Bool->LI->(Ky5)->Bool
def JP (N:Nat) (SZ141:lz) (SZ36:eu) (SZ45:gl) (SZ112:f4) (n:Int) (b b_1:Bool) (b_2:LI) (k0:Ky5):Bool:=
 (cond (!b_1) (SZ141 b_2 n (λnsr=>SZ36 false nsr b (λcr am2=>k0 cr am2))) (SZ45 b_2 [1] (λam6=>SZ141 am6 n (λank=>SZ112 ank [1] (λann=>SZ36 true ann b (λam1 s5=>k0 am1 s5))))))
def La (N:Nat):sL:=JP N (DV N) (yW N) (D5 N) (xW N)
abbrev qJ:=Int->Bool->Bool->LI->(Ky5)->Bool
def Ze (N:Nat) (SZ153:lA) (SZ36:eu) (n:Int) (b b_1:Bool) (b_2:LI) (k0:Ky5):Bool:=
 (SZ153 b_2 n (λnsr=>SZ36 b_1 nsr b (λcr am2=>k0 cr am2)))
def UL (N:Nat):qJ:=Ze N (DX N) (yW N)
abbrev mC:=LI->LI->(Kz1)->Bool
def p7 (N:Nat) (a_1 b_1:LI) (e0:Kz1) (e1:Bool):(Int)->((Int)->Bool)->Bool:=λv_ K=>match v_ with
 | i=>(cond (decide (i>=0)) (inR i a_1.length&&(inR i b_1.length&&cond (decide ((a_1.getD i.toNat 0)<(b_1.getD i.toNat 0))) (e0 (-1)) (inR i a_1.length&&(inR i b_1.length&&cond (decide ((a_1.getD i.toNat 0)>(b_1.getD i.toNat 0))) (e0 1) (aw .i64 (i - 1)&&K (i - 1)))))) e1)
def Zd (N:Nat) (a b:LI) (k0:Kz1):Bool:=
 (cond (((a.length:Nat):Int) != ((b.length:Nat):Int)) (cond (decide (((a.length:Nat):Int)<((b.length:Nat):Int))) (k0 (-1)) (k0 1)) (aw .i64 (((a.length:Nat):Int) - 1)&&aH N (p7 N a b (λt4=>k0 t4) (k0 0)) (((a.length:Nat):Int) - 1)))
def O7 (N:Nat):mC:=Zd N
abbrev qH:=Bool->Bool->Bool->LI->Bool->LI->(Ky5)->Bool
def Y_ (N:Nat) (SZ112:f4) (SZ36:eu) (SZ78:mC) (SZ45:gl) (turn b b_1:Bool) (b_2:LI) (b_3:Bool) (b_4:LI) (k0:Ky5):Bool:=
 (cond (b_1==(b_3 != turn)) (SZ112 b_2 b_4 (λnsr=>SZ36 (b_3 != turn) nsr b (λcr am2=>k0 cr am2))) (SZ78 b_2 b_4 (λnr=>cond (decide (nr>=0)) (SZ45 b_2 b_4 (λam6=>SZ36 b_1 am6 b (λam1 ank=>k0 am1 ank))) (SZ45 b_4 b_2 (λann=>SZ36 (b_3 != turn) ann b (λanl s5=>k0 anl s5))))))
def UK (N:Nat):qH:=Y_ N (xW N) (yW N) (O7 N) (D5 N)
abbrev Ai:=Bool->Bool->LI->Bool->LI->(Ky5)->Bool
def Zj (N:Nat) (SZ65:qH) (b b_1:Bool) (b_2:LI) (b_3:Bool) (b_4:LI) (k0:Ky5):Bool:=
 (SZ65 true b b_1 b_2 b_3 b_4 (λcr nsr=>k0 cr nsr))
def abN (N:Nat):Ai:=Zj N (UK N)
abbrev sC:=Int->Bool->(Ky5)->Bool
def JF (N:Nat) (SZ117:iT) (SZ36:eu) (n:Int) (b:Bool) (k0:Ky5):Bool:=
 (cond (decide (n<0)) (SZ117 (IntKind.wrap .u64 (0 - (IntKind.wrap .u64 n))) (λnsr=>SZ36 (decide (n<0)) nsr b (λcr am2=>k0 cr am2))) (SZ117 (IntKind.wrap .u64 n) (λam6=>SZ36 (decide (n<0)) am6 b (λam1 ank=>k0 am1 ank))))
def Uu (N:Nat):sC:=JF N (AZ N) (yW N)
abbrev gC:=Int->(Ky5)->Bool
def YQ (N:Nat) (SZ105:sC) (n:Int) (k0:Ky5):Bool:=
 (SZ105 n false (λcr nsr=>k0 cr nsr))
def ms (N:Nat):gC:=YQ N (Uu N)
abbrev sJ:=Bool->LI->Bool->LI->(Kz1)->Bool
def JN (N:Nat) (SZ78:mC) (b:Bool) (b_1:LI) (b_2:Bool) (b_3:LI) (k0:Kz1):Bool:=
 (cond (b != b_2) (cond b (k0 (-1)) (k0 1)) (SZ78 b_1 b_3 (λnr=>cond b (aw .i64 (0 - nr)&&k0 (0 - nr)) (k0 nr))))
def K8 (N:Nat):sJ:=JN N (O7 N)
abbrev oW:=Int->Bool->LI->(Ky1)->Bool
def Za (N:Nat) (SZ126:sL) (SZ84:qJ) (SZ95:Ai) (SZ26:er) (SZ14:gC) (SZ124:sJ) (s:Int) (b:Bool) (b_1:LI) (k0:Ky1):Bool:=
 (SZ126 (IntKind.wrap .u64 s) false b b_1 (λcr nsr=>SZ84 (IntKind.wrap .u64 s) false cr nsr (λam1 am2=>SZ95 false b b_1 am1 am2 (λanl am6=>cond (s==0) (k0 (-2) cr nsr) (SZ26 anl am6 (λnr=>cond ((nr==0)==true) (k0 (-2) cr nsr) (SZ14 1 (λanq ank=>aw .i64 (s - 1)&&SZ84 (IntKind.wrap .u64 (s - 1)) false anq ank (λanu ann=>SZ124 anl am6 anu ann (λamU=>cond ((amU==0)==true) (k0 amU cr nsr) (k0 amU cr nsr)))))))))))
def vR (N:Nat):oW:=Za N (La N) (UL N) (abN N) (nG N) (ms N) (K8 N)
abbrev sV:=Int->Bool->LI->(Kz1)->Bool
section
variable (N:Nat) (SZ45:gl)
def Ki (N:Nat) (SZ45:gl) (i:Int) (b:Bool) (b_1:LI) (b_3:Int) (k0:Kz1):Bool:=
 (cond b (k0 (IntKind.wrap .u64 (IntKind.wrap .u32 (1 - b_3)))) (k0 (IntKind.wrap .u64 b_3)))
def QA (i:Int) (b:Bool) (b_1:LI) (k0:Kz1):Bool:=
 (aw .i64 (Int.tdiv i 32)&&cond (decide ((Int.tdiv i 32)<((b_1.length:Nat):Int))) (aw .i64 (Int.tdiv i 32)&&(inR (Int.tdiv i 32) b_1.length&&(decide (0<=(IntKind.wrap .u64 (Int.tmod i 32)))&&Ki N SZ45 i b b_1 (av .and .u32 (Int.fdiv (b_1.getD (Int.toNat (Int.tdiv i 32)) 0) (2 ^ (min (Int.toNat (IntKind.wrap .u64 (Int.tmod i 32))) 32))) 1) k0))) (Ki N SZ45 i b b_1 0 k0))
def QB (N:Nat) (SZ45:gl) (i:Int) (b:Bool) (b_1:LI) (b_2:Int) (k0:Kz1):Bool:=
 (cond b (k0 (IntKind.wrap .u64 (IntKind.wrap .u32 (1 - b_2)))) (k0 (IntKind.wrap .u64 b_2)))
def ab1 (i:Int) (b:Bool) (b_1 m:LI) (k0:Kz1):Bool:=
 (aw .i64 (Int.tdiv i 32)&&cond (decide ((Int.tdiv i 32)<((m.length:Nat):Int))) (aw .i64 (Int.tdiv i 32)&&(inR (Int.tdiv i 32) m.length&&(decide (0<=(IntKind.wrap .u64 (Int.tmod i 32)))&&QB N SZ45 i b b_1 (av .and .u32 (Int.fdiv (m.getD (Int.toNat (Int.tdiv i 32)) 0) (2 ^ (min (Int.toNat (IntKind.wrap .u64 (Int.tmod i 32))) 32))) 1) k0))) (QB N SZ45 i b b_1 0 k0))
def zw (i:Int) (b:Bool) (b_1:LI) (k0:Kz1):Bool:=
 (cond b (SZ45 b_1 [1] (λnsr=>ab1 N SZ45 i b b_1 nsr k0)) (QA N SZ45 i b b_1 k0))
end
def Li (N:Nat):sV:=zw N (D5 N)
abbrev oR:=Bool->Int->Bool->LI->(Kz0)->Bool
def YX (N:Nat) (SZ147:sV) (neg:Bool) (c:Int) (b:Bool) (b_1:LI) (k0:Kz0):Bool:=
 (cond ((decide (c>0))==false) (cond ((c==0)==true) (SZ147 0 b b_1 (λnr=>k0 (nr==1))) (k0 false)) (k0 true))
def vQ (N:Nat):oR:=YX N (Li N)
abbrev sw:=Bool->Bool->LI->Bool->LI->(Ky5)->Bool
def JE (N:Nat) (SZ112:f4) (SZ75:jQ) (SZ78:mC) (SZ45:gl) (turn b:Bool) (b_1:LI) (b_2:Bool) (b_3:LI) (k0:Ky5):Bool:=
 (cond (b==(b_2 != turn)) (SZ112 b_1 b_3 (λnsr=>SZ75 (b_2 != turn) nsr b b_1 (λcr am2=>k0 cr am2))) (SZ78 b_1 b_3 (λnr=>cond (decide (nr>=0)) (SZ45 b_1 b_3 (λam6=>SZ75 b am6 b b_1 (λam1 ank=>k0 am1 ank))) (SZ45 b_3 b_1 (λann=>SZ75 (b_2 != turn) ann b b_1 (λanl s5=>k0 anl s5))))))
def KZ (N:Nat):sw:=JE N (xW N) (Gm N) (O7 N) (D5 N)
abbrev yB:=Bool->LI->Bool->LI->(Ky5)->Bool
def GZ4 (N:Nat) (SZ101:sw) (b:Bool) (b_1:LI) (b_2:Bool) (b_3:LI) (k0:Ky5):Bool:=
 (SZ101 false b b_1 b_2 b_3 (λcr nsr=>k0 cr nsr))
def sZ4 (N:Nat):yB:=GZ4 N (KZ N)
abbrev oP:=Int->Bool->LI->(Ky5)->Bool
def YP (N:Nat) (SZ141:lz) (SZ75:jQ) (SZ45:gl) (SZ112:f4) (n:Int) (b:Bool) (b_1:LI) (k0:Ky5):Bool:=
 (cond (!b) (SZ141 b_1 n (λnsr=>SZ75 false nsr b b_1 (λcr am2=>k0 cr am2))) (SZ45 b_1 [1] (λam6=>SZ141 am6 n (λank=>SZ112 ank [1] (λann=>SZ75 true ann b b_1 (λam1 s5=>k0 am1 s5))))))
def uI (N:Nat):oP:=YP N (DV N) (Gm N) (D5 N) (xW N)
abbrev oV:=Bool->(Kz1)->Bool
def adU (N:Nat) (SZ116:lq) (neg:Bool) (k0:Kz1):Bool:=
 (SZ116 neg (λnr=>k0 nr))
def xZ (N:Nat):oV:=adU N (K7 N)
abbrev yE:=Bool->LI->(Kz1)->Bool
def Qz (N:Nat) (b:Bool) (b_1:LI) (u:Int) (k0:Kz1):Bool:=
 (cond (decide (((b_1.length:Nat):Int)>1)) (inR 1 b_1.length&&k0 (av .or .u64 u (IntKind.wrap .u64 ((IntKind.wrap .u64 (b_1.getD 1 0))*2 ^ 32)))) (k0 u))
def GZ9 (N:Nat) (b:Bool) (b_1:LI) (k0:Kz1):Bool:=
 (cond (decide (((b_1.length:Nat):Int)>0)) (inR 0 b_1.length&&Qz N b b_1 (IntKind.wrap .u64 (b_1.getD 0 0)) k0) (Qz N b b_1 0 k0))
def sZ9 (N:Nat):yE:=GZ9 N
abbrev td:=Bool->Int->Bool->LI->(Ky6)->Bool
section
variable (N:Nat) (SZ7:yC) (SZ10:oO) (SZ15:oQ) (SZ70:oW) (SZ29:oR) (SZ14:gC) (SZ4:yB) (SZ13:oP) (SZ69:oV) (SZ9:yE) (SZ77:jh)
def CB (N:Nat) (SZ7:yC) (SZ10:oO) (SZ15:oQ) (SZ70:oW) (SZ29:oR) (SZ14:gC) (SZ4:yB) (SZ13:oP) (SZ69:oV) (SZ9:yE) (SZ77:jh) (neg:Bool) (e:Int) (b:Bool) (b_1:LI) (ans an4:Int) (aoW:Bool) (aoX:LI) (k0:Ky6):Bool:=
 (SZ7 aoW aoX (λn27=>aw .i64 (ans+n27)&&(aw .i64 ((ans+n27) - 1)&&cond (decide (((ans+n27) - 1)>1023)) (SZ69 neg (λn28=>k0 n28 5)) (SZ7 aoW aoX (λn29=>cond (decide (n29<53)) (SZ9 aoW aoX (λn30=>SZ77 neg 0 n30 (λn31=>k0 n31 an4))) (aw .i64 (ans - (-1074))&&(aw .i64 ((ans - (-1074))+1)&&SZ9 aoW aoX (λn32=>SZ77 neg ((ans - (-1074))+1) (av .and .u64 n32 4503599627370495) (λn33=>k0 n33 an4)))))))))
def zD (neg:Bool) (e:Int) (b:Bool) (b_1:LI) (anc anI:Int) (aoq:Bool) (aor:LI) (k0:Ky6):Bool:=
 (SZ7 aoq aor (λn26=>cond (decide (n26>53)) (SZ13 1 aoq aor (λc12 s10=>aw .i64 (anc+1)&&CB N SZ7 SZ10 SZ15 SZ70 SZ29 SZ14 SZ4 SZ13 SZ69 SZ9 SZ77 neg e b b_1 (anc+1) anI c12 s10 k0)) (CB N SZ7 SZ10 SZ15 SZ70 SZ29 SZ14 SZ4 SZ13 SZ69 SZ9 SZ77 neg e b b_1 anc anI aoq aor k0)))
def Kl (neg:Bool) (e:Int) (b:Bool) (b_1:LI) (anW anp c_2:Int) (aoo:Bool) (aop:LI) (k0:Ky6):Bool:=
 (cond (decide (c_2>(-2))) (cond (decide (anW<(-1022))) (zD N SZ7 SZ10 SZ15 SZ70 SZ29 SZ14 SZ4 SZ13 SZ69 SZ9 SZ77 neg e b b_1 anp 3 aoo aop k0) (zD N SZ7 SZ10 SZ15 SZ70 SZ29 SZ14 SZ4 SZ13 SZ69 SZ9 SZ77 neg e b b_1 anp 1 aoo aop k0)) (zD N SZ7 SZ10 SZ15 SZ70 SZ29 SZ14 SZ4 SZ13 SZ69 SZ9 SZ77 neg e b b_1 anp 0 aoo aop k0))
def CE (N:Nat) (SZ7:yC) (SZ10:oO) (SZ15:oQ) (SZ70:oW) (SZ29:oR) (SZ14:gC) (SZ4:yB) (SZ13:oP) (SZ69:oV) (SZ9:yE) (SZ77:jh) (neg:Bool) (e:Int) (b:Bool) (b_1:LI) (anC an3:Int) (aoU:Bool) (aoV:LI) (k0:Ky6):Bool:=
 (SZ7 aoU aoV (λn19=>aw .i64 (anC+n19)&&(aw .i64 ((anC+n19) - 1)&&cond (decide (((anC+n19) - 1)>1023)) (SZ69 neg (λaoA=>k0 aoA 5)) (SZ7 aoU aoV (λaoB=>cond (decide (aoB<53)) (SZ9 aoU aoV (λaoC=>SZ77 neg 0 aoC (λn23=>k0 n23 an3))) (aw .i64 (anC - (-1074))&&(aw .i64 ((anC - (-1074))+1)&&SZ9 aoU aoV (λn24=>SZ77 neg ((anC - (-1074))+1) (av .and .u64 n24 4503599627370495) (λn25=>k0 n25 an3)))))))))
def zE (neg:Bool) (e:Int) (b:Bool) (b_1:LI) (anj flags:Int) (aom:Bool) (aon:LI) (k0:Ky6):Bool:=
 (SZ7 aom aon (λn18=>cond (decide (n18>53)) (SZ13 1 aom aon (λc11 s9=>aw .i64 (anj+1)&&CE N SZ7 SZ10 SZ15 SZ70 SZ29 SZ14 SZ4 SZ13 SZ69 SZ9 SZ77 neg e b b_1 (anj+1) flags c11 s9 k0)) (CE N SZ7 SZ10 SZ15 SZ70 SZ29 SZ14 SZ4 SZ13 SZ69 SZ9 SZ77 neg e b b_1 anj flags aom aon k0)))
def Kk (neg:Bool) (e:Int) (b:Bool) (b_1:LI) (anV ano c_1:Int) (aok:Bool) (aol:LI) (k0:Ky6):Bool:=
 (cond (decide (c_1>(-2))) (cond (decide (anV<(-1022))) (zE N SZ7 SZ10 SZ15 SZ70 SZ29 SZ14 SZ4 SZ13 SZ69 SZ9 SZ77 neg e b b_1 ano 3 aok aol k0) (zE N SZ7 SZ10 SZ15 SZ70 SZ29 SZ14 SZ4 SZ13 SZ69 SZ9 SZ77 neg e b b_1 ano 1 aok aol k0)) (zE N SZ7 SZ10 SZ15 SZ70 SZ29 SZ14 SZ4 SZ13 SZ69 SZ9 SZ77 neg e b b_1 ano 0 aok aol k0))
def QE (neg:Bool) (e:Int) (b:Bool) (b_1:LI) (an7 ant c:Int) (aoi:Bool) (aoj:LI) (k0:Ky6):Bool:=
 (SZ29 neg c aoi aoj (λc8=>cond c8 (SZ14 1 (λc9 s7=>SZ4 aoi aoj c9 s7 (λc10 s8=>Kk N SZ7 SZ10 SZ15 SZ70 SZ29 SZ14 SZ4 SZ13 SZ69 SZ9 SZ77 neg e b b_1 an7 ant c c10 s8 k0))) (Kl N SZ7 SZ10 SZ15 SZ70 SZ29 SZ14 SZ4 SZ13 SZ69 SZ9 SZ77 neg e b b_1 an7 ant c aoi aoj k0)))
def CD (N:Nat) (SZ7:yC) (SZ10:oO) (SZ15:oQ) (SZ70:oW) (SZ29:oR) (SZ14:gC) (SZ4:yB) (SZ13:oP) (SZ69:oV) (SZ9:yE) (SZ77:jh) (neg:Bool) (e:Int) (b:Bool) (b_1:LI) (anB:Int) (q_8:Bool) (q_9:LI) (k0:Ky6):Bool:=
 (SZ7 q_8 q_9 (λaoa=>aw .i64 (anB+aoa)&&(aw .i64 ((anB+aoa) - 1)&&cond (decide (((anB+aoa) - 1)>1023)) (SZ69 neg (λanX=>k0 anX 5)) (SZ7 q_8 q_9 (λn13=>cond (decide (n13<53)) (SZ9 q_8 q_9 (λn14=>SZ77 neg 0 n14 (λn15=>k0 n15 0))) (aw .i64 (anB - (-1074))&&(aw .i64 ((anB - (-1074))+1)&&SZ9 q_8 q_9 (λn16=>SZ77 neg ((anB - (-1074))+1) (av .and .u64 n16 4503599627370495) (λn17=>k0 n17 0)))))))))
def Kj (neg:Bool) (e:Int) (b:Bool) (b_1:LI) (aoe ani:Int) (q_6:Bool) (q_7:LI) (k0:Ky6):Bool:=
 (SZ7 q_6 q_7 (λanU=>cond (decide (anU>53)) (SZ13 1 q_6 q_7 (λc7 s6=>aw .i64 (ani+1)&&CD N SZ7 SZ10 SZ15 SZ70 SZ29 SZ14 SZ4 SZ13 SZ69 SZ9 SZ77 neg e b b_1 (ani+1) c7 s6 k0)) (CD N SZ7 SZ10 SZ15 SZ70 SZ29 SZ14 SZ4 SZ13 SZ69 SZ9 SZ77 neg e b b_1 ani q_6 q_7 k0)))
def QD (N:Nat) (SZ7:yC) (SZ10:oO) (SZ15:oQ) (SZ70:oW) (SZ29:oR) (SZ14:gC) (SZ4:yB) (SZ13:oP) (SZ69:oV) (SZ9:yE) (SZ77:jh) (neg:Bool) (e:Int) (b:Bool) (b_1:LI) (anA:Int) (q_4:Bool) (q_5:LI) (k0:Ky6):Bool:=
 (SZ7 q_4 q_5 (λane=>aw .i64 (anA+ane)&&(aw .i64 ((anA+ane) - 1)&&cond (decide (((anA+ane) - 1)>1023)) (SZ69 neg (λanw=>k0 anw 5)) (SZ7 q_4 q_5 (λn5=>cond (decide (n5<53)) (SZ9 q_4 q_5 (λn6=>SZ77 neg 0 n6 (λn7=>k0 n7 0))) (aw .i64 (anA - (-1074))&&(aw .i64 ((anA - (-1074))+1)&&SZ9 q_4 q_5 (λn8=>SZ77 neg ((anA - (-1074))+1) (av .and .u64 n8 4503599627370495) (λn9=>k0 n9 0)))))))))
def ab4 (neg:Bool) (e:Int) (b:Bool) (b_1:LI) (aod anh:Int) (q_2:Bool) (q_3:LI) (k0:Ky6):Bool:=
 (SZ7 q_2 q_3 (λam3=>cond (decide (am3>53)) (SZ13 1 q_2 q_3 (λanG s5=>aw .i64 (anh+1)&&QD N SZ7 SZ10 SZ15 SZ70 SZ29 SZ14 SZ4 SZ13 SZ69 SZ9 SZ77 neg e b b_1 (anh+1) anG s5 k0)) (QD N SZ7 SZ10 SZ15 SZ70 SZ29 SZ14 SZ4 SZ13 SZ69 SZ9 SZ77 neg e b b_1 anh q_2 q_3 k0)))
def QC (neg:Bool) (e:Int) (b:Bool) (b_1:LI) (top quantum:Int) (q:Bool) (q_1:LI) (k0:Ky6):Bool:=
 (SZ29 neg (-2) q q_1 (λanq=>cond anq (SZ14 1 (λanu ank=>SZ4 q q_1 anu ank (λanz ann=>ab4 N SZ7 SZ10 SZ15 SZ70 SZ29 SZ14 SZ4 SZ13 SZ69 SZ9 SZ77 neg e b b_1 top quantum anz ann k0))) (Kj N SZ7 SZ10 SZ15 SZ70 SZ29 SZ14 SZ4 SZ13 SZ69 SZ9 SZ77 neg e b b_1 top quantum q q_1 k0)))
def zy (neg:Bool) (e:Int) (b:Bool) (b_1:LI) (k0:Ky6):Bool:=
 (SZ7 b b_1 (λnr=>aw .i64 (e+nr)&&(aw .i64 ((e+nr) - 1)&&(aw .i64 (((e+nr) - 1) - 53)&&(aw .i64 ((((e+nr) - 1) - 53)+1)&&SZ10 false b b_1 (λcr nsr=>cond (decide (e>=(imm true ((((e+nr) - 1) - 53)+1) (-1074)))) (aw .i64 (e - (imm true ((((e+nr) - 1) - 53)+1) (-1074)))&&SZ15 (IntKind.wrap .u64 (e - (imm true ((((e+nr) - 1) - 53)+1) (-1074)))) cr nsr (λam1 am2=>QC N SZ7 SZ10 SZ15 SZ70 SZ29 SZ14 SZ4 SZ13 SZ69 SZ9 SZ77 neg e b b_1 ((e+nr) - 1) (imm true ((((e+nr) - 1) - 53)+1) (-1074)) am1 am2 k0)) (aw .i64 ((imm true ((((e+nr) - 1) - 53)+1) (-1074)) - e)&&SZ70 ((imm true ((((e+nr) - 1) - 53)+1) (-1074)) - e) b b_1 (λamU anl am6=>QE N SZ7 SZ10 SZ15 SZ70 SZ29 SZ14 SZ4 SZ13 SZ69 SZ9 SZ77 neg e b b_1 ((e+nr) - 1) (imm true ((((e+nr) - 1) - 53)+1) (-1074)) amU anl am6 k0))))))))
end
def Lj (N:Nat):td:=zy N (sZ7 N) (vO N) (vP N) (vR N) (vQ N) (ms N) (sZ4 N) (uI N) (xZ N) (sZ9 N) (pY N)
abbrev mU:=Int->Bool->Int->Bool->LI->(Ky6)->Bool
def Cq (N:Nat) (SZ189:lJ) (SZ116:lq) (SZ180:tE) (SZ183:tF) (SZ158:td) (n_0:Int) (n_1:Bool) (n_2:Int) (b:Bool) (b_1:LI) (k0:Ky6):Bool:=
 (cond (n_0==2) (SZ189 (λnr=>k0 nr 0)) (cond (n_0==1) (SZ116 n_1 (λamU=>k0 amU 0)) (SZ180 n_0 n_1 n_2 b b_1 (λcr=>cond cr (SZ183 n_1 (λam3=>k0 am3 0)) (SZ158 n_1 n_2 b b_1 (λane anw=>k0 ane anw))))))
def DR (N:Nat):mU:=Cq N (UG N) (K7 N) (UD N) (UF N) (Lj N)
abbrev th:=Int->Int->(Ky0)->Bool
def wB (N:Nat) (SZ132:mV) (SZ113:mS) (SZ170:mX) (SZ178:mY) (SZ123:mU) (x k_:Int) (an2:Bool) (aou:LI) (n:Int) (n_1:Bool) (n_2:Int) (k0:Ky0):Bool:=
 (SZ113 (SZ123 n n_1 n_2 an2 aou (λane anw=>k0 ane anw 0)))
def ab9 (N:Nat) (SZ132:mV) (SZ113:mS) (SZ170:mX) (SZ178:mY) (SZ123:mU) (x k_:Int) (b0:Bool) (k0:Ky0):Bool:=
 (SZ113 (SZ178 b0 (λamU am3=>k0 amU am3 0)))
def wv (N:Nat) (SZ132:mV) (SZ113:mS) (SZ170:mX) (SZ178:mY) (SZ123:mU) (x k_:Int) (k0:Ky0):Bool:=
 (SZ132 (SZ113 (SZ170 x (λcr=>ab9 N SZ132 SZ113 SZ170 SZ178 SZ123 x k_ cr k0) (λam1 anl nsr=>wB N SZ132 SZ113 SZ170 SZ178 SZ123 x k_ anl nsr 1 am1 (-1074) k0) (λanq nr anu am2=>aw .i64 (nr+(imm true (-5000) (imm false k_ 5000)))&&wB N SZ132 SZ113 SZ170 SZ178 SZ123 x k_ anu am2 0 anq (nr+(imm true (-5000) (imm false k_ 5000))) k0) (λanz anG am6=>aw .i64 ((-1074)+(imm true (-5000) (imm false k_ 5000)))&&wB N SZ132 SZ113 SZ170 SZ178 SZ123 x k_ anG am6 0 anz ((-1074)+(imm true (-5000) (imm false k_ 5000))) k0))))
def A7 (N:Nat):th:=wv N (Le N) (K1 N) (A8 N) (ac2 N) (DR N)
abbrev mD:=Fl->Int->(Kz2)->Bool
def Qs (N:Nat) (SZ129:du) (SZ164:th) (SZ108:cV) (x:Fl) (k_:Int) (k0:Kz2):Bool:=
 (SZ129 x (λnr=>SZ164 nr k_ (λamU am3 ane=>SZ108 amU (λxr=>k0 xr))))
def yX (N:Nat):mD:=Qs N (kr N) (A7 N) (pj N)
abbrev tD:=LF->LF->(Kz2)->Bool
def jB (N:Nat) (x_1 y_1:LF) (e0:Kz2):(Fl × Int)->((Fl × Int)->Bool)->Bool:=λv_ K=>match v_ with
 | (s,i)=>(cond (decide (i<((x_1.length:Nat):Int))) (inR i x_1.length&&(inR i y_1.length&&(aw .i64 (i+1)&&K ((ai s (af (x_1.getD i.toNat none) (y_1.getD i.toNat none))),(i+1))))) (e0 s))
def J8 (N:Nat) (x y:LF) (k0:Kz2):Bool:=
 (aH N (jB N x y (λs_1=>k0 s_1)) ((some 0),0))
def Lr (N:Nat):tD:=J8 N
abbrev s_:=LF->Int->(Ky9)->Bool
def fV (N:Nat) (SZ83:mD) (SZ179:tD) (SZ133:f6) (x_2:LF) (apf:Int) (e0:LF->Bool):(Int × LF)->((Int × LF)->Bool)->Bool:=λv_ K=>match v_ with
 | (i_1,y)=>(cond (decide (i_1<((x_2.length:Nat):Int))) (inR i_1 x_2.length&&(aw .i64 (0 - apf)&&SZ83 (x_2.getD i_1.toNat none) (0 - apf) (λamO=>decide ((List.length (y++[amO]))*8<=140737488355328)&&(aw .i64 (i_1+1)&&K ((i_1+1),(y++[amO])))))) (e0 y))
def J0 (N:Nat) (SZ83:mD) (SZ179:tD) (SZ133:f6) (x:LF) (k_:Int) (k0:Ky9):Bool:=
 (aH N (fV N SZ83 SZ179 SZ133 x k_ (λy_1=>SZ179 y_1 y_1 (λamR=>SZ133 amR (λamS=>k0 amS y_1)))) (0,[]))
def DW (N:Nat):s_:=J0 N (yX N) (Lr N) (DT N)
abbrev mR:=LF->(Ky7)->Bool
def Cn (N:Nat) (SZ191:tL) (SZ136:lv) (SZ151:s_) (SZ83:mD) (SZ97:qL) (x:LF) (k0:Ky7):Bool:=
 (SZ191 x (λnr=>cond (nr != 0) (k0 (some 0) nr) (SZ136 x (λamU cr=>cond (!cr) (k0 (some 0) 0) (SZ151 x amU (λxr xsr=>SZ83 xr amU (λamO=>SZ97 amO (λam1=>cond (!am1) (k0 (some 0) 5) (k0 amO 0)))))))))
def xV (N:Nat):mR:=Cn N (Lu N) (A5 N) (DW N) (yX N) (UP N)
abbrev mT:=Fl->Fl->Fl->Fl->Fl->Fl->(Ky2)->Bool
def PQ (N:Nat) (a_0 a_1 a_2 b_0 b_1 b_2:Fl) (k0:Ky2):Bool:=
 (k0 (co (af a_1 b_2) (af a_2 b_1)) (co (af a_2 b_0) (af a_0 b_2)) (co (af a_0 b_1) (af a_1 b_0)))
def Uv (N:Nat):mT:=PQ N
abbrev lB:=Fl->Fl->Fl->Fl->(LF->Bool)->Bool
def Ct (N:Nat) (q_0 q_1 q_2 q_3:Fl) (k0:LF->Bool):Bool:=
 (k0 [q_0,q_1,q_2,q_3])
def DY (N:Nat):lB:=Ct N
abbrev tf:=Fl->Fl->Fl->Fl->(Kz0)->Bool
def P8 (N:Nat) (SZ155:lB) (SZ62:mB) (q_0 q_1 q_2 q_3:Fl) (k0:Kz0):Bool:=
 (SZ155 q_0 q_1 q_2 q_3 (λxsr=>SZ62 xsr (λcr=>k0 cr)))
def UC (N:Nat):tf:=P8 N (DY N) (O6 N)
abbrev sD:=Bool->(Kz1)->Bool
def Co (N:Nat) (ok:Bool) (k0:Kz1):Bool:=
 (cond (!ok) (k0 4) (k0 0))
def K0 (N:Nat):sD:=Co (N+24)
abbrev ua:=LF->(Kx6)->Bool
def Qo (N:Nat) (l:LF) (k0:Kx6):Bool:=
 (inR 0 l.length&&(inR 1 l.length&&(inR 2 l.length&&(inR 3 l.length&&k0 (l.getD 0 none) (l.getD 1 none) (l.getD 2 none) (l.getD 3 none)))))
def ac9 (N:Nat):ua:=Qo N
abbrev mW:=Fl->Fl->Fl->Fl->(Kx1)->Bool
def zt (N:Nat) (SZ162:tf) (SZ106:sD) (SZ155:lB) (SZ136:lv) (SZ83:mD) (SZ133:f6) (SZ205:ua) (q_0 q_1 q_2 q_3:Fl) (k0:Kx1):Bool:=
 (SZ162 q_0 q_1 q_2 q_3 (λcr=>SZ106 cr (λnr=>cond (nr != 0) (k0 (some 0) (some 0) (some 0) (some 0) nr) (SZ155 q_0 q_1 q_2 q_3 (λxsr=>SZ136 xsr (λamU am1=>cond (!am1) (k0 (some 0) (some 0) (some 0) (some 0) 120) (inR 0 xsr.length&&(decide (0<xsr.length)&&(aw .i64 (0 - amU)&&SZ83 (xsr.getD 0 none) (0 - amU) (λxr=>inR 0 xsr.length&&(decide (0<xsr.length)&&(inR 1 (List.length (xsr.set 0 xr))&&(decide (1<(List.length (xsr.set 0 xr)))&&(aw .i64 (0 - amU)&&SZ83 (List.getD (xsr.set 0 xr) 1 none) (0 - amU) (λamO=>inR 1 (List.length (xsr.set 0 xr))&&(decide (1<(List.length (xsr.set 0 xr)))&&(inR 2 (List.length (List.set (xsr.set 0 xr) 1 amO))&&(decide (2<(List.length (List.set (xsr.set 0 xr) 1 amO)))&&(aw .i64 (0 - amU)&&SZ83 (List.getD (List.set (xsr.set 0 xr) 1 amO) 2 none) (0 - amU) (λamR=>inR 2 (List.length (List.set (xsr.set 0 xr) 1 amO))&&(decide (2<(List.length (List.set (xsr.set 0 xr) 1 amO)))&&(inR 3 (List.length (List.set (List.set (xsr.set 0 xr) 1 amO) 2 amR))&&(decide (3<(List.length (List.set (List.set (xsr.set 0 xr) 1 amO) 2 amR)))&&(aw .i64 (0 - amU)&&SZ83 (List.getD (List.set (List.set (xsr.set 0 xr) 1 amO) 2 amR) 3 none) (0 - amU) (λamS=>inR 3 (List.length (List.set (List.set (xsr.set 0 xr) 1 amO) 2 amR))&&(decide (3<(List.length (List.set (List.set (xsr.set 0 xr) 1 amO) 2 amR)))&&(inR 0 (List.length (List.set (List.set (List.set (xsr.set 0 xr) 1 amO) 2 amR) 3 amS))&&(decide (0<(List.length (List.set (List.set (List.set (xsr.set 0 xr) 1 amO) 2 amR) 3 amS)))&&(inR 0 (List.length (List.set (List.set (List.set (xsr.set 0 xr) 1 amO) 2 amR) 3 amS))&&(decide (0<(List.length (List.set (List.set (List.set (xsr.set 0 xr) 1 amO) 2 amR) 3 amS)))&&(inR 1 (List.length (List.set (List.set (List.set (xsr.set 0 xr) 1 amO) 2 amR) 3 amS))&&(decide (1<(List.length (List.set (List.set (List.set (xsr.set 0 xr) 1 amO) 2 amR) 3 amS)))&&(inR 1 (List.length (List.set (List.set (List.set (xsr.set 0 xr) 1 amO) 2 amR) 3 amS))&&(decide (1<(List.length (List.set (List.set (List.set (xsr.set 0 xr) 1 amO) 2 amR) 3 amS)))&&(inR 2 (List.length (List.set (List.set (List.set (xsr.set 0 xr) 1 amO) 2 amR) 3 amS))&&(decide (2<(List.length (List.set (List.set (List.set (xsr.set 0 xr) 1 amO) 2 amR) 3 amS)))&&(inR 2 (List.length (List.set (List.set (List.set (xsr.set 0 xr) 1 amO) 2 amR) 3 amS))&&(decide (2<(List.length (List.set (List.set (List.set (xsr.set 0 xr) 1 amO) 2 amR) 3 amS)))&&(inR 3 (List.length (List.set (List.set (List.set (xsr.set 0 xr) 1 amO) 2 amR) 3 amS))&&(decide (3<(List.length (List.set (List.set (List.set (xsr.set 0 xr) 1 amO) 2 amR) 3 amS)))&&(inR 3 (List.length (List.set (List.set (List.set (xsr.set 0 xr) 1 amO) 2 amR) 3 amS))&&(decide (3<(List.length (List.set (List.set (List.set (xsr.set 0 xr) 1 amO) 2 amR) 3 amS)))&&SZ133 (ai (ai (ai (af (List.getD (List.set (List.set (List.set (xsr.set 0 xr) 1 amO) 2 amR) 3 amS) 0 none) (List.getD (List.set (List.set (List.set (xsr.set 0 xr) 1 amO) 2 amR) 3 amS) 0 none)) (af (List.getD (List.set (List.set (List.set (xsr.set 0 xr) 1 amO) 2 amR) 3 amS) 1 none) (List.getD (List.set (List.set (List.set (xsr.set 0 xr) 1 amO) 2 amR) 3 amS) 1 none))) (af (List.getD (List.set (List.set (List.set (xsr.set 0 xr) 1 amO) 2 amR) 3 amS) 2 none) (List.getD (List.set (List.set (List.set (xsr.set 0 xr) 1 amO) 2 amR) 3 amS) 2 none))) (af (List.getD (List.set (List.set (List.set (xsr.set 0 xr) 1 amO) 2 amR) 3 amS) 3 none) (List.getD (List.set (List.set (List.set (xsr.set 0 xr) 1 amO) 2 amR) 3 amS) 3 none))) (λamV=>inR 0 (List.length (List.set (List.set (List.set (xsr.set 0 xr) 1 amO) 2 amR) 3 amS))&&(decide (0<(List.length (List.set (List.set (List.set (xsr.set 0 xr) 1 amO) 2 amR) 3 amS)))&&(inR 0 (List.length (List.set (List.set (List.set (xsr.set 0 xr) 1 amO) 2 amR) 3 amS))&&(decide (0<(List.length (List.set (List.set (List.set (xsr.set 0 xr) 1 amO) 2 amR) 3 amS)))&&(inR 1 (List.length (List.set (List.set (List.set (List.set (xsr.set 0 xr) 1 amO) 2 amR) 3 amS) 0 (fdiv (List.getD (List.set (List.set (List.set (xsr.set 0 xr) 1 amO) 2 amR) 3 amS) 0 none) amV)))&&(decide (1<(List.length (List.set (List.set (List.set (List.set (xsr.set 0 xr) 1 amO) 2 amR) 3 amS) 0 (fdiv (List.getD (List.set (List.set (List.set (xsr.set 0 xr) 1 amO) 2 amR) 3 amS) 0 none) amV))))&&(inR 1 (List.length (List.set (List.set (List.set (List.set (xsr.set 0 xr) 1 amO) 2 amR) 3 amS) 0 (fdiv (List.getD (List.set (List.set (List.set (xsr.set 0 xr) 1 amO) 2 amR) 3 amS) 0 none) amV)))&&(decide (1<(List.length (List.set (List.set (List.set (List.set (xsr.set 0 xr) 1 amO) 2 amR) 3 amS) 0 (fdiv (List.getD (List.set (List.set (List.set (xsr.set 0 xr) 1 amO) 2 amR) 3 amS) 0 none) amV))))&&(inR 2 (List.length (List.set (List.set (List.set (List.set (List.set (xsr.set 0 xr) 1 amO) 2 amR) 3 amS) 0 (fdiv (List.getD (List.set (List.set (List.set (xsr.set 0 xr) 1 amO) 2 amR) 3 amS) 0 none) amV)) 1 (fdiv (List.getD (List.set (List.set (List.set (List.set (xsr.set 0 xr) 1 amO) 2 amR) 3 amS) 0 (fdiv (List.getD (List.set (List.set (List.set (xsr.set 0 xr) 1 amO) 2 amR) 3 amS) 0 none) amV)) 1 none) amV)))&&(decide (2<(List.length (List.set (List.set (List.set (List.set (List.set (xsr.set 0 xr) 1 amO) 2 amR) 3 amS) 0 (fdiv (List.getD (List.set (List.set (List.set (xsr.set 0 xr) 1 amO) 2 amR) 3 amS) 0 none) amV)) 1 (fdiv (List.getD (List.set (List.set (List.set (List.set (xsr.set 0 xr) 1 amO) 2 amR) 3 amS) 0 (fdiv (List.getD (List.set (List.set (List.set (xsr.set 0 xr) 1 amO) 2 amR) 3 amS) 0 none) amV)) 1 none) amV))))&&(inR 2 (List.length (List.set (List.set (List.set (List.set (List.set (xsr.set 0 xr) 1 amO) 2 amR) 3 amS) 0 (fdiv (List.getD (List.set (List.set (List.set (xsr.set 0 xr) 1 amO) 2 amR) 3 amS) 0 none) amV)) 1 (fdiv (List.getD (List.set (List.set (List.set (List.set (xsr.set 0 xr) 1 amO) 2 amR) 3 amS) 0 (fdiv (List.getD (List.set (List.set (List.set (xsr.set 0 xr) 1 amO) 2 amR) 3 amS) 0 none) amV)) 1 none) amV)))&&(decide (2<(List.length (List.set (List.set (List.set (List.set (List.set (xsr.set 0 xr) 1 amO) 2 amR) 3 amS) 0 (fdiv (List.getD (List.set (List.set (List.set (xsr.set 0 xr) 1 amO) 2 amR) 3 amS) 0 none) amV)) 1 (fdiv (List.getD (List.set (List.set (List.set (List.set (xsr.set 0 xr) 1 amO) 2 amR) 3 amS) 0 (fdiv (List.getD (List.set (List.set (List.set (xsr.set 0 xr) 1 amO) 2 amR) 3 amS) 0 none) amV)) 1 none) amV))))&&(inR 3 (List.length (List.set (List.set (List.set (List.set (List.set (List.set (xsr.set 0 xr) 1 amO) 2 amR) 3 amS) 0 (fdiv (List.getD (List.set (List.set (List.set (xsr.set 0 xr) 1 amO) 2 amR) 3 amS) 0 none) amV)) 1 (fdiv (List.getD (List.set (List.set (List.set (List.set (xsr.set 0 xr) 1 amO) 2 amR) 3 amS) 0 (fdiv (List.getD (List.set (List.set (List.set (xsr.set 0 xr) 1 amO) 2 amR) 3 amS) 0 none) amV)) 1 none) amV)) 2 (fdiv (List.getD (List.set (List.set (List.set (List.set (List.set (xsr.set 0 xr) 1 amO) 2 amR) 3 amS) 0 (fdiv (List.getD (List.set (List.set (List.set (xsr.set 0 xr) 1 amO) 2 amR) 3 amS) 0 none) amV)) 1 (fdiv (List.getD (List.set (List.set (List.set (List.set (xsr.set 0 xr) 1 amO) 2 amR) 3 amS) 0 (fdiv (List.getD (List.set (List.set (List.set (xsr.set 0 xr) 1 amO) 2 amR) 3 amS) 0 none) amV)) 1 none) amV)) 2 none) amV)))&&(decide (3<(List.length (List.set (List.set (List.set (List.set (List.set (List.set (xsr.set 0 xr) 1 amO) 2 amR) 3 amS) 0 (fdiv (List.getD (List.set (List.set (List.set (xsr.set 0 xr) 1 amO) 2 amR) 3 amS) 0 none) amV)) 1 (fdiv (List.getD (List.set (List.set (List.set (List.set (xsr.set 0 xr) 1 amO) 2 amR) 3 amS) 0 (fdiv (List.getD (List.set (List.set (List.set (xsr.set 0 xr) 1 amO) 2 amR) 3 amS) 0 none) amV)) 1 none) amV)) 2 (fdiv (List.getD (List.set (List.set (List.set (List.set (List.set (xsr.set 0 xr) 1 amO) 2 amR) 3 amS) 0 (fdiv (List.getD (List.set (List.set (List.set (xsr.set 0 xr) 1 amO) 2 amR) 3 amS) 0 none) amV)) 1 (fdiv (List.getD (List.set (List.set (List.set (List.set (xsr.set 0 xr) 1 amO) 2 amR) 3 amS) 0 (fdiv (List.getD (List.set (List.set (List.set (xsr.set 0 xr) 1 amO) 2 amR) 3 amS) 0 none) amV)) 1 none) amV)) 2 none) amV))))&&(inR 3 (List.length (List.set (List.set (List.set (List.set (List.set (List.set (xsr.set 0 xr) 1 amO) 2 amR) 3 amS) 0 (fdiv (List.getD (List.set (List.set (List.set (xsr.set 0 xr) 1 amO) 2 amR) 3 amS) 0 none) amV)) 1 (fdiv (List.getD (List.set (List.set (List.set (List.set (xsr.set 0 xr) 1 amO) 2 amR) 3 amS) 0 (fdiv (List.getD (List.set (List.set (List.set (xsr.set 0 xr) 1 amO) 2 amR) 3 amS) 0 none) amV)) 1 none) amV)) 2 (fdiv (List.getD (List.set (List.set (List.set (List.set (List.set (xsr.set 0 xr) 1 amO) 2 amR) 3 amS) 0 (fdiv (List.getD (List.set (List.set (List.set (xsr.set 0 xr) 1 amO) 2 amR) 3 amS) 0 none) amV)) 1 (fdiv (List.getD (List.set (List.set (List.set (List.set (xsr.set 0 xr) 1 amO) 2 amR) 3 amS) 0 (fdiv (List.getD (List.set (List.set (List.set (xsr.set 0 xr) 1 amO) 2 amR) 3 amS) 0 none) amV)) 1 none) amV)) 2 none) amV)))&&(decide (3<(List.length (List.set (List.set (List.set (List.set (List.set (List.set (xsr.set 0 xr) 1 amO) 2 amR) 3 amS) 0 (fdiv (List.getD (List.set (List.set (List.set (xsr.set 0 xr) 1 amO) 2 amR) 3 amS) 0 none) amV)) 1 (fdiv (List.getD (List.set (List.set (List.set (List.set (xsr.set 0 xr) 1 amO) 2 amR) 3 amS) 0 (fdiv (List.getD (List.set (List.set (List.set (xsr.set 0 xr) 1 amO) 2 amR) 3 amS) 0 none) amV)) 1 none) amV)) 2 (fdiv (List.getD (List.set (List.set (List.set (List.set (List.set (xsr.set 0 xr) 1 amO) 2 amR) 3 amS) 0 (fdiv (List.getD (List.set (List.set (List.set (xsr.set 0 xr) 1 amO) 2 amR) 3 amS) 0 none) amV)) 1 (fdiv (List.getD (List.set (List.set (List.set (List.set (xsr.set 0 xr) 1 amO) 2 amR) 3 amS) 0 (fdiv (List.getD (List.set (List.set (List.set (xsr.set 0 xr) 1 amO) 2 amR) 3 amS) 0 none) amV)) 1 none) amV)) 2 none) amV))))&&SZ205 (List.set (List.set (List.set (List.set (List.set (List.set (List.set (xsr.set 0 xr) 1 amO) 2 amR) 3 amS) 0 (fdiv (List.getD (List.set (List.set (List.set (xsr.set 0 xr) 1 amO) 2 amR) 3 amS) 0 none) amV)) 1 (fdiv (List.getD (List.set (List.set (List.set (List.set (xsr.set 0 xr) 1 amO) 2 amR) 3 amS) 0 (fdiv (List.getD (List.set (List.set (List.set (xsr.set 0 xr) 1 amO) 2 amR) 3 amS) 0 none) amV)) 1 none) amV)) 2 (fdiv (List.getD (List.set (List.set (List.set (List.set (List.set (xsr.set 0 xr) 1 amO) 2 amR) 3 amS) 0 (fdiv (List.getD (List.set (List.set (List.set (xsr.set 0 xr) 1 amO) 2 amR) 3 amS) 0 none) amV)) 1 (fdiv (List.getD (List.set (List.set (List.set (List.set (xsr.set 0 xr) 1 amO) 2 amR) 3 amS) 0 (fdiv (List.getD (List.set (List.set (List.set (xsr.set 0 xr) 1 amO) 2 amR) 3 amS) 0 none) amV)) 1 none) amV)) 2 none) amV)) 3 (fdiv (List.getD (List.set (List.set (List.set (List.set (List.set (List.set (xsr.set 0 xr) 1 amO) 2 amR) 3 amS) 0 (fdiv (List.getD (List.set (List.set (List.set (xsr.set 0 xr) 1 amO) 2 amR) 3 amS) 0 none) amV)) 1 (fdiv (List.getD (List.set (List.set (List.set (List.set (xsr.set 0 xr) 1 amO) 2 amR) 3 amS) 0 (fdiv (List.getD (List.set (List.set (List.set (xsr.set 0 xr) 1 amO) 2 amR) 3 amS) 0 none) amV)) 1 none) amV)) 2 (fdiv (List.getD (List.set (List.set (List.set (List.set (List.set (xsr.set 0 xr) 1 amO) 2 amR) 3 amS) 0 (fdiv (List.getD (List.set (List.set (List.set (xsr.set 0 xr) 1 amO) 2 amR) 3 amS) 0 none) amV)) 1 (fdiv (List.getD (List.set (List.set (List.set (List.set (xsr.set 0 xr) 1 amO) 2 amR) 3 amS) 0 (fdiv (List.getD (List.set (List.set (List.set (xsr.set 0 xr) 1 amO) 2 amR) 3 amS) 0 none) amV)) 1 none) amV)) 2 none) amV)) 3 none) amV)) (λamY am8 am7 anb=>k0 amY am8 am7 anb 0)))))))))))))))))))))))))))))))))))))))))))))))))))))))))))
def vA (N:Nat):mW:=zt (N+24) (UC N) (K0 N) (DY N) (A5 N) (yX N) (DT N) (ac9 N)
abbrev sE:=Fl->Fl->Fl->Fl->Fl->Fl->(Kx0)->Bool
def Kh (N:Nat) (SZ72:uW) (SZ64:uV) (SZ100:mR) (SZ119:mT) (amQ:aU) (SZ143:mW) (a_0 a_1 a_2 b_0 b_1 b_2 aoL q_3 q_4 q_5 q_6:Fl) (k0:Kx0):Bool:=
 (SZ143 q_3 q_4 q_5 q_6 (λx27 x28 x29 x30 anw=>k0 x27 x28 x29 x30 aoL anw))
def zC (N:Nat) (SZ72:uW) (SZ64:uV) (SZ100:mR) (SZ119:mT) (amQ:aU) (SZ143:mW) (a_0 a_1 a_2 b_0 b_1 b_2 dot q q_1 q_2:Fl) (k0:Kx0):Bool:=
 (SZ143 (some 0) q q_1 q_2 (λx23 x24 x25 x26 ane=>k0 x23 x24 x25 x26 dot ane))
def zr (N:Nat) (SZ72:uW) (SZ64:uV) (SZ100:mR) (SZ119:mT) (amQ:aU) (SZ143:mW) (a_0 a_1 a_2 b_0 b_1 b_2:Fl) (k0:Kx0):Bool:=
 (SZ72 a_0 a_1 a_2 (λcr=>SZ72 b_0 b_1 b_2 (λam1=>SZ64 cr am1 (λnr=>cond (nr != 0) (k0 (some 0) (some 0) (some 0) (some 0) (some 0) nr) (cond ((feq a_0 (some 0)&&(feq a_1 (some 0)&&feq a_2 (some 0)))==false) (cond (feq b_0 (some 0)&&(feq b_1 (some 0)&&feq b_2 (some 0))) (k0 (some 0) (some 0) (some 0) (some 0) (some 0) 120) (SZ100 [a_0,a_1,a_2] (λxr amU=>SZ100 [b_0,b_1,b_2] (λamO am3=>cond ((amU != 0)==false) (cond (am3 != 0) (k0 (some 0) (some 0) (some 0) (some 0) (some 0) 5) (SZ119 (fdiv a_0 xr) (fdiv a_1 xr) (fdiv a_2 xr) (fdiv b_0 amO) (fdiv b_1 amO) (fdiv b_2 amO) (λamR amS amV=>cond ((feq (ai (some 4607182418800017408) (ai (ai (af (fdiv a_0 xr) (fdiv b_0 amO)) (af (fdiv a_1 xr) (fdiv b_1 amO))) (af (fdiv a_2 xr) (fdiv b_2 amO)))) (some 0))==true) (cond (feq amR (some 0)&&(feq amS (some 0)&&feq amV (some 0))) (amQ (fdiv a_1 xr) (λamY=>amQ (fdiv a_0 xr) (λam8=>cond (flt amY am8) (amQ (fdiv a_2 xr) (λam7=>amQ (fdiv a_1 xr) (λanb=>cond (flt am7 anb) (SZ119 (fdiv a_0 xr) (fdiv a_1 xr) (fdiv a_2 xr) (some 0) (some 0) (some 4607182418800017408) (λanP anN anO=>zC N SZ72 SZ64 SZ100 SZ119 amQ SZ143 a_0 a_1 a_2 b_0 b_1 b_2 (ai (ai (af (fdiv a_0 xr) (fdiv b_0 amO)) (af (fdiv a_1 xr) (fdiv b_1 amO))) (af (fdiv a_2 xr) (fdiv b_2 amO))) anP anN anO k0)) (SZ119 (fdiv a_0 xr) (fdiv a_1 xr) (fdiv a_2 xr) (some 0) (some 4607182418800017408) (some 0) (λx12 x13 x14=>zC N SZ72 SZ64 SZ100 SZ119 amQ SZ143 a_0 a_1 a_2 b_0 b_1 b_2 (ai (ai (af (fdiv a_0 xr) (fdiv b_0 amO)) (af (fdiv a_1 xr) (fdiv b_1 amO))) (af (fdiv a_2 xr) (fdiv b_2 amO))) x12 x13 x14 k0))))) (amQ (fdiv a_2 xr) (λx15=>amQ (fdiv a_0 xr) (λx16=>cond (flt x15 x16) (SZ119 (fdiv a_0 xr) (fdiv a_1 xr) (fdiv a_2 xr) (some 0) (some 0) (some 4607182418800017408) (λx17 x18 x19=>zC N SZ72 SZ64 SZ100 SZ119 amQ SZ143 a_0 a_1 a_2 b_0 b_1 b_2 (ai (ai (af (fdiv a_0 xr) (fdiv b_0 amO)) (af (fdiv a_1 xr) (fdiv b_1 amO))) (af (fdiv a_2 xr) (fdiv b_2 amO))) x17 x18 x19 k0)) (SZ119 (fdiv a_0 xr) (fdiv a_1 xr) (fdiv a_2 xr) (some 4607182418800017408) (some 0) (some 0) (λx20 x21 an0=>zC N SZ72 SZ64 SZ100 SZ119 amQ SZ143 a_0 a_1 a_2 b_0 b_1 b_2 (ai (ai (af (fdiv a_0 xr) (fdiv b_0 amO)) (af (fdiv a_1 xr) (fdiv b_1 amO))) (af (fdiv a_2 xr) (fdiv b_2 amO))) x20 x21 an0 k0)))))))) (Kh N SZ72 SZ64 SZ100 SZ119 amQ SZ143 a_0 a_1 a_2 b_0 b_1 b_2 (ai (ai (af (fdiv a_0 xr) (fdiv b_0 amO)) (af (fdiv a_1 xr) (fdiv b_1 amO))) (af (fdiv a_2 xr) (fdiv b_2 amO))) (ai (some 4607182418800017408) (ai (ai (af (fdiv a_0 xr) (fdiv b_0 amO)) (af (fdiv a_1 xr) (fdiv b_1 amO))) (af (fdiv a_2 xr) (fdiv b_2 amO)))) amR amS amV k0)) (Kh N SZ72 SZ64 SZ100 SZ119 amQ SZ143 a_0 a_1 a_2 b_0 b_1 b_2 (ai (ai (af (fdiv a_0 xr) (fdiv b_0 amO)) (af (fdiv a_1 xr) (fdiv b_1 amO))) (af (fdiv a_2 xr) (fdiv b_2 amO))) (ai (some 4607182418800017408) (ai (ai (af (fdiv a_0 xr) (fdiv b_0 amO)) (af (fdiv a_1 xr) (fdiv b_1 amO))) (af (fdiv a_2 xr) (fdiv b_2 amO)))) amR amS amV k0)))) (k0 (some 0) (some 0) (some 0) (some 0) (some 0) 5))))) (k0 (some 0) (some 0) (some 0) (some 0) (some 0) 120))))))
def DP (N:Nat):sE:=zr (N+24) (ahc N) (ahb N) (xV N) (Uv N) (dg N) (vA N)
abbrev tQ:=LF->(Kz1)->Bool
def zB (N:Nat) (SZ109:li) (x:LF) (k0:Kz1):Bool:=
 (cond (decide (((x.length:Nat):Int)>48)) (k0 1) (SZ109 x (λcr=>cond (!cr) (k0 4) (k0 0))))
def D2 (N:Nat):tQ:=zB N (DQ N)
abbrev tC:=LF->(Ky3)->Bool
def iC (N:Nat) (amQ:aU) (SZ111:iS) (x_1:LF) (t9:Int) (e0:Kz2):(Fl × Int)->((Fl × Int)->Bool)->Bool:=λv_ K=>match v_ with
 | (most,t10)=>(cond (decide (t10<t9)) (inR t10 x_1.length&&amQ (x_1.getD t10.toNat none) (λxr=>aw .i64 (t10+1)&&K ((fmm true most xr),(t10+1)))) (e0 most))
def J7 (N:Nat) (amQ:aU) (SZ111:iS) (x:LF) (k0:Ky3):Bool:=
 (aH N (iC N amQ SZ111 x ((x.length:Nat):Int) (λapl=>cond (feq apl (some 0)) (k0 0 false) (SZ111 apl (λamO nr=>aw .i64 (nr - 1)&&k0 (nr - 1) true)))) ((some 0),0))
def Lq (N:Nat):tC:=J7 N (dg N) (kb N)
abbrev tk:=LF->Int->(Ky9)->Bool
def gO (N:Nat) (SZ79:hJ) (SZ133:f6) (x_1:LF) (ape t13:Int) (e0:Ky9):(Fl × Int × LF)->((Fl × Int × LF)->Bool)->Bool:=λv_ K=>match v_ with
 | (s,t14,y)=>(cond (decide (t14<t13)) (inR t14 x_1.length&&(aw .i64 (0 - ape)&&SZ79 (x_1.getD t14.toNat none) (0 - ape) (λxr=>inR t14 y.length&&(decide (t14.toNat<y.length)&&(inR t14 (List.length (y.set t14.toNat xr))&&(decide (t14.toNat<(List.length (y.set t14.toNat xr)))&&(inR t14 (List.length (y.set t14.toNat xr))&&(decide (t14.toNat<(List.length (y.set t14.toNat xr)))&&(aw .i64 (t14+1)&&K ((ai s (af (List.getD (y.set t14.toNat xr) t14.toNat none) (List.getD (y.set t14.toNat xr) t14.toNat none))),(t14+1),(y.set t14.toNat xr))))))))))) (e0 s y))
def J4 (N:Nat) (SZ79:hJ) (SZ133:f6) (x:LF) (k_:Int) (k0:Ky9):Bool:=
 (nx 8 ((x.length:Nat):Int) ((x.length:Nat):Int)&&aH N (gO N SZ79 SZ133 x k_ ((x.length:Nat):Int) (λs_1 y_1=>SZ133 s_1 (λamO=>k0 amO y_1))) ((some 0),0,(List.replicate (Int.toNat ((x.length:Nat):Int)) (some 0))))
def Ll (N:Nat):tk:=J4 N (pZ N) (DT N)
abbrev tc:=LF->(Kz2)->Bool
def zx (N:Nat) (SZ177:tC) (SZ166:tk) (SZ79:hJ) (x:LF) (k0:Kz2):Bool:=
 (SZ177 x (λnr cr=>cond (!cr) (k0 (some 0)) (SZ166 x nr (λxr xsr=>SZ79 xr nr (λamO=>k0 amO)))))
def xX (N:Nat):tc:=zx N (Lq N) (Ll N) (pZ N)
abbrev tq:=Fl->(Kz0)->Bool
def Cu (N:Nat) (x:Fl) (k0:Kz0):Bool:=
 (k0 (feq (co x x) (some 0)))
def Ln (N:Nat):tq:=Cu N
abbrev sT:=LF->(Ky7)->Bool
def zu (N:Nat) (SZ196:tQ) (SZ152:tc) (SZ169:tq) (x:LF) (k0:Ky7):Bool:=
 (SZ196 x (λnr=>cond (nr != 0) (k0 (some 0) nr) (SZ152 x (λxr=>SZ169 xr (λcr=>cond (!cr) (k0 (some 0) 5) (k0 xr 0))))))
def jk (N:Nat):sT:=zu N (D2 N) (xX N) (Ln N)
abbrev uX:=Fl->Fl->Fl->(Kx5)->Bool
def Zf (N:Nat) (SZ145:sT) (v_0 v_1 v_2:Fl) (k0:Kx5):Bool:=
 (SZ145 [v_0,v_1,v_2] (λxr nr=>cond (nr != 0) (k0 (some 0) (some 0) (some 0) nr) (k0 (fdiv v_0 xr) (fdiv v_1 xr) (fdiv v_2 xr) 0)))
def ahe (N:Nat):uX:=Zf N (jk N)
abbrev Ae:=Fl->Fl->Fl->Fl->Fl->Fl->(Kx1)->Bool
def Qy (N:Nat) (SZ28:ge) (SZ85:uX) (SZ71:mZ) (SZ37:hI) (amQ:aU) (SZ81:m4) (a_0 a_1 a_2 b_0 b_1 b_2 q_3 q_4 q_5 q_6:Fl) (k0:Kx1):Bool:=
 (SZ81 q_3 q_4 q_5 q_6 (λx51 x52 x53 x54 ane=>k0 x51 x52 x53 x54 ane))
def oL (N:Nat) (SZ28:ge) (SZ85:uX) (SZ71:mZ) (SZ37:hI) (amQ:aU) (SZ81:m4) (a_0 a_1 a_2 b_0 b_1 b_2 q q_1 q_2:Fl) (k0:Kx1):Bool:=
 (SZ81 (some 0) q q_1 q_2 (λx47 x48 x49 x50 am3=>k0 x47 x48 x49 x50 am3))
def NM (N:Nat) (SZ28:ge) (SZ85:uX) (SZ71:mZ) (SZ37:hI) (amQ:aU) (SZ81:m4) (a_0 a_1 a_2 b_0 b_1 b_2:Fl) (k0:Kx1):Bool:=
 (SZ28 [a_0,a_1,a_2] (λcr=>cond ((!cr)==false) (SZ28 [b_0,b_1,b_2] (λam1=>cond (!am1) (k0 (some 0) (some 0) (some 0) (some 0) 4) (cond ((feq a_0 (some 0)&&(feq a_1 (some 0)&&feq a_2 (some 0)))==false) (cond (feq b_0 (some 0)&&(feq b_1 (some 0)&&feq b_2 (some 0))) (k0 (some 0) (some 0) (some 0) (some 0) 120) (SZ85 a_0 a_1 a_2 (λxr amO amR nr=>cond (nr != 0) (k0 (some 0) (some 0) (some 0) (some 0) nr) (SZ85 b_0 b_1 b_2 (λamS amV amY amU=>cond (amU != 0) (k0 (some 0) (some 0) (some 0) (some 0) amU) (SZ71 xr amO amR amS amV amY (λam8 am7 anb=>SZ37 (ai (some 4607182418800017408) (ai (ai (af xr amS) (af amO amV)) (af amR amY))) am8 am7 anb (cond (feq (ai (some 4607182418800017408) (ai (ai (af xr amS) (af amO amV)) (af amR amY))) (some 0)&&(feq am8 (some 0)&&(feq am7 (some 0)&&feq anb (some 0)))) (amQ xr (λanP=>amQ xr (λanN=>cond (flt anP anN) (amQ amO (λanO=>amQ xr (λx12=>cond (flt anO x12) (amQ amR (λx13=>amQ amO (λx14=>cond (flt x13 x14) (SZ71 xr amO amR (some 0) (some 0) (some 4607182418800017408) (λx15 x16 x17=>oL N SZ28 SZ85 SZ71 SZ37 amQ SZ81 a_0 a_1 a_2 b_0 b_1 b_2 x15 x16 x17 k0)) (SZ71 xr amO amR (some 0) (some 4607182418800017408) (some 0) (λx18 x19 x20=>oL N SZ28 SZ85 SZ71 SZ37 amQ SZ81 a_0 a_1 a_2 b_0 b_1 b_2 x18 x19 x20 k0))))) (amQ amR (λx21=>amQ xr (λan0=>cond (flt x21 an0) (SZ71 xr amO amR (some 0) (some 0) (some 4607182418800017408) (λx23 x24 x25=>oL N SZ28 SZ85 SZ71 SZ37 amQ SZ81 a_0 a_1 a_2 b_0 b_1 b_2 x23 x24 x25 k0)) (SZ71 xr amO amR (some 4607182418800017408) (some 0) (some 0) (λx26 x27 x28=>oL N SZ28 SZ85 SZ71 SZ37 amQ SZ81 a_0 a_1 a_2 b_0 b_1 b_2 x26 x27 x28 k0)))))))) (amQ amO (λx29=>amQ xr (λx30=>cond (flt x29 x30) (amQ amR (λx31=>amQ amO (λx32=>cond (flt x31 x32) (SZ71 xr amO amR (some 0) (some 0) (some 4607182418800017408) (λx33 x34 x35=>oL N SZ28 SZ85 SZ71 SZ37 amQ SZ81 a_0 a_1 a_2 b_0 b_1 b_2 x33 x34 x35 k0)) (SZ71 xr amO amR (some 0) (some 4607182418800017408) (some 0) (λx36 x37 x38=>oL N SZ28 SZ85 SZ71 SZ37 amQ SZ81 a_0 a_1 a_2 b_0 b_1 b_2 x36 x37 x38 k0))))) (amQ amR (λx39=>amQ xr (λx40=>cond (flt x39 x40) (SZ71 xr amO amR (some 0) (some 0) (some 4607182418800017408) (λx41 x42 x43=>oL N SZ28 SZ85 SZ71 SZ37 amQ SZ81 a_0 a_1 a_2 b_0 b_1 b_2 x41 x42 x43 k0)) (SZ71 xr amO amR (some 4607182418800017408) (some 0) (some 0) (λx44 x45 x46=>oL N SZ28 SZ85 SZ71 SZ37 amQ SZ81 a_0 a_1 a_2 b_0 b_1 b_2 x44 x45 x46 k0))))))))))) (Qy N SZ28 SZ85 SZ71 SZ37 amQ SZ81 a_0 a_1 a_2 b_0 b_1 b_2 (ai (some 4607182418800017408) (ai (ai (af xr amS) (af amO amV)) (af amR amY))) am8 am7 anb k0))))))))) (k0 (some 0) (some 0) (some 0) (some 0) 120)))) (k0 (some 0) (some 0) (some 0) (some 0) 4)))
def UM (N:Nat):Ae:=NM (N+24) (D3 N) (ahe N) (abJ N) (Gl N) (dg N) (uJ N)
abbrev te:=(Ky3)->Bool
def J2 (N:Nat) (k0:Ky3):Bool:=
 (k0 0 false)
def UB (N:Nat):te:=J2 N
abbrev pq:=Int->Int->(Ky6)->Bool
def gT (N:Nat) (e0:Ky6):(Int × Int)->((Int × Int)->Bool)->Bool:=λv_ K=>match v_ with
 | (m_1,e_1)=>(cond ((Int.tmod m_1 2)==0) (aw .i64 (e_1+1)&&K ((IntKind.wrap .u64 (Int.tdiv m_1 2)),(e_1+1))) (e0 m_1 e_1))
def Cw (N:Nat) (m e:Int) (k0:Ky6):Bool:=
 (cond (m==0) (k0 0 0) (aH N (gT N (λm_2 e_2=>k0 m_2 e_2)) (m,e)))
def xY (N:Nat):pq:=Cw N
abbrev tn:=Fl->(Kx2)->Bool
def CC (N:Nat) (SZ118:kv) (SZ173:pq) (x:Fl) (neg:Bool) (e f:Int) (k0:Kx2):Bool:=
 (aw .i64 (e - 1074)&&SZ173 f (e - 1074) (λam3 ane=>k0 neg am3 ane 0))
def zA (N:Nat) (SZ118:kv) (SZ173:pq) (x:Fl) (k0:Kx2):Bool:=
 (SZ118 x (λcr nr amU=>cond (nr==2047) (k0 false 0 0 4) (cond (decide (nr>0)) (aw .i64 (nr - 1)&&CC N SZ118 SZ173 x cr (nr - 1) (IntKind.wrap .u64 (amU+4503599627370496)) k0) (CC N SZ118 SZ173 x cr nr amU k0))))
def Lm (N:Nat):tn:=zA N (A3 N) (xY N)
abbrev sS:=Bool->Bool->LI->LI->(Kx9)->Bool
def JZ (N:Nat) (SZ11:dN) (neg b:Bool) (b_1 b_2:LI) (k0:Kx9):Bool:=
 (SZ11 b_2 (λmr anf=>cond (neg==true) (k0 (decide (((anf:Nat):Int)>0)) mr anf) (k0 false mr anf)))
def Uy (N:Nat):sS:=JZ N (rN N)
abbrev sQ:=Bool->LI->(Ky5)->Bool
def JW (N:Nat) (SZ144:sS) (b:Bool) (b_1:LI) (k0:Ky5):Bool:=
 (decide ((List.length ([]++b_1))*4<=140737488355328)&&SZ144 (!b) b b_1 ([]++b_1) (λcr mr anf=>decide ((mr+anf)<=(List.length ([]++b_1)))&&k0 cr (List.take anf (List.drop mr ([]++b_1)))))
def Lh (N:Nat):sQ:=JW N (Uy N)
abbrev lE:=Fl->(Ky1)->Bool
def J3 (N:Nat) (SZ168:tn) (SZ61:qG) (SZ139:sQ) (x:Fl) (k0:Ky1):Bool:=
 (SZ168 x (λcr nr amU am3=>SZ61 nr false (λam1 nsr=>cond cr (SZ139 am1 nsr (λanl am2=>k0 amU anl am2)) (k0 amU am1 nsr))))
def rO (N:Nat):lE:=J3 N (Lm N) (O5 N) (Lh N)
abbrev lu:=LI->LI->(Kz3)->Bool
def gS (N:Nat) (SZ11:dN) (a_2 b_2:LI) (i_1:Int) (e0:Ky8):(Int × Int × LI)->((Int × Int × LI)->Bool)->Bool:=λv_ K=>match v_ with
 | (carry,k_,anr)=>(cond (decide (k_<((b_2.length:Nat):Int))) (inR i_1 a_2.length&&(inR k_ b_2.length&&(aw .i64 (i_1+k_)&&(inR (i_1+k_) anr.length&&(decide ((Int.toNat (i_1+k_))<anr.length)&&(aw .i64 (i_1+k_)&&(inR (i_1+k_) anr.length&&(decide ((Int.toNat (i_1+k_))<anr.length)&&(aw .i64 (k_+1)&&K ((Int.fdiv (IntKind.wrap .u64 ((IntKind.wrap .u64 ((IntKind.wrap .u64 ((IntKind.wrap .u64 (a_2.getD i_1.toNat 0))*(IntKind.wrap .u64 (b_2.getD k_.toNat 0))))+(IntKind.wrap .u64 (anr.getD (Int.toNat (i_1+k_)) 0))))+carry)) (2 ^ 32)),(k_+1),(anr.set (Int.toNat (i_1+k_)) (IntKind.wrap .u32 (IntKind.wrap .u64 ((IntKind.wrap .u64 ((IntKind.wrap .u64 ((IntKind.wrap .u64 (a_2.getD i_1.toNat 0))*(IntKind.wrap .u64 (b_2.getD k_.toNat 0))))+(IntKind.wrap .u64 (anr.getD (Int.toNat (i_1+k_)) 0))))+carry)))))))))))))) (e0 carry anr))
def gR (N:Nat) (SZ11:dN) (a_1 b_1:LI) (e0:Kz3):(Int × LI)->((Int × LI)->Bool)->Bool:=λv_ K=>match v_ with
 | (i,out)=>(cond (decide (i<((a_1.length:Nat):Int))) (aH N (gS N SZ11 a_1 b_1 i (λanM aoh=>aw .i64 (i+((b_1.length:Nat):Int))&&(inR (i+((b_1.length:Nat):Int)) aoh.length&&(decide ((Int.toNat (i+((b_1.length:Nat):Int)))<aoh.length)&&(aw .i64 (i+1)&&K ((i+1),(aoh.set (Int.toNat (i+((b_1.length:Nat):Int))) (IntKind.wrap .u32 anM)))))))) (0,0,out)) (e0 out))
def JT (N:Nat) (SZ11:dN) (a b:LI) (k0:Kz3):Bool:=
 (aw .i64 (((a.length:Nat):Int)+((b.length:Nat):Int))&&(nx 4 (((a.length:Nat):Int)+((b.length:Nat):Int)) (((a.length:Nat):Int)+((b.length:Nat):Int))&&aH N (gR N SZ11 a b (λapm=>SZ11 apm (λmr anf=>decide ((mr+anf)<=apm.length)&&k0 (List.take anf (List.drop mr apm))))) (0,(List.replicate (Int.toNat (((a.length:Nat):Int)+((b.length:Nat):Int))) (0:Int)))))
def DU (N:Nat):lu:=JT N (rN N)
abbrev Ag:=Bool->Bool->LI->Bool->LI->(Ky5)->Bool
def Zh (N:Nat) (SZ135:lu) (SZ36:eu) (b b_1:Bool) (b_2:LI) (b_3:Bool) (b_4:LI) (k0:Ky5):Bool:=
 (SZ135 b_2 b_4 (λnsr=>SZ36 (b_1 != b_3) nsr b (λcr am2=>k0 cr am2)))
def abL (N:Nat):Ag:=Zh N (DU N) (yW N)
abbrev mK:=Int->Int->Bool->LI->Bool->LI->(Ky1)->Bool
def GZ0 (N:Nat) (SZ93:Ag) (x y:Int) (b:Bool) (b_1:LI) (b_2:Bool) (b_3:LI) (k0:Ky1):Bool:=
 (SZ93 false b b_1 b_2 b_3 (λcr nsr=>aw .i64 (x+y)&&k0 (x+y) cr nsr))
def sZ0 (N:Nat):mK:=GZ0 N (abL N)
abbrev sZ:=Bool->(Ky8)->Bool
def PZ (N:Nat) (b:Bool) (k0:Ky8):Bool:=
 (k0 0 [])
def acW (N:Nat):sZ:=PZ N
abbrev qC:=Int->Int->Bool->LI->(Bool)->(Ky5)->Bool
def Y1 (N:Nat) (SZ84:qJ) (x e:Int) (b:Bool) (b_1:LI) (k0:Bool) (k1:Ky5):Bool:=
 (cond (decide (e>=x)) k0 (aw .i64 (x - e)&&SZ84 (IntKind.wrap .u64 (x - e)) false b b_1 (λcr nsr=>k1 cr nsr)))
def O4 (N:Nat):qC:=Y1 N (UL N)
abbrev qF:=Bool->Bool->LI->Bool->LI->(Ky5)->Bool
def Y4 (N:Nat) (SZ65:qH) (b b_1:Bool) (b_2:LI) (b_3:Bool) (b_4:LI) (k0:Ky5):Bool:=
 (SZ65 false b b_1 b_2 b_3 b_4 (λcr nsr=>k0 cr nsr))
def D6 (N:Nat):qF:=Y4 N (UK N)
abbrev zM:=Int->Int->Bool->Bool->LI->(Kz3)->(Kz3)->(Kx4)->Bool
def adv (N:Nat) (SZ150:sZ) (SZ26:er) (SZ41:qC) (SZ56:qF) (x y:Int) (b b_1:Bool) (b_2:LI) (k0:Kz3) (k1:Kz3) (k2:Kx4):Bool:=
 (SZ150 b (λnr nsr=>cond (nr==0) (k0 nsr) (SZ26 b_1 b_2 (λamU=>cond (amU==0) (k1 nsr) (SZ41 x (imm false x y) b nsr (SZ41 y (imm false x y) b_1 b_2 (SZ56 false b nsr b_1 b_2 (λcr am2=>k2 (imm false x y) nsr cr am2)) (λam1 am6=>SZ56 false b nsr am1 am6 (λanl ank=>k2 (imm false x y) nsr anl ank))) (λanq ann=>SZ41 y (imm false x y) b_1 b_2 (SZ56 false anq ann b_1 b_2 (λanu s5=>k2 (imm false x y) nsr anu s5)) (λanz s6=>SZ56 false anq ann anz s6 (λanG s7=>k2 (imm false x y) nsr anG s7))))))))
def ak_ (N:Nat):zM:=adv N (acW N) (nG N) (O4 N) (D6 N)
abbrev po:=Int->Int->Bool->LI->Bool->LI->(Bool)->(Bool)->(Ky1)->Bool
def GZ1 (N:Nat) (SZ26:er) (SZ41:qC) (SZ56:qF) (x y:Int) (b:Bool) (b_1:LI) (b_2:Bool) (b_3:LI) (k0 k1:Bool) (k2:Ky1):Bool:=
 (SZ26 b b_1 (λnr=>cond (nr==0) k0 (SZ26 b_2 b_3 (λamU=>cond (amU==0) k1 (SZ41 x (imm false x y) b b_1 (SZ41 y (imm false x y) b_2 b_3 (SZ56 false b b_1 b_2 b_3 (λcr nsr=>k2 (imm false x y) cr nsr)) (λam1 am2=>SZ56 false b b_1 am1 am2 (λanl am6=>k2 (imm false x y) anl am6))) (λanq ank=>SZ41 y (imm false x y) b_2 b_3 (SZ56 false anq ank b_2 b_3 (λanu ann=>k2 (imm false x y) anu ann)) (λanz s5=>SZ56 false anq ank anz s5 (λanG s6=>k2 (imm false x y) anG s6))))))))
def sZ1 (N:Nat):po:=GZ1 N (nG N) (O4 N) (D6 N)
abbrev tT:=LF->LF->(Ky1)->Bool
def jA (N:Nat) (SZ159:te) (SZ160:lE) (SZ0:mK) (SZ30:zM) (SZ1:po) (a_2 b_2:LF) (apo:Int) (aoI:Value) (aoJ:Int) (e0:Ky1):(Int × Int × Bool × LI)->((Int × Int × Bool × LI)->Bool)->Bool:=λv_ K=>match v_ with
 | (anQ,s_1,an9,an_)=>(cond (decide (anQ<apo)) (inR anQ a_2.length&&SZ160 (a_2.getD anQ.toNat none) (λanw anu ann=>inR anQ b_2.length&&SZ160 (b_2.getD anQ.toNat none) (λn5 anz s5=>SZ0 anw n5 anu ann anz s5 (λn6 anG s6=>SZ1 s_1 n6 an9 an_ anG s6 (aw .i64 (anQ+1)&&K ((anQ+1),n6,anG,s6)) (aw .i64 (anQ+1)&&K ((anQ+1),s_1,an9,an_)) (λn7 c7 s7=>aw .i64 (anQ+1)&&K ((anQ+1),n7,c7,s7)))))) (e0 s_1 an9 an_))
def Kd (N:Nat) (SZ159:te) (SZ160:lE) (SZ0:mK) (SZ30:zM) (SZ1:po) (a b:LF) (k0:Ky1):Bool:=
 (SZ159 (λnr cr=>aH N (jA N SZ159 SZ160 SZ0 SZ30 SZ1 a b ((a.length:Nat):Int) (.pointer none) 0 (λs_2 apB apC=>k0 s_2 apB apC)) (0,nr,cr,[])))
def Ly (N:Nat):tT:=Kd N (UB N) (rO N) (sZ0 N) (ak_ N) (sZ1 N)
abbrev zR:=Fl->Fl->Fl->(Ky1)->Bool
def Y2 (N:Nat) (SZ199:tT) (v_0 v_1 v_2:Fl) (k0:Ky1):Bool:=
 (SZ199 [v_0,v_1,v_2] [v_0,v_1,v_2] (λnr cr nsr=>k0 nr cr nsr))
def abH (N:Nat):zR:=Y2 N (Ly N)
abbrev tt:=Int->(Ky5)->Bool
def J5 (N:Nat) (SZ14:gC) (e:Int) (k0:Ky5):Bool:=
 (SZ14 1 (λcr nsr=>k0 cr nsr))
def Lo (N:Nat):tt:=J5 N (ms N)
abbrev sK:=Bool->Bool->LI->(Ky5)->Bool
def JO (N:Nat) (SZ98:qM) (b b_1:Bool) (b_2:LI) (k0:Ky5):Bool:=
 (decide ((List.length ([]++b_2))*4<=140737488355328)&&SZ98 (!b_1) b ([]++b_2) (λcr mr anf=>decide ((mr+anf)<=(List.length ([]++b_2)))&&k0 cr (List.take anf (List.drop mr ([]++b_2)))))
def K9 (N:Nat):sK:=JO N (UQ N)
abbrev mz:=Int->Bool->LI->(Ky5)->Bool
def P6 (N:Nat) (SZ125:sK) (x:Int) (b:Bool) (b_1:LI) (k0:Ky5):Bool:=
 (SZ125 false b b_1 (λcr nsr=>k0 cr nsr))
def la (N:Nat):mz:=P6 N (K9 N)
abbrev sF:=Bool->Bool->LI->(Ky5)->Bool
def PM (N:Nat) (SZ135:lu) (SZ36:eu) (b b_1:Bool) (b_2:LI) (k0:Ky5):Bool:=
 (SZ135 b_2 b_2 (λnsr=>SZ36 (b_1 != b_1) nsr b (λcr am2=>k0 cr am2)))
def acO (N:Nat):sF:=PM N (DU N) (yW N)
abbrev qz:=Int->Int->Bool->LI->(Ky1)->Bool
def adr (N:Nat) (SZ110:sF) (x y:Int) (b:Bool) (b_1:LI) (k0:Ky1):Bool:=
 (SZ110 false b b_1 (λcr nsr=>aw .i64 (x+y)&&k0 (x+y) cr nsr))
def O3 (N:Nat):qz:=adr N (acO N)
abbrev ls:=Int->(Ky1)->Bool
def JQ (N:Nat) (SZ14:gC) (n:Int) (k0:Ky1):Bool:=
 (SZ14 n (λcr nsr=>k0 0 cr nsr))
def DS (N:Nat):ls:=JQ N (ms N)
abbrev qx:=Int->Int->Bool->LI->Bool->LI->(Kz1)->Bool
def YT (N:Nat) (SZ16:mz) (SZ1:po) (SZ26:er) (x y:Int) (b:Bool) (b_1:LI) (b_2:Bool) (b_3:LI) (k0:Kz1):Bool:=
 (SZ16 y b_2 b_3 (λcr nsr=>SZ1 x y b b_1 cr nsr (SZ26 cr nsr (λnr=>k0 nr)) (SZ26 b b_1 (λamU=>k0 amU)) (λam3 am1 am2=>SZ26 am1 am2 (λane=>k0 ane))))
def Gj (N:Nat):qx:=YT N (la N) (sZ1 N) (nG N)
abbrev zP:=Int->Int->Int->Bool->LI->Bool->LI->Bool->LI->(Kz0)->Bool
def ady (N:Nat) (SZ16:mz) (SZ1:po) (SZ26:er) (SZ23:qz) (SZ0:mK) (SZ127:ls) (SZ19:qx) (x y room:Int) (b:Bool) (b_1:LI) (b_2:Bool) (b_3:LI) (b_4:Bool) (b_5:LI) (k0:Kz0):Bool:=
 (SZ16 x b b_1 (λcr nsr=>SZ1 room x b_4 b_5 cr nsr (SZ16 y b_2 b_3 (λam1 am2=>SZ1 x y cr nsr am1 am2 (SZ26 am1 am2 (λanw=>cond ((decide (anw>=0))==true) (SZ23 y y am1 am2 (λn5 c8 s8=>SZ0 x y b b_1 b_2 b_3 (λn6 c9 s9=>SZ127 4 (λn7 c10 s10=>SZ0 n6 n7 c9 s9 c10 s10 (λn8 c11 s11=>SZ19 n5 n8 c8 s8 c11 s11 (λn9=>k0 (decide (n9>=0)))))))) (k0 false))) (SZ26 cr nsr (λanU=>cond ((decide (anU>=0))==true) (SZ23 x x cr nsr (λaoa c12 s12=>SZ0 x y b b_1 b_2 b_3 (λanX c13 s13=>SZ127 4 (λn13 c14 s14=>SZ0 anX n13 c13 s13 c14 s14 (λn14 c15 s15=>SZ19 aoa n14 c12 s12 c15 s15 (λn15=>k0 (decide (n15>=0)))))))) (k0 false))) (λnr anl am6=>SZ26 anl am6 (λn16=>cond ((decide (n16>=0))==true) (SZ23 nr nr anl am6 (λn17 c16 s16=>SZ0 x y b b_1 b_2 b_3 (λn18 c17 s17=>SZ127 4 (λn19 c18 s18=>SZ0 n18 n19 c17 s17 c18 s18 (λaoA c19 s19=>SZ19 n17 aoA c16 s16 c19 s19 (λaoB=>k0 (decide (aoB>=0)))))))) (k0 false))))) (SZ16 y b_2 b_3 (λanq ank=>SZ1 room y b_4 b_5 anq ank (SZ26 anq ank (λaoC=>cond ((decide (aoC>=0))==true) (SZ23 y y anq ank (λn23 aoY s20=>SZ0 x y b b_1 b_2 b_3 (λn24 c21 s21=>SZ127 4 (λn25 aoZ s22=>SZ0 n24 n25 c21 s21 aoZ s22 (λn26 c23 s23=>SZ19 n23 n26 aoY s20 c23 s23 (λn27=>k0 (decide (n27>=0)))))))) (k0 false))) (SZ26 b_4 b_5 (λn28=>cond ((decide (n28>=0))==true) (SZ23 room room b_4 b_5 (λn29 c24 s24=>SZ0 x y b b_1 b_2 b_3 (λn30 c25 s25=>SZ127 4 (λn31 ao0 aoD=>SZ0 n30 n31 c25 s25 ao0 aoD (λn32 c27 s27=>SZ19 n29 n32 c24 s24 c27 s27 (λn33=>k0 (decide (n33>=0)))))))) (k0 false))) (λamU anu ann=>SZ26 anu ann (λn34=>cond ((decide (n34>=0))==true) (SZ23 amU amU anu ann (λn35 c28 s28=>SZ0 x y b b_1 b_2 b_3 (λn36 c29 s29=>SZ127 4 (λn37 c30 s30=>SZ0 n36 n37 c29 s29 c30 s30 (λn38 c31 s31=>SZ19 n35 n38 c28 s28 c31 s31 (λn39=>k0 (decide (n39>=0)))))))) (k0 false))))) (λam3 anz s5=>SZ16 y b_2 b_3 (λanG s6=>SZ1 am3 y anz s5 anG s6 (SZ26 anG s6 (λn40=>cond ((decide (n40>=0))==true) (SZ23 y y anG s6 (λn41 c32 s32=>SZ0 x y b b_1 b_2 b_3 (λn42 c33 s33=>SZ127 4 (λn43 c34 s34=>SZ0 n42 n43 c33 s33 c34 s34 (λn44 c35 s35=>SZ19 n41 n44 c32 s32 c35 s35 (λn45=>k0 (decide (n45>=0)))))))) (k0 false))) (SZ26 anz s5 (λn46=>cond ((decide (n46>=0))==true) (SZ23 am3 am3 anz s5 (λn47 c36 s36=>SZ0 x y b b_1 b_2 b_3 (λn48 c37 s37=>SZ127 4 (λn49 c38 s38=>SZ0 n48 n49 c37 s37 c38 s38 (λn50 c39 s39=>SZ19 n47 n50 c36 s36 c39 s39 (λn51=>k0 (decide (n51>=0)))))))) (k0 false))) (λane c7 s7=>SZ26 c7 s7 (λn52=>cond ((decide (n52>=0))==true) (SZ23 ane ane c7 s7 (λn53 c40 s40=>SZ0 x y b b_1 b_2 b_3 (λn54 c41 s41=>SZ127 4 (λn55 c42 s42=>SZ0 n54 n55 c41 s41 c42 s42 (λn56 c43 s43=>SZ19 n53 n56 c40 s40 c43 s43 (λn57=>k0 (decide (n57>=0)))))))) (k0 false)))))))
def abF (N:Nat):zP:=ady N (la N) (sZ1 N) (nG N) (O3 N) (sZ0 N) (DS N) (Gj N)
abbrev zO:=Int->Int->Int->Bool->LI->Bool->LI->Bool->LI->(Kz0)->Bool
def adx (N:Nat) (SZ1:po) (SZ16:mz) (SZ26:er) (SZ23:qz) (SZ0:mK) (SZ127:ls) (SZ19:qx) (x y room:Int) (b:Bool) (b_1:LI) (b_2:Bool) (b_3:LI) (b_4:Bool) (b_5:LI) (k0:Kz0):Bool:=
 (SZ1 x y b b_1 b_2 b_3 (SZ16 room b_4 b_5 (λcr nsr=>SZ1 y room b_2 b_3 cr nsr (SZ26 cr nsr (λanw=>cond ((decide (anw<=0))==false) (SZ23 room room cr nsr (λn5 c7 s7=>SZ0 x y b b_1 b_2 b_3 (λn6 c8 s8=>SZ127 4 (λn7 c9 s9=>SZ0 n6 n7 c8 s8 c9 s9 (λn8 c10 s10=>SZ19 n5 n8 c7 s7 c10 s10 (λn9=>k0 (decide (n9<=0)))))))) (k0 true))) (SZ26 b_2 b_3 (λanU=>cond ((decide (anU<=0))==false) (SZ23 y y b_2 b_3 (λaoa c11 s11=>SZ0 x y b b_1 b_2 b_3 (λanX c12 s12=>SZ127 4 (λn13 c13 s13=>SZ0 anX n13 c12 s12 c13 s13 (λn14 c14 s14=>SZ19 aoa n14 c11 s11 c14 s14 (λn15=>k0 (decide (n15<=0)))))))) (k0 true))) (λnr am1 am2=>SZ26 am1 am2 (λn16=>cond ((decide (n16<=0))==false) (SZ23 nr nr am1 am2 (λn17 c15 s15=>SZ0 x y b b_1 b_2 b_3 (λn18 c16 s16=>SZ127 4 (λn19 c17 s17=>SZ0 n18 n19 c16 s16 c17 s17 (λaoA c18 s18=>SZ19 n17 aoA c15 s15 c18 s18 (λaoB=>k0 (decide (aoB<=0)))))))) (k0 true))))) (SZ16 room b_4 b_5 (λanl am6=>SZ1 x room b b_1 anl am6 (SZ26 anl am6 (λaoC=>cond ((decide (aoC<=0))==false) (SZ23 room room anl am6 (λn23 c19 s19=>SZ0 x y b b_1 b_2 b_3 (λn24 aoY s20=>SZ127 4 (λn25 c21 s21=>SZ0 n24 n25 aoY s20 c21 s21 (λn26 aoZ s22=>SZ19 n23 n26 c19 s19 aoZ s22 (λn27=>k0 (decide (n27<=0)))))))) (k0 true))) (SZ26 b b_1 (λn28=>cond ((decide (n28<=0))==false) (SZ23 x x b b_1 (λn29 c23 s23=>SZ0 x y b b_1 b_2 b_3 (λn30 c24 s24=>SZ127 4 (λn31 c25 s25=>SZ0 n30 n31 c24 s24 c25 s25 (λn32 ao0 aoD=>SZ19 n29 n32 c23 s23 ao0 aoD (λn33=>k0 (decide (n33<=0)))))))) (k0 true))) (λamU anq ank=>SZ26 anq ank (λn34=>cond ((decide (n34<=0))==false) (SZ23 amU amU anq ank (λn35 c27 s27=>SZ0 x y b b_1 b_2 b_3 (λn36 c28 s28=>SZ127 4 (λn37 c29 s29=>SZ0 n36 n37 c28 s28 c29 s29 (λn38 c30 s30=>SZ19 n35 n38 c27 s27 c30 s30 (λn39=>k0 (decide (n39<=0)))))))) (k0 true))))) (λam3 anu ann=>SZ16 room b_4 b_5 (λanz s5=>SZ1 am3 room anu ann anz s5 (SZ26 anz s5 (λn40=>cond ((decide (n40<=0))==false) (SZ23 room room anz s5 (λn41 c31 s31=>SZ0 x y b b_1 b_2 b_3 (λn42 c32 s32=>SZ127 4 (λn43 c33 s33=>SZ0 n42 n43 c32 s32 c33 s33 (λn44 c34 s34=>SZ19 n41 n44 c31 s31 c34 s34 (λn45=>k0 (decide (n45<=0)))))))) (k0 true))) (SZ26 anu ann (λn46=>cond ((decide (n46<=0))==false) (SZ23 am3 am3 anu ann (λn47 c35 s35=>SZ0 x y b b_1 b_2 b_3 (λn48 c36 s36=>SZ127 4 (λn49 c37 s37=>SZ0 n48 n49 c36 s36 c37 s37 (λn50 c38 s38=>SZ19 n47 n50 c35 s35 c38 s38 (λn51=>k0 (decide (n51<=0)))))))) (k0 true))) (λane anG s6=>SZ26 anG s6 (λn52=>cond ((decide (n52<=0))==false) (SZ23 ane ane anG s6 (λn53 c39 s39=>SZ0 x y b b_1 b_2 b_3 (λn54 c40 s40=>SZ127 4 (λn55 c41 s41=>SZ0 n54 n55 c40 s40 c41 s41 (λn56 c42 s42=>SZ19 n53 n56 c39 s39 c42 s42 (λn57=>k0 (decide (n57<=0)))))))) (k0 true))))))
def abE (N:Nat):zO:=adx N (sZ1 N) (la N) (nG N) (O3 N) (sZ0 N) (DS N) (Gj N)
abbrev zI:=Int->Int->Bool->Int->Bool->LI->Bool->LI->Bool->LI->(Kz0)->Bool
def YU (N:Nat) (SZ171:tt) (SZ0:mK) (SZ33:zP) (SZ32:zO) (x y:Int) (apart:Bool) (all:Int) (b:Bool) (b_1:LI) (b_2:Bool) (b_3:LI) (b_4:Bool) (b_5:LI) (k0:Kz0):Bool:=
 (SZ171 (-76) (λcr nsr=>SZ0 all (-76) b_4 b_5 cr nsr (λnr am1 am2=>cond apart (SZ33 x y nr b b_1 b_2 b_3 am1 am2 (λanl=>k0 anl)) (SZ32 x y nr b b_1 b_2 b_3 am1 am2 (λanq=>k0 anq)))))
def abD (N:Nat):zI:=YU N (Lo N) (sZ0 N) (abF N) (abE N)
abbrev ahN:=Int->Int->Int->Int->Int->Int->(Kz0)->Bool
def Y6 (N:Nat) (SZ58:z5) (SZ57:z4) (SZ59:z6) (SZ107:sE) (SZ79:hJ) (SZ88:Ae) (SZ120:lr) (SZ44:zR) (SZ160:lE) (SZ0:mK) (SZ21:zI) (u_0 u_1 u_2 v_0 v_1 v_2:Int) (k0:Kz0):Bool:=
 (SZ58 (λcr=>cond (!cr) (k0 false) (SZ57 u_0 u_1 u_2 (λxr amO amR=>SZ57 v_0 v_1 v_2 (λamS amV amY=>SZ59 xr amO amR (λam1=>cond ((!am1)==false) (SZ59 amS amV amY (λanl=>cond ((!anl)==false) (cond ((feq xr (some 0)&&(feq amO (some 0)&&feq amR (some 0)))==false) (cond (feq amS (some 0)&&(feq amV (some 0)&&feq amY (some 0))) (k0 true) (SZ107 xr amO amR amS amV amY (λam8 am7 anb anP anN nr=>SZ79 (some 4607182418800017408) (-20) (λanO=>cond (flt (ai (some 4607182418800017408) anN) anO) (k0 true) (SZ88 xr amO amR amS amV amY (λx12 x13 x14 x15 amU=>SZ120 x12 x13 x14 x15 xr amO amR (λx16 x17 x18 am3=>cond ((amU != 0)==false) (cond (am3 != 0) (k0 false) (SZ44 x16 x17 x18 (λane anq nsr=>SZ44 amS amV amY (λanw anu am2=>SZ160 x16 (λn5 anz am6=>SZ160 x16 (λn6 anG ank=>SZ0 n5 n6 anz am6 anG ank (λn7 c7 ann=>SZ0 n7 anw c7 ann anu am2 (λn8 c8 s5=>SZ160 amS (λn9 c9 s6=>SZ160 amS (λanU c10 s7=>SZ0 n9 anU c9 s6 c10 s7 (λaoa c11 s8=>SZ0 aoa ane c11 s8 anq nsr (λanX c12 s9=>SZ0 ane anw anq nsr anu am2 (λn13 c13 s10=>SZ21 n8 anX ((flt x16 (some 0)) != (flt amS (some 0))) n13 c8 s5 c12 s9 c13 s10 (λc14=>cond (!c14) (k0 false) (SZ160 x17 (λn14 c15 s11=>SZ160 x17 (λn15 c16 s12=>SZ0 n14 n15 c15 s11 c16 s12 (λn16 c17 s13=>SZ0 n16 anw c17 s13 anu am2 (λn17 c18 s14=>SZ160 amV (λn18 c19 s15=>SZ160 amV (λn19 aoY s16=>SZ0 n18 n19 c19 s15 aoY s16 (λaoA c21 s17=>SZ0 aoA ane c21 s17 anq nsr (λaoB aoZ s18=>SZ0 ane anw anq nsr anu am2 (λaoC c23 s19=>SZ21 n17 aoB ((flt x17 (some 0)) != (flt amV (some 0))) aoC c18 s14 aoZ s18 c23 s19 (λc24=>cond (!c24) (k0 false) (SZ160 x18 (λn23 c25 s20=>SZ160 x18 (λn24 ao0 s21=>SZ0 n23 n24 c25 s20 ao0 s21 (λn25 c27 s22=>SZ0 n25 anw c27 s22 anu am2 (λn26 c28 s23=>SZ160 amY (λn27 c29 s24=>SZ160 amY (λn28 c30 s25=>SZ0 n27 n28 c29 s24 c30 s25 (λn29 c31 aoD=>SZ0 n29 ane c31 aoD anq nsr (λn30 c32 s27=>SZ0 ane anw anq nsr anu am2 (λn31 c33 s28=>SZ21 n26 n30 ((flt x18 (some 0)) != (flt amY (some 0))) n31 c28 s23 c32 s27 c33 s28 (λc34=>cond (!c34) (k0 false) (k0 true))))))))))))))))))))))))))))))))))))) (k0 false)))))))) (k0 true)) (k0 true))) (k0 true)))))))
def aha (N:Nat):ahN:=Y6 (N+24) (ag_ N) (ag9 N) (abI N) (DP N) (pZ N) (UM N) (A4 N) (abH N) (rO N) (sZ0 N) (abD N)
end Go.Proofs.YtadejnnigmcpdaaGreatDoor
