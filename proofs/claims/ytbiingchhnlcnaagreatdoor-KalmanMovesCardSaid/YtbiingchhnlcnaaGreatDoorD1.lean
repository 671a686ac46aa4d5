/- Laws in plain Lean. Conditions: none. -/
import Derived.Test.YtbiingchhnlcnaaGreatDoorC2
set_option linter.defProp false
set_option linter.unusedVariables false
section
namespace Go.Proofs.YtbiingchhnlcnaaGreatDoor
open Go Go.Mach
def oc:∀(i V:Nat),(aj V).getD i 0=((V / 4294967296 ^ i%4294967296:Nat):Int)
 | i,V=>by
  by_cases h:V=0
  ·subst h; rw[aV]; simp
  ·rw[cd h];cases i with
   | zero=>simp
   | succ i=>
    show(aj (V / 4294967296)).getD i 0=_;rw[oc i (V / 4294967296),ak2,akT,<- akY]
def JT {V w:Nat} (h:V / 4294967296 ^ w ≠ 0):w<(aj V).length:=by
 rcases alQ w (aj V).length with h1 | h1
 ·exact h1
 ·exfalso;have h2:=eE (aZ V);rw[aJ]at h2;exact h (alm (ak_ h2 (ak6 (by decide) h1)))
def uK {n:Nat} (h0:n ≠ 0) (h:n<4294967296):aj n=[(n:Int)]:=by rw[cd h0,alm h,aV,ak0 h]
def GY (Q n m:Nat) (h:m<n):(List.replicate (m+1) (0:Int)++(dl Q n).drop (m+1)).set m ((Q / 4294967296 ^ m%4294967296:Nat):Int)=List.replicate m 0++(dl Q n).drop m:=by rw[amr,ak8,List.singleton_append,aY _ _ _ _ _ (by simp),cN (n:=m) (by rw[am]; exact h),uL Q h]
def B0 {A d:Nat} (hd:0<d):(A / 4294967296%d*4294967296+A%4294967296)%d=A%d/\(A / 4294967296%d*4294967296+A%4294967296) / d=A / d%4294967296:=by
 have h1:=alM A 4294967296;have h2:=alM (A / 4294967296) d;have h3:=ak5 (A / 4294967296) hd;have h4:A%4294967296<4294967296:=ak5 _ (by decide);obtain⟨a,ha⟩:∃ a,a=A / 4294967296:=⟨_,rfl⟩
 obtain⟨e,he⟩:∃ e,e=A%4294967296:=⟨_,rfl⟩
 rw[<- ha]at h1 h2 h3 ⊢;rw[<- he]at h1 h4 ⊢;obtain⟨c,hc⟩:∃ c,c=a / d:=⟨_,rfl⟩
 obtain⟨r,hr⟩:∃ r,r=a%d:=⟨_,rfl⟩
 rw[<- hc,<- hr]at h2;rw[<- hr]at h3 ⊢;have h5:A=d*(c*4294967296)+(r*4294967296+e):=by rw[<- h1,<- h2,<- ak1,ak7,akT 4294967296,akT 4294967296]; omega
 constructor
 ·rw[h5,am2]
 ·rw[h5,anQ hd,akT c,am2];refine(ak0 ?_).symm;rw[akZ hd];have:=akU 4294967296 h3;rw[amo]at this;rw[akT _ d,akT d];rw[akT d]at this;omega
def iT (x:Nat):x<4294967296 ^ (aj x).length:=by have:=eE (aZ x); rwa [aJ]at this
def W2 (c:List Int) (m:Nat):aE (c.take (m+3))=aE (c.take m)+4294967296 ^ m*((c.getD m 0).toNat+4294967296*((c.getD (m+2) 0).toNat*4294967296+(c.getD (m+1) 0).toNat)):=by rw[show m+3=m+2+1 by omega,aO,show m+2=m+1+1 by omega,aO,aO];simp only[ak2];generalize 4294967296 ^ m=P;grind
def W1 (c:List Int) (m:Nat):aE (c.take (m+2))=aE (c.take m)+4294967296 ^ m*((c.getD m 0).toNat+4294967296*(c.getD (m+1) 0).toNat):=by rw[show m+2=m+1+1 by omega,aO,aO];simp only[ak2];generalize 4294967296 ^ m=P;grind
def Hu {b:List Int} {o i:Nat} (D:Nat) (h:o+i<=b.length):(b.take o++(dl D i++b.drop (o+i))).length=b.length:=by simp[am]; omega
def Ht {b:List Int} {o i:Nat} (D:Nat) (h:o+i<b.length):(b.take o++(dl D i++b.drop (o+i))).getD (o+i) 0=b.getD (o+i) 0:=by rw[<- ak8,cN h,bP (by simp[am]; omega)]
def Cm {b:List Int} {o i:Nat} (D:Nat) (h:o+i<b.length):(b.take o++(dl D i++b.drop (o+i))).set (o+i) ((D / 4294967296 ^ i%4294967296:Nat):Int)=b.take o++(dl D (i+1)++b.drop (o+(i+1))):=by rw[<- ak8,cN h,aY _ _ _ _ _ (by simp[am]; omega),dl];simp[aly]
def Hr {b:List Int} {o i n:Nat} (D E:Nat) (hi:i<=n) (h:o+n<=b.length):(b.take o++(dl E i++((dl D n).drop i++b.drop (o+n)))).length=b.length:=by simp[am]; omega
def Hq {b:List Int} {o i n:Nat} (D E:Nat) (hi:i<n) (h:o+n<=b.length):(b.take o++(dl E i++((dl D n).drop i++b.drop (o+n)))).getD (o+i) 0=((D / 4294967296 ^ i%4294967296:Nat):Int):=by rw[<- ak8,cN (n:=i) (by rw[am]; exact hi),amA,bP (by simp[am]; omega),uL D hi]
def Hs {b:List Int} {o i n:Nat} (D E:Nat) (hi:i<n) (h:o+n<=b.length):(b.take o++(dl E i++((dl D n).drop i++b.drop (o+n)))).set (o+i) ((E / 4294967296 ^ i%4294967296:Nat):Int)=b.take o++(dl E (i+1)++((dl D n).drop (i+1)++b.drop (o+n))):=by rw[<- ak8,cN (n:=i) (by rw[am]; exact hi),amA,aY _ _ _ _ _ (by simp[am]; omega),dl];simp
def JG {m:Nat} (S X:Nat):∀ n,n<=m->dl (S+4294967296 ^ m*X) n=dl S n
 | 0,_=>rfl
 | n+1,h=>by rw[dl,dl,JG S X n (by omega)];congr 3;refine mQ (R:=4294967296 ^ (m - (n+1))*X) ?_;rw[<- ak1,<- ak9,show n+1+(m - (n+1))=m by omega]
def Cf {w:List Int} {n i U Q:Nat} (hw:InW w) (hl:w.length=n+1) (hU:U=aE w) (hi:i<=n) (hQ:Q<4294967296 ^ (n+1)) :
  (((w.getD i 0).toNat+4294967296 - Q / 4294967296 ^ i%4294967296 - (if aE (w.take i)<Q%4294967296 ^ i then 1 else 0))%4294967296=(U+4294967296 ^ (n+1) - Q) / 4294967296 ^ i%4294967296)
  /\ (if (w.getD i 0).toNat<Q / 4294967296 ^ i%4294967296+(if aE (w.take i)<Q%4294967296 ^ i then 1 else 0)then 1 else 0)=(if aE (w.take (i+1))<Q%4294967296 ^ (i+1)then 1 else(0:Nat)):=by
 have hx:=hw.at (i:=i);have hA:=aO (m:=w) i;have hAl:=bc hw i;have hp:=aS i;have hBl:=ak5 Q hp;have hPs:4294967296 ^ (i+1)=4294967296 ^ i*4294967296:=ak2 ..;have hmm:Q%4294967296 ^ (i+1)=Q%4294967296 ^ i+4294967296 ^ i*(Q / 4294967296 ^ i%4294967296):=by rw[hPs,anK]
 have hyl:Q / 4294967296 ^ i%4294967296<4294967296:=ak5 _ (by decide);constructor
 ·obtain⟨R1,h1⟩:=bS w (i+1);have hW:4294967296 ^ (n+1)=4294967296 ^ i*4294967296*4294967296 ^ (n - i):=by rw[<- hPs,<- ak9,show i+1+(n - i)=n+1 by omega]
  have hq:=FO (D:=U+4294967296 ^ (n+1) - Q) (a:=U+4294967296 ^ (n+1)) (b:=Q) (x:=(w.getD i 0).toNat) (y:=Q / 4294967296 ^ i%4294967296) (R1:=R1+4294967296 ^ (n - i)) (R2:=Q / (4294967296 ^ i*4294967296)) hAl hBl rfl
   (by rw[hU,h1,hA,hW,hPs,ak7]; omega)
   (by rw[<- hmm,hPs]; exact(am1 _ _).symm)
   (by omega)
  generalize (U+4294967296 ^ (n+1) - Q) / 4294967296 ^ i=Z at *;generalize Q / 4294967296 ^ i%4294967296=y at *;generalize (w.getD i 0).toNat=x at *;generalize ((R1+4294967296 ^ (n - i):Nat):Int) - ((Q / (4294967296 ^ i*4294967296):Nat):Int)=RR at *;split at hq <;> rename_i hh <;> simp only[hh,amt,alo] <;> omega
 ·rw[hA,hmm];exact(pd _ _ _ _ _ hAl hBl).symm
def AF {D V c v i:Nat} (hc:c=(D%4294967296 ^ i+V) / 4294967296 ^ i) :
  (D%4294967296 ^ (i+1)+(V+4294967296 ^ i*v)) / 4294967296 ^ (i+1)=(D / 4294967296 ^ i%4294967296+v+c) / 4294967296 /\
  ∀ R,(D+(V+4294967296 ^ i*v+4294967296 ^ (i+1)*R)) / 4294967296 ^ i%4294967296=(D / 4294967296 ^ i%4294967296+v+c)%4294967296:=by
 have hp:=aS i;have hPs:4294967296 ^ (i+1)=4294967296 ^ i*4294967296:=ak2 ..;have hmm:D%4294967296 ^ (i+1)=D%4294967296 ^ i+4294967296 ^ i*(D / 4294967296 ^ i%4294967296):=by rw[hPs,anK]
 have e:D%4294967296 ^ (i+1)+(V+4294967296 ^ i*v)=(D%4294967296 ^ i+V)+4294967296 ^ i*(D / 4294967296 ^ i%4294967296+v):=by rw[hmm,ak7]; omega
 have e2:(D%4294967296 ^ (i+1)+(V+4294967296 ^ i*v)) / 4294967296 ^ i=D / 4294967296 ^ i%4294967296+v+c:=by rw[e,dS,<- hc]; omega
 constructor
 ·rw[hPs,<- akY,<- hPs,e2]
 ·intro R;have e3:D+(V+4294967296 ^ i*v+4294967296 ^ (i+1)*R)=(D%4294967296 ^ (i+1)+(V+4294967296 ^ i*v))+4294967296 ^ (i+1)*(D / 4294967296 ^ (i+1)+R):=by have:=am1 D (4294967296 ^ (i+1));rw[ak7]; omega
  rw[mQ e3,e2]
def Fj {D V c i:Nat} (hc:c=(D%4294967296 ^ i+V) / 4294967296 ^ i) :
  (D%4294967296 ^ (i+1)+V) / 4294967296 ^ (i+1)=(D / 4294967296 ^ i%4294967296+0+c) / 4294967296 /\
  (D+V) / 4294967296 ^ i%4294967296=(D / 4294967296 ^ i%4294967296+0+c)%4294967296:=by
 obtain⟨a1,a2⟩:=AF (v:=0) hc;have a3:=a2 0;rw[amc,aln V]at a1;rw[amc,amc,aln V]at a3;exact⟨a1,a3⟩
def Qe (n:Nat):dl n (aj n).length=aj n:=by refine List.ext_getElem (am n _) (λi h1 h2=>?_);have e1:=uL n h2;have e2:=oc i n;rw[List.getD_eq_getElem?_getD,List.getElem?_eq_getElem h1,alD]at e1;rw[List.getD_eq_getElem?_getD,List.getElem?_eq_getElem h2,alD]at e2;rw[e1,e2]
def FV {X L:Nat} (hX:X<4294967296 ^ L):∀ k,dl X (L+k)=dl X L++List.replicate k 0
 | 0=>by simp
 | k+1=>by rw[<- aly,dl,FV hX k,alm (ak_ hX (ak6 (by decide) (am_ _ _))),amr,ak8];rfl
def p_ (S:Nat):∀{m n:Nat},n<=m->(dl S m).take n=dl S n
 | 0,n,h=>by
  have:n=0:=by omega
  subst this; rfl
 | m+1,n,h=>by
  by_cases e:n=m+1
  ·subst e; rw[alc (by rw[am]; omega)]
  ·rw[dl,alT (by rw[am]; omega),p_ S (by omega)]
def Da (S a:Nat):∀ c,dl S (a+c)=dl S a++dl (S / 4294967296 ^ a) c
 | 0=>by simp[dl]
 | c+1=>by rw[<- aly,dl,Da S a c,dl,akY,<- ak9,ak8]
def AQ {V m:Nat} (h:V<4294967296 ^ m):bE (dl V m) m=(aj V).length:=by have h1:=uw (jf V m);rw[am,rn,ak0 h]at h1;rw[<- h1,alx,am];have:=kg (dl V m) m;omega
def QJ {V m:Nat} (h1:4294967296 ^ m<=V) (h2:V<4294967296 ^ (m+1)):(aj V).length=m+1:=by have a:=cl (m+1) V h2;have b:=JT (V:=V) (w:=m) (by have:=ane h1 (aS m); omega);omega
def QU {r x:Nat} (hr:r<4294967296) (hx:x<4294967296):aA .or .u64 (IntKind.wrap .u64 ((r:Int)*2 ^ 32)) (IntKind.wrap .u64 (x:Int))=((r*4294967296+x:Nat):Int):=by
 have p32:(2:Nat) ^ 32=4294967296:=by decide
 have q32:(2:Int) ^ 32=4294967296:=by decide
 have e1:IntKind.wrap .u64 ((r:Int)*2 ^ 32)=((2 ^ 32*r:Nat):Int):=by rw[q32,p32,aq]; omega
 have e2:IntKind.wrap .u64 (x:Int)=(x:Int):=by rw[aq]; omega
 rw[e1,e2,vA,cj _ _ 32 (by omega) (by omega),p32];congr 1; omega
def IE {N:Nat} {x d:Nat} (hd0:0<d) (hd:d<4294967296) (hs:fj N (aj x)) (k:List Int->Int->Bool):pG N (aj x) (d:Int) k=k (aj (x / d)) ((x%d:Nat):Int):=by
 (unfold pG; rw[ae]; unfold sM)
 obtain⟨s1,s2⟩:=hs;have hx:=iT x;generalize hn:(aj x).length=n at *;rw[aa (bT (by omega) (by omega) (by omega) (by omega)),aa akN,akW];have wd:IntKind.wrap .u64 (d:Int)=(d:Int):=by rw[aq]; omega
 have d1:(!decide ((d:Int)=0))=true:=by simp; omega
 refine aF (λi=>(((x / 4294967296 ^ (n - i)%d:Nat):Int),((n:Int) - 1 - (i:Int)),List.replicate (n - i) (0:Int)++(dl (x / d) n).drop (n - i))) n ?_ (by omega) (λi hi K=>?_) (λK=>?_)
 ·rw[amX,alm hx,Nat.zero_mod,alC (by rw[am]; omega),alp];simp
 ·obtain⟨m,hm⟩:∃ m,n - i=m+1:=⟨n - i - 1,by omega⟩
  have hm2:n - (i+1)=m:=by omega
  have ei:(n:Int) - 1 - (i:Int)=(m:Int):=by omega
  have ei2:(n:Int) - 1 - ((i+1:Nat):Int)=(m:Int) - 1:=by omega
  have hp:x / 4294967296 ^ (m+1)=x / 4294967296 ^ m / 4294967296:=by rw[ak2,akY]
  have hdg:x / d / 4294967296 ^ m%4294967296=x / 4294967296 ^ m / d%4294967296:=by rw[akY,akY,akT d]
  obtain⟨n1,n2⟩:=B0 (A:=x / 4294967296 ^ m) hd0;rw[hm,hm2,ei,ei2,hp];simp only[lH,akW,wd];have hl:(List.replicate (m+1) (0:Int)++(dl (x / d) n).drop (m+1)).length=n:=by simp[am]; omega
  have hr:=ak5 (x / 4294967296 ^ m / 4294967296) hd0;have hq:(x / 4294967296 ^ m / 4294967296%d*4294967296+x / 4294967296 ^ m%4294967296) / d<4294967296:=by rw[n2]; exact ak5 _ (by decide)
  rw[akP (by omega:(m:Int)>=0),akS,hn,aa akO,oc,aa d1,hl,aa akO,aa (akP (by omega)),aa d1,aa akN,QU (by omega) (ak5 _ (by decide))];have e1:∀ A:Nat,Int.tdiv (A:Int) (d:Int)=((A / d:Nat):Int):=λ_=>rfl
  have e2:∀ A:Nat,Int.tmod (A:Int) (d:Int)=((A%d:Nat):Int):=λ_=>rfl
  rw[e1,e2,n1,n2,<- hdg];have e3:IntKind.wrap .u32 (IntKind.wrap .u64 ((x / d / 4294967296 ^ m%4294967296:Nat):Int))=((x / d / 4294967296 ^ m%4294967296:Nat):Int):=by have:=ak5 (x / d / 4294967296 ^ m) (by decide:4294967296>0);generalize x / d / 4294967296 ^ m%4294967296=y at *;rw[aq,cU]; omega
  rw[e3,GY _ _ _ (by omega)]
 ·simp only[lH];have e0:(n:Int) - 1 - (n:Int) = -1:=by omega
  rw[e0,akQ (by omega),akR,alq,amL,amG];rw[alv,alF,amn];have hq:x / d<4294967296 ^ n:=amp (amq _ _) hx;have hr:=ak5 x hd0;have e3:IntKind.wrap .u32 ((x%d:Nat):Int)=((x%d:Nat):Int):=by rw[cU]; omega
  rw[e3,db _ (jf _ _) (by rw[am]; omega) (by rw[am]; omega) (λz=>k z ((x%d:Nat):Int)),qT hq]
def Oz (N:Nat) {x:Nat} (hx:x<4294967296) (k:Kz7):Vw N (x:Int) k=k ((32 - bl x:Nat):Int):=by unfold Vw Wa;have:=w_ (n:=x) (j:=32) (by rw[show(2:Nat) ^ 32=4294967296 by decide]; exact hx);rw[Dh N x hx,aa akN];congr 1; omega
def EL:(2:Nat) ^ 32=4294967296:=by decide
def MD {y:Nat} (h0:y ≠ 0) (hy:y<4294967296):32 - bl y<32/\2147483648<=y*2 ^ (32 - bl y)/\y*2 ^ (32 - bl y)<4294967296:=by
 have h1:=w_ (n:=y) (j:=32) (by rw[EL]; exact hy);obtain⟨h2,h3⟩:=NN h0;have h4:=yX y;have hp:0<2 ^ (32 - bl y):=ak4 _;refine⟨by omega,?_,?_⟩
 ·have:=akU (2 ^ (32 - bl y)) h3;rw[<- ak9,show bl y - 1+(32 - bl y)=31 by omega]at this;exact this
 ·have:=alG h4 hp;rw[<- ak9,show bl y+(32 - bl y)=32 by omega]at this;exact this
def II {N:Nat} (m:List Int) (hm:InW m) (n:Nat) (hn:n<4294967296) (hN:m.length+n / 32+4<N) (hs:m.length<=1099511627776) (e0:List Int->Bool) :
  af N (eh N m ((n / 32:Nat):Int) ((n%32:Nat):Int) e0) (0,List.replicate (n / 32+m.length+1) (0:Int))=e0 (dl (aE m*2 ^ n) (n / 32+m.length+1)):=by
 generalize hw:n / 32=w at *;generalize hsh:n%32=s at *;have hs32:s<32:=by omega
 have hp2:2 ^ n=4294967296 ^ w*2 ^ s:=by rw[xw,hw,hsh]
 have hs0:0<2 ^ s:=ak4 s;have hs1:2 ^ s*2 ^ (32 - s)=4294967296:=by rw[<- ak9,show s+(32 - s)=32 by omega]
 have hs2:2 ^ s<=2147483648:=by have:2 ^ s<=2 ^ 31:=ak6 (by decide) (by omega);simpa using this
 let V:=aE m*2 ^ n
 let X:=aE m*2 ^ s
 have hVX:V=4294967296 ^ w*X:=by simp only[V,X]; rw[hp2,alh]
 let T:=λi=>aE (m.take i)*2 ^ s
 let c:=λi=>T i / 4294967296 ^ i
 refine aF (N:=N) (λi=>((i:Int),dl V (w+i)++((c i:Nat):Int)::List.replicate (m.length - i) 0)) m.length ?_ (by omega) (λi hi K=>?_) (λK=>?_)
 ·congr 1;show List.replicate (w+m.length+1) (0:Int)=dl V w++((c 0:Nat):Int)::List.replicate m.length 0;rw[hVX,wk];have hc0:c 0=0:=by simp[c,T,aE]
  rw[hc0];have:w+m.length+1=w+(m.length+1):=by omega
  rw[this,<- amv,alB]; rfl
 ·have hx:=hm.at (i:=i);have hT:T (i+1)=T i+4294967296 ^ i*((m.getD i 0).toNat*2 ^ s):=by simp only[T,aO,alj,ak1]
  have hq:T (i+1) / 4294967296 ^ i=c i+(m.getD i 0).toNat*2 ^ s:=by rw[hT,dS]
  have hci:c i<2 ^ s:=by simp only[c,T];rw[akZ (aS i),akT];exact al0 (bc hm i) hs0
  have hc1:c (i+1)=(c i+(m.getD i 0).toNat*2 ^ s) / 4294967296:=by rw[<- hq]; simp only[c]; rw[ak2,akY]
  have hdig:V / 4294967296 ^ (w+i)%4294967296=(c i+(m.getD i 0).toNat*2 ^ s)%4294967296:=by rw[<- hq,hVX,ak9,<- akY,alr _ (aS w)];obtain⟨R,hR⟩:=bS m (i+1);refine mQ (R:=R*2 ^ s) ?_;simp only[X,T];rw[hR,alj,ak1]
  have hrep:List.replicate (m.length - i) (0:Int)=0::List.replicate (m.length - (i+1)) 0:=by rw[show m.length - i=(m.length - (i+1))+1 by omega,alB]
  have hdl:=am V (w+i);have ei:Int.toNat ((w:Int)+(i:Int))=w+i:=by omega
  have ei1:Int.toNat ((w:Int)+(i:Int)+1)=w+i+1:=by omega
  have emin:min s 64=s:=by omega
  simp only[eh,akW,ei,ei1,emin];rw[hrep,bP hdl.symm,aY _ _ _ _ _ hdl.symm];have et:IntKind.wrap .u64 (IntKind.wrap .u64 (m.getD i 0)*2 ^ s)=(((m.getD i 0).toNat*2 ^ s:Nat):Int):=by
   have hxs:(m.getD i 0).toNat*2 ^ s<4294967296*2147483648:=alA (by omega) hs2 (by decide);have e1:IntKind.wrap .u64 (m.getD i 0)=(((m.getD i 0).toNat:Nat):Int):=by rw[aq]; omega
   have e2:(((m.getD i 0).toNat:Nat):Int)*2 ^ s=(((m.getD i 0).toNat*2 ^ s:Nat):Int):=by simp
   rw[e1,e2,aq]; omega
  rw[et];generalize hxx:(m.getD i 0).toNat=x at *;have hx32:x<4294967296:=by omega
  have hlow:x*2 ^ s%4294967296=2 ^ s*(x%2 ^ (32 - s)):=by
   have e:x*2 ^ s%(2 ^ s*2 ^ (32 - s))=2 ^ s*(x%2 ^ (32 - s)):=by rw[akT x]; exact amB _ _ _
   rwa [hs1]at e
  have hsum:2 ^ s*(x%2 ^ (32 - s))+c i<4294967296:=by have h1:x%2 ^ (32 - s)+1<=2 ^ (32 - s):=ak5 _ (ak4 _);have h2:=akX (2 ^ s) h1;rw[hs1,ak7]at h2;omega
  have eor:aA .or .u32 ((c i:Nat):Int) (IntKind.wrap .u32 ((x*2 ^ s:Nat):Int))=((V / 4294967296 ^ (w+i)%4294967296:Nat):Int):=by
   have e1:IntKind.wrap .u32 ((x*2 ^ s:Nat):Int)=((2 ^ s*(x%2 ^ (32 - s)):Nat):Int):=by rw[<- hlow,cU]; omega
   rw[e1,rX _ _ s hci hsum,hdig];omega
  have ehi:IntKind.wrap .u32 (Int.fdiv ((x*2 ^ s:Nat):Int) (2 ^ 32))=((c (i+1):Nat):Int):=by have hxs:x*2 ^ s<4294967296*2147483648:=alA hx32 hs2 (by decide);rw[kK,cU,hc1];omega
  rw[eor,ehi];have hl1:∀(a b:Int) (ys:List Int),(dl V (w+i)++a::b::ys).length=w+i+2+ys.length:=by intro a b ys; simp[hdl]; omega
  have hset2:(dl V (w+i)++((V / 4294967296 ^ (w+i)%4294967296:Nat):Int)::0::List.replicate (m.length - (i+1)) 0).set (w+i+1) ((c (i+1):Nat):Int)=dl V (w+(i+1))++((c (i+1):Nat):Int)::List.replicate (m.length - (i+1)) 0:=by
   have:dl V (w+i)++((V / 4294967296 ^ (w+i)%4294967296:Nat):Int)::0::List.replicate (m.length - (i+1)) 0=dl V (w+(i+1))++0::List.replicate (m.length - (i+1)) 0:=by rw[<- aly,dl]; simp
   rw[this];exact aY _ _ _ _ _ (by rw[am]; omega)
  rw[hset2,hl1,hl1];simp only[amb];rw[akP (by omega:(i:Int)<m.length),akS,aa akO,aa (akP (by omega)),aa akN,aa akO,aa (akP (by omega)),aa akO,aa (akP (by omega)),
   aa akN,aa akN,aa akO,aa (akP (by omega)),aa akN]
  rfl
 ·simp only[eh];rw[akQ (by omega:¬(m.length:Int)<m.length),akR,alq,alv];have hV:V<4294967296 ^ (w+m.length+1):=by have h1:=eE hm;simp only[V];rw[hp2,ak2,ak9,alh,ak1];refine al0 ?_ (aS w);exact alA h1 (by omega) (by decide)
  have hT:T m.length=X:=by simp only[T,X]; rw[alz]
  have hend:dl V (w+m.length)++[((c m.length:Nat):Int)]=dl V (w+m.length+1):=by
   rw[dl];have:c m.length=V / 4294967296 ^ (w+m.length)%4294967296:=by simp only[c];rw[hT,hVX,ak9,<- akY,alr _ (aS w)];rw[ak0];rw[akZ (aS _),akT];have h1:=eE hm;simp only[X];exact alA h1 (by omega) (by decide)
   rw[this]
  rw[hend]
def tH {N:Nat} {m s:Nat} (hm:m ≠ 0) (hs:s<32) (hN:(aj m).length+4<N) (hl:(aj m).length<=1099511627776) (k0:Bool) (k1:Nat->List Int->Bool) :
  PH N (aj m) (s:Int) k0 k1=k1 (aj (m*2 ^ s)).length (dl (m*2 ^ s) ((aj m).length+1)):=by
 have hlp:(aj m).length ≠ 0:=by rw[cd hm]; simp
 have hV:m*2 ^ s<4294967296 ^ ((aj m).length+1):=by
  rw[ak2];have h2:2 ^ s<4294967296:=by rw[<- EL]; exact Nat.pow_lt_pow_right (by decide) hs
  exact alV (iT m) h2
 (unfold PH; rw[ae]; unfold S6)
 have e0:((((aj m).length:Nat):Int)==0)=false:=by simp; intro h; rw[h]at hlp; simp at hlp
 have ew:IntKind.wrap .u64 (Int.tdiv (s:Int) 32)=((s / 32:Nat):Int):=by rw[aq,alU (by omega)]; omega
 have es:Int.tmod (s:Int) 32=((s%32:Nat):Int):=by rw[alL (by omega)]; rfl
 have elen:Int.toNat (((s / 32:Nat):Int)+(((aj m).length:Nat):Int)+1)=s / 32+(aj m).length+1:=by omega
 rw[e0,akR,ew,es,aa akN,aa akN,aa akN,aa (bT (by omega) (by omega) (by omega) (by omega)),elen];have:=II (N:=N) (aj m) (aZ m) s (by omega) (by omega) hl (λz_1=>qs N z_1 λmr=>k1 mr z_1);rw[aJ,show s / 32=0 by omega,alk]at this;rw[show s / 32=0 by omega,alk];refine Eq.trans this ?_;rw[mo _ (by rw[am]; omega) (by rw[am]; omega),am,AQ hV]
def Lw {N:Nat} (b:List Int) (m:Nat) (hm:m<=b.length) (hN:m<N) (hs:m<9223372036854775807) (k:Kz8):ub N 0 m b k=k (bE b m):=by
 (unfold ub; rw[ae]; unfold sK)
 have key:∀ n,n<=m -> ∀ M,n<M->af M (wR N 0 b λm_4=>k m_4) n=k (bE b n):=by
  intro n;induction n with
  | zero=>
   intro _ M hM;obtain⟨M,rfl⟩:∃ m,M=m+1:=⟨M - 1,by omega⟩
   show wR N 0 b _ 0 _=_;simp only[wR,bE];rw[akQ (by omega:¬((0:Nat):Int)>0),show(false==true)=false from rfl,akR]
  | succ n ih=>
   intro hn M hM;obtain⟨M,rfl⟩:∃ m,M=m+1:=⟨M - 1,by omega⟩
   show wR N 0 b _ (n+1) (af M _)=_;have e:0+Int.toNat (((n+1:Nat):Int) - 1)=n:=by omega
   have e2:Int.toNat (((n+1:Nat):Int) - 1) - 0=n:=by omega
   simp only[wR,e,e2];rw[akP (by omega:((n+1:Nat):Int)>0),show(true==true)=true from rfl,akS,aa akN,aa akO,aa (akP (by omega)),aa akN,aa (akP (by omega)),ih (by omega) M (by omega),pg];by_cases h0:b.getD n 0=0
   ·have:(b.getD n 0==0)=true:=by simpa using h0
    rw[this,if_pos h0]; rfl
   ·have:(b.getD n 0==0)=false:=by simpa using h0
    rw[this,if_neg h0]; rfl
 exact key m (ak3 _) N hN
def Ez {N:Nat} (b:List Int) (hb:InW b) (m s:Nat) (hm:m<=b.length) (hs:s<32) (hN:m+3<N) (hms:m<=1099511627780) (k:List Int->Bool):Pw N 0 m (s:Int) b k=k (aj (aE (b.take m) / 2 ^ s)):=by
 have ew:IntKind.wrap .u64 (Int.tdiv (s:Int) 32)=0:=by rw[aq,alU (by omega)]; omega
 have es:Int.tmod (s:Int) 32=(s:Int):=by rw[alL (by omega)]; omega
 have hs0:0<2 ^ s:=ak4 _
 (unfold Pw; rw[ae]; unfold Nj)
 by_cases h0:m=0
 ·subst h0;rw[ew,am8,show aE []=0 from rfl,Nat.zero_div,aV];rfl
 ·have emin:min s 64=s:=by omega
  rw[ew,es,aa akN,akQ (by omega:¬(0:Int)>=(m:Int)),akR];have hw:InW (b.take m):=hb.take m;have hwl:(b.take m).length=m:=by rw[alx]; omega
  have hwg:∀ i,i<m->(b.take m).getD i 0=b.getD i 0:=λi hi=>uO hi
  obtain⟨X,hX⟩:∃ X,X=aE (b.take m) / 2 ^ s:=⟨_,rfl⟩
  have elen2:(m:Int) - 0=(m:Int):=by omega
  rw[elen2,aa akN,aa (bT (by omega) (by omega) (by omega) (by omega)),akW,<- hX];refine aF (λi=>((i:Int),dl X i++List.replicate (m - i) 0)) m (by simp[dl]) (by omega) (λi hi K=>?_) (λK=>?_)
  ·have hx:=hw.at (i:=i);have hy:=hw.at (i:=i+1);have hset:=AZ X i m (by omega);have hl:(dl X i++List.replicate (m - i) (0:Int)).length=m:=by simp[am]; omega
   obtain⟨R,hR⟩:=C9 hw i;have hdig:X / 4294967296 ^ i%4294967296=(((b.take m).getD i 0).toNat+4294967296*((b.take m).getD (i+1) 0).toNat) / 2 ^ s%4294967296:=by
    rw[hX,akY,akT (2 ^ s),<- akY,hR];have e2:4294967296*4294967296*R=2 ^ s*(4294967296*(2 ^ (32 - s)*R)):=by
     have hs1:2 ^ s*2 ^ (32 - s)=4294967296:=by rw[<- ak9,show s+(32 - s)=32 by omega]
     rw[alh (2 ^ s),<- ak1 (2 ^ s),hs1,ak1]
    rw[e2,alO _ _ hs0,al8]
   have hfin:∀ z:Int,z=((((b.take m).getD i 0).toNat+4294967296*((b.take m).getD (i+1) 0).toNat:Nat):Int)->IntKind.wrap .u32 (Int.fdiv z (2 ^ s))=((X / 4294967296 ^ i%4294967296:Nat):Int):=by
    intro z hz;have e:(2:Int) ^ s=((2 ^ s:Nat):Int):=by simp
    rw[hdig,hz,e,amk _ (by omega),cU];rfl
   have ea:(0:Int)+(i:Int)=(i:Int):=by omega
   have ei:0+Int.toNat (i:Int)=i:=by omega
   have ei1:Int.toNat ((i:Int)+1)=i+1:=by omega
   simp only[iN,ea,ei1,akW,alk,emin,hl];rw[akP (by omega:(i:Int)<m),akS,aa akN,aa akO,aa (akP (by omega)),aa akN,aa akN];rw[<- hwg i hi];by_cases hlast:i+1<m
   ·rw[<- hwg (i+1) hlast];rw[akP (by omega:(i:Int)+1<m),akS,aa akN,aa akN,aa akO,aa (akP (by omega)),aa (akP (by omega)),aa akO,aa (akP (by omega)),aa akN];have e1:IntKind.wrap .u64 ((b.take m).getD i 0)=((((b.take m).getD i 0).toNat:Nat):Int):=by rw[aq]; omega
    have e2:IntKind.wrap .u64 (IntKind.wrap .u64 ((b.take m).getD (i+1) 0)*2 ^ 32)=((2 ^ 32*((b.take m).getD (i+1) 0).toNat:Nat):Int):=by
     have:(2:Int) ^ 32=4294967296:=by decide
     have:(2:Nat) ^ 32=4294967296:=by decide
     rw[aq,aq]; omega
    have p32:(2:Nat) ^ 32=4294967296:=by decide
    rw[e1,e2,cj _ _ 32 (by omega) (by omega),hfin _ (by omega),hset,kZ]
   ·rw[akQ (by omega:¬(i:Int)+1<m),akR,aa (akP (by omega)),aa akO,aa (akP (by omega)),aa akN];have hz:(b.take m).getD (i+1) 0=0:=dT (by omega);have e1:IntKind.wrap .u64 ((b.take m).getD i 0)=((((b.take m).getD i 0).toNat:Nat):Int):=by rw[aq]; omega
    rw[e1,hfin _ (by rw[hz]; simp),hset,kZ]
  ·simp only[iN];have hl:(dl X m++List.replicate (m - m) (0:Int)).length=m:=by simp[am]
   rw[akQ (by omega:¬(m:Int)<(((dl X m++List.replicate (m - m) (0:Int)).length:Nat):Int)),akR,alq,alv,alp];have hXl:X<4294967296 ^ m:=by have h1:=eE hw;rw[hwl]at h1;rw[hX];exact amp (amq _ _) h1
   rw[db _ (jf X m) (by rw[am]; omega) (by rw[am]; omega),qT hXl]
def Vf {A B r u0:Nat} (h:r*4294967296+u0<A):B+r*4294967296+u0<B+A:=by omega
def Ej {N:Nat} {s5:Int} {ul j n u0 v0 v1 T d:Nat} {b c ql:List Int} (hn:2<=n) (hc1:c.getD (n - 2) 0=(v0:Int)) (hb:b.getD (j+n - 2) 0=(u0:Int)) (hcl:n<=c.length) (hul:j+n<ul) (hbl:ul<=b.length) (hbs:b.length<=1099511627780)
  (hv0:v0<4294967296) (hv1:v1<4294967296) (hu0:u0<4294967296) (hTl:T<4294967296*v1+4294967296) (hd:∀ g,T*4294967296+u0<g*(v1*4294967296+v0)->d<g) (hdW:d<4294967296) :
  ∀ g r M,g<M->g<=4294967299->g*v1+r=T->r<4294967296->d<=g ->
   ∃ q,d<=q/\q<4294967296/\q*(v1*4294967296+v0)<=T*4294967296+u0 /\ ∀ e0,af M (pS N s5 n ul (n:Int) (v1:Int) (j:Int) c b ql e0) ((g:Int),(r:Int))=e0 (q:Int):=by
 intro g;induction g using Nat.strongRecOn with
 | ind g ih=>
 intro r M hM hgb hT hr hdg;obtain⟨M,rfl⟩:∃ m,M=m+1:=⟨M - 1,by omega⟩
 have i2:0+Int.toNat ((n:Int) - 2)=n - 2:=by omega
 have j2:0+Int.toNat ((j:Int)+(n:Int) - 2)=j+n - 2:=by omega
 have dec:∀ p,g=p+1->d<=p -> ∃ q,d<=q/\q<4294967296/\q*(v1*4294967296+v0)<=T*4294967296+u0 /\ ∀ e0,cond (decide ((IntKind.wrap .u64 ((r:Int)+(v1:Int)))>=4294967296)) (e0 (IntKind.wrap .u64 ((g:Int) - 1))) (af M (pS N s5 n ul (n:Int) (v1:Int) (j:Int) c b ql e0) ((IntKind.wrap .u64 ((g:Int) - 1)),(IntKind.wrap .u64 ((r:Int)+(v1:Int)))))=e0 (q:Int):=by
  intro p hp hdp;subst hp;have w1:IntKind.wrap .u64 (((p+1:Nat):Int) - 1)=(p:Int):=Hv p (by omega);have w2:IntKind.wrap .u64 ((r:Int)+(v1:Int))=((r+v1:Nat):Int):=by rw[aq]; omega
  rw[w1,w2];by_cases hb2:4294967296<=r+v1
  ·have hpl:p<4294967296:=by
    rcases alQ p 4294967296 with h | h
    ·exact h
    ·exfalso;have:=akU v1 h;rw[amo]at hT;omega
   refine⟨p,hdp,hpl,Bb hv0 (by omega) hT hb2,λe0=>?_⟩;rw[akP (by omega),akS]
  ·obtain⟨q,q1,q2,q3,q4⟩:=ih p (by omega) (r+v1) M (by omega) (by omega) (by rw[<- hT,amo]; omega) (by omega) hdp;exact⟨q,q1,q2,q3,λe0=>by rw[akQ (by omega),akR]; exact q4 e0⟩
 by_cases hg:4294967296<=g
 ·obtain⟨q,q1,q2,q3,q4⟩:=dec (g - 1) (by omega) (by omega);refine⟨q,q1,q2,q3,λe0=>?_⟩;show pS N s5 n ul (n:Int) (v1:Int) (j:Int) c b ql e0 (_,_) (af M _)=_;simp only[pS];rw[akP (by omega:(g:Int)>=4294967296),show(true==false)=false from rfl,akR];exact q4 e0
 ·have hgv:g*v0<=4294967295*4294967295:=alJ (by omega) (by omega);have wv0:IntKind.wrap .u64 (v0:Int)=(v0:Int):=by rw[aq]; omega
  have wgv:IntKind.wrap .u64 ((g:Int)*(v0:Int))=((g*v0:Nat):Int):=by rw[<- alb,aq]; omega
  have e1:T*4294967296+u0=g*v1*4294967296+r*4294967296+u0:=by rw[<- hT,alj]
  have e2:g*(v1*4294967296+v0)=g*v1*4294967296+g*v0:=by rw[ak7,ak1]
  have body:∀ e0:Int->Bool,af (M+1) (pS N s5 n ul (n:Int) (v1:Int) (j:Int) c b ql e0) ((g:Int),(r:Int))=cond (decide (((g*v0:Nat):Int)>((r*4294967296+u0:Nat):Int))) (cond (decide ((IntKind.wrap .u64 ((r:Int)+(v1:Int)))>=4294967296)) (e0 (IntKind.wrap .u64 ((g:Int) - 1))) (af M (pS N s5 n ul (n:Int) (v1:Int) (j:Int) c b ql e0) ((IntKind.wrap .u64 ((g:Int) - 1)),(IntKind.wrap .u64 ((r:Int)+(v1:Int)))))) (e0 (g:Int)):=by intro e0;show pS N s5 n ul (n:Int) (v1:Int) (j:Int) c b ql e0 (_,_) (af M _)=_;simp only[pS,i2,j2,hc1,hb,wv0,wgv];rw[akQ (by omega:¬(g:Int)>=4294967296),show(false==false)=true from rfl,akS,aa akN,aa akO,aa (akP (by omega)),aa akN,aa akN,aa akO,aa (akP (by omega)),QU hr hu0]
  by_cases ht:r*4294967296+u0<g*v0
  ·have hlt1:g*v1*4294967296+r*4294967296+u0<g*v1*4294967296+g*v0:=Vf ht;have hlt:d<g:=hd g (amp (amZ e1) (ak_ hlt1 (amZ e2.symm)));obtain⟨q,q1,q2,q3,q4⟩:=dec (g - 1) (by omega) (by omega);exact⟨q,q1,q2,q3,λe0=>by rw[body,akP (by omega),akS]; exact q4 e0⟩
  ·exact⟨g,hdg,by omega,alf (amZ e2) (alf (by omega) (amZ e1.symm)),λe0=>by rw[body,akQ (by omega),akR]⟩
def LA {N:Nat} {j n ul g U V:Nat} {b c:List Int} (hN:n<N) (hb:InW b) (hc:InW c) (hcl:n<=c.length) (hul:j+n<ul) (hbl:ul<=b.length) (hbs:b.length<=1099511627780) (hg:g<4294967296) (hU:U=aE ((b.drop j).take (n+1))) (hV:V=aE (c.take n)) (k:Ky5) :
  Po N 0 ul 0 n (j:Int) (g:Int) b c k=k (decide (U<g*V)) (b.take j++(dl (U+4294967296 ^ (n+1) - g*V) (n+1)++b.drop (j+(n+1)))):=by
 (unfold Po; rw[ae]; unfold M8)
 have hw:InW ((b.drop j).take (n+1)):=(hb.drop j).take _;have hwl:((b.drop j).take (n+1)).length=n+1:=by rw[alx,ams]; omega
 have hwg:∀ i,i<=n->((b.drop j).take (n+1)).getD i 0=b.getD (j+i) 0:=λi hi=>by rw[uO (by omega),kh]
 generalize (b.drop j).take (n+1)=w at *;have hVl:V<4294967296 ^ n:=by rw[hV]; exact bc hc n
 have hgV:g*V<4294967296 ^ (n+1):=by rw[ak2,akT];exact alV hVl hg
 obtain⟨D,hD⟩:∃ D,D=U+4294967296 ^ (n+1) - g*V:=⟨_,rfl⟩
 obtain⟨Q,hQ⟩:∃ Q,Q=g*V:=⟨_,rfl⟩
 have hQW:Q<4294967296 ^ (n+1):=by rw[hQ]; exact hgV
 rw[<- hD];refine aF (λi=>(((g*aE (c.take i) / 4294967296 ^ i:Nat):Int),((if aE (w.take i)<Q%4294967296 ^ i then 1 else 0:Nat):Int),(i:Int),b.take j++(dl D i++b.drop (j+i)))) n ?_ (by omega) (λi hi K=>?_) (λK=>?_)
 ·simp[dl,aE,anJ]
 ·have hx:=hb.at (i:=j+i);have hy:=hc.at (i:=i);have hcv:=aO (m:=c) i;have hp:=aS i;have hVi:=bc hc i;obtain⟨s1,s2⟩:=Cf hw hwl hU (by omega:i<=n) hQW;rw[hwg i (by omega)]at s1 s2;rw[hQ,<- hD,<- hQ]at s1;obtain⟨cy,hcy⟩:∃ cy,cy=g*aE (c.take i) / 4294967296 ^ i:=⟨_,rfl⟩
  have hcyl:cy<4294967296:=by rw[hcy,akZ hp];exact alV hg hVi
  have e1:g*aE (c.take (i+1))=g*aE (c.take i)+4294967296 ^ i*(g*(c.getD i 0).toNat):=by rw[hcv,ak7,alh g]
  have ecy:g*aE (c.take (i+1)) / 4294967296 ^ (i+1)=(g*(c.getD i 0).toNat+cy) / 4294967296:=by rw[ak2,<- akY,e1,dS,<- hcy];congr 1; omega
  obtain⟨R,hR⟩:=bS (c.take n) (i+1);rw[anX,amh (by omega),<- hV]at hR;have elo:Q / 4294967296 ^ i%4294967296=(g*(c.getD i 0).toNat+cy)%4294967296:=by
   have:Q=g*aE (c.take (i+1))+4294967296 ^ (i+1)*(g*R):=by rw[hQ,hR,ak7,alh g]
   rw[mQ this,e1,dS,<- hcy];congr 1; omega
  rw[elo]at s1 s2;have ei:0+Int.toNat ((j:Int)+(i:Int))=j+i:=by omega
  have hgy:g*(c.getD i 0).toNat<=4294967295*4294967295:=alJ (by omega) (by omega);have wy:IntKind.wrap .u64 (c.getD i 0)=(((c.getD i 0).toNat:Nat):Int):=by rw[aq]; omega
  have wp:IntKind.wrap .u64 ((g:Int)*(((c.getD i 0).toNat:Nat):Int))=((g*(c.getD i 0).toNat:Nat):Int):=by rw[<- alb,aq]; omega
  have wpc:IntKind.wrap .u64 (((g*(c.getD i 0).toNat:Nat):Int)+(cy:Int))=((g*(c.getD i 0).toNat+cy:Nat):Int):=by rw[aq]; omega
  have wx:IntKind.wrap .u64 (b.getD (j+i) 0)=(((b.getD (j+i) 0).toNat:Nat):Int):=by rw[aq]; omega
  have hcf:Int.fdiv ((g*(c.getD i 0).toNat+cy:Nat):Int) (2 ^ 32)=((g*aE (c.take (i+1)) / 4294967296 ^ (i+1):Nat):Int):=by rw[kK,ecy]; rfl
  simp only[gL,akW,alk];have ei':Int.toNat ((j:Int)+(i:Int))=j+i:=by omega
  rw[ei',Hu D (by omega),Ht D (by omega),akP (by omega:(i:Int)<(n:Int)),akS,aa akO,aa (akP (by omega)),aa akN,aa akO,aa (akP (by omega)),<- hcy,wy,wp,wpc,wx,Fp,hcf];generalize (g*(c.getD i 0).toNat+cy)%4294967296=lo at *;have hlo:lo<4294967296:=by rw[<- elo]; exact ak5 _ (by decide)
  obtain⟨bo,hbo⟩:∃ bo:Nat,bo=if aE (w.take i)<Q%4294967296 ^ i then 1 else 0:=⟨_,rfl⟩
  have hbo1:bo<=1:=by rw[hbo]; split <;> omega
  rw[<- hbo]at s1 s2 ⊢;obtain⟨x,hxe⟩:∃ x,x=(b.getD (j+i) 0).toNat:=⟨_,rfl⟩
  rw[<- hxe]at s1 s2 ⊢;have hxl:x<4294967296:=by omega
  have wlb:IntKind.wrap .u64 ((lo:Int)+(bo:Int))=((lo+bo:Nat):Int):=by rw[aq]; omega
  rw[wlb];by_cases hlt:x<lo+bo
  ·rw[if_pos hlt]at s2;have wv:IntKind.wrap .u32 (IntKind.wrap .u64 (IntKind.wrap .u64 ((x:Int)+4294967296) - ((lo+bo:Nat):Int)))=((D / 4294967296 ^ i%4294967296:Nat):Int):=by rw[<- s1,aq,aq,cU]; omega
   rw[akP (by omega),akS,wv,aa akN,aa akO,aa (akP (by omega)),aa akN,Cm D (by omega),<- s2,kZ];rfl
  ·rw[if_neg hlt]at s2;have wv:IntKind.wrap .u32 (IntKind.wrap .u64 ((x:Int) - ((lo+bo:Nat):Int)))=((D / 4294967296 ^ i%4294967296:Nat):Int):=by rw[<- s1,aq,cU]; omega
   rw[akQ (by omega),akR,wv,aa akN,aa akO,aa (akP (by omega)),aa akN,Cm D (by omega),<- s2,kZ];rfl
 ·have hx:=hb.at (i:=j+n);obtain⟨s1,s2⟩:=Cf hw hwl hU (ak3 n) hQW;rw[hwg n (by omega)]at s1 s2;rw[hQ,<- hD,<- hQ]at s1;have hql:Q / 4294967296 ^ n<4294967296:=by rw[akZ (aS n),akT,<- ak2]; exact hQW
  rw[ak0 hql]at s1 s2;have hwt:w.take (n+1)=w:=alc (by omega);rw[hwt,<- hU,ak0 hQW]at s2;simp only[gL];have ei':0+Int.toNat ((j:Int)+(n:Int))=j+n:=by omega
  rw[akQ (by omega:¬(n:Int)<(n:Int)),akR,<- hV,<- hQ];rw[ei',Hu D (by omega),Ht D (by omega),aa akN,aa akO,aa (akP (by omega)),aa akN,aa akO,aa (akP (by omega))];obtain⟨y,hy⟩:∃ y,y=Q / 4294967296 ^ n:=⟨_,rfl⟩
  rw[<- hy]at s1 s2 hql ⊢;obtain⟨bo,hbo⟩:∃ bo:Nat,bo=if aE (w.take n)<Q%4294967296 ^ n then 1 else 0:=⟨_,rfl⟩
  have hbo1:bo<=1:=by rw[hbo]; split <;> omega
  rw[<- hbo]at s1 s2 ⊢;have wx:IntKind.wrap .u64 (b.getD (j+n) 0)=(((b.getD (j+n) 0).toNat:Nat):Int):=by rw[aq]; omega
  rw[wx];obtain⟨x,hxe⟩:∃ x,x=(b.getD (j+n) 0).toNat:=⟨_,rfl⟩
  rw[<- hxe]at s1 s2 ⊢;have hxl:x<4294967296:=by omega
  have wlb:IntKind.wrap .u64 ((y:Int)+(bo:Int))=((y+bo:Nat):Int):=by rw[aq]; omega
  have wv:IntKind.wrap .u32 (IntKind.wrap .u64 ((x:Int) - ((y+bo:Nat):Int)))=((D / 4294967296 ^ n%4294967296:Nat):Int):=by rw[<- s1,aq,cU]; omega
  rw[wlb,wv,Cm D (by omega)];have hdec:decide ((x:Int)<((y+bo:Nat):Int))=decide (U<Q):=by
   by_cases h1:U<Q
   ·rw[if_pos h1]at s2;rw[akP h1];refine akP ?_;split at s2 <;> omega
   ·rw[if_neg h1]at s2;rw[akQ h1];refine akQ ?_;split at s2 <;> omega
  rw[hdec]
def LD {N:Nat} {j n ul D V:Nat} {b c:List Int} (hN:n<N) (hc:InW c) (hcl:n<=c.length) (hul:j+n<ul) (hbl:ul<=b.length) (hbs:b.length<=1099511627780) (hV:V=aE (c.take n)) (k:List Int->Bool) :
  Pp N 0 ul 0 n (j:Int) (b.take j++(dl D (n+1)++b.drop (j+(n+1)))) c k=k (b.take j++(dl (D+V) (n+1)++b.drop (j+(n+1)))):=by
 (unfold Pp; rw[ae]; unfold M9)
 obtain⟨E,hE⟩:∃ E,E=D+V:=⟨_,rfl⟩
 rw[<- hE];refine aF (λi=>((((D%4294967296 ^ i+aE (c.take i)) / 4294967296 ^ i:Nat):Int),(i:Int),b.take j++(dl E i++((dl D (n+1)).drop i++b.drop (j+(n+1)))))) n ?_ (by omega) (λi hi K=>?_) (λK=>?_)
 ·simp[dl,aE,anJ]
 ·have hx:=hc.at (i:=i);have hcv:=aO (m:=c) i;have hVl:=bc hc i;have hp:=aS i;have hml:=ak5 D hp;obtain⟨cy,hcy⟩:∃ cy,cy=(D%4294967296 ^ i+aE (c.take i)) / 4294967296 ^ i:=⟨_,rfl⟩
  have hcl1:cy<=1:=by
   have:cy<2:=by rw[hcy,akZ hp]; omega
   omega
  obtain⟨a1,a2⟩:=AF (D:=D) (V:=aE (c.take i)) (v:=(c.getD i 0).toNat) hcy;obtain⟨R,hR⟩:=bS (c.take n) (i+1);rw[anX,amh (by omega),<- hV,hcv]at hR;have a3:=a2 R;rw[<- hR,<- hE]at a3;have hdl:D / 4294967296 ^ i%4294967296<4294967296:=ak5 _ (by decide);have ei':Int.toNat ((j:Int)+(i:Int))=j+i:=by omega
  simp only[gM,akW,alk,ei'];rw[Hr D E (by omega) (by omega),Hq D E (by omega) (by omega)];have wy:IntKind.wrap .u64 (c.getD i 0)=(((c.getD i 0).toNat:Nat):Int):=by rw[aq]; omega
  obtain⟨dg,hdg⟩:∃ dg,dg=D / 4294967296 ^ i%4294967296:=⟨_,rfl⟩
  rw[<- hdg]at a1 a3 hdl ⊢;have ws:IntKind.wrap .u64 (IntKind.wrap .u64 (IntKind.wrap .u64 (dg:Int)+(((c.getD i 0).toNat:Nat):Int))+(cy:Int))=((dg+(c.getD i 0).toNat+cy:Nat):Int):=by rw[aq,aq,aq]; omega
  have wf:Int.fdiv ((dg+(c.getD i 0).toNat+cy:Nat):Int) (2 ^ 32)=(((D%4294967296 ^ (i+1)+aE (c.take (i+1))) / 4294967296 ^ (i+1):Nat):Int):=by rw[hcv,a1,kK]; rfl
  have w3:IntKind.wrap .u32 ((dg+(c.getD i 0).toNat+cy:Nat):Int)=((E / 4294967296 ^ i%4294967296:Nat):Int):=by rw[a3,cU]; rfl
  rw[akP (by omega:(i:Int)<(n:Int)),akS,aa akN,aa akO,aa (akP (by omega)),aa akO,aa (akP (by omega)),aa akN,aa akO,aa (akP (by omega)),aa akN,<- hcy,wy,ws,wf,w3,Hs D E (by omega) (by omega),kZ]
 ·have hp:=aS n;have hml:=ak5 D hp;have hVl:V<4294967296 ^ n:=by rw[hV]; exact bc hc n
  obtain⟨cy,hcy⟩:∃ cy,cy=(D%4294967296 ^ n+V) / 4294967296 ^ n:=⟨_,rfl⟩
  have hcl1:cy<=1:=by
   have:cy<2:=by rw[hcy,akZ hp]; omega
   omega
  obtain⟨a1,a3⟩:=Fj (D:=D) (V:=V) (i:=n) hcy;rw[<- hE]at a3;have hdl:D / 4294967296 ^ n%4294967296<4294967296:=ak5 _ (by decide);have ei':0+Int.toNat ((j:Int)+(n:Int))=j+n:=by omega
  simp only[gM];rw[akQ (by omega:¬(n:Int)<(n:Int)),akR,ei',Hr D E (by omega) (by omega),Hq D E (by omega) (by omega),<- hV,<- hcy];obtain⟨dg,hdg⟩:∃ dg,dg=D / 4294967296 ^ n%4294967296:=⟨_,rfl⟩
  rw[<- hdg]at a3 hdl ⊢;have w3:IntKind.wrap .u32 ((dg:Int)+IntKind.wrap .u32 (cy:Int))=((E / 4294967296 ^ n%4294967296:Nat):Int):=by rw[a3,cU,cU]; omega
  rw[aa akN,aa akO,aa (akP (by omega)),aa akO,aa (akP (by omega)),w3,Hs D E (by omega) (by omega)];rw[alC (by rw[am]; omega),alF]
def Qy {P A B U3 V2 U V g:Nat} (hB:B<P) (hg:g*P<=V) (hU:U=A+P*U3) (hV:V=B+P*V2) (h:g*V2<=U3) (hV0:0<V):g<=U / V+1:=by
 have h1:g*B<=g*P:=akX _ (by omega);have h2:P*(g*V2)<=P*U3:=akX _ h;have h3:g*V=g*B+P*(g*V2):=by rw[hV,ak7,alh g P]
 have h4:g*V<=U+V:=by omega
 have h5:=anf U hV0;have h6:g*V<(U / V+2)*V:=by rw[show U / V+2=U / V+1+1 by omega,amo,akT (U / V+1)];omega
 have:=Nat.lt_of_mul_lt_mul_right h6;omega
def Wn {V Y Z X U Q:Nat} (h1:V<Y) (h2:Y<=Z) (h3:X<=U) (h4:X=Q*4294967296) (h5:U<V*4294967296):Q<Z:=by omega
def P_ {P A B U V T u0 v0 v1:Nat} (hA:A<P) (hB:B<P) (hU:U=A+P*(u0+4294967296*T)) (hV:V=B+P*(v0+4294967296*v1)) (hv0:v0<4294967296) (hUV:U<V*4294967296):T<4294967296*v1+4294967296:=by
 have h1:V<P*(v0+4294967296*v1+1):=by rw[hV,aoa]; omega
 have h2:P*(v0+4294967296*v1+1)<=P*(4294967296*v1+4294967296):=akX _ (by omega);have h3:P*(4294967296*T)<=U:=by rw[hU,ak7 P u0]; omega
 have h4:P*(4294967296*T)=P*T*4294967296:=by rw[akT 4294967296,ak1]
 have h5:P*T<P*(4294967296*v1+4294967296):=Wn h1 h2 h3 h4 hUV;exact am9 h5
def Le {N:Nat} (hN:5<N) {a:List Int} {s:Int} {d:Nat} {dl':List Int} {X la:Nat} (hla:a.length=la) (hX:X<4294967296 ^ (la+1)) (h1:la<=(aj X).length) (hs:la<=1099511627000) (e0:Nat->List Int->Bool) :
  af N (ut N a s d dl' e0) ((aj X).length,dl X (la+1))=e0 (la+1) (dl X (la+1)):=by
 have h2:(aj X).length<=la+1:=cl _ _ hX;have last:∀ K,ut N a s d dl' e0 (la+1,dl X (la+1)) K=e0 (la+1) (dl X (la+1)):=by intro K;simp only[ut];rw[hla,aa akN,akQ (by omega),akR]
 by_cases h:(aj X).length=la+1
 ·rw[h];exact aF (λi=>(la+1,dl X (la+1))) 0 rfl (by omega) (λi hi K=>by omega) last
 ·have hl:(aj X).length=la:=by omega
  rw[hl];refine aF (λi=>(la+i,dl X (la+1))) 1 rfl (by omega) (λi hi K=>?_) last;have:i=0:=by omega
  subst this;have e1:(dl X (la+1)).take la++[0]=dl X (la+1):=by
   rw[p_ X (by omega),dl];have:X / 4294967296 ^ la%4294967296=0:=by have:=iT X;rw[hl]at this;rw[alm this]
   rw[this]; rfl
  show ut N a s d dl' e0 (la,dl X (la+1)) K=K (la+1,dl X (la+1));simp only[ut];rw[hla,aa akN,akP (by omega),akS,aa (akP (by rw[am]; omega)),amn,e1,am,aa (akP (by omega))]
def VO {N:Nat} (hN:1180591620717411303424<=N) {n j ul V v1:Nat} {s:Int} {b ql:List Int} (hVlt:V<4294967296 ^ (n+2)) (hVge:4294967296 ^ (n+1)<=V) (hv1:v1=V / 4294967296 ^ (n+1)) (hv1lo:2147483648<=v1) (hv1hi:v1<4294967296) (hbw:InW b) (hblen:b.length=ul) (hjl:j+(n+2)<ul) (hls:ul<=1099511627700) (hjq:j<ql.length)
  (hUlt:aE ((b.drop j).take (n+2+1))<V*4294967296) (e0:List Int->List Int->Bool) (K:Int × List Int × List Int->Bool) :
  jS N s (n+2) ul ((n+2:Nat):Int) (v1:Int) (dl V (n+2+1)) e0 ((j:Int),b,ql) K
   = K ((j:Int) - 1,b.take j++(dl (aE ((b.drop j).take (n+2+1))%V) (n+2+1)++b.drop (j+(n+2+1))),ql.set j ((aE ((b.drop j).take (n+2+1)) / V:Nat):Int)):=by
 have hV0:0<V:=ak_ (aS _) hVge;have hcv:aE ((dl V (n+2+1)).take (n+2))=V:=by rw[p_ V (by omega),rn,ak0 hVlt]
 have hU3:=W2 (b.drop j) n;have hV2:=W1 (dl V (n+2+1)) n;rw[show n+3=n+2+1 by omega,kh,kh,kh]at hU3;rw[hcv]at hV2;have a0:=hbw.at (i:=j+n);have a1:=hbw.at (i:=j+(n+1));have a2:=hbw.at (i:=j+(n+2));have c0:=(jf V (n+2+1)).at (i:=n);obtain⟨u0,hu0⟩:∃ u,u=(b.getD (j+n) 0).toNat:=⟨_,rfl⟩
 obtain⟨u1,hu1⟩:∃ u,u=(b.getD (j+(n+1)) 0).toNat:=⟨_,rfl⟩
 obtain⟨u2,hu2⟩:∃ u,u=(b.getD (j+(n+2)) 0).toNat:=⟨_,rfl⟩
 obtain⟨v0,hv0⟩:∃ u,u=((dl V (n+2+1)).getD n 0).toNat:=⟨_,rfl⟩
 have q0:b.getD (j+n) 0=(u0:Int):=by omega
 have q1:b.getD (j+(n+1)) 0=(u1:Int):=by omega
 have q2:b.getD (j+(n+2)) 0=(u2:Int):=by omega
 have k0:(dl V (n+2+1)).getD n 0=(v0:Int):=by omega
 have k1:((dl V (n+2+1)).getD (n+1) 0).toNat=v1:=by rw[uL V (by omega),akW,<- hv1,ak0 hv1hi]
 rw[<- hu0,<- hu1,<- hu2]at hU3;rw[<- hv0,k1]at hV2;have hAb:=bc (hbw.drop j) n;have hBb:=bc (jf V (n+2+1)) n;have hwv:∃ U,U=aE ((b.drop j).take (n+2+1)):=⟨_,rfl⟩
 obtain⟨U,hwv⟩:=hwv;rw[<- hwv]at hU3 hUlt ⊢;have hT:=P_ hAb hBb hU3 hV2 (by omega) hUlt;have hdW:U / V<4294967296:=by rw[akZ hV0,akT]; exact hUlt
 have hv1p:0<v1:=by omega
 obtain⟨T,hTe⟩:∃ T,T=u2*4294967296+u1:=⟨_,rfl⟩
 rw[<- hTe]at hU3 hT;have hg0:T / v1<=4294967298:=by
  have:T / v1<4294967299:=by rw[akZ hv1p]; omega
  omega
 have hkb:U / V<=T / v1:=by rw[hTe]; rw[hTe]at hU3; exact JM hAb hU3 hV2 hV0 hv1p (by omega)
 obtain⟨g,p1,p2,p3,p4⟩:=Ej (N:=N) (s5:=s) (ul:=ul) (j:=j) (n:=n+2) (u0:=u0) (v0:=v0) (v1:=v1) (T:=T) (d:=U / V) (b:=b) (c:=dl V (n+2+1)) (ql:=ql) (by omega) (by rw[show n+2 - 2=n by omega]; exact k0) (by rw[show j+(n+2) - 2=j+n by omega]; exact q0) (by rw[am]; omega) (by omega) (by omega) (by omega) (by omega) hv1hi (by omega) hT
  (λg hg=>Eo hAb hU3 hV2 hV0 (by rw[amK v0,akT 4294967296 v1]; omega)) hdW
  (T / v1) (T%v1) N (by omega) (by omega) (alP _ _) (amC (ak5 _ hv1p) hv1hi) hkb
 have hgd:g<=U / V+1:=Qy hBb (by have:g*4294967296 ^ n<=4294967296*4294967296 ^ n:=akU _ (Nat.le_of_lt p2);rw[<- Nat.pow_succ']at this;exact alf this hVge) hU3 hV2 (by rw[amK v0,akT 4294967296 v1]; omega) hV0
 have hless:=λkk=>LA (N:=N) (j:=j) (n:=n+2) (ul:=ul) (g:=g) (U:=U) (V:=V) (b:=b) (c:=dl V (n+2+1)) (by omega) hbw (jf _ _) (by rw[am]; omega) (by omega) (by omega) (by omega) p2 hwv hcv.symm kk
 have jn:0+Int.toNat ((j:Int)+((n+2:Nat):Int))=j+(n+2):=by omega
 have jn1:0+Int.toNat ((j:Int)+((n+2:Nat):Int) - 1)=j+(n+1):=by omega
 have top0:(!decide ((v1:Int)=0))=true:=by simp; omega
 have wu2:IntKind.wrap .u64 (u2:Int)=(u2:Int):=by rw[aq]; omega
 have hor:aA .or .u64 (IntKind.wrap .u64 ((u2:Int)*2 ^ 32)) (IntKind.wrap .u64 (u1:Int))=(T:Int):=by rw[QU (by omega) (by omega),hTe]
 have etd:IntKind.wrap .u64 (Int.tdiv (T:Int) (v1:Int))=((T / v1:Nat):Int):=by have:Int.tdiv (T:Int) (v1:Int)=((T / v1:Nat):Int):=rfl;rw[this,aq];generalize T / v1=z at *;omega
 have etm:Int.tmod (T:Int) (v1:Int)=((T%v1:Nat):Int):=rfl;have hfin:dl (U+4294967296 ^ (n+2+1) - U / V*V) (n+2+1)=dl (U%V) (n+2+1):=by
  have e:U+4294967296 ^ (n+2+1) - (U / V)*V=U%V+4294967296 ^ (n+2+1)*1:=by have:=alP U V;omega
  rw[e,JG _ _ _ (ak3 _)]
 have hgV:g*V<4294967296 ^ (n+2+1):=by rw[ak2,akT];exact alV hVlt p2
 simp only[jS,jn,jn1,q1,q2,wu2,hor,etd,etm];rw[akP (by omega:(j:Int)>=0),akS,aa akN,aa akO,aa (akP (by omega)),aa akN,aa akN,aa akO,aa (akP (by omega)),aa top0,aa top0,p4,hless];by_cases hlt:U<g*V
 ·have hge:g=U / V+1:=by
   have:U / V<g:=by
    rcases alQ (U / V) g with h | h
    ·exact h
    ·have:=(amx hV0).1 h; omega
   omega
  have hmore:=λkk=>LD (N:=N) (j:=j) (n:=n+2) (ul:=ul) (D:=U+4294967296 ^ (n+2+1) - g*V) (V:=V) (b:=b) (c:=dl V (n+2+1)) (by omega) (jf _ _) (by rw[am]; omega) (by omega) (by omega) (by omega) hcv.symm kk
  have hD:U+4294967296 ^ (n+2+1) - g*V+V=U+4294967296 ^ (n+2+1) - U / V*V:=by
   have:g*V=U / V*V+V:=by rw[hge,amo]
   omega
  have wg:IntKind.wrap .u32 (IntKind.wrap .u64 ((g:Int) - 1))=((U / V:Nat):Int):=by rw[hge];generalize U / V=z at *;rw[aq,cU]; omega
  rw[akP hlt,akS,hmore,hD,hfin,aa akO,aa (akP (by omega)),aa akN,akW,wg]
 ·have hge:g=U / V:=by have:=(amx hV0).2 (Nat.le_of_not_lt hlt);omega
  have wg:IntKind.wrap .u32 (g:Int)=((U / V:Nat):Int):=by rw[hge];generalize U / V=z at *;rw[cU]; omega
  rw[akQ hlt,akR,wg,hge,hfin,aa akO,aa (akP (by omega)),aa akN,akW]
def BB {N:Nat} (hN:1180591620717411303424<=N) {x y:Nat} (hxy:y<=x) (hy2:2<=(aj y).length) (hxl:(aj x).length<=1099511627000) (k:Kz5) :
  yv N (aj x) (aj y) k=k (aj (x / y)) (aj (x%y)):=by
 have hy0:y ≠ 0:=by intro h; rw[h,aV]at hy2; simp at hy2
 have hyx:=bO hxy;have hylt:=iT y;have hxlt:=iT x;have hylo:4294967296 ^ ((aj y).length - 1)<=y:=by
  rcases alQ y (4294967296 ^ ((aj y).length - 1))with h | h
  ·have:=cl _ _ h; omega
  ·exact h
 (unfold yv; rw[ae]; unfold Nv)
 rw[kn x y ⟨by omega,by omega⟩ ⟨by omega,by omega⟩];have hc:decide (dw x y<0)=false:=by unfold dw; rw[if_neg (by omega)]; split <;> rfl
 obtain⟨n,hn⟩:∃ n,(aj y).length=n+2:=⟨(aj y).length - 2,by omega⟩
 obtain⟨lx,hlx⟩:∃ lx,(aj x).length=lx:=⟨_,rfl⟩
 have htd:(aj y).getD (n+1) 0=((y / 4294967296 ^ (n+1):Nat):Int):=by rw[oc,ak0];rw[akZ (aS _),akT,<- ak2];rw[hn]at hylt; exact hylt
 rw[hn]at hylt hylo;rw[hlx]at hxlt;rw[show n+2 - 1=n+1 by omega]at hylo;obtain⟨t,ht⟩:∃ t,t=y / 4294967296 ^ (n+1):=⟨_,rfl⟩
 rw[<- ht]at htd;have htl:t<4294967296:=by rw[ht,akZ (aS _),akT,<- ak2]; exact hylt
 have ht0:t ≠ 0:=by have:=ane hylo (aS (n+1)); omega
 obtain⟨g1,g2,g3⟩:=MD ht0 htl;have ein:Int.toNat (((n+2:Nat):Int) - 1)=n+1:=by omega
 have e1':(((n+2:Nat):Int)==1)=false:=by simp; omega
 rw[hc,akR,hn,e1',akR,aa akN,aa akO,ein,htd,Oz N htl];obtain⟨s,hs⟩:∃ s,s=32 - bl t:=⟨_,rfl⟩
 rw[<- hs]at g1 g2 g3 ⊢;have hs0:0<2 ^ s:=ak4 s;have ews:IntKind.wrap .u64 ((s:Nat):Int)=(s:Int):=by rw[aq]; omega
 rw[ews];obtain⟨V,hV⟩:∃ V,V=y*2 ^ s:=⟨_,rfl⟩
 obtain⟨X,hX⟩:∃ X,X=x*2 ^ s:=⟨_,rfl⟩
 have hVlt:V<4294967296 ^ (n+2):=by
  have h1:=anf y (aS (n+1));rw[<- ht]at h1;have h2:y*2 ^ s<4294967296 ^ (n+1)*(t+1)*2 ^ s:=alG h1 hs0;have h3:(t+1)*2 ^ s<=4294967296:=by
   have hd:2 ^ s*2 ^ (32 - s)=4294967296:=by rw[<- ak9,show s+(32 - s)=32 by omega]
   have h4:t<2 ^ (32 - s):=by rw[akT]at g3;rw[<- hd]at g3;exact am9 g3
   rw[<- hd,akT];exact akX _ h4
  have h5:=akX (4294967296 ^ (n+1)) h3;rw[hV,show n+2=n+1+1 by omega,ak2];rw[ak1]at h2;omega
 have hVge:4294967296 ^ (n+1)<=V:=by rw[hV]; exact alf hylo (alE _ hs0)
 have hVlen:(aj V).length=n+2:=QJ hVge hVlt;have hV0:0<V:=ak_ (aS _) hVge;have hx0:x ≠ 0:=by omega
 have hvt:V / 4294967296 ^ (n+1)=t*2 ^ s+y%4294967296 ^ (n+1)*2 ^ s / 4294967296 ^ (n+1):=by
  have h1:=alM y (4294967296 ^ (n+1));rw[<- ht]at h1;have h2:V=y%4294967296 ^ (n+1)*2 ^ s+4294967296 ^ (n+1)*(t*2 ^ s):=by rw[hV,<- ak1,<- alj]; congr 1; omega
  rw[h2,dS]; omega
 have hv1lo:2147483648<=V / 4294967296 ^ (n+1):=by rw[hvt]; exact alf g2 (am_ _ _)
 have hv1hi:V / 4294967296 ^ (n+1)<4294967296:=by rw[akZ (aS _),akT,<- ak2]; exact hVlt
 rw[tH hy0 g1 (by omega) (by omega),hn,<- hV,hVlen,tH hx0 g1 (by omega) (by omega),hlx,<- hX];have hs2:2 ^ s<=4294967296:=by rw[<- EL]; exact ak6 (by decide) (by omega)
 have hXlt:X<4294967296 ^ (lx+1):=by rw[hX,ak2]; exact alA hxlt hs2 (by decide)
 have hXlen2:lx<=(aj X).length:=by rw[<- hlx,hX]; exact bO (alE _ hs0)
 rw[Le (by omega) hlx hXlt hXlen2 (by omega)];unfold qM;obtain⟨M,hM⟩:∃ M,lx+1=M+(n+2):=⟨lx+1 - (n+2),by omega⟩
 have eM:(((lx+1:Nat):Int) - ((n+2:Nat):Int))=(M:Int):=by omega
 have ein2:0+Int.toNat (((n+2:Nat):Int) - 1)=n+1:=by omega
 rw[eM,akW,amb,ein2,uL V (by omega),ak0 hv1hi];obtain⟨v1,hv1⟩:∃ v1,v1=V / 4294967296 ^ (n+1):=⟨_,rfl⟩
 rw[<- hv1]at hv1lo hv1hi ⊢;have wv1:IntKind.wrap .u64 (v1:Int)=(v1:Int):=by rw[aq]; omega
 rw[wv1,aa akN,aa (bT (by omega) (by omega) (by omega) (by omega)),aa akN,aa akO,aa (akP (by rw[am]; omega)),aa akN];have hstart:dl X (lx+1)=dl X M++(dl (X / 4294967296 ^ M%V) (n+2)++List.replicate 0 0):=by
  have hXM:X / 4294967296 ^ M<V:=by
   rw[akZ (aS M),hX,hV];have h1:x*2 ^ s<4294967296 ^ lx*2 ^ s:=alG hxlt hs0;have h2:4294967296 ^ lx=4294967296 ^ (n+1)*4294967296 ^ M:=by rw[<- ak9]; congr 1; omega
   have h3:=akU (4294967296 ^ M*2 ^ s) hylo;rw[h2,ak1]at h1;have e:y*2 ^ s*4294967296 ^ M=y*(4294967296 ^ M*2 ^ s):=by rw[ak1,akT (2 ^ s)]
   rw[e]; omega
  rw[ak0 hXM,alv,alp,<- Da,<- hM]
 rw[hstart];have hQlt:X / V<4294967296 ^ M:=by
  rw[akZ hV0];have h1:x*2 ^ s<4294967296 ^ lx*2 ^ s:=alG hxlt hs0;have h2:4294967296 ^ lx=4294967296 ^ M*4294967296 ^ (n+1):=by rw[<- ak9]; congr 1; omega
  have h3:=akX (4294967296 ^ M) (akU (2 ^ s) hylo);rw[hX,hV];rw[h2,ak1]at h1;omega
 have hmk:M<=1099511627001:=by omega
 refine aF (λi=>((M:Int) - 1 - (i:Int),dl X (M - i)++(dl (X / 4294967296 ^ (M - i)%V) (n+2)++List.replicate i 0),List.replicate (M - i) (0:Int)++(dl (X / V) M).drop (M - i))) M ?_ (by omega) (λi hi K=>?_) (λK=>?_)
 ·rw[amX,alC (by rw[am]; omega),alp];congr 1;omega
 ·obtain⟨j,hj⟩:∃ j,M - i=j+1:=⟨M - i - 1,by omega⟩
  have hj2:M - (i+1)=j:=by omega
  have ei:(M:Int) - 1 - (i:Int)=(j:Int):=by omega
  have ei2:(M:Int) - 1 - ((i+1:Nat):Int)=(j:Int) - 1:=by omega
  rw[hj,hj2,ei,ei2];obtain⟨A,hA⟩:∃ A,A=X / 4294967296 ^ j:=⟨_,rfl⟩
  have hA1:X / 4294967296 ^ (j+1)=A / 4294967296:=by rw[hA,ak2,akY]
  obtain⟨n1,n2⟩:=B0 (A:=A) hV0;obtain⟨R,hR⟩:∃ R,R=A / 4294967296%V:=⟨_,rfl⟩
  have hRV:R<V:=by rw[hR]; exact ak5 _ hV0
  rw[hA1,<- hR];rw[<- hR]at n1 n2;obtain⟨b,hb⟩:∃ b,b=dl X (j+1)++(dl R (n+2)++List.replicate i 0):=⟨_,rfl⟩
  have hblen:b.length=lx+1:=by rw[hb]; simp[am]; omega
  have hbw:InW b:=by
   rw[hb];intro z hz;rcases List.mem_append.1 hz with h | h
   ·exact jf _ _ z h
   ·rcases List.mem_append.1 h with h | h
    ·exact jf _ _ z h
    ·have:=(List.mem_replicate.1 h).2; subst this; omega
  have hbt:b.take j=dl X j:=by rw[hb,alT (by rw[am]; omega),p_ X (by omega)]
  have hbd:b.drop j=((A%4294967296:Nat):Int)::(dl R (n+2)++List.replicate i 0):=by rw[hb,dl,ak8,alS (by rw[am]; omega),alC (by rw[am]; omega),alF,hA];rfl
  have hwv:aE ((b.drop j).take (n+2+1))=R*4294967296+A%4294967296:=by rw[hbd,anH,alT (by rw[am]; omega),alc (by rw[am]; omega),aE,rn,ak0 (amC hRV hVlt),akW];omega
  have hbd2:b.drop (j+(n+2+1))=List.replicate i 0:=by rw[<- List.drop_drop,hbd,List.drop_succ_cons,alS (by rw[am]; omega),alC (by rw[am]; omega),alF]
  have hcv:aE ((dl V (n+2+1)).take (n+2))=V:=by rw[p_ V (by omega),rn,ak0 hVlt]
  have hAm:A%4294967296<4294967296:=ak5 _ (by decide);have hUlt:R*4294967296+A%4294967296<V*4294967296:=by have:=akU 4294967296 hRV;rw[amo]at this;omega
  have hnext:dl X j++(dl (A%V) (n+2+1)++List.replicate i 0)=dl X j++(dl (A%V) (n+2)++List.replicate (i+1) 0):=by rw[FV (amC (ak5 A hV0) hVlt) 1,ak8,alB];rfl
  have hdg:X / V / 4294967296 ^ j%4294967296=A / V%4294967296:=by rw[hA,akY,akY,akT V]
  have hql:(List.replicate (j+1) (0:Int)++(dl (X / V) M).drop (j+1)).length=M:=by simp[am]; omega
  have hstep:=VO (s:=(s:Int)) (j:=j) (b:=b) (ul:=lx+1) (ql:=List.replicate (j+1) (0:Int)++(dl (X / V) M).drop (j+1)) hN hVlt hVge hv1 hv1lo hv1hi hbw hblen (by omega) (by omega) (by omega) (by rw[hwv]; exact hUlt);rw[<- hb,hstep,hwv,n1,n2,hbt,hbd2,hnext,<- hdg,GY _ _ _ (by omega),<- hA]
 ·simp only[jS];have e0:(M:Int) - 1 - (M:Int) = -1:=by omega
  rw[e0,akQ (by omega),akR,alq,amL,amG,alv,alF,amn];obtain⟨L,hL⟩:∃ L,L=dl X 0++(dl (X%V) (n+2)++List.replicate M 0):=⟨_,rfl⟩
  have hRlt:X%V<4294967296 ^ (n+2):=amC (ak5 _ hV0) hVlt;have hLt:L.take (n+2)=dl (X%V) (n+2):=by rw[hL,show dl X 0=[] from rfl,alF,alT (by rw[am]; omega),alc (by rw[am]; omega)]
  have hLw:InW L:=by
   rw[hL];intro z hz;rcases List.mem_append.1 hz with h | h
   ·cases h
   ·rcases List.mem_append.1 h with h | h
    ·exact jf _ _ z h
    ·have:=(List.mem_replicate.1 h).2; subst this; omega
  have hLlen:n+2<=L.length:=by rw[hL]; simp[am]
  have en:Int.toNat ((n+2:Nat):Int) - 0=n+2:=by omega
  rw[<- hL,mo _ (by rw[am]; omega) (by rw[am]; omega),en,aa (akP (by omega)),Lw L (n+2) hLlen (by omega) (by omega)];have hcl:=kg L (n+2);rw[Ez L hLw (bE L (n+2)) s (by omega) g1 (by omega) (by omega),tn,hLt,rn,ak0 hRlt,am,AQ hQlt];have hQlen:=cl _ _ hQlt;rw[aa (akP (by omega)),amn,p_ _ hQlen,Qe,hX,hV,anv _ _ hs0,anw,amy _ hs0]
def uU {N:Nat} (hN:1180591620717411303424<=N) {x y:Nat} (hy:0<y) (hxl:(aj x).length<=1099511627000) (hyl:(aj y).length<=1099511627000) (k:Kz5) :
  yv N (aj x) (aj y) k=k (aj (x / y)) (aj (x%y)):=by
 by_cases hxy:y<=x
 ·by_cases h2:2<=(aj y).length
  ·exact BB hN hxy h2 hxl k
  ·have hylt:=iT y;have hl1:(aj y).length=1:=by rw[cd (by omega)]at h2 ⊢; simp at h2 ⊢; exact h2
   rw[hl1,anR]at hylt;have hd:=uK (by omega:y ≠ 0) hylt;have hc:decide (dw x y<0)=false:=by unfold dw; rw[if_neg (by omega)]; split <;> rfl
   (unfold yv; rw[ae]; unfold Nv)
   rw[kn x y ⟨by omega,by omega⟩ ⟨by omega,by omega⟩,hc,akR,hd];show cond (((1:Nat):Int)==1) _ _=_;rw[show(((1:Nat):Int)==1)=true from rfl,akS,aa (ai (by omega) (by simp))];show pG N (aj x) (y:Int) _=_;have hm:x%y<4294967296:=amC (ak5 _ hy) hylt;have hw:InW [((x%y:Nat):Int)]:=by intro z hz;simp only[amd,amT,or_false]at hz;subst hz; omega
   have hv:aE [((x%y:Nat):Int)]=x%y:=by simp only[aE]; omega
   have hct:=db (N:=N) [((x%y:Nat):Int)] hw (by simp; omega) (by simp) (λz=>k (aj (x / y)) z);rw[hv]at hct;rw[IE hy hylt ⟨by omega,by omega⟩];exact hct
 ·have hc:decide (dw x y<0)=true:=by unfold dw; rw[if_pos (by omega)]; rfl
  (unfold yv; rw[ae]; unfold Nv)
  rw[kn x y ⟨by omega,by omega⟩ ⟨by omega,by omega⟩,hc,akS,alF,aa (akP (by omega)),alm (by omega),ak0 (by omega),aV]
def Gv {N V f:Nat} (hf:f<4294967296000) (hN:20<N) (hs:fj N (aj V)) (hf2:f<4294967296\/True) (hlt:V / 2 ^ f<18446744073709551616) (hr:∀ kk,CK N (aj V) (f:Int) kk=kk (aj (V / 2 ^ f))) (k:Kz7):rC N (aj V) (f:Int) k=k ((V / 2 ^ f:Nat):Int):=by
 (unfold rC; rw[ae]; unfold vP)
 have wf:IntKind.wrap .u64 (f:Int)=(f:Int):=by rw[aq]; omega
 rw[wf,hr];obtain⟨Y,hY⟩:∃ Y,Y=V / 2 ^ f:=⟨_,rfl⟩
 rw[<- hY]at hlt ⊢;have hl2:(aj Y).length<=2:=cl 2 Y (by
  have:(4294967296:Nat) ^ 2=18446744073709551616:=by decide
  omega)
 have hYl:=iT Y;obtain⟨L,hL⟩:∃ L,(aj Y).length=L:=⟨_,rfl⟩
 rw[hL]at hl2 hYl ⊢;rw[aa akN];refine aF (λi=>(((Y / 4294967296 ^ (L - i):Nat):Int),(L:Int) - 1 - (i:Int))) L ?_ (by omega) (λi hi K=>?_) (λK=>?_)
 ·rw[amX,alm hYl]; simp
 ·obtain⟨m,hm⟩:∃ m,L - i=m+1:=⟨L - i - 1,by omega⟩
  have hm2:L - (i+1)=m:=by omega
  have ei:(L:Int) - 1 - (i:Int)=(m:Int):=by omega
  have ei2:(L:Int) - 1 - ((i+1:Nat):Int)=(m:Int) - 1:=by omega
  rw[hm,hm2,ei,ei2];have hp:Y / 4294967296 ^ (m+1)=Y / 4294967296 ^ m / 4294967296:=by rw[ak2,akY]
  have hle:=amq Y (4294967296 ^ m);simp only[mN,akW];rw[akP (by omega:(m:Int)>=0),akS,hL,aa akO,aa akN,oc,hp];generalize Y / 4294967296 ^ m=Z at *;rw[QU (by omega) (by omega)];congr 2;omega
 ·simp only[mN];have e0:(L:Int) - 1 - (L:Int) = -1:=by omega
  rw[e0,akQ (by omega),akR,alq,amL,amG]
def sgn (neg:Bool) (n:Nat):Int:=cond neg (-(n:Int)) (n:Int)
def cw (n:Nat):sgn true n = -(n:Int):=rfl
def cQ (n:Nat):sgn false n=(n:Int):=rfl
def CX (x0 y0 a b c d:Nat) (odd:Bool):Prop:=
 ∃ p q,x0=d*p+b*q/\y0=c*p+a*q/\(cond odd (b*c=a*d+1) (a*d=b*c+1))/\(cond odd (d<=q/\q+a+c<=p) (c<=q/\q+b+d<=p))/\1<=b/\1<=c/\1<=d/\a<=1073741824/\b<=1073741824/\c<=1073741824/\d<=1073741824
def Hm {N:Nat} {x0 y0:Nat} (hx0:x0<4611686018427387904) (hy0:y0<4611686018427387904) :
  ∀ q p a b c d odd M,q<M->x0=d*p+b*q->y0=c*p+a*q->(cond odd (b*c=a*d+1) (a*d=b*c+1)) ->
   a<=1073741824->b<=1073741824->c<=1073741824->d<=1073741824->1<=d->p<=x0 ->
   ((odd=false/\a=1/\b=0/\c=0/\d=1/\q<=p)\/(1<=b/\1<=c/\(cond odd (d<=q/\q+a+c<p) (c<=q/\q+b+d<p)))) ->
   ∃ a' b' c' d':Nat,∃ odd',(b'=0/\odd'=false\/CX x0 y0 a' b' c' d' odd') /\ ∀ e0,af M (qx N e0) (sgn odd a,sgn (!odd) b,sgn (!odd) c,sgn odd d,(p:Int),(q:Int))=e0 (sgn odd' a') (sgn (!odd') b') (sgn (!odd') c') (sgn odd' d'):=by
 intro q;induction q using Nat.strongRecOn with
 | ind q ih=>
 intro p a b c d odd M hM h1 h2 hdet ha hb hc hd hd1 hp hor;obtain⟨M,rfl⟩:∃ m,M=m+1:=⟨M - 1,by omega⟩
 have hgood:b=0/\odd=false\/CX x0 y0 a b c d odd:=by
  rcases hor with h | ⟨k1,k2,k3⟩
  ·exact .inl ⟨h.2.2.1,h.1⟩
  ·refine .inr ⟨p,q,h1,h2,hdet,?_,k1,k2,hd1,ha,hb,hc,hd⟩;cases odd
   ·simp only[akR]at k3 ⊢; omega
   ·simp only[akS]at k3 ⊢; omega
 have stop:∀(P:(Int->Int->Int->Int->Bool)->Bool),(∀ e0,P e0=e0 (sgn odd a) (sgn (!odd) b) (sgn (!odd) c) (sgn odd d)) -> ∃ a' b' c' d':Nat,∃ odd',(b'=0/\odd'=false\/CX x0 y0 a' b' c' d' odd') /\ ∀ e0,P e0=e0 (sgn odd' a') (sgn (!odd') b') (sgn (!odd') c') (sgn odd' d'):=
  λP hP=>⟨a,b,c,d,odd,hgood,hP⟩
 have hpq:p*1<=d*p:=by rw[akT d]; exact akX _ hd1
 have hcp:c*p<=y0:=by omega
 have hdp:d*p<=x0:=by omega
 have hql:q<=p:=by
  rcases hor with h | ⟨k1,k2,k3⟩
  ·exact h.2.2.2.2.2
  ·cases odd
   ·simp only[akR]at k3; omega
   ·simp only[akS]at k3; omega
 obtain⟨u1,hu1⟩:∃ u1:Nat,(q:Int)+sgn (!odd) c=(u1:Int):=by
  rcases hor with h | ⟨k1,k2,k3⟩
  ·obtain⟨e1,e2,e3,e4,e5,e6⟩:=h;subst e1 e4; exact⟨q,by simp[sgn]⟩
  ·cases odd
   ·simp only[akR]at k3;exact⟨q - c,by simp only[alu,cw]; omega⟩
   ·exact⟨q+c,by simp only[alK,cQ]; omega⟩
 obtain⟨u2,hu2⟩:∃ u2:Nat,(q:Int)+sgn odd d=(u2:Int):=by
  rcases hor with h | ⟨k1,k2,k3⟩
  ·obtain⟨e1,e2,e3,e4,e5,e6⟩:=h;subst e1; exact⟨q+d,by simp only[cQ]; omega⟩
  ·cases odd
   ·exact⟨q+d,by simp only[cQ]; omega⟩
   ·simp only[akS]at k3;exact⟨q - d,by simp only[cw]; omega⟩
 obtain⟨t1,ht1⟩:∃ t1:Nat,(p:Int)+sgn odd a=(t1:Int):=by
  rcases hor with h | ⟨k1,k2,k3⟩
  ·obtain⟨e1,e2,e3,e4,e5,e6⟩:=h;subst e1; exact⟨p+a,by simp only[cQ]; omega⟩
  ·cases odd
   ·exact⟨p+a,by simp only[cQ]; omega⟩
   ·simp only[akS]at k3;exact⟨p - a,by simp only[cw]; omega⟩
 obtain⟨t2,ht2⟩:∃ t2:Nat,(p:Int)+sgn (!odd) b=(t2:Int):=by
  rcases hor with h | ⟨k1,k2,k3⟩
  ·obtain⟨e1,e2,e3,e4,e5,e6⟩:=h;subst e1 e3; exact⟨p,by simp[sgn]⟩
  ·cases odd
   ·simp only[akR]at k3;exact⟨p - b,by simp only[alu,cw]; omega⟩
   ·exact⟨p+b,by simp only[alK,cQ]; omega⟩
 have t1b:t1<=p+a:=by cases odd <;> simp only[cw,cQ]at ht1 <;> omega
 have t2b:t2<=p+b:=by cases odd <;> simp only[alK,alu,cw,cQ]at ht2 <;> omega
 have u1b:u1<=q+c:=by cases odd <;> simp only[alK,alu,cw,cQ]at hu1 <;> omega
 have u2b:u2<=q+d:=by cases odd <;> simp only[cw,cQ]at hu2 <;> omega
 by_cases c1:u1=0
 ·refine stop _ λe0=>?_
  show qx N e0 _ (af M _)=_;simp only[qx,hu1];have:(((u1:Nat):Int) != 0)=false:=by simp; omega
  rw[aa akN,this,show(false==true)=false from rfl,akR]
 have n1:(((u1:Nat):Int) != 0)=true:=by simp; omega
 have m1:(!decide ((u1:Int)=0))=true:=by simp; omega
 by_cases c2:u2=0
 ·refine stop _ λe0=>?_
  show qx N e0 _ (af M _)=_;simp only[qx,hu1,hu2];have:(((u2:Nat):Int) != 0)=false:=by simp; omega
  rw[aa akN,n1,show(true==true)=true from rfl,akS,aa akN,this,akR]
 have n2:(((u2:Nat):Int) != 0)=true:=by simp; omega
 have m2:(!decide ((u2:Int)=0))=true:=by simp; omega
 obtain⟨k1,hk1⟩:∃ k1,k1=t1 / u1:=⟨_,rfl⟩
 obtain⟨k2,hk2⟩:∃ k2,k2=t2 / u2:=⟨_,rfl⟩
 have k1b:k1<=t1:=by rw[hk1]; exact amq _ _
 have k2b:k2<=t2:=by rw[hk2]; exact amq _ _
 have d1:Int.tdiv (t1:Int) (u1:Int)=(k1:Int):=by rw[hk1]; rfl
 have d2:Int.tdiv (t2:Int) (u2:Int)=(k2:Int):=by rw[hk2]; rfl
 by_cases c3:k1=k2
 ·obtain⟨n,hn⟩:∃ n,n=k1:=⟨_,rfl⟩
  have hn2:n=k2:=by omega
  obtain⟨r1,hr1⟩:∃ r1,r1=t1%u1:=⟨_,rfl⟩
  obtain⟨r2,hr2⟩:∃ r2,r2=t2%u2:=⟨_,rfl⟩
  have E1:t1=n*u1+r1:=by rw[hn,hk1,hr1]; exact(alP t1 u1).symm
  have E2:t2=n*u2+r2:=by rw[hn2,hk2,hr2]; exact(alP t2 u2).symm
  have hr1l:r1<u1:=by rw[hr1]; exact ak5 _ (by omega)
  have hr2l:r2<u2:=by rw[hr2]; exact ak5 _ (by omega)
  have bnc:n*c<=4611686018427387904+1152921504606846976:=by
   have s1:n*c<=(p+a)*c:=akU _ (by omega);have s2:(p+a)*c=c*p+a*c:=by rw[alj,akT p]
   have s3:a*c<=1073741824*1073741824:=alJ ha hc;omega
  have bnd:n*d<=4611686018427387904+1152921504606846976:=by
   have s1:n*d<=(p+b)*d:=akU _ (by omega);have s2:(p+b)*d=d*p+b*d:=by rw[alj,akT p]
   have s3:b*d<=1073741824*1073741824:=alJ hb hd;omega
  have icn:(n:Int)*sgn (!odd) c=sgn (!odd) (n*c):=by cases odd <;> simp only[alK,alu,cw,cQ,alb,anN]
  have idn:(n:Int)*sgn odd d=sgn odd (n*d):=by cases odd <;> simp only[cw,cQ,alb,anN]
  have e2:sgn odd a - sgn (!odd) (n*c)=sgn odd (a+n*c):=by cases odd <;> simp only[alK,alu,cw,cQ] <;> omega
  have f2:sgn (!odd) b - sgn odd (n*d)=sgn (!odd) (b+n*d):=by cases odd <;> simp only[alK,alu,cw,cQ] <;> omega
  have hnq:n*q<=p/\(cond odd (p - n*q+b+n*d=r2/\p - n*q=r1+a+n*c) (p - n*q+a+n*c=r1/\p - n*q=r2+b+n*d)):=by
   cases odd with
   | false=>
    simp only[alu,cw,cQ]at hu1 hu2 ht1 ht2;simp only[akR];have w2:u2=q+d:=by omega
    have w3:t2+b=p:=by omega
    have w1:u1+c=q:=by omega
    have w4:t1=p+a:=by omega
    have z1:n*u2=n*q+n*d:=by rw[w2,ak7]
    have z2:n*q=n*u1+n*c:=by rw[<- w1,ak7]
    omega
   | true=>
    simp only[alK,cw,cQ]at hu1 hu2 ht1 ht2;simp only[akS];have w2:u2+d=q:=by omega
    have w3:t2=p+b:=by omega
    have w1:u1=q+c:=by omega
    have w4:t1+a=p:=by omega
    have z1:n*q=n*u2+n*d:=by rw[<- w2,ak7]
    have z2:n*u1=n*q+n*c:=by rw[w1,ak7]
    omega
  obtain⟨hnq,hnext⟩:=hnq;have inq:(n:Int)*(q:Int)=((n*q:Nat):Int):=(alb _ _).symm;have ipq:(p:Int) - ((n*q:Nat):Int)=((p - n*q:Nat):Int):=by omega
  have fbd1 : -9223372036854775808<=sgn (!odd) (n*c)/\sgn (!odd) (n*c)<=9223372036854775807:=by cases odd <;> simp only[alK,alu,cw,cQ] <;> omega
  have fbd2 : -9223372036854775808<=sgn odd (a+n*c)/\sgn odd (a+n*c)<=9223372036854775807:=by cases odd <;> simp only[cw,cQ] <;> omega
  have fbd3 : -9223372036854775808<=sgn odd (n*d)/\sgn odd (n*d)<=9223372036854775807:=by cases odd <;> simp only[cw,cQ] <;> omega
  have fbd4 : -9223372036854775808<=sgn (!odd) (b+n*d)/\sgn (!odd) (b+n*d)<=9223372036854775807:=by cases odd <;> simp only[alK,alu,cw,cQ] <;> omega
  have ne3:(((k1:Nat):Int) != ((k2:Nat):Int))=false:=by simp[c3]
  have body:∀ e0,af (M+1) (qx N e0) (sgn odd a,sgn (!odd) b,sgn (!odd) c,sgn odd d,(p:Int),(q:Int)) =
    cond ((decide (sgn odd (a+n*c)>1073741824))==false) (cond ((decide (sgn odd (a+n*c)<(-1073741824)))==false) (cond ((decide (sgn (!odd) (b+n*d)>1073741824))==false) (cond (decide (sgn (!odd) (b+n*d)<(-1073741824))) (e0 (sgn odd a) (sgn (!odd) b) (sgn (!odd) c) (sgn odd d)) (af M (qx N e0) (sgn (!odd) c,sgn odd d,sgn odd (a+n*c),sgn (!odd) (b+n*d),(q:Int),((p - n*q:Nat):Int)))) (e0 (sgn odd a) (sgn (!odd) b) (sgn (!odd) c) (sgn odd d))) (e0 (sgn odd a) (sgn (!odd) b) (sgn (!odd) c) (sgn odd d))) (e0 (sgn odd a) (sgn (!odd) b) (sgn (!odd) c) (sgn odd d)):=by
   intro e0;show qx N e0 _ (af M _)=_;simp only[qx,hu1,hu2,ht1,ht2,d1,d2,ne3,akR];rw[<- hn];simp only[icn,idn,e2,f2,inq,ipq];rw[aa akN,n1,show(true==true)=true from rfl,akS,aa akN,n2,akS,aa akN,aa akN,aa m1,aa akN,aa akN,aa akN,aa m2,aa akN,aa (ab fbd1.1 fbd1.2),aa (ab fbd2.1 fbd2.2),aa (ab fbd3.1 fbd3.2),aa (ab fbd4.1 fbd4.2),aa akN,aa akN]
  by_cases c4:a+n*c<=1073741824
  ·by_cases c5:b+n*d<=1073741824
   ·have q1:decide (sgn odd (a+n*c)>1073741824)=false:=akQ (by cases odd <;> simp only[cw,cQ] <;> omega);have q2:decide (sgn odd (a+n*c)<(-1073741824))=false:=akQ (by cases odd <;> simp only[cw,cQ] <;> omega);have q3:decide (sgn (!odd) (b+n*d)>1073741824)=false:=akQ (by cases odd <;> simp only[alK,alu,cw,cQ] <;> omega);have q4:decide (sgn (!odd) (b+n*d)<(-1073741824))=false:=akQ (by cases odd <;> simp only[alK,alu,cw,cQ] <;> omega);have hn1:1<=n:=by
     rw[hn,hk1];refine ane ?_ (by omega);rcases hor with h | ⟨g1,g2,g3⟩
     ·obtain⟨z1,z2,z3,z4,z5,z6⟩:=h;subst z1 z2 z4;simp only[alu,cw,cQ]at hu1 ht1;omega
     ·cases odd
      ·simp only[akR]at g3;simp only[alu,cw,cQ]at hu1 ht1;omega
      ·simp only[akS]at g3;simp only[alK,cw,cQ]at hu1 ht1;omega
    have hq0:1<=q\/q=0:=by omega
    have hlt:p - n*q<q:=by
     have s1:1*d<=n*d:=akU _ hn1;have s2:1*c<=n*c:=akU _ hn1;cases odd with
     | false=>
      simp only[akR]at hnext;simp only[alu,cw]at hu1;omega
     | true=>
      simp only[akS]at hnext;simp only[cw]at hu2;omega
    obtain⟨a',b',c',d',odd',g1,g2⟩:=ih (p - n*q) hlt q c d (a+n*c) (b+n*d) (!odd) M (by omega)
     (by
      have s1:(b+n*d)*q=b*q+d*(n*q):=by grind
      have s2:d*(p - n*q)+d*(n*q)=d*p:=by rw[<- ak7]; congr 1; omega
      omega)
     (by
      have s1:(a+n*c)*q=a*q+c*(n*q):=by grind
      have s2:c*(p - n*q)+c*(n*q)=c*p:=by rw[<- ak7]; congr 1; omega
      omega)
     (by
      have s1:d*(a+n*c)=a*d+n*(c*d):=by grind
      have s2:c*(b+n*d)=b*c+n*(c*d):=by grind
      cases odd with
      | false=>simp only[alu,akS,akR]at hdet ⊢; omega
      | true=>simp only[alK,akS,akR]at hdet ⊢; omega)
     hc hd c4 c5 (by have s1:1*d<=n*d:=akU _ hn1;omega) (by omega)
     (.inr ⟨hd1,(by
      rcases hor with h | ⟨z1,z2,z3⟩
      ·omega
      ·have s2:1*c<=n*c:=akU _ hn1;omega),by
      cases odd with
      | false=>
       simp only[akR]at hnext;simp only[alu,cw,cQ,akS]at hu1 hu2 ⊢;omega
      | true=>
       simp only[akS]at hnext;simp only[alK,cw,cQ,akR]at hu1 hu2 ⊢;omega⟩)
    refine⟨a',b',c',d',odd',g1,λe0=>?_⟩;have:=g2 e0;rw[Bool.not_not]at this;rw[body,q1,q2,q3,q4];exact this
   ·refine stop _ λe0=>?_
    rw[body];cases odd with
    | false=>
     have q1:decide (sgn false (a+n*c)>1073741824)=false:=akQ (by simp only[cQ]; omega);have q2:decide (sgn false (a+n*c)<(-1073741824))=false:=akQ (by simp only[cQ]; omega);have q3:decide (sgn (!false) (b+n*d)>1073741824)=false:=akQ (by simp only[alu,cw]; omega);have q4:decide (sgn (!false) (b+n*d)<(-1073741824))=true:=akP (by simp only[alu,cw]; omega);rw[q1,q2,q3,q4];rfl
    | true=>
     have q1:decide (sgn true (a+n*c)>1073741824)=false:=akQ (by simp only[cw]; omega);have q2:decide (sgn true (a+n*c)<(-1073741824))=false:=akQ (by simp only[cw]; omega);have q3:decide (sgn (!true) (b+n*d)>1073741824)=true:=akP (by simp only[alK,cQ]; omega);rw[q1,q2,q3];rfl
  ·refine stop _ λe0=>?_
   rw[body];cases odd with
   | false=>
    have q1:decide (sgn false (a+n*c)>1073741824)=true:=akP (by simp only[cQ]; omega);rw[q1];rfl
   | true=>
    have q1:decide (sgn true (a+n*c)>1073741824)=false:=akQ (by simp only[cw]; omega);have q2:decide (sgn true (a+n*c)<(-1073741824))=true:=akP (by simp only[cw]; omega);rw[q1,q2];rfl
 ·refine stop _ λe0=>?_
  show qx N e0 _ (af M _)=_;simp only[qx,hu1,hu2,ht1,ht2,d1,d2];have:(((k1:Nat):Int) != ((k2:Nat):Int))=true:=by simp; omega
  rw[aa akN,n1,show(true==true)=true from rfl,akS,aa akN,n2,akS,aa akN,aa akN,aa m1,aa akN,aa akN,aa akN,aa m2,aa akN,this,akS]
def IF {N:Nat} (hN:1180591620717411303424<=N) {x0 y0:Nat} (hx0:x0<4611686018427387904) (hyx:y0<=x0):∃ a b c d:Nat,∃ odd,(b=0/\odd=false\/CX x0 y0 a b c d odd) /\ ∀ k,uc N (x0:Int) (y0:Int) k=k (sgn odd a) (sgn (!odd) b) (sgn (!odd) c) (sgn odd d):=by
 obtain⟨a,b,c,d,odd,h1,h2⟩:=Hm (N:=N) (x0:=x0) (y0:=y0) hx0 (by omega) y0 x0 1 0 0 1 false N (by omega) (by omega) (by omega) rfl (by omega) (by omega) (by omega) (by omega) (by omega) (by omega) (.inl ⟨rfl,rfl,rfl,rfl,rfl,hyx⟩);refine⟨a,b,c,d,odd,h1,λk=>?_⟩
 (unfold uc; rw[ae]; unfold sN)
 rw[aa akN,aa akN];exact h2 _
def Qu {a b c d X Y:Nat} (hdet:b*c=a*d+1) (g1:a*X<=b*Y) (g2:d*Y<=c*X):X=d*(b*Y - a*X)+b*(c*X - d*Y)/\Y=c*(b*Y - a*X)+a*(c*X - d*Y):=by
 obtain⟨U,hU⟩:=amw g1;obtain⟨V,hV⟩:=amw g2;rw[<- hU,<- hV,alw,alw];constructor
 ·have t1:d*(b*Y)=d*(a*X)+d*U:=by rw[<- hU,ak7]
  have t2:b*(c*X)=b*(d*Y)+b*V:=by rw[<- hV,ak7]
  have t3:b*(c*X)=(a*d+1)*X:=by rw[<- hdet,ak1]
  have t4:(a*d+1)*X=d*(a*X)+X:=by grind
  have t5:d*(b*Y)=b*(d*Y):=by grind
  omega
 ·have t1:c*(b*Y)=c*(a*X)+c*U:=by rw[<- hU,ak7]
  have t2:a*(c*X)=a*(d*Y)+a*V:=by rw[<- hV,ak7]
  have t3:c*(b*Y)=(a*d+1)*Y:=by rw[<- hdet]; grind
  have t4:(a*d+1)*Y=a*(d*Y)+Y:=by grind
  have t5:c*(a*X)=a*(c*X):=by grind
  omega
def HG {x0 y0 a b c d F rx ry X Y:Nat} (h:CX x0 y0 a b c d true) (hrx:rx<F) (hry:ry<F) (hX:X=x0*F+rx) (hY:Y=y0*F+ry) :
  a*X<=b*Y/\d*Y<=c*X/\c*X - d*Y<=b*Y - a*X/\X=d*(b*Y - a*X)+b*(c*X - d*Y)/\Y=c*(b*Y - a*X)+a*(c*X - d*Y):=by
 obtain⟨p,q,h1,h2,hdet,hin,hb1,hc1,hd1,hal,hbl,hcl,hdl⟩:=h;simp only[akS]at hdet hin;obtain⟨hdq,hpq⟩:=hin;have e1:b*Y+a*rx=a*X+(p*F+b*ry):=by
  subst h1 h2 hX hY;have:b*(c*p*F)=(a*d+1)*(p*F):=by rw[<- hdet]; grind
  grind
 have e2:c*X+d*ry=d*Y+(q*F+c*rx):=by
  subst h1 h2 hX hY;have:b*c*(q*F)=(a*d+1)*(q*F):=by rw[<- hdet]
  grind
 have m1:a*rx<=a*F:=akX _ (by omega);have m3:d*ry<=d*F:=akX _ (by omega);have m4:d*F<=q*F:=akU _ hdq;have m5:(q+a+c)*F<=p*F:=akU _ hpq;rw[alj,alj]at m5;have m6:c*rx<=c*F:=akX _ (by omega);have g1:a*X<=b*Y:=by omega
 have g2:d*Y<=c*X:=by omega
 obtain⟨i1,i2⟩:=Qu hdet g1 g2;exact⟨g1,g2,by omega,i1,i2⟩
def Fm {x0 y0 a b c d F rx ry X Y:Nat} (h:CX x0 y0 a b c d false) (hrx:rx<F) (hry:ry<F) (hX:X=x0*F+rx) (hY:Y=y0*F+ry) :
  b*Y<=a*X/\c*X<=d*Y/\d*Y - c*X<=a*X - b*Y/\X=d*(a*X - b*Y)+b*(d*Y - c*X)/\Y=c*(a*X - b*Y)+a*(d*Y - c*X):=by
 obtain⟨p,q,h1,h2,hdet,hin,hb1,hc1,hd1,hal,hbl,hcl,hdl⟩:=h;simp only[akR]at hdet hin;obtain⟨hdq,hpq⟩:=hin;have e1:a*X+b*ry=b*Y+(p*F+a*rx):=by
  subst h1 h2 hX hY;have:a*d*(p*F)=(b*c+1)*(p*F):=by rw[<- hdet]
  grind
 have e2:d*Y+c*rx=c*X+(q*F+d*ry):=by
  subst h1 h2 hX hY;have:a*d*(q*F)=(b*c+1)*(q*F):=by rw[<- hdet]
  grind
 have m1:b*ry<=b*F:=akX _ (by omega);have m3:c*rx<=c*F:=akX _ (by omega);have m4:c*F<=q*F:=akU _ hdq;have m5:(q+b+d)*F<=p*F:=akU _ hpq;rw[alj,alj]at m5;have m6:d*ry<=d*F:=akX _ (by omega);have g1:b*Y<=a*X:=by omega
 have g2:c*X<=d*Y:=by omega
 refine⟨g1,g2,by omega,?_,?_⟩
 ·obtain⟨U,hU⟩:=amw g1;obtain⟨V,hV⟩:=amw g2;rw[<- hU,<- hV,alw,alw];have t1:d*(a*X)=d*(b*Y)+d*U:=by rw[<- hU,ak7]
  have t2:b*(d*Y)=b*(c*X)+b*V:=by rw[<- hV,ak7]
  have t3:d*(a*X)=(b*c+1)*X:=by rw[<- hdet]; grind
  have t4:(b*c+1)*X=b*(c*X)+X:=by grind
  have t5:d*(b*Y)=b*(d*Y):=by grind
  omega
 ·obtain⟨U,hU⟩:=amw g1;obtain⟨V,hV⟩:=amw g2;rw[<- hU,<- hV,alw,alw];have t1:c*(a*X)=c*(b*Y)+c*U:=by rw[<- hU,ak7]
  have t2:a*(d*Y)=a*(c*X)+a*V:=by rw[<- hV,ak7]
  have t3:a*(d*Y)=(b*c+1)*Y:=by rw[<- hdet]; grind
  have t4:(b*c+1)*Y=c*(b*Y)+Y:=by grind
  have t5:c*(a*X)=a*(c*X):=by grind
  omega
def BD {N X Y u v:Nat} (hN:1180591620717411303424<=N) (sX:(aj X).length<=1099511627000) (sY:(aj Y).length<=1099511627000) (hu:u<=1073741824) (hv:v<=1073741824) (hle:v*Y<=u*X) (k:List Int->Bool) :
  Kl N (aj X) (u:Int) (aj Y) (v:Int) k=k (aj (u*X - v*Y)):=by
 (unfold Kl; rw[ae]; unfold Nq)
 have lu:=cl 1 u (by rw[anR]; omega);have lv:=cl 1 v (by rw[anR]; omega);have lX:=cl ((aj X).length+1) (X*u) (by rw[ak2]; exact alV (iT X) (by omega))
 rw[uW u (by omega) (by omega),yq _ _ (aZ _) (aZ _) (by omega) (by omega),uW v (by omega) (by omega),yq _ _ (aZ _) (aZ _) (by omega) (by omega),aJ,aJ,aJ,aJ,
  yn _ _ (aZ _) (aZ _) (by rw[aJ,aJ,akT X,akT Y]; exact hle) ⟨by omega,by omega⟩,aJ,aJ,akT X,akT Y]
def zo {N X Y u v:Nat} (hN:1180591620717411303424<=N) (sX:(aj X).length<=1099511627000) (sY:(aj Y).length<=1099511627000) (hu:u<=1073741824) (hv:v<=1073741824) (hle:v*Y<=u*X) (k:List Int->Bool) :
  ot N (aj X) (u:Int) (aj Y) (-(v:Int)) k=k (aj (u*X - v*Y)):=by
 (unfold ot; rw[ae]; unfold uA)
 have w1:IntKind.wrap .u64 (u:Int)=(u:Int):=by rw[aq]; omega
 have w2:IntKind.wrap .u64 (0 - -(v:Int))=(v:Int):=by rw[aq]; omega
 rw[akP (by omega : -(v:Int)<=0),akS,aa akN,w1,w2,BD hN sX sY hu hv hle]
def zn {N X Y u v:Nat} (hN:1180591620717411303424<=N) (sX:(aj X).length<=1099511627000) (sY:(aj Y).length<=1099511627000) (hu:u<=1073741824) (hv:v<=1073741824) (hv1:1<=v) (hle:u*X<=v*Y) (k:List Int->Bool) :
  ot N (aj X) (-(u:Int)) (aj Y) (v:Int) k=k (aj (v*Y - u*X)):=by
 (unfold ot; rw[ae]; unfold uA)
 have w1:IntKind.wrap .u64 (v:Int)=(v:Int):=by rw[aq]; omega
 have w2:IntKind.wrap .u64 (0 - -(u:Int))=(u:Int):=by rw[aq]; omega
 rw[akQ (by omega:¬(v:Int)<=0),akR,aa akN,w1,w2,BD hN sY sX hv hu hle]
def FG {N:Nat} (hN:1180591620717411303424<=N) (e0:List Int->Bool):∀(b a M:Nat),b<M->(aj a).length<=1099511627000->(aj b).length<=1099511627000->af M (yH N e0) (aj a,aj b)=e0 (aj (Nat.gcd a b)):=by
 intro b;induction b using Nat.strongRecOn with
 | ind b ih=>
 intro a M hM ha hb;obtain⟨M,rfl⟩:∃ m,M=m+1:=⟨M - 1,by omega⟩
 show yH N e0 (aj a,aj b) (af M _)=_;simp only[yH];by_cases h:b=0
 ·subst h;have:(((aj 0).length:Nat):Int)=0:=by rw[aV]; rfl
  rw[this,akQ (by omega),akR,anl]
 ·have hp:0<(aj b).length:=by rw[cd h]; simp
  have hm:=ak5 a (by omega:b>0);have hml:=bO (Nat.le_of_lt hm);rw[akP (by omega),akS,uU hN (by omega) ha hb,ih (a%b) hm b M (by omega) hb (by omega),al7 b,<- anS,al7]
def rf {N V f:Nat} (hf:f<140737488355328) (hs:(aj V).length+3<N/\(aj V).length<=1099511627000) (k:List Int->Bool):CK N (aj V) (f:Int) k=k (aj (V / 2 ^ f)):=by
 have hm:=aZ V;have hmv:=aJ V
 (unfold CK; rw[ae]; unfold SQ)
 obtain⟨hN1,hN2⟩:=hs;have ew:IntKind.wrap .u64 (Int.tdiv (f:Int) 32)=((f / 32:Nat):Int):=by rw[aq,alU (by omega)]; omega
 have es:Int.tmod (f:Int) 32=((f%32:Nat):Int):=by rw[alL (by omega)]; rfl
 rw[ew,es,aa akN];have hp2:2 ^ f=4294967296 ^ (f / 32)*2 ^ (f%32):=xw f;obtain⟨w,hw⟩:∃ w,w=f / 32:=⟨_,rfl⟩
 obtain⟨s,hsh⟩:∃ s,s=f%32:=⟨_,rfl⟩
 rw[<- hw,<- hsh]at hp2 ⊢;have hs32:s<32:=by omega
 have hs0:0<2 ^ s:=ak4 s;obtain⟨m,hme⟩:∃ m,m=aj V:=⟨_,rfl⟩
 rw[<- hme]at hm hmv hN1 hN2 ⊢;by_cases h0:m.length<=w
 ·rw[akP (by omega:((w:Nat):Int)>=m.length),akS];have h1:=eE hm;rw[hmv]at h1;have h2:4294967296 ^ m.length<=4294967296 ^ w:=ak6 (by decide) h0;have h3:V / 2 ^ f=0:=by rw[hp2];refine alm ?_;have:4294967296 ^ w*1<=4294967296 ^ w*2 ^ s:=akX _ hs0;omega
  rw[h3,aV]
 ·rw[akQ (by omega:¬((w:Nat):Int)>=m.length),akR];obtain⟨Z,hZ⟩:∃ Z,Z=V / 2 ^ f:=⟨_,rfl⟩
  have elen:Int.toNat ((m.length:Int) - ((w:Nat):Int))=m.length - w:=by omega
  rw[elen,aa akN,aa (bT (by omega) (by omega) (by omega) (by omega)),<- hZ];obtain⟨L,hL⟩:∃ L,L=m.length - w:=⟨_,rfl⟩
  rw[<- hL];refine aF (λi=>((i:Int),dl Z i++List.replicate (L - i) 0)) L (by simp[dl]) (by omega) (λi hi K=>?_) (λK=>?_)
  ·have hx:=hm.at (i:=w+i);have hy:=hm.at (i:=w+i+1);have hset:=AZ Z i L (by omega);have hl:(dl Z i++List.replicate (L - i) 0).length=L:=by simp[am]; omega
   have ei:Int.toNat ((w:Int)+(i:Int))=w+i:=by omega
   have ei1:Int.toNat ((w:Int)+(i:Int)+1)=w+i+1:=by omega
   have emin:min s 64=s:=by omega
   obtain⟨R,hR⟩:=C9 hm (w+i);rw[hmv]at hR;have hdig:Z / 4294967296 ^ i%4294967296=((m.getD (w+i) 0).toNat+4294967296*(m.getD (w+i+1) 0).toNat) / 2 ^ s%4294967296:=by
    rw[hZ,hp2,akY];have e1:4294967296 ^ w*2 ^ s*4294967296 ^ i=4294967296 ^ (w+i)*2 ^ s:=by rw[ak9,ak1,akT (2 ^ s),<- ak1]
    rw[e1,<- akY,hR];have e2:4294967296*4294967296*R=2 ^ s*(4294967296*(2 ^ (32 - s)*R)):=by
     have hs1:2 ^ s*2 ^ (32 - s)=4294967296:=by rw[<- ak9,show s+(32 - s)=32 by omega]
     rw[alh (2 ^ s),<- ak1 (2 ^ s),hs1,ak1]
    rw[e2,alO _ _ hs0,al8]
   have hfin:∀ z:Int,z=(((m.getD (w+i) 0).toNat+4294967296*(m.getD (w+i+1) 0).toNat:Nat):Int)->IntKind.wrap .u32 (Int.fdiv z (2 ^ s))=((Z / 4294967296 ^ i%4294967296:Nat):Int):=by
    intro z hz;have e:(2:Int) ^ s=((2 ^ s:Nat):Int):=by simp
    rw[hdig,hz,e,amk _ (by omega),cU];rfl
   simp only[lG,akW,ei,ei1,emin,hl];rw[akP (by omega:(i:Int)<L),akS,aa akN,aa akO,aa akN,aa akN];by_cases hlast:w+i+1<m.length
   ·rw[akP (by omega:(w:Int)+(i:Int)+1<m.length),akS,aa akN,aa akN,aa akO,aa (akP (by omega)),aa akO,aa (akP (by omega)),aa akN];have e1:IntKind.wrap .u64 (m.getD (w+i) 0)=(((m.getD (w+i) 0).toNat:Nat):Int):=by rw[aq]; omega
    have e2:IntKind.wrap .u64 (IntKind.wrap .u64 (m.getD (w+i+1) 0)*2 ^ 32)=((2 ^ 32*(m.getD (w+i+1) 0).toNat:Nat):Int):=by
     have:(2:Int) ^ 32=4294967296:=by decide
     have:(2:Nat) ^ 32=4294967296:=by decide
     rw[aq,aq]; omega
    have p32:(2:Nat) ^ 32=4294967296:=by decide
    rw[e1,e2,cj _ _ 32 (by omega) (by omega),hfin _ (by omega),hset,kZ]
   ·rw[akQ (by omega:¬(w:Int)+(i:Int)+1<m.length),akR,aa (akP (by omega)),aa akO,aa (akP (by omega)),aa akN];have hz:m.getD (w+i+1) 0=0:=dT (by omega);have e1:IntKind.wrap .u64 (m.getD (w+i) 0)=(((m.getD (w+i) 0).toNat:Nat):Int):=by rw[aq]; omega
    rw[e1,hfin _ (by rw[hz]; simp),hset,kZ]
  ·simp only[lG];have hl:(dl Z L++List.replicate (L - L) 0).length=L:=by simp[am]
   rw[akQ (by omega:¬((L:Nat):Int)<(((dl Z L++List.replicate (L - L) (0:Int)).length:Nat):Int)),akR,alq,alv,alp];have hVl:Z<4294967296 ^ L:=by have h1:=eE hm;rw[hmv]at h1;rw[hZ,akZ (ak4 f),hp2,<- ak1,<- ak9,show L+w=m.length by omega];have:4294967296 ^ m.length*1<=4294967296 ^ m.length*2 ^ s:=akX _ hs0;omega
   rw[db _ (jf Z _) (by rw[am]; omega) (by rw[am]; omega),qT hVl]
def zb {N:Nat} (hN:1180591620717411303424<=N) {u v:List Int} (k:List Int->Bool) :
  ∀ s x y,x+y=s->s<N->y<=x->(aj x).length<=134217728000 ->
   Js N u v (aj x) (aj y) k=k (aj (Nat.gcd x y)):=by
 intro s x y hs hsN hyx hxl;unfold Js;have main:∀ s x y M,x+y=s->s<M->M<=N->y<=x->(aj x).length<=134217728000 ->
   af M (B_ N (λ(a_3:List Int) (Zf:List Int)=>(af N (yH N (λ(a_5:List Int)=>((decide ((List.length ([]++a_5))*4<=140737488355328))&&(k ([]++a_5))))) (a_3,Zf)))) (aj x,aj y)=k (aj (Nat.gcd x y)):=by
  intro s;induction s using Nat.strongRecOn with
  | ind s ih=>
  intro x y M hs hsM hMN hyx hxl;obtain⟨M,rfl⟩:∃ m,M=m+1:=⟨M - 1,by omega⟩
  have hyl:=bO hyx;show B_ N _ (aj x,aj y) (af M _)=_;simp only[B_];by_cases h2:3<=(aj y).length
  ·have hyge:18446744073709551616<=y:=by
    rcases alQ y 18446744073709551616 with h | h
    ·have:=cl 2 y (by
      have:(4294967296:Nat) ^ 2=18446744073709551616:=by decide
      omega)
     omega
    ·exact h
   have hblx:64<bl x:=by
    rcases alQ 64 (bl x)with h | h
    ·exact h
    ·have h1:=yX x;have h3:2 ^ bl x<=2 ^ 64:=ak6 (by decide) h;rw[oQ]at h3;omega
   have hblu:bl x<=32*(aj x).length:=by refine w_ ?_;rw[anM,EL]; exact iT x
   obtain⟨f,hf⟩:∃ f,bl x=f+62:=⟨bl x - 62,by omega⟩
   have ef:(bl x:Int) - 62=(f:Int):=by omega
   have hF0:0<2 ^ f:=ak4 f;have p62:(2:Nat) ^ 62=4611686018427387904:=by decide
   have hx0l:x / 2 ^ f<4611686018427387904:=by rw[akZ hF0,<- p62,<- ak9,amK,<- hf]; exact yX x
   have hy0l:y / 2 ^ f<=x / 2 ^ f:=am6 hyx;rw[akP (by omega),akS,Bo false x ⟨by omega,by omega⟩,ef,aa akN,
    Gv (by omega) (by omega) ⟨by omega,by omega⟩ (.inr trivial) (by omega) (λkk=>rf (by omega) ⟨by omega,by omega⟩ kk),
    Gv (by omega) (by omega) ⟨by omega,by omega⟩ (.inr trivial) (by omega) (λkk=>rf (by omega) ⟨by omega,by omega⟩ kk)]
   obtain⟨a,b,c,d,odd,g1,g2⟩:=IF hN hx0l hy0l;rw[g2];rcases g1 with⟨hb0,ho⟩ | hgood
   ·subst hb0 ho;have e0:(sgn (!false) 0==0)=true:=rfl;have hm:=ak5 x (by omega:y>0);rw[e0,akS,uU hN (by omega) (by omega) (by omega),ih (y+x%y) (by omega) y (x%y) M rfl (by omega) (by omega) (by omega) (by omega),al7 y,<- anS,al7]
   ·obtain⟨p,q,z1,z2,z3,z4,hb1,hc1,hd1,hal,hbl,hcl,hdl⟩:=id hgood;have fin:∀ U V:Nat,x=d*U+b*V->y=c*U+a*V->V<=U->U+V<x+y/\U<=x:=by
     intro U V hx hy hvu;have k1:1*U<=d*U:=akU _ hd1;have k2:1*V<=b*V:=akU _ hb1;have k3:1*U<=c*U:=akU _ hc1;have hU0:0<U:=by
      rcases al_ U with hu | hu
      ·exfalso;have hv:V=0:=by omega
       rw[hu,hv,amc,amc]at hy;omega
      ·exact hu
     exact⟨by omega,by omega⟩
    cases odd with
    | true=>
     obtain⟨f1,f2,f3,f4,f5⟩:=HG hgood (ak5 x hF0) (ak5 y hF0) (alP x (2 ^ f)).symm (alP y (2 ^ f)).symm;obtain⟨w1,w2⟩:=fin _ _ f4 f5 f3;have hgc:=xc f4 f5 (ang (ale (al3 _ _) _) (ale (alI _ _) _)) (ang (ale (alI _ _) _) (ale (al3 _ _) _));have hUl:=bO w2;have e0:(sgn (!true) b==0)=false:=by simp only[alK,cQ]; simp; omega
     have s1:sgn true a = -(a:Int):=rfl;have s2:sgn (!true) b=(b:Int):=rfl;have s3:sgn (!true) c=(c:Int):=rfl;have s4:sgn true d = -(d:Int):=rfl;rw[e0,akR,s1,s2,s3,s4,zn hN (by omega) (by omega) hal hbl hb1 f1,zo hN (by omega) (by omega) hcl hdl f2,ih _ (by omega) _ _ M rfl (by omega) (by omega) f3 (by omega),hgc]
    | false=>
     obtain⟨f1,f2,f3,f4,f5⟩:=Fm hgood (ak5 x hF0) (ak5 y hF0) (alP x (2 ^ f)).symm (alP y (2 ^ f)).symm;obtain⟨w1,w2⟩:=fin _ _ f4 f5 f3;have hgc:=xc f4 f5 (ang (ale (alI _ _) _) (ale (al3 _ _) _)) (ang (ale (al3 _ _) _) (ale (alI _ _) _));have hUl:=bO w2;have e0:(sgn (!false) b==0)=false:=by simp only[alu,cw]; simp; omega
     have s1:sgn false a=(a:Int):=rfl;have s2:sgn (!false) b = -(b:Int):=rfl;have s3:sgn (!false) c = -(c:Int):=rfl;have s4:sgn false d=(d:Int):=rfl;rw[e0,akR,s1,s2,s3,s4,zo hN (by omega) (by omega) hal hbl f1,zn hN (by omega) (by omega) hcl hdl hd1 f2,ih _ (by omega) _ _ M rfl (by omega) (by omega) f3 (by omega),hgc]
  ·rw[akQ (by omega),akR,FG hN _ y x N (by omega) (by omega) (by omega),alF];have hgl:(aj (Nat.gcd x y)).length<=134217728000:=by
    by_cases h0:x=0
    ·have hy0:y=0:=by omega
     rw[h0,hy0,anl,aV]; simp
    ·have:=bO (Nat.gcd_le_left y (anm h0));omega
   rw[aa (akP (by omega))]
 exact main s x y N hs hsN (ak3 _) hyx hxl
def It {N:Nat} (hN:1180591620717411303424<=N) {x y:Nat} (hf:x+y<N) (hxl:(aj x).length<=134217728000) (hyl:(aj y).length<=134217728000) (k:List Int->Bool):G4 N (aj x) (aj y) k=k (aj (Nat.gcd x y)):=by
 (unfold G4; rw[ae]; unfold Nb)
 rw[kn x y ⟨by omega,by omega⟩ ⟨by omega,by omega⟩];by_cases h:x<y
 ·have hc:decide (dw x y<0)=true:=by unfold dw; rw[if_pos h]; rfl
  rw[hc,akS,zb hN _ (y+x) y x rfl (by omega) (by omega) hyl,al7]
 ·have hc:decide (dw x y<0)=false:=by unfold dw; rw[if_neg h]; split <;> rfl
  rw[hc,akR,zb hN _ (x+y) x y rfl hf (by omega) hxl]
def zS {a b:Nat} (ha:a<4294967296) (hb:b<4294967296):aA .and .u32 (a:Int) (b:Int)=((a &&& b:Nat):Int):=by
 unfold aA rW;simp only[alD];have h32:(2:Nat) ^ 32=4294967296:=by decide
 have e:((BitVec.ofInt (IntKind.bits .u32) (a:Int)) &&& (BitVec.ofInt (IntKind.bits .u32) (b:Int))).toNat=a &&& b:=by show((BitVec.ofInt 32 (a:Int)) &&& (BitVec.ofInt 32 (b:Int))).toNat=_;rw[anz,alY,alY,al6,al6,ak0 (by omega),ak0 (by omega)]
 have hl:a &&& b<4294967296:=amp Nat.and_le_left ha;rw[e,Hw _ hl]
def KQ {t c:Nat} (h:2 ^ t*(2*c+1)<2 ^ 32):(2 ^ t*(2*c+1)) &&& (2 ^ 32 - 2 ^ t*(2*c+1))=2 ^ t:=by
 have ht0:0<2 ^ t:=ak4 t;have ht:t<32:=by
  rcases alQ t 32 with h1 | h1
  ·exact h1
  ·have h2:2 ^ 32<=2 ^ t:=ak6 (by decide) h1;have h3:2 ^ t*1<=2 ^ t*(2*c+1):=akX _ (by omega);omega
 have e1:2 ^ t*(2*c+1)=(2 ^ t*(2*c)+(2 ^ t - 1))+1:=by rw[ak7]; omega
 refine am5 λj=>?_
 rw[anO];have e2:(2 ^ 32 - 2 ^ t*(2*c+1)).testBit j=(decide (j<32) && !(2 ^ t*(2*c)+(2 ^ t - 1)).testBit j):=by
  conv=>lhs; rw[e1]
  exact anE (by rw[e1]at h; omega) j
 rw[e2,Nat.testBit_two_pow_mul,anP _ (by omega),amF];rcases anp j t with hj | hj | hj
 ·rw[akQ (by omega:¬ j>=t),akQ (by omega:¬ t=j)]; rfl
 ·subst hj;rw[if_neg (by omega),alq,akP (ak3 _),akP ht,akP rfl];have a1:(2*c+1).testBit 0=true:=by rw[anA]; simp
  have a2:(2*c).testBit 0=false:=by rw[anA]; simp
  rw[a1,a2]; rfl
 ·obtain⟨k,hk⟩:∃ k,j - t=k+1:=⟨j - t - 1,by omega⟩
  rw[if_neg (by omega),hk,akP (by omega:j>=t),akQ (by omega:¬ t=j),anB,anB];have a1:(2*c+1) / 2=c:=by omega
  have a2:2*c / 2=c:=by omega
  rw[a1,a2];cases c.testBit k <;> simp
def P1:∀ t:Fin 32,(inR (Int.fdiv (IntKind.wrap .u32 (((2 ^ t.val:Nat):Int)*125613361)) (2 ^ 27)) 32=true)/\(List.getD zK (Int.toNat (Int.fdiv (IntKind.wrap .u32 (((2 ^ t.val:Nat):Int)*125613361)) (2 ^ 27))) 0=(t.val:Int)):=by decide +kernel
def OE (N:Nat) {t c:Nat} (h:2 ^ t*(2*c+1)<4294967296) (k:Kz7):sQ7 N ((2 ^ t*(2*c+1):Nat):Int) k=k (t:Int):=by
 have h32:(2:Nat) ^ 32=4294967296:=by decide
 have ht0:0<2 ^ t:=ak4 t;have hx0:0<2 ^ t*(2*c+1):=amS ht0 (by omega);have ht:t<32:=by
  rcases alQ t 32 with h1 | h1
  ·exact h1
  ·have h2:2 ^ 32<=2 ^ t:=ak6 (by decide) h1;have h3:2 ^ t*1<=2 ^ t*(2*c+1):=akX _ (by omega);omega
 (unfold sQ7; rw[ae]; unfold GQ7)
 have ha:=KQ (t:=t) (c:=c) (by omega);rw[h32]at ha;generalize 2 ^ t*(2*c+1)=x at *;have e0:((x:Int)==0)=false:=by simp; omega
 have ew:IntKind.wrap .u32 (0 - (x:Int))=((4294967296 - x:Nat):Int):=by rw[cU]; omega
 obtain⟨t1,t2⟩:=P1 ⟨t,ht⟩;rw[e0,akR,ew,zS h (by omega),ha,aa t1,t2,aa akN]
def N4 {t c:Nat}:2 ^ t*(2*c+1) / 4294967296 ^ (t / 32)%4294967296=2 ^ (t%32)*(2*(c%2 ^ (31 - t%32))+1):=by
 have hs1:2 ^ (t%32)*2 ^ (32 - t%32)=4294967296:=by rw[<- ak9,show t%32+(32 - t%32)=32 by omega]
 rw[xw t,ak1,alr _ (aS _),<- hs1,amB];congr 1;have e1:2 ^ (32 - t%32)=2*2 ^ (31 - t%32):=by rw[show 32 - t%32=(31 - t%32)+1 by omega,ak2,akT]
 rw[e1];have e2:=am1 c (2 ^ (31 - t%32));generalize 2 ^ (31 - t%32)=P at *;generalize c / P=q at *;have hP:c%P<P\/P=0:=by
  rcases al_ P with h | h
  ·exact .inr h
  ·exact .inl (ak5 _ h)
 generalize c%P=r at *;have e3:2*c+1=(2*r+1)+2*P*q:=by rw[<- e2]; grind
 rw[e3,al8];rcases hP with h | h
 ·exact ak0 (by omega)
 ·subst h; simp
def H3 {t c i:Nat} (hi:i<t / 32):2 ^ t*(2*c+1) / 4294967296 ^ i%4294967296=0:=by
 have e:2 ^ t*(2*c+1)=4294967296 ^ (i+1)*(4294967296 ^ (t / 32 - (i+1))*(2 ^ (t%32)*(2*c+1))):=by rw[xw t,<- ak1,<- ak9,show i+1+(t / 32 - (i+1))=t / 32 by omega,ak1]
 rw[e,ak2,ak1,alr _ (aS i),anZ]
def Bx {N:Nat} {t c:Nat} (g:Bool) (hN:fj N (aj (2 ^ t*(2*c+1)))) (ht:t<140737488355328) (k:Kz7):sQ0 N g (aj (2 ^ t*(2*c+1))) k=k (t:Int):=by
 (unfold sQ0; rw[ae]; unfold GQ0)
 obtain⟨n1,n2⟩:=hN;have hd:=N4 (t:=t) (c:=c);have hgd:=λi=>oc i (2 ^ t*(2*c+1))
 have hlt:2 ^ t*(2*c+1) / 4294967296 ^ (t / 32)%4294967296<4294967296:=ak5 _ (by decide);have hwl:t / 32<(aj (2 ^ t*(2*c+1))).length:=by
  refine JT λh=>?_
  rw[h,Nat.zero_mod]at hd;have:=amS (ak4 (t%32)) (show 0<2*(c%2 ^ (31 - t%32))+1 by omega);omega
 have hbel:=λi=>H3 (t:=t) (c:=c) (i:=i)
 generalize aj (2 ^ t*(2*c+1))=l at *;refine aF (λi=>(i:Int)) (t / 32) rfl (by omega) (λi hi K=>?_) (λK=>?_)
 ·simp only[Kt,akW];have hz:(l.getD i 0 != 0)=false:=by rw[hgd,hbel i hi]; rfl
  rw[akP (by omega:(i:Int)<((l.length:Nat):Int)),akS,aa akO,hz,akR,aa akN];rfl
 ·simp only[Kt,akW];have hp:=amS (ak4 (t%32)) (show 0<2*(c%2 ^ (31 - t%32))+1 by omega);have hz:(l.getD (t / 32) 0 != 0)=true:=by rw[hgd,hd]; simp only[bne_iff_ne,ne_eq]; omega
  rw[akP (by omega:((t / 32:Nat):Int)<((l.length:Nat):Int)),akS,aa akO,hz,akS,aa akN,aa akO,hgd,hd,OE N (by rw[<- hd]; exact hlt),aa akN];congr 1;rw[aq]; omega
def krR (z:Int) (d:Nat) (k:Kx6):Bool:=k (decide (z<0)) (aj z.natAbs) false (aj d)
def kqR (x:Rat) (k:Kx6):Bool:=krR x.num x.den k
def Ox (g:Bool) (n d:Nat) (k:Kx6):k (sg g n) (aj n) false (aj d)=krR (aU g n) d k:=u_ g n (λa b=>k a b false (aj d))
def sf {B n:Nat} (hB:B<=2000000000100) (h:aR B n):(aj n).length<=62500000006:=by have:=AJ h; omega
def rK {N B n:Nat} (hF:Fuel N) (hB:B<=2000000000100) (h:aR B n):fj N (aj n):=by have h1:=sf hB h;have:=hF.lt;exact⟨by omega,by omega⟩
def IL (g:Bool) (n d:Nat) (h0:0<d):(mkRat (aU g n) d).num=aU g (n / Nat.gcd n d)/\(mkRat (aU g n) d).den=d / Nat.gcd n d:=by
 have e:(aU g n).natAbs=n:=by unfold aU; cases g <;> simp
 have hg:0<Nat.gcd n d:=alX _ h0;constructor
 ·rw[an4,if_neg (by omega),e,al7];have hh:((Nat.gcd n d:Nat):Int) ≠ 0:=by omega
  have e2:aU g n=((Nat.gcd n d:Nat):Int)*aU g (n / Nat.gcd n d):=by
   have hnn:n=Nat.gcd n d*(n / Nat.gcd n d):=(Nat.mul_div_cancel' (alI n d)).symm;have hc:(n:Int)=((Nat.gcd n d:Nat):Int)*((n / Nat.gcd n d:Nat):Int):=by rw[<- alb,<- hnn]
   unfold aU;cases g
   ·simpa using hc
   ·simp only[amt]; rw[hc,anN]
  rw[e2,amQ _ hh]
 ·rw[an5,if_neg (by omega),e,al7]
def Im (g:Bool) (n m:Nat):aU g (n*m)=aU g n*(m:Int):=by
 unfold aU; cases g
 ·simp
 ·simp[an3]
def VR {t c u e:Nat} (h:2 ^ (u - min t u)*(2*e+1)<2 ^ (u - min t u+1)):Nat.gcd (2 ^ (t - min t u)*(2*c+1)) (2 ^ (u - min t u)*(2*e+1))=1:=by
 have he:e=0:=by
  rcases al_ e with h1 | h1
  ·exact h1
  ·have:2 ^ (u - min t u)*2<=2 ^ (u - min t u)*(2*e+1):=akX _ (by omega);rw[ak2]at h; omega
 subst he;rw[amc,alk,amE];rcases Nat.le_total t u with h1 | h1
 ·rw[amh h1,alq,amL,amR];refine Nat.Coprime.pow_right _ ?_;show Nat.gcd (2*c+1) 2=1;rw[al7,anS];have:(2*c+1)%2=1:=by omega
  rw[this]; rfl
 ·rw[Nat.min_eq_right h1,alq,amL,Nat.gcd_one_right]
def Ho {t m c:Nat} (h:m<=t):2 ^ t*(2*c+1) / 2 ^ m=2 ^ (t - m)*(2*c+1):=by
 have:2 ^ t=2 ^ m*2 ^ (t - m):=by rw[<- ak9]; congr 1; omega
 rw[this,ak1,alr _ (ak4 m)]
def Kv {B t c:Nat} (h:aR B (2 ^ t*(2*c+1))):t<B:=by
 unfold aR at h;have h1:2 ^ t*1<=2 ^ t*(2*c+1):=akX _ (by omega);have h2:2 ^ t<2 ^ B:=by omega
 exact(Nat.pow_lt_pow_iff_right (by decide)).1 h2
def UW {t c:Nat}:bl (2 ^ t*(2*c+1))=t+1↔2 ^ t*(2*c+1)<2 ^ (t+1):=by
 have hp:=ak4 t;have h0:2 ^ t*(2*c+1) ≠ 0:=by have:=amS hp (show 0<2*c+1 by omega); omega
 constructor
 ·intro h; have:=yX (2 ^ t*(2*c+1)); rwa [h]at this
 ·intro h;have h1:=w_ h;have h2:=yX (2 ^ t*(2*c+1));have h3:2 ^ t*1<=2 ^ t*(2*c+1):=akX _ (by omega);have h4:2 ^ t<2 ^ bl (2 ^ t*(2*c+1)):=by omega
  have:=(Nat.pow_lt_pow_iff_right (by decide:1<2)).1 h4;omega
def fY {N B n:Nat} (hF:Fuel N) (hB:B<=2000000000100) (h:aR B n) (k:List Int->Bool):mA N (aj n) k=k (aj n):=by have h1:=sf hB h;have:=hF.lt;rw[JO _ (aZ n) (by omega) (by omega),aJ]
def Dt {N B:Nat} (hF:Fuel N) (hB:B<=2000000000100) (g:Bool) {n d:Nat} (hn:aR B n) (hd:aR B d) (hn0:n ≠ 0) (hd0:d ≠ 0) (J:List Int->List Int->Bool) (k:Kx6)
  (hJ:∀ a b:Nat,aR B a->aR B b->J (aj a) (aj b)=k (sg g a) (aj a) false (aj b)) :
  (sQ0 N false (aj n) (λ(nr:Int)=>(sQ0 N false (aj d) (λ(Y_:Int)=>
   (CK N (aj n) (cond (decide (Y_<nr)) Y_ nr) (λ(Zo:List Int)=>(CK N (aj d) (cond (decide (Y_<nr)) Y_ nr) (λ(Zn:List Int)=>(sQ0 N false Zn (λ(Ze:Int)=>((ac .i64 Ze)&&(Mt N false Zn (λ(Zt:Int)=>((ac .i64 (Zt - 1))&&(cond (Ze != (Zt - 1)) (G4 N Zo Zn (λ(s6:List Int)=>(sm N (λ(s7:List Int)=>(Ha N s6 s7 (λ(ZC:Int)=>(cond (ZC != 0) (yv N Zo s6 (λ(s8:List Int) (s9:List Int)=>(yv N Zn s6 (λ(s10:List Int) (s11:List Int)=>(J s8 s10))))) (J Zo Zn)))))))) (J Zo Zn))))))))))))))))
   = kqR (mkRat (aU g n) d) k:=by
 have hl:=hF.lt;have hbig:=hF.big;obtain⟨t,c,hnt⟩:=BN n hn0;obtain⟨u,e,hdu⟩:=BN d hd0;have htB:t<B:=Kv (by rw[<- hnt]; exact hn);have huB:u<B:=Kv (by rw[<- hdu]; exact hd);have sn:=rK hF hB hn;have sd:=rK hF hB hd;have ln:=sf hB hn;have ld:=sf hB hd;have z1:=λkk=>Bx (N:=N) (t:=t) (c:=c) false (by rw[<- hnt]; exact sn) (by omega) kk
 have z2:=λkk=>Bx (N:=N) (t:=u) (c:=e) false (by rw[<- hdu]; exact sd) (by omega) kk
 rw[<- hnt]at z1;rw[<- hdu]at z2;rw[z1,z2];obtain⟨m,hm⟩:∃ m,m=min t u:=⟨_,rfl⟩
 have em:cond (decide ((u:Int)<(t:Int))) (u:Int) (t:Int)=(m:Int):=by
  by_cases h:u<t
  ·rw[akP (by omega),akS,hm,Nat.min_eq_right (by omega)]
  ·rw[akQ (by omega),akR,hm,amh (by omega)]
 rw[em,rf (by omega) ⟨by omega,by omega⟩,rf (by omega) ⟨by omega,by omega⟩];have ha:n / 2 ^ m=2 ^ (t - m)*(2*c+1):=by rw[hnt]; exact Ho (by rw[hm]; exact Nat.min_le_left _ _)
 have hb:d / 2 ^ m=2 ^ (u - m)*(2*e+1):=by rw[hdu]; exact Ho (by rw[hm]; exact an8 _ _)
 have hbn:aR B (n / 2 ^ m):=bN hn;have hbd:aR B (d / 2 ^ m):=bN hd;have hmk:mkRat (aU g n) d=mkRat (aU g (n / 2 ^ m)) (d / 2 ^ m):=by
  have e1:n=n / 2 ^ m*2 ^ m:=by
   rw[ha,hnt,anV,<- ak9];congr 2; have:m<=t:=by rw[hm]; exact Nat.min_le_left _ _
   omega
  have e2:d=d / 2 ^ m*2 ^ m:=by
   rw[hb,hdu,anV,<- ak9];congr 2; have:m<=u:=by rw[hm]; exact an8 _ _
   omega
  conv=>lhs; rw[e1,e2,Im]
  rw[Rat.mkRat_mul_right (by have:=ak4 m; omega)]
 rw[hmk];obtain⟨a,hae⟩:∃ a,a=n / 2 ^ m:=⟨_,rfl⟩
 obtain⟨b,hbe⟩:∃ b,b=d / 2 ^ m:=⟨_,rfl⟩
 rw[<- hae]at ha hbn ⊢;rw[<- hbe]at hb hbd ⊢;have hb0:0<b:=by rw[hb]; exact amS (ak4 _) (by omega)
 have z3:=λkk=>Bx (N:=N) (t:=u - m) (c:=e) false (by rw[<- hb]; exact rK hF hB hbd) (by omega) kk
 rw[<- hb]at z3;have hblb:bl b<=B:=w_ hbd;have hbl0:0<bl b:=(NN (by omega)).1;rw[z3,aa akN,Bo false b (rK hF hB hbd),aa akN];obtain⟨i1,i2⟩:=IL g a b hb0;unfold kqR;rw[i1,i2];have fin1:Nat.gcd a b=1->J (aj a) (aj b)=krR (aU g (a / Nat.gcd a b)) (b / Nat.gcd a b) k:=by intro h;rw[hJ a b hbn hbd,Ox _ _ _ k,h,amG,amG]
 by_cases hp:bl b=u - m+1
 ·have:(((u - m:Nat):Int) != (bl b:Int) - 1)=false:=by simp; omega
  rw[this,akR];refine fin1 ?_;rw[ha,hb,hm];refine VR ?_;rw[<- hm];rw[hb]at hp;exact UW.1 hp
 ·have:(((u - m:Nat):Int) != (bl b:Int) - 1)=true:=by simp; omega
  have la:=sf hB hbn;have lb:=sf hB hbd;have hgp:0<Nat.gcd a b:=alX _ hb0;have hgb:aR B (Nat.gcd a b):=mF hbd (amU _ hb0);have lg:=sf hB hgb;have e1:aj 1=[1]:=uK (by decide) (by decide);rw[this,akS,It hbig (hF.sum (by omega) hbn hbd) (by omega) (by omega)];unfold sm Jn;dsimp only;rw[<- e1,kn _ 1 ⟨by omega,by omega⟩ ⟨by rw[e1]; simp; omega,by rw[e1]; simp⟩];by_cases hc:Nat.gcd a b=1
  ·have:(dw (Nat.gcd a b) 1 != 0)=false:=by rw[hc]; rfl
   rw[this,akR];exact fin1 hc
  ·have:(dw (Nat.gcd a b) 1 != 0)=true:=by unfold dw; rw[if_neg (by omega),if_neg hc]; rfl
   rw[this,akS,uU hbig hgp (by omega) (by omega),uU hbig hgp (by omega) (by omega),hJ _ _ (bN hbn) (bN hbd),Ox _ _ _ k]
def FH {α:Type} (c:Bool) (f:α->Bool) (a b:α):cond c (f a) (f b)=f (cond c a b):=by cases c <;> rfl
def uT {N B:Nat} (hF:Fuel N) (hB:B<=2000000000100) (g:Bool) {n d:Nat} (hn:aR B n) (hd:aR B d) (hd0:d ≠ 0) (b1 b2:Bool) (k:Kx6) :
  Mp N g (aj n) (aj d) b1 b2 k=kqR (mkRat (aU g n) d) k:=by
 have hl:=hF.lt;have hJ:∀ a b:Nat,aR B a->aR B b -> ∀ x y,KL N g x y b1 b2 (aj a) (aj b) k=k (sg g a) (aj a) false (aj b):=by
  intro a b ha hb x y;unfold KL G3 M3;rw[fY hF hB ha];unfold G9 Nu;dsimp only;rw[fY hF hB hb,fY hF hB hb];cases g
  ·rfl
  ·simp only[nQ,sg,alW]; rfl
 (unfold Mp; rw[ae]; unfold Sq)
 by_cases h0:n=0
 ·subst h0;rw[aV];show G3 N false [] b1 b2 _=_;have e0:aU g 0=0:=by unfold aU; cases g <;> rfl
  unfold G3 M3;rw[<- aV,fY hF (B:=10) (by decide) (by unfold aR; decide)];unfold sm Jn G9 Nu;have e1:aj 1=[1]:=uK (by decide) (by decide);dsimp only;rw[<- e1,fY hF (B:=10) (by decide) (by unfold aR; decide),fY hF (B:=10) (by decide) (by unfold aR; decide),e0,Rat.zero_mkRat];rfl
 ·have e0:((((aj n).length:Nat):Int)==0)=false:=by rw[cd h0]; simp; omega
  rw[e0,akR];have:=Dt hF hB g hn hd h0 hd0 (λx y=>KL N g (aj n) (aj d) b1 b2 x y k) k (λa b ha hb=>hJ a b ha hb _ _);rw[<- this];congr 1; funext nr; congr 1; funext Y_;exact FH (decide (Y_<nr)) (λz=>Nx N g (aj n) (aj d) b1 b2 z k) Y_ nr
def Ix {N B:Nat} (hF:Fuel N) (hB:B<=2000000000100) (g:Bool) {n d:Nat} (hn:aR B n) (hd:aR B d) (hd0:d ≠ 0) (b1 b2:Bool) (l1 l2:List Int) (k:Kx6) :
  Vz N g (aj n) (aj d) b1 l1 b2 l2 k=kqR (mkRat (aU g n) d) k:=by
 have hl:=hF.lt;have hJ:∀ a b:Nat,aR B a->aR B b -> ∀ x y,KM N g x y b1 l1 b2 l2 (aj a) (aj b) k=k (sg g a) (aj a) false (aj b):=by
  intro a b ha hb x y;unfold KM PI S7;rw[fY hF hB ha];unfold G9 Nu;dsimp only;rw[fY hF hB hb,fY hF hB hb];cases g
  ·rfl
  ·simp only[nQ,sg,alW]; rfl
 (unfold Vz; rw[ae]; unfold SM)
 by_cases h0:n=0
 ·subst h0;rw[aV];show PI N false [] b1 l1 b2 l2 _=_;have e0:aU g 0=0:=by unfold aU; cases g <;> rfl
  unfold PI S7;rw[<- aV,fY hF (B:=10) (by decide) (by unfold aR; decide)];unfold sm Jn G9 Nu;have e1:aj 1=[1]:=uK (by decide) (by decide);dsimp only;rw[<- e1,fY hF (B:=10) (by decide) (by unfold aR; decide),fY hF (B:=10) (by decide) (by unfold aR; decide),e0,Rat.zero_mkRat];rfl
 ·have e0:((((aj n).length:Nat):Int)==0)=false:=by rw[cd h0]; simp; omega
  rw[e0,akR];have:=Dt hF hB g hn hd h0 hd0 (λx y=>KM N g (aj n) (aj d) b1 l1 b2 l2 x y k) k (λa b ha hb=>hJ a b ha hb _ _);rw[<- this];congr 1; funext nr; congr 1; funext Y_;exact FH (decide (Y_<nr)) (λz=>Ny N g (aj n) (aj d) b1 l1 b2 l2 z k) Y_ nr
def Ir {N:Nat} (a:Bool) (l:List Int) (b:Bool) {d:Nat} (hd:d ≠ 0) (k:List Int->Bool):Pk N a l b (aj d) k=k (aj d):=by
 (unfold Pk; rw[ae]; unfold MV)
 have:((((aj d).length:Nat):Int)==0)=false:=by rw[cd hd]; simp; omega
 rw[this]; rfl
def fC {N:Nat} (a:Bool) (l:List Int) (b:Bool) {d:Nat} (hd:d ≠ 0) (k:List Int->Bool):sQ4 N a l b (aj d) k=k (aj d):=by
 (unfold sQ4; rw[ae]; unfold GQ4)
 have:((((aj d).length:Nat):Int)==0)=false:=by rw[cd hd]; simp; omega
 rw[this]; rfl
def oL {N B:Nat} (hF:Fuel N) (hB:B<=2000000000100) {a b:Nat} (ha:aR B a) (hb:aR B b) (k:List Int->Bool):Aa N (aj a) (aj b) k=k (aj (a*b)):=by have h1:=sf hB ha;have h2:=sf hB hb;have:=hF.lt;rw[yq _ _ (aZ _) (aZ _) (by omega) (by omega),aJ,aJ]
def OM {N B:Nat} (hF:Fuel N) (hB:B<=1000000000000) {x y:Rat} (hx:Bq B x) (hy:Bq B y) (b1 b2:Bool) (k:Kx6) :
  Vq N b1 b2 (decide (x.num<0)) (aj x.num.natAbs) false (aj x.den) (decide (y.num<0)) (aj y.num.natAbs) false (aj y.den) k=kqR (x*y) k:=by
 (unfold Vq; rw[ae]; unfold Sn)
 have hB2:B<=2000000000100:=by omega
 rw[oL hF hB2 hx.1 hy.1,fC _ _ _ x.den_nz,fC _ _ _ y.den_nz,oL hF hB2 hx.2 hy.2,
  uT hF (B:=B+B) (by omega) _ (du hx.1 hy.1) (du hx.2 hy.2) (aob x.den_nz y.den_nz),Bj,iD,iD,<- Rat.mul_def']
def OR {N B:Nat} (hF:Fuel N) (hB:B<=1000000000000) {x y:Rat} (hx:Bq B x) (hy:Bq B y) (h0:y.num ≠ 0) (b1 b2:Bool) (k:Kx6) :
  Vr N b1 b2 (decide (x.num<0)) (aj x.num.natAbs) false (aj x.den) (decide (y.num<0)) (aj y.num.natAbs) false (aj y.den) k=kqR (x / y) k:=by
 (unfold Vr; rw[ae]; unfold So)
 have hB2:B<=2000000000100:=by omega
 obtain⟨i1,i2,i3⟩:=Bg h0;rw[fC _ _ _ y.den_nz,oL hF hB2 hx.1 hy.2,fC _ _ _ x.den_nz,oL hF hB2 hx.2 hy.1,
  uT hF (B:=B+B) (by omega) _ (du hx.1 hy.2) (du hx.2 hy.1) (aob x.den_nz (by omega)),Bj,iD,Rat.div_def,Rat.mul_def',i2]
 have:aU (decide (y.num<0)) y.den=(y⁻¹).num:=by rw[<- i3,<- i1,iD]
 rw[this]
def OY {N B:Nat} (hF:Fuel N) (hB:B<=1000000000000) {x y:Rat} (hx:Bq B x) (hy:Bq B y) (k:Kx6) :
  Vs N (decide (x.num<0)) (aj x.num.natAbs) false (aj x.den) (decide (y.num<0)) (aj y.num.natAbs) false (aj y.den) k=kqR (x - y) k:=by
 (unfold Vs; rw[ae]; unfold Ss; unfold WQ; rw[ae]; unfold SS)
 have hB2:B<=2000000000100:=by omega
 have ha:=du hx.1 hy.2;have hb:=du hy.1 hx.2;have hB3:B+B+1<=2000000000100:=by omega
 rw[fC _ _ _ y.den_nz,oL hF hB2 hx.1 hy.2,fC _ _ _ x.den_nz,oL hF hB2 hy.1 hx.2];dsimp only;rw[fC _ _ _ x.den_nz,fC _ _ _ y.den_nz,oL hF hB2 hx.2 hy.2,
  Lt false _ _ _ _ (rK hF (by omega) ha) (rK hF (by omega) hb) (rK hF hB3 (w9 ha hb)),tF,tF]
 unfold vu;dsimp only;have hz:aR (B+B+1) (x.num*(y.den:Int) - y.num*(x.den:Int)).natAbs:=by
  refine mF (w9 ha hb) ?_;have e1:(x.num*(y.den:Int)).natAbs=x.num.natAbs*y.den:=by rw[amD,alN]
  have e2:(y.num*(x.den:Int)).natAbs=y.num.natAbs*x.den:=by rw[amD,alN]
  omega
 rw[Ix hF hB3 _ hz (bB (du hx.2 hy.2) (by omega)) (aob x.den_nz y.den_nz),iD,<- Rat.sub_def']
def yp {N:Nat} (x:Rat) (k:Kz7):G2 N (decide (x.num<0)) (aj x.num.natAbs) false (aj x.den) k=k (xG x.num):=by
 (unfold G2 Rx; unfold DN; rw[ae]; unfold xV xG)
 by_cases h0:x.num=0
 ·rw[h0,if_pos rfl];have:aj (0:Int).natAbs=[]:=aV;rw[this]; rfl
 ·have:((((aj x.num.natAbs).length:Nat):Int)==0)=false:=by rw[cd (by omega)]; simp; omega
  rw[this,akR,if_neg h0];by_cases h:x.num<0
  ·rw[akP h,akS,if_pos h]
  ·rw[akQ h,akR,if_neg h]
def zc (n:Nat):bE (aj n) (aj n).length=(aj n).length:=FK n
def OC {N B:Nat} (hF:Fuel N) (hB:B<=2000000000100) {x:Rat} (hx:Bq B x) (b1 b2:Bool) (l1 l2:List Int) (k:Kx6) :
  VG N (decide (x.num<0)) (aj x.num.natAbs) false (aj x.den) b1 l1 b2 l2 k=kqR x k:=by
 (unfold VG; rw[ae]; unfold SZ)
 have h1:=sf hB hx.1;have h2:=sf hB hx.2;have hl:=hF.lt;rw[alF,aa (akP (by omega)),Ir _ _ _ x.den_nz,alF,aa (akP (by omega))];unfold sq rR R9 RE;rw[mo _ (by omega) (by omega),zc];dsimp only;rw[mo _ (by omega) (by omega),mo _ (by omega) (by omega),zc];have e1:(List.take (aj x.num.natAbs).length (List.drop 0 (aj x.num.natAbs)))=aj x.num.natAbs:=by simp
 have e2:(List.take (aj x.den).length (List.drop 0 (aj x.den)))=aj x.den:=by simp
 have e3:decide (0+(aj x.num.natAbs).length<=(aj x.num.natAbs).length)=true:=akP (by omega);have e4:decide (0+(aj x.den).length<=(aj x.den).length)=true:=akP (by omega);rw[e1,e2,e3,e4];unfold kqR krR;by_cases h:x.num<0
 ·have:decide (((((aj x.num.natAbs).length:Nat):Nat):Int)>0)=true:=by rw[nQ]; exact akP (by omega)
  rw[akP h,this]; rfl
 ·rw[akQ h]; rfl
end Go.Proofs.YtbiingchhnlcnaaGreatDoor
end
