/- Laws in plain Lean. Conditions: none. -/
import Derived.Test.YtbiingchhnlcnaaGreatDoorC2
set_option linter.defProp false
set_option linter.unusedVariables false
section
namespace Go.Proofs.YtbiingchhnlcnaaGreatDoor
open Go Go.Mach
def nZ:∀(i V:Nat),(aj V).getD i 0=((V / 4294967296 ^ i%4294967296:Nat):Int)
 | i,V=>by
  by_cases h:V=0
  ·subst h; rw[aW]; simp
  ·rw[cE h];cases i with
   | zero=>simp
   | succ i=>
    show(aj (V / 4294967296)).getD i 0=_;rw[nZ i (V / 4294967296),aiG,aix,<- aiC]
def I3 {V w:Nat} (h:V / 4294967296 ^ w ≠ 0):w<(aj V).length:=by
 rcases ajs w (aj V).length with h1 | h1
 ·exact h1
 ·exfalso;have h2:=fo (ba V);rw[aK]at h2;exact h (ai0 (aiO h2 (aiK (by decide) h1)))
def ux {n:Nat} (h0:n ≠ 0) (h:n<4294967296):aj n=[(n:Int)]:=by rw[cE h0,ai0 h,aW,aiE h]
def Gd (Q n m:Nat) (h:m<n):(List.replicate (m+1) (0:Int)++(dl Q n).drop (m+1)).set m ((Q / 4294967296 ^ m%4294967296:Nat):Int)=List.replicate m 0++(dl Q n).drop m:=by rw[aj4,aiM,List.singleton_append,aZ _ _ _ _ _ (by simp),dq (n:=m) (by rw[al]; exact h),uy Q h]
def Bh {A d:Nat} (hd:0<d):(A / 4294967296%d*4294967296+A%4294967296)%d=A%d/\(A / 4294967296%d*4294967296+A%4294967296) / d=A / d%4294967296:=by
 have h1:=ajo A 4294967296;have h2:=ajo (A / 4294967296) d;have h3:=aiJ (A / 4294967296) hd;have h4:A%4294967296<4294967296:=aiJ _ (by decide);obtain⟨a,ha⟩:∃ a,a=A / 4294967296:=⟨_,rfl⟩
 obtain⟨e,he⟩:∃ e,e=A%4294967296:=⟨_,rfl⟩
 rw[<- ha]at h1 h2 h3 ⊢;rw[<- he]at h1 h4 ⊢;obtain⟨c,hc⟩:∃ c,c=a / d:=⟨_,rfl⟩
 obtain⟨r,hr⟩:∃ r,r=a%d:=⟨_,rfl⟩
 rw[<- hc,<- hr]at h2;rw[<- hr]at h3 ⊢;have h5:A=d*(c*4294967296)+(r*4294967296+e):=by rw[<- h1,<- h2,<- aiF,aiL,aix 4294967296,aix 4294967296]; omega
 constructor
 ·rw[h5,akE]
 ·rw[h5,alr hd,aix c,akE];refine(aiE ?_).symm;rw[aiD hd];have:=aiy 4294967296 h3;rw[aj1]at this;rw[aix _ d,aix d];rw[aix d]at this;omega
def jc (x:Nat):x<4294967296 ^ (aj x).length:=by have:=fo (ba x); rwa [aK]at this
def Va (c:List Int) (m:Nat):aE (c.take (m+3))=aE (c.take m)+4294967296 ^ m*((c.getD m 0).toNat+4294967296*((c.getD (m+2) 0).toNat*4294967296+(c.getD (m+1) 0).toNat)):=by rw[show m+3=m+2+1 by omega,aP,show m+2=m+1+1 by omega,aP,aP];simp only[aiG];generalize 4294967296 ^ m=P;grind
def U_ (c:List Int) (m:Nat):aE (c.take (m+2))=aE (c.take m)+4294967296 ^ m*((c.getD m 0).toNat+4294967296*(c.getD (m+1) 0).toNat):=by rw[show m+2=m+1+1 by omega,aP,aP];simp only[aiG];generalize 4294967296 ^ m=P;grind
def GO {b:List Int} {o i:Nat} (D:Nat) (h:o+i<=b.length):(b.take o++(dl D i++b.drop (o+i))).length=b.length:=by simp[al]; omega
def GN {b:List Int} {o i:Nat} (D:Nat) (h:o+i<b.length):(b.take o++(dl D i++b.drop (o+i))).getD (o+i) 0=b.getD (o+i) 0:=by rw[<- aiM,dq h,ci (by simp[al]; omega)]
def BD {b:List Int} {o i:Nat} (D:Nat) (h:o+i<b.length):(b.take o++(dl D i++b.drop (o+i))).set (o+i) ((D / 4294967296 ^ i%4294967296:Nat):Int)=b.take o++(dl D (i+1)++b.drop (o+(i+1))):=by rw[<- aiM,dq h,aZ _ _ _ _ _ (by simp[al]; omega),dl];simp[aja]
def GL {b:List Int} {o i n:Nat} (D E:Nat) (hi:i<=n) (h:o+n<=b.length):(b.take o++(dl E i++((dl D n).drop i++b.drop (o+n)))).length=b.length:=by simp[al]; omega
def GK {b:List Int} {o i n:Nat} (D E:Nat) (hi:i<n) (h:o+n<=b.length):(b.take o++(dl E i++((dl D n).drop i++b.drop (o+n)))).getD (o+i) 0=((D / 4294967296 ^ i%4294967296:Nat):Int):=by rw[<- aiM,dq (n:=i) (by rw[al]; exact hi),akc,ci (by simp[al]; omega),uy D hi]
def GM {b:List Int} {o i n:Nat} (D E:Nat) (hi:i<n) (h:o+n<=b.length):(b.take o++(dl E i++((dl D n).drop i++b.drop (o+n)))).set (o+i) ((E / 4294967296 ^ i%4294967296:Nat):Int)=b.take o++(dl E (i+1)++((dl D n).drop (i+1)++b.drop (o+n))):=by rw[<- aiM,dq (n:=i) (by rw[al]; exact hi),akc,aZ _ _ _ _ _ (by simp[al]; omega),dl];simp
def IJ {m:Nat} (S X:Nat):∀ n,n<=m->dl (S+4294967296 ^ m*X) n=dl S n
 | 0,_=>rfl
 | n+1,h=>by rw[dl,dl,IJ S X n (by omega)];congr 3;refine mZ (R:=4294967296 ^ (m - (n+1))*X) ?_;rw[<- aiF,<- aiN,show n+1+(m - (n+1))=m by omega]
def Bu {w:List Int} {n i U Q:Nat} (hw:InW w) (hl:w.length=n+1) (hU:U=aE w) (hi:i<=n) (hQ:Q<4294967296 ^ (n+1)) :
  (((w.getD i 0).toNat+4294967296 - Q / 4294967296 ^ i%4294967296 - (if aE (w.take i)<Q%4294967296 ^ i then 1 else 0))%4294967296=(U+4294967296 ^ (n+1) - Q) / 4294967296 ^ i%4294967296)
  /\ (if (w.getD i 0).toNat<Q / 4294967296 ^ i%4294967296+(if aE (w.take i)<Q%4294967296 ^ i then 1 else 0)then 1 else 0)=(if aE (w.take (i+1))<Q%4294967296 ^ (i+1)then 1 else(0:Nat)):=by
 have hx:=hw.at (i:=i);have hA:=aP (m:=w) i;have hAl:=bf hw i;have hp:=aT i;have hBl:=aiJ Q hp;have hPs:4294967296 ^ (i+1)=4294967296 ^ i*4294967296:=aiG ..;have hmm:Q%4294967296 ^ (i+1)=Q%4294967296 ^ i+4294967296 ^ i*(Q / 4294967296 ^ i%4294967296):=by rw[hPs,alk]
 have hyl:Q / 4294967296 ^ i%4294967296<4294967296:=aiJ _ (by decide);constructor
 ·obtain⟨R1,h1⟩:=ck w (i+1);have hW:4294967296 ^ (n+1)=4294967296 ^ i*4294967296*4294967296 ^ (n - i):=by rw[<- hPs,<- aiN,show i+1+(n - i)=n+1 by omega]
  have hq:=E0 (D:=U+4294967296 ^ (n+1) - Q) (a:=U+4294967296 ^ (n+1)) (b:=Q) (x:=(w.getD i 0).toNat) (y:=Q / 4294967296 ^ i%4294967296) (R1:=R1+4294967296 ^ (n - i)) (R2:=Q / (4294967296 ^ i*4294967296)) hAl hBl rfl
   (by rw[hU,h1,hA,hW,hPs,aiL]; omega)
   (by rw[<- hmm,hPs]; exact(akD _ _).symm)
   (by omega)
  generalize (U+4294967296 ^ (n+1) - Q) / 4294967296 ^ i=Z at *;generalize Q / 4294967296 ^ i%4294967296=y at *;generalize (w.getD i 0).toNat=x at *;generalize ((R1+4294967296 ^ (n - i):Nat):Int) - ((Q / (4294967296 ^ i*4294967296):Nat):Int)=RR at *;split at hq <;> rename_i hh <;> simp only[hh,aj6,ai2] <;> omega
 ·rw[hA,hmm];exact(o_ _ _ _ _ _ hAl hBl).symm
def zZ {D V c v i:Nat} (hc:c=(D%4294967296 ^ i+V) / 4294967296 ^ i) :
  (D%4294967296 ^ (i+1)+(V+4294967296 ^ i*v)) / 4294967296 ^ (i+1)=(D / 4294967296 ^ i%4294967296+v+c) / 4294967296 /\
  ∀ R,(D+(V+4294967296 ^ i*v+4294967296 ^ (i+1)*R)) / 4294967296 ^ i%4294967296=(D / 4294967296 ^ i%4294967296+v+c)%4294967296:=by
 have hp:=aT i;have hPs:4294967296 ^ (i+1)=4294967296 ^ i*4294967296:=aiG ..;have hmm:D%4294967296 ^ (i+1)=D%4294967296 ^ i+4294967296 ^ i*(D / 4294967296 ^ i%4294967296):=by rw[hPs,alk]
 have e:D%4294967296 ^ (i+1)+(V+4294967296 ^ i*v)=(D%4294967296 ^ i+V)+4294967296 ^ i*(D / 4294967296 ^ i%4294967296+v):=by rw[hmm,aiL]; omega
 have e2:(D%4294967296 ^ (i+1)+(V+4294967296 ^ i*v)) / 4294967296 ^ i=D / 4294967296 ^ i%4294967296+v+c:=by rw[e,eG,<- hc]; omega
 constructor
 ·rw[hPs,<- aiC,<- hPs,e2]
 ·intro R;have e3:D+(V+4294967296 ^ i*v+4294967296 ^ (i+1)*R)=(D%4294967296 ^ (i+1)+(V+4294967296 ^ i*v))+4294967296 ^ (i+1)*(D / 4294967296 ^ (i+1)+R):=by have:=akD D (4294967296 ^ (i+1));rw[aiL]; omega
  rw[mZ e3,e2]
def Ev {D V c i:Nat} (hc:c=(D%4294967296 ^ i+V) / 4294967296 ^ i) :
  (D%4294967296 ^ (i+1)+V) / 4294967296 ^ (i+1)=(D / 4294967296 ^ i%4294967296+0+c) / 4294967296 /\
  (D+V) / 4294967296 ^ i%4294967296=(D / 4294967296 ^ i%4294967296+0+c)%4294967296:=by
 obtain⟨a1,a2⟩:=zZ (v:=0) hc;have a3:=a2 0;rw[ajP,ai1 V]at a1;rw[ajP,ajP,ai1 V]at a3;exact⟨a1,a3⟩
def OT (n:Nat):dl n (aj n).length=aj n:=by refine List.ext_getElem (al n _) (λi h1 h2=>?_);have e1:=uy n h2;have e2:=nZ i n;rw[List.getD_eq_getElem?_getD,List.getElem?_eq_getElem h1,ajf]at e1;rw[List.getD_eq_getElem?_getD,List.getElem?_eq_getElem h2,ajf]at e2;rw[e1,e2]
def E7 {X L:Nat} (hX:X<4294967296 ^ L):∀ k,dl X (L+k)=dl X L++List.replicate k 0
 | 0=>by simp
 | k+1=>by rw[<- aja,dl,E7 hX k,ai0 (aiO hX (aiK (by decide) (akM _ _))),aj4,aiM];rfl
def qb (S:Nat):∀{m n:Nat},n<=m->(dl S m).take n=dl S n
 | 0,n,h=>by
  have:n=0:=by omega
  subst this; rfl
 | m+1,n,h=>by
  by_cases e:n=m+1
  ·subst e; rw[aiR (by rw[al]; omega)]
  ·rw[dl,ajv (by rw[al]; omega),qb S (by omega)]
def Cn (S a:Nat):∀ c,dl S (a+c)=dl S a++dl (S / 4294967296 ^ a) c
 | 0=>by simp[dl]
 | c+1=>by rw[<- aja,dl,Cn S a c,dl,aiC,<- aiN,aiM]
def Ag {V m:Nat} (h:V<4294967296 ^ m):bR (dl V m) m=(aj V).length:=by have h1:=uc (jw V m);rw[al,rj,aiE h]at h1;rw[<- h1,ai_,al];have:=kx (dl V m) m;omega
def Pl {V m:Nat} (h1:4294967296 ^ m<=V) (h2:V<4294967296 ^ (m+1)):(aj V).length=m+1:=by have a:=cN (m+1) V h2;have b:=I3 (V:=V) (w:=m) (by have:=akQ h1 (aT m); omega);omega
def Px {r x:Nat} (hr:r<4294967296) (hx:x<4294967296):aA .or .u64 (IntKind.wrap .u64 ((r:Int)*2 ^ 32)) (IntKind.wrap .u64 (x:Int))=((r*4294967296+x:Nat):Int):=by
 have p32:(2:Nat) ^ 32=4294967296:=by decide
 have q32:(2:Int) ^ 32=4294967296:=by decide
 have e1:IntKind.wrap .u64 ((r:Int)*2 ^ 32)=((2 ^ 32*r:Nat):Int):=by rw[q32,p32,aq]; omega
 have e2:IntKind.wrap .u64 (x:Int)=(x:Int):=by rw[aq]; omega
 rw[e1,e2,vn,cL _ _ 32 (by omega) (by omega),p32];congr 1; omega
def HK {N:Nat} {x d:Nat} (hd0:0<d) (hd:d<4294967296) (hs:fH N (aj x)) (k:List Int->Int->Bool):pD N (aj x) (d:Int) k=k (aj (x / d)) ((x%d:Nat):Int):=by
 (unfold pD; rw[ae]; unfold sF)
 obtain⟨s1,s2⟩:=hs;have hx:=jc x;generalize hn:(aj x).length=n at *;rw[aa (bP (by omega) (by omega) (by omega) (by omega)),aa air,aiA];have wd:IntKind.wrap .u64 (d:Int)=(d:Int):=by rw[aq]; omega
 have d1:(!decide ((d:Int)=0))=true:=by simp; omega
 refine aG (λi=>(((x / 4294967296 ^ (n - i)%d:Nat):Int),((n:Int) - 1 - (i:Int)),List.replicate (n - i) (0:Int)++(dl (x / d) n).drop (n - i))) n ?_ (by omega) (λi hi K=>?_) (λK=>?_)
 ·rw[akz,ai0 hx,Nat.zero_mod,aje (by rw[al]; omega),ai3];simp
 ·obtain⟨m,hm⟩:∃ m,n - i=m+1:=⟨n - i - 1,by omega⟩
  have hm2:n - (i+1)=m:=by omega
  have ei:(n:Int) - 1 - (i:Int)=(m:Int):=by omega
  have ei2:(n:Int) - 1 - ((i+1:Nat):Int)=(m:Int) - 1:=by omega
  have hp:x / 4294967296 ^ (m+1)=x / 4294967296 ^ m / 4294967296:=by rw[aiG,aiC]
  have hdg:x / d / 4294967296 ^ m%4294967296=x / 4294967296 ^ m / d%4294967296:=by rw[aiC,aiC,aix d]
  obtain⟨n1,n2⟩:=Bh (A:=x / 4294967296 ^ m) hd0;rw[hm,hm2,ei,ei2,hp];simp only[lS,aiA,wd];have hl:(List.replicate (m+1) (0:Int)++(dl (x / d) n).drop (m+1)).length=n:=by simp[al]; omega
  have hr:=aiJ (x / 4294967296 ^ m / 4294967296) hd0;have hq:(x / 4294967296 ^ m / 4294967296%d*4294967296+x / 4294967296 ^ m%4294967296) / d<4294967296:=by rw[n2]; exact aiJ _ (by decide)
  rw[ait (by omega:(m:Int)>=0),aiw,hn,aa ais,nZ,aa d1,hl,aa ais,aa (ait (by omega)),aa d1,aa air,Px (by omega) (aiJ _ (by decide))];have e1:∀ A:Nat,Int.tdiv (A:Int) (d:Int)=((A / d:Nat):Int):=λ_=>rfl
  have e2:∀ A:Nat,Int.tmod (A:Int) (d:Int)=((A%d:Nat):Int):=λ_=>rfl
  rw[e1,e2,n1,n2,<- hdg];have e3:IntKind.wrap .u32 (IntKind.wrap .u64 ((x / d / 4294967296 ^ m%4294967296:Nat):Int))=((x / d / 4294967296 ^ m%4294967296:Nat):Int):=by have:=aiJ (x / d / 4294967296 ^ m) (by decide:4294967296>0);generalize x / d / 4294967296 ^ m%4294967296=y at *;rw[aq,dH]; omega
  rw[e3,Gd _ _ _ (by omega)]
 ·simp only[lS];have e0:(n:Int) - 1 - (n:Int) = -1:=by omega
  rw[e0,aiu (by omega),aiv,ai4,akn,aki];rw[ai8,ajh,aj0];have hq:x / d<4294967296 ^ n:=aj2 (aj3 _ _) hx;have hr:=aiJ x hd0;have e3:IntKind.wrap .u32 ((x%d:Nat):Int)=((x%d:Nat):Int):=by rw[dH]; omega
  rw[e3,dM _ (jw _ _) (by rw[al]; omega) (by rw[al]; omega) (λz=>k z ((x%d:Nat):Int)),qT hq]
def Nj (N:Nat) {x:Nat} (hx:x<4294967296) (k:Kz5):TM N (x:Int) k=k ((32 - bl x:Nat):Int):=by unfold TM Uj;have:=wR (n:=x) (j:=32) (by rw[show(2:Nat) ^ 32=4294967296 by decide]; exact hx);rw[Cw N x hx,aa air];congr 1; omega
def DW:(2:Nat) ^ 32=4294967296:=by decide
def K_ {y:Nat} (h0:y ≠ 0) (hy:y<4294967296):32 - bl y<32/\2147483648<=y*2 ^ (32 - bl y)/\y*2 ^ (32 - bl y)<4294967296:=by
 have h1:=wR (n:=y) (j:=32) (by rw[DW]; exact hy);obtain⟨h2,h3⟩:=Mt h0;have h4:=yu y;have hp:0<2 ^ (32 - bl y):=aiI _;refine⟨by omega,?_,?_⟩
 ·have:=aiy (2 ^ (32 - bl y)) h3;rw[<- aiN,show bl y - 1+(32 - bl y)=31 by omega]at this;exact this
 ·have:=aji h4 hp;rw[<- aiN,show bl y+(32 - bl y)=32 by omega]at this;exact this
def HR {N:Nat} (m:List Int) (hm:InW m) (n:Nat) (hn:n<4294967296) (hN:m.length+n / 32+4<N) (hs:m.length<=1099511627776) (e0:List Int->Bool) :
  ah N (e_ N m ((n / 32:Nat):Int) ((n%32:Nat):Int) e0) (0,List.replicate (n / 32+m.length+1) (0:Int))=e0 (dl (aE m*2 ^ n) (n / 32+m.length+1)):=by
 generalize hw:n / 32=w at *;generalize hsh:n%32=s at *;have hs32:s<32:=by omega
 have hp2:2 ^ n=4294967296 ^ w*2 ^ s:=by rw[xf,hw,hsh]
 have hs0:0<2 ^ s:=aiI s;have hs1:2 ^ s*2 ^ (32 - s)=4294967296:=by rw[<- aiN,show s+(32 - s)=32 by omega]
 have hs2:2 ^ s<=2147483648:=by have:2 ^ s<=2 ^ 31:=aiK (by decide) (by omega);simpa using this
 let V:=aE m*2 ^ n
 let X:=aE m*2 ^ s
 have hVX:V=4294967296 ^ w*X:=by simp only[V,X]; rw[hp2,aiW]
 let T:=λi=>aE (m.take i)*2 ^ s
 let c:=λi=>T i / 4294967296 ^ i
 refine aG (N:=N) (λi=>((i:Int),dl V (w+i)++((c i:Nat):Int)::List.replicate (m.length - i) 0)) m.length ?_ (by omega) (λi hi K=>?_) (λK=>?_)
 ·congr 1;show List.replicate (w+m.length+1) (0:Int)=dl V w++((c 0:Nat):Int)::List.replicate m.length 0;rw[hVX,vV];have hc0:c 0=0:=by simp[c,T,aE]
  rw[hc0];have:w+m.length+1=w+(m.length+1):=by omega
  rw[this,<- aj8,ajd]; rfl
 ·have hx:=hm.at (i:=i);have hT:T (i+1)=T i+4294967296 ^ i*((m.getD i 0).toNat*2 ^ s):=by simp only[T,aP,aiY,aiF]
  have hq:T (i+1) / 4294967296 ^ i=c i+(m.getD i 0).toNat*2 ^ s:=by rw[hT,eG]
  have hci:c i<2 ^ s:=by simp only[c,T];rw[aiD (aT i),aix];exact ajC (bf hm i) hs0
  have hc1:c (i+1)=(c i+(m.getD i 0).toNat*2 ^ s) / 4294967296:=by rw[<- hq]; simp only[c]; rw[aiG,aiC]
  have hdig:V / 4294967296 ^ (w+i)%4294967296=(c i+(m.getD i 0).toNat*2 ^ s)%4294967296:=by rw[<- hq,hVX,aiN,<- aiC,ai5 _ (aT w)];obtain⟨R,hR⟩:=ck m (i+1);refine mZ (R:=R*2 ^ s) ?_;simp only[X,T];rw[hR,aiY,aiF]
  have hrep:List.replicate (m.length - i) (0:Int)=0::List.replicate (m.length - (i+1)) 0:=by rw[show m.length - i=(m.length - (i+1))+1 by omega,ajd]
  have hdl:=al V (w+i);have ei:Int.toNat ((w:Int)+(i:Int))=w+i:=by omega
  have ei1:Int.toNat ((w:Int)+(i:Int)+1)=w+i+1:=by omega
  have emin:min s 64=s:=by omega
  simp only[e_,aiA,ei,ei1,emin];rw[hrep,ci hdl.symm,aZ _ _ _ _ _ hdl.symm];have et:IntKind.wrap .u64 (IntKind.wrap .u64 (m.getD i 0)*2 ^ s)=(((m.getD i 0).toNat*2 ^ s:Nat):Int):=by
   have hxs:(m.getD i 0).toNat*2 ^ s<4294967296*2147483648:=ajc (by omega) hs2 (by decide);have e1:IntKind.wrap .u64 (m.getD i 0)=(((m.getD i 0).toNat:Nat):Int):=by rw[aq]; omega
   have e2:(((m.getD i 0).toNat:Nat):Int)*2 ^ s=(((m.getD i 0).toNat*2 ^ s:Nat):Int):=by simp
   rw[e1,e2,aq]; omega
  rw[et];generalize hxx:(m.getD i 0).toNat=x at *;have hx32:x<4294967296:=by omega
  have hlow:x*2 ^ s%4294967296=2 ^ s*(x%2 ^ (32 - s)):=by
   have e:x*2 ^ s%(2 ^ s*2 ^ (32 - s))=2 ^ s*(x%2 ^ (32 - s)):=by rw[aix x]; exact akd _ _ _
   rwa [hs1]at e
  have hsum:2 ^ s*(x%2 ^ (32 - s))+c i<4294967296:=by have h1:x%2 ^ (32 - s)+1<=2 ^ (32 - s):=aiJ _ (aiI _);have h2:=aiB (2 ^ s) h1;rw[hs1,aiL]at h2;omega
  have eor:aA .or .u32 ((c i:Nat):Int) (IntKind.wrap .u32 ((x*2 ^ s:Nat):Int))=((V / 4294967296 ^ (w+i)%4294967296:Nat):Int):=by
   have e1:IntKind.wrap .u32 ((x*2 ^ s:Nat):Int)=((2 ^ s*(x%2 ^ (32 - s)):Nat):Int):=by rw[<- hlow,dH]; omega
   rw[e1,rO _ _ s hci hsum,hdig];omega
  have ehi:IntKind.wrap .u32 (Int.fdiv ((x*2 ^ s:Nat):Int) (2 ^ 32))=((c (i+1):Nat):Int):=by have hxs:x*2 ^ s<4294967296*2147483648:=ajc hx32 hs2 (by decide);rw[kV,dH,hc1];omega
  rw[eor,ehi];have hl1:∀(a b:Int) (ys:List Int),(dl V (w+i)++a::b::ys).length=w+i+2+ys.length:=by intro a b ys; simp[hdl]; omega
  have hset2:(dl V (w+i)++((V / 4294967296 ^ (w+i)%4294967296:Nat):Int)::0::List.replicate (m.length - (i+1)) 0).set (w+i+1) ((c (i+1):Nat):Int)=dl V (w+(i+1))++((c (i+1):Nat):Int)::List.replicate (m.length - (i+1)) 0:=by
   have:dl V (w+i)++((V / 4294967296 ^ (w+i)%4294967296:Nat):Int)::0::List.replicate (m.length - (i+1)) 0=dl V (w+(i+1))++0::List.replicate (m.length - (i+1)) 0:=by rw[<- aja,dl]; simp
   rw[this];exact aZ _ _ _ _ _ (by rw[al]; omega)
  rw[hset2,hl1,hl1];simp only[ajO];rw[ait (by omega:(i:Int)<m.length),aiw,aa ais,aa (ait (by omega)),aa air,aa ais,aa (ait (by omega)),aa ais,aa (ait (by omega)),
   aa air,aa air,aa ais,aa (ait (by omega)),aa air]
  rfl
 ·simp only[e_];rw[aiu (by omega:¬(m.length:Int)<m.length),aiv,ai4,ai8];have hV:V<4294967296 ^ (w+m.length+1):=by have h1:=fo hm;simp only[V];rw[hp2,aiG,aiN,aiW,aiF];refine ajC ?_ (aT w);exact ajc h1 (by omega) (by decide)
  have hT:T m.length=X:=by simp only[T,X]; rw[ajb]
  have hend:dl V (w+m.length)++[((c m.length:Nat):Int)]=dl V (w+m.length+1):=by
   rw[dl];have:c m.length=V / 4294967296 ^ (w+m.length)%4294967296:=by simp only[c];rw[hT,hVX,aiN,<- aiC,ai5 _ (aT w)];rw[aiE];rw[aiD (aT _),aix];have h1:=fo hm;simp only[X];exact ajc h1 (by omega) (by decide)
   rw[this]
  rw[hend]
def tv {N:Nat} {m s:Nat} (hm:m ≠ 0) (hs:s<32) (hN:(aj m).length+4<N) (hl:(aj m).length<=1099511627776) (k0:Bool) (k1:Nat->List Int->Bool) :
  Ge N (aj m) (s:Int) k0 k1=k1 (aj (m*2 ^ s)).length (dl (m*2 ^ s) ((aj m).length+1)):=by
 have hlp:(aj m).length ≠ 0:=by rw[cE hm]; simp
 have hV:m*2 ^ s<4294967296 ^ ((aj m).length+1):=by
  rw[aiG];have h2:2 ^ s<4294967296:=by rw[<- DW]; exact Nat.pow_lt_pow_right (by decide) hs
  exact ajx (jc m) h2
 (unfold Ge; rw[ae]; unfold Lk)
 have e0:((((aj m).length:Nat):Int)==0)=false:=by simp; intro h; rw[h]at hlp; simp at hlp
 have ew:IntKind.wrap .u64 (Int.tdiv (s:Int) 32)=((s / 32:Nat):Int):=by rw[aq,ajw (by omega)]; omega
 have es:Int.tmod (s:Int) 32=((s%32:Nat):Int):=by rw[ajn (by omega)]; rfl
 have elen:Int.toNat (((s / 32:Nat):Int)+(((aj m).length:Nat):Int)+1)=s / 32+(aj m).length+1:=by omega
 rw[e0,aiv,ew,es,aa air,aa air,aa air,aa (bP (by omega) (by omega) (by omega) (by omega)),elen];have:=HR (N:=N) (aj m) (ba m) s (by omega) (by omega) hl (λYI=>qx N YI λmr=>k1 mr YI);rw[aK,show s / 32=0 by omega,aiZ]at this;rw[show s / 32=0 by omega,aiZ];refine Eq.trans this ?_;rw[mC _ (by rw[al]; omega) (by rw[al]; omega),al,Ag hV]
def Km {N:Nat} (b:List Int) (m:Nat) (hm:m<=b.length) (hN:m<N) (hs:m<9223372036854775807) (k:Kz6):tP N 0 m b k=k (bR b m):=by
 (unfold tP; rw[ae]; unfold sD)
 have key:∀ n,n<=m -> ∀ M,n<M->ah M (wG N 0 b λm_4=>k m_4) n=k (bR b n):=by
  intro n;induction n with
  | zero=>
   intro _ M hM;obtain⟨M,rfl⟩:∃ m,M=m+1:=⟨M - 1,by omega⟩
   show wG N 0 b _ 0 _=_;simp only[wG,bR];rw[aiu (by omega:¬((0:Nat):Int)>0),show(false==true)=false from rfl,aiv]
  | succ n ih=>
   intro hn M hM;obtain⟨M,rfl⟩:∃ m,M=m+1:=⟨M - 1,by omega⟩
   show wG N 0 b _ (n+1) (ah M _)=_;have e:0+Int.toNat (((n+1:Nat):Int) - 1)=n:=by omega
   have e2:Int.toNat (((n+1:Nat):Int) - 1) - 0=n:=by omega
   simp only[wG,e,e2];rw[ait (by omega:((n+1:Nat):Int)>0),show(true==true)=true from rfl,aiw,aa air,aa ais,aa (ait (by omega)),aa air,aa (ait (by omega)),ih (by omega) M (by omega),pb];by_cases h0:b.getD n 0=0
   ·have:(b.getD n 0==0)=true:=by simpa using h0
    rw[this,if_pos h0]; rfl
   ·have:(b.getD n 0==0)=false:=by simpa using h0
    rw[this,if_neg h0]; rfl
 exact key m (aiH _) N hN
def DF {N:Nat} (b:List Int) (hb:InW b) (m s:Nat) (hm:m<=b.length) (hs:s<32) (hN:m+3<N) (hms:m<=1099511627780) (k:Kz9):Oa N 0 m (s:Int) b k=k (aj (aE (b.take m) / 2 ^ s)):=by
 have ew:IntKind.wrap .u64 (Int.tdiv (s:Int) 32)=0:=by rw[aq,ajw (by omega)]; omega
 have es:Int.tmod (s:Int) 32=(s:Int):=by rw[ajn (by omega)]; omega
 have hs0:0<2 ^ s:=aiI _
 (unfold Oa; rw[ae]; unfold LW)
 by_cases h0:m=0
 ·subst h0;rw[ew,akK,show aE []=0 from rfl,Nat.zero_div,aW];rfl
 ·have emin:min s 64=s:=by omega
  rw[ew,es,aa air,aiu (by omega:¬(0:Int)>=(m:Int)),aiv];have hw:InW (b.take m):=hb.take m;have hwl:(b.take m).length=m:=by rw[ai_]; omega
  have hwg:∀ i,i<m->(b.take m).getD i 0=b.getD i 0:=λi hi=>uB hi
  obtain⟨X,hX⟩:∃ X,X=aE (b.take m) / 2 ^ s:=⟨_,rfl⟩
  have elen2:(m:Int) - 0=(m:Int):=by omega
  rw[elen2,aa air,aa (bP (by omega) (by omega) (by omega) (by omega)),aiA,<- hX];refine aG (λi=>((i:Int),dl X i++List.replicate (m - i) 0)) m (by simp[dl]) (by omega) (λi hi K=>?_) (λK=>?_)
  ·have hx:=hw.at (i:=i);have hy:=hw.at (i:=i+1);have hset:=An X i m (by omega);have hl:(dl X i++List.replicate (m - i) (0:Int)).length=m:=by simp[al]; omega
   obtain⟨R,hR⟩:=Cl hw i;have hdig:X / 4294967296 ^ i%4294967296=(((b.take m).getD i 0).toNat+4294967296*((b.take m).getD (i+1) 0).toNat) / 2 ^ s%4294967296:=by
    rw[hX,aiC,aix (2 ^ s),<- aiC,hR];have e2:4294967296*4294967296*R=2 ^ s*(4294967296*(2 ^ (32 - s)*R)):=by
     have hs1:2 ^ s*2 ^ (32 - s)=4294967296:=by rw[<- aiN,show s+(32 - s)=32 by omega]
     rw[aiW (2 ^ s),<- aiF (2 ^ s),hs1,aiF]
    rw[e2,ajq _ _ hs0,ajK]
   have hfin:∀ z:Int,z=((((b.take m).getD i 0).toNat+4294967296*((b.take m).getD (i+1) 0).toNat:Nat):Int)->IntKind.wrap .u32 (Int.fdiv z (2 ^ s))=((X / 4294967296 ^ i%4294967296:Nat):Int):=by
    intro z hz;have e:(2:Int) ^ s=((2 ^ s:Nat):Int):=by simp
    rw[hdig,hz,e,ajX _ (by omega),dH];rfl
   have ea:(0:Int)+(i:Int)=(i:Int):=by omega
   have ei:0+Int.toNat (i:Int)=i:=by omega
   have ei1:Int.toNat ((i:Int)+1)=i+1:=by omega
   simp only[jb,ea,ei1,aiA,aiZ,emin,hl];rw[ait (by omega:(i:Int)<m),aiw,aa air,aa ais,aa (ait (by omega)),aa air,aa air];rw[<- hwg i hi];by_cases hlast:i+1<m
   ·rw[<- hwg (i+1) hlast];rw[ait (by omega:(i:Int)+1<m),aiw,aa air,aa air,aa ais,aa (ait (by omega)),aa (ait (by omega)),aa ais,aa (ait (by omega)),aa air];have e1:IntKind.wrap .u64 ((b.take m).getD i 0)=((((b.take m).getD i 0).toNat:Nat):Int):=by rw[aq]; omega
    have e2:IntKind.wrap .u64 (IntKind.wrap .u64 ((b.take m).getD (i+1) 0)*2 ^ 32)=((2 ^ 32*((b.take m).getD (i+1) 0).toNat:Nat):Int):=by
     have:(2:Int) ^ 32=4294967296:=by decide
     have:(2:Nat) ^ 32=4294967296:=by decide
     rw[aq,aq]; omega
    have p32:(2:Nat) ^ 32=4294967296:=by decide
    rw[e1,e2,cL _ _ 32 (by omega) (by omega),hfin _ (by omega),hset,lw]
   ·rw[aiu (by omega:¬(i:Int)+1<m),aiv,aa (ait (by omega)),aa ais,aa (ait (by omega)),aa air];have hz:(b.take m).getD (i+1) 0=0:=eI (by omega);have e1:IntKind.wrap .u64 ((b.take m).getD i 0)=((((b.take m).getD i 0).toNat:Nat):Int):=by rw[aq]; omega
    rw[e1,hfin _ (by rw[hz]; simp),hset,lw]
  ·simp only[jb];have hl:(dl X m++List.replicate (m - m) (0:Int)).length=m:=by simp[al]
   rw[aiu (by omega:¬(m:Int)<(((dl X m++List.replicate (m - m) (0:Int)).length:Nat):Int)),aiv,ai4,ai8,ai3];have hXl:X<4294967296 ^ m:=by have h1:=fo hw;rw[hwl]at h1;rw[hX];exact aj2 (aj3 _ _) h1
   rw[dM _ (jw X m) (by rw[al]; omega) (by rw[al]; omega),qT hXl]
def Tq {A B r u0:Nat} (h:r*4294967296+u0<A):B+r*4294967296+u0<B+A:=by omega
def Dq {N:Nat} {s5:Int} {ul j n u0 v0 v1 T d:Nat} {b c ql:List Int} (hn:2<=n) (hc1:c.getD (n - 2) 0=(v0:Int)) (hb:b.getD (j+n - 2) 0=(u0:Int)) (hcl:n<=c.length) (hul:j+n<ul) (hbl:ul<=b.length) (hbs:b.length<=1099511627780)
  (hv0:v0<4294967296) (hv1:v1<4294967296) (hu0:u0<4294967296) (hTl:T<4294967296*v1+4294967296) (hd:∀ g,T*4294967296+u0<g*(v1*4294967296+v0)->d<g) (hdW:d<4294967296) :
  ∀ g r M,g<M->g<=4294967299->g*v1+r=T->r<4294967296->d<=g ->
   ∃ q,d<=q/\q<4294967296/\q*(v1*4294967296+v0)<=T*4294967296+u0 /\ ∀ e0,ah M (pU N s5 n ul (n:Int) (v1:Int) (j:Int) c b ql e0) ((g:Int),(r:Int))=e0 (q:Int):=by
 intro g;induction g using Nat.strongRecOn with
 | ind g ih=>
 intro r M hM hgb hT hr hdg;obtain⟨M,rfl⟩:∃ m,M=m+1:=⟨M - 1,by omega⟩
 have i2:0+Int.toNat ((n:Int) - 2)=n - 2:=by omega
 have j2:0+Int.toNat ((j:Int)+(n:Int) - 2)=j+n - 2:=by omega
 have dec:∀ p,g=p+1->d<=p -> ∃ q,d<=q/\q<4294967296/\q*(v1*4294967296+v0)<=T*4294967296+u0 /\ ∀ e0,cond (decide ((IntKind.wrap .u64 ((r:Int)+(v1:Int)))>=4294967296)) (e0 (IntKind.wrap .u64 ((g:Int) - 1))) (ah M (pU N s5 n ul (n:Int) (v1:Int) (j:Int) c b ql e0) ((IntKind.wrap .u64 ((g:Int) - 1)),(IntKind.wrap .u64 ((r:Int)+(v1:Int)))))=e0 (q:Int):=by
  intro p hp hdp;subst hp;have w1:IntKind.wrap .u64 (((p+1:Nat):Int) - 1)=(p:Int):=GP p (by omega);have w2:IntKind.wrap .u64 ((r:Int)+(v1:Int))=((r+v1:Nat):Int):=by rw[aq]; omega
  rw[w1,w2];by_cases hb2:4294967296<=r+v1
  ·have hpl:p<4294967296:=by
    rcases ajs p 4294967296 with h | h
    ·exact h
    ·exfalso;have:=aiy v1 h;rw[aj1]at hT;omega
   refine⟨p,hdp,hpl,AA hv0 (by omega) hT hb2,λe0=>?_⟩;rw[ait (by omega),aiw]
  ·obtain⟨q,q1,q2,q3,q4⟩:=ih p (by omega) (r+v1) M (by omega) (by omega) (by rw[<- hT,aj1]; omega) (by omega) hdp;exact⟨q,q1,q2,q3,λe0=>by rw[aiu (by omega),aiv]; exact q4 e0⟩
 by_cases hg:4294967296<=g
 ·obtain⟨q,q1,q2,q3,q4⟩:=dec (g - 1) (by omega) (by omega);refine⟨q,q1,q2,q3,λe0=>?_⟩;show pU N s5 n ul (n:Int) (v1:Int) (j:Int) c b ql e0 (_,_) (ah M _)=_;simp only[pU];rw[ait (by omega:(g:Int)>=4294967296),show(true==false)=false from rfl,aiv];exact q4 e0
 ·have hgv:g*v0<=4294967295*4294967295:=ajl (by omega) (by omega);have wv0:IntKind.wrap .u64 (v0:Int)=(v0:Int):=by rw[aq]; omega
  have wgv:IntKind.wrap .u64 ((g:Int)*(v0:Int))=((g*v0:Nat):Int):=by rw[<- aiQ,aq]; omega
  have e1:T*4294967296+u0=g*v1*4294967296+r*4294967296+u0:=by rw[<- hT,aiY]
  have e2:g*(v1*4294967296+v0)=g*v1*4294967296+g*v0:=by rw[aiL,aiF]
  have body:∀ e0:Int->Bool,ah (M+1) (pU N s5 n ul (n:Int) (v1:Int) (j:Int) c b ql e0) ((g:Int),(r:Int))=cond (decide (((g*v0:Nat):Int)>((r*4294967296+u0:Nat):Int))) (cond (decide ((IntKind.wrap .u64 ((r:Int)+(v1:Int)))>=4294967296)) (e0 (IntKind.wrap .u64 ((g:Int) - 1))) (ah M (pU N s5 n ul (n:Int) (v1:Int) (j:Int) c b ql e0) ((IntKind.wrap .u64 ((g:Int) - 1)),(IntKind.wrap .u64 ((r:Int)+(v1:Int)))))) (e0 (g:Int)):=by intro e0;show pU N s5 n ul (n:Int) (v1:Int) (j:Int) c b ql e0 (_,_) (ah M _)=_;simp only[pU,i2,j2,hc1,hb,wv0,wgv];rw[aiu (by omega:¬(g:Int)>=4294967296),show(false==false)=true from rfl,aiw,aa air,aa ais,aa (ait (by omega)),aa air,aa air,aa ais,aa (ait (by omega)),Px hr hu0]
  by_cases ht:r*4294967296+u0<g*v0
  ·have hlt1:g*v1*4294967296+r*4294967296+u0<g*v1*4294967296+g*v0:=Tq ht;have hlt:d<g:=hd g (aj2 (akB e1) (aiO hlt1 (akB e2.symm)));obtain⟨q,q1,q2,q3,q4⟩:=dec (g - 1) (by omega) (by omega);exact⟨q,q1,q2,q3,λe0=>by rw[body,ait (by omega),aiw]; exact q4 e0⟩
  ·exact⟨g,hdg,by omega,aiU (akB e2) (aiU (by omega) (akB e1.symm)),λe0=>by rw[body,aiu (by omega),aiv]⟩
def Kp {N:Nat} {j n ul g U V:Nat} {b c:List Int} (hN:n<N) (hb:InW b) (hc:InW c) (hcl:n<=c.length) (hul:j+n<ul) (hbl:ul<=b.length) (hbs:b.length<=1099511627780) (hg:g<4294967296) (hU:U=aE ((b.drop j).take (n+1))) (hV:V=aE (c.take n)) (k:Ky5) :
  N5 N 0 ul 0 n (j:Int) (g:Int) b c k=k (decide (U<g*V)) (b.take j++(dl (U+4294967296 ^ (n+1) - g*V) (n+1)++b.drop (j+(n+1)))):=by
 (unfold N5; rw[ae]; unfold LJ)
 have hw:InW ((b.drop j).take (n+1)):=(hb.drop j).take _;have hwl:((b.drop j).take (n+1)).length=n+1:=by rw[ai_,aj5]; omega
 have hwg:∀ i,i<=n->((b.drop j).take (n+1)).getD i 0=b.getD (j+i) 0:=λi hi=>by rw[uB (by omega),ky]
 generalize (b.drop j).take (n+1)=w at *;have hVl:V<4294967296 ^ n:=by rw[hV]; exact bf hc n
 have hgV:g*V<4294967296 ^ (n+1):=by rw[aiG,aix];exact ajx hVl hg
 obtain⟨D,hD⟩:∃ D,D=U+4294967296 ^ (n+1) - g*V:=⟨_,rfl⟩
 obtain⟨Q,hQ⟩:∃ Q,Q=g*V:=⟨_,rfl⟩
 have hQW:Q<4294967296 ^ (n+1):=by rw[hQ]; exact hgV
 rw[<- hD];refine aG (λi=>(((g*aE (c.take i) / 4294967296 ^ i:Nat):Int),((if aE (w.take i)<Q%4294967296 ^ i then 1 else 0:Nat):Int),(i:Int),b.take j++(dl D i++b.drop (j+i)))) n ?_ (by omega) (λi hi K=>?_) (λK=>?_)
 ·simp[dl,aE,alj]
 ·have hx:=hb.at (i:=j+i);have hy:=hc.at (i:=i);have hcv:=aP (m:=c) i;have hp:=aT i;have hVi:=bf hc i;obtain⟨s1,s2⟩:=Bu hw hwl hU (by omega:i<=n) hQW;rw[hwg i (by omega)]at s1 s2;rw[hQ,<- hD,<- hQ]at s1;obtain⟨cy,hcy⟩:∃ cy,cy=g*aE (c.take i) / 4294967296 ^ i:=⟨_,rfl⟩
  have hcyl:cy<4294967296:=by rw[hcy,aiD hp];exact ajx hg hVi
  have e1:g*aE (c.take (i+1))=g*aE (c.take i)+4294967296 ^ i*(g*(c.getD i 0).toNat):=by rw[hcv,aiL,aiW g]
  have ecy:g*aE (c.take (i+1)) / 4294967296 ^ (i+1)=(g*(c.getD i 0).toNat+cy) / 4294967296:=by rw[aiG,<- aiC,e1,eG,<- hcy];congr 1; omega
  obtain⟨R,hR⟩:=ck (c.take n) (i+1);rw[alz,ajU (by omega),<- hV]at hR;have elo:Q / 4294967296 ^ i%4294967296=(g*(c.getD i 0).toNat+cy)%4294967296:=by
   have:Q=g*aE (c.take (i+1))+4294967296 ^ (i+1)*(g*R):=by rw[hQ,hR,aiL,aiW g]
   rw[mZ this,e1,eG,<- hcy];congr 1; omega
  rw[elo]at s1 s2;have ei:0+Int.toNat ((j:Int)+(i:Int))=j+i:=by omega
  have hgy:g*(c.getD i 0).toNat<=4294967295*4294967295:=ajl (by omega) (by omega);have wy:IntKind.wrap .u64 (c.getD i 0)=(((c.getD i 0).toNat:Nat):Int):=by rw[aq]; omega
  have wp:IntKind.wrap .u64 ((g:Int)*(((c.getD i 0).toNat:Nat):Int))=((g*(c.getD i 0).toNat:Nat):Int):=by rw[<- aiQ,aq]; omega
  have wpc:IntKind.wrap .u64 (((g*(c.getD i 0).toNat:Nat):Int)+(cy:Int))=((g*(c.getD i 0).toNat+cy:Nat):Int):=by rw[aq]; omega
  have wx:IntKind.wrap .u64 (b.getD (j+i) 0)=(((b.getD (j+i) 0).toNat:Nat):Int):=by rw[aq]; omega
  have hcf:Int.fdiv ((g*(c.getD i 0).toNat+cy:Nat):Int) (2 ^ 32)=((g*aE (c.take (i+1)) / 4294967296 ^ (i+1):Nat):Int):=by rw[kV,ecy]; rfl
  simp only[gT,aiA,aiZ];have ei':Int.toNat ((j:Int)+(i:Int))=j+i:=by omega
  rw[ei',GO D (by omega),GN D (by omega),ait (by omega:(i:Int)<(n:Int)),aiw,aa ais,aa (ait (by omega)),aa air,aa ais,aa (ait (by omega)),<- hcy,wy,wp,wpc,wx,EA,hcf];generalize (g*(c.getD i 0).toNat+cy)%4294967296=lo at *;have hlo:lo<4294967296:=by rw[<- elo]; exact aiJ _ (by decide)
  obtain⟨bo,hbo⟩:∃ bo:Nat,bo=if aE (w.take i)<Q%4294967296 ^ i then 1 else 0:=⟨_,rfl⟩
  have hbo1:bo<=1:=by rw[hbo]; split <;> omega
  rw[<- hbo]at s1 s2 ⊢;obtain⟨x,hxe⟩:∃ x,x=(b.getD (j+i) 0).toNat:=⟨_,rfl⟩
  rw[<- hxe]at s1 s2 ⊢;have hxl:x<4294967296:=by omega
  have wlb:IntKind.wrap .u64 ((lo:Int)+(bo:Int))=((lo+bo:Nat):Int):=by rw[aq]; omega
  rw[wlb];by_cases hlt:x<lo+bo
  ·rw[if_pos hlt]at s2;have wv:IntKind.wrap .u32 (IntKind.wrap .u64 (IntKind.wrap .u64 ((x:Int)+4294967296) - ((lo+bo:Nat):Int)))=((D / 4294967296 ^ i%4294967296:Nat):Int):=by rw[<- s1,aq,aq,dH]; omega
   rw[ait (by omega),aiw,wv,aa air,aa ais,aa (ait (by omega)),aa air,BD D (by omega),<- s2,lw];rfl
  ·rw[if_neg hlt]at s2;have wv:IntKind.wrap .u32 (IntKind.wrap .u64 ((x:Int) - ((lo+bo:Nat):Int)))=((D / 4294967296 ^ i%4294967296:Nat):Int):=by rw[<- s1,aq,dH]; omega
   rw[aiu (by omega),aiv,wv,aa air,aa ais,aa (ait (by omega)),aa air,BD D (by omega),<- s2,lw];rfl
 ·have hx:=hb.at (i:=j+n);obtain⟨s1,s2⟩:=Bu hw hwl hU (aiH n) hQW;rw[hwg n (by omega)]at s1 s2;rw[hQ,<- hD,<- hQ]at s1;have hql:Q / 4294967296 ^ n<4294967296:=by rw[aiD (aT n),aix,<- aiG]; exact hQW
  rw[aiE hql]at s1 s2;have hwt:w.take (n+1)=w:=aiR (by omega);rw[hwt,<- hU,aiE hQW]at s2;simp only[gT];have ei':0+Int.toNat ((j:Int)+(n:Int))=j+n:=by omega
  rw[aiu (by omega:¬(n:Int)<(n:Int)),aiv,<- hV,<- hQ];rw[ei',GO D (by omega),GN D (by omega),aa air,aa ais,aa (ait (by omega)),aa air,aa ais,aa (ait (by omega))];obtain⟨y,hy⟩:∃ y,y=Q / 4294967296 ^ n:=⟨_,rfl⟩
  rw[<- hy]at s1 s2 hql ⊢;obtain⟨bo,hbo⟩:∃ bo:Nat,bo=if aE (w.take n)<Q%4294967296 ^ n then 1 else 0:=⟨_,rfl⟩
  have hbo1:bo<=1:=by rw[hbo]; split <;> omega
  rw[<- hbo]at s1 s2 ⊢;have wx:IntKind.wrap .u64 (b.getD (j+n) 0)=(((b.getD (j+n) 0).toNat:Nat):Int):=by rw[aq]; omega
  rw[wx];obtain⟨x,hxe⟩:∃ x,x=(b.getD (j+n) 0).toNat:=⟨_,rfl⟩
  rw[<- hxe]at s1 s2 ⊢;have hxl:x<4294967296:=by omega
  have wlb:IntKind.wrap .u64 ((y:Int)+(bo:Int))=((y+bo:Nat):Int):=by rw[aq]; omega
  have wv:IntKind.wrap .u32 (IntKind.wrap .u64 ((x:Int) - ((y+bo:Nat):Int)))=((D / 4294967296 ^ n%4294967296:Nat):Int):=by rw[<- s1,aq,dH]; omega
  rw[wlb,wv,BD D (by omega)];have hdec:decide ((x:Int)<((y+bo:Nat):Int))=decide (U<Q):=by
   by_cases h1:U<Q
   ·rw[if_pos h1]at s2;rw[ait h1];refine ait ?_;split at s2 <;> omega
   ·rw[if_neg h1]at s2;rw[aiu h1];refine aiu ?_;split at s2 <;> omega
  rw[hdec]
def Ks {N:Nat} {j n ul D V:Nat} {b c:List Int} (hN:n<N) (hc:InW c) (hcl:n<=c.length) (hul:j+n<ul) (hbl:ul<=b.length) (hbs:b.length<=1099511627780) (hV:V=aE (c.take n)) (k:Kz9) :
  N6 N 0 ul 0 n (j:Int) (b.take j++(dl D (n+1)++b.drop (j+(n+1)))) c k=k (b.take j++(dl (D+V) (n+1)++b.drop (j+(n+1)))):=by
 (unfold N6; rw[ae]; unfold LM)
 obtain⟨E,hE⟩:∃ E,E=D+V:=⟨_,rfl⟩
 rw[<- hE];refine aG (λi=>((((D%4294967296 ^ i+aE (c.take i)) / 4294967296 ^ i:Nat):Int),(i:Int),b.take j++(dl E i++((dl D (n+1)).drop i++b.drop (j+(n+1)))))) n ?_ (by omega) (λi hi K=>?_) (λK=>?_)
 ·simp[dl,aE,alj]
 ·have hx:=hc.at (i:=i);have hcv:=aP (m:=c) i;have hVl:=bf hc i;have hp:=aT i;have hml:=aiJ D hp;obtain⟨cy,hcy⟩:∃ cy,cy=(D%4294967296 ^ i+aE (c.take i)) / 4294967296 ^ i:=⟨_,rfl⟩
  have hcl1:cy<=1:=by
   have:cy<2:=by rw[hcy,aiD hp]; omega
   omega
  obtain⟨a1,a2⟩:=zZ (D:=D) (V:=aE (c.take i)) (v:=(c.getD i 0).toNat) hcy;obtain⟨R,hR⟩:=ck (c.take n) (i+1);rw[alz,ajU (by omega),<- hV,hcv]at hR;have a3:=a2 R;rw[<- hR,<- hE]at a3;have hdl:D / 4294967296 ^ i%4294967296<4294967296:=aiJ _ (by decide);have ei':Int.toNat ((j:Int)+(i:Int))=j+i:=by omega
  simp only[gU,aiA,aiZ,ei'];rw[GL D E (by omega) (by omega),GK D E (by omega) (by omega)];have wy:IntKind.wrap .u64 (c.getD i 0)=(((c.getD i 0).toNat:Nat):Int):=by rw[aq]; omega
  obtain⟨dg,hdg⟩:∃ dg,dg=D / 4294967296 ^ i%4294967296:=⟨_,rfl⟩
  rw[<- hdg]at a1 a3 hdl ⊢;have ws:IntKind.wrap .u64 (IntKind.wrap .u64 (IntKind.wrap .u64 (dg:Int)+(((c.getD i 0).toNat:Nat):Int))+(cy:Int))=((dg+(c.getD i 0).toNat+cy:Nat):Int):=by rw[aq,aq,aq]; omega
  have wf:Int.fdiv ((dg+(c.getD i 0).toNat+cy:Nat):Int) (2 ^ 32)=(((D%4294967296 ^ (i+1)+aE (c.take (i+1))) / 4294967296 ^ (i+1):Nat):Int):=by rw[hcv,a1,kV]; rfl
  have w3:IntKind.wrap .u32 ((dg+(c.getD i 0).toNat+cy:Nat):Int)=((E / 4294967296 ^ i%4294967296:Nat):Int):=by rw[a3,dH]; rfl
  rw[ait (by omega:(i:Int)<(n:Int)),aiw,aa air,aa ais,aa (ait (by omega)),aa ais,aa (ait (by omega)),aa air,aa ais,aa (ait (by omega)),aa air,<- hcy,wy,ws,wf,w3,GM D E (by omega) (by omega),lw]
 ·have hp:=aT n;have hml:=aiJ D hp;have hVl:V<4294967296 ^ n:=by rw[hV]; exact bf hc n
  obtain⟨cy,hcy⟩:∃ cy,cy=(D%4294967296 ^ n+V) / 4294967296 ^ n:=⟨_,rfl⟩
  have hcl1:cy<=1:=by
   have:cy<2:=by rw[hcy,aiD hp]; omega
   omega
  obtain⟨a1,a3⟩:=Ev (D:=D) (V:=V) (i:=n) hcy;rw[<- hE]at a3;have hdl:D / 4294967296 ^ n%4294967296<4294967296:=aiJ _ (by decide);have ei':0+Int.toNat ((j:Int)+(n:Int))=j+n:=by omega
  simp only[gU];rw[aiu (by omega:¬(n:Int)<(n:Int)),aiv,ei',GL D E (by omega) (by omega),GK D E (by omega) (by omega),<- hV,<- hcy];obtain⟨dg,hdg⟩:∃ dg,dg=D / 4294967296 ^ n%4294967296:=⟨_,rfl⟩
  rw[<- hdg]at a3 hdl ⊢;have w3:IntKind.wrap .u32 ((dg:Int)+IntKind.wrap .u32 (cy:Int))=((E / 4294967296 ^ n%4294967296:Nat):Int):=by rw[a3,dH,dH]; omega
  rw[aa air,aa ais,aa (ait (by omega)),aa ais,aa (ait (by omega)),w3,GM D E (by omega) (by omega)];rw[aje (by rw[al]; omega),ajh]
def Pa {P A B U3 V2 U V g:Nat} (hB:B<P) (hg:g*P<=V) (hU:U=A+P*U3) (hV:V=B+P*V2) (h:g*V2<=U3) (hV0:0<V):g<=U / V+1:=by
 have h1:g*B<=g*P:=aiB _ (by omega);have h2:P*(g*V2)<=P*U3:=aiB _ h;have h3:g*V=g*B+P*(g*V2):=by rw[hV,aiL,aiW g P]
 have h4:g*V<=U+V:=by omega
 have h5:=akR U hV0;have h6:g*V<(U / V+2)*V:=by rw[show U / V+2=U / V+1+1 by omega,aj1,aix (U / V+1)];omega
 have:=Nat.lt_of_mul_lt_mul_right h6;omega
def Uv {V Y Z X U Q:Nat} (h1:V<Y) (h2:Y<=Z) (h3:X<=U) (h4:X=Q*4294967296) (h5:U<V*4294967296):Q<Z:=by omega
def OO {P A B U V T u0 v0 v1:Nat} (hA:A<P) (hB:B<P) (hU:U=A+P*(u0+4294967296*T)) (hV:V=B+P*(v0+4294967296*v1)) (hv0:v0<4294967296) (hUV:U<V*4294967296):T<4294967296*v1+4294967296:=by
 have h1:V<P*(v0+4294967296*v1+1):=by rw[hV,alN]; omega
 have h2:P*(v0+4294967296*v1+1)<=P*(4294967296*v1+4294967296):=aiB _ (by omega);have h3:P*(4294967296*T)<=U:=by rw[hU,aiL P u0]; omega
 have h4:P*(4294967296*T)=P*T*4294967296:=by rw[aix 4294967296,aiF]
 have h5:P*T<P*(4294967296*v1+4294967296):=Uv h1 h2 h3 h4 hUV;exact akL h5
def J2 {N:Nat} (hN:5<N) {a:List Int} {s:Int} {d:Nat} {dl':List Int} {X la:Nat} (hla:a.length=la) (hX:X<4294967296 ^ (la+1)) (h1:la<=(aj X).length) (hs:la<=1099511627000) (e0:Nat->List Int->Bool) :
  ah N (ua N a s d dl' e0) ((aj X).length,dl X (la+1))=e0 (la+1) (dl X (la+1)):=by
 have h2:(aj X).length<=la+1:=cN _ _ hX;have last:∀ K,ua N a s d dl' e0 (la+1,dl X (la+1)) K=e0 (la+1) (dl X (la+1)):=by intro K;simp only[ua];rw[hla,aa air,aiu (by omega),aiv]
 by_cases h:(aj X).length=la+1
 ·rw[h];exact aG (λi=>(la+1,dl X (la+1))) 0 rfl (by omega) (λi hi K=>by omega) last
 ·have hl:(aj X).length=la:=by omega
  rw[hl];refine aG (λi=>(la+i,dl X (la+1))) 1 rfl (by omega) (λi hi K=>?_) last;have:i=0:=by omega
  subst this;have e1:(dl X (la+1)).take la++[0]=dl X (la+1):=by
   rw[qb X (by omega),dl];have:X / 4294967296 ^ la%4294967296=0:=by have:=jc X;rw[hl]at this;rw[ai0 this]
   rw[this]; rfl
  show ua N a s d dl' e0 (la,dl X (la+1)) K=K (la+1,dl X (la+1));simp only[ua];rw[hla,aa air,ait (by omega),aiw,aa (ait (by rw[al]; omega)),aj0,e1,al,aa (ait (by omega))]
def T4 {N:Nat} (hN:1180591620717411303424<=N) {n j ul V v1:Nat} {s:Int} {b ql:List Int} (hVlt:V<4294967296 ^ (n+2)) (hVge:4294967296 ^ (n+1)<=V) (hv1:v1=V / 4294967296 ^ (n+1)) (hv1lo:2147483648<=v1) (hv1hi:v1<4294967296) (hbw:InW b) (hblen:b.length=ul) (hjl:j+(n+2)<ul) (hls:ul<=1099511627700) (hjq:j<ql.length)
  (hUlt:aE ((b.drop j).take (n+2+1))<V*4294967296) (e0:List Int->List Int->Bool) (K:Int × List Int × List Int->Bool) :
  ka N s (n+2) ul ((n+2:Nat):Int) (v1:Int) (dl V (n+2+1)) e0 ((j:Int),b,ql) K
   = K ((j:Int) - 1,b.take j++(dl (aE ((b.drop j).take (n+2+1))%V) (n+2+1)++b.drop (j+(n+2+1))),ql.set j ((aE ((b.drop j).take (n+2+1)) / V:Nat):Int)):=by
 have hV0:0<V:=aiO (aT _) hVge;have hcv:aE ((dl V (n+2+1)).take (n+2))=V:=by rw[qb V (by omega),rj,aiE hVlt]
 have hU3:=Va (b.drop j) n;have hV2:=U_ (dl V (n+2+1)) n;rw[show n+3=n+2+1 by omega,ky,ky,ky]at hU3;rw[hcv]at hV2;have a0:=hbw.at (i:=j+n);have a1:=hbw.at (i:=j+(n+1));have a2:=hbw.at (i:=j+(n+2));have c0:=(jw V (n+2+1)).at (i:=n);obtain⟨u0,hu0⟩:∃ u,u=(b.getD (j+n) 0).toNat:=⟨_,rfl⟩
 obtain⟨u1,hu1⟩:∃ u,u=(b.getD (j+(n+1)) 0).toNat:=⟨_,rfl⟩
 obtain⟨u2,hu2⟩:∃ u,u=(b.getD (j+(n+2)) 0).toNat:=⟨_,rfl⟩
 obtain⟨v0,hv0⟩:∃ u,u=((dl V (n+2+1)).getD n 0).toNat:=⟨_,rfl⟩
 have q0:b.getD (j+n) 0=(u0:Int):=by omega
 have q1:b.getD (j+(n+1)) 0=(u1:Int):=by omega
 have q2:b.getD (j+(n+2)) 0=(u2:Int):=by omega
 have k0:(dl V (n+2+1)).getD n 0=(v0:Int):=by omega
 have k1:((dl V (n+2+1)).getD (n+1) 0).toNat=v1:=by rw[uy V (by omega),aiA,<- hv1,aiE hv1hi]
 rw[<- hu0,<- hu1,<- hu2]at hU3;rw[<- hv0,k1]at hV2;have hAb:=bf (hbw.drop j) n;have hBb:=bf (jw V (n+2+1)) n;have hwv:∃ U,U=aE ((b.drop j).take (n+2+1)):=⟨_,rfl⟩
 obtain⟨U,hwv⟩:=hwv;rw[<- hwv]at hU3 hUlt ⊢;have hT:=OO hAb hBb hU3 hV2 (by omega) hUlt;have hdW:U / V<4294967296:=by rw[aiD hV0,aix]; exact hUlt
 have hv1p:0<v1:=by omega
 obtain⟨T,hTe⟩:∃ T,T=u2*4294967296+u1:=⟨_,rfl⟩
 rw[<- hTe]at hU3 hT;have hg0:T / v1<=4294967298:=by
  have:T / v1<4294967299:=by rw[aiD hv1p]; omega
  omega
 have hkb:U / V<=T / v1:=by rw[hTe]; rw[hTe]at hU3; exact IV hAb hU3 hV2 hV0 hv1p (by omega)
 obtain⟨g,p1,p2,p3,p4⟩:=Dq (N:=N) (s5:=s) (ul:=ul) (j:=j) (n:=n+2) (u0:=u0) (v0:=v0) (v1:=v1) (T:=T) (d:=U / V) (b:=b) (c:=dl V (n+2+1)) (ql:=ql) (by omega) (by rw[show n+2 - 2=n by omega]; exact k0) (by rw[show j+(n+2) - 2=j+n by omega]; exact q0) (by rw[al]; omega) (by omega) (by omega) (by omega) (by omega) hv1hi (by omega) hT
  (λg hg=>Dw hAb hU3 hV2 hV0 (by rw[akm v0,aix 4294967296 v1]; omega)) hdW
  (T / v1) (T%v1) N (by omega) (by omega) (ajr _ _) (ake (aiJ _ hv1p) hv1hi) hkb
 have hgd:g<=U / V+1:=Pa hBb (by have:g*4294967296 ^ n<=4294967296*4294967296 ^ n:=aiy _ (Nat.le_of_lt p2);rw[<- Nat.pow_succ']at this;exact aiU this hVge) hU3 hV2 (by rw[akm v0,aix 4294967296 v1]; omega) hV0
 have hless:=λkk=>Kp (N:=N) (j:=j) (n:=n+2) (ul:=ul) (g:=g) (U:=U) (V:=V) (b:=b) (c:=dl V (n+2+1)) (by omega) hbw (jw _ _) (by rw[al]; omega) (by omega) (by omega) (by omega) p2 hwv hcv.symm kk
 have jn:0+Int.toNat ((j:Int)+((n+2:Nat):Int))=j+(n+2):=by omega
 have jn1:0+Int.toNat ((j:Int)+((n+2:Nat):Int) - 1)=j+(n+1):=by omega
 have top0:(!decide ((v1:Int)=0))=true:=by simp; omega
 have wu2:IntKind.wrap .u64 (u2:Int)=(u2:Int):=by rw[aq]; omega
 have hor:aA .or .u64 (IntKind.wrap .u64 ((u2:Int)*2 ^ 32)) (IntKind.wrap .u64 (u1:Int))=(T:Int):=by rw[Px (by omega) (by omega),hTe]
 have etd:IntKind.wrap .u64 (Int.tdiv (T:Int) (v1:Int))=((T / v1:Nat):Int):=by have:Int.tdiv (T:Int) (v1:Int)=((T / v1:Nat):Int):=rfl;rw[this,aq];generalize T / v1=z at *;omega
 have etm:Int.tmod (T:Int) (v1:Int)=((T%v1:Nat):Int):=rfl;have hfin:dl (U+4294967296 ^ (n+2+1) - U / V*V) (n+2+1)=dl (U%V) (n+2+1):=by
  have e:U+4294967296 ^ (n+2+1) - (U / V)*V=U%V+4294967296 ^ (n+2+1)*1:=by have:=ajr U V;omega
  rw[e,IJ _ _ _ (aiH _)]
 have hgV:g*V<4294967296 ^ (n+2+1):=by rw[aiG,aix];exact ajx hVlt p2
 simp only[ka,jn,jn1,q1,q2,wu2,hor,etd,etm];rw[ait (by omega:(j:Int)>=0),aiw,aa air,aa ais,aa (ait (by omega)),aa air,aa air,aa ais,aa (ait (by omega)),aa top0,aa top0,p4,hless];by_cases hlt:U<g*V
 ·have hge:g=U / V+1:=by
   have:U / V<g:=by
    rcases ajs (U / V) g with h | h
    ·exact h
    ·have:=(aj_ hV0).1 h; omega
   omega
  have hmore:=λkk=>Ks (N:=N) (j:=j) (n:=n+2) (ul:=ul) (D:=U+4294967296 ^ (n+2+1) - g*V) (V:=V) (b:=b) (c:=dl V (n+2+1)) (by omega) (jw _ _) (by rw[al]; omega) (by omega) (by omega) (by omega) hcv.symm kk
  have hD:U+4294967296 ^ (n+2+1) - g*V+V=U+4294967296 ^ (n+2+1) - U / V*V:=by
   have:g*V=U / V*V+V:=by rw[hge,aj1]
   omega
  have wg:IntKind.wrap .u32 (IntKind.wrap .u64 ((g:Int) - 1))=((U / V:Nat):Int):=by rw[hge];generalize U / V=z at *;rw[aq,dH]; omega
  rw[ait hlt,aiw,hmore,hD,hfin,aa ais,aa (ait (by omega)),aa air,aiA,wg]
 ·have hge:g=U / V:=by have:=(aj_ hV0).2 (Nat.le_of_not_lt hlt);omega
  have wg:IntKind.wrap .u32 (g:Int)=((U / V:Nat):Int):=by rw[hge];generalize U / V=z at *;rw[dH]; omega
  rw[aiu hlt,aiv,wg,hge,hfin,aa ais,aa (ait (by omega)),aa air,aiA]
def AX {N:Nat} (hN:1180591620717411303424<=N) {x y:Nat} (hxy:y<=x) (hy2:2<=(aj y).length) (hxl:(aj x).length<=1099511627000) (k:Kz3) :
  qw N (aj x) (aj y) k=k (aj (x / y)) (aj (x%y)):=by
 have hy0:y ≠ 0:=by intro h; rw[h,aW]at hy2; simp at hy2
 have hyx:=ce hxy;have hylt:=jc y;have hxlt:=jc x;have hylo:4294967296 ^ ((aj y).length - 1)<=y:=by
  rcases ajs y (4294967296 ^ ((aj y).length - 1))with h | h
  ·have:=cN _ _ h; omega
  ·exact h
 (unfold qw; rw[ae]; unfold Ep)
 rw[iH x y ⟨by omega,by omega⟩ ⟨by omega,by omega⟩];have hc:decide (dL x y<0)=false:=by unfold dL; rw[if_neg (by omega)]; split <;> rfl
 obtain⟨n,hn⟩:∃ n,(aj y).length=n+2:=⟨(aj y).length - 2,by omega⟩
 obtain⟨lx,hlx⟩:∃ lx,(aj x).length=lx:=⟨_,rfl⟩
 have htd:(aj y).getD (n+1) 0=((y / 4294967296 ^ (n+1):Nat):Int):=by rw[nZ,aiE];rw[aiD (aT _),aix,<- aiG];rw[hn]at hylt; exact hylt
 rw[hn]at hylt hylo;rw[hlx]at hxlt;rw[show n+2 - 1=n+1 by omega]at hylo;obtain⟨t,ht⟩:∃ t,t=y / 4294967296 ^ (n+1):=⟨_,rfl⟩
 rw[<- ht]at htd;have htl:t<4294967296:=by rw[ht,aiD (aT _),aix,<- aiG]; exact hylt
 have ht0:t ≠ 0:=by have:=akQ hylo (aT (n+1)); omega
 obtain⟨g1,g2,g3⟩:=K_ ht0 htl;have ein:Int.toNat (((n+2:Nat):Int) - 1)=n+1:=by omega
 have e1':(((n+2:Nat):Int)==1)=false:=by simp; omega
 rw[hc,aiv,hn,e1',aiv,aa air,aa ais,ein,htd,Nj N htl];obtain⟨s,hs⟩:∃ s,s=32 - bl t:=⟨_,rfl⟩
 rw[<- hs]at g1 g2 g3 ⊢;have hs0:0<2 ^ s:=aiI s;have ews:IntKind.wrap .u64 ((s:Nat):Int)=(s:Int):=by rw[aq]; omega
 rw[ews];obtain⟨V,hV⟩:∃ V,V=y*2 ^ s:=⟨_,rfl⟩
 obtain⟨X,hX⟩:∃ X,X=x*2 ^ s:=⟨_,rfl⟩
 have hVlt:V<4294967296 ^ (n+2):=by
  have h1:=akR y (aT (n+1));rw[<- ht]at h1;have h2:y*2 ^ s<4294967296 ^ (n+1)*(t+1)*2 ^ s:=aji h1 hs0;have h3:(t+1)*2 ^ s<=4294967296:=by
   have hd:2 ^ s*2 ^ (32 - s)=4294967296:=by rw[<- aiN,show s+(32 - s)=32 by omega]
   have h4:t<2 ^ (32 - s):=by rw[aix]at g3;rw[<- hd]at g3;exact akL g3
   rw[<- hd,aix];exact aiB _ h4
  have h5:=aiB (4294967296 ^ (n+1)) h3;rw[hV,show n+2=n+1+1 by omega,aiG];rw[aiF]at h2;omega
 have hVge:4294967296 ^ (n+1)<=V:=by rw[hV]; exact aiU hylo (ajg _ hs0)
 have hVlen:(aj V).length=n+2:=Pl hVge hVlt;have hV0:0<V:=aiO (aT _) hVge;have hx0:x ≠ 0:=by omega
 have hvt:V / 4294967296 ^ (n+1)=t*2 ^ s+y%4294967296 ^ (n+1)*2 ^ s / 4294967296 ^ (n+1):=by
  have h1:=ajo y (4294967296 ^ (n+1));rw[<- ht]at h1;have h2:V=y%4294967296 ^ (n+1)*2 ^ s+4294967296 ^ (n+1)*(t*2 ^ s):=by rw[hV,<- aiF,<- aiY]; congr 1; omega
  rw[h2,eG]; omega
 have hv1lo:2147483648<=V / 4294967296 ^ (n+1):=by rw[hvt]; exact aiU g2 (akM _ _)
 have hv1hi:V / 4294967296 ^ (n+1)<4294967296:=by rw[aiD (aT _),aix,<- aiG]; exact hVlt
 rw[tv hy0 g1 (by omega) (by omega),hn,<- hV,hVlen,tv hx0 g1 (by omega) (by omega),hlx,<- hX];have hs2:2 ^ s<=4294967296:=by rw[<- DW]; exact aiK (by decide) (by omega)
 have hXlt:X<4294967296 ^ (lx+1):=by rw[hX,aiG]; exact ajc hxlt hs2 (by decide)
 have hXlen2:lx<=(aj X).length:=by rw[<- hlx,hX]; exact ce (ajg _ hs0)
 rw[J2 (by omega) hlx hXlt hXlen2 (by omega)];unfold qL;obtain⟨M,hM⟩:∃ M,lx+1=M+(n+2):=⟨lx+1 - (n+2),by omega⟩
 have eM:(((lx+1:Nat):Int) - ((n+2:Nat):Int))=(M:Int):=by omega
 have ein2:0+Int.toNat (((n+2:Nat):Int) - 1)=n+1:=by omega
 rw[eM,aiA,ajO,ein2,uy V (by omega),aiE hv1hi];obtain⟨v1,hv1⟩:∃ v1,v1=V / 4294967296 ^ (n+1):=⟨_,rfl⟩
 rw[<- hv1]at hv1lo hv1hi ⊢;have wv1:IntKind.wrap .u64 (v1:Int)=(v1:Int):=by rw[aq]; omega
 rw[wv1,aa air,aa (bP (by omega) (by omega) (by omega) (by omega)),aa air,aa ais,aa (ait (by rw[al]; omega)),aa air];have hstart:dl X (lx+1)=dl X M++(dl (X / 4294967296 ^ M%V) (n+2)++List.replicate 0 0):=by
  have hXM:X / 4294967296 ^ M<V:=by
   rw[aiD (aT M),hX,hV];have h1:x*2 ^ s<4294967296 ^ lx*2 ^ s:=aji hxlt hs0;have h2:4294967296 ^ lx=4294967296 ^ (n+1)*4294967296 ^ M:=by rw[<- aiN]; congr 1; omega
   have h3:=aiy (4294967296 ^ M*2 ^ s) hylo;rw[h2,aiF]at h1;have e:y*2 ^ s*4294967296 ^ M=y*(4294967296 ^ M*2 ^ s):=by rw[aiF,aix (2 ^ s)]
   rw[e]; omega
  rw[aiE hXM,ai8,ai3,<- Cn,<- hM]
 rw[hstart];have hQlt:X / V<4294967296 ^ M:=by
  rw[aiD hV0];have h1:x*2 ^ s<4294967296 ^ lx*2 ^ s:=aji hxlt hs0;have h2:4294967296 ^ lx=4294967296 ^ M*4294967296 ^ (n+1):=by rw[<- aiN]; congr 1; omega
  have h3:=aiB (4294967296 ^ M) (aiy (2 ^ s) hylo);rw[hX,hV];rw[h2,aiF]at h1;omega
 have hmk:M<=1099511627001:=by omega
 refine aG (λi=>((M:Int) - 1 - (i:Int),dl X (M - i)++(dl (X / 4294967296 ^ (M - i)%V) (n+2)++List.replicate i 0),List.replicate (M - i) (0:Int)++(dl (X / V) M).drop (M - i))) M ?_ (by omega) (λi hi K=>?_) (λK=>?_)
 ·rw[akz,aje (by rw[al]; omega),ai3];congr 1;omega
 ·obtain⟨j,hj⟩:∃ j,M - i=j+1:=⟨M - i - 1,by omega⟩
  have hj2:M - (i+1)=j:=by omega
  have ei:(M:Int) - 1 - (i:Int)=(j:Int):=by omega
  have ei2:(M:Int) - 1 - ((i+1:Nat):Int)=(j:Int) - 1:=by omega
  rw[hj,hj2,ei,ei2];obtain⟨A,hA⟩:∃ A,A=X / 4294967296 ^ j:=⟨_,rfl⟩
  have hA1:X / 4294967296 ^ (j+1)=A / 4294967296:=by rw[hA,aiG,aiC]
  obtain⟨n1,n2⟩:=Bh (A:=A) hV0;obtain⟨R,hR⟩:∃ R,R=A / 4294967296%V:=⟨_,rfl⟩
  have hRV:R<V:=by rw[hR]; exact aiJ _ hV0
  rw[hA1,<- hR];rw[<- hR]at n1 n2;obtain⟨b,hb⟩:∃ b,b=dl X (j+1)++(dl R (n+2)++List.replicate i 0):=⟨_,rfl⟩
  have hblen:b.length=lx+1:=by rw[hb]; simp[al]; omega
  have hbw:InW b:=by
   rw[hb];intro z hz;rcases List.mem_append.1 hz with h | h
   ·exact jw _ _ z h
   ·rcases List.mem_append.1 h with h | h
    ·exact jw _ _ z h
    ·have:=(List.mem_replicate.1 h).2; subst this; omega
  have hbt:b.take j=dl X j:=by rw[hb,ajv (by rw[al]; omega),qb X (by omega)]
  have hbd:b.drop j=((A%4294967296:Nat):Int)::(dl R (n+2)++List.replicate i 0):=by rw[hb,dl,aiM,aju (by rw[al]; omega),aje (by rw[al]; omega),ajh,hA];rfl
  have hwv:aE ((b.drop j).take (n+2+1))=R*4294967296+A%4294967296:=by rw[hbd,alh,ajv (by rw[al]; omega),aiR (by rw[al]; omega),aE,rj,aiE (ake hRV hVlt),aiA];omega
  have hbd2:b.drop (j+(n+2+1))=List.replicate i 0:=by rw[<- List.drop_drop,hbd,List.drop_succ_cons,aju (by rw[al]; omega),aje (by rw[al]; omega),ajh]
  have hcv:aE ((dl V (n+2+1)).take (n+2))=V:=by rw[qb V (by omega),rj,aiE hVlt]
  have hAm:A%4294967296<4294967296:=aiJ _ (by decide);have hUlt:R*4294967296+A%4294967296<V*4294967296:=by have:=aiy 4294967296 hRV;rw[aj1]at this;omega
  have hnext:dl X j++(dl (A%V) (n+2+1)++List.replicate i 0)=dl X j++(dl (A%V) (n+2)++List.replicate (i+1) 0):=by rw[E7 (ake (aiJ A hV0) hVlt) 1,aiM,ajd];rfl
  have hdg:X / V / 4294967296 ^ j%4294967296=A / V%4294967296:=by rw[hA,aiC,aiC,aix V]
  have hql:(List.replicate (j+1) (0:Int)++(dl (X / V) M).drop (j+1)).length=M:=by simp[al]; omega
  have hstep:=T4 (s:=(s:Int)) (j:=j) (b:=b) (ul:=lx+1) (ql:=List.replicate (j+1) (0:Int)++(dl (X / V) M).drop (j+1)) hN hVlt hVge hv1 hv1lo hv1hi hbw hblen (by omega) (by omega) (by omega) (by rw[hwv]; exact hUlt);rw[<- hb,hstep,hwv,n1,n2,hbt,hbd2,hnext,<- hdg,Gd _ _ _ (by omega),<- hA]
 ·simp only[ka];have e0:(M:Int) - 1 - (M:Int) = -1:=by omega
  rw[e0,aiu (by omega),aiv,ai4,akn,aki,ai8,ajh,aj0];obtain⟨L,hL⟩:∃ L,L=dl X 0++(dl (X%V) (n+2)++List.replicate M 0):=⟨_,rfl⟩
  have hRlt:X%V<4294967296 ^ (n+2):=ake (aiJ _ hV0) hVlt;have hLt:L.take (n+2)=dl (X%V) (n+2):=by rw[hL,show dl X 0=[] from rfl,ajh,ajv (by rw[al]; omega),aiR (by rw[al]; omega)]
  have hLw:InW L:=by
   rw[hL];intro z hz;rcases List.mem_append.1 hz with h | h
   ·cases h
   ·rcases List.mem_append.1 h with h | h
    ·exact jw _ _ z h
    ·have:=(List.mem_replicate.1 h).2; subst this; omega
  have hLlen:n+2<=L.length:=by rw[hL]; simp[al]
  have en:Int.toNat ((n+2:Nat):Int) - 0=n+2:=by omega
  rw[<- hL,mC _ (by rw[al]; omega) (by rw[al]; omega),en,aa (ait (by omega)),Km L (n+2) hLlen (by omega) (by omega)];have hcl:=kx L (n+2);rw[DF L hLw (bR L (n+2)) s (by omega) g1 (by omega) (by omega),sZ,hLt,rj,aiE hRlt,al,Ag hQlt];have hQlen:=cN _ _ hQlt;rw[aa (ait (by omega)),aj0,qb _ hQlen,OT,hX,hV,ak7 _ _ hs0,ak8,aka _ hs0]
def uJ {N:Nat} (hN:1180591620717411303424<=N) {x y:Nat} (hy:0<y) (hxl:(aj x).length<=1099511627000) (hyl:(aj y).length<=1099511627000) (k:Kz3) :
  qw N (aj x) (aj y) k=k (aj (x / y)) (aj (x%y)):=by
 by_cases hxy:y<=x
 ·by_cases h2:2<=(aj y).length
  ·exact AX hN hxy h2 hxl k
  ·have hylt:=jc y;have hl1:(aj y).length=1:=by rw[cE (by omega)]at h2 ⊢; simp at h2 ⊢; exact h2
   rw[hl1,als]at hylt;have hd:=ux (by omega:y ≠ 0) hylt;have hc:decide (dL x y<0)=false:=by unfold dL; rw[if_neg (by omega)]; split <;> rfl
   (unfold qw; rw[ae]; unfold Ep)
   rw[iH x y ⟨by omega,by omega⟩ ⟨by omega,by omega⟩,hc,aiv,hd];show cond (((1:Nat):Int)==1) _ _=_;rw[show(((1:Nat):Int)==1)=true from rfl,aiw,aa (ai (by omega) (by simp))];show pD N (aj x) (y:Int) _=_;have hm:x%y<4294967296:=ake (aiJ _ hy) hylt;have hw:InW [((x%y:Nat):Int)]:=by intro z hz;simp only[ajQ,akv,or_false]at hz;subst hz; omega
   have hv:aE [((x%y:Nat):Int)]=x%y:=by simp only[aE]; omega
   have hct:=dM (N:=N) [((x%y:Nat):Int)] hw (by simp; omega) (by simp) (λz=>k (aj (x / y)) z);rw[hv]at hct;rw[HK hy hylt ⟨by omega,by omega⟩];exact hct
 ·have hc:decide (dL x y<0)=true:=by unfold dL; rw[if_pos (by omega)]; rfl
  (unfold qw; rw[ae]; unfold Ep)
  rw[iH x y ⟨by omega,by omega⟩ ⟨by omega,by omega⟩,hc,aiw,ajh,aa (ait (by omega)),ai0 (by omega),aiE (by omega),aW]
def FH {N V f:Nat} (hf:f<4294967296000) (hN:20<N) (hs:fH N (aj V)) (hf2:f<4294967296\/True) (hlt:V / 2 ^ f<18446744073709551616) (hr:∀ kk,BZ N (aj V) (f:Int) kk=kk (aj (V / 2 ^ f))) (k:Kz5):rA N (aj V) (f:Int) k=k ((V / 2 ^ f:Nat):Int):=by
 (unfold rA; rw[ae]; unfold vF)
 have wf:IntKind.wrap .u64 (f:Int)=(f:Int):=by rw[aq]; omega
 rw[wf,hr];obtain⟨Y,hY⟩:∃ Y,Y=V / 2 ^ f:=⟨_,rfl⟩
 rw[<- hY]at hlt ⊢;have hl2:(aj Y).length<=2:=cN 2 Y (by
  have:(4294967296:Nat) ^ 2=18446744073709551616:=by decide
  omega)
 have hYl:=jc Y;obtain⟨L,hL⟩:∃ L,(aj Y).length=L:=⟨_,rfl⟩
 rw[hL]at hl2 hYl ⊢;rw[aa air];refine aG (λi=>(((Y / 4294967296 ^ (L - i):Nat):Int),(L:Int) - 1 - (i:Int))) L ?_ (by omega) (λi hi K=>?_) (λK=>?_)
 ·rw[akz,ai0 hYl]; simp
 ·obtain⟨m,hm⟩:∃ m,L - i=m+1:=⟨L - i - 1,by omega⟩
  have hm2:L - (i+1)=m:=by omega
  have ei:(L:Int) - 1 - (i:Int)=(m:Int):=by omega
  have ei2:(L:Int) - 1 - ((i+1:Nat):Int)=(m:Int) - 1:=by omega
  rw[hm,hm2,ei,ei2];have hp:Y / 4294967296 ^ (m+1)=Y / 4294967296 ^ m / 4294967296:=by rw[aiG,aiC]
  have hle:=aj3 Y (4294967296 ^ m);simp only[mW,aiA];rw[ait (by omega:(m:Int)>=0),aiw,hL,aa ais,aa air,nZ,hp];generalize Y / 4294967296 ^ m=Z at *;rw[Px (by omega) (by omega)];congr 2;omega
 ·simp only[mW];have e0:(L:Int) - 1 - (L:Int) = -1:=by omega
  rw[e0,aiu (by omega),aiv,ai4,akn,aki]
def sgn (neg:Bool) (n:Nat):Int:=cond neg (-(n:Int)) (n:Int)
def cV (n:Nat):sgn true n = -(n:Int):=rfl
def dx (n:Nat):sgn false n=(n:Int):=rfl
def Ca (x0 y0 a b c d:Nat) (odd:Bool):Prop:=
 ∃ p q,x0=d*p+b*q/\y0=c*p+a*q/\(cond odd (b*c=a*d+1) (a*d=b*c+1))/\(cond odd (d<=q/\q+a+c<=p) (c<=q/\q+b+d<=p))/\1<=b/\1<=c/\1<=d/\a<=1073741824/\b<=1073741824/\c<=1073741824/\d<=1073741824
def GE {N:Nat} {x0 y0:Nat} (hx0:x0<4611686018427387904) (hy0:y0<4611686018427387904) :
  ∀ q p a b c d odd M,q<M->x0=d*p+b*q->y0=c*p+a*q->(cond odd (b*c=a*d+1) (a*d=b*c+1)) ->
   a<=1073741824->b<=1073741824->c<=1073741824->d<=1073741824->1<=d->p<=x0 ->
   ((odd=false/\a=1/\b=0/\c=0/\d=1/\q<=p)\/(1<=b/\1<=c/\(cond odd (d<=q/\q+a+c<p) (c<=q/\q+b+d<p)))) ->
   ∃ a' b' c' d':Nat,∃ odd',(b'=0/\odd'=false\/Ca x0 y0 a' b' c' d' odd') /\ ∀ e0,ah M (qB N e0) (sgn odd a,sgn (!odd) b,sgn (!odd) c,sgn odd d,(p:Int),(q:Int))=e0 (sgn odd' a') (sgn (!odd') b') (sgn (!odd') c') (sgn odd' d'):=by
 intro q;induction q using Nat.strongRecOn with
 | ind q ih=>
 intro p a b c d odd M hM h1 h2 hdet ha hb hc hd hd1 hp hor;obtain⟨M,rfl⟩:∃ m,M=m+1:=⟨M - 1,by omega⟩
 have hgood:b=0/\odd=false\/Ca x0 y0 a b c d odd:=by
  rcases hor with h | ⟨k1,k2,k3⟩
  ·exact .inl ⟨h.2.2.1,h.1⟩
  ·refine .inr ⟨p,q,h1,h2,hdet,?_,k1,k2,hd1,ha,hb,hc,hd⟩;cases odd
   ·simp only[aiv]at k3 ⊢; omega
   ·simp only[aiw]at k3 ⊢; omega
 have stop:∀(P:(Int->Int->Int->Int->Bool)->Bool),(∀ e0,P e0=e0 (sgn odd a) (sgn (!odd) b) (sgn (!odd) c) (sgn odd d)) -> ∃ a' b' c' d':Nat,∃ odd',(b'=0/\odd'=false\/Ca x0 y0 a' b' c' d' odd') /\ ∀ e0,P e0=e0 (sgn odd' a') (sgn (!odd') b') (sgn (!odd') c') (sgn odd' d'):=
  λP hP=>⟨a,b,c,d,odd,hgood,hP⟩
 have hpq:p*1<=d*p:=by rw[aix d]; exact aiB _ hd1
 have hcp:c*p<=y0:=by omega
 have hdp:d*p<=x0:=by omega
 have hql:q<=p:=by
  rcases hor with h | ⟨k1,k2,k3⟩
  ·exact h.2.2.2.2.2
  ·cases odd
   ·simp only[aiv]at k3; omega
   ·simp only[aiw]at k3; omega
 obtain⟨u1,hu1⟩:∃ u1:Nat,(q:Int)+sgn (!odd) c=(u1:Int):=by
  rcases hor with h | ⟨k1,k2,k3⟩
  ·obtain⟨e1,e2,e3,e4,e5,e6⟩:=h;subst e1 e4; exact⟨q,by simp[sgn]⟩
  ·cases odd
   ·simp only[aiv]at k3;exact⟨q - c,by simp only[ai7,cV]; omega⟩
   ·exact⟨q+c,by simp only[ajm,dx]; omega⟩
 obtain⟨u2,hu2⟩:∃ u2:Nat,(q:Int)+sgn odd d=(u2:Int):=by
  rcases hor with h | ⟨k1,k2,k3⟩
  ·obtain⟨e1,e2,e3,e4,e5,e6⟩:=h;subst e1; exact⟨q+d,by simp only[dx]; omega⟩
  ·cases odd
   ·exact⟨q+d,by simp only[dx]; omega⟩
   ·simp only[aiw]at k3;exact⟨q - d,by simp only[cV]; omega⟩
 obtain⟨t1,ht1⟩:∃ t1:Nat,(p:Int)+sgn odd a=(t1:Int):=by
  rcases hor with h | ⟨k1,k2,k3⟩
  ·obtain⟨e1,e2,e3,e4,e5,e6⟩:=h;subst e1; exact⟨p+a,by simp only[dx]; omega⟩
  ·cases odd
   ·exact⟨p+a,by simp only[dx]; omega⟩
   ·simp only[aiw]at k3;exact⟨p - a,by simp only[cV]; omega⟩
 obtain⟨t2,ht2⟩:∃ t2:Nat,(p:Int)+sgn (!odd) b=(t2:Int):=by
  rcases hor with h | ⟨k1,k2,k3⟩
  ·obtain⟨e1,e2,e3,e4,e5,e6⟩:=h;subst e1 e3; exact⟨p,by simp[sgn]⟩
  ·cases odd
   ·simp only[aiv]at k3;exact⟨p - b,by simp only[ai7,cV]; omega⟩
   ·exact⟨p+b,by simp only[ajm,dx]; omega⟩
 have t1b:t1<=p+a:=by cases odd <;> simp only[cV,dx]at ht1 <;> omega
 have t2b:t2<=p+b:=by cases odd <;> simp only[ajm,ai7,cV,dx]at ht2 <;> omega
 have u1b:u1<=q+c:=by cases odd <;> simp only[ajm,ai7,cV,dx]at hu1 <;> omega
 have u2b:u2<=q+d:=by cases odd <;> simp only[cV,dx]at hu2 <;> omega
 by_cases c1:u1=0
 ·refine stop _ λe0=>?_
  show qB N e0 _ (ah M _)=_;simp only[qB,hu1];have:(((u1:Nat):Int) != 0)=false:=by simp; omega
  rw[aa air,this,show(false==true)=false from rfl,aiv]
 have n1:(((u1:Nat):Int) != 0)=true:=by simp; omega
 have m1:(!decide ((u1:Int)=0))=true:=by simp; omega
 by_cases c2:u2=0
 ·refine stop _ λe0=>?_
  show qB N e0 _ (ah M _)=_;simp only[qB,hu1,hu2];have:(((u2:Nat):Int) != 0)=false:=by simp; omega
  rw[aa air,n1,show(true==true)=true from rfl,aiw,aa air,this,aiv]
 have n2:(((u2:Nat):Int) != 0)=true:=by simp; omega
 have m2:(!decide ((u2:Int)=0))=true:=by simp; omega
 obtain⟨k1,hk1⟩:∃ k1,k1=t1 / u1:=⟨_,rfl⟩
 obtain⟨k2,hk2⟩:∃ k2,k2=t2 / u2:=⟨_,rfl⟩
 have k1b:k1<=t1:=by rw[hk1]; exact aj3 _ _
 have k2b:k2<=t2:=by rw[hk2]; exact aj3 _ _
 have d1:Int.tdiv (t1:Int) (u1:Int)=(k1:Int):=by rw[hk1]; rfl
 have d2:Int.tdiv (t2:Int) (u2:Int)=(k2:Int):=by rw[hk2]; rfl
 by_cases c3:k1=k2
 ·obtain⟨n,hn⟩:∃ n,n=k1:=⟨_,rfl⟩
  have hn2:n=k2:=by omega
  obtain⟨r1,hr1⟩:∃ r1,r1=t1%u1:=⟨_,rfl⟩
  obtain⟨r2,hr2⟩:∃ r2,r2=t2%u2:=⟨_,rfl⟩
  have E1:t1=n*u1+r1:=by rw[hn,hk1,hr1]; exact(ajr t1 u1).symm
  have E2:t2=n*u2+r2:=by rw[hn2,hk2,hr2]; exact(ajr t2 u2).symm
  have hr1l:r1<u1:=by rw[hr1]; exact aiJ _ (by omega)
  have hr2l:r2<u2:=by rw[hr2]; exact aiJ _ (by omega)
  have bnc:n*c<=4611686018427387904+1152921504606846976:=by
   have s1:n*c<=(p+a)*c:=aiy _ (by omega);have s2:(p+a)*c=c*p+a*c:=by rw[aiY,aix p]
   have s3:a*c<=1073741824*1073741824:=ajl ha hc;omega
  have bnd:n*d<=4611686018427387904+1152921504606846976:=by
   have s1:n*d<=(p+b)*d:=aiy _ (by omega);have s2:(p+b)*d=d*p+b*d:=by rw[aiY,aix p]
   have s3:b*d<=1073741824*1073741824:=ajl hb hd;omega
  have icn:(n:Int)*sgn (!odd) c=sgn (!odd) (n*c):=by cases odd <;> simp only[ajm,ai7,cV,dx,aiQ,alo]
  have idn:(n:Int)*sgn odd d=sgn odd (n*d):=by cases odd <;> simp only[cV,dx,aiQ,alo]
  have e2:sgn odd a - sgn (!odd) (n*c)=sgn odd (a+n*c):=by cases odd <;> simp only[ajm,ai7,cV,dx] <;> omega
  have f2:sgn (!odd) b - sgn odd (n*d)=sgn (!odd) (b+n*d):=by cases odd <;> simp only[ajm,ai7,cV,dx] <;> omega
  have hnq:n*q<=p/\(cond odd (p - n*q+b+n*d=r2/\p - n*q=r1+a+n*c) (p - n*q+a+n*c=r1/\p - n*q=r2+b+n*d)):=by
   cases odd with
   | false=>
    simp only[ai7,cV,dx]at hu1 hu2 ht1 ht2;simp only[aiv];have w2:u2=q+d:=by omega
    have w3:t2+b=p:=by omega
    have w1:u1+c=q:=by omega
    have w4:t1=p+a:=by omega
    have z1:n*u2=n*q+n*d:=by rw[w2,aiL]
    have z2:n*q=n*u1+n*c:=by rw[<- w1,aiL]
    omega
   | true=>
    simp only[ajm,cV,dx]at hu1 hu2 ht1 ht2;simp only[aiw];have w2:u2+d=q:=by omega
    have w3:t2=p+b:=by omega
    have w1:u1=q+c:=by omega
    have w4:t1+a=p:=by omega
    have z1:n*q=n*u2+n*d:=by rw[<- w2,aiL]
    have z2:n*u1=n*q+n*c:=by rw[w1,aiL]
    omega
  obtain⟨hnq,hnext⟩:=hnq;have inq:(n:Int)*(q:Int)=((n*q:Nat):Int):=(aiQ _ _).symm;have ipq:(p:Int) - ((n*q:Nat):Int)=((p - n*q:Nat):Int):=by omega
  have fbd1 : -9223372036854775808<=sgn (!odd) (n*c)/\sgn (!odd) (n*c)<=9223372036854775807:=by cases odd <;> simp only[ajm,ai7,cV,dx] <;> omega
  have fbd2 : -9223372036854775808<=sgn odd (a+n*c)/\sgn odd (a+n*c)<=9223372036854775807:=by cases odd <;> simp only[cV,dx] <;> omega
  have fbd3 : -9223372036854775808<=sgn odd (n*d)/\sgn odd (n*d)<=9223372036854775807:=by cases odd <;> simp only[cV,dx] <;> omega
  have fbd4 : -9223372036854775808<=sgn (!odd) (b+n*d)/\sgn (!odd) (b+n*d)<=9223372036854775807:=by cases odd <;> simp only[ajm,ai7,cV,dx] <;> omega
  have ne3:(((k1:Nat):Int) != ((k2:Nat):Int))=false:=by simp[c3]
  have body:∀ e0,ah (M+1) (qB N e0) (sgn odd a,sgn (!odd) b,sgn (!odd) c,sgn odd d,(p:Int),(q:Int)) =
    cond ((decide (sgn odd (a+n*c)>1073741824))==false) (cond ((decide (sgn odd (a+n*c)<(-1073741824)))==false) (cond ((decide (sgn (!odd) (b+n*d)>1073741824))==false) (cond (decide (sgn (!odd) (b+n*d)<(-1073741824))) (e0 (sgn odd a) (sgn (!odd) b) (sgn (!odd) c) (sgn odd d)) (ah M (qB N e0) (sgn (!odd) c,sgn odd d,sgn odd (a+n*c),sgn (!odd) (b+n*d),(q:Int),((p - n*q:Nat):Int)))) (e0 (sgn odd a) (sgn (!odd) b) (sgn (!odd) c) (sgn odd d))) (e0 (sgn odd a) (sgn (!odd) b) (sgn (!odd) c) (sgn odd d))) (e0 (sgn odd a) (sgn (!odd) b) (sgn (!odd) c) (sgn odd d)):=by
   intro e0;show qB N e0 _ (ah M _)=_;simp only[qB,hu1,hu2,ht1,ht2,d1,d2,ne3,aiv];rw[<- hn];simp only[icn,idn,e2,f2,inq,ipq];rw[aa air,n1,show(true==true)=true from rfl,aiw,aa air,n2,aiw,aa air,aa air,aa m1,aa air,aa air,aa air,aa m2,aa air,aa (ab fbd1.1 fbd1.2),aa (ab fbd2.1 fbd2.2),aa (ab fbd3.1 fbd3.2),aa (ab fbd4.1 fbd4.2),aa air,aa air]
  by_cases c4:a+n*c<=1073741824
  ·by_cases c5:b+n*d<=1073741824
   ·have q1:decide (sgn odd (a+n*c)>1073741824)=false:=aiu (by cases odd <;> simp only[cV,dx] <;> omega);have q2:decide (sgn odd (a+n*c)<(-1073741824))=false:=aiu (by cases odd <;> simp only[cV,dx] <;> omega);have q3:decide (sgn (!odd) (b+n*d)>1073741824)=false:=aiu (by cases odd <;> simp only[ajm,ai7,cV,dx] <;> omega);have q4:decide (sgn (!odd) (b+n*d)<(-1073741824))=false:=aiu (by cases odd <;> simp only[ajm,ai7,cV,dx] <;> omega);have hn1:1<=n:=by
     rw[hn,hk1];refine akQ ?_ (by omega);rcases hor with h | ⟨g1,g2,g3⟩
     ·obtain⟨z1,z2,z3,z4,z5,z6⟩:=h;subst z1 z2 z4;simp only[ai7,cV,dx]at hu1 ht1;omega
     ·cases odd
      ·simp only[aiv]at g3;simp only[ai7,cV,dx]at hu1 ht1;omega
      ·simp only[aiw]at g3;simp only[ajm,cV,dx]at hu1 ht1;omega
    have hq0:1<=q\/q=0:=by omega
    have hlt:p - n*q<q:=by
     have s1:1*d<=n*d:=aiy _ hn1;have s2:1*c<=n*c:=aiy _ hn1;cases odd with
     | false=>
      simp only[aiv]at hnext;simp only[ai7,cV]at hu1;omega
     | true=>
      simp only[aiw]at hnext;simp only[cV]at hu2;omega
    obtain⟨a',b',c',d',odd',g1,g2⟩:=ih (p - n*q) hlt q c d (a+n*c) (b+n*d) (!odd) M (by omega)
     (by
      have s1:(b+n*d)*q=b*q+d*(n*q):=by grind
      have s2:d*(p - n*q)+d*(n*q)=d*p:=by rw[<- aiL]; congr 1; omega
      omega)
     (by
      have s1:(a+n*c)*q=a*q+c*(n*q):=by grind
      have s2:c*(p - n*q)+c*(n*q)=c*p:=by rw[<- aiL]; congr 1; omega
      omega)
     (by
      have s1:d*(a+n*c)=a*d+n*(c*d):=by grind
      have s2:c*(b+n*d)=b*c+n*(c*d):=by grind
      cases odd with
      | false=>simp only[ai7,aiw,aiv]at hdet ⊢; omega
      | true=>simp only[ajm,aiw,aiv]at hdet ⊢; omega)
     hc hd c4 c5 (by have s1:1*d<=n*d:=aiy _ hn1;omega) (by omega)
     (.inr ⟨hd1,(by
      rcases hor with h | ⟨z1,z2,z3⟩
      ·omega
      ·have s2:1*c<=n*c:=aiy _ hn1;omega),by
      cases odd with
      | false=>
       simp only[aiv]at hnext;simp only[ai7,cV,dx,aiw]at hu1 hu2 ⊢;omega
      | true=>
       simp only[aiw]at hnext;simp only[ajm,cV,dx,aiv]at hu1 hu2 ⊢;omega⟩)
    refine⟨a',b',c',d',odd',g1,λe0=>?_⟩;have:=g2 e0;rw[Bool.not_not]at this;rw[body,q1,q2,q3,q4];exact this
   ·refine stop _ λe0=>?_
    rw[body];cases odd with
    | false=>
     have q1:decide (sgn false (a+n*c)>1073741824)=false:=aiu (by simp only[dx]; omega);have q2:decide (sgn false (a+n*c)<(-1073741824))=false:=aiu (by simp only[dx]; omega);have q3:decide (sgn (!false) (b+n*d)>1073741824)=false:=aiu (by simp only[ai7,cV]; omega);have q4:decide (sgn (!false) (b+n*d)<(-1073741824))=true:=ait (by simp only[ai7,cV]; omega);rw[q1,q2,q3,q4];rfl
    | true=>
     have q1:decide (sgn true (a+n*c)>1073741824)=false:=aiu (by simp only[cV]; omega);have q2:decide (sgn true (a+n*c)<(-1073741824))=false:=aiu (by simp only[cV]; omega);have q3:decide (sgn (!true) (b+n*d)>1073741824)=true:=ait (by simp only[ajm,dx]; omega);rw[q1,q2,q3];rfl
  ·refine stop _ λe0=>?_
   rw[body];cases odd with
   | false=>
    have q1:decide (sgn false (a+n*c)>1073741824)=true:=ait (by simp only[dx]; omega);rw[q1];rfl
   | true=>
    have q1:decide (sgn true (a+n*c)>1073741824)=false:=aiu (by simp only[cV]; omega);have q2:decide (sgn true (a+n*c)<(-1073741824))=true:=ait (by simp only[cV]; omega);rw[q1,q2];rfl
 ·refine stop _ λe0=>?_
  show qB N e0 _ (ah M _)=_;simp only[qB,hu1,hu2,ht1,ht2,d1,d2];have:(((k1:Nat):Int) != ((k2:Nat):Int))=true:=by simp; omega
  rw[aa air,n1,show(true==true)=true from rfl,aiw,aa air,n2,aiw,aa air,aa air,aa m1,aa air,aa air,aa air,aa m2,aa air,this,aiw]
def HM {N:Nat} (hN:1180591620717411303424<=N) {x0 y0:Nat} (hx0:x0<4611686018427387904) (hyx:y0<=x0):∃ a b c d:Nat,∃ odd,(b=0/\odd=false\/Ca x0 y0 a b c d odd) /\ ∀ k,tQ N (x0:Int) (y0:Int) k=k (sgn odd a) (sgn (!odd) b) (sgn (!odd) c) (sgn odd d):=by
 obtain⟨a,b,c,d,odd,h1,h2⟩:=GE (N:=N) (x0:=x0) (y0:=y0) hx0 (by omega) y0 x0 1 0 0 1 false N (by omega) (by omega) (by omega) rfl (by omega) (by omega) (by omega) (by omega) (by omega) (by omega) (.inl ⟨rfl,rfl,rfl,rfl,rfl,hyx⟩);refine⟨a,b,c,d,odd,h1,λk=>?_⟩
 (unfold tQ; rw[ae]; unfold sG)
 rw[aa air,aa air];exact h2 _
def O8 {a b c d X Y:Nat} (hdet:b*c=a*d+1) (g1:a*X<=b*Y) (g2:d*Y<=c*X):X=d*(b*Y - a*X)+b*(c*X - d*Y)/\Y=c*(b*Y - a*X)+a*(c*X - d*Y):=by
 obtain⟨U,hU⟩:=aj9 g1;obtain⟨V,hV⟩:=aj9 g2;rw[<- hU,<- hV,ai9,ai9];constructor
 ·have t1:d*(b*Y)=d*(a*X)+d*U:=by rw[<- hU,aiL]
  have t2:b*(c*X)=b*(d*Y)+b*V:=by rw[<- hV,aiL]
  have t3:b*(c*X)=(a*d+1)*X:=by rw[<- hdet,aiF]
  have t4:(a*d+1)*X=d*(a*X)+X:=by grind
  have t5:d*(b*Y)=b*(d*Y):=by grind
  omega
 ·have t1:c*(b*Y)=c*(a*X)+c*U:=by rw[<- hU,aiL]
  have t2:a*(c*X)=a*(d*Y)+a*V:=by rw[<- hV,aiL]
  have t3:c*(b*Y)=(a*d+1)*Y:=by rw[<- hdet]; grind
  have t4:(a*d+1)*Y=a*(d*Y)+Y:=by grind
  have t5:c*(a*X)=a*(c*X):=by grind
  omega
def GX {x0 y0 a b c d F rx ry X Y:Nat} (h:Ca x0 y0 a b c d true) (hrx:rx<F) (hry:ry<F) (hX:X=x0*F+rx) (hY:Y=y0*F+ry) :
  a*X<=b*Y/\d*Y<=c*X/\c*X - d*Y<=b*Y - a*X/\X=d*(b*Y - a*X)+b*(c*X - d*Y)/\Y=c*(b*Y - a*X)+a*(c*X - d*Y):=by
 obtain⟨p,q,h1,h2,hdet,hin,hb1,hc1,hd1,hal,hbl,hcl,hdl⟩:=h;simp only[aiw]at hdet hin;obtain⟨hdq,hpq⟩:=hin;have e1:b*Y+a*rx=a*X+(p*F+b*ry):=by
  subst h1 h2 hX hY;have:b*(c*p*F)=(a*d+1)*(p*F):=by rw[<- hdet]; grind
  grind
 have e2:c*X+d*ry=d*Y+(q*F+c*rx):=by
  subst h1 h2 hX hY;have:b*c*(q*F)=(a*d+1)*(q*F):=by rw[<- hdet]
  grind
 have m1:a*rx<=a*F:=aiB _ (by omega);have m3:d*ry<=d*F:=aiB _ (by omega);have m4:d*F<=q*F:=aiy _ hdq;have m5:(q+a+c)*F<=p*F:=aiy _ hpq;rw[aiY,aiY]at m5;have m6:c*rx<=c*F:=aiB _ (by omega);have g1:a*X<=b*Y:=by omega
 have g2:d*Y<=c*X:=by omega
 obtain⟨i1,i2⟩:=O8 hdet g1 g2;exact⟨g1,g2,by omega,i1,i2⟩
def Ey {x0 y0 a b c d F rx ry X Y:Nat} (h:Ca x0 y0 a b c d false) (hrx:rx<F) (hry:ry<F) (hX:X=x0*F+rx) (hY:Y=y0*F+ry) :
  b*Y<=a*X/\c*X<=d*Y/\d*Y - c*X<=a*X - b*Y/\X=d*(a*X - b*Y)+b*(d*Y - c*X)/\Y=c*(a*X - b*Y)+a*(d*Y - c*X):=by
 obtain⟨p,q,h1,h2,hdet,hin,hb1,hc1,hd1,hal,hbl,hcl,hdl⟩:=h;simp only[aiv]at hdet hin;obtain⟨hdq,hpq⟩:=hin;have e1:a*X+b*ry=b*Y+(p*F+a*rx):=by
  subst h1 h2 hX hY;have:a*d*(p*F)=(b*c+1)*(p*F):=by rw[<- hdet]
  grind
 have e2:d*Y+c*rx=c*X+(q*F+d*ry):=by
  subst h1 h2 hX hY;have:a*d*(q*F)=(b*c+1)*(q*F):=by rw[<- hdet]
  grind
 have m1:b*ry<=b*F:=aiB _ (by omega);have m3:c*rx<=c*F:=aiB _ (by omega);have m4:c*F<=q*F:=aiy _ hdq;have m5:(q+b+d)*F<=p*F:=aiy _ hpq;rw[aiY,aiY]at m5;have m6:d*ry<=d*F:=aiB _ (by omega);have g1:b*Y<=a*X:=by omega
 have g2:c*X<=d*Y:=by omega
 refine⟨g1,g2,by omega,?_,?_⟩
 ·obtain⟨U,hU⟩:=aj9 g1;obtain⟨V,hV⟩:=aj9 g2;rw[<- hU,<- hV,ai9,ai9];have t1:d*(a*X)=d*(b*Y)+d*U:=by rw[<- hU,aiL]
  have t2:b*(d*Y)=b*(c*X)+b*V:=by rw[<- hV,aiL]
  have t3:d*(a*X)=(b*c+1)*X:=by rw[<- hdet]; grind
  have t4:(b*c+1)*X=b*(c*X)+X:=by grind
  have t5:d*(b*Y)=b*(d*Y):=by grind
  omega
 ·obtain⟨U,hU⟩:=aj9 g1;obtain⟨V,hV⟩:=aj9 g2;rw[<- hU,<- hV,ai9,ai9];have t1:c*(a*X)=c*(b*Y)+c*U:=by rw[<- hU,aiL]
  have t2:a*(d*Y)=a*(c*X)+a*V:=by rw[<- hV,aiL]
  have t3:a*(d*Y)=(b*c+1)*Y:=by rw[<- hdet]; grind
  have t4:(b*c+1)*Y=c*(b*Y)+Y:=by grind
  have t5:c*(a*X)=a*(c*X):=by grind
  omega
def AZ {N X Y u v:Nat} (hN:1180591620717411303424<=N) (sX:(aj X).length<=1099511627000) (sY:(aj Y).length<=1099511627000) (hu:u<=1073741824) (hv:v<=1073741824) (hle:v*Y<=u*X) (k:Kz9) :
  Jm N (aj X) (u:Int) (aj Y) (v:Int) k=k (aj (u*X - v*Y)):=by
 (unfold Jm; rw[ae]; unfold LZ)
 have lu:=cN 1 u (by rw[als]; omega);have lv:=cN 1 v (by rw[als]; omega);have lX:=cN ((aj X).length+1) (X*u) (by rw[aiG]; exact ajx (jc X) (by omega))
 rw[uL u (by omega) (by omega),xU _ _ (ba _) (ba _) (by omega) (by omega),uL v (by omega) (by omega),xU _ _ (ba _) (ba _) (by omega) (by omega),aK,aK,aK,aK,
  xS _ _ (ba _) (ba _) (by rw[aK,aK,aix X,aix Y]; exact hle) ⟨by omega,by omega⟩,aK,aK,aix X,aix Y]
def yM {N X Y u v:Nat} (hN:1180591620717411303424<=N) (sX:(aj X).length<=1099511627000) (sY:(aj Y).length<=1099511627000) (hu:u<=1073741824) (hv:v<=1073741824) (hle:v*Y<=u*X) (k:Kz9) :
  oh N (aj X) (u:Int) (aj Y) (-(v:Int)) k=k (aj (u*X - v*Y)):=by
 (unfold oh; rw[ae]; unfold uk)
 have w1:IntKind.wrap .u64 (u:Int)=(u:Int):=by rw[aq]; omega
 have w2:IntKind.wrap .u64 (0 - -(v:Int))=(v:Int):=by rw[aq]; omega
 rw[ait (by omega : -(v:Int)<=0),aiw,aa air,w1,w2,AZ hN sX sY hu hv hle]
def yL {N X Y u v:Nat} (hN:1180591620717411303424<=N) (sX:(aj X).length<=1099511627000) (sY:(aj Y).length<=1099511627000) (hu:u<=1073741824) (hv:v<=1073741824) (hv1:1<=v) (hle:u*X<=v*Y) (k:Kz9) :
  oh N (aj X) (-(u:Int)) (aj Y) (v:Int) k=k (aj (v*Y - u*X)):=by
 (unfold oh; rw[ae]; unfold uk)
 have w1:IntKind.wrap .u64 (v:Int)=(v:Int):=by rw[aq]; omega
 have w2:IntKind.wrap .u64 (0 - -(u:Int))=(u:Int):=by rw[aq]; omega
 rw[aiu (by omega:¬(v:Int)<=0),aiv,aa air,w1,w2,AZ hN sY sX hv hu hle]
def ER {N:Nat} (hN:1180591620717411303424<=N) (e0:List Int->Bool):∀(b a M:Nat),b<M->(aj a).length<=1099511627000->(aj b).length<=1099511627000->ah M (yh N e0) (aj a,aj b)=e0 (aj (Nat.gcd a b)):=by
 intro b;induction b using Nat.strongRecOn with
 | ind b ih=>
 intro a M hM ha hb;obtain⟨M,rfl⟩:∃ m,M=m+1:=⟨M - 1,by omega⟩
 show yh N e0 (aj a,aj b) (ah M _)=_;simp only[yh];by_cases h:b=0
 ·subst h;have:(((aj 0).length:Nat):Int)=0:=by rw[aW]; rfl
  rw[this,aiu (by omega),aiv,akX]
 ·have hp:0<(aj b).length:=by rw[cE h]; simp
  have hm:=aiJ a (by omega:b>0);have hml:=ce (Nat.le_of_lt hm);rw[ait (by omega),aiw,uJ hN (by omega) ha hb,ih (a%b) hm b M (by omega) hb (by omega),ajJ b,<- alu,ajJ]
def re {N V f:Nat} (hf:f<140737488355328) (hs:(aj V).length+3<N/\(aj V).length<=1099511627000) (k:Kz9):BZ N (aj V) (f:Int) k=k (aj (V / 2 ^ f)):=by
 have hm:=ba V;have hmv:=aK V
 (unfold BZ; rw[ae]; unfold Rn)
 obtain⟨hN1,hN2⟩:=hs;have ew:IntKind.wrap .u64 (Int.tdiv (f:Int) 32)=((f / 32:Nat):Int):=by rw[aq,ajw (by omega)]; omega
 have es:Int.tmod (f:Int) 32=((f%32:Nat):Int):=by rw[ajn (by omega)]; rfl
 rw[ew,es,aa air];have hp2:2 ^ f=4294967296 ^ (f / 32)*2 ^ (f%32):=xf f;obtain⟨w,hw⟩:∃ w,w=f / 32:=⟨_,rfl⟩
 obtain⟨s,hsh⟩:∃ s,s=f%32:=⟨_,rfl⟩
 rw[<- hw,<- hsh]at hp2 ⊢;have hs32:s<32:=by omega
 have hs0:0<2 ^ s:=aiI s;obtain⟨m,hme⟩:∃ m,m=aj V:=⟨_,rfl⟩
 rw[<- hme]at hm hmv hN1 hN2 ⊢;by_cases h0:m.length<=w
 ·rw[ait (by omega:((w:Nat):Int)>=m.length),aiw];have h1:=fo hm;rw[hmv]at h1;have h2:4294967296 ^ m.length<=4294967296 ^ w:=aiK (by decide) h0;have h3:V / 2 ^ f=0:=by rw[hp2];refine ai0 ?_;have:4294967296 ^ w*1<=4294967296 ^ w*2 ^ s:=aiB _ hs0;omega
  rw[h3,aW]
 ·rw[aiu (by omega:¬((w:Nat):Int)>=m.length),aiv];obtain⟨Z,hZ⟩:∃ Z,Z=V / 2 ^ f:=⟨_,rfl⟩
  have elen:Int.toNat ((m.length:Int) - ((w:Nat):Int))=m.length - w:=by omega
  rw[elen,aa air,aa (bP (by omega) (by omega) (by omega) (by omega)),<- hZ];obtain⟨L,hL⟩:∃ L,L=m.length - w:=⟨_,rfl⟩
  rw[<- hL];refine aG (λi=>((i:Int),dl Z i++List.replicate (L - i) 0)) L (by simp[dl]) (by omega) (λi hi K=>?_) (λK=>?_)
  ·have hx:=hm.at (i:=w+i);have hy:=hm.at (i:=w+i+1);have hset:=An Z i L (by omega);have hl:(dl Z i++List.replicate (L - i) 0).length=L:=by simp[al]; omega
   have ei:Int.toNat ((w:Int)+(i:Int))=w+i:=by omega
   have ei1:Int.toNat ((w:Int)+(i:Int)+1)=w+i+1:=by omega
   have emin:min s 64=s:=by omega
   obtain⟨R,hR⟩:=Cl hm (w+i);rw[hmv]at hR;have hdig:Z / 4294967296 ^ i%4294967296=((m.getD (w+i) 0).toNat+4294967296*(m.getD (w+i+1) 0).toNat) / 2 ^ s%4294967296:=by
    rw[hZ,hp2,aiC];have e1:4294967296 ^ w*2 ^ s*4294967296 ^ i=4294967296 ^ (w+i)*2 ^ s:=by rw[aiN,aiF,aix (2 ^ s),<- aiF]
    rw[e1,<- aiC,hR];have e2:4294967296*4294967296*R=2 ^ s*(4294967296*(2 ^ (32 - s)*R)):=by
     have hs1:2 ^ s*2 ^ (32 - s)=4294967296:=by rw[<- aiN,show s+(32 - s)=32 by omega]
     rw[aiW (2 ^ s),<- aiF (2 ^ s),hs1,aiF]
    rw[e2,ajq _ _ hs0,ajK]
   have hfin:∀ z:Int,z=(((m.getD (w+i) 0).toNat+4294967296*(m.getD (w+i+1) 0).toNat:Nat):Int)->IntKind.wrap .u32 (Int.fdiv z (2 ^ s))=((Z / 4294967296 ^ i%4294967296:Nat):Int):=by
    intro z hz;have e:(2:Int) ^ s=((2 ^ s:Nat):Int):=by simp
    rw[hdig,hz,e,ajX _ (by omega),dH];rfl
   simp only[lR,aiA,ei,ei1,emin,hl];rw[ait (by omega:(i:Int)<L),aiw,aa air,aa ais,aa air,aa air];by_cases hlast:w+i+1<m.length
   ·rw[ait (by omega:(w:Int)+(i:Int)+1<m.length),aiw,aa air,aa air,aa ais,aa (ait (by omega)),aa ais,aa (ait (by omega)),aa air];have e1:IntKind.wrap .u64 (m.getD (w+i) 0)=(((m.getD (w+i) 0).toNat:Nat):Int):=by rw[aq]; omega
    have e2:IntKind.wrap .u64 (IntKind.wrap .u64 (m.getD (w+i+1) 0)*2 ^ 32)=((2 ^ 32*(m.getD (w+i+1) 0).toNat:Nat):Int):=by
     have:(2:Int) ^ 32=4294967296:=by decide
     have:(2:Nat) ^ 32=4294967296:=by decide
     rw[aq,aq]; omega
    have p32:(2:Nat) ^ 32=4294967296:=by decide
    rw[e1,e2,cL _ _ 32 (by omega) (by omega),hfin _ (by omega),hset,lw]
   ·rw[aiu (by omega:¬(w:Int)+(i:Int)+1<m.length),aiv,aa (ait (by omega)),aa ais,aa (ait (by omega)),aa air];have hz:m.getD (w+i+1) 0=0:=eI (by omega);have e1:IntKind.wrap .u64 (m.getD (w+i) 0)=(((m.getD (w+i) 0).toNat:Nat):Int):=by rw[aq]; omega
    rw[e1,hfin _ (by rw[hz]; simp),hset,lw]
  ·simp only[lR];have hl:(dl Z L++List.replicate (L - L) 0).length=L:=by simp[al]
   rw[aiu (by omega:¬((L:Nat):Int)<(((dl Z L++List.replicate (L - L) (0:Int)).length:Nat):Int)),aiv,ai4,ai8,ai3];have hVl:Z<4294967296 ^ L:=by have h1:=fo hm;rw[hmv]at h1;rw[hZ,aiD (aiI f),hp2,<- aiF,<- aiN,show L+w=m.length by omega];have:4294967296 ^ m.length*1<=4294967296 ^ m.length*2 ^ s:=aiB _ hs0;omega
   rw[dM _ (jw Z _) (by rw[al]; omega) (by rw[al]; omega),qT hVl]
def yz {N:Nat} (hN:1180591620717411303424<=N) {u v:List Int} (k:Kz9) :
  ∀ s x y,x+y=s->s<N->y<=x->(aj x).length<=134217728000 ->
   Iu N u v (aj x) (aj y) k=k (aj (Nat.gcd x y)):=by
 intro s x y hs hsN hyx hxl;unfold Iu;have main:∀ s x y M,x+y=s->s<M->M<=N->y<=x->(aj x).length<=134217728000 ->
   ah M (Bn N (λ(a_3:List Int) (W7:List Int)=>(ah N (yh N (λ(a_5:List Int)=>((decide ((List.length ([]++a_5))*4<=140737488355328))&&(k ([]++a_5))))) (a_3,W7)))) (aj x,aj y)=k (aj (Nat.gcd x y)):=by
  intro s;induction s using Nat.strongRecOn with
  | ind s ih=>
  intro x y M hs hsM hMN hyx hxl;obtain⟨M,rfl⟩:∃ m,M=m+1:=⟨M - 1,by omega⟩
  have hyl:=ce hyx;show Bn N _ (aj x,aj y) (ah M _)=_;simp only[Bn];by_cases h2:3<=(aj y).length
  ·have hyge:18446744073709551616<=y:=by
    rcases ajs y 18446744073709551616 with h | h
    ·have:=cN 2 y (by
      have:(4294967296:Nat) ^ 2=18446744073709551616:=by decide
      omega)
     omega
    ·exact h
   have hblx:64<bl x:=by
    rcases ajs 64 (bl x)with h | h
    ·exact h
    ·have h1:=yu x;have h3:2 ^ bl x<=2 ^ 64:=aiK (by decide) h;rw[oL]at h3;omega
   have hblu:bl x<=32*(aj x).length:=by refine wR ?_;rw[aln,DW]; exact jc x
   obtain⟨f,hf⟩:∃ f,bl x=f+62:=⟨bl x - 62,by omega⟩
   have ef:(bl x:Int) - 62=(f:Int):=by omega
   have hF0:0<2 ^ f:=aiI f;have p62:(2:Nat) ^ 62=4611686018427387904:=by decide
   have hx0l:x / 2 ^ f<4611686018427387904:=by rw[aiD hF0,<- p62,<- aiN,akm,<- hf]; exact yu x
   have hy0l:y / 2 ^ f<=x / 2 ^ f:=akI hyx;rw[ait (by omega),aiw,AN false x ⟨by omega,by omega⟩,ef,aa air,
    FH (by omega) (by omega) ⟨by omega,by omega⟩ (.inr trivial) (by omega) (λkk=>re (by omega) ⟨by omega,by omega⟩ kk),
    FH (by omega) (by omega) ⟨by omega,by omega⟩ (.inr trivial) (by omega) (λkk=>re (by omega) ⟨by omega,by omega⟩ kk)]
   obtain⟨a,b,c,d,odd,g1,g2⟩:=HM hN hx0l hy0l;rw[g2];rcases g1 with⟨hb0,ho⟩ | hgood
   ·subst hb0 ho;have e0:(sgn (!false) 0==0)=true:=rfl;have hm:=aiJ x (by omega:y>0);rw[e0,aiw,uJ hN (by omega) (by omega) (by omega),ih (y+x%y) (by omega) y (x%y) M rfl (by omega) (by omega) (by omega) (by omega),ajJ y,<- alu,ajJ]
   ·obtain⟨p,q,z1,z2,z3,z4,hb1,hc1,hd1,hal,hbl,hcl,hdl⟩:=id hgood;have fin:∀ U V:Nat,x=d*U+b*V->y=c*U+a*V->V<=U->U+V<x+y/\U<=x:=by
     intro U V hx hy hvu;have k1:1*U<=d*U:=aiy _ hd1;have k2:1*V<=b*V:=aiy _ hb1;have k3:1*U<=c*U:=aiy _ hc1;have hU0:0<U:=by
      rcases ajM U with hu | hu
      ·exfalso;have hv:V=0:=by omega
       rw[hu,hv,ajP,ajP]at hy;omega
      ·exact hu
     exact⟨by omega,by omega⟩
    cases odd with
    | true=>
     obtain⟨f1,f2,f3,f4,f5⟩:=GX hgood (aiJ x hF0) (aiJ y hF0) (ajr x (2 ^ f)).symm (ajr y (2 ^ f)).symm;obtain⟨w1,w2⟩:=fin _ _ f4 f5 f3;have hgc:=wV f4 f5 (akS (aiT (ajF _ _) _) (aiT (ajk _ _) _)) (akS (aiT (ajk _ _) _) (aiT (ajF _ _) _));have hUl:=ce w2;have e0:(sgn (!true) b==0)=false:=by simp only[ajm,dx]; simp; omega
     have s1:sgn true a = -(a:Int):=rfl;have s2:sgn (!true) b=(b:Int):=rfl;have s3:sgn (!true) c=(c:Int):=rfl;have s4:sgn true d = -(d:Int):=rfl;rw[e0,aiv,s1,s2,s3,s4,yL hN (by omega) (by omega) hal hbl hb1 f1,yM hN (by omega) (by omega) hcl hdl f2,ih _ (by omega) _ _ M rfl (by omega) (by omega) f3 (by omega),hgc]
    | false=>
     obtain⟨f1,f2,f3,f4,f5⟩:=Ey hgood (aiJ x hF0) (aiJ y hF0) (ajr x (2 ^ f)).symm (ajr y (2 ^ f)).symm;obtain⟨w1,w2⟩:=fin _ _ f4 f5 f3;have hgc:=wV f4 f5 (akS (aiT (ajk _ _) _) (aiT (ajF _ _) _)) (akS (aiT (ajF _ _) _) (aiT (ajk _ _) _));have hUl:=ce w2;have e0:(sgn (!false) b==0)=false:=by simp only[ai7,cV]; simp; omega
     have s1:sgn false a=(a:Int):=rfl;have s2:sgn (!false) b = -(b:Int):=rfl;have s3:sgn (!false) c = -(c:Int):=rfl;have s4:sgn false d=(d:Int):=rfl;rw[e0,aiv,s1,s2,s3,s4,yM hN (by omega) (by omega) hal hbl f1,yL hN (by omega) (by omega) hcl hdl hd1 f2,ih _ (by omega) _ _ M rfl (by omega) (by omega) f3 (by omega),hgc]
  ·rw[aiu (by omega),aiv,ER hN _ y x N (by omega) (by omega) (by omega),ajh];have hgl:(aj (Nat.gcd x y)).length<=134217728000:=by
    by_cases h0:x=0
    ·have hy0:y=0:=by omega
     rw[h0,hy0,akX,aW]; simp
    ·have:=ce (Nat.gcd_le_left y (akY h0));omega
   rw[aa (ait (by omega))]
 exact main s x y N hs hsN (aiH _) hyx hxl
def HA {N:Nat} (hN:1180591620717411303424<=N) {x y:Nat} (hf:x+y<N) (hxl:(aj x).length<=134217728000) (hyl:(aj y).length<=134217728000) (k:Kz9):Gl N (aj x) (aj y) k=k (aj (Nat.gcd x y)):=by
 (unfold Gl; rw[ae]; unfold LO)
 rw[iH x y ⟨by omega,by omega⟩ ⟨by omega,by omega⟩];by_cases h:x<y
 ·have hc:decide (dL x y<0)=true:=by unfold dL; rw[if_pos h]; rfl
  rw[hc,aiw,yz hN _ (y+x) y x rfl (by omega) (by omega) hyl,ajJ]
 ·have hc:decide (dL x y<0)=false:=by unfold dL; rw[if_neg h]; split <;> rfl
  rw[hc,aiv,yz hN _ (x+y) x y rfl hf (by omega) hxl]
def zi {a b:Nat} (ha:a<4294967296) (hb:b<4294967296):aA .and .u32 (a:Int) (b:Int)=((a &&& b:Nat):Int):=by
 unfold aA rN;simp only[ajf];have h32:(2:Nat) ^ 32=4294967296:=by decide
 have e:((BitVec.ofInt (IntKind.bits .u32) (a:Int)) &&& (BitVec.ofInt (IntKind.bits .u32) (b:Int))).toNat=a &&& b:=by show((BitVec.ofInt 32 (a:Int)) &&& (BitVec.ofInt 32 (b:Int))).toNat=_;rw[ak_,ajA,ajA,ajI,ajI,aiE (by omega),aiE (by omega)]
 have hl:a &&& b<4294967296:=aj2 Nat.and_le_left ha;rw[e,GQ _ hl]
def JJ {t c:Nat} (h:2 ^ t*(2*c+1)<2 ^ 32):(2 ^ t*(2*c+1)) &&& (2 ^ 32 - 2 ^ t*(2*c+1))=2 ^ t:=by
 have ht0:0<2 ^ t:=aiI t;have ht:t<32:=by
  rcases ajs t 32 with h1 | h1
  ·exact h1
  ·have h2:2 ^ 32<=2 ^ t:=aiK (by decide) h1;have h3:2 ^ t*1<=2 ^ t*(2*c+1):=aiB _ (by omega);omega
 have e1:2 ^ t*(2*c+1)=(2 ^ t*(2*c)+(2 ^ t - 1))+1:=by rw[aiL]; omega
 refine akH λj=>?_
 rw[alp];have e2:(2 ^ 32 - 2 ^ t*(2*c+1)).testBit j=(decide (j<32) && !(2 ^ t*(2*c)+(2 ^ t - 1)).testBit j):=by
  conv=>lhs; rw[e1]
  exact ale (by rw[e1]at h; omega) j
 rw[e2,Nat.testBit_two_pow_mul,alq _ (by omega),akh];rcases ak1 j t with hj | hj | hj
 ·rw[aiu (by omega:¬ j>=t),aiu (by omega:¬ t=j)]; rfl
 ·subst hj;rw[if_neg (by omega),ai4,ait (aiH _),ait ht,ait rfl];have a1:(2*c+1).testBit 0=true:=by rw[ala]; simp
  have a2:(2*c).testBit 0=false:=by rw[ala]; simp
  rw[a1,a2]; rfl
 ·obtain⟨k,hk⟩:∃ k,j - t=k+1:=⟨j - t - 1,by omega⟩
  rw[if_neg (by omega),hk,ait (by omega:j>=t),aiu (by omega:¬ t=j),alb,alb];have a1:(2*c+1) / 2=c:=by omega
  have a2:2*c / 2=c:=by omega
  rw[a1,a2];cases c.testBit k <;> simp
def OB:∀ t:Fin 32,(inR (Int.fdiv (IntKind.wrap .u32 (((2 ^ t.val:Nat):Int)*125613361)) (2 ^ 27)) 32=true)/\(List.getD za (Int.toNat (Int.fdiv (IntKind.wrap .u32 (((2 ^ t.val:Nat):Int)*125613361)) (2 ^ 27))) 0=(t.val:Int)):=by decide +kernel
def Nr (N:Nat) {t c:Nat} (h:2 ^ t*(2*c+1)<4294967296) (k:Kz5):TA N ((2 ^ t*(2*c+1):Nat):Int) k=k (t:Int):=by
 have h32:(2:Nat) ^ 32=4294967296:=by decide
 have ht0:0<2 ^ t:=aiI t;have hx0:0<2 ^ t*(2*c+1):=aku ht0 (by omega);have ht:t<32:=by
  rcases ajs t 32 with h1 | h1
  ·exact h1
  ·have h2:2 ^ 32<=2 ^ t:=aiK (by decide) h1;have h3:2 ^ t*1<=2 ^ t*(2*c+1):=aiB _ (by omega);omega
 (unfold TA; rw[ae]; unfold OG)
 have ha:=JJ (t:=t) (c:=c) (by omega);rw[h32]at ha;generalize 2 ^ t*(2*c+1)=x at *;have e0:((x:Int)==0)=false:=by simp; omega
 have ew:IntKind.wrap .u32 (0 - (x:Int))=((4294967296 - x:Nat):Int):=by rw[dH]; omega
 obtain⟨t1,t2⟩:=OB ⟨t,ht⟩;rw[e0,aiv,ew,zi h (by omega),ha,aa t1,t2,aa air]
def MP {t c:Nat}:2 ^ t*(2*c+1) / 4294967296 ^ (t / 32)%4294967296=2 ^ (t%32)*(2*(c%2 ^ (31 - t%32))+1):=by
 have hs1:2 ^ (t%32)*2 ^ (32 - t%32)=4294967296:=by rw[<- aiN,show t%32+(32 - t%32)=32 by omega]
 rw[xf t,aiF,ai5 _ (aT _),<- hs1,akd];congr 1;have e1:2 ^ (32 - t%32)=2*2 ^ (31 - t%32):=by rw[show 32 - t%32=(31 - t%32)+1 by omega,aiG,aix]
 rw[e1];have e2:=akD c (2 ^ (31 - t%32));generalize 2 ^ (31 - t%32)=P at *;generalize c / P=q at *;have hP:c%P<P\/P=0:=by
  rcases ajM P with h | h
  ·exact .inr h
  ·exact .inl (aiJ _ h)
 generalize c%P=r at *;have e3:2*c+1=(2*r+1)+2*P*q:=by rw[<- e2]; grind
 rw[e3,ajK];rcases hP with h | h
 ·exact aiE (by omega)
 ·subst h; simp
def Ha {t c i:Nat} (hi:i<t / 32):2 ^ t*(2*c+1) / 4294967296 ^ i%4294967296=0:=by
 have e:2 ^ t*(2*c+1)=4294967296 ^ (i+1)*(4294967296 ^ (t / 32 - (i+1))*(2 ^ (t%32)*(2*c+1))):=by rw[xf t,<- aiF,<- aiN,show i+1+(t / 32 - (i+1))=t / 32 by omega,aiF]
 rw[e,aiG,aiF,ai5 _ (aT i),alB]
def AU {N:Nat} {t c:Nat} (g:Bool) (hN:fH N (aj (2 ^ t*(2*c+1)))) (ht:t<140737488355328) (k:Kz5):sQ2 N g (aj (2 ^ t*(2*c+1))) k=k (t:Int):=by
 (unfold sQ2; rw[ae]; unfold GQ2)
 obtain⟨n1,n2⟩:=hN;have hd:=MP (t:=t) (c:=c);have hgd:=λi=>nZ i (2 ^ t*(2*c+1))
 have hlt:2 ^ t*(2*c+1) / 4294967296 ^ (t / 32)%4294967296<4294967296:=aiJ _ (by decide);have hwl:t / 32<(aj (2 ^ t*(2*c+1))).length:=by
  refine I3 λh=>?_
  rw[h,Nat.zero_mod]at hd;have:=aku (aiI (t%32)) (show 0<2*(c%2 ^ (31 - t%32))+1 by omega);omega
 have hbel:=λi=>Ha (t:=t) (c:=c) (i:=i)
 generalize aj (2 ^ t*(2*c+1))=l at *;refine aG (λi=>(i:Int)) (t / 32) rfl (by omega) (λi hi K=>?_) (λK=>?_)
 ·simp only[Jq,aiA];have hz:(l.getD i 0 != 0)=false:=by rw[hgd,hbel i hi]; rfl
  rw[ait (by omega:(i:Int)<((l.length:Nat):Int)),aiw,aa ais,hz,aiv,aa air];rfl
 ·simp only[Jq,aiA];have hp:=aku (aiI (t%32)) (show 0<2*(c%2 ^ (31 - t%32))+1 by omega);have hz:(l.getD (t / 32) 0 != 0)=true:=by rw[hgd,hd]; simp only[bne_iff_ne,ne_eq]; omega
  rw[ait (by omega:((t / 32:Nat):Int)<((l.length:Nat):Int)),aiw,aa ais,hz,aiw,aa air,aa ais,hgd,hd,Nr N (by rw[<- hd]; exact hlt),aa air];congr 1;rw[aq]; omega
def krR (z:Int) (d:Nat) (k:Kx6):Bool:=k (decide (z<0)) (aj z.natAbs) false (aj d)
def kqR (x:Rat) (k:Kx6):Bool:=krR x.num x.den k
def Nc (g:Bool) (n d:Nat) (k:Kx6):k (sg g n) (aj n) false (aj d)=krR (aV g n) d k:=uP g n (λa b=>k a b false (aj d))
def rV {B n:Nat} (hB:B<=2000000000100) (h:aS B n):(aj n).length<=62500000006:=by have:=z_ h; omega
def pF {N B n:Nat} (hF:Fuel N) (hB:B<=2000000000100) (h:aS B n):fH N (aj n):=by have h1:=rV hB h;have:=hF.lt;exact⟨by omega,by omega⟩
def HV (g:Bool) (n d:Nat) (h0:0<d):(mkRat (aV g n) d).num=aV g (n / Nat.gcd n d)/\(mkRat (aV g n) d).den=d / Nat.gcd n d:=by
 have e:(aV g n).natAbs=n:=by unfold aV; cases g <;> simp
 have hg:0<Nat.gcd n d:=ajz _ h0;constructor
 ·rw[alG,if_neg (by omega),e,ajJ];have hh:((Nat.gcd n d:Nat):Int) ≠ 0:=by omega
  have e2:aV g n=((Nat.gcd n d:Nat):Int)*aV g (n / Nat.gcd n d):=by
   have hnn:n=Nat.gcd n d*(n / Nat.gcd n d):=(Nat.mul_div_cancel' (ajk n d)).symm;have hc:(n:Int)=((Nat.gcd n d:Nat):Int)*((n / Nat.gcd n d:Nat):Int):=by rw[<- aiQ,<- hnn]
   unfold aV;cases g
   ·simpa using hc
   ·simp only[aj6]; rw[hc,alo]
  rw[e2,aks _ hh]
 ·rw[alH,if_neg (by omega),e,ajJ]
def Hu (g:Bool) (n m:Nat):aV g (n*m)=aV g n*(m:Int):=by
 unfold aV; cases g
 ·simp
 ·simp[alF]
def T6 {t c u e:Nat} (h:2 ^ (u - min t u)*(2*e+1)<2 ^ (u - min t u+1)):Nat.gcd (2 ^ (t - min t u)*(2*c+1)) (2 ^ (u - min t u)*(2*e+1))=1:=by
 have he:e=0:=by
  rcases ajM e with h1 | h1
  ·exact h1
  ·have:2 ^ (u - min t u)*2<=2 ^ (u - min t u)*(2*e+1):=aiB _ (by omega);rw[aiG]at h; omega
 subst he;rw[ajP,aiZ,akg];rcases Nat.le_total t u with h1 | h1
 ·rw[ajU h1,ai4,akn,akt];refine Nat.Coprime.pow_right _ ?_;show Nat.gcd (2*c+1) 2=1;rw[ajJ,alu];have:(2*c+1)%2=1:=by omega
  rw[this]; rfl
 ·rw[Nat.min_eq_right h1,ai4,akn,Nat.gcd_one_right]
def GG {t m c:Nat} (h:m<=t):2 ^ t*(2*c+1) / 2 ^ m=2 ^ (t - m)*(2*c+1):=by
 have:2 ^ t=2 ^ m*2 ^ (t - m):=by rw[<- aiN]; congr 1; omega
 rw[this,aiF,ai5 _ (aiI m)]
def Js {B t c:Nat} (h:aS B (2 ^ t*(2*c+1))):t<B:=by
 unfold aS at h;have h1:2 ^ t*1<=2 ^ t*(2*c+1):=aiB _ (by omega);have h2:2 ^ t<2 ^ B:=by omega
 exact(Nat.pow_lt_pow_iff_right (by decide)).1 h2
def Td {t c:Nat}:bl (2 ^ t*(2*c+1))=t+1↔2 ^ t*(2*c+1)<2 ^ (t+1):=by
 have hp:=aiI t;have h0:2 ^ t*(2*c+1) ≠ 0:=by have:=aku hp (show 0<2*c+1 by omega); omega
 constructor
 ·intro h; have:=yu (2 ^ t*(2*c+1)); rwa [h]at this
 ·intro h;have h1:=wR h;have h2:=yu (2 ^ t*(2*c+1));have h3:2 ^ t*1<=2 ^ t*(2*c+1):=aiB _ (by omega);have h4:2 ^ t<2 ^ bl (2 ^ t*(2*c+1)):=by omega
  have:=(Nat.pow_lt_pow_iff_right (by decide:1<2)).1 h4;omega
def f_ {N B n:Nat} (hF:Fuel N) (hB:B<=2000000000100) (h:aS B n) (k:Kz9):mJ N (aj n) k=k (aj n):=by have h1:=rV hB h;have:=hF.lt;rw[IY _ (ba n) (by omega) (by omega),aK]
def CH {N B:Nat} (hF:Fuel N) (hB:B<=2000000000100) (g:Bool) {n d:Nat} (hn:aS B n) (hd:aS B d) (hn0:n ≠ 0) (hd0:d ≠ 0) (J:List Int->List Int->Bool) (k:Kx6)
  (hJ:∀ a b:Nat,aS B a->aS B b->J (aj a) (aj b)=k (sg g a) (aj a) false (aj b)) :
  (sQ2 N false (aj n) (λ(nr:Int)=>(sQ2 N false (aj d) (λ(W4:Int)=>
   (BZ N (aj n) (cond (decide (W4<nr)) W4 nr) (λ(Xh:List Int)=>(BZ N (aj d) (cond (decide (W4<nr)) W4 nr) (λ(Xg:List Int)=>(sQ2 N false Xg (λ(W_:Int)=>((ac .i64 W_)&&(K1 N false Xg (λ(Xx:Int)=>((ac .i64 (Xx - 1))&&(cond (W_ != (Xx - 1)) (Gl N Xh Xg (λ(s6:List Int)=>(rZ N (λ(s7:List Int)=>(D2 N s6 s7 (λ(XJ:Int)=>(cond (XJ != 0) (qw N Xh s6 (λ(s8:List Int) (s9:List Int)=>(qw N Xg s6 (λ(s10:List Int) (s11:List Int)=>(J s8 s10))))) (J Xh Xg)))))))) (J Xh Xg))))))))))))))))
   = kqR (mkRat (aV g n) d) k:=by
 have hl:=hF.lt;have hbig:=hF.big;obtain⟨t,c,hnt⟩:=A8 n hn0;obtain⟨u,e,hdu⟩:=A8 d hd0;have htB:t<B:=Js (by rw[<- hnt]; exact hn);have huB:u<B:=Js (by rw[<- hdu]; exact hd);have sn:=pF hF hB hn;have sd:=pF hF hB hd;have ln:=rV hB hn;have ld:=rV hB hd;have z1:=λkk=>AU (N:=N) (t:=t) (c:=c) false (by rw[<- hnt]; exact sn) (by omega) kk
 have z2:=λkk=>AU (N:=N) (t:=u) (c:=e) false (by rw[<- hdu]; exact sd) (by omega) kk
 rw[<- hnt]at z1;rw[<- hdu]at z2;rw[z1,z2];obtain⟨m,hm⟩:∃ m,m=min t u:=⟨_,rfl⟩
 have em:cond (decide ((u:Int)<(t:Int))) (u:Int) (t:Int)=(m:Int):=by
  by_cases h:u<t
  ·rw[ait (by omega),aiw,hm,Nat.min_eq_right (by omega)]
  ·rw[aiu (by omega),aiv,hm,ajU (by omega)]
 rw[em,re (by omega) ⟨by omega,by omega⟩,re (by omega) ⟨by omega,by omega⟩];have ha:n / 2 ^ m=2 ^ (t - m)*(2*c+1):=by rw[hnt]; exact GG (by rw[hm]; exact Nat.min_le_left _ _)
 have hb:d / 2 ^ m=2 ^ (u - m)*(2*e+1):=by rw[hdu]; exact GG (by rw[hm]; exact alK _ _)
 have hbn:aS B (n / 2 ^ m):=cd hn;have hbd:aS B (d / 2 ^ m):=cd hd;have hmk:mkRat (aV g n) d=mkRat (aV g (n / 2 ^ m)) (d / 2 ^ m):=by
  have e1:n=n / 2 ^ m*2 ^ m:=by
   rw[ha,hnt,alx,<- aiN];congr 2; have:m<=t:=by rw[hm]; exact Nat.min_le_left _ _
   omega
  have e2:d=d / 2 ^ m*2 ^ m:=by
   rw[hb,hdu,alx,<- aiN];congr 2; have:m<=u:=by rw[hm]; exact alK _ _
   omega
  conv=>lhs; rw[e1,e2,Hu]
  rw[Rat.mkRat_mul_right (by have:=aiI m; omega)]
 rw[hmk];obtain⟨a,hae⟩:∃ a,a=n / 2 ^ m:=⟨_,rfl⟩
 obtain⟨b,hbe⟩:∃ b,b=d / 2 ^ m:=⟨_,rfl⟩
 rw[<- hae]at ha hbn ⊢;rw[<- hbe]at hb hbd ⊢;have hb0:0<b:=by rw[hb]; exact aku (aiI _) (by omega)
 have z3:=λkk=>AU (N:=N) (t:=u - m) (c:=e) false (by rw[<- hb]; exact pF hF hB hbd) (by omega) kk
 rw[<- hb]at z3;have hblb:bl b<=B:=wR hbd;have hbl0:0<bl b:=(Mt (by omega)).1;rw[z3,aa air,AN false b (pF hF hB hbd),aa air];obtain⟨i1,i2⟩:=HV g a b hb0;unfold kqR;rw[i1,i2];have fin1:Nat.gcd a b=1->J (aj a) (aj b)=krR (aV g (a / Nat.gcd a b)) (b / Nat.gcd a b) k:=by intro h;rw[hJ a b hbn hbd,Nc _ _ _ k,h,aki,aki]
 by_cases hp:bl b=u - m+1
 ·have:(((u - m:Nat):Int) != (bl b:Int) - 1)=false:=by simp; omega
  rw[this,aiv];refine fin1 ?_;rw[ha,hb,hm];refine T6 ?_;rw[<- hm];rw[hb]at hp;exact Td.1 hp
 ·have:(((u - m:Nat):Int) != (bl b:Int) - 1)=true:=by simp; omega
  have la:=rV hB hbn;have lb:=rV hB hbd;have hgp:0<Nat.gcd a b:=ajz _ hb0;have hgb:aS B (Nat.gcd a b):=mP hbd (akw _ hb0);have lg:=rV hB hgb;have e1:aj 1=[1]:=ux (by decide) (by decide);rw[this,aiw,HA hbig (hF.sum (by omega) hbn hbd) (by omega) (by omega)];unfold rZ It;dsimp only;rw[<- e1,iH _ 1 ⟨by omega,by omega⟩ ⟨by rw[e1]; simp; omega,by rw[e1]; simp⟩];by_cases hc:Nat.gcd a b=1
  ·have:(dL (Nat.gcd a b) 1 != 0)=false:=by rw[hc]; rfl
   rw[this,aiv];exact fin1 hc
  ·have:(dL (Nat.gcd a b) 1 != 0)=true:=by unfold dL; rw[if_neg (by omega),if_neg hc]; rfl
   rw[this,aiw,uJ hbig hgp (by omega) (by omega),uJ hbig hgp (by omega) (by omega),hJ _ _ (cd hbn) (cd hbd),Nc _ _ _ k]
def ES {α:Type} (c:Bool) (f:α->Bool) (a b:α):cond c (f a) (f b)=f (cond c a b):=by cases c <;> rfl
def uI {N B:Nat} (hF:Fuel N) (hB:B<=2000000000100) (g:Bool) {n d:Nat} (hn:aS B n) (hd:aS B d) (hd0:d ≠ 0) (b1 b2:Bool) (k:Kx6) :
  KX N g (aj n) (aj d) b1 b2 k=kqR (mkRat (aV g n) d) k:=by
 have hl:=hF.lt;have hJ:∀ a b:Nat,aS B a->aS B b -> ∀ x y,JE N g x y b1 b2 (aj a) (aj b) k=k (sg g a) (aj a) false (aj b):=by
  intro a b ha hb x y;unfold JE Gk LC;rw[f_ hF hB ha];unfold Gq Mb;dsimp only;rw[f_ hF hB hb,f_ hF hB hb];cases g
  ·rfl
  ·simp only[nP,sg,ajy]; rfl
 (unfold KX; rw[ae]; unfold QQ)
 by_cases h0:n=0
 ·subst h0;rw[aW];show Gk N false [] b1 b2 _=_;have e0:aV g 0=0:=by unfold aV; cases g <;> rfl
  unfold Gk LC;rw[<- aW,f_ hF (B:=10) (by decide) (by unfold aS; decide)];unfold rZ It Gq Mb;have e1:aj 1=[1]:=ux (by decide) (by decide);dsimp only;rw[<- e1,f_ hF (B:=10) (by decide) (by unfold aS; decide),f_ hF (B:=10) (by decide) (by unfold aS; decide),e0,Rat.zero_mkRat];rfl
 ·have e0:((((aj n).length:Nat):Int)==0)=false:=by rw[cE h0]; simp; omega
  rw[e0,aiv];have:=CH hF hB g hn hd h0 hd0 (λx y=>JE N g (aj n) (aj d) b1 b2 x y k) k (λa b ha hb=>hJ a b ha hb _ _);rw[<- this];congr 1; funext nr; congr 1; funext W4;exact ES (decide (W4<nr)) (λz=>Mc N g (aj n) (aj d) b1 b2 z k) W4 nr
def HG {N B:Nat} (hF:Fuel N) (hB:B<=2000000000100) (g:Bool) {n d:Nat} (hn:aS B n) (hd:aS B d) (hd0:d ≠ 0) (b1 b2:Bool) (l1 l2:List Int) (k:Kx6) :
  TR N g (aj n) (aj d) b1 l1 b2 l2 k=kqR (mkRat (aV g n) d) k:=by
 have hl:=hF.lt;have hJ:∀ a b:Nat,aS B a->aS B b -> ∀ x y,JF N g x y b1 l1 b2 l2 (aj a) (aj b) k=k (sg g a) (aj a) false (aj b):=by
  intro a b ha hb x y;unfold JF Gf Ll;rw[f_ hF hB ha];unfold Gq Mb;dsimp only;rw[f_ hF hB hb,f_ hF hB hb];cases g
  ·rfl
  ·simp only[nP,sg,ajy]; rfl
 (unfold TR; rw[ae]; unfold Rg)
 by_cases h0:n=0
 ·subst h0;rw[aW];show Gf N false [] b1 l1 b2 l2 _=_;have e0:aV g 0=0:=by unfold aV; cases g <;> rfl
  unfold Gf Ll;rw[<- aW,f_ hF (B:=10) (by decide) (by unfold aS; decide)];unfold rZ It Gq Mb;have e1:aj 1=[1]:=ux (by decide) (by decide);dsimp only;rw[<- e1,f_ hF (B:=10) (by decide) (by unfold aS; decide),f_ hF (B:=10) (by decide) (by unfold aS; decide),e0,Rat.zero_mkRat];rfl
 ·have e0:((((aj n).length:Nat):Int)==0)=false:=by rw[cE h0]; simp; omega
  rw[e0,aiv];have:=CH hF hB g hn hd h0 hd0 (λx y=>JF N g (aj n) (aj d) b1 l1 b2 l2 x y k) k (λa b ha hb=>hJ a b ha hb _ _);rw[<- this];congr 1; funext nr; congr 1; funext W4;exact ES (decide (W4<nr)) (λz=>Md N g (aj n) (aj d) b1 l1 b2 l2 z k) W4 nr
def wa {N:Nat} (a:Bool) (l:List Int) (b:Bool) {d:Nat} (hd:d ≠ 0) (k:Kz9):Od N a l b (aj d) k=k (aj d):=by
 (unfold Od; rw[ae]; unfold Ri)
 have:((((aj d).length:Nat):Int)==0)=false:=by rw[cE hd]; simp; omega
 rw[this]; rfl
def fP {N:Nat} (a:Bool) (l:List Int) (b:Bool) {d:Nat} (hd:d ≠ 0) (k:Kz9):sQ7 N a l b (aj d) k=k (aj d):=by
 (unfold sQ7; rw[ae]; unfold GQ7)
 have:((((aj d).length:Nat):Int)==0)=false:=by rw[cE hd]; simp; omega
 rw[this]; rfl
def lj {N B:Nat} (hF:Fuel N) (hB:B<=2000000000100) {a b:Nat} (ha:aS B a) (hb:aS B b) (k:Kz9):xi N (aj a) (aj b) k=k (aj (a*b)):=by have h1:=rV hB ha;have h2:=rV hB hb;have:=hF.lt;rw[xU _ _ (ba _) (ba _) (by omega) (by omega),aK,aK]
def Nx {N B:Nat} (hF:Fuel N) (hB:B<=1000000000000) {x y:Rat} (hx:Bq B x) (hy:Bq B y) (b1 b2:Bool) (k:Kx6) :
  TC N b1 b2 (decide (x.num<0)) (aj x.num.natAbs) false (aj x.den) (decide (y.num<0)) (aj y.num.natAbs) false (aj y.den) k=kqR (x*y) k:=by
 (unfold TC; rw[ae]; unfold QM)
 have hB2:B<=2000000000100:=by omega
 rw[lj hF hB2 hx.1 hy.1,fP _ _ _ x.den_nz,fP _ _ _ y.den_nz,lj hF hB2 hx.2 hy.2,
  uI hF (B:=B+B) (by omega) _ (dI hx.1 hy.1) (dI hx.2 hy.2) (alO x.den_nz y.den_nz),AH,iT,iT,<- Rat.mul_def']
def NB {N B:Nat} (hF:Fuel N) (hB:B<=1000000000000) {x y:Rat} (hx:Bq B x) (hy:Bq B y) (h0:y.num ≠ 0) (b1 b2:Bool) (k:Kx6) :
  TD N b1 b2 (decide (x.num<0)) (aj x.num.natAbs) false (aj x.den) (decide (y.num<0)) (aj y.num.natAbs) false (aj y.den) k=kqR (x / y) k:=by
 (unfold TD; rw[ae]; unfold QN)
 have hB2:B<=2000000000100:=by omega
 obtain⟨i1,i2,i3⟩:=AE h0;rw[fP _ _ _ y.den_nz,lj hF hB2 hx.1 hy.2,fP _ _ _ x.den_nz,lj hF hB2 hx.2 hy.1,
  uI hF (B:=B+B) (by omega) _ (dI hx.1 hy.2) (dI hx.2 hy.1) (alO x.den_nz (by omega)),AH,iT,Rat.div_def,Rat.mul_def',i2]
 have:aV (decide (y.num<0)) y.den=(y⁻¹).num:=by rw[<- i3,<- i1,iT]
 rw[this]
def NH {N B:Nat} (hF:Fuel N) (hB:B<=1000000000000) {x y:Rat} (hx:Bq B x) (hy:Bq B y) (k:Kx6) :
  TE N (decide (x.num<0)) (aj x.num.natAbs) false (aj x.den) (decide (y.num<0)) (aj y.num.natAbs) false (aj y.den) k=kqR (x - y) k:=by
 (unfold TE; rw[ae]; unfold QS; unfold UV; rw[ae]; unfold Rp)
 have hB2:B<=2000000000100:=by omega
 have ha:=dI hx.1 hy.2;have hb:=dI hy.1 hx.2;have hB3:B+B+1<=2000000000100:=by omega
 rw[fP _ _ _ y.den_nz,lj hF hB2 hx.1 hy.2,fP _ _ _ x.den_nz,lj hF hB2 hy.1 hx.2];dsimp only;rw[fP _ _ _ x.den_nz,fP _ _ _ y.den_nz,lj hF hB2 hx.2 hy.2,
  Ki false _ _ _ _ (pF hF (by omega) ha) (pF hF (by omega) hb) (pF hF hB3 (wQ ha hb)),tn,tn]
 unfold vc;dsimp only;have hz:aS (B+B+1) (x.num*(y.den:Int) - y.num*(x.den:Int)).natAbs:=by
  refine mP (wQ ha hb) ?_;have e1:(x.num*(y.den:Int)).natAbs=x.num.natAbs*y.den:=by rw[akf,ajp]
  have e2:(y.num*(x.den:Int)).natAbs=y.num.natAbs*x.den:=by rw[akf,ajp]
  omega
 rw[HG hF hB3 _ hz (bN (dI hx.2 hy.2) (by omega)) (alO x.den_nz y.den_nz),iT,<- Rat.sub_def']
def xT {N:Nat} (x:Rat) (k:Kz5):Gj N (decide (x.num<0)) (aj x.num.natAbs) false (aj x.den) k=k (xn x.num):=by
 (unfold Gj Qa; unfold CY; rw[ae]; unfold xA xn)
 by_cases h0:x.num=0
 ·rw[h0,if_pos rfl];have:aj (0:Int).natAbs=[]:=aW;rw[this]; rfl
 ·have:((((aj x.num.natAbs).length:Nat):Int)==0)=false:=by rw[cE (by omega)]; simp; omega
  rw[this,aiv,if_neg h0];by_cases h:x.num<0
  ·rw[ait h,aiw,if_pos h]
  ·rw[aiu h,aiv,if_neg h]
def yA (n:Nat):bR (aj n) (aj n).length=(aj n).length:=EW n
def Nm {N B:Nat} (hF:Fuel N) (hB:B<=2000000000100) {x:Rat} (hx:Bq B x) (b1 b2:Bool) (l1 l2:List Int) (k:Kx6) :
  TX N (decide (x.num<0)) (aj x.num.natAbs) false (aj x.den) b1 l1 b2 l2 k=kqR x k:=by
 (unfold TX; rw[ae]; unfold Rv)
 have h1:=rV hB hx.1;have h2:=rV hB hx.2;have hl:=hF.lt;rw[ajh,aa (ait (by omega)),wa _ _ _ x.den_nz,ajh,aa (ait (by omega))];unfold sa rK Qz Qc;rw[mC _ (by omega) (by omega),yA];dsimp only;rw[mC _ (by omega) (by omega),mC _ (by omega) (by omega),yA];have e1:(List.take (aj x.num.natAbs).length (List.drop 0 (aj x.num.natAbs)))=aj x.num.natAbs:=by simp
 have e2:(List.take (aj x.den).length (List.drop 0 (aj x.den)))=aj x.den:=by simp
 have e3:decide (0+(aj x.num.natAbs).length<=(aj x.num.natAbs).length)=true:=ait (by omega);have e4:decide (0+(aj x.den).length<=(aj x.den).length)=true:=ait (by omega);rw[e1,e2,e3,e4];unfold kqR krR;by_cases h:x.num<0
 ·have:decide (((((aj x.num.natAbs).length:Nat):Nat):Int)>0)=true:=by rw[nP]; exact ait (by omega)
  rw[ait h,this]; rfl
 ·rw[aiu h]; rfl
end Go.Proofs.YtbiingchhnlcnaaGreatDoor
end
