/- Laws in plain Lean. Conditions: none. -/
import Derived.Test.YteifemaagdeomaaGreatDoorC2
set_option linter.defProp false
set_option linter.unusedVariables false
section
namespace Go.Proofs.YteifemaagdeomaaGreatDoor
open Go Go.Mach
def tv:∀(i V:Nat),(am V).getD i 0=((V / 4294967296 ^ i%4294967296:Nat):Int)
 | i,V=>by
  by_cases h:V=0
  ·subst h; rw[bG]; simp
  ·rw[fQ h];cases i with
   | zero=>simp
   | succ i=>
    show(am (V / 4294967296)).getD i 0=_;rw[tv i (V / 4294967296),aG3,aGV,<- aGY]
def Vb {V w:Nat} (h:V / 4294967296 ^ w ≠ 0):w<(am V).length:=by
 rcases aHN w (am V).length with h1 | h1
 ·exact h1
 ·exfalso;have h2:=jU (bN V);rw[aS]at h2;exact h (aHm (aHc h2 (aG7 (by decide) h1)))
def Az {n:Nat} (h0:n ≠ 0) (h:n<4294967296):am n=[(n:Int)]:=by rw[fQ h0,aHm h,bG,aG1 h]
def PX (Q n m:Nat) (h:m<n):(List.replicate (m+1) (0:Int)++(dl Q n).drop (m+1)).set m ((Q / 4294967296 ^ m%4294967296:Nat):Int)=List.replicate m 0++(dl Q n).drop m:=by rw[aIv,aG9,List.singleton_append,bM _ _ _ _ _ (by simp),ig (n:=m) (by rw[aq]; exact h),AA Q h]
def J6 {A d:Nat} (hd:0<d):(A / 4294967296%d*4294967296+A%4294967296)%d=A%d/\(A / 4294967296%d*4294967296+A%4294967296) / d=A / d%4294967296:=by
 have h1:=aHF A 4294967296;have h2:=aHF (A / 4294967296) d;have h3:=aG6 (A / 4294967296) hd;have h4:A%4294967296<4294967296:=aG6 _ (by decide);obtain⟨a,ha⟩:∃ a,a=A / 4294967296:=⟨_,rfl⟩
 obtain⟨e,he⟩:∃ e,e=A%4294967296:=⟨_,rfl⟩
 rw[<- ha]at h1 h2 h3 ⊢;rw[<- he]at h1 h4 ⊢;obtain⟨c,hc⟩:∃ c,c=a / d:=⟨_,rfl⟩
 obtain⟨r,hr⟩:∃ r,r=a%d:=⟨_,rfl⟩
 rw[<- hc,<- hr]at h2;rw[<- hr]at h3 ⊢;have h5:A=d*(c*4294967296)+(r*4294967296+e):=by rw[<- h1,<- h2,<- aG2,aG8,aGV 4294967296,aGV 4294967296]; omega
 constructor
 ·rw[h5,aI1]
 ·rw[h5,aJN hd,aGV c,aI1];refine(aG1 ?_).symm;rw[aG0 hd];have:=aGX 4294967296 h3;rw[aIq]at this;rw[aGV _ d,aGV d];rw[aGV d]at this;omega
def mW (x:Nat):x<4294967296 ^ (am x).length:=by have:=jU (bN x); rwa [aS]at this
def as8 (c:List Int) (m:Nat):aI (c.take (m+3))=aI (c.take m)+4294967296 ^ m*((c.getD m 0).toNat+4294967296*((c.getD (m+2) 0).toNat*4294967296+(c.getD (m+1) 0).toNat)):=by rw[show m+3=m+2+1 by omega,aY,show m+2=m+1+1 by omega,aY,aY];simp only[aG3];generalize 4294967296 ^ m=P;grind
def as7 (c:List Int) (m:Nat):aI (c.take (m+2))=aI (c.take m)+4294967296 ^ m*((c.getD m 0).toNat+4294967296*(c.getD (m+1) 0).toNat):=by rw[show m+2=m+1+1 by omega,aY,aY];simp only[aG3];generalize 4294967296 ^ m=P;grind
def QH {b:List Int} {o i:Nat} (D:Nat) (h:o+i<=b.length):(b.take o++(dl D i++b.drop (o+i))).length=b.length:=by simp[aq]; omega
def QG {b:List Int} {o i:Nat} (D:Nat) (h:o+i<b.length):(b.take o++(dl D i++b.drop (o+i))).getD (o+i) 0=b.getD (o+i) 0:=by rw[<- aG9,ig h,eI (by simp[aq]; omega)]
def Km {b:List Int} {o i:Nat} (D:Nat) (h:o+i<b.length):(b.take o++(dl D i++b.drop (o+i))).set (o+i) ((D / 4294967296 ^ i%4294967296:Nat):Int)=b.take o++(dl D (i+1)++b.drop (o+(i+1))):=by rw[<- aG9,ig h,bM _ _ _ _ _ (by simp[aq]; omega),dl];simp[aHx]
def QE {b:List Int} {o i n:Nat} (D E:Nat) (hi:i<=n) (h:o+n<=b.length):(b.take o++(dl E i++((dl D n).drop i++b.drop (o+n)))).length=b.length:=by simp[aq]; omega
def QD {b:List Int} {o i n:Nat} (D E:Nat) (hi:i<n) (h:o+n<=b.length):(b.take o++(dl E i++((dl D n).drop i++b.drop (o+n)))).getD (o+i) 0=((D / 4294967296 ^ i%4294967296:Nat):Int):=by rw[<- aG9,ig (n:=i) (by rw[aq]; exact hi),aIB,eI (by simp[aq]; omega),AA D hi]
def QF {b:List Int} {o i n:Nat} (D E:Nat) (hi:i<n) (h:o+n<=b.length):(b.take o++(dl E i++((dl D n).drop i++b.drop (o+n)))).set (o+i) ((E / 4294967296 ^ i%4294967296:Nat):Int)=b.take o++(dl E (i+1)++((dl D n).drop (i+1)++b.drop (o+n))):=by rw[<- aG9,ig (n:=i) (by rw[aq]; exact hi),aIB,bM _ _ _ _ _ (by simp[aq]; omega),dl];simp
def UV {m:Nat} (S X:Nat):∀ n,n<=m->dl (S+4294967296 ^ m*X) n=dl S n
 | 0,_=>rfl
 | n+1,h=>by rw[dl,dl,UV S X n (by omega)];congr 3;refine qM (R:=4294967296 ^ (m - (n+1))*X) ?_;rw[<- aG2,<- aG_,show n+1+(m - (n+1))=m by omega]
def Kg {w:List Int} {n i U Q:Nat} (hw:InW w) (hl:w.length=n+1) (hU:U=aI w) (hi:i<=n) (hQ:Q<4294967296 ^ (n+1)) :
  (((w.getD i 0).toNat+4294967296 - Q / 4294967296 ^ i%4294967296 - (if aI (w.take i)<Q%4294967296 ^ i then 1 else 0))%4294967296=(U+4294967296 ^ (n+1) - Q) / 4294967296 ^ i%4294967296)
  /\ (if (w.getD i 0).toNat<Q / 4294967296 ^ i%4294967296+(if aI (w.take i)<Q%4294967296 ^ i then 1 else 0)then 1 else 0)=(if aI (w.take (i+1))<Q%4294967296 ^ (i+1)then 1 else(0:Nat)):=by
 have hx:=hw.at (i:=i);have hA:=aY (m:=w) i;have hAl:=bX hw i;have hp:=bv i;have hBl:=aG6 Q hp;have hPs:4294967296 ^ (i+1)=4294967296 ^ i*4294967296:=aG3 ..;have hmm:Q%4294967296 ^ (i+1)=Q%4294967296 ^ i+4294967296 ^ i*(Q / 4294967296 ^ i%4294967296):=by rw[hPs,aJH]
 have hyl:Q / 4294967296 ^ i%4294967296<4294967296:=aG6 _ (by decide);constructor
 ·obtain⟨R1,h1⟩:=eJ w (i+1);have hW:4294967296 ^ (n+1)=4294967296 ^ i*4294967296*4294967296 ^ (n - i):=by rw[<- hPs,<- aG_,show i+1+(n - i)=n+1 by omega]
  have hq:=O1 (D:=U+4294967296 ^ (n+1) - Q) (a:=U+4294967296 ^ (n+1)) (b:=Q) (x:=(w.getD i 0).toNat) (y:=Q / 4294967296 ^ i%4294967296) (R1:=R1+4294967296 ^ (n - i)) (R2:=Q / (4294967296 ^ i*4294967296)) hAl hBl rfl
   (by rw[hU,h1,hA,hW,hPs,aG8]; omega)
   (by rw[<- hmm,hPs]; exact(aI0 _ _).symm)
   (by omega)
  generalize (U+4294967296 ^ (n+1) - Q) / 4294967296 ^ i=Z at *;generalize Q / 4294967296 ^ i%4294967296=y at *;generalize (w.getD i 0).toNat=x at *;generalize ((R1+4294967296 ^ (n - i):Nat):Int) - ((Q / (4294967296 ^ i*4294967296):Nat):Int)=RR at *;split at hq <;> rename_i hh <;> simp only[hh,aIr,aHr] <;> omega
 ·rw[hA,hmm];exact(vk _ _ _ _ _ hAl hBl).symm
def Io {D V c v i:Nat} (hc:c=(D%4294967296 ^ i+V) / 4294967296 ^ i) :
  (D%4294967296 ^ (i+1)+(V+4294967296 ^ i*v)) / 4294967296 ^ (i+1)=(D / 4294967296 ^ i%4294967296+v+c) / 4294967296 /\
  ∀ R,(D+(V+4294967296 ^ i*v+4294967296 ^ (i+1)*R)) / 4294967296 ^ i%4294967296=(D / 4294967296 ^ i%4294967296+v+c)%4294967296:=by
 have hp:=bv i;have hPs:4294967296 ^ (i+1)=4294967296 ^ i*4294967296:=aG3 ..;have hmm:D%4294967296 ^ (i+1)=D%4294967296 ^ i+4294967296 ^ i*(D / 4294967296 ^ i%4294967296):=by rw[hPs,aJH]
 have e:D%4294967296 ^ (i+1)+(V+4294967296 ^ i*v)=(D%4294967296 ^ i+V)+4294967296 ^ i*(D / 4294967296 ^ i%4294967296+v):=by rw[hmm,aG8]; omega
 have e2:(D%4294967296 ^ (i+1)+(V+4294967296 ^ i*v)) / 4294967296 ^ i=D / 4294967296 ^ i%4294967296+v+c:=by rw[e,jq,<- hc]; omega
 constructor
 ·rw[hPs,<- aGY,<- hPs,e2]
 ·intro R;have e3:D+(V+4294967296 ^ i*v+4294967296 ^ (i+1)*R)=(D%4294967296 ^ (i+1)+(V+4294967296 ^ i*v))+4294967296 ^ (i+1)*(D / 4294967296 ^ (i+1)+R):=by have:=aI0 D (4294967296 ^ (i+1));rw[aG8]; omega
  rw[qM e3,e2]
def Oh {D V c i:Nat} (hc:c=(D%4294967296 ^ i+V) / 4294967296 ^ i) :
  (D%4294967296 ^ (i+1)+V) / 4294967296 ^ (i+1)=(D / 4294967296 ^ i%4294967296+0+c) / 4294967296 /\
  (D+V) / 4294967296 ^ i%4294967296=(D / 4294967296 ^ i%4294967296+0+c)%4294967296:=by
 obtain⟨a1,a2⟩:=Io (v:=0) hc;have a3:=a2 0;rw[aIb,aHo V]at a1;rw[aIb,aIb,aHo V]at a3;exact⟨a1,a3⟩
def ahB (n:Nat):dl n (am n).length=am n:=by refine List.ext_getElem (aq n _) (λi h1 h2=>?_);have e1:=AA n h2;have e2:=tv i n;rw[List.getD_eq_getElem?_getD,List.getElem?_eq_getElem h1,aHz]at e1;rw[List.getD_eq_getElem?_getD,List.getElem?_eq_getElem h2,aHz]at e2;rw[e1,e2]
def O5 {X L:Nat} (hX:X<4294967296 ^ L):∀ k,dl X (L+k)=dl X L++List.replicate k 0
 | 0=>by simp
 | k+1=>by rw[<- aHx,dl,O5 hX k,aHm (aHc hX (aG7 (by decide) (aJa _ _))),aIv,aG9];rfl
def wA (S:Nat):∀{m n:Nat},n<=m->(dl S m).take n=dl S n
 | 0,n,h=>by
  have:n=0:=by omega
  subst this; rfl
 | m+1,n,h=>by
  by_cases e:n=m+1
  ·subst e; rw[aHb (by rw[aq]; omega)]
  ·rw[dl,aHS (by rw[aq]; omega),wA S (by omega)]
def Lr (S a:Nat):∀ c,dl S (a+c)=dl S a++dl (S / 4294967296 ^ a) c
 | 0=>by simp[dl]
 | c+1=>by rw[<- aHx,dl,Lr S a c,dl,aGY,<- aG_,aG9]
def IJ {V m:Nat} (h:V<4294967296 ^ m):dQ (dl V m) m=(am V).length:=by have h1:=Ao (nd V m);rw[aq,ya,aG1 h]at h1;rw[<- h1,aHl,aq];have:=nZ (dl V m) m;omega
def ajl {V m:Nat} (h1:4294967296 ^ m<=V) (h2:V<4294967296 ^ (m+1)):(am V).length=m+1:=by have a:=gl (m+1) V h2;have b:=Vb (V:=V) (w:=m) (by have:=aJf h1 (bv m); omega);omega
def ajs {r x:Nat} (hr:r<4294967296) (hx:x<4294967296):aF .or .u64 (IntKind.wrap .u64 ((r:Int)*2 ^ 32)) (IntKind.wrap .u64 (x:Int))=((r*4294967296+x:Nat):Int):=by
 have p32:(2:Nat) ^ 32=4294967296:=by decide
 have q32:(2:Int) ^ 32=4294967296:=by decide
 have e1:IntKind.wrap .u64 ((r:Int)*2 ^ 32)=((2 ^ 32*r:Nat):Int):=by rw[q32,p32,au]; omega
 have e2:IntKind.wrap .u64 (x:Int)=(x:Int):=by rw[au]; omega
 rw[e1,e2,Bs,gj _ _ 32 (by omega) (by omega),p32];congr 1; omega
def Sl {N:Nat} {x d:Nat} (hd0:0<d) (hd:d<4294967296) (hs:kj N (am x)) (k:List Int->Int->Bool):Th N (am x) (d:Int) k=k (am (x / d)) ((x%d:Nat):Int):=by
 unfold Th aoc;obtain⟨s1,s2⟩:=hs;have hx:=mW x;generalize hn:(am x).length=n at *;rw[ac (fZ (by omega) (by omega) (by omega) (by omega)),ac aGO,aGU];have wd:IntKind.wrap .u64 (d:Int)=(d:Int):=by rw[au]; omega
 have d1:(!decide ((d:Int)=0))=true:=by simp; omega
 refine aM (λi=>(((x / 4294967296 ^ (n - i)%d:Nat):Int),((n:Int) - 1 - (i:Int)),List.replicate (n - i) (0:Int)++(dl (x / d) n).drop (n - i))) n ?_ (by omega) (λi hi K=>?_) (λK=>?_)
 ·rw[aIT,aHm hx,Nat.zero_mod,aHB (by rw[aq]; omega),aHn];simp
 ·obtain⟨m,hm⟩:∃ m,n - i=m+1:=⟨n - i - 1,by omega⟩
  have hm2:n - (i+1)=m:=by omega
  have ei:(n:Int) - 1 - (i:Int)=(m:Int):=by omega
  have ei2:(n:Int) - 1 - ((i+1:Nat):Int)=(m:Int) - 1:=by omega
  have hp:x / 4294967296 ^ (m+1)=x / 4294967296 ^ m / 4294967296:=by rw[aG3,aGY]
  have hdg:x / d / 4294967296 ^ m%4294967296=x / 4294967296 ^ m / d%4294967296:=by rw[aGY,aGY,aGV d]
  obtain⟨n1,n2⟩:=J6 (A:=x / 4294967296 ^ m) hd0;rw[hm,hm2,ei,ei2,hp];simp only[pb,aGU,wd];have hl:(List.replicate (m+1) (0:Int)++(dl (x / d) n).drop (m+1)).length=n:=by simp[aq]; omega
  have hr:=aG6 (x / 4294967296 ^ m / 4294967296) hd0;have hq:(x / 4294967296 ^ m / 4294967296%d*4294967296+x / 4294967296 ^ m%4294967296) / d<4294967296:=by rw[n2]; exact aG6 _ (by decide)
  rw[aGQ (by omega:(m:Int)>=0),aGT,hn,ac aGP,tv,ac d1,hl,ac aGP,ac (aGQ (by omega)),ac d1,ac aGO,ajs (by omega) (aG6 _ (by decide))];have e1:∀ A:Nat,Int.tdiv (A:Int) (d:Int)=((A / d:Nat):Int):=λ_=>rfl
  have e2:∀ A:Nat,Int.tmod (A:Int) (d:Int)=((A%d:Nat):Int):=λ_=>rfl
  rw[e1,e2,n1,n2,<- hdg];have e3:IntKind.wrap .u32 (IntKind.wrap .u64 ((x / d / 4294967296 ^ m%4294967296:Nat):Int))=((x / d / 4294967296 ^ m%4294967296:Nat):Int):=by have:=aG6 (x / d / 4294967296 ^ m) (by decide:4294967296>0);generalize x / d / 4294967296 ^ m%4294967296=y at *;rw[au,iw]; omega
  rw[e3,PX _ _ _ (by omega)]
 ·simp only[pb];have e0:(n:Int) - 1 - (n:Int) = -1:=by omega
  rw[e0,aGR (by omega),aGS,aHq,aIK,aIH];rw[aHp,aHG,aIj];have hq:x / d<4294967296 ^ n:=aIt (aIu _ _) hx;have hr:=aG6 x hd0;have e3:IntKind.wrap .u32 ((x%d:Nat):Int)=((x%d:Nat):Int):=by rw[iw]; omega
  rw[e3,iG _ (nd _ _) (by rw[aq]; omega) (by rw[aq]; omega) (λz=>k z ((x%d:Nat):Int)),xx hq]
def adV (N:Nat) {x:Nat} (hx:x<4294967296) (k:Kz1):XW N (x:Int) k=k ((32 - bl x:Nat):Int):=by unfold XW ano;have:=Ds (n:=x) (j:=32) (by rw[show(2:Nat) ^ 32=4294967296 by decide]; exact hx);rw[Lz N x hx,ac aGO];congr 1; omega
def M5:(2:Nat) ^ 32=4294967296:=by decide
def Yb {y:Nat} (h0:y ≠ 0) (hy:y<4294967296):32 - bl y<32/\2147483648<=y*2 ^ (32 - bl y)/\y*2 ^ (32 - bl y)<4294967296:=by
 have h1:=Ds (n:=y) (j:=32) (by rw[M5]; exact hy);obtain⟨h2,h3⟩:=aa5 h0;have h4:=FK y;have hp:0<2 ^ (32 - bl y):=aG5 _;refine⟨by omega,?_,?_⟩
 ·have:=aGX (2 ^ (32 - bl y)) h3;rw[<- aG_,show bl y - 1+(32 - bl y)=31 by omega]at this;exact this
 ·have:=aHH h4 hp;rw[<- aG_,show bl y+(32 - bl y)=32 by omega]at this;exact this
def So {N:Nat} (m:List Int) (hm:InW m) (n:Nat) (hn:n<4294967296) (hN:m.length+n / 32+4<N) (hs:m.length<=1099511627776) {Sw:lP} (e0:List Int->Bool) :
  ah N (C2 N Sw m ((n / 32:Nat):Int) ((n%32:Nat):Int) e0) (0,List.replicate (n / 32+m.length+1) (0:Int))=e0 (dl (aI m*2 ^ n) (n / 32+m.length+1)):=by
 generalize hw:n / 32=w at *;generalize hsh:n%32=s at *;have hs32:s<32:=by omega
 have hp2:2 ^ n=4294967296 ^ w*2 ^ s:=by rw[D4,hw,hsh]
 have hs0:0<2 ^ s:=aG5 s;have hs1:2 ^ s*2 ^ (32 - s)=4294967296:=by rw[<- aG_,show s+(32 - s)=32 by omega]
 have hs2:2 ^ s<=2147483648:=by have:2 ^ s<=2 ^ 31:=aG7 (by decide) (by omega);simpa using this
 let V:=aI m*2 ^ n
 let X:=aI m*2 ^ s
 have hVX:V=4294967296 ^ w*X:=by simp only[V,X]; rw[hp2,aHi]
 let T:=λi=>aI (m.take i)*2 ^ s
 let c:=λi=>T i / 4294967296 ^ i
 refine aM (N:=N) (λi=>((i:Int),dl V (w+i)++((c i:Nat):Int)::List.replicate (m.length - i) 0)) m.length ?_ (by omega) (λi hi K=>?_) (λK=>?_)
 ·congr 1;show List.replicate (w+m.length+1) (0:Int)=dl V w++((c 0:Nat):Int)::List.replicate m.length 0;rw[hVX,Cp];have hc0:c 0=0:=by simp[c,T,aI]
  rw[hc0];have:w+m.length+1=w+(m.length+1):=by omega
  rw[this,<- aIx,aHA]; rfl
 ·have hx:=hm.at (i:=i);have hT:T (i+1)=T i+4294967296 ^ i*((m.getD i 0).toNat*2 ^ s):=by simp only[T,aY,aHf,aG2]
  have hq:T (i+1) / 4294967296 ^ i=c i+(m.getD i 0).toNat*2 ^ s:=by rw[hT,jq]
  have hci:c i<2 ^ s:=by simp only[c,T];rw[aG0 (bv i),aGV];exact aH2 (bX hm i) hs0
  have hc1:c (i+1)=(c i+(m.getD i 0).toNat*2 ^ s) / 4294967296:=by rw[<- hq]; simp only[c]; rw[aG3,aGY]
  have hdig:V / 4294967296 ^ (w+i)%4294967296=(c i+(m.getD i 0).toNat*2 ^ s)%4294967296:=by rw[<- hq,hVX,aG_,<- aGY,aHs _ (bv w)];obtain⟨R,hR⟩:=eJ m (i+1);refine qM (R:=R*2 ^ s) ?_;simp only[X,T];rw[hR,aHf,aG2]
  have hrep:List.replicate (m.length - i) (0:Int)=0::List.replicate (m.length - (i+1)) 0:=by rw[show m.length - i=(m.length - (i+1))+1 by omega,aHA]
  have hdl:=aq V (w+i);have ei:Int.toNat ((w:Int)+(i:Int))=w+i:=by omega
  have ei1:Int.toNat ((w:Int)+(i:Int)+1)=w+i+1:=by omega
  have emin:min s 64=s:=by omega
  simp only[C2,aGU,ei,ei1,emin];rw[hrep,eI hdl.symm,bM _ _ _ _ _ hdl.symm];have et:IntKind.wrap .u64 (IntKind.wrap .u64 (m.getD i 0)*2 ^ s)=(((m.getD i 0).toNat*2 ^ s:Nat):Int):=by
   have hxs:(m.getD i 0).toNat*2 ^ s<4294967296*2147483648:=aHy (by omega) hs2 (by decide);have e1:IntKind.wrap .u64 (m.getD i 0)=(((m.getD i 0).toNat:Nat):Int):=by rw[au]; omega
   have e2:(((m.getD i 0).toNat:Nat):Int)*2 ^ s=(((m.getD i 0).toNat*2 ^ s:Nat):Int):=by simp
   rw[e1,e2,au]; omega
  rw[et];generalize hxx:(m.getD i 0).toNat=x at *;have hx32:x<4294967296:=by omega
  have hlow:x*2 ^ s%4294967296=2 ^ s*(x%2 ^ (32 - s)):=by
   have e:x*2 ^ s%(2 ^ s*2 ^ (32 - s))=2 ^ s*(x%2 ^ (32 - s)):=by rw[aGV x]; exact aIC _ _ _
   rwa [hs1]at e
  have hsum:2 ^ s*(x%2 ^ (32 - s))+c i<4294967296:=by have h1:x%2 ^ (32 - s)+1<=2 ^ (32 - s):=aG6 _ (aG5 _);have h2:=aGZ (2 ^ s) h1;rw[hs1,aG8]at h2;omega
  have eor:aF .or .u32 ((c i:Nat):Int) (IntKind.wrap .u32 ((x*2 ^ s:Nat):Int))=((V / 4294967296 ^ (w+i)%4294967296:Nat):Int):=by
   have e1:IntKind.wrap .u32 ((x*2 ^ s:Nat):Int)=((2 ^ s*(x%2 ^ (32 - s)):Nat):Int):=by rw[<- hlow,iw]; omega
   rw[e1,yu _ _ s hci hsum,hdig];omega
  have ehi:IntKind.wrap .u32 (Int.fdiv ((x*2 ^ s:Nat):Int) (2 ^ 32))=((c (i+1):Nat):Int):=by have hxs:x*2 ^ s<4294967296*2147483648:=aHy hx32 hs2 (by decide);rw[oA,iw,hc1];omega
  rw[eor,ehi];have hl1:∀(a b:Int) (ys:List Int),(dl V (w+i)++a::b::ys).length=w+i+2+ys.length:=by intro a b ys; simp[hdl]; omega
  have hset2:(dl V (w+i)++((V / 4294967296 ^ (w+i)%4294967296:Nat):Int)::0::List.replicate (m.length - (i+1)) 0).set (w+i+1) ((c (i+1):Nat):Int)=dl V (w+(i+1))++((c (i+1):Nat):Int)::List.replicate (m.length - (i+1)) 0:=by
   have:dl V (w+i)++((V / 4294967296 ^ (w+i)%4294967296:Nat):Int)::0::List.replicate (m.length - (i+1)) 0=dl V (w+(i+1))++0::List.replicate (m.length - (i+1)) 0:=by rw[<- aHx,dl]; simp
   rw[this];exact bM _ _ _ _ _ (by rw[aq]; omega)
  rw[hset2,hl1,hl1];simp only[aHW];rw[aGQ (by omega:(i:Int)<m.length),aGT,ac aGP,ac (aGQ (by omega)),ac aGO,ac aGP,ac (aGQ (by omega)),ac aGP,ac (aGQ (by omega)),
   ac aGO,ac aGO,ac aGP,ac (aGQ (by omega)),ac aGO]
  rfl
 ·simp only[C2];rw[aGR (by omega:¬(m.length:Int)<m.length),aGS,aHq,aHp];have hV:V<4294967296 ^ (w+m.length+1):=by have h1:=jU hm;simp only[V];rw[hp2,aG3,aG_,aHi,aG2];refine aH2 ?_ (bv w);exact aHy h1 (by omega) (by decide)
  have hT:T m.length=X:=by simp only[T,X]; rw[aHw]
  have hend:dl V (w+m.length)++[((c m.length:Nat):Int)]=dl V (w+m.length+1):=by
   rw[dl];have:c m.length=V / 4294967296 ^ (w+m.length)%4294967296:=by simp only[c];rw[hT,hVX,aG_,<- aGY,aHs _ (bv w)];rw[aG1];rw[aG0 (bv _),aGV];have h1:=jU hm;simp only[X];exact aHy h1 (by omega) (by decide)
   rw[this]
  rw[hend]
def zR {N:Nat} {m s:Nat} (hm:m ≠ 0) (hs:s<32) (hN:(am m).length+4<N) (hl:(am m).length<=1099511627776) (k0:Bool) (k1:Nat->List Int->Bool) :
  XX N (am m) (s:Int) k0 k1=k1 (am (m*2 ^ s)).length (dl (m*2 ^ s) ((am m).length+1)):=by
 have hlp:(am m).length ≠ 0:=by rw[fQ hm]; simp
 have hV:m*2 ^ s<4294967296 ^ ((am m).length+1):=by
  rw[aG3];have h2:2 ^ s<4294967296:=by rw[<- M5]; exact Nat.pow_lt_pow_right (by decide) hs
  exact aHU (mW m) h2
 unfold XX anD;have e0:((((am m).length:Nat):Int)==0)=false:=by simp; intro h; rw[h]at hlp; simp at hlp
 have ew:IntKind.wrap .u64 (Int.tdiv (s:Int) 32)=((s / 32:Nat):Int):=by rw[au,aHT (by omega)]; omega
 have es:Int.tmod (s:Int) 32=((s%32:Nat):Int):=by rw[aHL (by omega)]; rfl
 have elen:Int.toNat (((s / 32:Nat):Int)+(((am m).length:Nat):Int)+1)=s / 32+(am m).length+1:=by omega
 rw[e0,aGS,ew,es,ac aGO,ac aGO,ac aGO,ac (fZ (by omega) (by omega) (by omega) (by omega)),elen];have:=So (N:=N) (am m) (bN m) s (by omega) (by omega) hl (Sw:=sQ8 N) (λz_1=>sQ8 N z_1 λmr=>k1 mr z_1);rw[aS,show s / 32=0 by omega,aHk]at this;rw[show s / 32=0 by omega,aHk];refine Eq.trans this ?_;rw[qi _ (by rw[aq]; omega) (by rw[aq]; omega),aq,IJ hV]
def Xp {N:Nat} (b:List Int) (m:Nat) (hm:m<=b.length) (hN:m<N) (hs:m<9223372036854775807) (k:Kz2):X3 N 0 m b k=k (dQ b m):=by
 unfold X3 aoe;have key:∀ n,n<=m -> ∀ M,n<M->ah M (CZ N 0 b λm_4=>k m_4) n=k (dQ b n):=by
  intro n;induction n with
  | zero=>
   intro _ M hM;obtain⟨M,rfl⟩:∃ m,M=m+1:=⟨M - 1,by omega⟩
   show CZ N 0 b _ 0 _=_;simp only[CZ,dQ];rw[aGR (by omega:¬((0:Nat):Int)>0),show(false==true)=false from rfl,aGS]
  | succ n ih=>
   intro hn M hM;obtain⟨M,rfl⟩:∃ m,M=m+1:=⟨M - 1,by omega⟩
   show CZ N 0 b _ (n+1) (ah M _)=_;have e:0+Int.toNat (((n+1:Nat):Int) - 1)=n:=by omega
   have e2:Int.toNat (((n+1:Nat):Int) - 1) - 0=n:=by omega
   simp only[CZ,e,e2];rw[aGQ (by omega:((n+1:Nat):Int)>0),show(true==true)=true from rfl,aGT,ac aGO,ac aGP,ac (aGQ (by omega)),ac aGO,ac (aGQ (by omega)),ih (by omega) M (by omega),vm];by_cases h0:b.getD n 0=0
   ·have:(b.getD n 0==0)=true:=by simpa using h0
    rw[this,if_pos h0]; rfl
   ·have:(b.getD n 0==0)=false:=by simpa using h0
    rw[this,if_neg h0]; rfl
 exact key m (aG4 _) N hN
def MM {N:Nat} (b:List Int) (hb:InW b) (m s:Nat) (hm:m<=b.length) (hs:s<32) (hN:m+3<N) (hms:m<=1099511627780) (k:Kz5):X0 N 0 m (s:Int) b k=k (am (aI (b.take m) / 2 ^ s)):=by
 have ew:IntKind.wrap .u64 (Int.tdiv (s:Int) 32)=0:=by rw[au,aHT (by omega)]; omega
 have es:Int.tmod (s:Int) 32=(s:Int):=by rw[aHL (by omega)]; omega
 have hs0:0<2 ^ s:=aG5 _;unfold X0 anQ;by_cases h0:m=0
 ·subst h0;rw[ew,aI9,show aI []=0 from rfl,Nat.zero_div,bG];rfl
 ·have emin:min s 64=s:=by omega
  rw[ew,es,ac aGO,aGR (by omega:¬(0:Int)>=(m:Int)),aGS];have hw:InW (b.take m):=hb.take m;have hwl:(b.take m).length=m:=by rw[aHl]; omega
  have hwg:∀ i,i<m->(b.take m).getD i 0=b.getD i 0:=λi hi=>AD hi
  obtain⟨X,hX⟩:∃ X,X=aI (b.take m) / 2 ^ s:=⟨_,rfl⟩
  have elen2:(m:Int) - 0=(m:Int):=by omega
  rw[elen2,ac aGO,ac (fZ (by omega) (by omega) (by omega) (by omega)),aGU,<- hX];refine aM (λi=>((i:Int),dl X i++List.replicate (m - i) 0)) m (by simp[dl]) (by omega) (λi hi K=>?_) (λK=>?_)
  ·have hx:=hw.at (i:=i);have hy:=hw.at (i:=i+1);have hset:=IW X i m (by omega);have hl:(dl X i++List.replicate (m - i) (0:Int)).length=m:=by simp[aq]; omega
   obtain⟨R,hR⟩:=Lp hw i;have hdig:X / 4294967296 ^ i%4294967296=(((b.take m).getD i 0).toNat+4294967296*((b.take m).getD (i+1) 0).toNat) / 2 ^ s%4294967296:=by
    rw[hX,aGY,aGV (2 ^ s),<- aGY,hR];have e2:4294967296*4294967296*R=2 ^ s*(4294967296*(2 ^ (32 - s)*R)):=by
     have hs1:2 ^ s*2 ^ (32 - s)=4294967296:=by rw[<- aG_,show s+(32 - s)=32 by omega]
     rw[aHi (2 ^ s),<- aG2 (2 ^ s),hs1,aG2]
    rw[e2,aHP _ _ hs0,aH8]
   have hfin:∀ z:Int,z=((((b.take m).getD i 0).toNat+4294967296*((b.take m).getD (i+1) 0).toNat:Nat):Int)->IntKind.wrap .u32 (Int.fdiv z (2 ^ s))=((X / 4294967296 ^ i%4294967296:Nat):Int):=by
    intro z hz;have e:(2:Int) ^ s=((2 ^ s:Nat):Int):=by simp
    rw[hdig,hz,e,aIl _ (by omega),iw];rfl
   have ea:(0:Int)+(i:Int)=(i:Int):=by omega
   have ei:0+Int.toNat (i:Int)=i:=by omega
   have ei1:Int.toNat ((i:Int)+1)=i+1:=by omega
   simp only[mN,ea,ei1,aGU,aHk,emin,hl];rw[aGQ (by omega:(i:Int)<m),aGT,ac aGO,ac aGP,ac (aGQ (by omega)),ac aGO,ac aGO];rw[<- hwg i hi];by_cases hlast:i+1<m
   ·rw[<- hwg (i+1) hlast];rw[aGQ (by omega:(i:Int)+1<m),aGT,ac aGO,ac aGO,ac aGP,ac (aGQ (by omega)),ac (aGQ (by omega)),ac aGP,ac (aGQ (by omega)),ac aGO];have e1:IntKind.wrap .u64 ((b.take m).getD i 0)=((((b.take m).getD i 0).toNat:Nat):Int):=by rw[au]; omega
    have e2:IntKind.wrap .u64 (IntKind.wrap .u64 ((b.take m).getD (i+1) 0)*2 ^ 32)=((2 ^ 32*((b.take m).getD (i+1) 0).toNat:Nat):Int):=by
     have:(2:Int) ^ 32=4294967296:=by decide
     have:(2:Nat) ^ 32=4294967296:=by decide
     rw[au,au]; omega
    have p32:(2:Nat) ^ 32=4294967296:=by decide
    rw[e1,e2,gj _ _ 32 (by omega) (by omega),hfin _ (by omega),hset,oT]
   ·rw[aGR (by omega:¬(i:Int)+1<m),aGS,ac (aGQ (by omega)),ac aGP,ac (aGQ (by omega)),ac aGO];have hz:(b.take m).getD (i+1) 0=0:=jr (by omega);have e1:IntKind.wrap .u64 ((b.take m).getD i 0)=((((b.take m).getD i 0).toNat:Nat):Int):=by rw[au]; omega
    rw[e1,hfin _ (by rw[hz]; simp),hset,oT]
  ·simp only[mN];have hl:(dl X m++List.replicate (m - m) (0:Int)).length=m:=by simp[aq]
   rw[aGR (by omega:¬(m:Int)<(((dl X m++List.replicate (m - m) (0:Int)).length:Nat):Int)),aGS,aHq,aHp,aHn];have hXl:X<4294967296 ^ m:=by have h1:=jU hw;rw[hwl]at h1;rw[hX];exact aIt (aIu _ _) h1
   rw[iG _ (nd X m) (by rw[aq]; omega) (by rw[aq]; omega),xx hXl]
def apr {A B r u0:Nat} (h:r*4294967296+u0<A):B+r*4294967296+u0<B+A:=by omega
def MB {N:Nat} {S1 S2 S3 S4 S5 S6 S7 S8 S9} {s5:Int} {ul j n u0 v0 v1 T d:Nat} {b c ql:List Int} (hn:2<=n) (hc1:c.getD (n - 2) 0=(v0:Int)) (hb:b.getD (j+n - 2) 0=(u0:Int)) (hcl:n<=c.length) (hul:j+n<ul) (hbl:ul<=b.length) (hbs:b.length<=1099511627780)
  (hv0:v0<4294967296) (hv1:v1<4294967296) (hu0:u0<4294967296) (hTl:T<4294967296*v1+4294967296) (hd:∀ g,T*4294967296+u0<g*(v1*4294967296+v0)->d<g) (hdW:d<4294967296) :
  ∀ g r M,g<M->g<=4294967299->g*v1+r=T->r<4294967296->d<=g ->
   ∃ q,d<=q/\q<4294967296/\q*(v1*4294967296+v0)<=T*4294967296+u0 /\ ∀ e0,ah M (v8 N S1 S2 S3 S4 S5 S6 S7 S8 S9 s5 n ul (n:Int) (v1:Int) (j:Int) c b ql e0) ((g:Int),(r:Int))=e0 (q:Int):=by
 intro g;induction g using Nat.strongRecOn with
 | ind g ih=>
 intro r M hM hgb hT hr hdg;obtain⟨M,rfl⟩:∃ m,M=m+1:=⟨M - 1,by omega⟩
 have i2:0+Int.toNat ((n:Int) - 2)=n - 2:=by omega
 have j2:0+Int.toNat ((j:Int)+(n:Int) - 2)=j+n - 2:=by omega
 have dec:∀ p,g=p+1->d<=p -> ∃ q,d<=q/\q<4294967296/\q*(v1*4294967296+v0)<=T*4294967296+u0 /\ ∀ e0,cond (decide ((IntKind.wrap .u64 ((r:Int)+(v1:Int)))>=4294967296)) (e0 (IntKind.wrap .u64 ((g:Int) - 1))) (ah M (v8 N S1 S2 S3 S4 S5 S6 S7 S8 S9 s5 n ul (n:Int) (v1:Int) (j:Int) c b ql e0) ((IntKind.wrap .u64 ((g:Int) - 1)),(IntKind.wrap .u64 ((r:Int)+(v1:Int)))))=e0 (q:Int):=by
  intro p hp hdp;subst hp;have w1:IntKind.wrap .u64 (((p+1:Nat):Int) - 1)=(p:Int):=QI p (by omega);have w2:IntKind.wrap .u64 ((r:Int)+(v1:Int))=((r+v1:Nat):Int):=by rw[au]; omega
  rw[w1,w2];by_cases hb2:4294967296<=r+v1
  ·have hpl:p<4294967296:=by
    rcases aHN p 4294967296 with h | h
    ·exact h
    ·exfalso;have:=aGX v1 h;rw[aIq]at hT;omega
   refine⟨p,hdp,hpl,I8 hv0 (by omega) hT hb2,λe0=>?_⟩;rw[aGQ (by omega),aGT]
  ·obtain⟨q,q1,q2,q3,q4⟩:=ih p (by omega) (r+v1) M (by omega) (by omega) (by rw[<- hT,aIq]; omega) (by omega) hdp;exact⟨q,q1,q2,q3,λe0=>by rw[aGR (by omega),aGS]; exact q4 e0⟩
 by_cases hg:4294967296<=g
 ·obtain⟨q,q1,q2,q3,q4⟩:=dec (g - 1) (by omega) (by omega);refine⟨q,q1,q2,q3,λe0=>?_⟩;show v8 N S1 S2 S3 S4 S5 S6 S7 S8 S9 s5 n ul (n:Int) (v1:Int) (j:Int) c b ql e0 (_,_) (ah M _)=_;simp only[v8];rw[aGQ (by omega:(g:Int)>=4294967296),show(true==false)=false from rfl,aGS];exact q4 e0
 ·have hgv:g*v0<=4294967295*4294967295:=aHC (by omega) (by omega);have wv0:IntKind.wrap .u64 (v0:Int)=(v0:Int):=by rw[au]; omega
  have wgv:IntKind.wrap .u64 ((g:Int)*(v0:Int))=((g*v0:Nat):Int):=by rw[<- aHa,au]; omega
  have e1:T*4294967296+u0=g*v1*4294967296+r*4294967296+u0:=by rw[<- hT,aHf]
  have e2:g*(v1*4294967296+v0)=g*v1*4294967296+g*v0:=by rw[aG8,aG2]
  have body:∀ e0:Int->Bool,ah (M+1) (v8 N S1 S2 S3 S4 S5 S6 S7 S8 S9 s5 n ul (n:Int) (v1:Int) (j:Int) c b ql e0) ((g:Int),(r:Int))=cond (decide (((g*v0:Nat):Int)>((r*4294967296+u0:Nat):Int))) (cond (decide ((IntKind.wrap .u64 ((r:Int)+(v1:Int)))>=4294967296)) (e0 (IntKind.wrap .u64 ((g:Int) - 1))) (ah M (v8 N S1 S2 S3 S4 S5 S6 S7 S8 S9 s5 n ul (n:Int) (v1:Int) (j:Int) c b ql e0) ((IntKind.wrap .u64 ((g:Int) - 1)),(IntKind.wrap .u64 ((r:Int)+(v1:Int)))))) (e0 (g:Int)):=by intro e0;show v8 N S1 S2 S3 S4 S5 S6 S7 S8 S9 s5 n ul (n:Int) (v1:Int) (j:Int) c b ql e0 (_,_) (ah M _)=_;simp only[v8,i2,j2,hc1,hb,wv0,wgv];rw[aGR (by omega:¬(g:Int)>=4294967296),show(false==false)=true from rfl,aGT,ac aGO,ac aGP,ac (aGQ (by omega)),ac aGO,ac aGO,ac aGP,ac (aGQ (by omega)),ajs hr hu0]
  by_cases ht:r*4294967296+u0<g*v0
  ·have hlt1:g*v1*4294967296+r*4294967296+u0<g*v1*4294967296+g*v0:=apr ht;have hlt:d<g:=hd g (aIt (aIV e1) (aHc hlt1 (aIV e2.symm)));obtain⟨q,q1,q2,q3,q4⟩:=dec (g - 1) (by omega) (by omega);exact⟨q,q1,q2,q3,λe0=>by rw[body,aGQ (by omega),aGT]; exact q4 e0⟩
  ·exact⟨g,hdg,by omega,aHj (aIV e2) (aHj (by omega) (aIV e1.symm)),λe0=>by rw[body,aGR (by omega),aGS]⟩
def Xt {N:Nat} {j n ul g U V:Nat} {b c:List Int} (hN:n<N) (hb:InW b) (hc:InW c) (hcl:n<=c.length) (hul:j+n<ul) (hbl:ul<=b.length) (hbs:b.length<=1099511627780) (hg:g<4294967296) (hU:U=aI ((b.drop j).take (n+1))) (hV:V=aI (c.take n)) (k:Ky2) :
  XY N 0 ul 0 n (j:Int) (g:Int) b c k=k (decide (U<g*V)) (b.take j++(dl (U+4294967296 ^ (n+1) - g*V) (n+1)++b.drop (j+(n+1)))):=by
 unfold XY anH;have hw:InW ((b.drop j).take (n+1)):=(hb.drop j).take _;have hwl:((b.drop j).take (n+1)).length=n+1:=by rw[aHl,aIo]; omega
 have hwg:∀ i,i<=n->((b.drop j).take (n+1)).getD i 0=b.getD (j+i) 0:=λi hi=>by rw[AD (by omega),oa]
 generalize (b.drop j).take (n+1)=w at *;have hVl:V<4294967296 ^ n:=by rw[hV]; exact bX hc n
 have hgV:g*V<4294967296 ^ (n+1):=by rw[aG3,aGV];exact aHU hVl hg
 obtain⟨D,hD⟩:∃ D,D=U+4294967296 ^ (n+1) - g*V:=⟨_,rfl⟩
 obtain⟨Q,hQ⟩:∃ Q,Q=g*V:=⟨_,rfl⟩
 have hQW:Q<4294967296 ^ (n+1):=by rw[hQ]; exact hgV
 rw[<- hD];refine aM (λi=>(((g*aI (c.take i) / 4294967296 ^ i:Nat):Int),((if aI (w.take i)<Q%4294967296 ^ i then 1 else 0:Nat):Int),(i:Int),b.take j++(dl D i++b.drop (j+i)))) n ?_ (by omega) (λi hi K=>?_) (λK=>?_)
 ·simp[dl,aI,aJG]
 ·have hx:=hb.at (i:=j+i);have hy:=hc.at (i:=i);have hcv:=aY (m:=c) i;have hp:=bv i;have hVi:=bX hc i;obtain⟨s1,s2⟩:=Kg hw hwl hU (by omega:i<=n) hQW;rw[hwg i (by omega)]at s1 s2;rw[hQ,<- hD,<- hQ]at s1;obtain⟨cy,hcy⟩:∃ cy,cy=g*aI (c.take i) / 4294967296 ^ i:=⟨_,rfl⟩
  have hcyl:cy<4294967296:=by rw[hcy,aG0 hp];exact aHU hg hVi
  have e1:g*aI (c.take (i+1))=g*aI (c.take i)+4294967296 ^ i*(g*(c.getD i 0).toNat):=by rw[hcv,aG8,aHi g]
  have ecy:g*aI (c.take (i+1)) / 4294967296 ^ (i+1)=(g*(c.getD i 0).toNat+cy) / 4294967296:=by rw[aG3,<- aGY,e1,jq,<- hcy];congr 1; omega
  obtain⟨R,hR⟩:=eJ (c.take n) (i+1);rw[aJV,aIc (by omega),<- hV]at hR;have elo:Q / 4294967296 ^ i%4294967296=(g*(c.getD i 0).toNat+cy)%4294967296:=by
   have:Q=g*aI (c.take (i+1))+4294967296 ^ (i+1)*(g*R):=by rw[hQ,hR,aG8,aHi g]
   rw[qM this,e1,jq,<- hcy];congr 1; omega
  rw[elo]at s1 s2;have ei:0+Int.toNat ((j:Int)+(i:Int))=j+i:=by omega
  have hgy:g*(c.getD i 0).toNat<=4294967295*4294967295:=aHC (by omega) (by omega);have wy:IntKind.wrap .u64 (c.getD i 0)=(((c.getD i 0).toNat:Nat):Int):=by rw[au]; omega
  have wp:IntKind.wrap .u64 ((g:Int)*(((c.getD i 0).toNat:Nat):Int))=((g*(c.getD i 0).toNat:Nat):Int):=by rw[<- aHa,au]; omega
  have wpc:IntKind.wrap .u64 (((g*(c.getD i 0).toNat:Nat):Int)+(cy:Int))=((g*(c.getD i 0).toNat+cy:Nat):Int):=by rw[au]; omega
  have wx:IntKind.wrap .u64 (b.getD (j+i) 0)=(((b.getD (j+i) 0).toNat:Nat):Int):=by rw[au]; omega
  have hcf:Int.fdiv ((g*(c.getD i 0).toNat+cy:Nat):Int) (2 ^ 32)=((g*aI (c.take (i+1)) / 4294967296 ^ (i+1):Nat):Int):=by rw[oA,ecy]; rfl
  simp only[NF,aGU,aHk];have ei':Int.toNat ((j:Int)+(i:Int))=j+i:=by omega
  rw[ei',QH D (by omega),QG D (by omega),aGQ (by omega:(i:Int)<(n:Int)),aGT,ac aGP,ac (aGQ (by omega)),ac aGO,ac aGP,ac (aGQ (by omega)),<- hcy,wy,wp,wpc,wx,Ou,hcf];generalize (g*(c.getD i 0).toNat+cy)%4294967296=lo at *;have hlo:lo<4294967296:=by rw[<- elo]; exact aG6 _ (by decide)
  obtain⟨bo,hbo⟩:∃ bo:Nat,bo=if aI (w.take i)<Q%4294967296 ^ i then 1 else 0:=⟨_,rfl⟩
  have hbo1:bo<=1:=by rw[hbo]; split <;> omega
  rw[<- hbo]at s1 s2 ⊢;obtain⟨x,hxe⟩:∃ x,x=(b.getD (j+i) 0).toNat:=⟨_,rfl⟩
  rw[<- hxe]at s1 s2 ⊢;have hxl:x<4294967296:=by omega
  have wlb:IntKind.wrap .u64 ((lo:Int)+(bo:Int))=((lo+bo:Nat):Int):=by rw[au]; omega
  rw[wlb];by_cases hlt:x<lo+bo
  ·rw[if_pos hlt]at s2;have wv:IntKind.wrap .u32 (IntKind.wrap .u64 (IntKind.wrap .u64 ((x:Int)+4294967296) - ((lo+bo:Nat):Int)))=((D / 4294967296 ^ i%4294967296:Nat):Int):=by rw[<- s1,au,au,iw]; omega
   rw[aGQ (by omega),aGT,wv,ac aGO,ac aGP,ac (aGQ (by omega)),ac aGO,Km D (by omega),<- s2,oT];rfl
  ·rw[if_neg hlt]at s2;have wv:IntKind.wrap .u32 (IntKind.wrap .u64 ((x:Int) - ((lo+bo:Nat):Int)))=((D / 4294967296 ^ i%4294967296:Nat):Int):=by rw[<- s1,au,iw]; omega
   rw[aGR (by omega),aGS,wv,ac aGO,ac aGP,ac (aGQ (by omega)),ac aGO,Km D (by omega),<- s2,oT];rfl
 ·have hx:=hb.at (i:=j+n);obtain⟨s1,s2⟩:=Kg hw hwl hU (aG4 n) hQW;rw[hwg n (by omega)]at s1 s2;rw[hQ,<- hD,<- hQ]at s1;have hql:Q / 4294967296 ^ n<4294967296:=by rw[aG0 (bv n),aGV,<- aG3]; exact hQW
  rw[aG1 hql]at s1 s2;have hwt:w.take (n+1)=w:=aHb (by omega);rw[hwt,<- hU,aG1 hQW]at s2;simp only[NF];have ei':0+Int.toNat ((j:Int)+(n:Int))=j+n:=by omega
  rw[aGR (by omega:¬(n:Int)<(n:Int)),aGS,<- hV,<- hQ];rw[ei',QH D (by omega),QG D (by omega),ac aGO,ac aGP,ac (aGQ (by omega)),ac aGO,ac aGP,ac (aGQ (by omega))];obtain⟨y,hy⟩:∃ y,y=Q / 4294967296 ^ n:=⟨_,rfl⟩
  rw[<- hy]at s1 s2 hql ⊢;obtain⟨bo,hbo⟩:∃ bo:Nat,bo=if aI (w.take n)<Q%4294967296 ^ n then 1 else 0:=⟨_,rfl⟩
  have hbo1:bo<=1:=by rw[hbo]; split <;> omega
  rw[<- hbo]at s1 s2 ⊢;have wx:IntKind.wrap .u64 (b.getD (j+n) 0)=(((b.getD (j+n) 0).toNat:Nat):Int):=by rw[au]; omega
  rw[wx];obtain⟨x,hxe⟩:∃ x,x=(b.getD (j+n) 0).toNat:=⟨_,rfl⟩
  rw[<- hxe]at s1 s2 ⊢;have hxl:x<4294967296:=by omega
  have wlb:IntKind.wrap .u64 ((y:Int)+(bo:Int))=((y+bo:Nat):Int):=by rw[au]; omega
  have wv:IntKind.wrap .u32 (IntKind.wrap .u64 ((x:Int) - ((y+bo:Nat):Int)))=((D / 4294967296 ^ n%4294967296:Nat):Int):=by rw[<- s1,au,iw]; omega
  rw[wlb,wv,Km D (by omega)];have hdec:decide ((x:Int)<((y+bo:Nat):Int))=decide (U<Q):=by
   by_cases h1:U<Q
   ·rw[if_pos h1]at s2;rw[aGQ h1];refine aGQ ?_;split at s2 <;> omega
   ·rw[if_neg h1]at s2;rw[aGR h1];refine aGR ?_;split at s2 <;> omega
  rw[hdec]
def Xw {N:Nat} {j n ul D V:Nat} {b c:List Int} (hN:n<N) (hc:InW c) (hcl:n<=c.length) (hul:j+n<ul) (hbl:ul<=b.length) (hbs:b.length<=1099511627780) (hV:V=aI (c.take n)) (k:Kz5) :
  XZ N 0 ul 0 n (j:Int) (b.take j++(dl D (n+1)++b.drop (j+(n+1)))) c k=k (b.take j++(dl (D+V) (n+1)++b.drop (j+(n+1)))):=by
 unfold XZ anI;obtain⟨E,hE⟩:∃ E,E=D+V:=⟨_,rfl⟩
 rw[<- hE];refine aM (λi=>((((D%4294967296 ^ i+aI (c.take i)) / 4294967296 ^ i:Nat):Int),(i:Int),b.take j++(dl E i++((dl D (n+1)).drop i++b.drop (j+(n+1)))))) n ?_ (by omega) (λi hi K=>?_) (λK=>?_)
 ·simp[dl,aI,aJG]
 ·have hx:=hc.at (i:=i);have hcv:=aY (m:=c) i;have hVl:=bX hc i;have hp:=bv i;have hml:=aG6 D hp;obtain⟨cy,hcy⟩:∃ cy,cy=(D%4294967296 ^ i+aI (c.take i)) / 4294967296 ^ i:=⟨_,rfl⟩
  have hcl1:cy<=1:=by
   have:cy<2:=by rw[hcy,aG0 hp]; omega
   omega
  obtain⟨a1,a2⟩:=Io (D:=D) (V:=aI (c.take i)) (v:=(c.getD i 0).toNat) hcy;obtain⟨R,hR⟩:=eJ (c.take n) (i+1);rw[aJV,aIc (by omega),<- hV,hcv]at hR;have a3:=a2 R;rw[<- hR,<- hE]at a3;have hdl:D / 4294967296 ^ i%4294967296<4294967296:=aG6 _ (by decide);have ei':Int.toNat ((j:Int)+(i:Int))=j+i:=by omega
  simp only[NG,aGU,aHk,ei'];rw[QE D E (by omega) (by omega),QD D E (by omega) (by omega)];have wy:IntKind.wrap .u64 (c.getD i 0)=(((c.getD i 0).toNat:Nat):Int):=by rw[au]; omega
  obtain⟨dg,hdg⟩:∃ dg,dg=D / 4294967296 ^ i%4294967296:=⟨_,rfl⟩
  rw[<- hdg]at a1 a3 hdl ⊢;have ws:IntKind.wrap .u64 (IntKind.wrap .u64 (IntKind.wrap .u64 (dg:Int)+(((c.getD i 0).toNat:Nat):Int))+(cy:Int))=((dg+(c.getD i 0).toNat+cy:Nat):Int):=by rw[au,au,au]; omega
  have wf:Int.fdiv ((dg+(c.getD i 0).toNat+cy:Nat):Int) (2 ^ 32)=(((D%4294967296 ^ (i+1)+aI (c.take (i+1))) / 4294967296 ^ (i+1):Nat):Int):=by rw[hcv,a1,oA]; rfl
  have w3:IntKind.wrap .u32 ((dg+(c.getD i 0).toNat+cy:Nat):Int)=((E / 4294967296 ^ i%4294967296:Nat):Int):=by rw[a3,iw]; rfl
  rw[aGQ (by omega:(i:Int)<(n:Int)),aGT,ac aGO,ac aGP,ac (aGQ (by omega)),ac aGP,ac (aGQ (by omega)),ac aGO,ac aGP,ac (aGQ (by omega)),ac aGO,<- hcy,wy,ws,wf,w3,QF D E (by omega) (by omega),oT]
 ·have hp:=bv n;have hml:=aG6 D hp;have hVl:V<4294967296 ^ n:=by rw[hV]; exact bX hc n
  obtain⟨cy,hcy⟩:∃ cy,cy=(D%4294967296 ^ n+V) / 4294967296 ^ n:=⟨_,rfl⟩
  have hcl1:cy<=1:=by
   have:cy<2:=by rw[hcy,aG0 hp]; omega
   omega
  obtain⟨a1,a3⟩:=Oh (D:=D) (V:=V) (i:=n) hcy;rw[<- hE]at a3;have hdl:D / 4294967296 ^ n%4294967296<4294967296:=aG6 _ (by decide);have ei':0+Int.toNat ((j:Int)+(n:Int))=j+n:=by omega
  simp only[NG];rw[aGR (by omega:¬(n:Int)<(n:Int)),aGS,ei',QE D E (by omega) (by omega),QD D E (by omega) (by omega),<- hV,<- hcy];obtain⟨dg,hdg⟩:∃ dg,dg=D / 4294967296 ^ n%4294967296:=⟨_,rfl⟩
  rw[<- hdg]at a3 hdl ⊢;have w3:IntKind.wrap .u32 ((dg:Int)+IntKind.wrap .u32 (cy:Int))=((E / 4294967296 ^ n%4294967296:Nat):Int):=by rw[a3,iw,iw]; omega
  rw[ac aGO,ac aGP,ac (aGQ (by omega)),ac aGP,ac (aGQ (by omega)),w3,QF D E (by omega) (by omega)];rw[aHB (by rw[aq]; omega),aHG]
def ai8 {P A B U3 V2 U V g:Nat} (hB:B<P) (hg:g*P<=V) (hU:U=A+P*U3) (hV:V=B+P*V2) (h:g*V2<=U3) (hV0:0<V):g<=U / V+1:=by
 have h1:g*B<=g*P:=aGZ _ (by omega);have h2:P*(g*V2)<=P*U3:=aGZ _ h;have h3:g*V=g*B+P*(g*V2):=by rw[hV,aG8,aHi g P]
 have h4:g*V<=U+V:=by omega
 have h5:=aJg U hV0;have h6:g*V<(U / V+2)*V:=by rw[show U / V+2=U / V+1+1 by omega,aIq,aGV (U / V+1)];omega
 have:=Nat.lt_of_mul_lt_mul_right h6;omega
def aqQ {V Y Z X U Q:Nat} (h1:V<Y) (h2:Y<=Z) (h3:X<=U) (h4:X=Q*4294967296) (h5:U<V*4294967296):Q<Z:=by omega
def ahx {P A B U V T u0 v0 v1:Nat} (hA:A<P) (hB:B<P) (hU:U=A+P*(u0+4294967296*T)) (hV:V=B+P*(v0+4294967296*v1)) (hv0:v0<4294967296) (hUV:U<V*4294967296):T<4294967296*v1+4294967296:=by
 have h1:V<P*(v0+4294967296*v1+1):=by rw[hV,aJ7]; omega
 have h2:P*(v0+4294967296*v1+1)<=P*(4294967296*v1+4294967296):=aGZ _ (by omega);have h3:P*(4294967296*T)<=U:=by rw[hU,aG8 P u0]; omega
 have h4:P*(4294967296*T)=P*T*4294967296:=by rw[aGV 4294967296,aG2]
 have h5:P*T<P*(4294967296*v1+4294967296):=aqQ h1 h2 h3 h4 hUV;exact aI_ h5
def W7 {N:Nat} (hN:5<N) {S1 S2 S3 S4 S5 S6 S7 S8 S9} {a:List Int} {s:Int} {d:Nat} {dl':List Int} {X la:Nat} (hla:a.length=la) (hX:X<4294967296 ^ (la+1)) (h1:la<=(am X).length) (hs:la<=1099511627000) (e0:Nat->List Int->Bool) :
  ah N (v7 N S1 S2 S3 S4 S5 S6 S7 S8 S9 a s d dl' e0) ((am X).length,dl X (la+1))=e0 (la+1) (dl X (la+1)):=by
 have h2:(am X).length<=la+1:=gl _ _ hX;have last:∀ K,v7 N S1 S2 S3 S4 S5 S6 S7 S8 S9 a s d dl' e0 (la+1,dl X (la+1)) K=e0 (la+1) (dl X (la+1)):=by intro K;simp only[v7];rw[hla,ac aGO,aGR (by omega),aGS]
 by_cases h:(am X).length=la+1
 ·rw[h];exact aM (λi=>(la+1,dl X (la+1))) 0 rfl (by omega) (λi hi K=>by omega) last
 ·have hl:(am X).length=la:=by omega
  rw[hl];refine aM (λi=>(la+i,dl X (la+1))) 1 rfl (by omega) (λi hi K=>?_) last;have:i=0:=by omega
  subst this;have e1:(dl X (la+1)).take la++[0]=dl X (la+1):=by
   rw[wA X (by omega),dl];have:X / 4294967296 ^ la%4294967296=0:=by have:=mW X;rw[hl]at this;rw[aHm this]
   rw[this]; rfl
  show v7 N S1 S2 S3 S4 S5 S6 S7 S8 S9 a s d dl' e0 (la,dl X (la+1)) K=K (la+1,dl X (la+1));simp only[v7];rw[hla,ac aGO,aGQ (by omega),aGT,ac (aGQ (by rw[aq]; omega)),aIj,e1,aq,ac (aGQ (by omega))]
def aqB {N:Nat} (hN:1180591620717411303424<=N) {n j ul V v1:Nat} {s:Int} {b ql:List Int} (hVlt:V<4294967296 ^ (n+2)) (hVge:4294967296 ^ (n+1)<=V) (hv1:v1=V / 4294967296 ^ (n+1)) (hv1lo:2147483648<=v1) (hv1hi:v1<4294967296) (hbw:InW b) (hblen:b.length=ul) (hjl:j+(n+2)<ul) (hls:ul<=1099511627700) (hjq:j<ql.length)
  (hUlt:aI ((b.drop j).take (n+2+1))<V*4294967296) (e0:List Int->List Int->Bool) (K:Int × List Int × List Int->Bool) :
  nF N (w7 N) (Th N) (sQ8 N) (XW N) (XX N) (XY N) (XZ N) (X3 N) (X0 N) s (n+2) ul ((n+2:Nat):Int) (v1:Int) (dl V (n+2+1)) e0 ((j:Int),b,ql) K
   = K ((j:Int) - 1,b.take j++(dl (aI ((b.drop j).take (n+2+1))%V) (n+2+1)++b.drop (j+(n+2+1))),ql.set j ((aI ((b.drop j).take (n+2+1)) / V:Nat):Int)):=by
 have hV0:0<V:=aHc (bv _) hVge;have hcv:aI ((dl V (n+2+1)).take (n+2))=V:=by rw[wA V (by omega),ya,aG1 hVlt]
 have hU3:=as8 (b.drop j) n;have hV2:=as7 (dl V (n+2+1)) n;rw[show n+3=n+2+1 by omega,oa,oa,oa]at hU3;rw[hcv]at hV2;have a0:=hbw.at (i:=j+n);have a1:=hbw.at (i:=j+(n+1));have a2:=hbw.at (i:=j+(n+2));have c0:=(nd V (n+2+1)).at (i:=n);obtain⟨u0,hu0⟩:∃ u,u=(b.getD (j+n) 0).toNat:=⟨_,rfl⟩
 obtain⟨u1,hu1⟩:∃ u,u=(b.getD (j+(n+1)) 0).toNat:=⟨_,rfl⟩
 obtain⟨u2,hu2⟩:∃ u,u=(b.getD (j+(n+2)) 0).toNat:=⟨_,rfl⟩
 obtain⟨v0,hv0⟩:∃ u,u=((dl V (n+2+1)).getD n 0).toNat:=⟨_,rfl⟩
 have q0:b.getD (j+n) 0=(u0:Int):=by omega
 have q1:b.getD (j+(n+1)) 0=(u1:Int):=by omega
 have q2:b.getD (j+(n+2)) 0=(u2:Int):=by omega
 have k0:(dl V (n+2+1)).getD n 0=(v0:Int):=by omega
 have k1:((dl V (n+2+1)).getD (n+1) 0).toNat=v1:=by rw[AA V (by omega),aGU,<- hv1,aG1 hv1hi]
 rw[<- hu0,<- hu1,<- hu2]at hU3;rw[<- hv0,k1]at hV2;have hAb:=bX (hbw.drop j) n;have hBb:=bX (nd V (n+2+1)) n;have hwv:∃ U,U=aI ((b.drop j).take (n+2+1)):=⟨_,rfl⟩
 obtain⟨U,hwv⟩:=hwv;rw[<- hwv]at hU3 hUlt ⊢;have hT:=ahx hAb hBb hU3 hV2 (by omega) hUlt;have hdW:U / V<4294967296:=by rw[aG0 hV0,aGV]; exact hUlt
 have hv1p:0<v1:=by omega
 obtain⟨T,hTe⟩:∃ T,T=u2*4294967296+u1:=⟨_,rfl⟩
 rw[<- hTe]at hU3 hT;have hg0:T / v1<=4294967298:=by
  have:T / v1<4294967299:=by rw[aG0 hv1p]; omega
  omega
 have hkb:U / V<=T / v1:=by rw[hTe]; rw[hTe]at hU3; exact U5 hAb hU3 hV2 hV0 hv1p (by omega)
 obtain⟨g,p1,p2,p3,p4⟩:=MB (N:=N) (S1:=w7 N) (S2:=Th N) (S3:=sQ8 N) (S4:=XW N) (S5:=XX N) (S6:=XY N) (S7:=XZ N) (S8:=X3 N) (S9:=X0 N) (s5:=s) (ul:=ul) (j:=j) (n:=n+2) (u0:=u0) (v0:=v0) (v1:=v1) (T:=T) (d:=U / V) (b:=b) (c:=dl V (n+2+1)) (ql:=ql) (by omega) (by rw[show n+2 - 2=n by omega]; exact k0) (by rw[show j+(n+2) - 2=j+n by omega]; exact q0) (by rw[aq]; omega) (by omega) (by omega) (by omega) (by omega) hv1hi (by omega) hT
  (λg hg=>MF hAb hU3 hV2 hV0 (by rw[aIJ v0,aGV 4294967296 v1]; omega)) hdW
  (T / v1) (T%v1) N (by omega) (by omega) (aHQ _ _) (aID (aG6 _ hv1p) hv1hi) hkb
 have hgd:g<=U / V+1:=ai8 hBb (by have:g*4294967296 ^ n<=4294967296*4294967296 ^ n:=aGX _ (Nat.le_of_lt p2);rw[<- Nat.pow_succ']at this;exact aHj this hVge) hU3 hV2 (by rw[aIJ v0,aGV 4294967296 v1]; omega) hV0
 have hless:=λkk=>Xt (N:=N) (j:=j) (n:=n+2) (ul:=ul) (g:=g) (U:=U) (V:=V) (b:=b) (c:=dl V (n+2+1)) (by omega) hbw (nd _ _) (by rw[aq]; omega) (by omega) (by omega) (by omega) p2 hwv hcv.symm kk
 have jn:0+Int.toNat ((j:Int)+((n+2:Nat):Int))=j+(n+2):=by omega
 have jn1:0+Int.toNat ((j:Int)+((n+2:Nat):Int) - 1)=j+(n+1):=by omega
 have top0:(!decide ((v1:Int)=0))=true:=by simp; omega
 have wu2:IntKind.wrap .u64 (u2:Int)=(u2:Int):=by rw[au]; omega
 have hor:aF .or .u64 (IntKind.wrap .u64 ((u2:Int)*2 ^ 32)) (IntKind.wrap .u64 (u1:Int))=(T:Int):=by rw[ajs (by omega) (by omega),hTe]
 have etd:IntKind.wrap .u64 (Int.tdiv (T:Int) (v1:Int))=((T / v1:Nat):Int):=by have:Int.tdiv (T:Int) (v1:Int)=((T / v1:Nat):Int):=rfl;rw[this,au];generalize T / v1=z at *;omega
 have etm:Int.tmod (T:Int) (v1:Int)=((T%v1:Nat):Int):=rfl;have hfin:dl (U+4294967296 ^ (n+2+1) - U / V*V) (n+2+1)=dl (U%V) (n+2+1):=by
  have e:U+4294967296 ^ (n+2+1) - (U / V)*V=U%V+4294967296 ^ (n+2+1)*1:=by have:=aHQ U V;omega
  rw[e,UV _ _ _ (aG4 _)]
 have hgV:g*V<4294967296 ^ (n+2+1):=by rw[aG3,aGV];exact aHU hVlt p2
 simp only[nF,jn,jn1,q1,q2,wu2,hor,etd,etm];rw[aGQ (by omega:(j:Int)>=0),aGT,ac aGO,ac aGP,ac (aGQ (by omega)),ac aGO,ac aGO,ac aGP,ac (aGQ (by omega)),ac top0,ac top0,p4,hless];by_cases hlt:U<g*V
 ·have hge:g=U / V+1:=by
   have:U / V<g:=by
    rcases aHN (U / V) g with h | h
    ·exact h
    ·have:=(aIz hV0).1 h; omega
   omega
  have hmore:=λkk=>Xw (N:=N) (j:=j) (n:=n+2) (ul:=ul) (D:=U+4294967296 ^ (n+2+1) - g*V) (V:=V) (b:=b) (c:=dl V (n+2+1)) (by omega) (nd _ _) (by rw[aq]; omega) (by omega) (by omega) (by omega) hcv.symm kk
  have hD:U+4294967296 ^ (n+2+1) - g*V+V=U+4294967296 ^ (n+2+1) - U / V*V:=by
   have:g*V=U / V*V+V:=by rw[hge,aIq]
   omega
  have wg:IntKind.wrap .u32 (IntKind.wrap .u64 ((g:Int) - 1))=((U / V:Nat):Int):=by rw[hge];generalize U / V=z at *;rw[au,iw]; omega
  rw[aGQ hlt,aGT,hmore,hD,hfin,ac aGP,ac (aGQ (by omega)),ac aGO,aGU,wg]
 ·have hge:g=U / V:=by have:=(aIz hV0).2 (Nat.le_of_not_lt hlt);omega
  have wg:IntKind.wrap .u32 (g:Int)=((U / V:Nat):Int):=by rw[hge];generalize U / V=z at *;rw[iw]; omega
  rw[aGR hlt,aGS,wg,hge,hfin,ac aGP,ac (aGQ (by omega)),ac aGO,aGU]
def Jz {N:Nat} (hN:1180591620717411303424<=N) {x y:Nat} (hxy:y<=x) (hy2:2<=(am y).length) (hxl:(am x).length<=1099511627000) (k:Ky9) :
  vY N (am x) (am y) k=k (am (x / y)) (am (x%y)):=by
 have hy0:y ≠ 0:=by intro h; rw[h,bG]at hy2; simp at hy2
 have hyx:=eG hxy;have hylt:=mW y;have hxlt:=mW x;have hylo:4294967296 ^ ((am y).length - 1)<=y:=by
  rcases aHN y (4294967296 ^ ((am y).length - 1))with h | h
  ·have:=gl _ _ h; omega
  ·exact h
 unfold vY N5;rw[ob x y ⟨by omega,by omega⟩ ⟨by omega,by omega⟩];have hc:decide (iW x y<0)=false:=by unfold iW; rw[if_neg (by omega)]; split <;> rfl
 obtain⟨n,hn⟩:∃ n,(am y).length=n+2:=⟨(am y).length - 2,by omega⟩
 obtain⟨lx,hlx⟩:∃ lx,(am x).length=lx:=⟨_,rfl⟩
 have htd:(am y).getD (n+1) 0=((y / 4294967296 ^ (n+1):Nat):Int):=by rw[tv,aG1];rw[aG0 (bv _),aGV,<- aG3];rw[hn]at hylt; exact hylt
 rw[hn]at hylt hylo;rw[hlx]at hxlt;rw[show n+2 - 1=n+1 by omega]at hylo;obtain⟨t,ht⟩:∃ t,t=y / 4294967296 ^ (n+1):=⟨_,rfl⟩
 rw[<- ht]at htd;have htl:t<4294967296:=by rw[ht,aG0 (bv _),aGV,<- aG3]; exact hylt
 have ht0:t ≠ 0:=by have:=aJf hylo (bv (n+1)); omega
 obtain⟨g1,g2,g3⟩:=Yb ht0 htl;have ein:Int.toNat (((n+2:Nat):Int) - 1)=n+1:=by omega
 have e1':(((n+2:Nat):Int)==1)=false:=by simp; omega
 rw[hc,aGS,hn,e1',aGS,ac aGO,ac aGP,ein,htd,adV N htl];obtain⟨s,hs⟩:∃ s,s=32 - bl t:=⟨_,rfl⟩
 rw[<- hs]at g1 g2 g3 ⊢;have hs0:0<2 ^ s:=aG5 s;have ews:IntKind.wrap .u64 ((s:Nat):Int)=(s:Int):=by rw[au]; omega
 rw[ews];obtain⟨V,hV⟩:∃ V,V=y*2 ^ s:=⟨_,rfl⟩
 obtain⟨X,hX⟩:∃ X,X=x*2 ^ s:=⟨_,rfl⟩
 have hVlt:V<4294967296 ^ (n+2):=by
  have h1:=aJg y (bv (n+1));rw[<- ht]at h1;have h2:y*2 ^ s<4294967296 ^ (n+1)*(t+1)*2 ^ s:=aHH h1 hs0;have h3:(t+1)*2 ^ s<=4294967296:=by
   have hd:2 ^ s*2 ^ (32 - s)=4294967296:=by rw[<- aG_,show s+(32 - s)=32 by omega]
   have h4:t<2 ^ (32 - s):=by rw[aGV]at g3;rw[<- hd]at g3;exact aI_ g3
   rw[<- hd,aGV];exact aGZ _ h4
  have h5:=aGZ (4294967296 ^ (n+1)) h3;rw[hV,show n+2=n+1+1 by omega,aG3];rw[aG2]at h2;omega
 have hVge:4294967296 ^ (n+1)<=V:=by rw[hV]; exact aHj hylo (aHE _ hs0)
 have hVlen:(am V).length=n+2:=ajl hVge hVlt;have hV0:0<V:=aHc (bv _) hVge;have hx0:x ≠ 0:=by omega
 have hvt:V / 4294967296 ^ (n+1)=t*2 ^ s+y%4294967296 ^ (n+1)*2 ^ s / 4294967296 ^ (n+1):=by
  have h1:=aHF y (4294967296 ^ (n+1));rw[<- ht]at h1;have h2:V=y%4294967296 ^ (n+1)*2 ^ s+4294967296 ^ (n+1)*(t*2 ^ s):=by rw[hV,<- aG2,<- aHf]; congr 1; omega
  rw[h2,jq]; omega
 have hv1lo:2147483648<=V / 4294967296 ^ (n+1):=by rw[hvt]; exact aHj g2 (aJa _ _)
 have hv1hi:V / 4294967296 ^ (n+1)<4294967296:=by rw[aG0 (bv _),aGV,<- aG3]; exact hVlt
 rw[zR hy0 g1 (by omega) (by omega),hn,<- hV,hVlen,zR hx0 g1 (by omega) (by omega),hlx,<- hX];have hs2:2 ^ s<=4294967296:=by rw[<- M5]; exact aG7 (by decide) (by omega)
 have hXlt:X<4294967296 ^ (lx+1):=by rw[hX,aG3]; exact aHy hxlt hs2 (by decide)
 have hXlen2:lx<=(am X).length:=by rw[<- hlx,hX]; exact eG (aHE _ hs0)
 rw[W7 (by omega) hlx hXlt hXlen2 (by omega)];unfold UF;obtain⟨M,hM⟩:∃ M,lx+1=M+(n+2):=⟨lx+1 - (n+2),by omega⟩
 have eM:(((lx+1:Nat):Int) - ((n+2:Nat):Int))=(M:Int):=by omega
 have ein2:0+Int.toNat (((n+2:Nat):Int) - 1)=n+1:=by omega
 rw[eM,aGU,aHW,ein2,AA V (by omega),aG1 hv1hi];obtain⟨v1,hv1⟩:∃ v1,v1=V / 4294967296 ^ (n+1):=⟨_,rfl⟩
 rw[<- hv1]at hv1lo hv1hi ⊢;have wv1:IntKind.wrap .u64 (v1:Int)=(v1:Int):=by rw[au]; omega
 rw[wv1,ac aGO,ac (fZ (by omega) (by omega) (by omega) (by omega)),ac aGO,ac aGP,ac (aGQ (by rw[aq]; omega)),ac aGO];have hstart:dl X (lx+1)=dl X M++(dl (X / 4294967296 ^ M%V) (n+2)++List.replicate 0 0):=by
  have hXM:X / 4294967296 ^ M<V:=by
   rw[aG0 (bv M),hX,hV];have h1:x*2 ^ s<4294967296 ^ lx*2 ^ s:=aHH hxlt hs0;have h2:4294967296 ^ lx=4294967296 ^ (n+1)*4294967296 ^ M:=by rw[<- aG_]; congr 1; omega
   have h3:=aGX (4294967296 ^ M*2 ^ s) hylo;rw[h2,aG2]at h1;have e:y*2 ^ s*4294967296 ^ M=y*(4294967296 ^ M*2 ^ s):=by rw[aG2,aGV (2 ^ s)]
   rw[e]; omega
  rw[aG1 hXM,aHp,aHn,<- Lr,<- hM]
 rw[hstart];have hQlt:X / V<4294967296 ^ M:=by
  rw[aG0 hV0];have h1:x*2 ^ s<4294967296 ^ lx*2 ^ s:=aHH hxlt hs0;have h2:4294967296 ^ lx=4294967296 ^ M*4294967296 ^ (n+1):=by rw[<- aG_]; congr 1; omega
  have h3:=aGZ (4294967296 ^ M) (aGX (2 ^ s) hylo);rw[hX,hV];rw[h2,aG2]at h1;omega
 have hmk:M<=1099511627001:=by omega
 refine aM (λi=>((M:Int) - 1 - (i:Int),dl X (M - i)++(dl (X / 4294967296 ^ (M - i)%V) (n+2)++List.replicate i 0),List.replicate (M - i) (0:Int)++(dl (X / V) M).drop (M - i))) M ?_ (by omega) (λi hi K=>?_) (λK=>?_)
 ·rw[aIT,aHB (by rw[aq]; omega),aHn];congr 1;omega
 ·obtain⟨j,hj⟩:∃ j,M - i=j+1:=⟨M - i - 1,by omega⟩
  have hj2:M - (i+1)=j:=by omega
  have ei:(M:Int) - 1 - (i:Int)=(j:Int):=by omega
  have ei2:(M:Int) - 1 - ((i+1:Nat):Int)=(j:Int) - 1:=by omega
  rw[hj,hj2,ei,ei2];obtain⟨A,hA⟩:∃ A,A=X / 4294967296 ^ j:=⟨_,rfl⟩
  have hA1:X / 4294967296 ^ (j+1)=A / 4294967296:=by rw[hA,aG3,aGY]
  obtain⟨n1,n2⟩:=J6 (A:=A) hV0;obtain⟨R,hR⟩:∃ R,R=A / 4294967296%V:=⟨_,rfl⟩
  have hRV:R<V:=by rw[hR]; exact aG6 _ hV0
  rw[hA1,<- hR];rw[<- hR]at n1 n2;obtain⟨b,hb⟩:∃ b,b=dl X (j+1)++(dl R (n+2)++List.replicate i 0):=⟨_,rfl⟩
  have hblen:b.length=lx+1:=by rw[hb]; simp[aq]; omega
  have hbw:InW b:=by
   rw[hb];intro z hz;rcases List.mem_append.1 hz with h | h
   ·exact nd _ _ z h
   ·rcases List.mem_append.1 h with h | h
    ·exact nd _ _ z h
    ·have:=(List.mem_replicate.1 h).2; subst this; omega
  have hbt:b.take j=dl X j:=by rw[hb,aHS (by rw[aq]; omega),wA X (by omega)]
  have hbd:b.drop j=((A%4294967296:Nat):Int)::(dl R (n+2)++List.replicate i 0):=by rw[hb,dl,aG9,aHR (by rw[aq]; omega),aHB (by rw[aq]; omega),aHG,hA];rfl
  have hwv:aI ((b.drop j).take (n+2+1))=R*4294967296+A%4294967296:=by rw[hbd,aJE,aHS (by rw[aq]; omega),aHb (by rw[aq]; omega),aI,ya,aG1 (aID hRV hVlt),aGU];omega
  have hbd2:b.drop (j+(n+2+1))=List.replicate i 0:=by rw[<- List.drop_drop,hbd,List.drop_succ_cons,aHR (by rw[aq]; omega),aHB (by rw[aq]; omega),aHG]
  have hcv:aI ((dl V (n+2+1)).take (n+2))=V:=by rw[wA V (by omega),ya,aG1 hVlt]
  have hAm:A%4294967296<4294967296:=aG6 _ (by decide);have hUlt:R*4294967296+A%4294967296<V*4294967296:=by have:=aGX 4294967296 hRV;rw[aIq]at this;omega
  have hnext:dl X j++(dl (A%V) (n+2+1)++List.replicate i 0)=dl X j++(dl (A%V) (n+2)++List.replicate (i+1) 0):=by rw[O5 (aID (aG6 A hV0) hVlt) 1,aG9,aHA];rfl
  have hdg:X / V / 4294967296 ^ j%4294967296=A / V%4294967296:=by rw[hA,aGY,aGY,aGV V]
  have hql:(List.replicate (j+1) (0:Int)++(dl (X / V) M).drop (j+1)).length=M:=by simp[aq]; omega
  have hstep:=aqB (s:=(s:Int)) (j:=j) (b:=b) (ul:=lx+1) (ql:=List.replicate (j+1) (0:Int)++(dl (X / V) M).drop (j+1)) hN hVlt hVge hv1 hv1lo hv1hi hbw hblen (by omega) (by omega) (by omega) (by rw[hwv]; exact hUlt);rw[<- hb,hstep,hwv,n1,n2,hbt,hbd2,hnext,<- hdg,PX _ _ _ (by omega),<- hA]
 ·simp only[nF];have e0:(M:Int) - 1 - (M:Int) = -1:=by omega
  rw[e0,aGR (by omega),aGS,aHq,aIK,aIH,aHp,aHG,aIj];obtain⟨L,hL⟩:∃ L,L=dl X 0++(dl (X%V) (n+2)++List.replicate M 0):=⟨_,rfl⟩
  have hRlt:X%V<4294967296 ^ (n+2):=aID (aG6 _ hV0) hVlt;have hLt:L.take (n+2)=dl (X%V) (n+2):=by rw[hL,show dl X 0=[] from rfl,aHG,aHS (by rw[aq]; omega),aHb (by rw[aq]; omega)]
  have hLw:InW L:=by
   rw[hL];intro z hz;rcases List.mem_append.1 hz with h | h
   ·cases h
   ·rcases List.mem_append.1 h with h | h
    ·exact nd _ _ z h
    ·have:=(List.mem_replicate.1 h).2; subst this; omega
  have hLlen:n+2<=L.length:=by rw[hL]; simp[aq]
  have en:Int.toNat ((n+2:Nat):Int) - 0=n+2:=by omega
  rw[<- hL,qi _ (by rw[aq]; omega) (by rw[aq]; omega),en,ac (aGQ (by omega)),Xp L (n+2) hLlen (by omega) (by omega)];have hcl:=nZ L (n+2);rw[MM L hLw (dQ L (n+2)) s (by omega) g1 (by omega) (by omega),zr,hLt,ya,aG1 hRlt,aq,IJ hQlt];have hQlen:=gl _ _ hQlt;rw[ac (aGQ (by omega)),aIj,wA _ hQlen,ahB,hX,hV,aJv _ _ hs0,aJw,aIA _ hs0]
def AL {N:Nat} (hN:1180591620717411303424<=N) {x y:Nat} (hy:0<y) (hxl:(am x).length<=1099511627000) (hyl:(am y).length<=1099511627000) (k:Ky9) :
  vY N (am x) (am y) k=k (am (x / y)) (am (x%y)):=by
 by_cases hxy:y<=x
 ·by_cases h2:2<=(am y).length
  ·exact Jz hN hxy h2 hxl k
  ·have hylt:=mW y;have hl1:(am y).length=1:=by rw[fQ (by omega)]at h2 ⊢; simp at h2 ⊢; exact h2
   rw[hl1,aJO]at hylt;have hd:=Az (by omega:y ≠ 0) hylt;have hc:decide (iW x y<0)=false:=by unfold iW; rw[if_neg (by omega)]; split <;> rfl
   unfold vY N5;rw[ob x y ⟨by omega,by omega⟩ ⟨by omega,by omega⟩,hc,aGS,hd];show cond (((1:Nat):Int)==1) _ _=_;rw[show(((1:Nat):Int)==1)=true from rfl,aGT,ac (al (by omega) (by simp))];show Th N (am x) (y:Int) _=_;have hm:x%y<4294967296:=aID (aG6 _ hy) hylt;have hw:InW [((x%y:Nat):Int)]:=by intro z hz;simp only[aIf,aIP,or_false]at hz;subst hz; omega
   have hv:aI [((x%y:Nat):Int)]=x%y:=by simp only[aI]; omega
   have hct:=iG (N:=N) [((x%y:Nat):Int)] hw (by simp; omega) (by simp) (λz=>k (am (x / y)) z);rw[hv]at hct;rw[Sl hy hylt ⟨by omega,by omega⟩];exact hct
 ·have hc:decide (iW x y<0)=true:=by unfold iW; rw[if_pos (by omega)]; rfl
  unfold vY N5;rw[ob x y ⟨by omega,by omega⟩ ⟨by omega,by omega⟩,hc,aGT,aHG,ac (aGQ (by omega)),aHm (by omega),aG1 (by omega),bG]
def PD {N V f:Nat} (hf:f<4294967296000) (hN:20<N) (hs:kj N (am V)) (hf2:f<4294967296\/True) (hlt:V / 2 ^ f<18446744073709551616) (hr:∀ kk,CR N (am V) (f:Int) kk=kk (am (V / 2 ^ f))) (k:Kz1):JT N (am V) (f:Int) k=k ((V / 2 ^ f:Nat):Int):=by
 unfold JT ZV;have wf:IntKind.wrap .u64 (f:Int)=(f:Int):=by rw[au]; omega
 rw[wf,hr];obtain⟨Y,hY⟩:∃ Y,Y=V / 2 ^ f:=⟨_,rfl⟩
 rw[<- hY]at hlt ⊢;have hl2:(am Y).length<=2:=gl 2 Y (by
  have:(4294967296:Nat) ^ 2=18446744073709551616:=by decide
  omega)
 have hYl:=mW Y;obtain⟨L,hL⟩:∃ L,(am Y).length=L:=⟨_,rfl⟩
 rw[hL]at hl2 hYl ⊢;rw[ac aGO];refine aM (λi=>(((Y / 4294967296 ^ (L - i):Nat):Int),(L:Int) - 1 - (i:Int))) L ?_ (by omega) (λi hi K=>?_) (λK=>?_)
 ·rw[aIT,aHm hYl]; simp
 ·obtain⟨m,hm⟩:∃ m,L - i=m+1:=⟨L - i - 1,by omega⟩
  have hm2:L - (i+1)=m:=by omega
  have ei:(L:Int) - 1 - (i:Int)=(m:Int):=by omega
  have ei2:(L:Int) - 1 - ((i+1:Nat):Int)=(m:Int) - 1:=by omega
  rw[hm,hm2,ei,ei2];have hp:Y / 4294967296 ^ (m+1)=Y / 4294967296 ^ m / 4294967296:=by rw[aG3,aGY]
  have hle:=aIu Y (4294967296 ^ m);simp only[qH,aGU];rw[aGQ (by omega:(m:Int)>=0),aGT,hL,ac aGP,ac aGO,tv,hp];generalize Y / 4294967296 ^ m=Z at *;rw[ajs (by omega) (by omega)];congr 2;omega
 ·simp only[qH];have e0:(L:Int) - 1 - (L:Int) = -1:=by omega
  rw[e0,aGR (by omega),aGS,aHq,aIK,aIH]
def sgn (neg:Bool) (n:Nat):Int:=cond neg (-(n:Int)) (n:Int)
def gL (n:Nat):sgn true n = -(n:Int):=rfl
def il (n:Nat):sgn false n=(n:Int):=rfl
def K1 (x0 y0 a b c d:Nat) (odd:Bool):Prop:=
 ∃ p q,x0=d*p+b*q/\y0=c*p+a*q/\(cond odd (b*c=a*d+1) (a*d=b*c+1))/\(cond odd (d<=q/\q+a+c<=p) (c<=q/\q+b+d<=p))/\1<=b/\1<=c/\1<=d/\a<=1073741824/\b<=1073741824/\c<=1073741824/\d<=1073741824
def Qz {N:Nat} {x0 y0:Nat} (hx0:x0<4611686018427387904) (hy0:y0<4611686018427387904) :
  ∀ q p a b c d odd M,q<M->x0=d*p+b*q->y0=c*p+a*q->(cond odd (b*c=a*d+1) (a*d=b*c+1)) ->
   a<=1073741824->b<=1073741824->c<=1073741824->d<=1073741824->1<=d->p<=x0 ->
   ((odd=false/\a=1/\b=0/\c=0/\d=1/\q<=p)\/(1<=b/\1<=c/\(cond odd (d<=q/\q+a+c<p) (c<=q/\q+b+d<p)))) ->
   ∃ a' b' c' d':Nat,∃ odd',(b'=0/\odd'=false\/K1 x0 y0 a' b' c' d' odd') /\ ∀ e0,ah M (qn N e0) (sgn odd a,sgn (!odd) b,sgn (!odd) c,sgn odd d,(p:Int),(q:Int))=e0 (sgn odd' a') (sgn (!odd') b') (sgn (!odd') c') (sgn odd' d'):=by
 intro q;induction q using Nat.strongRecOn with
 | ind q ih=>
 intro p a b c d odd M hM h1 h2 hdet ha hb hc hd hd1 hp hor;obtain⟨M,rfl⟩:∃ m,M=m+1:=⟨M - 1,by omega⟩
 have hgood:b=0/\odd=false\/K1 x0 y0 a b c d odd:=by
  rcases hor with h | ⟨k1,k2,k3⟩
  ·exact .inl ⟨h.2.2.1,h.1⟩
  ·refine .inr ⟨p,q,h1,h2,hdet,?_,k1,k2,hd1,ha,hb,hc,hd⟩;cases odd
   ·simp only[aGS]at k3 ⊢; omega
   ·simp only[aGT]at k3 ⊢; omega
 have stop:∀(P:(Int->Int->Int->Int->Bool)->Bool),(∀ e0,P e0=e0 (sgn odd a) (sgn (!odd) b) (sgn (!odd) c) (sgn odd d)) -> ∃ a' b' c' d':Nat,∃ odd',(b'=0/\odd'=false\/K1 x0 y0 a' b' c' d' odd') /\ ∀ e0,P e0=e0 (sgn odd' a') (sgn (!odd') b') (sgn (!odd') c') (sgn odd' d'):=
  λP hP=>⟨a,b,c,d,odd,hgood,hP⟩
 have hpq:p*1<=d*p:=by rw[aGV d]; exact aGZ _ hd1
 have hcp:c*p<=y0:=by omega
 have hdp:d*p<=x0:=by omega
 have hql:q<=p:=by
  rcases hor with h | ⟨k1,k2,k3⟩
  ·exact h.2.2.2.2.2
  ·cases odd
   ·simp only[aGS]at k3; omega
   ·simp only[aGT]at k3; omega
 obtain⟨u1,hu1⟩:∃ u1:Nat,(q:Int)+sgn (!odd) c=(u1:Int):=by
  rcases hor with h | ⟨k1,k2,k3⟩
  ·obtain⟨e1,e2,e3,e4,e5,e6⟩:=h;subst e1 e4; exact⟨q,by simp[sgn]⟩
  ·cases odd
   ·simp only[aGS]at k3;exact⟨q - c,by simp only[aHt,gL]; omega⟩
   ·exact⟨q+c,by simp only[aHK,il]; omega⟩
 obtain⟨u2,hu2⟩:∃ u2:Nat,(q:Int)+sgn odd d=(u2:Int):=by
  rcases hor with h | ⟨k1,k2,k3⟩
  ·obtain⟨e1,e2,e3,e4,e5,e6⟩:=h;subst e1; exact⟨q+d,by simp only[il]; omega⟩
  ·cases odd
   ·exact⟨q+d,by simp only[il]; omega⟩
   ·simp only[aGT]at k3;exact⟨q - d,by simp only[gL]; omega⟩
 obtain⟨t1,ht1⟩:∃ t1:Nat,(p:Int)+sgn odd a=(t1:Int):=by
  rcases hor with h | ⟨k1,k2,k3⟩
  ·obtain⟨e1,e2,e3,e4,e5,e6⟩:=h;subst e1; exact⟨p+a,by simp only[il]; omega⟩
  ·cases odd
   ·exact⟨p+a,by simp only[il]; omega⟩
   ·simp only[aGT]at k3;exact⟨p - a,by simp only[gL]; omega⟩
 obtain⟨t2,ht2⟩:∃ t2:Nat,(p:Int)+sgn (!odd) b=(t2:Int):=by
  rcases hor with h | ⟨k1,k2,k3⟩
  ·obtain⟨e1,e2,e3,e4,e5,e6⟩:=h;subst e1 e3; exact⟨p,by simp[sgn]⟩
  ·cases odd
   ·simp only[aGS]at k3;exact⟨p - b,by simp only[aHt,gL]; omega⟩
   ·exact⟨p+b,by simp only[aHK,il]; omega⟩
 have t1b:t1<=p+a:=by cases odd <;> simp only[gL,il]at ht1 <;> omega
 have t2b:t2<=p+b:=by cases odd <;> simp only[aHK,aHt,gL,il]at ht2 <;> omega
 have u1b:u1<=q+c:=by cases odd <;> simp only[aHK,aHt,gL,il]at hu1 <;> omega
 have u2b:u2<=q+d:=by cases odd <;> simp only[gL,il]at hu2 <;> omega
 by_cases c1:u1=0
 ·refine stop _ λe0=>?_
  show qn N e0 _ (ah M _)=_;simp only[qn,hu1];have:(((u1:Nat):Int) != 0)=false:=by simp; omega
  rw[ac aGO,this,show(false==true)=false from rfl,aGS]
 have n1:(((u1:Nat):Int) != 0)=true:=by simp; omega
 have m1:(!decide ((u1:Int)=0))=true:=by simp; omega
 by_cases c2:u2=0
 ·refine stop _ λe0=>?_
  show qn N e0 _ (ah M _)=_;simp only[qn,hu1,hu2];have:(((u2:Nat):Int) != 0)=false:=by simp; omega
  rw[ac aGO,n1,show(true==true)=true from rfl,aGT,ac aGO,this,aGS]
 have n2:(((u2:Nat):Int) != 0)=true:=by simp; omega
 have m2:(!decide ((u2:Int)=0))=true:=by simp; omega
 obtain⟨k1,hk1⟩:∃ k1,k1=t1 / u1:=⟨_,rfl⟩
 obtain⟨k2,hk2⟩:∃ k2,k2=t2 / u2:=⟨_,rfl⟩
 have k1b:k1<=t1:=by rw[hk1]; exact aIu _ _
 have k2b:k2<=t2:=by rw[hk2]; exact aIu _ _
 have d1:Int.tdiv (t1:Int) (u1:Int)=(k1:Int):=by rw[hk1]; rfl
 have d2:Int.tdiv (t2:Int) (u2:Int)=(k2:Int):=by rw[hk2]; rfl
 by_cases c3:k1=k2
 ·obtain⟨n,hn⟩:∃ n,n=k1:=⟨_,rfl⟩
  have hn2:n=k2:=by omega
  obtain⟨r1,hr1⟩:∃ r1,r1=t1%u1:=⟨_,rfl⟩
  obtain⟨r2,hr2⟩:∃ r2,r2=t2%u2:=⟨_,rfl⟩
  have E1:t1=n*u1+r1:=by rw[hn,hk1,hr1]; exact(aHQ t1 u1).symm
  have E2:t2=n*u2+r2:=by rw[hn2,hk2,hr2]; exact(aHQ t2 u2).symm
  have hr1l:r1<u1:=by rw[hr1]; exact aG6 _ (by omega)
  have hr2l:r2<u2:=by rw[hr2]; exact aG6 _ (by omega)
  have bnc:n*c<=4611686018427387904+1152921504606846976:=by
   have s1:n*c<=(p+a)*c:=aGX _ (by omega);have s2:(p+a)*c=c*p+a*c:=by rw[aHf,aGV p]
   have s3:a*c<=1073741824*1073741824:=aHC ha hc;omega
  have bnd:n*d<=4611686018427387904+1152921504606846976:=by
   have s1:n*d<=(p+b)*d:=aGX _ (by omega);have s2:(p+b)*d=d*p+b*d:=by rw[aHf,aGV p]
   have s3:b*d<=1073741824*1073741824:=aHC hb hd;omega
  have icn:(n:Int)*sgn (!odd) c=sgn (!odd) (n*c):=by cases odd <;> simp only[aHK,aHt,gL,il,aHa,aJK]
  have idn:(n:Int)*sgn odd d=sgn odd (n*d):=by cases odd <;> simp only[gL,il,aHa,aJK]
  have e2:sgn odd a - sgn (!odd) (n*c)=sgn odd (a+n*c):=by cases odd <;> simp only[aHK,aHt,gL,il] <;> omega
  have f2:sgn (!odd) b - sgn odd (n*d)=sgn (!odd) (b+n*d):=by cases odd <;> simp only[aHK,aHt,gL,il] <;> omega
  have hnq:n*q<=p/\(cond odd (p - n*q+b+n*d=r2/\p - n*q=r1+a+n*c) (p - n*q+a+n*c=r1/\p - n*q=r2+b+n*d)):=by
   cases odd with
   | false=>
    simp only[aHt,gL,il]at hu1 hu2 ht1 ht2;simp only[aGS];have w2:u2=q+d:=by omega
    have w3:t2+b=p:=by omega
    have w1:u1+c=q:=by omega
    have w4:t1=p+a:=by omega
    have z1:n*u2=n*q+n*d:=by rw[w2,aG8]
    have z2:n*q=n*u1+n*c:=by rw[<- w1,aG8]
    omega
   | true=>
    simp only[aHK,gL,il]at hu1 hu2 ht1 ht2;simp only[aGT];have w2:u2+d=q:=by omega
    have w3:t2=p+b:=by omega
    have w1:u1=q+c:=by omega
    have w4:t1+a=p:=by omega
    have z1:n*q=n*u2+n*d:=by rw[<- w2,aG8]
    have z2:n*u1=n*q+n*c:=by rw[w1,aG8]
    omega
  obtain⟨hnq,hnext⟩:=hnq;have inq:(n:Int)*(q:Int)=((n*q:Nat):Int):=(aHa _ _).symm;have ipq:(p:Int) - ((n*q:Nat):Int)=((p - n*q:Nat):Int):=by omega
  have fbd1 : -9223372036854775808<=sgn (!odd) (n*c)/\sgn (!odd) (n*c)<=9223372036854775807:=by cases odd <;> simp only[aHK,aHt,gL,il] <;> omega
  have fbd2 : -9223372036854775808<=sgn odd (a+n*c)/\sgn odd (a+n*c)<=9223372036854775807:=by cases odd <;> simp only[gL,il] <;> omega
  have fbd3 : -9223372036854775808<=sgn odd (n*d)/\sgn odd (n*d)<=9223372036854775807:=by cases odd <;> simp only[gL,il] <;> omega
  have fbd4 : -9223372036854775808<=sgn (!odd) (b+n*d)/\sgn (!odd) (b+n*d)<=9223372036854775807:=by cases odd <;> simp only[aHK,aHt,gL,il] <;> omega
  have ne3:(((k1:Nat):Int) != ((k2:Nat):Int))=false:=by simp[c3]
  have body:∀ e0,ah (M+1) (qn N e0) (sgn odd a,sgn (!odd) b,sgn (!odd) c,sgn odd d,(p:Int),(q:Int)) =
    cond ((decide (sgn odd (a+n*c)>1073741824))==false) (cond ((decide (sgn odd (a+n*c)<(-1073741824)))==false) (cond ((decide (sgn (!odd) (b+n*d)>1073741824))==false) (cond (decide (sgn (!odd) (b+n*d)<(-1073741824))) (e0 (sgn odd a) (sgn (!odd) b) (sgn (!odd) c) (sgn odd d)) (ah M (qn N e0) (sgn (!odd) c,sgn odd d,sgn odd (a+n*c),sgn (!odd) (b+n*d),(q:Int),((p - n*q:Nat):Int)))) (e0 (sgn odd a) (sgn (!odd) b) (sgn (!odd) c) (sgn odd d))) (e0 (sgn odd a) (sgn (!odd) b) (sgn (!odd) c) (sgn odd d))) (e0 (sgn odd a) (sgn (!odd) b) (sgn (!odd) c) (sgn odd d)):=by
   intro e0;show qn N e0 _ (ah M _)=_;simp only[qn,hu1,hu2,ht1,ht2,d1,d2,ne3,aGS];rw[<- hn];simp only[icn,idn,e2,f2,inq,ipq];rw[ac aGO,n1,show(true==true)=true from rfl,aGT,ac aGO,n2,aGT,ac aGO,ac aGO,ac m1,ac aGO,ac aGO,ac aGO,ac m2,ac aGO,ac (af fbd1.1 fbd1.2),ac (af fbd2.1 fbd2.2),ac (af fbd3.1 fbd3.2),ac (af fbd4.1 fbd4.2),ac aGO,ac aGO]
  by_cases c4:a+n*c<=1073741824
  ·by_cases c5:b+n*d<=1073741824
   ·have q1:decide (sgn odd (a+n*c)>1073741824)=false:=aGR (by cases odd <;> simp only[gL,il] <;> omega);have q2:decide (sgn odd (a+n*c)<(-1073741824))=false:=aGR (by cases odd <;> simp only[gL,il] <;> omega);have q3:decide (sgn (!odd) (b+n*d)>1073741824)=false:=aGR (by cases odd <;> simp only[aHK,aHt,gL,il] <;> omega);have q4:decide (sgn (!odd) (b+n*d)<(-1073741824))=false:=aGR (by cases odd <;> simp only[aHK,aHt,gL,il] <;> omega);have hn1:1<=n:=by
     rw[hn,hk1];refine aJf ?_ (by omega);rcases hor with h | ⟨g1,g2,g3⟩
     ·obtain⟨z1,z2,z3,z4,z5,z6⟩:=h;subst z1 z2 z4;simp only[aHt,gL,il]at hu1 ht1;omega
     ·cases odd
      ·simp only[aGS]at g3;simp only[aHt,gL,il]at hu1 ht1;omega
      ·simp only[aGT]at g3;simp only[aHK,gL,il]at hu1 ht1;omega
    have hq0:1<=q\/q=0:=by omega
    have hlt:p - n*q<q:=by
     have s1:1*d<=n*d:=aGX _ hn1;have s2:1*c<=n*c:=aGX _ hn1;cases odd with
     | false=>
      simp only[aGS]at hnext;simp only[aHt,gL]at hu1;omega
     | true=>
      simp only[aGT]at hnext;simp only[gL]at hu2;omega
    obtain⟨a',b',c',d',odd',g1,g2⟩:=ih (p - n*q) hlt q c d (a+n*c) (b+n*d) (!odd) M (by omega)
     (by
      have s1:(b+n*d)*q=b*q+d*(n*q):=by grind
      have s2:d*(p - n*q)+d*(n*q)=d*p:=by rw[<- aG8]; congr 1; omega
      omega)
     (by
      have s1:(a+n*c)*q=a*q+c*(n*q):=by grind
      have s2:c*(p - n*q)+c*(n*q)=c*p:=by rw[<- aG8]; congr 1; omega
      omega)
     (by
      have s1:d*(a+n*c)=a*d+n*(c*d):=by grind
      have s2:c*(b+n*d)=b*c+n*(c*d):=by grind
      cases odd with
      | false=>simp only[aHt,aGT,aGS]at hdet ⊢; omega
      | true=>simp only[aHK,aGT,aGS]at hdet ⊢; omega)
     hc hd c4 c5 (by have s1:1*d<=n*d:=aGX _ hn1;omega) (by omega)
     (.inr ⟨hd1,(by
      rcases hor with h | ⟨z1,z2,z3⟩
      ·omega
      ·have s2:1*c<=n*c:=aGX _ hn1;omega),by
      cases odd with
      | false=>
       simp only[aGS]at hnext;simp only[aHt,gL,il,aGT]at hu1 hu2 ⊢;omega
      | true=>
       simp only[aGT]at hnext;simp only[aHK,gL,il,aGS]at hu1 hu2 ⊢;omega⟩)
    refine⟨a',b',c',d',odd',g1,λe0=>?_⟩;have:=g2 e0;rw[Bool.not_not]at this;rw[body,q1,q2,q3,q4];exact this
   ·refine stop _ λe0=>?_
    rw[body];cases odd with
    | false=>
     have q1:decide (sgn false (a+n*c)>1073741824)=false:=aGR (by simp only[il]; omega);have q2:decide (sgn false (a+n*c)<(-1073741824))=false:=aGR (by simp only[il]; omega);have q3:decide (sgn (!false) (b+n*d)>1073741824)=false:=aGR (by simp only[aHt,gL]; omega);have q4:decide (sgn (!false) (b+n*d)<(-1073741824))=true:=aGQ (by simp only[aHt,gL]; omega);rw[q1,q2,q3,q4];rfl
    | true=>
     have q1:decide (sgn true (a+n*c)>1073741824)=false:=aGR (by simp only[gL]; omega);have q2:decide (sgn true (a+n*c)<(-1073741824))=false:=aGR (by simp only[gL]; omega);have q3:decide (sgn (!true) (b+n*d)>1073741824)=true:=aGQ (by simp only[aHK,il]; omega);rw[q1,q2,q3];rfl
  ·refine stop _ λe0=>?_
   rw[body];cases odd with
   | false=>
    have q1:decide (sgn false (a+n*c)>1073741824)=true:=aGQ (by simp only[il]; omega);rw[q1];rfl
   | true=>
    have q1:decide (sgn true (a+n*c)>1073741824)=false:=aGR (by simp only[gL]; omega);have q2:decide (sgn true (a+n*c)<(-1073741824))=true:=aGQ (by simp only[gL]; omega);rw[q1,q2];rfl
 ·refine stop _ λe0=>?_
  show qn N e0 _ (ah M _)=_;simp only[qn,hu1,hu2,ht1,ht2,d1,d2];have:(((k1:Nat):Int) != ((k2:Nat):Int))=true:=by simp; omega
  rw[ac aGO,n1,show(true==true)=true from rfl,aGT,ac aGO,n2,aGT,ac aGO,ac aGO,ac m1,ac aGO,ac aGO,ac aGO,ac m2,ac aGO,this,aGT]
def Sm {N:Nat} (hN:1180591620717411303424<=N) {x0 y0:Nat} (hx0:x0<4611686018427387904) (hyx:y0<=x0):∃ a b c d:Nat,∃ odd,(b=0/\odd=false\/K1 x0 y0 a b c d odd) /\ ∀ k,JS N (x0:Int) (y0:Int) k=k (sgn odd a) (sgn (!odd) b) (sgn (!odd) c) (sgn odd d):=by obtain⟨a,b,c,d,odd,h1,h2⟩:=Qz (N:=N) (x0:=x0) (y0:=y0) hx0 (by omega) y0 x0 1 0 0 1 false N (by omega) (by omega) (by omega) rfl (by omega) (by omega) (by omega) (by omega) (by omega) (by omega) (.inl ⟨rfl,rfl,rfl,rfl,rfl,hyx⟩);refine⟨a,b,c,d,odd,h1,λk=>?_⟩;unfold JS ZF;rw[ac aGO,ac aGO];exact h2 _
def ai6 {a b c d X Y:Nat} (hdet:b*c=a*d+1) (g1:a*X<=b*Y) (g2:d*Y<=c*X):X=d*(b*Y - a*X)+b*(c*X - d*Y)/\Y=c*(b*Y - a*X)+a*(c*X - d*Y):=by
 obtain⟨U,hU⟩:=aIy g1;obtain⟨V,hV⟩:=aIy g2;rw[<- hU,<- hV,aHu,aHu];constructor
 ·have t1:d*(b*Y)=d*(a*X)+d*U:=by rw[<- hU,aG8]
  have t2:b*(c*X)=b*(d*Y)+b*V:=by rw[<- hV,aG8]
  have t3:b*(c*X)=(a*d+1)*X:=by rw[<- hdet,aG2]
  have t4:(a*d+1)*X=d*(a*X)+X:=by grind
  have t5:d*(b*Y)=b*(d*Y):=by grind
  omega
 ·have t1:c*(b*Y)=c*(a*X)+c*U:=by rw[<- hU,aG8]
  have t2:a*(c*X)=a*(d*Y)+a*V:=by rw[<- hV,aG8]
  have t3:c*(b*Y)=(a*d+1)*Y:=by rw[<- hdet]; grind
  have t4:(a*d+1)*Y=a*(d*Y)+Y:=by grind
  have t5:c*(a*X)=a*(c*X):=by grind
  omega
def Q3 {x0 y0 a b c d F rx ry X Y:Nat} (h:K1 x0 y0 a b c d true) (hrx:rx<F) (hry:ry<F) (hX:X=x0*F+rx) (hY:Y=y0*F+ry) :
  a*X<=b*Y/\d*Y<=c*X/\c*X - d*Y<=b*Y - a*X/\X=d*(b*Y - a*X)+b*(c*X - d*Y)/\Y=c*(b*Y - a*X)+a*(c*X - d*Y):=by
 obtain⟨p,q,h1,h2,hdet,hin,hb1,hc1,hd1,hal,hbl,hcl,hdl⟩:=h;simp only[aGT]at hdet hin;obtain⟨hdq,hpq⟩:=hin;have e1:b*Y+a*rx=a*X+(p*F+b*ry):=by
  subst h1 h2 hX hY;have:b*(c*p*F)=(a*d+1)*(p*F):=by rw[<- hdet]; grind
  grind
 have e2:c*X+d*ry=d*Y+(q*F+c*rx):=by
  subst h1 h2 hX hY;have:b*c*(q*F)=(a*d+1)*(q*F):=by rw[<- hdet]
  grind
 have m1:a*rx<=a*F:=aGZ _ (by omega);have m3:d*ry<=d*F:=aGZ _ (by omega);have m4:d*F<=q*F:=aGX _ hdq;have m5:(q+a+c)*F<=p*F:=aGX _ hpq;rw[aHf,aHf]at m5;have m6:c*rx<=c*F:=aGZ _ (by omega);have g1:a*X<=b*Y:=by omega
 have g2:d*Y<=c*X:=by omega
 obtain⟨i1,i2⟩:=ai6 hdet g1 g2;exact⟨g1,g2,by omega,i1,i2⟩
def Oi {x0 y0 a b c d F rx ry X Y:Nat} (h:K1 x0 y0 a b c d false) (hrx:rx<F) (hry:ry<F) (hX:X=x0*F+rx) (hY:Y=y0*F+ry) :
  b*Y<=a*X/\c*X<=d*Y/\d*Y - c*X<=a*X - b*Y/\X=d*(a*X - b*Y)+b*(d*Y - c*X)/\Y=c*(a*X - b*Y)+a*(d*Y - c*X):=by
 obtain⟨p,q,h1,h2,hdet,hin,hb1,hc1,hd1,hal,hbl,hcl,hdl⟩:=h;simp only[aGS]at hdet hin;obtain⟨hdq,hpq⟩:=hin;have e1:a*X+b*ry=b*Y+(p*F+a*rx):=by
  subst h1 h2 hX hY;have:a*d*(p*F)=(b*c+1)*(p*F):=by rw[<- hdet]
  grind
 have e2:d*Y+c*rx=c*X+(q*F+d*ry):=by
  subst h1 h2 hX hY;have:a*d*(q*F)=(b*c+1)*(q*F):=by rw[<- hdet]
  grind
 have m1:b*ry<=b*F:=aGZ _ (by omega);have m3:c*rx<=c*F:=aGZ _ (by omega);have m4:c*F<=q*F:=aGX _ hdq;have m5:(q+b+d)*F<=p*F:=aGX _ hpq;rw[aHf,aHf]at m5;have m6:d*ry<=d*F:=aGZ _ (by omega);have g1:b*Y<=a*X:=by omega
 have g2:c*X<=d*Y:=by omega
 refine⟨g1,g2,by omega,?_,?_⟩
 ·obtain⟨U,hU⟩:=aIy g1;obtain⟨V,hV⟩:=aIy g2;rw[<- hU,<- hV,aHu,aHu];have t1:d*(a*X)=d*(b*Y)+d*U:=by rw[<- hU,aG8]
  have t2:b*(d*Y)=b*(c*X)+b*V:=by rw[<- hV,aG8]
  have t3:d*(a*X)=(b*c+1)*X:=by rw[<- hdet]; grind
  have t4:(b*c+1)*X=b*(c*X)+X:=by grind
  have t5:d*(b*Y)=b*(d*Y):=by grind
  omega
 ·obtain⟨U,hU⟩:=aIy g1;obtain⟨V,hV⟩:=aIy g2;rw[<- hU,<- hV,aHu,aHu];have t1:c*(a*X)=c*(b*Y)+c*U:=by rw[<- hU,aG8]
  have t2:a*(d*Y)=a*(c*X)+a*V:=by rw[<- hV,aG8]
  have t3:a*(d*Y)=(b*c+1)*Y:=by rw[<- hdet]; grind
  have t4:(b*c+1)*Y=c*(b*Y)+Y:=by grind
  have t5:c*(a*X)=a*(c*X):=by grind
  omega
def JB {N X Y u v:Nat} (hN:1180591620717411303424<=N) (sX:(am X).length<=1099511627000) (sY:(am Y).length<=1099511627000) (hu:u<=1073741824) (hv:v<=1073741824) (hle:v*Y<=u*X) (k:Kz5) :
  V0 N (am X) (u:Int) (am Y) (v:Int) k=k (am (u*X - v*Y)):=by
 unfold V0 aai;have lu:=gl 1 u (by rw[aJO]; omega);have lv:=gl 1 v (by rw[aJO]; omega);have lX:=gl ((am X).length+1) (X*u) (by rw[aG3]; exact aHU (mW X) (by omega))
 rw[AN u (by omega) (by omega),Fj _ _ (bN _) (bN _) (by omega) (by omega),AN v (by omega) (by omega),Fj _ _ (bN _) (bN _) (by omega) (by omega),aS,aS,aS,aS,
  Fg _ _ (bN _) (bN _) (by rw[aS,aS,aGV X,aGV Y]; exact hle) ⟨by omega,by omega⟩,aS,aS,aGV X,aGV Y]
def F3 {N X Y u v:Nat} (hN:1180591620717411303424<=N) (sX:(am X).length<=1099511627000) (sY:(am Y).length<=1099511627000) (hu:u<=1073741824) (hv:v<=1073741824) (hle:v*Y<=u*X) (k:Kz5) :
  D_ N (am X) (u:Int) (am Y) (-(v:Int)) k=k (am (u*X - v*Y)):=by
 unfold D_ Ux;have w1:IntKind.wrap .u64 (u:Int)=(u:Int):=by rw[au]; omega
 have w2:IntKind.wrap .u64 (0 - -(v:Int))=(v:Int):=by rw[au]; omega
 rw[aGQ (by omega : -(v:Int)<=0),aGT,ac aGO,w1,w2,JB hN sX sY hu hv hle]
def F2 {N X Y u v:Nat} (hN:1180591620717411303424<=N) (sX:(am X).length<=1099511627000) (sY:(am Y).length<=1099511627000) (hu:u<=1073741824) (hv:v<=1073741824) (hv1:1<=v) (hle:u*X<=v*Y) (k:Kz5) :
  D_ N (am X) (-(u:Int)) (am Y) (v:Int) k=k (am (v*Y - u*X)):=by
 unfold D_ Ux;have w1:IntKind.wrap .u64 (v:Int)=(v:Int):=by rw[au]; omega
 have w2:IntKind.wrap .u64 (0 - -(u:Int))=(u:Int):=by rw[au]; omega
 rw[aGR (by omega:¬(v:Int)<=0),aGS,ac aGO,w1,w2,JB hN sY sX hv hu hle]
def OL {N:Nat} (hN:1180591620717411303424<=N) {S1 S2 S3 S4 S6} (e0:List Int->Bool):∀(b a M:Nat),b<M->(am a).length<=1099511627000->(am b).length<=1099511627000->ah M (Fx N S1 S2 S3 S4 (vY N) S6 e0) (am a,am b)=e0 (am (Nat.gcd a b)):=by
 intro b;induction b using Nat.strongRecOn with
 | ind b ih=>
 intro a M hM ha hb;obtain⟨M,rfl⟩:∃ m,M=m+1:=⟨M - 1,by omega⟩
 show Fx N S1 S2 S3 S4 _ S6 e0 (am a,am b) (ah M _)=_;simp only[Fx];by_cases h:b=0
 ·subst h;have:(((am 0).length:Nat):Int)=0:=by rw[bG]; rfl
  rw[this,aGR (by omega),aGS,aJn]
 ·have hp:0<(am b).length:=by rw[fQ h]; simp
  have hm:=aG6 a (by omega:b>0);have hml:=eG (Nat.le_of_lt hm);rw[aGQ (by omega),aGT,AL hN (by omega) ha hb,ih (a%b) hm b M (by omega) hb (by omega),aH7 b,<- aJP,aH7]
def xW {N V f:Nat} (hf:f<140737488355328) (hs:(am V).length+3<N/\(am V).length<=1099511627000) (k:Kz5):CR N (am V) (f:Int) k=k (am (V / 2 ^ f)):=by
 have hm:=bN V;have hmv:=aS V;unfold CR an3;obtain⟨hN1,hN2⟩:=hs;have ew:IntKind.wrap .u64 (Int.tdiv (f:Int) 32)=((f / 32:Nat):Int):=by rw[au,aHT (by omega)]; omega
 have es:Int.tmod (f:Int) 32=((f%32:Nat):Int):=by rw[aHL (by omega)]; rfl
 rw[ew,es,ac aGO];have hp2:2 ^ f=4294967296 ^ (f / 32)*2 ^ (f%32):=D4 f;obtain⟨w,hw⟩:∃ w,w=f / 32:=⟨_,rfl⟩
 obtain⟨s,hsh⟩:∃ s,s=f%32:=⟨_,rfl⟩
 rw[<- hw,<- hsh]at hp2 ⊢;have hs32:s<32:=by omega
 have hs0:0<2 ^ s:=aG5 s;obtain⟨m,hme⟩:∃ m,m=am V:=⟨_,rfl⟩
 rw[<- hme]at hm hmv hN1 hN2 ⊢;by_cases h0:m.length<=w
 ·rw[aGQ (by omega:((w:Nat):Int)>=m.length),aGT];have h1:=jU hm;rw[hmv]at h1;have h2:4294967296 ^ m.length<=4294967296 ^ w:=aG7 (by decide) h0;have h3:V / 2 ^ f=0:=by rw[hp2];refine aHm ?_;have:4294967296 ^ w*1<=4294967296 ^ w*2 ^ s:=aGZ _ hs0;omega
  rw[h3,bG]
 ·rw[aGR (by omega:¬((w:Nat):Int)>=m.length),aGS];obtain⟨Z,hZ⟩:∃ Z,Z=V / 2 ^ f:=⟨_,rfl⟩
  have elen:Int.toNat ((m.length:Int) - ((w:Nat):Int))=m.length - w:=by omega
  rw[elen,ac aGO,ac (fZ (by omega) (by omega) (by omega) (by omega)),<- hZ];obtain⟨L,hL⟩:∃ L,L=m.length - w:=⟨_,rfl⟩
  rw[<- hL];refine aM (λi=>((i:Int),dl Z i++List.replicate (L - i) 0)) L (by simp[dl]) (by omega) (λi hi K=>?_) (λK=>?_)
  ·have hx:=hm.at (i:=w+i);have hy:=hm.at (i:=w+i+1);have hset:=IW Z i L (by omega);have hl:(dl Z i++List.replicate (L - i) 0).length=L:=by simp[aq]; omega
   have ei:Int.toNat ((w:Int)+(i:Int))=w+i:=by omega
   have ei1:Int.toNat ((w:Int)+(i:Int)+1)=w+i+1:=by omega
   have emin:min s 64=s:=by omega
   obtain⟨R,hR⟩:=Lp hm (w+i);rw[hmv]at hR;have hdig:Z / 4294967296 ^ i%4294967296=((m.getD (w+i) 0).toNat+4294967296*(m.getD (w+i+1) 0).toNat) / 2 ^ s%4294967296:=by
    rw[hZ,hp2,aGY];have e1:4294967296 ^ w*2 ^ s*4294967296 ^ i=4294967296 ^ (w+i)*2 ^ s:=by rw[aG_,aG2,aGV (2 ^ s),<- aG2]
    rw[e1,<- aGY,hR];have e2:4294967296*4294967296*R=2 ^ s*(4294967296*(2 ^ (32 - s)*R)):=by
     have hs1:2 ^ s*2 ^ (32 - s)=4294967296:=by rw[<- aG_,show s+(32 - s)=32 by omega]
     rw[aHi (2 ^ s),<- aG2 (2 ^ s),hs1,aG2]
    rw[e2,aHP _ _ hs0,aH8]
   have hfin:∀ z:Int,z=(((m.getD (w+i) 0).toNat+4294967296*(m.getD (w+i+1) 0).toNat:Nat):Int)->IntKind.wrap .u32 (Int.fdiv z (2 ^ s))=((Z / 4294967296 ^ i%4294967296:Nat):Int):=by
    intro z hz;have e:(2:Int) ^ s=((2 ^ s:Nat):Int):=by simp
    rw[hdig,hz,e,aIl _ (by omega),iw];rfl
   simp only[NJ,aGU,ei,ei1,emin,hl];rw[aGQ (by omega:(i:Int)<L),aGT,ac aGO,ac aGP,ac aGO,ac aGO];by_cases hlast:w+i+1<m.length
   ·rw[aGQ (by omega:(w:Int)+(i:Int)+1<m.length),aGT,ac aGO,ac aGO,ac aGP,ac (aGQ (by omega)),ac aGP,ac (aGQ (by omega)),ac aGO];have e1:IntKind.wrap .u64 (m.getD (w+i) 0)=(((m.getD (w+i) 0).toNat:Nat):Int):=by rw[au]; omega
    have e2:IntKind.wrap .u64 (IntKind.wrap .u64 (m.getD (w+i+1) 0)*2 ^ 32)=((2 ^ 32*(m.getD (w+i+1) 0).toNat:Nat):Int):=by
     have:(2:Int) ^ 32=4294967296:=by decide
     have:(2:Nat) ^ 32=4294967296:=by decide
     rw[au,au]; omega
    have p32:(2:Nat) ^ 32=4294967296:=by decide
    rw[e1,e2,gj _ _ 32 (by omega) (by omega),hfin _ (by omega),hset,oT]
   ·rw[aGR (by omega:¬(w:Int)+(i:Int)+1<m.length),aGS,ac (aGQ (by omega)),ac aGP,ac (aGQ (by omega)),ac aGO];have hz:m.getD (w+i+1) 0=0:=jr (by omega);have e1:IntKind.wrap .u64 (m.getD (w+i) 0)=(((m.getD (w+i) 0).toNat:Nat):Int):=by rw[au]; omega
    rw[e1,hfin _ (by rw[hz]; simp),hset,oT]
  ·simp only[NJ];have hl:(dl Z L++List.replicate (L - L) 0).length=L:=by simp[aq]
   rw[aGR (by omega:¬((L:Nat):Int)<(((dl Z L++List.replicate (L - L) (0:Int)).length:Nat):Int)),aGS,aHq,aHp,aHn];have hVl:Z<4294967296 ^ L:=by have h1:=jU hm;rw[hmv]at h1;rw[hZ,aG0 (aG5 f),hp2,<- aG2,<- aG_,show L+w=m.length by omega];have:4294967296 ^ m.length*1<=4294967296 ^ m.length*2 ^ s:=aGZ _ hs0;omega
   rw[iG _ (nd Z _) (by rw[aq]; omega) (by rw[aq]; omega),xx hVl]
def FN {N:Nat} (hN:1180591620717411303424<=N) {u v:List Int} (k:Kz5) :
  ∀ s x y,x+y=s->s<N->y<=x->(am x).length<=134217728000 ->
   N_ N (w7 N) (Be N) (JT N) (JS N) (vY N) (D_ N) u v (am x) (am y) k=k (am (Nat.gcd x y)):=by
 intro s x y hs hsN hyx hxl;unfold N_;have main:∀ s x y M,x+y=s->s<M->M<=N->y<=x->(am x).length<=134217728000 ->
   ah M (Kb N (w7 N) (Be N) (JT N) (JS N) (vY N) (D_ N) (λ(a_3:List Int) (b_3:List Int)=>(ah N (Fx N (w7 N) (Be N) (JT N) (JS N) (vY N) (D_ N) (λ(a_5:List Int)=>((decide ((List.length ([]++a_5))*4<=140737488355328))&&(k ([]++a_5))))) (a_3,b_3)))) (am x,am y)=k (am (Nat.gcd x y)):=by
  intro s;induction s using Nat.strongRecOn with
  | ind s ih=>
  intro x y M hs hsM hMN hyx hxl;obtain⟨M,rfl⟩:∃ m,M=m+1:=⟨M - 1,by omega⟩
  have hyl:=eG hyx;show Kb N _ _ _ _ _ _ _ (am x,am y) (ah M _)=_;simp only[Kb];by_cases h2:3<=(am y).length
  ·have hyge:18446744073709551616<=y:=by
    rcases aHN y 18446744073709551616 with h | h
    ·have:=gl 2 y (by
      have:(4294967296:Nat) ^ 2=18446744073709551616:=by decide
      omega)
     omega
    ·exact h
   have hblx:64<bl x:=by
    rcases aHN 64 (bl x)with h | h
    ·exact h
    ·have h1:=FK x;have h3:2 ^ bl x<=2 ^ 64:=aG7 (by decide) h;rw[uu]at h3;omega
   have hblu:bl x<=32*(am x).length:=by refine Ds ?_;rw[aJJ,M5]; exact mW x
   obtain⟨f,hf⟩:∃ f,bl x=f+62:=⟨bl x - 62,by omega⟩
   have ef:(bl x:Int) - 62=(f:Int):=by omega
   have hF0:0<2 ^ f:=aG5 f;have p62:(2:Nat) ^ 62=4611686018427387904:=by decide
   have hx0l:x / 2 ^ f<4611686018427387904:=by rw[aG0 hF0,<- p62,<- aG_,aIJ,<- hf]; exact FK x
   have hy0l:y / 2 ^ f<=x / 2 ^ f:=aI7 hyx;rw[aGQ (by omega),aGT,Jp false x ⟨by omega,by omega⟩,ef,ac aGO,
    PD (by omega) (by omega) ⟨by omega,by omega⟩ (.inr trivial) (by omega) (λkk=>xW (by omega) ⟨by omega,by omega⟩ kk),
    PD (by omega) (by omega) ⟨by omega,by omega⟩ (.inr trivial) (by omega) (λkk=>xW (by omega) ⟨by omega,by omega⟩ kk)]
   obtain⟨a,b,c,d,odd,g1,g2⟩:=Sm hN hx0l hy0l;rw[g2];rcases g1 with⟨hb0,ho⟩ | hgood
   ·subst hb0 ho;have e0:(sgn (!false) 0==0)=true:=rfl;have hm:=aG6 x (by omega:y>0);rw[e0,aGT,AL hN (by omega) (by omega) (by omega),ih (y+x%y) (by omega) y (x%y) M rfl (by omega) (by omega) (by omega) (by omega),aH7 y,<- aJP,aH7]
   ·obtain⟨p,q,z1,z2,z3,z4,hb1,hc1,hd1,hal,hbl,hcl,hdl⟩:=id hgood;have fin:∀ U V:Nat,x=d*U+b*V->y=c*U+a*V->V<=U->U+V<x+y/\U<=x:=by
     intro U V hx hy hvu;have k1:1*U<=d*U:=aGX _ hd1;have k2:1*V<=b*V:=aGX _ hb1;have k3:1*U<=c*U:=aGX _ hc1;have hU0:0<U:=by
      rcases aHY U with hu | hu
      ·exfalso;have hv:V=0:=by omega
       rw[hu,hv,aIb,aIb]at hy;omega
      ·exact hu
     exact⟨by omega,by omega⟩
    cases odd with
    | true=>
     obtain⟨f1,f2,f3,f4,f5⟩:=Q3 hgood (aG6 x hF0) (aG6 y hF0) (aHQ x (2 ^ f)).symm (aHQ y (2 ^ f)).symm;obtain⟨w1,w2⟩:=fin _ _ f4 f5 f3;have hgc:=DA f4 f5 (aJh (aHe (aH4 _ _) _) (aHe (aHI _ _) _)) (aJh (aHe (aHI _ _) _) (aHe (aH4 _ _) _));have hUl:=eG w2;have e0:(sgn (!true) b==0)=false:=by simp only[aHK,il]; simp; omega
     have s1:sgn true a = -(a:Int):=rfl;have s2:sgn (!true) b=(b:Int):=rfl;have s3:sgn (!true) c=(c:Int):=rfl;have s4:sgn true d = -(d:Int):=rfl;rw[e0,aGS,s1,s2,s3,s4,F2 hN (by omega) (by omega) hal hbl hb1 f1,F3 hN (by omega) (by omega) hcl hdl f2,ih _ (by omega) _ _ M rfl (by omega) (by omega) f3 (by omega),hgc]
    | false=>
     obtain⟨f1,f2,f3,f4,f5⟩:=Oi hgood (aG6 x hF0) (aG6 y hF0) (aHQ x (2 ^ f)).symm (aHQ y (2 ^ f)).symm;obtain⟨w1,w2⟩:=fin _ _ f4 f5 f3;have hgc:=DA f4 f5 (aJh (aHe (aHI _ _) _) (aHe (aH4 _ _) _)) (aJh (aHe (aH4 _ _) _) (aHe (aHI _ _) _));have hUl:=eG w2;have e0:(sgn (!false) b==0)=false:=by simp only[aHt,gL]; simp; omega
     have s1:sgn false a=(a:Int):=rfl;have s2:sgn (!false) b = -(b:Int):=rfl;have s3:sgn (!false) c = -(c:Int):=rfl;have s4:sgn false d=(d:Int):=rfl;rw[e0,aGS,s1,s2,s3,s4,F3 hN (by omega) (by omega) hal hbl f1,F2 hN (by omega) (by omega) hcl hdl hd1 f2,ih _ (by omega) _ _ M rfl (by omega) (by omega) f3 (by omega),hgc]
  ·rw[aGR (by omega),aGS,OL hN _ y x N (by omega) (by omega) (by omega),aHG];have hgl:(am (Nat.gcd x y)).length<=134217728000:=by
    by_cases h0:x=0
    ·have hy0:y=0:=by omega
     rw[h0,hy0,aJn,bG]; simp
    ·have:=eG (Nat.gcd_le_left y (aJo h0));omega
   rw[ac (aGQ (by omega))]
 exact main s x y N hs hsN (aG4 _) hyx hxl
def R9 {N:Nat} (hN:1180591620717411303424<=N) {x y:Nat} (hf:x+y<N) (hxl:(am x).length<=134217728000) (hyl:(am y).length<=134217728000) (k:Kz5):GK N (am x) (am y) k=k (am (Nat.gcd x y)):=by
 unfold GK aaF;rw[ob x y ⟨by omega,by omega⟩ ⟨by omega,by omega⟩];by_cases h:x<y
 ·have hc:decide (iW x y<0)=true:=by unfold iW; rw[if_pos h]; rfl
  rw[hc,aGT,FN hN _ (y+x) y x rfl (by omega) (by omega) hyl,aH7]
 ·have hc:decide (iW x y<0)=false:=by unfold iW; rw[if_neg h]; split <;> rfl
  rw[hc,aGS,FN hN _ (x+y) x y rfl hf (by omega) hxl]
def Gq {a b:Nat} (ha:a<4294967296) (hb:b<4294967296):aF .and .u32 (a:Int) (b:Int)=((a &&& b:Nat):Int):=by
 unfold aF yr;simp only[aHz];have h32:(2:Nat) ^ 32=4294967296:=by decide
 have e:((BitVec.ofInt (IntKind.bits .u32) (a:Int)) &&& (BitVec.ofInt (IntKind.bits .u32) (b:Int))).toNat=a &&& b:=by show((BitVec.ofInt 32 (a:Int)) &&& (BitVec.ofInt 32 (b:Int))).toNat=_;rw[aJy,aH0,aH0,aH6,aH6,aG1 (by omega),aG1 (by omega)]
 have hl:a &&& b<4294967296:=aIt Nat.and_le_left ha;rw[e,QJ _ hl]
def WO {t c:Nat} (h:2 ^ t*(2*c+1)<2 ^ 32):(2 ^ t*(2*c+1)) &&& (2 ^ 32 - 2 ^ t*(2*c+1))=2 ^ t:=by
 have ht0:0<2 ^ t:=aG5 t;have ht:t<32:=by
  rcases aHN t 32 with h1 | h1
  ·exact h1
  ·have h2:2 ^ 32<=2 ^ t:=aG7 (by decide) h1;have h3:2 ^ t*1<=2 ^ t*(2*c+1):=aGZ _ (by omega);omega
 have e1:2 ^ t*(2*c+1)=(2 ^ t*(2*c)+(2 ^ t - 1))+1:=by rw[aG8]; omega
 refine aI5 λj=>?_
 rw[aJL];have e2:(2 ^ 32 - 2 ^ t*(2*c+1)).testBit j=(decide (j<32) && !(2 ^ t*(2*c)+(2 ^ t - 1)).testBit j):=by
  conv=>lhs; rw[e1]
  exact aJC (by rw[e1]at h; omega) j
 rw[e2,Nat.testBit_two_pow_mul,aJM _ (by omega),aIG];rcases aIM j t with hj | hj | hj
 ·rw[aGR (by omega:¬ j>=t),aGR (by omega:¬ t=j)]; rfl
 ·subst hj;rw[if_neg (by omega),aHq,aGQ (aG4 _),aGQ ht,aGQ rfl];have a1:(2*c+1).testBit 0=true:=by rw[aJz]; simp
  have a2:(2*c).testBit 0=false:=by rw[aJz]; simp
  rw[a1,a2]; rfl
 ·obtain⟨k,hk⟩:∃ k,j - t=k+1:=⟨j - t - 1,by omega⟩
  rw[if_neg (by omega),hk,aGQ (by omega:j>=t),aGR (by omega:¬ t=j),aJA,aJA];have a1:(2*c+1) / 2=c:=by omega
  have a2:2*c / 2=c:=by omega
  rw[a1,a2];cases c.testBit k <;> simp
def agS:∀ t:Fin 32,(inR (Int.fdiv (IntKind.wrap .u32 (((2 ^ t.val:Nat):Int)*125613361)) (2 ^ 27)) 32=true)/\(List.getD Gk (Int.toNat (Int.fdiv (IntKind.wrap .u32 (((2 ^ t.val:Nat):Int)*125613361)) (2 ^ 27))) 0=(t.val:Int)):=by decide +kernel
def adZ (N:Nat) {t c:Nat} (h:2 ^ t*(2*c+1)<4294967296) (k:Kz1):ajF N ((2 ^ t*(2*c+1):Nat):Int) k=k (t:Int):=by
 have h32:(2:Nat) ^ 32=4294967296:=by decide
 have ht0:0<2 ^ t:=aG5 t;have hx0:0<2 ^ t*(2*c+1):=aIO ht0 (by omega);have ht:t<32:=by
  rcases aHN t 32 with h1 | h1
  ·exact h1
  ·have h2:2 ^ 32<=2 ^ t:=aG7 (by decide) h1;have h3:2 ^ t*1<=2 ^ t*(2*c+1):=aGZ _ (by omega);omega
 unfold ajF aaC;have ha:=WO (t:=t) (c:=c) (by omega);rw[h32]at ha;generalize 2 ^ t*(2*c+1)=x at *;have e0:((x:Int)==0)=false:=by simp; omega
 have ew:IntKind.wrap .u32 (0 - (x:Int))=((4294967296 - x:Nat):Int):=by rw[iw]; omega
 obtain⟨t1,t2⟩:=agS ⟨t,ht⟩;rw[e0,aGS,ew,Gq h (by omega),ha,ac t1,t2,ac aGO]
def abv {t c:Nat}:2 ^ t*(2*c+1) / 4294967296 ^ (t / 32)%4294967296=2 ^ (t%32)*(2*(c%2 ^ (31 - t%32))+1):=by
 have hs1:2 ^ (t%32)*2 ^ (32 - t%32)=4294967296:=by rw[<- aG_,show t%32+(32 - t%32)=32 by omega]
 rw[D4 t,aG2,aHs _ (bv _),<- hs1,aIC];congr 1;have e1:2 ^ (32 - t%32)=2*2 ^ (31 - t%32):=by rw[show 32 - t%32=(31 - t%32)+1 by omega,aG3,aGV]
 rw[e1];have e2:=aI0 c (2 ^ (31 - t%32));generalize 2 ^ (31 - t%32)=P at *;generalize c / P=q at *;have hP:c%P<P\/P=0:=by
  rcases aHY P with h | h
  ·exact .inr h
  ·exact .inl (aG6 _ h)
 generalize c%P=r at *;have e3:2*c+1=(2*r+1)+2*P*q:=by rw[<- e2]; grind
 rw[e3,aH8];rcases hP with h | h
 ·exact aG1 (by omega)
 ·subst h; simp
def RA {t c i:Nat} (hi:i<t / 32):2 ^ t*(2*c+1) / 4294967296 ^ i%4294967296=0:=by
 have e:2 ^ t*(2*c+1)=4294967296 ^ (i+1)*(4294967296 ^ (t / 32 - (i+1))*(2 ^ (t%32)*(2*c+1))):=by rw[D4 t,<- aG2,<- aG_,show i+1+(t / 32 - (i+1))=t / 32 by omega,aG2]
 rw[e,aG3,aG2,aHs _ (bv i),aJX]
def Jw {N:Nat} {t c:Nat} (g:Bool) (hN:kj N (am (2 ^ t*(2*c+1)))) (ht:t<140737488355328) (k:Kz1):D7 N g (am (2 ^ t*(2*c+1))) k=k (t:Int):=by
 unfold D7 anl;obtain⟨n1,n2⟩:=hN;have hd:=abv (t:=t) (c:=c);have hgd:=λi=>tv i (2 ^ t*(2*c+1))
 have hlt:2 ^ t*(2*c+1) / 4294967296 ^ (t / 32)%4294967296<4294967296:=aG6 _ (by decide);have hwl:t / 32<(am (2 ^ t*(2*c+1))).length:=by
  refine Vb λh=>?_
  rw[h,Nat.zero_mod]at hd;have:=aIO (aG5 (t%32)) (show 0<2*(c%2 ^ (31 - t%32))+1 by omega);omega
 have hbel:=λi=>RA (t:=t) (c:=c) (i:=i)
 generalize am (2 ^ t*(2*c+1))=l at *;refine aM (λi=>(i:Int)) (t / 32) rfl (by omega) (λi hi K=>?_) (λK=>?_)
 ·simp only[Nw,aGU];have hz:(l.getD i 0 != 0)=false:=by rw[hgd,hbel i hi]; rfl
  rw[aGQ (by omega:(i:Int)<((l.length:Nat):Int)),aGT,ac aGP,hz,aGS,ac aGO];rfl
 ·simp only[Nw,aGU];have hp:=aIO (aG5 (t%32)) (show 0<2*(c%2 ^ (31 - t%32))+1 by omega);have hz:(l.getD (t / 32) 0 != 0)=true:=by rw[hgd,hd]; simp only[bne_iff_ne,ne_eq]; omega
  rw[aGQ (by omega:((t / 32:Nat):Int)<((l.length:Nat):Int)),aGT,ac aGP,hz,aGT,ac aGO,ac aGP,hgd,hd,adZ N (by rw[<- hd]; exact hlt),ac aGO];congr 1;rw[au]; omega
def krR (z:Int) (d:Nat) (k:Kx6):Bool:=k (decide (z<0)) (am z.natAbs) false (am d)
def kqR (x:Rat) (k:Kx6):Bool:=krR x.num x.den k
def adS (g:Bool) (n d:Nat) (k:Kx6):k (sg g n) (am n) false (am d)=krR (bB g n) d k:=AU g n (λa b=>k a b false (am d))
def yx {B n:Nat} (hB:B<=2000000000100) (h:bg B n):(am n).length<=62500000006:=by have:=IE h; omega
def yg {N B n:Nat} (hF:Fuel N) (hB:B<=2000000000100) (h:bg B n):kj N (am n):=by have h1:=yx hB h;have:=hF.lt;exact⟨by omega,by omega⟩
def SF (g:Bool) (n d:Nat) (h0:0<d):(mkRat (bB g n) d).num=bB g (n / Nat.gcd n d)/\(mkRat (bB g n) d).den=d / Nat.gcd n d:=by
 have e:(bB g n).natAbs=n:=by unfold bB; cases g <;> simp
 have hg:0<Nat.gcd n d:=aHZ _ h0;constructor
 ·rw[aJ0,if_neg (by omega),e,aH7];have hh:((Nat.gcd n d:Nat):Int) ≠ 0:=by omega
  have e2:bB g n=((Nat.gcd n d:Nat):Int)*bB g (n / Nat.gcd n d):=by
   have hnn:n=Nat.gcd n d*(n / Nat.gcd n d):=(Nat.mul_div_cancel' (aHI n d)).symm;have hc:(n:Int)=((Nat.gcd n d:Nat):Int)*((n / Nat.gcd n d:Nat):Int):=by rw[<- aHa,<- hnn]
   unfold bB;cases g
   ·simpa using hc
   ·simp only[aIr]; rw[hc,aJK]
  rw[e2,aIN _ hh]
 ·rw[aJ1,if_neg (by omega),e,aH7]
def RY (g:Bool) (n m:Nat):bB g (n*m)=bB g n*(m:Int):=by
 unfold bB; cases g
 ·simp
 ·simp[aJZ]
def aqF {t c u e:Nat} (h:2 ^ (u - min t u)*(2*e+1)<2 ^ (u - min t u+1)):Nat.gcd (2 ^ (t - min t u)*(2*c+1)) (2 ^ (u - min t u)*(2*e+1))=1:=by
 have he:e=0:=by
  rcases aHY e with h1 | h1
  ·exact h1
  ·have:2 ^ (u - min t u)*2<=2 ^ (u - min t u)*(2*e+1):=aGZ _ (by omega);rw[aG3]at h; omega
 subst he;rw[aIb,aHk,aIF];rcases Nat.le_total t u with h1 | h1
 ·rw[aIc h1,aHq,aIK,aIS];refine Nat.Coprime.pow_right _ ?_;show Nat.gcd (2*c+1) 2=1;rw[aH7,aJP];have:(2*c+1)%2=1:=by omega
  rw[this]; rfl
 ·rw[Nat.min_eq_right h1,aHq,aIK,Nat.gcd_one_right]
def QB {t m c:Nat} (h:m<=t):2 ^ t*(2*c+1) / 2 ^ m=2 ^ (t - m)*(2*c+1):=by
 have:2 ^ t=2 ^ m*2 ^ (t - m):=by rw[<- aG_]; congr 1; omega
 rw[this,aG2,aHs _ (aG5 m)]
def Wp {B t c:Nat} (h:bg B (2 ^ t*(2*c+1))):t<B:=by
 unfold bg at h;have h1:2 ^ t*1<=2 ^ t*(2*c+1):=aGZ _ (by omega);have h2:2 ^ t<2 ^ B:=by omega
 exact(Nat.pow_lt_pow_iff_right (by decide)).1 h2
def aom {t c:Nat}:bl (2 ^ t*(2*c+1))=t+1↔2 ^ t*(2*c+1)<2 ^ (t+1):=by
 have hp:=aG5 t;have h0:2 ^ t*(2*c+1) ≠ 0:=by have:=aIO hp (show 0<2*c+1 by omega); omega
 constructor
 ·intro h; have:=FK (2 ^ t*(2*c+1)); rwa [h]at this
 ·intro h;have h1:=Ds h;have h2:=FK (2 ^ t*(2*c+1));have h3:2 ^ t*1<=2 ^ t*(2*c+1):=aGZ _ (by omega);have h4:2 ^ t<2 ^ bl (2 ^ t*(2*c+1)):=by omega
  have:=(Nat.pow_lt_pow_iff_right (by decide:1<2)).1 h4;omega
def kT {N B n:Nat} (hF:Fuel N) (hB:B<=2000000000100) (h:bg B n) (k:Kz5):Gf N (am n) k=k (am n):=by have h1:=yx hB h;have:=hF.lt;rw[U7 _ (bN n) (by omega) (by omega),aS]
def LQ {N B:Nat} (hF:Fuel N) (hB:B<=2000000000100) (g:Bool) {n d:Nat} (hn:bg B n) (hd:bg B d) (hn0:n ≠ 0) (hd0:d ≠ 0) (J:List Int->List Int->Bool) (k:Kx6)
  (hJ:∀ a b:Nat,bg B a->bg B b->J (am a) (am b)=k (sg g a) (am a) false (am b)) :
  (D7 N false (am n) (λ(nr:Int)=>(D7 N false (am d) (λ(aur:Int)=>
   (CR N (am n) (cond (decide (aur<nr)) aur nr) (λ(auv:List Int)=>(CR N (am d) (cond (decide (aur<nr)) aur nr) (λ(auu:List Int)=>(D7 N false auu (λ(aut:Int)=>((aj .i64 aut)&&(Be N false auu (λ(avw:Int)=>((aj .i64 (avw - 1))&&(cond (aut != (avw - 1)) (GK N auv auu (λ(s6:List Int)=>(rh N (λ(s7:List Int)=>(w7 N s6 s7 (λ(awc:Int)=>(cond (awc != 0) (vY N auv s6 (λ(s8:List Int) (s9:List Int)=>(vY N auu s6 (λ(s10:List Int) (s11:List Int)=>(J s8 s10))))) (J auv auu)))))))) (J auv auu))))))))))))))))
   = kqR (mkRat (bB g n) d) k:=by
 have hl:=hF.lt;have hbig:=hF.big;obtain⟨t,c,hnt⟩:=JK n hn0;obtain⟨u,e,hdu⟩:=JK d hd0;have htB:t<B:=Wp (by rw[<- hnt]; exact hn);have huB:u<B:=Wp (by rw[<- hdu]; exact hd);have sn:=yg hF hB hn;have sd:=yg hF hB hd;have ln:=yx hB hn;have ld:=yx hB hd;have z1:=λkk=>Jw (N:=N) (t:=t) (c:=c) false (by rw[<- hnt]; exact sn) (by omega) kk
 have z2:=λkk=>Jw (N:=N) (t:=u) (c:=e) false (by rw[<- hdu]; exact sd) (by omega) kk
 rw[<- hnt]at z1;rw[<- hdu]at z2;rw[z1,z2];obtain⟨m,hm⟩:∃ m,m=min t u:=⟨_,rfl⟩
 have em:cond (decide ((u:Int)<(t:Int))) (u:Int) (t:Int)=(m:Int):=by
  by_cases h:u<t
  ·rw[aGQ (by omega),aGT,hm,Nat.min_eq_right (by omega)]
  ·rw[aGR (by omega),aGS,hm,aIc (by omega)]
 rw[em,xW (by omega) ⟨by omega,by omega⟩,xW (by omega) ⟨by omega,by omega⟩];have ha:n / 2 ^ m=2 ^ (t - m)*(2*c+1):=by rw[hnt]; exact QB (by rw[hm]; exact Nat.min_le_left _ _)
 have hb:d / 2 ^ m=2 ^ (u - m)*(2*e+1):=by rw[hdu]; exact QB (by rw[hm]; exact aJ4 _ _)
 have hbn:bg B (n / 2 ^ m):=eE hn;have hbd:bg B (d / 2 ^ m):=eE hd;have hmk:mkRat (bB g n) d=mkRat (bB g (n / 2 ^ m)) (d / 2 ^ m):=by
  have e1:n=n / 2 ^ m*2 ^ m:=by
   rw[ha,hnt,aJT,<- aG_];congr 2; have:m<=t:=by rw[hm]; exact Nat.min_le_left _ _
   omega
  have e2:d=d / 2 ^ m*2 ^ m:=by
   rw[hb,hdu,aJT,<- aG_];congr 2; have:m<=u:=by rw[hm]; exact aJ4 _ _
   omega
  conv=>lhs; rw[e1,e2,RY]
  rw[Rat.mkRat_mul_right (by have:=aG5 m; omega)]
 rw[hmk];obtain⟨a,hae⟩:∃ a,a=n / 2 ^ m:=⟨_,rfl⟩
 obtain⟨b,hbe⟩:∃ b,b=d / 2 ^ m:=⟨_,rfl⟩
 rw[<- hae]at ha hbn ⊢;rw[<- hbe]at hb hbd ⊢;have hb0:0<b:=by rw[hb]; exact aIO (aG5 _) (by omega)
 have z3:=λkk=>Jw (N:=N) (t:=u - m) (c:=e) false (by rw[<- hb]; exact yg hF hB hbd) (by omega) kk
 rw[<- hb]at z3;have hblb:bl b<=B:=Ds hbd;have hbl0:0<bl b:=(aa5 (by omega)).1;rw[z3,ac aGO,Jp false b (yg hF hB hbd),ac aGO];obtain⟨i1,i2⟩:=SF g a b hb0;unfold kqR;rw[i1,i2];have fin1:Nat.gcd a b=1->J (am a) (am b)=krR (bB g (a / Nat.gcd a b)) (b / Nat.gcd a b) k:=by intro h;rw[hJ a b hbn hbd,adS _ _ _ k,h,aIH,aIH]
 by_cases hp:bl b=u - m+1
 ·have:(((u - m:Nat):Int) != (bl b:Int) - 1)=false:=by simp; omega
  rw[this,aGS];refine fin1 ?_;rw[ha,hb,hm];refine aqF ?_;rw[<- hm];rw[hb]at hp;exact aom.1 hp
 ·have:(((u - m:Nat):Int) != (bl b:Int) - 1)=true:=by simp; omega
  have la:=yx hB hbn;have lb:=yx hB hbd;have hgp:0<Nat.gcd a b:=aHZ _ hb0;have hgb:bg B (Nat.gcd a b):=qz hbd (aIQ _ hb0);have lg:=yx hB hgb;have e1:am 1=[1]:=Az (by decide) (by decide);rw[this,aGT,R9 hbig (hF.sum (by omega) hbn hbd) (by omega) (by omega)];unfold rh N3;dsimp only;rw[<- e1,ob _ 1 ⟨by omega,by omega⟩ ⟨by rw[e1]; simp; omega,by rw[e1]; simp⟩];by_cases hc:Nat.gcd a b=1
  ·have:(iW (Nat.gcd a b) 1 != 0)=false:=by rw[hc]; rfl
   rw[this,aGS];exact fin1 hc
  ·have:(iW (Nat.gcd a b) 1 != 0)=true:=by unfold iW; rw[if_neg (by omega),if_neg hc]; rfl
   rw[this,aGT,AL hbig hgp (by omega) (by omega),AL hbig hgp (by omega) (by omega),hJ _ _ (eE hbn) (eE hbd),adS _ _ _ k]
def OM {α:Type} (c:Bool) (f:α->Bool) (a b:α):cond c (f a) (f b)=f (cond c a b):=by cases c <;> rfl
def AK {N B:Nat} (hF:Fuel N) (hB:B<=2000000000100) (g:Bool) {n d:Nat} (hn:bg B n) (hd:bg B d) (hd0:d ≠ 0) (b1 b2:Bool) (k:Kx6) :
  S0 N g (am n) (am d) b1 b2 k=kqR (mkRat (bB g n) d) k:=by
 have hl:=hF.lt;have hJ:∀ a b:Nat,bg B a->bg B b -> ∀ x y,G9 N (Gc N) (rh N) (Fo N) (D7 N) (CR N) (Be N) (GK N) (w7 N) (vY N) g x y b1 b2 (am a) (am b) k=k (sg g a) (am a) false (am b):=by
  intro a b ha hb x y;unfold G9 Gc Ut;rw[kT hF hB ha];unfold Fo WK;dsimp only;rw[kT hF hB hb,kT hF hB hb];cases g
  ·rfl
  ·simp only[sw,sg,aHV]; rfl
 unfold S0 WJ;by_cases h0:n=0
 ·subst h0;rw[bG];show Gc N false [] b1 b2 _=_;have e0:bB g 0=0:=by unfold bB; cases g <;> rfl
  unfold Gc Ut;rw[<- bG,kT hF (B:=10) (by decide) (by unfold bg; decide)];unfold rh N3 Fo WK;have e1:am 1=[1]:=Az (by decide) (by decide);dsimp only;rw[<- e1,kT hF (B:=10) (by decide) (by unfold bg; decide),kT hF (B:=10) (by decide) (by unfold bg; decide),e0,Rat.zero_mkRat];rfl
 ·have e0:((((am n).length:Nat):Int)==0)=false:=by rw[fQ h0]; simp; omega
  rw[e0,aGS];have:=LQ hF hB g hn hd h0 hd0 (λx y=>G9 N (Gc N) (rh N) (Fo N) (D7 N) (CR N) (Be N) (GK N) (w7 N) (vY N) g (am n) (am d) b1 b2 x y k) k (λa b ha hb=>hJ a b ha hb _ _);rw[<- this];congr 1; funext nr; congr 1; funext aur;exact OM (decide (aur<nr)) (λz=>UC N (Gc N) (rh N) (Fo N) (D7 N) (CR N) (Be N) (GK N) (w7 N) (vY N) g (am n) (am d) b1 b2 z k) aur nr
def Sb {N B:Nat} (hF:Fuel N) (hB:B<=2000000000100) (g:Bool) {n d:Nat} (hn:bg B n) (hd:bg B d) (hd0:d ≠ 0) (b1 b2:Bool) (l1 l2:List Int) (k:Kx6) :
  VF N g (am n) (am d) b1 l1 b2 l2 k=kqR (mkRat (bB g n) d) k:=by
 have hl:=hF.lt;have hJ:∀ a b:Nat,bg B a->bg B b -> ∀ x y,G_ N (Gb N) (rh N) (Fo N) (D7 N) (CR N) (Be N) (GK N) (w7 N) (vY N) g x y b1 l1 b2 l2 (am a) (am b) k=k (sg g a) (am a) false (am b):=by
  intro a b ha hb x y;unfold G_ Gb Ur;rw[kT hF hB ha];unfold Fo WK;dsimp only;rw[kT hF hB hb,kT hF hB hb];cases g
  ·rfl
  ·simp only[sw,sg,aHV]; rfl
 unfold VF KT;by_cases h0:n=0
 ·subst h0;rw[bG];show Gb N false [] b1 l1 b2 l2 _=_;have e0:bB g 0=0:=by unfold bB; cases g <;> rfl
  unfold Gb Ur;rw[<- bG,kT hF (B:=10) (by decide) (by unfold bg; decide)];unfold rh N3 Fo WK;have e1:am 1=[1]:=Az (by decide) (by decide);dsimp only;rw[<- e1,kT hF (B:=10) (by decide) (by unfold bg; decide),kT hF (B:=10) (by decide) (by unfold bg; decide),e0,Rat.zero_mkRat];rfl
 ·have e0:((((am n).length:Nat):Int)==0)=false:=by rw[fQ h0]; simp; omega
  rw[e0,aGS];have:=LQ hF hB g hn hd h0 hd0 (λx y=>G_ N (Gb N) (rh N) (Fo N) (D7 N) (CR N) (Be N) (GK N) (w7 N) (vY N) g (am n) (am d) b1 l1 b2 l2 x y k) k (λa b ha hb=>hJ a b ha hb _ _);rw[<- this];congr 1; funext nr; congr 1; funext aur;exact OM (decide (aur<nr)) (λz=>UD N (Gb N) (rh N) (Fo N) (D7 N) (CR N) (Be N) (GK N) (w7 N) (vY N) g (am n) (am d) b1 l1 b2 l2 z k) aur nr
def R7 {N:Nat} (a:Bool) (l:List Int) (b:Bool) {d:Nat} (hd:d ≠ 0) (k:Kz5):VO N a l b (am d) k=k (am d):=by
 unfold VO ZU;have:((((am d).length:Nat):Int)==0)=false:=by rw[fQ hd]; simp; omega
 rw[this]; rfl
def ko {N:Nat} (a:Bool) (l:List Int) (b:Bool) {d:Nat} (hd:d ≠ 0) (k:Kz5):SX N a l b (am d) k=k (am d):=by
 unfold SX anA;have:((((am d).length:Nat):Int)==0)=false:=by rw[fQ hd]; simp; omega
 rw[this]; rfl
def uo {N B:Nat} (hF:Fuel N) (hB:B<=2000000000100) {a b:Nat} (ha:bg B a) (hb:bg B b) (k:Kz5):D6 N (am a) (am b) k=k (am (a*b)):=by have h1:=yx hB ha;have h2:=yx hB hb;have:=hF.lt;rw[Fj _ _ (bN _) (bN _) (by omega) (by omega),aS,aS]
def ad3 {N B:Nat} (hF:Fuel N) (hB:B<=1000000000000) {x y:Rat} (hx:Bq B x) (hy:Bq B y) (b1 b2:Bool) (k:Kx6) :
  ajE N b1 b2 (decide (x.num<0)) (am x.num.natAbs) false (am x.den) (decide (y.num<0)) (am y.num.natAbs) false (am y.den) k=kqR (x*y) k:=by
 unfold ajE anK;have hB2:B<=2000000000100:=by omega
 rw[uo hF hB2 hx.1 hy.1,ko _ _ _ x.den_nz,ko _ _ _ y.den_nz,uo hF hB2 hx.2 hy.2,
  AK hF (B:=B+B) (by omega) _ (iV hx.1 hy.1) (iV hx.2 hy.2) (aJ8 x.den_nz y.den_nz),Jj,mz,mz,<- Rat.mul_def']
def ad7 {N B:Nat} (hF:Fuel N) (hB:B<=1000000000000) {x y:Rat} (hx:Bq B x) (hy:Bq B y) (h0:y.num ≠ 0) (b1 b2:Bool) (k:Kx6) :
  SU N b1 b2 (decide (x.num<0)) (am x.num.natAbs) false (am x.den) (decide (y.num<0)) (am y.num.natAbs) false (am y.den) k=kqR (x / y) k:=by
 unfold SU ans;have hB2:B<=2000000000100:=by omega
 obtain⟨i1,i2,i3⟩:=Jg h0;rw[ko _ _ _ y.den_nz,uo hF hB2 hx.1 hy.2,ko _ _ _ x.den_nz,uo hF hB2 hx.2 hy.1,
  AK hF (B:=B+B) (by omega) _ (iV hx.1 hy.2) (iV hx.2 hy.1) (aJ8 x.den_nz (by omega)),Jj,mz,Rat.div_def,Rat.mul_def',i2]
 have:bB (decide (y.num<0)) y.den=(y⁻¹).num:=by rw[<- i3,<- i1,mz]
 rw[this]
def aeb {N B:Nat} (hF:Fuel N) (hB:B<=1000000000000) {x y:Rat} (hx:Bq B x) (hy:Bq B y) (k:Kx6) :
  ajG N (decide (x.num<0)) (am x.num.natAbs) false (am x.den) (decide (y.num<0)) (am y.num.natAbs) false (am y.den) k=kqR (x - y) k:=by
 unfold ajG anP aey ZB;have hB2:B<=2000000000100:=by omega
 have ha:=iV hx.1 hy.2;have hb:=iV hy.1 hx.2;have hB3:B+B+1<=2000000000100:=by omega
 rw[ko _ _ _ y.den_nz,uo hF hB2 hx.1 hy.2,ko _ _ _ x.den_nz,uo hF hB2 hy.1 hx.2];dsimp only;rw[ko _ _ _ x.den_nz,ko _ _ _ y.den_nz,uo hF hB2 hx.2 hy.2,
  Xm false _ _ _ _ (yg hF (by omega) ha) (yg hF (by omega) hb) (yg hF hB3 (Dr ha hb)),zO,zO]
 unfold Bd;dsimp only;have hz:bg (B+B+1) (x.num*(y.den:Int) - y.num*(x.den:Int)).natAbs:=by
  refine qz (Dr ha hb) ?_;have e1:(x.num*(y.den:Int)).natAbs=x.num.natAbs*y.den:=by rw[aIE,aHO]
  have e2:(y.num*(x.den:Int)).natAbs=y.num.natAbs*x.den:=by rw[aIE,aHO]
  omega
 rw[Sb hF hB3 _ hz (dE (iV hx.2 hy.2) (by omega)) (aJ8 x.den_nz y.den_nz),mz,<- Rat.sub_def']
def Fi {N:Nat} (x:Rat) (k:Kz1):Tg N (decide (x.num<0)) (am x.num.natAbs) false (am x.den) k=k (Ec x.num):=by
 unfold Tg an9 aeQ aay Ec;by_cases h0:x.num=0
 ·rw[h0,if_pos rfl];have:am (0:Int).natAbs=[]:=bG;rw[this]; rfl
 ·have:((((am x.num.natAbs).length:Nat):Int)==0)=false:=by rw[fQ (by omega)]; simp; omega
  rw[this,aGS,if_neg h0];by_cases h:x.num<0
  ·rw[aGQ h,aGT,if_pos h]
  ·rw[aGR h,aGS,if_neg h]
def FO (n:Nat):dQ (am n) (am n).length=(am n).length:=OP n
def adX {N B:Nat} (hF:Fuel N) (hB:B<=2000000000100) {x:Rat} (hx:Bq B x) (b1 b2:Bool) (l1 l2:List Int) (k:Kx6) :
  Vy N (decide (x.num<0)) (am x.num.natAbs) false (am x.den) b1 l1 b2 l2 k=kqR x k:=by
 unfold Vy Zj;have h1:=yx hB hx.1;have h2:=yx hB hx.2;have hl:=hF.lt;rw[aHG,ac (aGQ (by omega)),R7 _ _ _ x.den_nz,aHG,ac (aGQ (by omega))];unfold aeG Z3 aeF ZZ;rw[qi _ (by omega) (by omega),FO];dsimp only;rw[qi _ (by omega) (by omega),qi _ (by omega) (by omega),FO];have e1:(List.take (am x.num.natAbs).length (List.drop 0 (am x.num.natAbs)))=am x.num.natAbs:=by simp
 have e2:(List.take (am x.den).length (List.drop 0 (am x.den)))=am x.den:=by simp
 have e3:decide (0+(am x.num.natAbs).length<=(am x.num.natAbs).length)=true:=aGQ (by omega);have e4:decide (0+(am x.den).length<=(am x.den).length)=true:=aGQ (by omega);rw[e1,e2,e3,e4];unfold kqR krR;by_cases h:x.num<0
 ·have:decide (((((am x.num.natAbs).length:Nat):Nat):Int)>0)=true:=by rw[sw]; exact aGQ (by omega)
  rw[aGQ h,this]; rfl
 ·rw[aGR h]; rfl
end Go.Proofs.YteifemaagdeomaaGreatDoor
end
