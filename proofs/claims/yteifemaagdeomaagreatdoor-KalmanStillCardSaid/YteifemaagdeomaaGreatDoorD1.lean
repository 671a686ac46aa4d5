/-
  PURE: words to the base 2^32 (printed by to32.py from the laws to the base 2^64).
  Conditions: none.
-/
import Derived.Test.YteifemaagdeomaaGreatDoorC2
set_option linter.unusedVariables false
section
namespace Go.Proofs.YteifemaagdeomaaGreatDoor
open Go Go.Mach
theorem qQ:∀(i V:Nat),(aj V).getD i 0=((V / 4294967296 ^ i%4294967296:Nat):Int)
 | i,V=>by
  by_cases h:V=0
  ·subst h; rw[ba]; simp
  ·rw[cu h];cases i with
   | zero=>simp
   | succ i=>
    show(aj (V / 4294967296)).getD i 0=_;rw[qQ i (V / 4294967296),ajK,ajB,<- ajF]
theorem Nx {V w:Nat} (h:V / 4294967296 ^ w ≠ 0):w<(aj V).length:=by
 rcases akv w (aj V).length with h1 | h1
 ·exact h1
 ·exfalso;have h2:=fX (bf V);rw[aM]at h2;exact h (aj3 (ajS h2 (ajO (by decide) h1)))
theorem ye {n:Nat} (h0:n ≠ 0) (h:n<4294967296):aj n=[(n:Int)]:=by rw[cu h0,aj3 h,ba,ajJ h]
theorem JY (Q n m:Nat) (h:m<n):(List.replicate (m+1) (0:Int)++(dl Q n).drop (m+1)).set m ((Q / 4294967296 ^ m%4294967296:Nat):Int)=List.replicate m 0++(dl Q n).drop m:=by rw[ak9,ajQ,List.singleton_append,be _ _ _ _ _ (by simp),dp (n:=m) (by rw[am]; exact h),yf Q h]
theorem E3 {A d:Nat} (hd:0<d):(A / 4294967296%d*4294967296+A%4294967296)%d=A%d/\(A / 4294967296%d*4294967296+A%4294967296) / d=A / d%4294967296:=by
 have h1:=aks A 4294967296;have h2:=aks (A / 4294967296) d;have h3:=ajN (A / 4294967296) hd;have h4:A%4294967296<4294967296:=ajN _ (by decide);obtain⟨a,ha⟩:∃ a,a=A / 4294967296:=⟨_,rfl⟩
 obtain⟨e,he⟩:∃ e,e=A%4294967296:=⟨_,rfl⟩
 rw[<- ha]at h1 h2 h3 ⊢;rw[<- he]at h1 h4 ⊢;obtain⟨c,hc⟩:∃ c,c=a / d:=⟨_,rfl⟩
 obtain⟨r,hr⟩:∃ r,r=a%d:=⟨_,rfl⟩
 rw[<- hc,<- hr]at h2;rw[<- hr]at h3 ⊢;have h5:A=d*(c*4294967296)+(r*4294967296+e):=by rw[<- h1,<- h2,<- ajI,ajP,ajB 4294967296,ajB 4294967296]; omega
 constructor
 ·rw[h5,alK]
 ·rw[h5,amx hd,ajB c,alK];refine(ajJ ?_).symm;rw[ajH hd];have:=ajE 4294967296 h3;rw[ak5]at this;rw[ajB _ d,ajB d];rw[ajB d]at this;omega
theorem j6 (x:Nat):x<4294967296 ^ (aj x).length:=by have:=fX (bf x); rwa [aM]at this
theorem aaH (c:List Int) (m:Nat):aG (c.take (m+3))=aG (c.take m)+4294967296 ^ m*((c.getD m 0).toNat+4294967296*((c.getD (m+2) 0).toNat*4294967296+(c.getD (m+1) 0).toNat)):=by rw[show m+3=m+2+1 by omega,aR,show m+2=m+1+1 by omega,aR,aR];simp only[ajK];generalize 4294967296 ^ m=P;grind
theorem aaG (c:List Int) (m:Nat):aG (c.take (m+2))=aG (c.take m)+4294967296 ^ m*((c.getD m 0).toNat+4294967296*(c.getD (m+1) 0).toNat):=by rw[show m+2=m+1+1 by omega,aR,aR];simp only[ajK];generalize 4294967296 ^ m=P;grind
theorem KD {b:List Int} {o i:Nat} (D:Nat) (h:o+i<=b.length):(b.take o++(dl D i++b.drop (o+i))).length=b.length:=by simp[am]; omega
theorem KC {b:List Int} {o i:Nat} (D:Nat) (h:o+i<b.length):(b.take o++(dl D i++b.drop (o+i))).getD (o+i) 0=b.getD (o+i) 0:=by rw[<- ajQ,dp h,bX (by simp[am]; omega)]
theorem Fi {b:List Int} {o i:Nat} (D:Nat) (h:o+i<b.length):(b.take o++(dl D i++b.drop (o+i))).set (o+i) ((D / 4294967296 ^ i%4294967296:Nat):Int)=b.take o++(dl D (i+1)++b.drop (o+(i+1))):=by rw[<- ajQ,dp h,be _ _ _ _ _ (by simp[am]; omega),dl];simp[akf]
theorem KA {b:List Int} {o i n:Nat} (D E:Nat) (hi:i<=n) (h:o+n<=b.length):(b.take o++(dl E i++((dl D n).drop i++b.drop (o+n)))).length=b.length:=by simp[am]; omega
theorem Kz {b:List Int} {o i n:Nat} (D E:Nat) (hi:i<n) (h:o+n<=b.length):(b.take o++(dl E i++((dl D n).drop i++b.drop (o+n)))).getD (o+i) 0=((D / 4294967296 ^ i%4294967296:Nat):Int):=by rw[<- ajQ,dp (n:=i) (by rw[am]; exact hi),alh,bX (by simp[am]; omega),yf D hi]
theorem KB {b:List Int} {o i n:Nat} (D E:Nat) (hi:i<n) (h:o+n<=b.length):(b.take o++(dl E i++((dl D n).drop i++b.drop (o+n)))).set (o+i) ((E / 4294967296 ^ i%4294967296:Nat):Int)=b.take o++(dl E (i+1)++((dl D n).drop (i+1)++b.drop (o+n))):=by rw[<- ajQ,dp (n:=i) (by rw[am]; exact hi),alh,be _ _ _ _ _ (by simp[am]; omega),dl];simp
theorem Ng {m:Nat} (S X:Nat):∀ n,n<=m->dl (S+4294967296 ^ m*X) n=dl S n
 | 0,_=>rfl
 | n+1,h=>by rw[dl,dl,Ng S X n (by omega)];congr 3;refine ox (R:=4294967296 ^ (m - (n+1))*X) ?_;rw[<- ajI,<- ajR,show n+1+(m - (n+1))=m by omega]
theorem E_ {w:List Int} {n i U Q:Nat} (hw:InW w) (hl:w.length=n+1) (hU:U=aG w) (hi:i<=n) (hQ:Q<4294967296 ^ (n+1)) :
  (((w.getD i 0).toNat+4294967296 - Q / 4294967296 ^ i%4294967296 - (if aG (w.take i)<Q%4294967296 ^ i then 1 else 0))%4294967296=(U+4294967296 ^ (n+1) - Q) / 4294967296 ^ i%4294967296)
  /\ (if (w.getD i 0).toNat<Q / 4294967296 ^ i%4294967296+(if aG (w.take i)<Q%4294967296 ^ i then 1 else 0)then 1 else 0)=(if aG (w.take (i+1))<Q%4294967296 ^ (i+1)then 1 else(0:Nat)):=by
 have hx:=hw.at (i:=i);have hA:=aR (m:=w) i;have hAl:=bt hw i;have hp:=aW i;have hBl:=ajN Q hp;have hPs:4294967296 ^ (i+1)=4294967296 ^ i*4294967296:=ajK ..;have hmm:Q%4294967296 ^ (i+1)=Q%4294967296 ^ i+4294967296 ^ i*(Q / 4294967296 ^ i%4294967296):=by rw[hPs,amr]
 have hyl:Q / 4294967296 ^ i%4294967296<4294967296:=ajN _ (by decide);constructor
 ·obtain⟨R1,h1⟩:=bZ w (i+1);have hW:4294967296 ^ (n+1)=4294967296 ^ i*4294967296*4294967296 ^ (n - i):=by rw[<- hPs,<- ajR,show i+1+(n - i)=n+1 by omega]
  have hq:=IR (D:=U+4294967296 ^ (n+1) - Q) (a:=U+4294967296 ^ (n+1)) (b:=Q) (x:=(w.getD i 0).toNat) (y:=Q / 4294967296 ^ i%4294967296) (R1:=R1+4294967296 ^ (n - i)) (R2:=Q / (4294967296 ^ i*4294967296)) hAl hBl rfl
   (by rw[hU,h1,hA,hW,hPs,ajP]; omega)
   (by rw[<- hmm,hPs]; exact(alJ _ _).symm)
   (by omega)
  generalize (U+4294967296 ^ (n+1) - Q) / 4294967296 ^ i=Z at *;generalize Q / 4294967296 ^ i%4294967296=y at *;generalize (w.getD i 0).toNat=x at *;generalize ((R1+4294967296 ^ (n - i):Nat):Int) - ((Q / (4294967296 ^ i*4294967296):Nat):Int)=RR at *;split at hq <;> rename_i hh <;> simp only[hh,ak6,aj5] <;> omega
 ·rw[hA,hmm];exact(sA _ _ _ _ _ hAl hBl).symm
theorem DE {D V c v i:Nat} (hc:c=(D%4294967296 ^ i+V) / 4294967296 ^ i) :
  (D%4294967296 ^ (i+1)+(V+4294967296 ^ i*v)) / 4294967296 ^ (i+1)=(D / 4294967296 ^ i%4294967296+v+c) / 4294967296 /\
  ∀ R,(D+(V+4294967296 ^ i*v+4294967296 ^ (i+1)*R)) / 4294967296 ^ i%4294967296=(D / 4294967296 ^ i%4294967296+v+c)%4294967296:=by
 have hp:=aW i;have hPs:4294967296 ^ (i+1)=4294967296 ^ i*4294967296:=ajK ..;have hmm:D%4294967296 ^ (i+1)=D%4294967296 ^ i+4294967296 ^ i*(D / 4294967296 ^ i%4294967296):=by rw[hPs,amr]
 have e:D%4294967296 ^ (i+1)+(V+4294967296 ^ i*v)=(D%4294967296 ^ i+V)+4294967296 ^ i*(D / 4294967296 ^ i%4294967296+v):=by rw[hmm,ajP]; omega
 have e2:(D%4294967296 ^ (i+1)+(V+4294967296 ^ i*v)) / 4294967296 ^ i=D / 4294967296 ^ i%4294967296+v+c:=by rw[e,eZ,<- hc]; omega
 constructor
 ·rw[hPs,<- ajF,<- hPs,e2]
 ·intro R;have e3:D+(V+4294967296 ^ i*v+4294967296 ^ (i+1)*R)=(D%4294967296 ^ (i+1)+(V+4294967296 ^ i*v))+4294967296 ^ (i+1)*(D / 4294967296 ^ (i+1)+R):=by have:=alJ D (4294967296 ^ (i+1));rw[ajP]; omega
  rw[ox e3,e2]
theorem Io {D V c i:Nat} (hc:c=(D%4294967296 ^ i+V) / 4294967296 ^ i) :
  (D%4294967296 ^ (i+1)+V) / 4294967296 ^ (i+1)=(D / 4294967296 ^ i%4294967296+0+c) / 4294967296 /\
  (D+V) / 4294967296 ^ i%4294967296=(D / 4294967296 ^ i%4294967296+0+c)%4294967296:=by
 obtain⟨a1,a2⟩:=DE (v:=0) hc;have a3:=a2 0;rw[akQ,aj4 V]at a1;rw[akQ,akQ,aj4 V]at a3;exact⟨a1,a3⟩
theorem UK (n:Nat):dl n (aj n).length=aj n:=by refine List.ext_getElem (am n _) (λi h1 h2=>?_);have e1:=yf n h2;have e2:=qQ i n;rw[List.getD_eq_getElem?_getD,List.getElem?_eq_getElem h1,akj]at e1;rw[List.getD_eq_getElem?_getD,List.getElem?_eq_getElem h2,akj]at e2;rw[e1,e2]
theorem IX {X L:Nat} (hX:X<4294967296 ^ L):∀ k,dl X (L+k)=dl X L++List.replicate k 0
 | 0=>by simp
 | k+1=>by rw[<- akf,dl,IX hX k,aj3 (ajS hX (ajO (by decide) (alU _ _))),ak9,ajQ];rfl
theorem tH (S:Nat):∀{m n:Nat},n<=m->(dl S m).take n=dl S n
 | 0,n,h=>by
  have:n=0:=by omega
  subst this; rfl
 | m+1,n,h=>by
  by_cases e:n=m+1
  ·subst e; rw[ajV (by rw[am]; omega)]
  ·rw[dl,akx (by rw[am]; omega),tH S (by omega)]
theorem F5 (S a:Nat):∀ c,dl S (a+c)=dl S a++dl (S / 4294967296 ^ a) c
 | 0=>by simp[dl]
 | c+1=>by rw[<- akf,dl,F5 S a c,dl,ajF,<- ajR,ajQ]
theorem DS {V m:Nat} (h:V<4294967296 ^ m):bQ (dl V m) m=(aj V).length:=by have h1:=xR (kj V m);rw[am,vl,ajJ h]at h1;rw[<- h1,akc,am];have:=lG (dl V m) m;omega
theorem Va {V m:Nat} (h1:4294967296 ^ m<=V) (h2:V<4294967296 ^ (m+1)):(aj V).length=m+1:=by have a:=cG (m+1) V h2;have b:=Nx (V:=V) (w:=m) (by have:=alY h1 (aW m); omega);omega
theorem Vh {r x:Nat} (hr:r<4294967296) (hx:x<4294967296):aE .or .u64 (IntKind.wrap .u64 ((r:Int)*2 ^ 32)) (IntKind.wrap .u64 (x:Int))=((r*4294967296+x:Nat):Int):=by
 have p32:(2:Nat) ^ 32=4294967296:=by decide
 have q32:(2:Int) ^ 32=4294967296:=by decide
 have e1:IntKind.wrap .u64 ((r:Int)*2 ^ 32)=((2 ^ 32*r:Nat):Int):=by rw[q32,p32,aq]; omega
 have e2:IntKind.wrap .u64 (x:Int)=(x:Int):=by rw[aq]; omega
 rw[e1,e2,zb,cE _ _ 32 (by omega) (by omega),p32];congr 1; omega
theorem LU {N:Nat} {x d:Nat} (hd0:0<d) (hd:d<4294967296) (hs:gl N (aj x)) (k:List Int->Int->Bool):Ka N (aj x) (d:Int) k=k (aj (x / d)) ((x%d:Nat):Int):=by
 (unfold Ka; rw[af]; unfold QF)
 obtain⟨s1,s2⟩:=hs;have hx:=j6 x;generalize hn:(aj x).length=n at *;rw[aa (bR (by omega) (by omega) (by omega) (by omega)),aa ajv,ajD];have wd:IntKind.wrap .u64 (d:Int)=(d:Int):=by rw[aq]; omega
 have d1:(!decide ((d:Int)=0))=true:=by simp; omega
 refine aH (λi=>(((x / 4294967296 ^ (n - i)%d:Nat):Int),((n:Int) - 1 - (i:Int)),List.replicate (n - i) (0:Int)++(dl (x / d) n).drop (n - i))) n ?_ (by omega) (λi hi K=>?_) (λK=>?_)
 ·rw[alD,aj3 hx,Nat.zero_mod,aki (by rw[am]; omega),aj6];simp
 ·obtain⟨m,hm⟩:∃ m,n - i=m+1:=⟨n - i - 1,by omega⟩
  have hm2:n - (i+1)=m:=by omega
  have ei:(n:Int) - 1 - (i:Int)=(m:Int):=by omega
  have ei2:(n:Int) - 1 - ((i+1:Nat):Int)=(m:Int) - 1:=by omega
  have hp:x / 4294967296 ^ (m+1)=x / 4294967296 ^ m / 4294967296:=by rw[ajK,ajF]
  have hdg:x / d / 4294967296 ^ m%4294967296=x / 4294967296 ^ m / d%4294967296:=by rw[ajF,ajF,ajB d]
  obtain⟨n1,n2⟩:=E3 (A:=x / 4294967296 ^ m) hd0;rw[hm,hm2,ei,ei2,hp];simp only[mO,ajD,wd];have hl:(List.replicate (m+1) (0:Int)++(dl (x / d) n).drop (m+1)).length=n:=by simp[am]; omega
  have hr:=ajN (x / 4294967296 ^ m / 4294967296) hd0;have hq:(x / 4294967296 ^ m / 4294967296%d*4294967296+x / 4294967296 ^ m%4294967296) / d<4294967296:=by rw[n2]; exact ajN _ (by decide)
  rw[ajx (by omega:(m:Int)>=0),ajA,hn,aa ajw,qQ,aa d1,hl,aa ajw,aa (ajx (by omega)),aa d1,aa ajv,Vh (by omega) (ajN _ (by decide))];have e1:∀ A:Nat,Int.tdiv (A:Int) (d:Int)=((A / d:Nat):Int):=λ_=>rfl
  have e2:∀ A:Nat,Int.tmod (A:Int) (d:Int)=((A%d:Nat):Int):=λ_=>rfl
  rw[e1,e2,n1,n2,<- hdg];have e3:IntKind.wrap .u32 (IntKind.wrap .u64 ((x / d / 4294967296 ^ m%4294967296:Nat):Int))=((x / d / 4294967296 ^ m%4294967296:Nat):Int):=by have:=ajN (x / d / 4294967296 ^ m) (by decide:4294967296>0);generalize x / d / 4294967296 ^ m%4294967296=y at *;rw[aq,dB]; omega
  rw[e3,JY _ _ _ (by omega)]
 ·simp only[mO];have e0:(n:Int) - 1 - (n:Int) = -1:=by omega
  rw[e0,ajy (by omega),ajz,aj8,alq,aln];rw[aka,akl,ak2];have hq:x / d<4294967296 ^ n:=ak7 (ak8 _ _) hx;have hr:=ajN x hd0;have e3:IntKind.wrap .u32 ((x%d:Nat):Int)=((x%d:Nat):Int):=by rw[dB]; omega
  rw[e3,dG _ (kj _ _) (by rw[am]; omega) (by rw[am]; omega) (λz=>k z ((x%d:Nat):Int)),uC hq]
theorem SA (N:Nat) {x:Nat} (hx:x<4294967296) (k:Ky9):Vw N (x:Int) k=k ((32 - bl x:Nat):Int):=by unfold Vw Zm;have:=Ax (n:=x) (j:=32) (by rw[show(2:Nat) ^ 32=4294967296 by decide]; exact hx);rw[Gd N x hx,aa ajv];congr 1; omega
theorem HH:(2:Nat) ^ 32=4294967296:=by decide
theorem PY {y:Nat} (h0:y ≠ 0) (hy:y<4294967296):32 - bl y<32/\2147483648<=y*2 ^ (32 - bl y)/\y*2 ^ (32 - bl y)<4294967296:=by
 have h1:=Ax (n:=y) (j:=32) (by rw[HH]; exact hy);obtain⟨h2,h3⟩:=RM h0;have h4:=Cn y;have hp:0<2 ^ (32 - bl y):=ajM _;refine⟨by omega,?_,?_⟩
 ·have:=ajE (2 ^ (32 - bl y)) h3;rw[<- ajR,show bl y - 1+(32 - bl y)=31 by omega]at this;exact this
 ·have:=akm h4 hp;rw[<- ajR,show bl y+(32 - bl y)=32 by omega]at this;exact this
theorem LY {N:Nat} (m:List Int) (hm:InW m) (n:Nat) (hn:n<4294967296) (hN:m.length+n / 32+4<N) (hs:m.length<=1099511627776) (e0:List Int->Bool) :
  al N (fI N m ((n / 32:Nat):Int) ((n%32:Nat):Int) e0) (0,List.replicate (n / 32+m.length+1) (0:Int))=e0 (dl (aG m*2 ^ n) (n / 32+m.length+1)):=by
 generalize hw:n / 32=w at *;generalize hsh:n%32=s at *;have hs32:s<32:=by omega
 have hp2:2 ^ n=4294967296 ^ w*2 ^ s:=by rw[A4,hw,hsh]
 have hs0:0<2 ^ s:=ajM s;have hs1:2 ^ s*2 ^ (32 - s)=4294967296:=by rw[<- ajR,show s+(32 - s)=32 by omega]
 have hs2:2 ^ s<=2147483648:=by have:2 ^ s<=2 ^ 31:=ajO (by decide) (by omega);simpa using this
 let V:=aG m*2 ^ n
 let X:=aG m*2 ^ s
 have hVX:V=4294967296 ^ w*X:=by simp only[V,X]; rw[hp2,ajZ]
 let T:=λi=>aG (m.take i)*2 ^ s
 let c:=λi=>T i / 4294967296 ^ i
 refine aH (N:=N) (λi=>((i:Int),dl V (w+i)++((c i:Nat):Int)::List.replicate (m.length - i) 0)) m.length ?_ (by omega) (λi hi K=>?_) (λK=>?_)
 ·congr 1;show List.replicate (w+m.length+1) (0:Int)=dl V w++((c 0:Nat):Int)::List.replicate m.length 0;rw[hVX,zJ];have hc0:c 0=0:=by simp[c,T,aG]
  rw[hc0];have:w+m.length+1=w+(m.length+1):=by omega
  rw[this,<- alc,akh]; rfl
 ·have hx:=hm.at (i:=i);have hT:T (i+1)=T i+4294967296 ^ i*((m.getD i 0).toNat*2 ^ s):=by simp only[T,aR,aj2,ajI]
  have hq:T (i+1) / 4294967296 ^ i=c i+(m.getD i 0).toNat*2 ^ s:=by rw[hT,eZ]
  have hci:c i<2 ^ s:=by simp only[c,T];rw[ajH (aW i),ajB];exact akF (bt hm i) hs0
  have hc1:c (i+1)=(c i+(m.getD i 0).toNat*2 ^ s) / 4294967296:=by rw[<- hq]; simp only[c]; rw[ajK,ajF]
  have hdig:V / 4294967296 ^ (w+i)%4294967296=(c i+(m.getD i 0).toNat*2 ^ s)%4294967296:=by rw[<- hq,hVX,ajR,<- ajF,aj7 _ (aW w)];obtain⟨R,hR⟩:=bZ m (i+1);refine ox (R:=R*2 ^ s) ?_;simp only[X,T];rw[hR,aj2,ajI]
  have hrep:List.replicate (m.length - i) (0:Int)=0::List.replicate (m.length - (i+1)) 0:=by rw[show m.length - i=(m.length - (i+1))+1 by omega,akh]
  have hdl:=am V (w+i);have ei:Int.toNat ((w:Int)+(i:Int))=w+i:=by omega
  have ei1:Int.toNat ((w:Int)+(i:Int)+1)=w+i+1:=by omega
  have emin:min s 64=s:=by omega
  simp only[fI,ajD,ei,ei1,emin];rw[hrep,bX hdl.symm,be _ _ _ _ _ hdl.symm];have et:IntKind.wrap .u64 (IntKind.wrap .u64 (m.getD i 0)*2 ^ s)=(((m.getD i 0).toNat*2 ^ s:Nat):Int):=by
   have hxs:(m.getD i 0).toNat*2 ^ s<4294967296*2147483648:=akg (by omega) hs2 (by decide);have e1:IntKind.wrap .u64 (m.getD i 0)=(((m.getD i 0).toNat:Nat):Int):=by rw[aq]; omega
   have e2:(((m.getD i 0).toNat:Nat):Int)*2 ^ s=(((m.getD i 0).toNat*2 ^ s:Nat):Int):=by simp
   rw[e1,e2,aq]; omega
  rw[et];generalize hxx:(m.getD i 0).toNat=x at *;have hx32:x<4294967296:=by omega
  have hlow:x*2 ^ s%4294967296=2 ^ s*(x%2 ^ (32 - s)):=by
   have e:x*2 ^ s%(2 ^ s*2 ^ (32 - s))=2 ^ s*(x%2 ^ (32 - s)):=by rw[ajB x]; exact ak_ _ _ _
   rwa [hs1]at e
  have hsum:2 ^ s*(x%2 ^ (32 - s))+c i<4294967296:=by have h1:x%2 ^ (32 - s)+1<=2 ^ (32 - s):=ajN _ (ajM _);have h2:=ajG (2 ^ s) h1;rw[hs1,ajP]at h2;omega
  have eor:aE .or .u32 ((c i:Nat):Int) (IntKind.wrap .u32 ((x*2 ^ s:Nat):Int))=((V / 4294967296 ^ (w+i)%4294967296:Nat):Int):=by
   have e1:IntKind.wrap .u32 ((x*2 ^ s:Nat):Int)=((2 ^ s*(x%2 ^ (32 - s)):Nat):Int):=by rw[<- hlow,dB]; omega
   rw[e1,vJ _ _ s hci hsum,hdig];omega
  have ehi:IntKind.wrap .u32 (Int.fdiv ((x*2 ^ s:Nat):Int) (2 ^ 32))=((c (i+1):Nat):Int):=by have hxs:x*2 ^ s<4294967296*2147483648:=akg hx32 hs2 (by decide);rw[l8,dB,hc1];omega
  rw[eor,ehi];have hl1:∀(a b:Int) (ys:List Int),(dl V (w+i)++a::b::ys).length=w+i+2+ys.length:=by intro a b ys; simp[hdl]; omega
  have hset2:(dl V (w+i)++((V / 4294967296 ^ (w+i)%4294967296:Nat):Int)::0::List.replicate (m.length - (i+1)) 0).set (w+i+1) ((c (i+1):Nat):Int)=dl V (w+(i+1))++((c (i+1):Nat):Int)::List.replicate (m.length - (i+1)) 0:=by
   have:dl V (w+i)++((V / 4294967296 ^ (w+i)%4294967296:Nat):Int)::0::List.replicate (m.length - (i+1)) 0=dl V (w+(i+1))++0::List.replicate (m.length - (i+1)) 0:=by rw[<- akf,dl]; simp
   rw[this];exact be _ _ _ _ _ (by rw[am]; omega)
  rw[hset2,hl1,hl1];simp only[akV];rw[ajx (by omega:(i:Int)<m.length),ajA,aa ajw,aa (ajx (by omega)),aa ajv,aa ajw,aa (ajx (by omega)),aa ajw,aa (ajx (by omega)),
   aa ajv,aa ajv,aa ajw,aa (ajx (by omega)),aa ajv]
  rfl
 ·simp only[fI];rw[ajy (by omega:¬(m.length:Int)<m.length),ajz,aj8,aka];have hV:V<4294967296 ^ (w+m.length+1):=by have h1:=fX hm;simp only[V];rw[hp2,ajK,ajR,ajZ,ajI];refine akF ?_ (aW w);exact akg h1 (by omega) (by decide)
  have hT:T m.length=X:=by simp only[T,X]; rw[akd]
  have hend:dl V (w+m.length)++[((c m.length:Nat):Int)]=dl V (w+m.length+1):=by
   rw[dl];have:c m.length=V / 4294967296 ^ (w+m.length)%4294967296:=by simp only[c];rw[hT,hVX,ajR,<- ajF,aj7 _ (aW w)];rw[ajJ];rw[ajH (aW _),ajB];have h1:=fX hm;simp only[X];exact akg h1 (by omega) (by decide)
   rw[this]
  rw[hend]
theorem xd {N:Nat} {m s:Nat} (hm:m ≠ 0) (hs:s<32) (hN:(aj m).length+4<N) (hl:(aj m).length<=1099511627776) (k0:Bool) (k1:Nat->List Int->Bool) :
  Ke N (aj m) (s:Int) k0 k1=k1 (aj (m*2 ^ s)).length (dl (m*2 ^ s) ((aj m).length+1)):=by
 have hlp:(aj m).length ≠ 0:=by rw[cu hm]; simp
 have hV:m*2 ^ s<4294967296 ^ ((aj m).length+1):=by
  rw[ajK];have h2:2 ^ s<4294967296:=by rw[<- HH]; exact Nat.pow_lt_pow_right (by decide) hs
  exact akz (j6 m) h2
 (unfold Ke; rw[af]; unfold Xl)
 have e0:((((aj m).length:Nat):Int)==0)=false:=by simp; intro h; rw[h]at hlp; simp at hlp
 have ew:IntKind.wrap .u64 (Int.tdiv (s:Int) 32)=((s / 32:Nat):Int):=by rw[aq,aky (by omega)]; omega
 have es:Int.tmod (s:Int) 32=((s%32:Nat):Int):=by rw[akq (by omega)]; rfl
 have elen:Int.toNat (((s / 32:Nat):Int)+(((aj m).length:Nat):Int)+1)=s / 32+(aj m).length+1:=by omega
 rw[e0,ajz,ew,es,aa ajv,aa ajv,aa ajv,aa (bR (by omega) (by omega) (by omega) (by omega)),elen];have:=LY (N:=N) (aj m) (bf m) s (by omega) (by omega) hl (λz_1=>tk N z_1 λmr=>k1 mr z_1);rw[aM,show s / 32=0 by omega,aj1]at this;rw[show s / 32=0 by omega,aj1];refine Eq.trans this ?_;rw[nJ _ (by rw[am]; omega) (by rw[am]; omega),am,DS hV]
theorem Pc {N:Nat} (b:List Int) (m:Nat) (hm:m<=b.length) (hN:m<N) (hs:m<9223372036854775807) (k:Kz0):TF N 0 m b k=k (bQ b m):=by
 (unfold TF; rw[af]; unfold QK)
 have key:∀ n,n<=m -> ∀ M,n<M->al M (Al N 0 b λm_4=>k m_4) n=k (bQ b n):=by
  intro n;induction n with
  | zero=>
   intro _ M hM;obtain⟨M,rfl⟩:∃ m,M=m+1:=⟨M - 1,by omega⟩
   show Al N 0 b _ 0 _=_;simp only[Al,bQ];rw[ajy (by omega:¬((0:Nat):Int)>0),show(false==true)=false from rfl,ajz]
  | succ n ih=>
   intro hn M hM;obtain⟨M,rfl⟩:∃ m,M=m+1:=⟨M - 1,by omega⟩
   show Al N 0 b _ (n+1) (al M _)=_;have e:0+Int.toNat (((n+1:Nat):Int) - 1)=n:=by omega
   have e2:Int.toNat (((n+1:Nat):Int) - 1) - 0=n:=by omega
   simp only[Al,e,e2];rw[ajx (by omega:((n+1:Nat):Int)>0),show(true==true)=true from rfl,ajA,aa ajv,aa ajw,aa (ajx (by omega)),aa ajv,aa (ajx (by omega)),ih (by omega) M (by omega),sC];by_cases h0:b.getD n 0=0
   ·have:(b.getD n 0==0)=true:=by simpa using h0
    rw[this,if_pos h0]; rfl
   ·have:(b.getD n 0==0)=false:=by simpa using h0
    rw[this,if_neg h0]; rfl
 exact key m (ajL _) N hN
theorem Hv {N:Nat} (b:List Int) (hb:InW b) (m s:Nat) (hm:m<=b.length) (hs:s<32) (hN:m+3<N) (hms:m<=1099511627780) (k:Kz3):TA N 0 m (s:Int) b k=k (aj (aG (b.take m) / 2 ^ s)):=by
 have ew:IntKind.wrap .u64 (Int.tdiv (s:Int) 32)=0:=by rw[aq,aky (by omega)]; omega
 have es:Int.tmod (s:Int) 32=(s:Int):=by rw[akq (by omega)]; omega
 have hs0:0<2 ^ s:=ajM _
 (unfold TA; rw[af]; unfold Qy)
 by_cases h0:m=0
 ·subst h0;rw[ew,alS,show aG []=0 from rfl,Nat.zero_div,ba];rfl
 ·have emin:min s 64=s:=by omega
  rw[ew,es,aa ajv,ajy (by omega:¬(0:Int)>=(m:Int)),ajz];have hw:InW (b.take m):=hb.take m;have hwl:(b.take m).length=m:=by rw[akc]; omega
  have hwg:∀ i,i<m->(b.take m).getD i 0=b.getD i 0:=λi hi=>yk hi
  obtain⟨X,hX⟩:∃ X,X=aG (b.take m) / 2 ^ s:=⟨_,rfl⟩
  have elen2:(m:Int) - 0=(m:Int):=by omega
  rw[elen2,aa ajv,aa (bR (by omega) (by omega) (by omega) (by omega)),ajD,<- hX];refine aH (λi=>((i:Int),dl X i++List.replicate (m - i) 0)) m (by simp[dl]) (by omega) (λi hi K=>?_) (λK=>?_)
  ·have hx:=hw.at (i:=i);have hy:=hw.at (i:=i+1);have hset:=DZ X i m (by omega);have hl:(dl X i++List.replicate (m - i) (0:Int)).length=m:=by simp[am]; omega
   obtain⟨R,hR⟩:=F3 hw i;have hdig:X / 4294967296 ^ i%4294967296=(((b.take m).getD i 0).toNat+4294967296*((b.take m).getD (i+1) 0).toNat) / 2 ^ s%4294967296:=by
    rw[hX,ajF,ajB (2 ^ s),<- ajF,hR];have e2:4294967296*4294967296*R=2 ^ s*(4294967296*(2 ^ (32 - s)*R)):=by
     have hs1:2 ^ s*2 ^ (32 - s)=4294967296:=by rw[<- ajR,show s+(32 - s)=32 by omega]
     rw[ajZ (2 ^ s),<- ajI (2 ^ s),hs1,ajI]
    rw[e2,akt _ _ hs0,akO]
   have hfin:∀ z:Int,z=((((b.take m).getD i 0).toNat+4294967296*((b.take m).getD (i+1) 0).toNat:Nat):Int)->IntKind.wrap .u32 (Int.fdiv z (2 ^ s))=((X / 4294967296 ^ i%4294967296:Nat):Int):=by
    intro z hz;have e:(2:Int) ^ s=((2 ^ s:Nat):Int):=by simp
    rw[hdig,hz,e,ak4 _ (by omega),dB];rfl
   have ea:(0:Int)+(i:Int)=(i:Int):=by omega
   have ei:0+Int.toNat (i:Int)=i:=by omega
   have ei1:Int.toNat ((i:Int)+1)=i+1:=by omega
   simp only[jZ,ea,ei1,ajD,aj1,emin,hl];rw[ajx (by omega:(i:Int)<m),ajA,aa ajv,aa ajw,aa (ajx (by omega)),aa ajv,aa ajv];rw[<- hwg i hi];by_cases hlast:i+1<m
   ·rw[<- hwg (i+1) hlast];rw[ajx (by omega:(i:Int)+1<m),ajA,aa ajv,aa ajv,aa ajw,aa (ajx (by omega)),aa (ajx (by omega)),aa ajw,aa (ajx (by omega)),aa ajv];have e1:IntKind.wrap .u64 ((b.take m).getD i 0)=((((b.take m).getD i 0).toNat:Nat):Int):=by rw[aq]; omega
    have e2:IntKind.wrap .u64 (IntKind.wrap .u64 ((b.take m).getD (i+1) 0)*2 ^ 32)=((2 ^ 32*((b.take m).getD (i+1) 0).toNat:Nat):Int):=by
     have:(2:Int) ^ 32=4294967296:=by decide
     have:(2:Nat) ^ 32=4294967296:=by decide
     rw[aq,aq]; omega
    have p32:(2:Nat) ^ 32=4294967296:=by decide
    rw[e1,e2,cE _ _ 32 (by omega) (by omega),hfin _ (by omega),hset,mq]
   ·rw[ajy (by omega:¬(i:Int)+1<m),ajz,aa (ajx (by omega)),aa ajw,aa (ajx (by omega)),aa ajv];have hz:(b.take m).getD (i+1) 0=0:=e_ (by omega);have e1:IntKind.wrap .u64 ((b.take m).getD i 0)=((((b.take m).getD i 0).toNat:Nat):Int):=by rw[aq]; omega
    rw[e1,hfin _ (by rw[hz]; simp),hset,mq]
  ·simp only[jZ];have hl:(dl X m++List.replicate (m - m) (0:Int)).length=m:=by simp[am]
   rw[ajy (by omega:¬(m:Int)<(((dl X m++List.replicate (m - m) (0:Int)).length:Nat):Int)),ajz,aj8,aka,aj6];have hXl:X<4294967296 ^ m:=by have h1:=fX hw;rw[hwl]at h1;rw[hX];exact ak7 (ak8 _ _) h1
   rw[dG _ (kj X m) (by rw[am]; omega) (by rw[am]; omega),uC hXl]
theorem YM {A B r u0:Nat} (h:r*4294967296+u0<A):B+r*4294967296+u0<B+A:=by omega
theorem Hk {N:Nat} {s5:Int} {ul j n u0 v0 v1 T d:Nat} {b c ql:List Int} (hn:2<=n) (hc1:c.getD (n - 2) 0=(v0:Int)) (hb:b.getD (j+n - 2) 0=(u0:Int)) (hcl:n<=c.length) (hul:j+n<ul) (hbl:ul<=b.length) (hbs:b.length<=1099511627780)
  (hv0:v0<4294967296) (hv1:v1<4294967296) (hu0:u0<4294967296) (hTl:T<4294967296*v1+4294967296) (hd:∀ g,T*4294967296+u0<g*(v1*4294967296+v0)->d<g) (hdW:d<4294967296) :
  ∀ g r M,g<M->g<=4294967299->g*v1+r=T->r<4294967296->d<=g ->
   ∃ q,d<=q/\q<4294967296/\q*(v1*4294967296+v0)<=T*4294967296+u0 /\ ∀ e0,al M (tv N s5 n ul (n:Int) (v1:Int) (j:Int) c b ql e0) ((g:Int),(r:Int))=e0 (q:Int):=by
 intro g;induction g using Nat.strongRecOn with
 | ind g ih=>
 intro r M hM hgb hT hr hdg;obtain⟨M,rfl⟩:∃ m,M=m+1:=⟨M - 1,by omega⟩
 have i2:0+Int.toNat ((n:Int) - 2)=n - 2:=by omega
 have j2:0+Int.toNat ((j:Int)+(n:Int) - 2)=j+n - 2:=by omega
 have dec:∀ p,g=p+1->d<=p -> ∃ q,d<=q/\q<4294967296/\q*(v1*4294967296+v0)<=T*4294967296+u0 /\ ∀ e0,cond (decide ((IntKind.wrap .u64 ((r:Int)+(v1:Int)))>=4294967296)) (e0 (IntKind.wrap .u64 ((g:Int) - 1))) (al M (tv N s5 n ul (n:Int) (v1:Int) (j:Int) c b ql e0) ((IntKind.wrap .u64 ((g:Int) - 1)),(IntKind.wrap .u64 ((r:Int)+(v1:Int)))))=e0 (q:Int):=by
  intro p hp hdp;subst hp;have w1:IntKind.wrap .u64 (((p+1:Nat):Int) - 1)=(p:Int):=KE p (by omega);have w2:IntKind.wrap .u64 ((r:Int)+(v1:Int))=((r+v1:Nat):Int):=by rw[aq]; omega
  rw[w1,w2];by_cases hb2:4294967296<=r+v1
  ·have hpl:p<4294967296:=by
    rcases akv p 4294967296 with h | h
    ·exact h
    ·exfalso;have:=ajE v1 h;rw[ak5]at hT;omega
   refine⟨p,hdp,hpl,Eb hv0 (by omega) hT hb2,λe0=>?_⟩;rw[ajx (by omega),ajA]
  ·obtain⟨q,q1,q2,q3,q4⟩:=ih p (by omega) (r+v1) M (by omega) (by omega) (by rw[<- hT,ak5]; omega) (by omega) hdp;exact⟨q,q1,q2,q3,λe0=>by rw[ajy (by omega),ajz]; exact q4 e0⟩
 by_cases hg:4294967296<=g
 ·obtain⟨q,q1,q2,q3,q4⟩:=dec (g - 1) (by omega) (by omega);refine⟨q,q1,q2,q3,λe0=>?_⟩;show tv N s5 n ul (n:Int) (v1:Int) (j:Int) c b ql e0 (_,_) (al M _)=_;simp only[tv];rw[ajx (by omega:(g:Int)>=4294967296),show(true==false)=false from rfl,ajz];exact q4 e0
 ·have hgv:g*v0<=4294967295*4294967295:=ako (by omega) (by omega);have wv0:IntKind.wrap .u64 (v0:Int)=(v0:Int):=by rw[aq]; omega
  have wgv:IntKind.wrap .u64 ((g:Int)*(v0:Int))=((g*v0:Nat):Int):=by rw[<- ajU,aq]; omega
  have e1:T*4294967296+u0=g*v1*4294967296+r*4294967296+u0:=by rw[<- hT,aj2]
  have e2:g*(v1*4294967296+v0)=g*v1*4294967296+g*v0:=by rw[ajP,ajI]
  have body:∀ e0:Int->Bool,al (M+1) (tv N s5 n ul (n:Int) (v1:Int) (j:Int) c b ql e0) ((g:Int),(r:Int))=cond (decide (((g*v0:Nat):Int)>((r*4294967296+u0:Nat):Int))) (cond (decide ((IntKind.wrap .u64 ((r:Int)+(v1:Int)))>=4294967296)) (e0 (IntKind.wrap .u64 ((g:Int) - 1))) (al M (tv N s5 n ul (n:Int) (v1:Int) (j:Int) c b ql e0) ((IntKind.wrap .u64 ((g:Int) - 1)),(IntKind.wrap .u64 ((r:Int)+(v1:Int)))))) (e0 (g:Int)):=by intro e0;show tv N s5 n ul (n:Int) (v1:Int) (j:Int) c b ql e0 (_,_) (al M _)=_;simp only[tv,i2,j2,hc1,hb,wv0,wgv];rw[ajy (by omega:¬(g:Int)>=4294967296),show(false==false)=true from rfl,ajA,aa ajv,aa ajw,aa (ajx (by omega)),aa ajv,aa ajv,aa ajw,aa (ajx (by omega)),Vh hr hu0]
  by_cases ht:r*4294967296+u0<g*v0
  ·have hlt1:g*v1*4294967296+r*4294967296+u0<g*v1*4294967296+g*v0:=YM ht;have hlt:d<g:=hd g (ak7 (alF e1) (ajS hlt1 (alF e2.symm)));obtain⟨q,q1,q2,q3,q4⟩:=dec (g - 1) (by omega) (by omega);exact⟨q,q1,q2,q3,λe0=>by rw[body,ajx (by omega),ajA]; exact q4 e0⟩
  ·exact⟨g,hdg,by omega,aj0 (alF e2) (aj0 (by omega) (alF e1.symm)),λe0=>by rw[body,ajy (by omega),ajz]⟩
theorem Pi {N:Nat} {j n ul g U V:Nat} {b c:List Int} (hN:n<N) (hb:InW b) (hc:InW c) (hcl:n<=c.length) (hul:j+n<ul) (hbl:ul<=b.length) (hbs:b.length<=1099511627780) (hg:g<4294967296) (hU:U=aG ((b.drop j).take (n+1))) (hV:V=aG (c.take n)) (k:Ky2) :
  Tu N 0 ul 0 n (j:Int) (g:Int) b c k=k (decide (U<g*V)) (b.take j++(dl (U+4294967296 ^ (n+1) - g*V) (n+1)++b.drop (j+(n+1)))):=by
 (unfold Tu; rw[af]; unfold Qp)
 have hw:InW ((b.drop j).take (n+1)):=(hb.drop j).take _;have hwl:((b.drop j).take (n+1)).length=n+1:=by rw[akc,ala]; omega
 have hwg:∀ i,i<=n->((b.drop j).take (n+1)).getD i 0=b.getD (j+i) 0:=λi hi=>by rw[yk (by omega),lH]
 generalize (b.drop j).take (n+1)=w at *;have hVl:V<4294967296 ^ n:=by rw[hV]; exact bt hc n
 have hgV:g*V<4294967296 ^ (n+1):=by rw[ajK,ajB];exact akz hVl hg
 obtain⟨D,hD⟩:∃ D,D=U+4294967296 ^ (n+1) - g*V:=⟨_,rfl⟩
 obtain⟨Q,hQ⟩:∃ Q,Q=g*V:=⟨_,rfl⟩
 have hQW:Q<4294967296 ^ (n+1):=by rw[hQ]; exact hgV
 rw[<- hD];refine aH (λi=>(((g*aG (c.take i) / 4294967296 ^ i:Nat):Int),((if aG (w.take i)<Q%4294967296 ^ i then 1 else 0:Nat):Int),(i:Int),b.take j++(dl D i++b.drop (j+i)))) n ?_ (by omega) (λi hi K=>?_) (λK=>?_)
 ·simp[dl,aG,al_]
 ·have hx:=hb.at (i:=j+i);have hy:=hc.at (i:=i);have hcv:=aR (m:=c) i;have hp:=aW i;have hVi:=bt hc i;obtain⟨s1,s2⟩:=E_ hw hwl hU (by omega:i<=n) hQW;rw[hwg i (by omega)]at s1 s2;rw[hQ,<- hD,<- hQ]at s1;obtain⟨cy,hcy⟩:∃ cy,cy=g*aG (c.take i) / 4294967296 ^ i:=⟨_,rfl⟩
  have hcyl:cy<4294967296:=by rw[hcy,ajH hp];exact akz hg hVi
  have e1:g*aG (c.take (i+1))=g*aG (c.take i)+4294967296 ^ i*(g*(c.getD i 0).toNat):=by rw[hcv,ajP,ajZ g]
  have ecy:g*aG (c.take (i+1)) / 4294967296 ^ (i+1)=(g*(c.getD i 0).toNat+cy) / 4294967296:=by rw[ajK,<- ajF,e1,eZ,<- hcy];congr 1; omega
  obtain⟨R,hR⟩:=bZ (c.take n) (i+1);rw[amE,akS (by omega),<- hV]at hR;have elo:Q / 4294967296 ^ i%4294967296=(g*(c.getD i 0).toNat+cy)%4294967296:=by
   have:Q=g*aG (c.take (i+1))+4294967296 ^ (i+1)*(g*R):=by rw[hQ,hR,ajP,ajZ g]
   rw[ox this,e1,eZ,<- hcy];congr 1; omega
  rw[elo]at s1 s2;have ei:0+Int.toNat ((j:Int)+(i:Int))=j+i:=by omega
  have hgy:g*(c.getD i 0).toNat<=4294967295*4294967295:=ako (by omega) (by omega);have wy:IntKind.wrap .u64 (c.getD i 0)=(((c.getD i 0).toNat:Nat):Int):=by rw[aq]; omega
  have wp:IntKind.wrap .u64 ((g:Int)*(((c.getD i 0).toNat:Nat):Int))=((g*(c.getD i 0).toNat:Nat):Int):=by rw[<- ajU,aq]; omega
  have wpc:IntKind.wrap .u64 (((g*(c.getD i 0).toNat:Nat):Int)+(cy:Int))=((g*(c.getD i 0).toNat+cy:Nat):Int):=by rw[aq]; omega
  have wx:IntKind.wrap .u64 (b.getD (j+i) 0)=(((b.getD (j+i) 0).toNat:Nat):Int):=by rw[aq]; omega
  have hcf:Int.fdiv ((g*(c.getD i 0).toNat+cy:Nat):Int) (2 ^ 32)=((g*aG (c.take (i+1)) / 4294967296 ^ (i+1):Nat):Int):=by rw[l8,ecy]; rfl
  simp only[iP,ajD,aj1];have ei':Int.toNat ((j:Int)+(i:Int))=j+i:=by omega
  rw[ei',KD D (by omega),KC D (by omega),ajx (by omega:(i:Int)<(n:Int)),ajA,aa ajw,aa (ajx (by omega)),aa ajv,aa ajw,aa (ajx (by omega)),<- hcy,wy,wp,wpc,wx,Ir,hcf];generalize (g*(c.getD i 0).toNat+cy)%4294967296=lo at *;have hlo:lo<4294967296:=by rw[<- elo]; exact ajN _ (by decide)
  obtain⟨bo,hbo⟩:∃ bo:Nat,bo=if aG (w.take i)<Q%4294967296 ^ i then 1 else 0:=⟨_,rfl⟩
  have hbo1:bo<=1:=by rw[hbo]; split <;> omega
  rw[<- hbo]at s1 s2 ⊢;obtain⟨x,hxe⟩:∃ x,x=(b.getD (j+i) 0).toNat:=⟨_,rfl⟩
  rw[<- hxe]at s1 s2 ⊢;have hxl:x<4294967296:=by omega
  have wlb:IntKind.wrap .u64 ((lo:Int)+(bo:Int))=((lo+bo:Nat):Int):=by rw[aq]; omega
  rw[wlb];by_cases hlt:x<lo+bo
  ·rw[if_pos hlt]at s2;have wv:IntKind.wrap .u32 (IntKind.wrap .u64 (IntKind.wrap .u64 ((x:Int)+4294967296) - ((lo+bo:Nat):Int)))=((D / 4294967296 ^ i%4294967296:Nat):Int):=by rw[<- s1,aq,aq,dB]; omega
   rw[ajx (by omega),ajA,wv,aa ajv,aa ajw,aa (ajx (by omega)),aa ajv,Fi D (by omega),<- s2,mq];rfl
  ·rw[if_neg hlt]at s2;have wv:IntKind.wrap .u32 (IntKind.wrap .u64 ((x:Int) - ((lo+bo:Nat):Int)))=((D / 4294967296 ^ i%4294967296:Nat):Int):=by rw[<- s1,aq,dB]; omega
   rw[ajy (by omega),ajz,wv,aa ajv,aa ajw,aa (ajx (by omega)),aa ajv,Fi D (by omega),<- s2,mq];rfl
 ·have hx:=hb.at (i:=j+n);obtain⟨s1,s2⟩:=E_ hw hwl hU (ajL n) hQW;rw[hwg n (by omega)]at s1 s2;rw[hQ,<- hD,<- hQ]at s1;have hql:Q / 4294967296 ^ n<4294967296:=by rw[ajH (aW n),ajB,<- ajK]; exact hQW
  rw[ajJ hql]at s1 s2;have hwt:w.take (n+1)=w:=ajV (by omega);rw[hwt,<- hU,ajJ hQW]at s2;simp only[iP];have ei':0+Int.toNat ((j:Int)+(n:Int))=j+n:=by omega
  rw[ajy (by omega:¬(n:Int)<(n:Int)),ajz,<- hV,<- hQ];rw[ei',KD D (by omega),KC D (by omega),aa ajv,aa ajw,aa (ajx (by omega)),aa ajv,aa ajw,aa (ajx (by omega))];obtain⟨y,hy⟩:∃ y,y=Q / 4294967296 ^ n:=⟨_,rfl⟩
  rw[<- hy]at s1 s2 hql ⊢;obtain⟨bo,hbo⟩:∃ bo:Nat,bo=if aG (w.take n)<Q%4294967296 ^ n then 1 else 0:=⟨_,rfl⟩
  have hbo1:bo<=1:=by rw[hbo]; split <;> omega
  rw[<- hbo]at s1 s2 ⊢;have wx:IntKind.wrap .u64 (b.getD (j+n) 0)=(((b.getD (j+n) 0).toNat:Nat):Int):=by rw[aq]; omega
  rw[wx];obtain⟨x,hxe⟩:∃ x,x=(b.getD (j+n) 0).toNat:=⟨_,rfl⟩
  rw[<- hxe]at s1 s2 ⊢;have hxl:x<4294967296:=by omega
  have wlb:IntKind.wrap .u64 ((y:Int)+(bo:Int))=((y+bo:Nat):Int):=by rw[aq]; omega
  have wv:IntKind.wrap .u32 (IntKind.wrap .u64 ((x:Int) - ((y+bo:Nat):Int)))=((D / 4294967296 ^ n%4294967296:Nat):Int):=by rw[<- s1,aq,dB]; omega
  rw[wlb,wv,Fi D (by omega)];have hdec:decide ((x:Int)<((y+bo:Nat):Int))=decide (U<Q):=by
   by_cases h1:U<Q
   ·rw[if_pos h1]at s2;rw[ajx h1];refine ajx ?_;split at s2 <;> omega
   ·rw[if_neg h1]at s2;rw[ajy h1];refine ajy ?_;split at s2 <;> omega
  rw[hdec]
theorem Pl {N:Nat} {j n ul D V:Nat} {b c:List Int} (hN:n<N) (hc:InW c) (hcl:n<=c.length) (hul:j+n<ul) (hbl:ul<=b.length) (hbs:b.length<=1099511627780) (hV:V=aG (c.take n)) (k:Kz3) :
  Tv N 0 ul 0 n (j:Int) (b.take j++(dl D (n+1)++b.drop (j+(n+1)))) c k=k (b.take j++(dl (D+V) (n+1)++b.drop (j+(n+1)))):=by
 (unfold Tv; rw[af]; unfold Qq)
 obtain⟨E,hE⟩:∃ E,E=D+V:=⟨_,rfl⟩
 rw[<- hE];refine aH (λi=>((((D%4294967296 ^ i+aG (c.take i)) / 4294967296 ^ i:Nat):Int),(i:Int),b.take j++(dl E i++((dl D (n+1)).drop i++b.drop (j+(n+1)))))) n ?_ (by omega) (λi hi K=>?_) (λK=>?_)
 ·simp[dl,aG,al_]
 ·have hx:=hc.at (i:=i);have hcv:=aR (m:=c) i;have hVl:=bt hc i;have hp:=aW i;have hml:=ajN D hp;obtain⟨cy,hcy⟩:∃ cy,cy=(D%4294967296 ^ i+aG (c.take i)) / 4294967296 ^ i:=⟨_,rfl⟩
  have hcl1:cy<=1:=by
   have:cy<2:=by rw[hcy,ajH hp]; omega
   omega
  obtain⟨a1,a2⟩:=DE (D:=D) (V:=aG (c.take i)) (v:=(c.getD i 0).toNat) hcy;obtain⟨R,hR⟩:=bZ (c.take n) (i+1);rw[amE,akS (by omega),<- hV,hcv]at hR;have a3:=a2 R;rw[<- hR,<- hE]at a3;have hdl:D / 4294967296 ^ i%4294967296<4294967296:=ajN _ (by decide);have ei':Int.toNat ((j:Int)+(i:Int))=j+i:=by omega
  simp only[iQ,ajD,aj1,ei'];rw[KA D E (by omega) (by omega),Kz D E (by omega) (by omega)];have wy:IntKind.wrap .u64 (c.getD i 0)=(((c.getD i 0).toNat:Nat):Int):=by rw[aq]; omega
  obtain⟨dg,hdg⟩:∃ dg,dg=D / 4294967296 ^ i%4294967296:=⟨_,rfl⟩
  rw[<- hdg]at a1 a3 hdl ⊢;have ws:IntKind.wrap .u64 (IntKind.wrap .u64 (IntKind.wrap .u64 (dg:Int)+(((c.getD i 0).toNat:Nat):Int))+(cy:Int))=((dg+(c.getD i 0).toNat+cy:Nat):Int):=by rw[aq,aq,aq]; omega
  have wf:Int.fdiv ((dg+(c.getD i 0).toNat+cy:Nat):Int) (2 ^ 32)=(((D%4294967296 ^ (i+1)+aG (c.take (i+1))) / 4294967296 ^ (i+1):Nat):Int):=by rw[hcv,a1,l8]; rfl
  have w3:IntKind.wrap .u32 ((dg+(c.getD i 0).toNat+cy:Nat):Int)=((E / 4294967296 ^ i%4294967296:Nat):Int):=by rw[a3,dB]; rfl
  rw[ajx (by omega:(i:Int)<(n:Int)),ajA,aa ajv,aa ajw,aa (ajx (by omega)),aa ajw,aa (ajx (by omega)),aa ajv,aa ajw,aa (ajx (by omega)),aa ajv,<- hcy,wy,ws,wf,w3,KB D E (by omega) (by omega),mq]
 ·have hp:=aW n;have hml:=ajN D hp;have hVl:V<4294967296 ^ n:=by rw[hV]; exact bt hc n
  obtain⟨cy,hcy⟩:∃ cy,cy=(D%4294967296 ^ n+V) / 4294967296 ^ n:=⟨_,rfl⟩
  have hcl1:cy<=1:=by
   have:cy<2:=by rw[hcy,ajH hp]; omega
   omega
  obtain⟨a1,a3⟩:=Io (D:=D) (V:=V) (i:=n) hcy;rw[<- hE]at a3;have hdl:D / 4294967296 ^ n%4294967296<4294967296:=ajN _ (by decide);have ei':0+Int.toNat ((j:Int)+(n:Int))=j+n:=by omega
  simp only[iQ];rw[ajy (by omega:¬(n:Int)<(n:Int)),ajz,ei',KA D E (by omega) (by omega),Kz D E (by omega) (by omega),<- hV,<- hcy];obtain⟨dg,hdg⟩:∃ dg,dg=D / 4294967296 ^ n%4294967296:=⟨_,rfl⟩
  rw[<- hdg]at a3 hdl ⊢;have w3:IntKind.wrap .u32 ((dg:Int)+IntKind.wrap .u32 (cy:Int))=((E / 4294967296 ^ n%4294967296:Nat):Int):=by rw[a3,dB,dB]; omega
  rw[aa ajv,aa ajw,aa (ajx (by omega)),aa ajw,aa (ajx (by omega)),w3,KB D E (by omega) (by omega)];rw[aki (by rw[am]; omega),akl]
theorem UY {P A B U3 V2 U V g:Nat} (hB:B<P) (hg:g*P<=V) (hU:U=A+P*U3) (hV:V=B+P*V2) (h:g*V2<=U3) (hV0:0<V):g<=U / V+1:=by
 have h1:g*B<=g*P:=ajG _ (by omega);have h2:P*(g*V2)<=P*U3:=ajG _ h;have h3:g*V=g*B+P*(g*V2):=by rw[hV,ajP,ajZ g P]
 have h4:g*V<=U+V:=by omega
 have h5:=alZ U hV0;have h6:g*V<(U / V+2)*V:=by rw[show U / V+2=U / V+1+1 by omega,ak5,ajB (U / V+1)];omega
 have:=Nat.lt_of_mul_lt_mul_right h6;omega
theorem Zz {V Y Z X U Q:Nat} (h1:V<Y) (h2:Y<=Z) (h3:X<=U) (h4:X=Q*4294967296) (h5:U<V*4294967296):Q<Z:=by omega
theorem UG {P A B U V T u0 v0 v1:Nat} (hA:A<P) (hB:B<P) (hU:U=A+P*(u0+4294967296*T)) (hV:V=B+P*(v0+4294967296*v1)) (hv0:v0<4294967296) (hUV:U<V*4294967296):T<4294967296*v1+4294967296:=by
 have h1:V<P*(v0+4294967296*v1+1):=by rw[hV,amQ]; omega
 have h2:P*(v0+4294967296*v1+1)<=P*(4294967296*v1+4294967296):=ajG _ (by omega);have h3:P*(4294967296*T)<=U:=by rw[hU,ajP P u0]; omega
 have h4:P*(4294967296*T)=P*T*4294967296:=by rw[ajB 4294967296,ajI]
 have h5:P*T<P*(4294967296*v1+4294967296):=Zz h1 h2 h3 h4 hUV;exact alT h5
theorem OU {N:Nat} (hN:5<N) {a:List Int} {s:Int} {d:Nat} {dl':List Int} {X la:Nat} (hla:a.length=la) (hX:X<4294967296 ^ (la+1)) (h1:la<=(aj X).length) (hs:la<=1099511627000) (e0:Nat->List Int->Bool) :
  al N (tu N a s d dl' e0) ((aj X).length,dl X (la+1))=e0 (la+1) (dl X (la+1)):=by
 have h2:(aj X).length<=la+1:=cG _ _ hX;have last:∀ K,tu N a s d dl' e0 (la+1,dl X (la+1)) K=e0 (la+1) (dl X (la+1)):=by intro K;simp only[tu];rw[hla,aa ajv,ajy (by omega),ajz]
 by_cases h:(aj X).length=la+1
 ·rw[h];exact aH (λi=>(la+1,dl X (la+1))) 0 rfl (by omega) (λi hi K=>by omega) last
 ·have hl:(aj X).length=la:=by omega
  rw[hl];refine aH (λi=>(la+i,dl X (la+1))) 1 rfl (by omega) (λi hi K=>?_) last;have:i=0:=by omega
  subst this;have e1:(dl X (la+1)).take la++[0]=dl X (la+1):=by
   rw[tH X (by omega),dl];have:X / 4294967296 ^ la%4294967296=0:=by have:=j6 X;rw[hl]at this;rw[aj3 this]
   rw[this]; rfl
  show tu N a s d dl' e0 (la,dl X (la+1)) K=K (la+1,dl X (la+1));simp only[tu];rw[hla,aa ajv,ajx (by omega),ajA,aa (ajx (by rw[am]; omega)),ak2,e1,am,aa (ajx (by omega))]
theorem Y6 {N:Nat} (hN:1180591620717411303424<=N) {n j ul V v1:Nat} {s:Int} {b ql:List Int} (hVlt:V<4294967296 ^ (n+2)) (hVge:4294967296 ^ (n+1)<=V) (hv1:v1=V / 4294967296 ^ (n+1)) (hv1lo:2147483648<=v1) (hv1hi:v1<4294967296) (hbw:InW b) (hblen:b.length=ul) (hjl:j+(n+2)<ul) (hls:ul<=1099511627700) (hjq:j<ql.length)
  (hUlt:aG ((b.drop j).take (n+2+1))<V*4294967296) (e0:List Int->List Int->Bool) (K:Int × List Int × List Int->Bool) :
  kR N s (n+2) ul ((n+2:Nat):Int) (v1:Int) (dl V (n+2+1)) e0 ((j:Int),b,ql) K
   = K ((j:Int) - 1,b.take j++(dl (aG ((b.drop j).take (n+2+1))%V) (n+2+1)++b.drop (j+(n+2+1))),ql.set j ((aG ((b.drop j).take (n+2+1)) / V:Nat):Int)):=by
 have hV0:0<V:=ajS (aW _) hVge;have hcv:aG ((dl V (n+2+1)).take (n+2))=V:=by rw[tH V (by omega),vl,ajJ hVlt]
 have hU3:=aaH (b.drop j) n;have hV2:=aaG (dl V (n+2+1)) n;rw[show n+3=n+2+1 by omega,lH,lH,lH]at hU3;rw[hcv]at hV2;have a0:=hbw.at (i:=j+n);have a1:=hbw.at (i:=j+(n+1));have a2:=hbw.at (i:=j+(n+2));have c0:=(kj V (n+2+1)).at (i:=n);obtain⟨u0,hu0⟩:∃ u,u=(b.getD (j+n) 0).toNat:=⟨_,rfl⟩
 obtain⟨u1,hu1⟩:∃ u,u=(b.getD (j+(n+1)) 0).toNat:=⟨_,rfl⟩
 obtain⟨u2,hu2⟩:∃ u,u=(b.getD (j+(n+2)) 0).toNat:=⟨_,rfl⟩
 obtain⟨v0,hv0⟩:∃ u,u=((dl V (n+2+1)).getD n 0).toNat:=⟨_,rfl⟩
 have q0:b.getD (j+n) 0=(u0:Int):=by omega
 have q1:b.getD (j+(n+1)) 0=(u1:Int):=by omega
 have q2:b.getD (j+(n+2)) 0=(u2:Int):=by omega
 have k0:(dl V (n+2+1)).getD n 0=(v0:Int):=by omega
 have k1:((dl V (n+2+1)).getD (n+1) 0).toNat=v1:=by rw[yf V (by omega),ajD,<- hv1,ajJ hv1hi]
 rw[<- hu0,<- hu1,<- hu2]at hU3;rw[<- hv0,k1]at hV2;have hAb:=bt (hbw.drop j) n;have hBb:=bt (kj V (n+2+1)) n;have hwv:∃ U,U=aG ((b.drop j).take (n+2+1)):=⟨_,rfl⟩
 obtain⟨U,hwv⟩:=hwv;rw[<- hwv]at hU3 hUlt ⊢;have hT:=UG hAb hBb hU3 hV2 (by omega) hUlt;have hdW:U / V<4294967296:=by rw[ajH hV0,ajB]; exact hUlt
 have hv1p:0<v1:=by omega
 obtain⟨T,hTe⟩:∃ T,T=u2*4294967296+u1:=⟨_,rfl⟩
 rw[<- hTe]at hU3 hT;have hg0:T / v1<=4294967298:=by
  have:T / v1<4294967299:=by rw[ajH hv1p]; omega
  omega
 have hkb:U / V<=T / v1:=by rw[hTe]; rw[hTe]at hU3; exact Np hAb hU3 hV2 hV0 hv1p (by omega)
 obtain⟨g,p1,p2,p3,p4⟩:=Hk (N:=N) (s5:=s) (ul:=ul) (j:=j) (n:=n+2) (u0:=u0) (v0:=v0) (v1:=v1) (T:=T) (d:=U / V) (b:=b) (c:=dl V (n+2+1)) (ql:=ql) (by omega) (by rw[show n+2 - 2=n by omega]; exact k0) (by rw[show j+(n+2) - 2=j+n by omega]; exact q0) (by rw[am]; omega) (by omega) (by omega) (by omega) (by omega) hv1hi (by omega) hT
  (λg hg=>Hn hAb hU3 hV2 hV0 (by rw[alp v0,ajB 4294967296 v1]; omega)) hdW
  (T / v1) (T%v1) N (by omega) (by omega) (aku _ _) (ali (ajN _ hv1p) hv1hi) hkb
 have hgd:g<=U / V+1:=UY hBb (by have:g*4294967296 ^ n<=4294967296*4294967296 ^ n:=ajE _ (Nat.le_of_lt p2);rw[<- Nat.pow_succ']at this;exact aj0 this hVge) hU3 hV2 (by rw[alp v0,ajB 4294967296 v1]; omega) hV0
 have hless:=λkk=>Pi (N:=N) (j:=j) (n:=n+2) (ul:=ul) (g:=g) (U:=U) (V:=V) (b:=b) (c:=dl V (n+2+1)) (by omega) hbw (kj _ _) (by rw[am]; omega) (by omega) (by omega) (by omega) p2 hwv hcv.symm kk
 have jn:0+Int.toNat ((j:Int)+((n+2:Nat):Int))=j+(n+2):=by omega
 have jn1:0+Int.toNat ((j:Int)+((n+2:Nat):Int) - 1)=j+(n+1):=by omega
 have top0:(!decide ((v1:Int)=0))=true:=by simp; omega
 have wu2:IntKind.wrap .u64 (u2:Int)=(u2:Int):=by rw[aq]; omega
 have hor:aE .or .u64 (IntKind.wrap .u64 ((u2:Int)*2 ^ 32)) (IntKind.wrap .u64 (u1:Int))=(T:Int):=by rw[Vh (by omega) (by omega),hTe]
 have etd:IntKind.wrap .u64 (Int.tdiv (T:Int) (v1:Int))=((T / v1:Nat):Int):=by have:Int.tdiv (T:Int) (v1:Int)=((T / v1:Nat):Int):=rfl;rw[this,aq];generalize T / v1=z at *;omega
 have etm:Int.tmod (T:Int) (v1:Int)=((T%v1:Nat):Int):=rfl;have hfin:dl (U+4294967296 ^ (n+2+1) - U / V*V) (n+2+1)=dl (U%V) (n+2+1):=by
  have e:U+4294967296 ^ (n+2+1) - (U / V)*V=U%V+4294967296 ^ (n+2+1)*1:=by have:=aku U V;omega
  rw[e,Ng _ _ _ (ajL _)]
 have hgV:g*V<4294967296 ^ (n+2+1):=by rw[ajK,ajB];exact akz hVlt p2
 simp only[kR,jn,jn1,q1,q2,wu2,hor,etd,etm];rw[ajx (by omega:(j:Int)>=0),ajA,aa ajv,aa ajw,aa (ajx (by omega)),aa ajv,aa ajv,aa ajw,aa (ajx (by omega)),aa top0,aa top0,p4,hless];by_cases hlt:U<g*V
 ·have hge:g=U / V+1:=by
   have:U / V<g:=by
    rcases akv (U / V) g with h | h
    ·exact h
    ·have:=(ale hV0).1 h; omega
   omega
  have hmore:=λkk=>Pl (N:=N) (j:=j) (n:=n+2) (ul:=ul) (D:=U+4294967296 ^ (n+2+1) - g*V) (V:=V) (b:=b) (c:=dl V (n+2+1)) (by omega) (kj _ _) (by rw[am]; omega) (by omega) (by omega) (by omega) hcv.symm kk
  have hD:U+4294967296 ^ (n+2+1) - g*V+V=U+4294967296 ^ (n+2+1) - U / V*V:=by
   have:g*V=U / V*V+V:=by rw[hge,ak5]
   omega
  have wg:IntKind.wrap .u32 (IntKind.wrap .u64 ((g:Int) - 1))=((U / V:Nat):Int):=by rw[hge];generalize U / V=z at *;rw[aq,dB]; omega
  rw[ajx hlt,ajA,hmore,hD,hfin,aa ajw,aa (ajx (by omega)),aa ajv,ajD,wg]
 ·have hge:g=U / V:=by have:=(ale hV0).2 (Nat.le_of_not_lt hlt);omega
  have wg:IntKind.wrap .u32 (g:Int)=((U / V:Nat):Int):=by rw[hge];generalize U / V=z at *;rw[dB]; omega
  rw[ajy hlt,ajz,wg,hge,hfin,aa ajw,aa (ajx (by omega)),aa ajv,ajD]
theorem Ey {N:Nat} (hN:1180591620717411303424<=N) {x y:Nat} (hxy:y<=x) (hy2:2<=(aj y).length) (hxl:(aj x).length<=1099511627000) (k:Ky7) :
  xw N (aj x) (aj y) k=k (aj (x / y)) (aj (x%y)):=by
 have hy0:y ≠ 0:=by intro h; rw[h,ba]at hy2; simp at hy2
 have hyx:=bW hxy;have hylt:=j6 y;have hxlt:=j6 x;have hylo:4294967296 ^ ((aj y).length - 1)<=y:=by
  rcases akv y (4294967296 ^ ((aj y).length - 1))with h | h
  ·have:=cG _ _ h; omega
  ·exact h
 (unfold xw; rw[af]; unfold KI)
 rw[lM x y ⟨by omega,by omega⟩ ⟨by omega,by omega⟩];have hc:decide (d8 x y<0)=false:=by unfold d8; rw[if_neg (by omega)]; split <;> rfl
 obtain⟨n,hn⟩:∃ n,(aj y).length=n+2:=⟨(aj y).length - 2,by omega⟩
 obtain⟨lx,hlx⟩:∃ lx,(aj x).length=lx:=⟨_,rfl⟩
 have htd:(aj y).getD (n+1) 0=((y / 4294967296 ^ (n+1):Nat):Int):=by rw[qQ,ajJ];rw[ajH (aW _),ajB,<- ajK];rw[hn]at hylt; exact hylt
 rw[hn]at hylt hylo;rw[hlx]at hxlt;rw[show n+2 - 1=n+1 by omega]at hylo;obtain⟨t,ht⟩:∃ t,t=y / 4294967296 ^ (n+1):=⟨_,rfl⟩
 rw[<- ht]at htd;have htl:t<4294967296:=by rw[ht,ajH (aW _),ajB,<- ajK]; exact hylt
 have ht0:t ≠ 0:=by have:=alY hylo (aW (n+1)); omega
 obtain⟨g1,g2,g3⟩:=PY ht0 htl;have ein:Int.toNat (((n+2:Nat):Int) - 1)=n+1:=by omega
 have e1':(((n+2:Nat):Int)==1)=false:=by simp; omega
 rw[hc,ajz,hn,e1',ajz,aa ajv,aa ajw,ein,htd,SA N htl];obtain⟨s,hs⟩:∃ s,s=32 - bl t:=⟨_,rfl⟩
 rw[<- hs]at g1 g2 g3 ⊢;have hs0:0<2 ^ s:=ajM s;have ews:IntKind.wrap .u64 ((s:Nat):Int)=(s:Int):=by rw[aq]; omega
 rw[ews];obtain⟨V,hV⟩:∃ V,V=y*2 ^ s:=⟨_,rfl⟩
 obtain⟨X,hX⟩:∃ X,X=x*2 ^ s:=⟨_,rfl⟩
 have hVlt:V<4294967296 ^ (n+2):=by
  have h1:=alZ y (aW (n+1));rw[<- ht]at h1;have h2:y*2 ^ s<4294967296 ^ (n+1)*(t+1)*2 ^ s:=akm h1 hs0;have h3:(t+1)*2 ^ s<=4294967296:=by
   have hd:2 ^ s*2 ^ (32 - s)=4294967296:=by rw[<- ajR,show s+(32 - s)=32 by omega]
   have h4:t<2 ^ (32 - s):=by rw[ajB]at g3;rw[<- hd]at g3;exact alT g3
   rw[<- hd,ajB];exact ajG _ h4
  have h5:=ajG (4294967296 ^ (n+1)) h3;rw[hV,show n+2=n+1+1 by omega,ajK];rw[ajI]at h2;omega
 have hVge:4294967296 ^ (n+1)<=V:=by rw[hV]; exact aj0 hylo (akk _ hs0)
 have hVlen:(aj V).length=n+2:=Va hVge hVlt;have hV0:0<V:=ajS (aW _) hVge;have hx0:x ≠ 0:=by omega
 have hvt:V / 4294967296 ^ (n+1)=t*2 ^ s+y%4294967296 ^ (n+1)*2 ^ s / 4294967296 ^ (n+1):=by
  have h1:=aks y (4294967296 ^ (n+1));rw[<- ht]at h1;have h2:V=y%4294967296 ^ (n+1)*2 ^ s+4294967296 ^ (n+1)*(t*2 ^ s):=by rw[hV,<- ajI,<- aj2]; congr 1; omega
  rw[h2,eZ]; omega
 have hv1lo:2147483648<=V / 4294967296 ^ (n+1):=by rw[hvt]; exact aj0 g2 (alU _ _)
 have hv1hi:V / 4294967296 ^ (n+1)<4294967296:=by rw[ajH (aW _),ajB,<- ajK]; exact hVlt
 rw[xd hy0 g1 (by omega) (by omega),hn,<- hV,hVlen,xd hx0 g1 (by omega) (by omega),hlx,<- hX];have hs2:2 ^ s<=4294967296:=by rw[<- HH]; exact ajO (by decide) (by omega)
 have hXlt:X<4294967296 ^ (lx+1):=by rw[hX,ajK]; exact akg hxlt hs2 (by decide)
 have hXlen2:lx<=(aj X).length:=by rw[<- hlx,hX]; exact bW (akk _ hs0)
 rw[OU (by omega) hlx hXlt hXlen2 (by omega)];unfold M5;obtain⟨M,hM⟩:∃ M,lx+1=M+(n+2):=⟨lx+1 - (n+2),by omega⟩
 have eM:(((lx+1:Nat):Int) - ((n+2:Nat):Int))=(M:Int):=by omega
 have ein2:0+Int.toNat (((n+2:Nat):Int) - 1)=n+1:=by omega
 rw[eM,ajD,akV,ein2,yf V (by omega),ajJ hv1hi];obtain⟨v1,hv1⟩:∃ v1,v1=V / 4294967296 ^ (n+1):=⟨_,rfl⟩
 rw[<- hv1]at hv1lo hv1hi ⊢;have wv1:IntKind.wrap .u64 (v1:Int)=(v1:Int):=by rw[aq]; omega
 rw[wv1,aa ajv,aa (bR (by omega) (by omega) (by omega) (by omega)),aa ajv,aa ajw,aa (ajx (by rw[am]; omega)),aa ajv];have hstart:dl X (lx+1)=dl X M++(dl (X / 4294967296 ^ M%V) (n+2)++List.replicate 0 0):=by
  have hXM:X / 4294967296 ^ M<V:=by
   rw[ajH (aW M),hX,hV];have h1:x*2 ^ s<4294967296 ^ lx*2 ^ s:=akm hxlt hs0;have h2:4294967296 ^ lx=4294967296 ^ (n+1)*4294967296 ^ M:=by rw[<- ajR]; congr 1; omega
   have h3:=ajE (4294967296 ^ M*2 ^ s) hylo;rw[h2,ajI]at h1;have e:y*2 ^ s*4294967296 ^ M=y*(4294967296 ^ M*2 ^ s):=by rw[ajI,ajB (2 ^ s)]
   rw[e]; omega
  rw[ajJ hXM,aka,aj6,<- F5,<- hM]
 rw[hstart];have hQlt:X / V<4294967296 ^ M:=by
  rw[ajH hV0];have h1:x*2 ^ s<4294967296 ^ lx*2 ^ s:=akm hxlt hs0;have h2:4294967296 ^ lx=4294967296 ^ M*4294967296 ^ (n+1):=by rw[<- ajR]; congr 1; omega
  have h3:=ajG (4294967296 ^ M) (ajE (2 ^ s) hylo);rw[hX,hV];rw[h2,ajI]at h1;omega
 have hmk:M<=1099511627001:=by omega
 refine aH (λi=>((M:Int) - 1 - (i:Int),dl X (M - i)++(dl (X / 4294967296 ^ (M - i)%V) (n+2)++List.replicate i 0),List.replicate (M - i) (0:Int)++(dl (X / V) M).drop (M - i))) M ?_ (by omega) (λi hi K=>?_) (λK=>?_)
 ·rw[alD,aki (by rw[am]; omega),aj6];congr 1;omega
 ·obtain⟨j,hj⟩:∃ j,M - i=j+1:=⟨M - i - 1,by omega⟩
  have hj2:M - (i+1)=j:=by omega
  have ei:(M:Int) - 1 - (i:Int)=(j:Int):=by omega
  have ei2:(M:Int) - 1 - ((i+1:Nat):Int)=(j:Int) - 1:=by omega
  rw[hj,hj2,ei,ei2];obtain⟨A,hA⟩:∃ A,A=X / 4294967296 ^ j:=⟨_,rfl⟩
  have hA1:X / 4294967296 ^ (j+1)=A / 4294967296:=by rw[hA,ajK,ajF]
  obtain⟨n1,n2⟩:=E3 (A:=A) hV0;obtain⟨R,hR⟩:∃ R,R=A / 4294967296%V:=⟨_,rfl⟩
  have hRV:R<V:=by rw[hR]; exact ajN _ hV0
  rw[hA1,<- hR];rw[<- hR]at n1 n2;obtain⟨b,hb⟩:∃ b,b=dl X (j+1)++(dl R (n+2)++List.replicate i 0):=⟨_,rfl⟩
  have hblen:b.length=lx+1:=by rw[hb]; simp[am]; omega
  have hbw:InW b:=by
   rw[hb];intro z hz;rcases List.mem_append.1 hz with h | h
   ·exact kj _ _ z h
   ·rcases List.mem_append.1 h with h | h
    ·exact kj _ _ z h
    ·have:=(List.mem_replicate.1 h).2; subst this; omega
  have hbt:b.take j=dl X j:=by rw[hb,akx (by rw[am]; omega),tH X (by omega)]
  have hbd:b.drop j=((A%4294967296:Nat):Int)::(dl R (n+2)++List.replicate i 0):=by rw[hb,dl,ajQ,akw (by rw[am]; omega),aki (by rw[am]; omega),akl,hA];rfl
  have hwv:aG ((b.drop j).take (n+2+1))=R*4294967296+A%4294967296:=by rw[hbd,amn,akx (by rw[am]; omega),ajV (by rw[am]; omega),aG,vl,ajJ (ali hRV hVlt),ajD];omega
  have hbd2:b.drop (j+(n+2+1))=List.replicate i 0:=by rw[<- List.drop_drop,hbd,List.drop_succ_cons,akw (by rw[am]; omega),aki (by rw[am]; omega),akl]
  have hcv:aG ((dl V (n+2+1)).take (n+2))=V:=by rw[tH V (by omega),vl,ajJ hVlt]
  have hAm:A%4294967296<4294967296:=ajN _ (by decide);have hUlt:R*4294967296+A%4294967296<V*4294967296:=by have:=ajE 4294967296 hRV;rw[ak5]at this;omega
  have hnext:dl X j++(dl (A%V) (n+2+1)++List.replicate i 0)=dl X j++(dl (A%V) (n+2)++List.replicate (i+1) 0):=by rw[IX (ali (ajN A hV0) hVlt) 1,ajQ,akh];rfl
  have hdg:X / V / 4294967296 ^ j%4294967296=A / V%4294967296:=by rw[hA,ajF,ajF,ajB V]
  have hql:(List.replicate (j+1) (0:Int)++(dl (X / V) M).drop (j+1)).length=M:=by simp[am]; omega
  have hstep:=Y6 (s:=(s:Int)) (j:=j) (b:=b) (ul:=lx+1) (ql:=List.replicate (j+1) (0:Int)++(dl (X / V) M).drop (j+1)) hN hVlt hVge hv1 hv1lo hv1hi hbw hblen (by omega) (by omega) (by omega) (by rw[hwv]; exact hUlt);rw[<- hb,hstep,hwv,n1,n2,hbt,hbd2,hnext,<- hdg,JY _ _ _ (by omega),<- hA]
 ·simp only[kR];have e0:(M:Int) - 1 - (M:Int) = -1:=by omega
  rw[e0,ajy (by omega),ajz,aj8,alq,aln,aka,akl,ak2];obtain⟨L,hL⟩:∃ L,L=dl X 0++(dl (X%V) (n+2)++List.replicate M 0):=⟨_,rfl⟩
  have hRlt:X%V<4294967296 ^ (n+2):=ali (ajN _ hV0) hVlt;have hLt:L.take (n+2)=dl (X%V) (n+2):=by rw[hL,show dl X 0=[] from rfl,akl,akx (by rw[am]; omega),ajV (by rw[am]; omega)]
  have hLw:InW L:=by
   rw[hL];intro z hz;rcases List.mem_append.1 hz with h | h
   ·cases h
   ·rcases List.mem_append.1 h with h | h
    ·exact kj _ _ z h
    ·have:=(List.mem_replicate.1 h).2; subst this; omega
  have hLlen:n+2<=L.length:=by rw[hL]; simp[am]
  have en:Int.toNat ((n+2:Nat):Int) - 0=n+2:=by omega
  rw[<- hL,nJ _ (by rw[am]; omega) (by rw[am]; omega),en,aa (ajx (by omega)),Pc L (n+2) hLlen (by omega) (by omega)];have hcl:=lG L (n+2);rw[Hv L hLw (bQ L (n+2)) s (by omega) g1 (by omega) (by omega),wK,hLt,vl,ajJ hRlt,am,DS hQlt];have hQlen:=cG _ _ hQlt;rw[aa (ajx (by omega)),ak2,tH _ hQlen,UK,hX,hV,amd _ _ hs0,ame,alf _ hs0]
theorem yu {N:Nat} (hN:1180591620717411303424<=N) {x y:Nat} (hy:0<y) (hxl:(aj x).length<=1099511627000) (hyl:(aj y).length<=1099511627000) (k:Ky7) :
  xw N (aj x) (aj y) k=k (aj (x / y)) (aj (x%y)):=by
 by_cases hxy:y<=x
 ·by_cases h2:2<=(aj y).length
  ·exact Ey hN hxy h2 hxl k
  ·have hylt:=j6 y;have hl1:(aj y).length=1:=by rw[cu (by omega)]at h2 ⊢; simp at h2 ⊢; exact h2
   rw[hl1,amy]at hylt;have hd:=ye (by omega:y ≠ 0) hylt;have hc:decide (d8 x y<0)=false:=by unfold d8; rw[if_neg (by omega)]; split <;> rfl
   (unfold xw; rw[af]; unfold KI)
   rw[lM x y ⟨by omega,by omega⟩ ⟨by omega,by omega⟩,hc,ajz,hd];show cond (((1:Nat):Int)==1) _ _=_;rw[show(((1:Nat):Int)==1)=true from rfl,ajA,aa (ai (by omega) (by simp))];show Ka N (aj x) (y:Int) _=_;have hm:x%y<4294967296:=ali (ajN _ hy) hylt;have hw:InW [((x%y:Nat):Int)]:=by intro z hz;simp only[akY,alx,or_false]at hz;subst hz; omega
   have hv:aG [((x%y:Nat):Int)]=x%y:=by simp only[aG]; omega
   have hct:=dG (N:=N) [((x%y:Nat):Int)] hw (by simp; omega) (by simp) (λz=>k (aj (x / y)) z);rw[hv]at hct;rw[LU hy hylt ⟨by omega,by omega⟩];exact hct
 ·have hc:decide (d8 x y<0)=true:=by unfold d8; rw[if_pos (by omega)]; rfl
  (unfold xw; rw[af]; unfold KI)
  rw[lM x y ⟨by omega,by omega⟩ ⟨by omega,by omega⟩,hc,ajA,akl,aa (ajx (by omega)),aj3 (by omega),ajJ (by omega),ba]
theorem Ju {N V f:Nat} (hf:f<4294967296000) (hN:20<N) (hs:gl N (aj V)) (hf2:f<4294967296\/True) (hlt:V / 2 ^ f<18446744073709551616) (hr:∀ kk,A_ N (aj V) (f:Int) kk=kk (aj (V / 2 ^ f))) (k:Ky9):vq N (aj V) (f:Int) k=k ((V / 2 ^ f:Nat):Int):=by
 (unfold vq; rw[af]; unfold zq)
 have wf:IntKind.wrap .u64 (f:Int)=(f:Int):=by rw[aq]; omega
 rw[wf,hr];obtain⟨Y,hY⟩:∃ Y,Y=V / 2 ^ f:=⟨_,rfl⟩
 rw[<- hY]at hlt ⊢;have hl2:(aj Y).length<=2:=cG 2 Y (by
  have:(4294967296:Nat) ^ 2=18446744073709551616:=by decide
  omega)
 have hYl:=j6 Y;obtain⟨L,hL⟩:∃ L,(aj Y).length=L:=⟨_,rfl⟩
 rw[hL]at hl2 hYl ⊢;rw[aa ajv];refine aH (λi=>(((Y / 4294967296 ^ (L - i):Nat):Int),(L:Int) - 1 - (i:Int))) L ?_ (by omega) (λi hi K=>?_) (λK=>?_)
 ·rw[alD,aj3 hYl]; simp
 ·obtain⟨m,hm⟩:∃ m,L - i=m+1:=⟨L - i - 1,by omega⟩
  have hm2:L - (i+1)=m:=by omega
  have ei:(L:Int) - 1 - (i:Int)=(m:Int):=by omega
  have ei2:(L:Int) - 1 - ((i+1:Nat):Int)=(m:Int) - 1:=by omega
  rw[hm,hm2,ei,ei2];have hp:Y / 4294967296 ^ (m+1)=Y / 4294967296 ^ m / 4294967296:=by rw[ajK,ajF]
  have hle:=ak8 Y (4294967296 ^ m);simp only[om,ajD];rw[ajx (by omega:(m:Int)>=0),ajA,hL,aa ajw,aa ajv,qQ,hp];generalize Y / 4294967296 ^ m=Z at *;rw[Vh (by omega) (by omega)];congr 2;omega
 ·simp only[om];have e0:(L:Int) - 1 - (L:Int) = -1:=by omega
  rw[e0,ajy (by omega),ajz,aj8,alq,aln]
def sgn (neg:Bool) (n:Nat):Int:=cond neg (-(n:Int)) (n:Int)
theorem cN (n:Nat):sgn true n = -(n:Int):=rfl
theorem dr (n:Nat):sgn false n=(n:Int):=rfl
def FR (x0 y0 a b c d:Nat) (odd:Bool):Prop:=
 ∃ p q,x0=d*p+b*q/\y0=c*p+a*q/\(cond odd (b*c=a*d+1) (a*d=b*c+1))/\(cond odd (d<=q/\q+a+c<=p) (c<=q/\q+b+d<=p))/\1<=b/\1<=c/\1<=d/\a<=1073741824/\b<=1073741824/\c<=1073741824/\d<=1073741824
theorem Ku {N:Nat} {x0 y0:Nat} (hx0:x0<4611686018427387904) (hy0:y0<4611686018427387904) :
  ∀ q p a b c d odd M,q<M->x0=d*p+b*q->y0=c*p+a*q->(cond odd (b*c=a*d+1) (a*d=b*c+1)) ->
   a<=1073741824->b<=1073741824->c<=1073741824->d<=1073741824->1<=d->p<=x0 ->
   ((odd=false/\a=1/\b=0/\c=0/\d=1/\q<=p)\/(1<=b/\1<=c/\(cond odd (d<=q/\q+a+c<p) (c<=q/\q+b+d<p)))) ->
   ∃ a' b' c' d':Nat,∃ odd',(b'=0/\odd'=false\/FR x0 y0 a' b' c' d' odd') /\ ∀ e0,al M (nT N e0) (sgn odd a,sgn (!odd) b,sgn (!odd) c,sgn odd d,(p:Int),(q:Int))=e0 (sgn odd' a') (sgn (!odd') b') (sgn (!odd') c') (sgn odd' d'):=by
 intro q;induction q using Nat.strongRecOn with
 | ind q ih=>
 intro p a b c d odd M hM h1 h2 hdet ha hb hc hd hd1 hp hor;obtain⟨M,rfl⟩:∃ m,M=m+1:=⟨M - 1,by omega⟩
 have hgood:b=0/\odd=false\/FR x0 y0 a b c d odd:=by
  rcases hor with h | ⟨k1,k2,k3⟩
  ·exact .inl ⟨h.2.2.1,h.1⟩
  ·refine .inr ⟨p,q,h1,h2,hdet,?_,k1,k2,hd1,ha,hb,hc,hd⟩;cases odd
   ·simp only[ajz]at k3 ⊢; omega
   ·simp only[ajA]at k3 ⊢; omega
 have stop:∀(P:(Int->Int->Int->Int->Bool)->Bool),(∀ e0,P e0=e0 (sgn odd a) (sgn (!odd) b) (sgn (!odd) c) (sgn odd d)) -> ∃ a' b' c' d':Nat,∃ odd',(b'=0/\odd'=false\/FR x0 y0 a' b' c' d' odd') /\ ∀ e0,P e0=e0 (sgn odd' a') (sgn (!odd') b') (sgn (!odd') c') (sgn odd' d'):=
  λP hP=>⟨a,b,c,d,odd,hgood,hP⟩
 have hpq:p*1<=d*p:=by rw[ajB d]; exact ajG _ hd1
 have hcp:c*p<=y0:=by omega
 have hdp:d*p<=x0:=by omega
 have hql:q<=p:=by
  rcases hor with h | ⟨k1,k2,k3⟩
  ·exact h.2.2.2.2.2
  ·cases odd
   ·simp only[ajz]at k3; omega
   ·simp only[ajA]at k3; omega
 obtain⟨u1,hu1⟩:∃ u1:Nat,(q:Int)+sgn (!odd) c=(u1:Int):=by
  rcases hor with h | ⟨k1,k2,k3⟩
  ·obtain⟨e1,e2,e3,e4,e5,e6⟩:=h;subst e1 e4; exact⟨q,by simp[sgn]⟩
  ·cases odd
   ·simp only[ajz]at k3;exact⟨q - c,by simp only[aj_,cN]; omega⟩
   ·exact⟨q+c,by simp only[akp,dr]; omega⟩
 obtain⟨u2,hu2⟩:∃ u2:Nat,(q:Int)+sgn odd d=(u2:Int):=by
  rcases hor with h | ⟨k1,k2,k3⟩
  ·obtain⟨e1,e2,e3,e4,e5,e6⟩:=h;subst e1; exact⟨q+d,by simp only[dr]; omega⟩
  ·cases odd
   ·exact⟨q+d,by simp only[dr]; omega⟩
   ·simp only[ajA]at k3;exact⟨q - d,by simp only[cN]; omega⟩
 obtain⟨t1,ht1⟩:∃ t1:Nat,(p:Int)+sgn odd a=(t1:Int):=by
  rcases hor with h | ⟨k1,k2,k3⟩
  ·obtain⟨e1,e2,e3,e4,e5,e6⟩:=h;subst e1; exact⟨p+a,by simp only[dr]; omega⟩
  ·cases odd
   ·exact⟨p+a,by simp only[dr]; omega⟩
   ·simp only[ajA]at k3;exact⟨p - a,by simp only[cN]; omega⟩
 obtain⟨t2,ht2⟩:∃ t2:Nat,(p:Int)+sgn (!odd) b=(t2:Int):=by
  rcases hor with h | ⟨k1,k2,k3⟩
  ·obtain⟨e1,e2,e3,e4,e5,e6⟩:=h;subst e1 e3; exact⟨p,by simp[sgn]⟩
  ·cases odd
   ·simp only[ajz]at k3;exact⟨p - b,by simp only[aj_,cN]; omega⟩
   ·exact⟨p+b,by simp only[akp,dr]; omega⟩
 have t1b:t1<=p+a:=by cases odd <;> simp only[cN,dr]at ht1 <;> omega
 have t2b:t2<=p+b:=by cases odd <;> simp only[akp,aj_,cN,dr]at ht2 <;> omega
 have u1b:u1<=q+c:=by cases odd <;> simp only[akp,aj_,cN,dr]at hu1 <;> omega
 have u2b:u2<=q+d:=by cases odd <;> simp only[cN,dr]at hu2 <;> omega
 by_cases c1:u1=0
 ·refine stop _ λe0=>?_
  show nT N e0 _ (al M _)=_;simp only[nT,hu1];have:(((u1:Nat):Int) != 0)=false:=by simp; omega
  rw[aa ajv,this,show(false==true)=false from rfl,ajz]
 have n1:(((u1:Nat):Int) != 0)=true:=by simp; omega
 have m1:(!decide ((u1:Int)=0))=true:=by simp; omega
 by_cases c2:u2=0
 ·refine stop _ λe0=>?_
  show nT N e0 _ (al M _)=_;simp only[nT,hu1,hu2];have:(((u2:Nat):Int) != 0)=false:=by simp; omega
  rw[aa ajv,n1,show(true==true)=true from rfl,ajA,aa ajv,this,ajz]
 have n2:(((u2:Nat):Int) != 0)=true:=by simp; omega
 have m2:(!decide ((u2:Int)=0))=true:=by simp; omega
 obtain⟨k1,hk1⟩:∃ k1,k1=t1 / u1:=⟨_,rfl⟩
 obtain⟨k2,hk2⟩:∃ k2,k2=t2 / u2:=⟨_,rfl⟩
 have k1b:k1<=t1:=by rw[hk1]; exact ak8 _ _
 have k2b:k2<=t2:=by rw[hk2]; exact ak8 _ _
 have d1:Int.tdiv (t1:Int) (u1:Int)=(k1:Int):=by rw[hk1]; rfl
 have d2:Int.tdiv (t2:Int) (u2:Int)=(k2:Int):=by rw[hk2]; rfl
 by_cases c3:k1=k2
 ·obtain⟨n,hn⟩:∃ n,n=k1:=⟨_,rfl⟩
  have hn2:n=k2:=by omega
  obtain⟨r1,hr1⟩:∃ r1,r1=t1%u1:=⟨_,rfl⟩
  obtain⟨r2,hr2⟩:∃ r2,r2=t2%u2:=⟨_,rfl⟩
  have E1:t1=n*u1+r1:=by rw[hn,hk1,hr1]; exact(aku t1 u1).symm
  have E2:t2=n*u2+r2:=by rw[hn2,hk2,hr2]; exact(aku t2 u2).symm
  have hr1l:r1<u1:=by rw[hr1]; exact ajN _ (by omega)
  have hr2l:r2<u2:=by rw[hr2]; exact ajN _ (by omega)
  have bnc:n*c<=4611686018427387904+1152921504606846976:=by
   have s1:n*c<=(p+a)*c:=ajE _ (by omega);have s2:(p+a)*c=c*p+a*c:=by rw[aj2,ajB p]
   have s3:a*c<=1073741824*1073741824:=ako ha hc;omega
  have bnd:n*d<=4611686018427387904+1152921504606846976:=by
   have s1:n*d<=(p+b)*d:=ajE _ (by omega);have s2:(p+b)*d=d*p+b*d:=by rw[aj2,ajB p]
   have s3:b*d<=1073741824*1073741824:=ako hb hd;omega
  have icn:(n:Int)*sgn (!odd) c=sgn (!odd) (n*c):=by cases odd <;> simp only[akp,aj_,cN,dr,ajU,amu]
  have idn:(n:Int)*sgn odd d=sgn odd (n*d):=by cases odd <;> simp only[cN,dr,ajU,amu]
  have e2:sgn odd a - sgn (!odd) (n*c)=sgn odd (a+n*c):=by cases odd <;> simp only[akp,aj_,cN,dr] <;> omega
  have f2:sgn (!odd) b - sgn odd (n*d)=sgn (!odd) (b+n*d):=by cases odd <;> simp only[akp,aj_,cN,dr] <;> omega
  have hnq:n*q<=p/\(cond odd (p - n*q+b+n*d=r2/\p - n*q=r1+a+n*c) (p - n*q+a+n*c=r1/\p - n*q=r2+b+n*d)):=by
   cases odd with
   | false=>
    simp only[aj_,cN,dr]at hu1 hu2 ht1 ht2;simp only[ajz];have w2:u2=q+d:=by omega
    have w3:t2+b=p:=by omega
    have w1:u1+c=q:=by omega
    have w4:t1=p+a:=by omega
    have z1:n*u2=n*q+n*d:=by rw[w2,ajP]
    have z2:n*q=n*u1+n*c:=by rw[<- w1,ajP]
    omega
   | true=>
    simp only[akp,cN,dr]at hu1 hu2 ht1 ht2;simp only[ajA];have w2:u2+d=q:=by omega
    have w3:t2=p+b:=by omega
    have w1:u1=q+c:=by omega
    have w4:t1+a=p:=by omega
    have z1:n*q=n*u2+n*d:=by rw[<- w2,ajP]
    have z2:n*u1=n*q+n*c:=by rw[w1,ajP]
    omega
  obtain⟨hnq,hnext⟩:=hnq;have inq:(n:Int)*(q:Int)=((n*q:Nat):Int):=(ajU _ _).symm;have ipq:(p:Int) - ((n*q:Nat):Int)=((p - n*q:Nat):Int):=by omega
  have fbd1 : -9223372036854775808<=sgn (!odd) (n*c)/\sgn (!odd) (n*c)<=9223372036854775807:=by cases odd <;> simp only[akp,aj_,cN,dr] <;> omega
  have fbd2 : -9223372036854775808<=sgn odd (a+n*c)/\sgn odd (a+n*c)<=9223372036854775807:=by cases odd <;> simp only[cN,dr] <;> omega
  have fbd3 : -9223372036854775808<=sgn odd (n*d)/\sgn odd (n*d)<=9223372036854775807:=by cases odd <;> simp only[cN,dr] <;> omega
  have fbd4 : -9223372036854775808<=sgn (!odd) (b+n*d)/\sgn (!odd) (b+n*d)<=9223372036854775807:=by cases odd <;> simp only[akp,aj_,cN,dr] <;> omega
  have ne3:(((k1:Nat):Int) != ((k2:Nat):Int))=false:=by simp[c3]
  have body:∀ e0,al (M+1) (nT N e0) (sgn odd a,sgn (!odd) b,sgn (!odd) c,sgn odd d,(p:Int),(q:Int)) =
    cond ((decide (sgn odd (a+n*c)>1073741824))==false) (cond ((decide (sgn odd (a+n*c)<(-1073741824)))==false) (cond ((decide (sgn (!odd) (b+n*d)>1073741824))==false) (cond (decide (sgn (!odd) (b+n*d)<(-1073741824))) (e0 (sgn odd a) (sgn (!odd) b) (sgn (!odd) c) (sgn odd d)) (al M (nT N e0) (sgn (!odd) c,sgn odd d,sgn odd (a+n*c),sgn (!odd) (b+n*d),(q:Int),((p - n*q:Nat):Int)))) (e0 (sgn odd a) (sgn (!odd) b) (sgn (!odd) c) (sgn odd d))) (e0 (sgn odd a) (sgn (!odd) b) (sgn (!odd) c) (sgn odd d))) (e0 (sgn odd a) (sgn (!odd) b) (sgn (!odd) c) (sgn odd d)):=by
   intro e0;show nT N e0 _ (al M _)=_;simp only[nT,hu1,hu2,ht1,ht2,d1,d2,ne3,ajz];rw[<- hn];simp only[icn,idn,e2,f2,inq,ipq];rw[aa ajv,n1,show(true==true)=true from rfl,ajA,aa ajv,n2,ajA,aa ajv,aa ajv,aa m1,aa ajv,aa ajv,aa ajv,aa m2,aa ajv,aa (ac fbd1.1 fbd1.2),aa (ac fbd2.1 fbd2.2),aa (ac fbd3.1 fbd3.2),aa (ac fbd4.1 fbd4.2),aa ajv,aa ajv]
  by_cases c4:a+n*c<=1073741824
  ·by_cases c5:b+n*d<=1073741824
   ·have q1:decide (sgn odd (a+n*c)>1073741824)=false:=ajy (by cases odd <;> simp only[cN,dr] <;> omega);have q2:decide (sgn odd (a+n*c)<(-1073741824))=false:=ajy (by cases odd <;> simp only[cN,dr] <;> omega);have q3:decide (sgn (!odd) (b+n*d)>1073741824)=false:=ajy (by cases odd <;> simp only[akp,aj_,cN,dr] <;> omega);have q4:decide (sgn (!odd) (b+n*d)<(-1073741824))=false:=ajy (by cases odd <;> simp only[akp,aj_,cN,dr] <;> omega);have hn1:1<=n:=by
     rw[hn,hk1];refine alY ?_ (by omega);rcases hor with h | ⟨g1,g2,g3⟩
     ·obtain⟨z1,z2,z3,z4,z5,z6⟩:=h;subst z1 z2 z4;simp only[aj_,cN,dr]at hu1 ht1;omega
     ·cases odd
      ·simp only[ajz]at g3;simp only[aj_,cN,dr]at hu1 ht1;omega
      ·simp only[ajA]at g3;simp only[akp,cN,dr]at hu1 ht1;omega
    have hq0:1<=q\/q=0:=by omega
    have hlt:p - n*q<q:=by
     have s1:1*d<=n*d:=ajE _ hn1;have s2:1*c<=n*c:=ajE _ hn1;cases odd with
     | false=>
      simp only[ajz]at hnext;simp only[aj_,cN]at hu1;omega
     | true=>
      simp only[ajA]at hnext;simp only[cN]at hu2;omega
    obtain⟨a',b',c',d',odd',g1,g2⟩:=ih (p - n*q) hlt q c d (a+n*c) (b+n*d) (!odd) M (by omega)
     (by
      have s1:(b+n*d)*q=b*q+d*(n*q):=by grind
      have s2:d*(p - n*q)+d*(n*q)=d*p:=by rw[<- ajP]; congr 1; omega
      omega)
     (by
      have s1:(a+n*c)*q=a*q+c*(n*q):=by grind
      have s2:c*(p - n*q)+c*(n*q)=c*p:=by rw[<- ajP]; congr 1; omega
      omega)
     (by
      have s1:d*(a+n*c)=a*d+n*(c*d):=by grind
      have s2:c*(b+n*d)=b*c+n*(c*d):=by grind
      cases odd with
      | false=>simp only[aj_,ajA,ajz]at hdet ⊢; omega
      | true=>simp only[akp,ajA,ajz]at hdet ⊢; omega)
     hc hd c4 c5 (by have s1:1*d<=n*d:=ajE _ hn1;omega) (by omega)
     (.inr ⟨hd1,(by
      rcases hor with h | ⟨z1,z2,z3⟩
      ·omega
      ·have s2:1*c<=n*c:=ajE _ hn1;omega),by
      cases odd with
      | false=>
       simp only[ajz]at hnext;simp only[aj_,cN,dr,ajA]at hu1 hu2 ⊢;omega
      | true=>
       simp only[ajA]at hnext;simp only[akp,cN,dr,ajz]at hu1 hu2 ⊢;omega⟩)
    refine⟨a',b',c',d',odd',g1,λe0=>?_⟩;have:=g2 e0;rw[Bool.not_not]at this;rw[body,q1,q2,q3,q4];exact this
   ·refine stop _ λe0=>?_
    rw[body];cases odd with
    | false=>
     have q1:decide (sgn false (a+n*c)>1073741824)=false:=ajy (by simp only[dr]; omega);have q2:decide (sgn false (a+n*c)<(-1073741824))=false:=ajy (by simp only[dr]; omega);have q3:decide (sgn (!false) (b+n*d)>1073741824)=false:=ajy (by simp only[aj_,cN]; omega);have q4:decide (sgn (!false) (b+n*d)<(-1073741824))=true:=ajx (by simp only[aj_,cN]; omega);rw[q1,q2,q3,q4];rfl
    | true=>
     have q1:decide (sgn true (a+n*c)>1073741824)=false:=ajy (by simp only[cN]; omega);have q2:decide (sgn true (a+n*c)<(-1073741824))=false:=ajy (by simp only[cN]; omega);have q3:decide (sgn (!true) (b+n*d)>1073741824)=true:=ajx (by simp only[akp,dr]; omega);rw[q1,q2,q3];rfl
  ·refine stop _ λe0=>?_
   rw[body];cases odd with
   | false=>
    have q1:decide (sgn false (a+n*c)>1073741824)=true:=ajx (by simp only[dr]; omega);rw[q1];rfl
   | true=>
    have q1:decide (sgn true (a+n*c)>1073741824)=false:=ajy (by simp only[cN]; omega);have q2:decide (sgn true (a+n*c)<(-1073741824))=true:=ajx (by simp only[cN]; omega);rw[q1,q2];rfl
 ·refine stop _ λe0=>?_
  show nT N e0 _ (al M _)=_;simp only[nT,hu1,hu2,ht1,ht2,d1,d2];have:(((k1:Nat):Int) != ((k2:Nat):Int))=true:=by simp; omega
  rw[aa ajv,n1,show(true==true)=true from rfl,ajA,aa ajv,n2,ajA,aa ajv,aa ajv,aa m1,aa ajv,aa ajv,aa ajv,aa m2,aa ajv,this,ajA]
theorem LV {N:Nat} (hN:1180591620717411303424<=N) {x0 y0:Nat} (hx0:x0<4611686018427387904) (hyx:y0<=x0):∃ a b c d:Nat,∃ odd,(b=0/\odd=false\/FR x0 y0 a b c d odd) /\ ∀ k,TG N (x0:Int) (y0:Int) k=k (sgn odd a) (sgn (!odd) b) (sgn (!odd) c) (sgn odd d):=by
 obtain⟨a,b,c,d,odd,h1,h2⟩:=Ku (N:=N) (x0:=x0) (y0:=y0) hx0 (by omega) y0 x0 1 0 0 1 false N (by omega) (by omega) (by omega) rfl (by omega) (by omega) (by omega) (by omega) (by omega) (by omega) (.inl ⟨rfl,rfl,rfl,rfl,rfl,hyx⟩);refine⟨a,b,c,d,odd,h1,λk=>?_⟩
 (unfold TG; rw[af]; unfold QL)
 rw[aa ajv,aa ajv];exact h2 _
theorem UU {a b c d X Y:Nat} (hdet:b*c=a*d+1) (g1:a*X<=b*Y) (g2:d*Y<=c*X):X=d*(b*Y - a*X)+b*(c*X - d*Y)/\Y=c*(b*Y - a*X)+a*(c*X - d*Y):=by
 obtain⟨U,hU⟩:=ald g1;obtain⟨V,hV⟩:=ald g2;rw[<- hU,<- hV,akb,akb];constructor
 ·have t1:d*(b*Y)=d*(a*X)+d*U:=by rw[<- hU,ajP]
  have t2:b*(c*X)=b*(d*Y)+b*V:=by rw[<- hV,ajP]
  have t3:b*(c*X)=(a*d+1)*X:=by rw[<- hdet,ajI]
  have t4:(a*d+1)*X=d*(a*X)+X:=by grind
  have t5:d*(b*Y)=b*(d*Y):=by grind
  omega
 ·have t1:c*(b*Y)=c*(a*X)+c*U:=by rw[<- hU,ajP]
  have t2:a*(c*X)=a*(d*Y)+a*V:=by rw[<- hV,ajP]
  have t3:c*(b*Y)=(a*d+1)*Y:=by rw[<- hdet]; grind
  have t4:(a*d+1)*Y=a*(d*Y)+Y:=by grind
  have t5:c*(a*X)=a*(c*X):=by grind
  omega
theorem KY {x0 y0 a b c d F rx ry X Y:Nat} (h:FR x0 y0 a b c d true) (hrx:rx<F) (hry:ry<F) (hX:X=x0*F+rx) (hY:Y=y0*F+ry) :
  a*X<=b*Y/\d*Y<=c*X/\c*X - d*Y<=b*Y - a*X/\X=d*(b*Y - a*X)+b*(c*X - d*Y)/\Y=c*(b*Y - a*X)+a*(c*X - d*Y):=by
 obtain⟨p,q,h1,h2,hdet,hin,hb1,hc1,hd1,hal,hbl,hcl,hdl⟩:=h;simp only[ajA]at hdet hin;obtain⟨hdq,hpq⟩:=hin;have e1:b*Y+a*rx=a*X+(p*F+b*ry):=by
  subst h1 h2 hX hY;have:b*(c*p*F)=(a*d+1)*(p*F):=by rw[<- hdet]; grind
  grind
 have e2:c*X+d*ry=d*Y+(q*F+c*rx):=by
  subst h1 h2 hX hY;have:b*c*(q*F)=(a*d+1)*(q*F):=by rw[<- hdet]
  grind
 have m1:a*rx<=a*F:=ajG _ (by omega);have m3:d*ry<=d*F:=ajG _ (by omega);have m4:d*F<=q*F:=ajE _ hdq;have m5:(q+a+c)*F<=p*F:=ajE _ hpq;rw[aj2,aj2]at m5;have m6:c*rx<=c*F:=ajG _ (by omega);have g1:a*X<=b*Y:=by omega
 have g2:d*Y<=c*X:=by omega
 obtain⟨i1,i2⟩:=UU hdet g1 g2;exact⟨g1,g2,by omega,i1,i2⟩
theorem Ip {x0 y0 a b c d F rx ry X Y:Nat} (h:FR x0 y0 a b c d false) (hrx:rx<F) (hry:ry<F) (hX:X=x0*F+rx) (hY:Y=y0*F+ry) :
  b*Y<=a*X/\c*X<=d*Y/\d*Y - c*X<=a*X - b*Y/\X=d*(a*X - b*Y)+b*(d*Y - c*X)/\Y=c*(a*X - b*Y)+a*(d*Y - c*X):=by
 obtain⟨p,q,h1,h2,hdet,hin,hb1,hc1,hd1,hal,hbl,hcl,hdl⟩:=h;simp only[ajz]at hdet hin;obtain⟨hdq,hpq⟩:=hin;have e1:a*X+b*ry=b*Y+(p*F+a*rx):=by
  subst h1 h2 hX hY;have:a*d*(p*F)=(b*c+1)*(p*F):=by rw[<- hdet]
  grind
 have e2:d*Y+c*rx=c*X+(q*F+d*ry):=by
  subst h1 h2 hX hY;have:a*d*(q*F)=(b*c+1)*(q*F):=by rw[<- hdet]
  grind
 have m1:b*ry<=b*F:=ajG _ (by omega);have m3:c*rx<=c*F:=ajG _ (by omega);have m4:c*F<=q*F:=ajE _ hdq;have m5:(q+b+d)*F<=p*F:=ajE _ hpq;rw[aj2,aj2]at m5;have m6:d*ry<=d*F:=ajG _ (by omega);have g1:b*Y<=a*X:=by omega
 have g2:c*X<=d*Y:=by omega
 refine⟨g1,g2,by omega,?_,?_⟩
 ·obtain⟨U,hU⟩:=ald g1;obtain⟨V,hV⟩:=ald g2;rw[<- hU,<- hV,akb,akb];have t1:d*(a*X)=d*(b*Y)+d*U:=by rw[<- hU,ajP]
  have t2:b*(d*Y)=b*(c*X)+b*V:=by rw[<- hV,ajP]
  have t3:d*(a*X)=(b*c+1)*X:=by rw[<- hdet]; grind
  have t4:(b*c+1)*X=b*(c*X)+X:=by grind
  have t5:d*(b*Y)=b*(d*Y):=by grind
  omega
 ·obtain⟨U,hU⟩:=ald g1;obtain⟨V,hV⟩:=ald g2;rw[<- hU,<- hV,akb,akb];have t1:c*(a*X)=c*(b*Y)+c*U:=by rw[<- hU,ajP]
  have t2:a*(d*Y)=a*(c*X)+a*V:=by rw[<- hV,ajP]
  have t3:a*(d*Y)=(b*c+1)*Y:=by rw[<- hdet]; grind
  have t4:(b*c+1)*Y=c*(b*Y)+Y:=by grind
  have t5:c*(a*X)=a*(c*X):=by grind
  omega
theorem Ez {N X Y u v:Nat} (hN:1180591620717411303424<=N) (sX:(aj X).length<=1099511627000) (sY:(aj Y).length<=1099511627000) (hu:u<=1073741824) (hv:v<=1073741824) (hle:v*Y<=u*X) (k:Kz3) :
  N7 N (aj X) (u:Int) (aj Y) (v:Int) k=k (aj (u*X - v*Y)):=by
 (unfold N7; rw[af]; unfold QQ)
 have lu:=cG 1 u (by rw[amy]; omega);have lv:=cG 1 v (by rw[amy]; omega);have lX:=cG ((aj X).length+1) (X*u) (by rw[ajK]; exact akz (j6 X) (by omega))
 rw[yw u (by omega) (by omega),BT _ _ (bf _) (bf _) (by omega) (by omega),yw v (by omega) (by omega),BT _ _ (bf _) (bf _) (by omega) (by omega),aM,aM,aM,aM,
  BR _ _ (bf _) (bf _) (by rw[aM,aM,ajB X,ajB Y]; exact hle) ⟨by omega,by omega⟩,aM,aM,ajB X,ajB Y]
theorem CD {N X Y u v:Nat} (hN:1180591620717411303424<=N) (sX:(aj X).length<=1099511627000) (sY:(aj Y).length<=1099511627000) (hu:u<=1073741824) (hv:v<=1073741824) (hle:v*Y<=u*X) (k:Kz3) :
  qY N (aj X) (u:Int) (aj Y) (-(v:Int)) k=k (aj (u*X - v*Y)):=by
 (unfold qY; rw[af]; unfold xX)
 have w1:IntKind.wrap .u64 (u:Int)=(u:Int):=by rw[aq]; omega
 have w2:IntKind.wrap .u64 (0 - -(v:Int))=(v:Int):=by rw[aq]; omega
 rw[ajx (by omega : -(v:Int)<=0),ajA,aa ajv,w1,w2,Ez hN sX sY hu hv hle]
theorem CC {N X Y u v:Nat} (hN:1180591620717411303424<=N) (sX:(aj X).length<=1099511627000) (sY:(aj Y).length<=1099511627000) (hu:u<=1073741824) (hv:v<=1073741824) (hv1:1<=v) (hle:u*X<=v*Y) (k:Kz3) :
  qY N (aj X) (-(u:Int)) (aj Y) (v:Int) k=k (aj (v*Y - u*X)):=by
 (unfold qY; rw[af]; unfold xX)
 have w1:IntKind.wrap .u64 (v:Int)=(v:Int):=by rw[aq]; omega
 have w2:IntKind.wrap .u64 (0 - -(u:Int))=(u:Int):=by rw[aq]; omega
 rw[ajy (by omega:¬(v:Int)<=0),ajz,aa ajv,w1,w2,Ez hN sY sX hv hu hle]
theorem IG {N:Nat} (hN:1180591620717411303424<=N) (e0:List Int->Bool):∀(b a M:Nat),b<M->(aj a).length<=1099511627000->(aj b).length<=1099511627000->al M (B4 N e0) (aj a,aj b)=e0 (aj (Nat.gcd a b)):=by
 intro b;induction b using Nat.strongRecOn with
 | ind b ih=>
 intro a M hM ha hb;obtain⟨M,rfl⟩:∃ m,M=m+1:=⟨M - 1,by omega⟩
 show B4 N e0 (aj a,aj b) (al M _)=_;simp only[B4];by_cases h:b=0
 ·subst h;have:(((aj 0).length:Nat):Int)=0:=by rw[ba]; rfl
  rw[this,ajy (by omega),ajz,al4]
 ·have hp:0<(aj b).length:=by rw[cu h]; simp
  have hm:=ajN a (by omega:b>0);have hml:=bW (Nat.le_of_lt hm);rw[ajx (by omega),ajA,yu hN (by omega) ha hb,ih (a%b) hm b M (by omega) hb (by omega),akN b,<- amz,akN]
theorem u9 {N V f:Nat} (hf:f<140737488355328) (hs:(aj V).length+3<N/\(aj V).length<=1099511627000) (k:Kz3):A_ N (aj V) (f:Int) k=k (aj (V / 2 ^ f)):=by
 have hm:=bf V;have hmv:=aM V
 (unfold A_; rw[af]; unfold Xp)
 obtain⟨hN1,hN2⟩:=hs;have ew:IntKind.wrap .u64 (Int.tdiv (f:Int) 32)=((f / 32:Nat):Int):=by rw[aq,aky (by omega)]; omega
 have es:Int.tmod (f:Int) 32=((f%32:Nat):Int):=by rw[akq (by omega)]; rfl
 rw[ew,es,aa ajv];have hp2:2 ^ f=4294967296 ^ (f / 32)*2 ^ (f%32):=A4 f;obtain⟨w,hw⟩:∃ w,w=f / 32:=⟨_,rfl⟩
 obtain⟨s,hsh⟩:∃ s,s=f%32:=⟨_,rfl⟩
 rw[<- hw,<- hsh]at hp2 ⊢;have hs32:s<32:=by omega
 have hs0:0<2 ^ s:=ajM s;obtain⟨m,hme⟩:∃ m,m=aj V:=⟨_,rfl⟩
 rw[<- hme]at hm hmv hN1 hN2 ⊢;by_cases h0:m.length<=w
 ·rw[ajx (by omega:((w:Nat):Int)>=m.length),ajA];have h1:=fX hm;rw[hmv]at h1;have h2:4294967296 ^ m.length<=4294967296 ^ w:=ajO (by decide) h0;have h3:V / 2 ^ f=0:=by rw[hp2];refine aj3 ?_;have:4294967296 ^ w*1<=4294967296 ^ w*2 ^ s:=ajG _ hs0;omega
  rw[h3,ba]
 ·rw[ajy (by omega:¬((w:Nat):Int)>=m.length),ajz];obtain⟨Z,hZ⟩:∃ Z,Z=V / 2 ^ f:=⟨_,rfl⟩
  have elen:Int.toNat ((m.length:Int) - ((w:Nat):Int))=m.length - w:=by omega
  rw[elen,aa ajv,aa (bR (by omega) (by omega) (by omega) (by omega)),<- hZ];obtain⟨L,hL⟩:∃ L,L=m.length - w:=⟨_,rfl⟩
  rw[<- hL];refine aH (λi=>((i:Int),dl Z i++List.replicate (L - i) 0)) L (by simp[dl]) (by omega) (λi hi K=>?_) (λK=>?_)
  ·have hx:=hm.at (i:=w+i);have hy:=hm.at (i:=w+i+1);have hset:=DZ Z i L (by omega);have hl:(dl Z i++List.replicate (L - i) 0).length=L:=by simp[am]; omega
   have ei:Int.toNat ((w:Int)+(i:Int))=w+i:=by omega
   have ei1:Int.toNat ((w:Int)+(i:Int)+1)=w+i+1:=by omega
   have emin:min s 64=s:=by omega
   obtain⟨R,hR⟩:=F3 hm (w+i);rw[hmv]at hR;have hdig:Z / 4294967296 ^ i%4294967296=((m.getD (w+i) 0).toNat+4294967296*(m.getD (w+i+1) 0).toNat) / 2 ^ s%4294967296:=by
    rw[hZ,hp2,ajF];have e1:4294967296 ^ w*2 ^ s*4294967296 ^ i=4294967296 ^ (w+i)*2 ^ s:=by rw[ajR,ajI,ajB (2 ^ s),<- ajI]
    rw[e1,<- ajF,hR];have e2:4294967296*4294967296*R=2 ^ s*(4294967296*(2 ^ (32 - s)*R)):=by
     have hs1:2 ^ s*2 ^ (32 - s)=4294967296:=by rw[<- ajR,show s+(32 - s)=32 by omega]
     rw[ajZ (2 ^ s),<- ajI (2 ^ s),hs1,ajI]
    rw[e2,akt _ _ hs0,akO]
   have hfin:∀ z:Int,z=(((m.getD (w+i) 0).toNat+4294967296*(m.getD (w+i+1) 0).toNat:Nat):Int)->IntKind.wrap .u32 (Int.fdiv z (2 ^ s))=((Z / 4294967296 ^ i%4294967296:Nat):Int):=by
    intro z hz;have e:(2:Int) ^ s=((2 ^ s:Nat):Int):=by simp
    rw[hdig,hz,e,ak4 _ (by omega),dB];rfl
   simp only[mN,ajD,ei,ei1,emin,hl];rw[ajx (by omega:(i:Int)<L),ajA,aa ajv,aa ajw,aa ajv,aa ajv];by_cases hlast:w+i+1<m.length
   ·rw[ajx (by omega:(w:Int)+(i:Int)+1<m.length),ajA,aa ajv,aa ajv,aa ajw,aa (ajx (by omega)),aa ajw,aa (ajx (by omega)),aa ajv];have e1:IntKind.wrap .u64 (m.getD (w+i) 0)=(((m.getD (w+i) 0).toNat:Nat):Int):=by rw[aq]; omega
    have e2:IntKind.wrap .u64 (IntKind.wrap .u64 (m.getD (w+i+1) 0)*2 ^ 32)=((2 ^ 32*(m.getD (w+i+1) 0).toNat:Nat):Int):=by
     have:(2:Int) ^ 32=4294967296:=by decide
     have:(2:Nat) ^ 32=4294967296:=by decide
     rw[aq,aq]; omega
    have p32:(2:Nat) ^ 32=4294967296:=by decide
    rw[e1,e2,cE _ _ 32 (by omega) (by omega),hfin _ (by omega),hset,mq]
   ·rw[ajy (by omega:¬(w:Int)+(i:Int)+1<m.length),ajz,aa (ajx (by omega)),aa ajw,aa (ajx (by omega)),aa ajv];have hz:m.getD (w+i+1) 0=0:=e_ (by omega);have e1:IntKind.wrap .u64 (m.getD (w+i) 0)=(((m.getD (w+i) 0).toNat:Nat):Int):=by rw[aq]; omega
    rw[e1,hfin _ (by rw[hz]; simp),hset,mq]
  ·simp only[mN];have hl:(dl Z L++List.replicate (L - L) 0).length=L:=by simp[am]
   rw[ajy (by omega:¬((L:Nat):Int)<(((dl Z L++List.replicate (L - L) (0:Int)).length:Nat):Int)),ajz,aj8,aka,aj6];have hVl:Z<4294967296 ^ L:=by have h1:=fX hm;rw[hmv]at h1;rw[hZ,ajH (ajM f),hp2,<- ajI,<- ajR,show L+w=m.length by omega];have:4294967296 ^ m.length*1<=4294967296 ^ m.length*2 ^ s:=ajG _ hs0;omega
   rw[dG _ (kj Z _) (by rw[am]; omega) (by rw[am]; omega),uC hVl]
theorem Cr {N:Nat} (hN:1180591620717411303424<=N) {u v:List Int} (k:Kz3) :
  ∀ s x y,x+y=s->s<N->y<=x->(aj x).length<=134217728000 ->
   Q4 N u v (aj x) (aj y) k=k (aj (Nat.gcd x y)):=by
 intro s x y hs hsN hyx hxl;unfold Q4;have main:∀ s x y M,x+y=s->s<M->M<=N->y<=x->(aj x).length<=134217728000 ->
   al M (Kt N (λ(a_3:List Int) (b_3:List Int)=>(al N (B4 N (λ(a_5:List Int)=>((decide ((List.length ([]++a_5))*4<=140737488355328))&&(k ([]++a_5))))) (a_3,b_3)))) (aj x,aj y)=k (aj (Nat.gcd x y)):=by
  intro s;induction s using Nat.strongRecOn with
  | ind s ih=>
  intro x y M hs hsM hMN hyx hxl;obtain⟨M,rfl⟩:∃ m,M=m+1:=⟨M - 1,by omega⟩
  have hyl:=bW hyx;show Kt N _ (aj x,aj y) (al M _)=_;simp only[Kt];by_cases h2:3<=(aj y).length
  ·have hyge:18446744073709551616<=y:=by
    rcases akv y 18446744073709551616 with h | h
    ·have:=cG 2 y (by
      have:(4294967296:Nat) ^ 2=18446744073709551616:=by decide
      omega)
     omega
    ·exact h
   have hblx:64<bl x:=by
    rcases akv 64 (bl x)with h | h
    ·exact h
    ·have h1:=Cn x;have h3:2 ^ bl x<=2 ^ 64:=ajO (by decide) h;rw[rI]at h3;omega
   have hblu:bl x<=32*(aj x).length:=by refine Ax ?_;rw[amt,HH]; exact j6 x
   obtain⟨f,hf⟩:∃ f,bl x=f+62:=⟨bl x - 62,by omega⟩
   have ef:(bl x:Int) - 62=(f:Int):=by omega
   have hF0:0<2 ^ f:=ajM f;have p62:(2:Nat) ^ 62=4611686018427387904:=by decide
   have hx0l:x / 2 ^ f<4611686018427387904:=by rw[ajH hF0,<- p62,<- ajR,alp,<- hf]; exact Cn x
   have hy0l:y / 2 ^ f<=x / 2 ^ f:=alP hyx;rw[ajx (by omega),ajA,En false x ⟨by omega,by omega⟩,ef,aa ajv,
    Ju (by omega) (by omega) ⟨by omega,by omega⟩ (.inr trivial) (by omega) (λkk=>u9 (by omega) ⟨by omega,by omega⟩ kk),
    Ju (by omega) (by omega) ⟨by omega,by omega⟩ (.inr trivial) (by omega) (λkk=>u9 (by omega) ⟨by omega,by omega⟩ kk)]
   obtain⟨a,b,c,d,odd,g1,g2⟩:=LV hN hx0l hy0l;rw[g2];rcases g1 with⟨hb0,ho⟩ | hgood
   ·subst hb0 ho;have e0:(sgn (!false) 0==0)=true:=rfl;have hm:=ajN x (by omega:y>0);rw[e0,ajA,yu hN (by omega) (by omega) (by omega),ih (y+x%y) (by omega) y (x%y) M rfl (by omega) (by omega) (by omega) (by omega),akN y,<- amz,akN]
   ·obtain⟨p,q,z1,z2,z3,z4,hb1,hc1,hd1,hal,hbl,hcl,hdl⟩:=id hgood;have fin:∀ U V:Nat,x=d*U+b*V->y=c*U+a*V->V<=U->U+V<x+y/\U<=x:=by
     intro U V hx hy hvu;have k1:1*U<=d*U:=ajE _ hd1;have k2:1*V<=b*V:=ajE _ hb1;have k3:1*U<=c*U:=ajE _ hc1;have hU0:0<U:=by
      rcases akT U with hu | hu
      ·exfalso;have hv:V=0:=by omega
       rw[hu,hv,akQ,akQ]at hy;omega
      ·exact hu
     exact⟨by omega,by omega⟩
    cases odd with
    | true=>
     obtain⟨f1,f2,f3,f4,f5⟩:=KY hgood (ajN x hF0) (ajN y hF0) (aku x (2 ^ f)).symm (aku y (2 ^ f)).symm;obtain⟨w1,w2⟩:=fin _ _ f4 f5 f3;have hgc:=AE f4 f5 (al0 (ajW (akI _ _) _) (ajW (akn _ _) _)) (al0 (ajW (akn _ _) _) (ajW (akI _ _) _));have hUl:=bW w2;have e0:(sgn (!true) b==0)=false:=by simp only[akp,dr]; simp; omega
     have s1:sgn true a = -(a:Int):=rfl;have s2:sgn (!true) b=(b:Int):=rfl;have s3:sgn (!true) c=(c:Int):=rfl;have s4:sgn true d = -(d:Int):=rfl;rw[e0,ajz,s1,s2,s3,s4,CC hN (by omega) (by omega) hal hbl hb1 f1,CD hN (by omega) (by omega) hcl hdl f2,ih _ (by omega) _ _ M rfl (by omega) (by omega) f3 (by omega),hgc]
    | false=>
     obtain⟨f1,f2,f3,f4,f5⟩:=Ip hgood (ajN x hF0) (ajN y hF0) (aku x (2 ^ f)).symm (aku y (2 ^ f)).symm;obtain⟨w1,w2⟩:=fin _ _ f4 f5 f3;have hgc:=AE f4 f5 (al0 (ajW (akn _ _) _) (ajW (akI _ _) _)) (al0 (ajW (akI _ _) _) (ajW (akn _ _) _));have hUl:=bW w2;have e0:(sgn (!false) b==0)=false:=by simp only[aj_,cN]; simp; omega
     have s1:sgn false a=(a:Int):=rfl;have s2:sgn (!false) b = -(b:Int):=rfl;have s3:sgn (!false) c = -(c:Int):=rfl;have s4:sgn false d=(d:Int):=rfl;rw[e0,ajz,s1,s2,s3,s4,CD hN (by omega) (by omega) hal hbl f1,CC hN (by omega) (by omega) hcl hdl hd1 f2,ih _ (by omega) _ _ M rfl (by omega) (by omega) f3 (by omega),hgc]
  ·rw[ajy (by omega),ajz,IG hN _ y x N (by omega) (by omega) (by omega),akl];have hgl:(aj (Nat.gcd x y)).length<=134217728000:=by
    by_cases h0:x=0
    ·have hy0:y=0:=by omega
     rw[h0,hy0,al4,ba]; simp
    ·have:=bW (Nat.gcd_le_left y (al5 h0));omega
   rw[aa (ajx (by omega))]
 exact main s x y N hs hsN (ajL _) hyx hxl
theorem LM {N:Nat} (hN:1180591620717411303424<=N) {x y:Nat} (hf:x+y<N) (hxl:(aj x).length<=134217728000) (hyl:(aj y).length<=134217728000) (k:Kz3):Mx N (aj x) (aj y) k=k (aj (Nat.gcd x y)):=by
 (unfold Mx; rw[af]; unfold QV)
 rw[lM x y ⟨by omega,by omega⟩ ⟨by omega,by omega⟩];by_cases h:x<y
 ·have hc:decide (d8 x y<0)=true:=by unfold d8; rw[if_pos h]; rfl
  rw[hc,ajA,Cr hN _ (y+x) y x rfl (by omega) (by omega) hyl,akN]
 ·have hc:decide (d8 x y<0)=false:=by unfold d8; rw[if_neg h]; split <;> rfl
  rw[hc,ajz,Cr hN _ (x+y) x y rfl hf (by omega) hxl]
theorem CW {a b:Nat} (ha:a<4294967296) (hb:b<4294967296):aE .and .u32 (a:Int) (b:Int)=((a &&& b:Nat):Int):=by
 unfold aE vI;simp only[akj];have h32:(2:Nat) ^ 32=4294967296:=by decide
 have e:((BitVec.ofInt (IntKind.bits .u32) (a:Int)) &&& (BitVec.ofInt (IntKind.bits .u32) (b:Int))).toNat=a &&& b:=by show((BitVec.ofInt 32 (a:Int)) &&& (BitVec.ofInt 32 (b:Int))).toNat=_;rw[amg,akD,akD,akM,akM,ajJ (by omega),ajJ (by omega)]
 have hl:a &&& b<4294967296:=ak7 Nat.and_le_left ha;rw[e,KF _ hl]
theorem OA {t c:Nat} (h:2 ^ t*(2*c+1)<2 ^ 32):(2 ^ t*(2*c+1)) &&& (2 ^ 32 - 2 ^ t*(2*c+1))=2 ^ t:=by
 have ht0:0<2 ^ t:=ajM t;have ht:t<32:=by
  rcases akv t 32 with h1 | h1
  ·exact h1
  ·have h2:2 ^ 32<=2 ^ t:=ajO (by decide) h1;have h3:2 ^ t*1<=2 ^ t*(2*c+1):=ajG _ (by omega);omega
 have e1:2 ^ t*(2*c+1)=(2 ^ t*(2*c)+(2 ^ t - 1))+1:=by rw[ajP]; omega
 refine alN λj=>?_
 rw[amv];have e2:(2 ^ 32 - 2 ^ t*(2*c+1)).testBit j=(decide (j<32) && !(2 ^ t*(2*c)+(2 ^ t - 1)).testBit j):=by
  conv=>lhs; rw[e1]
  exact amk (by rw[e1]at h; omega) j
 rw[e2,Nat.testBit_two_pow_mul,amw _ (by omega),alm];rcases ama j t with hj | hj | hj
 ·rw[ajy (by omega:¬ j>=t),ajy (by omega:¬ t=j)]; rfl
 ·subst hj;rw[if_neg (by omega),aj8,ajx (ajL _),ajx ht,ajx rfl];have a1:(2*c+1).testBit 0=true:=by rw[amh]; simp
  have a2:(2*c).testBit 0=false:=by rw[amh]; simp
  rw[a1,a2]; rfl
 ·obtain⟨k,hk⟩:∃ k,j - t=k+1:=⟨j - t - 1,by omega⟩
  rw[if_neg (by omega),hk,ajx (by omega:j>=t),ajy (by omega:¬ t=j),ami,ami];have a1:(2*c+1) / 2=c:=by omega
  have a2:2*c / 2=c:=by omega
  rw[a1,a2];cases c.testBit k <;> simp
theorem T_:∀ t:Fin 32,(inR (Int.fdiv (IntKind.wrap .u32 (((2 ^ t.val:Nat):Int)*125613361)) (2 ^ 27)) 32=true)/\(List.getD CU (Int.toNat (Int.fdiv (IntKind.wrap .u32 (((2 ^ t.val:Nat):Int)*125613361)) (2 ^ 27))) 0=(t.val:Int)):=by decide +kernel
theorem SF (N:Nat) {t c:Nat} (h:2 ^ t*(2*c+1)<4294967296) (k:Ky9):YU N ((2 ^ t*(2*c+1):Nat):Int) k=k (t:Int):=by
 have h32:(2:Nat) ^ 32=4294967296:=by decide
 have ht0:0<2 ^ t:=ajM t;have hx0:0<2 ^ t*(2*c+1):=alr ht0 (by omega);have ht:t<32:=by
  rcases akv t 32 with h1 | h1
  ·exact h1
  ·have h2:2 ^ 32<=2 ^ t:=ajO (by decide) h1;have h3:2 ^ t*1<=2 ^ t*(2*c+1):=ajG _ (by omega);omega
 (unfold YU; rw[af]; unfold Ug)
 have ha:=OA (t:=t) (c:=c) (by omega);rw[h32]at ha;generalize 2 ^ t*(2*c+1)=x at *;have e0:((x:Int)==0)=false:=by simp; omega
 have ew:IntKind.wrap .u32 (0 - (x:Int))=((4294967296 - x:Nat):Int):=by rw[dB]; omega
 obtain⟨t1,t2⟩:=T_ ⟨t,ht⟩;rw[e0,ajz,ew,CW h (by omega),ha,aa t1,t2,aa ajv]
theorem R5 {t c:Nat}:2 ^ t*(2*c+1) / 4294967296 ^ (t / 32)%4294967296=2 ^ (t%32)*(2*(c%2 ^ (31 - t%32))+1):=by
 have hs1:2 ^ (t%32)*2 ^ (32 - t%32)=4294967296:=by rw[<- ajR,show t%32+(32 - t%32)=32 by omega]
 rw[A4 t,ajI,aj7 _ (aW _),<- hs1,ak_];congr 1;have e1:2 ^ (32 - t%32)=2*2 ^ (31 - t%32):=by rw[show 32 - t%32=(31 - t%32)+1 by omega,ajK,ajB]
 rw[e1];have e2:=alJ c (2 ^ (31 - t%32));generalize 2 ^ (31 - t%32)=P at *;generalize c / P=q at *;have hP:c%P<P\/P=0:=by
  rcases akT P with h | h
  ·exact .inr h
  ·exact .inl (ajN _ h)
 generalize c%P=r at *;have e3:2*c+1=(2*r+1)+2*P*q:=by rw[<- e2]; grind
 rw[e3,akO];rcases hP with h | h
 ·exact ajJ (by omega)
 ·subst h; simp
theorem Le {t c i:Nat} (hi:i<t / 32):2 ^ t*(2*c+1) / 4294967296 ^ i%4294967296=0:=by
 have e:2 ^ t*(2*c+1)=4294967296 ^ (i+1)*(4294967296 ^ (t / 32 - (i+1))*(2 ^ (t%32)*(2*c+1))):=by rw[A4 t,<- ajI,<- ajR,show i+1+(t / 32 - (i+1))=t / 32 by omega,ajI]
 rw[e,ajK,ajI,aj7 _ (aW i),amG]
theorem Eu {N:Nat} {t c:Nat} (g:Bool) (hN:gl N (aj (2 ^ t*(2*c+1)))) (ht:t<140737488355328) (k:Ky9):sQ3 N g (aj (2 ^ t*(2*c+1))) k=k (t:Int):=by
 (unfold sQ3; rw[af]; unfold GQ3)
 obtain⟨n1,n2⟩:=hN;have hd:=R5 (t:=t) (c:=c);have hgd:=λi=>qQ i (2 ^ t*(2*c+1))
 have hlt:2 ^ t*(2*c+1) / 4294967296 ^ (t / 32)%4294967296<4294967296:=ajN _ (by decide);have hwl:t / 32<(aj (2 ^ t*(2*c+1))).length:=by
  refine Nx λh=>?_
  rw[h,Nat.zero_mod]at hd;have:=alr (ajM (t%32)) (show 0<2*(c%2 ^ (31 - t%32))+1 by omega);omega
 have hbel:=λi=>Le (t:=t) (c:=c) (i:=i)
 generalize aj (2 ^ t*(2*c+1))=l at *;refine aH (λi=>(i:Int)) (t / 32) rfl (by omega) (λi hi K=>?_) (λK=>?_)
 ·simp only[HU,ajD];have hz:(l.getD i 0 != 0)=false:=by rw[hgd,hbel i hi]; rfl
  rw[ajx (by omega:(i:Int)<((l.length:Nat):Int)),ajA,aa ajw,hz,ajz,aa ajv];rfl
 ·simp only[HU,ajD];have hp:=alr (ajM (t%32)) (show 0<2*(c%2 ^ (31 - t%32))+1 by omega);have hz:(l.getD (t / 32) 0 != 0)=true:=by rw[hgd,hd]; simp only[bne_iff_ne,ne_eq]; omega
  rw[ajx (by omega:((t / 32:Nat):Int)<((l.length:Nat):Int)),ajA,aa ajw,hz,ajA,aa ajv,aa ajw,hgd,hd,SF N (by rw[<- hd]; exact hlt),aa ajv];congr 1;rw[aq]; omega
def krR (z:Int) (d:Nat) (k:Kx6):Bool:=k (decide (z<0)) (aj z.natAbs) false (aj d)
def kqR (x:Rat) (k:Kx6):Bool:=krR x.num x.den k
theorem Sv (g:Bool) (n d:Nat) (k:Kx6):k (sg g n) (aj n) false (aj d)=krR (aZ g n) d k:=yB g n (λa b=>k a b false (aj d))
theorem vN {B n:Nat} (hB:B<=2000000000100) (h:aU B n):(aj n).length<=62500000006:=by have:=DL h; omega
theorem vw {N B n:Nat} (hF:Fuel N) (hB:B<=2000000000100) (h:aU B n):gl N (aj n):=by have h1:=vN hB h;have:=hF.lt;exact⟨by omega,by omega⟩
theorem Me (g:Bool) (n d:Nat) (h0:0<d):(mkRat (aZ g n) d).num=aZ g (n / Nat.gcd n d)/\(mkRat (aZ g n) d).den=d / Nat.gcd n d:=by
 have e:(aZ g n).natAbs=n:=by unfold aZ; cases g <;> simp
 have hg:0<Nat.gcd n d:=akC _ h0;constructor
 ·rw[amK,if_neg (by omega),e,akN];have hh:((Nat.gcd n d:Nat):Int) ≠ 0:=by omega
  have e2:aZ g n=((Nat.gcd n d:Nat):Int)*aZ g (n / Nat.gcd n d):=by
   have hnn:n=Nat.gcd n d*(n / Nat.gcd n d):=(Nat.mul_div_cancel' (akn n d)).symm;have hc:(n:Int)=((Nat.gcd n d:Nat):Int)*((n / Nat.gcd n d:Nat):Int):=by rw[<- ajU,<- hnn]
   unfold aZ;cases g
   ·simpa using hc
   ·simp only[ak6]; rw[hc,amu]
  rw[e2,alw _ hh]
 ·rw[amL,if_neg (by omega),e,akN]
theorem LA (g:Bool) (n m:Nat):aZ g (n*m)=aZ g n*(m:Int):=by
 unfold aZ; cases g
 ·simp
 ·simp[amJ]
theorem Y9 {t c u e:Nat} (h:2 ^ (u - min t u)*(2*e+1)<2 ^ (u - min t u+1)):Nat.gcd (2 ^ (t - min t u)*(2*c+1)) (2 ^ (u - min t u)*(2*e+1))=1:=by
 have he:e=0:=by
  rcases akT e with h1 | h1
  ·exact h1
  ·have:2 ^ (u - min t u)*2<=2 ^ (u - min t u)*(2*e+1):=ajG _ (by omega);rw[ajK]at h; omega
 subst he;rw[akQ,aj1,alk];rcases Nat.le_total t u with h1 | h1
 ·rw[akS h1,aj8,alq,alC];refine Nat.Coprime.pow_right _ ?_;show Nat.gcd (2*c+1) 2=1;rw[akN,amz];have:(2*c+1)%2=1:=by omega
  rw[this]; rfl
 ·rw[Nat.min_eq_right h1,aj8,alq,Nat.gcd_one_right]
theorem Kx {t m c:Nat} (h:m<=t):2 ^ t*(2*c+1) / 2 ^ m=2 ^ (t - m)*(2*c+1):=by
 have:2 ^ t=2 ^ m*2 ^ (t - m):=by rw[<- ajR]; congr 1; omega
 rw[this,ajI,aj7 _ (ajM m)]
theorem Ob {B t c:Nat} (h:aU B (2 ^ t*(2*c+1))):t<B:=by
 unfold aU at h;have h1:2 ^ t*1<=2 ^ t*(2*c+1):=ajG _ (by omega);have h2:2 ^ t<2 ^ B:=by omega
 exact(Nat.pow_lt_pow_iff_right (by decide)).1 h2
theorem Ym {t c:Nat}:bl (2 ^ t*(2*c+1))=t+1↔2 ^ t*(2*c+1)<2 ^ (t+1):=by
 have hp:=ajM t;have h0:2 ^ t*(2*c+1) ≠ 0:=by have:=alr hp (show 0<2*c+1 by omega); omega
 constructor
 ·intro h; have:=Cn (2 ^ t*(2*c+1)); rwa [h]at this
 ·intro h;have h1:=Ax h;have h2:=Cn (2 ^ t*(2*c+1));have h3:2 ^ t*1<=2 ^ t*(2*c+1):=ajG _ (by omega);have h4:2 ^ t<2 ^ bl (2 ^ t*(2*c+1)):=by omega
  have:=(Nat.pow_lt_pow_iff_right (by decide:1<2)).1 h4;omega
theorem gT {N B n:Nat} (hF:Fuel N) (hB:B<=2000000000100) (h:aU B n) (k:Kz3):nR N (aj n) k=k (aj n):=by have h1:=vN hB h;have:=hF.lt;rw[Ns _ (bf n) (by omega) (by omega),aM]
theorem Gq {N B:Nat} (hF:Fuel N) (hB:B<=2000000000100) (g:Bool) {n d:Nat} (hn:aU B n) (hd:aU B d) (hn0:n ≠ 0) (hd0:d ≠ 0) (J:List Int->List Int->Bool) (k:Kx6)
  (hJ:∀ a b:Nat,aU B a->aU B b->J (aj a) (aj b)=k (sg g a) (aj a) false (aj b)) :
  (sQ3 N false (aj n) (λ(nr:Int)=>(sQ3 N false (aj d) (λ(acl:Int)=>
   (A_ N (aj n) (cond (decide (acl<nr)) acl nr) (λ(acr:List Int)=>(A_ N (aj d) (cond (decide (acl<nr)) acl nr) (λ(acq:List Int)=>(sQ3 N false acq (λ(acn:Int)=>((ah .i64 acn)&&(Kg N false acq (λ(acC:Int)=>((ah .i64 (acC - 1))&&(cond (acn != (acC - 1)) (Mx N acr acq (λ(s6:List Int)=>(pZ N (λ(s7:List Int)=>(Da N s6 s7 (λ(acP:Int)=>(cond (acP != 0) (xw N acr s6 (λ(s8:List Int) (s9:List Int)=>(xw N acq s6 (λ(s10:List Int) (s11:List Int)=>(J s8 s10))))) (J acr acq)))))))) (J acr acq))))))))))))))))
   = kqR (mkRat (aZ g n) d) k:=by
 have hl:=hF.lt;have hbig:=hF.big;obtain⟨t,c,hnt⟩:=EM n hn0;obtain⟨u,e,hdu⟩:=EM d hd0;have htB:t<B:=Ob (by rw[<- hnt]; exact hn);have huB:u<B:=Ob (by rw[<- hdu]; exact hd);have sn:=vw hF hB hn;have sd:=vw hF hB hd;have ln:=vN hB hn;have ld:=vN hB hd;have z1:=λkk=>Eu (N:=N) (t:=t) (c:=c) false (by rw[<- hnt]; exact sn) (by omega) kk
 have z2:=λkk=>Eu (N:=N) (t:=u) (c:=e) false (by rw[<- hdu]; exact sd) (by omega) kk
 rw[<- hnt]at z1;rw[<- hdu]at z2;rw[z1,z2];obtain⟨m,hm⟩:∃ m,m=min t u:=⟨_,rfl⟩
 have em:cond (decide ((u:Int)<(t:Int))) (u:Int) (t:Int)=(m:Int):=by
  by_cases h:u<t
  ·rw[ajx (by omega),ajA,hm,Nat.min_eq_right (by omega)]
  ·rw[ajy (by omega),ajz,hm,akS (by omega)]
 rw[em,u9 (by omega) ⟨by omega,by omega⟩,u9 (by omega) ⟨by omega,by omega⟩];have ha:n / 2 ^ m=2 ^ (t - m)*(2*c+1):=by rw[hnt]; exact Kx (by rw[hm]; exact Nat.min_le_left _ _)
 have hb:d / 2 ^ m=2 ^ (u - m)*(2*e+1):=by rw[hdu]; exact Kx (by rw[hm]; exact amO _ _)
 have hbn:aU B (n / 2 ^ m):=bV hn;have hbd:aU B (d / 2 ^ m):=bV hd;have hmk:mkRat (aZ g n) d=mkRat (aZ g (n / 2 ^ m)) (d / 2 ^ m):=by
  have e1:n=n / 2 ^ m*2 ^ m:=by
   rw[ha,hnt,amC,<- ajR];congr 2; have:m<=t:=by rw[hm]; exact Nat.min_le_left _ _
   omega
  have e2:d=d / 2 ^ m*2 ^ m:=by
   rw[hb,hdu,amC,<- ajR];congr 2; have:m<=u:=by rw[hm]; exact amO _ _
   omega
  conv=>lhs; rw[e1,e2,LA]
  rw[Rat.mkRat_mul_right (by have:=ajM m; omega)]
 rw[hmk];obtain⟨a,hae⟩:∃ a,a=n / 2 ^ m:=⟨_,rfl⟩
 obtain⟨b,hbe⟩:∃ b,b=d / 2 ^ m:=⟨_,rfl⟩
 rw[<- hae]at ha hbn ⊢;rw[<- hbe]at hb hbd ⊢;have hb0:0<b:=by rw[hb]; exact alr (ajM _) (by omega)
 have z3:=λkk=>Eu (N:=N) (t:=u - m) (c:=e) false (by rw[<- hb]; exact vw hF hB hbd) (by omega) kk
 rw[<- hb]at z3;have hblb:bl b<=B:=Ax hbd;have hbl0:0<bl b:=(RM (by omega)).1;rw[z3,aa ajv,En false b (vw hF hB hbd),aa ajv];obtain⟨i1,i2⟩:=Me g a b hb0;unfold kqR;rw[i1,i2];have fin1:Nat.gcd a b=1->J (aj a) (aj b)=krR (aZ g (a / Nat.gcd a b)) (b / Nat.gcd a b) k:=by intro h;rw[hJ a b hbn hbd,Sv _ _ _ k,h,aln,aln]
 by_cases hp:bl b=u - m+1
 ·have:(((u - m:Nat):Int) != (bl b:Int) - 1)=false:=by simp; omega
  rw[this,ajz];refine fin1 ?_;rw[ha,hb,hm];refine Y9 ?_;rw[<- hm];rw[hb]at hp;exact Ym.1 hp
 ·have:(((u - m:Nat):Int) != (bl b:Int) - 1)=true:=by simp; omega
  have la:=vN hB hbn;have lb:=vN hB hbd;have hgp:0<Nat.gcd a b:=akC _ hb0;have hgb:aU B (Nat.gcd a b):=oc hbd (aly _ hb0);have lg:=vN hB hgb;have e1:aj 1=[1]:=ye (by decide) (by decide);rw[this,ajA,LM hbig (hF.sum (by omega) hbn hbd) (by omega) (by omega)];unfold pZ M3;dsimp only;rw[<- e1,lM _ 1 ⟨by omega,by omega⟩ ⟨by rw[e1]; simp; omega,by rw[e1]; simp⟩];by_cases hc:Nat.gcd a b=1
  ·have:(d8 (Nat.gcd a b) 1 != 0)=false:=by rw[hc]; rfl
   rw[this,ajz];exact fin1 hc
  ·have:(d8 (Nat.gcd a b) 1 != 0)=true:=by unfold d8; rw[if_neg (by omega),if_neg hc]; rfl
   rw[this,ajA,yu hbig hgp (by omega) (by omega),yu hbig hgp (by omega) (by omega),hJ _ _ (bV hbn) (bV hbd),Sv _ _ _ k]
theorem IH {α:Type} (c:Bool) (f:α->Bool) (a b:α):cond c (f a) (f b)=f (cond c a b):=by cases c <;> rfl
theorem yr {N B:Nat} (hF:Fuel N) (hB:B<=2000000000100) (g:Bool) {n d:Nat} (hn:aU B n) (hd:aU B d) (hd0:d ≠ 0) (b1 b2:Bool) (k:Kx6) :
  PK N g (aj n) (aj d) b1 b2 k=kqR (mkRat (aZ g n) d) k:=by
 have hl:=hF.lt;have hJ:∀ a b:Nat,aU B a->aU B b -> ∀ x y,KJ N g x y b1 b2 (aj a) (aj b) k=k (sg g a) (aj a) false (aj b):=by
  intro a b ha hb x y;unfold KJ GF Qz;rw[gT hF hB ha];unfold FK QZ;dsimp only;rw[gT hF hB hb,gT hF hB hb];cases g
  ·rfl
  ·simp only[qh,sg,akA]; rfl
 (unfold PK; rw[af]; unfold Qd)
 by_cases h0:n=0
 ·subst h0;rw[ba];show GF N false [] b1 b2 _=_;have e0:aZ g 0=0:=by unfold aZ; cases g <;> rfl
  unfold GF Qz;rw[<- ba,gT hF (B:=10) (by decide) (by unfold aU; decide)];unfold pZ M3 FK QZ;have e1:aj 1=[1]:=ye (by decide) (by decide);dsimp only;rw[<- e1,gT hF (B:=10) (by decide) (by unfold aU; decide),gT hF (B:=10) (by decide) (by unfold aU; decide),e0,Rat.zero_mkRat];rfl
 ·have e0:((((aj n).length:Nat):Int)==0)=false:=by rw[cu h0]; simp; omega
  rw[e0,ajz];have:=Gq hF hB g hn hd h0 hd0 (λx y=>KJ N g (aj n) (aj d) b1 b2 x y k) k (λa b ha hb=>hJ a b ha hb _ _);rw[<- this];congr 1; funext nr; congr 1; funext acl;exact IH (decide (acl<nr)) (λz=>Un N g (aj n) (aj d) b1 b2 z k) acl nr
theorem LP {N B:Nat} (hF:Fuel N) (hB:B<=2000000000100) (g:Bool) {n d:Nat} (hn:aU B n) (hd:aU B d) (hd0:d ≠ 0) (b1 b2:Bool) (l1 l2:List Int) (k:Kx6) :
  YT N g (aj n) (aj d) b1 l1 b2 l2 k=kqR (mkRat (aZ g n) d) k:=by
 have hl:=hF.lt;have hJ:∀ a b:Nat,aU B a->aU B b -> ∀ x y,KK N g x y b1 l1 b2 l2 (aj a) (aj b) k=k (sg g a) (aj a) false (aj b):=by
  intro a b ha hb x y;unfold KK GE Qg;rw[gT hF hB ha];unfold FK QZ;dsimp only;rw[gT hF hB hb,gT hF hB hb];cases g
  ·rfl
  ·simp only[qh,sg,akA]; rfl
 (unfold YT; rw[af]; unfold QT)
 by_cases h0:n=0
 ·subst h0;rw[ba];show GE N false [] b1 l1 b2 l2 _=_;have e0:aZ g 0=0:=by unfold aZ; cases g <;> rfl
  unfold GE Qg;rw[<- ba,gT hF (B:=10) (by decide) (by unfold aU; decide)];unfold pZ M3 FK QZ;have e1:aj 1=[1]:=ye (by decide) (by decide);dsimp only;rw[<- e1,gT hF (B:=10) (by decide) (by unfold aU; decide),gT hF (B:=10) (by decide) (by unfold aU; decide),e0,Rat.zero_mkRat];rfl
 ·have e0:((((aj n).length:Nat):Int)==0)=false:=by rw[cu h0]; simp; omega
  rw[e0,ajz];have:=Gq hF hB g hn hd h0 hd0 (λx y=>KK N g (aj n) (aj d) b1 l1 b2 l2 x y k) k (λa b ha hb=>hJ a b ha hb _ _);rw[<- this];congr 1; funext nr; congr 1; funext acl;exact IH (decide (acl<nr)) (λz=>Uo N g (aj n) (aj d) b1 l1 b2 l2 z k) acl nr
theorem LH {N:Nat} (a:Bool) (l:List Int) (b:Bool) {d:Nat} (hd:d ≠ 0) (k:Kz3):J1 N a l b (aj d) k=k (aj d):=by
 (unfold J1; rw[af]; unfold Qf)
 have:((((aj d).length:Nat):Int)==0)=false:=by rw[cu hd]; simp; omega
 rw[this]; rfl
theorem gy {N:Nat} (a:Bool) (l:List Int) (b:Bool) {d:Nat} (hd:d ≠ 0) (k:Kz3):C_ N a l b (aj d) k=k (aj d):=by
 (unfold C_; rw[af]; unfold W5)
 have:((((aj d).length:Nat):Int)==0)=false:=by rw[cu hd]; simp; omega
 rw[this]; rfl
theorem rE {N B:Nat} (hF:Fuel N) (hB:B<=2000000000100) {a b:Nat} (ha:aU B a) (hb:aU B b) (k:Kz3):Dc N (aj a) (aj b) k=k (aj (a*b)):=by have h1:=vN hB ha;have h2:=vN hB hb;have:=hF.lt;rw[BT _ _ (bf _) (bf _) (by omega) (by omega),aM,aM]
theorem SK {N B:Nat} (hF:Fuel N) (hB:B<=1000000000000) {x y:Rat} (hx:Bq B x) (hy:Bq B y) (b1 b2:Bool) (k:Kx6) :
  YY N b1 b2 (decide (x.num<0)) (aj x.num.natAbs) false (aj x.den) (decide (y.num<0)) (aj y.num.natAbs) false (aj y.den) k=kqR (x*y) k:=by
 (unfold YY; rw[af]; unfold Xg)
 have hB2:B<=2000000000100:=by omega
 rw[rE hF hB2 hx.1 hy.1,gy _ _ _ x.den_nz,gy _ _ _ y.den_nz,rE hF hB2 hx.2 hy.2,
  yr hF (B:=B+B) (by omega) _ (d7 hx.1 hy.1) (d7 hx.2 hy.2) (amR x.den_nz y.den_nz),Ei,jM,jM,<- Rat.mul_def']
theorem SO {N B:Nat} (hF:Fuel N) (hB:B<=1000000000000) {x y:Rat} (hx:Bq B x) (hy:Bq B y) (h0:y.num ≠ 0) (b1 b2:Bool) (k:Kx6) :
  YZ N b1 b2 (decide (x.num<0)) (aj x.num.natAbs) false (aj x.den) (decide (y.num<0)) (aj y.num.natAbs) false (aj y.den) k=kqR (x / y) k:=by
 (unfold YZ; rw[af]; unfold Xh)
 have hB2:B<=2000000000100:=by omega
 obtain⟨i1,i2,i3⟩:=Ef h0;rw[gy _ _ _ y.den_nz,rE hF hB2 hx.1 hy.2,gy _ _ _ x.den_nz,rE hF hB2 hx.2 hy.1,
  yr hF (B:=B+B) (by omega) _ (d7 hx.1 hy.2) (d7 hx.2 hy.1) (amR x.den_nz (by omega)),Ei,jM,Rat.div_def,Rat.mul_def',i2]
 have:aZ (decide (y.num<0)) y.den=(y⁻¹).num:=by rw[<- i3,<- i1,jM]
 rw[this]
theorem SS {N B:Nat} (hF:Fuel N) (hB:B<=1000000000000) {x y:Rat} (hx:Bq B x) (hy:Bq B y) (k:Kx6) :
  Y0 N (decide (x.num<0)) (aj x.num.natAbs) false (aj x.den) (decide (y.num<0)) (aj y.num.natAbs) false (aj y.den) k=kqR (x - y) k:=by
 (unfold Y0; rw[af]; unfold Xo; unfold WI; rw[af]; unfold Qi)
 have hB2:B<=2000000000100:=by omega
 have ha:=d7 hx.1 hy.2;have hb:=d7 hy.1 hx.2;have hB3:B+B+1<=2000000000100:=by omega
 rw[gy _ _ _ y.den_nz,rE hF hB2 hx.1 hy.2,gy _ _ _ x.den_nz,rE hF hB2 hy.1 hx.2];dsimp only;rw[gy _ _ _ x.den_nz,gy _ _ _ y.den_nz,rE hF hB2 hx.2 hy.2,
  O_ false _ _ _ _ (vw hF (by omega) ha) (vw hF (by omega) hb) (vw hF hB3 (Aw ha hb)),w5,w5]
 unfold yR;dsimp only;have hz:aU (B+B+1) (x.num*(y.den:Int) - y.num*(x.den:Int)).natAbs:=by
  refine oc (Aw ha hb) ?_;have e1:(x.num*(y.den:Int)).natAbs=x.num.natAbs*y.den:=by rw[alj,ake]
  have e2:(y.num*(x.den:Int)).natAbs=y.num.natAbs*x.den:=by rw[alj,ake]
  omega
 rw[LP hF hB3 _ hz (bN (d7 hx.2 hy.2) (by omega)) (amR x.den_nz y.den_nz),jM,<- Rat.sub_def']
theorem BS {N:Nat} (x:Rat) (k:Ky9):J7 N (decide (x.num<0)) (aj x.num.natAbs) false (aj x.den) k=k (Bd x.num):=by
 (unfold J7 VZ; unfold GH; rw[af]; unfold Br Bd)
 by_cases h0:x.num=0
 ·rw[h0,if_pos rfl];have:aj (0:Int).natAbs=[]:=ba;rw[this]; rfl
 ·have:((((aj x.num.natAbs).length:Nat):Int)==0)=false:=by rw[cu (by omega)]; simp; omega
  rw[this,ajz,if_neg h0];by_cases h:x.num<0
  ·rw[ajx h,ajA,if_pos h]
  ·rw[ajy h,ajz,if_neg h]
theorem Cs (n:Nat):bQ (aj n) (aj n).length=(aj n).length:=IK n
theorem SC {N B:Nat} (hF:Fuel N) (hB:B<=2000000000100) {x:Rat} (hx:Bq B x) (b1 b2:Bool) (l1 l2:List Int) (k:Kx6) :
  Ts N (decide (x.num<0)) (aj x.num.natAbs) false (aj x.den) b1 l1 b2 l2 k=kqR x k:=by
 (unfold Ts; rw[af]; unfold Qn)
 have h1:=vN hB hx.1;have h2:=vN hB hx.2;have hl:=hF.lt;rw[akl,aa (ajx (by omega)),LH _ _ _ x.den_nz,akl,aa (ajx (by omega))];unfold vR vF WQ V5;rw[nJ _ (by omega) (by omega),Cs];dsimp only;rw[nJ _ (by omega) (by omega),nJ _ (by omega) (by omega),Cs];have e1:(List.take (aj x.num.natAbs).length (List.drop 0 (aj x.num.natAbs)))=aj x.num.natAbs:=by simp
 have e2:(List.take (aj x.den).length (List.drop 0 (aj x.den)))=aj x.den:=by simp
 have e3:decide (0+(aj x.num.natAbs).length<=(aj x.num.natAbs).length)=true:=ajx (by omega);have e4:decide (0+(aj x.den).length<=(aj x.den).length)=true:=ajx (by omega);rw[e1,e2,e3,e4];unfold kqR krR;by_cases h:x.num<0
 ·have:decide (((((aj x.num.natAbs).length:Nat):Nat):Int)>0)=true:=by rw[qh]; exact ajx (by omega)
  rw[ajx h,this]; rfl
 ·rw[ajy h]; rfl
end Go.Proofs.YteifemaagdeomaaGreatDoor
end
