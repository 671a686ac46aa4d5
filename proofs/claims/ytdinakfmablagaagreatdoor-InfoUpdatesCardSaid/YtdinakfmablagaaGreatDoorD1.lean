/- Laws in plain Lean. Conditions: none. -/
import Derived.Test.YtdinakfmablagaaGreatDoorC2
set_option linter.unusedVariables false
section
namespace Go.Proofs.YtdinakfmablagaaGreatDoor
open Go Go.Mach
theorem lZ:∀(i V:Nat),(ai V).getD i 0=((V / 4294967296 ^ i%4294967296:Nat):Int)
 | i,V=>by
  by_cases h:V=0
  ·subst h; rw[bb]; simp
  ·rw[ci h];cases i with
   | zero=>simp
   | succ i=>
    show(ai (V / 4294967296)).getD i 0=_;rw[lZ i (V / 4294967296),aaj,aab,<- aaf]
theorem GO {V w:Nat} (h:V / 4294967296 ^ w ≠ 0):w<(ai V).length:=by
 rcases aa0 w (ai V).length with h1 | h1
 ·exact h1
 ·exfalso;have h2:=eI (bh V);rw[aM]at h2;exact h (aaC (aar h2 (aan (by decide) h1)))
theorem rm {n:Nat} (h0:n ≠ 0) (h:n<4294967296):ai n=[(n:Int)]:=by rw[ci h0,aaC h,bb,aai h]
theorem DR (Q n m:Nat) (h:m<n):(List.replicate (m+1) (0:Int)++(dl Q n).drop (m+1)).set m ((Q / 4294967296 ^ m%4294967296:Nat):Int)=List.replicate m 0++(dl Q n).drop m:=by rw[abM,aaq,List.singleton_append,bg _ _ _ _ _ (by simp),cU (n:=m) (by rw[al]; exact h),rn Q h]
theorem zj {A d:Nat} (hd:0<d):(A / 4294967296%d*4294967296+A%4294967296)%d=A%d/\(A / 4294967296%d*4294967296+A%4294967296) / d=A / d%4294967296:=by
 have h1:=aaY A 4294967296;have h2:=aaY (A / 4294967296) d;have h3:=aao (A / 4294967296) hd;have h4:A%4294967296<4294967296:=aao _ (by decide);obtain⟨a,ha⟩:∃ a,a=A / 4294967296:=⟨_,rfl⟩
 obtain⟨e,he⟩:∃ e,e=A%4294967296:=⟨_,rfl⟩
 rw[<- ha]at h1 h2 h3 ⊢;rw[<- he]at h1 h4 ⊢;obtain⟨c,hc⟩:∃ c,c=a / d:=⟨_,rfl⟩
 obtain⟨r,hr⟩:∃ r,r=a%d:=⟨_,rfl⟩
 rw[<- hc,<- hr]at h2;rw[<- hr]at h3 ⊢;have h5:A=d*(c*4294967296)+(r*4294967296+e):=by rw[<- h1,<- h2,<- aah,aap,aab 4294967296,aab 4294967296]; omega
 constructor
 ·rw[h5,acn]
 ·rw[h5,ada hd,aab c,acn];refine(aai ?_).symm;rw[aag hd];have:=aaa 4294967296 h3;rw[abG]at this;rw[aab _ d,aab d];rw[aab d]at this;omega
theorem iu (x:Nat):x<4294967296 ^ (ai x).length:=by have:=eI (bh x); rwa [aM]at this
theorem Tt (c:List Int) (m:Nat):aE (c.take (m+3))=aE (c.take m)+4294967296 ^ m*((c.getD m 0).toNat+4294967296*((c.getD (m+2) 0).toNat*4294967296+(c.getD (m+1) 0).toNat)):=by rw[show m+3=m+2+1 by omega,aT,show m+2=m+1+1 by omega,aT,aT];simp only[aaj];generalize 4294967296 ^ m=P;grind
theorem Ts (c:List Int) (m:Nat):aE (c.take (m+2))=aE (c.take m)+4294967296 ^ m*((c.getD m 0).toNat+4294967296*(c.getD (m+1) 0).toNat):=by rw[show m+2=m+1+1 by omega,aT,aT];simp only[aaj];generalize 4294967296 ^ m=P;grind
theorem Ez {b:List Int} {o i:Nat} (D:Nat) (h:o+i<=b.length):(b.take o++(dl D i++b.drop (o+i))).length=b.length:=by simp[al]; omega
theorem Ey {b:List Int} {o i:Nat} (D:Nat) (h:o+i<b.length):(b.take o++(dl D i++b.drop (o+i))).getD (o+i) 0=b.getD (o+i) 0:=by rw[<- aaq,cU h,bU (by simp[al]; omega)]
theorem zG {b:List Int} {o i:Nat} (D:Nat) (h:o+i<b.length):(b.take o++(dl D i++b.drop (o+i))).set (o+i) ((D / 4294967296 ^ i%4294967296:Nat):Int)=b.take o++(dl D (i+1)++b.drop (o+(i+1))):=by rw[<- aaq,cU h,bg _ _ _ _ _ (by simp[al]; omega),dl];simp[aaM]
theorem Ev {b:List Int} {o i n:Nat} (D E:Nat) (hi:i<=n) (h:o+n<=b.length):(b.take o++(dl E i++((dl D n).drop i++b.drop (o+n)))).length=b.length:=by simp[al]; omega
theorem Eu {b:List Int} {o i n:Nat} (D E:Nat) (hi:i<n) (h:o+n<=b.length):(b.take o++(dl E i++((dl D n).drop i++b.drop (o+n)))).getD (o+i) 0=((D / 4294967296 ^ i%4294967296:Nat):Int):=by rw[<- aaq,cU (n:=i) (by rw[al]; exact hi),ab0,bU (by simp[al]; omega),rn D hi]
theorem Ew {b:List Int} {o i n:Nat} (D E:Nat) (hi:i<n) (h:o+n<=b.length):(b.take o++(dl E i++((dl D n).drop i++b.drop (o+n)))).set (o+i) ((E / 4294967296 ^ i%4294967296:Nat):Int)=b.take o++(dl E (i+1)++((dl D n).drop (i+1)++b.drop (o+n))):=by rw[<- aaq,cU (n:=i) (by rw[al]; exact hi),ab0,bg _ _ _ _ _ (by simp[al]; omega),dl];simp
theorem Gy {m:Nat} (S X:Nat):∀ n,n<=m->dl (S+4294967296 ^ m*X) n=dl S n
 | 0,_=>rfl
 | n+1,h=>by rw[dl,dl,Gy S X n (by omega)];congr 3;refine kW (R:=4294967296 ^ (m - (n+1))*X) ?_;rw[<- aah,<- aal,show n+1+(m - (n+1))=m by omega]
theorem zz {w:List Int} {n i U Q:Nat} (hw:InW w) (hl:w.length=n+1) (hU:U=aE w) (hi:i<=n) (hQ:Q<4294967296 ^ (n+1)) :
  (((w.getD i 0).toNat+4294967296 - Q / 4294967296 ^ i%4294967296 - (if aE (w.take i)<Q%4294967296 ^ i then 1 else 0))%4294967296=(U+4294967296 ^ (n+1) - Q) / 4294967296 ^ i%4294967296)
  /\ (if (w.getD i 0).toNat<Q / 4294967296 ^ i%4294967296+(if aE (w.take i)<Q%4294967296 ^ i then 1 else 0)then 1 else 0)=(if aE (w.take (i+1))<Q%4294967296 ^ (i+1)then 1 else(0:Nat)):=by
 have hx:=hw.at (i:=i);have hA:=aT (m:=w) i;have hAl:=bA hw i;have hp:=aY i;have hBl:=aao Q hp;have hPs:4294967296 ^ (i+1)=4294967296 ^ i*4294967296:=aaj ..;have hmm:Q%4294967296 ^ (i+1)=Q%4294967296 ^ i+4294967296 ^ i*(Q / 4294967296 ^ i%4294967296):=by rw[hPs,ac5]
 have hyl:Q / 4294967296 ^ i%4294967296<4294967296:=aao _ (by decide);constructor
 ·obtain⟨R1,h1⟩:=bX w (i+1);have hW:4294967296 ^ (n+1)=4294967296 ^ i*4294967296*4294967296 ^ (n - i):=by rw[<- hPs,<- aal,show i+1+(n - i)=n+1 by omega]
  have hq:=CR (D:=U+4294967296 ^ (n+1) - Q) (a:=U+4294967296 ^ (n+1)) (b:=Q) (x:=(w.getD i 0).toNat) (y:=Q / 4294967296 ^ i%4294967296) (R1:=R1+4294967296 ^ (n - i)) (R2:=Q / (4294967296 ^ i*4294967296)) hAl hBl rfl
   (by rw[hU,h1,hA,hW,hPs,aap]; omega)
   (by rw[<- hmm,hPs]; exact(acm _ _).symm)
   (by omega)
  generalize (U+4294967296 ^ (n+1) - Q) / 4294967296 ^ i=Z at *;generalize Q / 4294967296 ^ i%4294967296=y at *;generalize (w.getD i 0).toNat=x at *;generalize ((R1+4294967296 ^ (n - i):Nat):Int) - ((Q / (4294967296 ^ i*4294967296):Nat):Int)=RR at *;split at hq <;> rename_i hh <;> simp only[hh,abI,aaG] <;> omega
 ·rw[hA,hmm];exact(mO _ _ _ _ _ hAl hBl).symm
theorem xM {D V c v i:Nat} (hc:c=(D%4294967296 ^ i+V) / 4294967296 ^ i) :
  (D%4294967296 ^ (i+1)+(V+4294967296 ^ i*v)) / 4294967296 ^ (i+1)=(D / 4294967296 ^ i%4294967296+v+c) / 4294967296 /\
  ∀ R,(D+(V+4294967296 ^ i*v+4294967296 ^ (i+1)*R)) / 4294967296 ^ i%4294967296=(D / 4294967296 ^ i%4294967296+v+c)%4294967296:=by
 have hp:=aY i;have hPs:4294967296 ^ (i+1)=4294967296 ^ i*4294967296:=aaj ..;have hmm:D%4294967296 ^ (i+1)=D%4294967296 ^ i+4294967296 ^ i*(D / 4294967296 ^ i%4294967296):=by rw[hPs,ac5]
 have e:D%4294967296 ^ (i+1)+(V+4294967296 ^ i*v)=(D%4294967296 ^ i+V)+4294967296 ^ i*(D / 4294967296 ^ i%4294967296+v):=by rw[hmm,aap]; omega
 have e2:(D%4294967296 ^ (i+1)+(V+4294967296 ^ i*v)) / 4294967296 ^ i=D / 4294967296 ^ i%4294967296+v+c:=by rw[e,dT,<- hc]; omega
 constructor
 ·rw[hPs,<- aaf,<- hPs,e2]
 ·intro R;have e3:D+(V+4294967296 ^ i*v+4294967296 ^ (i+1)*R)=(D%4294967296 ^ (i+1)+(V+4294967296 ^ i*v))+4294967296 ^ (i+1)*(D / 4294967296 ^ (i+1)+R):=by have:=acm D (4294967296 ^ (i+1));rw[aap]; omega
  rw[kW e3,e2]
theorem Cp {D V c i:Nat} (hc:c=(D%4294967296 ^ i+V) / 4294967296 ^ i) :
  (D%4294967296 ^ (i+1)+V) / 4294967296 ^ (i+1)=(D / 4294967296 ^ i%4294967296+0+c) / 4294967296 /\
  (D+V) / 4294967296 ^ i%4294967296=(D / 4294967296 ^ i%4294967296+0+c)%4294967296:=by
 obtain⟨a1,a2⟩:=xM (v:=0) hc;have a3:=a2 0;rw[abt,aaF V]at a1;rw[abt,abt,aaF V]at a3;exact⟨a1,a3⟩
theorem MZ (n:Nat):dl n (ai n).length=ai n:=by refine List.ext_getElem (al n _) (λi h1 h2=>?_);have e1:=rn n h2;have e2:=lZ i n;rw[List.getD_eq_getElem?_getD,List.getElem?_eq_getElem h1,aaW]at e1;rw[List.getD_eq_getElem?_getD,List.getElem?_eq_getElem h2,aaW]at e2;rw[e1,e2]
theorem CV {X L:Nat} (hX:X<4294967296 ^ L):∀ k,dl X (L+k)=dl X L++List.replicate k 0
 | 0=>by simp
 | k+1=>by rw[<- aaM,dl,CV hX k,aaC (aar hX (aan (by decide) (abP _ _))),abM,aaq];rfl
theorem nC (S:Nat):∀{m n:Nat},n<=m->(dl S m).take n=dl S n
 | 0,n,h=>by
  have:n=0:=by omega
  subst this; rfl
 | m+1,n,h=>by
  by_cases e:n=m+1
  ·subst e; rw[aav (by rw[al]; omega)]
  ·rw[dl,aba (by rw[al]; omega),nC S (by omega)]
theorem Al (S a:Nat):∀ c,dl S (a+c)=dl S a++dl (S / 4294967296 ^ a) c
 | 0=>by simp[dl]
 | c+1=>by rw[<- aaM,dl,Al S a c,dl,aaf,<- aal,aaq]
theorem xW {V m:Nat} (h:V<4294967296 ^ m):bP (dl V m) m=(ai V).length:=by have h1:=qZ (iD V m);rw[al,oR,aai h]at h1;rw[<- h1,aaO,al];have:=jk (dl V m) m;omega
theorem NG {V m:Nat} (h1:4294967296 ^ m<=V) (h2:V<4294967296 ^ (m+1)):(ai V).length=m+1:=by have a:=cA (m+1) V h2;have b:=GO (V:=V) (w:=m) (by have:=acz h1 (aY m); omega);omega
theorem NS {r x:Nat} (hr:r<4294967296) (hx:x<4294967296):aB .or .u64 (IntKind.wrap .u64 ((r:Int)*2 ^ 32)) (IntKind.wrap .u64 (x:Int))=((r*4294967296+x:Nat):Int):=by
 have p32:(2:Nat) ^ 32=4294967296:=by decide
 have q32:(2:Int) ^ 32=4294967296:=by decide
 have e1:IntKind.wrap .u64 ((r:Int)*2 ^ 32)=((2 ^ 32*r:Nat):Int):=by rw[q32,p32,am]; omega
 have e2:IntKind.wrap .u64 (x:Int)=(x:Int):=by rw[am]; omega
 rw[e1,e2,rZ,cw _ _ 32 (by omega) (by omega),p32];congr 1; omega
theorem Fx {N:Nat} {x d:Nat} (hd0:0<d) (hd:d<4294967296) (hs:fo N (ai x)) (k:List Int->Int->Bool):ng N (ai x) (d:Int) k=k (ai (x / d)) ((x%d:Nat):Int):=by
 (unfold ng; rw[ac]; unfold pR)
 obtain⟨s1,s2⟩:=hs;have hx:=iu x;generalize hn:(ai x).length=n at *;rw[aa (bZ (by omega) (by omega) (by omega) (by omega)),aa Z5,aac];have wd:IntKind.wrap .u64 (d:Int)=(d:Int):=by rw[am]; omega
 have d1:(!decide ((d:Int)=0))=true:=by simp; omega
 refine aH (λi=>(((x / 4294967296 ^ (n - i)%d:Nat):Int),((n:Int) - 1 - (i:Int)),List.replicate (n - i) (0:Int)++(dl (x / d) n).drop (n - i))) n ?_ (by omega) (λi hi K=>?_) (λK=>?_)
 ·rw[aci,aaC hx,Nat.zero_mod,aaU (by rw[al]; omega),aaI];simp
 ·obtain⟨m,hm⟩:∃ m,n - i=m+1:=⟨n - i - 1,by omega⟩
  have hm2:n - (i+1)=m:=by omega
  have ei:(n:Int) - 1 - (i:Int)=(m:Int):=by omega
  have ei2:(n:Int) - 1 - ((i+1:Nat):Int)=(m:Int) - 1:=by omega
  have hp:x / 4294967296 ^ (m+1)=x / 4294967296 ^ m / 4294967296:=by rw[aaj,aaf]
  have hdg:x / d / 4294967296 ^ m%4294967296=x / 4294967296 ^ m / d%4294967296:=by rw[aaf,aaf,aab d]
  obtain⟨n1,n2⟩:=zj (A:=x / 4294967296 ^ m) hd0;rw[hm,hm2,ei,ei2,hp];simp only[j9,aac,wd];have hl:(List.replicate (m+1) (0:Int)++(dl (x / d) n).drop (m+1)).length=n:=by simp[al]; omega
  have hr:=aao (x / 4294967296 ^ m / 4294967296) hd0;have hq:(x / 4294967296 ^ m / 4294967296%d*4294967296+x / 4294967296 ^ m%4294967296) / d<4294967296:=by rw[n2]; exact aao _ (by decide)
  rw[Z7 (by omega:(m:Int)>=0),Z_,hn,aa Z6,lZ,aa d1,hl,aa Z6,aa (Z7 (by omega)),aa d1,aa Z5,NS (by omega) (aao _ (by decide))];have e1:∀ A:Nat,Int.tdiv (A:Int) (d:Int)=((A / d:Nat):Int):=λ_=>rfl
  have e2:∀ A:Nat,Int.tmod (A:Int) (d:Int)=((A%d:Nat):Int):=λ_=>rfl
  rw[e1,e2,n1,n2,<- hdg];have e3:IntKind.wrap .u32 (IntKind.wrap .u64 ((x / d / 4294967296 ^ m%4294967296:Nat):Int))=((x / d / 4294967296 ^ m%4294967296:Nat):Int):=by have:=aao (x / d / 4294967296 ^ m) (by decide:4294967296>0);generalize x / d / 4294967296 ^ m%4294967296=y at *;rw[am,dd]; omega
  rw[e3,DR _ _ _ (by omega)]
 ·simp only[j9];have e0:(n:Int) - 1 - (n:Int) = -1:=by omega
  rw[e0,Z8 (by omega),Z9,aaH,abV,abY];rw[aaL,aaZ,abF];have hq:x / d<4294967296 ^ n:=abJ (abK _ _) hx;have hr:=aao x hd0;have e3:IntKind.wrap .u32 ((x%d:Nat):Int)=((x%d:Nat):Int):=by rw[dd]; omega
  rw[e3,dj _ (iD _ _) (by rw[al]; omega) (by rw[al]; omega) (λz=>k z ((x%d:Nat):Int)),ou hq]
theorem K_ (N:Nat) {x:Nat} (hx:x<4294967296) (k:Kz1):RP N (x:Int) k=k ((32 - bl x:Nat):Int):=by unfold RP Sw;have:=tZ (n:=x) (j:=32) (by rw[show(2:Nat) ^ 32=4294967296 by decide]; exact hx);rw[Aw N x hx,aa Z5];congr 1; omega
theorem BP:(2:Nat) ^ 32=4294967296:=by decide
theorem Ja {y:Nat} (h0:y ≠ 0) (hy:y<4294967296):32 - bl y<32/\2147483648<=y*2 ^ (32 - bl y)/\y*2 ^ (32 - bl y)<4294967296:=by
 have h1:=tZ (n:=y) (j:=32) (by rw[BP]; exact hy);obtain⟨h2,h3⟩:=Kh h0;have h4:=vW y;have hp:0<2 ^ (32 - bl y):=aam _;refine⟨by omega,?_,?_⟩
 ·have:=aaa (2 ^ (32 - bl y)) h3;rw[<- aal,show bl y - 1+(32 - bl y)=31 by omega]at this;exact this
 ·have:=aaQ h4 hp;rw[<- aal,show bl y+(32 - bl y)=32 by omega]at this;exact this
theorem FB {N:Nat} (m:List Int) (hm:InW m) (n:Nat) (hn:n<4294967296) (hN:m.length+n / 32+4<N) (hs:m.length<=1099511627776) (e0:List Int->Bool) :
  aj N (eB N m ((n / 32:Nat):Int) ((n%32:Nat):Int) e0) (0,List.replicate (n / 32+m.length+1) (0:Int))=e0 (dl (aE m*2 ^ n) (n / 32+m.length+1)):=by
 generalize hw:n / 32=w at *;generalize hsh:n%32=s at *;have hs32:s<32:=by omega
 have hp2:2 ^ n=4294967296 ^ w*2 ^ s:=by rw[uy,hw,hsh]
 have hs0:0<2 ^ s:=aam s;have hs1:2 ^ s*2 ^ (32 - s)=4294967296:=by rw[<- aal,show s+(32 - s)=32 by omega]
 have hs2:2 ^ s<=2147483648:=by have:2 ^ s<=2 ^ 31:=aan (by decide) (by omega);simpa using this
 let V:=aE m*2 ^ n
 let X:=aE m*2 ^ s
 have hVX:V=4294967296 ^ w*X:=by simp only[V,X]; rw[hp2,aaD]
 let T:=λi=>aE (m.take i)*2 ^ s
 let c:=λi=>T i / 4294967296 ^ i
 refine aH (N:=N) (λi=>((i:Int),dl V (w+i)++((c i:Nat):Int)::List.replicate (m.length - i) 0)) m.length ?_ (by omega) (λi hi K=>?_) (λK=>?_)
 ·congr 1;show List.replicate (w+m.length+1) (0:Int)=dl V w++((c 0:Nat):Int)::List.replicate m.length 0;rw[hVX,sP];have hc0:c 0=0:=by simp[c,T,aE]
  rw[hc0];have:w+m.length+1=w+(m.length+1):=by omega
  rw[this,<- abS,aaT]; rfl
 ·have hx:=hm.at (i:=i);have hT:T (i+1)=T i+4294967296 ^ i*((m.getD i 0).toNat*2 ^ s):=by simp only[T,aT,aaz,aah]
  have hq:T (i+1) / 4294967296 ^ i=c i+(m.getD i 0).toNat*2 ^ s:=by rw[hT,dT]
  have hci:c i<2 ^ s:=by simp only[c,T];rw[aag (aY i),aab];exact abh (bA hm i) hs0
  have hc1:c (i+1)=(c i+(m.getD i 0).toNat*2 ^ s) / 4294967296:=by rw[<- hq]; simp only[c]; rw[aaj,aaf]
  have hdig:V / 4294967296 ^ (w+i)%4294967296=(c i+(m.getD i 0).toNat*2 ^ s)%4294967296:=by rw[<- hq,hVX,aal,<- aaf,aaJ _ (aY w)];obtain⟨R,hR⟩:=bX m (i+1);refine kW (R:=R*2 ^ s) ?_;simp only[X,T];rw[hR,aaz,aah]
  have hrep:List.replicate (m.length - i) (0:Int)=0::List.replicate (m.length - (i+1)) 0:=by rw[show m.length - i=(m.length - (i+1))+1 by omega,aaT]
  have hdl:=al V (w+i);have ei:Int.toNat ((w:Int)+(i:Int))=w+i:=by omega
  have ei1:Int.toNat ((w:Int)+(i:Int)+1)=w+i+1:=by omega
  have emin:min s 64=s:=by omega
  simp only[eB,aac,ei,ei1,emin];rw[hrep,bU hdl.symm,bg _ _ _ _ _ hdl.symm];have et:IntKind.wrap .u64 (IntKind.wrap .u64 (m.getD i 0)*2 ^ s)=(((m.getD i 0).toNat*2 ^ s:Nat):Int):=by
   have hxs:(m.getD i 0).toNat*2 ^ s<4294967296*2147483648:=aaS (by omega) hs2 (by decide);have e1:IntKind.wrap .u64 (m.getD i 0)=(((m.getD i 0).toNat:Nat):Int):=by rw[am]; omega
   have e2:(((m.getD i 0).toNat:Nat):Int)*2 ^ s=(((m.getD i 0).toNat*2 ^ s:Nat):Int):=by simp
   rw[e1,e2,am]; omega
  rw[et];generalize hxx:(m.getD i 0).toNat=x at *;have hx32:x<4294967296:=by omega
  have hlow:x*2 ^ s%4294967296=2 ^ s*(x%2 ^ (32 - s)):=by
   have e:x*2 ^ s%(2 ^ s*2 ^ (32 - s))=2 ^ s*(x%2 ^ (32 - s)):=by rw[aab x]; exact ab1 _ _ _
   rwa [hs1]at e
  have hsum:2 ^ s*(x%2 ^ (32 - s))+c i<4294967296:=by have h1:x%2 ^ (32 - s)+1<=2 ^ (32 - s):=aao _ (aam _);have h2:=aae (2 ^ s) h1;rw[hs1,aap]at h2;omega
  have eor:aB .or .u32 ((c i:Nat):Int) (IntKind.wrap .u32 ((x*2 ^ s:Nat):Int))=((V / 4294967296 ^ (w+i)%4294967296:Nat):Int):=by
   have e1:IntKind.wrap .u32 ((x*2 ^ s:Nat):Int)=((2 ^ s*(x%2 ^ (32 - s)):Nat):Int):=by rw[<- hlow,dd]; omega
   rw[e1,pq _ _ s hci hsum,hdig];omega
  have ehi:IntKind.wrap .u32 (Int.fdiv ((x*2 ^ s:Nat):Int) (2 ^ 32))=((c (i+1):Nat):Int):=by have hxs:x*2 ^ s<4294967296*2147483648:=aaS hx32 hs2 (by decide);rw[jA,dd,hc1];omega
  rw[eor,ehi];have hl1:∀(a b:Int) (ys:List Int),(dl V (w+i)++a::b::ys).length=w+i+2+ys.length:=by intro a b ys; simp[hdl]; omega
  have hset2:(dl V (w+i)++((V / 4294967296 ^ (w+i)%4294967296:Nat):Int)::0::List.replicate (m.length - (i+1)) 0).set (w+i+1) ((c (i+1):Nat):Int)=dl V (w+(i+1))++((c (i+1):Nat):Int)::List.replicate (m.length - (i+1)) 0:=by
   have:dl V (w+i)++((V / 4294967296 ^ (w+i)%4294967296:Nat):Int)::0::List.replicate (m.length - (i+1)) 0=dl V (w+(i+1))++0::List.replicate (m.length - (i+1)) 0:=by rw[<- aaM,dl]; simp
   rw[this];exact bg _ _ _ _ _ (by rw[al]; omega)
  rw[hset2,hl1,hl1];simp only[abw];rw[Z7 (by omega:(i:Int)<m.length),Z_,aa Z6,aa (Z7 (by omega)),aa Z5,aa Z6,aa (Z7 (by omega)),aa Z6,aa (Z7 (by omega)),
   aa Z5,aa Z5,aa Z6,aa (Z7 (by omega)),aa Z5]
  rfl
 ·simp only[eB];rw[Z8 (by omega:¬(m.length:Int)<m.length),Z9,aaH,aaL];have hV:V<4294967296 ^ (w+m.length+1):=by have h1:=eI hm;simp only[V];rw[hp2,aaj,aal,aaD,aah];refine abh ?_ (aY w);exact aaS h1 (by omega) (by decide)
  have hT:T m.length=X:=by simp only[T,X]; rw[aaR]
  have hend:dl V (w+m.length)++[((c m.length:Nat):Int)]=dl V (w+m.length+1):=by
   rw[dl];have:c m.length=V / 4294967296 ^ (w+m.length)%4294967296:=by simp only[c];rw[hT,hVX,aal,<- aaf,aaJ _ (aY w)];rw[aai];rw[aag (aY _),aab];have h1:=eI hm;simp only[X];exact aaS h1 (by omega) (by decide)
   rw[this]
  rw[hend]
theorem qt {N:Nat} {m s:Nat} (hm:m ≠ 0) (hs:s<32) (hN:(ai m).length+4<N) (hl:(ai m).length<=1099511627776) (k0:Bool) (k1:Nat->List Int->Bool) :
  DV N (ai m) (s:Int) k0 k1=k1 (ai (m*2 ^ s)).length (dl (m*2 ^ s) ((ai m).length+1)):=by
 have hlp:(ai m).length ≠ 0:=by rw[ci hm]; simp
 have hV:m*2 ^ s<4294967296 ^ ((ai m).length+1):=by
  rw[aaj];have h2:2 ^ s<4294967296:=by rw[<- BP]; exact Nat.pow_lt_pow_right (by decide) hs
  exact abc (iu m) h2
 (unfold DV; rw[ac]; unfold Jp)
 have e0:((((ai m).length:Nat):Int)==0)=false:=by simp; intro h; rw[h]at hlp; simp at hlp
 have ew:IntKind.wrap .u64 (Int.tdiv (s:Int) 32)=((s / 32:Nat):Int):=by rw[am,abb (by omega)]; omega
 have es:Int.tmod (s:Int) 32=((s%32:Nat):Int):=by rw[aa3 (by omega)]; rfl
 have elen:Int.toNat (((s / 32:Nat):Int)+(((ai m).length:Nat):Int)+1)=s / 32+(ai m).length+1:=by omega
 rw[e0,Z9,ew,es,aa Z5,aa Z5,aa Z5,aa (bZ (by omega) (by omega) (by omega) (by omega)),elen];have:=FB (N:=N) (ai m) (bh m) s (by omega) (by omega) hl (λVI=>nR N VI λmr=>k1 mr VI);rw[aM,show s / 32=0 by omega,aay]at this;rw[show s / 32=0 by omega,aay];refine Eq.trans this ?_;rw[kp _ (by rw[al]; omega) (by rw[al]; omega),al,xW hV]
theorem Ik {N:Nat} (b:List Int) (m:Nat) (hm:m<=b.length) (hN:m<N) (hs:m<9223372036854775807) (k:Kz2):qL N 0 m b k=k (bP b m):=by
 (unfold qL; rw[ac]; unfold pP)
 have key:∀ n,n<=m -> ∀ M,n<M->aj M (tL N 0 b λV5=>k V5) n=k (bP b n):=by
  intro n;induction n with
  | zero=>
   intro _ M hM;obtain⟨M,rfl⟩:∃ m,M=m+1:=⟨M - 1,by omega⟩
   show tL N 0 b _ 0 _=_;simp only[tL,bP];rw[Z8 (by omega:¬((0:Nat):Int)>0),show(false==true)=false from rfl,Z9]
  | succ n ih=>
   intro hn M hM;obtain⟨M,rfl⟩:∃ m,M=m+1:=⟨M - 1,by omega⟩
   show tL N 0 b _ (n+1) (aj M _)=_;have e:0+Int.toNat (((n+1:Nat):Int) - 1)=n:=by omega
   have e2:Int.toNat (((n+1:Nat):Int) - 1) - 0=n:=by omega
   simp only[tL,e,e2];rw[Z7 (by omega:((n+1:Nat):Int)>0),show(true==true)=true from rfl,Z_,aa Z5,aa Z6,aa (Z7 (by omega)),aa Z5,aa (Z7 (by omega)),ih (by omega) M (by omega),mR];by_cases h0:b.getD n 0=0
   ·have:(b.getD n 0==0)=true:=by simpa using h0
    rw[this,if_pos h0]; rfl
   ·have:(b.getD n 0==0)=false:=by simpa using h0
    rw[this,if_neg h0]; rfl
 exact key m (aak _) N hN
theorem BC {N:Nat} (b:List Int) (hb:InW b) (m s:Nat) (hm:m<=b.length) (hs:s<32) (hN:m+3<N) (hms:m<=1099511627780) (k:Kz5):Mk N 0 m (s:Int) b k=k (ai (aE (b.take m) / 2 ^ s)):=by
 have ew:IntKind.wrap .u64 (Int.tdiv (s:Int) 32)=0:=by rw[am,abb (by omega)]; omega
 have es:Int.tmod (s:Int) 32=(s:Int):=by rw[aa3 (by omega)]; omega
 have hs0:0<2 ^ s:=aam _
 (unfold Mk; rw[ac]; unfold JU)
 by_cases h0:m=0
 ·subst h0;rw[ew,acu,show aE []=0 from rfl,Nat.zero_div,bb];rfl
 ·have emin:min s 64=s:=by omega
  rw[ew,es,aa Z5,Z8 (by omega:¬(0:Int)>=(m:Int)),Z9];have hw:InW (b.take m):=hb.take m;have hwl:(b.take m).length=m:=by rw[aaO]; omega
  have hwg:∀ i,i<m->(b.take m).getD i 0=b.getD i 0:=λi hi=>rz hi
  obtain⟨X,hX⟩:∃ X,X=aE (b.take m) / 2 ^ s:=⟨_,rfl⟩
  have elen2:(m:Int) - 0=(m:Int):=by omega
  rw[elen2,aa Z5,aa (bZ (by omega) (by omega) (by omega) (by omega)),aac,<- hX];refine aH (λi=>((i:Int),dl X i++List.replicate (m - i) 0)) m (by simp[dl]) (by omega) (λi hi K=>?_) (λK=>?_)
  ·have hx:=hw.at (i:=i);have hy:=hw.at (i:=i+1);have hset:=yc X i m (by omega);have hl:(dl X i++List.replicate (m - i) (0:Int)).length=m:=by simp[al]; omega
   obtain⟨R,hR⟩:=Aj hw i;have hdig:X / 4294967296 ^ i%4294967296=(((b.take m).getD i 0).toNat+4294967296*((b.take m).getD (i+1) 0).toNat) / 2 ^ s%4294967296:=by
    rw[hX,aaf,aab (2 ^ s),<- aaf,hR];have e2:4294967296*4294967296*R=2 ^ s*(4294967296*(2 ^ (32 - s)*R)):=by
     have hs1:2 ^ s*2 ^ (32 - s)=4294967296:=by rw[<- aal,show s+(32 - s)=32 by omega]
     rw[aaD (2 ^ s),<- aah (2 ^ s),hs1,aah]
    rw[e2,aa5 _ _ hs0,abp]
   have hfin:∀ z:Int,z=((((b.take m).getD i 0).toNat+4294967296*((b.take m).getD (i+1) 0).toNat:Nat):Int)->IntKind.wrap .u32 (Int.fdiv z (2 ^ s))=((X / 4294967296 ^ i%4294967296:Nat):Int):=by
    intro z hz;have e:(2:Int) ^ s=((2 ^ s:Nat):Int):=by simp
    rw[hdig,hz,e,abC _ (by omega),dd];rfl
   have ea:(0:Int)+(i:Int)=(i:Int):=by omega
   have ei:0+Int.toNat (i:Int)=i:=by omega
   have ei1:Int.toNat ((i:Int)+1)=i+1:=by omega
   simp only[ir,ea,ei1,aac,aay,emin,hl];rw[Z7 (by omega:(i:Int)<m),Z_,aa Z5,aa Z6,aa (Z7 (by omega)),aa Z5,aa Z5];rw[<- hwg i hi];by_cases hlast:i+1<m
   ·rw[<- hwg (i+1) hlast];rw[Z7 (by omega:(i:Int)+1<m),Z_,aa Z5,aa Z5,aa Z6,aa (Z7 (by omega)),aa (Z7 (by omega)),aa Z6,aa (Z7 (by omega)),aa Z5];have e1:IntKind.wrap .u64 ((b.take m).getD i 0)=((((b.take m).getD i 0).toNat:Nat):Int):=by rw[am]; omega
    have e2:IntKind.wrap .u64 (IntKind.wrap .u64 ((b.take m).getD (i+1) 0)*2 ^ 32)=((2 ^ 32*((b.take m).getD (i+1) 0).toNat:Nat):Int):=by
     have:(2:Int) ^ 32=4294967296:=by decide
     have:(2:Nat) ^ 32=4294967296:=by decide
     rw[am,am]; omega
    have p32:(2:Nat) ^ 32=4294967296:=by decide
    rw[e1,e2,cw _ _ 32 (by omega) (by omega),hfin _ (by omega),hset,jP]
   ·rw[Z8 (by omega:¬(i:Int)+1<m),Z9,aa (Z7 (by omega)),aa Z6,aa (Z7 (by omega)),aa Z5];have hz:(b.take m).getD (i+1) 0=0:=dU (by omega);have e1:IntKind.wrap .u64 ((b.take m).getD i 0)=((((b.take m).getD i 0).toNat:Nat):Int):=by rw[am]; omega
    rw[e1,hfin _ (by rw[hz]; simp),hset,jP]
  ·simp only[ir];have hl:(dl X m++List.replicate (m - m) (0:Int)).length=m:=by simp[al]
   rw[Z8 (by omega:¬(m:Int)<(((dl X m++List.replicate (m - m) (0:Int)).length:Nat):Int)),Z9,aaH,aaL,aaI];have hXl:X<4294967296 ^ m:=by have h1:=eI hw;rw[hwl]at h1;rw[hX];exact abJ (abK _ _) h1
   rw[dj _ (iD X m) (by rw[al]; omega) (by rw[al]; omega),ou hXl]
theorem RB {A B r u0:Nat} (h:r*4294967296+u0<A):B+r*4294967296+u0<B+A:=by omega
theorem Bt {N:Nat} {s5:Int} {ul j n u0 v0 v1 T d:Nat} {b c ql:List Int} (hn:2<=n) (hc1:c.getD (n - 2) 0=(v0:Int)) (hb:b.getD (j+n - 2) 0=(u0:Int)) (hcl:n<=c.length) (hul:j+n<ul) (hbl:ul<=b.length) (hbs:b.length<=1099511627780)
  (hv0:v0<4294967296) (hv1:v1<4294967296) (hu0:u0<4294967296) (hTl:T<4294967296*v1+4294967296) (hd:∀ g,T*4294967296+u0<g*(v1*4294967296+v0)->d<g) (hdW:d<4294967296) :
  ∀ g r M,g<M->g<=4294967299->g*v1+r=T->r<4294967296->d<=g ->
   ∃ q,d<=q/\q<4294967296/\q*(v1*4294967296+v0)<=T*4294967296+u0 /\ ∀ e0,aj M (nv N s5 n ul (n:Int) (v1:Int) (j:Int) c b ql e0) ((g:Int),(r:Int))=e0 (q:Int):=by
 intro g;induction g using Nat.strongRecOn with
 | ind g ih=>
 intro r M hM hgb hT hr hdg;obtain⟨M,rfl⟩:∃ m,M=m+1:=⟨M - 1,by omega⟩
 have i2:0+Int.toNat ((n:Int) - 2)=n - 2:=by omega
 have j2:0+Int.toNat ((j:Int)+(n:Int) - 2)=j+n - 2:=by omega
 have dec:∀ p,g=p+1->d<=p -> ∃ q,d<=q/\q<4294967296/\q*(v1*4294967296+v0)<=T*4294967296+u0 /\ ∀ e0,cond (decide ((IntKind.wrap .u64 ((r:Int)+(v1:Int)))>=4294967296)) (e0 (IntKind.wrap .u64 ((g:Int) - 1))) (aj M (nv N s5 n ul (n:Int) (v1:Int) (j:Int) c b ql e0) ((IntKind.wrap .u64 ((g:Int) - 1)),(IntKind.wrap .u64 ((r:Int)+(v1:Int)))))=e0 (q:Int):=by
  intro p hp hdp;subst hp;have w1:IntKind.wrap .u64 (((p+1:Nat):Int) - 1)=(p:Int):=EA p (by omega);have w2:IntKind.wrap .u64 ((r:Int)+(v1:Int))=((r+v1:Nat):Int):=by rw[am]; omega
  rw[w1,w2];by_cases hb2:4294967296<=r+v1
  ·have hpl:p<4294967296:=by
    rcases aa0 p 4294967296 with h | h
    ·exact h
    ·exfalso;have:=aaa v1 h;rw[abG]at hT;omega
   refine⟨p,hdp,hpl,yu hv0 (by omega) hT hb2,λe0=>?_⟩;rw[Z7 (by omega),Z_]
  ·obtain⟨q,q1,q2,q3,q4⟩:=ih p (by omega) (r+v1) M (by omega) (by omega) (by rw[<- hT,abG]; omega) (by omega) hdp;exact⟨q,q1,q2,q3,λe0=>by rw[Z8 (by omega),Z9]; exact q4 e0⟩
 by_cases hg:4294967296<=g
 ·obtain⟨q,q1,q2,q3,q4⟩:=dec (g - 1) (by omega) (by omega);refine⟨q,q1,q2,q3,λe0=>?_⟩;show nv N s5 n ul (n:Int) (v1:Int) (j:Int) c b ql e0 (_,_) (aj M _)=_;simp only[nv];rw[Z7 (by omega:(g:Int)>=4294967296),show(true==false)=false from rfl,Z9];exact q4 e0
 ·have hgv:g*v0<=4294967295*4294967295:=aaV (by omega) (by omega);have wv0:IntKind.wrap .u64 (v0:Int)=(v0:Int):=by rw[am]; omega
  have wgv:IntKind.wrap .u64 ((g:Int)*(v0:Int))=((g*v0:Nat):Int):=by rw[<- aat,am]; omega
  have e1:T*4294967296+u0=g*v1*4294967296+r*4294967296+u0:=by rw[<- hT,aaz]
  have e2:g*(v1*4294967296+v0)=g*v1*4294967296+g*v0:=by rw[aap,aah]
  have body:∀ e0:Int->Bool,aj (M+1) (nv N s5 n ul (n:Int) (v1:Int) (j:Int) c b ql e0) ((g:Int),(r:Int))=cond (decide (((g*v0:Nat):Int)>((r*4294967296+u0:Nat):Int))) (cond (decide ((IntKind.wrap .u64 ((r:Int)+(v1:Int)))>=4294967296)) (e0 (IntKind.wrap .u64 ((g:Int) - 1))) (aj M (nv N s5 n ul (n:Int) (v1:Int) (j:Int) c b ql e0) ((IntKind.wrap .u64 ((g:Int) - 1)),(IntKind.wrap .u64 ((r:Int)+(v1:Int)))))) (e0 (g:Int)):=by intro e0;show nv N s5 n ul (n:Int) (v1:Int) (j:Int) c b ql e0 (_,_) (aj M _)=_;simp only[nv,i2,j2,hc1,hb,wv0,wgv];rw[Z8 (by omega:¬(g:Int)>=4294967296),show(false==false)=true from rfl,Z_,aa Z5,aa Z6,aa (Z7 (by omega)),aa Z5,aa Z5,aa Z6,aa (Z7 (by omega)),NS hr hu0]
  by_cases ht:r*4294967296+u0<g*v0
  ·have hlt1:g*v1*4294967296+r*4294967296+u0<g*v1*4294967296+g*v0:=RB ht;have hlt:d<g:=hd g (abJ (ack e1) (aar hlt1 (ack e2.symm)));obtain⟨q,q1,q2,q3,q4⟩:=dec (g - 1) (by omega) (by omega);exact⟨q,q1,q2,q3,λe0=>by rw[body,Z7 (by omega),Z_]; exact q4 e0⟩
  ·exact⟨g,hdg,by omega,aau (ack e2) (aau (by omega) (ack e1.symm)),λe0=>by rw[body,Z8 (by omega),Z9]⟩
theorem Io {N:Nat} {j n ul g U V:Nat} {b c:List Int} (hN:n<N) (hb:InW b) (hc:InW c) (hcl:n<=c.length) (hul:j+n<ul) (hbl:ul<=b.length) (hbs:b.length<=1099511627780) (hg:g<4294967296) (hU:U=aE ((b.drop j).take (n+1))) (hV:V=aE (c.take n)) (k:Ky2) :
  Mf N 0 ul 0 n (j:Int) (g:Int) b c k=k (decide (U<g*V)) (b.take j++(dl (U+4294967296 ^ (n+1) - g*V) (n+1)++b.drop (j+(n+1)))):=by
 (unfold Mf; rw[ac]; unfold JN)
 have hw:InW ((b.drop j).take (n+1)):=(hb.drop j).take _;have hwl:((b.drop j).take (n+1)).length=n+1:=by rw[aaO,abN]; omega
 have hwg:∀ i,i<=n->((b.drop j).take (n+1)).getD i 0=b.getD (j+i) 0:=λi hi=>by rw[rz (by omega),jl]
 generalize (b.drop j).take (n+1)=w at *;have hVl:V<4294967296 ^ n:=by rw[hV]; exact bA hc n
 have hgV:g*V<4294967296 ^ (n+1):=by rw[aaj,aab];exact abc hVl hg
 obtain⟨D,hD⟩:∃ D,D=U+4294967296 ^ (n+1) - g*V:=⟨_,rfl⟩
 obtain⟨Q,hQ⟩:∃ Q,Q=g*V:=⟨_,rfl⟩
 have hQW:Q<4294967296 ^ (n+1):=by rw[hQ]; exact hgV
 rw[<- hD];refine aH (λi=>(((g*aE (c.take i) / 4294967296 ^ i:Nat):Int),((if aE (w.take i)<Q%4294967296 ^ i then 1 else 0:Nat):Int),(i:Int),b.take j++(dl D i++b.drop (j+i)))) n ?_ (by omega) (λi hi K=>?_) (λK=>?_)
 ·simp[dl,aE,acJ]
 ·have hx:=hb.at (i:=j+i);have hy:=hc.at (i:=i);have hcv:=aT (m:=c) i;have hp:=aY i;have hVi:=bA hc i;obtain⟨s1,s2⟩:=zz hw hwl hU (by omega:i<=n) hQW;rw[hwg i (by omega)]at s1 s2;rw[hQ,<- hD,<- hQ]at s1;obtain⟨cy,hcy⟩:∃ cy,cy=g*aE (c.take i) / 4294967296 ^ i:=⟨_,rfl⟩
  have hcyl:cy<4294967296:=by rw[hcy,aag hp];exact abc hg hVi
  have e1:g*aE (c.take (i+1))=g*aE (c.take i)+4294967296 ^ i*(g*(c.getD i 0).toNat):=by rw[hcv,aap,aaD g]
  have ecy:g*aE (c.take (i+1)) / 4294967296 ^ (i+1)=(g*(c.getD i 0).toNat+cy) / 4294967296:=by rw[aaj,<- aaf,e1,dT,<- hcy];congr 1; omega
  obtain⟨R,hR⟩:=bX (c.take n) (i+1);rw[adj,abm (by omega),<- hV]at hR;have elo:Q / 4294967296 ^ i%4294967296=(g*(c.getD i 0).toNat+cy)%4294967296:=by
   have:Q=g*aE (c.take (i+1))+4294967296 ^ (i+1)*(g*R):=by rw[hQ,hR,aap,aaD g]
   rw[kW this,e1,dT,<- hcy];congr 1; omega
  rw[elo]at s1 s2;have ei:0+Int.toNat ((j:Int)+(i:Int))=j+i:=by omega
  have hgy:g*(c.getD i 0).toNat<=4294967295*4294967295:=aaV (by omega) (by omega);have wy:IntKind.wrap .u64 (c.getD i 0)=(((c.getD i 0).toNat:Nat):Int):=by rw[am]; omega
  have wp:IntKind.wrap .u64 ((g:Int)*(((c.getD i 0).toNat:Nat):Int))=((g*(c.getD i 0).toNat:Nat):Int):=by rw[<- aat,am]; omega
  have wpc:IntKind.wrap .u64 (((g*(c.getD i 0).toNat:Nat):Int)+(cy:Int))=((g*(c.getD i 0).toNat+cy:Nat):Int):=by rw[am]; omega
  have wx:IntKind.wrap .u64 (b.getD (j+i) 0)=(((b.getD (j+i) 0).toNat:Nat):Int):=by rw[am]; omega
  have hcf:Int.fdiv ((g*(c.getD i 0).toNat+cy:Nat):Int) (2 ^ 32)=((g*aE (c.take (i+1)) / 4294967296 ^ (i+1):Nat):Int):=by rw[jA,ecy]; rfl
  simp only[gH,aac,aay];have ei':Int.toNat ((j:Int)+(i:Int))=j+i:=by omega
  rw[ei',Ez D (by omega),Ey D (by omega),Z7 (by omega:(i:Int)<(n:Int)),Z_,aa Z6,aa (Z7 (by omega)),aa Z5,aa Z6,aa (Z7 (by omega)),<- hcy,wy,wp,wpc,wx,Ct,hcf];generalize (g*(c.getD i 0).toNat+cy)%4294967296=lo at *;have hlo:lo<4294967296:=by rw[<- elo]; exact aao _ (by decide)
  obtain⟨bo,hbo⟩:∃ bo:Nat,bo=if aE (w.take i)<Q%4294967296 ^ i then 1 else 0:=⟨_,rfl⟩
  have hbo1:bo<=1:=by rw[hbo]; split <;> omega
  rw[<- hbo]at s1 s2 ⊢;obtain⟨x,hxe⟩:∃ x,x=(b.getD (j+i) 0).toNat:=⟨_,rfl⟩
  rw[<- hxe]at s1 s2 ⊢;have hxl:x<4294967296:=by omega
  have wlb:IntKind.wrap .u64 ((lo:Int)+(bo:Int))=((lo+bo:Nat):Int):=by rw[am]; omega
  rw[wlb];by_cases hlt:x<lo+bo
  ·rw[if_pos hlt]at s2;have wv:IntKind.wrap .u32 (IntKind.wrap .u64 (IntKind.wrap .u64 ((x:Int)+4294967296) - ((lo+bo:Nat):Int)))=((D / 4294967296 ^ i%4294967296:Nat):Int):=by rw[<- s1,am,am,dd]; omega
   rw[Z7 (by omega),Z_,wv,aa Z5,aa Z6,aa (Z7 (by omega)),aa Z5,zG D (by omega),<- s2,jP];rfl
  ·rw[if_neg hlt]at s2;have wv:IntKind.wrap .u32 (IntKind.wrap .u64 ((x:Int) - ((lo+bo:Nat):Int)))=((D / 4294967296 ^ i%4294967296:Nat):Int):=by rw[<- s1,am,dd]; omega
   rw[Z8 (by omega),Z9,wv,aa Z5,aa Z6,aa (Z7 (by omega)),aa Z5,zG D (by omega),<- s2,jP];rfl
 ·have hx:=hb.at (i:=j+n);obtain⟨s1,s2⟩:=zz hw hwl hU (aak n) hQW;rw[hwg n (by omega)]at s1 s2;rw[hQ,<- hD,<- hQ]at s1;have hql:Q / 4294967296 ^ n<4294967296:=by rw[aag (aY n),aab,<- aaj]; exact hQW
  rw[aai hql]at s1 s2;have hwt:w.take (n+1)=w:=aav (by omega);rw[hwt,<- hU,aai hQW]at s2;simp only[gH];have ei':0+Int.toNat ((j:Int)+(n:Int))=j+n:=by omega
  rw[Z8 (by omega:¬(n:Int)<(n:Int)),Z9,<- hV,<- hQ];rw[ei',Ez D (by omega),Ey D (by omega),aa Z5,aa Z6,aa (Z7 (by omega)),aa Z5,aa Z6,aa (Z7 (by omega))];obtain⟨y,hy⟩:∃ y,y=Q / 4294967296 ^ n:=⟨_,rfl⟩
  rw[<- hy]at s1 s2 hql ⊢;obtain⟨bo,hbo⟩:∃ bo:Nat,bo=if aE (w.take n)<Q%4294967296 ^ n then 1 else 0:=⟨_,rfl⟩
  have hbo1:bo<=1:=by rw[hbo]; split <;> omega
  rw[<- hbo]at s1 s2 ⊢;have wx:IntKind.wrap .u64 (b.getD (j+n) 0)=(((b.getD (j+n) 0).toNat:Nat):Int):=by rw[am]; omega
  rw[wx];obtain⟨x,hxe⟩:∃ x,x=(b.getD (j+n) 0).toNat:=⟨_,rfl⟩
  rw[<- hxe]at s1 s2 ⊢;have hxl:x<4294967296:=by omega
  have wlb:IntKind.wrap .u64 ((y:Int)+(bo:Int))=((y+bo:Nat):Int):=by rw[am]; omega
  have wv:IntKind.wrap .u32 (IntKind.wrap .u64 ((x:Int) - ((y+bo:Nat):Int)))=((D / 4294967296 ^ n%4294967296:Nat):Int):=by rw[<- s1,am,dd]; omega
  rw[wlb,wv,zG D (by omega)];have hdec:decide ((x:Int)<((y+bo:Nat):Int))=decide (U<Q):=by
   by_cases h1:U<Q
   ·rw[if_pos h1]at s2;rw[Z7 h1];refine Z7 ?_;split at s2 <;> omega
   ·rw[if_neg h1]at s2;rw[Z8 h1];refine Z8 ?_;split at s2 <;> omega
  rw[hdec]
theorem Ir {N:Nat} {j n ul D V:Nat} {b c:List Int} (hN:n<N) (hc:InW c) (hcl:n<=c.length) (hul:j+n<ul) (hbl:ul<=b.length) (hbs:b.length<=1099511627780) (hV:V=aE (c.take n)) (k:Kz5) :
  Mg N 0 ul 0 n (j:Int) (b.take j++(dl D (n+1)++b.drop (j+(n+1)))) c k=k (b.take j++(dl (D+V) (n+1)++b.drop (j+(n+1)))):=by
 (unfold Mg; rw[ac]; unfold JO)
 obtain⟨E,hE⟩:∃ E,E=D+V:=⟨_,rfl⟩
 rw[<- hE];refine aH (λi=>((((D%4294967296 ^ i+aE (c.take i)) / 4294967296 ^ i:Nat):Int),(i:Int),b.take j++(dl E i++((dl D (n+1)).drop i++b.drop (j+(n+1)))))) n ?_ (by omega) (λi hi K=>?_) (λK=>?_)
 ·simp[dl,aE,acJ]
 ·have hx:=hc.at (i:=i);have hcv:=aT (m:=c) i;have hVl:=bA hc i;have hp:=aY i;have hml:=aao D hp;obtain⟨cy,hcy⟩:∃ cy,cy=(D%4294967296 ^ i+aE (c.take i)) / 4294967296 ^ i:=⟨_,rfl⟩
  have hcl1:cy<=1:=by
   have:cy<2:=by rw[hcy,aag hp]; omega
   omega
  obtain⟨a1,a2⟩:=xM (D:=D) (V:=aE (c.take i)) (v:=(c.getD i 0).toNat) hcy;obtain⟨R,hR⟩:=bX (c.take n) (i+1);rw[adj,abm (by omega),<- hV,hcv]at hR;have a3:=a2 R;rw[<- hR,<- hE]at a3;have hdl:D / 4294967296 ^ i%4294967296<4294967296:=aao _ (by decide);have ei':Int.toNat ((j:Int)+(i:Int))=j+i:=by omega
  simp only[gI,aac,aay,ei'];rw[Ev D E (by omega) (by omega),Eu D E (by omega) (by omega)];have wy:IntKind.wrap .u64 (c.getD i 0)=(((c.getD i 0).toNat:Nat):Int):=by rw[am]; omega
  obtain⟨dg,hdg⟩:∃ dg,dg=D / 4294967296 ^ i%4294967296:=⟨_,rfl⟩
  rw[<- hdg]at a1 a3 hdl ⊢;have ws:IntKind.wrap .u64 (IntKind.wrap .u64 (IntKind.wrap .u64 (dg:Int)+(((c.getD i 0).toNat:Nat):Int))+(cy:Int))=((dg+(c.getD i 0).toNat+cy:Nat):Int):=by rw[am,am,am]; omega
  have wf:Int.fdiv ((dg+(c.getD i 0).toNat+cy:Nat):Int) (2 ^ 32)=(((D%4294967296 ^ (i+1)+aE (c.take (i+1))) / 4294967296 ^ (i+1):Nat):Int):=by rw[hcv,a1,jA]; rfl
  have w3:IntKind.wrap .u32 ((dg+(c.getD i 0).toNat+cy:Nat):Int)=((E / 4294967296 ^ i%4294967296:Nat):Int):=by rw[a3,dd]; rfl
  rw[Z7 (by omega:(i:Int)<(n:Int)),Z_,aa Z5,aa Z6,aa (Z7 (by omega)),aa Z6,aa (Z7 (by omega)),aa Z5,aa Z6,aa (Z7 (by omega)),aa Z5,<- hcy,wy,ws,wf,w3,Ew D E (by omega) (by omega),jP]
 ·have hp:=aY n;have hml:=aao D hp;have hVl:V<4294967296 ^ n:=by rw[hV]; exact bA hc n
  obtain⟨cy,hcy⟩:∃ cy,cy=(D%4294967296 ^ n+V) / 4294967296 ^ n:=⟨_,rfl⟩
  have hcl1:cy<=1:=by
   have:cy<2:=by rw[hcy,aag hp]; omega
   omega
  obtain⟨a1,a3⟩:=Cp (D:=D) (V:=V) (i:=n) hcy;rw[<- hE]at a3;have hdl:D / 4294967296 ^ n%4294967296<4294967296:=aao _ (by decide);have ei':0+Int.toNat ((j:Int)+(n:Int))=j+n:=by omega
  simp only[gI];rw[Z8 (by omega:¬(n:Int)<(n:Int)),Z9,ei',Ev D E (by omega) (by omega),Eu D E (by omega) (by omega),<- hV,<- hcy];obtain⟨dg,hdg⟩:∃ dg,dg=D / 4294967296 ^ n%4294967296:=⟨_,rfl⟩
  rw[<- hdg]at a3 hdl ⊢;have w3:IntKind.wrap .u32 ((dg:Int)+IntKind.wrap .u32 (cy:Int))=((E / 4294967296 ^ n%4294967296:Nat):Int):=by rw[a3,dd,dd]; omega
  rw[aa Z5,aa Z6,aa (Z7 (by omega)),aa Z6,aa (Z7 (by omega)),w3,Ew D E (by omega) (by omega)];rw[aaU (by rw[al]; omega),aaZ]
theorem Nr {P A B U3 V2 U V g:Nat} (hB:B<P) (hg:g*P<=V) (hU:U=A+P*U3) (hV:V=B+P*V2) (h:g*V2<=U3) (hV0:0<V):g<=U / V+1:=by
 have h1:g*B<=g*P:=aae _ (by omega);have h2:P*(g*V2)<=P*U3:=aae _ h;have h3:g*V=g*B+P*(g*V2):=by rw[hV,aap,aaD g P]
 have h4:g*V<=U+V:=by omega
 have h5:=acA U hV0;have h6:g*V<(U / V+2)*V:=by rw[show U / V+2=U / V+1+1 by omega,abG,aab (U / V+1)];omega
 have:=Nat.lt_of_mul_lt_mul_right h6;omega
theorem SK {V Y Z X U Q:Nat} (h1:V<Y) (h2:Y<=Z) (h3:X<=U) (h4:X=Q*4294967296) (h5:U<V*4294967296):Q<Z:=by omega
theorem MU {P A B U V T u0 v0 v1:Nat} (hA:A<P) (hB:B<P) (hU:U=A+P*(u0+4294967296*T)) (hV:V=B+P*(v0+4294967296*v1)) (hv0:v0<4294967296) (hUV:U<V*4294967296):T<4294967296*v1+4294967296:=by
 have h1:V<P*(v0+4294967296*v1+1):=by rw[hV,adu]; omega
 have h2:P*(v0+4294967296*v1+1)<=P*(4294967296*v1+4294967296):=aae _ (by omega);have h3:P*(4294967296*T)<=U:=by rw[hU,aap P u0]; omega
 have h4:P*(4294967296*T)=P*T*4294967296:=by rw[aab 4294967296,aah]
 have h5:P*T<P*(4294967296*v1+4294967296):=SK h1 h2 h3 h4 hUV;exact acv h5
theorem HY {N:Nat} (hN:5<N) {a:List Int} {s:Int} {d:Nat} {dl':List Int} {X la:Nat} (hla:a.length=la) (hX:X<4294967296 ^ (la+1)) (h1:la<=(ai X).length) (hs:la<=1099511627000) (e0:Nat->List Int->Bool) :
  aj N (qX N a s d dl' e0) ((ai X).length,dl X (la+1))=e0 (la+1) (dl X (la+1)):=by
 have h2:(ai X).length<=la+1:=cA _ _ hX;have last:∀ K,qX N a s d dl' e0 (la+1,dl X (la+1)) K=e0 (la+1) (dl X (la+1)):=by intro K;simp only[qX];rw[hla,aa Z5,Z8 (by omega),Z9]
 by_cases h:(ai X).length=la+1
 ·rw[h];exact aH (λi=>(la+1,dl X (la+1))) 0 rfl (by omega) (λi hi K=>by omega) last
 ·have hl:(ai X).length=la:=by omega
  rw[hl];refine aH (λi=>(la+i,dl X (la+1))) 1 rfl (by omega) (λi hi K=>?_) last;have:i=0:=by omega
  subst this;have e1:(dl X (la+1)).take la++[0]=dl X (la+1):=by
   rw[nC X (by omega),dl];have:X / 4294967296 ^ la%4294967296=0:=by have:=iu X;rw[hl]at this;rw[aaC this]
   rw[this]; rfl
  show qX N a s d dl' e0 (la,dl X (la+1)) K=K (la+1,dl X (la+1));simp only[qX];rw[hla,aa Z5,Z7 (by omega),Z_,aa (Z7 (by rw[al]; omega)),abF,e1,al,aa (Z7 (by omega))]
theorem Sb {N:Nat} (hN:1180591620717411303424<=N) {n j ul V v1:Nat} {s:Int} {b ql:List Int} (hVlt:V<4294967296 ^ (n+2)) (hVge:4294967296 ^ (n+1)<=V) (hv1:v1=V / 4294967296 ^ (n+1)) (hv1lo:2147483648<=v1) (hv1hi:v1<4294967296) (hbw:InW b) (hblen:b.length=ul) (hjl:j+(n+2)<ul) (hls:ul<=1099511627700) (hjq:j<ql.length)
  (hUlt:aE ((b.drop j).take (n+2+1))<V*4294967296) (e0:List Int->List Int->Bool) (K:Int × List Int × List Int->Bool) :
  iX N s (n+2) ul ((n+2:Nat):Int) (v1:Int) (dl V (n+2+1)) e0 ((j:Int),b,ql) K
   = K ((j:Int) - 1,b.take j++(dl (aE ((b.drop j).take (n+2+1))%V) (n+2+1)++b.drop (j+(n+2+1))),ql.set j ((aE ((b.drop j).take (n+2+1)) / V:Nat):Int)):=by
 have hV0:0<V:=aar (aY _) hVge;have hcv:aE ((dl V (n+2+1)).take (n+2))=V:=by rw[nC V (by omega),oR,aai hVlt]
 have hU3:=Tt (b.drop j) n;have hV2:=Ts (dl V (n+2+1)) n;rw[show n+3=n+2+1 by omega,jl,jl,jl]at hU3;rw[hcv]at hV2;have a0:=hbw.at (i:=j+n);have a1:=hbw.at (i:=j+(n+1));have a2:=hbw.at (i:=j+(n+2));have c0:=(iD V (n+2+1)).at (i:=n);obtain⟨u0,hu0⟩:∃ u,u=(b.getD (j+n) 0).toNat:=⟨_,rfl⟩
 obtain⟨u1,hu1⟩:∃ u,u=(b.getD (j+(n+1)) 0).toNat:=⟨_,rfl⟩
 obtain⟨u2,hu2⟩:∃ u,u=(b.getD (j+(n+2)) 0).toNat:=⟨_,rfl⟩
 obtain⟨v0,hv0⟩:∃ u,u=((dl V (n+2+1)).getD n 0).toNat:=⟨_,rfl⟩
 have q0:b.getD (j+n) 0=(u0:Int):=by omega
 have q1:b.getD (j+(n+1)) 0=(u1:Int):=by omega
 have q2:b.getD (j+(n+2)) 0=(u2:Int):=by omega
 have k0:(dl V (n+2+1)).getD n 0=(v0:Int):=by omega
 have k1:((dl V (n+2+1)).getD (n+1) 0).toNat=v1:=by rw[rn V (by omega),aac,<- hv1,aai hv1hi]
 rw[<- hu0,<- hu1,<- hu2]at hU3;rw[<- hv0,k1]at hV2;have hAb:=bA (hbw.drop j) n;have hBb:=bA (iD V (n+2+1)) n;have hwv:∃ U,U=aE ((b.drop j).take (n+2+1)):=⟨_,rfl⟩
 obtain⟨U,hwv⟩:=hwv;rw[<- hwv]at hU3 hUlt ⊢;have hT:=MU hAb hBb hU3 hV2 (by omega) hUlt;have hdW:U / V<4294967296:=by rw[aag hV0,aab]; exact hUlt
 have hv1p:0<v1:=by omega
 obtain⟨T,hTe⟩:∃ T,T=u2*4294967296+u1:=⟨_,rfl⟩
 rw[<- hTe]at hU3 hT;have hg0:T / v1<=4294967298:=by
  have:T / v1<4294967299:=by rw[aag hv1p]; omega
  omega
 have hkb:U / V<=T / v1:=by rw[hTe]; rw[hTe]at hU3; exact GI hAb hU3 hV2 hV0 hv1p (by omega)
 obtain⟨g,p1,p2,p3,p4⟩:=Bt (N:=N) (s5:=s) (ul:=ul) (j:=j) (n:=n+2) (u0:=u0) (v0:=v0) (v1:=v1) (T:=T) (d:=U / V) (b:=b) (c:=dl V (n+2+1)) (ql:=ql) (by omega) (by rw[show n+2 - 2=n by omega]; exact k0) (by rw[show j+(n+2) - 2=j+n by omega]; exact q0) (by rw[al]; omega) (by omega) (by omega) (by omega) (by omega) hv1hi (by omega) hT
  (λg hg=>Bx hAb hU3 hV2 hV0 (by rw[ab7 v0,aab 4294967296 v1]; omega)) hdW
  (T / v1) (T%v1) N (by omega) (by omega) (aa6 _ _) (abO (aao _ hv1p) hv1hi) hkb
 have hgd:g<=U / V+1:=Nr hBb (by have:g*4294967296 ^ n<=4294967296*4294967296 ^ n:=aaa _ (Nat.le_of_lt p2);rw[<- Nat.pow_succ']at this;exact aau this hVge) hU3 hV2 (by rw[ab7 v0,aab 4294967296 v1]; omega) hV0
 have hless:=λkk=>Io (N:=N) (j:=j) (n:=n+2) (ul:=ul) (g:=g) (U:=U) (V:=V) (b:=b) (c:=dl V (n+2+1)) (by omega) hbw (iD _ _) (by rw[al]; omega) (by omega) (by omega) (by omega) p2 hwv hcv.symm kk
 have jn:0+Int.toNat ((j:Int)+((n+2:Nat):Int))=j+(n+2):=by omega
 have jn1:0+Int.toNat ((j:Int)+((n+2:Nat):Int) - 1)=j+(n+1):=by omega
 have top0:(!decide ((v1:Int)=0))=true:=by simp; omega
 have wu2:IntKind.wrap .u64 (u2:Int)=(u2:Int):=by rw[am]; omega
 have hor:aB .or .u64 (IntKind.wrap .u64 ((u2:Int)*2 ^ 32)) (IntKind.wrap .u64 (u1:Int))=(T:Int):=by rw[NS (by omega) (by omega),hTe]
 have etd:IntKind.wrap .u64 (Int.tdiv (T:Int) (v1:Int))=((T / v1:Nat):Int):=by have:Int.tdiv (T:Int) (v1:Int)=((T / v1:Nat):Int):=rfl;rw[this,am];generalize T / v1=z at *;omega
 have etm:Int.tmod (T:Int) (v1:Int)=((T%v1:Nat):Int):=rfl;have hfin:dl (U+4294967296 ^ (n+2+1) - U / V*V) (n+2+1)=dl (U%V) (n+2+1):=by
  have e:U+4294967296 ^ (n+2+1) - (U / V)*V=U%V+4294967296 ^ (n+2+1)*1:=by have:=aa6 U V;omega
  rw[e,Gy _ _ _ (aak _)]
 have hgV:g*V<4294967296 ^ (n+2+1):=by rw[aaj,aab];exact abc hVlt p2
 simp only[iX,jn,jn1,q1,q2,wu2,hor,etd,etm];rw[Z7 (by omega:(j:Int)>=0),Z_,aa Z5,aa Z6,aa (Z7 (by omega)),aa Z5,aa Z5,aa Z6,aa (Z7 (by omega)),aa top0,aa top0,p4,hless];by_cases hlt:U<g*V
 ·have hge:g=U / V+1:=by
   have:U / V<g:=by
    rcases aa0 (U / V) g with h | h
    ·exact h
    ·have:=(abH hV0).1 h; omega
   omega
  have hmore:=λkk=>Ir (N:=N) (j:=j) (n:=n+2) (ul:=ul) (D:=U+4294967296 ^ (n+2+1) - g*V) (V:=V) (b:=b) (c:=dl V (n+2+1)) (by omega) (iD _ _) (by rw[al]; omega) (by omega) (by omega) (by omega) hcv.symm kk
  have hD:U+4294967296 ^ (n+2+1) - g*V+V=U+4294967296 ^ (n+2+1) - U / V*V:=by
   have:g*V=U / V*V+V:=by rw[hge,abG]
   omega
  have wg:IntKind.wrap .u32 (IntKind.wrap .u64 ((g:Int) - 1))=((U / V:Nat):Int):=by rw[hge];generalize U / V=z at *;rw[am,dd]; omega
  rw[Z7 hlt,Z_,hmore,hD,hfin,aa Z6,aa (Z7 (by omega)),aa Z5,aac,wg]
 ·have hge:g=U / V:=by have:=(abH hV0).2 (Nat.le_of_not_lt hlt);omega
  have wg:IntKind.wrap .u32 (g:Int)=((U / V:Nat):Int):=by rw[hge];generalize U / V=z at *;rw[dd]; omega
  rw[Z8 hlt,Z9,wg,hge,hfin,aa Z6,aa (Z7 (by omega)),aa Z5,aac]
theorem yQ {N:Nat} (hN:1180591620717411303424<=N) {x y:Nat} (hxy:y<=x) (hy2:2<=(ai y).length) (hxl:(ai x).length<=1099511627000) (k:Ky9) :
  nQ N (ai x) (ai y) k=k (ai (x / y)) (ai (x%y)):=by
 have hy0:y ≠ 0:=by intro h; rw[h,bb]at hy2; simp at hy2
 have hyx:=bT hxy;have hylt:=iu y;have hxlt:=iu x;have hylo:4294967296 ^ ((ai y).length - 1)<=y:=by
  rcases aa0 y (4294967296 ^ ((ai y).length - 1))with h | h
  ·have:=cA _ _ h; omega
  ·exact h
 (unfold nQ; rw[ac]; unfold Ci)
 rw[jr x y ⟨by omega,by omega⟩ ⟨by omega,by omega⟩];have hc:decide (dx x y<0)=false:=by unfold dx; rw[if_neg (by omega)]; split <;> rfl
 obtain⟨n,hn⟩:∃ n,(ai y).length=n+2:=⟨(ai y).length - 2,by omega⟩
 obtain⟨lx,hlx⟩:∃ lx,(ai x).length=lx:=⟨_,rfl⟩
 have htd:(ai y).getD (n+1) 0=((y / 4294967296 ^ (n+1):Nat):Int):=by rw[lZ,aai];rw[aag (aY _),aab,<- aaj];rw[hn]at hylt; exact hylt
 rw[hn]at hylt hylo;rw[hlx]at hxlt;rw[show n+2 - 1=n+1 by omega]at hylo;obtain⟨t,ht⟩:∃ t,t=y / 4294967296 ^ (n+1):=⟨_,rfl⟩
 rw[<- ht]at htd;have htl:t<4294967296:=by rw[ht,aag (aY _),aab,<- aaj]; exact hylt
 have ht0:t ≠ 0:=by have:=acz hylo (aY (n+1)); omega
 obtain⟨g1,g2,g3⟩:=Ja ht0 htl;have ein:Int.toNat (((n+2:Nat):Int) - 1)=n+1:=by omega
 have e1':(((n+2:Nat):Int)==1)=false:=by simp; omega
 rw[hc,Z9,hn,e1',Z9,aa Z5,aa Z6,ein,htd,K_ N htl];obtain⟨s,hs⟩:∃ s,s=32 - bl t:=⟨_,rfl⟩
 rw[<- hs]at g1 g2 g3 ⊢;have hs0:0<2 ^ s:=aam s;have ews:IntKind.wrap .u64 ((s:Nat):Int)=(s:Int):=by rw[am]; omega
 rw[ews];obtain⟨V,hV⟩:∃ V,V=y*2 ^ s:=⟨_,rfl⟩
 obtain⟨X,hX⟩:∃ X,X=x*2 ^ s:=⟨_,rfl⟩
 have hVlt:V<4294967296 ^ (n+2):=by
  have h1:=acA y (aY (n+1));rw[<- ht]at h1;have h2:y*2 ^ s<4294967296 ^ (n+1)*(t+1)*2 ^ s:=aaQ h1 hs0;have h3:(t+1)*2 ^ s<=4294967296:=by
   have hd:2 ^ s*2 ^ (32 - s)=4294967296:=by rw[<- aal,show s+(32 - s)=32 by omega]
   have h4:t<2 ^ (32 - s):=by rw[aab]at g3;rw[<- hd]at g3;exact acv g3
   rw[<- hd,aab];exact aae _ h4
  have h5:=aae (4294967296 ^ (n+1)) h3;rw[hV,show n+2=n+1+1 by omega,aaj];rw[aah]at h2;omega
 have hVge:4294967296 ^ (n+1)<=V:=by rw[hV]; exact aau hylo (aa7 _ hs0)
 have hVlen:(ai V).length=n+2:=NG hVge hVlt;have hV0:0<V:=aar (aY _) hVge;have hx0:x ≠ 0:=by omega
 have hvt:V / 4294967296 ^ (n+1)=t*2 ^ s+y%4294967296 ^ (n+1)*2 ^ s / 4294967296 ^ (n+1):=by
  have h1:=aaY y (4294967296 ^ (n+1));rw[<- ht]at h1;have h2:V=y%4294967296 ^ (n+1)*2 ^ s+4294967296 ^ (n+1)*(t*2 ^ s):=by rw[hV,<- aah,<- aaz]; congr 1; omega
  rw[h2,dT]; omega
 have hv1lo:2147483648<=V / 4294967296 ^ (n+1):=by rw[hvt]; exact aau g2 (abP _ _)
 have hv1hi:V / 4294967296 ^ (n+1)<4294967296:=by rw[aag (aY _),aab,<- aaj]; exact hVlt
 rw[qt hy0 g1 (by omega) (by omega),hn,<- hV,hVlen,qt hx0 g1 (by omega) (by omega),hlx,<- hX];have hs2:2 ^ s<=4294967296:=by rw[<- BP]; exact aan (by decide) (by omega)
 have hXlt:X<4294967296 ^ (lx+1):=by rw[hX,aaj]; exact aaS hxlt hs2 (by decide)
 have hXlen2:lx<=(ai X).length:=by rw[<- hlx,hX]; exact bT (aa7 _ hs0)
 rw[HY (by omega) hlx hXlt hXlen2 (by omega)];unfold od;obtain⟨M,hM⟩:∃ M,lx+1=M+(n+2):=⟨lx+1 - (n+2),by omega⟩
 have eM:(((lx+1:Nat):Int) - ((n+2:Nat):Int))=(M:Int):=by omega
 have ein2:0+Int.toNat (((n+2:Nat):Int) - 1)=n+1:=by omega
 rw[eM,aac,abw,ein2,rn V (by omega),aai hv1hi];obtain⟨v1,hv1⟩:∃ v1,v1=V / 4294967296 ^ (n+1):=⟨_,rfl⟩
 rw[<- hv1]at hv1lo hv1hi ⊢;have wv1:IntKind.wrap .u64 (v1:Int)=(v1:Int):=by rw[am]; omega
 rw[wv1,aa Z5,aa (bZ (by omega) (by omega) (by omega) (by omega)),aa Z5,aa Z6,aa (Z7 (by rw[al]; omega)),aa Z5];have hstart:dl X (lx+1)=dl X M++(dl (X / 4294967296 ^ M%V) (n+2)++List.replicate 0 0):=by
  have hXM:X / 4294967296 ^ M<V:=by
   rw[aag (aY M),hX,hV];have h1:x*2 ^ s<4294967296 ^ lx*2 ^ s:=aaQ hxlt hs0;have h2:4294967296 ^ lx=4294967296 ^ (n+1)*4294967296 ^ M:=by rw[<- aal]; congr 1; omega
   have h3:=aaa (4294967296 ^ M*2 ^ s) hylo;rw[h2,aah]at h1;have e:y*2 ^ s*4294967296 ^ M=y*(4294967296 ^ M*2 ^ s):=by rw[aah,aab (2 ^ s)]
   rw[e]; omega
  rw[aai hXM,aaL,aaI,<- Al,<- hM]
 rw[hstart];have hQlt:X / V<4294967296 ^ M:=by
  rw[aag hV0];have h1:x*2 ^ s<4294967296 ^ lx*2 ^ s:=aaQ hxlt hs0;have h2:4294967296 ^ lx=4294967296 ^ M*4294967296 ^ (n+1):=by rw[<- aal]; congr 1; omega
  have h3:=aae (4294967296 ^ M) (aaa (2 ^ s) hylo);rw[hX,hV];rw[h2,aah]at h1;omega
 have hmk:M<=1099511627001:=by omega
 refine aH (λi=>((M:Int) - 1 - (i:Int),dl X (M - i)++(dl (X / 4294967296 ^ (M - i)%V) (n+2)++List.replicate i 0),List.replicate (M - i) (0:Int)++(dl (X / V) M).drop (M - i))) M ?_ (by omega) (λi hi K=>?_) (λK=>?_)
 ·rw[aci,aaU (by rw[al]; omega),aaI];congr 1;omega
 ·obtain⟨j,hj⟩:∃ j,M - i=j+1:=⟨M - i - 1,by omega⟩
  have hj2:M - (i+1)=j:=by omega
  have ei:(M:Int) - 1 - (i:Int)=(j:Int):=by omega
  have ei2:(M:Int) - 1 - ((i+1:Nat):Int)=(j:Int) - 1:=by omega
  rw[hj,hj2,ei,ei2];obtain⟨A,hA⟩:∃ A,A=X / 4294967296 ^ j:=⟨_,rfl⟩
  have hA1:X / 4294967296 ^ (j+1)=A / 4294967296:=by rw[hA,aaj,aaf]
  obtain⟨n1,n2⟩:=zj (A:=A) hV0;obtain⟨R,hR⟩:∃ R,R=A / 4294967296%V:=⟨_,rfl⟩
  have hRV:R<V:=by rw[hR]; exact aao _ hV0
  rw[hA1,<- hR];rw[<- hR]at n1 n2;obtain⟨b,hb⟩:∃ b,b=dl X (j+1)++(dl R (n+2)++List.replicate i 0):=⟨_,rfl⟩
  have hblen:b.length=lx+1:=by rw[hb]; simp[al]; omega
  have hbw:InW b:=by
   rw[hb];intro z hz;rcases List.mem_append.1 hz with h | h
   ·exact iD _ _ z h
   ·rcases List.mem_append.1 h with h | h
    ·exact iD _ _ z h
    ·have:=(List.mem_replicate.1 h).2; subst this; omega
  have hbt:b.take j=dl X j:=by rw[hb,aba (by rw[al]; omega),nC X (by omega)]
  have hbd:b.drop j=((A%4294967296:Nat):Int)::(dl R (n+2)++List.replicate i 0):=by rw[hb,dl,aaq,aa_ (by rw[al]; omega),aaU (by rw[al]; omega),aaZ,hA];rfl
  have hwv:aE ((b.drop j).take (n+2+1))=R*4294967296+A%4294967296:=by rw[hbd,ac2,aba (by rw[al]; omega),aav (by rw[al]; omega),aE,oR,aai (abO hRV hVlt),aac];omega
  have hbd2:b.drop (j+(n+2+1))=List.replicate i 0:=by rw[<- List.drop_drop,hbd,List.drop_succ_cons,aa_ (by rw[al]; omega),aaU (by rw[al]; omega),aaZ]
  have hcv:aE ((dl V (n+2+1)).take (n+2))=V:=by rw[nC V (by omega),oR,aai hVlt]
  have hAm:A%4294967296<4294967296:=aao _ (by decide);have hUlt:R*4294967296+A%4294967296<V*4294967296:=by have:=aaa 4294967296 hRV;rw[abG]at this;omega
  have hnext:dl X j++(dl (A%V) (n+2+1)++List.replicate i 0)=dl X j++(dl (A%V) (n+2)++List.replicate (i+1) 0):=by rw[CV (abO (aao A hV0) hVlt) 1,aaq,aaT];rfl
  have hdg:X / V / 4294967296 ^ j%4294967296=A / V%4294967296:=by rw[hA,aaf,aaf,aab V]
  have hql:(List.replicate (j+1) (0:Int)++(dl (X / V) M).drop (j+1)).length=M:=by simp[al]; omega
  have hstep:=Sb (s:=(s:Int)) (j:=j) (b:=b) (ul:=lx+1) (ql:=List.replicate (j+1) (0:Int)++(dl (X / V) M).drop (j+1)) hN hVlt hVge hv1 hv1lo hv1hi hbw hblen (by omega) (by omega) (by omega) (by rw[hwv]; exact hUlt);rw[<- hb,hstep,hwv,n1,n2,hbt,hbd2,hnext,<- hdg,DR _ _ _ (by omega),<- hA]
 ·simp only[iX];have e0:(M:Int) - 1 - (M:Int) = -1:=by omega
  rw[e0,Z8 (by omega),Z9,aaH,abV,abY,aaL,aaZ,abF];obtain⟨L,hL⟩:∃ L,L=dl X 0++(dl (X%V) (n+2)++List.replicate M 0):=⟨_,rfl⟩
  have hRlt:X%V<4294967296 ^ (n+2):=abO (aao _ hV0) hVlt;have hLt:L.take (n+2)=dl (X%V) (n+2):=by rw[hL,show dl X 0=[] from rfl,aaZ,aba (by rw[al]; omega),aav (by rw[al]; omega)]
  have hLw:InW L:=by
   rw[hL];intro z hz;rcases List.mem_append.1 hz with h | h
   ·cases h
   ·rcases List.mem_append.1 h with h | h
    ·exact iD _ _ z h
    ·have:=(List.mem_replicate.1 h).2; subst this; omega
  have hLlen:n+2<=L.length:=by rw[hL]; simp[al]
  have en:Int.toNat ((n+2:Nat):Int) - 0=n+2:=by omega
  rw[<- hL,kp _ (by rw[al]; omega) (by rw[al]; omega),en,aa (Z7 (by omega)),Ik L (n+2) hLlen (by omega) (by omega)];have hcl:=jk L (n+2);rw[BC L hLw (bP L (n+2)) s (by omega) g1 (by omega) (by omega),qf,hLt,oR,aai hRlt,al,xW hQlt];have hQlen:=cA _ _ hQlt;rw[aa (Z7 (by omega)),abF,nC _ hQlen,MZ,hX,hV,acQ _ _ hs0,acR,abW _ hs0]
theorem rF {N:Nat} (hN:1180591620717411303424<=N) {x y:Nat} (hy:0<y) (hxl:(ai x).length<=1099511627000) (hyl:(ai y).length<=1099511627000) (k:Ky9) :
  nQ N (ai x) (ai y) k=k (ai (x / y)) (ai (x%y)):=by
 by_cases hxy:y<=x
 ·by_cases h2:2<=(ai y).length
  ·exact yQ hN hxy h2 hxl k
  ·have hylt:=iu y;have hl1:(ai y).length=1:=by rw[ci (by omega)]at h2 ⊢; simp at h2 ⊢; exact h2
   rw[hl1,adb]at hylt;have hd:=rm (by omega:y ≠ 0) hylt;have hc:decide (dx x y<0)=false:=by unfold dx; rw[if_neg (by omega)]; split <;> rfl
   (unfold nQ; rw[ac]; unfold Ci)
   rw[jr x y ⟨by omega,by omega⟩ ⟨by omega,by omega⟩,hc,Z9,hd];show cond (((1:Nat):Int)==1) _ _=_;rw[show(((1:Nat):Int)==1)=true from rfl,Z_,aa (ah (by omega) (by simp))];show ng N (ai x) (y:Int) _=_;have hm:x%y<4294967296:=abO (aao _ hy) hylt;have hw:InW [((x%y:Nat):Int)]:=by intro z hz;simp only[abx,acd,or_false]at hz;subst hz; omega
   have hv:aE [((x%y:Nat):Int)]=x%y:=by simp only[aE]; omega
   have hct:=dj (N:=N) [((x%y:Nat):Int)] hw (by simp; omega) (by simp) (λz=>k (ai (x / y)) z);rw[hv]at hct;rw[Fx hy hylt ⟨by omega,by omega⟩];exact hct
 ·have hc:decide (dx x y<0)=true:=by unfold dx; rw[if_pos (by omega)]; rfl
  (unfold nQ; rw[ac]; unfold Ci)
  rw[jr x y ⟨by omega,by omega⟩ ⟨by omega,by omega⟩,hc,Z_,aaZ,aa (Z7 (by omega)),aaC (by omega),aai (by omega),bb]
theorem Dq {N V f:Nat} (hf:f<4294967296000) (hN:20<N) (hs:fo N (ai V)) (hf2:f<4294967296\/True) (hlt:V / 2 ^ f<18446744073709551616) (hr:∀ kk,zW N (ai V) (f:Int) kk=kk (ai (V / 2 ^ f))) (k:Kz1):o_ N (ai V) (f:Int) k=k ((V / 2 ^ f:Nat):Int):=by
 (unfold o_; rw[ac]; unfold sA)
 have wf:IntKind.wrap .u64 (f:Int)=(f:Int):=by rw[am]; omega
 rw[wf,hr];obtain⟨Y,hY⟩:∃ Y,Y=V / 2 ^ f:=⟨_,rfl⟩
 rw[<- hY]at hlt ⊢;have hl2:(ai Y).length<=2:=cA 2 Y (by
  have:(4294967296:Nat) ^ 2=18446744073709551616:=by decide
  omega)
 have hYl:=iu Y;obtain⟨L,hL⟩:∃ L,(ai Y).length=L:=⟨_,rfl⟩
 rw[hL]at hl2 hYl ⊢;rw[aa Z5];refine aH (λi=>(((Y / 4294967296 ^ (L - i):Nat):Int),(L:Int) - 1 - (i:Int))) L ?_ (by omega) (λi hi K=>?_) (λK=>?_)
 ·rw[aci,aaC hYl]; simp
 ·obtain⟨m,hm⟩:∃ m,L - i=m+1:=⟨L - i - 1,by omega⟩
  have hm2:L - (i+1)=m:=by omega
  have ei:(L:Int) - 1 - (i:Int)=(m:Int):=by omega
  have ei2:(L:Int) - 1 - ((i+1:Nat):Int)=(m:Int) - 1:=by omega
  rw[hm,hm2,ei,ei2];have hp:Y / 4294967296 ^ (m+1)=Y / 4294967296 ^ m / 4294967296:=by rw[aaj,aaf]
  have hle:=abK Y (4294967296 ^ m);simp only[kQ,aac];rw[Z7 (by omega:(m:Int)>=0),Z_,hL,aa Z6,aa Z5,lZ,hp];generalize Y / 4294967296 ^ m=Z at *;rw[NS (by omega) (by omega)];congr 2;omega
 ·simp only[kQ];have e0:(L:Int) - 1 - (L:Int) = -1:=by omega
  rw[e0,Z8 (by omega),Z9,aaH,abV,abY]
def sgn (neg:Bool) (n:Nat):Int:=cond neg (-(n:Int)) (n:Int)
theorem cF (n:Nat):sgn true n = -(n:Int):=rfl
theorem cX (n:Nat):sgn false n=(n:Int):=rfl
def z9 (x0 y0 a b c d:Nat) (odd:Bool):Prop:=
 ∃ p q,x0=d*p+b*q/\y0=c*p+a*q/\(cond odd (b*c=a*d+1) (a*d=b*c+1))/\(cond odd (d<=q/\q+a+c<=p) (c<=q/\q+b+d<=p))/\1<=b/\1<=c/\1<=d/\a<=1073741824/\b<=1073741824/\c<=1073741824/\d<=1073741824
theorem Eo {N:Nat} {x0 y0:Nat} (hx0:x0<4611686018427387904) (hy0:y0<4611686018427387904) :
  ∀ q p a b c d odd M,q<M->x0=d*p+b*q->y0=c*p+a*q->(cond odd (b*c=a*d+1) (a*d=b*c+1)) ->
   a<=1073741824->b<=1073741824->c<=1073741824->d<=1073741824->1<=d->p<=x0 ->
   ((odd=false/\a=1/\b=0/\c=0/\d=1/\q<=p)\/(1<=b/\1<=c/\(cond odd (d<=q/\q+a+c<p) (c<=q/\q+b+d<p)))) ->
   ∃ a' b' c' d':Nat,∃ odd',(b'=0/\odd'=false\/z9 x0 y0 a' b' c' d' odd') /\ ∀ e0,aj M (nV N e0) (sgn odd a,sgn (!odd) b,sgn (!odd) c,sgn odd d,(p:Int),(q:Int))=e0 (sgn odd' a') (sgn (!odd') b') (sgn (!odd') c') (sgn odd' d'):=by
 intro q;induction q using Nat.strongRecOn with
 | ind q ih=>
 intro p a b c d odd M hM h1 h2 hdet ha hb hc hd hd1 hp hor;obtain⟨M,rfl⟩:∃ m,M=m+1:=⟨M - 1,by omega⟩
 have hgood:b=0/\odd=false\/z9 x0 y0 a b c d odd:=by
  rcases hor with h | ⟨k1,k2,k3⟩
  ·exact .inl ⟨h.2.2.1,h.1⟩
  ·refine .inr ⟨p,q,h1,h2,hdet,?_,k1,k2,hd1,ha,hb,hc,hd⟩;cases odd
   ·simp only[Z9]at k3 ⊢; omega
   ·simp only[Z_]at k3 ⊢; omega
 have stop:∀(P:(Int->Int->Int->Int->Bool)->Bool),(∀ e0,P e0=e0 (sgn odd a) (sgn (!odd) b) (sgn (!odd) c) (sgn odd d)) -> ∃ a' b' c' d':Nat,∃ odd',(b'=0/\odd'=false\/z9 x0 y0 a' b' c' d' odd') /\ ∀ e0,P e0=e0 (sgn odd' a') (sgn (!odd') b') (sgn (!odd') c') (sgn odd' d'):=
  λP hP=>⟨a,b,c,d,odd,hgood,hP⟩
 have hpq:p*1<=d*p:=by rw[aab d]; exact aae _ hd1
 have hcp:c*p<=y0:=by omega
 have hdp:d*p<=x0:=by omega
 have hql:q<=p:=by
  rcases hor with h | ⟨k1,k2,k3⟩
  ·exact h.2.2.2.2.2
  ·cases odd
   ·simp only[Z9]at k3; omega
   ·simp only[Z_]at k3; omega
 obtain⟨u1,hu1⟩:∃ u1:Nat,(q:Int)+sgn (!odd) c=(u1:Int):=by
  rcases hor with h | ⟨k1,k2,k3⟩
  ·obtain⟨e1,e2,e3,e4,e5,e6⟩:=h;subst e1 e4; exact⟨q,by simp[sgn]⟩
  ·cases odd
   ·simp only[Z9]at k3;exact⟨q - c,by simp only[aaP,cF]; omega⟩
   ·exact⟨q+c,by simp only[aa2,cX]; omega⟩
 obtain⟨u2,hu2⟩:∃ u2:Nat,(q:Int)+sgn odd d=(u2:Int):=by
  rcases hor with h | ⟨k1,k2,k3⟩
  ·obtain⟨e1,e2,e3,e4,e5,e6⟩:=h;subst e1; exact⟨q+d,by simp only[cX]; omega⟩
  ·cases odd
   ·exact⟨q+d,by simp only[cX]; omega⟩
   ·simp only[Z_]at k3;exact⟨q - d,by simp only[cF]; omega⟩
 obtain⟨t1,ht1⟩:∃ t1:Nat,(p:Int)+sgn odd a=(t1:Int):=by
  rcases hor with h | ⟨k1,k2,k3⟩
  ·obtain⟨e1,e2,e3,e4,e5,e6⟩:=h;subst e1; exact⟨p+a,by simp only[cX]; omega⟩
  ·cases odd
   ·exact⟨p+a,by simp only[cX]; omega⟩
   ·simp only[Z_]at k3;exact⟨p - a,by simp only[cF]; omega⟩
 obtain⟨t2,ht2⟩:∃ t2:Nat,(p:Int)+sgn (!odd) b=(t2:Int):=by
  rcases hor with h | ⟨k1,k2,k3⟩
  ·obtain⟨e1,e2,e3,e4,e5,e6⟩:=h;subst e1 e3; exact⟨p,by simp[sgn]⟩
  ·cases odd
   ·simp only[Z9]at k3;exact⟨p - b,by simp only[aaP,cF]; omega⟩
   ·exact⟨p+b,by simp only[aa2,cX]; omega⟩
 have t1b:t1<=p+a:=by cases odd <;> simp only[cF,cX]at ht1 <;> omega
 have t2b:t2<=p+b:=by cases odd <;> simp only[aa2,aaP,cF,cX]at ht2 <;> omega
 have u1b:u1<=q+c:=by cases odd <;> simp only[aa2,aaP,cF,cX]at hu1 <;> omega
 have u2b:u2<=q+d:=by cases odd <;> simp only[cF,cX]at hu2 <;> omega
 by_cases c1:u1=0
 ·refine stop _ λe0=>?_
  show nV N e0 _ (aj M _)=_;simp only[nV,hu1];have:(((u1:Nat):Int) != 0)=false:=by simp; omega
  rw[aa Z5,this,show(false==true)=false from rfl,Z9]
 have n1:(((u1:Nat):Int) != 0)=true:=by simp; omega
 have m1:(!decide ((u1:Int)=0))=true:=by simp; omega
 by_cases c2:u2=0
 ·refine stop _ λe0=>?_
  show nV N e0 _ (aj M _)=_;simp only[nV,hu1,hu2];have:(((u2:Nat):Int) != 0)=false:=by simp; omega
  rw[aa Z5,n1,show(true==true)=true from rfl,Z_,aa Z5,this,Z9]
 have n2:(((u2:Nat):Int) != 0)=true:=by simp; omega
 have m2:(!decide ((u2:Int)=0))=true:=by simp; omega
 obtain⟨k1,hk1⟩:∃ k1,k1=t1 / u1:=⟨_,rfl⟩
 obtain⟨k2,hk2⟩:∃ k2,k2=t2 / u2:=⟨_,rfl⟩
 have k1b:k1<=t1:=by rw[hk1]; exact abK _ _
 have k2b:k2<=t2:=by rw[hk2]; exact abK _ _
 have d1:Int.tdiv (t1:Int) (u1:Int)=(k1:Int):=by rw[hk1]; rfl
 have d2:Int.tdiv (t2:Int) (u2:Int)=(k2:Int):=by rw[hk2]; rfl
 by_cases c3:k1=k2
 ·obtain⟨n,hn⟩:∃ n,n=k1:=⟨_,rfl⟩
  have hn2:n=k2:=by omega
  obtain⟨r1,hr1⟩:∃ r1,r1=t1%u1:=⟨_,rfl⟩
  obtain⟨r2,hr2⟩:∃ r2,r2=t2%u2:=⟨_,rfl⟩
  have E1:t1=n*u1+r1:=by rw[hn,hk1,hr1]; exact(aa6 t1 u1).symm
  have E2:t2=n*u2+r2:=by rw[hn2,hk2,hr2]; exact(aa6 t2 u2).symm
  have hr1l:r1<u1:=by rw[hr1]; exact aao _ (by omega)
  have hr2l:r2<u2:=by rw[hr2]; exact aao _ (by omega)
  have bnc:n*c<=4611686018427387904+1152921504606846976:=by
   have s1:n*c<=(p+a)*c:=aaa _ (by omega);have s2:(p+a)*c=c*p+a*c:=by rw[aaz,aab p]
   have s3:a*c<=1073741824*1073741824:=aaV ha hc;omega
  have bnd:n*d<=4611686018427387904+1152921504606846976:=by
   have s1:n*d<=(p+b)*d:=aaa _ (by omega);have s2:(p+b)*d=d*p+b*d:=by rw[aaz,aab p]
   have s3:b*d<=1073741824*1073741824:=aaV hb hd;omega
  have icn:(n:Int)*sgn (!odd) c=sgn (!odd) (n*c):=by cases odd <;> simp only[aa2,aaP,cF,cX,aat,ac8]
  have idn:(n:Int)*sgn odd d=sgn odd (n*d):=by cases odd <;> simp only[cF,cX,aat,ac8]
  have e2:sgn odd a - sgn (!odd) (n*c)=sgn odd (a+n*c):=by cases odd <;> simp only[aa2,aaP,cF,cX] <;> omega
  have f2:sgn (!odd) b - sgn odd (n*d)=sgn (!odd) (b+n*d):=by cases odd <;> simp only[aa2,aaP,cF,cX] <;> omega
  have hnq:n*q<=p/\(cond odd (p - n*q+b+n*d=r2/\p - n*q=r1+a+n*c) (p - n*q+a+n*c=r1/\p - n*q=r2+b+n*d)):=by
   cases odd with
   | false=>
    simp only[aaP,cF,cX]at hu1 hu2 ht1 ht2;simp only[Z9];have w2:u2=q+d:=by omega
    have w3:t2+b=p:=by omega
    have w1:u1+c=q:=by omega
    have w4:t1=p+a:=by omega
    have z1:n*u2=n*q+n*d:=by rw[w2,aap]
    have z2:n*q=n*u1+n*c:=by rw[<- w1,aap]
    omega
   | true=>
    simp only[aa2,cF,cX]at hu1 hu2 ht1 ht2;simp only[Z_];have w2:u2+d=q:=by omega
    have w3:t2=p+b:=by omega
    have w1:u1=q+c:=by omega
    have w4:t1+a=p:=by omega
    have z1:n*q=n*u2+n*d:=by rw[<- w2,aap]
    have z2:n*u1=n*q+n*c:=by rw[w1,aap]
    omega
  obtain⟨hnq,hnext⟩:=hnq;have inq:(n:Int)*(q:Int)=((n*q:Nat):Int):=(aat _ _).symm;have ipq:(p:Int) - ((n*q:Nat):Int)=((p - n*q:Nat):Int):=by omega
  have fbd1 : -9223372036854775808<=sgn (!odd) (n*c)/\sgn (!odd) (n*c)<=9223372036854775807:=by cases odd <;> simp only[aa2,aaP,cF,cX] <;> omega
  have fbd2 : -9223372036854775808<=sgn odd (a+n*c)/\sgn odd (a+n*c)<=9223372036854775807:=by cases odd <;> simp only[cF,cX] <;> omega
  have fbd3 : -9223372036854775808<=sgn odd (n*d)/\sgn odd (n*d)<=9223372036854775807:=by cases odd <;> simp only[cF,cX] <;> omega
  have fbd4 : -9223372036854775808<=sgn (!odd) (b+n*d)/\sgn (!odd) (b+n*d)<=9223372036854775807:=by cases odd <;> simp only[aa2,aaP,cF,cX] <;> omega
  have ne3:(((k1:Nat):Int) != ((k2:Nat):Int))=false:=by simp[c3]
  have body:∀ e0,aj (M+1) (nV N e0) (sgn odd a,sgn (!odd) b,sgn (!odd) c,sgn odd d,(p:Int),(q:Int)) =
    cond ((decide (sgn odd (a+n*c)>1073741824))==false) (cond ((decide (sgn odd (a+n*c)<(-1073741824)))==false) (cond ((decide (sgn (!odd) (b+n*d)>1073741824))==false) (cond (decide (sgn (!odd) (b+n*d)<(-1073741824))) (e0 (sgn odd a) (sgn (!odd) b) (sgn (!odd) c) (sgn odd d)) (aj M (nV N e0) (sgn (!odd) c,sgn odd d,sgn odd (a+n*c),sgn (!odd) (b+n*d),(q:Int),((p - n*q:Nat):Int)))) (e0 (sgn odd a) (sgn (!odd) b) (sgn (!odd) c) (sgn odd d))) (e0 (sgn odd a) (sgn (!odd) b) (sgn (!odd) c) (sgn odd d))) (e0 (sgn odd a) (sgn (!odd) b) (sgn (!odd) c) (sgn odd d)):=by
   intro e0;show nV N e0 _ (aj M _)=_;simp only[nV,hu1,hu2,ht1,ht2,d1,d2,ne3,Z9];rw[<- hn];simp only[icn,idn,e2,f2,inq,ipq];rw[aa Z5,n1,show(true==true)=true from rfl,Z_,aa Z5,n2,Z_,aa Z5,aa Z5,aa m1,aa Z5,aa Z5,aa Z5,aa m2,aa Z5,aa (ab fbd1.1 fbd1.2),aa (ab fbd2.1 fbd2.2),aa (ab fbd3.1 fbd3.2),aa (ab fbd4.1 fbd4.2),aa Z5,aa Z5]
  by_cases c4:a+n*c<=1073741824
  ·by_cases c5:b+n*d<=1073741824
   ·have q1:decide (sgn odd (a+n*c)>1073741824)=false:=Z8 (by cases odd <;> simp only[cF,cX] <;> omega);have q2:decide (sgn odd (a+n*c)<(-1073741824))=false:=Z8 (by cases odd <;> simp only[cF,cX] <;> omega);have q3:decide (sgn (!odd) (b+n*d)>1073741824)=false:=Z8 (by cases odd <;> simp only[aa2,aaP,cF,cX] <;> omega);have q4:decide (sgn (!odd) (b+n*d)<(-1073741824))=false:=Z8 (by cases odd <;> simp only[aa2,aaP,cF,cX] <;> omega);have hn1:1<=n:=by
     rw[hn,hk1];refine acz ?_ (by omega);rcases hor with h | ⟨g1,g2,g3⟩
     ·obtain⟨z1,z2,z3,z4,z5,z6⟩:=h;subst z1 z2 z4;simp only[aaP,cF,cX]at hu1 ht1;omega
     ·cases odd
      ·simp only[Z9]at g3;simp only[aaP,cF,cX]at hu1 ht1;omega
      ·simp only[Z_]at g3;simp only[aa2,cF,cX]at hu1 ht1;omega
    have hq0:1<=q\/q=0:=by omega
    have hlt:p - n*q<q:=by
     have s1:1*d<=n*d:=aaa _ hn1;have s2:1*c<=n*c:=aaa _ hn1;cases odd with
     | false=>
      simp only[Z9]at hnext;simp only[aaP,cF]at hu1;omega
     | true=>
      simp only[Z_]at hnext;simp only[cF]at hu2;omega
    obtain⟨a',b',c',d',odd',g1,g2⟩:=ih (p - n*q) hlt q c d (a+n*c) (b+n*d) (!odd) M (by omega)
     (by
      have s1:(b+n*d)*q=b*q+d*(n*q):=by grind
      have s2:d*(p - n*q)+d*(n*q)=d*p:=by rw[<- aap]; congr 1; omega
      omega)
     (by
      have s1:(a+n*c)*q=a*q+c*(n*q):=by grind
      have s2:c*(p - n*q)+c*(n*q)=c*p:=by rw[<- aap]; congr 1; omega
      omega)
     (by
      have s1:d*(a+n*c)=a*d+n*(c*d):=by grind
      have s2:c*(b+n*d)=b*c+n*(c*d):=by grind
      cases odd with
      | false=>simp only[aaP,Z_,Z9]at hdet ⊢; omega
      | true=>simp only[aa2,Z_,Z9]at hdet ⊢; omega)
     hc hd c4 c5 (by have s1:1*d<=n*d:=aaa _ hn1;omega) (by omega)
     (.inr ⟨hd1,(by
      rcases hor with h | ⟨z1,z2,z3⟩
      ·omega
      ·have s2:1*c<=n*c:=aaa _ hn1;omega),by
      cases odd with
      | false=>
       simp only[Z9]at hnext;simp only[aaP,cF,cX,Z_]at hu1 hu2 ⊢;omega
      | true=>
       simp only[Z_]at hnext;simp only[aa2,cF,cX,Z9]at hu1 hu2 ⊢;omega⟩)
    refine⟨a',b',c',d',odd',g1,λe0=>?_⟩;have:=g2 e0;rw[Bool.not_not]at this;rw[body,q1,q2,q3,q4];exact this
   ·refine stop _ λe0=>?_
    rw[body];cases odd with
    | false=>
     have q1:decide (sgn false (a+n*c)>1073741824)=false:=Z8 (by simp only[cX]; omega);have q2:decide (sgn false (a+n*c)<(-1073741824))=false:=Z8 (by simp only[cX]; omega);have q3:decide (sgn (!false) (b+n*d)>1073741824)=false:=Z8 (by simp only[aaP,cF]; omega);have q4:decide (sgn (!false) (b+n*d)<(-1073741824))=true:=Z7 (by simp only[aaP,cF]; omega);rw[q1,q2,q3,q4];rfl
    | true=>
     have q1:decide (sgn true (a+n*c)>1073741824)=false:=Z8 (by simp only[cF]; omega);have q2:decide (sgn true (a+n*c)<(-1073741824))=false:=Z8 (by simp only[cF]; omega);have q3:decide (sgn (!true) (b+n*d)>1073741824)=true:=Z7 (by simp only[aa2,cX]; omega);rw[q1,q2,q3];rfl
  ·refine stop _ λe0=>?_
   rw[body];cases odd with
   | false=>
    have q1:decide (sgn false (a+n*c)>1073741824)=true:=Z7 (by simp only[cX]; omega);rw[q1];rfl
   | true=>
    have q1:decide (sgn true (a+n*c)>1073741824)=false:=Z8 (by simp only[cF]; omega);have q2:decide (sgn true (a+n*c)<(-1073741824))=true:=Z7 (by simp only[cF]; omega);rw[q1,q2];rfl
 ·refine stop _ λe0=>?_
  show nV N e0 _ (aj M _)=_;simp only[nV,hu1,hu2,ht1,ht2,d1,d2];have:(((k1:Nat):Int) != ((k2:Nat):Int))=true:=by simp; omega
  rw[aa Z5,n1,show(true==true)=true from rfl,Z_,aa Z5,n2,Z_,aa Z5,aa Z5,aa m1,aa Z5,aa Z5,aa Z5,aa m2,aa Z5,this,Z_]
theorem Fy {N:Nat} (hN:1180591620717411303424<=N) {x0 y0:Nat} (hx0:x0<4611686018427387904) (hyx:y0<=x0):∃ a b c d:Nat,∃ odd,(b=0/\odd=false\/z9 x0 y0 a b c d odd) /\ ∀ k,qM N (x0:Int) (y0:Int) k=k (sgn odd a) (sgn (!odd) b) (sgn (!odd) c) (sgn odd d):=by
 obtain⟨a,b,c,d,odd,h1,h2⟩:=Eo (N:=N) (x0:=x0) (y0:=y0) hx0 (by omega) y0 x0 1 0 0 1 false N (by omega) (by omega) (by omega) rfl (by omega) (by omega) (by omega) (by omega) (by omega) (by omega) (.inl ⟨rfl,rfl,rfl,rfl,rfl,hyx⟩);refine⟨a,b,c,d,odd,h1,λk=>?_⟩
 (unfold qM; rw[ac]; unfold pS)
 rw[aa Z5,aa Z5];exact h2 _
theorem Nl {a b c d X Y:Nat} (hdet:b*c=a*d+1) (g1:a*X<=b*Y) (g2:d*Y<=c*X):X=d*(b*Y - a*X)+b*(c*X - d*Y)/\Y=c*(b*Y - a*X)+a*(c*X - d*Y):=by
 obtain⟨U,hU⟩:=abT g1;obtain⟨V,hV⟩:=abT g2;rw[<- hU,<- hV,aaN,aaN];constructor
 ·have t1:d*(b*Y)=d*(a*X)+d*U:=by rw[<- hU,aap]
  have t2:b*(c*X)=b*(d*Y)+b*V:=by rw[<- hV,aap]
  have t3:b*(c*X)=(a*d+1)*X:=by rw[<- hdet,aah]
  have t4:(a*d+1)*X=d*(a*X)+X:=by grind
  have t5:d*(b*Y)=b*(d*Y):=by grind
  omega
 ·have t1:c*(b*Y)=c*(a*X)+c*U:=by rw[<- hU,aap]
  have t2:a*(c*X)=a*(d*Y)+a*V:=by rw[<- hV,aap]
  have t3:c*(b*Y)=(a*d+1)*Y:=by rw[<- hdet]; grind
  have t4:(a*d+1)*Y=a*(d*Y)+Y:=by grind
  have t5:c*(a*X)=a*(c*X):=by grind
  omega
theorem EK {x0 y0 a b c d F rx ry X Y:Nat} (h:z9 x0 y0 a b c d true) (hrx:rx<F) (hry:ry<F) (hX:X=x0*F+rx) (hY:Y=y0*F+ry) :
  a*X<=b*Y/\d*Y<=c*X/\c*X - d*Y<=b*Y - a*X/\X=d*(b*Y - a*X)+b*(c*X - d*Y)/\Y=c*(b*Y - a*X)+a*(c*X - d*Y):=by
 obtain⟨p,q,h1,h2,hdet,hin,hb1,hc1,hd1,hal,hbl,hcl,hdl⟩:=h;simp only[Z_]at hdet hin;obtain⟨hdq,hpq⟩:=hin;have e1:b*Y+a*rx=a*X+(p*F+b*ry):=by
  subst h1 h2 hX hY;have:b*(c*p*F)=(a*d+1)*(p*F):=by rw[<- hdet]; grind
  grind
 have e2:c*X+d*ry=d*Y+(q*F+c*rx):=by
  subst h1 h2 hX hY;have:b*c*(q*F)=(a*d+1)*(q*F):=by rw[<- hdet]
  grind
 have m1:a*rx<=a*F:=aae _ (by omega);have m3:d*ry<=d*F:=aae _ (by omega);have m4:d*F<=q*F:=aaa _ hdq;have m5:(q+a+c)*F<=p*F:=aaa _ hpq;rw[aaz,aaz]at m5;have m6:c*rx<=c*F:=aae _ (by omega);have g1:a*X<=b*Y:=by omega
 have g2:d*Y<=c*X:=by omega
 obtain⟨i1,i2⟩:=Nl hdet g1 g2;exact⟨g1,g2,by omega,i1,i2⟩
theorem Cr {x0 y0 a b c d F rx ry X Y:Nat} (h:z9 x0 y0 a b c d false) (hrx:rx<F) (hry:ry<F) (hX:X=x0*F+rx) (hY:Y=y0*F+ry) :
  b*Y<=a*X/\c*X<=d*Y/\d*Y - c*X<=a*X - b*Y/\X=d*(a*X - b*Y)+b*(d*Y - c*X)/\Y=c*(a*X - b*Y)+a*(d*Y - c*X):=by
 obtain⟨p,q,h1,h2,hdet,hin,hb1,hc1,hd1,hal,hbl,hcl,hdl⟩:=h;simp only[Z9]at hdet hin;obtain⟨hdq,hpq⟩:=hin;have e1:a*X+b*ry=b*Y+(p*F+a*rx):=by
  subst h1 h2 hX hY;have:a*d*(p*F)=(b*c+1)*(p*F):=by rw[<- hdet]
  grind
 have e2:d*Y+c*rx=c*X+(q*F+d*ry):=by
  subst h1 h2 hX hY;have:a*d*(q*F)=(b*c+1)*(q*F):=by rw[<- hdet]
  grind
 have m1:b*ry<=b*F:=aae _ (by omega);have m3:c*rx<=c*F:=aae _ (by omega);have m4:c*F<=q*F:=aaa _ hdq;have m5:(q+b+d)*F<=p*F:=aaa _ hpq;rw[aaz,aaz]at m5;have m6:d*ry<=d*F:=aae _ (by omega);have g1:b*Y<=a*X:=by omega
 have g2:c*X<=d*Y:=by omega
 refine⟨g1,g2,by omega,?_,?_⟩
 ·obtain⟨U,hU⟩:=abT g1;obtain⟨V,hV⟩:=abT g2;rw[<- hU,<- hV,aaN,aaN];have t1:d*(a*X)=d*(b*Y)+d*U:=by rw[<- hU,aap]
  have t2:b*(d*Y)=b*(c*X)+b*V:=by rw[<- hV,aap]
  have t3:d*(a*X)=(b*c+1)*X:=by rw[<- hdet]; grind
  have t4:(b*c+1)*X=b*(c*X)+X:=by grind
  have t5:d*(b*Y)=b*(d*Y):=by grind
  omega
 ·obtain⟨U,hU⟩:=abT g1;obtain⟨V,hV⟩:=abT g2;rw[<- hU,<- hV,aaN,aaN];have t1:c*(a*X)=c*(b*Y)+c*U:=by rw[<- hU,aap]
  have t2:a*(d*Y)=a*(c*X)+a*V:=by rw[<- hV,aap]
  have t3:a*(d*Y)=(b*c+1)*Y:=by rw[<- hdet]; grind
  have t4:(b*c+1)*Y=c*(b*Y)+Y:=by grind
  have t5:c*(a*X)=a*(c*X):=by grind
  omega
theorem yS {N X Y u v:Nat} (hN:1180591620717411303424<=N) (sX:(ai X).length<=1099511627000) (sY:(ai Y).length<=1099511627000) (hu:u<=1073741824) (hv:v<=1073741824) (hle:v*Y<=u*X) (k:Kz5) :
  He N (ai X) (u:Int) (ai Y) (v:Int) k=k (ai (u*X - v*Y)):=by
 (unfold He; rw[ac]; unfold JW)
 have lu:=cA 1 u (by rw[adb]; omega);have lv:=cA 1 v (by rw[adb]; omega);have lX:=cA ((ai X).length+1) (X*u) (by rw[aaj]; exact abc (iu X) (by omega))
 rw[rI u (by omega) (by omega),vt _ _ (bh _) (bh _) (by omega) (by omega),rI v (by omega) (by omega),vt _ _ (bh _) (bh _) (by omega) (by omega),aM,aM,aM,aM,
  vp _ _ (bh _) (bh _) (by rw[aM,aM,aab X,aab Y]; exact hle) ⟨by omega,by omega⟩,aM,aM,aab X,aab Y]
theorem wt {N X Y u v:Nat} (hN:1180591620717411303424<=N) (sX:(ai X).length<=1099511627000) (sY:(ai Y).length<=1099511627000) (hu:u<=1073741824) (hv:v<=1073741824) (hle:v*Y<=u*X) (k:Kz5) :
  ma N (ai X) (u:Int) (ai Y) (-(v:Int)) k=k (ai (u*X - v*Y)):=by
 (unfold ma; rw[ac]; unfold rb)
 have w1:IntKind.wrap .u64 (u:Int)=(u:Int):=by rw[am]; omega
 have w2:IntKind.wrap .u64 (0 - -(v:Int))=(v:Int):=by rw[am]; omega
 rw[Z7 (by omega : -(v:Int)<=0),Z_,aa Z5,w1,w2,yS hN sX sY hu hv hle]
theorem wr {N X Y u v:Nat} (hN:1180591620717411303424<=N) (sX:(ai X).length<=1099511627000) (sY:(ai Y).length<=1099511627000) (hu:u<=1073741824) (hv:v<=1073741824) (hv1:1<=v) (hle:u*X<=v*Y) (k:Kz5) :
  ma N (ai X) (-(u:Int)) (ai Y) (v:Int) k=k (ai (v*Y - u*X)):=by
 (unfold ma; rw[ac]; unfold rb)
 have w1:IntKind.wrap .u64 (v:Int)=(v:Int):=by rw[am]; omega
 have w2:IntKind.wrap .u64 (0 - -(u:Int))=(u:Int):=by rw[am]; omega
 rw[Z8 (by omega:¬(v:Int)<=0),Z9,aa Z5,w1,w2,yS hN sY sX hv hu hle]
theorem CJ {N:Nat} (hN:1180591620717411303424<=N) (e0:List Int->Bool):∀(b a M:Nat),b<M->(ai a).length<=1099511627000->(ai b).length<=1099511627000->aj M (vG N e0) (ai a,ai b)=e0 (ai (Nat.gcd a b)):=by
 intro b;induction b using Nat.strongRecOn with
 | ind b ih=>
 intro a M hM ha hb;obtain⟨M,rfl⟩:∃ m,M=m+1:=⟨M - 1,by omega⟩
 show vG N e0 (ai a,ai b) (aj M _)=_;simp only[vG];by_cases h:b=0
 ·subst h;have:(((ai 0).length:Nat):Int)=0:=by rw[bb]; rfl
  rw[this,Z8 (by omega),Z9,acG]
 ·have hp:0<(ai b).length:=by rw[ci h]; simp
  have hm:=aao a (by omega:b>0);have hml:=bT (Nat.le_of_lt hm);rw[Z7 (by omega),Z_,rF hN (by omega) ha hb,ih (a%b) hm b M (by omega) hb (by omega),abo b,<- adc,abo]
theorem oK {N V f:Nat} (hf:f<140737488355328) (hs:(ai V).length+3<N/\(ai V).length<=1099511627000) (k:Kz5):zW N (ai V) (f:Int) k=k (ai (V / 2 ^ f)):=by
 have hm:=bh V;have hmv:=aM V
 (unfold zW; rw[ac]; unfold PZ)
 obtain⟨hN1,hN2⟩:=hs;have ew:IntKind.wrap .u64 (Int.tdiv (f:Int) 32)=((f / 32:Nat):Int):=by rw[am,abb (by omega)]; omega
 have es:Int.tmod (f:Int) 32=((f%32:Nat):Int):=by rw[aa3 (by omega)]; rfl
 rw[ew,es,aa Z5];have hp2:2 ^ f=4294967296 ^ (f / 32)*2 ^ (f%32):=uy f;obtain⟨w,hw⟩:∃ w,w=f / 32:=⟨_,rfl⟩
 obtain⟨s,hsh⟩:∃ s,s=f%32:=⟨_,rfl⟩
 rw[<- hw,<- hsh]at hp2 ⊢;have hs32:s<32:=by omega
 have hs0:0<2 ^ s:=aam s;obtain⟨m,hme⟩:∃ m,m=ai V:=⟨_,rfl⟩
 rw[<- hme]at hm hmv hN1 hN2 ⊢;by_cases h0:m.length<=w
 ·rw[Z7 (by omega:((w:Nat):Int)>=m.length),Z_];have h1:=eI hm;rw[hmv]at h1;have h2:4294967296 ^ m.length<=4294967296 ^ w:=aan (by decide) h0;have h3:V / 2 ^ f=0:=by rw[hp2];refine aaC ?_;have:4294967296 ^ w*1<=4294967296 ^ w*2 ^ s:=aae _ hs0;omega
  rw[h3,bb]
 ·rw[Z8 (by omega:¬((w:Nat):Int)>=m.length),Z9];obtain⟨Z,hZ⟩:∃ Z,Z=V / 2 ^ f:=⟨_,rfl⟩
  have elen:Int.toNat ((m.length:Int) - ((w:Nat):Int))=m.length - w:=by omega
  rw[elen,aa Z5,aa (bZ (by omega) (by omega) (by omega) (by omega)),<- hZ];obtain⟨L,hL⟩:∃ L,L=m.length - w:=⟨_,rfl⟩
  rw[<- hL];refine aH (λi=>((i:Int),dl Z i++List.replicate (L - i) 0)) L (by simp[dl]) (by omega) (λi hi K=>?_) (λK=>?_)
  ·have hx:=hm.at (i:=w+i);have hy:=hm.at (i:=w+i+1);have hset:=yc Z i L (by omega);have hl:(dl Z i++List.replicate (L - i) 0).length=L:=by simp[al]; omega
   have ei:Int.toNat ((w:Int)+(i:Int))=w+i:=by omega
   have ei1:Int.toNat ((w:Int)+(i:Int)+1)=w+i+1:=by omega
   have emin:min s 64=s:=by omega
   obtain⟨R,hR⟩:=Aj hm (w+i);rw[hmv]at hR;have hdig:Z / 4294967296 ^ i%4294967296=((m.getD (w+i) 0).toNat+4294967296*(m.getD (w+i+1) 0).toNat) / 2 ^ s%4294967296:=by
    rw[hZ,hp2,aaf];have e1:4294967296 ^ w*2 ^ s*4294967296 ^ i=4294967296 ^ (w+i)*2 ^ s:=by rw[aal,aah,aab (2 ^ s),<- aah]
    rw[e1,<- aaf,hR];have e2:4294967296*4294967296*R=2 ^ s*(4294967296*(2 ^ (32 - s)*R)):=by
     have hs1:2 ^ s*2 ^ (32 - s)=4294967296:=by rw[<- aal,show s+(32 - s)=32 by omega]
     rw[aaD (2 ^ s),<- aah (2 ^ s),hs1,aah]
    rw[e2,aa5 _ _ hs0,abp]
   have hfin:∀ z:Int,z=(((m.getD (w+i) 0).toNat+4294967296*(m.getD (w+i+1) 0).toNat:Nat):Int)->IntKind.wrap .u32 (Int.fdiv z (2 ^ s))=((Z / 4294967296 ^ i%4294967296:Nat):Int):=by
    intro z hz;have e:(2:Int) ^ s=((2 ^ s:Nat):Int):=by simp
    rw[hdig,hz,e,abC _ (by omega),dd];rfl
   simp only[j8,aac,ei,ei1,emin,hl];rw[Z7 (by omega:(i:Int)<L),Z_,aa Z5,aa Z6,aa Z5,aa Z5];by_cases hlast:w+i+1<m.length
   ·rw[Z7 (by omega:(w:Int)+(i:Int)+1<m.length),Z_,aa Z5,aa Z5,aa Z6,aa (Z7 (by omega)),aa Z6,aa (Z7 (by omega)),aa Z5];have e1:IntKind.wrap .u64 (m.getD (w+i) 0)=(((m.getD (w+i) 0).toNat:Nat):Int):=by rw[am]; omega
    have e2:IntKind.wrap .u64 (IntKind.wrap .u64 (m.getD (w+i+1) 0)*2 ^ 32)=((2 ^ 32*(m.getD (w+i+1) 0).toNat:Nat):Int):=by
     have:(2:Int) ^ 32=4294967296:=by decide
     have:(2:Nat) ^ 32=4294967296:=by decide
     rw[am,am]; omega
    have p32:(2:Nat) ^ 32=4294967296:=by decide
    rw[e1,e2,cw _ _ 32 (by omega) (by omega),hfin _ (by omega),hset,jP]
   ·rw[Z8 (by omega:¬(w:Int)+(i:Int)+1<m.length),Z9,aa (Z7 (by omega)),aa Z6,aa (Z7 (by omega)),aa Z5];have hz:m.getD (w+i+1) 0=0:=dU (by omega);have e1:IntKind.wrap .u64 (m.getD (w+i) 0)=(((m.getD (w+i) 0).toNat:Nat):Int):=by rw[am]; omega
    rw[e1,hfin _ (by rw[hz]; simp),hset,jP]
  ·simp only[j8];have hl:(dl Z L++List.replicate (L - L) 0).length=L:=by simp[al]
   rw[Z8 (by omega:¬((L:Nat):Int)<(((dl Z L++List.replicate (L - L) (0:Int)).length:Nat):Int)),Z9,aaH,aaL,aaI];have hVl:Z<4294967296 ^ L:=by have h1:=eI hm;rw[hmv]at h1;rw[hZ,aag (aam f),hp2,<- aah,<- aal,show L+w=m.length by omega];have:4294967296 ^ m.length*1<=4294967296 ^ m.length*2 ^ s:=aae _ hs0;omega
   rw[dj _ (iD Z _) (by rw[al]; omega) (by rw[al]; omega),ou hVl]
theorem v8 {N:Nat} (hN:1180591620717411303424<=N) {u v:List Int} (k:Kz5) :
  ∀ s x y,x+y=s->s<N->y<=x->(ai x).length<=134217728000 ->
   Gf N u v (ai x) (ai y) k=k (ai (Nat.gcd x y)):=by
 intro s x y hs hsN hyx hxl;unfold Gf;have main:∀ s x y M,x+y=s->s<M->M<=N->y<=x->(ai x).length<=134217728000 ->
   aj M (zo N (λ(VX:List Int) (U9:List Int)=>(aj N (vG N (λ(WU:List Int)=>((decide ((List.length ([]++WU))*4<=140737488355328))&&(k ([]++WU))))) (VX,U9)))) (ai x,ai y)=k (ai (Nat.gcd x y)):=by
  intro s;induction s using Nat.strongRecOn with
  | ind s ih=>
  intro x y M hs hsM hMN hyx hxl;obtain⟨M,rfl⟩:∃ m,M=m+1:=⟨M - 1,by omega⟩
  have hyl:=bT hyx;show zo N _ (ai x,ai y) (aj M _)=_;simp only[zo];by_cases h2:3<=(ai y).length
  ·have hyge:18446744073709551616<=y:=by
    rcases aa0 y 18446744073709551616 with h | h
    ·have:=cA 2 y (by
      have:(4294967296:Nat) ^ 2=18446744073709551616:=by decide
      omega)
     omega
    ·exact h
   have hblx:64<bl x:=by
    rcases aa0 64 (bl x)with h | h
    ·exact h
    ·have h1:=vW x;have h3:2 ^ bl x<=2 ^ 64:=aan (by decide) h;rw[mC]at h3;omega
   have hblu:bl x<=32*(ai x).length:=by refine tZ ?_;rw[ac7,BP]; exact iu x
   obtain⟨f,hf⟩:∃ f,bl x=f+62:=⟨bl x - 62,by omega⟩
   have ef:(bl x:Int) - 62=(f:Int):=by omega
   have hF0:0<2 ^ f:=aam f;have p62:(2:Nat) ^ 62=4611686018427387904:=by decide
   have hx0l:x / 2 ^ f<4611686018427387904:=by rw[aag hF0,<- p62,<- aal,ab7,<- hf]; exact vW x
   have hy0l:y / 2 ^ f<=x / 2 ^ f:=acr hyx;rw[Z7 (by omega),Z_,yE false x ⟨by omega,by omega⟩,ef,aa Z5,
    Dq (by omega) (by omega) ⟨by omega,by omega⟩ (.inr trivial) (by omega) (λkk=>oK (by omega) ⟨by omega,by omega⟩ kk),
    Dq (by omega) (by omega) ⟨by omega,by omega⟩ (.inr trivial) (by omega) (λkk=>oK (by omega) ⟨by omega,by omega⟩ kk)]
   obtain⟨a,b,c,d,odd,g1,g2⟩:=Fy hN hx0l hy0l;rw[g2];rcases g1 with⟨hb0,ho⟩ | hgood
   ·subst hb0 ho;have e0:(sgn (!false) 0==0)=true:=rfl;have hm:=aao x (by omega:y>0);rw[e0,Z_,rF hN (by omega) (by omega) (by omega),ih (y+x%y) (by omega) y (x%y) M rfl (by omega) (by omega) (by omega) (by omega),abo y,<- adc,abo]
   ·obtain⟨p,q,z1,z2,z3,z4,hb1,hc1,hd1,hal,hbl,hcl,hdl⟩:=id hgood;have fin:∀ U V:Nat,x=d*U+b*V->y=c*U+a*V->V<=U->U+V<x+y/\U<=x:=by
     intro U V hx hy hvu;have k1:1*U<=d*U:=aaa _ hd1;have k2:1*V<=b*V:=aaa _ hb1;have k3:1*U<=c*U:=aaa _ hc1;have hU0:0<U:=by
      rcases abv U with hu | hu
      ·exfalso;have hv:V=0:=by omega
       rw[hu,hv,abt,abt]at hy;omega
      ·exact hu
     exact⟨by omega,by omega⟩
    cases odd with
    | true=>
     obtain⟨f1,f2,f3,f4,f5⟩:=EK hgood (aao x hF0) (aao y hF0) (aa6 x (2 ^ f)).symm (aa6 y (2 ^ f)).symm;obtain⟨w1,w2⟩:=fin _ _ f4 f5 f3;have hgc:=ue f4 f5 (acB (aax (abk _ _) _) (aax (aa1 _ _) _)) (acB (aax (aa1 _ _) _) (aax (abk _ _) _));have hUl:=bT w2;have e0:(sgn (!true) b==0)=false:=by simp only[aa2,cX]; simp; omega
     have s1:sgn true a = -(a:Int):=rfl;have s2:sgn (!true) b=(b:Int):=rfl;have s3:sgn (!true) c=(c:Int):=rfl;have s4:sgn true d = -(d:Int):=rfl;rw[e0,Z9,s1,s2,s3,s4,wr hN (by omega) (by omega) hal hbl hb1 f1,wt hN (by omega) (by omega) hcl hdl f2,ih _ (by omega) _ _ M rfl (by omega) (by omega) f3 (by omega),hgc]
    | false=>
     obtain⟨f1,f2,f3,f4,f5⟩:=Cr hgood (aao x hF0) (aao y hF0) (aa6 x (2 ^ f)).symm (aa6 y (2 ^ f)).symm;obtain⟨w1,w2⟩:=fin _ _ f4 f5 f3;have hgc:=ue f4 f5 (acB (aax (aa1 _ _) _) (aax (abk _ _) _)) (acB (aax (abk _ _) _) (aax (aa1 _ _) _));have hUl:=bT w2;have e0:(sgn (!false) b==0)=false:=by simp only[aaP,cF]; simp; omega
     have s1:sgn false a=(a:Int):=rfl;have s2:sgn (!false) b = -(b:Int):=rfl;have s3:sgn (!false) c = -(c:Int):=rfl;have s4:sgn false d=(d:Int):=rfl;rw[e0,Z9,s1,s2,s3,s4,wt hN (by omega) (by omega) hal hbl f1,wr hN (by omega) (by omega) hcl hdl hd1 f2,ih _ (by omega) _ _ M rfl (by omega) (by omega) f3 (by omega),hgc]
  ·rw[Z8 (by omega),Z9,CJ hN _ y x N (by omega) (by omega) (by omega),aaZ];have hgl:(ai (Nat.gcd x y)).length<=134217728000:=by
    by_cases h0:x=0
    ·have hy0:y=0:=by omega
     rw[h0,hy0,acG,bb]; simp
    ·have:=bT (Nat.gcd_le_left y (ach h0));omega
   rw[aa (Z7 (by omega))]
 exact main s x y N hs hsN (aak _) hyx hxl
theorem Fq {N:Nat} (hN:1180591620717411303424<=N) {x y:Nat} (hf:x+y<N) (hxl:(ai x).length<=134217728000) (hyl:(ai y).length<=134217728000) (k:Kz5):D3 N (ai x) (ai y) k=k (ai (Nat.gcd x y)):=by
 (unfold D3; rw[ac]; unfold JR)
 rw[jr x y ⟨by omega,by omega⟩ ⟨by omega,by omega⟩];by_cases h:x<y
 ·have hc:decide (dx x y<0)=true:=by unfold dx; rw[if_pos h]; rfl
  rw[hc,Z_,v8 hN _ (y+x) y x rfl (by omega) (by omega) hyl,abo]
 ·have hc:decide (dx x y<0)=false:=by unfold dx; rw[if_neg h]; split <;> rfl
  rw[hc,Z9,v8 hN _ (x+y) x y rfl hf (by omega) hxl]
theorem wU {a b:Nat} (ha:a<4294967296) (hb:b<4294967296):aB .and .u32 (a:Int) (b:Int)=((a &&& b:Nat):Int):=by
 unfold aB pp;simp only[aaW];have h32:(2:Nat) ^ 32=4294967296:=by decide
 have e:((BitVec.ofInt (IntKind.bits .u32) (a:Int)) &&& (BitVec.ofInt (IntKind.bits .u32) (b:Int))).toNat=a &&& b:=by show((BitVec.ofInt 32 (a:Int)) &&& (BitVec.ofInt 32 (b:Int))).toNat=_;rw[acT,abf,abf,abn,abn,aai (by omega),aai (by omega)]
 have hl:a &&& b<4294967296:=abJ Nat.and_le_left ha;rw[e,EB _ hl]
theorem HE {t c:Nat} (h:2 ^ t*(2*c+1)<2 ^ 32):(2 ^ t*(2*c+1)) &&& (2 ^ 32 - 2 ^ t*(2*c+1))=2 ^ t:=by
 have ht0:0<2 ^ t:=aam t;have ht:t<32:=by
  rcases aa0 t 32 with h1 | h1
  ·exact h1
  ·have h2:2 ^ 32<=2 ^ t:=aan (by decide) h1;have h3:2 ^ t*1<=2 ^ t*(2*c+1):=aae _ (by omega);omega
 have e1:2 ^ t*(2*c+1)=(2 ^ t*(2*c)+(2 ^ t - 1))+1:=by rw[aap]; omega
 refine acq λj=>?_
 rw[ac9];have e2:(2 ^ 32 - 2 ^ t*(2*c+1)).testBit j=(decide (j<32) && !(2 ^ t*(2*c)+(2 ^ t - 1)).testBit j):=by
  conv=>lhs; rw[e1]
  exact acY (by rw[e1]at h; omega) j
 rw[e2,Nat.testBit_two_pow_mul,ac_ _ (by omega),ab4];rcases acK j t with hj | hj | hj
 ·rw[Z8 (by omega:¬ j>=t),Z8 (by omega:¬ t=j)]; rfl
 ·subst hj;rw[if_neg (by omega),aaH,Z7 (aak _),Z7 ht,Z7 rfl];have a1:(2*c+1).testBit 0=true:=by rw[acU]; simp
  have a2:(2*c).testBit 0=false:=by rw[acU]; simp
  rw[a1,a2]; rfl
 ·obtain⟨k,hk⟩:∃ k,j - t=k+1:=⟨j - t - 1,by omega⟩
  rw[if_neg (by omega),hk,Z7 (by omega:j>=t),Z8 (by omega:¬ t=j),acV,acV];have a1:(2*c+1) / 2=c:=by omega
  have a2:2*c / 2=c:=by omega
  rw[a1,a2];cases c.testBit k <;> simp
theorem ME:∀ t:Fin 32,(inR (Int.fdiv (IntKind.wrap .u32 (((2 ^ t.val:Nat):Int)*125613361)) (2 ^ 27)) 32=true)/\(List.getD wR (Int.toNat (Int.fdiv (IntKind.wrap .u32 (((2 ^ t.val:Nat):Int)*125613361)) (2 ^ 27))) 0=(t.val:Int)):=by decide +kernel
theorem Lh (N:Nat) {t c:Nat} (h:2 ^ t*(2*c+1)<4294967296) (k:Kz1):sQ8 N ((2 ^ t*(2*c+1):Nat):Int) k=k (t:Int):=by
 have h32:(2:Nat) ^ 32=4294967296:=by decide
 have ht0:0<2 ^ t:=aam t;have hx0:0<2 ^ t*(2*c+1):=ab8 ht0 (by omega);have ht:t<32:=by
  rcases aa0 t 32 with h1 | h1
  ·exact h1
  ·have h2:2 ^ 32<=2 ^ t:=aan (by decide) h1;have h3:2 ^ t*1<=2 ^ t*(2*c+1):=aae _ (by omega);omega
 (unfold sQ8; rw[ac]; unfold GQ8)
 have ha:=HE (t:=t) (c:=c) (by omega);rw[h32]at ha;generalize 2 ^ t*(2*c+1)=x at *;have e0:((x:Int)==0)=false:=by simp; omega
 have ew:IntKind.wrap .u32 (0 - (x:Int))=((4294967296 - x:Nat):Int):=by rw[dd]; omega
 obtain⟨t1,t2⟩:=ME ⟨t,ht⟩;rw[e0,Z9,ew,wU h (by omega),ha,aa t1,t2,aa Z5]
theorem KB {t c:Nat}:2 ^ t*(2*c+1) / 4294967296 ^ (t / 32)%4294967296=2 ^ (t%32)*(2*(c%2 ^ (31 - t%32))+1):=by
 have hs1:2 ^ (t%32)*2 ^ (32 - t%32)=4294967296:=by rw[<- aal,show t%32+(32 - t%32)=32 by omega]
 rw[uy t,aah,aaJ _ (aY _),<- hs1,ab1];congr 1;have e1:2 ^ (32 - t%32)=2*2 ^ (31 - t%32):=by rw[show 32 - t%32=(31 - t%32)+1 by omega,aaj,aab]
 rw[e1];have e2:=acm c (2 ^ (31 - t%32));generalize 2 ^ (31 - t%32)=P at *;generalize c / P=q at *;have hP:c%P<P\/P=0:=by
  rcases abv P with h | h
  ·exact .inr h
  ·exact .inl (aao _ h)
 generalize c%P=r at *;have e3:2*c+1=(2*r+1)+2*P*q:=by rw[<- e2]; grind
 rw[e3,abp];rcases hP with h | h
 ·exact aai (by omega)
 ·subst h; simp
theorem EX {t c i:Nat} (hi:i<t / 32):2 ^ t*(2*c+1) / 4294967296 ^ i%4294967296=0:=by
 have e:2 ^ t*(2*c+1)=4294967296 ^ (i+1)*(4294967296 ^ (t / 32 - (i+1))*(2 ^ (t%32)*(2*c+1))):=by rw[uy t,<- aah,<- aal,show i+1+(t / 32 - (i+1))=t / 32 by omega,aah]
 rw[e,aaj,aah,aaJ _ (aY i),adl]
theorem yL {N:Nat} {t c:Nat} (g:Bool) (hN:fo N (ai (2 ^ t*(2*c+1)))) (ht:t<140737488355328) (k:Kz1):sQ1 N g (ai (2 ^ t*(2*c+1))) k=k (t:Int):=by
 (unfold sQ1; rw[ac]; unfold GQ1)
 obtain⟨n1,n2⟩:=hN;have hd:=KB (t:=t) (c:=c);have hgd:=λi=>lZ i (2 ^ t*(2*c+1))
 have hlt:2 ^ t*(2*c+1) / 4294967296 ^ (t / 32)%4294967296<4294967296:=aao _ (by decide);have hwl:t / 32<(ai (2 ^ t*(2*c+1))).length:=by
  refine GO λh=>?_
  rw[h,Nat.zero_mod]at hd;have:=ab8 (aam (t%32)) (show 0<2*(c%2 ^ (31 - t%32))+1 by omega);omega
 have hbel:=λi=>EX (t:=t) (c:=c) (i:=i)
 generalize ai (2 ^ t*(2*c+1))=l at *;refine aH (λi=>(i:Int)) (t / 32) rfl (by omega) (λi hi K=>?_) (λK=>?_)
 ·simp only[Hl,aac];have hz:(l.getD i 0 != 0)=false:=by rw[hgd,hbel i hi]; rfl
  rw[Z7 (by omega:(i:Int)<((l.length:Nat):Int)),Z_,aa Z6,hz,Z9,aa Z5];rfl
 ·simp only[Hl,aac];have hp:=ab8 (aam (t%32)) (show 0<2*(c%2 ^ (31 - t%32))+1 by omega);have hz:(l.getD (t / 32) 0 != 0)=true:=by rw[hgd,hd]; simp only[bne_iff_ne,ne_eq]; omega
  rw[Z7 (by omega:((t / 32:Nat):Int)<((l.length:Nat):Int)),Z_,aa Z6,hz,Z_,aa Z5,aa Z6,hgd,hd,Lh N (by rw[<- hd]; exact hlt),aa Z5];congr 1;rw[am]; omega
def krR (z:Int) (d:Nat) (k:Kx5):Bool:=k (decide (z<0)) (ai z.natAbs) false (ai d)
def kqR (x:Rat) (k:Kx5):Bool:=krR x.num x.den k
theorem K8 (g:Bool) (n d:Nat) (k:Kx5):k (sg g n) (ai n) false (ai d)=krR (ba g n) d k:=rM g n (λa b=>k a b false (ai d))
theorem pz {B n:Nat} (hB:B<=2000000000100) (h:aX B n):(ai n).length<=62500000006:=by have:=xP h; omega
theorem pe {N B n:Nat} (hF:Fuel N) (hB:B<=2000000000100) (h:aX B n):fo N (ai n):=by have h1:=pz hB h;have:=hF.lt;exact⟨by omega,by omega⟩
theorem FD (g:Bool) (n d:Nat) (h0:0<d):(mkRat (ba g n) d).num=ba g (n / Nat.gcd n d)/\(mkRat (ba g n) d).den=d / Nat.gcd n d:=by
 have e:(ba g n).natAbs=n:=by unfold ba; cases g <;> simp
 have hg:0<Nat.gcd n d:=abe _ h0;constructor
 ·rw[ado,if_neg (by omega),e,abo];have hh:((Nat.gcd n d:Nat):Int) ≠ 0:=by omega
  have e2:ba g n=((Nat.gcd n d:Nat):Int)*ba g (n / Nat.gcd n d):=by
   have hnn:n=Nat.gcd n d*(n / Nat.gcd n d):=(Nat.mul_div_cancel' (aa1 n d)).symm;have hc:(n:Int)=((Nat.gcd n d:Nat):Int)*((n / Nat.gcd n d:Nat):Int):=by rw[<- aat,<- hnn]
   unfold ba;cases g
   ·simpa using hc
   ·simp only[abI]; rw[hc,ac8]
  rw[e2,acb _ hh]
 ·rw[adp,if_neg (by omega),e,abo]
theorem Fi (g:Bool) (n m:Nat):ba g (n*m)=ba g n*(m:Int):=by
 unfold ba; cases g
 ·simp
 ·simp[adn]
theorem Se {t c u e:Nat} (h:2 ^ (u - min t u)*(2*e+1)<2 ^ (u - min t u+1)):Nat.gcd (2 ^ (t - min t u)*(2*c+1)) (2 ^ (u - min t u)*(2*e+1))=1:=by
 have he:e=0:=by
  rcases abv e with h1 | h1
  ·exact h1
  ·have:2 ^ (u - min t u)*2<=2 ^ (u - min t u)*(2*e+1):=aae _ (by omega);rw[aaj]at h; omega
 subst he;rw[abt,aay,abX];rcases Nat.le_total t u with h1 | h1
 ·rw[abm h1,aaH,abV,abD];refine Nat.Coprime.pow_right _ ?_;show Nat.gcd (2*c+1) 2=1;rw[abo,adc];have:(2*c+1)%2=1:=by omega
  rw[this]; rfl
 ·rw[Nat.min_eq_right h1,aaH,abV,Nat.gcd_one_right]
theorem Es {t m c:Nat} (h:m<=t):2 ^ t*(2*c+1) / 2 ^ m=2 ^ (t - m)*(2*c+1):=by
 have:2 ^ t=2 ^ m*2 ^ (t - m):=by rw[<- aal]; congr 1; omega
 rw[this,aah,aaJ _ (aam m)]
theorem Hn {B t c:Nat} (h:aX B (2 ^ t*(2*c+1))):t<B:=by
 unfold aX at h;have h1:2 ^ t*1<=2 ^ t*(2*c+1):=aae _ (by omega);have h2:2 ^ t<2 ^ B:=by omega
 exact(Nat.pow_lt_pow_iff_right (by decide)).1 h2
theorem Ri {t c:Nat}:bl (2 ^ t*(2*c+1))=t+1↔2 ^ t*(2*c+1)<2 ^ (t+1):=by
 have hp:=aam t;have h0:2 ^ t*(2*c+1) ≠ 0:=by have:=ab8 hp (show 0<2*c+1 by omega); omega
 constructor
 ·intro h; have:=vW (2 ^ t*(2*c+1)); rwa [h]at this
 ·intro h;have h1:=tZ h;have h2:=vW (2 ^ t*(2*c+1));have h3:2 ^ t*1<=2 ^ t*(2*c+1):=aae _ (by omega);have h4:2 ^ t<2 ^ bl (2 ^ t*(2*c+1)):=by omega
  have:=(Nat.pow_lt_pow_iff_right (by decide:1<2)).1 h4;omega
theorem fU {N B n:Nat} (hF:Fuel N) (hB:B<=2000000000100) (h:aX B n) (k:Kz5):kz N (ai n) k=k (ai n):=by have h1:=pz hB h;have:=hF.lt;rw[GJ _ (bh n) (by omega) (by omega),aM]
theorem AG {N B:Nat} (hF:Fuel N) (hB:B<=2000000000100) (g:Bool) {n d:Nat} (hn:aX B n) (hd:aX B d) (hn0:n ≠ 0) (hd0:d ≠ 0) (J:List Int->List Int->Bool) (k:Kx5)
  (hJ:∀ a b:Nat,aX B a->aX B b->J (ai a) (ai b)=k (sg g a) (ai a) false (ai b)) :
  (sQ1 N false (ai n) (λ(nr:Int)=>(sQ1 N false (ai d) (λ(UY:Int)=>
   (zW N (ai n) (cond (decide (UY<nr)) UY nr) (λ(U7:List Int)=>(zW N (ai d) (cond (decide (UY<nr)) UY nr) (λ(U6:List Int)=>(sQ1 N false U6 (λ(U4:Int)=>((af .i64 U4)&&(I2 N false U6 (λ(Vg:Int)=>((af .i64 (Vg - 1))&&(cond (U4 != (Vg - 1)) (D3 N U7 U6 (λ(s6:List Int)=>(pE N (λ(s7:List Int)=>(D_ N s6 s7 (λ(Vo:Int)=>(cond (Vo != 0) (nQ N U7 s6 (λ(s8:List Int) (s9:List Int)=>(nQ N U6 s6 (λ(s10:List Int) (s11:List Int)=>(J s8 s10))))) (J U7 U6)))))))) (J U7 U6))))))))))))))))
   = kqR (mkRat (ba g n) d) k:=by
 have hl:=hF.lt;have hbig:=hF.big;obtain⟨t,c,hnt⟩:=y_ n hn0;obtain⟨u,e,hdu⟩:=y_ d hd0;have htB:t<B:=Hn (by rw[<- hnt]; exact hn);have huB:u<B:=Hn (by rw[<- hdu]; exact hd);have sn:=pe hF hB hn;have sd:=pe hF hB hd;have ln:=pz hB hn;have ld:=pz hB hd;have z1:=λkk=>yL (N:=N) (t:=t) (c:=c) false (by rw[<- hnt]; exact sn) (by omega) kk
 have z2:=λkk=>yL (N:=N) (t:=u) (c:=e) false (by rw[<- hdu]; exact sd) (by omega) kk
 rw[<- hnt]at z1;rw[<- hdu]at z2;rw[z1,z2];obtain⟨m,hm⟩:∃ m,m=min t u:=⟨_,rfl⟩
 have em:cond (decide ((u:Int)<(t:Int))) (u:Int) (t:Int)=(m:Int):=by
  by_cases h:u<t
  ·rw[Z7 (by omega),Z_,hm,Nat.min_eq_right (by omega)]
  ·rw[Z8 (by omega),Z9,hm,abm (by omega)]
 rw[em,oK (by omega) ⟨by omega,by omega⟩,oK (by omega) ⟨by omega,by omega⟩];have ha:n / 2 ^ m=2 ^ (t - m)*(2*c+1):=by rw[hnt]; exact Es (by rw[hm]; exact Nat.min_le_left _ _)
 have hb:d / 2 ^ m=2 ^ (u - m)*(2*e+1):=by rw[hdu]; exact Es (by rw[hm]; exact ads _ _)
 have hbn:aX B (n / 2 ^ m):=bS hn;have hbd:aX B (d / 2 ^ m):=bS hd;have hmk:mkRat (ba g n) d=mkRat (ba g (n / 2 ^ m)) (d / 2 ^ m):=by
  have e1:n=n / 2 ^ m*2 ^ m:=by
   rw[ha,hnt,adh,<- aal];congr 2; have:m<=t:=by rw[hm]; exact Nat.min_le_left _ _
   omega
  have e2:d=d / 2 ^ m*2 ^ m:=by
   rw[hb,hdu,adh,<- aal];congr 2; have:m<=u:=by rw[hm]; exact ads _ _
   omega
  conv=>lhs; rw[e1,e2,Fi]
  rw[Rat.mkRat_mul_right (by have:=aam m; omega)]
 rw[hmk];obtain⟨a,hae⟩:∃ a,a=n / 2 ^ m:=⟨_,rfl⟩
 obtain⟨b,hbe⟩:∃ b,b=d / 2 ^ m:=⟨_,rfl⟩
 rw[<- hae]at ha hbn ⊢;rw[<- hbe]at hb hbd ⊢;have hb0:0<b:=by rw[hb]; exact ab8 (aam _) (by omega)
 have z3:=λkk=>yL (N:=N) (t:=u - m) (c:=e) false (by rw[<- hb]; exact pe hF hB hbd) (by omega) kk
 rw[<- hb]at z3;have hblb:bl b<=B:=tZ hbd;have hbl0:0<bl b:=(Kh (by omega)).1;rw[z3,aa Z5,yE false b (pe hF hB hbd),aa Z5];obtain⟨i1,i2⟩:=FD g a b hb0;unfold kqR;rw[i1,i2];have fin1:Nat.gcd a b=1->J (ai a) (ai b)=krR (ba g (a / Nat.gcd a b)) (b / Nat.gcd a b) k:=by intro h;rw[hJ a b hbn hbd,K8 _ _ _ k,h,abY,abY]
 by_cases hp:bl b=u - m+1
 ·have:(((u - m:Nat):Int) != (bl b:Int) - 1)=false:=by simp; omega
  rw[this,Z9];refine fin1 ?_;rw[ha,hb,hm];refine Se ?_;rw[<- hm];rw[hb]at hp;exact Ri.1 hp
 ·have:(((u - m:Nat):Int) != (bl b:Int) - 1)=true:=by simp; omega
  have la:=pz hB hbn;have lb:=pz hB hbd;have hgp:0<Nat.gcd a b:=abe _ hb0;have hgb:aX B (Nat.gcd a b):=kH hbd (ace _ hb0);have lg:=pz hB hgb;have e1:ai 1=[1]:=rm (by decide) (by decide);rw[this,Z_,Fq hbig (hF.sum (by omega) hbn hbd) (by omega) (by omega)];unfold pE Ge;dsimp only;rw[<- e1,jr _ 1 ⟨by omega,by omega⟩ ⟨by rw[e1]; simp; omega,by rw[e1]; simp⟩];by_cases hc:Nat.gcd a b=1
  ·have:(dx (Nat.gcd a b) 1 != 0)=false:=by rw[hc]; rfl
   rw[this,Z9];exact fin1 hc
  ·have:(dx (Nat.gcd a b) 1 != 0)=true:=by unfold dx; rw[if_neg (by omega),if_neg hc]; rfl
   rw[this,Z_,rF hbig hgp (by omega) (by omega),rF hbig hgp (by omega) (by omega),hJ _ _ (bS hbn) (bS hbd),K8 _ _ _ k]
theorem CK {α:Type} (c:Bool) (f:α->Bool) (a b:α):cond c (f a) (f b)=f (cond c a b):=by cases c <;> rfl
theorem rE {N B:Nat} (hF:Fuel N) (hB:B<=2000000000100) (g:Bool) {n d:Nat} (hn:aX B n) (hd:aX B d) (hd0:d ≠ 0) (b1 b2:Bool) (k:Kx5) :
  IY N g (ai n) (ai d) b1 b2 k=kqR (mkRat (ba g n) d) k:=by
 have hl:=hF.lt;have hJ:∀ a b:Nat,aX B a->aX B b -> ∀ x y,Hx N g x y b1 b2 (ai a) (ai b) k=k (sg g a) (ai a) false (ai b):=by
  intro a b ha hb x y;unfold Hx D0 JI;rw[fU hF hB ha];unfold D8 JZ;dsimp only;rw[fU hF hB hb,fU hF hB hb];cases g
  ·rfl
  ·simp only[lQ,sg,abd]; rfl
 (unfold IY; rw[ac]; unfold PA)
 by_cases h0:n=0
 ·subst h0;rw[bb];show D0 N false [] b1 b2 _=_;have e0:ba g 0=0:=by unfold ba; cases g <;> rfl
  unfold D0 JI;rw[<- bb,fU hF (B:=10) (by decide) (by unfold aX; decide)];unfold pE Ge D8 JZ;have e1:ai 1=[1]:=rm (by decide) (by decide);dsimp only;rw[<- e1,fU hF (B:=10) (by decide) (by unfold aX; decide),fU hF (B:=10) (by decide) (by unfold aX; decide),e0,Rat.zero_mkRat];rfl
 ·have e0:((((ai n).length:Nat):Int)==0)=false:=by rw[ci h0]; simp; omega
  rw[e0,Z9];have:=AG hF hB g hn hd h0 hd0 (λx y=>Hx N g (ai n) (ai d) b1 b2 x y k) k (λa b ha hb=>hJ a b ha hb _ _);rw[<- this];congr 1; funext nr; congr 1; funext UY;exact CK (decide (UY<nr)) (λz=>J3 N g (ai n) (ai d) b1 b2 z k) UY nr
theorem Ft {N B:Nat} (hF:Fuel N) (hB:B<=2000000000100) (g:Bool) {n d:Nat} (hn:aX B n) (hd:aX B d) (hd0:d ≠ 0) (b1 b2:Bool) (l1 l2:List Int) (k:Kx5) :
  RU N g (ai n) (ai d) b1 l1 b2 l2 k=kqR (mkRat (ba g n) d) k:=by
 have hl:=hF.lt;have hJ:∀ a b:Nat,aX B a->aX B b -> ∀ x y,Hy N g x y b1 l1 b2 l2 (ai a) (ai b) k=k (sg g a) (ai a) false (ai b):=by
  intro a b ha hb x y;unfold Hy DW Jq;rw[fU hF hB ha];unfold D8 JZ;dsimp only;rw[fU hF hB hb,fU hF hB hb];cases g
  ·rfl
  ·simp only[lQ,sg,abd]; rfl
 (unfold RU; rw[ac]; unfold PV)
 by_cases h0:n=0
 ·subst h0;rw[bb];show DW N false [] b1 l1 b2 l2 _=_;have e0:ba g 0=0:=by unfold ba; cases g <;> rfl
  unfold DW Jq;rw[<- bb,fU hF (B:=10) (by decide) (by unfold aX; decide)];unfold pE Ge D8 JZ;have e1:ai 1=[1]:=rm (by decide) (by decide);dsimp only;rw[<- e1,fU hF (B:=10) (by decide) (by unfold aX; decide),fU hF (B:=10) (by decide) (by unfold aX; decide),e0,Rat.zero_mkRat];rfl
 ·have e0:((((ai n).length:Nat):Int)==0)=false:=by rw[ci h0]; simp; omega
  rw[e0,Z9];have:=AG hF hB g hn hd h0 hd0 (λx y=>Hy N g (ai n) (ai d) b1 l1 b2 l2 x y k) k (λa b ha hb=>hJ a b ha hb _ _);rw[<- this];congr 1; funext nr; congr 1; funext UY;exact CK (decide (UY<nr)) (λz=>J4 N g (ai n) (ai d) b1 l1 b2 l2 z k) UY nr
theorem Fo {N:Nat} (a:Bool) (l:List Int) (b:Bool) {d:Nat} (hd:d ≠ 0) (k:Kz5):Mb N a l b (ai d) k=k (ai d):=by
 (unfold Mb; rw[ac]; unfold JD)
 have:((((ai d).length:Nat):Int)==0)=false:=by rw[ci hd]; simp; omega
 rw[this]; rfl
theorem fE {N:Nat} (a:Bool) (l:List Int) (b:Bool) {d:Nat} (hd:d ≠ 0) (k:Kz5):sQ5 N a l b (ai d) k=k (ai d):=by
 (unfold sQ5; rw[ac]; unfold GQ5)
 have:((((ai d).length:Nat):Int)==0)=false:=by rw[ci hd]; simp; omega
 rw[this]; rfl
theorem mq {N B:Nat} (hF:Fuel N) (hB:B<=2000000000100) {a b:Nat} (ha:aX B a) (hb:aX B b) (k:Kz5):pC N (ai a) (ai b) k=k (ai (a*b)):=by have h1:=pz hB ha;have h2:=pz hB hb;have:=hF.lt;rw[vt _ _ (bh _) (bh _) (by omega) (by omega),aM,aM]
theorem Lp {N B:Nat} (hF:Fuel N) (hB:B<=1000000000000) {x y:Rat} (hx:Bq B x) (hy:Bq B y) (b1 b2:Bool) (k:Kx5) :
  RJ N b1 b2 (decide (x.num<0)) (ai x.num.natAbs) false (ai x.den) (decide (y.num<0)) (ai y.num.natAbs) false (ai y.den) k=kqR (x*y) k:=by
 (unfold RJ; rw[ac]; unfold Px)
 have hB2:B<=2000000000100:=by omega
 rw[mq hF hB2 hx.1 hy.1,fE _ _ _ x.den_nz,fE _ _ _ y.den_nz,mq hF hB2 hx.2 hy.2,
  rE hF (B:=B+B) (by omega) _ (dw hx.1 hy.1) (dw hx.2 hy.2) (acH x.den_nz y.den_nz),yA,il,il,<- Rat.mul_def']
theorem Lt {N B:Nat} (hF:Fuel N) (hB:B<=1000000000000) {x y:Rat} (hx:Bq B x) (hy:Bq B y) (h0:y.num ≠ 0) (b1 b2:Bool) (k:Kx5) :
  RK N b1 b2 (decide (x.num<0)) (ai x.num.natAbs) false (ai x.den) (decide (y.num<0)) (ai y.num.natAbs) false (ai y.den) k=kqR (x / y) k:=by
 (unfold RK; rw[ac]; unfold Py)
 have hB2:B<=2000000000100:=by omega
 obtain⟨i1,i2,i3⟩:=yx h0;rw[fE _ _ _ y.den_nz,mq hF hB2 hx.1 hy.2,fE _ _ _ x.den_nz,mq hF hB2 hx.2 hy.1,
  rE hF (B:=B+B) (by omega) _ (dw hx.1 hy.2) (dw hx.2 hy.1) (acH x.den_nz (by omega)),yA,il,Rat.div_def,Rat.mul_def',i2]
 have:ba (decide (y.num<0)) y.den=(y⁻¹).num:=by rw[<- i3,<- i1,il]
 rw[this]
theorem LA {N B:Nat} (hF:Fuel N) (hB:B<=1000000000000) {x y:Rat} (hx:Bq B x) (hy:Bq B y) (k:Kx5) :
  RL N (decide (x.num<0)) (ai x.num.natAbs) false (ai x.den) (decide (y.num<0)) (ai y.num.natAbs) false (ai y.den) k=kqR (x - y) k:=by
 (unfold RL; rw[ac]; unfold PD; unfold Tg; rw[ac]; unfold P1)
 have hB2:B<=2000000000100:=by omega
 have ha:=dw hx.1 hy.2;have hb:=dw hy.1 hx.2;have hB3:B+B+1<=2000000000100:=by omega
 rw[fE _ _ _ y.den_nz,mq hF hB2 hx.1 hy.2,fE _ _ _ x.den_nz,mq hF hB2 hy.1 hx.2];dsimp only;rw[fE _ _ _ x.den_nz,fE _ _ _ y.den_nz,mq hF hB2 hx.2 hy.2,
  Ih false _ _ _ _ (pe hF (by omega) ha) (pe hF (by omega) hb) (pe hF hB3 (tW ha hb)),qp,qp]
 unfold rV;dsimp only;have hz:aX (B+B+1) (x.num*(y.den:Int) - y.num*(x.den:Int)).natAbs:=by
  refine kH (tW ha hb) ?_;have e1:(x.num*(y.den:Int)).natAbs=x.num.natAbs*y.den:=by rw[ab3,aa4]
  have e2:(y.num*(x.den:Int)).natAbs=y.num.natAbs*x.den:=by rw[ab3,aa4]
  omega
 rw[Ft hF hB3 _ hz (bL (dw hx.2 hy.2) (by omega)) (acH x.den_nz y.den_nz),il,<- Rat.sub_def']
theorem vq {N:Nat} (x:Rat) (k:Kz1):DZ N (decide (x.num<0)) (ai x.num.natAbs) false (ai x.den) k=k (uD x.num):=by
 (unfold DZ OJ; unfold AZ; rw[ac]; unfold uR uD)
 by_cases h0:x.num=0
 ·rw[h0,if_pos rfl];have:ai (0:Int).natAbs=[]:=bb;rw[this]; rfl
 ·have:((((ai x.num.natAbs).length:Nat):Int)==0)=false:=by rw[ci (by omega)]; simp; omega
  rw[this,Z9,if_neg h0];by_cases h:x.num<0
  ·rw[Z7 h,Z_,if_pos h]
  ·rw[Z8 h,Z9,if_neg h]
theorem wa (n:Nat):bP (ai n) (ai n).length=(ai n).length:=CN n
theorem Le {N B:Nat} (hF:Fuel N) (hB:B<=2000000000100) {x:Rat} (hx:Bq B x) (b1 b2:Bool) (l1 l2:List Int) (k:Kx5) :
  R4 N (decide (x.num<0)) (ai x.num.natAbs) false (ai x.den) b1 l1 b2 l2 k=kqR x k:=by
 (unfold R4; rw[ac]; unfold P7)
 have h1:=pz hB hx.1;have h2:=pz hB hx.2;have hl:=hF.lt;rw[aaZ,aa (Z7 (by omega)),Fo _ _ _ x.den_nz,aaZ,aa (Z7 (by omega))];unfold pF pn Pc OM;rw[kp _ (by omega) (by omega),wa];dsimp only;rw[kp _ (by omega) (by omega),kp _ (by omega) (by omega),wa];have e1:(List.take (ai x.num.natAbs).length (List.drop 0 (ai x.num.natAbs)))=ai x.num.natAbs:=by simp
 have e2:(List.take (ai x.den).length (List.drop 0 (ai x.den)))=ai x.den:=by simp
 have e3:decide (0+(ai x.num.natAbs).length<=(ai x.num.natAbs).length)=true:=Z7 (by omega);have e4:decide (0+(ai x.den).length<=(ai x.den).length)=true:=Z7 (by omega);rw[e1,e2,e3,e4];unfold kqR krR;by_cases h:x.num<0
 ·have:decide (((((ai x.num.natAbs).length:Nat):Nat):Int)>0)=true:=by rw[lQ]; exact Z7 (by omega)
  rw[Z7 h,this]; rfl
 ·rw[Z8 h]; rfl
end Go.Proofs.YtdinakfmablagaaGreatDoor
end
