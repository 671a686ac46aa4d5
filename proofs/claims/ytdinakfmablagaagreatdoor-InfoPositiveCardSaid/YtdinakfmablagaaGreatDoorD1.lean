/- Laws in plain Lean. Conditions: none. -/
import Derived.Test.YtdinakfmablagaaGreatDoorC2
set_option linter.unusedVariables false
section
namespace Go.Proofs.YtdinakfmablagaaGreatDoor
open Go Go.Mach
theorem nw:∀(i V:Nat),(aj V).getD i 0=((V / 4294967296 ^ i%4294967296:Nat):Int)
 | i,V=>by
  by_cases h:V=0
  ·subst h; rw[be]; simp
  ·rw[cI h];cases i with
   | zero=>simp
   | succ i=>
    show(aj (V / 4294967296)).getD i 0=_;rw[nw i (V / 4294967296),afv,afn,<- afr]
theorem JH {V w:Nat} (h:V / 4294967296 ^ w ≠ 0):w<(aj V).length:=by
 rcases agb w (aj V).length with h1 | h1
 ·exact h1
 ·exfalso;have h2:=fz (bv V);rw[aM]at h2;exact h (afO (afD h2 (afz (by decide) h1)))
theorem t_ {n:Nat} (h0:n ≠ 0) (h:n<4294967296):aj n=[(n:Int)]:=by rw[cI h0,afO h,be,afu h]
theorem Gx (Q n m:Nat) (h:m<n):(List.replicate (m+1) (0:Int)++(dl Q n).drop (m+1)).set m ((Q / 4294967296 ^ m%4294967296:Nat):Int)=List.replicate m 0++(dl Q n).drop m:=by rw[agY,afC,List.singleton_append,bu _ _ _ _ _ (by simp),dr (n:=m) (by rw[al]; exact h),ua Q h]
theorem Bz {A d:Nat} (hd:0<d):(A / 4294967296%d*4294967296+A%4294967296)%d=A%d/\(A / 4294967296%d*4294967296+A%4294967296) / d=A / d%4294967296:=by
 have h1:=af_ A 4294967296;have h2:=af_ (A / 4294967296) d;have h3:=afA (A / 4294967296) hd;have h4:A%4294967296<4294967296:=afA _ (by decide);obtain⟨a,ha⟩:∃ a,a=A / 4294967296:=⟨_,rfl⟩
 obtain⟨e,he⟩:∃ e,e=A%4294967296:=⟨_,rfl⟩
 rw[<- ha]at h1 h2 h3 ⊢;rw[<- he]at h1 h4 ⊢;obtain⟨c,hc⟩:∃ c,c=a / d:=⟨_,rfl⟩
 obtain⟨r,hr⟩:∃ r,r=a%d:=⟨_,rfl⟩
 rw[<- hc,<- hr]at h2;rw[<- hr]at h3 ⊢;have h5:A=d*(c*4294967296)+(r*4294967296+e):=by rw[<- h1,<- h2,<- aft,afB,afn 4294967296,afn 4294967296]; omega
 constructor
 ·rw[h5,ahy]
 ·rw[h5,aij hd,afn c,ahy];refine(afu ?_).symm;rw[afs hd];have:=afm 4294967296 h3;rw[agS]at this;rw[afn _ d,afn d];rw[afn d]at this;omega
theorem ja (x:Nat):x<4294967296 ^ (aj x).length:=by have:=fz (bv x); rwa [aM]at this
theorem XP (c:List Int) (m:Nat):aG (c.take (m+3))=aG (c.take m)+4294967296 ^ m*((c.getD m 0).toNat+4294967296*((c.getD (m+2) 0).toNat*4294967296+(c.getD (m+1) 0).toNat)):=by rw[show m+3=m+2+1 by omega,aT,show m+2=m+1+1 by omega,aT,aT];simp only[afv];generalize 4294967296 ^ m=P;grind
theorem XO (c:List Int) (m:Nat):aG (c.take (m+2))=aG (c.take m)+4294967296 ^ m*((c.getD m 0).toNat+4294967296*(c.getD (m+1) 0).toNat):=by rw[show m+2=m+1+1 by omega,aT,aT];simp only[afv];generalize 4294967296 ^ m=P;grind
theorem Hc {b:List Int} {o i:Nat} (D:Nat) (h:o+i<=b.length):(b.take o++(dl D i++b.drop (o+i))).length=b.length:=by simp[al]; omega
theorem Hb {b:List Int} {o i:Nat} (D:Nat) (h:o+i<b.length):(b.take o++(dl D i++b.drop (o+i))).getD (o+i) 0=b.getD (o+i) 0:=by rw[<- afC,dr h,ci (by simp[al]; omega)]
theorem BX {b:List Int} {o i:Nat} (D:Nat) (h:o+i<b.length):(b.take o++(dl D i++b.drop (o+i))).set (o+i) ((D / 4294967296 ^ i%4294967296:Nat):Int)=b.take o++(dl D (i+1)++b.drop (o+(i+1))):=by rw[<- afC,dr h,bu _ _ _ _ _ (by simp[al]; omega),dl];simp[afY]
theorem G_ {b:List Int} {o i n:Nat} (D E:Nat) (hi:i<=n) (h:o+n<=b.length):(b.take o++(dl E i++((dl D n).drop i++b.drop (o+n)))).length=b.length:=by simp[al]; omega
theorem G9 {b:List Int} {o i n:Nat} (D E:Nat) (hi:i<n) (h:o+n<=b.length):(b.take o++(dl E i++((dl D n).drop i++b.drop (o+n)))).getD (o+i) 0=((D / 4294967296 ^ i%4294967296:Nat):Int):=by rw[<- afC,dr (n:=i) (by rw[al]; exact hi),ahb,ci (by simp[al]; omega),ua D hi]
theorem Ha {b:List Int} {o i n:Nat} (D E:Nat) (hi:i<n) (h:o+n<=b.length):(b.take o++(dl E i++((dl D n).drop i++b.drop (o+n)))).set (o+i) ((E / 4294967296 ^ i%4294967296:Nat):Int)=b.take o++(dl E (i+1)++((dl D n).drop (i+1)++b.drop (o+n))):=by rw[<- afC,dr (n:=i) (by rw[al]; exact hi),ahb,bu _ _ _ _ _ (by simp[al]; omega),dl];simp
theorem Jp {m:Nat} (S X:Nat):∀ n,n<=m->dl (S+4294967296 ^ m*X) n=dl S n
 | 0,_=>rfl
 | n+1,h=>by rw[dl,dl,Jp S X n (by omega)];congr 3;refine mh (R:=4294967296 ^ (m - (n+1))*X) ?_;rw[<- aft,<- afx,show n+1+(m - (n+1))=m by omega]
theorem BP {w:List Int} {n i U Q:Nat} (hw:InW w) (hl:w.length=n+1) (hU:U=aG w) (hi:i<=n) (hQ:Q<4294967296 ^ (n+1)) :
  (((w.getD i 0).toNat+4294967296 - Q / 4294967296 ^ i%4294967296 - (if aG (w.take i)<Q%4294967296 ^ i then 1 else 0))%4294967296=(U+4294967296 ^ (n+1) - Q) / 4294967296 ^ i%4294967296)
  /\ (if (w.getD i 0).toNat<Q / 4294967296 ^ i%4294967296+(if aG (w.take i)<Q%4294967296 ^ i then 1 else 0)then 1 else 0)=(if aG (w.take (i+1))<Q%4294967296 ^ (i+1)then 1 else(0:Nat)):=by
 have hx:=hw.at (i:=i);have hA:=aT (m:=w) i;have hAl:=bB hw i;have hp:=aY i;have hBl:=afA Q hp;have hPs:4294967296 ^ (i+1)=4294967296 ^ i*4294967296:=afv ..;have hmm:Q%4294967296 ^ (i+1)=Q%4294967296 ^ i+4294967296 ^ i*(Q / 4294967296 ^ i%4294967296):=by rw[hPs,aid]
 have hyl:Q / 4294967296 ^ i%4294967296<4294967296:=afA _ (by decide);constructor
 ·obtain⟨R1,h1⟩:=cu w (i+1);have hW:4294967296 ^ (n+1)=4294967296 ^ i*4294967296*4294967296 ^ (n - i):=by rw[<- hPs,<- afx,show i+1+(n - i)=n+1 by omega]
  have hq:=Fo (D:=U+4294967296 ^ (n+1) - Q) (a:=U+4294967296 ^ (n+1)) (b:=Q) (x:=(w.getD i 0).toNat) (y:=Q / 4294967296 ^ i%4294967296) (R1:=R1+4294967296 ^ (n - i)) (R2:=Q / (4294967296 ^ i*4294967296)) hAl hBl rfl
   (by rw[hU,h1,hA,hW,hPs,afB]; omega)
   (by rw[<- hmm,hPs]; exact(ahx _ _).symm)
   (by omega)
  generalize (U+4294967296 ^ (n+1) - Q) / 4294967296 ^ i=Z at *;generalize Q / 4294967296 ^ i%4294967296=y at *;generalize (w.getD i 0).toNat=x at *;generalize ((R1+4294967296 ^ (n - i):Nat):Int) - ((Q / (4294967296 ^ i*4294967296):Nat):Int)=RR at *;split at hq <;> rename_i hh <;> simp only[hh,agU,afS] <;> omega
 ·rw[hA,hmm];exact(oB _ _ _ _ _ hAl hBl).symm
theorem z9 {D V c v i:Nat} (hc:c=(D%4294967296 ^ i+V) / 4294967296 ^ i) :
  (D%4294967296 ^ (i+1)+(V+4294967296 ^ i*v)) / 4294967296 ^ (i+1)=(D / 4294967296 ^ i%4294967296+v+c) / 4294967296 /\
  ∀ R,(D+(V+4294967296 ^ i*v+4294967296 ^ (i+1)*R)) / 4294967296 ^ i%4294967296=(D / 4294967296 ^ i%4294967296+v+c)%4294967296:=by
 have hp:=aY i;have hPs:4294967296 ^ (i+1)=4294967296 ^ i*4294967296:=afv ..;have hmm:D%4294967296 ^ (i+1)=D%4294967296 ^ i+4294967296 ^ i*(D / 4294967296 ^ i%4294967296):=by rw[hPs,aid]
 have e:D%4294967296 ^ (i+1)+(V+4294967296 ^ i*v)=(D%4294967296 ^ i+V)+4294967296 ^ i*(D / 4294967296 ^ i%4294967296+v):=by rw[hmm,afB]; omega
 have e2:(D%4294967296 ^ (i+1)+(V+4294967296 ^ i*v)) / 4294967296 ^ i=D / 4294967296 ^ i%4294967296+v+c:=by rw[e,eO,<- hc]; omega
 constructor
 ·rw[hPs,<- afr,<- hPs,e2]
 ·intro R;have e3:D+(V+4294967296 ^ i*v+4294967296 ^ (i+1)*R)=(D%4294967296 ^ (i+1)+(V+4294967296 ^ i*v))+4294967296 ^ (i+1)*(D / 4294967296 ^ (i+1)+R):=by have:=ahx D (4294967296 ^ (i+1));rw[afB]; omega
  rw[mh e3,e2]
theorem EQ {D V c i:Nat} (hc:c=(D%4294967296 ^ i+V) / 4294967296 ^ i) :
  (D%4294967296 ^ (i+1)+V) / 4294967296 ^ (i+1)=(D / 4294967296 ^ i%4294967296+0+c) / 4294967296 /\
  (D+V) / 4294967296 ^ i%4294967296=(D / 4294967296 ^ i%4294967296+0+c)%4294967296:=by
 obtain⟨a1,a2⟩:=z9 (v:=0) hc;have a3:=a2 0;rw[agF,afR V]at a1;rw[agF,agF,afR V]at a3;exact⟨a1,a3⟩
theorem QH (n:Nat):dl n (aj n).length=aj n:=by refine List.ext_getElem (al n _) (λi h1 h2=>?_);have e1:=ua n h2;have e2:=nw i n;rw[List.getD_eq_getElem?_getD,List.getElem?_eq_getElem h1,af8]at e1;rw[List.getD_eq_getElem?_getD,List.getElem?_eq_getElem h2,af8]at e2;rw[e1,e2]
theorem Ft {X L:Nat} (hX:X<4294967296 ^ L):∀ k,dl X (L+k)=dl X L++List.replicate k 0
 | 0=>by simp
 | k+1=>by rw[<- afY,dl,Ft hX k,afO (afD hX (afz (by decide) (ag1 _ _))),agY,afC];rfl
theorem pN (S:Nat):∀{m n:Nat},n<=m->(dl S m).take n=dl S n
 | 0,n,h=>by
  have:n=0:=by omega
  subst this; rfl
 | m+1,n,h=>by
  by_cases e:n=m+1
  ·subst e; rw[afH (by rw[al]; omega)]
  ·rw[dl,agn (by rw[al]; omega),pN S (by omega)]
theorem CA (S a:Nat):∀ c,dl S (a+c)=dl S a++dl (S / 4294967296 ^ a) c
 | 0=>by simp[dl]
 | c+1=>by rw[<- afY,dl,CA S a c,dl,afr,<- afx,afC]
theorem Aj {V m:Nat} (h:V<4294967296 ^ m):bZ (dl V m) m=(aj V).length:=by have h1:=tH (jk V m);rw[al,qS,afu h]at h1;rw[<- h1,af0,al];have:=jX (dl V m) m;omega
theorem Ro {V m:Nat} (h1:4294967296 ^ m<=V) (h2:V<4294967296 ^ (m+1)):(aj V).length=m+1:=by have a:=cU (m+1) V h2;have b:=JH (V:=V) (w:=m) (by have:=ahL h1 (aY m); omega);omega
theorem Rz {r x:Nat} (hr:r<4294967296) (hx:x<4294967296):aD .or .u64 (IntKind.wrap .u64 ((r:Int)*2 ^ 32)) (IntKind.wrap .u64 (x:Int))=((r*4294967296+x:Nat):Int):=by
 have p32:(2:Nat) ^ 32=4294967296:=by decide
 have q32:(2:Int) ^ 32=4294967296:=by decide
 have e1:IntKind.wrap .u64 ((r:Int)*2 ^ 32)=((2 ^ 32*r:Nat):Int):=by rw[q32,p32,am]; omega
 have e2:IntKind.wrap .u64 (x:Int)=(x:Int):=by rw[am]; omega
 rw[e1,e2,uO,cP _ _ 32 (by omega) (by omega),p32];congr 1; omega
theorem Ik {N:Nat} {x d:Nat} (hd0:0<d) (hd:d<4294967296) (hs:f7 N (aj x)) (k:List Int->Int->Bool):oZ N (aj x) (d:Int) k=k (aj (x / d)) ((x%d:Nat):Int):=by
 (unfold oZ; rw[ac]; unfold rX)
 obtain⟨s1,s2⟩:=hs;have hx:=ja x;generalize hn:(aj x).length=n at *;rw[aa (bI (by omega) (by omega) (by omega) (by omega)),aa afg,afo];have wd:IntKind.wrap .u64 (d:Int)=(d:Int):=by rw[am]; omega
 have d1:(!decide ((d:Int)=0))=true:=by simp; omega
 refine aJ (λi=>(((x / 4294967296 ^ (n - i)%d:Nat):Int),((n:Int) - 1 - (i:Int)),List.replicate (n - i) (0:Int)++(dl (x / d) n).drop (n - i))) n ?_ (by omega) (λi hi K=>?_) (λK=>?_)
 ·rw[aht,afO hx,Nat.zero_mod,af6 (by rw[al]; omega),afU];simp
 ·obtain⟨m,hm⟩:∃ m,n - i=m+1:=⟨n - i - 1,by omega⟩
  have hm2:n - (i+1)=m:=by omega
  have ei:(n:Int) - 1 - (i:Int)=(m:Int):=by omega
  have ei2:(n:Int) - 1 - ((i+1:Nat):Int)=(m:Int) - 1:=by omega
  have hp:x / 4294967296 ^ (m+1)=x / 4294967296 ^ m / 4294967296:=by rw[afv,afr]
  have hdg:x / d / 4294967296 ^ m%4294967296=x / 4294967296 ^ m / d%4294967296:=by rw[afr,afr,afn d]
  obtain⟨n1,n2⟩:=Bz (A:=x / 4294967296 ^ m) hd0;rw[hm,hm2,ei,ei2,hp];simp only[k6,afo,wd];have hl:(List.replicate (m+1) (0:Int)++(dl (x / d) n).drop (m+1)).length=n:=by simp[al]; omega
  have hr:=afA (x / 4294967296 ^ m / 4294967296) hd0;have hq:(x / 4294967296 ^ m / 4294967296%d*4294967296+x / 4294967296 ^ m%4294967296) / d<4294967296:=by rw[n2]; exact afA _ (by decide)
  rw[afi (by omega:(m:Int)>=0),afl,hn,aa afh,nw,aa d1,hl,aa afh,aa (afi (by omega)),aa d1,aa afg,Rz (by omega) (afA _ (by decide))];have e1:∀ A:Nat,Int.tdiv (A:Int) (d:Int)=((A / d:Nat):Int):=λ_=>rfl
  have e2:∀ A:Nat,Int.tmod (A:Int) (d:Int)=((A%d:Nat):Int):=λ_=>rfl
  rw[e1,e2,n1,n2,<- hdg];have e3:IntKind.wrap .u32 (IntKind.wrap .u64 ((x / d / 4294967296 ^ m%4294967296:Nat):Int))=((x / d / 4294967296 ^ m%4294967296:Nat):Int):=by have:=afA (x / d / 4294967296 ^ m) (by decide:4294967296>0);generalize x / d / 4294967296 ^ m%4294967296=y at *;rw[am,dI]; omega
  rw[e3,Gx _ _ _ (by omega)]
 ·simp only[k6];have e0:(n:Int) - 1 - (n:Int) = -1:=by omega
  rw[e0,afj (by omega),afk,afT,ag7,ag_];rw[afX,aga,agN];have hq:x / d<4294967296 ^ n:=agV (agW _ _) hx;have hr:=afA x hd0;have e3:IntKind.wrap .u32 ((x%d:Nat):Int)=((x%d:Nat):Int):=by rw[dI]; omega
  rw[e3,dN _ (jk _ _) (by rw[al]; omega) (by rw[al]; omega) (λz=>k z ((x%d:Nat):Int)),qx hq]
theorem OO (N:Nat) {x:Nat} (hx:x<4294967296) (k:Kz2):We N (x:Int) k=k ((32 - bl x:Nat):Int):=by unfold We WR;have:=wJ (n:=x) (j:=32) (by rw[show(2:Nat) ^ 32=4294967296 by decide]; exact hx);rw[CN N x hx,aa afg];congr 1; omega
theorem D8:(2:Nat) ^ 32=4294967296:=by decide
theorem Mz {y:Nat} (h0:y ≠ 0) (hy:y<4294967296):32 - bl y<32/\2147483648<=y*2 ^ (32 - bl y)/\y*2 ^ (32 - bl y)<4294967296:=by
 have h1:=wJ (n:=y) (j:=32) (by rw[D8]; exact hy);obtain⟨h2,h3⟩:=NL h0;have h4:=yD y;have hp:0<2 ^ (32 - bl y):=afy _;refine⟨by omega,?_,?_⟩
 ·have:=afm (2 ^ (32 - bl y)) h3;rw[<- afx,show bl y - 1+(32 - bl y)=31 by omega]at this;exact this
 ·have:=af2 h4 hp;rw[<- afx,show bl y+(32 - bl y)=32 by omega]at this;exact this
theorem Ip {N:Nat} (m:List Int) (hm:InW m) (n:Nat) (hn:n<4294967296) (hN:m.length+n / 32+4<N) (hs:m.length<=1099511627776) (e0:List Int->Bool) :
  ah N (fo N m ((n / 32:Nat):Int) ((n%32:Nat):Int) e0) (0,List.replicate (n / 32+m.length+1) (0:Int))=e0 (dl (aG m*2 ^ n) (n / 32+m.length+1)):=by
 generalize hw:n / 32=w at *;generalize hsh:n%32=s at *;have hs32:s<32:=by omega
 have hp2:2 ^ n=4294967296 ^ w*2 ^ s:=by rw[xc,hw,hsh]
 have hs0:0<2 ^ s:=afy s;have hs1:2 ^ s*2 ^ (32 - s)=4294967296:=by rw[<- afx,show s+(32 - s)=32 by omega]
 have hs2:2 ^ s<=2147483648:=by have:2 ^ s<=2 ^ 31:=afz (by decide) (by omega);simpa using this
 let V:=aG m*2 ^ n
 let X:=aG m*2 ^ s
 have hVX:V=4294967296 ^ w*X:=by simp only[V,X]; rw[hp2,afP]
 let T:=λi=>aG (m.take i)*2 ^ s
 let c:=λi=>T i / 4294967296 ^ i
 refine aJ (N:=N) (λi=>((i:Int),dl V (w+i)++((c i:Nat):Int)::List.replicate (m.length - i) 0)) m.length ?_ (by omega) (λi hi K=>?_) (λK=>?_)
 ·congr 1;show List.replicate (w+m.length+1) (0:Int)=dl V w++((c 0:Nat):Int)::List.replicate m.length 0;rw[hVX,vC];have hc0:c 0=0:=by simp[c,T,aG]
  rw[hc0];have:w+m.length+1=w+(m.length+1):=by omega
  rw[this,<- ag4,af5]; rfl
 ·have hx:=hm.at (i:=i);have hT:T (i+1)=T i+4294967296 ^ i*((m.getD i 0).toNat*2 ^ s):=by simp only[T,aT,afM,aft]
  have hq:T (i+1) / 4294967296 ^ i=c i+(m.getD i 0).toNat*2 ^ s:=by rw[hT,eO]
  have hci:c i<2 ^ s:=by simp only[c,T];rw[afs (aY i),afn];exact agu (bB hm i) hs0
  have hc1:c (i+1)=(c i+(m.getD i 0).toNat*2 ^ s) / 4294967296:=by rw[<- hq]; simp only[c]; rw[afv,afr]
  have hdig:V / 4294967296 ^ (w+i)%4294967296=(c i+(m.getD i 0).toNat*2 ^ s)%4294967296:=by rw[<- hq,hVX,afx,<- afr,afV _ (aY w)];obtain⟨R,hR⟩:=cu m (i+1);refine mh (R:=R*2 ^ s) ?_;simp only[X,T];rw[hR,afM,aft]
  have hrep:List.replicate (m.length - i) (0:Int)=0::List.replicate (m.length - (i+1)) 0:=by rw[show m.length - i=(m.length - (i+1))+1 by omega,af5]
  have hdl:=al V (w+i);have ei:Int.toNat ((w:Int)+(i:Int))=w+i:=by omega
  have ei1:Int.toNat ((w:Int)+(i:Int)+1)=w+i+1:=by omega
  have emin:min s 64=s:=by omega
  simp only[fo,afo,ei,ei1,emin];rw[hrep,ci hdl.symm,bu _ _ _ _ _ hdl.symm];have et:IntKind.wrap .u64 (IntKind.wrap .u64 (m.getD i 0)*2 ^ s)=(((m.getD i 0).toNat*2 ^ s:Nat):Int):=by
   have hxs:(m.getD i 0).toNat*2 ^ s<4294967296*2147483648:=af4 (by omega) hs2 (by decide);have e1:IntKind.wrap .u64 (m.getD i 0)=(((m.getD i 0).toNat:Nat):Int):=by rw[am]; omega
   have e2:(((m.getD i 0).toNat:Nat):Int)*2 ^ s=(((m.getD i 0).toNat*2 ^ s:Nat):Int):=by simp
   rw[e1,e2,am]; omega
  rw[et];generalize hxx:(m.getD i 0).toNat=x at *;have hx32:x<4294967296:=by omega
  have hlow:x*2 ^ s%4294967296=2 ^ s*(x%2 ^ (32 - s)):=by
   have e:x*2 ^ s%(2 ^ s*2 ^ (32 - s))=2 ^ s*(x%2 ^ (32 - s)):=by rw[afn x]; exact ahc _ _ _
   rwa [hs1]at e
  have hsum:2 ^ s*(x%2 ^ (32 - s))+c i<4294967296:=by have h1:x%2 ^ (32 - s)+1<=2 ^ (32 - s):=afA _ (afy _);have h2:=afq (2 ^ s) h1;rw[hs1,afB]at h2;omega
  have eor:aD .or .u32 ((c i:Nat):Int) (IntKind.wrap .u32 ((x*2 ^ s:Nat):Int))=((V / 4294967296 ^ (w+i)%4294967296:Nat):Int):=by
   have e1:IntKind.wrap .u32 ((x*2 ^ s:Nat):Int)=((2 ^ s*(x%2 ^ (32 - s)):Nat):Int):=by rw[<- hlow,dI]; omega
   rw[e1,ru _ _ s hci hsum,hdig];omega
  have ehi:IntKind.wrap .u32 (Int.fdiv ((x*2 ^ s:Nat):Int) (2 ^ 32))=((c (i+1):Nat):Int):=by have hxs:x*2 ^ s<4294967296*2147483648:=af4 hx32 hs2 (by decide);rw[km,dI,hc1];omega
  rw[eor,ehi];have hl1:∀(a b:Int) (ys:List Int),(dl V (w+i)++a::b::ys).length=w+i+2+ys.length:=by intro a b ys; simp[hdl]; omega
  have hset2:(dl V (w+i)++((V / 4294967296 ^ (w+i)%4294967296:Nat):Int)::0::List.replicate (m.length - (i+1)) 0).set (w+i+1) ((c (i+1):Nat):Int)=dl V (w+(i+1))++((c (i+1):Nat):Int)::List.replicate (m.length - (i+1)) 0:=by
   have:dl V (w+i)++((V / 4294967296 ^ (w+i)%4294967296:Nat):Int)::0::List.replicate (m.length - (i+1)) 0=dl V (w+(i+1))++0::List.replicate (m.length - (i+1)) 0:=by rw[<- afY,dl]; simp
   rw[this];exact bu _ _ _ _ _ (by rw[al]; omega)
  rw[hset2,hl1,hl1];simp only[agI];rw[afi (by omega:(i:Int)<m.length),afl,aa afh,aa (afi (by omega)),aa afg,aa afh,aa (afi (by omega)),aa afh,aa (afi (by omega)),
   aa afg,aa afg,aa afh,aa (afi (by omega)),aa afg]
  rfl
 ·simp only[fo];rw[afj (by omega:¬(m.length:Int)<m.length),afk,afT,afX];have hV:V<4294967296 ^ (w+m.length+1):=by have h1:=fz hm;simp only[V];rw[hp2,afv,afx,afP,aft];refine agu ?_ (aY w);exact af4 h1 (by omega) (by decide)
  have hT:T m.length=X:=by simp only[T,X]; rw[af3]
  have hend:dl V (w+m.length)++[((c m.length:Nat):Int)]=dl V (w+m.length+1):=by
   rw[dl];have:c m.length=V / 4294967296 ^ (w+m.length)%4294967296:=by simp only[c];rw[hT,hVX,afx,<- afr,afV _ (aY w)];rw[afu];rw[afs (aY _),afn];have h1:=fz hm;simp only[X];exact af4 h1 (by omega) (by decide)
   rw[this]
  rw[hend]
theorem sH {N:Nat} {m s:Nat} (hm:m ≠ 0) (hs:s<32) (hN:(aj m).length+4<N) (hl:(aj m).length<=1099511627776) (k0:Bool) (k1:Nat->List Int->Bool) :
  PZ N (aj m) (s:Int) k0 k1=k1 (aj (m*2 ^ s)).length (dl (m*2 ^ s) ((aj m).length+1)):=by
 have hlp:(aj m).length ≠ 0:=by rw[cI hm]; simp
 have hV:m*2 ^ s<4294967296 ^ ((aj m).length+1):=by
  rw[afv];have h2:2 ^ s<4294967296:=by rw[<- D8]; exact Nat.pow_lt_pow_right (by decide) hs
  exact agp (ja m) h2
 (unfold PZ; rw[ac]; unfold T3)
 have e0:((((aj m).length:Nat):Int)==0)=false:=by simp; intro h; rw[h]at hlp; simp at hlp
 have ew:IntKind.wrap .u64 (Int.tdiv (s:Int) 32)=((s / 32:Nat):Int):=by rw[am,ago (by omega)]; omega
 have es:Int.tmod (s:Int) 32=((s%32:Nat):Int):=by rw[age (by omega)]; rfl
 have elen:Int.toNat (((s / 32:Nat):Int)+(((aj m).length:Nat):Int)+1)=s / 32+(aj m).length+1:=by omega
 rw[e0,afk,ew,es,aa afg,aa afg,aa afg,aa (bI (by omega) (by omega) (by omega) (by omega)),elen];have:=Ip (N:=N) (aj m) (bv m) s (by omega) (by omega) hl (λz_1=>pY N z_1 λmr=>k1 mr z_1);rw[aM,show s / 32=0 by omega,afL]at this;rw[show s / 32=0 by omega,afL];refine Eq.trans this ?_;rw[lI _ (by rw[al]; omega) (by rw[al]; omega),al,Aj hV]
theorem Ln {N:Nat} (b:List Int) (m:Nat) (hm:m<=b.length) (hN:m<N) (hs:m<9223372036854775807) (k:Kz3):th N 0 m b k=k (bZ b m):=by
 (unfold th; rw[ac]; unfold rV)
 have key:∀ n,n<=m -> ∀ M,n<M->ah M (wm N 0 b λm_4=>k m_4) n=k (bZ b n):=by
  intro n;induction n with
  | zero=>
   intro _ M hM;obtain⟨M,rfl⟩:∃ m,M=m+1:=⟨M - 1,by omega⟩
   show wm N 0 b _ 0 _=_;simp only[wm,bZ];rw[afj (by omega:¬((0:Nat):Int)>0),show(false==true)=false from rfl,afk]
  | succ n ih=>
   intro hn M hM;obtain⟨M,rfl⟩:∃ m,M=m+1:=⟨M - 1,by omega⟩
   show wm N 0 b _ (n+1) (ah M _)=_;have e:0+Int.toNat (((n+1:Nat):Int) - 1)=n:=by omega
   have e2:Int.toNat (((n+1:Nat):Int) - 1) - 0=n:=by omega
   simp only[wm,e,e2];rw[afi (by omega:((n+1:Nat):Int)>0),show(true==true)=true from rfl,afl,aa afg,aa afh,aa (afi (by omega)),aa afg,aa (afi (by omega)),ih (by omega) M (by omega),oE];by_cases h0:b.getD n 0=0
   ·have:(b.getD n 0==0)=true:=by simpa using h0
    rw[this,if_pos h0]; rfl
   ·have:(b.getD n 0==0)=false:=by simpa using h0
    rw[this,if_neg h0]; rfl
 exact key m (afw _) N hN
theorem DQ {N:Nat} (b:List Int) (hb:InW b) (m s:Nat) (hm:m<=b.length) (hs:s<32) (hN:m+3<N) (hms:m<=1099511627780) (k:Kz6):PS N 0 m (s:Int) b k=k (aj (aG (b.take m) / 2 ^ s)):=by
 have ew:IntKind.wrap .u64 (Int.tdiv (s:Int) 32)=0:=by rw[am,ago (by omega)]; omega
 have es:Int.tmod (s:Int) 32=(s:Int):=by rw[age (by omega)]; omega
 have hs0:0<2 ^ s:=afy _
 (unfold PS; rw[ac]; unfold Nl)
 by_cases h0:m=0
 ·subst h0;rw[ew,ahF,show aG []=0 from rfl,Nat.zero_div,be];rfl
 ·have emin:min s 64=s:=by omega
  rw[ew,es,aa afg,afj (by omega:¬(0:Int)>=(m:Int)),afk];have hw:InW (b.take m):=hb.take m;have hwl:(b.take m).length=m:=by rw[af0]; omega
  have hwg:∀ i,i<m->(b.take m).getD i 0=b.getD i 0:=λi hi=>ue hi
  obtain⟨X,hX⟩:∃ X,X=aG (b.take m) / 2 ^ s:=⟨_,rfl⟩
  have elen2:(m:Int) - 0=(m:Int):=by omega
  rw[elen2,aa afg,aa (bI (by omega) (by omega) (by omega) (by omega)),afo,<- hX];refine aJ (λi=>((i:Int),dl X i++List.replicate (m - i) 0)) m (by simp[dl]) (by omega) (λi hi K=>?_) (λK=>?_)
  ·have hx:=hw.at (i:=i);have hy:=hw.at (i:=i+1);have hset:=Aq X i m (by omega);have hl:(dl X i++List.replicate (m - i) (0:Int)).length=m:=by simp[al]; omega
   obtain⟨R,hR⟩:=Cy hw i;have hdig:X / 4294967296 ^ i%4294967296=(((b.take m).getD i 0).toNat+4294967296*((b.take m).getD (i+1) 0).toNat) / 2 ^ s%4294967296:=by
    rw[hX,afr,afn (2 ^ s),<- afr,hR];have e2:4294967296*4294967296*R=2 ^ s*(4294967296*(2 ^ (32 - s)*R)):=by
     have hs1:2 ^ s*2 ^ (32 - s)=4294967296:=by rw[<- afx,show s+(32 - s)=32 by omega]
     rw[afP (2 ^ s),<- aft (2 ^ s),hs1,aft]
    rw[e2,agh _ _ hs0,agC]
   have hfin:∀ z:Int,z=((((b.take m).getD i 0).toNat+4294967296*((b.take m).getD (i+1) 0).toNat:Nat):Int)->IntKind.wrap .u32 (Int.fdiv z (2 ^ s))=((X / 4294967296 ^ i%4294967296:Nat):Int):=by
    intro z hz;have e:(2:Int) ^ s=((2 ^ s:Nat):Int):=by simp
    rw[hdig,hz,e,agP _ (by omega),dI];rfl
   have ea:(0:Int)+(i:Int)=(i:Int):=by omega
   have ei:0+Int.toNat (i:Int)=i:=by omega
   have ei1:Int.toNat ((i:Int)+1)=i+1:=by omega
   simp only[i9,ea,ei1,afo,afL,emin,hl];rw[afi (by omega:(i:Int)<m),afl,aa afg,aa afh,aa (afi (by omega)),aa afg,aa afg];rw[<- hwg i hi];by_cases hlast:i+1<m
   ·rw[<- hwg (i+1) hlast];rw[afi (by omega:(i:Int)+1<m),afl,aa afg,aa afg,aa afh,aa (afi (by omega)),aa (afi (by omega)),aa afh,aa (afi (by omega)),aa afg];have e1:IntKind.wrap .u64 ((b.take m).getD i 0)=((((b.take m).getD i 0).toNat:Nat):Int):=by rw[am]; omega
    have e2:IntKind.wrap .u64 (IntKind.wrap .u64 ((b.take m).getD (i+1) 0)*2 ^ 32)=((2 ^ 32*((b.take m).getD (i+1) 0).toNat:Nat):Int):=by
     have:(2:Int) ^ 32=4294967296:=by decide
     have:(2:Nat) ^ 32=4294967296:=by decide
     rw[am,am]; omega
    have p32:(2:Nat) ^ 32=4294967296:=by decide
    rw[e1,e2,cP _ _ 32 (by omega) (by omega),hfin _ (by omega),hset,kG]
   ·rw[afj (by omega:¬(i:Int)+1<m),afk,aa (afi (by omega)),aa afh,aa (afi (by omega)),aa afg];have hz:(b.take m).getD (i+1) 0=0:=eP (by omega);have e1:IntKind.wrap .u64 ((b.take m).getD i 0)=((((b.take m).getD i 0).toNat:Nat):Int):=by rw[am]; omega
    rw[e1,hfin _ (by rw[hz]; simp),hset,kG]
  ·simp only[i9];have hl:(dl X m++List.replicate (m - m) (0:Int)).length=m:=by simp[al]
   rw[afj (by omega:¬(m:Int)<(((dl X m++List.replicate (m - m) (0:Int)).length:Nat):Int)),afk,afT,afX,afU];have hXl:X<4294967296 ^ m:=by have h1:=fz hw;rw[hwl]at h1;rw[hX];exact agV (agW _ _) h1
   rw[dN _ (jk X m) (by rw[al]; omega) (by rw[al]; omega),qx hXl]
theorem VT {A B r u0:Nat} (h:r*4294967296+u0<A):B+r*4294967296+u0<B+A:=by omega
theorem DG {N:Nat} {s5:Int} {ul j n u0 v0 v1 T d:Nat} {b c ql:List Int} (hn:2<=n) (hc1:c.getD (n - 2) 0=(v0:Int)) (hb:b.getD (j+n - 2) 0=(u0:Int)) (hcl:n<=c.length) (hul:j+n<ul) (hbl:ul<=b.length) (hbs:b.length<=1099511627780)
  (hv0:v0<4294967296) (hv1:v1<4294967296) (hu0:u0<4294967296) (hTl:T<4294967296*v1+4294967296) (hd:∀ g,T*4294967296+u0<g*(v1*4294967296+v0)->d<g) (hdW:d<4294967296) :
  ∀ g r M,g<M->g<=4294967299->g*v1+r=T->r<4294967296->d<=g ->
   ∃ q,d<=q/\q<4294967296/\q*(v1*4294967296+v0)<=T*4294967296+u0 /\ ∀ e0,ah M (pC N s5 n ul (n:Int) (v1:Int) (j:Int) c b ql e0) ((g:Int),(r:Int))=e0 (q:Int):=by
 intro g;induction g using Nat.strongRecOn with
 | ind g ih=>
 intro r M hM hgb hT hr hdg;obtain⟨M,rfl⟩:∃ m,M=m+1:=⟨M - 1,by omega⟩
 have i2:0+Int.toNat ((n:Int) - 2)=n - 2:=by omega
 have j2:0+Int.toNat ((j:Int)+(n:Int) - 2)=j+n - 2:=by omega
 have dec:∀ p,g=p+1->d<=p -> ∃ q,d<=q/\q<4294967296/\q*(v1*4294967296+v0)<=T*4294967296+u0 /\ ∀ e0,cond (decide ((IntKind.wrap .u64 ((r:Int)+(v1:Int)))>=4294967296)) (e0 (IntKind.wrap .u64 ((g:Int) - 1))) (ah M (pC N s5 n ul (n:Int) (v1:Int) (j:Int) c b ql e0) ((IntKind.wrap .u64 ((g:Int) - 1)),(IntKind.wrap .u64 ((r:Int)+(v1:Int)))))=e0 (q:Int):=by
  intro p hp hdp;subst hp;have w1:IntKind.wrap .u64 (((p+1:Nat):Int) - 1)=(p:Int):=He p (by omega);have w2:IntKind.wrap .u64 ((r:Int)+(v1:Int))=((r+v1:Nat):Int):=by rw[am]; omega
  rw[w1,w2];by_cases hb2:4294967296<=r+v1
  ·have hpl:p<4294967296:=by
    rcases agb p 4294967296 with h | h
    ·exact h
    ·exfalso;have:=afm v1 h;rw[agS]at hT;omega
   refine⟨p,hdp,hpl,AG hv0 (by omega) hT hb2,λe0=>?_⟩;rw[afi (by omega),afl]
  ·obtain⟨q,q1,q2,q3,q4⟩:=ih p (by omega) (r+v1) M (by omega) (by omega) (by rw[<- hT,agS]; omega) (by omega) hdp;exact⟨q,q1,q2,q3,λe0=>by rw[afj (by omega),afk]; exact q4 e0⟩
 by_cases hg:4294967296<=g
 ·obtain⟨q,q1,q2,q3,q4⟩:=dec (g - 1) (by omega) (by omega);refine⟨q,q1,q2,q3,λe0=>?_⟩;show pC N s5 n ul (n:Int) (v1:Int) (j:Int) c b ql e0 (_,_) (ah M _)=_;simp only[pC];rw[afi (by omega:(g:Int)>=4294967296),show(true==false)=false from rfl,afk];exact q4 e0
 ·have hgv:g*v0<=4294967295*4294967295:=af7 (by omega) (by omega);have wv0:IntKind.wrap .u64 (v0:Int)=(v0:Int):=by rw[am]; omega
  have wgv:IntKind.wrap .u64 ((g:Int)*(v0:Int))=((g*v0:Nat):Int):=by rw[<- afF,am]; omega
  have e1:T*4294967296+u0=g*v1*4294967296+r*4294967296+u0:=by rw[<- hT,afM]
  have e2:g*(v1*4294967296+v0)=g*v1*4294967296+g*v0:=by rw[afB,aft]
  have body:∀ e0:Int->Bool,ah (M+1) (pC N s5 n ul (n:Int) (v1:Int) (j:Int) c b ql e0) ((g:Int),(r:Int))=cond (decide (((g*v0:Nat):Int)>((r*4294967296+u0:Nat):Int))) (cond (decide ((IntKind.wrap .u64 ((r:Int)+(v1:Int)))>=4294967296)) (e0 (IntKind.wrap .u64 ((g:Int) - 1))) (ah M (pC N s5 n ul (n:Int) (v1:Int) (j:Int) c b ql e0) ((IntKind.wrap .u64 ((g:Int) - 1)),(IntKind.wrap .u64 ((r:Int)+(v1:Int)))))) (e0 (g:Int)):=by intro e0;show pC N s5 n ul (n:Int) (v1:Int) (j:Int) c b ql e0 (_,_) (ah M _)=_;simp only[pC,i2,j2,hc1,hb,wv0,wgv];rw[afj (by omega:¬(g:Int)>=4294967296),show(false==false)=true from rfl,afl,aa afg,aa afh,aa (afi (by omega)),aa afg,aa afg,aa afh,aa (afi (by omega)),Rz hr hu0]
  by_cases ht:r*4294967296+u0<g*v0
  ·have hlt1:g*v1*4294967296+r*4294967296+u0<g*v1*4294967296+g*v0:=VT ht;have hlt:d<g:=hd g (agV (ahv e1) (afD hlt1 (ahv e2.symm)));obtain⟨q,q1,q2,q3,q4⟩:=dec (g - 1) (by omega) (by omega);exact⟨q,q1,q2,q3,λe0=>by rw[body,afi (by omega),afl]; exact q4 e0⟩
  ·exact⟨g,hdg,by omega,afG (ahv e2) (afG (by omega) (ahv e1.symm)),λe0=>by rw[body,afj (by omega),afk]⟩
theorem Lr {N:Nat} {j n ul g U V:Nat} {b c:List Int} (hN:n<N) (hb:InW b) (hc:InW c) (hcl:n<=c.length) (hul:j+n<ul) (hbl:ul<=b.length) (hbs:b.length<=1099511627780) (hg:g<4294967296) (hU:U=aG ((b.drop j).take (n+1))) (hV:V=aG (c.take n)) (k:Ky2) :
  PN N 0 ul 0 n (j:Int) (g:Int) b c k=k (decide (U<g*V)) (b.take j++(dl (U+4294967296 ^ (n+1) - g*V) (n+1)++b.drop (j+(n+1)))):=by
 (unfold PN; rw[ac]; unfold Nc)
 have hw:InW ((b.drop j).take (n+1)):=(hb.drop j).take _;have hwl:((b.drop j).take (n+1)).length=n+1:=by rw[af0,agZ]; omega
 have hwg:∀ i,i<=n->((b.drop j).take (n+1)).getD i 0=b.getD (j+i) 0:=λi hi=>by rw[ue (by omega),jY]
 generalize (b.drop j).take (n+1)=w at *;have hVl:V<4294967296 ^ n:=by rw[hV]; exact bB hc n
 have hgV:g*V<4294967296 ^ (n+1):=by rw[afv,afn];exact agp hVl hg
 obtain⟨D,hD⟩:∃ D,D=U+4294967296 ^ (n+1) - g*V:=⟨_,rfl⟩
 obtain⟨Q,hQ⟩:∃ Q,Q=g*V:=⟨_,rfl⟩
 have hQW:Q<4294967296 ^ (n+1):=by rw[hQ]; exact hgV
 rw[<- hD];refine aJ (λi=>(((g*aG (c.take i) / 4294967296 ^ i:Nat):Int),((if aG (w.take i)<Q%4294967296 ^ i then 1 else 0:Nat):Int),(i:Int),b.take j++(dl D i++b.drop (j+i)))) n ?_ (by omega) (λi hi K=>?_) (λK=>?_)
 ·simp[dl,aG,ahV]
 ·have hx:=hb.at (i:=j+i);have hy:=hc.at (i:=i);have hcv:=aT (m:=c) i;have hp:=aY i;have hVi:=bB hc i;obtain⟨s1,s2⟩:=BP hw hwl hU (by omega:i<=n) hQW;rw[hwg i (by omega)]at s1 s2;rw[hQ,<- hD,<- hQ]at s1;obtain⟨cy,hcy⟩:∃ cy,cy=g*aG (c.take i) / 4294967296 ^ i:=⟨_,rfl⟩
  have hcyl:cy<4294967296:=by rw[hcy,afs hp];exact agp hg hVi
  have e1:g*aG (c.take (i+1))=g*aG (c.take i)+4294967296 ^ i*(g*(c.getD i 0).toNat):=by rw[hcv,afB,afP g]
  have ecy:g*aG (c.take (i+1)) / 4294967296 ^ (i+1)=(g*(c.getD i 0).toNat+cy) / 4294967296:=by rw[afv,<- afr,e1,eO,<- hcy];congr 1; omega
  obtain⟨R,hR⟩:=cu (c.take n) (i+1);rw[air,agz (by omega),<- hV]at hR;have elo:Q / 4294967296 ^ i%4294967296=(g*(c.getD i 0).toNat+cy)%4294967296:=by
   have:Q=g*aG (c.take (i+1))+4294967296 ^ (i+1)*(g*R):=by rw[hQ,hR,afB,afP g]
   rw[mh this,e1,eO,<- hcy];congr 1; omega
  rw[elo]at s1 s2;have ei:0+Int.toNat ((j:Int)+(i:Int))=j+i:=by omega
  have hgy:g*(c.getD i 0).toNat<=4294967295*4294967295:=af7 (by omega) (by omega);have wy:IntKind.wrap .u64 (c.getD i 0)=(((c.getD i 0).toNat:Nat):Int):=by rw[am]; omega
  have wp:IntKind.wrap .u64 ((g:Int)*(((c.getD i 0).toNat:Nat):Int))=((g*(c.getD i 0).toNat:Nat):Int):=by rw[<- afF,am]; omega
  have wpc:IntKind.wrap .u64 (((g*(c.getD i 0).toNat:Nat):Int)+(cy:Int))=((g*(c.getD i 0).toNat+cy:Nat):Int):=by rw[am]; omega
  have wx:IntKind.wrap .u64 (b.getD (j+i) 0)=(((b.getD (j+i) 0).toNat:Nat):Int):=by rw[am]; omega
  have hcf:Int.fdiv ((g*(c.getD i 0).toNat+cy:Nat):Int) (2 ^ 32)=((g*aG (c.take (i+1)) / 4294967296 ^ (i+1):Nat):Int):=by rw[km,ecy]; rfl
  simp only[ie,afo,afL];have ei':Int.toNat ((j:Int)+(i:Int))=j+i:=by omega
  rw[ei',Hc D (by omega),Hb D (by omega),afi (by omega:(i:Int)<(n:Int)),afl,aa afh,aa (afi (by omega)),aa afg,aa afh,aa (afi (by omega)),<- hcy,wy,wp,wpc,wx,EU,hcf];generalize (g*(c.getD i 0).toNat+cy)%4294967296=lo at *;have hlo:lo<4294967296:=by rw[<- elo]; exact afA _ (by decide)
  obtain⟨bo,hbo⟩:∃ bo:Nat,bo=if aG (w.take i)<Q%4294967296 ^ i then 1 else 0:=⟨_,rfl⟩
  have hbo1:bo<=1:=by rw[hbo]; split <;> omega
  rw[<- hbo]at s1 s2 ⊢;obtain⟨x,hxe⟩:∃ x,x=(b.getD (j+i) 0).toNat:=⟨_,rfl⟩
  rw[<- hxe]at s1 s2 ⊢;have hxl:x<4294967296:=by omega
  have wlb:IntKind.wrap .u64 ((lo:Int)+(bo:Int))=((lo+bo:Nat):Int):=by rw[am]; omega
  rw[wlb];by_cases hlt:x<lo+bo
  ·rw[if_pos hlt]at s2;have wv:IntKind.wrap .u32 (IntKind.wrap .u64 (IntKind.wrap .u64 ((x:Int)+4294967296) - ((lo+bo:Nat):Int)))=((D / 4294967296 ^ i%4294967296:Nat):Int):=by rw[<- s1,am,am,dI]; omega
   rw[afi (by omega),afl,wv,aa afg,aa afh,aa (afi (by omega)),aa afg,BX D (by omega),<- s2,kG];rfl
  ·rw[if_neg hlt]at s2;have wv:IntKind.wrap .u32 (IntKind.wrap .u64 ((x:Int) - ((lo+bo:Nat):Int)))=((D / 4294967296 ^ i%4294967296:Nat):Int):=by rw[<- s1,am,dI]; omega
   rw[afj (by omega),afk,wv,aa afg,aa afh,aa (afi (by omega)),aa afg,BX D (by omega),<- s2,kG];rfl
 ·have hx:=hb.at (i:=j+n);obtain⟨s1,s2⟩:=BP hw hwl hU (afw n) hQW;rw[hwg n (by omega)]at s1 s2;rw[hQ,<- hD,<- hQ]at s1;have hql:Q / 4294967296 ^ n<4294967296:=by rw[afs (aY n),afn,<- afv]; exact hQW
  rw[afu hql]at s1 s2;have hwt:w.take (n+1)=w:=afH (by omega);rw[hwt,<- hU,afu hQW]at s2;simp only[ie];have ei':0+Int.toNat ((j:Int)+(n:Int))=j+n:=by omega
  rw[afj (by omega:¬(n:Int)<(n:Int)),afk,<- hV,<- hQ];rw[ei',Hc D (by omega),Hb D (by omega),aa afg,aa afh,aa (afi (by omega)),aa afg,aa afh,aa (afi (by omega))];obtain⟨y,hy⟩:∃ y,y=Q / 4294967296 ^ n:=⟨_,rfl⟩
  rw[<- hy]at s1 s2 hql ⊢;obtain⟨bo,hbo⟩:∃ bo:Nat,bo=if aG (w.take n)<Q%4294967296 ^ n then 1 else 0:=⟨_,rfl⟩
  have hbo1:bo<=1:=by rw[hbo]; split <;> omega
  rw[<- hbo]at s1 s2 ⊢;have wx:IntKind.wrap .u64 (b.getD (j+n) 0)=(((b.getD (j+n) 0).toNat:Nat):Int):=by rw[am]; omega
  rw[wx];obtain⟨x,hxe⟩:∃ x,x=(b.getD (j+n) 0).toNat:=⟨_,rfl⟩
  rw[<- hxe]at s1 s2 ⊢;have hxl:x<4294967296:=by omega
  have wlb:IntKind.wrap .u64 ((y:Int)+(bo:Int))=((y+bo:Nat):Int):=by rw[am]; omega
  have wv:IntKind.wrap .u32 (IntKind.wrap .u64 ((x:Int) - ((y+bo:Nat):Int)))=((D / 4294967296 ^ n%4294967296:Nat):Int):=by rw[<- s1,am,dI]; omega
  rw[wlb,wv,BX D (by omega)];have hdec:decide ((x:Int)<((y+bo:Nat):Int))=decide (U<Q):=by
   by_cases h1:U<Q
   ·rw[if_pos h1]at s2;rw[afi h1];refine afi ?_;split at s2 <;> omega
   ·rw[if_neg h1]at s2;rw[afj h1];refine afj ?_;split at s2 <;> omega
  rw[hdec]
theorem Lu {N:Nat} {j n ul D V:Nat} {b c:List Int} (hN:n<N) (hc:InW c) (hcl:n<=c.length) (hul:j+n<ul) (hbl:ul<=b.length) (hbs:b.length<=1099511627780) (hV:V=aG (c.take n)) (k:Kz6) :
  PO N 0 ul 0 n (j:Int) (b.take j++(dl D (n+1)++b.drop (j+(n+1)))) c k=k (b.take j++(dl (D+V) (n+1)++b.drop (j+(n+1)))):=by
 (unfold PO; rw[ac]; unfold Nd)
 obtain⟨E,hE⟩:∃ E,E=D+V:=⟨_,rfl⟩
 rw[<- hE];refine aJ (λi=>((((D%4294967296 ^ i+aG (c.take i)) / 4294967296 ^ i:Nat):Int),(i:Int),b.take j++(dl E i++((dl D (n+1)).drop i++b.drop (j+(n+1)))))) n ?_ (by omega) (λi hi K=>?_) (λK=>?_)
 ·simp[dl,aG,ahV]
 ·have hx:=hc.at (i:=i);have hcv:=aT (m:=c) i;have hVl:=bB hc i;have hp:=aY i;have hml:=afA D hp;obtain⟨cy,hcy⟩:∃ cy,cy=(D%4294967296 ^ i+aG (c.take i)) / 4294967296 ^ i:=⟨_,rfl⟩
  have hcl1:cy<=1:=by
   have:cy<2:=by rw[hcy,afs hp]; omega
   omega
  obtain⟨a1,a2⟩:=z9 (D:=D) (V:=aG (c.take i)) (v:=(c.getD i 0).toNat) hcy;obtain⟨R,hR⟩:=cu (c.take n) (i+1);rw[air,agz (by omega),<- hV,hcv]at hR;have a3:=a2 R;rw[<- hR,<- hE]at a3;have hdl:D / 4294967296 ^ i%4294967296<4294967296:=afA _ (by decide);have ei':Int.toNat ((j:Int)+(i:Int))=j+i:=by omega
  simp only[ig,afo,afL,ei'];rw[G_ D E (by omega) (by omega),G9 D E (by omega) (by omega)];have wy:IntKind.wrap .u64 (c.getD i 0)=(((c.getD i 0).toNat:Nat):Int):=by rw[am]; omega
  obtain⟨dg,hdg⟩:∃ dg,dg=D / 4294967296 ^ i%4294967296:=⟨_,rfl⟩
  rw[<- hdg]at a1 a3 hdl ⊢;have ws:IntKind.wrap .u64 (IntKind.wrap .u64 (IntKind.wrap .u64 (dg:Int)+(((c.getD i 0).toNat:Nat):Int))+(cy:Int))=((dg+(c.getD i 0).toNat+cy:Nat):Int):=by rw[am,am,am]; omega
  have wf:Int.fdiv ((dg+(c.getD i 0).toNat+cy:Nat):Int) (2 ^ 32)=(((D%4294967296 ^ (i+1)+aG (c.take (i+1))) / 4294967296 ^ (i+1):Nat):Int):=by rw[hcv,a1,km]; rfl
  have w3:IntKind.wrap .u32 ((dg+(c.getD i 0).toNat+cy:Nat):Int)=((E / 4294967296 ^ i%4294967296:Nat):Int):=by rw[a3,dI]; rfl
  rw[afi (by omega:(i:Int)<(n:Int)),afl,aa afg,aa afh,aa (afi (by omega)),aa afh,aa (afi (by omega)),aa afg,aa afh,aa (afi (by omega)),aa afg,<- hcy,wy,ws,wf,w3,Ha D E (by omega) (by omega),kG]
 ·have hp:=aY n;have hml:=afA D hp;have hVl:V<4294967296 ^ n:=by rw[hV]; exact bB hc n
  obtain⟨cy,hcy⟩:∃ cy,cy=(D%4294967296 ^ n+V) / 4294967296 ^ n:=⟨_,rfl⟩
  have hcl1:cy<=1:=by
   have:cy<2:=by rw[hcy,afs hp]; omega
   omega
  obtain⟨a1,a3⟩:=EQ (D:=D) (V:=V) (i:=n) hcy;rw[<- hE]at a3;have hdl:D / 4294967296 ^ n%4294967296<4294967296:=afA _ (by decide);have ei':0+Int.toNat ((j:Int)+(n:Int))=j+n:=by omega
  simp only[ig];rw[afj (by omega:¬(n:Int)<(n:Int)),afk,ei',G_ D E (by omega) (by omega),G9 D E (by omega) (by omega),<- hV,<- hcy];obtain⟨dg,hdg⟩:∃ dg,dg=D / 4294967296 ^ n%4294967296:=⟨_,rfl⟩
  rw[<- hdg]at a3 hdl ⊢;have w3:IntKind.wrap .u32 ((dg:Int)+IntKind.wrap .u32 (cy:Int))=((E / 4294967296 ^ n%4294967296:Nat):Int):=by rw[a3,dI,dI]; omega
  rw[aa afg,aa afh,aa (afi (by omega)),aa afh,aa (afi (by omega)),w3,Ha D E (by omega) (by omega)];rw[af6 (by rw[al]; omega),aga]
theorem Q8 {P A B U3 V2 U V g:Nat} (hB:B<P) (hg:g*P<=V) (hU:U=A+P*U3) (hV:V=B+P*V2) (h:g*V2<=U3) (hV0:0<V):g<=U / V+1:=by
 have h1:g*B<=g*P:=afq _ (by omega);have h2:P*(g*V2)<=P*U3:=afq _ h;have h3:g*V=g*B+P*(g*V2):=by rw[hV,afB,afP g P]
 have h4:g*V<=U+V:=by omega
 have h5:=ahM U hV0;have h6:g*V<(U / V+2)*V:=by rw[show U / V+2=U / V+1+1 by omega,agS,afn (U / V+1)];omega
 have:=Nat.lt_of_mul_lt_mul_right h6;omega
theorem W4 {V Y Z X U Q:Nat} (h1:V<Y) (h2:Y<=Z) (h3:X<=U) (h4:X=Q*4294967296) (h5:U<V*4294967296):Q<Z:=by omega
theorem QB {P A B U V T u0 v0 v1:Nat} (hA:A<P) (hB:B<P) (hU:U=A+P*(u0+4294967296*T)) (hV:V=B+P*(v0+4294967296*v1)) (hv0:v0<4294967296) (hUV:U<V*4294967296):T<4294967296*v1+4294967296:=by
 have h1:V<P*(v0+4294967296*v1+1):=by rw[hV,aiD]; omega
 have h2:P*(v0+4294967296*v1+1)<=P*(4294967296*v1+4294967296):=afq _ (by omega);have h3:P*(4294967296*T)<=U:=by rw[hU,afB P u0]; omega
 have h4:P*(4294967296*T)=P*T*4294967296:=by rw[afn 4294967296,aft]
 have h5:P*T<P*(4294967296*v1+4294967296):=W4 h1 h2 h3 h4 hUV;exact ahG h5
theorem K2 {N:Nat} (hN:5<N) {a:List Int} {s:Int} {d:Nat} {dl':List Int} {X la:Nat} (hla:a.length=la) (hX:X<4294967296 ^ (la+1)) (h1:la<=(aj X).length) (hs:la<=1099511627000) (e0:Nat->List Int->Bool) :
  ah N (tE N a s d dl' e0) ((aj X).length,dl X (la+1))=e0 (la+1) (dl X (la+1)):=by
 have h2:(aj X).length<=la+1:=cU _ _ hX;have last:∀ K,tE N a s d dl' e0 (la+1,dl X (la+1)) K=e0 (la+1) (dl X (la+1)):=by intro K;simp only[tE];rw[hla,aa afg,afj (by omega),afk]
 by_cases h:(aj X).length=la+1
 ·rw[h];exact aJ (λi=>(la+1,dl X (la+1))) 0 rfl (by omega) (λi hi K=>by omega) last
 ·have hl:(aj X).length=la:=by omega
  rw[hl];refine aJ (λi=>(la+i,dl X (la+1))) 1 rfl (by omega) (λi hi K=>?_) last;have:i=0:=by omega
  subst this;have e1:(dl X (la+1)).take la++[0]=dl X (la+1):=by
   rw[pN X (by omega),dl];have:X / 4294967296 ^ la%4294967296=0:=by have:=ja X;rw[hl]at this;rw[afO this]
   rw[this]; rfl
  show tE N a s d dl' e0 (la,dl X (la+1)) K=K (la+1,dl X (la+1));simp only[tE];rw[hla,aa afg,afi (by omega),afl,aa (afi (by rw[al]; omega)),agN,e1,al,aa (afi (by omega))]
theorem Wx {N:Nat} (hN:1180591620717411303424<=N) {n j ul V v1:Nat} {s:Int} {b ql:List Int} (hVlt:V<4294967296 ^ (n+2)) (hVge:4294967296 ^ (n+1)<=V) (hv1:v1=V / 4294967296 ^ (n+1)) (hv1lo:2147483648<=v1) (hv1hi:v1<4294967296) (hbw:InW b) (hblen:b.length=ul) (hjl:j+(n+2)<ul) (hls:ul<=1099511627700) (hjq:j<ql.length)
  (hUlt:aG ((b.drop j).take (n+2+1))<V*4294967296) (e0:List Int->List Int->Bool) (K:Int × List Int × List Int->Bool) :
  jF N s (n+2) ul ((n+2:Nat):Int) (v1:Int) (dl V (n+2+1)) e0 ((j:Int),b,ql) K
   = K ((j:Int) - 1,b.take j++(dl (aG ((b.drop j).take (n+2+1))%V) (n+2+1)++b.drop (j+(n+2+1))),ql.set j ((aG ((b.drop j).take (n+2+1)) / V:Nat):Int)):=by
 have hV0:0<V:=afD (aY _) hVge;have hcv:aG ((dl V (n+2+1)).take (n+2))=V:=by rw[pN V (by omega),qS,afu hVlt]
 have hU3:=XP (b.drop j) n;have hV2:=XO (dl V (n+2+1)) n;rw[show n+3=n+2+1 by omega,jY,jY,jY]at hU3;rw[hcv]at hV2;have a0:=hbw.at (i:=j+n);have a1:=hbw.at (i:=j+(n+1));have a2:=hbw.at (i:=j+(n+2));have c0:=(jk V (n+2+1)).at (i:=n);obtain⟨u0,hu0⟩:∃ u,u=(b.getD (j+n) 0).toNat:=⟨_,rfl⟩
 obtain⟨u1,hu1⟩:∃ u,u=(b.getD (j+(n+1)) 0).toNat:=⟨_,rfl⟩
 obtain⟨u2,hu2⟩:∃ u,u=(b.getD (j+(n+2)) 0).toNat:=⟨_,rfl⟩
 obtain⟨v0,hv0⟩:∃ u,u=((dl V (n+2+1)).getD n 0).toNat:=⟨_,rfl⟩
 have q0:b.getD (j+n) 0=(u0:Int):=by omega
 have q1:b.getD (j+(n+1)) 0=(u1:Int):=by omega
 have q2:b.getD (j+(n+2)) 0=(u2:Int):=by omega
 have k0:(dl V (n+2+1)).getD n 0=(v0:Int):=by omega
 have k1:((dl V (n+2+1)).getD (n+1) 0).toNat=v1:=by rw[ua V (by omega),afo,<- hv1,afu hv1hi]
 rw[<- hu0,<- hu1,<- hu2]at hU3;rw[<- hv0,k1]at hV2;have hAb:=bB (hbw.drop j) n;have hBb:=bB (jk V (n+2+1)) n;have hwv:∃ U,U=aG ((b.drop j).take (n+2+1)):=⟨_,rfl⟩
 obtain⟨U,hwv⟩:=hwv;rw[<- hwv]at hU3 hUlt ⊢;have hT:=QB hAb hBb hU3 hV2 (by omega) hUlt;have hdW:U / V<4294967296:=by rw[afs hV0,afn]; exact hUlt
 have hv1p:0<v1:=by omega
 obtain⟨T,hTe⟩:∃ T,T=u2*4294967296+u1:=⟨_,rfl⟩
 rw[<- hTe]at hU3 hT;have hg0:T / v1<=4294967298:=by
  have:T / v1<4294967299:=by rw[afs hv1p]; omega
  omega
 have hkb:U / V<=T / v1:=by rw[hTe]; rw[hTe]at hU3; exact Jz hAb hU3 hV2 hV0 hv1p (by omega)
 obtain⟨g,p1,p2,p3,p4⟩:=DG (N:=N) (s5:=s) (ul:=ul) (j:=j) (n:=n+2) (u0:=u0) (v0:=v0) (v1:=v1) (T:=T) (d:=U / V) (b:=b) (c:=dl V (n+2+1)) (ql:=ql) (by omega) (by rw[show n+2 - 2=n by omega]; exact k0) (by rw[show j+(n+2) - 2=j+n by omega]; exact q0) (by rw[al]; omega) (by omega) (by omega) (by omega) (by omega) hv1hi (by omega) hT
  (λg hg=>DJ hAb hU3 hV2 hV0 (by rw[ahi v0,afn 4294967296 v1]; omega)) hdW
  (T / v1) (T%v1) N (by omega) (by omega) (agi _ _) (ag0 (afA _ hv1p) hv1hi) hkb
 have hgd:g<=U / V+1:=Q8 hBb (by have:g*4294967296 ^ n<=4294967296*4294967296 ^ n:=afm _ (Nat.le_of_lt p2);rw[<- Nat.pow_succ']at this;exact afG this hVge) hU3 hV2 (by rw[ahi v0,afn 4294967296 v1]; omega) hV0
 have hless:=λkk=>Lr (N:=N) (j:=j) (n:=n+2) (ul:=ul) (g:=g) (U:=U) (V:=V) (b:=b) (c:=dl V (n+2+1)) (by omega) hbw (jk _ _) (by rw[al]; omega) (by omega) (by omega) (by omega) p2 hwv hcv.symm kk
 have jn:0+Int.toNat ((j:Int)+((n+2:Nat):Int))=j+(n+2):=by omega
 have jn1:0+Int.toNat ((j:Int)+((n+2:Nat):Int) - 1)=j+(n+1):=by omega
 have top0:(!decide ((v1:Int)=0))=true:=by simp; omega
 have wu2:IntKind.wrap .u64 (u2:Int)=(u2:Int):=by rw[am]; omega
 have hor:aD .or .u64 (IntKind.wrap .u64 ((u2:Int)*2 ^ 32)) (IntKind.wrap .u64 (u1:Int))=(T:Int):=by rw[Rz (by omega) (by omega),hTe]
 have etd:IntKind.wrap .u64 (Int.tdiv (T:Int) (v1:Int))=((T / v1:Nat):Int):=by have:Int.tdiv (T:Int) (v1:Int)=((T / v1:Nat):Int):=rfl;rw[this,am];generalize T / v1=z at *;omega
 have etm:Int.tmod (T:Int) (v1:Int)=((T%v1:Nat):Int):=rfl;have hfin:dl (U+4294967296 ^ (n+2+1) - U / V*V) (n+2+1)=dl (U%V) (n+2+1):=by
  have e:U+4294967296 ^ (n+2+1) - (U / V)*V=U%V+4294967296 ^ (n+2+1)*1:=by have:=agi U V;omega
  rw[e,Jp _ _ _ (afw _)]
 have hgV:g*V<4294967296 ^ (n+2+1):=by rw[afv,afn];exact agp hVlt p2
 simp only[jF,jn,jn1,q1,q2,wu2,hor,etd,etm];rw[afi (by omega:(j:Int)>=0),afl,aa afg,aa afh,aa (afi (by omega)),aa afg,aa afg,aa afh,aa (afi (by omega)),aa top0,aa top0,p4,hless];by_cases hlt:U<g*V
 ·have hge:g=U / V+1:=by
   have:U / V<g:=by
    rcases agb (U / V) g with h | h
    ·exact h
    ·have:=(agT hV0).1 h; omega
   omega
  have hmore:=λkk=>Lu (N:=N) (j:=j) (n:=n+2) (ul:=ul) (D:=U+4294967296 ^ (n+2+1) - g*V) (V:=V) (b:=b) (c:=dl V (n+2+1)) (by omega) (jk _ _) (by rw[al]; omega) (by omega) (by omega) (by omega) hcv.symm kk
  have hD:U+4294967296 ^ (n+2+1) - g*V+V=U+4294967296 ^ (n+2+1) - U / V*V:=by
   have:g*V=U / V*V+V:=by rw[hge,agS]
   omega
  have wg:IntKind.wrap .u32 (IntKind.wrap .u64 ((g:Int) - 1))=((U / V:Nat):Int):=by rw[hge];generalize U / V=z at *;rw[am,dI]; omega
  rw[afi hlt,afl,hmore,hD,hfin,aa afh,aa (afi (by omega)),aa afg,afo,wg]
 ·have hge:g=U / V:=by have:=(agT hV0).2 (Nat.le_of_not_lt hlt);omega
  have wg:IntKind.wrap .u32 (g:Int)=((U / V:Nat):Int):=by rw[hge];generalize U / V=z at *;rw[dI]; omega
  rw[afj hlt,afk,wg,hge,hfin,aa afh,aa (afi (by omega)),aa afg,afo]
theorem A7 {N:Nat} (hN:1180591620717411303424<=N) {x y:Nat} (hxy:y<=x) (hy2:2<=(aj y).length) (hxl:(aj x).length<=1099511627000) (k:Kz0) :
  yh N (aj x) (aj y) k=k (aj (x / y)) (aj (x%y)):=by
 have hy0:y ≠ 0:=by intro h; rw[h,be]at hy2; simp at hy2
 have hyx:=ce hxy;have hylt:=ja y;have hxlt:=ja x;have hylo:4294967296 ^ ((aj y).length - 1)<=y:=by
  rcases agb y (4294967296 ^ ((aj y).length - 1))with h | h
  ·have:=cU _ _ h; omega
  ·exact h
 (unfold yh; rw[ac]; unfold Nt)
 rw[iJ x y ⟨by omega,by omega⟩ ⟨by omega,by omega⟩];have hc:decide (dM x y<0)=false:=by unfold dM; rw[if_neg (by omega)]; split <;> rfl
 obtain⟨n,hn⟩:∃ n,(aj y).length=n+2:=⟨(aj y).length - 2,by omega⟩
 obtain⟨lx,hlx⟩:∃ lx,(aj x).length=lx:=⟨_,rfl⟩
 have htd:(aj y).getD (n+1) 0=((y / 4294967296 ^ (n+1):Nat):Int):=by rw[nw,afu];rw[afs (aY _),afn,<- afv];rw[hn]at hylt; exact hylt
 rw[hn]at hylt hylo;rw[hlx]at hxlt;rw[show n+2 - 1=n+1 by omega]at hylo;obtain⟨t,ht⟩:∃ t,t=y / 4294967296 ^ (n+1):=⟨_,rfl⟩
 rw[<- ht]at htd;have htl:t<4294967296:=by rw[ht,afs (aY _),afn,<- afv]; exact hylt
 have ht0:t ≠ 0:=by have:=ahL hylo (aY (n+1)); omega
 obtain⟨g1,g2,g3⟩:=Mz ht0 htl;have ein:Int.toNat (((n+2:Nat):Int) - 1)=n+1:=by omega
 have e1':(((n+2:Nat):Int)==1)=false:=by simp; omega
 rw[hc,afk,hn,e1',afk,aa afg,aa afh,ein,htd,OO N htl];obtain⟨s,hs⟩:∃ s,s=32 - bl t:=⟨_,rfl⟩
 rw[<- hs]at g1 g2 g3 ⊢;have hs0:0<2 ^ s:=afy s;have ews:IntKind.wrap .u64 ((s:Nat):Int)=(s:Int):=by rw[am]; omega
 rw[ews];obtain⟨V,hV⟩:∃ V,V=y*2 ^ s:=⟨_,rfl⟩
 obtain⟨X,hX⟩:∃ X,X=x*2 ^ s:=⟨_,rfl⟩
 have hVlt:V<4294967296 ^ (n+2):=by
  have h1:=ahM y (aY (n+1));rw[<- ht]at h1;have h2:y*2 ^ s<4294967296 ^ (n+1)*(t+1)*2 ^ s:=af2 h1 hs0;have h3:(t+1)*2 ^ s<=4294967296:=by
   have hd:2 ^ s*2 ^ (32 - s)=4294967296:=by rw[<- afx,show s+(32 - s)=32 by omega]
   have h4:t<2 ^ (32 - s):=by rw[afn]at g3;rw[<- hd]at g3;exact ahG g3
   rw[<- hd,afn];exact afq _ h4
  have h5:=afq (4294967296 ^ (n+1)) h3;rw[hV,show n+2=n+1+1 by omega,afv];rw[aft]at h2;omega
 have hVge:4294967296 ^ (n+1)<=V:=by rw[hV]; exact afG hylo (agj _ hs0)
 have hVlen:(aj V).length=n+2:=Ro hVge hVlt;have hV0:0<V:=afD (aY _) hVge;have hx0:x ≠ 0:=by omega
 have hvt:V / 4294967296 ^ (n+1)=t*2 ^ s+y%4294967296 ^ (n+1)*2 ^ s / 4294967296 ^ (n+1):=by
  have h1:=af_ y (4294967296 ^ (n+1));rw[<- ht]at h1;have h2:V=y%4294967296 ^ (n+1)*2 ^ s+4294967296 ^ (n+1)*(t*2 ^ s):=by rw[hV,<- aft,<- afM]; congr 1; omega
  rw[h2,eO]; omega
 have hv1lo:2147483648<=V / 4294967296 ^ (n+1):=by rw[hvt]; exact afG g2 (ag1 _ _)
 have hv1hi:V / 4294967296 ^ (n+1)<4294967296:=by rw[afs (aY _),afn,<- afv]; exact hVlt
 rw[sH hy0 g1 (by omega) (by omega),hn,<- hV,hVlen,sH hx0 g1 (by omega) (by omega),hlx,<- hX];have hs2:2 ^ s<=4294967296:=by rw[<- D8]; exact afz (by decide) (by omega)
 have hXlt:X<4294967296 ^ (lx+1):=by rw[hX,afv]; exact af4 hxlt hs2 (by decide)
 have hXlen2:lx<=(aj X).length:=by rw[<- hlx,hX]; exact ce (agj _ hs0)
 rw[K2 (by omega) hlx hXlt hXlen2 (by omega)];unfold qo;obtain⟨M,hM⟩:∃ M,lx+1=M+(n+2):=⟨lx+1 - (n+2),by omega⟩
 have eM:(((lx+1:Nat):Int) - ((n+2:Nat):Int))=(M:Int):=by omega
 have ein2:0+Int.toNat (((n+2:Nat):Int) - 1)=n+1:=by omega
 rw[eM,afo,agI,ein2,ua V (by omega),afu hv1hi];obtain⟨v1,hv1⟩:∃ v1,v1=V / 4294967296 ^ (n+1):=⟨_,rfl⟩
 rw[<- hv1]at hv1lo hv1hi ⊢;have wv1:IntKind.wrap .u64 (v1:Int)=(v1:Int):=by rw[am]; omega
 rw[wv1,aa afg,aa (bI (by omega) (by omega) (by omega) (by omega)),aa afg,aa afh,aa (afi (by rw[al]; omega)),aa afg];have hstart:dl X (lx+1)=dl X M++(dl (X / 4294967296 ^ M%V) (n+2)++List.replicate 0 0):=by
  have hXM:X / 4294967296 ^ M<V:=by
   rw[afs (aY M),hX,hV];have h1:x*2 ^ s<4294967296 ^ lx*2 ^ s:=af2 hxlt hs0;have h2:4294967296 ^ lx=4294967296 ^ (n+1)*4294967296 ^ M:=by rw[<- afx]; congr 1; omega
   have h3:=afm (4294967296 ^ M*2 ^ s) hylo;rw[h2,aft]at h1;have e:y*2 ^ s*4294967296 ^ M=y*(4294967296 ^ M*2 ^ s):=by rw[aft,afn (2 ^ s)]
   rw[e]; omega
  rw[afu hXM,afX,afU,<- CA,<- hM]
 rw[hstart];have hQlt:X / V<4294967296 ^ M:=by
  rw[afs hV0];have h1:x*2 ^ s<4294967296 ^ lx*2 ^ s:=af2 hxlt hs0;have h2:4294967296 ^ lx=4294967296 ^ M*4294967296 ^ (n+1):=by rw[<- afx]; congr 1; omega
  have h3:=afq (4294967296 ^ M) (afm (2 ^ s) hylo);rw[hX,hV];rw[h2,aft]at h1;omega
 have hmk:M<=1099511627001:=by omega
 refine aJ (λi=>((M:Int) - 1 - (i:Int),dl X (M - i)++(dl (X / 4294967296 ^ (M - i)%V) (n+2)++List.replicate i 0),List.replicate (M - i) (0:Int)++(dl (X / V) M).drop (M - i))) M ?_ (by omega) (λi hi K=>?_) (λK=>?_)
 ·rw[aht,af6 (by rw[al]; omega),afU];congr 1;omega
 ·obtain⟨j,hj⟩:∃ j,M - i=j+1:=⟨M - i - 1,by omega⟩
  have hj2:M - (i+1)=j:=by omega
  have ei:(M:Int) - 1 - (i:Int)=(j:Int):=by omega
  have ei2:(M:Int) - 1 - ((i+1:Nat):Int)=(j:Int) - 1:=by omega
  rw[hj,hj2,ei,ei2];obtain⟨A,hA⟩:∃ A,A=X / 4294967296 ^ j:=⟨_,rfl⟩
  have hA1:X / 4294967296 ^ (j+1)=A / 4294967296:=by rw[hA,afv,afr]
  obtain⟨n1,n2⟩:=Bz (A:=A) hV0;obtain⟨R,hR⟩:∃ R,R=A / 4294967296%V:=⟨_,rfl⟩
  have hRV:R<V:=by rw[hR]; exact afA _ hV0
  rw[hA1,<- hR];rw[<- hR]at n1 n2;obtain⟨b,hb⟩:∃ b,b=dl X (j+1)++(dl R (n+2)++List.replicate i 0):=⟨_,rfl⟩
  have hblen:b.length=lx+1:=by rw[hb]; simp[al]; omega
  have hbw:InW b:=by
   rw[hb];intro z hz;rcases List.mem_append.1 hz with h | h
   ·exact jk _ _ z h
   ·rcases List.mem_append.1 h with h | h
    ·exact jk _ _ z h
    ·have:=(List.mem_replicate.1 h).2; subst this; omega
  have hbt:b.take j=dl X j:=by rw[hb,agn (by rw[al]; omega),pN X (by omega)]
  have hbd:b.drop j=((A%4294967296:Nat):Int)::(dl R (n+2)++List.replicate i 0):=by rw[hb,dl,afC,agm (by rw[al]; omega),af6 (by rw[al]; omega),aga,hA];rfl
  have hwv:aG ((b.drop j).take (n+2+1))=R*4294967296+A%4294967296:=by rw[hbd,aib,agn (by rw[al]; omega),afH (by rw[al]; omega),aG,qS,afu (ag0 hRV hVlt),afo];omega
  have hbd2:b.drop (j+(n+2+1))=List.replicate i 0:=by rw[<- List.drop_drop,hbd,List.drop_succ_cons,agm (by rw[al]; omega),af6 (by rw[al]; omega),aga]
  have hcv:aG ((dl V (n+2+1)).take (n+2))=V:=by rw[pN V (by omega),qS,afu hVlt]
  have hAm:A%4294967296<4294967296:=afA _ (by decide);have hUlt:R*4294967296+A%4294967296<V*4294967296:=by have:=afm 4294967296 hRV;rw[agS]at this;omega
  have hnext:dl X j++(dl (A%V) (n+2+1)++List.replicate i 0)=dl X j++(dl (A%V) (n+2)++List.replicate (i+1) 0):=by rw[Ft (ag0 (afA A hV0) hVlt) 1,afC,af5];rfl
  have hdg:X / V / 4294967296 ^ j%4294967296=A / V%4294967296:=by rw[hA,afr,afr,afn V]
  have hql:(List.replicate (j+1) (0:Int)++(dl (X / V) M).drop (j+1)).length=M:=by simp[al]; omega
  have hstep:=Wx (s:=(s:Int)) (j:=j) (b:=b) (ul:=lx+1) (ql:=List.replicate (j+1) (0:Int)++(dl (X / V) M).drop (j+1)) hN hVlt hVge hv1 hv1lo hv1hi hbw hblen (by omega) (by omega) (by omega) (by rw[hwv]; exact hUlt);rw[<- hb,hstep,hwv,n1,n2,hbt,hbd2,hnext,<- hdg,Gx _ _ _ (by omega),<- hA]
 ·simp only[jF];have e0:(M:Int) - 1 - (M:Int) = -1:=by omega
  rw[e0,afj (by omega),afk,afT,ag7,ag_,afX,aga,agN];obtain⟨L,hL⟩:∃ L,L=dl X 0++(dl (X%V) (n+2)++List.replicate M 0):=⟨_,rfl⟩
  have hRlt:X%V<4294967296 ^ (n+2):=ag0 (afA _ hV0) hVlt;have hLt:L.take (n+2)=dl (X%V) (n+2):=by rw[hL,show dl X 0=[] from rfl,aga,agn (by rw[al]; omega),afH (by rw[al]; omega)]
  have hLw:InW L:=by
   rw[hL];intro z hz;rcases List.mem_append.1 hz with h | h
   ·cases h
   ·rcases List.mem_append.1 h with h | h
    ·exact jk _ _ z h
    ·have:=(List.mem_replicate.1 h).2; subst this; omega
  have hLlen:n+2<=L.length:=by rw[hL]; simp[al]
  have en:Int.toNat ((n+2:Nat):Int) - 0=n+2:=by omega
  rw[<- hL,lI _ (by rw[al]; omega) (by rw[al]; omega),en,aa (afi (by omega)),Ln L (n+2) hLlen (by omega) (by omega)];have hcl:=jX L (n+2);rw[DQ L hLw (bZ L (n+2)) s (by omega) g1 (by omega) (by omega),sr,hLt,qS,afu hRlt,al,Aj hQlt];have hQlen:=cU _ _ hQlt;rw[aa (afi (by omega)),agN,pN _ hQlen,QH,hX,hV,ah2 _ _ hs0,ah3,ag8 _ hs0]
theorem ur {N:Nat} (hN:1180591620717411303424<=N) {x y:Nat} (hy:0<y) (hxl:(aj x).length<=1099511627000) (hyl:(aj y).length<=1099511627000) (k:Kz0) :
  yh N (aj x) (aj y) k=k (aj (x / y)) (aj (x%y)):=by
 by_cases hxy:y<=x
 ·by_cases h2:2<=(aj y).length
  ·exact A7 hN hxy h2 hxl k
  ·have hylt:=ja y;have hl1:(aj y).length=1:=by rw[cI (by omega)]at h2 ⊢; simp at h2 ⊢; exact h2
   rw[hl1,aik]at hylt;have hd:=t_ (by omega:y ≠ 0) hylt;have hc:decide (dM x y<0)=false:=by unfold dM; rw[if_neg (by omega)]; split <;> rfl
   (unfold yh; rw[ac]; unfold Nt)
   rw[iJ x y ⟨by omega,by omega⟩ ⟨by omega,by omega⟩,hc,afk,hd];show cond (((1:Nat):Int)==1) _ _=_;rw[show(((1:Nat):Int)==1)=true from rfl,afl,aa (ai (by omega) (by simp))];show oZ N (aj x) (y:Int) _=_;have hm:x%y<4294967296:=ag0 (afA _ hy) hylt;have hw:InW [((x%y:Nat):Int)]:=by intro z hz;simp only[agJ,aho,or_false]at hz;subst hz; omega
   have hv:aG [((x%y:Nat):Int)]=x%y:=by simp only[aG]; omega
   have hct:=dN (N:=N) [((x%y:Nat):Int)] hw (by simp; omega) (by simp) (λz=>k (aj (x / y)) z);rw[hv]at hct;rw[Ik hy hylt ⟨by omega,by omega⟩];exact hct
 ·have hc:decide (dM x y<0)=true:=by unfold dM; rw[if_pos (by omega)]; rfl
  (unfold yh; rw[ac]; unfold Nt)
  rw[iJ x y ⟨by omega,by omega⟩ ⟨by omega,by omega⟩,hc,afl,aga,aa (afi (by omega)),afO (by omega),afu (by omega),be]
theorem F8 {N V f:Nat} (hf:f<4294967296000) (hN:20<N) (hs:f7 N (aj V)) (hf2:f<4294967296\/True) (hlt:V / 2 ^ f<18446744073709551616) (hr:∀ kk,Cf N (aj V) (f:Int) kk=kk (aj (V / 2 ^ f))) (k:Kz2):ra N (aj V) (f:Int) k=k ((V / 2 ^ f:Nat):Int):=by
 (unfold ra; rw[ac]; unfold vm)
 have wf:IntKind.wrap .u64 (f:Int)=(f:Int):=by rw[am]; omega
 rw[wf,hr];obtain⟨Y,hY⟩:∃ Y,Y=V / 2 ^ f:=⟨_,rfl⟩
 rw[<- hY]at hlt ⊢;have hl2:(aj Y).length<=2:=cU 2 Y (by
  have:(4294967296:Nat) ^ 2=18446744073709551616:=by decide
  omega)
 have hYl:=ja Y;obtain⟨L,hL⟩:∃ L,(aj Y).length=L:=⟨_,rfl⟩
 rw[hL]at hl2 hYl ⊢;rw[aa afg];refine aJ (λi=>(((Y / 4294967296 ^ (L - i):Nat):Int),(L:Int) - 1 - (i:Int))) L ?_ (by omega) (λi hi K=>?_) (λK=>?_)
 ·rw[aht,afO hYl]; simp
 ·obtain⟨m,hm⟩:∃ m,L - i=m+1:=⟨L - i - 1,by omega⟩
  have hm2:L - (i+1)=m:=by omega
  have ei:(L:Int) - 1 - (i:Int)=(m:Int):=by omega
  have ei2:(L:Int) - 1 - ((i+1:Nat):Int)=(m:Int) - 1:=by omega
  rw[hm,hm2,ei,ei2];have hp:Y / 4294967296 ^ (m+1)=Y / 4294967296 ^ m / 4294967296:=by rw[afv,afr]
  have hle:=agW Y (4294967296 ^ m);simp only[l8,afo];rw[afi (by omega:(m:Int)>=0),afl,hL,aa afh,aa afg,nw,hp];generalize Y / 4294967296 ^ m=Z at *;rw[Rz (by omega) (by omega)];congr 2;omega
 ·simp only[l8];have e0:(L:Int) - 1 - (L:Int) = -1:=by omega
  rw[e0,afj (by omega),afk,afT,ag7,ag_]
def sgn (neg:Bool) (n:Nat):Int:=cond neg (-(n:Int)) (n:Int)
theorem db (n:Nat):sgn true n = -(n:Int):=rfl
theorem dy (n:Nat):sgn false n=(n:Int):=rfl
def Cm (x0 y0 a b c d:Nat) (odd:Bool):Prop:=
 ∃ p q,x0=d*p+b*q/\y0=c*p+a*q/\(cond odd (b*c=a*d+1) (a*d=b*c+1))/\(cond odd (d<=q/\q+a+c<=p) (c<=q/\q+b+d<=p))/\1<=b/\1<=c/\1<=d/\a<=1073741824/\b<=1073741824/\c<=1073741824/\d<=1073741824
theorem G3 {N:Nat} {x0 y0:Nat} (hx0:x0<4611686018427387904) (hy0:y0<4611686018427387904) :
  ∀ q p a b c d odd M,q<M->x0=d*p+b*q->y0=c*p+a*q->(cond odd (b*c=a*d+1) (a*d=b*c+1)) ->
   a<=1073741824->b<=1073741824->c<=1073741824->d<=1073741824->1<=d->p<=x0 ->
   ((odd=false/\a=1/\b=0/\c=0/\d=1/\q<=p)\/(1<=b/\1<=c/\(cond odd (d<=q/\q+a+c<p) (c<=q/\q+b+d<p)))) ->
   ∃ a' b' c' d':Nat,∃ odd',(b'=0/\odd'=false\/Cm x0 y0 a' b' c' d' odd') /\ ∀ e0,ah M (p9 N e0) (sgn odd a,sgn (!odd) b,sgn (!odd) c,sgn odd d,(p:Int),(q:Int))=e0 (sgn odd' a') (sgn (!odd') b') (sgn (!odd') c') (sgn odd' d'):=by
 intro q;induction q using Nat.strongRecOn with
 | ind q ih=>
 intro p a b c d odd M hM h1 h2 hdet ha hb hc hd hd1 hp hor;obtain⟨M,rfl⟩:∃ m,M=m+1:=⟨M - 1,by omega⟩
 have hgood:b=0/\odd=false\/Cm x0 y0 a b c d odd:=by
  rcases hor with h | ⟨k1,k2,k3⟩
  ·exact .inl ⟨h.2.2.1,h.1⟩
  ·refine .inr ⟨p,q,h1,h2,hdet,?_,k1,k2,hd1,ha,hb,hc,hd⟩;cases odd
   ·simp only[afk]at k3 ⊢; omega
   ·simp only[afl]at k3 ⊢; omega
 have stop:∀(P:(Int->Int->Int->Int->Bool)->Bool),(∀ e0,P e0=e0 (sgn odd a) (sgn (!odd) b) (sgn (!odd) c) (sgn odd d)) -> ∃ a' b' c' d':Nat,∃ odd',(b'=0/\odd'=false\/Cm x0 y0 a' b' c' d' odd') /\ ∀ e0,P e0=e0 (sgn odd' a') (sgn (!odd') b') (sgn (!odd') c') (sgn odd' d'):=
  λP hP=>⟨a,b,c,d,odd,hgood,hP⟩
 have hpq:p*1<=d*p:=by rw[afn d]; exact afq _ hd1
 have hcp:c*p<=y0:=by omega
 have hdp:d*p<=x0:=by omega
 have hql:q<=p:=by
  rcases hor with h | ⟨k1,k2,k3⟩
  ·exact h.2.2.2.2.2
  ·cases odd
   ·simp only[afk]at k3; omega
   ·simp only[afl]at k3; omega
 obtain⟨u1,hu1⟩:∃ u1:Nat,(q:Int)+sgn (!odd) c=(u1:Int):=by
  rcases hor with h | ⟨k1,k2,k3⟩
  ·obtain⟨e1,e2,e3,e4,e5,e6⟩:=h;subst e1 e4; exact⟨q,by simp[sgn]⟩
  ·cases odd
   ·simp only[afk]at k3;exact⟨q - c,by simp only[af1,db]; omega⟩
   ·exact⟨q+c,by simp only[agd,dy]; omega⟩
 obtain⟨u2,hu2⟩:∃ u2:Nat,(q:Int)+sgn odd d=(u2:Int):=by
  rcases hor with h | ⟨k1,k2,k3⟩
  ·obtain⟨e1,e2,e3,e4,e5,e6⟩:=h;subst e1; exact⟨q+d,by simp only[dy]; omega⟩
  ·cases odd
   ·exact⟨q+d,by simp only[dy]; omega⟩
   ·simp only[afl]at k3;exact⟨q - d,by simp only[db]; omega⟩
 obtain⟨t1,ht1⟩:∃ t1:Nat,(p:Int)+sgn odd a=(t1:Int):=by
  rcases hor with h | ⟨k1,k2,k3⟩
  ·obtain⟨e1,e2,e3,e4,e5,e6⟩:=h;subst e1; exact⟨p+a,by simp only[dy]; omega⟩
  ·cases odd
   ·exact⟨p+a,by simp only[dy]; omega⟩
   ·simp only[afl]at k3;exact⟨p - a,by simp only[db]; omega⟩
 obtain⟨t2,ht2⟩:∃ t2:Nat,(p:Int)+sgn (!odd) b=(t2:Int):=by
  rcases hor with h | ⟨k1,k2,k3⟩
  ·obtain⟨e1,e2,e3,e4,e5,e6⟩:=h;subst e1 e3; exact⟨p,by simp[sgn]⟩
  ·cases odd
   ·simp only[afk]at k3;exact⟨p - b,by simp only[af1,db]; omega⟩
   ·exact⟨p+b,by simp only[agd,dy]; omega⟩
 have t1b:t1<=p+a:=by cases odd <;> simp only[db,dy]at ht1 <;> omega
 have t2b:t2<=p+b:=by cases odd <;> simp only[agd,af1,db,dy]at ht2 <;> omega
 have u1b:u1<=q+c:=by cases odd <;> simp only[agd,af1,db,dy]at hu1 <;> omega
 have u2b:u2<=q+d:=by cases odd <;> simp only[db,dy]at hu2 <;> omega
 by_cases c1:u1=0
 ·refine stop _ λe0=>?_
  show p9 N e0 _ (ah M _)=_;simp only[p9,hu1];have:(((u1:Nat):Int) != 0)=false:=by simp; omega
  rw[aa afg,this,show(false==true)=false from rfl,afk]
 have n1:(((u1:Nat):Int) != 0)=true:=by simp; omega
 have m1:(!decide ((u1:Int)=0))=true:=by simp; omega
 by_cases c2:u2=0
 ·refine stop _ λe0=>?_
  show p9 N e0 _ (ah M _)=_;simp only[p9,hu1,hu2];have:(((u2:Nat):Int) != 0)=false:=by simp; omega
  rw[aa afg,n1,show(true==true)=true from rfl,afl,aa afg,this,afk]
 have n2:(((u2:Nat):Int) != 0)=true:=by simp; omega
 have m2:(!decide ((u2:Int)=0))=true:=by simp; omega
 obtain⟨k1,hk1⟩:∃ k1,k1=t1 / u1:=⟨_,rfl⟩
 obtain⟨k2,hk2⟩:∃ k2,k2=t2 / u2:=⟨_,rfl⟩
 have k1b:k1<=t1:=by rw[hk1]; exact agW _ _
 have k2b:k2<=t2:=by rw[hk2]; exact agW _ _
 have d1:Int.tdiv (t1:Int) (u1:Int)=(k1:Int):=by rw[hk1]; rfl
 have d2:Int.tdiv (t2:Int) (u2:Int)=(k2:Int):=by rw[hk2]; rfl
 by_cases c3:k1=k2
 ·obtain⟨n,hn⟩:∃ n,n=k1:=⟨_,rfl⟩
  have hn2:n=k2:=by omega
  obtain⟨r1,hr1⟩:∃ r1,r1=t1%u1:=⟨_,rfl⟩
  obtain⟨r2,hr2⟩:∃ r2,r2=t2%u2:=⟨_,rfl⟩
  have E1:t1=n*u1+r1:=by rw[hn,hk1,hr1]; exact(agi t1 u1).symm
  have E2:t2=n*u2+r2:=by rw[hn2,hk2,hr2]; exact(agi t2 u2).symm
  have hr1l:r1<u1:=by rw[hr1]; exact afA _ (by omega)
  have hr2l:r2<u2:=by rw[hr2]; exact afA _ (by omega)
  have bnc:n*c<=4611686018427387904+1152921504606846976:=by
   have s1:n*c<=(p+a)*c:=afm _ (by omega);have s2:(p+a)*c=c*p+a*c:=by rw[afM,afn p]
   have s3:a*c<=1073741824*1073741824:=af7 ha hc;omega
  have bnd:n*d<=4611686018427387904+1152921504606846976:=by
   have s1:n*d<=(p+b)*d:=afm _ (by omega);have s2:(p+b)*d=d*p+b*d:=by rw[afM,afn p]
   have s3:b*d<=1073741824*1073741824:=af7 hb hd;omega
  have icn:(n:Int)*sgn (!odd) c=sgn (!odd) (n*c):=by cases odd <;> simp only[agd,af1,db,dy,afF,aig]
  have idn:(n:Int)*sgn odd d=sgn odd (n*d):=by cases odd <;> simp only[db,dy,afF,aig]
  have e2:sgn odd a - sgn (!odd) (n*c)=sgn odd (a+n*c):=by cases odd <;> simp only[agd,af1,db,dy] <;> omega
  have f2:sgn (!odd) b - sgn odd (n*d)=sgn (!odd) (b+n*d):=by cases odd <;> simp only[agd,af1,db,dy] <;> omega
  have hnq:n*q<=p/\(cond odd (p - n*q+b+n*d=r2/\p - n*q=r1+a+n*c) (p - n*q+a+n*c=r1/\p - n*q=r2+b+n*d)):=by
   cases odd with
   | false=>
    simp only[af1,db,dy]at hu1 hu2 ht1 ht2;simp only[afk];have w2:u2=q+d:=by omega
    have w3:t2+b=p:=by omega
    have w1:u1+c=q:=by omega
    have w4:t1=p+a:=by omega
    have z1:n*u2=n*q+n*d:=by rw[w2,afB]
    have z2:n*q=n*u1+n*c:=by rw[<- w1,afB]
    omega
   | true=>
    simp only[agd,db,dy]at hu1 hu2 ht1 ht2;simp only[afl];have w2:u2+d=q:=by omega
    have w3:t2=p+b:=by omega
    have w1:u1=q+c:=by omega
    have w4:t1+a=p:=by omega
    have z1:n*q=n*u2+n*d:=by rw[<- w2,afB]
    have z2:n*u1=n*q+n*c:=by rw[w1,afB]
    omega
  obtain⟨hnq,hnext⟩:=hnq;have inq:(n:Int)*(q:Int)=((n*q:Nat):Int):=(afF _ _).symm;have ipq:(p:Int) - ((n*q:Nat):Int)=((p - n*q:Nat):Int):=by omega
  have fbd1 : -9223372036854775808<=sgn (!odd) (n*c)/\sgn (!odd) (n*c)<=9223372036854775807:=by cases odd <;> simp only[agd,af1,db,dy] <;> omega
  have fbd2 : -9223372036854775808<=sgn odd (a+n*c)/\sgn odd (a+n*c)<=9223372036854775807:=by cases odd <;> simp only[db,dy] <;> omega
  have fbd3 : -9223372036854775808<=sgn odd (n*d)/\sgn odd (n*d)<=9223372036854775807:=by cases odd <;> simp only[db,dy] <;> omega
  have fbd4 : -9223372036854775808<=sgn (!odd) (b+n*d)/\sgn (!odd) (b+n*d)<=9223372036854775807:=by cases odd <;> simp only[agd,af1,db,dy] <;> omega
  have ne3:(((k1:Nat):Int) != ((k2:Nat):Int))=false:=by simp[c3]
  have body:∀ e0,ah (M+1) (p9 N e0) (sgn odd a,sgn (!odd) b,sgn (!odd) c,sgn odd d,(p:Int),(q:Int)) =
    cond ((decide (sgn odd (a+n*c)>1073741824))==false) (cond ((decide (sgn odd (a+n*c)<(-1073741824)))==false) (cond ((decide (sgn (!odd) (b+n*d)>1073741824))==false) (cond (decide (sgn (!odd) (b+n*d)<(-1073741824))) (e0 (sgn odd a) (sgn (!odd) b) (sgn (!odd) c) (sgn odd d)) (ah M (p9 N e0) (sgn (!odd) c,sgn odd d,sgn odd (a+n*c),sgn (!odd) (b+n*d),(q:Int),((p - n*q:Nat):Int)))) (e0 (sgn odd a) (sgn (!odd) b) (sgn (!odd) c) (sgn odd d))) (e0 (sgn odd a) (sgn (!odd) b) (sgn (!odd) c) (sgn odd d))) (e0 (sgn odd a) (sgn (!odd) b) (sgn (!odd) c) (sgn odd d)):=by
   intro e0;show p9 N e0 _ (ah M _)=_;simp only[p9,hu1,hu2,ht1,ht2,d1,d2,ne3,afk];rw[<- hn];simp only[icn,idn,e2,f2,inq,ipq];rw[aa afg,n1,show(true==true)=true from rfl,afl,aa afg,n2,afl,aa afg,aa afg,aa m1,aa afg,aa afg,aa afg,aa m2,aa afg,aa (ab fbd1.1 fbd1.2),aa (ab fbd2.1 fbd2.2),aa (ab fbd3.1 fbd3.2),aa (ab fbd4.1 fbd4.2),aa afg,aa afg]
  by_cases c4:a+n*c<=1073741824
  ·by_cases c5:b+n*d<=1073741824
   ·have q1:decide (sgn odd (a+n*c)>1073741824)=false:=afj (by cases odd <;> simp only[db,dy] <;> omega);have q2:decide (sgn odd (a+n*c)<(-1073741824))=false:=afj (by cases odd <;> simp only[db,dy] <;> omega);have q3:decide (sgn (!odd) (b+n*d)>1073741824)=false:=afj (by cases odd <;> simp only[agd,af1,db,dy] <;> omega);have q4:decide (sgn (!odd) (b+n*d)<(-1073741824))=false:=afj (by cases odd <;> simp only[agd,af1,db,dy] <;> omega);have hn1:1<=n:=by
     rw[hn,hk1];refine ahL ?_ (by omega);rcases hor with h | ⟨g1,g2,g3⟩
     ·obtain⟨z1,z2,z3,z4,z5,z6⟩:=h;subst z1 z2 z4;simp only[af1,db,dy]at hu1 ht1;omega
     ·cases odd
      ·simp only[afk]at g3;simp only[af1,db,dy]at hu1 ht1;omega
      ·simp only[afl]at g3;simp only[agd,db,dy]at hu1 ht1;omega
    have hq0:1<=q\/q=0:=by omega
    have hlt:p - n*q<q:=by
     have s1:1*d<=n*d:=afm _ hn1;have s2:1*c<=n*c:=afm _ hn1;cases odd with
     | false=>
      simp only[afk]at hnext;simp only[af1,db]at hu1;omega
     | true=>
      simp only[afl]at hnext;simp only[db]at hu2;omega
    obtain⟨a',b',c',d',odd',g1,g2⟩:=ih (p - n*q) hlt q c d (a+n*c) (b+n*d) (!odd) M (by omega)
     (by
      have s1:(b+n*d)*q=b*q+d*(n*q):=by grind
      have s2:d*(p - n*q)+d*(n*q)=d*p:=by rw[<- afB]; congr 1; omega
      omega)
     (by
      have s1:(a+n*c)*q=a*q+c*(n*q):=by grind
      have s2:c*(p - n*q)+c*(n*q)=c*p:=by rw[<- afB]; congr 1; omega
      omega)
     (by
      have s1:d*(a+n*c)=a*d+n*(c*d):=by grind
      have s2:c*(b+n*d)=b*c+n*(c*d):=by grind
      cases odd with
      | false=>simp only[af1,afl,afk]at hdet ⊢; omega
      | true=>simp only[agd,afl,afk]at hdet ⊢; omega)
     hc hd c4 c5 (by have s1:1*d<=n*d:=afm _ hn1;omega) (by omega)
     (.inr ⟨hd1,(by
      rcases hor with h | ⟨z1,z2,z3⟩
      ·omega
      ·have s2:1*c<=n*c:=afm _ hn1;omega),by
      cases odd with
      | false=>
       simp only[afk]at hnext;simp only[af1,db,dy,afl]at hu1 hu2 ⊢;omega
      | true=>
       simp only[afl]at hnext;simp only[agd,db,dy,afk]at hu1 hu2 ⊢;omega⟩)
    refine⟨a',b',c',d',odd',g1,λe0=>?_⟩;have:=g2 e0;rw[Bool.not_not]at this;rw[body,q1,q2,q3,q4];exact this
   ·refine stop _ λe0=>?_
    rw[body];cases odd with
    | false=>
     have q1:decide (sgn false (a+n*c)>1073741824)=false:=afj (by simp only[dy]; omega);have q2:decide (sgn false (a+n*c)<(-1073741824))=false:=afj (by simp only[dy]; omega);have q3:decide (sgn (!false) (b+n*d)>1073741824)=false:=afj (by simp only[af1,db]; omega);have q4:decide (sgn (!false) (b+n*d)<(-1073741824))=true:=afi (by simp only[af1,db]; omega);rw[q1,q2,q3,q4];rfl
    | true=>
     have q1:decide (sgn true (a+n*c)>1073741824)=false:=afj (by simp only[db]; omega);have q2:decide (sgn true (a+n*c)<(-1073741824))=false:=afj (by simp only[db]; omega);have q3:decide (sgn (!true) (b+n*d)>1073741824)=true:=afi (by simp only[agd,dy]; omega);rw[q1,q2,q3];rfl
  ·refine stop _ λe0=>?_
   rw[body];cases odd with
   | false=>
    have q1:decide (sgn false (a+n*c)>1073741824)=true:=afi (by simp only[dy]; omega);rw[q1];rfl
   | true=>
    have q1:decide (sgn true (a+n*c)>1073741824)=false:=afj (by simp only[db]; omega);have q2:decide (sgn true (a+n*c)<(-1073741824))=true:=afi (by simp only[db]; omega);rw[q1,q2];rfl
 ·refine stop _ λe0=>?_
  show p9 N e0 _ (ah M _)=_;simp only[p9,hu1,hu2,ht1,ht2,d1,d2];have:(((k1:Nat):Int) != ((k2:Nat):Int))=true:=by simp; omega
  rw[aa afg,n1,show(true==true)=true from rfl,afl,aa afg,n2,afl,aa afg,aa afg,aa m1,aa afg,aa afg,aa afg,aa m2,aa afg,this,afl]
theorem Il {N:Nat} (hN:1180591620717411303424<=N) {x0 y0:Nat} (hx0:x0<4611686018427387904) (hyx:y0<=x0):∃ a b c d:Nat,∃ odd,(b=0/\odd=false\/Cm x0 y0 a b c d odd) /\ ∀ k,ti N (x0:Int) (y0:Int) k=k (sgn odd a) (sgn (!odd) b) (sgn (!odd) c) (sgn odd d):=by
 obtain⟨a,b,c,d,odd,h1,h2⟩:=G3 (N:=N) (x0:=x0) (y0:=y0) hx0 (by omega) y0 x0 1 0 0 1 false N (by omega) (by omega) (by omega) rfl (by omega) (by omega) (by omega) (by omega) (by omega) (by omega) (.inl ⟨rfl,rfl,rfl,rfl,rfl,hyx⟩);refine⟨a,b,c,d,odd,h1,λk=>?_⟩
 (unfold ti; rw[ac]; unfold rY)
 rw[aa afg,aa afg];exact h2 _
theorem Q5 {a b c d X Y:Nat} (hdet:b*c=a*d+1) (g1:a*X<=b*Y) (g2:d*Y<=c*X):X=d*(b*Y - a*X)+b*(c*X - d*Y)/\Y=c*(b*Y - a*X)+a*(c*X - d*Y):=by
 obtain⟨U,hU⟩:=ag5 g1;obtain⟨V,hV⟩:=ag5 g2;rw[<- hU,<- hV,afZ,afZ];constructor
 ·have t1:d*(b*Y)=d*(a*X)+d*U:=by rw[<- hU,afB]
  have t2:b*(c*X)=b*(d*Y)+b*V:=by rw[<- hV,afB]
  have t3:b*(c*X)=(a*d+1)*X:=by rw[<- hdet,aft]
  have t4:(a*d+1)*X=d*(a*X)+X:=by grind
  have t5:d*(b*Y)=b*(d*Y):=by grind
  omega
 ·have t1:c*(b*Y)=c*(a*X)+c*U:=by rw[<- hU,afB]
  have t2:a*(c*X)=a*(d*Y)+a*V:=by rw[<- hV,afB]
  have t3:c*(b*Y)=(a*d+1)*Y:=by rw[<- hdet]; grind
  have t4:(a*d+1)*Y=a*(d*Y)+Y:=by grind
  have t5:c*(a*X)=a*(c*X):=by grind
  omega
theorem Hp {x0 y0 a b c d F rx ry X Y:Nat} (h:Cm x0 y0 a b c d true) (hrx:rx<F) (hry:ry<F) (hX:X=x0*F+rx) (hY:Y=y0*F+ry) :
  a*X<=b*Y/\d*Y<=c*X/\c*X - d*Y<=b*Y - a*X/\X=d*(b*Y - a*X)+b*(c*X - d*Y)/\Y=c*(b*Y - a*X)+a*(c*X - d*Y):=by
 obtain⟨p,q,h1,h2,hdet,hin,hb1,hc1,hd1,hal,hbl,hcl,hdl⟩:=h;simp only[afl]at hdet hin;obtain⟨hdq,hpq⟩:=hin;have e1:b*Y+a*rx=a*X+(p*F+b*ry):=by
  subst h1 h2 hX hY;have:b*(c*p*F)=(a*d+1)*(p*F):=by rw[<- hdet]; grind
  grind
 have e2:c*X+d*ry=d*Y+(q*F+c*rx):=by
  subst h1 h2 hX hY;have:b*c*(q*F)=(a*d+1)*(q*F):=by rw[<- hdet]
  grind
 have m1:a*rx<=a*F:=afq _ (by omega);have m3:d*ry<=d*F:=afq _ (by omega);have m4:d*F<=q*F:=afm _ hdq;have m5:(q+a+c)*F<=p*F:=afm _ hpq;rw[afM,afM]at m5;have m6:c*rx<=c*F:=afq _ (by omega);have g1:a*X<=b*Y:=by omega
 have g2:d*Y<=c*X:=by omega
 obtain⟨i1,i2⟩:=Q5 hdet g1 g2;exact⟨g1,g2,by omega,i1,i2⟩
theorem ES {x0 y0 a b c d F rx ry X Y:Nat} (h:Cm x0 y0 a b c d false) (hrx:rx<F) (hry:ry<F) (hX:X=x0*F+rx) (hY:Y=y0*F+ry) :
  b*Y<=a*X/\c*X<=d*Y/\d*Y - c*X<=a*X - b*Y/\X=d*(a*X - b*Y)+b*(d*Y - c*X)/\Y=c*(a*X - b*Y)+a*(d*Y - c*X):=by
 obtain⟨p,q,h1,h2,hdet,hin,hb1,hc1,hd1,hal,hbl,hcl,hdl⟩:=h;simp only[afk]at hdet hin;obtain⟨hdq,hpq⟩:=hin;have e1:a*X+b*ry=b*Y+(p*F+a*rx):=by
  subst h1 h2 hX hY;have:a*d*(p*F)=(b*c+1)*(p*F):=by rw[<- hdet]
  grind
 have e2:d*Y+c*rx=c*X+(q*F+d*ry):=by
  subst h1 h2 hX hY;have:a*d*(q*F)=(b*c+1)*(q*F):=by rw[<- hdet]
  grind
 have m1:b*ry<=b*F:=afq _ (by omega);have m3:c*rx<=c*F:=afq _ (by omega);have m4:c*F<=q*F:=afm _ hdq;have m5:(q+b+d)*F<=p*F:=afm _ hpq;rw[afM,afM]at m5;have m6:d*ry<=d*F:=afq _ (by omega);have g1:b*Y<=a*X:=by omega
 have g2:c*X<=d*Y:=by omega
 refine⟨g1,g2,by omega,?_,?_⟩
 ·obtain⟨U,hU⟩:=ag5 g1;obtain⟨V,hV⟩:=ag5 g2;rw[<- hU,<- hV,afZ,afZ];have t1:d*(a*X)=d*(b*Y)+d*U:=by rw[<- hU,afB]
  have t2:b*(d*Y)=b*(c*X)+b*V:=by rw[<- hV,afB]
  have t3:d*(a*X)=(b*c+1)*X:=by rw[<- hdet]; grind
  have t4:(b*c+1)*X=b*(c*X)+X:=by grind
  have t5:d*(b*Y)=b*(d*Y):=by grind
  omega
 ·obtain⟨U,hU⟩:=ag5 g1;obtain⟨V,hV⟩:=ag5 g2;rw[<- hU,<- hV,afZ,afZ];have t1:c*(a*X)=c*(b*Y)+c*U:=by rw[<- hU,afB]
  have t2:a*(d*Y)=a*(c*X)+a*V:=by rw[<- hV,afB]
  have t3:a*(d*Y)=(b*c+1)*Y:=by rw[<- hdet]; grind
  have t4:(b*c+1)*Y=c*(b*Y)+Y:=by grind
  have t5:c*(a*X)=a*(c*X):=by grind
  omega
theorem A9 {N X Y u v:Nat} (hN:1180591620717411303424<=N) (sX:(aj X).length<=1099511627000) (sY:(aj Y).length<=1099511627000) (hu:u<=1073741824) (hv:v<=1073741824) (hle:v*Y<=u*X) (k:Kz6) :
  J4 N (aj X) (u:Int) (aj Y) (v:Int) k=k (aj (u*X - v*Y)):=by
 (unfold J4; rw[ac]; unfold Np)
 have lu:=cU 1 u (by rw[aik]; omega);have lv:=cU 1 v (by rw[aik]; omega);have lX:=cU ((aj X).length+1) (X*u) (by rw[afv]; exact agp (ja X) (by omega))
 rw[uv u (by omega) (by omega),yc _ _ (bv _) (bv _) (by omega) (by omega),uv v (by omega) (by omega),yc _ _ (bv _) (bv _) (by omega) (by omega),aM,aM,aM,aM,
  ya _ _ (bv _) (bv _) (by rw[aM,aM,afn X,afn Y]; exact hle) ⟨by omega,by omega⟩,aM,aM,afn X,afn Y]
theorem yW {N X Y u v:Nat} (hN:1180591620717411303424<=N) (sX:(aj X).length<=1099511627000) (sY:(aj Y).length<=1099511627000) (hu:u<=1073741824) (hv:v<=1073741824) (hle:v*Y<=u*X) (k:Kz6) :
  nE N (aj X) (u:Int) (aj Y) (-(v:Int)) k=k (aj (u*X - v*Y)):=by
 (unfold nE; rw[ac]; unfold tQ)
 have w1:IntKind.wrap .u64 (u:Int)=(u:Int):=by rw[am]; omega
 have w2:IntKind.wrap .u64 (0 - -(v:Int))=(v:Int):=by rw[am]; omega
 rw[afi (by omega : -(v:Int)<=0),afl,aa afg,w1,w2,A9 hN sX sY hu hv hle]
theorem yV {N X Y u v:Nat} (hN:1180591620717411303424<=N) (sX:(aj X).length<=1099511627000) (sY:(aj Y).length<=1099511627000) (hu:u<=1073741824) (hv:v<=1073741824) (hv1:1<=v) (hle:u*X<=v*Y) (k:Kz6) :
  nE N (aj X) (-(u:Int)) (aj Y) (v:Int) k=k (aj (v*Y - u*X)):=by
 (unfold nE; rw[ac]; unfold tQ)
 have w1:IntKind.wrap .u64 (v:Int)=(v:Int):=by rw[am]; omega
 have w2:IntKind.wrap .u64 (0 - -(u:Int))=(u:Int):=by rw[am]; omega
 rw[afj (by omega:¬(v:Int)<=0),afk,aa afg,w1,w2,A9 hN sY sX hv hu hle]
theorem Fc {N:Nat} (hN:1180591620717411303424<=N) (e0:List Int->Bool):∀(b a M:Nat),b<M->(aj a).length<=1099511627000->(aj b).length<=1099511627000->ah M (yq N e0) (aj a,aj b)=e0 (aj (Nat.gcd a b)):=by
 intro b;induction b using Nat.strongRecOn with
 | ind b ih=>
 intro a M hM ha hb;obtain⟨M,rfl⟩:∃ m,M=m+1:=⟨M - 1,by omega⟩
 show yq N e0 (aj a,aj b) (ah M _)=_;simp only[yq];by_cases h:b=0
 ·subst h;have:(((aj 0).length:Nat):Int)=0:=by rw[be]; rfl
  rw[this,afj (by omega),afk,ahS]
 ·have hp:0<(aj b).length:=by rw[cI h]; simp
  have hm:=afA a (by omega:b>0);have hml:=ce (Nat.le_of_lt hm);rw[afi (by omega),afl,ur hN (by omega) ha hb,ih (a%b) hm b M (by omega) hb (by omega),agB b,<- ail,agB]
theorem qM {N V f:Nat} (hf:f<140737488355328) (hs:(aj V).length+3<N/\(aj V).length<=1099511627000) (k:Kz6):Cf N (aj V) (f:Int) k=k (aj (V / 2 ^ f)):=by
 have hm:=bv V;have hmv:=aM V
 (unfold Cf; rw[ac]; unfold TR)
 obtain⟨hN1,hN2⟩:=hs;have ew:IntKind.wrap .u64 (Int.tdiv (f:Int) 32)=((f / 32:Nat):Int):=by rw[am,ago (by omega)]; omega
 have es:Int.tmod (f:Int) 32=((f%32:Nat):Int):=by rw[age (by omega)]; rfl
 rw[ew,es,aa afg];have hp2:2 ^ f=4294967296 ^ (f / 32)*2 ^ (f%32):=xc f;obtain⟨w,hw⟩:∃ w,w=f / 32:=⟨_,rfl⟩
 obtain⟨s,hsh⟩:∃ s,s=f%32:=⟨_,rfl⟩
 rw[<- hw,<- hsh]at hp2 ⊢;have hs32:s<32:=by omega
 have hs0:0<2 ^ s:=afy s;obtain⟨m,hme⟩:∃ m,m=aj V:=⟨_,rfl⟩
 rw[<- hme]at hm hmv hN1 hN2 ⊢;by_cases h0:m.length<=w
 ·rw[afi (by omega:((w:Nat):Int)>=m.length),afl];have h1:=fz hm;rw[hmv]at h1;have h2:4294967296 ^ m.length<=4294967296 ^ w:=afz (by decide) h0;have h3:V / 2 ^ f=0:=by rw[hp2];refine afO ?_;have:4294967296 ^ w*1<=4294967296 ^ w*2 ^ s:=afq _ hs0;omega
  rw[h3,be]
 ·rw[afj (by omega:¬((w:Nat):Int)>=m.length),afk];obtain⟨Z,hZ⟩:∃ Z,Z=V / 2 ^ f:=⟨_,rfl⟩
  have elen:Int.toNat ((m.length:Int) - ((w:Nat):Int))=m.length - w:=by omega
  rw[elen,aa afg,aa (bI (by omega) (by omega) (by omega) (by omega)),<- hZ];obtain⟨L,hL⟩:∃ L,L=m.length - w:=⟨_,rfl⟩
  rw[<- hL];refine aJ (λi=>((i:Int),dl Z i++List.replicate (L - i) 0)) L (by simp[dl]) (by omega) (λi hi K=>?_) (λK=>?_)
  ·have hx:=hm.at (i:=w+i);have hy:=hm.at (i:=w+i+1);have hset:=Aq Z i L (by omega);have hl:(dl Z i++List.replicate (L - i) 0).length=L:=by simp[al]; omega
   have ei:Int.toNat ((w:Int)+(i:Int))=w+i:=by omega
   have ei1:Int.toNat ((w:Int)+(i:Int)+1)=w+i+1:=by omega
   have emin:min s 64=s:=by omega
   obtain⟨R,hR⟩:=Cy hm (w+i);rw[hmv]at hR;have hdig:Z / 4294967296 ^ i%4294967296=((m.getD (w+i) 0).toNat+4294967296*(m.getD (w+i+1) 0).toNat) / 2 ^ s%4294967296:=by
    rw[hZ,hp2,afr];have e1:4294967296 ^ w*2 ^ s*4294967296 ^ i=4294967296 ^ (w+i)*2 ^ s:=by rw[afx,aft,afn (2 ^ s),<- aft]
    rw[e1,<- afr,hR];have e2:4294967296*4294967296*R=2 ^ s*(4294967296*(2 ^ (32 - s)*R)):=by
     have hs1:2 ^ s*2 ^ (32 - s)=4294967296:=by rw[<- afx,show s+(32 - s)=32 by omega]
     rw[afP (2 ^ s),<- aft (2 ^ s),hs1,aft]
    rw[e2,agh _ _ hs0,agC]
   have hfin:∀ z:Int,z=(((m.getD (w+i) 0).toNat+4294967296*(m.getD (w+i+1) 0).toNat:Nat):Int)->IntKind.wrap .u32 (Int.fdiv z (2 ^ s))=((Z / 4294967296 ^ i%4294967296:Nat):Int):=by
    intro z hz;have e:(2:Int) ^ s=((2 ^ s:Nat):Int):=by simp
    rw[hdig,hz,e,agP _ (by omega),dI];rfl
   simp only[kZ,afo,ei,ei1,emin,hl];rw[afi (by omega:(i:Int)<L),afl,aa afg,aa afh,aa afg,aa afg];by_cases hlast:w+i+1<m.length
   ·rw[afi (by omega:(w:Int)+(i:Int)+1<m.length),afl,aa afg,aa afg,aa afh,aa (afi (by omega)),aa afh,aa (afi (by omega)),aa afg];have e1:IntKind.wrap .u64 (m.getD (w+i) 0)=(((m.getD (w+i) 0).toNat:Nat):Int):=by rw[am]; omega
    have e2:IntKind.wrap .u64 (IntKind.wrap .u64 (m.getD (w+i+1) 0)*2 ^ 32)=((2 ^ 32*(m.getD (w+i+1) 0).toNat:Nat):Int):=by
     have:(2:Int) ^ 32=4294967296:=by decide
     have:(2:Nat) ^ 32=4294967296:=by decide
     rw[am,am]; omega
    have p32:(2:Nat) ^ 32=4294967296:=by decide
    rw[e1,e2,cP _ _ 32 (by omega) (by omega),hfin _ (by omega),hset,kG]
   ·rw[afj (by omega:¬(w:Int)+(i:Int)+1<m.length),afk,aa (afi (by omega)),aa afh,aa (afi (by omega)),aa afg];have hz:m.getD (w+i+1) 0=0:=eP (by omega);have e1:IntKind.wrap .u64 (m.getD (w+i) 0)=(((m.getD (w+i) 0).toNat:Nat):Int):=by rw[am]; omega
    rw[e1,hfin _ (by rw[hz]; simp),hset,kG]
  ·simp only[kZ];have hl:(dl Z L++List.replicate (L - L) 0).length=L:=by simp[al]
   rw[afj (by omega:¬((L:Nat):Int)<(((dl Z L++List.replicate (L - L) (0:Int)).length:Nat):Int)),afk,afT,afX,afU];have hVl:Z<4294967296 ^ L:=by have h1:=fz hm;rw[hmv]at h1;rw[hZ,afs (afy f),hp2,<- aft,<- afx,show L+w=m.length by omega];have:4294967296 ^ m.length*1<=4294967296 ^ m.length*2 ^ s:=afq _ hs0;omega
   rw[dN _ (jk Z _) (by rw[al]; omega) (by rw[al]; omega),qx hVl]
theorem yI {N:Nat} (hN:1180591620717411303424<=N) {u v:List Int} (k:Kz6) :
  ∀ s x y,x+y=s->s<N->y<=x->(aj x).length<=134217728000 ->
   I8 N u v (aj x) (aj y) k=k (aj (Nat.gcd x y)):=by
 intro s x y hs hsN hyx hxl;unfold I8;have main:∀ s x y M,x+y=s->s<M->M<=N->y<=x->(aj x).length<=134217728000 ->
   ah M (BG N (λ(ZY:List Int) (ZW:List Int)=>(ah N (yq N (λ(a_5:List Int)=>((decide ((List.length ([]++a_5))*4<=140737488355328))&&(k ([]++a_5))))) (ZY,ZW)))) (aj x,aj y)=k (aj (Nat.gcd x y)):=by
  intro s;induction s using Nat.strongRecOn with
  | ind s ih=>
  intro x y M hs hsM hMN hyx hxl;obtain⟨M,rfl⟩:∃ m,M=m+1:=⟨M - 1,by omega⟩
  have hyl:=ce hyx;show BG N _ (aj x,aj y) (ah M _)=_;simp only[BG];by_cases h2:3<=(aj y).length
  ·have hyge:18446744073709551616<=y:=by
    rcases agb y 18446744073709551616 with h | h
    ·have:=cU 2 y (by
      have:(4294967296:Nat) ^ 2=18446744073709551616:=by decide
      omega)
     omega
    ·exact h
   have hblx:64<bl x:=by
    rcases agb 64 (bl x)with h | h
    ·exact h
    ·have h1:=yD x;have h3:2 ^ bl x<=2 ^ 64:=afz (by decide) h;rw[oc]at h3;omega
   have hblu:bl x<=32*(aj x).length:=by refine wJ ?_;rw[aif,D8]; exact ja x
   obtain⟨f,hf⟩:∃ f,bl x=f+62:=⟨bl x - 62,by omega⟩
   have ef:(bl x:Int) - 62=(f:Int):=by omega
   have hF0:0<2 ^ f:=afy f;have p62:(2:Nat) ^ 62=4611686018427387904:=by decide
   have hx0l:x / 2 ^ f<4611686018427387904:=by rw[afs hF0,<- p62,<- afx,ahi,<- hf]; exact yD x
   have hy0l:y / 2 ^ f<=x / 2 ^ f:=ahD hyx;rw[afi (by omega),afl,AU false x ⟨by omega,by omega⟩,ef,aa afg,
    F8 (by omega) (by omega) ⟨by omega,by omega⟩ (.inr trivial) (by omega) (λkk=>qM (by omega) ⟨by omega,by omega⟩ kk),
    F8 (by omega) (by omega) ⟨by omega,by omega⟩ (.inr trivial) (by omega) (λkk=>qM (by omega) ⟨by omega,by omega⟩ kk)]
   obtain⟨a,b,c,d,odd,g1,g2⟩:=Il hN hx0l hy0l;rw[g2];rcases g1 with⟨hb0,ho⟩ | hgood
   ·subst hb0 ho;have e0:(sgn (!false) 0==0)=true:=rfl;have hm:=afA x (by omega:y>0);rw[e0,afl,ur hN (by omega) (by omega) (by omega),ih (y+x%y) (by omega) y (x%y) M rfl (by omega) (by omega) (by omega) (by omega),agB y,<- ail,agB]
   ·obtain⟨p,q,z1,z2,z3,z4,hb1,hc1,hd1,hal,hbl,hcl,hdl⟩:=id hgood;have fin:∀ U V:Nat,x=d*U+b*V->y=c*U+a*V->V<=U->U+V<x+y/\U<=x:=by
     intro U V hx hy hvu;have k1:1*U<=d*U:=afm _ hd1;have k2:1*V<=b*V:=afm _ hb1;have k3:1*U<=c*U:=afm _ hc1;have hU0:0<U:=by
      rcases agH U with hu | hu
      ·exfalso;have hv:V=0:=by omega
       rw[hu,hv,agF,agF]at hy;omega
      ·exact hu
     exact⟨by omega,by omega⟩
    cases odd with
    | true=>
     obtain⟨f1,f2,f3,f4,f5⟩:=Hp hgood (afA x hF0) (afA y hF0) (agi x (2 ^ f)).symm (agi y (2 ^ f)).symm;obtain⟨w1,w2⟩:=fin _ _ f4 f5 f3;have hgc:=wO f4 f5 (ahN (afJ (agx _ _) _) (afJ (agc _ _) _)) (ahN (afJ (agc _ _) _) (afJ (agx _ _) _));have hUl:=ce w2;have e0:(sgn (!true) b==0)=false:=by simp only[agd,dy]; simp; omega
     have s1:sgn true a = -(a:Int):=rfl;have s2:sgn (!true) b=(b:Int):=rfl;have s3:sgn (!true) c=(c:Int):=rfl;have s4:sgn true d = -(d:Int):=rfl;rw[e0,afk,s1,s2,s3,s4,yV hN (by omega) (by omega) hal hbl hb1 f1,yW hN (by omega) (by omega) hcl hdl f2,ih _ (by omega) _ _ M rfl (by omega) (by omega) f3 (by omega),hgc]
    | false=>
     obtain⟨f1,f2,f3,f4,f5⟩:=ES hgood (afA x hF0) (afA y hF0) (agi x (2 ^ f)).symm (agi y (2 ^ f)).symm;obtain⟨w1,w2⟩:=fin _ _ f4 f5 f3;have hgc:=wO f4 f5 (ahN (afJ (agc _ _) _) (afJ (agx _ _) _)) (ahN (afJ (agx _ _) _) (afJ (agc _ _) _));have hUl:=ce w2;have e0:(sgn (!false) b==0)=false:=by simp only[af1,db]; simp; omega
     have s1:sgn false a=(a:Int):=rfl;have s2:sgn (!false) b = -(b:Int):=rfl;have s3:sgn (!false) c = -(c:Int):=rfl;have s4:sgn false d=(d:Int):=rfl;rw[e0,afk,s1,s2,s3,s4,yW hN (by omega) (by omega) hal hbl f1,yV hN (by omega) (by omega) hcl hdl hd1 f2,ih _ (by omega) _ _ M rfl (by omega) (by omega) f3 (by omega),hgc]
  ·rw[afj (by omega),afk,Fc hN _ y x N (by omega) (by omega) (by omega),aga];have hgl:(aj (Nat.gcd x y)).length<=134217728000:=by
    by_cases h0:x=0
    ·have hy0:y=0:=by omega
     rw[h0,hy0,ahS,be]; simp
    ·have:=ce (Nat.gcd_le_left y (ahs h0));omega
   rw[aa (afi (by omega))]
 exact main s x y N hs hsN (afw _) hyx hxl
theorem H_ {N:Nat} (hN:1180591620717411303424<=N) {x y:Nat} (hf:x+y<N) (hxl:(aj x).length<=134217728000) (hyl:(aj y).length<=134217728000) (k:Kz6):GJ N (aj x) (aj y) k=k (aj (Nat.gcd x y)):=by
 (unfold GJ; rw[ac]; unfold Ng)
 rw[iJ x y ⟨by omega,by omega⟩ ⟨by omega,by omega⟩];by_cases h:x<y
 ·have hc:decide (dM x y<0)=true:=by unfold dM; rw[if_pos h]; rfl
  rw[hc,afl,yI hN _ (y+x) y x rfl (by omega) (by omega) hyl,agB]
 ·have hc:decide (dM x y<0)=false:=by unfold dM; rw[if_neg h]; split <;> rfl
  rw[hc,afk,yI hN _ (x+y) x y rfl hf (by omega) hxl]
theorem zr {a b:Nat} (ha:a<4294967296) (hb:b<4294967296):aD .and .u32 (a:Int) (b:Int)=((a &&& b:Nat):Int):=by
 unfold aD rq;simp only[af8];have h32:(2:Nat) ^ 32=4294967296:=by decide
 have e:((BitVec.ofInt (IntKind.bits .u32) (a:Int)) &&& (BitVec.ofInt (IntKind.bits .u32) (b:Int))).toNat=a &&& b:=by show((BitVec.ofInt 32 (a:Int)) &&& (BitVec.ofInt 32 (b:Int))).toNat=_;rw[ah5,ags,ags,agA,agA,afu (by omega),afu (by omega)]
 have hl:a &&& b<4294967296:=agV Nat.and_le_left ha;rw[e,Hf _ hl]
theorem Kz {t c:Nat} (h:2 ^ t*(2*c+1)<2 ^ 32):(2 ^ t*(2*c+1)) &&& (2 ^ 32 - 2 ^ t*(2*c+1))=2 ^ t:=by
 have ht0:0<2 ^ t:=afy t;have ht:t<32:=by
  rcases agb t 32 with h1 | h1
  ·exact h1
  ·have h2:2 ^ 32<=2 ^ t:=afz (by decide) h1;have h3:2 ^ t*1<=2 ^ t*(2*c+1):=afq _ (by omega);omega
 have e1:2 ^ t*(2*c+1)=(2 ^ t*(2*c)+(2 ^ t - 1))+1:=by rw[afB]; omega
 refine ahC λj=>?_
 rw[aih];have e2:(2 ^ 32 - 2 ^ t*(2*c+1)).testBit j=(decide (j<32) && !(2 ^ t*(2*c)+(2 ^ t - 1)).testBit j):=by
  conv=>lhs; rw[e1]
  exact ah_ (by rw[e1]at h; omega) j
 rw[e2,Nat.testBit_two_pow_mul,aii _ (by omega),ahg];rcases ahW j t with hj | hj | hj
 ·rw[afj (by omega:¬ j>=t),afj (by omega:¬ t=j)]; rfl
 ·subst hj;rw[if_neg (by omega),afT,afi (afw _),afi ht,afi rfl];have a1:(2*c+1).testBit 0=true:=by rw[ah6]; simp
  have a2:(2*c).testBit 0=false:=by rw[ah6]; simp
  rw[a1,a2]; rfl
 ·obtain⟨k,hk⟩:∃ k,j - t=k+1:=⟨j - t - 1,by omega⟩
  rw[if_neg (by omega),hk,afi (by omega:j>=t),afj (by omega:¬ t=j),ah7,ah7];have a1:(2*c+1) / 2=c:=by omega
  have a2:2*c / 2=c:=by omega
  rw[a1,a2];cases c.testBit k <;> simp
theorem Qk:∀ t:Fin 32,(inR (Int.fdiv (IntKind.wrap .u32 (((2 ^ t.val:Nat):Int)*125613361)) (2 ^ 27)) 32=true)/\(List.getD zo (Int.toNat (Int.fdiv (IntKind.wrap .u32 (((2 ^ t.val:Nat):Int)*125613361)) (2 ^ 27))) 0=(t.val:Int)):=by decide +kernel
theorem OU (N:Nat) {t c:Nat} (h:2 ^ t*(2*c+1)<4294967296) (k:Kz2):sQ9 N ((2 ^ t*(2*c+1):Nat):Int) k=k (t:Int):=by
 have h32:(2:Nat) ^ 32=4294967296:=by decide
 have ht0:0<2 ^ t:=afy t;have hx0:0<2 ^ t*(2*c+1):=ahj ht0 (by omega);have ht:t<32:=by
  rcases agb t 32 with h1 | h1
  ·exact h1
  ·have h2:2 ^ 32<=2 ^ t:=afz (by decide) h1;have h3:2 ^ t*1<=2 ^ t*(2*c+1):=afq _ (by omega);omega
 (unfold sQ9; rw[ac]; unfold GQ9)
 have ha:=Kz (t:=t) (c:=c) (by omega);rw[h32]at ha;generalize 2 ^ t*(2*c+1)=x at *;have e0:((x:Int)==0)=false:=by simp; omega
 have ew:IntKind.wrap .u32 (0 - (x:Int))=((4294967296 - x:Nat):Int):=by rw[dI]; omega
 obtain⟨t1,t2⟩:=Qk ⟨t,ht⟩;rw[e0,afk,ew,zr h (by omega),ha,aa t1,t2,aa afg]
theorem N8 {t c:Nat}:2 ^ t*(2*c+1) / 4294967296 ^ (t / 32)%4294967296=2 ^ (t%32)*(2*(c%2 ^ (31 - t%32))+1):=by
 have hs1:2 ^ (t%32)*2 ^ (32 - t%32)=4294967296:=by rw[<- afx,show t%32+(32 - t%32)=32 by omega]
 rw[xc t,aft,afV _ (aY _),<- hs1,ahc];congr 1;have e1:2 ^ (32 - t%32)=2*2 ^ (31 - t%32):=by rw[show 32 - t%32=(31 - t%32)+1 by omega,afv,afn]
 rw[e1];have e2:=ahx c (2 ^ (31 - t%32));generalize 2 ^ (31 - t%32)=P at *;generalize c / P=q at *;have hP:c%P<P\/P=0:=by
  rcases agH P with h | h
  ·exact .inr h
  ·exact .inl (afA _ h)
 generalize c%P=r at *;have e3:2*c+1=(2*r+1)+2*P*q:=by rw[<- e2]; grind
 rw[e3,agC];rcases hP with h | h
 ·exact afu (by omega)
 ·subst h; simp
theorem HB {t c i:Nat} (hi:i<t / 32):2 ^ t*(2*c+1) / 4294967296 ^ i%4294967296=0:=by
 have e:2 ^ t*(2*c+1)=4294967296 ^ (i+1)*(4294967296 ^ (t / 32 - (i+1))*(2 ^ (t%32)*(2*c+1))):=by rw[xc t,<- aft,<- afx,show i+1+(t / 32 - (i+1))=t / 32 by omega,aft]
 rw[e,afv,aft,afV _ (aY i),ait]
theorem A1 {N:Nat} {t c:Nat} (g:Bool) (hN:f7 N (aj (2 ^ t*(2*c+1)))) (ht:t<140737488355328) (k:Kz2):sQ2 N g (aj (2 ^ t*(2*c+1))) k=k (t:Int):=by
 (unfold sQ2; rw[ac]; unfold GQ2)
 obtain⟨n1,n2⟩:=hN;have hd:=N8 (t:=t) (c:=c);have hgd:=λi=>nw i (2 ^ t*(2*c+1))
 have hlt:2 ^ t*(2*c+1) / 4294967296 ^ (t / 32)%4294967296<4294967296:=afA _ (by decide);have hwl:t / 32<(aj (2 ^ t*(2*c+1))).length:=by
  refine JH λh=>?_
  rw[h,Nat.zero_mod]at hd;have:=ahj (afy (t%32)) (show 0<2*(c%2 ^ (31 - t%32))+1 by omega);omega
 have hbel:=λi=>HB (t:=t) (c:=c) (i:=i)
 generalize aj (2 ^ t*(2*c+1))=l at *;refine aJ (λi=>(i:Int)) (t / 32) rfl (by omega) (λi hi K=>?_) (λK=>?_)
 ·simp only[Kc,afo];have hz:(l.getD i 0 != 0)=false:=by rw[hgd,hbel i hi]; rfl
  rw[afi (by omega:(i:Int)<((l.length:Nat):Int)),afl,aa afh,hz,afk,aa afg];rfl
 ·simp only[Kc,afo];have hp:=ahj (afy (t%32)) (show 0<2*(c%2 ^ (31 - t%32))+1 by omega);have hz:(l.getD (t / 32) 0 != 0)=true:=by rw[hgd,hd]; simp only[bne_iff_ne,ne_eq]; omega
  rw[afi (by omega:((t / 32:Nat):Int)<((l.length:Nat):Int)),afl,aa afh,hz,afl,aa afg,aa afh,hgd,hd,OU N (by rw[<- hd]; exact hlt),aa afg];congr 1;rw[am]; omega
def krR (z:Int) (d:Nat) (k:Kx4):Bool:=k (decide (z<0)) (aj z.natAbs) false (aj d)
def kqR (x:Rat) (k:Kx4):Bool:=krR x.num x.den k
theorem OJ (g:Bool) (n d:Nat) (k:Kx4):k (sg g n) (aj n) false (aj d)=krR (bc g n) d k:=uA g n (λa b=>k a b false (aj d))
theorem rD {B n:Nat} (hB:B<=2000000000100) (h:aX B n):(aj n).length<=62500000006:=by have:=Ab h; omega
theorem pa {N B n:Nat} (hF:Fuel N) (hB:B<=2000000000100) (h:aX B n):f7 N (aj n):=by have h1:=rD hB h;have:=hF.lt;exact⟨by omega,by omega⟩
theorem It (g:Bool) (n d:Nat) (h0:0<d):(mkRat (bc g n) d).num=bc g (n / Nat.gcd n d)/\(mkRat (bc g n) d).den=d / Nat.gcd n d:=by
 have e:(bc g n).natAbs=n:=by unfold bc; cases g <;> simp
 have hg:0<Nat.gcd n d:=agr _ h0;constructor
 ·rw[aix,if_neg (by omega),e,agB];have hh:((Nat.gcd n d:Nat):Int) ≠ 0:=by omega
  have e2:bc g n=((Nat.gcd n d:Nat):Int)*bc g (n / Nat.gcd n d):=by
   have hnn:n=Nat.gcd n d*(n / Nat.gcd n d):=(Nat.mul_div_cancel' (agc n d)).symm;have hc:(n:Int)=((Nat.gcd n d:Nat):Int)*((n / Nat.gcd n d:Nat):Int):=by rw[<- afF,<- hnn]
   unfold bc;cases g
   ·simpa using hc
   ·simp only[agU]; rw[hc,aig]
  rw[e2,ahn _ hh]
 ·rw[aiy,if_neg (by omega),e,agB]
theorem H3 (g:Bool) (n m:Nat):bc g (n*m)=bc g n*(m:Int):=by
 unfold bc; cases g
 ·simp
 ·simp[aiw]
theorem Wz {t c u e:Nat} (h:2 ^ (u - min t u)*(2*e+1)<2 ^ (u - min t u+1)):Nat.gcd (2 ^ (t - min t u)*(2*c+1)) (2 ^ (u - min t u)*(2*e+1))=1:=by
 have he:e=0:=by
  rcases agH e with h1 | h1
  ·exact h1
  ·have:2 ^ (u - min t u)*2<=2 ^ (u - min t u)*(2*e+1):=afq _ (by omega);rw[afv]at h; omega
 subst he;rw[agF,afL,ag9];rcases Nat.le_total t u with h1 | h1
 ·rw[agz h1,afT,ag7,agQ];refine Nat.Coprime.pow_right _ ?_;show Nat.gcd (2*c+1) 2=1;rw[agB,ail];have:(2*c+1)%2=1:=by omega
  rw[this]; rfl
 ·rw[Nat.min_eq_right h1,afT,ag7,Nat.gcd_one_right]
theorem G6 {t m c:Nat} (h:m<=t):2 ^ t*(2*c+1) / 2 ^ m=2 ^ (t - m)*(2*c+1):=by
 have:2 ^ t=2 ^ m*2 ^ (t - m):=by rw[<- afx]; congr 1; omega
 rw[this,aft,afV _ (afy m)]
theorem Kf {B t c:Nat} (h:aX B (2 ^ t*(2*c+1))):t<B:=by
 unfold aX at h;have h1:2 ^ t*1<=2 ^ t*(2*c+1):=afq _ (by omega);have h2:2 ^ t<2 ^ B:=by omega
 exact(Nat.pow_lt_pow_iff_right (by decide)).1 h2
theorem Vx {t c:Nat}:bl (2 ^ t*(2*c+1))=t+1↔2 ^ t*(2*c+1)<2 ^ (t+1):=by
 have hp:=afy t;have h0:2 ^ t*(2*c+1) ≠ 0:=by have:=ahj hp (show 0<2*c+1 by omega); omega
 constructor
 ·intro h; have:=yD (2 ^ t*(2*c+1)); rwa [h]at this
 ·intro h;have h1:=wJ h;have h2:=yD (2 ^ t*(2*c+1));have h3:2 ^ t*1<=2 ^ t*(2*c+1):=afq _ (by omega);have h4:2 ^ t<2 ^ bl (2 ^ t*(2*c+1)):=by omega
  have:=(Nat.pow_lt_pow_iff_right (by decide:1<2)).1 h4;omega
theorem gC {N B n:Nat} (hF:Fuel N) (hB:B<=2000000000100) (h:aX B n) (k:Kz6):lO N (aj n) k=k (aj n):=by have h1:=rD hB h;have:=hF.lt;rw[JD _ (bv n) (by omega) (by omega),aM]
theorem C0 {N B:Nat} (hF:Fuel N) (hB:B<=2000000000100) (g:Bool) {n d:Nat} (hn:aX B n) (hd:aX B d) (hn0:n ≠ 0) (hd0:d ≠ 0) (J:List Int->List Int->Bool) (k:Kx4)
  (hJ:∀ a b:Nat,aX B a->aX B b->J (aj a) (aj b)=k (sg g a) (aj a) false (aj b)) :
  (sQ2 N false (aj n) (λ(nr:Int)=>(sQ2 N false (aj d) (λ(ZD:Int)=>
   (Cf N (aj n) (cond (decide (ZD<nr)) ZD nr) (λ(ZN:List Int)=>(Cf N (aj d) (cond (decide (ZD<nr)) ZD nr) (λ(ZL:List Int)=>(sQ2 N false ZL (λ(ZI:Int)=>((af .i64 ZI)&&(Mn N false ZL (λ(ZX:Int)=>((af .i64 (ZX - 1))&&(cond (ZI != (ZX - 1)) (GJ N ZN ZL (λ(s6:List Int)=>(rH N (λ(s7:List Int)=>(Eg N s6 s7 (λ(ZR:Int)=>(cond (ZR != 0) (yh N ZN s6 (λ(s8:List Int) (s9:List Int)=>(yh N ZL s6 (λ(s10:List Int) (s11:List Int)=>(J s8 s10))))) (J ZN ZL)))))))) (J ZN ZL))))))))))))))))
   = kqR (mkRat (bc g n) d) k:=by
 have hl:=hF.lt;have hbig:=hF.big;obtain⟨t,c,hnt⟩:=Bi n hn0;obtain⟨u,e,hdu⟩:=Bi d hd0;have htB:t<B:=Kf (by rw[<- hnt]; exact hn);have huB:u<B:=Kf (by rw[<- hdu]; exact hd);have sn:=pa hF hB hn;have sd:=pa hF hB hd;have ln:=rD hB hn;have ld:=rD hB hd;have z1:=λkk=>A1 (N:=N) (t:=t) (c:=c) false (by rw[<- hnt]; exact sn) (by omega) kk
 have z2:=λkk=>A1 (N:=N) (t:=u) (c:=e) false (by rw[<- hdu]; exact sd) (by omega) kk
 rw[<- hnt]at z1;rw[<- hdu]at z2;rw[z1,z2];obtain⟨m,hm⟩:∃ m,m=min t u:=⟨_,rfl⟩
 have em:cond (decide ((u:Int)<(t:Int))) (u:Int) (t:Int)=(m:Int):=by
  by_cases h:u<t
  ·rw[afi (by omega),afl,hm,Nat.min_eq_right (by omega)]
  ·rw[afj (by omega),afk,hm,agz (by omega)]
 rw[em,qM (by omega) ⟨by omega,by omega⟩,qM (by omega) ⟨by omega,by omega⟩];have ha:n / 2 ^ m=2 ^ (t - m)*(2*c+1):=by rw[hnt]; exact G6 (by rw[hm]; exact Nat.min_le_left _ _)
 have hb:d / 2 ^ m=2 ^ (u - m)*(2*e+1):=by rw[hdu]; exact G6 (by rw[hm]; exact aiB _ _)
 have hbn:aX B (n / 2 ^ m):=cd hn;have hbd:aX B (d / 2 ^ m):=cd hd;have hmk:mkRat (bc g n) d=mkRat (bc g (n / 2 ^ m)) (d / 2 ^ m):=by
  have e1:n=n / 2 ^ m*2 ^ m:=by
   rw[ha,hnt,aip,<- afx];congr 2; have:m<=t:=by rw[hm]; exact Nat.min_le_left _ _
   omega
  have e2:d=d / 2 ^ m*2 ^ m:=by
   rw[hb,hdu,aip,<- afx];congr 2; have:m<=u:=by rw[hm]; exact aiB _ _
   omega
  conv=>lhs; rw[e1,e2,H3]
  rw[Rat.mkRat_mul_right (by have:=afy m; omega)]
 rw[hmk];obtain⟨a,hae⟩:∃ a,a=n / 2 ^ m:=⟨_,rfl⟩
 obtain⟨b,hbe⟩:∃ b,b=d / 2 ^ m:=⟨_,rfl⟩
 rw[<- hae]at ha hbn ⊢;rw[<- hbe]at hb hbd ⊢;have hb0:0<b:=by rw[hb]; exact ahj (afy _) (by omega)
 have z3:=λkk=>A1 (N:=N) (t:=u - m) (c:=e) false (by rw[<- hb]; exact pa hF hB hbd) (by omega) kk
 rw[<- hb]at z3;have hblb:bl b<=B:=wJ hbd;have hbl0:0<bl b:=(NL (by omega)).1;rw[z3,aa afg,AU false b (pa hF hB hbd),aa afg];obtain⟨i1,i2⟩:=It g a b hb0;unfold kqR;rw[i1,i2];have fin1:Nat.gcd a b=1->J (aj a) (aj b)=krR (bc g (a / Nat.gcd a b)) (b / Nat.gcd a b) k:=by intro h;rw[hJ a b hbn hbd,OJ _ _ _ k,h,ag_,ag_]
 by_cases hp:bl b=u - m+1
 ·have:(((u - m:Nat):Int) != (bl b:Int) - 1)=false:=by simp; omega
  rw[this,afk];refine fin1 ?_;rw[ha,hb,hm];refine Wz ?_;rw[<- hm];rw[hb]at hp;exact Vx.1 hp
 ·have:(((u - m:Nat):Int) != (bl b:Int) - 1)=true:=by simp; omega
  have la:=rD hB hbn;have lb:=rD hB hbd;have hgp:0<Nat.gcd a b:=agr _ hb0;have hgb:aX B (Nat.gcd a b):=lV hbd (ahp _ hb0);have lg:=rD hB hgb;have e1:aj 1=[1]:=t_ (by decide) (by decide);rw[this,afl,H_ hbig (hF.sum (by omega) hbn hbd) (by omega) (by omega)];unfold rH I7;dsimp only;rw[<- e1,iJ _ 1 ⟨by omega,by omega⟩ ⟨by rw[e1]; simp; omega,by rw[e1]; simp⟩];by_cases hc:Nat.gcd a b=1
  ·have:(dM (Nat.gcd a b) 1 != 0)=false:=by rw[hc]; rfl
   rw[this,afk];exact fin1 hc
  ·have:(dM (Nat.gcd a b) 1 != 0)=true:=by unfold dM; rw[if_neg (by omega),if_neg hc]; rfl
   rw[this,afl,ur hbig hgp (by omega) (by omega),ur hbig hgp (by omega) (by omega),hJ _ _ (cd hbn) (cd hbd),OJ _ _ _ k]
theorem Fe {α:Type} (c:Bool) (f:α->Bool) (a b:α):cond c (f a) (f b)=f (cond c a b):=by cases c <;> rfl
theorem uo {N B:Nat} (hF:Fuel N) (hB:B<=2000000000100) (g:Bool) {n d:Nat} (hn:aX B n) (hd:aX B d) (hd0:d ≠ 0) (b1 b2:Bool) (k:Kx4) :
  Mk N g (aj n) (aj d) b1 b2 k=kqR (mkRat (bc g n) d) k:=by
 have hl:=hF.lt;have hJ:∀ a b:Nat,aX B a->aX B b -> ∀ x y,Kt N g x y b1 b2 (aj a) (aj b) k=k (sg g a) (aj a) false (aj b):=by
  intro a b ha hb x y;unfold Kt GI M9;rw[gC hF hB ha];unfold GM Ns;dsimp only;rw[gC hF hB hb,gC hF hB hb];cases g
  ·rfl
  ·simp only[nl,sg,agq]; rfl
 (unfold Mk; rw[ac]; unfold Tn)
 by_cases h0:n=0
 ·subst h0;rw[be];show GI N false [] b1 b2 _=_;have e0:bc g 0=0:=by unfold bc; cases g <;> rfl
  unfold GI M9;rw[<- be,gC hF (B:=10) (by decide) (by unfold aX; decide)];unfold rH I7 GM Ns;have e1:aj 1=[1]:=t_ (by decide) (by decide);dsimp only;rw[<- e1,gC hF (B:=10) (by decide) (by unfold aX; decide),gC hF (B:=10) (by decide) (by unfold aX; decide),e0,Rat.zero_mkRat];rfl
 ·have e0:((((aj n).length:Nat):Int)==0)=false:=by rw[cI h0]; simp; omega
  rw[e0,afk];have:=C0 hF hB g hn hd h0 hd0 (λx y=>Kt N g (aj n) (aj d) b1 b2 x y k) k (λa b ha hb=>hJ a b ha hb _ _);rw[<- this];congr 1; funext nr; congr 1; funext ZD;exact Fe (decide (ZD<nr)) (λz=>Nv N g (aj n) (aj d) b1 b2 z k) ZD nr
theorem Ig {N B:Nat} (hF:Fuel N) (hB:B<=2000000000100) (g:Bool) {n d:Nat} (hn:aX B n) (hd:aX B d) (hd0:d ≠ 0) (b1 b2:Bool) (l1 l2:List Int) (k:Kx4) :
  Wi N g (aj n) (aj d) b1 l1 b2 l2 k=kqR (mkRat (bc g n) d) k:=by
 have hl:=hF.lt;have hJ:∀ a b:Nat,aX B a->aX B b -> ∀ x y,Ku N g x y b1 l1 b2 l2 (aj a) (aj b) k=k (sg g a) (aj a) false (aj b):=by
  intro a b ha hb x y;unfold Ku GB MM;rw[gC hF hB ha];unfold GM Ns;dsimp only;rw[gC hF hB hb,gC hF hB hb];cases g
  ·rfl
  ·simp only[nl,sg,agq]; rfl
 (unfold Wi; rw[ac]; unfold TM)
 by_cases h0:n=0
 ·subst h0;rw[be];show GB N false [] b1 l1 b2 l2 _=_;have e0:bc g 0=0:=by unfold bc; cases g <;> rfl
  unfold GB MM;rw[<- be,gC hF (B:=10) (by decide) (by unfold aX; decide)];unfold rH I7 GM Ns;have e1:aj 1=[1]:=t_ (by decide) (by decide);dsimp only;rw[<- e1,gC hF (B:=10) (by decide) (by unfold aX; decide),gC hF (B:=10) (by decide) (by unfold aX; decide),e0,Rat.zero_mkRat];rfl
 ·have e0:((((aj n).length:Nat):Int)==0)=false:=by rw[cI h0]; simp; omega
  rw[e0,afk];have:=C0 hF hB g hn hd h0 hd0 (λx y=>Ku N g (aj n) (aj d) b1 l1 b2 l2 x y k) k (λa b ha hb=>hJ a b ha hb _ _);rw[<- this];congr 1; funext nr; congr 1; funext ZD;exact Fe (decide (ZD<nr)) (λz=>Nw N g (aj n) (aj d) b1 l1 b2 l2 z k) ZD nr
theorem vM {N:Nat} (a:Bool) (l:List Int) (b:Bool) {d:Nat} (hd:d ≠ 0) (k:Kz6):PX N a l b (aj d) k=k (aj d):=by
 (unfold PX; rw[ac]; unfold TO)
 have:((((aj d).length:Nat):Int)==0)=false:=by rw[cI hd]; simp; omega
 rw[this]; rfl
theorem gc {N:Nat} (a:Bool) (l:List Int) (b:Bool) {d:Nat} (hd:d ≠ 0) (k:Kz6):sQ6 N a l b (aj d) k=k (aj d):=by
 (unfold sQ6; rw[ac]; unfold GQ6)
 have:((((aj d).length:Nat):Int)==0)=false:=by rw[cI hd]; simp; omega
 rw[this]; rfl
theorem kC {N B:Nat} (hF:Fuel N) (hB:B<=2000000000100) {a b:Nat} (ha:aX B a) (hb:aX B b) (k:Kz6):xg N (aj a) (aj b) k=k (aj (a*b)):=by have h1:=rD hB ha;have h2:=rD hB hb;have:=hF.lt;rw[yc _ _ (bv _) (bv _) (by omega) (by omega),aM,aM]
theorem O9 {N B:Nat} (hF:Fuel N) (hB:B<=1000000000000) {x y:Rat} (hx:Bq B x) (hy:Bq B y) (b1 b2:Bool) (k:Kx4) :
  V7 N b1 b2 (decide (x.num<0)) (aj x.num.natAbs) false (aj x.den) (decide (y.num<0)) (aj y.num.natAbs) false (aj y.den) k=kqR (x*y) k:=by
 (unfold V7; rw[ac]; unfold Ti)
 have hB2:B<=2000000000100:=by omega
 rw[kC hF hB2 hx.1 hy.1,gc _ _ _ x.den_nz,gc _ _ _ y.den_nz,kC hF hB2 hx.2 hy.2,
  uo hF (B:=B+B) (by omega) _ (dJ hx.1 hy.1) (dJ hx.2 hy.2) (ahT x.den_nz y.den_nz),AO,iV,iV,<- Rat.mul_def']
theorem Pc {N B:Nat} (hF:Fuel N) (hB:B<=1000000000000) {x y:Rat} (hx:Bq B x) (hy:Bq B y) (h0:y.num ≠ 0) (b1 b2:Bool) (k:Kx4) :
  V8 N b1 b2 (decide (x.num<0)) (aj x.num.natAbs) false (aj x.den) (decide (y.num<0)) (aj y.num.natAbs) false (aj y.den) k=kqR (x / y) k:=by
 (unfold V8; rw[ac]; unfold Tj)
 have hB2:B<=2000000000100:=by omega
 obtain⟨i1,i2,i3⟩:=AL h0;rw[gc _ _ _ y.den_nz,kC hF hB2 hx.1 hy.2,gc _ _ _ x.den_nz,kC hF hB2 hx.2 hy.1,
  uo hF (B:=B+B) (by omega) _ (dJ hx.1 hy.2) (dJ hx.2 hy.1) (ahT x.den_nz (by omega)),AO,iV,Rat.div_def,Rat.mul_def',i2]
 have:bc (decide (y.num<0)) y.den=(y⁻¹).num:=by rw[<- i3,<- i1,iV]
 rw[this]
theorem Pi {N B:Nat} (hF:Fuel N) (hB:B<=1000000000000) {x y:Rat} (hx:Bq B x) (hy:Bq B y) (k:Kx4) :
  V9 N (decide (x.num<0)) (aj x.num.natAbs) false (aj x.den) (decide (y.num<0)) (aj y.num.natAbs) false (aj y.den) k=kqR (x - y) k:=by
 (unfold V9; rw[ac]; unfold Tp; unfold XD; rw[ac]; unfold TT)
 have hB2:B<=2000000000100:=by omega
 have ha:=dJ hx.1 hy.2;have hb:=dJ hy.1 hx.2;have hB3:B+B+1<=2000000000100:=by omega
 rw[gc _ _ _ y.den_nz,kC hF hB2 hx.1 hy.2,gc _ _ _ x.den_nz,kC hF hB2 hy.1 hx.2];dsimp only;rw[gc _ _ _ x.den_nz,gc _ _ _ y.den_nz,kC hF hB2 hx.2 hy.2,
  Lk false _ _ _ _ (pa hF (by omega) ha) (pa hF (by omega) hb) (pa hF hB3 (wI ha hb)),sE,sE]
 unfold uH;dsimp only;have hz:aX (B+B+1) (x.num*(y.den:Int) - y.num*(x.den:Int)).natAbs:=by
  refine lV (wI ha hb) ?_;have e1:(x.num*(y.den:Int)).natAbs=x.num.natAbs*y.den:=by rw[ahf,agf]
  have e2:(y.num*(x.den:Int)).natAbs=y.num.natAbs*x.den:=by rw[ahf,agf]
  omega
 rw[Ig hF hB3 _ hz (bX (dJ hx.2 hy.2) (by omega)) (ahT x.den_nz y.den_nz),iV,<- Rat.sub_def']
theorem yb {N:Nat} (x:Rat) (k:Kz2):GG N (decide (x.num<0)) (aj x.num.natAbs) false (aj x.den) k=k (xl x.num):=by
 (unfold GG Sq; unfold De; rw[ac]; unfold xB xl)
 by_cases h0:x.num=0
 ·rw[h0,if_pos rfl];have:aj (0:Int).natAbs=[]:=be;rw[this]; rfl
 ·have:((((aj x.num.natAbs).length:Nat):Int)==0)=false:=by rw[cI (by omega)]; simp; omega
  rw[this,afk,if_neg h0];by_cases h:x.num<0
  ·rw[afi h,afl,if_pos h]
  ·rw[afj h,afk,if_neg h]
theorem yJ (n:Nat):bZ (aj n) (aj n).length=(aj n).length:=Fh n
theorem OQ {N B:Nat} (hF:Fuel N) (hB:B<=2000000000100) {x:Rat} (hx:Bq B x) (b1 b2:Bool) (l1 l2:List Int) (k:Kx4) :
  Wp N (decide (x.num<0)) (aj x.num.natAbs) false (aj x.den) b1 l1 b2 l2 k=kqR x k:=by
 (unfold Wp; rw[ac]; unfold TY)
 have h1:=rD hB hx.1;have h2:=rD hB hx.2;have hl:=hF.lt;rw[aga,aa (afi (by omega)),vM _ _ _ x.den_nz,aga,aa (afi (by omega))];unfold rI rn S0 Sv;rw[lI _ (by omega) (by omega),yJ];dsimp only;rw[lI _ (by omega) (by omega),lI _ (by omega) (by omega),yJ];have e1:(List.take (aj x.num.natAbs).length (List.drop 0 (aj x.num.natAbs)))=aj x.num.natAbs:=by simp
 have e2:(List.take (aj x.den).length (List.drop 0 (aj x.den)))=aj x.den:=by simp
 have e3:decide (0+(aj x.num.natAbs).length<=(aj x.num.natAbs).length)=true:=afi (by omega);have e4:decide (0+(aj x.den).length<=(aj x.den).length)=true:=afi (by omega);rw[e1,e2,e3,e4];unfold kqR krR;by_cases h:x.num<0
 ·have:decide (((((aj x.num.natAbs).length:Nat):Nat):Int)>0)=true:=by rw[nl]; exact afi (by omega)
  rw[afi h,this]; rfl
 ·rw[afj h]; rfl
end Go.Proofs.YtdinakfmablagaaGreatDoor
end
