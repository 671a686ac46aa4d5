/-
  PURE: words to the base 2^32 (printed by to32.py from the laws to the base 2^64).
  Conditions: none.
-/
import Derived.Test.YteifemaagdeomaaGreatDoorC2
set_option linter.unusedVariables false
section
namespace Go.Proofs.YteifemaagdeomaaGreatDoor
open Go Go.Mach
theorem sU:∀(i V:Nat),(ak V).getD i 0=((V / 4294967296 ^ i%4294967296:Nat):Int)
 | i,V=>by
  by_cases h:V=0
  ·subst h; rw[bM]; simp
  ·rw[fL h];cases i with
   | zero=>simp
   | succ i=>
    show(ak (V / 4294967296)).getD i 0=_;rw[sU i (V / 4294967296),aFL,aFD,<- aFG]
theorem UH {V w:Nat} (h:V / 4294967296 ^ w ≠ 0):w<(ak V).length:=by
 rcases aGw w (ak V).length with h1 | h1
 ·exact h1
 ·exfalso;have h2:=jX (bV V);rw[aZ]at h2;exact h (aF4 (aFT h2 (aFP (by decide) h1)))
theorem Ah {n:Nat} (h0:n ≠ 0) (h:n<4294967296):ak n=[(n:Int)]:=by rw[fL h0,aF4 h,bM,aFJ h]
theorem O9 (Q n m:Nat) (h:m<n):(List.replicate (m+1) (0:Int)++(dl Q n).drop (m+1)).set m ((Q / 4294967296 ^ m%4294967296:Nat):Int)=List.replicate m 0++(dl Q n).drop m:=by rw[aHb,aFR,List.singleton_append,bT _ _ _ _ _ (by simp),g8 (n:=m) (by rw[am]; exact h),Ai Q h]
theorem Jy {A d:Nat} (hd:0<d):(A / 4294967296%d*4294967296+A%4294967296)%d=A%d/\(A / 4294967296%d*4294967296+A%4294967296) / d=A / d%4294967296:=by
 have h1:=aGv A 4294967296;have h2:=aGv (A / 4294967296) d;have h3:=aFO (A / 4294967296) hd;have h4:A%4294967296<4294967296:=aFO _ (by decide);obtain⟨a,ha⟩:∃ a,a=A / 4294967296:=⟨_,rfl⟩
 obtain⟨e,he⟩:∃ e,e=A%4294967296:=⟨_,rfl⟩
 rw[<- ha]at h1 h2 h3 ⊢;rw[<- he]at h1 h4 ⊢;obtain⟨c,hc⟩:∃ c,c=a / d:=⟨_,rfl⟩
 obtain⟨r,hr⟩:∃ r,r=a%d:=⟨_,rfl⟩
 rw[<- hc,<- hr]at h2;rw[<- hr]at h3 ⊢;have h5:A=d*(c*4294967296)+(r*4294967296+e):=by rw[<- h1,<- h2,<- aFK,aFQ,aFD 4294967296,aFD 4294967296]; omega
 constructor
 ·rw[h5,aHH]
 ·rw[h5,aIu hd,aFD c,aHH];refine(aFJ ?_).symm;rw[aFI hd];have:=aFF 4294967296 h3;rw[aG7]at this;rw[aFD _ d,aFD d];rw[aFD d]at this;omega
theorem mO (x:Nat):x<4294967296 ^ (ak x).length:=by have:=jX (bV x); rwa [aZ]at this
theorem ara (c:List Int) (m:Nat):aL (c.take (m+3))=aL (c.take m)+4294967296 ^ m*((c.getD m 0).toNat+4294967296*((c.getD (m+2) 0).toNat*4294967296+(c.getD (m+1) 0).toNat)):=by rw[show m+3=m+2+1 by omega,bd,show m+2=m+1+1 by omega,bd,bd];simp only[aFL];generalize 4294967296 ^ m=P;grind
theorem aq_ (c:List Int) (m:Nat):aL (c.take (m+2))=aL (c.take m)+4294967296 ^ m*((c.getD m 0).toNat+4294967296*(c.getD (m+1) 0).toNat):=by rw[show m+2=m+1+1 by omega,bd,bd];simp only[aFL];generalize 4294967296 ^ m=P;grind
theorem PR {b:List Int} {o i:Nat} (D:Nat) (h:o+i<=b.length):(b.take o++(dl D i++b.drop (o+i))).length=b.length:=by simp[am]; omega
theorem PQ {b:List Int} {o i:Nat} (D:Nat) (h:o+i<b.length):(b.take o++(dl D i++b.drop (o+i))).getD (o+i) 0=b.getD (o+i) 0:=by rw[<- aFR,g8 h,eG (by simp[am]; omega)]
theorem JP {b:List Int} {o i:Nat} (D:Nat) (h:o+i<b.length):(b.take o++(dl D i++b.drop (o+i))).set (o+i) ((D / 4294967296 ^ i%4294967296:Nat):Int)=b.take o++(dl D (i+1)++b.drop (o+(i+1))):=by rw[<- aFR,g8 h,bT _ _ _ _ _ (by simp[am]; omega),dl];simp[aGf]
theorem PO {b:List Int} {o i n:Nat} (D E:Nat) (hi:i<=n) (h:o+n<=b.length):(b.take o++(dl E i++((dl D n).drop i++b.drop (o+n)))).length=b.length:=by simp[am]; omega
theorem PN {b:List Int} {o i n:Nat} (D E:Nat) (hi:i<n) (h:o+n<=b.length):(b.take o++(dl E i++((dl D n).drop i++b.drop (o+n)))).getD (o+i) 0=((D / 4294967296 ^ i%4294967296:Nat):Int):=by rw[<- aFR,g8 (n:=i) (by rw[am]; exact hi),aHh,eG (by simp[am]; omega),Ai D hi]
theorem PP {b:List Int} {o i n:Nat} (D E:Nat) (hi:i<n) (h:o+n<=b.length):(b.take o++(dl E i++((dl D n).drop i++b.drop (o+n)))).set (o+i) ((E / 4294967296 ^ i%4294967296:Nat):Int)=b.take o++(dl E (i+1)++((dl D n).drop (i+1)++b.drop (o+n))):=by rw[<- aFR,g8 (n:=i) (by rw[am]; exact hi),aHh,bT _ _ _ _ _ (by simp[am]; omega),dl];simp
theorem Us {m:Nat} (S X:Nat):∀ n,n<=m->dl (S+4294967296 ^ m*X) n=dl S n
 | 0,_=>rfl
 | n+1,h=>by rw[dl,dl,Us S X n (by omega)];congr 3;refine qy (R:=4294967296 ^ (m - (n+1))*X) ?_;rw[<- aFK,<- aFS,show n+1+(m - (n+1))=m by omega]
theorem JJ {w:List Int} {n i U Q:Nat} (hw:InW w) (hl:w.length=n+1) (hU:U=aL w) (hi:i<=n) (hQ:Q<4294967296 ^ (n+1)) :
  (((w.getD i 0).toNat+4294967296 - Q / 4294967296 ^ i%4294967296 - (if aL (w.take i)<Q%4294967296 ^ i then 1 else 0))%4294967296=(U+4294967296 ^ (n+1) - Q) / 4294967296 ^ i%4294967296)
  /\ (if (w.getD i 0).toNat<Q / 4294967296 ^ i%4294967296+(if aL (w.take i)<Q%4294967296 ^ i then 1 else 0)then 1 else 0)=(if aL (w.take (i+1))<Q%4294967296 ^ (i+1)then 1 else(0:Nat)):=by
 have hx:=hw.at (i:=i);have hA:=bd (m:=w) i;have hAl:=ch hw i;have hp:=bB i;have hBl:=aFO Q hp;have hPs:4294967296 ^ (i+1)=4294967296 ^ i*4294967296:=aFL ..;have hmm:Q%4294967296 ^ (i+1)=Q%4294967296 ^ i+4294967296 ^ i*(Q / 4294967296 ^ i%4294967296):=by rw[hPs,aIo]
 have hyl:Q / 4294967296 ^ i%4294967296<4294967296:=aFO _ (by decide);constructor
 ·obtain⟨R1,h1⟩:=eI w (i+1);have hW:4294967296 ^ (n+1)=4294967296 ^ i*4294967296*4294967296 ^ (n - i):=by rw[<- hPs,<- aFS,show i+1+(n - i)=n+1 by omega]
  have hq:=Of (D:=U+4294967296 ^ (n+1) - Q) (a:=U+4294967296 ^ (n+1)) (b:=Q) (x:=(w.getD i 0).toNat) (y:=Q / 4294967296 ^ i%4294967296) (R1:=R1+4294967296 ^ (n - i)) (R2:=Q / (4294967296 ^ i*4294967296)) hAl hBl rfl
   (by rw[hU,h1,hA,hW,hPs,aFQ]; omega)
   (by rw[<- hmm,hPs]; exact(aHG _ _).symm)
   (by omega)
  generalize (U+4294967296 ^ (n+1) - Q) / 4294967296 ^ i=Z at *;generalize Q / 4294967296 ^ i%4294967296=y at *;generalize (w.getD i 0).toNat=x at *;generalize ((R1+4294967296 ^ (n - i):Nat):Int) - ((Q / (4294967296 ^ i*4294967296):Nat):Int)=RR at *;split at hq <;> rename_i hh <;> simp only[hh,aG8,aF6] <;> omega
 ·rw[hA,hmm];exact(uG _ _ _ _ _ hAl hBl).symm
theorem HR {D V c v i:Nat} (hc:c=(D%4294967296 ^ i+V) / 4294967296 ^ i) :
  (D%4294967296 ^ (i+1)+(V+4294967296 ^ i*v)) / 4294967296 ^ (i+1)=(D / 4294967296 ^ i%4294967296+v+c) / 4294967296 /\
  ∀ R,(D+(V+4294967296 ^ i*v+4294967296 ^ (i+1)*R)) / 4294967296 ^ i%4294967296=(D / 4294967296 ^ i%4294967296+v+c)%4294967296:=by
 have hp:=bB i;have hPs:4294967296 ^ (i+1)=4294967296 ^ i*4294967296:=aFL ..;have hmm:D%4294967296 ^ (i+1)=D%4294967296 ^ i+4294967296 ^ i*(D / 4294967296 ^ i%4294967296):=by rw[hPs,aIo]
 have e:D%4294967296 ^ (i+1)+(V+4294967296 ^ i*v)=(D%4294967296 ^ i+V)+4294967296 ^ i*(D / 4294967296 ^ i%4294967296+v):=by rw[hmm,aFQ]; omega
 have e2:(D%4294967296 ^ (i+1)+(V+4294967296 ^ i*v)) / 4294967296 ^ i=D / 4294967296 ^ i%4294967296+v+c:=by rw[e,jh,<- hc]; omega
 constructor
 ·rw[hPs,<- aFG,<- hPs,e2]
 ·intro R;have e3:D+(V+4294967296 ^ i*v+4294967296 ^ (i+1)*R)=(D%4294967296 ^ (i+1)+(V+4294967296 ^ i*v))+4294967296 ^ (i+1)*(D / 4294967296 ^ (i+1)+R):=by have:=aHG D (4294967296 ^ (i+1));rw[aFQ]; omega
  rw[qy e3,e2]
theorem Nv {D V c i:Nat} (hc:c=(D%4294967296 ^ i+V) / 4294967296 ^ i) :
  (D%4294967296 ^ (i+1)+V) / 4294967296 ^ (i+1)=(D / 4294967296 ^ i%4294967296+0+c) / 4294967296 /\
  (D+V) / 4294967296 ^ i%4294967296=(D / 4294967296 ^ i%4294967296+0+c)%4294967296:=by
 obtain⟨a1,a2⟩:=HR (v:=0) hc;have a3:=a2 0;rw[aGU,aF5 V]at a1;rw[aGU,aGU,aF5 V]at a3;exact⟨a1,a3⟩
theorem ahA (n:Nat):dl n (ak n).length=ak n:=by refine List.ext_getElem (am n _) (λi h1 h2=>?_);have e1:=Ai n h2;have e2:=sU i n;rw[List.getD_eq_getElem?_getD,List.getElem?_eq_getElem h1,aGj]at e1;rw[List.getD_eq_getElem?_getD,List.getElem?_eq_getElem h2,aGj]at e2;rw[e1,e2]
theorem Oj {X L:Nat} (hX:X<4294967296 ^ L):∀ k,dl X (L+k)=dl X L++List.replicate k 0
 | 0=>by simp
 | k+1=>by rw[<- aGf,dl,Oj hX k,aF4 (aFT hX (aFP (by decide) (aHR _ _))),aHb,aFR];rfl
theorem vK (S:Nat):∀{m n:Nat},n<=m->(dl S m).take n=dl S n
 | 0,n,h=>by
  have:n=0:=by omega
  subst this; rfl
 | m+1,n,h=>by
  by_cases e:n=m+1
  ·subst e; rw[aFW (by rw[am]; omega)]
  ·rw[dl,aGy (by rw[am]; omega),vK S (by omega)]
theorem KL (S a:Nat):∀ c,dl S (a+c)=dl S a++dl (S / 4294967296 ^ a) c
 | 0=>by simp[dl]
 | c+1=>by rw[<- aGf,dl,KL S a c,dl,aFG,<- aFS,aFR]
theorem Ic {V m:Nat} (h:V<4294967296 ^ m):d8 (dl V m) m=(ak V).length:=by have h1:=z8 (mY V m);rw[am,xh,aFJ h]at h1;rw[<- h1,aGc,am];have:=nU (dl V m) m;omega
theorem aja {V m:Nat} (h1:4294967296 ^ m<=V) (h2:V<4294967296 ^ (m+1)):(ak V).length=m+1:=by have a:=gd (m+1) V h2;have b:=UH (V:=V) (w:=m) (by have:=aHW h1 (bB m); omega);omega
theorem ajg {r x:Nat} (hr:r<4294967296) (hx:x<4294967296):aH .or .u64 (IntKind.wrap .u64 ((r:Int)*2 ^ 32)) (IntKind.wrap .u64 (x:Int))=((r*4294967296+x:Nat):Int):=by
 have p32:(2:Nat) ^ 32=4294967296:=by decide
 have q32:(2:Int) ^ 32=4294967296:=by decide
 have e1:IntKind.wrap .u64 ((r:Int)*2 ^ 32)=((2 ^ 32*r:Nat):Int):=by rw[q32,p32,ar]; omega
 have e2:IntKind.wrap .u64 (x:Int)=(x:Int):=by rw[ar]; omega
 rw[e1,e2,A4,gb _ _ 32 (by omega) (by omega),p32];congr 1; omega
theorem Rg {N:Nat} {x d:Nat} (hd0:0<d) (hd:d<4294967296) (hs:kp N (ak x)) (k:List Int->Int->Bool):RX N (ak x) (d:Int) k=k (ak (x / d)) ((x%d:Nat):Int):=by
 unfold RX ahr;obtain⟨s1,s2⟩:=hs;have hx:=mO x;generalize hn:(ak x).length=n at *;rw[ac (iy (by omega) (by omega) (by omega) (by omega)),ac aFw,aFC];have wd:IntKind.wrap .u64 (d:Int)=(d:Int):=by rw[ar]; omega
 have d1:(!decide ((d:Int)=0))=true:=by simp; omega
 refine aS (λi=>(((x / 4294967296 ^ (n - i)%d:Nat):Int),((n:Int) - 1 - (i:Int)),List.replicate (n - i) (0:Int)++(dl (x / d) n).drop (n - i))) n ?_ (by omega) (λi hi K=>?_) (λK=>?_)
 ·rw[aHA,aF4 hx,Nat.zero_mod,aGi (by rw[am]; omega),aF7];simp
 ·obtain⟨m,hm⟩:∃ m,n - i=m+1:=⟨n - i - 1,by omega⟩
  have hm2:n - (i+1)=m:=by omega
  have ei:(n:Int) - 1 - (i:Int)=(m:Int):=by omega
  have ei2:(n:Int) - 1 - ((i+1:Nat):Int)=(m:Int) - 1:=by omega
  have hp:x / 4294967296 ^ (m+1)=x / 4294967296 ^ m / 4294967296:=by rw[aFL,aFG]
  have hdg:x / d / 4294967296 ^ m%4294967296=x / 4294967296 ^ m / d%4294967296:=by rw[aFG,aFG,aFD d]
  obtain⟨n1,n2⟩:=Jy (A:=x / 4294967296 ^ m) hd0;rw[hm,hm2,ei,ei2,hp];simp only[pa,aFC,wd];have hl:(List.replicate (m+1) (0:Int)++(dl (x / d) n).drop (m+1)).length=n:=by simp[am]; omega
  have hr:=aFO (x / 4294967296 ^ m / 4294967296) hd0;have hq:(x / 4294967296 ^ m / 4294967296%d*4294967296+x / 4294967296 ^ m%4294967296) / d<4294967296:=by rw[n2]; exact aFO _ (by decide)
  rw[aFy (by omega:(m:Int)>=0),aFB,hn,ac aFx,sU,ac d1,hl,ac aFx,ac (aFy (by omega)),ac d1,ac aFw,ajg (by omega) (aFO _ (by decide))];have e1:∀ A:Nat,Int.tdiv (A:Int) (d:Int)=((A / d:Nat):Int):=λ_=>rfl
  have e2:∀ A:Nat,Int.tmod (A:Int) (d:Int)=((A%d:Nat):Int):=λ_=>rfl
  rw[e1,e2,n1,n2,<- hdg];have e3:IntKind.wrap .u32 (IntKind.wrap .u64 ((x / d / 4294967296 ^ m%4294967296:Nat):Int))=((x / d / 4294967296 ^ m%4294967296:Nat):Int):=by have:=aFO (x / d / 4294967296 ^ m) (by decide:4294967296>0);generalize x / d / 4294967296 ^ m%4294967296=y at *;rw[ar,il]; omega
  rw[e3,O9 _ _ _ (by omega)]
 ·simp only[pa];have e0:(n:Int) - 1 - (n:Int) = -1:=by omega
  rw[e0,aFz (by omega),aFA,aF9,aHq,aHn];rw[aF_,aGk,aG1];have hq:x / d<4294967296 ^ n:=aG_ (aHa _ _) hx;have hr:=aFO x hd0;have e3:IntKind.wrap .u32 ((x%d:Nat):Int)=((x%d:Nat):Int):=by rw[il]; omega
  rw[e3,ix _ (mY _ _) (by rw[am]; omega) (by rw[am]; omega) (λz=>k z ((x%d:Nat):Int)),wP hq]
theorem adr (N:Nat) {x:Nat} (hx:x<4294967296) (k:Kz0):Xq N (x:Int) k=k ((32 - bl x:Nat):Int):=by unfold Xq ami;have:=C2 (n:=x) (j:=32) (by rw[show(2:Nat) ^ 32=4294967296 by decide]; exact hx);rw[KU N x hx,ac aFw];congr 1; omega
theorem Mm:(2:Nat) ^ 32=4294967296:=by decide
theorem XH {y:Nat} (h0:y ≠ 0) (hy:y<4294967296):32 - bl y<32/\2147483648<=y*2 ^ (32 - bl y)/\y*2 ^ (32 - bl y)<4294967296:=by
 have h1:=C2 (n:=y) (j:=32) (by rw[Mm]; exact hy);obtain⟨h2,h3⟩:=aap h0;have h4:=Fi y;have hp:0<2 ^ (32 - bl y):=aFN _;refine⟨by omega,?_,?_⟩
 ·have:=aFF (2 ^ (32 - bl y)) h3;rw[<- aFS,show bl y - 1+(32 - bl y)=31 by omega]at this;exact this
 ·have:=aGl h4 hp;rw[<- aFS,show bl y+(32 - bl y)=32 by omega]at this;exact this
theorem Rj {N:Nat} (m:List Int) (hm:InW m) (n:Nat) (hn:n<4294967296) (hN:m.length+n / 32+4<N) (hs:m.length<=1099511627776) {Sw:jN} (e0:List Int->Bool) :
  ah N (Cw N Sw m ((n / 32:Nat):Int) ((n%32:Nat):Int) e0) (0,List.replicate (n / 32+m.length+1) (0:Int))=e0 (dl (aL m*2 ^ n) (n / 32+m.length+1)):=by
 generalize hw:n / 32=w at *;generalize hsh:n%32=s at *;have hs32:s<32:=by omega
 have hp2:2 ^ n=4294967296 ^ w*2 ^ s:=by rw[DB,hw,hsh]
 have hs0:0<2 ^ s:=aFN s;have hs1:2 ^ s*2 ^ (32 - s)=4294967296:=by rw[<- aFS,show s+(32 - s)=32 by omega]
 have hs2:2 ^ s<=2147483648:=by have:2 ^ s<=2 ^ 31:=aFP (by decide) (by omega);simpa using this
 let V:=aL m*2 ^ n
 let X:=aL m*2 ^ s
 have hVX:V=4294967296 ^ w*X:=by simp only[V,X]; rw[hp2,aF0]
 let T:=λi=>aL (m.take i)*2 ^ s
 let c:=λi=>T i / 4294967296 ^ i
 refine aS (N:=N) (λi=>((i:Int),dl V (w+i)++((c i:Nat):Int)::List.replicate (m.length - i) 0)) m.length ?_ (by omega) (λi hi K=>?_) (λK=>?_)
 ·congr 1;show List.replicate (w+m.length+1) (0:Int)=dl V w++((c 0:Nat):Int)::List.replicate m.length 0;rw[hVX,BZ];have hc0:c 0=0:=by simp[c,T,aL]
  rw[hc0];have:w+m.length+1=w+(m.length+1):=by omega
  rw[this,<- aHd,aGh]; rfl
 ·have hx:=hm.at (i:=i);have hT:T (i+1)=T i+4294967296 ^ i*((m.getD i 0).toNat*2 ^ s):=by simp only[T,bd,aF2,aFK]
  have hq:T (i+1) / 4294967296 ^ i=c i+(m.getD i 0).toNat*2 ^ s:=by rw[hT,jh]
  have hci:c i<2 ^ s:=by simp only[c,T];rw[aFI (bB i),aFD];exact aGF (ch hm i) hs0
  have hc1:c (i+1)=(c i+(m.getD i 0).toNat*2 ^ s) / 4294967296:=by rw[<- hq]; simp only[c]; rw[aFL,aFG]
  have hdig:V / 4294967296 ^ (w+i)%4294967296=(c i+(m.getD i 0).toNat*2 ^ s)%4294967296:=by rw[<- hq,hVX,aFS,<- aFG,aF8 _ (bB w)];obtain⟨R,hR⟩:=eI m (i+1);refine qy (R:=R*2 ^ s) ?_;simp only[X,T];rw[hR,aF2,aFK]
  have hrep:List.replicate (m.length - i) (0:Int)=0::List.replicate (m.length - (i+1)) 0:=by rw[show m.length - i=(m.length - (i+1))+1 by omega,aGh]
  have hdl:=am V (w+i);have ei:Int.toNat ((w:Int)+(i:Int))=w+i:=by omega
  have ei1:Int.toNat ((w:Int)+(i:Int)+1)=w+i+1:=by omega
  have emin:min s 64=s:=by omega
  simp only[Cw,aFC,ei,ei1,emin];rw[hrep,eG hdl.symm,bT _ _ _ _ _ hdl.symm];have et:IntKind.wrap .u64 (IntKind.wrap .u64 (m.getD i 0)*2 ^ s)=(((m.getD i 0).toNat*2 ^ s:Nat):Int):=by
   have hxs:(m.getD i 0).toNat*2 ^ s<4294967296*2147483648:=aGg (by omega) hs2 (by decide);have e1:IntKind.wrap .u64 (m.getD i 0)=(((m.getD i 0).toNat:Nat):Int):=by rw[ar]; omega
   have e2:(((m.getD i 0).toNat:Nat):Int)*2 ^ s=(((m.getD i 0).toNat*2 ^ s:Nat):Int):=by simp
   rw[e1,e2,ar]; omega
  rw[et];generalize hxx:(m.getD i 0).toNat=x at *;have hx32:x<4294967296:=by omega
  have hlow:x*2 ^ s%4294967296=2 ^ s*(x%2 ^ (32 - s)):=by
   have e:x*2 ^ s%(2 ^ s*2 ^ (32 - s))=2 ^ s*(x%2 ^ (32 - s)):=by rw[aFD x]; exact aHi _ _ _
   rwa [hs1]at e
  have hsum:2 ^ s*(x%2 ^ (32 - s))+c i<4294967296:=by have h1:x%2 ^ (32 - s)+1<=2 ^ (32 - s):=aFO _ (aFN _);have h2:=aFH (2 ^ s) h1;rw[hs1,aFQ]at h2;omega
  have eor:aH .or .u32 ((c i:Nat):Int) (IntKind.wrap .u32 ((x*2 ^ s:Nat):Int))=((V / 4294967296 ^ (w+i)%4294967296:Nat):Int):=by
   have e1:IntKind.wrap .u32 ((x*2 ^ s:Nat):Int)=((2 ^ s*(x%2 ^ (32 - s)):Nat):Int):=by rw[<- hlow,il]; omega
   rw[e1,xA _ _ s hci hsum,hdig];omega
  have ehi:IntKind.wrap .u32 (Int.fdiv ((x*2 ^ s:Nat):Int) (2 ^ 32))=((c (i+1):Nat):Int):=by have hxs:x*2 ^ s<4294967296*2147483648:=aGg hx32 hs2 (by decide);rw[oB,il,hc1];omega
  rw[eor,ehi];have hl1:∀(a b:Int) (ys:List Int),(dl V (w+i)++a::b::ys).length=w+i+2+ys.length:=by intro a b ys; simp[hdl]; omega
  have hset2:(dl V (w+i)++((V / 4294967296 ^ (w+i)%4294967296:Nat):Int)::0::List.replicate (m.length - (i+1)) 0).set (w+i+1) ((c (i+1):Nat):Int)=dl V (w+(i+1))++((c (i+1):Nat):Int)::List.replicate (m.length - (i+1)) 0:=by
   have:dl V (w+i)++((V / 4294967296 ^ (w+i)%4294967296:Nat):Int)::0::List.replicate (m.length - (i+1)) 0=dl V (w+(i+1))++0::List.replicate (m.length - (i+1)) 0:=by rw[<- aGf,dl]; simp
   rw[this];exact bT _ _ _ _ _ (by rw[am]; omega)
  rw[hset2,hl1,hl1];simp only[aGT];rw[aFy (by omega:(i:Int)<m.length),aFB,ac aFx,ac (aFy (by omega)),ac aFw,ac aFx,ac (aFy (by omega)),ac aFx,ac (aFy (by omega)),
   ac aFw,ac aFw,ac aFx,ac (aFy (by omega)),ac aFw]
  rfl
 ·simp only[Cw];rw[aFz (by omega:¬(m.length:Int)<m.length),aFA,aF9,aF_];have hV:V<4294967296 ^ (w+m.length+1):=by have h1:=jX hm;simp only[V];rw[hp2,aFL,aFS,aF0,aFK];refine aGF ?_ (bB w);exact aGg h1 (by omega) (by decide)
  have hT:T m.length=X:=by simp only[T,X]; rw[aGe]
  have hend:dl V (w+m.length)++[((c m.length:Nat):Int)]=dl V (w+m.length+1):=by
   rw[dl];have:c m.length=V / 4294967296 ^ (w+m.length)%4294967296:=by simp only[c];rw[hT,hVX,aFS,<- aFG,aF8 _ (bB w)];rw[aFJ];rw[aFI (bB _),aFD];have h1:=jX hm;simp only[X];exact aGg h1 (by omega) (by decide)
   rw[this]
  rw[hend]
theorem zy {N:Nat} {m s:Nat} (hm:m ≠ 0) (hs:s<32) (hN:(ak m).length+4<N) (hl:(ak m).length<=1099511627776) (k0:Bool) (k1:Nat->List Int->Bool) :
  Xs N (ak m) (s:Int) k0 k1=k1 (ak (m*2 ^ s)).length (dl (m*2 ^ s) ((ak m).length+1)):=by
 have hlp:(ak m).length ≠ 0:=by rw[fL hm]; simp
 have hV:m*2 ^ s<4294967296 ^ ((ak m).length+1):=by
  rw[aFL];have h2:2 ^ s<4294967296:=by rw[<- Mm]; exact Nat.pow_lt_pow_right (by decide) hs
  exact aGA (mO m) h2
 unfold Xs ahf;have e0:((((ak m).length:Nat):Int)==0)=false:=by simp; intro h; rw[h]at hlp; simp at hlp
 have ew:IntKind.wrap .u64 (Int.tdiv (s:Int) 32)=((s / 32:Nat):Int):=by rw[ar,aGz (by omega)]; omega
 have es:Int.tmod (s:Int) 32=((s%32:Nat):Int):=by rw[aGo (by omega)]; rfl
 have elen:Int.toNat (((s / 32:Nat):Int)+(((ak m).length:Nat):Int)+1)=s / 32+(ak m).length+1:=by omega
 rw[e0,aFA,ew,es,ac aFw,ac aFw,ac aFw,ac (iy (by omega) (by omega) (by omega) (by omega)),elen];have:=Rj (N:=N) (ak m) (bV m) s (by omega) (by omega) hl (Sw:=sQ7 N) (λz_1=>sQ7 N z_1 λmr=>k1 mr z_1);rw[aZ,show s / 32=0 by omega,aF3]at this;rw[show s / 32=0 by omega,aF3];refine Eq.trans this ?_;rw[p_ _ (by rw[am]; omega) (by rw[am]; omega),am,Ic hV]
theorem WZ {N:Nat} (b:List Int) (m:Nat) (hm:m<=b.length) (hN:m<N) (hs:m<9223372036854775807) (k:Kz1):Xy N 0 m b k=k (d8 b m):=by
 unfold Xy ahs;have key:∀ n,n<=m -> ∀ M,n<M->ah M (Ct N 0 b λm_4=>k m_4) n=k (d8 b n):=by
  intro n;induction n with
  | zero=>
   intro _ M hM;obtain⟨M,rfl⟩:∃ m,M=m+1:=⟨M - 1,by omega⟩
   show Ct N 0 b _ 0 _=_;simp only[Ct,d8];rw[aFz (by omega:¬((0:Nat):Int)>0),show(false==true)=false from rfl,aFA]
  | succ n ih=>
   intro hn M hM;obtain⟨M,rfl⟩:∃ m,M=m+1:=⟨M - 1,by omega⟩
   show Ct N 0 b _ (n+1) (ah M _)=_;have e:0+Int.toNat (((n+1:Nat):Int) - 1)=n:=by omega
   have e2:Int.toNat (((n+1:Nat):Int) - 1) - 0=n:=by omega
   simp only[Ct,e,e2];rw[aFy (by omega:((n+1:Nat):Int)>0),show(true==true)=true from rfl,aFB,ac aFw,ac aFx,ac (aFy (by omega)),ac aFw,ac (aFy (by omega)),ih (by omega) M (by omega),uI];by_cases h0:b.getD n 0=0
   ·have:(b.getD n 0==0)=true:=by simpa using h0
    rw[this,if_pos h0]; rfl
   ·have:(b.getD n 0==0)=false:=by simpa using h0
    rw[this,if_neg h0]; rfl
 exact key m (aFM _) N hN
theorem L7 {N:Nat} (b:List Int) (hb:InW b) (m s:Nat) (hm:m<=b.length) (hs:s<32) (hN:m+3<N) (hms:m<=1099511627780) (k:Kz4):Xv N 0 m (s:Int) b k=k (ak (aL (b.take m) / 2 ^ s)):=by
 have ew:IntKind.wrap .u64 (Int.tdiv (s:Int) 32)=0:=by rw[ar,aGz (by omega)]; omega
 have es:Int.tmod (s:Int) 32=(s:Int):=by rw[aGo (by omega)]; omega
 have hs0:0<2 ^ s:=aFN _;unfold Xv ahl;by_cases h0:m=0
 ·subst h0;rw[ew,aHP,show aL []=0 from rfl,Nat.zero_div,bM];rfl
 ·have emin:min s 64=s:=by omega
  rw[ew,es,ac aFw,aFz (by omega:¬(0:Int)>=(m:Int)),aFA];have hw:InW (b.take m):=hb.take m;have hwl:(b.take m).length=m:=by rw[aGc]; omega
  have hwg:∀ i,i<m->(b.take m).getD i 0=b.getD i 0:=λi hi=>Al hi
  obtain⟨X,hX⟩:∃ X,X=aL (b.take m) / 2 ^ s:=⟨_,rfl⟩
  have elen2:(m:Int) - 0=(m:Int):=by omega
  rw[elen2,ac aFw,ac (iy (by omega) (by omega) (by omega) (by omega)),aFC,<- hX];refine aS (λi=>((i:Int),dl X i++List.replicate (m - i) 0)) m (by simp[dl]) (by omega) (λi hi K=>?_) (λK=>?_)
  ·have hx:=hw.at (i:=i);have hy:=hw.at (i:=i+1);have hset:=Ir X i m (by omega);have hl:(dl X i++List.replicate (m - i) (0:Int)).length=m:=by simp[am]; omega
   obtain⟨R,hR⟩:=KJ hw i;have hdig:X / 4294967296 ^ i%4294967296=(((b.take m).getD i 0).toNat+4294967296*((b.take m).getD (i+1) 0).toNat) / 2 ^ s%4294967296:=by
    rw[hX,aFG,aFD (2 ^ s),<- aFG,hR];have e2:4294967296*4294967296*R=2 ^ s*(4294967296*(2 ^ (32 - s)*R)):=by
     have hs1:2 ^ s*2 ^ (32 - s)=4294967296:=by rw[<- aFS,show s+(32 - s)=32 by omega]
     rw[aF0 (2 ^ s),<- aFK (2 ^ s),hs1,aFK]
    rw[e2,aGr _ _ hs0,aGL]
   have hfin:∀ z:Int,z=((((b.take m).getD i 0).toNat+4294967296*((b.take m).getD (i+1) 0).toNat:Nat):Int)->IntKind.wrap .u32 (Int.fdiv z (2 ^ s))=((X / 4294967296 ^ i%4294967296:Nat):Int):=by
    intro z hz;have e:(2:Int) ^ s=((2 ^ s:Nat):Int):=by simp
    rw[hdig,hz,e,aG3 _ (by omega),il];rfl
   have ea:(0:Int)+(i:Int)=(i:Int):=by omega
   have ei:0+Int.toNat (i:Int)=i:=by omega
   have ei1:Int.toNat ((i:Int)+1)=i+1:=by omega
   simp only[mL,ea,ei1,aFC,aF3,emin,hl];rw[aFy (by omega:(i:Int)<m),aFB,ac aFw,ac aFx,ac (aFy (by omega)),ac aFw,ac aFw];rw[<- hwg i hi];by_cases hlast:i+1<m
   ·rw[<- hwg (i+1) hlast];rw[aFy (by omega:(i:Int)+1<m),aFB,ac aFw,ac aFw,ac aFx,ac (aFy (by omega)),ac (aFy (by omega)),ac aFx,ac (aFy (by omega)),ac aFw];have e1:IntKind.wrap .u64 ((b.take m).getD i 0)=((((b.take m).getD i 0).toNat:Nat):Int):=by rw[ar]; omega
    have e2:IntKind.wrap .u64 (IntKind.wrap .u64 ((b.take m).getD (i+1) 0)*2 ^ 32)=((2 ^ 32*((b.take m).getD (i+1) 0).toNat:Nat):Int):=by
     have:(2:Int) ^ 32=4294967296:=by decide
     have:(2:Nat) ^ 32=4294967296:=by decide
     rw[ar,ar]; omega
    have p32:(2:Nat) ^ 32=4294967296:=by decide
    rw[e1,e2,gb _ _ 32 (by omega) (by omega),hfin _ (by omega),hset,oS]
   ·rw[aFz (by omega:¬(i:Int)+1<m),aFA,ac (aFy (by omega)),ac aFx,ac (aFy (by omega)),ac aFw];have hz:(b.take m).getD (i+1) 0=0:=ji (by omega);have e1:IntKind.wrap .u64 ((b.take m).getD i 0)=((((b.take m).getD i 0).toNat:Nat):Int):=by rw[ar]; omega
    rw[e1,hfin _ (by rw[hz]; simp),hset,oS]
  ·simp only[mL];have hl:(dl X m++List.replicate (m - m) (0:Int)).length=m:=by simp[am]
   rw[aFz (by omega:¬(m:Int)<(((dl X m++List.replicate (m - m) (0:Int)).length:Nat):Int)),aFA,aF9,aF_,aF7];have hXl:X<4294967296 ^ m:=by have h1:=jX hw;rw[hwl]at h1;rw[hX];exact aG_ (aHa _ _) h1
   rw[ix _ (mY X m) (by rw[am]; omega) (by rw[am]; omega),wP hXl]
theorem an2 {A B r u0:Nat} (h:r*4294967296+u0<A):B+r*4294967296+u0<B+A:=by omega
theorem LR {N:Nat} {S1 S2 S3 S4 S5 S6 S7 S8 S9} {s5:Int} {ul j n u0 v0 v1 T d:Nat} {b c ql:List Int} (hn:2<=n) (hc1:c.getD (n - 2) 0=(v0:Int)) (hb:b.getD (j+n - 2) 0=(u0:Int)) (hcl:n<=c.length) (hul:j+n<ul) (hbl:ul<=b.length) (hbs:b.length<=1099511627780)
  (hv0:v0<4294967296) (hv1:v1<4294967296) (hu0:u0<4294967296) (hTl:T<4294967296*v1+4294967296) (hd:∀ g,T*4294967296+u0<g*(v1*4294967296+v0)->d<g) (hdW:d<4294967296) :
  ∀ g r M,g<M->g<=4294967299->g*v1+r=T->r<4294967296->d<=g ->
   ∃ q,d<=q/\q<4294967296/\q*(v1*4294967296+v0)<=T*4294967296+u0 /\ ∀ e0,ah M (vv N S1 S2 S3 S4 S5 S6 S7 S8 S9 s5 n ul (n:Int) (v1:Int) (j:Int) c b ql e0) ((g:Int),(r:Int))=e0 (q:Int):=by
 intro g;induction g using Nat.strongRecOn with
 | ind g ih=>
 intro r M hM hgb hT hr hdg;obtain⟨M,rfl⟩:∃ m,M=m+1:=⟨M - 1,by omega⟩
 have i2:0+Int.toNat ((n:Int) - 2)=n - 2:=by omega
 have j2:0+Int.toNat ((j:Int)+(n:Int) - 2)=j+n - 2:=by omega
 have dec:∀ p,g=p+1->d<=p -> ∃ q,d<=q/\q<4294967296/\q*(v1*4294967296+v0)<=T*4294967296+u0 /\ ∀ e0,cond (decide ((IntKind.wrap .u64 ((r:Int)+(v1:Int)))>=4294967296)) (e0 (IntKind.wrap .u64 ((g:Int) - 1))) (ah M (vv N S1 S2 S3 S4 S5 S6 S7 S8 S9 s5 n ul (n:Int) (v1:Int) (j:Int) c b ql e0) ((IntKind.wrap .u64 ((g:Int) - 1)),(IntKind.wrap .u64 ((r:Int)+(v1:Int)))))=e0 (q:Int):=by
  intro p hp hdp;subst hp;have w1:IntKind.wrap .u64 (((p+1:Nat):Int) - 1)=(p:Int):=PS p (by omega);have w2:IntKind.wrap .u64 ((r:Int)+(v1:Int))=((r+v1:Nat):Int):=by rw[ar]; omega
  rw[w1,w2];by_cases hb2:4294967296<=r+v1
  ·have hpl:p<4294967296:=by
    rcases aGw p 4294967296 with h | h
    ·exact h
    ·exfalso;have:=aFF v1 h;rw[aG7]at hT;omega
   refine⟨p,hdp,hpl,ID hv0 (by omega) hT hb2,λe0=>?_⟩;rw[aFy (by omega),aFB]
  ·obtain⟨q,q1,q2,q3,q4⟩:=ih p (by omega) (r+v1) M (by omega) (by omega) (by rw[<- hT,aG7]; omega) (by omega) hdp;exact⟨q,q1,q2,q3,λe0=>by rw[aFz (by omega),aFA]; exact q4 e0⟩
 by_cases hg:4294967296<=g
 ·obtain⟨q,q1,q2,q3,q4⟩:=dec (g - 1) (by omega) (by omega);refine⟨q,q1,q2,q3,λe0=>?_⟩;show vv N S1 S2 S3 S4 S5 S6 S7 S8 S9 s5 n ul (n:Int) (v1:Int) (j:Int) c b ql e0 (_,_) (ah M _)=_;simp only[vv];rw[aFy (by omega:(g:Int)>=4294967296),show(true==false)=false from rfl,aFA];exact q4 e0
 ·have hgv:g*v0<=4294967295*4294967295:=aGu (by omega) (by omega);have wv0:IntKind.wrap .u64 (v0:Int)=(v0:Int):=by rw[ar]; omega
  have wgv:IntKind.wrap .u64 ((g:Int)*(v0:Int))=((g*v0:Nat):Int):=by rw[<- aFV,ar]; omega
  have e1:T*4294967296+u0=g*v1*4294967296+r*4294967296+u0:=by rw[<- hT,aF2]
  have e2:g*(v1*4294967296+v0)=g*v1*4294967296+g*v0:=by rw[aFQ,aFK]
  have body:∀ e0:Int->Bool,ah (M+1) (vv N S1 S2 S3 S4 S5 S6 S7 S8 S9 s5 n ul (n:Int) (v1:Int) (j:Int) c b ql e0) ((g:Int),(r:Int))=cond (decide (((g*v0:Nat):Int)>((r*4294967296+u0:Nat):Int))) (cond (decide ((IntKind.wrap .u64 ((r:Int)+(v1:Int)))>=4294967296)) (e0 (IntKind.wrap .u64 ((g:Int) - 1))) (ah M (vv N S1 S2 S3 S4 S5 S6 S7 S8 S9 s5 n ul (n:Int) (v1:Int) (j:Int) c b ql e0) ((IntKind.wrap .u64 ((g:Int) - 1)),(IntKind.wrap .u64 ((r:Int)+(v1:Int)))))) (e0 (g:Int)):=by intro e0;show vv N S1 S2 S3 S4 S5 S6 S7 S8 S9 s5 n ul (n:Int) (v1:Int) (j:Int) c b ql e0 (_,_) (ah M _)=_;simp only[vv,i2,j2,hc1,hb,wv0,wgv];rw[aFz (by omega:¬(g:Int)>=4294967296),show(false==false)=true from rfl,aFB,ac aFw,ac aFx,ac (aFy (by omega)),ac aFw,ac aFw,ac aFx,ac (aFy (by omega)),ajg hr hu0]
  by_cases ht:r*4294967296+u0<g*v0
  ·have hlt1:g*v1*4294967296+r*4294967296+u0<g*v1*4294967296+g*v0:=an2 ht;have hlt:d<g:=hd g (aG_ (aHC e1) (aFT hlt1 (aHC e2.symm)));obtain⟨q,q1,q2,q3,q4⟩:=dec (g - 1) (by omega) (by omega);exact⟨q,q1,q2,q3,λe0=>by rw[body,aFy (by omega),aFB]; exact q4 e0⟩
  ·exact⟨g,hdg,by omega,aF1 (aHC e2) (aF1 (by omega) (aHC e1.symm)),λe0=>by rw[body,aFz (by omega),aFA]⟩
theorem W3 {N:Nat} {j n ul g U V:Nat} {b c:List Int} (hN:n<N) (hb:InW b) (hc:InW c) (hcl:n<=c.length) (hul:j+n<ul) (hbl:ul<=b.length) (hbs:b.length<=1099511627780) (hg:g<4294967296) (hU:U=aL ((b.drop j).take (n+1))) (hV:V=aL (c.take n)) (k:Ky1) :
  Xt N 0 ul 0 n (j:Int) (g:Int) b c k=k (decide (U<g*V)) (b.take j++(dl (U+4294967296 ^ (n+1) - g*V) (n+1)++b.drop (j+(n+1)))):=by
 unfold Xt ahh;have hw:InW ((b.drop j).take (n+1)):=(hb.drop j).take _;have hwl:((b.drop j).take (n+1)).length=n+1:=by rw[aGc,aHc]; omega
 have hwg:∀ i,i<=n->((b.drop j).take (n+1)).getD i 0=b.getD (j+i) 0:=λi hi=>by rw[Al (by omega),nV]
 generalize (b.drop j).take (n+1)=w at *;have hVl:V<4294967296 ^ n:=by rw[hV]; exact ch hc n
 have hgV:g*V<4294967296 ^ (n+1):=by rw[aFL,aFD];exact aGA hVl hg
 obtain⟨D,hD⟩:∃ D,D=U+4294967296 ^ (n+1) - g*V:=⟨_,rfl⟩
 obtain⟨Q,hQ⟩:∃ Q,Q=g*V:=⟨_,rfl⟩
 have hQW:Q<4294967296 ^ (n+1):=by rw[hQ]; exact hgV
 rw[<- hD];refine aS (λi=>(((g*aL (c.take i) / 4294967296 ^ i:Nat):Int),((if aL (w.take i)<Q%4294967296 ^ i then 1 else 0:Nat):Int),(i:Int),b.take j++(dl D i++b.drop (j+i)))) n ?_ (by omega) (λi hi K=>?_) (λK=>?_)
 ·simp[dl,aL,aIn]
 ·have hx:=hb.at (i:=j+i);have hy:=hc.at (i:=i);have hcv:=bd (m:=c) i;have hp:=bB i;have hVi:=ch hc i;obtain⟨s1,s2⟩:=JJ hw hwl hU (by omega:i<=n) hQW;rw[hwg i (by omega)]at s1 s2;rw[hQ,<- hD,<- hQ]at s1;obtain⟨cy,hcy⟩:∃ cy,cy=g*aL (c.take i) / 4294967296 ^ i:=⟨_,rfl⟩
  have hcyl:cy<4294967296:=by rw[hcy,aFI hp];exact aGA hg hVi
  have e1:g*aL (c.take (i+1))=g*aL (c.take i)+4294967296 ^ i*(g*(c.getD i 0).toNat):=by rw[hcv,aFQ,aF0 g]
  have ecy:g*aL (c.take (i+1)) / 4294967296 ^ (i+1)=(g*(c.getD i 0).toNat+cy) / 4294967296:=by rw[aFL,<- aFG,e1,jh,<- hcy];congr 1; omega
  obtain⟨R,hR⟩:=eI (c.take n) (i+1);rw[aIB,aGY (by omega),<- hV]at hR;have elo:Q / 4294967296 ^ i%4294967296=(g*(c.getD i 0).toNat+cy)%4294967296:=by
   have:Q=g*aL (c.take (i+1))+4294967296 ^ (i+1)*(g*R):=by rw[hQ,hR,aFQ,aF0 g]
   rw[qy this,e1,jh,<- hcy];congr 1; omega
  rw[elo]at s1 s2;have ei:0+Int.toNat ((j:Int)+(i:Int))=j+i:=by omega
  have hgy:g*(c.getD i 0).toNat<=4294967295*4294967295:=aGu (by omega) (by omega);have wy:IntKind.wrap .u64 (c.getD i 0)=(((c.getD i 0).toNat:Nat):Int):=by rw[ar]; omega
  have wp:IntKind.wrap .u64 ((g:Int)*(((c.getD i 0).toNat:Nat):Int))=((g*(c.getD i 0).toNat:Nat):Int):=by rw[<- aFV,ar]; omega
  have wpc:IntKind.wrap .u64 (((g*(c.getD i 0).toNat:Nat):Int)+(cy:Int))=((g*(c.getD i 0).toNat+cy:Nat):Int):=by rw[ar]; omega
  have wx:IntKind.wrap .u64 (b.getD (j+i) 0)=(((b.getD (j+i) 0).toNat:Nat):Int):=by rw[ar]; omega
  have hcf:Int.fdiv ((g*(c.getD i 0).toNat+cy:Nat):Int) (2 ^ 32)=((g*aL (c.take (i+1)) / 4294967296 ^ (i+1):Nat):Int):=by rw[oB,ecy]; rfl
  simp only[MN,aFC,aF3];have ei':Int.toNat ((j:Int)+(i:Int))=j+i:=by omega
  rw[ei',PR D (by omega),PQ D (by omega),aFy (by omega:(i:Int)<(n:Int)),aFB,ac aFx,ac (aFy (by omega)),ac aFw,ac aFx,ac (aFy (by omega)),<- hcy,wy,wp,wpc,wx,NE,hcf];generalize (g*(c.getD i 0).toNat+cy)%4294967296=lo at *;have hlo:lo<4294967296:=by rw[<- elo]; exact aFO _ (by decide)
  obtain⟨bo,hbo⟩:∃ bo:Nat,bo=if aL (w.take i)<Q%4294967296 ^ i then 1 else 0:=⟨_,rfl⟩
  have hbo1:bo<=1:=by rw[hbo]; split <;> omega
  rw[<- hbo]at s1 s2 ⊢;obtain⟨x,hxe⟩:∃ x,x=(b.getD (j+i) 0).toNat:=⟨_,rfl⟩
  rw[<- hxe]at s1 s2 ⊢;have hxl:x<4294967296:=by omega
  have wlb:IntKind.wrap .u64 ((lo:Int)+(bo:Int))=((lo+bo:Nat):Int):=by rw[ar]; omega
  rw[wlb];by_cases hlt:x<lo+bo
  ·rw[if_pos hlt]at s2;have wv:IntKind.wrap .u32 (IntKind.wrap .u64 (IntKind.wrap .u64 ((x:Int)+4294967296) - ((lo+bo:Nat):Int)))=((D / 4294967296 ^ i%4294967296:Nat):Int):=by rw[<- s1,ar,ar,il]; omega
   rw[aFy (by omega),aFB,wv,ac aFw,ac aFx,ac (aFy (by omega)),ac aFw,JP D (by omega),<- s2,oS];rfl
  ·rw[if_neg hlt]at s2;have wv:IntKind.wrap .u32 (IntKind.wrap .u64 ((x:Int) - ((lo+bo:Nat):Int)))=((D / 4294967296 ^ i%4294967296:Nat):Int):=by rw[<- s1,ar,il]; omega
   rw[aFz (by omega),aFA,wv,ac aFw,ac aFx,ac (aFy (by omega)),ac aFw,JP D (by omega),<- s2,oS];rfl
 ·have hx:=hb.at (i:=j+n);obtain⟨s1,s2⟩:=JJ hw hwl hU (aFM n) hQW;rw[hwg n (by omega)]at s1 s2;rw[hQ,<- hD,<- hQ]at s1;have hql:Q / 4294967296 ^ n<4294967296:=by rw[aFI (bB n),aFD,<- aFL]; exact hQW
  rw[aFJ hql]at s1 s2;have hwt:w.take (n+1)=w:=aFW (by omega);rw[hwt,<- hU,aFJ hQW]at s2;simp only[MN];have ei':0+Int.toNat ((j:Int)+(n:Int))=j+n:=by omega
  rw[aFz (by omega:¬(n:Int)<(n:Int)),aFA,<- hV,<- hQ];rw[ei',PR D (by omega),PQ D (by omega),ac aFw,ac aFx,ac (aFy (by omega)),ac aFw,ac aFx,ac (aFy (by omega))];obtain⟨y,hy⟩:∃ y,y=Q / 4294967296 ^ n:=⟨_,rfl⟩
  rw[<- hy]at s1 s2 hql ⊢;obtain⟨bo,hbo⟩:∃ bo:Nat,bo=if aL (w.take n)<Q%4294967296 ^ n then 1 else 0:=⟨_,rfl⟩
  have hbo1:bo<=1:=by rw[hbo]; split <;> omega
  rw[<- hbo]at s1 s2 ⊢;have wx:IntKind.wrap .u64 (b.getD (j+n) 0)=(((b.getD (j+n) 0).toNat:Nat):Int):=by rw[ar]; omega
  rw[wx];obtain⟨x,hxe⟩:∃ x,x=(b.getD (j+n) 0).toNat:=⟨_,rfl⟩
  rw[<- hxe]at s1 s2 ⊢;have hxl:x<4294967296:=by omega
  have wlb:IntKind.wrap .u64 ((y:Int)+(bo:Int))=((y+bo:Nat):Int):=by rw[ar]; omega
  have wv:IntKind.wrap .u32 (IntKind.wrap .u64 ((x:Int) - ((y+bo:Nat):Int)))=((D / 4294967296 ^ n%4294967296:Nat):Int):=by rw[<- s1,ar,il]; omega
  rw[wlb,wv,JP D (by omega)];have hdec:decide ((x:Int)<((y+bo:Nat):Int))=decide (U<Q):=by
   by_cases h1:U<Q
   ·rw[if_pos h1]at s2;rw[aFy h1];refine aFy ?_;split at s2 <;> omega
   ·rw[if_neg h1]at s2;rw[aFz h1];refine aFz ?_;split at s2 <;> omega
  rw[hdec]
theorem W6 {N:Nat} {j n ul D V:Nat} {b c:List Int} (hN:n<N) (hc:InW c) (hcl:n<=c.length) (hul:j+n<ul) (hbl:ul<=b.length) (hbs:b.length<=1099511627780) (hV:V=aL (c.take n)) (k:Kz4) :
  Xu N 0 ul 0 n (j:Int) (b.take j++(dl D (n+1)++b.drop (j+(n+1)))) c k=k (b.take j++(dl (D+V) (n+1)++b.drop (j+(n+1)))):=by
 unfold Xu ahi;obtain⟨E,hE⟩:∃ E,E=D+V:=⟨_,rfl⟩
 rw[<- hE];refine aS (λi=>((((D%4294967296 ^ i+aL (c.take i)) / 4294967296 ^ i:Nat):Int),(i:Int),b.take j++(dl E i++((dl D (n+1)).drop i++b.drop (j+(n+1)))))) n ?_ (by omega) (λi hi K=>?_) (λK=>?_)
 ·simp[dl,aL,aIn]
 ·have hx:=hc.at (i:=i);have hcv:=bd (m:=c) i;have hVl:=ch hc i;have hp:=bB i;have hml:=aFO D hp;obtain⟨cy,hcy⟩:∃ cy,cy=(D%4294967296 ^ i+aL (c.take i)) / 4294967296 ^ i:=⟨_,rfl⟩
  have hcl1:cy<=1:=by
   have:cy<2:=by rw[hcy,aFI hp]; omega
   omega
  obtain⟨a1,a2⟩:=HR (D:=D) (V:=aL (c.take i)) (v:=(c.getD i 0).toNat) hcy;obtain⟨R,hR⟩:=eI (c.take n) (i+1);rw[aIB,aGY (by omega),<- hV,hcv]at hR;have a3:=a2 R;rw[<- hR,<- hE]at a3;have hdl:D / 4294967296 ^ i%4294967296<4294967296:=aFO _ (by decide);have ei':Int.toNat ((j:Int)+(i:Int))=j+i:=by omega
  simp only[MO,aFC,aF3,ei'];rw[PO D E (by omega) (by omega),PN D E (by omega) (by omega)];have wy:IntKind.wrap .u64 (c.getD i 0)=(((c.getD i 0).toNat:Nat):Int):=by rw[ar]; omega
  obtain⟨dg,hdg⟩:∃ dg,dg=D / 4294967296 ^ i%4294967296:=⟨_,rfl⟩
  rw[<- hdg]at a1 a3 hdl ⊢;have ws:IntKind.wrap .u64 (IntKind.wrap .u64 (IntKind.wrap .u64 (dg:Int)+(((c.getD i 0).toNat:Nat):Int))+(cy:Int))=((dg+(c.getD i 0).toNat+cy:Nat):Int):=by rw[ar,ar,ar]; omega
  have wf:Int.fdiv ((dg+(c.getD i 0).toNat+cy:Nat):Int) (2 ^ 32)=(((D%4294967296 ^ (i+1)+aL (c.take (i+1))) / 4294967296 ^ (i+1):Nat):Int):=by rw[hcv,a1,oB]; rfl
  have w3:IntKind.wrap .u32 ((dg+(c.getD i 0).toNat+cy:Nat):Int)=((E / 4294967296 ^ i%4294967296:Nat):Int):=by rw[a3,il]; rfl
  rw[aFy (by omega:(i:Int)<(n:Int)),aFB,ac aFw,ac aFx,ac (aFy (by omega)),ac aFx,ac (aFy (by omega)),ac aFw,ac aFx,ac (aFy (by omega)),ac aFw,<- hcy,wy,ws,wf,w3,PP D E (by omega) (by omega),oS]
 ·have hp:=bB n;have hml:=aFO D hp;have hVl:V<4294967296 ^ n:=by rw[hV]; exact ch hc n
  obtain⟨cy,hcy⟩:∃ cy,cy=(D%4294967296 ^ n+V) / 4294967296 ^ n:=⟨_,rfl⟩
  have hcl1:cy<=1:=by
   have:cy<2:=by rw[hcy,aFI hp]; omega
   omega
  obtain⟨a1,a3⟩:=Nv (D:=D) (V:=V) (i:=n) hcy;rw[<- hE]at a3;have hdl:D / 4294967296 ^ n%4294967296<4294967296:=aFO _ (by decide);have ei':0+Int.toNat ((j:Int)+(n:Int))=j+n:=by omega
  simp only[MO];rw[aFz (by omega:¬(n:Int)<(n:Int)),aFA,ei',PO D E (by omega) (by omega),PN D E (by omega) (by omega),<- hV,<- hcy];obtain⟨dg,hdg⟩:∃ dg,dg=D / 4294967296 ^ n%4294967296:=⟨_,rfl⟩
  rw[<- hdg]at a3 hdl ⊢;have w3:IntKind.wrap .u32 ((dg:Int)+IntKind.wrap .u32 (cy:Int))=((E / 4294967296 ^ n%4294967296:Nat):Int):=by rw[a3,il,il]; omega
  rw[ac aFw,ac aFx,ac (aFy (by omega)),ac aFx,ac (aFy (by omega)),w3,PP D E (by omega) (by omega)];rw[aGi (by rw[am]; omega),aGk]
theorem ai0 {P A B U3 V2 U V g:Nat} (hB:B<P) (hg:g*P<=V) (hU:U=A+P*U3) (hV:V=B+P*V2) (h:g*V2<=U3) (hV0:0<V):g<=U / V+1:=by
 have h1:g*B<=g*P:=aFH _ (by omega);have h2:P*(g*V2)<=P*U3:=aFH _ h;have h3:g*V=g*B+P*(g*V2):=by rw[hV,aFQ,aF0 g P]
 have h4:g*V<=U+V:=by omega
 have h5:=aHX U hV0;have h6:g*V<(U / V+2)*V:=by rw[show U / V+2=U / V+1+1 by omega,aG7,aFD (U / V+1)];omega
 have:=Nat.lt_of_mul_lt_mul_right h6;omega
theorem ao2 {V Y Z X U Q:Nat} (h1:V<Y) (h2:Y<=Z) (h3:X<=U) (h4:X=Q*4294967296) (h5:U<V*4294967296):Q<Z:=by omega
theorem ahw {P A B U V T u0 v0 v1:Nat} (hA:A<P) (hB:B<P) (hU:U=A+P*(u0+4294967296*T)) (hV:V=B+P*(v0+4294967296*v1)) (hv0:v0<4294967296) (hUV:U<V*4294967296):T<4294967296*v1+4294967296:=by
 have h1:V<P*(v0+4294967296*v1+1):=by rw[hV,aIQ]; omega
 have h2:P*(v0+4294967296*v1+1)<=P*(4294967296*v1+4294967296):=aFH _ (by omega);have h3:P*(4294967296*T)<=U:=by rw[hU,aFQ P u0]; omega
 have h4:P*(4294967296*T)=P*T*4294967296:=by rw[aFD 4294967296,aFK]
 have h5:P*T<P*(4294967296*v1+4294967296):=ao2 h1 h2 h3 h4 hUV;exact aHQ h5
theorem WJ {N:Nat} (hN:5<N) {S1 S2 S3 S4 S5 S6 S7 S8 S9} {a:List Int} {s:Int} {d:Nat} {dl':List Int} {X la:Nat} (hla:a.length=la) (hX:X<4294967296 ^ (la+1)) (h1:la<=(ak X).length) (hs:la<=1099511627000) (e0:Nat->List Int->Bool) :
  ah N (vu N S1 S2 S3 S4 S5 S6 S7 S8 S9 a s d dl' e0) ((ak X).length,dl X (la+1))=e0 (la+1) (dl X (la+1)):=by
 have h2:(ak X).length<=la+1:=gd _ _ hX;have last:∀ K,vu N S1 S2 S3 S4 S5 S6 S7 S8 S9 a s d dl' e0 (la+1,dl X (la+1)) K=e0 (la+1) (dl X (la+1)):=by intro K;simp only[vu];rw[hla,ac aFw,aFz (by omega),aFA]
 by_cases h:(ak X).length=la+1
 ·rw[h];exact aS (λi=>(la+1,dl X (la+1))) 0 rfl (by omega) (λi hi K=>by omega) last
 ·have hl:(ak X).length=la:=by omega
  rw[hl];refine aS (λi=>(la+i,dl X (la+1))) 1 rfl (by omega) (λi hi K=>?_) last;have:i=0:=by omega
  subst this;have e1:(dl X (la+1)).take la++[0]=dl X (la+1):=by
   rw[vK X (by omega),dl];have:X / 4294967296 ^ la%4294967296=0:=by have:=mO X;rw[hl]at this;rw[aF4 this]
   rw[this]; rfl
  show vu N S1 S2 S3 S4 S5 S6 S7 S8 S9 a s d dl' e0 (la,dl X (la+1)) K=K (la+1,dl X (la+1));simp only[vu];rw[hla,ac aFw,aFy (by omega),aFB,ac (aFy (by rw[am]; omega)),aG1,e1,am,ac (aFy (by omega))]
theorem aoN {N:Nat} (hN:1180591620717411303424<=N) {n j ul V v1:Nat} {s:Int} {b ql:List Int} (hVlt:V<4294967296 ^ (n+2)) (hVge:4294967296 ^ (n+1)<=V) (hv1:v1=V / 4294967296 ^ (n+1)) (hv1lo:2147483648<=v1) (hv1hi:v1<4294967296) (hbw:InW b) (hblen:b.length=ul) (hjl:j+(n+2)<ul) (hls:ul<=1099511627700) (hjq:j<ql.length)
  (hUlt:aL ((b.drop j).take (n+2+1))<V*4294967296) (e0:List Int->List Int->Bool) (K:Int × List Int × List Int->Bool) :
  nE N (wh N) (RX N) (sQ7 N) (Xq N) (Xs N) (Xt N) (Xu N) (Xy N) (Xv N) s (n+2) ul ((n+2:Nat):Int) (v1:Int) (dl V (n+2+1)) e0 ((j:Int),b,ql) K
   = K ((j:Int) - 1,b.take j++(dl (aL ((b.drop j).take (n+2+1))%V) (n+2+1)++b.drop (j+(n+2+1))),ql.set j ((aL ((b.drop j).take (n+2+1)) / V:Nat):Int)):=by
 have hV0:0<V:=aFT (bB _) hVge;have hcv:aL ((dl V (n+2+1)).take (n+2))=V:=by rw[vK V (by omega),xh,aFJ hVlt]
 have hU3:=ara (b.drop j) n;have hV2:=aq_ (dl V (n+2+1)) n;rw[show n+3=n+2+1 by omega,nV,nV,nV]at hU3;rw[hcv]at hV2;have a0:=hbw.at (i:=j+n);have a1:=hbw.at (i:=j+(n+1));have a2:=hbw.at (i:=j+(n+2));have c0:=(mY V (n+2+1)).at (i:=n);obtain⟨u0,hu0⟩:∃ u,u=(b.getD (j+n) 0).toNat:=⟨_,rfl⟩
 obtain⟨u1,hu1⟩:∃ u,u=(b.getD (j+(n+1)) 0).toNat:=⟨_,rfl⟩
 obtain⟨u2,hu2⟩:∃ u,u=(b.getD (j+(n+2)) 0).toNat:=⟨_,rfl⟩
 obtain⟨v0,hv0⟩:∃ u,u=((dl V (n+2+1)).getD n 0).toNat:=⟨_,rfl⟩
 have q0:b.getD (j+n) 0=(u0:Int):=by omega
 have q1:b.getD (j+(n+1)) 0=(u1:Int):=by omega
 have q2:b.getD (j+(n+2)) 0=(u2:Int):=by omega
 have k0:(dl V (n+2+1)).getD n 0=(v0:Int):=by omega
 have k1:((dl V (n+2+1)).getD (n+1) 0).toNat=v1:=by rw[Ai V (by omega),aFC,<- hv1,aFJ hv1hi]
 rw[<- hu0,<- hu1,<- hu2]at hU3;rw[<- hv0,k1]at hV2;have hAb:=ch (hbw.drop j) n;have hBb:=ch (mY V (n+2+1)) n;have hwv:∃ U,U=aL ((b.drop j).take (n+2+1)):=⟨_,rfl⟩
 obtain⟨U,hwv⟩:=hwv;rw[<- hwv]at hU3 hUlt ⊢;have hT:=ahw hAb hBb hU3 hV2 (by omega) hUlt;have hdW:U / V<4294967296:=by rw[aFI hV0,aFD]; exact hUlt
 have hv1p:0<v1:=by omega
 obtain⟨T,hTe⟩:∃ T,T=u2*4294967296+u1:=⟨_,rfl⟩
 rw[<- hTe]at hU3 hT;have hg0:T / v1<=4294967298:=by
  have:T / v1<4294967299:=by rw[aFI hv1p]; omega
  omega
 have hkb:U / V<=T / v1:=by rw[hTe]; rw[hTe]at hU3; exact UC hAb hU3 hV2 hV0 hv1p (by omega)
 obtain⟨g,p1,p2,p3,p4⟩:=LR (N:=N) (S1:=wh N) (S2:=RX N) (S3:=sQ7 N) (S4:=Xq N) (S5:=Xs N) (S6:=Xt N) (S7:=Xu N) (S8:=Xy N) (S9:=Xv N) (s5:=s) (ul:=ul) (j:=j) (n:=n+2) (u0:=u0) (v0:=v0) (v1:=v1) (T:=T) (d:=U / V) (b:=b) (c:=dl V (n+2+1)) (ql:=ql) (by omega) (by rw[show n+2 - 2=n by omega]; exact k0) (by rw[show j+(n+2) - 2=j+n by omega]; exact q0) (by rw[am]; omega) (by omega) (by omega) (by omega) (by omega) hv1hi (by omega) hT
  (λg hg=>LX hAb hU3 hV2 hV0 (by rw[aHp v0,aFD 4294967296 v1]; omega)) hdW
  (T / v1) (T%v1) N (by omega) (by omega) (aGs _ _) (aHj (aFO _ hv1p) hv1hi) hkb
 have hgd:g<=U / V+1:=ai0 hBb (by have:g*4294967296 ^ n<=4294967296*4294967296 ^ n:=aFF _ (Nat.le_of_lt p2);rw[<- Nat.pow_succ']at this;exact aF1 this hVge) hU3 hV2 (by rw[aHp v0,aFD 4294967296 v1]; omega) hV0
 have hless:=λkk=>W3 (N:=N) (j:=j) (n:=n+2) (ul:=ul) (g:=g) (U:=U) (V:=V) (b:=b) (c:=dl V (n+2+1)) (by omega) hbw (mY _ _) (by rw[am]; omega) (by omega) (by omega) (by omega) p2 hwv hcv.symm kk
 have jn:0+Int.toNat ((j:Int)+((n+2:Nat):Int))=j+(n+2):=by omega
 have jn1:0+Int.toNat ((j:Int)+((n+2:Nat):Int) - 1)=j+(n+1):=by omega
 have top0:(!decide ((v1:Int)=0))=true:=by simp; omega
 have wu2:IntKind.wrap .u64 (u2:Int)=(u2:Int):=by rw[ar]; omega
 have hor:aH .or .u64 (IntKind.wrap .u64 ((u2:Int)*2 ^ 32)) (IntKind.wrap .u64 (u1:Int))=(T:Int):=by rw[ajg (by omega) (by omega),hTe]
 have etd:IntKind.wrap .u64 (Int.tdiv (T:Int) (v1:Int))=((T / v1:Nat):Int):=by have:Int.tdiv (T:Int) (v1:Int)=((T / v1:Nat):Int):=rfl;rw[this,ar];generalize T / v1=z at *;omega
 have etm:Int.tmod (T:Int) (v1:Int)=((T%v1:Nat):Int):=rfl;have hfin:dl (U+4294967296 ^ (n+2+1) - U / V*V) (n+2+1)=dl (U%V) (n+2+1):=by
  have e:U+4294967296 ^ (n+2+1) - (U / V)*V=U%V+4294967296 ^ (n+2+1)*1:=by have:=aGs U V;omega
  rw[e,Us _ _ _ (aFM _)]
 have hgV:g*V<4294967296 ^ (n+2+1):=by rw[aFL,aFD];exact aGA hVlt p2
 simp only[nE,jn,jn1,q1,q2,wu2,hor,etd,etm];rw[aFy (by omega:(j:Int)>=0),aFB,ac aFw,ac aFx,ac (aFy (by omega)),ac aFw,ac aFw,ac aFx,ac (aFy (by omega)),ac top0,ac top0,p4,hless];by_cases hlt:U<g*V
 ·have hge:g=U / V+1:=by
   have:U / V<g:=by
    rcases aGw (U / V) g with h | h
    ·exact h
    ·have:=(aHf hV0).1 h; omega
   omega
  have hmore:=λkk=>W6 (N:=N) (j:=j) (n:=n+2) (ul:=ul) (D:=U+4294967296 ^ (n+2+1) - g*V) (V:=V) (b:=b) (c:=dl V (n+2+1)) (by omega) (mY _ _) (by rw[am]; omega) (by omega) (by omega) (by omega) hcv.symm kk
  have hD:U+4294967296 ^ (n+2+1) - g*V+V=U+4294967296 ^ (n+2+1) - U / V*V:=by
   have:g*V=U / V*V+V:=by rw[hge,aG7]
   omega
  have wg:IntKind.wrap .u32 (IntKind.wrap .u64 ((g:Int) - 1))=((U / V:Nat):Int):=by rw[hge];generalize U / V=z at *;rw[ar,il]; omega
  rw[aFy hlt,aFB,hmore,hD,hfin,ac aFx,ac (aFy (by omega)),ac aFw,aFC,wg]
 ·have hge:g=U / V:=by have:=(aHf hV0).2 (Nat.le_of_not_lt hlt);omega
  have wg:IntKind.wrap .u32 (g:Int)=((U / V:Nat):Int):=by rw[hge];generalize U / V=z at *;rw[il]; omega
  rw[aFz hlt,aFA,wg,hge,hfin,ac aFx,ac (aFy (by omega)),ac aFw,aFC]
theorem I5 {N:Nat} (hN:1180591620717411303424<=N) {x y:Nat} (hxy:y<=x) (hy2:2<=(ak y).length) (hxl:(ak x).length<=1099511627000) (k:Ky8) :
  vq N (ak x) (ak y) k=k (ak (x / y)) (ak (x%y)):=by
 have hy0:y ≠ 0:=by intro h; rw[h,bM]at hy2; simp at hy2
 have hyx:=eF hxy;have hylt:=mO y;have hxlt:=mO x;have hylo:4294967296 ^ ((ak y).length - 1)<=y:=by
  rcases aGw y (4294967296 ^ ((ak y).length - 1))with h | h
  ·have:=gd _ _ h; omega
  ·exact h
 unfold vq Nd;rw[nW x y ⟨by omega,by omega⟩ ⟨by omega,by omega⟩];have hc:decide (iP x y<0)=false:=by unfold iP; rw[if_neg (by omega)]; split <;> rfl
 obtain⟨n,hn⟩:∃ n,(ak y).length=n+2:=⟨(ak y).length - 2,by omega⟩
 obtain⟨lx,hlx⟩:∃ lx,(ak x).length=lx:=⟨_,rfl⟩
 have htd:(ak y).getD (n+1) 0=((y / 4294967296 ^ (n+1):Nat):Int):=by rw[sU,aFJ];rw[aFI (bB _),aFD,<- aFL];rw[hn]at hylt; exact hylt
 rw[hn]at hylt hylo;rw[hlx]at hxlt;rw[show n+2 - 1=n+1 by omega]at hylo;obtain⟨t,ht⟩:∃ t,t=y / 4294967296 ^ (n+1):=⟨_,rfl⟩
 rw[<- ht]at htd;have htl:t<4294967296:=by rw[ht,aFI (bB _),aFD,<- aFL]; exact hylt
 have ht0:t ≠ 0:=by have:=aHW hylo (bB (n+1)); omega
 obtain⟨g1,g2,g3⟩:=XH ht0 htl;have ein:Int.toNat (((n+2:Nat):Int) - 1)=n+1:=by omega
 have e1':(((n+2:Nat):Int)==1)=false:=by simp; omega
 rw[hc,aFA,hn,e1',aFA,ac aFw,ac aFx,ein,htd,adr N htl];obtain⟨s,hs⟩:∃ s,s=32 - bl t:=⟨_,rfl⟩
 rw[<- hs]at g1 g2 g3 ⊢;have hs0:0<2 ^ s:=aFN s;have ews:IntKind.wrap .u64 ((s:Nat):Int)=(s:Int):=by rw[ar]; omega
 rw[ews];obtain⟨V,hV⟩:∃ V,V=y*2 ^ s:=⟨_,rfl⟩
 obtain⟨X,hX⟩:∃ X,X=x*2 ^ s:=⟨_,rfl⟩
 have hVlt:V<4294967296 ^ (n+2):=by
  have h1:=aHX y (bB (n+1));rw[<- ht]at h1;have h2:y*2 ^ s<4294967296 ^ (n+1)*(t+1)*2 ^ s:=aGl h1 hs0;have h3:(t+1)*2 ^ s<=4294967296:=by
   have hd:2 ^ s*2 ^ (32 - s)=4294967296:=by rw[<- aFS,show s+(32 - s)=32 by omega]
   have h4:t<2 ^ (32 - s):=by rw[aFD]at g3;rw[<- hd]at g3;exact aHQ g3
   rw[<- hd,aFD];exact aFH _ h4
  have h5:=aFH (4294967296 ^ (n+1)) h3;rw[hV,show n+2=n+1+1 by omega,aFL];rw[aFK]at h2;omega
 have hVge:4294967296 ^ (n+1)<=V:=by rw[hV]; exact aF1 hylo (aGt _ hs0)
 have hVlen:(ak V).length=n+2:=aja hVge hVlt;have hV0:0<V:=aFT (bB _) hVge;have hx0:x ≠ 0:=by omega
 have hvt:V / 4294967296 ^ (n+1)=t*2 ^ s+y%4294967296 ^ (n+1)*2 ^ s / 4294967296 ^ (n+1):=by
  have h1:=aGv y (4294967296 ^ (n+1));rw[<- ht]at h1;have h2:V=y%4294967296 ^ (n+1)*2 ^ s+4294967296 ^ (n+1)*(t*2 ^ s):=by rw[hV,<- aFK,<- aF2]; congr 1; omega
  rw[h2,jh]; omega
 have hv1lo:2147483648<=V / 4294967296 ^ (n+1):=by rw[hvt]; exact aF1 g2 (aHR _ _)
 have hv1hi:V / 4294967296 ^ (n+1)<4294967296:=by rw[aFI (bB _),aFD,<- aFL]; exact hVlt
 rw[zy hy0 g1 (by omega) (by omega),hn,<- hV,hVlen,zy hx0 g1 (by omega) (by omega),hlx,<- hX];have hs2:2 ^ s<=4294967296:=by rw[<- Mm]; exact aFP (by decide) (by omega)
 have hXlt:X<4294967296 ^ (lx+1):=by rw[hX,aFL]; exact aGg hxlt hs2 (by decide)
 have hXlen2:lx<=(ak X).length:=by rw[<- hlx,hX]; exact eF (aGt _ hs0)
 rw[WJ (by omega) hlx hXlt hXlen2 (by omega)];unfold Ue;obtain⟨M,hM⟩:∃ M,lx+1=M+(n+2):=⟨lx+1 - (n+2),by omega⟩
 have eM:(((lx+1:Nat):Int) - ((n+2:Nat):Int))=(M:Int):=by omega
 have ein2:0+Int.toNat (((n+2:Nat):Int) - 1)=n+1:=by omega
 rw[eM,aFC,aGT,ein2,Ai V (by omega),aFJ hv1hi];obtain⟨v1,hv1⟩:∃ v1,v1=V / 4294967296 ^ (n+1):=⟨_,rfl⟩
 rw[<- hv1]at hv1lo hv1hi ⊢;have wv1:IntKind.wrap .u64 (v1:Int)=(v1:Int):=by rw[ar]; omega
 rw[wv1,ac aFw,ac (iy (by omega) (by omega) (by omega) (by omega)),ac aFw,ac aFx,ac (aFy (by rw[am]; omega)),ac aFw];have hstart:dl X (lx+1)=dl X M++(dl (X / 4294967296 ^ M%V) (n+2)++List.replicate 0 0):=by
  have hXM:X / 4294967296 ^ M<V:=by
   rw[aFI (bB M),hX,hV];have h1:x*2 ^ s<4294967296 ^ lx*2 ^ s:=aGl hxlt hs0;have h2:4294967296 ^ lx=4294967296 ^ (n+1)*4294967296 ^ M:=by rw[<- aFS]; congr 1; omega
   have h3:=aFF (4294967296 ^ M*2 ^ s) hylo;rw[h2,aFK]at h1;have e:y*2 ^ s*4294967296 ^ M=y*(4294967296 ^ M*2 ^ s):=by rw[aFK,aFD (2 ^ s)]
   rw[e]; omega
  rw[aFJ hXM,aF_,aF7,<- KL,<- hM]
 rw[hstart];have hQlt:X / V<4294967296 ^ M:=by
  rw[aFI hV0];have h1:x*2 ^ s<4294967296 ^ lx*2 ^ s:=aGl hxlt hs0;have h2:4294967296 ^ lx=4294967296 ^ M*4294967296 ^ (n+1):=by rw[<- aFS]; congr 1; omega
  have h3:=aFH (4294967296 ^ M) (aFF (2 ^ s) hylo);rw[hX,hV];rw[h2,aFK]at h1;omega
 have hmk:M<=1099511627001:=by omega
 refine aS (λi=>((M:Int) - 1 - (i:Int),dl X (M - i)++(dl (X / 4294967296 ^ (M - i)%V) (n+2)++List.replicate i 0),List.replicate (M - i) (0:Int)++(dl (X / V) M).drop (M - i))) M ?_ (by omega) (λi hi K=>?_) (λK=>?_)
 ·rw[aHA,aGi (by rw[am]; omega),aF7];congr 1;omega
 ·obtain⟨j,hj⟩:∃ j,M - i=j+1:=⟨M - i - 1,by omega⟩
  have hj2:M - (i+1)=j:=by omega
  have ei:(M:Int) - 1 - (i:Int)=(j:Int):=by omega
  have ei2:(M:Int) - 1 - ((i+1:Nat):Int)=(j:Int) - 1:=by omega
  rw[hj,hj2,ei,ei2];obtain⟨A,hA⟩:∃ A,A=X / 4294967296 ^ j:=⟨_,rfl⟩
  have hA1:X / 4294967296 ^ (j+1)=A / 4294967296:=by rw[hA,aFL,aFG]
  obtain⟨n1,n2⟩:=Jy (A:=A) hV0;obtain⟨R,hR⟩:∃ R,R=A / 4294967296%V:=⟨_,rfl⟩
  have hRV:R<V:=by rw[hR]; exact aFO _ hV0
  rw[hA1,<- hR];rw[<- hR]at n1 n2;obtain⟨b,hb⟩:∃ b,b=dl X (j+1)++(dl R (n+2)++List.replicate i 0):=⟨_,rfl⟩
  have hblen:b.length=lx+1:=by rw[hb]; simp[am]; omega
  have hbw:InW b:=by
   rw[hb];intro z hz;rcases List.mem_append.1 hz with h | h
   ·exact mY _ _ z h
   ·rcases List.mem_append.1 h with h | h
    ·exact mY _ _ z h
    ·have:=(List.mem_replicate.1 h).2; subst this; omega
  have hbt:b.take j=dl X j:=by rw[hb,aGy (by rw[am]; omega),vK X (by omega)]
  have hbd:b.drop j=((A%4294967296:Nat):Int)::(dl R (n+2)++List.replicate i 0):=by rw[hb,dl,aFR,aGx (by rw[am]; omega),aGi (by rw[am]; omega),aGk,hA];rfl
  have hwv:aL ((b.drop j).take (n+2+1))=R*4294967296+A%4294967296:=by rw[hbd,aIk,aGy (by rw[am]; omega),aFW (by rw[am]; omega),aL,xh,aFJ (aHj hRV hVlt),aFC];omega
  have hbd2:b.drop (j+(n+2+1))=List.replicate i 0:=by rw[<- List.drop_drop,hbd,List.drop_succ_cons,aGx (by rw[am]; omega),aGi (by rw[am]; omega),aGk]
  have hcv:aL ((dl V (n+2+1)).take (n+2))=V:=by rw[vK V (by omega),xh,aFJ hVlt]
  have hAm:A%4294967296<4294967296:=aFO _ (by decide);have hUlt:R*4294967296+A%4294967296<V*4294967296:=by have:=aFF 4294967296 hRV;rw[aG7]at this;omega
  have hnext:dl X j++(dl (A%V) (n+2+1)++List.replicate i 0)=dl X j++(dl (A%V) (n+2)++List.replicate (i+1) 0):=by rw[Oj (aHj (aFO A hV0) hVlt) 1,aFR,aGh];rfl
  have hdg:X / V / 4294967296 ^ j%4294967296=A / V%4294967296:=by rw[hA,aFG,aFG,aFD V]
  have hql:(List.replicate (j+1) (0:Int)++(dl (X / V) M).drop (j+1)).length=M:=by simp[am]; omega
  have hstep:=aoN (s:=(s:Int)) (j:=j) (b:=b) (ul:=lx+1) (ql:=List.replicate (j+1) (0:Int)++(dl (X / V) M).drop (j+1)) hN hVlt hVge hv1 hv1lo hv1hi hbw hblen (by omega) (by omega) (by omega) (by rw[hwv]; exact hUlt);rw[<- hb,hstep,hwv,n1,n2,hbt,hbd2,hnext,<- hdg,O9 _ _ _ (by omega),<- hA]
 ·simp only[nE];have e0:(M:Int) - 1 - (M:Int) = -1:=by omega
  rw[e0,aFz (by omega),aFA,aF9,aHq,aHn,aF_,aGk,aG1];obtain⟨L,hL⟩:∃ L,L=dl X 0++(dl (X%V) (n+2)++List.replicate M 0):=⟨_,rfl⟩
  have hRlt:X%V<4294967296 ^ (n+2):=aHj (aFO _ hV0) hVlt;have hLt:L.take (n+2)=dl (X%V) (n+2):=by rw[hL,show dl X 0=[] from rfl,aGk,aGy (by rw[am]; omega),aFW (by rw[am]; omega)]
  have hLw:InW L:=by
   rw[hL];intro z hz;rcases List.mem_append.1 hz with h | h
   ·cases h
   ·rcases List.mem_append.1 h with h | h
    ·exact mY _ _ z h
    ·have:=(List.mem_replicate.1 h).2; subst this; omega
  have hLlen:n+2<=L.length:=by rw[hL]; simp[am]
  have en:Int.toNat ((n+2:Nat):Int) - 0=n+2:=by omega
  rw[<- hL,p_ _ (by rw[am]; omega) (by rw[am]; omega),en,ac (aFy (by omega)),WZ L (n+2) hLlen (by omega) (by omega)];have hcl:=nU L (n+2);rw[L7 L hLw (d8 L (n+2)) s (by omega) g1 (by omega) (by omega),yK,hLt,xh,aFJ hRlt,am,Ic hQlt];have hQlen:=gd _ _ hQlt;rw[ac (aFy (by omega)),aG1,vK _ hQlen,ahA,hX,hV,aIa _ _ hs0,aIb,aHg _ hs0]
theorem Ar {N:Nat} (hN:1180591620717411303424<=N) {x y:Nat} (hy:0<y) (hxl:(ak x).length<=1099511627000) (hyl:(ak y).length<=1099511627000) (k:Ky8) :
  vq N (ak x) (ak y) k=k (ak (x / y)) (ak (x%y)):=by
 by_cases hxy:y<=x
 ·by_cases h2:2<=(ak y).length
  ·exact I5 hN hxy h2 hxl k
  ·have hylt:=mO y;have hl1:(ak y).length=1:=by rw[fL (by omega)]at h2 ⊢; simp at h2 ⊢; exact h2
   rw[hl1,aIv]at hylt;have hd:=Ah (by omega:y ≠ 0) hylt;have hc:decide (iP x y<0)=false:=by unfold iP; rw[if_neg (by omega)]; split <;> rfl
   unfold vq Nd;rw[nW x y ⟨by omega,by omega⟩ ⟨by omega,by omega⟩,hc,aFA,hd];show cond (((1:Nat):Int)==1) _ _=_;rw[show(((1:Nat):Int)==1)=true from rfl,aFB,ac (aq (by omega) (by simp))];show RX N (ak x) (y:Int) _=_;have hm:x%y<4294967296:=aHj (aFO _ hy) hylt;have hw:InW [((x%y:Nat):Int)]:=by intro z hz;simp only[aGW,aHw,or_false]at hz;subst hz; omega
   have hv:aL [((x%y:Nat):Int)]=x%y:=by simp only[aL]; omega
   have hct:=ix (N:=N) [((x%y:Nat):Int)] hw (by simp; omega) (by simp) (λz=>k (ak (x / y)) z);rw[hv]at hct;rw[Rg hy hylt ⟨by omega,by omega⟩];exact hct
 ·have hc:decide (iP x y<0)=true:=by unfold iP; rw[if_pos (by omega)]; rfl
  unfold vq Nd;rw[nW x y ⟨by omega,by omega⟩ ⟨by omega,by omega⟩,hc,aFB,aGk,ac (aFy (by omega)),aF4 (by omega),aFJ (by omega),bM]
theorem OQ {N V f:Nat} (hf:f<4294967296000) (hN:20<N) (hs:kp N (ak V)) (hf2:f<4294967296\/True) (hlt:V / 2 ^ f<18446744073709551616) (hr:∀ kk,Cm N (ak V) (f:Int) kk=kk (ak (V / 2 ^ f))) (k:Kz0):Jl N (ak V) (f:Int) k=k ((V / 2 ^ f:Nat):Int):=by
 unfold Jl TY;have wf:IntKind.wrap .u64 (f:Int)=(f:Int):=by rw[ar]; omega
 rw[wf,hr];obtain⟨Y,hY⟩:∃ Y,Y=V / 2 ^ f:=⟨_,rfl⟩
 rw[<- hY]at hlt ⊢;have hl2:(ak Y).length<=2:=gd 2 Y (by
  have:(4294967296:Nat) ^ 2=18446744073709551616:=by decide
  omega)
 have hYl:=mO Y;obtain⟨L,hL⟩:∃ L,(ak Y).length=L:=⟨_,rfl⟩
 rw[hL]at hl2 hYl ⊢;rw[ac aFw];refine aS (λi=>(((Y / 4294967296 ^ (L - i):Nat):Int),(L:Int) - 1 - (i:Int))) L ?_ (by omega) (λi hi K=>?_) (λK=>?_)
 ·rw[aHA,aF4 hYl]; simp
 ·obtain⟨m,hm⟩:∃ m,L - i=m+1:=⟨L - i - 1,by omega⟩
  have hm2:L - (i+1)=m:=by omega
  have ei:(L:Int) - 1 - (i:Int)=(m:Int):=by omega
  have ei2:(L:Int) - 1 - ((i+1:Nat):Int)=(m:Int) - 1:=by omega
  rw[hm,hm2,ei,ei2];have hp:Y / 4294967296 ^ (m+1)=Y / 4294967296 ^ m / 4294967296:=by rw[aFL,aFG]
  have hle:=aHa Y (4294967296 ^ m);simp only[qs,aFC];rw[aFy (by omega:(m:Int)>=0),aFB,hL,ac aFx,ac aFw,sU,hp];generalize Y / 4294967296 ^ m=Z at *;rw[ajg (by omega) (by omega)];congr 2;omega
 ·simp only[qs];have e0:(L:Int) - 1 - (L:Int) = -1:=by omega
  rw[e0,aFz (by omega),aFA,aF9,aHq,aHn]
def sgn (neg:Bool) (n:Nat):Int:=cond neg (-(n:Int)) (n:Int)
theorem gA (n:Nat):sgn true n = -(n:Int):=rfl
theorem h_ (n:Nat):sgn false n=(n:Int):=rfl
def Ks (x0 y0 a b c d:Nat) (odd:Bool):Prop:=
 ∃ p q,x0=d*p+b*q/\y0=c*p+a*q/\(cond odd (b*c=a*d+1) (a*d=b*c+1))/\(cond odd (d<=q/\q+a+c<=p) (c<=q/\q+b+d<=p))/\1<=b/\1<=c/\1<=d/\a<=1073741824/\b<=1073741824/\c<=1073741824/\d<=1073741824
theorem PJ {N:Nat} {x0 y0:Nat} (hx0:x0<4611686018427387904) (hy0:y0<4611686018427387904) :
  ∀ q p a b c d odd M,q<M->x0=d*p+b*q->y0=c*p+a*q->(cond odd (b*c=a*d+1) (a*d=b*c+1)) ->
   a<=1073741824->b<=1073741824->c<=1073741824->d<=1073741824->1<=d->p<=x0 ->
   ((odd=false/\a=1/\b=0/\c=0/\d=1/\q<=p)\/(1<=b/\1<=c/\(cond odd (d<=q/\q+a+c<p) (c<=q/\q+b+d<p)))) ->
   ∃ a' b' c' d':Nat,∃ odd',(b'=0/\odd'=false\/Ks x0 y0 a' b' c' d' odd') /\ ∀ e0,ah M (qe N e0) (sgn odd a,sgn (!odd) b,sgn (!odd) c,sgn odd d,(p:Int),(q:Int))=e0 (sgn odd' a') (sgn (!odd') b') (sgn (!odd') c') (sgn odd' d'):=by
 intro q;induction q using Nat.strongRecOn with
 | ind q ih=>
 intro p a b c d odd M hM h1 h2 hdet ha hb hc hd hd1 hp hor;obtain⟨M,rfl⟩:∃ m,M=m+1:=⟨M - 1,by omega⟩
 have hgood:b=0/\odd=false\/Ks x0 y0 a b c d odd:=by
  rcases hor with h | ⟨k1,k2,k3⟩
  ·exact .inl ⟨h.2.2.1,h.1⟩
  ·refine .inr ⟨p,q,h1,h2,hdet,?_,k1,k2,hd1,ha,hb,hc,hd⟩;cases odd
   ·simp only[aFA]at k3 ⊢; omega
   ·simp only[aFB]at k3 ⊢; omega
 have stop:∀(P:(Int->Int->Int->Int->Bool)->Bool),(∀ e0,P e0=e0 (sgn odd a) (sgn (!odd) b) (sgn (!odd) c) (sgn odd d)) -> ∃ a' b' c' d':Nat,∃ odd',(b'=0/\odd'=false\/Ks x0 y0 a' b' c' d' odd') /\ ∀ e0,P e0=e0 (sgn odd' a') (sgn (!odd') b') (sgn (!odd') c') (sgn odd' d'):=
  λP hP=>⟨a,b,c,d,odd,hgood,hP⟩
 have hpq:p*1<=d*p:=by rw[aFD d]; exact aFH _ hd1
 have hcp:c*p<=y0:=by omega
 have hdp:d*p<=x0:=by omega
 have hql:q<=p:=by
  rcases hor with h | ⟨k1,k2,k3⟩
  ·exact h.2.2.2.2.2
  ·cases odd
   ·simp only[aFA]at k3; omega
   ·simp only[aFB]at k3; omega
 obtain⟨u1,hu1⟩:∃ u1:Nat,(q:Int)+sgn (!odd) c=(u1:Int):=by
  rcases hor with h | ⟨k1,k2,k3⟩
  ·obtain⟨e1,e2,e3,e4,e5,e6⟩:=h;subst e1 e4; exact⟨q,by simp[sgn]⟩
  ·cases odd
   ·simp only[aFA]at k3;exact⟨q - c,by simp only[aGd,gA]; omega⟩
   ·exact⟨q+c,by simp only[aGn,h_]; omega⟩
 obtain⟨u2,hu2⟩:∃ u2:Nat,(q:Int)+sgn odd d=(u2:Int):=by
  rcases hor with h | ⟨k1,k2,k3⟩
  ·obtain⟨e1,e2,e3,e4,e5,e6⟩:=h;subst e1; exact⟨q+d,by simp only[h_]; omega⟩
  ·cases odd
   ·exact⟨q+d,by simp only[h_]; omega⟩
   ·simp only[aFB]at k3;exact⟨q - d,by simp only[gA]; omega⟩
 obtain⟨t1,ht1⟩:∃ t1:Nat,(p:Int)+sgn odd a=(t1:Int):=by
  rcases hor with h | ⟨k1,k2,k3⟩
  ·obtain⟨e1,e2,e3,e4,e5,e6⟩:=h;subst e1; exact⟨p+a,by simp only[h_]; omega⟩
  ·cases odd
   ·exact⟨p+a,by simp only[h_]; omega⟩
   ·simp only[aFB]at k3;exact⟨p - a,by simp only[gA]; omega⟩
 obtain⟨t2,ht2⟩:∃ t2:Nat,(p:Int)+sgn (!odd) b=(t2:Int):=by
  rcases hor with h | ⟨k1,k2,k3⟩
  ·obtain⟨e1,e2,e3,e4,e5,e6⟩:=h;subst e1 e3; exact⟨p,by simp[sgn]⟩
  ·cases odd
   ·simp only[aFA]at k3;exact⟨p - b,by simp only[aGd,gA]; omega⟩
   ·exact⟨p+b,by simp only[aGn,h_]; omega⟩
 have t1b:t1<=p+a:=by cases odd <;> simp only[gA,h_]at ht1 <;> omega
 have t2b:t2<=p+b:=by cases odd <;> simp only[aGn,aGd,gA,h_]at ht2 <;> omega
 have u1b:u1<=q+c:=by cases odd <;> simp only[aGn,aGd,gA,h_]at hu1 <;> omega
 have u2b:u2<=q+d:=by cases odd <;> simp only[gA,h_]at hu2 <;> omega
 by_cases c1:u1=0
 ·refine stop _ λe0=>?_
  show qe N e0 _ (ah M _)=_;simp only[qe,hu1];have:(((u1:Nat):Int) != 0)=false:=by simp; omega
  rw[ac aFw,this,show(false==true)=false from rfl,aFA]
 have n1:(((u1:Nat):Int) != 0)=true:=by simp; omega
 have m1:(!decide ((u1:Int)=0))=true:=by simp; omega
 by_cases c2:u2=0
 ·refine stop _ λe0=>?_
  show qe N e0 _ (ah M _)=_;simp only[qe,hu1,hu2];have:(((u2:Nat):Int) != 0)=false:=by simp; omega
  rw[ac aFw,n1,show(true==true)=true from rfl,aFB,ac aFw,this,aFA]
 have n2:(((u2:Nat):Int) != 0)=true:=by simp; omega
 have m2:(!decide ((u2:Int)=0))=true:=by simp; omega
 obtain⟨k1,hk1⟩:∃ k1,k1=t1 / u1:=⟨_,rfl⟩
 obtain⟨k2,hk2⟩:∃ k2,k2=t2 / u2:=⟨_,rfl⟩
 have k1b:k1<=t1:=by rw[hk1]; exact aHa _ _
 have k2b:k2<=t2:=by rw[hk2]; exact aHa _ _
 have d1:Int.tdiv (t1:Int) (u1:Int)=(k1:Int):=by rw[hk1]; rfl
 have d2:Int.tdiv (t2:Int) (u2:Int)=(k2:Int):=by rw[hk2]; rfl
 by_cases c3:k1=k2
 ·obtain⟨n,hn⟩:∃ n,n=k1:=⟨_,rfl⟩
  have hn2:n=k2:=by omega
  obtain⟨r1,hr1⟩:∃ r1,r1=t1%u1:=⟨_,rfl⟩
  obtain⟨r2,hr2⟩:∃ r2,r2=t2%u2:=⟨_,rfl⟩
  have E1:t1=n*u1+r1:=by rw[hn,hk1,hr1]; exact(aGs t1 u1).symm
  have E2:t2=n*u2+r2:=by rw[hn2,hk2,hr2]; exact(aGs t2 u2).symm
  have hr1l:r1<u1:=by rw[hr1]; exact aFO _ (by omega)
  have hr2l:r2<u2:=by rw[hr2]; exact aFO _ (by omega)
  have bnc:n*c<=4611686018427387904+1152921504606846976:=by
   have s1:n*c<=(p+a)*c:=aFF _ (by omega);have s2:(p+a)*c=c*p+a*c:=by rw[aF2,aFD p]
   have s3:a*c<=1073741824*1073741824:=aGu ha hc;omega
  have bnd:n*d<=4611686018427387904+1152921504606846976:=by
   have s1:n*d<=(p+b)*d:=aFF _ (by omega);have s2:(p+b)*d=d*p+b*d:=by rw[aF2,aFD p]
   have s3:b*d<=1073741824*1073741824:=aGu hb hd;omega
  have icn:(n:Int)*sgn (!odd) c=sgn (!odd) (n*c):=by cases odd <;> simp only[aGn,aGd,gA,h_,aFV,aIr]
  have idn:(n:Int)*sgn odd d=sgn odd (n*d):=by cases odd <;> simp only[gA,h_,aFV,aIr]
  have e2:sgn odd a - sgn (!odd) (n*c)=sgn odd (a+n*c):=by cases odd <;> simp only[aGn,aGd,gA,h_] <;> omega
  have f2:sgn (!odd) b - sgn odd (n*d)=sgn (!odd) (b+n*d):=by cases odd <;> simp only[aGn,aGd,gA,h_] <;> omega
  have hnq:n*q<=p/\(cond odd (p - n*q+b+n*d=r2/\p - n*q=r1+a+n*c) (p - n*q+a+n*c=r1/\p - n*q=r2+b+n*d)):=by
   cases odd with
   | false=>
    simp only[aGd,gA,h_]at hu1 hu2 ht1 ht2;simp only[aFA];have w2:u2=q+d:=by omega
    have w3:t2+b=p:=by omega
    have w1:u1+c=q:=by omega
    have w4:t1=p+a:=by omega
    have z1:n*u2=n*q+n*d:=by rw[w2,aFQ]
    have z2:n*q=n*u1+n*c:=by rw[<- w1,aFQ]
    omega
   | true=>
    simp only[aGn,gA,h_]at hu1 hu2 ht1 ht2;simp only[aFB];have w2:u2+d=q:=by omega
    have w3:t2=p+b:=by omega
    have w1:u1=q+c:=by omega
    have w4:t1+a=p:=by omega
    have z1:n*q=n*u2+n*d:=by rw[<- w2,aFQ]
    have z2:n*u1=n*q+n*c:=by rw[w1,aFQ]
    omega
  obtain⟨hnq,hnext⟩:=hnq;have inq:(n:Int)*(q:Int)=((n*q:Nat):Int):=(aFV _ _).symm;have ipq:(p:Int) - ((n*q:Nat):Int)=((p - n*q:Nat):Int):=by omega
  have fbd1 : -9223372036854775808<=sgn (!odd) (n*c)/\sgn (!odd) (n*c)<=9223372036854775807:=by cases odd <;> simp only[aGn,aGd,gA,h_] <;> omega
  have fbd2 : -9223372036854775808<=sgn odd (a+n*c)/\sgn odd (a+n*c)<=9223372036854775807:=by cases odd <;> simp only[gA,h_] <;> omega
  have fbd3 : -9223372036854775808<=sgn odd (n*d)/\sgn odd (n*d)<=9223372036854775807:=by cases odd <;> simp only[gA,h_] <;> omega
  have fbd4 : -9223372036854775808<=sgn (!odd) (b+n*d)/\sgn (!odd) (b+n*d)<=9223372036854775807:=by cases odd <;> simp only[aGn,aGd,gA,h_] <;> omega
  have ne3:(((k1:Nat):Int) != ((k2:Nat):Int))=false:=by simp[c3]
  have body:∀ e0,ah (M+1) (qe N e0) (sgn odd a,sgn (!odd) b,sgn (!odd) c,sgn odd d,(p:Int),(q:Int)) =
    cond ((decide (sgn odd (a+n*c)>1073741824))==false) (cond ((decide (sgn odd (a+n*c)<(-1073741824)))==false) (cond ((decide (sgn (!odd) (b+n*d)>1073741824))==false) (cond (decide (sgn (!odd) (b+n*d)<(-1073741824))) (e0 (sgn odd a) (sgn (!odd) b) (sgn (!odd) c) (sgn odd d)) (ah M (qe N e0) (sgn (!odd) c,sgn odd d,sgn odd (a+n*c),sgn (!odd) (b+n*d),(q:Int),((p - n*q:Nat):Int)))) (e0 (sgn odd a) (sgn (!odd) b) (sgn (!odd) c) (sgn odd d))) (e0 (sgn odd a) (sgn (!odd) b) (sgn (!odd) c) (sgn odd d))) (e0 (sgn odd a) (sgn (!odd) b) (sgn (!odd) c) (sgn odd d)):=by
   intro e0;show qe N e0 _ (ah M _)=_;simp only[qe,hu1,hu2,ht1,ht2,d1,d2,ne3,aFA];rw[<- hn];simp only[icn,idn,e2,f2,inq,ipq];rw[ac aFw,n1,show(true==true)=true from rfl,aFB,ac aFw,n2,aFB,ac aFw,ac aFw,ac m1,ac aFw,ac aFw,ac aFw,ac m2,ac aFw,ac (af fbd1.1 fbd1.2),ac (af fbd2.1 fbd2.2),ac (af fbd3.1 fbd3.2),ac (af fbd4.1 fbd4.2),ac aFw,ac aFw]
  by_cases c4:a+n*c<=1073741824
  ·by_cases c5:b+n*d<=1073741824
   ·have q1:decide (sgn odd (a+n*c)>1073741824)=false:=aFz (by cases odd <;> simp only[gA,h_] <;> omega);have q2:decide (sgn odd (a+n*c)<(-1073741824))=false:=aFz (by cases odd <;> simp only[gA,h_] <;> omega);have q3:decide (sgn (!odd) (b+n*d)>1073741824)=false:=aFz (by cases odd <;> simp only[aGn,aGd,gA,h_] <;> omega);have q4:decide (sgn (!odd) (b+n*d)<(-1073741824))=false:=aFz (by cases odd <;> simp only[aGn,aGd,gA,h_] <;> omega);have hn1:1<=n:=by
     rw[hn,hk1];refine aHW ?_ (by omega);rcases hor with h | ⟨g1,g2,g3⟩
     ·obtain⟨z1,z2,z3,z4,z5,z6⟩:=h;subst z1 z2 z4;simp only[aGd,gA,h_]at hu1 ht1;omega
     ·cases odd
      ·simp only[aFA]at g3;simp only[aGd,gA,h_]at hu1 ht1;omega
      ·simp only[aFB]at g3;simp only[aGn,gA,h_]at hu1 ht1;omega
    have hq0:1<=q\/q=0:=by omega
    have hlt:p - n*q<q:=by
     have s1:1*d<=n*d:=aFF _ hn1;have s2:1*c<=n*c:=aFF _ hn1;cases odd with
     | false=>
      simp only[aFA]at hnext;simp only[aGd,gA]at hu1;omega
     | true=>
      simp only[aFB]at hnext;simp only[gA]at hu2;omega
    obtain⟨a',b',c',d',odd',g1,g2⟩:=ih (p - n*q) hlt q c d (a+n*c) (b+n*d) (!odd) M (by omega)
     (by
      have s1:(b+n*d)*q=b*q+d*(n*q):=by grind
      have s2:d*(p - n*q)+d*(n*q)=d*p:=by rw[<- aFQ]; congr 1; omega
      omega)
     (by
      have s1:(a+n*c)*q=a*q+c*(n*q):=by grind
      have s2:c*(p - n*q)+c*(n*q)=c*p:=by rw[<- aFQ]; congr 1; omega
      omega)
     (by
      have s1:d*(a+n*c)=a*d+n*(c*d):=by grind
      have s2:c*(b+n*d)=b*c+n*(c*d):=by grind
      cases odd with
      | false=>simp only[aGd,aFB,aFA]at hdet ⊢; omega
      | true=>simp only[aGn,aFB,aFA]at hdet ⊢; omega)
     hc hd c4 c5 (by have s1:1*d<=n*d:=aFF _ hn1;omega) (by omega)
     (.inr ⟨hd1,(by
      rcases hor with h | ⟨z1,z2,z3⟩
      ·omega
      ·have s2:1*c<=n*c:=aFF _ hn1;omega),by
      cases odd with
      | false=>
       simp only[aFA]at hnext;simp only[aGd,gA,h_,aFB]at hu1 hu2 ⊢;omega
      | true=>
       simp only[aFB]at hnext;simp only[aGn,gA,h_,aFA]at hu1 hu2 ⊢;omega⟩)
    refine⟨a',b',c',d',odd',g1,λe0=>?_⟩;have:=g2 e0;rw[Bool.not_not]at this;rw[body,q1,q2,q3,q4];exact this
   ·refine stop _ λe0=>?_
    rw[body];cases odd with
    | false=>
     have q1:decide (sgn false (a+n*c)>1073741824)=false:=aFz (by simp only[h_]; omega);have q2:decide (sgn false (a+n*c)<(-1073741824))=false:=aFz (by simp only[h_]; omega);have q3:decide (sgn (!false) (b+n*d)>1073741824)=false:=aFz (by simp only[aGd,gA]; omega);have q4:decide (sgn (!false) (b+n*d)<(-1073741824))=true:=aFy (by simp only[aGd,gA]; omega);rw[q1,q2,q3,q4];rfl
    | true=>
     have q1:decide (sgn true (a+n*c)>1073741824)=false:=aFz (by simp only[gA]; omega);have q2:decide (sgn true (a+n*c)<(-1073741824))=false:=aFz (by simp only[gA]; omega);have q3:decide (sgn (!true) (b+n*d)>1073741824)=true:=aFy (by simp only[aGn,h_]; omega);rw[q1,q2,q3];rfl
  ·refine stop _ λe0=>?_
   rw[body];cases odd with
   | false=>
    have q1:decide (sgn false (a+n*c)>1073741824)=true:=aFy (by simp only[h_]; omega);rw[q1];rfl
   | true=>
    have q1:decide (sgn true (a+n*c)>1073741824)=false:=aFz (by simp only[gA]; omega);have q2:decide (sgn true (a+n*c)<(-1073741824))=true:=aFy (by simp only[gA]; omega);rw[q1,q2];rfl
 ·refine stop _ λe0=>?_
  show qe N e0 _ (ah M _)=_;simp only[qe,hu1,hu2,ht1,ht2,d1,d2];have:(((k1:Nat):Int) != ((k2:Nat):Int))=true:=by simp; omega
  rw[ac aFw,n1,show(true==true)=true from rfl,aFB,ac aFw,n2,aFB,ac aFw,ac aFw,ac m1,ac aFw,ac aFw,ac aFw,ac m2,ac aFw,this,aFB]
theorem Rh {N:Nat} (hN:1180591620717411303424<=N) {x0 y0:Nat} (hx0:x0<4611686018427387904) (hyx:y0<=x0):∃ a b c d:Nat,∃ odd,(b=0/\odd=false\/Ks x0 y0 a b c d odd) /\ ∀ k,Jk N (x0:Int) (y0:Int) k=k (sgn odd a) (sgn (!odd) b) (sgn (!odd) c) (sgn odd d):=by obtain⟨a,b,c,d,odd,h1,h2⟩:=PJ (N:=N) (x0:=x0) (y0:=y0) hx0 (by omega) y0 x0 1 0 0 1 false N (by omega) (by omega) (by omega) rfl (by omega) (by omega) (by omega) (by omega) (by omega) (by omega) (.inl ⟨rfl,rfl,rfl,rfl,rfl,hyx⟩);refine⟨a,b,c,d,odd,h1,λk=>?_⟩;unfold Jk TV;rw[ac aFw,ac aFw];exact h2 _
theorem aiY {a b c d X Y:Nat} (hdet:b*c=a*d+1) (g1:a*X<=b*Y) (g2:d*Y<=c*X):X=d*(b*Y - a*X)+b*(c*X - d*Y)/\Y=c*(b*Y - a*X)+a*(c*X - d*Y):=by
 obtain⟨U,hU⟩:=aHe g1;obtain⟨V,hV⟩:=aHe g2;rw[<- hU,<- hV,aGa,aGa];constructor
 ·have t1:d*(b*Y)=d*(a*X)+d*U:=by rw[<- hU,aFQ]
  have t2:b*(c*X)=b*(d*Y)+b*V:=by rw[<- hV,aFQ]
  have t3:b*(c*X)=(a*d+1)*X:=by rw[<- hdet,aFK]
  have t4:(a*d+1)*X=d*(a*X)+X:=by grind
  have t5:d*(b*Y)=b*(d*Y):=by grind
  omega
 ·have t1:c*(b*Y)=c*(a*X)+c*U:=by rw[<- hU,aFQ]
  have t2:a*(c*X)=a*(d*Y)+a*V:=by rw[<- hV,aFQ]
  have t3:c*(b*Y)=(a*d+1)*Y:=by rw[<- hdet]; grind
  have t4:(a*d+1)*Y=a*(d*Y)+Y:=by grind
  have t5:c*(a*X)=a*(c*X):=by grind
  omega
theorem Qb {x0 y0 a b c d F rx ry X Y:Nat} (h:Ks x0 y0 a b c d true) (hrx:rx<F) (hry:ry<F) (hX:X=x0*F+rx) (hY:Y=y0*F+ry) :
  a*X<=b*Y/\d*Y<=c*X/\c*X - d*Y<=b*Y - a*X/\X=d*(b*Y - a*X)+b*(c*X - d*Y)/\Y=c*(b*Y - a*X)+a*(c*X - d*Y):=by
 obtain⟨p,q,h1,h2,hdet,hin,hb1,hc1,hd1,hal,hbl,hcl,hdl⟩:=h;simp only[aFB]at hdet hin;obtain⟨hdq,hpq⟩:=hin;have e1:b*Y+a*rx=a*X+(p*F+b*ry):=by
  subst h1 h2 hX hY;have:b*(c*p*F)=(a*d+1)*(p*F):=by rw[<- hdet]; grind
  grind
 have e2:c*X+d*ry=d*Y+(q*F+c*rx):=by
  subst h1 h2 hX hY;have:b*c*(q*F)=(a*d+1)*(q*F):=by rw[<- hdet]
  grind
 have m1:a*rx<=a*F:=aFH _ (by omega);have m3:d*ry<=d*F:=aFH _ (by omega);have m4:d*F<=q*F:=aFF _ hdq;have m5:(q+a+c)*F<=p*F:=aFF _ hpq;rw[aF2,aF2]at m5;have m6:c*rx<=c*F:=aFH _ (by omega);have g1:a*X<=b*Y:=by omega
 have g2:d*Y<=c*X:=by omega
 obtain⟨i1,i2⟩:=aiY hdet g1 g2;exact⟨g1,g2,by omega,i1,i2⟩
theorem Nw {x0 y0 a b c d F rx ry X Y:Nat} (h:Ks x0 y0 a b c d false) (hrx:rx<F) (hry:ry<F) (hX:X=x0*F+rx) (hY:Y=y0*F+ry) :
  b*Y<=a*X/\c*X<=d*Y/\d*Y - c*X<=a*X - b*Y/\X=d*(a*X - b*Y)+b*(d*Y - c*X)/\Y=c*(a*X - b*Y)+a*(d*Y - c*X):=by
 obtain⟨p,q,h1,h2,hdet,hin,hb1,hc1,hd1,hal,hbl,hcl,hdl⟩:=h;simp only[aFA]at hdet hin;obtain⟨hdq,hpq⟩:=hin;have e1:a*X+b*ry=b*Y+(p*F+a*rx):=by
  subst h1 h2 hX hY;have:a*d*(p*F)=(b*c+1)*(p*F):=by rw[<- hdet]
  grind
 have e2:d*Y+c*rx=c*X+(q*F+d*ry):=by
  subst h1 h2 hX hY;have:a*d*(q*F)=(b*c+1)*(q*F):=by rw[<- hdet]
  grind
 have m1:b*ry<=b*F:=aFH _ (by omega);have m3:c*rx<=c*F:=aFH _ (by omega);have m4:c*F<=q*F:=aFF _ hdq;have m5:(q+b+d)*F<=p*F:=aFF _ hpq;rw[aF2,aF2]at m5;have m6:d*ry<=d*F:=aFH _ (by omega);have g1:b*Y<=a*X:=by omega
 have g2:c*X<=d*Y:=by omega
 refine⟨g1,g2,by omega,?_,?_⟩
 ·obtain⟨U,hU⟩:=aHe g1;obtain⟨V,hV⟩:=aHe g2;rw[<- hU,<- hV,aGa,aGa];have t1:d*(a*X)=d*(b*Y)+d*U:=by rw[<- hU,aFQ]
  have t2:b*(d*Y)=b*(c*X)+b*V:=by rw[<- hV,aFQ]
  have t3:d*(a*X)=(b*c+1)*X:=by rw[<- hdet]; grind
  have t4:(b*c+1)*X=b*(c*X)+X:=by grind
  have t5:d*(b*Y)=b*(d*Y):=by grind
  omega
 ·obtain⟨U,hU⟩:=aHe g1;obtain⟨V,hV⟩:=aHe g2;rw[<- hU,<- hV,aGa,aGa];have t1:c*(a*X)=c*(b*Y)+c*U:=by rw[<- hU,aFQ]
  have t2:a*(d*Y)=a*(c*X)+a*V:=by rw[<- hV,aFQ]
  have t3:a*(d*Y)=(b*c+1)*Y:=by rw[<- hdet]; grind
  have t4:(b*c+1)*Y=c*(b*Y)+Y:=by grind
  have t5:c*(a*X)=a*(c*X):=by grind
  omega
theorem I6 {N X Y u v:Nat} (hN:1180591620717411303424<=N) (sX:(ak X).length<=1099511627000) (sY:(ak Y).length<=1099511627000) (hu:u<=1073741824) (hv:v<=1073741824) (hle:v*Y<=u*X) (k:Kz4) :
  Vi N (ak X) (u:Int) (ak Y) (v:Int) k=k (ak (u*X - v*Y)):=by
 unfold Vi ZH;have lu:=gd 1 u (by rw[aIv]; omega);have lv:=gd 1 v (by rw[aIv]; omega);have lX:=gd ((ak X).length+1) (X*u) (by rw[aFL]; exact aGA (mO X) (by omega))
 rw[At u (by omega) (by omega),EN _ _ (bV _) (bV _) (by omega) (by omega),At v (by omega) (by omega),EN _ _ (bV _) (bV _) (by omega) (by omega),aZ,aZ,aZ,aZ,
  EL _ _ (bV _) (bV _) (by rw[aZ,aZ,aFD X,aFD Y]; exact hle) ⟨by omega,by omega⟩,aZ,aZ,aFD X,aFD Y]
theorem FC {N X Y u v:Nat} (hN:1180591620717411303424<=N) (sX:(ak X).length<=1099511627000) (sY:(ak Y).length<=1099511627000) (hu:u<=1073741824) (hv:v<=1073741824) (hle:v*Y<=u*X) (k:Kz4) :
  DH N (ak X) (u:Int) (ak Y) (-(v:Int)) k=k (ak (u*X - v*Y)):=by
 unfold DH T1;have w1:IntKind.wrap .u64 (u:Int)=(u:Int):=by rw[ar]; omega
 have w2:IntKind.wrap .u64 (0 - -(v:Int))=(v:Int):=by rw[ar]; omega
 rw[aFy (by omega : -(v:Int)<=0),aFB,ac aFw,w1,w2,I6 hN sX sY hu hv hle]
theorem FB {N X Y u v:Nat} (hN:1180591620717411303424<=N) (sX:(ak X).length<=1099511627000) (sY:(ak Y).length<=1099511627000) (hu:u<=1073741824) (hv:v<=1073741824) (hv1:1<=v) (hle:u*X<=v*Y) (k:Kz4) :
  DH N (ak X) (-(u:Int)) (ak Y) (v:Int) k=k (ak (v*Y - u*X)):=by
 unfold DH T1;have w1:IntKind.wrap .u64 (v:Int)=(v:Int):=by rw[ar]; omega
 have w2:IntKind.wrap .u64 (0 - -(u:Int))=(u:Int):=by rw[ar]; omega
 rw[aFz (by omega:¬(v:Int)<=0),aFA,ac aFw,w1,w2,I6 hN sY sX hv hu hle]
theorem NU {N:Nat} (hN:1180591620717411303424<=N) {S1 S2 S3 S4 S6} (e0:List Int->Bool):∀(b a M:Nat),b<M->(ak a).length<=1099511627000->(ak b).length<=1099511627000->ah M (E6 N S1 S2 S3 S4 (vq N) S6 e0) (ak a,ak b)=e0 (ak (Nat.gcd a b)):=by
 intro b;induction b using Nat.strongRecOn with
 | ind b ih=>
 intro a M hM ha hb;obtain⟨M,rfl⟩:∃ m,M=m+1:=⟨M - 1,by omega⟩
 show E6 N S1 S2 S3 S4 _ S6 e0 (ak a,ak b) (ah M _)=_;simp only[E6];by_cases h:b=0
 ·subst h;have:(((ak 0).length:Nat):Int)=0:=by rw[bM]; rfl
  rw[this,aFz (by omega),aFA,aH3]
 ·have hp:0<(ak b).length:=by rw[fL h]; simp
  have hm:=aFO a (by omega:b>0);have hml:=eF (Nat.le_of_lt hm);rw[aFy (by omega),aFB,Ar hN (by omega) ha hb,ih (a%b) hm b M (by omega) hb (by omega),aGK b,<- aIw,aGK]
theorem xc {N V f:Nat} (hf:f<140737488355328) (hs:(ak V).length+3<N/\(ak V).length<=1099511627000) (k:Kz4):Cm N (ak V) (f:Int) k=k (ak (V / 2 ^ f)):=by
 have hm:=bV V;have hmv:=aZ V;unfold Cm ahp;obtain⟨hN1,hN2⟩:=hs;have ew:IntKind.wrap .u64 (Int.tdiv (f:Int) 32)=((f / 32:Nat):Int):=by rw[ar,aGz (by omega)]; omega
 have es:Int.tmod (f:Int) 32=((f%32:Nat):Int):=by rw[aGo (by omega)]; rfl
 rw[ew,es,ac aFw];have hp2:2 ^ f=4294967296 ^ (f / 32)*2 ^ (f%32):=DB f;obtain⟨w,hw⟩:∃ w,w=f / 32:=⟨_,rfl⟩
 obtain⟨s,hsh⟩:∃ s,s=f%32:=⟨_,rfl⟩
 rw[<- hw,<- hsh]at hp2 ⊢;have hs32:s<32:=by omega
 have hs0:0<2 ^ s:=aFN s;obtain⟨m,hme⟩:∃ m,m=ak V:=⟨_,rfl⟩
 rw[<- hme]at hm hmv hN1 hN2 ⊢;by_cases h0:m.length<=w
 ·rw[aFy (by omega:((w:Nat):Int)>=m.length),aFB];have h1:=jX hm;rw[hmv]at h1;have h2:4294967296 ^ m.length<=4294967296 ^ w:=aFP (by decide) h0;have h3:V / 2 ^ f=0:=by rw[hp2];refine aF4 ?_;have:4294967296 ^ w*1<=4294967296 ^ w*2 ^ s:=aFH _ hs0;omega
  rw[h3,bM]
 ·rw[aFz (by omega:¬((w:Nat):Int)>=m.length),aFA];obtain⟨Z,hZ⟩:∃ Z,Z=V / 2 ^ f:=⟨_,rfl⟩
  have elen:Int.toNat ((m.length:Int) - ((w:Nat):Int))=m.length - w:=by omega
  rw[elen,ac aFw,ac (iy (by omega) (by omega) (by omega) (by omega)),<- hZ];obtain⟨L,hL⟩:∃ L,L=m.length - w:=⟨_,rfl⟩
  rw[<- hL];refine aS (λi=>((i:Int),dl Z i++List.replicate (L - i) 0)) L (by simp[dl]) (by omega) (λi hi K=>?_) (λK=>?_)
  ·have hx:=hm.at (i:=w+i);have hy:=hm.at (i:=w+i+1);have hset:=Ir Z i L (by omega);have hl:(dl Z i++List.replicate (L - i) 0).length=L:=by simp[am]; omega
   have ei:Int.toNat ((w:Int)+(i:Int))=w+i:=by omega
   have ei1:Int.toNat ((w:Int)+(i:Int)+1)=w+i+1:=by omega
   have emin:min s 64=s:=by omega
   obtain⟨R,hR⟩:=KJ hm (w+i);rw[hmv]at hR;have hdig:Z / 4294967296 ^ i%4294967296=((m.getD (w+i) 0).toNat+4294967296*(m.getD (w+i+1) 0).toNat) / 2 ^ s%4294967296:=by
    rw[hZ,hp2,aFG];have e1:4294967296 ^ w*2 ^ s*4294967296 ^ i=4294967296 ^ (w+i)*2 ^ s:=by rw[aFS,aFK,aFD (2 ^ s),<- aFK]
    rw[e1,<- aFG,hR];have e2:4294967296*4294967296*R=2 ^ s*(4294967296*(2 ^ (32 - s)*R)):=by
     have hs1:2 ^ s*2 ^ (32 - s)=4294967296:=by rw[<- aFS,show s+(32 - s)=32 by omega]
     rw[aF0 (2 ^ s),<- aFK (2 ^ s),hs1,aFK]
    rw[e2,aGr _ _ hs0,aGL]
   have hfin:∀ z:Int,z=(((m.getD (w+i) 0).toNat+4294967296*(m.getD (w+i+1) 0).toNat:Nat):Int)->IntKind.wrap .u32 (Int.fdiv z (2 ^ s))=((Z / 4294967296 ^ i%4294967296:Nat):Int):=by
    intro z hz;have e:(2:Int) ^ s=((2 ^ s:Nat):Int):=by simp
    rw[hdig,hz,e,aG3 _ (by omega),il];rfl
   simp only[MP,aFC,ei,ei1,emin,hl];rw[aFy (by omega:(i:Int)<L),aFB,ac aFw,ac aFx,ac aFw,ac aFw];by_cases hlast:w+i+1<m.length
   ·rw[aFy (by omega:(w:Int)+(i:Int)+1<m.length),aFB,ac aFw,ac aFw,ac aFx,ac (aFy (by omega)),ac aFx,ac (aFy (by omega)),ac aFw];have e1:IntKind.wrap .u64 (m.getD (w+i) 0)=(((m.getD (w+i) 0).toNat:Nat):Int):=by rw[ar]; omega
    have e2:IntKind.wrap .u64 (IntKind.wrap .u64 (m.getD (w+i+1) 0)*2 ^ 32)=((2 ^ 32*(m.getD (w+i+1) 0).toNat:Nat):Int):=by
     have:(2:Int) ^ 32=4294967296:=by decide
     have:(2:Nat) ^ 32=4294967296:=by decide
     rw[ar,ar]; omega
    have p32:(2:Nat) ^ 32=4294967296:=by decide
    rw[e1,e2,gb _ _ 32 (by omega) (by omega),hfin _ (by omega),hset,oS]
   ·rw[aFz (by omega:¬(w:Int)+(i:Int)+1<m.length),aFA,ac (aFy (by omega)),ac aFx,ac (aFy (by omega)),ac aFw];have hz:m.getD (w+i+1) 0=0:=ji (by omega);have e1:IntKind.wrap .u64 (m.getD (w+i) 0)=(((m.getD (w+i) 0).toNat:Nat):Int):=by rw[ar]; omega
    rw[e1,hfin _ (by rw[hz]; simp),hset,oS]
  ·simp only[MP];have hl:(dl Z L++List.replicate (L - L) 0).length=L:=by simp[am]
   rw[aFz (by omega:¬((L:Nat):Int)<(((dl Z L++List.replicate (L - L) (0:Int)).length:Nat):Int)),aFA,aF9,aF_,aF7];have hVl:Z<4294967296 ^ L:=by have h1:=jX hm;rw[hmv]at h1;rw[hZ,aFI (aFN f),hp2,<- aFK,<- aFS,show L+w=m.length by omega];have:4294967296 ^ m.length*1<=4294967296 ^ m.length*2 ^ s:=aFH _ hs0;omega
   rw[ix _ (mY Z _) (by rw[am]; omega) (by rw[am]; omega),wP hVl]
theorem Fm {N:Nat} (hN:1180591620717411303424<=N) {u v:List Int} (k:Kz4) :
  ∀ s x y,x+y=s->s<N->y<=x->(ak x).length<=134217728000 ->
   Nj N (wh N) (AQ N) (Jl N) (Jk N) (vq N) (DH N) u v (ak x) (ak y) k=k (ak (Nat.gcd x y)):=by
 intro s x y hs hsN hyx hxl;unfold Nj;have main:∀ s x y M,x+y=s->s<M->M<=N->y<=x->(ak x).length<=134217728000 ->
   ah M (JE N (wh N) (AQ N) (Jl N) (Jk N) (vq N) (DH N) (λ(a_3:List Int) (b_3:List Int)=>(ah N (E6 N (wh N) (AQ N) (Jl N) (Jk N) (vq N) (DH N) (λ(a_5:List Int)=>((decide ((List.length ([]++a_5))*4<=140737488355328))&&(k ([]++a_5))))) (a_3,b_3)))) (ak x,ak y)=k (ak (Nat.gcd x y)):=by
  intro s;induction s using Nat.strongRecOn with
  | ind s ih=>
  intro x y M hs hsM hMN hyx hxl;obtain⟨M,rfl⟩:∃ m,M=m+1:=⟨M - 1,by omega⟩
  have hyl:=eF hyx;show JE N _ _ _ _ _ _ _ (ak x,ak y) (ah M _)=_;simp only[JE];by_cases h2:3<=(ak y).length
  ·have hyge:18446744073709551616<=y:=by
    rcases aGw y 18446744073709551616 with h | h
    ·have:=gd 2 y (by
      have:(4294967296:Nat) ^ 2=18446744073709551616:=by decide
      omega)
     omega
    ·exact h
   have hblx:64<bl x:=by
    rcases aGw 64 (bl x)with h | h
    ·exact h
    ·have h1:=Fi x;have h3:2 ^ bl x<=2 ^ 64:=aFP (by decide) h;rw[tU]at h3;omega
   have hblu:bl x<=32*(ak x).length:=by refine C2 ?_;rw[aIq,Mm]; exact mO x
   obtain⟨f,hf⟩:∃ f,bl x=f+62:=⟨bl x - 62,by omega⟩
   have ef:(bl x:Int) - 62=(f:Int):=by omega
   have hF0:0<2 ^ f:=aFN f;have p62:(2:Nat) ^ 62=4611686018427387904:=by decide
   have hx0l:x / 2 ^ f<4611686018427387904:=by rw[aFI hF0,<- p62,<- aFS,aHp,<- hf]; exact Fi x
   have hy0l:y / 2 ^ f<=x / 2 ^ f:=aHN hyx;rw[aFy (by omega),aFB,IV false x ⟨by omega,by omega⟩,ef,ac aFw,
    OQ (by omega) (by omega) ⟨by omega,by omega⟩ (.inr aHT) (by omega) (λkk=>xc (by omega) ⟨by omega,by omega⟩ kk),
    OQ (by omega) (by omega) ⟨by omega,by omega⟩ (.inr aHT) (by omega) (λkk=>xc (by omega) ⟨by omega,by omega⟩ kk)]
   obtain⟨a,b,c,d,odd,g1,g2⟩:=Rh hN hx0l hy0l;rw[g2];rcases g1 with⟨hb0,ho⟩ | hgood
   ·subst hb0 ho;have e0:(sgn (!false) 0==0)=true:=rfl;have hm:=aFO x (by omega:y>0);rw[e0,aFB,Ar hN (by omega) (by omega) (by omega),ih (y+x%y) (by omega) y (x%y) M rfl (by omega) (by omega) (by omega) (by omega),aGK y,<- aIw,aGK]
   ·obtain⟨p,q,z1,z2,z3,z4,hb1,hc1,hd1,hal,hbl,hcl,hdl⟩:=id hgood;have fin:∀ U V:Nat,x=d*U+b*V->y=c*U+a*V->V<=U->U+V<x+y/\U<=x:=by
     intro U V hx hy hvu;have k1:1*U<=d*U:=aFF _ hd1;have k2:1*V<=b*V:=aFF _ hb1;have k3:1*U<=c*U:=aFF _ hc1;have hU0:0<U:=by
      rcases aGR U with hu | hu
      ·exfalso;have hv:V=0:=by omega
       rw[hu,hv,aGU,aGU]at hy;omega
      ·exact hu
     exact⟨by omega,by omega⟩
    cases odd with
    | true=>
     obtain⟨f1,f2,f3,f4,f5⟩:=Qb hgood (aFO x hF0) (aFO y hF0) (aGs x (2 ^ f)).symm (aGs y (2 ^ f)).symm;obtain⟨w1,w2⟩:=fin _ _ f4 f5 f3;have hgc:=Da f4 f5 (aHY (aFX (aGH _ _) _) (aFX (aGm _ _) _)) (aHY (aFX (aGm _ _) _) (aFX (aGH _ _) _));have hUl:=eF w2;have e0:(sgn (!true) b==0)=false:=by simp only[aGn,h_]; simp; omega
     have s1:sgn true a = -(a:Int):=rfl;have s2:sgn (!true) b=(b:Int):=rfl;have s3:sgn (!true) c=(c:Int):=rfl;have s4:sgn true d = -(d:Int):=rfl;rw[e0,aFA,s1,s2,s3,s4,FB hN (by omega) (by omega) hal hbl hb1 f1,FC hN (by omega) (by omega) hcl hdl f2,ih _ (by omega) _ _ M rfl (by omega) (by omega) f3 (by omega),hgc]
    | false=>
     obtain⟨f1,f2,f3,f4,f5⟩:=Nw hgood (aFO x hF0) (aFO y hF0) (aGs x (2 ^ f)).symm (aGs y (2 ^ f)).symm;obtain⟨w1,w2⟩:=fin _ _ f4 f5 f3;have hgc:=Da f4 f5 (aHY (aFX (aGm _ _) _) (aFX (aGH _ _) _)) (aHY (aFX (aGH _ _) _) (aFX (aGm _ _) _));have hUl:=eF w2;have e0:(sgn (!false) b==0)=false:=by simp only[aGd,gA]; simp; omega
     have s1:sgn false a=(a:Int):=rfl;have s2:sgn (!false) b = -(b:Int):=rfl;have s3:sgn (!false) c = -(c:Int):=rfl;have s4:sgn false d=(d:Int):=rfl;rw[e0,aFA,s1,s2,s3,s4,FC hN (by omega) (by omega) hal hbl f1,FB hN (by omega) (by omega) hcl hdl hd1 f2,ih _ (by omega) _ _ M rfl (by omega) (by omega) f3 (by omega),hgc]
  ·rw[aFz (by omega),aFA,NU hN _ y x N (by omega) (by omega) (by omega),aGk];have hgl:(ak (Nat.gcd x y)).length<=134217728000:=by
    by_cases h0:x=0
    ·have hy0:y=0:=by omega
     rw[h0,hy0,aH3,bM]; simp
    ·have:=eF (Nat.gcd_le_left y (aH4 h0));omega
   rw[ac (aFy (by omega))]
 exact main s x y N hs hsN (aFM _) hyx hxl
theorem Q_ {N:Nat} (hN:1180591620717411303424<=N) {x y:Nat} (hf:x+y<N) (hxl:(ak x).length<=134217728000) (hyl:(ak y).length<=134217728000) (k:Kz4):Gk N (ak x) (ak y) k=k (ak (Nat.gcd x y)):=by
 unfold Gk Wn;rw[nW x y ⟨by omega,by omega⟩ ⟨by omega,by omega⟩];by_cases h:x<y
 ·have hc:decide (iP x y<0)=true:=by unfold iP; rw[if_pos h]; rfl
  rw[hc,aFB,Fm hN _ (y+x) y x rfl (by omega) (by omega) hyl,aGK]
 ·have hc:decide (iP x y<0)=false:=by unfold iP; rw[if_neg h]; split <;> rfl
  rw[hc,aFA,Fm hN _ (x+y) x y rfl hf (by omega) hxl]
theorem FZ {a b:Nat} (ha:a<4294967296) (hb:b<4294967296):aH .and .u32 (a:Int) (b:Int)=((a &&& b:Nat):Int):=by
 unfold aH xz;simp only[aGj];have h32:(2:Nat) ^ 32=4294967296:=by decide
 have e:((BitVec.ofInt (IntKind.bits .u32) (a:Int)) &&& (BitVec.ofInt (IntKind.bits .u32) (b:Int))).toNat=a &&& b:=by show((BitVec.ofInt 32 (a:Int)) &&& (BitVec.ofInt 32 (b:Int))).toNat=_;rw[aId,aGD,aGD,aGJ,aGJ,aFJ (by omega),aFJ (by omega)]
 have hl:a &&& b<4294967296:=aG_ Nat.and_le_left ha;rw[e,PT _ hl]
theorem Wr {t c:Nat} (h:2 ^ t*(2*c+1)<2 ^ 32):(2 ^ t*(2*c+1)) &&& (2 ^ 32 - 2 ^ t*(2*c+1))=2 ^ t:=by
 have ht0:0<2 ^ t:=aFN t;have ht:t<32:=by
  rcases aGw t 32 with h1 | h1
  ·exact h1
  ·have h2:2 ^ 32<=2 ^ t:=aFP (by decide) h1;have h3:2 ^ t*1<=2 ^ t*(2*c+1):=aFH _ (by omega);omega
 have e1:2 ^ t*(2*c+1)=(2 ^ t*(2*c)+(2 ^ t - 1))+1:=by rw[aFQ]; omega
 refine aHL λj=>?_
 rw[aIs];have e2:(2 ^ 32 - 2 ^ t*(2*c+1)).testBit j=(decide (j<32) && !(2 ^ t*(2*c)+(2 ^ t - 1)).testBit j):=by
  conv=>lhs; rw[e1]
  exact aIh (by rw[e1]at h; omega) j
 rw[e2,Nat.testBit_two_pow_mul,aIt _ (by omega),aHm];rcases aHK j t with hj | hj | hj
 ·rw[aFz (by omega:¬ j>=t),aFz (by omega:¬ t=j)]; rfl
 ·subst hj;rw[if_neg (by omega),aF9,aFy (aFM _),aFy ht,aFy rfl];have a1:(2*c+1).testBit 0=true:=by rw[aIe]; simp
  have a2:(2*c).testBit 0=false:=by rw[aIe]; simp
  rw[a1,a2]; rfl
 ·obtain⟨k,hk⟩:∃ k,j - t=k+1:=⟨j - t - 1,by omega⟩
  rw[if_neg (by omega),hk,aFy (by omega:j>=t),aFz (by omega:¬ t=j),aIf,aIf];have a1:(2*c+1) / 2=c:=by omega
  have a2:2*c / 2=c:=by omega
  rw[a1,a2];cases c.testBit k <;> simp
theorem agH:∀ t:Fin 32,(inR (Int.fdiv (IntKind.wrap .u32 (((2 ^ t.val:Nat):Int)*125613361)) (2 ^ 27)) 32=true)/\(List.getD FU (Int.toNat (Int.fdiv (IntKind.wrap .u32 (((2 ^ t.val:Nat):Int)*125613361)) (2 ^ 27))) 0=(t.val:Int)):=by decide +kernel
theorem adw (N:Nat) {t c:Nat} (h:2 ^ t*(2*c+1)<4294967296) (k:Kz0):ajs N ((2 ^ t*(2*c+1):Nat):Int) k=k (t:Int):=by
 have h32:(2:Nat) ^ 32=4294967296:=by decide
 have ht0:0<2 ^ t:=aFN t;have hx0:0<2 ^ t*(2*c+1):=aHv ht0 (by omega);have ht:t<32:=by
  rcases aGw t 32 with h1 | h1
  ·exact h1
  ·have h2:2 ^ 32<=2 ^ t:=aFP (by decide) h1;have h3:2 ^ t*1<=2 ^ t*(2*c+1):=aFH _ (by omega);omega
 unfold ajs ZW;have ha:=Wr (t:=t) (c:=c) (by omega);rw[h32]at ha;generalize 2 ^ t*(2*c+1)=x at *;have e0:((x:Int)==0)=false:=by simp; omega
 have ew:IntKind.wrap .u32 (0 - (x:Int))=((4294967296 - x:Nat):Int):=by rw[il]; omega
 obtain⟨t1,t2⟩:=agH ⟨t,ht⟩;rw[e0,aFA,ew,FZ h (by omega),ha,ac t1,t2,ac aFw]
theorem aa5 {t c:Nat}:2 ^ t*(2*c+1) / 4294967296 ^ (t / 32)%4294967296=2 ^ (t%32)*(2*(c%2 ^ (31 - t%32))+1):=by
 have hs1:2 ^ (t%32)*2 ^ (32 - t%32)=4294967296:=by rw[<- aFS,show t%32+(32 - t%32)=32 by omega]
 rw[DB t,aFK,aF8 _ (bB _),<- hs1,aHi];congr 1;have e1:2 ^ (32 - t%32)=2*2 ^ (31 - t%32):=by rw[show 32 - t%32=(31 - t%32)+1 by omega,aFL,aFD]
 rw[e1];have e2:=aHG c (2 ^ (31 - t%32));generalize 2 ^ (31 - t%32)=P at *;generalize c / P=q at *;have hP:c%P<P\/P=0:=by
  rcases aGR P with h | h
  ·exact .inr h
  ·exact .inl (aFO _ h)
 generalize c%P=r at *;have e3:2*c+1=(2*r+1)+2*P*q:=by rw[<- e2]; grind
 rw[e3,aGL];rcases hP with h | h
 ·exact aFJ (by omega)
 ·subst h; simp
theorem QG {t c i:Nat} (hi:i<t / 32):2 ^ t*(2*c+1) / 4294967296 ^ i%4294967296=0:=by
 have e:2 ^ t*(2*c+1)=4294967296 ^ (i+1)*(4294967296 ^ (t / 32 - (i+1))*(2 ^ (t%32)*(2*c+1))):=by rw[DB t,<- aFK,<- aFS,show i+1+(t / 32 - (i+1))=t / 32 by omega,aFK]
 rw[e,aFL,aFK,aF8 _ (bB i),aIE]
theorem I1 {N:Nat} {t c:Nat} (g:Bool) (hN:kp N (ak (2 ^ t*(2*c+1)))) (ht:t<140737488355328) (k:Kz0):DF N g (ak (2 ^ t*(2*c+1))) k=k (t:Int):=by
 unfold DF aha;obtain⟨n1,n2⟩:=hN;have hd:=aa5 (t:=t) (c:=c);have hgd:=λi=>sU i (2 ^ t*(2*c+1))
 have hlt:2 ^ t*(2*c+1) / 4294967296 ^ (t / 32)%4294967296<4294967296:=aFO _ (by decide);have hwl:t / 32<(ak (2 ^ t*(2*c+1))).length:=by
  refine UH λh=>?_
  rw[h,Nat.zero_mod]at hd;have:=aHv (aFN (t%32)) (show 0<2*(c%2 ^ (31 - t%32))+1 by omega);omega
 have hbel:=λi=>QG (t:=t) (c:=c) (i:=i)
 generalize ak (2 ^ t*(2*c+1))=l at *;refine aS (λi=>(i:Int)) (t / 32) rfl (by omega) (λi hi K=>?_) (λK=>?_)
 ·simp only[ME,aFC];have hz:(l.getD i 0 != 0)=false:=by rw[hgd,hbel i hi]; rfl
  rw[aFy (by omega:(i:Int)<((l.length:Nat):Int)),aFB,ac aFx,hz,aFA,ac aFw];rfl
 ·simp only[ME,aFC];have hp:=aHv (aFN (t%32)) (show 0<2*(c%2 ^ (31 - t%32))+1 by omega);have hz:(l.getD (t / 32) 0 != 0)=true:=by rw[hgd,hd]; simp only[bne_iff_ne,ne_eq]; omega
  rw[aFy (by omega:((t / 32:Nat):Int)<((l.length:Nat):Int)),aFB,ac aFx,hz,aFB,ac aFw,ac aFx,hgd,hd,adw N (by rw[<- hd]; exact hlt),ac aFw];congr 1;rw[ar]; omega
def krR (z:Int) (d:Nat) (k:Kx5):Bool:=k (decide (z<0)) (ak z.natAbs) false (ak d)
def kqR (x:Rat) (k:Kx5):Bool:=krR x.num x.den k
theorem adq (g:Bool) (n d:Nat) (k:Kx5):k (sg g n) (ak n) false (ak d)=krR (bF g n) d k:=Ax g n (λa b=>k a b false (ak d))
theorem xF {B n:Nat} (hB:B<=2000000000100) (h:bv B n):(ak n).length<=62500000006:=by have:=H8 h; omega
theorem xm {N B n:Nat} (hF:Fuel N) (hB:B<=2000000000100) (h:bv B n):kp N (ak n):=by have h1:=xF hB h;have:=hF.lt;exact⟨by omega,by omega⟩
theorem Ru (g:Bool) (n d:Nat) (h0:0<d):(mkRat (bF g n) d).num=bF g (n / Nat.gcd n d)/\(mkRat (bF g n) d).den=d / Nat.gcd n d:=by
 have e:(bF g n).natAbs=n:=by unfold bF; cases g <;> simp
 have hg:0<Nat.gcd n d:=aGC _ h0;constructor
 ·rw[aIJ,if_neg (by omega),e,aGK];have hh:((Nat.gcd n d:Nat):Int) ≠ 0:=by omega
  have e2:bF g n=((Nat.gcd n d:Nat):Int)*bF g (n / Nat.gcd n d):=by
   have hnn:n=Nat.gcd n d*(n / Nat.gcd n d):=(Nat.mul_div_cancel' (aGm n d)).symm;have hc:(n:Int)=((Nat.gcd n d:Nat):Int)*((n / Nat.gcd n d:Nat):Int):=by rw[<- aFV,<- hnn]
   unfold bF;cases g
   ·simpa using hc
   ·simp only[aG8]; rw[hc,aIr]
  rw[e2,aHu _ hh]
 ·rw[aIK,if_neg (by omega),e,aGK]
theorem Q3 (g:Bool) (n m:Nat):bF g (n*m)=bF g n*(m:Int):=by
 unfold bF; cases g
 ·simp
 ·simp[aII]
theorem aoQ {t c u e:Nat} (h:2 ^ (u - min t u)*(2*e+1)<2 ^ (u - min t u+1)):Nat.gcd (2 ^ (t - min t u)*(2*c+1)) (2 ^ (u - min t u)*(2*e+1))=1:=by
 have he:e=0:=by
  rcases aGR e with h1 | h1
  ·exact h1
  ·have:2 ^ (u - min t u)*2<=2 ^ (u - min t u)*(2*e+1):=aFH _ (by omega);rw[aFL]at h; omega
 subst he;rw[aGU,aF3,aHl];rcases Nat.le_total t u with h1 | h1
 ·rw[aGY h1,aF9,aHq,aHz];refine Nat.Coprime.pow_right _ ?_;show Nat.gcd (2*c+1) 2=1;rw[aGK,aIw];have:(2*c+1)%2=1:=by omega
  rw[this]; rfl
 ·rw[Nat.min_eq_right h1,aF9,aHq,Nat.gcd_one_right]
theorem PL {t m c:Nat} (h:m<=t):2 ^ t*(2*c+1) / 2 ^ m=2 ^ (t - m)*(2*c+1):=by
 have:2 ^ t=2 ^ m*2 ^ (t - m):=by rw[<- aFS]; congr 1; omega
 rw[this,aFK,aF8 _ (aFN m)]
theorem V1 {B t c:Nat} (h:bv B (2 ^ t*(2*c+1))):t<B:=by
 unfold bv at h;have h1:2 ^ t*1<=2 ^ t*(2*c+1):=aFH _ (by omega);have h2:2 ^ t<2 ^ B:=by omega
 exact(Nat.pow_lt_pow_iff_right (by decide)).1 h2
theorem amX {t c:Nat}:bl (2 ^ t*(2*c+1))=t+1↔2 ^ t*(2*c+1)<2 ^ (t+1):=by
 have hp:=aFN t;have h0:2 ^ t*(2*c+1) ≠ 0:=by have:=aHv hp (show 0<2*c+1 by omega); omega
 constructor
 ·intro h; have:=Fi (2 ^ t*(2*c+1)); rwa [h]at this
 ·intro h;have h1:=C2 h;have h2:=Fi (2 ^ t*(2*c+1));have h3:2 ^ t*1<=2 ^ t*(2*c+1):=aFH _ (by omega);have h4:2 ^ t<2 ^ bl (2 ^ t*(2*c+1)):=by omega
  have:=(Nat.pow_lt_pow_iff_right (by decide:1<2)).1 h4;omega
theorem kW {N B n:Nat} (hF:Fuel N) (hB:B<=2000000000100) (h:bv B n) (k:Kz4):FP N (ak n) k=k (ak n):=by have h1:=xF hB h;have:=hF.lt;rw[UD _ (bV n) (by omega) (by omega),aZ]
theorem K5 {N B:Nat} (hF:Fuel N) (hB:B<=2000000000100) (g:Bool) {n d:Nat} (hn:bv B n) (hd:bv B d) (hn0:n ≠ 0) (hd0:d ≠ 0) (J:List Int->List Int->Bool) (k:Kx5)
  (hJ:∀ a b:Nat,bv B a->bv B b->J (ak a) (ak b)=k (sg g a) (ak a) false (ak b)) :
  (DF N false (ak n) (λ(nr:Int)=>(DF N false (ak d) (λ(ask:Int)=>
   (Cm N (ak n) (cond (decide (ask<nr)) ask nr) (λ(asp:List Int)=>(Cm N (ak d) (cond (decide (ask<nr)) ask nr) (λ(aso:List Int)=>(DF N false aso (λ(asl:Int)=>((aj .i64 asl)&&(AQ N false aso (λ(atd:Int)=>((aj .i64 (atd - 1))&&(cond (asl != (atd - 1)) (Gk N asp aso (λ(s6:List Int)=>(qX N (λ(s7:List Int)=>(wh N s6 s7 (λ(at9:Int)=>(cond (at9 != 0) (vq N asp s6 (λ(s8:List Int) (s9:List Int)=>(vq N aso s6 (λ(s10:List Int) (s11:List Int)=>(J s8 s10))))) (J asp aso)))))))) (J asp aso))))))))))))))))
   = kqR (mkRat (bF g n) d) k:=by
 have hl:=hF.lt;have hbig:=hF.big;obtain⟨t,c,hnt⟩:=Jd n hn0;obtain⟨u,e,hdu⟩:=Jd d hd0;have htB:t<B:=V1 (by rw[<- hnt]; exact hn);have huB:u<B:=V1 (by rw[<- hdu]; exact hd);have sn:=xm hF hB hn;have sd:=xm hF hB hd;have ln:=xF hB hn;have ld:=xF hB hd;have z1:=λkk=>I1 (N:=N) (t:=t) (c:=c) false (by rw[<- hnt]; exact sn) (by omega) kk
 have z2:=λkk=>I1 (N:=N) (t:=u) (c:=e) false (by rw[<- hdu]; exact sd) (by omega) kk
 rw[<- hnt]at z1;rw[<- hdu]at z2;rw[z1,z2];obtain⟨m,hm⟩:∃ m,m=min t u:=⟨_,rfl⟩
 have em:cond (decide ((u:Int)<(t:Int))) (u:Int) (t:Int)=(m:Int):=by
  by_cases h:u<t
  ·rw[aFy (by omega),aFB,hm,Nat.min_eq_right (by omega)]
  ·rw[aFz (by omega),aFA,hm,aGY (by omega)]
 rw[em,xc (by omega) ⟨by omega,by omega⟩,xc (by omega) ⟨by omega,by omega⟩];have ha:n / 2 ^ m=2 ^ (t - m)*(2*c+1):=by rw[hnt]; exact PL (by rw[hm]; exact Nat.min_le_left _ _)
 have hb:d / 2 ^ m=2 ^ (u - m)*(2*e+1):=by rw[hdu]; exact PL (by rw[hm]; exact aIN _ _)
 have hbn:bv B (n / 2 ^ m):=eE hn;have hbd:bv B (d / 2 ^ m):=eE hd;have hmk:mkRat (bF g n) d=mkRat (bF g (n / 2 ^ m)) (d / 2 ^ m):=by
  have e1:n=n / 2 ^ m*2 ^ m:=by
   rw[ha,hnt,aIz,<- aFS];congr 2; have:m<=t:=by rw[hm]; exact Nat.min_le_left _ _
   omega
  have e2:d=d / 2 ^ m*2 ^ m:=by
   rw[hb,hdu,aIz,<- aFS];congr 2; have:m<=u:=by rw[hm]; exact aIN _ _
   omega
  conv=>lhs; rw[e1,e2,Q3]
  rw[Rat.mkRat_mul_right (by have:=aFN m; omega)]
 rw[hmk];obtain⟨a,hae⟩:∃ a,a=n / 2 ^ m:=⟨_,rfl⟩
 obtain⟨b,hbe⟩:∃ b,b=d / 2 ^ m:=⟨_,rfl⟩
 rw[<- hae]at ha hbn ⊢;rw[<- hbe]at hb hbd ⊢;have hb0:0<b:=by rw[hb]; exact aHv (aFN _) (by omega)
 have z3:=λkk=>I1 (N:=N) (t:=u - m) (c:=e) false (by rw[<- hb]; exact xm hF hB hbd) (by omega) kk
 rw[<- hb]at z3;have hblb:bl b<=B:=C2 hbd;have hbl0:0<bl b:=(aap (by omega)).1;rw[z3,ac aFw,IV false b (xm hF hB hbd),ac aFw];obtain⟨i1,i2⟩:=Ru g a b hb0;unfold kqR;rw[i1,i2];have fin1:Nat.gcd a b=1->J (ak a) (ak b)=krR (bF g (a / Nat.gcd a b)) (b / Nat.gcd a b) k:=by intro h;rw[hJ a b hbn hbd,adq _ _ _ k,h,aHn,aHn]
 by_cases hp:bl b=u - m+1
 ·have:(((u - m:Nat):Int) != (bl b:Int) - 1)=false:=by simp; omega
  rw[this,aFA];refine fin1 ?_;rw[ha,hb,hm];refine aoQ ?_;rw[<- hm];rw[hb]at hp;exact amX.1 hp
 ·have:(((u - m:Nat):Int) != (bl b:Int) - 1)=true:=by simp; omega
  have la:=xF hB hbn;have lb:=xF hB hbd;have hgp:0<Nat.gcd a b:=aGC _ hb0;have hgb:bv B (Nat.gcd a b):=qm hbd (aHx _ hb0);have lg:=xF hB hgb;have e1:ak 1=[1]:=Ah (by decide) (by decide);rw[this,aFB,Q_ hbig (hF.sum (by omega) hbn hbd) (by omega) (by omega)];unfold qX Na;dsimp only;rw[<- e1,nW _ 1 ⟨by omega,by omega⟩ ⟨by rw[e1]; simp; omega,by rw[e1]; simp⟩];by_cases hc:Nat.gcd a b=1
  ·have:(iP (Nat.gcd a b) 1 != 0)=false:=by rw[hc]; rfl
   rw[this,aFA];exact fin1 hc
  ·have:(iP (Nat.gcd a b) 1 != 0)=true:=by unfold iP; rw[if_neg (by omega),if_neg hc]; rfl
   rw[this,aFB,Ar hbig hgp (by omega) (by omega),Ar hbig hgp (by omega) (by omega),hJ _ _ (eE hbn) (eE hbd),adq _ _ _ k]
theorem NV {α:Type} (c:Bool) (f:α->Bool) (a b:α):cond c (f a) (f b)=f (cond c a b):=by cases c <;> rfl
theorem Aq {N B:Nat} (hF:Fuel N) (hB:B<=2000000000100) (g:Bool) {n d:Nat} (hn:bv B n) (hd:bv B d) (hd0:d ≠ 0) (b1 b2:Bool) (k:Kx5) :
  RN N g (ak n) (ak d) b1 b2 k=kqR (mkRat (bF g n) d) k:=by
 have hl:=hF.lt;have hJ:∀ a b:Nat,bv B a->bv B b -> ∀ x y,GF N (FM N) (qX N) (ES N) (DF N) (Cm N) (AQ N) (Gk N) (wh N) (vq N) g x y b1 b2 (ak a) (ak b) k=k (sg g a) (ak a) false (ak b):=by
  intro a b ha hb x y;unfold GF FM TS;rw[kW hF hB ha];unfold ES Wl;dsimp only;rw[kW hF hB hb,kW hF hB hb];cases g
  ·rfl
  ·simp only[se,sg,aGB]; rfl
 unfold RN Wk;by_cases h0:n=0
 ·subst h0;rw[bM];show FM N false [] b1 b2 _=_;have e0:bF g 0=0:=by unfold bF; cases g <;> rfl
  unfold FM TS;rw[<- bM,kW hF (B:=10) (by decide) (by unfold bv; decide)];unfold qX Na ES Wl;have e1:ak 1=[1]:=Ah (by decide) (by decide);dsimp only;rw[<- e1,kW hF (B:=10) (by decide) (by unfold bv; decide),kW hF (B:=10) (by decide) (by unfold bv; decide),e0,Rat.zero_mkRat];rfl
 ·have e0:((((ak n).length:Nat):Int)==0)=false:=by rw[fL h0]; simp; omega
  rw[e0,aFA];have:=K5 hF hB g hn hd h0 hd0 (λx y=>GF N (FM N) (qX N) (ES N) (DF N) (Cm N) (AQ N) (Gk N) (wh N) (vq N) g (ak n) (ak d) b1 b2 x y k) k (λa b ha hb=>hJ a b ha hb _ _);rw[<- this];congr 1; funext nr; congr 1; funext ask;exact NV (decide (ask<nr)) (λz=>Ub N (FM N) (qX N) (ES N) (DF N) (Cm N) (AQ N) (Gk N) (wh N) (vq N) g (ak n) (ak d) b1 b2 z k) ask nr
theorem Rb {N B:Nat} (hF:Fuel N) (hB:B<=2000000000100) (g:Bool) {n d:Nat} (hn:bv B n) (hd:bv B d) (hd0:d ≠ 0) (b1 b2:Bool) (l1 l2:List Int) (k:Kx5) :
  UY N g (ak n) (ak d) b1 l1 b2 l2 k=kqR (mkRat (bF g n) d) k:=by
 have hl:=hF.lt;have hJ:∀ a b:Nat,bv B a->bv B b -> ∀ x y,GG N (FL N) (qX N) (ES N) (DF N) (Cm N) (AQ N) (Gk N) (wh N) (vq N) g x y b1 l1 b2 l2 (ak a) (ak b) k=k (sg g a) (ak a) false (ak b):=by
  intro a b ha hb x y;unfold GG FL TN;rw[kW hF hB ha];unfold ES Wl;dsimp only;rw[kW hF hB hb,kW hF hB hb];cases g
  ·rfl
  ·simp only[se,sg,aGB]; rfl
 unfold UY Kl;by_cases h0:n=0
 ·subst h0;rw[bM];show FL N false [] b1 l1 b2 l2 _=_;have e0:bF g 0=0:=by unfold bF; cases g <;> rfl
  unfold FL TN;rw[<- bM,kW hF (B:=10) (by decide) (by unfold bv; decide)];unfold qX Na ES Wl;have e1:ak 1=[1]:=Ah (by decide) (by decide);dsimp only;rw[<- e1,kW hF (B:=10) (by decide) (by unfold bv; decide),kW hF (B:=10) (by decide) (by unfold bv; decide),e0,Rat.zero_mkRat];rfl
 ·have e0:((((ak n).length:Nat):Int)==0)=false:=by rw[fL h0]; simp; omega
  rw[e0,aFA];have:=K5 hF hB g hn hd h0 hd0 (λx y=>GG N (FL N) (qX N) (ES N) (DF N) (Cm N) (AQ N) (Gk N) (wh N) (vq N) g (ak n) (ak d) b1 l1 b2 l2 x y k) k (λa b ha hb=>hJ a b ha hb _ _);rw[<- this];congr 1; funext nr; congr 1; funext ask;exact NV (decide (ask<nr)) (λz=>Uc N (FL N) (qX N) (ES N) (DF N) (Cm N) (AQ N) (Gk N) (wh N) (vq N) g (ak n) (ak d) b1 l1 b2 l2 z k) ask nr
theorem Q8 {N:Nat} (a:Bool) (l:List Int) (b:Bool) {d:Nat} (hd:d ≠ 0) (k:Kz4):U9 N a l b (ak d) k=k (ak d):=by
 unfold U9 Zn;have:((((ak d).length:Nat):Int)==0)=false:=by rw[fL hd]; simp; omega
 rw[this]; rfl
theorem ku {N:Nat} (a:Bool) (l:List Int) (b:Bool) {d:Nat} (hd:d ≠ 0) (k:Kz4):RK N a l b (ak d) k=k (ak d):=by
 unfold RK amp;have:((((ak d).length:Nat):Int)==0)=false:=by rw[fL hd]; simp; omega
 rw[this]; rfl
theorem tP {N B:Nat} (hF:Fuel N) (hB:B<=2000000000100) {a b:Nat} (ha:bv B a) (hb:bv B b) (k:Kz4):DD N (ak a) (ak b) k=k (ak (a*b)):=by have h1:=xF hB ha;have h2:=xF hB hb;have:=hF.lt;rw[EN _ _ (bV _) (bV _) (by omega) (by omega),aZ,aZ]
theorem adA {N B:Nat} (hF:Fuel N) (hB:B<=1000000000000) {x y:Rat} (hx:Bq B x) (hy:Bq B y) (b1 b2:Bool) (k:Kx5) :
  ajq N b1 b2 (decide (x.num<0)) (ak x.num.natAbs) false (ak x.den) (decide (y.num<0)) (ak y.num.natAbs) false (ak y.den) k=kqR (x*y) k:=by
 unfold ajq amv;have hB2:B<=2000000000100:=by omega
 rw[tP hF hB2 hx.1 hy.1,ku _ _ _ x.den_nz,ku _ _ _ y.den_nz,tP hF hB2 hx.2 hy.2,
  Aq hF (B:=B+B) (by omega) _ (iO hx.1 hy.1) (iO hx.2 hy.2) (aIR x.den_nz y.den_nz),i0o,mD,mD,<- Rat.mul_def']
theorem adE {N B:Nat} (hF:Fuel N) (hB:B<=1000000000000) {x y:Rat} (hx:Bq B x) (hy:Bq B y) (h0:y.num ≠ 0) (b1 b2:Bool) (k:Kx5) :
  RI N b1 b2 (decide (x.num<0)) (ak x.num.natAbs) false (ak x.den) (decide (y.num<0)) (ak y.num.natAbs) false (ak y.den) k=kqR (x / y) k:=by
 unfold RI aml;have hB2:B<=2000000000100:=by omega
 obtain⟨i1,i2,i3⟩:=IL h0;rw[ku _ _ _ y.den_nz,tP hF hB2 hx.1 hy.2,ku _ _ _ x.den_nz,tP hF hB2 hx.2 hy.1,
  Aq hF (B:=B+B) (by omega) _ (iO hx.1 hy.2) (iO hx.2 hy.1) (aIR x.den_nz (by omega)),i0o,mD,Rat.div_def,Rat.mul_def',i2]
 have:bF (decide (y.num<0)) y.den=(y⁻¹).num:=by rw[<- i3,<- i1,mD]
 rw[this]
theorem adH {N B:Nat} (hF:Fuel N) (hB:B<=1000000000000) {x y:Rat} (hx:Bq B x) (hy:Bq B y) (k:Kx5) :
  ajt N (decide (x.num<0)) (ak x.num.natAbs) false (ak x.den) (decide (y.num<0)) (ak y.num.natAbs) false (ak y.den) k=kqR (x - y) k:=by
 unfold ajt amy ad1 Y8;have hB2:B<=2000000000100:=by omega
 have ha:=iO hx.1 hy.2;have hb:=iO hy.1 hx.2;have hB3:B+B+1<=2000000000100:=by omega
 rw[ku _ _ _ y.den_nz,tP hF hB2 hx.1 hy.2,ku _ _ _ x.den_nz,tP hF hB2 hy.1 hx.2];dsimp only;rw[ku _ _ _ x.den_nz,ku _ _ _ y.den_nz,tP hF hB2 hx.2 hy.2,
  WV false _ _ _ _ (xm hF (by omega) ha) (xm hF (by omega) hb) (xm hF hB3 (C1 ha hb)),zm,zm]
 unfold AP;dsimp only;have hz:bv (B+B+1) (x.num*(y.den:Int) - y.num*(x.den:Int)).natAbs:=by
  refine qm (C1 ha hb) ?_;have e1:(x.num*(y.den:Int)).natAbs=x.num.natAbs*y.den:=by rw[aHk,aGq]
  have e2:(y.num*(x.den:Int)).natAbs=y.num.natAbs*x.den:=by rw[aHk,aGq]
  omega
 rw[Rb hF hB3 _ hz (dU (iO hx.2 hy.2) (by omega)) (aIR x.den_nz y.den_nz),mD,<- Rat.sub_def']
theorem EM {N:Nat} (x:Rat) (k:Kz0):RW N (decide (x.num<0)) (ak x.num.natAbs) false (ak x.den) k=k (DL x.num):=by
 unfold RW amL aen ZS DL;by_cases h0:x.num=0
 ·rw[h0,if_pos rfl];have:ak (0:Int).natAbs=[]:=bM;rw[this]; rfl
 ·have:((((ak x.num.natAbs).length:Nat):Int)==0)=false:=by rw[fL (by omega)]; simp; omega
  rw[this,aFA,if_neg h0];by_cases h:x.num<0
  ·rw[aFy h,aFB,if_pos h]
  ·rw[aFz h,aFA,if_neg h]
theorem Fo (n:Nat):d8 (ak n) (ak n).length=(ak n).length:=NY n
theorem adt {N B:Nat} (hF:Fuel N) (hB:B<=2000000000100) {x:Rat} (hx:Bq B x) (b1 b2:Bool) (l1 l2:List Int) (k:Kx5) :
  UU N (decide (x.num<0)) (ak x.num.natAbs) false (ak x.den) b1 l1 b2 l2 k=kqR x k:=by
 unfold UU YR;have h1:=xF hB hx.1;have h2:=xF hB hx.2;have hl:=hF.lt;rw[aGk,ac (aFy (by omega)),Q8 _ _ _ x.den_nz,aGk,ac (aFy (by omega))];unfold aea Zu ad_ Zr;rw[p_ _ (by omega) (by omega),Fo];dsimp only;rw[p_ _ (by omega) (by omega),p_ _ (by omega) (by omega),Fo];have e1:(List.take (ak x.num.natAbs).length (List.drop 0 (ak x.num.natAbs)))=ak x.num.natAbs:=by simp
 have e2:(List.take (ak x.den).length (List.drop 0 (ak x.den)))=ak x.den:=by simp
 have e3:decide (0+(ak x.num.natAbs).length<=(ak x.num.natAbs).length)=true:=aFy (by omega);have e4:decide (0+(ak x.den).length<=(ak x.den).length)=true:=aFy (by omega);rw[e1,e2,e3,e4];unfold kqR krR;by_cases h:x.num<0
 ·have:decide (((((ak x.num.natAbs).length:Nat):Nat):Int)>0)=true:=by rw[se]; exact aFy (by omega)
  rw[aFy h,this]; rfl
 ·rw[aFz h]; rfl
end Go.Proofs.YteifemaagdeomaaGreatDoor
end
