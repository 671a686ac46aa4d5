/- Laws in plain Lean. Conditions: none. -/
import Derived.Test.YtdinakfmablagaaGreatDoorC2
set_option linter.unusedVariables false
section
namespace Go.Proofs.YtdinakfmablagaaGreatDoor
open Go Go.Mach
theorem nw:∀(i V:Nat),(aj V).getD i 0=((V / 4294967296 ^ i%4294967296:Nat):Int)
 | i,V=>by
  by_cases h:V=0
  ·subst h; rw[aZ]; simp
  ·rw[cj h];cases i with
   | zero=>simp
   | succ i=>
    show(aj (V / 4294967296)).getD i 0=_;rw[nw i (V / 4294967296),af2,afS,<- afX]
theorem Jr {V w:Nat} (h:V / 4294967296 ^ w ≠ 0):w<(aj V).length:=by
 rcases agP w (aj V).length with h1 | h1
 ·exact h1
 ·exfalso;have h2:=eQ (bf V);rw[aL]at h2;exact h (agm (af9 h2 (af5 (by decide) h1)))
theorem tZ {n:Nat} (h0:n ≠ 0) (h:n<4294967296):aj n=[(n:Int)]:=by rw[cj h0,agm h,aZ,afZ h]
theorem Gk (Q n m:Nat) (h:m<n):(List.replicate (m+1) (0:Int)++(dl Q n).drop (m+1)).set m ((Q / 4294967296 ^ m%4294967296:Nat):Int)=List.replicate m 0++(dl Q n).drop m:=by rw[ahp,af7,List.singleton_append,be _ _ _ _ _ (by simp),cW (n:=m) (by rw[al]; exact h),t_ Q h]
theorem BC {A d:Nat} (hd:0<d):(A / 4294967296%d*4294967296+A%4294967296)%d=A%d/\(A / 4294967296%d*4294967296+A%4294967296) / d=A / d%4294967296:=by
 have h1:=agJ A 4294967296;have h2:=agJ (A / 4294967296) d;have h3:=af4 (A / 4294967296) hd;have h4:A%4294967296<4294967296:=af4 _ (by decide);obtain⟨a,ha⟩:∃ a,a=A / 4294967296:=⟨_,rfl⟩
 obtain⟨e,he⟩:∃ e,e=A%4294967296:=⟨_,rfl⟩
 rw[<- ha]at h1 h2 h3 ⊢;rw[<- he]at h1 h4 ⊢;obtain⟨c,hc⟩:∃ c,c=a / d:=⟨_,rfl⟩
 obtain⟨r,hr⟩:∃ r,r=a%d:=⟨_,rfl⟩
 rw[<- hc,<- hr]at h2;rw[<- hr]at h3 ⊢;have h5:A=d*(c*4294967296)+(r*4294967296+e):=by rw[<- h1,<- h2,<- af0,af6,afS 4294967296,afS 4294967296]; omega
 constructor
 ·rw[h5,ah1]
 ·rw[h5,aiM hd,afS c,ah1];refine(afZ ?_).symm;rw[afY hd];have:=afT 4294967296 h3;rw[ahm]at this;rw[afS _ d,afS d];rw[afS d]at this;omega
theorem jg (x:Nat):x<4294967296 ^ (aj x).length:=by have:=eQ (bf x); rwa [aL]at this
theorem Xl (c:List Int) (m:Nat):aD (c.take (m+3))=aD (c.take m)+4294967296 ^ m*((c.getD m 0).toNat+4294967296*((c.getD (m+2) 0).toNat*4294967296+(c.getD (m+1) 0).toNat)):=by rw[show m+3=m+2+1 by omega,aQ,show m+2=m+1+1 by omega,aQ,aQ];simp only[af2];generalize 4294967296 ^ m=P;grind
theorem Xk (c:List Int) (m:Nat):aD (c.take (m+2))=aD (c.take m)+4294967296 ^ m*((c.getD m 0).toNat+4294967296*(c.getD (m+1) 0).toNat):=by rw[show m+2=m+1+1 by omega,aQ,aQ];simp only[af2];generalize 4294967296 ^ m=P;grind
theorem GZ {b:List Int} {o i:Nat} (D:Nat) (h:o+i<=b.length):(b.take o++(dl D i++b.drop (o+i))).length=b.length:=by simp[al]; omega
theorem GY {b:List Int} {o i:Nat} (D:Nat) (h:o+i<b.length):(b.take o++(dl D i++b.drop (o+i))).getD (o+i) 0=b.getD (o+i) 0:=by rw[<- af7,cW h,bT (by simp[al]; omega)]
theorem BZ {b:List Int} {o i:Nat} (D:Nat) (h:o+i<b.length):(b.take o++(dl D i++b.drop (o+i))).set (o+i) ((D / 4294967296 ^ i%4294967296:Nat):Int)=b.take o++(dl D (i+1)++b.drop (o+(i+1))):=by rw[<- af7,cW h,be _ _ _ _ _ (by simp[al]; omega),dl];simp[agx]
theorem GW {b:List Int} {o i n:Nat} (D E:Nat) (hi:i<=n) (h:o+n<=b.length):(b.take o++(dl E i++((dl D n).drop i++b.drop (o+n)))).length=b.length:=by simp[al]; omega
theorem GV {b:List Int} {o i n:Nat} (D E:Nat) (hi:i<n) (h:o+n<=b.length):(b.take o++(dl E i++((dl D n).drop i++b.drop (o+n)))).getD (o+i) 0=((D / 4294967296 ^ i%4294967296:Nat):Int):=by rw[<- af7,cW (n:=i) (by rw[al]; exact hi),ahA,bT (by simp[al]; omega),t_ D hi]
theorem GX {b:List Int} {o i n:Nat} (D E:Nat) (hi:i<n) (h:o+n<=b.length):(b.take o++(dl E i++((dl D n).drop i++b.drop (o+n)))).set (o+i) ((E / 4294967296 ^ i%4294967296:Nat):Int)=b.take o++(dl E (i+1)++((dl D n).drop (i+1)++b.drop (o+n))):=by rw[<- af7,cW (n:=i) (by rw[al]; exact hi),ahA,be _ _ _ _ _ (by simp[al]; omega),dl];simp
theorem I8 {m:Nat} (S X:Nat):∀ n,n<=m->dl (S+4294967296 ^ m*X) n=dl S n
 | 0,_=>rfl
 | n+1,h=>by rw[dl,dl,I8 S X n (by omega)];congr 3;refine mu (R:=4294967296 ^ (m - (n+1))*X) ?_;rw[<- af0,<- af8,show n+1+(m - (n+1))=m by omega]
theorem BP {w:List Int} {n i U Q:Nat} (hw:InW w) (hl:w.length=n+1) (hU:U=aD w) (hi:i<=n) (hQ:Q<4294967296 ^ (n+1)) :
  (((w.getD i 0).toNat+4294967296 - Q / 4294967296 ^ i%4294967296 - (if aD (w.take i)<Q%4294967296 ^ i then 1 else 0))%4294967296=(U+4294967296 ^ (n+1) - Q) / 4294967296 ^ i%4294967296)
  /\ (if (w.getD i 0).toNat<Q / 4294967296 ^ i%4294967296+(if aD (w.take i)<Q%4294967296 ^ i then 1 else 0)then 1 else 0)=(if aD (w.take (i+1))<Q%4294967296 ^ (i+1)then 1 else(0:Nat)):=by
 have hx:=hw.at (i:=i);have hA:=aQ (m:=w) i;have hAl:=bv hw i;have hp:=aU i;have hBl:=af4 Q hp;have hPs:4294967296 ^ (i+1)=4294967296 ^ i*4294967296:=af2 ..;have hmm:Q%4294967296 ^ (i+1)=Q%4294967296 ^ i+4294967296 ^ i*(Q / 4294967296 ^ i%4294967296):=by rw[hPs,aiG]
 have hyl:Q / 4294967296 ^ i%4294967296<4294967296:=af4 _ (by decide);constructor
 ·obtain⟨R1,h1⟩:=bW w (i+1);have hW:4294967296 ^ (n+1)=4294967296 ^ i*4294967296*4294967296 ^ (n - i):=by rw[<- hPs,<- af8,show i+1+(n - i)=n+1 by omega]
  have hq:=Ff (D:=U+4294967296 ^ (n+1) - Q) (a:=U+4294967296 ^ (n+1)) (b:=Q) (x:=(w.getD i 0).toNat) (y:=Q / 4294967296 ^ i%4294967296) (R1:=R1+4294967296 ^ (n - i)) (R2:=Q / (4294967296 ^ i*4294967296)) hAl hBl rfl
   (by rw[hU,h1,hA,hW,hPs,af6]; omega)
   (by rw[<- hmm,hPs]; exact(ah0 _ _).symm)
   (by omega)
  generalize (U+4294967296 ^ (n+1) - Q) / 4294967296 ^ i=Z at *;generalize Q / 4294967296 ^ i%4294967296=y at *;generalize (w.getD i 0).toNat=x at *;generalize ((R1+4294967296 ^ (n - i):Nat):Int) - ((Q / (4294967296 ^ i*4294967296):Nat):Int)=RR at *;split at hq <;> rename_i hh <;> simp only[hh,ahr,ago] <;> omega
 ·rw[hA,hmm];exact(oD _ _ _ _ _ hAl hBl).symm
theorem z_ {D V c v i:Nat} (hc:c=(D%4294967296 ^ i+V) / 4294967296 ^ i) :
  (D%4294967296 ^ (i+1)+(V+4294967296 ^ i*v)) / 4294967296 ^ (i+1)=(D / 4294967296 ^ i%4294967296+v+c) / 4294967296 /\
  ∀ R,(D+(V+4294967296 ^ i*v+4294967296 ^ (i+1)*R)) / 4294967296 ^ i%4294967296=(D / 4294967296 ^ i%4294967296+v+c)%4294967296:=by
 have hp:=aU i;have hPs:4294967296 ^ (i+1)=4294967296 ^ i*4294967296:=af2 ..;have hmm:D%4294967296 ^ (i+1)=D%4294967296 ^ i+4294967296 ^ i*(D / 4294967296 ^ i%4294967296):=by rw[hPs,aiG]
 have e:D%4294967296 ^ (i+1)+(V+4294967296 ^ i*v)=(D%4294967296 ^ i+V)+4294967296 ^ i*(D / 4294967296 ^ i%4294967296+v):=by rw[hmm,af6]; omega
 have e2:(D%4294967296 ^ (i+1)+(V+4294967296 ^ i*v)) / 4294967296 ^ i=D / 4294967296 ^ i%4294967296+v+c:=by rw[e,dS,<- hc]; omega
 constructor
 ·rw[hPs,<- afX,<- hPs,e2]
 ·intro R;have e3:D+(V+4294967296 ^ i*v+4294967296 ^ (i+1)*R)=(D%4294967296 ^ (i+1)+(V+4294967296 ^ i*v))+4294967296 ^ (i+1)*(D / 4294967296 ^ (i+1)+R):=by have:=ah0 D (4294967296 ^ (i+1));rw[af6]; omega
  rw[mu e3,e2]
theorem EK {D V c i:Nat} (hc:c=(D%4294967296 ^ i+V) / 4294967296 ^ i) :
  (D%4294967296 ^ (i+1)+V) / 4294967296 ^ (i+1)=(D / 4294967296 ^ i%4294967296+0+c) / 4294967296 /\
  (D+V) / 4294967296 ^ i%4294967296=(D / 4294967296 ^ i%4294967296+0+c)%4294967296:=by
 obtain⟨a1,a2⟩:=z_ (v:=0) hc;have a3:=a2 0;rw[ahb,agn V]at a1;rw[ahb,ahb,agn V]at a3;exact⟨a1,a3⟩
theorem P9 (n:Nat):dl n (aj n).length=aj n:=by refine List.ext_getElem (al n _) (λi h1 h2=>?_);have e1:=t_ n h2;have e2:=nw i n;rw[List.getD_eq_getElem?_getD,List.getElem?_eq_getElem h1,agC]at e1;rw[List.getD_eq_getElem?_getD,List.getElem?_eq_getElem h2,agC]at e2;rw[e1,e2]
theorem Fj {X L:Nat} (hX:X<4294967296 ^ L):∀ k,dl X (L+k)=dl X L++List.replicate k 0
 | 0=>by simp
 | k+1=>by rw[<- agx,dl,Fj hX k,agm (af9 hX (af5 (by decide) (ah_ _ _))),ahp,af7];rfl
theorem px (S:Nat):∀{m n:Nat},n<=m->(dl S m).take n=dl S n
 | 0,n,h=>by
  have:n=0:=by omega
  subst this; rfl
 | m+1,n,h=>by
  by_cases e:n=m+1
  ·subst e; rw[agb (by rw[al]; omega)]
  ·rw[dl,agT (by rw[al]; omega),px S (by omega)]
theorem CD (S a:Nat):∀ c,dl S (a+c)=dl S a++dl (S / 4294967296 ^ a) c
 | 0=>by simp[dl]
 | c+1=>by rw[<- agx,dl,CD S a c,dl,afX,<- af8,af7]
theorem Al {V m:Nat} (h:V<4294967296 ^ m):bM (dl V m) m=(aj V).length:=by have h1:=tK (jt V m);rw[al,qM,afZ h]at h1;rw[<- h1,agv,al];have:=kf (dl V m) m;omega
theorem QR {V m:Nat} (h1:4294967296 ^ m<=V) (h2:V<4294967296 ^ (m+1)):(aj V).length=m+1:=by have a:=cu (m+1) V h2;have b:=Jr (V:=V) (w:=m) (by have:=aie h1 (aU m); omega);omega
theorem Q2 {r x:Nat} (hr:r<4294967296) (hx:x<4294967296):aB .or .u64 (IntKind.wrap .u64 ((r:Int)*2 ^ 32)) (IntKind.wrap .u64 (x:Int))=((r*4294967296+x:Nat):Int):=by
 have p32:(2:Nat) ^ 32=4294967296:=by decide
 have q32:(2:Int) ^ 32=4294967296:=by decide
 have e1:IntKind.wrap .u64 ((r:Int)*2 ^ 32)=((2 ^ 32*r:Nat):Int):=by rw[q32,p32,am]; omega
 have e2:IntKind.wrap .u64 (x:Int)=(x:Int):=by rw[am]; omega
 rw[e1,e2,uF,co _ _ 32 (by omega) (by omega),p32];congr 1; omega
theorem H8 {N:Nat} {x d:Nat} (hd0:0<d) (hd:d<4294967296) (hs:fK N (aj x)) (k:List Int->Int->Bool):oY N (aj x) (d:Int) k=k (aj (x / d)) ((x%d:Nat):Int):=by
 (unfold oY; rw[ac]; unfold rY)
 obtain⟨s1,s2⟩:=hs;have hx:=jg x;generalize hn:(aj x).length=n at *;rw[aa (bE (by omega) (by omega) (by omega) (by omega)),aa afM,afV];have wd:IntKind.wrap .u64 (d:Int)=(d:Int):=by rw[am]; omega
 have d1:(!decide ((d:Int)=0))=true:=by simp; omega
 refine aH (λi=>(((x / 4294967296 ^ (n - i)%d:Nat):Int),((n:Int) - 1 - (i:Int)),List.replicate (n - i) (0:Int)++(dl (x / d) n).drop (n - i))) n ?_ (by omega) (λi hi K=>?_) (λK=>?_)
 ·rw[ahW,agm hx,Nat.zero_mod,agB (by rw[al]; omega),agp];simp
 ·obtain⟨m,hm⟩:∃ m,n - i=m+1:=⟨n - i - 1,by omega⟩
  have hm2:n - (i+1)=m:=by omega
  have ei:(n:Int) - 1 - (i:Int)=(m:Int):=by omega
  have ei2:(n:Int) - 1 - ((i+1:Nat):Int)=(m:Int) - 1:=by omega
  have hp:x / 4294967296 ^ (m+1)=x / 4294967296 ^ m / 4294967296:=by rw[af2,afX]
  have hdg:x / d / 4294967296 ^ m%4294967296=x / 4294967296 ^ m / d%4294967296:=by rw[afX,afX,afS d]
  obtain⟨n1,n2⟩:=BC (A:=x / 4294967296 ^ m) hd0;rw[hm,hm2,ei,ei2,hp];simp only[li,afV,wd];have hl:(List.replicate (m+1) (0:Int)++(dl (x / d) n).drop (m+1)).length=n:=by simp[al]; omega
  have hr:=af4 (x / 4294967296 ^ m / 4294967296) hd0;have hq:(x / 4294967296 ^ m / 4294967296%d*4294967296+x / 4294967296 ^ m%4294967296) / d<4294967296:=by rw[n2]; exact af4 _ (by decide)
  rw[afO (by omega:(m:Int)>=0),afR,hn,aa afN,nw,aa d1,hl,aa afN,aa (afO (by omega)),aa d1,aa afM,Q2 (by omega) (af4 _ (by decide))];have e1:∀ A:Nat,Int.tdiv (A:Int) (d:Int)=((A / d:Nat):Int):=λ_=>rfl
  have e2:∀ A:Nat,Int.tmod (A:Int) (d:Int)=((A%d:Nat):Int):=λ_=>rfl
  rw[e1,e2,n1,n2,<- hdg];have e3:IntKind.wrap .u32 (IntKind.wrap .u64 ((x / d / 4294967296 ^ m%4294967296:Nat):Int))=((x / d / 4294967296 ^ m%4294967296:Nat):Int):=by have:=af4 (x / d / 4294967296 ^ m) (by decide:4294967296>0);generalize x / d / 4294967296 ^ m%4294967296=y at *;rw[am,dh]; omega
  rw[e3,Gk _ _ _ (by omega)]
 ·simp only[li];have e0:(n:Int) - 1 - (n:Int) = -1:=by omega
  rw[e0,afP (by omega),afQ,agq,ahL,ahI];rw[agt,agD,ahh];have hq:x / d<4294967296 ^ n:=ahn (aho _ _) hx;have hr:=af4 x hd0;have e3:IntKind.wrap .u32 ((x%d:Nat):Int)=((x%d:Nat):Int):=by rw[dh]; omega
  rw[e3,dj _ (jt _ _) (by rw[al]; omega) (by rw[al]; omega) (λz=>k z ((x%d:Nat):Int)),qt hq]
theorem Oj (N:Nat) {x:Nat} (hx:x<4294967296) (k:Kz5):VN N (x:Int) k=k ((32 - bl x:Nat):Int):=by unfold VN Wt;have:=wm (n:=x) (j:=32) (by rw[show(2:Nat) ^ 32=4294967296 by decide]; exact hx);rw[CO N x hx,aa afM];congr 1; omega
theorem Eb:(2:Nat) ^ 32=4294967296:=by decide
theorem LY {y:Nat} (h0:y ≠ 0) (hy:y<4294967296):32 - bl y<32/\2147483648<=y*2 ^ (32 - bl y)/\y*2 ^ (32 - bl y)<4294967296:=by
 have h1:=wm (n:=y) (j:=32) (by rw[Eb]; exact hy);obtain⟨h2,h3⟩:=Nq h0;have h4:=yp y;have hp:0<2 ^ (32 - bl y):=af3 _;refine⟨by omega,?_,?_⟩
 ·have:=afT (2 ^ (32 - bl y)) h3;rw[<- af8,show bl y - 1+(32 - bl y)=31 by omega]at this;exact this
 ·have:=agE h4 hp;rw[<- af8,show bl y+(32 - bl y)=32 by omega]at this;exact this
theorem Ib {N:Nat} (m:List Int) (hm:InW m) (n:Nat) (hn:n<4294967296) (hN:m.length+n / 32+4<N) (hs:m.length<=1099511627776) (e0:List Int->Bool) :
  ai N (eE N m ((n / 32:Nat):Int) ((n%32:Nat):Int) e0) (0,List.replicate (n / 32+m.length+1) (0:Int))=e0 (dl (aD m*2 ^ n) (n / 32+m.length+1)):=by
 generalize hw:n / 32=w at *;generalize hsh:n%32=s at *;have hs32:s<32:=by omega
 have hp2:2 ^ n=4294967296 ^ w*2 ^ s:=by rw[wS,hw,hsh]
 have hs0:0<2 ^ s:=af3 s;have hs1:2 ^ s*2 ^ (32 - s)=4294967296:=by rw[<- af8,show s+(32 - s)=32 by omega]
 have hs2:2 ^ s<=2147483648:=by have:2 ^ s<=2 ^ 31:=af5 (by decide) (by omega);simpa using this
 let V:=aD m*2 ^ n
 let X:=aD m*2 ^ s
 have hVX:V=4294967296 ^ w*X:=by simp only[V,X]; rw[hp2,agi]
 let T:=λi=>aD (m.take i)*2 ^ s
 let c:=λi=>T i / 4294967296 ^ i
 refine aH (N:=N) (λi=>((i:Int),dl V (w+i)++((c i:Nat):Int)::List.replicate (m.length - i) 0)) m.length ?_ (by omega) (λi hi K=>?_) (λK=>?_)
 ·congr 1;show List.replicate (w+m.length+1) (0:Int)=dl V w++((c 0:Nat):Int)::List.replicate m.length 0;rw[hVX,vq];have hc0:c 0=0:=by simp[c,T,aD]
  rw[hc0];have:w+m.length+1=w+(m.length+1):=by omega
  rw[this,<- ahu,agA]; rfl
 ·have hx:=hm.at (i:=i);have hT:T (i+1)=T i+4294967296 ^ i*((m.getD i 0).toNat*2 ^ s):=by simp only[T,aQ,agk,af0]
  have hq:T (i+1) / 4294967296 ^ i=c i+(m.getD i 0).toNat*2 ^ s:=by rw[hT,dS]
  have hci:c i<2 ^ s:=by simp only[c,T];rw[afY (aU i),afS];exact ag0 (bv hm i) hs0
  have hc1:c (i+1)=(c i+(m.getD i 0).toNat*2 ^ s) / 4294967296:=by rw[<- hq]; simp only[c]; rw[af2,afX]
  have hdig:V / 4294967296 ^ (w+i)%4294967296=(c i+(m.getD i 0).toNat*2 ^ s)%4294967296:=by rw[<- hq,hVX,af8,<- afX,agr _ (aU w)];obtain⟨R,hR⟩:=bW m (i+1);refine mu (R:=R*2 ^ s) ?_;simp only[X,T];rw[hR,agk,af0]
  have hrep:List.replicate (m.length - i) (0:Int)=0::List.replicate (m.length - (i+1)) 0:=by rw[show m.length - i=(m.length - (i+1))+1 by omega,agA]
  have hdl:=al V (w+i);have ei:Int.toNat ((w:Int)+(i:Int))=w+i:=by omega
  have ei1:Int.toNat ((w:Int)+(i:Int)+1)=w+i+1:=by omega
  have emin:min s 64=s:=by omega
  simp only[eE,afV,ei,ei1,emin];rw[hrep,bT hdl.symm,be _ _ _ _ _ hdl.symm];have et:IntKind.wrap .u64 (IntKind.wrap .u64 (m.getD i 0)*2 ^ s)=(((m.getD i 0).toNat*2 ^ s:Nat):Int):=by
   have hxs:(m.getD i 0).toNat*2 ^ s<4294967296*2147483648:=agz (by omega) hs2 (by decide);have e1:IntKind.wrap .u64 (m.getD i 0)=(((m.getD i 0).toNat:Nat):Int):=by rw[am]; omega
   have e2:(((m.getD i 0).toNat:Nat):Int)*2 ^ s=(((m.getD i 0).toNat*2 ^ s:Nat):Int):=by simp
   rw[e1,e2,am]; omega
  rw[et];generalize hxx:(m.getD i 0).toNat=x at *;have hx32:x<4294967296:=by omega
  have hlow:x*2 ^ s%4294967296=2 ^ s*(x%2 ^ (32 - s)):=by
   have e:x*2 ^ s%(2 ^ s*2 ^ (32 - s))=2 ^ s*(x%2 ^ (32 - s)):=by rw[afS x]; exact ahB _ _ _
   rwa [hs1]at e
  have hsum:2 ^ s*(x%2 ^ (32 - s))+c i<4294967296:=by have h1:x%2 ^ (32 - s)+1<=2 ^ (32 - s):=af4 _ (af3 _);have h2:=afW (2 ^ s) h1;rw[hs1,af6]at h2;omega
  have eor:aB .or .u32 ((c i:Nat):Int) (IntKind.wrap .u32 ((x*2 ^ s:Nat):Int))=((V / 4294967296 ^ (w+i)%4294967296:Nat):Int):=by
   have e1:IntKind.wrap .u32 ((x*2 ^ s:Nat):Int)=((2 ^ s*(x%2 ^ (32 - s)):Nat):Int):=by rw[<- hlow,dh]; omega
   rw[e1,rq _ _ s hci hsum,hdig];omega
  have ehi:IntKind.wrap .u32 (Int.fdiv ((x*2 ^ s:Nat):Int) (2 ^ 32))=((c (i+1):Nat):Int):=by have hxs:x*2 ^ s<4294967296*2147483648:=agz hx32 hs2 (by decide);rw[kz,dh,hc1];omega
  rw[eor,ehi];have hl1:∀(a b:Int) (ys:List Int),(dl V (w+i)++a::b::ys).length=w+i+2+ys.length:=by intro a b ys; simp[hdl]; omega
  have hset2:(dl V (w+i)++((V / 4294967296 ^ (w+i)%4294967296:Nat):Int)::0::List.replicate (m.length - (i+1)) 0).set (w+i+1) ((c (i+1):Nat):Int)=dl V (w+(i+1))++((c (i+1):Nat):Int)::List.replicate (m.length - (i+1)) 0:=by
   have:dl V (w+i)++((V / 4294967296 ^ (w+i)%4294967296:Nat):Int)::0::List.replicate (m.length - (i+1)) 0=dl V (w+(i+1))++0::List.replicate (m.length - (i+1)) 0:=by rw[<- agx,dl]; simp
   rw[this];exact be _ _ _ _ _ (by rw[al]; omega)
  rw[hset2,hl1,hl1];simp only[aha];rw[afO (by omega:(i:Int)<m.length),afR,aa afN,aa (afO (by omega)),aa afM,aa afN,aa (afO (by omega)),aa afN,aa (afO (by omega)),
   aa afM,aa afM,aa afN,aa (afO (by omega)),aa afM]
  rfl
 ·simp only[eE];rw[afP (by omega:¬(m.length:Int)<m.length),afQ,agq,agt];have hV:V<4294967296 ^ (w+m.length+1):=by have h1:=eQ hm;simp only[V];rw[hp2,af2,af8,agi,af0];refine ag0 ?_ (aU w);exact agz h1 (by omega) (by decide)
  have hT:T m.length=X:=by simp only[T,X]; rw[agy]
  have hend:dl V (w+m.length)++[((c m.length:Nat):Int)]=dl V (w+m.length+1):=by
   rw[dl];have:c m.length=V / 4294967296 ^ (w+m.length)%4294967296:=by simp only[c];rw[hT,hVX,af8,<- afX,agr _ (aU w)];rw[afZ];rw[afY (aU _),afS];have h1:=eQ hm;simp only[X];exact agz h1 (by omega) (by decide)
   rw[this]
  rw[hend]
theorem sJ {N:Nat} {m s:Nat} (hm:m ≠ 0) (hs:s<32) (hN:(aj m).length+4<N) (hl:(aj m).length<=1099511627776) (k0:Bool) (k1:Nat->List Int->Bool) :
  Pt N (aj m) (s:Int) k0 k1=k1 (aj (m*2 ^ s)).length (dl (m*2 ^ s) ((aj m).length+1)):=by
 have hlp:(aj m).length ≠ 0:=by rw[cj hm]; simp
 have hV:m*2 ^ s<4294967296 ^ ((aj m).length+1):=by
  rw[af2];have h2:2 ^ s<4294967296:=by rw[<- Eb]; exact Nat.pow_lt_pow_right (by decide) hs
  exact agV (jg m) h2
 (unfold Pt; rw[ac]; unfold Tn)
 have e0:((((aj m).length:Nat):Int)==0)=false:=by simp; intro h; rw[h]at hlp; simp at hlp
 have ew:IntKind.wrap .u64 (Int.tdiv (s:Int) 32)=((s / 32:Nat):Int):=by rw[am,agU (by omega)]; omega
 have es:Int.tmod (s:Int) 32=((s%32:Nat):Int):=by rw[agI (by omega)]; rfl
 have elen:Int.toNat (((s / 32:Nat):Int)+(((aj m).length:Nat):Int)+1)=s / 32+(aj m).length+1:=by omega
 rw[e0,afQ,ew,es,aa afM,aa afM,aa afM,aa (bE (by omega) (by omega) (by omega) (by omega)),elen];have:=Ib (N:=N) (aj m) (bf m) s (by omega) (by omega) hl (λz_1=>pS N z_1 λmr=>k1 mr z_1);rw[aL,show s / 32=0 by omega,agl]at this;rw[show s / 32=0 by omega,agl];refine Eq.trans this ?_;rw[lR _ (by rw[al]; omega) (by rw[al]; omega),al,Al hV]
theorem K1 {N:Nat} (b:List Int) (m:Nat) (hm:m<=b.length) (hN:m<N) (hs:m<9223372036854775807) (k:Kz6):tm N 0 m b k=k (bM b m):=by
 (unfold tm; rw[ac]; unfold rW)
 have key:∀ n,n<=m -> ∀ M,n<M->ai M (vX N 0 b λm_4=>k m_4) n=k (bM b n):=by
  intro n;induction n with
  | zero=>
   intro _ M hM;obtain⟨M,rfl⟩:∃ m,M=m+1:=⟨M - 1,by omega⟩
   show vX N 0 b _ 0 _=_;simp only[vX,bM];rw[afP (by omega:¬((0:Nat):Int)>0),show(false==true)=false from rfl,afQ]
  | succ n ih=>
   intro hn M hM;obtain⟨M,rfl⟩:∃ m,M=m+1:=⟨M - 1,by omega⟩
   show vX N 0 b _ (n+1) (ai M _)=_;have e:0+Int.toNat (((n+1:Nat):Int) - 1)=n:=by omega
   have e2:Int.toNat (((n+1:Nat):Int) - 1) - 0=n:=by omega
   simp only[vX,e,e2];rw[afO (by omega:((n+1:Nat):Int)>0),show(true==true)=true from rfl,afR,aa afM,aa afN,aa (afO (by omega)),aa afM,aa (afO (by omega)),ih (by omega) M (by omega),oG];by_cases h0:b.getD n 0=0
   ·have:(b.getD n 0==0)=true:=by simpa using h0
    rw[this,if_pos h0]; rfl
   ·have:(b.getD n 0==0)=false:=by simpa using h0
    rw[this,if_neg h0]; rfl
 exact key m (af1 _) N hN
theorem DX {N:Nat} (b:List Int) (hb:InW b) (m s:Nat) (hm:m<=b.length) (hs:s<32) (hN:m+3<N) (hms:m<=1099511627780) (k:Kz9):Pl N 0 m (s:Int) b k=k (aj (aD (b.take m) / 2 ^ s)):=by
 have ew:IntKind.wrap .u64 (Int.tdiv (s:Int) 32)=0:=by rw[am,agU (by omega)]; omega
 have es:Int.tmod (s:Int) 32=(s:Int):=by rw[agI (by omega)]; omega
 have hs0:0<2 ^ s:=af3 _
 (unfold Pl; rw[ac]; unfold M0)
 by_cases h0:m=0
 ·subst h0;rw[ew,ah8,show aD []=0 from rfl,Nat.zero_div,aZ];rfl
 ·have emin:min s 64=s:=by omega
  rw[ew,es,aa afM,afP (by omega:¬(0:Int)>=(m:Int)),afQ];have hw:InW (b.take m):=hb.take m;have hwl:(b.take m).length=m:=by rw[agv]; omega
  have hwg:∀ i,i<m->(b.take m).getD i 0=b.getD i 0:=λi hi=>uc hi
  obtain⟨X,hX⟩:∃ X,X=aD (b.take m) / 2 ^ s:=⟨_,rfl⟩
  have elen2:(m:Int) - 0=(m:Int):=by omega
  rw[elen2,aa afM,aa (bE (by omega) (by omega) (by omega) (by omega)),afV,<- hX];refine aH (λi=>((i:Int),dl X i++List.replicate (m - i) 0)) m (by simp[dl]) (by omega) (λi hi K=>?_) (λK=>?_)
  ·have hx:=hw.at (i:=i);have hy:=hw.at (i:=i+1);have hset:=At X i m (by omega);have hl:(dl X i++List.replicate (m - i) (0:Int)).length=m:=by simp[al]; omega
   obtain⟨R,hR⟩:=CB hw i;have hdig:X / 4294967296 ^ i%4294967296=(((b.take m).getD i 0).toNat+4294967296*((b.take m).getD (i+1) 0).toNat) / 2 ^ s%4294967296:=by
    rw[hX,afX,afS (2 ^ s),<- afX,hR];have e2:4294967296*4294967296*R=2 ^ s*(4294967296*(2 ^ (32 - s)*R)):=by
     have hs1:2 ^ s*2 ^ (32 - s)=4294967296:=by rw[<- af8,show s+(32 - s)=32 by omega]
     rw[agi (2 ^ s),<- af0 (2 ^ s),hs1,af0]
    rw[e2,agL _ _ hs0,ag7]
   have hfin:∀ z:Int,z=((((b.take m).getD i 0).toNat+4294967296*((b.take m).getD (i+1) 0).toNat:Nat):Int)->IntKind.wrap .u32 (Int.fdiv z (2 ^ s))=((X / 4294967296 ^ i%4294967296:Nat):Int):=by
    intro z hz;have e:(2:Int) ^ s=((2 ^ s:Nat):Int):=by simp
    rw[hdig,hz,e,ahj _ (by omega),dh];rfl
   have ea:(0:Int)+(i:Int)=(i:Int):=by omega
   have ei:0+Int.toNat (i:Int)=i:=by omega
   have ei1:Int.toNat ((i:Int)+1)=i+1:=by omega
   simp only[ja,ea,ei1,afV,agl,emin,hl];rw[afO (by omega:(i:Int)<m),afR,aa afM,aa afN,aa (afO (by omega)),aa afM,aa afM];rw[<- hwg i hi];by_cases hlast:i+1<m
   ·rw[<- hwg (i+1) hlast];rw[afO (by omega:(i:Int)+1<m),afR,aa afM,aa afM,aa afN,aa (afO (by omega)),aa (afO (by omega)),aa afN,aa (afO (by omega)),aa afM];have e1:IntKind.wrap .u64 ((b.take m).getD i 0)=((((b.take m).getD i 0).toNat:Nat):Int):=by rw[am]; omega
    have e2:IntKind.wrap .u64 (IntKind.wrap .u64 ((b.take m).getD (i+1) 0)*2 ^ 32)=((2 ^ 32*((b.take m).getD (i+1) 0).toNat:Nat):Int):=by
     have:(2:Int) ^ 32=4294967296:=by decide
     have:(2:Nat) ^ 32=4294967296:=by decide
     rw[am,am]; omega
    have p32:(2:Nat) ^ 32=4294967296:=by decide
    rw[e1,e2,co _ _ 32 (by omega) (by omega),hfin _ (by omega),hset,kI]
   ·rw[afP (by omega:¬(i:Int)+1<m),afQ,aa (afO (by omega)),aa afN,aa (afO (by omega)),aa afM];have hz:(b.take m).getD (i+1) 0=0:=dY (by omega);have e1:IntKind.wrap .u64 ((b.take m).getD i 0)=((((b.take m).getD i 0).toNat:Nat):Int):=by rw[am]; omega
    rw[e1,hfin _ (by rw[hz]; simp),hset,kI]
  ·simp only[ja];have hl:(dl X m++List.replicate (m - m) (0:Int)).length=m:=by simp[al]
   rw[afP (by omega:¬(m:Int)<(((dl X m++List.replicate (m - m) (0:Int)).length:Nat):Int)),afQ,agq,agt,agp];have hXl:X<4294967296 ^ m:=by have h1:=eQ hw;rw[hwl]at h1;rw[hX];exact ahn (aho _ _) h1
   rw[dj _ (jt X m) (by rw[al]; omega) (by rw[al]; omega),qt hXl]
theorem Vr {A B r u0:Nat} (h:r*4294967296+u0<A):B+r*4294967296+u0<B+A:=by omega
theorem DJ {N:Nat} {s5:Int} {ul j n u0 v0 v1 T d:Nat} {b c ql:List Int} (hn:2<=n) (hc1:c.getD (n - 2) 0=(v0:Int)) (hb:b.getD (j+n - 2) 0=(u0:Int)) (hcl:n<=c.length) (hul:j+n<ul) (hbl:ul<=b.length) (hbs:b.length<=1099511627780)
  (hv0:v0<4294967296) (hv1:v1<4294967296) (hu0:u0<4294967296) (hTl:T<4294967296*v1+4294967296) (hd:∀ g,T*4294967296+u0<g*(v1*4294967296+v0)->d<g) (hdW:d<4294967296) :
  ∀ g r M,g<M->g<=4294967299->g*v1+r=T->r<4294967296->d<=g ->
   ∃ q,d<=q/\q<4294967296/\q*(v1*4294967296+v0)<=T*4294967296+u0 /\ ∀ e0,ai M (pm N s5 n ul (n:Int) (v1:Int) (j:Int) c b ql e0) ((g:Int),(r:Int))=e0 (q:Int):=by
 intro g;induction g using Nat.strongRecOn with
 | ind g ih=>
 intro r M hM hgb hT hr hdg;obtain⟨M,rfl⟩:∃ m,M=m+1:=⟨M - 1,by omega⟩
 have i2:0+Int.toNat ((n:Int) - 2)=n - 2:=by omega
 have j2:0+Int.toNat ((j:Int)+(n:Int) - 2)=j+n - 2:=by omega
 have dec:∀ p,g=p+1->d<=p -> ∃ q,d<=q/\q<4294967296/\q*(v1*4294967296+v0)<=T*4294967296+u0 /\ ∀ e0,cond (decide ((IntKind.wrap .u64 ((r:Int)+(v1:Int)))>=4294967296)) (e0 (IntKind.wrap .u64 ((g:Int) - 1))) (ai M (pm N s5 n ul (n:Int) (v1:Int) (j:Int) c b ql e0) ((IntKind.wrap .u64 ((g:Int) - 1)),(IntKind.wrap .u64 ((r:Int)+(v1:Int)))))=e0 (q:Int):=by
  intro p hp hdp;subst hp;have w1:IntKind.wrap .u64 (((p+1:Nat):Int) - 1)=(p:Int):=G0 p (by omega);have w2:IntKind.wrap .u64 ((r:Int)+(v1:Int))=((r+v1:Nat):Int):=by rw[am]; omega
  rw[w1,w2];by_cases hb2:4294967296<=r+v1
  ·have hpl:p<4294967296:=by
    rcases agP p 4294967296 with h | h
    ·exact h
    ·exfalso;have:=afT v1 h;rw[ahm]at hT;omega
   refine⟨p,hdp,hpl,AJ hv0 (by omega) hT hb2,λe0=>?_⟩;rw[afO (by omega),afR]
  ·obtain⟨q,q1,q2,q3,q4⟩:=ih p (by omega) (r+v1) M (by omega) (by omega) (by rw[<- hT,ahm]; omega) (by omega) hdp;exact⟨q,q1,q2,q3,λe0=>by rw[afP (by omega),afQ]; exact q4 e0⟩
 by_cases hg:4294967296<=g
 ·obtain⟨q,q1,q2,q3,q4⟩:=dec (g - 1) (by omega) (by omega);refine⟨q,q1,q2,q3,λe0=>?_⟩;show pm N s5 n ul (n:Int) (v1:Int) (j:Int) c b ql e0 (_,_) (ai M _)=_;simp only[pm];rw[afO (by omega:(g:Int)>=4294967296),show(true==false)=false from rfl,afQ];exact q4 e0
 ·have hgv:g*v0<=4294967295*4294967295:=agG (by omega) (by omega);have wv0:IntKind.wrap .u64 (v0:Int)=(v0:Int):=by rw[am]; omega
  have wgv:IntKind.wrap .u64 ((g:Int)*(v0:Int))=((g*v0:Nat):Int):=by rw[<- aga,am]; omega
  have e1:T*4294967296+u0=g*v1*4294967296+r*4294967296+u0:=by rw[<- hT,agk]
  have e2:g*(v1*4294967296+v0)=g*v1*4294967296+g*v0:=by rw[af6,af0]
  have body:∀ e0:Int->Bool,ai (M+1) (pm N s5 n ul (n:Int) (v1:Int) (j:Int) c b ql e0) ((g:Int),(r:Int))=cond (decide (((g*v0:Nat):Int)>((r*4294967296+u0:Nat):Int))) (cond (decide ((IntKind.wrap .u64 ((r:Int)+(v1:Int)))>=4294967296)) (e0 (IntKind.wrap .u64 ((g:Int) - 1))) (ai M (pm N s5 n ul (n:Int) (v1:Int) (j:Int) c b ql e0) ((IntKind.wrap .u64 ((g:Int) - 1)),(IntKind.wrap .u64 ((r:Int)+(v1:Int)))))) (e0 (g:Int)):=by intro e0;show pm N s5 n ul (n:Int) (v1:Int) (j:Int) c b ql e0 (_,_) (ai M _)=_;simp only[pm,i2,j2,hc1,hb,wv0,wgv];rw[afP (by omega:¬(g:Int)>=4294967296),show(false==false)=true from rfl,afR,aa afM,aa afN,aa (afO (by omega)),aa afM,aa afM,aa afN,aa (afO (by omega)),Q2 hr hu0]
  by_cases ht:r*4294967296+u0<g*v0
  ·have hlt1:g*v1*4294967296+r*4294967296+u0<g*v1*4294967296+g*v0:=Vr ht;have hlt:d<g:=hd g (ahn (ahY e1) (af9 hlt1 (ahY e2.symm)));obtain⟨q,q1,q2,q3,q4⟩:=dec (g - 1) (by omega) (by omega);exact⟨q,q1,q2,q3,λe0=>by rw[body,afO (by omega),afR]; exact q4 e0⟩
  ·exact⟨g,hdg,by omega,age (ahY e2) (age (by omega) (ahY e1.symm)),λe0=>by rw[body,afP (by omega),afQ]⟩
theorem K5 {N:Nat} {j n ul g U V:Nat} {b c:List Int} (hN:n<N) (hb:InW b) (hc:InW c) (hcl:n<=c.length) (hul:j+n<ul) (hbl:ul<=b.length) (hbs:b.length<=1099511627780) (hg:g<4294967296) (hU:U=aD ((b.drop j).take (n+1))) (hV:V=aD (c.take n)) (k:Ky4) :
  Pb N 0 ul 0 n (j:Int) (g:Int) b c k=k (decide (U<g*V)) (b.take j++(dl (U+4294967296 ^ (n+1) - g*V) (n+1)++b.drop (j+(n+1)))):=by
 (unfold Pb; rw[ac]; unfold MH)
 have hw:InW ((b.drop j).take (n+1)):=(hb.drop j).take _;have hwl:((b.drop j).take (n+1)).length=n+1:=by rw[agv,ahq]; omega
 have hwg:∀ i,i<=n->((b.drop j).take (n+1)).getD i 0=b.getD (j+i) 0:=λi hi=>by rw[uc (by omega),kg]
 generalize (b.drop j).take (n+1)=w at *;have hVl:V<4294967296 ^ n:=by rw[hV]; exact bv hc n
 have hgV:g*V<4294967296 ^ (n+1):=by rw[af2,afS];exact agV hVl hg
 obtain⟨D,hD⟩:∃ D,D=U+4294967296 ^ (n+1) - g*V:=⟨_,rfl⟩
 obtain⟨Q,hQ⟩:∃ Q,Q=g*V:=⟨_,rfl⟩
 have hQW:Q<4294967296 ^ (n+1):=by rw[hQ]; exact hgV
 rw[<- hD];refine aH (λi=>(((g*aD (c.take i) / 4294967296 ^ i:Nat):Int),((if aD (w.take i)<Q%4294967296 ^ i then 1 else 0:Nat):Int),(i:Int),b.take j++(dl D i++b.drop (j+i)))) n ?_ (by omega) (λi hi K=>?_) (λK=>?_)
 ·simp[dl,aD,aiF]
 ·have hx:=hb.at (i:=j+i);have hy:=hc.at (i:=i);have hcv:=aQ (m:=c) i;have hp:=aU i;have hVi:=bv hc i;obtain⟨s1,s2⟩:=BP hw hwl hU (by omega:i<=n) hQW;rw[hwg i (by omega)]at s1 s2;rw[hQ,<- hD,<- hQ]at s1;obtain⟨cy,hcy⟩:∃ cy,cy=g*aD (c.take i) / 4294967296 ^ i:=⟨_,rfl⟩
  have hcyl:cy<4294967296:=by rw[hcy,afY hp];exact agV hg hVi
  have e1:g*aD (c.take (i+1))=g*aD (c.take i)+4294967296 ^ i*(g*(c.getD i 0).toNat):=by rw[hcv,af6,agi g]
  have ecy:g*aD (c.take (i+1)) / 4294967296 ^ (i+1)=(g*(c.getD i 0).toNat+cy) / 4294967296:=by rw[af2,<- afX,e1,dS,<- hcy];congr 1; omega
  obtain⟨R,hR⟩:=bW (c.take n) (i+1);rw[aiT,ahf (by omega),<- hV]at hR;have elo:Q / 4294967296 ^ i%4294967296=(g*(c.getD i 0).toNat+cy)%4294967296:=by
   have:Q=g*aD (c.take (i+1))+4294967296 ^ (i+1)*(g*R):=by rw[hQ,hR,af6,agi g]
   rw[mu this,e1,dS,<- hcy];congr 1; omega
  rw[elo]at s1 s2;have ei:0+Int.toNat ((j:Int)+(i:Int))=j+i:=by omega
  have hgy:g*(c.getD i 0).toNat<=4294967295*4294967295:=agG (by omega) (by omega);have wy:IntKind.wrap .u64 (c.getD i 0)=(((c.getD i 0).toNat:Nat):Int):=by rw[am]; omega
  have wp:IntKind.wrap .u64 ((g:Int)*(((c.getD i 0).toNat:Nat):Int))=((g*(c.getD i 0).toNat:Nat):Int):=by rw[<- aga,am]; omega
  have wpc:IntKind.wrap .u64 (((g*(c.getD i 0).toNat:Nat):Int)+(cy:Int))=((g*(c.getD i 0).toNat+cy:Nat):Int):=by rw[am]; omega
  have wx:IntKind.wrap .u64 (b.getD (j+i) 0)=(((b.getD (j+i) 0).toNat:Nat):Int):=by rw[am]; omega
  have hcf:Int.fdiv ((g*(c.getD i 0).toNat+cy:Nat):Int) (2 ^ 32)=((g*aD (c.take (i+1)) / 4294967296 ^ (i+1):Nat):Int):=by rw[kz,ecy]; rfl
  simp only[g9,afV,agl];have ei':Int.toNat ((j:Int)+(i:Int))=j+i:=by omega
  rw[ei',GZ D (by omega),GY D (by omega),afO (by omega:(i:Int)<(n:Int)),afR,aa afN,aa (afO (by omega)),aa afM,aa afN,aa (afO (by omega)),<- hcy,wy,wp,wpc,wx,EO,hcf];generalize (g*(c.getD i 0).toNat+cy)%4294967296=lo at *;have hlo:lo<4294967296:=by rw[<- elo]; exact af4 _ (by decide)
  obtain⟨bo,hbo⟩:∃ bo:Nat,bo=if aD (w.take i)<Q%4294967296 ^ i then 1 else 0:=⟨_,rfl⟩
  have hbo1:bo<=1:=by rw[hbo]; split <;> omega
  rw[<- hbo]at s1 s2 ⊢;obtain⟨x,hxe⟩:∃ x,x=(b.getD (j+i) 0).toNat:=⟨_,rfl⟩
  rw[<- hxe]at s1 s2 ⊢;have hxl:x<4294967296:=by omega
  have wlb:IntKind.wrap .u64 ((lo:Int)+(bo:Int))=((lo+bo:Nat):Int):=by rw[am]; omega
  rw[wlb];by_cases hlt:x<lo+bo
  ·rw[if_pos hlt]at s2;have wv:IntKind.wrap .u32 (IntKind.wrap .u64 (IntKind.wrap .u64 ((x:Int)+4294967296) - ((lo+bo:Nat):Int)))=((D / 4294967296 ^ i%4294967296:Nat):Int):=by rw[<- s1,am,am,dh]; omega
   rw[afO (by omega),afR,wv,aa afM,aa afN,aa (afO (by omega)),aa afM,BZ D (by omega),<- s2,kI];rfl
  ·rw[if_neg hlt]at s2;have wv:IntKind.wrap .u32 (IntKind.wrap .u64 ((x:Int) - ((lo+bo:Nat):Int)))=((D / 4294967296 ^ i%4294967296:Nat):Int):=by rw[<- s1,am,dh]; omega
   rw[afP (by omega),afQ,wv,aa afM,aa afN,aa (afO (by omega)),aa afM,BZ D (by omega),<- s2,kI];rfl
 ·have hx:=hb.at (i:=j+n);obtain⟨s1,s2⟩:=BP hw hwl hU (af1 n) hQW;rw[hwg n (by omega)]at s1 s2;rw[hQ,<- hD,<- hQ]at s1;have hql:Q / 4294967296 ^ n<4294967296:=by rw[afY (aU n),afS,<- af2]; exact hQW
  rw[afZ hql]at s1 s2;have hwt:w.take (n+1)=w:=agb (by omega);rw[hwt,<- hU,afZ hQW]at s2;simp only[g9];have ei':0+Int.toNat ((j:Int)+(n:Int))=j+n:=by omega
  rw[afP (by omega:¬(n:Int)<(n:Int)),afQ,<- hV,<- hQ];rw[ei',GZ D (by omega),GY D (by omega),aa afM,aa afN,aa (afO (by omega)),aa afM,aa afN,aa (afO (by omega))];obtain⟨y,hy⟩:∃ y,y=Q / 4294967296 ^ n:=⟨_,rfl⟩
  rw[<- hy]at s1 s2 hql ⊢;obtain⟨bo,hbo⟩:∃ bo:Nat,bo=if aD (w.take n)<Q%4294967296 ^ n then 1 else 0:=⟨_,rfl⟩
  have hbo1:bo<=1:=by rw[hbo]; split <;> omega
  rw[<- hbo]at s1 s2 ⊢;have wx:IntKind.wrap .u64 (b.getD (j+n) 0)=(((b.getD (j+n) 0).toNat:Nat):Int):=by rw[am]; omega
  rw[wx];obtain⟨x,hxe⟩:∃ x,x=(b.getD (j+n) 0).toNat:=⟨_,rfl⟩
  rw[<- hxe]at s1 s2 ⊢;have hxl:x<4294967296:=by omega
  have wlb:IntKind.wrap .u64 ((y:Int)+(bo:Int))=((y+bo:Nat):Int):=by rw[am]; omega
  have wv:IntKind.wrap .u32 (IntKind.wrap .u64 ((x:Int) - ((y+bo:Nat):Int)))=((D / 4294967296 ^ n%4294967296:Nat):Int):=by rw[<- s1,am,dh]; omega
  rw[wlb,wv,BZ D (by omega)];have hdec:decide ((x:Int)<((y+bo:Nat):Int))=decide (U<Q):=by
   by_cases h1:U<Q
   ·rw[if_pos h1]at s2;rw[afO h1];refine afO ?_;split at s2 <;> omega
   ·rw[if_neg h1]at s2;rw[afP h1];refine afP ?_;split at s2 <;> omega
  rw[hdec]
theorem K8 {N:Nat} {j n ul D V:Nat} {b c:List Int} (hN:n<N) (hc:InW c) (hcl:n<=c.length) (hul:j+n<ul) (hbl:ul<=b.length) (hbs:b.length<=1099511627780) (hV:V=aD (c.take n)) (k:Kz9) :
  Pc N 0 ul 0 n (j:Int) (b.take j++(dl D (n+1)++b.drop (j+(n+1)))) c k=k (b.take j++(dl (D+V) (n+1)++b.drop (j+(n+1)))):=by
 (unfold Pc; rw[ac]; unfold MI)
 obtain⟨E,hE⟩:∃ E,E=D+V:=⟨_,rfl⟩
 rw[<- hE];refine aH (λi=>((((D%4294967296 ^ i+aD (c.take i)) / 4294967296 ^ i:Nat):Int),(i:Int),b.take j++(dl E i++((dl D (n+1)).drop i++b.drop (j+(n+1)))))) n ?_ (by omega) (λi hi K=>?_) (λK=>?_)
 ·simp[dl,aD,aiF]
 ·have hx:=hc.at (i:=i);have hcv:=aQ (m:=c) i;have hVl:=bv hc i;have hp:=aU i;have hml:=af4 D hp;obtain⟨cy,hcy⟩:∃ cy,cy=(D%4294967296 ^ i+aD (c.take i)) / 4294967296 ^ i:=⟨_,rfl⟩
  have hcl1:cy<=1:=by
   have:cy<2:=by rw[hcy,afY hp]; omega
   omega
  obtain⟨a1,a2⟩:=z_ (D:=D) (V:=aD (c.take i)) (v:=(c.getD i 0).toNat) hcy;obtain⟨R,hR⟩:=bW (c.take n) (i+1);rw[aiT,ahf (by omega),<- hV,hcv]at hR;have a3:=a2 R;rw[<- hR,<- hE]at a3;have hdl:D / 4294967296 ^ i%4294967296<4294967296:=af4 _ (by decide);have ei':Int.toNat ((j:Int)+(i:Int))=j+i:=by omega
  simp only[g_,afV,agl,ei'];rw[GW D E (by omega) (by omega),GV D E (by omega) (by omega)];have wy:IntKind.wrap .u64 (c.getD i 0)=(((c.getD i 0).toNat:Nat):Int):=by rw[am]; omega
  obtain⟨dg,hdg⟩:∃ dg,dg=D / 4294967296 ^ i%4294967296:=⟨_,rfl⟩
  rw[<- hdg]at a1 a3 hdl ⊢;have ws:IntKind.wrap .u64 (IntKind.wrap .u64 (IntKind.wrap .u64 (dg:Int)+(((c.getD i 0).toNat:Nat):Int))+(cy:Int))=((dg+(c.getD i 0).toNat+cy:Nat):Int):=by rw[am,am,am]; omega
  have wf:Int.fdiv ((dg+(c.getD i 0).toNat+cy:Nat):Int) (2 ^ 32)=(((D%4294967296 ^ (i+1)+aD (c.take (i+1))) / 4294967296 ^ (i+1):Nat):Int):=by rw[hcv,a1,kz]; rfl
  have w3:IntKind.wrap .u32 ((dg+(c.getD i 0).toNat+cy:Nat):Int)=((E / 4294967296 ^ i%4294967296:Nat):Int):=by rw[a3,dh]; rfl
  rw[afO (by omega:(i:Int)<(n:Int)),afR,aa afM,aa afN,aa (afO (by omega)),aa afN,aa (afO (by omega)),aa afM,aa afN,aa (afO (by omega)),aa afM,<- hcy,wy,ws,wf,w3,GX D E (by omega) (by omega),kI]
 ·have hp:=aU n;have hml:=af4 D hp;have hVl:V<4294967296 ^ n:=by rw[hV]; exact bv hc n
  obtain⟨cy,hcy⟩:∃ cy,cy=(D%4294967296 ^ n+V) / 4294967296 ^ n:=⟨_,rfl⟩
  have hcl1:cy<=1:=by
   have:cy<2:=by rw[hcy,afY hp]; omega
   omega
  obtain⟨a1,a3⟩:=EK (D:=D) (V:=V) (i:=n) hcy;rw[<- hE]at a3;have hdl:D / 4294967296 ^ n%4294967296<4294967296:=af4 _ (by decide);have ei':0+Int.toNat ((j:Int)+(n:Int))=j+n:=by omega
  simp only[g_];rw[afP (by omega:¬(n:Int)<(n:Int)),afQ,ei',GW D E (by omega) (by omega),GV D E (by omega) (by omega),<- hV,<- hcy];obtain⟨dg,hdg⟩:∃ dg,dg=D / 4294967296 ^ n%4294967296:=⟨_,rfl⟩
  rw[<- hdg]at a3 hdl ⊢;have w3:IntKind.wrap .u32 ((dg:Int)+IntKind.wrap .u32 (cy:Int))=((E / 4294967296 ^ n%4294967296:Nat):Int):=by rw[a3,dh,dh]; omega
  rw[aa afM,aa afN,aa (afO (by omega)),aa afN,aa (afO (by omega)),w3,GX D E (by omega) (by omega)];rw[agB (by rw[al]; omega),agD]
theorem Qv {P A B U3 V2 U V g:Nat} (hB:B<P) (hg:g*P<=V) (hU:U=A+P*U3) (hV:V=B+P*V2) (h:g*V2<=U3) (hV0:0<V):g<=U / V+1:=by
 have h1:g*B<=g*P:=afW _ (by omega);have h2:P*(g*V2)<=P*U3:=afW _ h;have h3:g*V=g*B+P*(g*V2):=by rw[hV,af6,agi g P]
 have h4:g*V<=U+V:=by omega
 have h5:=aif U hV0;have h6:g*V<(U / V+2)*V:=by rw[show U / V+2=U / V+1+1 by omega,ahm,afS (U / V+1)];omega
 have:=Nat.lt_of_mul_lt_mul_right h6;omega
theorem WI {V Y Z X U Q:Nat} (h1:V<Y) (h2:Y<=Z) (h3:X<=U) (h4:X=Q*4294967296) (h5:U<V*4294967296):Q<Z:=by omega
theorem P1 {P A B U V T u0 v0 v1:Nat} (hA:A<P) (hB:B<P) (hU:U=A+P*(u0+4294967296*T)) (hV:V=B+P*(v0+4294967296*v1)) (hv0:v0<4294967296) (hUV:U<V*4294967296):T<4294967296*v1+4294967296:=by
 have h1:V<P*(v0+4294967296*v1+1):=by rw[hV,ai7]; omega
 have h2:P*(v0+4294967296*v1+1)<=P*(4294967296*v1+4294967296):=afW _ (by omega);have h3:P*(4294967296*T)<=U:=by rw[hU,af6 P u0]; omega
 have h4:P*(4294967296*T)=P*T*4294967296:=by rw[afS 4294967296,af0]
 have h5:P*T<P*(4294967296*v1+4294967296):=WI h1 h2 h3 h4 hUV;exact ah9 h5
theorem KE {N:Nat} (hN:5<N) {a:List Int} {s:Int} {d:Nat} {dl':List Int} {X la:Nat} (hla:a.length=la) (hX:X<4294967296 ^ (la+1)) (h1:la<=(aj X).length) (hs:la<=1099511627000) (e0:Nat->List Int->Bool) :
  ai N (tH N a s d dl' e0) ((aj X).length,dl X (la+1))=e0 (la+1) (dl X (la+1)):=by
 have h2:(aj X).length<=la+1:=cu _ _ hX;have last:∀ K,tH N a s d dl' e0 (la+1,dl X (la+1)) K=e0 (la+1) (dl X (la+1)):=by intro K;simp only[tH];rw[hla,aa afM,afP (by omega),afQ]
 by_cases h:(aj X).length=la+1
 ·rw[h];exact aH (λi=>(la+1,dl X (la+1))) 0 rfl (by omega) (λi hi K=>by omega) last
 ·have hl:(aj X).length=la:=by omega
  rw[hl];refine aH (λi=>(la+i,dl X (la+1))) 1 rfl (by omega) (λi hi K=>?_) last;have:i=0:=by omega
  subst this;have e1:(dl X (la+1)).take la++[0]=dl X (la+1):=by
   rw[px X (by omega),dl];have:X / 4294967296 ^ la%4294967296=0:=by have:=jg X;rw[hl]at this;rw[agm this]
   rw[this]; rfl
  show tH N a s d dl' e0 (la,dl X (la+1)) K=K (la+1,dl X (la+1));simp only[tH];rw[hla,aa afM,afO (by omega),afR,aa (afO (by rw[al]; omega)),ahh,e1,al,aa (afO (by omega))]
theorem V8 {N:Nat} (hN:1180591620717411303424<=N) {n j ul V v1:Nat} {s:Int} {b ql:List Int} (hVlt:V<4294967296 ^ (n+2)) (hVge:4294967296 ^ (n+1)<=V) (hv1:v1=V / 4294967296 ^ (n+1)) (hv1lo:2147483648<=v1) (hv1hi:v1<4294967296) (hbw:InW b) (hblen:b.length=ul) (hjl:j+(n+2)<ul) (hls:ul<=1099511627700) (hjq:j<ql.length)
  (hUlt:aD ((b.drop j).take (n+2+1))<V*4294967296) (e0:List Int->List Int->Bool) (K:Int × List Int × List Int->Bool) :
  jR N s (n+2) ul ((n+2:Nat):Int) (v1:Int) (dl V (n+2+1)) e0 ((j:Int),b,ql) K
   = K ((j:Int) - 1,b.take j++(dl (aD ((b.drop j).take (n+2+1))%V) (n+2+1)++b.drop (j+(n+2+1))),ql.set j ((aD ((b.drop j).take (n+2+1)) / V:Nat):Int)):=by
 have hV0:0<V:=af9 (aU _) hVge;have hcv:aD ((dl V (n+2+1)).take (n+2))=V:=by rw[px V (by omega),qM,afZ hVlt]
 have hU3:=Xl (b.drop j) n;have hV2:=Xk (dl V (n+2+1)) n;rw[show n+3=n+2+1 by omega,kg,kg,kg]at hU3;rw[hcv]at hV2;have a0:=hbw.at (i:=j+n);have a1:=hbw.at (i:=j+(n+1));have a2:=hbw.at (i:=j+(n+2));have c0:=(jt V (n+2+1)).at (i:=n);obtain⟨u0,hu0⟩:∃ u,u=(b.getD (j+n) 0).toNat:=⟨_,rfl⟩
 obtain⟨u1,hu1⟩:∃ u,u=(b.getD (j+(n+1)) 0).toNat:=⟨_,rfl⟩
 obtain⟨u2,hu2⟩:∃ u,u=(b.getD (j+(n+2)) 0).toNat:=⟨_,rfl⟩
 obtain⟨v0,hv0⟩:∃ u,u=((dl V (n+2+1)).getD n 0).toNat:=⟨_,rfl⟩
 have q0:b.getD (j+n) 0=(u0:Int):=by omega
 have q1:b.getD (j+(n+1)) 0=(u1:Int):=by omega
 have q2:b.getD (j+(n+2)) 0=(u2:Int):=by omega
 have k0:(dl V (n+2+1)).getD n 0=(v0:Int):=by omega
 have k1:((dl V (n+2+1)).getD (n+1) 0).toNat=v1:=by rw[t_ V (by omega),afV,<- hv1,afZ hv1hi]
 rw[<- hu0,<- hu1,<- hu2]at hU3;rw[<- hv0,k1]at hV2;have hAb:=bv (hbw.drop j) n;have hBb:=bv (jt V (n+2+1)) n;have hwv:∃ U,U=aD ((b.drop j).take (n+2+1)):=⟨_,rfl⟩
 obtain⟨U,hwv⟩:=hwv;rw[<- hwv]at hU3 hUlt ⊢;have hT:=P1 hAb hBb hU3 hV2 (by omega) hUlt;have hdW:U / V<4294967296:=by rw[afY hV0,afS]; exact hUlt
 have hv1p:0<v1:=by omega
 obtain⟨T,hTe⟩:∃ T,T=u2*4294967296+u1:=⟨_,rfl⟩
 rw[<- hTe]at hU3 hT;have hg0:T / v1<=4294967298:=by
  have:T / v1<4294967299:=by rw[afY hv1p]; omega
  omega
 have hkb:U / V<=T / v1:=by rw[hTe]; rw[hTe]at hU3; exact Jh hAb hU3 hV2 hV0 hv1p (by omega)
 obtain⟨g,p1,p2,p3,p4⟩:=DJ (N:=N) (s5:=s) (ul:=ul) (j:=j) (n:=n+2) (u0:=u0) (v0:=v0) (v1:=v1) (T:=T) (d:=U / V) (b:=b) (c:=dl V (n+2+1)) (ql:=ql) (by omega) (by rw[show n+2 - 2=n by omega]; exact k0) (by rw[show j+(n+2) - 2=j+n by omega]; exact q0) (by rw[al]; omega) (by omega) (by omega) (by omega) (by omega) hv1hi (by omega) hT
  (λg hg=>DN hAb hU3 hV2 hV0 (by rw[ahK v0,afS 4294967296 v1]; omega)) hdW
  (T / v1) (T%v1) N (by omega) (by omega) (agM _ _) (ahD (af4 _ hv1p) hv1hi) hkb
 have hgd:g<=U / V+1:=Qv hBb (by have:g*4294967296 ^ n<=4294967296*4294967296 ^ n:=afT _ (Nat.le_of_lt p2);rw[<- Nat.pow_succ']at this;exact age this hVge) hU3 hV2 (by rw[ahK v0,afS 4294967296 v1]; omega) hV0
 have hless:=λkk=>K5 (N:=N) (j:=j) (n:=n+2) (ul:=ul) (g:=g) (U:=U) (V:=V) (b:=b) (c:=dl V (n+2+1)) (by omega) hbw (jt _ _) (by rw[al]; omega) (by omega) (by omega) (by omega) p2 hwv hcv.symm kk
 have jn:0+Int.toNat ((j:Int)+((n+2:Nat):Int))=j+(n+2):=by omega
 have jn1:0+Int.toNat ((j:Int)+((n+2:Nat):Int) - 1)=j+(n+1):=by omega
 have top0:(!decide ((v1:Int)=0))=true:=by simp; omega
 have wu2:IntKind.wrap .u64 (u2:Int)=(u2:Int):=by rw[am]; omega
 have hor:aB .or .u64 (IntKind.wrap .u64 ((u2:Int)*2 ^ 32)) (IntKind.wrap .u64 (u1:Int))=(T:Int):=by rw[Q2 (by omega) (by omega),hTe]
 have etd:IntKind.wrap .u64 (Int.tdiv (T:Int) (v1:Int))=((T / v1:Nat):Int):=by have:Int.tdiv (T:Int) (v1:Int)=((T / v1:Nat):Int):=rfl;rw[this,am];generalize T / v1=z at *;omega
 have etm:Int.tmod (T:Int) (v1:Int)=((T%v1:Nat):Int):=rfl;have hfin:dl (U+4294967296 ^ (n+2+1) - U / V*V) (n+2+1)=dl (U%V) (n+2+1):=by
  have e:U+4294967296 ^ (n+2+1) - (U / V)*V=U%V+4294967296 ^ (n+2+1)*1:=by have:=agM U V;omega
  rw[e,I8 _ _ _ (af1 _)]
 have hgV:g*V<4294967296 ^ (n+2+1):=by rw[af2,afS];exact agV hVlt p2
 simp only[jR,jn,jn1,q1,q2,wu2,hor,etd,etm];rw[afO (by omega:(j:Int)>=0),afR,aa afM,aa afN,aa (afO (by omega)),aa afM,aa afM,aa afN,aa (afO (by omega)),aa top0,aa top0,p4,hless];by_cases hlt:U<g*V
 ·have hge:g=U / V+1:=by
   have:U / V<g:=by
    rcases agP (U / V) g with h | h
    ·exact h
    ·have:=(ahx hV0).1 h; omega
   omega
  have hmore:=λkk=>K8 (N:=N) (j:=j) (n:=n+2) (ul:=ul) (D:=U+4294967296 ^ (n+2+1) - g*V) (V:=V) (b:=b) (c:=dl V (n+2+1)) (by omega) (jt _ _) (by rw[al]; omega) (by omega) (by omega) (by omega) hcv.symm kk
  have hD:U+4294967296 ^ (n+2+1) - g*V+V=U+4294967296 ^ (n+2+1) - U / V*V:=by
   have:g*V=U / V*V+V:=by rw[hge,ahm]
   omega
  have wg:IntKind.wrap .u32 (IntKind.wrap .u64 ((g:Int) - 1))=((U / V:Nat):Int):=by rw[hge];generalize U / V=z at *;rw[am,dh]; omega
  rw[afO hlt,afR,hmore,hD,hfin,aa afN,aa (afO (by omega)),aa afM,afV,wg]
 ·have hge:g=U / V:=by have:=(ahx hV0).2 (Nat.le_of_not_lt hlt);omega
  have wg:IntKind.wrap .u32 (g:Int)=((U / V:Nat):Int):=by rw[hge];generalize U / V=z at *;rw[dh]; omega
  rw[afP hlt,afQ,wg,hge,hfin,aa afN,aa (afO (by omega)),aa afM,afV]
theorem A_ {N:Nat} (hN:1180591620717411303424<=N) {x y:Nat} (hxy:y<=x) (hy2:2<=(aj y).length) (hxl:(aj x).length<=1099511627000) (k:Kz3) :
  xS N (aj x) (aj y) k=k (aj (x / y)) (aj (x%y)):=by
 have hy0:y ≠ 0:=by intro h; rw[h,aZ]at hy2; simp at hy2
 have hyx:=bS hxy;have hylt:=jg y;have hxlt:=jg x;have hylo:4294967296 ^ ((aj y).length - 1)<=y:=by
  rcases agP y (4294967296 ^ ((aj y).length - 1))with h | h
  ·have:=cu _ _ h; omega
  ·exact h
 (unfold xS; rw[ac]; unfold M9)
 rw[kn x y ⟨by omega,by omega⟩ ⟨by omega,by omega⟩];have hc:decide (dx x y<0)=false:=by unfold dx; rw[if_neg (by omega)]; split <;> rfl
 obtain⟨n,hn⟩:∃ n,(aj y).length=n+2:=⟨(aj y).length - 2,by omega⟩
 obtain⟨lx,hlx⟩:∃ lx,(aj x).length=lx:=⟨_,rfl⟩
 have htd:(aj y).getD (n+1) 0=((y / 4294967296 ^ (n+1):Nat):Int):=by rw[nw,afZ];rw[afY (aU _),afS,<- af2];rw[hn]at hylt; exact hylt
 rw[hn]at hylt hylo;rw[hlx]at hxlt;rw[show n+2 - 1=n+1 by omega]at hylo;obtain⟨t,ht⟩:∃ t,t=y / 4294967296 ^ (n+1):=⟨_,rfl⟩
 rw[<- ht]at htd;have htl:t<4294967296:=by rw[ht,afY (aU _),afS,<- af2]; exact hylt
 have ht0:t ≠ 0:=by have:=aie hylo (aU (n+1)); omega
 obtain⟨g1,g2,g3⟩:=LY ht0 htl;have ein:Int.toNat (((n+2:Nat):Int) - 1)=n+1:=by omega
 have e1':(((n+2:Nat):Int)==1)=false:=by simp; omega
 rw[hc,afQ,hn,e1',afQ,aa afM,aa afN,ein,htd,Oj N htl];obtain⟨s,hs⟩:∃ s,s=32 - bl t:=⟨_,rfl⟩
 rw[<- hs]at g1 g2 g3 ⊢;have hs0:0<2 ^ s:=af3 s;have ews:IntKind.wrap .u64 ((s:Nat):Int)=(s:Int):=by rw[am]; omega
 rw[ews];obtain⟨V,hV⟩:∃ V,V=y*2 ^ s:=⟨_,rfl⟩
 obtain⟨X,hX⟩:∃ X,X=x*2 ^ s:=⟨_,rfl⟩
 have hVlt:V<4294967296 ^ (n+2):=by
  have h1:=aif y (aU (n+1));rw[<- ht]at h1;have h2:y*2 ^ s<4294967296 ^ (n+1)*(t+1)*2 ^ s:=agE h1 hs0;have h3:(t+1)*2 ^ s<=4294967296:=by
   have hd:2 ^ s*2 ^ (32 - s)=4294967296:=by rw[<- af8,show s+(32 - s)=32 by omega]
   have h4:t<2 ^ (32 - s):=by rw[afS]at g3;rw[<- hd]at g3;exact ah9 g3
   rw[<- hd,afS];exact afW _ h4
  have h5:=afW (4294967296 ^ (n+1)) h3;rw[hV,show n+2=n+1+1 by omega,af2];rw[af0]at h2;omega
 have hVge:4294967296 ^ (n+1)<=V:=by rw[hV]; exact age hylo (agN _ hs0)
 have hVlen:(aj V).length=n+2:=QR hVge hVlt;have hV0:0<V:=af9 (aU _) hVge;have hx0:x ≠ 0:=by omega
 have hvt:V / 4294967296 ^ (n+1)=t*2 ^ s+y%4294967296 ^ (n+1)*2 ^ s / 4294967296 ^ (n+1):=by
  have h1:=agJ y (4294967296 ^ (n+1));rw[<- ht]at h1;have h2:V=y%4294967296 ^ (n+1)*2 ^ s+4294967296 ^ (n+1)*(t*2 ^ s):=by rw[hV,<- af0,<- agk]; congr 1; omega
  rw[h2,dS]; omega
 have hv1lo:2147483648<=V / 4294967296 ^ (n+1):=by rw[hvt]; exact age g2 (ah_ _ _)
 have hv1hi:V / 4294967296 ^ (n+1)<4294967296:=by rw[afY (aU _),afS,<- af2]; exact hVlt
 rw[sJ hy0 g1 (by omega) (by omega),hn,<- hV,hVlen,sJ hx0 g1 (by omega) (by omega),hlx,<- hX];have hs2:2 ^ s<=4294967296:=by rw[<- Eb]; exact af5 (by decide) (by omega)
 have hXlt:X<4294967296 ^ (lx+1):=by rw[hX,af2]; exact agz hxlt hs2 (by decide)
 have hXlen2:lx<=(aj X).length:=by rw[<- hlx,hX]; exact bS (agN _ hs0)
 rw[KE (by omega) hlx hXlt hXlen2 (by omega)];unfold qj;obtain⟨M,hM⟩:∃ M,lx+1=M+(n+2):=⟨lx+1 - (n+2),by omega⟩
 have eM:(((lx+1:Nat):Int) - ((n+2:Nat):Int))=(M:Int):=by omega
 have ein2:0+Int.toNat (((n+2:Nat):Int) - 1)=n+1:=by omega
 rw[eM,afV,aha,ein2,t_ V (by omega),afZ hv1hi];obtain⟨v1,hv1⟩:∃ v1,v1=V / 4294967296 ^ (n+1):=⟨_,rfl⟩
 rw[<- hv1]at hv1lo hv1hi ⊢;have wv1:IntKind.wrap .u64 (v1:Int)=(v1:Int):=by rw[am]; omega
 rw[wv1,aa afM,aa (bE (by omega) (by omega) (by omega) (by omega)),aa afM,aa afN,aa (afO (by rw[al]; omega)),aa afM];have hstart:dl X (lx+1)=dl X M++(dl (X / 4294967296 ^ M%V) (n+2)++List.replicate 0 0):=by
  have hXM:X / 4294967296 ^ M<V:=by
   rw[afY (aU M),hX,hV];have h1:x*2 ^ s<4294967296 ^ lx*2 ^ s:=agE hxlt hs0;have h2:4294967296 ^ lx=4294967296 ^ (n+1)*4294967296 ^ M:=by rw[<- af8]; congr 1; omega
   have h3:=afT (4294967296 ^ M*2 ^ s) hylo;rw[h2,af0]at h1;have e:y*2 ^ s*4294967296 ^ M=y*(4294967296 ^ M*2 ^ s):=by rw[af0,afS (2 ^ s)]
   rw[e]; omega
  rw[afZ hXM,agt,agp,<- CD,<- hM]
 rw[hstart];have hQlt:X / V<4294967296 ^ M:=by
  rw[afY hV0];have h1:x*2 ^ s<4294967296 ^ lx*2 ^ s:=agE hxlt hs0;have h2:4294967296 ^ lx=4294967296 ^ M*4294967296 ^ (n+1):=by rw[<- af8]; congr 1; omega
  have h3:=afW (4294967296 ^ M) (afT (2 ^ s) hylo);rw[hX,hV];rw[h2,af0]at h1;omega
 have hmk:M<=1099511627001:=by omega
 refine aH (λi=>((M:Int) - 1 - (i:Int),dl X (M - i)++(dl (X / 4294967296 ^ (M - i)%V) (n+2)++List.replicate i 0),List.replicate (M - i) (0:Int)++(dl (X / V) M).drop (M - i))) M ?_ (by omega) (λi hi K=>?_) (λK=>?_)
 ·rw[ahW,agB (by rw[al]; omega),agp];congr 1;omega
 ·obtain⟨j,hj⟩:∃ j,M - i=j+1:=⟨M - i - 1,by omega⟩
  have hj2:M - (i+1)=j:=by omega
  have ei:(M:Int) - 1 - (i:Int)=(j:Int):=by omega
  have ei2:(M:Int) - 1 - ((i+1:Nat):Int)=(j:Int) - 1:=by omega
  rw[hj,hj2,ei,ei2];obtain⟨A,hA⟩:∃ A,A=X / 4294967296 ^ j:=⟨_,rfl⟩
  have hA1:X / 4294967296 ^ (j+1)=A / 4294967296:=by rw[hA,af2,afX]
  obtain⟨n1,n2⟩:=BC (A:=A) hV0;obtain⟨R,hR⟩:∃ R,R=A / 4294967296%V:=⟨_,rfl⟩
  have hRV:R<V:=by rw[hR]; exact af4 _ hV0
  rw[hA1,<- hR];rw[<- hR]at n1 n2;obtain⟨b,hb⟩:∃ b,b=dl X (j+1)++(dl R (n+2)++List.replicate i 0):=⟨_,rfl⟩
  have hblen:b.length=lx+1:=by rw[hb]; simp[al]; omega
  have hbw:InW b:=by
   rw[hb];intro z hz;rcases List.mem_append.1 hz with h | h
   ·exact jt _ _ z h
   ·rcases List.mem_append.1 h with h | h
    ·exact jt _ _ z h
    ·have:=(List.mem_replicate.1 h).2; subst this; omega
  have hbt:b.take j=dl X j:=by rw[hb,agT (by rw[al]; omega),px X (by omega)]
  have hbd:b.drop j=((A%4294967296:Nat):Int)::(dl R (n+2)++List.replicate i 0):=by rw[hb,dl,af7,agS (by rw[al]; omega),agB (by rw[al]; omega),agD,hA];rfl
  have hwv:aD ((b.drop j).take (n+2+1))=R*4294967296+A%4294967296:=by rw[hbd,aiE,agT (by rw[al]; omega),agb (by rw[al]; omega),aD,qM,afZ (ahD hRV hVlt),afV];omega
  have hbd2:b.drop (j+(n+2+1))=List.replicate i 0:=by rw[<- List.drop_drop,hbd,List.drop_succ_cons,agS (by rw[al]; omega),agB (by rw[al]; omega),agD]
  have hcv:aD ((dl V (n+2+1)).take (n+2))=V:=by rw[px V (by omega),qM,afZ hVlt]
  have hAm:A%4294967296<4294967296:=af4 _ (by decide);have hUlt:R*4294967296+A%4294967296<V*4294967296:=by have:=afT 4294967296 hRV;rw[ahm]at this;omega
  have hnext:dl X j++(dl (A%V) (n+2+1)++List.replicate i 0)=dl X j++(dl (A%V) (n+2)++List.replicate (i+1) 0):=by rw[Fj (ahD (af4 A hV0) hVlt) 1,af7,agA];rfl
  have hdg:X / V / 4294967296 ^ j%4294967296=A / V%4294967296:=by rw[hA,afX,afX,afS V]
  have hql:(List.replicate (j+1) (0:Int)++(dl (X / V) M).drop (j+1)).length=M:=by simp[al]; omega
  have hstep:=V8 (s:=(s:Int)) (j:=j) (b:=b) (ul:=lx+1) (ql:=List.replicate (j+1) (0:Int)++(dl (X / V) M).drop (j+1)) hN hVlt hVge hv1 hv1lo hv1hi hbw hblen (by omega) (by omega) (by omega) (by rw[hwv]; exact hUlt);rw[<- hb,hstep,hwv,n1,n2,hbt,hbd2,hnext,<- hdg,Gk _ _ _ (by omega),<- hA]
 ·simp only[jR];have e0:(M:Int) - 1 - (M:Int) = -1:=by omega
  rw[e0,afP (by omega),afQ,agq,ahL,ahI,agt,agD,ahh];obtain⟨L,hL⟩:∃ L,L=dl X 0++(dl (X%V) (n+2)++List.replicate M 0):=⟨_,rfl⟩
  have hRlt:X%V<4294967296 ^ (n+2):=ahD (af4 _ hV0) hVlt;have hLt:L.take (n+2)=dl (X%V) (n+2):=by rw[hL,show dl X 0=[] from rfl,agD,agT (by rw[al]; omega),agb (by rw[al]; omega)]
  have hLw:InW L:=by
   rw[hL];intro z hz;rcases List.mem_append.1 hz with h | h
   ·cases h
   ·rcases List.mem_append.1 h with h | h
    ·exact jt _ _ z h
    ·have:=(List.mem_replicate.1 h).2; subst this; omega
  have hLlen:n+2<=L.length:=by rw[hL]; simp[al]
  have en:Int.toNat ((n+2:Nat):Int) - 0=n+2:=by omega
  rw[<- hL,lR _ (by rw[al]; omega) (by rw[al]; omega),en,aa (afO (by omega)),K1 L (n+2) hLlen (by omega) (by omega)];have hcl:=kf L (n+2);rw[DX L hLw (bM L (n+2)) s (by omega) g1 (by omega) (by omega),sw,hLt,qM,afZ hRlt,al,Al hQlt];have hQlen:=cu _ _ hQlt;rw[aa (afO (by omega)),ahh,px _ hQlen,P9,hX,hV,aiv _ _ hs0,aiw,ahy _ hs0]
theorem uk {N:Nat} (hN:1180591620717411303424<=N) {x y:Nat} (hy:0<y) (hxl:(aj x).length<=1099511627000) (hyl:(aj y).length<=1099511627000) (k:Kz3) :
  xS N (aj x) (aj y) k=k (aj (x / y)) (aj (x%y)):=by
 by_cases hxy:y<=x
 ·by_cases h2:2<=(aj y).length
  ·exact A_ hN hxy h2 hxl k
  ·have hylt:=jg y;have hl1:(aj y).length=1:=by rw[cj (by omega)]at h2 ⊢; simp at h2 ⊢; exact h2
   rw[hl1,aiN]at hylt;have hd:=tZ (by omega:y ≠ 0) hylt;have hc:decide (dx x y<0)=false:=by unfold dx; rw[if_neg (by omega)]; split <;> rfl
   (unfold xS; rw[ac]; unfold M9)
   rw[kn x y ⟨by omega,by omega⟩ ⟨by omega,by omega⟩,hc,afQ,hd];show cond (((1:Nat):Int)==1) _ _=_;rw[show(((1:Nat):Int)==1)=true from rfl,afR,aa (ah (by omega) (by simp))];show oY N (aj x) (y:Int) _=_;have hm:x%y<4294967296:=ahD (af4 _ hy) hylt;have hw:InW [((x%y:Nat):Int)]:=by intro z hz;simp only[ahc,ahS,or_false]at hz;subst hz; omega
   have hv:aD [((x%y:Nat):Int)]=x%y:=by simp only[aD]; omega
   have hct:=dj (N:=N) [((x%y:Nat):Int)] hw (by simp; omega) (by simp) (λz=>k (aj (x / y)) z);rw[hv]at hct;rw[H8 hy hylt ⟨by omega,by omega⟩];exact hct
 ·have hc:decide (dx x y<0)=true:=by unfold dx; rw[if_pos (by omega)]; rfl
  (unfold xS; rw[ac]; unfold M9)
  rw[kn x y ⟨by omega,by omega⟩ ⟨by omega,by omega⟩,hc,afR,agD,aa (afO (by omega)),agm (by omega),afZ (by omega),aZ]
theorem FT {N V f:Nat} (hf:f<4294967296000) (hN:20<N) (hs:fK N (aj V)) (hf2:f<4294967296\/True) (hlt:V / 2 ^ f<18446744073709551616) (hr:∀ kk,Ci N (aj V) (f:Int) kk=kk (aj (V / 2 ^ f))) (k:Kz5):q7 N (aj V) (f:Int) k=k ((V / 2 ^ f:Nat):Int):=by
 (unfold q7; rw[ac]; unfold uZ)
 have wf:IntKind.wrap .u64 (f:Int)=(f:Int):=by rw[am]; omega
 rw[wf,hr];obtain⟨Y,hY⟩:∃ Y,Y=V / 2 ^ f:=⟨_,rfl⟩
 rw[<- hY]at hlt ⊢;have hl2:(aj Y).length<=2:=cu 2 Y (by
  have:(4294967296:Nat) ^ 2=18446744073709551616:=by decide
  omega)
 have hYl:=jg Y;obtain⟨L,hL⟩:∃ L,(aj Y).length=L:=⟨_,rfl⟩
 rw[hL]at hl2 hYl ⊢;rw[aa afM];refine aH (λi=>(((Y / 4294967296 ^ (L - i):Nat):Int),(L:Int) - 1 - (i:Int))) L ?_ (by omega) (λi hi K=>?_) (λK=>?_)
 ·rw[ahW,agm hYl]; simp
 ·obtain⟨m,hm⟩:∃ m,L - i=m+1:=⟨L - i - 1,by omega⟩
  have hm2:L - (i+1)=m:=by omega
  have ei:(L:Int) - 1 - (i:Int)=(m:Int):=by omega
  have ei2:(L:Int) - 1 - ((i+1:Nat):Int)=(m:Int) - 1:=by omega
  rw[hm,hm2,ei,ei2];have hp:Y / 4294967296 ^ (m+1)=Y / 4294967296 ^ m / 4294967296:=by rw[af2,afX]
  have hle:=aho Y (4294967296 ^ m);simp only[ml,afV];rw[afO (by omega:(m:Int)>=0),afR,hL,aa afN,aa afM,nw,hp];generalize Y / 4294967296 ^ m=Z at *;rw[Q2 (by omega) (by omega)];congr 2;omega
 ·simp only[ml];have e0:(L:Int) - 1 - (L:Int) = -1:=by omega
  rw[e0,afP (by omega),afQ,agq,ahL,ahI]
def sgn (neg:Bool) (n:Nat):Int:=cond neg (-(n:Int)) (n:Int)
theorem cD (n:Nat):sgn true n = -(n:Int):=rfl
theorem cY (n:Nat):sgn false n=(n:Int):=rfl
def Cp (x0 y0 a b c d:Nat) (odd:Bool):Prop:=
 ∃ p q,x0=d*p+b*q/\y0=c*p+a*q/\(cond odd (b*c=a*d+1) (a*d=b*c+1))/\(cond odd (d<=q/\q+a+c<=p) (c<=q/\q+b+d<=p))/\1<=b/\1<=c/\1<=d/\a<=1073741824/\b<=1073741824/\c<=1073741824/\d<=1073741824
theorem GR {N:Nat} {x0 y0:Nat} (hx0:x0<4611686018427387904) (hy0:y0<4611686018427387904) :
  ∀ q p a b c d odd M,q<M->x0=d*p+b*q->y0=c*p+a*q->(cond odd (b*c=a*d+1) (a*d=b*c+1)) ->
   a<=1073741824->b<=1073741824->c<=1073741824->d<=1073741824->1<=d->p<=x0 ->
   ((odd=false/\a=1/\b=0/\c=0/\d=1/\q<=p)\/(1<=b/\1<=c/\(cond odd (d<=q/\q+a+c<p) (c<=q/\q+b+d<p)))) ->
   ∃ a' b' c' d':Nat,∃ odd',(b'=0/\odd'=false\/Cp x0 y0 a' b' c' d' odd') /\ ∀ e0,ai M (pV N e0) (sgn odd a,sgn (!odd) b,sgn (!odd) c,sgn odd d,(p:Int),(q:Int))=e0 (sgn odd' a') (sgn (!odd') b') (sgn (!odd') c') (sgn odd' d'):=by
 intro q;induction q using Nat.strongRecOn with
 | ind q ih=>
 intro p a b c d odd M hM h1 h2 hdet ha hb hc hd hd1 hp hor;obtain⟨M,rfl⟩:∃ m,M=m+1:=⟨M - 1,by omega⟩
 have hgood:b=0/\odd=false\/Cp x0 y0 a b c d odd:=by
  rcases hor with h | ⟨k1,k2,k3⟩
  ·exact .inl ⟨h.2.2.1,h.1⟩
  ·refine .inr ⟨p,q,h1,h2,hdet,?_,k1,k2,hd1,ha,hb,hc,hd⟩;cases odd
   ·simp only[afQ]at k3 ⊢; omega
   ·simp only[afR]at k3 ⊢; omega
 have stop:∀(P:(Int->Int->Int->Int->Bool)->Bool),(∀ e0,P e0=e0 (sgn odd a) (sgn (!odd) b) (sgn (!odd) c) (sgn odd d)) -> ∃ a' b' c' d':Nat,∃ odd',(b'=0/\odd'=false\/Cp x0 y0 a' b' c' d' odd') /\ ∀ e0,P e0=e0 (sgn odd' a') (sgn (!odd') b') (sgn (!odd') c') (sgn odd' d'):=
  λP hP=>⟨a,b,c,d,odd,hgood,hP⟩
 have hpq:p*1<=d*p:=by rw[afS d]; exact afW _ hd1
 have hcp:c*p<=y0:=by omega
 have hdp:d*p<=x0:=by omega
 have hql:q<=p:=by
  rcases hor with h | ⟨k1,k2,k3⟩
  ·exact h.2.2.2.2.2
  ·cases odd
   ·simp only[afQ]at k3; omega
   ·simp only[afR]at k3; omega
 obtain⟨u1,hu1⟩:∃ u1:Nat,(q:Int)+sgn (!odd) c=(u1:Int):=by
  rcases hor with h | ⟨k1,k2,k3⟩
  ·obtain⟨e1,e2,e3,e4,e5,e6⟩:=h;subst e1 e4; exact⟨q,by simp[sgn]⟩
  ·cases odd
   ·simp only[afQ]at k3;exact⟨q - c,by simp only[agw,cD]; omega⟩
   ·exact⟨q+c,by simp only[agH,cY]; omega⟩
 obtain⟨u2,hu2⟩:∃ u2:Nat,(q:Int)+sgn odd d=(u2:Int):=by
  rcases hor with h | ⟨k1,k2,k3⟩
  ·obtain⟨e1,e2,e3,e4,e5,e6⟩:=h;subst e1; exact⟨q+d,by simp only[cY]; omega⟩
  ·cases odd
   ·exact⟨q+d,by simp only[cY]; omega⟩
   ·simp only[afR]at k3;exact⟨q - d,by simp only[cD]; omega⟩
 obtain⟨t1,ht1⟩:∃ t1:Nat,(p:Int)+sgn odd a=(t1:Int):=by
  rcases hor with h | ⟨k1,k2,k3⟩
  ·obtain⟨e1,e2,e3,e4,e5,e6⟩:=h;subst e1; exact⟨p+a,by simp only[cY]; omega⟩
  ·cases odd
   ·exact⟨p+a,by simp only[cY]; omega⟩
   ·simp only[afR]at k3;exact⟨p - a,by simp only[cD]; omega⟩
 obtain⟨t2,ht2⟩:∃ t2:Nat,(p:Int)+sgn (!odd) b=(t2:Int):=by
  rcases hor with h | ⟨k1,k2,k3⟩
  ·obtain⟨e1,e2,e3,e4,e5,e6⟩:=h;subst e1 e3; exact⟨p,by simp[sgn]⟩
  ·cases odd
   ·simp only[afQ]at k3;exact⟨p - b,by simp only[agw,cD]; omega⟩
   ·exact⟨p+b,by simp only[agH,cY]; omega⟩
 have t1b:t1<=p+a:=by cases odd <;> simp only[cD,cY]at ht1 <;> omega
 have t2b:t2<=p+b:=by cases odd <;> simp only[agH,agw,cD,cY]at ht2 <;> omega
 have u1b:u1<=q+c:=by cases odd <;> simp only[agH,agw,cD,cY]at hu1 <;> omega
 have u2b:u2<=q+d:=by cases odd <;> simp only[cD,cY]at hu2 <;> omega
 by_cases c1:u1=0
 ·refine stop _ λe0=>?_
  show pV N e0 _ (ai M _)=_;simp only[pV,hu1];have:(((u1:Nat):Int) != 0)=false:=by simp; omega
  rw[aa afM,this,show(false==true)=false from rfl,afQ]
 have n1:(((u1:Nat):Int) != 0)=true:=by simp; omega
 have m1:(!decide ((u1:Int)=0))=true:=by simp; omega
 by_cases c2:u2=0
 ·refine stop _ λe0=>?_
  show pV N e0 _ (ai M _)=_;simp only[pV,hu1,hu2];have:(((u2:Nat):Int) != 0)=false:=by simp; omega
  rw[aa afM,n1,show(true==true)=true from rfl,afR,aa afM,this,afQ]
 have n2:(((u2:Nat):Int) != 0)=true:=by simp; omega
 have m2:(!decide ((u2:Int)=0))=true:=by simp; omega
 obtain⟨k1,hk1⟩:∃ k1,k1=t1 / u1:=⟨_,rfl⟩
 obtain⟨k2,hk2⟩:∃ k2,k2=t2 / u2:=⟨_,rfl⟩
 have k1b:k1<=t1:=by rw[hk1]; exact aho _ _
 have k2b:k2<=t2:=by rw[hk2]; exact aho _ _
 have d1:Int.tdiv (t1:Int) (u1:Int)=(k1:Int):=by rw[hk1]; rfl
 have d2:Int.tdiv (t2:Int) (u2:Int)=(k2:Int):=by rw[hk2]; rfl
 by_cases c3:k1=k2
 ·obtain⟨n,hn⟩:∃ n,n=k1:=⟨_,rfl⟩
  have hn2:n=k2:=by omega
  obtain⟨r1,hr1⟩:∃ r1,r1=t1%u1:=⟨_,rfl⟩
  obtain⟨r2,hr2⟩:∃ r2,r2=t2%u2:=⟨_,rfl⟩
  have E1:t1=n*u1+r1:=by rw[hn,hk1,hr1]; exact(agM t1 u1).symm
  have E2:t2=n*u2+r2:=by rw[hn2,hk2,hr2]; exact(agM t2 u2).symm
  have hr1l:r1<u1:=by rw[hr1]; exact af4 _ (by omega)
  have hr2l:r2<u2:=by rw[hr2]; exact af4 _ (by omega)
  have bnc:n*c<=4611686018427387904+1152921504606846976:=by
   have s1:n*c<=(p+a)*c:=afT _ (by omega);have s2:(p+a)*c=c*p+a*c:=by rw[agk,afS p]
   have s3:a*c<=1073741824*1073741824:=agG ha hc;omega
  have bnd:n*d<=4611686018427387904+1152921504606846976:=by
   have s1:n*d<=(p+b)*d:=afT _ (by omega);have s2:(p+b)*d=d*p+b*d:=by rw[agk,afS p]
   have s3:b*d<=1073741824*1073741824:=agG hb hd;omega
  have icn:(n:Int)*sgn (!odd) c=sgn (!odd) (n*c):=by cases odd <;> simp only[agH,agw,cD,cY,aga,aiJ]
  have idn:(n:Int)*sgn odd d=sgn odd (n*d):=by cases odd <;> simp only[cD,cY,aga,aiJ]
  have e2:sgn odd a - sgn (!odd) (n*c)=sgn odd (a+n*c):=by cases odd <;> simp only[agH,agw,cD,cY] <;> omega
  have f2:sgn (!odd) b - sgn odd (n*d)=sgn (!odd) (b+n*d):=by cases odd <;> simp only[agH,agw,cD,cY] <;> omega
  have hnq:n*q<=p/\(cond odd (p - n*q+b+n*d=r2/\p - n*q=r1+a+n*c) (p - n*q+a+n*c=r1/\p - n*q=r2+b+n*d)):=by
   cases odd with
   | false=>
    simp only[agw,cD,cY]at hu1 hu2 ht1 ht2;simp only[afQ];have w2:u2=q+d:=by omega
    have w3:t2+b=p:=by omega
    have w1:u1+c=q:=by omega
    have w4:t1=p+a:=by omega
    have z1:n*u2=n*q+n*d:=by rw[w2,af6]
    have z2:n*q=n*u1+n*c:=by rw[<- w1,af6]
    omega
   | true=>
    simp only[agH,cD,cY]at hu1 hu2 ht1 ht2;simp only[afR];have w2:u2+d=q:=by omega
    have w3:t2=p+b:=by omega
    have w1:u1=q+c:=by omega
    have w4:t1+a=p:=by omega
    have z1:n*q=n*u2+n*d:=by rw[<- w2,af6]
    have z2:n*u1=n*q+n*c:=by rw[w1,af6]
    omega
  obtain⟨hnq,hnext⟩:=hnq;have inq:(n:Int)*(q:Int)=((n*q:Nat):Int):=(aga _ _).symm;have ipq:(p:Int) - ((n*q:Nat):Int)=((p - n*q:Nat):Int):=by omega
  have fbd1 : -9223372036854775808<=sgn (!odd) (n*c)/\sgn (!odd) (n*c)<=9223372036854775807:=by cases odd <;> simp only[agH,agw,cD,cY] <;> omega
  have fbd2 : -9223372036854775808<=sgn odd (a+n*c)/\sgn odd (a+n*c)<=9223372036854775807:=by cases odd <;> simp only[cD,cY] <;> omega
  have fbd3 : -9223372036854775808<=sgn odd (n*d)/\sgn odd (n*d)<=9223372036854775807:=by cases odd <;> simp only[cD,cY] <;> omega
  have fbd4 : -9223372036854775808<=sgn (!odd) (b+n*d)/\sgn (!odd) (b+n*d)<=9223372036854775807:=by cases odd <;> simp only[agH,agw,cD,cY] <;> omega
  have ne3:(((k1:Nat):Int) != ((k2:Nat):Int))=false:=by simp[c3]
  have body:∀ e0,ai (M+1) (pV N e0) (sgn odd a,sgn (!odd) b,sgn (!odd) c,sgn odd d,(p:Int),(q:Int)) =
    cond ((decide (sgn odd (a+n*c)>1073741824))==false) (cond ((decide (sgn odd (a+n*c)<(-1073741824)))==false) (cond ((decide (sgn (!odd) (b+n*d)>1073741824))==false) (cond (decide (sgn (!odd) (b+n*d)<(-1073741824))) (e0 (sgn odd a) (sgn (!odd) b) (sgn (!odd) c) (sgn odd d)) (ai M (pV N e0) (sgn (!odd) c,sgn odd d,sgn odd (a+n*c),sgn (!odd) (b+n*d),(q:Int),((p - n*q:Nat):Int)))) (e0 (sgn odd a) (sgn (!odd) b) (sgn (!odd) c) (sgn odd d))) (e0 (sgn odd a) (sgn (!odd) b) (sgn (!odd) c) (sgn odd d))) (e0 (sgn odd a) (sgn (!odd) b) (sgn (!odd) c) (sgn odd d)):=by
   intro e0;show pV N e0 _ (ai M _)=_;simp only[pV,hu1,hu2,ht1,ht2,d1,d2,ne3,afQ];rw[<- hn];simp only[icn,idn,e2,f2,inq,ipq];rw[aa afM,n1,show(true==true)=true from rfl,afR,aa afM,n2,afR,aa afM,aa afM,aa m1,aa afM,aa afM,aa afM,aa m2,aa afM,aa (ab fbd1.1 fbd1.2),aa (ab fbd2.1 fbd2.2),aa (ab fbd3.1 fbd3.2),aa (ab fbd4.1 fbd4.2),aa afM,aa afM]
  by_cases c4:a+n*c<=1073741824
  ·by_cases c5:b+n*d<=1073741824
   ·have q1:decide (sgn odd (a+n*c)>1073741824)=false:=afP (by cases odd <;> simp only[cD,cY] <;> omega);have q2:decide (sgn odd (a+n*c)<(-1073741824))=false:=afP (by cases odd <;> simp only[cD,cY] <;> omega);have q3:decide (sgn (!odd) (b+n*d)>1073741824)=false:=afP (by cases odd <;> simp only[agH,agw,cD,cY] <;> omega);have q4:decide (sgn (!odd) (b+n*d)<(-1073741824))=false:=afP (by cases odd <;> simp only[agH,agw,cD,cY] <;> omega);have hn1:1<=n:=by
     rw[hn,hk1];refine aie ?_ (by omega);rcases hor with h | ⟨g1,g2,g3⟩
     ·obtain⟨z1,z2,z3,z4,z5,z6⟩:=h;subst z1 z2 z4;simp only[agw,cD,cY]at hu1 ht1;omega
     ·cases odd
      ·simp only[afQ]at g3;simp only[agw,cD,cY]at hu1 ht1;omega
      ·simp only[afR]at g3;simp only[agH,cD,cY]at hu1 ht1;omega
    have hq0:1<=q\/q=0:=by omega
    have hlt:p - n*q<q:=by
     have s1:1*d<=n*d:=afT _ hn1;have s2:1*c<=n*c:=afT _ hn1;cases odd with
     | false=>
      simp only[afQ]at hnext;simp only[agw,cD]at hu1;omega
     | true=>
      simp only[afR]at hnext;simp only[cD]at hu2;omega
    obtain⟨a',b',c',d',odd',g1,g2⟩:=ih (p - n*q) hlt q c d (a+n*c) (b+n*d) (!odd) M (by omega)
     (by
      have s1:(b+n*d)*q=b*q+d*(n*q):=by grind
      have s2:d*(p - n*q)+d*(n*q)=d*p:=by rw[<- af6]; congr 1; omega
      omega)
     (by
      have s1:(a+n*c)*q=a*q+c*(n*q):=by grind
      have s2:c*(p - n*q)+c*(n*q)=c*p:=by rw[<- af6]; congr 1; omega
      omega)
     (by
      have s1:d*(a+n*c)=a*d+n*(c*d):=by grind
      have s2:c*(b+n*d)=b*c+n*(c*d):=by grind
      cases odd with
      | false=>simp only[agw,afR,afQ]at hdet ⊢; omega
      | true=>simp only[agH,afR,afQ]at hdet ⊢; omega)
     hc hd c4 c5 (by have s1:1*d<=n*d:=afT _ hn1;omega) (by omega)
     (.inr ⟨hd1,(by
      rcases hor with h | ⟨z1,z2,z3⟩
      ·omega
      ·have s2:1*c<=n*c:=afT _ hn1;omega),by
      cases odd with
      | false=>
       simp only[afQ]at hnext;simp only[agw,cD,cY,afR]at hu1 hu2 ⊢;omega
      | true=>
       simp only[afR]at hnext;simp only[agH,cD,cY,afQ]at hu1 hu2 ⊢;omega⟩)
    refine⟨a',b',c',d',odd',g1,λe0=>?_⟩;have:=g2 e0;rw[Bool.not_not]at this;rw[body,q1,q2,q3,q4];exact this
   ·refine stop _ λe0=>?_
    rw[body];cases odd with
    | false=>
     have q1:decide (sgn false (a+n*c)>1073741824)=false:=afP (by simp only[cY]; omega);have q2:decide (sgn false (a+n*c)<(-1073741824))=false:=afP (by simp only[cY]; omega);have q3:decide (sgn (!false) (b+n*d)>1073741824)=false:=afP (by simp only[agw,cD]; omega);have q4:decide (sgn (!false) (b+n*d)<(-1073741824))=true:=afO (by simp only[agw,cD]; omega);rw[q1,q2,q3,q4];rfl
    | true=>
     have q1:decide (sgn true (a+n*c)>1073741824)=false:=afP (by simp only[cD]; omega);have q2:decide (sgn true (a+n*c)<(-1073741824))=false:=afP (by simp only[cD]; omega);have q3:decide (sgn (!true) (b+n*d)>1073741824)=true:=afO (by simp only[agH,cY]; omega);rw[q1,q2,q3];rfl
  ·refine stop _ λe0=>?_
   rw[body];cases odd with
   | false=>
    have q1:decide (sgn false (a+n*c)>1073741824)=true:=afO (by simp only[cY]; omega);rw[q1];rfl
   | true=>
    have q1:decide (sgn true (a+n*c)>1073741824)=false:=afP (by simp only[cD]; omega);have q2:decide (sgn true (a+n*c)<(-1073741824))=true:=afO (by simp only[cD]; omega);rw[q1,q2];rfl
 ·refine stop _ λe0=>?_
  show pV N e0 _ (ai M _)=_;simp only[pV,hu1,hu2,ht1,ht2,d1,d2];have:(((k1:Nat):Int) != ((k2:Nat):Int))=true:=by simp; omega
  rw[aa afM,n1,show(true==true)=true from rfl,afR,aa afM,n2,afR,aa afM,aa afM,aa m1,aa afM,aa afM,aa afM,aa m2,aa afM,this,afR]
theorem H9 {N:Nat} (hN:1180591620717411303424<=N) {x0 y0:Nat} (hx0:x0<4611686018427387904) (hyx:y0<=x0):∃ a b c d:Nat,∃ odd,(b=0/\odd=false\/Cp x0 y0 a b c d odd) /\ ∀ k,tn N (x0:Int) (y0:Int) k=k (sgn odd a) (sgn (!odd) b) (sgn (!odd) c) (sgn odd d):=by
 obtain⟨a,b,c,d,odd,h1,h2⟩:=GR (N:=N) (x0:=x0) (y0:=y0) hx0 (by omega) y0 x0 1 0 0 1 false N (by omega) (by omega) (by omega) rfl (by omega) (by omega) (by omega) (by omega) (by omega) (by omega) (.inl ⟨rfl,rfl,rfl,rfl,rfl,hyx⟩);refine⟨a,b,c,d,odd,h1,λk=>?_⟩
 (unfold tn; rw[ac]; unfold rZ)
 rw[aa afM,aa afM];exact h2 _
theorem Qs {a b c d X Y:Nat} (hdet:b*c=a*d+1) (g1:a*X<=b*Y) (g2:d*Y<=c*X):X=d*(b*Y - a*X)+b*(c*X - d*Y)/\Y=c*(b*Y - a*X)+a*(c*X - d*Y):=by
 obtain⟨U,hU⟩:=ahv g1;obtain⟨V,hV⟩:=ahv g2;rw[<- hU,<- hV,agu,agu];constructor
 ·have t1:d*(b*Y)=d*(a*X)+d*U:=by rw[<- hU,af6]
  have t2:b*(c*X)=b*(d*Y)+b*V:=by rw[<- hV,af6]
  have t3:b*(c*X)=(a*d+1)*X:=by rw[<- hdet,af0]
  have t4:(a*d+1)*X=d*(a*X)+X:=by grind
  have t5:d*(b*Y)=b*(d*Y):=by grind
  omega
 ·have t1:c*(b*Y)=c*(a*X)+c*U:=by rw[<- hU,af6]
  have t2:a*(c*X)=a*(d*Y)+a*V:=by rw[<- hV,af6]
  have t3:c*(b*Y)=(a*d+1)*Y:=by rw[<- hdet]; grind
  have t4:(a*d+1)*Y=a*(d*Y)+Y:=by grind
  have t5:c*(a*X)=a*(c*X):=by grind
  omega
theorem Ha {x0 y0 a b c d F rx ry X Y:Nat} (h:Cp x0 y0 a b c d true) (hrx:rx<F) (hry:ry<F) (hX:X=x0*F+rx) (hY:Y=y0*F+ry) :
  a*X<=b*Y/\d*Y<=c*X/\c*X - d*Y<=b*Y - a*X/\X=d*(b*Y - a*X)+b*(c*X - d*Y)/\Y=c*(b*Y - a*X)+a*(c*X - d*Y):=by
 obtain⟨p,q,h1,h2,hdet,hin,hb1,hc1,hd1,hal,hbl,hcl,hdl⟩:=h;simp only[afR]at hdet hin;obtain⟨hdq,hpq⟩:=hin;have e1:b*Y+a*rx=a*X+(p*F+b*ry):=by
  subst h1 h2 hX hY;have:b*(c*p*F)=(a*d+1)*(p*F):=by rw[<- hdet]; grind
  grind
 have e2:c*X+d*ry=d*Y+(q*F+c*rx):=by
  subst h1 h2 hX hY;have:b*c*(q*F)=(a*d+1)*(q*F):=by rw[<- hdet]
  grind
 have m1:a*rx<=a*F:=afW _ (by omega);have m3:d*ry<=d*F:=afW _ (by omega);have m4:d*F<=q*F:=afT _ hdq;have m5:(q+a+c)*F<=p*F:=afT _ hpq;rw[agk,agk]at m5;have m6:c*rx<=c*F:=afW _ (by omega);have g1:a*X<=b*Y:=by omega
 have g2:d*Y<=c*X:=by omega
 obtain⟨i1,i2⟩:=Qs hdet g1 g2;exact⟨g1,g2,by omega,i1,i2⟩
theorem EM {x0 y0 a b c d F rx ry X Y:Nat} (h:Cp x0 y0 a b c d false) (hrx:rx<F) (hry:ry<F) (hX:X=x0*F+rx) (hY:Y=y0*F+ry) :
  b*Y<=a*X/\c*X<=d*Y/\d*Y - c*X<=a*X - b*Y/\X=d*(a*X - b*Y)+b*(d*Y - c*X)/\Y=c*(a*X - b*Y)+a*(d*Y - c*X):=by
 obtain⟨p,q,h1,h2,hdet,hin,hb1,hc1,hd1,hal,hbl,hcl,hdl⟩:=h;simp only[afQ]at hdet hin;obtain⟨hdq,hpq⟩:=hin;have e1:a*X+b*ry=b*Y+(p*F+a*rx):=by
  subst h1 h2 hX hY;have:a*d*(p*F)=(b*c+1)*(p*F):=by rw[<- hdet]
  grind
 have e2:d*Y+c*rx=c*X+(q*F+d*ry):=by
  subst h1 h2 hX hY;have:a*d*(q*F)=(b*c+1)*(q*F):=by rw[<- hdet]
  grind
 have m1:b*ry<=b*F:=afW _ (by omega);have m3:c*rx<=c*F:=afW _ (by omega);have m4:c*F<=q*F:=afT _ hdq;have m5:(q+b+d)*F<=p*F:=afT _ hpq;rw[agk,agk]at m5;have m6:d*ry<=d*F:=afW _ (by omega);have g1:b*Y<=a*X:=by omega
 have g2:c*X<=d*Y:=by omega
 refine⟨g1,g2,by omega,?_,?_⟩
 ·obtain⟨U,hU⟩:=ahv g1;obtain⟨V,hV⟩:=ahv g2;rw[<- hU,<- hV,agu,agu];have t1:d*(a*X)=d*(b*Y)+d*U:=by rw[<- hU,af6]
  have t2:b*(d*Y)=b*(c*X)+b*V:=by rw[<- hV,af6]
  have t3:d*(a*X)=(b*c+1)*X:=by rw[<- hdet]; grind
  have t4:(b*c+1)*X=b*(c*X)+X:=by grind
  have t5:d*(b*Y)=b*(d*Y):=by grind
  omega
 ·obtain⟨U,hU⟩:=ahv g1;obtain⟨V,hV⟩:=ahv g2;rw[<- hU,<- hV,agu,agu];have t1:c*(a*X)=c*(b*Y)+c*U:=by rw[<- hU,af6]
  have t2:a*(d*Y)=a*(c*X)+a*V:=by rw[<- hV,af6]
  have t3:a*(d*Y)=(b*c+1)*Y:=by rw[<- hdet]; grind
  have t4:(b*c+1)*Y=c*(b*Y)+Y:=by grind
  have t5:c*(a*X)=a*(c*X):=by grind
  omega
theorem Bc {N X Y u v:Nat} (hN:1180591620717411303424<=N) (sX:(aj X).length<=1099511627000) (sY:(aj Y).length<=1099511627000) (hu:u<=1073741824) (hv:v<=1073741824) (hle:v*Y<=u*X) (k:Kz9) :
  JQ N (aj X) (u:Int) (aj Y) (v:Int) k=k (aj (u*X - v*Y)):=by
 (unfold JQ; rw[ac]; unfold M5)
 have lu:=cu 1 u (by rw[aiN]; omega);have lv:=cu 1 v (by rw[aiN]; omega);have lX:=cu ((aj X).length+1) (X*u) (by rw[af2]; exact agV (jg X) (by omega))
 rw[un u (by omega) (by omega),xM _ _ (bf _) (bf _) (by omega) (by omega),un v (by omega) (by omega),xM _ _ (bf _) (bf _) (by omega) (by omega),aL,aL,aL,aL,
  xJ _ _ (bf _) (bf _) (by rw[aL,aL,afS X,afS Y]; exact hle) ⟨by omega,by omega⟩,aL,aL,afS X,afS Y]
theorem yN {N X Y u v:Nat} (hN:1180591620717411303424<=N) (sX:(aj X).length<=1099511627000) (sY:(aj Y).length<=1099511627000) (hu:u<=1073741824) (hv:v<=1073741824) (hle:v*Y<=u*X) (k:Kz9) :
  nH N (aj X) (u:Int) (aj Y) (-(v:Int)) k=k (aj (u*X - v*Y)):=by
 (unfold nH; rw[ac]; unfold tQ)
 have w1:IntKind.wrap .u64 (u:Int)=(u:Int):=by rw[am]; omega
 have w2:IntKind.wrap .u64 (0 - -(v:Int))=(v:Int):=by rw[am]; omega
 rw[afO (by omega : -(v:Int)<=0),afR,aa afM,w1,w2,Bc hN sX sY hu hv hle]
theorem yM {N X Y u v:Nat} (hN:1180591620717411303424<=N) (sX:(aj X).length<=1099511627000) (sY:(aj Y).length<=1099511627000) (hu:u<=1073741824) (hv:v<=1073741824) (hv1:1<=v) (hle:u*X<=v*Y) (k:Kz9) :
  nH N (aj X) (-(u:Int)) (aj Y) (v:Int) k=k (aj (v*Y - u*X)):=by
 (unfold nH; rw[ac]; unfold tQ)
 have w1:IntKind.wrap .u64 (v:Int)=(v:Int):=by rw[am]; omega
 have w2:IntKind.wrap .u64 (0 - -(u:Int))=(u:Int):=by rw[am]; omega
 rw[afP (by omega:¬(v:Int)<=0),afQ,aa afM,w1,w2,Bc hN sY sX hv hu hle]
theorem E7 {N:Nat} (hN:1180591620717411303424<=N) (e0:List Int->Bool):∀(b a M:Nat),b<M->(aj a).length<=1099511627000->(aj b).length<=1099511627000->ai M (yb N e0) (aj a,aj b)=e0 (aj (Nat.gcd a b)):=by
 intro b;induction b using Nat.strongRecOn with
 | ind b ih=>
 intro a M hM ha hb;obtain⟨M,rfl⟩:∃ m,M=m+1:=⟨M - 1,by omega⟩
 show yb N e0 (aj a,aj b) (ai M _)=_;simp only[yb];by_cases h:b=0
 ·subst h;have:(((aj 0).length:Nat):Int)=0:=by rw[aZ]; rfl
  rw[this,afP (by omega),afQ,aim]
 ·have hp:0<(aj b).length:=by rw[cj h]; simp
  have hm:=af4 a (by omega:b>0);have hml:=bS (Nat.le_of_lt hm);rw[afO (by omega),afR,uk hN (by omega) ha hb,ih (a%b) hm b M (by omega) hb (by omega),ag6 b,<- aiO,ag6]
theorem qG {N V f:Nat} (hf:f<140737488355328) (hs:(aj V).length+3<N/\(aj V).length<=1099511627000) (k:Kz9):Ci N (aj V) (f:Int) k=k (aj (V / 2 ^ f)):=by
 have hm:=bf V;have hmv:=aL V
 (unfold Ci; rw[ac]; unfold S9)
 obtain⟨hN1,hN2⟩:=hs;have ew:IntKind.wrap .u64 (Int.tdiv (f:Int) 32)=((f / 32:Nat):Int):=by rw[am,agU (by omega)]; omega
 have es:Int.tmod (f:Int) 32=((f%32:Nat):Int):=by rw[agI (by omega)]; rfl
 rw[ew,es,aa afM];have hp2:2 ^ f=4294967296 ^ (f / 32)*2 ^ (f%32):=wS f;obtain⟨w,hw⟩:∃ w,w=f / 32:=⟨_,rfl⟩
 obtain⟨s,hsh⟩:∃ s,s=f%32:=⟨_,rfl⟩
 rw[<- hw,<- hsh]at hp2 ⊢;have hs32:s<32:=by omega
 have hs0:0<2 ^ s:=af3 s;obtain⟨m,hme⟩:∃ m,m=aj V:=⟨_,rfl⟩
 rw[<- hme]at hm hmv hN1 hN2 ⊢;by_cases h0:m.length<=w
 ·rw[afO (by omega:((w:Nat):Int)>=m.length),afR];have h1:=eQ hm;rw[hmv]at h1;have h2:4294967296 ^ m.length<=4294967296 ^ w:=af5 (by decide) h0;have h3:V / 2 ^ f=0:=by rw[hp2];refine agm ?_;have:4294967296 ^ w*1<=4294967296 ^ w*2 ^ s:=afW _ hs0;omega
  rw[h3,aZ]
 ·rw[afP (by omega:¬((w:Nat):Int)>=m.length),afQ];obtain⟨Z,hZ⟩:∃ Z,Z=V / 2 ^ f:=⟨_,rfl⟩
  have elen:Int.toNat ((m.length:Int) - ((w:Nat):Int))=m.length - w:=by omega
  rw[elen,aa afM,aa (bE (by omega) (by omega) (by omega) (by omega)),<- hZ];obtain⟨L,hL⟩:∃ L,L=m.length - w:=⟨_,rfl⟩
  rw[<- hL];refine aH (λi=>((i:Int),dl Z i++List.replicate (L - i) 0)) L (by simp[dl]) (by omega) (λi hi K=>?_) (λK=>?_)
  ·have hx:=hm.at (i:=w+i);have hy:=hm.at (i:=w+i+1);have hset:=At Z i L (by omega);have hl:(dl Z i++List.replicate (L - i) 0).length=L:=by simp[al]; omega
   have ei:Int.toNat ((w:Int)+(i:Int))=w+i:=by omega
   have ei1:Int.toNat ((w:Int)+(i:Int)+1)=w+i+1:=by omega
   have emin:min s 64=s:=by omega
   obtain⟨R,hR⟩:=CB hm (w+i);rw[hmv]at hR;have hdig:Z / 4294967296 ^ i%4294967296=((m.getD (w+i) 0).toNat+4294967296*(m.getD (w+i+1) 0).toNat) / 2 ^ s%4294967296:=by
    rw[hZ,hp2,afX];have e1:4294967296 ^ w*2 ^ s*4294967296 ^ i=4294967296 ^ (w+i)*2 ^ s:=by rw[af8,af0,afS (2 ^ s),<- af0]
    rw[e1,<- afX,hR];have e2:4294967296*4294967296*R=2 ^ s*(4294967296*(2 ^ (32 - s)*R)):=by
     have hs1:2 ^ s*2 ^ (32 - s)=4294967296:=by rw[<- af8,show s+(32 - s)=32 by omega]
     rw[agi (2 ^ s),<- af0 (2 ^ s),hs1,af0]
    rw[e2,agL _ _ hs0,ag7]
   have hfin:∀ z:Int,z=(((m.getD (w+i) 0).toNat+4294967296*(m.getD (w+i+1) 0).toNat:Nat):Int)->IntKind.wrap .u32 (Int.fdiv z (2 ^ s))=((Z / 4294967296 ^ i%4294967296:Nat):Int):=by
    intro z hz;have e:(2:Int) ^ s=((2 ^ s:Nat):Int):=by simp
    rw[hdig,hz,e,ahj _ (by omega),dh];rfl
   simp only[lh,afV,ei,ei1,emin,hl];rw[afO (by omega:(i:Int)<L),afR,aa afM,aa afN,aa afM,aa afM];by_cases hlast:w+i+1<m.length
   ·rw[afO (by omega:(w:Int)+(i:Int)+1<m.length),afR,aa afM,aa afM,aa afN,aa (afO (by omega)),aa afN,aa (afO (by omega)),aa afM];have e1:IntKind.wrap .u64 (m.getD (w+i) 0)=(((m.getD (w+i) 0).toNat:Nat):Int):=by rw[am]; omega
    have e2:IntKind.wrap .u64 (IntKind.wrap .u64 (m.getD (w+i+1) 0)*2 ^ 32)=((2 ^ 32*(m.getD (w+i+1) 0).toNat:Nat):Int):=by
     have:(2:Int) ^ 32=4294967296:=by decide
     have:(2:Nat) ^ 32=4294967296:=by decide
     rw[am,am]; omega
    have p32:(2:Nat) ^ 32=4294967296:=by decide
    rw[e1,e2,co _ _ 32 (by omega) (by omega),hfin _ (by omega),hset,kI]
   ·rw[afP (by omega:¬(w:Int)+(i:Int)+1<m.length),afQ,aa (afO (by omega)),aa afN,aa (afO (by omega)),aa afM];have hz:m.getD (w+i+1) 0=0:=dY (by omega);have e1:IntKind.wrap .u64 (m.getD (w+i) 0)=(((m.getD (w+i) 0).toNat:Nat):Int):=by rw[am]; omega
    rw[e1,hfin _ (by rw[hz]; simp),hset,kI]
  ·simp only[lh];have hl:(dl Z L++List.replicate (L - L) 0).length=L:=by simp[al]
   rw[afP (by omega:¬((L:Nat):Int)<(((dl Z L++List.replicate (L - L) (0:Int)).length:Nat):Int)),afQ,agq,agt,agp];have hVl:Z<4294967296 ^ L:=by have h1:=eQ hm;rw[hmv]at h1;rw[hZ,afY (af3 f),hp2,<- af0,<- af8,show L+w=m.length by omega];have:4294967296 ^ m.length*1<=4294967296 ^ m.length*2 ^ s:=afW _ hs0;omega
   rw[dj _ (jt Z _) (by rw[al]; omega) (by rw[al]; omega),qt hVl]
theorem yw {N:Nat} (hN:1180591620717411303424<=N) {u v:List Int} (k:Kz9) :
  ∀ s x y,x+y=s->s<N->y<=x->(aj x).length<=134217728000 ->
   PZ N u v (aj x) (aj y) k=k (aj (Nat.gcd x y)):=by
 intro s x y hs hsN hyx hxl;unfold PZ;have main:∀ s x y M,x+y=s->s<M->M<=N->y<=x->(aj x).length<=134217728000 ->
   ai M (GQ N (λ(Z6:List Int) (Zy:List Int)=>(ai N (yb N (λ(a_5:List Int)=>((decide ((List.length ([]++a_5))*4<=140737488355328))&&(k ([]++a_5))))) (Z6,Zy)))) (aj x,aj y)=k (aj (Nat.gcd x y)):=by
  intro s;induction s using Nat.strongRecOn with
  | ind s ih=>
  intro x y M hs hsM hMN hyx hxl;obtain⟨M,rfl⟩:∃ m,M=m+1:=⟨M - 1,by omega⟩
  have hyl:=bS hyx;show GQ N _ (aj x,aj y) (ai M _)=_;simp only[GQ];by_cases h2:3<=(aj y).length
  ·have hyge:18446744073709551616<=y:=by
    rcases agP y 18446744073709551616 with h | h
    ·have:=cu 2 y (by
      have:(4294967296:Nat) ^ 2=18446744073709551616:=by decide
      omega)
     omega
    ·exact h
   have hblx:64<bl x:=by
    rcases agP 64 (bl x)with h | h
    ·exact h
    ·have h1:=yp x;have h3:2 ^ bl x<=2 ^ 64:=af5 (by decide) h;rw[oj]at h3;omega
   have hblu:bl x<=32*(aj x).length:=by refine wm ?_;rw[aiI,Eb]; exact jg x
   obtain⟨f,hf⟩:∃ f,bl x=f+62:=⟨bl x - 62,by omega⟩
   have ef:(bl x:Int) - 62=(f:Int):=by omega
   have hF0:0<2 ^ f:=af3 f;have p62:(2:Nat) ^ 62=4611686018427387904:=by decide
   have hx0l:x / 2 ^ f<4611686018427387904:=by rw[afY hF0,<- p62,<- af8,ahK,<- hf]; exact yp x
   have hy0l:y / 2 ^ f<=x / 2 ^ f:=ah6 hyx;rw[afO (by omega),afR,AX false x ⟨by omega,by omega⟩,ef,aa afM,
    FT (by omega) (by omega) ⟨by omega,by omega⟩ (.inr trivial) (by omega) (λkk=>qG (by omega) ⟨by omega,by omega⟩ kk),
    FT (by omega) (by omega) ⟨by omega,by omega⟩ (.inr trivial) (by omega) (λkk=>qG (by omega) ⟨by omega,by omega⟩ kk)]
   obtain⟨a,b,c,d,odd,g1,g2⟩:=H9 hN hx0l hy0l;rw[g2];rcases g1 with⟨hb0,ho⟩ | hgood
   ·subst hb0 ho;have e0:(sgn (!false) 0==0)=true:=rfl;have hm:=af4 x (by omega:y>0);rw[e0,afR,uk hN (by omega) (by omega) (by omega),ih (y+x%y) (by omega) y (x%y) M rfl (by omega) (by omega) (by omega) (by omega),ag6 y,<- aiO,ag6]
   ·obtain⟨p,q,z1,z2,z3,z4,hb1,hc1,hd1,hal,hbl,hcl,hdl⟩:=id hgood;have fin:∀ U V:Nat,x=d*U+b*V->y=c*U+a*V->V<=U->U+V<x+y/\U<=x:=by
     intro U V hx hy hvu;have k1:1*U<=d*U:=afT _ hd1;have k2:1*V<=b*V:=afT _ hb1;have k3:1*U<=c*U:=afT _ hc1;have hU0:0<U:=by
      rcases ag_ U with hu | hu
      ·exfalso;have hv:V=0:=by omega
       rw[hu,hv,ahb,ahb]at hy;omega
      ·exact hu
     exact⟨by omega,by omega⟩
    cases odd with
    | true=>
     obtain⟨f1,f2,f3,f4,f5⟩:=Ha hgood (af4 x hF0) (af4 y hF0) (agM x (2 ^ f)).symm (agM y (2 ^ f)).symm;obtain⟨w1,w2⟩:=fin _ _ f4 f5 f3;have hgc:=ww f4 f5 (aig (agd (ag3 _ _) _) (agd (agF _ _) _)) (aig (agd (agF _ _) _) (agd (ag3 _ _) _));have hUl:=bS w2;have e0:(sgn (!true) b==0)=false:=by simp only[agH,cY]; simp; omega
     have s1:sgn true a = -(a:Int):=rfl;have s2:sgn (!true) b=(b:Int):=rfl;have s3:sgn (!true) c=(c:Int):=rfl;have s4:sgn true d = -(d:Int):=rfl;rw[e0,afQ,s1,s2,s3,s4,yM hN (by omega) (by omega) hal hbl hb1 f1,yN hN (by omega) (by omega) hcl hdl f2,ih _ (by omega) _ _ M rfl (by omega) (by omega) f3 (by omega),hgc]
    | false=>
     obtain⟨f1,f2,f3,f4,f5⟩:=EM hgood (af4 x hF0) (af4 y hF0) (agM x (2 ^ f)).symm (agM y (2 ^ f)).symm;obtain⟨w1,w2⟩:=fin _ _ f4 f5 f3;have hgc:=ww f4 f5 (aig (agd (agF _ _) _) (agd (ag3 _ _) _)) (aig (agd (ag3 _ _) _) (agd (agF _ _) _));have hUl:=bS w2;have e0:(sgn (!false) b==0)=false:=by simp only[agw,cD]; simp; omega
     have s1:sgn false a=(a:Int):=rfl;have s2:sgn (!false) b = -(b:Int):=rfl;have s3:sgn (!false) c = -(c:Int):=rfl;have s4:sgn false d=(d:Int):=rfl;rw[e0,afQ,s1,s2,s3,s4,yN hN (by omega) (by omega) hal hbl f1,yM hN (by omega) (by omega) hcl hdl hd1 f2,ih _ (by omega) _ _ M rfl (by omega) (by omega) f3 (by omega),hgc]
  ·rw[afP (by omega),afQ,E7 hN _ y x N (by omega) (by omega) (by omega),agD];have hgl:(aj (Nat.gcd x y)).length<=134217728000:=by
    by_cases h0:x=0
    ·have hy0:y=0:=by omega
     rw[h0,hy0,aim,aZ]; simp
    ·have:=bS (Nat.gcd_le_left y (ain h0));omega
   rw[aa (afO (by omega))]
 exact main s x y N hs hsN (af1 _) hyx hxl
theorem HU {N:Nat} (hN:1180591620717411303424<=N) {x y:Nat} (hf:x+y<N) (hxl:(aj x).length<=134217728000) (hyl:(aj y).length<=134217728000) (k:Kz9):Gw N (aj x) (aj y) k=k (aj (Nat.gcd x y)):=by
 (unfold Gw; rw[ac]; unfold MQ)
 rw[kn x y ⟨by omega,by omega⟩ ⟨by omega,by omega⟩];by_cases h:x<y
 ·have hc:decide (dx x y<0)=true:=by unfold dx; rw[if_pos h]; rfl
  rw[hc,afR,yw hN _ (y+x) y x rfl (by omega) (by omega) hyl,ag6]
 ·have hc:decide (dx x y<0)=false:=by unfold dx; rw[if_neg h]; split <;> rfl
  rw[hc,afQ,yw hN _ (x+y) x y rfl hf (by omega) hxl]
theorem zk {a b:Nat} (ha:a<4294967296) (hb:b<4294967296):aB .and .u32 (a:Int) (b:Int)=((a &&& b:Nat):Int):=by
 unfold aB rn;simp only[agC];have h32:(2:Nat) ^ 32=4294967296:=by decide
 have e:((BitVec.ofInt (IntKind.bits .u32) (a:Int)) &&& (BitVec.ofInt (IntKind.bits .u32) (b:Int))).toNat=a &&& b:=by show((BitVec.ofInt 32 (a:Int)) &&& (BitVec.ofInt 32 (b:Int))).toNat=_;rw[aiy,agY,agY,ag5,ag5,afZ (by omega),afZ (by omega)]
 have hl:a &&& b<4294967296:=ahn Nat.and_le_left ha;rw[e,G2 _ hl]
theorem Kj {t c:Nat} (h:2 ^ t*(2*c+1)<2 ^ 32):(2 ^ t*(2*c+1)) &&& (2 ^ 32 - 2 ^ t*(2*c+1))=2 ^ t:=by
 have ht0:0<2 ^ t:=af3 t;have ht:t<32:=by
  rcases agP t 32 with h1 | h1
  ·exact h1
  ·have h2:2 ^ 32<=2 ^ t:=af5 (by decide) h1;have h3:2 ^ t*1<=2 ^ t*(2*c+1):=afW _ (by omega);omega
 have e1:2 ^ t*(2*c+1)=(2 ^ t*(2*c)+(2 ^ t - 1))+1:=by rw[af6]; omega
 refine ah5 λj=>?_
 rw[aiK];have e2:(2 ^ 32 - 2 ^ t*(2*c+1)).testBit j=(decide (j<32) && !(2 ^ t*(2*c)+(2 ^ t - 1)).testBit j):=by
  conv=>lhs; rw[e1]
  exact aiD (by rw[e1]at h; omega) j
 rw[e2,Nat.testBit_two_pow_mul,aiL _ (by omega),ahH];rcases aip j t with hj | hj | hj
 ·rw[afP (by omega:¬ j>=t),afP (by omega:¬ t=j)]; rfl
 ·subst hj;rw[if_neg (by omega),agq,afO (af1 _),afO ht,afO rfl];have a1:(2*c+1).testBit 0=true:=by rw[aiz]; simp
  have a2:(2*c).testBit 0=false:=by rw[aiz]; simp
  rw[a1,a2]; rfl
 ·obtain⟨k,hk⟩:∃ k,j - t=k+1:=⟨j - t - 1,by omega⟩
  rw[if_neg (by omega),hk,afO (by omega:j>=t),afP (by omega:¬ t=j),aiA,aiA];have a1:(2*c+1) / 2=c:=by omega
  have a2:2*c / 2=c:=by omega
  rw[a1,a2];cases c.testBit k <;> simp
theorem PK:∀ t:Fin 32,(inR (Int.fdiv (IntKind.wrap .u32 (((2 ^ t.val:Nat):Int)*125613361)) (2 ^ 27)) 32=true)/\(List.getD zg (Int.toNat (Int.fdiv (IntKind.wrap .u32 (((2 ^ t.val:Nat):Int)*125613361)) (2 ^ 27))) 0=(t.val:Int)):=by decide +kernel
theorem Oo (N:Nat) {t c:Nat} (h:2 ^ t*(2*c+1)<4294967296) (k:Kz5):sQ8 N ((2 ^ t*(2*c+1):Nat):Int) k=k (t:Int):=by
 have h32:(2:Nat) ^ 32=4294967296:=by decide
 have ht0:0<2 ^ t:=af3 t;have hx0:0<2 ^ t*(2*c+1):=ahR ht0 (by omega);have ht:t<32:=by
  rcases agP t 32 with h1 | h1
  ·exact h1
  ·have h2:2 ^ 32<=2 ^ t:=af5 (by decide) h1;have h3:2 ^ t*1<=2 ^ t*(2*c+1):=afW _ (by omega);omega
 (unfold sQ8; rw[ac]; unfold GQ8)
 have ha:=Kj (t:=t) (c:=c) (by omega);rw[h32]at ha;generalize 2 ^ t*(2*c+1)=x at *;have e0:((x:Int)==0)=false:=by simp; omega
 have ew:IntKind.wrap .u32 (0 - (x:Int))=((4294967296 - x:Nat):Int):=by rw[dh]; omega
 obtain⟨t1,t2⟩:=PK ⟨t,ht⟩;rw[e0,afQ,ew,zk h (by omega),ha,aa t1,t2,aa afM]
theorem NK {t c:Nat}:2 ^ t*(2*c+1) / 4294967296 ^ (t / 32)%4294967296=2 ^ (t%32)*(2*(c%2 ^ (31 - t%32))+1):=by
 have hs1:2 ^ (t%32)*2 ^ (32 - t%32)=4294967296:=by rw[<- af8,show t%32+(32 - t%32)=32 by omega]
 rw[wS t,af0,agr _ (aU _),<- hs1,ahB];congr 1;have e1:2 ^ (32 - t%32)=2*2 ^ (31 - t%32):=by rw[show 32 - t%32=(31 - t%32)+1 by omega,af2,afS]
 rw[e1];have e2:=ah0 c (2 ^ (31 - t%32));generalize 2 ^ (31 - t%32)=P at *;generalize c / P=q at *;have hP:c%P<P\/P=0:=by
  rcases ag_ P with h | h
  ·exact .inr h
  ·exact .inl (af4 _ h)
 generalize c%P=r at *;have e3:2*c+1=(2*r+1)+2*P*q:=by rw[<- e2]; grind
 rw[e3,ag7];rcases hP with h | h
 ·exact afZ (by omega)
 ·subst h; simp
theorem Hs {t c i:Nat} (hi:i<t / 32):2 ^ t*(2*c+1) / 4294967296 ^ i%4294967296=0:=by
 have e:2 ^ t*(2*c+1)=4294967296 ^ (i+1)*(4294967296 ^ (t / 32 - (i+1))*(2 ^ (t%32)*(2*c+1))):=by rw[wS t,<- af0,<- af8,show i+1+(t / 32 - (i+1))=t / 32 by omega,af0]
 rw[e,af2,af0,agr _ (aU i),aiV]
theorem A4 {N:Nat} {t c:Nat} (g:Bool) (hN:fK N (aj (2 ^ t*(2*c+1)))) (ht:t<140737488355328) (k:Kz5):sQ1 N g (aj (2 ^ t*(2*c+1))) k=k (t:Int):=by
 (unfold sQ1; rw[ac]; unfold GQ1)
 obtain⟨n1,n2⟩:=hN;have hd:=NK (t:=t) (c:=c);have hgd:=λi=>nw i (2 ^ t*(2*c+1))
 have hlt:2 ^ t*(2*c+1) / 4294967296 ^ (t / 32)%4294967296<4294967296:=af4 _ (by decide);have hwl:t / 32<(aj (2 ^ t*(2*c+1))).length:=by
  refine Jr λh=>?_
  rw[h,Nat.zero_mod]at hd;have:=ahR (af3 (t%32)) (show 0<2*(c%2 ^ (31 - t%32))+1 by omega);omega
 have hbel:=λi=>Hs (t:=t) (c:=c) (i:=i)
 generalize aj (2 ^ t*(2*c+1))=l at *;refine aH (λi=>(i:Int)) (t / 32) rfl (by omega) (λi hi K=>?_) (λK=>?_)
 ·simp only[J0,afV];have hz:(l.getD i 0 != 0)=false:=by rw[hgd,hbel i hi]; rfl
  rw[afO (by omega:(i:Int)<((l.length:Nat):Int)),afR,aa afN,hz,afQ,aa afM];rfl
 ·simp only[J0,afV];have hp:=ahR (af3 (t%32)) (show 0<2*(c%2 ^ (31 - t%32))+1 by omega);have hz:(l.getD (t / 32) 0 != 0)=true:=by rw[hgd,hd]; simp only[bne_iff_ne,ne_eq]; omega
  rw[afO (by omega:((t / 32:Nat):Int)<((l.length:Nat):Int)),afR,aa afN,hz,afR,aa afM,aa afN,hgd,hd,Oo N (by rw[<- hd]; exact hlt),aa afM];congr 1;rw[am]; omega
def krR (z:Int) (d:Nat) (k:Kx5):Bool:=k (decide (z<0)) (aj z.natAbs) false (aj d)
def kqR (x:Rat) (k:Kx5):Bool:=krR x.num x.den k
theorem Oe (g:Bool) (n d:Nat) (k:Kx5):k (sg g n) (aj n) false (aj d)=krR (aY g n) d k:=uu g n (λa b=>k a b false (aj d))
theorem rC {B n:Nat} (hB:B<=2000000000100) (h:aT B n):(aj n).length<=62500000006:=by have:=Ac h; omega
theorem ra {N B n:Nat} (hF:Fuel N) (hB:B<=2000000000100) (h:aT B n):fK N (aj n):=by have h1:=rC hB h;have:=hF.lt;exact⟨by omega,by omega⟩
theorem Ie (g:Bool) (n d:Nat) (h0:0<d):(mkRat (aY g n) d).num=aY g (n / Nat.gcd n d)/\(mkRat (aY g n) d).den=d / Nat.gcd n d:=by
 have e:(aY g n).natAbs=n:=by unfold aY; cases g <;> simp
 have hg:0<Nat.gcd n d:=agX _ h0;constructor
 ·rw[ai0,if_neg (by omega),e,ag6];have hh:((Nat.gcd n d:Nat):Int) ≠ 0:=by omega
  have e2:aY g n=((Nat.gcd n d:Nat):Int)*aY g (n / Nat.gcd n d):=by
   have hnn:n=Nat.gcd n d*(n / Nat.gcd n d):=(Nat.mul_div_cancel' (agF n d)).symm;have hc:(n:Int)=((Nat.gcd n d:Nat):Int)*((n / Nat.gcd n d:Nat):Int):=by rw[<- aga,<- hnn]
   unfold aY;cases g
   ·simpa using hc
   ·simp only[ahr]; rw[hc,aiJ]
  rw[e2,ahP _ hh]
 ·rw[ai1,if_neg (by omega),e,ag6]
theorem HL (g:Bool) (n m:Nat):aY g (n*m)=aY g n*(m:Int):=by
 unfold aY; cases g
 ·simp
 ·simp[aiZ]
theorem Wa {t c u e:Nat} (h:2 ^ (u - min t u)*(2*e+1)<2 ^ (u - min t u+1)):Nat.gcd (2 ^ (t - min t u)*(2*c+1)) (2 ^ (u - min t u)*(2*e+1))=1:=by
 have he:e=0:=by
  rcases ag_ e with h1 | h1
  ·exact h1
  ·have:2 ^ (u - min t u)*2<=2 ^ (u - min t u)*(2*e+1):=afW _ (by omega);rw[af2]at h; omega
 subst he;rw[ahb,agl,ahG];rcases Nat.le_total t u with h1 | h1
 ·rw[ahf h1,agq,ahL,ahQ];refine Nat.Coprime.pow_right _ ?_;show Nat.gcd (2*c+1) 2=1;rw[ag6,aiO];have:(2*c+1)%2=1:=by omega
  rw[this]; rfl
 ·rw[Nat.min_eq_right h1,agq,ahL,Nat.gcd_one_right]
theorem GT {t m c:Nat} (h:m<=t):2 ^ t*(2*c+1) / 2 ^ m=2 ^ (t - m)*(2*c+1):=by
 have:2 ^ t=2 ^ m*2 ^ (t - m):=by rw[<- af8]; congr 1; omega
 rw[this,af0,agr _ (af3 m)]
theorem J2 {B t c:Nat} (h:aT B (2 ^ t*(2*c+1))):t<B:=by
 unfold aT at h;have h1:2 ^ t*1<=2 ^ t*(2*c+1):=afW _ (by omega);have h2:2 ^ t<2 ^ B:=by omega
 exact(Nat.pow_lt_pow_iff_right (by decide)).1 h2
theorem Vc {t c:Nat}:bl (2 ^ t*(2*c+1))=t+1↔2 ^ t*(2*c+1)<2 ^ (t+1):=by
 have hp:=af3 t;have h0:2 ^ t*(2*c+1) ≠ 0:=by have:=ahR hp (show 0<2*c+1 by omega); omega
 constructor
 ·intro h; have:=yp (2 ^ t*(2*c+1)); rwa [h]at this
 ·intro h;have h1:=wm h;have h2:=yp (2 ^ t*(2*c+1));have h3:2 ^ t*1<=2 ^ t*(2*c+1):=afW _ (by omega);have h4:2 ^ t<2 ^ bl (2 ^ t*(2*c+1)):=by omega
  have:=(Nat.pow_lt_pow_iff_right (by decide:1<2)).1 h4;omega
theorem gA {N B n:Nat} (hF:Fuel N) (hB:B<=2000000000100) (h:aT B n) (k:Kz9):l4 N (aj n) k=k (aj n):=by have h1:=rC hB h;have:=hF.lt;rw[Jj _ (bf n) (by omega) (by omega),aL]
theorem C1 {N B:Nat} (hF:Fuel N) (hB:B<=2000000000100) (g:Bool) {n d:Nat} (hn:aT B n) (hd:aT B d) (hn0:n ≠ 0) (hd0:d ≠ 0) (J:List Int->List Int->Bool) (k:Kx5)
  (hJ:∀ a b:Nat,aT B a->aT B b->J (aj a) (aj b)=k (sg g a) (aj a) false (aj b)) :
  (sQ1 N false (aj n) (λ(nr:Int)=>(sQ1 N false (aj d) (λ(Zo:Int)=>
   (Ci N (aj n) (cond (decide (Zo<nr)) Zo nr) (λ(Zz:List Int)=>(Ci N (aj d) (cond (decide (Zo<nr)) Zo nr) (λ(Zx:List Int)=>(sQ1 N false Zx (λ(Zr:Int)=>((af .i64 Zr)&&(LO N false Zx (λ(ZF:Int)=>((af .i64 (ZF - 1))&&(cond (Zr != (ZF - 1)) (Gw N Zz Zx (λ(s6:List Int)=>(rI N (λ(s7:List Int)=>(GB N s6 s7 (λ(ZC:Int)=>(cond (ZC != 0) (xS N Zz s6 (λ(s8:List Int) (s9:List Int)=>(xS N Zx s6 (λ(s10:List Int) (s11:List Int)=>(J s8 s10))))) (J Zz Zx)))))))) (J Zz Zx))))))))))))))))
   = kqR (mkRat (aY g n) d) k:=by
 have hl:=hF.lt;have hbig:=hF.big;obtain⟨t,c,hnt⟩:=Bl n hn0;obtain⟨u,e,hdu⟩:=Bl d hd0;have htB:t<B:=J2 (by rw[<- hnt]; exact hn);have huB:u<B:=J2 (by rw[<- hdu]; exact hd);have sn:=ra hF hB hn;have sd:=ra hF hB hd;have ln:=rC hB hn;have ld:=rC hB hd;have z1:=λkk=>A4 (N:=N) (t:=t) (c:=c) false (by rw[<- hnt]; exact sn) (by omega) kk
 have z2:=λkk=>A4 (N:=N) (t:=u) (c:=e) false (by rw[<- hdu]; exact sd) (by omega) kk
 rw[<- hnt]at z1;rw[<- hdu]at z2;rw[z1,z2];obtain⟨m,hm⟩:∃ m,m=min t u:=⟨_,rfl⟩
 have em:cond (decide ((u:Int)<(t:Int))) (u:Int) (t:Int)=(m:Int):=by
  by_cases h:u<t
  ·rw[afO (by omega),afR,hm,Nat.min_eq_right (by omega)]
  ·rw[afP (by omega),afQ,hm,ahf (by omega)]
 rw[em,qG (by omega) ⟨by omega,by omega⟩,qG (by omega) ⟨by omega,by omega⟩];have ha:n / 2 ^ m=2 ^ (t - m)*(2*c+1):=by rw[hnt]; exact GT (by rw[hm]; exact Nat.min_le_left _ _)
 have hb:d / 2 ^ m=2 ^ (u - m)*(2*e+1):=by rw[hdu]; exact GT (by rw[hm]; exact ai4 _ _)
 have hbn:aT B (n / 2 ^ m):=bR hn;have hbd:aT B (d / 2 ^ m):=bR hd;have hmk:mkRat (aY g n) d=mkRat (aY g (n / 2 ^ m)) (d / 2 ^ m):=by
  have e1:n=n / 2 ^ m*2 ^ m:=by
   rw[ha,hnt,aiR,<- af8];congr 2; have:m<=t:=by rw[hm]; exact Nat.min_le_left _ _
   omega
  have e2:d=d / 2 ^ m*2 ^ m:=by
   rw[hb,hdu,aiR,<- af8];congr 2; have:m<=u:=by rw[hm]; exact ai4 _ _
   omega
  conv=>lhs; rw[e1,e2,HL]
  rw[Rat.mkRat_mul_right (by have:=af3 m; omega)]
 rw[hmk];obtain⟨a,hae⟩:∃ a,a=n / 2 ^ m:=⟨_,rfl⟩
 obtain⟨b,hbe⟩:∃ b,b=d / 2 ^ m:=⟨_,rfl⟩
 rw[<- hae]at ha hbn ⊢;rw[<- hbe]at hb hbd ⊢;have hb0:0<b:=by rw[hb]; exact ahR (af3 _) (by omega)
 have z3:=λkk=>A4 (N:=N) (t:=u - m) (c:=e) false (by rw[<- hb]; exact ra hF hB hbd) (by omega) kk
 rw[<- hb]at z3;have hblb:bl b<=B:=wm hbd;have hbl0:0<bl b:=(Nq (by omega)).1;rw[z3,aa afM,AX false b (ra hF hB hbd),aa afM];obtain⟨i1,i2⟩:=Ie g a b hb0;unfold kqR;rw[i1,i2];have fin1:Nat.gcd a b=1->J (aj a) (aj b)=krR (aY g (a / Nat.gcd a b)) (b / Nat.gcd a b) k:=by intro h;rw[hJ a b hbn hbd,Oe _ _ _ k,h,ahI,ahI]
 by_cases hp:bl b=u - m+1
 ·have:(((u - m:Nat):Int) != (bl b:Int) - 1)=false:=by simp; omega
  rw[this,afQ];refine fin1 ?_;rw[ha,hb,hm];refine Wa ?_;rw[<- hm];rw[hb]at hp;exact Vc.1 hp
 ·have:(((u - m:Nat):Int) != (bl b:Int) - 1)=true:=by simp; omega
  have la:=rC hB hbn;have lb:=rC hB hbd;have hgp:0<Nat.gcd a b:=agX _ hb0;have hgb:aT B (Nat.gcd a b):=l_ hbd (ahT _ hb0);have lg:=rC hB hgb;have e1:aj 1=[1]:=tZ (by decide) (by decide);rw[this,afR,HU hbig (hF.sum (by omega) hbn hbd) (by omega) (by omega)];unfold rI IP;dsimp only;rw[<- e1,kn _ 1 ⟨by omega,by omega⟩ ⟨by rw[e1]; simp; omega,by rw[e1]; simp⟩];by_cases hc:Nat.gcd a b=1
  ·have:(dx (Nat.gcd a b) 1 != 0)=false:=by rw[hc]; rfl
   rw[this,afQ];exact fin1 hc
  ·have:(dx (Nat.gcd a b) 1 != 0)=true:=by unfold dx; rw[if_neg (by omega),if_neg hc]; rfl
   rw[this,afR,uk hbig hgp (by omega) (by omega),uk hbig hgp (by omega) (by omega),hJ _ _ (bR hbn) (bR hbd),Oe _ _ _ k]
theorem E8 {α:Type} (c:Bool) (f:α->Bool) (a b:α):cond c (f a) (f b)=f (cond c a b):=by cases c <;> rfl
theorem uj {N B:Nat} (hF:Fuel N) (hB:B<=2000000000100) (g:Bool) {n d:Nat} (hn:aT B n) (hd:aT B d) (hd0:d ≠ 0) (b1 b2:Bool) (k:Kx5) :
  LG N g (aj n) (aj d) b1 b2 k=kqR (mkRat (aY g n) d) k:=by
 have hl:=hF.lt;have hJ:∀ a b:Nat,aT B a->aT B b -> ∀ x y,Ke N g x y b1 b2 (aj a) (aj b) k=k (sg g a) (aj a) false (aj b):=by
  intro a b ha hb x y;unfold Ke Gu MB;rw[gA hF hB ha];unfold GA M8;dsimp only;rw[gA hF hB hb,gA hF hB hb];cases g
  ·rfl
  ·simp only[nk,sg,agW]; rfl
 (unfold LG; rw[ac]; unfold SK)
 by_cases h0:n=0
 ·subst h0;rw[aZ];show Gu N false [] b1 b2 _=_;have e0:aY g 0=0:=by unfold aY; cases g <;> rfl
  unfold Gu MB;rw[<- aZ,gA hF (B:=10) (by decide) (by unfold aT; decide)];unfold rI IP GA M8;have e1:aj 1=[1]:=tZ (by decide) (by decide);dsimp only;rw[<- e1,gA hF (B:=10) (by decide) (by unfold aT; decide),gA hF (B:=10) (by decide) (by unfold aT; decide),e0,Rat.zero_mkRat];rfl
 ·have e0:((((aj n).length:Nat):Int)==0)=false:=by rw[cj h0]; simp; omega
  rw[e0,afQ];have:=C1 hF hB g hn hd h0 hd0 (λx y=>Ke N g (aj n) (aj d) b1 b2 x y k) k (λa b ha hb=>hJ a b ha hb _ _);rw[<- this];congr 1; funext nr; congr 1; funext Zo;exact E8 (decide (Zo<nr)) (λz=>M_ N g (aj n) (aj d) b1 b2 z k) Zo nr
theorem HX {N B:Nat} (hF:Fuel N) (hB:B<=2000000000100) (g:Bool) {n d:Nat} (hn:aT B n) (hd:aT B d) (hd0:d ≠ 0) (b1 b2:Bool) (l1 l2:List Int) (k:Kx5) :
  VS N g (aj n) (aj d) b1 l1 b2 l2 k=kqR (mkRat (aY g n) d) k:=by
 have hl:=hF.lt;have hJ:∀ a b:Nat,aT B a->aT B b -> ∀ x y,Kf N g x y b1 l1 b2 l2 (aj a) (aj b) k=k (sg g a) (aj a) false (aj b):=by
  intro a b ha hb x y;unfold Kf Pv Tp;rw[gA hF hB ha];unfold GA M8;dsimp only;rw[gA hF hB hb,gA hF hB hb];cases g
  ·rfl
  ·simp only[nk,sg,agW]; rfl
 (unfold VS; rw[ac]; unfold S6)
 by_cases h0:n=0
 ·subst h0;rw[aZ];show Pv N false [] b1 l1 b2 l2 _=_;have e0:aY g 0=0:=by unfold aY; cases g <;> rfl
  unfold Pv Tp;rw[<- aZ,gA hF (B:=10) (by decide) (by unfold aT; decide)];unfold rI IP GA M8;have e1:aj 1=[1]:=tZ (by decide) (by decide);dsimp only;rw[<- e1,gA hF (B:=10) (by decide) (by unfold aT; decide),gA hF (B:=10) (by decide) (by unfold aT; decide),e0,Rat.zero_mkRat];rfl
 ·have e0:((((aj n).length:Nat):Int)==0)=false:=by rw[cj h0]; simp; omega
  rw[e0,afQ];have:=C1 hF hB g hn hd h0 hd0 (λx y=>Kf N g (aj n) (aj d) b1 l1 b2 l2 x y k) k (λa b ha hb=>hJ a b ha hb _ _);rw[<- this];congr 1; funext nr; congr 1; funext Zo;exact E8 (decide (Zo<nr)) (λz=>Na N g (aj n) (aj d) b1 l1 b2 l2 z k) Zo nr
theorem HS {N:Nat} (a:Bool) (l:List Int) (b:Bool) {d:Nat} (hd:d ≠ 0) (k:Kz9):O6 N a l b (aj d) k=k (aj d):=by
 (unfold O6; rw[ac]; unfold Mu)
 have:((((aj d).length:Nat):Int)==0)=false:=by rw[cj hd]; simp; omega
 rw[this]; rfl
theorem f7 {N:Nat} (a:Bool) (l:List Int) (b:Bool) {d:Nat} (hd:d ≠ 0) (k:Kz9):sQ5 N a l b (aj d) k=k (aj d):=by
 (unfold sQ5; rw[ac]; unfold GQ5)
 have:((((aj d).length:Nat):Int)==0)=false:=by rw[cj hd]; simp; omega
 rw[this]; rfl
theorem oc {N B:Nat} (hF:Fuel N) (hB:B<=2000000000100) {a b:Nat} (ha:aT B a) (hb:aT B b) (k:Kz9):zw N (aj a) (aj b) k=k (aj (a*b)):=by have h1:=rC hB ha;have h2:=rC hB hb;have:=hF.lt;rw[xM _ _ (bf _) (bf _) (by omega) (by omega),aL,aL]
theorem OC {N B:Nat} (hF:Fuel N) (hB:B<=1000000000000) {x y:Rat} (hx:Bq B x) (hy:Bq B y) (b1 b2:Bool) (k:Kx5) :
  VH N b1 b2 (decide (x.num<0)) (aj x.num.natAbs) false (aj x.den) (decide (y.num<0)) (aj y.num.natAbs) false (aj y.den) k=kqR (x*y) k:=by
 (unfold VH; rw[ac]; unfold SH)
 have hB2:B<=2000000000100:=by omega
 rw[oc hF hB2 hx.1 hy.1,f7 _ _ _ x.den_nz,f7 _ _ _ y.den_nz,oc hF hB2 hx.2 hy.2,
  uj hF (B:=B+B) (by omega) _ (dw hx.1 hy.1) (dw hx.2 hy.2) (ai8 x.den_nz y.den_nz),AR,iU,iU,<- Rat.mul_def']
theorem OH {N B:Nat} (hF:Fuel N) (hB:B<=1000000000000) {x y:Rat} (hx:Bq B x) (hy:Bq B y) (h0:y.num ≠ 0) (b1 b2:Bool) (k:Kx5) :
  VI N b1 b2 (decide (x.num<0)) (aj x.num.natAbs) false (aj x.den) (decide (y.num<0)) (aj y.num.natAbs) false (aj y.den) k=kqR (x / y) k:=by
 (unfold VI; rw[ac]; unfold SI)
 have hB2:B<=2000000000100:=by omega
 obtain⟨i1,i2,i3⟩:=AN h0;rw[f7 _ _ _ y.den_nz,oc hF hB2 hx.1 hy.2,f7 _ _ _ x.den_nz,oc hF hB2 hx.2 hy.1,
  uj hF (B:=B+B) (by omega) _ (dw hx.1 hy.2) (dw hx.2 hy.1) (ai8 x.den_nz (by omega)),AR,iU,Rat.div_def,Rat.mul_def',i2]
 have:aY (decide (y.num<0)) y.den=(y⁻¹).num:=by rw[<- i3,<- i1,iU]
 rw[this]
theorem OO {N B:Nat} (hF:Fuel N) (hB:B<=1000000000000) {x y:Rat} (hx:Bq B x) (hy:Bq B y) (k:Kx5) :
  VJ N (decide (x.num<0)) (aj x.num.natAbs) false (aj x.den) (decide (y.num<0)) (aj y.num.natAbs) false (aj y.den) k=kqR (x - y) k:=by
 (unfold VJ; rw[ac]; unfold SM; unfold W7; rw[ac]; unfold Tb)
 have hB2:B<=2000000000100:=by omega
 have ha:=dw hx.1 hy.2;have hb:=dw hy.1 hx.2;have hB3:B+B+1<=2000000000100:=by omega
 rw[f7 _ _ _ y.den_nz,oc hF hB2 hx.1 hy.2,f7 _ _ _ x.den_nz,oc hF hB2 hy.1 hx.2];dsimp only;rw[f7 _ _ _ x.den_nz,f7 _ _ _ y.den_nz,oc hF hB2 hx.2 hy.2,
  KX false _ _ _ _ (ra hF (by omega) ha) (ra hF (by omega) hb) (ra hF hB3 (wl ha hb)),sH,sH]
 unfold uB;dsimp only;have hz:aT (B+B+1) (x.num*(y.den:Int) - y.num*(x.den:Int)).natAbs:=by
  refine l_ (wl ha hb) ?_;have e1:(x.num*(y.den:Int)).natAbs=x.num.natAbs*y.den:=by rw[ahE,agK]
  have e2:(y.num*(x.den:Int)).natAbs=y.num.natAbs*x.den:=by rw[ahE,agK]
  omega
 rw[HX hF hB3 _ hz (bK (dw hx.2 hy.2) (by omega)) (ai8 x.den_nz y.den_nz),iU,<- Rat.sub_def']
theorem xL {N:Nat} (x:Rat) (k:Kz5):Gs N (decide (x.num<0)) (aj x.num.natAbs) false (aj x.den) k=k (w8 x.num):=by
 (unfold Gs RM; unfold Di; rw[ac]; unfold xk w8)
 by_cases h0:x.num=0
 ·rw[h0,if_pos rfl];have:aj (0:Int).natAbs=[]:=aZ;rw[this]; rfl
 ·have:((((aj x.num.natAbs).length:Nat):Int)==0)=false:=by rw[cj (by omega)]; simp; omega
  rw[this,afQ,if_neg h0];by_cases h:x.num<0
  ·rw[afO h,afR,if_pos h]
  ·rw[afP h,afQ,if_neg h]
theorem yx (n:Nat):bM (aj n) (aj n).length=(aj n).length:=Fa n
theorem Om {N B:Nat} (hF:Fuel N) (hB:B<=2000000000100) {x:Rat} (hx:Bq B x) (b1 b2:Bool) (l1 l2:List Int) (k:Kx5) :
  VZ N (decide (x.num<0)) (aj x.num.natAbs) false (aj x.den) b1 l1 b2 l2 k=kqR x k:=by
 (unfold VZ; rw[ac]; unfold Tg)
 have h1:=rC hB hx.1;have h2:=rC hB hx.2;have hl:=hF.lt;rw[agD,aa (afO (by omega)),HS _ _ _ x.den_nz,agD,aa (afO (by omega))];unfold rJ rk So RQ;rw[lR _ (by omega) (by omega),yx];dsimp only;rw[lR _ (by omega) (by omega),lR _ (by omega) (by omega),yx];have e1:(List.take (aj x.num.natAbs).length (List.drop 0 (aj x.num.natAbs)))=aj x.num.natAbs:=by simp
 have e2:(List.take (aj x.den).length (List.drop 0 (aj x.den)))=aj x.den:=by simp
 have e3:decide (0+(aj x.num.natAbs).length<=(aj x.num.natAbs).length)=true:=afO (by omega);have e4:decide (0+(aj x.den).length<=(aj x.den).length)=true:=afO (by omega);rw[e1,e2,e3,e4];unfold kqR krR;by_cases h:x.num<0
 ·have:decide (((((aj x.num.natAbs).length:Nat):Nat):Int)>0)=true:=by rw[nk]; exact afO (by omega)
  rw[afO h,this]; rfl
 ·rw[afP h]; rfl
end Go.Proofs.YtdinakfmablagaaGreatDoor
end
