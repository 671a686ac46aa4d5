/- Laws in plain Lean. Conditions: none. -/
import Derived.Test.YtdinakfmablagaaGreatDoorC2
set_option linter.defProp false
set_option linter.unusedVariables false
section
namespace Go.Proofs.YtdinakfmablagaaGreatDoor
open Go Go.Mach
def lC:∀(i V:Nat),(ah V).getD i 0=((V / 4294967296 ^ i%4294967296:Nat):Int)
 | i,V=>by
  by_cases h:V=0
  ·subst h; rw[aX]; simp
  ·rw[ct h];cases i with
   | zero=>simp
   | succ i=>
    show(ah (V / 4294967296)).getD i 0=_;rw[lC i (V / 4294967296),Zh,Y_,<- Zd]
def Gp {V w:Nat} (h:V / 4294967296 ^ w ≠ 0):w<(ah V).length:=by
 rcases Z6 w (ah V).length with h1 | h1
 ·exact h1
 ·exfalso;have h2:=di (aR V);rw[aD]at h2;exact h (ZA (Zq h2 (Zl (by decide) h1)))
def rm {n:Nat} (h0:n ≠ 0) (h:n<4294967296):ah n=[(n:Int)]:=by rw[ct h0,ZA h,aX,Zg h]
def DD (Q n m:Nat) (h:m<n):(List.replicate (m+1) (0:Int)++(dl Q n).drop (m+1)).set m ((Q / 4294967296 ^ m%4294967296:Nat):Int)=List.replicate m 0++(dl Q n).drop m:=by rw[aaJ,Zo,List.singleton_append,bf _ _ _ _ _ (by simp),cV (n:=m) (by rw[al]; exact h),rn Q h]
def yP {A d:Nat} (hd:0<d):(A / 4294967296%d*4294967296+A%4294967296)%d=A%d/\(A / 4294967296%d*4294967296+A%4294967296) / d=A / d%4294967296:=by
 have h1:=ZW A 4294967296;have h2:=ZW (A / 4294967296) d;have h3:=Zm (A / 4294967296) hd;have h4:A%4294967296<4294967296:=Zm _ (by decide);obtain⟨a,ha⟩:∃ a,a=A / 4294967296:=⟨_,rfl⟩
 obtain⟨e,he⟩:∃ e,e=A%4294967296:=⟨_,rfl⟩
 rw[<- ha]at h1 h2 h3 ⊢;rw[<- he]at h1 h4 ⊢;obtain⟨c,hc⟩:∃ c,c=a / d:=⟨_,rfl⟩
 obtain⟨r,hr⟩:∃ r,r=a%d:=⟨_,rfl⟩
 rw[<- hc,<- hr]at h2;rw[<- hr]at h3 ⊢;have h5:A=d*(c*4294967296)+(r*4294967296+e):=by rw[<- h1,<- h2,<- Zf,Zn,Y_ 4294967296,Y_ 4294967296]; omega
 constructor
 ·rw[h5,abi]
 ·rw[h5,ab_ hd,Y_ c,abi];refine(Zg ?_).symm;rw[Ze hd];have:=Y9 4294967296 h3;rw[aaE]at this;rw[Y_ _ d,Y_ d];rw[Y_ d]at this;omega
def ib (x:Nat):x<4294967296 ^ (ah x).length:=by have:=di (aR x); rwa [aD]at this
def SM (c:List Int) (m:Nat):aE (c.take (m+3))=aE (c.take m)+4294967296 ^ m*((c.getD m 0).toNat+4294967296*((c.getD (m+2) 0).toNat*4294967296+(c.getD (m+1) 0).toNat)):=by rw[show m+3=m+2+1 by omega,aP,show m+2=m+1+1 by omega,aP,aP];simp only[Zh];generalize 4294967296 ^ m=P;grind
def SL (c:List Int) (m:Nat):aE (c.take (m+2))=aE (c.take m)+4294967296 ^ m*((c.getD m 0).toNat+4294967296*(c.getD (m+1) 0).toNat):=by rw[show m+2=m+1+1 by omega,aP,aP];simp only[Zh];generalize 4294967296 ^ m=P;grind
def Ea {b:List Int} {o i:Nat} (D:Nat) (h:o+i<=b.length):(b.take o++(dl D i++b.drop (o+i))).length=b.length:=by simp[al]; omega
def D_ {b:List Int} {o i:Nat} (D:Nat) (h:o+i<b.length):(b.take o++(dl D i++b.drop (o+i))).getD (o+i) 0=b.getD (o+i) 0:=by rw[<- Zo,cV h,bZ (by simp[al]; omega)]
def zi {b:List Int} {o i:Nat} (D:Nat) (h:o+i<b.length):(b.take o++(dl D i++b.drop (o+i))).set (o+i) ((D / 4294967296 ^ i%4294967296:Nat):Int)=b.take o++(dl D (i+1)++b.drop (o+(i+1))):=by rw[<- Zo,cV h,bf _ _ _ _ _ (by simp[al]; omega),dl];simp[ZK]
def D8 {b:List Int} {o i n:Nat} (D E:Nat) (hi:i<=n) (h:o+n<=b.length):(b.take o++(dl E i++((dl D n).drop i++b.drop (o+n)))).length=b.length:=by simp[al]; omega
def D7 {b:List Int} {o i n:Nat} (D E:Nat) (hi:i<n) (h:o+n<=b.length):(b.take o++(dl E i++((dl D n).drop i++b.drop (o+n)))).getD (o+i) 0=((D / 4294967296 ^ i%4294967296:Nat):Int):=by rw[<- Zo,cV (n:=i) (by rw[al]; exact hi),aaW,bZ (by simp[al]; omega),rn D hi]
def D9 {b:List Int} {o i n:Nat} (D E:Nat) (hi:i<n) (h:o+n<=b.length):(b.take o++(dl E i++((dl D n).drop i++b.drop (o+n)))).set (o+i) ((E / 4294967296 ^ i%4294967296:Nat):Int)=b.take o++(dl E (i+1)++((dl D n).drop (i+1)++b.drop (o+n))):=by rw[<- Zo,cV (n:=i) (by rw[al]; exact hi),aaW,bf _ _ _ _ _ (by simp[al]; omega),dl];simp
def F9 {m:Nat} (S X:Nat):∀ n,n<=m->dl (S+4294967296 ^ m*X) n=dl S n
 | 0,_=>rfl
 | n+1,h=>by rw[dl,dl,F9 S X n (by omega)];congr 3;refine kv (R:=4294967296 ^ (m - (n+1))*X) ?_;rw[<- Zf,<- Zk,show n+1+(m - (n+1))=m by omega]
def y_ {w:List Int} {n i U Q:Nat} (hw:InW w) (hl:w.length=n+1) (hU:U=aE w) (hi:i<=n) (hQ:Q<4294967296 ^ (n+1)) :
  (((w.getD i 0).toNat+4294967296 - Q / 4294967296 ^ i%4294967296 - (if aE (w.take i)<Q%4294967296 ^ i then 1 else 0))%4294967296=(U+4294967296 ^ (n+1) - Q) / 4294967296 ^ i%4294967296)
  /\ (if (w.getD i 0).toNat<Q / 4294967296 ^ i%4294967296+(if aE (w.take i)<Q%4294967296 ^ i then 1 else 0)then 1 else 0)=(if aE (w.take (i+1))<Q%4294967296 ^ (i+1)then 1 else(0:Nat)):=by
 have hx:=hw.at (i:=i);have hA:=aP (m:=w) i;have hAl:=bC hw i;have hp:=aU i;have hBl:=Zm Q hp;have hPs:4294967296 ^ (i+1)=4294967296 ^ i*4294967296:=Zh ..;have hmm:Q%4294967296 ^ (i+1)=Q%4294967296 ^ i+4294967296 ^ i*(Q / 4294967296 ^ i%4294967296):=by rw[hPs,ab4]
 have hyl:Q / 4294967296 ^ i%4294967296<4294967296:=Zm _ (by decide);constructor
 ·obtain⟨R1,h1⟩:=ca w (i+1);have hW:4294967296 ^ (n+1)=4294967296 ^ i*4294967296*4294967296 ^ (n - i):=by rw[<- hPs,<- Zk,show i+1+(n - i)=n+1 by omega]
  have hq:=CA (D:=U+4294967296 ^ (n+1) - Q) (a:=U+4294967296 ^ (n+1)) (b:=Q) (x:=(w.getD i 0).toNat) (y:=Q / 4294967296 ^ i%4294967296) (R1:=R1+4294967296 ^ (n - i)) (R2:=Q / (4294967296 ^ i*4294967296)) hAl hBl rfl
   (by rw[hU,h1,hA,hW,hPs,Zn]; omega)
   (by rw[<- hmm,hPs]; exact(abh _ _).symm)
   (by omega)
  generalize (U+4294967296 ^ (n+1) - Q) / 4294967296 ^ i=Z at *;generalize Q / 4294967296 ^ i%4294967296=y at *;generalize (w.getD i 0).toNat=x at *;generalize ((R1+4294967296 ^ (n - i):Nat):Int) - ((Q / (4294967296 ^ i*4294967296):Nat):Int)=RR at *;split at hq <;> rename_i hh <;> simp only[hh,aaD,ZE] <;> omega
 ·rw[hA,hmm];exact(mG _ _ _ _ _ hAl hBl).symm
def xu {D V c v i:Nat} (hc:c=(D%4294967296 ^ i+V) / 4294967296 ^ i) :
  (D%4294967296 ^ (i+1)+(V+4294967296 ^ i*v)) / 4294967296 ^ (i+1)=(D / 4294967296 ^ i%4294967296+v+c) / 4294967296 /\
  ∀ R,(D+(V+4294967296 ^ i*v+4294967296 ^ (i+1)*R)) / 4294967296 ^ i%4294967296=(D / 4294967296 ^ i%4294967296+v+c)%4294967296:=by
 have hp:=aU i;have hPs:4294967296 ^ (i+1)=4294967296 ^ i*4294967296:=Zh ..;have hmm:D%4294967296 ^ (i+1)=D%4294967296 ^ i+4294967296 ^ i*(D / 4294967296 ^ i%4294967296):=by rw[hPs,ab4]
 have e:D%4294967296 ^ (i+1)+(V+4294967296 ^ i*v)=(D%4294967296 ^ i+V)+4294967296 ^ i*(D / 4294967296 ^ i%4294967296+v):=by rw[hmm,Zn]; omega
 have e2:(D%4294967296 ^ (i+1)+(V+4294967296 ^ i*v)) / 4294967296 ^ i=D / 4294967296 ^ i%4294967296+v+c:=by rw[e,dI,<- hc]; omega
 constructor
 ·rw[hPs,<- Zd,<- hPs,e2]
 ·intro R;have e3:D+(V+4294967296 ^ i*v+4294967296 ^ (i+1)*R)=(D%4294967296 ^ (i+1)+(V+4294967296 ^ i*v))+4294967296 ^ (i+1)*(D / 4294967296 ^ (i+1)+R):=by have:=abh D (4294967296 ^ (i+1));rw[Zn]; omega
  rw[kv e3,e2]
def B8 {D V c i:Nat} (hc:c=(D%4294967296 ^ i+V) / 4294967296 ^ i) :
  (D%4294967296 ^ (i+1)+V) / 4294967296 ^ (i+1)=(D / 4294967296 ^ i%4294967296+0+c) / 4294967296 /\
  (D+V) / 4294967296 ^ i%4294967296=(D / 4294967296 ^ i%4294967296+0+c)%4294967296:=by
 obtain⟨a1,a2⟩:=xu (v:=0) hc;have a3:=a2 0;rw[aar,ZD V]at a1;rw[aar,aar,ZD V]at a3;exact⟨a1,a3⟩
def MB (n:Nat):dl n (ah n).length=ah n:=by refine List.ext_getElem (al n _) (λi h1 h2=>?_);have e1:=rn n h2;have e2:=lC i n;rw[List.getD_eq_getElem?_getD,List.getElem?_eq_getElem h1,ZT]at e1;rw[List.getD_eq_getElem?_getD,List.getElem?_eq_getElem h2,ZT]at e2;rw[e1,e2]
def CE {X L:Nat} (hX:X<4294967296 ^ L):∀ k,dl X (L+k)=dl X L++List.replicate k 0
 | 0=>by simp
 | k+1=>by rw[<- ZK,dl,CE hX k,ZA (Zq hX (Zl (by decide) (aaX _ _))),aaJ,Zo];rfl
def nz (S:Nat):∀{m n:Nat},n<=m->(dl S m).take n=dl S n
 | 0,n,h=>by
  have:n=0:=by omega
  subst this; rfl
 | m+1,n,h=>by
  by_cases e:n=m+1
  ·subst e; rw[Zt (by rw[al]; omega)]
  ·rw[dl,Z9 (by rw[al]; omega),nz S (by omega)]
def z8 (S a:Nat):∀ c,dl S (a+c)=dl S a++dl (S / 4294967296 ^ a) c
 | 0=>by simp[dl]
 | c+1=>by rw[<- ZK,dl,z8 S a c,dl,Zd,<- Zk,Zo]
def xD {V m:Nat} (h:V<4294967296 ^ m):bS (dl V m) m=(ah V).length:=by have h1:=qW (ip V m);rw[al,oN,Zg h]at h1;rw[<- h1,ZM,al];have:=i6 (dl V m) m;omega
def Nb {V m:Nat} (h1:4294967296 ^ m<=V) (h2:V<4294967296 ^ (m+1)):(ah V).length=m+1:=by have a:=ci (m+1) V h2;have b:=Gp (V:=V) (w:=m) (by have:=abv h1 (aU m); omega);omega
def Nm {r x:Nat} (hr:r<4294967296) (hx:x<4294967296):aA .or .u64 (IntKind.wrap .u64 ((r:Int)*2 ^ 32)) (IntKind.wrap .u64 (x:Int))=((r*4294967296+x:Nat):Int):=by
 have p32:(2:Nat) ^ 32=4294967296:=by decide
 have q32:(2:Int) ^ 32=4294967296:=by decide
 have e1:IntKind.wrap .u64 ((r:Int)*2 ^ 32)=((2 ^ 32*r:Nat):Int):=by rw[q32,p32,aq]; omega
 have e2:IntKind.wrap .u64 (x:Int)=(x:Int):=by rw[aq]; omega
 rw[e1,e2,rY,cB _ _ 32 (by omega) (by omega),p32];congr 1; omega
def Fb {N:Nat} {x d:Nat} (hd0:0<d) (hd:d<4294967296) (hs:dq N (ah x)) (k:List Int->Int->Bool):m9 N (ah x) (d:Int) k=k (ah (x / d)) ((x%d:Nat):Int):=by
 (unfold m9; rw[af]; unfold pN)
 obtain⟨s1,s2⟩:=hs;have hx:=ib x;generalize hn:(ah x).length=n at *;rw[aa (bQ (by omega) (by omega) (by omega) (by omega)),aa Y3,Zb];have wd:IntKind.wrap .u64 (d:Int)=(d:Int):=by rw[aq]; omega
 have d1:(!decide ((d:Int)=0))=true:=by simp; omega
 refine aF (λi=>(((x / 4294967296 ^ (n - i)%d:Nat):Int),((n:Int) - 1 - (i:Int)),List.replicate (n - i) (0:Int)++(dl (x / d) n).drop (n - i))) n ?_ (by omega) (λi hi K=>?_) (λK=>?_)
 ·rw[abd,ZA hx,Nat.zero_mod,ZR (by rw[al]; omega),ZG];simp
 ·obtain⟨m,hm⟩:∃ m,n - i=m+1:=⟨n - i - 1,by omega⟩
  have hm2:n - (i+1)=m:=by omega
  have ei:(n:Int) - 1 - (i:Int)=(m:Int):=by omega
  have ei2:(n:Int) - 1 - ((i+1:Nat):Int)=(m:Int) - 1:=by omega
  have hp:x / 4294967296 ^ (m+1)=x / 4294967296 ^ m / 4294967296:=by rw[Zh,Zd]
  have hdg:x / d / 4294967296 ^ m%4294967296=x / 4294967296 ^ m / d%4294967296:=by rw[Zd,Zd,Y_ d]
  obtain⟨n1,n2⟩:=yP (A:=x / 4294967296 ^ m) hd0;rw[hm,hm2,ei,ei2,hp];simp only[jK,Zb,wd];have hl:(List.replicate (m+1) (0:Int)++(dl (x / d) n).drop (m+1)).length=n:=by simp[al]; omega
  have hr:=Zm (x / 4294967296 ^ m / 4294967296) hd0;have hq:(x / 4294967296 ^ m / 4294967296%d*4294967296+x / 4294967296 ^ m%4294967296) / d<4294967296:=by rw[n2]; exact Zm _ (by decide)
  rw[Y5 (by omega:(m:Int)>=0),Y8,hn,aa Y4,lC,aa d1,hl,aa Y4,aa (Y5 (by omega)),aa d1,aa Y3,Nm (by omega) (Zm _ (by decide))];have e1:∀ A:Nat,Int.tdiv (A:Int) (d:Int)=((A / d:Nat):Int):=λ_=>rfl
  have e2:∀ A:Nat,Int.tmod (A:Int) (d:Int)=((A%d:Nat):Int):=λ_=>rfl
  rw[e1,e2,n1,n2,<- hdg];have e3:IntKind.wrap .u32 (IntKind.wrap .u64 ((x / d / 4294967296 ^ m%4294967296:Nat):Int))=((x / d / 4294967296 ^ m%4294967296:Nat):Int):=by have:=Zm (x / d / 4294967296 ^ m) (by decide:4294967296>0);generalize x / d / 4294967296 ^ m%4294967296=y at *;rw[aq,dc]; omega
  rw[e3,DD _ _ _ (by omega)]
 ·simp only[jK];have e0:(n:Int) - 1 - (n:Int) = -1:=by omega
  rw[e0,Y6 (by omega),Y7,ZF,aaR,aaU];rw[ZJ,ZX,aaB];have hq:x / d<4294967296 ^ n:=aaG (aaH _ _) hx;have hr:=Zm x hd0;have e3:IntKind.wrap .u32 ((x%d:Nat):Int)=((x%d:Nat):Int):=by rw[dc]; omega
  rw[e3,dh _ (ip _ _) (by rw[al]; omega) (by rw[al]; omega) (λz=>k z ((x%d:Nat):Int)),oq hq]
def KE (N:Nat) {x:Nat} (hx:x<4294967296) (k:Kz0):Re N (x:Int) k=k ((32 - bl x:Nat):Int):=by unfold Re RP;have:=tH (n:=x) (j:=32) (by rw[show(2:Nat) ^ 32=4294967296 by decide]; exact hx);rw[Ak N x hx,aa Y3];congr 1; omega
def BD:(2:Nat) ^ 32=4294967296:=by decide
def IH {y:Nat} (h0:y ≠ 0) (hy:y<4294967296):32 - bl y<32/\2147483648<=y*2 ^ (32 - bl y)/\y*2 ^ (32 - bl y)<4294967296:=by
 have h1:=tH (n:=y) (j:=32) (by rw[BD]; exact hy);obtain⟨h2,h3⟩:=JP h0;have h4:=vG y;have hp:0<2 ^ (32 - bl y):=Zj _;refine⟨by omega,?_,?_⟩
 ·have:=Y9 (2 ^ (32 - bl y)) h3;rw[<- Zk,show bl y - 1+(32 - bl y)=31 by omega]at this;exact this
 ·have:=ZS h4 hp;rw[<- Zk,show bl y+(32 - bl y)=32 by omega]at this;exact this
def Fg {N:Nat} (m:List Int) (hm:InW m) (n:Nat) (hn:n<4294967296) (hN:m.length+n / 32+4<N) (hs:m.length<=1099511627776) (e0:List Int->Bool) :
  am N (dU N m ((n / 32:Nat):Int) ((n%32:Nat):Int) e0) (0,List.replicate (n / 32+m.length+1) (0:Int))=e0 (dl (aE m*2 ^ n) (n / 32+m.length+1)):=by
 generalize hw:n / 32=w at *;generalize hsh:n%32=s at *;have hs32:s<32:=by omega
 have hp2:2 ^ n=4294967296 ^ w*2 ^ s:=by rw[uc,hw,hsh]
 have hs0:0<2 ^ s:=Zj s;have hs1:2 ^ s*2 ^ (32 - s)=4294967296:=by rw[<- Zk,show s+(32 - s)=32 by omega]
 have hs2:2 ^ s<=2147483648:=by have:2 ^ s<=2 ^ 31:=Zl (by decide) (by omega);simpa using this
 let V:=aE m*2 ^ n
 let X:=aE m*2 ^ s
 have hVX:V=4294967296 ^ w*X:=by simp only[V,X]; rw[hp2,ZB]
 let T:=λi=>aE (m.take i)*2 ^ s
 let c:=λi=>T i / 4294967296 ^ i
 refine aF (N:=N) (λi=>((i:Int),dl V (w+i)++((c i:Nat):Int)::List.replicate (m.length - i) 0)) m.length ?_ (by omega) (λi hi K=>?_) (λK=>?_)
 ·congr 1;show List.replicate (w+m.length+1) (0:Int)=dl V w++((c 0:Nat):Int)::List.replicate m.length 0;rw[hVX,sK];have hc0:c 0=0:=by simp[c,T,aE]
  rw[hc0];have:w+m.length+1=w+(m.length+1):=by omega
  rw[this,<- aaN,ZQ]; rfl
 ·have hx:=hm.at (i:=i);have hT:T (i+1)=T i+4294967296 ^ i*((m.getD i 0).toNat*2 ^ s):=by simp only[T,aP,Zw,Zf]
  have hq:T (i+1) / 4294967296 ^ i=c i+(m.getD i 0).toNat*2 ^ s:=by rw[hT,dI]
  have hci:c i<2 ^ s:=by simp only[c,T];rw[Ze (aU i),Y_];exact aag (bC hm i) hs0
  have hc1:c (i+1)=(c i+(m.getD i 0).toNat*2 ^ s) / 4294967296:=by rw[<- hq]; simp only[c]; rw[Zh,Zd]
  have hdig:V / 4294967296 ^ (w+i)%4294967296=(c i+(m.getD i 0).toNat*2 ^ s)%4294967296:=by rw[<- hq,hVX,Zk,<- Zd,ZH _ (aU w)];obtain⟨R,hR⟩:=ca m (i+1);refine kv (R:=R*2 ^ s) ?_;simp only[X,T];rw[hR,Zw,Zf]
  have hrep:List.replicate (m.length - i) (0:Int)=0::List.replicate (m.length - (i+1)) 0:=by rw[show m.length - i=(m.length - (i+1))+1 by omega,ZQ]
  have hdl:=al V (w+i);have ei:Int.toNat ((w:Int)+(i:Int))=w+i:=by omega
  have ei1:Int.toNat ((w:Int)+(i:Int)+1)=w+i+1:=by omega
  have emin:min s 64=s:=by omega
  simp only[dU,Zb,ei,ei1,emin];rw[hrep,bZ hdl.symm,bf _ _ _ _ _ hdl.symm];have et:IntKind.wrap .u64 (IntKind.wrap .u64 (m.getD i 0)*2 ^ s)=(((m.getD i 0).toNat*2 ^ s:Nat):Int):=by
   have hxs:(m.getD i 0).toNat*2 ^ s<4294967296*2147483648:=ZP (by omega) hs2 (by decide);have e1:IntKind.wrap .u64 (m.getD i 0)=(((m.getD i 0).toNat:Nat):Int):=by rw[aq]; omega
   have e2:(((m.getD i 0).toNat:Nat):Int)*2 ^ s=(((m.getD i 0).toNat*2 ^ s:Nat):Int):=by simp
   rw[e1,e2,aq]; omega
  rw[et];generalize hxx:(m.getD i 0).toNat=x at *;have hx32:x<4294967296:=by omega
  have hlow:x*2 ^ s%4294967296=2 ^ s*(x%2 ^ (32 - s)):=by
   have e:x*2 ^ s%(2 ^ s*2 ^ (32 - s))=2 ^ s*(x%2 ^ (32 - s)):=by rw[Y_ x]; exact aaY _ _ _
   rwa [hs1]at e
  have hsum:2 ^ s*(x%2 ^ (32 - s))+c i<4294967296:=by have h1:x%2 ^ (32 - s)+1<=2 ^ (32 - s):=Zm _ (Zj _);have h2:=Zc (2 ^ s) h1;rw[hs1,Zn]at h2;omega
  have eor:aA .or .u32 ((c i:Nat):Int) (IntKind.wrap .u32 ((x*2 ^ s:Nat):Int))=((V / 4294967296 ^ (w+i)%4294967296:Nat):Int):=by
   have e1:IntKind.wrap .u32 ((x*2 ^ s:Nat):Int)=((2 ^ s*(x%2 ^ (32 - s)):Nat):Int):=by rw[<- hlow,dc]; omega
   rw[e1,pm _ _ s hci hsum,hdig];omega
  have ehi:IntKind.wrap .u32 (Int.fdiv ((x*2 ^ s:Nat):Int) (2 ^ 32))=((c (i+1):Nat):Int):=by have hxs:x*2 ^ s<4294967296*2147483648:=ZP hx32 hs2 (by decide);rw[jj,dc,hc1];omega
  rw[eor,ehi];have hl1:∀(a b:Int) (ys:List Int),(dl V (w+i)++a::b::ys).length=w+i+2+ys.length:=by intro a b ys; simp[hdl]; omega
  have hset2:(dl V (w+i)++((V / 4294967296 ^ (w+i)%4294967296:Nat):Int)::0::List.replicate (m.length - (i+1)) 0).set (w+i+1) ((c (i+1):Nat):Int)=dl V (w+(i+1))++((c (i+1):Nat):Int)::List.replicate (m.length - (i+1)) 0:=by
   have:dl V (w+i)++((V / 4294967296 ^ (w+i)%4294967296:Nat):Int)::0::List.replicate (m.length - (i+1)) 0=dl V (w+(i+1))++0::List.replicate (m.length - (i+1)) 0:=by rw[<- ZK,dl]; simp
   rw[this];exact bf _ _ _ _ _ (by rw[al]; omega)
  rw[hset2,hl1,hl1];simp only[aau];rw[Y5 (by omega:(i:Int)<m.length),Y8,aa Y4,aa (Y5 (by omega)),aa Y3,aa Y4,aa (Y5 (by omega)),aa Y4,aa (Y5 (by omega)),
   aa Y3,aa Y3,aa Y4,aa (Y5 (by omega)),aa Y3]
  rfl
 ·simp only[dU];rw[Y6 (by omega:¬(m.length:Int)<m.length),Y7,ZF,ZJ];have hV:V<4294967296 ^ (w+m.length+1):=by have h1:=di hm;simp only[V];rw[hp2,Zh,Zk,ZB,Zf];refine aag ?_ (aU w);exact ZP h1 (by omega) (by decide)
  have hT:T m.length=X:=by simp only[T,X]; rw[ZO]
  have hend:dl V (w+m.length)++[((c m.length:Nat):Int)]=dl V (w+m.length+1):=by
   rw[dl];have:c m.length=V / 4294967296 ^ (w+m.length)%4294967296:=by simp only[c];rw[hT,hVX,Zk,<- Zd,ZH _ (aU w)];rw[Zg];rw[Ze (aU _),Y_];have h1:=di hm;simp only[X];exact ZP h1 (by omega) (by decide)
   rw[this]
  rw[hend]
def qn {N:Nat} {m s:Nat} (hm:m ≠ 0) (hs:s<32) (hN:(ah m).length+4<N) (hl:(ah m).length<=1099511627776) (k0:Bool) (k1:Nat->List Int->Bool) :
  DE N (ah m) (s:Int) k0 k1=k1 (ah (m*2 ^ s)).length (dl (m*2 ^ s) ((ah m).length+1)):=by
 have hlp:(ah m).length ≠ 0:=by rw[ct hm]; simp
 have hV:m*2 ^ s<4294967296 ^ ((ah m).length+1):=by
  rw[Zh];have h2:2 ^ s<4294967296:=by rw[<- BD]; exact Nat.pow_lt_pow_right (by decide) hs
  exact aaa (ib m) h2
 (unfold DE; rw[af]; unfold IW)
 have e0:((((ah m).length:Nat):Int)==0)=false:=by simp; intro h; rw[h]at hlp; simp at hlp
 have ew:IntKind.wrap .u64 (Int.tdiv (s:Int) 32)=((s / 32:Nat):Int):=by rw[aq,Z_ (by omega)]; omega
 have es:Int.tmod (s:Int) 32=((s%32:Nat):Int):=by rw[Z1 (by omega)]; rfl
 have elen:Int.toNat (((s / 32:Nat):Int)+(((ah m).length:Nat):Int)+1)=s / 32+(ah m).length+1:=by omega
 rw[e0,Y7,ew,es,aa Y3,aa Y3,aa Y3,aa (bQ (by omega) (by omega) (by omega) (by omega)),elen];have:=Fg (N:=N) (ah m) (aR m) s (by omega) (by omega) hl (λUY=>nk N UY λmr=>k1 mr UY);rw[aD,show s / 32=0 by omega,Zx]at this;rw[show s / 32=0 by omega,Zx];refine Eq.trans this ?_;rw[gZ _ (by rw[al]; omega) (by rw[al]; omega),al,xD hV]
def HS {N:Nat} (b:List Int) (m:Nat) (hm:m<=b.length) (hN:m<N) (hs:m<9223372036854775807) (k:Kz1):qG N 0 m b k=k (bS b m):=by
 (unfold qG; rw[af]; unfold pL)
 have key:∀ n,n<=m -> ∀ M,n<M->am M (tx N 0 b λV9=>k V9) n=k (bS b n):=by
  intro n;induction n with
  | zero=>
   intro _ M hM;obtain⟨M,rfl⟩:∃ m,M=m+1:=⟨M - 1,by omega⟩
   show tx N 0 b _ 0 _=_;simp only[tx,bS];rw[Y6 (by omega:¬((0:Nat):Int)>0),show(false==true)=false from rfl,Y7]
  | succ n ih=>
   intro hn M hM;obtain⟨M,rfl⟩:∃ m,M=m+1:=⟨M - 1,by omega⟩
   show tx N 0 b _ (n+1) (am M _)=_;have e:0+Int.toNat (((n+1:Nat):Int) - 1)=n:=by omega
   have e2:Int.toNat (((n+1:Nat):Int) - 1) - 0=n:=by omega
   simp only[tx,e,e2];rw[Y5 (by omega:((n+1:Nat):Int)>0),show(true==true)=true from rfl,Y8,aa Y3,aa Y4,aa (Y5 (by omega)),aa Y3,aa (Y5 (by omega)),ih (by omega) M (by omega),mJ];by_cases h0:b.getD n 0=0
   ·have:(b.getD n 0==0)=true:=by simpa using h0
    rw[this,if_pos h0]; rfl
   ·have:(b.getD n 0==0)=false:=by simpa using h0
    rw[this,if_neg h0]; rfl
 exact key m (Zi _) N hN
def Bo {N:Nat} (b:List Int) (hb:InW b) (m s:Nat) (hm:m<=b.length) (hs:s<32) (hN:m+3<N) (hms:m<=1099511627780) (k:Kz3):Lw N 0 m (s:Int) b k=k (ah (aE (b.take m) / 2 ^ s)):=by
 have ew:IntKind.wrap .u64 (Int.tdiv (s:Int) 32)=0:=by rw[aq,Z_ (by omega)]; omega
 have es:Int.tmod (s:Int) 32=(s:Int):=by rw[Z1 (by omega)]; omega
 have hs0:0<2 ^ s:=Zj _
 (unfold Lw; rw[af]; unfold Jq)
 by_cases h0:m=0
 ·subst h0;rw[ew,abp,show aE []=0 from rfl,Nat.zero_div,aX];rfl
 ·have emin:min s 64=s:=by omega
  rw[ew,es,aa Y3,Y6 (by omega:¬(0:Int)>=(m:Int)),Y7];have hw:InW (b.take m):=hb.take m;have hwl:(b.take m).length=m:=by rw[ZM]; omega
  have hwg:∀ i,i<m->(b.take m).getD i 0=b.getD i 0:=λi hi=>rz hi
  obtain⟨X,hX⟩:∃ X,X=aE (b.take m) / 2 ^ s:=⟨_,rfl⟩
  have elen2:(m:Int) - 0=(m:Int):=by omega
  rw[elen2,aa Y3,aa (bQ (by omega) (by omega) (by omega) (by omega)),Zb,<- hX];refine aF (λi=>((i:Int),dl X i++List.replicate (m - i) 0)) m (by simp[dl]) (by omega) (λi hi K=>?_) (λK=>?_)
  ·have hx:=hw.at (i:=i);have hy:=hw.at (i:=i+1);have hset:=xK X i m (by omega);have hl:(dl X i++List.replicate (m - i) (0:Int)).length=m:=by simp[al]; omega
   obtain⟨R,hR⟩:=zZ hw i;have hdig:X / 4294967296 ^ i%4294967296=(((b.take m).getD i 0).toNat+4294967296*((b.take m).getD (i+1) 0).toNat) / 2 ^ s%4294967296:=by
    rw[hX,Zd,Y_ (2 ^ s),<- Zd,hR];have e2:4294967296*4294967296*R=2 ^ s*(4294967296*(2 ^ (32 - s)*R)):=by
     have hs1:2 ^ s*2 ^ (32 - s)=4294967296:=by rw[<- Zk,show s+(32 - s)=32 by omega]
     rw[ZB (2 ^ s),<- Zf (2 ^ s),hs1,Zf]
    rw[e2,Z2 _ _ hs0,aao]
   have hfin:∀ z:Int,z=((((b.take m).getD i 0).toNat+4294967296*((b.take m).getD (i+1) 0).toNat:Nat):Int)->IntKind.wrap .u32 (Int.fdiv z (2 ^ s))=((X / 4294967296 ^ i%4294967296:Nat):Int):=by
    intro z hz;have e:(2:Int) ^ s=((2 ^ s:Nat):Int):=by simp
    rw[hdig,hz,e,aay _ (by omega),dc];rfl
   have ea:(0:Int)+(i:Int)=(i:Int):=by omega
   have ei:0+Int.toNat (i:Int)=i:=by omega
   have ei1:Int.toNat ((i:Int)+1)=i+1:=by omega
   simp only[ia,ea,ei1,Zb,Zx,emin,hl];rw[Y5 (by omega:(i:Int)<m),Y8,aa Y3,aa Y4,aa (Y5 (by omega)),aa Y3,aa Y3];rw[<- hwg i hi];by_cases hlast:i+1<m
   ·rw[<- hwg (i+1) hlast];rw[Y5 (by omega:(i:Int)+1<m),Y8,aa Y3,aa Y3,aa Y4,aa (Y5 (by omega)),aa (Y5 (by omega)),aa Y4,aa (Y5 (by omega)),aa Y3];have e1:IntKind.wrap .u64 ((b.take m).getD i 0)=((((b.take m).getD i 0).toNat:Nat):Int):=by rw[aq]; omega
    have e2:IntKind.wrap .u64 (IntKind.wrap .u64 ((b.take m).getD (i+1) 0)*2 ^ 32)=((2 ^ 32*((b.take m).getD (i+1) 0).toNat:Nat):Int):=by
     have:(2:Int) ^ 32=4294967296:=by decide
     have:(2:Nat) ^ 32=4294967296:=by decide
     rw[aq,aq]; omega
    have p32:(2:Nat) ^ 32=4294967296:=by decide
    rw[e1,e2,cB _ _ 32 (by omega) (by omega),hfin _ (by omega),hset,jt]
   ·rw[Y6 (by omega:¬(i:Int)+1<m),Y7,aa (Y5 (by omega)),aa Y4,aa (Y5 (by omega)),aa Y3];have hz:(b.take m).getD (i+1) 0=0:=dJ (by omega);have e1:IntKind.wrap .u64 ((b.take m).getD i 0)=((((b.take m).getD i 0).toNat:Nat):Int):=by rw[aq]; omega
    rw[e1,hfin _ (by rw[hz]; simp),hset,jt]
  ·simp only[ia];have hl:(dl X m++List.replicate (m - m) (0:Int)).length=m:=by simp[al]
   rw[Y6 (by omega:¬(m:Int)<(((dl X m++List.replicate (m - m) (0:Int)).length:Nat):Int)),Y7,ZF,ZJ,ZG];have hXl:X<4294967296 ^ m:=by have h1:=di hw;rw[hwl]at h1;rw[hX];exact aaG (aaH _ _) h1
   rw[dh _ (ip X m) (by rw[al]; omega) (by rw[al]; omega),oq hXl]
def QY {A B r u0:Nat} (h:r*4294967296+u0<A):B+r*4294967296+u0<B+A:=by omega
def Bc {N:Nat} {s5:Int} {ul j n u0 v0 v1 T d:Nat} {b c ql:List Int} (hn:2<=n) (hc1:c.getD (n - 2) 0=(v0:Int)) (hb:b.getD (j+n - 2) 0=(u0:Int)) (hcl:n<=c.length) (hul:j+n<ul) (hbl:ul<=b.length) (hbs:b.length<=1099511627780)
  (hv0:v0<4294967296) (hv1:v1<4294967296) (hu0:u0<4294967296) (hTl:T<4294967296*v1+4294967296) (hd:∀ g,T*4294967296+u0<g*(v1*4294967296+v0)->d<g) (hdW:d<4294967296) :
  ∀ g r M,g<M->g<=4294967299->g*v1+r=T->r<4294967296->d<=g ->
   ∃ q,d<=q/\q<4294967296/\q*(v1*4294967296+v0)<=T*4294967296+u0 /\ ∀ e0,am M (nn N s5 n ul (n:Int) (v1:Int) (j:Int) c b ql e0) ((g:Int),(r:Int))=e0 (q:Int):=by
 intro g;induction g using Nat.strongRecOn with
 | ind g ih=>
 intro r M hM hgb hT hr hdg;obtain⟨M,rfl⟩:∃ m,M=m+1:=⟨M - 1,by omega⟩
 have i2:0+Int.toNat ((n:Int) - 2)=n - 2:=by omega
 have j2:0+Int.toNat ((j:Int)+(n:Int) - 2)=j+n - 2:=by omega
 have dec:∀ p,g=p+1->d<=p -> ∃ q,d<=q/\q<4294967296/\q*(v1*4294967296+v0)<=T*4294967296+u0 /\ ∀ e0,cond (decide ((IntKind.wrap .u64 ((r:Int)+(v1:Int)))>=4294967296)) (e0 (IntKind.wrap .u64 ((g:Int) - 1))) (am M (nn N s5 n ul (n:Int) (v1:Int) (j:Int) c b ql e0) ((IntKind.wrap .u64 ((g:Int) - 1)),(IntKind.wrap .u64 ((r:Int)+(v1:Int)))))=e0 (q:Int):=by
  intro p hp hdp;subst hp;have w1:IntKind.wrap .u64 (((p+1:Nat):Int) - 1)=(p:Int):=Eb p (by omega);have w2:IntKind.wrap .u64 ((r:Int)+(v1:Int))=((r+v1:Nat):Int):=by rw[aq]; omega
  rw[w1,w2];by_cases hb2:4294967296<=r+v1
  ·have hpl:p<4294967296:=by
    rcases Z6 p 4294967296 with h | h
    ·exact h
    ·exfalso;have:=Y9 v1 h;rw[aaE]at hT;omega
   refine⟨p,hdp,hpl,xZ hv0 (by omega) hT hb2,λe0=>?_⟩;rw[Y5 (by omega),Y8]
  ·obtain⟨q,q1,q2,q3,q4⟩:=ih p (by omega) (r+v1) M (by omega) (by omega) (by rw[<- hT,aaE]; omega) (by omega) hdp;exact⟨q,q1,q2,q3,λe0=>by rw[Y6 (by omega),Y7]; exact q4 e0⟩
 by_cases hg:4294967296<=g
 ·obtain⟨q,q1,q2,q3,q4⟩:=dec (g - 1) (by omega) (by omega);refine⟨q,q1,q2,q3,λe0=>?_⟩;show nn N s5 n ul (n:Int) (v1:Int) (j:Int) c b ql e0 (_,_) (am M _)=_;simp only[nn];rw[Y5 (by omega:(g:Int)>=4294967296),show(true==false)=false from rfl,Y7];exact q4 e0
 ·have hgv:g*v0<=4294967295*4294967295:=ZZ (by omega) (by omega);have wv0:IntKind.wrap .u64 (v0:Int)=(v0:Int):=by rw[aq]; omega
  have wgv:IntKind.wrap .u64 ((g:Int)*(v0:Int))=((g*v0:Nat):Int):=by rw[<- Zp,aq]; omega
  have e1:T*4294967296+u0=g*v1*4294967296+r*4294967296+u0:=by rw[<- hT,Zw]
  have e2:g*(v1*4294967296+v0)=g*v1*4294967296+g*v0:=by rw[Zn,Zf]
  have body:∀ e0:Int->Bool,am (M+1) (nn N s5 n ul (n:Int) (v1:Int) (j:Int) c b ql e0) ((g:Int),(r:Int))=cond (decide (((g*v0:Nat):Int)>((r*4294967296+u0:Nat):Int))) (cond (decide ((IntKind.wrap .u64 ((r:Int)+(v1:Int)))>=4294967296)) (e0 (IntKind.wrap .u64 ((g:Int) - 1))) (am M (nn N s5 n ul (n:Int) (v1:Int) (j:Int) c b ql e0) ((IntKind.wrap .u64 ((g:Int) - 1)),(IntKind.wrap .u64 ((r:Int)+(v1:Int)))))) (e0 (g:Int)):=by intro e0;show nn N s5 n ul (n:Int) (v1:Int) (j:Int) c b ql e0 (_,_) (am M _)=_;simp only[nn,i2,j2,hc1,hb,wv0,wgv];rw[Y6 (by omega:¬(g:Int)>=4294967296),show(false==false)=true from rfl,Y8,aa Y3,aa Y4,aa (Y5 (by omega)),aa Y3,aa Y3,aa Y4,aa (Y5 (by omega)),Nm hr hu0]
  by_cases ht:r*4294967296+u0<g*v0
  ·have hlt1:g*v1*4294967296+r*4294967296+u0<g*v1*4294967296+g*v0:=QY ht;have hlt:d<g:=hd g (aaG (abf e1) (Zq hlt1 (abf e2.symm)));obtain⟨q,q1,q2,q3,q4⟩:=dec (g - 1) (by omega) (by omega);exact⟨q,q1,q2,q3,λe0=>by rw[body,Y5 (by omega),Y8]; exact q4 e0⟩
  ·exact⟨g,hdg,by omega,Zs (abf e2) (Zs (by omega) (abf e1.symm)),λe0=>by rw[body,Y6 (by omega),Y7]⟩
def HV {N:Nat} {j n ul g U V:Nat} {b c:List Int} (hN:n<N) (hb:InW b) (hc:InW c) (hcl:n<=c.length) (hul:j+n<ul) (hbl:ul<=b.length) (hbs:b.length<=1099511627780) (hg:g<4294967296) (hU:U=aE ((b.drop j).take (n+1))) (hV:V=aE (c.take n)) (k:Ky3) :
  Lt N 0 ul 0 n (j:Int) (g:Int) b c k=k (decide (U<g*V)) (b.take j++(dl (U+4294967296 ^ (n+1) - g*V) (n+1)++b.drop (j+(n+1)))):=by
 (unfold Lt; rw[af]; unfold Jk)
 have hw:InW ((b.drop j).take (n+1)):=(hb.drop j).take _;have hwl:((b.drop j).take (n+1)).length=n+1:=by rw[ZM,aaK]; omega
 have hwg:∀ i,i<=n->((b.drop j).take (n+1)).getD i 0=b.getD (j+i) 0:=λi hi=>by rw[rz (by omega),i7]
 generalize (b.drop j).take (n+1)=w at *;have hVl:V<4294967296 ^ n:=by rw[hV]; exact bC hc n
 have hgV:g*V<4294967296 ^ (n+1):=by rw[Zh,Y_];exact aaa hVl hg
 obtain⟨D,hD⟩:∃ D,D=U+4294967296 ^ (n+1) - g*V:=⟨_,rfl⟩
 obtain⟨Q,hQ⟩:∃ Q,Q=g*V:=⟨_,rfl⟩
 have hQW:Q<4294967296 ^ (n+1):=by rw[hQ]; exact hgV
 rw[<- hD];refine aF (λi=>(((g*aE (c.take i) / 4294967296 ^ i:Nat):Int),((if aE (w.take i)<Q%4294967296 ^ i then 1 else 0:Nat):Int),(i:Int),b.take j++(dl D i++b.drop (j+i)))) n ?_ (by omega) (λi hi K=>?_) (λK=>?_)
 ·simp[dl,aE,abH]
 ·have hx:=hb.at (i:=j+i);have hy:=hc.at (i:=i);have hcv:=aP (m:=c) i;have hp:=aU i;have hVi:=bC hc i;obtain⟨s1,s2⟩:=y_ hw hwl hU (by omega:i<=n) hQW;rw[hwg i (by omega)]at s1 s2;rw[hQ,<- hD,<- hQ]at s1;obtain⟨cy,hcy⟩:∃ cy,cy=g*aE (c.take i) / 4294967296 ^ i:=⟨_,rfl⟩
  have hcyl:cy<4294967296:=by rw[hcy,Ze hp];exact aaa hg hVi
  have e1:g*aE (c.take (i+1))=g*aE (c.take i)+4294967296 ^ i*(g*(c.getD i 0).toNat):=by rw[hcv,Zn,ZB g]
  have ecy:g*aE (c.take (i+1)) / 4294967296 ^ (i+1)=(g*(c.getD i 0).toNat+cy) / 4294967296:=by rw[Zh,<- Zd,e1,dI,<- hcy];congr 1; omega
  obtain⟨R,hR⟩:=ca (c.take n) (i+1);rw[aci,aal (by omega),<- hV]at hR;have elo:Q / 4294967296 ^ i%4294967296=(g*(c.getD i 0).toNat+cy)%4294967296:=by
   have:Q=g*aE (c.take (i+1))+4294967296 ^ (i+1)*(g*R):=by rw[hQ,hR,Zn,ZB g]
   rw[kv this,e1,dI,<- hcy];congr 1; omega
  rw[elo]at s1 s2;have ei:0+Int.toNat ((j:Int)+(i:Int))=j+i:=by omega
  have hgy:g*(c.getD i 0).toNat<=4294967295*4294967295:=ZZ (by omega) (by omega);have wy:IntKind.wrap .u64 (c.getD i 0)=(((c.getD i 0).toNat:Nat):Int):=by rw[aq]; omega
  have wp:IntKind.wrap .u64 ((g:Int)*(((c.getD i 0).toNat:Nat):Int))=((g*(c.getD i 0).toNat:Nat):Int):=by rw[<- Zp,aq]; omega
  have wpc:IntKind.wrap .u64 (((g*(c.getD i 0).toNat:Nat):Int)+(cy:Int))=((g*(c.getD i 0).toNat+cy:Nat):Int):=by rw[aq]; omega
  have wx:IntKind.wrap .u64 (b.getD (j+i) 0)=(((b.getD (j+i) 0).toNat:Nat):Int):=by rw[aq]; omega
  have hcf:Int.fdiv ((g*(c.getD i 0).toNat+cy:Nat):Int) (2 ^ 32)=((g*aE (c.take (i+1)) / 4294967296 ^ (i+1):Nat):Int):=by rw[jj,ecy]; rfl
  simp only[gj,Zb,Zx];have ei':Int.toNat ((j:Int)+(i:Int))=j+i:=by omega
  rw[ei',Ea D (by omega),D_ D (by omega),Y5 (by omega:(i:Int)<(n:Int)),Y8,aa Y4,aa (Y5 (by omega)),aa Y3,aa Y4,aa (Y5 (by omega)),<- hcy,wy,wp,wpc,wx,Cb,hcf];generalize (g*(c.getD i 0).toNat+cy)%4294967296=lo at *;have hlo:lo<4294967296:=by rw[<- elo]; exact Zm _ (by decide)
  obtain⟨bo,hbo⟩:∃ bo:Nat,bo=if aE (w.take i)<Q%4294967296 ^ i then 1 else 0:=⟨_,rfl⟩
  have hbo1:bo<=1:=by rw[hbo]; split <;> omega
  rw[<- hbo]at s1 s2 ⊢;obtain⟨x,hxe⟩:∃ x,x=(b.getD (j+i) 0).toNat:=⟨_,rfl⟩
  rw[<- hxe]at s1 s2 ⊢;have hxl:x<4294967296:=by omega
  have wlb:IntKind.wrap .u64 ((lo:Int)+(bo:Int))=((lo+bo:Nat):Int):=by rw[aq]; omega
  rw[wlb];by_cases hlt:x<lo+bo
  ·rw[if_pos hlt]at s2;have wv:IntKind.wrap .u32 (IntKind.wrap .u64 (IntKind.wrap .u64 ((x:Int)+4294967296) - ((lo+bo:Nat):Int)))=((D / 4294967296 ^ i%4294967296:Nat):Int):=by rw[<- s1,aq,aq,dc]; omega
   rw[Y5 (by omega),Y8,wv,aa Y3,aa Y4,aa (Y5 (by omega)),aa Y3,zi D (by omega),<- s2,jt];rfl
  ·rw[if_neg hlt]at s2;have wv:IntKind.wrap .u32 (IntKind.wrap .u64 ((x:Int) - ((lo+bo:Nat):Int)))=((D / 4294967296 ^ i%4294967296:Nat):Int):=by rw[<- s1,aq,dc]; omega
   rw[Y6 (by omega),Y7,wv,aa Y3,aa Y4,aa (Y5 (by omega)),aa Y3,zi D (by omega),<- s2,jt];rfl
 ·have hx:=hb.at (i:=j+n);obtain⟨s1,s2⟩:=y_ hw hwl hU (Zi n) hQW;rw[hwg n (by omega)]at s1 s2;rw[hQ,<- hD,<- hQ]at s1;have hql:Q / 4294967296 ^ n<4294967296:=by rw[Ze (aU n),Y_,<- Zh]; exact hQW
  rw[Zg hql]at s1 s2;have hwt:w.take (n+1)=w:=Zt (by omega);rw[hwt,<- hU,Zg hQW]at s2;simp only[gj];have ei':0+Int.toNat ((j:Int)+(n:Int))=j+n:=by omega
  rw[Y6 (by omega:¬(n:Int)<(n:Int)),Y7,<- hV,<- hQ];rw[ei',Ea D (by omega),D_ D (by omega),aa Y3,aa Y4,aa (Y5 (by omega)),aa Y3,aa Y4,aa (Y5 (by omega))];obtain⟨y,hy⟩:∃ y,y=Q / 4294967296 ^ n:=⟨_,rfl⟩
  rw[<- hy]at s1 s2 hql ⊢;obtain⟨bo,hbo⟩:∃ bo:Nat,bo=if aE (w.take n)<Q%4294967296 ^ n then 1 else 0:=⟨_,rfl⟩
  have hbo1:bo<=1:=by rw[hbo]; split <;> omega
  rw[<- hbo]at s1 s2 ⊢;have wx:IntKind.wrap .u64 (b.getD (j+n) 0)=(((b.getD (j+n) 0).toNat:Nat):Int):=by rw[aq]; omega
  rw[wx];obtain⟨x,hxe⟩:∃ x,x=(b.getD (j+n) 0).toNat:=⟨_,rfl⟩
  rw[<- hxe]at s1 s2 ⊢;have hxl:x<4294967296:=by omega
  have wlb:IntKind.wrap .u64 ((y:Int)+(bo:Int))=((y+bo:Nat):Int):=by rw[aq]; omega
  have wv:IntKind.wrap .u32 (IntKind.wrap .u64 ((x:Int) - ((y+bo:Nat):Int)))=((D / 4294967296 ^ n%4294967296:Nat):Int):=by rw[<- s1,aq,dc]; omega
  rw[wlb,wv,zi D (by omega)];have hdec:decide ((x:Int)<((y+bo:Nat):Int))=decide (U<Q):=by
   by_cases h1:U<Q
   ·rw[if_pos h1]at s2;rw[Y5 h1];refine Y5 ?_;split at s2 <;> omega
   ·rw[if_neg h1]at s2;rw[Y6 h1];refine Y6 ?_;split at s2 <;> omega
  rw[hdec]
def HY {N:Nat} {j n ul D V:Nat} {b c:List Int} (hN:n<N) (hc:InW c) (hcl:n<=c.length) (hul:j+n<ul) (hbl:ul<=b.length) (hbs:b.length<=1099511627780) (hV:V=aE (c.take n)) (k:Kz3) :
  Lu N 0 ul 0 n (j:Int) (b.take j++(dl D (n+1)++b.drop (j+(n+1)))) c k=k (b.take j++(dl (D+V) (n+1)++b.drop (j+(n+1)))):=by
 (unfold Lu; rw[af]; unfold Jl)
 obtain⟨E,hE⟩:∃ E,E=D+V:=⟨_,rfl⟩
 rw[<- hE];refine aF (λi=>((((D%4294967296 ^ i+aE (c.take i)) / 4294967296 ^ i:Nat):Int),(i:Int),b.take j++(dl E i++((dl D (n+1)).drop i++b.drop (j+(n+1)))))) n ?_ (by omega) (λi hi K=>?_) (λK=>?_)
 ·simp[dl,aE,abH]
 ·have hx:=hc.at (i:=i);have hcv:=aP (m:=c) i;have hVl:=bC hc i;have hp:=aU i;have hml:=Zm D hp;obtain⟨cy,hcy⟩:∃ cy,cy=(D%4294967296 ^ i+aE (c.take i)) / 4294967296 ^ i:=⟨_,rfl⟩
  have hcl1:cy<=1:=by
   have:cy<2:=by rw[hcy,Ze hp]; omega
   omega
  obtain⟨a1,a2⟩:=xu (D:=D) (V:=aE (c.take i)) (v:=(c.getD i 0).toNat) hcy;obtain⟨R,hR⟩:=ca (c.take n) (i+1);rw[aci,aal (by omega),<- hV,hcv]at hR;have a3:=a2 R;rw[<- hR,<- hE]at a3;have hdl:D / 4294967296 ^ i%4294967296<4294967296:=Zm _ (by decide);have ei':Int.toNat ((j:Int)+(i:Int))=j+i:=by omega
  simp only[gk,Zb,Zx,ei'];rw[D8 D E (by omega) (by omega),D7 D E (by omega) (by omega)];have wy:IntKind.wrap .u64 (c.getD i 0)=(((c.getD i 0).toNat:Nat):Int):=by rw[aq]; omega
  obtain⟨dg,hdg⟩:∃ dg,dg=D / 4294967296 ^ i%4294967296:=⟨_,rfl⟩
  rw[<- hdg]at a1 a3 hdl ⊢;have ws:IntKind.wrap .u64 (IntKind.wrap .u64 (IntKind.wrap .u64 (dg:Int)+(((c.getD i 0).toNat:Nat):Int))+(cy:Int))=((dg+(c.getD i 0).toNat+cy:Nat):Int):=by rw[aq,aq,aq]; omega
  have wf:Int.fdiv ((dg+(c.getD i 0).toNat+cy:Nat):Int) (2 ^ 32)=(((D%4294967296 ^ (i+1)+aE (c.take (i+1))) / 4294967296 ^ (i+1):Nat):Int):=by rw[hcv,a1,jj]; rfl
  have w3:IntKind.wrap .u32 ((dg+(c.getD i 0).toNat+cy:Nat):Int)=((E / 4294967296 ^ i%4294967296:Nat):Int):=by rw[a3,dc]; rfl
  rw[Y5 (by omega:(i:Int)<(n:Int)),Y8,aa Y3,aa Y4,aa (Y5 (by omega)),aa Y4,aa (Y5 (by omega)),aa Y3,aa Y4,aa (Y5 (by omega)),aa Y3,<- hcy,wy,ws,wf,w3,D9 D E (by omega) (by omega),jt]
 ·have hp:=aU n;have hml:=Zm D hp;have hVl:V<4294967296 ^ n:=by rw[hV]; exact bC hc n
  obtain⟨cy,hcy⟩:∃ cy,cy=(D%4294967296 ^ n+V) / 4294967296 ^ n:=⟨_,rfl⟩
  have hcl1:cy<=1:=by
   have:cy<2:=by rw[hcy,Ze hp]; omega
   omega
  obtain⟨a1,a3⟩:=B8 (D:=D) (V:=V) (i:=n) hcy;rw[<- hE]at a3;have hdl:D / 4294967296 ^ n%4294967296<4294967296:=Zm _ (by decide);have ei':0+Int.toNat ((j:Int)+(n:Int))=j+n:=by omega
  simp only[gk];rw[Y6 (by omega:¬(n:Int)<(n:Int)),Y7,ei',D8 D E (by omega) (by omega),D7 D E (by omega) (by omega),<- hV,<- hcy];obtain⟨dg,hdg⟩:∃ dg,dg=D / 4294967296 ^ n%4294967296:=⟨_,rfl⟩
  rw[<- hdg]at a3 hdl ⊢;have w3:IntKind.wrap .u32 ((dg:Int)+IntKind.wrap .u32 (cy:Int))=((E / 4294967296 ^ n%4294967296:Nat):Int):=by rw[a3,dc,dc]; omega
  rw[aa Y3,aa Y4,aa (Y5 (by omega)),aa Y4,aa (Y5 (by omega)),w3,D9 D E (by omega) (by omega)];rw[ZR (by rw[al]; omega),ZX]
def MZ {P A B U3 V2 U V g:Nat} (hB:B<P) (hg:g*P<=V) (hU:U=A+P*U3) (hV:V=B+P*V2) (h:g*V2<=U3) (hV0:0<V):g<=U / V+1:=by
 have h1:g*B<=g*P:=Zc _ (by omega);have h2:P*(g*V2)<=P*U3:=Zc _ h;have h3:g*V=g*B+P*(g*V2):=by rw[hV,Zn,ZB g P]
 have h4:g*V<=U+V:=by omega
 have h5:=abx U hV0;have h6:g*V<(U / V+2)*V:=by rw[show U / V+2=U / V+1+1 by omega,aaE,Y_ (U / V+1)];omega
 have:=Nat.lt_of_mul_lt_mul_right h6;omega
def R4 {V Y Z X U Q:Nat} (h1:V<Y) (h2:Y<=Z) (h3:X<=U) (h4:X=Q*4294967296) (h5:U<V*4294967296):Q<Z:=by omega
def Mv {P A B U V T u0 v0 v1:Nat} (hA:A<P) (hB:B<P) (hU:U=A+P*(u0+4294967296*T)) (hV:V=B+P*(v0+4294967296*v1)) (hv0:v0<4294967296) (hUV:U<V*4294967296):T<4294967296*v1+4294967296:=by
 have h1:V<P*(v0+4294967296*v1+1):=by rw[hV,acs]; omega
 have h2:P*(v0+4294967296*v1+1)<=P*(4294967296*v1+4294967296):=Zc _ (by omega);have h3:P*(4294967296*T)<=U:=by rw[hU,Zn P u0]; omega
 have h4:P*(4294967296*T)=P*T*4294967296:=by rw[Y_ 4294967296,Zf]
 have h5:P*T<P*(4294967296*v1+4294967296):=R4 h1 h2 h3 h4 hUV;exact abq h5
def Hx {N:Nat} (hN:5<N) {a:List Int} {s:Int} {d:Nat} {dl':List Int} {X la:Nat} (hla:a.length=la) (hX:X<4294967296 ^ (la+1)) (h1:la<=(ah X).length) (hs:la<=1099511627000) (e0:Nat->List Int->Bool) :
  am N (qU N a s d dl' e0) ((ah X).length,dl X (la+1))=e0 (la+1) (dl X (la+1)):=by
 have h2:(ah X).length<=la+1:=ci _ _ hX;have last:∀ K,qU N a s d dl' e0 (la+1,dl X (la+1)) K=e0 (la+1) (dl X (la+1)):=by intro K;simp only[qU];rw[hla,aa Y3,Y6 (by omega),Y7]
 by_cases h:(ah X).length=la+1
 ·rw[h];exact aF (λi=>(la+1,dl X (la+1))) 0 rfl (by omega) (λi hi K=>by omega) last
 ·have hl:(ah X).length=la:=by omega
  rw[hl];refine aF (λi=>(la+i,dl X (la+1))) 1 rfl (by omega) (λi hi K=>?_) last;have:i=0:=by omega
  subst this;have e1:(dl X (la+1)).take la++[0]=dl X (la+1):=by
   rw[nz X (by omega),dl];have:X / 4294967296 ^ la%4294967296=0:=by have:=ib X;rw[hl]at this;rw[ZA this]
   rw[this]; rfl
  show qU N a s d dl' e0 (la,dl X (la+1)) K=K (la+1,dl X (la+1));simp only[qU];rw[hla,aa Y3,Y5 (by omega),Y8,aa (Y5 (by rw[al]; omega)),aaB,e1,al,aa (Y5 (by omega))]
def Ru {N:Nat} (hN:1180591620717411303424<=N) {n j ul V v1:Nat} {s:Int} {b ql:List Int} (hVlt:V<4294967296 ^ (n+2)) (hVge:4294967296 ^ (n+1)<=V) (hv1:v1=V / 4294967296 ^ (n+1)) (hv1lo:2147483648<=v1) (hv1hi:v1<4294967296) (hbw:InW b) (hblen:b.length=ul) (hjl:j+(n+2)<ul) (hls:ul<=1099511627700) (hjq:j<ql.length)
  (hUlt:aE ((b.drop j).take (n+2+1))<V*4294967296) (e0:List Int->List Int->Bool) (K:Int × List Int × List Int->Bool) :
  iJ N s (n+2) ul ((n+2:Nat):Int) (v1:Int) (dl V (n+2+1)) e0 ((j:Int),b,ql) K
   = K ((j:Int) - 1,b.take j++(dl (aE ((b.drop j).take (n+2+1))%V) (n+2+1)++b.drop (j+(n+2+1))),ql.set j ((aE ((b.drop j).take (n+2+1)) / V:Nat):Int)):=by
 have hV0:0<V:=Zq (aU _) hVge;have hcv:aE ((dl V (n+2+1)).take (n+2))=V:=by rw[nz V (by omega),oN,Zg hVlt]
 have hU3:=SM (b.drop j) n;have hV2:=SL (dl V (n+2+1)) n;rw[show n+3=n+2+1 by omega,i7,i7,i7]at hU3;rw[hcv]at hV2;have a0:=hbw.at (i:=j+n);have a1:=hbw.at (i:=j+(n+1));have a2:=hbw.at (i:=j+(n+2));have c0:=(ip V (n+2+1)).at (i:=n);obtain⟨u0,hu0⟩:∃ u,u=(b.getD (j+n) 0).toNat:=⟨_,rfl⟩
 obtain⟨u1,hu1⟩:∃ u,u=(b.getD (j+(n+1)) 0).toNat:=⟨_,rfl⟩
 obtain⟨u2,hu2⟩:∃ u,u=(b.getD (j+(n+2)) 0).toNat:=⟨_,rfl⟩
 obtain⟨v0,hv0⟩:∃ u,u=((dl V (n+2+1)).getD n 0).toNat:=⟨_,rfl⟩
 have q0:b.getD (j+n) 0=(u0:Int):=by omega
 have q1:b.getD (j+(n+1)) 0=(u1:Int):=by omega
 have q2:b.getD (j+(n+2)) 0=(u2:Int):=by omega
 have k0:(dl V (n+2+1)).getD n 0=(v0:Int):=by omega
 have k1:((dl V (n+2+1)).getD (n+1) 0).toNat=v1:=by rw[rn V (by omega),Zb,<- hv1,Zg hv1hi]
 rw[<- hu0,<- hu1,<- hu2]at hU3;rw[<- hv0,k1]at hV2;have hAb:=bC (hbw.drop j) n;have hBb:=bC (ip V (n+2+1)) n;have hwv:∃ U,U=aE ((b.drop j).take (n+2+1)):=⟨_,rfl⟩
 obtain⟨U,hwv⟩:=hwv;rw[<- hwv]at hU3 hUlt ⊢;have hT:=Mv hAb hBb hU3 hV2 (by omega) hUlt;have hdW:U / V<4294967296:=by rw[Ze hV0,Y_]; exact hUlt
 have hv1p:0<v1:=by omega
 obtain⟨T,hTe⟩:∃ T,T=u2*4294967296+u1:=⟨_,rfl⟩
 rw[<- hTe]at hU3 hT;have hg0:T / v1<=4294967298:=by
  have:T / v1<4294967299:=by rw[Ze hv1p]; omega
  omega
 have hkb:U / V<=T / v1:=by rw[hTe]; rw[hTe]at hU3; exact Gg hAb hU3 hV2 hV0 hv1p (by omega)
 obtain⟨g,p1,p2,p3,p4⟩:=Bc (N:=N) (s5:=s) (ul:=ul) (j:=j) (n:=n+2) (u0:=u0) (v0:=v0) (v1:=v1) (T:=T) (d:=U / V) (b:=b) (c:=dl V (n+2+1)) (ql:=ql) (by omega) (by rw[show n+2 - 2=n by omega]; exact k0) (by rw[show j+(n+2) - 2=j+n by omega]; exact q0) (by rw[al]; omega) (by omega) (by omega) (by omega) (by omega) hv1hi (by omega) hT
  (λg hg=>Bh hAb hU3 hV2 hV0 (by rw[aa4 v0,Y_ 4294967296 v1]; omega)) hdW
  (T / v1) (T%v1) N (by omega) (by omega) (Z3 _ _) (aaL (Zm _ hv1p) hv1hi) hkb
 have hgd:g<=U / V+1:=MZ hBb (by have:g*4294967296 ^ n<=4294967296*4294967296 ^ n:=Y9 _ (Nat.le_of_lt p2);rw[<- Nat.pow_succ']at this;exact Zs this hVge) hU3 hV2 (by rw[aa4 v0,Y_ 4294967296 v1]; omega) hV0
 have hless:=λkk=>HV (N:=N) (j:=j) (n:=n+2) (ul:=ul) (g:=g) (U:=U) (V:=V) (b:=b) (c:=dl V (n+2+1)) (by omega) hbw (ip _ _) (by rw[al]; omega) (by omega) (by omega) (by omega) p2 hwv hcv.symm kk
 have jn:0+Int.toNat ((j:Int)+((n+2:Nat):Int))=j+(n+2):=by omega
 have jn1:0+Int.toNat ((j:Int)+((n+2:Nat):Int) - 1)=j+(n+1):=by omega
 have top0:(!decide ((v1:Int)=0))=true:=by simp; omega
 have wu2:IntKind.wrap .u64 (u2:Int)=(u2:Int):=by rw[aq]; omega
 have hor:aA .or .u64 (IntKind.wrap .u64 ((u2:Int)*2 ^ 32)) (IntKind.wrap .u64 (u1:Int))=(T:Int):=by rw[Nm (by omega) (by omega),hTe]
 have etd:IntKind.wrap .u64 (Int.tdiv (T:Int) (v1:Int))=((T / v1:Nat):Int):=by have:Int.tdiv (T:Int) (v1:Int)=((T / v1:Nat):Int):=rfl;rw[this,aq];generalize T / v1=z at *;omega
 have etm:Int.tmod (T:Int) (v1:Int)=((T%v1:Nat):Int):=rfl;have hfin:dl (U+4294967296 ^ (n+2+1) - U / V*V) (n+2+1)=dl (U%V) (n+2+1):=by
  have e:U+4294967296 ^ (n+2+1) - (U / V)*V=U%V+4294967296 ^ (n+2+1)*1:=by have:=Z3 U V;omega
  rw[e,F9 _ _ _ (Zi _)]
 have hgV:g*V<4294967296 ^ (n+2+1):=by rw[Zh,Y_];exact aaa hVlt p2
 simp only[iJ,jn,jn1,q1,q2,wu2,hor,etd,etm];rw[Y5 (by omega:(j:Int)>=0),Y8,aa Y3,aa Y4,aa (Y5 (by omega)),aa Y3,aa Y3,aa Y4,aa (Y5 (by omega)),aa top0,aa top0,p4,hless];by_cases hlt:U<g*V
 ·have hge:g=U / V+1:=by
   have:U / V<g:=by
    rcases Z6 (U / V) g with h | h
    ·exact h
    ·have:=(aaF hV0).1 h; omega
   omega
  have hmore:=λkk=>HY (N:=N) (j:=j) (n:=n+2) (ul:=ul) (D:=U+4294967296 ^ (n+2+1) - g*V) (V:=V) (b:=b) (c:=dl V (n+2+1)) (by omega) (ip _ _) (by rw[al]; omega) (by omega) (by omega) (by omega) hcv.symm kk
  have hD:U+4294967296 ^ (n+2+1) - g*V+V=U+4294967296 ^ (n+2+1) - U / V*V:=by
   have:g*V=U / V*V+V:=by rw[hge,aaE]
   omega
  have wg:IntKind.wrap .u32 (IntKind.wrap .u64 ((g:Int) - 1))=((U / V:Nat):Int):=by rw[hge];generalize U / V=z at *;rw[aq,dc]; omega
  rw[Y5 hlt,Y8,hmore,hD,hfin,aa Y4,aa (Y5 (by omega)),aa Y3,Zb,wg]
 ·have hge:g=U / V:=by have:=(aaF hV0).2 (Nat.le_of_not_lt hlt);omega
  have wg:IntKind.wrap .u32 (g:Int)=((U / V:Nat):Int):=by rw[hge];generalize U / V=z at *;rw[dc]; omega
  rw[Y6 hlt,Y7,wg,hge,hfin,aa Y4,aa (Y5 (by omega)),aa Y3,Zb]
def yq {N:Nat} (hN:1180591620717411303424<=N) {x y:Nat} (hxy:y<=x) (hy2:2<=(ah y).length) (hxl:(ah x).length<=1099511627000) (k:Ky8) :
  nO N (ah x) (ah y) k=k (ah (x / y)) (ah (x%y)):=by
 have hy0:y ≠ 0:=by intro h; rw[h,aX]at hy2; simp at hy2
 have hyx:=bX hxy;have hylt:=ib y;have hxlt:=ib x;have hylo:4294967296 ^ ((ah y).length - 1)<=y:=by
  rcases Z6 y (4294967296 ^ ((ah y).length - 1))with h | h
  ·have:=ci _ _ h; omega
  ·exact h
 (unfold nO; rw[af]; unfold B2)
 rw[jb x y ⟨by omega,by omega⟩ ⟨by omega,by omega⟩];have hc:decide (dr x y<0)=false:=by unfold dr; rw[if_neg (by omega)]; split <;> rfl
 obtain⟨n,hn⟩:∃ n,(ah y).length=n+2:=⟨(ah y).length - 2,by omega⟩
 obtain⟨lx,hlx⟩:∃ lx,(ah x).length=lx:=⟨_,rfl⟩
 have htd:(ah y).getD (n+1) 0=((y / 4294967296 ^ (n+1):Nat):Int):=by rw[lC,Zg];rw[Ze (aU _),Y_,<- Zh];rw[hn]at hylt; exact hylt
 rw[hn]at hylt hylo;rw[hlx]at hxlt;rw[show n+2 - 1=n+1 by omega]at hylo;obtain⟨t,ht⟩:∃ t,t=y / 4294967296 ^ (n+1):=⟨_,rfl⟩
 rw[<- ht]at htd;have htl:t<4294967296:=by rw[ht,Ze (aU _),Y_,<- Zh]; exact hylt
 have ht0:t ≠ 0:=by have:=abv hylo (aU (n+1)); omega
 obtain⟨g1,g2,g3⟩:=IH ht0 htl;have ein:Int.toNat (((n+2:Nat):Int) - 1)=n+1:=by omega
 have e1':(((n+2:Nat):Int)==1)=false:=by simp; omega
 rw[hc,Y7,hn,e1',Y7,aa Y3,aa Y4,ein,htd,KE N htl];obtain⟨s,hs⟩:∃ s,s=32 - bl t:=⟨_,rfl⟩
 rw[<- hs]at g1 g2 g3 ⊢;have hs0:0<2 ^ s:=Zj s;have ews:IntKind.wrap .u64 ((s:Nat):Int)=(s:Int):=by rw[aq]; omega
 rw[ews];obtain⟨V,hV⟩:∃ V,V=y*2 ^ s:=⟨_,rfl⟩
 obtain⟨X,hX⟩:∃ X,X=x*2 ^ s:=⟨_,rfl⟩
 have hVlt:V<4294967296 ^ (n+2):=by
  have h1:=abx y (aU (n+1));rw[<- ht]at h1;have h2:y*2 ^ s<4294967296 ^ (n+1)*(t+1)*2 ^ s:=ZS h1 hs0;have h3:(t+1)*2 ^ s<=4294967296:=by
   have hd:2 ^ s*2 ^ (32 - s)=4294967296:=by rw[<- Zk,show s+(32 - s)=32 by omega]
   have h4:t<2 ^ (32 - s):=by rw[Y_]at g3;rw[<- hd]at g3;exact abq g3
   rw[<- hd,Y_];exact Zc _ h4
  have h5:=Zc (4294967296 ^ (n+1)) h3;rw[hV,show n+2=n+1+1 by omega,Zh];rw[Zf]at h2;omega
 have hVge:4294967296 ^ (n+1)<=V:=by rw[hV]; exact Zs hylo (Z4 _ hs0)
 have hVlen:(ah V).length=n+2:=Nb hVge hVlt;have hV0:0<V:=Zq (aU _) hVge;have hx0:x ≠ 0:=by omega
 have hvt:V / 4294967296 ^ (n+1)=t*2 ^ s+y%4294967296 ^ (n+1)*2 ^ s / 4294967296 ^ (n+1):=by
  have h1:=ZW y (4294967296 ^ (n+1));rw[<- ht]at h1;have h2:V=y%4294967296 ^ (n+1)*2 ^ s+4294967296 ^ (n+1)*(t*2 ^ s):=by rw[hV,<- Zf,<- Zw]; congr 1; omega
  rw[h2,dI]; omega
 have hv1lo:2147483648<=V / 4294967296 ^ (n+1):=by rw[hvt]; exact Zs g2 (aaX _ _)
 have hv1hi:V / 4294967296 ^ (n+1)<4294967296:=by rw[Ze (aU _),Y_,<- Zh]; exact hVlt
 rw[qn hy0 g1 (by omega) (by omega),hn,<- hV,hVlen,qn hx0 g1 (by omega) (by omega),hlx,<- hX];have hs2:2 ^ s<=4294967296:=by rw[<- BD]; exact Zl (by decide) (by omega)
 have hXlt:X<4294967296 ^ (lx+1):=by rw[hX,Zh]; exact ZP hxlt hs2 (by decide)
 have hXlen2:lx<=(ah X).length:=by rw[<- hlx,hX]; exact bX (Z4 _ hs0)
 rw[Hx (by omega) hlx hXlt hXlen2 (by omega)];unfold od;obtain⟨M,hM⟩:∃ M,lx+1=M+(n+2):=⟨lx+1 - (n+2),by omega⟩
 have eM:(((lx+1:Nat):Int) - ((n+2:Nat):Int))=(M:Int):=by omega
 have ein2:0+Int.toNat (((n+2:Nat):Int) - 1)=n+1:=by omega
 rw[eM,Zb,aau,ein2,rn V (by omega),Zg hv1hi];obtain⟨v1,hv1⟩:∃ v1,v1=V / 4294967296 ^ (n+1):=⟨_,rfl⟩
 rw[<- hv1]at hv1lo hv1hi ⊢;have wv1:IntKind.wrap .u64 (v1:Int)=(v1:Int):=by rw[aq]; omega
 rw[wv1,aa Y3,aa (bQ (by omega) (by omega) (by omega) (by omega)),aa Y3,aa Y4,aa (Y5 (by rw[al]; omega)),aa Y3];have hstart:dl X (lx+1)=dl X M++(dl (X / 4294967296 ^ M%V) (n+2)++List.replicate 0 0):=by
  have hXM:X / 4294967296 ^ M<V:=by
   rw[Ze (aU M),hX,hV];have h1:x*2 ^ s<4294967296 ^ lx*2 ^ s:=ZS hxlt hs0;have h2:4294967296 ^ lx=4294967296 ^ (n+1)*4294967296 ^ M:=by rw[<- Zk]; congr 1; omega
   have h3:=Y9 (4294967296 ^ M*2 ^ s) hylo;rw[h2,Zf]at h1;have e:y*2 ^ s*4294967296 ^ M=y*(4294967296 ^ M*2 ^ s):=by rw[Zf,Y_ (2 ^ s)]
   rw[e]; omega
  rw[Zg hXM,ZJ,ZG,<- z8,<- hM]
 rw[hstart];have hQlt:X / V<4294967296 ^ M:=by
  rw[Ze hV0];have h1:x*2 ^ s<4294967296 ^ lx*2 ^ s:=ZS hxlt hs0;have h2:4294967296 ^ lx=4294967296 ^ M*4294967296 ^ (n+1):=by rw[<- Zk]; congr 1; omega
  have h3:=Zc (4294967296 ^ M) (Y9 (2 ^ s) hylo);rw[hX,hV];rw[h2,Zf]at h1;omega
 have hmk:M<=1099511627001:=by omega
 refine aF (λi=>((M:Int) - 1 - (i:Int),dl X (M - i)++(dl (X / 4294967296 ^ (M - i)%V) (n+2)++List.replicate i 0),List.replicate (M - i) (0:Int)++(dl (X / V) M).drop (M - i))) M ?_ (by omega) (λi hi K=>?_) (λK=>?_)
 ·rw[abd,ZR (by rw[al]; omega),ZG];congr 1;omega
 ·obtain⟨j,hj⟩:∃ j,M - i=j+1:=⟨M - i - 1,by omega⟩
  have hj2:M - (i+1)=j:=by omega
  have ei:(M:Int) - 1 - (i:Int)=(j:Int):=by omega
  have ei2:(M:Int) - 1 - ((i+1:Nat):Int)=(j:Int) - 1:=by omega
  rw[hj,hj2,ei,ei2];obtain⟨A,hA⟩:∃ A,A=X / 4294967296 ^ j:=⟨_,rfl⟩
  have hA1:X / 4294967296 ^ (j+1)=A / 4294967296:=by rw[hA,Zh,Zd]
  obtain⟨n1,n2⟩:=yP (A:=A) hV0;obtain⟨R,hR⟩:∃ R,R=A / 4294967296%V:=⟨_,rfl⟩
  have hRV:R<V:=by rw[hR]; exact Zm _ hV0
  rw[hA1,<- hR];rw[<- hR]at n1 n2;obtain⟨b,hb⟩:∃ b,b=dl X (j+1)++(dl R (n+2)++List.replicate i 0):=⟨_,rfl⟩
  have hblen:b.length=lx+1:=by rw[hb]; simp[al]; omega
  have hbw:InW b:=by
   rw[hb];intro z hz;rcases List.mem_append.1 hz with h | h
   ·exact ip _ _ z h
   ·rcases List.mem_append.1 h with h | h
    ·exact ip _ _ z h
    ·have:=(List.mem_replicate.1 h).2; subst this; omega
  have hbt:b.take j=dl X j:=by rw[hb,Z9 (by rw[al]; omega),nz X (by omega)]
  have hbd:b.drop j=((A%4294967296:Nat):Int)::(dl R (n+2)++List.replicate i 0):=by rw[hb,dl,Zo,Z8 (by rw[al]; omega),ZR (by rw[al]; omega),ZX,hA];rfl
  have hwv:aE ((b.drop j).take (n+2+1))=R*4294967296+A%4294967296:=by rw[hbd,ab0,Z9 (by rw[al]; omega),Zt (by rw[al]; omega),aE,oN,Zg (aaL hRV hVlt),Zb];omega
  have hbd2:b.drop (j+(n+2+1))=List.replicate i 0:=by rw[<- List.drop_drop,hbd,List.drop_succ_cons,Z8 (by rw[al]; omega),ZR (by rw[al]; omega),ZX]
  have hcv:aE ((dl V (n+2+1)).take (n+2))=V:=by rw[nz V (by omega),oN,Zg hVlt]
  have hAm:A%4294967296<4294967296:=Zm _ (by decide);have hUlt:R*4294967296+A%4294967296<V*4294967296:=by have:=Y9 4294967296 hRV;rw[aaE]at this;omega
  have hnext:dl X j++(dl (A%V) (n+2+1)++List.replicate i 0)=dl X j++(dl (A%V) (n+2)++List.replicate (i+1) 0):=by rw[CE (aaL (Zm A hV0) hVlt) 1,Zo,ZQ];rfl
  have hdg:X / V / 4294967296 ^ j%4294967296=A / V%4294967296:=by rw[hA,Zd,Zd,Y_ V]
  have hql:(List.replicate (j+1) (0:Int)++(dl (X / V) M).drop (j+1)).length=M:=by simp[al]; omega
  have hstep:=Ru (s:=(s:Int)) (j:=j) (b:=b) (ul:=lx+1) (ql:=List.replicate (j+1) (0:Int)++(dl (X / V) M).drop (j+1)) hN hVlt hVge hv1 hv1lo hv1hi hbw hblen (by omega) (by omega) (by omega) (by rw[hwv]; exact hUlt);rw[<- hb,hstep,hwv,n1,n2,hbt,hbd2,hnext,<- hdg,DD _ _ _ (by omega),<- hA]
 ·simp only[iJ];have e0:(M:Int) - 1 - (M:Int) = -1:=by omega
  rw[e0,Y6 (by omega),Y7,ZF,aaR,aaU,ZJ,ZX,aaB];obtain⟨L,hL⟩:∃ L,L=dl X 0++(dl (X%V) (n+2)++List.replicate M 0):=⟨_,rfl⟩
  have hRlt:X%V<4294967296 ^ (n+2):=aaL (Zm _ hV0) hVlt;have hLt:L.take (n+2)=dl (X%V) (n+2):=by rw[hL,show dl X 0=[] from rfl,ZX,Z9 (by rw[al]; omega),Zt (by rw[al]; omega)]
  have hLw:InW L:=by
   rw[hL];intro z hz;rcases List.mem_append.1 hz with h | h
   ·cases h
   ·rcases List.mem_append.1 h with h | h
    ·exact ip _ _ z h
    ·have:=(List.mem_replicate.1 h).2; subst this; omega
  have hLlen:n+2<=L.length:=by rw[hL]; simp[al]
  have en:Int.toNat ((n+2:Nat):Int) - 0=n+2:=by omega
  rw[<- hL,gZ _ (by rw[al]; omega) (by rw[al]; omega),en,aa (Y5 (by omega)),HS L (n+2) hLlen (by omega) (by omega)];have hcl:=i6 L (n+2);rw[Bo L hLw (bS L (n+2)) s (by omega) g1 (by omega) (by omega),qa,hLt,oN,Zg hRlt,al,xD hQlt];have hQlen:=ci _ _ hQlt;rw[aa (Y5 (by omega)),aaB,nz _ hQlen,MB,hX,hV,abN _ _ hs0,abO,aaS _ hs0]
def rH {N:Nat} (hN:1180591620717411303424<=N) {x y:Nat} (hy:0<y) (hxl:(ah x).length<=1099511627000) (hyl:(ah y).length<=1099511627000) (k:Ky8) :
  nO N (ah x) (ah y) k=k (ah (x / y)) (ah (x%y)):=by
 by_cases hxy:y<=x
 ·by_cases h2:2<=(ah y).length
  ·exact yq hN hxy h2 hxl k
  ·have hylt:=ib y;have hl1:(ah y).length=1:=by rw[ct (by omega)]at h2 ⊢; simp at h2 ⊢; exact h2
   rw[hl1,aca]at hylt;have hd:=rm (by omega:y ≠ 0) hylt;have hc:decide (dr x y<0)=false:=by unfold dr; rw[if_neg (by omega)]; split <;> rfl
   (unfold nO; rw[af]; unfold B2)
   rw[jb x y ⟨by omega,by omega⟩ ⟨by omega,by omega⟩,hc,Y7,hd];show cond (((1:Nat):Int)==1) _ _=_;rw[show(((1:Nat):Int)==1)=true from rfl,Y8,aa (aj (by omega) (by simp))];show m9 N (ah x) (y:Int) _=_;have hm:x%y<4294967296:=aaL (Zm _ hy) hylt;have hw:InW [((x%y:Nat):Int)]:=by intro z hz;simp only[aav,aa_,or_false]at hz;subst hz; omega
   have hv:aE [((x%y:Nat):Int)]=x%y:=by simp only[aE]; omega
   have hct:=dh (N:=N) [((x%y:Nat):Int)] hw (by simp; omega) (by simp) (λz=>k (ah (x / y)) z);rw[hv]at hct;rw[Fb hy hylt ⟨by omega,by omega⟩];exact hct
 ·have hc:decide (dr x y<0)=true:=by unfold dr; rw[if_pos (by omega)]; rfl
  (unfold nO; rw[af]; unfold B2)
  rw[jb x y ⟨by omega,by omega⟩ ⟨by omega,by omega⟩,hc,Y8,ZX,aa (Y5 (by omega)),ZA (by omega),Zg (by omega),aX]
def Df {N V f:Nat} (hf:f<4294967296000) (hN:20<N) (hs:dq N (ah V)) (hf2:f<4294967296\/True) (hlt:V / 2 ^ f<18446744073709551616) (hr:∀ kk,zI N (ah V) (f:Int) kk=kk (ah (V / 2 ^ f))) (k:Kz0):oW N (ah V) (f:Int) k=k ((V / 2 ^ f:Nat):Int):=by
 (unfold oW; rw[af]; unfold sv)
 have wf:IntKind.wrap .u64 (f:Int)=(f:Int):=by rw[aq]; omega
 rw[wf,hr];obtain⟨Y,hY⟩:∃ Y,Y=V / 2 ^ f:=⟨_,rfl⟩
 rw[<- hY]at hlt ⊢;have hl2:(ah Y).length<=2:=ci 2 Y (by
  have:(4294967296:Nat) ^ 2=18446744073709551616:=by decide
  omega)
 have hYl:=ib Y;obtain⟨L,hL⟩:∃ L,(ah Y).length=L:=⟨_,rfl⟩
 rw[hL]at hl2 hYl ⊢;rw[aa Y3];refine aF (λi=>(((Y / 4294967296 ^ (L - i):Nat):Int),(L:Int) - 1 - (i:Int))) L ?_ (by omega) (λi hi K=>?_) (λK=>?_)
 ·rw[abd,ZA hYl]; simp
 ·obtain⟨m,hm⟩:∃ m,L - i=m+1:=⟨L - i - 1,by omega⟩
  have hm2:L - (i+1)=m:=by omega
  have ei:(L:Int) - 1 - (i:Int)=(m:Int):=by omega
  have ei2:(L:Int) - 1 - ((i+1:Nat):Int)=(m:Int) - 1:=by omega
  rw[hm,hm2,ei,ei2];have hp:Y / 4294967296 ^ (m+1)=Y / 4294967296 ^ m / 4294967296:=by rw[Zh,Zd]
  have hle:=aaH Y (4294967296 ^ m);simp only[kn,Zb];rw[Y5 (by omega:(m:Int)>=0),Y8,hL,aa Y4,aa Y3,lC,hp];generalize Y / 4294967296 ^ m=Z at *;rw[Nm (by omega) (by omega)];congr 2;omega
 ·simp only[kn];have e0:(L:Int) - 1 - (L:Int) = -1:=by omega
  rw[e0,Y6 (by omega),Y7,ZF,aaR,aaU]
def sgn (neg:Bool) (n:Nat):Int:=cond neg (-(n:Int)) (n:Int)
def cH (n:Nat):sgn true n = -(n:Int):=rfl
def cX (n:Nat):sgn false n=(n:Int):=rfl
def zO (x0 y0 a b c d:Nat) (odd:Bool):Prop:=
 ∃ p q,x0=d*p+b*q/\y0=c*p+a*q/\(cond odd (b*c=a*d+1) (a*d=b*c+1))/\(cond odd (d<=q/\q+a+c<=p) (c<=q/\q+b+d<=p))/\1<=b/\1<=c/\1<=d/\a<=1073741824/\b<=1073741824/\c<=1073741824/\d<=1073741824
def D2 {N:Nat} {x0 y0:Nat} (hx0:x0<4611686018427387904) (hy0:y0<4611686018427387904) :
  ∀ q p a b c d odd M,q<M->x0=d*p+b*q->y0=c*p+a*q->(cond odd (b*c=a*d+1) (a*d=b*c+1)) ->
   a<=1073741824->b<=1073741824->c<=1073741824->d<=1073741824->1<=d->p<=x0 ->
   ((odd=false/\a=1/\b=0/\c=0/\d=1/\q<=p)\/(1<=b/\1<=c/\(cond odd (d<=q/\q+a+c<p) (c<=q/\q+b+d<p)))) ->
   ∃ a' b' c' d':Nat,∃ odd',(b'=0/\odd'=false\/zO x0 y0 a' b' c' d' odd') /\ ∀ e0,am M (nU N e0) (sgn odd a,sgn (!odd) b,sgn (!odd) c,sgn odd d,(p:Int),(q:Int))=e0 (sgn odd' a') (sgn (!odd') b') (sgn (!odd') c') (sgn odd' d'):=by
 intro q;induction q using Nat.strongRecOn with
 | ind q ih=>
 intro p a b c d odd M hM h1 h2 hdet ha hb hc hd hd1 hp hor;obtain⟨M,rfl⟩:∃ m,M=m+1:=⟨M - 1,by omega⟩
 have hgood:b=0/\odd=false\/zO x0 y0 a b c d odd:=by
  rcases hor with h | ⟨k1,k2,k3⟩
  ·exact .inl ⟨h.2.2.1,h.1⟩
  ·refine .inr ⟨p,q,h1,h2,hdet,?_,k1,k2,hd1,ha,hb,hc,hd⟩;cases odd
   ·simp only[Y7]at k3 ⊢; omega
   ·simp only[Y8]at k3 ⊢; omega
 have stop:∀(P:(Int->Int->Int->Int->Bool)->Bool),(∀ e0,P e0=e0 (sgn odd a) (sgn (!odd) b) (sgn (!odd) c) (sgn odd d)) -> ∃ a' b' c' d':Nat,∃ odd',(b'=0/\odd'=false\/zO x0 y0 a' b' c' d' odd') /\ ∀ e0,P e0=e0 (sgn odd' a') (sgn (!odd') b') (sgn (!odd') c') (sgn odd' d'):=
  λP hP=>⟨a,b,c,d,odd,hgood,hP⟩
 have hpq:p*1<=d*p:=by rw[Y_ d]; exact Zc _ hd1
 have hcp:c*p<=y0:=by omega
 have hdp:d*p<=x0:=by omega
 have hql:q<=p:=by
  rcases hor with h | ⟨k1,k2,k3⟩
  ·exact h.2.2.2.2.2
  ·cases odd
   ·simp only[Y7]at k3; omega
   ·simp only[Y8]at k3; omega
 obtain⟨u1,hu1⟩:∃ u1:Nat,(q:Int)+sgn (!odd) c=(u1:Int):=by
  rcases hor with h | ⟨k1,k2,k3⟩
  ·obtain⟨e1,e2,e3,e4,e5,e6⟩:=h;subst e1 e4; exact⟨q,by simp[sgn]⟩
  ·cases odd
   ·simp only[Y7]at k3;exact⟨q - c,by simp only[ZN,cH]; omega⟩
   ·exact⟨q+c,by simp only[Z0,cX]; omega⟩
 obtain⟨u2,hu2⟩:∃ u2:Nat,(q:Int)+sgn odd d=(u2:Int):=by
  rcases hor with h | ⟨k1,k2,k3⟩
  ·obtain⟨e1,e2,e3,e4,e5,e6⟩:=h;subst e1; exact⟨q+d,by simp only[cX]; omega⟩
  ·cases odd
   ·exact⟨q+d,by simp only[cX]; omega⟩
   ·simp only[Y8]at k3;exact⟨q - d,by simp only[cH]; omega⟩
 obtain⟨t1,ht1⟩:∃ t1:Nat,(p:Int)+sgn odd a=(t1:Int):=by
  rcases hor with h | ⟨k1,k2,k3⟩
  ·obtain⟨e1,e2,e3,e4,e5,e6⟩:=h;subst e1; exact⟨p+a,by simp only[cX]; omega⟩
  ·cases odd
   ·exact⟨p+a,by simp only[cX]; omega⟩
   ·simp only[Y8]at k3;exact⟨p - a,by simp only[cH]; omega⟩
 obtain⟨t2,ht2⟩:∃ t2:Nat,(p:Int)+sgn (!odd) b=(t2:Int):=by
  rcases hor with h | ⟨k1,k2,k3⟩
  ·obtain⟨e1,e2,e3,e4,e5,e6⟩:=h;subst e1 e3; exact⟨p,by simp[sgn]⟩
  ·cases odd
   ·simp only[Y7]at k3;exact⟨p - b,by simp only[ZN,cH]; omega⟩
   ·exact⟨p+b,by simp only[Z0,cX]; omega⟩
 have t1b:t1<=p+a:=by cases odd <;> simp only[cH,cX]at ht1 <;> omega
 have t2b:t2<=p+b:=by cases odd <;> simp only[Z0,ZN,cH,cX]at ht2 <;> omega
 have u1b:u1<=q+c:=by cases odd <;> simp only[Z0,ZN,cH,cX]at hu1 <;> omega
 have u2b:u2<=q+d:=by cases odd <;> simp only[cH,cX]at hu2 <;> omega
 by_cases c1:u1=0
 ·refine stop _ λe0=>?_
  show nU N e0 _ (am M _)=_;simp only[nU,hu1];have:(((u1:Nat):Int) != 0)=false:=by simp; omega
  rw[aa Y3,this,show(false==true)=false from rfl,Y7]
 have n1:(((u1:Nat):Int) != 0)=true:=by simp; omega
 have m1:(!decide ((u1:Int)=0))=true:=by simp; omega
 by_cases c2:u2=0
 ·refine stop _ λe0=>?_
  show nU N e0 _ (am M _)=_;simp only[nU,hu1,hu2];have:(((u2:Nat):Int) != 0)=false:=by simp; omega
  rw[aa Y3,n1,show(true==true)=true from rfl,Y8,aa Y3,this,Y7]
 have n2:(((u2:Nat):Int) != 0)=true:=by simp; omega
 have m2:(!decide ((u2:Int)=0))=true:=by simp; omega
 obtain⟨k1,hk1⟩:∃ k1,k1=t1 / u1:=⟨_,rfl⟩
 obtain⟨k2,hk2⟩:∃ k2,k2=t2 / u2:=⟨_,rfl⟩
 have k1b:k1<=t1:=by rw[hk1]; exact aaH _ _
 have k2b:k2<=t2:=by rw[hk2]; exact aaH _ _
 have d1:Int.tdiv (t1:Int) (u1:Int)=(k1:Int):=by rw[hk1]; rfl
 have d2:Int.tdiv (t2:Int) (u2:Int)=(k2:Int):=by rw[hk2]; rfl
 by_cases c3:k1=k2
 ·obtain⟨n,hn⟩:∃ n,n=k1:=⟨_,rfl⟩
  have hn2:n=k2:=by omega
  obtain⟨r1,hr1⟩:∃ r1,r1=t1%u1:=⟨_,rfl⟩
  obtain⟨r2,hr2⟩:∃ r2,r2=t2%u2:=⟨_,rfl⟩
  have E1:t1=n*u1+r1:=by rw[hn,hk1,hr1]; exact(Z3 t1 u1).symm
  have E2:t2=n*u2+r2:=by rw[hn2,hk2,hr2]; exact(Z3 t2 u2).symm
  have hr1l:r1<u1:=by rw[hr1]; exact Zm _ (by omega)
  have hr2l:r2<u2:=by rw[hr2]; exact Zm _ (by omega)
  have bnc:n*c<=4611686018427387904+1152921504606846976:=by
   have s1:n*c<=(p+a)*c:=Y9 _ (by omega);have s2:(p+a)*c=c*p+a*c:=by rw[Zw,Y_ p]
   have s3:a*c<=1073741824*1073741824:=ZZ ha hc;omega
  have bnd:n*d<=4611686018427387904+1152921504606846976:=by
   have s1:n*d<=(p+b)*d:=Y9 _ (by omega);have s2:(p+b)*d=d*p+b*d:=by rw[Zw,Y_ p]
   have s3:b*d<=1073741824*1073741824:=ZZ hb hd;omega
  have icn:(n:Int)*sgn (!odd) c=sgn (!odd) (n*c):=by cases odd <;> simp only[Z0,ZN,cH,cX,Zp,ab7]
  have idn:(n:Int)*sgn odd d=sgn odd (n*d):=by cases odd <;> simp only[cH,cX,Zp,ab7]
  have e2:sgn odd a - sgn (!odd) (n*c)=sgn odd (a+n*c):=by cases odd <;> simp only[Z0,ZN,cH,cX] <;> omega
  have f2:sgn (!odd) b - sgn odd (n*d)=sgn (!odd) (b+n*d):=by cases odd <;> simp only[Z0,ZN,cH,cX] <;> omega
  have hnq:n*q<=p/\(cond odd (p - n*q+b+n*d=r2/\p - n*q=r1+a+n*c) (p - n*q+a+n*c=r1/\p - n*q=r2+b+n*d)):=by
   cases odd with
   | false=>
    simp only[ZN,cH,cX]at hu1 hu2 ht1 ht2;simp only[Y7];have w2:u2=q+d:=by omega
    have w3:t2+b=p:=by omega
    have w1:u1+c=q:=by omega
    have w4:t1=p+a:=by omega
    have z1:n*u2=n*q+n*d:=by rw[w2,Zn]
    have z2:n*q=n*u1+n*c:=by rw[<- w1,Zn]
    omega
   | true=>
    simp only[Z0,cH,cX]at hu1 hu2 ht1 ht2;simp only[Y8];have w2:u2+d=q:=by omega
    have w3:t2=p+b:=by omega
    have w1:u1=q+c:=by omega
    have w4:t1+a=p:=by omega
    have z1:n*q=n*u2+n*d:=by rw[<- w2,Zn]
    have z2:n*u1=n*q+n*c:=by rw[w1,Zn]
    omega
  obtain⟨hnq,hnext⟩:=hnq;have inq:(n:Int)*(q:Int)=((n*q:Nat):Int):=(Zp _ _).symm;have ipq:(p:Int) - ((n*q:Nat):Int)=((p - n*q:Nat):Int):=by omega
  have fbd1 : -9223372036854775808<=sgn (!odd) (n*c)/\sgn (!odd) (n*c)<=9223372036854775807:=by cases odd <;> simp only[Z0,ZN,cH,cX] <;> omega
  have fbd2 : -9223372036854775808<=sgn odd (a+n*c)/\sgn odd (a+n*c)<=9223372036854775807:=by cases odd <;> simp only[cH,cX] <;> omega
  have fbd3 : -9223372036854775808<=sgn odd (n*d)/\sgn odd (n*d)<=9223372036854775807:=by cases odd <;> simp only[cH,cX] <;> omega
  have fbd4 : -9223372036854775808<=sgn (!odd) (b+n*d)/\sgn (!odd) (b+n*d)<=9223372036854775807:=by cases odd <;> simp only[Z0,ZN,cH,cX] <;> omega
  have ne3:(((k1:Nat):Int) != ((k2:Nat):Int))=false:=by simp[c3]
  have body:∀ e0,am (M+1) (nU N e0) (sgn odd a,sgn (!odd) b,sgn (!odd) c,sgn odd d,(p:Int),(q:Int)) =
    cond ((decide (sgn odd (a+n*c)>1073741824))==false) (cond ((decide (sgn odd (a+n*c)<(-1073741824)))==false) (cond ((decide (sgn (!odd) (b+n*d)>1073741824))==false) (cond (decide (sgn (!odd) (b+n*d)<(-1073741824))) (e0 (sgn odd a) (sgn (!odd) b) (sgn (!odd) c) (sgn odd d)) (am M (nU N e0) (sgn (!odd) c,sgn odd d,sgn odd (a+n*c),sgn (!odd) (b+n*d),(q:Int),((p - n*q:Nat):Int)))) (e0 (sgn odd a) (sgn (!odd) b) (sgn (!odd) c) (sgn odd d))) (e0 (sgn odd a) (sgn (!odd) b) (sgn (!odd) c) (sgn odd d))) (e0 (sgn odd a) (sgn (!odd) b) (sgn (!odd) c) (sgn odd d)):=by
   intro e0;show nU N e0 _ (am M _)=_;simp only[nU,hu1,hu2,ht1,ht2,d1,d2,ne3,Y7];rw[<- hn];simp only[icn,idn,e2,f2,inq,ipq];rw[aa Y3,n1,show(true==true)=true from rfl,Y8,aa Y3,n2,Y8,aa Y3,aa Y3,aa m1,aa Y3,aa Y3,aa Y3,aa m2,aa Y3,aa (ac fbd1.1 fbd1.2),aa (ac fbd2.1 fbd2.2),aa (ac fbd3.1 fbd3.2),aa (ac fbd4.1 fbd4.2),aa Y3,aa Y3]
  by_cases c4:a+n*c<=1073741824
  ·by_cases c5:b+n*d<=1073741824
   ·have q1:decide (sgn odd (a+n*c)>1073741824)=false:=Y6 (by cases odd <;> simp only[cH,cX] <;> omega);have q2:decide (sgn odd (a+n*c)<(-1073741824))=false:=Y6 (by cases odd <;> simp only[cH,cX] <;> omega);have q3:decide (sgn (!odd) (b+n*d)>1073741824)=false:=Y6 (by cases odd <;> simp only[Z0,ZN,cH,cX] <;> omega);have q4:decide (sgn (!odd) (b+n*d)<(-1073741824))=false:=Y6 (by cases odd <;> simp only[Z0,ZN,cH,cX] <;> omega);have hn1:1<=n:=by
     rw[hn,hk1];refine abv ?_ (by omega);rcases hor with h | ⟨g1,g2,g3⟩
     ·obtain⟨z1,z2,z3,z4,z5,z6⟩:=h;subst z1 z2 z4;simp only[ZN,cH,cX]at hu1 ht1;omega
     ·cases odd
      ·simp only[Y7]at g3;simp only[ZN,cH,cX]at hu1 ht1;omega
      ·simp only[Y8]at g3;simp only[Z0,cH,cX]at hu1 ht1;omega
    have hq0:1<=q\/q=0:=by omega
    have hlt:p - n*q<q:=by
     have s1:1*d<=n*d:=Y9 _ hn1;have s2:1*c<=n*c:=Y9 _ hn1;cases odd with
     | false=>
      simp only[Y7]at hnext;simp only[ZN,cH]at hu1;omega
     | true=>
      simp only[Y8]at hnext;simp only[cH]at hu2;omega
    obtain⟨a',b',c',d',odd',g1,g2⟩:=ih (p - n*q) hlt q c d (a+n*c) (b+n*d) (!odd) M (by omega)
     (by
      have s1:(b+n*d)*q=b*q+d*(n*q):=by grind
      have s2:d*(p - n*q)+d*(n*q)=d*p:=by rw[<- Zn]; congr 1; omega
      omega)
     (by
      have s1:(a+n*c)*q=a*q+c*(n*q):=by grind
      have s2:c*(p - n*q)+c*(n*q)=c*p:=by rw[<- Zn]; congr 1; omega
      omega)
     (by
      have s1:d*(a+n*c)=a*d+n*(c*d):=by grind
      have s2:c*(b+n*d)=b*c+n*(c*d):=by grind
      cases odd with
      | false=>simp only[ZN,Y8,Y7]at hdet ⊢; omega
      | true=>simp only[Z0,Y8,Y7]at hdet ⊢; omega)
     hc hd c4 c5 (by have s1:1*d<=n*d:=Y9 _ hn1;omega) (by omega)
     (.inr ⟨hd1,(by
      rcases hor with h | ⟨z1,z2,z3⟩
      ·omega
      ·have s2:1*c<=n*c:=Y9 _ hn1;omega),by
      cases odd with
      | false=>
       simp only[Y7]at hnext;simp only[ZN,cH,cX,Y8]at hu1 hu2 ⊢;omega
      | true=>
       simp only[Y8]at hnext;simp only[Z0,cH,cX,Y7]at hu1 hu2 ⊢;omega⟩)
    refine⟨a',b',c',d',odd',g1,λe0=>?_⟩;have:=g2 e0;rw[Bool.not_not]at this;rw[body,q1,q2,q3,q4];exact this
   ·refine stop _ λe0=>?_
    rw[body];cases odd with
    | false=>
     have q1:decide (sgn false (a+n*c)>1073741824)=false:=Y6 (by simp only[cX]; omega);have q2:decide (sgn false (a+n*c)<(-1073741824))=false:=Y6 (by simp only[cX]; omega);have q3:decide (sgn (!false) (b+n*d)>1073741824)=false:=Y6 (by simp only[ZN,cH]; omega);have q4:decide (sgn (!false) (b+n*d)<(-1073741824))=true:=Y5 (by simp only[ZN,cH]; omega);rw[q1,q2,q3,q4];rfl
    | true=>
     have q1:decide (sgn true (a+n*c)>1073741824)=false:=Y6 (by simp only[cH]; omega);have q2:decide (sgn true (a+n*c)<(-1073741824))=false:=Y6 (by simp only[cH]; omega);have q3:decide (sgn (!true) (b+n*d)>1073741824)=true:=Y5 (by simp only[Z0,cX]; omega);rw[q1,q2,q3];rfl
  ·refine stop _ λe0=>?_
   rw[body];cases odd with
   | false=>
    have q1:decide (sgn false (a+n*c)>1073741824)=true:=Y5 (by simp only[cX]; omega);rw[q1];rfl
   | true=>
    have q1:decide (sgn true (a+n*c)>1073741824)=false:=Y6 (by simp only[cH]; omega);have q2:decide (sgn true (a+n*c)<(-1073741824))=true:=Y5 (by simp only[cH]; omega);rw[q1,q2];rfl
 ·refine stop _ λe0=>?_
  show nU N e0 _ (am M _)=_;simp only[nU,hu1,hu2,ht1,ht2,d1,d2];have:(((k1:Nat):Int) != ((k2:Nat):Int))=true:=by simp; omega
  rw[aa Y3,n1,show(true==true)=true from rfl,Y8,aa Y3,n2,Y8,aa Y3,aa Y3,aa m1,aa Y3,aa Y3,aa Y3,aa m2,aa Y3,this,Y8]
def Fc {N:Nat} (hN:1180591620717411303424<=N) {x0 y0:Nat} (hx0:x0<4611686018427387904) (hyx:y0<=x0):∃ a b c d:Nat,∃ odd,(b=0/\odd=false\/zO x0 y0 a b c d odd) /\ ∀ k,qH N (x0:Int) (y0:Int) k=k (sgn odd a) (sgn (!odd) b) (sgn (!odd) c) (sgn odd d):=by
 obtain⟨a,b,c,d,odd,h1,h2⟩:=D2 (N:=N) (x0:=x0) (y0:=y0) hx0 (by omega) y0 x0 1 0 0 1 false N (by omega) (by omega) (by omega) rfl (by omega) (by omega) (by omega) (by omega) (by omega) (by omega) (.inl ⟨rfl,rfl,rfl,rfl,rfl,hyx⟩);refine⟨a,b,c,d,odd,h1,λk=>?_⟩
 (unfold qH; rw[af]; unfold pO)
 rw[aa Y3,aa Y3];exact h2 _
def MW {a b c d X Y:Nat} (hdet:b*c=a*d+1) (g1:a*X<=b*Y) (g2:d*Y<=c*X):X=d*(b*Y - a*X)+b*(c*X - d*Y)/\Y=c*(b*Y - a*X)+a*(c*X - d*Y):=by
 obtain⟨U,hU⟩:=aaO g1;obtain⟨V,hV⟩:=aaO g2;rw[<- hU,<- hV,ZL,ZL];constructor
 ·have t1:d*(b*Y)=d*(a*X)+d*U:=by rw[<- hU,Zn]
  have t2:b*(c*X)=b*(d*Y)+b*V:=by rw[<- hV,Zn]
  have t3:b*(c*X)=(a*d+1)*X:=by rw[<- hdet,Zf]
  have t4:(a*d+1)*X=d*(a*X)+X:=by grind
  have t5:d*(b*Y)=b*(d*Y):=by grind
  omega
 ·have t1:c*(b*Y)=c*(a*X)+c*U:=by rw[<- hU,Zn]
  have t2:a*(c*X)=a*(d*Y)+a*V:=by rw[<- hV,Zn]
  have t3:c*(b*Y)=(a*d+1)*Y:=by rw[<- hdet]; grind
  have t4:(a*d+1)*Y=a*(d*Y)+Y:=by grind
  have t5:c*(a*X)=a*(c*X):=by grind
  omega
def El {x0 y0 a b c d F rx ry X Y:Nat} (h:zO x0 y0 a b c d true) (hrx:rx<F) (hry:ry<F) (hX:X=x0*F+rx) (hY:Y=y0*F+ry) :
  a*X<=b*Y/\d*Y<=c*X/\c*X - d*Y<=b*Y - a*X/\X=d*(b*Y - a*X)+b*(c*X - d*Y)/\Y=c*(b*Y - a*X)+a*(c*X - d*Y):=by
 obtain⟨p,q,h1,h2,hdet,hin,hb1,hc1,hd1,hal,hbl,hcl,hdl⟩:=h;simp only[Y8]at hdet hin;obtain⟨hdq,hpq⟩:=hin;have e1:b*Y+a*rx=a*X+(p*F+b*ry):=by
  subst h1 h2 hX hY;have:b*(c*p*F)=(a*d+1)*(p*F):=by rw[<- hdet]; grind
  grind
 have e2:c*X+d*ry=d*Y+(q*F+c*rx):=by
  subst h1 h2 hX hY;have:b*c*(q*F)=(a*d+1)*(q*F):=by rw[<- hdet]
  grind
 have m1:a*rx<=a*F:=Zc _ (by omega);have m3:d*ry<=d*F:=Zc _ (by omega);have m4:d*F<=q*F:=Y9 _ hdq;have m5:(q+a+c)*F<=p*F:=Y9 _ hpq;rw[Zw,Zw]at m5;have m6:c*rx<=c*F:=Zc _ (by omega);have g1:a*X<=b*Y:=by omega
 have g2:d*Y<=c*X:=by omega
 obtain⟨i1,i2⟩:=MW hdet g1 g2;exact⟨g1,g2,by omega,i1,i2⟩
def B_ {x0 y0 a b c d F rx ry X Y:Nat} (h:zO x0 y0 a b c d false) (hrx:rx<F) (hry:ry<F) (hX:X=x0*F+rx) (hY:Y=y0*F+ry) :
  b*Y<=a*X/\c*X<=d*Y/\d*Y - c*X<=a*X - b*Y/\X=d*(a*X - b*Y)+b*(d*Y - c*X)/\Y=c*(a*X - b*Y)+a*(d*Y - c*X):=by
 obtain⟨p,q,h1,h2,hdet,hin,hb1,hc1,hd1,hal,hbl,hcl,hdl⟩:=h;simp only[Y7]at hdet hin;obtain⟨hdq,hpq⟩:=hin;have e1:a*X+b*ry=b*Y+(p*F+a*rx):=by
  subst h1 h2 hX hY;have:a*d*(p*F)=(b*c+1)*(p*F):=by rw[<- hdet]
  grind
 have e2:d*Y+c*rx=c*X+(q*F+d*ry):=by
  subst h1 h2 hX hY;have:a*d*(q*F)=(b*c+1)*(q*F):=by rw[<- hdet]
  grind
 have m1:b*ry<=b*F:=Zc _ (by omega);have m3:c*rx<=c*F:=Zc _ (by omega);have m4:c*F<=q*F:=Y9 _ hdq;have m5:(q+b+d)*F<=p*F:=Y9 _ hpq;rw[Zw,Zw]at m5;have m6:d*ry<=d*F:=Zc _ (by omega);have g1:b*Y<=a*X:=by omega
 have g2:c*X<=d*Y:=by omega
 refine⟨g1,g2,by omega,?_,?_⟩
 ·obtain⟨U,hU⟩:=aaO g1;obtain⟨V,hV⟩:=aaO g2;rw[<- hU,<- hV,ZL,ZL];have t1:d*(a*X)=d*(b*Y)+d*U:=by rw[<- hU,Zn]
  have t2:b*(d*Y)=b*(c*X)+b*V:=by rw[<- hV,Zn]
  have t3:d*(a*X)=(b*c+1)*X:=by rw[<- hdet]; grind
  have t4:(b*c+1)*X=b*(c*X)+X:=by grind
  have t5:d*(b*Y)=b*(d*Y):=by grind
  omega
 ·obtain⟨U,hU⟩:=aaO g1;obtain⟨V,hV⟩:=aaO g2;rw[<- hU,<- hV,ZL,ZL];have t1:c*(a*X)=c*(b*Y)+c*U:=by rw[<- hU,Zn]
  have t2:a*(d*Y)=a*(c*X)+a*V:=by rw[<- hV,Zn]
  have t3:a*(d*Y)=(b*c+1)*Y:=by rw[<- hdet]; grind
  have t4:(b*c+1)*Y=c*(b*Y)+Y:=by grind
  have t5:c*(a*X)=a*(c*X):=by grind
  omega
def yu {N X Y u v:Nat} (hN:1180591620717411303424<=N) (sX:(ah X).length<=1099511627000) (sY:(ah Y).length<=1099511627000) (hu:u<=1073741824) (hv:v<=1073741824) (hle:v*Y<=u*X) (k:Kz3) :
  GM N (ah X) (u:Int) (ah Y) (v:Int) k=k (ah (u*X - v*Y)):=by
 (unfold GM; rw[af]; unfold Js)
 have lu:=ci 1 u (by rw[aca]; omega);have lv:=ci 1 v (by rw[aca]; omega);have lX:=ci ((ah X).length+1) (X*u) (by rw[Zh]; exact aaa (ib X) (by omega))
 rw[rK u (by omega) (by omega),rI _ _ (aR _) (aR _) (by omega) (by omega),rK v (by omega) (by omega),rI _ _ (aR _) (aR _) (by omega) (by omega),aD,aD,aD,aD,
  uW _ _ (aR _) (aR _) (by rw[aD,aD,Y_ X,Y_ Y]; exact hle) ⟨by omega,by omega⟩,aD,aD,Y_ X,Y_ Y]
def vZ {N X Y u v:Nat} (hN:1180591620717411303424<=N) (sX:(ah X).length<=1099511627000) (sY:(ah Y).length<=1099511627000) (hu:u<=1073741824) (hv:v<=1073741824) (hle:v*Y<=u*X) (k:Kz3) :
  lL N (ah X) (u:Int) (ah Y) (-(v:Int)) k=k (ah (u*X - v*Y)):=by
 (unfold lL; rw[af]; unfold q9)
 have w1:IntKind.wrap .u64 (u:Int)=(u:Int):=by rw[aq]; omega
 have w2:IntKind.wrap .u64 (0 - -(v:Int))=(v:Int):=by rw[aq]; omega
 rw[Y5 (by omega : -(v:Int)<=0),Y8,aa Y3,w1,w2,yu hN sX sY hu hv hle]
def vY {N X Y u v:Nat} (hN:1180591620717411303424<=N) (sX:(ah X).length<=1099511627000) (sY:(ah Y).length<=1099511627000) (hu:u<=1073741824) (hv:v<=1073741824) (hv1:1<=v) (hle:u*X<=v*Y) (k:Kz3) :
  lL N (ah X) (-(u:Int)) (ah Y) (v:Int) k=k (ah (v*Y - u*X)):=by
 (unfold lL; rw[af]; unfold q9)
 have w1:IntKind.wrap .u64 (v:Int)=(v:Int):=by rw[aq]; omega
 have w2:IntKind.wrap .u64 (0 - -(u:Int))=(u:Int):=by rw[aq]; omega
 rw[Y6 (by omega:¬(v:Int)<=0),Y7,aa Y3,w1,w2,yu hN sY sX hv hu hle]
def Cs {N:Nat} (hN:1180591620717411303424<=N) (e0:List Int->Bool):∀(b a M:Nat),b<M->(ah a).length<=1099511627000->(ah b).length<=1099511627000->am M (vn N e0) (ah a,ah b)=e0 (ah (Nat.gcd a b)):=by
 intro b;induction b using Nat.strongRecOn with
 | ind b ih=>
 intro a M hM ha hb;obtain⟨M,rfl⟩:∃ m,M=m+1:=⟨M - 1,by omega⟩
 show vn N e0 (ah a,ah b) (am M _)=_;simp only[vn];by_cases h:b=0
 ·subst h;have:(((ah 0).length:Nat):Int)=0:=by rw[aX]; rfl
  rw[this,Y6 (by omega),Y7,abD]
 ·have hp:0<(ah b).length:=by rw[ct h]; simp
  have hm:=Zm a (by omega:b>0);have hml:=bX (Nat.le_of_lt hm);rw[Y5 (by omega),Y8,rH hN (by omega) ha hb,ih (a%b) hm b M (by omega) hb (by omega),aan b,<- acb,aan]
def oG {N V f:Nat} (hf:f<140737488355328) (hs:(ah V).length+3<N/\(ah V).length<=1099511627000) (k:Kz3):zI N (ah V) (f:Int) k=k (ah (V / 2 ^ f)):=by
 have hm:=aR V;have hmv:=aD V
 (unfold zI; rw[af]; unfold Pq)
 obtain⟨hN1,hN2⟩:=hs;have ew:IntKind.wrap .u64 (Int.tdiv (f:Int) 32)=((f / 32:Nat):Int):=by rw[aq,Z_ (by omega)]; omega
 have es:Int.tmod (f:Int) 32=((f%32:Nat):Int):=by rw[Z1 (by omega)]; rfl
 rw[ew,es,aa Y3];have hp2:2 ^ f=4294967296 ^ (f / 32)*2 ^ (f%32):=uc f;obtain⟨w,hw⟩:∃ w,w=f / 32:=⟨_,rfl⟩
 obtain⟨s,hsh⟩:∃ s,s=f%32:=⟨_,rfl⟩
 rw[<- hw,<- hsh]at hp2 ⊢;have hs32:s<32:=by omega
 have hs0:0<2 ^ s:=Zj s;obtain⟨m,hme⟩:∃ m,m=ah V:=⟨_,rfl⟩
 rw[<- hme]at hm hmv hN1 hN2 ⊢;by_cases h0:m.length<=w
 ·rw[Y5 (by omega:((w:Nat):Int)>=m.length),Y8];have h1:=di hm;rw[hmv]at h1;have h2:4294967296 ^ m.length<=4294967296 ^ w:=Zl (by decide) h0;have h3:V / 2 ^ f=0:=by rw[hp2];refine ZA ?_;have:4294967296 ^ w*1<=4294967296 ^ w*2 ^ s:=Zc _ hs0;omega
  rw[h3,aX]
 ·rw[Y6 (by omega:¬((w:Nat):Int)>=m.length),Y7];obtain⟨Z,hZ⟩:∃ Z,Z=V / 2 ^ f:=⟨_,rfl⟩
  have elen:Int.toNat ((m.length:Int) - ((w:Nat):Int))=m.length - w:=by omega
  rw[elen,aa Y3,aa (bQ (by omega) (by omega) (by omega) (by omega)),<- hZ];obtain⟨L,hL⟩:∃ L,L=m.length - w:=⟨_,rfl⟩
  rw[<- hL];refine aF (λi=>((i:Int),dl Z i++List.replicate (L - i) 0)) L (by simp[dl]) (by omega) (λi hi K=>?_) (λK=>?_)
  ·have hx:=hm.at (i:=w+i);have hy:=hm.at (i:=w+i+1);have hset:=xK Z i L (by omega);have hl:(dl Z i++List.replicate (L - i) 0).length=L:=by simp[al]; omega
   have ei:Int.toNat ((w:Int)+(i:Int))=w+i:=by omega
   have ei1:Int.toNat ((w:Int)+(i:Int)+1)=w+i+1:=by omega
   have emin:min s 64=s:=by omega
   obtain⟨R,hR⟩:=zZ hm (w+i);rw[hmv]at hR;have hdig:Z / 4294967296 ^ i%4294967296=((m.getD (w+i) 0).toNat+4294967296*(m.getD (w+i+1) 0).toNat) / 2 ^ s%4294967296:=by
    rw[hZ,hp2,Zd];have e1:4294967296 ^ w*2 ^ s*4294967296 ^ i=4294967296 ^ (w+i)*2 ^ s:=by rw[Zk,Zf,Y_ (2 ^ s),<- Zf]
    rw[e1,<- Zd,hR];have e2:4294967296*4294967296*R=2 ^ s*(4294967296*(2 ^ (32 - s)*R)):=by
     have hs1:2 ^ s*2 ^ (32 - s)=4294967296:=by rw[<- Zk,show s+(32 - s)=32 by omega]
     rw[ZB (2 ^ s),<- Zf (2 ^ s),hs1,Zf]
    rw[e2,Z2 _ _ hs0,aao]
   have hfin:∀ z:Int,z=(((m.getD (w+i) 0).toNat+4294967296*(m.getD (w+i+1) 0).toNat:Nat):Int)->IntKind.wrap .u32 (Int.fdiv z (2 ^ s))=((Z / 4294967296 ^ i%4294967296:Nat):Int):=by
    intro z hz;have e:(2:Int) ^ s=((2 ^ s:Nat):Int):=by simp
    rw[hdig,hz,e,aay _ (by omega),dc];rfl
   simp only[jJ,Zb,ei,ei1,emin,hl];rw[Y5 (by omega:(i:Int)<L),Y8,aa Y3,aa Y4,aa Y3,aa Y3];by_cases hlast:w+i+1<m.length
   ·rw[Y5 (by omega:(w:Int)+(i:Int)+1<m.length),Y8,aa Y3,aa Y3,aa Y4,aa (Y5 (by omega)),aa Y4,aa (Y5 (by omega)),aa Y3];have e1:IntKind.wrap .u64 (m.getD (w+i) 0)=(((m.getD (w+i) 0).toNat:Nat):Int):=by rw[aq]; omega
    have e2:IntKind.wrap .u64 (IntKind.wrap .u64 (m.getD (w+i+1) 0)*2 ^ 32)=((2 ^ 32*(m.getD (w+i+1) 0).toNat:Nat):Int):=by
     have:(2:Int) ^ 32=4294967296:=by decide
     have:(2:Nat) ^ 32=4294967296:=by decide
     rw[aq,aq]; omega
    have p32:(2:Nat) ^ 32=4294967296:=by decide
    rw[e1,e2,cB _ _ 32 (by omega) (by omega),hfin _ (by omega),hset,jt]
   ·rw[Y6 (by omega:¬(w:Int)+(i:Int)+1<m.length),Y7,aa (Y5 (by omega)),aa Y4,aa (Y5 (by omega)),aa Y3];have hz:m.getD (w+i+1) 0=0:=dJ (by omega);have e1:IntKind.wrap .u64 (m.getD (w+i) 0)=(((m.getD (w+i) 0).toNat:Nat):Int):=by rw[aq]; omega
    rw[e1,hfin _ (by rw[hz]; simp),hset,jt]
  ·simp only[jJ];have hl:(dl Z L++List.replicate (L - L) 0).length=L:=by simp[al]
   rw[Y6 (by omega:¬((L:Nat):Int)<(((dl Z L++List.replicate (L - L) (0:Int)).length:Nat):Int)),Y7,ZF,ZJ,ZG];have hVl:Z<4294967296 ^ L:=by have h1:=di hm;rw[hmv]at h1;rw[hZ,Ze (Zj f),hp2,<- Zf,<- Zk,show L+w=m.length by omega];have:4294967296 ^ m.length*1<=4294967296 ^ m.length*2 ^ s:=Zc _ hs0;omega
   rw[dh _ (ip Z _) (by rw[al]; omega) (by rw[al]; omega),oq hVl]
def vL {N:Nat} (hN:1180591620717411303424<=N) {u v:List Int} (k:Kz3) :
  ∀ s x y,x+y=s->s<N->y<=x->(ah x).length<=134217728000 ->
   FU N u v (ah x) (ah y) k=k (ah (Nat.gcd x y)):=by
 intro s x y hs hsN hyx hxl;unfold FU;have main:∀ s x y M,x+y=s->s<M->M<=N->y<=x->(ah x).length<=134217728000 ->
   am M (yV N (λ(UN:List Int) (Um:List Int)=>(am N (vn N (λ(WZ:List Int)=>((decide ((List.length ([]++WZ))*4<=140737488355328))&&(k ([]++WZ))))) (UN,Um)))) (ah x,ah y)=k (ah (Nat.gcd x y)):=by
  intro s;induction s using Nat.strongRecOn with
  | ind s ih=>
  intro x y M hs hsM hMN hyx hxl;obtain⟨M,rfl⟩:∃ m,M=m+1:=⟨M - 1,by omega⟩
  have hyl:=bX hyx;show yV N _ (ah x,ah y) (am M _)=_;simp only[yV];by_cases h2:3<=(ah y).length
  ·have hyge:18446744073709551616<=y:=by
    rcases Z6 y 18446744073709551616 with h | h
    ·have:=ci 2 y (by
      have:(4294967296:Nat) ^ 2=18446744073709551616:=by decide
      omega)
     omega
    ·exact h
   have hblx:64<bl x:=by
    rcases Z6 64 (bl x)with h | h
    ·exact h
    ·have h1:=vG x;have h3:2 ^ bl x<=2 ^ 64:=Zl (by decide) h;rw[mm]at h3;omega
   have hblu:bl x<=32*(ah x).length:=by refine tH ?_;rw[ab6,BD]; exact ib x
   obtain⟨f,hf⟩:∃ f,bl x=f+62:=⟨bl x - 62,by omega⟩
   have ef:(bl x:Int) - 62=(f:Int):=by omega
   have hF0:0<2 ^ f:=Zj f;have p62:(2:Nat) ^ 62=4611686018427387904:=by decide
   have hx0l:x / 2 ^ f<4611686018427387904:=by rw[Ze hF0,<- p62,<- Zk,aa4,<- hf]; exact vG x
   have hy0l:y / 2 ^ f<=x / 2 ^ f:=abm hyx;rw[Y5 (by omega),Y8,yi false x ⟨by omega,by omega⟩,ef,aa Y3,
    Df (by omega) (by omega) ⟨by omega,by omega⟩ (.inr trivial) (by omega) (λkk=>oG (by omega) ⟨by omega,by omega⟩ kk),
    Df (by omega) (by omega) ⟨by omega,by omega⟩ (.inr trivial) (by omega) (λkk=>oG (by omega) ⟨by omega,by omega⟩ kk)]
   obtain⟨a,b,c,d,odd,g1,g2⟩:=Fc hN hx0l hy0l;rw[g2];rcases g1 with⟨hb0,ho⟩ | hgood
   ·subst hb0 ho;have e0:(sgn (!false) 0==0)=true:=rfl;have hm:=Zm x (by omega:y>0);rw[e0,Y8,rH hN (by omega) (by omega) (by omega),ih (y+x%y) (by omega) y (x%y) M rfl (by omega) (by omega) (by omega) (by omega),aan y,<- acb,aan]
   ·obtain⟨p,q,z1,z2,z3,z4,hb1,hc1,hd1,hal,hbl,hcl,hdl⟩:=id hgood;have fin:∀ U V:Nat,x=d*U+b*V->y=c*U+a*V->V<=U->U+V<x+y/\U<=x:=by
     intro U V hx hy hvu;have k1:1*U<=d*U:=Y9 _ hd1;have k2:1*V<=b*V:=Y9 _ hb1;have k3:1*U<=c*U:=Y9 _ hc1;have hU0:0<U:=by
      rcases aat U with hu | hu
      ·exfalso;have hv:V=0:=by omega
       rw[hu,hv,aar,aar]at hy;omega
      ·exact hu
     exact⟨by omega,by omega⟩
    cases odd with
    | true=>
     obtain⟨f1,f2,f3,f4,f5⟩:=El hgood (Zm x hF0) (Zm y hF0) (Z3 x (2 ^ f)).symm (Z3 y (2 ^ f)).symm;obtain⟨w1,w2⟩:=fin _ _ f4 f5 f3;have hgc:=tN f4 f5 (aby (Zv (aaj _ _) _) (Zv (ZY _ _) _)) (aby (Zv (ZY _ _) _) (Zv (aaj _ _) _));have hUl:=bX w2;have e0:(sgn (!true) b==0)=false:=by simp only[Z0,cX]; simp; omega
     have s1:sgn true a = -(a:Int):=rfl;have s2:sgn (!true) b=(b:Int):=rfl;have s3:sgn (!true) c=(c:Int):=rfl;have s4:sgn true d = -(d:Int):=rfl;rw[e0,Y7,s1,s2,s3,s4,vY hN (by omega) (by omega) hal hbl hb1 f1,vZ hN (by omega) (by omega) hcl hdl f2,ih _ (by omega) _ _ M rfl (by omega) (by omega) f3 (by omega),hgc]
    | false=>
     obtain⟨f1,f2,f3,f4,f5⟩:=B_ hgood (Zm x hF0) (Zm y hF0) (Z3 x (2 ^ f)).symm (Z3 y (2 ^ f)).symm;obtain⟨w1,w2⟩:=fin _ _ f4 f5 f3;have hgc:=tN f4 f5 (aby (Zv (ZY _ _) _) (Zv (aaj _ _) _)) (aby (Zv (aaj _ _) _) (Zv (ZY _ _) _));have hUl:=bX w2;have e0:(sgn (!false) b==0)=false:=by simp only[ZN,cH]; simp; omega
     have s1:sgn false a=(a:Int):=rfl;have s2:sgn (!false) b = -(b:Int):=rfl;have s3:sgn (!false) c = -(c:Int):=rfl;have s4:sgn false d=(d:Int):=rfl;rw[e0,Y7,s1,s2,s3,s4,vZ hN (by omega) (by omega) hal hbl f1,vY hN (by omega) (by omega) hcl hdl hd1 f2,ih _ (by omega) _ _ M rfl (by omega) (by omega) f3 (by omega),hgc]
  ·rw[Y6 (by omega),Y7,Cs hN _ y x N (by omega) (by omega) (by omega),ZX];have hgl:(ah (Nat.gcd x y)).length<=134217728000:=by
    by_cases h0:x=0
    ·have hy0:y=0:=by omega
     rw[h0,hy0,abD,aX]; simp
    ·have:=bX (Nat.gcd_le_left y (abE h0));omega
   rw[aa (Y5 (by omega))]
 exact main s x y N hs hsN (Zi _) hyx hxl
def E4 {N:Nat} (hN:1180591620717411303424<=N) {x y:Nat} (hf:x+y<N) (hxl:(ah x).length<=134217728000) (hyl:(ah y).length<=134217728000) (k:Kz3):DK N (ah x) (ah y) k=k (ah (Nat.gcd x y)):=by
 (unfold DK; rw[af]; unfold Jn)
 rw[jb x y ⟨by omega,by omega⟩ ⟨by omega,by omega⟩];by_cases h:x<y
 ·have hc:decide (dr x y<0)=true:=by unfold dr; rw[if_pos h]; rfl
  rw[hc,Y8,vL hN _ (y+x) y x rfl (by omega) (by omega) hyl,aan]
 ·have hc:decide (dr x y<0)=false:=by unfold dr; rw[if_neg h]; split <;> rfl
  rw[hc,Y7,vL hN _ (x+y) x y rfl hf (by omega) hxl]
def wD {a b:Nat} (ha:a<4294967296) (hb:b<4294967296):aA .and .u32 (a:Int) (b:Int)=((a &&& b:Nat):Int):=by
 unfold aA pk;simp only[ZT];have h32:(2:Nat) ^ 32=4294967296:=by decide
 have e:((BitVec.ofInt (IntKind.bits .u32) (a:Int)) &&& (BitVec.ofInt (IntKind.bits .u32) (b:Int))).toNat=a &&& b:=by show((BitVec.ofInt 32 (a:Int)) &&& (BitVec.ofInt 32 (b:Int))).toNat=_;rw[abQ,aae,aae,aam,aam,Zg (by omega),Zg (by omega)]
 have hl:a &&& b<4294967296:=aaG Nat.and_le_left ha;rw[e,Ec _ hl]
def G9 {t c:Nat} (h:2 ^ t*(2*c+1)<2 ^ 32):(2 ^ t*(2*c+1)) &&& (2 ^ 32 - 2 ^ t*(2*c+1))=2 ^ t:=by
 have ht0:0<2 ^ t:=Zj t;have ht:t<32:=by
  rcases Z6 t 32 with h1 | h1
  ·exact h1
  ·have h2:2 ^ 32<=2 ^ t:=Zl (by decide) h1;have h3:2 ^ t*1<=2 ^ t*(2*c+1):=Zc _ (by omega);omega
 have e1:2 ^ t*(2*c+1)=(2 ^ t*(2*c)+(2 ^ t - 1))+1:=by rw[Zn]; omega
 refine abl λj=>?_
 rw[ab8];have e2:(2 ^ 32 - 2 ^ t*(2*c+1)).testBit j=(decide (j<32) && !(2 ^ t*(2*c)+(2 ^ t - 1)).testBit j):=by
  conv=>lhs; rw[e1]
  exact abW (by rw[e1]at h; omega) j
 rw[e2,Nat.testBit_two_pow_mul,ab9 _ (by omega),aa1];rcases abI j t with hj | hj | hj
 ·rw[Y6 (by omega:¬ j>=t),Y6 (by omega:¬ t=j)]; rfl
 ·subst hj;rw[if_neg (by omega),ZF,Y5 (Zi _),Y5 ht,Y5 rfl];have a1:(2*c+1).testBit 0=true:=by rw[abR]; simp
  have a2:(2*c).testBit 0=false:=by rw[abR]; simp
  rw[a1,a2]; rfl
 ·obtain⟨k,hk⟩:∃ k,j - t=k+1:=⟨j - t - 1,by omega⟩
  rw[if_neg (by omega),hk,Y5 (by omega:j>=t),Y6 (by omega:¬ t=j),abS,abS];have a1:(2*c+1) / 2=c:=by omega
  have a2:2*c / 2=c:=by omega
  rw[a1,a2];cases c.testBit k <;> simp
def Mh:∀ t:Fin 32,(inR (Int.fdiv (IntKind.wrap .u32 (((2 ^ t.val:Nat):Int)*125613361)) (2 ^ 27)) 32=true)/\(List.getD wz (Int.toNat (Int.fdiv (IntKind.wrap .u32 (((2 ^ t.val:Nat):Int)*125613361)) (2 ^ 27))) 0=(t.val:Int)):=by decide +kernel
def KL (N:Nat) {t c:Nat} (h:2 ^ t*(2*c+1)<4294967296) (k:Kz0):Q6 N ((2 ^ t*(2*c+1):Nat):Int) k=k (t:Int):=by
 have h32:(2:Nat) ^ 32=4294967296:=by decide
 have ht0:0<2 ^ t:=Zj t;have hx0:0<2 ^ t*(2*c+1):=aa9 ht0 (by omega);have ht:t<32:=by
  rcases Z6 t 32 with h1 | h1
  ·exact h1
  ·have h2:2 ^ 32<=2 ^ t:=Zl (by decide) h1;have h3:2 ^ t*1<=2 ^ t*(2*c+1):=Zc _ (by omega);omega
 (unfold Q6; rw[af]; unfold Mo)
 have ha:=G9 (t:=t) (c:=c) (by omega);rw[h32]at ha;generalize 2 ^ t*(2*c+1)=x at *;have e0:((x:Int)==0)=false:=by simp; omega
 have ew:IntKind.wrap .u32 (0 - (x:Int))=((4294967296 - x:Nat):Int):=by rw[dc]; omega
 obtain⟨t1,t2⟩:=Mh ⟨t,ht⟩;rw[e0,Y7,ew,wD h (by omega),ha,aa t1,t2,aa Y3]
def J9 {t c:Nat}:2 ^ t*(2*c+1) / 4294967296 ^ (t / 32)%4294967296=2 ^ (t%32)*(2*(c%2 ^ (31 - t%32))+1):=by
 have hs1:2 ^ (t%32)*2 ^ (32 - t%32)=4294967296:=by rw[<- Zk,show t%32+(32 - t%32)=32 by omega]
 rw[uc t,Zf,ZH _ (aU _),<- hs1,aaY];congr 1;have e1:2 ^ (32 - t%32)=2*2 ^ (31 - t%32):=by rw[show 32 - t%32=(31 - t%32)+1 by omega,Zh,Y_]
 rw[e1];have e2:=abh c (2 ^ (31 - t%32));generalize 2 ^ (31 - t%32)=P at *;generalize c / P=q at *;have hP:c%P<P\/P=0:=by
  rcases aat P with h | h
  ·exact .inr h
  ·exact .inl (Zm _ h)
 generalize c%P=r at *;have e3:2*c+1=(2*r+1)+2*P*q:=by rw[<- e2]; grind
 rw[e3,aao];rcases hP with h | h
 ·exact Zg (by omega)
 ·subst h; simp
def EA {t c i:Nat} (hi:i<t / 32):2 ^ t*(2*c+1) / 4294967296 ^ i%4294967296=0:=by
 have e:2 ^ t*(2*c+1)=4294967296 ^ (i+1)*(4294967296 ^ (t / 32 - (i+1))*(2 ^ (t%32)*(2*c+1))):=by rw[uc t,<- Zf,<- Zk,show i+1+(t / 32 - (i+1))=t / 32 by omega,Zf]
 rw[e,Zh,Zf,ZH _ (aU i),ack]
def ym {N:Nat} {t c:Nat} (g:Bool) (hN:dq N (ah (2 ^ t*(2*c+1)))) (ht:t<140737488355328) (k:Kz0):sQ5 N g (ah (2 ^ t*(2*c+1))) k=k (t:Int):=by
 (unfold sQ5; rw[af]; unfold GQ5)
 obtain⟨n1,n2⟩:=hN;have hd:=J9 (t:=t) (c:=c);have hgd:=λi=>lC i (2 ^ t*(2*c+1))
 have hlt:2 ^ t*(2*c+1) / 4294967296 ^ (t / 32)%4294967296<4294967296:=Zm _ (by decide);have hwl:t / 32<(ah (2 ^ t*(2*c+1))).length:=by
  refine Gp λh=>?_
  rw[h,Nat.zero_mod]at hd;have:=aa9 (Zj (t%32)) (show 0<2*(c%2 ^ (31 - t%32))+1 by omega);omega
 have hbel:=λi=>EA (t:=t) (c:=c) (i:=i)
 generalize ah (2 ^ t*(2*c+1))=l at *;refine aF (λi=>(i:Int)) (t / 32) rfl (by omega) (λi hi K=>?_) (λK=>?_)
 ·simp only[GR,Zb];have hz:(l.getD i 0 != 0)=false:=by rw[hgd,hbel i hi]; rfl
  rw[Y5 (by omega:(i:Int)<((l.length:Nat):Int)),Y8,aa Y4,hz,Y7,aa Y3];rfl
 ·simp only[GR,Zb];have hp:=aa9 (Zj (t%32)) (show 0<2*(c%2 ^ (31 - t%32))+1 by omega);have hz:(l.getD (t / 32) 0 != 0)=true:=by rw[hgd,hd]; simp only[bne_iff_ne,ne_eq]; omega
  rw[Y5 (by omega:((t / 32:Nat):Int)<((l.length:Nat):Int)),Y8,aa Y4,hz,Y8,aa Y3,aa Y4,hgd,hd,KL N (by rw[<- hd]; exact hlt),aa Y3];congr 1;rw[aq]; omega
def krR (z:Int) (d:Nat) (k:Kx5):Bool:=k (decide (z<0)) (ah z.natAbs) false (ah d)
def kqR (x:Rat) (k:Kx5):Bool:=krR x.num x.den k
def KB (g:Bool) (n d:Nat) (k:Kx5):k (sg g n) (ah n) false (ah d)=krR (aT g n) d k:=oQ g n (λa b=>k a b false (ah d))
def pu {B n:Nat} (hB:B<=2000000000100) (h:aK B n):(ah n).length<=62500000006:=by have:=pX h; omega
def o_ {N B n:Nat} (hF:Fuel N) (hB:B<=2000000000100) (h:aK B n):dq N (ah n):=by have h1:=pu hB h;have:=hF.lt;exact⟨by omega,by omega⟩
def Fi (g:Bool) (n d:Nat) (h0:0<d):(mkRat (aT g n) d).num=aT g (n / Nat.gcd n d)/\(mkRat (aT g n) d).den=d / Nat.gcd n d:=by
 have e:(aT g n).natAbs=n:=by unfold aT; cases g <;> simp
 have hg:0<Nat.gcd n d:=aad _ h0;constructor
 ·rw[acm,if_neg (by omega),e,aan];have hh:((Nat.gcd n d:Nat):Int) ≠ 0:=by omega
  have e2:aT g n=((Nat.gcd n d:Nat):Int)*aT g (n / Nat.gcd n d):=by
   have hnn:n=Nat.gcd n d*(n / Nat.gcd n d):=(Nat.mul_div_cancel' (ZY n d)).symm;have hc:(n:Int)=((Nat.gcd n d:Nat):Int)*((n / Nat.gcd n d:Nat):Int):=by rw[<- Zp,<- hnn]
   unfold aT;cases g
   ·simpa using hc
   ·simp only[aaD]; rw[hc,ab7]
  rw[e2,aa8 _ hh]
 ·rw[acn,if_neg (by omega),e,aan]
def ES (g:Bool) (n m:Nat):aT g (n*m)=aT g n*(m:Int):=by
 unfold aT; cases g
 ·simp
 ·simp[abw]
def Rw {t c u e:Nat} (h:2 ^ (u - min t u)*(2*e+1)<2 ^ (u - min t u+1)):Nat.gcd (2 ^ (t - min t u)*(2*c+1)) (2 ^ (u - min t u)*(2*e+1))=1:=by
 have he:e=0:=by
  rcases aat e with h1 | h1
  ·exact h1
  ·have:2 ^ (u - min t u)*2<=2 ^ (u - min t u)*(2*e+1):=Zc _ (by omega);rw[Zh]at h; omega
 subst he;rw[aar,Zx,aaT];rcases Nat.le_total t u with h1 | h1
 ·rw[aal h1,ZF,aaR,aaC];refine Nat.Coprime.pow_right _ ?_;show Nat.gcd (2*c+1) 2=1;rw[aan,acb];have:(2*c+1)%2=1:=by omega
  rw[this]; rfl
 ·rw[Nat.min_eq_right h1,ZF,aaR,Nat.gcd_one_right]
def D4 {t m c:Nat} (h:m<=t):2 ^ t*(2*c+1) / 2 ^ m=2 ^ (t - m)*(2*c+1):=by
 have:2 ^ t=2 ^ m*2 ^ (t - m):=by rw[<- Zk]; congr 1; omega
 rw[this,Zf,ZH _ (Zj m)]
def GT {B t c:Nat} (h:aK B (2 ^ t*(2*c+1))):t<B:=by
 unfold aK at h;have h1:2 ^ t*1<=2 ^ t*(2*c+1):=Zc _ (by omega);have h2:2 ^ t<2 ^ B:=by omega
 exact(Nat.pow_lt_pow_iff_right (by decide)).1 h2
def QD {t c:Nat}:bl (2 ^ t*(2*c+1))=t+1↔2 ^ t*(2*c+1)<2 ^ (t+1):=by
 have hp:=Zj t;have h0:2 ^ t*(2*c+1) ≠ 0:=by have:=aa9 hp (show 0<2*c+1 by omega); omega
 constructor
 ·intro h; have:=vG (2 ^ t*(2*c+1)); rwa [h]at this
 ·intro h;have h1:=tH h;have h2:=vG (2 ^ t*(2*c+1));have h3:2 ^ t*1<=2 ^ t*(2*c+1):=Zc _ (by omega);have h4:2 ^ t<2 ^ bl (2 ^ t*(2*c+1)):=by omega
  have:=(Nat.pow_lt_pow_iff_right (by decide:1<2)).1 h4;omega
def fA {N B n:Nat} (hF:Fuel N) (hB:B<=2000000000100) (h:aK B n) (k:Kz3):kc N (ah n) k=k (ah n):=by have h1:=pu hB h;have:=hF.lt;rw[Gj _ (aR n) (by omega) (by omega),aD]
def Au {N B:Nat} (hF:Fuel N) (hB:B<=2000000000100) (g:Bool) {n d:Nat} (hn:aK B n) (hd:aK B d) (hn0:n ≠ 0) (hd0:d ≠ 0) (J:List Int->List Int->Bool) (k:Kx5)
  (hJ:∀ a b:Nat,aK B a->aK B b->J (ah a) (ah b)=k (sg g a) (ah a) false (ah b)) :
  (sQ5 N false (ah n) (λ(nr:Int)=>(sQ5 N false (ah d) (λ(Uf:Int)=>
   (zI N (ah n) (cond (decide (Uf<nr)) Uf nr) (λ(Uk:List Int)=>(zI N (ah d) (cond (decide (Uf<nr)) Uf nr) (λ(Ul:List Int)=>(sQ5 N false Ul (λ(Uj:Int)=>((ai .i64 Uj)&&(Iy N false Ul (λ(Up:Int)=>((ai .i64 (Up - 1))&&(cond (Uj != (Up - 1)) (DK N Uk Ul (λ(s6:List Int)=>(pA N (λ(s7:List Int)=>(DP N s6 s7 (λ(UA:Int)=>(cond (UA != 0) (nO N Uk s6 (λ(s8:List Int) (s9:List Int)=>(nO N Ul s6 (λ(s10:List Int) (s11:List Int)=>(J s8 s10))))) (J Uk Ul)))))))) (J Uk Ul))))))))))))))))
   = kqR (mkRat (aT g n) d) k:=by
 have hl:=hF.lt;have hbig:=hF.big;obtain⟨t,c,hnt⟩:=yD n hn0;obtain⟨u,e,hdu⟩:=yD d hd0;have htB:t<B:=GT (by rw[<- hnt]; exact hn);have huB:u<B:=GT (by rw[<- hdu]; exact hd);have sn:=o_ hF hB hn;have sd:=o_ hF hB hd;have ln:=pu hB hn;have ld:=pu hB hd;have z1:=λkk=>ym (N:=N) (t:=t) (c:=c) false (by rw[<- hnt]; exact sn) (by omega) kk
 have z2:=λkk=>ym (N:=N) (t:=u) (c:=e) false (by rw[<- hdu]; exact sd) (by omega) kk
 rw[<- hnt]at z1;rw[<- hdu]at z2;rw[z1,z2];obtain⟨m,hm⟩:∃ m,m=min t u:=⟨_,rfl⟩
 have em:cond (decide ((u:Int)<(t:Int))) (u:Int) (t:Int)=(m:Int):=by
  by_cases h:u<t
  ·rw[Y5 (by omega),Y8,hm,Nat.min_eq_right (by omega)]
  ·rw[Y6 (by omega),Y7,hm,aal (by omega)]
 rw[em,oG (by omega) ⟨by omega,by omega⟩,oG (by omega) ⟨by omega,by omega⟩];have ha:n / 2 ^ m=2 ^ (t - m)*(2*c+1):=by rw[hnt]; exact D4 (by rw[hm]; exact Nat.min_le_left _ _)
 have hb:d / 2 ^ m=2 ^ (u - m)*(2*e+1):=by rw[hdu]; exact D4 (by rw[hm]; exact acq _ _)
 have hbn:aK B (n / 2 ^ m):=bW hn;have hbd:aK B (d / 2 ^ m):=bW hd;have hmk:mkRat (aT g n) d=mkRat (aT g (n / 2 ^ m)) (d / 2 ^ m):=by
  have e1:n=n / 2 ^ m*2 ^ m:=by
   rw[ha,hnt,acg,<- Zk];congr 2; have:m<=t:=by rw[hm]; exact Nat.min_le_left _ _
   omega
  have e2:d=d / 2 ^ m*2 ^ m:=by
   rw[hb,hdu,acg,<- Zk];congr 2; have:m<=u:=by rw[hm]; exact acq _ _
   omega
  conv=>lhs; rw[e1,e2,ES]
  rw[Rat.mkRat_mul_right (by have:=Zj m; omega)]
 rw[hmk];obtain⟨a,hae⟩:∃ a,a=n / 2 ^ m:=⟨_,rfl⟩
 obtain⟨b,hbe⟩:∃ b,b=d / 2 ^ m:=⟨_,rfl⟩
 rw[<- hae]at ha hbn ⊢;rw[<- hbe]at hb hbd ⊢;have hb0:0<b:=by rw[hb]; exact aa9 (Zj _) (by omega)
 have z3:=λkk=>ym (N:=N) (t:=u - m) (c:=e) false (by rw[<- hb]; exact o_ hF hB hbd) (by omega) kk
 rw[<- hb]at z3;have hblb:bl b<=B:=tH hbd;have hbl0:0<bl b:=(JP (by omega)).1;rw[z3,aa Y3,yi false b (o_ hF hB hbd),aa Y3];obtain⟨i1,i2⟩:=Fi g a b hb0;unfold kqR;rw[i1,i2];have fin1:Nat.gcd a b=1->J (ah a) (ah b)=krR (aT g (a / Nat.gcd a b)) (b / Nat.gcd a b) k:=by intro h;rw[hJ a b hbn hbd,KB _ _ _ k,h,aaU,aaU]
 by_cases hp:bl b=u - m+1
 ·have:(((u - m:Nat):Int) != (bl b:Int) - 1)=false:=by simp; omega
  rw[this,Y7];refine fin1 ?_;rw[ha,hb,hm];refine Rw ?_;rw[<- hm];rw[hb]at hp;exact QD.1 hp
 ·have:(((u - m:Nat):Int) != (bl b:Int) - 1)=true:=by simp; omega
  have la:=pu hB hbn;have lb:=pu hB hbd;have hgp:0<Nat.gcd a b:=aad _ hb0;have hgb:aK B (Nat.gcd a b):=jh hbd (aba _ hb0);have lg:=pu hB hgb;have e1:ah 1=[1]:=rm (by decide) (by decide);rw[this,Y8,E4 hbig (hF.sum (by omega) hbn hbd) (by omega) (by omega)];unfold pA FT;dsimp only;rw[<- e1,jb _ 1 ⟨by omega,by omega⟩ ⟨by rw[e1]; simp; omega,by rw[e1]; simp⟩];by_cases hc:Nat.gcd a b=1
  ·have:(dr (Nat.gcd a b) 1 != 0)=false:=by rw[hc]; rfl
   rw[this,Y7];exact fin1 hc
  ·have:(dr (Nat.gcd a b) 1 != 0)=true:=by unfold dr; rw[if_neg (by omega),if_neg hc]; rfl
   rw[this,Y8,rH hbig hgp (by omega) (by omega),rH hbig hgp (by omega) (by omega),hJ _ _ (bW hbn) (bW hbd),KB _ _ _ k]
def Ct {α:Type} (c:Bool) (f:α->Bool) (a b:α):cond c (f a) (f b)=f (cond c a b):=by cases c <;> rfl
def rG {N B:Nat} (hF:Fuel N) (hB:B<=2000000000100) (g:Bool) {n d:Nat} (hn:aK B n) (hd:aK B d) (hd0:d ≠ 0) (b1 b2:Bool) (k:Kx5) :
  Iv N g (ah n) (ah d) b1 b2 k=kqR (mkRat (aT g n) d) k:=by
 have hl:=hF.lt;have hJ:∀ a b:Nat,aK B a->aK B b -> ∀ x y,G4 N g x y b1 b2 (ah a) (ah b) k=k (sg g a) (ah a) false (ah b):=by
  intro a b ha hb x y;unfold G4 DJ Jf;rw[fA hF hB ha];unfold DN Jv;dsimp only;rw[fA hF hB hb,fA hF hB hb];cases g
  ·rfl
  ·simp only[lm,sg,aac]; rfl
 (unfold Iv; rw[af]; unfold O3)
 by_cases h0:n=0
 ·subst h0;rw[aX];show DJ N false [] b1 b2 _=_;have e0:aT g 0=0:=by unfold aT; cases g <;> rfl
  unfold DJ Jf;rw[<- aX,fA hF (B:=10) (by decide) (by unfold aK; decide)];unfold pA FT DN Jv;have e1:ah 1=[1]:=rm (by decide) (by decide);dsimp only;rw[<- e1,fA hF (B:=10) (by decide) (by unfold aK; decide),fA hF (B:=10) (by decide) (by unfold aK; decide),e0,Rat.zero_mkRat];rfl
 ·have e0:((((ah n).length:Nat):Int)==0)=false:=by rw[ct h0]; simp; omega
  rw[e0,Y7];have:=Au hF hB g hn hd h0 hd0 (λx y=>G4 N g (ah n) (ah d) b1 b2 x y k) k (λa b ha hb=>hJ a b ha hb _ _);rw[<- this];congr 1; funext nr; congr 1; funext Uf;exact Ct (decide (Uf<nr)) (λz=>Jw N g (ah n) (ah d) b1 b2 z k) Uf nr
def E7 {N B:Nat} (hF:Fuel N) (hB:B<=2000000000100) (g:Bool) {n d:Nat} (hn:aK B n) (hd:aK B d) (hd0:d ≠ 0) (b1 b2:Bool) (l1 l2:List Int) (k:Kx5) :
  Rg N g (ah n) (ah d) b1 l1 b2 l2 k=kqR (mkRat (aT g n) d) k:=by
 have hl:=hF.lt;have hJ:∀ a b:Nat,aK B a->aK B b -> ∀ x y,G5 N g x y b1 l1 b2 l2 (ah a) (ah b) k=k (sg g a) (ah a) false (ah b):=by
  intro a b ha hb x y;unfold G5 DF IX;rw[fA hF hB ha];unfold DN Jv;dsimp only;rw[fA hF hB hb,fA hF hB hb];cases g
  ·rfl
  ·simp only[lm,sg,aac]; rfl
 (unfold Rg; rw[af]; unfold Pn)
 by_cases h0:n=0
 ·subst h0;rw[aX];show DF N false [] b1 l1 b2 l2 _=_;have e0:aT g 0=0:=by unfold aT; cases g <;> rfl
  unfold DF IX;rw[<- aX,fA hF (B:=10) (by decide) (by unfold aK; decide)];unfold pA FT DN Jv;have e1:ah 1=[1]:=rm (by decide) (by decide);dsimp only;rw[<- e1,fA hF (B:=10) (by decide) (by unfold aK; decide),fA hF (B:=10) (by decide) (by unfold aK; decide),e0,Rat.zero_mkRat];rfl
 ·have e0:((((ah n).length:Nat):Int)==0)=false:=by rw[ct h0]; simp; omega
  rw[e0,Y7];have:=Au hF hB g hn hd h0 hd0 (λx y=>G5 N g (ah n) (ah d) b1 l1 b2 l2 x y k) k (λa b ha hb=>hJ a b ha hb _ _);rw[<- this];congr 1; funext nr; congr 1; funext Uf;exact Ct (decide (Uf<nr)) (λz=>Jx N g (ah n) (ah d) b1 l1 b2 l2 z k) Uf nr
def E0 {N:Nat} (a:Bool) (l:List Int) (b:Bool) {d:Nat} (hd:d ≠ 0) (k:Kz3):Lo N a l b (ah d) k=k (ah d):=by
 (unfold Lo; rw[af]; unfold I9)
 have:((((ah d).length:Nat):Int)==0)=false:=by rw[ct hd]; simp; omega
 rw[this]; rfl
def e9 {N:Nat} (a:Bool) (l:List Int) (b:Bool) {d:Nat} (hd:d ≠ 0) (k:Kz3):zE N a l b (ah d) k=k (ah d):=by
 (unfold zE; rw[af]; unfold OU)
 have:((((ah d).length:Nat):Int)==0)=false:=by rw[ct hd]; simp; omega
 rw[this]; rfl
def mb {N B:Nat} (hF:Fuel N) (hB:B<=2000000000100) {a b:Nat} (ha:aK B a) (hb:aK B b) (k:Kz3):u9 N (ah a) (ah b) k=k (ah (a*b)):=by have h1:=pu hB ha;have h2:=pu hB hb;have:=hF.lt;rw[rI _ _ (aR _) (aR _) (by omega) (by omega),aD,aD]
def KP {N B:Nat} (hF:Fuel N) (hB:B<=1000000000000) {x y:Rat} (hx:Bq B x) (hy:Bq B y) (b1 b2:Bool) (k:Kx5) :
  Q8 N b1 b2 (decide (x.num<0)) (ah x.num.natAbs) false (ah x.den) (decide (y.num<0)) (ah y.num.natAbs) false (ah y.den) k=kqR (x*y) k:=by
 (unfold Q8; rw[af]; unfold OY)
 have hB2:B<=2000000000100:=by omega
 rw[mb hF hB2 hx.1 hy.1,e9 _ _ _ x.den_nz,e9 _ _ _ y.den_nz,mb hF hB2 hx.2 hy.2,
  rG hF (B:=B+B) (by omega) _ (dd hx.1 hy.1) (dd hx.2 hy.2) (abF x.den_nz y.den_nz),tQ,gX,gX,<- Rat.mul_def']
def KT {N B:Nat} (hF:Fuel N) (hB:B<=1000000000000) {x y:Rat} (hx:Bq B x) (hy:Bq B y) (h0:y.num ≠ 0) (b1 b2:Bool) (k:Kx5) :
  Q9 N b1 b2 (decide (x.num<0)) (ah x.num.natAbs) false (ah x.den) (decide (y.num<0)) (ah y.num.natAbs) false (ah y.den) k=kqR (x / y) k:=by
 (unfold Q9; rw[af]; unfold OZ)
 have hB2:B<=2000000000100:=by omega
 obtain⟨i1,i2,i3⟩:=yb h0;rw[e9 _ _ _ y.den_nz,mb hF hB2 hx.1 hy.2,e9 _ _ _ x.den_nz,mb hF hB2 hx.2 hy.1,
  rG hF (B:=B+B) (by omega) _ (dd hx.1 hy.2) (dd hx.2 hy.1) (abF x.den_nz (by omega)),tQ,gX,Rat.div_def,Rat.mul_def',i2]
 have:aT (decide (y.num<0)) y.den=(y⁻¹).num:=by rw[<- i3,<- i1,gX]
 rw[this]
def KX {N B:Nat} (hF:Fuel N) (hB:B<=1000000000000) {x y:Rat} (hx:Bq B x) (hy:Bq B y) (k:Kx5) :
  Q_ N (decide (x.num<0)) (ah x.num.natAbs) false (ah x.den) (decide (y.num<0)) (ah y.num.natAbs) false (ah y.den) k=kqR (x - y) k:=by
 (unfold Q_; rw[af]; unfold O5; unfold SA; rw[af]; unfold Pu)
 have hB2:B<=2000000000100:=by omega
 have ha:=dd hx.1 hy.2;have hb:=dd hy.1 hx.2;have hB3:B+B+1<=2000000000100:=by omega
 rw[e9 _ _ _ y.den_nz,mb hF hB2 hx.1 hy.2,e9 _ _ _ x.den_nz,mb hF hB2 hy.1 hx.2];dsimp only;rw[e9 _ _ _ x.den_nz,e9 _ _ _ y.den_nz,mb hF hB2 hx.2 hy.2,
  HO false _ _ _ _ (o_ hF (by omega) ha) (o_ hF (by omega) hb) (o_ hF hB3 (pW ha hb)),qj,qj]
 unfold mB;dsimp only;have hz:aK (B+B+1) (x.num*(y.den:Int) - y.num*(x.den:Int)).natAbs:=by
  refine jh (pW ha hb) ?_;have e1:(x.num*(y.den:Int)).natAbs=x.num.natAbs*y.den:=by rw[aaP,ZV]
  have e2:(y.num*(x.den:Int)).natAbs=y.num.natAbs*x.den:=by rw[aaP,ZV]
  omega
 rw[E7 hF hB3 _ hz (bJ (dd hx.2 hy.2) (by omega)) (abF x.den_nz y.den_nz),gX,<- Rat.sub_def']
def uX {N:Nat} (x:Rat) (k:Kz0):DI N (decide (x.num<0)) (ah x.num.natAbs) false (ah x.den) k=k (nS x.num):=by
 (unfold DI N4; unfold AJ; rw[af]; unfold uC nS)
 by_cases h0:x.num=0
 ·rw[h0,if_pos rfl];have:ah (0:Int).natAbs=[]:=aX;rw[this]; rfl
 ·have:((((ah x.num.natAbs).length:Nat):Int)==0)=false:=by rw[ct (by omega)]; simp; omega
  rw[this,Y7,if_neg h0];by_cases h:x.num<0
  ·rw[Y5 h,Y8,if_pos h]
  ·rw[Y6 h,Y7,if_neg h]
def vM (n:Nat):bS (ah n) (ah n).length=(ah n).length:=tJ n
def KH {N B:Nat} (hF:Fuel N) (hB:B<=2000000000100) {x:Rat} (hx:Bq B x) (b1 b2:Bool) (l1 l2:List Int) (k:Kx5) :
  Ro N (decide (x.num<0)) (ah x.num.natAbs) false (ah x.den) b1 l1 b2 l2 k=kqR x k:=by
 (unfold Ro; rw[af]; unfold PA)
 have h1:=pu hB hx.1;have h2:=pu hB hx.2;have hl:=hF.lt;rw[ZX,aa (Y5 (by omega)),E0 _ _ _ x.den_nz,ZX,aa (Y5 (by omega))];unfold pB ph OG N6;rw[gZ _ (by omega) (by omega),vM];dsimp only;rw[gZ _ (by omega) (by omega),gZ _ (by omega) (by omega),vM];have e1:(List.take (ah x.num.natAbs).length (List.drop 0 (ah x.num.natAbs)))=ah x.num.natAbs:=by simp
 have e2:(List.take (ah x.den).length (List.drop 0 (ah x.den)))=ah x.den:=by simp
 have e3:decide (0+(ah x.num.natAbs).length<=(ah x.num.natAbs).length)=true:=Y5 (by omega);have e4:decide (0+(ah x.den).length<=(ah x.den).length)=true:=Y5 (by omega);rw[e1,e2,e3,e4];unfold kqR krR;by_cases h:x.num<0
 ·have:decide (((((ah x.num.natAbs).length:Nat):Nat):Int)>0)=true:=by rw[lm]; exact Y5 (by omega)
  rw[Y5 h,this]; rfl
 ·rw[Y6 h]; rfl
end Go.Proofs.YtdinakfmablagaaGreatDoor
end
