/-
  PURE: words to the base 2^32 (printed by to32.py from the laws to the base 2^64).
  Conditions: none.
-/
import Derived.Test.YteifemaagdeomaaGreatDoorC2
set_option linter.unusedVariables false
section
namespace Go.Proofs.YteifemaagdeomaaGreatDoor
open Go Go.Mach
theorem l_:∀(i V:Nat),(ai V).getD i 0=((V / 4294967296 ^ i%4294967296:Nat):Int)
 | i,V=>by
  by_cases h:V=0
  ·subst h; rw[aT]; simp
  ·rw[ce h];cases i with
   | zero=>simp
   | succ i=>
    show(ai (V / 4294967296)).getD i 0=_;rw[l_ i (V / 4294967296),adr,adi,<- adm]
theorem Gx {V w:Nat} (h:V / 4294967296 ^ w ≠ 0):w<(ai V).length:=by
 rcases aef w (ai V).length with h1 | h1
 ·exact h1
 ·exfalso;have h2:=eK (aX V);rw[aH]at h2;exact h (adK (adz h2 (adv (by decide) h1)))
theorem rI {n:Nat} (h0:n ≠ 0) (h:n<4294967296):ai n=[(n:Int)]:=by rw[ce h0,adK h,aT,adp h]
theorem Dw (Q n m:Nat) (h:m<n):(List.replicate (m+1) (0:Int)++(dl Q n).drop (m+1)).set m ((Q / 4294967296 ^ m%4294967296:Nat):Int)=List.replicate m 0++(dl Q n).drop m:=by rw[aeT,adx,List.singleton_append,aW _ _ _ _ _ (by simp),cV (n:=m) (by rw[al]; exact h),rJ Q h]
theorem yQ {A d:Nat} (hd:0<d):(A / 4294967296%d*4294967296+A%4294967296)%d=A%d/\(A / 4294967296%d*4294967296+A%4294967296) / d=A / d%4294967296:=by
 have h1:=aee A 4294967296;have h2:=aee (A / 4294967296) d;have h3:=adu (A / 4294967296) hd;have h4:A%4294967296<4294967296:=adu _ (by decide);obtain⟨a,ha⟩:∃ a,a=A / 4294967296:=⟨_,rfl⟩
 obtain⟨e,he⟩:∃ e,e=A%4294967296:=⟨_,rfl⟩
 rw[<- ha]at h1 h2 h3 ⊢;rw[<- he]at h1 h4 ⊢;obtain⟨c,hc⟩:∃ c,c=a / d:=⟨_,rfl⟩
 obtain⟨r,hr⟩:∃ r,r=a%d:=⟨_,rfl⟩
 rw[<- hc,<- hr]at h2;rw[<- hr]at h3 ⊢;have h5:A=d*(c*4294967296)+(r*4294967296+e):=by rw[<- h1,<- h2,<- adq,adw,adi 4294967296,adi 4294967296]; omega
 constructor
 ·rw[h5,afr]
 ·rw[h5,agd hd,adi c,afr];refine(adp ?_).symm;rw[ado hd];have:=adl 4294967296 h3;rw[aeP]at this;rw[adi _ d,adi d];rw[adi d]at this;omega
theorem iB (x:Nat):x<4294967296 ^ (ai x).length:=by have:=eK (aX x); rwa [aH]at this
theorem SM (c:List Int) (m:Nat):aB (c.take (m+3))=aB (c.take m)+4294967296 ^ m*((c.getD m 0).toNat+4294967296*((c.getD (m+2) 0).toNat*4294967296+(c.getD (m+1) 0).toNat)):=by rw[show m+3=m+2+1 by omega,aM,show m+2=m+1+1 by omega,aM,aM];simp only[adr];generalize 4294967296 ^ m=P;grind
theorem SL (c:List Int) (m:Nat):aB (c.take (m+2))=aB (c.take m)+4294967296 ^ m*((c.getD m 0).toNat+4294967296*(c.getD (m+1) 0).toNat):=by rw[show m+2=m+1+1 by omega,aM,aM];simp only[adr];generalize 4294967296 ^ m=P;grind
theorem D7 {b:List Int} {o i:Nat} (D:Nat) (h:o+i<=b.length):(b.take o++(dl D i++b.drop (o+i))).length=b.length:=by simp[al]; omega
theorem D6 {b:List Int} {o i:Nat} (D:Nat) (h:o+i<b.length):(b.take o++(dl D i++b.drop (o+i))).getD (o+i) 0=b.getD (o+i) 0:=by rw[<- adx,cV h,bU (by simp[al]; omega)]
theorem zh {b:List Int} {o i:Nat} (D:Nat) (h:o+i<b.length):(b.take o++(dl D i++b.drop (o+i))).set (o+i) ((D / 4294967296 ^ i%4294967296:Nat):Int)=b.take o++(dl D (i+1)++b.drop (o+(i+1))):=by rw[<- adx,cV h,aW _ _ _ _ _ (by simp[al]; omega),dl];simp[adY]
theorem D4 {b:List Int} {o i n:Nat} (D E:Nat) (hi:i<=n) (h:o+n<=b.length):(b.take o++(dl E i++((dl D n).drop i++b.drop (o+n)))).length=b.length:=by simp[al]; omega
theorem D3 {b:List Int} {o i n:Nat} (D E:Nat) (hi:i<n) (h:o+n<=b.length):(b.take o++(dl E i++((dl D n).drop i++b.drop (o+n)))).getD (o+i) 0=((D / 4294967296 ^ i%4294967296:Nat):Int):=by rw[<- adx,cV (n:=i) (by rw[al]; exact hi),ae1,bU (by simp[al]; omega),rJ D hi]
theorem D5 {b:List Int} {o i n:Nat} (D E:Nat) (hi:i<n) (h:o+n<=b.length):(b.take o++(dl E i++((dl D n).drop i++b.drop (o+n)))).set (o+i) ((E / 4294967296 ^ i%4294967296:Nat):Int)=b.take o++(dl E (i+1)++((dl D n).drop (i+1)++b.drop (o+n))):=by rw[<- adx,cV (n:=i) (by rw[al]; exact hi),ae1,aW _ _ _ _ _ (by simp[al]; omega),dl];simp
theorem Gi {m:Nat} (S X:Nat):∀ n,n<=m->dl (S+4294967296 ^ m*X) n=dl S n
 | 0,_=>rfl
 | n+1,h=>by rw[dl,dl,Gi S X n (by omega)];congr 3;refine k6 (R:=4294967296 ^ (m - (n+1))*X) ?_;rw[<- adq,<- ady,show n+1+(m - (n+1))=m by omega]
theorem za {w:List Int} {n i U Q:Nat} (hw:InW w) (hl:w.length=n+1) (hU:U=aB w) (hi:i<=n) (hQ:Q<4294967296 ^ (n+1)) :
  (((w.getD i 0).toNat+4294967296 - Q / 4294967296 ^ i%4294967296 - (if aB (w.take i)<Q%4294967296 ^ i then 1 else 0))%4294967296=(U+4294967296 ^ (n+1) - Q) / 4294967296 ^ i%4294967296)
  /\ (if (w.getD i 0).toNat<Q / 4294967296 ^ i%4294967296+(if aB (w.take i)<Q%4294967296 ^ i then 1 else 0)then 1 else 0)=(if aB (w.take (i+1))<Q%4294967296 ^ (i+1)then 1 else(0:Nat)):=by
 have hx:=hw.at (i:=i);have hA:=aM (m:=w) i;have hAl:=bd hw i;have hp:=aQ i;have hBl:=adu Q hp;have hPs:4294967296 ^ (i+1)=4294967296 ^ i*4294967296:=adr ..;have hmm:Q%4294967296 ^ (i+1)=Q%4294967296 ^ i+4294967296 ^ i*(Q / 4294967296 ^ i%4294967296):=by rw[hPs,af8]
 have hyl:Q / 4294967296 ^ i%4294967296<4294967296:=adu _ (by decide);constructor
 ·obtain⟨R1,h1⟩:=bW w (i+1);have hW:4294967296 ^ (n+1)=4294967296 ^ i*4294967296*4294967296 ^ (n - i):=by rw[<- hPs,<- ady,show i+1+(n - i)=n+1 by omega]
  have hq:=Cy (D:=U+4294967296 ^ (n+1) - Q) (a:=U+4294967296 ^ (n+1)) (b:=Q) (x:=(w.getD i 0).toNat) (y:=Q / 4294967296 ^ i%4294967296) (R1:=R1+4294967296 ^ (n - i)) (R2:=Q / (4294967296 ^ i*4294967296)) hAl hBl rfl
   (by rw[hU,h1,hA,hW,hPs,adw]; omega)
   (by rw[<- hmm,hPs]; exact(afq _ _).symm)
   (by omega)
  generalize (U+4294967296 ^ (n+1) - Q) / 4294967296 ^ i=Z at *;generalize Q / 4294967296 ^ i%4294967296=y at *;generalize (w.getD i 0).toNat=x at *;generalize ((R1+4294967296 ^ (n - i):Nat):Int) - ((Q / (4294967296 ^ i*4294967296):Nat):Int)=RR at *;split at hq <;> rename_i hh <;> simp only[hh,aeQ,adM] <;> omega
 ·rw[hA,hmm];exact(mV _ _ _ _ _ hAl hBl).symm
theorem xw {D V c v i:Nat} (hc:c=(D%4294967296 ^ i+V) / 4294967296 ^ i) :
  (D%4294967296 ^ (i+1)+(V+4294967296 ^ i*v)) / 4294967296 ^ (i+1)=(D / 4294967296 ^ i%4294967296+v+c) / 4294967296 /\
  ∀ R,(D+(V+4294967296 ^ i*v+4294967296 ^ (i+1)*R)) / 4294967296 ^ i%4294967296=(D / 4294967296 ^ i%4294967296+v+c)%4294967296:=by
 have hp:=aQ i;have hPs:4294967296 ^ (i+1)=4294967296 ^ i*4294967296:=adr ..;have hmm:D%4294967296 ^ (i+1)=D%4294967296 ^ i+4294967296 ^ i*(D / 4294967296 ^ i%4294967296):=by rw[hPs,af8]
 have e:D%4294967296 ^ (i+1)+(V+4294967296 ^ i*v)=(D%4294967296 ^ i+V)+4294967296 ^ i*(D / 4294967296 ^ i%4294967296+v):=by rw[hmm,adw]; omega
 have e2:(D%4294967296 ^ (i+1)+(V+4294967296 ^ i*v)) / 4294967296 ^ i=D / 4294967296 ^ i%4294967296+v+c:=by rw[e,dX,<- hc]; omega
 constructor
 ·rw[hPs,<- adm,<- hPs,e2]
 ·intro R;have e3:D+(V+4294967296 ^ i*v+4294967296 ^ (i+1)*R)=(D%4294967296 ^ (i+1)+(V+4294967296 ^ i*v))+4294967296 ^ (i+1)*(D / 4294967296 ^ (i+1)+R):=by have:=afq D (4294967296 ^ (i+1));rw[adw]; omega
  rw[k6 e3,e2]
theorem B8 {D V c i:Nat} (hc:c=(D%4294967296 ^ i+V) / 4294967296 ^ i) :
  (D%4294967296 ^ (i+1)+V) / 4294967296 ^ (i+1)=(D / 4294967296 ^ i%4294967296+0+c) / 4294967296 /\
  (D+V) / 4294967296 ^ i%4294967296=(D / 4294967296 ^ i%4294967296+0+c)%4294967296:=by
 obtain⟨a1,a2⟩:=xw (v:=0) hc;have a3:=a2 0;rw[aeC,adL V]at a1;rw[aeC,aeC,adL V]at a3;exact⟨a1,a3⟩
theorem Mo (n:Nat):dl n (ai n).length=ai n:=by refine List.ext_getElem (al n _) (λi h1 h2=>?_);have e1:=rJ n h2;have e2:=l_ i n;rw[List.getD_eq_getElem?_getD,List.getElem?_eq_getElem h1,ad3]at e1;rw[List.getD_eq_getElem?_getD,List.getElem?_eq_getElem h2,ad3]at e2;rw[e1,e2]
theorem CC {X L:Nat} (hX:X<4294967296 ^ L):∀ k,dl X (L+k)=dl X L++List.replicate k 0
 | 0=>by simp
 | k+1=>by rw[<- adY,dl,CC hX k,adK (adz hX (adv (by decide) (afA _ _))),aeT,adx];rfl
theorem nP (S:Nat):∀{m n:Nat},n<=m->(dl S m).take n=dl S n
 | 0,n,h=>by
  have:n=0:=by omega
  subst this; rfl
 | m+1,n,h=>by
  by_cases e:n=m+1
  ·subst e; rw[adC (by rw[al]; omega)]
  ·rw[dl,aeh (by rw[al]; omega),nP S (by omega)]
theorem zZ (S a:Nat):∀ c,dl S (a+c)=dl S a++dl (S / 4294967296 ^ a) c
 | 0=>by simp[dl]
 | c+1=>by rw[<- adY,dl,zZ S a c,dl,adm,<- ady,adx]
theorem xD {V m:Nat} (h:V<4294967296 ^ m):bM (dl V m) m=(ai V).length:=by have h1:=rn (iN V m);rw[al,pb,adp h]at h1;rw[<- h1,adV,al];have:=jt (dl V m) m;omega
theorem MS {V m:Nat} (h1:4294967296 ^ m<=V) (h2:V<4294967296 ^ (m+1)):(ai V).length=m+1:=by have a:=cz (m+1) V h2;have b:=Gx (V:=V) (w:=m) (by have:=afE h1 (aQ m); omega);omega
theorem MZ {r x:Nat} (hr:r<4294967296) (hx:x<4294967296):az .or .u64 (IntKind.wrap .u64 ((r:Int)*2 ^ 32)) (IntKind.wrap .u64 (x:Int))=((r*4294967296+x:Nat):Int):=by
 have p32:(2:Nat) ^ 32=4294967296:=by decide
 have q32:(2:Int) ^ 32=4294967296:=by decide
 have e1:IntKind.wrap .u64 ((r:Int)*2 ^ 32)=((2 ^ 32*r:Nat):Int):=by rw[q32,p32,am]; omega
 have e2:IntKind.wrap .u64 (x:Int)=(x:Int):=by rw[am]; omega
 rw[e1,e2,sC,cu _ _ 32 (by omega) (by omega),p32];congr 1; omega
theorem E_ {N:Nat} {x d:Nat} (hd0:0<d) (hd:d<4294967296) (hs:fi N (ai x)) (k:List Int->Int->Bool):no N (ai x) (d:Int) k=k (ai (x / d)) ((x%d:Nat):Int):=by
 (unfold no; rw[ac]; unfold qb)
 obtain⟨s1,s2⟩:=hs;have hx:=iB x;generalize hn:(ai x).length=n at *;rw[aa (bY (by omega) (by omega) (by omega) (by omega)),aa adb,adk];have wd:IntKind.wrap .u64 (d:Int)=(d:Int):=by rw[am]; omega
 have d1:(!decide ((d:Int)=0))=true:=by simp; omega
 refine aC (λi=>(((x / 4294967296 ^ (n - i)%d:Nat):Int),((n:Int) - 1 - (i:Int)),List.replicate (n - i) (0:Int)++(dl (x / d) n).drop (n - i))) n ?_ (by omega) (λi hi K=>?_) (λK=>?_)
 ·rw[afk,adK hx,Nat.zero_mod,ad2 (by rw[al]; omega),adN];simp
 ·obtain⟨m,hm⟩:∃ m,n - i=m+1:=⟨n - i - 1,by omega⟩
  have hm2:n - (i+1)=m:=by omega
  have ei:(n:Int) - 1 - (i:Int)=(m:Int):=by omega
  have ei2:(n:Int) - 1 - ((i+1:Nat):Int)=(m:Int) - 1:=by omega
  have hp:x / 4294967296 ^ (m+1)=x / 4294967296 ^ m / 4294967296:=by rw[adr,adm]
  have hdg:x / d / 4294967296 ^ m%4294967296=x / 4294967296 ^ m / d%4294967296:=by rw[adm,adm,adi d]
  obtain⟨n1,n2⟩:=yQ (A:=x / 4294967296 ^ m) hd0;rw[hm,hm2,ei,ei2,hp];simp only[kc,adk,wd];have hl:(List.replicate (m+1) (0:Int)++(dl (x / d) n).drop (m+1)).length=n:=by simp[al]; omega
  have hr:=adu (x / 4294967296 ^ m / 4294967296) hd0;have hq:(x / 4294967296 ^ m / 4294967296%d*4294967296+x / 4294967296 ^ m%4294967296) / d<4294967296:=by rw[n2]; exact adu _ (by decide)
  rw[ade (by omega:(m:Int)>=0),adh,hn,aa adc,l_,aa d1,hl,aa adc,aa (ade (by omega)),aa d1,aa adb,MZ (by omega) (adu _ (by decide))];have e1:∀ A:Nat,Int.tdiv (A:Int) (d:Int)=((A / d:Nat):Int):=λ_=>rfl
  have e2:∀ A:Nat,Int.tmod (A:Int) (d:Int)=((A%d:Nat):Int):=λ_=>rfl
  rw[e1,e2,n1,n2,<- hdg];have e3:IntKind.wrap .u32 (IntKind.wrap .u64 ((x / d / 4294967296 ^ m%4294967296:Nat):Int))=((x / d / 4294967296 ^ m%4294967296:Nat):Int):=by have:=adu (x / d / 4294967296 ^ m) (by decide:4294967296>0);generalize x / d / 4294967296 ^ m%4294967296=y at *;rw[am,dk]; omega
  rw[e3,Dw _ _ _ (by omega)]
 ·simp only[kc];have e0:(n:Int) - 1 - (n:Int) = -1:=by omega
  rw[e0,adf (by omega),adg,adQ,ae_,ae7];rw[adS,ad4,aeO];have hq:x / d<4294967296 ^ n:=aeR (aeS _ _) hx;have hr:=adu x hd0;have e3:IntKind.wrap .u32 ((x%d:Nat):Int)=((x%d:Nat):Int):=by rw[dk]; omega
  rw[e3,dr _ (iN _ _) (by rw[al]; omega) (by rw[al]; omega) (λz=>k z ((x%d:Nat):Int)),oJ hq]
theorem KG (N:Nat) {x:Nat} (hx:x<4294967296) (k:Kz2):Rd N (x:Int) k=k ((32 - bl x:Nat):Int):=by unfold Rd RI;have:=ub (n:=x) (j:=32) (by rw[show(2:Nat) ^ 32=4294967296 by decide]; exact hx);rw[Ac N x hx,aa adb];congr 1; omega
theorem BA:(2:Nat) ^ 32=4294967296:=by decide
theorem IK {y:Nat} (h0:y ≠ 0) (hy:y<4294967296):32 - bl y<32/\2147483648<=y*2 ^ (32 - bl y)/\y*2 ^ (32 - bl y)<4294967296:=by
 have h1:=ub (n:=y) (j:=32) (by rw[BA]; exact hy);obtain⟨h2,h3⟩:=JW h0;have h4:=vX y;have hp:0<2 ^ (32 - bl y):=adt _;refine⟨by omega,?_,?_⟩
 ·have:=adl (2 ^ (32 - bl y)) h3;rw[<- ady,show bl y - 1+(32 - bl y)=31 by omega]at this;exact this
 ·have:=ad5 h4 hp;rw[<- ady,show bl y+(32 - bl y)=32 by omega]at this;exact this
theorem Ff {N:Nat} (m:List Int) (hm:InW m) (n:Nat) (hn:n<4294967296) (hN:m.length+n / 32+4<N) (hs:m.length<=1099511627776) (e0:List Int->Bool) :
  ak N (eA N m ((n / 32:Nat):Int) ((n%32:Nat):Int) e0) (0,List.replicate (n / 32+m.length+1) (0:Int))=e0 (dl (aB m*2 ^ n) (n / 32+m.length+1)):=by
 generalize hw:n / 32=w at *;generalize hsh:n%32=s at *;have hs32:s<32:=by omega
 have hp2:2 ^ n=4294967296 ^ w*2 ^ s:=by rw[uA,hw,hsh]
 have hs0:0<2 ^ s:=adt s;have hs1:2 ^ s*2 ^ (32 - s)=4294967296:=by rw[<- ady,show s+(32 - s)=32 by omega]
 have hs2:2 ^ s<=2147483648:=by have:2 ^ s<=2 ^ 31:=adv (by decide) (by omega);simpa using this
 let V:=aB m*2 ^ n
 let X:=aB m*2 ^ s
 have hVX:V=4294967296 ^ w*X:=by simp only[V,X]; rw[hp2,adG]
 let T:=λi=>aB (m.take i)*2 ^ s
 let c:=λi=>T i / 4294967296 ^ i
 refine aC (N:=N) (λi=>((i:Int),dl V (w+i)++((c i:Nat):Int)::List.replicate (m.length - i) 0)) m.length ?_ (by omega) (λi hi K=>?_) (λK=>?_)
 ·congr 1;show List.replicate (w+m.length+1) (0:Int)=dl V w++((c 0:Nat):Int)::List.replicate m.length 0;rw[hVX,tm];have hc0:c 0=0:=by simp[c,T,aB]
  rw[hc0];have:w+m.length+1=w+(m.length+1):=by omega
  rw[this,<- aeW,ad0]; rfl
 ·have hx:=hm.at (i:=i);have hT:T (i+1)=T i+4294967296 ^ i*((m.getD i 0).toNat*2 ^ s):=by simp only[T,aM,adI,adq]
  have hq:T (i+1) / 4294967296 ^ i=c i+(m.getD i 0).toNat*2 ^ s:=by rw[hT,dX]
  have hci:c i<2 ^ s:=by simp only[c,T];rw[ado (aQ i),adi];exact aeo (bd hm i) hs0
  have hc1:c (i+1)=(c i+(m.getD i 0).toNat*2 ^ s) / 4294967296:=by rw[<- hq]; simp only[c]; rw[adr,adm]
  have hdig:V / 4294967296 ^ (w+i)%4294967296=(c i+(m.getD i 0).toNat*2 ^ s)%4294967296:=by rw[<- hq,hVX,ady,<- adm,adP _ (aQ w)];obtain⟨R,hR⟩:=bW m (i+1);refine k6 (R:=R*2 ^ s) ?_;simp only[X,T];rw[hR,adI,adq]
  have hrep:List.replicate (m.length - i) (0:Int)=0::List.replicate (m.length - (i+1)) 0:=by rw[show m.length - i=(m.length - (i+1))+1 by omega,ad0]
  have hdl:=al V (w+i);have ei:Int.toNat ((w:Int)+(i:Int))=w+i:=by omega
  have ei1:Int.toNat ((w:Int)+(i:Int)+1)=w+i+1:=by omega
  have emin:min s 64=s:=by omega
  simp only[eA,adk,ei,ei1,emin];rw[hrep,bU hdl.symm,aW _ _ _ _ _ hdl.symm];have et:IntKind.wrap .u64 (IntKind.wrap .u64 (m.getD i 0)*2 ^ s)=(((m.getD i 0).toNat*2 ^ s:Nat):Int):=by
   have hxs:(m.getD i 0).toNat*2 ^ s<4294967296*2147483648:=adZ (by omega) hs2 (by decide);have e1:IntKind.wrap .u64 (m.getD i 0)=(((m.getD i 0).toNat:Nat):Int):=by rw[am]; omega
   have e2:(((m.getD i 0).toNat:Nat):Int)*2 ^ s=(((m.getD i 0).toNat*2 ^ s:Nat):Int):=by simp
   rw[e1,e2,am]; omega
  rw[et];generalize hxx:(m.getD i 0).toNat=x at *;have hx32:x<4294967296:=by omega
  have hlow:x*2 ^ s%4294967296=2 ^ s*(x%2 ^ (32 - s)):=by
   have e:x*2 ^ s%(2 ^ s*2 ^ (32 - s))=2 ^ s*(x%2 ^ (32 - s)):=by rw[adi x]; exact ae2 _ _ _
   rwa [hs1]at e
  have hsum:2 ^ s*(x%2 ^ (32 - s))+c i<4294967296:=by have h1:x%2 ^ (32 - s)+1<=2 ^ (32 - s):=adu _ (adt _);have h2:=adn (2 ^ s) h1;rw[hs1,adw]at h2;omega
  have eor:az .or .u32 ((c i:Nat):Int) (IntKind.wrap .u32 ((x*2 ^ s:Nat):Int))=((V / 4294967296 ^ (w+i)%4294967296:Nat):Int):=by
   have e1:IntKind.wrap .u32 ((x*2 ^ s:Nat):Int)=((2 ^ s*(x%2 ^ (32 - s)):Nat):Int):=by rw[<- hlow,dk]; omega
   rw[e1,pG _ _ s hci hsum,hdig];omega
  have ehi:IntKind.wrap .u32 (Int.fdiv ((x*2 ^ s:Nat):Int) (2 ^ 32))=((c (i+1):Nat):Int):=by have hxs:x*2 ^ s<4294967296*2147483648:=adZ hx32 hs2 (by decide);rw[jG,dk,hc1];omega
  rw[eor,ehi];have hl1:∀(a b:Int) (ys:List Int),(dl V (w+i)++a::b::ys).length=w+i+2+ys.length:=by intro a b ys; simp[hdl]; omega
  have hset2:(dl V (w+i)++((V / 4294967296 ^ (w+i)%4294967296:Nat):Int)::0::List.replicate (m.length - (i+1)) 0).set (w+i+1) ((c (i+1):Nat):Int)=dl V (w+(i+1))++((c (i+1):Nat):Int)::List.replicate (m.length - (i+1)) 0:=by
   have:dl V (w+i)++((V / 4294967296 ^ (w+i)%4294967296:Nat):Int)::0::List.replicate (m.length - (i+1)) 0=dl V (w+(i+1))++0::List.replicate (m.length - (i+1)) 0:=by rw[<- adY,dl]; simp
   rw[this];exact aW _ _ _ _ _ (by rw[al]; omega)
  rw[hset2,hl1,hl1];simp only[aeB];rw[ade (by omega:(i:Int)<m.length),adh,aa adc,aa (ade (by omega)),aa adb,aa adc,aa (ade (by omega)),aa adc,aa (ade (by omega)),
   aa adb,aa adb,aa adc,aa (ade (by omega)),aa adb]
  rfl
 ·simp only[eA];rw[adf (by omega:¬(m.length:Int)<m.length),adg,adQ,adS];have hV:V<4294967296 ^ (w+m.length+1):=by have h1:=eK hm;simp only[V];rw[hp2,adr,ady,adG,adq];refine aeo ?_ (aQ w);exact adZ h1 (by omega) (by decide)
  have hT:T m.length=X:=by simp only[T,X]; rw[adX]
  have hend:dl V (w+m.length)++[((c m.length:Nat):Int)]=dl V (w+m.length+1):=by
   rw[dl];have:c m.length=V / 4294967296 ^ (w+m.length)%4294967296:=by simp only[c];rw[hT,hVX,ady,<- adm,adP _ (aQ w)];rw[adp];rw[ado (aQ _),adi];have h1:=eK hm;simp only[X];exact adZ h1 (by omega) (by decide)
   rw[this]
  rw[hend]
theorem qM {N:Nat} {m s:Nat} (hm:m ≠ 0) (hs:s<32) (hN:(ai m).length+4<N) (hl:(ai m).length<=1099511627776) (k0:Bool) (k1:Nat->List Int->Bool) :
  Dz N (ai m) (s:Int) k0 k1=k1 (ai (m*2 ^ s)).length (dl (m*2 ^ s) ((ai m).length+1)):=by
 have hlp:(ai m).length ≠ 0:=by rw[ce hm]; simp
 have hV:m*2 ^ s<4294967296 ^ ((ai m).length+1):=by
  rw[adr];have h2:2 ^ s<4294967296:=by rw[<- BA]; exact Nat.pow_lt_pow_right (by decide) hs
  exact aej (iB m) h2
 (unfold Dz; rw[ac]; unfold I5)
 have e0:((((ai m).length:Nat):Int)==0)=false:=by simp; intro h; rw[h]at hlp; simp at hlp
 have ew:IntKind.wrap .u64 (Int.tdiv (s:Int) 32)=((s / 32:Nat):Int):=by rw[am,aei (by omega)]; omega
 have es:Int.tmod (s:Int) 32=((s%32:Nat):Int):=by rw[ad9 (by omega)]; rfl
 have elen:Int.toNat (((s / 32:Nat):Int)+(((ai m).length:Nat):Int)+1)=s / 32+(ai m).length+1:=by omega
 rw[e0,adg,ew,es,aa adb,aa adb,aa adb,aa (bY (by omega) (by omega) (by omega) (by omega)),elen];have:=Ff (N:=N) (ai m) (aX m) s (by omega) (by omega) hl (λV7=>og N V7 λmr=>k1 mr V7);rw[aH,show s / 32=0 by omega,adJ]at this;rw[show s / 32=0 by omega,adJ];refine Eq.trans this ?_;rw[kD _ (by rw[al]; omega) (by rw[al]; omega),al,xD hV]
theorem HW {N:Nat} (b:List Int) (m:Nat) (hm:m<=b.length) (hN:m<N) (hs:m<9223372036854775807) (k:Kz3):q8 N 0 m b k=k (bM b m):=by
 (unfold q8; rw[ac]; unfold p_)
 have key:∀ n,n<=m -> ∀ M,n<M->ak M (tR N 0 b λXs=>k Xs) n=k (bM b n):=by
  intro n;induction n with
  | zero=>
   intro _ M hM;obtain⟨M,rfl⟩:∃ m,M=m+1:=⟨M - 1,by omega⟩
   show tR N 0 b _ 0 _=_;simp only[tR,bM];rw[adf (by omega:¬((0:Nat):Int)>0),show(false==true)=false from rfl,adg]
  | succ n ih=>
   intro hn M hM;obtain⟨M,rfl⟩:∃ m,M=m+1:=⟨M - 1,by omega⟩
   show tR N 0 b _ (n+1) (ak M _)=_;have e:0+Int.toNat (((n+1:Nat):Int) - 1)=n:=by omega
   have e2:Int.toNat (((n+1:Nat):Int) - 1) - 0=n:=by omega
   simp only[tR,e,e2];rw[ade (by omega:((n+1:Nat):Int)>0),show(true==true)=true from rfl,adh,aa adb,aa adc,aa (ade (by omega)),aa adb,aa (ade (by omega)),ih (by omega) M (by omega),mX];by_cases h0:b.getD n 0=0
   ·have:(b.getD n 0==0)=true:=by simpa using h0
    rw[this,if_pos h0]; rfl
   ·have:(b.getD n 0==0)=false:=by simpa using h0
    rw[this,if_neg h0]; rfl
 exact key m (ads _) N hN
theorem Bi {N:Nat} (b:List Int) (hb:InW b) (m s:Nat) (hm:m<=b.length) (hs:s<32) (hN:m+3<N) (hms:m<=1099511627780) (k:Kz6):Lx N 0 m (s:Int) b k=k (ai (aB (b.take m) / 2 ^ s)):=by
 have ew:IntKind.wrap .u64 (Int.tdiv (s:Int) 32)=0:=by rw[am,aei (by omega)]; omega
 have es:Int.tmod (s:Int) 32=(s:Int):=by rw[ad9 (by omega)]; omega
 have hs0:0<2 ^ s:=adt _
 (unfold Lx; rw[ac]; unfold JB)
 by_cases h0:m=0
 ·subst h0;rw[ew,afy,show aB []=0 from rfl,Nat.zero_div,aT];rfl
 ·have emin:min s 64=s:=by omega
  rw[ew,es,aa adb,adf (by omega:¬(0:Int)>=(m:Int)),adg];have hw:InW (b.take m):=hb.take m;have hwl:(b.take m).length=m:=by rw[adV]; omega
  have hwg:∀ i,i<m->(b.take m).getD i 0=b.getD i 0:=λi hi=>rM hi
  obtain⟨X,hX⟩:∃ X,X=aB (b.take m) / 2 ^ s:=⟨_,rfl⟩
  have elen2:(m:Int) - 0=(m:Int):=by omega
  rw[elen2,aa adb,aa (bY (by omega) (by omega) (by omega) (by omega)),adk,<- hX];refine aC (λi=>((i:Int),dl X i++List.replicate (m - i) 0)) m (by simp[dl]) (by omega) (λi hi K=>?_) (λK=>?_)
  ·have hx:=hw.at (i:=i);have hy:=hw.at (i:=i+1);have hset:=xK X i m (by omega);have hl:(dl X i++List.replicate (m - i) (0:Int)).length=m:=by simp[al]; omega
   obtain⟨R,hR⟩:=zX hw i;have hdig:X / 4294967296 ^ i%4294967296=(((b.take m).getD i 0).toNat+4294967296*((b.take m).getD (i+1) 0).toNat) / 2 ^ s%4294967296:=by
    rw[hX,adm,adi (2 ^ s),<- adm,hR];have e2:4294967296*4294967296*R=2 ^ s*(4294967296*(2 ^ (32 - s)*R)):=by
     have hs1:2 ^ s*2 ^ (32 - s)=4294967296:=by rw[<- ady,show s+(32 - s)=32 by omega]
     rw[adG (2 ^ s),<- adq (2 ^ s),hs1,adq]
    rw[e2,aeb _ _ hs0,aew]
   have hfin:∀ z:Int,z=((((b.take m).getD i 0).toNat+4294967296*((b.take m).getD (i+1) 0).toNat:Nat):Int)->IntKind.wrap .u32 (Int.fdiv z (2 ^ s))=((X / 4294967296 ^ i%4294967296:Nat):Int):=by
    intro z hz;have e:(2:Int) ^ s=((2 ^ s:Nat):Int):=by simp
    rw[hdig,hz,e,aeK _ (by omega),dk];rfl
   have ea:(0:Int)+(i:Int)=(i:Int):=by omega
   have ei:0+Int.toNat (i:Int)=i:=by omega
   have ei1:Int.toNat ((i:Int)+1)=i+1:=by omega
   simp only[iz,ea,ei1,adk,adJ,emin,hl];rw[ade (by omega:(i:Int)<m),adh,aa adb,aa adc,aa (ade (by omega)),aa adb,aa adb];rw[<- hwg i hi];by_cases hlast:i+1<m
   ·rw[<- hwg (i+1) hlast];rw[ade (by omega:(i:Int)+1<m),adh,aa adb,aa adb,aa adc,aa (ade (by omega)),aa (ade (by omega)),aa adc,aa (ade (by omega)),aa adb];have e1:IntKind.wrap .u64 ((b.take m).getD i 0)=((((b.take m).getD i 0).toNat:Nat):Int):=by rw[am]; omega
    have e2:IntKind.wrap .u64 (IntKind.wrap .u64 ((b.take m).getD (i+1) 0)*2 ^ 32)=((2 ^ 32*((b.take m).getD (i+1) 0).toNat:Nat):Int):=by
     have:(2:Int) ^ 32=4294967296:=by decide
     have:(2:Nat) ^ 32=4294967296:=by decide
     rw[am,am]; omega
    have p32:(2:Nat) ^ 32=4294967296:=by decide
    rw[e1,e2,cu _ _ 32 (by omega) (by omega),hfin _ (by omega),hset,jS]
   ·rw[adf (by omega:¬(i:Int)+1<m),adg,aa (ade (by omega)),aa adc,aa (ade (by omega)),aa adb];have hz:(b.take m).getD (i+1) 0=0:=dY (by omega);have e1:IntKind.wrap .u64 ((b.take m).getD i 0)=((((b.take m).getD i 0).toNat:Nat):Int):=by rw[am]; omega
    rw[e1,hfin _ (by rw[hz]; simp),hset,jS]
  ·simp only[iz];have hl:(dl X m++List.replicate (m - m) (0:Int)).length=m:=by simp[al]
   rw[adf (by omega:¬(m:Int)<(((dl X m++List.replicate (m - m) (0:Int)).length:Nat):Int)),adg,adQ,adS,adN];have hXl:X<4294967296 ^ m:=by have h1:=eK hw;rw[hwl]at h1;rw[hX];exact aeR (aeS _ _) h1
   rw[dr _ (iN X m) (by rw[al]; omega) (by rw[al]; omega),oJ hXl]
theorem QW {A B r u0:Nat} (h:r*4294967296+u0<A):B+r*4294967296+u0<B+A:=by omega
theorem A8 {N:Nat} {s5:Int} {ul j n u0 v0 v1 T d:Nat} {b c ql:List Int} (hn:2<=n) (hc1:c.getD (n - 2) 0=(v0:Int)) (hb:b.getD (j+n - 2) 0=(u0:Int)) (hcl:n<=c.length) (hul:j+n<ul) (hbl:ul<=b.length) (hbs:b.length<=1099511627780)
  (hv0:v0<4294967296) (hv1:v1<4294967296) (hu0:u0<4294967296) (hTl:T<4294967296*v1+4294967296) (hd:∀ g,T*4294967296+u0<g*(v1*4294967296+v0)->d<g) (hdW:d<4294967296) :
  ∀ g r M,g<M->g<=4294967299->g*v1+r=T->r<4294967296->d<=g ->
   ∃ q,d<=q/\q<4294967296/\q*(v1*4294967296+v0)<=T*4294967296+u0 /\ ∀ e0,ak M (nF N s5 n ul (n:Int) (v1:Int) (j:Int) c b ql e0) ((g:Int),(r:Int))=e0 (q:Int):=by
 intro g;induction g using Nat.strongRecOn with
 | ind g ih=>
 intro r M hM hgb hT hr hdg;obtain⟨M,rfl⟩:∃ m,M=m+1:=⟨M - 1,by omega⟩
 have i2:0+Int.toNat ((n:Int) - 2)=n - 2:=by omega
 have j2:0+Int.toNat ((j:Int)+(n:Int) - 2)=j+n - 2:=by omega
 have dec:∀ p,g=p+1->d<=p -> ∃ q,d<=q/\q<4294967296/\q*(v1*4294967296+v0)<=T*4294967296+u0 /\ ∀ e0,cond (decide ((IntKind.wrap .u64 ((r:Int)+(v1:Int)))>=4294967296)) (e0 (IntKind.wrap .u64 ((g:Int) - 1))) (ak M (nF N s5 n ul (n:Int) (v1:Int) (j:Int) c b ql e0) ((IntKind.wrap .u64 ((g:Int) - 1)),(IntKind.wrap .u64 ((r:Int)+(v1:Int)))))=e0 (q:Int):=by
  intro p hp hdp;subst hp;have w1:IntKind.wrap .u64 (((p+1:Nat):Int) - 1)=(p:Int):=D8 p (by omega);have w2:IntKind.wrap .u64 ((r:Int)+(v1:Int))=((r+v1:Nat):Int):=by rw[am]; omega
  rw[w1,w2];by_cases hb2:4294967296<=r+v1
  ·have hpl:p<4294967296:=by
    rcases aef p 4294967296 with h | h
    ·exact h
    ·exfalso;have:=adl v1 h;rw[aeP]at hT;omega
   refine⟨p,hdp,hpl,xW hv0 (by omega) hT hb2,λe0=>?_⟩;rw[ade (by omega),adh]
  ·obtain⟨q,q1,q2,q3,q4⟩:=ih p (by omega) (r+v1) M (by omega) (by omega) (by rw[<- hT,aeP]; omega) (by omega) hdp;exact⟨q,q1,q2,q3,λe0=>by rw[adf (by omega),adg]; exact q4 e0⟩
 by_cases hg:4294967296<=g
 ·obtain⟨q,q1,q2,q3,q4⟩:=dec (g - 1) (by omega) (by omega);refine⟨q,q1,q2,q3,λe0=>?_⟩;show nF N s5 n ul (n:Int) (v1:Int) (j:Int) c b ql e0 (_,_) (ak M _)=_;simp only[nF];rw[ade (by omega:(g:Int)>=4294967296),show(true==false)=false from rfl,adg];exact q4 e0
 ·have hgv:g*v0<=4294967295*4294967295:=ad7 (by omega) (by omega);have wv0:IntKind.wrap .u64 (v0:Int)=(v0:Int):=by rw[am]; omega
  have wgv:IntKind.wrap .u64 ((g:Int)*(v0:Int))=((g*v0:Nat):Int):=by rw[<- adB,am]; omega
  have e1:T*4294967296+u0=g*v1*4294967296+r*4294967296+u0:=by rw[<- hT,adI]
  have e2:g*(v1*4294967296+v0)=g*v1*4294967296+g*v0:=by rw[adw,adq]
  have body:∀ e0:Int->Bool,ak (M+1) (nF N s5 n ul (n:Int) (v1:Int) (j:Int) c b ql e0) ((g:Int),(r:Int))=cond (decide (((g*v0:Nat):Int)>((r*4294967296+u0:Nat):Int))) (cond (decide ((IntKind.wrap .u64 ((r:Int)+(v1:Int)))>=4294967296)) (e0 (IntKind.wrap .u64 ((g:Int) - 1))) (ak M (nF N s5 n ul (n:Int) (v1:Int) (j:Int) c b ql e0) ((IntKind.wrap .u64 ((g:Int) - 1)),(IntKind.wrap .u64 ((r:Int)+(v1:Int)))))) (e0 (g:Int)):=by intro e0;show nF N s5 n ul (n:Int) (v1:Int) (j:Int) c b ql e0 (_,_) (ak M _)=_;simp only[nF,i2,j2,hc1,hb,wv0,wgv];rw[adf (by omega:¬(g:Int)>=4294967296),show(false==false)=true from rfl,adh,aa adb,aa adc,aa (ade (by omega)),aa adb,aa adb,aa adc,aa (ade (by omega)),MZ hr hu0]
  by_cases ht:r*4294967296+u0<g*v0
  ·have hlt1:g*v1*4294967296+r*4294967296+u0<g*v1*4294967296+g*v0:=QW ht;have hlt:d<g:=hd g (aeR (afm e1) (adz hlt1 (afm e2.symm)));obtain⟨q,q1,q2,q3,q4⟩:=dec (g - 1) (by omega) (by omega);exact⟨q,q1,q2,q3,λe0=>by rw[body,ade (by omega),adh]; exact q4 e0⟩
  ·exact⟨g,hdg,by omega,adH (afm e2) (adH (by omega) (afm e1.symm)),λe0=>by rw[body,adf (by omega),adg]⟩
theorem HZ {N:Nat} {j n ul g U V:Nat} {b c:List Int} (hN:n<N) (hb:InW b) (hc:InW c) (hcl:n<=c.length) (hul:j+n<ul) (hbl:ul<=b.length) (hbs:b.length<=1099511627780) (hg:g<4294967296) (hU:U=aB ((b.drop j).take (n+1))) (hV:V=aB (c.take n)) (k:Ky3) :
  Lt N 0 ul 0 n (j:Int) (g:Int) b c k=k (decide (U<g*V)) (b.take j++(dl (U+4294967296 ^ (n+1) - g*V) (n+1)++b.drop (j+(n+1)))):=by
 (unfold Lt; rw[ac]; unfold Js)
 have hw:InW ((b.drop j).take (n+1)):=(hb.drop j).take _;have hwl:((b.drop j).take (n+1)).length=n+1:=by rw[adV,aeU]; omega
 have hwg:∀ i,i<=n->((b.drop j).take (n+1)).getD i 0=b.getD (j+i) 0:=λi hi=>by rw[rM (by omega),ju]
 generalize (b.drop j).take (n+1)=w at *;have hVl:V<4294967296 ^ n:=by rw[hV]; exact bd hc n
 have hgV:g*V<4294967296 ^ (n+1):=by rw[adr,adi];exact aej hVl hg
 obtain⟨D,hD⟩:∃ D,D=U+4294967296 ^ (n+1) - g*V:=⟨_,rfl⟩
 obtain⟨Q,hQ⟩:∃ Q,Q=g*V:=⟨_,rfl⟩
 have hQW:Q<4294967296 ^ (n+1):=by rw[hQ]; exact hgV
 rw[<- hD];refine aC (λi=>(((g*aB (c.take i) / 4294967296 ^ i:Nat):Int),((if aB (w.take i)<Q%4294967296 ^ i then 1 else 0:Nat):Int),(i:Int),b.take j++(dl D i++b.drop (j+i)))) n ?_ (by omega) (λi hi K=>?_) (λK=>?_)
 ·simp[dl,aB,af7]
 ·have hx:=hb.at (i:=j+i);have hy:=hc.at (i:=i);have hcv:=aM (m:=c) i;have hp:=aQ i;have hVi:=bd hc i;obtain⟨s1,s2⟩:=za hw hwl hU (by omega:i<=n) hQW;rw[hwg i (by omega)]at s1 s2;rw[hQ,<- hD,<- hQ]at s1;obtain⟨cy,hcy⟩:∃ cy,cy=g*aB (c.take i) / 4294967296 ^ i:=⟨_,rfl⟩
  have hcyl:cy<4294967296:=by rw[hcy,ado hp];exact aej hg hVi
  have e1:g*aB (c.take (i+1))=g*aB (c.take i)+4294967296 ^ i*(g*(c.getD i 0).toNat):=by rw[hcv,adw,adG g]
  have ecy:g*aB (c.take (i+1)) / 4294967296 ^ (i+1)=(g*(c.getD i 0).toNat+cy) / 4294967296:=by rw[adr,<- adm,e1,dX,<- hcy];congr 1; omega
  obtain⟨R,hR⟩:=bW (c.take n) (i+1);rw[agl,aeH (by omega),<- hV]at hR;have elo:Q / 4294967296 ^ i%4294967296=(g*(c.getD i 0).toNat+cy)%4294967296:=by
   have:Q=g*aB (c.take (i+1))+4294967296 ^ (i+1)*(g*R):=by rw[hQ,hR,adw,adG g]
   rw[k6 this,e1,dX,<- hcy];congr 1; omega
  rw[elo]at s1 s2;have ei:0+Int.toNat ((j:Int)+(i:Int))=j+i:=by omega
  have hgy:g*(c.getD i 0).toNat<=4294967295*4294967295:=ad7 (by omega) (by omega);have wy:IntKind.wrap .u64 (c.getD i 0)=(((c.getD i 0).toNat:Nat):Int):=by rw[am]; omega
  have wp:IntKind.wrap .u64 ((g:Int)*(((c.getD i 0).toNat:Nat):Int))=((g*(c.getD i 0).toNat:Nat):Int):=by rw[<- adB,am]; omega
  have wpc:IntKind.wrap .u64 (((g*(c.getD i 0).toNat:Nat):Int)+(cy:Int))=((g*(c.getD i 0).toNat+cy:Nat):Int):=by rw[am]; omega
  have wx:IntKind.wrap .u64 (b.getD (j+i) 0)=(((b.getD (j+i) 0).toNat:Nat):Int):=by rw[am]; omega
  have hcf:Int.fdiv ((g*(c.getD i 0).toNat+cy:Nat):Int) (2 ^ 32)=((g*aB (c.take (i+1)) / 4294967296 ^ (i+1):Nat):Int):=by rw[jG,ecy]; rfl
  simp only[gJ,adk,adJ];have ei':Int.toNat ((j:Int)+(i:Int))=j+i:=by omega
  rw[ei',D7 D (by omega),D6 D (by omega),ade (by omega:(i:Int)<(n:Int)),adh,aa adc,aa (ade (by omega)),aa adb,aa adc,aa (ade (by omega)),<- hcy,wy,wp,wpc,wx,Ca,hcf];generalize (g*(c.getD i 0).toNat+cy)%4294967296=lo at *;have hlo:lo<4294967296:=by rw[<- elo]; exact adu _ (by decide)
  obtain⟨bo,hbo⟩:∃ bo:Nat,bo=if aB (w.take i)<Q%4294967296 ^ i then 1 else 0:=⟨_,rfl⟩
  have hbo1:bo<=1:=by rw[hbo]; split <;> omega
  rw[<- hbo]at s1 s2 ⊢;obtain⟨x,hxe⟩:∃ x,x=(b.getD (j+i) 0).toNat:=⟨_,rfl⟩
  rw[<- hxe]at s1 s2 ⊢;have hxl:x<4294967296:=by omega
  have wlb:IntKind.wrap .u64 ((lo:Int)+(bo:Int))=((lo+bo:Nat):Int):=by rw[am]; omega
  rw[wlb];by_cases hlt:x<lo+bo
  ·rw[if_pos hlt]at s2;have wv:IntKind.wrap .u32 (IntKind.wrap .u64 (IntKind.wrap .u64 ((x:Int)+4294967296) - ((lo+bo:Nat):Int)))=((D / 4294967296 ^ i%4294967296:Nat):Int):=by rw[<- s1,am,am,dk]; omega
   rw[ade (by omega),adh,wv,aa adb,aa adc,aa (ade (by omega)),aa adb,zh D (by omega),<- s2,jS];rfl
  ·rw[if_neg hlt]at s2;have wv:IntKind.wrap .u32 (IntKind.wrap .u64 ((x:Int) - ((lo+bo:Nat):Int)))=((D / 4294967296 ^ i%4294967296:Nat):Int):=by rw[<- s1,am,dk]; omega
   rw[adf (by omega),adg,wv,aa adb,aa adc,aa (ade (by omega)),aa adb,zh D (by omega),<- s2,jS];rfl
 ·have hx:=hb.at (i:=j+n);obtain⟨s1,s2⟩:=za hw hwl hU (ads n) hQW;rw[hwg n (by omega)]at s1 s2;rw[hQ,<- hD,<- hQ]at s1;have hql:Q / 4294967296 ^ n<4294967296:=by rw[ado (aQ n),adi,<- adr]; exact hQW
  rw[adp hql]at s1 s2;have hwt:w.take (n+1)=w:=adC (by omega);rw[hwt,<- hU,adp hQW]at s2;simp only[gJ];have ei':0+Int.toNat ((j:Int)+(n:Int))=j+n:=by omega
  rw[adf (by omega:¬(n:Int)<(n:Int)),adg,<- hV,<- hQ];rw[ei',D7 D (by omega),D6 D (by omega),aa adb,aa adc,aa (ade (by omega)),aa adb,aa adc,aa (ade (by omega))];obtain⟨y,hy⟩:∃ y,y=Q / 4294967296 ^ n:=⟨_,rfl⟩
  rw[<- hy]at s1 s2 hql ⊢;obtain⟨bo,hbo⟩:∃ bo:Nat,bo=if aB (w.take n)<Q%4294967296 ^ n then 1 else 0:=⟨_,rfl⟩
  have hbo1:bo<=1:=by rw[hbo]; split <;> omega
  rw[<- hbo]at s1 s2 ⊢;have wx:IntKind.wrap .u64 (b.getD (j+n) 0)=(((b.getD (j+n) 0).toNat:Nat):Int):=by rw[am]; omega
  rw[wx];obtain⟨x,hxe⟩:∃ x,x=(b.getD (j+n) 0).toNat:=⟨_,rfl⟩
  rw[<- hxe]at s1 s2 ⊢;have hxl:x<4294967296:=by omega
  have wlb:IntKind.wrap .u64 ((y:Int)+(bo:Int))=((y+bo:Nat):Int):=by rw[am]; omega
  have wv:IntKind.wrap .u32 (IntKind.wrap .u64 ((x:Int) - ((y+bo:Nat):Int)))=((D / 4294967296 ^ n%4294967296:Nat):Int):=by rw[<- s1,am,dk]; omega
  rw[wlb,wv,zh D (by omega)];have hdec:decide ((x:Int)<((y+bo:Nat):Int))=decide (U<Q):=by
   by_cases h1:U<Q
   ·rw[if_pos h1]at s2;rw[ade h1];refine ade ?_;split at s2 <;> omega
   ·rw[if_neg h1]at s2;rw[adf h1];refine adf ?_;split at s2 <;> omega
  rw[hdec]
theorem H5 {N:Nat} {j n ul D V:Nat} {b c:List Int} (hN:n<N) (hc:InW c) (hcl:n<=c.length) (hul:j+n<ul) (hbl:ul<=b.length) (hbs:b.length<=1099511627780) (hV:V=aB (c.take n)) (k:Kz6) :
  Lu N 0 ul 0 n (j:Int) (b.take j++(dl D (n+1)++b.drop (j+(n+1)))) c k=k (b.take j++(dl (D+V) (n+1)++b.drop (j+(n+1)))):=by
 (unfold Lu; rw[ac]; unfold Jt)
 obtain⟨E,hE⟩:∃ E,E=D+V:=⟨_,rfl⟩
 rw[<- hE];refine aC (λi=>((((D%4294967296 ^ i+aB (c.take i)) / 4294967296 ^ i:Nat):Int),(i:Int),b.take j++(dl E i++((dl D (n+1)).drop i++b.drop (j+(n+1)))))) n ?_ (by omega) (λi hi K=>?_) (λK=>?_)
 ·simp[dl,aB,af7]
 ·have hx:=hc.at (i:=i);have hcv:=aM (m:=c) i;have hVl:=bd hc i;have hp:=aQ i;have hml:=adu D hp;obtain⟨cy,hcy⟩:∃ cy,cy=(D%4294967296 ^ i+aB (c.take i)) / 4294967296 ^ i:=⟨_,rfl⟩
  have hcl1:cy<=1:=by
   have:cy<2:=by rw[hcy,ado hp]; omega
   omega
  obtain⟨a1,a2⟩:=xw (D:=D) (V:=aB (c.take i)) (v:=(c.getD i 0).toNat) hcy;obtain⟨R,hR⟩:=bW (c.take n) (i+1);rw[agl,aeH (by omega),<- hV,hcv]at hR;have a3:=a2 R;rw[<- hR,<- hE]at a3;have hdl:D / 4294967296 ^ i%4294967296<4294967296:=adu _ (by decide);have ei':Int.toNat ((j:Int)+(i:Int))=j+i:=by omega
  simp only[gL,adk,adJ,ei'];rw[D4 D E (by omega) (by omega),D3 D E (by omega) (by omega)];have wy:IntKind.wrap .u64 (c.getD i 0)=(((c.getD i 0).toNat:Nat):Int):=by rw[am]; omega
  obtain⟨dg,hdg⟩:∃ dg,dg=D / 4294967296 ^ i%4294967296:=⟨_,rfl⟩
  rw[<- hdg]at a1 a3 hdl ⊢;have ws:IntKind.wrap .u64 (IntKind.wrap .u64 (IntKind.wrap .u64 (dg:Int)+(((c.getD i 0).toNat:Nat):Int))+(cy:Int))=((dg+(c.getD i 0).toNat+cy:Nat):Int):=by rw[am,am,am]; omega
  have wf:Int.fdiv ((dg+(c.getD i 0).toNat+cy:Nat):Int) (2 ^ 32)=(((D%4294967296 ^ (i+1)+aB (c.take (i+1))) / 4294967296 ^ (i+1):Nat):Int):=by rw[hcv,a1,jG]; rfl
  have w3:IntKind.wrap .u32 ((dg+(c.getD i 0).toNat+cy:Nat):Int)=((E / 4294967296 ^ i%4294967296:Nat):Int):=by rw[a3,dk]; rfl
  rw[ade (by omega:(i:Int)<(n:Int)),adh,aa adb,aa adc,aa (ade (by omega)),aa adc,aa (ade (by omega)),aa adb,aa adc,aa (ade (by omega)),aa adb,<- hcy,wy,ws,wf,w3,D5 D E (by omega) (by omega),jS]
 ·have hp:=aQ n;have hml:=adu D hp;have hVl:V<4294967296 ^ n:=by rw[hV]; exact bd hc n
  obtain⟨cy,hcy⟩:∃ cy,cy=(D%4294967296 ^ n+V) / 4294967296 ^ n:=⟨_,rfl⟩
  have hcl1:cy<=1:=by
   have:cy<2:=by rw[hcy,ado hp]; omega
   omega
  obtain⟨a1,a3⟩:=B8 (D:=D) (V:=V) (i:=n) hcy;rw[<- hE]at a3;have hdl:D / 4294967296 ^ n%4294967296<4294967296:=adu _ (by decide);have ei':0+Int.toNat ((j:Int)+(n:Int))=j+n:=by omega
  simp only[gL];rw[adf (by omega:¬(n:Int)<(n:Int)),adg,ei',D4 D E (by omega) (by omega),D3 D E (by omega) (by omega),<- hV,<- hcy];obtain⟨dg,hdg⟩:∃ dg,dg=D / 4294967296 ^ n%4294967296:=⟨_,rfl⟩
  rw[<- hdg]at a3 hdl ⊢;have w3:IntKind.wrap .u32 ((dg:Int)+IntKind.wrap .u32 (cy:Int))=((E / 4294967296 ^ n%4294967296:Nat):Int):=by rw[a3,dk,dk]; omega
  rw[aa adb,aa adc,aa (ade (by omega)),aa adc,aa (ade (by omega)),w3,D5 D E (by omega) (by omega)];rw[ad2 (by rw[al]; omega),ad4]
theorem MF {P A B U3 V2 U V g:Nat} (hB:B<P) (hg:g*P<=V) (hU:U=A+P*U3) (hV:V=B+P*V2) (h:g*V2<=U3) (hV0:0<V):g<=U / V+1:=by
 have h1:g*B<=g*P:=adn _ (by omega);have h2:P*(g*V2)<=P*U3:=adn _ h;have h3:g*V=g*B+P*(g*V2):=by rw[hV,adw,adG g P]
 have h4:g*V<=U+V:=by omega
 have h5:=afF U hV0;have h6:g*V<(U / V+2)*V:=by rw[show U / V+2=U / V+1+1 by omega,aeP,adi (U / V+1)];omega
 have:=Nat.lt_of_mul_lt_mul_right h6;omega
theorem R3 {V Y Z X U Q:Nat} (h1:V<Y) (h2:Y<=Z) (h3:X<=U) (h4:X=Q*4294967296) (h5:U<V*4294967296):Q<Z:=by omega
theorem Mk {P A B U V T u0 v0 v1:Nat} (hA:A<P) (hB:B<P) (hU:U=A+P*(u0+4294967296*T)) (hV:V=B+P*(v0+4294967296*v1)) (hv0:v0<4294967296) (hUV:U<V*4294967296):T<4294967296*v1+4294967296:=by
 have h1:V<P*(v0+4294967296*v1+1):=by rw[hV,agA]; omega
 have h2:P*(v0+4294967296*v1+1)<=P*(4294967296*v1+4294967296):=adn _ (by omega);have h3:P*(4294967296*T)<=U:=by rw[hU,adw P u0]; omega
 have h4:P*(4294967296*T)=P*T*4294967296:=by rw[adi 4294967296,adq]
 have h5:P*T<P*(4294967296*v1+4294967296):=R3 h1 h2 h3 h4 hUV;exact afz h5
theorem HE {N:Nat} (hN:5<N) {a:List Int} {s:Int} {d:Nat} {dl':List Int} {X la:Nat} (hla:a.length=la) (hX:X<4294967296 ^ (la+1)) (h1:la<=(ai X).length) (hs:la<=1099511627000) (e0:Nat->List Int->Bool) :
  ak N (rk N a s d dl' e0) ((ai X).length,dl X (la+1))=e0 (la+1) (dl X (la+1)):=by
 have h2:(ai X).length<=la+1:=cz _ _ hX;have last:∀ K,rk N a s d dl' e0 (la+1,dl X (la+1)) K=e0 (la+1) (dl X (la+1)):=by intro K;simp only[rk];rw[hla,aa adb,adf (by omega),adg]
 by_cases h:(ai X).length=la+1
 ·rw[h];exact aC (λi=>(la+1,dl X (la+1))) 0 rfl (by omega) (λi hi K=>by omega) last
 ·have hl:(ai X).length=la:=by omega
  rw[hl];refine aC (λi=>(la+i,dl X (la+1))) 1 rfl (by omega) (λi hi K=>?_) last;have:i=0:=by omega
  subst this;have e1:(dl X (la+1)).take la++[0]=dl X (la+1):=by
   rw[nP X (by omega),dl];have:X / 4294967296 ^ la%4294967296=0:=by have:=iB X;rw[hl]at this;rw[adK this]
   rw[this]; rfl
  show rk N a s d dl' e0 (la,dl X (la+1)) K=K (la+1,dl X (la+1));simp only[rk];rw[hla,aa adb,ade (by omega),adh,aa (ade (by rw[al]; omega)),aeO,e1,al,aa (ade (by omega))]
theorem Rp {N:Nat} (hN:1180591620717411303424<=N) {n j ul V v1:Nat} {s:Int} {b ql:List Int} (hVlt:V<4294967296 ^ (n+2)) (hVge:4294967296 ^ (n+1)<=V) (hv1:v1=V / 4294967296 ^ (n+1)) (hv1lo:2147483648<=v1) (hv1hi:v1<4294967296) (hbw:InW b) (hblen:b.length=ul) (hjl:j+(n+2)<ul) (hls:ul<=1099511627700) (hjq:j<ql.length)
  (hUlt:aB ((b.drop j).take (n+2+1))<V*4294967296) (e0:List Int->List Int->Bool) (K:Int × List Int × List Int->Bool) :
  i8 N s (n+2) ul ((n+2:Nat):Int) (v1:Int) (dl V (n+2+1)) e0 ((j:Int),b,ql) K
   = K ((j:Int) - 1,b.take j++(dl (aB ((b.drop j).take (n+2+1))%V) (n+2+1)++b.drop (j+(n+2+1))),ql.set j ((aB ((b.drop j).take (n+2+1)) / V:Nat):Int)):=by
 have hV0:0<V:=adz (aQ _) hVge;have hcv:aB ((dl V (n+2+1)).take (n+2))=V:=by rw[nP V (by omega),pb,adp hVlt]
 have hU3:=SM (b.drop j) n;have hV2:=SL (dl V (n+2+1)) n;rw[show n+3=n+2+1 by omega,ju,ju,ju]at hU3;rw[hcv]at hV2;have a0:=hbw.at (i:=j+n);have a1:=hbw.at (i:=j+(n+1));have a2:=hbw.at (i:=j+(n+2));have c0:=(iN V (n+2+1)).at (i:=n);obtain⟨u0,hu0⟩:∃ u,u=(b.getD (j+n) 0).toNat:=⟨_,rfl⟩
 obtain⟨u1,hu1⟩:∃ u,u=(b.getD (j+(n+1)) 0).toNat:=⟨_,rfl⟩
 obtain⟨u2,hu2⟩:∃ u,u=(b.getD (j+(n+2)) 0).toNat:=⟨_,rfl⟩
 obtain⟨v0,hv0⟩:∃ u,u=((dl V (n+2+1)).getD n 0).toNat:=⟨_,rfl⟩
 have q0:b.getD (j+n) 0=(u0:Int):=by omega
 have q1:b.getD (j+(n+1)) 0=(u1:Int):=by omega
 have q2:b.getD (j+(n+2)) 0=(u2:Int):=by omega
 have k0:(dl V (n+2+1)).getD n 0=(v0:Int):=by omega
 have k1:((dl V (n+2+1)).getD (n+1) 0).toNat=v1:=by rw[rJ V (by omega),adk,<- hv1,adp hv1hi]
 rw[<- hu0,<- hu1,<- hu2]at hU3;rw[<- hv0,k1]at hV2;have hAb:=bd (hbw.drop j) n;have hBb:=bd (iN V (n+2+1)) n;have hwv:∃ U,U=aB ((b.drop j).take (n+2+1)):=⟨_,rfl⟩
 obtain⟨U,hwv⟩:=hwv;rw[<- hwv]at hU3 hUlt ⊢;have hT:=Mk hAb hBb hU3 hV2 (by omega) hUlt;have hdW:U / V<4294967296:=by rw[ado hV0,adi]; exact hUlt
 have hv1p:0<v1:=by omega
 obtain⟨T,hTe⟩:∃ T,T=u2*4294967296+u1:=⟨_,rfl⟩
 rw[<- hTe]at hU3 hT;have hg0:T / v1<=4294967298:=by
  have:T / v1<4294967299:=by rw[ado hv1p]; omega
  omega
 have hkb:U / V<=T / v1:=by rw[hTe]; rw[hTe]at hU3; exact Gr hAb hU3 hV2 hV0 hv1p (by omega)
 obtain⟨g,p1,p2,p3,p4⟩:=A8 (N:=N) (s5:=s) (ul:=ul) (j:=j) (n:=n+2) (u0:=u0) (v0:=v0) (v1:=v1) (T:=T) (d:=U / V) (b:=b) (c:=dl V (n+2+1)) (ql:=ql) (by omega) (by rw[show n+2 - 2=n by omega]; exact k0) (by rw[show j+(n+2) - 2=j+n by omega]; exact q0) (by rw[al]; omega) (by omega) (by omega) (by omega) (by omega) hv1hi (by omega) hT
  (λg hg=>Bb hAb hU3 hV2 hV0 (by rw[ae9 v0,adi 4294967296 v1]; omega)) hdW
  (T / v1) (T%v1) N (by omega) (by omega) (aec _ _) (ae3 (adu _ hv1p) hv1hi) hkb
 have hgd:g<=U / V+1:=MF hBb (by have:g*4294967296 ^ n<=4294967296*4294967296 ^ n:=adl _ (Nat.le_of_lt p2);rw[<- Nat.pow_succ']at this;exact adH this hVge) hU3 hV2 (by rw[ae9 v0,adi 4294967296 v1]; omega) hV0
 have hless:=λkk=>HZ (N:=N) (j:=j) (n:=n+2) (ul:=ul) (g:=g) (U:=U) (V:=V) (b:=b) (c:=dl V (n+2+1)) (by omega) hbw (iN _ _) (by rw[al]; omega) (by omega) (by omega) (by omega) p2 hwv hcv.symm kk
 have jn:0+Int.toNat ((j:Int)+((n+2:Nat):Int))=j+(n+2):=by omega
 have jn1:0+Int.toNat ((j:Int)+((n+2:Nat):Int) - 1)=j+(n+1):=by omega
 have top0:(!decide ((v1:Int)=0))=true:=by simp; omega
 have wu2:IntKind.wrap .u64 (u2:Int)=(u2:Int):=by rw[am]; omega
 have hor:az .or .u64 (IntKind.wrap .u64 ((u2:Int)*2 ^ 32)) (IntKind.wrap .u64 (u1:Int))=(T:Int):=by rw[MZ (by omega) (by omega),hTe]
 have etd:IntKind.wrap .u64 (Int.tdiv (T:Int) (v1:Int))=((T / v1:Nat):Int):=by have:Int.tdiv (T:Int) (v1:Int)=((T / v1:Nat):Int):=rfl;rw[this,am];generalize T / v1=z at *;omega
 have etm:Int.tmod (T:Int) (v1:Int)=((T%v1:Nat):Int):=rfl;have hfin:dl (U+4294967296 ^ (n+2+1) - U / V*V) (n+2+1)=dl (U%V) (n+2+1):=by
  have e:U+4294967296 ^ (n+2+1) - (U / V)*V=U%V+4294967296 ^ (n+2+1)*1:=by have:=aec U V;omega
  rw[e,Gi _ _ _ (ads _)]
 have hgV:g*V<4294967296 ^ (n+2+1):=by rw[adr,adi];exact aej hVlt p2
 simp only[i8,jn,jn1,q1,q2,wu2,hor,etd,etm];rw[ade (by omega:(j:Int)>=0),adh,aa adb,aa adc,aa (ade (by omega)),aa adb,aa adb,aa adc,aa (ade (by omega)),aa top0,aa top0,p4,hless];by_cases hlt:U<g*V
 ·have hge:g=U / V+1:=by
   have:U / V<g:=by
    rcases aef (U / V) g with h | h
    ·exact h
    ·have:=(aeY hV0).1 h; omega
   omega
  have hmore:=λkk=>H5 (N:=N) (j:=j) (n:=n+2) (ul:=ul) (D:=U+4294967296 ^ (n+2+1) - g*V) (V:=V) (b:=b) (c:=dl V (n+2+1)) (by omega) (iN _ _) (by rw[al]; omega) (by omega) (by omega) (by omega) hcv.symm kk
  have hD:U+4294967296 ^ (n+2+1) - g*V+V=U+4294967296 ^ (n+2+1) - U / V*V:=by
   have:g*V=U / V*V+V:=by rw[hge,aeP]
   omega
  have wg:IntKind.wrap .u32 (IntKind.wrap .u64 ((g:Int) - 1))=((U / V:Nat):Int):=by rw[hge];generalize U / V=z at *;rw[am,dk]; omega
  rw[ade hlt,adh,hmore,hD,hfin,aa adc,aa (ade (by omega)),aa adb,adk,wg]
 ·have hge:g=U / V:=by have:=(aeY hV0).2 (Nat.le_of_not_lt hlt);omega
  have wg:IntKind.wrap .u32 (g:Int)=((U / V:Nat):Int):=by rw[hge];generalize U / V=z at *;rw[dk]; omega
  rw[adf hlt,adg,wg,hge,hfin,aa adc,aa (ade (by omega)),aa adb,adk]
theorem yp {N:Nat} (hN:1180591620717411303424<=N) {x y:Nat} (hxy:y<=x) (hy2:2<=(ai y).length) (hxl:(ai x).length<=1099511627000) (k:Kz0) :
  oe N (ai x) (ai y) k=k (ai (x / y)) (ai (x%y)):=by
 have hy0:y ≠ 0:=by intro h; rw[h,aT]at hy2; simp at hy2
 have hyx:=bT hxy;have hylt:=iB y;have hxlt:=iB x;have hylo:4294967296 ^ ((ai y).length - 1)<=y:=by
  rcases aef y (4294967296 ^ ((ai y).length - 1))with h | h
  ·have:=cz _ _ h; omega
  ·exact h
 (unfold oe; rw[ac]; unfold B2)
 rw[jz x y ⟨by omega,by omega⟩ ⟨by omega,by omega⟩];have hc:decide (dC x y<0)=false:=by unfold dC; rw[if_neg (by omega)]; split <;> rfl
 obtain⟨n,hn⟩:∃ n,(ai y).length=n+2:=⟨(ai y).length - 2,by omega⟩
 obtain⟨lx,hlx⟩:∃ lx,(ai x).length=lx:=⟨_,rfl⟩
 have htd:(ai y).getD (n+1) 0=((y / 4294967296 ^ (n+1):Nat):Int):=by rw[l_,adp];rw[ado (aQ _),adi,<- adr];rw[hn]at hylt; exact hylt
 rw[hn]at hylt hylo;rw[hlx]at hxlt;rw[show n+2 - 1=n+1 by omega]at hylo;obtain⟨t,ht⟩:∃ t,t=y / 4294967296 ^ (n+1):=⟨_,rfl⟩
 rw[<- ht]at htd;have htl:t<4294967296:=by rw[ht,ado (aQ _),adi,<- adr]; exact hylt
 have ht0:t ≠ 0:=by have:=afE hylo (aQ (n+1)); omega
 obtain⟨g1,g2,g3⟩:=IK ht0 htl;have ein:Int.toNat (((n+2:Nat):Int) - 1)=n+1:=by omega
 have e1':(((n+2:Nat):Int)==1)=false:=by simp; omega
 rw[hc,adg,hn,e1',adg,aa adb,aa adc,ein,htd,KG N htl];obtain⟨s,hs⟩:∃ s,s=32 - bl t:=⟨_,rfl⟩
 rw[<- hs]at g1 g2 g3 ⊢;have hs0:0<2 ^ s:=adt s;have ews:IntKind.wrap .u64 ((s:Nat):Int)=(s:Int):=by rw[am]; omega
 rw[ews];obtain⟨V,hV⟩:∃ V,V=y*2 ^ s:=⟨_,rfl⟩
 obtain⟨X,hX⟩:∃ X,X=x*2 ^ s:=⟨_,rfl⟩
 have hVlt:V<4294967296 ^ (n+2):=by
  have h1:=afF y (aQ (n+1));rw[<- ht]at h1;have h2:y*2 ^ s<4294967296 ^ (n+1)*(t+1)*2 ^ s:=ad5 h1 hs0;have h3:(t+1)*2 ^ s<=4294967296:=by
   have hd:2 ^ s*2 ^ (32 - s)=4294967296:=by rw[<- ady,show s+(32 - s)=32 by omega]
   have h4:t<2 ^ (32 - s):=by rw[adi]at g3;rw[<- hd]at g3;exact afz g3
   rw[<- hd,adi];exact adn _ h4
  have h5:=adn (4294967296 ^ (n+1)) h3;rw[hV,show n+2=n+1+1 by omega,adr];rw[adq]at h2;omega
 have hVge:4294967296 ^ (n+1)<=V:=by rw[hV]; exact adH hylo (aed _ hs0)
 have hVlen:(ai V).length=n+2:=MS hVge hVlt;have hV0:0<V:=adz (aQ _) hVge;have hx0:x ≠ 0:=by omega
 have hvt:V / 4294967296 ^ (n+1)=t*2 ^ s+y%4294967296 ^ (n+1)*2 ^ s / 4294967296 ^ (n+1):=by
  have h1:=aee y (4294967296 ^ (n+1));rw[<- ht]at h1;have h2:V=y%4294967296 ^ (n+1)*2 ^ s+4294967296 ^ (n+1)*(t*2 ^ s):=by rw[hV,<- adq,<- adI]; congr 1; omega
  rw[h2,dX]; omega
 have hv1lo:2147483648<=V / 4294967296 ^ (n+1):=by rw[hvt]; exact adH g2 (afA _ _)
 have hv1hi:V / 4294967296 ^ (n+1)<4294967296:=by rw[ado (aQ _),adi,<- adr]; exact hVlt
 rw[qM hy0 g1 (by omega) (by omega),hn,<- hV,hVlen,qM hx0 g1 (by omega) (by omega),hlx,<- hX];have hs2:2 ^ s<=4294967296:=by rw[<- BA]; exact adv (by decide) (by omega)
 have hXlt:X<4294967296 ^ (lx+1):=by rw[hX,adr]; exact adZ hxlt hs2 (by decide)
 have hXlen2:lx<=(ai X).length:=by rw[<- hlx,hX]; exact bT (aed _ hs0)
 rw[HE (by omega) hlx hXlt hXlen2 (by omega)];unfold oB;obtain⟨M,hM⟩:∃ M,lx+1=M+(n+2):=⟨lx+1 - (n+2),by omega⟩
 have eM:(((lx+1:Nat):Int) - ((n+2:Nat):Int))=(M:Int):=by omega
 have ein2:0+Int.toNat (((n+2:Nat):Int) - 1)=n+1:=by omega
 rw[eM,adk,aeB,ein2,rJ V (by omega),adp hv1hi];obtain⟨v1,hv1⟩:∃ v1,v1=V / 4294967296 ^ (n+1):=⟨_,rfl⟩
 rw[<- hv1]at hv1lo hv1hi ⊢;have wv1:IntKind.wrap .u64 (v1:Int)=(v1:Int):=by rw[am]; omega
 rw[wv1,aa adb,aa (bY (by omega) (by omega) (by omega) (by omega)),aa adb,aa adc,aa (ade (by rw[al]; omega)),aa adb];have hstart:dl X (lx+1)=dl X M++(dl (X / 4294967296 ^ M%V) (n+2)++List.replicate 0 0):=by
  have hXM:X / 4294967296 ^ M<V:=by
   rw[ado (aQ M),hX,hV];have h1:x*2 ^ s<4294967296 ^ lx*2 ^ s:=ad5 hxlt hs0;have h2:4294967296 ^ lx=4294967296 ^ (n+1)*4294967296 ^ M:=by rw[<- ady]; congr 1; omega
   have h3:=adl (4294967296 ^ M*2 ^ s) hylo;rw[h2,adq]at h1;have e:y*2 ^ s*4294967296 ^ M=y*(4294967296 ^ M*2 ^ s):=by rw[adq,adi (2 ^ s)]
   rw[e]; omega
  rw[adp hXM,adS,adN,<- zZ,<- hM]
 rw[hstart];have hQlt:X / V<4294967296 ^ M:=by
  rw[ado hV0];have h1:x*2 ^ s<4294967296 ^ lx*2 ^ s:=ad5 hxlt hs0;have h2:4294967296 ^ lx=4294967296 ^ M*4294967296 ^ (n+1):=by rw[<- ady]; congr 1; omega
  have h3:=adn (4294967296 ^ M) (adl (2 ^ s) hylo);rw[hX,hV];rw[h2,adq]at h1;omega
 have hmk:M<=1099511627001:=by omega
 refine aC (λi=>((M:Int) - 1 - (i:Int),dl X (M - i)++(dl (X / 4294967296 ^ (M - i)%V) (n+2)++List.replicate i 0),List.replicate (M - i) (0:Int)++(dl (X / V) M).drop (M - i))) M ?_ (by omega) (λi hi K=>?_) (λK=>?_)
 ·rw[afk,ad2 (by rw[al]; omega),adN];congr 1;omega
 ·obtain⟨j,hj⟩:∃ j,M - i=j+1:=⟨M - i - 1,by omega⟩
  have hj2:M - (i+1)=j:=by omega
  have ei:(M:Int) - 1 - (i:Int)=(j:Int):=by omega
  have ei2:(M:Int) - 1 - ((i+1:Nat):Int)=(j:Int) - 1:=by omega
  rw[hj,hj2,ei,ei2];obtain⟨A,hA⟩:∃ A,A=X / 4294967296 ^ j:=⟨_,rfl⟩
  have hA1:X / 4294967296 ^ (j+1)=A / 4294967296:=by rw[hA,adr,adm]
  obtain⟨n1,n2⟩:=yQ (A:=A) hV0;obtain⟨R,hR⟩:∃ R,R=A / 4294967296%V:=⟨_,rfl⟩
  have hRV:R<V:=by rw[hR]; exact adu _ hV0
  rw[hA1,<- hR];rw[<- hR]at n1 n2;obtain⟨b,hb⟩:∃ b,b=dl X (j+1)++(dl R (n+2)++List.replicate i 0):=⟨_,rfl⟩
  have hblen:b.length=lx+1:=by rw[hb]; simp[al]; omega
  have hbw:InW b:=by
   rw[hb];intro z hz;rcases List.mem_append.1 hz with h | h
   ·exact iN _ _ z h
   ·rcases List.mem_append.1 h with h | h
    ·exact iN _ _ z h
    ·have:=(List.mem_replicate.1 h).2; subst this; omega
  have hbt:b.take j=dl X j:=by rw[hb,aeh (by rw[al]; omega),nP X (by omega)]
  have hbd:b.drop j=((A%4294967296:Nat):Int)::(dl R (n+2)++List.replicate i 0):=by rw[hb,dl,adx,aeg (by rw[al]; omega),ad2 (by rw[al]; omega),ad4,hA];rfl
  have hwv:aB ((b.drop j).take (n+2+1))=R*4294967296+A%4294967296:=by rw[hbd,af4,aeh (by rw[al]; omega),adC (by rw[al]; omega),aB,pb,adp (ae3 hRV hVlt),adk];omega
  have hbd2:b.drop (j+(n+2+1))=List.replicate i 0:=by rw[<- List.drop_drop,hbd,List.drop_succ_cons,aeg (by rw[al]; omega),ad2 (by rw[al]; omega),ad4]
  have hcv:aB ((dl V (n+2+1)).take (n+2))=V:=by rw[nP V (by omega),pb,adp hVlt]
  have hAm:A%4294967296<4294967296:=adu _ (by decide);have hUlt:R*4294967296+A%4294967296<V*4294967296:=by have:=adl 4294967296 hRV;rw[aeP]at this;omega
  have hnext:dl X j++(dl (A%V) (n+2+1)++List.replicate i 0)=dl X j++(dl (A%V) (n+2)++List.replicate (i+1) 0):=by rw[CC (ae3 (adu A hV0) hVlt) 1,adx,ad0];rfl
  have hdg:X / V / 4294967296 ^ j%4294967296=A / V%4294967296:=by rw[hA,adm,adm,adi V]
  have hql:(List.replicate (j+1) (0:Int)++(dl (X / V) M).drop (j+1)).length=M:=by simp[al]; omega
  have hstep:=Rp (s:=(s:Int)) (j:=j) (b:=b) (ul:=lx+1) (ql:=List.replicate (j+1) (0:Int)++(dl (X / V) M).drop (j+1)) hN hVlt hVge hv1 hv1lo hv1hi hbw hblen (by omega) (by omega) (by omega) (by rw[hwv]; exact hUlt);rw[<- hb,hstep,hwv,n1,n2,hbt,hbd2,hnext,<- hdg,Dw _ _ _ (by omega),<- hA]
 ·simp only[i8];have e0:(M:Int) - 1 - (M:Int) = -1:=by omega
  rw[e0,adf (by omega),adg,adQ,ae_,ae7,adS,ad4,aeO];obtain⟨L,hL⟩:∃ L,L=dl X 0++(dl (X%V) (n+2)++List.replicate M 0):=⟨_,rfl⟩
  have hRlt:X%V<4294967296 ^ (n+2):=ae3 (adu _ hV0) hVlt;have hLt:L.take (n+2)=dl (X%V) (n+2):=by rw[hL,show dl X 0=[] from rfl,ad4,aeh (by rw[al]; omega),adC (by rw[al]; omega)]
  have hLw:InW L:=by
   rw[hL];intro z hz;rcases List.mem_append.1 hz with h | h
   ·cases h
   ·rcases List.mem_append.1 h with h | h
    ·exact iN _ _ z h
    ·have:=(List.mem_replicate.1 h).2; subst this; omega
  have hLlen:n+2<=L.length:=by rw[hL]; simp[al]
  have en:Int.toNat ((n+2:Nat):Int) - 0=n+2:=by omega
  rw[<- hL,kD _ (by rw[al]; omega) (by rw[al]; omega),en,aa (ade (by omega)),HW L (n+2) hLlen (by omega) (by omega)];have hcl:=jt L (n+2);rw[Bi L hLw (bM L (n+2)) s (by omega) g1 (by omega) (by omega),qA,hLt,pb,adp hRlt,al,xD hQlt];have hQlen:=cz _ _ hQlt;rw[aa (ade (by omega)),aeO,nP _ hQlen,Mo,hX,hV,afT _ _ hs0,afU,aeZ _ hs0]
theorem rT {N:Nat} (hN:1180591620717411303424<=N) {x y:Nat} (hy:0<y) (hxl:(ai x).length<=1099511627000) (hyl:(ai y).length<=1099511627000) (k:Kz0) :
  oe N (ai x) (ai y) k=k (ai (x / y)) (ai (x%y)):=by
 by_cases hxy:y<=x
 ·by_cases h2:2<=(ai y).length
  ·exact yp hN hxy h2 hxl k
  ·have hylt:=iB y;have hl1:(ai y).length=1:=by rw[ce (by omega)]at h2 ⊢; simp at h2 ⊢; exact h2
   rw[hl1,age]at hylt;have hd:=rI (by omega:y ≠ 0) hylt;have hc:decide (dC x y<0)=false:=by unfold dC; rw[if_neg (by omega)]; split <;> rfl
   (unfold oe; rw[ac]; unfold B2)
   rw[jz x y ⟨by omega,by omega⟩ ⟨by omega,by omega⟩,hc,adg,hd];show cond (((1:Nat):Int)==1) _ _=_;rw[show(((1:Nat):Int)==1)=true from rfl,adh,aa (af (by omega) (by simp))];show no N (ai x) (y:Int) _=_;have hm:x%y<4294967296:=ae3 (adu _ hy) hylt;have hw:InW [((x%y:Nat):Int)]:=by intro z hz;simp only[aeF,aff,or_false]at hz;subst hz; omega
   have hv:aB [((x%y:Nat):Int)]=x%y:=by simp only[aB]; omega
   have hct:=dr (N:=N) [((x%y:Nat):Int)] hw (by simp; omega) (by simp) (λz=>k (ai (x / y)) z);rw[hv]at hct;rw[E_ hy hylt ⟨by omega,by omega⟩];exact hct
 ·have hc:decide (dC x y<0)=true:=by unfold dC; rw[if_pos (by omega)]; rfl
  (unfold oe; rw[ac]; unfold B2)
  rw[jz x y ⟨by omega,by omega⟩ ⟨by omega,by omega⟩,hc,adh,ad4,aa (ade (by omega)),adK (by omega),adp (by omega),aT]
theorem C6 {N V f:Nat} (hf:f<4294967296000) (hN:20<N) (hs:fi N (ai V)) (hf2:f<4294967296\/True) (hlt:V / 2 ^ f<18446744073709551616) (hr:∀ kk,zF N (ai V) (f:Int) kk=kk (ai (V / 2 ^ f))) (k:Kz2):po N (ai V) (f:Int) k=k ((V / 2 ^ f:Nat):Int):=by
 (unfold po; rw[ac]; unfold sR)
 have wf:IntKind.wrap .u64 (f:Int)=(f:Int):=by rw[am]; omega
 rw[wf,hr];obtain⟨Y,hY⟩:∃ Y,Y=V / 2 ^ f:=⟨_,rfl⟩
 rw[<- hY]at hlt ⊢;have hl2:(ai Y).length<=2:=cz 2 Y (by
  have:(4294967296:Nat) ^ 2=18446744073709551616:=by decide
  omega)
 have hYl:=iB Y;obtain⟨L,hL⟩:∃ L,(ai Y).length=L:=⟨_,rfl⟩
 rw[hL]at hl2 hYl ⊢;rw[aa adb];refine aC (λi=>(((Y / 4294967296 ^ (L - i):Nat):Int),(L:Int) - 1 - (i:Int))) L ?_ (by omega) (λi hi K=>?_) (λK=>?_)
 ·rw[afk,adK hYl]; simp
 ·obtain⟨m,hm⟩:∃ m,L - i=m+1:=⟨L - i - 1,by omega⟩
  have hm2:L - (i+1)=m:=by omega
  have ei:(L:Int) - 1 - (i:Int)=(m:Int):=by omega
  have ei2:(L:Int) - 1 - ((i+1:Nat):Int)=(m:Int) - 1:=by omega
  rw[hm,hm2,ei,ei2];have hp:Y / 4294967296 ^ (m+1)=Y / 4294967296 ^ m / 4294967296:=by rw[adr,adm]
  have hle:=aeS Y (4294967296 ^ m);simp only[kX,adk];rw[ade (by omega:(m:Int)>=0),adh,hL,aa adc,aa adb,l_,hp];generalize Y / 4294967296 ^ m=Z at *;rw[MZ (by omega) (by omega)];congr 2;omega
 ·simp only[kX];have e0:(L:Int) - 1 - (L:Int) = -1:=by omega
  rw[e0,adf (by omega),adg,adQ,ae_,ae7]
def sgn (neg:Bool) (n:Nat):Int:=cond neg (-(n:Int)) (n:Int)
theorem cE (n:Nat):sgn true n = -(n:Int):=rfl
theorem cZ (n:Nat):sgn false n=(n:Int):=rfl
def zN (x0 y0 a b c d:Nat) (odd:Bool):Prop:=
 ∃ p q,x0=d*p+b*q/\y0=c*p+a*q/\(cond odd (b*c=a*d+1) (a*d=b*c+1))/\(cond odd (d<=q/\q+a+c<=p) (c<=q/\q+b+d<=p))/\1<=b/\1<=c/\1<=d/\a<=1073741824/\b<=1073741824/\c<=1073741824/\d<=1073741824
theorem DX {N:Nat} {x0 y0:Nat} (hx0:x0<4611686018427387904) (hy0:y0<4611686018427387904) :
  ∀ q p a b c d odd M,q<M->x0=d*p+b*q->y0=c*p+a*q->(cond odd (b*c=a*d+1) (a*d=b*c+1)) ->
   a<=1073741824->b<=1073741824->c<=1073741824->d<=1073741824->1<=d->p<=x0 ->
   ((odd=false/\a=1/\b=0/\c=0/\d=1/\q<=p)\/(1<=b/\1<=c/\(cond odd (d<=q/\q+a+c<p) (c<=q/\q+b+d<p)))) ->
   ∃ a' b' c' d':Nat,∃ odd',(b'=0/\odd'=false\/zN x0 y0 a' b' c' d' odd') /\ ∀ e0,ak M (oj N e0) (sgn odd a,sgn (!odd) b,sgn (!odd) c,sgn odd d,(p:Int),(q:Int))=e0 (sgn odd' a') (sgn (!odd') b') (sgn (!odd') c') (sgn odd' d'):=by
 intro q;induction q using Nat.strongRecOn with
 | ind q ih=>
 intro p a b c d odd M hM h1 h2 hdet ha hb hc hd hd1 hp hor;obtain⟨M,rfl⟩:∃ m,M=m+1:=⟨M - 1,by omega⟩
 have hgood:b=0/\odd=false\/zN x0 y0 a b c d odd:=by
  rcases hor with h | ⟨k1,k2,k3⟩
  ·exact .inl ⟨h.2.2.1,h.1⟩
  ·refine .inr ⟨p,q,h1,h2,hdet,?_,k1,k2,hd1,ha,hb,hc,hd⟩;cases odd
   ·simp only[adg]at k3 ⊢; omega
   ·simp only[adh]at k3 ⊢; omega
 have stop:∀(P:(Int->Int->Int->Int->Bool)->Bool),(∀ e0,P e0=e0 (sgn odd a) (sgn (!odd) b) (sgn (!odd) c) (sgn odd d)) -> ∃ a' b' c' d':Nat,∃ odd',(b'=0/\odd'=false\/zN x0 y0 a' b' c' d' odd') /\ ∀ e0,P e0=e0 (sgn odd' a') (sgn (!odd') b') (sgn (!odd') c') (sgn odd' d'):=
  λP hP=>⟨a,b,c,d,odd,hgood,hP⟩
 have hpq:p*1<=d*p:=by rw[adi d]; exact adn _ hd1
 have hcp:c*p<=y0:=by omega
 have hdp:d*p<=x0:=by omega
 have hql:q<=p:=by
  rcases hor with h | ⟨k1,k2,k3⟩
  ·exact h.2.2.2.2.2
  ·cases odd
   ·simp only[adg]at k3; omega
   ·simp only[adh]at k3; omega
 obtain⟨u1,hu1⟩:∃ u1:Nat,(q:Int)+sgn (!odd) c=(u1:Int):=by
  rcases hor with h | ⟨k1,k2,k3⟩
  ·obtain⟨e1,e2,e3,e4,e5,e6⟩:=h;subst e1 e4; exact⟨q,by simp[sgn]⟩
  ·cases odd
   ·simp only[adg]at k3;exact⟨q - c,by simp only[adW,cE]; omega⟩
   ·exact⟨q+c,by simp only[ad8,cZ]; omega⟩
 obtain⟨u2,hu2⟩:∃ u2:Nat,(q:Int)+sgn odd d=(u2:Int):=by
  rcases hor with h | ⟨k1,k2,k3⟩
  ·obtain⟨e1,e2,e3,e4,e5,e6⟩:=h;subst e1; exact⟨q+d,by simp only[cZ]; omega⟩
  ·cases odd
   ·exact⟨q+d,by simp only[cZ]; omega⟩
   ·simp only[adh]at k3;exact⟨q - d,by simp only[cE]; omega⟩
 obtain⟨t1,ht1⟩:∃ t1:Nat,(p:Int)+sgn odd a=(t1:Int):=by
  rcases hor with h | ⟨k1,k2,k3⟩
  ·obtain⟨e1,e2,e3,e4,e5,e6⟩:=h;subst e1; exact⟨p+a,by simp only[cZ]; omega⟩
  ·cases odd
   ·exact⟨p+a,by simp only[cZ]; omega⟩
   ·simp only[adh]at k3;exact⟨p - a,by simp only[cE]; omega⟩
 obtain⟨t2,ht2⟩:∃ t2:Nat,(p:Int)+sgn (!odd) b=(t2:Int):=by
  rcases hor with h | ⟨k1,k2,k3⟩
  ·obtain⟨e1,e2,e3,e4,e5,e6⟩:=h;subst e1 e3; exact⟨p,by simp[sgn]⟩
  ·cases odd
   ·simp only[adg]at k3;exact⟨p - b,by simp only[adW,cE]; omega⟩
   ·exact⟨p+b,by simp only[ad8,cZ]; omega⟩
 have t1b:t1<=p+a:=by cases odd <;> simp only[cE,cZ]at ht1 <;> omega
 have t2b:t2<=p+b:=by cases odd <;> simp only[ad8,adW,cE,cZ]at ht2 <;> omega
 have u1b:u1<=q+c:=by cases odd <;> simp only[ad8,adW,cE,cZ]at hu1 <;> omega
 have u2b:u2<=q+d:=by cases odd <;> simp only[cE,cZ]at hu2 <;> omega
 by_cases c1:u1=0
 ·refine stop _ λe0=>?_
  show oj N e0 _ (ak M _)=_;simp only[oj,hu1];have:(((u1:Nat):Int) != 0)=false:=by simp; omega
  rw[aa adb,this,show(false==true)=false from rfl,adg]
 have n1:(((u1:Nat):Int) != 0)=true:=by simp; omega
 have m1:(!decide ((u1:Int)=0))=true:=by simp; omega
 by_cases c2:u2=0
 ·refine stop _ λe0=>?_
  show oj N e0 _ (ak M _)=_;simp only[oj,hu1,hu2];have:(((u2:Nat):Int) != 0)=false:=by simp; omega
  rw[aa adb,n1,show(true==true)=true from rfl,adh,aa adb,this,adg]
 have n2:(((u2:Nat):Int) != 0)=true:=by simp; omega
 have m2:(!decide ((u2:Int)=0))=true:=by simp; omega
 obtain⟨k1,hk1⟩:∃ k1,k1=t1 / u1:=⟨_,rfl⟩
 obtain⟨k2,hk2⟩:∃ k2,k2=t2 / u2:=⟨_,rfl⟩
 have k1b:k1<=t1:=by rw[hk1]; exact aeS _ _
 have k2b:k2<=t2:=by rw[hk2]; exact aeS _ _
 have d1:Int.tdiv (t1:Int) (u1:Int)=(k1:Int):=by rw[hk1]; rfl
 have d2:Int.tdiv (t2:Int) (u2:Int)=(k2:Int):=by rw[hk2]; rfl
 by_cases c3:k1=k2
 ·obtain⟨n,hn⟩:∃ n,n=k1:=⟨_,rfl⟩
  have hn2:n=k2:=by omega
  obtain⟨r1,hr1⟩:∃ r1,r1=t1%u1:=⟨_,rfl⟩
  obtain⟨r2,hr2⟩:∃ r2,r2=t2%u2:=⟨_,rfl⟩
  have E1:t1=n*u1+r1:=by rw[hn,hk1,hr1]; exact(aec t1 u1).symm
  have E2:t2=n*u2+r2:=by rw[hn2,hk2,hr2]; exact(aec t2 u2).symm
  have hr1l:r1<u1:=by rw[hr1]; exact adu _ (by omega)
  have hr2l:r2<u2:=by rw[hr2]; exact adu _ (by omega)
  have bnc:n*c<=4611686018427387904+1152921504606846976:=by
   have s1:n*c<=(p+a)*c:=adl _ (by omega);have s2:(p+a)*c=c*p+a*c:=by rw[adI,adi p]
   have s3:a*c<=1073741824*1073741824:=ad7 ha hc;omega
  have bnd:n*d<=4611686018427387904+1152921504606846976:=by
   have s1:n*d<=(p+b)*d:=adl _ (by omega);have s2:(p+b)*d=d*p+b*d:=by rw[adI,adi p]
   have s3:b*d<=1073741824*1073741824:=ad7 hb hd;omega
  have icn:(n:Int)*sgn (!odd) c=sgn (!odd) (n*c):=by cases odd <;> simp only[ad8,adW,cE,cZ,adB,aga]
  have idn:(n:Int)*sgn odd d=sgn odd (n*d):=by cases odd <;> simp only[cE,cZ,adB,aga]
  have e2:sgn odd a - sgn (!odd) (n*c)=sgn odd (a+n*c):=by cases odd <;> simp only[ad8,adW,cE,cZ] <;> omega
  have f2:sgn (!odd) b - sgn odd (n*d)=sgn (!odd) (b+n*d):=by cases odd <;> simp only[ad8,adW,cE,cZ] <;> omega
  have hnq:n*q<=p/\(cond odd (p - n*q+b+n*d=r2/\p - n*q=r1+a+n*c) (p - n*q+a+n*c=r1/\p - n*q=r2+b+n*d)):=by
   cases odd with
   | false=>
    simp only[adW,cE,cZ]at hu1 hu2 ht1 ht2;simp only[adg];have w2:u2=q+d:=by omega
    have w3:t2+b=p:=by omega
    have w1:u1+c=q:=by omega
    have w4:t1=p+a:=by omega
    have z1:n*u2=n*q+n*d:=by rw[w2,adw]
    have z2:n*q=n*u1+n*c:=by rw[<- w1,adw]
    omega
   | true=>
    simp only[ad8,cE,cZ]at hu1 hu2 ht1 ht2;simp only[adh];have w2:u2+d=q:=by omega
    have w3:t2=p+b:=by omega
    have w1:u1=q+c:=by omega
    have w4:t1+a=p:=by omega
    have z1:n*q=n*u2+n*d:=by rw[<- w2,adw]
    have z2:n*u1=n*q+n*c:=by rw[w1,adw]
    omega
  obtain⟨hnq,hnext⟩:=hnq;have inq:(n:Int)*(q:Int)=((n*q:Nat):Int):=(adB _ _).symm;have ipq:(p:Int) - ((n*q:Nat):Int)=((p - n*q:Nat):Int):=by omega
  have fbd1 : -9223372036854775808<=sgn (!odd) (n*c)/\sgn (!odd) (n*c)<=9223372036854775807:=by cases odd <;> simp only[ad8,adW,cE,cZ] <;> omega
  have fbd2 : -9223372036854775808<=sgn odd (a+n*c)/\sgn odd (a+n*c)<=9223372036854775807:=by cases odd <;> simp only[cE,cZ] <;> omega
  have fbd3 : -9223372036854775808<=sgn odd (n*d)/\sgn odd (n*d)<=9223372036854775807:=by cases odd <;> simp only[cE,cZ] <;> omega
  have fbd4 : -9223372036854775808<=sgn (!odd) (b+n*d)/\sgn (!odd) (b+n*d)<=9223372036854775807:=by cases odd <;> simp only[ad8,adW,cE,cZ] <;> omega
  have ne3:(((k1:Nat):Int) != ((k2:Nat):Int))=false:=by simp[c3]
  have body:∀ e0,ak (M+1) (oj N e0) (sgn odd a,sgn (!odd) b,sgn (!odd) c,sgn odd d,(p:Int),(q:Int)) =
    cond ((decide (sgn odd (a+n*c)>1073741824))==false) (cond ((decide (sgn odd (a+n*c)<(-1073741824)))==false) (cond ((decide (sgn (!odd) (b+n*d)>1073741824))==false) (cond (decide (sgn (!odd) (b+n*d)<(-1073741824))) (e0 (sgn odd a) (sgn (!odd) b) (sgn (!odd) c) (sgn odd d)) (ak M (oj N e0) (sgn (!odd) c,sgn odd d,sgn odd (a+n*c),sgn (!odd) (b+n*d),(q:Int),((p - n*q:Nat):Int)))) (e0 (sgn odd a) (sgn (!odd) b) (sgn (!odd) c) (sgn odd d))) (e0 (sgn odd a) (sgn (!odd) b) (sgn (!odd) c) (sgn odd d))) (e0 (sgn odd a) (sgn (!odd) b) (sgn (!odd) c) (sgn odd d)):=by
   intro e0;show oj N e0 _ (ak M _)=_;simp only[oj,hu1,hu2,ht1,ht2,d1,d2,ne3,adg];rw[<- hn];simp only[icn,idn,e2,f2,inq,ipq];rw[aa adb,n1,show(true==true)=true from rfl,adh,aa adb,n2,adh,aa adb,aa adb,aa m1,aa adb,aa adb,aa adb,aa m2,aa adb,aa (ab fbd1.1 fbd1.2),aa (ab fbd2.1 fbd2.2),aa (ab fbd3.1 fbd3.2),aa (ab fbd4.1 fbd4.2),aa adb,aa adb]
  by_cases c4:a+n*c<=1073741824
  ·by_cases c5:b+n*d<=1073741824
   ·have q1:decide (sgn odd (a+n*c)>1073741824)=false:=adf (by cases odd <;> simp only[cE,cZ] <;> omega);have q2:decide (sgn odd (a+n*c)<(-1073741824))=false:=adf (by cases odd <;> simp only[cE,cZ] <;> omega);have q3:decide (sgn (!odd) (b+n*d)>1073741824)=false:=adf (by cases odd <;> simp only[ad8,adW,cE,cZ] <;> omega);have q4:decide (sgn (!odd) (b+n*d)<(-1073741824))=false:=adf (by cases odd <;> simp only[ad8,adW,cE,cZ] <;> omega);have hn1:1<=n:=by
     rw[hn,hk1];refine afE ?_ (by omega);rcases hor with h | ⟨g1,g2,g3⟩
     ·obtain⟨z1,z2,z3,z4,z5,z6⟩:=h;subst z1 z2 z4;simp only[adW,cE,cZ]at hu1 ht1;omega
     ·cases odd
      ·simp only[adg]at g3;simp only[adW,cE,cZ]at hu1 ht1;omega
      ·simp only[adh]at g3;simp only[ad8,cE,cZ]at hu1 ht1;omega
    have hq0:1<=q\/q=0:=by omega
    have hlt:p - n*q<q:=by
     have s1:1*d<=n*d:=adl _ hn1;have s2:1*c<=n*c:=adl _ hn1;cases odd with
     | false=>
      simp only[adg]at hnext;simp only[adW,cE]at hu1;omega
     | true=>
      simp only[adh]at hnext;simp only[cE]at hu2;omega
    obtain⟨a',b',c',d',odd',g1,g2⟩:=ih (p - n*q) hlt q c d (a+n*c) (b+n*d) (!odd) M (by omega)
     (by
      have s1:(b+n*d)*q=b*q+d*(n*q):=by grind
      have s2:d*(p - n*q)+d*(n*q)=d*p:=by rw[<- adw]; congr 1; omega
      omega)
     (by
      have s1:(a+n*c)*q=a*q+c*(n*q):=by grind
      have s2:c*(p - n*q)+c*(n*q)=c*p:=by rw[<- adw]; congr 1; omega
      omega)
     (by
      have s1:d*(a+n*c)=a*d+n*(c*d):=by grind
      have s2:c*(b+n*d)=b*c+n*(c*d):=by grind
      cases odd with
      | false=>simp only[adW,adh,adg]at hdet ⊢; omega
      | true=>simp only[ad8,adh,adg]at hdet ⊢; omega)
     hc hd c4 c5 (by have s1:1*d<=n*d:=adl _ hn1;omega) (by omega)
     (.inr ⟨hd1,(by
      rcases hor with h | ⟨z1,z2,z3⟩
      ·omega
      ·have s2:1*c<=n*c:=adl _ hn1;omega),by
      cases odd with
      | false=>
       simp only[adg]at hnext;simp only[adW,cE,cZ,adh]at hu1 hu2 ⊢;omega
      | true=>
       simp only[adh]at hnext;simp only[ad8,cE,cZ,adg]at hu1 hu2 ⊢;omega⟩)
    refine⟨a',b',c',d',odd',g1,λe0=>?_⟩;have:=g2 e0;rw[Bool.not_not]at this;rw[body,q1,q2,q3,q4];exact this
   ·refine stop _ λe0=>?_
    rw[body];cases odd with
    | false=>
     have q1:decide (sgn false (a+n*c)>1073741824)=false:=adf (by simp only[cZ]; omega);have q2:decide (sgn false (a+n*c)<(-1073741824))=false:=adf (by simp only[cZ]; omega);have q3:decide (sgn (!false) (b+n*d)>1073741824)=false:=adf (by simp only[adW,cE]; omega);have q4:decide (sgn (!false) (b+n*d)<(-1073741824))=true:=ade (by simp only[adW,cE]; omega);rw[q1,q2,q3,q4];rfl
    | true=>
     have q1:decide (sgn true (a+n*c)>1073741824)=false:=adf (by simp only[cE]; omega);have q2:decide (sgn true (a+n*c)<(-1073741824))=false:=adf (by simp only[cE]; omega);have q3:decide (sgn (!true) (b+n*d)>1073741824)=true:=ade (by simp only[ad8,cZ]; omega);rw[q1,q2,q3];rfl
  ·refine stop _ λe0=>?_
   rw[body];cases odd with
   | false=>
    have q1:decide (sgn false (a+n*c)>1073741824)=true:=ade (by simp only[cZ]; omega);rw[q1];rfl
   | true=>
    have q1:decide (sgn true (a+n*c)>1073741824)=false:=adf (by simp only[cE]; omega);have q2:decide (sgn true (a+n*c)<(-1073741824))=true:=ade (by simp only[cE]; omega);rw[q1,q2];rfl
 ·refine stop _ λe0=>?_
  show oj N e0 _ (ak M _)=_;simp only[oj,hu1,hu2,ht1,ht2,d1,d2];have:(((k1:Nat):Int) != ((k2:Nat):Int))=true:=by simp; omega
  rw[aa adb,n1,show(true==true)=true from rfl,adh,aa adb,n2,adh,aa adb,aa adb,aa m1,aa adb,aa adb,aa adb,aa m2,aa adb,this,adh]
theorem Fb {N:Nat} (hN:1180591620717411303424<=N) {x0 y0:Nat} (hx0:x0<4611686018427387904) (hyx:y0<=x0):∃ a b c d:Nat,∃ odd,(b=0/\odd=false\/zN x0 y0 a b c d odd) /\ ∀ k,q9 N (x0:Int) (y0:Int) k=k (sgn odd a) (sgn (!odd) b) (sgn (!odd) c) (sgn odd d):=by
 obtain⟨a,b,c,d,odd,h1,h2⟩:=DX (N:=N) (x0:=x0) (y0:=y0) hx0 (by omega) y0 x0 1 0 0 1 false N (by omega) (by omega) (by omega) rfl (by omega) (by omega) (by omega) (by omega) (by omega) (by omega) (.inl ⟨rfl,rfl,rfl,rfl,rfl,hyx⟩);refine⟨a,b,c,d,odd,h1,λk=>?_⟩
 (unfold q9; rw[ac]; unfold qe)
 rw[aa adb,aa adb];exact h2 _
theorem MB {a b c d X Y:Nat} (hdet:b*c=a*d+1) (g1:a*X<=b*Y) (g2:d*Y<=c*X):X=d*(b*Y - a*X)+b*(c*X - d*Y)/\Y=c*(b*Y - a*X)+a*(c*X - d*Y):=by
 obtain⟨U,hU⟩:=aeX g1;obtain⟨V,hV⟩:=aeX g2;rw[<- hU,<- hV,adU,adU];constructor
 ·have t1:d*(b*Y)=d*(a*X)+d*U:=by rw[<- hU,adw]
  have t2:b*(c*X)=b*(d*Y)+b*V:=by rw[<- hV,adw]
  have t3:b*(c*X)=(a*d+1)*X:=by rw[<- hdet,adq]
  have t4:(a*d+1)*X=d*(a*X)+X:=by grind
  have t5:d*(b*Y)=b*(d*Y):=by grind
  omega
 ·have t1:c*(b*Y)=c*(a*X)+c*U:=by rw[<- hU,adw]
  have t2:a*(c*X)=a*(d*Y)+a*V:=by rw[<- hV,adw]
  have t3:c*(b*Y)=(a*d+1)*Y:=by rw[<- hdet]; grind
  have t4:(a*d+1)*Y=a*(d*Y)+Y:=by grind
  have t5:c*(a*X)=a*(c*X):=by grind
  omega
theorem Eg {x0 y0 a b c d F rx ry X Y:Nat} (h:zN x0 y0 a b c d true) (hrx:rx<F) (hry:ry<F) (hX:X=x0*F+rx) (hY:Y=y0*F+ry) :
  a*X<=b*Y/\d*Y<=c*X/\c*X - d*Y<=b*Y - a*X/\X=d*(b*Y - a*X)+b*(c*X - d*Y)/\Y=c*(b*Y - a*X)+a*(c*X - d*Y):=by
 obtain⟨p,q,h1,h2,hdet,hin,hb1,hc1,hd1,hal,hbl,hcl,hdl⟩:=h;simp only[adh]at hdet hin;obtain⟨hdq,hpq⟩:=hin;have e1:b*Y+a*rx=a*X+(p*F+b*ry):=by
  subst h1 h2 hX hY;have:b*(c*p*F)=(a*d+1)*(p*F):=by rw[<- hdet]; grind
  grind
 have e2:c*X+d*ry=d*Y+(q*F+c*rx):=by
  subst h1 h2 hX hY;have:b*c*(q*F)=(a*d+1)*(q*F):=by rw[<- hdet]
  grind
 have m1:a*rx<=a*F:=adn _ (by omega);have m3:d*ry<=d*F:=adn _ (by omega);have m4:d*F<=q*F:=adl _ hdq;have m5:(q+a+c)*F<=p*F:=adl _ hpq;rw[adI,adI]at m5;have m6:c*rx<=c*F:=adn _ (by omega);have g1:a*X<=b*Y:=by omega
 have g2:d*Y<=c*X:=by omega
 obtain⟨i1,i2⟩:=MB hdet g1 g2;exact⟨g1,g2,by omega,i1,i2⟩
theorem B9 {x0 y0 a b c d F rx ry X Y:Nat} (h:zN x0 y0 a b c d false) (hrx:rx<F) (hry:ry<F) (hX:X=x0*F+rx) (hY:Y=y0*F+ry) :
  b*Y<=a*X/\c*X<=d*Y/\d*Y - c*X<=a*X - b*Y/\X=d*(a*X - b*Y)+b*(d*Y - c*X)/\Y=c*(a*X - b*Y)+a*(d*Y - c*X):=by
 obtain⟨p,q,h1,h2,hdet,hin,hb1,hc1,hd1,hal,hbl,hcl,hdl⟩:=h;simp only[adg]at hdet hin;obtain⟨hdq,hpq⟩:=hin;have e1:a*X+b*ry=b*Y+(p*F+a*rx):=by
  subst h1 h2 hX hY;have:a*d*(p*F)=(b*c+1)*(p*F):=by rw[<- hdet]
  grind
 have e2:d*Y+c*rx=c*X+(q*F+d*ry):=by
  subst h1 h2 hX hY;have:a*d*(q*F)=(b*c+1)*(q*F):=by rw[<- hdet]
  grind
 have m1:b*ry<=b*F:=adn _ (by omega);have m3:c*rx<=c*F:=adn _ (by omega);have m4:c*F<=q*F:=adl _ hdq;have m5:(q+b+d)*F<=p*F:=adl _ hpq;rw[adI,adI]at m5;have m6:d*ry<=d*F:=adn _ (by omega);have g1:b*Y<=a*X:=by omega
 have g2:c*X<=d*Y:=by omega
 refine⟨g1,g2,by omega,?_,?_⟩
 ·obtain⟨U,hU⟩:=aeX g1;obtain⟨V,hV⟩:=aeX g2;rw[<- hU,<- hV,adU,adU];have t1:d*(a*X)=d*(b*Y)+d*U:=by rw[<- hU,adw]
  have t2:b*(d*Y)=b*(c*X)+b*V:=by rw[<- hV,adw]
  have t3:d*(a*X)=(b*c+1)*X:=by rw[<- hdet]; grind
  have t4:(b*c+1)*X=b*(c*X)+X:=by grind
  have t5:d*(b*Y)=b*(d*Y):=by grind
  omega
 ·obtain⟨U,hU⟩:=aeX g1;obtain⟨V,hV⟩:=aeX g2;rw[<- hU,<- hV,adU,adU];have t1:c*(a*X)=c*(b*Y)+c*U:=by rw[<- hU,adw]
  have t2:a*(d*Y)=a*(c*X)+a*V:=by rw[<- hV,adw]
  have t3:a*(d*Y)=(b*c+1)*Y:=by rw[<- hdet]; grind
  have t4:(b*c+1)*Y=c*(b*Y)+Y:=by grind
  have t5:c*(a*X)=a*(c*X):=by grind
  omega
theorem yv {N X Y u v:Nat} (hN:1180591620717411303424<=N) (sX:(ai X).length<=1099511627000) (sY:(ai Y).length<=1099511627000) (hu:u<=1073741824) (hv:v<=1073741824) (hle:v*Y<=u*X) (k:Kz6) :
  GW N (ai X) (u:Int) (ai Y) (v:Int) k=k (ai (u*X - v*Y)):=by
 (unfold GW; rw[ac]; unfold JD)
 have lu:=cz 1 u (by rw[age]; omega);have lv:=cz 1 v (by rw[age]; omega);have lX:=cz ((ai X).length+1) (X*u) (by rw[adr]; exact aej (iB X) (by omega))
 rw[rX u (by omega) (by omega),vw _ _ (aX _) (aX _) (by omega) (by omega),rX v (by omega) (by omega),vw _ _ (aX _) (aX _) (by omega) (by omega),aH,aH,aH,aH,
  vu _ _ (aX _) (aX _) (by rw[aH,aH,adi X,adi Y]; exact hle) ⟨by omega,by omega⟩,aH,aH,adi X,adi Y]
theorem wo {N X Y u v:Nat} (hN:1180591620717411303424<=N) (sX:(ai X).length<=1099511627000) (sY:(ai Y).length<=1099511627000) (hu:u<=1073741824) (hv:v<=1073741824) (hle:v*Y<=u*X) (k:Kz6) :
  mj N (ai X) (u:Int) (ai Y) (-(v:Int)) k=k (ai (u*X - v*Y)):=by
 (unfold mj; rw[ac]; unfold rA)
 have w1:IntKind.wrap .u64 (u:Int)=(u:Int):=by rw[am]; omega
 have w2:IntKind.wrap .u64 (0 - -(v:Int))=(v:Int):=by rw[am]; omega
 rw[ade (by omega : -(v:Int)<=0),adh,aa adb,w1,w2,yv hN sX sY hu hv hle]
theorem wn {N X Y u v:Nat} (hN:1180591620717411303424<=N) (sX:(ai X).length<=1099511627000) (sY:(ai Y).length<=1099511627000) (hu:u<=1073741824) (hv:v<=1073741824) (hv1:1<=v) (hle:u*X<=v*Y) (k:Kz6) :
  mj N (ai X) (-(u:Int)) (ai Y) (v:Int) k=k (ai (v*Y - u*X)):=by
 (unfold mj; rw[ac]; unfold rA)
 have w1:IntKind.wrap .u64 (v:Int)=(v:Int):=by rw[am]; omega
 have w2:IntKind.wrap .u64 (0 - -(u:Int))=(u:Int):=by rw[am]; omega
 rw[adf (by omega:¬(v:Int)<=0),adg,aa adb,w1,w2,yv hN sY sX hv hu hle]
theorem Cp {N:Nat} (hN:1180591620717411303424<=N) (e0:List Int->Bool):∀(b a M:Nat),b<M->(ai a).length<=1099511627000->(ai b).length<=1099511627000->ak M (vK N e0) (ai a,ai b)=e0 (ai (Nat.gcd a b)):=by
 intro b;induction b using Nat.strongRecOn with
 | ind b ih=>
 intro a M hM ha hb;obtain⟨M,rfl⟩:∃ m,M=m+1:=⟨M - 1,by omega⟩
 show vK N e0 (ai a,ai b) (ak M _)=_;simp only[vK];by_cases h:b=0
 ·subst h;have:(((ai 0).length:Nat):Int)=0:=by rw[aT]; rfl
  rw[this,adf (by omega),adg,afK]
 ·have hp:0<(ai b).length:=by rw[ce h]; simp
  have hm:=adu a (by omega:b>0);have hml:=bT (Nat.le_of_lt hm);rw[ade (by omega),adh,rT hN (by omega) ha hb,ih (a%b) hm b M (by omega) hb (by omega),aev b,<- agf,aev]
theorem oV {N V f:Nat} (hf:f<140737488355328) (hs:(ai V).length+3<N/\(ai V).length<=1099511627000) (k:Kz6):zF N (ai V) (f:Int) k=k (ai (V / 2 ^ f)):=by
 have hm:=aX V;have hmv:=aH V
 (unfold zF; rw[ac]; unfold Pc)
 obtain⟨hN1,hN2⟩:=hs;have ew:IntKind.wrap .u64 (Int.tdiv (f:Int) 32)=((f / 32:Nat):Int):=by rw[am,aei (by omega)]; omega
 have es:Int.tmod (f:Int) 32=((f%32:Nat):Int):=by rw[ad9 (by omega)]; rfl
 rw[ew,es,aa adb];have hp2:2 ^ f=4294967296 ^ (f / 32)*2 ^ (f%32):=uA f;obtain⟨w,hw⟩:∃ w,w=f / 32:=⟨_,rfl⟩
 obtain⟨s,hsh⟩:∃ s,s=f%32:=⟨_,rfl⟩
 rw[<- hw,<- hsh]at hp2 ⊢;have hs32:s<32:=by omega
 have hs0:0<2 ^ s:=adt s;obtain⟨m,hme⟩:∃ m,m=ai V:=⟨_,rfl⟩
 rw[<- hme]at hm hmv hN1 hN2 ⊢;by_cases h0:m.length<=w
 ·rw[ade (by omega:((w:Nat):Int)>=m.length),adh];have h1:=eK hm;rw[hmv]at h1;have h2:4294967296 ^ m.length<=4294967296 ^ w:=adv (by decide) h0;have h3:V / 2 ^ f=0:=by rw[hp2];refine adK ?_;have:4294967296 ^ w*1<=4294967296 ^ w*2 ^ s:=adn _ hs0;omega
  rw[h3,aT]
 ·rw[adf (by omega:¬((w:Nat):Int)>=m.length),adg];obtain⟨Z,hZ⟩:∃ Z,Z=V / 2 ^ f:=⟨_,rfl⟩
  have elen:Int.toNat ((m.length:Int) - ((w:Nat):Int))=m.length - w:=by omega
  rw[elen,aa adb,aa (bY (by omega) (by omega) (by omega) (by omega)),<- hZ];obtain⟨L,hL⟩:∃ L,L=m.length - w:=⟨_,rfl⟩
  rw[<- hL];refine aC (λi=>((i:Int),dl Z i++List.replicate (L - i) 0)) L (by simp[dl]) (by omega) (λi hi K=>?_) (λK=>?_)
  ·have hx:=hm.at (i:=w+i);have hy:=hm.at (i:=w+i+1);have hset:=xK Z i L (by omega);have hl:(dl Z i++List.replicate (L - i) 0).length=L:=by simp[al]; omega
   have ei:Int.toNat ((w:Int)+(i:Int))=w+i:=by omega
   have ei1:Int.toNat ((w:Int)+(i:Int)+1)=w+i+1:=by omega
   have emin:min s 64=s:=by omega
   obtain⟨R,hR⟩:=zX hm (w+i);rw[hmv]at hR;have hdig:Z / 4294967296 ^ i%4294967296=((m.getD (w+i) 0).toNat+4294967296*(m.getD (w+i+1) 0).toNat) / 2 ^ s%4294967296:=by
    rw[hZ,hp2,adm];have e1:4294967296 ^ w*2 ^ s*4294967296 ^ i=4294967296 ^ (w+i)*2 ^ s:=by rw[ady,adq,adi (2 ^ s),<- adq]
    rw[e1,<- adm,hR];have e2:4294967296*4294967296*R=2 ^ s*(4294967296*(2 ^ (32 - s)*R)):=by
     have hs1:2 ^ s*2 ^ (32 - s)=4294967296:=by rw[<- ady,show s+(32 - s)=32 by omega]
     rw[adG (2 ^ s),<- adq (2 ^ s),hs1,adq]
    rw[e2,aeb _ _ hs0,aew]
   have hfin:∀ z:Int,z=(((m.getD (w+i) 0).toNat+4294967296*(m.getD (w+i+1) 0).toNat:Nat):Int)->IntKind.wrap .u32 (Int.fdiv z (2 ^ s))=((Z / 4294967296 ^ i%4294967296:Nat):Int):=by
    intro z hz;have e:(2:Int) ^ s=((2 ^ s:Nat):Int):=by simp
    rw[hdig,hz,e,aeK _ (by omega),dk];rfl
   simp only[kb,adk,ei,ei1,emin,hl];rw[ade (by omega:(i:Int)<L),adh,aa adb,aa adc,aa adb,aa adb];by_cases hlast:w+i+1<m.length
   ·rw[ade (by omega:(w:Int)+(i:Int)+1<m.length),adh,aa adb,aa adb,aa adc,aa (ade (by omega)),aa adc,aa (ade (by omega)),aa adb];have e1:IntKind.wrap .u64 (m.getD (w+i) 0)=(((m.getD (w+i) 0).toNat:Nat):Int):=by rw[am]; omega
    have e2:IntKind.wrap .u64 (IntKind.wrap .u64 (m.getD (w+i+1) 0)*2 ^ 32)=((2 ^ 32*(m.getD (w+i+1) 0).toNat:Nat):Int):=by
     have:(2:Int) ^ 32=4294967296:=by decide
     have:(2:Nat) ^ 32=4294967296:=by decide
     rw[am,am]; omega
    have p32:(2:Nat) ^ 32=4294967296:=by decide
    rw[e1,e2,cu _ _ 32 (by omega) (by omega),hfin _ (by omega),hset,jS]
   ·rw[adf (by omega:¬(w:Int)+(i:Int)+1<m.length),adg,aa (ade (by omega)),aa adc,aa (ade (by omega)),aa adb];have hz:m.getD (w+i+1) 0=0:=dY (by omega);have e1:IntKind.wrap .u64 (m.getD (w+i) 0)=(((m.getD (w+i) 0).toNat:Nat):Int):=by rw[am]; omega
    rw[e1,hfin _ (by rw[hz]; simp),hset,jS]
  ·simp only[kb];have hl:(dl Z L++List.replicate (L - L) 0).length=L:=by simp[al]
   rw[adf (by omega:¬((L:Nat):Int)<(((dl Z L++List.replicate (L - L) (0:Int)).length:Nat):Int)),adg,adQ,adS,adN];have hVl:Z<4294967296 ^ L:=by have h1:=eK hm;rw[hmv]at h1;rw[hZ,ado (adt f),hp2,<- adq,<- ady,show L+w=m.length by omega];have:4294967296 ^ m.length*1<=4294967296 ^ m.length*2 ^ s:=adn _ hs0;omega
   rw[dr _ (iN Z _) (by rw[al]; omega) (by rw[al]; omega),oJ hVl]
theorem v8 {N:Nat} (hN:1180591620717411303424<=N) {u v:List Int} (k:Kz6) :
  ∀ s x y,x+y=s->s<N->y<=x->(ai x).length<=134217728000 ->
   F3 N u v (ai x) (ai y) k=k (ai (Nat.gcd x y)):=by
 intro s x y hs hsN hyx hxl;unfold F3;have main:∀ s x y M,x+y=s->s<M->M<=N->y<=x->(ai x).length<=134217728000 ->
   ak M (yV N (λ(WL:List Int) (UA:List Int)=>(ak N (vK N (λ(Xx:List Int)=>((decide ((List.length ([]++Xx))*4<=140737488355328))&&(k ([]++Xx))))) (WL,UA)))) (ai x,ai y)=k (ai (Nat.gcd x y)):=by
  intro s;induction s using Nat.strongRecOn with
  | ind s ih=>
  intro x y M hs hsM hMN hyx hxl;obtain⟨M,rfl⟩:∃ m,M=m+1:=⟨M - 1,by omega⟩
  have hyl:=bT hyx;show yV N _ (ai x,ai y) (ak M _)=_;simp only[yV];by_cases h2:3<=(ai y).length
  ·have hyge:18446744073709551616<=y:=by
    rcases aef y 18446744073709551616 with h | h
    ·have:=cz 2 y (by
      have:(4294967296:Nat) ^ 2=18446744073709551616:=by decide
      omega)
     omega
    ·exact h
   have hblx:64<bl x:=by
    rcases aef 64 (bl x)with h | h
    ·exact h
    ·have h1:=vX x;have h3:2 ^ bl x<=2 ^ 64:=adv (by decide) h;rw[mH]at h3;omega
   have hblu:bl x<=32*(ai x).length:=by refine ub ?_;rw[af_,BA]; exact iB x
   obtain⟨f,hf⟩:∃ f,bl x=f+62:=⟨bl x - 62,by omega⟩
   have ef:(bl x:Int) - 62=(f:Int):=by omega
   have hF0:0<2 ^ f:=adt f;have p62:(2:Nat) ^ 62=4611686018427387904:=by decide
   have hx0l:x / 2 ^ f<4611686018427387904:=by rw[ado hF0,<- p62,<- ady,ae9,<- hf]; exact vX x
   have hy0l:y / 2 ^ f<=x / 2 ^ f:=afw hyx;rw[ade (by omega),adh,yf false x ⟨by omega,by omega⟩,ef,aa adb,
    C6 (by omega) (by omega) ⟨by omega,by omega⟩ (.inr trivial) (by omega) (λkk=>oV (by omega) ⟨by omega,by omega⟩ kk),
    C6 (by omega) (by omega) ⟨by omega,by omega⟩ (.inr trivial) (by omega) (λkk=>oV (by omega) ⟨by omega,by omega⟩ kk)]
   obtain⟨a,b,c,d,odd,g1,g2⟩:=Fb hN hx0l hy0l;rw[g2];rcases g1 with⟨hb0,ho⟩ | hgood
   ·subst hb0 ho;have e0:(sgn (!false) 0==0)=true:=rfl;have hm:=adu x (by omega:y>0);rw[e0,adh,rT hN (by omega) (by omega) (by omega),ih (y+x%y) (by omega) y (x%y) M rfl (by omega) (by omega) (by omega) (by omega),aev y,<- agf,aev]
   ·obtain⟨p,q,z1,z2,z3,z4,hb1,hc1,hd1,hal,hbl,hcl,hdl⟩:=id hgood;have fin:∀ U V:Nat,x=d*U+b*V->y=c*U+a*V->V<=U->U+V<x+y/\U<=x:=by
     intro U V hx hy hvu;have k1:1*U<=d*U:=adl _ hd1;have k2:1*V<=b*V:=adl _ hb1;have k3:1*U<=c*U:=adl _ hc1;have hU0:0<U:=by
      rcases aez U with hu | hu
      ·exfalso;have hv:V=0:=by omega
       rw[hu,hv,aeC,aeC]at hy;omega
      ·exact hu
     exact⟨by omega,by omega⟩
    cases odd with
    | true=>
     obtain⟨f1,f2,f3,f4,f5⟩:=Eg hgood (adu x hF0) (adu y hF0) (aec x (2 ^ f)).symm (aec y (2 ^ f)).symm;obtain⟨w1,w2⟩:=fin _ _ f4 f5 f3;have hgc:=ui f4 f5 (afG (adD (aeq _ _) _) (adD (ad6 _ _) _)) (afG (adD (ad6 _ _) _) (adD (aeq _ _) _));have hUl:=bT w2;have e0:(sgn (!true) b==0)=false:=by simp only[ad8,cZ]; simp; omega
     have s1:sgn true a = -(a:Int):=rfl;have s2:sgn (!true) b=(b:Int):=rfl;have s3:sgn (!true) c=(c:Int):=rfl;have s4:sgn true d = -(d:Int):=rfl;rw[e0,adg,s1,s2,s3,s4,wn hN (by omega) (by omega) hal hbl hb1 f1,wo hN (by omega) (by omega) hcl hdl f2,ih _ (by omega) _ _ M rfl (by omega) (by omega) f3 (by omega),hgc]
    | false=>
     obtain⟨f1,f2,f3,f4,f5⟩:=B9 hgood (adu x hF0) (adu y hF0) (aec x (2 ^ f)).symm (aec y (2 ^ f)).symm;obtain⟨w1,w2⟩:=fin _ _ f4 f5 f3;have hgc:=ui f4 f5 (afG (adD (ad6 _ _) _) (adD (aeq _ _) _)) (afG (adD (aeq _ _) _) (adD (ad6 _ _) _));have hUl:=bT w2;have e0:(sgn (!false) b==0)=false:=by simp only[adW,cE]; simp; omega
     have s1:sgn false a=(a:Int):=rfl;have s2:sgn (!false) b = -(b:Int):=rfl;have s3:sgn (!false) c = -(c:Int):=rfl;have s4:sgn false d=(d:Int):=rfl;rw[e0,adg,s1,s2,s3,s4,wo hN (by omega) (by omega) hal hbl f1,wn hN (by omega) (by omega) hcl hdl hd1 f2,ih _ (by omega) _ _ M rfl (by omega) (by omega) f3 (by omega),hgc]
  ·rw[adf (by omega),adg,Cp hN _ y x N (by omega) (by omega) (by omega),ad4];have hgl:(ai (Nat.gcd x y)).length<=134217728000:=by
    by_cases h0:x=0
    ·have hy0:y=0:=by omega
     rw[h0,hy0,afK,aT]; simp
    ·have:=bT (Nat.gcd_le_left y (afL h0));omega
   rw[aa (ade (by omega))]
 exact main s x y N hs hsN (ads _) hyx hxl
theorem EX {N:Nat} (hN:1180591620717411303424<=N) {x y:Nat} (hf:x+y<N) (hxl:(ai x).length<=134217728000) (hyl:(ai y).length<=134217728000) (k:Kz6):DG N (ai x) (ai y) k=k (ai (Nat.gcd x y)):=by
 (unfold DG; rw[ac]; unfold Jy)
 rw[jz x y ⟨by omega,by omega⟩ ⟨by omega,by omega⟩];by_cases h:x<y
 ·have hc:decide (dC x y<0)=true:=by unfold dC; rw[if_pos h]; rfl
  rw[hc,adh,v8 hN _ (y+x) y x rfl (by omega) (by omega) hyl,aev]
 ·have hc:decide (dC x y<0)=false:=by unfold dC; rw[if_neg h]; split <;> rfl
  rw[hc,adg,v8 hN _ (x+y) x y rfl hf (by omega) hxl]
theorem wS {a b:Nat} (ha:a<4294967296) (hb:b<4294967296):az .and .u32 (a:Int) (b:Int)=((a &&& b:Nat):Int):=by
 unfold az pF;simp only[ad3];have h32:(2:Nat) ^ 32=4294967296:=by decide
 have e:((BitVec.ofInt (IntKind.bits .u32) (a:Int)) &&& (BitVec.ofInt (IntKind.bits .u32) (b:Int))).toNat=a &&& b:=by show((BitVec.ofInt 32 (a:Int)) &&& (BitVec.ofInt 32 (b:Int))).toNat=_;rw[afW,aem,aem,aeu,aeu,adp (by omega),adp (by omega)]
 have hl:a &&& b<4294967296:=aeR Nat.and_le_left ha;rw[e,D9 _ hl]
theorem Hl {t c:Nat} (h:2 ^ t*(2*c+1)<2 ^ 32):(2 ^ t*(2*c+1)) &&& (2 ^ 32 - 2 ^ t*(2*c+1))=2 ^ t:=by
 have ht0:0<2 ^ t:=adt t;have ht:t<32:=by
  rcases aef t 32 with h1 | h1
  ·exact h1
  ·have h2:2 ^ 32<=2 ^ t:=adv (by decide) h1;have h3:2 ^ t*1<=2 ^ t*(2*c+1):=adn _ (by omega);omega
 have e1:2 ^ t*(2*c+1)=(2 ^ t*(2*c)+(2 ^ t - 1))+1:=by rw[adw]; omega
 refine afu λj=>?_
 rw[agb];have e2:(2 ^ 32 - 2 ^ t*(2*c+1)).testBit j=(decide (j<32) && !(2 ^ t*(2*c)+(2 ^ t - 1)).testBit j):=by
  conv=>lhs; rw[e1]
  exact af0 (by rw[e1]at h; omega) j
 rw[e2,Nat.testBit_two_pow_mul,agc _ (by omega),ae6];rcases afO j t with hj | hj | hj
 ·rw[adf (by omega:¬ j>=t),adf (by omega:¬ t=j)]; rfl
 ·subst hj;rw[if_neg (by omega),adQ,ade (ads _),ade ht,ade rfl];have a1:(2*c+1).testBit 0=true:=by rw[afX]; simp
  have a2:(2*c).testBit 0=false:=by rw[afX]; simp
  rw[a1,a2]; rfl
 ·obtain⟨k,hk⟩:∃ k,j - t=k+1:=⟨j - t - 1,by omega⟩
  rw[if_neg (by omega),hk,ade (by omega:j>=t),adf (by omega:¬ t=j),afY,afY];have a1:(2*c+1) / 2=c:=by omega
  have a2:2*c / 2=c:=by omega
  rw[a1,a2];cases c.testBit k <;> simp
theorem LY:∀ t:Fin 32,(inR (Int.fdiv (IntKind.wrap .u32 (((2 ^ t.val:Nat):Int)*125613361)) (2 ^ 27)) 32=true)/\(List.getD wP (Int.toNat (Int.fdiv (IntKind.wrap .u32 (((2 ^ t.val:Nat):Int)*125613361)) (2 ^ 27))) 0=(t.val:Int)):=by decide +kernel
theorem KL (N:Nat) {t c:Nat} (h:2 ^ t*(2*c+1)<4294967296) (k:Kz2):Q2 N ((2 ^ t*(2*c+1):Nat):Int) k=k (t:Int):=by
 have h32:(2:Nat) ^ 32=4294967296:=by decide
 have ht0:0<2 ^ t:=adt t;have hx0:0<2 ^ t*(2*c+1):=afe ht0 (by omega);have ht:t<32:=by
  rcases aef t 32 with h1 | h1
  ·exact h1
  ·have h2:2 ^ 32<=2 ^ t:=adv (by decide) h1;have h3:2 ^ t*1<=2 ^ t*(2*c+1):=adn _ (by omega);omega
 (unfold Q2; rw[ac]; unfold Md)
 have ha:=Hl (t:=t) (c:=c) (by omega);rw[h32]at ha;generalize 2 ^ t*(2*c+1)=x at *;have e0:((x:Int)==0)=false:=by simp; omega
 have ew:IntKind.wrap .u32 (0 - (x:Int))=((4294967296 - x:Nat):Int):=by rw[dk]; omega
 obtain⟨t1,t2⟩:=LY ⟨t,ht⟩;rw[e0,adg,ew,wS h (by omega),ha,aa t1,t2,aa adb]
theorem Kb {t c:Nat}:2 ^ t*(2*c+1) / 4294967296 ^ (t / 32)%4294967296=2 ^ (t%32)*(2*(c%2 ^ (31 - t%32))+1):=by
 have hs1:2 ^ (t%32)*2 ^ (32 - t%32)=4294967296:=by rw[<- ady,show t%32+(32 - t%32)=32 by omega]
 rw[uA t,adq,adP _ (aQ _),<- hs1,ae2];congr 1;have e1:2 ^ (32 - t%32)=2*2 ^ (31 - t%32):=by rw[show 32 - t%32=(31 - t%32)+1 by omega,adr,adi]
 rw[e1];have e2:=afq c (2 ^ (31 - t%32));generalize 2 ^ (31 - t%32)=P at *;generalize c / P=q at *;have hP:c%P<P\/P=0:=by
  rcases aez P with h | h
  ·exact .inr h
  ·exact .inl (adu _ h)
 generalize c%P=r at *;have e3:2*c+1=(2*r+1)+2*P*q:=by rw[<- e2]; grind
 rw[e3,aew];rcases hP with h | h
 ·exact adp (by omega)
 ·subst h; simp
theorem Eu {t c i:Nat} (hi:i<t / 32):2 ^ t*(2*c+1) / 4294967296 ^ i%4294967296=0:=by
 have e:2 ^ t*(2*c+1)=4294967296 ^ (i+1)*(4294967296 ^ (t / 32 - (i+1))*(2 ^ (t%32)*(2*c+1))):=by rw[uA t,<- adq,<- ady,show i+1+(t / 32 - (i+1))=t / 32 by omega,adq]
 rw[e,adr,adq,adP _ (aQ i),ago]
theorem yk {N:Nat} {t c:Nat} (g:Bool) (hN:fi N (ai (2 ^ t*(2*c+1)))) (ht:t<140737488355328) (k:Kz2):sQ5 N g (ai (2 ^ t*(2*c+1))) k=k (t:Int):=by
 (unfold sQ5; rw[ac]; unfold GQ5)
 obtain⟨n1,n2⟩:=hN;have hd:=Kb (t:=t) (c:=c);have hgd:=λi=>l_ i (2 ^ t*(2*c+1))
 have hlt:2 ^ t*(2*c+1) / 4294967296 ^ (t / 32)%4294967296<4294967296:=adu _ (by decide);have hwl:t / 32<(ai (2 ^ t*(2*c+1))).length:=by
  refine Gx λh=>?_
  rw[h,Nat.zero_mod]at hd;have:=afe (adt (t%32)) (show 0<2*(c%2 ^ (31 - t%32))+1 by omega);omega
 have hbel:=λi=>Eu (t:=t) (c:=c) (i:=i)
 generalize ai (2 ^ t*(2*c+1))=l at *;refine aC (λi=>(i:Int)) (t / 32) rfl (by omega) (λi hi K=>?_) (λK=>?_)
 ·simp only[G2,adk];have hz:(l.getD i 0 != 0)=false:=by rw[hgd,hbel i hi]; rfl
  rw[ade (by omega:(i:Int)<((l.length:Nat):Int)),adh,aa adc,hz,adg,aa adb];rfl
 ·simp only[G2,adk];have hp:=afe (adt (t%32)) (show 0<2*(c%2 ^ (31 - t%32))+1 by omega);have hz:(l.getD (t / 32) 0 != 0)=true:=by rw[hgd,hd]; simp only[bne_iff_ne,ne_eq]; omega
  rw[ade (by omega:((t / 32:Nat):Int)<((l.length:Nat):Int)),adh,aa adc,hz,adh,aa adb,aa adc,hgd,hd,KL N (by rw[<- hd]; exact hlt),aa adb];congr 1;rw[am]; omega
def krR (z:Int) (d:Nat) (k:Kx5):Bool:=k (decide (z<0)) (ai z.natAbs) false (ai d)
def kqR (x:Rat) (k:Kx5):Bool:=krR x.num x.den k
theorem KC (g:Bool) (n d:Nat) (k:Kx5):k (sg g n) (ai n) false (ai d)=krR (aS g n) d k:=sa g n (λa b=>k a b false (ai d))
theorem pL {B n:Nat} (hB:B<=2000000000100) (h:aP B n):(ai n).length<=62500000006:=by have:=xz h; omega
theorem pw {N B n:Nat} (hF:Fuel N) (hB:B<=2000000000100) (h:aP B n):fi N (ai n):=by have h1:=pL hB h;have:=hF.lt;exact⟨by omega,by omega⟩
theorem Fm (g:Bool) (n d:Nat) (h0:0<d):(mkRat (aS g n) d).num=aS g (n / Nat.gcd n d)/\(mkRat (aS g n) d).den=d / Nat.gcd n d:=by
 have e:(aS g n).natAbs=n:=by unfold aS; cases g <;> simp
 have hg:0<Nat.gcd n d:=ael _ h0;constructor
 ·rw[agt,if_neg (by omega),e,aev];have hh:((Nat.gcd n d:Nat):Int) ≠ 0:=by omega
  have e2:aS g n=((Nat.gcd n d:Nat):Int)*aS g (n / Nat.gcd n d):=by
   have hnn:n=Nat.gcd n d*(n / Nat.gcd n d):=(Nat.mul_div_cancel' (ad6 n d)).symm;have hc:(n:Int)=((Nat.gcd n d:Nat):Int)*((n / Nat.gcd n d:Nat):Int):=by rw[<- adB,<- hnn]
   unfold aS;cases g
   ·simpa using hc
   ·simp only[aeQ]; rw[hc,aga]
  rw[e2,afd _ hh]
 ·rw[agu,if_neg (by omega),e,aev]
theorem EO (g:Bool) (n m:Nat):aS g (n*m)=aS g n*(m:Int):=by
 unfold aS; cases g
 ·simp
 ·simp[ags]
theorem Rr {t c u e:Nat} (h:2 ^ (u - min t u)*(2*e+1)<2 ^ (u - min t u+1)):Nat.gcd (2 ^ (t - min t u)*(2*c+1)) (2 ^ (u - min t u)*(2*e+1))=1:=by
 have he:e=0:=by
  rcases aez e with h1 | h1
  ·exact h1
  ·have:2 ^ (u - min t u)*2<=2 ^ (u - min t u)*(2*e+1):=adn _ (by omega);rw[adr]at h; omega
 subst he;rw[aeC,adJ,ae5];rcases Nat.le_total t u with h1 | h1
 ·rw[aeH h1,adQ,ae_,afj];refine Nat.Coprime.pow_right _ ?_;show Nat.gcd (2*c+1) 2=1;rw[aev,agf];have:(2*c+1)%2=1:=by omega
  rw[this]; rfl
 ·rw[Nat.min_eq_right h1,adQ,ae_,Nat.gcd_one_right]
theorem D0 {t m c:Nat} (h:m<=t):2 ^ t*(2*c+1) / 2 ^ m=2 ^ (t - m)*(2*c+1):=by
 have:2 ^ t=2 ^ m*2 ^ (t - m):=by rw[<- ady]; congr 1; omega
 rw[this,adq,adP _ (adt m)]
theorem G4 {B t c:Nat} (h:aP B (2 ^ t*(2*c+1))):t<B:=by
 unfold aP at h;have h1:2 ^ t*1<=2 ^ t*(2*c+1):=adn _ (by omega);have h2:2 ^ t<2 ^ B:=by omega
 exact(Nat.pow_lt_pow_iff_right (by decide)).1 h2
theorem QJ {t c:Nat}:bl (2 ^ t*(2*c+1))=t+1↔2 ^ t*(2*c+1)<2 ^ (t+1):=by
 have hp:=adt t;have h0:2 ^ t*(2*c+1) ≠ 0:=by have:=afe hp (show 0<2*c+1 by omega); omega
 constructor
 ·intro h; have:=vX (2 ^ t*(2*c+1)); rwa [h]at this
 ·intro h;have h1:=ub h;have h2:=vX (2 ^ t*(2*c+1));have h3:2 ^ t*1<=2 ^ t*(2*c+1):=adn _ (by omega);have h4:2 ^ t<2 ^ bl (2 ^ t*(2*c+1)):=by omega
  have:=(Nat.pow_lt_pow_iff_right (by decide:1<2)).1 h4;omega
theorem fY {N B n:Nat} (hF:Fuel N) (hB:B<=2000000000100) (h:aP B n) (k:Kz6):kJ N (ai n) k=k (ai n):=by have h1:=pL hB h;have:=hF.lt;rw[Gs _ (aX n) (by omega) (by omega),aH]
theorem Aq {N B:Nat} (hF:Fuel N) (hB:B<=2000000000100) (g:Bool) {n d:Nat} (hn:aP B n) (hd:aP B d) (hn0:n ≠ 0) (hd0:d ≠ 0) (J:List Int->List Int->Bool) (k:Kx5)
  (hJ:∀ a b:Nat,aP B a->aP B b->J (ai a) (ai b)=k (sg g a) (ai a) false (ai b)) :
  (sQ5 N false (ai n) (λ(nr:Int)=>(sQ5 N false (ai d) (λ(Ut:Int)=>
   (zF N (ai n) (cond (decide (Ut<nr)) Ut nr) (λ(UL:List Int)=>(zF N (ai d) (cond (decide (Ut<nr)) Ut nr) (λ(UI:List Int)=>(sQ5 N false UI (λ(Ux:Int)=>((ah .i64 Ux)&&(IC N false UI (λ(UK:Int)=>((ah .i64 (UK - 1))&&(cond (Ux != (UK - 1)) (DG N UL UI (λ(s6:List Int)=>(pS N (λ(s7:List Int)=>(wF N s6 s7 (λ(UP:Int)=>(cond (UP != 0) (oe N UL s6 (λ(s8:List Int) (s9:List Int)=>(oe N UI s6 (λ(s10:List Int) (s11:List Int)=>(J s8 s10))))) (J UL UI)))))))) (J UL UI))))))))))))))))
   = kqR (mkRat (aS g n) d) k:=by
 have hl:=hF.lt;have hbig:=hF.big;obtain⟨t,c,hnt⟩:=yE n hn0;obtain⟨u,e,hdu⟩:=yE d hd0;have htB:t<B:=G4 (by rw[<- hnt]; exact hn);have huB:u<B:=G4 (by rw[<- hdu]; exact hd);have sn:=pw hF hB hn;have sd:=pw hF hB hd;have ln:=pL hB hn;have ld:=pL hB hd;have z1:=λkk=>yk (N:=N) (t:=t) (c:=c) false (by rw[<- hnt]; exact sn) (by omega) kk
 have z2:=λkk=>yk (N:=N) (t:=u) (c:=e) false (by rw[<- hdu]; exact sd) (by omega) kk
 rw[<- hnt]at z1;rw[<- hdu]at z2;rw[z1,z2];obtain⟨m,hm⟩:∃ m,m=min t u:=⟨_,rfl⟩
 have em:cond (decide ((u:Int)<(t:Int))) (u:Int) (t:Int)=(m:Int):=by
  by_cases h:u<t
  ·rw[ade (by omega),adh,hm,Nat.min_eq_right (by omega)]
  ·rw[adf (by omega),adg,hm,aeH (by omega)]
 rw[em,oV (by omega) ⟨by omega,by omega⟩,oV (by omega) ⟨by omega,by omega⟩];have ha:n / 2 ^ m=2 ^ (t - m)*(2*c+1):=by rw[hnt]; exact D0 (by rw[hm]; exact Nat.min_le_left _ _)
 have hb:d / 2 ^ m=2 ^ (u - m)*(2*e+1):=by rw[hdu]; exact D0 (by rw[hm]; exact agx _ _)
 have hbn:aP B (n / 2 ^ m):=bS hn;have hbd:aP B (d / 2 ^ m):=bS hd;have hmk:mkRat (aS g n) d=mkRat (aS g (n / 2 ^ m)) (d / 2 ^ m):=by
  have e1:n=n / 2 ^ m*2 ^ m:=by
   rw[ha,hnt,agj,<- ady];congr 2; have:m<=t:=by rw[hm]; exact Nat.min_le_left _ _
   omega
  have e2:d=d / 2 ^ m*2 ^ m:=by
   rw[hb,hdu,agj,<- ady];congr 2; have:m<=u:=by rw[hm]; exact agx _ _
   omega
  conv=>lhs; rw[e1,e2,EO]
  rw[Rat.mkRat_mul_right (by have:=adt m; omega)]
 rw[hmk];obtain⟨a,hae⟩:∃ a,a=n / 2 ^ m:=⟨_,rfl⟩
 obtain⟨b,hbe⟩:∃ b,b=d / 2 ^ m:=⟨_,rfl⟩
 rw[<- hae]at ha hbn ⊢;rw[<- hbe]at hb hbd ⊢;have hb0:0<b:=by rw[hb]; exact afe (adt _) (by omega)
 have z3:=λkk=>yk (N:=N) (t:=u - m) (c:=e) false (by rw[<- hb]; exact pw hF hB hbd) (by omega) kk
 rw[<- hb]at z3;have hblb:bl b<=B:=ub hbd;have hbl0:0<bl b:=(JW (by omega)).1;rw[z3,aa adb,yf false b (pw hF hB hbd),aa adb];obtain⟨i1,i2⟩:=Fm g a b hb0;unfold kqR;rw[i1,i2];have fin1:Nat.gcd a b=1->J (ai a) (ai b)=krR (aS g (a / Nat.gcd a b)) (b / Nat.gcd a b) k:=by intro h;rw[hJ a b hbn hbd,KC _ _ _ k,h,ae7,ae7]
 by_cases hp:bl b=u - m+1
 ·have:(((u - m:Nat):Int) != (bl b:Int) - 1)=false:=by simp; omega
  rw[this,adg];refine fin1 ?_;rw[ha,hb,hm];refine Rr ?_;rw[<- hm];rw[hb]at hp;exact QJ.1 hp
 ·have:(((u - m:Nat):Int) != (bl b:Int) - 1)=true:=by simp; omega
  have la:=pL hB hbn;have lb:=pL hB hbd;have hgp:0<Nat.gcd a b:=ael _ hb0;have hgb:aP B (Nat.gcd a b):=kQ hbd (afg _ hb0);have lg:=pL hB hgb;have e1:ai 1=[1]:=rI (by decide) (by decide);rw[this,adh,EX hbig (hF.sum (by omega) hbn hbd) (by omega) (by omega)];unfold pS F2;dsimp only;rw[<- e1,jz _ 1 ⟨by omega,by omega⟩ ⟨by rw[e1]; simp; omega,by rw[e1]; simp⟩];by_cases hc:Nat.gcd a b=1
  ·have:(dC (Nat.gcd a b) 1 != 0)=false:=by rw[hc]; rfl
   rw[this,adg];exact fin1 hc
  ·have:(dC (Nat.gcd a b) 1 != 0)=true:=by unfold dC; rw[if_neg (by omega),if_neg hc]; rfl
   rw[this,adh,rT hbig hgp (by omega) (by omega),rT hbig hgp (by omega) (by omega),hJ _ _ (bS hbn) (bS hbd),KC _ _ _ k]
theorem Cq {α:Type} (c:Bool) (f:α->Bool) (a b:α):cond c (f a) (f b)=f (cond c a b):=by cases c <;> rfl
theorem rR {N B:Nat} (hF:Fuel N) (hB:B<=2000000000100) (g:Bool) {n d:Nat} (hn:aP B n) (hd:aP B d) (hd0:d ≠ 0) (b1 b2:Bool) (k:Kx5) :
  Iy N g (ai n) (ai d) b1 b2 k=kqR (mkRat (aS g n) d) k:=by
 have hl:=hF.lt;have hJ:∀ a b:Nat,aP B a->aP B b -> ∀ x y,Hg N g x y b1 b2 (ai a) (ai b) k=k (sg g a) (ai a) false (ai b):=by
  intro a b ha hb x y;unfold Hg DF Jn;rw[fY hF hB ha];unfold DK JH;dsimp only;rw[fY hF hB hb,fY hF hB hb];cases g
  ·rfl
  ·simp only[l3,sg,aek]; rfl
 (unfold Iy; rw[ac]; unfold OJ)
 by_cases h0:n=0
 ·subst h0;rw[aT];show DF N false [] b1 b2 _=_;have e0:aS g 0=0:=by unfold aS; cases g <;> rfl
  unfold DF Jn;rw[<- aT,fY hF (B:=10) (by decide) (by unfold aP; decide)];unfold pS F2 DK JH;have e1:ai 1=[1]:=rI (by decide) (by decide);dsimp only;rw[<- e1,fY hF (B:=10) (by decide) (by unfold aP; decide),fY hF (B:=10) (by decide) (by unfold aP; decide),e0,Rat.zero_mkRat];rfl
 ·have e0:((((ai n).length:Nat):Int)==0)=false:=by rw[ce h0]; simp; omega
  rw[e0,adg];have:=Aq hF hB g hn hd h0 hd0 (λx y=>Hg N g (ai n) (ai d) b1 b2 x y k) k (λa b ha hb=>hJ a b ha hb _ _);rw[<- this];congr 1; funext nr; congr 1; funext Ut;exact Cq (decide (Ut<nr)) (λz=>JI N g (ai n) (ai d) b1 b2 z k) Ut nr
theorem E3 {N B:Nat} (hF:Fuel N) (hB:B<=2000000000100) (g:Bool) {n d:Nat} (hn:aP B n) (hd:aP B d) (hd0:d ≠ 0) (b1 b2:Bool) (l1 l2:List Int) (k:Kx5) :
  Rh N g (ai n) (ai d) b1 l1 b2 l2 k=kqR (mkRat (aS g n) d) k:=by
 have hl:=hF.lt;have hJ:∀ a b:Nat,aP B a->aP B b -> ∀ x y,Hh N g x y b1 l1 b2 l2 (ai a) (ai b) k=k (sg g a) (ai a) false (ai b):=by
  intro a b ha hb x y;unfold Hh DB I7;rw[fY hF hB ha];unfold DK JH;dsimp only;rw[fY hF hB hb,fY hF hB hb];cases g
  ·rfl
  ·simp only[l3,sg,aek]; rfl
 (unfold Rh; rw[ac]; unfold O8)
 by_cases h0:n=0
 ·subst h0;rw[aT];show DB N false [] b1 l1 b2 l2 _=_;have e0:aS g 0=0:=by unfold aS; cases g <;> rfl
  unfold DB I7;rw[<- aT,fY hF (B:=10) (by decide) (by unfold aP; decide)];unfold pS F2 DK JH;have e1:ai 1=[1]:=rI (by decide) (by decide);dsimp only;rw[<- e1,fY hF (B:=10) (by decide) (by unfold aP; decide),fY hF (B:=10) (by decide) (by unfold aP; decide),e0,Rat.zero_mkRat];rfl
 ·have e0:((((ai n).length:Nat):Int)==0)=false:=by rw[ce h0]; simp; omega
  rw[e0,adg];have:=Aq hF hB g hn hd h0 hd0 (λx y=>Hh N g (ai n) (ai d) b1 l1 b2 l2 x y k) k (λa b ha hb=>hJ a b ha hb _ _);rw[<- this];congr 1; funext nr; congr 1; funext Ut;exact Cq (decide (Ut<nr)) (λz=>JJ N g (ai n) (ai d) b1 l1 b2 l2 z k) Ut nr
theorem EU {N:Nat} (a:Bool) (l:List Int) (b:Bool) {d:Nat} (hd:d ≠ 0) (k:Kz6):Lo N a l b (ai d) k=k (ai d):=by
 (unfold Lo; rw[ac]; unfold Ji)
 have:((((ai d).length:Nat):Int)==0)=false:=by rw[ce hd]; simp; omega
 rw[this]; rfl
theorem ft {N:Nat} (a:Bool) (l:List Int) (b:Bool) {d:Nat} (hd:d ≠ 0) (k:Kz6):zB N a l b (ai d) k=k (ai d):=by
 (unfold zB; rw[ac]; unfold OB)
 have:((((ai d).length:Nat):Int)==0)=false:=by rw[ce hd]; simp; omega
 rw[this]; rfl
theorem mD {N B:Nat} (hF:Fuel N) (hB:B<=2000000000100) {a b:Nat} (ha:aP B a) (hb:aP B b) (k:Kz6):pQ N (ai a) (ai b) k=k (ai (a*b)):=by have h1:=pL hB ha;have h2:=pL hB hb;have:=hF.lt;rw[vw _ _ (aX _) (aX _) (by omega) (by omega),aH,aH]
theorem KQ {N B:Nat} (hF:Fuel N) (hB:B<=1000000000000) {x y:Rat} (hx:Bq B x) (hy:Bq B y) (b1 b2:Bool) (k:Kx5) :
  Q4 N b1 b2 (decide (x.num<0)) (ai x.num.natAbs) false (ai x.den) (decide (y.num<0)) (ai y.num.natAbs) false (ai y.den) k=kqR (x*y) k:=by
 (unfold Q4; rw[ac]; unfold OE)
 have hB2:B<=2000000000100:=by omega
 rw[mD hF hB2 hx.1 hy.1,ft _ _ _ x.den_nz,ft _ _ _ y.den_nz,mD hF hB2 hx.2 hy.2,
  rR hF (B:=B+B) (by omega) _ (dB hx.1 hy.1) (dB hx.2 hy.2) (agB x.den_nz y.den_nz),yb,iq,iq,<- Rat.mul_def']
theorem KU {N B:Nat} (hF:Fuel N) (hB:B<=1000000000000) {x y:Rat} (hx:Bq B x) (hy:Bq B y) (h0:y.num ≠ 0) (b1 b2:Bool) (k:Kx5) :
  Q5 N b1 b2 (decide (x.num<0)) (ai x.num.natAbs) false (ai x.den) (decide (y.num<0)) (ai y.num.natAbs) false (ai y.den) k=kqR (x / y) k:=by
 (unfold Q5; rw[ac]; unfold OG)
 have hB2:B<=2000000000100:=by omega
 obtain⟨i1,i2,i3⟩:=xZ h0;rw[ft _ _ _ y.den_nz,mD hF hB2 hx.1 hy.2,ft _ _ _ x.den_nz,mD hF hB2 hx.2 hy.1,
  rR hF (B:=B+B) (by omega) _ (dB hx.1 hy.2) (dB hx.2 hy.1) (agB x.den_nz (by omega)),yb,iq,Rat.div_def,Rat.mul_def',i2]
 have:aS (decide (y.num<0)) y.den=(y⁻¹).num:=by rw[<- i3,<- i1,iq]
 rw[this]
theorem K1 {N B:Nat} (hF:Fuel N) (hB:B<=1000000000000) {x y:Rat} (hx:Bq B x) (hy:Bq B y) (k:Kx5) :
  Q6 N (decide (x.num<0)) (ai x.num.natAbs) false (ai x.den) (decide (y.num<0)) (ai y.num.natAbs) false (ai y.den) k=kqR (x - y) k:=by
 (unfold Q6; rw[ac]; unfold OL; unfold SB; rw[ac]; unfold Pe)
 have hB2:B<=2000000000100:=by omega
 have ha:=dB hx.1 hy.2;have hb:=dB hy.1 hx.2;have hB3:B+B+1<=2000000000100:=by omega
 rw[ft _ _ _ y.den_nz,mD hF hB2 hx.1 hy.2,ft _ _ _ x.den_nz,mD hF hB2 hy.1 hx.2];dsimp only;rw[ft _ _ _ x.den_nz,ft _ _ _ y.den_nz,mD hF hB2 hx.2 hy.2,
  HT false _ _ _ _ (pw hF (by omega) ha) (pw hF (by omega) hb) (pw hF hB3 (ua ha hb)),qJ,qJ]
 unfold sw;dsimp only;have hz:aP (B+B+1) (x.num*(y.den:Int) - y.num*(x.den:Int)).natAbs:=by
  refine kQ (ua ha hb) ?_;have e1:(x.num*(y.den:Int)).natAbs=x.num.natAbs*y.den:=by rw[ae4,aea]
  have e2:(y.num*(x.den:Int)).natAbs=y.num.natAbs*x.den:=by rw[ae4,aea]
  omega
 rw[E3 hF hB3 _ hz (bK (dB hx.2 hy.2) (by omega)) (agB x.den_nz y.den_nz),iq,<- Rat.sub_def']
theorem vv {N:Nat} (x:Rat) (k:Kz2):DE N (decide (x.num<0)) (ai x.num.natAbs) false (ai x.den) k=k (uH x.num):=by
 (unfold DE NI; unfold AE; rw[ac]; unfold uX uH)
 by_cases h0:x.num=0
 ·rw[h0,if_pos rfl];have:ai (0:Int).natAbs=[]:=aT;rw[this]; rfl
 ·have:((((ai x.num.natAbs).length:Nat):Int)==0)=false:=by rw[ce (by omega)]; simp; omega
  rw[this,adg,if_neg h0];by_cases h:x.num<0
  ·rw[ade h,adh,if_pos h]
  ·rw[adf h,adg,if_neg h]
theorem wa (n:Nat):bM (ai n) (ai n).length=(ai n).length:=Ct n
theorem KI {N B:Nat} (hF:Fuel N) (hB:B<=2000000000100) {x:Rat} (hx:Bq B x) (b1 b2:Bool) (l1 l2:List Int) (k:Kx5) :
  Lk N (decide (x.num<0)) (ai x.num.natAbs) false (ai x.den) b1 l1 b2 l2 k=kqR x k:=by
 (unfold Lk; rw[ac]; unfold IX)
 have h1:=pL hB hx.1;have h2:=pL hB hx.2;have hl:=hF.lt;rw[ad4,aa (ade (by omega)),EU _ _ _ x.den_nz,ad4,aa (ade (by omega))];unfold pU pD Om NM;rw[kD _ (by omega) (by omega),wa];dsimp only;rw[kD _ (by omega) (by omega),kD _ (by omega) (by omega),wa];have e1:(List.take (ai x.num.natAbs).length (List.drop 0 (ai x.num.natAbs)))=ai x.num.natAbs:=by simp
 have e2:(List.take (ai x.den).length (List.drop 0 (ai x.den)))=ai x.den:=by simp
 have e3:decide (0+(ai x.num.natAbs).length<=(ai x.num.natAbs).length)=true:=ade (by omega);have e4:decide (0+(ai x.den).length<=(ai x.den).length)=true:=ade (by omega);rw[e1,e2,e3,e4];unfold kqR krR;by_cases h:x.num<0
 ·have:decide (((((ai x.num.natAbs).length:Nat):Nat):Int)>0)=true:=by rw[l3]; exact ade (by omega)
  rw[ade h,this]; rfl
 ·rw[adf h]; rfl
end Go.Proofs.YteifemaagdeomaaGreatDoor
end
